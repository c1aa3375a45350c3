import Derived.Test.YtfleamccglihoaaGreatDoorProg
import Derived.Shelf.SlSortCmp.NoneTotal
import Derived.Shelf.SlMaps.Clone
import Derived.Shelf.Spec.TrailingZeros
import Derived.Shelf.Strconv.Itoa0
import Derived.Shelf.Bits.Mul64
import Derived.Test.YtfleamccglihoaaGreatDoorMA
import Derived.Test.YtfleamccglihoaaGreatDoorMB
import Derived.Lib.BytesEntry
import Derived.Test.YtfleamccglihoaaGreatDoorMC
import Derived.LaidEql
open Go.IntKind (i64 u64)
set_option linter.unusedVariables false
namespace Go.Proofs
open Go.Shelf
def Tryz.qv:Go.Shelf.Ren:=⟨fun|6=>53|15=>98|14=>97|28=>135|29=>136|20=>127|21=>128|22=>129|23=>130|24=>131|25=>132|26=>133|27=>134|46=>152|47=>153|48=>154|49=>155|50=>156|57=>163|n=>n,fun|22=>33|24=>24|25=>106|3=>3|39=>150|0=>0|53=>182|55=>22|4=>4|46=>176|45=>175|50=>162|5=>5|9=>9|66=>204|70=>208|76=>215|77=>216|n=>n,fun|n=>n⟩
theorem Tryz.xI:Go.Proofs.SlLaysF0.n6 prog Tryz.qv:= {
 mixed:=by kernel_rfl
 f6:=⟨f53.name,by decide,func53.trans (congrArg some (by kernel_rfl))⟩
 f14:=⟨f97.name,by decide,func97.trans (congrArg some (by kernel_rfl))⟩
 f15:=func98.trans (congrArg some (by kernel_rfl))
 f20:=⟨f127.name,by decide,func127.trans (congrArg some (by kernel_rfl))⟩
 f21:=⟨f128.name,by decide,func128.trans (congrArg some (by kernel_rfl))⟩
 f22:=⟨Tryz.f129.name,by decide,func129.trans (congrArg some (by kernel_rfl))⟩
 f23:=⟨f130.name,by decide,func130.trans (congrArg some (by kernel_rfl))⟩
 f24:=⟨f131.name,by decide,func131.trans (congrArg some (by kernel_rfl))⟩
 f25:=⟨f132.name,by decide,func132.trans (congrArg some (by kernel_rfl))⟩
 f26:=⟨f133.name,by decide,func133.trans (congrArg some (by kernel_rfl))⟩
 f27:=⟨f134.name,by decide,func134.trans (congrArg some (by kernel_rfl))⟩
 f28:=func135.trans (congrArg some (by kernel_rfl))
 f29:=func136.trans (congrArg some (by kernel_rfl))
 f46:=⟨f152.name,by decide,func152.trans (congrArg some (by kernel_rfl))⟩
 f47:=func153.trans (congrArg some (by kernel_rfl))
 f48:=func154.trans (congrArg some (by kernel_rfl))
 f49:=⟨f155.name,by decide,func155.trans (congrArg some (by kernel_rfl))⟩
 f50:=⟨f156.name,by decide,func156.trans (congrArg some (by kernel_rfl))⟩
 f57:=⟨f163.name,by decide,func163.trans (congrArg some (by kernel_rfl))⟩
 t0:=underlying0
 a0:=isAgg0
 z0:=sizeOf0
 v0:=zeroValue0
 t3:=underlying3
 a3:=isAgg3
 z3:=sizeOf3
 v3:=zeroValue3
 t4:=underlying4
 a4:=isAgg4
 z4:=sizeOf4
 v4:=zeroValue4
 t5:=underlying5
 a5:=isAgg5
 z5:=sizeOf5
 v5:=zeroValue5
 t9:=underlying9
 a9:=isAgg9
 z9:=sizeOf9
 v9:=zeroValue9
 t22:=underlying33
 a22:=isAgg33
 z22:=sizeOf33
 v22:=zeroValue33
 t25:=underlying106
 a25:=isAgg106
 z25:=sizeOf106
 v25:=zeroValue106
 t39:=underlying150
 a39:=isAgg150
 z39:=sizeOf150
 v39:=zeroValue150
 t45:=underlying175
 a45:=isAgg175
 z45:=sizeOf175
 v45:=zeroValue175
 t46:=underlying176
 a46:=isAgg176
 z46:=sizeOf176
 v46:=zeroValue176
 t50:=underlying162
 a50:=isAgg162
 z50:=sizeOf162
 v50:=zeroValue162
 t53:=underlying182
 a53:=isAgg182
 z53:=sizeOf182
 v53:=zeroValue182
 t55:=underlying22
 a55:=isAgg22
 z55:=sizeOf22
 v55:=zeroValue22
 t66:=underlying204
 a66:=isAgg204
 z66:=sizeOf204
 v66:=zeroValue204
 t70:=underlying208
 a70:=isAgg208
 z70:=sizeOf208
 v70:=zeroValue208
 t76:=underlying215
 a76:=isAgg215
 z76:=sizeOf215
 v76:=zeroValue215
 t77:=underlying216
 a77:=isAgg216
 z77:=sizeOf216
 v77:=zeroValue216}
def Tryz.kF:Go.Shelf.Ren:=⟨fun|29=>159|n=>n,fun|22=>22|3=>3|4=>4|25=>150|54=>218|0=>0|5=>5|n=>n,fun|1=>1|n=>n⟩
theorem Tryz.tzL:Go.Proofs.Lays7.n29 prog Tryz.kF:= {
 mixed:=by kernel_rfl
 f29:=func159.trans (congrArg some (by kernel_rfl))
 t0:=underlying0
 a0:=isAgg0
 z0:=sizeOf0
 v0:=zeroValue0
 i0:=by kernel_rfl
 t3:=underlying3
 a3:=isAgg3
 z3:=sizeOf3
 v3:=zeroValue3
 i3:=by kernel_rfl
 t4:=underlying4
 a4:=isAgg4
 z4:=sizeOf4
 v4:=zeroValue4
 i4:=by kernel_rfl
 t5:=underlying5
 a5:=isAgg5
 z5:=sizeOf5
 v5:=zeroValue5
 i5:=by kernel_rfl
 t22:=underlying22
 a22:=isAgg22
 z22:=sizeOf22
 v22:=zeroValue22
 i22:=by kernel_rfl
 t25:=underlying150
 a25:=isAgg150
 z25:=sizeOf150
 v25:=zeroValue150
 i25:=by kernel_rfl
 t54:=underlying218
 a54:=isAgg218
 z54:=sizeOf218
 g1:=by kernel_rfl}
def Tryz.AK:Go.Shelf.Ren:=⟨fun|129=>136|n=>n,fun|53=>22|3=>3|4=>4|46=>150|5=>5|9=>9|n=>n,fun|n=>n⟩
theorem Tryz.KQ:Go.Proofs.Lays.n129 prog Tryz.AK:= {
 mixed:=by kernel_rfl
 f129:=func136.trans (congrArg some (by kernel_rfl))
 t3:=underlying3
 a3:=isAgg3
 z3:=sizeOf3
 v3:=zeroValue3
 t4:=underlying4
 a4:=isAgg4
 z4:=sizeOf4
 v4:=zeroValue4
 t5:=underlying5
 a5:=isAgg5
 z5:=sizeOf5
 v5:=zeroValue5
 t9:=underlying9
 a9:=isAgg9
 z9:=sizeOf9
 v9:=zeroValue9
 t46:=underlying150
 a46:=isAgg150
 z46:=sizeOf150
 v46:=zeroValue150
 t53:=underlying22
 a53:=isAgg22
 z53:=sizeOf22
 v53:=zeroValue22}
def Tryz.AJ:Go.Shelf.Ren:=⟨fun|264=>161|n=>n,fun|53=>22|46=>150|n=>n,fun|n=>n⟩
theorem Tryz.KP:Go.Proofs.Lays.n264 prog Tryz.AJ:= {
 mixed:=by kernel_rfl
 f264:=func161.trans (congrArg some (by kernel_rfl))
 t46:=underlying150
 a46:=isAgg150
 z46:=sizeOf150
 v46:=zeroValue150
 t53:=underlying22
 a53:=isAgg22
 z53:=sizeOf22
 v53:=zeroValue22}
end Go.Proofs
namespace Go.b0
open Go.RowKit
theorem lA.mono{P:Program}{l:Nat}{args:Array Value}{w:World}{R R':Bool->World->Prop}(h:lA P l args w R)(hr:∀b w',R b w'->R' b w'):lA P l args w R':=by
 obtain⟨g,tmps,assign,body,h1,h2⟩:=h;exact⟨g,tmps,assign,body,h1,fun r m=>RoundIn.mono (h2 r m) fun e w' ⟨b,he,hb⟩=>⟨b,he,hr _ _ hb⟩⟩
def iG(xs:List Value)(k:Nat)(vs:List Value):List Value:=xs.take k++vs++xs.drop (k+vs.length)
theorem rh(xs:List Value)(k:Nat):iG xs k []=xs:=by simp [iG]
theorem pI{xs:List Value}{k:Nat}(hk:k<xs.length)(v:Value)(vs:List Value):iG xs k (v::vs)=iG (xs.set k v) (k+1) vs:=by
 unfold iG;rw [List.take_add_one,List.take_set_of_le (Nat.le_refl k),List.getElem?_set_self hk,List.drop_set];rw [if_pos (by omega),List.length_cons,show k+(vs.length+1)=k+1+vs.length by omega];simp
theorem mJ{xs:List Value}{k:Nat}{vs:List Value}(h:k+vs.length<=xs.length):(iG xs k vs).length=xs.length:=by
 unfold iG;simp;omega
theorem vg{xs vs:List Value}(h:vs.length=xs.length):iG xs 0 vs=vs:=by
 unfold iG;simp [h]
section
variable{w:World}{B:Nat}{e:TypeId}{size n c b:Nat}
theorem rY:∀(vs:List Value) (xs:List Value) (w:World) (o i:Nat),Row w B e size (some ⟨b,0,none⟩) n c xs->o+i+vs.length<=xs.length->
 Row (setCells w ⟨b,o,none⟩ vs i) B e size (some ⟨b,0,none⟩) n c (iG xs (o+i) vs)
 | [],xs,w,o,i,h,_=>by rw [rh];exact h
 |v::vs,xs,w,o,i,h,hl=>by
  rw [List.length_cons]at hl;rw [pI (by omega)];simp only [setCells];rw [bD];have h1:=Row.set h (j:=o+i) (by omega) v;have:=rY vs (xs.set (o+i) v) _ o (i+1) h1 (by rw [List.length_set];omega)
  rwa [show o+(i+1)=o+i+1 by omega]at this
theorem hU:∀(vs:List Value) (w:World) (o i:Nat),Kept (· =b) w (setCells w ⟨b,o,none⟩ vs i)
 | [],w,o,i=>Kept.refl _ _
 |v::vs,w,o,i=>by
  simp only [setCells];rw [bD];exact(Kept.setCell (S:=fun k=>k=b) (Kept.refl _ w) (p:=⟨b,o+i,none⟩) (fun _=>rfl) v).tt (hU vs _ o (i+1))
theorem lj:∀(vs:List Value) (cur:Array Value) (w:World) (t:TypeId) (o i:Nat),w.heap[b]? =some (.cells cur t (0,0))->o+i+vs.length<=cur.size->
 (setCells w ⟨b,o,none⟩ vs i).heap[b]? =some (.cells (iG cur.toList (o+i) vs).toArray t (0,0))
 | [],cur,w,t,o,i,h,_=>by rw [rh];simpa [setCells]using h
 |v::vs,cur,w,t,o,i,h,hl=>by
  rw [List.length_cons]at hl;rw [pI (by simp;omega)];simp only [setCells];rw [bD];have h1:=du h (o+i) v;have:=lj vs _ _ t o (i+1) h1 (by simp;omega);rw [show o+(i+1)=o+i+1 by omega]at this;rw [this];simp
theorem iN{z cs:Array Value}{t:TypeId}(hz:z.size=cs.size):
 (∀j,j<cs.size->Wr (w.alloc (.cells z t)) ((aV w.heap.size).add j))/\
 (setCells (w.alloc (.cells z t)) ⟨w.heap.size,0,none⟩ cs.toList 0).heap[w.heap.size]? =some (.cells cs t (0,0))/\
 Kept Nil w (setCells (w.alloc (.cells z t)) ⟨w.heap.size,0,none⟩ cs.toList 0):=by
 refine⟨fun j hj=>?_,?_,?_⟩
 ·rw [bD,Nat.zero_add]
  exact dP (aM w _) (by omega)
 ·have h:=lj cs.toList z (w.alloc (.cells z t)) t 0 0 (aM w _) (by simp;omega)
  rw [h,vg (by simp [hz])]
 ·exact((Kept.refl Nil w).alloc _).trans (hU cs.toList _ 0 0) (fun k hk e=>absurd hk (by omega))
end
end Go.b0
namespace Go.b0
theorem ER:∀(vs:List Value) (off k:Nat) (cells:Array Value),off+k+vs.length<=cells.size->
 ((vs.zipIdx k).foldl (fun(cs:Array Value) (p:Value×Nat)=>cs.setIfInBounds (off+p.2) p.1) cells)=(iG cells.toList (off+k) vs).toArray
 | [],off,k,cells,_=>by rw [rh];simp
 |v::vs,off,k,cells,h=>by
  rw [List.length_cons]at h;rw [pI (by simp;omega),List.zipIdx_cons,List.foldl_cons];have:=ER vs off (k+1) (cells.setIfInBounds (off+k) v) (by simp;omega);rw [this,Array.toList_setIfInBounds];rfl
theorem jw{place:Nat->Option (Nat×Nat)}{cells:Array Value}{i off size:Nat}{v:Value}{rest:List (Nat×Value)}(hp:place i=some (off,size))(hs:v.cells.size=size)(hle:off+size<=cells.size):
 Instr.fill place cells ((i,v)::rest)=Instr.fill place (iG cells.toList off v.cells.toList).toArray rest:=by
 rw [Instr.fill,hp];simp only;rw [if_neg (by simp;omega)]
 congr 1
 have h:=ER v.cells.toList off 0 cells (by simp;omega);rw [Nat.add_zero]at h;rw [<-h,<-Array.foldl_toList,Array.toList_zipIdx]
def R8(P:Program)(t:TypeId):Option (List (Nat×Nat)×List Value):=
 match P.info? t,P.underlying t with
 |some it,some (.struct fields)=>
  match it.zero,fields.toList.mapM (fun f=>(P.info? f.type).map fun i=>(f.offset,i.size))with
  |some z,some places=>some (places,z.cells.toList)
  |_,_=>none
 |_,_=>none
theorem ow{P:Program}{t:TypeId}{pl:List (Nat×Nat)}{z:List Value}(h:R8 P t=some (pl,z))(parts:List (Nat×Value)):
 P.built t parts=Instr.fill (pl.toArray[·]?) z.toArray parts:=by
 unfold R8 at h;split at h
 ·rename_i it fields h1 h2
  split at h
  ·rename_i z' pl' h3 h4
   simp only [Option.some.injEq,Prod.mk.injEq]at h;obtain⟨rfl,rfl⟩:=h;unfold Program.built;rw [h1,h2];simp only [h3,h4]
  ·cases h
 ·cases h
def rr:List Nat->Array Value
 | []=> #[]
 |D::l=> #[.pointer (some ⟨D,0,none⟩)]++rr l
theorem om:∀l,marksOf (.agg (rr l))=l
 | []=>rfl
 |D::l=>by
  have ih:=om l;simp only [rr,marksOf]at*;simp [ih]
theorem mQ:∀(l:List Nat) (w:World),l.Nodup->(∀D∈l,w.heap[D]? =some (.deferred (some [])))->lP l w
 | [],_,_,_=>trivial
 |D::l,w,hn,h=>by
  rw [List.nodup_cons]at hn;refine⟨h D (by simp),mQ l _ hn.2 fun E hE=>?_⟩;have fW:D≠E:=fun e=>hn.1 (by rw [e];exact hE);exact(World.putObj_heap_other fW.symm).trans (h E (by simp [hE]))
theorem lf:∀(l:List Nat) (w:World),Kept (· ∈l) w (gV l w)
 | [],w=>Kept.refl _ w
 |D::l,w=>((Kept.putAt w D (.deferred none)).mono (S':=fun k=>k∈D::l) (fun k _ e=>by subst e;simp)).trans (lf l _) (fun k _ h=>by simp [h])
open Go.RowKit
section
variable{P:Program}{n:Nat}
end
end Go.b0
namespace Go.Proofs.YtfleamccglihoaaGreatDoor
open Go.Proofs.Tryz
open Go Go.b0 Go.RowKit
def RD(cs:Array Value):Prop:=cs.size=32/\∀v∈cs.toList,∃i:Int,v=.int .u8 i/\0<=i/\i<256
abbrev HT:= {cs:Array Value//RD cs}
def key(h:HT):List Int:=h.1.toList.map mI
theorem RD.ints{cs:Array Value}(h:RD cs):fp .u8 32 cs:=⟨h.1,fun v hv=>let ⟨i,e,_⟩:=h.2 v hv;⟨i,e⟩⟩
theorem AU:∀ {a b:List Value},(∀v∈a,∃i:Int,v=.int .u8 i)->(∀v∈b,∃i:Int,v=.int .u8 i)->a.map mI=b.map mI->a=b
 | [],[],_,_,_=>rfl
 | [],_::_,_,_,h=>by simp at h
 |_::_,[],_,_,h=>by simp at h
 |x::a,y::b,ha,hb,h=>by
  obtain⟨i,rfl⟩:=ha x (by simp);obtain⟨j,rfl⟩:=hb y (by simp);simp only [List.map_cons,List.cons.injEq,mI]at h;rw [h.1,AU (fun v hv=>ha v (by simp [hv])) (fun v hv=>hb v (by simp [hv])) h.2]
theorem key_inj{a b:HT}(h:key a=key b):a=b:=by
 apply Subtype.ext;apply Array.ext';exact AU (fun v hv=>a.2.ints.2 v hv) (fun v hv=>b.2.ints.2 v hv) h
instance:DecidableEq HT:=fun a b=>if h:key a=key b then isTrue (key_inj h)else isFalse fun e=>h (by rw [e])
theorem fy(a b:HT):fU a.1 b.1=decide (a=b):=by
 unfold fU;by_cases e:a=b
 ·subst e;simp
 ·rw [decide_eq_false e]
  have:¬(key a=key b):=fun h=>e (key_inj h);simpa [key]using this
theorem RD.one{cs:Array Value}(h:RD cs):∀v∈cs.toList,v.oneCell'=true:=fun v hv=>by
 obtain⟨i,rfl,_⟩:=h.2 v hv;rfl
def uT:List Int->List Int->Bool
 | [],[]=>false
 | [],_::_=>true
 |_::_,[]=>false
 |x::a,y::b=>if x<y then true else if y<x then false else uT a b
def di(a b:HT):Bool:=uT (key a) (key b)
theorem vH:∀a,uT a a=false
 | []=>rfl
 |x::a=>by simp [uT,vH a]
theorem xT:∀ {a b c},uT a b=true->uT b c=true->uT a c=true
 | [],[],_,h,_=>by simp [uT]at h
 | [],_::_,[],_,h=>by simp [uT]at h
 | [],_::_,_::_,_,_=>rfl
 |_::_,[],_,h,_=>by simp [uT]at h
 |_::_,_::_,[],_,h=>by simp [uT]at h
 |x::a,y::b,z::c,h,h'=>by
  simp only [uT]at*;by_cases h1:x<y
  ·by_cases h2:y<z
   ·rw [if_pos (by omega)]
   ·rw [if_neg h2]at h'
    by_cases h3:z<y
    ·rw [if_pos h3]at h';cases h'
    ·rw [if_pos (by omega)]
  ·rw [if_neg h1]at h
   by_cases h2:y<x
   ·rw [if_pos h2]at h;cases h
   ·rw [if_neg h2]at h
    by_cases h3:y<z
    ·rw [if_pos (by omega)]
    ·rw [if_neg h3]at h'
     by_cases h4:z<y
     ·rw [if_pos h4]at h';cases h'
     ·rw [if_neg h4]at h'
      rw [if_neg (by omega),if_neg (by omega)];exact xT h h'
theorem xU:∀ {a b},a.length=b.length->uT a b=false->uT b a=false->a=b
 | [],[],_,_,_=>rfl
 | [],_::_,h,_,_=>by simp at h
 |_::_,[],h,_,_=>by simp at h
 |x::a,y::b,hl,h,h'=>by
  simp only [uT]at*;by_cases h1:x<y
  ·rw [if_pos h1]at h;cases h
  ·rw [if_neg h1]at h
   by_cases h2:y<x
   ·rw [if_pos h2]at h';cases h'
   ·rw [if_neg h2]at h h'
    rw [if_neg h1]at h';have:x=y:=by omega
    rw [this,xU (by simpa using hl) h h']
theorem nz(a:HT):(key a).length=32:=by have:=a.2.1;simpa [key]using this
theorem qF{a b:HT}(h:di a b=false)(h':di b a=false):a=b:=key_inj (xU (by rw [nz,nz]) h h')
theorem lK{a b c:HT}(h:di a b=true)(h':di b c=true):di a c=true:=xT h h'
theorem jr(a:HT):di a a=false:=vH _
theorem tC{a b:HT}(h:di a b=true):di b a=false:=by
 cases h':di b a
 ·rfl
 ·have:=lK h h';rw [jr]at this;cases this
end Go.Proofs.YtfleamccglihoaaGreatDoor
namespace Go.Proofs.YtfleamccglihoaaGreatDoor
open Go.Proofs.Tryz
open Go Go.b0
def SS(l:List HT):Prop:=l.Pairwise fun a b=>di a b=true
theorem SS.nodup{l:List HT}(h:SS l):l.Nodup:=List.Pairwise.imp (fun {a b} nv e=>by subst e;rw [jr]at nv;cases nv) h
theorem SS.cons{x:HT}{l:List HT}:SS (x::l)↔(∀y∈l,di x y=true)/\SS l:=List.pairwise_cons
theorem zu:∀ {l m:List HT},SS l->SS m->(∀x,x∈l↔x∈m)->l=m
 | [],[],_,_,_=>rfl
 | [],y::m,_,_,h=>by have:=(h y).2 (by simp);simp at this
 |x::l,[],_,_,h=>by have:=(h x).1 (by simp);simp at this
 |x::l,y::m,hl,hm,h=>by
  rw [SS.cons]at hl hm;have nC:x=y:=by
   have h1:=(h x).1 (by simp);have h2:=(h y).2 (by simp);rcases List.mem_cons.1 h1 with h1|h1
   ·exact h1
   ·rcases List.mem_cons.1 h2 with h2|h2
    ·exact h2.symm
    ·have a:=hl.1 _ h2
     have b:=hm.1 _ h1;rw [tC a]at b;cases b
  subst nC
  congr 1
  refine zu hl.2 hm.2 fun z=>?_;have hz:=h z;constructor
  ·intro hzl
   rcases List.mem_cons.1 (hz.1 (by simp [hzl]))with e|e
   ·subst e;have:=hl.1 _ hzl;rw [jr]at this;cases this
   ·exact e
  ·intro hzm
   rcases List.mem_cons.1 (hz.2 (by simp [hzm]))with e|e
   ·subst e;have:=hm.1 _ hzm;rw [jr]at this;cases this
   ·exact e
def ins(x:HT):List HT->List HT
 | []=> [x]
 |y::l=>if di x y then x::y::l else if x=y then y::l else y::ins x l
theorem yQ(x z:HT):∀l,z∈ins x l↔z=x\/z∈l
 | []=>by simp [ins]
 |y::l=>by
  unfold ins;split
  ·simp
  ·split
   ·rename_i e;subst e;simp
   ·simp only [List.mem_cons,yQ x z l]
    constructor
    ·rintro(h|h|h)<;>simp [h]
    ·rintro(h|h|h)<;>simp [h]
theorem JM(x:HT):∀ {l:List HT},SS l->SS (ins x l)
 | [],_=>by simp [ins,SS]
 |y::l,h=>by
  have h':=SS.cons.1 h;unfold ins;split
  ·rename_i nC
   refine SS.cons.2 ⟨fun z hz=>?_,h⟩;rcases List.mem_cons.1 hz with rfl|hz
   ·exact nC
   ·exact lK nC (h'.1 _ hz)
  ·split
   ·exact h
   ·rename_i h1 h2
    refine SS.cons.2 ⟨fun z hz=>?_,JM x h'.2⟩;rcases(yQ x z l).1 hz with rfl|hz
    ·cases RE:di y z
     ·exact absurd (qF RE (by simpa using h1)).symm h2
     ·rfl
    ·exact h'.1 _ hz
def dB(l:List HT):List HT:=l.foldr ins []
theorem dV{z:HT}:∀ {l:List HT},z∈dB l↔z∈l
 | []=>by simp [dB]
 |x::l=>by
  have:= @dV z l;simp only [dB,List.foldr_cons,yQ,List.mem_cons]at this⊢;rw [this]
theorem jy:∀l:List HT,SS (dB l)
 | []=>List.Pairwise.nil
 |x::l=>JM x (jy l)
theorem D0{l m:List HT}(h:∀x,x∈l↔x∈m):dB l=dB m:=zu (jy l) (jy m) fun x=>by rw [dV,dV,h]
theorem yD{l m:List HT}(hs:SS l)(h:∀x,x∈l↔x∈m):l=dB m:=zu hs (jy m) fun x=>by rw [dV,h]
theorem Ew(x:HT):∀l,(ins x l).length<=l.length+1
 | []=>by simp [ins]
 |y::l=>by
  have:=Ew x l;unfold ins;split
  ·simp
  ·split<;>simp<;>omega
theorem ny:∀l:List HT,(dB l).length<=l.length
 | []=>by simp [dB]
 |x::l=>by
  have h1:=Ew x (dB l);have h2:=ny l;simp only [dB,List.foldr_cons,List.length_cons]at*;omega
theorem rz{x:HT}:∀ {l:List HT},x∉l->(ins x l).length=l.length+1
 | [],_=>by simp [ins]
 |y::l,h=>by
  simp only [List.mem_cons,not_or]at h;have:=rz h.2;unfold ins;split
  ·simp
  ·rw [if_neg h.1];simp;omega
theorem qP:∀ {l:List HT},l.Nodup->(dB l).length=l.length
 | [],_=>by simp [dB]
 |x::l,h=>by
  rw [List.nodup_cons]at h;have h2:=qP h.2;have:=rz (l:=dB l) (x:=x) (fun hm=>h.1 (dV.1 hm));simp only [dB,List.foldr_cons,List.length_cons]at*;omega
theorem ud{x:HT}:∀ {l:List HT},SS l->x∈l->(ins x l).length=l.length
 | [],_,h=>by simp at h
 |y::l,hs,h=>by
  have h':=SS.cons.1 hs;unfold ins;split
  ·rename_i nC
   rcases List.mem_cons.1 h with rfl|h
   ·rw [jr]at nC;cases nC
   ·have:=h'.1 _ h;rw [tC nC]at this;cases this
  ·split
   ·rfl
   ·rename_i h1 h2
    rcases List.mem_cons.1 h with rfl|h
    ·exact absurd rfl h2
    ·simp [ud h'.2 h]
theorem sn:∀ {l:List HT},(dB l).length=l.length->l.Nodup
 | [],_=>List.Pairwise.nil
 |x::l,h=>by
  have h2:=ny l;by_cases hm:x∈l
  ·have:=ud (jy l) (dV.2 hm)
   simp only [dB,List.foldr_cons,List.length_cons]at*;omega
  ·have h3:=rz (l:=dB l) (x:=x) (fun h=>hm (dV.1 h))
   simp only [dB,List.foldr_cons,List.length_cons]at*;exact List.nodup_cons.2 ⟨hm,sn (by simp only [dB];omega)⟩
theorem KA:dB []= []:=rfl
theorem oD(x:HT):dB [x]= [x]:=rfl
theorem zX{l:List HT}(h:SS l):dB l=l:=(yD h fun _=>Iff.rfl).symm
theorem JL{l:List HT}{x:HT}{k:Nat}(hs:SS l)(h1:∀y∈l.take k,di y x=true)(h2:∀y∈l.drop k,di x y=true):SS (l.take k++x::l.drop k):=by
 unfold SS at*;rw [<-List.take_append_drop k l,List.pairwise_append]at hs;rw [List.pairwise_append,List.pairwise_cons];refine⟨hs.1,⟨h2,hs.2.1⟩,fun y hy z hz=>?_⟩;rcases List.mem_cons.1 hz with rfl|hz
 ·exact h1 y hy
 ·exact hs.2.2 y hy z hz
theorem SS.get{l:List HT}(h:SS l){i j:Nat}(sH:i<j){x y:HT}(hx:l[i]? =some x)(hy:l[j]? =some y):di x y=true:=by
 obtain⟨h1,rfl⟩:=lgeS hx;obtain⟨h2,rfl⟩:=lgeS hy;exact List.pairwise_iff_getElem.1 h i j h1 h2 sH
theorem E6{l:List HT}{x:HT}(hs:SS l)(h:∀y∈l,di y x=true):SS (l++ [x]):=by
 have:=JL (k:=l.length) hs (x:=x) (by simpa using h) (by simp);simpa using this
def LE(l:List HT):Prop:=l.Pairwise fun a b=>di b a=false
theorem lt_of_le_ne{a b:HT}(h:di b a=false)(hn:a≠b):di a b=true:=by
 cases nv:di a b
 ·exact absurd (qF nv h) hn
 ·rfl
theorem tZ{a b c:HT}(h:di b a=false)(h':di b c=true):di a c=true:=by
 by_cases e:a=b
 ·subst e;exact h'
 ·exact lK (lt_of_le_ne h e) h'
theorem LE.get{l:List HT}(h:LE l){i j:Nat}(sH:i<j){x y:HT}(hx:l[i]? =some x)(hy:l[j]? =some y):di y x=false:=by
 obtain⟨h1,rfl⟩:=lgeS hx;obtain⟨h2,rfl⟩:=lgeS hy;exact List.pairwise_iff_getElem.1 h i j h1 h2 sH
theorem bP{l:List HT}{k:Nat}{x z:HT}(hx:l[k]? =some x):z∈l.take (k+1)↔z∈l.take k\/z=x:=by
 rw [List.take_add_one,hx];simp
open Go.RowKit
theorem fu(a:Addr)(k:Nat):(a.add k).block=a.block:=by unfold Addr.add;split<;>rfl
theorem aU{σ:Type}(e:σ->Env)(I:σ->World->Prop)(μ:σ->World->Nat)(s:σ)(w:World)(Q:aT)(l:Nat)(ρ:Env)(w':World):bW e I μ s w Q (.exit l) ρ w'=Q (.exit l) ρ w':=rfl
theorem iQ{σ:Type}(e:σ->Env)(I:σ->World->Prop)(μ:σ->World->Nat)(s:σ)(w:World)(Q:aT)(ρ:Env)(w':World):bW e I μ s w Q .ret ρ w'=Q .ret ρ w':=rfl
theorem iY{x:Int}(h0: -9223372036854775808<=x)(h1:x<9223372036854775808):i64.wrap x=x:=by
 simp only [IntKind.wrap,IntKind.bits,IntKind.signed];simp;omega
theorem Cells.aK{S:Nat->Prop}{w w':World}{a:Addr}{cs:Array Value}(h:Cells w a cs)(hk:Kept S w w')(hn:¬S a.block):Cells w' a cs:=
 fun j v hj=>hk.cell (h j v hj) (by rw [fu];exact hn)
theorem Cells.bV{w:World}{b:Nat}{cs:Array Value}{t:TypeId}{fr:Nat×Nat}(h:w.heap[b]? =some (.cells cs t fr)):Cells w ⟨b,0,none⟩ cs:=
 fun j v hj=>by rw [bD,Nat.zero_add,aE h];exact hj
structure HS(w:World)(A:Option Addr)(n:Nat)(l:List HT):Prop where
 len:l.length=n
 at_:∀(i:Nat) (h:HT),l[i]? =some h->∃a,A=some a/\a.block<w.heap.size/\Cells w (a.add (i*32)) h.1
theorem HS.aK{S:Nat->Prop}{w w':World}{A:Option Addr}{n:Nat}{l:List HT}(h:HS w A n l)(hk:Kept S w w')(hn:∀a,A=some a->¬S a.block):HS w' A n l:=⟨h.len,fun i x hi=>by
 obtain⟨a,h1,h2,h3⟩:=h.at_ i x hi;exact⟨a,h1,Nat.lt_of_lt_of_le h2 hk.size,Cells.aK h3 hk (by rw [fu];exact hn a h1)⟩⟩
theorem HS.same{w w':World}{A:Option Addr}{n:Nat}{l:List HT}(h:HS w A n l)(hk:Kept Nil w w'):HS w' A n l:=h.aK hk fun _ _ h=>h
section
variable{w:World}{K:Value->World->Prop}
theorem yJ{A:Option Addr}{n c:Nat}{l:List HT}(h:HT)(hl:HS w A n l)(hn:n<=1000000)(hK:∀w',Kept Nil w w'->K (.bool (decide (h∈l))) w'):
 bE prog dg.id #[.slice A n c,.agg h.1] w K:=by
 refine dg.of ?_;unfold dg.W;intro w3;have k3:Kept Nil w w3:=(Kept.refl Nil w).alloc _;have p7:w3.heap[w.heap.size]? =some (.cells h.1 al (0,0)):=aM w _;clear_value w3;have hlen:=hl.len;refine dg.cJ (I:=fun s w'=>∃i:Nat,s=(false,(i:Int))/\i<=n/\Kept Nil w3 w'/\h∉l.take i) (μ:=fun s _=>((n:Int)-s.2).toNat) (s:=(false,0)) ⟨0,rfl,Nat.zero_le _,Kept.refl _ _,by simp⟩ ?_;rintro s w' ⟨i,rfl,hi,kw,mG⟩;refine Split.dec (fun di=>?_) (fun gF=>?_)
 ·simp only at di
  have dW:i<n:=by omega
  obtain⟨x,hx⟩:∃x,l[i]? =some x:=⟨_,List.getElem?_eq_getElem (by omega)⟩;have kk:Kept Nil w w'.drew:=(k3.tt kw).drew;obtain⟨a,rfl,_,hc⟩:=(hl.same kk).at_ i x hx;intro w8;have k8:Kept Nil w3 w8:=kw.drew;refine⟨⟨by simp only;omega,by simp only;omega⟩,x.1,⟨x.2.1,hc⟩,h.1,⟨h.2.1,Cells.bV (k8.heap p7 (fun h=>h))⟩,⟨x.2.ints,h.2.ints⟩,?_⟩;rw [fy];have Rw:Kept Nil w w8:=kk;refine Split.dec (fun he=>?_) (fun he=>?_)
  ·have:=hK w8 Rw
   rw [decide_eq_true (by rw [<-he];exact List.mem_of_getElem? hx)]at this;exact this
  ·simp only
   rw [iY (x:=(i:Int)+1) (by omega) (by omega)];refine⟨(false,(i:Int)+1),rfl,⟨i+1,rfl,dW,k8,?_⟩,by simp only;omega⟩;rw [List.take_add_one,hx];simp only [Option.toList_some,List.mem_append,List.mem_singleton,not_or];exact⟨mG,fun e=>he e.symm⟩
 ·simp only at gF
  rw [aU,dg.dw];have:=hK w' (k3.tt kw);rw [List.take_of_length_le (by omega)]at mG;rw [decide_eq_false mG]at this;exact this
theorem xM{A A':Option Addr}{n n' c c':Nat}{l l':List HT}(hl:HS w A n l)(Nx:HS w A' n' l')(hn:n<=1000000)(hK:∀w',Kept Nil w w'->K (.bool (decide (l=l'))) w'):
 bE prog cD.id #[.slice A n c,.slice A' n' c'] w K:=by
 have hlen:=hl.len;have Bd:=Nx.len;refine cD.of ?_;by_cases fW:n=n'
 ·subst fW
  refine Split.no (by simp) ?_;refine cD.cJ (I:=fun s w'=>∃i:Nat,s=(false,(i:Int))/\i<=n/\Kept Nil w w'/\l.take i=l'.take i) (μ:=fun s _=>((n:Int)-s.2).toNat) (s:=(false,0)) ⟨0,rfl,Nat.zero_le _,Kept.refl _ _,by simp⟩ ?_;rintro s w' ⟨i,rfl,hi,kw,heq⟩;refine Split.dec (fun di=>?_) (fun gF=>?_)
  ·simp only at di
   have dW:i<n:=by omega
   obtain⟨x,hx⟩:∃x,l[i]? =some x:=⟨_,List.getElem?_eq_getElem (by omega)⟩;obtain⟨y,hy⟩:∃y,l'[i]? =some y:=⟨_,List.getElem?_eq_getElem (by omega)⟩;have kk:Kept Nil w w'.drew:=kw.drew;obtain⟨a,rfl,_,hc⟩:=(hl.same kk).at_ i x hx;obtain⟨a',rfl,_,uH⟩:=(Nx.same kk).at_ i y hy;intro w7;have k7:Kept Nil w w7:=kk;have hb:0<=(i:Int)/\(i:Int)<(n:Int):=⟨by omega,by omega⟩;refine⟨hb,x.1,⟨x.2.1,hc⟩,hb,y.1,⟨y.2.1,uH⟩,⟨x.2.ints,y.2.ints⟩,?_⟩;rw [fy];by_cases he:x=y
   ·refine Split.no (by simp [he]) ?_
    simp only;rw [iY (x:=(i:Int)+1) (by omega) (by omega)];refine⟨(false,(i:Int)+1),rfl,⟨i+1,rfl,dW,k7,?_⟩,by simp only;omega⟩;rw [List.take_add_one,List.take_add_one,hx,hy,heq,he]
   ·refine Split.yes (by simp [he]) ?_
    have:=hK w7 k7;rw [decide_eq_false (fun e=>he (by rw [e,hy]at hx;exact(Option.some.inj hx).symm))]at this;exact this
  ·simp only at gF
   rw [aU,cD.dw];have:=hK w' kw;rw [List.take_of_length_le (by omega),List.take_of_length_le (by omega)]at heq;rw [decide_eq_true heq]at this;exact this
 ·refine Split.yes (by simp;omega) ?_
  have:=hK w (Kept.refl _ _);rw [decide_eq_false (fun e=>fW (by rw [<-hlen,<-Bd,e]))]at this;exact this
end
def lW(a b:HT):Int:=if di a b then-1 else if di b a then 1 else 0
theorem vI:∀(i:Nat) (a b:List Int),a.take i=b.take i->uT a b=uT (a.drop i) (b.drop i)
 |0,a,b,_=>rfl
 |i+1,[],[],_=>rfl
 |i+1,[],y::b,h=>by simp at h
 |i+1,x::a,[],h=>by simp at h
 |i+1,x::a,y::b,h=>by
  simp only [List.take_succ_cons,List.cons.injEq]at h;obtain⟨rfl,h⟩:=h;simp only [uT,List.drop_succ_cons];rw [if_neg (by omega),if_neg (by omega)];exact vI i a b h
theorem yR{h:HT}{i:Nat}(hi:i<32):∃x:Int,h.1[i]? =some (.int .u8 x)/\(key h)[i]? =some x/\0<=x/\x<256:=by
 have hs:i<h.1.size:=by rw [h.2.1];exact hi
 obtain⟨x,hx,h1,h2⟩:=h.2.2 h.1[i] (by simp);refine⟨x,by rw [Array.getElem?_eq_getElem hs,hx],?_,h1,h2⟩;unfold key;rw [List.getElem?_map,Array.getElem?_toList,Array.getElem?_eq_getElem hs,hx];rfl
section
variable{w:World}{K:Value->World->Prop}
theorem tU(a b:HT)(hK:∀w',Kept Nil w w'->K (.int .i64 (lW a b)) w'):bE prog bT.id #[.agg a.1,.agg b.1] w K:=by
 refine bT.of ?_;unfold bT.W;intro w3 w4;have k3:Kept Nil w w3:=(Kept.refl Nil w).alloc _;have k4:Kept Nil w w4:=k3.alloc _;have C9:w4.heap[w.heap.size]? =some (.cells a.1 al (0,0)):=lu (aM w _) _;have ui:w4.heap[w3.heap.size]? =some (.cells b.1 al (0,0)):=aM w3 _;clear_value w4;refine bT.cJ (I:=fun s w'=>∃i:Nat,s=(0,(i:Int))/\i<=32/\Kept Nil w4 w'/\(key a).take i=(key b).take i) (μ:=fun s _=>(32-s.2).toNat) (s:=(0,0)) ⟨0,rfl,by omega,Kept.refl _ _,by simp⟩ ?_;rintro s w' ⟨i,rfl,hi,kw,heq⟩;refine Split.dec (fun jY=>?_) (fun gF=>?_)
 ·simp only at jY
  have dW:i<32:=by omega
  obtain⟨x,hx,kx,_⟩:=yR (h:=a) dW;obtain⟨y,hy,ky,_⟩:=yR (h:=b) dW;have e1:di a b=uT ((key a).drop i) ((key b).drop i):=vI i _ _ heq;have e2:di b a=uT ((key b).drop i) ((key a).drop i):=vI i _ _ heq.symm;have da:(key a).drop i=x::(key a).drop (i+1):=by
   obtain⟨h1,h2⟩:=lgeS kx;rw [List.drop_eq_getElem_cons h1,h2]
  have db:(key b).drop i=y::(key b).drop (i+1):=by
   obtain⟨h1,h2⟩:=lgeS ky;rw [List.drop_eq_getElem_cons h1,h2]
  rw [da,db]at e1 e2;simp only [uT]at e1 e2;intro w9;have k9:Kept Nil w4 w9:=kw.drew;clear_value w9;have hb:0<=(i:Int)/\(i:Int)<32:=⟨by omega,by omega⟩;have ca:∀ {w':World},Kept Nil w4 w'->w'.cell? ((aV w.heap.size).add ((i:Int).toNat*1))=some (.int .u8 x):=fun k=>by
   rw [bD,Nat.zero_add,Nat.mul_one,Int.toNat_natCast,aE (k.heap C9 (fun h=>h))];exact hx
  have cb:∀ {w':World},Kept Nil w4 w'->w'.cell? ((aV w3.heap.size).add ((i:Int).toNat*1))=some (.int .u8 y):=fun k=>by
   rw [bD,Nat.zero_add,Nat.mul_one,Int.toNat_natCast,aE (k.heap ui (fun h=>h))];exact hy
  refine⟨hb,x,ca k9,hb,y,cb k9,Split.dec (fun nC=>?_) (fun nC=>?_)⟩
  ·have:=hK w9 (k4.tt k9)
   rw [show lW a b= -1 by unfold lW;rw [e1,if_pos nC];rfl]at this;exact this
  ·intro nx
   have zy:Kept Nil w4 nx:=k9.drew;clear_value nx;refine⟨hb,x,ca zy,hb,y,cb zy,Split.dec (fun Ey=>?_) (fun Ey=>?_)⟩
   ·have:=hK nx (k4.tt zy)
    rw [show lW a b=1 by unfold lW;rw [e1,e2,if_neg nC,if_pos (show y<x from Ey),if_pos (show y<x from Ey)];rfl]at this;exact this
   ·simp only
    rw [iY (x:=(i:Int)+1) (by omega) (by omega)];refine⟨(0,(i:Int)+1),rfl,⟨i+1,rfl,dW,zy,?_⟩,by simp only;omega⟩;have:x=y:=by omega
    rw [List.take_add_one,List.take_add_one,kx,ky,heq,this]
 ·simp only at gF
  rw [aU,bT.dw];have:=hK w' (k4.tt kw);have nv:a=b:=by
   apply key_inj;rw [List.take_of_length_le (by rw [nz];omega),List.take_of_length_le (by rw [nz];omega)]at heq;exact heq
  rw [show lW a b=0 by unfold lW;rw [nv,jr];rfl]at this;exact this
end
theorem EU{x y:Int}(hx:0<=x/\x<256)(hy:0<=y/\y<256):(x.toNat.toUInt8<y.toNat.toUInt8)↔x<y:=by
 rw [UInt8.lt_iff_toNat_lt];simp only [Nat.toUInt8,UInt8.toNat_ofNat'];omega
theorem ou:∀ {a b:List Int},a.length=b.length->(∀x∈a,0<=x/\x<256)->(∀x∈b,0<=x/\x<256)->
 Lib.compareBytes (Lib.bytesOf a) (Lib.bytesOf b)=if uT a b then-1 else if uT b a then 1 else 0
 | [],[],_,_,_=>rfl
 | [],_::_,h,_,_=>by simp at h
 |_::_,[],h,_,_=>by simp at h
 |x::a,y::b,h,ha,hb=>by
  have hx:=ha x (by simp);have hy:=hb y (by simp);have ih:=ou (a:=a) (b:=b) (by simpa using h) (fun z hz=>ha z (by simp [hz])) (fun z hz=>hb z (by simp [hz]));simp only [Lib.bytesOf,List.map_cons,Lib.compareBytes,EU hx hy,EU hy hx,uT];by_cases h1:x<y
  ·simp [h1]
  ·by_cases h2:y<x
   ·simp [h1,h2]
   ·simp only [h1,h2,if_false]
    exact ih
theorem x5(h:HT):∀x∈key h,0<=x/\x<256:=by
 intro x hx;simp only [key,List.mem_map]at hx;obtain⟨v,hv,rfl⟩:=hx;obtain⟨i,rfl,h1,h2⟩:=h.2.2 v hv;exact⟨h1,h2⟩
theorem sM(a b:HT):Lib.compareBytes (Lib.bytesOf (key a)) (Lib.bytesOf (key b))=lW a b:=
 ou (by rw [nz,nz]) (x5 a) (x5 b)
section
variable{w:World}{K:Value->World->Prop}
theorem tG(a b:HT){p q:Addr}{c c':Nat}(ha:Cells w p a.1)(hb:Cells w q b.1)(hK:K (.int .i64 (lW a b)) w):
 bE prog iS.id #[.slice (some p) 32 c,.slice (some q) 32 c'] w K:=by
 refine iS.of ⟨.int .i64 (lW a b),w,?_,_,rfl,hK⟩;have Bg:∀(h:HT) (r:Addr),Cells w r h.1->∀j x,(key h)[j]? =some x->w.cell? (r.add j)=some (.int .u8 x):=by
  intro h r hr j x hx;have hj:j<32:=by have:=(lgeS hx).1;rw [nz]at this;exact this
  obtain⟨y,hy,ky,_⟩:=yR (h:=h) hj;rw [hx]at ky;cases ky;exact hr j _ hy
 have l1:=Lib.run_loadBytesX (P:=prog) w (key a) p .empty (Bg a p ha);have l2:=Lib.run_loadBytesX (P:=prog) w (key b) q .empty (Bg b q hb);rw [nz]at l1 l2;rw [run_callFunc_extern uK.at_ (by kernel_rfl) (by kernel_rfl) (by kernel_rfl) (e:=Extern.BytealgCompare.compare) (by kernel_rfl)];have hr:(Extern.BytealgCompare.compare #[.slice (some p) 32 c,.slice (some q) 32 c']).run prog w=.ok (.int .i64 (lW a b)) w:=by
  change Sem.run prog (do pure (goInt (Extern.BytealgCompare.cmp (<-Extern.Bytes.bytesOf (.slice (some p) 32 c)) (<-Extern.Bytes.bytesOf (.slice (some q) 32 c'))))) w=_
  simp only [Extern.Bytes.bytesOf,Sem.run_bind,l1,l2,Result.andThen_ok,Sem.run_pure,Lib.cmp_eq,goInt];rw [<-sM];simp
 rw [hr];rfl
theorem qh(a b:HT)(hK:K (.int .i64 (lW a b)) ((w.alloc (.cells a.1 al)).alloc (.cells b.1 al)).drew):bE prog dO.id #[.agg a.1,.agg b.1] w K:=by
 refine dO.of ?_;unfold dO.W;intro w3 w4 w5;have ha:w5.heap[w.heap.size]? =some (.cells a.1 al (0,0)):=lu (aM w _) _;have hb:w5.heap[w3.heap.size]? =some (.cells b.1 al (0,0)):=aM w3 _;simp only [if_neg (show ¬(32:Nat)=0 by omega),Nat.zero_mul,add_zero,Nat.sub_zero];exact tG a b (Cells.bV ha) (Cells.bV hb) ⟨_,rfl,hK⟩
end
theorem lY(a:Addr)(m n:Nat):(a.add m).add n=a.add (m+n):=by
 unfold Addr.add;by_cases hm:m=0<;>by_cases hn:n=0<;>simp [hm,hn,Nat.add_assoc]
def dv(l:List HT):List Value:=l.flatMap fun h=>h.1.toList
theorem lU(h:HT)(l:List HT):dv (h::l)=h.1.toList++dv l:=by simp [dv]
theorem mR(l m:List HT):dv (l++m)=dv l++dv m:=by simp [dv]
theorem ft:∀l:List HT,(dv l).length=l.length*32
 | []=>rfl
 |h::l=>by
  have:=h.2.1;rw [lU,List.length_append,ft l,Array.length_toList,this,List.length_cons];omega
theorem C1(l:List HT):∀u∈dv l,u.oneCell'=true:=by
 intro u hu;simp only [dv,List.mem_flatMap]at hu;obtain⟨h,_,hu⟩:=hu;exact h.2.one u hu
theorem lL:∀ {l:List HT} {i:Nat} {h:HT},l[i]? =some h->∀ {j:Nat} {v:Value},h.1[j]? =some v->(dv l)[i*32+j]? =some v
 | [],_,_,hi,_,_,_=>by simp at hi
 |x::l,0,h,hi,j,v,hj=>by
  simp only [List.getElem?_cons_zero,Option.some.injEq]at hi;subst hi;have di:j<x.1.toList.length:=by simpa using (Array.getElem?_eq_some_iff.1 hj).1
  rw [lU,Nat.zero_mul,Nat.zero_add,List.getElem?_append_left di,Array.getElem?_toList,hj]
 |x::l,i+1,h,hi,j,v,hj=>by
  simp only [List.getElem?_cons_succ]at hi;have:=x.2.1;rw [lU,List.getElem?_append_right (by simp;omega),Array.length_toList,this,show(i+1)*32+j-32=i*32+j by omega];exact lL hi hj
theorem Gw{l:List HT}{j:Nat}{v:Value}(h:(dv l)[j]? =some v):∃x,l[j/32]? =some x/\x.1[j%32]? =some v:=by
 have hj:=(lgeS h).1;rw [ft]at hj;have hi:j/32<l.length:=by omega
 refine⟨l[j/32],List.getElem?_eq_getElem hi,?_⟩;have hs:=l[j/32].2.1;have hm:j%32<l[j/32].1.size:=by rw [hs];omega
 obtain⟨u,hu⟩:∃u,l[j/32].1[j%32]? =some u:=⟨_,Array.getElem?_eq_getElem hm⟩;have:=lL (List.getElem?_eq_getElem hi) hu;rw [show j/32*32+j%32=j by omega,h]at this;rw [hu,this]
theorem pK:zI prog aF al 32 32:=⟨by kernel_rfl,by kernel_rfl⟩
abbrev cr(w:World)(B:Nat)(A:Option Addr)(n c:Nat)(l:List HT):Prop:=Row w B al 32 A n c (dv l)
section
variable{w w':World}{B:Nat}{A:Option Addr}{n c:Nat}{l:List HT}
theorem cr.len(h:cr w B A n c l):l.length=n:=by
 have:=Row.len h;rw [ft]at this;omega
theorem cr.hs(h:cr w B A n c l):HS w A n l:=⟨h.len,fun i x hi=>by
 have hlen:=h.len;have dW:=(lgeS hi).1;obtain⟨b,rfl⟩:=Row.some h (by omega);obtain⟨_,cur,pY⟩:=Row.bV h (k:=b) rfl;refine⟨_,rfl,bf pY,fun j v hj=>?_⟩;rw [lY];exact Row.cells h _ _ (lL hi hj)⟩
theorem cr.nil(w:World)(B:Nat):cr w B none 0 0 []:=Row.nil _ _ _ _
theorem HS.cells{a:Addr}(h:HS w (some a) n l):∀j u,(dv l)[j]? =some u->w.cell? (a.add j)=some u:=by
 intro j u hj;obtain⟨x,hx,hu⟩:=Gw hj;obtain⟨a',ha,_,hc⟩:=h.at_ _ x hx;cases ha;have:=hc _ _ hu
 rwa [lY,show j/32*32+j%32=j by omega]at this
theorem HS.nil(w:World)(A:Option Addr):HS w A 0 []:=⟨rfl,fun i x hi=>by simp at hi⟩
theorem HS.none(h:HS w none n l):n=0/\l= []:=by
 cases l with
 |nil=>exact⟨h.len.symm,rfl⟩
 |cons x l=>obtain⟨a,ha,_⟩:=h.at_ 0 x rfl;cases ha
theorem HS.take(h:HS w A n l){k:Nat}(hk:k<=n):HS w A k (l.take k):=⟨by have:=h.len;simp;omega,fun i x hi=>by
 rw [List.getElem?_take]at hi;split at hi
 ·exact h.at_ i x hi
 ·cases hi⟩
theorem HS.drop(h:HS w A n l){k:Nat}(hc:n<=c)(hk:k<=n):HS w (if c=k then A else A.map (·.add (k*32))) (n-k) (l.drop k):=⟨by have:=h.len;simp;omega,fun i x hi=>by
 rw [List.getElem?_drop]at hi;have hlen:=h.len;have:=(lgeS hi).1;obtain⟨a,rfl,hb,rU⟩:=h.at_ _ x hi;rw [if_neg (by omega)];refine⟨_,rfl,by rw [fu];exact hb,?_⟩;rw [lY,<-Nat.add_mul];exact rU⟩
theorem HS.one{w:World}{b:Nat}{h:HT}{t:TypeId}{fr:Nat×Nat}(hb:w.heap[b]? =some (.cells h.1 t fr)):HS w (some ⟨b,0,Option.none⟩) 1 [h]:=⟨rfl,fun i x hi=>by
 cases i with
 |zero=>
  simp only [List.getElem?_cons_zero,Option.some.injEq]at hi;subst hi;exact⟨_,rfl,bf hb,by rw [Nat.zero_mul,add_zero];exact Cells.bV hb⟩
 |succ i=>simp at hi⟩
theorem dd(ty:Nat)(h:cr w B A n c l){A2:Option Addr}{m cx:Nat}{l2:List HT}(h2:HS w A2 m l2)(hm:n+m<=1000000)(hB:B<=w.heap.size):
 ∃A' c' w',(Builtin.append_ #[aF,aF] ty #[.slice A n c,.slice A2 m cx]).run prog w=.ok (.slice A' (n+m) c') w'/\
  cr w' B A' (n+m) c' (l++l2)/\w.grownBy w' (bH A)/\(∀k,bH A'=some k->bH A=some k\/w.heap.size<=k):=by
 cases A2 with
 |some a=>
  have uG:=h2.len;obtain⟨A',c',w',hr,fO,hg,hb⟩:=fY (P:=prog) (t:=aF) (bytes:=32) (ty:=ty) pK h (a:=a) (m:=m) (cx:=cx) (news:=dv l2) (by rw [ft,uG]) h2.cells (C1 l2) (by omega) (by unfold maxLen;omega) hB;refine⟨A',c',w',hr,?_,hg,hb⟩;rw [<-mR]at fO;exact fO
 |none=>
  obtain⟨rfl,rfl⟩:=h2.none;refine⟨A,c,w,?_,by simpa using h,⟨rfl,rfl,rfl,Nat.le_refl _,fun _ _ _=>rfl⟩,fun k hk=>.inl hk⟩;obtain⟨i,z,hi,hz,hs,Kj,Ex⟩:=pK.inf;have hn:n<=c:=by rcases Row.own h with⟨_,h1,h2,_⟩|⟨_,_,_,_,_,h1,_⟩<;>omega
  simp [Builtin.append_,run_underlying pK.pD,sizeOf,typeInfo,hi,Builtin.lenOf,Builtin.firstCells,hn];cases A<;>simp [storeCells]
end
theorem HS.load{w:World}{A:Option Addr}{n:Nat}{l:List HT}(hl:HS w A n l){i:Int}{x:HT}(h0:0<=i)(hx:l[i.toNat]? =some x){k:Array Value->Prop}(hk:k x.1):
 (0<=i/\i<(n:Int))/\Is A fun a=>∃t:Array Value,(t.size=32/\Cells w (a.add (i.toNat*32)) t)/\k t:=by
 obtain⟨a,rfl,_,hc⟩:=hl.at_ _ x hx;have:=(lgeS hx).1;have:=hl.len;exact⟨⟨h0,by omega⟩,x.1,⟨x.2.1,hc⟩,hk⟩
theorem sO{a b:HT}:(lW a b<0)↔di a b=true:=by
 unfold lW;by_cases h:di a b=true
 ·simp [h]
 ·by_cases h':di b a=true<;>simp [h,h']
theorem dE{n:Int}(h0:0<=n)(h1:n<=2000000):i64.wrap (n+1)=n+1:=iY (by omega) (by omega)
theorem wrapM{n:Int}(h0:0<=n)(h1:n<=2000000):i64.wrap (n-1)=n-1:=iY (by omega) (by omega)
theorem Kept.dX{w w' mD:World}{A:Option Addr}(h:Kept Nil w w')(hg:w'.grownBy mD (bH A))(hr:∀k,bH A=some k->w.heap.size<=k):Kept Nil w mD:=
 Kept.grown h hg fun k hk di=>absurd (hr k hk) (by omega)
section
variable{w:World}{K:Value->World->Prop}
theorem oI{A:Option Addr}{n c:Nat}{l:List HT}(hl:HS w A n l)(hn:n<=400000)
 (hK:∀A' c' w',cr w' w.heap.size A' (dB l).length c' (dB l)->Kept Nil w w'->K (.slice A' (dB l).length c') w'):
 bE prog aP.id #[.slice A n c] w K:=by
 refine aP.of ?_;have hlen:=hl.len;refine aP.cJ (I:=fun s w'=>∃(i:Nat) (out:List HT) (B:Option Addr) (m:Nat),s=(B,out.length,m,(i:Int))/\i<=n/\cr w' w.heap.size B out.length m out/\SS out/\(∀x,x∈out↔x∈l.take i)/\out.length<=i/\Kept Nil w w')
  (μ:=fun s _=>((n:Int)-s.2.2.2).toNat) (s:=(none,0,0,0)) ⟨0,[],none,0,rfl,Nat.zero_le _,cr.nil _ _,List.Pairwise.nil,by simp,by simp,Kept.refl _ _⟩ ?_
 rintro s w' ⟨i,out,B,m,rfl,hi,row,uU,jo,hol,kw⟩;refine Split.dec (fun jY=>?_) (fun gF=>?_)
 ·simp only at jY
  have dW:i<n:=by omega
  obtain⟨x,hx⟩:∃x,l[i]? =some x:=⟨_,List.getElem?_eq_getElem (by omega)⟩;refine(hl.same kw).load (i:=(i:Int)) (by omega) hx (yJ x row.hs (by simp only;omega) fun w9 k9=>⟨_,rfl,?_⟩);simp only;have Tb:Kept Nil w w9:=kw.tt k9;have KC:cr w9 w.heap.size B out.length m out:=Row.aK row k9 (fun _ _ h=>h);have zB:l.take (i+1)=l.take i++ [x]:=by rw [List.take_add_one,hx];rfl
  refine Split.dec (fun gC=>?_) (fun mG=>?_)
  ·rw [dE (n:=(i:Int)) (by omega) (by omega)]
   refine⟨(B,out.length,m,(i:Int)+1),rfl,⟨i+1,out,B,m,rfl,dW,KC,uU,fun y=>?_,by omega,Tb⟩,by simp only;omega⟩;rw [zB,List.mem_append,List.mem_singleton,<-jo y];constructor
   ·exact .inl
   ·rintro(h|rfl)
    ·exact h
    ·exact gC
  ·refine aP.iz (I:=fun s w'=>∃k:Nat,s=(k:Int)/\k<=out.length/\(∀y∈out.drop k,di x y=true)/\Kept Nil w9 w') (μ:=fun s _=>s.toNat) (s:=(out.length:Int)) ⟨out.length,rfl,Nat.le_refl _,by simp,Kept.refl _ _⟩ ?_
   rintro s w1 ⟨k,rfl,hk,vX,k1⟩;have Nv:HS w1 A n l:=(hl.same Tb).same k1;have yF:cr w1 w.heap.size B out.length m out:=Row.aK KC k1 (fun _ _ h=>h);have kx:Kept Nil w w1:=Tb.tt k1;have vW:∀w1,HS w1 A n l->cr w1 w.heap.size B out.length m out->Kept Nil w w1->(∀y∈out.take k,di y x=true)->
    aP.jc A n c none 0 0 B out.length m (i:Int) (k:Int) (bW (aP.e1 A n c none 0 0) (fun s w'=>∃(i:Nat) (out:List HT) (B:Option Addr) (m:Nat),s=(B,out.length,m,(i:Int))/\i<=n/\cr w' w.heap.size B out.length m out/\SS out/\(∀x,x∈out↔x∈l.take i)/\out.length<=i/\Kept Nil w w') (fun s _=>((n:Int)-s.2.2.2).toNat) (B,out.length,m,(i:Int)) w' (aP.q1 K)) w1:=by
    intro w1 Nv yF kx IA;have I0:out.length<=m:=by rcases Row.own yF with⟨_,h1,h2,_⟩|⟨_,_,_,_,_,h1,_⟩<;>omega
    have mF:=kx.size;unfold aP.jc;refine⟨⟨by omega,by omega⟩,?_⟩;have wO:HS w1 (if m=0 then B else B.map (·.add (0*32))) ((k:Int).toNat -0) (out.take k):=by
     have h:=yF.hs.take hk;rw [Nat.sub_zero,Int.toNat_natCast];have e:(if m=0 then B else B.map (·.add (0*32)))=B:=by
      split
      ·rfl
      ·cases B<;>simp [add_zero]
     rw [e];exact h
    obtain⟨A1,c1,w2,nD,ir,LM,nE⟩:=dd (cx:=m-0) aF (cr.nil w1 w.heap.size) wO (by simp;omega) mF;have k2:Kept Nil w1 w2:=Kept.dX (Kept.refl _ _) LM (fun k hk=>by cases hk);rw [Nat.zero_add,Nat.sub_zero,Int.toNat_natCast]at nD ir;rw [List.nil_append]at ir;refine⟨A1,_,c1,w2,by rw [Nat.sub_zero,Int.toNat_natCast];exact nD,?_⟩;have uG:=Nv.same k2;refine uG.load (i:=(i:Int)) (by omega) hx ⟨x.2.1,?_⟩;intro w3;have k3:Kept Nil w2 w3:=(Kept.refl _ _).alloc _;have jE:HS w3 (some ⟨w2.heap.size,0,none⟩) 1 [x]:=by
     refine HS.one (t:=al) (fr:=(0,0)) ?_;have e3:w3=w2.alloc (.cells x.1 al):=by
      show w2.alloc (.cells (x.1.toList++ []).toArray al)=_
      simp
     rw [e3];exact aM w2 _
    clear_value w3;have nJ:cr w3 w.heap.size A1 k c1 (out.take k):=Row.aK ir k3 (fun _ _ h=>h);have aas:w.heap.size<=w3.heap.size:=Nat.le_trans (Nat.le_trans mF k2.size) k3.size;obtain⟨A4,c4,w4,yg,jW,EL,ui⟩:=dd (cx:=1) aF nJ jE (by omega) aas;have k4:Kept Nil w1 w4:=Kept.dX (k2.tt k3) EL (fun k hk=>by rcases nE k hk with h|h;cases h;exact h);refine⟨A4,_,c4,w4,yg,⟨by omega,by omega⟩,?_⟩;have IE:HS w4 (if m=(k:Int).toNat then B else B.map (·.add ((k:Int).toNat*32))) (out.length-(k:Int).toNat) (out.drop k):=by
     rw [Int.toNat_natCast];exact(yF.hs.same k4).drop I0 hk
    have hdl:(out.length-(k:Int).toNat)=out.length-k:=by rw [Int.toNat_natCast]
    obtain⟨A5,c5,w5,sE,lD,LL,pE⟩:=dd (cx:=m-(k:Int).toNat) aF jW IE (by omega) (Nat.le_trans mF k4.size);have k5:Kept Nil w1 w5:=Kept.dX k4 LL (fun b hb=>by
     rcases ui b hb with h|h
     ·rcases nE b h with h|h
      ·cases h
      ·exact h
     ·exact Nat.le_trans (Nat.le_trans k2.size k3.size) h)
    refine⟨A5,_,c5,w5,sE,?_⟩;rw [dE (n:=(i:Int)) (by omega) (by omega)];have nP:out.take k++ [x]++out.drop k=out.take k++x::out.drop k:=by simp
    have zE:(out.take k++x::out.drop k).length=out.length+1:=by simp;omega
    rw [nP]at lD;have e5:k+1+(out.length-(k:Int).toNat)=(out.take k++x::out.drop k).length:=by rw [zE];omega
    rw [e5]at lD⊢;refine⟨(A5,(out.take k++x::out.drop k).length,c5,(i:Int)+1),rfl,⟨i+1,_,A5,c5,rfl,dW,lD,JL uU IA vX,fun y=>?_,by omega,kx.tt k5⟩,by simp only;omega⟩;rw [show y∈l.take (i+1)↔y∈out\/y=x by rw [zB,List.mem_append,List.mem_singleton,jo y],List.mem_append,List.mem_cons];constructor
    ·rintro(h|rfl|h)
     ·exact .inl (List.mem_of_mem_take h)
     ·exact .inr rfl
     ·exact .inl (List.mem_of_mem_drop h)
    ·rintro(h|rfl)
     ·rw [<-List.take_append_drop k out,List.mem_append]at h
      rcases h with h|h
      ·exact .inl h
      ·exact .inr (.inr h)
     ·exact .inr (.inl rfl)
   unfold aP.B2;intro w2;have k2:Kept Nil w1 w2:=(Kept.refl _ _).drew;clear_value w2;have uG:=Nv.same k2;have ir:cr w2 w.heap.size B out.length m out:=Row.aK yF k2 (fun _ _ h=>h);have kx2:=kx.tt k2;refine Split.dec (fun jS=>?_) (fun Bb=>?_)
   ·have o5:0<k:=by omega
    obtain⟨y,hy⟩:∃y,out[k-1]? =some y:=⟨_,List.getElem?_eq_getElem (by omega)⟩;rw [wrapM (n:=(k:Int)) (by omega) (by omega)];refine uG.load (i:=(i:Int)) (by omega) hx (ir.hs.load (by omega) (by rw [show((k:Int)-1).toNat=k-1 by omega];exact hy) (tU x y fun w3 k3=>⟨_,rfl,?_⟩));refine Split.dec (fun hc=>?_) (fun hc=>?_)
    ·refine⟨(k:Int)-1,rfl,⟨k-1,by omega,by omega,fun z hz=>?_,(k1.tt k2).tt k3⟩,by simp only;omega⟩
     have hd:out.drop (k-1)=y::out.drop k:=by
      obtain⟨h1,h2⟩:=lgeS hy;rw [List.drop_eq_getElem_cons h1,h2,show k-1+1=k by omega]
     rw [hd]at hz;rcases List.mem_cons.1 hz with rfl|hz
     ·exact sO.1 hc
     ·exact vX z hz
    ·rw [aU,aP.ki]
     refine vW w3 (uG.same k3) (Row.aK ir k3 (fun _ _ h=>h)) (kx2.tt k3) fun z hz=>?_;have Ey:di y x=true:=by
      have h1:di x y=false:=by
       cases h:di x y
       ·rfl
       ·exact absurd (sO.2 h) hc
      refine lt_of_le_ne h1 fun e=>mG ?_;rw [<-e];exact List.mem_of_getElem? hy
     obtain⟨j,hj⟩:=List.mem_iff_getElem?.1 hz;rw [List.getElem?_take]at hj;split at hj
     ·rename_i Yh
      by_cases e:j=k-1
      ·subst e;rw [hy]at hj;cases hj;exact Ey
      ·exact lK (uU.get (by omega) hj hy) Ey
     ·cases hj
   ·rw [aU,aP.ki]
    have o5:k=0:=by omega
    refine vW w2 uG ir kx2 fun z hz=>?_;rw [o5]at hz;simp at hz
 ·simp only at gF
  have:i=n:=by omega
  subst this;rw [aU,aP.dw];have e:out=dB l:=yD uU fun x=>by rw [jo,List.take_of_length_le (by omega)]
  rw [e]at row;have:=hK B m w' row kw;rw [<-e]at this;exact this
end
theorem lN{w:World}{k l:Nat}{cs:Array Value}{t:TypeId}{fr:Nat×Nat}{R:Loop}(h:w.heap[k]? =some (.cells cs t fr))(h':w.heap[l]? =some (.loop R)):k≠l:=by
 rintro rfl;rw [h]at h';cases h'
theorem yO{w:World}{k l:Nat}{cs:Array Value}{t:TypeId}{fr:Nat×Nat}{d:Option (List Deferred)}(h:w.heap[k]? =some (.cells cs t fr))(h':w.heap[l]? =some (.deferred d)):k≠l:=by
 rintro rfl;rw [h]at h';cases h'
theorem Row.apart{w w':World}{B:Nat}{e:TypeId}{size:Nat}{A:Option Addr}{n c:Nat}{xs:List Value}(h:Row w B e size A n c xs){l:Nat}(hk:Kept (· =l) w w')
 (hl:∀cs t fr,w.heap[l]? ≠some (.cells cs t fr)):Row w' B e size A n c xs:=Row.aK h hk fun k hb e=>by
 subst e;obtain⟨_,cur,hc⟩:=Row.bV h hb;exact hl _ _ _ hc
abbrev sJ(h:HT):List Value:= [.agg h.1]
section
variable{w:World}{K:Value->World->Prop}
theorem zR(p:Addr){A:Option Addr}{n c:Nat}{l:List HT}(hn:n<=1000000):
 oA prog aI.id #[] #[.pointer (some p)] (l.map sJ) (fun w=>HS w A n l/\w.cell? p=some (.slice A n c)):=by
 intro y I D w0 hI hD sG h0 rC;refine aI.of ?_;obtain⟨wP,RN⟩:=sG 0 w0 h0;have hlen:=wP.len;refine⟨A,n,c,RN,?_⟩;refine aI.cJ (I:=fun s w'=>∃i:Nat,s=(i:Int)/\i<=n/\I i w') (μ:=fun s _=>((n:Int)-s).toNat) (s:=0) ⟨0,rfl,Nat.zero_le _,h0⟩ ?_;rintro s w' ⟨i,rfl,hi,hw⟩;refine Split.dec (fun jY=>?_) (fun gF=>?_)
 ·have dW:i<n:=by omega
  obtain⟨x,hx⟩:∃x,l[i]? =some x:=⟨_,List.getElem?_eq_getElem (by omega)⟩;have hl:=(sG i w' hw).1;refine hl.load (i:=(i:Int)) (by omega) hx ?_;intro w10;obtain⟨tA,hb,hk⟩:=iN (w:=w') (z:=(CJ 0)) (cs:=x.1) (t:=al) (by rw [x.2.1];rfl);refine⟨⟨x.2.1,x.2.one,fun j hj=>tA j (by rw [x.2.1];exact hj)⟩,?_⟩;intro pC
  replace hb:pC.heap[w'.heap.size]? =some (.cells x.1 al (0,0)):=hb
  replace hk:Kept Nil w' pC:=hk
  clear_value pC;refine⟨x.1,⟨x.2.1,Cells.bV hb⟩,?_⟩;refine(rC i (sJ x) pC (by rw [List.getElem?_map,hx];rfl) (hI i w' pC hw hk)).mono ?_;rintro b mD ⟨ht,hf⟩;cases b with
  |true=>
   refine Split.no rfl ?_;rw [dE (n:=(i:Int)) (by omega) (by omega)];exact⟨(i:Int)+1,rfl,⟨i+1,rfl,dW,ht rfl⟩,by simp only;omega⟩
  |false=>
   refine Split.yes rfl ?_;exact Or.inr (hf rfl)
 ·rw [aU,aI.dw]
  have e:i=n:=by omega
  subst e;refine Or.inl ?_;rw [List.length_map,hlen];exact hw
theorem xx{gf:FuncId}{gS:Array Value}{xs:List HT}{fn:Func}(Ki:prog.funcs[gf]? =some fn)(hb:fn.body.isSome){Kq:World->Prop}
 (hit:oA prog gf #[] gS (xs.map sJ) Kq) (hp:∀w',Kept Nil w w'->Kq w') (Lf:xs.length<=1000000)
 (hK:∀A c w',cr w' w.heap.size A xs.length c xs->Kept Nil w w'->K (.slice A xs.length c) w'):
 bE prog aO.id #[.slice none 0 0,.func (.func gf) #[] gS] w K:=by
 refine aO.of ?_;unfold aO.W;intro w3;have k3:Kept Nil w w3:=(Kept.refl Nil w).alloc _;have p7:w3.heap[w.heap.size]? =some (.cells #[.slice none 0 0] aF (0,0)):=aM w _;have CN:w.heap.size<w3.heap.size:=bf p7;clear_value w3
 let ρ0:Env:= [(2,.pointer (some (aV w.heap.size))),(4,.slice none 0 0),(6,.func (.func gf) #[] gS)]
 let J:Nat->World->Prop:=fun i w'=>∃A c,w'.heap[w.heap.size]? =some (.cells #[.slice A i c] aF (0,0))/\cr w' w.heap.size A i c (xs.take i)/\Kept Nil w w'/\i<=xs.length/\∀k,bH A=some k->k≠w.heap.size
 refine oL (ρ:=ρ0) (ρ0:=ρ0) ng mix aO.k (t:=6) (ps:= #[7]) (by kernel_rfl) (by decide) rfl Ki hb (.inl rfl) (fun i v _ h=>h) rfl sJ xs (fun _=>rfl) (by simp [iM]) hit J (fun _ _=>False) ?_ (fun _ _ _ _ _ h=>h.elim) (fun i w' h=>hp w' (let ⟨_,_,_,_,h,_⟩:=h;h)) ?_ ?_ ?_ (fun _ _ h=>h.elim) (fun _ _ _ h=>h.elim)
 ·rintro i w' mD R hl ⟨A,c,h1,h2,h3,h4,h5⟩ hk
  exact⟨A,c,hk.heap h1 (lN h1 hl.loop),Row.apart h2 hk (fun cs t fr h=>by rw [hl.loop]at h;cases h),h3.trans hk (fun k hk e=>by omega),h4,h5⟩
 ·intro R
  exact⟨none,0,lu (lu p7 _) _,cr.nil _ _,(k3.alloc _).alloc _,Nat.zero_le _,fun k hk=>by cases hk⟩
 ·rintro i x w' R hx ⟨A,c,h1,h2,h3,h4,h5⟩ hl
  have dW:i<xs.length:=(lgeS hx).1;have e7:mn ρ0 ((#[7]:Array Nat).toList.zip (sJ x))= [(2,.pointer (some (aV w.heap.size))),(4,.slice none 0 0),(6,.func (.func gf) #[] gS),(7,.agg x.1)]:=rfl;rw [e7,aO.a1];unfold aO.A1;intro w8;obtain⟨tA,kh,kH⟩:=iN (w:=w') (z:=(CJ 0)) (cs:=x.1) (t:=al) (by rw [x.2.1];rfl);refine⟨⟨x.2.1,x.2.one,fun j hj=>tA j (by rw [x.2.1];exact hj)⟩,?_⟩;intro xG
  replace kh:xG.heap[w'.heap.size]? =some (.cells x.1 al (0,0)):=kh
  replace kH:Kept Nil w' xG:=kH
  clear_value xG;have LB:=hl.aK kH (fun h=>h) (fun h=>h);refine⟨LB,fun w2 R2 oZ uG=>?_⟩;have aca:=oZ.heap kh (lN kh LB.loop);have h1b:=kH.heap h1 (fun h=>h);have BY:=oZ.heap h1b (lN h1b LB.loop);have Db:cr w2 w.heap.size A i c (xs.take i):=Row.apart (Row.aK h2 kH (fun _ _ h=>h)) oZ (fun cs t fr h=>by rw [LB.loop]at h;cases h);have WM:Kept Nil w w2:=(h3.tt kH).trans oZ (fun k hk e=>by omega);have di:w.heap.size<w2.heap.size:=bf BY;rw [aO.y1];unfold aO.Y1;refine⟨A,i,c,by rw [aE BY];rfl,x.1,⟨x.2.1,Cells.bV aca⟩,x.2.1,?_⟩;intro nf;have ry:Kept Nil w2 nf:=(Kept.refl _ _).alloc _;have jE:HS nf (some ⟨w2.heap.size,0,none⟩) 1 [x]:=by
   refine HS.one (t:=al) (fr:=(0,0)) ?_;have e3:nf=w2.alloc (.cells x.1 al):=by
    show w2.alloc (.cells (x.1.toList++ []).toArray al)=_
    simp
   rw [e3];exact aM w2 _
  clear_value nf;have L7:cr nf w.heap.size A i c (xs.take i):=Row.aK Db ry (fun _ _ h=>h);have ac8:=ry.heap BY (fun h=>h);have aiL:=ry.size;obtain⟨A',c',xE,hr,nY,hg,uI⟩:=dd (cx:=1) aF L7 jE (by omega) (by omega);have Qq:Kept (fun k=>bH A=some k) nf xE:=Kept.grown (Kept.refl _ _) hg (fun k hk _=>hk);have L8:=Qq.heap ac8 (fun h=>h5 _ h rfl);have Qe:Live (w3.heap.size+1) w3.heap.size R2 xE:=by
   have Qf:=uG.aK ry (fun h=>h) (fun h=>h);refine Qf.aK Qq ?_ ?_
   ·intro h
    obtain⟨_,cur,hc⟩:=Row.bV L7 h;exact lN hc Qf.loop rfl
   ·intro h
    obtain⟨_,cur,hc⟩:=Row.bV L7 h;exact yO hc Qf.mark rfl
  have JW:Kept Nil w xE:=(WM.tt ry).trans Qq (fun k hk e=>by
   obtain⟨h,_⟩:=Row.bV L7 e;omega)
  refine⟨A',_,c',xE,hr,dP L8 (by simp),?_⟩;intro pB;have yc:Kept (· =w.heap.size) xE pB:=Kept.setCell (S:=fun k=>k=w.heap.size) (Kept.refl _ xE) (p:=⟨w.heap.size,0,none⟩) (fun _=>rfl) _;have acu:pB.heap[w.heap.size]? =some (.cells #[.slice A' (i+1) c'] aF (0,0)):=du L8 0 _;clear_value pB;have Gz:∀k,bH A'=some k->k≠w.heap.size:=fun k hk=>by
   rcases uI k hk with h|h
   ·exact h5 k h
   ·omega
  refine⟨Qe.aK yc (lN L8 Qe.loop).symm (yO L8 Qe.mark).symm,A',c',acu,?_,JW.trans yc (fun k hk e=>by omega),dW,Gz⟩;rw [List.take_add_one,hx];exact Row.aK nY yc Gz
 ·rintro w' R ⟨A,c,h1,h2,h3,h4,h5⟩ hl
  have e7:iW ρ0 w3.heap.size= [(2,.pointer (some (aV w.heap.size))),(4,.slice none 0 0),(6,.func (.func gf) #[] gS),(4294967296,.agg #[.pointer (some ⟨w3.heap.size,0,none⟩)])]:=rfl;rw [e7,aO.lH];refine⟨A,xs.length,c,by rw [aE h1];rfl,⟨hl.mark,trivial⟩,?_⟩;have kp:Kept (· =w3.heap.size) w' (w'.putObj w3.heap.size (.deferred none)):=Kept.putAt _ _ _;refine hK A c _ ?_ (h3.trans kp (fun k hk e=>by omega));have:=Row.apart h2 kp (fun cs t fr h=>by rw [hl.mark]at h;cases h)
  rwa [List.take_of_length_le (Nat.le_refl _)]at this
theorem Dr{gf:FuncId}{gS:Array Value}{xs:List HT}{fn:Func}(Ki:prog.funcs[gf]? =some fn)(hb:fn.body.isSome){Kq:World->Prop}
 (hit:oA prog gf #[] gS (xs.map sJ) Kq) (hp:∀w',Kept Nil w w'->Kq w') (Lf:xs.length<=1000000)
 (hK:∀A c w',cr w' w.heap.size A xs.length c xs->Kept Nil w w'->K (.slice A xs.length c) w'):
 bE prog dt.id #[.func (.func gf) #[] gS] w K:=by
 refine dt.of (xx Ki hb hit hp Lf fun A c w' h1 h2=>⟨_,_,_,rfl,hK A c w' h1 h2⟩)
end
open Go.Sort
instance:Inhabited HT:=⟨⟨Array.replicate 32 (.int .u8 0),by simp,fun v hv=>⟨0,by simpa using hv,by omega,by omega⟩⟩⟩
abbrev nS(h:HT):List Value:=h.1.toList
theorem Bt(h:HT):(nS h).length=32:=by have:=h.2.1;simpa using this
theorem wk(d:Array HT):(flatK nS 32 d).toList=dv d.toList:=by
 apply List.ext_getElem?;intro t;by_cases ht:t<d.size*32
 ·have hi:t/32<d.size:=by omega
  have hx:d.toList[t/32]? =some d[t/32]:=by rw [Array.getElem?_toList,Array.getElem?_eq_getElem hi]
  have hs:t%32<d[t/32].1.size:=by rw [d[t/32].2.1];omega
  have h1:=lL hx (Array.getElem?_eq_getElem hs);rw [show t/32*32+t%32=t by omega]at h1;rw [h1];have h2:t<(flatK nS 32 d).size:=by rw [size_flatK];exact ht
  have h3:=get_flatK nS 32 d t ht;rw [getElem!_pos _ t h2]at h3;rw [Array.getElem?_toList,Array.getElem?_eq_getElem h2,h3,getElem!_pos d _ hi];rw [getElem!_pos _ _ (by rw [Bt];omega)];simp [nS]
 ·rw [List.getElem?_eq_none (by simp;omega),List.getElem?_eq_none (by rw [ft];simp;omega)]
theorem HM{F cur:Array Value}{k:Nat}(hk:F.size=k)(h:k<=cur.size):(putCells id 0 F cur).toList.take k=F.toList:=by
 apply List.ext_getElem?;intro i;rw [List.getElem?_take];split
 ·rename_i hi
  have h1:i<cur.size:=by omega
  have h2:i<F.size:=by omega
  rw [Array.getElem?_toList,Array.getElem?_toList,putCells,Array.getElem?_mapIdx,Array.getElem?_eq_getElem h1,Array.getElem?_eq_getElem h2];simp [h2]
 ·rw [List.getElem?_eq_none (by simp;omega)]
theorem wW{w:World}{b:Nat}{f:Array Value->Array Value}{cur:Array Value}{t:TypeId}{fr:Nat×Nat}(h:w.heap[b]? =some (.cells cur t fr)):(mapBlock w b f).heap[b]? =some (.cells (f cur) t fr):=by
 simp [mapBlock,Array.getElem?_modify,h,onCells]
theorem wV(w:World)(b:Nat)(f:Array Value->Array Value):Kept (· =b) w (mapBlock w b f):=
 ⟨rfl,rfl,rfl,by simp [mapBlock],fun k _ hn=>by simp [mapBlock,Array.getElem?_modify,Ne.symm hn]⟩
theorem GB(w:World)(os:Array Obj):Kept Nil w (grow w os):=
 ⟨rfl,rfl,rfl,by simp,fun k hk _=>heap_grow_old w os hk⟩
theorem DF(w:World)(m:Nat):Kept Nil w (Sort.ahead w m):=⟨rfl,rfl,rfl,Nat.le_refl _,fun _ _ _=>rfl⟩
section
variable{w:World}{B n c b:Nat}{l:List HT}
theorem wR(row:cr w B (some ⟨b,0,none⟩) n c l)(m:Nat)(dk:Array HT)(os:Array Obj)(hd:dk.size=n):
 cr (sortWorldK nS 32 w b 0 m dk os) B (some ⟨b,0,none⟩) n c dk.toList/\Kept (· =b) w (sortWorldK nS 32 w b 0 m dk os):=by
 have hka:=DF w m;have k1:=wV (Sort.ahead w m) b (putCells id 0 (flatK nS 32 dk));have kk:=((hka.mono (S':=fun k=>k=b) (fun _ _ h=>h.elim)).tt k1).trans (GB _ os) (fun _ _ h=>h.elim);refine⟨?_,?_⟩
 ·rcases Row.own row with⟨h,_⟩|⟨b',cur,hA,hB,hg,Gp,o7,nV,zB⟩
  ·cases h
  ·cases hA
   refine⟨by rw [ft,Array.length_toList,hd],.inr ⟨b,c,putCells id 0 (flatK nS 32 dk) cur,rfl,hB,?_,Gp,o7,by simp [putCells,nV],?_⟩⟩
   ·have h1:(mapBlock (Sort.ahead w m) b (putCells id 0 (flatK nS 32 dk))).heap[b]? =some (.cells (putCells id 0 (flatK nS 32 dk) cur) al (0,0)):=wW hg
    exact(heap_grow_old _ os (bf h1)).trans h1
   ·rw [<-wk]
    refine HM (by rw [size_flatK,hd]) ?_;rw [nV];exact Nat.mul_le_mul_right _ Gp
 ·exact kk
theorem CU(row:cr w B (some ⟨b,0,none⟩) n c l):HoldsK nS 32 w b 0 l.toArray:=by
 intro j hj;rw [size_flatK]at hj;have vU:j<l.length*32:=by simpa using hj
 rw [Nat.zero_add];have hlen:=Row.len row;have hx:(flatK nS 32 l.toArray).toList[j]? =(dv l)[j]? :=by rw [wk]
 have hjs:j<(flatK nS 32 l.toArray).size:=by rw [size_flatK];exact hj
 rw [Array.getElem?_toList,Array.getElem?_eq_getElem hjs]at hx;have hc:=Row.cell row hx.symm;refine⟨?_,?_⟩
 ·rw [hc,getElem!_pos _ j hjs];rfl
 ·exact(Row.wr row (j:=j) (by rw [ft];exact vU)).2
theorem pX(x y:HT):ltOf lW x y=di x y:=by
 unfold ltOf;cases h:di x y
 ·exact decide_eq_false fun h'=>by rw [sO.1 h']at h;cases h
 ·exact decide_eq_true (sO.2 h)
theorem le_trans'{x y z:HT}(h:di y x=false)(h':di z y=false):di z x=false:=by
 cases TP:di z x
 ·rfl
 ·exfalso
  by_cases e:y=z
  ·subst e;rw [h]at TP;cases TP
  ·have RE:=lt_of_le_ne h' e
   have:=lK RE TP;rw [h]at this;cases this
theorem Zd:SWO (ltOf lW) where
 irrefl x:=by rw [pX];exact jr x
 trans x y z h h':=by rw [pX]at*;exact lK h h'
 ntrans x y z h h':=by
  rw [pX]at*;exact le_trans' h' h
theorem KB{A:Option Addr}{K:Value->World->Prop}(row:cr w B A n c l)(hn:n<=1000000)
 (hK:∀l' w',LE l'->(∀x,x∈l'↔x∈l)->cr w' B A n c l'->Kept (fun k=>bH A=some k) w w'->K (.tuple #[]) w'):
 bE prog jz.id #[.slice A n c,.func (.func dO.id) #[] #[]] w K:=by
 have hlen:=row.len;by_cases h0:n=0
 ·subst h0
  have h:=AnyF.slices_SortFunc_none Tryz.xI A c (.func (.func dO.id) #[] #[]) w;refine Calls.mono h ?_;rintro e w' ⟨rfl,rfl⟩;have:l= []:=List.eq_nil_of_length_eq_zero hlen;subst this;exact⟨_,rfl,hK [] _ List.Pairwise.nil (fun _=>Iff.rfl) row (Kept.refl _ _)⟩
 ·obtain⟨b,rfl⟩:=Row.some row (by omega)
  have hblk:b<w.heap.size:=by
   obtain⟨_,cur,hc⟩:=Row.bV row (k:=b) rfl;exact bf hc
  have mF:l.toArray.size=n:=by simpa using hlen
  have eg:∀args w,(callFunc dO.id args).run prog w=.ok (.enter dO.id args) w:=enters_of dO.at_ (by kernel_rfl) rfl;have hk:nM prog al=.agg 32:=by kernel_rfl
  obtain⟨e32,ha⟩:=sC hk;obtain⟨i,hi⟩:=Go.b0.info_of_underlying (P:=prog) (t:=al) (by kernel_rfl);have abZ:CmpLays prog dO.id #[] nS 32 lW b 0 l.toArray.size w:=fun m os dk _ x y=>by
   have e:(#[.agg (nS x).toArray,.agg (nS y).toArray]++ #[]:Array Value)= #[.agg x.1,.agg y.1]:=by simp [nS]
   rw [e];have h:=qh (w:=sortWorldK nS 32 w b 0 m dk os) x y (K:=fun v w'=>v=.int .i64 (lW x y)/\w'=(((sortWorldK nS 32 w b 0 m dk os).alloc (.cells x.1 al)).alloc (.cells y.1 al)).drew) ⟨rfl,rfl⟩;refine Calls.mono h ?_;rintro e w' ⟨v,rfl,rfl,rfl⟩;refine⟨rfl,1,#[.cells x.1 al,.cells y.1 al],?_⟩;rw [alloc_eq_grow,alloc_eq_grow,grow_grow,drew_grow];rfl
  have h:=AnyQ.slices_SortFunc_total Tryz.xI 32 ha (fun w=>by rw [e32];exact Go.b0.run_sizeOf hi w) nS Bt (fun x=>x.2.one) lW Zd dO.id #[] b 0 c l.toArray w eg abZ (CU row) hblk (by omega)
   (fun x y h1 h2=>by rw [pX]at h1 h2;exact qF h1 h2)
  rw [mF]at h;refine Calls.mono h ?_;rintro e w' ⟨rfl,m,os,rfl⟩;have hp:=List.mergeSort_perm l.toArray.toList (fun x y=> !(ltOf lW) y x);have Gr:(l.toArray.toList.mergeSort fun x y=> !(ltOf lW) y x).toArray.size=n:=by
   have:=hp.length_eq;simp only [List.size_toArray];rw [this];simpa using hlen
  obtain⟨h1,h2⟩:=wR row m _ os Gr;refine⟨_,rfl,hK _ _ ?_ (fun x=>?_) h1 (h2.mono fun k _ e=>by rw [e];rfl)⟩
  ·have hs:=List.pairwise_mergeSort (le:=fun x y=> !(ltOf lW) y x) (fun a b c h h'=>by
    rw [pX]at*;simp only [Bool.not_eq_true']at*;exact le_trans' h h') (fun a b=>by
    rw [pX,pX];cases nv:di b a
    ·rfl
    ·rw [tC nv];rfl) l.toArray.toList
   refine List.Pairwise.imp ?_ hs;intro a b nv;rw [pX]at nv;simpa using nv
  ·simp
end
end Go.Proofs.YtfleamccglihoaaGreatDoor
namespace Go.Proofs.YtfleamccglihoaaGreatDoor
open Go.Proofs.Tryz
open Go Go.b0 Go.RowKit
theorem C0{l:List HT}{k:Nat}(hk:k<l.length)(x:HT):dv (l.set k x)=iG (dv l) (k*32) x.1.toList:=by
 have h1:l=l.take k++l[k]::l.drop (k+1):=by rw [<-List.drop_eq_getElem_cons hk,List.take_append_drop]
 have e1:(dv (l.take k)).length=k*32:=by rw [ft,List.length_take];omega
 have hx:=x.2.1;have hl:=l[k].2.1;have hs:l.set k x=l.take k++x::l.drop (k+1):=List.set_eq_take_append_cons_drop .. |>.trans (if_pos hk)
 rw [hs]
 conv=>rhs;rw [h1]
 rw [mR,mR,lU,lU];generalize dv (l.take k)=p at e1;generalize dv (l.drop (k+1))=r;have eq:l[k].1.toList.length=32:=by simpa using hl
 have ev:x.1.toList.length=32:=by simpa using hx
 generalize l[k].1.toList=q at eq;generalize x.1.toList=v at ev;unfold iG;rw [List.take_left' e1,ev,show p++(q++r)=(p++q)++r by simp,List.drop_left' (by rw [List.length_append,e1,eq])];simp
theorem cr.setAt{w:World}{B n c b:Nat}{l:List HT}(row:cr w B (some ⟨b,0,none⟩) n c l){k:Nat}(hk:k<n)(x:HT):
 cr (setCells w ⟨b,k*32,none⟩ x.1.toList 0) B (some ⟨b,0,none⟩) n c (l.set k x):=by
 have hlen:=row.len;have hx:=x.2.1;have:=rY x.1.toList (dv l) w (k*32) 0 row (by rw [ft];simp;omega);rw [Nat.add_zero]at this;rw [<-C0 (by omega)]at this;exact this
theorem cr.Oo{w:World}{B n c b:Nat}{l:List HT}(row:cr w B (some ⟨b,0,none⟩) n c l){k:Nat}(hk:k<n)(j:Nat)(hj:j<32):Wr w ((⟨b,k*32,none⟩:Addr).add j):=by
 rw [bD];refine Row.wr row ?_;rw [ft,row.len];omega
theorem cr.cap{w:World}{B:Nat}{A:Option Addr}{n c:Nat}{l:List HT}(row:cr w B A n c l):n<=c:=by
 rcases Row.own row with⟨_,h1,h2,_⟩|⟨_,_,_,_,_,h1,_⟩<;>omega
theorem cr.cut{w w':World}{B n c b:Nat}{l:List HT}(row:cr w B (some ⟨b,0,none⟩) n c l){k:Nat}(hk:k<=n)(vs:List Value)(hv:vs.length=(n-k)*32)(hw:w'=setCells w ⟨b,k*32,none⟩ vs 0):
 cr w' B (some ⟨b,0,none⟩) k c (l.take k):=by
 subst hw;have hlen:=row.len;rcases Row.own row with⟨h,_⟩|⟨b',cur,hA,hB,hg,Gp,o7,nV,zB⟩
 ·cases h
 ·cases hA
  have hle:n*32<=c*32:=Nat.mul_le_mul_right _ Gp;have mF:k*32+0+vs.length<=cur.size:=by omega
  have h1:=lj vs cur w al (k*32) 0 hg mF;refine⟨by rw [ft,List.length_take];omega,.inr ⟨b,c,_,rfl,hB,h1,by omega,o7,?_,?_⟩⟩
  ·have:=mJ (xs:=cur.toList) (k:=k*32+0) (vs:=vs) (by simpa using mF)
   rw [List.size_toArray,this];simpa using nV
  ·have e1:(dv (l.take k)).length=k*32:=by rw [ft,List.length_take];omega
   have e2:(dv l).take (k*32)=dv (l.take k):=by
    conv=>lhs;rw [<-List.take_append_drop k l,mR]
    rw [<-e1,List.take_left'];rfl
   rw [<-e2,<-zB,List.take_take,Nat.min_eq_left (by omega)];unfold iG;simp only [Nat.add_zero];rw [List.append_assoc,List.take_append_of_le_length (by simp;omega),List.take_take,Nat.min_self]
def DQ(P:Program)(e:TypeId):Bool:=
 match P.info? e with
 |some i=>match i.zero with
  |some z=>z.cells.toList.all fun v=>v.oneCell'
  |none=>false
 |none=>false
theorem vo{w:World}{B n c b:Nat}{l:List HT}(row:cr w B (some ⟨b,0,none⟩) n c l){k:Nat}(hk:k<=n)(ty:Nat){A:Option Addr}{cx:Nat}(hA:k<n->A=some ⟨b,k*32,none⟩):
 ∃w',(Builtin.clear_ #[aF] ty #[.slice A (n-k) cx]).run prog w=.ok (.tuple #[]) w'/\cr w' B (some ⟨b,0,none⟩) k c (l.take k)/\Kept (· =b) w w':=by
 have hlen:=row.len;by_cases xi:k<n
 ·obtain⟨i,z,hi,hz,hs,_,Ex⟩:=pK.inf
  have Lv:DQ prog al=true:=by kernel_rfl
  unfold DQ at Lv;rw [hi]at Lv;simp only [hz,List.all_eq_true]at Lv;rw [hA xi];obtain⟨m,hm⟩:∃m,n-k=m+1:=⟨n-k-1,by omega⟩;have XU:(Builtin.zeroCells z.cells (n-k)).toList.length=(n-k)*32:=by simp [Builtin.zeroCells,Ex]
  have nu:=jl (P:=prog) ⟨b,k*32,none⟩ (Builtin.zeroCells z.cells (n-k)).toList 0 w (fun v hv=>by
   simp only [Builtin.zeroCells,Array.toList_map,List.mem_map]at hv;obtain⟨t,ht,rfl⟩:=hv;have:t%z.cells.size<z.cells.size:=Nat.mod_lt _ (by omega);rw [getElem!_pos z.cells _ this];exact Lv _ (by simp)) (fun j hj=>by
   rw [Nat.zero_add,bD];refine Row.wr row ?_;rw [ft];omega)
  refine⟨_,?_,row.cut hk _ XU rfl,hU _ _ _ _⟩;simp only [Builtin.clear_,hm];rw [hm]at nu;simp [run_underlying pK.pD,zeroValue,typeInfo,hi,hz,nu]
 ·have:n=k:=by omega
  subst this;refine⟨w,?_,by rw [List.take_of_length_le (by omega)];exact row,Kept.refl _ _⟩;rw [Nat.sub_self];cases A<;>simp [Builtin.clear_,run_underlying pK.pD]
theorem Fs:∀ {l:List HT},l.length<2->dB l=l
 | [],_=>rfl
 | [_],_=>rfl
 |_::_::_,h=>by simp only [List.length_cons]at h;omega
section
variable{w:World}{B n c:Nat}{A:Option Addr}{l:List HT}{K:Value->World->Prop}
theorem Dq(row:cr w B A n c l)(hle:LE l)(hn:n<=400000)
 (hK:∀A' c' w',cr w' B A' (dB l).length c' (dB l)->(∀k,bH A'=some k->bH A=some k)->Kept (fun k=>bH A=some k) w w'->K (.slice A' (dB l).length c') w'):
 bE prog ah.id #[.slice A n c] w K:=by
 have hlen:=row.len;refine ah.of ?_;refine Split.dec (fun h2=>?_) (fun h2=>?_)
 ·have e:dB l=l:=Fs (by omega)
  have:=hK A c w (by rw [e,hlen];exact row) (fun k h=>h) (Kept.refl _ _);rw [e,hlen]at this;exact this
 obtain⟨b,rfl⟩:=Row.some row (by omega);have I0:=row.cap;refine ah.cJ (I:=fun s w'=>∃k:Nat,s=(none,0,0,(k:Int))/\1<=k/\k<=n/\SS (l.take k)/\Kept Nil w w') (μ:=fun s _=>((n:Int)-s.2.2.2).toNat) (s:=(none,0,0,1))
  ⟨1,rfl,Nat.le_refl _,by omega,?_,Kept.refl _ _⟩ ?_
 ·cases l with
  |nil=>exact List.Pairwise.nil
  |cons x l=>simp [SS]
 rintro s w' ⟨k,rfl,Kg,xi,uU,kw⟩;refine Split.dec (fun jY=>?_) (fun gF=>?_)
 ·simp only at jY
  have CY:k<n:=by omega
  obtain⟨x,hx⟩:∃x,l[k]? =some x:=⟨_,List.getElem?_eq_getElem (by omega)⟩;obtain⟨y,hy⟩:∃y,l[k-1]? =some y:=⟨_,List.getElem?_eq_getElem (by omega)⟩;intro w5;have k5:Kept Nil w w5:=kw.drew;clear_value w5;have lD:cr w5 B (some ⟨b,0,none⟩) n c l:=Row.aK row k5 (fun _ _ h=>h);simp only;rw [wrapM (n:=(k:Int)) (by omega) (by omega)];have nC:di x y=false:=hle.get (by omega) hy hx;refine lD.hs.load (i:=(k:Int)) (by omega) hx (lD.hs.load (i:=(k:Int)-1) (by omega) (by rw [show((k:Int)-1).toNat=k-1 by omega];exact hy) ⟨⟨x.2.ints,y.2.ints⟩,?_⟩);rw [fy];refine Split.dec (fun he=>?_) (fun he=>?_)
  ·refine⟨⟨by omega,by omega⟩,?_⟩
   rw [Int.toNat_natCast];rw [if_neg (show ¬c=k by omega)];simp only [Option.map_some,bD,Nat.zero_add];refine ah.iz (I:=fun s w'=>∃(p j:Nat) (l':List HT),s=((p:Int),(j:Int))/\1<=j/\k<=p/\p<k+j/\k+j<=n/\cr w' B (some ⟨b,0,none⟩) n c l'/\l'.drop (k+j-1)=l.drop (k+j-1)/\SS (l'.take p)/\(∀z,z∈l'.take p↔z∈l.take (k+j))/\Kept (· =b) w w')
    (μ:=fun s _=>((n:Int)-s.2).toNat) (s:=((k:Int),1)) ⟨k,1,l,rfl,Nat.le_refl _,Nat.le_refl _,by omega,by omega,lD,rfl,uU,fun z=>?_,k5.mono fun _ _ h=>h.elim⟩ ?_
   ·rw [bP hx]
    constructor
    ·exact .inl
    ·rintro(h|rfl)
     ·exact h
     ·rw [he]
      have:=bP (z:=y) hy;rw [show k-1+1=k by omega]at this;exact this.2 (.inr rfl)
   rintro s w1 ⟨p,j,l',rfl,hj1,U7,hpj,hjn,nZ,VI,wO,Nu,k1⟩;have Bd:=nZ.len;refine Split.dec (fun Qk=>?_) (fun Qr=>?_)
   ·simp only at Qk
    have uV:k+j<n:=by omega
    obtain⟨u,hu⟩:∃u,l[k+j]? =some u:=⟨_,List.getElem?_eq_getElem (by omega)⟩;obtain⟨v,hv⟩:∃v,l[k+j-1]? =some v:=⟨_,List.getElem?_eq_getElem (by omega)⟩;have Li:l'[k+j]? =some u:=by
     have h:=congrArg (fun m:List HT=>m[1]?) VI;simp only [List.getElem?_drop]at h;rw [show k+j-1+1=k+j by omega]at h;rw [h,hu]
    have hv':l'[k+j-1]? =some v:=by
     have h:=congrArg (fun m:List HT=>m[0]?) VI;simp only [List.getElem?_drop,Nat.add_zero]at h;rw [h,hv]
    intro xE;have JW:Kept (· =b) w xE:=k1.drew;have nY:cr xE B (some ⟨b,0,none⟩) n c l':=Row.aK nZ ((Kept.refl Nil w1).drew) (fun _ _ h=>h);clear_value xE;have vQ:HS xE (some ⟨b,k*32,none⟩) (n-k) (l'.drop k):=by
     have h:=nY.hs.drop (c:=c) I0 (k:=k) (by omega);rw [if_neg (show ¬c=k by omega)]at h;simpa [bD]using h
    have hsu:(l'.drop k)[(j:Int).toNat]? =some u:=by rw [Int.toNat_natCast,List.getElem?_drop];exact Li
    have PM:(l'.drop k)[((j:Int)-1).toNat]? =some v:=by
     rw [show((j:Int)-1).toNat=j-1 by omega,List.getElem?_drop,show k+(j-1)=k+j-1 by omega];exact hv'
    simp-zeta only;rw [wrapM (n:=(j:Int)) (by omega) (by omega)];have huv:di u v=false:=hle.get (by omega) hv hu;refine vQ.load (i:=(j:Int)) (by omega) hsu (vQ.load (i:=(j:Int)-1) (by omega) PM ⟨⟨u.2.ints,v.2.ints⟩,?_⟩);rw [fy,dE (n:=(j:Int)) (by omega) (by omega)];have hmu:∀z,z∈l.take (k+(j+1))↔z∈l'.take p\/z=u:=fun z=>by
     rw [show k+(j+1)=k+j+1 by omega,bP hu,Nu z]
    by_cases heq:u=v
    ·refine Split.no (by rw [decide_eq_true heq];rfl) ?_
     refine⟨((p:Int),(j:Int)+1),rfl,⟨p,j+1,l',rfl,by omega,U7,by omega,by omega,nY,?_,wO,fun z=>?_,JW⟩,by simp only;omega⟩
     ·have h:=congrArg (fun m:List HT=>m.drop 1) VI
      simp only [List.drop_drop]at h;rw [show k+(j+1)-1=k+j-1+1 by omega];exact h
     ·rw [hmu z]
      constructor
      ·exact .inl
      ·rintro(h|rfl)
       ·exact h
       ·refine(Nu _).2 ?_
        rw [heq];exact List.mem_of_getElem? (i:=k+j-1) (by rw [List.getElem?_take,if_pos (by omega)];exact hv)
    ·refine Split.yes (by rw [decide_eq_false heq];rfl) ?_
     refine vQ.load (i:=(j:Int)) (by omega) hsu ⟨⟨by omega,by omega⟩,⟨u.2.1,u.2.one,fun i hi=>?_⟩,?_⟩
     ·rw [Int.toNat_natCast,bD,Nat.zero_add]
      exact nY.Oo (by omega) i hi
     intro G5;have TU:G5=setCells xE ⟨b,p*32,none⟩ u.1.toList 0:=by
      show setCells xE ((⟨b,0,none⟩:Addr).add ((p:Int).toNat*32)) u.1.toList 0=_
      rw [Int.toNat_natCast,bD,Nat.zero_add]
     have SB:cr G5 B (some ⟨b,0,none⟩) n c (l'.set p u):=by rw [TU];exact nY.setAt (by omega) u
     have Ia:Kept (· =b) w G5:=by rw [TU];exact JW.tt (hU _ _ _ _)
     clear_value G5;rw [dE (n:=(p:Int)) (by omega) (by omega)];have zB:(l'.set p u).take (p+1)=l'.take p++ [u]:=by
      rw [List.take_add_one,List.take_set_of_le (Nat.le_refl p),List.getElem?_set_self (by omega)];rfl
     refine⟨((p:Int)+1,(j:Int)+1),rfl,⟨p+1,j+1,l'.set p u,rfl,by omega,by omega,by omega,by omega,SB,?_,?_,fun z=>?_,Ia⟩,by simp only;omega⟩
     ·have h:=congrArg (fun m:List HT=>m.drop 1) VI
      simp only [List.drop_drop]at h;rw [List.drop_set,if_pos (by omega),show k+(j+1)-1=k+j-1+1 by omega];exact h
     ·rw [zB]
      refine E6 wO fun z hz=>?_;obtain⟨i,hi⟩:=List.mem_iff_getElem?.1 ((Nu z).1 hz);rw [List.getElem?_take]at hi;split at hi
      ·rename_i hik
       have hvu:di v u=true:=lt_of_le_ne huv (fun e=>heq e.symm);by_cases e:i=k+j-1
       ·subst e;rw [hv]at hi;cases hi;exact hvu
       ·exact tZ (hle.get (by omega) hi hv) hvu
      ·cases hi
     ·rw [zB,hmu z]
      simp
   ·simp only at Qr
    have hj:k+j=n:=by omega
    rw [aU,ah.ki];unfold ah.jc;refine⟨⟨by omega,by omega⟩,?_⟩;rw [Int.toNat_natCast];obtain⟨w2,hr,ir,k2⟩:=vo nZ (k:=p) (by omega) 0 (A:=if c=p then some ⟨b,0,none⟩else(some ⟨b,0,none⟩:Option Addr).map (·.add (p*32))) (cx:=c-p) (fun hp=>by
     rw [if_neg (by omega)];simp [bD])
    refine⟨_,w2,hr,⟨by omega,by omega⟩,?_⟩;have e:l'.take p=dB l:=yD wO fun z=>by rw [Nu z,hj,List.take_of_length_le (by omega)]
    have el:p=(dB l).length:=by
     have h:=ir.len;rw [e]at h;exact h.symm
    have e0:(if c=0 then(some ⟨b,0,none⟩:Option Addr)else(some ⟨b,0,none⟩:Option Addr).map (·.add (0*32)))=some ⟨b,0,none⟩:=by
     rw [if_neg (by omega)];simp [add_zero]
    rw [e0,Nat.sub_zero,Nat.sub_zero];rw [e,el]at ir;have:=hK (some ⟨b,0,none⟩) c w2 ir (fun k h=>h) ((k1.tt k2).mono fun i _ h=>by rw [h];rfl);rw [<-el]at this;exact this
  ·rw [dE (n:=(k:Int)) (by omega) (by omega)]
   refine⟨(none,0,0,(k:Int)+1),rfl,⟨k+1,rfl,by omega,by omega,?_,k5⟩,by simp only;omega⟩;rw [List.take_add_one,hx];refine E6 uU fun z hz=>?_;have Ey:di y x=true:=lt_of_le_ne nC (fun e=>he e.symm);obtain⟨i,hi⟩:=List.mem_iff_getElem?.1 hz;rw [List.getElem?_take]at hi;split at hi
   ·by_cases e:i=k-1
    ·subst e;rw [hy]at hi;cases hi;exact Ey
    ·exact tZ (hle.get (by omega) hi hy) Ey
   ·cases hi
 ·simp only at gF
  have e:k=n:=by omega
  subst e;rw [aU,ah.dw];rw [List.take_of_length_le (by omega)]at uU;have e:dB l=l:=zX uU;have:=hK (some ⟨b,0,none⟩) c w' (by rw [e,hlen];exact Row.aK row kw (fun _ _ h=>h)) (fun k h=>h) (kw.mono fun _ _ h=>h.elim);rw [e,hlen]at this;exact this
theorem iR(hl:HS w A n l)(hn:n<=400000)
 (hK:∀A' c' w',cr w' w.heap.size A' (dB l).length c' (dB l)->Kept Nil w w'->K (.slice A' (dB l).length c') w'):
 bE prog jL.id #[.slice A n c] w K:=by
 have hlen:=hl.len;refine jL.of ?_;refine dJ.of ?_;unfold dJ.W;intro w2;have k2:Kept Nil w w2:=(Kept.refl _ _).alloc _;have nE:w2.heap[w.heap.size]? =some (.cells #[.slice A n c] aF (0,0)):=aM w _;clear_value w2;refine⟨_,rfl,?_⟩;refine dH.of ?_;refine Dr (xs:=l) aI.at_ (by rfl) (zR (l:=l) ⟨w.heap.size,0,none⟩ (A:=A) (n:=n) (c:=c) (by omega)) (fun w' hk=>⟨(hl.same k2).same hk,by rw [aE (hk.heap nE (fun h=>h))];rfl⟩) (by omega) ?_;intro A4 c4 w4 jW k4;refine⟨A4,_,c4,rfl,?_⟩;refine KB jW (by omega) fun l5 w5 hle jo lD k5=>⟨rfl,?_⟩;refine⟨A4,_,c4,rfl,?_⟩;refine Dq lD hle (by omega) fun A6 c6 w6 yH pZ k6=>⟨A6,_,c6,rfl,?_⟩;have e:dB l5=dB l:=D0 jo;rw [e]at yH⊢;have RZ:∀k,bH A4=some k->w.heap.size<=k:=fun k hk=>Nat.le_trans k2.size (Row.bV jW hk).1;refine hK A6 c6 w6 (Row.base yH fun k hk=>RZ k (pZ k hk)) ?_;exact((k2.tt k4).trans k5 (fun k hk h=>absurd (RZ k h) (by omega))).trans k6 (fun k hk h=>absurd (RZ k h) (by omega))
end
theorem kz{x:Nat}(h:x<18446744073709551616):u64.wrap (x:Int)=(x:Int):=by
 simp only [IntKind.wrap,IntKind.bits,IntKind.signed];simp;omega
theorem orU{x y:Nat}(hx:x<18446744073709551616)(hy:y<18446744073709551616):
 u64.wrap ((BitVec.ofInt 64 (x:Int)|||BitVec.ofInt 64 (y:Int)).toNat:Int)=((x|||y:Nat):Int):=by
 have h:(BitVec.ofInt 64 (x:Int)|||BitVec.ofInt 64 (y:Int)).toNat=x|||y:=by
  rw [BitVec.ofInt_natCast,BitVec.ofInt_natCast,BitVec.toNat_or,BitVec.toNat_ofNat,BitVec.toNat_ofNat,Nat.mod_eq_of_lt (by omega),Nat.mod_eq_of_lt (by omega)]
 rw [h];exact kz (Nat.or_lt_two_pow (n:=64) hx hy)
theorem adu{x y:Nat}(hx:x<18446744073709551616)(hy:y<18446744073709551616):
 u64.wrap ((BitVec.ofInt 64 (x:Int)&&& BitVec.ofInt 64 (y:Int)).toNat:Int)=((x&&& y:Nat):Int):=by
 have h:(BitVec.ofInt 64 (x:Int)&&& BitVec.ofInt 64 (y:Int)).toNat=x&&& y:=by
  rw [BitVec.ofInt_natCast,BitVec.ofInt_natCast,BitVec.toNat_and,BitVec.toNat_ofNat,BitVec.toNat_ofNat,Nat.mod_eq_of_lt (by omega),Nat.mod_eq_of_lt (by omega)]
 rw [h];exact kz (Nat.lt_of_le_of_lt Nat.and_le_left hx)
theorem Zq{i:Nat}(hi:i<64):u64.wrap ((1:Int)*2 ^ (min i 64))=((2 ^ i:Nat):Int):=by
 rw [Nat.min_eq_left (by omega),Int.one_mul];have h:2 ^ i<18446744073709551616:=Nat.pow_lt_pow_right (by omega) (n:=64) hi;have:=kz h;rw [<-this];simp
def bit(ws:List Nat)(i:Nat):Bool:=(ws.getD (i/64) 0).testBit (i%64)
def okW(ws:List Nat):Prop:=∀x∈ws,x<18446744073709551616
theorem zm(i:Nat):bit [] i=false:=by simp [bit]
theorem BE(ws:List Nat)(i:Nat):bit (ws++ [0]) i=bit ws i:=by
 unfold bit
 congr 1
 simp only [List.getD_eq_getElem?_getD,List.getElem?_append];split
 ·rfl
 ·rename_i h
  rw [List.getElem?_eq_none (l:=ws) (by omega)];cases i/64-ws.length<;>simp
theorem EX{ws:List Nat}{q:Nat}(hq:q<ws.length)(v i:Nat):bit (ws.set q v) i=if i/64=q then v.testBit (i%64)else bit ws i:=by
 unfold bit;simp only [List.getD_eq_getElem?_getD,List.getElem?_set];by_cases h:i/64=q
 ·subst h;simp [hq]
 ·rw [if_neg (fun e=>h e.symm),if_neg h]
theorem Eh{ws:List Nat}(h:okW ws){x:Nat}(hx:x<18446744073709551616):okW (ws++ [x]):=fun y hy=>by
 rw [List.mem_append,List.mem_singleton]at hy;rcases hy with hy|rfl
 ·exact h y hy
 ·exact hx
theorem Eg{ws:List Nat}(h:okW ws){x:Nat}(hx:x<18446744073709551616)(q:Nat):okW (ws.set q x):=fun y hy=>by
 rcases List.mem_or_eq_of_mem_set hy with hy|rfl
 ·exact h y hy
 ·exact hx
def us(l:List Nat):List Value:=l.map fun x:Nat=>.int .u64 (x:Int)
theorem pG(l:List Nat):(us l).length=l.length:=by simp [us]
theorem pH{l:List Nat}{j x:Nat}(h:l[j]? =some x):(us l)[j]? =some (.int .u64 (x:Int)):=by simp [us,h]
theorem yB(l:List Nat)(q v:Nat):(us l).set q (.int .u64 (v:Int))=us (l.set q v):=by simp [us,List.map_set]
theorem OB(l m:List Nat):us (l++m)=us l++us m:=by simp [us]
structure US(w:World)(A:Option Addr)(n:Nat)(l:List Nat):Prop where
 len:l.length=n
 at_:∀(i x:Nat),l[i]? =some x->∃a,A=some a/\a.block<w.heap.size/\w.cell? (a.add i)=some (.int .u64 (x:Int))
theorem US.aK{S:Nat->Prop}{w w':World}{A:Option Addr}{n:Nat}{l:List Nat}(h:US w A n l)(hk:Kept S w w')(hn:∀a,A=some a->¬S a.block):US w' A n l:=⟨h.len,fun i x hi=>by
 obtain⟨a,h1,h2,h3⟩:=h.at_ i x hi;exact⟨a,h1,Nat.lt_of_lt_of_le h2 hk.size,hk.cell h3 (by rw [fu];exact hn a h1)⟩⟩
theorem US.load{w:World}{A:Option Addr}{n:Nat}{l:List Nat}(hl:US w A n l){i:Int}{x:Nat}(h0:0<=i)(hx:l[i.toNat]? =some x){k:Int->Prop}(hk:k x):
 (0<=i/\i<(n:Int))/\Is A fun a=>∃t:Int,w.cell? (a.add (i.toNat*1))=some (.int .u64 t)/\k t:=by
 obtain⟨a,rfl,_,hc⟩:=hl.at_ _ x hx;have:=(lgeS hx).1;have:=hl.len;exact⟨⟨h0,by omega⟩,x,by rw [Nat.mul_one];exact hc,hk⟩
theorem OJ:zI prog lM gE 1 8:=⟨by kernel_rfl,by kernel_rfl⟩
abbrev lF(w:World)(B:Nat)(A:Option Addr)(n c:Nat)(l:List Nat):Prop:=Row w B gE 1 A n c (us l)
section
variable{w w':World}{B n c:Nat}{A:Option Addr}{l:List Nat}
theorem lF.len(h:lF w B A n c l):l.length=n:=by have:=Row.len h;rw [pG]at this;omega
theorem lF.us(h:lF w B A n c l):US w A n l:=⟨h.len,fun i x hi=>by
 have hlen:=h.len;have:=(lgeS hi).1;obtain⟨b,rfl⟩:=Row.some h (by omega);obtain⟨_,cur,pY⟩:=Row.bV h (k:=b) rfl;exact⟨_,rfl,bf pY,by rw [bD,Nat.zero_add];exact Row.cell h (pH hi)⟩⟩
theorem HB(i:Nat):((i:Int).tdiv 64)=((i/64:Nat):Int):=by
 rw [Int.tdiv_eq_ediv_of_nonneg (by omega)];omega
theorem OG(i:Nat):((i:Int).tmod 64)=((i%64:Nat):Int):=by
 rw [Int.tmod_eq_emod_of_nonneg (by omega)];omega
theorem uy(h:lF w B A n c l)(hn:n<=1000000)(hB:B<=w.heap.size){t:Nat}(x:Nat):
 ∃A' c' w',(Builtin.append_ #[lM,lM] lM #[.slice A n c,.slice (some ⟨w.heap.size,0,none⟩) 1 1]).run prog (w.alloc (.cells #[.int .u64 (x:Int)] t))=.ok (.slice A' (n+1) c') w'/\
  lF w' B A' (n+1) c' (l++ [x])/\Kept (fun k=>bH A=some k) w w'/\(∀k,bH A'=some k->bH A=some k\/w.heap.size<=k):=by
 have k1:Kept Nil w (w.alloc (.cells #[.int .u64 (x:Int)] t)):=(Kept.refl _ _).alloc _;have hb:=aM w (.cells #[.int .u64 (x:Int)] t);have h1:lF (w.alloc (.cells #[.int .u64 (x:Int)] t)) B A n c l:=Row.aK h k1 (fun _ _ h=>h);obtain⟨A',c',w',hr,fO,hg,uI⟩:=fY (P:=prog) (t:=lM) (ty:=lM) (bytes:=8) OJ h1 (a:=⟨w.heap.size,0,none⟩) (m:=1) (cx:=1) (news:=us [x]) rfl
  (fun j u hj=>by rw [bD,Nat.zero_add,aE hb];simpa [us]using hj) (fun u hu=>by simp [us]at hu;subst hu;rfl) (by omega) (by unfold maxLen;omega) (by have:=k1.size;omega)
 refine⟨A',c',w',hr,?_,?_,fun k hk=>?_⟩
 ·show Row w' B gE 1 A' (n+1) c' (Proofs.YtfleamccglihoaaGreatDoor.us (l++ [x]))
  rw [OB];exact fO
 ·exact(k1.mono (S':=fun k=>bH A=some k) (fun _ _ h=>h.elim)).tt (Kept.grown (S:=fun k=>bH A=some k) (Kept.refl _ _) hg (fun k hk _=>hk))
 ·rcases uI k hk with h|h
  ·exact .inl h
  ·have:=k1.size;exact .inr (by omega)
theorem zZ{b:Nat}(h:lF w B (some ⟨b,0,none⟩) n c l){q:Nat}(hq:q<n)(x:Nat):
 lF (w.setCell ⟨b,q,none⟩ (.int .u64 (x:Int))) B (some ⟨b,0,none⟩) n c (l.set q x):=by
 have:=Row.set h (j:=q) (by rw [pG,h.len];exact hq) (.int .u64 (x:Int));rw [yB]at this;exact this
theorem Ad{K:Value->World->Prop}(h:lF w B A n c l)(ho:okW l)(hn:n<=100000)(hB:B<=w.heap.size){i:Nat}(hi:i<=1000000)
 (hK:∀A' n' c' l' w',lF w' B A' n' c' l'->okW l'->(n'<=n\/n'<=i/64+1)->(∀j,bit l' j=(bit l j||decide (j=i)))->Kept (fun k=>bH A=some k) w w'->(∀k,bH A'=some k->bH A=some k\/w.heap.size<=k)->K (.slice A' n' c') w'):
 bE prog bX.id #[.slice A n c,.int .i64 (i:Int)] w K:=by
 refine bX.of ?_;refine bX.cJ (I:=fun s w'=>∃A' n' c' l',s=(A',n',c')/\lF w' B A' n' c' l'/\okW l'/\(n'<=n\/n'<=i/64+1)/\(∀j,bit l' j=bit l j)/\Kept (fun k=>bH A=some k) w w'/\(∀k,bH A'=some k->bH A=some k\/w.heap.size<=k))
  (μ:=fun s _=>i/64+1-s.2.1) (s:=(A,n,c)) ⟨A,n,c,l,rfl,h,ho,.inl (Nat.le_refl _),fun _=>rfl,Kept.refl _ _,fun k hk=>.inl hk⟩ ?_
 rintro s w' ⟨A',n',c',l',rfl,row,Kf,hn',qO,kw,hb⟩;unfold bX.B1;rw [HB,iY (by omega) (by omega)];refine⟨by omega,?_⟩;refine Split.dec (fun hle=>?_) (fun yi=>?_)
 ·simp only at hle
  have ajq:n'<=i/64:=by omega
  obtain⟨A2,c2,w2,hr,ir,k2,nE⟩:=uy row (by omega) (Nat.le_trans hB kw.size) (t:=gE) 0;intro w6;refine⟨A2,n'+1,c2,w2,hr,?_⟩;refine⟨(A2,n'+1,c2),rfl,⟨A2,n'+1,c2,l'++ [0],rfl,ir,Eh Kf (by omega),by omega,fun j=>by rw [BE,qO],?_,fun k hk=>?_⟩,by simp only;omega⟩
  ·exact kw.trans k2 (fun k hk e=>by
    rcases hb k e with h|h
    ·exact h
    ·omega)
  ·rcases nE k hk with h|h
   ·exact hb k h
   ·exact .inr (Nat.le_trans kw.size h)
 ·simp only at yi
  have dW:i/64<n':=by omega
  rw [aU,bX.dw];unfold bX.df;intro nx;have zy:Kept Nil w' nx:=(Kept.refl _ _).drew;have VI:nx=w'.drew:=rfl;clear_value nx;have vp:lF nx B A' n' c' l':=Row.aK row zy (fun _ _ h=>h);have hlen:=row.len;rw [HB,OG,iY (by omega) (by omega)];obtain⟨b,rfl⟩:=Row.some vp (by omega);obtain⟨x,hx⟩:∃x,l'[i/64]? =some x:=⟨_,List.getElem?_eq_getElem (by omega)⟩;refine⟨by omega,vp.us.load (by omega) (by rw [Int.toNat_natCast];exact hx) ⟨by omega,by omega,⟨⟨by omega,by simp only;omega⟩,?_⟩⟩⟩;have uf:=Kf x (List.mem_of_getElem? hx);have hp:2 ^ (i%64)<18446744073709551616:=Nat.pow_lt_pow_right (by omega) (n:=64) (Nat.mod_lt _ (by omega));simp only [Is,Int.toNat_natCast,Nat.mul_one,bD,Nat.zero_add];rw [Zq (Nat.mod_lt _ (by omega)),orU uf hp];refine⟨Row.wr vp (by rw [pG,hlen];exact dW),?_⟩;have qN:Kept (fun k=>bH A=some k) w (nx.setCell ⟨b,i/64,none⟩ (.int .u64 ((x|||2 ^ (i%64):Nat):Int))):=
   Kept.setCell (kw.trans zy (fun _ _ h=>h.elim)) (p:=⟨b,i/64,none⟩) (fun di=>by
    rcases hb b rfl with h|h
    ·exact h
    ·exact absurd di (by simp only;omega)) _
  refine hK _ _ _ _ _ (zZ vp dW _) (Eg Kf (Nat.or_lt_two_pow (n:=64) uf hp) _) hn' (fun j=>?_) qN hb;rw [EX (by omega),qO];have hbi:bit l' i=x.testBit (i%64):=by unfold bit;rw [List.getD_eq_getElem?_getD,hx];rfl
  by_cases e:j/64=i/64
  ·rw [if_pos e,Nat.testBit_or,Nat.testBit_two_pow]
   have hbj:bit l' j=x.testBit (j%64):=by unfold bit;rw [e,List.getD_eq_getElem?_getD,hx];rfl
   rw [<-hbj,qO]
   congr 1
   exact decide_eq_decide.2 ⟨fun h=>by omega,fun h=>by rw [h]⟩
  ·rw [if_neg e,decide_eq_false (fun h=>e (by rw [h]))]
   simp
end
section
variable{w w':World}{B n c:Nat}{A:Option Addr}{l:List Nat}
theorem xJ{K:Value->World->Prop}(h:lF w B A n c l)(ho:okW l)(hn:n<=100000)(hB:B<=w.heap.size){A2:Option Addr}{n2 c2:Nat}{v:List Nat}(hv:US w A2 n2 v)(hv':okW v)(hn2:n2<=100000)
 (Wm:∀a,A2=some a->∀k,bH A=some k->a.block≠k)
 (hK:∀A' n' c' l' w',lF w' B A' n' c' l'->okW l'->(n'<=n\/n'<=n2)->(∀j,bit l' j=(bit l j||bit v j))->Kept (fun k=>bH A=some k) w w'->(∀k,bH A'=some k->bH A=some k\/w.heap.size<=k)->K (.slice A' n' c') w'):
 bE prog cM.id #[.slice A n c,.slice A2 n2 c2] w K:=by
 have aeW:=hv.len;refine cM.of ?_;refine cM.cJ (I:=fun s w'=>∃(i:Nat) (A':Option Addr) (n' c':Nat) (l':List Nat),s=(A',n',c',(i:Int))/\i<=n2/\lF w' B A' n' c' l'/\okW l'/\i<=n'/\n<=n'/\(n'<=n\/n'<=i)/\(∀j,bit l' j=(bit l j||(decide (j/64<i)&&bit v j)))/\Kept (fun k=>bH A=some k) w w'/\(∀k,bH A'=some k->bH A=some k\/w.heap.size<=k))
  (μ:=fun s _=>((n2:Int)-s.2.2.2).toNat) (s:=(A,n,c,0)) ⟨0,A,n,c,l,rfl,Nat.zero_le _,h,ho,Nat.zero_le _,Nat.le_refl _,.inl (Nat.le_refl _),by simp,Kept.refl _ _,fun k hk=>.inl hk⟩ ?_
 rintro s w' ⟨i,A',n',c',l',rfl,hi,row,Kf,gC,UJ,Yb,qO,kw,hb⟩;have Bd:=row.len;refine Split.dec (fun jY=>?_) (fun gF=>?_)
 ·simp only at jY
  have dW:i<n2:=by omega
  obtain⟨x,hx⟩:∃x,v[i]? =some x:=⟨_,List.getElem?_eq_getElem (by omega)⟩;have uf:=hv' x (List.mem_of_getElem? hx);have hvw:US w' A2 n2 v:=hv.aK kw (fun a ha e=>Wm a ha _ e rfl);refine hvw.load (i:=(i:Int)) (by omega) hx ?_;have step:∀(A2:Option Addr) (n3 c3:Nat) (l3:List Nat) (w3:World),lF w3 B A2 n3 c3 l3->okW l3->i<n3->n<=n3->(n3<=n\/n3<=i+1)->(∀j,bit l3 j=(bit l j||(decide (j/64<i)&&bit v j)))->Kept (fun k=>bH A=some k) w w3->(∀k,bH A2=some k->bH A=some k\/w.heap.size<=k)->
   (0<=(i:Int)/\(i:Int)<(n3:Int))/\Is A2 fun a=>∃t:Int,w3.cell? (a.add ((i:Int).toNat*1))=some (.int .u64 t)/\(0<=(i:Int)/\(i:Int)<(n3:Int))/\Is A2 fun a'=>Wr w3 (a'.add ((i:Int).toNat*1))/\
     ∃(l4:List Nat),
     lF (w3.setCell (a'.add ((i:Int).toNat*1)) (.int .u64 (u64.wrap ((BitVec.ofInt 64 t|||BitVec.ofInt 64 (x:Int)).toNat)))) B A2 n3 c3 l4/\okW l4/\(∀j,bit l4 j=(bit l j||(decide (j/64<i+1)&&bit v j)))/\Kept (fun k=>bH A=some k) w (w3.setCell (a'.add ((i:Int).toNat*1)) (.int .u64 (u64.wrap ((BitVec.ofInt 64 t|||BitVec.ofInt 64 (x:Int)).toNat)))):=by
   intro A2 n3 c3 l3 w3 nJ ho3 hi3 hn3 ajg NO k3 p7;have afr:=nJ.len;obtain⟨b,rfl⟩:=Row.some nJ (by omega);obtain⟨y,hy⟩:∃y,l3[i]? =some y:=⟨_,List.getElem?_eq_getElem (by omega)⟩;have hyl:=ho3 y (List.mem_of_getElem? hy);refine nJ.us.load (i:=(i:Int)) (by omega) hy ⟨⟨by omega,by omega⟩,?_⟩;simp only [Is,Int.toNat_natCast,Nat.mul_one,bD,Nat.zero_add];rw [orU hyl uf];refine⟨Row.wr nJ (by rw [pG];omega),l3.set i (y|||x),zZ nJ hi3 _,Eg ho3 (Nat.or_lt_two_pow (n:=64) hyl uf) _,fun j=>?_,?_⟩
   ·rw [EX (by omega),NO]
    have C5:j/64=i->bit v j=x.testBit (j%64):=fun e=>by unfold bit;rw [e,List.getD_eq_getElem?_getD,hx];rfl
    have Kj:j/64=i->bit l3 j=y.testBit (j%64):=fun e=>by unfold bit;rw [e,List.getD_eq_getElem?_getD,hy];rfl
    by_cases e:j/64=i
    ·rw [if_pos e,Nat.testBit_or,<-Kj e,<-C5 e,NO]
     rw [decide_eq_false (show ¬j/64<i by omega),decide_eq_true (show j/64<i+1 by omega)];simp
    ·rw [if_neg e]
     congr 2
     exact decide_eq_decide.2 (by omega)
   ·refine Kept.setCell k3 (p:=⟨b,i,none⟩) (fun di=>?_) _
    rcases p7 b rfl with h|h
    ·exact h
    ·exact absurd di (by simp only;omega)
  by_cases he:i=n'
  ·refine Split.yes (by simp [he]) ?_
   obtain⟨Hg,Dw,w2,hr,ir,k2,nE⟩:=uy row (by omega) (Nat.le_trans hB kw.size) (t:=gE) 0;intro w10;refine⟨Hg,n'+1,Dw,w2,hr,?_⟩;have st:=step Hg (n'+1) Dw (l'++ [0]) w2 ir (Eh Kf (by omega)) (by omega) (by omega) (by omega) (fun j=>by rw [BE,qO])
    (kw.trans k2 (fun k hk e=>by
      rcases hb k e with h|h
      ·exact h
      ·omega)) (fun k hk=>by
      rcases nE k hk with h|h
      ·exact hb k h
      ·exact .inr (Nat.le_trans kw.size h))
   clear step;obtain⟨s1,s2⟩:=st;refine⟨s1,?_⟩;cases Hg with
   |none=>exact s2.elim
   |some a=>
    obtain⟨t,s3,s4,s5,l4,s6,s7,s8,s9⟩:=s2;refine⟨t,s3,s4,s5,?_⟩;intro nf;simp only;rw [dE (n:=(i:Int)) (by omega) (by omega)];exact⟨(some a,n'+1,Dw,(i:Int)+1),rfl,⟨i+1,some a,n'+1,Dw,l4,rfl,dW,s6,s7,by omega,by omega,by omega,s8,s9,fun k hk=>by
     rcases nE k hk with h|h
     ·exact hb k h
     ·exact .inr (Nat.le_trans kw.size h)⟩,by simp only;omega⟩
  ·refine Split.no (beq_eq_false_iff_ne.2 (by simp only;omega)) ?_
   have st:=step A' n' c' l' w' row Kf (by omega) UJ (by omega) qO kw hb;clear step;obtain⟨s1,s2⟩:=st;refine⟨s1,?_⟩;cases A' with
   |none=>exact s2.elim
   |some a=>
    obtain⟨t,s3,s4,s5,l4,s6,s7,s8,s9⟩:=s2;refine⟨t,s3,s4,s5,?_⟩;intro nf;simp only;rw [dE (n:=(i:Int)) (by omega) (by omega)];exact⟨(some a,n',c',(i:Int)+1),rfl,⟨i+1,some a,n',c',l4,rfl,dW,s6,s7,by omega,UJ,by omega,s8,s9,hb⟩,by simp only;omega⟩
 ·simp only at gF
  have:i=n2:=by omega
  subst this;rw [aU,cM.dw];refine hK A' n' c' l' w' row Kf (by omega) (fun j=>?_) kw hb;rw [qO]
  congr 1
  by_cases e:j/64<i
  ·rw [decide_eq_true e];simp
  ·rw [decide_eq_false e]
   unfold bit;rw [List.getD_eq_getElem?_getD,List.getElem?_eq_none (by omega)];simp
end
theorem BI:∀k m:Nat,(2 ^ k*(2*m+1))&&& (2 ^ k*(2*m+1)-1)=2 ^ (k+1)*m
 |0,m=>by
  apply Nat.eq_of_testBit_eq;intro i;rw [Nat.testBit_and];cases i with
  |zero=>simp [Nat.testBit_zero]
  |succ i=>
   simp only [Nat.testBit_succ];rw [show(2 ^ 0*(2*m+1))/2=m by omega,show(2 ^ 0*(2*m+1)-1)/2=m by omega,show 2 ^ (0+1)*m/2=m by omega];simp
 |k+1,m=>by
  have ih:=BI k m;have hp:0<2 ^ k*(2*m+1):=Nat.mul_pos (Nat.pow_pos (by omega)) (by omega);rw [show 2 ^ (k+1)*(2*m+1)=2*(2 ^ k*(2*m+1))by rw [Nat.pow_succ];ac_rfl,show 2 ^ (k+1+1)*m=2*(2 ^ (k+1)*m)by rw [Nat.pow_succ 2 (k+1)];ac_rfl];generalize 2 ^ k*(2*m+1)=x at ih hp⊢;rw [<-ih];apply Nat.eq_of_testBit_eq;intro i;rw [Nat.testBit_and];cases i with
  |zero=>simp [Nat.testBit_zero]
  |succ i=>
   simp only [Nat.testBit_succ];rw [show 2*x/2=x by omega,show(2*x-1)/2=x-1 by omega,show 2*(x&&& (x-1))/2=x&&& (x-1)by omega,Nat.testBit_and]
theorem Ej{x:Nat}(h0:x≠0)(hx:x<18446744073709551616):Lib.ctz 64 x<64/\x.testBit (Lib.ctz 64 x)=true/\∀t,(x&&& (x-1)).testBit t=(x.testBit t&&decide (t≠Lib.ctz 64 x)):=by
 obtain⟨m,h1,h2⟩:=Lib.ctzFrom_spec 64 x (by omega) hx;have e:Lib.ctz 64 x=Lib.ctzFrom 64 x:=by unfold Lib.ctz;rw [if_neg h0]
 rw [e];generalize Lib.ctzFrom 64 x=k at h1 h2⊢;have hand:x&&& (x-1)=2 ^ (k+1)*m:=by rw [h1];exact BI k m
 have hb:∀t,x.testBit t=(decide (t>=k)&&(2*m+1).testBit (t-k)):=fun t=>by rw [h1,Nat.testBit_two_pow_mul]
 refine⟨h2,by rw [hb];simp,fun t=>?_⟩;rw [hand,Nat.testBit_two_pow_mul,hb];by_cases ht:t=k
 ·subst ht
  simp;intro h;omega
 ·rw [decide_eq_true ht,Bool.and_true]
  by_cases hk:t>=k
  ·obtain⟨d,hd⟩:∃d,t-k=d+1:=⟨t-k-1,by omega⟩
   rw [decide_eq_true hk,decide_eq_true (show t>=k+1 by omega),hd,show t-(k+1)=d by omega,Nat.testBit_succ,show(2*m+1)/2=m by omega]
  ·rw [decide_eq_false hk,decide_eq_false (show ¬t>=k+1 by omega)]
   simp
theorem zq{x:Nat}(h0:x≠0):x&&& (x-1)<x:=Nat.lt_of_le_of_lt Nat.and_le_right (by omega)
def vJ(x:Nat):List Nat:=if h:x=0 then []else Lib.ctz 64 x::vJ (x&&& (x-1))
termination_by x
decreasing_by exact zq h
theorem xV:vJ 0= []:=by rw [vJ];simp
theorem xX{x:Nat}(h0:x≠0):vJ x=Lib.ctz 64 x::vJ (x&&& (x-1)):=by rw [vJ,dif_neg h0]
theorem xW:∀(x:Nat),x<18446744073709551616->(∀t,t∈vJ x↔x.testBit t=true)/\(vJ x).Nodup/\∀t∈vJ x,t<64:=by
 intro x
 induction x using Nat.strongRecOn with
 |_ x ih=>
  intro hx;by_cases h0:x=0
  ·subst h0;rw [xV];simp
  ·obtain⟨h1,h2,h3⟩:=Ej h0 hx
   obtain⟨i1,i2,i3⟩:=ih _ (zq h0) (Nat.lt_trans (zq h0) hx);rw [xX h0];refine⟨fun t=>?_,?_,fun t ht=>?_⟩
   ·rw [List.mem_cons,i1,h3]
    by_cases e:t=Lib.ctz 64 x
    ·rw [e,h2];simp
    ·simp [e]
   ·rw [List.nodup_cons,i1,h3]
    exact⟨by simp,i2⟩
   ·rcases List.mem_cons.1 ht with rfl|ht
    ·exact h1
    ·exact i3 t ht
def pU:Nat->List Nat->List Nat
 |_,[]=> []
 |k,x::ws=>(vJ x).map (64*k+ ·)++pU (k+1) ws
theorem JA(x:Nat)(ws:List Nat)(j:Nat):bit (x::ws) j=if j<64 then x.testBit j else bit ws (j-64):=by
 unfold bit;split
 ·rename_i h
  rw [show j/64=0 by omega,show j%64=j by omega];rfl
 ·rename_i h
  rw [show j/64=(j-64)/64+1 by omega,show j%64=(j-64)%64 by omega];rfl
theorem pW:∀(ws:List Nat) (k j:Nat),okW ws->(j∈pU k ws↔64*k<=j/\bit ws (j-64*k)=true)
 | [],k,j,_=>by simp [pU,bit]
 |x::ws,k,j,ho=>by
  obtain⟨h1,_,h3⟩:=xW x (ho x (by simp));have ih:=pW ws (k+1) j (fun y hy=>ho y (by simp [hy]));rw [pU,List.mem_append,ih,JA,List.mem_map];constructor
  ·rintro(⟨t,ht,rfl⟩|⟨h,hb⟩)
   ·have:=h3 t ht
    refine⟨by omega,?_⟩;rw [if_pos (by omega),show 64*k+t-64*k=t by omega];exact(h1 t).1 ht
   ·refine⟨by omega,?_⟩
    rw [if_neg (by omega),show j-64*k-64=j-64*(k+1)by omega];exact hb
  ·rintro⟨h,hb⟩
   split at hb
   ·exact .inl ⟨j-64*k,(h1 _).2 hb,by omega⟩
   ·refine .inr ⟨by omega,?_⟩
    rw [show j-64*(k+1)=j-64*k-64 by omega];exact hb
theorem vB:∀ {l m:List Nat},l.Nodup->(∀x∈l,x∈m)->l.length<=m.length
 | [],_,_,_=>Nat.zero_le _
 |x::l,m,hn,h=>by
  rw [List.nodup_cons]at hn;have hx:=h x (by simp);have:=vB (l:=l) (m:=m.erase x) hn.2 (fun y hy=>by
   have fW:y≠x:=fun e=>hn.1 (e▸hy);exact(List.mem_erase_of_ne fW).2 (h y (by simp [hy])))
  rw [List.length_erase_of_mem hx]at this;have jS:0<m.length:=List.length_pos_of_mem hx;simp only [List.length_cons];omega
def sS(w:World):Prop:=TabAt (Tryz.kF.g 1) Lib.deBruijn64tab w
theorem sS.aK{S:Nat->Prop}{w w':World}(h:sS w)(hk:Kept S w w')(hn:¬S (Tryz.kF.g 1)):sS w':=fun j hj=>hk.cell (h j hj) hn
theorem sS.same{w w':World}(h:sS w)(hk:Kept Nil w w'):sS w':=h.aK hk fun h=>h
theorem sS.lt{w:World}(h:sS w):Tryz.kF.g 1<w.heap.size:=World.block_lt_of_cell? w _ (h 0 (by decide))
section
variable{w:World}{K:Value->World->Prop}
theorem Sn{x:Nat}(hx:x<18446744073709551616)(hT:sS w)(hK:K (.int .i64 (Lib.ctz 64 x:Nat)) w):bE prog bits_TrailingZeros64.id #[.int .u64 (x:Int)] w K:=by
 refine Calls.mono (Any7.bits_TrailingZeros64 Tryz.tzL x hx w (fun _=>hT)) ?_;rintro e w' ⟨rfl,rfl⟩;exact⟨_,rfl,hK⟩
abbrev encI(i:Nat):List Value:= [.int .i64 (i:Int)]
theorem JD(p:Addr){A:Option Addr}{n c:Nat}{l:List Nat}(hn:n<=100000)(ho:okW l):
 oA prog aL.id #[] #[.pointer (some p)] ((pU 0 l).map encI) (fun w=>US w A n l/\w.cell? p=some (.slice A n c)/\sS w):=by
 intro y I D w0 hI hD sG h0 rC;refine aL.of ?_;obtain⟨wP,RN,_⟩:=sG 0 w0 h0;have hlen:=wP.len;refine⟨A,n,c,RN,?_⟩;refine aL.cJ (I:=fun s w'=>∃(i:Nat) (dn:List Nat),s=(i:Int)/\i<=n/\dn++pU i (l.drop i)=pU 0 l/\I dn.length w') (μ:=fun s _=>((n:Int)-s).toNat) (s:=0) ⟨0,[],rfl,Nat.zero_le _,rfl,h0⟩ ?_;rintro s w' ⟨i,dn,rfl,hi,IZ,hw⟩;refine Split.dec (fun jY=>?_) (fun gF=>?_)
 ·have dW:i<n:=by omega
  obtain⟨x,hx⟩:∃x,l[i]? =some x:=⟨_,List.getElem?_eq_getElem (by omega)⟩;have uf:=ho x (List.mem_of_getElem? hx);have hl:=(sG _ w' hw).1;have vX:l.drop i=x::l.drop (i+1):=by
   obtain⟨h1,h2⟩:=lgeS hx;rw [List.drop_eq_getElem_cons h1,h2]
  rw [vX,pU]at IZ;refine hl.load (i:=(i:Int)) (by omega) hx ?_;refine aL.iz (I:=fun s w'=>∃(v:Nat) (dn:List Nat),s=(v:Int)/\v<18446744073709551616/\dn++((vJ v).map (64*i+ ·)++pU (i+1) (l.drop (i+1)))=pU 0 l/\I dn.length w') (μ:=fun s _=>s.toNat) (s:=(x:Int)) ⟨x,dn,rfl,uf,IZ,hw⟩ ?_;clear hw IZ;rintro s w1 ⟨v,YM,rfl,hv,IY,J0⟩;by_cases h0:v=0
  ·refine Split.no (by subst h0;rfl) ?_
   rw [aU,aL.ki];unfold aL.jc;rw [dE (n:=(i:Int)) (by omega) (by omega)];rw [h0,xV,List.map_nil,List.nil_append]at IY;exact⟨(i:Int)+1,rfl,⟨i+1,YM,rfl,dW,IY,J0⟩,by simp only;omega⟩
  ·refine Split.yes (bne_iff_ne.2 (by omega)) ?_
   have hpr:=sG _ w1 J0;obtain⟨hk,Ny,hkr⟩:=Ej h0 hv;rw [xX h0,List.map_cons,List.cons_append]at IY;refine Sn hv hpr.2.2 ⟨_,rfl,?_⟩;have gX:((pU 0 l).map encI)[YM.length]? =some (encI (64*i+Lib.ctz 64 v)):=by
    rw [List.getElem?_map,<-IY,List.getElem?_append_right (Nat.le_refl _),Nat.sub_self];rfl
   have CK:i64.wrap (i64.wrap ((64:Int)*(i:Int))+((Lib.ctz 64 v:Nat):Int))=((64*i+Lib.ctz 64 v:Nat):Int):=by
    rw [iY (x:=(64:Int)*(i:Int)) (by omega) (by omega),iY (by omega) (by omega)];omega
   rw [CK];refine(rC YM.length _ w1 gX J0).mono ?_;rintro b mD ⟨ht,hf⟩;have nP:u64.wrap ((BitVec.ofInt 64 (v:Int)&&& BitVec.ofInt 64 (u64.wrap ((v:Int)-(1:Int)))).toNat:Int)=((v&&& (v-1):Nat):Int):=by
    have e1:(v:Int)-1=((v-1:Nat):Int):=by omega
    rw [e1,kz (x:=v-1) (by omega),adu hv (by omega)]
   cases b with
   |true=>
    refine Split.no rfl ?_;rw [nP];have di:=zq h0;refine⟨((v&&& (v-1):Nat):Int),rfl,⟨v&&& (v-1),YM++ [64*i+Lib.ctz 64 v],rfl,by omega,by rw [List.append_assoc];exact IY,?_⟩,by simp only;omega⟩;rw [List.length_append];exact ht rfl
   |false=>
    refine Split.yes rfl ?_;exact Or.inr (hf rfl)
 ·rw [aU,aL.dw]
  have e:i=n:=by omega
  subst e;refine Or.inl ?_;rw [List.drop_eq_nil_of_le (by omega),pU,List.append_nil]at IZ;rw [List.length_map,<-IZ];exact hw
end
def pos(h:HT):List HT->Nat->Option Nat
 | [],_=>none
 |x::l,i=>if h=x then some i else pos h l (i+1)
theorem pR{h:HT}:∀ {l:List HT} {i:Nat},pos h l i=none↔h∉l
 | [],i=>by simp [pos]
 |x::l,i=>by
  unfold pos;split
  ·rename_i e;simp [e]
  ·rename_i e
   rw [pR (l:=l)];simp [e]
theorem vw{h:HT}:∀ {l:List HT} {i j:Nat},pos h l i=some j->i<=j/\l[j-i]? =some h
 | [],i,j,e=>by simp [pos]at e
 |x::l,i,j,e=>by
  unfold pos at e;split at e
  ·rename_i hx
   cases e;subst hx;exact⟨Nat.le_refl _,by rw [Nat.sub_self];rfl⟩
  ·obtain⟨h1,h2⟩:=vw e
   refine⟨by omega,?_⟩;rw [show j-i=(j-(i+1))+1 by omega];exact h2
theorem lJ{h:HT}:∀ {l:List HT} (i j:Nat),l.Nodup->l[j]? =some h->pos h l i=some (i+j)
 | [],i,j,_,e=>by simp at e
 |x::l,i,0,_,e=>by
  simp only [List.getElem?_cons_zero,Option.some.injEq]at e;unfold pos;rw [if_pos e.symm];simp
 |x::l,i,j+1,hn,e=>by
  simp only [List.getElem?_cons_succ]at e;rw [List.nodup_cons]at hn;unfold pos;rw [if_neg (fun hx=>hn.1 (by rw [<-hx];exact List.mem_of_getElem? e)),lJ (i+1) j hn.2 e]
  congr 1
  omega
section
variable{w:World}
theorem Kx:prog.underlying al=some (.array 32 jt):=by kernel_rfl
theorem OC:prog.underlying jt=some (.int .u8):=by kernel_rfl
theorem MZ:∃i,prog.info? jt=some i/\i.size=1:=by
 have h:(match prog.info? jt with|some i=>Nat.beq i.size 1|none=>false)=true:=by kernel_rfl
 split at h
 ·rename_i i hi;exact⟨i,hi,Nat.eq_of_beq_eq_true h⟩
 ·cases h
theorem OD:prog.underlying cV=some (.map al im):=by kernel_rfl
theorem vm(a b:HT)(w:World):(Op.equal al (.agg a.1) (.agg b.1)).run prog w=.ok (decide (a=b)) w:=by
 obtain⟨i,hi,h1⟩:=MZ;have:=pM (P:=prog) 9998 w Kx OC hi h1 a.2.ints b.2.ints;rw [fy]at this;simp only [Op.equal,Op.maxDepth];exact this
theorem jI(h:HT)(em:Bool)(w:World):(Instr.checkKey em 10000 al (.agg h.1)).run prog w=.ok () w:=by
 obtain⟨i,hi,h1⟩:=MZ;have hc:prog.cellsOf jt=1:=by simp [Program.cellsOf,hi,h1]
 rw [show(10000:Nat)=9999+1 from rfl,Instr.checkKey];simp only [Sem.run_bind,run_underlying Kx,Result.andThen_ok];simp only [Std.Legacy.Range.forIn_eq_forIn_range',Std.Legacy.Range.size,Nat.sub_zero,Nat.add_one_sub_one,Nat.div_one];have each:∀j∈List.range' 0 32,∃v,h.1[j]? =some v/\∃x:Int,v=.int .u8 x:=fun j hj=>by
  have vU:j<h.1.size:=by rw [h.2.1];simpa using hj
  obtain⟨x,hx,_⟩:=h.2.2 h.1[j] (by simp);exact⟨_,Array.getElem?_eq_getElem vU,x,hx⟩
 generalize List.range' 0 32=is at each
 induction is with
 |nil=>simp
 |cons j is ih=>
  obtain⟨v,hv,x,rfl⟩:=each j (by simp);have LY:(isAgg jt).run prog w=.ok false w:=by simp [isAgg,run_underlying OC]
  have p1:(part jt h.1 (j*1)).run prog w=.ok (.int .u8 x) w:=by simp [part,LY,hv]
  have p2:(Instr.checkKey em 9999 jt (.int .u8 x)).run prog w=.ok () w:=by
   rw [show(9999:Nat)=9998+1 from rfl,Instr.checkKey];simp [run_underlying OC]
  simp only [List.forIn_cons,Sem.run_bind,Go.b0.run_sizeOf hi w,hc,Result.andThen_ok,p1,p2,Sem.run_pure];exact ih (fun y hy=>each y (by simp [hy]))
def BO(es:List MapEntry)(l:List HT)(i:Nat):Prop:=match es,l with
 | [],[]=>True
 |e::es,h::l=>(e.key=.agg h.1/\e.val=.int .i64 (i:Int))/\BO es l (i+1)
 |_,_=>False
theorem BO.snoc:∀ {es:List MapEntry} {l:List HT} {i:Nat} {e:MapEntry} {h:HT},BO es l i->e.key=.agg h.1->e.val=.int .i64 ((i+l.length:Nat):Int)->BO (es++ [e]) (l++ [h]) i
 | [],[],i,e,h,_,h1,h2=>⟨⟨h1,by simpa using h2⟩,trivial⟩
 |x::es,y::l,i,e,h,he,h1,h2=>⟨he.1,BO.snoc he.2 h1 (by rw [h2];congr 2;simp;omega)⟩
 | [],_::_,_,_,_,he,_,_=>he.elim
 |_::_,[],_,_,_,he,_,_=>he.elim
theorem r6(h:HT)(w:World):∀(es:List MapEntry) (l:List HT) (i:Nat),BO es l i->
 (Instr.findAsking al (.agg h.1) es i).run prog w=.ok ((pos h l i).map fun j=>(j,.int .i64 (j:Int))) w
 | [],[],i,_=>by simp [Instr.findAsking,pos]
 |e::es,x::l,i,he=>by
  have hq:=vm h x w;have ih:=r6 h w es l (i+1) he.2;simp only [Instr.findAsking,he.1.1,Sem.run_bind,hq,Result.andThen_ok];by_cases hx:h=x
  ·simp [hx,pos,he.1.2]
  ·simp [hx,pos,ih]
 | [],_::_,_,he=>he.elim
 |_::_,[],_,he=>he.elim
theorem oG(h:HT)(w:World){es:List MapEntry}{l:List HT}(he:BO es l 0):
 (Instr.findKey al (.agg h.1) es).run prog w=.ok ((pos h l 0).map fun j=>(j,.int .i64 (j:Int))) w:=by
 have h1:=r6 h w es l 0 he;simp only [Instr.findKey,Sem.run_bind,run_underlying Kx,Result.andThen_ok];cases es with
 |nil=>
  cases l with
  |nil=>simp [Instr.findNow,pos]
  |cons x l=>exact he.elim
 |cons e es=>
  have:Instr.findNow (.array 32 jt) (.agg h.1) (e::es) 0=none:=by
   simp only [Instr.findNow,Instr.sameNow]
  rw [this];exact h1
theorem qf{r:Nat}{es:Array MapEntry}{clock:Nat}(hb:w.heap[r]? =some (.map es clock)):(getObj r).run prog w=.ok (.map es clock) w:=by
 simp [getObj,Sem.run,hb]
theorem Ck{r:Nat}{es:Array MapEntry}{clock:Nat}(o:Obj)(hb:w.heap[r]? =some (.map es clock)):(setObj r o).run prog w=.ok () {w with heap:=w.heap.setIfInBounds r o}:=by
 simp [setObj,Sem.run,hb]
structure IsMap(w:World)(m:Nat)(l:List HT):Prop where
 ex:∃es clock,w.heap[m]? =some (.map es clock)/\BO es.toList l 0
theorem IsMap.aK{S:Nat->Prop}{w w':World}{m:Nat}{l:List HT}(h:IsMap w m l)(hk:Kept S w w')(hn:¬S m):IsMap w' m l:=by
 obtain⟨es,clock,h1,h2⟩:=h.ex;exact⟨es,clock,hk.heap h1 hn,h2⟩
theorem IsMap.lt{w:World}{m:Nat}{l:List HT}(h:IsMap w m l):m<w.heap.size:=by
 obtain⟨es,clock,h1,_⟩:=h.ex;exact bf h1
theorem IsMap.look{m:Nat}{l:List HT}(hm:IsMap w m l)(h:HT):
 (Instr.lookup cV (.map (some m)) (.agg h.1) true).run prog w=.ok (.tuple #[.int .i64 (((pos h l 0).getD 0:Nat):Int),.bool (pos h l 0).isSome]) w:=by
 obtain⟨es,clock,h1,h2⟩:=hm.ex;have h3:=oG h w h2;simp only [Instr.lookup,Sem.run_bind,run_underlying OD,qf h1,Result.andThen_ok,Sem.run_pure,jI,h3];cases hp:pos h l 0<;>simp
theorem IsMap.xY{m:Nat}{l:List HT}(hm:IsMap w m l)(h:HT):
 (Instr.lookup cV (.map (some m)) (.agg h.1) false).run prog w=.ok (.int .i64 (((pos h l 0).getD 0:Nat):Int)) w:=by
 obtain⟨es,clock,h1,h2⟩:=hm.ex;have h3:=oG h w h2;simp only [Instr.lookup,Sem.run_bind,run_underlying OD,qf h1,Result.andThen_ok,Sem.run_pure,jI,h3];cases hp:pos h l 0<;>simp
theorem IsMap.put{m:Nat}{l:List HT}(hm:IsMap w m l){h:HT}(hn:h∉l):
 ∃w',(Instr.mapUpdate cV (.map (some m)) (.agg h.1) (.int .i64 ((l.length:Nat):Int))).run prog w=.ok () w'/\IsMap w' m (l++ [h])/\Kept (· =m) w w':=by
 obtain⟨es,clock,h1,h2⟩:=hm.ex;have h3:=oG h w h2;rw [pR.2 hn]at h3;refine⟨{w with heap:=w.heap.setIfInBounds m (.map (es.push {key:=.agg h.1,val:=.int .i64 ((l.length:Nat):Int),born:=clock}) (clock+1))},?_,⟨es.push {key:=.agg h.1,val:=.int .i64 ((l.length:Nat):Int),born:=clock},clock+1,?_,?_⟩,?_⟩
 ·simp only [Instr.mapUpdate,Sem.run_bind,run_underlying OD,qf h1,Result.andThen_ok,jI,h3,Option.map_none,Ck _ h1]
 ·simp [bf h1]
 ·have:=h2.snoc (e:= {key:=.agg h.1,val:=.int .i64 ((l.length:Nat):Int),born:=clock}) (h:=h) rfl (by simp)
  simpa using this
 ·exact⟨rfl,rfl,rfl,by simp,fun k _ hk=>by simp [Ne.symm hk]⟩
end
end Go.Proofs.YtfleamccglihoaaGreatDoor
namespace Go.Proofs.YtfleamccglihoaaGreatDoor
open Go.Proofs.Tryz
open Go Go.b0
structure DN where
 id:HT
 ps:List HT
abbrev DG:=List DN
def ids(D:DG):List HT:=D.map (·.id)
def oV(D:DG)(p h:HT):Prop:=∃nd∈D,nd.id=h/\p∈nd.ps
inductive fH (D:DG):HT->HT->Prop
 |one {p h:HT}:oV D p h->fH D p h
 |more {a p h:HT}:fH D a p->oV D p h->fH D a h
theorem fH.trans{D:DG}{a b c:HT}(h:fH D a b)(h':fH D b c):fH D a c:=by
 induction h' with
 |one hp=>exact .more h hp
 |more _ hp ih=>exact .more ih hp
structure kr(D:DG):Prop where
 pos:0<D.length
 nodup:(ids D).Nodup
 ss:∀nd∈D,SS nd.ps
 up:∀(i:Nat) nd p,D[i]? =some nd->p∈nd.ps->∃(j:Nat) (m:DN),j<i/\D[j]? =some m/\m.id=p
theorem iK(D:DG):(ids D).length=D.length:=by simp [ids]
theorem qE{D:DG}{i:Nat}{nd:DN}(h:D[i]? =some nd):(ids D)[i]? =some nd.id:=by simp [ids,h]
theorem It{D:DG}{i:Nat}{h:HT}(e:(ids D)[i]? =some h):∃nd,D[i]? =some nd/\nd.id=h:=by
 unfold ids at e;rw [List.getElem?_map]at e;cases hd:D[i]? with
 |none=>rw [hd]at e;cases e
 |some nd=>rw [hd]at e;exact⟨nd,rfl,by simpa using e⟩
theorem eF{D:DG}{h:HT}:h∈ids D↔∃nd∈D,nd.id=h:=by simp [ids]
section
variable{D:DG}
theorem kr.inj(W:kr D){i j:Nat}{a b:DN}(ha:D[i]? =some a)(hb:D[j]? =some b)(e:a.id=b.id):i=j:=by
 have h1:=lJ 0 i W.nodup (qE ha);have h2:=lJ 0 j W.nodup (qE hb);rw [e,h2]at h1;simpa using h1.symm
theorem kr.pos_eq(W:kr D){i:Nat}{nd:DN}(h:D[i]? =some nd):Proofs.YtfleamccglihoaaGreatDoor.pos nd.id (ids D) 0=some i:=by
 have:=lJ 0 i W.nodup (qE h)
 rwa [Nat.zero_add]at this
theorem oV.at_(W:kr D){p h:HT}(hp:oV D p h):∃(i j:Nat) (m nd:DN),i<j/\D[i]? =some m/\D[j]? =some nd/\m.id=p/\nd.id=h/\p∈nd.ps:=by
 obtain⟨nd,gU,rfl,sF⟩:=hp;obtain⟨j,hj⟩:=List.mem_iff_getElem?.1 gU;obtain⟨i,m,sH,hm,e⟩:=W.up j nd p hj sF;exact⟨i,j,m,nd,sH,hm,hj,e,rfl,sF⟩
theorem fH.at_(W:kr D){a h:HT}(hp:fH D a h):∃(i j:Nat) (m nd:DN),i<j/\D[i]? =some m/\D[j]? =some nd/\m.id=a/\nd.id=h:=by
 induction hp with
 |one hp=>
  obtain⟨i,j,m,nd,h1,h2,h3,h4,h5,_⟩:=hp.at_ W;exact⟨i,j,m,nd,h1,h2,h3,h4,h5⟩
 |more _ hp ih=>
  obtain⟨i,j,m,nd,h1,h2,h3,h4,h5⟩:=ih;obtain⟨i',j',m',nd',um,v7,EP,YB,h5',_⟩:=hp.at_ W;have e:=W.inj h3 v7 (by rw [h5,YB]);exact⟨i,j',m,nd',by omega,h2,EP,h4,h5'⟩
theorem fH.irrefl(W:kr D)(a:HT):¬fH D a a:=fun h=>by
 obtain⟨i,j,m,nd,h1,h2,h3,h4,h5⟩:=h.at_ W;have:=W.inj h2 h3 (by rw [h4,h5]);omega
theorem fH.mem(W:kr D){a h:HT}(hp:fH D a h):a∈ids D/\h∈ids D:=by
 obtain⟨i,j,m,nd,_,h2,h3,h4,h5⟩:=hp.at_ W;exact⟨eF.2 ⟨m,List.mem_of_getElem? h2,h4⟩,eF.2 ⟨nd,List.mem_of_getElem? h3,h5⟩⟩
theorem EY(W:kr D){i:Nat}{nd:DN}(h:D[i]? =some nd)(a:HT):fH D a nd.id↔∃p∈nd.ps,a=p\/fH D a p:=by
 have key:∀ {p},oV D p nd.id->p∈nd.ps:=fun⟨nd',hm,e,hp⟩=>by
  obtain⟨j,hj⟩:=List.mem_iff_getElem?.1 hm;have:=W.inj h hj e.symm;subst this;rw [h]at hj;cases hj;exact hp
 constructor
 ·intro ha
  generalize he:nd.id=x at ha;cases ha with
  |one hp=>subst he;exact⟨a,key hp,.inl rfl⟩
  |more zc hp=>subst he;exact⟨_,key hp,.inr zc⟩
 ·rintro⟨p,hp,e⟩
  have mz:oV D p nd.id:=⟨nd,List.mem_of_getElem? h,rfl,hp⟩;rcases e with rfl|e
  ·exact .one mz
  ·exact .more e mz
theorem oh{nd:DN}{p h:HT}:oV (D++ [nd]) p h↔oV D p h\/(nd.id=h/\p∈nd.ps):=by
 unfold oV;constructor
 ·rintro⟨m,hm,e,hp⟩
  rw [List.mem_append,List.mem_singleton]at hm;rcases hm with hm|rfl
  ·exact .inl ⟨m,hm,e,hp⟩
  ·exact .inr ⟨e,hp⟩
 ·rintro(⟨m,hm,e,hp⟩|⟨e,hp⟩)
  ·exact⟨m,by simp [hm],e,hp⟩
  ·exact⟨nd,by simp,e,hp⟩
theorem jM(W:kr D){nd:DN}(hn:nd.id∉ids D){a h:HT}(hh:h∈ids D):fH (D++ [nd]) a h↔fH D a h:=by
 constructor
 ·intro ha
  induction ha with
  |one hp=>
   rcases oh.1 hp with hp|⟨e,_⟩
   ·exact .one hp
   ·subst e;exact absurd hh hn
  |more _ hp ih=>
   rcases oh.1 hp with hp|⟨e,_⟩
   ·exact .more (ih (fH.mem W (.one hp)).1) hp
   ·subst e;exact absurd hh hn
 ·intro ha
  induction ha with
  |one hp=>exact .one (oh.2 (.inl hp))
  |more zc hp ih=>exact .more (ih (fH.mem W zc).2) (oh.2 (.inl hp))
theorem lT(D:DG)(nd:DN):ids (D++ [nd])=ids D++ [nd.id]:=by simp [ids]
theorem kr.snoc(W:kr D){nd:DN}(hn:nd.id∉ids D)(sF:∀p∈nd.ps,p∈ids D)(hs:SS nd.ps):kr (D++ [nd]) where
 pos:=by simp
 nodup:=by
  rw [lT,List.nodup_append];refine⟨W.nodup,by simp,fun a ha b hb=>?_⟩;rw [List.mem_singleton]at hb;subst hb;exact fun e=>hn (e▸ha)
 ss:=fun m hm=>by
  rw [List.mem_append,List.mem_singleton]at hm;rcases hm with hm|rfl
  ·exact W.ss m hm
  ·exact hs
 up:=fun i m p hi hp=>by
  rw [List.getElem?_append]at hi;split at hi
  ·rename_i di
   obtain⟨j,q,h1,h2,h3⟩:=W.up i m p hi hp;exact⟨j,q,h1,by rw [List.getElem?_append_left (by omega)];exact h2,h3⟩
  ·rename_i gF
   have:m=nd:=by
    cases hk:i-D.length with
    |zero=>rw [hk]at hi;simpa using hi.symm
    |succ k=>rw [hk]at hi;simp at hi
   subst this;obtain⟨q,hq,e⟩:=eF.1 (sF p hp);obtain⟨j,hj⟩:=List.mem_iff_getElem?.1 hq;have uV:=(lgeS hj).1;exact⟨j,q,by omega,by rw [List.getElem?_append_left uV];exact hj,e⟩
end
theorem kr.root(r:HT):kr [⟨r,[]⟩] where
 pos:=by simp
 nodup:=by simp [ids]
 ss:=fun nd h=>by simp at h;subst h;exact List.Pairwise.nil
 up:=fun i nd p h hp=>by
  cases i with
  |zero=>simp at h;subst h;simp at hp
  |succ i=>simp at h
def dT(D:DG)(h:HT)(l:List HT):Int:=
 if h∈ids D then 7 else if(dB l).length=0\/(dB l).length≠l.length then 9 else if ∃p∈dB l,p∉ids D then 6 else 0
def mB(D:DG)(h:HT)(l:List HT):DG:=if dT D h l=0 then D++ [⟨h,dB l⟩]else D
theorem lO{D:DG}{h:HT}{l:List HT}(e:dT D h l=0):h∉ids D/\l≠ []/\l.Nodup/\∀p∈dB l,p∈ids D:=by
 unfold dT at e;split at e
 ·cases e
 ·rename_i h1
  split at e
  ·cases e
  ·rename_i h2
   split at e
   ·cases e
   ·rename_i h3
    simp only [not_or,Decidable.not_not]at h2;refine⟨h1,fun hl=>h2.1 (by rw [hl];rfl),sn h2.2,fun p hp=>Classical.byContradiction fun hn=>h3 ⟨p,hp,hn⟩⟩
theorem kr.add{D:DG}(W:kr D)(h:HT)(l:List HT):kr (mB D h l):=by
 unfold mB;split
 ·rename_i e
  obtain⟨h1,_,_,h4⟩:=lO e;exact W.snoc h1 h4 (jy l)
 ·exact W
open Classical in
noncomputable def pick(D:DG)(is:HT->Prop):List HT:=dB ((ids D).filter fun a=>decide (is a))
theorem km{D:DG}{is:HT->Prop}{a:HT}:a∈pick D is↔a∈ids D/\is a:=by
 unfold pick;rw [dV,List.mem_filter];simp
theorem Ef{D:DG}{is:HT->Prop}{l:List HT}(h:∀a,a∈l↔a∈ids D/\is a):dB l=pick D is:=D0 fun x=>by
 rw [h,List.mem_filter];simp
theorem og(D:DG)(is:HT->Prop):(pick D is).length<=D.length:=by
 unfold pick;refine Nat.le_trans (ny _) (Nat.le_trans (List.length_filter_le _ _) ?_);rw [iK];exact Nat.le_refl _
noncomputable def eM(D:DG)(l:List HT):List HT:=pick D fun a=>∃h∈l,fH D a h
noncomputable def iB(D:DG)(h:HT):List HT:=pick D fun a=>oV D h a
open Go.RowKit
structure NS(w:World)(F:Nat->Prop)(A:Option Addr)(n:Nat)(l:List DN):Prop where
 len:l.length=n
 at_:∀(i:Nat) nd,l[i]? =some nd->∃a pA pn pc,A=some a/\a.block<w.heap.size/\F a.block/\Cells w (a.add (i*33)) (nd.id.1.push (.slice pA pn pc))/\HS w pA pn nd.ps/\∀b,pA=some b->F b.block
section
variable{w w':World}{F F' S:Nat->Prop}{A:Option Addr}{n:Nat}{l:List DN}
theorem NS.aK(h:NS w F A n l)(hk:Kept S w w')(hn:∀k,F k->¬S k):NS w' F A n l:=⟨h.len,fun i nd hi=>by
 obtain⟨a,pA,pn,pc,h1,h2,h3,h4,h5,h6⟩:=h.at_ i nd hi;exact⟨a,pA,pn,pc,h1,Nat.lt_of_lt_of_le h2 hk.size,h3,Cells.aK h4 hk (by rw [fu];exact hn _ h3),h5.aK hk (fun b hb=>hn _ (h6 b hb)),h6⟩⟩
theorem NS.mono(h:NS w F A n l)(hf:∀k,F k->F' k):NS w F' A n l:=⟨h.len,fun i nd hi=>by
 obtain⟨a,pA,pn,pc,h1,h2,h3,h4,h5,h6⟩:=h.at_ i nd hi;exact⟨a,pA,pn,pc,h1,h2,hf _ h3,h4,h5,fun b hb=>hf _ (h6 b hb)⟩⟩
theorem vv{h:HT}{v:Value}{j:Nat}{u:Value}(hj:h.1[j]? =some u):(h.1.push v)[j]? =some u:=by
 have di:=(Array.getElem?_eq_some_iff.1 hj).1;rw [Array.getElem?_push,if_neg (by omega),hj]
theorem qz(h:HT)(v:Value):(h.1.push v)[32]? =some v:=by
 have:=h.2.1;rw [Array.getElem?_push,if_pos (by omega)]
theorem NS.id(h:NS w F A n l){i:Int}{nd:DN}(h0:0<=i)(hx:l[i.toNat]? =some nd){k:Array Value->Prop}(hk:k nd.id.1):
 (0<=i/\i<(n:Int))/\Is A fun a=>∃t:Array Value,(t.size=32/\Cells w ((a.add (i.toNat*33)).add 0) t)/\k t:=by
 obtain⟨a,pA,pn,pc,rfl,_,_,h4,_,_⟩:=h.at_ _ nd hx;have:=(lgeS hx).1;have:=h.len;refine⟨⟨h0,by omega⟩,nd.id.1,⟨nd.id.2.1,fun j v hj=>?_⟩,hk⟩;rw [add_zero];exact h4 j v (vv hj)
theorem NS.ps(h:NS w F A n l){i:Int}{nd:DN}(h0:0<=i)(hx:l[i.toNat]? =some nd){k:Option Addr->Nat->Nat->Prop}(hk:∀pA pn pc,HS w pA pn nd.ps->(∀b,pA=some b->F b.block)->k pA pn pc):
 (0<=i/\i<(n:Int))/\Is A fun a=>∃pA pn pc,w.cell? ((a.add (i.toNat*33)).add 32)=some (.slice pA pn pc)/\k pA pn pc:=by
 obtain⟨a,pA,pn,pc,rfl,_,_,h4,h5,h6⟩:=h.at_ _ nd hx;have:=(lgeS hx).1;have:=h.len;exact⟨⟨h0,by omega⟩,pA,pn,pc,h4 32 _ (qz _ _),hk _ _ _ h5 h6⟩
theorem NS.cells(h:NS w F A n l):∀k,k<=n->∃news:List Value,news.length=k*33/\(∀a,A=some a->∀j u,news[j]? =some u->w.cell? (a.add j)=some u)/\(∀u∈news,u.oneCell'=true)/\
 ∀(i:Nat) nd,i<k->l[i]? =some nd->∃pA pn pc,HS w pA pn nd.ps/\(∀b,pA=some b->F b.block)/\∀(j:Nat) v,(nd.id.1.push (.slice pA pn pc))[j]? =some v->news[i*33+j]? =some v
 |0,_=>⟨[],rfl,by simp,by simp,by intro i nd hi;omega⟩
 |k+1,hk=>by
  obtain⟨news,e1,e2,e3,e4⟩:=h.cells k (by omega);have hlen:=h.len;obtain⟨nd,gU⟩:∃nd,l[k]? =some nd:=⟨_,List.getElem?_eq_getElem (by omega)⟩;obtain⟨a,pA,pn,pc,hA,h2,h3,h4,h5,h6⟩:=h.at_ _ nd gU;have mF:(nd.id.1.push (.slice pA pn pc)).size=33:=by rw [Array.size_push,nd.id.2.1]
  refine⟨news++(nd.id.1.push (.slice pA pn pc)).toList,by rw [List.length_append,e1,Array.length_toList,mF];omega,fun a' zc j u hj=>?_,fun u hu=>?_,fun i md hi yh=>?_⟩
  ·rw [List.getElem?_append]at hj
   split at hj
   ·exact e2 a' zc j u hj
   ·rename_i gF
    rw [hA]at zc;cases zc;have:=h4 (j-news.length) u (by rw [<-Array.getElem?_toList];exact hj)
    rwa [lY,show k*33+(j-news.length)=j by omega]at this
  ·rw [List.mem_append]at hu
   rcases hu with hu|hu
   ·exact e3 u hu
   ·simp only [Array.toList_push,List.mem_append,List.mem_singleton]at hu
    rcases hu with hu|rfl
    ·exact nd.id.2.one u hu
    ·rfl
  ·by_cases hik:i<k
   ·obtain⟨qA,qn,qc,f1,f2,f3⟩:=e4 i md hik yh
    exact⟨qA,qn,qc,f1,f2,fun j v hj=>by
     have:=f3 j v hj;rw [List.getElem?_append_left (lgeS this).1];exact this⟩
   ·have:i=k:=by omega
    subst this;rw [gU]at yh;cases yh;exact⟨pA,pn,pc,h5,h6,fun j v hj=>by
     rw [List.getElem?_append_right (by omega),e1,show i*33+j-i*33=j by omega,Array.getElem?_toList];exact hj⟩
theorem yE:zI prog cZ b6 33 56:=⟨by kernel_rfl,by kernel_rfl⟩
theorem EV:R8 prog b6=some ([(0,32),(32,1)],List.replicate 32 (.int .u8 0)++ [.slice none 0 0]):=by kernel_rfl
theorem GO(h:HT)(A:Option Addr)(n c:Nat):prog.built b6 [(0,.agg h.1),(1,.slice A n c)]=some (h.1.push (.slice A n c)):=by
 have hs:=h.2.1;rw [ow EV,jw (off:=0) (size:=32) rfl (by simpa [Value.cells]using hs) (by simp),jw (off:=32) (size:=1) rfl rfl (by
  rw [List.size_toArray,mJ (by simp [Value.cells,hs])];simp)]
 simp only [Instr.fill,Option.some.injEq];apply Array.ext';unfold iG;simp [Value.cells,hs]
structure uO(w:World)(F:Nat->Prop)(r:Nat)(D:DG):Prop where
 ex:∃(A:Option Addr) (c:Nat) (cs:Array Value) (t:TypeId),w.heap[r]? =some (.cells cs t (0,0))/\cs[0]? =some (.slice A D.length c)/\NS w F A D.length D
 iV:¬F r
theorem uO.aK{r:Nat}{D:DG}(h:uO w F r D)(hk:Kept S w w')(hr:¬S r)(hn:∀k,F k->¬S k):uO w' F r D:=by
 obtain⟨A,c,cs,t,h1,h0,h2⟩:=h.ex;exact⟨⟨A,c,cs,t,hk.heap h1 hr,h0,h2.aK hk hn⟩,h.iV⟩
theorem uO.same{r:Nat}{D:DG}(h:uO w F r D)(hk:Kept Nil w w'):uO w' F r D:=h.aK hk (fun h=>h) (fun _ _ h=>h)
theorem uO.lt{r:Nat}{D:DG}(h:uO w F r D):r<w.heap.size:=by obtain⟨A,c,cs,t,h1,_⟩:=h.ex;exact bf h1
theorem uO.go{r:Nat}{D:DG}(h:uO w F r D){k:Option Addr->Nat->Nat->Prop}(hk:∀A c,NS w F A D.length D->k A D.length c):
 ∃A n m,w.cell? ((⟨r,0,none⟩:Addr).add 0)=some (.slice A n m)/\k A n m:=by
 obtain⟨A,c,cs,t,h1,h0,h2⟩:=h.ex;exact⟨A,_,c,by rw [add_zero,aE h1];exact h0,hk A c h2⟩
theorem uO.go'{r:Nat}{D:DG}(h:uO w F r D)(kw:Kept Nil w w'){k:Option Addr->Nat->Nat->Prop}(hk:∀A c,NS w F A D.length D->k A D.length c):
 ∃A n m,w'.cell? ((⟨r,0,none⟩:Addr).add 0)=some (.slice A n m)/\k A n m:=by
 obtain⟨A,c,cs,t,h1,h0,h2⟩:=h.ex;exact⟨A,_,c,by rw [add_zero,aE (kw.heap h1 (fun h=>h))];exact h0,hk A c h2⟩
theorem NS.ps'(h:NS w F A n l)(kw:Kept Nil w w'){i:Int}{nd:DN}(h0:0<=i)(hx:l[i.toNat]? =some nd){k:Option Addr->Nat->Nat->Prop}(hk:∀pA pn pc,HS w pA pn nd.ps->k pA pn pc):
 (0<=i/\i<(n:Int))/\Is A fun a=>∃pA pn pc,w'.cell? ((a.add (i.toNat*33)).add 32)=some (.slice pA pn pc)/\k pA pn pc:=by
 obtain⟨a,pA,pn,pc,rfl,_,_,h4,h5,h6⟩:=h.at_ _ nd hx;have:=(lgeS hx).1;have:=h.len;exact⟨⟨h0,by omega⟩,pA,pn,pc,(kw.cell (h4 32 _ (qz _ _)) (fun h=>h)),hk _ _ _ h5⟩
def He(D:DG)(h:HT):Int:=match pos h (ids D) 0 with|some j=>(j:Int)|none=> -1
theorem qH{D:DG}{h:HT}:He D h<0↔h∉ids D:=by
 unfold He;rw [<-pR (l:=ids D) (i:=0)];cases hp:pos h (ids D) 0<;>simp
theorem rJ{D:DG}{h:HT}:He D h>=0↔h∈ids D:=by
 have:= @qH D h;constructor
 ·intro hg;exact Classical.byContradiction fun hn=>by have:=this.2 hn;omega
 ·intro hm;exact Classical.byContradiction fun hn=>this.1 (by omega) hm
theorem Mp{D:DG}{h:HT}(hm:h∈ids D):∃nd,He D h>=0/\D[(He D h).toNat]? =some nd/\nd.id=h:=by
 have h1:=rJ.2 hm;unfold He at*;cases hp:pos h (ids D) 0 with
 |none=>rw [hp]at h1;simp at h1
 |some j=>
  obtain⟨_,h2⟩:=vw hp;obtain⟨nd,h3,h4⟩:=It h2;exact⟨nd,by simp,by simpa using h3,h4⟩
theorem yW{D:DG}{i:Nat}{nd:DN}(h:D[i]? =some nd):(ids D).take (i+1)=(ids D).take i++ [nd.id]:=by
 rw [List.take_add_one,qE h];rfl
theorem xO{h:HT}:∀ {l:List HT} {i k:Nat},h∉l.take k->l[k]? =some h->pos h l i=some (i+k)
 | [],_,_,_,e=>by simp at e
 |x::l,i,0,_,e=>by
  simp only [List.getElem?_cons_zero,Option.some.injEq]at e;unfold pos;rw [if_pos e.symm,Nat.add_zero]
 |x::l,i,k+1,hn,e=>by
  simp only [List.getElem?_cons_succ]at e;rw [List.take_succ_cons,List.mem_cons,not_or]at hn;unfold pos;rw [if_neg hn.1,xO (i:=i+1) hn.2 e]
  congr 1
  omega
variable{r:Nat}{D:DG}{K:Value->World->Prop}
theorem oK(H:uO w F r D)(hD:D.length<=1000000)(h:HT)(hK:∀w',Kept Nil w w'->K (.int .i64 (He D h)) w'):
 bE prog bO.id #[.pointer (some ⟨r,0,none⟩),.agg h.1] w K:=by
 refine bO.of ?_;unfold bO.W;intro w3;have k3:Kept Nil w w3:=(Kept.refl Nil w).alloc _;have p7:w3.heap[w.heap.size]? =some (.cells h.1 al (0,0)):=aM w _;clear_value w3;refine bO.cJ (I:=fun s w'=>∃i:Nat,s=(0,(i:Int))/\i<=D.length/\Kept Nil w3 w'/\h∉(ids D).take i) (μ:=fun s _=>((D.length:Int)-s.2).toNat) (s:=(0,0)) ⟨0,rfl,Nat.zero_le _,Kept.refl _ _,by simp⟩ ?_;rintro s w' ⟨i,rfl,hi,kw,mG⟩;have kk:Kept Nil w w':=k3.tt kw;refine(H.same kk).go fun A c uh=>?_;refine Split.dec (fun jY=>?_) (fun gF=>?_)
 ·simp only at jY
  have dW:i<D.length:=by omega
  obtain⟨nd,gU⟩:∃nd,D[i]? =some nd:=⟨_,List.getElem?_eq_getElem dW⟩;intro w10;have rR:Kept Nil w3 w10:=kw.drew;have F7:Kept Nil w w10:=k3.tt rR;clear_value w10;refine(H.same F7).go fun A c uh=>?_;refine uh.id (i:=(i:Int)) (by omega) (by rw [Int.toNat_natCast];exact gU) ⟨h.1,⟨h.2.1,Cells.bV (rR.heap p7 (fun h=>h))⟩,⟨nd.id.2.ints,h.2.ints⟩,?_⟩;rw [fy];refine Split.dec (fun he=>?_) (fun he=>?_)
  ·have:=hK w10 F7
   unfold He at this;rw [xO (i:=0) mG (by rw [<-he];exact qE gU),Nat.zero_add]at this;exact this
  ·simp only
   rw [dE (n:=(i:Int)) (by omega) (by omega)];refine⟨(0,(i:Int)+1),rfl,⟨i+1,rfl,dW,rR,?_⟩,by simp only;omega⟩;rw [yW gU,List.mem_append,List.mem_singleton,not_or];exact⟨mG,fun e=>he e.symm⟩
 ·simp only at gF
  rw [aU,bO.dw];rw [List.take_of_length_le (by rw [iK];omega)]at mG;have:=hK w' kk;unfold He at this;rw [pR.2 mG]at this;exact this
end
section
variable{w w':World}{F F' S:Nat->Prop}{A:Option Addr}{n c B:Nat}{l:List DN}{news:List Value}{r:Nat}{D:DG}{K:Value->World->Prop}
theorem FT(h:Row w B b6 33 A n c news)(hl:l.length=n)(hF:∀k,bH A=some k->F k)
 (hc:∀(i:Nat) nd,l[i]? =some nd->∃pA pn pc,HS w pA pn nd.ps/\(∀b,pA=some b->F b.block)/\∀(j:Nat) v,(nd.id.1.push (.slice pA pn pc))[j]? =some v->news[i*33+j]? =some v):NS w F A n l:=
 ⟨hl,fun i nd hi=>by
   obtain⟨pA,pn,pc,h1,h2,h3⟩:=hc i nd hi;have:=(lgeS hi).1;obtain⟨b,rfl⟩:=Row.some h (by omega);obtain⟨_,cur,pY⟩:=Row.bV h (k:=b) rfl;exact⟨_,pA,pn,pc,rfl,bf pY,hF b rfl,fun j v hj=>by rw [lY];exact Row.cells h _ _ (h3 j v hj),h1,h2⟩⟩
theorem yy(h:NS w F A n l){cx:Nat}(h0:0<n)(hn:n<=100000):
 ∃A' c' w' news,(Builtin.append_ #[cZ,cZ] cZ #[.slice none 0 0,.slice A n cx]).run prog w=.ok (.slice A' n c') w'/\
  Row w' w.heap.size b6 33 A' n c' news/\Kept Nil w w'/\
  ∀(i:Nat) nd,l[i]? =some nd->∃pA pn pc,HS w pA pn nd.ps/\(∀b,pA=some b->F b.block)/\∀(j:Nat) v,(nd.id.1.push (.slice pA pn pc))[j]? =some v->news[i*33+j]? =some v:=by
 obtain⟨news,e1,e2,e3,e4⟩:=h.cells n (Nat.le_refl _);have hlen:=h.len;obtain⟨nd,gU⟩:∃nd,l[0]? =some nd:=⟨_,List.getElem?_eq_getElem (by omega)⟩;obtain⟨a,_,_,_,rfl,_⟩:=h.at_ _ nd gU;obtain⟨A',c',w',hr,fO,hg,hb⟩:=fY (P:=prog) (t:=cZ) (ty:=cZ) (bytes:=56) yE (Row.nil w w.heap.size _ _) (a:=a) (m:=n) (cx:=cx) (news:=news) e1 (e2 a rfl) e3 (by omega) (by unfold maxLen;omega) (Nat.le_refl _);rw [Nat.zero_add]at hr fO;rw [List.nil_append]at fO;exact⟨A',c',w',news,hr,fO,Kept.dX (Kept.refl _ _) hg (fun k hk=>by cases hk),fun i nd hi=>e4 i nd (by have:=(lgeS hi).1;omega) hi⟩
theorem yz(h:Row w B b6 33 A n c news)(hn:n<=100000)(hB:B<=w.heap.size){b:Nat}{arr:Array Value}(hb:w.heap[b]? =some (.cells arr b6 (0,0)))(hs:arr.size=33)(h1:∀u∈arr.toList,u.oneCell'=true):
 ∃A' c' w',(Builtin.append_ #[cZ,cZ] cZ #[.slice A n c,.slice (some ⟨b,0,none⟩) 1 1]).run prog w=.ok (.slice A' (n+1) c') w'/\
  Row w' B b6 33 A' (n+1) c' (news++arr.toList)/\w.grownBy w' (bH A):=by
 obtain⟨A',c',w',hr,fO,hg,hb⟩:=fY (P:=prog) (t:=cZ) (ty:=cZ) (bytes:=56) yE h (a:=⟨b,0,none⟩) (m:=1) (cx:=1) (news:=arr.toList) (by simpa using hs)
  (fun j u hj=>by rw [bD,Nat.zero_add,aE hb];simpa using hj) h1 (by omega) (by unfold maxLen;omega) hB
 exact⟨A',c',w',hr,fO,hg⟩
theorem KL{nd:DN}{pA:Option Addr}{pn pc:Nat}(h:Row w B b6 33 A (n+1) c (news++(nd.id.1.push (.slice pA pn pc)).toList))(zE:news.length=n*33)(hl:l.length=n)(hF:∀k,bH A=some k->F k)
 (hc:∀(i:Nat) nd,l[i]? =some nd->∃pA pn pc,HS w pA pn nd.ps/\(∀b,pA=some b->F b.block)/\∀(j:Nat) v,(nd.id.1.push (.slice pA pn pc))[j]? =some v->news[i*33+j]? =some v)
 (hp:HS w pA pn nd.ps) (Ke:∀b,pA=some b->F b.block):NS w F A (n+1) (l++ [nd]):=by
 refine FT h (by simp [hl]) hF fun i md hi=>?_;rw [List.getElem?_append]at hi;split at hi
 ·obtain⟨qA,qn,qc,h1,h2,h3⟩:=hc i md hi
  exact⟨qA,qn,qc,h1,h2,fun j v hj=>by
   have:=h3 j v hj;rw [List.getElem?_append_left (lgeS this).1];exact this⟩
 ·rename_i gF
  have Gt:i=n/\md=nd:=by
   cases hk:i-l.length with
   |zero=>rw [hk]at hi;exact⟨by omega,by simpa using hi.symm⟩
   |succ k=>rw [hk]at hi;simp at hi
  obtain⟨rfl,rfl⟩:=Gt;exact⟨pA,pn,pc,hp,Ke,fun j v hj=>by
   rw [List.getElem?_append_right (by omega),zE,show i*33+j-i*33=j by omega,Array.getElem?_toList];exact hj⟩
theorem NS.same(h:NS w F A n l)(hk:Kept Nil w w'):NS w' F A n l:=h.aK hk fun _ _ h=>h
theorem uO.mono(h:uO w F r D)(hf:∀k,F k->F' k)(hr:¬F' r):uO w F' r D:=by
 obtain⟨A,c,cs,t,h1,h0,h2⟩:=h.ex;exact⟨⟨A,c,cs,t,h1,h0,h2.mono hf⟩,hr⟩
theorem Ak(h:HT)(A:Option Addr)(n c:Nat):∀u∈(h.1.push (.slice A n c)).toList,u.oneCell'=true:=fun u hu=>by
 simp only [Array.toList_push,List.mem_append,List.mem_singleton]at hu;rcases hu with hu|rfl
 ·exact h.2.one u hu
 ·rfl
theorem Ec(H:uO w F r D)(W:kr D)(hD:D.length<=10000){h:HT}{lp:List HT}{A:Option Addr}{n c:Nat}(hl:HS w A n lp)(hn:n<=400000)
 (hK:∀w',uO w' (fun k=>F k\/(w.heap.size<=k/\k<w'.heap.size)) r (mB D h lp)->Kept (· =r) w w'->K (.int .i64 (dT D h lp)) w'):
 bE prog bJ.id #[.pointer (some ⟨r,0,none⟩),.agg h.1,.slice A n c] w K:=by
 have aay:=H.lt;have hlen:=hl.len;have mG:∀w',Kept Nil w w'->∀e,dT D h lp=e->e≠0->K (.int .i64 e) w':=fun w' k e he fW=>by
  have:=hK w' ?_ (k.mono fun _ _ h=>h.elim)
  ·rw [he]at this;exact this
  ·unfold mB
   rw [if_neg (by rw [he];exact fW)];exact(H.same k).mono (fun _ h=>.inl h) (fun e=>e.elim H.iV (fun h=>absurd h.1 (by omega)))
 refine bJ.of ?_;unfold bJ.W;intro w4;have k4:Kept Nil w w4:=(Kept.refl _ _).alloc _;have ui:w4.heap[w.heap.size]? =some (.cells h.1 al (0,0)):=aM w _;clear_value w4;refine⟨h.1,⟨h.2.1,Cells.bV ui⟩,oK (H.same k4) (by omega) h fun w7 k7=>⟨_,rfl,Split.dec (fun gF=>?_) (fun Qb=>?_)⟩⟩
 ·refine mG w7 (k4.tt k7) 7 ?_ (by omega)
  unfold dT;rw [if_pos (rJ.1 gF)]
 have y5:h∉ids D:=fun hm=>Qb (rJ.2 hm);have CA:Kept Nil w w7:=k4.tt k7;refine oI (hl.same CA) hn fun Hi Kp w10 Eb rR=>⟨Hi,_,Kp,rfl,?_⟩;have F7:Kept Nil w w10:=CA.tt rR;have BT:(dB lp).length<=n:=by have:=ny lp;omega
 by_cases h0:(dB lp).length=0
 ·refine Split.yes (by simp [h0]) ?_
  refine mG w10 F7 9 ?_ (by omega);unfold dT;rw [if_neg y5,if_pos (.inl h0)]
 refine Split.no (beq_eq_false_iff_ne.2 (by omega)) ?_;by_cases h1:(dB lp).length≠n
 ·refine Split.yes (bne_iff_ne.2 (by omega)) ?_
  refine mG w10 F7 9 ?_ (by omega);unfold dT;rw [if_neg y5,if_pos (.inr (by omega))]
 replace h1:(dB lp).length=n:=by omega
 refine Split.no (by rw [h1];simp) ?_;refine bJ.cJ (I:=fun s w'=>∃i:Nat,s=(0,(i:Int))/\i<=(dB lp).length/\(∀p∈(dB lp).take i,p∈ids D)/\Kept Nil w10 w') (μ:=fun s _=>(((dB lp).length:Int)-s.2).toNat) (s:=(0,0)) ⟨0,rfl,Nat.zero_le _,by simp,Kept.refl _ _⟩ ?_;rintro s w' ⟨i,rfl,hi,cY,kw⟩;have kk:Kept Nil w w':=F7.tt kw;have Zp:cr w' w7.heap.size Hi (dB lp).length Kp (dB lp):=Row.aK Eb kw (fun _ _ h=>h);refine Split.dec (fun jY=>?_) (fun gF=>?_)
 ·simp only at jY
  have dW:i<(dB lp).length:=by omega
  obtain⟨x,hx⟩:∃x,(dB lp)[i]? =some x:=⟨_,List.getElem?_eq_getElem dW⟩;refine Zp.hs.load (i:=(i:Int)) (by omega) hx (oK (H.same kk) (by omega) x fun w2 k2=>⟨_,rfl,Split.dec (fun Bb=>?_) (fun jS=>?_)⟩)
  ·have XR:=qH.1 Bb
   refine mG w2 (kk.tt k2) 6 ?_ (by omega);unfold dT;rw [if_neg y5,if_neg (by omega),if_pos ⟨x,List.mem_of_getElem? hx,XR⟩]
  ·simp only
   rw [dE (n:=(i:Int)) (by omega) (by omega)];refine⟨(0,(i:Int)+1),rfl,⟨i+1,rfl,dW,fun p hp=>?_,kw.tt k2⟩,by simp only;omega⟩;rcases(bP hx).1 hp with hp|rfl
   ·exact cY p hp
   ·exact rJ.1 (by omega)
 ·simp only at gF
  rw [List.take_of_length_le (by omega)]at cY;have VR:dT D h lp=0:=by
   unfold dT;rw [if_neg y5,if_neg (by omega),if_neg (fun⟨p,hp,Lr⟩=>Lr (cY p hp))]
  have hD':mB D h lp=D++ [⟨h,dB lp⟩]:=by unfold mB;rw [if_pos VR]
  rw [VR,hD']at hK;have NZ:=W.pos;rw [aU,bJ.dw];unfold bJ.df;intro DT;have Pb:Kept Nil w DT:=kk.drew;have Im:Kept Nil w10 DT:=kw.drew;have aie:DT.heap=w'.heap:=rfl;clear_value DT;have Wg:DT.heap[w.heap.size]? =some (.cells h.1 al (0,0)):=(Im.heap (rR.heap (k7.heap ui (fun h=>h)) (fun h=>h)) (fun h=>h));obtain⟨A,c,ak8,t27,Iy,VO,uh⟩:=(H.same Pb).ex;refine⟨A,_,c,by rw [add_zero,aE Iy];exact VO,h.1,⟨h.2.1,Cells.bV Wg⟩,?_⟩;rw [GO];have mF:(h.1.push (.slice Hi (dB lp).length Kp)).size=33:=by rw [Array.size_push,h.2.1]
  have ajl:∀ {v},Kept Nil w v->w.heap.size<=v.heap.size:=fun k=>k.size;have ac4:∀b,Hi=some b->w.heap.size<=b.block:=fun b hb=>Nat.le_trans CA.size (Row.bV Eb (k:=b.block) (by rw [hb];rfl)).1;have LN:∀(A':Option Addr) (c':Nat) (v:World) (news:List Value),Row v DT.heap.size b6 33 A' (D.length+1) c' (news++(h.1.push (.slice Hi (dB lp).length Kp)).toList)->news.length=D.length*33->Kept Nil DT v->
   (∀(i:Nat) nd,D[i]? =some nd->∃pA pn pc,HS v pA pn nd.ps/\(∀b,pA=some b->F b.block)/\∀(j:Nat) u,(nd.id.1.push (.slice pA pn pc))[j]? =some u->news[i*33+j]? =some u)->
   Wr v ((⟨r,0,none⟩:Addr).add 0)/\K (.int .i64 0) (v.setCell ((⟨r,0,none⟩:Addr).add 0) (.slice A' (D.length+1) c')):=by
   intro A' c' v news fO zE kv vY;have O2:Kept Nil w v:=Pb.tt kv;obtain⟨A0,c0,cs0,t0,jJ,ab9,_⟩:=(H.same O2).ex;have Nw:=(Array.getElem?_eq_some_iff.1 ab9).1;rw [add_zero];have k3:Kept (· =r) v (v.setCell ⟨r,0,none⟩ (.slice A' (D.length+1) c')):=Kept.setCell (S:=fun k=>k=r) (Kept.refl _ v) (p:=⟨r,0,none⟩) (fun _=>rfl) _;refine⟨dP jJ Nw,hK _ ⟨⟨A',c',cs0.setIfInBounds 0 (.slice A' (D.length+1) c'),t0,?_,?_,?_⟩,fun e=>e.elim H.iV (fun h=>absurd h.1 (by omega))⟩ ((O2.mono (S':=fun k=>k=r) (fun _ _ h=>h.elim)).tt k3)⟩
   ·rw [du jJ 0]
   ·rw [List.length_append]
    simp [Nw]
   ·have CN:=k3.size
    have WL:∀b,Hi=some b->b.block<v.heap.size:=fun b hb=>by
     obtain⟨_,cur,hc⟩:=Row.bV Eb (k:=b.block) (by rw [hb];rfl);have:=bf hc;have:=Im.size;have:=kv.size;omega
    have P3:=KL (F:=fun k=>F k\/(w.heap.size<=k/\k<(v.setCell ⟨r,0,none⟩ (.slice A' (D.length+1) c')).heap.size)) (nd:=⟨h,dB lp⟩) fO zE rfl (fun k hk=>by
     obtain⟨h1,cur,hc⟩:=Row.bV fO hk;have:=bf hc;have:=Pb.size;exact .inr ⟨by omega,by omega⟩) (fun i nd hi=>by
     obtain⟨pA,pn,pc,h1,h2,h3⟩:=vY i nd hi;exact⟨pA,pn,pc,h1,fun b hb=>.inl (h2 b hb),h3⟩) ((Eb.hs.same Im).same kv) (fun b hb=>.inr ⟨ac4 b hb,by have:=WL b hb;omega⟩)
    have:=P3.aK k3 (fun k hk e=>by
     subst e;rcases hk with hk|hk
     ·exact H.iV hk
     ·omega)
    rw [List.length_append];exact this
  refine⟨?_,?_⟩
  ·obtain⟨A1,c1,qu,news,nD,nZ,zx,vY⟩:=yy uh (cx:=c) NZ (by omega)
   refine⟨A1,_,c1,qu,nD,⟨h.1,rfl,h.2.1,Cells.bV (zx.heap Wg (fun h=>h))⟩,mF,?_⟩;intro mZ;have aah:mZ=qu.alloc (.cells (h.1.push (.slice Hi (dB lp).length Kp)) b6):=by
    show qu.alloc (.cells ((h.1.push (.slice Hi (dB lp).length Kp)).toList++ []).toArray b6)=_
    rw [List.append_nil,Array.toArray_toList]
   have wM:Kept Nil qu mZ:=(Kept.refl _ _).alloc _;have I7:mZ.heap[qu.heap.size]? =some (.cells (h.1.push (.slice Hi (dB lp).length Kp)) b6 (0,0)):=by rw [aah];exact aM qu _
   clear_value mZ;have Ag:=Row.aK nZ wM (fun _ _ h=>h);obtain⟨A2,c2,rO,jX,ir,LM⟩:=yz Ag (by omega) (Nat.le_trans zx.size wM.size) I7 mF (Ak _ _ _ _);have rP:Kept Nil DT rO:=Kept.dX (zx.tt wM) LM (fun k hk=>(Row.bV nZ hk).1);refine⟨A2,_,c2,rO,jX,?_⟩;exact LN A2 c2 rO news ir (Row.len nZ) rP (fun i nd hi=>by
    obtain⟨pA,pn,pc,h1,h2,h3⟩:=vY i nd hi;exact⟨pA,pn,pc,h1.same rP,h2,h3⟩)
  ·refine⟨mF,?_⟩
   intro Mw;have aag:Mw=DT.alloc (.cells (h.1.push (.slice Hi (dB lp).length Kp)) b6):=by
    show DT.alloc (.cells ((h.1.push (.slice Hi (dB lp).length Kp)).toList++ []).toArray b6)=_
    rw [List.append_nil,Array.toArray_toList]
   have MR:Kept Nil DT Mw:=(Kept.refl _ _).alloc _;have We:Mw.heap[DT.heap.size]? =some (.cells (h.1.push (.slice Hi (dB lp).length Kp)) b6 (0,0)):=by rw [aag];exact aM DT _
   clear_value Mw;refine⟨by rw [add_zero,aE (MR.heap Iy (fun h=>h))];exact VO,?_⟩;obtain⟨A1,c1,Sl,news,nD,nZ,Ty,vY⟩:=yy (uh.same MR) (cx:=c) NZ (by omega);have Wc:=Ty.heap We (fun h=>h);obtain⟨A2,c2,Rq,jX,ir,LM⟩:=yz nZ (by omega) Ty.size Wc mF (Ak _ _ _ _);have Tx:Kept Nil Mw Rq:=Kept.dX Ty LM (fun k hk=>(Row.bV nZ hk).1);have k43:Kept Nil DT Rq:=MR.tt Tx;refine⟨A1,_,c1,Sl,nD,A2,_,c2,Rq,jX,?_⟩;exact LN A2 c2 Rq news (Row.base ir fun k hk=>Nat.le_trans MR.size (Row.bV ir hk).1) (Row.len nZ) k43 (fun i nd hi=>by
    obtain⟨pA,pn,pc,h1,h2,h3⟩:=vY i nd hi;exact⟨pA,pn,pc,h1.same Tx,h2,h3⟩)
end
theorem tl:∀ {l m:List HT},l.Nodup->(∀x∈l,x∈m)->l.length<=m.length
 | [],_,_,_=>Nat.zero_le _
 |x::l,m,hn,h=>by
  rw [List.nodup_cons]at hn;have hx:=h x (by simp);have:=tl (l:=l) (m:=m.erase x) hn.2 (fun y hy=>by
   have fW:y≠x:=fun e=>hn.1 (e▸hy);exact(List.mem_erase_of_ne fW).2 (h y (by simp [hy])))
  rw [List.length_erase_of_mem hx]at this;have jS:0<m.length:=List.length_pos_of_mem hx;simp only [List.length_cons];omega
structure PB(w0 w':World)(D:DG)(l out:List HT)(A1:Option Addr)(c1:Nat)(A2:Option Addr)(c2:Nat):Prop where
 r1:cr w' w0.heap.size A1 out.length c1 out
 r2:cr w' w0.heap.size A2 (l.length+out.length) c2 (l++out)
 ap:∀k,bH A1=some k->bH A2≠some k
 nd:out.Nodup
 EZ:∀x∈out,∃h∈l,fH D x h
 kp:Kept Nil w0 w'
section
variable{w w' mD:World}{F S:Nat->Prop}{D:DG}{l out:List HT}{A1 A2:Option Addr}{c1 c2 r:Nat}{K:Value->World->Prop}
theorem PB.same(h:PB w w' D l out A1 c1 A2 c2)(k:Kept Nil w' mD):PB w mD D l out A1 c1 A2 c2:=
 ⟨Row.aK h.r1 k (fun _ _ h=>h),Row.aK h.r2 k (fun _ _ h=>h),h.ap,h.nd,h.EZ,h.kp.tt k⟩
theorem PB.len(h:PB w w' D l out A1 c1 A2 c2)(W:kr D):out.length<=D.length:=by
 rw [<-iK D];exact tl h.nd fun x hx=>by obtain⟨_,_,ha⟩:=h.EZ x hx;exact(ha.mem W).1
theorem jE(w:World)(x:HT):HS (w.alloc (.cells (x.1.toList++ []).toArray al)) (some ⟨w.heap.size,0,none⟩) 1 [x]:=by
 refine HS.one (t:=al) (fr:=(0,0)) ?_;rw [List.append_nil,Array.toArray_toList];exact aM w _
theorem PB.add(h:PB w w' D l out A1 c1 A2 c2){x:HT}(hx:x∉out)(ha:∃h∈l,fH D x h)(hb:l.length+out.length<=500000):
 ∃JP Mm v,(Builtin.append_ #[aF,aF] aF #[.slice A1 out.length c1,.slice (some ⟨w'.heap.size,0,none⟩) 1 1]).run prog (w'.alloc (.cells (x.1.toList++ []).toArray al))=.ok (.slice JP (out.length+1) Mm) v/\Kept (fun k=>w.heap.size<=k) w' v/\
 ∃Hg Dw u,(Builtin.append_ #[aF,aF] aF #[.slice A2 (l.length+out.length) c2,.slice (some ⟨v.heap.size,0,none⟩) 1 1]).run prog (v.alloc (.cells (x.1.toList++ []).toArray al))=.ok (.slice Hg (l.length+out.length+1) Dw) u/\
  PB w u D l (out++ [x]) JP Mm Hg Dw:=by
 have hkw:=h.kp.size;have k1:Kept Nil w' (w'.alloc (.cells (x.1.toList++ []).toArray al)):=(Kept.refl _ _).alloc _;have wO:=jE w' x;generalize w'.alloc (.cells (x.1.toList++ []).toArray al)=w1 at k1 wO⊢;have r1:cr w1 w.heap.size A1 out.length c1 out:=Row.aK h.r1 k1 (fun _ _ h=>h);have aiM:=k1.size;obtain⟨JP,Mm,v,nD,nZ,hg1,Bj⟩:=dd (cx:=1) aF r1 wO (by omega) (by omega);have ZK:Kept (fun k=>bH A1=some k) w1 v:=Kept.grown (Kept.refl _ _) hg1 (fun k hk _=>hk);have hA1:∀k,bH A1=some k->w.heap.size<=k/\k<w'.heap.size:=fun k hk=>by
  obtain⟨h1,cur,hc⟩:=Row.bV h.r1 hk;exact⟨h1,bf hc⟩
 have WK:∀k,bH A2=some k->w.heap.size<=k/\k<w'.heap.size:=fun k hk=>by
  obtain⟨h1,cur,hc⟩:=Row.bV h.r2 hk;exact⟨h1,bf hc⟩
 have kv:Kept (fun k=>w.heap.size<=k) w' v:=(k1.mono (fun _ _ h=>h.elim)).trans ZK (fun k _ e=>(hA1 k e).1);refine⟨JP,Mm,v,nD,kv,?_⟩;have k2:Kept Nil v (v.alloc (.cells (x.1.toList++ []).toArray al)):=(Kept.refl _ _).alloc _;have zD:=jE v x;generalize v.alloc (.cells (x.1.toList++ []).toArray al)=w2 at k2 zD⊢;have r2v:cr v w.heap.size A2 (l.length+out.length) c2 (l++out):=Row.aK (Row.aK h.r2 k1 (fun _ _ h=>h)) ZK (fun k hk e=>h.ap k e hk);have r2:cr w2 w.heap.size A2 (l.length+out.length) c2 (l++out):=Row.aK r2v k2 (fun _ _ h=>h);have PM:=ZK.size;have aiJ:=k2.size;obtain⟨Hg,Dw,u,jX,ir,LM,nE⟩:=dd (cx:=1) aF r2 zD (by omega) (by omega);have ku:Kept (fun k=>bH A2=some k) w2 u:=Kept.grown (Kept.refl _ _) LM (fun k hk _=>hk);have ac3:∀k,bH JP=some k->k<v.heap.size:=fun k hk=>by
  obtain⟨_,cur,hc⟩:=Row.bV nZ hk;exact bf hc
 have Wl:∀k,bH JP=some k->bH A2≠some k:=fun k hk e=>by
  rcases Bj k hk with h'|h'
  ·exact h.ap k h' e
  ·have:=(WK k e).2;omega
 have SD:cr u w.heap.size JP (out.length+1) Mm (out++ [x]):=Row.aK (Row.aK nZ k2 (fun _ _ h=>h)) ku (fun k hk e=>Wl k hk e);refine⟨Hg,Dw,u,jX,?_⟩;refine⟨?_,?_,fun k hk e=>?_,?_,fun y hy=>?_,?_⟩
 ·rw [List.length_append];exact SD
 ·rw [List.length_append,<-List.append_assoc,List.length_singleton,<-Nat.add_assoc];exact ir
 ·rcases nE k e with h'|h'
  ·exact Wl k hk h'
  ·have:=ac3 k hk;omega
 ·rw [List.nodup_append]
  exact⟨h.nd,by simp,fun u hu v hv e=>hx (by rw [List.mem_singleton]at hv;rw [<-hv,<-e];exact hu)⟩
 ·rw [List.mem_append,List.mem_singleton]at hy
  rcases hy with hy|rfl
  ·exact h.EZ y hy
  ·exact ha
 ·exact((h.kp.trans kv (fun k hk e=>absurd hk (by omega))).tt k2).trans ku (fun k hk e=>absurd (WK k e).1 (by omega))
theorem FM(W:kr D){l out:List HT}(ha:∀x∈out,∃h∈l,fH D x h)(hc:∀h∈l++out,∀p,oV D p h->p∈out):dB out=eM D l:=by
 refine Ef fun a=>⟨fun h=>?_,fun⟨_,h,hl,han⟩=>?_⟩
 ·obtain⟨b,hb,nv⟩:=ha a h
  exact⟨(nv.mem W).1,b,hb,nv⟩
 ·have key:∀ {a h},fH D a h->h∈l++out->a∈out:=by
   intro a h han
   induction han with
   |one hp=>exact fun hm=>hc _ hm _ hp
   |more _ hp ih=>exact fun hm=>ih (by rw [List.mem_append];exact .inr (hc _ hm _ hp))
  exact key han (by rw [List.mem_append];exact .inl hl)
theorem Aj(H:uO w F r D)(W:kr D)(hD:D.length<=10000){A:Option Addr}{n c:Nat}(hl:HS w A n l)(hn:n<=10000)
 (hK:∀A' c' w',cr w' w.heap.size A' (eM D l).length c' (eM D l)->Kept Nil w w'->K (.slice A' (eM D l).length c') w'):
 bE prog aJ.id #[.pointer (some ⟨r,0,none⟩),.slice A n c] w K:=by
 refine aJ.of ?_;unfold aJ.W;have hlen:=hl.len;obtain⟨A4,c4,w4,yg,jW,EL,ui⟩:=dd (cx:=c) aF (cr.nil w w.heap.size) hl (by omega) (Nat.le_refl _);rw [Nat.zero_add]at yg jW;rw [List.nil_append]at jW;have k4:Kept Nil w w4:=Kept.dX (Kept.refl _ _) EL (fun k hk=>by cases hk);refine⟨A4,n,c4,w4,yg,?_⟩;refine aJ.cJ (I:=fun s w'=>∃(i:Nat) (out:List HT) (A1:Option Addr) (c1:Nat) (A2:Option Addr) (c2:Nat),s=(A1,out.length,c1,A2,n+out.length,c2,(i:Int))/\PB w w' D l out A1 c1 A2 c2/\i<=n+out.length/\∀h∈(l++out).take i,∀p,oV D p h->p∈out)
  (μ:=fun s _=>((n:Int)+D.length-s.2.2.2.2.2.2).toNat) (s:=(none,0,0,A4,n,c4,0))
  ⟨0,[],none,0,A4,c4,by simp,⟨cr.nil _ _,by simpa [hlen]using jW,(fun k hk=>by cases hk),List.Pairwise.nil,by simp,k4⟩,by omega,by simp⟩ ?_
 rintro s w' ⟨i,out,A1,c1,A2,c2,rfl,vS,hi,rU⟩;have hol:=vS.len W;have jX:=vS.r2;rw [hlen]at jX;refine Split.dec (fun jY=>?_) (fun gF=>?_)
 ·simp only at jY
  have dW:i<n+out.length:=by omega
  obtain⟨h,hh⟩:∃h,(l++out)[i]? =some h:=⟨_,List.getElem?_eq_getElem (by simp;omega)⟩;refine jX.hs.load (i:=(i:Int)) (by omega) hh (oK (H.same vS.kp) (by omega) h fun pC CD=>⟨_,rfl,Split.dec (fun Bb=>?_) (fun jS=>?_)⟩)
  ·simp only
   rw [dE (n:=(i:Int)) (by omega) (by omega)];refine⟨(A1,out.length,c1,A2,n+out.length,c2,(i:Int)+1),rfl,⟨i+1,out,A1,c1,A2,c2,rfl,vS.same CD,by omega,fun x hx p hp=>?_⟩,by simp only;omega⟩;rcases(bP hh).1 hx with hx|rfl
   ·exact rU x hx p hp
   ·exact absurd (fH.mem W (.one hp)).2 (qH.1 Bb)
  ·have jo:h∈ids D:=rJ.1 (by omega)
   obtain⟨nd,h1,h2,h3⟩:=Mp jo;have EB:=vS.same CD;have H13:=H.same EB.kp;have C8:∃b∈l,h=b\/fH D h b:=by
    have hm:=List.mem_of_getElem? hh;rw [List.mem_append]at hm;rcases hm with hm|hm
    ·exact⟨h,hm,.inl rfl⟩
    ·obtain⟨b,hb,nv⟩:=vS.EZ h hm
     exact⟨b,hb,.inr nv⟩
   have mz:∀p,oV D p h↔p∈nd.ps:=fun p=>by
    constructor
    ·rintro⟨md,yh,e,hp⟩
     obtain⟨j,hj⟩:=List.mem_iff_getElem?.1 yh;have:=W.inj hj h2 (by rw [e,h3]);subst this;rw [h2]at hj;cases hj;exact hp
    ·exact fun hp=>⟨nd,List.mem_of_getElem? h2,h3,hp⟩
   have rT:nd.ps.length<=D.length:=by
    rw [<-iK D];exact tl (W.ss nd (List.mem_of_getElem? h2)).nodup fun x hx=>(fH.mem W (.one ((mz x).2 hx))).1
   refine H.go' EB.kp fun A c uh=>uh.ps' EB.kp h1 h2 fun pA pn pc sF=>?_;have Lr:=sF.len;refine aJ.iz (I:=fun s w'=>∃(k:Nat) (nK:List HT) (A1:Option Addr) (c1:Nat) (A2:Option Addr) (c2:Nat),s=(A1,nK.length,c1,A2,n+nK.length,c2,(k:Int))/\PB w w' D l nK A1 c1 A2 c2/\k<=pn/\(∃m,nK=out++m)/\(∀p∈nd.ps.take k,p∈nK))
    (μ:=fun s _=>((pn:Int)-s.2.2.2.2.2.2).toNat) (s:=(A1,out.length,c1,A2,n+out.length,c2,0)) ⟨0,out,A1,c1,A2,c2,rfl,EB,Nat.zero_le _,⟨[],by simp⟩,by simp⟩ ?_
   rintro s w1 ⟨k,nK,B1,d1,B2,d2,rfl,hq,hk,⟨m,hm⟩,gC⟩;have ai4:=hq.len W;refine Split.dec (fun Qk=>?_) (fun Qr=>?_)
   ·simp only at Qk
    have CY:k<pn:=by omega
    obtain⟨p,hp⟩:∃p,nd.ps[k]? =some p:=⟨_,List.getElem?_eq_getElem (by omega)⟩;have Us:=List.mem_of_getElem? hp;refine(sF.same hq.kp).load (i:=(k:Int)) (by omega) hp (yJ p hq.r1.hs (by simp only;omega) fun wL yS=>⟨_,rfl,?_⟩);have Lp:=hq.same yS;have aiZ:(nd.ps.length:Int)<=10000:=by omega
    by_cases xl:p∈nK
    ·refine Split.no (by rw [decide_eq_true xl];rfl) ?_
     simp only;rw [dE (n:=(k:Int)) (by omega) (by omega)];refine⟨(B1,nK.length,d1,B2,n+nK.length,d2,(k:Int)+1),rfl,⟨k+1,nK,B1,d1,B2,d2,rfl,Lp,CY,⟨m,hm⟩,fun q Ba=>?_⟩,by simp only;omega⟩;rcases(bP hp).1 Ba with Ba|rfl
     ·exact gC q Ba
     ·exact xl
    ·refine Split.yes (by rw [decide_eq_false xl];rfl) ?_
     have Wm:∃b∈l,fH D p b:=by
      obtain⟨b,hb,e|e⟩:=C8
      ·subst e;exact⟨_,hb,.one ((mz p).2 Us)⟩
      ·exact⟨b,hb,fH.trans (.one ((mz p).2 Us)) e⟩
     obtain⟨JP,Mm,v,nD,kv,Hg,Dw,u,Lo,hqu⟩:=Lp.add xl Wm (by omega);rw [hlen]at Lo;refine(sF.same Lp.kp).load (i:=(k:Int)) (by omega) hp ⟨p.2.1,?_⟩;refine⟨JP,_,Mm,v,nD,?_⟩;have O2:Kept Nil w v:=Lp.kp.trans kv (fun k hk e=>absurd hk (by omega));refine(sF.same O2).load (i:=(k:Int)) (by omega) hp ⟨p.2.1,?_⟩;refine⟨Hg,_,Dw,u,Lo,?_⟩;simp only;rw [dE (n:=(k:Int)) (by omega) (by omega)];have e1:nK.length+1=(nK++ [p]).length:=by simp
     rw [e1,show n+nK.length+1=n+(nK++ [p]).length by simp;omega];refine⟨(JP,(nK++ [p]).length,Mm,Hg,n+(nK++ [p]).length,Dw,(k:Int)+1),rfl,⟨k+1,nK++ [p],JP,Mm,Hg,Dw,rfl,hqu,CY,⟨m++ [p],by rw [hm];simp⟩,fun q Ba=>?_⟩,by simp only;omega⟩;rw [List.mem_append,List.mem_singleton];rcases(bP hp).1 Ba with Ba|rfl
     ·exact .inl (gC q Ba)
     ·exact .inr rfl
   ·simp only at Qr
    rw [aU,aJ.ki];unfold aJ.jc;rw [dE (n:=(i:Int)) (by omega) (by omega)];rw [List.take_of_length_le (by omega)]at gC;refine⟨(B1,nK.length,d1,B2,n+nK.length,d2,(i:Int)+1),rfl,⟨i+1,nK,B1,d1,B2,d2,rfl,hq,by rw [hm];simp;omega,fun x hx q Iu=>?_⟩,by simp only;omega⟩;have hh':(l++nK)[i]? =some h:=by
     rw [hm,<-List.append_assoc,List.getElem?_append_left (lgeS hh).1];exact hh
    rcases(bP hh').1 hx with hx|rfl
    ·have XT:x∈(l++out).take i:=by
      rw [hm,<-List.append_assoc,List.take_append_of_le_length (by simp;omega)]at hx;exact hx
     rw [hm,List.mem_append];exact .inl (rU x XT q Iu)
    ·exact gC q ((mz q).1 Iu)
 ·simp only at gF
  have hie:i=n+out.length:=by omega
  rw [aU,aJ.dw];rw [List.take_of_length_le (by simp;omega)]at rU;have e:=FM W vS.EZ rU;refine oI vS.r1.hs (by simp only;omega) fun A' c' w2 row k2=>⟨A',_,c',rfl,?_⟩;rw [e]at row⊢;exact hK A' c' w2 (Row.base row fun b hb=>Nat.le_trans vS.kp.size (Row.bV row hb).1) (vS.kp.tt k2)
end
section
variable{w w' mD:World}{F S:Nat->Prop}{D:DG}{is:HT->Prop}{i:Nat}{l out:List HT}{A:Option Addr}{c r:Nat}{K:Value->World->Prop}
theorem oJ(H:uO w F r D)(W:kr D)(hD:D.length<=10000)(a b:HT)(hK:∀w' (x:Bool),(x=true↔fH D a b)->Kept Nil w w'->K (.bool x) w'):
 bE prog eh.id #[.pointer (some ⟨r,0,none⟩),.agg a.1,.agg b.1] w K:=by
 refine eh.of ?_;unfold eh.W;intro w4 w5 w6;have k4:Kept Nil w w4:=(Kept.refl _ _).alloc _;have C9:w4.heap[w.heap.size]? =some (.cells a.1 al (0,0)):=aM w _;have k5:Kept Nil w4 w5:=(Kept.refl _ _).alloc _;have pE:w5.heap[w4.heap.size]? =some (.cells b.1 al (0,0)):=aM w4 _;have k6:Kept Nil w5 w6:=(Kept.refl _ _).drew;have xn:=k6.heap (k5.heap C9 (fun h=>h)) (fun h=>h);have pZ:=k6.heap pE (fun h=>h);have ZG:Kept Nil w w6:=(k4.tt k5).tt k6;clear_value w6;refine⟨a.1,⟨a.2.1,Cells.bV xn⟩,oK (H.same ZG) (by omega) a fun w9 k9=>⟨_,rfl,Split.dec (fun gF=>?_) (fun Qb=>?_)⟩⟩
 ·have ha9:=k9.heap xn (fun h=>h)
  have Tb:Kept Nil w w9:=ZG.tt k9;refine⟨b.1,⟨b.2.1,Cells.bV (k9.heap pZ (fun h=>h))⟩,a.1,⟨a.2.1,Cells.bV ha9⟩,b.2.1,?_⟩;intro pC;have CD:Kept Nil w9 pC:=(Kept.refl _ _).alloc _;have kh:HS pC (some ⟨w9.heap.size,0,none⟩) 1 [b]:=jE w9 b;clear_value pC;have Tf:Kept Nil w pC:=Tb.tt CD;have Wp:=CD.heap ha9 (fun h=>h);refine⟨⟨a.1,rfl,a.2.1,Cells.bV Wp⟩,Aj (H.same Tf) W hD kh (by omega) fun A15 c15 nW SF uc=>⟨A15,_,c15,rfl,?_⟩⟩;have rT:=og D fun x=>∃h∈ [b],fH D x h;refine⟨⟨a.1,rfl,a.2.1,Cells.bV (uc.heap Wp (fun h=>h))⟩,yJ a SF.hs (by unfold eM;omega) fun xE JW=>⟨_,rfl,?_⟩⟩;refine hK xE _ ?_ ((Tf.tt uc).tt JW);rw [decide_eq_true_iff];unfold eM;rw [km];constructor
  ·rintro⟨_,h,hh,ha⟩
   rw [List.mem_singleton]at hh;subst hh;exact ha
  ·intro ha
   exact⟨(ha.mem W).1,b,by simp,ha⟩
 ·refine hK w9 false ?_ (ZG.tt k9)
  constructor
  ·intro h;cases h
  ·intro ha;exact absurd (rJ.2 (ha.mem W).1) Qb
theorem HP(W:kr D){j:Nat}{nd:DN}(h2:D[j]? =some nd)(p:HT):oV D p nd.id↔p∈nd.ps:=by
 constructor
 ·rintro⟨md,yh,e,hp⟩
  obtain⟨k,hk⟩:=List.mem_iff_getElem?.1 yh;have:=W.inj hk h2 e;subst this;rw [h2]at hk;cases hk;exact hp
 ·exact fun hp=>⟨nd,List.mem_of_getElem? h2,rfl,hp⟩
theorem FI(H:uO w F r D)(W:kr D)(hD:D.length<=10000)(a b:HT)(hK:∀w' (x:Bool),(x=true↔a≠b/\¬fH D a b/\¬fH D b a)->Kept Nil w w'->K (.bool x) w'):
 bE prog eR.id #[.pointer (some ⟨r,0,none⟩),.agg a.1,.agg b.1] w K:=by
 refine eR.of ?_;unfold eR.W;intro w4 w5;have k4:Kept Nil w w4:=(Kept.refl _ _).alloc _;have C9:w4.heap[w.heap.size]? =some (.cells a.1 al (0,0)):=aM w _;have k5:Kept Nil w4 w5:=(Kept.refl _ _).alloc _;have pE:w5.heap[w4.heap.size]? =some (.cells b.1 al (0,0)):=aM w4 _;have LZ:=k5.heap C9 (fun h=>h);have MK:Kept Nil w w5:=k4.tt k5;clear_value w5;refine⟨a.1,⟨a.2.1,Cells.bV LZ⟩,b.1,⟨b.2.1,Cells.bV pE⟩,⟨a.2.ints,b.2.ints⟩,?_⟩;rw [fy];by_cases e:a=b
 ·refine Split.no (by rw [decide_eq_true e];rfl) ?_
  exact hK w5 false (by simp [e]) MK
 ·refine Split.yes (by rw [decide_eq_false e];rfl) ?_
  refine⟨a.1,⟨a.2.1,Cells.bV LZ⟩,b.1,⟨b.2.1,Cells.bV pE⟩,oJ (H.same MK) W hD a b fun xG x hx JY=>⟨x,rfl,?_⟩⟩;cases x with
  |true=>
   refine Split.no rfl ?_;exact hK xG false (by simp [hx.1 rfl]) (MK.tt JY)
  |false=>
   refine Split.yes rfl ?_;have hn:¬fH D a b:=fun h=>by have:=hx.2 h;cases this
   have Tg:=MK.tt JY;refine⟨b.1,⟨b.2.1,Cells.bV (JY.heap pE (fun h=>h))⟩,a.1,⟨a.2.1,Cells.bV (JY.heap LZ (fun h=>h))⟩,oJ (H.same Tg) W hD b a fun nf y hy ry=>⟨y,rfl,?_⟩⟩;refine hK nf _ ?_ (Tg.tt ry);rw [Bool.not_eq_true',<-Bool.not_eq_true,hy];exact⟨fun h=>⟨e,hn,h⟩,fun h=>h.2.2⟩
end
structure NM where
 b:Nat
 pA:Option Addr
 pn:Nat
 pc:Nat
 cA:Option Addr
 cn:Nat
 cc:Nat
 rA:Option Addr
 rn:Nat
 rc:Nat
 ws:List Nat
def gI(h:HT)(m:NM):Array Value:=h.1++ #[.slice m.pA m.pn m.pc,.slice m.cA m.cn m.cc,.slice m.rA m.rn m.rc]
theorem vE(h:HT)(m:NM):(gI h m).size=35:=by unfold gI;rw [Array.size_append,h.2.1];rfl
theorem HR(h:HT)(m:NM){j:Nat}{v:Value}(hj:h.1[j]? =some v):(gI h m)[j]? =some v:=by
 unfold gI;rw [Array.getElem?_append_left (Array.getElem?_eq_some_iff.1 hj).1];exact hj
theorem HU(h:HT)(m:NM):(gI h m)[33]? =some (.slice m.cA m.cn m.cc):=by
 unfold gI;rw [Array.getElem?_append_right (by rw [h.2.1];omega),h.2.1];rfl
theorem Az(h:HT)(m:NM):(gI h m)[34]? =some (.slice m.rA m.rn m.rc):=by
 unfold gI;rw [Array.getElem?_append_right (by rw [h.2.1];omega),h.2.1];rfl
theorem FU{h h':HT}{m m':NM}(e:gI h m=gI h' m'):h=h':=by
 apply Subtype.ext;have h1:=h.2.1;have h2:=h'.2.1;have:=congrArg (fun a:Array Value=>a.toList.take 32) e;unfold gI at this;simp only [Array.toList_append]at this;rw [List.take_left' (by simpa using h1),List.take_left' (by simpa using h2)]at this;exact Array.ext' this
structure rL(w:World)(S F:Nat->Prop)(D:DG)(ch:List HT)(nd:DN)(m:NM):Prop where
 bV:w.heap[m.b]? =some (.cells (gI nd.id m) eE (0,0))
 gQ:S m.b
 ps:HS w m.pA m.pn nd.ps
 KG:∀a,m.pA=some a->F a.block
 ch:cr w 0 m.cA m.cn m.cc ch
 Q6:∀k,bH m.cA=some k->S k
 past:US w m.rA m.rn m.ws
 pS:∀a,m.rA=some a->F a.block
 ok:okW m.ws
 bits:∀j,bit m.ws j=true↔∃nj,D[j]? =some nj/\fH D nj.id nd.id
 small:m.rn<=200
structure GV(w:World)(S F:Nat->Prop)(g:Nat)(D:DG)(C:HT->List HT)(bl c mb:Nat)(M:List NM):Prop where
 top:w.heap[g]? =some (.cells #[.slice (some ⟨bl,0,none⟩) D.length c,.map (some mb)] iO (0,0))
 row:Row w 0 fL 1 (some ⟨bl,0,none⟩) D.length c (M.map fun m=>.pointer (some ⟨m.b,0,none⟩))
 map:IsMap w mb (ids D)
 len:M.length=D.length
 node:∀(i:Nat) nd m,D[i]? =some nd->M[i]? =some m->rL w S F D (C nd.id) nd m
 apart:∀(i j:Nat) m m',M[i]? =some m->M[j]? =some m'->i≠j->∀k,bH m.cA=some k->bH m'.cA≠some k
 iU:S g
 ur:S bl
 wi:S mb
 Hd:∀k,S k->¬F k
 low:∀k,S k\/F k->k<w.heap.size
def DO(w:World)(S F:Nat->Prop)(g:Nat)(D:DG):Prop:=∃bl c mb M,GV w S F g D (iB D) bl c mb M
section
variable{w w':World}{S F S' F':Nat->Prop}{g bl c mb:Nat}{D:DG}{C:HT->List HT}{M:List NM}{K:Value->World->Prop}
theorem rL.aK{ch:List HT}{nd:DN}{m:NM}{S0:Nat->Prop}(h:rL w S F D ch nd m)(hk:Kept S0 w w')(hS:∀k,S k->¬S0 k)(hF:∀k,F k->¬S0 k):rL w' S F D ch nd m:=
 ⟨hk.heap h.bV (hS _ h.gQ),h.gQ,h.ps.aK hk (fun a ha=>hF _ (h.KG a ha)),h.KG,Row.aK h.ch hk (fun k hb=>hS k (h.Q6 k hb)),h.Q6,h.past.aK hk (fun a ha=>hF _ (h.pS a ha)),h.pS,h.ok,h.bits,h.small⟩
theorem GV.aK{S0:Nat->Prop}(h:GV w S F g D C bl c mb M)(hk:Kept S0 w w')(hS:∀k,S k->¬S0 k)(hF:∀k,F k->¬S0 k):GV w' S F g D C bl c mb M:=
 ⟨hk.heap h.top (hS _ h.iU),Row.aK h.row hk (fun k e=>by cases e;exact hS _ h.ur),h.map.aK hk (hS _ h.wi),h.len,fun i nd m h1 h2=>(h.node i nd m h1 h2).aK hk hS hF,h.apart,h.iU,h.ur,h.wi,h.Hd,fun k o6=>Nat.lt_of_lt_of_le (h.low k o6) hk.size⟩
theorem GV.same(h:GV w S F g D C bl c mb M)(hk:Kept Nil w w'):GV w' S F g D C bl c mb M:=h.aK hk (fun _ _ h=>h) (fun _ _ h=>h)
theorem DO.aK{S0:Nat->Prop}(h:DO w S F g D)(hk:Kept S0 w w')(hS:∀k,S k->¬S0 k)(hF:∀k,F k->¬S0 k):DO w' S F g D:=let ⟨bl,c,mb,M,h⟩:=h;⟨bl,c,mb,M,h.aK hk hS hF⟩
theorem DO.same(h:DO w S F g D)(hk:Kept Nil w w'):DO w' S F g D:=h.aK hk (fun _ _ h=>h) (fun _ _ h=>h)
theorem GV.get(h:GV w S F g D C bl c mb M){i:Nat}{nd:DN}(hi:D[i]? =some nd):∃m,M[i]? =some m/\rL w S F D (C nd.id) nd m:=by
 have:=(lgeS hi).1;have hl:=h.len;exact⟨M[i],List.getElem?_eq_getElem (by omega),h.node i nd _ hi (List.getElem?_eq_getElem (by omega))⟩
theorem GV.nodes(h:GV w S F g D C bl c mb M):w.cell? ((⟨g,0,none⟩:Addr).add 0)=some (.slice (some ⟨bl,0,none⟩) D.length c):=by rw [add_zero,aE h.top];rfl
theorem GV.at_(h:GV w S F g D C bl c mb M):w.cell? ((⟨g,0,none⟩:Addr).add 1)=some (.map (some mb)):=by rw [bD,aE h.top];rfl
theorem GV.ptr(h:GV w S F g D C bl c mb M){i:Nat}{m:NM}(hm:M[i]? =some m):w.cell? ((⟨bl,0,none⟩:Addr).add (i*1))=some (.pointer (some ⟨m.b,0,none⟩)):=by
 rw [bD,Nat.zero_add,Nat.mul_one];exact Row.cell h.row (by rw [List.getElem?_map,hm];rfl)
theorem yr(h:GV w S F g D C bl c mb M)(hK:K (.bool true) w):bE prog gM.id #[.pointer (some ⟨g,0,none⟩)] w K:=
 gM.of (Split.yes rfl ⟨some mb,h.at_,hK⟩)
def Found(D:DG)(M:List NM)(h:HT)(x:Option Addr):Prop:=(x=none/\h∉ids D)\/∃(i:Nat) (nd:DN) (m:NM),D[i]? =some nd/\nd.id=h/\M[i]? =some m/\x=some ⟨m.b,0,none⟩
theorem Found.isSome{h:HT}{x:Option Addr}(f:Found D M h x):(!x.isNone)=decide (h∈ids D):=by
 rcases f with⟨rfl,hn⟩|⟨i,nd,m,h1,h2,_,rfl⟩
 ·rw [decide_eq_false hn];rfl
 ·rw [decide_eq_true (eF.2 ⟨nd,List.mem_of_getElem? h1,h2⟩)];rfl
theorem wu(G:GV w S F g D C bl c mb M)(h:HT)(hK:∀w' x,Kept Nil w w'->Found D M h x->K (.pointer x) w'):
 bE prog gD.id #[.pointer (some ⟨g,0,none⟩),.agg h.1] w K:=by
 refine gD.of ?_;unfold gD.W;intro w3;have k3:Kept Nil w w3:=(Kept.refl _ _).alloc _;have p7:w3.heap[w.heap.size]? =some (.cells h.1 al (0,0)):=aM w _;clear_value w3;refine yr (G.same k3) ⟨true,rfl,Split.yes rfl ?_⟩;intro w7;have k7:Kept Nil w3 w7:=(Kept.refl _ _).drew;clear_value w7;have kw:Kept Nil w w7:=k3.tt k7;have G7:=G.same kw;refine⟨some mb,G7.at_,h.1,⟨h.2.1,Cells.bV (k7.heap p7 (fun h=>h))⟩,_,_,G7.map.look h,?_⟩;cases hp:pos h (ids D) 0 with
 |none=>exact Split.no rfl (hK w7 none kw (.inl ⟨rfl,pR.1 hp⟩))
 |some i=>
  obtain⟨_,hi⟩:=vw hp;obtain⟨nd,h1,h2⟩:=It hi;rw [Nat.sub_zero]at h1;obtain⟨m,hm,_⟩:=G7.get h1;have dW:=(lgeS h1).1;refine Split.yes rfl ⟨_,_,_,G7.nodes,⟨by simp,by simp only [Option.getD_some];omega⟩,some ⟨m.b,0,none⟩,?_,hK w7 _ kw (.inr ⟨i,nd,m,h1,h2,hm,rfl⟩)⟩;rw [Option.getD_some,Int.toNat_natCast];exact G7.ptr hm
theorem sK(G:GV w S F g D C bl c mb M)(h:HT)(hK:∀w',Kept Nil w w'->K (.bool (decide (h∈ids D))) w'):
 bE prog hZ.id #[.pointer (some ⟨g,0,none⟩),.agg h.1] w K:=by
 refine hZ.of ?_;unfold hZ.W;intro w3;have k3:Kept Nil w w3:=(Kept.refl _ _).alloc _;have p7:w3.heap[w.heap.size]? =some (.cells h.1 al (0,0)):=aM w _;clear_value w3;refine⟨h.1,⟨h.2.1,Cells.bV p7⟩,wu (G.same k3) h fun w6 x k6 hx=>⟨x,rfl,?_⟩⟩;rw [hx.isSome];exact hK w6 (k3.tt k6)
end
section
variable{w w':World}{S F:Nat->Prop}{g bl c mb:Nat}{D:DG}{C:HT->List HT}{M:List NM}{K:Value->World->Prop}
end
section
variable{w w':World}{S F:Nat->Prop}{g bl c mb:Nat}{D:DG}{C:HT->List HT}{M:List NM}{K:Value->World->Prop}
theorem Dt{A:Option Addr}{n c:Nat}{l:List HT}(hl:HS w A n l)(hn:n<=400000)(hK:∀A' c' w',cr w' w.heap.size A' n c' l->Kept Nil w w'->K (.slice A' n c') w'):
 bE prog dA.id #[.slice A n c] w K:=by
 refine dA.of ?_;cases A with
 |none=>
  obtain⟨rfl,rfl⟩:=hl.none;exact Split.yes rfl (hK none 0 w (cr.nil _ _) (Kept.refl _ _))
 |some a=>
  refine Split.no rfl ?_;intro w2;have k2:Kept Nil w w2:=(Kept.refl _ _).alloc _;have r0:cr w2 w.heap.size (some ⟨w.heap.size,0,none⟩) 0 0 []:=Row.made (n:=0) (cur:= #[]) (aM w _) (Nat.le_refl _) rfl (Nat.zero_le _);clear_value w2;obtain⟨A',c',w4,hr,row,hg,_⟩:=dd (cx:=c) aF r0 (hl.same k2) (by omega) k2.size;rw [Nat.zero_add]at hr row;rw [List.nil_append]at row;exact⟨A',n,c',w4,hr,hK A' c' w4 row (Kept.dX k2 hg (fun k hk=>by cases hk;exact Nat.le_refl _))⟩
theorem xP{D:DG}{nd:DN}{m:NM}{ch:List HT}(N:rL w S F D ch nd m):w.cell? ((⟨m.b,0,none⟩:Addr).add 34)=some (.slice m.rA m.rn m.rc):=by
 rw [bD,Nat.zero_add,aE N.bV];exact Az _ _
theorem Ei{D:DG}{nd:DN}{m:NM}{ch:List HT}(N:rL w S F D ch nd m):w.cell? ((⟨m.b,0,none⟩:Addr).add 33)=some (.slice m.cA m.cn m.cc):=by
 rw [bD,Nat.zero_add,aE N.bV];exact HU _ _
end
def pg(D:DG)(j:Nat):HT:=match D[j]? with|some nd=>nd.id|none=>default
theorem vA:∀(ws:List Nat) (k:Nat),okW ws->(pU k ws).Nodup
 | [],_,_=>List.Pairwise.nil
 |x::ws,k,ho=>by
  have hx:=ho x (by simp);have Kf:okW ws:=fun y hy=>ho y (by simp [hy]);obtain⟨_,h2,h3⟩:=xW x hx;rw [pU,List.nodup_append];refine⟨List.Pairwise.map _ (fun a b nv e=>nv (by omega)) h2,vA ws (k+1) Kf,fun a ha b hb e=>?_⟩;rw [List.mem_map]at ha;obtain⟨t,ht,rfl⟩:=ha;have:=((pW ws (k+1) b Kf).1 hb).1;have:=h3 t ht;omega
section
variable{w w':World}{S F:Nat->Prop}{g bl c mb:Nat}{D:DG}{C:HT->List HT}{M:List NM}{K:Value->World->Prop}
theorem wv(G:GV w S F g D C bl c mb M)(W:kr D)(hD:D.length<=10000)(hT:sS w){A:Option Addr}{n cx:Nat}{l:List HT}(hl:HS w A n l)(hn:n<=10000)
 (hK:∀A' c' w',cr w' w.heap.size A' (eM D l).length c' (eM D l)->Kept Nil w w'->K (.slice A' (eM D l).length c') w'):
 bE prog aY.id #[.pointer (some ⟨g,0,none⟩),.slice A n cx] w K:=by
 have hlen:=hl.len;refine aY.of ?_;unfold aY.W;intro w3;have k3:Kept Nil w w3:=(Kept.refl _ _).alloc _;have Vq:w3.heap[w.heap.size]? =some (.cells #[.pointer (some ⟨g,0,none⟩)] iT (0,0)):=aM w _;have CN:w.heap.size<w3.heap.size:=bf Vq;clear_value w3;refine aY.cJ (I:=fun s w'=>∃(i:Nat) (A':Option Addr) (n' c':Nat) (ws:List Nat),s=(A',n',c',(i:Int))/\i<=n/\lF w' w3.heap.size A' n' c' ws/\okW ws/\n'<=200/\(∀j,bit ws j=true↔∃h∈l.take i,∃nj,D[j]? =some nj/\fH D nj.id h)/\Kept Nil w3 w')
  (μ:=fun s _=>((n:Int)-s.2.2.2).toNat) (s:=(none,0,0,0)) ⟨0,none,0,0,[],rfl,Nat.zero_le _,Row.nil _ _ _ _,by simp [okW],by omega,by simp [zm],Kept.refl _ _⟩ ?_
 rintro s w' ⟨i,A',n',c',ws,rfl,hi,row,ho,hn',qO,kw⟩;have kk:Kept Nil w w':=k3.tt kw;refine Split.dec (fun jY=>?_) (fun gF=>?_)
 ·simp only at jY
  have dW:i<n:=by omega
  obtain⟨h,hh⟩:∃h,l[i]? =some h:=⟨_,List.getElem?_eq_getElem (by omega)⟩;refine(hl.same kk).load (i:=(i:Int)) (by omega) hh ?_;intro nx;obtain⟨tA,kh,kH⟩:=iN (w:=w') (z:=(CJ 0)) (cs:=h.1) (t:=al) (by rw [h.2.1];rfl);refine⟨⟨h.2.1,h.2.one,fun j hj=>tA j (by rw [h.2.1];exact hj)⟩,?_⟩;intro nW
  replace kh:nW.heap[w'.heap.size]? =some (.cells h.1 al (0,0)):=kh
  replace kH:Kept Nil w' nW:=kH
  clear_value nW;have uc:Kept Nil w3 nW:=kw.tt kH;refine⟨some ⟨g,0,none⟩,by rw [aE (uc.heap Vq (fun h=>h))];rfl,h.1,⟨h.2.1,Cells.bV kh⟩,?_⟩;refine wu (G.same (k3.tt uc)) h fun pB x yc hx=>⟨x,rfl,?_⟩;have K7:Kept Nil w3 pB:=uc.tt yc;have H3:Kept Nil w pB:=k3.tt K7;have xL:lF pB w3.heap.size A' n' c' ws:=Row.aK row (kH.tt yc) (fun _ _ h=>h);rcases hx with⟨rfl,mG⟩|⟨q,nd,m',hq,rfl,np,rfl⟩
  ·refine Split.no rfl ?_
   simp only;rw [dE (n:=(i:Int)) (by omega) (by omega)];refine⟨(A',n',c',(i:Int)+1),rfl,⟨i+1,A',n',c',ws,rfl,dW,xL,ho,hn',fun j=>?_,K7⟩,by simp only;omega⟩;rw [qO];constructor
   ·rintro⟨h',h1,h2⟩;exact⟨h',(bP hh).2 (.inl h1),h2⟩
   ·rintro⟨h',h1,nj,h2,h3⟩
    rcases(bP hh).1 h1 with h1|rfl
    ·exact⟨h',h1,nj,h2,h3⟩
    ·exact absurd (h3.mem W).2 mG
  ·obtain⟨m,hm,N⟩:=(G.same H3).get hq
   rw [np]at hm;cases hm;refine Split.yes rfl ⟨_,_,_,xP N,?_⟩;have vR:=N.small;have Gz:∀k,bH A'=some k->w3.heap.size<=k:=fun k hk=>(Row.bV xL hk).1;refine xJ xL ho (by omega) K7.size N.past N.ok (by omega) (fun a ha k hk e=>?_) fun A2 n2 c2 l2 mC SC aa7 UO QH rQ LW=>⟨A2,n2,c2,rfl,?_⟩
   ·have h1:=G.low a.block (.inr (N.pS a ha))
    have h2:=Gz k hk;omega
   ·simp only
    rw [dE (n:=(i:Int)) (by omega) (by omega)];refine⟨(A2,n2,c2,(i:Int)+1),rfl,⟨i+1,A2,n2,c2,l2,rfl,dW,SC,aa7,by omega,fun j=>?_,K7.trans rQ (fun k hk e=>absurd (Gz k e) (by omega))⟩,by simp only;omega⟩;rw [QH,Bool.or_eq_true,qO,N.bits];constructor
    ·rintro(⟨h',h1,h2⟩|h2)
     ·exact⟨h',(bP hh).2 (.inl h1),h2⟩
     ·exact⟨nd.id,(bP hh).2 (.inr rfl),h2⟩
    ·rintro⟨h',h1,h2⟩
     rcases(bP hh).1 h1 with h1|rfl
     ·exact .inl ⟨h',h1,h2⟩
     ·exact .inr h2
 ·simp only at gF
  have hie:i=n:=by omega
  subst hie;rw [List.take_of_length_le (by omega)]at qO;rw [aU,aY.dw];unfold aY.df;intro uR;have G6:Kept Nil w' uR:=(Kept.refl _ _).alloc _;have UE:uR.heap[w'.heap.size]? =some (.cells #[.slice none 0 0] aF (0,0)):=aM w' _;clear_value uR;refine kW.of ?_;unfold kW.W;intro mZ;have wM:Kept Nil uR mZ:=(Kept.refl _ _).alloc _;have Ln:mZ.heap[uR.heap.size]? =some (.cells #[.slice A' n' c'] lM (0,0)):=aM uR _;clear_value mZ;refine⟨_,rfl,?_⟩;have UD:=wM.heap UE (fun h=>h);have TB:Kept Nil w3 mZ:=(kw.tt G6).tt wM;have KV:Kept Nil w mZ:=k3.tt TB;have Ag:lF mZ w3.heap.size A' n' c' ws:=Row.aK (Row.aK row G6 (fun _ _ h=>h)) wM (fun _ _ h=>h);have Qu:=TB.heap Vq (fun h=>h);have BV:w.heap.size<w'.heap.size:=Nat.lt_of_lt_of_le CN kw.size;have aiG:w'.heap.size<mZ.heap.size:=bf UD;have aiH:uR.heap.size<mZ.heap.size:=bf Ln;have IN:∀j∈pU 0 ws,∃nj,D[j]? =some nj:=fun j hj=>by
   have:=((pW ws 0 j ho).1 hj).2;rw [Nat.mul_zero,Nat.sub_zero]at this;obtain⟨_,_,nj,h1,_⟩:=(qO j).1 this;exact⟨nj,h1⟩
  have zE:(pU 0 ws).length<=D.length:=by
   have:=vB (m:=List.range D.length) (vA ws 0 ho) (fun j hj=>by
    obtain⟨nj,h1⟩:=IN j hj;exact List.mem_range.2 (lgeS h1).1)
   rwa [List.length_range]at this
  let xs:=pU 0 ws
  let ρ0:Env:= [(2,.pointer (some (aV w.heap.size))),(4,.slice none 0 0),(9,.pointer (some (aV w'.heap.size))),(30,.func (.func aL.id) #[] #[.pointer (some (aV uR.heap.size))])]
  let J:Nat->World->Prop:=fun i v=>∃A c,v.heap[w'.heap.size]? =some (.cells #[.slice A i c] aF (0,0))/\cr v mZ.heap.size A i c ((xs.take i).map (pg D))/\Kept (· =w'.heap.size) mZ v/\i<=xs.length
  have sG:∀i v,J i v->US v A' n' ws/\v.cell? ⟨uR.heap.size,0,none⟩=some (.slice A' n' c')/\sS v:=by
   rintro i v ⟨A,c,h1,h2,h3,h4⟩;refine⟨Ag.us.aK h3 (fun a ha e=>?_),by rw [aE (h3.heap Ln (by have:=bf UE;omega))];rfl,(hT.same KV).aK h3 (fun e=>by have:=hT.lt;omega)⟩;have hk:bH A'=some a.block:=by rw [ha];rfl
   obtain⟨_,cur,hc⟩:=Row.bV row hk;have:=bf hc;omega
  refine oL (ρ:=ρ0) (ρ0:=ρ0) ng mix aY.k (t:=30) (ps:= #[31]) (by kernel_rfl) (by decide) rfl aL.at_ rfl (.inl rfl) (fun i v _ h=>h) rfl encI xs (fun _=>rfl) (by simp [iM]) (JD ⟨uR.heap.size,0,none⟩ (c:=c') (by omega) ho) J (fun _ _=>False) ?_ (fun _ _ _ _ _ h=>h.elim) sG ?_ ?_ ?_ (fun _ _ h=>h.elim) (fun _ _ _ h=>h.elim)
  ·rintro i v v' R rD ⟨A,c,h1,h2,h3,h4⟩ hk
   exact⟨A,c,hk.heap h1 (lN h1 rD.loop),Row.apart h2 hk (fun cs t fr h=>by rw [rD.loop]at h;cases h),h3.trans hk (fun k hk e=>by omega),h4⟩
  ·intro R
   exact⟨none,0,lu (lu UD _) _,cr.nil _ _,(((Kept.refl _ _).alloc _).alloc _),Nat.zero_le _⟩
  ·rintro i x v R hx hj rD
   have hJ:=hj;obtain⟨A,c,h1,h2,h3,h4⟩:=hj;have dW:i<xs.length:=(lgeS hx).1;have e7:mn ρ0 ((#[31]:Array Nat).toList.zip (encI x))= [(2,.pointer (some (aV w.heap.size))),(4,.slice none 0 0),(9,.pointer (some (aV w'.heap.size))),(30,.func (.func aL.id) #[] #[.pointer (some (aV uR.heap.size))]),(31,.int .i64 (x:Int))]:=rfl;rw [e7,aY.a1];unfold aY.A1;refine⟨rD,fun w2 R2 oZ uG=>?_⟩;have BY:=oZ.heap h1 (lN h1 rD.loop);have Db:cr w2 mZ.heap.size A i c ((xs.take i).map (pg D)):=Row.apart h2 oZ (fun cs t fr h=>by rw [rD.loop]at h;cases h);have WM:Kept (· =w'.heap.size) mZ w2:=h3.trans oZ (fun k hk e=>by omega);clear hJ h1 h2 h3;rw [aY.y1];unfold aY.Y1;intro Ow;have XL:Kept Nil w2 Ow:=(Kept.refl _ _).drew;clear_value Ow;have WS:=XL.heap BY (fun h=>h);have Eo:Kept (· =w'.heap.size) mZ Ow:=WM.trans XL (fun _ _ h=>h.elim);obtain⟨nj,Np⟩:=IN x (List.mem_of_getElem? hx);have uf:=(lgeS Np).1;have ZE:Kept Nil w Ow:=KV.trans Eo (fun k hk e=>by omega);obtain⟨m,hm,N⟩:=(G.same ZE).get Np;refine⟨A,i,c,by rw [aE WS];rfl,some ⟨g,0,none⟩,by rw [aE (Eo.heap Qu (by omega))];rfl,?_⟩;refine⟨_,_,_,(G.same ZE).nodes,⟨by omega,by omega⟩,some ⟨m.b,0,none⟩,by rw [Int.toNat_natCast];exact(G.same ZE).ptr hm,?_⟩;refine⟨nj.id.1,⟨nj.id.2.1,fun j v hj=>?_⟩,nj.id.2.1,?_⟩
   ·rw [add_zero,bD,Nat.zero_add,aE N.bV]
    exact HR _ _ hj
   intro Rp;have Tw:Kept Nil Ow Rp:=(Kept.refl _ _).alloc _;have jE:HS Rp (some ⟨Ow.heap.size,0,none⟩) 1 [nj.id]:=jE Ow nj.id;clear_value Rp;have WR:=Tw.heap WS (fun h=>h);refine⟨by rw [aE WR];rfl,?_⟩;have L6:cr Rp mZ.heap.size A i c ((xs.take i).map (pg D)):=Row.aK (Row.aK Db XL (fun _ _ h=>h)) Tw (fun _ _ h=>h);have T4:mZ.heap.size<=Rp.heap.size:=Nat.le_trans Eo.size Tw.size;have Lf:xs.length<=D.length:=zE;obtain⟨A2,c2,q9,hr,xK,LK,QJ⟩:=dd (cx:=1) aF L6 jE (by omega) T4;have Qq:Kept (fun k=>bH A=some k) Rp q9:=Kept.grown (Kept.refl _ _) LK (fun k hk _=>hk);have WJ:∀k,bH A=some k->mZ.heap.size<=k:=fun k hk=>(Row.bV L6 hk).1;have WQ:=Qq.heap WR (fun e=>by have:=WJ _ e;omega);have abo:Live (mZ.heap.size+1) mZ.heap.size R2 q9:=by
    have Qd:=(uG.aK XL (fun h=>h) (fun h=>h)).aK Tw (fun h=>h) (fun h=>h);refine Qd.aK Qq ?_ ?_
    ·intro h
     obtain⟨_,cur,hc⟩:=Row.bV L6 h;exact lN hc Qd.loop rfl
    ·intro h
     obtain⟨_,cur,hc⟩:=Row.bV L6 h;exact yO hc Qd.mark rfl
   refine⟨A2,_,c2,q9,hr,dP WQ (by simp),?_⟩;intro Zb;have ZR:Kept (· =w'.heap.size) q9 Zb:=Kept.setCell (S:=fun k=>k=w'.heap.size) (Kept.refl _ q9) (p:=⟨w'.heap.size,0,none⟩) (fun _=>rfl) _;have acp:Zb.heap[w'.heap.size]? =some (.cells #[.slice A2 (i+1) c2] aF (0,0)):=du WQ 0 _;clear_value Zb;refine⟨abo.aK ZR (by omega) (by omega),A2,c2,acp,?_,((Eo.trans Tw (fun _ _ h=>h.elim)).trans Qq (fun k hk e=>absurd (WJ k e) (by omega))).tt ZR,dW⟩;have e:(xs.take (i+1)).map (pg D)=(xs.take i).map (pg D)++ [nj.id]:=by
    rw [List.take_add_one,hx];simp [pg,Np]
   rw [e];exact Row.aK xK ZR (fun k hk e=>by have:=(Row.bV xK hk).1;omega)
  ·rintro v R ⟨A,c,h1,h2,h3,h4⟩ rD
   have e7:iW ρ0 mZ.heap.size= [(2,.pointer (some (aV w.heap.size))),(4,.slice none 0 0),(9,.pointer (some (aV w'.heap.size))),(30,.func (.func aL.id) #[] #[.pointer (some (aV uR.heap.size))]),(4294967296,.agg #[.pointer (some ⟨mZ.heap.size,0,none⟩)])]:=rfl;rw [e7,aY.lH];rw [List.take_of_length_le (Nat.le_refl _)]at h2;have Lf:xs.length<=D.length:=zE;refine⟨A,xs.length,c,by rw [aE h1];rfl,iR h2.hs (by omega) fun A2 c2 Za HK Tv=>⟨A2,_,c2,rfl,⟨Tv.heap rD.mark (fun h=>h),trivial⟩,?_⟩⟩;have hmk:=Tv.heap rD.mark (fun h=>h);have kp:Kept (· =mZ.heap.size) Za (Za.putObj mZ.heap.size (.deferred none)):=Kept.putAt _ _ _;have e:dB (xs.map (pg D))=eM D l:=Ef fun a=>by
    rw [List.mem_map];constructor
    ·rintro⟨j,hj,rfl⟩
     have hb:=((pW ws 0 j ho).1 hj).2;rw [Nat.mul_zero,Nat.sub_zero]at hb;obtain⟨h',um,nj,v7,EP⟩:=(qO j).1 hb;have:pg D j=nj.id:=by unfold pg;rw [v7]
     rw [this];exact⟨(EP.mem W).1,h',um,EP⟩
    ·rintro⟨ha,h',hh',C8⟩
     obtain⟨nj,hnm,rfl⟩:=eF.1 ha;obtain⟨j,hj⟩:=List.mem_iff_getElem?.1 hnm;refine⟨j,(pW ws 0 j ho).2 ⟨by omega,?_⟩,by unfold pg;rw [hj]⟩;rw [Nat.mul_zero,Nat.sub_zero];exact(qO j).2 ⟨h',hh',nj,hj,C8⟩
   rw [e]at HK⊢;have lS:Kept Nil w Za:=(KV.trans h3 (fun k hk e=>by omega)).tt Tv;have hws:w.heap.size<=v.heap.size:=Nat.le_trans KV.size h3.size;refine hK A2 c2 _ (Row.base (Row.apart HK kp (fun cs t fr h=>by rw [hmk]at h;cases h)) fun b hb=>Nat.le_trans hws (Row.bV HK hb).1) (lS.trans kp (fun k hk e=>by omega))
end
section
variable{w w':World}{S F:Nat->Prop}{g bl c mb gb:Nat}{D:DG}{C:HT->List HT}{M:List NM}{K:Value->World->Prop}
theorem BA(G:GV w S F g D C bl c mb M)(hg:w.heap[gb]? =some (.cells #[.pointer (some ⟨g,0,none⟩)] iT (0,0))){A:Option Addr}{n cx:Nat}{l:List HT}(hl:HS w A n l)(hn:n<=400000)
 (hK:∀w' (x:Bool),(x=true↔∃p∈l,p∉ids D)->Kept Nil w w'->K (.bool x) w'):
 bE prog dU.id #[.slice A n cx,.func (.func eV.id) #[] #[.pointer (some ⟨gb,0,none⟩)]] w K:=by
 have hlen:=hl.len;refine cI.of (ay.of ?_);refine ay.cJ (I:=fun s w'=>∃i:Nat,s=(0,(i:Int))/\i<=n/\(∀p∈l.take i,p∈ids D)/\Kept Nil w w') (μ:=fun s _=>((n:Int)-s.2).toNat) (s:=(0,0)) ⟨0,rfl,Nat.zero_le _,by simp,Kept.refl _ _⟩ ?_;rintro s w' ⟨i,rfl,hi,cY,kw⟩;refine Split.dec (fun jY=>?_) (fun gF=>?_)
 ·simp only at jY
  have dW:i<n:=by omega
  obtain⟨x,hx⟩:∃x,l[i]? =some x:=⟨_,List.getElem?_eq_getElem (by omega)⟩;refine(hl.same kw).load (i:=(i:Int)) (by omega) hx ?_;refine eV.of ?_;unfold eV.W;intro w3;have k3:Kept Nil w' w3:=(Kept.refl _ _).alloc _;have p7:w3.heap[w'.heap.size]? =some (.cells x.1 al (0,0)):=aM w' _;clear_value w3;have ML:=kw.tt k3;refine⟨some ⟨g,0,none⟩,by rw [aE (ML.heap hg (fun h=>h))];rfl,x.1,⟨x.2.1,Cells.bV p7⟩,sK (G.same ML) x fun w7 k7=>⟨_,rfl,_,rfl,?_⟩⟩;have CA:=ML.tt k7;by_cases hm:x∈ids D
  ·refine Split.no (by rw [decide_eq_true hm];rfl) ?_
   simp only;rw [dE (n:=(i:Int)) (by omega) (by omega)];refine⟨(0,(i:Int)+1),rfl,⟨i+1,rfl,dW,fun p hp=>?_,CA⟩,by simp only;omega⟩;rcases(bP hx).1 hp with hp|rfl
   ·exact cY p hp
   ·exact hm
  ·refine Split.yes (by rw [decide_eq_false hm];rfl) ?_
   refine⟨(i:Int),rfl,?_⟩;exact hK w7 _ ⟨fun _=>⟨x,List.mem_of_getElem? hx,hm⟩,fun _=>decide_eq_true (by omega)⟩ CA
 ·simp only at gF
  rw [aU,ay.dw];rw [List.take_of_length_le (by omega)]at cY;exact⟨-1,rfl,hK w' _ ⟨fun h=>absurd (of_decide_eq_true h) (by omega),fun⟨p,hp,hn⟩=>absurd (cY p hp) hn⟩ kw⟩
theorem kN{w:World}{a b:Nat}{ca cb:Array Value}{ta tb:TypeId}{fa fb:Nat×Nat}(ha:w.heap[a]? =some (.cells ca ta fa))(hb:w.heap[b]? =some (.cells cb tb fb))(fW:ta≠tb):a≠b:=by
 rintro rfl;rw [ha]at hb;simp only [Option.some.injEq,Obj.cells.injEq]at hb;exact fW hb.2.1
theorem GV.upd(G:GV w S F g D C bl c mb M)(W:kr D){q:Nat}{nd:DN}{m:NM}(hq:D[q]? =some nd)(hm:M[q]? =some m){A5:Option Addr}{n5 c5:Nat}{ch':List HT}
 (kT:Kept (fun k=>bH m.cA=some k\/k=m.b) w w') (hb:w'.heap[m.b]? =some (.cells (gI nd.id {m with cA:=A5,cn:=n5,cc:=c5}) eE (0,0))) (fO:cr w' w.heap.size A5 n5 c5 ch'):
 GV w' (fun k=>S k\/bH A5=some k) F g D (fun x=>if x=nd.id then ch' else C x) bl c mb (M.set q {m with cA:=A5,cn:=n5,cc:=c5}):=by
 have N:=G.node q nd m hq hm;have IM:q<M.length:=(lgeS hm).1;have po:∀k,bH m.cA=some k->∃cur,w.heap[k]? =some (.cells cur al (0,0)):=fun k hk=>(Row.bV N.ch hk).2;have hF:∀k,F k->¬(bH m.cA=some k\/k=m.b):=fun k hk e=>by
  rcases e with e|rfl
  ·exact G.Hd k (N.Q6 k e) hk
  ·exact G.Hd _ N.gQ hk
 have typ:∀ {k:Nat} {cs:Array Value} {t:TypeId},w.heap[k]? =some (.cells cs t (0,0))->t≠al->t≠eE->¬(bH m.cA=some k\/k=m.b):=fun h h1 h2 e=>by
  rcases e with e|rfl
  ·obtain⟨cur,hc⟩:=po _ e
   exact kN h hc h1 rfl
  ·exact kN h N.bV h2 rfl
 have Gy:∀k,bH A5=some k->w.heap.size<=k:=fun k hk=>(Row.bV fO hk).1;have gX:∀(i:Nat) m',(M.set q {m with cA:=A5,cn:=n5,cc:=c5})[i]? =some m'->(i=q/\m'= {m with cA:=A5,cn:=n5,cc:=c5})\/(i≠q/\M[i]? =some m'):=fun i m' h=>by
  by_cases e:i=q
  ·subst e
   rw [List.getElem?_set_self IM]at h;exact .inl ⟨rfl,(Option.some.inj h).symm⟩
  ·rw [List.getElem?_set_ne (Ne.symm e)]at h
   exact .inr ⟨e,h⟩
 refine⟨?_,?_,?_,by simpa using G.len,?_,?_,.inl G.iU,.inl G.ur,.inl G.wi,?_,?_⟩
 ·exact kT.heap G.top (typ G.top (by decide) (by decide))
 ·have Qa:(M.set q {m with cA:=A5,cn:=n5,cc:=c5}).map (fun m=>Value.pointer (some ⟨m.b,0,none⟩))=M.map fun m=>Value.pointer (some ⟨m.b,0,none⟩):=by
   apply List.ext_getElem?;intro i;rw [List.getElem?_map,List.getElem?_map];by_cases e:i=q
   ·subst e
    rw [List.getElem?_set_self IM,hm];rfl
   ·rw [List.getElem?_set_ne (Ne.symm e)]
  rw [Qa];refine Row.aK G.row kT (fun k e=>?_);cases e;obtain⟨_,cur,hc⟩:=Row.bV G.row (k:=bl) rfl;exact typ hc (by decide) (by decide)
 ·refine G.map.aK kT (fun e=>?_)
  obtain⟨es,clock,Lz,_⟩:=G.map.ex;rcases e with e|e
  ·obtain⟨cur,hc⟩:=po _ e
   rw [hc]at Lz;cases Lz
  ·rw [e,N.bV]at Lz;cases Lz
 ·intro i nd' m' hi np
  rcases gX i m' np with⟨rfl,rfl⟩|⟨fW,UY⟩
  ·rw [hq]at hi
   cases hi;rw [if_pos rfl];exact⟨hb,.inl N.gQ,N.ps.aK kT (fun a ha=>hF _ (N.KG a ha)),N.KG,Row.base fO (fun _ _=>Nat.zero_le _),fun k hk=>.inr hk,N.past.aK kT (fun a ha=>hF _ (N.pS a ha)),N.pS,N.ok,N.bits,N.small⟩
  ·have N':=G.node i nd' m' hi UY
   have hid:nd'.id≠nd.id:=fun e=>fW (W.inj hi hq e);rw [if_neg hid];have acb:m'.b≠m.b:=fun e=>by
    have h1:=N'.bV;rw [e,N.bV]at h1;simp only [Option.some.injEq,Obj.cells.injEq]at h1;exact hid (FU h1.1).symm
   refine⟨kT.heap N'.bV (fun e=>?_),.inl N'.gQ,N'.ps.aK kT (fun a ha=>hF _ (N'.KG a ha)),N'.KG,Row.aK N'.ch kT (fun k hk e=>?_),fun k hk=>.inl (N'.Q6 k hk),N'.past.aK kT (fun a ha=>hF _ (N'.pS a ha)),N'.pS,N'.ok,N'.bits,N'.small⟩
   ·rcases e with e|e
    ·obtain⟨cur,hc⟩:=po _ e
     exact kN N'.bV hc (by decide) rfl
    ·exact acb e
   ·rcases e with e|rfl
    ·exact G.apart i q m' m UY hm fW k hk e
    ·obtain⟨cur,hc⟩:=(Row.bV N'.ch hk).2
     exact kN hc N.bV (by decide) rfl
 ·intro i j m1 m2 h1 h2 sH k Kg oZ
  rcases gX i m1 h1 with⟨rfl,rfl⟩|⟨hi,um⟩
  ·rcases gX j m2 h2 with⟨rfl,rfl⟩|⟨hj,v7⟩
   ·exact sH rfl
   ·have:=Gy k Kg
    have uV:j<D.length:=by rw [<-G.len];exact(lgeS v7).1
    obtain⟨cur,hc⟩:=(Row.bV (G.node j _ m2 (List.getElem?_eq_getElem uV) v7).ch oZ).2;have:=bf hc;omega
  ·rcases gX j m2 h2 with⟨rfl,rfl⟩|⟨hj,v7⟩
   ·have:=Gy k oZ
    have dW:i<D.length:=by rw [<-G.len];exact(lgeS um).1
    obtain⟨cur,hc⟩:=(Row.bV (G.node i _ m1 (List.getElem?_eq_getElem dW) um).ch Kg).2;have:=bf hc;omega
   ·exact G.apart i j m1 m2 um v7 sH k Kg oZ
 ·intro k hk hf
  rcases hk with hk|hk
  ·exact G.Hd k hk hf
  ·have:=Gy k hk
   have:=G.low k (.inr hf);omega
 ·intro k hk
  rcases hk with(hk|hk)|hk
  ·exact Nat.lt_of_lt_of_le (G.low k (.inl hk)) kT.size
  ·obtain⟨cur,hc⟩:=(Row.bV fO hk).2
   exact bf hc
  ·exact Nat.lt_of_lt_of_le (G.low k (.inr hk)) kT.size
end
theorem Ay(h:HT)(m:NM)(A:Option Addr)(n c:Nat):(gI h m).setIfInBounds 33 (.slice A n c)=gI h {m with cA:=A,cn:=n,cc:=c}:=by
 have hs:=h.2.1;apply Array.ext_getElem?;intro i;unfold gI;rw [Array.getElem?_setIfInBounds,Array.getElem?_append,Array.getElem?_append];by_cases h1:i<h.1.size
 ·rw [if_neg (by omega),if_pos h1,if_pos h1]
 ·rw [if_neg h1,if_neg h1]
  by_cases h2:i=33
  ·subst h2
   rw [if_pos rfl,if_pos (by simp;omega),hs];rfl
  ·rw [if_neg (Ne.symm h2),hs]
   match i-32,show i-32≠1 by omega with
   |0,_=>rfl
   |2,_=>rfl
   |(k+3),_=>rfl
theorem Ax(h:HT)(m:NM)(A:Option Addr)(n c:Nat):(gI h m).setIfInBounds 34 (.slice A n c)=gI h {m with rA:=A,rn:=n,rc:=c}:=by
 have hs:=h.2.1;apply Array.ext_getElem?;intro i;unfold gI;rw [Array.getElem?_setIfInBounds,Array.getElem?_append,Array.getElem?_append];by_cases h1:i<h.1.size
 ·rw [if_neg (by omega),if_pos h1,if_pos h1]
 ·rw [if_neg h1,if_neg h1]
  by_cases h2:i=34
  ·subst h2
   rw [if_pos rfl,if_pos (by simp;omega),hs];rfl
  ·rw [if_neg (Ne.symm h2),hs]
   match i-32,show i-32≠2 by omega with
   |0,_=>rfl
   |1,_=>rfl
   |(k+3),_=>rfl
section
variable{w w0 w':World}{S F F1 S':Nat->Prop}{g bl c mb gb ib nb:Nat}{D:DG}{C:HT->List HT}{M:List NM}{K:Value->World->Prop}
noncomputable def jx(D:DG)(h:HT)(l:List HT):HT->List HT:=fun x=>if x∈l then dB (iB D x++ [h])else iB D x
structure AL(w0 w':World)(S F1 S':Nat->Prop)(g:Nat)(D:DG)(h:HT)(l:List HT)(gb ib nb:Nat)(pA:Option Addr)(pc i bl c mb:Nat)(M:List NM)(rA:Option Addr)(rn rc:Nat)(ws:List Nat):Prop where
 G:GV w' S' F1 g D (jx D h (l.take i)) bl c mb M
 sub:∀k,S k->S' k
 new:∀k,S' k->S k\/w0.heap.size<=k
 node:w'.heap[nb]? =some (.cells (gI h ⟨nb,pA,l.length,pc,none,0,0,rA,rn,rc,ws⟩) eE (0,0))
 Zu:¬S' nb
 row:lF w' nb rA rn rc ws
 ok:okW ws
 small:rn<=200
 Zt:∀k,bH rA=some k->¬S' k
 bits:∀j,bit ws j=true↔∃p∈l.take i,∃nj,D[j]? =some nj/\(nj.id=p\/fH D nj.id p)
 YF:w'.heap[gb]? =some (.cells #[.pointer (some ⟨g,0,none⟩)] iT (0,0))
 ibx:w'.heap[ib]? =some (.cells h.1 al (0,0))
 noG:¬S' gb
 noI:¬S' ib
 hl:HS w' pA l.length l
 kp:Kept S w0 w'
theorem GX{h:HT}{l:List HT}{pA:Option Addr}{pc i:Nat}{rA:Option Addr}{rn rc:Nat}{ws:List Nat}{Q:aT}
 (L:AL w0 w' S F1 S' g D h l gb ib nb pA pc i bl c mb M rA rn rc ws) (W:kr D) (hD:D.length<=10000) (uU:SS l) (gC:∀p∈l,p∈ids D) (Hb:∀k,F1 k->k<nb) (Ke:∀a,pA=some a->F1 a.block) (h0:w0.heap.size<=nb) (dW:i<l.length) (hll:l.length<=10000)
 (hQ:∀S2 M rA rn rc ws v,AL w0 v S F1 S2 g D h l gb ib nb pA pc (i+1) bl c mb M rA rn rc ws->Q .normal (bN.e1 ⟨gb,0,none⟩ ⟨ib,0,none⟩ 0 ⟨nb,0,none⟩ pA l.length pc (l.length:Int) ((i:Int)+1)) v):
 bN.B1 ⟨gb,0,none⟩ ⟨ib,0,none⟩ 0 ⟨nb,0,none⟩ pA l.length pc (l.length:Int) (i:Int) Q w':=by
 obtain⟨p,hp⟩:∃p,l[i]? =some p:=⟨_,List.getElem?_eq_getElem dW⟩;have rT:=List.mem_of_getElem? hp;have aaX:=gC p rT;refine Split.yes (decide_eq_true (by omega)) ?_;refine L.hl.load (i:=(i:Int)) (by omega) hp ?_;intro qu;obtain⟨tA,kh,kH⟩:=iN (w:=w') (z:=(CJ 0)) (cs:=p.1) (t:=al) (by rw [p.2.1];rfl);refine⟨⟨p.2.1,p.2.one,fun j hj=>tA j (by rw [p.2.1];exact hj)⟩,?_⟩;intro rO
 replace kh:rO.heap[w'.heap.size]? =some (.cells p.1 al (0,0)):=kh
 replace rP:Kept Nil w' rO:=kH
 clear_value rO;refine⟨some ⟨g,0,none⟩,by rw [aE (rP.heap L.YF (fun h=>h))];rfl,p.1,⟨p.2.1,Cells.bV kh⟩,?_⟩;refine wu (L.G.same rP) p fun w40 x k40 hx=>⟨x,rfl,?_⟩;rcases hx with⟨rfl,mG⟩|⟨q,nd,m',hq,gU,np,rfl⟩
 ·exact absurd aaX mG
 intro Ho;have K6:Kept Nil w' Ho:=(rP.tt k40).drew;have I3:Ho.heap[w'.heap.size]? =some (.cells p.1 al (0,0)):=k40.heap kh (fun h=>h);clear_value Ho;have aiF:=K6.size;have YW:=L.G.same K6;obtain⟨m,hm,Sb⟩:=YW.get hq;rw [np]at hm;cases hm;have P6:=K6.heap L.node (fun h=>h);have Af:lF Ho nb rA rn rc ws:=Row.aK L.row K6 (fun _ _ h=>h);refine⟨rA,rn,rc,by rw [bD,Nat.zero_add,aE P6];exact Az _ _,?_⟩;refine⟨_,_,_,xP Sb,some ⟨g,0,none⟩,by rw [aE (K6.heap L.YF (fun h=>h))];rfl,?_⟩;refine⟨some mb,YW.at_,p.1,⟨p.2.1,Cells.bV I3⟩,_,YW.map.xY p,?_⟩;rw [show pos p (ids D) 0=some q by rw [<-gU];exact W.pos_eq hq,Option.getD_some];have IM:=(lgeS hq).1;have vR:=Sb.small;have ait:=L.small;have hrA:∀k,bH rA=some k->nb<=k/\k<w'.heap.size:=fun k hk=>by
  obtain⟨h1,cur,hc⟩:=Row.bV L.row hk;exact⟨h1,bf hc⟩
 have aba:nb<w'.heap.size:=bf L.node;have Mx:∀ {v:World} {A:Option Addr} {n c:Nat} {l:List Nat} {B:Nat},lF v B A n c l->∀ {k:Nat} {cs:Array Value} {t:TypeId},v.heap[k]? =some (.cells cs t (0,0))->t≠gE->¬bH A=some k:=fun hr _ _ _ hk fW e=>by
  obtain⟨_,cur,hc⟩:=Row.bV hr e;exact kN hk hc fW rfl
 refine xJ Af L.ok (by omega) (by omega) Sb.past Sb.ok (by omega) (fun a ha k hk e=>?_) fun A2 n2 c2 l2 Mu tT aa5 ajf QG H8 acq=>⟨A2,n2,c2,rfl,?_⟩
 ·have h1:=Hb a.block (Sb.pS a ha)
  have h2:=(hrA k hk).1;omega
 have hnF:∀k,F1 k->¬bH rA=some k:=fun k hk e=>by have:=Hb k hk;have:=(hrA k e).1;omega
 have G52:=YW.aK H8 (fun k hk e=>L.Zt k e hk) hnF;have VT:=H8.heap I3 (Mx Af I3 (by decide));have Vp:=K6.heap L.YF (fun h=>h);have Qt:=H8.heap Vp (Mx Af Vp (by decide));have Vh:=K6.heap L.ibx (fun h=>h);have Vg:=H8.heap Vh (Mx Af Vh (by decide));have Nt:=H8.heap P6 (Mx Af P6 (by decide));have aiE:=H8.size;have U5:=G52.map.xY p;rw [show pos p (ids D) 0=some q by rw [<-gU];exact W.pos_eq hq,Option.getD_some]at U5;refine⟨U5,⟨p.1,rfl,p.2.1,Cells.bV VT⟩,G52.at_,by rw [aE Qt];rfl,?_⟩;have WK:∀k,bH A2=some k->bH rA=some k\/Ho.heap.size<=k:=acq;refine Ad tT aa5 (by omega) (by omega) (by omega) fun A3 n3 c3 l3 q9 xK aa4 aje QF Gc QJ=>⟨A3,n3,c3,rfl,?_⟩;have CW:∀k,bH A2=some k->¬S' k:=fun k hk hs=>by
  rcases WK k hk with h|h
  ·exact L.Zt k h hs
  ·have:=L.G.low k (.inl hs);omega
 have IQ:∀k,F1 k->¬bH A2=some k:=fun k hf hk=>by
  have:=Hb k hf;have:=(Row.bV tT hk).1;omega
 have G55:=G52.aK Gc (fun k hk e=>CW k e hk) IQ;have LK:=Gc.heap Qt (Mx tT Qt (by decide));have Ve:=Gc.heap Vg (Mx tT Vg (by decide));have Bc:=Gc.heap Nt (Mx tT Nt (by decide));have aiD:=Gc.size;have ae5:=vE h ⟨nb,pA,l.length,pc,none,0,0,rA,rn,rc,ws⟩;refine⟨by rw [bD,Nat.zero_add];exact dP Bc (by omega),?_⟩;intro w57 Hm;have Gb:Kept (· =nb) q9 w57:=by
  show Kept (· =nb) q9 (q9.setCell ((⟨nb,0,none⟩:Addr).add 34) (.slice A3 n3 c3))
  exact Kept.setCell (S:=fun k=>k=nb) (Kept.refl _ q9) (by rw [fu];exact fun _=>rfl) _
 have UN:w57.heap[nb]? =some (.cells (gI h ⟨nb,pA,l.length,pc,none,0,0,A3,n3,c3,l3⟩) eE (0,0)):=by
  show(q9.setCell ((⟨nb,0,none⟩:Addr).add 34) (.slice A3 n3 c3)).heap[nb]? =_;rw [bD,Nat.zero_add,du Bc 34,Ax];rfl
 have Em:Kept (· =nb) q9 Hm:=Gb.drew;have UM:Hm.heap[nb]? =some (.cells (gI h ⟨nb,pA,l.length,pc,none,0,0,A3,n3,c3,l3⟩) eE (0,0)):=UN;clear_value Hm;clear UN Gb;have aiC:=Em.size;have G58:=G55.aK Em (fun k hk e=>L.Zu (e▸hk)) (fun k hk e=>by have:=Hb k hk;omega);have Vo:=Em.heap LK (kN LK Bc (by decide));have Qp:=Em.heap Ve (kN Ve Bc (by decide));have SA:lF Hm nb A3 n3 c3 l3:=Row.aK xK Em (fun k hk e=>by
  subst e;exact Mx xK Bc (by decide) hk)
 obtain⟨m,hm,N58⟩:=G58.get hq;rw [np]at hm;cases hm;refine⟨m'.cA,m'.cn,m'.cc,Ei N58,h.1,⟨h.2.1,Cells.bV Qp⟩,h.2.1,?_⟩;intro Xu;have ZQ:Kept Nil Hm Xu:=(Kept.refl _ _).alloc _;have QE:HS Xu (some ⟨Hm.heap.size,0,none⟩) 1 [h]:=jE Hm h;clear_value Xu;have G62:=G58.same ZQ;obtain⟨m,hm,Sa⟩:=G62.get hq;rw [np]at hm;cases hm;refine⟨Ei Sa,?_⟩;have VL:=Sa.ch.len;have EH:jx D h (l.take i) nd.id=iB D p:=by
  unfold jx;rw [gU,if_neg];intro jo;obtain⟨j,hj⟩:=List.mem_iff_getElem?.1 jo;rw [List.getElem?_take]at hj;split at hj
  ·have:=uU.get (by omega) hj hp
   rw [jr]at this;cases this
  ·cases hj
 have rU:=og D fun a=>oV D p a;have Yp:m'.cn<=10000:=by
  rw [<-VL,EH];unfold iB;omega
 obtain⟨A7,c7,G4,aaF,Sz,abG,aco⟩:=dd (cx:=1) aF Sa.ch QE (by omega) (Nat.zero_le _);have Ga:Kept (fun k=>bH m'.cA=some k) Xu G4:=Kept.grown (Kept.refl _ _) abG (fun k hk _=>hk);refine⟨A7,_,c7,G4,aaF,?_⟩;have aiB:=ZQ.size;have T8:=Ga.size;refine iR Sz.hs (by omega) fun A5 c5 Ov HJ ZP=>⟨A5,_,c5,rfl,?_⟩;have aiA:=ZP.size;have UU:=Ga.heap Sa.bV (fun e=>by
  obtain⟨_,cur,hc⟩:=Row.bV Sa.ch e;exact kN Sa.bV hc (by decide) rfl)
 have IT:=ZP.heap UU (fun h=>h);refine⟨by rw [bD,Nat.zero_add];exact dP IT (by rw [vE];omega),?_⟩;intro DS;have Ts:Kept (· =m'.b) Ov DS:=by
  show Kept (· =m'.b) Ov (Ov.setCell ((⟨m'.b,0,none⟩:Addr).add 33) (.slice A5 (dB (jx D h (l.take i) nd.id++ [h])).length c5))
  exact Kept.setCell (S:=fun k=>k=m'.b) (Kept.refl _ Ov) (by rw [fu];exact fun _=>rfl) _
 have UT:DS.heap[m'.b]? =some (.cells (gI nd.id {m' with cA:=A5,cn:=(dB (jx D h (l.take i) nd.id++ [h])).length,cc:=c5}) eE (0,0)):=by
  show(Ov.setCell ((⟨m'.b,0,none⟩:Addr).add 33) (.slice A5 (dB (jx D h (l.take i) nd.id++ [h])).length c5)).heap[m'.b]? =_;rw [bD,Nat.zero_add,du IT 33,Ay]
 clear_value DS;have kT:Kept (fun k=>bH m'.cA=some k\/k=m'.b) Hm DS:=
  (((ZQ.mono (S':=fun k=>bH m'.cA=some k\/k=m'.b) (fun _ _ h=>h.elim)).trans Ga (fun _ _ h=>.inl h)).trans ZP (fun _ _ h=>h.elim)).trans Ts (fun _ _ h=>.inr h)
 have IG:cr DS Hm.heap.size A5 (dB (jx D h (l.take i) nd.id++ [h])).length c5 (dB (jx D h (l.take i) nd.id++ [h])):=
  Row.base (Row.aK HJ Ts (fun k hk e=>by
   subst e;obtain⟨_,cur,hc⟩:=Row.bV HJ hk;exact kN IT hc (by decide) rfl)) (fun k hk=>by have:=(Row.bV HJ hk).1;omega)
 have G69:=G58.upd W hq np kT UT IG;have Gy:∀k,bH A5=some k->Hm.heap.size<=k:=fun k hk=>(Row.bV IG hk).1;have RX:∀k,(bH m'.cA=some k\/k=m'.b)->S' k:=fun k e=>by
  rcases e with e|rfl
  ·exact N58.Q6 k e
  ·exact N58.gQ
 have hkf:(fun x=>if x=nd.id then dB (jx D h (l.take i) nd.id++ [h])else jx D h (l.take i) x)=jx D h (l.take (i+1)):=by
  funext x
  by_cases hx:x=nd.id
  ·rw [if_pos hx,EH,hx,gU]
   unfold jx;rw [if_pos ((bP hp).2 (.inr rfl))]
  ·rw [if_neg hx]
   unfold jx;have:x∈l.take (i+1)↔x∈l.take i:=by
    rw [bP hp];exact⟨fun e=>e.resolve_right (fun e=>hx (by rw [gU];exact e)),.inl⟩
   by_cases hm:x∈l.take i
   ·rw [if_pos hm,if_pos (this.2 hm)]
   ·rw [if_neg hm,if_neg (fun e=>hm (this.1 e))]
 rw [hkf]at G69;rw [dE (n:=(i:Int)) (by omega) (by omega)];have afe:nb<Hm.heap.size:=bf UM;have lS:Kept S w0 DS:=by
  have k1:=L.kp.trans K6 (fun _ _ h=>h.elim);have k2:=k1.trans H8 (fun k hk e=>absurd (hrA k e).1 (by omega));have k3:=k2.trans Gc (fun k hk e=>absurd (Row.bV tT e).1 (by omega));have k4:=k3.trans Em (fun k hk e=>by omega);exact k4.trans kT (fun k hk e=>by
   rcases L.new k (RX k e)with h|h
   ·exact h
   ·omega)
 refine hQ _ _ A3 n3 c3 l3 DS ⟨G69,fun k hk=>.inl (L.sub k hk),fun k hk=>?_,kT.heap UM (fun e=>L.Zu (RX _ e)),fun e=>?_,Row.aK SA kT (fun k hk e=>?_),aa4,by omega,fun k hk e=>?_,fun j=>?_,
  kT.heap Vo (fun e=>L.noG (RX _ e)),kT.heap Qp (fun e=>L.noI (RX _ e)),fun e=>?_,fun e=>?_,?_,lS⟩
 ·rcases hk with hk|hk
  ·exact L.new k hk
  ·have:=Gy k hk
   have:=L.kp.size;exact .inr (by omega)
 ·rcases e with e|e
  ·exact L.Zu e
  ·have:=Gy _ e;omega
 ·have hs:=RX k e
  rcases QJ k hk with h|h
  ·exact CW k h hs
  ·have:=L.G.low k (.inl hs);omega
 ·have hk3:k<q9.heap.size:=by
   obtain⟨_,cur,hc⟩:=Row.bV xK hk;exact bf hc
  rcases e with e|e
  ·rcases QJ k hk with h|h
   ·exact CW k h e
   ·have:=L.G.low k (.inl e);omega
  ·have:=Gy _ e;omega
 ·rw [QF,Bool.or_eq_true,QG,Bool.or_eq_true,L.bits,Sb.bits,decide_eq_true_iff]
  constructor
  ·rintro((⟨p',h1,h2⟩|⟨nj,h1,h2⟩)|rfl)
   ·exact⟨p',(bP hp).2 (.inl h1),h2⟩
   ·exact⟨p,(bP hp).2 (.inr rfl),nj,h1,.inr (gU▸h2)⟩
   ·exact⟨p,(bP hp).2 (.inr rfl),nd,hq,.inl gU⟩
  ·rintro⟨p',h1,nj,h2,h3⟩
   rcases(bP hp).1 h1 with h1|rfl
   ·exact .inl (.inl ⟨p',h1,nj,h2,h3⟩)
   ·rcases h3 with h3|h3
    ·exact .inr (W.inj h2 hq (h3.trans gU.symm))
    ·exact .inl (.inr ⟨nj,h2,gU▸h3⟩)
 ·rcases e with e|e
  ·exact L.noG e
  ·have:=Gy _ e;have:=bf Vo;omega
 ·rcases e with e|e
  ·exact L.noI e
  ·have:=Gy _ e;have:=bf Qp;omega
 ·have hb:∀a,pA=some a->F1 a.block/\a.block<nb:=fun a ha=>⟨Ke a ha,Hb _ (Ke a ha)⟩
  have k1:=L.hl.same K6;have k2:=k1.aK H8 (fun a ha=>hnF _ (hb a ha).1);have k3:=k2.aK Gc (fun a ha=>IQ _ (hb a ha).1);have k4:=k3.aK Em (fun a ha e=>by have:=(hb a ha).2;omega);exact k4.aK kT (fun a ha e=>L.G.Hd _ (RX _ e) (hb a ha).1)
end
theorem St:zI prog mo fL 1 8:=⟨by kernel_rfl,by kernel_rfl⟩
theorem Jx:R8 prog eE=some ([(0,32),(32,1),(33,1),(34,1)],List.replicate 32 (.int .u8 0)++ [.slice none 0 0,.slice none 0 0,.slice none 0 0]):=by kernel_rfl
theorem Jv(h:HT)(b:Nat)(A:Option Addr)(n c:Nat):prog.built eE [(0,.agg h.1),(1,.slice A n c)]=some (gI h ⟨b,A,n,c,none,0,0,none,0,0,[]⟩):=by
 have hs:=h.2.1;rw [ow Jx,jw (off:=0) (size:=32) rfl (by simpa [Value.cells]using hs) (by simp),jw (off:=32) (size:=1) rfl rfl (by
  rw [List.size_toArray,mJ (by simp [Value.cells,hs])];simp)]
 simp only [Instr.fill,Option.some.injEq];apply Array.ext';unfold iG gI;simp [Value.cells,hs];rw [List.drop_append];simp [hs]
theorem GM(h:HT)(b:Nat):prog.built eE [(0,.agg h.1)]=some (gI h ⟨b,none,0,0,none,0,0,none,0,0,[]⟩):=by
 have hs:=h.2.1;rw [ow Jx,jw (off:=0) (size:=32) rfl (by simpa [Value.cells]using hs) (by simp)];simp only [Instr.fill,Option.some.injEq];apply Array.ext';unfold iG gI;simp [Value.cells,hs]
section
variable{D:DG}{h:HT}{l:List HT}
theorem Dv(W:kr D)(hn:h∉ids D){x:HT}:jx D h l x=iB (D++ [⟨h,l⟩]) x:=by
 have jo:∀a,a∈iB (D++ [⟨h,l⟩]) x↔(a∈iB D x\/(a=h/\x∈l)):=fun a=>by
  unfold iB;rw [km,km,oh,lT,List.mem_append,List.mem_singleton];constructor
  ·rintro⟨h1,h2|⟨h2,h3⟩⟩
   ·exact .inl ⟨(fH.mem W (.one h2)).2,h2⟩
   ·exact .inr ⟨h2.symm,h3⟩
  ·rintro(⟨h1,h2⟩|⟨rfl,h2⟩)
   ·exact⟨.inl h1,.inl h2⟩
   ·exact⟨.inr rfl,.inr ⟨rfl,h2⟩⟩
 unfold jx;by_cases uf:x∈l
 ·rw [if_pos uf]
  refine(yD (l:=iB (D++ [⟨h,l⟩]) x) (jy _) fun a=>?_).symm;rw [jo,List.mem_append,List.mem_singleton];exact⟨fun e=>e.imp (fun e=>e) (fun e=>e.1),fun e=>e.imp (fun e=>e) (fun e=>⟨e,uf⟩)⟩
 ·rw [if_neg uf]
  refine zu (jy _) (jy _) fun a=>?_;have:=jo a;unfold iB pick at this⊢;rw [this];exact⟨.inl,fun e=>e.resolve_right (fun e=>uf e.2)⟩
theorem GL(W:kr D)(hn:h∉ids D)(gC:∀p∈l,p∈ids D):iB (D++ [⟨h,l⟩]) h= []:=by
 cases hc:iB (D++ [⟨h,l⟩]) h with
 |nil=>rfl
 |cons b t=>
  exfalso;have:b∈iB (D++ [⟨h,l⟩]) h:=by rw [hc];simp
  rcases oh.1 (km.1 this).2 with h1|⟨_,h2⟩
  ·exact hn (fH.mem W (.one h1)).1
  ·exact hn (gC h h2)
theorem Jy(W:kr D)(hn:h∉ids D){x:HT}(hx:x∈ids D)(j:Nat):(∃nj,(D++ [⟨h,l⟩])[j]? =some nj/\fH (D++ [⟨h,l⟩]) nj.id x)↔∃nj,D[j]? =some nj/\fH D nj.id x:=by
 constructor
 ·rintro⟨nj,h1,h2⟩
  have v7:=(jM W (nd:=⟨h,l⟩) hn hx).1 h2;rw [List.getElem?_append]at h1;split at h1
  ·exact⟨nj,h1,v7⟩
  ·exfalso
   have:nj=⟨h,l⟩:=by
    cases hk:j-D.length with
    |zero=>rw [hk]at h1;simpa using h1.symm
    |succ k=>rw [hk]at h1;simp at h1
   subst this;exact hn (v7.mem W).1
 ·rintro⟨nj,h1,h2⟩
  exact⟨nj,by rw [List.getElem?_append_left (lgeS h1).1];exact h1,(jM W (nd:=⟨h,l⟩) hn hx).2 h2⟩
theorem Jz(W:kr D)(hn:h∉ids D)(gC:∀p∈l,p∈ids D)(hs:SS l)(j:Nat):
 (∃nj,(D++ [⟨h,l⟩])[j]? =some nj/\fH (D++ [⟨h,l⟩]) nj.id h)↔∃p∈l,∃nj,D[j]? =some nj/\(nj.id=p\/fH D nj.id p):=by
 have W':kr (D++ [⟨h,l⟩]):=W.snoc (nd:=⟨h,l⟩) hn gC hs;have gX:(D++ [⟨h,l⟩])[D.length]? =some ⟨h,l⟩:=by rw [List.getElem?_append_right (Nat.le_refl _),Nat.sub_self];rfl
 have key:∀a,fH (D++ [⟨h,l⟩]) a h↔∃p∈l,a=p\/fH D a p:=fun a=>by
  rw [EY W' gX a];constructor
  ·rintro⟨p,hp,e⟩
   exact⟨p,hp,e.imp (fun e=>e) (fun e=>(jM W (nd:=⟨h,l⟩) hn (gC p hp)).1 e)⟩
  ·rintro⟨p,hp,e⟩
   exact⟨p,hp,e.imp (fun e=>e) (fun e=>(jM W (nd:=⟨h,l⟩) hn (gC p hp)).2 e)⟩
 constructor
 ·rintro⟨nj,h1,h2⟩
  obtain⟨p,hp,e⟩:=(key _).1 h2;have hid:nj.id∈ids D:=by
   rcases e with e|e
   ·rw [e];exact gC p hp
   ·exact(e.mem W).1
  rw [List.getElem?_append]at h1;split at h1
  ·exact⟨p,hp,nj,h1,e⟩
  ·exfalso
   have:nj=⟨h,l⟩:=by
    cases hk:j-D.length with
    |zero=>rw [hk]at h1;simpa using h1.symm
    |succ k=>rw [hk]at h1;simp at h1
   subst this;exact hn hid
 ·rintro⟨p,hp,nj,h1,e⟩
  exact⟨nj,by rw [List.getElem?_append_left (lgeS h1).1];exact h1,(key _).2 ⟨p,hp,e⟩⟩
end
section
variable{w w':World}{S F F':Nat->Prop}{g bl c mb:Nat}{D:DG}{C:HT->List HT}{M:List NM}{K:Value->World->Prop}
theorem GV.SQ(G:GV w S F g D C bl c mb M)(hf:∀k,F k->F' k)(hd:∀k,S k->¬F' k)(hl:∀k,F' k->k<w.heap.size):GV w S F' g D C bl c mb M:=
 ⟨G.top,G.row,G.map,G.len,fun i nd m h1 h2=>by
   have N:=G.node i nd m h1 h2;exact⟨N.bV,N.gQ,N.ps,fun a ha=>hf _ (N.KG a ha),N.ch,N.Q6,N.past,fun a ha=>hf _ (N.pS a ha),N.ok,N.bits,N.small⟩,G.apart,G.iU,G.ur,G.wi,hd,fun k hk=>hk.elim (fun h=>G.low k (.inl h)) (hl k)⟩
theorem Mr{w0:World}{F1 S':Nat->Prop}{h:HT}{l:List HT}{gb ib nb:Nat}{pA:Option Addr}{pc i:Nat}{rA:Option Addr}{rn rc:Nat}{ws:List Nat}
 (L:AL w0 w S F1 S' g D h l gb ib nb pA pc i bl c mb M rA rn rc ws) (W:kr D) (hD:D.length<=5000) (uU:SS l) (gC:∀p∈l,p∈ids D) (hn:h∉ids D) (Hb:∀k,F1 k->k<nb) (Ke:∀a,pA=some a->F1 a.block) (h0:w0.heap.size<=nb) (dW:l.length<=i)
 (hK:∀v S2 F2,DO v S2 F2 g (D++ [⟨h,l⟩])->Kept S w0 v->(∀k,S2 k->S k\/w0.heap.size<=k)->(∀k,F2 k->F1 k\/w0.heap.size<=k)->K (.int .i64 0) v):
 bN.G0 ⟨gb,0,none⟩ ⟨ib,0,none⟩ 0 ⟨nb,0,none⟩ pA l.length pc (l.length:Int) (i:Int) K w:=by
 have Kc:l.take i=l:=List.take_of_length_le dW;have hG:=L.G;rw [Kc]at hG;have NN:=L.bits;rw [Kc]at NN;unfold bN.G0;intro Ro;have MO:Kept Nil w Ro:=(Kept.refl _ _).drew;clear_value Ro;have uZ:=hG.same MO;have LJ:=MO.heap L.YF (fun h=>h);have IS:=MO.heap L.node (fun h=>h);have D6:lF Ro nb rA rn rc ws:=Row.aK L.row MO (fun _ _ h=>h);refine⟨some ⟨g,0,none⟩,by rw [aE LJ];rfl,some mb,uZ.at_,h.1,⟨h.2.1,Cells.bV (MO.heap L.ibx (fun h=>h))⟩,some ⟨g,0,none⟩,by rw [aE LJ];rfl,?_⟩;refine⟨_,_,_,uZ.nodes,?_⟩;obtain⟨w85,Ug,S6,k85⟩:=uZ.map.put hn;rw [iK]at Ug;refine⟨w85,Ug,?_⟩;intro Kv;have O8:Kept (· =mb) Ro Kv:=k85.drew;have MI:IsMap Kv mb (ids D++ [h]):=S6.aK ((Kept.refl Nil w85).drew) (fun h=>h);clear_value Kv;have Ky:∀ {v:World} {k:Nat} {cs:Array Value} {t:TypeId},IsMap v mb (ids D)->v.heap[k]? =some (.cells cs t (0,0))->k≠mb:=fun hm hk e=>by
  obtain⟨es,clock,Lz,_⟩:=hm.ex;rw [e,Lz]at hk;cases hk
 have Qs:=O8.heap LJ (Ky uZ.map LJ);have ajd:=O8.heap IS (Ky uZ.map IS);have Iw:=O8.heap uZ.top (Ky uZ.map uZ.top);have Sy:Row Kv 0 fL 1 (some ⟨bl,0,none⟩) D.length c (M.map fun m=>.pointer (some ⟨m.b,0,none⟩)):=Row.aK uZ.row O8 (fun k hk e=>by
  obtain⟨_,cur,hc⟩:=Row.bV uZ.row hk;exact Ky uZ.map hc e)
 have Zn:lF Kv nb rA rn rc ws:=Row.aK D6 O8 (fun k hk e=>by
  obtain⟨_,cur,hc⟩:=Row.bV D6 hk;exact Ky uZ.map hc e)
 refine⟨some ⟨g,0,none⟩,by rw [aE Qs];rfl,some ⟨g,0,none⟩,by rw [aE Qs];rfl,?_⟩;refine⟨some ⟨bl,0,none⟩,D.length,c,by rw [add_zero,aE Iw];rfl,?_⟩;intro Ot;have RA:Kept Nil Kv Ot:=(Kept.refl _ _).alloc _;have acm:Ot.heap[Kv.heap.size]? =some (.cells #[.pointer (some ⟨nb,0,none⟩)] fL (0,0)):=aM Kv _;clear_value Ot;have LI:=RA.heap Qs (fun h=>h);have CL:=RA.heap Iw (fun h=>h);refine⟨by rw [add_zero,aE CL];rfl,by rw [aE LI];rfl,by rw [aE LI];rfl,?_⟩;have HH:Row Ot 0 fL 1 (some ⟨bl,0,none⟩) D.length c (M.map fun m=>.pointer (some ⟨m.b,0,none⟩)):=Row.aK Sy RA (fun _ _ h=>h);obtain⟨YZ,R7,Oq,aaD,HG,Vk,ack⟩:=fY (P:=prog) (t:=mo) (ty:=mo) (bytes:=8) St HH (a:=⟨Kv.heap.size,0,none⟩) (m:=1) (cx:=1) (news:= [.pointer (some ⟨nb,0,none⟩)]) rfl
  (fun j u hj=>by rw [bD,Nat.zero_add,aE acm];simpa using hj) (fun u hu=>by simp at hu;subst hu;rfl) (by omega) (by unfold maxLen;omega) (Nat.zero_le _)
 have XG:Kept (· =bl) Ot Oq:=Kept.grown (S:=fun k=>k=bl) (Kept.refl _ _) Vk (fun k hk _=>by cases hk;rfl);refine⟨YZ,_,R7,Oq,aaD,?_⟩;have tyL:∀ {k:Nat} {cs:Array Value} {t:TypeId},Ot.heap[k]? =some (.cells cs t (0,0))->t≠fL->k≠bl:=fun hk fW=>by
  obtain⟨_,cur,hc⟩:=Row.bV HH (k:=bl) rfl;exact kN hk hc fW
 have abF:=XG.heap LI (tyL LI (by decide));have yX:=XG.heap CL (tyL CL (by decide));refine⟨by rw [aE abF];rfl,by rw [add_zero];exact dP yX (by simp),?_⟩;intro JQ;have ZN:Kept (· =g) Oq JQ:=by
  show Kept (· =g) Oq (Oq.setCell ((⟨g,0,none⟩:Addr).add 0) (.slice YZ (D.length+1) R7))
  exact Kept.setCell (S:=fun k=>k=g) (Kept.refl _ Oq) (by rw [fu];exact fun _=>rfl) _
 have PI:JQ.heap[g]? =some (.cells #[.slice YZ (D.length+1) R7,.map (some mb)] iO (0,0)):=by
  show(Oq.setCell ((⟨g,0,none⟩:Addr).add 0) (.slice YZ (D.length+1) R7)).heap[g]? =_;rw [add_zero,du yX 0];rfl
 clear_value JQ;obtain⟨R9,rfl⟩:=Row.some HG (by omega);have aiy:=O8.size;have aix:=RA.size;have lS:Kept (fun k=>k=g\/k=bl\/k=mb) Ro JQ:=
  (((O8.mono (S':=fun k=>k=g\/k=bl\/k=mb) (fun _ _ h=>.inr (.inr h))).trans RA (fun _ _ h=>h.elim)).trans XG (fun _ _ h=>.inr (.inl h))).trans ZN (fun _ _ h=>.inl h)
 have hTF:∀k,F1 k->¬(k=g\/k=bl\/k=mb):=fun k hk e=>by
  rcases e with rfl|rfl|rfl
  ·exact uZ.Hd _ uZ.iU hk
  ·exact uZ.Hd _ uZ.ur hk
  ·exact uZ.Hd _ uZ.wi hk
 have ty:∀ {k:Nat} {cs:Array Value} {t:TypeId},Ro.heap[k]? =some (.cells cs t (0,0))->t≠iO->t≠fL->¬(k=g\/k=bl\/k=mb):=fun hk h1 h2 e=>by
  rcases e with e|e|e
  ·rw [e]at hk
   exact kN hk uZ.top h1 rfl
  ·rw [e]at hk
   obtain⟨_,cur,hc⟩:=Row.bV uZ.row (k:=bl) rfl;exact kN hk hc h2 rfl
  ·exact Ky uZ.map hk e
 have CO:Row JQ 0 fL 1 (some ⟨R9,0,none⟩) (D.length+1) R7 ((M.map fun m=>.pointer (some ⟨m.b,0,none⟩))++ [.pointer (some ⟨nb,0,none⟩)]):=Row.aK HG ZN (fun k hk e=>by
  obtain⟨_,cur,hc⟩:=Row.bV HG hk;exact kN hc yX (by decide) e)
 have S5:IsMap JQ mb (ids D++ [h]):=by
  obtain⟨es,clock,Lz,_⟩:=MI.ex;have h1:=MI.aK RA (fun h=>h);have h2:=h1.aK XG (fun e=>by
   obtain⟨_,cur,hc⟩:=Row.bV HH (k:=bl) rfl;obtain⟨_,_,np,_⟩:=h1.ex;rw [e,hc]at np;cases np)
  exact h2.aK ZN (fun e=>by
   obtain⟨_,_,np,_⟩:=h2.ex;rw [e,yX]at np;cases np)
 have P5:=lS.heap IS (ty IS (by decide) (by decide));have yG:lF JQ nb rA rn rc ws:=Row.aK D6 lS (fun k hk e=>by
  obtain⟨_,cur,hc⟩:=Row.bV D6 hk;exact ty hc (by decide) (by decide) e)
 have IU:(D++ [(⟨h,l⟩:DN)]).length=D.length+1:=by simp
 have Wb:R9=bl\/Ot.heap.size<=R9:=by
  rcases ack R9 rfl with e|e
  ·exact .inl (by cases e;rfl)
  ·exact .inr e
 have mF:=L.kp.size;have aiz:=MO.size;have aba:=bf IS;have Uf:∀k,bH rA=some k->nb<=k/\k<JQ.heap.size:=fun k hk=>by
  obtain⟨h1,cur,hc⟩:=Row.bV yG hk;exact⟨h1,bf hc⟩
 have gX:∀ {X:Type} (xs:List X) (y:X) (j:Nat) (z:X),(xs++ [y])[j]? =some z->(j<xs.length/\xs[j]? =some z)\/(j=xs.length/\z=y):=fun xs y j z e=>by
  rw [List.getElem?_append]at e;split at e
  ·rename_i di;exact .inl ⟨di,e⟩
  ·rename_i gF
   cases hk:j-xs.length with
   |zero=>rw [hk]at e;exact .inr ⟨by omega,by simpa using e.symm⟩
   |succ k=>rw [hk]at e;simp at e
 refine hK JQ (fun k=>S' k\/k=nb\/k=R9) (fun k=>F1 k\/bH rA=some k) ⟨R9,R7,mb,M++ [⟨nb,pA,l.length,pc,none,0,0,rA,rn,rc,ws⟩],?_⟩ ?_ ?_ ?_
 ·refine⟨by rw [IU];exact PI,?_,by rw [lT];exact S5,by simp [hG.len],fun j nd m h1 h2=>?_,fun j j' m m' h1 h2 fW k hk o6=>?_,.inl hG.iU,.inr (.inr rfl),.inl hG.wi,fun k hk hf=>?_,fun k hk=>?_⟩
  ·rw [IU,List.map_append]
   exact CO
  ·rcases gX _ _ _ _ h1 with⟨hj,um⟩|⟨hj,rfl⟩
   ·rcases gX _ _ _ _ h2 with⟨_,v7⟩|⟨vU,_⟩
    ·have N:=uZ.node j nd m um v7
     have hid:nd.id∈ids D:=eF.2 ⟨nd,List.mem_of_getElem? um,rfl⟩;have hF:∀k,F1 k->¬(k=g\/k=bl\/k=mb):=hTF;rw [<-Dv W hn];refine⟨lS.heap N.bV (ty N.bV (by decide) (by decide)),.inl N.gQ,N.ps.aK lS (fun a ha=>hF _ (N.KG a ha)),fun a ha=>.inl (N.KG a ha),Row.aK N.ch lS (fun k hk e=>?_),fun k hk=>.inl (N.Q6 k hk),N.past.aK lS (fun a ha=>hF _ (N.pS a ha)),fun a ha=>.inl (N.pS a ha),N.ok,fun j=>?_,N.small⟩
     ·obtain⟨cur,hc⟩:=(Row.bV N.ch hk).2
      exact ty hc (by decide) (by decide) e
     ·rw [N.bits,Jy W hn hid]
    ·rw [hG.len]at vU;omega
   ·rcases gX _ _ _ _ h2 with⟨vU,_⟩|⟨_,rfl⟩
    ·rw [hG.len]at vU;omega
    ·rw [GL W hn gC]
     refine⟨P5,.inr (.inl rfl),(L.hl.same MO).aK lS (fun a ha=>hTF _ (Ke a ha)),fun a ha=>.inl (Ke a ha),cr.nil _ _,(fun k hk=>by cases hk),yG.us,fun a ha=>.inr (congrArg bH ha),L.ok,fun j=>?_,L.small⟩;rw [NN,Jz W hn gC uU]
  ·rcases gX _ _ _ _ h1 with⟨_,um⟩|⟨_,rfl⟩
   ·rcases gX _ _ _ _ h2 with⟨_,v7⟩|⟨_,rfl⟩
    ·exact hG.apart j j' m m' um v7 fW k hk o6
    ·cases o6
   ·cases hk
  ·rcases hk with hk|rfl|rfl
   ·rcases hf with hf|hf
    ·exact hG.Hd k hk hf
    ·exact L.Zt k hf hk
   ·rcases hf with hf|hf
    ·have:=Hb k hf;omega
    ·obtain⟨_,cur,hc⟩:=Row.bV yG hf
     exact kN P5 hc (by decide) rfl
   ·rcases hf with hf|hf
    ·rcases Wb with e|e
     ·rw [e]at hf;exact hG.Hd _ hG.ur hf
     ·have:=Hb _ hf;omega
    ·obtain⟨_,cur,hc⟩:=Row.bV yG hf
     obtain⟨_,W5,uH⟩:=Row.bV CO (k:=k) rfl;exact kN uH hc (by decide) rfl
  ·have aiw:=lS.size
   rcases hk with(hk|rfl|rfl)|hk|hk
   ·have:=uZ.low k (.inl hk);omega
   ·exact bf P5
   ·obtain⟨_,W5,uH⟩:=Row.bV CO (k:=k) rfl
    exact bf uH
   ·have:=uZ.low k (.inr hk);omega
   ·exact(Uf k hk).2
 ·exact(L.kp.trans MO (fun _ _ h=>h.elim)).trans lS (fun k hk e=>by
   have hs:S' k:=by
    rcases e with rfl|rfl|rfl
    ·exact hG.iU
    ·exact hG.ur
    ·exact hG.wi
   rcases L.new k hs with h|h
   ·exact h
   ·omega)
 ·intro k hk
  rcases hk with hk|rfl|rfl
  ·exact L.new k hk
  ·exact .inr h0
  ·rcases Wb with e|e
   ·rw [e];exact L.new _ hG.ur
   ·exact .inr (by omega)
 ·intro k hk
  rcases hk with hk|hk
  ·exact .inl hk
  ·exact .inr (by have:=(Uf k hk).1;omega)
theorem Mh(G:GV w S F g D (iB D) bl c mb M)(W:kr D)(hD:D.length<=5000){A:Option Addr}{n cx:Nat}{lp:List HT}(hl:HS w A n lp)(hn:n<=10000)(h:HT)
 (hK:∀v S2 F2,DO v S2 F2 g (mB D h lp)->Kept S w v->(∀k,S2 k->S k\/w.heap.size<=k)->(∀k,F2 k->F k\/w.heap.size<=k)->K (.int .i64 (dT D h lp)) v):
 bE prog bN.id #[.pointer (some ⟨g,0,none⟩),.agg h.1,.slice A n cx] w K:=by
 have hlen:=hl.len;have mG:∀v,Kept Nil w v->∀e,dT D h lp=e->e≠0->K (.int .i64 e) v:=fun v k e he fW=>by
  have:=hK v S F ?_ (k.mono fun _ _ h=>h.elim) (fun _ h=>.inl h) (fun _ h=>.inl h)
  ·rw [he]at this;exact this
  ·unfold mB
   rw [if_neg (by rw [he];exact fW)];exact⟨bl,c,mb,M,G.same k⟩
 refine bN.of ?_;unfold bN.W;intro w4 w5;have k4:Kept Nil w w4:=(Kept.refl _ _).alloc _;have EL:w4.heap[w.heap.size]? =some (.cells #[.pointer (some ⟨g,0,none⟩)] iT (0,0)):=aM w _;have k5:Kept Nil w4 w5:=(Kept.refl _ _).alloc _;have LF:w5.heap[w4.heap.size]? =some (.cells h.1 al (0,0)):=aM w4 _;have LL:=k5.heap EL (fun h=>h);clear_value w5;have MK:Kept Nil w w5:=k4.tt k5;have Vl:w.heap.size<w4.heap.size:=bf EL;have ajC:w4.heap.size<w5.heap.size:=bf LF;clear_value w4;refine iR (hl.same MK) (by omega) fun Hh W9 w7 wU k7=>⟨Hh,_,W9,rfl,?_⟩;have CA:Kept Nil w w7:=MK.tt k7;have Vn:=k7.heap LL (fun h=>h);have hi7:=k7.heap LF (fun h=>h);have G7:=G.same CA;have BT:(dB lp).length<=n:=by have:=ny lp;omega
 refine⟨some ⟨g,0,none⟩,by rw [aE Vn];rfl,yr G7 ⟨true,rfl,Split.no rfl ?_⟩⟩;refine⟨some ⟨g,0,none⟩,by rw [aE Vn];rfl,h.1,⟨h.2.1,Cells.bV hi7⟩,sK G7 h fun nf ry=>⟨_,rfl,?_⟩⟩;have H4:=CA.tt ry;by_cases hm:h∈ids D
 ·refine Split.yes (decide_eq_true hm) (mG nf H4 7 ?_ (by omega))
  unfold dT;rw [if_pos hm]
 refine Split.no (decide_eq_false hm) ?_;by_cases h0:(dB lp).length=0
 ·refine Split.yes (by simp [h0]) (mG nf H4 9 ?_ (by omega))
  unfold dT;rw [if_neg hm,if_pos (.inl h0)]
 refine Split.no (beq_eq_false_iff_ne.2 (by omega)) ?_;by_cases h1:(dB lp).length≠n
 ·refine Split.yes (bne_iff_ne.2 (by omega)) (mG nf H4 9 ?_ (by omega))
  unfold dT;rw [if_neg hm,if_pos (.inr (by omega))]
 replace h1:(dB lp).length=n:=by omega
 refine Split.no (by rw [h1];simp) ?_;have Vr:=ry.heap Vn (fun h=>h);have MD:=Row.aK wU ry (fun _ _ h=>h);refine BA (G.same H4) Vr (cr.hs MD) (by omega) fun pB x hx yc=>⟨x,rfl,?_⟩;have H3:=H4.tt yc;cases x with
 |true=>
  refine Split.yes rfl (mG pB H3 6 ?_ (by omega));unfold dT;rw [if_neg hm,if_neg (by omega),if_pos (hx.1 rfl)]
 |false=>
  have gC:∀p∈dB lp,p∈ids D:=fun p hp=>Classical.byContradiction fun aa8=>by have:=hx.2 ⟨p,hp,aa8⟩;cases this
  have VR:dT D h lp=0:=by
   unfold dT;rw [if_neg hm,if_neg (by omega),if_neg (fun⟨p,hp,Lr⟩=>Lr (gC p hp))]
  have hD':mB D h lp=D++ [⟨h,dB lp⟩]:=by unfold mB;rw [if_pos VR]
  rw [VR,hD']at hK;refine Split.no rfl ?_;have Vi:=yc.heap (ry.heap hi7 (fun h=>h)) (fun h=>h);have Qv:=yc.heap Vr (fun h=>h);have xL:cr pB w5.heap.size Hh (dB lp).length W9 (dB lp):=Row.aK MD yc (fun _ _ h=>h);refine⟨h.1,⟨h.2.1,Cells.bV Vi⟩,?_⟩;rw [Jv h pB.heap.size];refine Is.mk rfl ?_;intro JS;have Pd:Kept Nil pB JS:=(Kept.refl _ _).alloc _;have abb:JS.heap[pB.heap.size]? =some (.cells (gI h ⟨pB.heap.size,Hh,(dB lp).length,W9,none,0,0,none,0,0,[]⟩) eE (0,0)):=aM pB _;clear_value JS;have Td:=H3.tt Pd;have QX:∀k,bH Hh=some k->w5.heap.size<=k/\k<pB.heap.size:=fun k hk=>by
   obtain⟨e1,cur,hc⟩:=Row.bV xL hk;exact⟨e1,bf hc⟩
  have XZ:=MK.size;have aiK:=H3.size;have Hb:∀k,(F k\/bH Hh=some k)->k<pB.heap.size:=fun k hk=>by
   rcases hk with hk|hk
   ·have:=G.low k (.inr hk);omega
   ·exact(QX k hk).2
  have L5:∀k,S k->k<w.heap.size:=fun k hk=>G.low k (.inl hk);have G23:GV JS S (fun k=>F k\/bH Hh=some k) g D (iB D) bl c mb M:=(G.same Td).SQ (fun _ h=>.inl h) (fun k hs e=>by
   rcases e with e|e
   ·exact G.Hd k hs e
   ·have:=L5 k hs;have:=(QX k e).1;omega) (fun k hk=>by have:=Hb k hk;have:=Pd.size;omega)
  have EH:jx D h ((dB lp).take 0)=iB D:=by
   funext y
   unfold jx;rw [if_neg (by simp)]
  have L0:AL w JS S (fun k=>F k\/bH Hh=some k) S g D h (dB lp) w.heap.size w4.heap.size pB.heap.size Hh W9 0 bl c mb M none 0 0 []:=
   ⟨by rw [EH];exact G23,fun _ h=>h,fun _ h=>.inl h,abb,fun e=>by have:=L5 _ e;omega,Row.nil _ _ _ _,by simp [okW],by omega,(fun k hk=>by cases hk),fun j=>by simp [zm],Pd.heap Qv (fun h=>h),Pd.heap Vi (fun h=>h),
     fun e=>by have:=L5 _ e;omega,fun e=>by have:=L5 _ e;omega,(xL.hs).same Pd,Td.mono fun _ _ h=>h.elim⟩
  refine bN.cJ (I:=fun s v=>∃(i:Nat) (S2:Nat->Prop) (M2:List NM) (rA:Option Addr) (rn rc:Nat) (ws:List Nat),s=(i:Int)/\i<=(dB lp).length/\AL w v S (fun k=>F k\/bH Hh=some k) S2 g D h (dB lp) w.heap.size w4.heap.size pB.heap.size Hh W9 i bl c mb M2 rA rn rc ws)
   (μ:=fun s _=>(((dB lp).length:Int)-s).toNat) (s:=0) ⟨0,S,M,none,0,0,[],rfl,Nat.zero_le _,L0⟩ ?_
  rintro s v ⟨i,S2,M2,rA,rn,rc,ws,rfl,hi,L⟩;have Ke:∀a,Hh=some a->F a.block\/bH Hh=some a.block:=fun a ha=>.inr (by rw [ha];rfl);by_cases dW:i<(dB lp).length
  ·refine GX L W (by omega) (jy _) gC Hb Ke (by omega) dW (by omega) fun S3 M3 rA3 rn3 rc3 ws3 v3 L3=>?_
   exact⟨(i:Int)+1,rfl,⟨i+1,S3,M3,rA3,rn3,rc3,ws3,rfl,dW,L3⟩,by simp only;omega⟩
  ·refine Split.no (decide_eq_false (by omega)) ?_
   rw [aU,bN.On];refine Mr L W hD (jy _) gC hm Hb Ke (by omega) (by omega) fun v2 S4 F4 hI U7 hS4 hF4=>hK v2 S4 F4 hI U7 hS4 (fun k hk=>?_);rcases hF4 k hk with(e|e)|e
   ·exact .inl e
   ·exact .inr (by have:=(QX k e).1;omega)
   ·exact .inr e
end
def pN(nb:Nat):NM:=⟨nb,none,0,0,none,0,0,none,0,0,[]⟩
structure NP(w v:World)(r:HT)(A B E:Option Nat)(l:List HT):Prop where
 kp:Kept Nil w v
 node:∀b,A=some b->w.heap.size<=b/\v.heap[b]? =some (.cells (gI r (pN b)) eE (0,0))
 list:∀b,B=some b->w.heap.size<=b/\∃nb,A=some nb/\v.heap[b]? =some (.cells #[.pointer (some ⟨nb,0,none⟩)] fL (0,0))
 map:∀b,E=some b->w.heap.size<=b/\IsMap v b l
section
variable{w v:World}{r:HT}{A B E:Option Nat}{l:List HT}{K:Value->World->Prop}
theorem NP.grow(h:NP w v r A B E l)(o:Obj):NP w (v.alloc o) r A B E l:=
 ⟨h.kp.alloc o,fun b e=>⟨(h.node b e).1,lu (h.node b e).2 o⟩,fun b e=>⟨(h.list b e).1,let ⟨nb,h1,h2⟩:=(h.list b e).2;⟨nb,h1,lu h2 o⟩⟩,fun b e=>⟨(h.map b e).1,(h.map b e).2.aK ((Kept.refl Nil v).alloc o) (fun h=>h)⟩⟩
theorem NP.addNode(h:NP w v r none none E l):NP w (v.alloc (.cells (gI r (pN v.heap.size)) eE)) r (some v.heap.size) none E l:=
 have g:=h.grow (.cells (gI r (pN v.heap.size)) eE)
 ⟨g.kp,fun b e=>by cases e;exact⟨h.kp.size,aM v _⟩,fun b e=>(by cases e),g.map⟩
theorem NP.qJ{nb:Nat}(h:NP w v r (some nb) none E l):NP w (v.alloc (.cells #[.pointer (some ⟨nb,0,none⟩)] fL)) r (some nb) (some v.heap.size) E l:=
 have g:=h.grow (.cells #[.pointer (some ⟨nb,0,none⟩)] fL)
 ⟨g.kp,g.node,fun b e=>by cases e;exact⟨h.kp.size,nb,rfl,aM v _⟩,g.map⟩
theorem NP.DI(h:NP w v r A B none []):NP w (v.alloc (.map #[] 0)) r A B (some v.heap.size) []:=
 have g:=h.grow (.map #[] 0)
 ⟨g.kp,g.node,g.list,fun b e=>by cases e;exact⟨h.kp.size,⟨#[],0,aM v _,trivial⟩⟩⟩
theorem NP.put{mb:Nat}(h:NP w v r A B (some mb) []):∃v',(Instr.mapUpdate cV (.map (some mb)) (.agg r.1) (.int .i64 0)).run prog v=.ok () v'/\NP w v' r A B (some mb) [r]:=by
 obtain⟨h1,h2⟩:=h.map mb rfl;obtain⟨v',hr,hm,hk⟩:=h2.put (h:=r) (by simp);have Ky:∀ {k:Nat} {cs:Array Value} {t:TypeId},v.heap[k]? =some (.cells cs t (0,0))->¬(k=mb):=fun hk e=>by
  obtain⟨es,clock,Lz,_⟩:=h2.ex;rw [e,Lz]at hk;cases hk
 refine⟨v',hr,h.kp.trans hk (fun k hk e=>by omega),fun b e=>⟨(h.node b e).1,hk.heap (h.node b e).2 (Ky (h.node b e).2)⟩,fun b e=>⟨(h.list b e).1,?_⟩,fun b e=>by cases e;exact⟨h1,hm⟩⟩;obtain⟨nb,e1,e2⟩:=(h.list b e).2;exact⟨nb,e1,hk.heap e2 (Ky e2)⟩
theorem th(r:HT){a b:HT}:¬oV [(⟨r,[]⟩:DN)] a b:=fun⟨nd,h1,_,h2⟩=>by
 simp at h1;subst h1;simp at h2
theorem Ah(r:HT){a b:HT}:¬fH [(⟨r,[]⟩:DN)] a b:=fun h=>by
 cases h with
 |one h=>exact th r h
 |more _ h=>exact th r h
theorem NP.fin{w0:World}{nb lb mb:Nat}(h:NP w v r (some nb) (some lb) (some mb) [r])(hw:w0.heap.size<=w.heap.size):
 DO (v.alloc (.cells #[.slice (some ⟨lb,0,none⟩) 1 1,.map (some mb)] iO)) (fun k=>w0.heap.size<=k/\k<(v.alloc (.cells #[.slice (some ⟨lb,0,none⟩) 1 1,.map (some mb)] iO)).heap.size) (fun _=>False) v.heap.size [⟨r,[]⟩]:=by
 have g:=h.grow (.cells #[.slice (some ⟨lb,0,none⟩) 1 1,.map (some mb)] iO);have jJ:=aM v (.cells #[.slice (some ⟨lb,0,none⟩) 1 1,.map (some mb)] iO);generalize v.alloc (.cells #[.slice (some ⟨lb,0,none⟩) 1 1,.map (some mb)] iO)=u at g jJ;have hs:=h.kp.size;obtain⟨n1,n2⟩:=g.node nb rfl;obtain⟨l1,nb',e,l2⟩:=g.list lb rfl;cases e;obtain⟨m1,m2⟩:=g.map mb rfl;have po:iB [⟨r,[]⟩] r= []:=by
  cases hc:iB [⟨r,[]⟩] r with
  |nil=>rfl
  |cons b t=>exact absurd (km.1 (show b∈iB [⟨r,[]⟩] r by rw [hc];simp)).2 (th r)
 refine⟨lb,1,mb,[pN nb],jJ,Row.made (n:=1) (cur:= #[.pointer (some ⟨nb,0,none⟩)]) l2 (Nat.zero_le _) rfl (by decide),m2,rfl,fun i nd m hi hm=>?_,fun i j m m' h1 h2 fW k hk=>?_,⟨by omega,bf jJ⟩,⟨by omega,bf l2⟩,⟨by omega,m2.lt⟩,fun _ _ h=>h,fun k hk=>hk.elim (fun h=>h.2) (fun h=>h.elim)⟩
 ·cases i with
  |zero=>
   simp at hi hm;subst hi;subst hm;refine⟨n2,⟨Nat.le_trans hw n1,bf n2⟩,HS.nil _ _,(fun a ha=>by cases ha),?_,(fun k hk=>by cases hk),⟨rfl,fun i x hx=>by simp [pN]at hx⟩,(fun a ha=>by cases ha),by simp [okW,pN],fun j=>?_,by simp [pN]⟩
   ·show cr u 0 none 0 0 (iB [⟨r,[]⟩] r)
    rw [po];exact cr.nil _ _
   ·show bit [] j=true↔_
    rw [zm];exact⟨(fun h=>by cases h),fun⟨nj,_,h⟩=>absurd h (Ah r)⟩
  |succ i=>simp at hi
 ·have hm:m=pN nb:=by
   have:=List.mem_of_getElem? h1;simpa using this
  subst hm;cases hk
theorem gL(r:HT)(hK:∀v gb,DO v (fun k=>w.heap.size<=k/\k<v.heap.size) (fun _=>False) gb [⟨r,[]⟩]->Kept Nil w v->K (.pointer (some ⟨gb,0,none⟩)) v):
 bE prog nI.id #[.agg r.1] w K:=by
 refine nI.of ?_;unfold nI.W;intro w2 w3;have k2:Kept Nil w w2:=(Kept.refl _ _).alloc _;have nE:w2.heap[w.heap.size]? =some (.cells r.1 al (0,0)):=aM w _;have k3:Kept Nil w w3:=k2.drew;have p7:w3.heap[w.heap.size]? =some (.cells r.1 al (0,0)):=nE;clear_value w3;have N3:NP w3 w3 r none none none []:=⟨Kept.refl _ _,(fun b e=>by cases e),(fun b e=>by cases e),(fun b e=>by cases e)⟩;have nV:∀ {v:World},Kept Nil w3 v->∃cs:Array Value,(.agg r.1:Value)=.agg cs/\cs.size=32/\Cells v (aV w.heap.size) cs:=fun k=>⟨r.1,rfl,r.2.1,Cells.bV (k.heap p7 (fun h=>h))⟩;have vV:∀ {v:World} {nb lb mb:Nat},NP w3 v r (some nb) (some lb) (some mb) [r]->K (.pointer (some ⟨v.heap.size,0,none⟩)) (v.alloc (.cells #[.slice (some ⟨lb,0,none⟩) 1 1,.map (some mb)] iO)):=fun h=>hK _ _ (h.fin k3.size) ((k3.tt h.kp).alloc _);refine⟨r.1,⟨r.2.1,Cells.bV p7⟩,?_⟩;have UI:∀b,prog.built eE [(0,.agg r.1)]=some (gI r (pN b)):=fun b=>GM r b;rw [UI 0];refine Is.mk rfl ?_;refine⟨r.1,⟨r.2.1,Cells.bV p7⟩,?_⟩;refine⟨?_,?_⟩
 ·have N7:NP w3 (w3.alloc (.cells (gI r (pN w3.heap.size)) eE)) r (some w3.heap.size) none none []:=N3.addNode
  refine⟨nV N7.kp,?_,?_⟩
  ·have N8:=N7.qJ
   have N9:=N8.DI;obtain⟨v,hr,Sf⟩:=N9.put;exact⟨nV N8.kp,nV N9.kp,v,hr,vV Sf⟩
  ·have Rk:=N7.DI
   refine⟨nV Rk.kp,?_,?_⟩
   ·have Mt:=Rk.qJ
    obtain⟨v,hr,Rj⟩:=Mt.put;exact⟨nV Mt.kp,v,hr,vV Rj⟩
   ·obtain⟨v,hr,Se⟩:=Rk.put
    exact⟨v,hr,vV Se.qJ⟩
 ·have Kr:=N3.DI
  refine⟨nV Kr.kp,nV Kr.kp,?_,?_⟩
  ·have Oj:NP w3 ((w3.alloc (.map #[] 0)).alloc (.cells (gI r (pN (w3.alloc (.map #[] 0)).heap.size)) eE)) r (some (w3.alloc (.map #[] 0)).heap.size) none (some w3.heap.size) []:=Kr.addNode
   refine⟨nV Oj.kp,?_,?_⟩
   ·have Oi:=Oj.qJ
    obtain⟨v,hr,Sc⟩:=Oi.put;exact⟨nV Oi.kp,v,hr,vV Sc⟩
   ·obtain⟨v,hr,Xl⟩:=Oj.put
    exact⟨v,hr,vV Xl.qJ⟩
  ·obtain⟨v,hr,Ri⟩:=Kr.put
   exact⟨v,hr,nV Ri.kp,vV Ri.addNode.qJ⟩
end
section
variable{w w':World}{S S' F:Nat->Prop}{g bl c mb:Nat}{D:DG}{C:HT->List HT}{M:List NM}{K:Value->World->Prop}
end
section
variable{w w':World}{S S' F:Nat->Prop}{g bl c mb:Nat}{D:DG}{C:HT->List HT}{M:List NM}{K:Value->World->Prop}
end
theorem gu{w:World}{b:Nat}{z cs:Array Value}{t:TypeId}(h:w.heap[b]? =some (.cells z t (0,0)))(hz:z.size=cs.size):
 (∀j,j<cs.size->Wr w ((⟨b,0,none⟩:Addr).add j))/\(setCells w ⟨b,0,none⟩ cs.toList 0).heap[b]? =some (.cells cs t (0,0))/\Kept (· =b) w (setCells w ⟨b,0,none⟩ cs.toList 0):=by
 refine⟨fun j hj=>?_,?_,hU _ _ _ _⟩
 ·rw [bD,Nat.zero_add]
  exact dP h (by omega)
 ·have h1:=lj cs.toList z w t 0 0 h (by simp;omega)
  rw [h1,vg (by simp [hz])]
def hx(i:Nat)(hi:i<256):HT:=⟨#[.int .u8 (i:Int),.int .u8 0,.int .u8 0,.int .u8 0,.int .u8 0,.int .u8 0,.int .u8 0,.int .u8 0,.int .u8 0,.int .u8 0,.int .u8 0,.int .u8 0,.int .u8 0,.int .u8 0,.int .u8 0,.int .u8 0,.int .u8 0,.int .u8 0,.int .u8 0,.int .u8 0,.int .u8 0,.int .u8 0,.int .u8 0,.int .u8 0,.int .u8 0,.int .u8 0,.int .u8 0,.int .u8 0,.int .u8 0,.int .u8 0,.int .u8 0,.int .u8 0],rfl,fun v hv=>by
 simp only [List.mem_cons,List.not_mem_nil,or_false]at hv;rcases hv with rfl|hv
 ·exact⟨i,rfl,by omega,by omega⟩
 ·exact⟨0,by simpa using hv,by omega,by omega⟩⟩
theorem CI{i j:Nat}{hi:i<256}{hj:j<256}(h:i≠j):hx i hi≠hx j hj:=fun e=>by
 have:=congrArg (fun a:HT=>a.1[0]?) e;simp [hx]at this;omega
section
variable{w w':World}{K:Value->World->Prop}
end
theorem HS.lay{w:World}{b:Nat}{l:List HT}{t:TypeId}(hb:w.heap[b]? =some (.cells (dv l).toArray t (0,0))):HS w (some ⟨b,0,Option.none⟩) l.length l:=
 ⟨rfl,fun i x hi=>⟨_,rfl,bf hb,fun j v hj=>by
   rw [bD,bD,Nat.zero_add,aE hb];simpa using lL hi hj⟩⟩
section
variable{r a b c:HT}(PV:r≠a)(Gm:r≠b)(X0:r≠c)(nv:a≠b)(Yu:a≠c)(QI:b≠c)
abbrev kD(r a b c:HT):DG:= [⟨r,[]⟩,⟨a,[r]⟩,⟨b,[r]⟩,⟨c,dB [a,b]⟩]
include PV in
theorem k1:dT [⟨r,[]⟩] a [r]=0/\mB [⟨r,[]⟩] a [r]= [⟨r,[]⟩,⟨a,[r]⟩]:=by
 have h:dT [⟨r,[]⟩] a [r]=0:=by
  unfold dT;rw [if_neg (by simp [ids];exact fun e=>PV e.symm),oD,if_neg (by simp),if_neg (by simp [ids])]
 exact⟨h,by unfold mB;rw [if_pos h,oD];rfl⟩
include Gm nv in
theorem k2:dT [⟨r,[]⟩,⟨a,[r]⟩] b [r]=0/\mB [⟨r,[]⟩,⟨a,[r]⟩] b [r]= [⟨r,[]⟩,⟨a,[r]⟩,⟨b,[r]⟩]:=by
 have h:dT [⟨r,[]⟩,⟨a,[r]⟩] b [r]=0:=by
  unfold dT;rw [if_neg (by simp [ids];exact⟨fun e=>Gm e.symm,fun e=>nv e.symm⟩),oD,if_neg (by simp),if_neg (by simp [ids])]
 exact⟨h,by unfold mB;rw [if_pos h,oD];rfl⟩
include X0 nv Yu QI in
theorem k3:dT [⟨r,[]⟩,⟨a,[r]⟩,⟨b,[r]⟩] c [a,b]=0/\mB [⟨r,[]⟩,⟨a,[r]⟩,⟨b,[r]⟩] c [a,b]=kD r a b c:=by
 have hl:(dB [a,b]).length=2:=qP (by simp [nv]);have h:dT [⟨r,[]⟩,⟨a,[r]⟩,⟨b,[r]⟩] c [a,b]=0:=by
  unfold dT;rw [if_neg (by simp [ids];exact⟨fun e=>X0 e.symm,fun e=>Yu e.symm,fun e=>QI e.symm⟩),hl,if_neg (by simp),if_neg];rintro⟨p,hp,hn⟩;rw [dV]at hp;simp at hp;simp [ids]at hn;rcases hp with rfl|rfl
  ·exact hn.2.1 rfl
  ·exact hn.2.2 rfl
 exact⟨h,by unfold mB;rw [if_pos h];rfl⟩
end
section
variable{w w':World}{K:Value->World->Prop}
end
structure alz(w:World)(S F:Nat->Prop)(g:Nat)(FR:Nat->Prop)(r:Nat)(D:DG):Prop where
 G:DO w S F g D
 R:uO w FR r D
 rS:¬S r
 rF:¬F r
 fS:∀k,FR k->¬S k
 low:∀k,FR k->k<w.heap.size
section
variable{w v w':World}{S F S2 F2 FR:Nat->Prop}{g r:Nat}{D D':DG}{K:Value->World->Prop}
theorem Ju(h:HT):prog.built b6 [(0,.agg h.1)]=some (h.1.push (.slice none 0 0)):=by
 have hs:=h.2.1;rw [ow EV,jw (off:=0) (size:=32) rfl (by simpa [Value.cells]using hs) (by simp)];simp only [Instr.fill,Option.some.injEq];apply Array.ext';unfold iG;simp [Value.cells,hs]
end
end Go.Proofs.YtfleamccglihoaaGreatDoor
