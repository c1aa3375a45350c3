import Derived.Test.YtnboahlopghcjaaGreatDoorProg
import Derived.Shelf.SlSortCmp.NoneTotal
import Derived.Shelf.SlMaps.Clone
import Derived.Shelf.Spec.TrailingZeros
import Derived.Shelf.Strconv.Itoa0
import Derived.Shelf.Bits.Mul64
import Derived.Test.YtnboahlopghcjaaGreatDoorMA
import Derived.Test.YtnboahlopghcjaaGreatDoorMB
import Derived.Lib.BytesEntry
import Derived.Test.YtnboahlopghcjaaGreatDoorMC
import Derived.LaidEql
set_option linter.unusedVariables false
namespace Go.Proofs
open Go.Shelf
def Tryz.pg:Go.Shelf.Ren:=⟨fun|6=>72|15=>106|14=>105|28=>130|29=>131|20=>122|21=>123|22=>124|23=>125|24=>126|25=>127|26=>128|27=>129|46=>135|47=>136|48=>137|49=>138|50=>139|57=>141|n=>n,fun|22=>35|24=>23|25=>97|3=>3|39=>161|0=>0|53=>181|55=>49|4=>4|46=>175|45=>174|50=>127|5=>5|9=>9|66=>188|70=>192|76=>196|77=>197|n=>n,fun|n=>n⟩
theorem Tryz.vQ:Go.Proofs.SlLaysF0.n6 prog Tryz.pg:= {
 mixed:=by kernel_rfl
 f6:=⟨f72.name,by decide,func72.trans (congrArg some (by kernel_rfl))⟩
 f14:=⟨f105.name,by decide,func105.trans (congrArg some (by kernel_rfl))⟩
 f15:=func106.trans (congrArg some (by kernel_rfl))
 f20:=⟨f122.name,by decide,func122.trans (congrArg some (by kernel_rfl))⟩
 f21:=⟨f123.name,by decide,func123.trans (congrArg some (by kernel_rfl))⟩
 f22:=⟨f124.name,by decide,func124.trans (congrArg some (by kernel_rfl))⟩
 f23:=⟨f125.name,by decide,func125.trans (congrArg some (by kernel_rfl))⟩
 f24:=⟨f126.name,by decide,func126.trans (congrArg some (by kernel_rfl))⟩
 f25:=⟨f127.name,by decide,func127.trans (congrArg some (by kernel_rfl))⟩
 f26:=⟨f128.name,by decide,func128.trans (congrArg some (by kernel_rfl))⟩
 f27:=⟨Tryz.f129.name,by decide,func129.trans (congrArg some (by kernel_rfl))⟩
 f28:=func130.trans (congrArg some (by kernel_rfl))
 f29:=func131.trans (congrArg some (by kernel_rfl))
 f46:=⟨f135.name,by decide,func135.trans (congrArg some (by kernel_rfl))⟩
 f47:=func136.trans (congrArg some (by kernel_rfl))
 f48:=func137.trans (congrArg some (by kernel_rfl))
 f49:=⟨f138.name,by decide,func138.trans (congrArg some (by kernel_rfl))⟩
 f50:=⟨f139.name,by decide,func139.trans (congrArg some (by kernel_rfl))⟩
 f57:=⟨f141.name,by decide,func141.trans (congrArg some (by kernel_rfl))⟩
 t0:=underlying0
 a0:=isAgg0
 z0:=sizeOf0
 v0:=zeroValue0
 t3:=underlying3
 a3:=isAgg3
 z3:=sizeOf3
 v3:=zeroValue3
 t4:=underlying4
 a4:=isAgg4
 z4:=sizeOf4
 v4:=zeroValue4
 t5:=underlying5
 a5:=isAgg5
 z5:=sizeOf5
 v5:=zeroValue5
 t9:=underlying9
 a9:=isAgg9
 z9:=sizeOf9
 v9:=zeroValue9
 t22:=underlying35
 a22:=isAgg35
 z22:=sizeOf35
 v22:=zeroValue35
 t25:=underlying97
 a25:=isAgg97
 z25:=sizeOf97
 v25:=zeroValue97
 t39:=underlying161
 a39:=isAgg161
 z39:=sizeOf161
 v39:=zeroValue161
 t45:=underlying174
 a45:=isAgg174
 z45:=sizeOf174
 v45:=zeroValue174
 t46:=underlying175
 a46:=isAgg175
 z46:=sizeOf175
 v46:=zeroValue175
 t50:=underlying127
 a50:=isAgg127
 z50:=sizeOf127
 v50:=zeroValue127
 t53:=underlying181
 a53:=isAgg181
 z53:=sizeOf181
 v53:=zeroValue181
 t55:=underlying49
 a55:=isAgg49
 z55:=sizeOf49
 v55:=zeroValue49
 t66:=underlying188
 a66:=isAgg188
 z66:=sizeOf188
 v66:=zeroValue188
 t70:=underlying192
 a70:=isAgg192
 z70:=sizeOf192
 v70:=zeroValue192
 t76:=underlying196
 a76:=isAgg196
 z76:=sizeOf196
 v76:=zeroValue196
 t77:=underlying197
 a77:=isAgg197
 z77:=sizeOf197
 v77:=zeroValue197}
def Tryz.jn:Go.Shelf.Ren:=⟨fun|29=>121|n=>n,fun|22=>49|3=>3|4=>4|25=>161|54=>187|0=>0|5=>5|n=>n,fun|1=>1|n=>n⟩
theorem Tryz.tzL:Go.Proofs.Lays7.n29 prog Tryz.jn:= {
 mixed:=by kernel_rfl
 f29:=func121.trans (congrArg some (by kernel_rfl))
 t0:=underlying0
 a0:=isAgg0
 z0:=sizeOf0
 v0:=zeroValue0
 i0:=by kernel_rfl
 t3:=underlying3
 a3:=isAgg3
 z3:=sizeOf3
 v3:=zeroValue3
 i3:=by kernel_rfl
 t4:=underlying4
 a4:=isAgg4
 z4:=sizeOf4
 v4:=zeroValue4
 i4:=by kernel_rfl
 t5:=underlying5
 a5:=isAgg5
 z5:=sizeOf5
 v5:=zeroValue5
 i5:=by kernel_rfl
 t22:=underlying49
 a22:=isAgg49
 z22:=sizeOf49
 v22:=zeroValue49
 i22:=by kernel_rfl
 t25:=underlying161
 a25:=isAgg161
 z25:=sizeOf161
 v25:=zeroValue161
 i25:=by kernel_rfl
 t54:=underlying187
 a54:=isAgg187
 z54:=sizeOf187
 g1:=by kernel_rfl}
end Go.Proofs
namespace Go.Proofs
open Go.Shelf
def Tryz.yG:Go.Shelf.Ren:=⟨fun|129=>131|n=>n,fun|53=>49|3=>3|4=>4|46=>161|5=>5|9=>9|n=>n,fun|n=>n⟩
theorem Tryz.Ja:Go.Proofs.Lays.n129 prog Tryz.yG:= {
 mixed:=by kernel_rfl
 f129:=func131.trans (congrArg some (by kernel_rfl))
 t3:=underlying3
 a3:=isAgg3
 z3:=sizeOf3
 v3:=zeroValue3
 t4:=underlying4
 a4:=isAgg4
 z4:=sizeOf4
 v4:=zeroValue4
 t5:=underlying5
 a5:=isAgg5
 z5:=sizeOf5
 v5:=zeroValue5
 t9:=underlying9
 a9:=isAgg9
 z9:=sizeOf9
 v9:=zeroValue9
 t46:=underlying161
 a46:=isAgg161
 z46:=sizeOf161
 v46:=zeroValue161
 t53:=underlying49
 a53:=isAgg49
 z53:=sizeOf49
 v53:=zeroValue49}
def Tryz.yF:Go.Shelf.Ren:=⟨fun|264=>133|n=>n,fun|53=>49|46=>161|n=>n,fun|n=>n⟩
theorem Tryz.I9:Go.Proofs.Lays.n264 prog Tryz.yF:= {
 mixed:=by kernel_rfl
 f264:=func133.trans (congrArg some (by kernel_rfl))
 t46:=underlying161
 a46:=isAgg161
 z46:=sizeOf161
 v46:=zeroValue161
 t53:=underlying49
 a53:=isAgg49
 z53:=sizeOf49
 v53:=zeroValue49}
end Go.Proofs
namespace Go.bV
open Go.RowKit
theorem jO.mono{P:Program}{l:Nat}{args:Array Value}{w:World}{R R':Bool->World->Prop}(h:jO P l args w R)(hr: ∀b w',R b w'->R' b w'):jO P l args w R':=by
 obtain⟨g,tmps,assign,body,h1,h2⟩:=h;exact⟨g,tmps,assign,body,h1,fun r m=>RoundIn.mono (h2 r m) fun e w' ⟨b,he,hb⟩=>⟨b,he,hr _ _ hb⟩⟩
def gz(xs:List Value)(k:Nat)(vs:List Value):List Value:=xs.take k++vs++xs.drop (k+vs.length)
theorem pV(xs:List Value)(k:Nat):gz xs k []=xs:=by simp [gz]
theorem ow{xs:List Value}{k:Nat}(hk:k<xs.length)(v:Value)(vs:List Value):gz xs k (v::vs)=gz (xs.set k v) (k+1) vs:=by
 unfold gz;rw [List.take_add_one,List.take_set_of_le (Nat.le_refl k),List.getElem?_set_self hk,List.drop_set];rw [if_pos (by omega),List.length_cons,show k+(vs.length+1)=k+1+vs.length by omega];simp
theorem ly{xs:List Value}{k:Nat}{vs:List Value}(h:k+vs.length<=xs.length):(gz xs k vs).length=xs.length:=by
 unfold gz;simp;omega
theorem tI{xs vs:List Value}(h:vs.length=xs.length):gz xs 0 vs=vs:=by
 unfold gz;simp [h]
section
variable{w:World}{B:Nat}{e:TypeId}{size n c b:Nat}
theorem qv: ∀(vs:List Value) (xs:List Value) (w:World) (o i:Nat),Row w B e size (some ⟨b,0,none⟩) n c xs->o+i+vs.length<=xs.length->
 Row (setCells w ⟨b,o,none⟩ vs i) B e size (some ⟨b,0,none⟩) n c (gz xs (o+i) vs)
 | [],xs,w,o,i,h,_=>by rw [pV];exact h
 |v::vs,xs,w,o,i,h,hl=>by
  rw [List.length_cons]at hl;rw [ow (by omega)];simp only [setCells];rw [ba];have h1:=Row.set h (j:=o+i) (by omega) v;have:=qv vs (xs.set (o+i) v) _ o (i+1) h1 (by rw [List.length_set];omega)
  rwa [show o+(i+1)=o+i+1 by omega]at this
theorem fW: ∀(vs:List Value) (w:World) (o i:Nat),Kept (· =b) w (setCells w ⟨b,o,none⟩ vs i)
 | [],w,o,i=>Kept.refl _ _
 |v::vs,w,o,i=>by
  simp only [setCells];rw [ba];exact(Kept.setCell (S:=fun k=>k=b) (Kept.refl _ w) (p:=⟨b,o+i,none⟩) (fun _=>rfl) v).trans (fW vs _ o (i+1)) (fun _ _ h=>h)
theorem jI: ∀(vs:List Value) (cur:Array Value) (w:World) (t:TypeId) (o i:Nat),w.heap[b]? =some (.cells cur t (0,0))->o+i+vs.length<=cur.size->
 (setCells w ⟨b,o,none⟩ vs i).heap[b]? =some (.cells (gz cur.toList (o+i) vs).toArray t (0,0))
 | [],cur,w,t,o,i,h,_=>by rw [pV];simpa [setCells]using h
 |v::vs,cur,w,t,o,i,h,hl=>by
  rw [List.length_cons]at hl;rw [ow (by simp;omega)];simp only [setCells];rw [ba];have h1:=cU h (o+i) v;have:=jI vs _ _ t o (i+1) h1 (by simp;omega);rw [show o+(i+1)=o+i+1 by omega]at this;rw [this];simp
theorem fT{z cs:Array Value}{t:TypeId}(hz:z.size=cs.size):
 (∀j,j<cs.size->Wr (w.alloc (.cells z t)) ((⟨w.heap.size,0,none⟩:Addr).add j))/\
 (setCells (w.alloc (.cells z t)) ⟨w.heap.size,0,none⟩ cs.toList 0).heap[w.heap.size]? =some (.cells cs t (0,0))/\
 Kept Nil w (setCells (w.alloc (.cells z t)) ⟨w.heap.size,0,none⟩ cs.toList 0):=by
 refine⟨fun j hj=>?_,?_,?_⟩
 ·rw [ba,Nat.zero_add]
  exact dM (aJ w _) (by omega)
 ·have h:=jI cs.toList z (w.alloc (.cells z t)) t 0 0 (aJ w _) (by simp;omega)
  rw [h,tI (by simp [hz])]
 ·exact((Kept.refl Nil w).alloc _).trans (fW cs.toList _ 0 0) (fun k hk e=>absurd hk (by omega))
end
end Go.bV
namespace Go.bV
theorem C5: ∀(vs:List Value) (off k:Nat) (cells:Array Value),off+k+vs.length<=cells.size->
 ((vs.zipIdx k).foldl (fun(cs:Array Value) (p:Value×Nat)=>cs.setIfInBounds (off+p.2) p.1) cells)=(gz cells.toList (off+k) vs).toArray
 | [],off,k,cells,_=>by rw [pV];simp
 |v::vs,off,k,cells,h=>by
  rw [List.length_cons]at h;rw [ow (by simp;omega),List.zipIdx_cons,List.foldl_cons];have:=C5 vs off (k+1) (cells.setIfInBounds (off+k) v) (by simp;omega);rw [this,Array.toList_setIfInBounds];rfl
theorem iA{place:Nat->Option (Nat×Nat)}{cells:Array Value}{i off size:Nat}{v:Value}{rest:List (Nat×Value)}(hp:place i=some (off,size))(hs:v.cells.size=size)(hle:off+size<=cells.size):
 Instr.fill place cells ((i,v)::rest)=Instr.fill place (gz cells.toList off v.cells.toList).toArray rest:=by
 rw [Instr.fill,hp];simp only;rw [if_neg (by simp;omega)]
 congr 1
 have h:=C5 v.cells.toList off 0 cells (by simp;omega);rw [Nat.add_zero]at h;rw [<-h,<-Array.foldl_toList,Array.toList_zipIdx]
def Qp(P:Program)(t:TypeId):Option (List (Nat×Nat)×List Value):=
 match P.info? t,P.underlying t with
 |some it,some (.struct fields)=>
  match it.zero,fields.toList.mapM (fun f=>(P.info? f.type).map fun i=>(f.offset,i.size))with
  |some z,some places=>some (places,z.cells.toList)
  |_,_=>none
 |_,_=>none
theorem mS{P:Program}{t:TypeId}{pl:List (Nat×Nat)}{z:List Value}(h:Qp P t=some (pl,z))(parts:List (Nat×Value)):
 P.built t parts=Instr.fill (pl.toArray[·]?) z.toArray parts:=by
 unfold Qp at h;split at h
 ·rename_i it fields h1 h2
  split at h
  ·rename_i z' pl' h3 h4
   simp only [Option.some.injEq,Prod.mk.injEq]at h;obtain⟨rfl,rfl⟩:=h;unfold Program.built;rw [h1,h2];simp only [h3,h4]
  ·cases h
 ·cases h
def oO:List Nat->Array Value
 | []=> #[]
 |D::l=> #[.pointer (some ⟨D,0,none⟩)]++oO l
theorem lh: ∀l,marksOf (.agg (oO l))=l
 | []=>rfl
 |D::l=>by
  have ih:=lh l;simp only [oO,marksOf]at*;simp [ih]
theorem jX: ∀(l:List Nat) (w:World),l.Nodup->(∀D∈l,w.heap[D]? =some (.deferred (some [])))->jP l w
 | [],_,_,_=>trivial
 |D::l,w,hn,h=>by
  rw [List.nodup_cons]at hn;refine⟨h D (by simp),jX l _ hn.2 fun E hE=>?_⟩;have fG:D≠E:=fun e=>hn.1 (by rw [e];exact hE);exact(World.putObj_heap_other fG.symm).trans (h E (by simp [hE]))
theorem iU: ∀(l:List Nat) (w:World),Kept (· ∈l) w (fE l w)
 | [],w=>Kept.refl _ w
 |D::l,w=>((Kept.putAt w D (.deferred none)).mono (S':=fun k=>k∈D::l) (fun k _ e=>by subst e;simp)).trans (iU l _) (fun k _ h=>by simp [h])
end Go.bV
namespace Go.Proofs.YtnboahlopghcjaaGreatDoor
open Go.Proofs.Tryz
open Go Go.bV Go.RowKit
def PV(cs:Array Value):Prop:=cs.size=32/\ ∀v∈cs.toList,∃i:Int,v=.int .u8 i/\0<=i/\i<256
abbrev HT:= {cs:Array Value//PV cs}
def key(h:HT):List Int:=h.1.toList.map ln
theorem PV.ints{cs:Array Value}(h:PV cs):dv .u8 32 cs:=⟨h.1,fun v hv=>let ⟨i,e,_⟩:=h.2 v hv;⟨i,e⟩⟩
theorem yT: ∀ {a b:List Value},(∀v∈a,∃i:Int,v=.int .u8 i)->(∀v∈b,∃i:Int,v=.int .u8 i)->a.map ln=b.map ln->a=b
 | [],[],_,_,_=>rfl
 | [],_::_,_,_,h=>by simp at h
 |_::_,[],_,_,h=>by simp at h
 |x::a,y::b,ha,hb,h=>by
  obtain⟨i,rfl⟩:=ha x (by simp);obtain⟨j,rfl⟩:=hb y (by simp);simp only [List.map_cons,List.cons.injEq,ln]at h;rw [h.1,yT (fun v hv=>ha v (by simp [hv])) (fun v hv=>hb v (by simp [hv])) h.2]
theorem key_inj{a b:HT}(h:key a=key b):a=b:=by
 apply Subtype.ext;apply Array.ext';exact yT (fun v hv=>a.2.ints.2 v hv) (fun v hv=>b.2.ints.2 v hv) h
instance:DecidableEq HT:=fun a b=>if h:key a=key b then isTrue (key_inj h)else isFalse fun e=>h (by rw [e])
theorem dq(a b:HT):eh a.1 b.1=decide (a=b):=by
 unfold eh;by_cases e:a=b
 ·subst e;simp
 ·rw [decide_eq_false e]
  have: ¬(key a=key b):=fun h=>e (key_inj h);simpa [key]using this
theorem PV.one{cs:Array Value}(h:PV cs): ∀v∈cs.toList,v.oneCell'=true:=fun v hv=>by
 obtain⟨i,rfl,_⟩:=h.2 v hv;rfl
def tn:List Int->List Int->Bool
 | [],[]=>false
 | [],_::_=>true
 |_::_,[]=>false
 |x::a,y::b=>if x<y then true else if y<x then false else tn a b
def cI(a b:HT):Bool:=tn (key a) (key b)
theorem uh: ∀a,tn a a=false
 | []=>rfl
 |x::a=>by simp [tn,uh a]
theorem vY: ∀ {a b c},tn a b=true->tn b c=true->tn a c=true
 | [],[],_,h,_=>by simp [tn]at h
 | [],_::_,[],_,h=>by simp [tn]at h
 | [],_::_,_::_,_,_=>rfl
 |_::_,[],_,h,_=>by simp [tn]at h
 |_::_,_::_,[],_,h=>by simp [tn]at h
 |x::a,y::b,z::c,h,h'=>by
  simp only [tn]at*;by_cases h1:x<y
  ·by_cases h2:y<z
   ·rw [if_pos (by omega)]
   ·rw [if_neg h2]at h'
    by_cases h3:z<y
    ·rw [if_pos h3]at h';cases h'
    ·rw [if_pos (by omega)]
  ·rw [if_neg h1]at h
   by_cases h2:y<x
   ·rw [if_pos h2]at h;cases h
   ·rw [if_neg h2]at h
    by_cases h3:y<z
    ·rw [if_pos (by omega)]
    ·rw [if_neg h3]at h'
     by_cases h4:z<y
     ·rw [if_pos h4]at h';cases h'
     ·rw [if_neg h4]at h'
      rw [if_neg (by omega),if_neg (by omega)];exact vY h h'
theorem vZ: ∀ {a b},a.length=b.length->tn a b=false->tn b a=false->a=b
 | [],[],_,_,_=>rfl
 | [],_::_,h,_,_=>by simp at h
 |_::_,[],h,_,_=>by simp at h
 |x::a,y::b,hl,h,h'=>by
  simp only [tn]at*;by_cases h1:x<y
  ·rw [if_pos h1]at h;cases h
  ·rw [if_neg h1]at h
   by_cases h2:y<x
   ·rw [if_pos h2]at h';cases h'
   ·rw [if_neg h2]at h h'
    rw [if_neg h1]at h';have:x=y:=by omega
    rw [this,vZ (by simpa using hl) h h']
theorem ma(a:HT):(key a).length=32:=by have:=a.2.1;simpa [key]using this
theorem pv{a b:HT}(h:cI a b=false)(h':cI b a=false):a=b:=key_inj (vZ (by rw [ma,ma]) h h')
theorem jA{a b c:HT}(h:cI a b=true)(h':cI b c=true):cI a c=true:=vY h h'
theorem gL(a:HT):cI a a=false:=uh _
theorem rQ{a b:HT}(h:cI a b=true):cI b a=false:=by
 cases h':cI b a
 ·rfl
 ·have:=jA h h';rw [gL]at this;cases this
end Go.Proofs.YtnboahlopghcjaaGreatDoor
namespace Go.Proofs.YtnboahlopghcjaaGreatDoor
open Go.Proofs.Tryz
open Go Go.bV
def SS(l:List HT):Prop:=l.Pairwise fun a b=>cI a b=true
theorem SS.nodup{l:List HT}(h:SS l):l.Nodup:=List.Pairwise.imp (fun {a b} lL e=>by subst e;rw [gL]at lL;cases lL) h
theorem SS.cons{x:HT}{l:List HT}:SS (x::l)↔(∀y∈l,cI x y=true)/\SS l:=List.pairwise_cons
theorem xC: ∀ {l m:List HT},SS l->SS m->(∀x,x∈l↔x∈m)->l=m
 | [],[],_,_,_=>rfl
 | [],y::m,_,_,h=>by have:=(h y).2 (by simp);simp at this
 |x::l,[],_,_,h=>by have:=(h x).1 (by simp);simp at this
 |x::l,y::m,hl,hm,h=>by
  rw [SS.cons]at hl hm;have nU:x=y:=by
   have h1:=(h x).1 (by simp);have h2:=(h y).2 (by simp);rcases List.mem_cons.1 h1 with h1|h1
   ·exact h1
   ·rcases List.mem_cons.1 h2 with h2|h2
    ·exact h2.symm
    ·have a:=hl.1 _ h2
     have b:=hm.1 _ h1;rw [rQ a]at b;cases b
  subst nU
  congr 1
  refine xC hl.2 hm.2 fun z=>?_;have hz:=h z;constructor
  ·intro hzl
   rcases List.mem_cons.1 (hz.1 (by simp [hzl]))with e|e
   ·subst e;have:=hl.1 _ hzl;rw [gL]at this;cases this
   ·exact e
  ·intro hzm
   rcases List.mem_cons.1 (hz.2 (by simp [hzm]))with e|e
   ·subst e;have:=hm.1 _ hzm;rw [gL]at this;cases this
   ·exact e
def ins(x:HT):List HT->List HT
 | []=> [x]
 |y::l=>if cI x y then x::y::l else if x=y then y::l else y::ins x l
theorem wU(x z:HT): ∀l,z∈ins x l↔z=x\/z∈l
 | []=>by simp [ins]
 |y::l=>by
  unfold ins;split
  ·simp
  ·split
   ·rename_i e;subst e;simp
   ·simp only [List.mem_cons,wU x z l]
    constructor
    ·rintro(h|h|h)<;>simp [h]
    ·rintro(h|h|h)<;>simp [h]
theorem Ib(x:HT): ∀ {l:List HT},SS l->SS (ins x l)
 | [],_=>by simp [ins,SS]
 |y::l,h=>by
  have h':=SS.cons.1 h;unfold ins;split
  ·rename_i nU
   refine SS.cons.2 ⟨fun z hz=>?_,h⟩;rcases List.mem_cons.1 hz with rfl|hz
   ·exact nU
   ·exact jA nU (h'.1 _ hz)
  ·split
   ·exact h
   ·rename_i h1 h2
    refine SS.cons.2 ⟨fun z hz=>?_,Ib x h'.2⟩;rcases(wU x z l).1 hz with rfl|hz
    ·cases PW:cI y z
     ·exact absurd (pv PW (by simpa using h1)).symm h2
     ·rfl
    ·exact h'.1 _ hz
def df(l:List HT):List HT:=l.foldr ins []
theorem dm{z:HT}: ∀ {l:List HT},z∈df l↔z∈l
 | []=>by simp [df]
 |x::l=>by
  have:= @dm z l;simp only [df,List.foldr_cons,wU,List.mem_cons]at this⊢;rw [this]
theorem iD: ∀l:List HT,SS (df l)
 | []=>List.Pairwise.nil
 |x::l=>Ib x (iD l)
theorem wJ{l m:List HT}(h: ∀x,x∈l↔x∈m):df l=df m:=xC (iD l) (iD m) fun x=>by rw [dm,dm,h]
theorem wI{l m:List HT}(hs:SS l)(h: ∀x,x∈l↔x∈m):l=df m:=xC hs (iD m) fun x=>by rw [dm,h]
theorem CI(x:HT): ∀l,(ins x l).length<=l.length+1
 | []=>by simp [ins]
 |y::l=>by
  have:=CI x l;unfold ins;split
  ·simp
  ·split<;>simp<;>omega
theorem l9: ∀l:List HT,(df l).length<=l.length
 | []=>by simp [df]
 |x::l=>by
  have h1:=CI x (df l);have h2:=l9 l;simp only [df,List.foldr_cons,List.length_cons]at*;omega
theorem qe{x:HT}: ∀ {l:List HT},x∉l->(ins x l).length=l.length+1
 | [],_=>by simp [ins]
 |y::l,h=>by
  simp only [List.mem_cons,not_or]at h;have:=qe h.2;unfold ins;split
  ·simp
  ·rw [if_neg h.1];simp;omega
theorem pI: ∀ {l:List HT},l.Nodup->(df l).length=l.length
 | [],_=>by simp [df]
 |x::l,h=>by
  rw [List.nodup_cons]at h;have h2:=pI h.2;have:=qe (l:=df l) (x:=x) (fun hm=>h.1 (dm.1 hm));simp only [df,List.foldr_cons,List.length_cons]at*;omega
theorem sD{x:HT}: ∀ {l:List HT},SS l->x∈l->(ins x l).length=l.length
 | [],_,h=>by simp at h
 |y::l,hs,h=>by
  have h':=SS.cons.1 hs;unfold ins;split
  ·rename_i nU
   rcases List.mem_cons.1 h with rfl|h
   ·rw [gL]at nU;cases nU
   ·have:=h'.1 _ h;rw [rQ nU]at this;cases this
  ·split
   ·rfl
   ·rename_i h1 h2
    rcases List.mem_cons.1 h with rfl|h
    ·exact absurd rfl h2
    ·simp [sD h'.2 h]
theorem qH: ∀ {l:List HT},(df l).length=l.length->l.Nodup
 | [],_=>List.Pairwise.nil
 |x::l,h=>by
  have h2:=l9 l;by_cases hm:x∈l
  ·have:=sD (iD l) (dm.2 hm)
   simp only [df,List.foldr_cons,List.length_cons]at*;omega
  ·have h3:=qe (l:=df l) (x:=x) (fun h=>hm (dm.1 h))
   simp only [df,List.foldr_cons,List.length_cons]at*;exact List.nodup_cons.2 ⟨hm,qH (by simp only [df];omega)⟩
theorem IP:df []= []:=rfl
theorem tl(x:HT):df [x]= [x]:=rfl
theorem FH{l:List HT}(h:SS l):df l=l:=(wI h fun _=>Iff.rfl).symm
theorem Ia{l:List HT}{x:HT}{k:Nat}(hs:SS l)(h1: ∀y∈l.take k,cI y x=true)(h2: ∀y∈l.drop k,cI x y=true):SS (l.take k++x::l.drop k):=by
 unfold SS at*;rw [<-List.take_append_drop k l,List.pairwise_append]at hs;rw [List.pairwise_append,List.pairwise_cons];refine⟨hs.1,⟨h2,hs.2.1⟩,fun y hy z hz=>?_⟩;rcases List.mem_cons.1 hz with rfl|hz
 ·exact h1 y hy
 ·exact hs.2.2 y hy z hz
theorem SS.get{l:List HT}(h:SS l){i j:Nat}(qR:i<j){x y:HT}(hx:l[i]? =some x)(hy:l[j]? =some y):cI x y=true:=by
 obtain⟨h1,rfl⟩:=List.getElem?_eq_some_iff.1 hx;obtain⟨h2,rfl⟩:=List.getElem?_eq_some_iff.1 hy;exact List.pairwise_iff_getElem.1 h i j h1 h2 qR
theorem De{l:List HT}{x:HT}(hs:SS l)(h: ∀y∈l,cI y x=true):SS (l++ [x]):=by
 have:=Ia (k:=l.length) hs (x:=x) (by simpa using h) (by simp);simpa using this
def LE(l:List HT):Prop:=l.Pairwise fun a b=>cI b a=false
theorem lt_of_le_ne{a b:HT}(h:cI b a=false)(hn:a≠b):cI a b=true:=by
 cases lL:cI a b
 ·exact absurd (pv lL h) hn
 ·rfl
theorem sx{a b c:HT}(h:cI b a=false)(h':cI b c=true):cI a c=true:=by
 by_cases e:a=b
 ·subst e;exact h'
 ·exact jA (lt_of_le_ne h e) h'
theorem LE.get{l:List HT}(h:LE l){i j:Nat}(qR:i<j){x y:HT}(hx:l[i]? =some x)(hy:l[j]? =some y):cI y x=false:=by
 obtain⟨h1,rfl⟩:=List.getElem?_eq_some_iff.1 hx;obtain⟨h2,rfl⟩:=List.getElem?_eq_some_iff.1 hy;exact List.pairwise_iff_getElem.1 h i j h1 h2 qR
theorem bH{l:List HT}{k:Nat}{x z:HT}(hx:l[k]? =some x):z∈l.take (k+1)↔z∈l.take k\/z=x:=by
 rw [List.take_add_one,hx];simp
end Go.Proofs.YtnboahlopghcjaaGreatDoor
namespace Go.Proofs.YtnboahlopghcjaaGreatDoor
open Go.Proofs.Tryz
open Go Go.bV Go.RowKit
theorem eI(a:Addr)(k:Nat):(a.add k).block=a.block:=by unfold Addr.add;split<;>rfl
theorem aS{σ:Type}(e:σ->Env)(I:σ->World->Prop)(μ:σ->World->Nat)(s:σ)(w:World)(Q:aO)(l:Nat)(ρ:Env)(w':World):bJ e I μ s w Q (.exit l) ρ w'=Q (.exit l) ρ w':=rfl
theorem im{σ:Type}(e:σ->Env)(I:σ->World->Prop)(μ:σ->World->Nat)(s:σ)(w:World)(Q:aO)(ρ:Env)(w':World):bJ e I μ s w Q .ret ρ w'=Q .ret ρ w':=rfl
theorem gY{x:Int}(h0: -9223372036854775808<=x)(h1:x<9223372036854775808):IntKind.i64.wrap x=x:=by
 simp only [IntKind.wrap,IntKind.bits,IntKind.signed];simp;omega
theorem Cells.aC{S:Nat->Prop}{w w':World}{a:Addr}{cs:Array Value}(h:Cells w a cs)(hk:Kept S w w')(hn: ¬S a.block):Cells w' a cs:=
 fun j v hj=>hk.cell (h j v hj) (by rw [eI];exact hn)
theorem Cells.bC{w:World}{b:Nat}{cs:Array Value}{t:TypeId}{fr:Nat×Nat}(h:w.heap[b]? =some (.cells cs t fr)):Cells w ⟨b,0,none⟩ cs:=
 fun j v hj=>by rw [ba,Nat.zero_add,ax h];exact hj
structure HS(w:World)(A:Option Addr)(n:Nat)(l:List HT):Prop where
 len:l.length=n
 at_: ∀(i:Nat) (h:HT),l[i]? =some h-> ∃a,A=some a/\a.block<w.heap.size/\Cells w (a.add (i*32)) h.1
theorem HS.aC{S:Nat->Prop}{w w':World}{A:Option Addr}{n:Nat}{l:List HT}(h:HS w A n l)(hk:Kept S w w')(hn: ∀a,A=some a-> ¬S a.block):HS w' A n l:=⟨h.len,fun i x hi=>by
 obtain⟨a,h1,h2,h3⟩:=h.at_ i x hi;exact⟨a,h1,Nat.lt_of_lt_of_le h2 hk.size,Cells.aC h3 hk (by rw [eI];exact hn a h1)⟩⟩
theorem HS.same{w w':World}{A:Option Addr}{n:Nat}{l:List HT}(h:HS w A n l)(hk:Kept Nil w w'):HS w' A n l:=h.aC hk fun _ _ h=>h
section
variable{w:World}{K:Value->World->Prop}
theorem rz{A:Option Addr}{n c:Nat}{l:List HT}(h:HT)(hl:HS w A n l)(hn:n<=1000000)(hK: ∀w',Kept Nil w w'->K (.bool (decide (h∈l))) w'):
 bn prog cC.id #[.slice A n c,.agg h.1] w K:=by
 refine cC.of ?_;unfold cC.W;intro w3;have k3:Kept Nil w w3:=(Kept.refl Nil w).alloc _;have oo:w3.heap[w.heap.size]? =some (.cells h.1 ag (0,0)):=aJ w _;clear_value w3;have hlen:=hl.len;refine cC.b6 (I:=fun s w'=> ∃i:Nat,s=(false,(i:Int))/\i<=n/\Kept Nil w3 w'/\h∉l.take i) (μ:=fun s _=>((n:Int)-s.2).toNat) (s:=(false,0)) ⟨0,rfl,Nat.zero_le _,Kept.refl _ _,by simp⟩ ?_;rintro s w' ⟨i,rfl,hi,kw,mN⟩;refine Split.dec (fun cI=>?_) (fun gu=>?_)
 ·simp only at cI
  have dP:i<n:=by omega
  obtain⟨x,hx⟩: ∃x,l[i]? =some x:=⟨_,List.getElem?_eq_getElem (by omega)⟩;have kk:Kept Nil w w'.drew:=(k3.trans kw (fun _ _ h=>h)).drew;obtain⟨a,rfl,_,hc⟩:=(hl.same kk).at_ i x hx;intro w8;have k8:Kept Nil w3 w8:=kw.drew;refine⟨⟨by simp only;omega,by simp only;omega⟩,x.1,⟨x.2.1,hc⟩,h.1,⟨h.2.1,Cells.bC (k8.heap oo (fun h=>h))⟩,⟨x.2.ints,h.2.ints⟩,?_⟩;rw [dq];have PM:Kept Nil w w8:=kk;refine Split.dec (fun he=>?_) (fun he=>?_)
  ·have:=hK w8 PM
   rw [decide_eq_true (by rw [<-he];exact List.mem_of_getElem? hx)]at this;exact this
  ·simp only
   rw [gY (x:=(i:Int)+1) (by omega) (by omega)];refine⟨(false,(i:Int)+1),rfl,⟨i+1,rfl,dP,k8,?_⟩,by simp only;omega⟩;rw [List.take_add_one,hx];simp only [Option.toList_some,List.mem_append,List.mem_singleton,not_or];exact⟨mN,fun e=>he e.symm⟩
 ·simp only at gu
  rw [aS,cC.cX];have:=hK w' (k3.trans kw (fun _ _ h=>h));rw [List.take_of_length_le (by omega)]at mN;rw [decide_eq_false mN]at this;exact this
theorem vV{A A':Option Addr}{n n' c c':Nat}{l l':List HT}(hl:HS w A n l)(hl':HS w A' n' l')(hn:n<=1000000)(hK: ∀w',Kept Nil w w'->K (.bool (decide (l=l'))) w'):
 bn prog bU.id #[.slice A n c,.slice A' n' c'] w K:=by
 have hlen:=hl.len;have He:=hl'.len;refine bU.of ?_;by_cases fG:n=n'
 ·subst fG
  refine Split.no (by simp) ?_;refine bU.b6 (I:=fun s w'=> ∃i:Nat,s=(false,(i:Int))/\i<=n/\Kept Nil w w'/\l.take i=l'.take i) (μ:=fun s _=>((n:Int)-s.2).toNat) (s:=(false,0)) ⟨0,rfl,Nat.zero_le _,Kept.refl _ _,by simp⟩ ?_;rintro s w' ⟨i,rfl,hi,kw,heq⟩;refine Split.dec (fun cI=>?_) (fun gu=>?_)
  ·simp only at cI
   have dP:i<n:=by omega
   obtain⟨x,hx⟩: ∃x,l[i]? =some x:=⟨_,List.getElem?_eq_getElem (by omega)⟩;obtain⟨y,hy⟩: ∃y,l'[i]? =some y:=⟨_,List.getElem?_eq_getElem (by omega)⟩;have kk:Kept Nil w w'.drew:=kw.drew;obtain⟨a,rfl,_,hc⟩:=(hl.same kk).at_ i x hx;obtain⟨a',rfl,_,sV⟩:=(hl'.same kk).at_ i y hy;intro w7;have k7:Kept Nil w w7:=kk;have hb:0<=(i:Int)/\(i:Int)<(n:Int):=⟨by omega,by omega⟩;refine⟨hb,x.1,⟨x.2.1,hc⟩,hb,y.1,⟨y.2.1,sV⟩,⟨x.2.ints,y.2.ints⟩,?_⟩;rw [dq];by_cases he:x=y
   ·refine Split.no (by simp [he]) ?_
    simp only;rw [gY (x:=(i:Int)+1) (by omega) (by omega)];refine⟨(false,(i:Int)+1),rfl,⟨i+1,rfl,dP,k7,?_⟩,by simp only;omega⟩;rw [List.take_add_one,List.take_add_one,hx,hy,heq,he]
   ·refine Split.yes (by simp [he]) ?_
    have:=hK w7 k7;rw [decide_eq_false (fun e=>he (by rw [e,hy]at hx;exact(Option.some.inj hx).symm))]at this;exact this
  ·simp only at gu
   rw [aS,bU.cX];have:=hK w' kw;rw [List.take_of_length_le (by omega),List.take_of_length_le (by omega)]at heq;rw [decide_eq_true heq]at this;exact this
 ·refine Split.yes (by simp;omega) ?_
  have:=hK w (Kept.refl _ _);rw [decide_eq_false (fun e=>fG (by rw [<-hlen,<-He,e]))]at this;exact this
end
end Go.Proofs.YtnboahlopghcjaaGreatDoor
namespace Go.Proofs.YtnboahlopghcjaaGreatDoor
open Go.Proofs.Tryz
open Go Go.bV Go.RowKit
def kz(a b:HT):Int:=if cI a b then-1 else if cI b a then 1 else 0
theorem ui: ∀(i:Nat) (a b:List Int),a.take i=b.take i->tn a b=tn (a.drop i) (b.drop i)
 |0,a,b,_=>rfl
 |i+1,[],[],_=>rfl
 |i+1,[],y::b,h=>by simp at h
 |i+1,x::a,[],h=>by simp at h
 |i+1,x::a,y::b,h=>by
  simp only [List.take_succ_cons,List.cons.injEq]at h;obtain⟨rfl,h⟩:=h;simp only [tn,List.drop_succ_cons];rw [if_neg (by omega),if_neg (by omega)];exact ui i a b h
theorem wV{h:HT}{i:Nat}(hi:i<32): ∃x:Int,h.1[i]? =some (.int .u8 x)/\(key h)[i]? =some x/\0<=x/\x<256:=by
 have hs:i<h.1.size:=by rw [h.2.1];exact hi
 obtain⟨x,hx,h1,h2⟩:=h.2.2 h.1[i] (by simp);refine⟨x,by rw [Array.getElem?_eq_getElem hs,hx],?_,h1,h2⟩;unfold key;rw [List.getElem?_map,Array.getElem?_toList,Array.getElem?_eq_getElem hs,hx];rfl
section
variable{w:World}{K:Value->World->Prop}
theorem sk(a b:HT)(hK: ∀w',Kept Nil w w'->K (.int .i64 (kz a b)) w'):bn prog bE.id #[.agg a.1,.agg b.1] w K:=by
 refine bE.of ?_;unfold bE.W;intro w3 w4;have k3:Kept Nil w w3:=(Kept.refl Nil w).alloc _;have k4:Kept Nil w w4:=k3.alloc _;have uD:w4.heap[w.heap.size]? =some (.cells a.1 ag (0,0)):=iX (aJ w _) _;have qi:w4.heap[w3.heap.size]? =some (.cells b.1 ag (0,0)):=aJ w3 _;clear_value w4;refine bE.b6 (I:=fun s w'=> ∃i:Nat,s=(0,(i:Int))/\i<=32/\Kept Nil w4 w'/\(key a).take i=(key b).take i) (μ:=fun s _=>(32-s.2).toNat) (s:=(0,0)) ⟨0,rfl,by omega,Kept.refl _ _,by simp⟩ ?_;rintro s w' ⟨i,rfl,hi,kw,heq⟩;refine Split.dec (fun jf=>?_) (fun gu=>?_)
 ·simp only at jf
  have dP:i<32:=by omega
  obtain⟨x,hx,kx,_⟩:=wV (h:=a) dP;obtain⟨y,hy,ky,_⟩:=wV (h:=b) dP;have e1:cI a b=tn ((key a).drop i) ((key b).drop i):=ui i _ _ heq;have e2:cI b a=tn ((key b).drop i) ((key a).drop i):=ui i _ _ heq.symm;have da:(key a).drop i=x::(key a).drop (i+1):=by
   obtain⟨h1,h2⟩:=List.getElem?_eq_some_iff.1 kx;rw [List.drop_eq_getElem_cons h1,h2]
  have db:(key b).drop i=y::(key b).drop (i+1):=by
   obtain⟨h1,h2⟩:=List.getElem?_eq_some_iff.1 ky;rw [List.drop_eq_getElem_cons h1,h2]
  rw [da,db]at e1 e2;simp only [tn]at e1 e2;intro w9;have k9:Kept Nil w4 w9:=kw.drew;clear_value w9;have hb:0<=(i:Int)/\(i:Int)<32:=⟨by omega,by omega⟩;have ca: ∀ {w':World},Kept Nil w4 w'->w'.cell? ((⟨w.heap.size,0,none⟩:Addr).add ((i:Int).toNat*1))=some (.int .u8 x):=fun k=>by
   rw [ba,Nat.zero_add,Nat.mul_one,Int.toNat_natCast,ax (k.heap uD (fun h=>h))];exact hx
  have cb: ∀ {w':World},Kept Nil w4 w'->w'.cell? ((⟨w3.heap.size,0,none⟩:Addr).add ((i:Int).toNat*1))=some (.int .u8 y):=fun k=>by
   rw [ba,Nat.zero_add,Nat.mul_one,Int.toNat_natCast,ax (k.heap qi (fun h=>h))];exact hy
  refine⟨hb,x,ca k9,hb,y,cb k9,Split.dec (fun nU=>?_) (fun nU=>?_)⟩
  ·have:=hK w9 (k4.trans k9 (fun _ _ h=>h))
   rw [show kz a b= -1 by unfold kz;rw [e1,if_pos nU];rfl]at this;exact this
  ·intro lU
   have vc:Kept Nil w4 lU:=k9.drew;clear_value lU;refine⟨hb,x,ca vc,hb,y,cb vc,Split.dec (fun CK=>?_) (fun CK=>?_)⟩
   ·have:=hK lU (k4.trans vc (fun _ _ h=>h))
    rw [show kz a b=1 by unfold kz;rw [e1,e2,if_neg nU,if_pos (show y<x from CK),if_pos (show y<x from CK)];rfl]at this;exact this
   ·simp only
    rw [gY (x:=(i:Int)+1) (by omega) (by omega)];refine⟨(0,(i:Int)+1),rfl,⟨i+1,rfl,dP,vc,?_⟩,by simp only;omega⟩;have:x=y:=by omega
    rw [List.take_add_one,List.take_add_one,kx,ky,heq,this]
 ·simp only at gu
  rw [aS,bE.cX];have:=hK w' (k4.trans kw (fun _ _ h=>h));have lL:a=b:=by
   apply key_inj;rw [List.take_of_length_le (by rw [ma];omega),List.take_of_length_le (by rw [ma];omega)]at heq;exact heq
  rw [show kz a b=0 by unfold kz;rw [lL,gL];rfl]at this;exact this
end
end Go.Proofs.YtnboahlopghcjaaGreatDoor
namespace Go.Proofs.YtnboahlopghcjaaGreatDoor
open Go.Proofs.Tryz
open Go Go.bV Go.RowKit
theorem C8{x y:Int}(hx:0<=x/\x<256)(hy:0<=y/\y<256):(x.toNat.toUInt8<y.toNat.toUInt8)↔x<y:=by
 rw [UInt8.lt_iff_toNat_lt];simp only [Nat.toUInt8,UInt8.toNat_ofNat'];omega
theorem mQ: ∀ {a b:List Int},a.length=b.length->(∀x∈a,0<=x/\x<256)->(∀x∈b,0<=x/\x<256)->
 Lib.compareBytes (Lib.bytesOf a) (Lib.bytesOf b)=if tn a b then-1 else if tn b a then 1 else 0
 | [],[],_,_,_=>rfl
 | [],_::_,h,_,_=>by simp at h
 |_::_,[],h,_,_=>by simp at h
 |x::a,y::b,h,ha,hb=>by
  have hx:=ha x (by simp);have hy:=hb y (by simp);have ih:=mQ (a:=a) (b:=b) (by simpa using h) (fun z hz=>ha z (by simp [hz])) (fun z hz=>hb z (by simp [hz]));simp only [Lib.bytesOf,List.map_cons,Lib.compareBytes,C8 hx hy,C8 hy hx,tn];by_cases h1:x<y
  ·simp [h1]
  ·by_cases h2:y<x
   ·simp [h1,h2]
   ·simp only [h1,h2,if_false]
    exact ih
theorem wg(h:HT): ∀x∈key h,0<=x/\x<256:=by
 intro x hx;simp only [key,List.mem_map]at hx;obtain⟨v,hv,rfl⟩:=hx;obtain⟨i,rfl,h1,h2⟩:=h.2.2 v hv;exact⟨h1,h2⟩
theorem qT(a b:HT):Lib.compareBytes (Lib.bytesOf (key a)) (Lib.bytesOf (key b))=kz a b:=
 mQ (by rw [ma,ma]) (wg a) (wg b)
section
variable{w:World}{K:Value->World->Prop}
theorem rV(a b:HT){p q:Addr}{c c':Nat}(ha:Cells w p a.1)(hb:Cells w q b.1)(hK:K (.int .i64 (kz a b)) w):
 bn prog gP.id #[.slice (some p) 32 c,.slice (some q) 32 c'] w K:=by
 refine gP.of ⟨.int .i64 (kz a b),w,?_,_,rfl,hK⟩;have y9: ∀(h:HT) (r:Addr),Cells w r h.1-> ∀j x,(key h)[j]? =some x->w.cell? (r.add j)=some (.int .u8 x):=by
  intro h r hr j x hx;have hj:j<32:=by have:=(List.getElem?_eq_some_iff.1 hx).1;rw [ma]at this;exact this
  obtain⟨y,hy,ky,_⟩:=wV (h:=h) hj;rw [hx]at ky;cases ky;exact hr j _ hy
 have l1:=Lib.run_loadBytesX (P:=prog) w (key a) p .empty (y9 a p ha);have l2:=Lib.run_loadBytesX (P:=prog) w (key b) q .empty (y9 b q hb);rw [ma]at l1 l2;rw [run_callFunc_extern sZ.at_ (by kernel_rfl) (by kernel_rfl) (by kernel_rfl) (e:=Extern.BytealgCompare.compare) (by kernel_rfl)];have hr:(Extern.BytealgCompare.compare #[.slice (some p) 32 c,.slice (some q) 32 c']).run prog w=.ok (.int .i64 (kz a b)) w:=by
  change Sem.run prog (do pure (goInt (Extern.BytealgCompare.cmp (<-Extern.Bytes.bytesOf (.slice (some p) 32 c)) (<-Extern.Bytes.bytesOf (.slice (some q) 32 c'))))) w=_
  simp only [Extern.Bytes.bytesOf,Sem.run_bind,l1,l2,Result.andThen_ok,Sem.run_pure,Lib.cmp_eq,goInt];rw [<-qT];simp
 rw [hr];rfl
theorem o0(a b:HT)(hK:K (.int .i64 (kz a b)) ((w.alloc (.cells a.1 ag)).alloc (.cells b.1 ag)).drew):bn prog du.id #[.agg a.1,.agg b.1] w K:=by
 refine du.of ?_;unfold du.W;intro w3 w4 w5;have ha:w5.heap[w.heap.size]? =some (.cells a.1 ag (0,0)):=iX (aJ w _) _;have hb:w5.heap[w3.heap.size]? =some (.cells b.1 ag (0,0)):=aJ w3 _;simp only [if_neg (show ¬(32:Nat)=0 by omega),Nat.zero_mul,add_zero,Nat.sub_zero];exact rV a b (Cells.bC ha) (Cells.bC hb) ⟨_,rfl,hK⟩
end
end Go.Proofs.YtnboahlopghcjaaGreatDoor
namespace Go.Proofs.YtnboahlopghcjaaGreatDoor
open Go.Proofs.Tryz
open Go Go.bV Go.RowKit
theorem kF(a:Addr)(m n:Nat):(a.add m).add n=a.add (m+n):=by
 unfold Addr.add;by_cases hm:m=0<;>by_cases hn:n=0<;>simp [hm,hn,Nat.add_assoc]
def dd(l:List HT):List Value:=l.flatMap fun h=>h.1.toList
theorem ko(h:HT)(l:List HT):dd (h::l)=h.1.toList++dd l:=by simp [dd]
theorem lK(l m:List HT):dd (l++m)=dd l++dd m:=by simp [dd]
theorem eF: ∀l:List HT,(dd l).length=l.length*32
 | []=>rfl
 |h::l=>by
  have:=h.2.1;rw [ko,List.length_append,eF l,Array.length_toList,this,List.length_cons];omega
theorem Bk(l:List HT): ∀u∈dd l,u.oneCell'=true:=by
 intro u hu;simp only [dd,List.mem_flatMap]at hu;obtain⟨h,_,hu⟩:=hu;exact h.2.one u hu
theorem jZ: ∀ {l:List HT} {i:Nat} {h:HT},l[i]? =some h-> ∀ {j:Nat} {v:Value},h.1[j]? =some v->(dd l)[i*32+j]? =some v
 | [],_,_,hi,_,_,_=>by simp at hi
 |x::l,0,h,hi,j,v,hj=>by
  simp only [List.getElem?_cons_zero,Option.some.injEq]at hi;subst hi;have cI:j<x.1.toList.length:=by simpa using (Array.getElem?_eq_some_iff.1 hj).1
  rw [ko,Nat.zero_mul,Nat.zero_add,List.getElem?_append_left cI,Array.getElem?_toList,hj]
 |x::l,i+1,h,hi,j,v,hj=>by
  simp only [List.getElem?_cons_succ]at hi;have:=x.2.1;rw [ko,List.getElem?_append_right (by simp;omega),Array.length_toList,this,show(i+1)*32+j-32=i*32+j by omega];exact jZ hi hj
theorem Ev{l:List HT}{j:Nat}{v:Value}(h:(dd l)[j]? =some v): ∃x,l[j/32]? =some x/\x.1[j%32]? =some v:=by
 have hj:=(List.getElem?_eq_some_iff.1 h).1;rw [eF]at hj;have hi:j/32<l.length:=by omega
 refine⟨l[j/32],List.getElem?_eq_getElem hi,?_⟩;have hs:=l[j/32].2.1;have hm:j%32<l[j/32].1.size:=by rw [hs];omega
 obtain⟨u,hu⟩: ∃u,l[j/32].1[j%32]? =some u:=⟨_,Array.getElem?_eq_getElem hm⟩;have:=jZ (List.getElem?_eq_getElem hi) hu;rw [show j/32*32+j%32=j by omega,h]at this;rw [hu,this]
theorem oy:xP prog az ag 32 32:=⟨by kernel_rfl,by kernel_rfl⟩
abbrev bO(w:World)(B:Nat)(A:Option Addr)(n c:Nat)(l:List HT):Prop:=Row w B ag 32 A n c (dd l)
section
variable{w w':World}{B:Nat}{A:Option Addr}{n c:Nat}{l:List HT}
theorem bO.len(h:bO w B A n c l):l.length=n:=by
 have:=Row.len h;rw [eF]at this;omega
theorem bO.hs(h:bO w B A n c l):HS w A n l:=⟨h.len,fun i x hi=>by
 have hlen:=h.len;have dP:=(List.getElem?_eq_some_iff.1 hi).1;obtain⟨b,rfl⟩:=Row.some h (by omega);obtain⟨_,cur,oR⟩:=Row.bC h (k:=b) rfl;refine⟨_,rfl,aQ oR,fun j v hj=>?_⟩;rw [kF];exact Row.cells h _ _ (jZ hi hj)⟩
theorem bO.nil(w:World)(B:Nat):bO w B none 0 0 []:=Row.nil _ _ _ _
theorem HS.cells{a:Addr}(h:HS w (some a) n l): ∀j u,(dd l)[j]? =some u->w.cell? (a.add j)=some u:=by
 intro j u hj;obtain⟨x,hx,hu⟩:=Ev hj;obtain⟨a',ha,_,hc⟩:=h.at_ _ x hx;cases ha;have:=hc _ _ hu
 rwa [kF,show j/32*32+j%32=j by omega]at this
theorem HS.nil(w:World)(A:Option Addr):HS w A 0 []:=⟨rfl,fun i x hi=>by simp at hi⟩
theorem HS.none(h:HS w none n l):n=0/\l= []:=by
 cases l with
 |nil=>exact⟨h.len.symm,rfl⟩
 |cons x l=>obtain⟨a,ha,_⟩:=h.at_ 0 x rfl;cases ha
theorem HS.take(h:HS w A n l){k:Nat}(hk:k<=n):HS w A k (l.take k):=⟨by have:=h.len;simp;omega,fun i x hi=>by
 rw [List.getElem?_take]at hi;split at hi
 ·exact h.at_ i x hi
 ·cases hi⟩
theorem HS.drop(h:HS w A n l){k:Nat}(hc:n<=c)(hk:k<=n):HS w (if c=k then A else A.map (·.add (k*32))) (n-k) (l.drop k):=⟨by have:=h.len;simp;omega,fun i x hi=>by
 rw [List.getElem?_drop]at hi;have hlen:=h.len;have:=(List.getElem?_eq_some_iff.1 hi).1;obtain⟨a,rfl,hb,qq⟩:=h.at_ _ x hi;rw [if_neg (by omega)];refine⟨_,rfl,by rw [eI];exact hb,?_⟩;rw [kF,<-Nat.add_mul];exact qq⟩
theorem HS.one{w:World}{b:Nat}{h:HT}{t:TypeId}{fr:Nat×Nat}(hb:w.heap[b]? =some (.cells h.1 t fr)):HS w (some ⟨b,0,Option.none⟩) 1 [h]:=⟨rfl,fun i x hi=>by
 cases i with
 |zero=>
  simp only [List.getElem?_cons_zero,Option.some.injEq]at hi;subst hi;exact⟨_,rfl,aQ hb,by rw [Nat.zero_mul,add_zero];exact Cells.bC hb⟩
 |succ i=>simp at hi⟩
theorem cD(ty:Nat)(h:bO w B A n c l){A2:Option Addr}{m cx:Nat}{l2:List HT}(h2:HS w A2 m l2)(hm:n+m<=1000000)(hB:B<=w.heap.size):
 ∃A' c' w',(Builtin.append_ #[az,az] ty #[.slice A n c,.slice A2 m cx]).run prog w=.ok (.slice A' (n+m) c') w'/\
  bO w' B A' (n+m) c' (l++l2)/\w.grownBy w' (bg A)/\(∀k,bg A'=some k->bg A=some k\/w.heap.size<=k):=by
 cases A2 with
 |some a=>
  have rh:=h2.len;obtain⟨A',c',w',hr,e8,hg,hb⟩:=fi (P:=prog) (t:=az) (bytes:=32) (ty:=ty) oy h (a:=a) (m:=m) (cx:=cx) (news:=dd l2) (by rw [eF,rh]) h2.cells (Bk l2) (by omega) (by unfold maxLen;omega) hB;refine⟨A',c',w',hr,?_,hg,hb⟩;rw [<-lK]at e8;exact e8
 |none=>
  obtain⟨rfl,rfl⟩:=h2.none;refine⟨A,c,w,?_,by simpa using h,⟨rfl,rfl,rfl,Nat.le_refl _,fun _ _ _=>rfl⟩,fun k hk=>.inl hk⟩;obtain⟨i,z,hi,hz,hs,Iz,CJ⟩:=oy.inf;have hn:n<=c:=by rcases Row.own h with⟨_,h1,h2,_⟩|⟨_,_,_,_,_,h1,_⟩<;>omega
  simp [Builtin.append_,run_underlying oy.og,sizeOf,typeInfo,hi,Builtin.lenOf,Builtin.firstCells,hn];cases A<;>simp [storeCells]
end
end Go.Proofs.YtnboahlopghcjaaGreatDoor
namespace Go.Proofs.YtnboahlopghcjaaGreatDoor
open Go.Proofs.Tryz
open Go Go.bV Go.RowKit
theorem HS.load{w:World}{A:Option Addr}{n:Nat}{l:List HT}(hl:HS w A n l){i:Int}{x:HT}(h0:0<=i)(hx:l[i.toNat]? =some x){k:Array Value->Prop}(hk:k x.1):
 (0<=i/\i<(n:Int))/\Is A fun a=> ∃t:Array Value,(t.size=32/\Cells w (a.add (i.toNat*32)) t)/\k t:=by
 obtain⟨a,rfl,_,hc⟩:=hl.at_ _ x hx;have:=(List.getElem?_eq_some_iff.1 hx).1;have:=hl.len;exact⟨⟨h0,by omega⟩,x.1,⟨x.2.1,hc⟩,hk⟩
theorem qU{a b:HT}:(kz a b<0)↔cI a b=true:=by
 unfold kz;by_cases h:cI a b=true
 ·simp [h]
 ·by_cases h':cI b a=true<;>simp [h,h']
theorem dE{n:Int}(h0:0<=n)(h1:n<=2000000):IntKind.i64.wrap (n+1)=n+1:=gY (by omega) (by omega)
theorem wrapM{n:Int}(h0:0<=n)(h1:n<=2000000):IntKind.i64.wrap (n-1)=n-1:=gY (by omega) (by omega)
theorem Kept.eA{w w' lW:World}{A:Option Addr}(h:Kept Nil w w')(hg:w'.grownBy lW (bg A))(hr: ∀k,bg A=some k->w.heap.size<=k):Kept Nil w lW:=
 Kept.grown h hg fun k hk cI=>absurd (hr k hk) (by omega)
section
variable{w:World}{K:Value->World->Prop}
theorem nv{A:Option Addr}{n c:Nat}{l:List HT}(hl:HS w A n l)(hn:n<=400000)
 (hK: ∀A' c' w',bO w' w.heap.size A' (df l).length c' (df l)->Kept Nil w w'->K (.slice A' (df l).length c') w'):
 bn prog aM.id #[.slice A n c] w K:=by
 refine aM.of ?_;have hlen:=hl.len;refine aM.b6 (I:=fun s w'=> ∃(i:Nat) (out:List HT) (B:Option Addr) (m:Nat),s=(B,out.length,m,(i:Int))/\i<=n/\bO w' w.heap.size B out.length m out/\SS out/\(∀x,x∈out↔x∈l.take i)/\out.length<=i/\Kept Nil w w')
  (μ:=fun s _=>((n:Int)-s.2.2.2).toNat) (s:=(none,0,0,0)) ⟨0,[],none,0,rfl,Nat.zero_le _,bO.nil _ _,List.Pairwise.nil,by simp,by simp,Kept.refl _ _⟩ ?_
 rintro s w' ⟨i,out,B,m,rfl,hi,row,tq,gZ,hol,kw⟩;refine Split.dec (fun jf=>?_) (fun gu=>?_)
 ·simp only at jf
  have dP:i<n:=by omega
  obtain⟨x,hx⟩: ∃x,l[i]? =some x:=⟨_,List.getElem?_eq_getElem (by omega)⟩;refine(hl.same kw).load (i:=(i:Int)) (by omega) hx (rz x row.hs (by simp only;omega) fun w9 k9=>⟨_,rfl,?_⟩);simp only;have Rk:Kept Nil w w9:=kw.trans k9 (fun _ _ h=>h);have QS:bO w9 w.heap.size B out.length m out:=Row.aC row k9 (fun _ _ h=>h);have xI:l.take (i+1)=l.take i++ [x]:=by rw [List.take_add_one,hx];rfl
  refine Split.dec (fun fN=>?_) (fun mN=>?_)
  ·rw [dE (n:=(i:Int)) (by omega) (by omega)]
   refine⟨(B,out.length,m,(i:Int)+1),rfl,⟨i+1,out,B,m,rfl,dP,QS,tq,fun y=>?_,by omega,Rk⟩,by simp only;omega⟩;rw [xI,List.mem_append,List.mem_singleton,<-gZ y];constructor
   ·exact .inl
   ·rintro(h|rfl)
    ·exact h
    ·exact fN
  ·refine aM.gD (I:=fun s w'=> ∃k:Nat,s=(k:Int)/\k<=out.length/\(∀y∈out.drop k,cI x y=true)/\Kept Nil w9 w') (μ:=fun s _=>s.toNat) (s:=(out.length:Int)) ⟨out.length,rfl,Nat.le_refl _,by simp,Kept.refl _ _⟩ ?_
   rintro s w1 ⟨k,rfl,hk,uB,k1⟩;have LF:HS w1 A n l:=(hl.same Rk).same k1;have wL:bO w1 w.heap.size B out.length m out:=Row.aC QS k1 (fun _ _ h=>h);have kx:Kept Nil w w1:=Rk.trans k1 (fun _ _ h=>h);have uA: ∀w1,HS w1 A n l->bO w1 w.heap.size B out.length m out->Kept Nil w w1->(∀y∈out.take k,cI y x=true)->
    aM.iu A n c none 0 0 B out.length m (i:Int) (k:Int) (bJ (aM.e1 A n c none 0 0) (fun s w'=> ∃(i:Nat) (out:List HT) (B:Option Addr) (m:Nat),s=(B,out.length,m,(i:Int))/\i<=n/\bO w' w.heap.size B out.length m out/\SS out/\(∀x,x∈out↔x∈l.take i)/\out.length<=i/\Kept Nil w w') (fun s _=>((n:Int)-s.2.2.2).toNat) (B,out.length,m,(i:Int)) w' (aM.q1 K)) w1:=by
    intro w1 LF wL kx GQ;have Hj:out.length<=m:=by rcases Row.own wL with⟨_,h1,h2,_⟩|⟨_,_,_,_,_,h1,_⟩<;>omega
    have kZ:=kx.size;unfold aM.iu;refine⟨⟨by omega,by omega⟩,?_⟩;have xe:HS w1 (if m=0 then B else B.map (·.add (0*32))) ((k:Int).toNat -0) (out.take k):=by
     have h:=wL.hs.take hk;rw [Nat.sub_zero,Int.toNat_natCast];have e:(if m=0 then B else B.map (·.add (0*32)))=B:=by
      split
      ·rfl
      ·cases B<;>simp [add_zero]
     rw [e];exact h
    obtain⟨A1,c1,w2,kQ,fO,J0,la⟩:=cD (cx:=m-0) az (bO.nil w1 w.heap.size) xe (by simp;omega) kZ;have k2:Kept Nil w1 w2:=Kept.eA (Kept.refl _ _) J0 (fun k hk=>by cases hk);rw [Nat.zero_add,Nat.sub_zero,Int.toNat_natCast]at kQ fO;rw [List.nil_append]at fO;refine⟨A1,_,c1,w2,by rw [Nat.sub_zero,Int.toNat_natCast];exact kQ,?_⟩;have rh:=LF.same k2;refine rh.load (i:=(i:Int)) (by omega) hx ⟨x.2.1,?_⟩;intro w3;have k3:Kept Nil w2 w3:=(Kept.refl _ _).alloc _;have jb:HS w3 (some ⟨w2.heap.size,0,none⟩) 1 [x]:=by
     refine HS.one (t:=ag) (fr:=(0,0)) ?_;have e3:w3=w2.alloc (.cells x.1 ag):=by
      show w2.alloc (.cells (x.1.toList++ []).toArray ag)=_
      simp
     rw [e3];exact aJ w2 _
    clear_value w3;have lX:bO w3 w.heap.size A1 k c1 (out.take k):=Row.aC fO k3 (fun _ _ h=>h);have Zb:w.heap.size<=w3.heap.size:=Nat.le_trans (Nat.le_trans kZ k2.size) k3.size;obtain⟨A4,c4,w4,xJ,jJ,CX,qi⟩:=cD (cx:=1) az lX jb (by omega) Zb;have k4:Kept Nil w1 w4:=Kept.eA (k2.trans k3 (fun _ _ h=>h)) CX (fun k hk=>by rcases la k hk with h|h;cases h;exact h);refine⟨A4,_,c4,w4,xJ,⟨by omega,by omega⟩,?_⟩;have P2:HS w4 (if m=(k:Int).toNat then B else B.map (·.add ((k:Int).toNat*32))) (out.length-(k:Int).toNat) (out.drop k):=by
     rw [Int.toNat_natCast];exact(wL.hs.same k4).drop Hj hk
    have hdl:(out.length-(k:Int).toNat)=out.length-k:=by rw [Int.toNat_natCast]
    obtain⟨A5,c5,w5,sS,kO,TS,mv⟩:=cD (cx:=m-(k:Int).toNat) az jJ P2 (by omega) (Nat.le_trans kZ k4.size);have k5:Kept Nil w1 w5:=Kept.eA k4 TS (fun b hb=>by
     rcases qi b hb with h|h
     ·rcases la b h with h|h
      ·cases h
      ·exact h
     ·exact Nat.le_trans (Nat.le_trans k2.size k3.size) h)
    refine⟨A5,_,c5,w5,sS,?_⟩;rw [dE (n:=(i:Int)) (by omega) (by omega)];have mo:out.take k++ [x]++out.drop k=out.take k++x::out.drop k:=by simp
    have xK:(out.take k++x::out.drop k).length=out.length+1:=by simp;omega
    rw [mo]at kO;have e5:k+1+(out.length-(k:Int).toNat)=(out.take k++x::out.drop k).length:=by rw [xK];omega
    rw [e5]at kO⊢;refine⟨(A5,(out.take k++x::out.drop k).length,c5,(i:Int)+1),rfl,⟨i+1,_,A5,c5,rfl,dP,kO,Ia tq GQ uB,fun y=>?_,by omega,kx.trans k5 (fun _ _ h=>h)⟩,by simp only;omega⟩;rw [show y∈l.take (i+1)↔y∈out\/y=x by rw [xI,List.mem_append,List.mem_singleton,gZ y],List.mem_append,List.mem_cons];constructor
    ·rintro(h|rfl|h)
     ·exact .inl (List.mem_of_mem_take h)
     ·exact .inr rfl
     ·exact .inl (List.mem_of_mem_drop h)
    ·rintro(h|rfl)
     ·rw [<-List.take_append_drop k out,List.mem_append]at h
      rcases h with h|h
      ·exact .inl h
      ·exact .inr (.inr h)
     ·exact .inr (.inl rfl)
   unfold aM.B2;intro w2;have k2:Kept Nil w1 w2:=(Kept.refl _ _).drew;clear_value w2;have rh:=LF.same k2;have fO:bO w2 w.heap.size B out.length m out:=Row.aC wL k2 (fun _ _ h=>h);have kx2:=kx.trans k2 (fun _ _ h=>h);refine Split.dec (fun ja=>?_) (fun xh=>?_)
   ·have pP:0<k:=by omega
    obtain⟨y,hy⟩: ∃y,out[k-1]? =some y:=⟨_,List.getElem?_eq_getElem (by omega)⟩;rw [wrapM (n:=(k:Int)) (by omega) (by omega)];refine rh.load (i:=(i:Int)) (by omega) hx (fO.hs.load (by omega) (by rw [show((k:Int)-1).toNat=k-1 by omega];exact hy) (sk x y fun w3 k3=>⟨_,rfl,?_⟩));refine Split.dec (fun hc=>?_) (fun hc=>?_)
    ·refine⟨(k:Int)-1,rfl,⟨k-1,by omega,by omega,fun z hz=>?_,(k1.trans k2 (fun _ _ h=>h)).trans k3 (fun _ _ h=>h)⟩,by simp only;omega⟩
     have hd:out.drop (k-1)=y::out.drop k:=by
      obtain⟨h1,h2⟩:=List.getElem?_eq_some_iff.1 hy;rw [List.drop_eq_getElem_cons h1,h2,show k-1+1=k by omega]
     rw [hd]at hz;rcases List.mem_cons.1 hz with rfl|hz
     ·exact qU.1 hc
     ·exact uB z hz
    ·rw [aS,aM.jC]
     refine uA w3 (rh.same k3) (Row.aC fO k3 (fun _ _ h=>h)) (kx2.trans k3 (fun _ _ h=>h)) fun z hz=>?_;have CK:cI y x=true:=by
      have h1:cI x y=false:=by
       cases h:cI x y
       ·rfl
       ·exact absurd (qU.2 h) hc
      refine lt_of_le_ne h1 fun e=>mN ?_;rw [<-e];exact List.mem_of_getElem? hy
     obtain⟨j,hj⟩:=List.mem_iff_getElem?.1 hz;rw [List.getElem?_take]at hj;split at hj
     ·rename_i TK
      by_cases e:j=k-1
      ·subst e;rw [hy]at hj;cases hj;exact CK
      ·exact jA (tq.get (by omega) hj hy) CK
     ·cases hj
   ·rw [aS,aM.jC]
    have pP:k=0:=by omega
    refine uA w2 rh fO kx2 fun z hz=>?_;rw [pP]at hz;simp at hz
 ·simp only at gu
  have:i=n:=by omega
  subst this;rw [aS,aM.cX];have e:out=df l:=wI tq fun x=>by rw [gZ,List.take_of_length_le (by omega)]
  rw [e]at row;have:=hK B m w' row kw;rw [<-e]at this;exact this
end
end Go.Proofs.YtnboahlopghcjaaGreatDoor
namespace Go.Proofs.YtnboahlopghcjaaGreatDoor
open Go.Proofs.Tryz
open Go Go.bV Go.RowKit
theorem iY{w:World}{k l:Nat}{cs:Array Value}{t:TypeId}{fr:Nat×Nat}{R:Loop}(h:w.heap[k]? =some (.cells cs t fr))(h':w.heap[l]? =some (.loop R)):k≠l:=by
 rintro rfl;rw [h]at h';cases h'
theorem qI{w:World}{k l:Nat}{cs:Array Value}{t:TypeId}{fr:Nat×Nat}{d:Option (List Deferred)}(h:w.heap[k]? =some (.cells cs t fr))(h':w.heap[l]? =some (.deferred d)):k≠l:=by
 rintro rfl;rw [h]at h';cases h'
theorem Row.apart{w w':World}{B:Nat}{e:TypeId}{size:Nat}{A:Option Addr}{n c:Nat}{xs:List Value}(h:Row w B e size A n c xs){l:Nat}(hk:Kept (· =l) w w')
 (hl: ∀cs t fr,w.heap[l]? ≠some (.cells cs t fr)):Row w' B e size A n c xs:=Row.aC h hk fun k hb e=>by
 subst e;obtain⟨_,cur,hc⟩:=Row.bC h hb;exact hl _ _ _ hc
abbrev pG(h:HT):List Value:= [.agg h.1]
section
variable{w:World}{K:Value->World->Prop}
theorem x5(p:Addr){A:Option Addr}{n c:Nat}{l:List HT}(hn:n<=1000000):
 mZ prog aF.id #[] #[.pointer (some p)] (l.map pG) (fun w=>HS w A n l/\w.cell? p=some (.slice A n c)):=by
 intro y I D w0 hI hD qQ h0 qf;refine aF.of ?_;obtain⟨CS,P6⟩:=qQ 0 w0 h0;have hlen:=CS.len;refine⟨A,n,c,P6,?_⟩;refine aF.b6 (I:=fun s w'=> ∃i:Nat,s=(i:Int)/\i<=n/\I i w') (μ:=fun s _=>((n:Int)-s).toNat) (s:=0) ⟨0,rfl,Nat.zero_le _,h0⟩ ?_;rintro s w' ⟨i,rfl,hi,hw⟩;refine Split.dec (fun jf=>?_) (fun gu=>?_)
 ·have dP:i<n:=by omega
  obtain⟨x,hx⟩: ∃x,l[i]? =some x:=⟨_,List.getElem?_eq_getElem (by omega)⟩;have hl:=(qQ i w' hw).1;refine hl.load (i:=(i:Int)) (by omega) hx ?_;intro w10;obtain⟨qP,hb,hk⟩:=fT (w:=w') (z:=(#[.int .u8 0,.int .u8 0,.int .u8 0,.int .u8 0,.int .u8 0,.int .u8 0,.int .u8 0,.int .u8 0,.int .u8 0,.int .u8 0,.int .u8 0,.int .u8 0,.int .u8 0,.int .u8 0,.int .u8 0,.int .u8 0,.int .u8 0,.int .u8 0,.int .u8 0,.int .u8 0,.int .u8 0,.int .u8 0,.int .u8 0,.int .u8 0,.int .u8 0,.int .u8 0,.int .u8 0,.int .u8 0,.int .u8 0,.int .u8 0,.int .u8 0,.int .u8 0]:Array Value)) (cs:=x.1) (t:=ag) (by rw [x.2.1];rfl);refine⟨⟨x.2.1,x.2.one,fun j hj=>qP j (by rw [x.2.1];exact hj)⟩,?_⟩;intro kN
  replace hb:kN.heap[w'.heap.size]? =some (.cells x.1 ag (0,0)):=hb
  replace hk:Kept Nil w' kN:=hk
  clear_value kN;refine⟨x.1,⟨x.2.1,Cells.bC hb⟩,?_⟩;refine(qf i (pG x) kN (by rw [List.getElem?_map,hx];rfl) (hI i w' kN hw hk)).mono ?_;rintro b lW ⟨ht,hf⟩;cases b with
  |true=>
   refine Split.no rfl ?_;rw [dE (n:=(i:Int)) (by omega) (by omega)];exact⟨(i:Int)+1,rfl,⟨i+1,rfl,dP,ht rfl⟩,by simp only;omega⟩
  |false=>
   refine Split.yes rfl ?_;exact Or.inr (hf rfl)
 ·rw [aS,aF.cX]
  have e:i=n:=by omega
  subst e;refine Or.inl ?_;rw [List.length_map,hlen];exact hw
theorem vG{gf:FuncId}{gH:Array Value}{xs:List HT}{fn:Func}(Ix:prog.funcs[gf]? =some fn)(hb:fn.body.isSome){ID:World->Prop}
 (hit:mZ prog gf #[] gH (xs.map pG) ID) (hp: ∀w',Kept Nil w w'->ID w') (Jx:xs.length<=1000000)
 (hK: ∀A c w',bO w' w.heap.size A xs.length c xs->Kept Nil w w'->K (.slice A xs.length c) w'):
 bn prog aL.id #[.slice none 0 0,.func (.func gf) #[] gH] w K:=by
 refine aL.of ?_;unfold aL.W;intro w3;have k3:Kept Nil w w3:=(Kept.refl Nil w).alloc _;have oo:w3.heap[w.heap.size]? =some (.cells #[.slice none 0 0] az (0,0)):=aJ w _;have AT:w.heap.size<w3.heap.size:=aQ oo;clear_value w3
 let ρ0:Env:= [(2,.pointer (some (⟨w.heap.size,0,none⟩:Addr))),(4,.slice none 0 0),(6,.func (.func gf) #[] gH)]
 let J:Nat->World->Prop:=fun i w'=> ∃A c,w'.heap[w.heap.size]? =some (.cells #[.slice A i c] az (0,0))/\bO w' w.heap.size A i c (xs.take i)/\Kept Nil w w'/\i<=xs.length/\ ∀k,bg A=some k->k≠w.heap.size
 refine lF (ρ:=ρ0) (ρ0:=ρ0) ng mix aL.k (t:=6) (ps:= #[7]) (by kernel_rfl) (by decide) rfl Ix hb (.inl rfl) (fun i v _ h=>h) rfl pG xs (fun _=>rfl) (by simp [gM]) hit J (fun _ _=>False) ?_ (fun _ _ _ _ _ h=>h.elim) (fun i w' h=>hp w' (let ⟨_,_,_,_,h,_⟩:=h;h)) ?_ ?_ ?_ (fun _ _ h=>h.elim) (fun _ _ _ h=>h.elim)
 ·rintro i w' lW R hl ⟨A,c,h1,h2,h3,h4,h5⟩ hk
  exact⟨A,c,hk.heap h1 (iY h1 hl.loop),Row.apart h2 hk (fun cs t fr h=>by rw [hl.loop]at h;cases h),h3.trans hk (fun k hk e=>by omega),h4,h5⟩
 ·intro R
  exact⟨none,0,iX (iX oo _) _,bO.nil _ _,(k3.alloc _).alloc _,Nat.zero_le _,fun k hk=>by cases hk⟩
 ·rintro i x w' R hx ⟨A,c,h1,h2,h3,h4,h5⟩ hl
  have dP:i<xs.length:=(List.getElem?_eq_some_iff.1 hx).1;have e7:jV ρ0 ((#[7]:Array Nat).toList.zip (pG x))= [(2,.pointer (some (⟨w.heap.size,0,none⟩:Addr))),(4,.slice none 0 0),(6,.func (.func gf) #[] gH),(7,.agg x.1)]:=rfl;rw [e7,aL.a1];unfold aL.A1;intro w8;obtain⟨qP,iC,iI⟩:=fT (w:=w') (z:=(#[.int .u8 0,.int .u8 0,.int .u8 0,.int .u8 0,.int .u8 0,.int .u8 0,.int .u8 0,.int .u8 0,.int .u8 0,.int .u8 0,.int .u8 0,.int .u8 0,.int .u8 0,.int .u8 0,.int .u8 0,.int .u8 0,.int .u8 0,.int .u8 0,.int .u8 0,.int .u8 0,.int .u8 0,.int .u8 0,.int .u8 0,.int .u8 0,.int .u8 0,.int .u8 0,.int .u8 0,.int .u8 0,.int .u8 0,.int .u8 0,.int .u8 0,.int .u8 0]:Array Value)) (cs:=x.1) (t:=ag) (by rw [x.2.1];rfl);refine⟨⟨x.2.1,x.2.one,fun j hj=>qP j (by rw [x.2.1];exact hj)⟩,?_⟩;intro tB
  replace iC:tB.heap[w'.heap.size]? =some (.cells x.1 ag (0,0)):=iC
  replace iI:Kept Nil w' tB:=iI
  clear_value tB;have JS:=hl.aC iI (fun h=>h) (fun h=>h);refine⟨JS,fun w2 R2 mD rh=>?_⟩;have Hm:=mD.heap iC (iY iC JS.loop);have h1b:=iI.heap h1 (fun h=>h);have C4:=mD.heap h1b (iY h1b JS.loop);have Bn:bO w2 w.heap.size A i c (xs.take i):=Row.apart (Row.aC h2 iI (fun _ _ h=>h)) mD (fun cs t fr h=>by rw [JS.loop]at h;cases h);have Vg:Kept Nil w w2:=(h3.trans iI (fun _ _ h=>h)).trans mD (fun k hk e=>by omega);have cI:w.heap.size<w2.heap.size:=aQ C4;rw [aL.y1];unfold aL.Y1;refine⟨A,i,c,by rw [ax C4];rfl,x.1,⟨x.2.1,Cells.bC Hm⟩,x.2.1,?_⟩;intro iz;have jS:Kept Nil w2 iz:=(Kept.refl _ _).alloc _;have jb:HS iz (some ⟨w2.heap.size,0,none⟩) 1 [x]:=by
   refine HS.one (t:=ag) (fr:=(0,0)) ?_;have e3:iz=w2.alloc (.cells x.1 ag):=by
    show w2.alloc (.cells (x.1.toList++ []).toArray ag)=_
    simp
   rw [e3];exact aJ w2 _
  clear_value iz;have Kn:bO iz w.heap.size A i c (xs.take i):=Row.aC Bn jS (fun _ _ h=>h);have abO:=jS.heap C4 (fun h=>h);have ahG:=jS.size;obtain⟨A',c',pU,hr,jK,hg,vA⟩:=cD (cx:=1) az Kn jb (by omega) (by omega);have Hg:Kept (fun k=>bg A=some k) iz pU:=Kept.grown (Kept.refl _ _) hg (fun k hk _=>hk);have Ko:=Hg.heap abO (fun h=>h5 _ h rfl);have Om:Live (w3.heap.size+1) w3.heap.size R2 pU:=by
   have On:=rh.aC jS (fun h=>h) (fun h=>h);refine On.aC Hg ?_ ?_
   ·intro h
    obtain⟨_,cur,hc⟩:=Row.bC Kn h;exact iY hc On.loop rfl
   ·intro h
    obtain⟨_,cur,hc⟩:=Row.bC Kn h;exact qI hc On.mark rfl
  have AM:Kept Nil w pU:=(Vg.trans jS (fun _ _ h=>h)).trans Hg (fun k hk e=>by
   obtain⟨h,_⟩:=Row.bC Kn e;omega)
  refine⟨A',_,c',pU,hr,dM Ko (by simp),?_⟩;intro nQ;have sA:Kept (· =w.heap.size) pU nQ:=Kept.setCell (S:=fun k=>k=w.heap.size) (Kept.refl _ pU) (p:=⟨w.heap.size,0,none⟩) (fun _=>rfl) _;have OW:nQ.heap[w.heap.size]? =some (.cells #[.slice A' (i+1) c'] az (0,0)):=cU Ko 0 _;clear_value nQ;have Ez: ∀k,bg A'=some k->k≠w.heap.size:=fun k hk=>by
   rcases vA k hk with h|h
   ·exact h5 k h
   ·omega
  refine⟨Om.aC sA (iY Ko Om.loop).symm (qI Ko Om.mark).symm,A',c',OW,?_,AM.trans sA (fun k hk e=>by omega),dP,Ez⟩;rw [List.take_add_one,hx];exact Row.aC jK sA Ez
 ·rintro w' R ⟨A,c,h1,h2,h3,h4,h5⟩ hl
  have e7:gI ρ0 w3.heap.size= [(2,.pointer (some (⟨w.heap.size,0,none⟩:Addr))),(4,.slice none 0 0),(6,.func (.func gf) #[] gH),(4294967296,.agg #[.pointer (some ⟨w3.heap.size,0,none⟩)])]:=rfl;rw [e7,aL.iT];refine⟨A,xs.length,c,by rw [ax h1];rfl,⟨hl.mark,trivial⟩,?_⟩;have kp:Kept (· =w3.heap.size) w' (w'.putObj w3.heap.size (.deferred none)):=Kept.putAt _ _ _;refine hK A c _ ?_ (h3.trans kp (fun k hk e=>by omega));have:=Row.apart h2 kp (fun cs t fr h=>by rw [hl.mark]at h;cases h)
  rwa [List.take_of_length_le (Nat.le_refl _)]at this
theorem BC{gf:FuncId}{gH:Array Value}{xs:List HT}{fn:Func}(Ix:prog.funcs[gf]? =some fn)(hb:fn.body.isSome){ID:World->Prop}
 (hit:mZ prog gf #[] gH (xs.map pG) ID) (hp: ∀w',Kept Nil w w'->ID w') (Jx:xs.length<=1000000)
 (hK: ∀A c w',bO w' w.heap.size A xs.length c xs->Kept Nil w w'->K (.slice A xs.length c) w'):
 bn prog cK.id #[.func (.func gf) #[] gH] w K:=by
 refine cK.of (vG Ix hb hit hp Jx fun A c w' h1 h2=>⟨_,_,_,rfl,hK A c w' h1 h2⟩)
end
end Go.Proofs.YtnboahlopghcjaaGreatDoor
namespace Go.Proofs.YtnboahlopghcjaaGreatDoor
open Go.Proofs.Tryz
open Go Go.bV Go.RowKit Go.Sort
instance:Inhabited HT:=⟨⟨Array.replicate 32 (.int .u8 0),by simp,fun v hv=>⟨0,by simpa using hv,by omega,by omega⟩⟩⟩
abbrev mz(h:HT):List Value:=h.1.toList
theorem zn(h:HT):(mz h).length=32:=by have:=h.2.1;simpa using this
theorem uM(d:Array HT):(flatK mz 32 d).toList=dd d.toList:=by
 apply List.ext_getElem?;intro t;by_cases ht:t<d.size*32
 ·have hi:t/32<d.size:=by omega
  have hx:d.toList[t/32]? =some d[t/32]:=by rw [Array.getElem?_toList,Array.getElem?_eq_getElem hi]
  have hs:t%32<d[t/32].1.size:=by rw [d[t/32].2.1];omega
  have h1:=jZ hx (Array.getElem?_eq_getElem hs);rw [show t/32*32+t%32=t by omega]at h1;rw [h1];have h2:t<(flatK mz 32 d).size:=by rw [size_flatK];exact ht
  have h3:=get_flatK mz 32 d t ht;rw [getElem!_pos _ t h2]at h3;rw [Array.getElem?_toList,Array.getElem?_eq_getElem h2,h3,getElem!_pos d _ hi];rw [getElem!_pos _ _ (by rw [zn];omega)];simp [mz]
 ·rw [List.getElem?_eq_none (by simp;omega),List.getElem?_eq_none (by rw [eF];simp;omega)]
theorem FV{F cur:Array Value}{k:Nat}(hk:F.size=k)(h:k<=cur.size):(putCells id 0 F cur).toList.take k=F.toList:=by
 apply List.ext_getElem?;intro i;rw [List.getElem?_take];split
 ·rename_i hi
  have h1:i<cur.size:=by omega
  have h2:i<F.size:=by omega
  rw [Array.getElem?_toList,Array.getElem?_toList,putCells,Array.getElem?_mapIdx,Array.getElem?_eq_getElem h1,Array.getElem?_eq_getElem h2];simp [h2]
 ·rw [List.getElem?_eq_none (by simp;omega)]
theorem vo{w:World}{b:Nat}{f:Array Value->Array Value}{cur:Array Value}{t:TypeId}{fr:Nat×Nat}(h:w.heap[b]? =some (.cells cur t fr)):(mapBlock w b f).heap[b]? =some (.cells (f cur) t fr):=by
 simp [mapBlock,Array.getElem?_modify,h,onCells]
theorem vn(w:World)(b:Nat)(f:Array Value->Array Value):Kept (· =b) w (mapBlock w b f):=
 ⟨rfl,rfl,rfl,by simp [mapBlock],fun k _ hn=>by simp [mapBlock,Array.getElem?_modify,Ne.symm hn]⟩
theorem EA(w:World)(os:Array Obj):Kept Nil w (grow w os):=
 ⟨rfl,rfl,rfl,by simp,fun k hk _=>heap_grow_old w os hk⟩
theorem BP(w:World)(m:Nat):Kept Nil w (Sort.ahead w m):=⟨rfl,rfl,rfl,Nat.le_refl _,fun _ _ _=>rfl⟩
section
variable{w:World}{B n c b:Nat}{l:List HT}
theorem vi(row:bO w B (some ⟨b,0,none⟩) n c l)(m:Nat)(dk:Array HT)(os:Array Obj)(hd:dk.size=n):
 bO (sortWorldK mz 32 w b 0 m dk os) B (some ⟨b,0,none⟩) n c dk.toList/\Kept (· =b) w (sortWorldK mz 32 w b 0 m dk os):=by
 have hka:=BP w m;have k1:=vn (Sort.ahead w m) b (putCells id 0 (flatK mz 32 dk));have kk:=((hka.mono (S':=fun k=>k=b) (fun _ _ h=>h.elim)).trans k1 (fun _ _ h=>h)).trans (EA _ os) (fun _ _ h=>h.elim);refine⟨?_,?_⟩
 ·rcases Row.own row with⟨h,_⟩|⟨b',cur,hA,hB,hg,Ep,nJ,mE,xI⟩
  ·cases h
  ·cases hA
   refine⟨by rw [eF,Array.length_toList,hd],.inr ⟨b,c,putCells id 0 (flatK mz 32 dk) cur,rfl,hB,?_,Ep,nJ,by simp [putCells,mE],?_⟩⟩
   ·have h1:(mapBlock (Sort.ahead w m) b (putCells id 0 (flatK mz 32 dk))).heap[b]? =some (.cells (putCells id 0 (flatK mz 32 dk) cur) ag (0,0)):=vo hg
    exact(heap_grow_old _ os (aQ h1)).trans h1
   ·rw [<-uM]
    refine FV (by rw [size_flatK,hd]) ?_;rw [mE];exact Nat.mul_le_mul_right _ Ep
 ·exact kk
theorem Bf(row:bO w B (some ⟨b,0,none⟩) n c l):HoldsK mz 32 w b 0 l.toArray:=by
 intro j hj;rw [size_flatK]at hj;have uy:j<l.length*32:=by simpa using hj
 rw [Nat.zero_add];have hlen:=Row.len row;have hx:(flatK mz 32 l.toArray).toList[j]? =(dd l)[j]? :=by rw [uM]
 have hjs:j<(flatK mz 32 l.toArray).size:=by rw [size_flatK];exact hj
 rw [Array.getElem?_toList,Array.getElem?_eq_getElem hjs]at hx;have hc:=Row.cell row hx.symm;refine⟨?_,?_⟩
 ·rw [hc,getElem!_pos _ j hjs];rfl
 ·exact(Row.wr row (j:=j) (by rw [eF];exact uy)).2
theorem oP(x y:HT):ltOf kz x y=cI x y:=by
 unfold ltOf;cases h:cI x y
 ·exact decide_eq_false fun h'=>by rw [qU.1 h']at h;cases h
 ·exact decide_eq_true (qU.2 h)
theorem le_trans'{x y z:HT}(h:cI y x=false)(h':cI z y=false):cI z x=false:=by
 cases Sa:cI z x
 ·rfl
 ·exfalso
  by_cases e:y=z
  ·subst e;rw [h]at Sa;cases Sa
  ·have PW:=lt_of_le_ne h' e
   have:=jA PW Sa;rw [h]at this;cases this
theorem XB:SWO (ltOf kz) where
 irrefl x:=by rw [oP];exact gL x
 trans x y z h h':=by rw [oP]at*;exact jA h h'
 ntrans x y z h h':=by
  rw [oP]at*;exact le_trans' h' h
theorem IQ{A:Option Addr}{K:Value->World->Prop}(row:bO w B A n c l)(hn:n<=1000000)
 (hK: ∀l' w',LE l'->(∀x,x∈l'↔x∈l)->bO w' B A n c l'->Kept (fun k=>bg A=some k) w w'->K (.tuple #[]) w'):
 bn prog iE.id #[.slice A n c,.func (.func du.id) #[] #[]] w K:=by
 have hlen:=row.len;by_cases h0:n=0
 ·subst h0
  have h:=AnyF.slices_SortFunc_none Tryz.vQ A c (.func (.func du.id) #[] #[]) w;refine Calls.mono h ?_;rintro e w' ⟨rfl,rfl⟩;have:l= []:=List.eq_nil_of_length_eq_zero hlen;subst this;exact⟨_,rfl,hK [] _ List.Pairwise.nil (fun _=>Iff.rfl) row (Kept.refl _ _)⟩
 ·obtain⟨b,rfl⟩:=Row.some row (by omega)
  have hblk:b<w.heap.size:=by
   obtain⟨_,cur,hc⟩:=Row.bC row (k:=b) rfl;exact aQ hc
  have kZ:l.toArray.size=n:=by simpa using hlen
  have eg: ∀args w,(callFunc du.id args).run prog w=.ok (.enter du.id args) w:=enters_of du.at_ (by kernel_rfl) rfl;have hk:nx prog ag=.agg 32:=by kernel_rfl
  obtain⟨e32,ha⟩:=qM hk;obtain⟨i,hi⟩:=Go.bV.info_of_underlying (P:=prog) (t:=ag) (by kernel_rfl);have aaL:CmpLays prog du.id #[] mz 32 kz b 0 l.toArray.size w:=fun m os dk _ x y=>by
   have e:(#[.agg (mz x).toArray,.agg (mz y).toArray]++ #[]:Array Value)= #[.agg x.1,.agg y.1]:=by simp [mz]
   rw [e];have h:=o0 (w:=sortWorldK mz 32 w b 0 m dk os) x y (K:=fun v w'=>v=.int .i64 (kz x y)/\w'=(((sortWorldK mz 32 w b 0 m dk os).alloc (.cells x.1 ag)).alloc (.cells y.1 ag)).drew) ⟨rfl,rfl⟩;refine Calls.mono h ?_;rintro e w' ⟨v,rfl,rfl,rfl⟩;refine⟨rfl,1,#[.cells x.1 ag,.cells y.1 ag],?_⟩;rw [alloc_eq_grow,alloc_eq_grow,grow_grow,drew_grow];rfl
  have h:=AnyQ.slices_SortFunc_total Tryz.vQ 32 ha (fun w=>by rw [e32];exact Go.bV.run_sizeOf hi w) mz zn (fun x=>x.2.one) kz XB du.id #[] b 0 c l.toArray w eg aaL (Bf row) hblk (by omega)
   (fun x y h1 h2=>by rw [oP]at h1 h2;exact pv h1 h2)
  rw [kZ]at h;refine Calls.mono h ?_;rintro e w' ⟨rfl,m,os,rfl⟩;have hp:=List.mergeSort_perm l.toArray.toList (fun x y=> !(ltOf kz) y x);have JP:(l.toArray.toList.mergeSort fun x y=> !(ltOf kz) y x).toArray.size=n:=by
   have:=hp.length_eq;simp only [List.size_toArray];rw [this];simpa using hlen
  obtain⟨h1,h2⟩:=vi row m _ os JP;refine⟨_,rfl,hK _ _ ?_ (fun x=>?_) h1 (h2.mono fun k _ e=>by rw [e];rfl)⟩
  ·have hs:=List.pairwise_mergeSort (le:=fun x y=> !(ltOf kz) y x) (fun a b c h h'=>by
    rw [oP]at*;simp only [Bool.not_eq_true']at*;exact le_trans' h h') (fun a b=>by
    rw [oP,oP];cases lL:cI b a
    ·rfl
    ·rw [rQ lL];rfl) l.toArray.toList
   refine List.Pairwise.imp ?_ hs;intro a b lL;rw [oP]at lL;simpa using lL
  ·simp
end
end Go.Proofs.YtnboahlopghcjaaGreatDoor
namespace Go.Proofs.YtnboahlopghcjaaGreatDoor
open Go.Proofs.Tryz
open Go Go.bV Go.RowKit
theorem Bj{l:List HT}{k:Nat}(hk:k<l.length)(x:HT):dd (l.set k x)=gz (dd l) (k*32) x.1.toList:=by
 have h1:l=l.take k++l[k]::l.drop (k+1):=by rw [<-List.drop_eq_getElem_cons hk,List.take_append_drop]
 have e1:(dd (l.take k)).length=k*32:=by rw [eF,List.length_take];omega
 have hx:=x.2.1;have hl:=l[k].2.1;have hs:l.set k x=l.take k++x::l.drop (k+1):=List.set_eq_take_append_cons_drop .. |>.trans (if_pos hk)
 rw [hs]
 conv=>rhs;rw [h1]
 rw [lK,lK,ko,ko];generalize dd (l.take k)=p at e1;generalize dd (l.drop (k+1))=r;have eq:l[k].1.toList.length=32:=by simpa using hl
 have ev:x.1.toList.length=32:=by simpa using hx
 generalize l[k].1.toList=q at eq;generalize x.1.toList=v at ev;unfold gz;rw [List.take_left' e1,ev,show p++(q++r)=(p++q)++r by simp,List.drop_left' (by rw [List.length_append,e1,eq])];simp
theorem bO.setAt{w:World}{B n c b:Nat}{l:List HT}(row:bO w B (some ⟨b,0,none⟩) n c l){k:Nat}(hk:k<n)(x:HT):
 bO (setCells w ⟨b,k*32,none⟩ x.1.toList 0) B (some ⟨b,0,none⟩) n c (l.set k x):=by
 have hlen:=row.len;have hx:=x.2.1;have:=qv x.1.toList (dd l) w (k*32) 0 row (by rw [eF];simp;omega);rw [Nat.add_zero]at this;rw [<-Bj (by omega)]at this;exact this
theorem bO.Mm{w:World}{B n c b:Nat}{l:List HT}(row:bO w B (some ⟨b,0,none⟩) n c l){k:Nat}(hk:k<n)(j:Nat)(hj:j<32):Wr w ((⟨b,k*32,none⟩:Addr).add j):=by
 rw [ba];refine Row.wr row ?_;rw [eF,row.len];omega
theorem bO.cap{w:World}{B:Nat}{A:Option Addr}{n c:Nat}{l:List HT}(row:bO w B A n c l):n<=c:=by
 rcases Row.own row with⟨_,h1,h2,_⟩|⟨_,_,_,_,_,h1,_⟩<;>omega
theorem bO.cut{w w':World}{B n c b:Nat}{l:List HT}(row:bO w B (some ⟨b,0,none⟩) n c l){k:Nat}(hk:k<=n)(vs:List Value)(hv:vs.length=(n-k)*32)(hw:w'=setCells w ⟨b,k*32,none⟩ vs 0):
 bO w' B (some ⟨b,0,none⟩) k c (l.take k):=by
 subst hw;have hlen:=row.len;rcases Row.own row with⟨h,_⟩|⟨b',cur,hA,hB,hg,Ep,nJ,mE,xI⟩
 ·cases h
 ·cases hA
  have hle:n*32<=c*32:=Nat.mul_le_mul_right _ Ep;have kZ:k*32+0+vs.length<=cur.size:=by omega
  have h1:=jI vs cur w ag (k*32) 0 hg kZ;refine⟨by rw [eF,List.length_take];omega,.inr ⟨b,c,_,rfl,hB,h1,by omega,nJ,?_,?_⟩⟩
  ·have:=ly (xs:=cur.toList) (k:=k*32+0) (vs:=vs) (by simpa using kZ)
   rw [List.size_toArray,this];simpa using mE
  ·have e1:(dd (l.take k)).length=k*32:=by rw [eF,List.length_take];omega
   have e2:(dd l).take (k*32)=dd (l.take k):=by
    conv=>lhs;rw [<-List.take_append_drop k l,lK]
    rw [<-e1,List.take_left'];rfl
   rw [<-e2,<-xI,List.take_take,Nat.min_eq_left (by omega)];unfold gz;simp only [Nat.add_zero];rw [List.append_assoc,List.take_append_of_le_length (by simp;omega),List.take_take,Nat.min_self]
def BX(P:Program)(e:TypeId):Bool:=
 match P.info? e with
 |some i=>match i.zero with
  |some z=>z.cells.toList.all fun v=>v.oneCell'
  |none=>false
 |none=>false
theorem tN{w:World}{B n c b:Nat}{l:List HT}(row:bO w B (some ⟨b,0,none⟩) n c l){k:Nat}(hk:k<=n)(ty:Nat){A:Option Addr}{cx:Nat}(hA:k<n->A=some ⟨b,k*32,none⟩):
 ∃w',(Builtin.clear_ #[az] ty #[.slice A (n-k) cx]).run prog w=.ok (.tuple #[]) w'/\bO w' B (some ⟨b,0,none⟩) k c (l.take k)/\Kept (· =b) w w':=by
 have hlen:=row.len;by_cases vw:k<n
 ·obtain⟨i,z,hi,hz,hs,_,CJ⟩:=oy.inf
  have JJ:BX prog ag=true:=by kernel_rfl
  unfold BX at JJ;rw [hi]at JJ;simp only [hz,List.all_eq_true]at JJ;rw [hA vw];obtain⟨m,hm⟩: ∃m,n-k=m+1:=⟨n-k-1,by omega⟩;have Wn:(Builtin.zeroCells z.cells (n-k)).toList.length=(n-k)*32:=by simp [Builtin.zeroCells,CJ]
  have om:=ij (P:=prog) ⟨b,k*32,none⟩ (Builtin.zeroCells z.cells (n-k)).toList 0 w (fun v hv=>by
   simp only [Builtin.zeroCells,Array.toList_map,List.mem_map]at hv;obtain⟨t,ht,rfl⟩:=hv;have:t%z.cells.size<z.cells.size:=Nat.mod_lt _ (by omega);rw [getElem!_pos z.cells _ this];exact JJ _ (by simp)) (fun j hj=>by
   rw [Nat.zero_add,ba];refine Row.wr row ?_;rw [eF];omega)
  refine⟨_,?_,row.cut hk _ Wn rfl,fW _ _ _ _⟩;simp only [Builtin.clear_,hm];rw [hm]at om;simp [run_underlying oy.og,zeroValue,typeInfo,hi,hz,om]
 ·have:n=k:=by omega
  subst this;refine⟨w,?_,by rw [List.take_of_length_le (by omega)];exact row,Kept.refl _ _⟩;rw [Nat.sub_self];cases A<;>simp [Builtin.clear_,run_underlying oy.og]
end Go.Proofs.YtnboahlopghcjaaGreatDoor
namespace Go.Proofs.YtnboahlopghcjaaGreatDoor
open Go.Proofs.Tryz
open Go Go.bV Go.RowKit
theorem Dx: ∀ {l:List HT},l.length<2->df l=l
 | [],_=>rfl
 | [_],_=>rfl
 |_::_::_,h=>by simp only [List.length_cons]at h;omega
section
variable{w:World}{B n c:Nat}{A:Option Addr}{l:List HT}{K:Value->World->Prop}
theorem BB(row:bO w B A n c l)(hle:LE l)(hn:n<=400000)
 (hK: ∀A' c' w',bO w' B A' (df l).length c' (df l)->(∀k,bg A'=some k->bg A=some k)->Kept (fun k=>bg A=some k) w w'->K (.slice A' (df l).length c') w'):
 bn prog ah.id #[.slice A n c] w K:=by
 have hlen:=row.len;refine ah.of ?_;refine Split.dec (fun h2=>?_) (fun h2=>?_)
 ·have e:df l=l:=Dx (by omega)
  have:=hK A c w (by rw [e,hlen];exact row) (fun k h=>h) (Kept.refl _ _);rw [e,hlen]at this;exact this
 obtain⟨b,rfl⟩:=Row.some row (by omega);have Hj:=row.cap;refine ah.b6 (I:=fun s w'=> ∃k:Nat,s=(none,0,0,(k:Int))/\1<=k/\k<=n/\SS (l.take k)/\Kept Nil w w') (μ:=fun s _=>((n:Int)-s.2.2.2).toNat) (s:=(none,0,0,1))
  ⟨1,rfl,Nat.le_refl _,by omega,?_,Kept.refl _ _⟩ ?_
 ·cases l with
  |nil=>exact List.Pairwise.nil
  |cons x l=>simp [SS]
 rintro s w' ⟨k,rfl,Iu,vw,tq,kw⟩;refine Split.dec (fun jf=>?_) (fun gu=>?_)
 ·simp only at jf
  have zW:k<n:=by omega
  obtain⟨x,hx⟩: ∃x,l[k]? =some x:=⟨_,List.getElem?_eq_getElem (by omega)⟩;obtain⟨y,hy⟩: ∃y,l[k-1]? =some y:=⟨_,List.getElem?_eq_getElem (by omega)⟩;intro w5;have k5:Kept Nil w w5:=kw.drew;clear_value w5;have kO:bO w5 B (some ⟨b,0,none⟩) n c l:=Row.aC row k5 (fun _ _ h=>h);simp only;rw [wrapM (n:=(k:Int)) (by omega) (by omega)];have nU:cI x y=false:=hle.get (by omega) hy hx;refine kO.hs.load (i:=(k:Int)) (by omega) hx (kO.hs.load (i:=(k:Int)-1) (by omega) (by rw [show((k:Int)-1).toNat=k-1 by omega];exact hy) ⟨⟨x.2.ints,y.2.ints⟩,?_⟩);rw [dq];refine Split.dec (fun he=>?_) (fun he=>?_)
  ·refine⟨⟨by omega,by omega⟩,?_⟩
   rw [Int.toNat_natCast];rw [if_neg (show ¬c=k by omega)];simp only [Option.map_some,ba,Nat.zero_add];refine ah.gD (I:=fun s w'=> ∃(p j:Nat) (l':List HT),s=((p:Int),(j:Int))/\1<=j/\k<=p/\p<k+j/\k+j<=n/\bO w' B (some ⟨b,0,none⟩) n c l'/\l'.drop (k+j-1)=l.drop (k+j-1)/\SS (l'.take p)/\(∀z,z∈l'.take p↔z∈l.take (k+j))/\Kept (· =b) w w')
    (μ:=fun s _=>((n:Int)-s.2).toNat) (s:=((k:Int),1)) ⟨k,1,l,rfl,Nat.le_refl _,Nat.le_refl _,by omega,by omega,kO,rfl,tq,fun z=>?_,k5.mono fun _ _ h=>h.elim⟩ ?_
   ·rw [bH hx]
    constructor
    ·exact .inl
    ·rintro(h|rfl)
     ·exact h
     ·rw [he]
      have:=bH (z:=y) hy;rw [show k-1+1=k by omega]at this;exact this.2 (.inr rfl)
   rintro s w1 ⟨p,j,l',rfl,hj1,TE,hpj,hjn,kW,Ub,xe,JQ,k1⟩;have He:=kW.len;refine Split.dec (fun Ow=>?_) (fun OE=>?_)
   ·simp only at Ow
    have ri:k+j<n:=by omega
    obtain⟨u,hu⟩: ∃u,l[k+j]? =some u:=⟨_,List.getElem?_eq_getElem (by omega)⟩;obtain⟨v,hv⟩: ∃v,l[k+j-1]? =some v:=⟨_,List.getElem?_eq_getElem (by omega)⟩;have GK:l'[k+j]? =some u:=by
     have h:=congrArg (fun m:List HT=>m[1]?) Ub;simp only [List.getElem?_drop]at h;rw [show k+j-1+1=k+j by omega]at h;rw [h,hu]
    have Y5:l'[k+j-1]? =some v:=by
     have h:=congrArg (fun m:List HT=>m[0]?) Ub;simp only [List.getElem?_drop,Nat.add_zero]at h;rw [h,hv]
    intro pU;have AM:Kept (· =b) w pU:=k1.drew;have jK:bO pU B (some ⟨b,0,none⟩) n c l':=Row.aC kW ((Kept.refl Nil w1).drew) (fun _ _ h=>h);clear_value pU;have uw:HS pU (some ⟨b,k*32,none⟩) (n-k) (l'.drop k):=by
     have h:=jK.hs.drop (c:=c) Hj (k:=k) (by omega);rw [if_neg (show ¬c=k by omega)]at h;simpa [ba]using h
    have hsu:(l'.drop k)[(j:Int).toNat]? =some u:=by rw [Int.toNat_natCast,List.getElem?_drop];exact GK
    have NO:(l'.drop k)[((j:Int)-1).toNat]? =some v:=by
     rw [show((j:Int)-1).toNat=j-1 by omega,List.getElem?_drop,show k+(j-1)=k+j-1 by omega];exact Y5
    simp-zeta only;rw [wrapM (n:=(j:Int)) (by omega) (by omega)];have huv:cI u v=false:=hle.get (by omega) hv hu;refine uw.load (i:=(j:Int)) (by omega) hsu (uw.load (i:=(j:Int)-1) (by omega) NO ⟨⟨u.2.ints,v.2.ints⟩,?_⟩);rw [dq,dE (n:=(j:Int)) (by omega) (by omega)];have hmu: ∀z,z∈l.take (k+(j+1))↔z∈l'.take p\/z=u:=fun z=>by
     rw [show k+(j+1)=k+j+1 by omega,bH hu,JQ z]
    by_cases heq:u=v
    ·refine Split.no (by rw [decide_eq_true heq];rfl) ?_
     refine⟨((p:Int),(j:Int)+1),rfl,⟨p,j+1,l',rfl,by omega,TE,by omega,by omega,jK,?_,xe,fun z=>?_,AM⟩,by simp only;omega⟩
     ·have h:=congrArg (fun m:List HT=>m.drop 1) Ub
      simp only [List.drop_drop]at h;rw [show k+(j+1)-1=k+j-1+1 by omega];exact h
     ·rw [hmu z]
      constructor
      ·exact .inl
      ·rintro(h|rfl)
       ·exact h
       ·refine(JQ _).2 ?_
        rw [heq];exact List.mem_of_getElem? (i:=k+j-1) (by rw [List.getElem?_take,if_pos (by omega)];exact hv)
    ·refine Split.yes (by rw [decide_eq_false heq];rfl) ?_
     refine uw.load (i:=(j:Int)) (by omega) hsu ⟨⟨by omega,by omega⟩,⟨u.2.1,u.2.one,fun i hi=>?_⟩,?_⟩
     ·rw [Int.toNat_natCast,ba,Nat.zero_add]
      exact jK.Mm (by omega) i hi
     intro E9;have Se:E9=setCells pU ⟨b,p*32,none⟩ u.1.toList 0:=by
      show setCells pU ((⟨b,0,none⟩:Addr).add ((p:Int).toNat*32)) u.1.toList 0=_
      rw [Int.toNat_natCast,ba,Nat.zero_add]
     have QW:bO E9 B (some ⟨b,0,none⟩) n c (l'.set p u):=by rw [Se];exact jK.setAt (by omega) u
     have Gs:Kept (· =b) w E9:=by rw [Se];exact AM.trans (fW _ _ _ _) (fun _ _ h=>h)
     clear_value E9;rw [dE (n:=(p:Int)) (by omega) (by omega)];have xI:(l'.set p u).take (p+1)=l'.take p++ [u]:=by
      rw [List.take_add_one,List.take_set_of_le (Nat.le_refl p),List.getElem?_set_self (by omega)];rfl
     refine⟨((p:Int)+1,(j:Int)+1),rfl,⟨p+1,j+1,l'.set p u,rfl,by omega,by omega,by omega,by omega,QW,?_,?_,fun z=>?_,Gs⟩,by simp only;omega⟩
     ·have h:=congrArg (fun m:List HT=>m.drop 1) Ub
      simp only [List.drop_drop]at h;rw [List.drop_set,if_pos (by omega),show k+(j+1)-1=k+j-1+1 by omega];exact h
     ·rw [xI]
      refine De xe fun z hz=>?_;obtain⟨i,hi⟩:=List.mem_iff_getElem?.1 ((JQ z).1 hz);rw [List.getElem?_take]at hi;split at hi
      ·rename_i hik
       have hvu:cI v u=true:=lt_of_le_ne huv (fun e=>heq e.symm);by_cases e:i=k+j-1
       ·subst e;rw [hv]at hi;cases hi;exact hvu
       ·exact sx (hle.get (by omega) hi hv) hvu
      ·cases hi
     ·rw [xI,hmu z]
      simp
   ·simp only at OE
    have hj:k+j=n:=by omega
    rw [aS,ah.jC];unfold ah.iu;refine⟨⟨by omega,by omega⟩,?_⟩;rw [Int.toNat_natCast];obtain⟨w2,hr,fO,k2⟩:=tN kW (k:=p) (by omega) 0 (A:=if c=p then some ⟨b,0,none⟩else(some ⟨b,0,none⟩:Option Addr).map (·.add (p*32))) (cx:=c-p) (fun hp=>by
     rw [if_neg (by omega)];simp [ba])
    refine⟨_,w2,hr,⟨by omega,by omega⟩,?_⟩;have e:l'.take p=df l:=wI xe fun z=>by rw [JQ z,hj,List.take_of_length_le (by omega)]
    have el:p=(df l).length:=by
     have h:=fO.len;rw [e]at h;exact h.symm
    have e0:(if c=0 then(some ⟨b,0,none⟩:Option Addr)else(some ⟨b,0,none⟩:Option Addr).map (·.add (0*32)))=some ⟨b,0,none⟩:=by
     rw [if_neg (by omega)];simp [add_zero]
    rw [e0,Nat.sub_zero,Nat.sub_zero];rw [e,el]at fO;have:=hK (some ⟨b,0,none⟩) c w2 fO (fun k h=>h) ((k1.trans k2 (fun _ _ h=>h)).mono fun i _ h=>by rw [h];rfl);rw [<-el]at this;exact this
  ·rw [dE (n:=(k:Int)) (by omega) (by omega)]
   refine⟨(none,0,0,(k:Int)+1),rfl,⟨k+1,rfl,by omega,by omega,?_,k5⟩,by simp only;omega⟩;rw [List.take_add_one,hx];refine De tq fun z hz=>?_;have CK:cI y x=true:=lt_of_le_ne nU (fun e=>he e.symm);obtain⟨i,hi⟩:=List.mem_iff_getElem?.1 hz;rw [List.getElem?_take]at hi;split at hi
   ·by_cases e:i=k-1
    ·subst e;rw [hy]at hi;cases hi;exact CK
    ·exact sx (hle.get (by omega) hi hy) CK
   ·cases hi
 ·simp only at gu
  have e:k=n:=by omega
  subst e;rw [aS,ah.cX];rw [List.take_of_length_le (by omega)]at tq;have e:df l=l:=FH tq;have:=hK (some ⟨b,0,none⟩) c w' (by rw [e,hlen];exact Row.aC row kw (fun _ _ h=>h)) (fun k h=>h) (kw.mono fun _ _ h=>h.elim);rw [e,hlen]at this;exact this
theorem gN(hl:HS w A n l)(hn:n<=400000)
 (hK: ∀A' c' w',bO w' w.heap.size A' (df l).length c' (df l)->Kept Nil w w'->K (.slice A' (df l).length c') w'):
 bn prog iO.id #[.slice A n c] w K:=by
 have hlen:=hl.len;refine iO.of ?_;refine di.of ?_;unfold di.W;intro w2;have k2:Kept Nil w w2:=(Kept.refl _ _).alloc _;have la:w2.heap[w.heap.size]? =some (.cells #[.slice A n c] az (0,0)):=aJ w _;clear_value w2;refine⟨_,rfl,?_⟩;refine dg.of ?_;refine BC (xs:=l) aF.at_ (by rfl) (x5 (l:=l) ⟨w.heap.size,0,none⟩ (A:=A) (n:=n) (c:=c) (by omega)) (fun w' hk=>⟨(hl.same k2).same hk,by rw [ax (hk.heap la (fun h=>h))];rfl⟩) (by omega) ?_;intro A4 c4 w4 jJ k4;refine⟨A4,_,c4,rfl,?_⟩;refine IQ jJ (by omega) fun l5 w5 hle gZ kO k5=>⟨rfl,?_⟩;refine⟨A4,_,c4,rfl,?_⟩;refine BB kO hle (by omega) fun A6 c6 w6 Ao oT k6=>⟨A6,_,c6,rfl,?_⟩;have e:df l5=df l:=wJ gZ;rw [e]at Ao⊢;have Vc: ∀k,bg A4=some k->w.heap.size<=k:=fun k hk=>Nat.le_trans k2.size (Row.bC jJ hk).1;refine hK A6 c6 w6 (Row.base Ao fun k hk=>Vc k (oT k hk)) ?_;exact((k2.trans k4 (fun _ _ h=>h)).trans k5 (fun k hk h=>absurd (Vc k h) (by omega))).trans k6 (fun k hk h=>absurd (Vc k h) (by omega))
end
end Go.Proofs.YtnboahlopghcjaaGreatDoor
namespace Go.Proofs.YtnboahlopghcjaaGreatDoor
open Go.Proofs.Tryz
open Go Go.bV Go.RowKit
theorem jm{x:Nat}(h:x<18446744073709551616):IntKind.u64.wrap (x:Int)=(x:Int):=by
 simp only [IntKind.wrap,IntKind.bits,IntKind.signed];simp;omega
theorem orU{x y:Nat}(hx:x<18446744073709551616)(hy:y<18446744073709551616):
 IntKind.u64.wrap ((BitVec.ofInt 64 (x:Int)|||BitVec.ofInt 64 (y:Int)).toNat:Int)=((x|||y:Nat):Int):=by
 have h:(BitVec.ofInt 64 (x:Int)|||BitVec.ofInt 64 (y:Int)).toNat=x|||y:=by
  rw [BitVec.ofInt_natCast,BitVec.ofInt_natCast,BitVec.toNat_or,BitVec.toNat_ofNat,BitVec.toNat_ofNat,Nat.mod_eq_of_lt (by omega),Nat.mod_eq_of_lt (by omega)]
 rw [h];exact jm (Nat.or_lt_two_pow (n:=64) hx hy)
theorem ab8{x y:Nat}(hx:x<18446744073709551616)(hy:y<18446744073709551616):
 IntKind.u64.wrap ((BitVec.ofInt 64 (x:Int)&&& BitVec.ofInt 64 (y:Int)).toNat:Int)=((x&&& y:Nat):Int):=by
 have h:(BitVec.ofInt 64 (x:Int)&&& BitVec.ofInt 64 (y:Int)).toNat=x&&& y:=by
  rw [BitVec.ofInt_natCast,BitVec.ofInt_natCast,BitVec.toNat_and,BitVec.toNat_ofNat,BitVec.toNat_ofNat,Nat.mod_eq_of_lt (by omega),Nat.mod_eq_of_lt (by omega)]
 rw [h];exact jm (Nat.lt_of_le_of_lt Nat.and_le_left hx)
theorem XT{i:Nat}(hi:i<64):IntKind.u64.wrap ((1:Int)*2 ^ (min i 64))=((2 ^ i:Nat):Int):=by
 rw [Nat.min_eq_left (by omega),Int.one_mul];have h:2 ^ i<18446744073709551616:=Nat.pow_lt_pow_right (by omega) (n:=64) hi;have:=jm h;rw [<-this];simp
def bit(ws:List Nat)(i:Nat):Bool:=(ws.getD (i/64) 0).testBit (i%64)
def okW(ws:List Nat):Prop:= ∀x∈ws,x<18446744073709551616
theorem xu(i:Nat):bit [] i=false:=by simp [bit]
theorem zw(ws:List Nat)(i:Nat):bit (ws++ [0]) i=bit ws i:=by
 unfold bit
 congr 1
 simp only [List.getD_eq_getElem?_getD,List.getElem?_append];split
 ·rfl
 ·rename_i h
  rw [List.getElem?_eq_none (l:=ws) (by omega)];cases i/64-ws.length<;>simp
theorem Da{ws:List Nat}{q:Nat}(hq:q<ws.length)(v i:Nat):bit (ws.set q v) i=if i/64=q then v.testBit (i%64)else bit ws i:=by
 unfold bit;simp only [List.getD_eq_getElem?_getD,List.getElem?_set];by_cases h:i/64=q
 ·subst h;simp [hq]
 ·rw [if_neg (fun e=>h e.symm),if_neg h]
theorem Cs{ws:List Nat}(h:okW ws){x:Nat}(hx:x<18446744073709551616):okW (ws++ [x]):=fun y hy=>by
 rw [List.mem_append,List.mem_singleton]at hy;rcases hy with hy|rfl
 ·exact h y hy
 ·exact hx
theorem Cr{ws:List Nat}(h:okW ws){x:Nat}(hx:x<18446744073709551616)(q:Nat):okW (ws.set q x):=fun y hy=>by
 rcases List.mem_or_eq_of_mem_set hy with hy|rfl
 ·exact h y hy
 ·exact hx
def us(l:List Nat):List Value:=l.map fun x:Nat=>.int .u64 (x:Int)
theorem ot(l:List Nat):(us l).length=l.length:=by simp [us]
theorem ou{l:List Nat}{j x:Nat}(h:l[j]? =some x):(us l)[j]? =some (.int .u64 (x:Int)):=by simp [us,h]
theorem wF(l:List Nat)(q v:Nat):(us l).set q (.int .u64 (v:Int))=us (l.set q v):=by simp [us,List.map_set]
theorem Mv(l m:List Nat):us (l++m)=us l++us m:=by simp [us]
structure US(w:World)(A:Option Addr)(n:Nat)(l:List Nat):Prop where
 len:l.length=n
 at_: ∀(i x:Nat),l[i]? =some x-> ∃a,A=some a/\a.block<w.heap.size/\w.cell? (a.add i)=some (.int .u64 (x:Int))
theorem US.aC{S:Nat->Prop}{w w':World}{A:Option Addr}{n:Nat}{l:List Nat}(h:US w A n l)(hk:Kept S w w')(hn: ∀a,A=some a-> ¬S a.block):US w' A n l:=⟨h.len,fun i x hi=>by
 obtain⟨a,h1,h2,h3⟩:=h.at_ i x hi;exact⟨a,h1,Nat.lt_of_lt_of_le h2 hk.size,hk.cell h3 (by rw [eI];exact hn a h1)⟩⟩
theorem US.load{w:World}{A:Option Addr}{n:Nat}{l:List Nat}(hl:US w A n l){i:Int}{x:Nat}(h0:0<=i)(hx:l[i.toNat]? =some x){k:Int->Prop}(hk:k x):
 (0<=i/\i<(n:Int))/\Is A fun a=> ∃t:Int,w.cell? (a.add (i.toNat*1))=some (.int .u64 t)/\k t:=by
 obtain⟨a,rfl,_,hc⟩:=hl.at_ _ x hx;have:=(List.getElem?_eq_some_iff.1 hx).1;have:=hl.len;exact⟨⟨h0,by omega⟩,x,by rw [Nat.mul_one];exact hc,hk⟩
theorem ME:xP prog j0 iy 1 8:=⟨by kernel_rfl,by kernel_rfl⟩
abbrev jR(w:World)(B:Nat)(A:Option Addr)(n c:Nat)(l:List Nat):Prop:=Row w B iy 1 A n c (us l)
section
variable{w w':World}{B n c:Nat}{A:Option Addr}{l:List Nat}
theorem jR.len(h:jR w B A n c l):l.length=n:=by have:=Row.len h;rw [ot]at this;omega
theorem jR.us(h:jR w B A n c l):US w A n l:=⟨h.len,fun i x hi=>by
 have hlen:=h.len;have:=(List.getElem?_eq_some_iff.1 hi).1;obtain⟨b,rfl⟩:=Row.some h (by omega);obtain⟨_,cur,oR⟩:=Row.bC h (k:=b) rfl;exact⟨_,rfl,aQ oR,by rw [ba,Nat.zero_add];exact Row.cell h (ou hi)⟩⟩
theorem FF(i:Nat):((i:Int).tdiv 64)=((i/64:Nat):Int):=by
 rw [Int.tdiv_eq_ediv_of_nonneg (by omega)];omega
theorem MA(i:Nat):((i:Int).tmod 64)=((i%64:Nat):Int):=by
 rw [Int.tmod_eq_emod_of_nonneg (by omega)];omega
theorem sM(h:jR w B A n c l)(hn:n<=1000000)(hB:B<=w.heap.size){t:Nat}(x:Nat):
 ∃A' c' w',(Builtin.append_ #[j0,j0] j0 #[.slice A n c,.slice (some ⟨w.heap.size,0,none⟩) 1 1]).run prog (w.alloc (.cells #[.int .u64 (x:Int)] t))=.ok (.slice A' (n+1) c') w'/\
  jR w' B A' (n+1) c' (l++ [x])/\Kept (fun k=>bg A=some k) w w'/\(∀k,bg A'=some k->bg A=some k\/w.heap.size<=k):=by
 have k1:Kept Nil w (w.alloc (.cells #[.int .u64 (x:Int)] t)):=(Kept.refl _ _).alloc _;have hb:=aJ w (.cells #[.int .u64 (x:Int)] t);have h1:jR (w.alloc (.cells #[.int .u64 (x:Int)] t)) B A n c l:=Row.aC h k1 (fun _ _ h=>h);obtain⟨A',c',w',hr,e8,hg,vA⟩:=fi (P:=prog) (t:=j0) (ty:=j0) (bytes:=8) ME h1 (a:=⟨w.heap.size,0,none⟩) (m:=1) (cx:=1) (news:=us [x]) rfl
  (fun j u hj=>by rw [ba,Nat.zero_add,ax hb];simpa [us]using hj) (fun u hu=>by simp [us]at hu;subst hu;rfl) (by omega) (by unfold maxLen;omega) (by have:=k1.size;omega)
 refine⟨A',c',w',hr,?_,?_,fun k hk=>?_⟩
 ·show Row w' B iy 1 A' (n+1) c' (Proofs.YtnboahlopghcjaaGreatDoor.us (l++ [x]))
  rw [Mv];exact e8
 ·exact(k1.mono (S':=fun k=>bg A=some k) (fun _ _ h=>h.elim)).trans (Kept.grown (S:=fun k=>bg A=some k) (Kept.refl _ _) hg (fun k hk _=>hk)) (fun _ _ h=>h)
 ·rcases vA k hk with h|h
  ·exact .inl h
  ·have:=k1.size;exact .inr (by omega)
theorem yc{b:Nat}(h:jR w B (some ⟨b,0,none⟩) n c l){q:Nat}(hq:q<n)(x:Nat):
 jR (w.setCell ⟨b,q,none⟩ (.int .u64 (x:Int))) B (some ⟨b,0,none⟩) n c (l.set q x):=by
 have:=Row.set h (j:=q) (by rw [ot,h.len];exact hq) (.int .u64 (x:Int));rw [wF]at this;exact this
theorem yi{K:Value->World->Prop}(h:jR w B A n c l)(ho:okW l)(hn:n<=100000)(hB:B<=w.heap.size){i:Nat}(hi:i<=1000000)
 (hK: ∀A' n' c' l' w',jR w' B A' n' c' l'->okW l'->(n'<=n\/n'<=i/64+1)->(∀j,bit l' j=(bit l j||decide (j=i)))->Kept (fun k=>bg A=some k) w w'->(∀k,bg A'=some k->bg A=some k\/w.heap.size<=k)->K (.slice A' n' c') w'):
 bn prog bI.id #[.slice A n c,.int .i64 (i:Int)] w K:=by
 refine bI.of ?_;refine bI.b6 (I:=fun s w'=> ∃A' n' c' l',s=(A',n',c')/\jR w' B A' n' c' l'/\okW l'/\(n'<=n\/n'<=i/64+1)/\(∀j,bit l' j=bit l j)/\Kept (fun k=>bg A=some k) w w'/\(∀k,bg A'=some k->bg A=some k\/w.heap.size<=k))
  (μ:=fun s _=>i/64+1-s.2.1) (s:=(A,n,c)) ⟨A,n,c,l,rfl,h,ho,.inl (Nat.le_refl _),fun _=>rfl,Kept.refl _ _,fun k hk=>.inl hk⟩ ?_
 rintro s w' ⟨A',n',c',l',rfl,row,It,ZW,pF,kw,hb⟩;unfold bI.B1;rw [FF,gY (by omega) (by omega)];refine⟨by omega,?_⟩;refine Split.dec (fun hle=>?_) (fun wo=>?_)
 ·simp only at hle
  have aih:n'<=i/64:=by omega
  obtain⟨A2,c2,w2,hr,fO,k2,la⟩:=sM row (by omega) (Nat.le_trans hB kw.size) (t:=iy) 0;intro w6;refine⟨A2,n'+1,c2,w2,hr,?_⟩;refine⟨(A2,n'+1,c2),rfl,⟨A2,n'+1,c2,l'++ [0],rfl,fO,Cs It (by omega),by omega,fun j=>by rw [zw,pF],?_,fun k hk=>?_⟩,by simp only;omega⟩
  ·exact kw.trans k2 (fun k hk e=>by
    rcases hb k e with h|h
    ·exact h
    ·omega)
  ·rcases la k hk with h|h
   ·exact hb k h
   ·exact .inr (Nat.le_trans kw.size h)
 ·simp only at wo
  have dP:i/64<n':=by omega
  rw [aS,bI.cX];unfold bI.cJ;intro lU;have vc:Kept Nil w' lU:=(Kept.refl _ _).drew;have Ub:lU=w'.drew:=rfl;clear_value lU;have tO:jR lU B A' n' c' l':=Row.aC row vc (fun _ _ h=>h);have hlen:=row.len;rw [FF,MA,gY (by omega) (by omega)];obtain⟨b,rfl⟩:=Row.some tO (by omega);obtain⟨x,hx⟩: ∃x,l'[i/64]? =some x:=⟨_,List.getElem?_eq_getElem (by omega)⟩;refine⟨by omega,tO.us.load (by omega) (by rw [Int.toNat_natCast];exact hx) ⟨by omega,by omega,⟨⟨by omega,by simp only;omega⟩,?_⟩⟩⟩;have tp:=It x (List.mem_of_getElem? hx);have hp:2 ^ (i%64)<18446744073709551616:=Nat.pow_lt_pow_right (by omega) (n:=64) (Nat.mod_lt _ (by omega));simp only [Is,Int.toNat_natCast,Nat.mul_one,ba,Nat.zero_add];rw [XT (Nat.mod_lt _ (by omega)),orU tp hp];refine⟨Row.wr tO (by rw [ot,hlen];exact dP),?_⟩;have mK:Kept (fun k=>bg A=some k) w (lU.setCell ⟨b,i/64,none⟩ (.int .u64 ((x|||2 ^ (i%64):Nat):Int))):=
   Kept.setCell (kw.trans vc (fun _ _ h=>h.elim)) (p:=⟨b,i/64,none⟩) (fun cI=>by
    rcases hb b rfl with h|h
    ·exact h
    ·exact absurd cI (by simp only;omega)) _
  refine hK _ _ _ _ _ (yc tO dP _) (Cr It (Nat.or_lt_two_pow (n:=64) tp hp) _) ZW (fun j=>?_) mK hb;rw [Da (by omega),pF];have hbi:bit l' i=x.testBit (i%64):=by unfold bit;rw [List.getD_eq_getElem?_getD,hx];rfl
  by_cases e:j/64=i/64
  ·rw [if_pos e,Nat.testBit_or,Nat.testBit_two_pow]
   have hbj:bit l' j=x.testBit (j%64):=by unfold bit;rw [e,List.getD_eq_getElem?_getD,hx];rfl
   rw [<-hbj,pF]
   congr 1
   exact decide_eq_decide.2 ⟨fun h=>by omega,fun h=>by rw [h]⟩
  ·rw [if_neg e,decide_eq_false (fun h=>e (by rw [h]))]
   simp
end
end Go.Proofs.YtnboahlopghcjaaGreatDoor
namespace Go.Proofs.YtnboahlopghcjaaGreatDoor
open Go.Proofs.Tryz
open Go Go.bV Go.RowKit
section
variable{w w':World}{B n c:Nat}{A:Option Addr}{l:List Nat}
theorem vR{K:Value->World->Prop}(h:jR w B A n c l)(ho:okW l)(hn:n<=100000)(hB:B<=w.heap.size){A2:Option Addr}{n2 c2:Nat}{v:List Nat}(hv:US w A2 n2 v)(Y5:okW v)(ZV:n2<=100000)
 (UP: ∀a,A2=some a-> ∀k,bg A=some k->a.block≠k)
 (hK: ∀A' n' c' l' w',jR w' B A' n' c' l'->okW l'->(n'<=n\/n'<=n2)->(∀j,bit l' j=(bit l j||bit v j))->Kept (fun k=>bg A=some k) w w'->(∀k,bg A'=some k->bg A=some k\/w.heap.size<=k)->K (.slice A' n' c') w'):
 bn prog cf.id #[.slice A n c,.slice A2 n2 c2] w K:=by
 have adN:=hv.len;refine cf.of ?_;refine cf.b6 (I:=fun s w'=> ∃(i:Nat) (A':Option Addr) (n' c':Nat) (l':List Nat),s=(A',n',c',(i:Int))/\i<=n2/\jR w' B A' n' c' l'/\okW l'/\i<=n'/\n<=n'/\(n'<=n\/n'<=i)/\(∀j,bit l' j=(bit l j||(decide (j/64<i)&&bit v j)))/\Kept (fun k=>bg A=some k) w w'/\(∀k,bg A'=some k->bg A=some k\/w.heap.size<=k))
  (μ:=fun s _=>((n2:Int)-s.2.2.2).toNat) (s:=(A,n,c,0)) ⟨0,A,n,c,l,rfl,Nat.zero_le _,h,ho,Nat.zero_le _,Nat.le_refl _,.inl (Nat.le_refl _),by simp,Kept.refl _ _,fun k hk=>.inl hk⟩ ?_
 rintro s w' ⟨i,A',n',c',l',rfl,hi,row,It,fN,Tf,Ww,pF,kw,hb⟩;have He:=row.len;refine Split.dec (fun jf=>?_) (fun gu=>?_)
 ·simp only at jf
  have dP:i<n2:=by omega
  obtain⟨x,hx⟩: ∃x,v[i]? =some x:=⟨_,List.getElem?_eq_getElem (by omega)⟩;have tp:=Y5 x (List.mem_of_getElem? hx);have hvw:US w' A2 n2 v:=hv.aC kw (fun a ha e=>UP a ha _ e rfl);refine hvw.load (i:=(i:Int)) (by omega) hx ?_;have step: ∀(A2:Option Addr) (n3 c3:Nat) (l3:List Nat) (w3:World),jR w3 B A2 n3 c3 l3->okW l3->i<n3->n<=n3->(n3<=n\/n3<=i+1)->(∀j,bit l3 j=(bit l j||(decide (j/64<i)&&bit v j)))->Kept (fun k=>bg A=some k) w w3->(∀k,bg A2=some k->bg A=some k\/w.heap.size<=k)->
   (0<=(i:Int)/\(i:Int)<(n3:Int))/\Is A2 fun a=> ∃t:Int,w3.cell? (a.add ((i:Int).toNat*1))=some (.int .u64 t)/\(0<=(i:Int)/\(i:Int)<(n3:Int))/\Is A2 fun a'=>Wr w3 (a'.add ((i:Int).toNat*1))/\
     ∃(l4:List Nat),
     jR (w3.setCell (a'.add ((i:Int).toNat*1)) (.int .u64 (IntKind.u64.wrap ((BitVec.ofInt 64 t|||BitVec.ofInt 64 (x:Int)).toNat)))) B A2 n3 c3 l4/\okW l4/\(∀j,bit l4 j=(bit l j||(decide (j/64<i+1)&&bit v j)))/\Kept (fun k=>bg A=some k) w (w3.setCell (a'.add ((i:Int).toNat*1)) (.int .u64 (IntKind.u64.wrap ((BitVec.ofInt 64 t|||BitVec.ofInt 64 (x:Int)).toNat)))):=by
   intro A2 n3 c3 l3 w3 lX ho3 hi3 hn3 ah6 LV k3 oo;have aeh:=lX.len;obtain⟨b,rfl⟩:=Row.some lX (by omega);obtain⟨y,hy⟩: ∃y,l3[i]? =some y:=⟨_,List.getElem?_eq_getElem (by omega)⟩;have hyl:=ho3 y (List.mem_of_getElem? hy);refine lX.us.load (i:=(i:Int)) (by omega) hy ⟨⟨by omega,by omega⟩,?_⟩;simp only [Is,Int.toNat_natCast,Nat.mul_one,ba,Nat.zero_add];rw [orU hyl tp];refine⟨Row.wr lX (by rw [ot];omega),l3.set i (y|||x),yc lX hi3 _,Cr ho3 (Nat.or_lt_two_pow (n:=64) hyl tp) _,fun j=>?_,?_⟩
   ·rw [Da (by omega),LV]
    have xk:j/64=i->bit v j=x.testBit (j%64):=fun e=>by unfold bit;rw [e,List.getD_eq_getElem?_getD,hx];rfl
    have Iz:j/64=i->bit l3 j=y.testBit (j%64):=fun e=>by unfold bit;rw [e,List.getD_eq_getElem?_getD,hy];rfl
    by_cases e:j/64=i
    ·rw [if_pos e,Nat.testBit_or,<-Iz e,<-xk e,LV]
     rw [decide_eq_false (show ¬j/64<i by omega),decide_eq_true (show j/64<i+1 by omega)];simp
    ·rw [if_neg e]
     congr 2
     exact decide_eq_decide.2 (by omega)
   ·refine Kept.setCell k3 (p:=⟨b,i,none⟩) (fun cI=>?_) _
    rcases oo b rfl with h|h
    ·exact h
    ·exact absurd cI (by simp only;omega)
  by_cases he:i=n'
  ·refine Split.yes (by simp [he]) ?_
   obtain⟨Fo,xO,w2,hr,fO,k2,la⟩:=sM row (by omega) (Nat.le_trans hB kw.size) (t:=iy) 0;intro w10;refine⟨Fo,n'+1,xO,w2,hr,?_⟩;have st:=step Fo (n'+1) xO (l'++ [0]) w2 fO (Cs It (by omega)) (by omega) (by omega) (by omega) (fun j=>by rw [zw,pF])
    (kw.trans k2 (fun k hk e=>by
      rcases hb k e with h|h
      ·exact h
      ·omega)) (fun k hk=>by
      rcases la k hk with h|h
      ·exact hb k h
      ·exact .inr (Nat.le_trans kw.size h))
   clear step;obtain⟨s1,s2⟩:=st;refine⟨s1,?_⟩;cases Fo with
   |none=>exact s2.elim
   |some a=>
    obtain⟨t,s3,s4,s5,l4,s6,s7,s8,s9⟩:=s2;refine⟨t,s3,s4,s5,?_⟩;intro iz;simp only;rw [dE (n:=(i:Int)) (by omega) (by omega)];exact⟨(some a,n'+1,xO,(i:Int)+1),rfl,⟨i+1,some a,n'+1,xO,l4,rfl,dP,s6,s7,by omega,by omega,by omega,s8,s9,fun k hk=>by
     rcases la k hk with h|h
     ·exact hb k h
     ·exact .inr (Nat.le_trans kw.size h)⟩,by simp only;omega⟩
  ·refine Split.no (beq_eq_false_iff_ne.2 (by simp only;omega)) ?_
   have st:=step A' n' c' l' w' row It (by omega) Tf (by omega) pF kw hb;clear step;obtain⟨s1,s2⟩:=st;refine⟨s1,?_⟩;cases A' with
   |none=>exact s2.elim
   |some a=>
    obtain⟨t,s3,s4,s5,l4,s6,s7,s8,s9⟩:=s2;refine⟨t,s3,s4,s5,?_⟩;intro iz;simp only;rw [dE (n:=(i:Int)) (by omega) (by omega)];exact⟨(some a,n',c',(i:Int)+1),rfl,⟨i+1,some a,n',c',l4,rfl,dP,s6,s7,by omega,Tf,by omega,s8,s9,hb⟩,by simp only;omega⟩
 ·simp only at gu
  have:i=n2:=by omega
  subst this;rw [aS,cf.cX];refine hK A' n' c' l' w' row It (by omega) (fun j=>?_) kw hb;rw [pF]
  congr 1
  by_cases e:j/64<i
  ·rw [decide_eq_true e];simp
  ·rw [decide_eq_false e]
   unfold bit;rw [List.getD_eq_getElem?_getD,List.getElem?_eq_none (by omega)];simp
end
end Go.Proofs.YtnboahlopghcjaaGreatDoor
namespace Go.Proofs.YtnboahlopghcjaaGreatDoor
open Go.Proofs.Tryz
open Go Go.bV Go.RowKit
theorem zA: ∀k m:Nat,(2 ^ k*(2*m+1))&&& (2 ^ k*(2*m+1)-1)=2 ^ (k+1)*m
 |0,m=>by
  apply Nat.eq_of_testBit_eq;intro i;rw [Nat.testBit_and];cases i with
  |zero=>simp [Nat.testBit_zero]
  |succ i=>
   simp only [Nat.testBit_succ];rw [show(2 ^ 0*(2*m+1))/2=m by omega,show(2 ^ 0*(2*m+1)-1)/2=m by omega,show 2 ^ (0+1)*m/2=m by omega];simp
 |k+1,m=>by
  have ih:=zA k m;have hp:0<2 ^ k*(2*m+1):=Nat.mul_pos (Nat.pow_pos (by omega)) (by omega);rw [show 2 ^ (k+1)*(2*m+1)=2*(2 ^ k*(2*m+1))by rw [Nat.pow_succ];ac_rfl,show 2 ^ (k+1+1)*m=2*(2 ^ (k+1)*m)by rw [Nat.pow_succ 2 (k+1)];ac_rfl];generalize 2 ^ k*(2*m+1)=x at ih hp⊢;rw [<-ih];apply Nat.eq_of_testBit_eq;intro i;rw [Nat.testBit_and];cases i with
  |zero=>simp [Nat.testBit_zero]
  |succ i=>
   simp only [Nat.testBit_succ];rw [show 2*x/2=x by omega,show(2*x-1)/2=x-1 by omega,show 2*(x&&& (x-1))/2=x&&& (x-1)by omega,Nat.testBit_and]
theorem Cu{x:Nat}(h0:x≠0)(hx:x<18446744073709551616):Lib.ctz 64 x<64/\x.testBit (Lib.ctz 64 x)=true/\ ∀t,(x&&& (x-1)).testBit t=(x.testBit t&&decide (t≠Lib.ctz 64 x)):=by
 obtain⟨m,h1,h2⟩:=Lib.ctzFrom_spec 64 x (by omega) hx;have e:Lib.ctz 64 x=Lib.ctzFrom 64 x:=by unfold Lib.ctz;rw [if_neg h0]
 rw [e];generalize Lib.ctzFrom 64 x=k at h1 h2⊢;have hand:x&&& (x-1)=2 ^ (k+1)*m:=by rw [h1];exact zA k m
 have hb: ∀t,x.testBit t=(decide (t>=k)&&(2*m+1).testBit (t-k)):=fun t=>by rw [h1,Nat.testBit_two_pow_mul]
 refine⟨h2,by rw [hb];simp,fun t=>?_⟩;rw [hand,Nat.testBit_two_pow_mul,hb];by_cases ht:t=k
 ·subst ht
  simp;intro h;omega
 ·rw [decide_eq_true ht,Bool.and_true]
  by_cases hk:t>=k
  ·obtain⟨d,hd⟩: ∃d,t-k=d+1:=⟨t-k-1,by omega⟩
   rw [decide_eq_true hk,decide_eq_true (show t>=k+1 by omega),hd,show t-(k+1)=d by omega,Nat.testBit_succ,show(2*m+1)/2=m by omega]
  ·rw [decide_eq_false hk,decide_eq_false (show ¬t>=k+1 by omega)]
   simp
theorem xy{x:Nat}(h0:x≠0):x&&& (x-1)<x:=Nat.lt_of_le_of_lt Nat.and_le_right (by omega)
def uj(x:Nat):List Nat:=if h:x=0 then []else Lib.ctz 64 x::uj (x&&& (x-1))
termination_by x
decreasing_by exact xy h
theorem v7:uj 0= []:=by rw [uj];simp
theorem wc{x:Nat}(h0:x≠0):uj x=Lib.ctz 64 x::uj (x&&& (x-1)):=by rw [uj,dif_neg h0]
theorem v8: ∀(x:Nat),x<18446744073709551616->(∀t,t∈uj x↔x.testBit t=true)/\(uj x).Nodup/\ ∀t∈uj x,t<64:=by
 intro x
 induction x using Nat.strongRecOn with
 |_ x ih=>
  intro hx;by_cases h0:x=0
  ·subst h0;rw [v7];simp
  ·obtain⟨h1,h2,h3⟩:=Cu h0 hx
   obtain⟨i1,i2,i3⟩:=ih _ (xy h0) (Nat.lt_trans (xy h0) hx);rw [wc h0];refine⟨fun t=>?_,?_,fun t ht=>?_⟩
   ·rw [List.mem_cons,i1,h3]
    by_cases e:t=Lib.ctz 64 x
    ·rw [e,h2];simp
    ·simp [e]
   ·rw [List.nodup_cons,i1,h3]
    exact⟨by simp,i2⟩
   ·rcases List.mem_cons.1 ht with rfl|ht
    ·exact h1
    ·exact i3 t ht
def oL:Nat->List Nat->List Nat
 |_,[]=> []
 |k,x::ws=>(uj x).map (64*k+ ·)++oL (k+1) ws
theorem HX(x:Nat)(ws:List Nat)(j:Nat):bit (x::ws) j=if j<64 then x.testBit j else bit ws (j-64):=by
 unfold bit;split
 ·rename_i h
  rw [show j/64=0 by omega,show j%64=j by omega];rfl
 ·rename_i h
  rw [show j/64=(j-64)/64+1 by omega,show j%64=(j-64)%64 by omega];rfl
theorem oN: ∀(ws:List Nat) (k j:Nat),okW ws->(j∈oL k ws↔64*k<=j/\bit ws (j-64*k)=true)
 | [],k,j,_=>by simp [oL,bit]
 |x::ws,k,j,ho=>by
  obtain⟨h1,_,h3⟩:=v8 x (ho x (by simp));have ih:=oN ws (k+1) j (fun y hy=>ho y (by simp [hy]));rw [oL,List.mem_append,ih,HX,List.mem_map];constructor
  ·rintro(⟨t,ht,rfl⟩|⟨h,hb⟩)
   ·have:=h3 t ht
    refine⟨by omega,?_⟩;rw [if_pos (by omega),show 64*k+t-64*k=t by omega];exact(h1 t).1 ht
   ·refine⟨by omega,?_⟩
    rw [if_neg (by omega),show j-64*k-64=j-64*(k+1)by omega];exact hb
  ·rintro⟨h,hb⟩
   split at hb
   ·exact .inl ⟨j-64*k,(h1 _).2 hb,by omega⟩
   ·refine .inr ⟨by omega,?_⟩
    rw [show j-64*(k+1)=j-64*k-64 by omega];exact hb
theorem ub: ∀ {l m:List Nat},l.Nodup->(∀x∈l,x∈m)->l.length<=m.length
 | [],_,_,_=>Nat.zero_le _
 |x::l,m,hn,h=>by
  rw [List.nodup_cons]at hn;have hx:=h x (by simp);have:=ub (l:=l) (m:=m.erase x) hn.2 (fun y hy=>by
   have fG:y≠x:=fun e=>hn.1 (e▸hy);exact(List.mem_erase_of_ne fG).2 (h y (by simp [hy])))
  rw [List.length_erase_of_mem hx]at this;have ja:0<m.length:=List.length_pos_of_mem hx;simp only [List.length_cons];omega
def tg(w:World):Prop:=TabAt (Tryz.jn.g 1) Lib.deBruijn64tab w
theorem tg.aC{S:Nat->Prop}{w w':World}(h:tg w)(hk:Kept S w w')(hn: ¬S (Tryz.jn.g 1)):tg w':=fun j hj=>hk.cell (h j hj) hn
theorem tg.same{w w':World}(h:tg w)(hk:Kept Nil w w'):tg w':=h.aC hk fun h=>h
theorem tg.lt{w:World}(h:tg w):Tryz.jn.g 1<w.heap.size:=World.block_lt_of_cell? w _ (h 0 (by decide))
section
variable{w:World}{K:Value->World->Prop}
theorem QH{x:Nat}(hx:x<18446744073709551616)(hT:tg w)(hK:K (.int .i64 (Lib.ctz 64 x:Nat)) w):bn prog bits_TrailingZeros64.id #[.int .u64 (x:Int)] w K:=by
 refine Calls.mono (Any7.bits_TrailingZeros64 Tryz.tzL x hx w (fun _=>hT)) ?_;rintro e w' ⟨rfl,rfl⟩;exact⟨_,rfl,hK⟩
abbrev encI(i:Nat):List Value:= [.int .i64 (i:Int)]
theorem H3(p:Addr){A:Option Addr}{n c:Nat}{l:List Nat}(hn:n<=100000)(ho:okW l):
 mZ prog aI.id #[] #[.pointer (some p)] ((oL 0 l).map encI) (fun w=>US w A n l/\w.cell? p=some (.slice A n c)/\tg w):=by
 intro y I D w0 hI hD qQ h0 qf;refine aI.of ?_;obtain⟨CS,P6,_⟩:=qQ 0 w0 h0;have hlen:=CS.len;refine⟨A,n,c,P6,?_⟩;refine aI.b6 (I:=fun s w'=> ∃(i:Nat) (dn:List Nat),s=(i:Int)/\i<=n/\dn++oL i (l.drop i)=oL 0 l/\I dn.length w') (μ:=fun s _=>((n:Int)-s).toNat) (s:=0) ⟨0,[],rfl,Nat.zero_le _,rfl,h0⟩ ?_;rintro s w' ⟨i,dn,rfl,hi,Hi,hw⟩;refine Split.dec (fun jf=>?_) (fun gu=>?_)
 ·have dP:i<n:=by omega
  obtain⟨x,hx⟩: ∃x,l[i]? =some x:=⟨_,List.getElem?_eq_getElem (by omega)⟩;have tp:=ho x (List.mem_of_getElem? hx);have hl:=(qQ _ w' hw).1;have uB:l.drop i=x::l.drop (i+1):=by
   obtain⟨h1,h2⟩:=List.getElem?_eq_some_iff.1 hx;rw [List.drop_eq_getElem_cons h1,h2]
  rw [uB,oL]at Hi;refine hl.load (i:=(i:Int)) (by omega) hx ?_;refine aI.gD (I:=fun s w'=> ∃(v:Nat) (dn:List Nat),s=(v:Int)/\v<18446744073709551616/\dn++((uj v).map (64*i+ ·)++oL (i+1) (l.drop (i+1)))=oL 0 l/\I dn.length w') (μ:=fun s _=>s.toNat) (s:=(x:Int)) ⟨x,dn,rfl,tp,Hi,hw⟩ ?_;clear hw Hi;rintro s w1 ⟨v,Xa,rfl,hv,Hh,Io⟩;by_cases h0:v=0
  ·refine Split.no (by subst h0;rfl) ?_
   rw [aS,aI.jC];unfold aI.iu;rw [dE (n:=(i:Int)) (by omega) (by omega)];rw [h0,v7,List.map_nil,List.nil_append]at Hh;exact⟨(i:Int)+1,rfl,⟨i+1,Xa,rfl,dP,Hh,Io⟩,by simp only;omega⟩
  ·refine Split.yes (bne_iff_ne.2 (by omega)) ?_
   have hpr:=qQ _ w1 Io;obtain⟨hk,LI,hkr⟩:=Cu h0 hv;rw [wc h0,List.map_cons,List.cons_append]at Hh;refine QH hv hpr.2.2 ⟨_,rfl,?_⟩;have gh:((oL 0 l).map encI)[Xa.length]? =some (encI (64*i+Lib.ctz 64 v)):=by
    rw [List.getElem?_map,<-Hh,List.getElem?_append_right (Nat.le_refl _),Nat.sub_self];rfl
   have Ej:IntKind.i64.wrap (IntKind.i64.wrap ((64:Int)*(i:Int))+((Lib.ctz 64 v:Nat):Int))=((64*i+Lib.ctz 64 v:Nat):Int):=by
    rw [gY (x:=(64:Int)*(i:Int)) (by omega) (by omega),gY (by omega) (by omega)];omega
   rw [Ej];refine(qf Xa.length _ w1 gh Io).mono ?_;rintro b lW ⟨ht,hf⟩;have mo:IntKind.u64.wrap ((BitVec.ofInt 64 (v:Int)&&& BitVec.ofInt 64 (IntKind.u64.wrap ((v:Int)-(1:Int)))).toNat:Int)=((v&&& (v-1):Nat):Int):=by
    have e1:(v:Int)-1=((v-1:Nat):Int):=by omega
    rw [e1,jm (x:=v-1) (by omega),ab8 hv (by omega)]
   cases b with
   |true=>
    refine Split.no rfl ?_;rw [mo];have cI:=xy h0;refine⟨((v&&& (v-1):Nat):Int),rfl,⟨v&&& (v-1),Xa++ [64*i+Lib.ctz 64 v],rfl,by omega,by rw [List.append_assoc];exact Hh,?_⟩,by simp only;omega⟩;rw [List.length_append];exact ht rfl
   |false=>
    refine Split.yes rfl ?_;exact Or.inr (hf rfl)
 ·rw [aS,aI.cX]
  have e:i=n:=by omega
  subst e;refine Or.inl ?_;rw [List.drop_eq_nil_of_le (by omega),oL,List.append_nil]at Hi;rw [List.length_map,<-Hi];exact hw
end
end Go.Proofs.YtnboahlopghcjaaGreatDoor
namespace Go.Proofs.YtnboahlopghcjaaGreatDoor
open Go.Proofs.Tryz
open Go Go.bV Go.RowKit
def pos(h:HT):List HT->Nat->Option Nat
 | [],_=>none
 |x::l,i=>if h=x then some i else pos h l (i+1)
theorem oI{h:HT}: ∀ {l:List HT} {i:Nat},pos h l i=none↔h∉l
 | [],i=>by simp [pos]
 |x::l,i=>by
  unfold pos;split
  ·rename_i e;simp [e]
  ·rename_i e
   rw [oI (l:=l)];simp [e]
theorem tV{h:HT}: ∀ {l:List HT} {i j:Nat},pos h l i=some j->i<=j/\l[j-i]? =some h
 | [],i,j,e=>by simp [pos]at e
 |x::l,i,j,e=>by
  unfold pos at e;split at e
  ·rename_i hx
   cases e;subst hx;exact⟨Nat.le_refl _,by rw [Nat.sub_self];rfl⟩
  ·obtain⟨h1,h2⟩:=tV e
   refine⟨by omega,?_⟩;rw [show j-i=(j-(i+1))+1 by omega];exact h2
theorem jW{h:HT}: ∀ {l:List HT} (i j:Nat),l.Nodup->l[j]? =some h->pos h l i=some (i+j)
 | [],i,j,_,e=>by simp at e
 |x::l,i,0,_,e=>by
  simp only [List.getElem?_cons_zero,Option.some.injEq]at e;unfold pos;rw [if_pos e.symm];simp
 |x::l,i,j+1,hn,e=>by
  simp only [List.getElem?_cons_succ]at e;rw [List.nodup_cons]at hn;unfold pos;rw [if_neg (fun hx=>hn.1 (by rw [<-hx];exact List.mem_of_getElem? e)),jW (i+1) j hn.2 e]
  congr 1
  omega
section
variable{w:World}
theorem IL:prog.underlying ag=some (.array 32 iw):=by kernel_rfl
theorem Mw:prog.underlying iw=some (.int .u8):=by kernel_rfl
theorem Le: ∃i,prog.info? iw=some i/\i.size=1:=by
 have h:(match prog.info? iw with|some i=>Nat.beq i.size 1|none=>false)=true:=by kernel_rfl
 split at h
 ·rename_i i hi;exact⟨i,hi,Nat.eq_of_beq_eq_true h⟩
 ·cases h
theorem Mx:prog.underlying ck=some (.map ag jl):=by kernel_rfl
theorem tL(a b:HT)(w:World):(Op.equal ag (.agg a.1) (.agg b.1)).run prog w=.ok (decide (a=b)) w:=by
 obtain⟨i,hi,h1⟩:=Le;have:=oA (P:=prog) 9998 w IL Mw hi h1 a.2.ints b.2.ints;rw [dq]at this;simp only [Op.equal,Op.maxDepth];exact this
theorem iL(h:HT)(em:Bool)(w:World):(Instr.checkKey em 10000 ag (.agg h.1)).run prog w=.ok () w:=by
 obtain⟨i,hi,h1⟩:=Le;have hc:prog.cellsOf iw=1:=by simp [Program.cellsOf,hi,h1]
 rw [show(10000:Nat)=9999+1 from rfl,Instr.checkKey];simp only [Sem.run_bind,run_underlying IL,Result.andThen_ok];simp only [Std.Legacy.Range.forIn_eq_forIn_range',Std.Legacy.Range.size,Nat.sub_zero,Nat.add_one_sub_one,Nat.div_one];have each: ∀j∈List.range' 0 32,∃v,h.1[j]? =some v/\ ∃x:Int,v=.int .u8 x:=fun j hj=>by
  have uy:j<h.1.size:=by rw [h.2.1];simpa using hj
  obtain⟨x,hx,_⟩:=h.2.2 h.1[j] (by simp);exact⟨_,Array.getElem?_eq_getElem uy,x,hx⟩
 generalize List.range' 0 32=is at each
 induction is with
 |nil=>simp
 |cons j is ih=>
  obtain⟨v,hv,x,rfl⟩:=each j (by simp);have Kj:(isAgg iw).run prog w=.ok false w:=by simp [isAgg,run_underlying Mw]
  have p1:(part iw h.1 (j*1)).run prog w=.ok (.int .u8 x) w:=by simp [part,Kj,hv]
  have p2:(Instr.checkKey em 9999 iw (.int .u8 x)).run prog w=.ok () w:=by
   rw [show(9999:Nat)=9998+1 from rfl,Instr.checkKey];simp [run_underlying Mw]
  simp only [List.forIn_cons,Sem.run_bind,Go.bV.run_sizeOf hi w,hc,Result.andThen_ok,p1,p2,Sem.run_pure];exact ih (fun y hy=>each y (by simp [hy]))
def zJ(es:List MapEntry)(l:List HT)(i:Nat):Prop:=match es,l with
 | [],[]=>True
 |e::es,h::l=>(e.key=.agg h.1/\e.val=.int .i64 (i:Int))/\zJ es l (i+1)
 |_,_=>False
theorem zJ.snoc: ∀ {es:List MapEntry} {l:List HT} {i:Nat} {e:MapEntry} {h:HT},zJ es l i->e.key=.agg h.1->e.val=.int .i64 ((i+l.length:Nat):Int)->zJ (es++ [e]) (l++ [h]) i
 | [],[],i,e,h,_,h1,h2=>⟨⟨h1,by simpa using h2⟩,trivial⟩
 |x::es,y::l,i,e,h,he,h1,h2=>⟨he.1,zJ.snoc he.2 h1 (by rw [h2];congr 2;simp;omega)⟩
 | [],_::_,_,_,_,he,_,_=>he.elim
 |_::_,[],_,_,_,he,_,_=>he.elim
theorem qx(h:HT)(w:World): ∀(es:List MapEntry) (l:List HT) (i:Nat),zJ es l i->
 (Instr.findAsking ag (.agg h.1) es i).run prog w=.ok ((pos h l i).map fun j=>(j,.int .i64 (j:Int))) w
 | [],[],i,_=>by simp [Instr.findAsking,pos]
 |e::es,x::l,i,he=>by
  have hq:=tL h x w;have ih:=qx h w es l (i+1) he.2;simp only [Instr.findAsking,he.1.1,Sem.run_bind,hq,Result.andThen_ok];by_cases hx:h=x
  ·simp [hx,pos,he.1.2]
  ·simp [hx,pos,ih]
 | [],_::_,_,he=>he.elim
 |_::_,[],_,he=>he.elim
theorem nu(h:HT)(w:World){es:List MapEntry}{l:List HT}(he:zJ es l 0):
 (Instr.findKey ag (.agg h.1) es).run prog w=.ok ((pos h l 0).map fun j=>(j,.int .i64 (j:Int))) w:=by
 have h1:=qx h w es l 0 he;simp only [Instr.findKey,Sem.run_bind,run_underlying IL,Result.andThen_ok];cases es with
 |nil=>
  cases l with
  |nil=>simp [Instr.findNow,pos]
  |cons x l=>exact he.elim
 |cons e es=>
  have:Instr.findNow (.array 32 iw) (.agg h.1) (e::es) 0=none:=by
   simp only [Instr.findNow,Instr.sameNow]
  rw [this];exact h1
theorem oY{r:Nat}{es:Array MapEntry}{clock:Nat}(hb:w.heap[r]? =some (.map es clock)):(getObj r).run prog w=.ok (.map es clock) w:=by
 simp [getObj,Sem.run,hb]
theorem Al{r:Nat}{es:Array MapEntry}{clock:Nat}(o:Obj)(hb:w.heap[r]? =some (.map es clock)):(setObj r o).run prog w=.ok () {w with heap:=w.heap.setIfInBounds r o}:=by
 simp [setObj,Sem.run,hb]
structure IsMap(w:World)(m:Nat)(l:List HT):Prop where
 ex: ∃es clock,w.heap[m]? =some (.map es clock)/\zJ es.toList l 0
theorem IsMap.aC{S:Nat->Prop}{w w':World}{m:Nat}{l:List HT}(h:IsMap w m l)(hk:Kept S w w')(hn: ¬S m):IsMap w' m l:=by
 obtain⟨es,clock,h1,h2⟩:=h.ex;exact⟨es,clock,hk.heap h1 hn,h2⟩
theorem IsMap.lt{w:World}{m:Nat}{l:List HT}(h:IsMap w m l):m<w.heap.size:=by
 obtain⟨es,clock,h1,_⟩:=h.ex;exact aQ h1
theorem IsMap.look{m:Nat}{l:List HT}(hm:IsMap w m l)(h:HT):
 (Instr.lookup ck (.map (some m)) (.agg h.1) true).run prog w=.ok (.tuple #[.int .i64 (((pos h l 0).getD 0:Nat):Int),.bool (pos h l 0).isSome]) w:=by
 obtain⟨es,clock,h1,h2⟩:=hm.ex;have h3:=nu h w h2;simp only [Instr.lookup,Sem.run_bind,run_underlying Mx,oY h1,Result.andThen_ok,Sem.run_pure,iL,h3];cases hp:pos h l 0<;>simp
theorem IsMap.we{m:Nat}{l:List HT}(hm:IsMap w m l)(h:HT):
 (Instr.lookup ck (.map (some m)) (.agg h.1) false).run prog w=.ok (.int .i64 (((pos h l 0).getD 0:Nat):Int)) w:=by
 obtain⟨es,clock,h1,h2⟩:=hm.ex;have h3:=nu h w h2;simp only [Instr.lookup,Sem.run_bind,run_underlying Mx,oY h1,Result.andThen_ok,Sem.run_pure,iL,h3];cases hp:pos h l 0<;>simp
theorem IsMap.put{m:Nat}{l:List HT}(hm:IsMap w m l){h:HT}(hn:h∉l):
 ∃w',(Instr.mapUpdate ck (.map (some m)) (.agg h.1) (.int .i64 ((l.length:Nat):Int))).run prog w=.ok () w'/\IsMap w' m (l++ [h])/\Kept (· =m) w w':=by
 obtain⟨es,clock,h1,h2⟩:=hm.ex;have h3:=nu h w h2;rw [oI.2 hn]at h3;refine⟨{w with heap:=w.heap.setIfInBounds m (.map (es.push {key:=.agg h.1,val:=.int .i64 ((l.length:Nat):Int),born:=clock}) (clock+1))},?_,⟨es.push {key:=.agg h.1,val:=.int .i64 ((l.length:Nat):Int),born:=clock},clock+1,?_,?_⟩,?_⟩
 ·simp only [Instr.mapUpdate,Sem.run_bind,run_underlying Mx,oY h1,Result.andThen_ok,iL,h3,Option.map_none,Al _ h1]
 ·simp [aQ h1]
 ·have:=h2.snoc (e:= {key:=.agg h.1,val:=.int .i64 ((l.length:Nat):Int),born:=clock}) (h:=h) rfl (by simp)
  simpa using this
 ·exact⟨rfl,rfl,rfl,by simp,fun k _ hk=>by simp [Ne.symm hk]⟩
end
end Go.Proofs.YtnboahlopghcjaaGreatDoor
namespace Go.Proofs.YtnboahlopghcjaaGreatDoor
open Go.Proofs.Tryz
open Go Go.bV
structure DN where
 id:HT
 ps:List HT
abbrev DG:=List DN
def ids(D:DG):List HT:=D.map (·.id)
def nn(D:DG)(p h:HT):Prop:= ∃nd∈D,nd.id=h/\p∈nd.ps
inductive eZ (D:DG):HT->HT->Prop
 |one {p h:HT}:nn D p h->eZ D p h
 |more {a p h:HT}:eZ D a p->nn D p h->eZ D a h
theorem eZ.trans{D:DG}{a b c:HT}(h:eZ D a b)(h':eZ D b c):eZ D a c:=by
 induction h' with
 |one hp=>exact .more h hp
 |more _ hp ih=>exact .more ih hp
structure jw(D:DG):Prop where
 pos:0<D.length
 nodup:(ids D).Nodup
 ss: ∀nd∈D,SS nd.ps
 up: ∀(i:Nat) nd p,D[i]? =some nd->p∈nd.ps-> ∃(j:Nat) (m:DN),j<i/\D[j]? =some m/\m.id=p
theorem fR(D:DG):(ids D).length=D.length:=by simp [ids]
theorem pr{D:DG}{i:Nat}{nd:DN}(h:D[i]? =some nd):(ids D)[i]? =some nd.id:=by simp [ids,h]
theorem GI{D:DG}{i:Nat}{h:HT}(e:(ids D)[i]? =some h): ∃nd,D[i]? =some nd/\nd.id=h:=by
 unfold ids at e;rw [List.getElem?_map]at e;cases hd:D[i]? with
 |none=>rw [hd]at e;cases e
 |some nd=>rw [hd]at e;exact⟨nd,rfl,by simpa using e⟩
theorem dB{D:DG}{h:HT}:h∈ids D↔ ∃nd∈D,nd.id=h:=by simp [ids]
section
variable{D:DG}
theorem jw.inj(W:jw D){i j:Nat}{a b:DN}(ha:D[i]? =some a)(hb:D[j]? =some b)(e:a.id=b.id):i=j:=by
 have h1:=jW 0 i W.nodup (pr ha);have h2:=jW 0 j W.nodup (pr hb);rw [e,h2]at h1;simpa using h1.symm
theorem jw.pos_eq(W:jw D){i:Nat}{nd:DN}(h:D[i]? =some nd):Proofs.YtnboahlopghcjaaGreatDoor.pos nd.id (ids D) 0=some i:=by
 have:=jW 0 i W.nodup (pr h)
 rwa [Nat.zero_add]at this
theorem nn.at_(W:jw D){p h:HT}(hp:nn D p h): ∃(i j:Nat) (m nd:DN),i<j/\D[i]? =some m/\D[j]? =some nd/\m.id=p/\nd.id=h/\p∈nd.ps:=by
 obtain⟨nd,fw,rfl,qg⟩:=hp;obtain⟨j,hj⟩:=List.mem_iff_getElem?.1 fw;obtain⟨i,m,qR,hm,e⟩:=W.up j nd p hj qg;exact⟨i,j,m,nd,qR,hm,hj,e,rfl,qg⟩
theorem eZ.at_(W:jw D){a h:HT}(hp:eZ D a h): ∃(i j:Nat) (m nd:DN),i<j/\D[i]? =some m/\D[j]? =some nd/\m.id=a/\nd.id=h:=by
 induction hp with
 |one hp=>
  obtain⟨i,j,m,nd,h1,h2,h3,h4,h5,_⟩:=hp.at_ W;exact⟨i,j,m,nd,h1,h2,h3,h4,h5⟩
 |more _ hp ih=>
  obtain⟨i,j,m,nd,h1,h2,h3,h4,h5⟩:=ih;obtain⟨i',j',m',nd',sF,uE,C0,WV,h5',_⟩:=hp.at_ W;have e:=W.inj h3 uE (by rw [h5,WV]);exact⟨i,j',m,nd',by omega,h2,C0,h4,h5'⟩
theorem eZ.irrefl(W:jw D)(a:HT): ¬eZ D a a:=fun h=>by
 obtain⟨i,j,m,nd,h1,h2,h3,h4,h5⟩:=h.at_ W;have:=W.inj h2 h3 (by rw [h4,h5]);omega
theorem eZ.mem(W:jw D){a h:HT}(hp:eZ D a h):a∈ids D/\h∈ids D:=by
 obtain⟨i,j,m,nd,_,h2,h3,h4,h5⟩:=hp.at_ W;exact⟨dB.2 ⟨m,List.mem_of_getElem? h2,h4⟩,dB.2 ⟨nd,List.mem_of_getElem? h3,h5⟩⟩
theorem tw(W:jw D){i:Nat}{nd:DN}(h:D[i]? =some nd)(a:HT):eZ D a nd.id↔ ∃p∈nd.ps,a=p\/eZ D a p:=by
 have key: ∀ {p},nn D p nd.id->p∈nd.ps:=fun⟨nd',hm,e,hp⟩=>by
  obtain⟨j,hj⟩:=List.mem_iff_getElem?.1 hm;have:=W.inj h hj e.symm;subst this;rw [h]at hj;cases hj;exact hp
 constructor
 ·intro ha
  generalize he:nd.id=x at ha;cases ha with
  |one hp=>subst he;exact⟨a,key hp,.inl rfl⟩
  |more zX hp=>subst he;exact⟨_,key hp,.inr zX⟩
 ·rintro⟨p,hp,e⟩
  have jQ:nn D p nd.id:=⟨nd,List.mem_of_getElem? h,rfl,hp⟩;rcases e with rfl|e
  ·exact .one jQ
  ·exact .more e jQ
theorem mI{nd:DN}{p h:HT}:nn (D++ [nd]) p h↔nn D p h\/(nd.id=h/\p∈nd.ps):=by
 unfold nn;constructor
 ·rintro⟨m,hm,e,hp⟩
  rw [List.mem_append,List.mem_singleton]at hm;rcases hm with hm|rfl
  ·exact .inl ⟨m,hm,e,hp⟩
  ·exact .inr ⟨e,hp⟩
 ·rintro(⟨m,hm,e,hp⟩|⟨e,hp⟩)
  ·exact⟨m,by simp [hm],e,hp⟩
  ·exact⟨nd,by simp,e,hp⟩
theorem iP(W:jw D){nd:DN}(hn:nd.id∉ids D){a h:HT}(hh:h∈ids D):eZ (D++ [nd]) a h↔eZ D a h:=by
 constructor
 ·intro ha
  induction ha with
  |one hp=>
   rcases mI.1 hp with hp|⟨e,_⟩
   ·exact .one hp
   ·subst e;exact absurd hh hn
  |more _ hp ih=>
   rcases mI.1 hp with hp|⟨e,_⟩
   ·exact .more (ih (eZ.mem W (.one hp)).1) hp
   ·subst e;exact absurd hh hn
 ·intro ha
  induction ha with
  |one hp=>exact .one (mI.2 (.inl hp))
  |more zX hp ih=>exact .more (ih (eZ.mem W zX).2) (mI.2 (.inl hp))
theorem km(D:DG)(nd:DN):ids (D++ [nd])=ids D++ [nd.id]:=by simp [ids]
theorem jw.snoc(W:jw D){nd:DN}(hn:nd.id∉ids D)(qg: ∀p∈nd.ps,p∈ids D)(hs:SS nd.ps):jw (D++ [nd]) where
 pos:=by simp
 nodup:=by
  rw [km,List.nodup_append];refine⟨W.nodup,by simp,fun a ha b hb=>?_⟩;rw [List.mem_singleton]at hb;subst hb;exact fun e=>hn (e▸ha)
 ss:=fun m hm=>by
  rw [List.mem_append,List.mem_singleton]at hm;rcases hm with hm|rfl
  ·exact W.ss m hm
  ·exact hs
 up:=fun i m p hi hp=>by
  rw [List.getElem?_append]at hi;split at hi
  ·rename_i cI
   obtain⟨j,q,h1,h2,h3⟩:=W.up i m p hi hp;exact⟨j,q,h1,by rw [List.getElem?_append_left (by omega)];exact h2,h3⟩
  ·rename_i gu
   have:m=nd:=by
    cases hk:i-D.length with
    |zero=>rw [hk]at hi;simpa using hi.symm
    |succ k=>rw [hk]at hi;simp at hi
   subst this;obtain⟨q,hq,e⟩:=dB.1 (qg p hp);obtain⟨j,hj⟩:=List.mem_iff_getElem?.1 hq;have ri:=(List.getElem?_eq_some_iff.1 hj).1;exact⟨j,q,by omega,by rw [List.getElem?_append_left ri];exact hj,e⟩
end
theorem jw.root(r:HT):jw [⟨r,[]⟩] where
 pos:=by simp
 nodup:=by simp [ids]
 ss:=fun nd h=>by simp at h;subst h;exact List.Pairwise.nil
 up:=fun i nd p h hp=>by
  cases i with
  |zero=>simp at h;subst h;simp at hp
  |succ i=>simp at h
def dp(D:DG)(h:HT)(l:List HT):Int:=
 if h∈ids D then 7 else if(df l).length=0\/(df l).length≠l.length then 9 else if ∃p∈df l,p∉ids D then 6 else 0
def lZ(D:DG)(h:HT)(l:List HT):DG:=if dp D h l=0 then D++ [⟨h,df l⟩]else D
theorem kc{D:DG}{h:HT}{l:List HT}(e:dp D h l=0):h∉ids D/\l≠ []/\l.Nodup/\ ∀p∈df l,p∈ids D:=by
 unfold dp at e;split at e
 ·cases e
 ·rename_i h1
  split at e
  ·cases e
  ·rename_i h2
   split at e
   ·cases e
   ·rename_i h3
    simp only [not_or,Decidable.not_not]at h2;refine⟨h1,fun hl=>h2.1 (by rw [hl];rfl),qH h2.2,fun p hp=>Classical.byContradiction fun hn=>h3 ⟨p,hp,hn⟩⟩
theorem jw.add{D:DG}(W:jw D)(h:HT)(l:List HT):jw (lZ D h l):=by
 unfold lZ;split
 ·rename_i e
  obtain⟨h1,_,_,h4⟩:=kc e;exact W.snoc h1 h4 (iD l)
 ·exact W
open Classical in
noncomputable def pick(D:DG)(is:HT->Prop):List HT:=df ((ids D).filter fun a=>decide (is a))
theorem ji{D:DG}{is:HT->Prop}{a:HT}:a∈pick D is↔a∈ids D/\is a:=by
 unfold pick;rw [dm,List.mem_filter];simp
theorem Cq{D:DG}{is:HT->Prop}{l:List HT}(h: ∀a,a∈l↔a∈ids D/\is a):df l=pick D is:=wJ fun x=>by
 rw [h,List.mem_filter];simp
theorem mH(D:DG)(is:HT->Prop):(pick D is).length<=D.length:=by
 unfold pick;refine Nat.le_trans (l9 _) (Nat.le_trans (List.length_filter_le _ _) ?_);rw [fR];exact Nat.le_refl _
noncomputable def dQ(D:DG)(l:List HT):List HT:=pick D fun a=> ∃h∈l,eZ D a h
noncomputable def gk(D:DG)(h:HT):List HT:=pick D fun a=>nn D h a
end Go.Proofs.YtnboahlopghcjaaGreatDoor
namespace Go.Proofs.YtnboahlopghcjaaGreatDoor
open Go.Proofs.Tryz
open Go Go.bV Go.RowKit
structure NS(w:World)(F:Nat->Prop)(A:Option Addr)(n:Nat)(l:List DN):Prop where
 len:l.length=n
 at_: ∀(i:Nat) nd,l[i]? =some nd-> ∃a pA pn pc,A=some a/\a.block<w.heap.size/\F a.block/\Cells w (a.add (i*33)) (nd.id.1.push (.slice pA pn pc))/\HS w pA pn nd.ps/\ ∀b,pA=some b->F b.block
section
variable{w w':World}{F F' S:Nat->Prop}{A:Option Addr}{n:Nat}{l:List DN}
theorem NS.aC(h:NS w F A n l)(hk:Kept S w w')(hn: ∀k,F k-> ¬S k):NS w' F A n l:=⟨h.len,fun i nd hi=>by
 obtain⟨a,pA,pn,pc,h1,h2,h3,h4,h5,h6⟩:=h.at_ i nd hi;exact⟨a,pA,pn,pc,h1,Nat.lt_of_lt_of_le h2 hk.size,h3,Cells.aC h4 hk (by rw [eI];exact hn _ h3),h5.aC hk (fun b hb=>hn _ (h6 b hb)),h6⟩⟩
theorem NS.mono(h:NS w F A n l)(hf: ∀k,F k->F' k):NS w F' A n l:=⟨h.len,fun i nd hi=>by
 obtain⟨a,pA,pn,pc,h1,h2,h3,h4,h5,h6⟩:=h.at_ i nd hi;exact⟨a,pA,pn,pc,h1,h2,hf _ h3,h4,h5,fun b hb=>hf _ (h6 b hb)⟩⟩
theorem tU{h:HT}{v:Value}{j:Nat}{u:Value}(hj:h.1[j]? =some u):(h.1.push v)[j]? =some u:=by
 have cI:=(Array.getElem?_eq_some_iff.1 hj).1;rw [Array.getElem?_push,if_neg (by omega),hj]
theorem po(h:HT)(v:Value):(h.1.push v)[32]? =some v:=by
 have:=h.2.1;rw [Array.getElem?_push,if_pos (by omega)]
theorem NS.id(h:NS w F A n l){i:Int}{nd:DN}(h0:0<=i)(hx:l[i.toNat]? =some nd){k:Array Value->Prop}(hk:k nd.id.1):
 (0<=i/\i<(n:Int))/\Is A fun a=> ∃t:Array Value,(t.size=32/\Cells w ((a.add (i.toNat*33)).add 0) t)/\k t:=by
 obtain⟨a,pA,pn,pc,rfl,_,_,h4,_,_⟩:=h.at_ _ nd hx;have:=(List.getElem?_eq_some_iff.1 hx).1;have:=h.len;refine⟨⟨h0,by omega⟩,nd.id.1,⟨nd.id.2.1,fun j v hj=>?_⟩,hk⟩;rw [add_zero];exact h4 j v (tU hj)
theorem NS.ps(h:NS w F A n l){i:Int}{nd:DN}(h0:0<=i)(hx:l[i.toNat]? =some nd){k:Option Addr->Nat->Nat->Prop}(hk: ∀pA pn pc,HS w pA pn nd.ps->(∀b,pA=some b->F b.block)->k pA pn pc):
 (0<=i/\i<(n:Int))/\Is A fun a=> ∃pA pn pc,w.cell? ((a.add (i.toNat*33)).add 32)=some (.slice pA pn pc)/\k pA pn pc:=by
 obtain⟨a,pA,pn,pc,rfl,_,_,h4,h5,h6⟩:=h.at_ _ nd hx;have:=(List.getElem?_eq_some_iff.1 hx).1;have:=h.len;exact⟨⟨h0,by omega⟩,pA,pn,pc,h4 32 _ (po _ _),hk _ _ _ h5 h6⟩
theorem NS.cells(h:NS w F A n l): ∀k,k<=n-> ∃news:List Value,news.length=k*33/\(∀a,A=some a-> ∀j u,news[j]? =some u->w.cell? (a.add j)=some u)/\(∀u∈news,u.oneCell'=true)/\
 ∀(i:Nat) nd,i<k->l[i]? =some nd-> ∃pA pn pc,HS w pA pn nd.ps/\(∀b,pA=some b->F b.block)/\ ∀(j:Nat) v,(nd.id.1.push (.slice pA pn pc))[j]? =some v->news[i*33+j]? =some v
 |0,_=>⟨[],rfl,by simp,by simp,by intro i nd hi;omega⟩
 |k+1,hk=>by
  obtain⟨news,e1,e2,e3,e4⟩:=h.cells k (by omega);have hlen:=h.len;obtain⟨nd,fw⟩: ∃nd,l[k]? =some nd:=⟨_,List.getElem?_eq_getElem (by omega)⟩;obtain⟨a,pA,pn,pc,hA,h2,h3,h4,h5,h6⟩:=h.at_ _ nd fw;have kZ:(nd.id.1.push (.slice pA pn pc)).size=33:=by rw [Array.size_push,nd.id.2.1]
  refine⟨news++(nd.id.1.push (.slice pA pn pc)).toList,by rw [List.length_append,e1,Array.length_toList,kZ];omega,fun a' zX j u hj=>?_,fun u hu=>?_,fun i md hi ve=>?_⟩
  ·rw [List.getElem?_append]at hj
   split at hj
   ·exact e2 a' zX j u hj
   ·rename_i gu
    rw [hA]at zX;cases zX;have:=h4 (j-news.length) u (by rw [<-Array.getElem?_toList];exact hj)
    rwa [kF,show k*33+(j-news.length)=j by omega]at this
  ·rw [List.mem_append]at hu
   rcases hu with hu|hu
   ·exact e3 u hu
   ·simp only [Array.toList_push,List.mem_append,List.mem_singleton]at hu
    rcases hu with hu|rfl
    ·exact nd.id.2.one u hu
    ·rfl
  ·by_cases hik:i<k
   ·obtain⟨qA,qn,qc,f1,f2,f3⟩:=e4 i md hik ve
    exact⟨qA,qn,qc,f1,f2,fun j v hj=>by
     have:=f3 j v hj;rw [List.getElem?_append_left (List.getElem?_eq_some_iff.1 this).1];exact this⟩
   ·have:i=k:=by omega
    subst this;rw [fw]at ve;cases ve;exact⟨pA,pn,pc,h5,h6,fun j v hj=>by
     rw [List.getElem?_append_right (by omega),e1,show i*33+j-i*33=j by omega,Array.getElem?_toList];exact hj⟩
theorem wK:xP prog ct bL 33 56:=⟨by kernel_rfl,by kernel_rfl⟩
theorem C9:Qp prog bL=some ([(0,32),(32,1)],List.replicate 32 (.int .u8 0)++ [.slice none 0 0]):=by kernel_rfl
theorem EM(h:HT)(A:Option Addr)(n c:Nat):prog.built bL [(0,.agg h.1),(1,.slice A n c)]=some (h.1.push (.slice A n c)):=by
 have hs:=h.2.1;rw [mS C9,iA (off:=0) (size:=32) rfl (by simpa [Value.cells]using hs) (by simp),iA (off:=32) (size:=1) rfl rfl (by
  rw [List.size_toArray,ly (by simp [Value.cells,hs])];simp)]
 simp only [Instr.fill,Option.some.injEq];apply Array.ext';unfold gz;simp [Value.cells,hs]
structure ti(w:World)(F:Nat->Prop)(r:Nat)(D:DG):Prop where
 ex: ∃(A:Option Addr) (c:Nat) (cs:Array Value) (t:TypeId),w.heap[r]? =some (.cells cs t (0,0))/\cs[0]? =some (.slice A D.length c)/\NS w F A D.length D
 gU: ¬F r
theorem ti.aC{r:Nat}{D:DG}(h:ti w F r D)(hk:Kept S w w')(hr: ¬S r)(hn: ∀k,F k-> ¬S k):ti w' F r D:=by
 obtain⟨A,c,cs,t,h1,h0,h2⟩:=h.ex;exact⟨⟨A,c,cs,t,hk.heap h1 hr,h0,h2.aC hk hn⟩,h.gU⟩
theorem ti.same{r:Nat}{D:DG}(h:ti w F r D)(hk:Kept Nil w w'):ti w' F r D:=h.aC hk (fun h=>h) (fun _ _ h=>h)
theorem ti.lt{r:Nat}{D:DG}(h:ti w F r D):r<w.heap.size:=by obtain⟨A,c,cs,t,h1,_⟩:=h.ex;exact aQ h1
theorem ti.go{r:Nat}{D:DG}(h:ti w F r D){k:Option Addr->Nat->Nat->Prop}(hk: ∀A c,NS w F A D.length D->k A D.length c):
 ∃A n m,w.cell? ((⟨r,0,none⟩:Addr).add 0)=some (.slice A n m)/\k A n m:=by
 obtain⟨A,c,cs,t,h1,h0,h2⟩:=h.ex;exact⟨A,_,c,by rw [add_zero,ax h1];exact h0,hk A c h2⟩
theorem ti.go'{r:Nat}{D:DG}(h:ti w F r D)(kw:Kept Nil w w'){k:Option Addr->Nat->Nat->Prop}(hk: ∀A c,NS w F A D.length D->k A D.length c):
 ∃A n m,w'.cell? ((⟨r,0,none⟩:Addr).add 0)=some (.slice A n m)/\k A n m:=by
 obtain⟨A,c,cs,t,h1,h0,h2⟩:=h.ex;exact⟨A,_,c,by rw [add_zero,ax (kw.heap h1 (fun h=>h))];exact h0,hk A c h2⟩
theorem NS.ps'(h:NS w F A n l)(kw:Kept Nil w w'){i:Int}{nd:DN}(h0:0<=i)(hx:l[i.toNat]? =some nd){k:Option Addr->Nat->Nat->Prop}(hk: ∀pA pn pc,HS w pA pn nd.ps->k pA pn pc):
 (0<=i/\i<(n:Int))/\Is A fun a=> ∃pA pn pc,w'.cell? ((a.add (i.toNat*33)).add 32)=some (.slice pA pn pc)/\k pA pn pc:=by
 obtain⟨a,pA,pn,pc,rfl,_,_,h4,h5,h6⟩:=h.at_ _ nd hx;have:=(List.getElem?_eq_some_iff.1 hx).1;have:=h.len;exact⟨⟨h0,by omega⟩,pA,pn,pc,(kw.cell (h4 32 _ (po _ _)) (fun h=>h)),hk _ _ _ h5⟩
def BN(D:DG)(h:HT):Int:=match pos h (ids D) 0 with|some j=>(j:Int)|none=> -1
theorem pB{D:DG}{h:HT}:BN D h<0↔h∉ids D:=by
 unfold BN;rw [<-oI (l:=ids D) (i:=0)];cases hp:pos h (ids D) 0<;>simp
theorem rY{D:DG}{h:HT}:BN D h>=0↔h∈ids D:=by
 have:= @pB D h;constructor
 ·intro hg;exact Classical.byContradiction fun hn=>by have:=this.2 hn;omega
 ·intro hm;exact Classical.byContradiction fun hn=>this.1 (by omega) hm
theorem KE{D:DG}{h:HT}(hm:h∈ids D): ∃nd,BN D h>=0/\D[(BN D h).toNat]? =some nd/\nd.id=h:=by
 have h1:=rY.2 hm;unfold BN at*;cases hp:pos h (ids D) 0 with
 |none=>rw [hp]at h1;simp at h1
 |some j=>
  obtain⟨_,h2⟩:=tV hp;obtain⟨nd,h3,h4⟩:=GI h2;exact⟨nd,by simp,by simpa using h3,h4⟩
theorem wZ{D:DG}{i:Nat}{nd:DN}(h:D[i]? =some nd):(ids D).take (i+1)=(ids D).take i++ [nd.id]:=by
 rw [List.take_add_one,pr h];rfl
theorem vW{h:HT}: ∀ {l:List HT} {i k:Nat},h∉l.take k->l[k]? =some h->pos h l i=some (i+k)
 | [],_,_,_,e=>by simp at e
 |x::l,i,0,_,e=>by
  simp only [List.getElem?_cons_zero,Option.some.injEq]at e;unfold pos;rw [if_pos e.symm,Nat.add_zero]
 |x::l,i,k+1,hn,e=>by
  simp only [List.getElem?_cons_succ]at e;rw [List.take_succ_cons,List.mem_cons,not_or]at hn;unfold pos;rw [if_neg hn.1,vW (i:=i+1) hn.2 e]
  congr 1
  omega
variable{r:Nat}{D:DG}{K:Value->World->Prop}
theorem mh(H:ti w F r D)(hD:D.length<=1000000)(h:HT)(hK: ∀w',Kept Nil w w'->K (.int .i64 (BN D h)) w'):
 bn prog bA.id #[.pointer (some ⟨r,0,none⟩),.agg h.1] w K:=by
 refine bA.of ?_;unfold bA.W;intro w3;have k3:Kept Nil w w3:=(Kept.refl Nil w).alloc _;have oo:w3.heap[w.heap.size]? =some (.cells h.1 ag (0,0)):=aJ w _;clear_value w3;refine bA.b6 (I:=fun s w'=> ∃i:Nat,s=(0,(i:Int))/\i<=D.length/\Kept Nil w3 w'/\h∉(ids D).take i) (μ:=fun s _=>((D.length:Int)-s.2).toNat) (s:=(0,0)) ⟨0,rfl,Nat.zero_le _,Kept.refl _ _,by simp⟩ ?_;rintro s w' ⟨i,rfl,hi,kw,mN⟩;have kk:Kept Nil w w':=k3.trans kw (fun _ _ h=>h);refine(H.same kk).go fun A c rf=>?_;refine Split.dec (fun jf=>?_) (fun gu=>?_)
 ·simp only at jf
  have dP:i<D.length:=by omega
  obtain⟨nd,fw⟩: ∃nd,D[i]? =some nd:=⟨_,List.getElem?_eq_getElem dP⟩;intro w10;have mC:Kept Nil w3 w10:=kw.drew;have D8:Kept Nil w w10:=k3.trans mC (fun _ _ h=>h);clear_value w10;refine(H.same D8).go fun A c rf=>?_;refine rf.id (i:=(i:Int)) (by omega) (by rw [Int.toNat_natCast];exact fw) ⟨h.1,⟨h.2.1,Cells.bC (mC.heap oo (fun h=>h))⟩,⟨nd.id.2.ints,h.2.ints⟩,?_⟩;rw [dq];refine Split.dec (fun he=>?_) (fun he=>?_)
  ·have:=hK w10 D8
   unfold BN at this;rw [vW (i:=0) mN (by rw [<-he];exact pr fw),Nat.zero_add]at this;exact this
  ·simp only
   rw [dE (n:=(i:Int)) (by omega) (by omega)];refine⟨(0,(i:Int)+1),rfl,⟨i+1,rfl,dP,mC,?_⟩,by simp only;omega⟩;rw [wZ fw,List.mem_append,List.mem_singleton,not_or];exact⟨mN,fun e=>he e.symm⟩
 ·simp only at gu
  rw [aS,bA.cX];rw [List.take_of_length_le (by rw [fR];omega)]at mN;have:=hK w' kk;unfold BN at this;rw [oI.2 mN]at this;exact this
end
end Go.Proofs.YtnboahlopghcjaaGreatDoor
namespace Go.Proofs.YtnboahlopghcjaaGreatDoor
open Go.Proofs.Tryz
open Go Go.bV Go.RowKit
section
variable{w w':World}{F F' S:Nat->Prop}{A:Option Addr}{n c B:Nat}{l:List DN}{news:List Value}{r:Nat}{D:DG}{K:Value->World->Prop}
theorem DV(h:Row w B bL 33 A n c news)(hl:l.length=n)(hF: ∀k,bg A=some k->F k)
 (hc: ∀(i:Nat) nd,l[i]? =some nd-> ∃pA pn pc,HS w pA pn nd.ps/\(∀b,pA=some b->F b.block)/\ ∀(j:Nat) v,(nd.id.1.push (.slice pA pn pc))[j]? =some v->news[i*33+j]? =some v):NS w F A n l:=
 ⟨hl,fun i nd hi=>by
   obtain⟨pA,pn,pc,h1,h2,h3⟩:=hc i nd hi;have:=(List.getElem?_eq_some_iff.1 hi).1;obtain⟨b,rfl⟩:=Row.some h (by omega);obtain⟨_,cur,oR⟩:=Row.bC h (k:=b) rfl;exact⟨_,pA,pn,pc,rfl,aQ oR,hF b rfl,fun j v hj=>by rw [kF];exact Row.cells h _ _ (h3 j v hj),h1,h2⟩⟩
theorem wD(h:NS w F A n l){cx:Nat}(h0:0<n)(hn:n<=100000):
 ∃A' c' w' news,(Builtin.append_ #[ct,ct] ct #[.slice none 0 0,.slice A n cx]).run prog w=.ok (.slice A' n c') w'/\
  Row w' w.heap.size bL 33 A' n c' news/\Kept Nil w w'/\
  ∀(i:Nat) nd,l[i]? =some nd-> ∃pA pn pc,HS w pA pn nd.ps/\(∀b,pA=some b->F b.block)/\ ∀(j:Nat) v,(nd.id.1.push (.slice pA pn pc))[j]? =some v->news[i*33+j]? =some v:=by
 obtain⟨news,e1,e2,e3,e4⟩:=h.cells n (Nat.le_refl _);have hlen:=h.len;obtain⟨nd,fw⟩: ∃nd,l[0]? =some nd:=⟨_,List.getElem?_eq_getElem (by omega)⟩;obtain⟨a,_,_,_,rfl,_⟩:=h.at_ _ nd fw;obtain⟨A',c',w',hr,e8,hg,hb⟩:=fi (P:=prog) (t:=ct) (ty:=ct) (bytes:=56) wK (Row.nil w w.heap.size _ _) (a:=a) (m:=n) (cx:=cx) (news:=news) e1 (e2 a rfl) e3 (by omega) (by unfold maxLen;omega) (Nat.le_refl _);rw [Nat.zero_add]at hr e8;rw [List.nil_append]at e8;exact⟨A',c',w',news,hr,e8,Kept.eA (Kept.refl _ _) hg (fun k hk=>by cases hk),fun i nd hi=>e4 i nd (by have:=(List.getElem?_eq_some_iff.1 hi).1;omega) hi⟩
theorem wE(h:Row w B bL 33 A n c news)(hn:n<=100000)(hB:B<=w.heap.size){b:Nat}{arr:Array Value}(hb:w.heap[b]? =some (.cells arr bL (0,0)))(hs:arr.size=33)(h1: ∀u∈arr.toList,u.oneCell'=true):
 ∃A' c' w',(Builtin.append_ #[ct,ct] ct #[.slice A n c,.slice (some ⟨b,0,none⟩) 1 1]).run prog w=.ok (.slice A' (n+1) c') w'/\
  Row w' B bL 33 A' (n+1) c' (news++arr.toList)/\w.grownBy w' (bg A):=by
 obtain⟨A',c',w',hr,e8,hg,hb⟩:=fi (P:=prog) (t:=ct) (ty:=ct) (bytes:=56) wK h (a:=⟨b,0,none⟩) (m:=1) (cx:=1) (news:=arr.toList) (by simpa using hs)
  (fun j u hj=>by rw [ba,Nat.zero_add,ax hb];simpa using hj) h1 (by omega) (by unfold maxLen;omega) hB
 exact⟨A',c',w',hr,e8,hg⟩
theorem I3{nd:DN}{pA:Option Addr}{pn pc:Nat}(h:Row w B bL 33 A (n+1) c (news++(nd.id.1.push (.slice pA pn pc)).toList))(xK:news.length=n*33)(hl:l.length=n)(hF: ∀k,bg A=some k->F k)
 (hc: ∀(i:Nat) nd,l[i]? =some nd-> ∃pA pn pc,HS w pA pn nd.ps/\(∀b,pA=some b->F b.block)/\ ∀(j:Nat) v,(nd.id.1.push (.slice pA pn pc))[j]? =some v->news[i*33+j]? =some v)
 (hp:HS w pA pn nd.ps) (Ir: ∀b,pA=some b->F b.block):NS w F A (n+1) (l++ [nd]):=by
 refine DV h (by simp [hl]) hF fun i md hi=>?_;rw [List.getElem?_append]at hi;split at hi
 ·obtain⟨qA,qn,qc,h1,h2,h3⟩:=hc i md hi
  exact⟨qA,qn,qc,h1,h2,fun j v hj=>by
   have:=h3 j v hj;rw [List.getElem?_append_left (List.getElem?_eq_some_iff.1 this).1];exact this⟩
 ·rename_i gu
  have Et:i=n/\md=nd:=by
   cases hk:i-l.length with
   |zero=>rw [hk]at hi;exact⟨by omega,by simpa using hi.symm⟩
   |succ k=>rw [hk]at hi;simp at hi
  obtain⟨rfl,rfl⟩:=Et;exact⟨pA,pn,pc,hp,Ir,fun j v hj=>by
   rw [List.getElem?_append_right (by omega),xK,show i*33+j-i*33=j by omega,Array.getElem?_toList];exact hj⟩
theorem NS.same(h:NS w F A n l)(hk:Kept Nil w w'):NS w' F A n l:=h.aC hk fun _ _ h=>h
theorem ti.mono(h:ti w F r D)(hf: ∀k,F k->F' k)(hr: ¬F' r):ti w F' r D:=by
 obtain⟨A,c,cs,t,h1,h0,h2⟩:=h.ex;exact⟨⟨A,c,cs,t,h1,h0,h2.mono hf⟩,hr⟩
theorem yq(h:HT)(A:Option Addr)(n c:Nat): ∀u∈(h.1.push (.slice A n c)).toList,u.oneCell'=true:=fun u hu=>by
 simp only [Array.toList_push,List.mem_append,List.mem_singleton]at hu;rcases hu with hu|rfl
 ·exact h.2.one u hu
 ·rfl
theorem Cn(H:ti w F r D)(W:jw D)(hD:D.length<=10000){h:HT}{lp:List HT}{A:Option Addr}{n c:Nat}(hl:HS w A n lp)(hn:n<=400000)
 (hK: ∀w',ti w' (fun k=>F k\/(w.heap.size<=k/\k<w'.heap.size)) r (lZ D h lp)->Kept (· =r) w w'->K (.int .i64 (dp D h lp)) w'):
 bn prog bp.id #[.pointer (some ⟨r,0,none⟩),.agg h.1,.slice A n c] w K:=by
 have Zh:=H.lt;have hlen:=hl.len;have mN: ∀w',Kept Nil w w'-> ∀e,dp D h lp=e->e≠0->K (.int .i64 e) w':=fun w' k e he fG=>by
  have:=hK w' ?_ (k.mono fun _ _ h=>h.elim)
  ·rw [he]at this;exact this
  ·unfold lZ
   rw [if_neg (by rw [he];exact fG)];exact(H.same k).mono (fun _ h=>.inl h) (fun e=>e.elim H.gU (fun h=>absurd h.1 (by omega)))
 refine bp.of ?_;unfold bp.W;intro w4;have k4:Kept Nil w w4:=(Kept.refl _ _).alloc _;have qi:w4.heap[w.heap.size]? =some (.cells h.1 ag (0,0)):=aJ w _;clear_value w4;refine⟨h.1,⟨h.2.1,Cells.bC qi⟩,mh (H.same k4) (by omega) h fun w7 k7=>⟨_,rfl,Split.dec (fun gu=>?_) (fun Oi=>?_)⟩⟩
 ·refine mN w7 (k4.trans k7 (fun _ _ h=>h)) 7 ?_ (by omega)
  unfold dp;rw [if_pos (rY.1 gu)]
 have xg:h∉ids D:=fun hm=>Oi (rY.2 hm);have AG:Kept Nil w w7:=k4.trans k7 (fun _ _ h=>h);refine nv (hl.same AG) hn fun zK C7 w10 vU mC=>⟨zK,_,C7,rfl,?_⟩;have D8:Kept Nil w w10:=AG.trans mC (fun _ _ h=>h);have AS:(df lp).length<=n:=by have:=l9 lp;omega
 by_cases h0:(df lp).length=0
 ·refine Split.yes (by simp [h0]) ?_
  refine mN w10 D8 9 ?_ (by omega);unfold dp;rw [if_neg xg,if_pos (.inl h0)]
 refine Split.no (beq_eq_false_iff_ne.2 (by omega)) ?_;by_cases h1:(df lp).length≠n
 ·refine Split.yes (bne_iff_ne.2 (by omega)) ?_
  refine mN w10 D8 9 ?_ (by omega);unfold dp;rw [if_neg xg,if_pos (.inr (by omega))]
 replace h1:(df lp).length=n:=by omega
 refine Split.no (by rw [h1];simp) ?_;refine bp.b6 (I:=fun s w'=> ∃i:Nat,s=(0,(i:Int))/\i<=(df lp).length/\(∀p∈(df lp).take i,p∈ids D)/\Kept Nil w10 w') (μ:=fun s _=>(((df lp).length:Int)-s.2).toNat) (s:=(0,0)) ⟨0,rfl,Nat.zero_le _,by simp,Kept.refl _ _⟩ ?_;rintro s w' ⟨i,rfl,hi,cS,kw⟩;have kk:Kept Nil w w':=D8.trans kw (fun _ _ h=>h);have XS:bO w' w7.heap.size zK (df lp).length C7 (df lp):=Row.aC vU kw (fun _ _ h=>h);refine Split.dec (fun jf=>?_) (fun gu=>?_)
 ·simp only at jf
  have dP:i<(df lp).length:=by omega
  obtain⟨x,hx⟩: ∃x,(df lp)[i]? =some x:=⟨_,List.getElem?_eq_getElem dP⟩;refine XS.hs.load (i:=(i:Int)) (by omega) hx (mh (H.same kk) (by omega) x fun w2 k2=>⟨_,rfl,Split.dec (fun xh=>?_) (fun ja=>?_)⟩)
  ·have Wk:=pB.1 xh
   refine mN w2 (kk.trans k2 (fun _ _ h=>h)) 6 ?_ (by omega);unfold dp;rw [if_neg xg,if_neg (by omega),if_pos ⟨x,List.mem_of_getElem? hx,Wk⟩]
  ·simp only
   rw [dE (n:=(i:Int)) (by omega) (by omega)];refine⟨(0,(i:Int)+1),rfl,⟨i+1,rfl,dP,fun p hp=>?_,kw.trans k2 (fun _ _ h=>h)⟩,by simp only;omega⟩;rcases(bH hx).1 hp with hp|rfl
   ·exact cS p hp
   ·exact rY.1 (by omega)
 ·simp only at gu
  rw [List.take_of_length_le (by omega)]at cS;have Un:dp D h lp=0:=by
   unfold dp;rw [if_neg xg,if_neg (by omega),if_neg (fun⟨p,hp,JH⟩=>JH (cS p hp))]
  have hD':lZ D h lp=D++ [⟨h,df lp⟩]:=by unfold lZ;rw [if_pos Un]
  rw [Un,hD']at hK;have L8:=W.pos;rw [aS,bp.cX];unfold bp.cJ;intro B8;have Nb:Kept Nil w B8:=kk.drew;have GC:Kept Nil w10 B8:=kw.drew;have ag9:B8.heap=w'.heap:=rfl;clear_value B8;have UI:B8.heap[w.heap.size]? =some (.cells h.1 ag (0,0)):=(GC.heap (mC.heap (k7.heap qi (fun h=>h)) (fun h=>h)) (fun h=>h));obtain⟨A,c,ajQ,t27,GO,Uk,rf⟩:=(H.same Nb).ex;refine⟨A,_,c,by rw [add_zero,ax GO];exact Uk,h.1,⟨h.2.1,Cells.bC UI⟩,?_⟩;rw [EM];have kZ:(h.1.push (.slice zK (df lp).length C7)).size=33:=by rw [Array.size_push,h.2.1]
  have aib: ∀ {v},Kept Nil w v->w.heap.size<=v.heap.size:=fun k=>k.size;have abJ: ∀b,zK=some b->w.heap.size<=b.block:=fun b hb=>Nat.le_trans AG.size (Row.bC vU (k:=b.block) (by rw [hb];rfl)).1;have Ka: ∀(A':Option Addr) (c':Nat) (v:World) (news:List Value),Row v B8.heap.size bL 33 A' (D.length+1) c' (news++(h.1.push (.slice zK (df lp).length C7)).toList)->news.length=D.length*33->Kept Nil B8 v->
   (∀(i:Nat) nd,D[i]? =some nd-> ∃pA pn pc,HS v pA pn nd.ps/\(∀b,pA=some b->F b.block)/\ ∀(j:Nat) u,(nd.id.1.push (.slice pA pn pc))[j]? =some u->news[i*33+j]? =some u)->
   Wr v ((⟨r,0,none⟩:Addr).add 0)/\K (.int .i64 0) (v.setCell ((⟨r,0,none⟩:Addr).add 0) (.slice A' (D.length+1) c')):=by
   intro A' c' v news e8 xK kv uC;have MV:Kept Nil w v:=Nb.trans kv (fun _ _ h=>h);obtain⟨A0,c0,cs0,t0,iM,aaU,_⟩:=(H.same MV).ex;have LG:=(Array.getElem?_eq_some_iff.1 aaU).1;rw [add_zero];have k3:Kept (· =r) v (v.setCell ⟨r,0,none⟩ (.slice A' (D.length+1) c')):=Kept.setCell (S:=fun k=>k=r) (Kept.refl _ v) (p:=⟨r,0,none⟩) (fun _=>rfl) _;refine⟨dM iM LG,hK _ ⟨⟨A',c',cs0.setIfInBounds 0 (.slice A' (D.length+1) c'),t0,?_,?_,?_⟩,fun e=>e.elim H.gU (fun h=>absurd h.1 (by omega))⟩ ((MV.mono (S':=fun k=>k=r) (fun _ _ h=>h.elim)).trans k3 (fun _ _ h=>h))⟩
   ·rw [cU iM 0]
   ·rw [List.length_append]
    simp [LG]
   ·have AT:=k3.size
    have Ve: ∀b,zK=some b->b.block<v.heap.size:=fun b hb=>by
     obtain⟨_,cur,hc⟩:=Row.bC vU (k:=b.block) (by rw [hb];rfl);have:=aQ hc;have:=GC.size;have:=kv.size;omega
    have Oc:=I3 (F:=fun k=>F k\/(w.heap.size<=k/\k<(v.setCell ⟨r,0,none⟩ (.slice A' (D.length+1) c')).heap.size)) (nd:=⟨h,df lp⟩) e8 xK rfl (fun k hk=>by
     obtain⟨h1,cur,hc⟩:=Row.bC e8 hk;have:=aQ hc;have:=Nb.size;exact .inr ⟨by omega,by omega⟩) (fun i nd hi=>by
     obtain⟨pA,pn,pc,h1,h2,h3⟩:=uC i nd hi;exact⟨pA,pn,pc,h1,fun b hb=>.inl (h2 b hb),h3⟩) ((vU.hs.same GC).same kv) (fun b hb=>.inr ⟨abJ b hb,by have:=Ve b hb;omega⟩)
    have:=Oc.aC k3 (fun k hk e=>by
     subst e;rcases hk with hk|hk
     ·exact H.gU hk
     ·omega)
    rw [List.length_append];exact this
  refine⟨?_,?_⟩
  ·obtain⟨A1,c1,ra,news,kQ,kW,AJ,uC⟩:=wD rf (cx:=c) L8 (by omega)
   refine⟨A1,_,c1,ra,kQ,⟨h.1,rfl,h.2.1,Cells.bC (AJ.heap UI (fun h=>h))⟩,kZ,?_⟩;intro nh;have Y0:nh=ra.alloc (.cells (h.1.push (.slice zK (df lp).length C7)) bL):=by
    show ra.alloc (.cells ((h.1.push (.slice zK (df lp).length C7)).toList++ []).toArray bL)=_
    rw [List.append_nil,Array.toArray_toList]
   have zO:Kept Nil ra nh:=(Kept.refl _ _).alloc _;have UG:nh.heap[ra.heap.size]? =some (.cells (h.1.push (.slice zK (df lp).length C7)) bL (0,0)):=by rw [Y0];exact aJ ra _
   clear_value nh;have yl:=Row.aC kW zO (fun _ _ h=>h);obtain⟨A2,c2,sO,jv,fO,J0⟩:=wE yl (by omega) (Nat.le_trans AJ.size zO.size) UG kZ (yq _ _ _ _);have sQ:Kept Nil B8 sO:=Kept.eA (AJ.trans zO (fun _ _ h=>h)) J0 (fun k hk=>(Row.bC kW hk).1);refine⟨A2,_,c2,sO,jv,?_⟩;exact Ka A2 c2 sO news fO (Row.len kW) sQ (fun i nd hi=>by
    obtain⟨pA,pn,pc,h1,h2,h3⟩:=uC i nd hi;exact⟨pA,pn,pc,h1.same sQ,h2,h3⟩)
  ·refine⟨kZ,?_⟩
   intro E8;have YZ:E8=B8.alloc (.cells (h.1.push (.slice zK (df lp).length C7)) bL):=by
    show B8.alloc (.cells ((h.1.push (.slice zK (df lp).length C7)).toList++ []).toArray bL)=_
    rw [List.append_nil,Array.toArray_toList]
   have Gq:Kept Nil B8 E8:=(Kept.refl _ _).alloc _;have Kg:E8.heap[B8.heap.size]? =some (.cells (h.1.push (.slice zK (df lp).length C7)) bL (0,0)):=by rw [YZ];exact aJ B8 _
   clear_value E8;refine⟨by rw [add_zero,ax (Gq.heap GO (fun h=>h))];exact Uk,?_⟩;obtain⟨A1,c1,B7,news,kQ,kW,M9,uC⟩:=wD (rf.same Gq) (cx:=c) L8 (by omega);have UE:=M9.heap Kg (fun h=>h);obtain⟨A2,c2,E7,jv,fO,J0⟩:=wE kW (by omega) M9.size UE kZ (yq _ _ _ _);have RO:Kept Nil E8 E7:=Kept.eA M9 J0 (fun k hk=>(Row.bC kW hk).1);have k43:Kept Nil B8 E7:=Gq.trans RO (fun _ _ h=>h);refine⟨A1,_,c1,B7,kQ,A2,_,c2,E7,jv,?_⟩;exact Ka A2 c2 E7 news (Row.base fO fun k hk=>Nat.le_trans Gq.size (Row.bC fO hk).1) (Row.len kW) k43 (fun i nd hi=>by
    obtain⟨pA,pn,pc,h1,h2,h3⟩:=uC i nd hi;exact⟨pA,pn,pc,h1.same RO,h2,h3⟩)
end
end Go.Proofs.YtnboahlopghcjaaGreatDoor
namespace Go.Proofs.YtnboahlopghcjaaGreatDoor
open Go.Proofs.Tryz
open Go Go.bV Go.RowKit
theorem rD: ∀ {l m:List HT},l.Nodup->(∀x∈l,x∈m)->l.length<=m.length
 | [],_,_,_=>Nat.zero_le _
 |x::l,m,hn,h=>by
  rw [List.nodup_cons]at hn;have hx:=h x (by simp);have:=rD (l:=l) (m:=m.erase x) hn.2 (fun y hy=>by
   have fG:y≠x:=fun e=>hn.1 (e▸hy);exact(List.mem_erase_of_ne fG).2 (h y (by simp [hy])))
  rw [List.length_erase_of_mem hx]at this;have ja:0<m.length:=List.length_pos_of_mem hx;simp only [List.length_cons];omega
structure PB(w0 w':World)(D:DG)(l out:List HT)(A1:Option Addr)(c1:Nat)(A2:Option Addr)(c2:Nat):Prop where
 r1:bO w' w0.heap.size A1 out.length c1 out
 r2:bO w' w0.heap.size A2 (l.length+out.length) c2 (l++out)
 ap: ∀k,bg A1=some k->bg A2≠some k
 nd:out.Nodup
 Db: ∀x∈out,∃h∈l,eZ D x h
 kp:Kept Nil w0 w'
section
variable{w w' lW:World}{F S:Nat->Prop}{D:DG}{l out:List HT}{A1 A2:Option Addr}{c1 c2 r:Nat}{K:Value->World->Prop}
theorem PB.same(h:PB w w' D l out A1 c1 A2 c2)(k:Kept Nil w' lW):PB w lW D l out A1 c1 A2 c2:=
 ⟨Row.aC h.r1 k (fun _ _ h=>h),Row.aC h.r2 k (fun _ _ h=>h),h.ap,h.nd,h.Db,h.kp.trans k (fun _ _ h=>h)⟩
theorem PB.len(h:PB w w' D l out A1 c1 A2 c2)(W:jw D):out.length<=D.length:=by
 rw [<-fR D];exact rD h.nd fun x hx=>by obtain⟨_,_,ha⟩:=h.Db x hx;exact(ha.mem W).1
theorem jb(w:World)(x:HT):HS (w.alloc (.cells (x.1.toList++ []).toArray ag)) (some ⟨w.heap.size,0,none⟩) 1 [x]:=by
 refine HS.one (t:=ag) (fr:=(0,0)) ?_;rw [List.append_nil,Array.toArray_toList];exact aJ w _
theorem PB.add(h:PB w w' D l out A1 c1 A2 c2){x:HT}(hx:x∉out)(ha: ∃h∈l,eZ D x h)(hb:l.length+out.length<=500000):
 ∃Ig Fk v,(Builtin.append_ #[az,az] az #[.slice A1 out.length c1,.slice (some ⟨w'.heap.size,0,none⟩) 1 1]).run prog (w'.alloc (.cells (x.1.toList++ []).toArray ag))=.ok (.slice Ig (out.length+1) Fk) v/\Kept (fun k=>w.heap.size<=k) w' v/\
 ∃Fo xO u,(Builtin.append_ #[az,az] az #[.slice A2 (l.length+out.length) c2,.slice (some ⟨v.heap.size,0,none⟩) 1 1]).run prog (v.alloc (.cells (x.1.toList++ []).toArray ag))=.ok (.slice Fo (l.length+out.length+1) xO) u/\
  PB w u D l (out++ [x]) Ig Fk Fo xO:=by
 have hkw:=h.kp.size;have k1:Kept Nil w' (w'.alloc (.cells (x.1.toList++ []).toArray ag)):=(Kept.refl _ _).alloc _;have xe:=jb w' x;generalize w'.alloc (.cells (x.1.toList++ []).toArray ag)=w1 at k1 xe⊢;have r1:bO w1 w.heap.size A1 out.length c1 out:=Row.aC h.r1 k1 (fun _ _ h=>h);have ahH:=k1.size;obtain⟨Ig,Fk,v,kQ,kW,hg1,xM⟩:=cD (cx:=1) az r1 xe (by omega) (by omega);have Ym:Kept (fun k=>bg A1=some k) w1 v:=Kept.grown (Kept.refl _ _) hg1 (fun k hk _=>hk);have hA1: ∀k,bg A1=some k->w.heap.size<=k/\k<w'.heap.size:=fun k hk=>by
  obtain⟨h1,cur,hc⟩:=Row.bC h.r1 hk;exact⟨h1,aQ hc⟩
 have Vd: ∀k,bg A2=some k->w.heap.size<=k/\k<w'.heap.size:=fun k hk=>by
  obtain⟨h1,cur,hc⟩:=Row.bC h.r2 hk;exact⟨h1,aQ hc⟩
 have kv:Kept (fun k=>w.heap.size<=k) w' v:=(k1.mono (fun _ _ h=>h.elim)).trans Ym (fun k _ e=>(hA1 k e).1);refine⟨Ig,Fk,v,kQ,kv,?_⟩;have k2:Kept Nil v (v.alloc (.cells (x.1.toList++ []).toArray ag)):=(Kept.refl _ _).alloc _;have AU:=jb v x;generalize v.alloc (.cells (x.1.toList++ []).toArray ag)=w2 at k2 AU⊢;have r2v:bO v w.heap.size A2 (l.length+out.length) c2 (l++out):=Row.aC (Row.aC h.r2 k1 (fun _ _ h=>h)) Ym (fun k hk e=>h.ap k e hk);have r2:bO w2 w.heap.size A2 (l.length+out.length) c2 (l++out):=Row.aC r2v k2 (fun _ _ h=>h);have NO:=Ym.size;have ahE:=k2.size;obtain⟨Fo,xO,u,jv,fO,J0,la⟩:=cD (cx:=1) az r2 AU (by omega) (by omega);have ku:Kept (fun k=>bg A2=some k) w2 u:=Kept.grown (Kept.refl _ _) J0 (fun k hk _=>hk);have abI: ∀k,bg Ig=some k->k<v.heap.size:=fun k hk=>by
  obtain⟨_,cur,hc⟩:=Row.bC kW hk;exact aQ hc
 have UO: ∀k,bg Ig=some k->bg A2≠some k:=fun k hk e=>by
  rcases xM k hk with h'|h'
  ·exact h.ap k h' e
  ·have:=(Vd k e).2;omega
 have QY:bO u w.heap.size Ig (out.length+1) Fk (out++ [x]):=Row.aC (Row.aC kW k2 (fun _ _ h=>h)) ku (fun k hk e=>UO k hk e);refine⟨Fo,xO,u,jv,?_⟩;refine⟨?_,?_,fun k hk e=>?_,?_,fun y hy=>?_,?_⟩
 ·rw [List.length_append];exact QY
 ·rw [List.length_append,<-List.append_assoc,List.length_singleton,<-Nat.add_assoc];exact fO
 ·rcases la k e with h'|h'
  ·exact UO k hk h'
  ·have:=abI k hk;omega
 ·rw [List.nodup_append]
  exact⟨h.nd,by simp,fun u hu v hv e=>hx (by rw [List.mem_singleton]at hv;rw [<-hv,<-e];exact hu)⟩
 ·rw [List.mem_append,List.mem_singleton]at hy
  rcases hy with hy|rfl
  ·exact h.Db y hy
  ·exact ha
 ·exact((h.kp.trans kv (fun k hk e=>absurd hk (by omega))).trans k2 (fun _ _ h=>h)).trans ku (fun k hk e=>absurd (Vd k e).1 (by omega))
theorem DR(W:jw D){l out:List HT}(ha: ∀x∈out,∃h∈l,eZ D x h)(hc: ∀h∈l++out,∀p,nn D p h->p∈out):df out=dQ D l:=by
 refine Cq fun a=>⟨fun h=>?_,fun⟨_,h,hl,han⟩=>?_⟩
 ·obtain⟨b,hb,lL⟩:=ha a h
  exact⟨(lL.mem W).1,b,hb,lL⟩
 ·have key: ∀ {a h},eZ D a h->h∈l++out->a∈out:=by
   intro a h han
   induction han with
   |one hp=>exact fun hm=>hc _ hm _ hp
   |more _ hp ih=>exact fun hm=>ih (by rw [List.mem_append];exact .inr (hc _ hm _ hp))
  exact key han (by rw [List.mem_append];exact .inl hl)
theorem yo(H:ti w F r D)(W:jw D)(hD:D.length<=10000){A:Option Addr}{n c:Nat}(hl:HS w A n l)(hn:n<=10000)
 (hK: ∀A' c' w',bO w' w.heap.size A' (dQ D l).length c' (dQ D l)->Kept Nil w w'->K (.slice A' (dQ D l).length c') w'):
 bn prog aG.id #[.pointer (some ⟨r,0,none⟩),.slice A n c] w K:=by
 refine aG.of ?_;unfold aG.W;have hlen:=hl.len;obtain⟨A4,c4,w4,xJ,jJ,CX,qi⟩:=cD (cx:=c) az (bO.nil w w.heap.size) hl (by omega) (Nat.le_refl _);rw [Nat.zero_add]at xJ jJ;rw [List.nil_append]at jJ;have k4:Kept Nil w w4:=Kept.eA (Kept.refl _ _) CX (fun k hk=>by cases hk);refine⟨A4,n,c4,w4,xJ,?_⟩;refine aG.b6 (I:=fun s w'=> ∃(i:Nat) (out:List HT) (A1:Option Addr) (c1:Nat) (A2:Option Addr) (c2:Nat),s=(A1,out.length,c1,A2,n+out.length,c2,(i:Int))/\PB w w' D l out A1 c1 A2 c2/\i<=n+out.length/\ ∀h∈(l++out).take i,∀p,nn D p h->p∈out)
  (μ:=fun s _=>((n:Int)+D.length-s.2.2.2.2.2.2).toNat) (s:=(none,0,0,A4,n,c4,0))
  ⟨0,[],none,0,A4,c4,by simp,⟨bO.nil _ _,by simpa [hlen]using jJ,(fun k hk=>by cases hk),List.Pairwise.nil,by simp,k4⟩,by omega,by simp⟩ ?_
 rintro s w' ⟨i,out,A1,c1,A2,c2,rfl,zU,hi,qq⟩;have hol:=zU.len W;have jv:=zU.r2;rw [hlen]at jv;refine Split.dec (fun jf=>?_) (fun gu=>?_)
 ·simp only at jf
  have dP:i<n+out.length:=by omega
  obtain⟨h,hh⟩: ∃h,(l++out)[i]? =some h:=⟨_,List.getElem?_eq_getElem (by simp;omega)⟩;refine jv.hs.load (i:=(i:Int)) (by omega) hh (mh (H.same zU.kp) (by omega) h fun kN re=>⟨_,rfl,Split.dec (fun xh=>?_) (fun ja=>?_)⟩)
  ·simp only
   rw [dE (n:=(i:Int)) (by omega) (by omega)];refine⟨(A1,out.length,c1,A2,n+out.length,c2,(i:Int)+1),rfl,⟨i+1,out,A1,c1,A2,c2,rfl,zU.same re,by omega,fun x hx p hp=>?_⟩,by simp only;omega⟩;rcases(bH hh).1 hx with hx|rfl
   ·exact qq x hx p hp
   ·exact absurd (eZ.mem W (.one hp)).2 (pB.1 xh)
  ·have gZ:h∈ids D:=rY.1 (by omega)
   obtain⟨nd,h1,h2,h3⟩:=KE gZ;have CO:=zU.same re;have H13:=H.same CO.kp;have Bl: ∃b∈l,h=b\/eZ D h b:=by
    have hm:=List.mem_of_getElem? hh;rw [List.mem_append]at hm;rcases hm with hm|hm
    ·exact⟨h,hm,.inl rfl⟩
    ·obtain⟨b,hb,lL⟩:=zU.Db h hm
     exact⟨b,hb,.inr lL⟩
   have jQ: ∀p,nn D p h↔p∈nd.ps:=fun p=>by
    constructor
    ·rintro⟨md,ve,e,hp⟩
     obtain⟨j,hj⟩:=List.mem_iff_getElem?.1 ve;have:=W.inj hj h2 (by rw [e,h3]);subst this;rw [h2]at hj;cases hj;exact hp
    ·exact fun hp=>⟨nd,List.mem_of_getElem? h2,h3,hp⟩
   have qp:nd.ps.length<=D.length:=by
    rw [<-fR D];exact rD (W.ss nd (List.mem_of_getElem? h2)).nodup fun x hx=>(eZ.mem W (.one ((jQ x).2 hx))).1
   refine H.go' CO.kp fun A c rf=>rf.ps' CO.kp h1 h2 fun pA pn pc qg=>?_;have JH:=qg.len;refine aG.gD (I:=fun s w'=> ∃(k:Nat) (mi:List HT) (A1:Option Addr) (c1:Nat) (A2:Option Addr) (c2:Nat),s=(A1,mi.length,c1,A2,n+mi.length,c2,(k:Int))/\PB w w' D l mi A1 c1 A2 c2/\k<=pn/\(∃m,mi=out++m)/\(∀p∈nd.ps.take k,p∈mi))
    (μ:=fun s _=>((pn:Int)-s.2.2.2.2.2.2).toNat) (s:=(A1,out.length,c1,A2,n+out.length,c2,0)) ⟨0,out,A1,c1,A2,c2,rfl,CO,Nat.zero_le _,⟨[],by simp⟩,by simp⟩ ?_
   rintro s w1 ⟨k,mi,B1,d1,B2,d2,rfl,hq,hk,⟨m,hm⟩,fN⟩;have ahU:=hq.len W;refine Split.dec (fun Ow=>?_) (fun OE=>?_)
   ·simp only at Ow
    have zW:k<pn:=by omega
    obtain⟨p,hp⟩: ∃p,nd.ps[k]? =some p:=⟨_,List.getElem?_eq_getElem (by omega)⟩;have SM:=List.mem_of_getElem? hp;refine(qg.same hq.kp).load (i:=(k:Int)) (by omega) hp (rz p hq.r1.hs (by simp only;omega) fun vO Ec=>⟨_,rfl,?_⟩);have JG:=hq.same Ec;have ahR:(nd.ps.length:Int)<=10000:=by omega
    by_cases vx:p∈mi
    ·refine Split.no (by rw [decide_eq_true vx];rfl) ?_
     simp only;rw [dE (n:=(k:Int)) (by omega) (by omega)];refine⟨(B1,mi.length,d1,B2,n+mi.length,d2,(k:Int)+1),rfl,⟨k+1,mi,B1,d1,B2,d2,rfl,JG,zW,⟨m,hm⟩,fun q y5=>?_⟩,by simp only;omega⟩;rcases(bH hp).1 y5 with y5|rfl
     ·exact fN q y5
     ·exact vx
    ·refine Split.yes (by rw [decide_eq_false vx];rfl) ?_
     have UP: ∃b∈l,eZ D p b:=by
      obtain⟨b,hb,e|e⟩:=Bl
      ·subst e;exact⟨_,hb,.one ((jQ p).2 SM)⟩
      ·exact⟨b,hb,eZ.trans (.one ((jQ p).2 SM)) e⟩
     obtain⟨Ig,Fk,v,kQ,kv,Fo,xO,u,JE,hqu⟩:=JG.add vx UP (by omega);rw [hlen]at JE;refine(qg.same JG.kp).load (i:=(k:Int)) (by omega) hp ⟨p.2.1,?_⟩;refine⟨Ig,_,Fk,v,kQ,?_⟩;have MV:Kept Nil w v:=JG.kp.trans kv (fun k hk e=>absurd hk (by omega));refine(qg.same MV).load (i:=(k:Int)) (by omega) hp ⟨p.2.1,?_⟩;refine⟨Fo,_,xO,u,JE,?_⟩;simp only;rw [dE (n:=(k:Int)) (by omega) (by omega)];have e1:mi.length+1=(mi++ [p]).length:=by simp
     rw [e1,show n+mi.length+1=n+(mi++ [p]).length by simp;omega];refine⟨(Ig,(mi++ [p]).length,Fk,Fo,n+(mi++ [p]).length,xO,(k:Int)+1),rfl,⟨k+1,mi++ [p],Ig,Fk,Fo,xO,rfl,hqu,zW,⟨m++ [p],by rw [hm];simp⟩,fun q y5=>?_⟩,by simp only;omega⟩;rw [List.mem_append,List.mem_singleton];rcases(bH hp).1 y5 with y5|rfl
     ·exact .inl (fN q y5)
     ·exact .inr rfl
   ·simp only at OE
    rw [aS,aG.jC];unfold aG.iu;rw [dE (n:=(i:Int)) (by omega) (by omega)];rw [List.take_of_length_le (by omega)]at fN;refine⟨(B1,mi.length,d1,B2,n+mi.length,d2,(i:Int)+1),rfl,⟨i+1,mi,B1,d1,B2,d2,rfl,hq,by rw [hm];simp;omega,fun x hx q GJ=>?_⟩,by simp only;omega⟩;have hh':(l++mi)[i]? =some h:=by
     rw [hm,<-List.append_assoc,List.getElem?_append_left (List.getElem?_eq_some_iff.1 hh).1];exact hh
    rcases(bH hh').1 hx with hx|rfl
    ·have Wm:x∈(l++out).take i:=by
      rw [hm,<-List.append_assoc,List.take_append_of_le_length (by simp;omega)]at hx;exact hx
     rw [hm,List.mem_append];exact .inl (qq x Wm q GJ)
    ·exact fN q ((jQ q).1 GJ)
 ·simp only at gu
  have hie:i=n+out.length:=by omega
  rw [aS,aG.cX];rw [List.take_of_length_le (by simp;omega)]at qq;have e:=DR W zU.Db qq;refine nv zU.r1.hs (by simp only;omega) fun A' c' w2 row k2=>⟨A',_,c',rfl,?_⟩;rw [e]at row⊢;exact hK A' c' w2 (Row.base row fun b hb=>Nat.le_trans zU.kp.size (Row.bC row hb).1) (zU.kp.trans k2 (fun _ _ h=>h))
end
end Go.Proofs.YtnboahlopghcjaaGreatDoor
namespace Go.Proofs.YtnboahlopghcjaaGreatDoor
open Go.Proofs.Tryz
open Go Go.bV Go.RowKit
section
variable{w w' lW:World}{F S:Nat->Prop}{D:DG}{is:HT->Prop}{i:Nat}{l out:List HT}{A:Option Addr}{c r:Nat}{K:Value->World->Prop}
theorem pX(H:ti w F r D)(W:jw D)(hD:D.length<=10000)(a b:HT)(hK: ∀w' (x:Bool),(x=true↔eZ D a b)->Kept Nil w w'->K (.bool x) w'):
 bn prog dH.id #[.pointer (some ⟨r,0,none⟩),.agg a.1,.agg b.1] w K:=by
 refine dH.of ?_;unfold dH.W;intro w4 w5 w6;have k4:Kept Nil w w4:=(Kept.refl _ _).alloc _;have uD:w4.heap[w.heap.size]? =some (.cells a.1 ag (0,0)):=aJ w _;have k5:Kept Nil w4 w5:=(Kept.refl _ _).alloc _;have mv:w5.heap[w4.heap.size]? =some (.cells b.1 ag (0,0)):=aJ w4 _;have k6:Kept Nil w5 w6:=(Kept.refl _ _).drew;have rT:=k6.heap (k5.heap uD (fun h=>h)) (fun h=>h);have oT:=k6.heap mv (fun h=>h);have Yg:Kept Nil w w6:=(k4.trans k5 (fun _ _ h=>h)).trans k6 (fun _ _ h=>h);clear_value w6;refine⟨a.1,⟨a.2.1,Cells.bC rT⟩,mh (H.same Yg) (by omega) a fun w9 k9=>⟨_,rfl,Split.dec (fun gu=>?_) (fun Oi=>?_)⟩⟩
 ·have ha9:=k9.heap rT (fun h=>h)
  have Rk:Kept Nil w w9:=Yg.trans k9 (fun _ _ h=>h);refine⟨b.1,⟨b.2.1,Cells.bC (k9.heap oT (fun h=>h))⟩,a.1,⟨a.2.1,Cells.bC ha9⟩,b.2.1,?_⟩;intro kN;have re:Kept Nil w9 kN:=(Kept.refl _ _).alloc _;have iC:HS kN (some ⟨w9.heap.size,0,none⟩) 1 [b]:=jb w9 b;clear_value kN;have Ro:Kept Nil w kN:=Rk.trans re (fun _ _ h=>h);have UT:=re.heap ha9 (fun h=>h);refine⟨⟨a.1,rfl,a.2.1,Cells.bC UT⟩,yo (H.same Ro) W hD iC (by omega) fun A15 c15 lT QZ sC=>⟨A15,_,c15,rfl,?_⟩⟩;have qp:=mH D fun x=> ∃h∈ [b],eZ D x h;refine⟨⟨a.1,rfl,a.2.1,Cells.bC (sC.heap UT (fun h=>h))⟩,rz a QZ.hs (by unfold dQ;omega) fun pU AM=>⟨_,rfl,?_⟩⟩;refine hK pU _ ?_ ((Ro.trans sC (fun _ _ h=>h)).trans AM (fun _ _ h=>h));rw [decide_eq_true_iff];unfold dQ;rw [ji];constructor
  ·rintro⟨_,h,hh,ha⟩
   rw [List.mem_singleton]at hh;subst hh;exact ha
  ·intro ha
   exact⟨(ha.mem W).1,b,by simp,ha⟩
 ·refine hK w9 false ?_ (Yg.trans k9 (fun _ _ h=>h))
  constructor
  ·intro h;cases h
  ·intro ha;exact absurd (rY.2 (ha.mem W).1) Oi
theorem FZ(W:jw D){j:Nat}{nd:DN}(h2:D[j]? =some nd)(p:HT):nn D p nd.id↔p∈nd.ps:=by
 constructor
 ·rintro⟨md,ve,e,hp⟩
  obtain⟨k,hk⟩:=List.mem_iff_getElem?.1 ve;have:=W.inj hk h2 e;subst this;rw [h2]at hk;cases hk;exact hp
 ·exact fun hp=>⟨nd,List.mem_of_getElem? h2,rfl,hp⟩
theorem DM(H:ti w F r D)(W:jw D)(hD:D.length<=10000)(a b:HT)(hK: ∀w' (x:Bool),(x=true↔a≠b/\ ¬eZ D a b/\ ¬eZ D b a)->Kept Nil w w'->K (.bool x) w'):
 bn prog dV.id #[.pointer (some ⟨r,0,none⟩),.agg a.1,.agg b.1] w K:=by
 refine dV.of ?_;unfold dV.W;intro w4 w5;have k4:Kept Nil w w4:=(Kept.refl _ _).alloc _;have uD:w4.heap[w.heap.size]? =some (.cells a.1 ag (0,0)):=aJ w _;have k5:Kept Nil w4 w5:=(Kept.refl _ _).alloc _;have mv:w5.heap[w4.heap.size]? =some (.cells b.1 ag (0,0)):=aJ w4 _;have ze:=k5.heap uD (fun h=>h);have KW:Kept Nil w w5:=k4.trans k5 (fun _ _ h=>h);clear_value w5;refine⟨a.1,⟨a.2.1,Cells.bC ze⟩,b.1,⟨b.2.1,Cells.bC mv⟩,⟨a.2.ints,b.2.ints⟩,?_⟩;rw [dq];by_cases e:a=b
 ·refine Split.no (by rw [decide_eq_true e];rfl) ?_
  exact hK w5 false (by simp [e]) KW
 ·refine Split.yes (by rw [decide_eq_false e];rfl) ?_
  refine⟨a.1,⟨a.2.1,Cells.bC ze⟩,b.1,⟨b.2.1,Cells.bC mv⟩,pX (H.same KW) W hD a b fun tB x hx Ef=>⟨x,rfl,?_⟩⟩;cases x with
  |true=>
   refine Split.no rfl ?_;exact hK tB false (by simp [hx.1 rfl]) (KW.trans Ef (fun _ _ h=>h))
  |false=>
   refine Split.yes rfl ?_;have hn: ¬eZ D a b:=fun h=>by have:=hx.2 h;cases this
   have Rp:=KW.trans Ef (fun _ _ h=>h);refine⟨b.1,⟨b.2.1,Cells.bC (Ef.heap mv (fun h=>h))⟩,a.1,⟨a.2.1,Cells.bC (Ef.heap ze (fun h=>h))⟩,pX (H.same Rp) W hD b a fun iz y hy jS=>⟨y,rfl,?_⟩⟩;refine hK iz _ ?_ (Rp.trans jS (fun _ _ h=>h));rw [Bool.not_eq_true',<-Bool.not_eq_true,hy];exact⟨fun h=>⟨e,hn,h⟩,fun h=>h.2.2⟩
end
end Go.Proofs.YtnboahlopghcjaaGreatDoor
namespace Go.Proofs.YtnboahlopghcjaaGreatDoor
open Go.Proofs.Tryz
open Go Go.bV Go.RowKit
structure NM where
 b:Nat
 pA:Option Addr
 pn:Nat
 pc:Nat
 cA:Option Addr
 cn:Nat
 cc:Nat
 rA:Option Addr
 rn:Nat
 rc:Nat
 ws:List Nat
def fF(h:HT)(m:NM):Array Value:=h.1++ #[.slice m.pA m.pn m.pc,.slice m.cA m.cn m.cc,.slice m.rA m.rn m.rc]
theorem ue(h:HT)(m:NM):(fF h m).size=35:=by unfold fF;rw [Array.size_append,h.2.1];rfl
theorem F5(h:HT)(m:NM){j:Nat}{v:Value}(hj:h.1[j]? =some v):(fF h m)[j]? =some v:=by
 unfold fF;rw [Array.getElem?_append_left (Array.getElem?_eq_some_iff.1 hj).1];exact hj
theorem F6(h:HT)(m:NM):(fF h m)[33]? =some (.slice m.cA m.cn m.cc):=by
 unfold fF;rw [Array.getElem?_append_right (by rw [h.2.1];omega),h.2.1];rfl
theorem yB(h:HT)(m:NM):(fF h m)[34]? =some (.slice m.rA m.rn m.rc):=by
 unfold fF;rw [Array.getElem?_append_right (by rw [h.2.1];omega),h.2.1];rfl
theorem DW{h h':HT}{m m':NM}(e:fF h m=fF h' m'):h=h':=by
 apply Subtype.ext;have h1:=h.2.1;have h2:=h'.2.1;have:=congrArg (fun a:Array Value=>a.toList.take 32) e;unfold fF at this;simp only [Array.toList_append]at this;rw [List.take_left' (by simpa using h1),List.take_left' (by simpa using h2)]at this;exact Array.ext' this
structure qm(w:World)(S F:Nat->Prop)(D:DG)(ch:List HT)(nd:DN)(m:NM):Prop where
 bC:w.heap[m.b]? =some (.cells (fF nd.id m) dK (0,0))
 fQ:S m.b
 ps:HS w m.pA m.pn nd.ps
 IX: ∀a,m.pA=some a->F a.block
 ch:bO w 0 m.cA m.cn m.cc ch
 Pn: ∀k,bg m.cA=some k->S k
 past:US w m.rA m.rn m.ws
 oJ: ∀a,m.rA=some a->F a.block
 ok:okW m.ws
 bits: ∀j,bit m.ws j=true↔ ∃nj,D[j]? =some nj/\eZ D nj.id nd.id
 small:m.rn<=200
structure GV(w:World)(S F:Nat->Prop)(g:Nat)(D:DG)(C:HT->List HT)(bl c mb:Nat)(M:List NM):Prop where
 top:w.heap[g]? =some (.cells #[.slice (some ⟨bl,0,none⟩) D.length c,.map (some mb)] gJ (0,0))
 row:Row w 0 eU 1 (some ⟨bl,0,none⟩) D.length c (M.map fun m=>.pointer (some ⟨m.b,0,none⟩))
 map:IsMap w mb (ids D)
 len:M.length=D.length
 node: ∀(i:Nat) nd m,D[i]? =some nd->M[i]? =some m->qm w S F D (C nd.id) nd m
 apart: ∀(i j:Nat) m m',M[i]? =some m->M[j]? =some m'->i≠j-> ∀k,bg m.cA=some k->bg m'.cA≠some k
 gS:S g
 sH:S bl
 uK:S mb
 Fj: ∀k,S k-> ¬F k
 low: ∀k,S k\/F k->k<w.heap.size
def BV(w:World)(S F:Nat->Prop)(g:Nat)(D:DG):Prop:= ∃bl c mb M,GV w S F g D (gk D) bl c mb M
section
variable{w w':World}{S F S' F':Nat->Prop}{g bl c mb:Nat}{D:DG}{C:HT->List HT}{M:List NM}{K:Value->World->Prop}
theorem qm.aC{ch:List HT}{nd:DN}{m:NM}{S0:Nat->Prop}(h:qm w S F D ch nd m)(hk:Kept S0 w w')(hS: ∀k,S k-> ¬S0 k)(hF: ∀k,F k-> ¬S0 k):qm w' S F D ch nd m:=
 ⟨hk.heap h.bC (hS _ h.fQ),h.fQ,h.ps.aC hk (fun a ha=>hF _ (h.IX a ha)),h.IX,Row.aC h.ch hk (fun k hb=>hS k (h.Pn k hb)),h.Pn,h.past.aC hk (fun a ha=>hF _ (h.oJ a ha)),h.oJ,h.ok,h.bits,h.small⟩
theorem GV.aC{S0:Nat->Prop}(h:GV w S F g D C bl c mb M)(hk:Kept S0 w w')(hS: ∀k,S k-> ¬S0 k)(hF: ∀k,F k-> ¬S0 k):GV w' S F g D C bl c mb M:=
 ⟨hk.heap h.top (hS _ h.gS),Row.aC h.row hk (fun k e=>by cases e;exact hS _ h.sH),h.map.aC hk (hS _ h.uK),h.len,fun i nd m h1 h2=>(h.node i nd m h1 h2).aC hk hS hF,h.apart,h.gS,h.sH,h.uK,h.Fj,fun k mu=>Nat.lt_of_lt_of_le (h.low k mu) hk.size⟩
theorem GV.same(h:GV w S F g D C bl c mb M)(hk:Kept Nil w w'):GV w' S F g D C bl c mb M:=h.aC hk (fun _ _ h=>h) (fun _ _ h=>h)
theorem BV.aC{S0:Nat->Prop}(h:BV w S F g D)(hk:Kept S0 w w')(hS: ∀k,S k-> ¬S0 k)(hF: ∀k,F k-> ¬S0 k):BV w' S F g D:=let ⟨bl,c,mb,M,h⟩:=h;⟨bl,c,mb,M,h.aC hk hS hF⟩
theorem BV.same(h:BV w S F g D)(hk:Kept Nil w w'):BV w' S F g D:=h.aC hk (fun _ _ h=>h) (fun _ _ h=>h)
theorem GV.get(h:GV w S F g D C bl c mb M){i:Nat}{nd:DN}(hi:D[i]? =some nd): ∃m,M[i]? =some m/\qm w S F D (C nd.id) nd m:=by
 have:=(List.getElem?_eq_some_iff.1 hi).1;have hl:=h.len;exact⟨M[i],List.getElem?_eq_getElem (by omega),h.node i nd _ hi (List.getElem?_eq_getElem (by omega))⟩
theorem GV.nodes(h:GV w S F g D C bl c mb M):w.cell? ((⟨g,0,none⟩:Addr).add 0)=some (.slice (some ⟨bl,0,none⟩) D.length c):=by rw [add_zero,ax h.top];rfl
theorem GV.at_(h:GV w S F g D C bl c mb M):w.cell? ((⟨g,0,none⟩:Addr).add 1)=some (.map (some mb)):=by rw [ba,ax h.top];rfl
theorem GV.ptr(h:GV w S F g D C bl c mb M){i:Nat}{m:NM}(hm:M[i]? =some m):w.cell? ((⟨bl,0,none⟩:Addr).add (i*1))=some (.pointer (some ⟨m.b,0,none⟩)):=by
 rw [ba,Nat.zero_add,Nat.mul_one];exact Row.cell h.row (by rw [List.getElem?_map,hm];rfl)
theorem wz(h:GV w S F g D C bl c mb M)(hK:K (.bool true) w):bn prog fL.id #[.pointer (some ⟨g,0,none⟩)] w K:=
 fL.of (Split.yes rfl ⟨some mb,h.at_,hK⟩)
def Found(D:DG)(M:List NM)(h:HT)(x:Option Addr):Prop:=(x=none/\h∉ids D)\/ ∃(i:Nat) (nd:DN) (m:NM),D[i]? =some nd/\nd.id=h/\M[i]? =some m/\x=some ⟨m.b,0,none⟩
theorem Found.isSome{h:HT}{x:Option Addr}(f:Found D M h x):(!x.isNone)=decide (h∈ids D):=by
 rcases f with⟨rfl,hn⟩|⟨i,nd,m,h1,h2,_,rfl⟩
 ·rw [decide_eq_false hn];rfl
 ·rw [decide_eq_true (dB.2 ⟨nd,List.mem_of_getElem? h1,h2⟩)];rfl
theorem uQ(G:GV w S F g D C bl c mb M)(h:HT)(hK: ∀w' x,Kept Nil w w'->Found D M h x->K (.pointer x) w'):
 bn prog fD.id #[.pointer (some ⟨g,0,none⟩),.agg h.1] w K:=by
 refine fD.of ?_;unfold fD.W;intro w3;have k3:Kept Nil w w3:=(Kept.refl _ _).alloc _;have oo:w3.heap[w.heap.size]? =some (.cells h.1 ag (0,0)):=aJ w _;clear_value w3;refine wz (G.same k3) ⟨true,rfl,Split.yes rfl ?_⟩;intro w7;have k7:Kept Nil w3 w7:=(Kept.refl _ _).drew;clear_value w7;have kw:Kept Nil w w7:=k3.trans k7 (fun _ _ h=>h);have G7:=G.same kw;refine⟨some mb,G7.at_,h.1,⟨h.2.1,Cells.bC (k7.heap oo (fun h=>h))⟩,_,_,G7.map.look h,?_⟩;cases hp:pos h (ids D) 0 with
 |none=>exact Split.no rfl (hK w7 none kw (.inl ⟨rfl,oI.1 hp⟩))
 |some i=>
  obtain⟨_,hi⟩:=tV hp;obtain⟨nd,h1,h2⟩:=GI hi;rw [Nat.sub_zero]at h1;obtain⟨m,hm,_⟩:=G7.get h1;have dP:=(List.getElem?_eq_some_iff.1 h1).1;refine Split.yes rfl ⟨_,_,_,G7.nodes,⟨by simp,by simp only [Option.getD_some];omega⟩,some ⟨m.b,0,none⟩,?_,hK w7 _ kw (.inr ⟨i,nd,m,h1,h2,hm,rfl⟩)⟩;rw [Option.getD_some,Int.toNat_natCast];exact G7.ptr hm
theorem tu(G:GV w S F g D C bl c mb M)(h:HT)(hK: ∀w',Kept Nil w w'->K (.bool (decide (h∈ids D))) w'):
 bn prog fX.id #[.pointer (some ⟨g,0,none⟩),.agg h.1] w K:=by
 refine fX.of ?_;unfold fX.W;intro w3;have k3:Kept Nil w w3:=(Kept.refl _ _).alloc _;have oo:w3.heap[w.heap.size]? =some (.cells h.1 ag (0,0)):=aJ w _;clear_value w3;refine⟨h.1,⟨h.2.1,Cells.bC oo⟩,uQ (G.same k3) h fun w6 x k6 hx=>⟨x,rfl,?_⟩⟩;rw [hx.isSome];exact hK w6 (k3.trans k6 (fun _ _ h=>h))
end
end Go.Proofs.YtnboahlopghcjaaGreatDoor
namespace Go.Proofs.YtnboahlopghcjaaGreatDoor
open Go.Proofs.Tryz
open Go Go.bV Go.RowKit
section
variable{w w':World}{S F:Nat->Prop}{g bl c mb:Nat}{D:DG}{C:HT->List HT}{M:List NM}{K:Value->World->Prop}
end
end Go.Proofs.YtnboahlopghcjaaGreatDoor
namespace Go.Proofs.YtnboahlopghcjaaGreatDoor
open Go.Proofs.Tryz
open Go Go.bV Go.RowKit
section
variable{w w':World}{S F:Nat->Prop}{g bl c mb:Nat}{D:DG}{C:HT->List HT}{M:List NM}{K:Value->World->Prop}
theorem BE{A:Option Addr}{n c:Nat}{l:List HT}(hl:HS w A n l)(hn:n<=400000)(hK: ∀A' c' w',bO w' w.heap.size A' n c' l->Kept Nil w w'->K (.slice A' n c') w'):
 bn prog cQ.id #[.slice A n c] w K:=by
 refine cQ.of ?_;cases A with
 |none=>
  obtain⟨rfl,rfl⟩:=hl.none;exact Split.yes rfl (hK none 0 w (bO.nil _ _) (Kept.refl _ _))
 |some a=>
  refine Split.no rfl ?_;intro w2;have k2:Kept Nil w w2:=(Kept.refl _ _).alloc _;have r0:bO w2 w.heap.size (some ⟨w.heap.size,0,none⟩) 0 0 []:=Row.made (n:=0) (cur:= #[]) (aJ w _) (Nat.le_refl _) rfl (Nat.zero_le _);clear_value w2;obtain⟨A',c',w4,hr,row,hg,_⟩:=cD (cx:=c) az r0 (hl.same k2) (by omega) k2.size;rw [Nat.zero_add]at hr row;rw [List.nil_append]at row;exact⟨A',n,c',w4,hr,hK A' c' w4 row (Kept.eA k2 hg (fun k hk=>by cases hk;exact Nat.le_refl _))⟩
theorem vX{D:DG}{nd:DN}{m:NM}{ch:List HT}(N:qm w S F D ch nd m):w.cell? ((⟨m.b,0,none⟩:Addr).add 34)=some (.slice m.rA m.rn m.rc):=by
 rw [ba,Nat.zero_add,ax N.bC];exact yB _ _
theorem Ct{D:DG}{nd:DN}{m:NM}{ch:List HT}(N:qm w S F D ch nd m):w.cell? ((⟨m.b,0,none⟩:Addr).add 33)=some (.slice m.cA m.cn m.cc):=by
 rw [ba,Nat.zero_add,ax N.bC];exact F6 _ _
end
end Go.Proofs.YtnboahlopghcjaaGreatDoor
namespace Go.Proofs.YtnboahlopghcjaaGreatDoor
open Go.Proofs.Tryz
open Go Go.bV Go.RowKit
def lJ(D:DG)(j:Nat):HT:=match D[j]? with|some nd=>nd.id|none=>default
theorem ua: ∀(ws:List Nat) (k:Nat),okW ws->(oL k ws).Nodup
 | [],_,_=>List.Pairwise.nil
 |x::ws,k,ho=>by
  have hx:=ho x (by simp);have It:okW ws:=fun y hy=>ho y (by simp [hy]);obtain⟨_,h2,h3⟩:=v8 x hx;rw [oL,List.nodup_append];refine⟨List.Pairwise.map _ (fun a b lL e=>lL (by omega)) h2,ua ws (k+1) It,fun a ha b hb e=>?_⟩;rw [List.mem_map]at ha;obtain⟨t,ht,rfl⟩:=ha;have:=((oN ws (k+1) b It).1 hb).1;have:=h3 t ht;omega
section
variable{w w':World}{S F:Nat->Prop}{g bl c mb:Nat}{D:DG}{C:HT->List HT}{M:List NM}{K:Value->World->Prop}
theorem uR(G:GV w S F g D C bl c mb M)(W:jw D)(hD:D.length<=10000)(hT:tg w){A:Option Addr}{n cx:Nat}{l:List HT}(hl:HS w A n l)(hn:n<=10000)
 (hK: ∀A' c' w',bO w' w.heap.size A' (dQ D l).length c' (dQ D l)->Kept Nil w w'->K (.slice A' (dQ D l).length c') w'):
 bn prog aR.id #[.pointer (some ⟨g,0,none⟩),.slice A n cx] w K:=by
 have hlen:=hl.len;refine aR.of ?_;unfold aR.W;intro w3;have k3:Kept Nil w w3:=(Kept.refl _ _).alloc _;have TU:w3.heap[w.heap.size]? =some (.cells #[.pointer (some ⟨g,0,none⟩)] ke (0,0)):=aJ w _;have AT:w.heap.size<w3.heap.size:=aQ TU;clear_value w3;refine aR.b6 (I:=fun s w'=> ∃(i:Nat) (A':Option Addr) (n' c':Nat) (ws:List Nat),s=(A',n',c',(i:Int))/\i<=n/\jR w' w3.heap.size A' n' c' ws/\okW ws/\n'<=200/\(∀j,bit ws j=true↔ ∃h∈l.take i,∃nj,D[j]? =some nj/\eZ D nj.id h)/\Kept Nil w3 w')
  (μ:=fun s _=>((n:Int)-s.2.2.2).toNat) (s:=(none,0,0,0)) ⟨0,none,0,0,[],rfl,Nat.zero_le _,Row.nil _ _ _ _,by simp [okW],by omega,by simp [xu],Kept.refl _ _⟩ ?_
 rintro s w' ⟨i,A',n',c',ws,rfl,hi,row,ho,ZW,pF,kw⟩;have kk:Kept Nil w w':=k3.trans kw (fun _ _ h=>h);refine Split.dec (fun jf=>?_) (fun gu=>?_)
 ·simp only at jf
  have dP:i<n:=by omega
  obtain⟨h,hh⟩: ∃h,l[i]? =some h:=⟨_,List.getElem?_eq_getElem (by omega)⟩;refine(hl.same kk).load (i:=(i:Int)) (by omega) hh ?_;intro lU;obtain⟨qP,iC,iI⟩:=fT (w:=w') (z:=(#[.int .u8 0,.int .u8 0,.int .u8 0,.int .u8 0,.int .u8 0,.int .u8 0,.int .u8 0,.int .u8 0,.int .u8 0,.int .u8 0,.int .u8 0,.int .u8 0,.int .u8 0,.int .u8 0,.int .u8 0,.int .u8 0,.int .u8 0,.int .u8 0,.int .u8 0,.int .u8 0,.int .u8 0,.int .u8 0,.int .u8 0,.int .u8 0,.int .u8 0,.int .u8 0,.int .u8 0,.int .u8 0,.int .u8 0,.int .u8 0,.int .u8 0,.int .u8 0]:Array Value)) (cs:=h.1) (t:=ag) (by rw [h.2.1];rfl);refine⟨⟨h.2.1,h.2.one,fun j hj=>qP j (by rw [h.2.1];exact hj)⟩,?_⟩;intro lT
  replace iC:lT.heap[w'.heap.size]? =some (.cells h.1 ag (0,0)):=iC
  replace iI:Kept Nil w' lT:=iI
  clear_value lT;have sC:Kept Nil w3 lT:=kw.trans iI (fun _ _ h=>h);refine⟨some ⟨g,0,none⟩,by rw [ax (sC.heap TU (fun h=>h))];rfl,h.1,⟨h.2.1,Cells.bC iC⟩,?_⟩;refine uQ (G.same (k3.trans sC (fun _ _ h=>h))) h fun nQ x sA hx=>⟨x,rfl,?_⟩;have Jq:Kept Nil w3 nQ:=sC.trans sA (fun _ _ h=>h);have Gf:Kept Nil w nQ:=k3.trans Jq (fun _ _ h=>h);have vT:jR nQ w3.heap.size A' n' c' ws:=Row.aC row (iI.trans sA (fun _ _ h=>h)) (fun _ _ h=>h);rcases hx with⟨rfl,mN⟩|⟨q,nd,m',hq,rfl,mr,rfl⟩
  ·refine Split.no rfl ?_
   simp only;rw [dE (n:=(i:Int)) (by omega) (by omega)];refine⟨(A',n',c',(i:Int)+1),rfl,⟨i+1,A',n',c',ws,rfl,dP,vT,ho,ZW,fun j=>?_,Jq⟩,by simp only;omega⟩;rw [pF];constructor
   ·rintro⟨h',h1,h2⟩;exact⟨h',(bH hh).2 (.inl h1),h2⟩
   ·rintro⟨h',h1,nj,h2,h3⟩
    rcases(bH hh).1 h1 with h1|rfl
    ·exact⟨h',h1,nj,h2,h3⟩
    ·exact absurd (h3.mem W).2 mN
  ·obtain⟨m,hm,N⟩:=(G.same Gf).get hq
   rw [mr]at hm;cases hm;refine Split.yes rfl ⟨_,_,_,vX N,?_⟩;have vd:=N.small;have Ez: ∀k,bg A'=some k->w3.heap.size<=k:=fun k hk=>(Row.bC vT hk).1;refine vR vT ho (by omega) Jq.size N.past N.ok (by omega) (fun a ha k hk e=>?_) fun A2 n2 c2 l2 lf QX ZP Tm OT pN Kh=>⟨A2,n2,c2,rfl,?_⟩
   ·have h1:=G.low a.block (.inr (N.oJ a ha))
    have h2:=Ez k hk;omega
   ·simp only
    rw [dE (n:=(i:Int)) (by omega) (by omega)];refine⟨(A2,n2,c2,(i:Int)+1),rfl,⟨i+1,A2,n2,c2,l2,rfl,dP,QX,ZP,by omega,fun j=>?_,Jq.trans pN (fun k hk e=>absurd (Ez k e) (by omega))⟩,by simp only;omega⟩;rw [OT,Bool.or_eq_true,pF,N.bits];constructor
    ·rintro(⟨h',h1,h2⟩|h2)
     ·exact⟨h',(bH hh).2 (.inl h1),h2⟩
     ·exact⟨nd.id,(bH hh).2 (.inr rfl),h2⟩
    ·rintro⟨h',h1,h2⟩
     rcases(bH hh).1 h1 with h1|rfl
     ·exact .inl ⟨h',h1,h2⟩
     ·exact .inr h2
 ·simp only at gu
  have hie:i=n:=by omega
  subst hie;rw [List.take_of_length_le (by omega)]at pF;rw [aS,aR.cX];unfold aR.cJ;intro tk;have Fc:Kept Nil w' tk:=(Kept.refl _ _).alloc _;have Ta:tk.heap[w'.heap.size]? =some (.cells #[.slice none 0 0] az (0,0)):=aJ w' _;clear_value tk;refine jB.of ?_;unfold jB.W;intro nh;have zO:Kept Nil tk nh:=(Kept.refl _ _).alloc _;have JD:nh.heap[tk.heap.size]? =some (.cells #[.slice A' n' c'] j0 (0,0)):=aJ tk _;clear_value nh;refine⟨_,rfl,?_⟩;have S9:=zO.heap Ta (fun h=>h);have RR:Kept Nil w3 nh:=(kw.trans Fc (fun _ _ h=>h)).trans zO (fun _ _ h=>h);have Je:Kept Nil w nh:=k3.trans RR (fun _ _ h=>h);have yl:jR nh w3.heap.size A' n' c' ws:=Row.aC (Row.aC row Fc (fun _ _ h=>h)) zO (fun _ _ h=>h);have OH:=RR.heap TU (fun h=>h);have zV:w.heap.size<w'.heap.size:=Nat.lt_of_lt_of_le AT kw.size;have ahB:w'.heap.size<nh.heap.size:=aQ S9;have ahC:tk.heap.size<nh.heap.size:=aQ JD;have G6: ∀j∈oL 0 ws,∃nj,D[j]? =some nj:=fun j hj=>by
   have:=((oN ws 0 j ho).1 hj).2;rw [Nat.mul_zero,Nat.sub_zero]at this;obtain⟨_,_,nj,h1,_⟩:=(pF j).1 this;exact⟨nj,h1⟩
  have xK:(oL 0 ws).length<=D.length:=by
   have:=ub (m:=List.range D.length) (ua ws 0 ho) (fun j hj=>by
    obtain⟨nj,h1⟩:=G6 j hj;exact List.mem_range.2 (List.getElem?_eq_some_iff.1 h1).1)
   rwa [List.length_range]at this
  let xs:=oL 0 ws
  let ρ0:Env:= [(2,.pointer (some (⟨w.heap.size,0,none⟩:Addr))),(4,.slice none 0 0),(9,.pointer (some (⟨w'.heap.size,0,none⟩:Addr))),(30,.func (.func aI.id) #[] #[.pointer (some (⟨tk.heap.size,0,none⟩:Addr))])]
  let J:Nat->World->Prop:=fun i v=> ∃A c,v.heap[w'.heap.size]? =some (.cells #[.slice A i c] az (0,0))/\bO v nh.heap.size A i c ((xs.take i).map (lJ D))/\Kept (· =w'.heap.size) nh v/\i<=xs.length
  have qQ: ∀i v,J i v->US v A' n' ws/\v.cell? ⟨tk.heap.size,0,none⟩=some (.slice A' n' c')/\tg v:=by
   rintro i v ⟨A,c,h1,h2,h3,h4⟩;refine⟨yl.us.aC h3 (fun a ha e=>?_),by rw [ax (h3.heap JD (by have:=aQ Ta;omega))];rfl,(hT.same Je).aC h3 (fun e=>by have:=hT.lt;omega)⟩;have hk:bg A'=some a.block:=by rw [ha];rfl
   obtain⟨_,cur,hc⟩:=Row.bC row hk;have:=aQ hc;omega
  refine lF (ρ:=ρ0) (ρ0:=ρ0) ng mix aR.k (t:=30) (ps:= #[31]) (by kernel_rfl) (by decide) rfl aI.at_ rfl (.inl rfl) (fun i v _ h=>h) rfl encI xs (fun _=>rfl) (by simp [gM]) (H3 ⟨tk.heap.size,0,none⟩ (c:=c') (by omega) ho) J (fun _ _=>False) ?_ (fun _ _ _ _ _ h=>h.elim) qQ ?_ ?_ ?_ (fun _ _ h=>h.elim) (fun _ _ _ h=>h.elim)
  ·rintro i v v' R nI ⟨A,c,h1,h2,h3,h4⟩ hk
   exact⟨A,c,hk.heap h1 (iY h1 nI.loop),Row.apart h2 hk (fun cs t fr h=>by rw [nI.loop]at h;cases h),h3.trans hk (fun k hk e=>by omega),h4⟩
  ·intro R
   exact⟨none,0,iX (iX S9 _) _,bO.nil _ _,(((Kept.refl _ _).alloc _).alloc _),Nat.zero_le _⟩
  ·rintro i x v R hx hj nI
   have hJ:=hj;obtain⟨A,c,h1,h2,h3,h4⟩:=hj;have dP:i<xs.length:=(List.getElem?_eq_some_iff.1 hx).1;have e7:jV ρ0 ((#[31]:Array Nat).toList.zip (encI x))= [(2,.pointer (some (⟨w.heap.size,0,none⟩:Addr))),(4,.slice none 0 0),(9,.pointer (some (⟨w'.heap.size,0,none⟩:Addr))),(30,.func (.func aI.id) #[] #[.pointer (some (⟨tk.heap.size,0,none⟩:Addr))]),(31,.int .i64 (x:Int))]:=rfl;rw [e7,aR.a1];unfold aR.A1;refine⟨nI,fun w2 R2 mD rh=>?_⟩;have C4:=mD.heap h1 (iY h1 nI.loop);have Bn:bO w2 nh.heap.size A i c ((xs.take i).map (lJ D)):=Row.apart h2 mD (fun cs t fr h=>by rw [nI.loop]at h;cases h);have Vg:Kept (· =w'.heap.size) nh w2:=h3.trans mD (fun k hk e=>by omega);clear hJ h1 h2 h3;rw [aR.y1];unfold aR.Y1;intro Dj;have M8:Kept Nil w2 Dj:=(Kept.refl _ _).drew;clear_value Dj;have Vj:=M8.heap C4 (fun h=>h);have Cz:Kept (· =w'.heap.size) nh Dj:=Vg.trans M8 (fun _ _ h=>h.elim);obtain⟨nj,Fe⟩:=G6 x (List.mem_of_getElem? hx);have tp:=(List.getElem?_eq_some_iff.1 Fe).1;have Ye:Kept Nil w Dj:=Je.trans Cz (fun k hk e=>by omega);obtain⟨m,hm,N⟩:=(G.same Ye).get Fe;refine⟨A,i,c,by rw [ax Vj];rfl,some ⟨g,0,none⟩,by rw [ax (Cz.heap OH (by omega))];rfl,?_⟩;refine⟨_,_,_,(G.same Ye).nodes,⟨by omega,by omega⟩,some ⟨m.b,0,none⟩,by rw [Int.toNat_natCast];exact(G.same Ye).ptr hm,?_⟩;refine⟨nj.id.1,⟨nj.id.2.1,fun j v hj=>?_⟩,nj.id.2.1,?_⟩
   ·rw [add_zero,ba,Nat.zero_add,ax N.bC]
    exact F5 _ _ hj
   intro PH;have RM:Kept Nil Dj PH:=(Kept.refl _ _).alloc _;have jb:HS PH (some ⟨Dj.heap.size,0,none⟩) 1 [nj.id]:=jb Dj nj.id;clear_value PH;have Vi:=RM.heap Vj (fun h=>h);refine⟨by rw [ax Vi];rfl,?_⟩;have Km:bO PH nh.heap.size A i c ((xs.take i).map (lJ D)):=Row.aC (Row.aC Bn M8 (fun _ _ h=>h)) RM (fun _ _ h=>h);have Sm:nh.heap.size<=PH.heap.size:=Nat.le_trans Cz.size RM.size;have Jx:xs.length<=D.length:=xK;obtain⟨A2,c2,pT,hr,vS,JZ,OU⟩:=cD (cx:=1) az Km jb (by omega) Sm;have Hg:Kept (fun k=>bg A=some k) PH pT:=Kept.grown (Kept.refl _ _) JZ (fun k hk _=>hk);have Vb: ∀k,bg A=some k->nh.heap.size<=k:=fun k hk=>(Row.bC Km hk).1;have Vh:=Hg.heap Vi (fun e=>by have:=Vb _ e;omega);have aaa:Live (nh.heap.size+1) nh.heap.size R2 pT:=by
    have Ol:=(rh.aC M8 (fun h=>h) (fun h=>h)).aC RM (fun h=>h) (fun h=>h);refine Ol.aC Hg ?_ ?_
    ·intro h
     obtain⟨_,cur,hc⟩:=Row.bC Km h;exact iY hc Ol.loop rfl
    ·intro h
     obtain⟨_,cur,hc⟩:=Row.bC Km h;exact qI hc Ol.mark rfl
   refine⟨A2,_,c2,pT,hr,dM Vh (by simp),?_⟩;intro Xz;have Yu:Kept (· =w'.heap.size) pT Xz:=Kept.setCell (S:=fun k=>k=w'.heap.size) (Kept.refl _ pT) (p:=⟨w'.heap.size,0,none⟩) (fun _=>rfl) _;have aa7:Xz.heap[w'.heap.size]? =some (.cells #[.slice A2 (i+1) c2] az (0,0)):=cU Vh 0 _;clear_value Xz;refine⟨aaa.aC Yu (by omega) (by omega),A2,c2,aa7,?_,((Cz.trans RM (fun _ _ h=>h.elim)).trans Hg (fun k hk e=>absurd (Vb k e) (by omega))).trans Yu (fun _ _ h=>h),dP⟩;have e:(xs.take (i+1)).map (lJ D)=(xs.take i).map (lJ D)++ [nj.id]:=by
    rw [List.take_add_one,hx];simp [lJ,Fe]
   rw [e];exact Row.aC vS Yu (fun k hk e=>by have:=(Row.bC vS hk).1;omega)
  ·rintro v R ⟨A,c,h1,h2,h3,h4⟩ nI
   have e7:gI ρ0 nh.heap.size= [(2,.pointer (some (⟨w.heap.size,0,none⟩:Addr))),(4,.slice none 0 0),(9,.pointer (some (⟨w'.heap.size,0,none⟩:Addr))),(30,.func (.func aI.id) #[] #[.pointer (some (⟨tk.heap.size,0,none⟩:Addr))]),(4294967296,.agg #[.pointer (some ⟨nh.heap.size,0,none⟩)])]:=rfl;rw [e7,aR.iT];rw [List.take_of_length_le (Nat.le_refl _)]at h2;have Jx:xs.length<=D.length:=xK;refine⟨A,xs.length,c,by rw [ax h1];rfl,gN h2.hs (by omega) fun A2 c2 Xy FQ Yt=>⟨A2,_,c2,rfl,⟨Yt.heap nI.mark (fun h=>h),trivial⟩,?_⟩⟩;have hmk:=Yt.heap nI.mark (fun h=>h);have kp:Kept (· =nh.heap.size) Xy (Xy.putObj nh.heap.size (.deferred none)):=Kept.putAt _ _ _;have e:df (xs.map (lJ D))=dQ D l:=Cq fun a=>by
    rw [List.mem_map];constructor
    ·rintro⟨j,hj,rfl⟩
     have hb:=((oN ws 0 j ho).1 hj).2;rw [Nat.mul_zero,Nat.sub_zero]at hb;obtain⟨h',sF,nj,uE,C0⟩:=(pF j).1 hb;have:lJ D j=nj.id:=by unfold lJ;rw [uE]
     rw [this];exact⟨(C0.mem W).1,h',sF,C0⟩
    ·rintro⟨ha,h',hh',Bl⟩
     obtain⟨nj,hnm,rfl⟩:=dB.1 ha;obtain⟨j,hj⟩:=List.mem_iff_getElem?.1 hnm;refine⟨j,(oN ws 0 j ho).2 ⟨by omega,?_⟩,by unfold lJ;rw [hj]⟩;rw [Nat.mul_zero,Nat.sub_zero];exact(pF j).2 ⟨h',hh',nj,hj,Bl⟩
   rw [e]at FQ⊢;have kl:Kept Nil w Xy:=(Je.trans h3 (fun k hk e=>by omega)).trans Yt (fun _ _ h=>h);have hws:w.heap.size<=v.heap.size:=Nat.le_trans Je.size h3.size;refine hK A2 c2 _ (Row.base (Row.apart FQ kp (fun cs t fr h=>by rw [hmk]at h;cases h)) fun b hb=>Nat.le_trans hws (Row.bC FQ hb).1) (kl.trans kp (fun k hk e=>by omega))
end
end Go.Proofs.YtnboahlopghcjaaGreatDoor
namespace Go.Proofs.YtnboahlopghcjaaGreatDoor
open Go.Proofs.Tryz
open Go Go.bV Go.RowKit
section
variable{w w':World}{S F:Nat->Prop}{g bl c mb gb:Nat}{D:DG}{C:HT->List HT}{M:List NM}{K:Value->World->Prop}
theorem zt(G:GV w S F g D C bl c mb M)(hg:w.heap[gb]? =some (.cells #[.pointer (some ⟨g,0,none⟩)] ke (0,0))){A:Option Addr}{n cx:Nat}{l:List HT}(hl:HS w A n l)(hn:n<=400000)
 (hK: ∀w' (x:Bool),(x=true↔ ∃p∈l,p∉ids D)->Kept Nil w w'->K (.bool x) w'):
 bn prog dD.id #[.slice A n cx,.func (.func dZ.id) #[] #[.pointer (some ⟨gb,0,none⟩)]] w K:=by
 have hlen:=hl.len;refine bZ.of (ao.of ?_);refine ao.b6 (I:=fun s w'=> ∃i:Nat,s=(0,(i:Int))/\i<=n/\(∀p∈l.take i,p∈ids D)/\Kept Nil w w') (μ:=fun s _=>((n:Int)-s.2).toNat) (s:=(0,0)) ⟨0,rfl,Nat.zero_le _,by simp,Kept.refl _ _⟩ ?_;rintro s w' ⟨i,rfl,hi,cS,kw⟩;refine Split.dec (fun jf=>?_) (fun gu=>?_)
 ·simp only at jf
  have dP:i<n:=by omega
  obtain⟨x,hx⟩: ∃x,l[i]? =some x:=⟨_,List.getElem?_eq_getElem (by omega)⟩;refine(hl.same kw).load (i:=(i:Int)) (by omega) hx ?_;refine dZ.of ?_;unfold dZ.W;intro w3;have k3:Kept Nil w' w3:=(Kept.refl _ _).alloc _;have oo:w3.heap[w'.heap.size]? =some (.cells x.1 ag (0,0)):=aJ w' _;clear_value w3;have KX:=kw.trans k3 (fun _ _ h=>h);refine⟨some ⟨g,0,none⟩,by rw [ax (KX.heap hg (fun h=>h))];rfl,x.1,⟨x.2.1,Cells.bC oo⟩,tu (G.same KX) x fun w7 k7=>⟨_,rfl,_,rfl,?_⟩⟩;have AG:=KX.trans k7 (fun _ _ h=>h);by_cases hm:x∈ids D
  ·refine Split.no (by rw [decide_eq_true hm];rfl) ?_
   simp only;rw [dE (n:=(i:Int)) (by omega) (by omega)];refine⟨(0,(i:Int)+1),rfl,⟨i+1,rfl,dP,fun p hp=>?_,AG⟩,by simp only;omega⟩;rcases(bH hx).1 hp with hp|rfl
   ·exact cS p hp
   ·exact hm
  ·refine Split.yes (by rw [decide_eq_false hm];rfl) ?_
   refine⟨(i:Int),rfl,?_⟩;exact hK w7 _ ⟨fun _=>⟨x,List.mem_of_getElem? hx,hm⟩,fun _=>decide_eq_true (by omega)⟩ AG
 ·simp only at gu
  rw [aS,ao.cX];rw [List.take_of_length_le (by omega)]at cS;exact⟨-1,rfl,hK w' _ ⟨fun h=>absurd (of_decide_eq_true h) (by omega),fun⟨p,hp,hn⟩=>absurd (cS p hp) hn⟩ kw⟩
theorem jt{w:World}{a b:Nat}{ca cb:Array Value}{ta tb:TypeId}{fa fb:Nat×Nat}(ha:w.heap[a]? =some (.cells ca ta fa))(hb:w.heap[b]? =some (.cells cb tb fb))(fG:ta≠tb):a≠b:=by
 rintro rfl;rw [ha]at hb;simp only [Option.some.injEq,Obj.cells.injEq]at hb;exact fG hb.2.1
theorem GV.upd(G:GV w S F g D C bl c mb M)(W:jw D){q:Nat}{nd:DN}{m:NM}(hq:D[q]? =some nd)(hm:M[q]? =some m){A5:Option Addr}{n5 c5:Nat}{ch':List HT}
 (kT:Kept (fun k=>bg m.cA=some k\/k=m.b) w w') (hb:w'.heap[m.b]? =some (.cells (fF nd.id {m with cA:=A5,cn:=n5,cc:=c5}) dK (0,0))) (e8:bO w' w.heap.size A5 n5 c5 ch'):
 GV w' (fun k=>S k\/bg A5=some k) F g D (fun x=>if x=nd.id then ch' else C x) bl c mb (M.set q {m with cA:=A5,cn:=n5,cc:=c5}):=by
 have N:=G.node q nd m hq hm;have JF:q<M.length:=(List.getElem?_eq_some_iff.1 hm).1;have oS: ∀k,bg m.cA=some k-> ∃cur,w.heap[k]? =some (.cells cur ag (0,0)):=fun k hk=>(Row.bC N.ch hk).2;have hF: ∀k,F k-> ¬(bg m.cA=some k\/k=m.b):=fun k hk e=>by
  rcases e with e|rfl
  ·exact G.Fj k (N.Pn k e) hk
  ·exact G.Fj _ N.fQ hk
 have typ: ∀ {k:Nat} {cs:Array Value} {t:TypeId},w.heap[k]? =some (.cells cs t (0,0))->t≠ag->t≠dK-> ¬(bg m.cA=some k\/k=m.b):=fun h h1 h2 e=>by
  rcases e with e|rfl
  ·obtain⟨cur,hc⟩:=oS _ e
   exact jt h hc h1 rfl
  ·exact jt h N.bC h2 rfl
 have Ey: ∀k,bg A5=some k->w.heap.size<=k:=fun k hk=>(Row.bC e8 hk).1;have gh: ∀(i:Nat) m',(M.set q {m with cA:=A5,cn:=n5,cc:=c5})[i]? =some m'->(i=q/\m'= {m with cA:=A5,cn:=n5,cc:=c5})\/(i≠q/\M[i]? =some m'):=fun i m' h=>by
  by_cases e:i=q
  ·subst e
   rw [List.getElem?_set_self JF]at h;exact .inl ⟨rfl,(Option.some.inj h).symm⟩
  ·rw [List.getElem?_set_ne (Ne.symm e)]at h
   exact .inr ⟨e,h⟩
 refine⟨?_,?_,?_,by simpa using G.len,?_,?_,.inl G.gS,.inl G.sH,.inl G.uK,?_,?_⟩
 ·exact kT.heap G.top (typ G.top (by decide) (by decide))
 ·have Oh:(M.set q {m with cA:=A5,cn:=n5,cc:=c5}).map (fun m=>Value.pointer (some ⟨m.b,0,none⟩))=M.map fun m=>Value.pointer (some ⟨m.b,0,none⟩):=by
   apply List.ext_getElem?;intro i;rw [List.getElem?_map,List.getElem?_map];by_cases e:i=q
   ·subst e
    rw [List.getElem?_set_self JF,hm];rfl
   ·rw [List.getElem?_set_ne (Ne.symm e)]
  rw [Oh];refine Row.aC G.row kT (fun k e=>?_);cases e;obtain⟨_,cur,hc⟩:=Row.bC G.row (k:=bl) rfl;exact typ hc (by decide) (by decide)
 ·refine G.map.aC kT (fun e=>?_)
  obtain⟨es,clock,JO,_⟩:=G.map.ex;rcases e with e|e
  ·obtain⟨cur,hc⟩:=oS _ e
   rw [hc]at JO;cases JO
  ·rw [e,N.bC]at JO;cases JO
 ·intro i nd' m' hi mr
  rcases gh i m' mr with⟨rfl,rfl⟩|⟨fG,Tv⟩
  ·rw [hq]at hi
   cases hi;rw [if_pos rfl];exact⟨hb,.inl N.fQ,N.ps.aC kT (fun a ha=>hF _ (N.IX a ha)),N.IX,Row.base e8 (fun _ _=>Nat.zero_le _),fun k hk=>.inr hk,N.past.aC kT (fun a ha=>hF _ (N.oJ a ha)),N.oJ,N.ok,N.bits,N.small⟩
  ·have N':=G.node i nd' m' hi Tv
   have hid:nd'.id≠nd.id:=fun e=>fG (W.inj hi hq e);rw [if_neg hid];have aaV:m'.b≠m.b:=fun e=>by
    have h1:=N'.bC;rw [e,N.bC]at h1;simp only [Option.some.injEq,Obj.cells.injEq]at h1;exact hid (DW h1.1).symm
   refine⟨kT.heap N'.bC (fun e=>?_),.inl N'.fQ,N'.ps.aC kT (fun a ha=>hF _ (N'.IX a ha)),N'.IX,Row.aC N'.ch kT (fun k hk e=>?_),fun k hk=>.inl (N'.Pn k hk),N'.past.aC kT (fun a ha=>hF _ (N'.oJ a ha)),N'.oJ,N'.ok,N'.bits,N'.small⟩
   ·rcases e with e|e
    ·obtain⟨cur,hc⟩:=oS _ e
     exact jt N'.bC hc (by decide) rfl
    ·exact aaV e
   ·rcases e with e|rfl
    ·exact G.apart i q m' m Tv hm fG k hk e
    ·obtain⟨cur,hc⟩:=(Row.bC N'.ch hk).2
     exact jt hc N.bC (by decide) rfl
 ·intro i j m1 m2 h1 h2 qR k Iu mD
  rcases gh i m1 h1 with⟨rfl,rfl⟩|⟨hi,sF⟩
  ·rcases gh j m2 h2 with⟨rfl,rfl⟩|⟨hj,uE⟩
   ·exact qR rfl
   ·have:=Ey k Iu
    have ri:j<D.length:=by rw [<-G.len];exact(List.getElem?_eq_some_iff.1 uE).1
    obtain⟨cur,hc⟩:=(Row.bC (G.node j _ m2 (List.getElem?_eq_getElem ri) uE).ch mD).2;have:=aQ hc;omega
  ·rcases gh j m2 h2 with⟨rfl,rfl⟩|⟨hj,uE⟩
   ·have:=Ey k mD
    have dP:i<D.length:=by rw [<-G.len];exact(List.getElem?_eq_some_iff.1 sF).1
    obtain⟨cur,hc⟩:=(Row.bC (G.node i _ m1 (List.getElem?_eq_getElem dP) sF).ch Iu).2;have:=aQ hc;omega
   ·exact G.apart i j m1 m2 sF uE qR k Iu mD
 ·intro k hk hf
  rcases hk with hk|hk
  ·exact G.Fj k hk hf
  ·have:=Ey k hk
   have:=G.low k (.inr hf);omega
 ·intro k hk
  rcases hk with(hk|hk)|hk
  ·exact Nat.lt_of_lt_of_le (G.low k (.inl hk)) kT.size
  ·obtain⟨cur,hc⟩:=(Row.bC e8 hk).2
   exact aQ hc
  ·exact Nat.lt_of_lt_of_le (G.low k (.inr hk)) kT.size
end
end Go.Proofs.YtnboahlopghcjaaGreatDoor
namespace Go.Proofs.YtnboahlopghcjaaGreatDoor
open Go.Proofs.Tryz
open Go Go.bV Go.RowKit
theorem yA(h:HT)(m:NM)(A:Option Addr)(n c:Nat):(fF h m).setIfInBounds 33 (.slice A n c)=fF h {m with cA:=A,cn:=n,cc:=c}:=by
 have hs:=h.2.1;apply Array.ext_getElem?;intro i;unfold fF;rw [Array.getElem?_setIfInBounds,Array.getElem?_append,Array.getElem?_append];by_cases h1:i<h.1.size
 ·rw [if_neg (by omega),if_pos h1,if_pos h1]
 ·rw [if_neg h1,if_neg h1]
  by_cases h2:i=33
  ·subst h2
   rw [if_pos rfl,if_pos (by simp;omega),hs];rfl
  ·rw [if_neg (Ne.symm h2),hs]
   match i-32,show i-32≠1 by omega with
   |0,_=>rfl
   |2,_=>rfl
   |(k+3),_=>rfl
theorem yz(h:HT)(m:NM)(A:Option Addr)(n c:Nat):(fF h m).setIfInBounds 34 (.slice A n c)=fF h {m with rA:=A,rn:=n,rc:=c}:=by
 have hs:=h.2.1;apply Array.ext_getElem?;intro i;unfold fF;rw [Array.getElem?_setIfInBounds,Array.getElem?_append,Array.getElem?_append];by_cases h1:i<h.1.size
 ·rw [if_neg (by omega),if_pos h1,if_pos h1]
 ·rw [if_neg h1,if_neg h1]
  by_cases h2:i=34
  ·subst h2
   rw [if_pos rfl,if_pos (by simp;omega),hs];rfl
  ·rw [if_neg (Ne.symm h2),hs]
   match i-32,show i-32≠2 by omega with
   |0,_=>rfl
   |1,_=>rfl
   |(k+3),_=>rfl
section
variable{w w0 w':World}{S F F1 S':Nat->Prop}{g bl c mb gb ib nb:Nat}{D:DG}{C:HT->List HT}{M:List NM}{K:Value->World->Prop}
noncomputable def iB(D:DG)(h:HT)(l:List HT):HT->List HT:=fun x=>if x∈l then df (gk D x++ [h])else gk D x
structure AL(w0 w':World)(S F1 S':Nat->Prop)(g:Nat)(D:DG)(h:HT)(l:List HT)(gb ib nb:Nat)(pA:Option Addr)(pc i bl c mb:Nat)(M:List NM)(rA:Option Addr)(rn rc:Nat)(ws:List Nat):Prop where
 G:GV w' S' F1 g D (iB D h (l.take i)) bl c mb M
 sub: ∀k,S k->S' k
 new: ∀k,S' k->S k\/w0.heap.size<=k
 node:w'.heap[nb]? =some (.cells (fF h ⟨nb,pA,l.length,pc,none,0,0,rA,rn,rc,ws⟩) dK (0,0))
 X0: ¬S' nb
 row:jR w' nb rA rn rc ws
 ok:okW ws
 small:rn<=200
 XZ: ∀k,bg rA=some k-> ¬S' k
 bits: ∀j,bit ws j=true↔ ∃p∈l.take i,∃nj,D[j]? =some nj/\(nj.id=p\/eZ D nj.id p)
 WZ:w'.heap[gb]? =some (.cells #[.pointer (some ⟨g,0,none⟩)] ke (0,0))
 ibx:w'.heap[ib]? =some (.cells h.1 ag (0,0))
 noG: ¬S' gb
 noI: ¬S' ib
 hl:HS w' pA l.length l
 kp:Kept S w0 w'
theorem ET{h:HT}{l:List HT}{pA:Option Addr}{pc i:Nat}{rA:Option Addr}{rn rc:Nat}{ws:List Nat}{Q:aO}
 (L:AL w0 w' S F1 S' g D h l gb ib nb pA pc i bl c mb M rA rn rc ws) (W:jw D) (hD:D.length<=10000) (tq:SS l) (fN: ∀p∈l,p∈ids D) (Fh: ∀k,F1 k->k<nb) (Ir: ∀a,pA=some a->F1 a.block) (h0:w0.heap.size<=nb) (dP:i<l.length) (Wz:l.length<=10000)
 (hQ: ∀S2 M rA rn rc ws v,AL w0 v S F1 S2 g D h l gb ib nb pA pc (i+1) bl c mb M rA rn rc ws->Q .normal (bz.e1 ⟨gb,0,none⟩ ⟨ib,0,none⟩ 0 ⟨nb,0,none⟩ pA l.length pc (l.length:Int) ((i:Int)+1)) v):
 bz.B1 ⟨gb,0,none⟩ ⟨ib,0,none⟩ 0 ⟨nb,0,none⟩ pA l.length pc (l.length:Int) (i:Int) Q w':=by
 obtain⟨p,hp⟩: ∃p,l[i]? =some p:=⟨_,List.getElem?_eq_getElem dP⟩;have qp:=List.mem_of_getElem? hp;have ZG:=fN p qp;refine Split.yes (decide_eq_true (by omega)) ?_;refine L.hl.load (i:=(i:Int)) (by omega) hp ?_;intro ra;obtain⟨qP,iC,iI⟩:=fT (w:=w') (z:=(#[.int .u8 0,.int .u8 0,.int .u8 0,.int .u8 0,.int .u8 0,.int .u8 0,.int .u8 0,.int .u8 0,.int .u8 0,.int .u8 0,.int .u8 0,.int .u8 0,.int .u8 0,.int .u8 0,.int .u8 0,.int .u8 0,.int .u8 0,.int .u8 0,.int .u8 0,.int .u8 0,.int .u8 0,.int .u8 0,.int .u8 0,.int .u8 0,.int .u8 0,.int .u8 0,.int .u8 0,.int .u8 0,.int .u8 0,.int .u8 0,.int .u8 0,.int .u8 0]:Array Value)) (cs:=p.1) (t:=ag) (by rw [p.2.1];rfl);refine⟨⟨p.2.1,p.2.one,fun j hj=>qP j (by rw [p.2.1];exact hj)⟩,?_⟩;intro sO
 replace iC:sO.heap[w'.heap.size]? =some (.cells p.1 ag (0,0)):=iC
 replace sQ:Kept Nil w' sO:=iI
 clear_value sO;refine⟨some ⟨g,0,none⟩,by rw [ax (sQ.heap L.WZ (fun h=>h))];rfl,p.1,⟨p.2.1,Cells.bC iC⟩,?_⟩;refine uQ (L.G.same sQ) p fun w40 x k40 hx=>⟨x,rfl,?_⟩;rcases hx with⟨rfl,mN⟩|⟨q,nd,m',hq,fw,mr,rfl⟩
 ·exact absurd ZG mN
 intro zM;have Gn:Kept Nil w' zM:=(sQ.trans k40 (fun _ _ h=>h)).drew;have Hl:zM.heap[w'.heap.size]? =some (.cells p.1 ag (0,0)):=k40.heap iC (fun h=>h);clear_value zM;have ahA:=Gn.size;have Xj:=L.G.same Gn;obtain⟨m,hm,Qs⟩:=Xj.get hq;rw [mr]at hm;cases hm;have Oe:=Gn.heap L.node (fun h=>h);have yk:jR zM nb rA rn rc ws:=Row.aC L.row Gn (fun _ _ h=>h);refine⟨rA,rn,rc,by rw [ba,Nat.zero_add,ax Oe];exact yB _ _,?_⟩;refine⟨_,_,_,vX Qs,some ⟨g,0,none⟩,by rw [ax (Gn.heap L.WZ (fun h=>h))];rfl,?_⟩;refine⟨some mb,Xj.at_,p.1,⟨p.2.1,Cells.bC Hl⟩,_,Xj.map.we p,?_⟩;rw [show pos p (ids D) 0=some q by rw [<-fw];exact W.pos_eq hq,Option.getD_some];have JF:=(List.getElem?_eq_some_iff.1 hq).1;have vd:=Qs.small;have aho:=L.small;have Zj: ∀k,bg rA=some k->nb<=k/\k<w'.heap.size:=fun k hk=>by
  obtain⟨h1,cur,hc⟩:=Row.bC L.row hk;exact⟨h1,aQ hc⟩
 have ZT:nb<w'.heap.size:=aQ L.node;have KK: ∀ {v:World} {A:Option Addr} {n c:Nat} {l:List Nat} {B:Nat},jR v B A n c l-> ∀ {k:Nat} {cs:Array Value} {t:TypeId},v.heap[k]? =some (.cells cs t (0,0))->t≠iy-> ¬bg A=some k:=fun hr _ _ _ hk fG e=>by
  obtain⟨_,cur,hc⟩:=Row.bC hr e;exact jt hk hc fG rfl
 refine vR yk L.ok (by omega) (by omega) Qs.past Qs.ok (by omega) (fun a ha k hk e=>?_) fun A2 n2 c2 l2 Di sj ZO ah4 OS Gl aa8=>⟨A2,n2,c2,rfl,?_⟩
 ·have h1:=Fh a.block (Qs.oJ a ha)
  have h2:=(Zj k hk).1;omega
 have hnF: ∀k,F1 k-> ¬bg rA=some k:=fun k hk e=>by have:=Fh k hk;have:=(Zj k e).1;omega
 have G52:=Xj.aC Gl (fun k hk e=>L.XZ k e hk) hnF;have Uo:=Gl.heap Hl (KK yk Hl (by decide));have TT:=Gn.heap L.WZ (fun h=>h);have OG:=Gl.heap TT (KK yk TT (by decide));have TO:=Gn.heap L.ibx (fun h=>h);have TN:=Gl.heap TO (KK yk TO (by decide));have LD:=Gl.heap Oe (KK yk Oe (by decide));have ahz:=Gl.size;have TC:=G52.map.we p;rw [show pos p (ids D) 0=some q by rw [<-fw];exact W.pos_eq hq,Option.getD_some]at TC;refine⟨TC,⟨p.1,rfl,p.2.1,Cells.bC Uo⟩,G52.at_,by rw [ax OG];rfl,?_⟩;have Vd: ∀k,bg A2=some k->bg rA=some k\/zM.heap.size<=k:=aa8;refine yi sj ZO (by omega) (by omega) (by omega) fun A3 n3 c3 l3 pT vS ZN ah3 OR Eb OU=>⟨A3,n3,c3,rfl,?_⟩;have Bg: ∀k,bg A2=some k-> ¬S' k:=fun k hk hs=>by
  rcases Vd k hk with h|h
  ·exact L.XZ k h hs
  ·have:=L.G.low k (.inl hs);omega
 have G9: ∀k,F1 k-> ¬bg A2=some k:=fun k hf hk=>by
  have:=Fh k hf;have:=(Row.bC sj hk).1;omega
 have G55:=G52.aC Eb (fun k hk e=>Bg k e hk) G9;have JZ:=Eb.heap OG (KK sj OG (by decide));have TM:=Eb.heap TN (KK sj TN (by decide));have y7:=Eb.heap LD (KK sj LD (by decide));have ahy:=Eb.size;have adV:=ue h ⟨nb,pA,l.length,pc,none,0,0,rA,rn,rc,ws⟩;refine⟨by rw [ba,Nat.zero_add];exact dM y7 (by omega),?_⟩;intro w57 Ft;have Fb:Kept (· =nb) pT w57:=by
  show Kept (· =nb) pT (pT.setCell ((⟨nb,0,none⟩:Addr).add 34) (.slice A3 n3 c3))
  exact Kept.setCell (S:=fun k=>k=nb) (Kept.refl _ pT) (by rw [eI];exact fun _=>rfl) _
 have Tl:w57.heap[nb]? =some (.cells (fF h ⟨nb,pA,l.length,pc,none,0,0,A3,n3,c3,l3⟩) dK (0,0)):=by
  show(pT.setCell ((⟨nb,0,none⟩:Addr).add 34) (.slice A3 n3 c3)).heap[nb]? =_;rw [ba,Nat.zero_add,cU y7 34,yz];rfl
 have Gk:Kept (· =nb) pT Ft:=Fb.drew;have Tk:Ft.heap[nb]? =some (.cells (fF h ⟨nb,pA,l.length,pc,none,0,0,A3,n3,c3,l3⟩) dK (0,0)):=Tl;clear_value Ft;clear Tl Fb;have ahx:=Gk.size;have G58:=G55.aC Gk (fun k hk e=>L.X0 (e▸hk)) (fun k hk e=>by have:=Fh k hk;omega);have TR:=Gk.heap JZ (jt JZ y7 (by decide));have OB:=Gk.heap TM (jt TM y7 (by decide));have QV:jR Ft nb A3 n3 c3 l3:=Row.aC vS Gk (fun k hk e=>by
  subst e;exact KK vS y7 (by decide) hk)
 obtain⟨m,hm,N58⟩:=G58.get hq;rw [mr]at hm;cases hm;refine⟨m'.cA,m'.cn,m'.cc,Ct N58,h.1,⟨h.2.1,Cells.bC OB⟩,h.2.1,?_⟩;intro V0;have Ys:Kept Nil Ft V0:=(Kept.refl _ _).alloc _;have OQ:HS V0 (some ⟨Ft.heap.size,0,none⟩) 1 [h]:=jb Ft h;clear_value V0;have G62:=G58.same Ys;obtain⟨m,hm,Qr⟩:=G62.get hq;rw [mr]at hm;cases hm;refine⟨Ct Qr,?_⟩;have Ue:=Qr.ch.len;have CT:iB D h (l.take i) nd.id=gk D p:=by
  unfold iB;rw [fw,if_neg];intro gZ;obtain⟨j,hj⟩:=List.mem_iff_getElem?.1 gZ;rw [List.getElem?_take]at hj;split at hj
  ·have:=tq.get (by omega) hj hp
   rw [gL]at this;cases this
  ·cases hj
 have qq:=mH D fun a=>nn D p a;have WG:m'.cn<=10000:=by
  rw [<-Ue,CT];unfold gk;omega
 obtain⟨A7,c7,E0,Zo,QU,aat,aa6⟩:=cD (cx:=1) az Qr.ch OQ (by omega) (Nat.zero_le _);have Ea:Kept (fun k=>bg m'.cA=some k) V0 E0:=Kept.grown (Kept.refl _ _) aat (fun k hk _=>hk);refine⟨A7,_,c7,E0,Zo,?_⟩;have ahw:=Ys.size;have Ss:=Ea.size;refine gN QU.hs (by omega) fun A5 c5 Mq FO Yr=>⟨A5,_,c5,rfl,?_⟩;have ahv:=Yr.size;have Ts:=Ea.heap Qr.bC (fun e=>by
  obtain⟨_,cur,hc⟩:=Row.bC Qr.ch e;exact jt Qr.bC hc (by decide) rfl)
 have Hc:=Yr.heap Ts (fun h=>h);refine⟨by rw [ba,Nat.zero_add];exact dM Hc (by rw [ue];omega),?_⟩;intro BZ;have RJ:Kept (· =m'.b) Mq BZ:=by
  show Kept (· =m'.b) Mq (Mq.setCell ((⟨m'.b,0,none⟩:Addr).add 33) (.slice A5 (df (iB D h (l.take i) nd.id++ [h])).length c5))
  exact Kept.setCell (S:=fun k=>k=m'.b) (Kept.refl _ Mq) (by rw [eI];exact fun _=>rfl) _
 have Tq:BZ.heap[m'.b]? =some (.cells (fF nd.id {m' with cA:=A5,cn:=(df (iB D h (l.take i) nd.id++ [h])).length,cc:=c5}) dK (0,0)):=by
  show(Mq.setCell ((⟨m'.b,0,none⟩:Addr).add 33) (.slice A5 (df (iB D h (l.take i) nd.id++ [h])).length c5)).heap[m'.b]? =_;rw [ba,Nat.zero_add,cU Hc 33,yA]
 clear_value BZ;have kT:Kept (fun k=>bg m'.cA=some k\/k=m'.b) Ft BZ:=
  (((Ys.mono (S':=fun k=>bg m'.cA=some k\/k=m'.b) (fun _ _ h=>h.elim)).trans Ea (fun _ _ h=>.inl h)).trans Yr (fun _ _ h=>h.elim)).trans RJ (fun _ _ h=>.inr h)
 have GY:bO BZ Ft.heap.size A5 (df (iB D h (l.take i) nd.id++ [h])).length c5 (df (iB D h (l.take i) nd.id++ [h])):=
  Row.base (Row.aC FO RJ (fun k hk e=>by
   subst e;obtain⟨_,cur,hc⟩:=Row.bC FO hk;exact jt Hc hc (by decide) rfl)) (fun k hk=>by have:=(Row.bC FO hk).1;omega)
 have G69:=G58.upd W hq mr kT Tq GY;have Ey: ∀k,bg A5=some k->Ft.heap.size<=k:=fun k hk=>(Row.bC GY hk).1;have Qh: ∀k,(bg m'.cA=some k\/k=m'.b)->S' k:=fun k e=>by
  rcases e with e|rfl
  ·exact N58.Pn k e
  ·exact N58.fQ
 have hkf:(fun x=>if x=nd.id then df (iB D h (l.take i) nd.id++ [h])else iB D h (l.take i) x)=iB D h (l.take (i+1)):=by
  funext x
  by_cases hx:x=nd.id
  ·rw [if_pos hx,CT,hx,fw]
   unfold iB;rw [if_pos ((bH hp).2 (.inr rfl))]
  ·rw [if_neg hx]
   unfold iB;have:x∈l.take (i+1)↔x∈l.take i:=by
    rw [bH hp];exact⟨fun e=>e.resolve_right (fun e=>hx (by rw [fw];exact e)),.inl⟩
   by_cases hm:x∈l.take i
   ·rw [if_pos hm,if_pos (this.2 hm)]
   ·rw [if_neg hm,if_neg (fun e=>hm (this.1 e))]
 rw [hkf]at G69;rw [dE (n:=(i:Int)) (by omega) (by omega)];have ad7:nb<Ft.heap.size:=aQ Tk;have kl:Kept S w0 BZ:=by
  have k1:=L.kp.trans Gn (fun _ _ h=>h.elim);have k2:=k1.trans Gl (fun k hk e=>absurd (Zj k e).1 (by omega));have k3:=k2.trans Eb (fun k hk e=>absurd (Row.bC sj e).1 (by omega));have k4:=k3.trans Gk (fun k hk e=>by omega);exact k4.trans kT (fun k hk e=>by
   rcases L.new k (Qh k e)with h|h
   ·exact h
   ·omega)
 refine hQ _ _ A3 n3 c3 l3 BZ ⟨G69,fun k hk=>.inl (L.sub k hk),fun k hk=>?_,kT.heap Tk (fun e=>L.X0 (Qh _ e)),fun e=>?_,Row.aC QV kT (fun k hk e=>?_),ZN,by omega,fun k hk e=>?_,fun j=>?_,
  kT.heap TR (fun e=>L.noG (Qh _ e)),kT.heap OB (fun e=>L.noI (Qh _ e)),fun e=>?_,fun e=>?_,?_,kl⟩
 ·rcases hk with hk|hk
  ·exact L.new k hk
  ·have:=Ey k hk
   have:=L.kp.size;exact .inr (by omega)
 ·rcases e with e|e
  ·exact L.X0 e
  ·have:=Ey _ e;omega
 ·have hs:=Qh k e
  rcases OU k hk with h|h
  ·exact Bg k h hs
  ·have:=L.G.low k (.inl hs);omega
 ·have hk3:k<pT.heap.size:=by
   obtain⟨_,cur,hc⟩:=Row.bC vS hk;exact aQ hc
  rcases e with e|e
  ·rcases OU k hk with h|h
   ·exact Bg k h e
   ·have:=L.G.low k (.inl e);omega
  ·have:=Ey _ e;omega
 ·rw [OR,Bool.or_eq_true,OS,Bool.or_eq_true,L.bits,Qs.bits,decide_eq_true_iff]
  constructor
  ·rintro((⟨p',h1,h2⟩|⟨nj,h1,h2⟩)|rfl)
   ·exact⟨p',(bH hp).2 (.inl h1),h2⟩
   ·exact⟨p,(bH hp).2 (.inr rfl),nj,h1,.inr (fw▸h2)⟩
   ·exact⟨p,(bH hp).2 (.inr rfl),nd,hq,.inl fw⟩
  ·rintro⟨p',h1,nj,h2,h3⟩
   rcases(bH hp).1 h1 with h1|rfl
   ·exact .inl (.inl ⟨p',h1,nj,h2,h3⟩)
   ·rcases h3 with h3|h3
    ·exact .inr (W.inj h2 hq (h3.trans fw.symm))
    ·exact .inl (.inr ⟨nj,h2,fw▸h3⟩)
 ·rcases e with e|e
  ·exact L.noG e
  ·have:=Ey _ e;have:=aQ TR;omega
 ·rcases e with e|e
  ·exact L.noI e
  ·have:=Ey _ e;have:=aQ OB;omega
 ·have hb: ∀a,pA=some a->F1 a.block/\a.block<nb:=fun a ha=>⟨Ir a ha,Fh _ (Ir a ha)⟩
  have k1:=L.hl.same Gn;have k2:=k1.aC Gl (fun a ha=>hnF _ (hb a ha).1);have k3:=k2.aC Eb (fun a ha=>G9 _ (hb a ha).1);have k4:=k3.aC Gk (fun a ha e=>by have:=(hb a ha).2;omega);exact k4.aC kT (fun a ha e=>L.G.Fj _ (Qh _ e) (hb a ha).1)
end
end Go.Proofs.YtnboahlopghcjaaGreatDoor
namespace Go.Proofs.YtnboahlopghcjaaGreatDoor
open Go.Proofs.Tryz
open Go Go.bV Go.RowKit
theorem QM:xP prog kP eU 1 8:=⟨by kernel_rfl,by kernel_rfl⟩
theorem HU:Qp prog dK=some ([(0,32),(32,1),(33,1),(34,1)],List.replicate 32 (.int .u8 0)++ [.slice none 0 0,.slice none 0 0,.slice none 0 0]):=by kernel_rfl
theorem HQ(h:HT)(b:Nat)(A:Option Addr)(n c:Nat):prog.built dK [(0,.agg h.1),(1,.slice A n c)]=some (fF h ⟨b,A,n,c,none,0,0,none,0,0,[]⟩):=by
 have hs:=h.2.1;rw [mS HU,iA (off:=0) (size:=32) rfl (by simpa [Value.cells]using hs) (by simp),iA (off:=32) (size:=1) rfl rfl (by
  rw [List.size_toArray,ly (by simp [Value.cells,hs])];simp)]
 simp only [Instr.fill,Option.some.injEq];apply Array.ext';unfold gz fF;simp [Value.cells,hs];rw [List.drop_append];simp [hs]
theorem EL(h:HT)(b:Nat):prog.built dK [(0,.agg h.1)]=some (fF h ⟨b,none,0,0,none,0,0,none,0,0,[]⟩):=by
 have hs:=h.2.1;rw [mS HU,iA (off:=0) (size:=32) rfl (by simpa [Value.cells]using hs) (by simp)];simp only [Instr.fill,Option.some.injEq];apply Array.ext';unfold gz fF;simp [Value.cells,hs]
section
variable{D:DG}{h:HT}{l:List HT}
theorem BG(W:jw D)(hn:h∉ids D){x:HT}:iB D h l x=gk (D++ [⟨h,l⟩]) x:=by
 have gZ: ∀a,a∈gk (D++ [⟨h,l⟩]) x↔(a∈gk D x\/(a=h/\x∈l)):=fun a=>by
  unfold gk;rw [ji,ji,mI,km,List.mem_append,List.mem_singleton];constructor
  ·rintro⟨h1,h2|⟨h2,h3⟩⟩
   ·exact .inl ⟨(eZ.mem W (.one h2)).2,h2⟩
   ·exact .inr ⟨h2.symm,h3⟩
  ·rintro(⟨h1,h2⟩|⟨rfl,h2⟩)
   ·exact⟨.inl h1,.inl h2⟩
   ·exact⟨.inr rfl,.inr ⟨rfl,h2⟩⟩
 unfold iB;by_cases tp:x∈l
 ·rw [if_pos tp]
  refine(wI (l:=gk (D++ [⟨h,l⟩]) x) (iD _) fun a=>?_).symm;rw [gZ,List.mem_append,List.mem_singleton];exact⟨fun e=>e.imp (fun e=>e) (fun e=>e.1),fun e=>e.imp (fun e=>e) (fun e=>⟨e,tp⟩)⟩
 ·rw [if_neg tp]
  refine xC (iD _) (iD _) fun a=>?_;have:=gZ a;unfold gk pick at this⊢;rw [this];exact⟨.inl,fun e=>e.resolve_right (fun e=>tp e.2)⟩
theorem EK(W:jw D)(hn:h∉ids D)(fN: ∀p∈l,p∈ids D):gk (D++ [⟨h,l⟩]) h= []:=by
 cases hc:gk (D++ [⟨h,l⟩]) h with
 |nil=>rfl
 |cons b t=>
  exfalso;have:b∈gk (D++ [⟨h,l⟩]) h:=by rw [hc];simp
  rcases mI.1 (ji.1 this).2 with h1|⟨_,h2⟩
  ·exact hn (eZ.mem W (.one h1)).1
  ·exact hn (fN h h2)
theorem HV(W:jw D)(hn:h∉ids D){x:HT}(hx:x∈ids D)(j:Nat):(∃nj,(D++ [⟨h,l⟩])[j]? =some nj/\eZ (D++ [⟨h,l⟩]) nj.id x)↔ ∃nj,D[j]? =some nj/\eZ D nj.id x:=by
 constructor
 ·rintro⟨nj,h1,h2⟩
  have uE:=(iP W (nd:=⟨h,l⟩) hn hx).1 h2;rw [List.getElem?_append]at h1;split at h1
  ·exact⟨nj,h1,uE⟩
  ·exfalso
   have:nj=⟨h,l⟩:=by
    cases hk:j-D.length with
    |zero=>rw [hk]at h1;simpa using h1.symm
    |succ k=>rw [hk]at h1;simp at h1
   subst this;exact hn (uE.mem W).1
 ·rintro⟨nj,h1,h2⟩
  exact⟨nj,by rw [List.getElem?_append_left (List.getElem?_eq_some_iff.1 h1).1];exact h1,(iP W (nd:=⟨h,l⟩) hn hx).2 h2⟩
theorem HW(W:jw D)(hn:h∉ids D)(fN: ∀p∈l,p∈ids D)(hs:SS l)(j:Nat):
 (∃nj,(D++ [⟨h,l⟩])[j]? =some nj/\eZ (D++ [⟨h,l⟩]) nj.id h)↔ ∃p∈l,∃nj,D[j]? =some nj/\(nj.id=p\/eZ D nj.id p):=by
 have W':jw (D++ [⟨h,l⟩]):=W.snoc (nd:=⟨h,l⟩) hn fN hs;have gh:(D++ [⟨h,l⟩])[D.length]? =some ⟨h,l⟩:=by rw [List.getElem?_append_right (Nat.le_refl _),Nat.sub_self];rfl
 have key: ∀a,eZ (D++ [⟨h,l⟩]) a h↔ ∃p∈l,a=p\/eZ D a p:=fun a=>by
  rw [tw W' gh a];constructor
  ·rintro⟨p,hp,e⟩
   exact⟨p,hp,e.imp (fun e=>e) (fun e=>(iP W (nd:=⟨h,l⟩) hn (fN p hp)).1 e)⟩
  ·rintro⟨p,hp,e⟩
   exact⟨p,hp,e.imp (fun e=>e) (fun e=>(iP W (nd:=⟨h,l⟩) hn (fN p hp)).2 e)⟩
 constructor
 ·rintro⟨nj,h1,h2⟩
  obtain⟨p,hp,e⟩:=(key _).1 h2;have hid:nj.id∈ids D:=by
   rcases e with e|e
   ·rw [e];exact fN p hp
   ·exact(e.mem W).1
  rw [List.getElem?_append]at h1;split at h1
  ·exact⟨p,hp,nj,h1,e⟩
  ·exfalso
   have:nj=⟨h,l⟩:=by
    cases hk:j-D.length with
    |zero=>rw [hk]at h1;simpa using h1.symm
    |succ k=>rw [hk]at h1;simp at h1
   subst this;exact hn hid
 ·rintro⟨p,hp,nj,h1,e⟩
  exact⟨nj,by rw [List.getElem?_append_left (List.getElem?_eq_some_iff.1 h1).1];exact h1,(key _).2 ⟨p,hp,e⟩⟩
end
section
variable{w w':World}{S F F':Nat->Prop}{g bl c mb:Nat}{D:DG}{C:HT->List HT}{M:List NM}{K:Value->World->Prop}
theorem GV.Q9(G:GV w S F g D C bl c mb M)(hf: ∀k,F k->F' k)(hd: ∀k,S k-> ¬F' k)(hl: ∀k,F' k->k<w.heap.size):GV w S F' g D C bl c mb M:=
 ⟨G.top,G.row,G.map,G.len,fun i nd m h1 h2=>by
   have N:=G.node i nd m h1 h2;exact⟨N.bC,N.fQ,N.ps,fun a ha=>hf _ (N.IX a ha),N.ch,N.Pn,N.past,fun a ha=>hf _ (N.oJ a ha),N.ok,N.bits,N.small⟩,G.apart,G.gS,G.sH,G.uK,hd,fun k hk=>hk.elim (fun h=>G.low k (.inl h)) (hl k)⟩
theorem KG{w0:World}{F1 S':Nat->Prop}{h:HT}{l:List HT}{gb ib nb:Nat}{pA:Option Addr}{pc i:Nat}{rA:Option Addr}{rn rc:Nat}{ws:List Nat}
 (L:AL w0 w S F1 S' g D h l gb ib nb pA pc i bl c mb M rA rn rc ws) (W:jw D) (hD:D.length<=5000) (tq:SS l) (fN: ∀p∈l,p∈ids D) (hn:h∉ids D) (Fh: ∀k,F1 k->k<nb) (Ir: ∀a,pA=some a->F1 a.block) (h0:w0.heap.size<=nb) (dP:l.length<=i)
 (hK: ∀v S2 F2,BV v S2 F2 g (D++ [⟨h,l⟩])->Kept S w0 v->(∀k,S2 k->S k\/w0.heap.size<=k)->(∀k,F2 k->F1 k\/w0.heap.size<=k)->K (.int .i64 0) v):
 bz.EX ⟨gb,0,none⟩ ⟨ib,0,none⟩ 0 ⟨nb,0,none⟩ pA l.length pc (l.length:Int) (i:Int) K w:=by
 have Sl:l.take i=l:=List.take_of_length_le dP;have hG:=L.G;rw [Sl]at hG;have LU:=L.bits;rw [Sl]at LU;unfold bz.EX;intro PF;have K1:Kept Nil w PF:=(Kept.refl _ _).drew;clear_value PF;have tA:=hG.same K1;have JY:=K1.heap L.WZ (fun h=>h);have Ha:=K1.heap L.node (fun h=>h);have Ci:jR PF nb rA rn rc ws:=Row.aC L.row K1 (fun _ _ h=>h);refine⟨some ⟨g,0,none⟩,by rw [ax JY];rfl,some mb,tA.at_,h.1,⟨h.2.1,Cells.bC (K1.heap L.ibx (fun h=>h))⟩,some ⟨g,0,none⟩,by rw [ax JY];rfl,?_⟩;refine⟨_,_,_,tA.nodes,?_⟩;obtain⟨w85,SA,Rf,k85⟩:=tA.map.put hn;rw [fR]at SA;refine⟨w85,SA,?_⟩;intro II;have M4:Kept (· =mb) PF II:=k85.drew;have KU:IsMap II mb (ids D++ [h]):=Rf.aC ((Kept.refl Nil w85).drew) (fun h=>h);clear_value II;have IM: ∀ {v:World} {k:Nat} {cs:Array Value} {t:TypeId},IsMap v mb (ids D)->v.heap[k]? =some (.cells cs t (0,0))->k≠mb:=fun hm hk e=>by
  obtain⟨es,clock,JO,_⟩:=hm.ex;rw [e,JO]at hk;cases hk
 have OF:=M4.heap JY (IM tA.map JY);have ah2:=M4.heap Ha (IM tA.map Ha);have GL:=M4.heap tA.top (IM tA.map tA.top);have QT:Row II 0 eU 1 (some ⟨bl,0,none⟩) D.length c (M.map fun m=>.pointer (some ⟨m.b,0,none⟩)):=Row.aC tA.row M4 (fun k hk e=>by
  obtain⟨_,cur,hc⟩:=Row.bC tA.row hk;exact IM tA.map hc e)
 have XP:jR II nb rA rn rc ws:=Row.aC Ci M4 (fun k hk e=>by
  obtain⟨_,cur,hc⟩:=Row.bC Ci hk;exact IM tA.map hc e)
 refine⟨some ⟨g,0,none⟩,by rw [ax OF];rfl,some ⟨g,0,none⟩,by rw [ax OF];rfl,?_⟩;refine⟨some ⟨bl,0,none⟩,D.length,c,by rw [add_zero,ax GL];rfl,?_⟩;intro Mo;have PT:Kept Nil II Mo:=(Kept.refl _ _).alloc _;have aa4:Mo.heap[II.heap.size]? =some (.cells #[.pointer (some ⟨nb,0,none⟩)] eU (0,0)):=aJ II _;clear_value Mo;have JX:=PT.heap OF (fun h=>h);have AR:=PT.heap GL (fun h=>h);refine⟨by rw [add_zero,ax AR];rfl,by rw [ax JX];rfl,by rw [ax JX];rfl,?_⟩;have FM:Row Mo 0 eU 1 (some ⟨bl,0,none⟩) D.length c (M.map fun m=>.pointer (some ⟨m.b,0,none⟩)):=Row.aC QT PT (fun _ _ h=>h);obtain⟨Xm,Qn,Mn,Zm,FL,TQ,aa3⟩:=fi (P:=prog) (t:=kP) (ty:=kP) (bytes:=8) QM FM (a:=⟨II.heap.size,0,none⟩) (m:=1) (cx:=1) (news:= [.pointer (some ⟨nb,0,none⟩)]) rfl
  (fun j u hj=>by rw [ba,Nat.zero_add,ax aa4];simpa using hj) (fun u hu=>by simp at hu;subst hu;rfl) (by omega) (by unfold maxLen;omega) (Nat.zero_le _)
 have Wg:Kept (· =bl) Mo Mn:=Kept.grown (S:=fun k=>k=bl) (Kept.refl _ _) TQ (fun k hk _=>by cases hk;rfl);refine⟨Xm,_,Qn,Mn,Zm,?_⟩;have tyL: ∀ {k:Nat} {cs:Array Value} {t:TypeId},Mo.heap[k]? =some (.cells cs t (0,0))->t≠eU->k≠bl:=fun hk fG=>by
  obtain⟨_,cur,hc⟩:=Row.bC FM (k:=bl) rfl;exact jt hk hc fG
 have aar:=Wg.heap JX (tyL JX (by decide));have xa:=Wg.heap AR (tyL AR (by decide));refine⟨by rw [ax aar];rfl,by rw [add_zero];exact dM xa (by simp),?_⟩;intro Ih;have Yp:Kept (· =g) Mn Ih:=by
  show Kept (· =g) Mn (Mn.setCell ((⟨g,0,none⟩:Addr).add 0) (.slice Xm (D.length+1) Qn))
  exact Kept.setCell (S:=fun k=>k=g) (Kept.refl _ Mn) (by rw [eI];exact fun _=>rfl) _
 have NK:Ih.heap[g]? =some (.cells #[.slice Xm (D.length+1) Qn,.map (some mb)] gJ (0,0)):=by
  show(Mn.setCell ((⟨g,0,none⟩:Addr).add 0) (.slice Xm (D.length+1) Qn)).heap[g]? =_;rw [add_zero,cU xa 0];rfl
 clear_value Ih;obtain⟨Qq,rfl⟩:=Row.some FL (by omega);have aht:=M4.size;have ahs:=PT.size;have kl:Kept (fun k=>k=g\/k=bl\/k=mb) PF Ih:=
  (((M4.mono (S':=fun k=>k=g\/k=bl\/k=mb) (fun _ _ h=>.inr (.inr h))).trans PT (fun _ _ h=>h.elim)).trans Wg (fun _ _ h=>.inr (.inl h))).trans Yp (fun _ _ h=>.inl h)
 have hTF: ∀k,F1 k-> ¬(k=g\/k=bl\/k=mb):=fun k hk e=>by
  rcases e with rfl|rfl|rfl
  ·exact tA.Fj _ tA.gS hk
  ·exact tA.Fj _ tA.sH hk
  ·exact tA.Fj _ tA.uK hk
 have ty: ∀ {k:Nat} {cs:Array Value} {t:TypeId},PF.heap[k]? =some (.cells cs t (0,0))->t≠gJ->t≠eU-> ¬(k=g\/k=bl\/k=mb):=fun hk h1 h2 e=>by
  rcases e with e|e|e
  ·rw [e]at hk
   exact jt hk tA.top h1 rfl
  ·rw [e]at hk
   obtain⟨_,cur,hc⟩:=Row.bC tA.row (k:=bl) rfl;exact jt hk hc h2 rfl
  ·exact IM tA.map hk e
 have AX:Row Ih 0 eU 1 (some ⟨Qq,0,none⟩) (D.length+1) Qn ((M.map fun m=>.pointer (some ⟨m.b,0,none⟩))++ [.pointer (some ⟨nb,0,none⟩)]):=Row.aC FL Yp (fun k hk e=>by
  obtain⟨_,cur,hc⟩:=Row.bC FL hk;exact jt hc xa (by decide) e)
 have Re:IsMap Ih mb (ids D++ [h]):=by
  obtain⟨es,clock,JO,_⟩:=KU.ex;have h1:=KU.aC PT (fun h=>h);have h2:=h1.aC Wg (fun e=>by
   obtain⟨_,cur,hc⟩:=Row.bC FM (k:=bl) rfl;obtain⟨_,_,mr,_⟩:=h1.ex;rw [e,hc]at mr;cases mr)
  exact h2.aC Yp (fun e=>by
   obtain⟨_,_,mr,_⟩:=h2.ex;rw [e,xa]at mr;cases mr)
 have Od:=kl.heap Ha (ty Ha (by decide) (by decide));have wM:jR Ih nb rA rn rc ws:=Row.aC Ci kl (fun k hk e=>by
  obtain⟨_,cur,hc⟩:=Row.bC Ci hk;exact ty hc (by decide) (by decide) e)
 have Hd:(D++ [(⟨h,l⟩:DN)]).length=D.length+1:=by simp
 have UC:Qq=bl\/Mo.heap.size<=Qq:=by
  rcases aa3 Qq rfl with e|e
  ·exact .inl (by cases e;rfl)
  ·exact .inr e
 have kZ:=L.kp.size;have ahu:=K1.size;have ZT:=aQ Ha;have Sz: ∀k,bg rA=some k->nb<=k/\k<Ih.heap.size:=fun k hk=>by
  obtain⟨h1,cur,hc⟩:=Row.bC wM hk;exact⟨h1,aQ hc⟩
 have gh: ∀ {X:Type} (xs:List X) (y:X) (j:Nat) (z:X),(xs++ [y])[j]? =some z->(j<xs.length/\xs[j]? =some z)\/(j=xs.length/\z=y):=fun xs y j z e=>by
  rw [List.getElem?_append]at e;split at e
  ·rename_i cI;exact .inl ⟨cI,e⟩
  ·rename_i gu
   cases hk:j-xs.length with
   |zero=>rw [hk]at e;exact .inr ⟨by omega,by simpa using e.symm⟩
   |succ k=>rw [hk]at e;simp at e
 refine hK Ih (fun k=>S' k\/k=nb\/k=Qq) (fun k=>F1 k\/bg rA=some k) ⟨Qq,Qn,mb,M++ [⟨nb,pA,l.length,pc,none,0,0,rA,rn,rc,ws⟩],?_⟩ ?_ ?_ ?_
 ·refine⟨by rw [Hd];exact NK,?_,by rw [km];exact Re,by simp [hG.len],fun j nd m h1 h2=>?_,fun j j' m m' h1 h2 fG k hk mu=>?_,.inl hG.gS,.inr (.inr rfl),.inl hG.uK,fun k hk hf=>?_,fun k hk=>?_⟩
  ·rw [Hd,List.map_append]
   exact AX
  ·rcases gh _ _ _ _ h1 with⟨hj,sF⟩|⟨hj,rfl⟩
   ·rcases gh _ _ _ _ h2 with⟨_,uE⟩|⟨uy,_⟩
    ·have N:=tA.node j nd m sF uE
     have hid:nd.id∈ids D:=dB.2 ⟨nd,List.mem_of_getElem? sF,rfl⟩;have hF: ∀k,F1 k-> ¬(k=g\/k=bl\/k=mb):=hTF;rw [<-BG W hn];refine⟨kl.heap N.bC (ty N.bC (by decide) (by decide)),.inl N.fQ,N.ps.aC kl (fun a ha=>hF _ (N.IX a ha)),fun a ha=>.inl (N.IX a ha),Row.aC N.ch kl (fun k hk e=>?_),fun k hk=>.inl (N.Pn k hk),N.past.aC kl (fun a ha=>hF _ (N.oJ a ha)),fun a ha=>.inl (N.oJ a ha),N.ok,fun j=>?_,N.small⟩
     ·obtain⟨cur,hc⟩:=(Row.bC N.ch hk).2
      exact ty hc (by decide) (by decide) e
     ·rw [N.bits,HV W hn hid]
    ·rw [hG.len]at uy;omega
   ·rcases gh _ _ _ _ h2 with⟨uy,_⟩|⟨_,rfl⟩
    ·rw [hG.len]at uy;omega
    ·rw [EK W hn fN]
     refine⟨Od,.inr (.inl rfl),(L.hl.same K1).aC kl (fun a ha=>hTF _ (Ir a ha)),fun a ha=>.inl (Ir a ha),bO.nil _ _,(fun k hk=>by cases hk),wM.us,fun a ha=>.inr (congrArg bg ha),L.ok,fun j=>?_,L.small⟩;rw [LU,HW W hn fN tq]
  ·rcases gh _ _ _ _ h1 with⟨_,sF⟩|⟨_,rfl⟩
   ·rcases gh _ _ _ _ h2 with⟨_,uE⟩|⟨_,rfl⟩
    ·exact hG.apart j j' m m' sF uE fG k hk mu
    ·cases mu
   ·cases hk
  ·rcases hk with hk|rfl|rfl
   ·rcases hf with hf|hf
    ·exact hG.Fj k hk hf
    ·exact L.XZ k hf hk
   ·rcases hf with hf|hf
    ·have:=Fh k hf;omega
    ·obtain⟨_,cur,hc⟩:=Row.bC wM hf
     exact jt Od hc (by decide) rfl
   ·rcases hf with hf|hf
    ·rcases UC with e|e
     ·rw [e]at hf;exact hG.Fj _ hG.sH hf
     ·have:=Fh _ hf;omega
    ·obtain⟨_,cur,hc⟩:=Row.bC wM hf
     obtain⟨_,Vz,sV⟩:=Row.bC AX (k:=k) rfl;exact jt sV hc (by decide) rfl
  ·have ahr:=kl.size
   rcases hk with(hk|rfl|rfl)|hk|hk
   ·have:=tA.low k (.inl hk);omega
   ·exact aQ Od
   ·obtain⟨_,Vz,sV⟩:=Row.bC AX (k:=k) rfl
    exact aQ sV
   ·have:=tA.low k (.inr hk);omega
   ·exact(Sz k hk).2
 ·exact(L.kp.trans K1 (fun _ _ h=>h.elim)).trans kl (fun k hk e=>by
   have hs:S' k:=by
    rcases e with rfl|rfl|rfl
    ·exact hG.gS
    ·exact hG.sH
    ·exact hG.uK
   rcases L.new k hs with h|h
   ·exact h
   ·omega)
 ·intro k hk
  rcases hk with hk|rfl|rfl
  ·exact L.new k hk
  ·exact .inr h0
  ·rcases UC with e|e
   ·rw [e];exact L.new _ hG.sH
   ·exact .inr (by omega)
 ·intro k hk
  rcases hk with hk|hk
  ·exact .inl hk
  ·exact .inr (by have:=(Sz k hk).1;omega)
theorem Kx(G:GV w S F g D (gk D) bl c mb M)(W:jw D)(hD:D.length<=5000){A:Option Addr}{n cx:Nat}{lp:List HT}(hl:HS w A n lp)(hn:n<=10000)(h:HT)
 (hK: ∀v S2 F2,BV v S2 F2 g (lZ D h lp)->Kept S w v->(∀k,S2 k->S k\/w.heap.size<=k)->(∀k,F2 k->F k\/w.heap.size<=k)->K (.int .i64 (dp D h lp)) v):
 bn prog bz.id #[.pointer (some ⟨g,0,none⟩),.agg h.1,.slice A n cx] w K:=by
 have hlen:=hl.len;have mN: ∀v,Kept Nil w v-> ∀e,dp D h lp=e->e≠0->K (.int .i64 e) v:=fun v k e he fG=>by
  have:=hK v S F ?_ (k.mono fun _ _ h=>h.elim) (fun _ h=>.inl h) (fun _ h=>.inl h)
  ·rw [he]at this;exact this
  ·unfold lZ
   rw [if_neg (by rw [he];exact fG)];exact⟨bl,c,mb,M,G.same k⟩
 refine bz.of ?_;unfold bz.W;intro w4 w5;have k4:Kept Nil w w4:=(Kept.refl _ _).alloc _;have CX:w4.heap[w.heap.size]? =some (.cells #[.pointer (some ⟨g,0,none⟩)] ke (0,0)):=aJ w _;have k5:Kept Nil w4 w5:=(Kept.refl _ _).alloc _;have JV:w5.heap[w4.heap.size]? =some (.cells h.1 ag (0,0)):=aJ w4 _;have TS:=k5.heap CX (fun h=>h);clear_value w5;have KW:Kept Nil w w5:=k4.trans k5 (fun _ _ h=>h);have OC:w.heap.size<w4.heap.size:=aQ CX;have ait:w4.heap.size<w5.heap.size:=aQ JV;clear_value w4;refine gN (hl.same KW) (by omega) fun Fp VD w7 IT k7=>⟨Fp,_,VD,rfl,?_⟩;have AG:Kept Nil w w7:=KW.trans k7 (fun _ _ h=>h);have hg7:=k7.heap TS (fun h=>h);have hi7:=k7.heap JV (fun h=>h);have G7:=G.same AG;have AS:(df lp).length<=n:=by have:=l9 lp;omega
 refine⟨some ⟨g,0,none⟩,by rw [ax hg7];rfl,wz G7 ⟨true,rfl,Split.no rfl ?_⟩⟩;refine⟨some ⟨g,0,none⟩,by rw [ax hg7];rfl,h.1,⟨h.2.1,Cells.bC hi7⟩,tu G7 h fun iz jS=>⟨_,rfl,?_⟩⟩;have Gg:=AG.trans jS (fun _ _ h=>h);by_cases hm:h∈ids D
 ·refine Split.yes (decide_eq_true hm) (mN iz Gg 7 ?_ (by omega))
  unfold dp;rw [if_pos hm]
 refine Split.no (decide_eq_false hm) ?_;by_cases h0:(df lp).length=0
 ·refine Split.yes (by simp [h0]) (mN iz Gg 9 ?_ (by omega))
  unfold dp;rw [if_neg hm,if_pos (.inl h0)]
 refine Split.no (beq_eq_false_iff_ne.2 (by omega)) ?_;by_cases h1:(df lp).length≠n
 ·refine Split.yes (bne_iff_ne.2 (by omega)) (mN iz Gg 9 ?_ (by omega))
  unfold dp;rw [if_neg hm,if_pos (.inr (by omega))]
 replace h1:(df lp).length=n:=by omega
 refine Split.no (by rw [h1];simp) ?_;have TX:=jS.heap hg7 (fun h=>h);have KP:=Row.aC IT jS (fun _ _ h=>h);refine zt (G.same Gg) TX (bO.hs KP) (by omega) fun nQ x hx sA=>⟨x,rfl,?_⟩;have Gf:=Gg.trans sA (fun _ _ h=>h);cases x with
 |true=>
  refine Split.yes rfl (mN nQ Gf 6 ?_ (by omega));unfold dp;rw [if_neg hm,if_neg (by omega),if_pos (hx.1 rfl)]
 |false=>
  have fN: ∀p∈df lp,p∈ids D:=fun p hp=>Classical.byContradiction fun ZR=>by have:=hx.2 ⟨p,hp,ZR⟩;cases this
  have Un:dp D h lp=0:=by
   unfold dp;rw [if_neg hm,if_neg (by omega),if_neg (fun⟨p,hp,JH⟩=>JH (fN p hp))]
  have hD':lZ D h lp=D++ [⟨h,df lp⟩]:=by unfold lZ;rw [if_pos Un]
  rw [Un,hD']at hK;refine Split.no rfl ?_;have TP:=sA.heap (jS.heap hi7 (fun h=>h)) (fun h=>h);have OI:=sA.heap TX (fun h=>h);have vT:bO nQ w5.heap.size Fp (df lp).length VD (df lp):=Row.aC KP sA (fun _ _ h=>h);refine⟨h.1,⟨h.2.1,Cells.bC TP⟩,?_⟩;rw [HQ h nQ.heap.size];refine Is.mk rfl ?_;intro Ii;have Nf:Kept Nil nQ Ii:=(Kept.refl _ _).alloc _;have ZU:Ii.heap[nQ.heap.size]? =some (.cells (fF h ⟨nQ.heap.size,Fp,(df lp).length,VD,none,0,0,none,0,0,[]⟩) dK (0,0)):=aJ nQ _;clear_value Ii;have Rm:=Gf.trans Nf (fun _ _ h=>h);have Pd: ∀k,bg Fp=some k->w5.heap.size<=k/\k<nQ.heap.size:=fun k hk=>by
   obtain⟨e1,cur,hc⟩:=Row.bC vT hk;exact⟨e1,aQ hc⟩
  have hs5:=KW.size;have ahF:=Gf.size;have Fh: ∀k,(F k\/bg Fp=some k)->k<nQ.heap.size:=fun k hk=>by
   rcases hk with hk|hk
   ·have:=G.low k (.inr hk);omega
   ·exact(Pd k hk).2
  have Kl: ∀k,S k->k<w.heap.size:=fun k hk=>G.low k (.inl hk);have G23:GV Ii S (fun k=>F k\/bg Fp=some k) g D (gk D) bl c mb M:=(G.same Rm).Q9 (fun _ h=>.inl h) (fun k hs e=>by
   rcases e with e|e
   ·exact G.Fj k hs e
   ·have:=Kl k hs;have:=(Pd k e).1;omega) (fun k hk=>by have:=Fh k hk;have:=Nf.size;omega)
  have CT:iB D h ((df lp).take 0)=gk D:=by
   funext y
   unfold iB;rw [if_neg (by simp)]
  have L0:AL w Ii S (fun k=>F k\/bg Fp=some k) S g D h (df lp) w.heap.size w4.heap.size nQ.heap.size Fp VD 0 bl c mb M none 0 0 []:=
   ⟨by rw [CT];exact G23,fun _ h=>h,fun _ h=>.inl h,ZU,fun e=>by have:=Kl _ e;omega,Row.nil _ _ _ _,by simp [okW],by omega,(fun k hk=>by cases hk),fun j=>by simp [xu],Nf.heap OI (fun h=>h),Nf.heap TP (fun h=>h),
     fun e=>by have:=Kl _ e;omega,fun e=>by have:=Kl _ e;omega,(vT.hs).same Nf,Rm.mono fun _ _ h=>h.elim⟩
  refine bz.b6 (I:=fun s v=> ∃(i:Nat) (S2:Nat->Prop) (M2:List NM) (rA:Option Addr) (rn rc:Nat) (ws:List Nat),s=(i:Int)/\i<=(df lp).length/\AL w v S (fun k=>F k\/bg Fp=some k) S2 g D h (df lp) w.heap.size w4.heap.size nQ.heap.size Fp VD i bl c mb M2 rA rn rc ws)
   (μ:=fun s _=>(((df lp).length:Int)-s).toNat) (s:=0) ⟨0,S,M,none,0,0,[],rfl,Nat.zero_le _,L0⟩ ?_
  rintro s v ⟨i,S2,M2,rA,rn,rc,ws,rfl,hi,L⟩;have Ir: ∀a,Fp=some a->F a.block\/bg Fp=some a.block:=fun a ha=>.inr (by rw [ha];rfl);by_cases dP:i<(df lp).length
  ·refine ET L W (by omega) (iD _) fN Fh Ir (by omega) dP (by omega) fun S3 M3 rA3 rn3 rc3 ws3 v3 L3=>?_
   exact⟨(i:Int)+1,rfl,⟨i+1,S3,M3,rA3,rn3,rc3,ws3,rfl,dP,L3⟩,by simp only;omega⟩
  ·refine Split.no (decide_eq_false (by omega)) ?_
   rw [aS,bz.Ml];refine KG L W hD (iD _) fN hm Fh Ir (by omega) (by omega) fun v2 S4 F4 hI TE hS4 hF4=>hK v2 S4 F4 hI TE hS4 (fun k hk=>?_);rcases hF4 k hk with(e|e)|e
   ·exact .inl e
   ·exact .inr (by have:=(Pd k e).1;omega)
   ·exact .inr e
end
end Go.Proofs.YtnboahlopghcjaaGreatDoor
namespace Go.Proofs.YtnboahlopghcjaaGreatDoor
open Go.Proofs.Tryz
open Go Go.bV Go.RowKit
def oB(nb:Nat):NM:=⟨nb,none,0,0,none,0,0,none,0,0,[]⟩
structure NP(w v:World)(r:HT)(A B E:Option Nat)(l:List HT):Prop where
 kp:Kept Nil w v
 node: ∀b,A=some b->w.heap.size<=b/\v.heap[b]? =some (.cells (fF r (oB b)) dK (0,0))
 list: ∀b,B=some b->w.heap.size<=b/\ ∃nb,A=some nb/\v.heap[b]? =some (.cells #[.pointer (some ⟨nb,0,none⟩)] eU (0,0))
 map: ∀b,E=some b->w.heap.size<=b/\IsMap v b l
section
variable{w v:World}{r:HT}{A B E:Option Nat}{l:List HT}{K:Value->World->Prop}
theorem NP.grow(h:NP w v r A B E l)(o:Obj):NP w (v.alloc o) r A B E l:=
 ⟨h.kp.alloc o,fun b e=>⟨(h.node b e).1,iX (h.node b e).2 o⟩,fun b e=>⟨(h.list b e).1,let ⟨nb,h1,h2⟩:=(h.list b e).2;⟨nb,h1,iX h2 o⟩⟩,fun b e=>⟨(h.map b e).1,(h.map b e).2.aC ((Kept.refl Nil v).alloc o) (fun h=>h)⟩⟩
theorem NP.addNode(h:NP w v r none none E l):NP w (v.alloc (.cells (fF r (oB v.heap.size)) dK)) r (some v.heap.size) none E l:=
 have g:=h.grow (.cells (fF r (oB v.heap.size)) dK)
 ⟨g.kp,fun b e=>by cases e;exact⟨h.kp.size,aJ v _⟩,fun b e=>(by cases e),g.map⟩
theorem NP.pD{nb:Nat}(h:NP w v r (some nb) none E l):NP w (v.alloc (.cells #[.pointer (some ⟨nb,0,none⟩)] eU)) r (some nb) (some v.heap.size) E l:=
 have g:=h.grow (.cells #[.pointer (some ⟨nb,0,none⟩)] eU)
 ⟨g.kp,g.node,fun b e=>by cases e;exact⟨h.kp.size,nb,rfl,aJ v _⟩,g.map⟩
theorem NP.BR(h:NP w v r A B none []):NP w (v.alloc (.map #[] 0)) r A B (some v.heap.size) []:=
 have g:=h.grow (.map #[] 0)
 ⟨g.kp,g.node,g.list,fun b e=>by cases e;exact⟨h.kp.size,⟨#[],0,aJ v _,trivial⟩⟩⟩
theorem NP.put{mb:Nat}(h:NP w v r A B (some mb) []): ∃v',(Instr.mapUpdate ck (.map (some mb)) (.agg r.1) (.int .i64 0)).run prog v=.ok () v'/\NP w v' r A B (some mb) [r]:=by
 obtain⟨h1,h2⟩:=h.map mb rfl;obtain⟨v',hr,hm,hk⟩:=h2.put (h:=r) (by simp);have IM: ∀ {k:Nat} {cs:Array Value} {t:TypeId},v.heap[k]? =some (.cells cs t (0,0))-> ¬(k=mb):=fun hk e=>by
  obtain⟨es,clock,JO,_⟩:=h2.ex;rw [e,JO]at hk;cases hk
 refine⟨v',hr,h.kp.trans hk (fun k hk e=>by omega),fun b e=>⟨(h.node b e).1,hk.heap (h.node b e).2 (IM (h.node b e).2)⟩,fun b e=>⟨(h.list b e).1,?_⟩,fun b e=>by cases e;exact⟨h1,hm⟩⟩;obtain⟨nb,e1,e2⟩:=(h.list b e).2;exact⟨nb,e1,hk.heap e2 (IM e2)⟩
theorem ry(r:HT){a b:HT}: ¬nn [(⟨r,[]⟩:DN)] a b:=fun⟨nd,h1,_,h2⟩=>by
 simp at h1;subst h1;simp at h2
theorem ym(r:HT){a b:HT}: ¬eZ [(⟨r,[]⟩:DN)] a b:=fun h=>by
 cases h with
 |one h=>exact ry r h
 |more _ h=>exact ry r h
theorem NP.fin{w0:World}{nb lb mb:Nat}(h:NP w v r (some nb) (some lb) (some mb) [r])(hw:w0.heap.size<=w.heap.size):
 BV (v.alloc (.cells #[.slice (some ⟨lb,0,none⟩) 1 1,.map (some mb)] gJ)) (fun k=>w0.heap.size<=k/\k<(v.alloc (.cells #[.slice (some ⟨lb,0,none⟩) 1 1,.map (some mb)] gJ)).heap.size) (fun _=>False) v.heap.size [⟨r,[]⟩]:=by
 have g:=h.grow (.cells #[.slice (some ⟨lb,0,none⟩) 1 1,.map (some mb)] gJ);have iM:=aJ v (.cells #[.slice (some ⟨lb,0,none⟩) 1 1,.map (some mb)] gJ);generalize v.alloc (.cells #[.slice (some ⟨lb,0,none⟩) 1 1,.map (some mb)] gJ)=u at g iM;have hs:=h.kp.size;obtain⟨n1,n2⟩:=g.node nb rfl;obtain⟨l1,nb',e,l2⟩:=g.list lb rfl;cases e;obtain⟨m1,m2⟩:=g.map mb rfl;have oS:gk [⟨r,[]⟩] r= []:=by
  cases hc:gk [⟨r,[]⟩] r with
  |nil=>rfl
  |cons b t=>exact absurd (ji.1 (show b∈gk [⟨r,[]⟩] r by rw [hc];simp)).2 (ry r)
 refine⟨lb,1,mb,[oB nb],iM,Row.made (n:=1) (cur:= #[.pointer (some ⟨nb,0,none⟩)]) l2 (Nat.zero_le _) rfl (by decide),m2,rfl,fun i nd m hi hm=>?_,fun i j m m' h1 h2 fG k hk=>?_,⟨by omega,aQ iM⟩,⟨by omega,aQ l2⟩,⟨by omega,m2.lt⟩,fun _ _ h=>h,fun k hk=>hk.elim (fun h=>h.2) (fun h=>h.elim)⟩
 ·cases i with
  |zero=>
   simp at hi hm;subst hi;subst hm;refine⟨n2,⟨Nat.le_trans hw n1,aQ n2⟩,HS.nil _ _,(fun a ha=>by cases ha),?_,(fun k hk=>by cases hk),⟨rfl,fun i x hx=>by simp [oB]at hx⟩,(fun a ha=>by cases ha),by simp [okW,oB],fun j=>?_,by simp [oB]⟩
   ·show bO u 0 none 0 0 (gk [⟨r,[]⟩] r)
    rw [oS];exact bO.nil _ _
   ·show bit [] j=true↔_
    rw [xu];exact⟨(fun h=>by cases h),fun⟨nj,_,h⟩=>absurd h (ym r)⟩
  |succ i=>simp at hi
 ·have hm:m=oB nb:=by
   have:=List.mem_of_getElem? h1;simpa using this
  subst hm;cases hk
theorem fK(r:HT)(hK: ∀v gb,BV v (fun k=>w.heap.size<=k/\k<v.heap.size) (fun _=>False) gb [⟨r,[]⟩]->Kept Nil w v->K (.pointer (some ⟨gb,0,none⟩)) v):
 bn prog mf.id #[.agg r.1] w K:=by
 refine mf.of ?_;unfold mf.W;intro w2 w3;have k2:Kept Nil w w2:=(Kept.refl _ _).alloc _;have la:w2.heap[w.heap.size]? =some (.cells r.1 ag (0,0)):=aJ w _;have k3:Kept Nil w w3:=k2.drew;have oo:w3.heap[w.heap.size]? =some (.cells r.1 ag (0,0)):=la;clear_value w3;have N3:NP w3 w3 r none none none []:=⟨Kept.refl _ _,(fun b e=>by cases e),(fun b e=>by cases e),(fun b e=>by cases e)⟩;have mE: ∀ {v:World},Kept Nil w3 v-> ∃cs:Array Value,(.agg r.1:Value)=.agg cs/\cs.size=32/\Cells v (⟨w.heap.size,0,none⟩:Addr) cs:=fun k=>⟨r.1,rfl,r.2.1,Cells.bC (k.heap oo (fun h=>h))⟩;have uz: ∀ {v:World} {nb lb mb:Nat},NP w3 v r (some nb) (some lb) (some mb) [r]->K (.pointer (some ⟨v.heap.size,0,none⟩)) (v.alloc (.cells #[.slice (some ⟨lb,0,none⟩) 1 1,.map (some mb)] gJ)):=fun h=>hK _ _ (h.fin k3.size) ((k3.trans h.kp (fun _ _ h=>h)).alloc _);refine⟨r.1,⟨r.2.1,Cells.bC oo⟩,?_⟩;have Te: ∀b,prog.built dK [(0,.agg r.1)]=some (fF r (oB b)):=fun b=>EL r b;rw [Te 0];refine Is.mk rfl ?_;refine⟨r.1,⟨r.2.1,Cells.bC oo⟩,?_⟩;refine⟨?_,?_⟩
 ·have N7:NP w3 (w3.alloc (.cells (fF r (oB w3.heap.size)) dK)) r (some w3.heap.size) none none []:=N3.addNode
  refine⟨mE N7.kp,?_,?_⟩
  ·have N8:=N7.pD
   have N9:=N8.BR;obtain⟨v,hr,Qw⟩:=N9.put;exact⟨mE N8.kp,mE N9.kp,v,hr,uz Qw⟩
  ·have PA:=N7.BR
   refine⟨mE PA.kp,?_,?_⟩
   ·have KI:=PA.pD
    obtain⟨v,hr,Pz⟩:=KI.put;exact⟨mE KI.kp,v,hr,uz Pz⟩
   ·obtain⟨v,hr,Qv⟩:=PA.put
    exact⟨v,hr,uz Qv.pD⟩
 ·have IE:=N3.BR
  refine⟨mE IE.kp,mE IE.kp,?_,?_⟩
  ·have Mh:NP w3 ((w3.alloc (.map #[] 0)).alloc (.cells (fF r (oB (w3.alloc (.map #[] 0)).heap.size)) dK)) r (some (w3.alloc (.map #[] 0)).heap.size) none (some w3.heap.size) []:=IE.addNode
   refine⟨mE Mh.kp,?_,?_⟩
   ·have Mg:=Mh.pD
    obtain⟨v,hr,Qt⟩:=Mg.put;exact⟨mE Mg.kp,v,hr,uz Qt⟩
   ·obtain⟨v,hr,VQ⟩:=Mh.put
    exact⟨v,hr,uz VQ.pD⟩
  ·obtain⟨v,hr,Py⟩:=IE.put
   exact⟨v,hr,mE Py.kp,uz Py.addNode.pD⟩
end
end Go.Proofs.YtnboahlopghcjaaGreatDoor
namespace Go.Proofs.YtnboahlopghcjaaGreatDoor
open Go.Proofs.Tryz
open Go Go.bV Go.RowKit
section
variable{w w':World}{S S' F:Nat->Prop}{g bl c mb:Nat}{D:DG}{C:HT->List HT}{M:List NM}{K:Value->World->Prop}
end
end Go.Proofs.YtnboahlopghcjaaGreatDoor
namespace Go.Proofs.YtnboahlopghcjaaGreatDoor
open Go.Proofs.Tryz
open Go Go.bV Go.RowKit
section
variable{w w':World}{S S' F:Nat->Prop}{g bl c mb:Nat}{D:DG}{C:HT->List HT}{M:List NM}{K:Value->World->Prop}
end
end Go.Proofs.YtnboahlopghcjaaGreatDoor
namespace Go.Proofs.YtnboahlopghcjaaGreatDoor
open Go.Proofs.Tryz
open Go Go.bV Go.RowKit
theorem dT{w:World}{b:Nat}{z cs:Array Value}{t:TypeId}(h:w.heap[b]? =some (.cells z t (0,0)))(hz:z.size=cs.size):
 (∀j,j<cs.size->Wr w ((⟨b,0,none⟩:Addr).add j))/\(setCells w ⟨b,0,none⟩ cs.toList 0).heap[b]? =some (.cells cs t (0,0))/\Kept (· =b) w (setCells w ⟨b,0,none⟩ cs.toList 0):=by
 refine⟨fun j hj=>?_,?_,fW _ _ _ _⟩
 ·rw [ba,Nat.zero_add]
  exact dM h (by omega)
 ·have h1:=jI cs.toList z w t 0 0 h (by simp;omega)
  rw [h1,tI (by simp [hz])]
def hx(i:Nat)(hi:i<256):HT:=⟨#[.int .u8 (i:Int),.int .u8 0,.int .u8 0,.int .u8 0,.int .u8 0,.int .u8 0,.int .u8 0,.int .u8 0,.int .u8 0,.int .u8 0,.int .u8 0,.int .u8 0,.int .u8 0,.int .u8 0,.int .u8 0,.int .u8 0,.int .u8 0,.int .u8 0,.int .u8 0,.int .u8 0,.int .u8 0,.int .u8 0,.int .u8 0,.int .u8 0,.int .u8 0,.int .u8 0,.int .u8 0,.int .u8 0,.int .u8 0,.int .u8 0,.int .u8 0,.int .u8 0],rfl,fun v hv=>by
 simp only [List.mem_cons,List.not_mem_nil,or_false]at hv;rcases hv with rfl|hv
 ·exact⟨i,rfl,by omega,by omega⟩
 ·exact⟨0,by simpa using hv,by omega,by omega⟩⟩
theorem rN{i j:Nat}{hi:i<256}{hj:j<256}(h:i≠j):hx i hi≠hx j hj:=fun e=>by
 have:=congrArg (fun a:HT=>a.1[0]?) e;simp [hx]at this;omega
section
variable{w w':World}{K:Value->World->Prop}
end
end Go.Proofs.YtnboahlopghcjaaGreatDoor
namespace Go.Proofs.YtnboahlopghcjaaGreatDoor
open Go.Proofs.Tryz
open Go Go.bV Go.RowKit
theorem HS.lay{w:World}{b:Nat}{l:List HT}{t:TypeId}(hb:w.heap[b]? =some (.cells (dd l).toArray t (0,0))):HS w (some ⟨b,0,Option.none⟩) l.length l:=
 ⟨rfl,fun i x hi=>⟨_,rfl,aQ hb,fun j v hj=>by
   rw [ba,ba,Nat.zero_add,ax hb];simpa using jZ hi hj⟩⟩
section
variable{r a b c:HT}(Eo:r≠a)(yZ:r≠b)(Lt:r≠c)(lL:a≠b)(L6:a≠c)(Hp:b≠c)
abbrev kD(r a b c:HT):DG:= [⟨r,[]⟩,⟨a,[r]⟩,⟨b,[r]⟩,⟨c,df [a,b]⟩]
include Eo in
theorem k1:dp [⟨r,[]⟩] a [r]=0/\lZ [⟨r,[]⟩] a [r]= [⟨r,[]⟩,⟨a,[r]⟩]:=by
 have h:dp [⟨r,[]⟩] a [r]=0:=by
  unfold dp;rw [if_neg (by simp [ids];exact fun e=>Eo e.symm),tl,if_neg (by simp),if_neg (by simp [ids])]
 exact⟨h,by unfold lZ;rw [if_pos h,tl];rfl⟩
include yZ lL in
theorem k2:dp [⟨r,[]⟩,⟨a,[r]⟩] b [r]=0/\lZ [⟨r,[]⟩,⟨a,[r]⟩] b [r]= [⟨r,[]⟩,⟨a,[r]⟩,⟨b,[r]⟩]:=by
 have h:dp [⟨r,[]⟩,⟨a,[r]⟩] b [r]=0:=by
  unfold dp;rw [if_neg (by simp [ids];exact⟨fun e=>yZ e.symm,fun e=>lL e.symm⟩),tl,if_neg (by simp),if_neg (by simp [ids])]
 exact⟨h,by unfold lZ;rw [if_pos h,tl];rfl⟩
include Lt lL L6 Hp in
theorem k3:dp [⟨r,[]⟩,⟨a,[r]⟩,⟨b,[r]⟩] c [a,b]=0/\lZ [⟨r,[]⟩,⟨a,[r]⟩,⟨b,[r]⟩] c [a,b]=kD r a b c:=by
 have hl:(df [a,b]).length=2:=pI (by simp [lL]);have h:dp [⟨r,[]⟩,⟨a,[r]⟩,⟨b,[r]⟩] c [a,b]=0:=by
  unfold dp;rw [if_neg (by simp [ids];exact⟨fun e=>Lt e.symm,fun e=>L6 e.symm,fun e=>Hp e.symm⟩),hl,if_neg (by simp),if_neg];rintro⟨p,hp,hn⟩;rw [dm]at hp;simp at hp;simp [ids]at hn;rcases hp with rfl|rfl
  ·exact hn.2.1 rfl
  ·exact hn.2.2 rfl
 exact⟨h,by unfold lZ;rw [if_pos h];rfl⟩
end
section
variable{w w':World}{K:Value->World->Prop}
end
end Go.Proofs.YtnboahlopghcjaaGreatDoor
namespace Go.Proofs.YtnboahlopghcjaaGreatDoor
open Go.Proofs.Tryz
open Go Go.bV Go.RowKit
structure akj(w:World)(S F:Nat->Prop)(g:Nat)(FR:Nat->Prop)(r:Nat)(D:DG):Prop where
 G:BV w S F g D
 R:ti w FR r D
 rS: ¬S r
 rF: ¬F r
 fS: ∀k,FR k-> ¬S k
 low: ∀k,FR k->k<w.heap.size
section
variable{w v w':World}{S F S2 F2 FR:Nat->Prop}{g r:Nat}{D D':DG}{K:Value->World->Prop}
theorem HP(h:HT):prog.built bL [(0,.agg h.1)]=some (h.1.push (.slice none 0 0)):=by
 have hs:=h.2.1;rw [mS C9,iA (off:=0) (size:=32) rfl (by simpa [Value.cells]using hs) (by simp)];simp only [Instr.fill,Option.some.injEq];apply Array.ext';unfold gz;simp [Value.cells,hs]
end
end Go.Proofs.YtnboahlopghcjaaGreatDoor
