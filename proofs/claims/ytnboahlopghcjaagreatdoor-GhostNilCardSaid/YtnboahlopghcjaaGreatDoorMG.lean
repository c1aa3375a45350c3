import Derived.Test.YtnboahlopghcjaaGreatDoorProg
import Derived.Shelf.SlSortCmp.NoneTotal
import Derived.Shelf.SlMaps.Clone
import Derived.Shelf.Spec.TrailingZeros
import Derived.Shelf.Strconv.Itoa0
import Derived.Shelf.Bits.Mul64
import Derived.Test.YtnboahlopghcjaaGreatDoorMA
import Derived.Test.YtnboahlopghcjaaGreatDoorMB
import Derived.Lib.BytesEntry
import Derived.Test.YtnboahlopghcjaaGreatDoorMC
import Derived.LaidEql
set_option linter.unusedVariables false
namespace Go.Proofs
open Go.Shelf
def Tryz.mh:Go.Shelf.Ren:=⟨fun|6=>72|15=>106|14=>105|28=>130|29=>131|20=>122|21=>123|22=>124|23=>125|24=>126|25=>127|26=>128|27=>129|46=>135|47=>136|48=>137|49=>138|50=>139|57=>141|n=>n,fun|22=>35|24=>23|25=>97|3=>3|39=>161|0=>0|53=>181|55=>49|4=>4|46=>175|45=>174|50=>127|5=>5|9=>9|66=>188|70=>192|76=>196|77=>197|n=>n,fun|n=>n⟩
theorem Tryz.sy:Go.Proofs.SlLaysF0.n6 prog Tryz.mh:= {
 mixed:=by kernel_rfl
 f6:=⟨f72.name,by decide,func72.trans (congrArg some (by kernel_rfl))⟩
 f14:=⟨f105.name,by decide,func105.trans (congrArg some (by kernel_rfl))⟩
 f15:=func106.trans (congrArg some (by kernel_rfl))
 f20:=⟨f122.name,by decide,func122.trans (congrArg some (by kernel_rfl))⟩
 f21:=⟨f123.name,by decide,func123.trans (congrArg some (by kernel_rfl))⟩
 f22:=⟨f124.name,by decide,func124.trans (congrArg some (by kernel_rfl))⟩
 f23:=⟨f125.name,by decide,func125.trans (congrArg some (by kernel_rfl))⟩
 f24:=⟨f126.name,by decide,func126.trans (congrArg some (by kernel_rfl))⟩
 f25:=⟨f127.name,by decide,func127.trans (congrArg some (by kernel_rfl))⟩
 f26:=⟨f128.name,by decide,func128.trans (congrArg some (by kernel_rfl))⟩
 f27:=⟨Tryz.f129.name,by decide,func129.trans (congrArg some (by kernel_rfl))⟩
 f28:=func130.trans (congrArg some (by kernel_rfl))
 f29:=func131.trans (congrArg some (by kernel_rfl))
 f46:=⟨f135.name,by decide,func135.trans (congrArg some (by kernel_rfl))⟩
 f47:=func136.trans (congrArg some (by kernel_rfl))
 f48:=func137.trans (congrArg some (by kernel_rfl))
 f49:=⟨f138.name,by decide,func138.trans (congrArg some (by kernel_rfl))⟩
 f50:=⟨f139.name,by decide,func139.trans (congrArg some (by kernel_rfl))⟩
 f57:=⟨f141.name,by decide,func141.trans (congrArg some (by kernel_rfl))⟩
 t0:=underlying0
 a0:=isAgg0
 z0:=sizeOf0
 v0:=zeroValue0
 t3:=underlying3
 a3:=isAgg3
 z3:=sizeOf3
 v3:=zeroValue3
 t4:=underlying4
 a4:=isAgg4
 z4:=sizeOf4
 v4:=zeroValue4
 t5:=underlying5
 a5:=isAgg5
 z5:=sizeOf5
 v5:=zeroValue5
 t9:=underlying9
 a9:=isAgg9
 z9:=sizeOf9
 v9:=zeroValue9
 t22:=underlying35
 a22:=isAgg35
 z22:=sizeOf35
 v22:=zeroValue35
 t25:=underlying97
 a25:=isAgg97
 z25:=sizeOf97
 v25:=zeroValue97
 t39:=underlying161
 a39:=isAgg161
 z39:=sizeOf161
 v39:=zeroValue161
 t45:=underlying174
 a45:=isAgg174
 z45:=sizeOf174
 v45:=zeroValue174
 t46:=underlying175
 a46:=isAgg175
 z46:=sizeOf175
 v46:=zeroValue175
 t50:=underlying127
 a50:=isAgg127
 z50:=sizeOf127
 v50:=zeroValue127
 t53:=underlying181
 a53:=isAgg181
 z53:=sizeOf181
 v53:=zeroValue181
 t55:=underlying49
 a55:=isAgg49
 z55:=sizeOf49
 v55:=zeroValue49
 t66:=underlying188
 a66:=isAgg188
 z66:=sizeOf188
 v66:=zeroValue188
 t70:=underlying192
 a70:=isAgg192
 z70:=sizeOf192
 v70:=zeroValue192
 t76:=underlying196
 a76:=isAgg196
 z76:=sizeOf196
 v76:=zeroValue196
 t77:=underlying197
 a77:=isAgg197
 z77:=sizeOf197
 v77:=zeroValue197}
def Tryz.gV:Go.Shelf.Ren:=⟨fun|29=>121|n=>n,fun|22=>49|3=>3|4=>4|25=>161|54=>187|0=>0|5=>5|n=>n,fun|1=>1|n=>n⟩
theorem Tryz.XB:Go.Proofs.Lays7.n29 prog Tryz.gV:= {
 mixed:=by kernel_rfl
 f29:=func121.trans (congrArg some (by kernel_rfl))
 t0:=underlying0
 a0:=isAgg0
 z0:=sizeOf0
 v0:=zeroValue0
 i0:=by kernel_rfl
 t3:=underlying3
 a3:=isAgg3
 z3:=sizeOf3
 v3:=zeroValue3
 i3:=by kernel_rfl
 t4:=underlying4
 a4:=isAgg4
 z4:=sizeOf4
 v4:=zeroValue4
 i4:=by kernel_rfl
 t5:=underlying5
 a5:=isAgg5
 z5:=sizeOf5
 v5:=zeroValue5
 i5:=by kernel_rfl
 t22:=underlying49
 a22:=isAgg49
 z22:=sizeOf49
 v22:=zeroValue49
 i22:=by kernel_rfl
 t25:=underlying161
 a25:=isAgg161
 z25:=sizeOf161
 v25:=zeroValue161
 i25:=by kernel_rfl
 t54:=underlying187
 a54:=isAgg187
 z54:=sizeOf187
 g1:=by kernel_rfl}
end Go.Proofs
namespace Go.Proofs
open Go.Shelf
def Tryz.uX:Go.Shelf.Ren:=⟨fun|129=>131|n=>n,fun|53=>49|3=>3|4=>4|46=>161|5=>5|9=>9|n=>n,fun|n=>n⟩
theorem Tryz.DV:Go.Proofs.Lays.n129 prog Tryz.uX:= {
 mixed:=by kernel_rfl
 f129:=func131.trans (congrArg some (by kernel_rfl))
 t3:=underlying3
 a3:=isAgg3
 z3:=sizeOf3
 v3:=zeroValue3
 t4:=underlying4
 a4:=isAgg4
 z4:=sizeOf4
 v4:=zeroValue4
 t5:=underlying5
 a5:=isAgg5
 z5:=sizeOf5
 v5:=zeroValue5
 t9:=underlying9
 a9:=isAgg9
 z9:=sizeOf9
 v9:=zeroValue9
 t46:=underlying161
 a46:=isAgg161
 z46:=sizeOf161
 v46:=zeroValue161
 t53:=underlying49
 a53:=isAgg49
 z53:=sizeOf49
 v53:=zeroValue49}
def Tryz.uW:Go.Shelf.Ren:=⟨fun|264=>133|n=>n,fun|53=>49|46=>161|n=>n,fun|n=>n⟩
theorem Tryz.DU:Go.Proofs.Lays.n264 prog Tryz.uW:= {
 mixed:=by kernel_rfl
 f264:=func133.trans (congrArg some (by kernel_rfl))
 t46:=underlying161
 a46:=isAgg161
 z46:=sizeOf161
 v46:=zeroValue161
 t53:=underlying49
 a53:=isAgg49
 z53:=sizeOf49
 v53:=zeroValue49}
end Go.Proofs
namespace Go.bp
open Go.RowKit
theorem ie.mono{P:Program}{l:Nat}{args:Array Value}{w:World}{R R':Bool->World->Prop}(h:ie P l args w R)(hr: ∀b w',R b w'->R' b w'):ie P l args w R':=by
 obtain⟨g,tmps,assign,body,h1,h2⟩:=h;exact⟨g,tmps,assign,body,h1,fun r m=>RoundIn.mono (h2 r m) fun e w' ⟨b,he,hb⟩=>⟨b,he,hr _ _ hb⟩⟩
def fh(xs:List Value)(k:Nat)(vs:List Value):List Value:=xs.take k++vs++xs.drop (k+vs.length)
theorem mX(xs:List Value)(k:Nat):fh xs k []=xs:=by simp [fh]
theorem lv{xs:List Value}{k:Nat}(hk:k<xs.length)(v:Value)(vs:List Value):fh xs k (v::vs)=fh (xs.set k v) (k+1) vs:=by
 unfold fh;rw [List.take_add_one,List.take_set_of_le (Nat.le_refl k),List.getElem?_set_self hk,List.drop_set];rw [if_pos (by omega),List.length_cons,show k+(vs.length+1)=k+1+vs.length by omega];simp
theorem kc{xs:List Value}{k:Nat}{vs:List Value}(h:k+vs.length<=xs.length):(fh xs k vs).length=xs.length:=by
 unfold fh;simp;omega
theorem qf{xs vs:List Value}(h:vs.length=xs.length):fh xs 0 vs=vs:=by
 unfold fh;simp [h]
section
variable{w:World}{B:Nat}{e:TypeId}{size n c b:Nat}
theorem nJ: ∀(vs:List Value) (xs:List Value) (w:World) (o i:Nat),Row w B e size (some ⟨b,0,none⟩) n c xs->o+i+vs.length<=xs.length->
 Row (setCells w ⟨b,o,none⟩ vs i) B e size (some ⟨b,0,none⟩) n c (fh xs (o+i) vs)
 | [],xs,w,o,i,h,_=>by rw [mX];exact h
 |v::vs,xs,w,o,i,h,hl=>by
  rw [List.length_cons]at hl;rw [lv (by omega)];simp only [setCells];rw [a7];have h1:=Row.set h (j:=o+i) (by omega) v;have:=nJ vs (xs.set (o+i) v) _ o (i+1) h1 (by rw [List.length_set];omega)
  rwa [show o+(i+1)=o+i+1 by omega]at this
theorem eU: ∀(vs:List Value) (w:World) (o i:Nat),Kept (· =b) w (setCells w ⟨b,o,none⟩ vs i)
 | [],w,o,i=>Kept.refl _ _
 |v::vs,w,o,i=>by
  simp only [setCells];rw [a7];exact(Kept.setCell (S:=fun k=>k=b) (Kept.refl _ w) (p:=⟨b,o+i,none⟩) (fun _=>rfl) v).trans (eU vs _ o (i+1)) (fun _ _ h=>h)
theorem gZ: ∀(vs:List Value) (cur:Array Value) (w:World) (t:TypeId) (o i:Nat),w.heap[b]? =some (.cells cur t (0,0))->o+i+vs.length<=cur.size->
 (setCells w ⟨b,o,none⟩ vs i).heap[b]? =some (.cells (fh cur.toList (o+i) vs).toArray t (0,0))
 | [],cur,w,t,o,i,h,_=>by rw [mX];simpa [setCells]using h
 |v::vs,cur,w,t,o,i,h,hl=>by
  rw [List.length_cons]at hl;rw [lv (by simp;omega)];simp only [setCells];rw [a7];have h1:=cQ h (o+i) v;have:=gZ vs _ _ t o (i+1) h1 (by simp;omega);rw [show o+(i+1)=o+i+1 by omega]at this;rw [this];simp
theorem dU{z cs:Array Value}{t:TypeId}(hz:z.size=cs.size):
 (∀j,j<cs.size->Wr (w.alloc (.cells z t)) ((⟨w.heap.size,0,none⟩:Addr).add j))/\
 (setCells (w.alloc (.cells z t)) ⟨w.heap.size,0,none⟩ cs.toList 0).heap[w.heap.size]? =some (.cells cs t (0,0))/\
 Kept Nil w (setCells (w.alloc (.cells z t)) ⟨w.heap.size,0,none⟩ cs.toList 0):=by
 refine⟨fun j hj=>?_,?_,?_⟩
 ·rw [a7,Nat.zero_add]
  exact dE (aN w _) (by omega)
 ·have h:=gZ cs.toList z (w.alloc (.cells z t)) t 0 0 (aN w _) (by simp;omega)
  rw [h,qf (by simp [hz])]
 ·exact((Kept.refl Nil w).alloc _).trans (eU cs.toList _ 0 0) (fun k hk e=>absurd hk (by omega))
end
end Go.bp
namespace Go.bp
theorem yo: ∀(vs:List Value) (off k:Nat) (cells:Array Value),off+k+vs.length<=cells.size->
 ((vs.zipIdx k).foldl (fun(cs:Array Value) (p:Value×Nat)=>cs.setIfInBounds (off+p.2) p.1) cells)=(fh cells.toList (off+k) vs).toArray
 | [],off,k,cells,_=>by rw [mX];simp
 |v::vs,off,k,cells,h=>by
  rw [List.length_cons]at h;rw [lv (by simp;omega),List.zipIdx_cons,List.foldl_cons];have:=yo vs off (k+1) (cells.setIfInBounds (off+k) v) (by simp;omega);rw [this,Array.toList_setIfInBounds];rfl
theorem iA{place:Nat->Option (Nat×Nat)}{cells:Array Value}{i off size:Nat}{v:Value}{rest:List (Nat×Value)}(hp:place i=some (off,size))(hs:v.cells.size=size)(hle:off+size<=cells.size):
 Instr.fill place cells ((i,v)::rest)=Instr.fill place (fh cells.toList off v.cells.toList).toArray rest:=by
 rw [Instr.fill,hp];simp only;rw [if_neg (by simp;omega)]
 congr 1
 have h:=yo v.cells.toList off 0 cells (by simp;omega);rw [Nat.add_zero]at h;rw [<-h,<-Array.foldl_toList,Array.toList_zipIdx]
def On(P:Program)(t:TypeId):Option (List (Nat×Nat)×List Value):=
 match P.info? t,P.underlying t with
 |some it,some (.struct fields)=>
  match it.zero,fields.toList.mapM (fun f=>(P.info? f.type).map fun i=>(f.offset,i.size))with
  |some z,some places=>some (places,z.cells.toList)
  |_,_=>none
 |_,_=>none
theorem ot{P:Program}{t:TypeId}{pl:List (Nat×Nat)}{z:List Value}(h:On P t=some (pl,z))(parts:List (Nat×Value)):
 P.built t parts=Instr.fill (pl.toArray[·]?) z.toArray parts:=by
 unfold On at h;split at h
 ·rename_i it fields h1 h2
  split at h
  ·rename_i z' pl' h3 h4
   simp only [Option.some.injEq,Prod.mk.injEq]at h;obtain⟨rfl,rfl⟩:=h;unfold Program.built;rw [h1,h2];simp only [h3,h4]
  ·cases h
 ·cases h
def nn:List Nat->Array Value
 | []=> #[]
 |D::l=> #[.pointer (some ⟨D,0,none⟩)]++nn l
theorem jN: ∀l,marksOf (.agg (nn l))=l
 | []=>rfl
 |D::l=>by
  have ih:=jN l;simp only [nn,marksOf]at*;simp [ih]
theorem jl: ∀(l:List Nat) (w:World),l.Nodup->(∀D∈l,w.heap[D]? =some (.deferred (some [])))->iH l w
 | [],_,_,_=>trivial
 |D::l,w,hn,h=>by
  rw [List.nodup_cons]at hn;refine⟨h D (by simp),jl l _ hn.2 fun E hE=>?_⟩;have fc:D≠E:=fun e=>hn.1 (by rw [e];exact hE);exact(World.putObj_heap_other fc.symm).trans (h E (by simp [hE]))
theorem gW: ∀(l:List Nat) (w:World),Kept (· ∈l) w (dS l w)
 | [],w=>Kept.refl _ w
 |D::l,w=>((Kept.putAt w D (.deferred none)).mono (S':=fun k=>k∈D::l) (fun k _ e=>by subst e;simp)).trans (gW l _) (fun k _ h=>by simp [h])
end Go.bp
namespace Go.Proofs.YtnboahlopghcjaaGreatDoor
open Go.Proofs.Tryz
open Go Go.bp Go.RowKit
def Ly(cs:Array Value):Prop:=cs.size=32/\ ∀v∈cs.toList,∃i:Int,v=.int .u8 i/\0<=i/\i<256
abbrev HT:= {cs:Array Value//Ly cs}
def key(h:HT):List Int:=h.1.toList.map jf
theorem Ly.ints{cs:Array Value}(h:Ly cs):eh .u8 32 cs:=⟨h.1,fun v hv=>let ⟨i,e,_⟩:=h.2 v hv;⟨i,e⟩⟩
theorem vf: ∀ {a b:List Value},(∀v∈a,∃i:Int,v=.int .u8 i)->(∀v∈b,∃i:Int,v=.int .u8 i)->a.map jf=b.map jf->a=b
 | [],[],_,_,_=>rfl
 | [],_::_,_,_,h=>by simp at h
 |_::_,[],_,_,h=>by simp at h
 |x::a,y::b,ha,hb,h=>by
  obtain⟨i,rfl⟩:=ha x (by simp);obtain⟨j,rfl⟩:=hb y (by simp);simp only [List.map_cons,List.cons.injEq,jf]at h;rw [h.1,vf (fun v hv=>ha v (by simp [hv])) (fun v hv=>hb v (by simp [hv])) h.2]
theorem key_inj{a b:HT}(h:key a=key b):a=b:=by
 apply Subtype.ext;apply Array.ext';exact vf (fun v hv=>a.2.ints.2 v hv) (fun v hv=>b.2.ints.2 v hv) h
instance:DecidableEq HT:=fun a b=>if h:key a=key b then isTrue (key_inj h)else isFalse fun e=>h (by rw [e])
theorem eJ(a b:HT):eK a.1 b.1=decide (a=b):=by
 unfold eK;by_cases e:a=b
 ·subst e;simp
 ·rw [decide_eq_false e]
  have: ¬(key a=key b):=fun h=>e (key_inj h);simpa [key]using this
theorem Ly.one{cs:Array Value}(h:Ly cs): ∀v∈cs.toList,v.oneCell'=true:=fun v hv=>by
 obtain⟨i,rfl,_⟩:=h.2 v hv;rfl
def ua:List Int->List Int->Bool
 | [],[]=>false
 | [],_::_=>true
 |_::_,[]=>false
 |x::a,y::b=>if x<y then true else if y<x then false else ua a b
def ck(a b:HT):Bool:=ua (key a) (key b)
theorem qF: ∀a,ua a a=false
 | []=>rfl
 |x::a=>by simp [ua,qF a]
theorem sG: ∀ {a b c},ua a b=true->ua b c=true->ua a c=true
 | [],[],_,h,_=>by simp [ua]at h
 | [],_::_,[],_,h=>by simp [ua]at h
 | [],_::_,_::_,_,_=>rfl
 |_::_,[],_,h,_=>by simp [ua]at h
 |_::_,_::_,[],_,h=>by simp [ua]at h
 |x::a,y::b,z::c,h,h'=>by
  simp only [ua]at*;by_cases h1:x<y
  ·by_cases h2:y<z
   ·rw [if_pos (by omega)]
   ·rw [if_neg h2]at h'
    by_cases h3:z<y
    ·rw [if_pos h3]at h';cases h'
    ·rw [if_pos (by omega)]
  ·rw [if_neg h1]at h
   by_cases h2:y<x
   ·rw [if_pos h2]at h;cases h
   ·rw [if_neg h2]at h
    by_cases h3:y<z
    ·rw [if_pos (by omega)]
    ·rw [if_neg h3]at h'
     by_cases h4:z<y
     ·rw [if_pos h4]at h';cases h'
     ·rw [if_neg h4]at h'
      rw [if_neg (by omega),if_neg (by omega)];exact sG h h'
theorem sH: ∀ {a b},a.length=b.length->ua a b=false->ua b a=false->a=b
 | [],[],_,_,_=>rfl
 | [],_::_,h,_,_=>by simp at h
 |_::_,[],h,_,_=>by simp at h
 |x::a,y::b,hl,h,h'=>by
  simp only [ua]at*;by_cases h1:x<y
  ·rw [if_pos h1]at h;cases h
  ·rw [if_neg h1]at h
   by_cases h2:y<x
   ·rw [if_pos h2]at h';cases h'
   ·rw [if_neg h2]at h h'
    rw [if_neg h1]at h';have:x=y:=by omega
    rw [this,sH (by simpa using hl) h h']
theorem mq(a:HT):(key a).length=32:=by have:=a.2.1;simpa [key]using this
theorem mu{a b:HT}(h:ck a b=false)(h':ck b a=false):a=b:=key_inj (sH (by rw [mq,mq]) h h')
theorem iw{a b c:HT}(h:ck a b=true)(h':ck b c=true):ck a c=true:=sG h h'
theorem fw(a:HT):ck a a=false:=qF _
theorem oT{a b:HT}(h:ck a b=true):ck b a=false:=by
 cases h':ck b a
 ·rfl
 ·have:=iw h h';rw [fw]at this;cases this
end Go.Proofs.YtnboahlopghcjaaGreatDoor
namespace Go.Proofs.YtnboahlopghcjaaGreatDoor
open Go.Proofs.Tryz
open Go Go.bp
def SS(l:List HT):Prop:=l.Pairwise fun a b=>ck a b=true
theorem SS.nodup{l:List HT}(h:SS l):l.Nodup:=List.Pairwise.imp (fun {a b} jZ e=>by subst e;rw [fw]at jZ;cases jZ) h
theorem SS.cons{x:HT}{l:List HT}:SS (x::l)↔(∀y∈l,ck x y=true)/\SS l:=List.pairwise_cons
theorem tY: ∀ {l m:List HT},SS l->SS m->(∀x,x∈l↔x∈m)->l=m
 | [],[],_,_,_=>rfl
 | [],y::m,_,_,h=>by have:=(h y).2 (by simp);simp at this
 |x::l,[],_,_,h=>by have:=(h x).1 (by simp);simp at this
 |x::l,y::m,hl,hm,h=>by
  rw [SS.cons]at hl hm;have mE:x=y:=by
   have h1:=(h x).1 (by simp);have h2:=(h y).2 (by simp);rcases List.mem_cons.1 h1 with h1|h1
   ·exact h1
   ·rcases List.mem_cons.1 h2 with h2|h2
    ·exact h2.symm
    ·have a:=hl.1 _ h2
     have b:=hm.1 _ h1;rw [oT a]at b;cases b
  subst mE
  congr 1
  refine tY hl.2 hm.2 fun z=>?_;have hz:=h z;constructor
  ·intro Vu
   rcases List.mem_cons.1 (hz.1 (by simp [Vu]))with e|e
   ·subst e;have:=hl.1 _ Vu;rw [fw]at this;cases this
   ·exact e
  ·intro Vt
   rcases List.mem_cons.1 (hz.2 (by simp [Vt]))with e|e
   ·subst e;have:=hm.1 _ Vt;rw [fw]at this;cases this
   ·exact e
def ins(x:HT):List HT->List HT
 | []=> [x]
 |y::l=>if ck x y then x::y::l else if x=y then y::l else y::ins x l
theorem tu(x z:HT): ∀l,z∈ins x l↔z=x\/z∈l
 | []=>by simp [ins]
 |y::l=>by
  unfold ins;split
  ·simp
  ·split
   ·rename_i e;subst e;simp
   ·simp only [List.mem_cons,tu x z l]
    constructor
    ·rintro(h|h|h)<;>simp [h]
    ·rintro(h|h|h)<;>simp [h]
theorem C4(x:HT): ∀ {l:List HT},SS l->SS (ins x l)
 | [],_=>by simp [ins,SS]
 |y::l,h=>by
  have h':=SS.cons.1 h;unfold ins;split
  ·rename_i mE
   refine SS.cons.2 ⟨fun z hz=>?_,h⟩;rcases List.mem_cons.1 hz with rfl|hz
   ·exact mE
   ·exact iw mE (h'.1 _ hz)
  ·split
   ·exact h
   ·rename_i h1 h2
    refine SS.cons.2 ⟨fun z hz=>?_,C4 x h'.2⟩;rcases(tu x z l).1 hz with rfl|hz
    ·cases JE:ck y z
     ·exact absurd (mu JE (by simpa using h1)).symm h2
     ·rfl
    ·exact h'.1 _ hz
def cX(l:List HT):List HT:=l.foldr ins []
theorem c9{z:HT}: ∀ {l:List HT},z∈cX l↔z∈l
 | []=>by simp [cX]
 |x::l=>by
  have:= @c9 z l;simp only [cX,List.foldr_cons,tu,List.mem_cons]at this⊢;rw [this]
theorem gv: ∀l:List HT,SS (cX l)
 | []=>List.Pairwise.nil
 |x::l=>C4 x (gv l)
theorem xK{l m:List HT}(h: ∀x,x∈l↔x∈m):cX l=cX m:=tY (gv l) (gv m) fun x=>by rw [c9,c9,h]
theorem wh{l m:List HT}(hs:SS l)(h: ∀x,x∈l↔x∈m):l=cX m:=tY hs (gv m) fun x=>by rw [c9,h]
theorem x7(x:HT): ∀l,(ins x l).length<=l.length+1
 | []=>by simp [ins]
 |y::l=>by
  have:=x7 x l;unfold ins;split
  ·simp
  ·split<;>simp<;>omega
theorem nI: ∀l:List HT,(cX l).length<=l.length
 | []=>by simp [cX]
 |x::l=>by
  have h1:=x7 x (cX l);have h2:=nI l;simp only [cX,List.foldr_cons,List.length_cons]at*;omega
theorem ns{x:HT}: ∀ {l:List HT},x∉l->(ins x l).length=l.length+1
 | [],_=>by simp [ins]
 |y::l,h=>by
  simp only [List.mem_cons,not_or]at h;have:=ns h.2;unfold ins;split
  ·simp
  ·rw [if_neg h.1];simp;omega
theorem mL: ∀ {l:List HT},l.Nodup->(cX l).length=l.length
 | [],_=>by simp [cX]
 |x::l,h=>by
  rw [List.nodup_cons]at h;have h2:=mL h.2;have:=ns (l:=cX l) (x:=x) (fun hm=>h.1 (c9.1 hm));simp only [cX,List.foldr_cons,List.length_cons]at*;omega
theorem pj{x:HT}: ∀ {l:List HT},SS l->x∈l->(ins x l).length=l.length
 | [],_,h=>by simp at h
 |y::l,hs,h=>by
  have h':=SS.cons.1 hs;unfold ins;split
  ·rename_i mE
   rcases List.mem_cons.1 h with rfl|h
   ·rw [fw]at mE;cases mE
   ·have:=h'.1 _ h;rw [oT mE]at this;cases this
  ·split
   ·rfl
   ·rename_i h1 h2
    rcases List.mem_cons.1 h with rfl|h
    ·exact absurd rfl h2
    ·simp [pj h'.2 h]
theorem nV: ∀ {l:List HT},(cX l).length=l.length->l.Nodup
 | [],_=>List.Pairwise.nil
 |x::l,h=>by
  have h2:=nI l;by_cases hm:x∈l
  ·have:=pj (gv l) (c9.2 hm)
   simp only [cX,List.foldr_cons,List.length_cons]at*;omega
  ·have h3:=ns (l:=cX l) (x:=x) (fun h=>hm (c9.1 h))
   simp only [cX,List.foldr_cons,List.length_cons]at*;exact List.nodup_cons.2 ⟨hm,nV (by simp only [cX];omega)⟩
theorem DB:cX []= []:=rfl
theorem pS(x:HT):cX [x]= [x]:=rfl
theorem AQ{l:List HT}(h:SS l):cX l=l:=(wh h fun _=>Iff.rfl).symm
theorem Jg{l:List HT}{x:HT}{k:Nat}(hs:SS l)(h1: ∀y∈l.take k,ck y x=true)(h2: ∀y∈l.drop k,ck x y=true):SS (l.take k++x::l.drop k):=by
 unfold SS at*;rw [<-List.take_append_drop k l,List.pairwise_append]at hs;rw [List.pairwise_append,List.pairwise_cons];refine⟨hs.1,⟨h2,hs.2.1⟩,fun y hy z hz=>?_⟩;rcases List.mem_cons.1 hz with rfl|hz
 ·exact h1 y hy
 ·exact hs.2.2 y hy z hz
theorem SS.get{l:List HT}(h:SS l){i j:Nat}(oe:i<j){x y:HT}(hx:l[i]? =some x)(hy:l[j]? =some y):ck x y=true:=by
 obtain⟨h1,rfl⟩:=List.getElem?_eq_some_iff.1 hx;obtain⟨h2,rfl⟩:=List.getElem?_eq_some_iff.1 hy;exact List.pairwise_iff_getElem.1 h i j h1 h2 oe
theorem yy{l:List HT}{x:HT}(hs:SS l)(h: ∀y∈l,ck y x=true):SS (l++ [x]):=by
 have:=Jg (k:=l.length) hs (x:=x) (by simpa using h) (by simp);simpa using this
def LE(l:List HT):Prop:=l.Pairwise fun a b=>ck b a=false
theorem lt_of_le_ne{a b:HT}(h:ck b a=false)(hn:a≠b):ck a b=true:=by
 cases jZ:ck a b
 ·exact absurd (mu jZ h) hn
 ·rfl
theorem pf{a b c:HT}(h:ck b a=false)(h':ck b c=true):ck a c=true:=by
 by_cases e:a=b
 ·subst e;exact h'
 ·exact iw (lt_of_le_ne h e) h'
theorem LE.get{l:List HT}(h:LE l){i j:Nat}(oe:i<j){x y:HT}(hx:l[i]? =some x)(hy:l[j]? =some y):ck y x=false:=by
 obtain⟨h1,rfl⟩:=List.getElem?_eq_some_iff.1 hx;obtain⟨h2,rfl⟩:=List.getElem?_eq_some_iff.1 hy;exact List.pairwise_iff_getElem.1 h i j h1 h2 oe
theorem bt{l:List HT}{k:Nat}{x z:HT}(hx:l[k]? =some x):z∈l.take (k+1)↔z∈l.take k\/z=x:=by
 rw [List.take_add_one,hx];simp
end Go.Proofs.YtnboahlopghcjaaGreatDoor
namespace Go.Proofs.YtnboahlopghcjaaGreatDoor
open Go.Proofs.Tryz
open Go Go.bp Go.RowKit
theorem fV(a:Addr)(k:Nat):(a.add k).block=a.block:=by unfold Addr.add;split<;>rfl
theorem aP{σ:Type}(e:σ->Env)(I:σ->World->Prop)(μ:σ->World->Nat)(s:σ)(w:World)(Q:aJ)(l:Nat)(ρ:Env)(w':World):bF e I μ s w Q (.exit l) ρ w'=Q (.exit l) ρ w':=rfl
theorem fP{σ:Type}(e:σ->Env)(I:σ->World->Prop)(μ:σ->World->Nat)(s:σ)(w:World)(Q:aJ)(ρ:Env)(w':World):bF e I μ s w Q .ret ρ w'=Q .ret ρ w':=rfl
theorem gu{x:Int}(h0: -9223372036854775808<=x)(h1:x<9223372036854775808):IntKind.i64.wrap x=x:=by
 simp only [IntKind.wrap,IntKind.bits,IntKind.signed];simp;omega
theorem Cells.aG{S:Nat->Prop}{w w':World}{a:Addr}{cs:Array Value}(h:Cells w a cs)(hk:Kept S w w')(hn: ¬S a.block):Cells w' a cs:=
 fun j v hj=>hk.cell (h j v hj) (by rw [fV];exact hn)
theorem Cells.bC{w:World}{b:Nat}{cs:Array Value}{t:TypeId}{fr:Nat×Nat}(h:w.heap[b]? =some (.cells cs t fr)):Cells w ⟨b,0,none⟩ cs:=
 fun j v hj=>by rw [a7,Nat.zero_add,az h];exact hj
structure HS(w:World)(A:Option Addr)(n:Nat)(l:List HT):Prop where
 len:l.length=n
 at_: ∀(i:Nat) (h:HT),l[i]? =some h-> ∃a,A=some a/\a.block<w.heap.size/\Cells w (a.add (i*32)) h.1
theorem HS.aG{S:Nat->Prop}{w w':World}{A:Option Addr}{n:Nat}{l:List HT}(h:HS w A n l)(hk:Kept S w w')(hn: ∀a,A=some a-> ¬S a.block):HS w' A n l:=⟨h.len,fun i x hi=>by
 obtain⟨a,h1,h2,h3⟩:=h.at_ i x hi;exact⟨a,h1,Nat.lt_of_lt_of_le h2 hk.size,Cells.aG h3 hk (by rw [fV];exact hn a h1)⟩⟩
theorem HS.same{w w':World}{A:Option Addr}{n:Nat}{l:List HT}(h:HS w A n l)(hk:Kept Nil w w'):HS w' A n l:=h.aG hk fun _ _ h=>h
section
variable{w:World}{K:Value->World->Prop}
end
end Go.Proofs.YtnboahlopghcjaaGreatDoor
namespace Go.Proofs.YtnboahlopghcjaaGreatDoor
open Go.Proofs.Tryz
open Go Go.bp Go.RowKit
def kX(a b:HT):Int:=if ck a b then-1 else if ck b a then 1 else 0
theorem D0{h:HT}{i:Nat}(hi:i<32): ∃x:Int,h.1[i]? =some (.int .u8 x)/\(key h)[i]? =some x/\0<=x/\x<256:=by
 have hs:i<h.1.size:=by rw [h.2.1];exact hi
 obtain⟨x,hx,h1,h2⟩:=h.2.2 h.1[i] (by simp);refine⟨x,by rw [Array.getElem?_eq_getElem hs,hx],?_,h1,h2⟩;unfold key;rw [List.getElem?_map,Array.getElem?_toList,Array.getElem?_eq_getElem hs,hx];rfl
section
variable{w:World}{K:Value->World->Prop}
end
end Go.Proofs.YtnboahlopghcjaaGreatDoor
namespace Go.Proofs.YtnboahlopghcjaaGreatDoor
open Go.Proofs.Tryz
open Go Go.bp Go.RowKit
theorem yr{x y:Int}(hx:0<=x/\x<256)(hy:0<=y/\y<256):(x.toNat.toUInt8<y.toNat.toUInt8)↔x<y:=by
 rw [UInt8.lt_iff_toNat_lt];simp only [Nat.toUInt8,UInt8.toNat_ofNat'];omega
theorem jS: ∀ {a b:List Int},a.length=b.length->(∀x∈a,0<=x/\x<256)->(∀x∈b,0<=x/\x<256)->
 Lib.compareBytes (Lib.bytesOf a) (Lib.bytesOf b)=if ua a b then-1 else if ua b a then 1 else 0
 | [],[],_,_,_=>rfl
 | [],_::_,h,_,_=>by simp at h
 |_::_,[],h,_,_=>by simp at h
 |x::a,y::b,h,ha,hb=>by
  have hx:=ha x (by simp);have hy:=hb y (by simp);have ih:=jS (a:=a) (b:=b) (by simpa using h) (fun z hz=>ha z (by simp [hz])) (fun z hz=>hb z (by simp [hz]));simp only [Lib.bytesOf,List.map_cons,Lib.compareBytes,yr hx hy,yr hy hx,ua];by_cases h1:x<y
  ·simp [h1]
  ·by_cases h2:y<x
   ·simp [h1,h2]
   ·simp only [h1,h2,if_false]
    exact ih
theorem sN(h:HT): ∀x∈key h,0<=x/\x<256:=by
 intro x hx;simp only [key,List.mem_map]at hx;obtain⟨v,hv,rfl⟩:=hx;obtain⟨i,rfl,h1,h2⟩:=h.2.2 v hv;exact⟨h1,h2⟩
theorem oo(a b:HT):Lib.compareBytes (Lib.bytesOf (key a)) (Lib.bytesOf (key b))=kX a b:=
 jS (by rw [mq,mq]) (sN a) (sN b)
section
variable{w:World}{K:Value->World->Prop}
theorem oW(a b:HT){p q:Addr}{c c':Nat}(ha:Cells w p a.1)(hb:Cells w q b.1)(hK:K (.int .i64 (kX a b)) w):
 aY prog eZ.id #[.slice (some p) 32 c,.slice (some q) 32 c'] w K:=by
 refine eZ.of ⟨.int .i64 (kX a b),w,?_,_,rfl,hK⟩;have vm: ∀(h:HT) (r:Addr),Cells w r h.1-> ∀j x,(key h)[j]? =some x->w.cell? (r.add j)=some (.int .u8 x):=by
  intro h r hr j x hx;have hj:j<32:=by have:=(List.getElem?_eq_some_iff.1 hx).1;rw [mq]at this;exact this
  obtain⟨y,hy,ky,_⟩:=D0 (h:=h) hj;rw [hx]at ky;cases ky;exact hr j _ hy
 have l1:=Lib.run_loadBytesX (P:=prog) w (key a) p .empty (vm a p ha);have l2:=Lib.run_loadBytesX (P:=prog) w (key b) q .empty (vm b q hb);rw [mq]at l1 l2;rw [run_callFunc_extern pN.at_ (by kernel_rfl) (by kernel_rfl) (by kernel_rfl) (e:=Extern.BytealgCompare.compare) (by kernel_rfl)];have hr:(Extern.BytealgCompare.compare #[.slice (some p) 32 c,.slice (some q) 32 c']).run prog w=.ok (.int .i64 (kX a b)) w:=by
  change Sem.run prog (do pure (goInt (Extern.BytealgCompare.cmp (<-Extern.Bytes.bytesOf (.slice (some p) 32 c)) (<-Extern.Bytes.bytesOf (.slice (some q) 32 c'))))) w=_
  simp only [Extern.Bytes.bytesOf,Sem.run_bind,l1,l2,Result.andThen_ok,Sem.run_pure,Lib.cmp_eq,goInt];rw [<-oo];simp
 rw [hr];rfl
theorem lW(a b:HT)(hK:K (.int .i64 (kX a b)) ((w.alloc (.cells a.1 ao)).alloc (.cells b.1 ao)).drew):aY prog ct.id #[.agg a.1,.agg b.1] w K:=by
 refine ct.of ?_;unfold ct.W;intro w3 w4 w5;have ha:w5.heap[w.heap.size]? =some (.cells a.1 ao (0,0)):=iD (aN w _) _;have hb:w5.heap[w3.heap.size]? =some (.cells b.1 ao (0,0)):=aN w3 _;simp only [if_neg (show ¬(32:Nat)=0 by omega),Nat.zero_mul,add_zero,Nat.sub_zero];exact oW a b (Cells.bC ha) (Cells.bC hb) ⟨_,rfl,hK⟩
end
end Go.Proofs.YtnboahlopghcjaaGreatDoor
namespace Go.Proofs.YtnboahlopghcjaaGreatDoor
open Go.Proofs.Tryz
open Go Go.bp Go.RowKit
theorem ru(a:Addr)(m n:Nat):(a.add m).add n=a.add (m+n):=by
 unfold Addr.add;by_cases hm:m=0<;>by_cases hn:n=0<;>simp [hm,hn,Nat.add_assoc]
def bV(l:List HT):List Value:=l.flatMap fun h=>h.1.toList
theorem iM(h:HT)(l:List HT):bV (h::l)=h.1.toList++bV l:=by simp [bV]
theorem jn(l m:List HT):bV (l++m)=bV l++bV m:=by simp [bV]
theorem cV: ∀l:List HT,(bV l).length=l.length*32
 | []=>rfl
 |h::l=>by
  have:=h.2.1;rw [iM,List.length_append,cV l,Array.length_toList,this,List.length_cons];omega
theorem wW(l:List HT): ∀u∈bV l,u.oneCell'=true:=by
 intro u hu;simp only [bV,List.mem_flatMap]at hu;obtain⟨h,_,hu⟩:=hu;exact h.2.one u hu
theorem iz: ∀ {l:List HT} {i:Nat} {h:HT},l[i]? =some h-> ∀ {j:Nat} {v:Value},h.1[j]? =some v->(bV l)[i*32+j]? =some v
 | [],_,_,hi,_,_,_=>by simp at hi
 |x::l,0,h,hi,j,v,hj=>by
  simp only [List.getElem?_cons_zero,Option.some.injEq]at hi;subst hi;have ck:j<x.1.toList.length:=by simpa using (Array.getElem?_eq_some_iff.1 hj).1
  rw [iM,Nat.zero_mul,Nat.zero_add,List.getElem?_append_left ck,Array.getElem?_toList,hj]
 |x::l,i+1,h,hi,j,v,hj=>by
  simp only [List.getElem?_cons_succ]at hi;have:=x.2.1;rw [iM,List.getElem?_append_right (by simp;omega),Array.length_toList,this,show(i+1)*32+j-32=i*32+j by omega];exact iz hi hj
theorem zE{l:List HT}{j:Nat}{v:Value}(h:(bV l)[j]? =some v): ∃x,l[j/32]? =some x/\x.1[j%32]? =some v:=by
 have hj:=(List.getElem?_eq_some_iff.1 h).1;rw [cV]at hj;have hi:j/32<l.length:=by omega
 refine⟨l[j/32],List.getElem?_eq_getElem hi,?_⟩;have hs:=l[j/32].2.1;have hm:j%32<l[j/32].1.size:=by rw [hs];omega
 obtain⟨u,hu⟩: ∃u,l[j/32].1[j%32]? =some u:=⟨_,Array.getElem?_eq_getElem hm⟩;have:=iz (List.getElem?_eq_getElem hi) hu;rw [show j/32*32+j%32=j by omega,h]at this;rw [hu,this]
theorem ly:yx prog aR ao 32 32:=⟨by kernel_rfl,by kernel_rfl⟩
abbrev bQ(w:World)(B:Nat)(A:Option Addr)(n c:Nat)(l:List HT):Prop:=Row w B ao 32 A n c (bV l)
section
variable{w w':World}{B:Nat}{A:Option Addr}{n c:Nat}{l:List HT}
theorem bQ.len(h:bQ w B A n c l):l.length=n:=by
 have:=Row.len h;rw [cV]at this;omega
theorem bQ.hs(h:bQ w B A n c l):HS w A n l:=⟨h.len,fun i x hi=>by
 have hlen:=h.len;have eI:=(List.getElem?_eq_some_iff.1 hi).1;obtain⟨b,rfl⟩:=Row.some h (by omega);obtain⟨_,cur,tG⟩:=Row.bC h (k:=b) rfl;refine⟨_,rfl,aQ tG,fun j v hj=>?_⟩;rw [ru];exact Row.cells h _ _ (iz hi hj)⟩
theorem bQ.nil(w:World)(B:Nat):bQ w B none 0 0 []:=Row.nil _ _ _ _
theorem HS.cells{a:Addr}(h:HS w (some a) n l): ∀j u,(bV l)[j]? =some u->w.cell? (a.add j)=some u:=by
 intro j u hj;obtain⟨x,hx,hu⟩:=zE hj;obtain⟨a',ha,_,hc⟩:=h.at_ _ x hx;cases ha;have:=hc _ _ hu
 rwa [ru,show j/32*32+j%32=j by omega]at this
theorem HS.nil(w:World)(A:Option Addr):HS w A 0 []:=⟨rfl,fun i x hi=>by simp at hi⟩
theorem HS.none(h:HS w none n l):n=0/\l= []:=by
 cases l with
 |nil=>exact⟨h.len.symm,rfl⟩
 |cons x l=>obtain⟨a,ha,_⟩:=h.at_ 0 x rfl;cases ha
theorem HS.drop(h:HS w A n l){k:Nat}(hc:n<=c)(hk:k<=n):HS w (if c=k then A else A.map (·.add (k*32))) (n-k) (l.drop k):=⟨by have:=h.len;simp;omega,fun i x hi=>by
 rw [List.getElem?_drop]at hi;have hlen:=h.len;have:=(List.getElem?_eq_some_iff.1 hi).1;obtain⟨a,rfl,hb,tH⟩:=h.at_ _ x hi;rw [if_neg (by omega)];refine⟨_,rfl,by rw [fV];exact hb,?_⟩;rw [ru,<-Nat.add_mul];exact tH⟩
theorem HS.one{w:World}{b:Nat}{h:HT}{t:TypeId}{fr:Nat×Nat}(hb:w.heap[b]? =some (.cells h.1 t fr)):HS w (some ⟨b,0,Option.none⟩) 1 [h]:=⟨rfl,fun i x hi=>by
 cases i with
 |zero=>
  simp only [List.getElem?_cons_zero,Option.some.injEq]at hi;subst hi;exact⟨_,rfl,aQ hb,by rw [Nat.zero_mul,add_zero];exact Cells.bC hb⟩
 |succ i=>simp at hi⟩
theorem fE(ty:Nat)(h:bQ w B A n c l){A2:Option Addr}{m cx:Nat}{l2:List HT}(h2:HS w A2 m l2)(hm:n+m<=1000000)(hB:B<=w.heap.size):
 ∃A' c' w',(Builtin.append_ #[aR,aR] ty #[.slice A n c,.slice A2 m cx]).run prog w=.ok (.slice A' (n+m) c') w'/\
  bQ w' B A' (n+m) c' (l++l2)/\w.grownBy w' (aX A)/\(∀k,aX A'=some k->aX A=some k\/w.heap.size<=k):=by
 cases A2 with
 |some a=>
  have rG:=h2.len;obtain⟨A',c',w',hr,eV,hg,hb⟩:=fT (P:=prog) (t:=aR) (bytes:=32) (ty:=ty) ly h (a:=a) (m:=m) (cx:=cx) (news:=bV l2) (by rw [cV,rG]) h2.cells (wW l2) (by omega) (by unfold maxLen;omega) hB;refine⟨A',c',w',hr,?_,hg,hb⟩;rw [<-jn]at eV;exact eV
 |none=>
  obtain⟨rfl,rfl⟩:=h2.none;refine⟨A,c,w,?_,by simpa using h,⟨rfl,rfl,rfl,Nat.le_refl _,fun _ _ _=>rfl⟩,fun k hk=>.inl hk⟩;obtain⟨i,z,hi,hz,hs,Dj,Db⟩:=ly.inf;have hn:n<=c:=by rcases Row.own h with⟨_,h1,h2,_⟩|⟨_,_,_,_,_,h1,_⟩<;>omega
  simp [Builtin.append_,run_underlying ly.lf,sizeOf,typeInfo,hi,Builtin.lenOf,Builtin.firstCells,hn];cases A<;>simp [storeCells]
end
end Go.Proofs.YtnboahlopghcjaaGreatDoor
namespace Go.Proofs.YtnboahlopghcjaaGreatDoor
open Go.Proofs.Tryz
open Go Go.bp Go.RowKit
theorem HS.load{w:World}{A:Option Addr}{n:Nat}{l:List HT}(hl:HS w A n l){i:Int}{x:HT}(h0:0<=i)(hx:l[i.toNat]? =some x){k:Array Value->Prop}(hk:k x.1):
 (0<=i/\i<(n:Int))/\Is A fun a=> ∃t:Array Value,(t.size=32/\Cells w (a.add (i.toNat*32)) t)/\k t:=by
 obtain⟨a,rfl,_,hc⟩:=hl.at_ _ x hx;have:=(List.getElem?_eq_some_iff.1 hx).1;have:=hl.len;exact⟨⟨h0,by omega⟩,x.1,⟨x.2.1,hc⟩,hk⟩
theorem yq{a b:HT}:(kX a b<0)↔ck a b=true:=by
 unfold kX;by_cases h:ck a b=true
 ·simp [h]
 ·by_cases h':ck b a=true<;>simp [h,h']
theorem e8{n:Int}(h0:0<=n)(h1:n<=2000000):IntKind.i64.wrap (n+1)=n+1:=gu (by omega) (by omega)
theorem wrapM{n:Int}(h0:0<=n)(h1:n<=2000000):IntKind.i64.wrap (n-1)=n-1:=gu (by omega) (by omega)
theorem Kept.pY{w w' jB:World}{A:Option Addr}(h:Kept Nil w w')(hg:w'.grownBy jB (aX A))(hr: ∀k,aX A=some k->w.heap.size<=k):Kept Nil w jB:=
 Kept.grown h hg fun k hk ck=>absurd (hr k hk) (by omega)
section
variable{w:World}{K:Value->World->Prop}
end
end Go.Proofs.YtnboahlopghcjaaGreatDoor
namespace Go.Proofs.YtnboahlopghcjaaGreatDoor
open Go.Proofs.Tryz
open Go Go.bp Go.RowKit
theorem iE{w:World}{k l:Nat}{cs:Array Value}{t:TypeId}{fr:Nat×Nat}{R:Loop}(h:w.heap[k]? =some (.cells cs t fr))(h':w.heap[l]? =some (.loop R)):k≠l:=by
 rintro rfl;rw [h]at h';cases h'
theorem tq{w:World}{k l:Nat}{cs:Array Value}{t:TypeId}{fr:Nat×Nat}{d:Option (List Deferred)}(h:w.heap[k]? =some (.cells cs t fr))(h':w.heap[l]? =some (.deferred d)):k≠l:=by
 rintro rfl;rw [h]at h';cases h'
theorem Row.apart{w w':World}{B:Nat}{e:TypeId}{size:Nat}{A:Option Addr}{n c:Nat}{xs:List Value}(h:Row w B e size A n c xs){l:Nat}(hk:Kept (· =l) w w')
 (hl: ∀cs t fr,w.heap[l]? ≠some (.cells cs t fr)):Row w' B e size A n c xs:=Row.aG h hk fun k hb e=>by
 subst e;obtain⟨_,cur,hc⟩:=Row.bC h hb;exact hl _ _ _ hc
abbrev om(h:HT):List Value:= [.agg h.1]
section
variable{w:World}{K:Value->World->Prop}
theorem uu(p:Addr){A:Option Addr}{n c:Nat}{l:List HT}(hn:n<=1000000):
 jY prog ax.id #[] #[.pointer (some p)] (l.map om) (fun w=>HS w A n l/\w.cell? p=some (.slice A n c)):=by
 intro y I D w0 hI hD oc h0 nu;refine ax.of ?_;obtain⟨yg,JN⟩:=oc 0 w0 h0;have hlen:=yg.len;refine⟨A,n,c,JN,?_⟩;refine ax.bU (I:=fun s w'=> ∃i:Nat,s=(i:Int)/\i<=n/\I i w') (μ:=fun s _=>((n:Int)-s).toNat) (s:=0) ⟨0,rfl,Nat.zero_le _,h0⟩ ?_;rintro s w' ⟨i,rfl,hi,hw⟩;refine Split.dec (fun jE=>?_) (fun iy=>?_)
 ·have eI:i<n:=by omega
  obtain⟨x,hx⟩: ∃x,l[i]? =some x:=⟨_,List.getElem?_eq_getElem (by omega)⟩;have hl:=(oc i w' hw).1;refine hl.load (i:=(i:Int)) (by omega) hx ?_;intro w10;obtain⟨nt,hb,hk⟩:=dU (w:=w') (z:=(#[.int .u8 0,.int .u8 0,.int .u8 0,.int .u8 0,.int .u8 0,.int .u8 0,.int .u8 0,.int .u8 0,.int .u8 0,.int .u8 0,.int .u8 0,.int .u8 0,.int .u8 0,.int .u8 0,.int .u8 0,.int .u8 0,.int .u8 0,.int .u8 0,.int .u8 0,.int .u8 0,.int .u8 0,.int .u8 0,.int .u8 0,.int .u8 0,.int .u8 0,.int .u8 0,.int .u8 0,.int .u8 0,.int .u8 0,.int .u8 0,.int .u8 0,.int .u8 0]:Array Value)) (cs:=x.1) (t:=ao) (by rw [x.2.1];rfl);refine⟨⟨x.2.1,x.2.one,fun j hj=>nt j (by rw [x.2.1];exact hj)⟩,?_⟩;intro jJ
  replace hb:jJ.heap[w'.heap.size]? =some (.cells x.1 ao (0,0)):=hb
  replace hk:Kept Nil w' jJ:=hk
  clear_value jJ;refine⟨x.1,⟨x.2.1,Cells.bC hb⟩,?_⟩;refine(nu i (om x) jJ (by rw [List.getElem?_map,hx];rfl) (hI i w' jJ hw hk)).mono ?_;rintro b jB ⟨ht,hf⟩;cases b with
  |true=>
   refine Split.no rfl ?_;rw [e8 (n:=(i:Int)) (by omega) (by omega)];exact⟨(i:Int)+1,rfl,⟨i+1,rfl,eI,ht rfl⟩,by simp only;omega⟩
  |false=>
   refine Split.yes rfl ?_;exact Or.inr (hf rfl)
 ·rw [aP,ax.dD]
  have e:i=n:=by omega
  subst e;refine Or.inl ?_;rw [List.length_map,hlen];exact hw
theorem sh{gf:FuncId}{eQ:Array Value}{xs:List HT}{fn:Func}(Di:prog.funcs[gf]? =some fn)(hb:fn.body.isSome){Dp:World->Prop}
 (hit:jY prog gf #[] eQ (xs.map om) Dp) (hp: ∀w',Kept Nil w w'->Dp w') (Ef:xs.length<=1000000)
 (hK: ∀A c w',bQ w' w.heap.size A xs.length c xs->Kept Nil w w'->K (.slice A xs.length c) w'):
 aY prog aA.id #[.slice none 0 0,.func (.func gf) #[] eQ] w K:=by
 refine aA.of ?_;unfold aA.W;intro w3;have k3:Kept Nil w w3:=(Kept.refl Nil w).alloc _;have nD:w3.heap[w.heap.size]? =some (.cells #[.slice none 0 0] aR (0,0)):=aN w _;have Ek:w.heap.size<w3.heap.size:=aQ nD;clear_value w3
 let ρ0:Env:= [(2,.pointer (some (⟨w.heap.size,0,none⟩:Addr))),(4,.slice none 0 0),(6,.func (.func gf) #[] eQ)]
 let J:Nat->World->Prop:=fun i w'=> ∃A c,w'.heap[w.heap.size]? =some (.cells #[.slice A i c] aR (0,0))/\bQ w' w.heap.size A i c (xs.take i)/\Kept Nil w w'/\i<=xs.length/\ ∀k,aX A=some k->k≠w.heap.size
 refine kj (ρ:=ρ0) (ρ0:=ρ0) ng mix aA.k (t:=6) (ps:= #[7]) (by kernel_rfl) (by decide) rfl Di hb (.inl rfl) (fun i v _ h=>h) rfl om xs (fun _=>rfl) (by simp [eW]) hit J (fun _ _=>False) ?_ (fun _ _ _ _ _ h=>h.elim) (fun i w' h=>hp w' (let ⟨_,_,_,_,h,_⟩:=h;h)) ?_ ?_ ?_ (fun _ _ h=>h.elim) (fun _ _ _ h=>h.elim)
 ·rintro i w' jB R hl ⟨A,c,h1,h2,h3,h4,h5⟩ hk
  exact⟨A,c,hk.heap h1 (iE h1 hl.loop),Row.apart h2 hk (fun cs t fr h=>by rw [hl.loop]at h;cases h),h3.trans hk (fun k hk e=>by omega),h4,h5⟩
 ·intro R
  exact⟨none,0,iD (iD nD _) _,bQ.nil _ _,(k3.alloc _).alloc _,Nat.zero_le _,fun k hk=>by cases hk⟩
 ·rintro i x w' R hx ⟨A,c,h1,h2,h3,h4,h5⟩ hl
  have eI:i<xs.length:=(List.getElem?_eq_some_iff.1 hx).1;have e7:iR ρ0 ((#[7]:Array Nat).toList.zip (om x))= [(2,.pointer (some (⟨w.heap.size,0,none⟩:Addr))),(4,.slice none 0 0),(6,.func (.func gf) #[] eQ),(7,.agg x.1)]:=rfl;rw [e7,aA.a1];unfold aA.A1;intro w8;obtain⟨nt,ij,ig⟩:=dU (w:=w') (z:=(#[.int .u8 0,.int .u8 0,.int .u8 0,.int .u8 0,.int .u8 0,.int .u8 0,.int .u8 0,.int .u8 0,.int .u8 0,.int .u8 0,.int .u8 0,.int .u8 0,.int .u8 0,.int .u8 0,.int .u8 0,.int .u8 0,.int .u8 0,.int .u8 0,.int .u8 0,.int .u8 0,.int .u8 0,.int .u8 0,.int .u8 0,.int .u8 0,.int .u8 0,.int .u8 0,.int .u8 0,.int .u8 0,.int .u8 0,.int .u8 0,.int .u8 0,.int .u8 0]:Array Value)) (cs:=x.1) (t:=ao) (by rw [x.2.1];rfl);refine⟨⟨x.2.1,x.2.one,fun j hj=>nt j (by rw [x.2.1];exact hj)⟩,?_⟩;intro ur
  replace ij:ur.heap[w'.heap.size]? =some (.cells x.1 ao (0,0)):=ij
  replace ig:Kept Nil w' ur:=ig
  clear_value ur;have Ev:=hl.aG ig (fun h=>h) (fun h=>h);refine⟨Ev,fun w2 R2 kQ rG=>?_⟩;have S5:=kQ.heap ij (iE ij Ev.loop);have W0:=ig.heap h1 (fun h=>h);have Dk:=kQ.heap W0 (iE W0 Ev.loop);have wZ:bQ w2 w.heap.size A i c (xs.take i):=Row.apart (Row.aG h2 ig (fun _ _ h=>h)) kQ (fun cs t fr h=>by rw [Ev.loop]at h;cases h);have TQ:Kept Nil w w2:=(h3.trans ig (fun _ _ h=>h)).trans kQ (fun k hk e=>by omega);have ck:w.heap.size<w2.heap.size:=aQ Dk;rw [aA.y1];unfold aA.Y1;refine⟨A,i,c,by rw [az Dk];rfl,x.1,⟨x.2.1,Cells.bC S5⟩,x.2.1,?_⟩;intro gD;have nC:Kept Nil w2 gD:=(Kept.refl _ _).alloc _;have kV:HS gD (some ⟨w2.heap.size,0,none⟩) 1 [x]:=by
   refine HS.one (t:=ao) (fr:=(0,0)) ?_;have e3:gD=w2.alloc (.cells x.1 ao):=by
    show w2.alloc (.cells (x.1.toList++ []).toArray ao)=_
    simp
   rw [e3];exact aN w2 _
  clear_value gD;have EM:bQ gD w.heap.size A i c (xs.take i):=Row.aG wZ nC (fun _ _ h=>h);have TT:=nC.heap Dk (fun h=>h);have Zj:=nC.size;obtain⟨A',c',rM,hr,jL,hg,r7⟩:=fE (cx:=1) aR EM kV (by omega) (by omega);have Iu:Kept (fun k=>aX A=some k) gD rM:=Kept.grown (Kept.refl _ _) hg (fun k hk _=>hk);have EN:=Iu.heap TT (fun h=>h5 _ h rfl);have Ih:Live (w3.heap.size+1) w3.heap.size R2 rM:=by
   have Ii:=rG.aG nC (fun h=>h) (fun h=>h);refine Ii.aG Iu ?_ ?_
   ·intro h
    obtain⟨_,cur,hc⟩:=Row.bC EM h;exact iE hc Ii.loop rfl
   ·intro h
    obtain⟨_,cur,hc⟩:=Row.bC EM h;exact tq hc Ii.mark rfl
  have Af:Kept Nil w rM:=(TQ.trans nC (fun _ _ h=>h)).trans Iu (fun k hk e=>by
   obtain⟨h,_⟩:=Row.bC EM e;omega)
  refine⟨A',_,c',rM,hr,dE EN (by simp),?_⟩;intro oz;have vQ:Kept (· =w.heap.size) rM oz:=Kept.setCell (S:=fun k=>k=w.heap.size) (Kept.refl _ rM) (p:=⟨w.heap.size,0,none⟩) (fun _=>rfl) _;have Tm:oz.heap[w.heap.size]? =some (.cells #[.slice A' (i+1) c'] aR (0,0)):=cQ EN 0 _;clear_value oz;have zJ: ∀k,aX A'=some k->k≠w.heap.size:=fun k hk=>by
   rcases r7 k hk with h|h
   ·exact h5 k h
   ·omega
  refine⟨Ih.aG vQ (iE EN Ih.loop).symm (tq EN Ih.mark).symm,A',c',Tm,?_,Af.trans vQ (fun k hk e=>by omega),eI,zJ⟩;rw [List.take_add_one,hx];exact Row.aG jL vQ zJ
 ·rintro w' R ⟨A,c,h1,h2,h3,h4,h5⟩ hl
  have e7:fe ρ0 w3.heap.size= [(2,.pointer (some (⟨w.heap.size,0,none⟩:Addr))),(4,.slice none 0 0),(6,.func (.func gf) #[] eQ),(4294967296,.agg #[.pointer (some ⟨w3.heap.size,0,none⟩)])]:=rfl;rw [e7,aA.im];refine⟨A,xs.length,c,by rw [az h1];rfl,⟨hl.mark,trivial⟩,?_⟩;have kp:Kept (· =w3.heap.size) w' (w'.putObj w3.heap.size (.deferred none)):=Kept.putAt _ _ _;refine hK A c _ ?_ (h3.trans kp (fun k hk e=>by omega));have:=Row.apart h2 kp (fun cs t fr h=>by rw [hl.mark]at h;cases h)
  rwa [List.take_of_length_le (Nat.le_refl _)]at this
theorem xk{gf:FuncId}{eQ:Array Value}{xs:List HT}{fn:Func}(Di:prog.funcs[gf]? =some fn)(hb:fn.body.isSome){Dp:World->Prop}
 (hit:jY prog gf #[] eQ (xs.map om) Dp) (hp: ∀w',Kept Nil w w'->Dp w') (Ef:xs.length<=1000000)
 (hK: ∀A c w',bQ w' w.heap.size A xs.length c xs->Kept Nil w w'->K (.slice A xs.length c) w'):
 aY prog bR.id #[.func (.func gf) #[] eQ] w K:=by
 refine bR.of (sh Di hb hit hp Ef fun A c w' h1 h2=>⟨_,_,_,rfl,hK A c w' h1 h2⟩)
end
end Go.Proofs.YtnboahlopghcjaaGreatDoor
namespace Go.Proofs.YtnboahlopghcjaaGreatDoor
open Go.Proofs.Tryz
open Go Go.bp Go.RowKit Go.Sort
instance:Inhabited HT:=⟨⟨Array.replicate 32 (.int .u8 0),by simp,fun v hv=>⟨0,by simpa using hv,by omega,by omega⟩⟩⟩
abbrev jG(h:HT):List Value:=h.1.toList
theorem vx(h:HT):(jG h).length=32:=by have:=h.2.1;simpa using this
theorem q7(d:Array HT):(flatK jG 32 d).toList=bV d.toList:=by
 apply List.ext_getElem?;intro t;by_cases ht:t<d.size*32
 ·have hi:t/32<d.size:=by omega
  have hx:d.toList[t/32]? =some d[t/32]:=by rw [Array.getElem?_toList,Array.getElem?_eq_getElem hi]
  have hs:t%32<d[t/32].1.size:=by rw [d[t/32].2.1];omega
  have h1:=iz hx (Array.getElem?_eq_getElem hs);rw [show t/32*32+t%32=t by omega]at h1;rw [h1];have h2:t<(flatK jG 32 d).size:=by rw [size_flatK];exact ht
  have h3:=get_flatK jG 32 d t ht;rw [getElem!_pos _ t h2]at h3;rw [Array.getElem?_toList,Array.getElem?_eq_getElem h2,h3,getElem!_pos d _ hi];rw [getElem!_pos _ _ (by rw [vx];omega)];simp [jG]
 ·rw [List.getElem?_eq_none (by simp;omega),List.getElem?_eq_none (by rw [cV];simp;omega)]
theorem Ba{F cur:Array Value}{k:Nat}(hk:F.size=k)(h:k<=cur.size):(putCells id 0 F cur).toList.take k=F.toList:=by
 apply List.ext_getElem?;intro i;rw [List.getElem?_take];split
 ·rename_i hi
  have h1:i<cur.size:=by omega
  have h2:i<F.size:=by omega
  rw [Array.getElem?_toList,Array.getElem?_toList,putCells,Array.getElem?_mapIdx,Array.getElem?_eq_getElem h1,Array.getElem?_eq_getElem h2];simp [h2]
 ·rw [List.getElem?_eq_none (by simp;omega)]
theorem rU{w:World}{b:Nat}{f:Array Value->Array Value}{cur:Array Value}{t:TypeId}{fr:Nat×Nat}(h:w.heap[b]? =some (.cells cur t fr)):(mapBlock w b f).heap[b]? =some (.cells (f cur) t fr):=by
 simp [mapBlock,Array.getElem?_modify,h,onCells]
theorem rT(w:World)(b:Nat)(f:Array Value->Array Value):Kept (· =b) w (mapBlock w b f):=
 ⟨rfl,rfl,rfl,by simp [mapBlock],fun k _ hn=>by simp [mapBlock,Array.getElem?_modify,Ne.symm hn]⟩
theorem zK(w:World)(os:Array Obj):Kept Nil w (grow w os):=
 ⟨rfl,rfl,rfl,by simp,fun k hk _=>heap_grow_old w os hk⟩
theorem xu(w:World)(m:Nat):Kept Nil w (Sort.ahead w m):=⟨rfl,rfl,rfl,Nat.le_refl _,fun _ _ _=>rfl⟩
section
variable{w:World}{B n c b:Nat}{l:List HT}
theorem rO(row:bQ w B (some ⟨b,0,none⟩) n c l)(m:Nat)(dk:Array HT)(os:Array Obj)(hd:dk.size=n):
 bQ (sortWorldK jG 32 w b 0 m dk os) B (some ⟨b,0,none⟩) n c dk.toList/\Kept (· =b) w (sortWorldK jG 32 w b 0 m dk os):=by
 have ZS:=xu w m;have k1:=rT (Sort.ahead w m) b (putCells id 0 (flatK jG 32 dk));have kk:=((ZS.mono (S':=fun k=>k=b) (fun _ _ h=>h.elim)).trans k1 (fun _ _ h=>h)).trans (zK _ os) (fun _ _ h=>h.elim);refine⟨?_,?_⟩
 ·rcases Row.own row with⟨h,_⟩|⟨b',cur,hA,hB,hg,zz,kK,kI,wM⟩
  ·cases h
  ·cases hA
   refine⟨by rw [cV,Array.length_toList,hd],.inr ⟨b,c,putCells id 0 (flatK jG 32 dk) cur,rfl,hB,?_,zz,kK,by simp [putCells,kI],?_⟩⟩
   ·have h1:(mapBlock (Sort.ahead w m) b (putCells id 0 (flatK jG 32 dk))).heap[b]? =some (.cells (putCells id 0 (flatK jG 32 dk) cur) ao (0,0)):=rU hg
    exact(heap_grow_old _ os (aQ h1)).trans h1
   ·rw [<-q7]
    refine Ba (by rw [size_flatK,hd]) ?_;rw [kI];exact Nat.mul_le_mul_right _ zz
 ·exact kk
theorem wT(row:bQ w B (some ⟨b,0,none⟩) n c l):HoldsK jG 32 w b 0 l.toArray:=by
 intro j hj;rw [size_flatK]at hj;have sU:j<l.length*32:=by simpa using hj
 rw [Nat.zero_add];have hlen:=Row.len row;have hx:(flatK jG 32 l.toArray).toList[j]? =(bV l)[j]? :=by rw [q7]
 have Wm:j<(flatK jG 32 l.toArray).size:=by rw [size_flatK];exact hj
 rw [Array.getElem?_toList,Array.getElem?_eq_getElem Wm]at hx;have hc:=Row.cell row hx.symm;refine⟨?_,?_⟩
 ·rw [hc,getElem!_pos _ j Wm];rfl
 ·exact(Row.wr row (j:=j) (by rw [cV];exact sU)).2
theorem lN(x y:HT):ltOf kX x y=ck x y:=by
 unfold ltOf;cases h:ck x y
 ·exact decide_eq_false fun h'=>by rw [yq.1 h']at h;cases h
 ·exact decide_eq_true (yq.2 h)
theorem le_trans'{x y z:HT}(h:ck y x=false)(h':ck z y=false):ck z x=false:=by
 cases LA:ck z x
 ·rfl
 ·exfalso
  by_cases e:y=z
  ·subst e;rw [h]at LA;cases LA
  ·have JE:=lt_of_le_ne h' e
   have:=iw JE LA;rw [h]at this;cases this
theorem P3:SWO (ltOf kX) where
 irrefl x:=by rw [lN];exact fw x
 trans x y z h h':=by rw [lN]at*;exact iw h h'
 ntrans x y z h h':=by
  rw [lN]at*;exact le_trans' h' h
theorem DC{A:Option Addr}{K:Value->World->Prop}(row:bQ w B A n c l)(hn:n<=1000000)
 (hK: ∀l' w',LE l'->(∀x,x∈l'↔x∈l)->bQ w' B A n c l'->Kept (fun k=>aX A=some k) w w'->K (.tuple #[]) w'):
 aY prog fH.id #[.slice A n c,.func (.func ct.id) #[] #[]] w K:=by
 have hlen:=row.len;by_cases h0:n=0
 ·subst h0
  have h:=AnyF.slices_SortFunc_none Tryz.sy A c (.func (.func ct.id) #[] #[]) w;refine Calls.mono h ?_;rintro e w' ⟨rfl,rfl⟩;have:l= []:=List.eq_nil_of_length_eq_zero hlen;subst this;exact⟨_,rfl,hK [] _ List.Pairwise.nil (fun _=>Iff.rfl) row (Kept.refl _ _)⟩
 ·obtain⟨b,rfl⟩:=Row.some row (by omega)
  have hblk:b<w.heap.size:=by
   obtain⟨_,cur,hc⟩:=Row.bC row (k:=b) rfl;exact aQ hc
  have lP:l.toArray.size=n:=by simpa using hlen
  have eg: ∀args w,(callFunc ct.id args).run prog w=.ok (.enter ct.id args) w:=enters_of ct.at_ (by kernel_rfl) rfl;have hk:kl prog ao=.agg 32:=by kernel_rfl
  obtain⟨Ua,ha⟩:=nZ hk;obtain⟨i,hi⟩:=Go.bp.info_of_underlying (P:=prog) (t:=ao) (by kernel_rfl);have SL:CmpLays prog ct.id #[] jG 32 kX b 0 l.toArray.size w:=fun m os dk _ x y=>by
   have e:(#[.agg (jG x).toArray,.agg (jG y).toArray]++ #[]:Array Value)= #[.agg x.1,.agg y.1]:=by simp [jG]
   rw [e];have h:=lW (w:=sortWorldK jG 32 w b 0 m dk os) x y (K:=fun v w'=>v=.int .i64 (kX x y)/\w'=(((sortWorldK jG 32 w b 0 m dk os).alloc (.cells x.1 ao)).alloc (.cells y.1 ao)).drew) ⟨rfl,rfl⟩;refine Calls.mono h ?_;rintro e w' ⟨v,rfl,rfl,rfl⟩;refine⟨rfl,1,#[.cells x.1 ao,.cells y.1 ao],?_⟩;rw [alloc_eq_grow,alloc_eq_grow,grow_grow,drew_grow];rfl
  have h:=AnyQ.slices_SortFunc_total Tryz.sy 32 ha (fun w=>by rw [Ua];exact Go.bp.run_sizeOf hi w) jG vx (fun x=>x.2.one) kX P3 ct.id #[] b 0 c l.toArray w eg SL (wT row) hblk (by omega)
   (fun x y h1 h2=>by rw [lN]at h1 h2;exact mu h1 h2)
  rw [lP]at h;refine Calls.mono h ?_;rintro e w' ⟨rfl,m,os,rfl⟩;have hp:=List.mergeSort_perm l.toArray.toList (fun x y=> !(ltOf kX) y x);have F5:(l.toArray.toList.mergeSort fun x y=> !(ltOf kX) y x).toArray.size=n:=by
   have:=hp.length_eq;simp only [List.size_toArray];rw [this];simpa using hlen
  obtain⟨h1,h2⟩:=rO row m _ os F5;refine⟨_,rfl,hK _ _ ?_ (fun x=>?_) h1 (h2.mono fun k _ e=>by rw [e];rfl)⟩
  ·have hs:=List.pairwise_mergeSort (le:=fun x y=> !(ltOf kX) y x) (fun a b c h h'=>by
    rw [lN]at*;simp only [Bool.not_eq_true']at*;exact le_trans' h h') (fun a b=>by
    rw [lN,lN];cases jZ:ck b a
    ·rfl
    ·rw [oT jZ];rfl) l.toArray.toList
   refine List.Pairwise.imp ?_ hs;intro a b jZ;rw [lN]at jZ;simpa using jZ
  ·simp
end
end Go.Proofs.YtnboahlopghcjaaGreatDoor
namespace Go.Proofs.YtnboahlopghcjaaGreatDoor
open Go.Proofs.Tryz
open Go Go.bp Go.RowKit
theorem wV{l:List HT}{k:Nat}(hk:k<l.length)(x:HT):bV (l.set k x)=fh (bV l) (k*32) x.1.toList:=by
 have h1:l=l.take k++l[k]::l.drop (k+1):=by rw [<-List.drop_eq_getElem_cons hk,List.take_append_drop]
 have e1:(bV (l.take k)).length=k*32:=by rw [cV,List.length_take];omega
 have hx:=x.2.1;have hl:=l[k].2.1;have hs:l.set k x=l.take k++x::l.drop (k+1):=List.set_eq_take_append_cons_drop .. |>.trans (if_pos hk)
 rw [hs]
 conv=>rhs;rw [h1]
 rw [jn,jn,iM,iM];generalize bV (l.take k)=p at e1;generalize bV (l.drop (k+1))=r;have eq:l[k].1.toList.length=32:=by simpa using hl
 have ev:x.1.toList.length=32:=by simpa using hx
 generalize l[k].1.toList=q at eq;generalize x.1.toList=v at ev;unfold fh;rw [List.take_left' e1,ev,show p++(q++r)=(p++q)++r by simp,List.drop_left' (by rw [List.length_append,e1,eq])];simp
theorem bQ.setAt{w:World}{B n c b:Nat}{l:List HT}(row:bQ w B (some ⟨b,0,none⟩) n c l){k:Nat}(hk:k<n)(x:HT):
 bQ (setCells w ⟨b,k*32,none⟩ x.1.toList 0) B (some ⟨b,0,none⟩) n c (l.set k x):=by
 have hlen:=row.len;have hx:=x.2.1;have:=nJ x.1.toList (bV l) w (k*32) 0 row (by rw [cV];simp;omega);rw [Nat.add_zero]at this;rw [<-wV (by omega)]at this;exact this
theorem bQ.GH{w:World}{B n c b:Nat}{l:List HT}(row:bQ w B (some ⟨b,0,none⟩) n c l){k:Nat}(hk:k<n)(j:Nat)(hj:j<32):Wr w ((⟨b,k*32,none⟩:Addr).add j):=by
 rw [a7];refine Row.wr row ?_;rw [cV,row.len];omega
theorem bQ.cap{w:World}{B:Nat}{A:Option Addr}{n c:Nat}{l:List HT}(row:bQ w B A n c l):n<=c:=by
 rcases Row.own row with⟨_,h1,h2,_⟩|⟨_,_,_,_,_,h1,_⟩<;>omega
theorem bQ.cut{w w':World}{B n c b:Nat}{l:List HT}(row:bQ w B (some ⟨b,0,none⟩) n c l){k:Nat}(hk:k<=n)(vs:List Value)(hv:vs.length=(n-k)*32)(hw:w'=setCells w ⟨b,k*32,none⟩ vs 0):
 bQ w' B (some ⟨b,0,none⟩) k c (l.take k):=by
 subst hw;have hlen:=row.len;rcases Row.own row with⟨h,_⟩|⟨b',cur,hA,hB,hg,zz,kK,kI,wM⟩
 ·cases h
 ·cases hA
  have hle:n*32<=c*32:=Nat.mul_le_mul_right _ zz;have lP:k*32+0+vs.length<=cur.size:=by omega
  have h1:=gZ vs cur w ao (k*32) 0 hg lP;refine⟨by rw [cV,List.length_take];omega,.inr ⟨b,c,_,rfl,hB,h1,by omega,kK,?_,?_⟩⟩
  ·have:=kc (xs:=cur.toList) (k:=k*32+0) (vs:=vs) (by simpa using lP)
   rw [List.size_toArray,this];simpa using kI
  ·have e1:(bV (l.take k)).length=k*32:=by rw [cV,List.length_take];omega
   have e2:(bV l).take (k*32)=bV (l.take k):=by
    conv=>lhs;rw [<-List.take_append_drop k l,jn]
    rw [<-e1,List.take_left'];rfl
   rw [<-e2,<-wM,List.take_take,Nat.min_eq_left (by omega)];unfold fh;simp only [Nat.add_zero];rw [List.append_assoc,List.take_append_of_le_length (by simp;omega),List.take_take,Nat.min_self]
def xD(P:Program)(e:TypeId):Bool:=
 match P.info? e with
 |some i=>match i.zero with
  |some z=>z.cells.toList.all fun v=>v.oneCell'
  |none=>false
 |none=>false
theorem qk{w:World}{B n c b:Nat}{l:List HT}(row:bQ w B (some ⟨b,0,none⟩) n c l){k:Nat}(hk:k<=n)(ty:Nat){A:Option Addr}{cx:Nat}(hA:k<n->A=some ⟨b,k*32,none⟩):
 ∃w',(Builtin.clear_ #[aR] ty #[.slice A (n-k) cx]).run prog w=.ok (.tuple #[]) w'/\bQ w' B (some ⟨b,0,none⟩) k c (l.take k)/\Kept (· =b) w w':=by
 have hlen:=row.len;by_cases r6:k<n
 ·obtain⟨i,z,hi,hz,hs,_,Db⟩:=ly.inf
  have Er:xD prog ao=true:=by kernel_rfl
  unfold xD at Er;rw [hi]at Er;simp only [hz,List.all_eq_true]at Er;rw [hA r6];obtain⟨m,hm⟩: ∃m,n-k=m+1:=⟨n-k-1,by omega⟩;have Q2:(Builtin.zeroCells z.cells (n-k)).toList.length=(n-k)*32:=by simp [Builtin.zeroCells,Db]
  have pI:=fp (P:=prog) ⟨b,k*32,none⟩ (Builtin.zeroCells z.cells (n-k)).toList 0 w (fun v hv=>by
   simp only [Builtin.zeroCells,Array.toList_map,List.mem_map]at hv;obtain⟨t,ht,rfl⟩:=hv;have:t%z.cells.size<z.cells.size:=Nat.mod_lt _ (by omega);rw [getElem!_pos z.cells _ this];exact Er _ (by simp)) (fun j hj=>by
   rw [Nat.zero_add,a7];refine Row.wr row ?_;rw [cV];omega)
  refine⟨_,?_,row.cut hk _ Q2 rfl,eU _ _ _ _⟩;simp only [Builtin.clear_,hm];rw [hm]at pI;simp [run_underlying ly.lf,zeroValue,typeInfo,hi,hz,pI]
 ·have:n=k:=by omega
  subst this;refine⟨w,?_,by rw [List.take_of_length_le (by omega)];exact row,Kept.refl _ _⟩;rw [Nat.sub_self];cases A<;>simp [Builtin.clear_,run_underlying ly.lf]
end Go.Proofs.YtnboahlopghcjaaGreatDoor
namespace Go.Proofs.YtnboahlopghcjaaGreatDoor
open Go.Proofs.Tryz
open Go Go.bp Go.RowKit
theorem yN: ∀ {l:List HT},l.length<2->cX l=l
 | [],_=>rfl
 | [_],_=>rfl
 |_::_::_,h=>by simp only [List.length_cons]at h;omega
section
variable{w:World}{B n c:Nat}{A:Option Addr}{l:List HT}{K:Value->World->Prop}
theorem xj(row:bQ w B A n c l)(hle:LE l)(hn:n<=400000)
 (hK: ∀A' c' w',bQ w' B A' (cX l).length c' (cX l)->(∀k,aX A'=some k->aX A=some k)->Kept (fun k=>aX A=some k) w w'->K (.slice A' (cX l).length c') w'):
 aY prog af.id #[.slice A n c] w K:=by
 have hlen:=row.len;refine af.of ?_;refine Split.dec (fun h2=>?_) (fun h2=>?_)
 ·have e:cX l=l:=yN (by omega)
  have:=hK A c w (by rw [e,hlen];exact row) (fun k h=>h) (Kept.refl _ _);rw [e,hlen]at this;exact this
 obtain⟨b,rfl⟩:=Row.some row (by omega);have SY:=row.cap;refine af.bU (I:=fun s w'=> ∃k:Nat,s=(none,0,0,(k:Int))/\1<=k/\k<=n/\SS (l.take k)/\Kept Nil w w') (μ:=fun s _=>((n:Int)-s.2.2.2).toNat) (s:=(none,0,0,1))
  ⟨1,rfl,Nat.le_refl _,by omega,?_,Kept.refl _ _⟩ ?_
 ·cases l with
  |nil=>exact List.Pairwise.nil
  |cons x l=>simp [SS]
 rintro s w' ⟨k,rfl,Ew,r6,tC,kw⟩;refine Split.dec (fun jE=>?_) (fun iy=>?_)
 ·simp only at jE
  have Al:k<n:=by omega
  obtain⟨x,hx⟩: ∃x,l[k]? =some x:=⟨_,List.getElem?_eq_getElem (by omega)⟩;obtain⟨y,hy⟩: ∃y,l[k-1]? =some y:=⟨_,List.getElem?_eq_getElem (by omega)⟩;intro w5;have k5:Kept Nil w w5:=kw.drew;clear_value w5;have rR:bQ w5 B (some ⟨b,0,none⟩) n c l:=Row.aG row k5 (fun _ _ h=>h);simp only;rw [wrapM (n:=(k:Int)) (by omega) (by omega)];have mE:ck x y=false:=hle.get (by omega) hy hx;refine rR.hs.load (i:=(k:Int)) (by omega) hx (rR.hs.load (i:=(k:Int)-1) (by omega) (by rw [show((k:Int)-1).toNat=k-1 by omega];exact hy) ⟨⟨x.2.ints,y.2.ints⟩,?_⟩);rw [eJ];refine Split.dec (fun he=>?_) (fun he=>?_)
  ·refine⟨⟨by omega,by omega⟩,?_⟩
   rw [Int.toNat_natCast];rw [if_neg (show ¬c=k by omega)];simp only [Option.map_some,a7,Nat.zero_add];refine af.gz (I:=fun s w'=> ∃(p j:Nat) (l':List HT),s=((p:Int),(j:Int))/\1<=j/\k<=p/\p<k+j/\k+j<=n/\bQ w' B (some ⟨b,0,none⟩) n c l'/\l'.drop (k+j-1)=l.drop (k+j-1)/\SS (l'.take p)/\(∀z,z∈l'.take p↔z∈l.take (k+j))/\Kept (· =b) w w')
    (μ:=fun s _=>((n:Int)-s.2).toNat) (s:=((k:Int),1)) ⟨k,1,l,rfl,Nat.le_refl _,Nat.le_refl _,by omega,by omega,rR,rfl,tC,fun z=>?_,k5.mono fun _ _ h=>h.elim⟩ ?_
   ·rw [bt hx]
    constructor
    ·exact .inl
    ·rintro(h|rfl)
     ·exact h
     ·rw [he]
      have:=bt (z:=y) hy;rw [show k-1+1=k by omega]at this;exact this.2 (.inr rfl)
   rintro s w1 ⟨p,j,l',rfl,hj1,MK,V4,hjn,y5,Nh,Ai,F6,k1⟩;have MH:=y5.len;refine Split.dec (fun Sh=>?_) (fun Sn=>?_)
   ·simp only at Sh
    have rH:k+j<n:=by omega
    obtain⟨u,hu⟩: ∃u,l[k+j]? =some u:=⟨_,List.getElem?_eq_getElem (by omega)⟩;obtain⟨v,hv⟩: ∃v,l[k+j-1]? =some v:=⟨_,List.getElem?_eq_getElem (by omega)⟩;have Eg:l'[k+j]? =some u:=by
     have h:=congrArg (fun m:List HT=>m[1]?) Nh;simp only [List.getElem?_drop]at h;rw [show k+j-1+1=k+j by omega]at h;rw [h,hu]
    have Q5:l'[k+j-1]? =some v:=by
     have h:=congrArg (fun m:List HT=>m[0]?) Nh;simp only [List.getElem?_drop,Nat.add_zero]at h;rw [h,hv]
    intro rM;have Af:Kept (· =b) w rM:=k1.drew;have jL:bQ rM B (some ⟨b,0,none⟩) n c l':=Row.aG y5 ((Kept.refl Nil w1).drew) (fun _ _ h=>h);clear_value rM;have qO:HS rM (some ⟨b,k*32,none⟩) (n-k) (l'.drop k):=by
     have h:=jL.hs.drop (c:=c) SY (k:=k) (by omega);rw [if_neg (show ¬c=k by omega)]at h;simpa [a7]using h
    have VR:(l'.drop k)[(j:Int).toNat]? =some u:=by rw [Int.toNat_natCast,List.getElem?_drop];exact Eg
    have Rb:(l'.drop k)[((j:Int)-1).toNat]? =some v:=by
     rw [show((j:Int)-1).toNat=j-1 by omega,List.getElem?_drop,show k+(j-1)=k+j-1 by omega];exact Q5
    simp-zeta only;rw [wrapM (n:=(j:Int)) (by omega) (by omega)];have YT:ck u v=false:=hle.get (by omega) hv hu;refine qO.load (i:=(j:Int)) (by omega) VR (qO.load (i:=(j:Int)-1) (by omega) Rb ⟨⟨u.2.ints,v.2.ints⟩,?_⟩);rw [eJ,e8 (n:=(j:Int)) (by omega) (by omega)];have Wc: ∀z,z∈l.take (k+(j+1))↔z∈l'.take p\/z=u:=fun z=>by
     rw [show k+(j+1)=k+j+1 by omega,bt hu,F6 z]
    by_cases heq:u=v
    ·refine Split.no (by rw [decide_eq_true heq];rfl) ?_
     refine⟨((p:Int),(j:Int)+1),rfl,⟨p,j+1,l',rfl,by omega,MK,by omega,by omega,jL,?_,Ai,fun z=>?_,Af⟩,by simp only;omega⟩
     ·have h:=congrArg (fun m:List HT=>m.drop 1) Nh
      simp only [List.drop_drop]at h;rw [show k+(j+1)-1=k+j-1+1 by omega];exact h
     ·rw [Wc z]
      constructor
      ·exact .inl
      ·rintro(h|rfl)
       ·exact h
       ·refine(F6 _).2 ?_
        rw [heq];exact List.mem_of_getElem? (i:=k+j-1) (by rw [List.getElem?_take,if_pos (by omega)];exact hv)
    ·refine Split.yes (by rw [decide_eq_false heq];rfl) ?_
     refine qO.load (i:=(j:Int)) (by omega) VR ⟨⟨by omega,by omega⟩,⟨u.2.1,u.2.one,fun i hi=>?_⟩,?_⟩
     ·rw [Int.toNat_natCast,a7,Nat.zero_add]
      exact jL.GH (by omega) i hi
     intro Ae;have LF:Ae=setCells rM ⟨b,p*32,none⟩ u.1.toList 0:=by
      show setCells rM ((⟨b,0,none⟩:Addr).add ((p:Int).toNat*32)) u.1.toList 0=_
      rw [Int.toNat_natCast,a7,Nat.zero_add]
     have KK:bQ Ae B (some ⟨b,0,none⟩) n c (l'.set p u):=by rw [LF];exact jL.setAt (by omega) u
     have Hn:Kept (· =b) w Ae:=by rw [LF];exact Af.trans (eU _ _ _ _) (fun _ _ h=>h)
     clear_value Ae;rw [e8 (n:=(p:Int)) (by omega) (by omega)];have wM:(l'.set p u).take (p+1)=l'.take p++ [u]:=by
      rw [List.take_add_one,List.take_set_of_le (Nat.le_refl p),List.getElem?_set_self (by omega)];rfl
     refine⟨((p:Int)+1,(j:Int)+1),rfl,⟨p+1,j+1,l'.set p u,rfl,by omega,by omega,by omega,by omega,KK,?_,?_,fun z=>?_,Hn⟩,by simp only;omega⟩
     ·have h:=congrArg (fun m:List HT=>m.drop 1) Nh
      simp only [List.drop_drop]at h;rw [List.drop_set,if_pos (by omega),show k+(j+1)-1=k+j-1+1 by omega];exact h
     ·rw [wM]
      refine yy Ai fun z hz=>?_;obtain⟨i,hi⟩:=List.mem_iff_getElem?.1 ((F6 z).1 hz);rw [List.getElem?_take]at hi;split at hi
      ·rename_i hik
       have VG:ck v u=true:=lt_of_le_ne YT (fun e=>heq e.symm);by_cases e:i=k+j-1
       ·subst e;rw [hv]at hi;cases hi;exact VG
       ·exact pf (hle.get (by omega) hi hv) VG
      ·cases hi
     ·rw [wM,Wc z]
      simp
   ·simp only at Sn
    have hj:k+j=n:=by omega
    rw [aP,af.jI];unfold af.iS;refine⟨⟨by omega,by omega⟩,?_⟩;rw [Int.toNat_natCast];obtain⟨w2,hr,tm,k2⟩:=qk y5 (k:=p) (by omega) 0 (A:=if c=p then some ⟨b,0,none⟩else(some ⟨b,0,none⟩:Option Addr).map (·.add (p*32))) (cx:=c-p) (fun hp=>by
     rw [if_neg (by omega)];simp [a7])
    refine⟨_,w2,hr,⟨by omega,by omega⟩,?_⟩;have e:l'.take p=cX l:=wh Ai fun z=>by rw [F6 z,hj,List.take_of_length_le (by omega)]
    have el:p=(cX l).length:=by
     have h:=tm.len;rw [e]at h;exact h.symm
    have e0:(if c=0 then(some ⟨b,0,none⟩:Option Addr)else(some ⟨b,0,none⟩:Option Addr).map (·.add (0*32)))=some ⟨b,0,none⟩:=by
     rw [if_neg (by omega)];simp [add_zero]
    rw [e0,Nat.sub_zero,Nat.sub_zero];rw [e,el]at tm;have:=hK (some ⟨b,0,none⟩) c w2 tm (fun k h=>h) ((k1.trans k2 (fun _ _ h=>h)).mono fun i _ h=>by rw [h];rfl);rw [<-el]at this;exact this
  ·rw [e8 (n:=(k:Int)) (by omega) (by omega)]
   refine⟨(none,0,0,(k:Int)+1),rfl,⟨k+1,rfl,by omega,by omega,?_,k5⟩,by simp only;omega⟩;rw [List.take_add_one,hx];refine yy tC fun z hz=>?_;have OZ:ck y x=true:=lt_of_le_ne mE (fun e=>he e.symm);obtain⟨i,hi⟩:=List.mem_iff_getElem?.1 hz;rw [List.getElem?_take]at hi;split at hi
   ·by_cases e:i=k-1
    ·subst e;rw [hy]at hi;cases hi;exact OZ
    ·exact pf (hle.get (by omega) hi hy) OZ
   ·cases hi
 ·simp only at iy
  have e:k=n:=by omega
  subst e;rw [aP,af.dD];rw [List.take_of_length_le (by omega)]at tC;have e:cX l=l:=AQ tC;have:=hK (some ⟨b,0,none⟩) c w' (by rw [e,hlen];exact Row.aG row kw (fun _ _ h=>h)) (fun k h=>h) (kw.mono fun _ _ h=>h.elim);rw [e,hlen]at this;exact this
theorem fD(hl:HS w A n l)(hn:n<=400000)
 (hK: ∀A' c' w',bQ w' w.heap.size A' (cX l).length c' (cX l)->Kept Nil w w'->K (.slice A' (cX l).length c') w'):
 aY prog fR.id #[.slice A n c] w K:=by
 have hlen:=hl.len;refine fR.of ?_;refine cg.of ?_;unfold cg.W;intro w2;have k2:Kept Nil w w2:=(Kept.refl _ _).alloc _;have oB:w2.heap[w.heap.size]? =some (.cells #[.slice A n c] aR (0,0)):=aN w _;clear_value w2;refine⟨_,rfl,?_⟩;refine b9.of ?_;refine xk (xs:=l) ax.at_ (by rfl) (uu (l:=l) ⟨w.heap.size,0,none⟩ (A:=A) (n:=n) (c:=c) (by omega)) (fun w' hk=>⟨(hl.same k2).same hk,by rw [az (hk.heap oB (fun h=>h))];rfl⟩) (by omega) ?_;intro A4 c4 w4 wq k4;refine⟨A4,_,c4,rfl,?_⟩;refine DC wq (by omega) fun l5 w5 hle jm rR k5=>⟨rfl,?_⟩;refine⟨A4,_,c4,rfl,?_⟩;refine xj rR hle (by omega) fun A6 c6 w6 KH oV k6=>⟨A6,_,c6,rfl,?_⟩;have e:cX l5=cX l:=xK jm;rw [e]at KH⊢;have Pq: ∀k,aX A4=some k->w.heap.size<=k:=fun k hk=>Nat.le_trans k2.size (Row.bC wq hk).1;refine hK A6 c6 w6 (Row.base KH fun k hk=>Pq k (oV k hk)) ?_;exact((k2.trans k4 (fun _ _ h=>h)).trans k5 (fun k hk h=>absurd (Pq k h) (by omega))).trans k6 (fun k hk h=>absurd (Pq k h) (by omega))
end
end Go.Proofs.YtnboahlopghcjaaGreatDoor
namespace Go.Proofs.YtnboahlopghcjaaGreatDoor
open Go.Proofs.Tryz
open Go Go.bp Go.RowKit
theorem iC{x:Nat}(h:x<18446744073709551616):IntKind.u64.wrap (x:Int)=(x:Int):=by
 simp only [IntKind.wrap,IntKind.bits,IntKind.signed];simp;omega
theorem U0{x y:Nat}(hx:x<18446744073709551616)(hy:y<18446744073709551616):
 IntKind.u64.wrap ((BitVec.ofInt 64 (x:Int)|||BitVec.ofInt 64 (y:Int)).toNat:Int)=((x|||y:Nat):Int):=by
 have h:(BitVec.ofInt 64 (x:Int)|||BitVec.ofInt 64 (y:Int)).toNat=x|||y:=by
  rw [BitVec.ofInt_natCast,BitVec.ofInt_natCast,BitVec.toNat_or,BitVec.toNat_ofNat,BitVec.toNat_ofNat,Nat.mod_eq_of_lt (by omega),Nat.mod_eq_of_lt (by omega)]
 rw [h];exact iC (Nat.or_lt_two_pow (n:=64) hx hy)
theorem Ug{x y:Nat}(hx:x<18446744073709551616)(hy:y<18446744073709551616):
 IntKind.u64.wrap ((BitVec.ofInt 64 (x:Int)&&& BitVec.ofInt 64 (y:Int)).toNat:Int)=((x&&& y:Nat):Int):=by
 have h:(BitVec.ofInt 64 (x:Int)&&& BitVec.ofInt 64 (y:Int)).toNat=x&&& y:=by
  rw [BitVec.ofInt_natCast,BitVec.ofInt_natCast,BitVec.toNat_and,BitVec.toNat_ofNat,BitVec.toNat_ofNat,Nat.mod_eq_of_lt (by omega),Nat.mod_eq_of_lt (by omega)]
 rw [h];exact iC (Nat.lt_of_le_of_lt Nat.and_le_left hx)
theorem Qe{i:Nat}(hi:i<64):IntKind.u64.wrap ((1:Int)*2 ^ (min i 64))=((2 ^ i:Nat):Int):=by
 rw [Nat.min_eq_left (by omega),Int.one_mul];have h:2 ^ i<18446744073709551616:=Nat.pow_lt_pow_right (by omega) (n:=64) hi;have:=iC h;rw [<-this];simp
def bit(ws:List Nat)(i:Nat):Bool:=(ws.getD (i/64) 0).testBit (i%64)
def okW(ws:List Nat):Prop:= ∀x∈ws,x<18446744073709551616
theorem tQ(i:Nat):bit [] i=false:=by simp [bit]
theorem vE(ws:List Nat)(i:Nat):bit (ws++ [0]) i=bit ws i:=by
 unfold bit
 congr 1
 simp only [List.getD_eq_getElem?_getD,List.getElem?_append];split
 ·rfl
 ·rename_i h
  rw [List.getElem?_eq_none (l:=ws) (by omega)];cases i/64-ws.length<;>simp
theorem yu{ws:List Nat}{q:Nat}(hq:q<ws.length)(v i:Nat):bit (ws.set q v) i=if i/64=q then v.testBit (i%64)else bit ws i:=by
 unfold bit;simp only [List.getD_eq_getElem?_getD,List.getElem?_set];by_cases h:i/64=q
 ·subst h;simp [hq]
 ·rw [if_neg (fun e=>h e.symm),if_neg h]
theorem xS{ws:List Nat}(h:okW ws){x:Nat}(hx:x<18446744073709551616):okW (ws++ [x]):=fun y hy=>by
 rw [List.mem_append,List.mem_singleton]at hy;rcases hy with hy|rfl
 ·exact h y hy
 ·exact hx
theorem xR{ws:List Nat}(h:okW ws){x:Nat}(hx:x<18446744073709551616)(q:Nat):okW (ws.set q x):=fun y hy=>by
 rcases List.mem_or_eq_of_mem_set hy with hy|rfl
 ·exact h y hy
 ·exact hx
def us(l:List Nat):List Value:=l.map fun x:Nat=>.int .u64 (x:Int)
theorem lr(l:List Nat):(us l).length=l.length:=by simp [us]
theorem lu{l:List Nat}{j x:Nat}(h:l[j]? =some x):(us l)[j]? =some (.int .u64 (x:Int)):=by simp [us,h]
theorem tj(l:List Nat)(q v:Nat):(us l).set q (.int .u64 (v:Int))=us (l.set q v):=by simp [us,List.map_set]
theorem GP(l m:List Nat):us (l++m)=us l++us m:=by simp [us]
structure US(w:World)(A:Option Addr)(n:Nat)(l:List Nat):Prop where
 len:l.length=n
 at_: ∀(i x:Nat),l[i]? =some x-> ∃a,A=some a/\a.block<w.heap.size/\w.cell? (a.add i)=some (.int .u64 (x:Int))
theorem US.aG{S:Nat->Prop}{w w':World}{A:Option Addr}{n:Nat}{l:List Nat}(h:US w A n l)(hk:Kept S w w')(hn: ∀a,A=some a-> ¬S a.block):US w' A n l:=⟨h.len,fun i x hi=>by
 obtain⟨a,h1,h2,h3⟩:=h.at_ i x hi;exact⟨a,h1,Nat.lt_of_lt_of_le h2 hk.size,hk.cell h3 (by rw [fV];exact hn a h1)⟩⟩
theorem US.load{w:World}{A:Option Addr}{n:Nat}{l:List Nat}(hl:US w A n l){i:Int}{x:Nat}(h0:0<=i)(hx:l[i.toNat]? =some x){k:Int->Prop}(hk:k x):
 (0<=i/\i<(n:Int))/\Is A fun a=> ∃t:Int,w.cell? (a.add (i.toNat*1))=some (.int .u64 t)/\k t:=by
 obtain⟨a,rfl,_,hc⟩:=hl.at_ _ x hx;have:=(List.getElem?_eq_some_iff.1 hx).1;have:=hl.len;exact⟨⟨h0,by omega⟩,x,by rw [Nat.mul_one];exact hc,hk⟩
theorem G0:yx prog iB fC 1 8:=⟨by kernel_rfl,by kernel_rfl⟩
abbrev ik(w:World)(B:Nat)(A:Option Addr)(n c:Nat)(l:List Nat):Prop:=Row w B fC 1 A n c (us l)
section
variable{w w':World}{B n c:Nat}{A:Option Addr}{l:List Nat}
theorem ik.len(h:ik w B A n c l):l.length=n:=by have:=Row.len h;rw [lr]at this;omega
theorem ik.us(h:ik w B A n c l):US w A n l:=⟨h.len,fun i x hi=>by
 have hlen:=h.len;have:=(List.getElem?_eq_some_iff.1 hi).1;obtain⟨b,rfl⟩:=Row.some h (by omega);obtain⟨_,cur,tG⟩:=Row.bC h (k:=b) rfl;exact⟨_,rfl,aQ tG,by rw [a7,Nat.zero_add];exact Row.cell h (lu hi)⟩⟩
theorem AO(i:Nat):((i:Int).tdiv 64)=((i/64:Nat):Int):=by
 rw [Int.tdiv_eq_ediv_of_nonneg (by omega)];omega
theorem GX(i:Nat):((i:Int).tmod 64)=((i%64:Nat):Int):=by
 rw [Int.tmod_eq_emod_of_nonneg (by omega)];omega
theorem pC(h:ik w B A n c l)(hn:n<=1000000)(hB:B<=w.heap.size){t:Nat}(x:Nat):
 ∃A' c' w',(Builtin.append_ #[iB,iB] iB #[.slice A n c,.slice (some ⟨w.heap.size,0,none⟩) 1 1]).run prog (w.alloc (.cells #[.int .u64 (x:Int)] t))=.ok (.slice A' (n+1) c') w'/\
  ik w' B A' (n+1) c' (l++ [x])/\Kept (fun k=>aX A=some k) w w'/\(∀k,aX A'=some k->aX A=some k\/w.heap.size<=k):=by
 have k1:Kept Nil w (w.alloc (.cells #[.int .u64 (x:Int)] t)):=(Kept.refl _ _).alloc _;have hb:=aN w (.cells #[.int .u64 (x:Int)] t);have h1:ik (w.alloc (.cells #[.int .u64 (x:Int)] t)) B A n c l:=Row.aG h k1 (fun _ _ h=>h);obtain⟨A',c',w',hr,eV,hg,r7⟩:=fT (P:=prog) (t:=iB) (ty:=iB) (bytes:=8) G0 h1 (a:=⟨w.heap.size,0,none⟩) (m:=1) (cx:=1) (news:=us [x]) rfl
  (fun j u hj=>by rw [a7,Nat.zero_add,az hb];simpa [us]using hj) (fun u hu=>by simp [us]at hu;subst hu;rfl) (by omega) (by unfold maxLen;omega) (by have:=k1.size;omega)
 refine⟨A',c',w',hr,?_,?_,fun k hk=>?_⟩
 ·show Row w' B fC 1 A' (n+1) c' (Proofs.YtnboahlopghcjaaGreatDoor.us (l++ [x]))
  rw [GP];exact eV
 ·exact(k1.mono (S':=fun k=>aX A=some k) (fun _ _ h=>h.elim)).trans (Kept.grown (S:=fun k=>aX A=some k) (Kept.refl _ _) hg (fun k hk _=>hk)) (fun _ _ h=>h)
 ·rcases r7 k hk with h|h
  ·exact .inl h
  ·have:=k1.size;exact .inr (by omega)
theorem uA{b:Nat}(h:ik w B (some ⟨b,0,none⟩) n c l){q:Nat}(hq:q<n)(x:Nat):
 ik (w.setCell ⟨b,q,none⟩ (.int .u64 (x:Int))) B (some ⟨b,0,none⟩) n c (l.set q x):=by
 have:=Row.set h (j:=q) (by rw [lr,h.len];exact hq) (.int .u64 (x:Int));rw [tj]at this;exact this
theorem uD{K:Value->World->Prop}(h:ik w B A n c l)(ho:okW l)(hn:n<=100000)(hB:B<=w.heap.size){i:Nat}(hi:i<=1000000)
 (hK: ∀A' n' c' l' w',ik w' B A' n' c' l'->okW l'->(n'<=n\/n'<=i/64+1)->(∀j,bit l' j=(bit l j||decide (j=i)))->Kept (fun k=>aX A=some k) w w'->(∀k,aX A'=some k->aX A=some k\/w.heap.size<=k)->K (.slice A' n' c') w'):
 aY prog bf.id #[.slice A n c,.int .i64 (i:Int)] w K:=by
 refine bf.of ?_;refine bf.bU (I:=fun s w'=> ∃A' n' c' l',s=(A',n',c')/\ik w' B A' n' c' l'/\okW l'/\(n'<=n\/n'<=i/64+1)/\(∀j,bit l' j=bit l j)/\Kept (fun k=>aX A=some k) w w'/\(∀k,aX A'=some k->aX A=some k\/w.heap.size<=k))
  (μ:=fun s _=>i/64+1-s.2.1) (s:=(A,n,c)) ⟨A,n,c,l,rfl,h,ho,.inl (Nat.le_refl _),fun _=>rfl,Kept.refl _ _,fun k hk=>.inl hk⟩ ?_
 rintro s w' ⟨A',n',c',l',rfl,row,Dg,RW,mI,kw,hb⟩;unfold bf.B1;rw [AO,gu (by omega) (by omega)];refine⟨by omega,?_⟩;refine Split.dec (fun hle=>?_) (fun vk=>?_)
 ·simp only at hle
  have ZN:n'<=i/64:=by omega
  obtain⟨A2,c2,w2,hr,tm,k2,oB⟩:=pC row (by omega) (Nat.le_trans hB kw.size) (t:=fC) 0;intro w6;refine⟨A2,n'+1,c2,w2,hr,?_⟩;refine⟨(A2,n'+1,c2),rfl,⟨A2,n'+1,c2,l'++ [0],rfl,tm,xS Dg (by omega),by omega,fun j=>by rw [vE,mI],?_,fun k hk=>?_⟩,by simp only;omega⟩
  ·exact kw.trans k2 (fun k hk e=>by
    rcases hb k e with h|h
    ·exact h
    ·omega)
  ·rcases oB k hk with h|h
   ·exact hb k h
   ·exact .inr (Nat.le_trans kw.size h)
 ·simp only at vk
  have eI:i/64<n':=by omega
  rw [aP,bf.dD];unfold bf.cW;intro mJ;have zr:Kept Nil w' mJ:=(Kept.refl _ _).drew;have Nh:mJ=w'.drew:=rfl;clear_value mJ;have qm:ik mJ B A' n' c' l':=Row.aG row zr (fun _ _ h=>h);have hlen:=row.len;rw [AO,GX,gu (by omega) (by omega)];obtain⟨b,rfl⟩:=Row.some qm (by omega);obtain⟨x,hx⟩: ∃x,l'[i/64]? =some x:=⟨_,List.getElem?_eq_getElem (by omega)⟩;refine⟨by omega,qm.us.load (by omega) (by rw [Int.toNat_natCast];exact hx) ⟨by omega,by omega,⟨⟨by omega,by simp only;omega⟩,?_⟩⟩⟩;have r4:=Dg x (List.mem_of_getElem? hx);have hp:2 ^ (i%64)<18446744073709551616:=Nat.pow_lt_pow_right (by omega) (n:=64) (Nat.mod_lt _ (by omega));simp only [Is,Int.toNat_natCast,Nat.mul_one,a7,Nat.zero_add];rw [Qe (Nat.mod_lt _ (by omega)),U0 r4 hp];refine⟨Row.wr qm (by rw [lr,hlen];exact eI),?_⟩;have mD:Kept (fun k=>aX A=some k) w (mJ.setCell ⟨b,i/64,none⟩ (.int .u64 ((x|||2 ^ (i%64):Nat):Int))):=
   Kept.setCell (kw.trans zr (fun _ _ h=>h.elim)) (p:=⟨b,i/64,none⟩) (fun ck=>by
    rcases hb b rfl with h|h
    ·exact h
    ·exact absurd ck (by simp only;omega)) _
  refine hK _ _ _ _ _ (uA qm eI _) (xR Dg (Nat.or_lt_two_pow (n:=64) r4 hp) _) RW (fun j=>?_) mD hb;rw [yu (by omega),mI];have WJ:bit l' i=x.testBit (i%64):=by unfold bit;rw [List.getD_eq_getElem?_getD,hx];rfl
  by_cases e:j/64=i/64
  ·rw [if_pos e,Nat.testBit_or,Nat.testBit_two_pow]
   have hbj:bit l' j=x.testBit (j%64):=by unfold bit;rw [e,List.getD_eq_getElem?_getD,hx];rfl
   rw [<-hbj,mI]
   congr 1
   exact decide_eq_decide.2 ⟨fun h=>by omega,fun h=>by rw [h]⟩
  ·rw [if_neg e,decide_eq_false (fun h=>e (by rw [h]))]
   simp
end
end Go.Proofs.YtnboahlopghcjaaGreatDoor
namespace Go.Proofs.YtnboahlopghcjaaGreatDoor
open Go.Proofs.Tryz
open Go Go.bp Go.RowKit
section
variable{w w':World}{B n c:Nat}{A:Option Addr}{l:List Nat}
theorem sA{K:Value->World->Prop}(h:ik w B A n c l)(ho:okW l)(hn:n<=100000)(hB:B<=w.heap.size){A2:Option Addr}{n2 c2:Nat}{v:List Nat}(hv:US w A2 n2 v)(Q5:okW v)(RV:n2<=100000)
 (Tp: ∀a,A2=some a-> ∀k,aX A=some k->a.block≠k)
 (hK: ∀A' n' c' l' w',ik w' B A' n' c' l'->okW l'->(n'<=n\/n'<=n2)->(∀j,bit l' j=(bit l j||bit v j))->Kept (fun k=>aX A=some k) w w'->(∀k,aX A'=some k->aX A=some k\/w.heap.size<=k)->K (.slice A' n' c') w'):
 aY prog bw.id #[.slice A n c,.slice A2 n2 c2] w K:=by
 have VH:=hv.len;refine bw.of ?_;refine bw.bU (I:=fun s w'=> ∃(i:Nat) (A':Option Addr) (n' c':Nat) (l':List Nat),s=(A',n',c',(i:Int))/\i<=n2/\ik w' B A' n' c' l'/\okW l'/\i<=n'/\n<=n'/\(n'<=n\/n'<=i)/\(∀j,bit l' j=(bit l j||(decide (j/64<i)&&bit v j)))/\Kept (fun k=>aX A=some k) w w'/\(∀k,aX A'=some k->aX A=some k\/w.heap.size<=k))
  (μ:=fun s _=>((n2:Int)-s.2.2.2).toNat) (s:=(A,n,c,0)) ⟨0,A,n,c,l,rfl,Nat.zero_le _,h,ho,Nat.zero_le _,Nat.le_refl _,.inl (Nat.le_refl _),by simp,Kept.refl _ _,fun k hk=>.inl hk⟩ ?_
 rintro s w' ⟨i,A',n',c',l',rfl,hi,row,Dg,fY,Mk,Pc,mI,kw,hb⟩;have MH:=row.len;refine Split.dec (fun jE=>?_) (fun iy=>?_)
 ·simp only at jE
  have eI:i<n2:=by omega
  obtain⟨x,hx⟩: ∃x,v[i]? =some x:=⟨_,List.getElem?_eq_getElem (by omega)⟩;have r4:=Q5 x (List.mem_of_getElem? hx);have YN:US w' A2 n2 v:=hv.aG kw (fun a ha e=>Tp a ha _ e rfl);refine YN.load (i:=(i:Int)) (by omega) hx ?_;have step: ∀(A2:Option Addr) (n3 c3:Nat) (l3:List Nat) (w3:World),ik w3 B A2 n3 c3 l3->okW l3->i<n3->n<=n3->(n3<=n\/n3<=i+1)->(∀j,bit l3 j=(bit l j||(decide (j/64<i)&&bit v j)))->Kept (fun k=>aX A=some k) w w3->(∀k,aX A2=some k->aX A=some k\/w.heap.size<=k)->
   (0<=(i:Int)/\(i:Int)<(n3:Int))/\Is A2 fun a=> ∃t:Int,w3.cell? (a.add ((i:Int).toNat*1))=some (.int .u64 t)/\(0<=(i:Int)/\(i:Int)<(n3:Int))/\Is A2 fun a'=>Wr w3 (a'.add ((i:Int).toNat*1))/\
     ∃(l4:List Nat),
     ik (w3.setCell (a'.add ((i:Int).toNat*1)) (.int .u64 (IntKind.u64.wrap ((BitVec.ofInt 64 t|||BitVec.ofInt 64 (x:Int)).toNat)))) B A2 n3 c3 l4/\okW l4/\(∀j,bit l4 j=(bit l j||(decide (j/64<i+1)&&bit v j)))/\Kept (fun k=>aX A=some k) w (w3.setCell (a'.add ((i:Int).toNat*1)) (.int .u64 (IntKind.u64.wrap ((BitVec.ofInt 64 t|||BitVec.ofInt 64 (x:Int)).toNat)))):=by
   intro A2 n3 c3 l3 w3 ql V6 Si hn3 ZE Gj k3 nD;have Wl:=ql.len;obtain⟨b,rfl⟩:=Row.some ql (by omega);obtain⟨y,hy⟩: ∃y,l3[i]? =some y:=⟨_,List.getElem?_eq_getElem (by omega)⟩;have Vy:=V6 y (List.mem_of_getElem? hy);refine ql.us.load (i:=(i:Int)) (by omega) hy ⟨⟨by omega,by omega⟩,?_⟩;simp only [Is,Int.toNat_natCast,Nat.mul_one,a7,Nat.zero_add];rw [U0 Vy r4];refine⟨Row.wr ql (by rw [lr];omega),l3.set i (y|||x),uA ql Si _,xR V6 (Nat.or_lt_two_pow (n:=64) Vy r4) _,fun j=>?_,?_⟩
   ·rw [yu (by omega),Gj]
    have IF:j/64=i->bit v j=x.testBit (j%64):=fun e=>by unfold bit;rw [e,List.getD_eq_getElem?_getD,hx];rfl
    have Dj:j/64=i->bit l3 j=y.testBit (j%64):=fun e=>by unfold bit;rw [e,List.getD_eq_getElem?_getD,hy];rfl
    by_cases e:j/64=i
    ·rw [if_pos e,Nat.testBit_or,<-Dj e,<-IF e,Gj]
     rw [decide_eq_false (show ¬j/64<i by omega),decide_eq_true (show j/64<i+1 by omega)];simp
    ·rw [if_neg e]
     congr 2
     exact decide_eq_decide.2 (by omega)
   ·refine Kept.setCell k3 (p:=⟨b,i,none⟩) (fun ck=>?_) _
    rcases nD b rfl with h|h
    ·exact h
    ·exact absurd ck (by simp only;omega)
  by_cases he:i=n'
  ·refine Split.yes (by simp [he]) ?_
   obtain⟨UE,Ke,w2,hr,tm,k2,oB⟩:=pC row (by omega) (Nat.le_trans hB kw.size) (t:=fC) 0;intro w10;refine⟨UE,n'+1,Ke,w2,hr,?_⟩;have st:=step UE (n'+1) Ke (l'++ [0]) w2 tm (xS Dg (by omega)) (by omega) (by omega) (by omega) (fun j=>by rw [vE,mI])
    (kw.trans k2 (fun k hk e=>by
      rcases hb k e with h|h
      ·exact h
      ·omega)) (fun k hk=>by
      rcases oB k hk with h|h
      ·exact hb k h
      ·exact .inr (Nat.le_trans kw.size h))
   clear step;obtain⟨s1,s2⟩:=st;refine⟨s1,?_⟩;cases UE with
   |none=>exact s2.elim
   |some a=>
    obtain⟨t,s3,s4,s5,l4,s6,s7,s8,s9⟩:=s2;refine⟨t,s3,s4,s5,?_⟩;intro gD;simp only;rw [e8 (n:=(i:Int)) (by omega) (by omega)];exact⟨(some a,n'+1,Ke,(i:Int)+1),rfl,⟨i+1,some a,n'+1,Ke,l4,rfl,eI,s6,s7,by omega,by omega,by omega,s8,s9,fun k hk=>by
     rcases oB k hk with h|h
     ·exact hb k h
     ·exact .inr (Nat.le_trans kw.size h)⟩,by simp only;omega⟩
  ·refine Split.no (beq_eq_false_iff_ne.2 (by simp only;omega)) ?_
   have st:=step A' n' c' l' w' row Dg (by omega) Mk (by omega) mI kw hb;clear step;obtain⟨s1,s2⟩:=st;refine⟨s1,?_⟩;cases A' with
   |none=>exact s2.elim
   |some a=>
    obtain⟨t,s3,s4,s5,l4,s6,s7,s8,s9⟩:=s2;refine⟨t,s3,s4,s5,?_⟩;intro gD;simp only;rw [e8 (n:=(i:Int)) (by omega) (by omega)];exact⟨(some a,n',c',(i:Int)+1),rfl,⟨i+1,some a,n',c',l4,rfl,eI,s6,s7,by omega,Mk,by omega,s8,s9,hb⟩,by simp only;omega⟩
 ·simp only at iy
  have:i=n2:=by omega
  subst this;rw [aP,bw.dD];refine hK A' n' c' l' w' row Dg (by omega) (fun j=>?_) kw hb;rw [mI]
  congr 1
  by_cases e:j/64<i
  ·rw [decide_eq_true e];simp
  ·rw [decide_eq_false e]
   unfold bit;rw [List.getD_eq_getElem?_getD,List.getElem?_eq_none (by omega)];simp
end
end Go.Proofs.YtnboahlopghcjaaGreatDoor
namespace Go.Proofs.YtnboahlopghcjaaGreatDoor
open Go.Proofs.Tryz
open Go Go.bp Go.RowKit
theorem vI: ∀k m:Nat,(2 ^ k*(2*m+1))&&& (2 ^ k*(2*m+1)-1)=2 ^ (k+1)*m
 |0,m=>by
  apply Nat.eq_of_testBit_eq;intro i;rw [Nat.testBit_and];cases i with
  |zero=>simp [Nat.testBit_zero]
  |succ i=>
   simp only [Nat.testBit_succ];rw [show(2 ^ 0*(2*m+1))/2=m by omega,show(2 ^ 0*(2*m+1)-1)/2=m by omega,show 2 ^ (0+1)*m/2=m by omega];simp
 |k+1,m=>by
  have ih:=vI k m;have hp:0<2 ^ k*(2*m+1):=Nat.mul_pos (Nat.pow_pos (by omega)) (by omega);rw [show 2 ^ (k+1)*(2*m+1)=2*(2 ^ k*(2*m+1))by rw [Nat.pow_succ];ac_rfl,show 2 ^ (k+1+1)*m=2*(2 ^ (k+1)*m)by rw [Nat.pow_succ 2 (k+1)];ac_rfl];generalize 2 ^ k*(2*m+1)=x at ih hp⊢;rw [<-ih];apply Nat.eq_of_testBit_eq;intro i;rw [Nat.testBit_and];cases i with
  |zero=>simp [Nat.testBit_zero]
  |succ i=>
   simp only [Nat.testBit_succ];rw [show 2*x/2=x by omega,show(2*x-1)/2=x-1 by omega,show 2*(x&&& (x-1))/2=x&&& (x-1)by omega,Nat.testBit_and]
theorem xU{x:Nat}(h0:x≠0)(hx:x<18446744073709551616):Lib.ctz 64 x<64/\x.testBit (Lib.ctz 64 x)=true/\ ∀t,(x&&& (x-1)).testBit t=(x.testBit t&&decide (t≠Lib.ctz 64 x)):=by
 obtain⟨m,h1,h2⟩:=Lib.ctzFrom_spec 64 x (by omega) hx;have e:Lib.ctz 64 x=Lib.ctzFrom 64 x:=by unfold Lib.ctz;rw [if_neg h0]
 rw [e];generalize Lib.ctzFrom 64 x=k at h1 h2⊢;have hand:x&&& (x-1)=2 ^ (k+1)*m:=by rw [h1];exact vI k m
 have hb: ∀t,x.testBit t=(decide (t>=k)&&(2*m+1).testBit (t-k)):=fun t=>by rw [h1,Nat.testBit_two_pow_mul]
 refine⟨h2,by rw [hb];simp,fun t=>?_⟩;rw [hand,Nat.testBit_two_pow_mul,hb];by_cases ht:t=k
 ·subst ht
  simp;intro h;omega
 ·rw [decide_eq_true ht,Bool.and_true]
  by_cases hk:t>=k
  ·obtain⟨d,hd⟩: ∃d,t-k=d+1:=⟨t-k-1,by omega⟩
   rw [decide_eq_true hk,decide_eq_true (show t>=k+1 by omega),hd,show t-(k+1)=d by omega,Nat.testBit_succ,show(2*m+1)/2=m by omega]
  ·rw [decide_eq_false hk,decide_eq_false (show ¬t>=k+1 by omega)]
   simp
theorem tU{x:Nat}(h0:x≠0):x&&& (x-1)<x:=Nat.lt_of_le_of_lt Nat.and_le_right (by omega)
def qG(x:Nat):List Nat:=if h:x=0 then []else Lib.ctz 64 x::qG (x&&& (x-1))
termination_by x
decreasing_by exact tU h
theorem sI:qG 0= []:=by rw [qG];simp
theorem sK{x:Nat}(h0:x≠0):qG x=Lib.ctz 64 x::qG (x&&& (x-1)):=by rw [qG,dif_neg h0]
theorem sJ: ∀(x:Nat),x<18446744073709551616->(∀t,t∈qG x↔x.testBit t=true)/\(qG x).Nodup/\ ∀t∈qG x,t<64:=by
 intro x
 induction x using Nat.strongRecOn with
 |_ x ih=>
  intro hx;by_cases h0:x=0
  ·subst h0;rw [sI];simp
  ·obtain⟨h1,h2,h3⟩:=xU h0 hx
   obtain⟨i1,i2,i3⟩:=ih _ (tU h0) (Nat.lt_trans (tU h0) hx);rw [sK h0];refine⟨fun t=>?_,?_,fun t ht=>?_⟩
   ·rw [List.mem_cons,i1,h3]
    by_cases e:t=Lib.ctz 64 x
    ·rw [e,h2];simp
    ·simp [e]
   ·rw [List.nodup_cons,i1,h3]
    exact⟨by simp,i2⟩
   ·rcases List.mem_cons.1 ht with rfl|ht
    ·exact h1
    ·exact i3 t ht
def lJ:Nat->List Nat->List Nat
 |_,[]=> []
 |k,x::ws=>(qG x).map (64*k+ ·)++lJ (k+1) ws
theorem CU(x:Nat)(ws:List Nat)(j:Nat):bit (x::ws) j=if j<64 then x.testBit j else bit ws (j-64):=by
 unfold bit;split
 ·rename_i h
  rw [show j/64=0 by omega,show j%64=j by omega];rfl
 ·rename_i h
  rw [show j/64=(j-64)/64+1 by omega,show j%64=(j-64)%64 by omega];rfl
theorem lM: ∀(ws:List Nat) (k j:Nat),okW ws->(j∈lJ k ws↔64*k<=j/\bit ws (j-64*k)=true)
 | [],k,j,_=>by simp [lJ,bit]
 |x::ws,k,j,ho=>by
  obtain⟨h1,_,h3⟩:=sJ x (ho x (by simp));have ih:=lM ws (k+1) j (fun y hy=>ho y (by simp [hy]));rw [lJ,List.mem_append,ih,CU,List.mem_map];constructor
  ·rintro(⟨t,ht,rfl⟩|⟨h,hb⟩)
   ·have:=h3 t ht
    refine⟨by omega,?_⟩;rw [if_pos (by omega),show 64*k+t-64*k=t by omega];exact(h1 t).1 ht
   ·refine⟨by omega,?_⟩
    rw [if_neg (by omega),show j-64*k-64=j-64*(k+1)by omega];exact hb
  ·rintro⟨h,hb⟩
   split at hb
   ·exact .inl ⟨j-64*k,(h1 _).2 hb,by omega⟩
   ·refine .inr ⟨by omega,?_⟩
    rw [show j-64*(k+1)=j-64*k-64 by omega];exact hb
theorem qy: ∀ {l m:List Nat},l.Nodup->(∀x∈l,x∈m)->l.length<=m.length
 | [],_,_,_=>Nat.zero_le _
 |x::l,m,hn,h=>by
  rw [List.nodup_cons]at hn;have hx:=h x (by simp);have:=qy (l:=l) (m:=m.erase x) hn.2 (fun y hy=>by
   have fc:y≠x:=fun e=>hn.1 (e▸hy);exact(List.mem_erase_of_ne fc).2 (h y (by simp [hy])))
  rw [List.length_erase_of_mem hx]at this;have ja:0<m.length:=List.length_pos_of_mem hx;simp only [List.length_cons];omega
def p6(w:World):Prop:=TabAt (Tryz.gV.g 1) Lib.deBruijn64tab w
theorem p6.aG{S:Nat->Prop}{w w':World}(h:p6 w)(hk:Kept S w w')(hn: ¬S (Tryz.gV.g 1)):p6 w':=fun j hj=>hk.cell (h j hj) hn
theorem p6.same{w w':World}(h:p6 w)(hk:Kept Nil w w'):p6 w':=h.aG hk fun h=>h
theorem p6.lt{w:World}(h:p6 w):Tryz.gV.g 1<w.heap.size:=World.block_lt_of_cell? w _ (h 0 (by decide))
section
variable{w:World}{K:Value->World->Prop}
theorem Kx{x:Nat}(hx:x<18446744073709551616)(hT:p6 w)(hK:K (.int .i64 (Lib.ctz 64 x:Nat)) w):aY prog bits_TrailingZeros64.id #[.int .u64 (x:Int)] w K:=by
 refine Calls.mono (Any7.bits_TrailingZeros64 Tryz.XB x hx w (fun _=>hT)) ?_;rintro e w' ⟨rfl,rfl⟩;exact⟨_,rfl,hK⟩
abbrev encI(i:Nat):List Value:= [.int .i64 (i:Int)]
theorem CX(p:Addr){A:Option Addr}{n c:Nat}{l:List Nat}(hn:n<=100000)(ho:okW l):
 jY prog ay.id #[] #[.pointer (some p)] ((lJ 0 l).map encI) (fun w=>US w A n l/\w.cell? p=some (.slice A n c)/\p6 w):=by
 intro y I D w0 hI hD oc h0 nu;refine ay.of ?_;obtain⟨yg,JN,_⟩:=oc 0 w0 h0;have hlen:=yg.len;refine⟨A,n,c,JN,?_⟩;refine ay.bU (I:=fun s w'=> ∃(i:Nat) (dn:List Nat),s=(i:Int)/\i<=n/\dn++lJ i (l.drop i)=lJ 0 l/\I dn.length w') (μ:=fun s _=>((n:Int)-s).toNat) (s:=0) ⟨0,[],rfl,Nat.zero_le _,rfl,h0⟩ ?_;rintro s w' ⟨i,dn,rfl,hi,Cn,hw⟩;refine Split.dec (fun jE=>?_) (fun iy=>?_)
 ·have eI:i<n:=by omega
  obtain⟨x,hx⟩: ∃x,l[i]? =some x:=⟨_,List.getElem?_eq_getElem (by omega)⟩;have r4:=ho x (List.mem_of_getElem? hx);have hl:=(oc _ w' hw).1;have Ng:l.drop i=x::l.drop (i+1):=by
   obtain⟨h1,h2⟩:=List.getElem?_eq_some_iff.1 hx;rw [List.drop_eq_getElem_cons h1,h2]
  rw [Ng,lJ]at Cn;refine hl.load (i:=(i:Int)) (by omega) hx ?_;refine ay.gz (I:=fun s w'=> ∃(v:Nat) (dn:List Nat),s=(v:Int)/\v<18446744073709551616/\dn++((qG v).map (64*i+ ·)++lJ (i+1) (l.drop (i+1)))=lJ 0 l/\I dn.length w') (μ:=fun s _=>s.toNat) (s:=(x:Int)) ⟨x,dn,rfl,r4,Cn,hw⟩ ?_;clear hw Cn;rintro s w1 ⟨v,PC,rfl,hv,Cm,Dd⟩;by_cases h0:v=0
  ·refine Split.no (by subst h0;rfl) ?_
   rw [aP,ay.jI];unfold ay.iS;rw [e8 (n:=(i:Int)) (by omega) (by omega)];rw [h0,sI,List.map_nil,List.nil_append]at Cm;exact⟨(i:Int)+1,rfl,⟨i+1,PC,rfl,eI,Cm,Dd⟩,by simp only;omega⟩
  ·refine Split.yes (bne_iff_ne.2 (by omega)) ?_
   have Zq:=oc _ w1 Dd;obtain⟨hk,F7,hkr⟩:=xU h0 hv;rw [sK h0,List.map_cons,List.cons_append]at Cm;refine Kx hv Zq.2.2 ⟨_,rfl,?_⟩;have ek:((lJ 0 l).map encI)[PC.length]? =some (encI (64*i+Lib.ctz 64 v)):=by
    rw [List.getElem?_map,<-Cm,List.getElem?_append_right (Nat.le_refl _),Nat.sub_self];rfl
   have HP:IntKind.i64.wrap (IntKind.i64.wrap ((64:Int)*(i:Int))+((Lib.ctz 64 v:Nat):Int))=((64*i+Lib.ctz 64 v:Nat):Int):=by
    rw [gu (x:=(64:Int)*(i:Int)) (by omega) (by omega),gu (by omega) (by omega)];omega
   rw [HP];refine(nu PC.length _ w1 ek Dd).mono ?_;rintro b jB ⟨ht,hf⟩;have lQ:IntKind.u64.wrap ((BitVec.ofInt 64 (v:Int)&&& BitVec.ofInt 64 (IntKind.u64.wrap ((v:Int)-(1:Int)))).toNat:Int)=((v&&& (v-1):Nat):Int):=by
    have e1:(v:Int)-1=((v-1:Nat):Int):=by omega
    rw [e1,iC (x:=v-1) (by omega),Ug hv (by omega)]
   cases b with
   |true=>
    refine Split.no rfl ?_;rw [lQ];have ck:=tU h0;refine⟨((v&&& (v-1):Nat):Int),rfl,⟨v&&& (v-1),PC++ [64*i+Lib.ctz 64 v],rfl,by omega,by rw [List.append_assoc];exact Cm,?_⟩,by simp only;omega⟩;rw [List.length_append];exact ht rfl
   |false=>
    refine Split.yes rfl ?_;exact Or.inr (hf rfl)
 ·rw [aP,ay.dD]
  have e:i=n:=by omega
  subst e;refine Or.inl ?_;rw [List.drop_eq_nil_of_le (by omega),lJ,List.append_nil]at Cn;rw [List.length_map,<-Cn];exact hw
end
end Go.Proofs.YtnboahlopghcjaaGreatDoor
namespace Go.Proofs.YtnboahlopghcjaaGreatDoor
open Go.Proofs.Tryz
open Go Go.bp Go.RowKit
def pos(h:HT):List HT->Nat->Option Nat
 | [],_=>none
 |x::l,i=>if h=x then some i else pos h l (i+1)
theorem qt{h:HT}: ∀ {l:List HT} {i:Nat},pos h l i=none↔h∉l
 | [],i=>by simp [pos]
 |x::l,i=>by
  unfold pos;split
  ·rename_i e;simp [e]
  ·rename_i e
   rw [qt (l:=l)];simp [e]
theorem uI{h:HT}: ∀ {l:List HT} {i j:Nat},pos h l i=some j->i<=j/\l[j-i]? =some h
 | [],i,j,e=>by simp [pos]at e
 |x::l,i,j,e=>by
  unfold pos at e;split at e
  ·rename_i hx
   cases e;subst hx;exact⟨Nat.le_refl _,by rw [Nat.sub_self];rfl⟩
  ·obtain⟨h1,h2⟩:=uI e
   refine⟨by omega,?_⟩;rw [show j-i=(j-(i+1))+1 by omega];exact h2
theorem ir{h:HT}: ∀ {l:List HT} (i j:Nat),l.Nodup->l[j]? =some h->pos h l i=some (i+j)
 | [],i,j,_,e=>by simp at e
 |x::l,i,0,_,e=>by
  simp only [List.getElem?_cons_zero,Option.some.injEq]at e;unfold pos;rw [if_pos e.symm];simp
 |x::l,i,j+1,hn,e=>by
  simp only [List.getElem?_cons_succ]at e;rw [List.nodup_cons]at hn;unfold pos;rw [if_neg (fun hx=>hn.1 (by rw [<-hx];exact List.mem_of_getElem? e)),ir (i+1) j hn.2 e]
  congr 1
  omega
section
variable{w:World}
theorem Dy:prog.underlying ao=some (.array 32 gq):=by kernel_rfl
theorem GQ:prog.underlying gq=some (.int .u8):=by kernel_rfl
theorem FB: ∃i,prog.info? gq=some i/\i.size=1:=by
 have h:(match prog.info? gq with|some i=>Nat.beq i.size 1|none=>false)=true:=by kernel_rfl
 split at h
 ·rename_i i hi;exact⟨i,hi,Nat.eq_of_beq_eq_true h⟩
 ·cases h
theorem GR:prog.underlying bE=some (.map ao gC):=by kernel_rfl
theorem qi(a b:HT)(w:World):(Op.equal ao (.agg a.1) (.agg b.1)).run prog w=.ok (decide (a=b)) w:=by
 obtain⟨i,hi,h1⟩:=FB;have:=lC (P:=prog) 9998 w Dy GQ hi h1 a.2.ints b.2.ints;rw [eJ]at this;simp only [Op.equal,Op.maxDepth];exact this
theorem fO(h:HT)(em:Bool)(w:World):(Instr.checkKey em 10000 ao (.agg h.1)).run prog w=.ok () w:=by
 obtain⟨i,hi,h1⟩:=FB;have hc:prog.cellsOf gq=1:=by simp [Program.cellsOf,hi,h1]
 rw [show(10000:Nat)=9999+1 from rfl,Instr.checkKey];simp only [Sem.run_bind,run_underlying Dy,Result.andThen_ok];simp only [Std.Legacy.Range.forIn_eq_forIn_range',Std.Legacy.Range.size,Nat.sub_zero,Nat.add_one_sub_one,Nat.div_one];have each: ∀j∈List.range' 0 32,∃v,h.1[j]? =some v/\ ∃x:Int,v=.int .u8 x:=fun j hj=>by
  have sU:j<h.1.size:=by rw [h.2.1];simpa using hj
  obtain⟨x,hx,_⟩:=h.2.2 h.1[j] (by simp);exact⟨_,Array.getElem?_eq_getElem sU,x,hx⟩
 generalize List.range' 0 32=is at each
 induction is with
 |nil=>simp
 |cons j is ih=>
  obtain⟨v,hv,x,rfl⟩:=each j (by simp);have EH:(isAgg gq).run prog w=.ok false w:=by simp [isAgg,run_underlying GQ]
  have p1:(part gq h.1 (j*1)).run prog w=.ok (.int .u8 x) w:=by simp [part,EH,hv]
  have p2:(Instr.checkKey em 9999 gq (.int .u8 x)).run prog w=.ok () w:=by
   rw [show(9999:Nat)=9998+1 from rfl,Instr.checkKey];simp [run_underlying GQ]
  simp only [List.forIn_cons,Sem.run_bind,Go.bp.run_sizeOf hi w,hc,Result.andThen_ok,p1,p2,Sem.run_pure];exact ih (fun y hy=>each y (by simp [hy]))
def vO(es:List MapEntry)(l:List HT)(i:Nat):Prop:=match es,l with
 | [],[]=>True
 |e::es,h::l=>(e.key=.agg h.1/\e.val=.int .i64 (i:Int))/\vO es l (i+1)
 |_,_=>False
theorem vO.snoc: ∀ {es:List MapEntry} {l:List HT} {i:Nat} {e:MapEntry} {h:HT},vO es l i->e.key=.agg h.1->e.val=.int .i64 ((i+l.length:Nat):Int)->vO (es++ [e]) (l++ [h]) i
 | [],[],i,e,h,_,h1,h2=>⟨⟨h1,by simpa using h2⟩,trivial⟩
 |x::es,y::l,i,e,h,he,h1,h2=>⟨he.1,vO.snoc he.2 h1 (by rw [h2];congr 2;simp;omega)⟩
 | [],_::_,_,_,_,he,_,_=>he.elim
 |_::_,[],_,_,_,he,_,_=>he.elim
theorem nM(h:HT)(w:World): ∀(es:List MapEntry) (l:List HT) (i:Nat),vO es l i->
 (Instr.findAsking ao (.agg h.1) es i).run prog w=.ok ((pos h l i).map fun j=>(j,.int .i64 (j:Int))) w
 | [],[],i,_=>by simp [Instr.findAsking,pos]
 |e::es,x::l,i,he=>by
  have hq:=qi h x w;have ih:=nM h w es l (i+1) he.2;simp only [Instr.findAsking,he.1.1,Sem.run_bind,hq,Result.andThen_ok];by_cases hx:h=x
  ·simp [hx,pos,he.1.2]
  ·simp [hx,pos,ih]
 | [],_::_,_,he=>he.elim
 |_::_,[],_,he=>he.elim
theorem kh(h:HT)(w:World){es:List MapEntry}{l:List HT}(he:vO es l 0):
 (Instr.findKey ao (.agg h.1) es).run prog w=.ok ((pos h l 0).map fun j=>(j,.int .i64 (j:Int))) w:=by
 have h1:=nM h w es l 0 he;simp only [Instr.findKey,Sem.run_bind,run_underlying Dy,Result.andThen_ok];cases es with
 |nil=>
  cases l with
  |nil=>simp [Instr.findNow,pos]
  |cons x l=>exact he.elim
 |cons e es=>
  have:Instr.findNow (.array 32 gq) (.agg h.1) (e::es) 0=none:=by
   simp only [Instr.findNow,Instr.sameNow]
  rw [this];exact h1
theorem lU{r:Nat}{es:Array MapEntry}{clock:Nat}(hb:w.heap[r]? =some (.map es clock)):(getObj r).run prog w=.ok (.map es clock) w:=by
 simp [getObj,Sem.run,hb]
theorem wk{r:Nat}{es:Array MapEntry}{clock:Nat}(o:Obj)(hb:w.heap[r]? =some (.map es clock)):(setObj r o).run prog w=.ok () {w with heap:=w.heap.setIfInBounds r o}:=by
 simp [setObj,Sem.run,hb]
structure IsMap(w:World)(m:Nat)(l:List HT):Prop where
 ex: ∃es clock,w.heap[m]? =some (.map es clock)/\vO es.toList l 0
theorem IsMap.aG{S:Nat->Prop}{w w':World}{m:Nat}{l:List HT}(h:IsMap w m l)(hk:Kept S w w')(hn: ¬S m):IsMap w' m l:=by
 obtain⟨es,clock,h1,h2⟩:=h.ex;exact⟨es,clock,hk.heap h1 hn,h2⟩
theorem IsMap.lt{w:World}{m:Nat}{l:List HT}(h:IsMap w m l):m<w.heap.size:=by
 obtain⟨es,clock,h1,_⟩:=h.ex;exact aQ h1
theorem IsMap.look{m:Nat}{l:List HT}(hm:IsMap w m l)(h:HT):
 (Instr.lookup bE (.map (some m)) (.agg h.1) true).run prog w=.ok (.tuple #[.int .i64 (((pos h l 0).getD 0:Nat):Int),.bool (pos h l 0).isSome]) w:=by
 obtain⟨es,clock,h1,h2⟩:=hm.ex;have h3:=kh h w h2;simp only [Instr.lookup,Sem.run_bind,run_underlying GR,lU h1,Result.andThen_ok,Sem.run_pure,fO,h3];cases hp:pos h l 0<;>simp
theorem IsMap.sM{m:Nat}{l:List HT}(hm:IsMap w m l)(h:HT):
 (Instr.lookup bE (.map (some m)) (.agg h.1) false).run prog w=.ok (.int .i64 (((pos h l 0).getD 0:Nat):Int)) w:=by
 obtain⟨es,clock,h1,h2⟩:=hm.ex;have h3:=kh h w h2;simp only [Instr.lookup,Sem.run_bind,run_underlying GR,lU h1,Result.andThen_ok,Sem.run_pure,fO,h3];cases hp:pos h l 0<;>simp
theorem IsMap.put{m:Nat}{l:List HT}(hm:IsMap w m l){h:HT}(hn:h∉l):
 ∃w',(Instr.mapUpdate bE (.map (some m)) (.agg h.1) (.int .i64 ((l.length:Nat):Int))).run prog w=.ok () w'/\IsMap w' m (l++ [h])/\Kept (· =m) w w':=by
 obtain⟨es,clock,h1,h2⟩:=hm.ex;have h3:=kh h w h2;rw [qt.2 hn]at h3;refine⟨{w with heap:=w.heap.setIfInBounds m (.map (es.push {key:=.agg h.1,val:=.int .i64 ((l.length:Nat):Int),born:=clock}) (clock+1))},?_,⟨es.push {key:=.agg h.1,val:=.int .i64 ((l.length:Nat):Int),born:=clock},clock+1,?_,?_⟩,?_⟩
 ·simp only [Instr.mapUpdate,Sem.run_bind,run_underlying GR,lU h1,Result.andThen_ok,fO,h3,Option.map_none,wk _ h1]
 ·simp [aQ h1]
 ·have:=h2.snoc (e:= {key:=.agg h.1,val:=.int .i64 ((l.length:Nat):Int),born:=clock}) (h:=h) rfl (by simp)
  simpa using this
 ·exact⟨rfl,rfl,rfl,by simp,fun k _ hk=>by simp [Ne.symm hk]⟩
end
end Go.Proofs.YtnboahlopghcjaaGreatDoor
namespace Go.Proofs.YtnboahlopghcjaaGreatDoor
open Go.Proofs.Tryz
open Go Go.bp
structure DN where
 id:HT
 ps:List HT
abbrev DG:=List DN
def ids(D:DG):List HT:=D.map (·.id)
def lh(D:DG)(p h:HT):Prop:= ∃nd∈D,nd.id=h/\p∈nd.ps
inductive eB (D:DG):HT->HT->Prop
 |one {p h:HT}:lh D p h->eB D p h
 |more {a p h:HT}:eB D a p->lh D p h->eB D a h
theorem eB.trans{D:DG}{a b c:HT}(h:eB D a b)(h':eB D b c):eB D a c:=by
 induction h' with
 |one hp=>exact .more h hp
 |more _ hp ih=>exact .more ih hp
structure iT(D:DG):Prop where
 pos:0<D.length
 nodup:(ids D).Nodup
 ss: ∀nd∈D,SS nd.ps
 up: ∀(i:Nat) nd p,D[i]? =some nd->p∈nd.ps-> ∃(j:Nat) (m:DN),j<i/\D[j]? =some m/\m.id=p
theorem iF(D:DG):(ids D).length=D.length:=by simp [ids]
theorem pW{D:DG}{i:Nat}{nd:DN}(h:D[i]? =some nd):(ids D)[i]? =some nd.id:=by simp [ids,h]
theorem HH{D:DG}{i:Nat}{h:HT}(e:(ids D)[i]? =some h): ∃nd,D[i]? =some nd/\nd.id=h:=by
 unfold ids at e;rw [List.getElem?_map]at e;cases hd:D[i]? with
 |none=>rw [hd]at e;cases e
 |some nd=>rw [hd]at e;exact⟨nd,rfl,by simpa using e⟩
theorem cR{D:DG}{h:HT}:h∈ids D↔ ∃nd∈D,nd.id=h:=by simp [ids]
section
variable{D:DG}
theorem iT.inj(W:iT D){i j:Nat}{a b:DN}(ha:D[i]? =some a)(hb:D[j]? =some b)(e:a.id=b.id):i=j:=by
 have h1:=ir 0 i W.nodup (pW ha);have h2:=ir 0 j W.nodup (pW hb);rw [e,h2]at h1;simpa using h1.symm
theorem iT.pos_eq(W:iT D){i:Nat}{nd:DN}(h:D[i]? =some nd):Proofs.YtnboahlopghcjaaGreatDoor.pos nd.id (ids D) 0=some i:=by
 have:=ir 0 i W.nodup (pW h)
 rwa [Nat.zero_add]at this
theorem lh.at_(W:iT D){p h:HT}(hp:lh D p h): ∃(i j:Nat) (m nd:DN),i<j/\D[i]? =some m/\D[j]? =some nd/\m.id=p/\nd.id=h/\p∈nd.ps:=by
 obtain⟨nd,fG,rfl,uc⟩:=hp;obtain⟨j,hj⟩:=List.mem_iff_getElem?.1 fG;obtain⟨i,m,oe,hm,e⟩:=W.up j nd p hj uc;exact⟨i,j,m,nd,oe,hm,hj,e,rfl,uc⟩
theorem eB.at_(W:iT D){a h:HT}(hp:eB D a h): ∃(i j:Nat) (m nd:DN),i<j/\D[i]? =some m/\D[j]? =some nd/\m.id=a/\nd.id=h:=by
 induction hp with
 |one hp=>
  obtain⟨i,j,m,nd,h1,h2,h3,h4,h5,_⟩:=hp.at_ W;exact⟨i,j,m,nd,h1,h2,h3,h4,h5⟩
 |more _ hp ih=>
  obtain⟨i,j,m,nd,h1,h2,h3,h4,h5⟩:=ih;obtain⟨i',j',m',nd',po,qT,ym,Pr,h5',_⟩:=hp.at_ W;have e:=W.inj h3 qT (by rw [h5,Pr]);exact⟨i,j',m,nd',by omega,h2,ym,h4,h5'⟩
theorem eB.irrefl(W:iT D)(a:HT): ¬eB D a a:=fun h=>by
 obtain⟨i,j,m,nd,h1,h2,h3,h4,h5⟩:=h.at_ W;have:=W.inj h2 h3 (by rw [h4,h5]);omega
theorem eB.mem(W:iT D){a h:HT}(hp:eB D a h):a∈ids D/\h∈ids D:=by
 obtain⟨i,j,m,nd,_,h2,h3,h4,h5⟩:=hp.at_ W;exact⟨cR.2 ⟨m,List.mem_of_getElem? h2,h4⟩,cR.2 ⟨nd,List.mem_of_getElem? h3,h5⟩⟩
theorem p5(W:iT D){i:Nat}{nd:DN}(h:D[i]? =some nd)(a:HT):eB D a nd.id↔ ∃p∈nd.ps,a=p\/eB D a p:=by
 have key: ∀ {p},lh D p nd.id->p∈nd.ps:=fun⟨nd',hm,e,hp⟩=>by
  obtain⟨j,hj⟩:=List.mem_iff_getElem?.1 hm;have:=W.inj h hj e.symm;subst this;rw [h]at hj;cases hj;exact hp
 constructor
 ·intro ha
  generalize he:nd.id=x at ha;cases ha with
  |one hp=>subst he;exact⟨a,key hp,.inl rfl⟩
  |more Ao hp=>subst he;exact⟨_,key hp,.inr Ao⟩
 ·rintro⟨p,hp,e⟩
  have mG:lh D p nd.id:=⟨nd,List.mem_of_getElem? h,rfl,hp⟩;rcases e with rfl|e
  ·exact .one mG
  ·exact .more e mG
theorem jM{nd:DN}{p h:HT}:lh (D++ [nd]) p h↔lh D p h\/(nd.id=h/\p∈nd.ps):=by
 unfold lh;constructor
 ·rintro⟨m,hm,e,hp⟩
  rw [List.mem_append,List.mem_singleton]at hm;rcases hm with hm|rfl
  ·exact .inl ⟨m,hm,e,hp⟩
  ·exact .inr ⟨e,hp⟩
 ·rintro(⟨m,hm,e,hp⟩|⟨e,hp⟩)
  ·exact⟨m,by simp [hm],e,hp⟩
  ·exact⟨nd,by simp,e,hp⟩
theorem fU(W:iT D){nd:DN}(hn:nd.id∉ids D){a h:HT}(hh:h∈ids D):eB (D++ [nd]) a h↔eB D a h:=by
 constructor
 ·intro ha
  induction ha with
  |one hp=>
   rcases jM.1 hp with hp|⟨e,_⟩
   ·exact .one hp
   ·subst e;exact absurd hh hn
  |more _ hp ih=>
   rcases jM.1 hp with hp|⟨e,_⟩
   ·exact .more (ih (eB.mem W (.one hp)).1) hp
   ·subst e;exact absurd hh hn
 ·intro ha
  induction ha with
  |one hp=>exact .one (jM.2 (.inl hp))
  |more Ao hp ih=>exact .more (ih (eB.mem W Ao).2) (jM.2 (.inl hp))
theorem iL(D:DG)(nd:DN):ids (D++ [nd])=ids D++ [nd.id]:=by simp [ids]
theorem iT.snoc(W:iT D){nd:DN}(hn:nd.id∉ids D)(uc: ∀p∈nd.ps,p∈ids D)(hs:SS nd.ps):iT (D++ [nd]) where
 pos:=by simp
 nodup:=by
  rw [iL,List.nodup_append];refine⟨W.nodup,by simp,fun a ha b hb=>?_⟩;rw [List.mem_singleton]at hb;subst hb;exact fun e=>hn (e▸ha)
 ss:=fun m hm=>by
  rw [List.mem_append,List.mem_singleton]at hm;rcases hm with hm|rfl
  ·exact W.ss m hm
  ·exact hs
 up:=fun i m p hi hp=>by
  rw [List.getElem?_append]at hi;split at hi
  ·rename_i ck
   obtain⟨j,q,h1,h2,h3⟩:=W.up i m p hi hp;exact⟨j,q,h1,by rw [List.getElem?_append_left (by omega)];exact h2,h3⟩
  ·rename_i iy
   have:m=nd:=by
    cases hk:i-D.length with
    |zero=>rw [hk]at hi;simpa using hi.symm
    |succ k=>rw [hk]at hi;simp at hi
   subst this;obtain⟨q,hq,e⟩:=cR.1 (uc p hp);obtain⟨j,hj⟩:=List.mem_iff_getElem?.1 hq;have rH:=(List.getElem?_eq_some_iff.1 hj).1;exact⟨j,q,by omega,by rw [List.getElem?_append_left rH];exact hj,e⟩
end
theorem iT.root(r:HT):iT [⟨r,[]⟩] where
 pos:=by simp
 nodup:=by simp [ids]
 ss:=fun nd h=>by simp at h;subst h;exact List.Pairwise.nil
 up:=fun i nd p h hp=>by
  cases i with
  |zero=>simp at h;subst h;simp at hp
  |succ i=>simp at h
def dt(D:DG)(h:HT)(l:List HT):Int:=
 if h∈ids D then 7 else if(cX l).length=0\/(cX l).length≠l.length then 9 else if ∃p∈cX l,p∉ids D then 6 else 0
def ma(D:DG)(h:HT)(l:List HT):DG:=if dt D h l=0 then D++ [⟨h,cX l⟩]else D
theorem jz{D:DG}{h:HT}{l:List HT}(e:dt D h l=0):h∉ids D/\l≠ []/\l.Nodup/\ ∀p∈cX l,p∈ids D:=by
 unfold dt at e;split at e
 ·cases e
 ·rename_i h1
  split at e
  ·cases e
  ·rename_i h2
   split at e
   ·cases e
   ·rename_i h3
    simp only [not_or,Decidable.not_not]at h2;refine⟨h1,fun hl=>h2.1 (by rw [hl];rfl),nV h2.2,fun p hp=>Classical.byContradiction fun hn=>h3 ⟨p,hp,hn⟩⟩
theorem iT.add{D:DG}(W:iT D)(h:HT)(l:List HT):iT (ma D h l):=by
 unfold ma;split
 ·rename_i e
  obtain⟨h1,_,_,h4⟩:=jz e;exact W.snoc h1 h4 (gv l)
 ·exact W
open Classical in
noncomputable def pick(D:DG)(is:HT->Prop):List HT:=cX ((ids D).filter fun a=>decide (is a))
theorem iK{D:DG}{is:HT->Prop}{a:HT}:a∈pick D is↔a∈ids D/\is a:=by
 unfold pick;rw [c9,List.mem_filter];simp
theorem DJ{D:DG}{is:HT->Prop}{l:List HT}(h: ∀a,a∈l↔a∈ids D/\is a):cX l=pick D is:=xK fun x=>by
 rw [h,List.mem_filter];simp
theorem nQ(D:DG)(is:HT->Prop):(pick D is).length<=D.length:=by
 unfold pick;refine Nat.le_trans (nI _) (Nat.le_trans (List.length_filter_le _ _) ?_);rw [iF];exact Nat.le_refl _
noncomputable def dM(D:DG)(l:List HT):List HT:=pick D fun a=> ∃h∈l,eB D a h
noncomputable def eo(D:DG)(h:HT):List HT:=pick D fun a=>lh D h a
end Go.Proofs.YtnboahlopghcjaaGreatDoor
namespace Go.Proofs.YtnboahlopghcjaaGreatDoor
open Go.Proofs.Tryz
open Go Go.bp Go.RowKit
structure NS(w:World)(F:Nat->Prop)(A:Option Addr)(n:Nat)(l:List DN):Prop where
 len:l.length=n
 at_: ∀(i:Nat) nd,l[i]? =some nd-> ∃a pA pn pc,A=some a/\a.block<w.heap.size/\F a.block/\Cells w (a.add (i*33)) (nd.id.1.push (.slice pA pn pc))/\HS w pA pn nd.ps/\ ∀b,pA=some b->F b.block
section
variable{w w':World}{F F' S:Nat->Prop}{A:Option Addr}{n:Nat}{l:List DN}
theorem AR:yx prog la nz 33 56:=⟨by kernel_rfl,by kernel_rfl⟩
structure IsR(w:World)(F:Nat->Prop)(r:Nat)(D:DG):Prop where
 ex: ∃(A:Option Addr) (c:Nat) (cs:Array Value) (t:TypeId),w.heap[r]? =some (.cells cs t (0,0))/\cs[0]? =some (.slice A D.length c)/\NS w F A D.length D
 jb: ¬F r
variable{r:Nat}{D:DG}{K:Value->World->Prop}
end
end Go.Proofs.YtnboahlopghcjaaGreatDoor
namespace Go.Proofs.YtnboahlopghcjaaGreatDoor
open Go.Proofs.Tryz
open Go Go.bp Go.RowKit
section
variable{w w':World}{F F' S:Nat->Prop}{A:Option Addr}{n c B:Nat}{l:List DN}{news:List Value}{r:Nat}{D:DG}{K:Value->World->Prop}
end
end Go.Proofs.YtnboahlopghcjaaGreatDoor
namespace Go.Proofs.YtnboahlopghcjaaGreatDoor
open Go.Proofs.Tryz
open Go Go.bp Go.RowKit
section
variable{w w' jB:World}{F S:Nat->Prop}{D:DG}{l out:List HT}{A1 A2:Option Addr}{c1 c2 r:Nat}{K:Value->World->Prop}
theorem kV(w:World)(x:HT):HS (w.alloc (.cells (x.1.toList++ []).toArray ao)) (some ⟨w.heap.size,0,none⟩) 1 [x]:=by
 refine HS.one (t:=ao) (fr:=(0,0)) ?_;rw [List.append_nil,Array.toArray_toList];exact aN w _
end
end Go.Proofs.YtnboahlopghcjaaGreatDoor
namespace Go.Proofs.YtnboahlopghcjaaGreatDoor
open Go.Proofs.Tryz
open Go Go.bp Go.RowKit
section
variable{w w' jB:World}{F S:Nat->Prop}{D:DG}{is:HT->Prop}{i:Nat}{l out:List HT}{A:Option Addr}{c r:Nat}{K:Value->World->Prop}
theorem Bc(W:iT D){j:Nat}{nd:DN}(h2:D[j]? =some nd)(p:HT):lh D p nd.id↔p∈nd.ps:=by
 constructor
 ·rintro⟨md,yc,e,hp⟩
  obtain⟨k,hk⟩:=List.mem_iff_getElem?.1 yc;have:=W.inj hk h2 e;subst this;rw [h2]at hk;cases hk;exact hp
 ·exact fun hp=>⟨nd,List.mem_of_getElem? h2,rfl,hp⟩
end
end Go.Proofs.YtnboahlopghcjaaGreatDoor
namespace Go.Proofs.YtnboahlopghcjaaGreatDoor
open Go.Proofs.Tryz
open Go Go.bp Go.RowKit
structure NM where
 b:Nat
 pA:Option Addr
 pn:Nat
 pc:Nat
 cA:Option Addr
 cn:Nat
 cc:Nat
 rA:Option Addr
 rn:Nat
 rc:Nat
 ws:List Nat
def dJ(h:HT)(m:NM):Array Value:=h.1++ #[.slice m.pA m.pn m.pc,.slice m.cA m.cn m.cc,.slice m.rA m.rn m.rc]
theorem qC(h:HT)(m:NM):(dJ h m).size=35:=by unfold dJ;rw [Array.size_append,h.2.1];rfl
theorem Bh(h:HT)(m:NM){j:Nat}{v:Value}(hj:h.1[j]? =some v):(dJ h m)[j]? =some v:=by
 unfold dJ;rw [Array.getElem?_append_left (Array.getElem?_eq_some_iff.1 hj).1];exact hj
theorem Bi(h:HT)(m:NM):(dJ h m)[33]? =some (.slice m.cA m.cn m.cc):=by
 unfold dJ;rw [Array.getElem?_append_right (by rw [h.2.1];omega),h.2.1];rfl
theorem uR(h:HT)(m:NM):(dJ h m)[34]? =some (.slice m.rA m.rn m.rc):=by
 unfold dJ;rw [Array.getElem?_append_right (by rw [h.2.1];omega),h.2.1];rfl
theorem zf{h h':HT}{m m':NM}(e:dJ h m=dJ h' m'):h=h':=by
 apply Subtype.ext;have h1:=h.2.1;have h2:=h'.2.1;have:=congrArg (fun a:Array Value=>a.toList.take 32) e;unfold dJ at this;simp only [Array.toList_append]at this;rw [List.take_left' (by simpa using h1),List.take_left' (by simpa using h2)]at this;exact Array.ext' this
structure nA(w:World)(S F:Nat->Prop)(D:DG)(ch:List HT)(nd:DN)(m:NM):Prop where
 bC:w.heap[m.b]? =some (.cells (dJ nd.id m) cH (0,0))
 dR:S m.b
 ps:HS w m.pA m.pn nd.ps
 DI: ∀a,m.pA=some a->F a.block
 ch:bQ w 0 m.cA m.cn m.cc ch
 I5: ∀k,aX m.cA=some k->S k
 past:US w m.rA m.rn m.ws
 lH: ∀a,m.rA=some a->F a.block
 ok:okW m.ws
 bits: ∀j,bit m.ws j=true↔ ∃nj,D[j]? =some nj/\eB D nj.id nd.id
 small:m.rn<=200
structure GV(w:World)(S F:Nat->Prop)(g:Nat)(D:DG)(C:HT->List HT)(bl c mb:Nat)(M:List NM):Prop where
 top:w.heap[g]? =some (.cells #[.slice (some ⟨bl,0,none⟩) D.length c,.map (some mb)] eR (0,0))
 row:Row w 0 dg 1 (some ⟨bl,0,none⟩) D.length c (M.map fun m=>.pointer (some ⟨m.b,0,none⟩))
 map:IsMap w mb (ids D)
 len:M.length=D.length
 node: ∀(i:Nat) nd m,D[i]? =some nd->M[i]? =some m->nA w S F D (C nd.id) nd m
 apart: ∀(i j:Nat) m m',M[i]? =some m->M[j]? =some m'->i≠j-> ∀k,aX m.cA=some k->aX m'.cA≠some k
 e9:S g
 pr:S bl
 qZ:S mb
 Au: ∀k,S k-> ¬F k
 low: ∀k,S k\/F k->k<w.heap.size
def xB(w:World)(S F:Nat->Prop)(g:Nat)(D:DG):Prop:= ∃bl c mb M,GV w S F g D (eo D) bl c mb M
section
variable{w w':World}{S F S' F':Nat->Prop}{g bl c mb:Nat}{D:DG}{C:HT->List HT}{M:List NM}{K:Value->World->Prop}
theorem nA.aG{ch:List HT}{nd:DN}{m:NM}{S0:Nat->Prop}(h:nA w S F D ch nd m)(hk:Kept S0 w w')(hS: ∀k,S k-> ¬S0 k)(hF: ∀k,F k-> ¬S0 k):nA w' S F D ch nd m:=
 ⟨hk.heap h.bC (hS _ h.dR),h.dR,h.ps.aG hk (fun a ha=>hF _ (h.DI a ha)),h.DI,Row.aG h.ch hk (fun k hb=>hS k (h.I5 k hb)),h.I5,h.past.aG hk (fun a ha=>hF _ (h.lH a ha)),h.lH,h.ok,h.bits,h.small⟩
theorem GV.aG{S0:Nat->Prop}(h:GV w S F g D C bl c mb M)(hk:Kept S0 w w')(hS: ∀k,S k-> ¬S0 k)(hF: ∀k,F k-> ¬S0 k):GV w' S F g D C bl c mb M:=
 ⟨hk.heap h.top (hS _ h.e9),Row.aG h.row hk (fun k e=>by cases e;exact hS _ h.pr),h.map.aG hk (hS _ h.qZ),h.len,fun i nd m h1 h2=>(h.node i nd m h1 h2).aG hk hS hF,h.apart,h.e9,h.pr,h.qZ,h.Au,fun k lg=>Nat.lt_of_lt_of_le (h.low k lg) hk.size⟩
theorem GV.same(h:GV w S F g D C bl c mb M)(hk:Kept Nil w w'):GV w' S F g D C bl c mb M:=h.aG hk (fun _ _ h=>h) (fun _ _ h=>h)
theorem xB.aG{S0:Nat->Prop}(h:xB w S F g D)(hk:Kept S0 w w')(hS: ∀k,S k-> ¬S0 k)(hF: ∀k,F k-> ¬S0 k):xB w' S F g D:=let ⟨bl,c,mb,M,h⟩:=h;⟨bl,c,mb,M,h.aG hk hS hF⟩
theorem xB.same(h:xB w S F g D)(hk:Kept Nil w w'):xB w' S F g D:=h.aG hk (fun _ _ h=>h) (fun _ _ h=>h)
theorem GV.get(h:GV w S F g D C bl c mb M){i:Nat}{nd:DN}(hi:D[i]? =some nd): ∃m,M[i]? =some m/\nA w S F D (C nd.id) nd m:=by
 have:=(List.getElem?_eq_some_iff.1 hi).1;have hl:=h.len;exact⟨M[i],List.getElem?_eq_getElem (by omega),h.node i nd _ hi (List.getElem?_eq_getElem (by omega))⟩
theorem GV.nodes(h:GV w S F g D C bl c mb M):w.cell? ((⟨g,0,none⟩:Addr).add 0)=some (.slice (some ⟨bl,0,none⟩) D.length c):=by rw [add_zero,az h.top];rfl
theorem GV.at_(h:GV w S F g D C bl c mb M):w.cell? ((⟨g,0,none⟩:Addr).add 1)=some (.map (some mb)):=by rw [a7,az h.top];rfl
theorem GV.ptr(h:GV w S F g D C bl c mb M){i:Nat}{m:NM}(hm:M[i]? =some m):w.cell? ((⟨bl,0,none⟩:Addr).add (i*1))=some (.pointer (some ⟨m.b,0,none⟩)):=by
 rw [a7,Nat.zero_add,Nat.mul_one];exact Row.cell h.row (by rw [List.getElem?_map,hm];rfl)
theorem tc(h:GV w S F g D C bl c mb M)(hK:K (.bool true) w):aY prog dO.id #[.pointer (some ⟨g,0,none⟩)] w K:=
 dO.of (Split.yes rfl ⟨some mb,h.at_,hK⟩)
def Found(D:DG)(M:List NM)(h:HT)(x:Option Addr):Prop:=(x=none/\h∉ids D)\/ ∃(i:Nat) (nd:DN) (m:NM),D[i]? =some nd/\nd.id=h/\M[i]? =some m/\x=some ⟨m.b,0,none⟩
theorem Found.isSome{h:HT}{x:Option Addr}(f:Found D M h x):(!x.isNone)=decide (h∈ids D):=by
 rcases f with⟨rfl,hn⟩|⟨i,nd,m,h1,h2,_,rfl⟩
 ·rw [decide_eq_false hn];rfl
 ·rw [decide_eq_true (cR.2 ⟨nd,List.mem_of_getElem? h1,h2⟩)];rfl
theorem re(G:GV w S F g D C bl c mb M)(h:HT)(hK: ∀w' x,Kept Nil w w'->Found D M h x->K (.pointer x) w'):
 aY prog dI.id #[.pointer (some ⟨g,0,none⟩),.agg h.1] w K:=by
 refine dI.of ?_;unfold dI.W;intro w3;have k3:Kept Nil w w3:=(Kept.refl _ _).alloc _;have nD:w3.heap[w.heap.size]? =some (.cells h.1 ao (0,0)):=aN w _;clear_value w3;refine tc (G.same k3) ⟨true,rfl,Split.yes rfl ?_⟩;intro w7;have k7:Kept Nil w3 w7:=(Kept.refl _ _).drew;clear_value w7;have kw:Kept Nil w w7:=k3.trans k7 (fun _ _ h=>h);have G7:=G.same kw;refine⟨some mb,G7.at_,h.1,⟨h.2.1,Cells.bC (k7.heap nD (fun h=>h))⟩,_,_,G7.map.look h,?_⟩;cases hp:pos h (ids D) 0 with
 |none=>exact Split.no rfl (hK w7 none kw (.inl ⟨rfl,qt.1 hp⟩))
 |some i=>
  obtain⟨_,hi⟩:=uI hp;obtain⟨nd,h1,h2⟩:=HH hi;rw [Nat.sub_zero]at h1;obtain⟨m,hm,_⟩:=G7.get h1;have eI:=(List.getElem?_eq_some_iff.1 h1).1;refine Split.yes rfl ⟨_,_,_,G7.nodes,⟨by simp,by simp only [Option.getD_some];omega⟩,some ⟨m.b,0,none⟩,?_,hK w7 _ kw (.inr ⟨i,nd,m,h1,h2,hm,rfl⟩)⟩;rw [Option.getD_some,Int.toNat_natCast];exact G7.ptr hm
theorem p0(G:GV w S F g D C bl c mb M)(h:HT)(hK: ∀w',Kept Nil w w'->K (.bool (decide (h∈ids D))) w'):
 aY prog dY.id #[.pointer (some ⟨g,0,none⟩),.agg h.1] w K:=by
 refine dY.of ?_;unfold dY.W;intro w3;have k3:Kept Nil w w3:=(Kept.refl _ _).alloc _;have nD:w3.heap[w.heap.size]? =some (.cells h.1 ao (0,0)):=aN w _;clear_value w3;refine⟨h.1,⟨h.2.1,Cells.bC nD⟩,re (G.same k3) h fun w6 x k6 hx=>⟨x,rfl,?_⟩⟩;rw [hx.isSome];exact hK w6 (k3.trans k6 (fun _ _ h=>h))
end
end Go.Proofs.YtnboahlopghcjaaGreatDoor
namespace Go.Proofs.YtnboahlopghcjaaGreatDoor
open Go.Proofs.Tryz
open Go Go.bp Go.RowKit
section
variable{w w':World}{S F:Nat->Prop}{g bl c mb:Nat}{D:DG}{C:HT->List HT}{M:List NM}{K:Value->World->Prop}
end
end Go.Proofs.YtnboahlopghcjaaGreatDoor
namespace Go.Proofs.YtnboahlopghcjaaGreatDoor
open Go.Proofs.Tryz
open Go Go.bp Go.RowKit
section
variable{w w':World}{S F:Nat->Prop}{g bl c mb:Nat}{D:DG}{C:HT->List HT}{M:List NM}{K:Value->World->Prop}
theorem xn{A:Option Addr}{n c:Nat}{l:List HT}(hl:HS w A n l)(hn:n<=400000)(hK: ∀A' c' w',bQ w' w.heap.size A' n c' l->Kept Nil w w'->K (.slice A' n c') w'):
 aY prog bZ.id #[.slice A n c] w K:=by
 refine bZ.of ?_;cases A with
 |none=>
  obtain⟨rfl,rfl⟩:=hl.none;exact Split.yes rfl (hK none 0 w (bQ.nil _ _) (Kept.refl _ _))
 |some a=>
  refine Split.no rfl ?_;intro w2;have k2:Kept Nil w w2:=(Kept.refl _ _).alloc _;have r0:bQ w2 w.heap.size (some ⟨w.heap.size,0,none⟩) 0 0 []:=Row.made (n:=0) (cur:= #[]) (aN w _) (Nat.le_refl _) rfl (Nat.zero_le _);clear_value w2;obtain⟨A',c',w4,hr,row,hg,_⟩:=fE (cx:=c) aR r0 (hl.same k2) (by omega) k2.size;rw [Nat.zero_add]at hr row;rw [List.nil_append]at row;exact⟨A',n,c',w4,hr,hK A' c' w4 row (Kept.pY k2 hg (fun k hk=>by cases hk;exact Nat.le_refl _))⟩
theorem sE{D:DG}{nd:DN}{m:NM}{ch:List HT}(N:nA w S F D ch nd m):w.cell? ((⟨m.b,0,none⟩:Addr).add 34)=some (.slice m.rA m.rn m.rc):=by
 rw [a7,Nat.zero_add,az N.bC];exact uR _ _
theorem xT{D:DG}{nd:DN}{m:NM}{ch:List HT}(N:nA w S F D ch nd m):w.cell? ((⟨m.b,0,none⟩:Addr).add 33)=some (.slice m.cA m.cn m.cc):=by
 rw [a7,Nat.zero_add,az N.bC];exact Bi _ _
end
end Go.Proofs.YtnboahlopghcjaaGreatDoor
namespace Go.Proofs.YtnboahlopghcjaaGreatDoor
open Go.Proofs.Tryz
open Go Go.bp Go.RowKit
def kP(D:DG)(j:Nat):HT:=match D[j]? with|some nd=>nd.id|none=>default
theorem qx: ∀(ws:List Nat) (k:Nat),okW ws->(lJ k ws).Nodup
 | [],_,_=>List.Pairwise.nil
 |x::ws,k,ho=>by
  have hx:=ho x (by simp);have Dg:okW ws:=fun y hy=>ho y (by simp [hy]);obtain⟨_,h2,h3⟩:=sJ x hx;rw [lJ,List.nodup_append];refine⟨List.Pairwise.map _ (fun a b jZ e=>jZ (by omega)) h2,qx ws (k+1) Dg,fun a ha b hb e=>?_⟩;rw [List.mem_map]at ha;obtain⟨t,ht,rfl⟩:=ha;have:=((lM ws (k+1) b Dg).1 hb).1;have:=h3 t ht;omega
section
variable{w w':World}{S F:Nat->Prop}{g bl c mb:Nat}{D:DG}{C:HT->List HT}{M:List NM}{K:Value->World->Prop}
theorem rf(G:GV w S F g D C bl c mb M)(W:iT D)(hD:D.length<=10000)(hT:p6 w){A:Option Addr}{n cx:Nat}{l:List HT}(hl:HS w A n l)(hn:n<=10000)
 (hK: ∀A' c' w',bQ w' w.heap.size A' (dM D l).length c' (dM D l)->Kept Nil w w'->K (.slice A' (dM D l).length c') w'):
 aY prog aD.id #[.pointer (some ⟨g,0,none⟩),.slice A n cx] w K:=by
 have hlen:=hl.len;refine aD.of ?_;unfold aD.W;intro w3;have k3:Kept Nil w w3:=(Kept.refl _ _).alloc _;have Su:w3.heap[w.heap.size]? =some (.cells #[.pointer (some ⟨g,0,none⟩)] iG (0,0)):=aN w _;have Ek:w.heap.size<w3.heap.size:=aQ Su;clear_value w3;refine aD.bU (I:=fun s w'=> ∃(i:Nat) (A':Option Addr) (n' c':Nat) (ws:List Nat),s=(A',n',c',(i:Int))/\i<=n/\ik w' w3.heap.size A' n' c' ws/\okW ws/\n'<=200/\(∀j,bit ws j=true↔ ∃h∈l.take i,∃nj,D[j]? =some nj/\eB D nj.id h)/\Kept Nil w3 w')
  (μ:=fun s _=>((n:Int)-s.2.2.2).toNat) (s:=(none,0,0,0)) ⟨0,none,0,0,[],rfl,Nat.zero_le _,Row.nil _ _ _ _,by simp [okW],by omega,by simp [tQ],Kept.refl _ _⟩ ?_
 rintro s w' ⟨i,A',n',c',ws,rfl,hi,row,ho,RW,mI,kw⟩;have kk:Kept Nil w w':=k3.trans kw (fun _ _ h=>h);refine Split.dec (fun jE=>?_) (fun iy=>?_)
 ·simp only at jE
  have eI:i<n:=by omega
  obtain⟨h,hh⟩: ∃h,l[i]? =some h:=⟨_,List.getElem?_eq_getElem (by omega)⟩;refine(hl.same kk).load (i:=(i:Int)) (by omega) hh ?_;intro mJ;obtain⟨nt,ij,ig⟩:=dU (w:=w') (z:=(#[.int .u8 0,.int .u8 0,.int .u8 0,.int .u8 0,.int .u8 0,.int .u8 0,.int .u8 0,.int .u8 0,.int .u8 0,.int .u8 0,.int .u8 0,.int .u8 0,.int .u8 0,.int .u8 0,.int .u8 0,.int .u8 0,.int .u8 0,.int .u8 0,.int .u8 0,.int .u8 0,.int .u8 0,.int .u8 0,.int .u8 0,.int .u8 0,.int .u8 0,.int .u8 0,.int .u8 0,.int .u8 0,.int .u8 0,.int .u8 0,.int .u8 0,.int .u8 0]:Array Value)) (cs:=h.1) (t:=ao) (by rw [h.2.1];rfl);refine⟨⟨h.2.1,h.2.one,fun j hj=>nt j (by rw [h.2.1];exact hj)⟩,?_⟩;intro kF
  replace ij:kF.heap[w'.heap.size]? =some (.cells h.1 ao (0,0)):=ij
  replace ig:Kept Nil w' kF:=ig
  clear_value kF;have pU:Kept Nil w3 kF:=kw.trans ig (fun _ _ h=>h);refine⟨some ⟨g,0,none⟩,by rw [az (pU.heap Su (fun h=>h))];rfl,h.1,⟨h.2.1,Cells.bC ij⟩,?_⟩;refine re (G.same (k3.trans pU (fun _ _ h=>h))) h fun oz x vQ hx=>⟨x,rfl,?_⟩;have D9:Kept Nil w3 oz:=pU.trans vQ (fun _ _ h=>h);have Bs:Kept Nil w oz:=k3.trans D9 (fun _ _ h=>h);have sD:ik oz w3.heap.size A' n' c' ws:=Row.aG row (ig.trans vQ (fun _ _ h=>h)) (fun _ _ h=>h);rcases hx with⟨rfl,rD⟩|⟨q,nd,m',hq,rfl,mH,rfl⟩
  ·refine Split.no rfl ?_
   simp only;rw [e8 (n:=(i:Int)) (by omega) (by omega)];refine⟨(A',n',c',(i:Int)+1),rfl,⟨i+1,A',n',c',ws,rfl,eI,sD,ho,RW,fun j=>?_,D9⟩,by simp only;omega⟩;rw [mI];constructor
   ·rintro⟨h',h1,h2⟩;exact⟨h',(bt hh).2 (.inl h1),h2⟩
   ·rintro⟨h',h1,nj,h2,h3⟩
    rcases(bt hh).1 h1 with h1|rfl
    ·exact⟨h',h1,nj,h2,h3⟩
    ·exact absurd (h3.mem W).2 rD
  ·obtain⟨m,hm,N⟩:=(G.same Bs).get hq
   rw [mH]at hm;cases hm;refine Split.yes rfl ⟨_,_,_,sE N,?_⟩;have zv:=N.small;have zJ: ∀k,aX A'=some k->w3.heap.size<=k:=fun k hk=>(Row.bC sD hk).1;refine sA sD ho (by omega) D9.size N.past N.ok (by omega) (fun a ha k hk e=>?_) fun A2 n2 c2 l2 jc KL RO Mr IJ pH EF=>⟨A2,n2,c2,rfl,?_⟩
   ·have h1:=G.low a.block (.inr (N.lH a ha))
    have h2:=zJ k hk;omega
   ·simp only
    rw [e8 (n:=(i:Int)) (by omega) (by omega)];refine⟨(A2,n2,c2,(i:Int)+1),rfl,⟨i+1,A2,n2,c2,l2,rfl,eI,KL,RO,by omega,fun j=>?_,D9.trans pH (fun k hk e=>absurd (zJ k e) (by omega))⟩,by simp only;omega⟩;rw [IJ,Bool.or_eq_true,mI,N.bits];constructor
    ·rintro(⟨h',h1,h2⟩|h2)
     ·exact⟨h',(bt hh).2 (.inl h1),h2⟩
     ·exact⟨nd.id,(bt hh).2 (.inr rfl),h2⟩
    ·rintro⟨h',h1,h2⟩
     rcases(bt hh).1 h1 with h1|rfl
     ·exact .inl ⟨h',h1,h2⟩
     ·exact .inr h2
 ·simp only at iy
  have Wo:i=n:=by omega
  subst Wo;rw [List.take_of_length_le (by omega)]at mI;rw [aP,aD.dD];unfold aD.cW;intro sq;have Fq:Kept Nil w' sq:=(Kept.refl _ _).alloc _;have Mg:sq.heap[w'.heap.size]? =some (.cells #[.slice none 0 0] aR (0,0)):=aN w' _;clear_value sq;refine gR.of ?_;unfold gR.W;intro mW;have Da:Kept Nil sq mW:=(Kept.refl _ _).alloc _;have LV:mW.heap[sq.heap.size]? =some (.cells #[.slice A' n' c'] iB (0,0)):=aN sq _;clear_value mW;refine⟨_,rfl,?_⟩;have Mf:=Da.heap Mg (fun h=>h);have Lm:Kept Nil w3 mW:=(kw.trans Fq (fun _ _ h=>h)).trans Da (fun _ _ h=>h);have DX:Kept Nil w mW:=k3.trans Lm (fun _ _ h=>h);have KJ:ik mW w3.heap.size A' n' c' ws:=Row.aG (Row.aG row Fq (fun _ _ h=>h)) Da (fun _ _ h=>h);have St:=Lm.heap Su (fun h=>h);have Aj:w.heap.size<w'.heap.size:=Nat.lt_of_lt_of_le Ek kw.size;have Zf:w'.heap.size<mW.heap.size:=aQ Mf;have Zg:sq.heap.size<mW.heap.size:=aQ LV;have B9: ∀j∈lJ 0 ws,∃nj,D[j]? =some nj:=fun j hj=>by
   have:=((lM ws 0 j ho).1 hj).2;rw [Nat.mul_zero,Nat.sub_zero]at this;obtain⟨_,_,nj,h1,_⟩:=(mI j).1 this;exact⟨nj,h1⟩
  have RR:(lJ 0 ws).length<=D.length:=by
   have:=qy (m:=List.range D.length) (qx ws 0 ho) (fun j hj=>by
    obtain⟨nj,h1⟩:=B9 j hj;exact List.mem_range.2 (List.getElem?_eq_some_iff.1 h1).1)
   rwa [List.length_range]at this
  let xs:=lJ 0 ws
  let ρ0:Env:= [(2,.pointer (some (⟨w.heap.size,0,none⟩:Addr))),(4,.slice none 0 0),(9,.pointer (some (⟨w'.heap.size,0,none⟩:Addr))),(30,.func (.func ay.id) #[] #[.pointer (some (⟨sq.heap.size,0,none⟩:Addr))])]
  let J:Nat->World->Prop:=fun i v=> ∃A c,v.heap[w'.heap.size]? =some (.cells #[.slice A i c] aR (0,0))/\bQ v mW.heap.size A i c ((xs.take i).map (kP D))/\Kept (· =w'.heap.size) mW v/\i<=xs.length
  have oc: ∀i v,J i v->US v A' n' ws/\v.cell? ⟨sq.heap.size,0,none⟩=some (.slice A' n' c')/\p6 v:=by
   rintro i v ⟨A,c,h1,h2,h3,h4⟩;refine⟨KJ.us.aG h3 (fun a ha e=>?_),by rw [az (h3.heap LV (by have:=aQ Mg;omega))];rfl,(hT.same DX).aG h3 (fun e=>by have:=hT.lt;omega)⟩;have hk:aX A'=some a.block:=by rw [ha];rfl
   obtain⟨_,cur,hc⟩:=Row.bC row hk;have:=aQ hc;omega
  refine kj (ρ:=ρ0) (ρ0:=ρ0) ng mix aD.k (t:=30) (ps:= #[31]) (by kernel_rfl) (by decide) rfl ay.at_ rfl (.inl rfl) (fun i v _ h=>h) rfl encI xs (fun _=>rfl) (by simp [eW]) (CX ⟨sq.heap.size,0,none⟩ (c:=c') (by omega) ho) J (fun _ _=>False) ?_ (fun _ _ _ _ _ h=>h.elim) oc ?_ ?_ ?_ (fun _ _ h=>h.elim) (fun _ _ _ h=>h.elim)
  ·rintro i v v' R mQ ⟨A,c,h1,h2,h3,h4⟩ hk
   exact⟨A,c,hk.heap h1 (iE h1 mQ.loop),Row.apart h2 hk (fun cs t fr h=>by rw [mQ.loop]at h;cases h),h3.trans hk (fun k hk e=>by omega),h4⟩
  ·intro R
   exact⟨none,0,iD (iD Mf _) _,bQ.nil _ _,(((Kept.refl _ _).alloc _).alloc _),Nat.zero_le _⟩
  ·rintro i x v R hx hj mQ
   have hJ:=hj;obtain⟨A,c,h1,h2,h3,h4⟩:=hj;have eI:i<xs.length:=(List.getElem?_eq_some_iff.1 hx).1;have e7:iR ρ0 ((#[31]:Array Nat).toList.zip (encI x))= [(2,.pointer (some (⟨w.heap.size,0,none⟩:Addr))),(4,.slice none 0 0),(9,.pointer (some (⟨w'.heap.size,0,none⟩:Addr))),(30,.func (.func ay.id) #[] #[.pointer (some (⟨sq.heap.size,0,none⟩:Addr))]),(31,.int .i64 (x:Int))]:=rfl;rw [e7,aD.a1];unfold aD.A1;refine⟨mQ,fun w2 R2 kQ rG=>?_⟩;have Dk:=kQ.heap h1 (iE h1 mQ.loop);have wZ:bQ w2 mW.heap.size A i c ((xs.take i).map (kP D)):=Row.apart h2 kQ (fun cs t fr h=>by rw [mQ.loop]at h;cases h);have TQ:Kept (· =w'.heap.size) mW w2:=h3.trans kQ (fun k hk e=>by omega);clear hJ h1 h2 h3;rw [aD.y1];unfold aD.Y1;intro yC;have Hm:Kept Nil w2 yC:=(Kept.refl _ _).drew;clear_value yC;have Ob:=Hm.heap Dk (fun h=>h);have xY:Kept (· =w'.heap.size) mW yC:=TQ.trans Hm (fun _ _ h=>h.elim);obtain⟨nj,FV⟩:=B9 x (List.mem_of_getElem? hx);have r4:=(List.getElem?_eq_some_iff.1 FV).1;have Qs:Kept Nil w yC:=DX.trans xY (fun k hk e=>by omega);obtain⟨m,hm,N⟩:=(G.same Qs).get FV;refine⟨A,i,c,by rw [az Ob];rfl,some ⟨g,0,none⟩,by rw [az (xY.heap St (by omega))];rfl,?_⟩;refine⟨_,_,_,(G.same Qs).nodes,⟨by omega,by omega⟩,some ⟨m.b,0,none⟩,by rw [Int.toNat_natCast];exact(G.same Qs).ptr hm,?_⟩;refine⟨nj.id.1,⟨nj.id.2.1,fun j v hj=>?_⟩,nj.id.2.1,?_⟩
   ·rw [add_zero,a7,Nat.zero_add,az N.bC]
    exact Bh _ _ hj
   intro Jo;have Li:Kept Nil yC Jo:=(Kept.refl _ _).alloc _;have kV:HS Jo (some ⟨yC.heap.size,0,none⟩) 1 [nj.id]:=kV yC nj.id;clear_value Jo;have Oa:=Li.heap Ob (fun h=>h);refine⟨by rw [az Oa];rfl,?_⟩;have EL:bQ Jo mW.heap.size A i c ((xs.take i).map (kP D)):=Row.aG (Row.aG wZ Hm (fun _ _ h=>h)) Li (fun _ _ h=>h);have LK:mW.heap.size<=Jo.heap.size:=Nat.le_trans xY.size Li.size;have Ef:xs.length<=D.length:=RR;obtain⟨A2,c2,mV,hr,sC,EC,IK⟩:=fE (cx:=1) aR EL kV (by omega) LK;have Iu:Kept (fun k=>aX A=some k) Jo mV:=Kept.grown (Kept.refl _ _) EC (fun k hk _=>hk);have NY: ∀k,aX A=some k->mW.heap.size<=k:=fun k hk=>(Row.bC EL hk).1;have NZ:=Iu.heap Oa (fun e=>by have:=NY _ e;omega);have Sa:Live (mW.heap.size+1) mW.heap.size R2 mV:=by
    have Ig:=(rG.aG Hm (fun h=>h) (fun h=>h)).aG Li (fun h=>h) (fun h=>h);refine Ig.aG Iu ?_ ?_
    ·intro h
     obtain⟨_,cur,hc⟩:=Row.bC EL h;exact iE hc Ig.loop rfl
    ·intro h
     obtain⟨_,cur,hc⟩:=Row.bC EL h;exact tq hc Ig.mark rfl
   refine⟨A2,_,c2,mV,hr,dE NZ (by simp),?_⟩;intro P0;have QG:Kept (· =w'.heap.size) mV P0:=Kept.setCell (S:=fun k=>k=w'.heap.size) (Kept.refl _ mV) (p:=⟨w'.heap.size,0,none⟩) (fun _=>rfl) _;have Th:P0.heap[w'.heap.size]? =some (.cells #[.slice A2 (i+1) c2] aR (0,0)):=cQ NZ 0 _;clear_value P0;refine⟨Sa.aG QG (by omega) (by omega),A2,c2,Th,?_,((xY.trans Li (fun _ _ h=>h.elim)).trans Iu (fun k hk e=>absurd (NY k e) (by omega))).trans QG (fun _ _ h=>h),eI⟩;have e:(xs.take (i+1)).map (kP D)=(xs.take i).map (kP D)++ [nj.id]:=by
    rw [List.take_add_one,hx];simp [kP,FV]
   rw [e];exact Row.aG sC QG (fun k hk e=>by have:=(Row.bC sC hk).1;omega)
  ·rintro v R ⟨A,c,h1,h2,h3,h4⟩ mQ
   have e7:fe ρ0 mW.heap.size= [(2,.pointer (some (⟨w.heap.size,0,none⟩:Addr))),(4,.slice none 0 0),(9,.pointer (some (⟨w'.heap.size,0,none⟩:Addr))),(30,.func (.func ay.id) #[] #[.pointer (some (⟨sq.heap.size,0,none⟩:Addr))]),(4294967296,.agg #[.pointer (some ⟨mW.heap.size,0,none⟩)])]:=rfl;rw [e7,aD.im];rw [List.take_of_length_le (Nat.le_refl _)]at h2;have Ef:xs.length<=D.length:=RR;refine⟨A,xs.length,c,by rw [az h1];rfl,fD h2.hs (by omega) fun A2 c2 PZ A8 QF=>⟨A2,_,c2,rfl,⟨QF.heap mQ.mark (fun h=>h),trivial⟩,?_⟩⟩;have ZH:=QF.heap mQ.mark (fun h=>h);have kp:Kept (· =mW.heap.size) PZ (PZ.putObj mW.heap.size (.deferred none)):=Kept.putAt _ _ _;have e:cX (xs.map (kP D))=dM D l:=DJ fun a=>by
    rw [List.mem_map];constructor
    ·rintro⟨j,hj,rfl⟩
     have hb:=((lM ws 0 j ho).1 hj).2;rw [Nat.mul_zero,Nat.sub_zero]at hb;obtain⟨h',po,nj,qT,ym⟩:=(mI j).1 hb;have:kP D j=nj.id:=by unfold kP;rw [qT]
     rw [this];exact⟨(ym.mem W).1,h',po,ym⟩
    ·rintro⟨ha,h',Z5,Cv⟩
     obtain⟨nj,V7,rfl⟩:=cR.1 ha;obtain⟨j,hj⟩:=List.mem_iff_getElem?.1 V7;refine⟨j,(lM ws 0 j ho).2 ⟨by omega,?_⟩,by unfold kP;rw [hj]⟩;rw [Nat.mul_zero,Nat.sub_zero];exact(mI j).2 ⟨h',Z5,nj,hj,Cv⟩
   rw [e]at A8⊢;have km:Kept Nil w PZ:=(DX.trans h3 (fun k hk e=>by omega)).trans QF (fun _ _ h=>h);have YK:w.heap.size<=v.heap.size:=Nat.le_trans DX.size h3.size;refine hK A2 c2 _ (Row.base (Row.apart A8 kp (fun cs t fr h=>by rw [ZH]at h;cases h)) fun b hb=>Nat.le_trans YK (Row.bC A8 hb).1) (km.trans kp (fun k hk e=>by omega))
end
end Go.Proofs.YtnboahlopghcjaaGreatDoor
namespace Go.Proofs.YtnboahlopghcjaaGreatDoor
open Go.Proofs.Tryz
open Go Go.bp Go.RowKit
section
variable{w w':World}{S F:Nat->Prop}{g bl c mb gb:Nat}{D:DG}{C:HT->List HT}{M:List NM}{K:Value->World->Prop}
theorem vC(G:GV w S F g D C bl c mb M)(hg:w.heap[gb]? =some (.cells #[.pointer (some ⟨g,0,none⟩)] iG (0,0))){A:Option Addr}{n cx:Nat}{l:List HT}(hl:HS w A n l)(hn:n<=400000)
 (hK: ∀w' (x:Bool),(x=true↔ ∃p∈l,p∉ids D)->Kept Nil w w'->K (.bool x) w'):
 aY prog cy.id #[.slice A n cx,.func (.func cM.id) #[] #[.pointer (some ⟨gb,0,none⟩)]] w K:=by
 have hlen:=hl.len;refine bu.of (al.of ?_);refine al.bU (I:=fun s w'=> ∃i:Nat,s=(0,(i:Int))/\i<=n/\(∀p∈l.take i,p∈ids D)/\Kept Nil w w') (μ:=fun s _=>((n:Int)-s.2).toNat) (s:=(0,0)) ⟨0,rfl,Nat.zero_le _,by simp,Kept.refl _ _⟩ ?_;rintro s w' ⟨i,rfl,hi,dw,kw⟩;refine Split.dec (fun jE=>?_) (fun iy=>?_)
 ·simp only at jE
  have eI:i<n:=by omega
  obtain⟨x,hx⟩: ∃x,l[i]? =some x:=⟨_,List.getElem?_eq_getElem (by omega)⟩;refine(hl.same kw).load (i:=(i:Int)) (by omega) hx ?_;refine cM.of ?_;unfold cM.W;intro w3;have k3:Kept Nil w' w3:=(Kept.refl _ _).alloc _;have nD:w3.heap[w'.heap.size]? =some (.cells x.1 ao (0,0)):=aN w' _;clear_value w3;have Qu:=kw.trans k3 (fun _ _ h=>h);refine⟨some ⟨g,0,none⟩,by rw [az (Qu.heap hg (fun h=>h))];rfl,x.1,⟨x.2.1,Cells.bC nD⟩,p0 (G.same Qu) x fun w7 k7=>⟨_,rfl,_,rfl,?_⟩⟩;have Bq:=Qu.trans k7 (fun _ _ h=>h);by_cases hm:x∈ids D
  ·refine Split.no (by rw [decide_eq_true hm];rfl) ?_
   simp only;rw [e8 (n:=(i:Int)) (by omega) (by omega)];refine⟨(0,(i:Int)+1),rfl,⟨i+1,rfl,eI,fun p hp=>?_,Bq⟩,by simp only;omega⟩;rcases(bt hx).1 hp with hp|rfl
   ·exact dw p hp
   ·exact hm
  ·refine Split.yes (by rw [decide_eq_false hm];rfl) ?_
   refine⟨(i:Int),rfl,?_⟩;exact hK w7 _ ⟨fun _=>⟨x,List.mem_of_getElem? hx,hm⟩,fun _=>decide_eq_true (by omega)⟩ Bq
 ·simp only at iy
  rw [aP,al.dD];rw [List.take_of_length_le (by omega)]at dw;exact⟨-1,rfl,hK w' _ ⟨fun h=>absurd (of_decide_eq_true h) (by omega),fun⟨p,hp,hn⟩=>absurd (dw p hp) hn⟩ kw⟩
theorem gL{w:World}{a b:Nat}{ca cb:Array Value}{ta tb:TypeId}{fa fb:Nat×Nat}(ha:w.heap[a]? =some (.cells ca ta fa))(hb:w.heap[b]? =some (.cells cb tb fb))(fc:ta≠tb):a≠b:=by
 rintro rfl;rw [ha]at hb;simp only [Option.some.injEq,Obj.cells.injEq]at hb;exact fc hb.2.1
theorem GV.XA(G:GV w S F g D C bl c mb M)(W:iT D){q:Nat}{nd:DN}{m:NM}(hq:D[q]? =some nd)(hm:M[q]? =some m){A5:Option Addr}{n5 c5:Nat}{Xj:List HT}
 (kT:Kept (fun k=>aX m.cA=some k\/k=m.b) w w') (hb:w'.heap[m.b]? =some (.cells (dJ nd.id {m with cA:=A5,cn:=n5,cc:=c5}) cH (0,0))) (eV:bQ w' w.heap.size A5 n5 c5 Xj):
 GV w' (fun k=>S k\/aX A5=some k) F g D (fun x=>if x=nd.id then Xj else C x) bl c mb (M.set q {m with cA:=A5,cn:=n5,cc:=c5}):=by
 have N:=G.node q nd m hq hm;have JK:q<M.length:=(List.getElem?_eq_some_iff.1 hm).1;have lR: ∀k,aX m.cA=some k-> ∃cur,w.heap[k]? =some (.cells cur ao (0,0)):=fun k hk=>(Row.bC N.ch hk).2;have hF: ∀k,F k-> ¬(aX m.cA=some k\/k=m.b):=fun k hk e=>by
  rcases e with e|rfl
  ·exact G.Au k (N.I5 k e) hk
  ·exact G.Au _ N.dR hk
 have UM: ∀ {k:Nat} {cs:Array Value} {t:TypeId},w.heap[k]? =some (.cells cs t (0,0))->t≠ao->t≠cH-> ¬(aX m.cA=some k\/k=m.b):=fun h h1 h2 e=>by
  rcases e with e|rfl
  ·obtain⟨cur,hc⟩:=lR _ e
   exact gL h hc h1 rfl
  ·exact gL h N.bC h2 rfl
 have EK: ∀k,aX A5=some k->w.heap.size<=k:=fun k hk=>(Row.bC eV hk).1;have ek: ∀(i:Nat) m',(M.set q {m with cA:=A5,cn:=n5,cc:=c5})[i]? =some m'->(i=q/\m'= {m with cA:=A5,cn:=n5,cc:=c5})\/(i≠q/\M[i]? =some m'):=fun i m' h=>by
  by_cases e:i=q
  ·subst e
   rw [List.getElem?_set_self JK]at h;exact .inl ⟨rfl,(Option.some.inj h).symm⟩
  ·rw [List.getElem?_set_ne (Ne.symm e)]at h
   exact .inr ⟨e,h⟩
 refine⟨?_,?_,?_,by simpa using G.len,?_,?_,.inl G.e9,.inl G.pr,.inl G.qZ,?_,?_⟩
 ·exact kT.heap G.top (UM G.top (by decide) (by decide))
 ·have Ic:(M.set q {m with cA:=A5,cn:=n5,cc:=c5}).map (fun m=>Value.pointer (some ⟨m.b,0,none⟩))=M.map fun m=>Value.pointer (some ⟨m.b,0,none⟩):=by
   apply List.ext_getElem?;intro i;rw [List.getElem?_map,List.getElem?_map];by_cases e:i=q
   ·subst e
    rw [List.getElem?_set_self JK,hm];rfl
   ·rw [List.getElem?_set_ne (Ne.symm e)]
  rw [Ic];refine Row.aG G.row kT (fun k e=>?_);cases e;obtain⟨_,cur,hc⟩:=Row.bC G.row (k:=bl) rfl;exact UM hc (by decide) (by decide)
 ·refine G.map.aG kT (fun e=>?_)
  obtain⟨es,clock,Eu,_⟩:=G.map.ex;rcases e with e|e
  ·obtain⟨cur,hc⟩:=lR _ e
   rw [hc]at Eu;cases Eu
  ·rw [e,N.bC]at Eu;cases Eu
 ·intro i nd' m' hi mH
  rcases ek i m' mH with⟨rfl,rfl⟩|⟨fc,Mz⟩
  ·rw [hq]at hi
   cases hi;rw [if_pos rfl];exact⟨hb,.inl N.dR,N.ps.aG kT (fun a ha=>hF _ (N.DI a ha)),N.DI,Row.base eV (fun _ _=>Nat.zero_le _),fun k hk=>.inr hk,N.past.aG kT (fun a ha=>hF _ (N.lH a ha)),N.lH,N.ok,N.bits,N.small⟩
  ·have N':=G.node i nd' m' hi Mz
   have hid:nd'.id≠nd.id:=fun e=>fc (W.inj hi hq e);rw [if_neg hid];have S6:m'.b≠m.b:=fun e=>by
    have h1:=N'.bC;rw [e,N.bC]at h1;simp only [Option.some.injEq,Obj.cells.injEq]at h1;exact hid (zf h1.1).symm
   refine⟨kT.heap N'.bC (fun e=>?_),.inl N'.dR,N'.ps.aG kT (fun a ha=>hF _ (N'.DI a ha)),N'.DI,Row.aG N'.ch kT (fun k hk e=>?_),fun k hk=>.inl (N'.I5 k hk),N'.past.aG kT (fun a ha=>hF _ (N'.lH a ha)),N'.lH,N'.ok,N'.bits,N'.small⟩
   ·rcases e with e|e
    ·obtain⟨cur,hc⟩:=lR _ e
     exact gL N'.bC hc (by decide) rfl
    ·exact S6 e
   ·rcases e with e|rfl
    ·exact G.apart i q m' m Mz hm fc k hk e
    ·obtain⟨cur,hc⟩:=(Row.bC N'.ch hk).2
     exact gL hc N.bC (by decide) rfl
 ·intro i j m1 m2 h1 h2 oe k Ew kQ
  rcases ek i m1 h1 with⟨rfl,rfl⟩|⟨hi,po⟩
  ·rcases ek j m2 h2 with⟨rfl,rfl⟩|⟨hj,qT⟩
   ·exact oe rfl
   ·have:=EK k Ew
    have rH:j<D.length:=by rw [<-G.len];exact(List.getElem?_eq_some_iff.1 qT).1
    obtain⟨cur,hc⟩:=(Row.bC (G.node j _ m2 (List.getElem?_eq_getElem rH) qT).ch kQ).2;have:=aQ hc;omega
  ·rcases ek j m2 h2 with⟨rfl,rfl⟩|⟨hj,qT⟩
   ·have:=EK k kQ
    have eI:i<D.length:=by rw [<-G.len];exact(List.getElem?_eq_some_iff.1 po).1
    obtain⟨cur,hc⟩:=(Row.bC (G.node i _ m1 (List.getElem?_eq_getElem eI) po).ch Ew).2;have:=aQ hc;omega
   ·exact G.apart i j m1 m2 po qT oe k Ew kQ
 ·intro k hk hf
  rcases hk with hk|hk
  ·exact G.Au k hk hf
  ·have:=EK k hk
   have:=G.low k (.inr hf);omega
 ·intro k hk
  rcases hk with(hk|hk)|hk
  ·exact Nat.lt_of_lt_of_le (G.low k (.inl hk)) kT.size
  ·obtain⟨cur,hc⟩:=(Row.bC eV hk).2
   exact aQ hc
  ·exact Nat.lt_of_lt_of_le (G.low k (.inr hk)) kT.size
end
end Go.Proofs.YtnboahlopghcjaaGreatDoor
namespace Go.Proofs.YtnboahlopghcjaaGreatDoor
open Go.Proofs.Tryz
open Go Go.bp Go.RowKit
theorem uQ(h:HT)(m:NM)(A:Option Addr)(n c:Nat):(dJ h m).setIfInBounds 33 (.slice A n c)=dJ h {m with cA:=A,cn:=n,cc:=c}:=by
 have hs:=h.2.1;apply Array.ext_getElem?;intro i;unfold dJ;rw [Array.getElem?_setIfInBounds,Array.getElem?_append,Array.getElem?_append];by_cases h1:i<h.1.size
 ·rw [if_neg (by omega),if_pos h1,if_pos h1]
 ·rw [if_neg h1,if_neg h1]
  by_cases h2:i=33
  ·subst h2
   rw [if_pos rfl,if_pos (by simp;omega),hs];rfl
  ·rw [if_neg (Ne.symm h2),hs]
   match i-32,show i-32≠1 by omega with
   |0,_=>rfl
   |2,_=>rfl
   |(k+3),_=>rfl
theorem uP(h:HT)(m:NM)(A:Option Addr)(n c:Nat):(dJ h m).setIfInBounds 34 (.slice A n c)=dJ h {m with rA:=A,rn:=n,rc:=c}:=by
 have hs:=h.2.1;apply Array.ext_getElem?;intro i;unfold dJ;rw [Array.getElem?_setIfInBounds,Array.getElem?_append,Array.getElem?_append];by_cases h1:i<h.1.size
 ·rw [if_neg (by omega),if_pos h1,if_pos h1]
 ·rw [if_neg h1,if_neg h1]
  by_cases h2:i=34
  ·subst h2
   rw [if_pos rfl,if_pos (by simp;omega),hs];rfl
  ·rw [if_neg (Ne.symm h2),hs]
   match i-32,show i-32≠2 by omega with
   |0,_=>rfl
   |1,_=>rfl
   |(k+3),_=>rfl
section
variable{w w0 w':World}{S F F1 S':Nat->Prop}{g bl c mb gb ib nb:Nat}{D:DG}{C:HT->List HT}{M:List NM}{K:Value->World->Prop}
noncomputable def fF(D:DG)(h:HT)(l:List HT):HT->List HT:=fun x=>if x∈l then cX (eo D x++ [h])else eo D x
structure AL(w0 w':World)(S F1 S':Nat->Prop)(g:Nat)(D:DG)(h:HT)(l:List HT)(gb ib nb:Nat)(pA:Option Addr)(pc i bl c mb:Nat)(M:List NM)(rA:Option Addr)(rn rc:Nat)(ws:List Nat):Prop where
 G:GV w' S' F1 g D (fF D h (l.take i)) bl c mb M
 sub: ∀k,S k->S' k
 new: ∀k,S' k->S k\/w0.heap.size<=k
 node:w'.heap[nb]? =some (.cells (dJ h ⟨nb,pA,l.length,pc,none,0,0,rA,rn,rc,ws⟩) cH (0,0))
 Qj: ¬S' nb
 row:ik w' nb rA rn rc ws
 ok:okW ws
 small:rn<=200
 Qi: ∀k,aX rA=some k-> ¬S' k
 bits: ∀j,bit ws j=true↔ ∃p∈l.take i,∃nj,D[j]? =some nj/\(nj.id=p\/eB D nj.id p)
 Pv:w'.heap[gb]? =some (.cells #[.pointer (some ⟨g,0,none⟩)] iG (0,0))
 Vs:w'.heap[ib]? =some (.cells h.1 ao (0,0))
 U5: ¬S' gb
 U4: ¬S' ib
 hl:HS w' pA l.length l
 kp:Kept S w0 w'
theorem zZ{h:HT}{l:List HT}{pA:Option Addr}{pc i:Nat}{rA:Option Addr}{rn rc:Nat}{ws:List Nat}{Q:aJ}
 (L:AL w0 w' S F1 S' g D h l gb ib nb pA pc i bl c mb M rA rn rc ws) (W:iT D) (hD:D.length<=10000) (tC:SS l) (fY: ∀p∈l,p∈ids D) (Ap: ∀k,F1 k->k<nb) (FT: ∀a,pA=some a->F1 a.block) (h0:w0.heap.size<=nb) (eI:i<l.length) (hll:l.length<=10000)
 (hQ: ∀S2 M rA rn rc ws v,AL w0 v S F1 S2 g D h l gb ib nb pA pc (i+1) bl c mb M rA rn rc ws->Q .normal (aW.e1 ⟨gb,0,none⟩ ⟨ib,0,none⟩ 0 ⟨nb,0,none⟩ pA l.length pc (l.length:Int) ((i:Int)+1)) v):
 aW.B1 ⟨gb,0,none⟩ ⟨ib,0,none⟩ 0 ⟨nb,0,none⟩ pA l.length pc (l.length:Int) (i:Int) Q w':=by
 obtain⟨p,hp⟩: ∃p,l[i]? =some p:=⟨_,List.getElem?_eq_getElem eI⟩;have pX:=List.mem_of_getElem? hp;have RF:=fY p pX;refine Split.yes (decide_eq_true (by omega)) ?_;refine L.hl.load (i:=(i:Int)) (by omega) hp ?_;intro rK;obtain⟨nt,ij,ig⟩:=dU (w:=w') (z:=(#[.int .u8 0,.int .u8 0,.int .u8 0,.int .u8 0,.int .u8 0,.int .u8 0,.int .u8 0,.int .u8 0,.int .u8 0,.int .u8 0,.int .u8 0,.int .u8 0,.int .u8 0,.int .u8 0,.int .u8 0,.int .u8 0,.int .u8 0,.int .u8 0,.int .u8 0,.int .u8 0,.int .u8 0,.int .u8 0,.int .u8 0,.int .u8 0,.int .u8 0,.int .u8 0,.int .u8 0,.int .u8 0,.int .u8 0,.int .u8 0,.int .u8 0,.int .u8 0]:Array Value)) (cs:=p.1) (t:=ao) (by rw [p.2.1];rfl);refine⟨⟨p.2.1,p.2.one,fun j hj=>nt j (by rw [p.2.1];exact hj)⟩,?_⟩;intro rJ
 replace ij:rJ.heap[w'.heap.size]? =some (.cells p.1 ao (0,0)):=ij
 replace rC:Kept Nil w' rJ:=ig
 clear_value rJ;refine⟨some ⟨g,0,none⟩,by rw [az (rC.heap L.Pv (fun h=>h))];rfl,p.1,⟨p.2.1,Cells.bC ij⟩,?_⟩;refine re (L.G.same rC) p fun w40 x Vo hx=>⟨x,rfl,?_⟩;rcases hx with⟨rfl,rD⟩|⟨q,nd,m',hq,fG,mH,rfl⟩
 ·exact absurd RF rD
 intro vP;have BB:Kept Nil w' vP:=(rC.trans Vo (fun _ _ h=>h)).drew;have Cp:vP.heap[w'.heap.size]? =some (.cells p.1 ao (0,0)):=Vo.heap ij (fun h=>h);clear_value vP;have Ze:=BB.size;have PM:=L.G.same BB;obtain⟨m,hm,Kh⟩:=PM.get hq;rw [mH]at hm;cases hm;have Ib:=BB.heap L.node (fun h=>h);have uF:ik vP nb rA rn rc ws:=Row.aG L.row BB (fun _ _ h=>h);refine⟨rA,rn,rc,by rw [a7,Nat.zero_add,az Ib];exact uR _ _,?_⟩;refine⟨_,_,_,sE Kh,some ⟨g,0,none⟩,by rw [az (BB.heap L.Pv (fun h=>h))];rfl,?_⟩;refine⟨some mb,PM.at_,p.1,⟨p.2.1,Cells.bC Cp⟩,_,PM.map.sM p,?_⟩;rw [show pos p (ids D) 0=some q by rw [<-fG];exact W.pos_eq hq,Option.getD_some];have JK:=(List.getElem?_eq_some_iff.1 hq).1;have zv:=Kh.small;have Y2:=L.small;have Rk: ∀k,aX rA=some k->nb<=k/\k<w'.heap.size:=fun k hk=>by
  obtain⟨h1,cur,hc⟩:=Row.bC L.row hk;exact⟨h1,aQ hc⟩
 have RT:nb<w'.heap.size:=aQ L.node;have Fa: ∀ {v:World} {A:Option Addr} {n c:Nat} {l:List Nat} {B:Nat},ik v B A n c l-> ∀ {k:Nat} {cs:Array Value} {t:TypeId},v.heap[k]? =some (.cells cs t (0,0))->t≠fC-> ¬aX A=some k:=fun hr _ _ _ hk fc e=>by
  obtain⟨_,cur,hc⟩:=Row.bC hr e;exact gL hk hc fc rfl
 refine sA uF L.ok (by omega) (by omega) Kh.past Kh.ok (by omega) (fun a ha k hk e=>?_) fun A2 n2 c2 l2 E6 o7 RN ZC II BA Ti=>⟨A2,n2,c2,rfl,?_⟩
 ·have h1:=Ap a.block (Kh.lH a ha)
  have h2:=(Rk k hk).1;omega
 have V9: ∀k,F1 k-> ¬aX rA=some k:=fun k hk e=>by have:=Ap k hk;have:=(Rk k e).1;omega
 have Ux:=PM.aG BA (fun k hk e=>L.Qi k e hk) V9;have Nn:=BA.heap Cp (Fa uF Cp (by decide));have MZ:=BB.heap L.Pv (fun h=>h);have Ix:=BA.heap MZ (Fa uF MZ (by decide));have MU:=BB.heap L.Vs (fun h=>h);have MS:=BA.heap MU (Fa uF MU (by decide));have FZ:=BA.heap Ib (Fa uF Ib (by decide));have Zd:=BA.size;have MI:=Ux.map.sM p;rw [show pos p (ids D) 0=some q by rw [<-fG];exact W.pos_eq hq,Option.getD_some]at MI;refine⟨MI,⟨p.1,rfl,p.2.1,Cells.bC Nn⟩,Ux.at_,by rw [az Ix];rfl,?_⟩;have WW: ∀k,aX A2=some k->aX rA=some k\/vP.heap.size<=k:=Ti;refine uD o7 RN (by omega) (by omega) (by omega) fun A3 n3 c3 l3 mV sC RM ZB IH zo IK=>⟨A3,n3,c3,rfl,?_⟩;have wU: ∀k,aX A2=some k-> ¬S' k:=fun k hk hs=>by
  rcases WW k hk with h|h
  ·exact L.Qi k h hs
  ·have:=L.G.low k (.inl hs);omega
 have Cb: ∀k,F1 k-> ¬aX A2=some k:=fun k hf hk=>by
  have:=Ap k hf;have:=(Row.bC o7 hk).1;omega
 have G55:=Ux.aG zo (fun k hk e=>wU k e hk) Cb;have EC:=zo.heap Ix (Fa o7 Ix (by decide));have MR:=zo.heap MS (Fa o7 MS (by decide));have vj:=zo.heap FZ (Fa o7 FZ (by decide));have Zc:=zo.size;have VP:=qC h ⟨nb,pA,l.length,pc,none,0,0,rA,rn,rc,ws⟩;refine⟨by rw [a7,Nat.zero_add];exact dE vj (by omega),?_⟩;intro UJ Ay;have D8:Kept (· =nb) mV UJ:=by
  show Kept (· =nb) mV (mV.setCell ((⟨nb,0,none⟩:Addr).add 34) (.slice A3 n3 c3))
  exact Kept.setCell (S:=fun k=>k=nb) (Kept.refl _ mV) (by rw [fV];exact fun _=>rfl) _
 have Mq:UJ.heap[nb]? =some (.cells (dJ h ⟨nb,pA,l.length,pc,none,0,0,A3,n3,c3,l3⟩) cH (0,0)):=by
  show(mV.setCell ((⟨nb,0,none⟩:Addr).add 34) (.slice A3 n3 c3)).heap[nb]? =_;rw [a7,Nat.zero_add,cQ vj 34,uP];rfl
 have Bz:Kept (· =nb) mV Ay:=D8.drew;have Mp:Ay.heap[nb]? =some (.cells (dJ h ⟨nb,pA,l.length,pc,none,0,0,A3,n3,c3,l3⟩) cH (0,0)):=Mq;clear_value Ay;clear Mq D8;have Zb:=Bz.size;have Uw:=G55.aG Bz (fun k hk e=>L.Qj (e▸hk)) (fun k hk e=>by have:=Ap k hk;omega);have MY:=Bz.heap EC (gL EC vj (by decide));have Iq:=Bz.heap MR (gL MR vj (by decide));have KI:ik Ay nb A3 n3 c3 l3:=Row.aG sC Bz (fun k hk e=>by
  subst e;exact Fa sC vj (by decide) hk)
 obtain⟨m,hm,Uj⟩:=Uw.get hq;rw [mH]at hm;cases hm;refine⟨m'.cA,m'.cn,m'.cc,xT Uj,h.1,⟨h.2.1,Cells.bC Iq⟩,h.2.1,?_⟩;intro OK;have QE:Kept Nil Ay OK:=(Kept.refl _ _).alloc _;have IG:HS OK (some ⟨Ay.heap.size,0,none⟩) 1 [h]:=kV Ay h;clear_value OK;have G62:=Uw.same QE;obtain⟨m,hm,Kg⟩:=G62.get hq;rw [mH]at hm;cases hm;refine⟨xT Kg,?_⟩;have Nk:=Kg.ch.len;have yh:fF D h (l.take i) nd.id=eo D p:=by
  unfold fF;rw [fG,if_neg];intro jm;obtain⟨j,hj⟩:=List.mem_iff_getElem?.1 jm;rw [List.getElem?_take]at hj;split at hj
  ·have:=tC.get (by omega) hj hp
   rw [fw]at this;cases this
  ·cases hj
 have tH:=nQ D fun a=>lh D p a;have Pk:m'.cn<=10000:=by
  rw [<-Nk,yh];unfold eo;omega
 obtain⟨A7,c7,Ad,Rp,KG,Ss,Tg⟩:=fE (cx:=1) aR Kg.ch IG (by omega) (Nat.zero_le _);have zn:Kept (fun k=>aX m'.cA=some k) OK Ad:=Kept.grown (Kept.refl _ _) Ss (fun k hk _=>hk);refine⟨A7,_,c7,Ad,Rp,?_⟩;have Za:=QE.size;have LN:=zn.size;refine fD KG.hs (by omega) fun A5 c5 GL A0 QD=>⟨A5,_,c5,rfl,?_⟩;have Y9:=QD.size;have Mw:=zn.heap Kg.bC (fun e=>by
  obtain⟨_,cur,hc⟩:=Row.bC Kg.ch e;exact gL Kg.bC hc (by decide) rfl)
 have Cd:=QD.heap Mw (fun h=>h);refine⟨by rw [a7,Nat.zero_add];exact dE Cd (by rw [qC];omega),?_⟩;intro xF;have Lf:Kept (· =m'.b) GL xF:=by
  show Kept (· =m'.b) GL (GL.setCell ((⟨m'.b,0,none⟩:Addr).add 33) (.slice A5 (cX (fF D h (l.take i) nd.id++ [h])).length c5))
  exact Kept.setCell (S:=fun k=>k=m'.b) (Kept.refl _ GL) (by rw [fV];exact fun _=>rfl) _
 have Mv:xF.heap[m'.b]? =some (.cells (dJ nd.id {m' with cA:=A5,cn:=(cX (fF D h (l.take i) nd.id++ [h])).length,cc:=c5}) cH (0,0)):=by
  show(GL.setCell ((⟨m'.b,0,none⟩:Addr).add 33) (.slice A5 (cX (fF D h (l.take i) nd.id++ [h])).length c5)).heap[m'.b]? =_;rw [a7,Nat.zero_add,cQ Cd 33,uQ]
 clear_value xF;have kT:Kept (fun k=>aX m'.cA=some k\/k=m'.b) Ay xF:=
  (((QE.mono (S':=fun k=>aX m'.cA=some k\/k=m'.b) (fun _ _ h=>h.elim)).trans zn (fun _ _ h=>.inl h)).trans QD (fun _ _ h=>h.elim)).trans Lf (fun _ _ h=>.inr h)
 have BW:bQ xF Ay.heap.size A5 (cX (fF D h (l.take i) nd.id++ [h])).length c5 (cX (fF D h (l.take i) nd.id++ [h])):=
  Row.base (Row.aG A0 Lf (fun k hk e=>by
   subst e;obtain⟨_,cur,hc⟩:=Row.bC A0 hk;exact gL Cd hc (by decide) rfl)) (fun k hk=>by have:=(Row.bC A0 hk).1;omega)
 have Xo:=Uw.XA W hq mH kT Mv BW;have EK: ∀k,aX A5=some k->Ay.heap.size<=k:=fun k hk=>(Row.bC BW hk).1;have JY: ∀k,(aX m'.cA=some k\/k=m'.b)->S' k:=fun k e=>by
  rcases e with e|rfl
  ·exact Uj.I5 k e
  ·exact Uj.dR
 have ZR:(fun x=>if x=nd.id then cX (fF D h (l.take i) nd.id++ [h])else fF D h (l.take i) x)=fF D h (l.take (i+1)):=by
  funext x
  by_cases hx:x=nd.id
  ·rw [if_pos hx,yh,hx,fG]
   unfold fF;rw [if_pos ((bt hp).2 (.inr rfl))]
  ·rw [if_neg hx]
   unfold fF;have:x∈l.take (i+1)↔x∈l.take i:=by
    rw [bt hp];exact⟨fun e=>e.resolve_right (fun e=>hx (by rw [fG];exact e)),.inl⟩
   by_cases hm:x∈l.take i
   ·rw [if_pos hm,if_pos (this.2 hm)]
   ·rw [if_neg hm,if_neg (fun e=>hm (this.1 e))]
 rw [ZR]at Xo;rw [e8 (n:=(i:Int)) (by omega) (by omega)];have V8:nb<Ay.heap.size:=aQ Mp;have km:Kept S w0 xF:=by
  have k1:=L.kp.trans BB (fun _ _ h=>h.elim);have k2:=k1.trans BA (fun k hk e=>absurd (Rk k e).1 (by omega));have k3:=k2.trans zo (fun k hk e=>absurd (Row.bC o7 e).1 (by omega));have k4:=k3.trans Bz (fun k hk e=>by omega);exact k4.trans kT (fun k hk e=>by
   rcases L.new k (JY k e)with h|h
   ·exact h
   ·omega)
 refine hQ _ _ A3 n3 c3 l3 xF ⟨Xo,fun k hk=>.inl (L.sub k hk),fun k hk=>?_,kT.heap Mp (fun e=>L.Qj (JY _ e)),fun e=>?_,Row.aG KI kT (fun k hk e=>?_),RM,by omega,fun k hk e=>?_,fun j=>?_,
  kT.heap MY (fun e=>L.U5 (JY _ e)),kT.heap Iq (fun e=>L.U4 (JY _ e)),fun e=>?_,fun e=>?_,?_,km⟩
 ·rcases hk with hk|hk
  ·exact L.new k hk
  ·have:=EK k hk
   have:=L.kp.size;exact .inr (by omega)
 ·rcases e with e|e
  ·exact L.Qj e
  ·have:=EK _ e;omega
 ·have hs:=JY k e
  rcases IK k hk with h|h
  ·exact wU k h hs
  ·have:=L.G.low k (.inl hs);omega
 ·have hk3:k<mV.heap.size:=by
   obtain⟨_,cur,hc⟩:=Row.bC sC hk;exact aQ hc
  rcases e with e|e
  ·rcases IK k hk with h|h
   ·exact wU k h e
   ·have:=L.G.low k (.inl e);omega
  ·have:=EK _ e;omega
 ·rw [IH,Bool.or_eq_true,II,Bool.or_eq_true,L.bits,Kh.bits,decide_eq_true_iff]
  constructor
  ·rintro((⟨p',h1,h2⟩|⟨nj,h1,h2⟩)|rfl)
   ·exact⟨p',(bt hp).2 (.inl h1),h2⟩
   ·exact⟨p,(bt hp).2 (.inr rfl),nj,h1,.inr (fG▸h2)⟩
   ·exact⟨p,(bt hp).2 (.inr rfl),nd,hq,.inl fG⟩
  ·rintro⟨p',h1,nj,h2,h3⟩
   rcases(bt hp).1 h1 with h1|rfl
   ·exact .inl (.inl ⟨p',h1,nj,h2,h3⟩)
   ·rcases h3 with h3|h3
    ·exact .inr (W.inj h2 hq (h3.trans fG.symm))
    ·exact .inl (.inr ⟨nj,h2,fG▸h3⟩)
 ·rcases e with e|e
  ·exact L.U5 e
  ·have:=EK _ e;have:=aQ MY;omega
 ·rcases e with e|e
  ·exact L.U4 e
  ·have:=EK _ e;have:=aQ Iq;omega
 ·have hb: ∀a,pA=some a->F1 a.block/\a.block<nb:=fun a ha=>⟨FT a ha,Ap _ (FT a ha)⟩
  have k1:=L.hl.same BB;have k2:=k1.aG BA (fun a ha=>V9 _ (hb a ha).1);have k3:=k2.aG zo (fun a ha=>Cb _ (hb a ha).1);have k4:=k3.aG Bz (fun a ha e=>by have:=(hb a ha).2;omega);exact k4.aG kT (fun a ha e=>L.G.Au _ (JY _ e) (hb a ha).1)
end
end Go.Proofs.YtnboahlopghcjaaGreatDoor
namespace Go.Proofs.YtnboahlopghcjaaGreatDoor
open Go.Proofs.Tryz
open Go Go.bp Go.RowKit
theorem KC:yx prog iU dg 1 8:=⟨by kernel_rfl,by kernel_rfl⟩
theorem CR:On prog cH=some ([(0,32),(32,1),(33,1),(34,1)],List.replicate 32 (.int .u8 0)++ [.slice none 0 0,.slice none 0 0,.slice none 0 0]):=by kernel_rfl
theorem CO(h:HT)(b:Nat)(A:Option Addr)(n c:Nat):prog.built cH [(0,.agg h.1),(1,.slice A n c)]=some (dJ h ⟨b,A,n,c,none,0,0,none,0,0,[]⟩):=by
 have hs:=h.2.1;rw [ot CR,iA (off:=0) (size:=32) rfl (by simpa [Value.cells]using hs) (by simp),iA (off:=32) (size:=1) rfl rfl (by
  rw [List.size_toArray,kc (by simp [Value.cells,hs])];simp)]
 simp only [Instr.fill,Option.some.injEq];apply Array.ext';unfold fh dJ;simp [Value.cells,hs];rw [List.drop_append];simp [hs]
theorem zU(h:HT)(b:Nat):prog.built cH [(0,.agg h.1)]=some (dJ h ⟨b,none,0,0,none,0,0,none,0,0,[]⟩):=by
 have hs:=h.2.1;rw [ot CR,iA (off:=0) (size:=32) rfl (by simpa [Value.cells]using hs) (by simp)];simp only [Instr.fill,Option.some.injEq];apply Array.ext';unfold fh dJ;simp [Value.cells,hs]
section
variable{D:DG}{h:HT}{l:List HT}
theorem xp(W:iT D)(hn:h∉ids D){x:HT}:fF D h l x=eo (D++ [⟨h,l⟩]) x:=by
 have jm: ∀a,a∈eo (D++ [⟨h,l⟩]) x↔(a∈eo D x\/(a=h/\x∈l)):=fun a=>by
  unfold eo;rw [iK,iK,jM,iL,List.mem_append,List.mem_singleton];constructor
  ·rintro⟨h1,h2|⟨h2,h3⟩⟩
   ·exact .inl ⟨(eB.mem W (.one h2)).2,h2⟩
   ·exact .inr ⟨h2.symm,h3⟩
  ·rintro(⟨h1,h2⟩|⟨rfl,h2⟩)
   ·exact⟨.inl h1,.inl h2⟩
   ·exact⟨.inr rfl,.inr ⟨rfl,h2⟩⟩
 unfold fF;by_cases r4:x∈l
 ·rw [if_pos r4]
  refine(wh (l:=eo (D++ [⟨h,l⟩]) x) (gv _) fun a=>?_).symm;rw [jm,List.mem_append,List.mem_singleton];exact⟨fun e=>e.imp (fun e=>e) (fun e=>e.1),fun e=>e.imp (fun e=>e) (fun e=>⟨e,r4⟩)⟩
 ·rw [if_neg r4]
  refine tY (gv _) (gv _) fun a=>?_;have:=jm a;unfold eo pick at this⊢;rw [this];exact⟨.inl,fun e=>e.resolve_right (fun e=>r4 e.2)⟩
theorem zT(W:iT D)(hn:h∉ids D)(fY: ∀p∈l,p∈ids D):eo (D++ [⟨h,l⟩]) h= []:=by
 cases hc:eo (D++ [⟨h,l⟩]) h with
 |nil=>rfl
 |cons b t=>
  exfalso;have:b∈eo (D++ [⟨h,l⟩]) h:=by rw [hc];simp
  rcases jM.1 (iK.1 this).2 with h1|⟨_,h2⟩
  ·exact hn (eB.mem W (.one h1)).1
  ·exact hn (fY h h2)
theorem CS(W:iT D)(hn:h∉ids D){x:HT}(hx:x∈ids D)(j:Nat):(∃nj,(D++ [⟨h,l⟩])[j]? =some nj/\eB (D++ [⟨h,l⟩]) nj.id x)↔ ∃nj,D[j]? =some nj/\eB D nj.id x:=by
 constructor
 ·rintro⟨nj,h1,h2⟩
  have qT:=(fU W (nd:=⟨h,l⟩) hn hx).1 h2;rw [List.getElem?_append]at h1;split at h1
  ·exact⟨nj,h1,qT⟩
  ·exfalso
   have:nj=⟨h,l⟩:=by
    cases hk:j-D.length with
    |zero=>rw [hk]at h1;simpa using h1.symm
    |succ k=>rw [hk]at h1;simp at h1
   subst this;exact hn (qT.mem W).1
 ·rintro⟨nj,h1,h2⟩
  exact⟨nj,by rw [List.getElem?_append_left (List.getElem?_eq_some_iff.1 h1).1];exact h1,(fU W (nd:=⟨h,l⟩) hn hx).2 h2⟩
theorem CT(W:iT D)(hn:h∉ids D)(fY: ∀p∈l,p∈ids D)(hs:SS l)(j:Nat):
 (∃nj,(D++ [⟨h,l⟩])[j]? =some nj/\eB (D++ [⟨h,l⟩]) nj.id h)↔ ∃p∈l,∃nj,D[j]? =some nj/\(nj.id=p\/eB D nj.id p):=by
 have W':iT (D++ [⟨h,l⟩]):=W.snoc (nd:=⟨h,l⟩) hn fY hs;have ek:(D++ [⟨h,l⟩])[D.length]? =some ⟨h,l⟩:=by rw [List.getElem?_append_right (Nat.le_refl _),Nat.sub_self];rfl
 have key: ∀a,eB (D++ [⟨h,l⟩]) a h↔ ∃p∈l,a=p\/eB D a p:=fun a=>by
  rw [p5 W' ek a];constructor
  ·rintro⟨p,hp,e⟩
   exact⟨p,hp,e.imp (fun e=>e) (fun e=>(fU W (nd:=⟨h,l⟩) hn (fY p hp)).1 e)⟩
  ·rintro⟨p,hp,e⟩
   exact⟨p,hp,e.imp (fun e=>e) (fun e=>(fU W (nd:=⟨h,l⟩) hn (fY p hp)).2 e)⟩
 constructor
 ·rintro⟨nj,h1,h2⟩
  obtain⟨p,hp,e⟩:=(key _).1 h2;have hid:nj.id∈ids D:=by
   rcases e with e|e
   ·rw [e];exact fY p hp
   ·exact(e.mem W).1
  rw [List.getElem?_append]at h1;split at h1
  ·exact⟨p,hp,nj,h1,e⟩
  ·exfalso
   have:nj=⟨h,l⟩:=by
    cases hk:j-D.length with
    |zero=>rw [hk]at h1;simpa using h1.symm
    |succ k=>rw [hk]at h1;simp at h1
   subst this;exact hn hid
 ·rintro⟨p,hp,nj,h1,e⟩
  exact⟨nj,by rw [List.getElem?_append_left (List.getElem?_eq_some_iff.1 h1).1];exact h1,(key _).2 ⟨p,hp,e⟩⟩
end
section
variable{w w':World}{S F F':Nat->Prop}{g bl c mb:Nat}{D:DG}{C:HT->List HT}{M:List NM}{K:Value->World->Prop}
theorem GV.KU(G:GV w S F g D C bl c mb M)(hf: ∀k,F k->F' k)(hd: ∀k,S k-> ¬F' k)(hl: ∀k,F' k->k<w.heap.size):GV w S F' g D C bl c mb M:=
 ⟨G.top,G.row,G.map,G.len,fun i nd m h1 h2=>by
   have N:=G.node i nd m h1 h2;exact⟨N.bC,N.dR,N.ps,fun a ha=>hf _ (N.DI a ha),N.ch,N.I5,N.past,fun a ha=>hf _ (N.lH a ha),N.ok,N.bits,N.small⟩,G.apart,G.e9,G.pr,G.qZ,hd,fun k hk=>hk.elim (fun h=>G.low k (.inl h)) (hl k)⟩
theorem E1{w0:World}{F1 S':Nat->Prop}{h:HT}{l:List HT}{gb ib nb:Nat}{pA:Option Addr}{pc i:Nat}{rA:Option Addr}{rn rc:Nat}{ws:List Nat}
 (L:AL w0 w S F1 S' g D h l gb ib nb pA pc i bl c mb M rA rn rc ws) (W:iT D) (hD:D.length<=5000) (tC:SS l) (fY: ∀p∈l,p∈ids D) (hn:h∉ids D) (Ap: ∀k,F1 k->k<nb) (FT: ∀a,pA=some a->F1 a.block) (h0:w0.heap.size<=nb) (eI:l.length<=i)
 (hK: ∀v S2 F2,xB v S2 F2 g (D++ [⟨h,l⟩])->Kept S w0 v->(∀k,S2 k->S k\/w0.heap.size<=k)->(∀k,F2 k->F1 k\/w0.heap.size<=k)->K (.int .i64 0) v):
 aW.z8 ⟨gb,0,none⟩ ⟨ib,0,none⟩ 0 ⟨nb,0,none⟩ pA l.length pc (l.length:Int) (i:Int) K w:=by
 have LJ:l.take i=l:=List.take_of_length_le eI;have hG:=L.G;rw [LJ]at hG;have Gi:=L.bits;rw [LJ]at Gi;unfold aW.z8;intro Jn;have Fm:Kept Nil w Jn:=(Kept.refl _ _).drew;clear_value Jn;have p7:=hG.same Fm;have EB:=Fm.heap L.Pv (fun h=>h);have Cc:=Fm.heap L.node (fun h=>h);have xM:ik Jn nb rA rn rc ws:=Row.aG L.row Fm (fun _ _ h=>h);refine⟨some ⟨g,0,none⟩,by rw [az EB];rfl,some mb,p7.at_,h.1,⟨h.2.1,Cells.bC (Fm.heap L.Vs (fun h=>h))⟩,some ⟨g,0,none⟩,by rw [az EB];rfl,?_⟩;refine⟨_,_,_,p7.nodes,?_⟩;obtain⟨UH,LU,KY,Yl⟩:=p7.map.put hn;rw [iF]at LU;refine⟨UH,LU,?_⟩;intro Du;have Hj:Kept (· =mb) Jn Du:=Yl.drew;have Fi:IsMap Du mb (ids D++ [h]):=KY.aG ((Kept.refl Nil UH).drew) (fun h=>h);clear_value Du;have Dz: ∀ {v:World} {k:Nat} {cs:Array Value} {t:TypeId},IsMap v mb (ids D)->v.heap[k]? =some (.cells cs t (0,0))->k≠mb:=fun hm hk e=>by
  obtain⟨es,clock,Eu,_⟩:=hm.ex;rw [e,Eu]at hk;cases hk
 have Iw:=Hj.heap EB (Dz p7.map EB);have ZA:=Hj.heap Cc (Dz p7.map Cc);have BS:=Hj.heap p7.top (Dz p7.map p7.top);have KF:Row Du 0 dg 1 (some ⟨bl,0,none⟩) D.length c (M.map fun m=>.pointer (some ⟨m.b,0,none⟩)):=Row.aG p7.row Hj (fun k hk e=>by
  obtain⟨_,cur,hc⟩:=Row.bC p7.row hk;exact Dz p7.map hc e)
 have Qc:ik Du nb rA rn rc ws:=Row.aG xM Hj (fun k hk e=>by
  obtain⟨_,cur,hc⟩:=Row.bC xM hk;exact Dz p7.map hc e)
 refine⟨some ⟨g,0,none⟩,by rw [az Iw];rfl,some ⟨g,0,none⟩,by rw [az Iw];rfl,?_⟩;refine⟨some ⟨bl,0,none⟩,D.length,c,by rw [add_zero,az BS];rfl,?_⟩;intro GJ;have Jy:Kept Nil Du GJ:=(Kept.refl _ _).alloc _;have Tf:GJ.heap[Du.heap.size]? =some (.cells #[.pointer (some ⟨nb,0,none⟩)] dg (0,0)):=aN Du _;clear_value GJ;have EA:=Jy.heap Iw (fun h=>h);have wL:=Jy.heap BS (fun h=>h);refine⟨by rw [add_zero,az wL];rfl,by rw [az EA];rfl,by rw [az EA];rfl,?_⟩;have AY:Row GJ 0 dg 1 (some ⟨bl,0,none⟩) D.length c (M.map fun m=>.pointer (some ⟨m.b,0,none⟩)):=Row.aG KF Jy (fun _ _ h=>h);obtain⟨PQ,Kc,GI,Rn,AX,MX,Te⟩:=fT (P:=prog) (t:=iU) (ty:=iU) (bytes:=8) KC AY (a:=⟨Du.heap.size,0,none⟩) (m:=1) (cx:=1) (news:= [.pointer (some ⟨nb,0,none⟩)]) rfl
  (fun j u hj=>by rw [a7,Nat.zero_add,az Tf];simpa using hj) (fun u hu=>by simp at hu;subst hu;rfl) (by omega) (by unfold maxLen;omega) (Nat.zero_le _)
 have OT:Kept (· =bl) GJ GI:=Kept.grown (S:=fun k=>k=bl) (Kept.refl _ _) MX (fun k hk _=>by cases hk;rfl);refine⟨PQ,_,Kc,GI,Rn,?_⟩;have UN: ∀ {k:Nat} {cs:Array Value} {t:TypeId},GJ.heap[k]? =some (.cells cs t (0,0))->t≠dg->k≠bl:=fun hk fc=>by
  obtain⟨_,cur,hc⟩:=Row.bC AY (k:=bl) rfl;exact gL hk hc fc
 have Sq:=OT.heap EA (UN EA (by decide));have tA:=OT.heap wL (UN wL (by decide));refine⟨by rw [az Sq];rfl,by rw [add_zero];exact dE tA (by simp),?_⟩;intro C6;have QB:Kept (· =g) GI C6:=by
  show Kept (· =g) GI (GI.setCell ((⟨g,0,none⟩:Addr).add 0) (.slice PQ (D.length+1) Kc))
  exact Kept.setCell (S:=fun k=>k=g) (Kept.refl _ GI) (by rw [fV];exact fun _=>rfl) _
 have HQ:C6.heap[g]? =some (.cells #[.slice PQ (D.length+1) Kc,.map (some mb)] eR (0,0)):=by
  show(GI.setCell ((⟨g,0,none⟩:Addr).add 0) (.slice PQ (D.length+1) Kc)).heap[g]? =_;rw [add_zero,cQ tA 0];rfl
 clear_value C6;obtain⟨Kf,rfl⟩:=Row.some AX (by omega);have Y7:=Hj.size;have Y6:=Jy.size;have km:Kept (fun k=>k=g\/k=bl\/k=mb) Jn C6:=
  (((Hj.mono (S':=fun k=>k=g\/k=bl\/k=mb) (fun _ _ h=>.inr (.inr h))).trans Jy (fun _ _ h=>h.elim)).trans OT (fun _ _ h=>.inr (.inl h))).trans QB (fun _ _ h=>.inl h)
 have WO: ∀k,F1 k-> ¬(k=g\/k=bl\/k=mb):=fun k hk e=>by
  rcases e with rfl|rfl|rfl
  ·exact p7.Au _ p7.e9 hk
  ·exact p7.Au _ p7.pr hk
  ·exact p7.Au _ p7.qZ hk
 have ty: ∀ {k:Nat} {cs:Array Value} {t:TypeId},Jn.heap[k]? =some (.cells cs t (0,0))->t≠eR->t≠dg-> ¬(k=g\/k=bl\/k=mb):=fun hk h1 h2 e=>by
  rcases e with e|e|e
  ·rw [e]at hk
   exact gL hk p7.top h1 rfl
  ·rw [e]at hk
   obtain⟨_,cur,hc⟩:=Row.bC p7.row (k:=bl) rfl;exact gL hk hc h2 rfl
  ·exact Dz p7.map hk e
 have wO:Row C6 0 dg 1 (some ⟨Kf,0,none⟩) (D.length+1) Kc ((M.map fun m=>.pointer (some ⟨m.b,0,none⟩))++ [.pointer (some ⟨nb,0,none⟩)]):=Row.aG AX QB (fun k hk e=>by
  obtain⟨_,cur,hc⟩:=Row.bC AX hk;exact gL hc tA (by decide) e)
 have KX:IsMap C6 mb (ids D++ [h]):=by
  obtain⟨es,clock,Eu,_⟩:=Fi.ex;have h1:=Fi.aG Jy (fun h=>h);have h2:=h1.aG OT (fun e=>by
   obtain⟨_,cur,hc⟩:=Row.bC AY (k:=bl) rfl;obtain⟨_,_,mH,_⟩:=h1.ex;rw [e,hc]at mH;cases mH)
  exact h2.aG QB (fun e=>by
   obtain⟨_,_,mH,_⟩:=h2.ex;rw [e,tA]at mH;cases mH)
 have Ia:=km.heap Cc (ty Cc (by decide) (by decide));have tl:ik C6 nb rA rn rc ws:=Row.aG xM km (fun k hk e=>by
  obtain⟨_,cur,hc⟩:=Row.bC xM hk;exact ty hc (by decide) (by decide) e)
 have Ce:(D++ [(⟨h,l⟩:DN)]).length=D.length+1:=by simp
 have Nz:Kf=bl\/GJ.heap.size<=Kf:=by
  rcases Te Kf rfl with e|e
  ·exact .inl (by cases e;rfl)
  ·exact .inr e
 have lP:=L.kp.size;have Y8:=Fm.size;have RT:=aQ Cc;have LS: ∀k,aX rA=some k->nb<=k/\k<C6.heap.size:=fun k hk=>by
  obtain⟨h1,cur,hc⟩:=Row.bC tl hk;exact⟨h1,aQ hc⟩
 have ek: ∀ {X:Type} (xs:List X) (y:X) (j:Nat) (z:X),(xs++ [y])[j]? =some z->(j<xs.length/\xs[j]? =some z)\/(j=xs.length/\z=y):=fun xs y j z e=>by
  rw [List.getElem?_append]at e;split at e
  ·rename_i ck;exact .inl ⟨ck,e⟩
  ·rename_i iy
   cases hk:j-xs.length with
   |zero=>rw [hk]at e;exact .inr ⟨by omega,by simpa using e.symm⟩
   |succ k=>rw [hk]at e;simp at e
 refine hK C6 (fun k=>S' k\/k=nb\/k=Kf) (fun k=>F1 k\/aX rA=some k) ⟨Kf,Kc,mb,M++ [⟨nb,pA,l.length,pc,none,0,0,rA,rn,rc,ws⟩],?_⟩ ?_ ?_ ?_
 ·refine⟨by rw [Ce];exact HQ,?_,by rw [iL];exact KX,by simp [hG.len],fun j nd m h1 h2=>?_,fun j j' m m' h1 h2 fc k hk lg=>?_,.inl hG.e9,.inr (.inr rfl),.inl hG.qZ,fun k hk hf=>?_,fun k hk=>?_⟩
  ·rw [Ce,List.map_append]
   exact wO
  ·rcases ek _ _ _ _ h1 with⟨hj,po⟩|⟨hj,rfl⟩
   ·rcases ek _ _ _ _ h2 with⟨_,qT⟩|⟨sU,_⟩
    ·have N:=p7.node j nd m po qT
     have hid:nd.id∈ids D:=cR.2 ⟨nd,List.mem_of_getElem? po,rfl⟩;have hF: ∀k,F1 k-> ¬(k=g\/k=bl\/k=mb):=WO;rw [<-xp W hn];refine⟨km.heap N.bC (ty N.bC (by decide) (by decide)),.inl N.dR,N.ps.aG km (fun a ha=>hF _ (N.DI a ha)),fun a ha=>.inl (N.DI a ha),Row.aG N.ch km (fun k hk e=>?_),fun k hk=>.inl (N.I5 k hk),N.past.aG km (fun a ha=>hF _ (N.lH a ha)),fun a ha=>.inl (N.lH a ha),N.ok,fun j=>?_,N.small⟩
     ·obtain⟨cur,hc⟩:=(Row.bC N.ch hk).2
      exact ty hc (by decide) (by decide) e
     ·rw [N.bits,CS W hn hid]
    ·rw [hG.len]at sU;omega
   ·rcases ek _ _ _ _ h2 with⟨sU,_⟩|⟨_,rfl⟩
    ·rw [hG.len]at sU;omega
    ·rw [zT W hn fY]
     refine⟨Ia,.inr (.inl rfl),(L.hl.same Fm).aG km (fun a ha=>WO _ (FT a ha)),fun a ha=>.inl (FT a ha),bQ.nil _ _,(fun k hk=>by cases hk),tl.us,fun a ha=>.inr (congrArg aX ha),L.ok,fun j=>?_,L.small⟩;rw [Gi,CT W hn fY tC]
  ·rcases ek _ _ _ _ h1 with⟨_,po⟩|⟨_,rfl⟩
   ·rcases ek _ _ _ _ h2 with⟨_,qT⟩|⟨_,rfl⟩
    ·exact hG.apart j j' m m' po qT fc k hk lg
    ·cases lg
   ·cases hk
  ·rcases hk with hk|rfl|rfl
   ·rcases hf with hf|hf
    ·exact hG.Au k hk hf
    ·exact L.Qi k hf hk
   ·rcases hf with hf|hf
    ·have:=Ap k hf;omega
    ·obtain⟨_,cur,hc⟩:=Row.bC tl hf
     exact gL Ia hc (by decide) rfl
   ·rcases hf with hf|hf
    ·rcases Nz with e|e
     ·rw [e]at hf;exact hG.Au _ hG.pr hf
     ·have:=Ap _ hf;omega
    ·obtain⟨_,cur,hc⟩:=Row.bC tl hf
     obtain⟨_,Oh,qS⟩:=Row.bC wO (k:=k) rfl;exact gL qS hc (by decide) rfl
  ·have Y5:=km.size
   rcases hk with(hk|rfl|rfl)|hk|hk
   ·have:=p7.low k (.inl hk);omega
   ·exact aQ Ia
   ·obtain⟨_,Oh,qS⟩:=Row.bC wO (k:=k) rfl
    exact aQ qS
   ·have:=p7.low k (.inr hk);omega
   ·exact(LS k hk).2
 ·exact(L.kp.trans Fm (fun _ _ h=>h.elim)).trans km (fun k hk e=>by
   have hs:S' k:=by
    rcases e with rfl|rfl|rfl
    ·exact hG.e9
    ·exact hG.pr
    ·exact hG.qZ
   rcases L.new k hs with h|h
   ·exact h
   ·omega)
 ·intro k hk
  rcases hk with hk|rfl|rfl
  ·exact L.new k hk
  ·exact .inr h0
  ·rcases Nz with e|e
   ·rw [e];exact L.new _ hG.pr
   ·exact .inr (by omega)
 ·intro k hk
  rcases hk with hk|hk
  ·exact .inl hk
  ·exact .inr (by have:=(LS k hk).1;omega)
theorem EV(G:GV w S F g D (eo D) bl c mb M)(W:iT D)(hD:D.length<=5000){A:Option Addr}{n cx:Nat}{lp:List HT}(hl:HS w A n lp)(hn:n<=10000)(h:HT)
 (hK: ∀v S2 F2,xB v S2 F2 g (ma D h lp)->Kept S w v->(∀k,S2 k->S k\/w.heap.size<=k)->(∀k,F2 k->F k\/w.heap.size<=k)->K (.int .i64 (dt D h lp)) v):
 aY prog aW.id #[.pointer (some ⟨g,0,none⟩),.agg h.1,.slice A n cx] w K:=by
 have hlen:=hl.len;have rD: ∀v,Kept Nil w v-> ∀e,dt D h lp=e->e≠0->K (.int .i64 e) v:=fun v k e he fc=>by
  have:=hK v S F ?_ (k.mono fun _ _ h=>h.elim) (fun _ h=>.inl h) (fun _ h=>.inl h)
  ·rw [he]at this;exact this
  ·unfold ma
   rw [if_neg (by rw [he];exact fc)];exact⟨bl,c,mb,M,G.same k⟩
 refine aW.of ?_;unfold aW.W;intro w4 w5;have k4:Kept Nil w w4:=(Kept.refl _ _).alloc _;have Wv:w4.heap[w.heap.size]? =some (.cells #[.pointer (some ⟨g,0,none⟩)] iG (0,0)):=aN w _;have k5:Kept Nil w4 w5:=(Kept.refl _ _).alloc _;have MT:w5.heap[w4.heap.size]? =some (.cells h.1 ao (0,0)):=aN w4 _;have Z9:=k5.heap Wv (fun h=>h);clear_value w5;have Qt:Kept Nil w w5:=k4.trans k5 (fun _ _ h=>h);have It:w.heap.size<w4.heap.size:=aQ Wv;have ZZ:w4.heap.size<w5.heap.size:=aQ MT;clear_value w4;refine fD (hl.same Qt) (by omega) fun Av Om w7 DE k7=>⟨Av,_,Om,rfl,?_⟩;have Bq:Kept Nil w w7:=Qt.trans k7 (fun _ _ h=>h);have Sr:=k7.heap Z9 (fun h=>h);have Wp:=k7.heap MT (fun h=>h);have G7:=G.same Bq;have Ei:(cX lp).length<=n:=by have:=nI lp;omega
 refine⟨some ⟨g,0,none⟩,by rw [az Sr];rfl,tc G7 ⟨true,rfl,Split.no rfl ?_⟩⟩;refine⟨some ⟨g,0,none⟩,by rw [az Sr];rfl,h.1,⟨h.2.1,Cells.bC Wp⟩,p0 G7 h fun gD nC=>⟨_,rfl,?_⟩⟩;have Bt:=Bq.trans nC (fun _ _ h=>h);by_cases hm:h∈ids D
 ·refine Split.yes (decide_eq_true hm) (rD gD Bt 7 ?_ (by omega))
  unfold dt;rw [if_pos hm]
 refine Split.no (decide_eq_false hm) ?_;by_cases h0:(cX lp).length=0
 ·refine Split.yes (by simp [h0]) (rD gD Bt 9 ?_ (by omega))
  unfold dt;rw [if_neg hm,if_pos (.inl h0)]
 refine Split.no (beq_eq_false_iff_ne.2 (by omega)) ?_;by_cases h1:(cX lp).length≠n
 ·refine Split.yes (bne_iff_ne.2 (by omega)) (rD gD Bt 9 ?_ (by omega))
  unfold dt;rw [if_neg hm,if_pos (.inr (by omega))]
 replace h1:(cX lp).length=n:=by omega
 refine Split.no (by rw [h1];simp) ?_;have M0:=nC.heap Sr (fun h=>h);have Ff:=Row.aG DE nC (fun _ _ h=>h);refine vC (G.same Bt) M0 (bQ.hs Ff) (by omega) fun oz x hx vQ=>⟨x,rfl,?_⟩;have Bs:=Bt.trans vQ (fun _ _ h=>h);cases x with
 |true=>
  refine Split.yes rfl (rD oz Bs 6 ?_ (by omega));unfold dt;rw [if_neg hm,if_neg (by omega),if_pos (hx.1 rfl)]
 |false=>
  have fY: ∀p∈cX lp,p∈ids D:=fun p hp=>Classical.byContradiction fun RQ=>by have:=hx.2 ⟨p,hp,RQ⟩;cases this
  have WI:dt D h lp=0:=by
   unfold dt;rw [if_neg hm,if_neg (by omega),if_neg (fun⟨p,hp,O9⟩=>O9 (fY p hp))]
  have hD':ma D h lp=D++ [⟨h,cX lp⟩]:=by unfold ma;rw [if_pos WI]
  rw [WI,hD']at hK;refine Split.no rfl ?_;have MV:=vQ.heap (nC.heap Wp (fun h=>h)) (fun h=>h);have Sv:=vQ.heap M0 (fun h=>h);have sD:bQ oz w5.heap.size Av (cX lp).length Om (cX lp):=Row.aG Ff vQ (fun _ _ h=>h);refine⟨h.1,⟨h.2.1,Cells.bC MV⟩,?_⟩;rw [CO h oz.heap.size];refine Is.mk rfl ?_;intro C8;have Hq:Kept Nil oz C8:=(Kept.refl _ _).alloc _;have RU:C8.heap[oz.heap.size]? =some (.cells (dJ h ⟨oz.heap.size,Av,(cX lp).length,Om,none,0,0,none,0,0,[]⟩) cH (0,0)):=aN oz _;clear_value C8;have K5:=Bs.trans Hq (fun _ _ h=>h);have I1: ∀k,aX Av=some k->w5.heap.size<=k/\k<oz.heap.size:=fun k hk=>by
   obtain⟨e1,cur,hc⟩:=Row.bC sD hk;exact⟨e1,aQ hc⟩
  have hs5:=Qt.size;have Zi:=Bs.size;have Ap: ∀k,(F k\/aX Av=some k)->k<oz.heap.size:=fun k hk=>by
   rcases hk with hk|hk
   ·have:=G.low k (.inr hk);omega
   ·exact(I1 k hk).2
  have EJ: ∀k,S k->k<w.heap.size:=fun k hk=>G.low k (.inl hk);have G23:GV C8 S (fun k=>F k\/aX Av=some k) g D (eo D) bl c mb M:=(G.same K5).KU (fun _ h=>.inl h) (fun k hs e=>by
   rcases e with e|e
   ·exact G.Au k hs e
   ·have:=EJ k hs;have:=(I1 k e).1;omega) (fun k hk=>by have:=Ap k hk;have:=Hq.size;omega)
  have yh:fF D h ((cX lp).take 0)=eo D:=by
   funext y
   unfold fF;rw [if_neg (by simp)]
  have L0:AL w C8 S (fun k=>F k\/aX Av=some k) S g D h (cX lp) w.heap.size w4.heap.size oz.heap.size Av Om 0 bl c mb M none 0 0 []:=
   ⟨by rw [yh];exact G23,fun _ h=>h,fun _ h=>.inl h,RU,fun e=>by have:=EJ _ e;omega,Row.nil _ _ _ _,by simp [okW],by omega,(fun k hk=>by cases hk),fun j=>by simp [tQ],Hq.heap Sv (fun h=>h),Hq.heap MV (fun h=>h),
     fun e=>by have:=EJ _ e;omega,fun e=>by have:=EJ _ e;omega,(sD.hs).same Hq,K5.mono fun _ _ h=>h.elim⟩
  refine aW.bU (I:=fun s v=> ∃(i:Nat) (S2:Nat->Prop) (M2:List NM) (rA:Option Addr) (rn rc:Nat) (ws:List Nat),s=(i:Int)/\i<=(cX lp).length/\AL w v S (fun k=>F k\/aX Av=some k) S2 g D h (cX lp) w.heap.size w4.heap.size oz.heap.size Av Om i bl c mb M2 rA rn rc ws)
   (μ:=fun s _=>(((cX lp).length:Int)-s).toNat) (s:=0) ⟨0,S,M,none,0,0,[],rfl,Nat.zero_le _,L0⟩ ?_
  rintro s v ⟨i,S2,M2,rA,rn,rc,ws,rfl,hi,L⟩;have FT: ∀a,Av=some a->F a.block\/aX Av=some a.block:=fun a ha=>.inr (by rw [ha];rfl);by_cases eI:i<(cX lp).length
  ·refine zZ L W (by omega) (gv _) fY Ap FT (by omega) eI (by omega) fun S3 M3 X0 XY XZ Xv v3 L3=>?_
   exact⟨(i:Int)+1,rfl,⟨i+1,S3,M3,X0,XY,XZ,Xv,rfl,eI,L3⟩,by simp only;omega⟩
  ·refine Split.no (decide_eq_false (by omega)) ?_
   rw [aP,aW.GF];refine E1 L W hD (gv _) fY hm Ap FT (by omega) (by omega) fun v2 S4 F4 hI MK hS4 hF4=>hK v2 S4 F4 hI MK hS4 (fun k hk=>?_);rcases hF4 k hk with(e|e)|e
   ·exact .inl e
   ·exact .inr (by have:=(I1 k e).1;omega)
   ·exact .inr e
end
end Go.Proofs.YtnboahlopghcjaaGreatDoor
namespace Go.Proofs.YtnboahlopghcjaaGreatDoor
open Go.Proofs.Tryz
open Go Go.bp Go.RowKit
def lD(nb:Nat):NM:=⟨nb,none,0,0,none,0,0,none,0,0,[]⟩
structure NP(w v:World)(r:HT)(A B E:Option Nat)(l:List HT):Prop where
 kp:Kept Nil w v
 node: ∀b,A=some b->w.heap.size<=b/\v.heap[b]? =some (.cells (dJ r (lD b)) cH (0,0))
 list: ∀b,B=some b->w.heap.size<=b/\ ∃nb,A=some nb/\v.heap[b]? =some (.cells #[.pointer (some ⟨nb,0,none⟩)] dg (0,0))
 map: ∀b,E=some b->w.heap.size<=b/\IsMap v b l
section
variable{w v:World}{r:HT}{A B E:Option Nat}{l:List HT}{K:Value->World->Prop}
theorem NP.grow(h:NP w v r A B E l)(o:Obj):NP w (v.alloc o) r A B E l:=
 ⟨h.kp.alloc o,fun b e=>⟨(h.node b e).1,iD (h.node b e).2 o⟩,fun b e=>⟨(h.list b e).1,let ⟨nb,h1,h2⟩:=(h.list b e).2;⟨nb,h1,iD h2 o⟩⟩,fun b e=>⟨(h.map b e).1,(h.map b e).2.aG ((Kept.refl Nil v).alloc o) (fun h=>h)⟩⟩
theorem NP.addNode(h:NP w v r none none E l):NP w (v.alloc (.cells (dJ r (lD v.heap.size)) cH)) r (some v.heap.size) none E l:=
 have g:=h.grow (.cells (dJ r (lD v.heap.size)) cH)
 ⟨g.kp,fun b e=>by cases e;exact⟨h.kp.size,aN v _⟩,fun b e=>(by cases e),g.map⟩
theorem NP.mz{nb:Nat}(h:NP w v r (some nb) none E l):NP w (v.alloc (.cells #[.pointer (some ⟨nb,0,none⟩)] dg)) r (some nb) (some v.heap.size) E l:=
 have g:=h.grow (.cells #[.pointer (some ⟨nb,0,none⟩)] dg)
 ⟨g.kp,g.node,fun b e=>by cases e;exact⟨h.kp.size,nb,rfl,aN v _⟩,g.map⟩
theorem NP.xx(h:NP w v r A B none []):NP w (v.alloc (.map #[] 0)) r A B (some v.heap.size) []:=
 have g:=h.grow (.map #[] 0)
 ⟨g.kp,g.node,g.list,fun b e=>by cases e;exact⟨h.kp.size,⟨#[],0,aN v _,trivial⟩⟩⟩
theorem NP.put{mb:Nat}(h:NP w v r A B (some mb) []): ∃v',(Instr.mapUpdate bE (.map (some mb)) (.agg r.1) (.int .i64 0)).run prog v=.ok () v'/\NP w v' r A B (some mb) [r]:=by
 obtain⟨h1,h2⟩:=h.map mb rfl;obtain⟨v',hr,hm,hk⟩:=h2.put (h:=r) (by simp);have Dz: ∀ {k:Nat} {cs:Array Value} {t:TypeId},v.heap[k]? =some (.cells cs t (0,0))-> ¬(k=mb):=fun hk e=>by
  obtain⟨es,clock,Eu,_⟩:=h2.ex;rw [e,Eu]at hk;cases hk
 refine⟨v',hr,h.kp.trans hk (fun k hk e=>by omega),fun b e=>⟨(h.node b e).1,hk.heap (h.node b e).2 (Dz (h.node b e).2)⟩,fun b e=>⟨(h.list b e).1,?_⟩,fun b e=>by cases e;exact⟨h1,hm⟩⟩;obtain⟨nb,e1,e2⟩:=(h.list b e).2;exact⟨nb,e1,hk.heap e2 (Dz e2)⟩
theorem oK(r:HT){a b:HT}: ¬lh [(⟨r,[]⟩:DN)] a b:=fun⟨nd,h1,_,h2⟩=>by
 simp at h1;subst h1;simp at h2
theorem uG(r:HT){a b:HT}: ¬eB [(⟨r,[]⟩:DN)] a b:=fun h=>by
 cases h with
 |one h=>exact oK r h
 |more _ h=>exact oK r h
theorem NP.fin{w0:World}{nb lb mb:Nat}(h:NP w v r (some nb) (some lb) (some mb) [r])(hw:w0.heap.size<=w.heap.size):
 xB (v.alloc (.cells #[.slice (some ⟨lb,0,none⟩) 1 1,.map (some mb)] eR)) (fun k=>w0.heap.size<=k/\k<(v.alloc (.cells #[.slice (some ⟨lb,0,none⟩) 1 1,.map (some mb)] eR)).heap.size) (fun _=>False) v.heap.size [⟨r,[]⟩]:=by
 have g:=h.grow (.cells #[.slice (some ⟨lb,0,none⟩) 1 1,.map (some mb)] eR);have hC:=aN v (.cells #[.slice (some ⟨lb,0,none⟩) 1 1,.map (some mb)] eR);generalize v.alloc (.cells #[.slice (some ⟨lb,0,none⟩) 1 1,.map (some mb)] eR)=u at g hC;have hs:=h.kp.size;obtain⟨n1,n2⟩:=g.node nb rfl;obtain⟨l1,nb',e,l2⟩:=g.list lb rfl;cases e;obtain⟨m1,m2⟩:=g.map mb rfl;have lR:eo [⟨r,[]⟩] r= []:=by
  cases hc:eo [⟨r,[]⟩] r with
  |nil=>rfl
  |cons b t=>exact absurd (iK.1 (show b∈eo [⟨r,[]⟩] r by rw [hc];simp)).2 (oK r)
 refine⟨lb,1,mb,[lD nb],hC,Row.made (n:=1) (cur:= #[.pointer (some ⟨nb,0,none⟩)]) l2 (Nat.zero_le _) rfl (by decide),m2,rfl,fun i nd m hi hm=>?_,fun i j m m' h1 h2 fc k hk=>?_,⟨by omega,aQ hC⟩,⟨by omega,aQ l2⟩,⟨by omega,m2.lt⟩,fun _ _ h=>h,fun k hk=>hk.elim (fun h=>h.2) (fun h=>h.elim)⟩
 ·cases i with
  |zero=>
   simp at hi hm;subst hi;subst hm;refine⟨n2,⟨Nat.le_trans hw n1,aQ n2⟩,HS.nil _ _,(fun a ha=>by cases ha),?_,(fun k hk=>by cases hk),⟨rfl,fun i x hx=>by simp [lD]at hx⟩,(fun a ha=>by cases ha),by simp [okW,lD],fun j=>?_,by simp [lD]⟩
   ·show bQ u 0 none 0 0 (eo [⟨r,[]⟩] r)
    rw [lR];exact bQ.nil _ _
   ·show bit [] j=true↔_
    rw [tQ];exact⟨(fun h=>by cases h),fun⟨nj,_,h⟩=>absurd h (uG r)⟩
  |succ i=>simp at hi
 ·have hm:m=lD nb:=by
   have:=List.mem_of_getElem? h1;simpa using this
  subst hm;cases hk
theorem dN(r:HT)(hK: ∀v gb,xB v (fun k=>w.heap.size<=k/\k<v.heap.size) (fun _=>False) gb [⟨r,[]⟩]->Kept Nil w v->K (.pointer (some ⟨gb,0,none⟩)) v):
 aY prog jy.id #[.agg r.1] w K:=by
 refine jy.of ?_;unfold jy.W;intro w2 w3;have k2:Kept Nil w w2:=(Kept.refl _ _).alloc _;have oB:w2.heap[w.heap.size]? =some (.cells r.1 ao (0,0)):=aN w _;have k3:Kept Nil w w3:=k2.drew;have nD:w3.heap[w.heap.size]? =some (.cells r.1 ao (0,0)):=oB;clear_value w3;have N3:NP w3 w3 r none none none []:=⟨Kept.refl _ _,(fun b e=>by cases e),(fun b e=>by cases e),(fun b e=>by cases e)⟩;have kI: ∀ {v:World},Kept Nil w3 v-> ∃cs:Array Value,(.agg r.1:Value)=.agg cs/\cs.size=32/\Cells v (⟨w.heap.size,0,none⟩:Addr) cs:=fun k=>⟨r.1,rfl,r.2.1,Cells.bC (k.heap nD (fun h=>h))⟩;have qR: ∀ {v:World} {nb lb mb:Nat},NP w3 v r (some nb) (some lb) (some mb) [r]->K (.pointer (some ⟨v.heap.size,0,none⟩)) (v.alloc (.cells #[.slice (some ⟨lb,0,none⟩) 1 1,.map (some mb)] eR)):=fun h=>hK _ _ (h.fin k3.size) ((k3.trans h.kp (fun _ _ h=>h)).alloc _);refine⟨r.1,⟨r.2.1,Cells.bC nD⟩,?_⟩;have Mj: ∀b,prog.built cH [(0,.agg r.1)]=some (dJ r (lD b)):=fun b=>zU r b;rw [Mj 0];refine Is.mk rfl ?_;refine⟨r.1,⟨r.2.1,Cells.bC nD⟩,?_⟩;refine⟨?_,?_⟩
 ·have N7:NP w3 (w3.alloc (.cells (dJ r (lD w3.heap.size)) cH)) r (some w3.heap.size) none none []:=N3.addNode
  refine⟨kI N7.kp,?_,?_⟩
  ·have N8:=N7.mz
   have N9:=N8.xx;obtain⟨v,hr,Kl⟩:=N9.put;exact⟨kI N8.kp,kI N9.kp,v,hr,qR Kl⟩
  ·have Jj:=N7.xx
   refine⟨kI Jj.kp,?_,?_⟩
   ·have E5:=Jj.mz
    obtain⟨v,hr,Ji⟩:=E5.put;exact⟨kI E5.kp,v,hr,qR Ji⟩
   ·obtain⟨v,hr,Kk⟩:=Jj.put
    exact⟨v,hr,qR Kk.mz⟩
 ·have Dq:=N3.xx
  refine⟨kI Dq.kp,kI Dq.kp,?_,?_⟩
  ·have GA:NP w3 ((w3.alloc (.map #[] 0)).alloc (.cells (dJ r (lD (w3.alloc (.map #[] 0)).heap.size)) cH)) r (some (w3.alloc (.map #[] 0)).heap.size) none (some w3.heap.size) []:=Dq.addNode
   refine⟨kI GA.kp,?_,?_⟩
   ·have Gz:=GA.mz
    obtain⟨v,hr,Ki⟩:=Gz.put;exact⟨kI Gz.kp,v,hr,qR Ki⟩
   ·obtain⟨v,hr,OC⟩:=GA.put
    exact⟨v,hr,qR OC.mz⟩
  ·obtain⟨v,hr,Jh⟩:=Dq.put
   exact⟨v,hr,kI Jh.kp,qR Jh.addNode.mz⟩
end
end Go.Proofs.YtnboahlopghcjaaGreatDoor
namespace Go.Proofs.YtnboahlopghcjaaGreatDoor
open Go.Proofs.Tryz
open Go Go.bp Go.RowKit
section
variable{w w':World}{S S' F:Nat->Prop}{g bl c mb:Nat}{D:DG}{C:HT->List HT}{M:List NM}{K:Value->World->Prop}
end
end Go.Proofs.YtnboahlopghcjaaGreatDoor
namespace Go.Proofs.YtnboahlopghcjaaGreatDoor
open Go.Proofs.Tryz
open Go Go.bp Go.RowKit
section
variable{w w':World}{S S' F:Nat->Prop}{g bl c mb:Nat}{D:DG}{C:HT->List HT}{M:List NM}{K:Value->World->Prop}
end
end Go.Proofs.YtnboahlopghcjaaGreatDoor
namespace Go.Proofs.YtnboahlopghcjaaGreatDoor
open Go.Proofs.Tryz
open Go Go.bp Go.RowKit
theorem ga{w:World}{b:Nat}{z cs:Array Value}{t:TypeId}(h:w.heap[b]? =some (.cells z t (0,0)))(hz:z.size=cs.size):
 (∀j,j<cs.size->Wr w ((⟨b,0,none⟩:Addr).add j))/\(setCells w ⟨b,0,none⟩ cs.toList 0).heap[b]? =some (.cells cs t (0,0))/\Kept (· =b) w (setCells w ⟨b,0,none⟩ cs.toList 0):=by
 refine⟨fun j hj=>?_,?_,eU _ _ _ _⟩
 ·rw [a7,Nat.zero_add]
  exact dE h (by omega)
 ·have h1:=gZ cs.toList z w t 0 0 h (by simp;omega)
  rw [h1,qf (by simp [hz])]
def hx(i:Nat)(hi:i<256):HT:=⟨#[.int .u8 (i:Int),.int .u8 0,.int .u8 0,.int .u8 0,.int .u8 0,.int .u8 0,.int .u8 0,.int .u8 0,.int .u8 0,.int .u8 0,.int .u8 0,.int .u8 0,.int .u8 0,.int .u8 0,.int .u8 0,.int .u8 0,.int .u8 0,.int .u8 0,.int .u8 0,.int .u8 0,.int .u8 0,.int .u8 0,.int .u8 0,.int .u8 0,.int .u8 0,.int .u8 0,.int .u8 0,.int .u8 0,.int .u8 0,.int .u8 0,.int .u8 0,.int .u8 0],rfl,fun v hv=>by
 simp only [List.mem_cons,List.not_mem_nil,or_false]at hv;rcases hv with rfl|hv
 ·exact⟨i,rfl,by omega,by omega⟩
 ·exact⟨0,by simpa using hv,by omega,by omega⟩⟩
theorem oP{i j:Nat}{hi:i<256}{hj:j<256}(h:i≠j):hx i hi≠hx j hj:=fun e=>by
 have:=congrArg (fun a:HT=>a.1[0]?) e;simp [hx]at this;omega
section
variable{w w':World}{K:Value->World->Prop}
end
end Go.Proofs.YtnboahlopghcjaaGreatDoor
namespace Go.Proofs.YtnboahlopghcjaaGreatDoor
open Go.Proofs.Tryz
open Go Go.bp Go.RowKit
theorem HS.lay{w:World}{b:Nat}{l:List HT}{t:TypeId}(hb:w.heap[b]? =some (.cells (bV l).toArray t (0,0))):HS w (some ⟨b,0,Option.none⟩) l.length l:=
 ⟨rfl,fun i x hi=>⟨_,rfl,aQ hb,fun j v hj=>by
   rw [a7,a7,Nat.zero_add,az hb];simpa using iz hi hj⟩⟩
section
variable{r a b c:HT}(zy:r≠a)(x9:r≠b)(FK:r≠c)(jZ:a≠b)(Gr:a≠c)(Cs:b≠c)
abbrev kD(r a b c:HT):DG:= [⟨r,[]⟩,⟨a,[r]⟩,⟨b,[r]⟩,⟨c,cX [a,b]⟩]
include zy in
theorem k1:dt [⟨r,[]⟩] a [r]=0/\ma [⟨r,[]⟩] a [r]= [⟨r,[]⟩,⟨a,[r]⟩]:=by
 have h:dt [⟨r,[]⟩] a [r]=0:=by
  unfold dt;rw [if_neg (by simp [ids];exact fun e=>zy e.symm),pS,if_neg (by simp),if_neg (by simp [ids])]
 exact⟨h,by unfold ma;rw [if_pos h,pS];rfl⟩
include x9 jZ in
theorem k2:dt [⟨r,[]⟩,⟨a,[r]⟩] b [r]=0/\ma [⟨r,[]⟩,⟨a,[r]⟩] b [r]= [⟨r,[]⟩,⟨a,[r]⟩,⟨b,[r]⟩]:=by
 have h:dt [⟨r,[]⟩,⟨a,[r]⟩] b [r]=0:=by
  unfold dt;rw [if_neg (by simp [ids];exact⟨fun e=>x9 e.symm,fun e=>jZ e.symm⟩),pS,if_neg (by simp),if_neg (by simp [ids])]
 exact⟨h,by unfold ma;rw [if_pos h,pS];rfl⟩
include FK jZ Gr Cs in
theorem k3:dt [⟨r,[]⟩,⟨a,[r]⟩,⟨b,[r]⟩] c [a,b]=0/\ma [⟨r,[]⟩,⟨a,[r]⟩,⟨b,[r]⟩] c [a,b]=kD r a b c:=by
 have hl:(cX [a,b]).length=2:=mL (by simp [jZ]);have h:dt [⟨r,[]⟩,⟨a,[r]⟩,⟨b,[r]⟩] c [a,b]=0:=by
  unfold dt;rw [if_neg (by simp [ids];exact⟨fun e=>FK e.symm,fun e=>Gr e.symm,fun e=>Cs e.symm⟩),hl,if_neg (by simp),if_neg];rintro⟨p,hp,hn⟩;rw [c9]at hp;simp at hp;simp [ids]at hn;rcases hp with rfl|rfl
  ·exact hn.2.1 rfl
  ·exact hn.2.2 rfl
 exact⟨h,by unfold ma;rw [if_pos h];rfl⟩
end
section
variable{w w':World}{K:Value->World->Prop}
end
end Go.Proofs.YtnboahlopghcjaaGreatDoor
namespace Go.Proofs.YtnboahlopghcjaaGreatDoor
open Go.Proofs.Tryz
open Go Go.bp Go.RowKit
structure abK(w:World)(S F:Nat->Prop)(g:Nat)(FR:Nat->Prop)(r:Nat)(D:DG):Prop where
 G:xB w S F g D
 R:IsR w FR r D
 rS: ¬S r
 rF: ¬F r
 fS: ∀k,FR k-> ¬S k
 low: ∀k,FR k->k<w.heap.size
section
variable{w v w':World}{S F S2 F2 FR:Nat->Prop}{g r:Nat}{D D':DG}{K:Value->World->Prop}
end
end Go.Proofs.YtnboahlopghcjaaGreatDoor
