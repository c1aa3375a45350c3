import Derived.Test.YtnboahlopghcjaaGreatDoorProg
import Derived.Shelf.SlSortCmp.NoneTotal
import Derived.Shelf.SlMaps.Clone
import Derived.Shelf.Spec.TrailingZeros
import Derived.Shelf.Strconv.Itoa0
import Derived.Shelf.Bits.Mul64
import Derived.Test.YtnboahlopghcjaaGreatDoorMA
import Derived.Test.YtnboahlopghcjaaGreatDoorMB
import Derived.Lib.BytesEntry
import Derived.Test.YtnboahlopghcjaaGreatDoorMC
import Derived.LaidEql
set_option linter.unusedVariables false
namespace Go.Proofs
open Go.Shelf
def Tryz.oO:Go.Shelf.Ren:=⟨fun|6=>72|15=>106|14=>105|28=>130|29=>131|20=>122|21=>123|22=>124|23=>125|24=>126|25=>127|26=>128|27=>129|46=>135|47=>136|48=>137|49=>138|50=>139|57=>141|n=>n,fun|22=>35|24=>23|25=>97|3=>3|39=>161|0=>0|53=>181|55=>49|4=>4|46=>175|45=>174|50=>127|5=>5|9=>9|66=>188|70=>192|76=>196|77=>197|n=>n,fun|n=>n⟩
theorem Tryz.vF:Go.Proofs.SlLaysF0.n6 prog Tryz.oO:= {
 mixed:=by kernel_rfl
 f6:=⟨f72.name,by decide,func72.trans (congrArg some (by kernel_rfl))⟩
 f14:=⟨f105.name,by decide,func105.trans (congrArg some (by kernel_rfl))⟩
 f15:=func106.trans (congrArg some (by kernel_rfl))
 f20:=⟨f122.name,by decide,func122.trans (congrArg some (by kernel_rfl))⟩
 f21:=⟨f123.name,by decide,func123.trans (congrArg some (by kernel_rfl))⟩
 f22:=⟨f124.name,by decide,func124.trans (congrArg some (by kernel_rfl))⟩
 f23:=⟨f125.name,by decide,func125.trans (congrArg some (by kernel_rfl))⟩
 f24:=⟨f126.name,by decide,func126.trans (congrArg some (by kernel_rfl))⟩
 f25:=⟨f127.name,by decide,func127.trans (congrArg some (by kernel_rfl))⟩
 f26:=⟨f128.name,by decide,func128.trans (congrArg some (by kernel_rfl))⟩
 f27:=⟨Tryz.f129.name,by decide,func129.trans (congrArg some (by kernel_rfl))⟩
 f28:=func130.trans (congrArg some (by kernel_rfl))
 f29:=func131.trans (congrArg some (by kernel_rfl))
 f46:=⟨f135.name,by decide,func135.trans (congrArg some (by kernel_rfl))⟩
 f47:=func136.trans (congrArg some (by kernel_rfl))
 f48:=func137.trans (congrArg some (by kernel_rfl))
 f49:=⟨f138.name,by decide,func138.trans (congrArg some (by kernel_rfl))⟩
 f50:=⟨f139.name,by decide,func139.trans (congrArg some (by kernel_rfl))⟩
 f57:=⟨f141.name,by decide,func141.trans (congrArg some (by kernel_rfl))⟩
 t0:=underlying0
 a0:=isAgg0
 z0:=sizeOf0
 v0:=zeroValue0
 t3:=underlying3
 a3:=isAgg3
 z3:=sizeOf3
 v3:=zeroValue3
 t4:=underlying4
 a4:=isAgg4
 z4:=sizeOf4
 v4:=zeroValue4
 t5:=underlying5
 a5:=isAgg5
 z5:=sizeOf5
 v5:=zeroValue5
 t9:=underlying9
 a9:=isAgg9
 z9:=sizeOf9
 v9:=zeroValue9
 t22:=underlying35
 a22:=isAgg35
 z22:=sizeOf35
 v22:=zeroValue35
 t25:=underlying97
 a25:=isAgg97
 z25:=sizeOf97
 v25:=zeroValue97
 t39:=underlying161
 a39:=isAgg161
 z39:=sizeOf161
 v39:=zeroValue161
 t45:=underlying174
 a45:=isAgg174
 z45:=sizeOf174
 v45:=zeroValue174
 t46:=underlying175
 a46:=isAgg175
 z46:=sizeOf175
 v46:=zeroValue175
 t50:=underlying127
 a50:=isAgg127
 z50:=sizeOf127
 v50:=zeroValue127
 t53:=underlying181
 a53:=isAgg181
 z53:=sizeOf181
 v53:=zeroValue181
 t55:=underlying49
 a55:=isAgg49
 z55:=sizeOf49
 v55:=zeroValue49
 t66:=underlying188
 a66:=isAgg188
 z66:=sizeOf188
 v66:=zeroValue188
 t70:=underlying192
 a70:=isAgg192
 z70:=sizeOf192
 v70:=zeroValue192
 t76:=underlying196
 a76:=isAgg196
 z76:=sizeOf196
 v76:=zeroValue196
 t77:=underlying197
 a77:=isAgg197
 z77:=sizeOf197
 v77:=zeroValue197}
def Tryz.iZ:Go.Shelf.Ren:=⟨fun|29=>121|n=>n,fun|22=>49|3=>3|4=>4|25=>161|54=>187|0=>0|5=>5|n=>n,fun|1=>1|n=>n⟩
theorem Tryz.tzL:Go.Proofs.Lays7.n29 prog Tryz.iZ:= {
 mixed:=by kernel_rfl
 f29:=func121.trans (congrArg some (by kernel_rfl))
 t0:=underlying0
 a0:=isAgg0
 z0:=sizeOf0
 v0:=zeroValue0
 i0:=by kernel_rfl
 t3:=underlying3
 a3:=isAgg3
 z3:=sizeOf3
 v3:=zeroValue3
 i3:=by kernel_rfl
 t4:=underlying4
 a4:=isAgg4
 z4:=sizeOf4
 v4:=zeroValue4
 i4:=by kernel_rfl
 t5:=underlying5
 a5:=isAgg5
 z5:=sizeOf5
 v5:=zeroValue5
 i5:=by kernel_rfl
 t22:=underlying49
 a22:=isAgg49
 z22:=sizeOf49
 v22:=zeroValue49
 i22:=by kernel_rfl
 t25:=underlying161
 a25:=isAgg161
 z25:=sizeOf161
 v25:=zeroValue161
 i25:=by kernel_rfl
 t54:=underlying187
 a54:=isAgg187
 z54:=sizeOf187
 g1:=by kernel_rfl}
end Go.Proofs
namespace Go.Proofs
open Go.Shelf
def Tryz.yk:Go.Shelf.Ren:=⟨fun|129=>131|n=>n,fun|53=>49|3=>3|4=>4|46=>161|5=>5|9=>9|n=>n,fun|n=>n⟩
theorem Tryz.Iz:Go.Proofs.Lays.n129 prog Tryz.yk:= {
 mixed:=by kernel_rfl
 f129:=func131.trans (congrArg some (by kernel_rfl))
 t3:=underlying3
 a3:=isAgg3
 z3:=sizeOf3
 v3:=zeroValue3
 t4:=underlying4
 a4:=isAgg4
 z4:=sizeOf4
 v4:=zeroValue4
 t5:=underlying5
 a5:=isAgg5
 z5:=sizeOf5
 v5:=zeroValue5
 t9:=underlying9
 a9:=isAgg9
 z9:=sizeOf9
 v9:=zeroValue9
 t46:=underlying161
 a46:=isAgg161
 z46:=sizeOf161
 v46:=zeroValue161
 t53:=underlying49
 a53:=isAgg49
 z53:=sizeOf49
 v53:=zeroValue49}
def Tryz.yj:Go.Shelf.Ren:=⟨fun|264=>133|n=>n,fun|53=>49|46=>161|n=>n,fun|n=>n⟩
theorem Tryz.Iy:Go.Proofs.Lays.n264 prog Tryz.yj:= {
 mixed:=by kernel_rfl
 f264:=func133.trans (congrArg some (by kernel_rfl))
 t46:=underlying161
 a46:=isAgg161
 z46:=sizeOf161
 v46:=zeroValue161
 t53:=underlying49
 a53:=isAgg49
 z53:=sizeOf49
 v53:=zeroValue49}
end Go.Proofs
namespace Go.bS
open Go.RowKit
theorem jD.mono{P:Program}{l:Nat}{args:Array Value}{w:World}{R R':Bool->World->Prop}(h:jD P l args w R)(hr: ∀b w',R b w'->R' b w'):jD P l args w R':=by
 obtain⟨g,tmps,assign,body,h1,h2⟩:=h;exact⟨g,tmps,assign,body,h1,fun r m=>RoundIn.mono (h2 r m) fun e w' ⟨b,he,hb⟩=>⟨b,he,hr _ _ hb⟩⟩
def ga(xs:List Value)(k:Nat)(vs:List Value):List Value:=xs.take k++vs++xs.drop (k+vs.length)
theorem pv(xs:List Value)(k:Nat):ga xs k []=xs:=by simp [ga]
theorem nQ{xs:List Value}{k:Nat}(hk:k<xs.length)(v:Value)(vs:List Value):ga xs k (v::vs)=ga (xs.set k v) (k+1) vs:=by
 unfold ga;rw [List.take_add_one,List.take_set_of_le (Nat.le_refl k),List.getElem?_set_self hk,List.drop_set];rw [if_pos (by omega),List.length_cons,show k+(vs.length+1)=k+1+vs.length by omega];simp
theorem kX{xs:List Value}{k:Nat}{vs:List Value}(h:k+vs.length<=xs.length):(ga xs k vs).length=xs.length:=by
 unfold ga;simp;omega
theorem tm{xs vs:List Value}(h:vs.length=xs.length):ga xs 0 vs=vs:=by
 unfold ga;simp [h]
section
variable{w:World}{B:Nat}{e:TypeId}{size n c b:Nat}
theorem p7: ∀(vs:List Value) (xs:List Value) (w:World) (o i:Nat),Row w B e size (some ⟨b,0,none⟩) n c xs->o+i+vs.length<=xs.length->
 Row (setCells w ⟨b,o,none⟩ vs i) B e size (some ⟨b,0,none⟩) n c (ga xs (o+i) vs)
 | [],xs,w,o,i,h,_=>by rw [pv];exact h
 |v::vs,xs,w,o,i,h,hl=>by
  rw [List.length_cons]at hl;rw [nQ (by omega)];simp only [setCells];rw [a8];have h1:=Row.set h (j:=o+i) (by omega) v;have:=p7 vs (xs.set (o+i) v) _ o (i+1) h1 (by rw [List.length_set];omega)
  rwa [show o+(i+1)=o+i+1 by omega]at this
theorem fL: ∀(vs:List Value) (w:World) (o i:Nat),Kept (· =b) w (setCells w ⟨b,o,none⟩ vs i)
 | [],w,o,i=>Kept.refl _ _
 |v::vs,w,o,i=>by
  simp only [setCells];rw [a8];exact(Kept.setCell (S:=fun k=>k=b) (Kept.refl _ w) (p:=⟨b,o+i,none⟩) (fun _=>rfl) v).trans (fL vs _ o (i+1)) (fun _ _ h=>h)
theorem jy: ∀(vs:List Value) (cur:Array Value) (w:World) (t:TypeId) (o i:Nat),w.heap[b]? =some (.cells cur t (0,0))->o+i+vs.length<=cur.size->
 (setCells w ⟨b,o,none⟩ vs i).heap[b]? =some (.cells (ga cur.toList (o+i) vs).toArray t (0,0))
 | [],cur,w,t,o,i,h,_=>by rw [pv];simpa [setCells]using h
 |v::vs,cur,w,t,o,i,h,hl=>by
  rw [List.length_cons]at hl;rw [nQ (by simp;omega)];simp only [setCells];rw [a8];have h1:=cR h (o+i) v;have:=jy vs _ _ t o (i+1) h1 (by simp;omega);rw [show o+(i+1)=o+i+1 by omega]at this;rw [this];simp
theorem gq{z cs:Array Value}{t:TypeId}(hz:z.size=cs.size):
 (∀j,j<cs.size->Wr (w.alloc (.cells z t)) ((⟨w.heap.size,0,none⟩:Addr).add j))/\
 (setCells (w.alloc (.cells z t)) ⟨w.heap.size,0,none⟩ cs.toList 0).heap[w.heap.size]? =some (.cells cs t (0,0))/\
 Kept Nil w (setCells (w.alloc (.cells z t)) ⟨w.heap.size,0,none⟩ cs.toList 0):=by
 refine⟨fun j hj=>?_,?_,?_⟩
 ·rw [a8,Nat.zero_add]
  exact dO (aH w _) (by omega)
 ·have h:=jy cs.toList z (w.alloc (.cells z t)) t 0 0 (aH w _) (by simp;omega)
  rw [h,tm (by simp [hz])]
 ·exact((Kept.refl Nil w).alloc _).trans (fL cs.toList _ 0 0) (fun k hk e=>absurd hk (by omega))
end
end Go.bS
namespace Go.bS
theorem CC: ∀(vs:List Value) (off k:Nat) (cells:Array Value),off+k+vs.length<=cells.size->
 ((vs.zipIdx k).foldl (fun(cs:Array Value) (p:Value×Nat)=>cs.setIfInBounds (off+p.2) p.1) cells)=(ga cells.toList (off+k) vs).toArray
 | [],off,k,cells,_=>by rw [pv];simp
 |v::vs,off,k,cells,h=>by
  rw [List.length_cons]at h;rw [nQ (by simp;omega),List.zipIdx_cons,List.foldl_cons];have:=CC vs off (k+1) (cells.setIfInBounds (off+k) v) (by simp;omega);rw [this,Array.toList_setIfInBounds];rfl
theorem hU{place:Nat->Option (Nat×Nat)}{cells:Array Value}{i off size:Nat}{v:Value}{rest:List (Nat×Value)}(hp:place i=some (off,size))(hs:v.cells.size=size)(hle:off+size<=cells.size):
 Instr.fill place cells ((i,v)::rest)=Instr.fill place (ga cells.toList off v.cells.toList).toArray rest:=by
 rw [Instr.fill,hp];simp only;rw [if_neg (by simp;omega)]
 congr 1
 have h:=CC v.cells.toList off 0 cells (by simp;omega);rw [Nat.add_zero]at h;rw [<-h,<-Array.foldl_toList,Array.toList_zipIdx]
def PA(P:Program)(t:TypeId):Option (List (Nat×Nat)×List Value):=
 match P.info? t,P.underlying t with
 |some it,some (.struct fields)=>
  match it.zero,fields.toList.mapM (fun f=>(P.info? f.type).map fun i=>(f.offset,i.size))with
  |some z,some places=>some (places,z.cells.toList)
  |_,_=>none
 |_,_=>none
theorem mv{P:Program}{t:TypeId}{pl:List (Nat×Nat)}{z:List Value}(h:PA P t=some (pl,z))(parts:List (Nat×Value)):
 P.built t parts=Instr.fill (pl.toArray[·]?) z.toArray parts:=by
 unfold PA at h;split at h
 ·rename_i it fields h1 h2
  split at h
  ·rename_i z' pl' h3 h4
   simp only [Option.some.injEq,Prod.mk.injEq]at h;obtain⟨rfl,rfl⟩:=h;unfold Program.built;rw [h1,h2];simp only [h3,h4]
  ·cases h
 ·cases h
def pF:List Nat->Array Value
 | []=> #[]
 |D::l=> #[.pointer (some ⟨D,0,none⟩)]++pF l
theorem mh: ∀l,marksOf (.agg (pF l))=l
 | []=>rfl
 |D::l=>by
  have ih:=mh l;simp only [pF,marksOf]at*;simp [ih]
theorem lh: ∀(l:List Nat) (w:World),l.Nodup->(∀D∈l,w.heap[D]? =some (.deferred (some [])))->jS l w
 | [],_,_,_=>trivial
 |D::l,w,hn,h=>by
  rw [List.nodup_cons]at hn;refine⟨h D (by simp),lh l _ hn.2 fun E hE=>?_⟩;have fE:D≠E:=fun e=>hn.1 (by rw [e];exact hE);exact(World.putObj_heap_other fE.symm).trans (h E (by simp [hE]))
theorem jv: ∀(l:List Nat) (w:World),Kept (· ∈l) w (fH l w)
 | [],w=>Kept.refl _ w
 |D::l,w=>((Kept.putAt w D (.deferred none)).mono (S':=fun k=>k∈D::l) (fun k _ e=>by subst e;simp)).trans (jv l _) (fun k _ h=>by simp [h])
end Go.bS
namespace Go.Proofs.YtnboahlopghcjaaGreatDoor
open Go.Proofs.Tryz
open Go Go.bS Go.RowKit
def O8(cs:Array Value):Prop:=cs.size=32/\ ∀v∈cs.toList,∃i:Int,v=.int .u8 i/\0<=i/\i<256
abbrev HT:= {cs:Array Value//O8 cs}
def key(h:HT):List Int:=h.1.toList.map kV
theorem O8.ints{cs:Array Value}(h:O8 cs):cX .u8 32 cs:=⟨h.1,fun v hv=>let ⟨i,e,_⟩:=h.2 v hv;⟨i,e⟩⟩
theorem yy: ∀ {a b:List Value},(∀v∈a,∃i:Int,v=.int .u8 i)->(∀v∈b,∃i:Int,v=.int .u8 i)->a.map kV=b.map kV->a=b
 | [],[],_,_,_=>rfl
 | [],_::_,_,_,h=>by simp at h
 |_::_,[],_,_,h=>by simp at h
 |x::a,y::b,ha,hb,h=>by
  obtain⟨i,rfl⟩:=ha x (by simp);obtain⟨j,rfl⟩:=hb y (by simp);simp only [List.map_cons,List.cons.injEq,kV]at h;rw [h.1,yy (fun v hv=>ha v (by simp [hv])) (fun v hv=>hb v (by simp [hv])) h.2]
theorem key_inj{a b:HT}(h:key a=key b):a=b:=by
 apply Subtype.ext;apply Array.ext';exact yy (fun v hv=>a.2.ints.2 v hv) (fun v hv=>b.2.ints.2 v hv) h
instance:DecidableEq HT:=fun a b=>if h:key a=key b then isTrue (key_inj h)else isFalse fun e=>h (by rw [e])
theorem cQ(a b:HT):dA a.1 b.1=decide (a=b):=by
 unfold dA;by_cases e:a=b
 ·subst e;simp
 ·rw [decide_eq_false e]
  have: ¬(key a=key b):=fun h=>e (key_inj h);simpa [key]using this
theorem O8.one{cs:Array Value}(h:O8 cs): ∀v∈cs.toList,v.oneCell'=true:=fun v hv=>by
 obtain⟨i,rfl,_⟩:=h.2 v hv;rfl
def sU:List Int->List Int->Bool
 | [],[]=>false
 | [],_::_=>true
 |_::_,[]=>false
 |x::a,y::b=>if x<y then true else if y<x then false else sU a b
def cH(a b:HT):Bool:=sU (key a) (key b)
theorem tQ: ∀a,sU a a=false
 | []=>rfl
 |x::a=>by simp [sU,tQ a]
theorem vL: ∀ {a b c},sU a b=true->sU b c=true->sU a c=true
 | [],[],_,h,_=>by simp [sU]at h
 | [],_::_,[],_,h=>by simp [sU]at h
 | [],_::_,_::_,_,_=>rfl
 |_::_,[],_,h,_=>by simp [sU]at h
 |_::_,_::_,[],_,h=>by simp [sU]at h
 |x::a,y::b,z::c,h,h'=>by
  simp only [sU]at*;by_cases h1:x<y
  ·by_cases h2:y<z
   ·rw [if_pos (by omega)]
   ·rw [if_neg h2]at h'
    by_cases h3:z<y
    ·rw [if_pos h3]at h';cases h'
    ·rw [if_pos (by omega)]
  ·rw [if_neg h1]at h
   by_cases h2:y<x
   ·rw [if_pos h2]at h;cases h
   ·rw [if_neg h2]at h
    by_cases h3:y<z
    ·rw [if_pos (by omega)]
    ·rw [if_neg h3]at h'
     by_cases h4:z<y
     ·rw [if_pos h4]at h';cases h'
     ·rw [if_neg h4]at h'
      rw [if_neg (by omega),if_neg (by omega)];exact vL h h'
theorem vM: ∀ {a b},a.length=b.length->sU a b=false->sU b a=false->a=b
 | [],[],_,_,_=>rfl
 | [],_::_,h,_,_=>by simp at h
 |_::_,[],h,_,_=>by simp at h
 |x::a,y::b,hl,h,h'=>by
  simp only [sU]at*;by_cases h1:x<y
  ·rw [if_pos h1]at h;cases h
  ·rw [if_neg h1]at h
   by_cases h2:y<x
   ·rw [if_pos h2]at h';cases h'
   ·rw [if_neg h2]at h h'
    rw [if_neg h1]at h';have:x=y:=by omega
    rw [this,vM (by simpa using hl) h h']
theorem lJ(a:HT):(key a).length=32:=by have:=a.2.1;simpa [key]using this
theorem oX{a b:HT}(h:cH a b=false)(h':cH b a=false):a=b:=key_inj (vM (by rw [lJ,lJ]) h h')
theorem jn{a b c:HT}(h:cH a b=true)(h':cH b c=true):cH a c=true:=vL h h'
theorem gz(a:HT):cH a a=false:=tQ _
theorem rr{a b:HT}(h:cH a b=true):cH b a=false:=by
 cases h':cH b a
 ·rfl
 ·have:=jn h h';rw [gz]at this;cases this
end Go.Proofs.YtnboahlopghcjaaGreatDoor
namespace Go.Proofs.YtnboahlopghcjaaGreatDoor
open Go.Proofs.Tryz
open Go Go.bS
def SS(l:List HT):Prop:=l.Pairwise fun a b=>cH a b=true
theorem SS.nodup{l:List HT}(h:SS l):l.Nodup:=List.Pairwise.imp (fun {a b} lr e=>by subst e;rw [gz]at lr;cases lr) h
theorem SS.cons{x:HT}{l:List HT}:SS (x::l)↔(∀y∈l,cH x y=true)/\SS l:=List.pairwise_cons
theorem xj: ∀ {l m:List HT},SS l->SS m->(∀x,x∈l↔x∈m)->l=m
 | [],[],_,_,_=>rfl
 | [],y::m,_,_,h=>by have:=(h y).2 (by simp);simp at this
 |x::l,[],_,_,h=>by have:=(h x).1 (by simp);simp at this
 |x::l,y::m,hl,hm,h=>by
  rw [SS.cons]at hl hm;have ny:x=y:=by
   have h1:=(h x).1 (by simp);have h2:=(h y).2 (by simp);rcases List.mem_cons.1 h1 with h1|h1
   ·exact h1
   ·rcases List.mem_cons.1 h2 with h2|h2
    ·exact h2.symm
    ·have a:=hl.1 _ h2
     have b:=hm.1 _ h1;rw [rr a]at b;cases b
  subst ny
  congr 1
  refine xj hl.2 hm.2 fun z=>?_;have hz:=h z;constructor
  ·intro hzl
   rcases List.mem_cons.1 (hz.1 (by simp [hzl]))with e|e
   ·subst e;have:=hl.1 _ hzl;rw [gz]at this;cases this
   ·exact e
  ·intro hzm
   rcases List.mem_cons.1 (hz.2 (by simp [hzm]))with e|e
   ·subst e;have:=hm.1 _ hzm;rw [gz]at this;cases this
   ·exact e
def ins(x:HT):List HT->List HT
 | []=> [x]
 |y::l=>if cH x y then x::y::l else if x=y then y::l else y::ins x l
theorem wM(x z:HT): ∀l,z∈ins x l↔z=x\/z∈l
 | []=>by simp [ins]
 |y::l=>by
  unfold ins;split
  ·simp
  ·split
   ·rename_i e;subst e;simp
   ·simp only [List.mem_cons,wM x z l]
    constructor
    ·rintro(h|h|h)<;>simp [h]
    ·rintro(h|h|h)<;>simp [h]
theorem Hy(x:HT): ∀ {l:List HT},SS l->SS (ins x l)
 | [],_=>by simp [ins,SS]
 |y::l,h=>by
  have h':=SS.cons.1 h;unfold ins;split
  ·rename_i ny
   refine SS.cons.2 ⟨fun z hz=>?_,h⟩;rcases List.mem_cons.1 hz with rfl|hz
   ·exact ny
   ·exact jn ny (h'.1 _ hz)
  ·split
   ·exact h
   ·rename_i h1 h2
    refine SS.cons.2 ⟨fun z hz=>?_,Hy x h'.2⟩;rcases(wM x z l).1 hz with rfl|hz
    ·cases O9:cH y z
     ·exact absurd (oX O9 (by simpa using h1)).symm h2
     ·rfl
    ·exact h'.1 _ hz
def df(l:List HT):List HT:=l.foldr ins []
theorem dv{z:HT}: ∀ {l:List HT},z∈df l↔z∈l
 | []=>by simp [df]
 |x::l=>by
  have:= @dv z l;simp only [df,List.foldr_cons,wM,List.mem_cons]at this⊢;rw [this]
theorem ig: ∀l:List HT,SS (df l)
 | []=>List.Pairwise.nil
 |x::l=>Hy x (ig l)
theorem BG{l m:List HT}(h: ∀x,x∈l↔x∈m):df l=df m:=xj (ig l) (ig m) fun x=>by rw [dv,dv,h]
theorem wz{l m:List HT}(hs:SS l)(h: ∀x,x∈l↔x∈m):l=df m:=xj hs (ig m) fun x=>by rw [dv,h]
theorem Ci(x:HT): ∀l,(ins x l).length<=l.length+1
 | []=>by simp [ins]
 |y::l=>by
  have:=Ci x l;unfold ins;split
  ·simp
  ·split<;>simp<;>omega
theorem oN: ∀l:List HT,(df l).length<=l.length
 | []=>by simp [df]
 |x::l=>by
  have h1:=Ci x (df l);have h2:=oN l;simp only [df,List.foldr_cons,List.length_cons]at*;omega
theorem pJ{x:HT}: ∀ {l:List HT},x∉l->(ins x l).length=l.length+1
 | [],_=>by simp [ins]
 |y::l,h=>by
  simp only [List.mem_cons,not_or]at h;have:=pJ h.2;unfold ins;split
  ·simp
  ·rw [if_neg h.1];simp;omega
theorem pa: ∀ {l:List HT},l.Nodup->(df l).length=l.length
 | [],_=>by simp [df]
 |x::l,h=>by
  rw [List.nodup_cons]at h;have h2:=pa h.2;have:=pJ (l:=df l) (x:=x) (fun hm=>h.1 (dv.1 hm));simp only [df,List.foldr_cons,List.length_cons]at*;omega
theorem rZ{x:HT}: ∀ {l:List HT},SS l->x∈l->(ins x l).length=l.length
 | [],_,h=>by simp at h
 |y::l,hs,h=>by
  have h':=SS.cons.1 hs;unfold ins;split
  ·rename_i ny
   rcases List.mem_cons.1 h with rfl|h
   ·rw [gz]at ny;cases ny
   ·have:=h'.1 _ h;rw [rr ny]at this;cases this
  ·split
   ·rfl
   ·rename_i h1 h2
    rcases List.mem_cons.1 h with rfl|h
    ·exact absurd rfl h2
    ·simp [rZ h'.2 h]
theorem qj: ∀ {l:List HT},(df l).length=l.length->l.Nodup
 | [],_=>List.Pairwise.nil
 |x::l,h=>by
  have h2:=oN l;by_cases hm:x∈l
  ·have:=rZ (ig l) (dv.2 hm)
   simp only [df,List.foldr_cons,List.length_cons]at*;omega
  ·have h3:=pJ (l:=df l) (x:=x) (fun h=>hm (dv.1 h))
   simp only [df,List.foldr_cons,List.length_cons]at*;exact List.nodup_cons.2 ⟨hm,qj (by simp only [df];omega)⟩
theorem Ie:df []= []:=rfl
theorem sS(x:HT):df [x]= [x]:=rfl
theorem Fi{l:List HT}(h:SS l):df l=l:=(wz h fun _=>Iff.rfl).symm
theorem Hx{l:List HT}{x:HT}{k:Nat}(hs:SS l)(h1: ∀y∈l.take k,cH y x=true)(h2: ∀y∈l.drop k,cH x y=true):SS (l.take k++x::l.drop k):=by
 unfold SS at*;rw [<-List.take_append_drop k l,List.pairwise_append]at hs;rw [List.pairwise_append,List.pairwise_cons];refine⟨hs.1,⟨h2,hs.2.1⟩,fun y hy z hz=>?_⟩;rcases List.mem_cons.1 hz with rfl|hz
 ·exact h1 y hy
 ·exact hs.2.2 y hy z hz
theorem SS.get{l:List HT}(h:SS l){i j:Nat}(qw:i<j){x y:HT}(hx:l[i]? =some x)(hy:l[j]? =some y):cH x y=true:=by
 obtain⟨h1,rfl⟩:=List.getElem?_eq_some_iff.1 hx;obtain⟨h2,rfl⟩:=List.getElem?_eq_some_iff.1 hy;exact List.pairwise_iff_getElem.1 h i j h1 h2 qw
theorem CJ{l:List HT}{x:HT}(hs:SS l)(h: ∀y∈l,cH y x=true):SS (l++ [x]):=by
 have:=Hx (k:=l.length) hs (x:=x) (by simpa using h) (by simp);simpa using this
def LE(l:List HT):Prop:=l.Pairwise fun a b=>cH b a=false
theorem lt_of_le_ne{a b:HT}(h:cH b a=false)(hn:a≠b):cH a b=true:=by
 cases lr:cH a b
 ·exact absurd (oX lr h) hn
 ·rfl
theorem rV{a b c:HT}(h:cH b a=false)(h':cH b c=true):cH a c=true:=by
 by_cases e:a=b
 ·subst e;exact h'
 ·exact jn (lt_of_le_ne h e) h'
theorem LE.get{l:List HT}(h:LE l){i j:Nat}(qw:i<j){x y:HT}(hx:l[i]? =some x)(hy:l[j]? =some y):cH y x=false:=by
 obtain⟨h1,rfl⟩:=List.getElem?_eq_some_iff.1 hx;obtain⟨h2,rfl⟩:=List.getElem?_eq_some_iff.1 hy;exact List.pairwise_iff_getElem.1 h i j h1 h2 qw
theorem bE{l:List HT}{k:Nat}{x z:HT}(hx:l[k]? =some x):z∈l.take (k+1)↔z∈l.take k\/z=x:=by
 rw [List.take_add_one,hx];simp
end Go.Proofs.YtnboahlopghcjaaGreatDoor
namespace Go.Proofs.YtnboahlopghcjaaGreatDoor
open Go.Proofs.Tryz
open Go Go.bS Go.RowKit
theorem ee(a:Addr)(k:Nat):(a.add k).block=a.block:=by unfold Addr.add;split<;>rfl
theorem aS{σ:Type}(e:σ->Env)(I:σ->World->Prop)(μ:σ->World->Nat)(s:σ)(w:World)(Q:aN)(l:Nat)(ρ:Env)(w':World):bK e I μ s w Q (.exit l) ρ w'=Q (.exit l) ρ w':=rfl
theorem gS{σ:Type}(e:σ->Env)(I:σ->World->Prop)(μ:σ->World->Nat)(s:σ)(w:World)(Q:aN)(ρ:Env)(w':World):bK e I μ s w Q .ret ρ w'=Q .ret ρ w':=rfl
theorem gH{x:Int}(h0: -9223372036854775808<=x)(h1:x<9223372036854775808):IntKind.i64.wrap x=x:=by
 simp only [IntKind.wrap,IntKind.bits,IntKind.signed];simp;omega
theorem Cells.aD{S:Nat->Prop}{w w':World}{a:Addr}{cs:Array Value}(h:Cells w a cs)(hk:Kept S w w')(hn: ¬S a.block):Cells w' a cs:=
 fun j v hj=>hk.cell (h j v hj) (by rw [ee];exact hn)
theorem Cells.bA{w:World}{b:Nat}{cs:Array Value}{t:TypeId}{fr:Nat×Nat}(h:w.heap[b]? =some (.cells cs t fr)):Cells w ⟨b,0,none⟩ cs:=
 fun j v hj=>by rw [a8,Nat.zero_add,ax h];exact hj
structure HS(w:World)(A:Option Addr)(n:Nat)(l:List HT):Prop where
 len:l.length=n
 at_: ∀(i:Nat) (h:HT),l[i]? =some h-> ∃a,A=some a/\a.block<w.heap.size/\Cells w (a.add (i*32)) h.1
theorem HS.aD{S:Nat->Prop}{w w':World}{A:Option Addr}{n:Nat}{l:List HT}(h:HS w A n l)(hk:Kept S w w')(hn: ∀a,A=some a-> ¬S a.block):HS w' A n l:=⟨h.len,fun i x hi=>by
 obtain⟨a,h1,h2,h3⟩:=h.at_ i x hi;exact⟨a,h1,Nat.lt_of_lt_of_le h2 hk.size,Cells.aD h3 hk (by rw [ee];exact hn a h1)⟩⟩
theorem HS.same{w w':World}{A:Option Addr}{n:Nat}{l:List HT}(h:HS w A n l)(hk:Kept Nil w w'):HS w' A n l:=h.aD hk fun _ _ h=>h
section
variable{w:World}{K:Value->World->Prop}
theorem wF{A:Option Addr}{n c:Nat}{l:List HT}(h:HT)(hl:HS w A n l)(hn:n<=1000000)(hK: ∀w',Kept Nil w w'->K (.bool (decide (h∈l))) w'):
 bk prog cy.id #[.slice A n c,.agg h.1] w K:=by
 refine cy.of ?_;unfold cy.W;intro w3;have k3:Kept Nil w w3:=(Kept.refl Nil w).alloc _;have oZ:w3.heap[w.heap.size]? =some (.cells h.1 ai (0,0)):=aH w _;clear_value w3;have hlen:=hl.len;refine cy.b9 (I:=fun s w'=> ∃i:Nat,s=(false,(i:Int))/\i<=n/\Kept Nil w3 w'/\h∉l.take i) (μ:=fun s _=>((n:Int)-s.2).toNat) (s:=(false,0)) ⟨0,rfl,Nat.zero_le _,Kept.refl _ _,by simp⟩ ?_;rintro s w' ⟨i,rfl,hi,kw,mo⟩;refine Split.dec (fun cH=>?_) (fun fV=>?_)
 ·simp only at cH
  have dN:i<n:=by omega
  obtain⟨x,hx⟩: ∃x,l[i]? =some x:=⟨_,List.getElem?_eq_getElem (by omega)⟩;have kk:Kept Nil w w'.drew:=(k3.trans kw (fun _ _ h=>h)).drew;obtain⟨a,rfl,_,hc⟩:=(hl.same kk).at_ i x hx;intro w8;have k8:Kept Nil w3 w8:=kw.drew;refine⟨⟨by simp only;omega,by simp only;omega⟩,x.1,⟨x.2.1,hc⟩,h.1,⟨h.2.1,Cells.bA (k8.heap oZ (fun h=>h))⟩,⟨x.2.ints,h.2.ints⟩,?_⟩;rw [cQ];have OZ:Kept Nil w w8:=kk;refine Split.dec (fun he=>?_) (fun he=>?_)
  ·have:=hK w8 OZ
   rw [decide_eq_true (by rw [<-he];exact List.mem_of_getElem? hx)]at this;exact this
  ·simp only
   rw [gH (x:=(i:Int)+1) (by omega) (by omega)];refine⟨(false,(i:Int)+1),rfl,⟨i+1,rfl,dN,k8,?_⟩,by simp only;omega⟩;rw [List.take_add_one,hx];simp only [Option.toList_some,List.mem_append,List.mem_singleton,not_or];exact⟨mo,fun e=>he e.symm⟩
 ·simp only at fV
  rw [aS,cy.cZ];have:=hK w' (k3.trans kw (fun _ _ h=>h));rw [List.take_of_length_le (by omega)]at mo;rw [decide_eq_false mo]at this;exact this
theorem Dj{A A':Option Addr}{n n' c c':Nat}{l l':List HT}(hl:HS w A n l)(Sq:HS w A' n' l')(hn:n<=1000000)(hK: ∀w',Kept Nil w w'->K (.bool (decide (l=l'))) w'):
 bk prog bR.id #[.slice A n c,.slice A' n' c'] w K:=by
 have hlen:=hl.len;have GF:=Sq.len;refine bR.of ?_;by_cases fE:n=n'
 ·subst fE
  refine Split.no (by simp) ?_;refine bR.b9 (I:=fun s w'=> ∃i:Nat,s=(false,(i:Int))/\i<=n/\Kept Nil w w'/\l.take i=l'.take i) (μ:=fun s _=>((n:Int)-s.2).toNat) (s:=(false,0)) ⟨0,rfl,Nat.zero_le _,Kept.refl _ _,by simp⟩ ?_;rintro s w' ⟨i,rfl,hi,kw,heq⟩;refine Split.dec (fun cH=>?_) (fun fV=>?_)
  ·simp only at cH
   have dN:i<n:=by omega
   obtain⟨x,hx⟩: ∃x,l[i]? =some x:=⟨_,List.getElem?_eq_getElem (by omega)⟩;obtain⟨y,hy⟩: ∃y,l'[i]? =some y:=⟨_,List.getElem?_eq_getElem (by omega)⟩;have kk:Kept Nil w w'.drew:=kw.drew;obtain⟨a,rfl,_,hc⟩:=(hl.same kk).at_ i x hx;obtain⟨a',rfl,_,sC⟩:=(Sq.same kk).at_ i y hy;intro w7;have k7:Kept Nil w w7:=kk;have hb:0<=(i:Int)/\(i:Int)<(n:Int):=⟨by omega,by omega⟩;refine⟨hb,x.1,⟨x.2.1,hc⟩,hb,y.1,⟨y.2.1,sC⟩,⟨x.2.ints,y.2.ints⟩,?_⟩;rw [cQ];by_cases he:x=y
   ·refine Split.no (by simp [he]) ?_
    simp only;rw [gH (x:=(i:Int)+1) (by omega) (by omega)];refine⟨(false,(i:Int)+1),rfl,⟨i+1,rfl,dN,k7,?_⟩,by simp only;omega⟩;rw [List.take_add_one,List.take_add_one,hx,hy,heq,he]
   ·refine Split.yes (by simp [he]) ?_
    have:=hK w7 k7;rw [decide_eq_false (fun e=>he (by rw [e,hy]at hx;exact(Option.some.inj hx).symm))]at this;exact this
  ·simp only at fV
   rw [aS,bR.cZ];have:=hK w' kw;rw [List.take_of_length_le (by omega),List.take_of_length_le (by omega)]at heq;rw [decide_eq_true heq]at this;exact this
 ·refine Split.yes (by simp;omega) ?_
  have:=hK w (Kept.refl _ _);rw [decide_eq_false (fun e=>fE (by rw [<-hlen,<-GF,e]))]at this;exact this
end
end Go.Proofs.YtnboahlopghcjaaGreatDoor
namespace Go.Proofs.YtnboahlopghcjaaGreatDoor
open Go.Proofs.Tryz
open Go Go.bS Go.RowKit
def j0(a b:HT):Int:=if cH a b then-1 else if cH b a then 1 else 0
theorem tR: ∀(i:Nat) (a b:List Int),a.take i=b.take i->sU a b=sU (a.drop i) (b.drop i)
 |0,a,b,_=>rfl
 |i+1,[],[],_=>rfl
 |i+1,[],y::b,h=>by simp at h
 |i+1,x::a,[],h=>by simp at h
 |i+1,x::a,y::b,h=>by
  simp only [List.take_succ_cons,List.cons.injEq]at h;obtain⟨rfl,h⟩:=h;simp only [sU,List.drop_succ_cons];rw [if_neg (by omega),if_neg (by omega)];exact tR i a b h
theorem wO{h:HT}{i:Nat}(hi:i<32): ∃x:Int,h.1[i]? =some (.int .u8 x)/\(key h)[i]? =some x/\0<=x/\x<256:=by
 have hs:i<h.1.size:=by rw [h.2.1];exact hi
 obtain⟨x,hx,h1,h2⟩:=h.2.2 h.1[i] (by simp);refine⟨x,by rw [Array.getElem?_eq_getElem hs,hx],?_,h1,h2⟩;unfold key;rw [List.getElem?_map,Array.getElem?_toList,Array.getElem?_eq_getElem hs,hx];rfl
section
variable{w:World}{K:Value->World->Prop}
theorem rP(a b:HT)(hK: ∀w',Kept Nil w w'->K (.int .i64 (j0 a b)) w'):bk prog bC.id #[.agg a.1,.agg b.1] w K:=by
 refine bC.of ?_;unfold bC.W;intro w3 w4;have k3:Kept Nil w w3:=(Kept.refl Nil w).alloc _;have k4:Kept Nil w w4:=k3.alloc _;have vn:w4.heap[w.heap.size]? =some (.cells a.1 ai (0,0)):=jA (aH w _) _;have qN:w4.heap[w3.heap.size]? =some (.cells b.1 ai (0,0)):=aH w3 _;clear_value w4;refine bC.b9 (I:=fun s w'=> ∃i:Nat,s=(0,(i:Int))/\i<=32/\Kept Nil w4 w'/\(key a).take i=(key b).take i) (μ:=fun s _=>(32-s.2).toNat) (s:=(0,0)) ⟨0,rfl,by omega,Kept.refl _ _,by simp⟩ ?_;rintro s w' ⟨i,rfl,hi,kw,heq⟩;refine Split.dec (fun iP=>?_) (fun fV=>?_)
 ·simp only at iP
  have dN:i<32:=by omega
  obtain⟨x,hx,kx,_⟩:=wO (h:=a) dN;obtain⟨y,hy,ky,_⟩:=wO (h:=b) dN;have e1:cH a b=sU ((key a).drop i) ((key b).drop i):=tR i _ _ heq;have e2:cH b a=sU ((key b).drop i) ((key a).drop i):=tR i _ _ heq.symm;have da:(key a).drop i=x::(key a).drop (i+1):=by
   obtain⟨h1,h2⟩:=List.getElem?_eq_some_iff.1 kx;rw [List.drop_eq_getElem_cons h1,h2]
  have db:(key b).drop i=y::(key b).drop (i+1):=by
   obtain⟨h1,h2⟩:=List.getElem?_eq_some_iff.1 ky;rw [List.drop_eq_getElem_cons h1,h2]
  rw [da,db]at e1 e2;simp only [sU]at e1 e2;intro w9;have k9:Kept Nil w4 w9:=kw.drew;clear_value w9;have hb:0<=(i:Int)/\(i:Int)<32:=⟨by omega,by omega⟩;have ca: ∀ {w':World},Kept Nil w4 w'->w'.cell? ((⟨w.heap.size,0,none⟩:Addr).add ((i:Int).toNat*1))=some (.int .u8 x):=fun k=>by
   rw [a8,Nat.zero_add,Nat.mul_one,Int.toNat_natCast,ax (k.heap vn (fun h=>h))];exact hx
  have cb: ∀ {w':World},Kept Nil w4 w'->w'.cell? ((⟨w3.heap.size,0,none⟩:Addr).add ((i:Int).toNat*1))=some (.int .u8 y):=fun k=>by
   rw [a8,Nat.zero_add,Nat.mul_one,Int.toNat_natCast,ax (k.heap qN (fun h=>h))];exact hy
  refine⟨hb,x,ca k9,hb,y,cb k9,Split.dec (fun ny=>?_) (fun ny=>?_)⟩
  ·have:=hK w9 (k4.trans k9 (fun _ _ h=>h))
   rw [show j0 a b= -1 by unfold j0;rw [e1,if_pos ny];rfl]at this;exact this
  ·intro lF
   have vX:Kept Nil w4 lF:=k9.drew;clear_value lF;refine⟨hb,x,ca vX,hb,y,cb vX,Split.dec (fun Ck=>?_) (fun Ck=>?_)⟩
   ·have:=hK lF (k4.trans vX (fun _ _ h=>h))
    rw [show j0 a b=1 by unfold j0;rw [e1,e2,if_neg ny,if_pos (show y<x from Ck),if_pos (show y<x from Ck)];rfl]at this;exact this
   ·simp only
    rw [gH (x:=(i:Int)+1) (by omega) (by omega)];refine⟨(0,(i:Int)+1),rfl,⟨i+1,rfl,dN,vX,?_⟩,by simp only;omega⟩;have:x=y:=by omega
    rw [List.take_add_one,List.take_add_one,kx,ky,heq,this]
 ·simp only at fV
  rw [aS,bC.cZ];have:=hK w' (k4.trans kw (fun _ _ h=>h));have lr:a=b:=by
   apply key_inj;rw [List.take_of_length_le (by rw [lJ];omega),List.take_of_length_le (by rw [lJ];omega)]at heq;exact heq
  rw [show j0 a b=0 by unfold j0;rw [lr,gz];rfl]at this;exact this
end
end Go.Proofs.YtnboahlopghcjaaGreatDoor
namespace Go.Proofs.YtnboahlopghcjaaGreatDoor
open Go.Proofs.Tryz
open Go Go.bS Go.RowKit
theorem CE{x y:Int}(hx:0<=x/\x<256)(hy:0<=y/\y<256):(x.toNat.toUInt8<y.toNat.toUInt8)↔x<y:=by
 rw [UInt8.lt_iff_toNat_lt];simp only [Nat.toUInt8,UInt8.toNat_ofNat'];omega
theorem mu: ∀ {a b:List Int},a.length=b.length->(∀x∈a,0<=x/\x<256)->(∀x∈b,0<=x/\x<256)->
 Lib.compareBytes (Lib.bytesOf a) (Lib.bytesOf b)=if sU a b then-1 else if sU b a then 1 else 0
 | [],[],_,_,_=>rfl
 | [],_::_,h,_,_=>by simp at h
 |_::_,[],h,_,_=>by simp at h
 |x::a,y::b,h,ha,hb=>by
  have hx:=ha x (by simp);have hy:=hb y (by simp);have ih:=mu (a:=a) (b:=b) (by simpa using h) (fun z hz=>ha z (by simp [hz])) (fun z hz=>hb z (by simp [hz]));simp only [Lib.bytesOf,List.map_cons,Lib.compareBytes,CE hx hy,CE hy hx,sU];by_cases h1:x<y
  ·simp [h1]
  ·by_cases h2:y<x
   ·simp [h1,h2]
   ·simp only [h1,h2,if_false]
    exact ih
theorem vR(h:HT): ∀x∈key h,0<=x/\x<256:=by
 intro x hx;simp only [key,List.mem_map]at hx;obtain⟨v,hv,rfl⟩:=hx;obtain⟨i,rfl,h1,h2⟩:=h.2.2 v hv;exact⟨h1,h2⟩
theorem qC(a b:HT):Lib.compareBytes (Lib.bytesOf (key a)) (Lib.bytesOf (key b))=j0 a b:=
 mu (by rw [lJ,lJ]) (vR a) (vR b)
section
variable{w:World}{K:Value->World->Prop}
theorem ry(a b:HT){p q:Addr}{c c':Nat}(ha:Cells w p a.1)(hb:Cells w q b.1)(hK:K (.int .i64 (j0 a b)) w):
 bk prog gB.id #[.slice (some p) 32 c,.slice (some q) 32 c'] w K:=by
 refine gB.of ⟨.int .i64 (j0 a b),w,?_,_,rfl,hK⟩;have yK: ∀(h:HT) (r:Addr),Cells w r h.1-> ∀j x,(key h)[j]? =some x->w.cell? (r.add j)=some (.int .u8 x):=by
  intro h r hr j x hx;have hj:j<32:=by have:=(List.getElem?_eq_some_iff.1 hx).1;rw [lJ]at this;exact this
  obtain⟨y,hy,ky,_⟩:=wO (h:=h) hj;rw [hx]at ky;cases ky;exact hr j _ hy
 have l1:=Lib.run_loadBytesX (P:=prog) w (key a) p .empty (yK a p ha);have l2:=Lib.run_loadBytesX (P:=prog) w (key b) q .empty (yK b q hb);rw [lJ]at l1 l2;rw [run_callFunc_extern sI.at_ (by kernel_rfl) (by kernel_rfl) (by kernel_rfl) (e:=Extern.BytealgCompare.compare) (by kernel_rfl)];have hr:(Extern.BytealgCompare.compare #[.slice (some p) 32 c,.slice (some q) 32 c']).run prog w=.ok (.int .i64 (j0 a b)) w:=by
  change Sem.run prog (do pure (goInt (Extern.BytealgCompare.cmp (<-Extern.Bytes.bytesOf (.slice (some p) 32 c)) (<-Extern.Bytes.bytesOf (.slice (some q) 32 c'))))) w=_
  simp only [Extern.Bytes.bytesOf,Sem.run_bind,l1,l2,Result.andThen_ok,Sem.run_pure,Lib.cmp_eq,goInt];rw [<-qC];simp
 rw [hr];rfl
theorem oE(a b:HT)(hK:K (.int .i64 (j0 a b)) ((w.alloc (.cells a.1 ai)).alloc (.cells b.1 ai)).drew):bk prog dm.id #[.agg a.1,.agg b.1] w K:=by
 refine dm.of ?_;unfold dm.W;intro w3 w4 w5;have ha:w5.heap[w.heap.size]? =some (.cells a.1 ai (0,0)):=jA (aH w _) _;have hb:w5.heap[w3.heap.size]? =some (.cells b.1 ai (0,0)):=aH w3 _;simp only [if_neg (show ¬(32:Nat)=0 by omega),Nat.zero_mul,add_zero,Nat.sub_zero];exact ry a b (Cells.bA ha) (Cells.bA hb) ⟨_,rfl,hK⟩
end
end Go.Proofs.YtnboahlopghcjaaGreatDoor
namespace Go.Proofs.YtnboahlopghcjaaGreatDoor
open Go.Proofs.Tryz
open Go Go.bS Go.RowKit
theorem kc(a:Addr)(m n:Nat):(a.add m).add n=a.add (m+n):=by
 unfold Addr.add;by_cases hm:m=0<;>by_cases hn:n=0<;>simp [hm,hn,Nat.add_assoc]
def cJ(l:List HT):List Value:=l.flatMap fun h=>h.1.toList
theorem jY(h:HT)(l:List HT):cJ (h::l)=h.1.toList++cJ l:=by simp [cJ]
theorem ln(l m:List HT):cJ (l++m)=cJ l++cJ m:=by simp [cJ]
theorem dZ: ∀l:List HT,(cJ l).length=l.length*32
 | []=>rfl
 |h::l=>by
  have:=h.2.1;rw [jY,List.length_append,dZ l,Array.length_toList,this,List.length_cons];omega
theorem AI(l:List HT): ∀u∈cJ l,u.oneCell'=true:=by
 intro u hu;simp only [cJ,List.mem_flatMap]at hu;obtain⟨h,_,hu⟩:=hu;exact h.2.one u hu
theorem jM: ∀ {l:List HT} {i:Nat} {h:HT},l[i]? =some h-> ∀ {j:Nat} {v:Value},h.1[j]? =some v->(cJ l)[i*32+j]? =some v
 | [],_,_,hi,_,_,_=>by simp at hi
 |x::l,0,h,hi,j,v,hj=>by
  simp only [List.getElem?_cons_zero,Option.some.injEq]at hi;subst hi;have cH:j<x.1.toList.length:=by simpa using (Array.getElem?_eq_some_iff.1 hj).1
  rw [jY,Nat.zero_mul,Nat.zero_add,List.getElem?_append_left cH,Array.getElem?_toList,hj]
 |x::l,i+1,h,hi,j,v,hj=>by
  simp only [List.getElem?_cons_succ]at hi;have:=x.2.1;rw [jY,List.getElem?_append_right (by simp;omega),Array.length_toList,this,show(i+1)*32+j-32=i*32+j by omega];exact jM hi hj
theorem D3{l:List HT}{j:Nat}{v:Value}(h:(cJ l)[j]? =some v): ∃x,l[j/32]? =some x/\x.1[j%32]? =some v:=by
 have hj:=(List.getElem?_eq_some_iff.1 h).1;rw [dZ]at hj;have hi:j/32<l.length:=by omega
 refine⟨l[j/32],List.getElem?_eq_getElem hi,?_⟩;have hs:=l[j/32].2.1;have hm:j%32<l[j/32].1.size:=by rw [hs];omega
 obtain⟨u,hu⟩: ∃u,l[j/32].1[j%32]? =some u:=⟨_,Array.getElem?_eq_getElem hm⟩;have:=jM (List.getElem?_eq_getElem hi) hu;rw [show j/32*32+j%32=j by omega,h]at this;rw [hu,this]
theorem nS:xu prog ay ai 32 32:=⟨by kernel_rfl,by kernel_rfl⟩
abbrev bQ(w:World)(B:Nat)(A:Option Addr)(n c:Nat)(l:List HT):Prop:=Row w B ai 32 A n c (cJ l)
section
variable{w w':World}{B:Nat}{A:Option Addr}{n c:Nat}{l:List HT}
theorem bQ.len(h:bQ w B A n c l):l.length=n:=by
 have:=Row.len h;rw [dZ]at this;omega
theorem bQ.hs(h:bQ w B A n c l):HS w A n l:=⟨h.len,fun i x hi=>by
 have hlen:=h.len;have dN:=(List.getElem?_eq_some_iff.1 hi).1;obtain⟨b,rfl⟩:=Row.some h (by omega);obtain⟨_,cur,ox⟩:=Row.bA h (k:=b) rfl;refine⟨_,rfl,aT ox,fun j v hj=>?_⟩;rw [kc];exact Row.cells h _ _ (jM hi hj)⟩
theorem bQ.nil(w:World)(B:Nat):bQ w B none 0 0 []:=Row.nil _ _ _ _
theorem HS.cells{a:Addr}(h:HS w (some a) n l): ∀j u,(cJ l)[j]? =some u->w.cell? (a.add j)=some u:=by
 intro j u hj;obtain⟨x,hx,hu⟩:=D3 hj;obtain⟨a',ha,_,hc⟩:=h.at_ _ x hx;cases ha;have:=hc _ _ hu
 rwa [kc,show j/32*32+j%32=j by omega]at this
theorem HS.nil(w:World)(A:Option Addr):HS w A 0 []:=⟨rfl,fun i x hi=>by simp at hi⟩
theorem HS.none(h:HS w none n l):n=0/\l= []:=by
 cases l with
 |nil=>exact⟨h.len.symm,rfl⟩
 |cons x l=>obtain⟨a,ha,_⟩:=h.at_ 0 x rfl;cases ha
theorem HS.take(h:HS w A n l){k:Nat}(hk:k<=n):HS w A k (l.take k):=⟨by have:=h.len;simp;omega,fun i x hi=>by
 rw [List.getElem?_take]at hi;split at hi
 ·exact h.at_ i x hi
 ·cases hi⟩
theorem HS.drop(h:HS w A n l){k:Nat}(hc:n<=c)(hk:k<=n):HS w (if c=k then A else A.map (·.add (k*32))) (n-k) (l.drop k):=⟨by have:=h.len;simp;omega,fun i x hi=>by
 rw [List.getElem?_drop]at hi;have hlen:=h.len;have:=(List.getElem?_eq_some_iff.1 hi).1;obtain⟨a,rfl,hb,pW⟩:=h.at_ _ x hi;rw [if_neg (by omega)];refine⟨_,rfl,by rw [ee];exact hb,?_⟩;rw [kc,<-Nat.add_mul];exact pW⟩
theorem HS.one{w:World}{b:Nat}{h:HT}{t:TypeId}{fr:Nat×Nat}(hb:w.heap[b]? =some (.cells h.1 t fr)):HS w (some ⟨b,0,Option.none⟩) 1 [h]:=⟨rfl,fun i x hi=>by
 cases i with
 |zero=>
  simp only [List.getElem?_cons_zero,Option.some.injEq]at hi;subst hi;exact⟨_,rfl,aT hb,by rw [Nat.zero_mul,add_zero];exact Cells.bA hb⟩
 |succ i=>simp at hi⟩
theorem cD(ty:Nat)(h:bQ w B A n c l){A2:Option Addr}{m cx:Nat}{l2:List HT}(h2:HS w A2 m l2)(hm:n+m<=1000000)(hB:B<=w.heap.size):
 ∃A' c' w',(Builtin.append_ #[ay,ay] ty #[.slice A n c,.slice A2 m cx]).run prog w=.ok (.slice A' (n+m) c') w'/\
  bQ w' B A' (n+m) c' (l++l2)/\w.grownBy w' (bg A)/\(∀k,bg A'=some k->bg A=some k\/w.heap.size<=k):=by
 cases A2 with
 |some a=>
  have sA:=h2.len;obtain⟨A',c',w',hr,eM,hg,hb⟩:=e8 (P:=prog) (t:=ay) (bytes:=32) (ty:=ty) nS h (a:=a) (m:=m) (cx:=cx) (news:=cJ l2) (by rw [dZ,sA]) h2.cells (AI l2) (by omega) (by unfold maxLen;omega) hB;refine⟨A',c',w',hr,?_,hg,hb⟩;rw [<-ln]at eM;exact eM
 |none=>
  obtain⟨rfl,rfl⟩:=h2.none;refine⟨A,c,w,?_,by simpa using h,⟨rfl,rfl,rfl,Nat.le_refl _,fun _ _ _=>rfl⟩,fun k hk=>.inl hk⟩;obtain⟨i,z,hi,hz,hs,HV,Cj⟩:=nS.inf;have hn:n<=c:=by rcases Row.own h with⟨_,h1,h2,_⟩|⟨_,_,_,_,_,h1,_⟩<;>omega
  simp [Builtin.append_,run_underlying nS.nJ,sizeOf,typeInfo,hi,Builtin.lenOf,Builtin.firstCells,hn];cases A<;>simp [storeCells]
end
end Go.Proofs.YtnboahlopghcjaaGreatDoor
namespace Go.Proofs.YtnboahlopghcjaaGreatDoor
open Go.Proofs.Tryz
open Go Go.bS Go.RowKit
theorem HS.load{w:World}{A:Option Addr}{n:Nat}{l:List HT}(hl:HS w A n l){i:Int}{x:HT}(h0:0<=i)(hx:l[i.toNat]? =some x){k:Array Value->Prop}(hk:k x.1):
 (0<=i/\i<(n:Int))/\Is A fun a=> ∃t:Array Value,(t.size=32/\Cells w (a.add (i.toNat*32)) t)/\k t:=by
 obtain⟨a,rfl,_,hc⟩:=hl.at_ _ x hx;have:=(List.getElem?_eq_some_iff.1 hx).1;have:=hl.len;exact⟨⟨h0,by omega⟩,x.1,⟨x.2.1,hc⟩,hk⟩
theorem qF{a b:HT}:(j0 a b<0)↔cH a b=true:=by
 unfold j0;by_cases h:cH a b=true
 ·simp [h]
 ·by_cases h':cH b a=true<;>simp [h,h']
theorem dG{n:Int}(h0:0<=n)(h1:n<=2000000):IntKind.i64.wrap (n+1)=n+1:=gH (by omega) (by omega)
theorem wrapM{n:Int}(h0:0<=n)(h1:n<=2000000):IntKind.i64.wrap (n-1)=n-1:=gH (by omega) (by omega)
theorem Kept.dw{w w' lG:World}{A:Option Addr}(h:Kept Nil w w')(hg:w'.grownBy lG (bg A))(hr: ∀k,bg A=some k->w.heap.size<=k):Kept Nil w lG:=
 Kept.grown h hg fun k hk cH=>absurd (hr k hk) (by omega)
section
variable{w:World}{K:Value->World->Prop}
theorem pz{A:Option Addr}{n c:Nat}{l:List HT}(hl:HS w A n l)(hn:n<=400000)
 (hK: ∀A' c' w',bQ w' w.heap.size A' (df l).length c' (df l)->Kept Nil w w'->K (.slice A' (df l).length c') w'):
 bk prog aJ.id #[.slice A n c] w K:=by
 refine aJ.of ?_;have hlen:=hl.len;refine aJ.b9 (I:=fun s w'=> ∃(i:Nat) (out:List HT) (B:Option Addr) (m:Nat),s=(B,out.length,m,(i:Int))/\i<=n/\bQ w' w.heap.size B out.length m out/\SS out/\(∀x,x∈out↔x∈l.take i)/\out.length<=i/\Kept Nil w w')
  (μ:=fun s _=>((n:Int)-s.2.2.2).toNat) (s:=(none,0,0,0)) ⟨0,[],none,0,rfl,Nat.zero_le _,bQ.nil _ _,List.Pairwise.nil,by simp,by simp,Kept.refl _ _⟩ ?_
 rintro s w' ⟨i,out,B,m,rfl,hi,row,sX,gJ,hol,kw⟩;refine Split.dec (fun iP=>?_) (fun fV=>?_)
 ·simp only at iP
  have dN:i<n:=by omega
  obtain⟨x,hx⟩: ∃x,l[i]? =some x:=⟨_,List.getElem?_eq_getElem (by omega)⟩;refine(hl.same kw).load (i:=(i:Int)) (by omega) hx (wF x row.hs (by simp only;omega) fun w9 k9=>⟨_,rfl,?_⟩);simp only;have Qx:Kept Nil w w9:=kw.trans k9 (fun _ _ h=>h);have P6:bQ w9 w.heap.size B out.length m out:=Row.aD row k9 (fun _ _ h=>h);have xn:l.take (i+1)=l.take i++ [x]:=by rw [List.take_add_one,hx];rfl
  refine Split.dec (fun fh=>?_) (fun mo=>?_)
  ·rw [dG (n:=(i:Int)) (by omega) (by omega)]
   refine⟨(B,out.length,m,(i:Int)+1),rfl,⟨i+1,out,B,m,rfl,dN,P6,sX,fun y=>?_,by omega,Qx⟩,by simp only;omega⟩;rw [xn,List.mem_append,List.mem_singleton,<-gJ y];constructor
   ·exact .inl
   ·rintro(h|rfl)
    ·exact h
    ·exact fh
  ·refine aJ.gI (I:=fun s w'=> ∃k:Nat,s=(k:Int)/\k<=out.length/\(∀y∈out.drop k,cH x y=true)/\Kept Nil w9 w') (μ:=fun s _=>s.toNat) (s:=(out.length:Int)) ⟨out.length,rfl,Nat.le_refl _,by simp,Kept.refl _ _⟩ ?_
   rintro s w1 ⟨k,rfl,hk,ug,k1⟩;have K2:HS w1 A n l:=(hl.same Qx).same k1;have wC:bQ w1 w.heap.size B out.length m out:=Row.aD P6 k1 (fun _ _ h=>h);have kx:Kept Nil w w1:=Qx.trans k1 (fun _ _ h=>h);have uf: ∀w1,HS w1 A n l->bQ w1 w.heap.size B out.length m out->Kept Nil w w1->(∀y∈out.take k,cH y x=true)->
    aJ.iu A n c none 0 0 B out.length m (i:Int) (k:Int) (bK (aJ.e1 A n c none 0 0) (fun s w'=> ∃(i:Nat) (out:List HT) (B:Option Addr) (m:Nat),s=(B,out.length,m,(i:Int))/\i<=n/\bQ w' w.heap.size B out.length m out/\SS out/\(∀x,x∈out↔x∈l.take i)/\out.length<=i/\Kept Nil w w') (fun s _=>((n:Int)-s.2.2.2).toNat) (B,out.length,m,(i:Int)) w' (aJ.q1 K)) w1:=by
    intro w1 K2 wC kx Gm;have GL:out.length<=m:=by rcases Row.own wC with⟨_,h1,h2,_⟩|⟨_,_,_,_,_,h1,_⟩<;>omega
    have kR:=kx.size;unfold aJ.iu;refine⟨⟨by omega,by omega⟩,?_⟩;have ow:HS w1 (if m=0 then B else B.map (·.add (0*32))) ((k:Int).toNat -0) (out.take k):=by
     have h:=wC.hs.take hk;rw [Nat.sub_zero,Int.toNat_natCast];have e:(if m=0 then B else B.map (·.add (0*32)))=B:=by
      split
      ·rfl
      ·cases B<;>simp [add_zero]
     rw [e];exact h
    obtain⟨A1,c1,w2,kF,fX,Jn,lK⟩:=cD (cx:=m-0) ay (bQ.nil w1 w.heap.size) ow (by simp;omega) kR;have k2:Kept Nil w1 w2:=Kept.dw (Kept.refl _ _) Jn (fun k hk=>by cases hk);rw [Nat.zero_add,Nat.sub_zero,Int.toNat_natCast]at kF fX;rw [List.nil_append]at fX;refine⟨A1,_,c1,w2,by rw [Nat.sub_zero,Int.toNat_natCast];exact kF,?_⟩;have sA:=K2.same k2;refine sA.load (i:=(i:Int)) (by omega) hx ⟨x.2.1,?_⟩;intro w3;have k3:Kept Nil w2 w3:=(Kept.refl _ _).alloc _;have iW:HS w3 (some ⟨w2.heap.size,0,none⟩) 1 [x]:=by
     refine HS.one (t:=ai) (fr:=(0,0)) ?_;have e3:w3=w2.alloc (.cells x.1 ai):=by
      show w2.alloc (.cells (x.1.toList++ []).toArray ai)=_
      simp
     rw [e3];exact aH w2 _
    clear_value w3;have kK:bQ w3 w.heap.size A1 k c1 (out.take k):=Row.aD fX k3 (fun _ _ h=>h);have XL:w.heap.size<=w3.heap.size:=Nat.le_trans (Nat.le_trans kR k2.size) k3.size;obtain⟨A4,c4,w4,uP,iO,Cw,qN⟩:=cD (cx:=1) ay kK iW (by omega) XL;have k4:Kept Nil w1 w4:=Kept.dw (k2.trans k3 (fun _ _ h=>h)) Cw (fun k hk=>by rcases lK k hk with h|h;cases h;exact h);refine⟨A4,_,c4,w4,uP,⟨by omega,by omega⟩,?_⟩;have KN:HS w4 (if m=(k:Int).toNat then B else B.map (·.add ((k:Int).toNat*32))) (out.length-(k:Int).toNat) (out.drop k):=by
     rw [Int.toNat_natCast];exact(wC.hs.same k4).drop GL hk
    have hdl:(out.length-(k:Int).toNat)=out.length-k:=by rw [Int.toNat_natCast]
    obtain⟨A5,c5,w5,rp,kl,SH,lU⟩:=cD (cx:=m-(k:Int).toNat) ay iO KN (by omega) (Nat.le_trans kR k4.size);have k5:Kept Nil w1 w5:=Kept.dw k4 SH (fun b hb=>by
     rcases qN b hb with h|h
     ·rcases lK b h with h|h
      ·cases h
      ·exact h
     ·exact Nat.le_trans (Nat.le_trans k2.size k3.size) h)
    refine⟨A5,_,c5,w5,rp,?_⟩;rw [dG (n:=(i:Int)) (by omega) (by omega)];have lR:out.take k++ [x]++out.drop k=out.take k++x::out.drop k:=by simp
    have xo:(out.take k++x::out.drop k).length=out.length+1:=by simp;omega
    rw [lR]at kl;have e5:k+1+(out.length-(k:Int).toNat)=(out.take k++x::out.drop k).length:=by rw [xo];omega
    rw [e5]at kl⊢;refine⟨(A5,(out.take k++x::out.drop k).length,c5,(i:Int)+1),rfl,⟨i+1,_,A5,c5,rfl,dN,kl,Hx sX Gm ug,fun y=>?_,by omega,kx.trans k5 (fun _ _ h=>h)⟩,by simp only;omega⟩;rw [show y∈l.take (i+1)↔y∈out\/y=x by rw [xn,List.mem_append,List.mem_singleton,gJ y],List.mem_append,List.mem_cons];constructor
    ·rintro(h|rfl|h)
     ·exact .inl (List.mem_of_mem_take h)
     ·exact .inr rfl
     ·exact .inl (List.mem_of_mem_drop h)
    ·rintro(h|rfl)
     ·rw [<-List.take_append_drop k out,List.mem_append]at h
      rcases h with h|h
      ·exact .inl h
      ·exact .inr (.inr h)
     ·exact .inr (.inl rfl)
   unfold aJ.B2;intro w2;have k2:Kept Nil w1 w2:=(Kept.refl _ _).drew;clear_value w2;have sA:=K2.same k2;have fX:bQ w2 w.heap.size B out.length m out:=Row.aD wC k2 (fun _ _ h=>h);have kx2:=kx.trans k2 (fun _ _ h=>h);refine Split.dec (fun iK=>?_) (fun yG=>?_)
   ·have nf:0<k:=by omega
    obtain⟨y,hy⟩: ∃y,out[k-1]? =some y:=⟨_,List.getElem?_eq_getElem (by omega)⟩;rw [wrapM (n:=(k:Int)) (by omega) (by omega)];refine sA.load (i:=(i:Int)) (by omega) hx (fX.hs.load (by omega) (by rw [show((k:Int)-1).toNat=k-1 by omega];exact hy) (rP x y fun w3 k3=>⟨_,rfl,?_⟩));refine Split.dec (fun hc=>?_) (fun hc=>?_)
    ·refine⟨(k:Int)-1,rfl,⟨k-1,by omega,by omega,fun z hz=>?_,(k1.trans k2 (fun _ _ h=>h)).trans k3 (fun _ _ h=>h)⟩,by simp only;omega⟩
     have hd:out.drop (k-1)=y::out.drop k:=by
      obtain⟨h1,h2⟩:=List.getElem?_eq_some_iff.1 hy;rw [List.drop_eq_getElem_cons h1,h2,show k-1+1=k by omega]
     rw [hd]at hz;rcases List.mem_cons.1 hz with rfl|hz
     ·exact qF.1 hc
     ·exact ug z hz
    ·rw [aS,aJ.jF]
     refine uf w3 (sA.same k3) (Row.aD fX k3 (fun _ _ h=>h)) (kx2.trans k3 (fun _ _ h=>h)) fun z hz=>?_;have Ck:cH y x=true:=by
      have h1:cH x y=false:=by
       cases h:cH x y
       ·rfl
       ·exact absurd (qF.2 h) hc
      refine lt_of_le_ne h1 fun e=>mo ?_;rw [<-e];exact List.mem_of_getElem? hy
     obtain⟨j,hj⟩:=List.mem_iff_getElem?.1 hz;rw [List.getElem?_take]at hj;split at hj
     ·rename_i Vi
      by_cases e:j=k-1
      ·subst e;rw [hy]at hj;cases hj;exact Ck
      ·exact jn (sX.get (by omega) hj hy) Ck
     ·cases hj
   ·rw [aS,aJ.jF]
    have nf:k=0:=by omega
    refine uf w2 sA fX kx2 fun z hz=>?_;rw [nf]at hz;simp at hz
 ·simp only at fV
  have:i=n:=by omega
  subst this;rw [aS,aJ.cZ];have e:out=df l:=wz sX fun x=>by rw [gJ,List.take_of_length_le (by omega)]
  rw [e]at row;have:=hK B m w' row kw;rw [<-e]at this;exact this
end
end Go.Proofs.YtnboahlopghcjaaGreatDoor
namespace Go.Proofs.YtnboahlopghcjaaGreatDoor
open Go.Proofs.Tryz
open Go Go.bS Go.RowKit
theorem jP{w:World}{k l:Nat}{cs:Array Value}{t:TypeId}{fr:Nat×Nat}{R:Loop}(h:w.heap[k]? =some (.cells cs t fr))(h':w.heap[l]? =some (.loop R)):k≠l:=by
 rintro rfl;rw [h]at h';cases h'
theorem wK{w:World}{k l:Nat}{cs:Array Value}{t:TypeId}{fr:Nat×Nat}{d:Option (List Deferred)}(h:w.heap[k]? =some (.cells cs t fr))(h':w.heap[l]? =some (.deferred d)):k≠l:=by
 rintro rfl;rw [h]at h';cases h'
theorem Row.apart{w w':World}{B:Nat}{e:TypeId}{size:Nat}{A:Option Addr}{n c:Nat}{xs:List Value}(h:Row w B e size A n c xs){l:Nat}(hk:Kept (· =l) w w')
 (hl: ∀cs t fr,w.heap[l]? ≠some (.cells cs t fr)):Row w' B e size A n c xs:=Row.aD h hk fun k hb e=>by
 subst e;obtain⟨_,cur,hc⟩:=Row.bA h hb;exact hl _ _ _ hc
abbrev qz(h:HT):List Value:= [.agg h.1]
section
variable{w:World}{K:Value->World->Prop}
theorem xG(p:Addr){A:Option Addr}{n c:Nat}{l:List HT}(hn:n<=1000000):
 mE prog aA.id #[] #[.pointer (some p)] (l.map qz) (fun w=>HS w A n l/\w.cell? p=some (.slice A n c)):=by
 intro y I D w0 hI hD qu h0 pL;refine aA.of ?_;obtain⟨Cs,Ph⟩:=qu 0 w0 h0;have hlen:=Cs.len;refine⟨A,n,c,Ph,?_⟩;refine aA.b9 (I:=fun s w'=> ∃i:Nat,s=(i:Int)/\i<=n/\I i w') (μ:=fun s _=>((n:Int)-s).toNat) (s:=0) ⟨0,rfl,Nat.zero_le _,h0⟩ ?_;rintro s w' ⟨i,rfl,hi,hw⟩;refine Split.dec (fun iP=>?_) (fun fV=>?_)
 ·have dN:i<n:=by omega
  obtain⟨x,hx⟩: ∃x,l[i]? =some x:=⟨_,List.getElem?_eq_getElem (by omega)⟩;have hl:=(qu i w' hw).1;refine hl.load (i:=(i:Int)) (by omega) hx ?_;intro w10;obtain⟨rk,hb,hk⟩:=gq (w:=w') (z:=(#[.int .u8 0,.int .u8 0,.int .u8 0,.int .u8 0,.int .u8 0,.int .u8 0,.int .u8 0,.int .u8 0,.int .u8 0,.int .u8 0,.int .u8 0,.int .u8 0,.int .u8 0,.int .u8 0,.int .u8 0,.int .u8 0,.int .u8 0,.int .u8 0,.int .u8 0,.int .u8 0,.int .u8 0,.int .u8 0,.int .u8 0,.int .u8 0,.int .u8 0,.int .u8 0,.int .u8 0,.int .u8 0,.int .u8 0,.int .u8 0,.int .u8 0,.int .u8 0]:Array Value)) (cs:=x.1) (t:=ai) (by rw [x.2.1];rfl);refine⟨⟨x.2.1,x.2.one,fun j hj=>rk j (by rw [x.2.1];exact hj)⟩,?_⟩;intro kr
  replace hb:kr.heap[w'.heap.size]? =some (.cells x.1 ai (0,0)):=hb
  replace hk:Kept Nil w' kr:=hk
  clear_value kr;refine⟨x.1,⟨x.2.1,Cells.bA hb⟩,?_⟩;refine(pL i (qz x) kr (by rw [List.getElem?_map,hx];rfl) (hI i w' kr hw hk)).mono ?_;rintro b lG ⟨ht,hf⟩;cases b with
  |true=>
   refine Split.no rfl ?_;rw [dG (n:=(i:Int)) (by omega) (by omega)];exact⟨(i:Int)+1,rfl,⟨i+1,rfl,dN,ht rfl⟩,by simp only;omega⟩
  |false=>
   refine Split.yes rfl ?_;exact Or.inr (hf rfl)
 ·rw [aS,aA.cZ]
  have e:i=n:=by omega
  subst e;refine Or.inl ?_;rw [List.length_map,hlen];exact hw
theorem vu{gf:FuncId}{gm:Array Value}{xs:List HT}{fn:Func}(HU:prog.funcs[gf]? =some fn)(hb:fn.body.isSome){H3:World->Prop}
 (hit:mE prog gf #[] gm (xs.map qz) H3) (hp: ∀w',Kept Nil w w'->H3 w') (IV:xs.length<=1000000)
 (hK: ∀A c w',bQ w' w.heap.size A xs.length c xs->Kept Nil w w'->K (.slice A xs.length c) w'):
 bk prog aI.id #[.slice none 0 0,.func (.func gf) #[] gm] w K:=by
 refine aI.of ?_;unfold aI.W;intro w3;have k3:Kept Nil w w3:=(Kept.refl Nil w).alloc _;have oZ:w3.heap[w.heap.size]? =some (.cells #[.slice none 0 0] ay (0,0)):=aH w _;have An:w.heap.size<w3.heap.size:=aT oZ;clear_value w3
 let ρ0:Env:= [(2,.pointer (some (⟨w.heap.size,0,none⟩:Addr))),(4,.slice none 0 0),(6,.func (.func gf) #[] gm)]
 let J:Nat->World->Prop:=fun i w'=> ∃A c,w'.heap[w.heap.size]? =some (.cells #[.slice A i c] ay (0,0))/\bQ w' w.heap.size A i c (xs.take i)/\Kept Nil w w'/\i<=xs.length/\ ∀k,bg A=some k->k≠w.heap.size
 refine mN (ρ:=ρ0) (ρ0:=ρ0) ng mix aI.k (t:=6) (ps:= #[7]) (by kernel_rfl) (by decide) rfl HU hb (.inl rfl) (fun i v _ h=>h) rfl qz xs (fun _=>rfl) (by simp [gA]) hit J (fun _ _=>False) ?_ (fun _ _ _ _ _ h=>h.elim) (fun i w' h=>hp w' (let ⟨_,_,_,_,h,_⟩:=h;h)) ?_ ?_ ?_ (fun _ _ h=>h.elim) (fun _ _ _ h=>h.elim)
 ·rintro i w' lG R hl ⟨A,c,h1,h2,h3,h4,h5⟩ hk
  exact⟨A,c,hk.heap h1 (jP h1 hl.loop),Row.apart h2 hk (fun cs t fr h=>by rw [hl.loop]at h;cases h),h3.trans hk (fun k hk e=>by omega),h4,h5⟩
 ·intro R
  exact⟨none,0,jA (jA oZ _) _,bQ.nil _ _,(k3.alloc _).alloc _,Nat.zero_le _,fun k hk=>by cases hk⟩
 ·rintro i x w' R hx ⟨A,c,h1,h2,h3,h4,h5⟩ hl
  have dN:i<xs.length:=(List.getElem?_eq_some_iff.1 hx).1;have e7:km ρ0 ((#[7]:Array Nat).toList.zip (qz x))= [(2,.pointer (some (⟨w.heap.size,0,none⟩:Addr))),(4,.slice none 0 0),(6,.func (.func gf) #[] gm),(7,.agg x.1)]:=rfl;rw [e7,aI.a1];unfold aI.A1;intro w8;obtain⟨rk,iN,iU⟩:=gq (w:=w') (z:=(#[.int .u8 0,.int .u8 0,.int .u8 0,.int .u8 0,.int .u8 0,.int .u8 0,.int .u8 0,.int .u8 0,.int .u8 0,.int .u8 0,.int .u8 0,.int .u8 0,.int .u8 0,.int .u8 0,.int .u8 0,.int .u8 0,.int .u8 0,.int .u8 0,.int .u8 0,.int .u8 0,.int .u8 0,.int .u8 0,.int .u8 0,.int .u8 0,.int .u8 0,.int .u8 0,.int .u8 0,.int .u8 0,.int .u8 0,.int .u8 0,.int .u8 0,.int .u8 0]:Array Value)) (cs:=x.1) (t:=ai) (by rw [x.2.1];rfl);refine⟨⟨x.2.1,x.2.one,fun j hj=>rk j (by rw [x.2.1];exact hj)⟩,?_⟩;intro sQ
  replace iN:sQ.heap[w'.heap.size]? =some (.cells x.1 ai (0,0)):=iN
  replace iU:Kept Nil w' sQ:=iU
  clear_value sQ;have Jf:=hl.aD iU (fun h=>h) (fun h=>h);refine⟨Jf,fun w2 R2 mZ sA=>?_⟩;have ZC:=mZ.heap iN (jP iN Jf.loop);have h1b:=iU.heap h1 (fun h=>h);have CB:=mZ.heap h1b (jP h1b Jf.loop);have AN:bQ w2 w.heap.size A i c (xs.take i):=Row.apart (Row.aD h2 iU (fun _ _ h=>h)) mZ (fun cs t fr h=>by rw [Jf.loop]at h;cases h);have T7:Kept Nil w w2:=(h3.trans iU (fun _ _ h=>h)).trans mZ (fun k hk e=>by omega);have cH:w.heap.size<w2.heap.size:=aT CB;rw [aI.y1];unfold aI.Y1;refine⟨A,i,c,by rw [ax CB];rfl,x.1,⟨x.2.1,Cells.bA ZC⟩,x.2.1,?_⟩;intro je;have mX:Kept Nil w2 je:=(Kept.refl _ _).alloc _;have iW:HS je (some ⟨w2.heap.size,0,none⟩) 1 [x]:=by
   refine HS.one (t:=ai) (fr:=(0,0)) ?_;have e3:je=w2.alloc (.cells x.1 ai):=by
    show w2.alloc (.cells (x.1.toList++ []).toArray ai)=_
    simp
   rw [e3];exact aH w2 _
  clear_value je;have Jy:bQ je w.heap.size A i c (xs.take i):=Row.aD AN mX (fun _ _ h=>h);have aav:=mX.heap CB (fun h=>h);have afP:=mX.size;obtain⟨A',c',vC,hr,ma,hg,vk⟩:=cD (cx:=1) ay Jy iW (by omega) (by omega);have NA:Kept (fun k=>bg A=some k) je vC:=Kept.grown (Kept.refl _ _) hg (fun k hk _=>hk);have Jz:=NA.heap aav (fun h=>h5 _ h rfl);have Np:Live (w3.heap.size+1) w3.heap.size R2 vC:=by
   have Nq:=sA.aD mX (fun h=>h) (fun h=>h);refine Nq.aD NA ?_ ?_
   ·intro h
    obtain⟨_,cur,hc⟩:=Row.bA Jy h;exact jP hc Nq.loop rfl
   ·intro h
    obtain⟨_,cur,hc⟩:=Row.bA Jy h;exact wK hc Nq.mark rfl
  have HI:Kept Nil w vC:=(T7.trans mX (fun _ _ h=>h)).trans NA (fun k hk e=>by
   obtain⟨h,_⟩:=Row.bA Jy e;omega)
  refine⟨A',_,c',vC,hr,dO Jz (by simp),?_⟩;intro nI;have vW:Kept (· =w.heap.size) vC nI:=Kept.setCell (S:=fun k=>k=w.heap.size) (Kept.refl _ vC) (p:=⟨w.heap.size,0,none⟩) (fun _=>rfl) _;have ZR:nI.heap[w.heap.size]? =some (.cells #[.slice A' (i+1) c'] ay (0,0)):=cR Jz 0 _;clear_value nI;have D6: ∀k,bg A'=some k->k≠w.heap.size:=fun k hk=>by
   rcases vk k hk with h|h
   ·exact h5 k h
   ·omega
  refine⟨Np.aD vW (jP Jz Np.loop).symm (wK Jz Np.mark).symm,A',c',ZR,?_,HI.trans vW (fun k hk e=>by omega),dN,D6⟩;rw [List.take_add_one,hx];exact Row.aD ma vW D6
 ·rintro w' R ⟨A,c,h1,h2,h3,h4,h5⟩ hl
  have e7:gE ρ0 w3.heap.size= [(2,.pointer (some (⟨w.heap.size,0,none⟩:Addr))),(4,.slice none 0 0),(6,.func (.func gf) #[] gm),(4294967296,.agg #[.pointer (some ⟨w3.heap.size,0,none⟩)])]:=rfl;rw [e7,aI.jH];refine⟨A,xs.length,c,by rw [ax h1];rfl,⟨hl.mark,trivial⟩,?_⟩;have kp:Kept (· =w3.heap.size) w' (w'.putObj w3.heap.size (.deferred none)):=Kept.putAt _ _ _;refine hK A c _ ?_ (h3.trans kp (fun k hk e=>by omega));have:=Row.apart h2 kp (fun cs t fr h=>by rw [hl.mark]at h;cases h)
  rwa [List.take_of_length_le (Nat.le_refl _)]at this
theorem A8{gf:FuncId}{gm:Array Value}{xs:List HT}{fn:Func}(HU:prog.funcs[gf]? =some fn)(hb:fn.body.isSome){H3:World->Prop}
 (hit:mE prog gf #[] gm (xs.map qz) H3) (hp: ∀w',Kept Nil w w'->H3 w') (IV:xs.length<=1000000)
 (hK: ∀A c w',bQ w' w.heap.size A xs.length c xs->Kept Nil w w'->K (.slice A xs.length c) w'):
 bk prog cI.id #[.func (.func gf) #[] gm] w K:=by
 refine cI.of (vu HU hb hit hp IV fun A c w' h1 h2=>⟨_,_,_,rfl,hK A c w' h1 h2⟩)
end
end Go.Proofs.YtnboahlopghcjaaGreatDoor
namespace Go.Proofs.YtnboahlopghcjaaGreatDoor
open Go.Proofs.Tryz
open Go Go.bS Go.RowKit Go.Sort
instance:Inhabited HT:=⟨⟨Array.replicate 32 (.int .u8 0),by simp,fun v hv=>⟨0,by simpa using hv,by omega,by omega⟩⟩⟩
abbrev lW(h:HT):List Value:=h.1.toList
theorem yW(h:HT):(lW h).length=32:=by have:=h.2.1;simpa using this
theorem ux(d:Array HT):(flatK lW 32 d).toList=cJ d.toList:=by
 apply List.ext_getElem?;intro t;by_cases ht:t<d.size*32
 ·have hi:t/32<d.size:=by omega
  have hx:d.toList[t/32]? =some d[t/32]:=by rw [Array.getElem?_toList,Array.getElem?_eq_getElem hi]
  have hs:t%32<d[t/32].1.size:=by rw [d[t/32].2.1];omega
  have h1:=jM hx (Array.getElem?_eq_getElem hs);rw [show t/32*32+t%32=t by omega]at h1;rw [h1];have h2:t<(flatK lW 32 d).size:=by rw [size_flatK];exact ht
  have h3:=get_flatK lW 32 d t ht;rw [getElem!_pos _ t h2]at h3;rw [Array.getElem?_toList,Array.getElem?_eq_getElem h2,h3,getElem!_pos d _ hi];rw [getElem!_pos _ _ (by rw [yW];omega)];simp [lW]
 ·rw [List.getElem?_eq_none (by simp;omega),List.getElem?_eq_none (by rw [dZ];simp;omega)]
theorem Fw{F cur:Array Value}{k:Nat}(hk:F.size=k)(h:k<=cur.size):(putCells id 0 F cur).toList.take k=F.toList:=by
 apply List.ext_getElem?;intro i;rw [List.getElem?_take];split
 ·rename_i hi
  have h1:i<cur.size:=by omega
  have h2:i<F.size:=by omega
  rw [Array.getElem?_toList,Array.getElem?_toList,putCells,Array.getElem?_mapIdx,Array.getElem?_eq_getElem h1,Array.getElem?_eq_getElem h2];simp [h2]
 ·rw [List.getElem?_eq_none (by simp;omega)]
theorem uX{w:World}{b:Nat}{f:Array Value->Array Value}{cur:Array Value}{t:TypeId}{fr:Nat×Nat}(h:w.heap[b]? =some (.cells cur t fr)):(mapBlock w b f).heap[b]? =some (.cells (f cur) t fr):=by
 simp [mapBlock,Array.getElem?_modify,h,onCells]
theorem uW(w:World)(b:Nat)(f:Array Value->Array Value):Kept (· =b) w (mapBlock w b f):=
 ⟨rfl,rfl,rfl,by simp [mapBlock],fun k _ hn=>by simp [mapBlock,Array.getElem?_modify,Ne.symm hn]⟩
theorem D7(w:World)(os:Array Obj):Kept Nil w (grow w os):=
 ⟨rfl,rfl,rfl,by simp,fun k hk _=>heap_grow_old w os hk⟩
theorem Bl(w:World)(m:Nat):Kept Nil w (Sort.ahead w m):=⟨rfl,rfl,rfl,Nat.le_refl _,fun _ _ _=>rfl⟩
section
variable{w:World}{B n c b:Nat}{l:List HT}
theorem uT(row:bQ w B (some ⟨b,0,none⟩) n c l)(m:Nat)(dk:Array HT)(os:Array Obj)(hd:dk.size=n):
 bQ (sortWorldK lW 32 w b 0 m dk os) B (some ⟨b,0,none⟩) n c dk.toList/\Kept (· =b) w (sortWorldK lW 32 w b 0 m dk os):=by
 have hka:=Bl w m;have k1:=uW (Sort.ahead w m) b (putCells id 0 (flatK lW 32 dk));have kk:=((hka.mono (S':=fun k=>k=b) (fun _ _ h=>h.elim)).trans k1 (fun _ _ h=>h)).trans (D7 _ os) (fun _ _ h=>h.elim);refine⟨?_,?_⟩
 ·rcases Row.own row with⟨h,_⟩|⟨b',cur,hA,hB,hg,DW,nn,lY,xn⟩
  ·cases h
  ·cases hA
   refine⟨by rw [dZ,Array.length_toList,hd],.inr ⟨b,c,putCells id 0 (flatK lW 32 dk) cur,rfl,hB,?_,DW,nn,by simp [putCells,lY],?_⟩⟩
   ·have h1:(mapBlock (Sort.ahead w m) b (putCells id 0 (flatK lW 32 dk))).heap[b]? =some (.cells (putCells id 0 (flatK lW 32 dk) cur) ai (0,0)):=uX hg
    exact(heap_grow_old _ os (aT h1)).trans h1
   ·rw [<-ux]
    refine Fw (by rw [size_flatK,hd]) ?_;rw [lY];exact Nat.mul_le_mul_right _ DW
 ·exact kk
theorem Az(row:bQ w B (some ⟨b,0,none⟩) n c l):HoldsK lW 32 w b 0 l.toArray:=by
 intro j hj;rw [size_flatK]at hj;have ud:j<l.length*32:=by simpa using hj
 rw [Nat.zero_add];have hlen:=Row.len row;have hx:(flatK lW 32 l.toArray).toList[j]? =(cJ l)[j]? :=by rw [ux]
 have hjs:j<(flatK lW 32 l.toArray).size:=by rw [size_flatK];exact hj
 rw [Array.getElem?_toList,Array.getElem?_eq_getElem hjs]at hx;have hc:=Row.cell row hx.symm;refine⟨?_,?_⟩
 ·rw [hc,getElem!_pos _ j hjs];rfl
 ·exact(Row.wr row (j:=j) (by rw [dZ];exact ud)).2
theorem ou(x y:HT):ltOf j0 x y=cH x y:=by
 unfold ltOf;cases h:cH x y
 ·exact decide_eq_false fun h'=>by rw [qF.1 h']at h;cases h
 ·exact decide_eq_true (qF.2 h)
theorem le_trans'{x y z:HT}(h:cH y x=false)(h':cH z y=false):cH z x=false:=by
 cases Ra:cH z x
 ·rfl
 ·exfalso
  by_cases e:y=z
  ·subst e;rw [h]at Ra;cases Ra
  ·have O9:=lt_of_le_ne h' e
   have:=jn O9 Ra;rw [h]at this;cases this
theorem Wm:SWO (ltOf j0) where
 irrefl x:=by rw [ou];exact gz x
 trans x y z h h':=by rw [ou]at*;exact jn h h'
 ntrans x y z h h':=by
  rw [ou]at*;exact le_trans' h' h
theorem Ig{A:Option Addr}{K:Value->World->Prop}(row:bQ w B A n c l)(hn:n<=1000000)
 (hK: ∀l' w',LE l'->(∀x,x∈l'↔x∈l)->bQ w' B A n c l'->Kept (fun k=>bg A=some k) w w'->K (.tuple #[]) w'):
 bk prog ij.id #[.slice A n c,.func (.func dm.id) #[] #[]] w K:=by
 have hlen:=row.len;by_cases h0:n=0
 ·subst h0
  have h:=AnyF.slices_SortFunc_none Tryz.vF A c (.func (.func dm.id) #[] #[]) w;refine Calls.mono h ?_;rintro e w' ⟨rfl,rfl⟩;have:l= []:=List.eq_nil_of_length_eq_zero hlen;subst this;exact⟨_,rfl,hK [] _ List.Pairwise.nil (fun _=>Iff.rfl) row (Kept.refl _ _)⟩
 ·obtain⟨b,rfl⟩:=Row.some row (by omega)
  have hblk:b<w.heap.size:=by
   obtain⟨_,cur,hc⟩:=Row.bA row (k:=b) rfl;exact aT hc
  have kR:l.toArray.size=n:=by simpa using hlen
  have eg: ∀args w,(callFunc dm.id args).run prog w=.ok (.enter dm.id args) w:=enters_of dm.at_ (by kernel_rfl) rfl;have hk:mO prog ai=.agg 32:=by kernel_rfl
  obtain⟨e32,ha⟩:=qp hk;obtain⟨i,hi⟩:=Go.bS.info_of_underlying (P:=prog) (t:=ai) (by kernel_rfl);have Zr:CmpLays prog dm.id #[] lW 32 j0 b 0 l.toArray.size w:=fun m os dk _ x y=>by
   have e:(#[.agg (lW x).toArray,.agg (lW y).toArray]++ #[]:Array Value)= #[.agg x.1,.agg y.1]:=by simp [lW]
   rw [e];have h:=oE (w:=sortWorldK lW 32 w b 0 m dk os) x y (K:=fun v w'=>v=.int .i64 (j0 x y)/\w'=(((sortWorldK lW 32 w b 0 m dk os).alloc (.cells x.1 ai)).alloc (.cells y.1 ai)).drew) ⟨rfl,rfl⟩;refine Calls.mono h ?_;rintro e w' ⟨v,rfl,rfl,rfl⟩;refine⟨rfl,1,#[.cells x.1 ai,.cells y.1 ai],?_⟩;rw [alloc_eq_grow,alloc_eq_grow,grow_grow,drew_grow];rfl
  have h:=AnyQ.slices_SortFunc_total Tryz.vF 32 ha (fun w=>by rw [e32];exact Go.bS.run_sizeOf hi w) lW yW (fun x=>x.2.one) j0 Wm dm.id #[] b 0 c l.toArray w eg Zr (Az row) hblk (by omega)
   (fun x y h1 h2=>by rw [ou]at h1 h2;exact oX h1 h2)
  rw [kR]at h;refine Calls.mono h ?_;rintro e w' ⟨rfl,m,os,rfl⟩;have hp:=List.mergeSort_perm l.toArray.toList (fun x y=> !(ltOf j0) y x);have EF:(l.toArray.toList.mergeSort fun x y=> !(ltOf j0) y x).toArray.size=n:=by
   have:=hp.length_eq;simp only [List.size_toArray];rw [this];simpa using hlen
  obtain⟨h1,h2⟩:=uT row m _ os EF;refine⟨_,rfl,hK _ _ ?_ (fun x=>?_) h1 (h2.mono fun k _ e=>by rw [e];rfl)⟩
  ·have hs:=List.pairwise_mergeSort (le:=fun x y=> !(ltOf j0) y x) (fun a b c h h'=>by
    rw [ou]at*;simp only [Bool.not_eq_true']at*;exact le_trans' h h') (fun a b=>by
    rw [ou,ou];cases lr:cH b a
    ·rfl
    ·rw [rr lr];rfl) l.toArray.toList
   refine List.Pairwise.imp ?_ hs;intro a b lr;rw [ou]at lr;simpa using lr
  ·simp
end
end Go.Proofs.YtnboahlopghcjaaGreatDoor
namespace Go.Proofs.YtnboahlopghcjaaGreatDoor
open Go.Proofs.Tryz
open Go Go.bS Go.RowKit
theorem AH{l:List HT}{k:Nat}(hk:k<l.length)(x:HT):cJ (l.set k x)=ga (cJ l) (k*32) x.1.toList:=by
 have h1:l=l.take k++l[k]::l.drop (k+1):=by rw [<-List.drop_eq_getElem_cons hk,List.take_append_drop]
 have e1:(cJ (l.take k)).length=k*32:=by rw [dZ,List.length_take];omega
 have hx:=x.2.1;have hl:=l[k].2.1;have hs:l.set k x=l.take k++x::l.drop (k+1):=List.set_eq_take_append_cons_drop .. |>.trans (if_pos hk)
 rw [hs]
 conv=>rhs;rw [h1]
 rw [ln,ln,jY,jY];generalize cJ (l.take k)=p at e1;generalize cJ (l.drop (k+1))=r;have eq:l[k].1.toList.length=32:=by simpa using hl
 have ev:x.1.toList.length=32:=by simpa using hx
 generalize l[k].1.toList=q at eq;generalize x.1.toList=v at ev;unfold ga;rw [List.take_left' e1,ev,show p++(q++r)=(p++q)++r by simp,List.drop_left' (by rw [List.length_append,e1,eq])];simp
theorem bQ.setAt{w:World}{B n c b:Nat}{l:List HT}(row:bQ w B (some ⟨b,0,none⟩) n c l){k:Nat}(hk:k<n)(x:HT):
 bQ (setCells w ⟨b,k*32,none⟩ x.1.toList 0) B (some ⟨b,0,none⟩) n c (l.set k x):=by
 have hlen:=row.len;have hx:=x.2.1;have:=p7 x.1.toList (cJ l) w (k*32) 0 row (by rw [dZ];simp;omega);rw [Nat.add_zero]at this;rw [<-AH (by omega)]at this;exact this
theorem bQ.LD{w:World}{B n c b:Nat}{l:List HT}(row:bQ w B (some ⟨b,0,none⟩) n c l){k:Nat}(hk:k<n)(j:Nat)(hj:j<32):Wr w ((⟨b,k*32,none⟩:Addr).add j):=by
 rw [a8];refine Row.wr row ?_;rw [dZ,row.len];omega
theorem bQ.cap{w:World}{B:Nat}{A:Option Addr}{n c:Nat}{l:List HT}(row:bQ w B A n c l):n<=c:=by
 rcases Row.own row with⟨_,h1,h2,_⟩|⟨_,_,_,_,_,h1,_⟩<;>omega
theorem bQ.cut{w w':World}{B n c b:Nat}{l:List HT}(row:bQ w B (some ⟨b,0,none⟩) n c l){k:Nat}(hk:k<=n)(vs:List Value)(hv:vs.length=(n-k)*32)(hw:w'=setCells w ⟨b,k*32,none⟩ vs 0):
 bQ w' B (some ⟨b,0,none⟩) k c (l.take k):=by
 subst hw;have hlen:=row.len;rcases Row.own row with⟨h,_⟩|⟨b',cur,hA,hB,hg,DW,nn,lY,xn⟩
 ·cases h
 ·cases hA
  have hle:n*32<=c*32:=Nat.mul_le_mul_right _ DW;have kR:k*32+0+vs.length<=cur.size:=by omega
  have h1:=jy vs cur w ai (k*32) 0 hg kR;refine⟨by rw [dZ,List.length_take];omega,.inr ⟨b,c,_,rfl,hB,h1,by omega,nn,?_,?_⟩⟩
  ·have:=kX (xs:=cur.toList) (k:=k*32+0) (vs:=vs) (by simpa using kR)
   rw [List.size_toArray,this];simpa using lY
  ·have e1:(cJ (l.take k)).length=k*32:=by rw [dZ,List.length_take];omega
   have e2:(cJ l).take (k*32)=cJ (l.take k):=by
    conv=>lhs;rw [<-List.take_append_drop k l,ln]
    rw [<-e1,List.take_left'];rfl
   rw [<-e2,<-xn,List.take_take,Nat.min_eq_left (by omega)];unfold ga;simp only [Nat.add_zero];rw [List.append_assoc,List.take_append_of_le_length (by simp;omega),List.take_take,Nat.min_self]
def Bu(P:Program)(e:TypeId):Bool:=
 match P.info? e with
 |some i=>match i.zero with
  |some z=>z.cells.toList.all fun v=>v.oneCell'
  |none=>false
 |none=>false
theorem tu{w:World}{B n c b:Nat}{l:List HT}(row:bQ w B (some ⟨b,0,none⟩) n c l){k:Nat}(hk:k<=n)(ty:Nat){A:Option Addr}{cx:Nat}(hA:k<n->A=some ⟨b,k*32,none⟩):
 ∃w',(Builtin.clear_ #[ay] ty #[.slice A (n-k) cx]).run prog w=.ok (.tuple #[]) w'/\bQ w' B (some ⟨b,0,none⟩) k c (l.take k)/\Kept (· =b) w w':=by
 have hlen:=row.len;by_cases vh:k<n
 ·obtain⟨i,z,hi,hz,hs,_,Cj⟩:=nS.inf
  have I9:Bu prog ai=true:=by kernel_rfl
  unfold Bu at I9;rw [hi]at I9;simp only [hz,List.all_eq_true]at I9;rw [hA vh];obtain⟨m,hm⟩: ∃m,n-k=m+1:=⟨n-k-1,by omega⟩;have U4:(Builtin.zeroCells z.cells (n-k)).toList.length=(n-k)*32:=by simp [Builtin.zeroCells,Cj]
  have pK:=gQ (P:=prog) ⟨b,k*32,none⟩ (Builtin.zeroCells z.cells (n-k)).toList 0 w (fun v hv=>by
   simp only [Builtin.zeroCells,Array.toList_map,List.mem_map]at hv;obtain⟨t,ht,rfl⟩:=hv;have:t%z.cells.size<z.cells.size:=Nat.mod_lt _ (by omega);rw [getElem!_pos z.cells _ this];exact I9 _ (by simp)) (fun j hj=>by
   rw [Nat.zero_add,a8];refine Row.wr row ?_;rw [dZ];omega)
  refine⟨_,?_,row.cut hk _ U4 rfl,fL _ _ _ _⟩;simp only [Builtin.clear_,hm];rw [hm]at pK;simp [run_underlying nS.nJ,zeroValue,typeInfo,hi,hz,pK]
 ·have:n=k:=by omega
  subst this;refine⟨w,?_,by rw [List.take_of_length_le (by omega)];exact row,Kept.refl _ _⟩;rw [Nat.sub_self];cases A<;>simp [Builtin.clear_,run_underlying nS.nJ]
end Go.Proofs.YtnboahlopghcjaaGreatDoor
namespace Go.Proofs.YtnboahlopghcjaaGreatDoor
open Go.Proofs.Tryz
open Go Go.bS Go.RowKit
theorem C4: ∀ {l:List HT},l.length<2->df l=l
 | [],_=>rfl
 | [_],_=>rfl
 |_::_::_,h=>by simp only [List.length_cons]at h;omega
section
variable{w:World}{B n c:Nat}{A:Option Addr}{l:List HT}{K:Value->World->Prop}
theorem AZ(row:bQ w B A n c l)(hle:LE l)(hn:n<=400000)
 (hK: ∀A' c' w',bQ w' B A' (df l).length c' (df l)->(∀k,bg A'=some k->bg A=some k)->Kept (fun k=>bg A=some k) w w'->K (.slice A' (df l).length c') w'):
 bk prog ag.id #[.slice A n c] w K:=by
 have hlen:=row.len;refine ag.of ?_;refine Split.dec (fun h2=>?_) (fun h2=>?_)
 ·have e:df l=l:=C4 (by omega)
  have:=hK A c w (by rw [e,hlen];exact row) (fun k h=>h) (Kept.refl _ _);rw [e,hlen]at this;exact this
 obtain⟨b,rfl⟩:=Row.some row (by omega);have GL:=row.cap;refine ag.b9 (I:=fun s w'=> ∃k:Nat,s=(none,0,0,(k:Int))/\1<=k/\k<=n/\SS (l.take k)/\Kept Nil w w') (μ:=fun s _=>((n:Int)-s.2.2.2).toNat) (s:=(none,0,0,1))
  ⟨1,rfl,Nat.le_refl _,by omega,?_,Kept.refl _ _⟩ ?_
 ·cases l with
  |nil=>exact List.Pairwise.nil
  |cons x l=>simp [SS]
 rintro s w' ⟨k,rfl,HQ,vh,sX,kw⟩;refine Split.dec (fun iP=>?_) (fun fV=>?_)
 ·simp only at iP
  have AD:k<n:=by omega
  obtain⟨x,hx⟩: ∃x,l[k]? =some x:=⟨_,List.getElem?_eq_getElem (by omega)⟩;obtain⟨y,hy⟩: ∃y,l[k-1]? =some y:=⟨_,List.getElem?_eq_getElem (by omega)⟩;intro w5;have k5:Kept Nil w w5:=kw.drew;clear_value w5;have kl:bQ w5 B (some ⟨b,0,none⟩) n c l:=Row.aD row k5 (fun _ _ h=>h);simp only;rw [wrapM (n:=(k:Int)) (by omega) (by omega)];have ny:cH x y=false:=hle.get (by omega) hy hx;refine kl.hs.load (i:=(k:Int)) (by omega) hx (kl.hs.load (i:=(k:Int)-1) (by omega) (by rw [show((k:Int)-1).toNat=k-1 by omega];exact hy) ⟨⟨x.2.ints,y.2.ints⟩,?_⟩);rw [cQ];refine Split.dec (fun he=>?_) (fun he=>?_)
  ·refine⟨⟨by omega,by omega⟩,?_⟩
   rw [Int.toNat_natCast];rw [if_neg (show ¬c=k by omega)];simp only [Option.map_some,a8,Nat.zero_add];refine ag.gI (I:=fun s w'=> ∃(p j:Nat) (l':List HT),s=((p:Int),(j:Int))/\1<=j/\k<=p/\p<k+j/\k+j<=n/\bQ w' B (some ⟨b,0,none⟩) n c l'/\l'.drop (k+j-1)=l.drop (k+j-1)/\SS (l'.take p)/\(∀z,z∈l'.take p↔z∈l.take (k+j))/\Kept (· =b) w w')
    (μ:=fun s _=>((n:Int)-s.2).toNat) (s:=((k:Int),1)) ⟨k,1,l,rfl,Nat.le_refl _,Nat.le_refl _,by omega,by omega,kl,rfl,sX,fun z=>?_,k5.mono fun _ _ h=>h.elim⟩ ?_
   ·rw [bE hx]
    constructor
    ·exact .inl
    ·rintro(h|rfl)
     ·exact h
     ·rw [he]
      have:=bE (z:=y) hy;rw [show k-1+1=k by omega]at this;exact this.2 (.inr rfl)
   rintro s w1 ⟨p,j,l',rfl,hj1,Sr,hpj,hjn,mc,S7,ow,K1,k1⟩;have GF:=mc.len;refine Split.dec (fun Nu=>?_) (fun NB=>?_)
   ·simp only at Nu
    have sY:k+j<n:=by omega
    obtain⟨u,hu⟩: ∃u,l[k+j]? =some u:=⟨_,List.getElem?_eq_getElem (by omega)⟩;obtain⟨v,hv⟩: ∃v,l[k+j-1]? =some v:=⟨_,List.getElem?_eq_getElem (by omega)⟩;have IW:l'[k+j]? =some u:=by
     have h:=congrArg (fun m:List HT=>m[1]?) S7;simp only [List.getElem?_drop]at h;rw [show k+j-1+1=k+j by omega]at h;rw [h,hu]
    have XE:l'[k+j-1]? =some v:=by
     have h:=congrArg (fun m:List HT=>m[0]?) S7;simp only [List.getElem?_drop,Nat.add_zero]at h;rw [h,hv]
    intro vC;have HI:Kept (· =b) w vC:=k1.drew;have ma:bQ vC B (some ⟨b,0,none⟩) n c l':=Row.aD mc ((Kept.refl Nil w1).drew) (fun _ _ h=>h);clear_value vC;have ub:HS vC (some ⟨b,k*32,none⟩) (n-k) (l'.drop k):=by
     have h:=ma.hs.drop (c:=c) GL (k:=k) (by omega);rw [if_neg (show ¬c=k by omega)]at h;simpa [a8]using h
    have hsu:(l'.drop k)[(j:Int).toNat]? =some u:=by rw [Int.toNat_natCast,List.getElem?_drop];exact IW
    have M1:(l'.drop k)[((j:Int)-1).toNat]? =some v:=by
     rw [show((j:Int)-1).toNat=j-1 by omega,List.getElem?_drop,show k+(j-1)=k+j-1 by omega];exact XE
    simp-zeta only;rw [wrapM (n:=(j:Int)) (by omega) (by omega)];have huv:cH u v=false:=hle.get (by omega) hv hu;refine ub.load (i:=(j:Int)) (by omega) hsu (ub.load (i:=(j:Int)-1) (by omega) M1 ⟨⟨u.2.ints,v.2.ints⟩,?_⟩);rw [cQ,dG (n:=(j:Int)) (by omega) (by omega)];have hmu: ∀z,z∈l.take (k+(j+1))↔z∈l'.take p\/z=u:=fun z=>by
     rw [show k+(j+1)=k+j+1 by omega,bE hu,K1 z]
    by_cases heq:u=v
    ·refine Split.no (by rw [decide_eq_true heq];rfl) ?_
     refine⟨((p:Int),(j:Int)+1),rfl,⟨p,j+1,l',rfl,by omega,Sr,by omega,by omega,ma,?_,ow,fun z=>?_,HI⟩,by simp only;omega⟩
     ·have h:=congrArg (fun m:List HT=>m.drop 1) S7
      simp only [List.drop_drop]at h;rw [show k+(j+1)-1=k+j-1+1 by omega];exact h
     ·rw [hmu z]
      constructor
      ·exact .inl
      ·rintro(h|rfl)
       ·exact h
       ·refine(K1 _).2 ?_
        rw [heq];exact List.mem_of_getElem? (i:=k+j-1) (by rw [List.getElem?_take,if_pos (by omega)];exact hv)
    ·refine Split.yes (by rw [decide_eq_false heq];rfl) ?_
     refine ub.load (i:=(j:Int)) (by omega) hsu ⟨⟨by omega,by omega⟩,⟨u.2.1,u.2.one,fun i hi=>?_⟩,?_⟩
     ·rw [Int.toNat_natCast,a8,Nat.zero_add]
      exact ma.LD (by omega) i hi
     intro Ey;have Rg:Ey=setCells vC ⟨b,p*32,none⟩ u.1.toList 0:=by
      show setCells vC ((⟨b,0,none⟩:Addr).add ((p:Int).toNat*32)) u.1.toList 0=_
      rw [Int.toNat_natCast,a8,Nat.zero_add]
     have Qa:bQ Ey B (some ⟨b,0,none⟩) n c (l'.set p u):=by rw [Rg];exact ma.setAt (by omega) u
     have yv:Kept (· =b) w Ey:=by rw [Rg];exact HI.trans (fL _ _ _ _) (fun _ _ h=>h)
     clear_value Ey;rw [dG (n:=(p:Int)) (by omega) (by omega)];have xn:(l'.set p u).take (p+1)=l'.take p++ [u]:=by
      rw [List.take_add_one,List.take_set_of_le (Nat.le_refl p),List.getElem?_set_self (by omega)];rfl
     refine⟨((p:Int)+1,(j:Int)+1),rfl,⟨p+1,j+1,l'.set p u,rfl,by omega,by omega,by omega,by omega,Qa,?_,?_,fun z=>?_,yv⟩,by simp only;omega⟩
     ·have h:=congrArg (fun m:List HT=>m.drop 1) S7
      simp only [List.drop_drop]at h;rw [List.drop_set,if_pos (by omega),show k+(j+1)-1=k+j-1+1 by omega];exact h
     ·rw [xn]
      refine CJ ow fun z hz=>?_;obtain⟨i,hi⟩:=List.mem_iff_getElem?.1 ((K1 z).1 hz);rw [List.getElem?_take]at hi;split at hi
      ·rename_i hik
       have hvu:cH v u=true:=lt_of_le_ne huv (fun e=>heq e.symm);by_cases e:i=k+j-1
       ·subst e;rw [hv]at hi;cases hi;exact hvu
       ·exact rV (hle.get (by omega) hi hv) hvu
      ·cases hi
     ·rw [xn,hmu z]
      simp
   ·simp only at NB
    have hj:k+j=n:=by omega
    rw [aS,ag.jF];unfold ag.iu;refine⟨⟨by omega,by omega⟩,?_⟩;rw [Int.toNat_natCast];obtain⟨w2,hr,fX,k2⟩:=tu mc (k:=p) (by omega) 0 (A:=if c=p then some ⟨b,0,none⟩else(some ⟨b,0,none⟩:Option Addr).map (·.add (p*32))) (cx:=c-p) (fun hp=>by
     rw [if_neg (by omega)];simp [a8])
    refine⟨_,w2,hr,⟨by omega,by omega⟩,?_⟩;have e:l'.take p=df l:=wz ow fun z=>by rw [K1 z,hj,List.take_of_length_le (by omega)]
    have el:p=(df l).length:=by
     have h:=fX.len;rw [e]at h;exact h.symm
    have e0:(if c=0 then(some ⟨b,0,none⟩:Option Addr)else(some ⟨b,0,none⟩:Option Addr).map (·.add (0*32)))=some ⟨b,0,none⟩:=by
     rw [if_neg (by omega)];simp [add_zero]
    rw [e0,Nat.sub_zero,Nat.sub_zero];rw [e,el]at fX;have:=hK (some ⟨b,0,none⟩) c w2 fX (fun k h=>h) ((k1.trans k2 (fun _ _ h=>h)).mono fun i _ h=>by rw [h];rfl);rw [<-el]at this;exact this
  ·rw [dG (n:=(k:Int)) (by omega) (by omega)]
   refine⟨(none,0,0,(k:Int)+1),rfl,⟨k+1,rfl,by omega,by omega,?_,k5⟩,by simp only;omega⟩;rw [List.take_add_one,hx];refine CJ sX fun z hz=>?_;have Ck:cH y x=true:=lt_of_le_ne ny (fun e=>he e.symm);obtain⟨i,hi⟩:=List.mem_iff_getElem?.1 hz;rw [List.getElem?_take]at hi;split at hi
   ·by_cases e:i=k-1
    ·subst e;rw [hy]at hi;cases hi;exact Ck
    ·exact rV (hle.get (by omega) hi hy) Ck
   ·cases hi
 ·simp only at fV
  have e:k=n:=by omega
  subst e;rw [aS,ag.cZ];rw [List.take_of_length_le (by omega)]at sX;have e:df l=l:=Fi sX;have:=hK (some ⟨b,0,none⟩) c w' (by rw [e,hlen];exact Row.aD row kw (fun _ _ h=>h)) (fun k h=>h) (kw.mono fun _ _ h=>h.elim);rw [e,hlen]at this;exact this
theorem hZ(hl:HS w A n l)(hn:n<=400000)
 (hK: ∀A' c' w',bQ w' w.heap.size A' (df l).length c' (df l)->Kept Nil w w'->K (.slice A' (df l).length c') w'):
 bk prog iD.id #[.slice A n c] w K:=by
 have hlen:=hl.len;refine iD.of ?_;refine dc.of ?_;unfold dc.W;intro w2;have k2:Kept Nil w w2:=(Kept.refl _ _).alloc _;have lK:w2.heap[w.heap.size]? =some (.cells #[.slice A n c] ay (0,0)):=aH w _;clear_value w2;refine⟨_,rfl,?_⟩;refine c8.of ?_;refine A8 (xs:=l) aA.at_ (by rfl) (xG (l:=l) ⟨w.heap.size,0,none⟩ (A:=A) (n:=n) (c:=c) (by omega)) (fun w' hk=>⟨(hl.same k2).same hk,by rw [ax (hk.heap lK (fun h=>h))];rfl⟩) (by omega) ?_;intro A4 c4 w4 iO k4;refine⟨A4,_,c4,rfl,?_⟩;refine Ig iO (by omega) fun l5 w5 hle gJ kl k5=>⟨rfl,?_⟩;refine⟨A4,_,c4,rfl,?_⟩;refine AZ kl hle (by omega) fun A6 c6 w6 Ft nK k6=>⟨A6,_,c6,rfl,?_⟩;have e:df l5=df l:=BG gJ;rw [e]at Ft⊢;have Oq: ∀k,bg A4=some k->w.heap.size<=k:=fun k hk=>Nat.le_trans k2.size (Row.bA iO hk).1;refine hK A6 c6 w6 (Row.base Ft fun k hk=>Oq k (nK k hk)) ?_;exact((k2.trans k4 (fun _ _ h=>h)).trans k5 (fun k hk h=>absurd (Oq k h) (by omega))).trans k6 (fun k hk h=>absurd (Oq k h) (by omega))
end
end Go.Proofs.YtnboahlopghcjaaGreatDoor
namespace Go.Proofs.YtnboahlopghcjaaGreatDoor
open Go.Proofs.Tryz
open Go Go.bS Go.RowKit
theorem iY{x:Nat}(h:x<18446744073709551616):IntKind.u64.wrap (x:Int)=(x:Int):=by
 simp only [IntKind.wrap,IntKind.bits,IntKind.signed];simp;omega
theorem orU{x y:Nat}(hx:x<18446744073709551616)(hy:y<18446744073709551616):
 IntKind.u64.wrap ((BitVec.ofInt 64 (x:Int)|||BitVec.ofInt 64 (y:Int)).toNat:Int)=((x|||y:Nat):Int):=by
 have h:(BitVec.ofInt 64 (x:Int)|||BitVec.ofInt 64 (y:Int)).toNat=x|||y:=by
  rw [BitVec.ofInt_natCast,BitVec.ofInt_natCast,BitVec.toNat_or,BitVec.toNat_ofNat,BitVec.toNat_ofNat,Nat.mod_eq_of_lt (by omega),Nat.mod_eq_of_lt (by omega)]
 rw [h];exact iY (Nat.or_lt_two_pow (n:=64) hx hy)
theorem aaN{x y:Nat}(hx:x<18446744073709551616)(hy:y<18446744073709551616):
 IntKind.u64.wrap ((BitVec.ofInt 64 (x:Int)&&& BitVec.ofInt 64 (y:Int)).toNat:Int)=((x&&& y:Nat):Int):=by
 have h:(BitVec.ofInt 64 (x:Int)&&& BitVec.ofInt 64 (y:Int)).toNat=x&&& y:=by
  rw [BitVec.ofInt_natCast,BitVec.ofInt_natCast,BitVec.toNat_and,BitVec.toNat_ofNat,BitVec.toNat_ofNat,Nat.mod_eq_of_lt (by omega),Nat.mod_eq_of_lt (by omega)]
 rw [h];exact iY (Nat.lt_of_le_of_lt Nat.and_le_left hx)
theorem WB{i:Nat}(hi:i<64):IntKind.u64.wrap ((1:Int)*2 ^ (min i 64))=((2 ^ i:Nat):Int):=by
 rw [Nat.min_eq_left (by omega),Int.one_mul];have h:2 ^ i<18446744073709551616:=Nat.pow_lt_pow_right (by omega) (n:=64) hi;have:=iY h;rw [<-this];simp
def bit(ws:List Nat)(i:Nat):Bool:=(ws.getD (i/64) 0).testBit (i%64)
def okW(ws:List Nat):Prop:= ∀x∈ws,x<18446744073709551616
theorem xa(i:Nat):bit [] i=false:=by simp [bit]
theorem y9(ws:List Nat)(i:Nat):bit (ws++ [0]) i=bit ws i:=by
 unfold bit
 congr 1
 simp only [List.getD_eq_getElem?_getD,List.getElem?_append];split
 ·rfl
 ·rename_i h
  rw [List.getElem?_eq_none (l:=ws) (by omega)];cases i/64-ws.length<;>simp
theorem CG{ws:List Nat}{q:Nat}(hq:q<ws.length)(v i:Nat):bit (ws.set q v) i=if i/64=q then v.testBit (i%64)else bit ws i:=by
 unfold bit;simp only [List.getD_eq_getElem?_getD,List.getElem?_set];by_cases h:i/64=q
 ·subst h;simp [hq]
 ·rw [if_neg (fun e=>h e.symm),if_neg h]
theorem BV{ws:List Nat}(h:okW ws){x:Nat}(hx:x<18446744073709551616):okW (ws++ [x]):=fun y hy=>by
 rw [List.mem_append,List.mem_singleton]at hy;rcases hy with hy|rfl
 ·exact h y hy
 ·exact hx
theorem BU{ws:List Nat}(h:okW ws){x:Nat}(hx:x<18446744073709551616)(q:Nat):okW (ws.set q x):=fun y hy=>by
 rcases List.mem_or_eq_of_mem_set hy with hy|rfl
 ·exact h y hy
 ·exact hx
def us(l:List Nat):List Value:=l.map fun x:Nat=>.int .u64 (x:Int)
theorem nO(l:List Nat):(us l).length=l.length:=by simp [us]
theorem nP{l:List Nat}{j x:Nat}(h:l[j]? =some x):(us l)[j]? =some (.int .u64 (x:Int)):=by simp [us,h]
theorem wx(l:List Nat)(q v:Nat):(us l).set q (.int .u64 (v:Int))=us (l.set q v):=by simp [us,List.map_set]
theorem LM(l m:List Nat):us (l++m)=us l++us m:=by simp [us]
structure US(w:World)(A:Option Addr)(n:Nat)(l:List Nat):Prop where
 len:l.length=n
 at_: ∀(i x:Nat),l[i]? =some x-> ∃a,A=some a/\a.block<w.heap.size/\w.cell? (a.add i)=some (.int .u64 (x:Int))
theorem US.aD{S:Nat->Prop}{w w':World}{A:Option Addr}{n:Nat}{l:List Nat}(h:US w A n l)(hk:Kept S w w')(hn: ∀a,A=some a-> ¬S a.block):US w' A n l:=⟨h.len,fun i x hi=>by
 obtain⟨a,h1,h2,h3⟩:=h.at_ i x hi;exact⟨a,h1,Nat.lt_of_lt_of_le h2 hk.size,hk.cell h3 (by rw [ee];exact hn a h1)⟩⟩
theorem US.load{w:World}{A:Option Addr}{n:Nat}{l:List Nat}(hl:US w A n l){i:Int}{x:Nat}(h0:0<=i)(hx:l[i.toNat]? =some x){k:Int->Prop}(hk:k x):
 (0<=i/\i<(n:Int))/\Is A fun a=> ∃t:Int,w.cell? (a.add (i.toNat*1))=some (.int .u64 t)/\k t:=by
 obtain⟨a,rfl,_,hc⟩:=hl.at_ _ x hx;have:=(List.getElem?_eq_some_iff.1 hx).1;have:=hl.len;exact⟨⟨h0,by omega⟩,x,by rw [Nat.mul_one];exact hc,hk⟩
theorem LV:xu prog jN gZ 1 8:=⟨by kernel_rfl,by kernel_rfl⟩
abbrev jG(w:World)(B:Nat)(A:Option Addr)(n c:Nat)(l:List Nat):Prop:=Row w B gZ 1 A n c (us l)
section
variable{w w':World}{B n c:Nat}{A:Option Addr}{l:List Nat}
theorem jG.len(h:jG w B A n c l):l.length=n:=by have:=Row.len h;rw [nO]at this;omega
theorem jG.us(h:jG w B A n c l):US w A n l:=⟨h.len,fun i x hi=>by
 have hlen:=h.len;have:=(List.getElem?_eq_some_iff.1 hi).1;obtain⟨b,rfl⟩:=Row.some h (by omega);obtain⟨_,cur,ox⟩:=Row.bA h (k:=b) rfl;exact⟨_,rfl,aT ox,by rw [a8,Nat.zero_add];exact Row.cell h (nP hi)⟩⟩
theorem Fg(i:Nat):((i:Int).tdiv 64)=((i/64:Nat):Int):=by
 rw [Int.tdiv_eq_ediv_of_nonneg (by omega)];omega
theorem LR(i:Nat):((i:Int).tmod 64)=((i%64:Nat):Int):=by
 rw [Int.tmod_eq_emod_of_nonneg (by omega)];omega
theorem sj(h:jG w B A n c l)(hn:n<=1000000)(hB:B<=w.heap.size){t:Nat}(x:Nat):
 ∃A' c' w',(Builtin.append_ #[jN,jN] jN #[.slice A n c,.slice (some ⟨w.heap.size,0,none⟩) 1 1]).run prog (w.alloc (.cells #[.int .u64 (x:Int)] t))=.ok (.slice A' (n+1) c') w'/\
  jG w' B A' (n+1) c' (l++ [x])/\Kept (fun k=>bg A=some k) w w'/\(∀k,bg A'=some k->bg A=some k\/w.heap.size<=k):=by
 have k1:Kept Nil w (w.alloc (.cells #[.int .u64 (x:Int)] t)):=(Kept.refl _ _).alloc _;have hb:=aH w (.cells #[.int .u64 (x:Int)] t);have h1:jG (w.alloc (.cells #[.int .u64 (x:Int)] t)) B A n c l:=Row.aD h k1 (fun _ _ h=>h);obtain⟨A',c',w',hr,eM,hg,vk⟩:=e8 (P:=prog) (t:=jN) (ty:=jN) (bytes:=8) LV h1 (a:=⟨w.heap.size,0,none⟩) (m:=1) (cx:=1) (news:=us [x]) rfl
  (fun j u hj=>by rw [a8,Nat.zero_add,ax hb];simpa [us]using hj) (fun u hu=>by simp [us]at hu;subst hu;rfl) (by omega) (by unfold maxLen;omega) (by have:=k1.size;omega)
 refine⟨A',c',w',hr,?_,?_,fun k hk=>?_⟩
 ·show Row w' B gZ 1 A' (n+1) c' (Proofs.YtnboahlopghcjaaGreatDoor.us (l++ [x]))
  rw [LM];exact eM
 ·exact(k1.mono (S':=fun k=>bg A=some k) (fun _ _ h=>h.elim)).trans (Kept.grown (S:=fun k=>bg A=some k) (Kept.refl _ _) hg (fun k hk _=>hk)) (fun _ _ h=>h)
 ·rcases vk k hk with h|h
  ·exact .inl h
  ·have:=k1.size;exact .inr (by omega)
theorem xM{b:Nat}(h:jG w B (some ⟨b,0,none⟩) n c l){q:Nat}(hq:q<n)(x:Nat):
 jG (w.setCell ⟨b,q,none⟩ (.int .u64 (x:Int))) B (some ⟨b,0,none⟩) n c (l.set q x):=by
 have:=Row.set h (j:=q) (by rw [nO,h.len];exact hq) (.int .u64 (x:Int));rw [wx]at this;exact this
theorem xR{K:Value->World->Prop}(h:jG w B A n c l)(ho:okW l)(hn:n<=100000)(hB:B<=w.heap.size){i:Nat}(hi:i<=1000000)
 (hK: ∀A' n' c' l' w',jG w' B A' n' c' l'->okW l'->(n'<=n\/n'<=i/64+1)->(∀j,bit l' j=(bit l j||decide (j=i)))->Kept (fun k=>bg A=some k) w w'->(∀k,bg A'=some k->bg A=some k\/w.heap.size<=k)->K (.slice A' n' c') w'):
 bk prog bG.id #[.slice A n c,.int .i64 (i:Int)] w K:=by
 refine bG.of ?_;refine bG.b9 (I:=fun s w'=> ∃A' n' c' l',s=(A',n',c')/\jG w' B A' n' c' l'/\okW l'/\(n'<=n\/n'<=i/64+1)/\(∀j,bit l' j=bit l j)/\Kept (fun k=>bg A=some k) w w'/\(∀k,bg A'=some k->bg A=some k\/w.heap.size<=k))
  (μ:=fun s _=>i/64+1-s.2.1) (s:=(A,n,c)) ⟨A,n,c,l,rfl,h,ho,.inl (Nat.le_refl _),fun _=>rfl,Kept.refl _ _,fun k hk=>.inl hk⟩ ?_
 rintro s w' ⟨A',n',c',l',rfl,row,HP,YC,o9,kw,hb⟩;unfold bG.B1;rw [Fg,gH (by omega) (by omega)];refine⟨by omega,?_⟩;refine Split.dec (fun hle=>?_) (fun v7=>?_)
 ·simp only at hle
  have agt:n'<=i/64:=by omega
  obtain⟨A2,c2,w2,hr,fX,k2,lK⟩:=sj row (by omega) (Nat.le_trans hB kw.size) (t:=gZ) 0;intro w6;refine⟨A2,n'+1,c2,w2,hr,?_⟩;refine⟨(A2,n'+1,c2),rfl,⟨A2,n'+1,c2,l'++ [0],rfl,fX,BV HP (by omega),by omega,fun j=>by rw [y9,o9],?_,fun k hk=>?_⟩,by simp only;omega⟩
  ·exact kw.trans k2 (fun k hk e=>by
    rcases hb k e with h|h
    ·exact h
    ·omega)
  ·rcases lK k hk with h|h
   ·exact hb k h
   ·exact .inr (Nat.le_trans kw.size h)
 ·simp only at v7
  have dN:i/64<n':=by omega
  rw [aS,bG.cZ];unfold bG.cK;intro lF;have vX:Kept Nil w' lF:=(Kept.refl _ _).drew;have S7:lF=w'.drew:=rfl;clear_value lF;have tw:jG lF B A' n' c' l':=Row.aD row vX (fun _ _ h=>h);have hlen:=row.len;rw [Fg,LR,gH (by omega) (by omega)];obtain⟨b,rfl⟩:=Row.some tw (by omega);obtain⟨x,hx⟩: ∃x,l'[i/64]? =some x:=⟨_,List.getElem?_eq_getElem (by omega)⟩;refine⟨by omega,tw.us.load (by omega) (by rw [Int.toNat_natCast];exact hx) ⟨by omega,by omega,⟨⟨by omega,by simp only;omega⟩,?_⟩⟩⟩;have sW:=HP x (List.mem_of_getElem? hx);have hp:2 ^ (i%64)<18446744073709551616:=Nat.pow_lt_pow_right (by omega) (n:=64) (Nat.mod_lt _ (by omega));simp only [Is,Int.toNat_natCast,Nat.mul_one,a8,Nat.zero_add];rw [WB (Nat.mod_lt _ (by omega)),orU sW hp];refine⟨Row.wr tw (by rw [nO,hlen];exact dN),?_⟩;have o8:Kept (fun k=>bg A=some k) w (lF.setCell ⟨b,i/64,none⟩ (.int .u64 ((x|||2 ^ (i%64):Nat):Int))):=
   Kept.setCell (kw.trans vX (fun _ _ h=>h.elim)) (p:=⟨b,i/64,none⟩) (fun cH=>by
    rcases hb b rfl with h|h
    ·exact h
    ·exact absurd cH (by simp only;omega)) _
  refine hK _ _ _ _ _ (xM tw dN _) (BU HP (Nat.or_lt_two_pow (n:=64) sW hp) _) YC (fun j=>?_) o8 hb;rw [CG (by omega),o9];have ZF:bit l' i=x.testBit (i%64):=by unfold bit;rw [List.getD_eq_getElem?_getD,hx];rfl
  by_cases e:j/64=i/64
  ·rw [if_pos e,Nat.testBit_or,Nat.testBit_two_pow]
   have hbj:bit l' j=x.testBit (j%64):=by unfold bit;rw [e,List.getD_eq_getElem?_getD,hx];rfl
   rw [<-hbj,o9]
   congr 1
   exact decide_eq_decide.2 ⟨fun h=>by omega,fun h=>by rw [h]⟩
  ·rw [if_neg e,decide_eq_false (fun h=>e (by rw [h]))]
   simp
end
end Go.Proofs.YtnboahlopghcjaaGreatDoor
namespace Go.Proofs.YtnboahlopghcjaaGreatDoor
open Go.Proofs.Tryz
open Go Go.bS Go.RowKit
section
variable{w w':World}{B n c:Nat}{A:Option Addr}{l:List Nat}
theorem vG{K:Value->World->Prop}(h:jG w B A n c l)(ho:okW l)(hn:n<=100000)(hB:B<=w.heap.size){A2:Option Addr}{n2 c2:Nat}{v:List Nat}(hv:US w A2 n2 v)(XE:okW v)(YB:n2<=100000)
 (TH: ∀a,A2=some a-> ∀k,bg A=some k->a.block≠k)
 (hK: ∀A' n' c' l' w',jG w' B A' n' c' l'->okW l'->(n'<=n\/n'<=n2)->(∀j,bit l' j=(bit l j||bit v j))->Kept (fun k=>bg A=some k) w w'->(∀k,bg A'=some k->bg A=some k\/w.heap.size<=k)->K (.slice A' n' c') w'):
 bk prog b0.id #[.slice A n c,.slice A2 n2 c2] w K:=by
 have aci:=hv.len;refine b0.of ?_;refine b0.b9 (I:=fun s w'=> ∃(i:Nat) (A':Option Addr) (n' c':Nat) (l':List Nat),s=(A',n',c',(i:Int))/\i<=n2/\jG w' B A' n' c' l'/\okW l'/\i<=n'/\n<=n'/\(n'<=n\/n'<=i)/\(∀j,bit l' j=(bit l j||(decide (j/64<i)&&bit v j)))/\Kept (fun k=>bg A=some k) w w'/\(∀k,bg A'=some k->bg A=some k\/w.heap.size<=k))
  (μ:=fun s _=>((n2:Int)-s.2.2.2).toNat) (s:=(A,n,c,0)) ⟨0,A,n,c,l,rfl,Nat.zero_le _,h,ho,Nat.zero_le _,Nat.le_refl _,.inl (Nat.le_refl _),by simp,Kept.refl _ _,fun k hk=>.inl hk⟩ ?_
 rintro s w' ⟨i,A',n',c',l',rfl,hi,row,HP,fh,RZ,Vd,o9,kw,hb⟩;have GF:=row.len;refine Split.dec (fun iP=>?_) (fun fV=>?_)
 ·simp only at iP
  have dN:i<n2:=by omega
  obtain⟨x,hx⟩: ∃x,v[i]? =some x:=⟨_,List.getElem?_eq_getElem (by omega)⟩;have sW:=XE x (List.mem_of_getElem? hx);have hvw:US w' A2 n2 v:=hv.aD kw (fun a ha e=>TH a ha _ e rfl);refine hvw.load (i:=(i:Int)) (by omega) hx ?_;have step: ∀(A2:Option Addr) (n3 c3:Nat) (l3:List Nat) (w3:World),jG w3 B A2 n3 c3 l3->okW l3->i<n3->n<=n3->(n3<=n\/n3<=i+1)->(∀j,bit l3 j=(bit l j||(decide (j/64<i)&&bit v j)))->Kept (fun k=>bg A=some k) w w3->(∀k,bg A2=some k->bg A=some k\/w.heap.size<=k)->
   (0<=(i:Int)/\(i:Int)<(n3:Int))/\Is A2 fun a=> ∃t:Int,w3.cell? (a.add ((i:Int).toNat*1))=some (.int .u64 t)/\(0<=(i:Int)/\(i:Int)<(n3:Int))/\Is A2 fun a'=>Wr w3 (a'.add ((i:Int).toNat*1))/\
     ∃(l4:List Nat),
     jG (w3.setCell (a'.add ((i:Int).toNat*1)) (.int .u64 (IntKind.u64.wrap ((BitVec.ofInt 64 t|||BitVec.ofInt 64 (x:Int)).toNat)))) B A2 n3 c3 l4/\okW l4/\(∀j,bit l4 j=(bit l j||(decide (j/64<i+1)&&bit v j)))/\Kept (fun k=>bg A=some k) w (w3.setCell (a'.add ((i:Int).toNat*1)) (.int .u64 (IntKind.u64.wrap ((BitVec.ofInt 64 t|||BitVec.ofInt 64 (x:Int)).toNat)))):=by
   intro A2 n3 c3 l3 w3 kK ho3 YZ hn3 agi Lg k3 oZ;have acM:=kK.len;obtain⟨b,rfl⟩:=Row.some kK (by omega);obtain⟨y,hy⟩: ∃y,l3[i]? =some y:=⟨_,List.getElem?_eq_getElem (by omega)⟩;have hyl:=ho3 y (List.mem_of_getElem? hy);refine kK.us.load (i:=(i:Int)) (by omega) hy ⟨⟨by omega,by omega⟩,?_⟩;simp only [Is,Int.toNat_natCast,Nat.mul_one,a8,Nat.zero_add];rw [orU hyl sW];refine⟨Row.wr kK (by rw [nO];omega),l3.set i (y|||x),xM kK YZ _,BU ho3 (Nat.or_lt_two_pow (n:=64) hyl sW) _,fun j=>?_,?_⟩
   ·rw [CG (by omega),Lg]
    have zv:j/64=i->bit v j=x.testBit (j%64):=fun e=>by unfold bit;rw [e,List.getD_eq_getElem?_getD,hx];rfl
    have HV:j/64=i->bit l3 j=y.testBit (j%64):=fun e=>by unfold bit;rw [e,List.getD_eq_getElem?_getD,hy];rfl
    by_cases e:j/64=i
    ·rw [if_pos e,Nat.testBit_or,<-HV e,<-zv e,Lg]
     rw [decide_eq_false (show ¬j/64<i by omega),decide_eq_true (show j/64<i+1 by omega)];simp
    ·rw [if_neg e]
     congr 2
     exact decide_eq_decide.2 (by omega)
   ·refine Kept.setCell k3 (p:=⟨b,i,none⟩) (fun cH=>?_) _
    rcases oZ b rfl with h|h
    ·exact h
    ·exact absurd cH (by simp only;omega)
  by_cases he:i=n'
  ·refine Split.yes (by simp [he]) ?_
   obtain⟨EO,Bd,w2,hr,fX,k2,lK⟩:=sj row (by omega) (Nat.le_trans hB kw.size) (t:=gZ) 0;intro w10;refine⟨EO,n'+1,Bd,w2,hr,?_⟩;have st:=step EO (n'+1) Bd (l'++ [0]) w2 fX (BV HP (by omega)) (by omega) (by omega) (by omega) (fun j=>by rw [y9,o9])
    (kw.trans k2 (fun k hk e=>by
      rcases hb k e with h|h
      ·exact h
      ·omega)) (fun k hk=>by
      rcases lK k hk with h|h
      ·exact hb k h
      ·exact .inr (Nat.le_trans kw.size h))
   clear step;obtain⟨s1,s2⟩:=st;refine⟨s1,?_⟩;cases EO with
   |none=>exact s2.elim
   |some a=>
    obtain⟨t,s3,s4,s5,l4,s6,s7,s8,s9⟩:=s2;refine⟨t,s3,s4,s5,?_⟩;intro je;simp only;rw [dG (n:=(i:Int)) (by omega) (by omega)];exact⟨(some a,n'+1,Bd,(i:Int)+1),rfl,⟨i+1,some a,n'+1,Bd,l4,rfl,dN,s6,s7,by omega,by omega,by omega,s8,s9,fun k hk=>by
     rcases lK k hk with h|h
     ·exact hb k h
     ·exact .inr (Nat.le_trans kw.size h)⟩,by simp only;omega⟩
  ·refine Split.no (beq_eq_false_iff_ne.2 (by simp only;omega)) ?_
   have st:=step A' n' c' l' w' row HP (by omega) RZ (by omega) o9 kw hb;clear step;obtain⟨s1,s2⟩:=st;refine⟨s1,?_⟩;cases A' with
   |none=>exact s2.elim
   |some a=>
    obtain⟨t,s3,s4,s5,l4,s6,s7,s8,s9⟩:=s2;refine⟨t,s3,s4,s5,?_⟩;intro je;simp only;rw [dG (n:=(i:Int)) (by omega) (by omega)];exact⟨(some a,n',c',(i:Int)+1),rfl,⟨i+1,some a,n',c',l4,rfl,dN,s6,s7,by omega,RZ,by omega,s8,s9,hb⟩,by simp only;omega⟩
 ·simp only at fV
  have:i=n2:=by omega
  subst this;rw [aS,b0.cZ];refine hK A' n' c' l' w' row HP (by omega) (fun j=>?_) kw hb;rw [o9]
  congr 1
  by_cases e:j/64<i
  ·rw [decide_eq_true e];simp
  ·rw [decide_eq_false e]
   unfold bit;rw [List.getD_eq_getElem?_getD,List.getElem?_eq_none (by omega)];simp
end
end Go.Proofs.YtnboahlopghcjaaGreatDoor
namespace Go.Proofs.YtnboahlopghcjaaGreatDoor
open Go.Proofs.Tryz
open Go Go.bS Go.RowKit
theorem zg: ∀k m:Nat,(2 ^ k*(2*m+1))&&& (2 ^ k*(2*m+1)-1)=2 ^ (k+1)*m
 |0,m=>by
  apply Nat.eq_of_testBit_eq;intro i;rw [Nat.testBit_and];cases i with
  |zero=>simp [Nat.testBit_zero]
  |succ i=>
   simp only [Nat.testBit_succ];rw [show(2 ^ 0*(2*m+1))/2=m by omega,show(2 ^ 0*(2*m+1)-1)/2=m by omega,show 2 ^ (0+1)*m/2=m by omega];simp
 |k+1,m=>by
  have ih:=zg k m;have hp:0<2 ^ k*(2*m+1):=Nat.mul_pos (Nat.pow_pos (by omega)) (by omega);rw [show 2 ^ (k+1)*(2*m+1)=2*(2 ^ k*(2*m+1))by rw [Nat.pow_succ];ac_rfl,show 2 ^ (k+1+1)*m=2*(2 ^ (k+1)*m)by rw [Nat.pow_succ 2 (k+1)];ac_rfl];generalize 2 ^ k*(2*m+1)=x at ih hp⊢;rw [<-ih];apply Nat.eq_of_testBit_eq;intro i;rw [Nat.testBit_and];cases i with
  |zero=>simp [Nat.testBit_zero]
  |succ i=>
   simp only [Nat.testBit_succ];rw [show 2*x/2=x by omega,show(2*x-1)/2=x-1 by omega,show 2*(x&&& (x-1))/2=x&&& (x-1)by omega,Nat.testBit_and]
theorem BX{x:Nat}(h0:x≠0)(hx:x<18446744073709551616):Lib.ctz 64 x<64/\x.testBit (Lib.ctz 64 x)=true/\ ∀t,(x&&& (x-1)).testBit t=(x.testBit t&&decide (t≠Lib.ctz 64 x)):=by
 obtain⟨m,h1,h2⟩:=Lib.ctzFrom_spec 64 x (by omega) hx;have e:Lib.ctz 64 x=Lib.ctzFrom 64 x:=by unfold Lib.ctz;rw [if_neg h0]
 rw [e];generalize Lib.ctzFrom 64 x=k at h1 h2⊢;have hand:x&&& (x-1)=2 ^ (k+1)*m:=by rw [h1];exact zg k m
 have hb: ∀t,x.testBit t=(decide (t>=k)&&(2*m+1).testBit (t-k)):=fun t=>by rw [h1,Nat.testBit_two_pow_mul]
 refine⟨h2,by rw [hb];simp,fun t=>?_⟩;rw [hand,Nat.testBit_two_pow_mul,hb];by_cases ht:t=k
 ·subst ht
  simp;intro h;omega
 ·rw [decide_eq_true ht,Bool.and_true]
  by_cases hk:t>=k
  ·obtain⟨d,hd⟩: ∃d,t-k=d+1:=⟨t-k-1,by omega⟩
   rw [decide_eq_true hk,decide_eq_true (show t>=k+1 by omega),hd,show t-(k+1)=d by omega,Nat.testBit_succ,show(2*m+1)/2=m by omega]
  ·rw [decide_eq_false hk,decide_eq_false (show ¬t>=k+1 by omega)]
   simp
theorem xg{x:Nat}(h0:x≠0):x&&& (x-1)<x:=Nat.lt_of_le_of_lt Nat.and_le_right (by omega)
def tT(x:Nat):List Nat:=if h:x=0 then []else Lib.ctz 64 x::tT (x&&& (x-1))
termination_by x
decreasing_by exact xg h
theorem vN:tT 0= []:=by rw [tT];simp
theorem vP{x:Nat}(h0:x≠0):tT x=Lib.ctz 64 x::tT (x&&& (x-1)):=by rw [tT,dif_neg h0]
theorem vO: ∀(x:Nat),x<18446744073709551616->(∀t,t∈tT x↔x.testBit t=true)/\(tT x).Nodup/\ ∀t∈tT x,t<64:=by
 intro x
 induction x using Nat.strongRecOn with
 |_ x ih=>
  intro hx;by_cases h0:x=0
  ·subst h0;rw [vN];simp
  ·obtain⟨h1,h2,h3⟩:=BX h0 hx
   obtain⟨i1,i2,i3⟩:=ih _ (xg h0) (Nat.lt_trans (xg h0) hx);rw [vP h0];refine⟨fun t=>?_,?_,fun t ht=>?_⟩
   ·rw [List.mem_cons,i1,h3]
    by_cases e:t=Lib.ctz 64 x
    ·rw [e,h2];simp
    ·simp [e]
   ·rw [List.nodup_cons,i1,h3]
    exact⟨by simp,i2⟩
   ·rcases List.mem_cons.1 ht with rfl|ht
    ·exact h1
    ·exact i3 t ht
def oo:Nat->List Nat->List Nat
 |_,[]=> []
 |k,x::ws=>(tT x).map (64*k+ ·)++oo (k+1) ws
theorem Ho(x:Nat)(ws:List Nat)(j:Nat):bit (x::ws) j=if j<64 then x.testBit j else bit ws (j-64):=by
 unfold bit;split
 ·rename_i h
  rw [show j/64=0 by omega,show j%64=j by omega];rfl
 ·rename_i h
  rw [show j/64=(j-64)/64+1 by omega,show j%64=(j-64)%64 by omega];rfl
theorem ot: ∀(ws:List Nat) (k j:Nat),okW ws->(j∈oo k ws↔64*k<=j/\bit ws (j-64*k)=true)
 | [],k,j,_=>by simp [oo,bit]
 |x::ws,k,j,ho=>by
  obtain⟨h1,_,h3⟩:=vO x (ho x (by simp));have ih:=ot ws (k+1) j (fun y hy=>ho y (by simp [hy]));rw [oo,List.mem_append,ih,Ho,List.mem_map];constructor
  ·rintro(⟨t,ht,rfl⟩|⟨h,hb⟩)
   ·have:=h3 t ht
    refine⟨by omega,?_⟩;rw [if_pos (by omega),show 64*k+t-64*k=t by omega];exact(h1 t).1 ht
   ·refine⟨by omega,?_⟩
    rw [if_neg (by omega),show j-64*k-64=j-64*(k+1)by omega];exact hb
  ·rintro⟨h,hb⟩
   split at hb
   ·exact .inl ⟨j-64*k,(h1 _).2 hb,by omega⟩
   ·refine .inr ⟨by omega,?_⟩
    rw [show j-64*(k+1)=j-64*k-64 by omega];exact hb
theorem tK: ∀ {l m:List Nat},l.Nodup->(∀x∈l,x∈m)->l.length<=m.length
 | [],_,_,_=>Nat.zero_le _
 |x::l,m,hn,h=>by
  rw [List.nodup_cons]at hn;have hx:=h x (by simp);have:=tK (l:=l) (m:=m.erase x) hn.2 (fun y hy=>by
   have fE:y≠x:=fun e=>hn.1 (e▸hy);exact(List.mem_erase_of_ne fE).2 (h y (by simp [hy])))
  rw [List.length_erase_of_mem hx]at this;have iK:0<m.length:=List.length_pos_of_mem hx;simp only [List.length_cons];omega
def rI(w:World):Prop:=TabAt (Tryz.iZ.g 1) Lib.deBruijn64tab w
theorem rI.aD{S:Nat->Prop}{w w':World}(h:rI w)(hk:Kept S w w')(hn: ¬S (Tryz.iZ.g 1)):rI w':=fun j hj=>hk.cell (h j hj) hn
theorem rI.same{w w':World}(h:rI w)(hk:Kept Nil w w'):rI w':=h.aD hk fun h=>h
theorem rI.lt{w:World}(h:rI w):Tryz.iZ.g 1<w.heap.size:=World.block_lt_of_cell? w _ (h 0 (by decide))
section
variable{w:World}{K:Value->World->Prop}
theorem PW{x:Nat}(hx:x<18446744073709551616)(hT:rI w)(hK:K (.int .i64 (Lib.ctz 64 x:Nat)) w):bk prog bits_TrailingZeros64.id #[.int .u64 (x:Int)] w K:=by
 refine Calls.mono (Any7.bits_TrailingZeros64 Tryz.tzL x hx w (fun _=>hT)) ?_;rintro e w' ⟨rfl,rfl⟩;exact⟨_,rfl,hK⟩
abbrev encI(i:Nat):List Value:= [.int .i64 (i:Int)]
theorem Hq(p:Addr){A:Option Addr}{n c:Nat}{l:List Nat}(hn:n<=100000)(ho:okW l):
 mE prog aG.id #[] #[.pointer (some p)] ((oo 0 l).map encI) (fun w=>US w A n l/\w.cell? p=some (.slice A n c)/\rI w):=by
 intro y I D w0 hI hD qu h0 pL;refine aG.of ?_;obtain⟨Cs,Ph,_⟩:=qu 0 w0 h0;have hlen:=Cs.len;refine⟨A,n,c,Ph,?_⟩;refine aG.b9 (I:=fun s w'=> ∃(i:Nat) (dn:List Nat),s=(i:Int)/\i<=n/\dn++oo i (l.drop i)=oo 0 l/\I dn.length w') (μ:=fun s _=>((n:Int)-s).toNat) (s:=0) ⟨0,[],rfl,Nat.zero_le _,rfl,h0⟩ ?_;rintro s w' ⟨i,dn,rfl,hi,GK,hw⟩;refine Split.dec (fun iP=>?_) (fun fV=>?_)
 ·have dN:i<n:=by omega
  obtain⟨x,hx⟩: ∃x,l[i]? =some x:=⟨_,List.getElem?_eq_getElem (by omega)⟩;have sW:=ho x (List.mem_of_getElem? hx);have hl:=(qu _ w' hw).1;have ug:l.drop i=x::l.drop (i+1):=by
   obtain⟨h1,h2⟩:=List.getElem?_eq_some_iff.1 hx;rw [List.drop_eq_getElem_cons h1,h2]
  rw [ug,oo]at GK;refine hl.load (i:=(i:Int)) (by omega) hx ?_;refine aG.gI (I:=fun s w'=> ∃(v:Nat) (dn:List Nat),s=(v:Int)/\v<18446744073709551616/\dn++((tT v).map (64*i+ ·)++oo (i+1) (l.drop (i+1)))=oo 0 l/\I dn.length w') (μ:=fun s _=>s.toNat) (s:=(x:Int)) ⟨x,dn,rfl,sW,GK,hw⟩ ?_;clear hw GK;rintro s w1 ⟨v,VQ,rfl,hv,GJ,HL⟩;by_cases h0:v=0
  ·refine Split.no (by subst h0;rfl) ?_
   rw [aS,aG.jF];unfold aG.iu;rw [dG (n:=(i:Int)) (by omega) (by omega)];rw [h0,vN,List.map_nil,List.nil_append]at GJ;exact⟨(i:Int)+1,rfl,⟨i+1,VQ,rfl,dN,GJ,HL⟩,by simp only;omega⟩
  ·refine Split.yes (bne_iff_ne.2 (by omega)) ?_
   have hpr:=qu _ w1 HL;obtain⟨hk,K4,hkr⟩:=BX h0 hv;rw [vP h0,List.map_cons,List.cons_append]at GJ;refine PW hv hpr.2.2 ⟨_,rfl,?_⟩;have fR:((oo 0 l).map encI)[VQ.length]? =some (encI (64*i+Lib.ctz 64 v)):=by
    rw [List.getElem?_map,<-GJ,List.getElem?_append_right (Nat.le_refl _),Nat.sub_self];rfl
   have yB:IntKind.i64.wrap (IntKind.i64.wrap ((64:Int)*(i:Int))+((Lib.ctz 64 v:Nat):Int))=((64*i+Lib.ctz 64 v:Nat):Int):=by
    rw [gH (x:=(64:Int)*(i:Int)) (by omega) (by omega),gH (by omega) (by omega)];omega
   rw [yB];refine(pL VQ.length _ w1 fR HL).mono ?_;rintro b lG ⟨ht,hf⟩;have lR:IntKind.u64.wrap ((BitVec.ofInt 64 (v:Int)&&& BitVec.ofInt 64 (IntKind.u64.wrap ((v:Int)-(1:Int)))).toNat:Int)=((v&&& (v-1):Nat):Int):=by
    have e1:(v:Int)-1=((v-1:Nat):Int):=by omega
    rw [e1,iY (x:=v-1) (by omega),aaN hv (by omega)]
   cases b with
   |true=>
    refine Split.no rfl ?_;rw [lR];have cH:=xg h0;refine⟨((v&&& (v-1):Nat):Int),rfl,⟨v&&& (v-1),VQ++ [64*i+Lib.ctz 64 v],rfl,by omega,by rw [List.append_assoc];exact GJ,?_⟩,by simp only;omega⟩;rw [List.length_append];exact ht rfl
   |false=>
    refine Split.yes rfl ?_;exact Or.inr (hf rfl)
 ·rw [aS,aG.cZ]
  have e:i=n:=by omega
  subst e;refine Or.inl ?_;rw [List.drop_eq_nil_of_le (by omega),oo,List.append_nil]at GK;rw [List.length_map,<-GK];exact hw
end
end Go.Proofs.YtnboahlopghcjaaGreatDoor
namespace Go.Proofs.YtnboahlopghcjaaGreatDoor
open Go.Proofs.Tryz
open Go Go.bS Go.RowKit
def pos(h:HT):List HT->Nat->Option Nat
 | [],_=>none
 |x::l,i=>if h=x then some i else pos h l (i+1)
theorem og{h:HT}: ∀ {l:List HT} {i:Nat},pos h l i=none↔h∉l
 | [],i=>by simp [pos]
 |x::l,i=>by
  unfold pos;split
  ·rename_i e;simp [e]
  ·rename_i e
   rw [og (l:=l)];simp [e]
theorem tF{h:HT}: ∀ {l:List HT} {i j:Nat},pos h l i=some j->i<=j/\l[j-i]? =some h
 | [],i,j,e=>by simp [pos]at e
 |x::l,i,j,e=>by
  unfold pos at e;split at e
  ·rename_i hx
   cases e;subst hx;exact⟨Nat.le_refl _,by rw [Nat.sub_self];rfl⟩
  ·obtain⟨h1,h2⟩:=tF e
   refine⟨by omega,?_⟩;rw [show j-i=(j-(i+1))+1 by omega];exact h2
theorem jK{h:HT}: ∀ {l:List HT} (i j:Nat),l.Nodup->l[j]? =some h->pos h l i=some (i+j)
 | [],i,j,_,e=>by simp at e
 |x::l,i,0,_,e=>by
  simp only [List.getElem?_cons_zero,Option.some.injEq]at e;unfold pos;rw [if_pos e.symm];simp
 |x::l,i,j+1,hn,e=>by
  simp only [List.getElem?_cons_succ]at e;rw [List.nodup_cons]at hn;unfold pos;rw [if_neg (fun hx=>hn.1 (by rw [<-hx];exact List.mem_of_getElem? e)),jK (i+1) j hn.2 e]
  congr 1
  omega
section
variable{w:World}
theorem Ia:prog.underlying ai=some (.array 32 gX):=by kernel_rfl
theorem LN:prog.underlying gX=some (.int .u8):=by kernel_rfl
theorem Kx: ∃i,prog.info? gX=some i/\i.size=1:=by
 have h:(match prog.info? gX with|some i=>Nat.beq i.size 1|none=>false)=true:=by kernel_rfl
 split at h
 ·rename_i i hi;exact⟨i,hi,Nat.eq_of_beq_eq_true h⟩
 ·cases h
theorem LO:prog.underlying cg=some (.map ai iX):=by kernel_rfl
theorem tq(a b:HT)(w:World):(Op.equal ai (.agg a.1) (.agg b.1)).run prog w=.ok (decide (a=b)) w:=by
 obtain⟨i,hi,h1⟩:=Kx;have:=nV (P:=prog) 9998 w Ia LN hi h1 a.2.ints b.2.ints;rw [cQ]at this;simp only [Op.equal,Op.maxDepth];exact this
theorem iz(h:HT)(em:Bool)(w:World):(Instr.checkKey em 10000 ai (.agg h.1)).run prog w=.ok () w:=by
 obtain⟨i,hi,h1⟩:=Kx;have hc:prog.cellsOf gX=1:=by simp [Program.cellsOf,hi,h1]
 rw [show(10000:Nat)=9999+1 from rfl,Instr.checkKey];simp only [Sem.run_bind,run_underlying Ia,Result.andThen_ok];simp only [Std.Legacy.Range.forIn_eq_forIn_range',Std.Legacy.Range.size,Nat.sub_zero,Nat.add_one_sub_one,Nat.div_one];have each: ∀j∈List.range' 0 32,∃v,h.1[j]? =some v/\ ∃x:Int,v=.int .u8 x:=fun j hj=>by
  have ud:j<h.1.size:=by rw [h.2.1];simpa using hj
  obtain⟨x,hx,_⟩:=h.2.2 h.1[j] (by simp);exact⟨_,Array.getElem?_eq_getElem ud,x,hx⟩
 generalize List.range' 0 32=is at each
 induction is with
 |nil=>simp
 |cons j is ih=>
  obtain⟨v,hv,x,rfl⟩:=each j (by simp);have Ju:(isAgg gX).run prog w=.ok false w:=by simp [isAgg,run_underlying LN]
  have p1:(part gX h.1 (j*1)).run prog w=.ok (.int .u8 x) w:=by simp [part,Ju,hv]
  have p2:(Instr.checkKey em 9999 gX (.int .u8 x)).run prog w=.ok () w:=by
   rw [show(9999:Nat)=9998+1 from rfl,Instr.checkKey];simp [run_underlying LN]
  simp only [List.forIn_cons,Sem.run_bind,Go.bS.run_sizeOf hi w,hc,Result.andThen_ok,p1,p2,Sem.run_pure];exact ih (fun y hy=>each y (by simp [hy]))
def zn(es:List MapEntry)(l:List HT)(i:Nat):Prop:=match es,l with
 | [],[]=>True
 |e::es,h::l=>(e.key=.agg h.1/\e.val=.int .i64 (i:Int))/\zn es l (i+1)
 |_,_=>False
theorem zn.snoc: ∀ {es:List MapEntry} {l:List HT} {i:Nat} {e:MapEntry} {h:HT},zn es l i->e.key=.agg h.1->e.val=.int .i64 ((i+l.length:Nat):Int)->zn (es++ [e]) (l++ [h]) i
 | [],[],i,e,h,_,h1,h2=>⟨⟨h1,by simpa using h2⟩,trivial⟩
 |x::es,y::l,i,e,h,he,h1,h2=>⟨he.1,zn.snoc he.2 h1 (by rw [h2];congr 2;simp;omega)⟩
 | [],_::_,_,_,_,he,_,_=>he.elim
 |_::_,[],_,_,_,he,_,_=>he.elim
theorem p9(h:HT)(w:World): ∀(es:List MapEntry) (l:List HT) (i:Nat),zn es l i->
 (Instr.findAsking ai (.agg h.1) es i).run prog w=.ok ((pos h l i).map fun j=>(j,.int .i64 (j:Int))) w
 | [],[],i,_=>by simp [Instr.findAsking,pos]
 |e::es,x::l,i,he=>by
  have hq:=tq h x w;have ih:=p9 h w es l (i+1) he.2;simp only [Instr.findAsking,he.1.1,Sem.run_bind,hq,Result.andThen_ok];by_cases hx:h=x
  ·simp [hx,pos,he.1.2]
  ·simp [hx,pos,ih]
 | [],_::_,_,he=>he.elim
 |_::_,[],_,he=>he.elim
theorem mM(h:HT)(w:World){es:List MapEntry}{l:List HT}(he:zn es l 0):
 (Instr.findKey ai (.agg h.1) es).run prog w=.ok ((pos h l 0).map fun j=>(j,.int .i64 (j:Int))) w:=by
 have h1:=p9 h w es l 0 he;simp only [Instr.findKey,Sem.run_bind,run_underlying Ia,Result.andThen_ok];cases es with
 |nil=>
  cases l with
  |nil=>simp [Instr.findNow,pos]
  |cons x l=>exact he.elim
 |cons e es=>
  have:Instr.findNow (.array 32 gX) (.agg h.1) (e::es) 0=none:=by
   simp only [Instr.findNow,Instr.sameNow]
  rw [this];exact h1
theorem oC{r:Nat}{es:Array MapEntry}{clock:Nat}(hb:w.heap[r]? =some (.map es clock)):(getObj r).run prog w=.ok (.map es clock) w:=by
 simp [getObj,Sem.run,hb]
theorem zO{r:Nat}{es:Array MapEntry}{clock:Nat}(o:Obj)(hb:w.heap[r]? =some (.map es clock)):(setObj r o).run prog w=.ok () {w with heap:=w.heap.setIfInBounds r o}:=by
 simp [setObj,Sem.run,hb]
structure IsMap(w:World)(m:Nat)(l:List HT):Prop where
 ex: ∃es clock,w.heap[m]? =some (.map es clock)/\zn es.toList l 0
theorem IsMap.aD{S:Nat->Prop}{w w':World}{m:Nat}{l:List HT}(h:IsMap w m l)(hk:Kept S w w')(hn: ¬S m):IsMap w' m l:=by
 obtain⟨es,clock,h1,h2⟩:=h.ex;exact⟨es,clock,hk.heap h1 hn,h2⟩
theorem IsMap.lt{w:World}{m:Nat}{l:List HT}(h:IsMap w m l):m<w.heap.size:=by
 obtain⟨es,clock,h1,_⟩:=h.ex;exact aT h1
theorem IsMap.look{m:Nat}{l:List HT}(hm:IsMap w m l)(h:HT):
 (Instr.lookup cg (.map (some m)) (.agg h.1) true).run prog w=.ok (.tuple #[.int .i64 (((pos h l 0).getD 0:Nat):Int),.bool (pos h l 0).isSome]) w:=by
 obtain⟨es,clock,h1,h2⟩:=hm.ex;have h3:=mM h w h2;simp only [Instr.lookup,Sem.run_bind,run_underlying LO,oC h1,Result.andThen_ok,Sem.run_pure,iz,h3];cases hp:pos h l 0<;>simp
theorem IsMap.vQ{m:Nat}{l:List HT}(hm:IsMap w m l)(h:HT):
 (Instr.lookup cg (.map (some m)) (.agg h.1) false).run prog w=.ok (.int .i64 (((pos h l 0).getD 0:Nat):Int)) w:=by
 obtain⟨es,clock,h1,h2⟩:=hm.ex;have h3:=mM h w h2;simp only [Instr.lookup,Sem.run_bind,run_underlying LO,oC h1,Result.andThen_ok,Sem.run_pure,iz,h3];cases hp:pos h l 0<;>simp
theorem IsMap.put{m:Nat}{l:List HT}(hm:IsMap w m l){h:HT}(hn:h∉l):
 ∃w',(Instr.mapUpdate cg (.map (some m)) (.agg h.1) (.int .i64 ((l.length:Nat):Int))).run prog w=.ok () w'/\IsMap w' m (l++ [h])/\Kept (· =m) w w':=by
 obtain⟨es,clock,h1,h2⟩:=hm.ex;have h3:=mM h w h2;rw [og.2 hn]at h3;refine⟨{w with heap:=w.heap.setIfInBounds m (.map (es.push {key:=.agg h.1,val:=.int .i64 ((l.length:Nat):Int),born:=clock}) (clock+1))},?_,⟨es.push {key:=.agg h.1,val:=.int .i64 ((l.length:Nat):Int),born:=clock},clock+1,?_,?_⟩,?_⟩
 ·simp only [Instr.mapUpdate,Sem.run_bind,run_underlying LO,oC h1,Result.andThen_ok,iz,h3,Option.map_none,zO _ h1]
 ·simp [aT h1]
 ·have:=h2.snoc (e:= {key:=.agg h.1,val:=.int .i64 ((l.length:Nat):Int),born:=clock}) (h:=h) rfl (by simp)
  simpa using this
 ·exact⟨rfl,rfl,rfl,by simp,fun k _ hk=>by simp [Ne.symm hk]⟩
end
end Go.Proofs.YtnboahlopghcjaaGreatDoor
namespace Go.Proofs.YtnboahlopghcjaaGreatDoor
open Go.Proofs.Tryz
open Go Go.bS
structure DN where
 id:HT
 ps:List HT
abbrev DG:=List DN
def ids(D:DG):List HT:=D.map (·.id)
def mS(D:DG)(p h:HT):Prop:= ∃nd∈D,nd.id=h/\p∈nd.ps
inductive eT (D:DG):HT->HT->Prop
 |one {p h:HT}:mS D p h->eT D p h
 |more {a p h:HT}:eT D a p->mS D p h->eT D a h
theorem eT.trans{D:DG}{a b c:HT}(h:eT D a b)(h':eT D b c):eT D a c:=by
 induction h' with
 |one hp=>exact .more h hp
 |more _ hp ih=>exact .more ih hp
structure jj(D:DG):Prop where
 pos:0<D.length
 nodup:(ids D).Nodup
 ss: ∀nd∈D,SS nd.ps
 up: ∀(i:Nat) nd p,D[i]? =some nd->p∈nd.ps-> ∃(j:Nat) (m:DN),j<i/\D[j]? =some m/\m.id=p
theorem fI(D:DG):(ids D).length=D.length:=by simp [ids]
theorem oW{D:DG}{i:Nat}{nd:DN}(h:D[i]? =some nd):(ids D)[i]? =some nd.id:=by simp [ids,h]
theorem Gf{D:DG}{i:Nat}{h:HT}(e:(ids D)[i]? =some h): ∃nd,D[i]? =some nd/\nd.id=h:=by
 unfold ids at e;rw [List.getElem?_map]at e;cases hd:D[i]? with
 |none=>rw [hd]at e;cases e
 |some nd=>rw [hd]at e;exact⟨nd,rfl,by simpa using e⟩
theorem dI{D:DG}{h:HT}:h∈ids D↔ ∃nd∈D,nd.id=h:=by simp [ids]
section
variable{D:DG}
theorem jj.inj(W:jj D){i j:Nat}{a b:DN}(ha:D[i]? =some a)(hb:D[j]? =some b)(e:a.id=b.id):i=j:=by
 have h1:=jK 0 i W.nodup (oW ha);have h2:=jK 0 j W.nodup (oW hb);rw [e,h2]at h1;simpa using h1.symm
theorem jj.pos_eq(W:jj D){i:Nat}{nd:DN}(h:D[i]? =some nd):Proofs.YtnboahlopghcjaaGreatDoor.pos nd.id (ids D) 0=some i:=by
 have:=jK 0 i W.nodup (oW h)
 rwa [Nat.zero_add]at this
theorem mS.at_(W:jj D){p h:HT}(hp:mS D p h): ∃(i j:Nat) (m nd:DN),i<j/\D[i]? =some m/\D[j]? =some nd/\m.id=p/\nd.id=h/\p∈nd.ps:=by
 obtain⟨nd,fy,rfl,pM⟩:=hp;obtain⟨j,hj⟩:=List.mem_iff_getElem?.1 fy;obtain⟨i,m,qw,hm,e⟩:=W.up j nd p hj pM;exact⟨i,j,m,nd,qw,hm,hj,e,rfl,pM⟩
theorem eT.at_(W:jj D){a h:HT}(hp:eT D a h): ∃(i j:Nat) (m nd:DN),i<j/\D[i]? =some m/\D[j]? =some nd/\m.id=a/\nd.id=h:=by
 induction hp with
 |one hp=>
  obtain⟨i,j,m,nd,h1,h2,h3,h4,h5,_⟩:=hp.at_ W;exact⟨i,j,m,nd,h1,h2,h3,h4,h5⟩
 |more _ hp ih=>
  obtain⟨i,j,m,nd,h1,h2,h3,h4,h5⟩:=ih;obtain⟨i',j',m',nd',r9,ui,Cz,VE,h5',_⟩:=hp.at_ W;have e:=W.inj h3 ui (by rw [h5,VE]);exact⟨i,j',m,nd',by omega,h2,Cz,h4,h5'⟩
theorem eT.irrefl(W:jj D)(a:HT): ¬eT D a a:=fun h=>by
 obtain⟨i,j,m,nd,h1,h2,h3,h4,h5⟩:=h.at_ W;have:=W.inj h2 h3 (by rw [h4,h5]);omega
theorem eT.mem(W:jj D){a h:HT}(hp:eT D a h):a∈ids D/\h∈ids D:=by
 obtain⟨i,j,m,nd,_,h2,h3,h4,h5⟩:=hp.at_ W;exact⟨dI.2 ⟨m,List.mem_of_getElem? h2,h4⟩,dI.2 ⟨nd,List.mem_of_getElem? h3,h5⟩⟩
theorem tf(W:jj D){i:Nat}{nd:DN}(h:D[i]? =some nd)(a:HT):eT D a nd.id↔ ∃p∈nd.ps,a=p\/eT D a p:=by
 have key: ∀ {p},mS D p nd.id->p∈nd.ps:=fun⟨nd',hm,e,hp⟩=>by
  obtain⟨j,hj⟩:=List.mem_iff_getElem?.1 hm;have:=W.inj h hj e.symm;subst this;rw [h]at hj;cases hj;exact hp
 constructor
 ·intro ha
  generalize he:nd.id=x at ha;cases ha with
  |one hp=>subst he;exact⟨a,key hp,.inl rfl⟩
  |more zw hp=>subst he;exact⟨_,key hp,.inr zw⟩
 ·rintro⟨p,hp,e⟩
  have kO:mS D p nd.id:=⟨nd,List.mem_of_getElem? h,rfl,hp⟩;rcases e with rfl|e
  ·exact .one kO
  ·exact .more e kO
theorem mf{nd:DN}{p h:HT}:mS (D++ [nd]) p h↔mS D p h\/(nd.id=h/\p∈nd.ps):=by
 unfold mS;constructor
 ·rintro⟨m,hm,e,hp⟩
  rw [List.mem_append,List.mem_singleton]at hm;rcases hm with hm|rfl
  ·exact .inl ⟨m,hm,e,hp⟩
  ·exact .inr ⟨e,hp⟩
 ·rintro(⟨m,hm,e,hp⟩|⟨e,hp⟩)
  ·exact⟨m,by simp [hm],e,hp⟩
  ·exact⟨nd,by simp,e,hp⟩
theorem iE(W:jj D){nd:DN}(hn:nd.id∉ids D){a h:HT}(hh:h∈ids D):eT (D++ [nd]) a h↔eT D a h:=by
 constructor
 ·intro ha
  induction ha with
  |one hp=>
   rcases mf.1 hp with hp|⟨e,_⟩
   ·exact .one hp
   ·subst e;exact absurd hh hn
  |more _ hp ih=>
   rcases mf.1 hp with hp|⟨e,_⟩
   ·exact .more (ih (eT.mem W (.one hp)).1) hp
   ·subst e;exact absurd hh hn
 ·intro ha
  induction ha with
  |one hp=>exact .one (mf.2 (.inl hp))
  |more zw hp ih=>exact .more (ih (eT.mem W zw).2) (mf.2 (.inl hp))
theorem jX(D:DG)(nd:DN):ids (D++ [nd])=ids D++ [nd.id]:=by simp [ids]
theorem jj.snoc(W:jj D){nd:DN}(hn:nd.id∉ids D)(pM: ∀p∈nd.ps,p∈ids D)(hs:SS nd.ps):jj (D++ [nd]) where
 pos:=by simp
 nodup:=by
  rw [jX,List.nodup_append];refine⟨W.nodup,by simp,fun a ha b hb=>?_⟩;rw [List.mem_singleton]at hb;subst hb;exact fun e=>hn (e▸ha)
 ss:=fun m hm=>by
  rw [List.mem_append,List.mem_singleton]at hm;rcases hm with hm|rfl
  ·exact W.ss m hm
  ·exact hs
 up:=fun i m p hi hp=>by
  rw [List.getElem?_append]at hi;split at hi
  ·rename_i cH
   obtain⟨j,q,h1,h2,h3⟩:=W.up i m p hi hp;exact⟨j,q,h1,by rw [List.getElem?_append_left (by omega)];exact h2,h3⟩
  ·rename_i fV
   have:m=nd:=by
    cases hk:i-D.length with
    |zero=>rw [hk]at hi;simpa using hi.symm
    |succ k=>rw [hk]at hi;simp at hi
   subst this;obtain⟨q,hq,e⟩:=dI.1 (pM p hp);obtain⟨j,hj⟩:=List.mem_iff_getElem?.1 hq;have sY:=(List.getElem?_eq_some_iff.1 hj).1;exact⟨j,q,by omega,by rw [List.getElem?_append_left sY];exact hj,e⟩
end
theorem jj.root(r:HT):jj [⟨r,[]⟩] where
 pos:=by simp
 nodup:=by simp [ids]
 ss:=fun nd h=>by simp at h;subst h;exact List.Pairwise.nil
 up:=fun i nd p h hp=>by
  cases i with
  |zero=>simp at h;subst h;simp at hp
  |succ i=>simp at h
def dg(D:DG)(h:HT)(l:List HT):Int:=
 if h∈ids D then 7 else if(df l).length=0\/(df l).length≠l.length then 9 else if ∃p∈df l,p∉ids D then 6 else 0
def lI(D:DG)(h:HT)(l:List HT):DG:=if dg D h l=0 then D++ [⟨h,df l⟩]else D
theorem jQ{D:DG}{h:HT}{l:List HT}(e:dg D h l=0):h∉ids D/\l≠ []/\l.Nodup/\ ∀p∈df l,p∈ids D:=by
 unfold dg at e;split at e
 ·cases e
 ·rename_i h1
  split at e
  ·cases e
  ·rename_i h2
   split at e
   ·cases e
   ·rename_i h3
    simp only [not_or,Decidable.not_not]at h2;refine⟨h1,fun hl=>h2.1 (by rw [hl];rfl),qj h2.2,fun p hp=>Classical.byContradiction fun hn=>h3 ⟨p,hp,hn⟩⟩
theorem jj.add{D:DG}(W:jj D)(h:HT)(l:List HT):jj (lI D h l):=by
 unfold lI;split
 ·rename_i e
  obtain⟨h1,_,_,h4⟩:=jQ e;exact W.snoc h1 h4 (ig l)
 ·exact W
open Classical in
noncomputable def pick(D:DG)(is:HT->Prop):List HT:=df ((ids D).filter fun a=>decide (is a))
theorem iS{D:DG}{is:HT->Prop}{a:HT}:a∈pick D is↔a∈ids D/\is a:=by
 unfold pick;rw [dv,List.mem_filter];simp
theorem BT{D:DG}{is:HT->Prop}{l:List HT}(h: ∀a,a∈l↔a∈ids D/\is a):df l=pick D is:=BG fun x=>by
 rw [h,List.mem_filter];simp
theorem me(D:DG)(is:HT->Prop):(pick D is).length<=D.length:=by
 unfold pick;refine Nat.le_trans (oN _) (Nat.le_trans (List.length_filter_le _ _) ?_);rw [fI];exact Nat.le_refl _
noncomputable def dP(D:DG)(l:List HT):List HT:=pick D fun a=> ∃h∈l,eT D a h
noncomputable def fT(D:DG)(h:HT):List HT:=pick D fun a=>mS D h a
end Go.Proofs.YtnboahlopghcjaaGreatDoor
namespace Go.Proofs.YtnboahlopghcjaaGreatDoor
open Go.Proofs.Tryz
open Go Go.bS Go.RowKit
structure NS(w:World)(F:Nat->Prop)(A:Option Addr)(n:Nat)(l:List DN):Prop where
 len:l.length=n
 at_: ∀(i:Nat) nd,l[i]? =some nd-> ∃a pA pn pc,A=some a/\a.block<w.heap.size/\F a.block/\Cells w (a.add (i*33)) (nd.id.1.push (.slice pA pn pc))/\HS w pA pn nd.ps/\ ∀b,pA=some b->F b.block
section
variable{w w':World}{F F' S:Nat->Prop}{A:Option Addr}{n:Nat}{l:List DN}
theorem NS.aD(h:NS w F A n l)(hk:Kept S w w')(hn: ∀k,F k-> ¬S k):NS w' F A n l:=⟨h.len,fun i nd hi=>by
 obtain⟨a,pA,pn,pc,h1,h2,h3,h4,h5,h6⟩:=h.at_ i nd hi;exact⟨a,pA,pn,pc,h1,Nat.lt_of_lt_of_le h2 hk.size,h3,Cells.aD h4 hk (by rw [ee];exact hn _ h3),h5.aD hk (fun b hb=>hn _ (h6 b hb)),h6⟩⟩
theorem NS.mono(h:NS w F A n l)(hf: ∀k,F k->F' k):NS w F' A n l:=⟨h.len,fun i nd hi=>by
 obtain⟨a,pA,pn,pc,h1,h2,h3,h4,h5,h6⟩:=h.at_ i nd hi;exact⟨a,pA,pn,pc,h1,h2,hf _ h3,h4,h5,fun b hb=>hf _ (h6 b hb)⟩⟩
theorem tD{h:HT}{v:Value}{j:Nat}{u:Value}(hj:h.1[j]? =some u):(h.1.push v)[j]? =some u:=by
 have cH:=(Array.getElem?_eq_some_iff.1 hj).1;rw [Array.getElem?_push,if_neg (by omega),hj]
theorem oS(h:HT)(v:Value):(h.1.push v)[32]? =some v:=by
 have:=h.2.1;rw [Array.getElem?_push,if_pos (by omega)]
theorem NS.id(h:NS w F A n l){i:Int}{nd:DN}(h0:0<=i)(hx:l[i.toNat]? =some nd){k:Array Value->Prop}(hk:k nd.id.1):
 (0<=i/\i<(n:Int))/\Is A fun a=> ∃t:Array Value,(t.size=32/\Cells w ((a.add (i.toNat*33)).add 0) t)/\k t:=by
 obtain⟨a,pA,pn,pc,rfl,_,_,h4,_,_⟩:=h.at_ _ nd hx;have:=(List.getElem?_eq_some_iff.1 hx).1;have:=h.len;refine⟨⟨h0,by omega⟩,nd.id.1,⟨nd.id.2.1,fun j v hj=>?_⟩,hk⟩;rw [add_zero];exact h4 j v (tD hj)
theorem NS.ps(h:NS w F A n l){i:Int}{nd:DN}(h0:0<=i)(hx:l[i.toNat]? =some nd){k:Option Addr->Nat->Nat->Prop}(hk: ∀pA pn pc,HS w pA pn nd.ps->(∀b,pA=some b->F b.block)->k pA pn pc):
 (0<=i/\i<(n:Int))/\Is A fun a=> ∃pA pn pc,w.cell? ((a.add (i.toNat*33)).add 32)=some (.slice pA pn pc)/\k pA pn pc:=by
 obtain⟨a,pA,pn,pc,rfl,_,_,h4,h5,h6⟩:=h.at_ _ nd hx;have:=(List.getElem?_eq_some_iff.1 hx).1;have:=h.len;exact⟨⟨h0,by omega⟩,pA,pn,pc,h4 32 _ (oS _ _),hk _ _ _ h5 h6⟩
theorem NS.cells(h:NS w F A n l): ∀k,k<=n-> ∃news:List Value,news.length=k*33/\(∀a,A=some a-> ∀j u,news[j]? =some u->w.cell? (a.add j)=some u)/\(∀u∈news,u.oneCell'=true)/\
 ∀(i:Nat) nd,i<k->l[i]? =some nd-> ∃pA pn pc,HS w pA pn nd.ps/\(∀b,pA=some b->F b.block)/\ ∀(j:Nat) v,(nd.id.1.push (.slice pA pn pc))[j]? =some v->news[i*33+j]? =some v
 |0,_=>⟨[],rfl,by simp,by simp,by intro i nd hi;omega⟩
 |k+1,hk=>by
  obtain⟨news,e1,e2,e3,e4⟩:=h.cells k (by omega);have hlen:=h.len;obtain⟨nd,fy⟩: ∃nd,l[k]? =some nd:=⟨_,List.getElem?_eq_getElem (by omega)⟩;obtain⟨a,pA,pn,pc,hA,h2,h3,h4,h5,h6⟩:=h.at_ _ nd fy;have kR:(nd.id.1.push (.slice pA pn pc)).size=33:=by rw [Array.size_push,nd.id.2.1]
  refine⟨news++(nd.id.1.push (.slice pA pn pc)).toList,by rw [List.length_append,e1,Array.length_toList,kR];omega,fun a' zw j u hj=>?_,fun u hu=>?_,fun i md hi vZ=>?_⟩
  ·rw [List.getElem?_append]at hj
   split at hj
   ·exact e2 a' zw j u hj
   ·rename_i fV
    rw [hA]at zw;cases zw;have:=h4 (j-news.length) u (by rw [<-Array.getElem?_toList];exact hj)
    rwa [kc,show k*33+(j-news.length)=j by omega]at this
  ·rw [List.mem_append]at hu
   rcases hu with hu|hu
   ·exact e3 u hu
   ·simp only [Array.toList_push,List.mem_append,List.mem_singleton]at hu
    rcases hu with hu|rfl
    ·exact nd.id.2.one u hu
    ·rfl
  ·by_cases hik:i<k
   ·obtain⟨qA,qn,qc,f1,f2,f3⟩:=e4 i md hik vZ
    exact⟨qA,qn,qc,f1,f2,fun j v hj=>by
     have:=f3 j v hj;rw [List.getElem?_append_left (List.getElem?_eq_some_iff.1 this).1];exact this⟩
   ·have:i=k:=by omega
    subst this;rw [fy]at vZ;cases vZ;exact⟨pA,pn,pc,h5,h6,fun j v hj=>by
     rw [List.getElem?_append_right (by omega),e1,show i*33+j-i*33=j by omega,Array.getElem?_toList];exact hj⟩
theorem wA:xu prog ck bI 33 56:=⟨by kernel_rfl,by kernel_rfl⟩
theorem CF:PA prog bI=some ([(0,32),(32,1)],List.replicate 32 (.int .u8 0)++ [.slice none 0 0]):=by kernel_rfl
theorem Ei(h:HT)(A:Option Addr)(n c:Nat):prog.built bI [(0,.agg h.1),(1,.slice A n c)]=some (h.1.push (.slice A n c)):=by
 have hs:=h.2.1;rw [mv CF,hU (off:=0) (size:=32) rfl (by simpa [Value.cells]using hs) (by simp),hU (off:=32) (size:=1) rfl rfl (by
  rw [List.size_toArray,kX (by simp [Value.cells,hs])];simp)]
 simp only [Instr.fill,Option.some.injEq];apply Array.ext';unfold ga;simp [Value.cells,hs]
structure sN(w:World)(F:Nat->Prop)(r:Nat)(D:DG):Prop where
 ex: ∃(A:Option Addr) (c:Nat) (cs:Array Value) (t:TypeId),w.heap[r]? =some (.cells cs t (0,0))/\cs[0]? =some (.slice A D.length c)/\NS w F A D.length D
 gD: ¬F r
theorem sN.aD{r:Nat}{D:DG}(h:sN w F r D)(hk:Kept S w w')(hr: ¬S r)(hn: ∀k,F k-> ¬S k):sN w' F r D:=by
 obtain⟨A,c,cs,t,h1,h0,h2⟩:=h.ex;exact⟨⟨A,c,cs,t,hk.heap h1 hr,h0,h2.aD hk hn⟩,h.gD⟩
theorem sN.same{r:Nat}{D:DG}(h:sN w F r D)(hk:Kept Nil w w'):sN w' F r D:=h.aD hk (fun h=>h) (fun _ _ h=>h)
theorem sN.lt{r:Nat}{D:DG}(h:sN w F r D):r<w.heap.size:=by obtain⟨A,c,cs,t,h1,_⟩:=h.ex;exact aT h1
theorem sN.go{r:Nat}{D:DG}(h:sN w F r D){k:Option Addr->Nat->Nat->Prop}(hk: ∀A c,NS w F A D.length D->k A D.length c):
 ∃A n m,w.cell? ((⟨r,0,none⟩:Addr).add 0)=some (.slice A n m)/\k A n m:=by
 obtain⟨A,c,cs,t,h1,h0,h2⟩:=h.ex;exact⟨A,_,c,by rw [add_zero,ax h1];exact h0,hk A c h2⟩
theorem sN.go'{r:Nat}{D:DG}(h:sN w F r D)(kw:Kept Nil w w'){k:Option Addr->Nat->Nat->Prop}(hk: ∀A c,NS w F A D.length D->k A D.length c):
 ∃A n m,w'.cell? ((⟨r,0,none⟩:Addr).add 0)=some (.slice A n m)/\k A n m:=by
 obtain⟨A,c,cs,t,h1,h0,h2⟩:=h.ex;exact⟨A,_,c,by rw [add_zero,ax (kw.heap h1 (fun h=>h))];exact h0,hk A c h2⟩
theorem NS.ps'(h:NS w F A n l)(kw:Kept Nil w w'){i:Int}{nd:DN}(h0:0<=i)(hx:l[i.toNat]? =some nd){k:Option Addr->Nat->Nat->Prop}(hk: ∀pA pn pc,HS w pA pn nd.ps->k pA pn pc):
 (0<=i/\i<(n:Int))/\Is A fun a=> ∃pA pn pc,w'.cell? ((a.add (i.toNat*33)).add 32)=some (.slice pA pn pc)/\k pA pn pc:=by
 obtain⟨a,pA,pn,pc,rfl,_,_,h4,h5,h6⟩:=h.at_ _ nd hx;have:=(List.getElem?_eq_some_iff.1 hx).1;have:=h.len;exact⟨⟨h0,by omega⟩,pA,pn,pc,(kw.cell (h4 32 _ (oS _ _)) (fun h=>h)),hk _ _ _ h5⟩
def EM(D:DG)(h:HT):Int:=match pos h (ids D) 0 with|some j=>(j:Int)|none=> -1
theorem qJ{D:DG}{h:HT}:EM D h<0↔h∉ids D:=by
 unfold EM;rw [<-og (l:=ids D) (i:=0)];cases hp:pos h (ids D) 0<;>simp
theorem rC{D:DG}{h:HT}:EM D h>=0↔h∈ids D:=by
 have:= @qJ D h;constructor
 ·intro hg;exact Classical.byContradiction fun hn=>by have:=this.2 hn;omega
 ·intro hm;exact Classical.byContradiction fun hn=>this.1 (by omega) hm
theorem JP{D:DG}{h:HT}(hm:h∈ids D): ∃nd,EM D h>=0/\D[(EM D h).toNat]? =some nd/\nd.id=h:=by
 have h1:=rC.2 hm;unfold EM at*;cases hp:pos h (ids D) 0 with
 |none=>rw [hp]at h1;simp at h1
 |some j=>
  obtain⟨_,h2⟩:=tF hp;obtain⟨nd,h3,h4⟩:=Gf h2;exact⟨nd,by simp,by simpa using h3,h4⟩
theorem wR{D:DG}{i:Nat}{nd:DN}(h:D[i]? =some nd):(ids D).take (i+1)=(ids D).take i++ [nd.id]:=by
 rw [List.take_add_one,oW h];rfl
theorem vJ{h:HT}: ∀ {l:List HT} {i k:Nat},h∉l.take k->l[k]? =some h->pos h l i=some (i+k)
 | [],_,_,_,e=>by simp at e
 |x::l,i,0,_,e=>by
  simp only [List.getElem?_cons_zero,Option.some.injEq]at e;unfold pos;rw [if_pos e.symm,Nat.add_zero]
 |x::l,i,k+1,hn,e=>by
  simp only [List.getElem?_cons_succ]at e;rw [List.take_succ_cons,List.mem_cons,not_or]at hn;unfold pos;rw [if_neg hn.1,vJ (i:=i+1) hn.2 e]
  congr 1
  omega
variable{r:Nat}{D:DG}{K:Value->World->Prop}
theorem nY(H:sN w F r D)(hD:D.length<=1000000)(h:HT)(hK: ∀w',Kept Nil w w'->K (.int .i64 (EM D h)) w'):
 bk prog bu.id #[.pointer (some ⟨r,0,none⟩),.agg h.1] w K:=by
 refine bu.of ?_;unfold bu.W;intro w3;have k3:Kept Nil w w3:=(Kept.refl Nil w).alloc _;have oZ:w3.heap[w.heap.size]? =some (.cells h.1 ai (0,0)):=aH w _;clear_value w3;refine bu.b9 (I:=fun s w'=> ∃i:Nat,s=(0,(i:Int))/\i<=D.length/\Kept Nil w3 w'/\h∉(ids D).take i) (μ:=fun s _=>((D.length:Int)-s.2).toNat) (s:=(0,0)) ⟨0,rfl,Nat.zero_le _,Kept.refl _ _,by simp⟩ ?_;rintro s w' ⟨i,rfl,hi,kw,mo⟩;have kk:Kept Nil w w':=k3.trans kw (fun _ _ h=>h);refine(H.same kk).go fun A c r8=>?_;refine Split.dec (fun iP=>?_) (fun fV=>?_)
 ·simp only at iP
  have dN:i<D.length:=by omega
  obtain⟨nd,fy⟩: ∃nd,D[i]? =some nd:=⟨_,List.getElem?_eq_getElem dN⟩;intro w10;have nv:Kept Nil w3 w10:=kw.drew;have DD:Kept Nil w w10:=k3.trans nv (fun _ _ h=>h);clear_value w10;refine(H.same DD).go fun A c r8=>?_;refine r8.id (i:=(i:Int)) (by omega) (by rw [Int.toNat_natCast];exact fy) ⟨h.1,⟨h.2.1,Cells.bA (nv.heap oZ (fun h=>h))⟩,⟨nd.id.2.ints,h.2.ints⟩,?_⟩;rw [cQ];refine Split.dec (fun he=>?_) (fun he=>?_)
  ·have:=hK w10 DD
   unfold EM at this;rw [vJ (i:=0) mo (by rw [<-he];exact oW fy),Nat.zero_add]at this;exact this
  ·simp only
   rw [dG (n:=(i:Int)) (by omega) (by omega)];refine⟨(0,(i:Int)+1),rfl,⟨i+1,rfl,dN,nv,?_⟩,by simp only;omega⟩;rw [wR fy,List.mem_append,List.mem_singleton,not_or];exact⟨mo,fun e=>he e.symm⟩
 ·simp only at fV
  rw [aS,bu.cZ];rw [List.take_of_length_le (by rw [fI];omega)]at mo;have:=hK w' kk;unfold EM at this;rw [og.2 mo]at this;exact this
end
end Go.Proofs.YtnboahlopghcjaaGreatDoor
namespace Go.Proofs.YtnboahlopghcjaaGreatDoor
open Go.Proofs.Tryz
open Go Go.bS Go.RowKit
section
variable{w w':World}{F F' S:Nat->Prop}{A:Option Addr}{n c B:Nat}{l:List DN}{news:List Value}{r:Nat}{D:DG}{K:Value->World->Prop}
theorem Du(h:Row w B bI 33 A n c news)(hl:l.length=n)(hF: ∀k,bg A=some k->F k)
 (hc: ∀(i:Nat) nd,l[i]? =some nd-> ∃pA pn pc,HS w pA pn nd.ps/\(∀b,pA=some b->F b.block)/\ ∀(j:Nat) v,(nd.id.1.push (.slice pA pn pc))[j]? =some v->news[i*33+j]? =some v):NS w F A n l:=
 ⟨hl,fun i nd hi=>by
   obtain⟨pA,pn,pc,h1,h2,h3⟩:=hc i nd hi;have:=(List.getElem?_eq_some_iff.1 hi).1;obtain⟨b,rfl⟩:=Row.some h (by omega);obtain⟨_,cur,ox⟩:=Row.bA h (k:=b) rfl;exact⟨_,pA,pn,pc,rfl,aT ox,hF b rfl,fun j v hj=>by rw [kc];exact Row.cells h _ _ (h3 j v hj),h1,h2⟩⟩
theorem wu(h:NS w F A n l){cx:Nat}(h0:0<n)(hn:n<=100000):
 ∃A' c' w' news,(Builtin.append_ #[ck,ck] ck #[.slice none 0 0,.slice A n cx]).run prog w=.ok (.slice A' n c') w'/\
  Row w' w.heap.size bI 33 A' n c' news/\Kept Nil w w'/\
  ∀(i:Nat) nd,l[i]? =some nd-> ∃pA pn pc,HS w pA pn nd.ps/\(∀b,pA=some b->F b.block)/\ ∀(j:Nat) v,(nd.id.1.push (.slice pA pn pc))[j]? =some v->news[i*33+j]? =some v:=by
 obtain⟨news,e1,e2,e3,e4⟩:=h.cells n (Nat.le_refl _);have hlen:=h.len;obtain⟨nd,fy⟩: ∃nd,l[0]? =some nd:=⟨_,List.getElem?_eq_getElem (by omega)⟩;obtain⟨a,_,_,_,rfl,_⟩:=h.at_ _ nd fy;obtain⟨A',c',w',hr,eM,hg,hb⟩:=e8 (P:=prog) (t:=ck) (ty:=ck) (bytes:=56) wA (Row.nil w w.heap.size _ _) (a:=a) (m:=n) (cx:=cx) (news:=news) e1 (e2 a rfl) e3 (by omega) (by unfold maxLen;omega) (Nat.le_refl _);rw [Nat.zero_add]at hr eM;rw [List.nil_append]at eM;exact⟨A',c',w',news,hr,eM,Kept.dw (Kept.refl _ _) hg (fun k hk=>by cases hk),fun i nd hi=>e4 i nd (by have:=(List.getElem?_eq_some_iff.1 hi).1;omega) hi⟩
theorem wv(h:Row w B bI 33 A n c news)(hn:n<=100000)(hB:B<=w.heap.size){b:Nat}{arr:Array Value}(hb:w.heap[b]? =some (.cells arr bI (0,0)))(hs:arr.size=33)(h1: ∀u∈arr.toList,u.oneCell'=true):
 ∃A' c' w',(Builtin.append_ #[ck,ck] ck #[.slice A n c,.slice (some ⟨b,0,none⟩) 1 1]).run prog w=.ok (.slice A' (n+1) c') w'/\
  Row w' B bI 33 A' (n+1) c' (news++arr.toList)/\w.grownBy w' (bg A):=by
 obtain⟨A',c',w',hr,eM,hg,hb⟩:=e8 (P:=prog) (t:=ck) (ty:=ck) (bytes:=56) wA h (a:=⟨b,0,none⟩) (m:=1) (cx:=1) (news:=arr.toList) (by simpa using hs)
  (fun j u hj=>by rw [a8,Nat.zero_add,ax hb];simpa using hj) h1 (by omega) (by unfold maxLen;omega) hB
 exact⟨A',c',w',hr,eM,hg⟩
theorem Iq{nd:DN}{pA:Option Addr}{pn pc:Nat}(h:Row w B bI 33 A (n+1) c (news++(nd.id.1.push (.slice pA pn pc)).toList))(xo:news.length=n*33)(hl:l.length=n)(hF: ∀k,bg A=some k->F k)
 (hc: ∀(i:Nat) nd,l[i]? =some nd-> ∃pA pn pc,HS w pA pn nd.ps/\(∀b,pA=some b->F b.block)/\ ∀(j:Nat) v,(nd.id.1.push (.slice pA pn pc))[j]? =some v->news[i*33+j]? =some v)
 (hp:HS w pA pn nd.ps) (HO: ∀b,pA=some b->F b.block):NS w F A (n+1) (l++ [nd]):=by
 refine Du h (by simp [hl]) hF fun i md hi=>?_;rw [List.getElem?_append]at hi;split at hi
 ·obtain⟨qA,qn,qc,h1,h2,h3⟩:=hc i md hi
  exact⟨qA,qn,qc,h1,h2,fun j v hj=>by
   have:=h3 j v hj;rw [List.getElem?_append_left (List.getElem?_eq_some_iff.1 this).1];exact this⟩
 ·rename_i fV
  have DZ:i=n/\md=nd:=by
   cases hk:i-l.length with
   |zero=>rw [hk]at hi;exact⟨by omega,by simpa using hi.symm⟩
   |succ k=>rw [hk]at hi;simp at hi
  obtain⟨rfl,rfl⟩:=DZ;exact⟨pA,pn,pc,hp,HO,fun j v hj=>by
   rw [List.getElem?_append_right (by omega),xo,show i*33+j-i*33=j by omega,Array.getElem?_toList];exact hj⟩
theorem NS.same(h:NS w F A n l)(hk:Kept Nil w w'):NS w' F A n l:=h.aD hk fun _ _ h=>h
theorem sN.mono(h:sN w F r D)(hf: ∀k,F k->F' k)(hr: ¬F' r):sN w F' r D:=by
 obtain⟨A,c,cs,t,h1,h0,h2⟩:=h.ex;exact⟨⟨A,c,cs,t,h1,h0,h2.mono hf⟩,hr⟩
theorem xY(h:HT)(A:Option Addr)(n c:Nat): ∀u∈(h.1.push (.slice A n c)).toList,u.oneCell'=true:=fun u hu=>by
 simp only [Array.toList_push,List.mem_append,List.mem_singleton]at hu;rcases hu with hu|rfl
 ·exact h.2.one u hu
 ·rfl
theorem BQ(H:sN w F r D)(W:jj D)(hD:D.length<=10000){h:HT}{lp:List HT}{A:Option Addr}{n c:Nat}(hl:HS w A n lp)(hn:n<=400000)
 (hK: ∀w',sN w' (fun k=>F k\/(w.heap.size<=k/\k<w'.heap.size)) r (lI D h lp)->Kept (· =r) w w'->K (.int .i64 (dg D h lp)) w'):
 bk prog bn.id #[.pointer (some ⟨r,0,none⟩),.agg h.1,.slice A n c] w K:=by
 have XT:=H.lt;have hlen:=hl.len;have mo: ∀w',Kept Nil w w'-> ∀e,dg D h lp=e->e≠0->K (.int .i64 e) w':=fun w' k e he fE=>by
  have:=hK w' ?_ (k.mono fun _ _ h=>h.elim)
  ·rw [he]at this;exact this
  ·unfold lI
   rw [if_neg (by rw [he];exact fE)];exact(H.same k).mono (fun _ h=>.inl h) (fun e=>e.elim H.gD (fun h=>absurd h.1 (by omega)))
 refine bn.of ?_;unfold bn.W;intro w4;have k4:Kept Nil w w4:=(Kept.refl _ _).alloc _;have qN:w4.heap[w.heap.size]? =some (.cells h.1 ai (0,0)):=aH w _;clear_value w4;refine⟨h.1,⟨h.2.1,Cells.bA qN⟩,nY (H.same k4) (by omega) h fun w7 k7=>⟨_,rfl,Split.dec (fun fV=>?_) (fun Nl=>?_)⟩⟩
 ·refine mo w7 (k4.trans k7 (fun _ _ h=>h)) 7 ?_ (by omega)
  unfold dg;rw [if_pos (rC.1 fV)]
 have wV:h∉ids D:=fun hm=>Nl (rC.2 hm);have z6:Kept Nil w w7:=k4.trans k7 (fun _ _ h=>h);refine pz (hl.same z6) hn fun ER HZ w10 BP nv=>⟨ER,_,HZ,rfl,?_⟩;have DD:Kept Nil w w10:=z6.trans nv (fun _ _ h=>h);have Cl:(df lp).length<=n:=by have:=oN lp;omega
 by_cases h0:(df lp).length=0
 ·refine Split.yes (by simp [h0]) ?_
  refine mo w10 DD 9 ?_ (by omega);unfold dg;rw [if_neg wV,if_pos (.inl h0)]
 refine Split.no (beq_eq_false_iff_ne.2 (by omega)) ?_;by_cases h1:(df lp).length≠n
 ·refine Split.yes (bne_iff_ne.2 (by omega)) ?_
  refine mo w10 DD 9 ?_ (by omega);unfold dg;rw [if_neg wV,if_pos (.inr (by omega))]
 replace h1:(df lp).length=n:=by omega
 refine Split.no (by rw [h1];simp) ?_;refine bn.b9 (I:=fun s w'=> ∃i:Nat,s=(0,(i:Int))/\i<=(df lp).length/\(∀p∈(df lp).take i,p∈ids D)/\Kept Nil w10 w') (μ:=fun s _=>(((df lp).length:Int)-s.2).toNat) (s:=(0,0)) ⟨0,rfl,Nat.zero_le _,by simp,Kept.refl _ _⟩ ?_;rintro s w' ⟨i,rfl,hi,cP,kw⟩;have kk:Kept Nil w w':=DD.trans kw (fun _ _ h=>h);have WA:bQ w' w7.heap.size ER (df lp).length HZ (df lp):=Row.aD BP kw (fun _ _ h=>h);refine Split.dec (fun iP=>?_) (fun fV=>?_)
 ·simp only at iP
  have dN:i<(df lp).length:=by omega
  obtain⟨x,hx⟩: ∃x,(df lp)[i]? =some x:=⟨_,List.getElem?_eq_getElem dN⟩;refine WA.hs.load (i:=(i:Int)) (by omega) hx (nY (H.same kk) (by omega) x fun w2 k2=>⟨_,rfl,Split.dec (fun yG=>?_) (fun iK=>?_)⟩)
  ·have U2:=qJ.1 yG
   refine mo w2 (kk.trans k2 (fun _ _ h=>h)) 6 ?_ (by omega);unfold dg;rw [if_neg wV,if_neg (by omega),if_pos ⟨x,List.mem_of_getElem? hx,U2⟩]
  ·simp only
   rw [dG (n:=(i:Int)) (by omega) (by omega)];refine⟨(0,(i:Int)+1),rfl,⟨i+1,rfl,dN,fun p hp=>?_,kw.trans k2 (fun _ _ h=>h)⟩,by simp only;omega⟩;rcases(bE hx).1 hp with hp|rfl
   ·exact cP p hp
   ·exact rC.1 (by omega)
 ·simp only at fV
  rw [List.take_of_length_le (by omega)]at cP;have Tg:dg D h lp=0:=by
   unfold dg;rw [if_neg wV,if_neg (by omega),if_neg (fun⟨p,hp,I6⟩=>I6 (cP p hp))]
  have hD':lI D h lp=D++ [⟨h,df lp⟩]:=by unfold lI;rw [if_pos Tg]
  rw [Tg,hD']at hK;have Lp:=W.pos;rw [aS,bn.cZ];unfold bn.cK;intro BA;have Mr:Kept Nil w BA:=kk.drew;have Ga:Kept Nil w10 BA:=kw.drew;have afi:BA.heap=w'.heap:=rfl;clear_value BA;have TA:BA.heap[w.heap.size]? =some (.cells h.1 ai (0,0)):=(Ga.heap (nv.heap (k7.heap qN (fun h=>h)) (fun h=>h)) (fun h=>h));obtain⟨A,c,ah5,t27,Gk,Td,r8⟩:=(H.same Mr).ex;refine⟨A,_,c,by rw [add_zero,ax Gk];exact Td,h.1,⟨h.2.1,Cells.bA TA⟩,?_⟩;rw [Ei];have kR:(h.1.push (.slice ER (df lp).length HZ)).size=33:=by rw [Array.size_push,h.2.1]
  have agn: ∀ {v},Kept Nil w v->w.heap.size<=v.heap.size:=fun k=>k.size;have aaq: ∀b,ER=some b->w.heap.size<=b.block:=fun b hb=>Nat.le_trans z6.size (Row.bA BP (k:=b.block) (by rw [hb];rfl)).1;have Jo: ∀(A':Option Addr) (c':Nat) (v:World) (news:List Value),Row v BA.heap.size bI 33 A' (D.length+1) c' (news++(h.1.push (.slice ER (df lp).length HZ)).toList)->news.length=D.length*33->Kept Nil BA v->
   (∀(i:Nat) nd,D[i]? =some nd-> ∃pA pn pc,HS v pA pn nd.ps/\(∀b,pA=some b->F b.block)/\ ∀(j:Nat) u,(nd.id.1.push (.slice pA pn pc))[j]? =some u->news[i*33+j]? =some u)->
   Wr v ((⟨r,0,none⟩:Addr).add 0)/\K (.int .i64 0) (v.setCell ((⟨r,0,none⟩:Addr).add 0) (.slice A' (D.length+1) c')):=by
   intro A' c' v news eM xo kv uh;have Mf:Kept Nil w v:=Mr.trans kv (fun _ _ h=>h);obtain⟨A0,c0,cs0,t0,iB,ZB,_⟩:=(H.same Mf).ex;have K3:=(Array.getElem?_eq_some_iff.1 ZB).1;rw [add_zero];have k3:Kept (· =r) v (v.setCell ⟨r,0,none⟩ (.slice A' (D.length+1) c')):=Kept.setCell (S:=fun k=>k=r) (Kept.refl _ v) (p:=⟨r,0,none⟩) (fun _=>rfl) _;refine⟨dO iB K3,hK _ ⟨⟨A',c',cs0.setIfInBounds 0 (.slice A' (D.length+1) c'),t0,?_,?_,?_⟩,fun e=>e.elim H.gD (fun h=>absurd h.1 (by omega))⟩ ((Mf.mono (S':=fun k=>k=r) (fun _ _ h=>h.elim)).trans k3 (fun _ _ h=>h))⟩
   ·rw [cR iB 0]
   ·rw [List.length_append]
    simp [K3]
   ·have An:=k3.size
    have T6: ∀b,ER=some b->b.block<v.heap.size:=fun b hb=>by
     obtain⟨_,cur,hc⟩:=Row.bA BP (k:=b.block) (by rw [hb];rfl);have:=aT hc;have:=Ga.size;have:=kv.size;omega
    have Ng:=Iq (F:=fun k=>F k\/(w.heap.size<=k/\k<(v.setCell ⟨r,0,none⟩ (.slice A' (D.length+1) c')).heap.size)) (nd:=⟨h,df lp⟩) eM xo rfl (fun k hk=>by
     obtain⟨h1,cur,hc⟩:=Row.bA eM hk;have:=aT hc;have:=Mr.size;exact .inr ⟨by omega,by omega⟩) (fun i nd hi=>by
     obtain⟨pA,pn,pc,h1,h2,h3⟩:=uh i nd hi;exact⟨pA,pn,pc,h1,fun b hb=>.inl (h2 b hb),h3⟩) ((BP.hs.same Ga).same kv) (fun b hb=>.inr ⟨aaq b hb,by have:=T6 b hb;omega⟩)
    have:=Ng.aD k3 (fun k hk e=>by
     subst e;rcases hk with hk|hk
     ·exact H.gD hk
     ·omega)
    rw [List.length_append];exact this
  refine⟨?_,?_⟩
  ·obtain⟨A1,c1,qM,news,kF,mc,Ad,uh⟩:=wu r8 (cx:=c) Lp (by omega)
   refine⟨A1,_,c1,qM,kF,⟨h.1,rfl,h.2.1,Cells.bA (Ad.heap TA (fun h=>h))⟩,kR,?_⟩;intro mG;have Xz:mG=qM.alloc (.cells (h.1.push (.slice ER (df lp).length HZ)) bI):=by
    show qM.alloc (.cells ((h.1.push (.slice ER (df lp).length HZ)).toList++ []).toArray bI)=_
    rw [List.append_nil,Array.toArray_toList]
   have yr:Kept Nil qM mG:=(Kept.refl _ _).alloc _;have Ty:mG.heap[qM.heap.size]? =some (.cells (h.1.push (.slice ER (df lp).length HZ)) bI (0,0)):=by rw [Xz];exact aH qM _
   clear_value mG;have xU:=Row.aD mc yr (fun _ _ h=>h);obtain⟨A2,c2,sn,ji,fX,Jn⟩:=wv xU (by omega) (Nat.le_trans Ad.size yr.size) Ty kR (xY _ _ _ _);have sq:Kept Nil BA sn:=Kept.dw (Ad.trans yr (fun _ _ h=>h)) Jn (fun k hk=>(Row.bA mc hk).1);refine⟨A2,_,c2,sn,ji,?_⟩;exact Jo A2 c2 sn news fX (Row.len mc) sq (fun i nd hi=>by
    obtain⟨pA,pn,pc,h1,h2,h3⟩:=uh i nd hi;exact⟨pA,pn,pc,h1.same sq,h2,h3⟩)
  ·refine⟨kR,?_⟩
   intro Ex;have Xy:Ex=BA.alloc (.cells (h.1.push (.slice ER (df lp).length HZ)) bI):=by
    show BA.alloc (.cells ((h.1.push (.slice ER (df lp).length HZ)).toList++ []).toArray bI)=_
    rw [List.append_nil,Array.toArray_toList]
   have FU:Kept Nil BA Ex:=(Kept.refl _ _).alloc _;have Jr:Ex.heap[BA.heap.size]? =some (.cells (h.1.push (.slice ER (df lp).length HZ)) bI (0,0)):=by rw [Xy];exact aH BA _
   clear_value Ex;refine⟨by rw [add_zero,ax (FU.heap Gk (fun h=>h))];exact Td,?_⟩;obtain⟨A1,c1,Bz,news,kF,mc,Mq,uh⟩:=wu (r8.same FU) (cx:=c) Lp (by omega);have Tw:=Mq.heap Jr (fun h=>h);obtain⟨A2,c2,EY,ji,fX,Jn⟩:=wv mc (by omega) Mq.size Tw kR (xY _ _ _ _);have QT:Kept Nil Ex EY:=Kept.dw Mq Jn (fun k hk=>(Row.bA mc hk).1);have k43:Kept Nil BA EY:=FU.trans QT (fun _ _ h=>h);refine⟨A1,_,c1,Bz,kF,A2,_,c2,EY,ji,?_⟩;exact Jo A2 c2 EY news (Row.base fX fun k hk=>Nat.le_trans FU.size (Row.bA fX hk).1) (Row.len mc) k43 (fun i nd hi=>by
    obtain⟨pA,pn,pc,h1,h2,h3⟩:=uh i nd hi;exact⟨pA,pn,pc,h1.same QT,h2,h3⟩)
end
end Go.Proofs.YtnboahlopghcjaaGreatDoor
namespace Go.Proofs.YtnboahlopghcjaaGreatDoor
open Go.Proofs.Tryz
open Go Go.bS Go.RowKit
theorem qZ: ∀ {l m:List HT},l.Nodup->(∀x∈l,x∈m)->l.length<=m.length
 | [],_,_,_=>Nat.zero_le _
 |x::l,m,hn,h=>by
  rw [List.nodup_cons]at hn;have hx:=h x (by simp);have:=qZ (l:=l) (m:=m.erase x) hn.2 (fun y hy=>by
   have fE:y≠x:=fun e=>hn.1 (e▸hy);exact(List.mem_erase_of_ne fE).2 (h y (by simp [hy])))
  rw [List.length_erase_of_mem hx]at this;have iK:0<m.length:=List.length_pos_of_mem hx;simp only [List.length_cons];omega
structure PB(w0 w':World)(D:DG)(l out:List HT)(A1:Option Addr)(c1:Nat)(A2:Option Addr)(c2:Nat):Prop where
 r1:bQ w' w0.heap.size A1 out.length c1 out
 r2:bQ w' w0.heap.size A2 (l.length+out.length) c2 (l++out)
 ap: ∀k,bg A1=some k->bg A2≠some k
 nd:out.Nodup
 En: ∀x∈out,∃h∈l,eT D x h
 kp:Kept Nil w0 w'
section
variable{w w' lG:World}{F S:Nat->Prop}{D:DG}{l out:List HT}{A1 A2:Option Addr}{c1 c2 r:Nat}{K:Value->World->Prop}
theorem PB.same(h:PB w w' D l out A1 c1 A2 c2)(k:Kept Nil w' lG):PB w lG D l out A1 c1 A2 c2:=
 ⟨Row.aD h.r1 k (fun _ _ h=>h),Row.aD h.r2 k (fun _ _ h=>h),h.ap,h.nd,h.En,h.kp.trans k (fun _ _ h=>h)⟩
theorem PB.len(h:PB w w' D l out A1 c1 A2 c2)(W:jj D):out.length<=D.length:=by
 rw [<-fI D];exact qZ h.nd fun x hx=>by obtain⟨_,_,ha⟩:=h.En x hx;exact(ha.mem W).1
theorem iW(w:World)(x:HT):HS (w.alloc (.cells (x.1.toList++ []).toArray ai)) (some ⟨w.heap.size,0,none⟩) 1 [x]:=by
 refine HS.one (t:=ai) (fr:=(0,0)) ?_;rw [List.append_nil,Array.toArray_toList];exact aH w _
theorem PB.add(h:PB w w' D l out A1 c1 A2 c2){x:HT}(hx:x∉out)(ha: ∃h∈l,eT D x h)(hb:l.length+out.length<=500000):
 ∃HB JM v,(Builtin.append_ #[ay,ay] ay #[.slice A1 out.length c1,.slice (some ⟨w'.heap.size,0,none⟩) 1 1]).run prog (w'.alloc (.cells (x.1.toList++ []).toArray ai))=.ok (.slice HB (out.length+1) JM) v/\Kept (fun k=>w.heap.size<=k) w' v/\
 ∃EO Bd u,(Builtin.append_ #[ay,ay] ay #[.slice A2 (l.length+out.length) c2,.slice (some ⟨v.heap.size,0,none⟩) 1 1]).run prog (v.alloc (.cells (x.1.toList++ []).toArray ai))=.ok (.slice EO (l.length+out.length+1) Bd) u/\
  PB w u D l (out++ [x]) HB JM EO Bd:=by
 have hkw:=h.kp.size;have k1:Kept Nil w' (w'.alloc (.cells (x.1.toList++ []).toArray ai)):=(Kept.refl _ _).alloc _;have ow:=iW w' x;generalize w'.alloc (.cells (x.1.toList++ []).toArray ai)=w1 at k1 ow⊢;have r1:bQ w1 w.heap.size A1 out.length c1 out:=Row.aD h.r1 k1 (fun _ _ h=>h);have afQ:=k1.size;obtain⟨HB,JM,v,kF,mc,hg1,xq⟩:=cD (cx:=1) ay r1 ow (by omega) (by omega);have WX:Kept (fun k=>bg A1=some k) w1 v:=Kept.grown (Kept.refl _ _) hg1 (fun k hk _=>hk);have hA1: ∀k,bg A1=some k->w.heap.size<=k/\k<w'.heap.size:=fun k hk=>by
  obtain⟨h1,cur,hc⟩:=Row.bA h.r1 hk;exact⟨h1,aT hc⟩
 have T5: ∀k,bg A2=some k->w.heap.size<=k/\k<w'.heap.size:=fun k hk=>by
  obtain⟨h1,cur,hc⟩:=Row.bA h.r2 hk;exact⟨h1,aT hc⟩
 have kv:Kept (fun k=>w.heap.size<=k) w' v:=(k1.mono (fun _ _ h=>h.elim)).trans WX (fun k _ e=>(hA1 k e).1);refine⟨HB,JM,v,kF,kv,?_⟩;have k2:Kept Nil v (v.alloc (.cells (x.1.toList++ []).toArray ai)):=(Kept.refl _ _).alloc _;have vf:=iW v x;generalize v.alloc (.cells (x.1.toList++ []).toArray ai)=w2 at k2 vf⊢;have r2v:bQ v w.heap.size A2 (l.length+out.length) c2 (l++out):=Row.aD (Row.aD h.r2 k1 (fun _ _ h=>h)) WX (fun k hk e=>h.ap k e hk);have r2:bQ w2 w.heap.size A2 (l.length+out.length) c2 (l++out):=Row.aD r2v k2 (fun _ _ h=>h);have M1:=WX.size;have afN:=k2.size;obtain⟨EO,Bd,u,ji,fX,Jn,lK⟩:=cD (cx:=1) ay r2 vf (by omega) (by omega);have ku:Kept (fun k=>bg A2=some k) w2 u:=Kept.grown (Kept.refl _ _) Jn (fun k hk _=>hk);have aap: ∀k,bg HB=some k->k<v.heap.size:=fun k hk=>by
  obtain⟨_,cur,hc⟩:=Row.bA mc hk;exact aT hc
 have TG: ∀k,bg HB=some k->bg A2≠some k:=fun k hk e=>by
  rcases xq k hk with h'|h'
  ·exact h.ap k h' e
  ·have:=(T5 k e).2;omega
 have Qc:bQ u w.heap.size HB (out.length+1) JM (out++ [x]):=Row.aD (Row.aD mc k2 (fun _ _ h=>h)) ku (fun k hk e=>TG k hk e);refine⟨EO,Bd,u,ji,?_⟩;refine⟨?_,?_,fun k hk e=>?_,?_,fun y hy=>?_,?_⟩
 ·rw [List.length_append];exact Qc
 ·rw [List.length_append,<-List.append_assoc,List.length_singleton,<-Nat.add_assoc];exact fX
 ·rcases lK k e with h'|h'
  ·exact TG k hk h'
  ·have:=aap k hk;omega
 ·rw [List.nodup_append]
  exact⟨h.nd,by simp,fun u hu v hv e=>hx (by rw [List.mem_singleton]at hv;rw [<-hv,<-e];exact hu)⟩
 ·rw [List.mem_append,List.mem_singleton]at hy
  rcases hy with hy|rfl
  ·exact h.En y hy
  ·exact ha
 ·exact((h.kp.trans kv (fun k hk e=>absurd hk (by omega))).trans k2 (fun _ _ h=>h)).trans ku (fun k hk e=>absurd (T5 k e).1 (by omega))
theorem Dq(W:jj D){l out:List HT}(ha: ∀x∈out,∃h∈l,eT D x h)(hc: ∀h∈l++out,∀p,mS D p h->p∈out):df out=dP D l:=by
 refine BT fun a=>⟨fun h=>?_,fun⟨_,h,hl,ZU⟩=>?_⟩
 ·obtain⟨b,hb,lr⟩:=ha a h
  exact⟨(lr.mem W).1,b,hb,lr⟩
 ·have key: ∀ {a h},eT D a h->h∈l++out->a∈out:=by
   intro a h ZU
   induction ZU with
   |one hp=>exact fun hm=>hc _ hm _ hp
   |more _ hp ih=>exact fun hm=>ih (by rw [List.mem_append];exact .inr (hc _ hm _ hp))
  exact key ZU (by rw [List.mem_append];exact .inl hl)
theorem xX(H:sN w F r D)(W:jj D)(hD:D.length<=10000){A:Option Addr}{n c:Nat}(hl:HS w A n l)(hn:n<=10000)
 (hK: ∀A' c' w',bQ w' w.heap.size A' (dP D l).length c' (dP D l)->Kept Nil w w'->K (.slice A' (dP D l).length c') w'):
 bk prog aC.id #[.pointer (some ⟨r,0,none⟩),.slice A n c] w K:=by
 refine aC.of ?_;unfold aC.W;have hlen:=hl.len;obtain⟨A4,c4,w4,uP,iO,Cw,qN⟩:=cD (cx:=c) ay (bQ.nil w w.heap.size) hl (by omega) (Nat.le_refl _);rw [Nat.zero_add]at uP iO;rw [List.nil_append]at iO;have k4:Kept Nil w w4:=Kept.dw (Kept.refl _ _) Cw (fun k hk=>by cases hk);refine⟨A4,n,c4,w4,uP,?_⟩;refine aC.b9 (I:=fun s w'=> ∃(i:Nat) (out:List HT) (A1:Option Addr) (c1:Nat) (A2:Option Addr) (c2:Nat),s=(A1,out.length,c1,A2,n+out.length,c2,(i:Int))/\PB w w' D l out A1 c1 A2 c2/\i<=n+out.length/\ ∀h∈(l++out).take i,∀p,mS D p h->p∈out)
  (μ:=fun s _=>((n:Int)+D.length-s.2.2.2.2.2.2).toNat) (s:=(none,0,0,A4,n,c4,0))
  ⟨0,[],none,0,A4,c4,by simp,⟨bQ.nil _ _,by simpa [hlen]using iO,(fun k hk=>by cases hk),List.Pairwise.nil,by simp,k4⟩,by omega,by simp⟩ ?_
 rintro s w' ⟨i,out,A1,c1,A2,c2,rfl,Ax,hi,pW⟩;have hol:=Ax.len W;have ji:=Ax.r2;rw [hlen]at ji;refine Split.dec (fun iP=>?_) (fun fV=>?_)
 ·simp only at iP
  have dN:i<n+out.length:=by omega
  obtain⟨h,hh⟩: ∃h,(l++out)[i]? =some h:=⟨_,List.getElem?_eq_getElem (by simp;omega)⟩;refine ji.hs.load (i:=(i:Int)) (by omega) hh (nY (H.same Ax.kp) (by omega) h fun kr sV=>⟨_,rfl,Split.dec (fun yG=>?_) (fun iK=>?_)⟩)
  ·simp only
   rw [dG (n:=(i:Int)) (by omega) (by omega)];refine⟨(A1,out.length,c1,A2,n+out.length,c2,(i:Int)+1),rfl,⟨i+1,out,A1,c1,A2,c2,rfl,Ax.same sV,by omega,fun x hx p hp=>?_⟩,by simp only;omega⟩;rcases(bE hh).1 hx with hx|rfl
   ·exact pW x hx p hp
   ·exact absurd (eT.mem W (.one hp)).2 (qJ.1 yG)
  ·have gJ:h∈ids D:=rC.1 (by omega)
   obtain⟨nd,h1,h2,h3⟩:=JP gJ;have Co:=Ax.same sV;have H13:=H.same Co.kp;have AK: ∃b∈l,h=b\/eT D h b:=by
    have hm:=List.mem_of_getElem? hh;rw [List.mem_append]at hm;rcases hm with hm|hm
    ·exact⟨h,hm,.inl rfl⟩
    ·obtain⟨b,hb,lr⟩:=Ax.En h hm
     exact⟨b,hb,.inr lr⟩
   have kO: ∀p,mS D p h↔p∈nd.ps:=fun p=>by
    constructor
    ·rintro⟨md,vZ,e,hp⟩
     obtain⟨j,hj⟩:=List.mem_iff_getElem?.1 vZ;have:=W.inj hj h2 (by rw [e,h3]);subst this;rw [h2]at hj;cases hj;exact hp
    ·exact fun hp=>⟨nd,List.mem_of_getElem? h2,h3,hp⟩
   have pV:nd.ps.length<=D.length:=by
    rw [<-fI D];exact qZ (W.ss nd (List.mem_of_getElem? h2)).nodup fun x hx=>(eT.mem W (.one ((kO x).2 hx))).1
   refine H.go' Co.kp fun A c r8=>r8.ps' Co.kp h1 h2 fun pA pn pc pM=>?_;have I6:=pM.len;refine aC.gI (I:=fun s w'=> ∃(k:Nat) (lP:List HT) (A1:Option Addr) (c1:Nat) (A2:Option Addr) (c2:Nat),s=(A1,lP.length,c1,A2,n+lP.length,c2,(k:Int))/\PB w w' D l lP A1 c1 A2 c2/\k<=pn/\(∃m,lP=out++m)/\(∀p∈nd.ps.take k,p∈lP))
    (μ:=fun s _=>((pn:Int)-s.2.2.2.2.2.2).toNat) (s:=(A1,out.length,c1,A2,n+out.length,c2,0)) ⟨0,out,A1,c1,A2,c2,rfl,Co,Nat.zero_le _,⟨[],by simp⟩,by simp⟩ ?_
   rintro s w1 ⟨k,lP,B1,d1,B2,d2,rfl,hq,hk,⟨m,hm⟩,fh⟩;have af5:=hq.len W;refine Split.dec (fun Nu=>?_) (fun NB=>?_)
   ·simp only at Nu
    have AD:k<pn:=by omega
    obtain⟨p,hp⟩: ∃p,nd.ps[k]? =some p:=⟨_,List.getElem?_eq_getElem (by omega)⟩;have RJ:=List.mem_of_getElem? hp;refine(pM.same hq.kp).load (i:=(k:Int)) (by omega) hp (wF p hq.r1.hs (by simp only;omega) fun vB DJ=>⟨_,rfl,?_⟩);have I4:=hq.same DJ;have af1:(nd.ps.length:Int)<=10000:=by omega
    by_cases vi:p∈lP
    ·refine Split.no (by rw [decide_eq_true vi];rfl) ?_
     simp only;rw [dG (n:=(k:Int)) (by omega) (by omega)];refine⟨(B1,lP.length,d1,B2,n+lP.length,d2,(k:Int)+1),rfl,⟨k+1,lP,B1,d1,B2,d2,rfl,I4,AD,⟨m,hm⟩,fun q yF=>?_⟩,by simp only;omega⟩;rcases(bE hp).1 yF with yF|rfl
     ·exact fh q yF
     ·exact vi
    ·refine Split.yes (by rw [decide_eq_false vi];rfl) ?_
     have TH: ∃b∈l,eT D p b:=by
      obtain⟨b,hb,e|e⟩:=AK
      ·subst e;exact⟨_,hb,.one ((kO p).2 RJ)⟩
      ·exact⟨b,hb,eT.trans (.one ((kO p).2 RJ)) e⟩
     obtain⟨HB,JM,v,kF,kv,EO,Bd,u,I2,hqu⟩:=I4.add vi TH (by omega);rw [hlen]at I2;refine(pM.same I4.kp).load (i:=(k:Int)) (by omega) hp ⟨p.2.1,?_⟩;refine⟨HB,_,JM,v,kF,?_⟩;have Mf:Kept Nil w v:=I4.kp.trans kv (fun k hk e=>absurd hk (by omega));refine(pM.same Mf).load (i:=(k:Int)) (by omega) hp ⟨p.2.1,?_⟩;refine⟨EO,_,Bd,u,I2,?_⟩;simp only;rw [dG (n:=(k:Int)) (by omega) (by omega)];have e1:lP.length+1=(lP++ [p]).length:=by simp
     rw [e1,show n+lP.length+1=n+(lP++ [p]).length by simp;omega];refine⟨(HB,(lP++ [p]).length,JM,EO,n+(lP++ [p]).length,Bd,(k:Int)+1),rfl,⟨k+1,lP++ [p],HB,JM,EO,Bd,rfl,hqu,AD,⟨m++ [p],by rw [hm];simp⟩,fun q yF=>?_⟩,by simp only;omega⟩;rw [List.mem_append,List.mem_singleton];rcases(bE hp).1 yF with yF|rfl
     ·exact .inl (fh q yF)
     ·exact .inr rfl
   ·simp only at NB
    rw [aS,aC.jF];unfold aC.iu;rw [dG (n:=(i:Int)) (by omega) (by omega)];rw [List.take_of_length_le (by omega)]at fh;refine⟨(B1,lP.length,d1,B2,n+lP.length,d2,(i:Int)+1),rfl,⟨i+1,lP,B1,d1,B2,d2,rfl,hq,by rw [hm];simp;omega,fun x hx q Gg=>?_⟩,by simp only;omega⟩;have Y4:(l++lP)[i]? =some h:=by
     rw [hm,<-List.append_assoc,List.getElem?_append_left (List.getElem?_eq_some_iff.1 hh).1];exact hh
    rcases(bE Y4).1 hx with hx|rfl
    ·have U3:x∈(l++out).take i:=by
      rw [hm,<-List.append_assoc,List.take_append_of_le_length (by simp;omega)]at hx;exact hx
     rw [hm,List.mem_append];exact .inl (pW x U3 q Gg)
    ·exact fh q ((kO q).1 Gg)
 ·simp only at fV
  have YY:i=n+out.length:=by omega
  rw [aS,aC.cZ];rw [List.take_of_length_le (by simp;omega)]at pW;have e:=Dq W Ax.En pW;refine pz Ax.r1.hs (by simp only;omega) fun A' c' w2 row k2=>⟨A',_,c',rfl,?_⟩;rw [e]at row⊢;exact hK A' c' w2 (Row.base row fun b hb=>Nat.le_trans Ax.kp.size (Row.bA row hb).1) (Ax.kp.trans k2 (fun _ _ h=>h))
end
end Go.Proofs.YtnboahlopghcjaaGreatDoor
namespace Go.Proofs.YtnboahlopghcjaaGreatDoor
open Go.Proofs.Tryz
open Go Go.bS Go.RowKit
section
variable{w w' lG:World}{F S:Nat->Prop}{D:DG}{is:HT->Prop}{i:Nat}{l out:List HT}{A:Option Addr}{c r:Nat}{K:Value->World->Prop}
theorem pB(H:sN w F r D)(W:jj D)(hD:D.length<=10000)(a b:HT)(hK: ∀w' (x:Bool),(x=true↔eT D a b)->Kept Nil w w'->K (.bool x) w'):
 bk prog dC.id #[.pointer (some ⟨r,0,none⟩),.agg a.1,.agg b.1] w K:=by
 refine dC.of ?_;unfold dC.W;intro w4 w5 w6;have k4:Kept Nil w w4:=(Kept.refl _ _).alloc _;have vn:w4.heap[w.heap.size]? =some (.cells a.1 ai (0,0)):=aH w _;have k5:Kept Nil w4 w5:=(Kept.refl _ _).alloc _;have lU:w5.heap[w4.heap.size]? =some (.cells b.1 ai (0,0)):=aH w4 _;have k6:Kept Nil w5 w6:=(Kept.refl _ _).drew;have vm:=k6.heap (k5.heap vn (fun h=>h)) (fun h=>h);have nK:=k6.heap lU (fun h=>h);have WT:Kept Nil w w6:=(k4.trans k5 (fun _ _ h=>h)).trans k6 (fun _ _ h=>h);clear_value w6;refine⟨a.1,⟨a.2.1,Cells.bA vm⟩,nY (H.same WT) (by omega) a fun w9 k9=>⟨_,rfl,Split.dec (fun fV=>?_) (fun Nl=>?_)⟩⟩
 ·have ha9:=k9.heap vm (fun h=>h)
  have Qx:Kept Nil w w9:=WT.trans k9 (fun _ _ h=>h);refine⟨b.1,⟨b.2.1,Cells.bA (k9.heap nK (fun h=>h))⟩,a.1,⟨a.2.1,Cells.bA ha9⟩,b.2.1,?_⟩;intro kr;have sV:Kept Nil w9 kr:=(Kept.refl _ _).alloc _;have iN:HS kr (some ⟨w9.heap.size,0,none⟩) 1 [b]:=iW w9 b;clear_value kr;have QB:Kept Nil w kr:=Qx.trans sV (fun _ _ h=>h);have TJ:=sV.heap ha9 (fun h=>h);refine⟨⟨a.1,rfl,a.2.1,Cells.bA TJ⟩,xX (H.same QB) W hD iN (by omega) fun A15 c15 lZ Qd rX=>⟨A15,_,c15,rfl,?_⟩⟩;have pV:=me D fun x=> ∃h∈ [b],eT D x h;refine⟨⟨a.1,rfl,a.2.1,Cells.bA (rX.heap TJ (fun h=>h))⟩,wF a Qd.hs (by unfold dP;omega) fun vC HI=>⟨_,rfl,?_⟩⟩;refine hK vC _ ?_ ((QB.trans rX (fun _ _ h=>h)).trans HI (fun _ _ h=>h));rw [decide_eq_true_iff];unfold dP;rw [iS];constructor
  ·rintro⟨_,h,hh,ha⟩
   rw [List.mem_singleton]at hh;subst hh;exact ha
  ·intro ha
   exact⟨(ha.mem W).1,b,by simp,ha⟩
 ·refine hK w9 false ?_ (WT.trans k9 (fun _ _ h=>h))
  constructor
  ·intro h;cases h
  ·intro ha;exact absurd (rC.2 (ha.mem W).1) Nl
theorem Fz(W:jj D){j:Nat}{nd:DN}(h2:D[j]? =some nd)(p:HT):mS D p nd.id↔p∈nd.ps:=by
 constructor
 ·rintro⟨md,vZ,e,hp⟩
  obtain⟨k,hk⟩:=List.mem_iff_getElem?.1 vZ;have:=W.inj hk h2 e;subst this;rw [h2]at hk;cases hk;exact hp
 ·exact fun hp=>⟨nd,List.mem_of_getElem? h2,rfl,hp⟩
theorem Dk(H:sN w F r D)(W:jj D)(hD:D.length<=10000)(a b:HT)(hK: ∀w' (x:Bool),(x=true↔a≠b/\ ¬eT D a b/\ ¬eT D b a)->Kept Nil w w'->K (.bool x) w'):
 bk prog dR.id #[.pointer (some ⟨r,0,none⟩),.agg a.1,.agg b.1] w K:=by
 refine dR.of ?_;unfold dR.W;intro w4 w5;have k4:Kept Nil w w4:=(Kept.refl _ _).alloc _;have vn:w4.heap[w.heap.size]? =some (.cells a.1 ai (0,0)):=aH w _;have k5:Kept Nil w4 w5:=(Kept.refl _ _).alloc _;have lU:w5.heap[w4.heap.size]? =some (.cells b.1 ai (0,0)):=aH w4 _;have EI:=k5.heap vn (fun h=>h);have Kh:Kept Nil w w5:=k4.trans k5 (fun _ _ h=>h);clear_value w5;refine⟨a.1,⟨a.2.1,Cells.bA EI⟩,b.1,⟨b.2.1,Cells.bA lU⟩,⟨a.2.ints,b.2.ints⟩,?_⟩;rw [cQ];by_cases e:a=b
 ·refine Split.no (by rw [decide_eq_true e];rfl) ?_
  exact hK w5 false (by simp [e]) Kh
 ·refine Split.yes (by rw [decide_eq_false e];rfl) ?_
  refine⟨a.1,⟨a.2.1,Cells.bA EI⟩,b.1,⟨b.2.1,Cells.bA lU⟩,pB (H.same Kh) W hD a b fun sQ x hx HJ=>⟨x,rfl,?_⟩⟩;cases x with
  |true=>
   refine Split.no rfl ?_;exact hK sQ false (by simp [hx.1 rfl]) (Kh.trans HJ (fun _ _ h=>h))
  |false=>
   refine Split.yes rfl ?_;have hn: ¬eT D a b:=fun h=>by have:=hx.2 h;cases this
   have QC:=Kh.trans HJ (fun _ _ h=>h);refine⟨b.1,⟨b.2.1,Cells.bA (HJ.heap lU (fun h=>h))⟩,a.1,⟨a.2.1,Cells.bA (HJ.heap EI (fun h=>h))⟩,pB (H.same QC) W hD b a fun je y hy mX=>⟨y,rfl,?_⟩⟩;refine hK je _ ?_ (QC.trans mX (fun _ _ h=>h));rw [Bool.not_eq_true',<-Bool.not_eq_true,hy];exact⟨fun h=>⟨e,hn,h⟩,fun h=>h.2.2⟩
end
end Go.Proofs.YtnboahlopghcjaaGreatDoor
namespace Go.Proofs.YtnboahlopghcjaaGreatDoor
open Go.Proofs.Tryz
open Go Go.bS Go.RowKit
structure NM where
 b:Nat
 pA:Option Addr
 pn:Nat
 pc:Nat
 cA:Option Addr
 cn:Nat
 cc:Nat
 rA:Option Addr
 rn:Nat
 rc:Nat
 ws:List Nat
def fu(h:HT)(m:NM):Array Value:=h.1++ #[.slice m.pA m.pn m.pc,.slice m.cA m.cn m.cc,.slice m.rA m.rn m.rc]
theorem tN(h:HT)(m:NM):(fu h m).size=35:=by unfold fu;rw [Array.size_append,h.2.1];rfl
theorem FB(h:HT)(m:NM){j:Nat}{v:Value}(hj:h.1[j]? =some v):(fu h m)[j]? =some v:=by
 unfold fu;rw [Array.getElem?_append_left (Array.getElem?_eq_some_iff.1 hj).1];exact hj
theorem FC(h:HT)(m:NM):(fu h m)[33]? =some (.slice m.cA m.cn m.cc):=by
 unfold fu;rw [Array.getElem?_append_right (by rw [h.2.1];omega),h.2.1];rfl
theorem ye(h:HT)(m:NM):(fu h m)[34]? =some (.slice m.rA m.rn m.rc):=by
 unfold fu;rw [Array.getElem?_append_right (by rw [h.2.1];omega),h.2.1];rfl
theorem Dv{h h':HT}{m m':NM}(e:fu h m=fu h' m'):h=h':=by
 apply Subtype.ext;have h1:=h.2.1;have h2:=h'.2.1;have:=congrArg (fun a:Array Value=>a.toList.take 32) e;unfold fu at this;simp only [Array.toList_append]at this;rw [List.take_left' (by simpa using h1),List.take_left' (by simpa using h2)]at this;exact Array.ext' this
structure pR(w:World)(S F:Nat->Prop)(D:DG)(ch:List HT)(nd:DN)(m:NM):Prop where
 bA:w.heap[m.b]? =some (.cells (fu nd.id m) dF (0,0))
 fG:S m.b
 ps:HS w m.pA m.pn nd.ps
 Ik: ∀a,m.pA=some a->F a.block
 ch:bQ w 0 m.cA m.cn m.cc ch
 Oz: ∀k,bg m.cA=some k->S k
 past:US w m.rA m.rn m.ws
 oh: ∀a,m.rA=some a->F a.block
 ok:okW m.ws
 bits: ∀j,bit m.ws j=true↔ ∃nj,D[j]? =some nj/\eT D nj.id nd.id
 small:m.rn<=200
structure GV(w:World)(S F:Nat->Prop)(g:Nat)(D:DG)(C:HT->List HT)(bl c mb:Nat)(M:List NM):Prop where
 top:w.heap[g]? =some (.cells #[.slice (some ⟨bl,0,none⟩) D.length c,.map (some mb)] gv (0,0))
 row:Row w 0 eI 1 (some ⟨bl,0,none⟩) D.length c (M.map fun m=>.pointer (some ⟨m.b,0,none⟩))
 map:IsMap w mb (ids D)
 len:M.length=D.length
 node: ∀(i:Nat) nd m,D[i]? =some nd->M[i]? =some m->pR w S F D (C nd.id) nd m
 apart: ∀(i j:Nat) m m',M[i]? =some m->M[j]? =some m'->i≠j-> ∀k,bg m.cA=some k->bg m'.cA≠some k
 gC:S g
 sd:S bl
 uv:S mb
 EL: ∀k,S k-> ¬F k
 low: ∀k,S k\/F k->k<w.heap.size
def Bs(w:World)(S F:Nat->Prop)(g:Nat)(D:DG):Prop:= ∃bl c mb M,GV w S F g D (fT D) bl c mb M
section
variable{w w':World}{S F S' F':Nat->Prop}{g bl c mb:Nat}{D:DG}{C:HT->List HT}{M:List NM}{K:Value->World->Prop}
theorem pR.aD{ch:List HT}{nd:DN}{m:NM}{S0:Nat->Prop}(h:pR w S F D ch nd m)(hk:Kept S0 w w')(hS: ∀k,S k-> ¬S0 k)(hF: ∀k,F k-> ¬S0 k):pR w' S F D ch nd m:=
 ⟨hk.heap h.bA (hS _ h.fG),h.fG,h.ps.aD hk (fun a ha=>hF _ (h.Ik a ha)),h.Ik,Row.aD h.ch hk (fun k hb=>hS k (h.Oz k hb)),h.Oz,h.past.aD hk (fun a ha=>hF _ (h.oh a ha)),h.oh,h.ok,h.bits,h.small⟩
theorem GV.aD{S0:Nat->Prop}(h:GV w S F g D C bl c mb M)(hk:Kept S0 w w')(hS: ∀k,S k-> ¬S0 k)(hF: ∀k,F k-> ¬S0 k):GV w' S F g D C bl c mb M:=
 ⟨hk.heap h.top (hS _ h.gC),Row.aD h.row hk (fun k e=>by cases e;exact hS _ h.sd),h.map.aD hk (hS _ h.uv),h.len,fun i nd m h1 h2=>(h.node i nd m h1 h2).aD hk hS hF,h.apart,h.gC,h.sd,h.uv,h.EL,fun k nh=>Nat.lt_of_lt_of_le (h.low k nh) hk.size⟩
theorem GV.same(h:GV w S F g D C bl c mb M)(hk:Kept Nil w w'):GV w' S F g D C bl c mb M:=h.aD hk (fun _ _ h=>h) (fun _ _ h=>h)
theorem Bs.aD{S0:Nat->Prop}(h:Bs w S F g D)(hk:Kept S0 w w')(hS: ∀k,S k-> ¬S0 k)(hF: ∀k,F k-> ¬S0 k):Bs w' S F g D:=let ⟨bl,c,mb,M,h⟩:=h;⟨bl,c,mb,M,h.aD hk hS hF⟩
theorem Bs.same(h:Bs w S F g D)(hk:Kept Nil w w'):Bs w' S F g D:=h.aD hk (fun _ _ h=>h) (fun _ _ h=>h)
theorem GV.get(h:GV w S F g D C bl c mb M){i:Nat}{nd:DN}(hi:D[i]? =some nd): ∃m,M[i]? =some m/\pR w S F D (C nd.id) nd m:=by
 have:=(List.getElem?_eq_some_iff.1 hi).1;have hl:=h.len;exact⟨M[i],List.getElem?_eq_getElem (by omega),h.node i nd _ hi (List.getElem?_eq_getElem (by omega))⟩
theorem GV.nodes(h:GV w S F g D C bl c mb M):w.cell? ((⟨g,0,none⟩:Addr).add 0)=some (.slice (some ⟨bl,0,none⟩) D.length c):=by rw [add_zero,ax h.top];rfl
theorem GV.at_(h:GV w S F g D C bl c mb M):w.cell? ((⟨g,0,none⟩:Addr).add 1)=some (.map (some mb)):=by rw [a8,ax h.top];rfl
theorem GV.ptr(h:GV w S F g D C bl c mb M){i:Nat}{m:NM}(hm:M[i]? =some m):w.cell? ((⟨bl,0,none⟩:Addr).add (i*1))=some (.pointer (some ⟨m.b,0,none⟩)):=by
 rw [a8,Nat.zero_add,Nat.mul_one];exact Row.cell h.row (by rw [List.getElem?_map,hm];rfl)
theorem wj(h:GV w S F g D C bl c mb M)(hK:K (.bool true) w):bk prog fC.id #[.pointer (some ⟨g,0,none⟩)] w K:=
 fC.of (Split.yes rfl ⟨some mb,h.at_,hK⟩)
def Found(D:DG)(M:List NM)(h:HT)(x:Option Addr):Prop:=(x=none/\h∉ids D)\/ ∃(i:Nat) (nd:DN) (m:NM),D[i]? =some nd/\nd.id=h/\M[i]? =some m/\x=some ⟨m.b,0,none⟩
theorem Found.isSome{h:HT}{x:Option Addr}(f:Found D M h x):(!x.isNone)=decide (h∈ids D):=by
 rcases f with⟨rfl,hn⟩|⟨i,nd,m,h1,h2,_,rfl⟩
 ·rw [decide_eq_false hn];rfl
 ·rw [decide_eq_true (dI.2 ⟨nd,List.mem_of_getElem? h1,h2⟩)];rfl
theorem uB(G:GV w S F g D C bl c mb M)(h:HT)(hK: ∀w' x,Kept Nil w w'->Found D M h x->K (.pointer x) w'):
 bk prog ft.id #[.pointer (some ⟨g,0,none⟩),.agg h.1] w K:=by
 refine ft.of ?_;unfold ft.W;intro w3;have k3:Kept Nil w w3:=(Kept.refl _ _).alloc _;have oZ:w3.heap[w.heap.size]? =some (.cells h.1 ai (0,0)):=aH w _;clear_value w3;refine wj (G.same k3) ⟨true,rfl,Split.yes rfl ?_⟩;intro w7;have k7:Kept Nil w3 w7:=(Kept.refl _ _).drew;clear_value w7;have kw:Kept Nil w w7:=k3.trans k7 (fun _ _ h=>h);have G7:=G.same kw;refine⟨some mb,G7.at_,h.1,⟨h.2.1,Cells.bA (k7.heap oZ (fun h=>h))⟩,_,_,G7.map.look h,?_⟩;cases hp:pos h (ids D) 0 with
 |none=>exact Split.no rfl (hK w7 none kw (.inl ⟨rfl,og.1 hp⟩))
 |some i=>
  obtain⟨_,hi⟩:=tF hp;obtain⟨nd,h1,h2⟩:=Gf hi;rw [Nat.sub_zero]at h1;obtain⟨m,hm,_⟩:=G7.get h1;have dN:=(List.getElem?_eq_some_iff.1 h1).1;refine Split.yes rfl ⟨_,_,_,G7.nodes,⟨by simp,by simp only [Option.getD_some];omega⟩,some ⟨m.b,0,none⟩,?_,hK w7 _ kw (.inr ⟨i,nd,m,h1,h2,hm,rfl⟩)⟩;rw [Option.getD_some,Int.toNat_natCast];exact G7.ptr hm
theorem tc(G:GV w S F g D C bl c mb M)(h:HT)(hK: ∀w',Kept Nil w w'->K (.bool (decide (h∈ids D))) w'):
 bk prog fM.id #[.pointer (some ⟨g,0,none⟩),.agg h.1] w K:=by
 refine fM.of ?_;unfold fM.W;intro w3;have k3:Kept Nil w w3:=(Kept.refl _ _).alloc _;have oZ:w3.heap[w.heap.size]? =some (.cells h.1 ai (0,0)):=aH w _;clear_value w3;refine⟨h.1,⟨h.2.1,Cells.bA oZ⟩,uB (G.same k3) h fun w6 x k6 hx=>⟨x,rfl,?_⟩⟩;rw [hx.isSome];exact hK w6 (k3.trans k6 (fun _ _ h=>h))
end
end Go.Proofs.YtnboahlopghcjaaGreatDoor
namespace Go.Proofs.YtnboahlopghcjaaGreatDoor
open Go.Proofs.Tryz
open Go Go.bS Go.RowKit
section
variable{w w':World}{S F:Nat->Prop}{g bl c mb:Nat}{D:DG}{C:HT->List HT}{M:List NM}{K:Value->World->Prop}
end
end Go.Proofs.YtnboahlopghcjaaGreatDoor
namespace Go.Proofs.YtnboahlopghcjaaGreatDoor
open Go.Proofs.Tryz
open Go Go.bS Go.RowKit
section
variable{w w':World}{S F:Nat->Prop}{g bl c mb:Nat}{D:DG}{C:HT->List HT}{M:List NM}{K:Value->World->Prop}
theorem Ba{A:Option Addr}{n c:Nat}{l:List HT}(hl:HS w A n l)(hn:n<=400000)(hK: ∀A' c' w',bQ w' w.heap.size A' n c' l->Kept Nil w w'->K (.slice A' n c') w'):
 bk prog cM.id #[.slice A n c] w K:=by
 refine cM.of ?_;cases A with
 |none=>
  obtain⟨rfl,rfl⟩:=hl.none;exact Split.yes rfl (hK none 0 w (bQ.nil _ _) (Kept.refl _ _))
 |some a=>
  refine Split.no rfl ?_;intro w2;have k2:Kept Nil w w2:=(Kept.refl _ _).alloc _;have r0:bQ w2 w.heap.size (some ⟨w.heap.size,0,none⟩) 0 0 []:=Row.made (n:=0) (cur:= #[]) (aH w _) (Nat.le_refl _) rfl (Nat.zero_le _);clear_value w2;obtain⟨A',c',w4,hr,row,hg,_⟩:=cD (cx:=c) ay r0 (hl.same k2) (by omega) k2.size;rw [Nat.zero_add]at hr row;rw [List.nil_append]at row;exact⟨A',n,c',w4,hr,hK A' c' w4 row (Kept.dw k2 hg (fun k hk=>by cases hk;exact Nat.le_refl _))⟩
theorem vK{D:DG}{nd:DN}{m:NM}{ch:List HT}(N:pR w S F D ch nd m):w.cell? ((⟨m.b,0,none⟩:Addr).add 34)=some (.slice m.rA m.rn m.rc):=by
 rw [a8,Nat.zero_add,ax N.bA];exact ye _ _
theorem BW{D:DG}{nd:DN}{m:NM}{ch:List HT}(N:pR w S F D ch nd m):w.cell? ((⟨m.b,0,none⟩:Addr).add 33)=some (.slice m.cA m.cn m.cc):=by
 rw [a8,Nat.zero_add,ax N.bA];exact FC _ _
end
end Go.Proofs.YtnboahlopghcjaaGreatDoor
namespace Go.Proofs.YtnboahlopghcjaaGreatDoor
open Go.Proofs.Tryz
open Go Go.bS Go.RowKit
def nx(D:DG)(j:Nat):HT:=match D[j]? with|some nd=>nd.id|none=>default
theorem tJ: ∀(ws:List Nat) (k:Nat),okW ws->(oo k ws).Nodup
 | [],_,_=>List.Pairwise.nil
 |x::ws,k,ho=>by
  have hx:=ho x (by simp);have HP:okW ws:=fun y hy=>ho y (by simp [hy]);obtain⟨_,h2,h3⟩:=vO x hx;rw [oo,List.nodup_append];refine⟨List.Pairwise.map _ (fun a b lr e=>lr (by omega)) h2,tJ ws (k+1) HP,fun a ha b hb e=>?_⟩;rw [List.mem_map]at ha;obtain⟨t,ht,rfl⟩:=ha;have:=((ot ws (k+1) b HP).1 hb).1;have:=h3 t ht;omega
section
variable{w w':World}{S F:Nat->Prop}{g bl c mb:Nat}{D:DG}{C:HT->List HT}{M:List NM}{K:Value->World->Prop}
theorem uC(G:GV w S F g D C bl c mb M)(W:jj D)(hD:D.length<=10000)(hT:rI w){A:Option Addr}{n cx:Nat}{l:List HT}(hl:HS w A n l)(hn:n<=10000)
 (hK: ∀A' c' w',bQ w' w.heap.size A' (dP D l).length c' (dP D l)->Kept Nil w w'->K (.slice A' (dP D l).length c') w'):
 bk prog aO.id #[.pointer (some ⟨g,0,none⟩),.slice A n cx] w K:=by
 have hlen:=hl.len;refine aO.of ?_;unfold aO.W;intro w3;have k3:Kept Nil w w3:=(Kept.refl _ _).alloc _;have SJ:w3.heap[w.heap.size]? =some (.cells #[.pointer (some ⟨g,0,none⟩)] jR (0,0)):=aH w _;have An:w.heap.size<w3.heap.size:=aT SJ;clear_value w3;refine aO.b9 (I:=fun s w'=> ∃(i:Nat) (A':Option Addr) (n' c':Nat) (ws:List Nat),s=(A',n',c',(i:Int))/\i<=n/\jG w' w3.heap.size A' n' c' ws/\okW ws/\n'<=200/\(∀j,bit ws j=true↔ ∃h∈l.take i,∃nj,D[j]? =some nj/\eT D nj.id h)/\Kept Nil w3 w')
  (μ:=fun s _=>((n:Int)-s.2.2.2).toNat) (s:=(none,0,0,0)) ⟨0,none,0,0,[],rfl,Nat.zero_le _,Row.nil _ _ _ _,by simp [okW],by omega,by simp [xa],Kept.refl _ _⟩ ?_
 rintro s w' ⟨i,A',n',c',ws,rfl,hi,row,ho,YC,o9,kw⟩;have kk:Kept Nil w w':=k3.trans kw (fun _ _ h=>h);refine Split.dec (fun iP=>?_) (fun fV=>?_)
 ·simp only at iP
  have dN:i<n:=by omega
  obtain⟨h,hh⟩: ∃h,l[i]? =some h:=⟨_,List.getElem?_eq_getElem (by omega)⟩;refine(hl.same kk).load (i:=(i:Int)) (by omega) hh ?_;intro lF;obtain⟨rk,iN,iU⟩:=gq (w:=w') (z:=(#[.int .u8 0,.int .u8 0,.int .u8 0,.int .u8 0,.int .u8 0,.int .u8 0,.int .u8 0,.int .u8 0,.int .u8 0,.int .u8 0,.int .u8 0,.int .u8 0,.int .u8 0,.int .u8 0,.int .u8 0,.int .u8 0,.int .u8 0,.int .u8 0,.int .u8 0,.int .u8 0,.int .u8 0,.int .u8 0,.int .u8 0,.int .u8 0,.int .u8 0,.int .u8 0,.int .u8 0,.int .u8 0,.int .u8 0,.int .u8 0,.int .u8 0,.int .u8 0]:Array Value)) (cs:=h.1) (t:=ai) (by rw [h.2.1];rfl);refine⟨⟨h.2.1,h.2.one,fun j hj=>rk j (by rw [h.2.1];exact hj)⟩,?_⟩;intro lZ
  replace iN:lZ.heap[w'.heap.size]? =some (.cells h.1 ai (0,0)):=iN
  replace iU:Kept Nil w' lZ:=iU
  clear_value lZ;have rX:Kept Nil w3 lZ:=kw.trans iU (fun _ _ h=>h);refine⟨some ⟨g,0,none⟩,by rw [ax (rX.heap SJ (fun h=>h))];rfl,h.1,⟨h.2.1,Cells.bA iN⟩,?_⟩;refine uB (G.same (k3.trans rX (fun _ _ h=>h))) h fun nI x vW hx=>⟨x,rfl,?_⟩;have IM:Kept Nil w3 nI:=rX.trans vW (fun _ _ h=>h);have FK:Kept Nil w nI:=k3.trans IM (fun _ _ h=>h);have vI:jG nI w3.heap.size A' n' c' ws:=Row.aD row (iU.trans vW (fun _ _ h=>h)) (fun _ _ h=>h);rcases hx with⟨rfl,mo⟩|⟨q,nd,m',hq,rfl,lT,rfl⟩
  ·refine Split.no rfl ?_
   simp only;rw [dG (n:=(i:Int)) (by omega) (by omega)];refine⟨(A',n',c',(i:Int)+1),rfl,⟨i+1,A',n',c',ws,rfl,dN,vI,ho,YC,fun j=>?_,IM⟩,by simp only;omega⟩;rw [o9];constructor
   ·rintro⟨h',h1,h2⟩;exact⟨h',(bE hh).2 (.inl h1),h2⟩
   ·rintro⟨h',h1,nj,h2,h3⟩
    rcases(bE hh).1 h1 with h1|rfl
    ·exact⟨h',h1,nj,h2,h3⟩
    ·exact absurd (h3.mem W).2 mo
  ·obtain⟨m,hm,N⟩:=(G.same FK).get hq
   rw [lT]at hm;cases hm;refine Split.yes rfl ⟨_,_,_,vK N,?_⟩;have uO:=N.small;have D6: ∀k,bg A'=some k->w3.heap.size<=k:=fun k hk=>(Row.bA vI hk).1;refine vG vI ho (by omega) IM.size N.past N.ok (by omega) (fun a ha k hk e=>?_) fun A2 n2 c2 l2 kP Qb Yw R8 NW pU Js=>⟨A2,n2,c2,rfl,?_⟩
   ·have h1:=G.low a.block (.inr (N.oh a ha))
    have h2:=D6 k hk;omega
   ·simp only
    rw [dG (n:=(i:Int)) (by omega) (by omega)];refine⟨(A2,n2,c2,(i:Int)+1),rfl,⟨i+1,A2,n2,c2,l2,rfl,dN,Qb,Yw,by omega,fun j=>?_,IM.trans pU (fun k hk e=>absurd (D6 k e) (by omega))⟩,by simp only;omega⟩;rw [NW,Bool.or_eq_true,o9,N.bits];constructor
    ·rintro(⟨h',h1,h2⟩|h2)
     ·exact⟨h',(bE hh).2 (.inl h1),h2⟩
     ·exact⟨nd.id,(bE hh).2 (.inr rfl),h2⟩
    ·rintro⟨h',h1,h2⟩
     rcases(bE hh).1 h1 with h1|rfl
     ·exact .inl ⟨h',h1,h2⟩
     ·exact .inr h2
 ·simp only at fV
  have YY:i=n:=by omega
  subst YY;rw [List.take_of_length_le (by omega)]at o9;rw [aS,aO.cZ];unfold aO.cK;intro sP;have EA:Kept Nil w' sP:=(Kept.refl _ _).alloc _;have RU:sP.heap[w'.heap.size]? =some (.cells #[.slice none 0 0] ay (0,0)):=aH w' _;clear_value sP;refine jo.of ?_;unfold jo.W;intro mG;have yr:Kept Nil sP mG:=(Kept.refl _ _).alloc _;have I1:mG.heap[sP.heap.size]? =some (.cells #[.slice A' n' c'] jN (0,0)):=aH sP _;clear_value mG;refine⟨_,rfl,?_⟩;have RT:=yr.heap RU (fun h=>h);have QW:Kept Nil w3 mG:=(kw.trans EA (fun _ _ h=>h)).trans yr (fun _ _ h=>h);have IC:Kept Nil w mG:=k3.trans QW (fun _ _ h=>h);have xU:jG mG w3.heap.size A' n' c' ws:=Row.aD (Row.aD row EA (fun _ _ h=>h)) yr (fun _ _ h=>h);have NF:=QW.heap SJ (fun h=>h);have EE:w.heap.size<w'.heap.size:=Nat.lt_of_lt_of_le An kw.size;have afK:w'.heap.size<mG.heap.size:=aT RT;have afL:sP.heap.size<mG.heap.size:=aT I1;have Gx: ∀j∈oo 0 ws,∃nj,D[j]? =some nj:=fun j hj=>by
   have:=((ot ws 0 j ho).1 hj).2;rw [Nat.mul_zero,Nat.sub_zero]at this;obtain⟨_,_,nj,h1,_⟩:=(o9 j).1 this;exact⟨nj,h1⟩
  have xo:(oo 0 ws).length<=D.length:=by
   have:=tK (m:=List.range D.length) (tJ ws 0 ho) (fun j hj=>by
    obtain⟨nj,h1⟩:=Gx j hj;exact List.mem_range.2 (List.getElem?_eq_some_iff.1 h1).1)
   rwa [List.length_range]at this
  let xs:=oo 0 ws
  let ρ0:Env:= [(2,.pointer (some (⟨w.heap.size,0,none⟩:Addr))),(4,.slice none 0 0),(9,.pointer (some (⟨w'.heap.size,0,none⟩:Addr))),(30,.func (.func aG.id) #[] #[.pointer (some (⟨sP.heap.size,0,none⟩:Addr))])]
  let J:Nat->World->Prop:=fun i v=> ∃A c,v.heap[w'.heap.size]? =some (.cells #[.slice A i c] ay (0,0))/\bQ v mG.heap.size A i c ((xs.take i).map (nx D))/\Kept (· =w'.heap.size) mG v/\i<=xs.length
  have qu: ∀i v,J i v->US v A' n' ws/\v.cell? ⟨sP.heap.size,0,none⟩=some (.slice A' n' c')/\rI v:=by
   rintro i v ⟨A,c,h1,h2,h3,h4⟩;refine⟨xU.us.aD h3 (fun a ha e=>?_),by rw [ax (h3.heap I1 (by have:=aT RU;omega))];rfl,(hT.same IC).aD h3 (fun e=>by have:=hT.lt;omega)⟩;have hk:bg A'=some a.block:=by rw [ha];rfl
   obtain⟨_,cur,hc⟩:=Row.bA row hk;have:=aT hc;omega
  refine mN (ρ:=ρ0) (ρ0:=ρ0) ng mix aO.k (t:=30) (ps:= #[31]) (by kernel_rfl) (by decide) rfl aG.at_ rfl (.inl rfl) (fun i v _ h=>h) rfl encI xs (fun _=>rfl) (by simp [gA]) (Hq ⟨sP.heap.size,0,none⟩ (c:=c') (by omega) ho) J (fun _ _=>False) ?_ (fun _ _ _ _ _ h=>h.elim) qu ?_ ?_ ?_ (fun _ _ h=>h.elim) (fun _ _ _ h=>h.elim)
  ·rintro i v v' R qv ⟨A,c,h1,h2,h3,h4⟩ hk
   exact⟨A,c,hk.heap h1 (jP h1 qv.loop),Row.apart h2 hk (fun cs t fr h=>by rw [qv.loop]at h;cases h),h3.trans hk (fun k hk e=>by omega),h4⟩
  ·intro R
   exact⟨none,0,jA (jA RT _) _,bQ.nil _ _,(((Kept.refl _ _).alloc _).alloc _),Nat.zero_le _⟩
  ·rintro i x v R hx hj qv
   have hJ:=hj;obtain⟨A,c,h1,h2,h3,h4⟩:=hj;have dN:i<xs.length:=(List.getElem?_eq_some_iff.1 hx).1;have e7:km ρ0 ((#[31]:Array Nat).toList.zip (encI x))= [(2,.pointer (some (⟨w.heap.size,0,none⟩:Addr))),(4,.slice none 0 0),(9,.pointer (some (⟨w'.heap.size,0,none⟩:Addr))),(30,.func (.func aG.id) #[] #[.pointer (some (⟨sP.heap.size,0,none⟩:Addr))]),(31,.int .i64 (x:Int))]:=rfl;rw [e7,aO.a1];unfold aO.A1;refine⟨qv,fun w2 R2 mZ sA=>?_⟩;have CB:=mZ.heap h1 (jP h1 qv.loop);have AN:bQ w2 mG.heap.size A i c ((xs.take i).map (nx D)):=Row.apart h2 mZ (fun cs t fr h=>by rw [qv.loop]at h;cases h);have T7:Kept (· =w'.heap.size) mG w2:=h3.trans mZ (fun k hk e=>by omega);clear hJ h1 h2 h3;rw [aO.y1];unfold aO.Y1;intro CO;have Mp:Kept Nil w2 CO:=(Kept.refl _ _).drew;clear_value CO;have Ua:=Mp.heap CB (fun h=>h);have B9:Kept (· =w'.heap.size) mG CO:=T7.trans Mp (fun _ _ h=>h.elim);obtain⟨nj,KV⟩:=Gx x (List.mem_of_getElem? hx);have sW:=(List.getElem?_eq_some_iff.1 KV).1;have WR:Kept Nil w CO:=IC.trans B9 (fun k hk e=>by omega);obtain⟨m,hm,N⟩:=(G.same WR).get KV;refine⟨A,i,c,by rw [ax Ua];rfl,some ⟨g,0,none⟩,by rw [ax (B9.heap NF (by omega))];rfl,?_⟩;refine⟨_,_,_,(G.same WR).nodes,⟨by omega,by omega⟩,some ⟨m.b,0,none⟩,by rw [Int.toNat_natCast];exact(G.same WR).ptr hm,?_⟩;refine⟨nj.id.1,⟨nj.id.2.1,fun j v hj=>?_⟩,nj.id.2.1,?_⟩
   ·rw [add_zero,a8,Nat.zero_add,ax N.bA]
    exact FB _ _ hj
   intro OS;have QS:Kept Nil CO OS:=(Kept.refl _ _).alloc _;have iW:HS OS (some ⟨CO.heap.size,0,none⟩) 1 [nj.id]:=iW CO nj.id;clear_value OS;have T9:=QS.heap Ua (fun h=>h);refine⟨by rw [ax T9];rfl,?_⟩;have Jx:bQ OS mG.heap.size A i c ((xs.take i).map (nx D)):=Row.aD (Row.aD AN Mp (fun _ _ h=>h)) QS (fun _ _ h=>h);have Rn:mG.heap.size<=OS.heap.size:=Nat.le_trans B9.size QS.size;have IV:xs.length<=D.length:=xo;obtain⟨A2,c2,pq,hr,vH,Jm,NY⟩:=cD (cx:=1) ay Jx iW (by omega) Rn;have NA:Kept (fun k=>bg A=some k) OS pq:=Kept.grown (Kept.refl _ _) Jm (fun k hk _=>hk);have T4: ∀k,bg A=some k->mG.heap.size<=k:=fun k hk=>(Row.bA Jx hk).1;have T8:=NA.heap T9 (fun e=>by have:=T4 _ e;omega);have YP:Live (mG.heap.size+1) mG.heap.size R2 pq:=by
    have No:=(sA.aD Mp (fun h=>h) (fun h=>h)).aD QS (fun h=>h) (fun h=>h);refine No.aD NA ?_ ?_
    ·intro h
     obtain⟨_,cur,hc⟩:=Row.bA Jx h;exact jP hc No.loop rfl
    ·intro h
     obtain⟨_,cur,hc⟩:=Row.bA Jx h;exact wK hc No.mark rfl
   refine⟨A2,_,c2,pq,hr,dO T8 (by simp),?_⟩;intro Wk;have W8:Kept (· =w'.heap.size) pq Wk:=Kept.setCell (S:=fun k=>k=w'.heap.size) (Kept.refl _ pq) (p:=⟨w'.heap.size,0,none⟩) (fun _=>rfl) _;have ZO:Wk.heap[w'.heap.size]? =some (.cells #[.slice A2 (i+1) c2] ay (0,0)):=cR T8 0 _;clear_value Wk;refine⟨YP.aD W8 (by omega) (by omega),A2,c2,ZO,?_,((B9.trans QS (fun _ _ h=>h.elim)).trans NA (fun k hk e=>absurd (T4 k e) (by omega))).trans W8 (fun _ _ h=>h),dN⟩;have e:(xs.take (i+1)).map (nx D)=(xs.take i).map (nx D)++ [nj.id]:=by
    rw [List.take_add_one,hx];simp [nx,KV]
   rw [e];exact Row.aD vH W8 (fun k hk e=>by have:=(Row.bA vH hk).1;omega)
  ·rintro v R ⟨A,c,h1,h2,h3,h4⟩ qv
   have e7:gE ρ0 mG.heap.size= [(2,.pointer (some (⟨w.heap.size,0,none⟩:Addr))),(4,.slice none 0 0),(9,.pointer (some (⟨w'.heap.size,0,none⟩:Addr))),(30,.func (.func aG.id) #[] #[.pointer (some (⟨sP.heap.size,0,none⟩:Addr))]),(4294967296,.agg #[.pointer (some ⟨mG.heap.size,0,none⟩)])]:=rfl;rw [e7,aO.jH];rw [List.take_of_length_le (Nat.le_refl _)]at h2;have IV:xs.length<=D.length:=xo;refine⟨A,xs.length,c,by rw [ax h1];rfl,hZ h2.hs (by omega) fun A2 c2 Wj Fu W7=>⟨A2,_,c2,rfl,⟨W7.heap qv.mark (fun h=>h),trivial⟩,?_⟩⟩;have hmk:=W7.heap qv.mark (fun h=>h);have kp:Kept (· =mG.heap.size) Wj (Wj.putObj mG.heap.size (.deferred none)):=Kept.putAt _ _ _;have e:df (xs.map (nx D))=dP D l:=BT fun a=>by
    rw [List.mem_map];constructor
    ·rintro⟨j,hj,rfl⟩
     have hb:=((ot ws 0 j ho).1 hj).2;rw [Nat.mul_zero,Nat.sub_zero]at hb;obtain⟨h',r9,nj,ui,Cz⟩:=(o9 j).1 hb;have:nx D j=nj.id:=by unfold nx;rw [ui]
     rw [this];exact⟨(Cz.mem W).1,h',r9,Cz⟩
    ·rintro⟨ha,h',Y4,AK⟩
     obtain⟨nj,hnm,rfl⟩:=dI.1 ha;obtain⟨j,hj⟩:=List.mem_iff_getElem?.1 hnm;refine⟨j,(ot ws 0 j ho).2 ⟨by omega,?_⟩,by unfold nx;rw [hj]⟩;rw [Nat.mul_zero,Nat.sub_zero];exact(o9 j).2 ⟨h',Y4,nj,hj,AK⟩
   rw [e]at Fu⊢;have jW:Kept Nil w Wj:=(IC.trans h3 (fun k hk e=>by omega)).trans W7 (fun _ _ h=>h);have hws:w.heap.size<=v.heap.size:=Nat.le_trans IC.size h3.size;refine hK A2 c2 _ (Row.base (Row.apart Fu kp (fun cs t fr h=>by rw [hmk]at h;cases h)) fun b hb=>Nat.le_trans hws (Row.bA Fu hb).1) (jW.trans kp (fun k hk e=>by omega))
end
end Go.Proofs.YtnboahlopghcjaaGreatDoor
namespace Go.Proofs.YtnboahlopghcjaaGreatDoor
open Go.Proofs.Tryz
open Go Go.bS Go.RowKit
section
variable{w w':World}{S F:Nat->Prop}{g bl c mb gb:Nat}{D:DG}{C:HT->List HT}{M:List NM}{K:Value->World->Prop}
theorem y5(G:GV w S F g D C bl c mb M)(hg:w.heap[gb]? =some (.cells #[.pointer (some ⟨g,0,none⟩)] jR (0,0))){A:Option Addr}{n cx:Nat}{l:List HT}(hl:HS w A n l)(hn:n<=400000)
 (hK: ∀w' (x:Bool),(x=true↔ ∃p∈l,p∉ids D)->Kept Nil w w'->K (.bool x) w'):
 bk prog du.id #[.slice A n cx,.func (.func dU.id) #[] #[.pointer (some ⟨gb,0,none⟩)]] w K:=by
 have hlen:=hl.len;refine bX.of (ao.of ?_);refine ao.b9 (I:=fun s w'=> ∃i:Nat,s=(0,(i:Int))/\i<=n/\(∀p∈l.take i,p∈ids D)/\Kept Nil w w') (μ:=fun s _=>((n:Int)-s.2).toNat) (s:=(0,0)) ⟨0,rfl,Nat.zero_le _,by simp,Kept.refl _ _⟩ ?_;rintro s w' ⟨i,rfl,hi,cP,kw⟩;refine Split.dec (fun iP=>?_) (fun fV=>?_)
 ·simp only at iP
  have dN:i<n:=by omega
  obtain⟨x,hx⟩: ∃x,l[i]? =some x:=⟨_,List.getElem?_eq_getElem (by omega)⟩;refine(hl.same kw).load (i:=(i:Int)) (by omega) hx ?_;refine dU.of ?_;unfold dU.W;intro w3;have k3:Kept Nil w' w3:=(Kept.refl _ _).alloc _;have oZ:w3.heap[w'.heap.size]? =some (.cells x.1 ai (0,0)):=aH w' _;clear_value w3;have Ki:=kw.trans k3 (fun _ _ h=>h);refine⟨some ⟨g,0,none⟩,by rw [ax (Ki.heap hg (fun h=>h))];rfl,x.1,⟨x.2.1,Cells.bA oZ⟩,tc (G.same Ki) x fun w7 k7=>⟨_,rfl,_,rfl,?_⟩⟩;have z6:=Ki.trans k7 (fun _ _ h=>h);by_cases hm:x∈ids D
  ·refine Split.no (by rw [decide_eq_true hm];rfl) ?_
   simp only;rw [dG (n:=(i:Int)) (by omega) (by omega)];refine⟨(0,(i:Int)+1),rfl,⟨i+1,rfl,dN,fun p hp=>?_,z6⟩,by simp only;omega⟩;rcases(bE hx).1 hp with hp|rfl
   ·exact cP p hp
   ·exact hm
  ·refine Split.yes (by rw [decide_eq_false hm];rfl) ?_
   refine⟨(i:Int),rfl,?_⟩;exact hK w7 _ ⟨fun _=>⟨x,List.mem_of_getElem? hx,hm⟩,fun _=>decide_eq_true (by omega)⟩ z6
 ·simp only at fV
  rw [aS,ao.cZ];rw [List.take_of_length_le (by omega)]at cP;exact⟨-1,rfl,hK w' _ ⟨fun h=>absurd (of_decide_eq_true h) (by omega),fun⟨p,hp,hn⟩=>absurd (cP p hp) hn⟩ kw⟩
theorem jh{w:World}{a b:Nat}{ca cb:Array Value}{ta tb:TypeId}{fa fb:Nat×Nat}(ha:w.heap[a]? =some (.cells ca ta fa))(hb:w.heap[b]? =some (.cells cb tb fb))(fE:ta≠tb):a≠b:=by
 rintro rfl;rw [ha]at hb;simp only [Option.some.injEq,Obj.cells.injEq]at hb;exact fE hb.2.1
theorem GV.upd(G:GV w S F g D C bl c mb M)(W:jj D){q:Nat}{nd:DN}{m:NM}(hq:D[q]? =some nd)(hm:M[q]? =some m){A5:Option Addr}{n5 c5:Nat}{ch':List HT}
 (kT:Kept (fun k=>bg m.cA=some k\/k=m.b) w w') (hb:w'.heap[m.b]? =some (.cells (fu nd.id {m with cA:=A5,cn:=n5,cc:=c5}) dF (0,0))) (eM:bQ w' w.heap.size A5 n5 c5 ch'):
 GV w' (fun k=>S k\/bg A5=some k) F g D (fun x=>if x=nd.id then ch' else C x) bl c mb (M.set q {m with cA:=A5,cn:=n5,cc:=c5}):=by
 have N:=G.node q nd m hq hm;have I3:q<M.length:=(List.getElem?_eq_some_iff.1 hm).1;have nA: ∀k,bg m.cA=some k-> ∃cur,w.heap[k]? =some (.cells cur ai (0,0)):=fun k hk=>(Row.bA N.ch hk).2;have hF: ∀k,F k-> ¬(bg m.cA=some k\/k=m.b):=fun k hk e=>by
  rcases e with e|rfl
  ·exact G.EL k (N.Oz k e) hk
  ·exact G.EL _ N.fG hk
 have typ: ∀ {k:Nat} {cs:Array Value} {t:TypeId},w.heap[k]? =some (.cells cs t (0,0))->t≠ai->t≠dF-> ¬(bg m.cA=some k\/k=m.b):=fun h h1 h2 e=>by
  rcases e with e|rfl
  ·obtain⟨cur,hc⟩:=nA _ e
   exact jh h hc h1 rfl
  ·exact jh h N.bA h2 rfl
 have D5: ∀k,bg A5=some k->w.heap.size<=k:=fun k hk=>(Row.bA eM hk).1;have fR: ∀(i:Nat) m',(M.set q {m with cA:=A5,cn:=n5,cc:=c5})[i]? =some m'->(i=q/\m'= {m with cA:=A5,cn:=n5,cc:=c5})\/(i≠q/\M[i]? =some m'):=fun i m' h=>by
  by_cases e:i=q
  ·subst e
   rw [List.getElem?_set_self I3]at h;exact .inl ⟨rfl,(Option.some.inj h).symm⟩
  ·rw [List.getElem?_set_ne (Ne.symm e)]at h
   exact .inr ⟨e,h⟩
 refine⟨?_,?_,?_,by simpa using G.len,?_,?_,.inl G.gC,.inl G.sd,.inl G.uv,?_,?_⟩
 ·exact kT.heap G.top (typ G.top (by decide) (by decide))
 ·have Nk:(M.set q {m with cA:=A5,cn:=n5,cc:=c5}).map (fun m=>Value.pointer (some ⟨m.b,0,none⟩))=M.map fun m=>Value.pointer (some ⟨m.b,0,none⟩):=by
   apply List.ext_getElem?;intro i;rw [List.getElem?_map,List.getElem?_map];by_cases e:i=q
   ·subst e
    rw [List.getElem?_set_self I3,hm];rfl
   ·rw [List.getElem?_set_ne (Ne.symm e)]
  rw [Nk];refine Row.aD G.row kT (fun k e=>?_);cases e;obtain⟨_,cur,hc⟩:=Row.bA G.row (k:=bl) rfl;exact typ hc (by decide) (by decide)
 ·refine G.map.aD kT (fun e=>?_)
  obtain⟨es,clock,Je,_⟩:=G.map.ex;rcases e with e|e
  ·obtain⟨cur,hc⟩:=nA _ e
   rw [hc]at Je;cases Je
  ·rw [e,N.bA]at Je;cases Je
 ·intro i nd' m' hi lT
  rcases fR i m' lT with⟨rfl,rfl⟩|⟨fE,Sf⟩
  ·rw [hq]at hi
   cases hi;rw [if_pos rfl];exact⟨hb,.inl N.fG,N.ps.aD kT (fun a ha=>hF _ (N.Ik a ha)),N.Ik,Row.base eM (fun _ _=>Nat.zero_le _),fun k hk=>.inr hk,N.past.aD kT (fun a ha=>hF _ (N.oh a ha)),N.oh,N.ok,N.bits,N.small⟩
  ·have N':=G.node i nd' m' hi Sf
   have hid:nd'.id≠nd.id:=fun e=>fE (W.inj hi hq e);rw [if_neg hid];have ZD:m'.b≠m.b:=fun e=>by
    have h1:=N'.bA;rw [e,N.bA]at h1;simp only [Option.some.injEq,Obj.cells.injEq]at h1;exact hid (Dv h1.1).symm
   refine⟨kT.heap N'.bA (fun e=>?_),.inl N'.fG,N'.ps.aD kT (fun a ha=>hF _ (N'.Ik a ha)),N'.Ik,Row.aD N'.ch kT (fun k hk e=>?_),fun k hk=>.inl (N'.Oz k hk),N'.past.aD kT (fun a ha=>hF _ (N'.oh a ha)),N'.oh,N'.ok,N'.bits,N'.small⟩
   ·rcases e with e|e
    ·obtain⟨cur,hc⟩:=nA _ e
     exact jh N'.bA hc (by decide) rfl
    ·exact ZD e
   ·rcases e with e|rfl
    ·exact G.apart i q m' m Sf hm fE k hk e
    ·obtain⟨cur,hc⟩:=(Row.bA N'.ch hk).2
     exact jh hc N.bA (by decide) rfl
 ·intro i j m1 m2 h1 h2 qw k HQ mZ
  rcases fR i m1 h1 with⟨rfl,rfl⟩|⟨hi,r9⟩
  ·rcases fR j m2 h2 with⟨rfl,rfl⟩|⟨hj,ui⟩
   ·exact qw rfl
   ·have:=D5 k HQ
    have sY:j<D.length:=by rw [<-G.len];exact(List.getElem?_eq_some_iff.1 ui).1
    obtain⟨cur,hc⟩:=(Row.bA (G.node j _ m2 (List.getElem?_eq_getElem sY) ui).ch mZ).2;have:=aT hc;omega
  ·rcases fR j m2 h2 with⟨rfl,rfl⟩|⟨hj,ui⟩
   ·have:=D5 k mZ
    have dN:i<D.length:=by rw [<-G.len];exact(List.getElem?_eq_some_iff.1 r9).1
    obtain⟨cur,hc⟩:=(Row.bA (G.node i _ m1 (List.getElem?_eq_getElem dN) r9).ch HQ).2;have:=aT hc;omega
   ·exact G.apart i j m1 m2 r9 ui qw k HQ mZ
 ·intro k hk hf
  rcases hk with hk|hk
  ·exact G.EL k hk hf
  ·have:=D5 k hk
   have:=G.low k (.inr hf);omega
 ·intro k hk
  rcases hk with(hk|hk)|hk
  ·exact Nat.lt_of_lt_of_le (G.low k (.inl hk)) kT.size
  ·obtain⟨cur,hc⟩:=(Row.bA eM hk).2
   exact aT hc
  ·exact Nat.lt_of_lt_of_le (G.low k (.inr hk)) kT.size
end
end Go.Proofs.YtnboahlopghcjaaGreatDoor
namespace Go.Proofs.YtnboahlopghcjaaGreatDoor
open Go.Proofs.Tryz
open Go Go.bS Go.RowKit
theorem yc(h:HT)(m:NM)(A:Option Addr)(n c:Nat):(fu h m).setIfInBounds 33 (.slice A n c)=fu h {m with cA:=A,cn:=n,cc:=c}:=by
 have hs:=h.2.1;apply Array.ext_getElem?;intro i;unfold fu;rw [Array.getElem?_setIfInBounds,Array.getElem?_append,Array.getElem?_append];by_cases h1:i<h.1.size
 ·rw [if_neg (by omega),if_pos h1,if_pos h1]
 ·rw [if_neg h1,if_neg h1]
  by_cases h2:i=33
  ·subst h2
   rw [if_pos rfl,if_pos (by simp;omega),hs];rfl
  ·rw [if_neg (Ne.symm h2),hs]
   match i-32,show i-32≠1 by omega with
   |0,_=>rfl
   |2,_=>rfl
   |(k+3),_=>rfl
theorem ya(h:HT)(m:NM)(A:Option Addr)(n c:Nat):(fu h m).setIfInBounds 34 (.slice A n c)=fu h {m with rA:=A,rn:=n,rc:=c}:=by
 have hs:=h.2.1;apply Array.ext_getElem?;intro i;unfold fu;rw [Array.getElem?_setIfInBounds,Array.getElem?_append,Array.getElem?_append];by_cases h1:i<h.1.size
 ·rw [if_neg (by omega),if_pos h1,if_pos h1]
 ·rw [if_neg h1,if_neg h1]
  by_cases h2:i=34
  ·subst h2
   rw [if_pos rfl,if_pos (by simp;omega),hs];rfl
  ·rw [if_neg (Ne.symm h2),hs]
   match i-32,show i-32≠2 by omega with
   |0,_=>rfl
   |1,_=>rfl
   |(k+3),_=>rfl
section
variable{w w0 w':World}{S F F1 S':Nat->Prop}{g bl c mb gb ib nb:Nat}{D:DG}{C:HT->List HT}{M:List NM}{K:Value->World->Prop}
noncomputable def ie(D:DG)(h:HT)(l:List HT):HT->List HT:=fun x=>if x∈l then df (fT D x++ [h])else fT D x
structure AL(w0 w':World)(S F1 S':Nat->Prop)(g:Nat)(D:DG)(h:HT)(l:List HT)(gb ib nb:Nat)(pA:Option Addr)(pc i bl c mb:Nat)(M:List NM)(rA:Option Addr)(rn rc:Nat)(ws:List Nat):Prop where
 G:GV w' S' F1 g D (ie D h (l.take i)) bl c mb M
 sub: ∀k,S k->S' k
 new: ∀k,S' k->S k\/w0.heap.size<=k
 node:w'.heap[nb]? =some (.cells (fu h ⟨nb,pA,l.length,pc,none,0,0,rA,rn,rc,ws⟩) dF (0,0))
 WH: ¬S' nb
 row:jG w' nb rA rn rc ws
 ok:okW ws
 small:rn<=200
 WG: ∀k,bg rA=some k-> ¬S' k
 bits: ∀j,bit ws j=true↔ ∃p∈l.take i,∃nj,D[j]? =some nj/\(nj.id=p\/eT D nj.id p)
 VI:w'.heap[gb]? =some (.cells #[.pointer (some ⟨g,0,none⟩)] jR (0,0))
 ibx:w'.heap[ib]? =some (.cells h.1 ai (0,0))
 noG: ¬S' gb
 noI: ¬S' ib
 hl:HS w' pA l.length l
 kp:Kept S w0 w'
theorem Ep{h:HT}{l:List HT}{pA:Option Addr}{pc i:Nat}{rA:Option Addr}{rn rc:Nat}{ws:List Nat}{Q:aN}
 (L:AL w0 w' S F1 S' g D h l gb ib nb pA pc i bl c mb M rA rn rc ws) (W:jj D) (hD:D.length<=10000) (sX:SS l) (fh: ∀p∈l,p∈ids D) (EJ: ∀k,F1 k->k<nb) (HO: ∀a,pA=some a->F1 a.block) (h0:w0.heap.size<=nb) (dN:i<l.length) (hll:l.length<=10000)
 (hQ: ∀S2 M rA rn rc ws v,AL w0 v S F1 S2 g D h l gb ib nb pA pc (i+1) bl c mb M rA rn rc ws->Q .normal (bt.e1 ⟨gb,0,none⟩ ⟨ib,0,none⟩ 0 ⟨nb,0,none⟩ pA l.length pc (l.length:Int) ((i:Int)+1)) v):
 bt.B1 ⟨gb,0,none⟩ ⟨ib,0,none⟩ 0 ⟨nb,0,none⟩ pA l.length pc (l.length:Int) (i:Int) Q w':=by
 obtain⟨p,hp⟩: ∃p,l[i]? =some p:=⟨_,List.getElem?_eq_getElem dN⟩;have pV:=List.mem_of_getElem? hp;have Yn:=fh p pV;refine Split.yes (decide_eq_true (by omega)) ?_;refine L.hl.load (i:=(i:Int)) (by omega) hp ?_;intro qM;obtain⟨rk,iN,iU⟩:=gq (w:=w') (z:=(#[.int .u8 0,.int .u8 0,.int .u8 0,.int .u8 0,.int .u8 0,.int .u8 0,.int .u8 0,.int .u8 0,.int .u8 0,.int .u8 0,.int .u8 0,.int .u8 0,.int .u8 0,.int .u8 0,.int .u8 0,.int .u8 0,.int .u8 0,.int .u8 0,.int .u8 0,.int .u8 0,.int .u8 0,.int .u8 0,.int .u8 0,.int .u8 0,.int .u8 0,.int .u8 0,.int .u8 0,.int .u8 0,.int .u8 0,.int .u8 0,.int .u8 0,.int .u8 0]:Array Value)) (cs:=p.1) (t:=ai) (by rw [p.2.1];rfl);refine⟨⟨p.2.1,p.2.one,fun j hj=>rk j (by rw [p.2.1];exact hj)⟩,?_⟩;intro sn
 replace iN:sn.heap[w'.heap.size]? =some (.cells p.1 ai (0,0)):=iN
 replace sq:Kept Nil w' sn:=iU
 clear_value sn;refine⟨some ⟨g,0,none⟩,by rw [ax (sq.heap L.VI (fun h=>h))];rfl,p.1,⟨p.2.1,Cells.bA iN⟩,?_⟩;refine uB (L.G.same sq) p fun w40 x k40 hx=>⟨x,rfl,?_⟩;rcases hx with⟨rfl,mo⟩|⟨q,nd,m',hq,fy,lT,rfl⟩
 ·exact absurd Yn mo
 intro zo;have FQ:Kept Nil w' zo:=(sq.trans k40 (fun _ _ h=>h)).drew;have GO:zo.heap[w'.heap.size]? =some (.cells p.1 ai (0,0)):=k40.heap iN (fun h=>h);clear_value zo;have afJ:=FQ.size;have V0:=L.G.same FQ;obtain⟨m,hm,PE⟩:=V0.get hq;rw [lT]at hm;cases hm;have Ni:=FQ.heap L.node (fun h=>h);have xT:jG zo nb rA rn rc ws:=Row.aD L.row FQ (fun _ _ h=>h);refine⟨rA,rn,rc,by rw [a8,Nat.zero_add,ax Ni];exact ye _ _,?_⟩;refine⟨_,_,_,vK PE,some ⟨g,0,none⟩,by rw [ax (FQ.heap L.VI (fun h=>h))];rfl,?_⟩;refine⟨some mb,V0.at_,p.1,⟨p.2.1,Cells.bA GO⟩,_,V0.map.vQ p,?_⟩;rw [show pos p (ids D) 0=some q by rw [<-fy];exact W.pos_eq hq,Option.getD_some];have I3:=(List.getElem?_eq_some_iff.1 hq).1;have uO:=PE.small;have afx:=L.small;have XW: ∀k,bg rA=some k->nb<=k/\k<w'.heap.size:=fun k hk=>by
  obtain⟨h1,cur,hc⟩:=Row.bA L.row hk;exact⟨h1,aT hc⟩
 have Yz:nb<w'.heap.size:=aT L.node;have JW: ∀ {v:World} {A:Option Addr} {n c:Nat} {l:List Nat} {B:Nat},jG v B A n c l-> ∀ {k:Nat} {cs:Array Value} {t:TypeId},v.heap[k]? =some (.cells cs t (0,0))->t≠gZ-> ¬bg A=some k:=fun hr _ _ _ hk fE e=>by
  obtain⟨_,cur,hc⟩:=Row.bA hr e;exact jh hk hc fE rfl
 refine vG xT L.ok (by omega) (by omega) PE.past PE.ok (by omega) (fun a ha k hk e=>?_) fun A2 n2 c2 l2 JU rO Yv agf NV FO ZP=>⟨A2,n2,c2,rfl,?_⟩
 ·have h1:=EJ a.block (PE.oh a ha)
  have h2:=(XW k hk).1;omega
 have hnF: ∀k,F1 k-> ¬bg rA=some k:=fun k hk e=>by have:=EJ k hk;have:=(XW k e).1;omega
 have G52:=V0.aD FO (fun k hk e=>L.WG k e hk) hnF;have Th:=FO.heap GO (JW xT GO (by decide));have SI:=FQ.heap L.VI (fun h=>h);have ND:=FO.heap SI (JW xT SI (by decide));have SA:=FQ.heap L.ibx (fun h=>h);have Sz:=FO.heap SA (JW xT SA (by decide));have KZ:=FO.heap Ni (JW xT Ni (by decide));have afI:=FO.size;have Sn:=G52.map.vQ p;rw [show pos p (ids D) 0=some q by rw [<-fy];exact W.pos_eq hq,Option.getD_some]at Sn;refine⟨Sn,⟨p.1,rfl,p.2.1,Cells.bA Th⟩,G52.at_,by rw [ax ND];rfl,?_⟩;have T5: ∀k,bg A2=some k->bg rA=some k\/zo.heap.size<=k:=ZP;refine xR rO Yv (by omega) (by omega) (by omega) fun A3 n3 c3 l3 pq vH Yu age NU DI NY=>⟨A3,n3,c3,rfl,?_⟩;have AB: ∀k,bg A2=some k-> ¬S' k:=fun k hk hs=>by
  rcases T5 k hk with h|h
  ·exact L.WG k h hs
  ·have:=L.G.low k (.inl hs);omega
 have Gz: ∀k,F1 k-> ¬bg A2=some k:=fun k hf hk=>by
  have:=EJ k hf;have:=(Row.bA rO hk).1;omega
 have G55:=G52.aD DI (fun k hk e=>AB k e hk) Gz;have Jm:=DI.heap ND (JW rO ND (by decide));have Sy:=DI.heap Sz (JW rO Sz (by decide));have yH:=DI.heap KZ (JW rO KZ (by decide));have afH:=DI.size;have acr:=tN h ⟨nb,pA,l.length,pc,none,0,0,rA,rn,rc,ws⟩;refine⟨by rw [a8,Nat.zero_add];exact dO yH (by omega),?_⟩;intro w57 EV;have DH:Kept (· =nb) pq w57:=by
  show Kept (· =nb) pq (pq.setCell ((⟨nb,0,none⟩:Addr).add 34) (.slice A3 n3 c3))
  exact Kept.setCell (S:=fun k=>k=nb) (Kept.refl _ pq) (by rw [ee];exact fun _=>rfl) _
 have R7:w57.heap[nb]? =some (.cells (fu h ⟨nb,pA,l.length,pc,none,0,0,A3,n3,c3,l3⟩) dF (0,0)):=by
  show(pq.setCell ((⟨nb,0,none⟩:Addr).add 34) (.slice A3 n3 c3)).heap[nb]? =_;rw [a8,Nat.zero_add,cR yH 34,ya];rfl
 have DF:Kept (· =nb) pq EV:=DH.drew;have R6:EV.heap[nb]? =some (.cells (fu h ⟨nb,pA,l.length,pc,none,0,0,A3,n3,c3,l3⟩) dF (0,0)):=R7;clear_value EV;clear R7 DH;have afG:=DF.size;have G58:=G55.aD DF (fun k hk e=>L.WH (e▸hk)) (fun k hk e=>by have:=EJ k hk;omega);have SF:=DF.heap Jm (jh Jm yH (by decide));have Ny:=DF.heap Sy (jh Sy yH (by decide));have P9:jG EV nb A3 n3 c3 l3:=Row.aD vH DF (fun k hk e=>by
  subst e;exact JW vH yH (by decide) hk)
 obtain⟨m,hm,N58⟩:=G58.get hq;rw [lT]at hm;cases hm;refine⟨m'.cA,m'.cn,m'.cc,BW N58,h.1,⟨h.2.1,Cells.bA Ny⟩,h.2.1,?_⟩;intro UK;have W6:Kept Nil EV UK:=(Kept.refl _ _).alloc _;have NT:HS UK (some ⟨EV.heap.size,0,none⟩) 1 [h]:=iW EV h;clear_value UK;have G62:=G58.same W6;obtain⟨m,hm,PD⟩:=G62.get hq;rw [lT]at hm;cases hm;refine⟨BW PD,?_⟩;have Ta:=PD.ch.len;have Ct:ie D h (l.take i) nd.id=fT D p:=by
  unfold ie;rw [fy,if_neg];intro gJ;obtain⟨j,hj⟩:=List.mem_iff_getElem?.1 gJ;rw [List.getElem?_take]at hj;split at hj
  ·have:=sX.get (by omega) hj hp
   rw [gz]at this;cases this
  ·cases hj
 have pW:=me D fun a=>mS D p a;have Vo:m'.cn<=10000:=by
  rw [<-Ta,Ct];unfold fT;omega
 obtain⟨A7,c7,Ew,X1,P8,Y9,ZN⟩:=cD (cx:=1) ay PD.ch NT (by omega) (Nat.zero_le _);have DE:Kept (fun k=>bg m'.cA=some k) UK Ew:=Kept.grown (Kept.refl _ _) Y9 (fun k hk _=>hk);refine⟨A7,_,c7,Ew,X1,?_⟩;have afF:=W6.size;have Rr:=DE.size;refine hZ P8.hs (by omega) fun A5 c5 LI Fs W5=>⟨A5,_,c5,rfl,?_⟩;have afE:=W5.size;have Sc:=DE.heap PD.bA (fun e=>by
  obtain⟨_,cur,hc⟩:=Row.bA PD.ch e;exact jh PD.bA hc (by decide) rfl)
 have GC:=W5.heap Sc (fun h=>h);refine⟨by rw [a8,Nat.zero_add];exact dO GC (by rw [tN];omega),?_⟩;intro Bx;have QP:Kept (· =m'.b) LI Bx:=by
  show Kept (· =m'.b) LI (LI.setCell ((⟨m'.b,0,none⟩:Addr).add 33) (.slice A5 (df (ie D h (l.take i) nd.id++ [h])).length c5))
  exact Kept.setCell (S:=fun k=>k=m'.b) (Kept.refl _ LI) (by rw [ee];exact fun _=>rfl) _
 have Sb:Bx.heap[m'.b]? =some (.cells (fu nd.id {m' with cA:=A5,cn:=(df (ie D h (l.take i) nd.id++ [h])).length,cc:=c5}) dF (0,0)):=by
  show(LI.setCell ((⟨m'.b,0,none⟩:Addr).add 33) (.slice A5 (df (ie D h (l.take i) nd.id++ [h])).length c5)).heap[m'.b]? =_;rw [a8,Nat.zero_add,cR GC 33,yc]
 clear_value Bx;have kT:Kept (fun k=>bg m'.cA=some k\/k=m'.b) EV Bx:=
  (((W6.mono (S':=fun k=>bg m'.cA=some k\/k=m'.b) (fun _ _ h=>h.elim)).trans DE (fun _ _ h=>.inl h)).trans W5 (fun _ _ h=>h.elim)).trans QP (fun _ _ h=>.inr h)
 have Gr:bQ Bx EV.heap.size A5 (df (ie D h (l.take i) nd.id++ [h])).length c5 (df (ie D h (l.take i) nd.id++ [h])):=
  Row.base (Row.aD Fs QP (fun k hk e=>by
   subst e;obtain⟨_,cur,hc⟩:=Row.bA Fs hk;exact jh GC hc (by decide) rfl)) (fun k hk=>by have:=(Row.bA Fs hk).1;omega)
 have G69:=G58.upd W hq lT kT Sb Gr;have D5: ∀k,bg A5=some k->EV.heap.size<=k:=fun k hk=>(Row.bA Gr hk).1;have Pt: ∀k,(bg m'.cA=some k\/k=m'.b)->S' k:=fun k e=>by
  rcases e with e|rfl
  ·exact N58.Oz k e
  ·exact N58.fG
 have hkf:(fun x=>if x=nd.id then df (ie D h (l.take i) nd.id++ [h])else ie D h (l.take i) x)=ie D h (l.take (i+1)):=by
  funext x
  by_cases hx:x=nd.id
  ·rw [if_pos hx,Ct,hx,fy]
   unfold ie;rw [if_pos ((bE hp).2 (.inr rfl))]
  ·rw [if_neg hx]
   unfold ie;have:x∈l.take (i+1)↔x∈l.take i:=by
    rw [bE hp];exact⟨fun e=>e.resolve_right (fun e=>hx (by rw [fy];exact e)),.inl⟩
   by_cases hm:x∈l.take i
   ·rw [if_pos hm,if_pos (this.2 hm)]
   ·rw [if_neg hm,if_neg (fun e=>hm (this.1 e))]
 rw [hkf]at G69;rw [dG (n:=(i:Int)) (by omega) (by omega)];have acC:nb<EV.heap.size:=aT R6;have jW:Kept S w0 Bx:=by
  have k1:=L.kp.trans FQ (fun _ _ h=>h.elim);have k2:=k1.trans FO (fun k hk e=>absurd (XW k e).1 (by omega));have k3:=k2.trans DI (fun k hk e=>absurd (Row.bA rO e).1 (by omega));have k4:=k3.trans DF (fun k hk e=>by omega);exact k4.trans kT (fun k hk e=>by
   rcases L.new k (Pt k e)with h|h
   ·exact h
   ·omega)
 refine hQ _ _ A3 n3 c3 l3 Bx ⟨G69,fun k hk=>.inl (L.sub k hk),fun k hk=>?_,kT.heap R6 (fun e=>L.WH (Pt _ e)),fun e=>?_,Row.aD P9 kT (fun k hk e=>?_),Yu,by omega,fun k hk e=>?_,fun j=>?_,
  kT.heap SF (fun e=>L.noG (Pt _ e)),kT.heap Ny (fun e=>L.noI (Pt _ e)),fun e=>?_,fun e=>?_,?_,jW⟩
 ·rcases hk with hk|hk
  ·exact L.new k hk
  ·have:=D5 k hk
   have:=L.kp.size;exact .inr (by omega)
 ·rcases e with e|e
  ·exact L.WH e
  ·have:=D5 _ e;omega
 ·have hs:=Pt k e
  rcases NY k hk with h|h
  ·exact AB k h hs
  ·have:=L.G.low k (.inl hs);omega
 ·have hk3:k<pq.heap.size:=by
   obtain⟨_,cur,hc⟩:=Row.bA vH hk;exact aT hc
  rcases e with e|e
  ·rcases NY k hk with h|h
   ·exact AB k h e
   ·have:=L.G.low k (.inl e);omega
  ·have:=D5 _ e;omega
 ·rw [NU,Bool.or_eq_true,NV,Bool.or_eq_true,L.bits,PE.bits,decide_eq_true_iff]
  constructor
  ·rintro((⟨p',h1,h2⟩|⟨nj,h1,h2⟩)|rfl)
   ·exact⟨p',(bE hp).2 (.inl h1),h2⟩
   ·exact⟨p,(bE hp).2 (.inr rfl),nj,h1,.inr (fy▸h2)⟩
   ·exact⟨p,(bE hp).2 (.inr rfl),nd,hq,.inl fy⟩
  ·rintro⟨p',h1,nj,h2,h3⟩
   rcases(bE hp).1 h1 with h1|rfl
   ·exact .inl (.inl ⟨p',h1,nj,h2,h3⟩)
   ·rcases h3 with h3|h3
    ·exact .inr (W.inj h2 hq (h3.trans fy.symm))
    ·exact .inl (.inr ⟨nj,h2,fy▸h3⟩)
 ·rcases e with e|e
  ·exact L.noG e
  ·have:=D5 _ e;have:=aT SF;omega
 ·rcases e with e|e
  ·exact L.noI e
  ·have:=D5 _ e;have:=aT Ny;omega
 ·have hb: ∀a,pA=some a->F1 a.block/\a.block<nb:=fun a ha=>⟨HO a ha,EJ _ (HO a ha)⟩
  have k1:=L.hl.same FQ;have k2:=k1.aD FO (fun a ha=>hnF _ (hb a ha).1);have k3:=k2.aD DI (fun a ha=>Gz _ (hb a ha).1);have k4:=k3.aD DF (fun a ha e=>by have:=(hb a ha).2;omega);exact k4.aD kT (fun a ha e=>L.G.EL _ (Pt _ e) (hb a ha).1)
end
end Go.Proofs.YtnboahlopghcjaaGreatDoor
namespace Go.Proofs.YtnboahlopghcjaaGreatDoor
open Go.Proofs.Tryz
open Go Go.bS Go.RowKit
theorem P1:xu prog ko eI 1 8:=⟨by kernel_rfl,by kernel_rfl⟩
theorem Hl:PA prog dF=some ([(0,32),(32,1),(33,1),(34,1)],List.replicate 32 (.int .u8 0)++ [.slice none 0 0,.slice none 0 0,.slice none 0 0]):=by kernel_rfl
theorem Hj(h:HT)(b:Nat)(A:Option Addr)(n c:Nat):prog.built dF [(0,.agg h.1),(1,.slice A n c)]=some (fu h ⟨b,A,n,c,none,0,0,none,0,0,[]⟩):=by
 have hs:=h.2.1;rw [mv Hl,hU (off:=0) (size:=32) rfl (by simpa [Value.cells]using hs) (by simp),hU (off:=32) (size:=1) rfl rfl (by
  rw [List.size_toArray,kX (by simp [Value.cells,hs])];simp)]
 simp only [Instr.fill,Option.some.injEq];apply Array.ext';unfold ga fu;simp [Value.cells,hs];rw [List.drop_append];simp [hs]
theorem Eh(h:HT)(b:Nat):prog.built dF [(0,.agg h.1)]=some (fu h ⟨b,none,0,0,none,0,0,none,0,0,[]⟩):=by
 have hs:=h.2.1;rw [mv Hl,hU (off:=0) (size:=32) rfl (by simpa [Value.cells]using hs) (by simp)];simp only [Instr.fill,Option.some.injEq];apply Array.ext';unfold ga fu;simp [Value.cells,hs]
section
variable{D:DG}{h:HT}{l:List HT}
theorem Bc(W:jj D)(hn:h∉ids D){x:HT}:ie D h l x=fT (D++ [⟨h,l⟩]) x:=by
 have gJ: ∀a,a∈fT (D++ [⟨h,l⟩]) x↔(a∈fT D x\/(a=h/\x∈l)):=fun a=>by
  unfold fT;rw [iS,iS,mf,jX,List.mem_append,List.mem_singleton];constructor
  ·rintro⟨h1,h2|⟨h2,h3⟩⟩
   ·exact .inl ⟨(eT.mem W (.one h2)).2,h2⟩
   ·exact .inr ⟨h2.symm,h3⟩
  ·rintro(⟨h1,h2⟩|⟨rfl,h2⟩)
   ·exact⟨.inl h1,.inl h2⟩
   ·exact⟨.inr rfl,.inr ⟨rfl,h2⟩⟩
 unfold ie;by_cases sW:x∈l
 ·rw [if_pos sW]
  refine(wz (l:=fT (D++ [⟨h,l⟩]) x) (ig _) fun a=>?_).symm;rw [gJ,List.mem_append,List.mem_singleton];exact⟨fun e=>e.imp (fun e=>e) (fun e=>e.1),fun e=>e.imp (fun e=>e) (fun e=>⟨e,sW⟩)⟩
 ·rw [if_neg sW]
  refine xj (ig _) (ig _) fun a=>?_;have:=gJ a;unfold fT pick at this⊢;rw [this];exact⟨.inl,fun e=>e.resolve_right (fun e=>sW e.2)⟩
theorem Eg(W:jj D)(hn:h∉ids D)(fh: ∀p∈l,p∈ids D):fT (D++ [⟨h,l⟩]) h= []:=by
 cases hc:fT (D++ [⟨h,l⟩]) h with
 |nil=>rfl
 |cons b t=>
  exfalso;have:b∈fT (D++ [⟨h,l⟩]) h:=by rw [hc];simp
  rcases mf.1 (iS.1 this).2 with h1|⟨_,h2⟩
  ·exact hn (eT.mem W (.one h1)).1
  ·exact hn (fh h h2)
theorem Hm(W:jj D)(hn:h∉ids D){x:HT}(hx:x∈ids D)(j:Nat):(∃nj,(D++ [⟨h,l⟩])[j]? =some nj/\eT (D++ [⟨h,l⟩]) nj.id x)↔ ∃nj,D[j]? =some nj/\eT D nj.id x:=by
 constructor
 ·rintro⟨nj,h1,h2⟩
  have ui:=(iE W (nd:=⟨h,l⟩) hn hx).1 h2;rw [List.getElem?_append]at h1;split at h1
  ·exact⟨nj,h1,ui⟩
  ·exfalso
   have:nj=⟨h,l⟩:=by
    cases hk:j-D.length with
    |zero=>rw [hk]at h1;simpa using h1.symm
    |succ k=>rw [hk]at h1;simp at h1
   subst this;exact hn (ui.mem W).1
 ·rintro⟨nj,h1,h2⟩
  exact⟨nj,by rw [List.getElem?_append_left (List.getElem?_eq_some_iff.1 h1).1];exact h1,(iE W (nd:=⟨h,l⟩) hn hx).2 h2⟩
theorem Hn(W:jj D)(hn:h∉ids D)(fh: ∀p∈l,p∈ids D)(hs:SS l)(j:Nat):
 (∃nj,(D++ [⟨h,l⟩])[j]? =some nj/\eT (D++ [⟨h,l⟩]) nj.id h)↔ ∃p∈l,∃nj,D[j]? =some nj/\(nj.id=p\/eT D nj.id p):=by
 have W':jj (D++ [⟨h,l⟩]):=W.snoc (nd:=⟨h,l⟩) hn fh hs;have fR:(D++ [⟨h,l⟩])[D.length]? =some ⟨h,l⟩:=by rw [List.getElem?_append_right (Nat.le_refl _),Nat.sub_self];rfl
 have key: ∀a,eT (D++ [⟨h,l⟩]) a h↔ ∃p∈l,a=p\/eT D a p:=fun a=>by
  rw [tf W' fR a];constructor
  ·rintro⟨p,hp,e⟩
   exact⟨p,hp,e.imp (fun e=>e) (fun e=>(iE W (nd:=⟨h,l⟩) hn (fh p hp)).1 e)⟩
  ·rintro⟨p,hp,e⟩
   exact⟨p,hp,e.imp (fun e=>e) (fun e=>(iE W (nd:=⟨h,l⟩) hn (fh p hp)).2 e)⟩
 constructor
 ·rintro⟨nj,h1,h2⟩
  obtain⟨p,hp,e⟩:=(key _).1 h2;have hid:nj.id∈ids D:=by
   rcases e with e|e
   ·rw [e];exact fh p hp
   ·exact(e.mem W).1
  rw [List.getElem?_append]at h1;split at h1
  ·exact⟨p,hp,nj,h1,e⟩
  ·exfalso
   have:nj=⟨h,l⟩:=by
    cases hk:j-D.length with
    |zero=>rw [hk]at h1;simpa using h1.symm
    |succ k=>rw [hk]at h1;simp at h1
   subst this;exact hn hid
 ·rintro⟨p,hp,nj,h1,e⟩
  exact⟨nj,by rw [List.getElem?_append_left (List.getElem?_eq_some_iff.1 h1).1];exact h1,(key _).2 ⟨p,hp,e⟩⟩
end
section
variable{w w':World}{S F F':Nat->Prop}{g bl c mb:Nat}{D:DG}{C:HT->List HT}{M:List NM}{K:Value->World->Prop}
theorem GV.Qm(G:GV w S F g D C bl c mb M)(hf: ∀k,F k->F' k)(hd: ∀k,S k-> ¬F' k)(hl: ∀k,F' k->k<w.heap.size):GV w S F' g D C bl c mb M:=
 ⟨G.top,G.row,G.map,G.len,fun i nd m h1 h2=>by
   have N:=G.node i nd m h1 h2;exact⟨N.bA,N.fG,N.ps,fun a ha=>hf _ (N.Ik a ha),N.ch,N.Oz,N.past,fun a ha=>hf _ (N.oh a ha),N.ok,N.bits,N.small⟩,G.apart,G.gC,G.sd,G.uv,hd,fun k hk=>hk.elim (fun h=>G.low k (.inl h)) (hl k)⟩
theorem JR{w0:World}{F1 S':Nat->Prop}{h:HT}{l:List HT}{gb ib nb:Nat}{pA:Option Addr}{pc i:Nat}{rA:Option Addr}{rn rc:Nat}{ws:List Nat}
 (L:AL w0 w S F1 S' g D h l gb ib nb pA pc i bl c mb M rA rn rc ws) (W:jj D) (hD:D.length<=5000) (sX:SS l) (fh: ∀p∈l,p∈ids D) (hn:h∉ids D) (EJ: ∀k,F1 k->k<nb) (HO: ∀a,pA=some a->F1 a.block) (h0:w0.heap.size<=nb) (dN:l.length<=i)
 (hK: ∀v S2 F2,Bs v S2 F2 g (D++ [⟨h,l⟩])->Kept S w0 v->(∀k,S2 k->S k\/w0.heap.size<=k)->(∀k,F2 k->F1 k\/w0.heap.size<=k)->K (.int .i64 0) v):
 bt.Et ⟨gb,0,none⟩ ⟨ib,0,none⟩ 0 ⟨nb,0,none⟩ pA l.length pc (l.length:Int) (i:Int) K w:=by
 have Rm:l.take i=l:=List.take_of_length_le dN;have hG:=L.G;rw [Rm]at hG;have Lf:=L.bits;rw [Rm]at Lf;unfold bt.Et;intro OR;have Kl:Kept Nil w OR:=(Kept.refl _ _).drew;clear_value OR;have th:=hG.same Kl;have Jl:=Kl.heap L.VI (fun h=>h);have GA:=Kl.heap L.node (fun h=>h);have BK:jG OR nb rA rn rc ws:=Row.aD L.row Kl (fun _ _ h=>h);refine⟨some ⟨g,0,none⟩,by rw [ax Jl];rfl,some mb,th.at_,h.1,⟨h.2.1,Cells.bA (Kl.heap L.ibx (fun h=>h))⟩,some ⟨g,0,none⟩,by rw [ax Jl];rfl,?_⟩;refine⟨_,_,_,th.nodes,?_⟩;obtain⟨w85,Rz,Qs,k85⟩:=th.map.put hn;rw [fI]at Rz;refine⟨w85,Rz,?_⟩;intro H8;have Mm:Kept (· =mb) OR H8:=k85.drew;have Kf:IsMap H8 mb (ids D++ [h]):=Qs.aD ((Kept.refl Nil w85).drew) (fun h=>h);clear_value H8;have Ib: ∀ {v:World} {k:Nat} {cs:Array Value} {t:TypeId},IsMap v mb (ids D)->v.heap[k]? =some (.cells cs t (0,0))->k≠mb:=fun hm hk e=>by
  obtain⟨es,clock,Je,_⟩:=hm.ex;rw [e,Je]at hk;cases hk
 have NC:=Mm.heap Jl (Ib th.map Jl);have agd:=Mm.heap GA (Ib th.map GA);have Gi:=Mm.heap th.top (Ib th.map th.top);have P7:Row H8 0 eI 1 (some ⟨bl,0,none⟩) D.length c (M.map fun m=>.pointer (some ⟨m.b,0,none⟩)):=Row.aD th.row Mm (fun k hk e=>by
  obtain⟨_,cur,hc⟩:=Row.bA th.row hk;exact Ib th.map hc e)
 have Wx:jG H8 nb rA rn rc ws:=Row.aD BK Mm (fun k hk e=>by
  obtain⟨_,cur,hc⟩:=Row.bA BK hk;exact Ib th.map hc e)
 refine⟨some ⟨g,0,none⟩,by rw [ax NC];rfl,some ⟨g,0,none⟩,by rw [ax NC];rfl,?_⟩;refine⟨some ⟨bl,0,none⟩,D.length,c,by rw [add_zero,ax Gi];rfl,?_⟩;intro LG;have O3:Kept Nil H8 LG:=(Kept.refl _ _).alloc _;have ZM:LG.heap[H8.heap.size]? =some (.cells #[.pointer (some ⟨nb,0,none⟩)] eI (0,0)):=aH H8 _;clear_value LG;have Jk:=O3.heap NC (fun h=>h);have Al:=O3.heap Gi (fun h=>h);refine⟨by rw [add_zero,ax Al];rfl,by rw [ax Jk];rfl,by rw [ax Jk];rfl,?_⟩;have Fp:Row LG 0 eI 1 (some ⟨bl,0,none⟩) D.length c (M.map fun m=>.pointer (some ⟨m.b,0,none⟩)):=Row.aD P7 O3 (fun _ _ h=>h);obtain⟨V8,Pz,LF,XZ,Fo,SC,ZL⟩:=e8 (P:=prog) (t:=ko) (ty:=ko) (bytes:=8) P1 Fp (a:=⟨H8.heap.size,0,none⟩) (m:=1) (cx:=1) (news:= [.pointer (some ⟨nb,0,none⟩)]) rfl
  (fun j u hj=>by rw [a8,Nat.zero_add,ax ZM];simpa using hj) (fun u hu=>by simp at hu;subst hu;rfl) (by omega) (by unfold maxLen;omega) (Nat.zero_le _)
 have UW:Kept (· =bl) LG LF:=Kept.grown (S:=fun k=>k=bl) (Kept.refl _ _) SC (fun k hk _=>by cases hk;rfl);refine⟨V8,_,Pz,LF,XZ,?_⟩;have tyL: ∀ {k:Nat} {cs:Array Value} {t:TypeId},LG.heap[k]? =some (.cells cs t (0,0))->t≠eI->k≠bl:=fun hk fE=>by
  obtain⟨_,cur,hc⟩:=Row.bA Fp (k:=bl) rfl;exact jh hk hc fE
 have Y7:=UW.heap Jk (tyL Jk (by decide));have wS:=UW.heap Al (tyL Al (by decide));refine⟨by rw [ax Y7];rfl,by rw [add_zero];exact dO wS (by simp),?_⟩;intro HC;have W3:Kept (· =g) LF HC:=by
  show Kept (· =g) LF (LF.setCell ((⟨g,0,none⟩:Addr).add 0) (.slice V8 (D.length+1) Pz))
  exact Kept.setCell (S:=fun k=>k=g) (Kept.refl _ LF) (by rw [ee];exact fun _=>rfl) _
 have MY:HC.heap[g]? =some (.cells #[.slice V8 (D.length+1) Pz,.map (some mb)] gv (0,0)):=by
  show(LF.setCell ((⟨g,0,none⟩:Addr).add 0) (.slice V8 (D.length+1) Pz)).heap[g]? =_;rw [add_zero,cR wS 0];rfl
 clear_value HC;obtain⟨PC,rfl⟩:=Row.some Fo (by omega);have afC:=Mm.size;have afB:=O3.size;have jW:Kept (fun k=>k=g\/k=bl\/k=mb) OR HC:=
  (((Mm.mono (S':=fun k=>k=g\/k=bl\/k=mb) (fun _ _ h=>.inr (.inr h))).trans O3 (fun _ _ h=>h.elim)).trans UW (fun _ _ h=>.inr (.inl h))).trans W3 (fun _ _ h=>.inl h)
 have hTF: ∀k,F1 k-> ¬(k=g\/k=bl\/k=mb):=fun k hk e=>by
  rcases e with rfl|rfl|rfl
  ·exact th.EL _ th.gC hk
  ·exact th.EL _ th.sd hk
  ·exact th.EL _ th.uv hk
 have ty: ∀ {k:Nat} {cs:Array Value} {t:TypeId},OR.heap[k]? =some (.cells cs t (0,0))->t≠gv->t≠eI-> ¬(k=g\/k=bl\/k=mb):=fun hk h1 h2 e=>by
  rcases e with e|e|e
  ·rw [e]at hk
   exact jh hk th.top h1 rfl
  ·rw [e]at hk
   obtain⟨_,cur,hc⟩:=Row.bA th.row (k:=bl) rfl;exact jh hk hc h2 rfl
  ·exact Ib th.map hk e
 have Ao:Row HC 0 eI 1 (some ⟨PC,0,none⟩) (D.length+1) Pz ((M.map fun m=>.pointer (some ⟨m.b,0,none⟩))++ [.pointer (some ⟨nb,0,none⟩)]):=Row.aD Fo W3 (fun k hk e=>by
  obtain⟨_,cur,hc⟩:=Row.bA Fo hk;exact jh hc wS (by decide) e)
 have Qr:IsMap HC mb (ids D++ [h]):=by
  obtain⟨es,clock,Je,_⟩:=Kf.ex;have h1:=Kf.aD O3 (fun h=>h);have h2:=h1.aD UW (fun e=>by
   obtain⟨_,cur,hc⟩:=Row.bA Fp (k:=bl) rfl;obtain⟨_,_,lT,_⟩:=h1.ex;rw [e,hc]at lT;cases lT)
  exact h2.aD W3 (fun e=>by
   obtain⟨_,_,lT,_⟩:=h2.ex;rw [e,wS]at lT;cases lT)
 have Nh:=jW.heap GA (ty GA (by decide) (by decide));have wD:jG HC nb rA rn rc ws:=Row.aD BK jW (fun k hk e=>by
  obtain⟨_,cur,hc⟩:=Row.bA BK hk;exact ty hc (by decide) (by decide) e)
 have GD:(D++ [(⟨h,l⟩:DN)]).length=D.length+1:=by simp
 have Tv:PC=bl\/LG.heap.size<=PC:=by
  rcases ZL PC rfl with e|e
  ·exact .inl (by cases e;rfl)
  ·exact .inr e
 have kR:=L.kp.size;have afD:=Kl.size;have Yz:=aT GA;have Ry: ∀k,bg rA=some k->nb<=k/\k<HC.heap.size:=fun k hk=>by
  obtain⟨h1,cur,hc⟩:=Row.bA wD hk;exact⟨h1,aT hc⟩
 have fR: ∀ {X:Type} (xs:List X) (y:X) (j:Nat) (z:X),(xs++ [y])[j]? =some z->(j<xs.length/\xs[j]? =some z)\/(j=xs.length/\z=y):=fun xs y j z e=>by
  rw [List.getElem?_append]at e;split at e
  ·rename_i cH;exact .inl ⟨cH,e⟩
  ·rename_i fV
   cases hk:j-xs.length with
   |zero=>rw [hk]at e;exact .inr ⟨by omega,by simpa using e.symm⟩
   |succ k=>rw [hk]at e;simp at e
 refine hK HC (fun k=>S' k\/k=nb\/k=PC) (fun k=>F1 k\/bg rA=some k) ⟨PC,Pz,mb,M++ [⟨nb,pA,l.length,pc,none,0,0,rA,rn,rc,ws⟩],?_⟩ ?_ ?_ ?_
 ·refine⟨by rw [GD];exact MY,?_,by rw [jX];exact Qr,by simp [hG.len],fun j nd m h1 h2=>?_,fun j j' m m' h1 h2 fE k hk nh=>?_,.inl hG.gC,.inr (.inr rfl),.inl hG.uv,fun k hk hf=>?_,fun k hk=>?_⟩
  ·rw [GD,List.map_append]
   exact Ao
  ·rcases fR _ _ _ _ h1 with⟨hj,r9⟩|⟨hj,rfl⟩
   ·rcases fR _ _ _ _ h2 with⟨_,ui⟩|⟨ud,_⟩
    ·have N:=th.node j nd m r9 ui
     have hid:nd.id∈ids D:=dI.2 ⟨nd,List.mem_of_getElem? r9,rfl⟩;have hF: ∀k,F1 k-> ¬(k=g\/k=bl\/k=mb):=hTF;rw [<-Bc W hn];refine⟨jW.heap N.bA (ty N.bA (by decide) (by decide)),.inl N.fG,N.ps.aD jW (fun a ha=>hF _ (N.Ik a ha)),fun a ha=>.inl (N.Ik a ha),Row.aD N.ch jW (fun k hk e=>?_),fun k hk=>.inl (N.Oz k hk),N.past.aD jW (fun a ha=>hF _ (N.oh a ha)),fun a ha=>.inl (N.oh a ha),N.ok,fun j=>?_,N.small⟩
     ·obtain⟨cur,hc⟩:=(Row.bA N.ch hk).2
      exact ty hc (by decide) (by decide) e
     ·rw [N.bits,Hm W hn hid]
    ·rw [hG.len]at ud;omega
   ·rcases fR _ _ _ _ h2 with⟨ud,_⟩|⟨_,rfl⟩
    ·rw [hG.len]at ud;omega
    ·rw [Eg W hn fh]
     refine⟨Nh,.inr (.inl rfl),(L.hl.same Kl).aD jW (fun a ha=>hTF _ (HO a ha)),fun a ha=>.inl (HO a ha),bQ.nil _ _,(fun k hk=>by cases hk),wD.us,fun a ha=>.inr (congrArg bg ha),L.ok,fun j=>?_,L.small⟩;rw [Lf,Hn W hn fh sX]
  ·rcases fR _ _ _ _ h1 with⟨_,r9⟩|⟨_,rfl⟩
   ·rcases fR _ _ _ _ h2 with⟨_,ui⟩|⟨_,rfl⟩
    ·exact hG.apart j j' m m' r9 ui fE k hk nh
    ·cases nh
   ·cases hk
  ·rcases hk with hk|rfl|rfl
   ·rcases hf with hf|hf
    ·exact hG.EL k hk hf
    ·exact L.WG k hf hk
   ·rcases hf with hf|hf
    ·have:=EJ k hf;omega
    ·obtain⟨_,cur,hc⟩:=Row.bA wD hf
     exact jh Nh hc (by decide) rfl
   ·rcases hf with hf|hf
    ·rcases Tv with e|e
     ·rw [e]at hf;exact hG.EL _ hG.sd hf
     ·have:=EJ _ hf;omega
    ·obtain⟨_,cur,hc⟩:=Row.bA wD hf
     obtain⟨_,Uk,sC⟩:=Row.bA Ao (k:=k) rfl;exact jh sC hc (by decide) rfl
  ·have afA:=jW.size
   rcases hk with(hk|rfl|rfl)|hk|hk
   ·have:=th.low k (.inl hk);omega
   ·exact aT Nh
   ·obtain⟨_,Uk,sC⟩:=Row.bA Ao (k:=k) rfl
    exact aT sC
   ·have:=th.low k (.inr hk);omega
   ·exact(Ry k hk).2
 ·exact(L.kp.trans Kl (fun _ _ h=>h.elim)).trans jW (fun k hk e=>by
   have hs:S' k:=by
    rcases e with rfl|rfl|rfl
    ·exact hG.gC
    ·exact hG.sd
    ·exact hG.uv
   rcases L.new k hs with h|h
   ·exact h
   ·omega)
 ·intro k hk
  rcases hk with hk|rfl|rfl
  ·exact L.new k hk
  ·exact .inr h0
  ·rcases Tv with e|e
   ·rw [e];exact L.new _ hG.sd
   ·exact .inr (by omega)
 ·intro k hk
  rcases hk with hk|hk
  ·exact .inl hk
  ·exact .inr (by have:=(Ry k hk).1;omega)
theorem JH(G:GV w S F g D (fT D) bl c mb M)(W:jj D)(hD:D.length<=5000){A:Option Addr}{n cx:Nat}{lp:List HT}(hl:HS w A n lp)(hn:n<=10000)(h:HT)
 (hK: ∀v S2 F2,Bs v S2 F2 g (lI D h lp)->Kept S w v->(∀k,S2 k->S k\/w.heap.size<=k)->(∀k,F2 k->F k\/w.heap.size<=k)->K (.int .i64 (dg D h lp)) v):
 bk prog bt.id #[.pointer (some ⟨g,0,none⟩),.agg h.1,.slice A n cx] w K:=by
 have hlen:=hl.len;have mo: ∀v,Kept Nil w v-> ∀e,dg D h lp=e->e≠0->K (.int .i64 e) v:=fun v k e he fE=>by
  have:=hK v S F ?_ (k.mono fun _ _ h=>h.elim) (fun _ h=>.inl h) (fun _ h=>.inl h)
  ·rw [he]at this;exact this
  ·unfold lI
   rw [if_neg (by rw [he];exact fE)];exact⟨bl,c,mb,M,G.same k⟩
 refine bt.of ?_;unfold bt.W;intro w4 w5;have k4:Kept Nil w w4:=(Kept.refl _ _).alloc _;have Cw:w4.heap[w.heap.size]? =some (.cells #[.pointer (some ⟨g,0,none⟩)] jR (0,0)):=aH w _;have k5:Kept Nil w4 w5:=(Kept.refl _ _).alloc _;have Ji:w5.heap[w4.heap.size]? =some (.cells h.1 ai (0,0)):=aH w4 _;have SH:=k5.heap Cw (fun h=>h);clear_value w5;have Kh:Kept Nil w w5:=k4.trans k5 (fun _ _ h=>h);have Nz:w.heap.size<w4.heap.size:=aT Cw;have agF:w4.heap.size<w5.heap.size:=aT Ji;clear_value w4;refine hZ (hl.same Kh) (by omega) fun EP Un w7 Ih k7=>⟨EP,_,Un,rfl,?_⟩;have z6:Kept Nil w w7:=Kh.trans k7 (fun _ _ h=>h);have Y8:=k7.heap SH (fun h=>h);have hi7:=k7.heap Ji (fun h=>h);have G7:=G.same z6;have Cl:(df lp).length<=n:=by have:=oN lp;omega
 refine⟨some ⟨g,0,none⟩,by rw [ax Y8];rfl,wj G7 ⟨true,rfl,Split.no rfl ?_⟩⟩;refine⟨some ⟨g,0,none⟩,by rw [ax Y8];rfl,h.1,⟨h.2.1,Cells.bA hi7⟩,tc G7 h fun je mX=>⟨_,rfl,?_⟩⟩;have FL:=z6.trans mX (fun _ _ h=>h);by_cases hm:h∈ids D
 ·refine Split.yes (decide_eq_true hm) (mo je FL 7 ?_ (by omega))
  unfold dg;rw [if_pos hm]
 refine Split.no (decide_eq_false hm) ?_;by_cases h0:(df lp).length=0
 ·refine Split.yes (by simp [h0]) (mo je FL 9 ?_ (by omega))
  unfold dg;rw [if_neg hm,if_pos (.inl h0)]
 refine Split.no (beq_eq_false_iff_ne.2 (by omega)) ?_;by_cases h1:(df lp).length≠n
 ·refine Split.yes (bne_iff_ne.2 (by omega)) (mo je FL 9 ?_ (by omega))
  unfold dg;rw [if_neg hm,if_pos (.inr (by omega))]
 replace h1:(df lp).length=n:=by omega
 refine Split.no (by rw [h1];simp) ?_;have SK:=mX.heap Y8 (fun h=>h);have Ka:=Row.aD Ih mX (fun _ _ h=>h);refine y5 (G.same FL) SK (bQ.hs Ka) (by omega) fun nI x hx vW=>⟨x,rfl,?_⟩;have FK:=FL.trans vW (fun _ _ h=>h);cases x with
 |true=>
  refine Split.yes rfl (mo nI FK 6 ?_ (by omega));unfold dg;rw [if_neg hm,if_neg (by omega),if_pos (hx.1 rfl)]
 |false=>
  have fh: ∀p∈df lp,p∈ids D:=fun p hp=>Classical.byContradiction fun Yx=>by have:=hx.2 ⟨p,hp,Yx⟩;cases this
  have Tg:dg D h lp=0:=by
   unfold dg;rw [if_neg hm,if_neg (by omega),if_neg (fun⟨p,hp,I6⟩=>I6 (fh p hp))]
  have hD':lI D h lp=D++ [⟨h,df lp⟩]:=by unfold lI;rw [if_pos Tg]
  rw [Tg,hD']at hK;refine Split.no rfl ?_;have SB:=vW.heap (mX.heap hi7 (fun h=>h)) (fun h=>h);have NH:=vW.heap SK (fun h=>h);have vI:bQ nI w5.heap.size EP (df lp).length Un (df lp):=Row.aD Ka vW (fun _ _ h=>h);refine⟨h.1,⟨h.2.1,Cells.bA SB⟩,?_⟩;rw [Hj h nI.heap.size];refine Is.mk rfl ?_;intro HE;have Mt:Kept Nil nI HE:=(Kept.refl _ _).alloc _;have YA:HE.heap[nI.heap.size]? =some (.cells (fu h ⟨nI.heap.size,EP,(df lp).length,Un,none,0,0,none,0,0,[]⟩) dF (0,0)):=aH nI _;clear_value HE;have Qz:=FK.trans Mt (fun _ _ h=>h);have Ot: ∀k,bg EP=some k->w5.heap.size<=k/\k<nI.heap.size:=fun k hk=>by
   obtain⟨e1,cur,hc⟩:=Row.bA vI hk;exact⟨e1,aT hc⟩
  have hs5:=Kh.size;have afO:=FK.size;have EJ: ∀k,(F k\/bg EP=some k)->k<nI.heap.size:=fun k hk=>by
   rcases hk with hk|hk
   ·have:=G.low k (.inr hk);omega
   ·exact(Ot k hk).2
  have Jw: ∀k,S k->k<w.heap.size:=fun k hk=>G.low k (.inl hk);have G23:GV HE S (fun k=>F k\/bg EP=some k) g D (fT D) bl c mb M:=(G.same Qz).Qm (fun _ h=>.inl h) (fun k hs e=>by
   rcases e with e|e
   ·exact G.EL k hs e
   ·have:=Jw k hs;have:=(Ot k e).1;omega) (fun k hk=>by have:=EJ k hk;have:=Mt.size;omega)
  have Ct:ie D h ((df lp).take 0)=fT D:=by
   funext y
   unfold ie;rw [if_neg (by simp)]
  have L0:AL w HE S (fun k=>F k\/bg EP=some k) S g D h (df lp) w.heap.size w4.heap.size nI.heap.size EP Un 0 bl c mb M none 0 0 []:=
   ⟨by rw [Ct];exact G23,fun _ h=>h,fun _ h=>.inl h,YA,fun e=>by have:=Jw _ e;omega,Row.nil _ _ _ _,by simp [okW],by omega,(fun k hk=>by cases hk),fun j=>by simp [xa],Mt.heap NH (fun h=>h),Mt.heap SB (fun h=>h),
     fun e=>by have:=Jw _ e;omega,fun e=>by have:=Jw _ e;omega,(vI.hs).same Mt,Qz.mono fun _ _ h=>h.elim⟩
  refine bt.b9 (I:=fun s v=> ∃(i:Nat) (S2:Nat->Prop) (M2:List NM) (rA:Option Addr) (rn rc:Nat) (ws:List Nat),s=(i:Int)/\i<=(df lp).length/\AL w v S (fun k=>F k\/bg EP=some k) S2 g D h (df lp) w.heap.size w4.heap.size nI.heap.size EP Un i bl c mb M2 rA rn rc ws)
   (μ:=fun s _=>(((df lp).length:Int)-s).toNat) (s:=0) ⟨0,S,M,none,0,0,[],rfl,Nat.zero_le _,L0⟩ ?_
  rintro s v ⟨i,S2,M2,rA,rn,rc,ws,rfl,hi,L⟩;have HO: ∀a,EP=some a->F a.block\/bg EP=some a.block:=fun a ha=>.inr (by rw [ha];rfl);by_cases dN:i<(df lp).length
  ·refine Ep L W (by omega) (ig _) fh EJ HO (by omega) dN (by omega) fun S3 M3 rA3 rn3 rc3 ws3 v3 L3=>?_
   exact⟨(i:Int)+1,rfl,⟨i+1,S3,M3,rA3,rn3,rc3,ws3,rfl,dN,L3⟩,by simp only;omega⟩
  ·refine Split.no (decide_eq_false (by omega)) ?_
   rw [aS,bt.LC];refine JR L W hD (ig _) fh hm EJ HO (by omega) (by omega) fun v2 S4 F4 hI Sr hS4 hF4=>hK v2 S4 F4 hI Sr hS4 (fun k hk=>?_);rcases hF4 k hk with(e|e)|e
   ·exact .inl e
   ·exact .inr (by have:=(Ot k e).1;omega)
   ·exact .inr e
end
end Go.Proofs.YtnboahlopghcjaaGreatDoor
namespace Go.Proofs.YtnboahlopghcjaaGreatDoor
open Go.Proofs.Tryz
open Go Go.bS Go.RowKit
def nW(nb:Nat):NM:=⟨nb,none,0,0,none,0,0,none,0,0,[]⟩
structure NP(w v:World)(r:HT)(A B E:Option Nat)(l:List HT):Prop where
 kp:Kept Nil w v
 node: ∀b,A=some b->w.heap.size<=b/\v.heap[b]? =some (.cells (fu r (nW b)) dF (0,0))
 list: ∀b,B=some b->w.heap.size<=b/\ ∃nb,A=some nb/\v.heap[b]? =some (.cells #[.pointer (some ⟨nb,0,none⟩)] eI (0,0))
 map: ∀b,E=some b->w.heap.size<=b/\IsMap v b l
section
variable{w v:World}{r:HT}{A B E:Option Nat}{l:List HT}{K:Value->World->Prop}
theorem NP.grow(h:NP w v r A B E l)(o:Obj):NP w (v.alloc o) r A B E l:=
 ⟨h.kp.alloc o,fun b e=>⟨(h.node b e).1,jA (h.node b e).2 o⟩,fun b e=>⟨(h.list b e).1,let ⟨nb,h1,h2⟩:=(h.list b e).2;⟨nb,h1,jA h2 o⟩⟩,fun b e=>⟨(h.map b e).1,(h.map b e).2.aD ((Kept.refl Nil v).alloc o) (fun h=>h)⟩⟩
theorem NP.addNode(h:NP w v r none none E l):NP w (v.alloc (.cells (fu r (nW v.heap.size)) dF)) r (some v.heap.size) none E l:=
 have g:=h.grow (.cells (fu r (nW v.heap.size)) dF)
 ⟨g.kp,fun b e=>by cases e;exact⟨h.kp.size,aH v _⟩,fun b e=>(by cases e),g.map⟩
theorem NP.o5{nb:Nat}(h:NP w v r (some nb) none E l):NP w (v.alloc (.cells #[.pointer (some ⟨nb,0,none⟩)] eI)) r (some nb) (some v.heap.size) E l:=
 have g:=h.grow (.cells #[.pointer (some ⟨nb,0,none⟩)] eI)
 ⟨g.kp,g.node,fun b e=>by cases e;exact⟨h.kp.size,nb,rfl,aH v _⟩,g.map⟩
theorem NP.Bn(h:NP w v r A B none []):NP w (v.alloc (.map #[] 0)) r A B (some v.heap.size) []:=
 have g:=h.grow (.map #[] 0)
 ⟨g.kp,g.node,g.list,fun b e=>by cases e;exact⟨h.kp.size,⟨#[],0,aH v _,trivial⟩⟩⟩
theorem NP.put{mb:Nat}(h:NP w v r A B (some mb) []): ∃v',(Instr.mapUpdate cg (.map (some mb)) (.agg r.1) (.int .i64 0)).run prog v=.ok () v'/\NP w v' r A B (some mb) [r]:=by
 obtain⟨h1,h2⟩:=h.map mb rfl;obtain⟨v',hr,hm,hk⟩:=h2.put (h:=r) (by simp);have Ib: ∀ {k:Nat} {cs:Array Value} {t:TypeId},v.heap[k]? =some (.cells cs t (0,0))-> ¬(k=mb):=fun hk e=>by
  obtain⟨es,clock,Je,_⟩:=h2.ex;rw [e,Je]at hk;cases hk
 refine⟨v',hr,h.kp.trans hk (fun k hk e=>by omega),fun b e=>⟨(h.node b e).1,hk.heap (h.node b e).2 (Ib (h.node b e).2)⟩,fun b e=>⟨(h.list b e).1,?_⟩,fun b e=>by cases e;exact⟨h1,hm⟩⟩;obtain⟨nb,e1,e2⟩:=(h.list b e).2;exact⟨nb,e1,hk.heap e2 (Ib e2)⟩
theorem qX(r:HT){a b:HT}: ¬mS [(⟨r,[]⟩:DN)] a b:=fun⟨nd,h1,_,h2⟩=>by
 simp at h1;subst h1;simp at h2
theorem xV(r:HT){a b:HT}: ¬eT [(⟨r,[]⟩:DN)] a b:=fun h=>by
 cases h with
 |one h=>exact qX r h
 |more _ h=>exact qX r h
theorem NP.fin{w0:World}{nb lb mb:Nat}(h:NP w v r (some nb) (some lb) (some mb) [r])(hw:w0.heap.size<=w.heap.size):
 Bs (v.alloc (.cells #[.slice (some ⟨lb,0,none⟩) 1 1,.map (some mb)] gv)) (fun k=>w0.heap.size<=k/\k<(v.alloc (.cells #[.slice (some ⟨lb,0,none⟩) 1 1,.map (some mb)] gv)).heap.size) (fun _=>False) v.heap.size [⟨r,[]⟩]:=by
 have g:=h.grow (.cells #[.slice (some ⟨lb,0,none⟩) 1 1,.map (some mb)] gv);have iB:=aH v (.cells #[.slice (some ⟨lb,0,none⟩) 1 1,.map (some mb)] gv);generalize v.alloc (.cells #[.slice (some ⟨lb,0,none⟩) 1 1,.map (some mb)] gv)=u at g iB;have hs:=h.kp.size;obtain⟨n1,n2⟩:=g.node nb rfl;obtain⟨l1,nb',e,l2⟩:=g.list lb rfl;cases e;obtain⟨m1,m2⟩:=g.map mb rfl;have nA:fT [⟨r,[]⟩] r= []:=by
  cases hc:fT [⟨r,[]⟩] r with
  |nil=>rfl
  |cons b t=>exact absurd (iS.1 (show b∈fT [⟨r,[]⟩] r by rw [hc];simp)).2 (qX r)
 refine⟨lb,1,mb,[nW nb],iB,Row.made (n:=1) (cur:= #[.pointer (some ⟨nb,0,none⟩)]) l2 (Nat.zero_le _) rfl (by decide),m2,rfl,fun i nd m hi hm=>?_,fun i j m m' h1 h2 fE k hk=>?_,⟨by omega,aT iB⟩,⟨by omega,aT l2⟩,⟨by omega,m2.lt⟩,fun _ _ h=>h,fun k hk=>hk.elim (fun h=>h.2) (fun h=>h.elim)⟩
 ·cases i with
  |zero=>
   simp at hi hm;subst hi;subst hm;refine⟨n2,⟨Nat.le_trans hw n1,aT n2⟩,HS.nil _ _,(fun a ha=>by cases ha),?_,(fun k hk=>by cases hk),⟨rfl,fun i x hx=>by simp [nW]at hx⟩,(fun a ha=>by cases ha),by simp [okW,nW],fun j=>?_,by simp [nW]⟩
   ·show bQ u 0 none 0 0 (fT [⟨r,[]⟩] r)
    rw [nA];exact bQ.nil _ _
   ·show bit [] j=true↔_
    rw [xa];exact⟨(fun h=>by cases h),fun⟨nj,_,h⟩=>absurd h (xV r)⟩
  |succ i=>simp at hi
 ·have hm:m=nW nb:=by
   have:=List.mem_of_getElem? h1;simpa using this
  subst hm;cases hk
theorem fz(r:HT)(hK: ∀v gb,Bs v (fun k=>w.heap.size<=k/\k<v.heap.size) (fun _=>False) gb [⟨r,[]⟩]->Kept Nil w v->K (.pointer (some ⟨gb,0,none⟩)) v):
 bk prog lN.id #[.agg r.1] w K:=by
 refine lN.of ?_;unfold lN.W;intro w2 w3;have k2:Kept Nil w w2:=(Kept.refl _ _).alloc _;have lK:w2.heap[w.heap.size]? =some (.cells r.1 ai (0,0)):=aH w _;have k3:Kept Nil w w3:=k2.drew;have oZ:w3.heap[w.heap.size]? =some (.cells r.1 ai (0,0)):=lK;clear_value w3;have N3:NP w3 w3 r none none none []:=⟨Kept.refl _ _,(fun b e=>by cases e),(fun b e=>by cases e),(fun b e=>by cases e)⟩;have lY: ∀ {v:World},Kept Nil w3 v-> ∃cs:Array Value,(.agg r.1:Value)=.agg cs/\cs.size=32/\Cells v (⟨w.heap.size,0,none⟩:Addr) cs:=fun k=>⟨r.1,rfl,r.2.1,Cells.bA (k.heap oZ (fun h=>h))⟩;have ue: ∀ {v:World} {nb lb mb:Nat},NP w3 v r (some nb) (some lb) (some mb) [r]->K (.pointer (some ⟨v.heap.size,0,none⟩)) (v.alloc (.cells #[.slice (some ⟨lb,0,none⟩) 1 1,.map (some mb)] gv)):=fun h=>hK _ _ (h.fin k3.size) ((k3.trans h.kp (fun _ _ h=>h)).alloc _);refine⟨r.1,⟨r.2.1,Cells.bA oZ⟩,?_⟩;have RY: ∀b,prog.built dF [(0,.agg r.1)]=some (fu r (nW b)):=fun b=>Eh r b;rw [RY 0];refine Is.mk rfl ?_;refine⟨r.1,⟨r.2.1,Cells.bA oZ⟩,?_⟩;refine⟨?_,?_⟩
 ·have N7:NP w3 (w3.alloc (.cells (fu r (nW w3.heap.size)) dF)) r (some w3.heap.size) none none []:=N3.addNode
  refine⟨lY N7.kp,?_,?_⟩
  ·have N8:=N7.o5
   have N9:=N8.Bn;obtain⟨v,hr,PJ⟩:=N9.put;exact⟨lY N8.kp,lY N9.kp,v,hr,ue PJ⟩
  ·have ON:=N7.Bn
   refine⟨lY ON.kp,?_,?_⟩
   ·have JT:=ON.o5
    obtain⟨v,hr,OM⟩:=JT.put;exact⟨lY JT.kp,v,hr,ue OM⟩
   ·obtain⟨v,hr,PI⟩:=ON.put
    exact⟨v,hr,ue PI.o5⟩
 ·have H4:=N3.Bn
  refine⟨lY H4.kp,lY H4.kp,?_,?_⟩
  ·have Ly:NP w3 ((w3.alloc (.map #[] 0)).alloc (.cells (fu r (nW (w3.alloc (.map #[] 0)).heap.size)) dF)) r (some (w3.alloc (.map #[] 0)).heap.size) none (some w3.heap.size) []:=H4.addNode
   refine⟨lY Ly.kp,?_,?_⟩
   ·have Lx:=Ly.o5
    obtain⟨v,hr,PF⟩:=Lx.put;exact⟨lY Lx.kp,v,hr,ue PF⟩
   ·obtain⟨v,hr,UB⟩:=Ly.put
    exact⟨v,hr,ue UB.o5⟩
  ·obtain⟨v,hr,OL⟩:=H4.put
   exact⟨v,hr,lY OL.kp,ue OL.addNode.o5⟩
end
end Go.Proofs.YtnboahlopghcjaaGreatDoor
namespace Go.Proofs.YtnboahlopghcjaaGreatDoor
open Go.Proofs.Tryz
open Go Go.bS Go.RowKit
section
variable{w w':World}{S S' F:Nat->Prop}{g bl c mb:Nat}{D:DG}{C:HT->List HT}{M:List NM}{K:Value->World->Prop}
end
end Go.Proofs.YtnboahlopghcjaaGreatDoor
namespace Go.Proofs.YtnboahlopghcjaaGreatDoor
open Go.Proofs.Tryz
open Go Go.bS Go.RowKit
section
variable{w w':World}{S S' F:Nat->Prop}{g bl c mb:Nat}{D:DG}{C:HT->List HT}{M:List NM}{K:Value->World->Prop}
end
end Go.Proofs.YtnboahlopghcjaaGreatDoor
namespace Go.Proofs.YtnboahlopghcjaaGreatDoor
open Go.Proofs.Tryz
open Go Go.bS Go.RowKit
theorem dH{w:World}{b:Nat}{z cs:Array Value}{t:TypeId}(h:w.heap[b]? =some (.cells z t (0,0)))(hz:z.size=cs.size):
 (∀j,j<cs.size->Wr w ((⟨b,0,none⟩:Addr).add j))/\(setCells w ⟨b,0,none⟩ cs.toList 0).heap[b]? =some (.cells cs t (0,0))/\Kept (· =b) w (setCells w ⟨b,0,none⟩ cs.toList 0):=by
 refine⟨fun j hj=>?_,?_,fL _ _ _ _⟩
 ·rw [a8,Nat.zero_add]
  exact dO h (by omega)
 ·have h1:=jy cs.toList z w t 0 0 h (by simp;omega)
  rw [h1,tm (by simp [hz])]
def hx(i:Nat)(hi:i<256):HT:=⟨#[.int .u8 (i:Int),.int .u8 0,.int .u8 0,.int .u8 0,.int .u8 0,.int .u8 0,.int .u8 0,.int .u8 0,.int .u8 0,.int .u8 0,.int .u8 0,.int .u8 0,.int .u8 0,.int .u8 0,.int .u8 0,.int .u8 0,.int .u8 0,.int .u8 0,.int .u8 0,.int .u8 0,.int .u8 0,.int .u8 0,.int .u8 0,.int .u8 0,.int .u8 0,.int .u8 0,.int .u8 0,.int .u8 0,.int .u8 0,.int .u8 0,.int .u8 0,.int .u8 0],rfl,fun v hv=>by
 simp only [List.mem_cons,List.not_mem_nil,or_false]at hv;rcases hv with rfl|hv
 ·exact⟨i,rfl,by omega,by omega⟩
 ·exact⟨0,by simpa using hv,by omega,by omega⟩⟩
theorem rj{i j:Nat}{hi:i<256}{hj:j<256}(h:i≠j):hx i hi≠hx j hj:=fun e=>by
 have:=congrArg (fun a:HT=>a.1[0]?) e;simp [hx]at this;omega
section
variable{w w':World}{K:Value->World->Prop}
end
end Go.Proofs.YtnboahlopghcjaaGreatDoor
namespace Go.Proofs.YtnboahlopghcjaaGreatDoor
open Go.Proofs.Tryz
open Go Go.bS Go.RowKit
theorem HS.lay{w:World}{b:Nat}{l:List HT}{t:TypeId}(hb:w.heap[b]? =some (.cells (cJ l).toArray t (0,0))):HS w (some ⟨b,0,Option.none⟩) l.length l:=
 ⟨rfl,fun i x hi=>⟨_,rfl,aT hb,fun j v hj=>by
   rw [a8,a8,Nat.zero_add,ax hb];simpa using jM hi hj⟩⟩
section
variable{r a b c:HT}(DV:r≠a)(yD:r≠b)(KO:r≠c)(lr:a≠b)(Ln:a≠c)(GR:b≠c)
abbrev kD(r a b c:HT):DG:= [⟨r,[]⟩,⟨a,[r]⟩,⟨b,[r]⟩,⟨c,df [a,b]⟩]
include DV in
theorem k1:dg [⟨r,[]⟩] a [r]=0/\lI [⟨r,[]⟩] a [r]= [⟨r,[]⟩,⟨a,[r]⟩]:=by
 have h:dg [⟨r,[]⟩] a [r]=0:=by
  unfold dg;rw [if_neg (by simp [ids];exact fun e=>DV e.symm),sS,if_neg (by simp),if_neg (by simp [ids])]
 exact⟨h,by unfold lI;rw [if_pos h,sS];rfl⟩
include yD lr in
theorem k2:dg [⟨r,[]⟩,⟨a,[r]⟩] b [r]=0/\lI [⟨r,[]⟩,⟨a,[r]⟩] b [r]= [⟨r,[]⟩,⟨a,[r]⟩,⟨b,[r]⟩]:=by
 have h:dg [⟨r,[]⟩,⟨a,[r]⟩] b [r]=0:=by
  unfold dg;rw [if_neg (by simp [ids];exact⟨fun e=>yD e.symm,fun e=>lr e.symm⟩),sS,if_neg (by simp),if_neg (by simp [ids])]
 exact⟨h,by unfold lI;rw [if_pos h,sS];rfl⟩
include KO lr Ln GR in
theorem k3:dg [⟨r,[]⟩,⟨a,[r]⟩,⟨b,[r]⟩] c [a,b]=0/\lI [⟨r,[]⟩,⟨a,[r]⟩,⟨b,[r]⟩] c [a,b]=kD r a b c:=by
 have hl:(df [a,b]).length=2:=pa (by simp [lr]);have h:dg [⟨r,[]⟩,⟨a,[r]⟩,⟨b,[r]⟩] c [a,b]=0:=by
  unfold dg;rw [if_neg (by simp [ids];exact⟨fun e=>KO e.symm,fun e=>Ln e.symm,fun e=>GR e.symm⟩),hl,if_neg (by simp),if_neg];rintro⟨p,hp,hn⟩;rw [dv]at hp;simp at hp;simp [ids]at hn;rcases hp with rfl|rfl
  ·exact hn.2.1 rfl
  ·exact hn.2.2 rfl
 exact⟨h,by unfold lI;rw [if_pos h];rfl⟩
end
section
variable{w w':World}{K:Value->World->Prop}
end
end Go.Proofs.YtnboahlopghcjaaGreatDoor
namespace Go.Proofs.YtnboahlopghcjaaGreatDoor
open Go.Proofs.Tryz
open Go Go.bS Go.RowKit
structure aiv(w:World)(S F:Nat->Prop)(g:Nat)(FR:Nat->Prop)(r:Nat)(D:DG):Prop where
 G:Bs w S F g D
 R:sN w FR r D
 rS: ¬S r
 rF: ¬F r
 fS: ∀k,FR k-> ¬S k
 low: ∀k,FR k->k<w.heap.size
section
variable{w v w':World}{S F S2 F2 FR:Nat->Prop}{g r:Nat}{D D':DG}{K:Value->World->Prop}
theorem Hi(h:HT):prog.built bI [(0,.agg h.1)]=some (h.1.push (.slice none 0 0)):=by
 have hs:=h.2.1;rw [mv CF,hU (off:=0) (size:=32) rfl (by simpa [Value.cells]using hs) (by simp)];simp only [Instr.fill,Option.some.injEq];apply Array.ext';unfold ga;simp [Value.cells,hs]
end
end Go.Proofs.YtnboahlopghcjaaGreatDoor
