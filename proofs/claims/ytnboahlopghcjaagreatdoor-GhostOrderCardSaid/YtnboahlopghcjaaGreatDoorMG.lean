import Derived.Test.YtnboahlopghcjaaGreatDoorProg
import Derived.Shelf.SlSortCmp.NoneTotal
import Derived.Shelf.SlMaps.Clone
import Derived.Shelf.Spec.TrailingZeros
import Derived.Shelf.Strconv.Itoa0
import Derived.Shelf.Bits.Mul64
import Derived.Test.YtnboahlopghcjaaGreatDoorMA
import Derived.Test.YtnboahlopghcjaaGreatDoorMB
import Derived.Lib.BytesEntry
import Derived.Test.YtnboahlopghcjaaGreatDoorMC
import Derived.LaidEql
open Go.IntKind (i64 u64)
set_option linter.unusedVariables false
namespace Go.Proofs
open Go.Shelf
def Tryz.o0:Go.Shelf.Ren:=⟨fun|6=>72|15=>106|14=>105|28=>130|29=>131|20=>122|21=>123|22=>124|23=>125|24=>126|25=>127|26=>128|27=>129|46=>135|47=>136|48=>137|49=>138|50=>139|57=>141|n=>n,fun|22=>35|24=>23|25=>97|3=>3|39=>161|0=>0|53=>181|55=>49|4=>4|46=>175|45=>174|50=>127|5=>5|9=>9|66=>188|70=>192|76=>196|77=>197|n=>n,fun|n=>n⟩
theorem Tryz.vM:Go.Proofs.SlLaysF0.n6 prog Tryz.o0:= {
 mixed:=by kernel_rfl
 f6:=⟨f72.name,by decide,func72.trans (congrArg some (by kernel_rfl))⟩
 f14:=⟨f105.name,by decide,func105.trans (congrArg some (by kernel_rfl))⟩
 f15:=func106.trans (congrArg some (by kernel_rfl))
 f20:=⟨f122.name,by decide,func122.trans (congrArg some (by kernel_rfl))⟩
 f21:=⟨f123.name,by decide,func123.trans (congrArg some (by kernel_rfl))⟩
 f22:=⟨f124.name,by decide,func124.trans (congrArg some (by kernel_rfl))⟩
 f23:=⟨f125.name,by decide,func125.trans (congrArg some (by kernel_rfl))⟩
 f24:=⟨f126.name,by decide,func126.trans (congrArg some (by kernel_rfl))⟩
 f25:=⟨f127.name,by decide,func127.trans (congrArg some (by kernel_rfl))⟩
 f26:=⟨f128.name,by decide,func128.trans (congrArg some (by kernel_rfl))⟩
 f27:=⟨Tryz.f129.name,by decide,func129.trans (congrArg some (by kernel_rfl))⟩
 f28:=func130.trans (congrArg some (by kernel_rfl))
 f29:=func131.trans (congrArg some (by kernel_rfl))
 f46:=⟨f135.name,by decide,func135.trans (congrArg some (by kernel_rfl))⟩
 f47:=func136.trans (congrArg some (by kernel_rfl))
 f48:=func137.trans (congrArg some (by kernel_rfl))
 f49:=⟨f138.name,by decide,func138.trans (congrArg some (by kernel_rfl))⟩
 f50:=⟨f139.name,by decide,func139.trans (congrArg some (by kernel_rfl))⟩
 f57:=⟨f141.name,by decide,func141.trans (congrArg some (by kernel_rfl))⟩
 t0:=underlying0
 a0:=isAgg0
 z0:=sizeOf0
 v0:=zeroValue0
 t3:=underlying3
 a3:=isAgg3
 z3:=sizeOf3
 v3:=zeroValue3
 t4:=underlying4
 a4:=isAgg4
 z4:=sizeOf4
 v4:=zeroValue4
 t5:=underlying5
 a5:=isAgg5
 z5:=sizeOf5
 v5:=zeroValue5
 t9:=underlying9
 a9:=isAgg9
 z9:=sizeOf9
 v9:=zeroValue9
 t22:=underlying35
 a22:=isAgg35
 z22:=sizeOf35
 v22:=zeroValue35
 t25:=underlying97
 a25:=isAgg97
 z25:=sizeOf97
 v25:=zeroValue97
 t39:=underlying161
 a39:=isAgg161
 z39:=sizeOf161
 v39:=zeroValue161
 t45:=underlying174
 a45:=isAgg174
 z45:=sizeOf174
 v45:=zeroValue174
 t46:=underlying175
 a46:=isAgg175
 z46:=sizeOf175
 v46:=zeroValue175
 t50:=underlying127
 a50:=isAgg127
 z50:=sizeOf127
 v50:=zeroValue127
 t53:=underlying181
 a53:=isAgg181
 z53:=sizeOf181
 v53:=zeroValue181
 t55:=underlying49
 a55:=isAgg49
 z55:=sizeOf49
 v55:=zeroValue49
 t66:=underlying188
 a66:=isAgg188
 z66:=sizeOf188
 v66:=zeroValue188
 t70:=underlying192
 a70:=isAgg192
 z70:=sizeOf192
 v70:=zeroValue192
 t76:=underlying196
 a76:=isAgg196
 z76:=sizeOf196
 v76:=zeroValue196
 t77:=underlying197
 a77:=isAgg197
 z77:=sizeOf197
 v77:=zeroValue197}
def Tryz.jf:Go.Shelf.Ren:=⟨fun|29=>121|n=>n,fun|22=>49|3=>3|4=>4|25=>161|54=>187|0=>0|5=>5|n=>n,fun|1=>1|n=>n⟩
theorem Tryz.tzL:Go.Proofs.Lays7.n29 prog Tryz.jf:= {
 mixed:=by kernel_rfl
 f29:=func121.trans (congrArg some (by kernel_rfl))
 t0:=underlying0
 a0:=isAgg0
 z0:=sizeOf0
 v0:=zeroValue0
 i0:=by kernel_rfl
 t3:=underlying3
 a3:=isAgg3
 z3:=sizeOf3
 v3:=zeroValue3
 i3:=by kernel_rfl
 t4:=underlying4
 a4:=isAgg4
 z4:=sizeOf4
 v4:=zeroValue4
 i4:=by kernel_rfl
 t5:=underlying5
 a5:=isAgg5
 z5:=sizeOf5
 v5:=zeroValue5
 i5:=by kernel_rfl
 t22:=underlying49
 a22:=isAgg49
 z22:=sizeOf49
 v22:=zeroValue49
 i22:=by kernel_rfl
 t25:=underlying161
 a25:=isAgg161
 z25:=sizeOf161
 v25:=zeroValue161
 i25:=by kernel_rfl
 t54:=underlying187
 a54:=isAgg187
 z54:=sizeOf187
 g1:=by kernel_rfl}
def Tryz.yE:Go.Shelf.Ren:=⟨fun|129=>131|n=>n,fun|53=>49|3=>3|4=>4|46=>161|5=>5|9=>9|n=>n,fun|n=>n⟩
theorem Tryz.Jo:Go.Proofs.Lays.n129 prog Tryz.yE:= {
 mixed:=by kernel_rfl
 f129:=func131.trans (congrArg some (by kernel_rfl))
 t3:=underlying3
 a3:=isAgg3
 z3:=sizeOf3
 v3:=zeroValue3
 t4:=underlying4
 a4:=isAgg4
 z4:=sizeOf4
 v4:=zeroValue4
 t5:=underlying5
 a5:=isAgg5
 z5:=sizeOf5
 v5:=zeroValue5
 t9:=underlying9
 a9:=isAgg9
 z9:=sizeOf9
 v9:=zeroValue9
 t46:=underlying161
 a46:=isAgg161
 z46:=sizeOf161
 v46:=zeroValue161
 t53:=underlying49
 a53:=isAgg49
 z53:=sizeOf49
 v53:=zeroValue49}
def Tryz.yD:Go.Shelf.Ren:=⟨fun|264=>133|n=>n,fun|53=>49|46=>161|n=>n,fun|n=>n⟩
theorem Tryz.Jn:Go.Proofs.Lays.n264 prog Tryz.yD:= {
 mixed:=by kernel_rfl
 f264:=func133.trans (congrArg some (by kernel_rfl))
 t46:=underlying161
 a46:=isAgg161
 z46:=sizeOf161
 v46:=zeroValue161
 t53:=underlying49
 a53:=isAgg49
 z53:=sizeOf49
 v53:=zeroValue49}
end Go.Proofs
namespace Go.bP
open Go.RowKit
theorem jO.mono{P:Program}{l:Nat}{args:Array Value}{w:World}{R R':Bool->World->Prop}(h:jO P l args w R)(hr:∀b w',R b w'->R' b w'):jO P l args w R':=by
 obtain⟨g,tmps,assign,body,h1,h2⟩:=h;exact⟨g,tmps,assign,body,h1,fun r m=>RoundIn.mono (h2 r m) fun e w' ⟨b,he,hb⟩=>⟨b,he,hr _ _ hb⟩⟩
def gk(xs:List Value)(k:Nat)(vs:List Value):List Value:=xs.take k++vs++xs.drop (k+vs.length)
theorem pL(xs:List Value)(k:Nat):gk xs k []=xs:=by simp [gk]
theorem og{xs:List Value}{k:Nat}(hk:k<xs.length)(v:Value)(vs:List Value):gk xs k (v::vs)=gk (xs.set k v) (k+1) vs:=by
 unfold gk;rw [List.take_add_one,List.take_set_of_le (Nat.le_refl k),List.getElem?_set_self hk,List.drop_set];rw [if_pos (by omega),List.length_cons,show k+(vs.length+1)=k+1+vs.length by omega];simp
theorem lg{xs:List Value}{k:Nat}{vs:List Value}(h:k+vs.length<=xs.length):(gk xs k vs).length=xs.length:=by
 unfold gk;simp;omega
theorem tB{xs vs:List Value}(h:vs.length=xs.length):gk xs 0 vs=vs:=by
 unfold gk;simp [h]
section
variable{w:World}{B:Nat}{e:TypeId}{size n c b:Nat}
theorem qh:∀(vs:List Value) (xs:List Value) (w:World) (o i:Nat),Row w B e size (some ⟨b,0,none⟩) n c xs->o+i+vs.length<=xs.length->
 Row (setCells w ⟨b,o,none⟩ vs i) B e size (some ⟨b,0,none⟩) n c (gk xs (o+i) vs)
 | [],xs,w,o,i,h,_=>by rw [pL];exact h
 |v::vs,xs,w,o,i,h,hl=>by
  rw [List.length_cons]at hl;rw [og (by omega)];simp only [setCells];rw [a7];have h1:=Row.set h (j:=o+i) (by omega) v;have:=qh vs (xs.set (o+i) v) _ o (i+1) h1 (by rw [List.length_set];omega)
  rwa [show o+(i+1)=o+i+1 by omega]at this
theorem fO:∀(vs:List Value) (w:World) (o i:Nat),Kept (· =b) w (setCells w ⟨b,o,none⟩ vs i)
 | [],w,o,i=>Kept.refl _ _
 |v::vs,w,o,i=>by
  simp only [setCells];rw [a7];exact(Kept.setCell (S:=fun k=>k=b) (Kept.refl _ w) (p:=⟨b,o+i,none⟩) (fun _=>rfl) v).tt (fO vs _ o (i+1))
theorem jI:∀(vs:List Value) (cur:Array Value) (w:World) (t:TypeId) (o i:Nat),w.heap[b]? =some (.cells cur t (0,0))->o+i+vs.length<=cur.size->
 (setCells w ⟨b,o,none⟩ vs i).heap[b]? =some (.cells (gk cur.toList (o+i) vs).toArray t (0,0))
 | [],cur,w,t,o,i,h,_=>by rw [pL];simpa [setCells]using h
 |v::vs,cur,w,t,o,i,h,hl=>by
  rw [List.length_cons]at hl;rw [og (by simp;omega)];simp only [setCells];rw [a7];have h1:=cS h (o+i) v;have:=jI vs _ _ t o (i+1) h1 (by simp;omega);rw [show o+(i+1)=o+i+1 by omega]at this;rw [this];simp
theorem gM{z cs:Array Value}{t:TypeId}(hz:z.size=cs.size):
 (∀j,j<cs.size->Wr (w.alloc (.cells z t)) ((⟨w.heap.size,0,none⟩:Addr).add j))/\
 (setCells (w.alloc (.cells z t)) ⟨w.heap.size,0,none⟩ cs.toList 0).heap[w.heap.size]? =some (.cells cs t (0,0))/\
 Kept Nil w (setCells (w.alloc (.cells z t)) ⟨w.heap.size,0,none⟩ cs.toList 0):=by
 refine⟨fun j hj=>?_,?_,?_⟩
 ·rw [a7,Nat.zero_add]
  exact dK (aJ w _) (by omega)
 ·have h:=jI cs.toList z (w.alloc (.cells z t)) t 0 0 (aJ w _) (by simp;omega)
  rw [h,tB (by simp [hz])]
 ·exact((Kept.refl Nil w).alloc _).trans (fO cs.toList _ 0 0) (fun k hk e=>absurd hk (by omega))
end
end Go.bP
namespace Go.bP
theorem CX:∀(vs:List Value) (off k:Nat) (cells:Array Value),off+k+vs.length<=cells.size->
 ((vs.zipIdx k).foldl (fun(cs:Array Value) (p:Value×Nat)=>cs.setIfInBounds (off+p.2) p.1) cells)=(gk cells.toList (off+k) vs).toArray
 | [],off,k,cells,_=>by rw [pL];simp
 |v::vs,off,k,cells,h=>by
  rw [List.length_cons]at h;rw [og (by simp;omega),List.zipIdx_cons,List.foldl_cons];have:=CX vs off (k+1) (cells.setIfInBounds (off+k) v) (by simp;omega);rw [this,Array.toList_setIfInBounds];rfl
theorem iu{place:Nat->Option (Nat×Nat)}{cells:Array Value}{i off size:Nat}{v:Value}{rest:List (Nat×Value)}(hp:place i=some (off,size))(hs:v.cells.size=size)(hle:off+size<=cells.size):
 Instr.fill place cells ((i,v)::rest)=Instr.fill place (gk cells.toList off v.cells.toList).toArray rest:=by
 rw [Instr.fill,hp];simp only;rw [if_neg (by simp;omega)]
 congr 1
 have h:=CX v.cells.toList off 0 cells (by simp;omega);rw [Nat.add_zero]at h;rw [<-h,<-Array.foldl_toList,Array.toList_zipIdx]
def QD(P:Program)(t:TypeId):Option (List (Nat×Nat)×List Value):=
 match P.info? t,P.underlying t with
 |some it,some (.struct fields)=>
  match it.zero,fields.toList.mapM (fun f=>(P.info? f.type).map fun i=>(f.offset,i.size))with
  |some z,some places=>some (places,z.cells.toList)
  |_,_=>none
 |_,_=>none
theorem mI{P:Program}{t:TypeId}{pl:List (Nat×Nat)}{z:List Value}(h:QD P t=some (pl,z))(parts:List (Nat×Value)):
 P.built t parts=Instr.fill (pl.toArray[·]?) z.toArray parts:=by
 unfold QD at h;split at h
 ·rename_i it fields h1 h2
  split at h
  ·rename_i z' pl' h3 h4
   simp only [Option.some.injEq,Prod.mk.injEq]at h;obtain⟨rfl,rfl⟩:=h;unfold Program.built;rw [h1,h2];simp only [h3,h4]
  ·cases h
 ·cases h
def pT:List Nat->Array Value
 | []=> #[]
 |D::l=> #[.pointer (some ⟨D,0,none⟩)]++pT l
theorem mE:∀l,marksOf (.agg (pT l))=l
 | []=>rfl
 |D::l=>by
  have ih:=mE l;simp only [pT,marksOf]at*;simp [ih]
theorem lv:∀(l:List Nat) (w:World),l.Nodup->(∀D∈l,w.heap[D]? =some (.deferred (some [])))->jZ l w
 | [],_,_,_=>trivial
 |D::l,w,hn,h=>by
  rw [List.nodup_cons]at hn;refine⟨h D (by simp),lv l _ hn.2 fun E hE=>?_⟩;have fg:D≠E:=fun e=>hn.1 (by rw [e];exact hE);exact(World.putObj_heap_other fg.symm).trans (h E (by simp [hE]))
theorem jF:∀(l:List Nat) (w:World),Kept (· ∈l) w (fL l w)
 | [],w=>Kept.refl _ w
 |D::l,w=>((Kept.putAt w D (.deferred none)).mono (S':=fun k=>k∈D::l) (fun k _ e=>by subst e;simp)).trans (jF l _) (fun k _ h=>by simp [h])
end Go.bP
namespace Go.Proofs.YtnboahlopghcjaaGreatDoor
open Go.Proofs.Tryz
open Go Go.bP Go.RowKit
def P5(cs:Array Value):Prop:=cs.size=32/\∀v∈cs.toList,∃i:Int,v=.int .u8 i/\0<=i/\i<256
abbrev HT:= {cs:Array Value//P5 cs}
def key(h:HT):List Int:=h.1.toList.map la
theorem P5.ints{cs:Array Value}(h:P5 cs):dD .u8 32 cs:=⟨h.1,fun v hv=>let ⟨i,e,_⟩:=h.2 v hv;⟨i,e⟩⟩
theorem yP:∀ {a b:List Value},(∀v∈a,∃i:Int,v=.int .u8 i)->(∀v∈b,∃i:Int,v=.int .u8 i)->a.map la=b.map la->a=b
 | [],[],_,_,_=>rfl
 | [],_::_,_,_,h=>by simp at h
 |_::_,[],_,_,h=>by simp at h
 |x::a,y::b,ha,hb,h=>by
  obtain⟨i,rfl⟩:=ha x (by simp);obtain⟨j,rfl⟩:=hb y (by simp);simp only [List.map_cons,List.cons.injEq,la]at h;rw [h.1,yP (fun v hv=>ha v (by simp [hv])) (fun v hv=>hb v (by simp [hv])) h.2]
theorem key_inj{a b:HT}(h:key a=key b):a=b:=by
 apply Subtype.ext;apply Array.ext';exact yP (fun v hv=>a.2.ints.2 v hv) (fun v hv=>b.2.ints.2 v hv) h
instance:DecidableEq HT:=fun a b=>if h:key a=key b then isTrue (key_inj h)else isFalse fun e=>h (by rw [e])
theorem dz(a b:HT):ek a.1 b.1=decide (a=b):=by
 unfold ek;by_cases e:a=b
 ·subst e;simp
 ·rw [decide_eq_false e]
  have:¬(key a=key b):=fun h=>e (key_inj h);simpa [key]using this
theorem P5.one{cs:Array Value}(h:P5 cs):∀v∈cs.toList,v.oneCell'=true:=fun v hv=>by
 obtain⟨i,rfl,_⟩:=h.2 v hv;rfl
def tg:List Int->List Int->Bool
 | [],[]=>false
 | [],_::_=>true
 |_::_,[]=>false
 |x::a,y::b=>if x<y then true else if y<x then false else tg a b
def cy(a b:HT):Bool:=tg (key a) (key b)
theorem ua:∀a,tg a a=false
 | []=>rfl
 |x::a=>by simp [tg,ua a]
theorem vT:∀ {a b c},tg a b=true->tg b c=true->tg a c=true
 | [],[],_,h,_=>by simp [tg]at h
 | [],_::_,[],_,h=>by simp [tg]at h
 | [],_::_,_::_,_,_=>rfl
 |_::_,[],_,h,_=>by simp [tg]at h
 |_::_,_::_,[],_,h=>by simp [tg]at h
 |x::a,y::b,z::c,h,h'=>by
  simp only [tg]at*;by_cases h1:x<y
  ·by_cases h2:y<z
   ·rw [if_pos (by omega)]
   ·rw [if_neg h2]at h'
    by_cases h3:z<y
    ·rw [if_pos h3]at h';cases h'
    ·rw [if_pos (by omega)]
  ·rw [if_neg h1]at h
   by_cases h2:y<x
   ·rw [if_pos h2]at h;cases h
   ·rw [if_neg h2]at h
    by_cases h3:y<z
    ·rw [if_pos (by omega)]
    ·rw [if_neg h3]at h'
     by_cases h4:z<y
     ·rw [if_pos h4]at h';cases h'
     ·rw [if_neg h4]at h'
      rw [if_neg (by omega),if_neg (by omega)];exact vT h h'
theorem vU:∀ {a b},a.length=b.length->tg a b=false->tg b a=false->a=b
 | [],[],_,_,_=>rfl
 | [],_::_,h,_,_=>by simp at h
 |_::_,[],h,_,_=>by simp at h
 |x::a,y::b,hl,h,h'=>by
  simp only [tg]at*;by_cases h1:x<y
  ·rw [if_pos h1]at h;cases h
  ·rw [if_neg h1]at h
   by_cases h2:y<x
   ·rw [if_pos h2]at h';cases h'
   ·rw [if_neg h2]at h h'
    rw [if_neg h1]at h';have:x=y:=by omega
    rw [this,vU (by simpa using hl) h h']
theorem lR(a:HT):(key a).length=32:=by have:=a.2.1;simpa [key]using this
theorem o9{a b:HT}(h:cy a b=false)(h':cy b a=false):a=b:=key_inj (vU (by rw [lR,lR]) h h')
theorem jx{a b c:HT}(h:cy a b=true)(h':cy b c=true):cy a c=true:=vT h h'
theorem gH(a:HT):cy a a=false:=ua _
theorem rH{a b:HT}(h:cy a b=true):cy b a=false:=by
 cases h':cy b a
 ·rfl
 ·have:=jx h h';rw [gH]at this;cases this
end Go.Proofs.YtnboahlopghcjaaGreatDoor
namespace Go.Proofs.YtnboahlopghcjaaGreatDoor
open Go.Proofs.Tryz
open Go Go.bP
def SS(l:List HT):Prop:=l.Pairwise fun a b=>cy a b=true
theorem SS.nodup{l:List HT}(h:SS l):l.Nodup:=List.Pairwise.imp (fun {a b} lD e=>by subst e;rw [gH]at lD;cases lD) h
theorem SS.cons{x:HT}{l:List HT}:SS (x::l)↔(∀y∈l,cy x y=true)/\SS l:=List.pairwise_cons
theorem xz:∀ {l m:List HT},SS l->SS m->(∀x,x∈l↔x∈m)->l=m
 | [],[],_,_,_=>rfl
 | [],y::m,_,_,h=>by have:=(h y).2 (by simp);simp at this
 |x::l,[],_,_,h=>by have:=(h x).1 (by simp);simp at this
 |x::l,y::m,hl,hm,h=>by
  rw [SS.cons]at hl hm;have nO:x=y:=by
   have h1:=(h x).1 (by simp);have h2:=(h y).2 (by simp);rcases List.mem_cons.1 h1 with h1|h1
   ·exact h1
   ·rcases List.mem_cons.1 h2 with h2|h2
    ·exact h2.symm
    ·have a:=hl.1 _ h2
     have b:=hm.1 _ h1;rw [rH a]at b;cases b
  subst nO
  congr 1
  refine xz hl.2 hm.2 fun z=>?_;have hz:=h z;constructor
  ·intro hzl
   rcases List.mem_cons.1 (hz.1 (by simp [hzl]))with e|e
   ·subst e;have:=hl.1 _ hzl;rw [gH]at this;cases this
   ·exact e
  ·intro hzm
   rcases List.mem_cons.1 (hz.2 (by simp [hzm]))with e|e
   ·subst e;have:=hm.1 _ hzm;rw [gH]at this;cases this
   ·exact e
def ins(x:HT):List HT->List HT
 | []=> [x]
 |y::l=>if cy x y then x::y::l else if x=y then y::l else y::ins x l
theorem wU(x z:HT):∀l,z∈ins x l↔z=x\/z∈l
 | []=>by simp [ins]
 |y::l=>by
  unfold ins;split
  ·simp
  ·split
   ·rename_i e;subst e;simp
   ·simp only [List.mem_cons,wU x z l]
    constructor
    ·rintro(h|h|h)<;>simp [h]
    ·rintro(h|h|h)<;>simp [h]
theorem Im(x:HT):∀ {l:List HT},SS l->SS (ins x l)
 | [],_=>by simp [ins,SS]
 |y::l,h=>by
  have h':=SS.cons.1 h;unfold ins;split
  ·rename_i nO
   refine SS.cons.2 ⟨fun z hz=>?_,h⟩;rcases List.mem_cons.1 hz with rfl|hz
   ·exact nO
   ·exact jx nO (h'.1 _ hz)
  ·split
   ·exact h
   ·rename_i h1 h2
    refine SS.cons.2 ⟨fun z hz=>?_,Im x h'.2⟩;rcases(wU x z l).1 hz with rfl|hz
    ·cases P6:cy y z
     ·exact absurd (o9 P6 (by simpa using h1)).symm h2
     ·rfl
    ·exact h'.1 _ hz
def dd(l:List HT):List HT:=l.foldr ins []
theorem cZ{z:HT}:∀ {l:List HT},z∈dd l↔z∈l
 | []=>by simp [dd]
 |x::l=>by
  have:= @cZ z l;simp only [dd,List.foldr_cons,wU,List.mem_cons]at this⊢;rw [this]
theorem iz:∀l:List HT,SS (dd l)
 | []=>List.Pairwise.nil
 |x::l=>Im x (iz l)
theorem BW{l m:List HT}(h:∀x,x∈l↔x∈m):dd l=dd m:=xz (iz l) (iz m) fun x=>by rw [cZ,cZ,h]
theorem wH{l m:List HT}(hs:SS l)(h:∀x,x∈l↔x∈m):l=dd m:=xz hs (iz m) fun x=>by rw [cZ,h]
theorem Cz(x:HT):∀l,(ins x l).length<=l.length+1
 | []=>by simp [ins]
 |y::l=>by
  have:=Cz x l;unfold ins;split
  ·simp
  ·split<;>simp<;>omega
theorem oZ:∀l:List HT,(dd l).length<=l.length
 | []=>by simp [dd]
 |x::l=>by
  have h1:=Cz x (dd l);have h2:=oZ l;simp only [dd,List.foldr_cons,List.length_cons]at*;omega
theorem pW{x:HT}:∀ {l:List HT},x∉l->(ins x l).length=l.length+1
 | [],_=>by simp [ins]
 |y::l,h=>by
  simp only [List.mem_cons,not_or]at h;have:=pW h.2;unfold ins;split
  ·simp
  ·rw [if_neg h.1];simp;omega
theorem pw:∀ {l:List HT},l.Nodup->(dd l).length=l.length
 | [],_=>by simp [dd]
 |x::l,h=>by
  rw [List.nodup_cons]at h;have h2:=pw h.2;have:=pW (l:=dd l) (x:=x) (fun hm=>h.1 (cZ.1 hm));simp only [dd,List.foldr_cons,List.length_cons]at*;omega
theorem sh{x:HT}:∀ {l:List HT},SS l->x∈l->(ins x l).length=l.length
 | [],_,h=>by simp at h
 |y::l,hs,h=>by
  have h':=SS.cons.1 hs;unfold ins;split
  ·rename_i nO
   rcases List.mem_cons.1 h with rfl|h
   ·rw [gH]at nO;cases nO
   ·have:=h'.1 _ h;rw [rH nO]at this;cases this
  ·split
   ·rfl
   ·rename_i h1 h2
    rcases List.mem_cons.1 h with rfl|h
    ·exact absurd rfl h2
    ·simp [sh h'.2 h]
theorem qt:∀ {l:List HT},(dd l).length=l.length->l.Nodup
 | [],_=>List.Pairwise.nil
 |x::l,h=>by
  have h2:=oZ l;by_cases hm:x∈l
  ·have:=sh (iz l) (cZ.2 hm)
   simp only [dd,List.foldr_cons,List.length_cons]at*;omega
  ·have h3:=pW (l:=dd l) (x:=x) (fun h=>hm (cZ.1 h))
   simp only [dd,List.foldr_cons,List.length_cons]at*;exact List.nodup_cons.2 ⟨hm,qt (by simp only [dd];omega)⟩
theorem I3:dd []= []:=rfl
theorem sZ(x:HT):dd [x]= [x]:=rfl
theorem x6{l:List HT}(h:SS l):dd l=l:=(wH h fun _=>Iff.rfl).symm
theorem Il{l:List HT}{x:HT}{k:Nat}(hs:SS l)(h1:∀y∈l.take k,cy y x=true)(h2:∀y∈l.drop k,cy x y=true):SS (l.take k++x::l.drop k):=by
 unfold SS at*;rw [<-List.take_append_drop k l,List.pairwise_append]at hs;rw [List.pairwise_append,List.pairwise_cons];refine⟨hs.1,⟨h2,hs.2.1⟩,fun y hy z hz=>?_⟩;rcases List.mem_cons.1 hz with rfl|hz
 ·exact h1 y hy
 ·exact hs.2.2 y hy z hz
theorem SS.get{l:List HT}(h:SS l){i j:Nat}(qF:i<j){x y:HT}(hx:l[i]? =some x)(hy:l[j]? =some y):cy x y=true:=by
 obtain⟨h1,rfl⟩:=lgeS hx;obtain⟨h2,rfl⟩:=lgeS hy;exact List.pairwise_iff_getElem.1 h i j h1 h2 qF
theorem C6{l:List HT}{x:HT}(hs:SS l)(h:∀y∈l,cy y x=true):SS (l++ [x]):=by
 have:=Il (k:=l.length) hs (x:=x) (by simpa using h) (by simp);simpa using this
def LE(l:List HT):Prop:=l.Pairwise fun a b=>cy b a=false
theorem lt_of_le_ne{a b:HT}(h:cy b a=false)(hn:a≠b):cy a b=true:=by
 cases lD:cy a b
 ·exact absurd (o9 lD h) hn
 ·rfl
theorem sd{a b c:HT}(h:cy b a=false)(h':cy b c=true):cy a c=true:=by
 by_cases e:a=b
 ·subst e;exact h'
 ·exact jx (lt_of_le_ne h e) h'
theorem LE.get{l:List HT}(h:LE l){i j:Nat}(qF:i<j){x y:HT}(hx:l[i]? =some x)(hy:l[j]? =some y):cy y x=false:=by
 obtain⟨h1,rfl⟩:=lgeS hx;obtain⟨h2,rfl⟩:=lgeS hy;exact List.pairwise_iff_getElem.1 h i j h1 h2 qF
theorem bG{l:List HT}{k:Nat}{x z:HT}(hx:l[k]? =some x):z∈l.take (k+1)↔z∈l.take k\/z=x:=by
 rw [List.take_add_one,hx];simp
open Go.RowKit
theorem ee(a:Addr)(k:Nat):(a.add k).block=a.block:=by unfold Addr.add;split<;>rfl
theorem aQ{σ:Type}(e:σ->Env)(I:σ->World->Prop)(μ:σ->World->Nat)(s:σ)(w:World)(Q:aM)(l:Nat)(ρ:Env)(w':World):bI e I μ s w Q (.exit l) ρ w'=Q (.exit l) ρ w':=rfl
theorem hZ{σ:Type}(e:σ->Env)(I:σ->World->Prop)(μ:σ->World->Nat)(s:σ)(w:World)(Q:aM)(ρ:Env)(w':World):bI e I μ s w Q .ret ρ w'=Q .ret ρ w':=rfl
theorem gQ{x:Int}(h0: -9223372036854775808<=x)(h1:x<9223372036854775808):i64.wrap x=x:=by
 simp only [IntKind.wrap,IntKind.bits,IntKind.signed];simp;omega
theorem Cells.aD{S:Nat->Prop}{w w':World}{a:Addr}{cs:Array Value}(h:Cells w a cs)(hk:Kept S w w')(hn:¬S a.block):Cells w' a cs:=
 fun j v hj=>hk.cell (h j v hj) (by rw [ee];exact hn)
theorem Cells.bC{w:World}{b:Nat}{cs:Array Value}{t:TypeId}{fr:Nat×Nat}(h:w.heap[b]? =some (.cells cs t fr)):Cells w ⟨b,0,none⟩ cs:=
 fun j v hj=>by rw [a7,Nat.zero_add,ay h];exact hj
structure HS(w:World)(A:Option Addr)(n:Nat)(l:List HT):Prop where
 len:l.length=n
 at_:∀(i:Nat) (h:HT),l[i]? =some h->∃a,A=some a/\a.block<w.heap.size/\Cells w (a.add (i*32)) h.1
theorem HS.aD{S:Nat->Prop}{w w':World}{A:Option Addr}{n:Nat}{l:List HT}(h:HS w A n l)(hk:Kept S w w')(hn:∀a,A=some a->¬S a.block):HS w' A n l:=⟨h.len,fun i x hi=>by
 obtain⟨a,h1,h2,h3⟩:=h.at_ i x hi;exact⟨a,h1,Nat.lt_of_lt_of_le h2 hk.size,Cells.aD h3 hk (by rw [ee];exact hn a h1)⟩⟩
theorem HS.same{w w':World}{A:Option Addr}{n:Nat}{l:List HT}(h:HS w A n l)(hk:Kept Nil w w'):HS w' A n l:=h.aD hk fun _ _ h=>h
section
variable{w:World}{K:Value->World->Prop}
theorem rh{A:Option Addr}{n c:Nat}{l:List HT}(h:HT)(hl:HS w A n l)(hn:n<=1000000)(hK:∀w',Kept Nil w w'->K (.bool (decide (h∈l))) w'):
 bj prog cC.id #[.slice A n c,.agg h.1] w K:=by
 refine cC.of ?_;unfold cC.W;intro w3;have k3:Kept Nil w w3:=(Kept.refl Nil w).alloc _;have pe:w3.heap[w.heap.size]? =some (.cells h.1 aj (0,0)):=aJ w _;clear_value w3;have hlen:=hl.len;refine cC.b7 (I:=fun s w'=>∃i:Nat,s=(false,(i:Int))/\i<=n/\Kept Nil w3 w'/\h∉l.take i) (μ:=fun s _=>((n:Int)-s.2).toNat) (s:=(false,0)) ⟨0,rfl,Nat.zero_le _,Kept.refl _ _,by simp⟩ ?_;rintro s w' ⟨i,rfl,hi,kw,lZ⟩;refine Split.dec (fun cy=>?_) (fun fU=>?_)
 ·simp only at cy
  have dW:i<n:=by omega
  obtain⟨x,hx⟩:∃x,l[i]? =some x:=⟨_,List.getElem?_eq_getElem (by omega)⟩;have kk:Kept Nil w w'.drew:=(k3.tt kw).drew;obtain⟨a,rfl,_,hc⟩:=(hl.same kk).at_ i x hx;intro w8;have k8:Kept Nil w3 w8:=kw.drew;refine⟨⟨by simp only;omega,by simp only;omega⟩,x.1,⟨x.2.1,hc⟩,h.1,⟨h.2.1,Cells.bC (k8.heap pe (fun h=>h))⟩,⟨x.2.ints,h.2.ints⟩,?_⟩;rw [dz];have PX:Kept Nil w w8:=kk;refine Split.dec (fun he=>?_) (fun he=>?_)
  ·have:=hK w8 PX
   rw [decide_eq_true (by rw [<-he];exact List.mem_of_getElem? hx)]at this;exact this
  ·simp only
   rw [gQ (x:=(i:Int)+1) (by omega) (by omega)];refine⟨(false,(i:Int)+1),rfl,⟨i+1,rfl,dW,k8,?_⟩,by simp only;omega⟩;rw [List.take_add_one,hx];simp only [Option.toList_some,List.mem_append,List.mem_singleton,not_or];exact⟨lZ,fun e=>he e.symm⟩
 ·simp only at fU
  rw [aQ,cC.c8];have:=hK w' (k3.tt kw);rw [List.take_of_length_le (by omega)]at lZ;rw [decide_eq_false lZ]at this;exact this
theorem DF{A A':Option Addr}{n n' c c':Nat}{l l':List HT}(hl:HS w A n l)(hl':HS w A' n' l')(hn:n<=1000000)(hK:∀w',Kept Nil w w'->K (.bool (decide (l=l'))) w'):
 bj prog bV.id #[.slice A n c,.slice A' n' c'] w K:=by
 have hlen:=hl.len;have Ho:=hl'.len;refine bV.of ?_;by_cases fg:n=n'
 ·subst fg
  refine Split.no (by simp) ?_;refine bV.b7 (I:=fun s w'=>∃i:Nat,s=(false,(i:Int))/\i<=n/\Kept Nil w w'/\l.take i=l'.take i) (μ:=fun s _=>((n:Int)-s.2).toNat) (s:=(false,0)) ⟨0,rfl,Nat.zero_le _,Kept.refl _ _,by simp⟩ ?_;rintro s w' ⟨i,rfl,hi,kw,heq⟩;refine Split.dec (fun cy=>?_) (fun fU=>?_)
  ·simp only at cy
   have dW:i<n:=by omega
   obtain⟨x,hx⟩:∃x,l[i]? =some x:=⟨_,List.getElem?_eq_getElem (by omega)⟩;obtain⟨y,hy⟩:∃y,l'[i]? =some y:=⟨_,List.getElem?_eq_getElem (by omega)⟩;have kk:Kept Nil w w'.drew:=kw.drew;obtain⟨a,rfl,_,hc⟩:=(hl.same kk).at_ i x hx;obtain⟨a',rfl,_,sN⟩:=(hl'.same kk).at_ i y hy;intro w7;have k7:Kept Nil w w7:=kk;have hb:0<=(i:Int)/\(i:Int)<(n:Int):=⟨by omega,by omega⟩;refine⟨hb,x.1,⟨x.2.1,hc⟩,hb,y.1,⟨y.2.1,sN⟩,⟨x.2.ints,y.2.ints⟩,?_⟩;rw [dz];by_cases he:x=y
   ·refine Split.no (by simp [he]) ?_
    simp only;rw [gQ (x:=(i:Int)+1) (by omega) (by omega)];refine⟨(false,(i:Int)+1),rfl,⟨i+1,rfl,dW,k7,?_⟩,by simp only;omega⟩;rw [List.take_add_one,List.take_add_one,hx,hy,heq,he]
   ·refine Split.yes (by simp [he]) ?_
    have:=hK w7 k7;rw [decide_eq_false (fun e=>he (by rw [e,hy]at hx;exact(Option.some.inj hx).symm))]at this;exact this
  ·simp only at fU
   rw [aQ,bV.c8];have:=hK w' kw;rw [List.take_of_length_le (by omega),List.take_of_length_le (by omega)]at heq;rw [decide_eq_true heq]at this;exact this
 ·refine Split.yes (by simp;omega) ?_
  have:=hK w (Kept.refl _ _);rw [decide_eq_false (fun e=>fg (by rw [<-hlen,<-Ho,e]))]at this;exact this
end
def km(a b:HT):Int:=if cy a b then-1 else if cy b a then 1 else 0
theorem ub:∀(i:Nat) (a b:List Int),a.take i=b.take i->tg a b=tg (a.drop i) (b.drop i)
 |0,a,b,_=>rfl
 |i+1,[],[],_=>rfl
 |i+1,[],y::b,h=>by simp at h
 |i+1,x::a,[],h=>by simp at h
 |i+1,x::a,y::b,h=>by
  simp only [List.take_succ_cons,List.cons.injEq]at h;obtain⟨rfl,h⟩:=h;simp only [tg,List.drop_succ_cons];rw [if_neg (by omega),if_neg (by omega)];exact ub i a b h
theorem wV{h:HT}{i:Nat}(hi:i<32):∃x:Int,h.1[i]? =some (.int .u8 x)/\(key h)[i]? =some x/\0<=x/\x<256:=by
 have hs:i<h.1.size:=by rw [h.2.1];exact hi
 obtain⟨x,hx,h1,h2⟩:=h.2.2 h.1[i] (by simp);refine⟨x,by rw [Array.getElem?_eq_getElem hs,hx],?_,h1,h2⟩;unfold key;rw [List.getElem?_map,Array.getElem?_toList,Array.getElem?_eq_getElem hs,hx];rfl
section
variable{w:World}{K:Value->World->Prop}
theorem rY(a b:HT)(hK:∀w',Kept Nil w w'->K (.int .i64 (km a b)) w'):bj prog bz.id #[.agg a.1,.agg b.1] w K:=by
 refine bz.of ?_;unfold bz.W;intro w3 w4;have k3:Kept Nil w w3:=(Kept.refl Nil w).alloc _;have k4:Kept Nil w w4:=k3.alloc _;have xi:w4.heap[w.heap.size]? =some (.cells a.1 aj (0,0)):=jK (aJ w _) _;have qT:w4.heap[w3.heap.size]? =some (.cells b.1 aj (0,0)):=aJ w3 _;clear_value w4;refine bz.b7 (I:=fun s w'=>∃i:Nat,s=(0,(i:Int))/\i<=32/\Kept Nil w4 w'/\(key a).take i=(key b).take i) (μ:=fun s _=>(32-s.2).toNat) (s:=(0,0)) ⟨0,rfl,by omega,Kept.refl _ _,by simp⟩ ?_;rintro s w' ⟨i,rfl,hi,kw,heq⟩;refine Split.dec (fun iU=>?_) (fun fU=>?_)
 ·simp only at iU
  have dW:i<32:=by omega
  obtain⟨x,hx,kx,_⟩:=wV (h:=a) dW;obtain⟨y,hy,ky,_⟩:=wV (h:=b) dW;have e1:cy a b=tg ((key a).drop i) ((key b).drop i):=ub i _ _ heq;have e2:cy b a=tg ((key b).drop i) ((key a).drop i):=ub i _ _ heq.symm;have da:(key a).drop i=x::(key a).drop (i+1):=by
   obtain⟨h1,h2⟩:=lgeS kx;rw [List.drop_eq_getElem_cons h1,h2]
  have db:(key b).drop i=y::(key b).drop (i+1):=by
   obtain⟨h1,h2⟩:=lgeS ky;rw [List.drop_eq_getElem_cons h1,h2]
  rw [da,db]at e1 e2;simp only [tg]at e1 e2;intro w9;have k9:Kept Nil w4 w9:=kw.drew;clear_value w9;have hb:0<=(i:Int)/\(i:Int)<32:=⟨by omega,by omega⟩;have ca:∀ {w':World},Kept Nil w4 w'->w'.cell? ((⟨w.heap.size,0,none⟩:Addr).add ((i:Int).toNat*1))=some (.int .u8 x):=fun k=>by
   rw [a7,Nat.zero_add,Nat.mul_one,Int.toNat_natCast,ay (k.heap xi (fun h=>h))];exact hx
  have cb:∀ {w':World},Kept Nil w4 w'->w'.cell? ((⟨w3.heap.size,0,none⟩:Addr).add ((i:Int).toNat*1))=some (.int .u8 y):=fun k=>by
   rw [a7,Nat.zero_add,Nat.mul_one,Int.toNat_natCast,ay (k.heap qT (fun h=>h))];exact hy
  refine⟨hb,x,ca k9,hb,y,cb k9,Split.dec (fun nO=>?_) (fun nO=>?_)⟩
  ·have:=hK w9 (k4.tt k9)
   rw [show km a b= -1 by unfold km;rw [e1,if_pos nO];rfl]at this;exact this
  ·intro lQ
   have xD:Kept Nil w4 lQ:=k9.drew;clear_value lQ;refine⟨hb,x,ca xD,hb,y,cb xD,Split.dec (fun CB=>?_) (fun CB=>?_)⟩
   ·have:=hK lQ (k4.tt xD)
    rw [show km a b=1 by unfold km;rw [e1,e2,if_neg nO,if_pos (show y<x from CB),if_pos (show y<x from CB)];rfl]at this;exact this
   ·simp only
    rw [gQ (x:=(i:Int)+1) (by omega) (by omega)];refine⟨(0,(i:Int)+1),rfl,⟨i+1,rfl,dW,xD,?_⟩,by simp only;omega⟩;have:x=y:=by omega
    rw [List.take_add_one,List.take_add_one,kx,ky,heq,this]
 ·simp only at fU
  rw [aQ,bz.c8];have:=hK w' (k4.tt kw);have lD:a=b:=by
   apply key_inj;rw [List.take_of_length_le (by rw [lR];omega),List.take_of_length_le (by rw [lR];omega)]at heq;exact heq
  rw [show km a b=0 by unfold km;rw [lD,gH];rfl]at this;exact this
end
theorem CZ{x y:Int}(hx:0<=x/\x<256)(hy:0<=y/\y<256):(x.toNat.toUInt8<y.toNat.toUInt8)↔x<y:=by
 rw [UInt8.lt_iff_toNat_lt];simp only [Nat.toUInt8,UInt8.toNat_ofNat'];omega
theorem mH:∀ {a b:List Int},a.length=b.length->(∀x∈a,0<=x/\x<256)->(∀x∈b,0<=x/\x<256)->
 Lib.compareBytes (Lib.bytesOf a) (Lib.bytesOf b)=if tg a b then-1 else if tg b a then 1 else 0
 | [],[],_,_,_=>rfl
 | [],_::_,h,_,_=>by simp at h
 |_::_,[],h,_,_=>by simp at h
 |x::a,y::b,h,ha,hb=>by
  have hx:=ha x (by simp);have hy:=hb y (by simp);have ih:=mH (a:=a) (b:=b) (by simpa using h) (fun z hz=>ha z (by simp [hz])) (fun z hz=>hb z (by simp [hz]));simp only [Lib.bytesOf,List.map_cons,Lib.compareBytes,CZ hx hy,CZ hy hx,tg];by_cases h1:x<y
  ·simp [h1]
  ·by_cases h2:y<x
   ·simp [h1,h2]
   ·simp only [h1,h2,if_false]
    exact ih
theorem vZ(h:HT):∀x∈key h,0<=x/\x<256:=by
 intro x hx;simp only [key,List.mem_map]at hx;obtain⟨v,hv,rfl⟩:=hx;obtain⟨i,rfl,h1,h2⟩:=h.2.2 v hv;exact⟨h1,h2⟩
theorem qI(a b:HT):Lib.compareBytes (Lib.bytesOf (key a)) (Lib.bytesOf (key b))=km a b:=
 mH (by rw [lR,lR]) (vZ a) (vZ b)
section
variable{w:World}{K:Value->World->Prop}
theorem rK(a b:HT){p q:Addr}{c c':Nat}(ha:Cells w p a.1)(hb:Cells w q b.1)(hK:K (.int .i64 (km a b)) w):
 bj prog gI.id #[.slice (some p) 32 c,.slice (some q) 32 c'] w K:=by
 refine gI.of ⟨.int .i64 (km a b),w,?_,_,rfl,hK⟩;have yZ:∀(h:HT) (r:Addr),Cells w r h.1->∀j x,(key h)[j]? =some x->w.cell? (r.add j)=some (.int .u8 x):=by
  intro h r hr j x hx;have hj:j<32:=by have:=(lgeS hx).1;rw [lR]at this;exact this
  obtain⟨y,hy,ky,_⟩:=wV (h:=h) hj;rw [hx]at ky;cases ky;exact hr j _ hy
 have l1:=Lib.run_loadBytesX (P:=prog) w (key a) p .empty (yZ a p ha);have l2:=Lib.run_loadBytesX (P:=prog) w (key b) q .empty (yZ b q hb);rw [lR]at l1 l2;rw [run_callFunc_extern sS.at_ (by kernel_rfl) (by kernel_rfl) (by kernel_rfl) (e:=Extern.BytealgCompare.compare) (by kernel_rfl)];have hr:(Extern.BytealgCompare.compare #[.slice (some p) 32 c,.slice (some q) 32 c']).run prog w=.ok (.int .i64 (km a b)) w:=by
  change Sem.run prog (do pure (goInt (Extern.BytealgCompare.cmp (<-Extern.Bytes.bytesOf (.slice (some p) 32 c)) (<-Extern.Bytes.bytesOf (.slice (some q) 32 c'))))) w=_
  simp only [Extern.Bytes.bytesOf,Sem.run_bind,l1,l2,Result.andThen_ok,Sem.run_pure,Lib.cmp_eq,goInt];rw [<-qI];simp
 rw [hr];rfl
theorem oR(a b:HT)(hK:K (.int .i64 (km a b)) ((w.alloc (.cells a.1 aj)).alloc (.cells b.1 aj)).drew):bj prog dp.id #[.agg a.1,.agg b.1] w K:=by
 refine dp.of ?_;unfold dp.W;intro w3 w4 w5;have ha:w5.heap[w.heap.size]? =some (.cells a.1 aj (0,0)):=jK (aJ w _) _;have hb:w5.heap[w3.heap.size]? =some (.cells b.1 aj (0,0)):=aJ w3 _;simp only [if_neg (show ¬(32:Nat)=0 by omega),Nat.zero_mul,add_zero,Nat.sub_zero];exact rK a b (Cells.bC ha) (Cells.bC hb) ⟨_,rfl,hK⟩
end
theorem ko(a:Addr)(m n:Nat):(a.add m).add n=a.add (m+n):=by
 unfold Addr.add;by_cases hm:m=0<;>by_cases hn:n=0<;>simp [hm,hn,Nat.add_assoc]
def cP(l:List HT):List Value:=l.flatMap fun h=>h.1.toList
theorem kj(h:HT)(l:List HT):cP (h::l)=h.1.toList++cP l:=by simp [cP]
theorem lC(l m:List HT):cP (l++m)=cP l++cP m:=by simp [cP]
theorem dZ:∀l:List HT,(cP l).length=l.length*32
 | []=>rfl
 |h::l=>by
  have:=h.2.1;rw [kj,List.length_append,dZ l,Array.length_toList,this,List.length_cons];omega
theorem AY(l:List HT):∀u∈cP l,u.oneCell'=true:=by
 intro u hu;simp only [cP,List.mem_flatMap]at hu;obtain⟨h,_,hu⟩:=hu;exact h.2.one u hu
theorem jV:∀ {l:List HT} {i:Nat} {h:HT},l[i]? =some h->∀ {j:Nat} {v:Value},h.1[j]? =some v->(cP l)[i*32+j]? =some v
 | [],_,_,hi,_,_,_=>by simp at hi
 |x::l,0,h,hi,j,v,hj=>by
  simp only [List.getElem?_cons_zero,Option.some.injEq]at hi;subst hi;have cy:j<x.1.toList.length:=by simpa using (Array.getElem?_eq_some_iff.1 hj).1
  rw [kj,Nat.zero_mul,Nat.zero_add,List.getElem?_append_left cy,Array.getElem?_toList,hj]
 |x::l,i+1,h,hi,j,v,hj=>by
  simp only [List.getElem?_cons_succ]at hi;have:=x.2.1;rw [kj,List.getElem?_append_right (by simp;omega),Array.length_toList,this,show(i+1)*32+j-32=i*32+j by omega];exact jV hi hj
theorem Er{l:List HT}{j:Nat}{v:Value}(h:(cP l)[j]? =some v):∃x,l[j/32]? =some x/\x.1[j%32]? =some v:=by
 have hj:=(lgeS h).1;rw [dZ]at hj;have hi:j/32<l.length:=by omega
 refine⟨l[j/32],List.getElem?_eq_getElem hi,?_⟩;have hs:=l[j/32].2.1;have hm:j%32<l[j/32].1.size:=by rw [hs];omega
 obtain⟨u,hu⟩:∃u,l[j/32].1[j%32]? =some u:=⟨_,Array.getElem?_eq_getElem hm⟩;have:=jV (List.getElem?_eq_getElem hi) hu;rw [show j/32*32+j%32=j by omega,h]at this;rw [hu,this]
theorem om:xN prog az aj 32 32:=⟨by kernel_rfl,by kernel_rfl⟩
abbrev bQ(w:World)(B:Nat)(A:Option Addr)(n c:Nat)(l:List HT):Prop:=Row w B aj 32 A n c (cP l)
section
variable{w w':World}{B:Nat}{A:Option Addr}{n c:Nat}{l:List HT}
theorem bQ.len(h:bQ w B A n c l):l.length=n:=by
 have:=Row.len h;rw [dZ]at this;omega
theorem bQ.hs(h:bQ w B A n c l):HS w A n l:=⟨h.len,fun i x hi=>by
 have hlen:=h.len;have dW:=(lgeS hi).1;obtain⟨b,rfl⟩:=Row.some h (by omega);obtain⟨_,cur,oK⟩:=Row.bC h (k:=b) rfl;refine⟨_,rfl,aS oK,fun j v hj=>?_⟩;rw [ko];exact Row.cells h _ _ (jV hi hj)⟩
theorem bQ.nil(w:World)(B:Nat):bQ w B none 0 0 []:=Row.nil _ _ _ _
theorem HS.cells{a:Addr}(h:HS w (some a) n l):∀j u,(cP l)[j]? =some u->w.cell? (a.add j)=some u:=by
 intro j u hj;obtain⟨x,hx,hu⟩:=Er hj;obtain⟨a',ha,_,hc⟩:=h.at_ _ x hx;cases ha;have:=hc _ _ hu
 rwa [ko,show j/32*32+j%32=j by omega]at this
theorem HS.nil(w:World)(A:Option Addr):HS w A 0 []:=⟨rfl,fun i x hi=>by simp at hi⟩
theorem HS.none(h:HS w none n l):n=0/\l= []:=by
 cases l with
 |nil=>exact⟨h.len.symm,rfl⟩
 |cons x l=>obtain⟨a,ha,_⟩:=h.at_ 0 x rfl;cases ha
theorem HS.take(h:HS w A n l){k:Nat}(hk:k<=n):HS w A k (l.take k):=⟨by have:=h.len;simp;omega,fun i x hi=>by
 rw [List.getElem?_take]at hi;split at hi
 ·exact h.at_ i x hi
 ·cases hi⟩
theorem HS.drop(h:HS w A n l){k:Nat}(hc:n<=c)(hk:k<=n):HS w (if c=k then A else A.map (·.add (k*32))) (n-k) (l.drop k):=⟨by have:=h.len;simp;omega,fun i x hi=>by
 rw [List.getElem?_drop]at hi;have hlen:=h.len;have:=(lgeS hi).1;obtain⟨a,rfl,hb,pG⟩:=h.at_ _ x hi;rw [if_neg (by omega)];refine⟨_,rfl,by rw [ee];exact hb,?_⟩;rw [ko,<-Nat.add_mul];exact pG⟩
theorem HS.one{w:World}{b:Nat}{h:HT}{t:TypeId}{fr:Nat×Nat}(hb:w.heap[b]? =some (.cells h.1 t fr)):HS w (some ⟨b,0,Option.none⟩) 1 [h]:=⟨rfl,fun i x hi=>by
 cases i with
 |zero=>
  simp only [List.getElem?_cons_zero,Option.some.injEq]at hi;subst hi;exact⟨_,rfl,aS hb,by rw [Nat.zero_mul,add_zero];exact Cells.bC hb⟩
 |succ i=>simp at hi⟩
theorem cF(ty:Nat)(h:bQ w B A n c l){A2:Option Addr}{m cx:Nat}{l2:List HT}(h2:HS w A2 m l2)(hm:n+m<=1000000)(hB:B<=w.heap.size):
 ∃A' c' w',(Builtin.append_ #[az,az] ty #[.slice A n c,.slice A2 m cx]).run prog w=.ok (.slice A' (n+m) c') w'/\
  bQ w' B A' (n+m) c' (l++l2)/\w.grownBy w' (a8 A)/\(∀k,a8 A'=some k->a8 A=some k\/w.heap.size<=k):=by
 cases A2 with
 |some a=>
  have sM:=h2.len;obtain⟨A',c',w',hr,eE,hg,hb⟩:=eN (P:=prog) (t:=az) (bytes:=32) (ty:=ty) om h (a:=a) (m:=m) (cx:=cx) (news:=cP l2) (by rw [dZ,sM]) h2.cells (AY l2) (by omega) (by unfold maxLen;omega) hB;refine⟨A',c',w',hr,?_,hg,hb⟩;rw [<-lC]at eE;exact eE
 |none=>
  obtain⟨rfl,rfl⟩:=h2.none;refine⟨A,c,w,?_,by simpa using h,⟨rfl,rfl,rfl,Nat.le_refl _,fun _ _ _=>rfl⟩,fun k hk=>.inl hk⟩;obtain⟨i,z,hi,hz,hs,IK,CA⟩:=om.inf;have hn:n<=c:=by rcases Row.own h with⟨_,h1,h2,_⟩|⟨_,_,_,_,_,h1,_⟩<;>omega
  simp [Builtin.append_,run_underlying om.nY,sizeOf,typeInfo,hi,Builtin.lenOf,Builtin.firstCells,hn];cases A<;>simp [storeCells]
end
theorem HS.load{w:World}{A:Option Addr}{n:Nat}{l:List HT}(hl:HS w A n l){i:Int}{x:HT}(h0:0<=i)(hx:l[i.toNat]? =some x){k:Array Value->Prop}(hk:k x.1):
 (0<=i/\i<(n:Int))/\Is A fun a=>∃t:Array Value,(t.size=32/\Cells w (a.add (i.toNat*32)) t)/\k t:=by
 obtain⟨a,rfl,_,hc⟩:=hl.at_ _ x hx;have:=(lgeS hx).1;have:=hl.len;exact⟨⟨h0,by omega⟩,x.1,⟨x.2.1,hc⟩,hk⟩
theorem qK{a b:HT}:(km a b<0)↔cy a b=true:=by
 unfold km;by_cases h:cy a b=true
 ·simp [h]
 ·by_cases h':cy b a=true<;>simp [h,h']
theorem dh{n:Int}(h0:0<=n)(h1:n<=2000000):i64.wrap (n+1)=n+1:=gQ (by omega) (by omega)
theorem wrapM{n:Int}(h0:0<=n)(h1:n<=2000000):i64.wrap (n-1)=n-1:=gQ (by omega) (by omega)
theorem Kept.dF{w w' kM:World}{A:Option Addr}(h:Kept Nil w w')(hg:w'.grownBy kM (a8 A))(hr:∀k,a8 A=some k->w.heap.size<=k):Kept Nil w kM:=
 Kept.grown h hg fun k hk cy=>absurd (hr k hk) (by omega)
section
variable{w:World}{K:Value->World->Prop}
theorem pN{A:Option Addr}{n c:Nat}{l:List HT}(hl:HS w A n l)(hn:n<=400000)
 (hK:∀A' c' w',bQ w' w.heap.size A' (dd l).length c' (dd l)->Kept Nil w w'->K (.slice A' (dd l).length c') w'):
 bj prog aL.id #[.slice A n c] w K:=by
 refine aL.of ?_;have hlen:=hl.len;refine aL.b7 (I:=fun s w'=>∃(i:Nat) (out:List HT) (B:Option Addr) (m:Nat),s=(B,out.length,m,(i:Int))/\i<=n/\bQ w' w.heap.size B out.length m out/\SS out/\(∀x,x∈out↔x∈l.take i)/\out.length<=i/\Kept Nil w w')
  (μ:=fun s _=>((n:Int)-s.2.2.2).toNat) (s:=(none,0,0,0)) ⟨0,[],none,0,rfl,Nat.zero_le _,bQ.nil _ _,List.Pairwise.nil,by simp,by simp,Kept.refl _ _⟩ ?_
 rintro s w' ⟨i,out,B,m,rfl,hi,row,rC,gR,hol,kw⟩;refine Split.dec (fun iU=>?_) (fun fU=>?_)
 ·simp only at iU
  have dW:i<n:=by omega
  obtain⟨x,hx⟩:∃x,l[i]? =some x:=⟨_,List.getElem?_eq_getElem (by omega)⟩;refine(hl.same kw).load (i:=(i:Int)) (by omega) hx (rh x row.hs (by simp only;omega) fun w9 k9=>⟨_,rfl,?_⟩);simp only;have Ry:Kept Nil w w9:=kw.tt k9;have Q4:bQ w9 w.heap.size B out.length m out:=Row.aD row k9 (fun _ _ h=>h);have xF:l.take (i+1)=l.take i++ [x]:=by rw [List.take_add_one,hx];rfl
  refine Split.dec (fun fz=>?_) (fun lZ=>?_)
  ·rw [dh (n:=(i:Int)) (by omega) (by omega)]
   refine⟨(B,out.length,m,(i:Int)+1),rfl,⟨i+1,out,B,m,rfl,dW,Q4,rC,fun y=>?_,by omega,Ry⟩,by simp only;omega⟩;rw [xF,List.mem_append,List.mem_singleton,<-gR y];constructor
   ·exact .inl
   ·rintro(h|rfl)
    ·exact h
    ·exact fz
  ·refine aL.gw (I:=fun s w'=>∃k:Nat,s=(k:Int)/\k<=out.length/\(∀y∈out.drop k,cy x y=true)/\Kept Nil w9 w') (μ:=fun s _=>s.toNat) (s:=(out.length:Int)) ⟨out.length,rfl,Nat.le_refl _,by simp,Kept.refl _ _⟩ ?_
   rintro s w1 ⟨k,rfl,hk,uq,k1⟩;have LM:HS w1 A n l:=(hl.same Ry).same k1;have wK:bQ w1 w.heap.size B out.length m out:=Row.aD Q4 k1 (fun _ _ h=>h);have kx:Kept Nil w w1:=Ry.tt k1;have uo:∀w1,HS w1 A n l->bQ w1 w.heap.size B out.length m out->Kept Nil w w1->(∀y∈out.take k,cy y x=true)->
    aL.gU A n c none 0 0 B out.length m (i:Int) (k:Int) (bI (aL.e1 A n c none 0 0) (fun s w'=>∃(i:Nat) (out:List HT) (B:Option Addr) (m:Nat),s=(B,out.length,m,(i:Int))/\i<=n/\bQ w' w.heap.size B out.length m out/\SS out/\(∀x,x∈out↔x∈l.take i)/\out.length<=i/\Kept Nil w w') (fun s _=>((n:Int)-s.2.2.2).toNat) (B,out.length,m,(i:Int)) w' (aL.q1 K)) w1:=by
    intro w1 LM wK kx G3;have Ht:out.length<=m:=by rcases Row.own wK with⟨_,h1,h2,_⟩|⟨_,_,_,_,_,h1,_⟩<;>omega
    have kY:=kx.size;unfold aL.gU;refine⟨⟨by omega,by omega⟩,?_⟩;have xc:HS w1 (if m=0 then B else B.map (·.add (0*32))) ((k:Int).toNat -0) (out.take k):=by
     have h:=wK.hs.take hk;rw [Nat.sub_zero,Int.toNat_natCast];have e:(if m=0 then B else B.map (·.add (0*32)))=B:=by
      split
      ·rfl
      ·cases B<;>simp [add_zero]
     rw [e];exact h
    obtain⟨A1,c1,w2,ki,fI,Kk,lS⟩:=cF (cx:=m-0) az (bQ.nil w1 w.heap.size) xc (by simp;omega) kY;have k2:Kept Nil w1 w2:=Kept.dF (Kept.refl _ _) Kk (fun k hk=>by cases hk);rw [Nat.zero_add,Nat.sub_zero,Int.toNat_natCast]at ki fI;rw [List.nil_append]at fI;refine⟨A1,_,c1,w2,by rw [Nat.sub_zero,Int.toNat_natCast];exact ki,?_⟩;have sM:=LM.same k2;refine sM.load (i:=(i:Int)) (by omega) hx ⟨x.2.1,?_⟩;intro w3;have k3:Kept Nil w2 w3:=(Kept.refl _ _).alloc _;have ja:HS w3 (some ⟨w2.heap.size,0,none⟩) 1 [x]:=by
     refine HS.one (t:=aj) (fr:=(0,0)) ?_;have e3:w3=w2.alloc (.cells x.1 aj):=by
      show w2.alloc (.cells (x.1.toList++ []).toArray aj)=_
      simp
     rw [e3];exact aJ w2 _
    clear_value w3;have ou:bQ w3 w.heap.size A1 k c1 (out.take k):=Row.aD fI k3 (fun _ _ h=>h);have YU:w.heap.size<=w3.heap.size:=Nat.le_trans (Nat.le_trans kY k2.size) k3.size;obtain⟨A4,c4,w4,xG,jn,CQ,qT⟩:=cF (cx:=1) az ou ja (by omega) YU;have k4:Kept Nil w1 w4:=Kept.dF (k2.tt k3) CQ (fun k hk=>by rcases lS k hk with h|h;cases h;exact h);refine⟨A4,_,c4,w4,xG,⟨by omega,by omega⟩,?_⟩;have Qc:HS w4 (if m=(k:Int).toNat then B else B.map (·.add ((k:Int).toNat*32))) (out.length-(k:Int).toNat) (out.drop k):=by
     rw [Int.toNat_natCast];exact(wK.hs.same k4).drop Ht hk
    have hdl:(out.length-(k:Int).toNat)=out.length-k:=by rw [Int.toNat_natCast]
    obtain⟨A5,c5,w5,sI,kI,TT,mZ⟩:=cF (cx:=m-(k:Int).toNat) az jn Qc (by omega) (Nat.le_trans kY k4.size);have k5:Kept Nil w1 w5:=Kept.dF k4 TT (fun b hb=>by
     rcases qT b hb with h|h
     ·rcases lS b h with h|h
      ·cases h
      ·exact h
     ·exact Nat.le_trans (Nat.le_trans k2.size k3.size) h)
    refine⟨A5,_,c5,w5,sI,?_⟩;rw [dh (n:=(i:Int)) (by omega) (by omega)];have jP:out.take k++ [x]++out.drop k=out.take k++x::out.drop k:=by simp
    have xH:(out.take k++x::out.drop k).length=out.length+1:=by simp;omega
    rw [jP]at kI;have e5:k+1+(out.length-(k:Int).toNat)=(out.take k++x::out.drop k).length:=by rw [xH];omega
    rw [e5]at kI⊢;refine⟨(A5,(out.take k++x::out.drop k).length,c5,(i:Int)+1),rfl,⟨i+1,_,A5,c5,rfl,dW,kI,Il rC G3 uq,fun y=>?_,by omega,kx.tt k5⟩,by simp only;omega⟩;rw [show y∈l.take (i+1)↔y∈out\/y=x by rw [xF,List.mem_append,List.mem_singleton,gR y],List.mem_append,List.mem_cons];constructor
    ·rintro(h|rfl|h)
     ·exact .inl (List.mem_of_mem_take h)
     ·exact .inr rfl
     ·exact .inl (List.mem_of_mem_drop h)
    ·rintro(h|rfl)
     ·rw [<-List.take_append_drop k out,List.mem_append]at h
      rcases h with h|h
      ·exact .inl h
      ·exact .inr (.inr h)
     ·exact .inr (.inl rfl)
   unfold aL.B2;intro w2;have k2:Kept Nil w1 w2:=(Kept.refl _ _).drew;clear_value w2;have sM:=LM.same k2;have fI:bQ w2 w.heap.size B out.length m out:=Row.aD wK k2 (fun _ _ h=>h);have kx2:=kx.tt k2;refine Split.dec (fun im=>?_) (fun yW=>?_)
   ·have nP:0<k:=by omega
    obtain⟨y,hy⟩:∃y,out[k-1]? =some y:=⟨_,List.getElem?_eq_getElem (by omega)⟩;rw [wrapM (n:=(k:Int)) (by omega) (by omega)];refine sM.load (i:=(i:Int)) (by omega) hx (fI.hs.load (by omega) (by rw [show((k:Int)-1).toNat=k-1 by omega];exact hy) (rY x y fun w3 k3=>⟨_,rfl,?_⟩));refine Split.dec (fun hc=>?_) (fun hc=>?_)
    ·refine⟨(k:Int)-1,rfl,⟨k-1,by omega,by omega,fun z hz=>?_,(k1.tt k2).tt k3⟩,by simp only;omega⟩
     have hd:out.drop (k-1)=y::out.drop k:=by
      obtain⟨h1,h2⟩:=lgeS hy;rw [List.drop_eq_getElem_cons h1,h2,show k-1+1=k by omega]
     rw [hd]at hz;rcases List.mem_cons.1 hz with rfl|hz
     ·exact qK.1 hc
     ·exact uq z hz
    ·rw [aQ,aL.jA]
     refine uo w3 (sM.same k3) (Row.aD fI k3 (fun _ _ h=>h)) (kx2.tt k3) fun z hz=>?_;have CB:cy y x=true:=by
      have h1:cy x y=false:=by
       cases h:cy x y
       ·rfl
       ·exact absurd (qK.2 h) hc
      refine lt_of_le_ne h1 fun e=>lZ ?_;rw [<-e];exact List.mem_of_getElem? hy
     obtain⟨j,hj⟩:=List.mem_iff_getElem?.1 hz;rw [List.getElem?_take]at hj;split at hj
     ·rename_i Wy
      by_cases e:j=k-1
      ·subst e;rw [hy]at hj;cases hj;exact CB
      ·exact jx (rC.get (by omega) hj hy) CB
     ·cases hj
   ·rw [aQ,aL.jA]
    have nP:k=0:=by omega
    refine uo w2 sM fI kx2 fun z hz=>?_;rw [nP]at hz;simp at hz
 ·simp only at fU
  have:i=n:=by omega
  subst this;rw [aQ,aL.c8];have e:out=dd l:=wH rC fun x=>by rw [gR,List.take_of_length_le (by omega)]
  rw [e]at row;have:=hK B m w' row kw;rw [<-e]at this;exact this
end
theorem jX{w:World}{k l:Nat}{cs:Array Value}{t:TypeId}{fr:Nat×Nat}{R:Loop}(h:w.heap[k]? =some (.cells cs t fr))(h':w.heap[l]? =some (.loop R)):k≠l:=by
 rintro rfl;rw [h]at h';cases h'
theorem wS{w:World}{k l:Nat}{cs:Array Value}{t:TypeId}{fr:Nat×Nat}{d:Option (List Deferred)}(h:w.heap[k]? =some (.cells cs t fr))(h':w.heap[l]? =some (.deferred d)):k≠l:=by
 rintro rfl;rw [h]at h';cases h'
theorem Row.apart{w w':World}{B:Nat}{e:TypeId}{size:Nat}{A:Option Addr}{n c:Nat}{xs:List Value}(h:Row w B e size A n c xs){l:Nat}(hk:Kept (· =l) w w')
 (hl:∀cs t fr,w.heap[l]? ≠some (.cells cs t fr)):Row w' B e size A n c xs:=Row.aD h hk fun k hb e=>by
 subst e;obtain⟨_,cur,hc⟩:=Row.bC h hb;exact hl _ _ _ hc
abbrev qH(h:HT):List Value:= [.agg h.1]
section
variable{w:World}{K:Value->World->Prop}
theorem xW(p:Addr){A:Option Addr}{n c:Nat}{l:List HT}(hn:n<=1000000):
 mN prog aC.id #[] #[.pointer (some p)] (l.map qH) (fun w=>HS w A n l/\w.cell? p=some (.slice A n c)):=by
 intro y I D w0 hI hD qD h0 pX;refine aC.of ?_;obtain⟨CL,Qj⟩:=qD 0 w0 h0;have hlen:=CL.len;refine⟨A,n,c,Qj,?_⟩;refine aC.b7 (I:=fun s w'=>∃i:Nat,s=(i:Int)/\i<=n/\I i w') (μ:=fun s _=>((n:Int)-s).toNat) (s:=0) ⟨0,rfl,Nat.zero_le _,h0⟩ ?_;rintro s w' ⟨i,rfl,hi,hw⟩;refine Split.dec (fun iU=>?_) (fun fU=>?_)
 ·have dW:i<n:=by omega
  obtain⟨x,hx⟩:∃x,l[i]? =some x:=⟨_,List.getElem?_eq_getElem (by omega)⟩;have hl:=(qD i w' hw).1;refine hl.load (i:=(i:Int)) (by omega) hx ?_;intro w10;obtain⟨sH,hb,hk⟩:=gM (w:=w') (z:=(#[.int .u8 0,.int .u8 0,.int .u8 0,.int .u8 0,.int .u8 0,.int .u8 0,.int .u8 0,.int .u8 0,.int .u8 0,.int .u8 0,.int .u8 0,.int .u8 0,.int .u8 0,.int .u8 0,.int .u8 0,.int .u8 0,.int .u8 0,.int .u8 0,.int .u8 0,.int .u8 0,.int .u8 0,.int .u8 0,.int .u8 0,.int .u8 0,.int .u8 0,.int .u8 0,.int .u8 0,.int .u8 0,.int .u8 0,.int .u8 0,.int .u8 0,.int .u8 0]:Array Value)) (cs:=x.1) (t:=aj) (by rw [x.2.1];rfl);refine⟨⟨x.2.1,x.2.one,fun j hj=>sH j (by rw [x.2.1];exact hj)⟩,?_⟩;intro lN
  replace hb:lN.heap[w'.heap.size]? =some (.cells x.1 aj (0,0)):=hb
  replace hk:Kept Nil w' lN:=hk
  clear_value lN;refine⟨x.1,⟨x.2.1,Cells.bC hb⟩,?_⟩;refine(pX i (qH x) lN (by rw [List.getElem?_map,hx];rfl) (hI i w' lN hw hk)).mono ?_;rintro b kM ⟨ht,hf⟩;cases b with
  |true=>
   refine Split.no rfl ?_;rw [dh (n:=(i:Int)) (by omega) (by omega)];exact⟨(i:Int)+1,rfl,⟨i+1,rfl,dW,ht rfl⟩,by simp only;omega⟩
  |false=>
   refine Split.yes rfl ?_;exact Or.inr (hf rfl)
 ·rw [aQ,aC.c8]
  have e:i=n:=by omega
  subst e;refine Or.inl ?_;rw [List.length_map,hlen];exact hw
theorem vB{gf:FuncId}{gC:Array Value}{xs:List HT}{fn:Func}(IJ:prog.funcs[gf]? =some fn)(hb:fn.body.isSome){IS:World->Prop}
 (hit:mN prog gf #[] gC (xs.map qH) IS) (hp:∀w',Kept Nil w w'->IS w') (JJ:xs.length<=1000000)
 (hK:∀A c w',bQ w' w.heap.size A xs.length c xs->Kept Nil w w'->K (.slice A xs.length c) w'):
 bj prog aK.id #[.slice none 0 0,.func (.func gf) #[] gC] w K:=by
 refine aK.of ?_;unfold aK.W;intro w3;have k3:Kept Nil w w3:=(Kept.refl Nil w).alloc _;have pe:w3.heap[w.heap.size]? =some (.cells #[.slice none 0 0] az (0,0)):=aJ w _;have AG:w.heap.size<w3.heap.size:=aS pe;clear_value w3
 let ρ0:Env:= [(2,.pointer (some (⟨w.heap.size,0,none⟩:Addr))),(4,.slice none 0 0),(6,.func (.func gf) #[] gC)]
 let J:Nat->World->Prop:=fun i w'=>∃A c,w'.heap[w.heap.size]? =some (.cells #[.slice A i c] az (0,0))/\bQ w' w.heap.size A i c (xs.take i)/\Kept Nil w w'/\i<=xs.length/\∀k,a8 A=some k->k≠w.heap.size
 refine mV (ρ:=ρ0) (ρ0:=ρ0) ng mix aK.k (t:=6) (ps:= #[7]) (by kernel_rfl) (by decide) rfl IJ hb (.inl rfl) (fun i v _ h=>h) rfl qH xs (fun _=>rfl) (by simp [gB]) hit J (fun _ _=>False) ?_ (fun _ _ _ _ _ h=>h.elim) (fun i w' h=>hp w' (let ⟨_,_,_,_,h,_⟩:=h;h)) ?_ ?_ ?_ (fun _ _ h=>h.elim) (fun _ _ _ h=>h.elim)
 ·rintro i w' kM R hl ⟨A,c,h1,h2,h3,h4,h5⟩ hk
  exact⟨A,c,hk.heap h1 (jX h1 hl.loop),Row.apart h2 hk (fun cs t fr h=>by rw [hl.loop]at h;cases h),h3.trans hk (fun k hk e=>by omega),h4,h5⟩
 ·intro R
  exact⟨none,0,jK (jK pe _) _,bQ.nil _ _,(k3.alloc _).alloc _,Nat.zero_le _,fun k hk=>by cases hk⟩
 ·rintro i x w' R hx ⟨A,c,h1,h2,h3,h4,h5⟩ hl
  have dW:i<xs.length:=(lgeS hx).1;have e7:kK ρ0 ((#[7]:Array Nat).toList.zip (qH x))= [(2,.pointer (some (⟨w.heap.size,0,none⟩:Addr))),(4,.slice none 0 0),(6,.func (.func gf) #[] gC),(7,.agg x.1)]:=rfl;rw [e7,aK.a1];unfold aK.A1;intro w8;obtain⟨sH,jh,jB⟩:=gM (w:=w') (z:=(#[.int .u8 0,.int .u8 0,.int .u8 0,.int .u8 0,.int .u8 0,.int .u8 0,.int .u8 0,.int .u8 0,.int .u8 0,.int .u8 0,.int .u8 0,.int .u8 0,.int .u8 0,.int .u8 0,.int .u8 0,.int .u8 0,.int .u8 0,.int .u8 0,.int .u8 0,.int .u8 0,.int .u8 0,.int .u8 0,.int .u8 0,.int .u8 0,.int .u8 0,.int .u8 0,.int .u8 0,.int .u8 0,.int .u8 0,.int .u8 0,.int .u8 0,.int .u8 0]:Array Value)) (cs:=x.1) (t:=aj) (by rw [x.2.1];rfl);refine⟨⟨x.2.1,x.2.one,fun j hj=>sH j (by rw [x.2.1];exact hj)⟩,?_⟩;intro vK
  replace jh:vK.heap[w'.heap.size]? =some (.cells x.1 aj (0,0)):=jh
  replace jB:Kept Nil w' vK:=jB
  clear_value vK;have Kb:=hl.aD jB (fun h=>h) (fun h=>h);refine⟨Kb,fun w2 R2 nA sM=>?_⟩;have aaE:=nA.heap jh (jX jh Kb.loop);have h1b:=jB.heap h1 (fun h=>h);have CW:=nA.heap h1b (jX h1b Kb.loop);have A9:bQ w2 w.heap.size A i c (xs.take i):=Row.apart (Row.aD h2 jB (fun _ _ h=>h)) nA (fun cs t fr h=>by rw [Kb.loop]at h;cases h);have Vc:Kept Nil w w2:=(h3.tt jB).trans nA (fun k hk e=>by omega);have cy:w.heap.size<w2.heap.size:=aS CW;rw [aK.y1];unfold aK.Y1;refine⟨A,i,c,by rw [ay CW];rfl,x.1,⟨x.2.1,Cells.bC aaE⟩,x.2.1,?_⟩;intro jk;have nv:Kept Nil w2 jk:=(Kept.refl _ _).alloc _;have ja:HS jk (some ⟨w2.heap.size,0,none⟩) 1 [x]:=by
   refine HS.one (t:=aj) (fr:=(0,0)) ?_;have e3:jk=w2.alloc (.cells x.1 aj):=by
    show w2.alloc (.cells (x.1.toList++ []).toArray aj)=_
    simp
   rw [e3];exact aJ w2 _
  clear_value jk;have Kv:bQ jk w.heap.size A i c (xs.take i):=Row.aD A9 nv (fun _ _ h=>h);have abz:=nv.heap CW (fun h=>h);have ag8:=nv.size;obtain⟨A',c',vI,hr,mr,hg,vr⟩:=cF (cx:=1) az Kv ja (by omega) (by omega);have OK:Kept (fun k=>a8 A=some k) jk vI:=Kept.grown (Kept.refl _ _) hg (fun k hk _=>hk);have Kw:=OK.heap abz (fun h=>h5 _ h rfl);have Ox:Live (w3.heap.size+1) w3.heap.size R2 vI:=by
   have Oy:=sM.aD nv (fun h=>h) (fun h=>h);refine Oy.aD OK ?_ ?_
   ·intro h
    obtain⟨_,cur,hc⟩:=Row.bC Kv h;exact jX hc Oy.loop rfl
   ·intro h
    obtain⟨_,cur,hc⟩:=Row.bC Kv h;exact wS hc Oy.mark rfl
  have Iy:Kept Nil w vI:=(Vc.tt nv).trans OK (fun k hk e=>by
   obtain⟨h,_⟩:=Row.bC Kv e;omega)
  refine⟨A',_,c',vI,hr,dK Kw (by simp),?_⟩;intro nX;have wg:Kept (· =w.heap.size) vI nX:=Kept.setCell (S:=fun k=>k=w.heap.size) (Kept.refl _ vI) (p:=⟨w.heap.size,0,none⟩) (fun _=>rfl) _;have aaV:nX.heap[w.heap.size]? =some (.cells #[.slice A' (i+1) c'] az (0,0)):=cS Kw 0 _;clear_value nX;have Ev:∀k,a8 A'=some k->k≠w.heap.size:=fun k hk=>by
   rcases vr k hk with h|h
   ·exact h5 k h
   ·omega
  refine⟨Ox.aD wg (jX Kw Ox.loop).symm (wS Kw Ox.mark).symm,A',c',aaV,?_,Iy.trans wg (fun k hk e=>by omega),dW,Ev⟩;rw [List.take_add_one,hx];exact Row.aD mr wg Ev
 ·rintro w' R ⟨A,c,h1,h2,h3,h4,h5⟩ hl
  have e7:gN ρ0 w3.heap.size= [(2,.pointer (some (⟨w.heap.size,0,none⟩:Addr))),(4,.slice none 0 0),(6,.func (.func gf) #[] gC),(4294967296,.agg #[.pointer (some ⟨w3.heap.size,0,none⟩)])]:=rfl;rw [e7,aK.jS];refine⟨A,xs.length,c,by rw [ay h1];rfl,⟨hl.mark,trivial⟩,?_⟩;have kp:Kept (· =w3.heap.size) w' (w'.putObj w3.heap.size (.deferred none)):=Kept.putAt _ _ _;refine hK A c _ ?_ (h3.trans kp (fun k hk e=>by omega));have:=Row.apart h2 kp (fun cs t fr h=>by rw [hl.mark]at h;cases h)
  rwa [List.take_of_length_le (Nat.le_refl _)]at this
theorem Bn{gf:FuncId}{gC:Array Value}{xs:List HT}{fn:Func}(IJ:prog.funcs[gf]? =some fn)(hb:fn.body.isSome){IS:World->Prop}
 (hit:mN prog gf #[] gC (xs.map qH) IS) (hp:∀w',Kept Nil w w'->IS w') (JJ:xs.length<=1000000)
 (hK:∀A c w',bQ w' w.heap.size A xs.length c xs->Kept Nil w w'->K (.slice A xs.length c) w'):
 bj prog cJ.id #[.func (.func gf) #[] gC] w K:=by
 refine cJ.of (vB IJ hb hit hp JJ fun A c w' h1 h2=>⟨_,_,_,rfl,hK A c w' h1 h2⟩)
end
open Go.Sort
instance:Inhabited HT:=⟨⟨Array.replicate 32 (.int .u8 0),by simp,fun v hv=>⟨0,by simpa using hv,by omega,by omega⟩⟩⟩
abbrev mf(h:HT):List Value:=h.1.toList
theorem zg(h:HT):(mf h).length=32:=by have:=h.2.1;simpa using this
theorem uD(d:Array HT):(flatK mf 32 d).toList=cP d.toList:=by
 apply List.ext_getElem?;intro t;by_cases ht:t<d.size*32
 ·have hi:t/32<d.size:=by omega
  have hx:d.toList[t/32]? =some d[t/32]:=by rw [Array.getElem?_toList,Array.getElem?_eq_getElem hi]
  have hs:t%32<d[t/32].1.size:=by rw [d[t/32].2.1];omega
  have h1:=jV hx (Array.getElem?_eq_getElem hs);rw [show t/32*32+t%32=t by omega]at h1;rw [h1];have h2:t<(flatK mf 32 d).size:=by rw [size_flatK];exact ht
  have h3:=get_flatK mf 32 d t ht;rw [getElem!_pos _ t h2]at h3;rw [Array.getElem?_toList,Array.getElem?_eq_getElem h2,h3,getElem!_pos d _ hi];rw [getElem!_pos _ _ (by rw [zg];omega)];simp [mf]
 ·rw [List.getElem?_eq_none (by simp;omega),List.getElem?_eq_none (by rw [dZ];simp;omega)]
theorem F7{F cur:Array Value}{k:Nat}(hk:F.size=k)(h:k<=cur.size):(putCells id 0 F cur).toList.take k=F.toList:=by
 apply List.ext_getElem?;intro i;rw [List.getElem?_take];split
 ·rename_i hi
  have h1:i<cur.size:=by omega
  have h2:i<F.size:=by omega
  rw [Array.getElem?_toList,Array.getElem?_toList,putCells,Array.getElem?_mapIdx,Array.getElem?_eq_getElem h1,Array.getElem?_eq_getElem h2];simp [h2]
 ·rw [List.getElem?_eq_none (by simp;omega)]
theorem vg{w:World}{b:Nat}{f:Array Value->Array Value}{cur:Array Value}{t:TypeId}{fr:Nat×Nat}(h:w.heap[b]? =some (.cells cur t fr)):(mapBlock w b f).heap[b]? =some (.cells (f cur) t fr):=by
 simp [mapBlock,Array.getElem?_modify,h,onCells]
theorem vf(w:World)(b:Nat)(f:Array Value->Array Value):Kept (· =b) w (mapBlock w b f):=
 ⟨rfl,rfl,rfl,by simp [mapBlock],fun k _ hn=>by simp [mapBlock,Array.getElem?_modify,Ne.symm hn]⟩
theorem Ew(w:World)(os:Array Obj):Kept Nil w (grow w os):=
 ⟨rfl,rfl,rfl,by simp,fun k hk _=>heap_grow_old w os hk⟩
theorem BD(w:World)(m:Nat):Kept Nil w (Sort.ahead w m):=⟨rfl,rfl,rfl,Nat.le_refl _,fun _ _ _=>rfl⟩
section
variable{w:World}{B n c b:Nat}{l:List HT}
theorem u9(row:bQ w B (some ⟨b,0,none⟩) n c l)(m:Nat)(dk:Array HT)(os:Array Obj)(hd:dk.size=n):
 bQ (sortWorldK mf 32 w b 0 m dk os) B (some ⟨b,0,none⟩) n c dk.toList/\Kept (· =b) w (sortWorldK mf 32 w b 0 m dk os):=by
 have hka:=BD w m;have k1:=vf (Sort.ahead w m) b (putCells id 0 (flatK mf 32 dk));have kk:=((hka.mono (S':=fun k=>k=b) (fun _ _ h=>h.elim)).tt k1).trans (Ew _ os) (fun _ _ h=>h.elim);refine⟨?_,?_⟩
 ·rcases Row.own row with⟨h,_⟩|⟨b',cur,hA,hB,hg,El,nD,ml,xF⟩
  ·cases h
  ·cases hA
   refine⟨by rw [dZ,Array.length_toList,hd],.inr ⟨b,c,putCells id 0 (flatK mf 32 dk) cur,rfl,hB,?_,El,nD,by simp [putCells,ml],?_⟩⟩
   ·have h1:(mapBlock (Sort.ahead w m) b (putCells id 0 (flatK mf 32 dk))).heap[b]? =some (.cells (putCells id 0 (flatK mf 32 dk) cur) aj (0,0)):=vg hg
    exact(heap_grow_old _ os (aS h1)).trans h1
   ·rw [<-uD]
    refine F7 (by rw [size_flatK,hd]) ?_;rw [ml];exact Nat.mul_le_mul_right _ El
 ·exact kk
theorem AQ(row:bQ w B (some ⟨b,0,none⟩) n c l):HoldsK mf 32 w b 0 l.toArray:=by
 intro j hj;rw [size_flatK]at hj;have uk:j<l.length*32:=by simpa using hj
 rw [Nat.zero_add];have hlen:=Row.len row;have hx:(flatK mf 32 l.toArray).toList[j]? =(cP l)[j]? :=by rw [uD]
 have hjs:j<(flatK mf 32 l.toArray).size:=by rw [size_flatK];exact hj
 rw [Array.getElem?_toList,Array.getElem?_eq_getElem hjs]at hx;have hc:=Row.cell row hx.symm;refine⟨?_,?_⟩
 ·rw [hc,getElem!_pos _ j hjs];rfl
 ·exact(Row.wr row (j:=j) (by rw [dZ];exact uk)).2
theorem oJ(x y:HT):ltOf km x y=cy x y:=by
 unfold ltOf;cases h:cy x y
 ·exact decide_eq_false fun h'=>by rw [qK.1 h']at h;cases h
 ·exact decide_eq_true (qK.2 h)
theorem le_trans'{x y z:HT}(h:cy y x=false)(h':cy z y=false):cy z x=false:=by
 cases Sa:cy z x
 ·rfl
 ·exfalso
  by_cases e:y=z
  ·subst e;rw [h]at Sa;cases Sa
  ·have P6:=lt_of_le_ne h' e
   have:=jx P6 Sa;rw [h]at this;cases this
theorem Xw:SWO (ltOf km) where
 irrefl x:=by rw [oJ];exact gH x
 trans x y z h h':=by rw [oJ]at*;exact jx h h'
 ntrans x y z h h':=by
  rw [oJ]at*;exact le_trans' h' h
theorem I4{A:Option Addr}{K:Value->World->Prop}(row:bQ w B A n c l)(hn:n<=1000000)
 (hK:∀l' w',LE l'->(∀x,x∈l'↔x∈l)->bQ w' B A n c l'->Kept (fun k=>a8 A=some k) w w'->K (.tuple #[]) w'):
 bj prog iA.id #[.slice A n c,.func (.func dp.id) #[] #[]] w K:=by
 have hlen:=row.len;by_cases h0:n=0
 ·subst h0
  have h:=AnyF.slices_SortFunc_none Tryz.vM A c (.func (.func dp.id) #[] #[]) w;refine Calls.mono h ?_;rintro e w' ⟨rfl,rfl⟩;have:l= []:=List.eq_nil_of_length_eq_zero hlen;subst this;exact⟨_,rfl,hK [] _ List.Pairwise.nil (fun _=>Iff.rfl) row (Kept.refl _ _)⟩
 ·obtain⟨b,rfl⟩:=Row.some row (by omega)
  have hblk:b<w.heap.size:=by
   obtain⟨_,cur,hc⟩:=Row.bC row (k:=b) rfl;exact aS hc
  have kY:l.toArray.size=n:=by simpa using hlen
  have eg:∀args w,(callFunc dp.id args).run prog w=.ok (.enter dp.id args) w:=enters_of dp.at_ (by kernel_rfl) rfl;have hk:mX prog aj=.agg 32:=by kernel_rfl
  obtain⟨e32,ha⟩:=qz hk;obtain⟨i,hi⟩:=Go.bP.info_of_underlying (P:=prog) (t:=aj) (by kernel_rfl);have aat:CmpLays prog dp.id #[] mf 32 km b 0 l.toArray.size w:=fun m os dk _ x y=>by
   have e:(#[.agg (mf x).toArray,.agg (mf y).toArray]++ #[]:Array Value)= #[.agg x.1,.agg y.1]:=by simp [mf]
   rw [e];have h:=oR (w:=sortWorldK mf 32 w b 0 m dk os) x y (K:=fun v w'=>v=.int .i64 (km x y)/\w'=(((sortWorldK mf 32 w b 0 m dk os).alloc (.cells x.1 aj)).alloc (.cells y.1 aj)).drew) ⟨rfl,rfl⟩;refine Calls.mono h ?_;rintro e w' ⟨v,rfl,rfl,rfl⟩;refine⟨rfl,1,#[.cells x.1 aj,.cells y.1 aj],?_⟩;rw [alloc_eq_grow,alloc_eq_grow,grow_grow,drew_grow];rfl
  have h:=AnyQ.slices_SortFunc_total Tryz.vM 32 ha (fun w=>by rw [e32];exact Go.bP.run_sizeOf hi w) mf zg (fun x=>x.2.one) km Xw dp.id #[] b 0 c l.toArray w eg aat (AQ row) hblk (by omega)
   (fun x y h1 h2=>by rw [oJ]at h1 h2;exact o9 h1 h2)
  rw [kY]at h;refine Calls.mono h ?_;rintro e w' ⟨rfl,m,os,rfl⟩;have hp:=List.mergeSort_perm l.toArray.toList (fun x y=> !(ltOf km) y x);have Ka:(l.toArray.toList.mergeSort fun x y=> !(ltOf km) y x).toArray.size=n:=by
   have:=hp.length_eq;simp only [List.size_toArray];rw [this];simpa using hlen
  obtain⟨h1,h2⟩:=u9 row m _ os Ka;refine⟨_,rfl,hK _ _ ?_ (fun x=>?_) h1 (h2.mono fun k _ e=>by rw [e];rfl)⟩
  ·have hs:=List.pairwise_mergeSort (le:=fun x y=> !(ltOf km) y x) (fun a b c h h'=>by
    rw [oJ]at*;simp only [Bool.not_eq_true']at*;exact le_trans' h h') (fun a b=>by
    rw [oJ,oJ];cases lD:cy b a
    ·rfl
    ·rw [rH lD];rfl) l.toArray.toList
   refine List.Pairwise.imp ?_ hs;intro a b lD;rw [oJ]at lD;simpa using lD
  ·simp
end
end Go.Proofs.YtnboahlopghcjaaGreatDoor
namespace Go.Proofs.YtnboahlopghcjaaGreatDoor
open Go.Proofs.Tryz
open Go Go.bP Go.RowKit
theorem AX{l:List HT}{k:Nat}(hk:k<l.length)(x:HT):cP (l.set k x)=gk (cP l) (k*32) x.1.toList:=by
 have h1:l=l.take k++l[k]::l.drop (k+1):=by rw [<-List.drop_eq_getElem_cons hk,List.take_append_drop]
 have e1:(cP (l.take k)).length=k*32:=by rw [dZ,List.length_take];omega
 have hx:=x.2.1;have hl:=l[k].2.1;have hs:l.set k x=l.take k++x::l.drop (k+1):=List.set_eq_take_append_cons_drop .. |>.trans (if_pos hk)
 rw [hs]
 conv=>rhs;rw [h1]
 rw [lC,lC,kj,kj];generalize cP (l.take k)=p at e1;generalize cP (l.drop (k+1))=r;have eq:l[k].1.toList.length=32:=by simpa using hl
 have ev:x.1.toList.length=32:=by simpa using hx
 generalize l[k].1.toList=q at eq;generalize x.1.toList=v at ev;unfold gk;rw [List.take_left' e1,ev,show p++(q++r)=(p++q)++r by simp,List.drop_left' (by rw [List.length_append,e1,eq])];simp
theorem bQ.setAt{w:World}{B n c b:Nat}{l:List HT}(row:bQ w B (some ⟨b,0,none⟩) n c l){k:Nat}(hk:k<n)(x:HT):
 bQ (setCells w ⟨b,k*32,none⟩ x.1.toList 0) B (some ⟨b,0,none⟩) n c (l.set k x):=by
 have hlen:=row.len;have hx:=x.2.1;have:=qh x.1.toList (cP l) w (k*32) 0 row (by rw [dZ];simp;omega);rw [Nat.add_zero]at this;rw [<-AX (by omega)]at this;exact this
theorem bQ.Ms{w:World}{B n c b:Nat}{l:List HT}(row:bQ w B (some ⟨b,0,none⟩) n c l){k:Nat}(hk:k<n)(j:Nat)(hj:j<32):Wr w ((⟨b,k*32,none⟩:Addr).add j):=by
 rw [a7];refine Row.wr row ?_;rw [dZ,row.len];omega
theorem bQ.cap{w:World}{B:Nat}{A:Option Addr}{n c:Nat}{l:List HT}(row:bQ w B A n c l):n<=c:=by
 rcases Row.own row with⟨_,h1,h2,_⟩|⟨_,_,_,_,_,h1,_⟩<;>omega
theorem bQ.cut{w w':World}{B n c b:Nat}{l:List HT}(row:bQ w B (some ⟨b,0,none⟩) n c l){k:Nat}(hk:k<=n)(vs:List Value)(hv:vs.length=(n-k)*32)(hw:w'=setCells w ⟨b,k*32,none⟩ vs 0):
 bQ w' B (some ⟨b,0,none⟩) k c (l.take k):=by
 subst hw;have hlen:=row.len;rcases Row.own row with⟨h,_⟩|⟨b',cur,hA,hB,hg,El,nD,ml,xF⟩
 ·cases h
 ·cases hA
  have hle:n*32<=c*32:=Nat.mul_le_mul_right _ El;have kY:k*32+0+vs.length<=cur.size:=by omega
  have h1:=jI vs cur w aj (k*32) 0 hg kY;refine⟨by rw [dZ,List.length_take];omega,.inr ⟨b,c,_,rfl,hB,h1,by omega,nD,?_,?_⟩⟩
  ·have:=lg (xs:=cur.toList) (k:=k*32+0) (vs:=vs) (by simpa using kY)
   rw [List.size_toArray,this];simpa using ml
  ·have e1:(cP (l.take k)).length=k*32:=by rw [dZ,List.length_take];omega
   have e2:(cP l).take (k*32)=cP (l.take k):=by
    conv=>lhs;rw [<-List.take_append_drop k l,lC]
    rw [<-e1,List.take_left'];rfl
   rw [<-e2,<-xF,List.take_take,Nat.min_eq_left (by omega)];unfold gk;simp only [Nat.add_zero];rw [List.append_assoc,List.take_append_of_le_length (by simp;omega),List.take_take,Nat.min_self]
def BL(P:Program)(e:TypeId):Bool:=
 match P.info? e with
 |some i=>match i.zero with
  |some z=>z.cells.toList.all fun v=>v.oneCell'
  |none=>false
 |none=>false
theorem tI{w:World}{B n c b:Nat}{l:List HT}(row:bQ w B (some ⟨b,0,none⟩) n c l){k:Nat}(hk:k<=n)(ty:Nat){A:Option Addr}{cx:Nat}(hA:k<n->A=some ⟨b,k*32,none⟩):
 ∃w',(Builtin.clear_ #[az] ty #[.slice A (n-k) cx]).run prog w=.ok (.tuple #[]) w'/\bQ w' B (some ⟨b,0,none⟩) k c (l.take k)/\Kept (· =b) w w':=by
 have hlen:=row.len;by_cases vo:k<n
 ·obtain⟨i,z,hi,hz,hs,_,CA⟩:=om.inf
  have JW:BL prog aj=true:=by kernel_rfl
  unfold BL at JW;rw [hi]at JW;simp only [hz,List.all_eq_true]at JW;rw [hA vo];obtain⟨m,hm⟩:∃m,n-k=m+1:=⟨n-k-1,by omega⟩;have Wn:(Builtin.zeroCells z.cells (n-k)).toList.length=(n-k)*32:=by simp [Builtin.zeroCells,CA]
  have pq:=gZ (P:=prog) ⟨b,k*32,none⟩ (Builtin.zeroCells z.cells (n-k)).toList 0 w (fun v hv=>by
   simp only [Builtin.zeroCells,Array.toList_map,List.mem_map]at hv;obtain⟨t,ht,rfl⟩:=hv;have:t%z.cells.size<z.cells.size:=Nat.mod_lt _ (by omega);rw [getElem!_pos z.cells _ this];exact JW _ (by simp)) (fun j hj=>by
   rw [Nat.zero_add,a7];refine Row.wr row ?_;rw [dZ];omega)
  refine⟨_,?_,row.cut hk _ Wn rfl,fO _ _ _ _⟩;simp only [Builtin.clear_,hm];rw [hm]at pq;simp [run_underlying om.nY,zeroValue,typeInfo,hi,hz,pq]
 ·have:n=k:=by omega
  subst this;refine⟨w,?_,by rw [List.take_of_length_le (by omega)];exact row,Kept.refl _ _⟩;rw [Nat.sub_self];cases A<;>simp [Builtin.clear_,run_underlying om.nY]
theorem Dp:∀ {l:List HT},l.length<2->dd l=l
 | [],_=>rfl
 | [_],_=>rfl
 |_::_::_,h=>by simp only [List.length_cons]at h;omega
section
variable{w:World}{B n c:Nat}{A:Option Addr}{l:List HT}{K:Value->World->Prop}
theorem Bl(row:bQ w B A n c l)(hle:LE l)(hn:n<=400000)
 (hK:∀A' c' w',bQ w' B A' (dd l).length c' (dd l)->(∀k,a8 A'=some k->a8 A=some k)->Kept (fun k=>a8 A=some k) w w'->K (.slice A' (dd l).length c') w'):
 bj prog ah.id #[.slice A n c] w K:=by
 have hlen:=row.len;refine ah.of ?_;refine Split.dec (fun h2=>?_) (fun h2=>?_)
 ·have e:dd l=l:=Dp (by omega)
  have:=hK A c w (by rw [e,hlen];exact row) (fun k h=>h) (Kept.refl _ _);rw [e,hlen]at this;exact this
 obtain⟨b,rfl⟩:=Row.some row (by omega);have Ht:=row.cap;refine ah.b7 (I:=fun s w'=>∃k:Nat,s=(none,0,0,(k:Int))/\1<=k/\k<=n/\SS (l.take k)/\Kept Nil w w') (μ:=fun s _=>((n:Int)-s.2.2.2).toNat) (s:=(none,0,0,1))
  ⟨1,rfl,Nat.le_refl _,by omega,?_,Kept.refl _ _⟩ ?_
 ·cases l with
  |nil=>exact List.Pairwise.nil
  |cons x l=>simp [SS]
 rintro s w' ⟨k,rfl,IH,vo,rC,kw⟩;refine Split.dec (fun iU=>?_) (fun fU=>?_)
 ·simp only at iU
  have AS:k<n:=by omega
  obtain⟨x,hx⟩:∃x,l[k]? =some x:=⟨_,List.getElem?_eq_getElem (by omega)⟩;obtain⟨y,hy⟩:∃y,l[k-1]? =some y:=⟨_,List.getElem?_eq_getElem (by omega)⟩;intro w5;have k5:Kept Nil w w5:=kw.drew;clear_value w5;have kI:bQ w5 B (some ⟨b,0,none⟩) n c l:=Row.aD row k5 (fun _ _ h=>h);simp only;rw [wrapM (n:=(k:Int)) (by omega) (by omega)];have nO:cy x y=false:=hle.get (by omega) hy hx;refine kI.hs.load (i:=(k:Int)) (by omega) hx (kI.hs.load (i:=(k:Int)-1) (by omega) (by rw [show((k:Int)-1).toNat=k-1 by omega];exact hy) ⟨⟨x.2.ints,y.2.ints⟩,?_⟩);rw [dz];refine Split.dec (fun he=>?_) (fun he=>?_)
  ·refine⟨⟨by omega,by omega⟩,?_⟩
   rw [Int.toNat_natCast];rw [if_neg (show ¬c=k by omega)];simp only [Option.map_some,a7,Nat.zero_add];refine ah.gw (I:=fun s w'=>∃(p j:Nat) (l':List HT),s=((p:Int),(j:Int))/\1<=j/\k<=p/\p<k+j/\k+j<=n/\bQ w' B (some ⟨b,0,none⟩) n c l'/\l'.drop (k+j-1)=l.drop (k+j-1)/\SS (l'.take p)/\(∀z,z∈l'.take p↔z∈l.take (k+j))/\Kept (· =b) w w')
    (μ:=fun s _=>((n:Int)-s.2).toNat) (s:=((k:Int),1)) ⟨k,1,l,rfl,Nat.le_refl _,Nat.le_refl _,by omega,by omega,kI,rfl,rC,fun z=>?_,k5.mono fun _ _ h=>h.elim⟩ ?_
   ·rw [bG hx]
    constructor
    ·exact .inl
    ·rintro(h|rfl)
     ·exact h
     ·rw [he]
      have:=bG (z:=y) hy;rw [show k-1+1=k by omega]at this;exact this.2 (.inr rfl)
   rintro s w1 ⟨p,j,l',rfl,hj1,TE,hpj,Wx,kP,Uc,xc,LL,k1⟩;have Ho:=kP.len;refine Split.dec (fun OD=>?_) (fun OL=>?_)
   ·simp only at OD
    have ti:k+j<n:=by omega
    obtain⟨u,hu⟩:∃u,l[k+j]? =some u:=⟨_,List.getElem?_eq_getElem (by omega)⟩;obtain⟨v,hv⟩:∃v,l[k+j-1]? =some v:=⟨_,List.getElem?_eq_getElem (by omega)⟩;have JL:l'[k+j]? =some u:=by
     have h:=congrArg (fun m:List HT=>m[1]?) Uc;simp only [List.getElem?_drop]at h;rw [show k+j-1+1=k+j by omega]at h;rw [h,hu]
    have YN:l'[k+j-1]? =some v:=by
     have h:=congrArg (fun m:List HT=>m[0]?) Uc;simp only [List.getElem?_drop,Nat.add_zero]at h;rw [h,hv]
    intro vI;have Iy:Kept (· =b) w vI:=k1.drew;have mr:bQ vI B (some ⟨b,0,none⟩) n c l':=Row.aD kP ((Kept.refl Nil w1).drew) (fun _ _ h=>h);clear_value vI;have rz:HS vI (some ⟨b,k*32,none⟩) (n-k) (l'.drop k):=by
     have h:=mr.hs.drop (c:=c) Ht (k:=k) (by omega);rw [if_neg (show ¬c=k by omega)]at h;simpa [a7]using h
    have hsu:(l'.drop k)[(j:Int).toNat]? =some u:=by rw [Int.toNat_natCast,List.getElem?_drop];exact JL
    have NU:(l'.drop k)[((j:Int)-1).toNat]? =some v:=by
     rw [show((j:Int)-1).toNat=j-1 by omega,List.getElem?_drop,show k+(j-1)=k+j-1 by omega];exact YN
    simp-zeta only;rw [wrapM (n:=(j:Int)) (by omega) (by omega)];have huv:cy u v=false:=hle.get (by omega) hv hu;refine rz.load (i:=(j:Int)) (by omega) hsu (rz.load (i:=(j:Int)-1) (by omega) NU ⟨⟨u.2.ints,v.2.ints⟩,?_⟩);rw [dz,dh (n:=(j:Int)) (by omega) (by omega)];have hmu:∀z,z∈l.take (k+(j+1))↔z∈l'.take p\/z=u:=fun z=>by
     rw [show k+(j+1)=k+j+1 by omega,bG hu,LL z]
    by_cases heq:u=v
    ·refine Split.no (by rw [decide_eq_true heq];rfl) ?_
     refine⟨((p:Int),(j:Int)+1),rfl,⟨p,j+1,l',rfl,by omega,TE,by omega,by omega,mr,?_,xc,fun z=>?_,Iy⟩,by simp only;omega⟩
     ·have h:=congrArg (fun m:List HT=>m.drop 1) Uc
      simp only [List.drop_drop]at h;rw [show k+(j+1)-1=k+j-1+1 by omega];exact h
     ·rw [hmu z]
      constructor
      ·exact .inl
      ·rintro(h|rfl)
       ·exact h
       ·refine(LL _).2 ?_
        rw [heq];exact List.mem_of_getElem? (i:=k+j-1) (by rw [List.getElem?_take,if_pos (by omega)];exact hv)
    ·refine Split.yes (by rw [decide_eq_false heq];rfl) ?_
     refine rz.load (i:=(j:Int)) (by omega) hsu ⟨⟨by omega,by omega⟩,⟨u.2.1,u.2.one,fun i hi=>?_⟩,?_⟩
     ·rw [Int.toNat_natCast,a7,Nat.zero_add]
      exact mr.Ms (by omega) i hi
     intro E0;have Se:E0=setCells vI ⟨b,p*32,none⟩ u.1.toList 0:=by
      show setCells vI ((⟨b,0,none⟩:Addr).add ((p:Int).toNat*32)) u.1.toList 0=_
      rw [Int.toNat_natCast,a7,Nat.zero_add]
     have Q8:bQ E0 B (some ⟨b,0,none⟩) n c (l'.set p u):=by rw [Se];exact mr.setAt (by omega) u
     have Gz:Kept (· =b) w E0:=by rw [Se];exact Iy.tt (fO _ _ _ _)
     clear_value E0;rw [dh (n:=(p:Int)) (by omega) (by omega)];have xF:(l'.set p u).take (p+1)=l'.take p++ [u]:=by
      rw [List.take_add_one,List.take_set_of_le (Nat.le_refl p),List.getElem?_set_self (by omega)];rfl
     refine⟨((p:Int)+1,(j:Int)+1),rfl,⟨p+1,j+1,l'.set p u,rfl,by omega,by omega,by omega,by omega,Q8,?_,?_,fun z=>?_,Gz⟩,by simp only;omega⟩
     ·have h:=congrArg (fun m:List HT=>m.drop 1) Uc
      simp only [List.drop_drop]at h;rw [List.drop_set,if_pos (by omega),show k+(j+1)-1=k+j-1+1 by omega];exact h
     ·rw [xF]
      refine C6 xc fun z hz=>?_;obtain⟨i,hi⟩:=List.mem_iff_getElem?.1 ((LL z).1 hz);rw [List.getElem?_take]at hi;split at hi
      ·rename_i hik
       have hvu:cy v u=true:=lt_of_le_ne huv (fun e=>heq e.symm);by_cases e:i=k+j-1
       ·subst e;rw [hv]at hi;cases hi;exact hvu
       ·exact sd (hle.get (by omega) hi hv) hvu
      ·cases hi
     ·rw [xF,hmu z]
      simp
   ·simp only at OL
    have hj:k+j=n:=by omega
    rw [aQ,ah.jA];unfold ah.gU;refine⟨⟨by omega,by omega⟩,?_⟩;rw [Int.toNat_natCast];obtain⟨w2,hr,fI,k2⟩:=tI kP (k:=p) (by omega) 0 (A:=if c=p then some ⟨b,0,none⟩else(some ⟨b,0,none⟩:Option Addr).map (·.add (p*32))) (cx:=c-p) (fun hp=>by
     rw [if_neg (by omega)];simp [a7])
    refine⟨_,w2,hr,⟨by omega,by omega⟩,?_⟩;have e:l'.take p=dd l:=wH xc fun z=>by rw [LL z,hj,List.take_of_length_le (by omega)]
    have el:p=(dd l).length:=by
     have h:=fI.len;rw [e]at h;exact h.symm
    have e0:(if c=0 then(some ⟨b,0,none⟩:Option Addr)else(some ⟨b,0,none⟩:Option Addr).map (·.add (0*32)))=some ⟨b,0,none⟩:=by
     rw [if_neg (by omega)];simp [add_zero]
    rw [e0,Nat.sub_zero,Nat.sub_zero];rw [e,el]at fI;have:=hK (some ⟨b,0,none⟩) c w2 fI (fun k h=>h) ((k1.tt k2).mono fun i _ h=>by rw [h];rfl);rw [<-el]at this;exact this
  ·rw [dh (n:=(k:Int)) (by omega) (by omega)]
   refine⟨(none,0,0,(k:Int)+1),rfl,⟨k+1,rfl,by omega,by omega,?_,k5⟩,by simp only;omega⟩;rw [List.take_add_one,hx];refine C6 rC fun z hz=>?_;have CB:cy y x=true:=lt_of_le_ne nO (fun e=>he e.symm);obtain⟨i,hi⟩:=List.mem_iff_getElem?.1 hz;rw [List.getElem?_take]at hi;split at hi
   ·by_cases e:i=k-1
    ·subst e;rw [hy]at hi;cases hi;exact CB
    ·exact sd (hle.get (by omega) hi hy) CB
   ·cases hi
 ·simp only at fU
  have e:k=n:=by omega
  subst e;rw [aQ,ah.c8];rw [List.take_of_length_le (by omega)]at rC;have e:dd l=l:=x6 rC;have:=hK (some ⟨b,0,none⟩) c w' (by rw [e,hlen];exact Row.aD row kw (fun _ _ h=>h)) (fun k h=>h) (kw.mono fun _ _ h=>h.elim);rw [e,hlen]at this;exact this
theorem iw(hl:HS w A n l)(hn:n<=400000)
 (hK:∀A' c' w',bQ w' w.heap.size A' (dd l).length c' (dd l)->Kept Nil w w'->K (.slice A' (dd l).length c') w'):
 bj prog iJ.id #[.slice A n c] w K:=by
 have hlen:=hl.len;refine iJ.of ?_;refine dg.of ?_;unfold dg.W;intro w2;have k2:Kept Nil w w2:=(Kept.refl _ _).alloc _;have lS:w2.heap[w.heap.size]? =some (.cells #[.slice A n c] az (0,0)):=aJ w _;clear_value w2;refine⟨_,rfl,?_⟩;refine de.of ?_;refine Bn (xs:=l) aC.at_ (by rfl) (xW (l:=l) ⟨w.heap.size,0,none⟩ (A:=A) (n:=n) (c:=c) (by omega)) (fun w' hk=>⟨(hl.same k2).same hk,by rw [ay (hk.heap lS (fun h=>h))];rfl⟩) (by omega) ?_;intro A4 c4 w4 jn k4;refine⟨A4,_,c4,rfl,?_⟩;refine I4 jn (by omega) fun l5 w5 hle gR kI k5=>⟨rfl,?_⟩;refine⟨A4,_,c4,rfl,?_⟩;refine Bl kI hle (by omega) fun A6 c6 w6 FY pv k6=>⟨A6,_,c6,rfl,?_⟩;have e:dd l5=dd l:=BW gR;rw [e]at FY⊢;have U9:∀k,a8 A4=some k->w.heap.size<=k:=fun k hk=>Nat.le_trans k2.size (Row.bC jn hk).1;refine hK A6 c6 w6 (Row.base FY fun k hk=>U9 k (pv k hk)) ?_;exact((k2.tt k4).trans k5 (fun k hk h=>absurd (U9 k h) (by omega))).trans k6 (fun k hk h=>absurd (U9 k h) (by omega))
end
theorem je{x:Nat}(h:x<18446744073709551616):u64.wrap (x:Int)=(x:Int):=by
 simp only [IntKind.wrap,IntKind.bits,IntKind.signed];simp;omega
theorem orU{x y:Nat}(hx:x<18446744073709551616)(hy:y<18446744073709551616):
 u64.wrap ((BitVec.ofInt 64 (x:Int)|||BitVec.ofInt 64 (y:Int)).toNat:Int)=((x|||y:Nat):Int):=by
 have h:(BitVec.ofInt 64 (x:Int)|||BitVec.ofInt 64 (y:Int)).toNat=x|||y:=by
  rw [BitVec.ofInt_natCast,BitVec.ofInt_natCast,BitVec.toNat_or,BitVec.toNat_ofNat,BitVec.toNat_ofNat,Nat.mod_eq_of_lt (by omega),Nat.mod_eq_of_lt (by omega)]
 rw [h];exact je (Nat.or_lt_two_pow (n:=64) hx hy)
theorem abU{x y:Nat}(hx:x<18446744073709551616)(hy:y<18446744073709551616):
 u64.wrap ((BitVec.ofInt 64 (x:Int)&&& BitVec.ofInt 64 (y:Int)).toNat:Int)=((x&&& y:Nat):Int):=by
 have h:(BitVec.ofInt 64 (x:Int)&&& BitVec.ofInt 64 (y:Int)).toNat=x&&& y:=by
  rw [BitVec.ofInt_natCast,BitVec.ofInt_natCast,BitVec.toNat_and,BitVec.toNat_ofNat,BitVec.toNat_ofNat,Nat.mod_eq_of_lt (by omega),Nat.mod_eq_of_lt (by omega)]
 rw [h];exact je (Nat.lt_of_le_of_lt Nat.and_le_left hx)
theorem XI{i:Nat}(hi:i<64):u64.wrap ((1:Int)*2 ^ (min i 64))=((2 ^ i:Nat):Int):=by
 rw [Nat.min_eq_left (by omega),Int.one_mul];have h:2 ^ i<18446744073709551616:=Nat.pow_lt_pow_right (by omega) (n:=64) hi;have:=je h;rw [<-this];simp
def bit(ws:List Nat)(i:Nat):Bool:=(ws.getD (i/64) 0).testBit (i%64)
def okW(ws:List Nat):Prop:=∀x∈ws,x<18446744073709551616
theorem xo(i:Nat):bit [] i=false:=by simp [bit]
theorem zn(ws:List Nat)(i:Nat):bit (ws++ [0]) i=bit ws i:=by
 unfold bit
 congr 1
 simp only [List.getD_eq_getElem?_getD,List.getElem?_append];split
 ·rfl
 ·rename_i h
  rw [List.getElem?_eq_none (l:=ws) (by omega)];cases i/64-ws.length<;>simp
theorem C1{ws:List Nat}{q:Nat}(hq:q<ws.length)(v i:Nat):bit (ws.set q v) i=if i/64=q then v.testBit (i%64)else bit ws i:=by
 unfold bit;simp only [List.getD_eq_getElem?_getD,List.getElem?_set];by_cases h:i/64=q
 ·subst h;simp [hq]
 ·rw [if_neg (fun e=>h e.symm),if_neg h]
theorem Cj{ws:List Nat}(h:okW ws){x:Nat}(hx:x<18446744073709551616):okW (ws++ [x]):=fun y hy=>by
 rw [List.mem_append,List.mem_singleton]at hy;rcases hy with hy|rfl
 ·exact h y hy
 ·exact hx
theorem Ci{ws:List Nat}(h:okW ws){x:Nat}(hx:x<18446744073709551616)(q:Nat):okW (ws.set q x):=fun y hy=>by
 rcases List.mem_or_eq_of_mem_set hy with hy|rfl
 ·exact h y hy
 ·exact hx
def us(l:List Nat):List Value:=l.map fun x:Nat=>.int .u64 (x:Int)
theorem oa(l:List Nat):(us l).length=l.length:=by simp [us]
theorem oe{l:List Nat}{j x:Nat}(h:l[j]? =some x):(us l)[j]? =some (.int .u64 (x:Int)):=by simp [us,h]
theorem wF(l:List Nat)(q v:Nat):(us l).set q (.int .u64 (v:Int))=us (l.set q v):=by simp [us,List.map_set]
theorem MA(l m:List Nat):us (l++m)=us l++us m:=by simp [us]
structure US(w:World)(A:Option Addr)(n:Nat)(l:List Nat):Prop where
 len:l.length=n
 at_:∀(i x:Nat),l[i]? =some x->∃a,A=some a/\a.block<w.heap.size/\w.cell? (a.add i)=some (.int .u64 (x:Int))
theorem US.aD{S:Nat->Prop}{w w':World}{A:Option Addr}{n:Nat}{l:List Nat}(h:US w A n l)(hk:Kept S w w')(hn:∀a,A=some a->¬S a.block):US w' A n l:=⟨h.len,fun i x hi=>by
 obtain⟨a,h1,h2,h3⟩:=h.at_ i x hi;exact⟨a,h1,Nat.lt_of_lt_of_le h2 hk.size,hk.cell h3 (by rw [ee];exact hn a h1)⟩⟩
theorem US.load{w:World}{A:Option Addr}{n:Nat}{l:List Nat}(hl:US w A n l){i:Int}{x:Nat}(h0:0<=i)(hx:l[i.toNat]? =some x){k:Int->Prop}(hk:k x):
 (0<=i/\i<(n:Int))/\Is A fun a=>∃t:Int,w.cell? (a.add (i.toNat*1))=some (.int .u64 t)/\k t:=by
 obtain⟨a,rfl,_,hc⟩:=hl.at_ _ x hx;have:=(lgeS hx).1;have:=hl.len;exact⟨⟨h0,by omega⟩,x,by rw [Nat.mul_one];exact hc,hk⟩
theorem MJ:xN prog jW ir 1 8:=⟨by kernel_rfl,by kernel_rfl⟩
abbrev jQ(w:World)(B:Nat)(A:Option Addr)(n c:Nat)(l:List Nat):Prop:=Row w B ir 1 A n c (us l)
section
variable{w w':World}{B n c:Nat}{A:Option Addr}{l:List Nat}
theorem jQ.len(h:jQ w B A n c l):l.length=n:=by have:=Row.len h;rw [oa]at this;omega
theorem jQ.us(h:jQ w B A n c l):US w A n l:=⟨h.len,fun i x hi=>by
 have hlen:=h.len;have:=(lgeS hi).1;obtain⟨b,rfl⟩:=Row.some h (by omega);obtain⟨_,cur,oK⟩:=Row.bC h (k:=b) rfl;exact⟨_,rfl,aS oK,by rw [a7,Nat.zero_add];exact Row.cell h (oe hi)⟩⟩
theorem FJ(i:Nat):((i:Int).tdiv 64)=((i/64:Nat):Int):=by
 rw [Int.tdiv_eq_ediv_of_nonneg (by omega)];omega
theorem MG(i:Nat):((i:Int).tmod 64)=((i%64:Nat):Int):=by
 rw [Int.tmod_eq_emod_of_nonneg (by omega)];omega
theorem sA(h:jQ w B A n c l)(hn:n<=1000000)(hB:B<=w.heap.size){t:Nat}(x:Nat):
 ∃A' c' w',(Builtin.append_ #[jW,jW] jW #[.slice A n c,.slice (some ⟨w.heap.size,0,none⟩) 1 1]).run prog (w.alloc (.cells #[.int .u64 (x:Int)] t))=.ok (.slice A' (n+1) c') w'/\
  jQ w' B A' (n+1) c' (l++ [x])/\Kept (fun k=>a8 A=some k) w w'/\(∀k,a8 A'=some k->a8 A=some k\/w.heap.size<=k):=by
 have k1:Kept Nil w (w.alloc (.cells #[.int .u64 (x:Int)] t)):=(Kept.refl _ _).alloc _;have hb:=aJ w (.cells #[.int .u64 (x:Int)] t);have h1:jQ (w.alloc (.cells #[.int .u64 (x:Int)] t)) B A n c l:=Row.aD h k1 (fun _ _ h=>h);obtain⟨A',c',w',hr,eE,hg,vr⟩:=eN (P:=prog) (t:=jW) (ty:=jW) (bytes:=8) MJ h1 (a:=⟨w.heap.size,0,none⟩) (m:=1) (cx:=1) (news:=us [x]) rfl
  (fun j u hj=>by rw [a7,Nat.zero_add,ay hb];simpa [us]using hj) (fun u hu=>by simp [us]at hu;subst hu;rfl) (by omega) (by unfold maxLen;omega) (by have:=k1.size;omega)
 refine⟨A',c',w',hr,?_,?_,fun k hk=>?_⟩
 ·show Row w' B ir 1 A' (n+1) c' (Proofs.YtnboahlopghcjaaGreatDoor.us (l++ [x]))
  rw [MA];exact eE
 ·exact(k1.mono (S':=fun k=>a8 A=some k) (fun _ _ h=>h.elim)).tt (Kept.grown (S:=fun k=>a8 A=some k) (Kept.refl _ _) hg (fun k hk _=>hk))
 ·rcases vr k hk with h|h
  ·exact .inl h
  ·have:=k1.size;exact .inr (by omega)
theorem x8{b:Nat}(h:jQ w B (some ⟨b,0,none⟩) n c l){q:Nat}(hq:q<n)(x:Nat):
 jQ (w.setCell ⟨b,q,none⟩ (.int .u64 (x:Int))) B (some ⟨b,0,none⟩) n c (l.set q x):=by
 have:=Row.set h (j:=q) (by rw [oa,h.len];exact hq) (.int .u64 (x:Int));rw [wF]at this;exact this
theorem yf{K:Value->World->Prop}(h:jQ w B A n c l)(ho:okW l)(hn:n<=100000)(hB:B<=w.heap.size){i:Nat}(hi:i<=1000000)
 (hK:∀A' n' c' l' w',jQ w' B A' n' c' l'->okW l'->(n'<=n\/n'<=i/64+1)->(∀j,bit l' j=(bit l j||decide (j=i)))->Kept (fun k=>a8 A=some k) w w'->(∀k,a8 A'=some k->a8 A=some k\/w.heap.size<=k)->K (.slice A' n' c') w'):
 bj prog bH.id #[.slice A n c,.int .i64 (i:Int)] w K:=by
 refine bH.of ?_;refine bH.b7 (I:=fun s w'=>∃A' n' c' l',s=(A',n',c')/\jQ w' B A' n' c' l'/\okW l'/\(n'<=n\/n'<=i/64+1)/\(∀j,bit l' j=bit l j)/\Kept (fun k=>a8 A=some k) w w'/\(∀k,a8 A'=some k->a8 A=some k\/w.heap.size<=k))
  (μ:=fun s _=>i/64+1-s.2.1) (s:=(A,n,c)) ⟨A,n,c,l,rfl,h,ho,.inl (Nat.le_refl _),fun _=>rfl,Kept.refl _ _,fun k hk=>.inl hk⟩ ?_
 rintro s w' ⟨A',n',c',l',rfl,row,IG,ZF,pr,kw,hb⟩;unfold bH.B1;rw [FJ,gQ (by omega) (by omega)];refine⟨by omega,?_⟩;refine Split.dec (fun hle=>?_) (fun wj=>?_)
 ·simp only at hle
  have ahI:n'<=i/64:=by omega
  obtain⟨A2,c2,w2,hr,fI,k2,lS⟩:=sA row (by omega) (Nat.le_trans hB kw.size) (t:=ir) 0;intro w6;refine⟨A2,n'+1,c2,w2,hr,?_⟩;refine⟨(A2,n'+1,c2),rfl,⟨A2,n'+1,c2,l'++ [0],rfl,fI,Cj IG (by omega),by omega,fun j=>by rw [zn,pr],?_,fun k hk=>?_⟩,by simp only;omega⟩
  ·exact kw.trans k2 (fun k hk e=>by
    rcases hb k e with h|h
    ·exact h
    ·omega)
  ·rcases lS k hk with h|h
   ·exact hb k h
   ·exact .inr (Nat.le_trans kw.size h)
 ·simp only at wj
  have dW:i/64<n':=by omega
  rw [aQ,bH.c8];unfold bH.cK;intro lQ;have xD:Kept Nil w' lQ:=(Kept.refl _ _).drew;have Uc:lQ=w'.drew:=rfl;clear_value lQ;have tJ:jQ lQ B A' n' c' l':=Row.aD row xD (fun _ _ h=>h);have hlen:=row.len;rw [FJ,MG,gQ (by omega) (by omega)];obtain⟨b,rfl⟩:=Row.some tJ (by omega);obtain⟨x,hx⟩:∃x,l'[i/64]? =some x:=⟨_,List.getElem?_eq_getElem (by omega)⟩;refine⟨by omega,tJ.us.load (by omega) (by rw [Int.toNat_natCast];exact hx) ⟨by omega,by omega,⟨⟨by omega,by simp only;omega⟩,?_⟩⟩⟩;have th:=IG x (List.mem_of_getElem? hx);have hp:2 ^ (i%64)<18446744073709551616:=Nat.pow_lt_pow_right (by omega) (n:=64) (Nat.mod_lt _ (by omega));simp only [Is,Int.toNat_natCast,Nat.mul_one,a7,Nat.zero_add];rw [XI (Nat.mod_lt _ (by omega)),orU th hp];refine⟨Row.wr tJ (by rw [oa,hlen];exact dW),?_⟩;have po:Kept (fun k=>a8 A=some k) w (lQ.setCell ⟨b,i/64,none⟩ (.int .u64 ((x|||2 ^ (i%64):Nat):Int))):=
   Kept.setCell (kw.trans xD (fun _ _ h=>h.elim)) (p:=⟨b,i/64,none⟩) (fun cy=>by
    rcases hb b rfl with h|h
    ·exact h
    ·exact absurd cy (by simp only;omega)) _
  refine hK _ _ _ _ _ (x8 tJ dW _) (Ci IG (Nat.or_lt_two_pow (n:=64) th hp) _) ZF (fun j=>?_) po hb;rw [C1 (by omega),pr];have hbi:bit l' i=x.testBit (i%64):=by unfold bit;rw [List.getD_eq_getElem?_getD,hx];rfl
  by_cases e:j/64=i/64
  ·rw [if_pos e,Nat.testBit_or,Nat.testBit_two_pow]
   have hbj:bit l' j=x.testBit (j%64):=by unfold bit;rw [e,List.getD_eq_getElem?_getD,hx];rfl
   rw [<-hbj,pr]
   congr 1
   exact decide_eq_decide.2 ⟨fun h=>by omega,fun h=>by rw [h]⟩
  ·rw [if_neg e,decide_eq_false (fun h=>e (by rw [h]))]
   simp
end
section
variable{w w':World}{B n c:Nat}{A:Option Addr}{l:List Nat}
theorem vN{K:Value->World->Prop}(h:jQ w B A n c l)(ho:okW l)(hn:n<=100000)(hB:B<=w.heap.size){A2:Option Addr}{n2 c2:Nat}{v:List Nat}(hv:US w A2 n2 v)(YN:okW v)(ZE:n2<=100000)
 (UM:∀a,A2=some a->∀k,a8 A=some k->a.block≠k)
 (hK:∀A' n' c' l' w',jQ w' B A' n' c' l'->okW l'->(n'<=n\/n'<=n2)->(∀j,bit l' j=(bit l j||bit v j))->Kept (fun k=>a8 A=some k) w w'->(∀k,a8 A'=some k->a8 A=some k\/w.heap.size<=k)->K (.slice A' n' c') w'):
 bj prog b0.id #[.slice A n c,.slice A2 n2 c2] w K:=by
 have adw:=hv.len;refine b0.of ?_;refine b0.b7 (I:=fun s w'=>∃(i:Nat) (A':Option Addr) (n' c':Nat) (l':List Nat),s=(A',n',c',(i:Int))/\i<=n2/\jQ w' B A' n' c' l'/\okW l'/\i<=n'/\n<=n'/\(n'<=n\/n'<=i)/\(∀j,bit l' j=(bit l j||(decide (j/64<i)&&bit v j)))/\Kept (fun k=>a8 A=some k) w w'/\(∀k,a8 A'=some k->a8 A=some k\/w.heap.size<=k))
  (μ:=fun s _=>((n2:Int)-s.2.2.2).toNat) (s:=(A,n,c,0)) ⟨0,A,n,c,l,rfl,Nat.zero_le _,h,ho,Nat.zero_le _,Nat.le_refl _,.inl (Nat.le_refl _),by simp,Kept.refl _ _,fun k hk=>.inl hk⟩ ?_
 rintro s w' ⟨i,A',n',c',l',rfl,hi,row,IG,fz,Td,Wt,pr,kw,hb⟩;have Ho:=row.len;refine Split.dec (fun iU=>?_) (fun fU=>?_)
 ·simp only at iU
  have dW:i<n2:=by omega
  obtain⟨x,hx⟩:∃x,v[i]? =some x:=⟨_,List.getElem?_eq_getElem (by omega)⟩;have th:=YN x (List.mem_of_getElem? hx);have hvw:US w' A2 n2 v:=hv.aD kw (fun a ha e=>UM a ha _ e rfl);refine hvw.load (i:=(i:Int)) (by omega) hx ?_;have step:∀(A2:Option Addr) (n3 c3:Nat) (l3:List Nat) (w3:World),jQ w3 B A2 n3 c3 l3->okW l3->i<n3->n<=n3->(n3<=n\/n3<=i+1)->(∀j,bit l3 j=(bit l j||(decide (j/64<i)&&bit v j)))->Kept (fun k=>a8 A=some k) w w3->(∀k,a8 A2=some k->a8 A=some k\/w.heap.size<=k)->
   (0<=(i:Int)/\(i:Int)<(n3:Int))/\Is A2 fun a=>∃t:Int,w3.cell? (a.add ((i:Int).toNat*1))=some (.int .u64 t)/\(0<=(i:Int)/\(i:Int)<(n3:Int))/\Is A2 fun a'=>Wr w3 (a'.add ((i:Int).toNat*1))/\
     ∃(l4:List Nat),
     jQ (w3.setCell (a'.add ((i:Int).toNat*1)) (.int .u64 (u64.wrap ((BitVec.ofInt 64 t|||BitVec.ofInt 64 (x:Int)).toNat)))) B A2 n3 c3 l4/\okW l4/\(∀j,bit l4 j=(bit l j||(decide (j/64<i+1)&&bit v j)))/\Kept (fun k=>a8 A=some k) w (w3.setCell (a'.add ((i:Int).toNat*1)) (.int .u64 (u64.wrap ((BitVec.ofInt 64 t|||BitVec.ofInt 64 (x:Int)).toNat)))):=by
   intro A2 n3 c3 l3 w3 ou ho3 Z3 hn3 ahx L5 k3 pe;have adY:=ou.len;obtain⟨b,rfl⟩:=Row.some ou (by omega);obtain⟨y,hy⟩:∃y,l3[i]? =some y:=⟨_,List.getElem?_eq_getElem (by omega)⟩;have hyl:=ho3 y (List.mem_of_getElem? hy);refine ou.us.load (i:=(i:Int)) (by omega) hy ⟨⟨by omega,by omega⟩,?_⟩;simp only [Is,Int.toNat_natCast,Nat.mul_one,a7,Nat.zero_add];rw [orU hyl th];refine⟨Row.wr ou (by rw [oa];omega),l3.set i (y|||x),x8 ou Z3 _,Ci ho3 (Nat.or_lt_two_pow (n:=64) hyl th) _,fun j=>?_,?_⟩
   ·rw [C1 (by omega),L5]
    have zJ:j/64=i->bit v j=x.testBit (j%64):=fun e=>by unfold bit;rw [e,List.getD_eq_getElem?_getD,hx];rfl
    have IK:j/64=i->bit l3 j=y.testBit (j%64):=fun e=>by unfold bit;rw [e,List.getD_eq_getElem?_getD,hy];rfl
    by_cases e:j/64=i
    ·rw [if_pos e,Nat.testBit_or,<-IK e,<-zJ e,L5]
     rw [decide_eq_false (show ¬j/64<i by omega),decide_eq_true (show j/64<i+1 by omega)];simp
    ·rw [if_neg e]
     congr 2
     exact decide_eq_decide.2 (by omega)
   ·refine Kept.setCell k3 (p:=⟨b,i,none⟩) (fun cy=>?_) _
    rcases pe b rfl with h|h
    ·exact h
    ·exact absurd cy (by simp only;omega)
  by_cases he:i=n'
  ·refine Split.yes (by simp [he]) ?_
   obtain⟨Fk,xM,w2,hr,fI,k2,lS⟩:=sA row (by omega) (Nat.le_trans hB kw.size) (t:=ir) 0;intro w10;refine⟨Fk,n'+1,xM,w2,hr,?_⟩;have st:=step Fk (n'+1) xM (l'++ [0]) w2 fI (Cj IG (by omega)) (by omega) (by omega) (by omega) (fun j=>by rw [zn,pr])
    (kw.trans k2 (fun k hk e=>by
      rcases hb k e with h|h
      ·exact h
      ·omega)) (fun k hk=>by
      rcases lS k hk with h|h
      ·exact hb k h
      ·exact .inr (Nat.le_trans kw.size h))
   clear step;obtain⟨s1,s2⟩:=st;refine⟨s1,?_⟩;cases Fk with
   |none=>exact s2.elim
   |some a=>
    obtain⟨t,s3,s4,s5,l4,s6,s7,s8,s9⟩:=s2;refine⟨t,s3,s4,s5,?_⟩;intro jk;simp only;rw [dh (n:=(i:Int)) (by omega) (by omega)];exact⟨(some a,n'+1,xM,(i:Int)+1),rfl,⟨i+1,some a,n'+1,xM,l4,rfl,dW,s6,s7,by omega,by omega,by omega,s8,s9,fun k hk=>by
     rcases lS k hk with h|h
     ·exact hb k h
     ·exact .inr (Nat.le_trans kw.size h)⟩,by simp only;omega⟩
  ·refine Split.no (beq_eq_false_iff_ne.2 (by simp only;omega)) ?_
   have st:=step A' n' c' l' w' row IG (by omega) Td (by omega) pr kw hb;clear step;obtain⟨s1,s2⟩:=st;refine⟨s1,?_⟩;cases A' with
   |none=>exact s2.elim
   |some a=>
    obtain⟨t,s3,s4,s5,l4,s6,s7,s8,s9⟩:=s2;refine⟨t,s3,s4,s5,?_⟩;intro jk;simp only;rw [dh (n:=(i:Int)) (by omega) (by omega)];exact⟨(some a,n',c',(i:Int)+1),rfl,⟨i+1,some a,n',c',l4,rfl,dW,s6,s7,by omega,Td,by omega,s8,s9,hb⟩,by simp only;omega⟩
 ·simp only at fU
  have:i=n2:=by omega
  subst this;rw [aQ,b0.c8];refine hK A' n' c' l' w' row IG (by omega) (fun j=>?_) kw hb;rw [pr]
  congr 1
  by_cases e:j/64<i
  ·rw [decide_eq_true e];simp
  ·rw [decide_eq_false e]
   unfold bit;rw [List.getD_eq_getElem?_getD,List.getElem?_eq_none (by omega)];simp
end
theorem zr:∀k m:Nat,(2 ^ k*(2*m+1))&&& (2 ^ k*(2*m+1)-1)=2 ^ (k+1)*m
 |0,m=>by
  apply Nat.eq_of_testBit_eq;intro i;rw [Nat.testBit_and];cases i with
  |zero=>simp [Nat.testBit_zero]
  |succ i=>
   simp only [Nat.testBit_succ];rw [show(2 ^ 0*(2*m+1))/2=m by omega,show(2 ^ 0*(2*m+1)-1)/2=m by omega,show 2 ^ (0+1)*m/2=m by omega];simp
 |k+1,m=>by
  have ih:=zr k m;have hp:0<2 ^ k*(2*m+1):=Nat.mul_pos (Nat.pow_pos (by omega)) (by omega);rw [show 2 ^ (k+1)*(2*m+1)=2*(2 ^ k*(2*m+1))by rw [Nat.pow_succ];ac_rfl,show 2 ^ (k+1+1)*m=2*(2 ^ (k+1)*m)by rw [Nat.pow_succ 2 (k+1)];ac_rfl];generalize 2 ^ k*(2*m+1)=x at ih hp⊢;rw [<-ih];apply Nat.eq_of_testBit_eq;intro i;rw [Nat.testBit_and];cases i with
  |zero=>simp [Nat.testBit_zero]
  |succ i=>
   simp only [Nat.testBit_succ];rw [show 2*x/2=x by omega,show(2*x-1)/2=x-1 by omega,show 2*(x&&& (x-1))/2=x&&& (x-1)by omega,Nat.testBit_and]
theorem Cl{x:Nat}(h0:x≠0)(hx:x<18446744073709551616):Lib.ctz 64 x<64/\x.testBit (Lib.ctz 64 x)=true/\∀t,(x&&& (x-1)).testBit t=(x.testBit t&&decide (t≠Lib.ctz 64 x)):=by
 obtain⟨m,h1,h2⟩:=Lib.ctzFrom_spec 64 x (by omega) hx;have e:Lib.ctz 64 x=Lib.ctzFrom 64 x:=by unfold Lib.ctz;rw [if_neg h0]
 rw [e];generalize Lib.ctzFrom 64 x=k at h1 h2⊢;have hand:x&&& (x-1)=2 ^ (k+1)*m:=by rw [h1];exact zr k m
 have hb:∀t,x.testBit t=(decide (t>=k)&&(2*m+1).testBit (t-k)):=fun t=>by rw [h1,Nat.testBit_two_pow_mul]
 refine⟨h2,by rw [hb];simp,fun t=>?_⟩;rw [hand,Nat.testBit_two_pow_mul,hb];by_cases ht:t=k
 ·subst ht
  simp;intro h;omega
 ·rw [decide_eq_true ht,Bool.and_true]
  by_cases hk:t>=k
  ·obtain⟨d,hd⟩:∃d,t-k=d+1:=⟨t-k-1,by omega⟩
   rw [decide_eq_true hk,decide_eq_true (show t>=k+1 by omega),hd,show t-(k+1)=d by omega,Nat.testBit_succ,show(2*m+1)/2=m by omega]
  ·rw [decide_eq_false hk,decide_eq_false (show ¬t>=k+1 by omega)]
   simp
theorem xu{x:Nat}(h0:x≠0):x&&& (x-1)<x:=Nat.lt_of_le_of_lt Nat.and_le_right (by omega)
def uc(x:Nat):List Nat:=if h:x=0 then []else Lib.ctz 64 x::uc (x&&& (x-1))
termination_by x
decreasing_by exact xu h
theorem vV:uc 0= []:=by rw [uc];simp
theorem vX{x:Nat}(h0:x≠0):uc x=Lib.ctz 64 x::uc (x&&& (x-1)):=by rw [uc,dif_neg h0]
theorem vW:∀(x:Nat),x<18446744073709551616->(∀t,t∈uc x↔x.testBit t=true)/\(uc x).Nodup/\∀t∈uc x,t<64:=by
 intro x
 induction x using Nat.strongRecOn with
 |_ x ih=>
  intro hx;by_cases h0:x=0
  ·subst h0;rw [vV];simp
  ·obtain⟨h1,h2,h3⟩:=Cl h0 hx
   obtain⟨i1,i2,i3⟩:=ih _ (xu h0) (Nat.lt_trans (xu h0) hx);rw [vX h0];refine⟨fun t=>?_,?_,fun t ht=>?_⟩
   ·rw [List.mem_cons,i1,h3]
    by_cases e:t=Lib.ctz 64 x
    ·rw [e,h2];simp
    ·simp [e]
   ·rw [List.nodup_cons,i1,h3]
    exact⟨by simp,i2⟩
   ·rcases List.mem_cons.1 ht with rfl|ht
    ·exact h1
    ·exact i3 t ht
def oF:Nat->List Nat->List Nat
 |_,[]=> []
 |k,x::ws=>(uc x).map (64*k+ ·)++oF (k+1) ws
theorem H8(x:Nat)(ws:List Nat)(j:Nat):bit (x::ws) j=if j<64 then x.testBit j else bit ws (j-64):=by
 unfold bit;split
 ·rename_i h
  rw [show j/64=0 by omega,show j%64=j by omega];rfl
 ·rename_i h
  rw [show j/64=(j-64)/64+1 by omega,show j%64=(j-64)%64 by omega];rfl
theorem oI:∀(ws:List Nat) (k j:Nat),okW ws->(j∈oF k ws↔64*k<=j/\bit ws (j-64*k)=true)
 | [],k,j,_=>by simp [oF,bit]
 |x::ws,k,j,ho=>by
  obtain⟨h1,_,h3⟩:=vW x (ho x (by simp));have ih:=oI ws (k+1) j (fun y hy=>ho y (by simp [hy]));rw [oF,List.mem_append,ih,H8,List.mem_map];constructor
  ·rintro(⟨t,ht,rfl⟩|⟨h,hb⟩)
   ·have:=h3 t ht
    refine⟨by omega,?_⟩;rw [if_pos (by omega),show 64*k+t-64*k=t by omega];exact(h1 t).1 ht
   ·refine⟨by omega,?_⟩
    rw [if_neg (by omega),show j-64*k-64=j-64*(k+1)by omega];exact hb
  ·rintro⟨h,hb⟩
   split at hb
   ·exact .inl ⟨j-64*k,(h1 _).2 hb,by omega⟩
   ·refine .inr ⟨by omega,?_⟩
    rw [show j-64*(k+1)=j-64*k-64 by omega];exact hb
theorem tU:∀ {l m:List Nat},l.Nodup->(∀x∈l,x∈m)->l.length<=m.length
 | [],_,_,_=>Nat.zero_le _
 |x::l,m,hn,h=>by
  rw [List.nodup_cons]at hn;have hx:=h x (by simp);have:=tU (l:=l) (m:=m.erase x) hn.2 (fun y hy=>by
   have fg:y≠x:=fun e=>hn.1 (e▸hy);exact(List.mem_erase_of_ne fg).2 (h y (by simp [hy])))
  rw [List.length_erase_of_mem hx]at this;have im:0<m.length:=List.length_pos_of_mem hx;simp only [List.length_cons];omega
def rQ(w:World):Prop:=TabAt (Tryz.jf.g 1) Lib.deBruijn64tab w
theorem rQ.aD{S:Nat->Prop}{w w':World}(h:rQ w)(hk:Kept S w w')(hn:¬S (Tryz.jf.g 1)):rQ w':=fun j hj=>hk.cell (h j hj) hn
theorem rQ.same{w w':World}(h:rQ w)(hk:Kept Nil w w'):rQ w':=h.aD hk fun h=>h
theorem rQ.lt{w:World}(h:rQ w):Tryz.jf.g 1<w.heap.size:=World.block_lt_of_cell? w _ (h 0 (by decide))
section
variable{w:World}{K:Value->World->Prop}
theorem QU{x:Nat}(hx:x<18446744073709551616)(hT:rQ w)(hK:K (.int .i64 (Lib.ctz 64 x:Nat)) w):bj prog bits_TrailingZeros64.id #[.int .u64 (x:Int)] w K:=by
 refine Calls.mono (Any7.bits_TrailingZeros64 Tryz.tzL x hx w (fun _=>hT)) ?_;rintro e w' ⟨rfl,rfl⟩;exact⟨_,rfl,hK⟩
abbrev encI(i:Nat):List Value:= [.int .i64 (i:Int)]
theorem Ic(p:Addr){A:Option Addr}{n c:Nat}{l:List Nat}(hn:n<=100000)(ho:okW l):
 mN prog aH.id #[] #[.pointer (some p)] ((oF 0 l).map encI) (fun w=>US w A n l/\w.cell? p=some (.slice A n c)/\rQ w):=by
 intro y I D w0 hI hD qD h0 pX;refine aH.of ?_;obtain⟨CL,Qj,_⟩:=qD 0 w0 h0;have hlen:=CL.len;refine⟨A,n,c,Qj,?_⟩;refine aH.b7 (I:=fun s w'=>∃(i:Nat) (dn:List Nat),s=(i:Int)/\i<=n/\dn++oF i (l.drop i)=oF 0 l/\I dn.length w') (μ:=fun s _=>((n:Int)-s).toNat) (s:=0) ⟨0,[],rfl,Nat.zero_le _,rfl,h0⟩ ?_;rintro s w' ⟨i,dn,rfl,hi,zI,hw⟩;refine Split.dec (fun iU=>?_) (fun fU=>?_)
 ·have dW:i<n:=by omega
  obtain⟨x,hx⟩:∃x,l[i]? =some x:=⟨_,List.getElem?_eq_getElem (by omega)⟩;have th:=ho x (List.mem_of_getElem? hx);have hl:=(qD _ w' hw).1;have uq:l.drop i=x::l.drop (i+1):=by
   obtain⟨h1,h2⟩:=lgeS hx;rw [List.drop_eq_getElem_cons h1,h2]
  rw [uq,oF]at zI;refine hl.load (i:=(i:Int)) (by omega) hx ?_;refine aH.gw (I:=fun s w'=>∃(v:Nat) (dn:List Nat),s=(v:Int)/\v<18446744073709551616/\dn++((uc v).map (64*i+ ·)++oF (i+1) (l.drop (i+1)))=oF 0 l/\I dn.length w') (μ:=fun s _=>s.toNat) (s:=(x:Int)) ⟨x,dn,rfl,th,zI,hw⟩ ?_;clear hw zI;rintro s w1 ⟨v,W5,rfl,hv,Hs,IC⟩;by_cases h0:v=0
  ·refine Split.no (by subst h0;rfl) ?_
   rw [aQ,aH.jA];unfold aH.gU;rw [dh (n:=(i:Int)) (by omega) (by omega)];rw [h0,vV,List.map_nil,List.nil_append]at Hs;exact⟨(i:Int)+1,rfl,⟨i+1,W5,rfl,dW,Hs,IC⟩,by simp only;omega⟩
  ·refine Split.yes (bne_iff_ne.2 (by omega)) ?_
   have hpr:=qD _ w1 IC;obtain⟨hk,LP,hkr⟩:=Cl h0 hv;rw [vX h0,List.map_cons,List.cons_append]at Hs;refine QU hv hpr.2.2 ⟨_,rfl,?_⟩;have fW:((oF 0 l).map encI)[W5.length]? =some (encI (64*i+Lib.ctz 64 v)):=by
    rw [List.getElem?_map,<-Hs,List.getElem?_append_right (Nat.le_refl _),Nat.sub_self];rfl
   have AD:i64.wrap (i64.wrap ((64:Int)*(i:Int))+((Lib.ctz 64 v:Nat):Int))=((64*i+Lib.ctz 64 v:Nat):Int):=by
    rw [gQ (x:=(64:Int)*(i:Int)) (by omega) (by omega),gQ (by omega) (by omega)];omega
   rw [AD];refine(pX W5.length _ w1 fW IC).mono ?_;rintro b kM ⟨ht,hf⟩;have jP:u64.wrap ((BitVec.ofInt 64 (v:Int)&&& BitVec.ofInt 64 (u64.wrap ((v:Int)-(1:Int)))).toNat:Int)=((v&&& (v-1):Nat):Int):=by
    have e1:(v:Int)-1=((v-1:Nat):Int):=by omega
    rw [e1,je (x:=v-1) (by omega),abU hv (by omega)]
   cases b with
   |true=>
    refine Split.no rfl ?_;rw [jP];have cy:=xu h0;refine⟨((v&&& (v-1):Nat):Int),rfl,⟨v&&& (v-1),W5++ [64*i+Lib.ctz 64 v],rfl,by omega,by rw [List.append_assoc];exact Hs,?_⟩,by simp only;omega⟩;rw [List.length_append];exact ht rfl
   |false=>
    refine Split.yes rfl ?_;exact Or.inr (hf rfl)
 ·rw [aQ,aH.c8]
  have e:i=n:=by omega
  subst e;refine Or.inl ?_;rw [List.drop_eq_nil_of_le (by omega),oF,List.append_nil]at zI;rw [List.length_map,<-zI];exact hw
end
def pos(h:HT):List HT->Nat->Option Nat
 | [],_=>none
 |x::l,i=>if h=x then some i else pos h l (i+1)
theorem oC{h:HT}:∀ {l:List HT} {i:Nat},pos h l i=none↔h∉l
 | [],i=>by simp [pos]
 |x::l,i=>by
  unfold pos;split
  ·rename_i e;simp [e]
  ·rename_i e
   rw [oC (l:=l)];simp [e]
theorem tO{h:HT}:∀ {l:List HT} {i j:Nat},pos h l i=some j->i<=j/\l[j-i]? =some h
 | [],i,j,e=>by simp [pos]at e
 |x::l,i,j,e=>by
  unfold pos at e;split at e
  ·rename_i hx
   cases e;subst hx;exact⟨Nat.le_refl _,by rw [Nat.sub_self];rfl⟩
  ·obtain⟨h1,h2⟩:=tO e
   refine⟨by omega,?_⟩;rw [show j-i=(j-(i+1))+1 by omega];exact h2
theorem jU{h:HT}:∀ {l:List HT} (i j:Nat),l.Nodup->l[j]? =some h->pos h l i=some (i+j)
 | [],i,j,_,e=>by simp at e
 |x::l,i,0,_,e=>by
  simp only [List.getElem?_cons_zero,Option.some.injEq]at e;unfold pos;rw [if_pos e.symm];simp
 |x::l,i,j+1,hn,e=>by
  simp only [List.getElem?_cons_succ]at e;rw [List.nodup_cons]at hn;unfold pos;rw [if_neg (fun hx=>hn.1 (by rw [<-hx];exact List.mem_of_getElem? e)),jU (i+1) j hn.2 e]
  congr 1
  omega
section
variable{w:World}
theorem IZ:prog.underlying aj=some (.array 32 ik):=by kernel_rfl
theorem MB:prog.underlying ik=some (.int .u8):=by kernel_rfl
theorem Ll:∃i,prog.info? ik=some i/\i.size=1:=by
 have h:(match prog.info? ik with|some i=>Nat.beq i.size 1|none=>false)=true:=by kernel_rfl
 split at h
 ·rename_i i hi;exact⟨i,hi,Nat.eq_of_beq_eq_true h⟩
 ·cases h
theorem MD:prog.underlying ck=some (.map aj fR):=by kernel_rfl
theorem tG(a b:HT)(w:World):(Op.equal aj (.agg a.1) (.agg b.1)).run prog w=.ok (decide (a=b)) w:=by
 obtain⟨i,hi,h1⟩:=Ll;have:=ot (P:=prog) 9998 w IZ MB hi h1 a.2.ints b.2.ints;rw [dz]at this;simp only [Op.equal,Op.maxDepth];exact this
theorem iG(h:HT)(em:Bool)(w:World):(Instr.checkKey em 10000 aj (.agg h.1)).run prog w=.ok () w:=by
 obtain⟨i,hi,h1⟩:=Ll;have hc:prog.cellsOf ik=1:=by simp [Program.cellsOf,hi,h1]
 rw [show(10000:Nat)=9999+1 from rfl,Instr.checkKey];simp only [Sem.run_bind,run_underlying IZ,Result.andThen_ok];simp only [Std.Legacy.Range.forIn_eq_forIn_range',Std.Legacy.Range.size,Nat.sub_zero,Nat.add_one_sub_one,Nat.div_one];have each:∀j∈List.range' 0 32,∃v,h.1[j]? =some v/\∃x:Int,v=.int .u8 x:=fun j hj=>by
  have uk:j<h.1.size:=by rw [h.2.1];simpa using hj
  obtain⟨x,hx,_⟩:=h.2.2 h.1[j] (by simp);exact⟨_,Array.getElem?_eq_getElem uk,x,hx⟩
 generalize List.range' 0 32=is at each
 induction is with
 |nil=>simp
 |cons j is ih=>
  obtain⟨v,hv,x,rfl⟩:=each j (by simp);have Kr:(isAgg ik).run prog w=.ok false w:=by simp [isAgg,run_underlying MB]
  have p1:(part ik h.1 (j*1)).run prog w=.ok (.int .u8 x) w:=by simp [part,Kr,hv]
  have p2:(Instr.checkKey em 9999 ik (.int .u8 x)).run prog w=.ok () w:=by
   rw [show(9999:Nat)=9998+1 from rfl,Instr.checkKey];simp [run_underlying MB]
  simp only [List.forIn_cons,Sem.run_bind,Go.bP.run_sizeOf hi w,hc,Result.andThen_ok,p1,p2,Sem.run_pure];exact ih (fun y hy=>each y (by simp [hy]))
def zz(es:List MapEntry)(l:List HT)(i:Nat):Prop:=match es,l with
 | [],[]=>True
 |e::es,h::l=>(e.key=.agg h.1/\e.val=.int .i64 (i:Int))/\zz es l (i+1)
 |_,_=>False
theorem zz.snoc:∀ {es:List MapEntry} {l:List HT} {i:Nat} {e:MapEntry} {h:HT},zz es l i->e.key=.agg h.1->e.val=.int .i64 ((i+l.length:Nat):Int)->zz (es++ [e]) (l++ [h]) i
 | [],[],i,e,h,_,h1,h2=>⟨⟨h1,by simpa using h2⟩,trivial⟩
 |x::es,y::l,i,e,h,he,h1,h2=>⟨he.1,zz.snoc he.2 h1 (by rw [h2];congr 2;simp;omega)⟩
 | [],_::_,_,_,_,he,_,_=>he.elim
 |_::_,[],_,_,_,he,_,_=>he.elim
theorem qj(h:HT)(w:World):∀(es:List MapEntry) (l:List HT) (i:Nat),zz es l i->
 (Instr.findAsking aj (.agg h.1) es i).run prog w=.ok ((pos h l i).map fun j=>(j,.int .i64 (j:Int))) w
 | [],[],i,_=>by simp [Instr.findAsking,pos]
 |e::es,x::l,i,he=>by
  have hq:=tG h x w;have ih:=qj h w es l (i+1) he.2;simp only [Instr.findAsking,he.1.1,Sem.run_bind,hq,Result.andThen_ok];by_cases hx:h=x
  ·simp [hx,pos,he.1.2]
  ·simp [hx,pos,ih]
 | [],_::_,_,he=>he.elim
 |_::_,[],_,he=>he.elim
theorem mU(h:HT)(w:World){es:List MapEntry}{l:List HT}(he:zz es l 0):
 (Instr.findKey aj (.agg h.1) es).run prog w=.ok ((pos h l 0).map fun j=>(j,.int .i64 (j:Int))) w:=by
 have h1:=qj h w es l 0 he;simp only [Instr.findKey,Sem.run_bind,run_underlying IZ,Result.andThen_ok];cases es with
 |nil=>
  cases l with
  |nil=>simp [Instr.findNow,pos]
  |cons x l=>exact he.elim
 |cons e es=>
  have:Instr.findNow (.array 32 ik) (.agg h.1) (e::es) 0=none:=by
   simp only [Instr.findNow,Instr.sameNow]
  rw [this];exact h1
theorem oP{r:Nat}{es:Array MapEntry}{clock:Nat}(hb:w.heap[r]? =some (.map es clock)):(getObj r).run prog w=.ok (.map es clock) w:=by
 simp [getObj,Sem.run,hb]
theorem zZ{r:Nat}{es:Array MapEntry}{clock:Nat}(o:Obj)(hb:w.heap[r]? =some (.map es clock)):(setObj r o).run prog w=.ok () {w with heap:=w.heap.setIfInBounds r o}:=by
 simp [setObj,Sem.run,hb]
structure IsMap(w:World)(m:Nat)(l:List HT):Prop where
 ex:∃es clock,w.heap[m]? =some (.map es clock)/\zz es.toList l 0
theorem IsMap.aD{S:Nat->Prop}{w w':World}{m:Nat}{l:List HT}(h:IsMap w m l)(hk:Kept S w w')(hn:¬S m):IsMap w' m l:=by
 obtain⟨es,clock,h1,h2⟩:=h.ex;exact⟨es,clock,hk.heap h1 hn,h2⟩
theorem IsMap.lt{w:World}{m:Nat}{l:List HT}(h:IsMap w m l):m<w.heap.size:=by
 obtain⟨es,clock,h1,_⟩:=h.ex;exact aS h1
theorem IsMap.look{m:Nat}{l:List HT}(hm:IsMap w m l)(h:HT):
 (Instr.lookup ck (.map (some m)) (.agg h.1) true).run prog w=.ok (.tuple #[.int .i64 (((pos h l 0).getD 0:Nat):Int),.bool (pos h l 0).isSome]) w:=by
 obtain⟨es,clock,h1,h2⟩:=hm.ex;have h3:=mU h w h2;simp only [Instr.lookup,Sem.run_bind,run_underlying MD,oP h1,Result.andThen_ok,Sem.run_pure,iG,h3];cases hp:pos h l 0<;>simp
theorem IsMap.vY{m:Nat}{l:List HT}(hm:IsMap w m l)(h:HT):
 (Instr.lookup ck (.map (some m)) (.agg h.1) false).run prog w=.ok (.int .i64 (((pos h l 0).getD 0:Nat):Int)) w:=by
 obtain⟨es,clock,h1,h2⟩:=hm.ex;have h3:=mU h w h2;simp only [Instr.lookup,Sem.run_bind,run_underlying MD,oP h1,Result.andThen_ok,Sem.run_pure,iG,h3];cases hp:pos h l 0<;>simp
theorem IsMap.put{m:Nat}{l:List HT}(hm:IsMap w m l){h:HT}(hn:h∉l):
 ∃w',(Instr.mapUpdate ck (.map (some m)) (.agg h.1) (.int .i64 ((l.length:Nat):Int))).run prog w=.ok () w'/\IsMap w' m (l++ [h])/\Kept (· =m) w w':=by
 obtain⟨es,clock,h1,h2⟩:=hm.ex;have h3:=mU h w h2;rw [oC.2 hn]at h3;refine⟨{w with heap:=w.heap.setIfInBounds m (.map (es.push {key:=.agg h.1,val:=.int .i64 ((l.length:Nat):Int),born:=clock}) (clock+1))},?_,⟨es.push {key:=.agg h.1,val:=.int .i64 ((l.length:Nat):Int),born:=clock},clock+1,?_,?_⟩,?_⟩
 ·simp only [Instr.mapUpdate,Sem.run_bind,run_underlying MD,oP h1,Result.andThen_ok,iG,h3,Option.map_none,zZ _ h1]
 ·simp [aS h1]
 ·have:=h2.snoc (e:= {key:=.agg h.1,val:=.int .i64 ((l.length:Nat):Int),born:=clock}) (h:=h) rfl (by simp)
  simpa using this
 ·exact⟨rfl,rfl,rfl,by simp,fun k _ hk=>by simp [Ne.symm hk]⟩
end
end Go.Proofs.YtnboahlopghcjaaGreatDoor
namespace Go.Proofs.YtnboahlopghcjaaGreatDoor
open Go.Proofs.Tryz
open Go Go.bP
structure DN where
 id:HT
 ps:List HT
abbrev DG:=List DN
def ids(D:DG):List HT:=D.map (·.id)
def mL(D:DG)(p h:HT):Prop:=∃nd∈D,nd.id=h/\p∈nd.ps
inductive eI (D:DG):HT->HT->Prop
 |one {p h:HT}:mL D p h->eI D p h
 |more {a p h:HT}:eI D a p->mL D p h->eI D a h
theorem eI.trans{D:DG}{a b c:HT}(h:eI D a b)(h':eI D b c):eI D a c:=by
 induction h' with
 |one hp=>exact .more h hp
 |more _ hp ih=>exact .more ih hp
structure iS(D:DG):Prop where
 pos:0<D.length
 nodup:(ids D).Nodup
 ss:∀nd∈D,SS nd.ps
 up:∀(i:Nat) nd p,D[i]? =some nd->p∈nd.ps->∃(j:Nat) (m:DN),j<i/\D[j]? =some m/\m.id=p
theorem fc(D:DG):(ids D).length=D.length:=by simp [ids]
theorem o8{D:DG}{i:Nat}{nd:DN}(h:D[i]? =some nd):(ids D)[i]? =some nd.id:=by simp [ids,h]
theorem GU{D:DG}{i:Nat}{h:HT}(e:(ids D)[i]? =some h):∃nd,D[i]? =some nd/\nd.id=h:=by
 unfold ids at e;rw [List.getElem?_map]at e;cases hd:D[i]? with
 |none=>rw [hd]at e;cases e
 |some nd=>rw [hd]at e;exact⟨nd,rfl,by simpa using e⟩
theorem cU{D:DG}{h:HT}:h∈ids D↔∃nd∈D,nd.id=h:=by simp [ids]
section
variable{D:DG}
theorem iS.inj(W:iS D){i j:Nat}{a b:DN}(ha:D[i]? =some a)(hb:D[j]? =some b)(e:a.id=b.id):i=j:=by
 have h1:=jU 0 i W.nodup (o8 ha);have h2:=jU 0 j W.nodup (o8 hb);rw [e,h2]at h1;simpa using h1.symm
theorem iS.pos_eq(W:iS D){i:Nat}{nd:DN}(h:D[i]? =some nd):Proofs.YtnboahlopghcjaaGreatDoor.pos nd.id (ids D) 0=some i:=by
 have:=jU 0 i W.nodup (o8 h)
 rwa [Nat.zero_add]at this
theorem mL.at_(W:iS D){p h:HT}(hp:mL D p h):∃(i j:Nat) (m nd:DN),i<j/\D[i]? =some m/\D[j]? =some nd/\m.id=p/\nd.id=h/\p∈nd.ps:=by
 obtain⟨nd,eF,rfl,mQ⟩:=hp;obtain⟨j,hj⟩:=List.mem_iff_getElem?.1 eF;obtain⟨i,m,qF,hm,e⟩:=W.up j nd p hj mQ;exact⟨i,j,m,nd,qF,hm,hj,e,rfl,mQ⟩
theorem eI.at_(W:iS D){a h:HT}(hp:eI D a h):∃(i j:Nat) (m nd:DN),i<j/\D[i]? =some m/\D[j]? =some nd/\m.id=a/\nd.id=h:=by
 induction hp with
 |one hp=>
  obtain⟨i,j,m,nd,h1,h2,h3,h4,h5,_⟩:=hp.at_ W;exact⟨i,j,m,nd,h1,h2,h3,h4,h5⟩
 |more _ hp ih=>
  obtain⟨i,j,m,nd,h1,h2,h3,h4,h5⟩:=ih;obtain⟨i',j',m',nd',sj,uv,CT,WS,h5',_⟩:=hp.at_ W;have e:=W.inj h3 uv (by rw [h5,WS]);exact⟨i,j',m,nd',by omega,h2,CT,h4,h5'⟩
theorem eI.irrefl(W:iS D)(a:HT):¬eI D a a:=fun h=>by
 obtain⟨i,j,m,nd,h1,h2,h3,h4,h5⟩:=h.at_ W;have:=W.inj h2 h3 (by rw [h4,h5]);omega
theorem eI.mem(W:iS D){a h:HT}(hp:eI D a h):a∈ids D/\h∈ids D:=by
 obtain⟨i,j,m,nd,_,h2,h3,h4,h5⟩:=hp.at_ W;exact⟨cU.2 ⟨m,List.mem_of_getElem? h2,h4⟩,cU.2 ⟨nd,List.mem_of_getElem? h3,h5⟩⟩
theorem tm(W:iS D){i:Nat}{nd:DN}(h:D[i]? =some nd)(a:HT):eI D a nd.id↔∃p∈nd.ps,a=p\/eI D a p:=by
 have key:∀ {p},mL D p nd.id->p∈nd.ps:=fun⟨nd',hm,e,hp⟩=>by
  obtain⟨j,hj⟩:=List.mem_iff_getElem?.1 hm;have:=W.inj h hj e.symm;subst this;rw [h]at hj;cases hj;exact hp
 constructor
 ·intro ha
  generalize he:nd.id=x at ha;cases ha with
  |one hp=>subst he;exact⟨a,key hp,.inl rfl⟩
  |more zK hp=>subst he;exact⟨_,key hp,.inr zK⟩
 ·rintro⟨p,hp,e⟩
  have kV:mL D p nd.id:=⟨nd,List.mem_of_getElem? h,rfl,hp⟩;rcases e with rfl|e
  ·exact .one kV
  ·exact .more e kV
theorem mw{nd:DN}{p h:HT}:mL (D++ [nd]) p h↔mL D p h\/(nd.id=h/\p∈nd.ps):=by
 unfold mL;constructor
 ·rintro⟨m,hm,e,hp⟩
  rw [List.mem_append,List.mem_singleton]at hm;rcases hm with hm|rfl
  ·exact .inl ⟨m,hm,e,hp⟩
  ·exact .inr ⟨e,hp⟩
 ·rintro(⟨m,hm,e,hp⟩|⟨e,hp⟩)
  ·exact⟨m,by simp [hm],e,hp⟩
  ·exact⟨nd,by simp,e,hp⟩
theorem iK(W:iS D){nd:DN}(hn:nd.id∉ids D){a h:HT}(hh:h∈ids D):eI (D++ [nd]) a h↔eI D a h:=by
 constructor
 ·intro ha
  induction ha with
  |one hp=>
   rcases mw.1 hp with hp|⟨e,_⟩
   ·exact .one hp
   ·subst e;exact absurd hh hn
  |more _ hp ih=>
   rcases mw.1 hp with hp|⟨e,_⟩
   ·exact .more (ih (eI.mem W (.one hp)).1) hp
   ·subst e;exact absurd hh hn
 ·intro ha
  induction ha with
  |one hp=>exact .one (mw.2 (.inl hp))
  |more zK hp ih=>exact .more (ih (eI.mem W zK).2) (mw.2 (.inl hp))
theorem kh(D:DG)(nd:DN):ids (D++ [nd])=ids D++ [nd.id]:=by simp [ids]
theorem iS.snoc(W:iS D){nd:DN}(hn:nd.id∉ids D)(mQ:∀p∈nd.ps,p∈ids D)(hs:SS nd.ps):iS (D++ [nd]) where
 pos:=by simp
 nodup:=by
  rw [kh,List.nodup_append];refine⟨W.nodup,by simp,fun a ha b hb=>?_⟩;rw [List.mem_singleton]at hb;subst hb;exact fun e=>hn (e▸ha)
 ss:=fun m hm=>by
  rw [List.mem_append,List.mem_singleton]at hm;rcases hm with hm|rfl
  ·exact W.ss m hm
  ·exact hs
 up:=fun i m p hi hp=>by
  rw [List.getElem?_append]at hi;split at hi
  ·rename_i cy
   obtain⟨j,q,h1,h2,h3⟩:=W.up i m p hi hp;exact⟨j,q,h1,by rw [List.getElem?_append_left (by omega)];exact h2,h3⟩
  ·rename_i fU
   have:m=nd:=by
    cases hk:i-D.length with
    |zero=>rw [hk]at hi;simpa using hi.symm
    |succ k=>rw [hk]at hi;simp at hi
   subst this;obtain⟨q,hq,e⟩:=cU.1 (mQ p hp);obtain⟨j,hj⟩:=List.mem_iff_getElem?.1 hq;have ti:=(lgeS hj).1;exact⟨j,q,by omega,by rw [List.getElem?_append_left ti];exact hj,e⟩
end
theorem iS.root(r:HT):iS [⟨r,[]⟩] where
 pos:=by simp
 nodup:=by simp [ids]
 ss:=fun nd h=>by simp at h;subst h;exact List.Pairwise.nil
 up:=fun i nd p h hp=>by
  cases i with
  |zero=>simp at h;subst h;simp at hp
  |succ i=>simp at h
def c9(D:DG)(h:HT)(l:List HT):Int:=
 if h∈ids D then 7 else if(dd l).length=0\/(dd l).length≠l.length then 9 else if ∃p∈dd l,p∉ids D then 6 else 0
def lP(D:DG)(h:HT)(l:List HT):DG:=if c9 D h l=0 then D++ [⟨h,dd l⟩]else D
theorem jN{D:DG}{h:HT}{l:List HT}(e:c9 D h l=0):h∉ids D/\l≠ []/\l.Nodup/\∀p∈dd l,p∈ids D:=by
 unfold c9 at e;split at e
 ·cases e
 ·rename_i h1
  split at e
  ·cases e
  ·rename_i h2
   split at e
   ·cases e
   ·rename_i h3
    simp only [not_or,Decidable.not_not]at h2;refine⟨h1,fun hl=>h2.1 (by rw [hl];rfl),qt h2.2,fun p hp=>Classical.byContradiction fun hn=>h3 ⟨p,hp,hn⟩⟩
theorem iS.add{D:DG}(W:iS D)(h:HT)(l:List HT):iS (lP D h l):=by
 unfold lP;split
 ·rename_i e
  obtain⟨h1,_,_,h4⟩:=jN e;exact W.snoc h1 h4 (iz l)
 ·exact W
open Classical in
noncomputable def pick(D:DG)(is:HT->Prop):List HT:=dd ((ids D).filter fun a=>decide (is a))
theorem iY{D:DG}{is:HT->Prop}{a:HT}:a∈pick D is↔a∈ids D/\is a:=by
 unfold pick;rw [cZ,List.mem_filter];simp
theorem Cg{D:DG}{is:HT->Prop}{l:List HT}(h:∀a,a∈l↔a∈ids D/\is a):dd l=pick D is:=BW fun x=>by
 rw [h,List.mem_filter];simp
theorem mv(D:DG)(is:HT->Prop):(pick D is).length<=D.length:=by
 unfold pick;refine Nat.le_trans (oZ _) (Nat.le_trans (List.length_filter_le _ _) ?_);rw [fc];exact Nat.le_refl _
noncomputable def dL(D:DG)(l:List HT):List HT:=pick D fun a=>∃h∈l,eI D a h
noncomputable def fX(D:DG)(h:HT):List HT:=pick D fun a=>mL D h a
open Go.RowKit
structure NS(w:World)(F:Nat->Prop)(A:Option Addr)(n:Nat)(l:List DN):Prop where
 len:l.length=n
 at_:∀(i:Nat) nd,l[i]? =some nd->∃a pA pn pc,A=some a/\a.block<w.heap.size/\F a.block/\Cells w (a.add (i*33)) (nd.id.1.push (.slice pA pn pc))/\HS w pA pn nd.ps/\∀b,pA=some b->F b.block
section
variable{w w':World}{F F' S:Nat->Prop}{A:Option Addr}{n:Nat}{l:List DN}
theorem NS.aD(h:NS w F A n l)(hk:Kept S w w')(hn:∀k,F k->¬S k):NS w' F A n l:=⟨h.len,fun i nd hi=>by
 obtain⟨a,pA,pn,pc,h1,h2,h3,h4,h5,h6⟩:=h.at_ i nd hi;exact⟨a,pA,pn,pc,h1,Nat.lt_of_lt_of_le h2 hk.size,h3,Cells.aD h4 hk (by rw [ee];exact hn _ h3),h5.aD hk (fun b hb=>hn _ (h6 b hb)),h6⟩⟩
theorem NS.mono(h:NS w F A n l)(hf:∀k,F k->F' k):NS w F' A n l:=⟨h.len,fun i nd hi=>by
 obtain⟨a,pA,pn,pc,h1,h2,h3,h4,h5,h6⟩:=h.at_ i nd hi;exact⟨a,pA,pn,pc,h1,h2,hf _ h3,h4,h5,fun b hb=>hf _ (h6 b hb)⟩⟩
theorem qm{h:HT}{v:Value}{j:Nat}{u:Value}(hj:h.1[j]? =some u):(h.1.push v)[j]? =some u:=by
 have cy:=(Array.getElem?_eq_some_iff.1 hj).1;rw [Array.getElem?_push,if_neg (by omega),hj]
theorem mu(h:HT)(v:Value):(h.1.push v)[32]? =some v:=by
 have:=h.2.1;rw [Array.getElem?_push,if_pos (by omega)]
theorem NS.id(h:NS w F A n l){i:Int}{nd:DN}(h0:0<=i)(hx:l[i.toNat]? =some nd){k:Array Value->Prop}(hk:k nd.id.1):
 (0<=i/\i<(n:Int))/\Is A fun a=>∃t:Array Value,(t.size=32/\Cells w ((a.add (i.toNat*33)).add 0) t)/\k t:=by
 obtain⟨a,pA,pn,pc,rfl,_,_,h4,_,_⟩:=h.at_ _ nd hx;have:=(lgeS hx).1;have:=h.len;refine⟨⟨h0,by omega⟩,nd.id.1,⟨nd.id.2.1,fun j v hj=>?_⟩,hk⟩;rw [add_zero];exact h4 j v (qm hj)
theorem NS.ps(h:NS w F A n l){i:Int}{nd:DN}(h0:0<=i)(hx:l[i.toNat]? =some nd){k:Option Addr->Nat->Nat->Prop}(hk:∀pA pn pc,HS w pA pn nd.ps->(∀b,pA=some b->F b.block)->k pA pn pc):
 (0<=i/\i<(n:Int))/\Is A fun a=>∃pA pn pc,w.cell? ((a.add (i.toNat*33)).add 32)=some (.slice pA pn pc)/\k pA pn pc:=by
 obtain⟨a,pA,pn,pc,rfl,_,_,h4,h5,h6⟩:=h.at_ _ nd hx;have:=(lgeS hx).1;have:=h.len;exact⟨⟨h0,by omega⟩,pA,pn,pc,h4 32 _ (mu _ _),hk _ _ _ h5 h6⟩
theorem NS.cells(h:NS w F A n l):∀k,k<=n->∃news:List Value,news.length=k*33/\(∀a,A=some a->∀j u,news[j]? =some u->w.cell? (a.add j)=some u)/\(∀u∈news,u.oneCell'=true)/\
 ∀(i:Nat) nd,i<k->l[i]? =some nd->∃pA pn pc,HS w pA pn nd.ps/\(∀b,pA=some b->F b.block)/\∀(j:Nat) v,(nd.id.1.push (.slice pA pn pc))[j]? =some v->news[i*33+j]? =some v
 |0,_=>⟨[],rfl,by simp,by simp,by intro i nd hi;omega⟩
 |k+1,hk=>by
  obtain⟨news,e1,e2,e3,e4⟩:=h.cells k (by omega);have hlen:=h.len;obtain⟨nd,eF⟩:∃nd,l[k]? =some nd:=⟨_,List.getElem?_eq_getElem (by omega)⟩;obtain⟨a,pA,pn,pc,hA,h2,h3,h4,h5,h6⟩:=h.at_ _ nd eF;have kY:(nd.id.1.push (.slice pA pn pc)).size=33:=by rw [Array.size_push,nd.id.2.1]
  refine⟨news++(nd.id.1.push (.slice pA pn pc)).toList,by rw [List.length_append,e1,Array.length_toList,kY];omega,fun a' zK j u hj=>?_,fun u hu=>?_,fun i md hi uY=>?_⟩
  ·rw [List.getElem?_append]at hj
   split at hj
   ·exact e2 a' zK j u hj
   ·rename_i fU
    rw [hA]at zK;cases zK;have:=h4 (j-news.length) u (by rw [<-Array.getElem?_toList];exact hj)
    rwa [ko,show k*33+(j-news.length)=j by omega]at this
  ·rw [List.mem_append]at hu
   rcases hu with hu|hu
   ·exact e3 u hu
   ·simp only [Array.toList_push,List.mem_append,List.mem_singleton]at hu
    rcases hu with hu|rfl
    ·exact nd.id.2.one u hu
    ·rfl
  ·by_cases hik:i<k
   ·obtain⟨qA,qn,qc,f1,f2,f3⟩:=e4 i md hik uY
    exact⟨qA,qn,qc,f1,f2,fun j v hj=>by
     have:=f3 j v hj;rw [List.getElem?_append_left (lgeS this).1];exact this⟩
   ·have:i=k:=by omega
    subst this;rw [eF]at uY;cases uY;exact⟨pA,pn,pc,h5,h6,fun j v hj=>by
     rw [List.getElem?_append_right (by omega),e1,show i*33+j-i*33=j by omega,Array.getElem?_toList];exact hj⟩
theorem wJ:xN prog ct bK 33 56:=⟨by kernel_rfl,by kernel_rfl⟩
theorem C0:QD prog bK=some ([(0,32),(32,1)],List.replicate 32 (.int .u8 0)++ [.slice none 0 0]):=by kernel_rfl
theorem EJ(h:HT)(A:Option Addr)(n c:Nat):prog.built bK [(0,.agg h.1),(1,.slice A n c)]=some (h.1.push (.slice A n c)):=by
 have hs:=h.2.1;rw [mI C0,iu (off:=0) (size:=32) rfl (by simpa [Value.cells]using hs) (by simp),iu (off:=32) (size:=1) rfl rfl (by
  rw [List.size_toArray,lg (by simp [Value.cells,hs])];simp)]
 simp only [Instr.fill,Option.some.injEq];apply Array.ext';unfold gk;simp [Value.cells,hs]
structure sW(w:World)(F:Nat->Prop)(r:Nat)(D:DG):Prop where
 ex:∃(A:Option Addr) (c:Nat) (cs:Array Value) (t:TypeId),w.heap[r]? =some (.cells cs t (0,0))/\cs[0]? =some (.slice A D.length c)/\NS w F A D.length D
 gL:¬F r
theorem sW.aD{r:Nat}{D:DG}(h:sW w F r D)(hk:Kept S w w')(hr:¬S r)(hn:∀k,F k->¬S k):sW w' F r D:=by
 obtain⟨A,c,cs,t,h1,h0,h2⟩:=h.ex;exact⟨⟨A,c,cs,t,hk.heap h1 hr,h0,h2.aD hk hn⟩,h.gL⟩
theorem sW.same{r:Nat}{D:DG}(h:sW w F r D)(hk:Kept Nil w w'):sW w' F r D:=h.aD hk (fun h=>h) (fun _ _ h=>h)
theorem sW.lt{r:Nat}{D:DG}(h:sW w F r D):r<w.heap.size:=by obtain⟨A,c,cs,t,h1,_⟩:=h.ex;exact aS h1
theorem sW.go{r:Nat}{D:DG}(h:sW w F r D){k:Option Addr->Nat->Nat->Prop}(hk:∀A c,NS w F A D.length D->k A D.length c):
 ∃A n m,w.cell? ((⟨r,0,none⟩:Addr).add 0)=some (.slice A n m)/\k A n m:=by
 obtain⟨A,c,cs,t,h1,h0,h2⟩:=h.ex;exact⟨A,_,c,by rw [add_zero,ay h1];exact h0,hk A c h2⟩
theorem sW.go'{r:Nat}{D:DG}(h:sW w F r D)(kw:Kept Nil w w'){k:Option Addr->Nat->Nat->Prop}(hk:∀A c,NS w F A D.length D->k A D.length c):
 ∃A n m,w'.cell? ((⟨r,0,none⟩:Addr).add 0)=some (.slice A n m)/\k A n m:=by
 obtain⟨A,c,cs,t,h1,h0,h2⟩:=h.ex;exact⟨A,_,c,by rw [add_zero,ay (kw.heap h1 (fun h=>h))];exact h0,hk A c h2⟩
theorem NS.ps'(h:NS w F A n l)(kw:Kept Nil w w'){i:Int}{nd:DN}(h0:0<=i)(hx:l[i.toNat]? =some nd){k:Option Addr->Nat->Nat->Prop}(hk:∀pA pn pc,HS w pA pn nd.ps->k pA pn pc):
 (0<=i/\i<(n:Int))/\Is A fun a=>∃pA pn pc,w'.cell? ((a.add (i.toNat*33)).add 32)=some (.slice pA pn pc)/\k pA pn pc:=by
 obtain⟨a,pA,pn,pc,rfl,_,_,h4,h5,h6⟩:=h.at_ _ nd hx;have:=(lgeS hx).1;have:=h.len;exact⟨⟨h0,by omega⟩,pA,pn,pc,(kw.cell (h4 32 _ (mu _ _)) (fun h=>h)),hk _ _ _ h5⟩
def Fi(D:DG)(h:HT):Int:=match pos h (ids D) 0 with|some j=>(j:Int)|none=> -1
theorem qO{D:DG}{h:HT}:Fi D h<0↔h∉ids D:=by
 unfold Fi;rw [<-oC (l:=ids D) (i:=0)];cases hp:pos h (ids D) 0<;>simp
theorem rM{D:DG}{h:HT}:Fi D h>=0↔h∈ids D:=by
 have:= @qO D h;constructor
 ·intro hg;exact Classical.byContradiction fun hn=>by have:=this.2 hn;omega
 ·intro hm;exact Classical.byContradiction fun hn=>this.1 (by omega) hm
theorem KK{D:DG}{h:HT}(hm:h∈ids D):∃nd,Fi D h>=0/\D[(Fi D h).toNat]? =some nd/\nd.id=h:=by
 have h1:=rM.2 hm;unfold Fi at*;cases hp:pos h (ids D) 0 with
 |none=>rw [hp]at h1;simp at h1
 |some j=>
  obtain⟨_,h2⟩:=tO hp;obtain⟨nd,h3,h4⟩:=GU h2;exact⟨nd,by simp,by simpa using h3,h4⟩
theorem wY{D:DG}{i:Nat}{nd:DN}(h:D[i]? =some nd):(ids D).take (i+1)=(ids D).take i++ [nd.id]:=by
 rw [List.take_add_one,o8 h];rfl
theorem vR{h:HT}:∀ {l:List HT} {i k:Nat},h∉l.take k->l[k]? =some h->pos h l i=some (i+k)
 | [],_,_,_,e=>by simp at e
 |x::l,i,0,_,e=>by
  simp only [List.getElem?_cons_zero,Option.some.injEq]at e;unfold pos;rw [if_pos e.symm,Nat.add_zero]
 |x::l,i,k+1,hn,e=>by
  simp only [List.getElem?_cons_succ]at e;rw [List.take_succ_cons,List.mem_cons,not_or]at hn;unfold pos;rw [if_neg hn.1,vR (i:=i+1) hn.2 e]
  congr 1
  omega
variable{r:Nat}{D:DG}{K:Value->World->Prop}
theorem oy(H:sW w F r D)(hD:D.length<=1000000)(h:HT)(hK:∀w',Kept Nil w w'->K (.int .i64 (Fi D h)) w'):
 bj prog bt.id #[.pointer (some ⟨r,0,none⟩),.agg h.1] w K:=by
 refine bt.of ?_;unfold bt.W;intro w3;have k3:Kept Nil w w3:=(Kept.refl Nil w).alloc _;have pe:w3.heap[w.heap.size]? =some (.cells h.1 aj (0,0)):=aJ w _;clear_value w3;refine bt.b7 (I:=fun s w'=>∃i:Nat,s=(0,(i:Int))/\i<=D.length/\Kept Nil w3 w'/\h∉(ids D).take i) (μ:=fun s _=>((D.length:Int)-s.2).toNat) (s:=(0,0)) ⟨0,rfl,Nat.zero_le _,Kept.refl _ _,by simp⟩ ?_;rintro s w' ⟨i,rfl,hi,kw,lZ⟩;have kk:Kept Nil w w':=k3.tt kw;refine(H.same kk).go fun A c pY=>?_;refine Split.dec (fun iU=>?_) (fun fU=>?_)
 ·simp only at iU
  have dW:i<D.length:=by omega
  obtain⟨nd,eF⟩:∃nd,D[i]? =some nd:=⟨_,List.getElem?_eq_getElem dW⟩;intro w10;have nK:Kept Nil w3 w10:=kw.drew;have D4:Kept Nil w w10:=k3.tt nK;clear_value w10;refine(H.same D4).go fun A c pY=>?_;refine pY.id (i:=(i:Int)) (by omega) (by rw [Int.toNat_natCast];exact eF) ⟨h.1,⟨h.2.1,Cells.bC (nK.heap pe (fun h=>h))⟩,⟨nd.id.2.ints,h.2.ints⟩,?_⟩;rw [dz];refine Split.dec (fun he=>?_) (fun he=>?_)
  ·have:=hK w10 D4
   unfold Fi at this;rw [vR (i:=0) lZ (by rw [<-he];exact o8 eF),Nat.zero_add]at this;exact this
  ·simp only
   rw [dh (n:=(i:Int)) (by omega) (by omega)];refine⟨(0,(i:Int)+1),rfl,⟨i+1,rfl,dW,nK,?_⟩,by simp only;omega⟩;rw [wY eF,List.mem_append,List.mem_singleton,not_or];exact⟨lZ,fun e=>he e.symm⟩
 ·simp only at fU
  rw [aQ,bt.c8];rw [List.take_of_length_le (by rw [fc];omega)]at lZ;have:=hK w' kk;unfold Fi at this;rw [oC.2 lZ]at this;exact this
end
section
variable{w w':World}{F F' S:Nat->Prop}{A:Option Addr}{n c B:Nat}{l:List DN}{news:List Value}{r:Nat}{D:DG}{K:Value->World->Prop}
theorem DS(h:Row w B bK 33 A n c news)(hl:l.length=n)(hF:∀k,a8 A=some k->F k)
 (hc:∀(i:Nat) nd,l[i]? =some nd->∃pA pn pc,HS w pA pn nd.ps/\(∀b,pA=some b->F b.block)/\∀(j:Nat) v,(nd.id.1.push (.slice pA pn pc))[j]? =some v->news[i*33+j]? =some v):NS w F A n l:=
 ⟨hl,fun i nd hi=>by
   obtain⟨pA,pn,pc,h1,h2,h3⟩:=hc i nd hi;have:=(lgeS hi).1;obtain⟨b,rfl⟩:=Row.some h (by omega);obtain⟨_,cur,oK⟩:=Row.bC h (k:=b) rfl;exact⟨_,pA,pn,pc,rfl,aS oK,hF b rfl,fun j v hj=>by rw [ko];exact Row.cells h _ _ (h3 j v hj),h1,h2⟩⟩
theorem wC(h:NS w F A n l){cx:Nat}(h0:0<n)(hn:n<=100000):
 ∃A' c' w' news,(Builtin.append_ #[ct,ct] ct #[.slice none 0 0,.slice A n cx]).run prog w=.ok (.slice A' n c') w'/\
  Row w' w.heap.size bK 33 A' n c' news/\Kept Nil w w'/\
  ∀(i:Nat) nd,l[i]? =some nd->∃pA pn pc,HS w pA pn nd.ps/\(∀b,pA=some b->F b.block)/\∀(j:Nat) v,(nd.id.1.push (.slice pA pn pc))[j]? =some v->news[i*33+j]? =some v:=by
 obtain⟨news,e1,e2,e3,e4⟩:=h.cells n (Nat.le_refl _);have hlen:=h.len;obtain⟨nd,eF⟩:∃nd,l[0]? =some nd:=⟨_,List.getElem?_eq_getElem (by omega)⟩;obtain⟨a,_,_,_,rfl,_⟩:=h.at_ _ nd eF;obtain⟨A',c',w',hr,eE,hg,hb⟩:=eN (P:=prog) (t:=ct) (ty:=ct) (bytes:=56) wJ (Row.nil w w.heap.size _ _) (a:=a) (m:=n) (cx:=cx) (news:=news) e1 (e2 a rfl) e3 (by omega) (by unfold maxLen;omega) (Nat.le_refl _);rw [Nat.zero_add]at hr eE;rw [List.nil_append]at eE;exact⟨A',c',w',news,hr,eE,Kept.dF (Kept.refl _ _) hg (fun k hk=>by cases hk),fun i nd hi=>e4 i nd (by have:=(lgeS hi).1;omega) hi⟩
theorem wD(h:Row w B bK 33 A n c news)(hn:n<=100000)(hB:B<=w.heap.size){b:Nat}{arr:Array Value}(hb:w.heap[b]? =some (.cells arr bK (0,0)))(hs:arr.size=33)(h1:∀u∈arr.toList,u.oneCell'=true):
 ∃A' c' w',(Builtin.append_ #[ct,ct] ct #[.slice A n c,.slice (some ⟨b,0,none⟩) 1 1]).run prog w=.ok (.slice A' (n+1) c') w'/\
  Row w' B bK 33 A' (n+1) c' (news++arr.toList)/\w.grownBy w' (a8 A):=by
 obtain⟨A',c',w',hr,eE,hg,hb⟩:=eN (P:=prog) (t:=ct) (ty:=ct) (bytes:=56) wJ h (a:=⟨b,0,none⟩) (m:=1) (cx:=1) (news:=arr.toList) (by simpa using hs)
  (fun j u hj=>by rw [a7,Nat.zero_add,ay hb];simpa using hj) h1 (by omega) (by unfold maxLen;omega) hB
 exact⟨A',c',w',hr,eE,hg⟩
theorem Jg{nd:DN}{pA:Option Addr}{pn pc:Nat}(h:Row w B bK 33 A (n+1) c (news++(nd.id.1.push (.slice pA pn pc)).toList))(xH:news.length=n*33)(hl:l.length=n)(hF:∀k,a8 A=some k->F k)
 (hc:∀(i:Nat) nd,l[i]? =some nd->∃pA pn pc,HS w pA pn nd.ps/\(∀b,pA=some b->F b.block)/\∀(j:Nat) v,(nd.id.1.push (.slice pA pn pc))[j]? =some v->news[i*33+j]? =some v)
 (hp:HS w pA pn nd.ps) (IF:∀b,pA=some b->F b.block):NS w F A (n+1) (l++ [nd]):=by
 refine DS h (by simp [hl]) hF fun i md hi=>?_;rw [List.getElem?_append]at hi;split at hi
 ·obtain⟨qA,qn,qc,h1,h2,h3⟩:=hc i md hi
  exact⟨qA,qn,qc,h1,h2,fun j v hj=>by
   have:=h3 j v hj;rw [List.getElem?_append_left (lgeS this).1];exact this⟩
 ·rename_i fU
  have Eo:i=n/\md=nd:=by
   cases hk:i-l.length with
   |zero=>rw [hk]at hi;exact⟨by omega,by simpa using hi.symm⟩
   |succ k=>rw [hk]at hi;simp at hi
  obtain⟨rfl,rfl⟩:=Eo;exact⟨pA,pn,pc,hp,IF,fun j v hj=>by
   rw [List.getElem?_append_right (by omega),xH,show i*33+j-i*33=j by omega,Array.getElem?_toList];exact hj⟩
theorem NS.same(h:NS w F A n l)(hk:Kept Nil w w'):NS w' F A n l:=h.aD hk fun _ _ h=>h
theorem sW.mono(h:sW w F r D)(hf:∀k,F k->F' k)(hr:¬F' r):sW w F' r D:=by
 obtain⟨A,c,cs,t,h1,h0,h2⟩:=h.ex;exact⟨⟨A,c,cs,t,h1,h0,h2.mono hf⟩,hr⟩
theorem yn(h:HT)(A:Option Addr)(n c:Nat):∀u∈(h.1.push (.slice A n c)).toList,u.oneCell'=true:=fun u hu=>by
 simp only [Array.toList_push,List.mem_append,List.mem_singleton]at hu;rcases hu with hu|rfl
 ·exact h.2.one u hu
 ·rfl
theorem Cd(H:sW w F r D)(W:iS D)(hD:D.length<=10000){h:HT}{lp:List HT}{A:Option Addr}{n c:Nat}(hl:HS w A n lp)(hn:n<=400000)
 (hK:∀w',sW w' (fun k=>F k\/(w.heap.size<=k/\k<w'.heap.size)) r (lP D h lp)->Kept (· =r) w w'->K (.int .i64 (c9 D h lp)) w'):
 bj prog bk.id #[.pointer (some ⟨r,0,none⟩),.agg h.1,.slice A n c] w K:=by
 have Y0:=H.lt;have hlen:=hl.len;have lZ:∀w',Kept Nil w w'->∀e,c9 D h lp=e->e≠0->K (.int .i64 e) w':=fun w' k e he fg=>by
  have:=hK w' ?_ (k.mono fun _ _ h=>h.elim)
  ·rw [he]at this;exact this
  ·unfold lP
   rw [if_neg (by rw [he];exact fg)];exact(H.same k).mono (fun _ h=>.inl h) (fun e=>e.elim H.gL (fun h=>absurd h.1 (by omega)))
 refine bk.of ?_;unfold bk.W;intro w4;have k4:Kept Nil w w4:=(Kept.refl _ _).alloc _;have qT:w4.heap[w.heap.size]? =some (.cells h.1 aj (0,0)):=aJ w _;clear_value w4;refine⟨h.1,⟨h.2.1,Cells.bC qT⟩,oy (H.same k4) (by omega) h fun w7 k7=>⟨_,rfl,Split.dec (fun fU=>?_) (fun Ot=>?_)⟩⟩
 ·refine lZ w7 (k4.tt k7) 7 ?_ (by omega)
  unfold c9;rw [if_pos (rM.1 fU)]
 have xf:h∉ids D:=fun hm=>Ot (rM.2 hm);have Ak:Kept Nil w w7:=k4.tt k7;refine pN (hl.same Ak) hn fun Fp IQ w10 vQ nK=>⟨Fp,_,IQ,rfl,?_⟩;have D4:Kept Nil w w10:=Ak.tt nK;have CC:(dd lp).length<=n:=by have:=oZ lp;omega
 by_cases h0:(dd lp).length=0
 ·refine Split.yes (by simp [h0]) ?_
  refine lZ w10 D4 9 ?_ (by omega);unfold c9;rw [if_neg xf,if_pos (.inl h0)]
 refine Split.no (beq_eq_false_iff_ne.2 (by omega)) ?_;by_cases h1:(dd lp).length≠n
 ·refine Split.yes (bne_iff_ne.2 (by omega)) ?_
  refine lZ w10 D4 9 ?_ (by omega);unfold c9;rw [if_neg xf,if_pos (.inr (by omega))]
 replace h1:(dd lp).length=n:=by omega
 refine Split.no (by rw [h1];simp) ?_;refine bk.b7 (I:=fun s w'=>∃i:Nat,s=(0,(i:Int))/\i<=(dd lp).length/\(∀p∈(dd lp).take i,p∈ids D)/\Kept Nil w10 w') (μ:=fun s _=>(((dd lp).length:Int)-s.2).toNat) (s:=(0,0)) ⟨0,rfl,Nat.zero_le _,by simp,Kept.refl _ _⟩ ?_;rintro s w' ⟨i,rfl,hi,cR,kw⟩;have kk:Kept Nil w w':=D4.tt kw;have F6:bQ w' w7.heap.size Fp (dd lp).length IQ (dd lp):=Row.aD vQ kw (fun _ _ h=>h);refine Split.dec (fun iU=>?_) (fun fU=>?_)
 ·simp only at iU
  have dW:i<(dd lp).length:=by omega
  obtain⟨x,hx⟩:∃x,(dd lp)[i]? =some x:=⟨_,List.getElem?_eq_getElem dW⟩;refine F6.hs.load (i:=(i:Int)) (by omega) hx (oy (H.same kk) (by omega) x fun w2 k2=>⟨_,rfl,Split.dec (fun yW=>?_) (fun im=>?_)⟩)
  ·have Wk:=qO.1 yW
   refine lZ w2 (kk.tt k2) 6 ?_ (by omega);unfold c9;rw [if_neg xf,if_neg (by omega),if_pos ⟨x,List.mem_of_getElem? hx,Wk⟩]
  ·simp only
   rw [dh (n:=(i:Int)) (by omega) (by omega)];refine⟨(0,(i:Int)+1),rfl,⟨i+1,rfl,dW,fun p hp=>?_,kw.tt k2⟩,by simp only;omega⟩;rcases(bG hx).1 hp with hp|rfl
   ·exact cR p hp
   ·exact rM.1 (by omega)
 ·simp only at fU
  rw [List.take_of_length_le (by omega)]at cR;have Ul:c9 D h lp=0:=by
   unfold c9;rw [if_neg xf,if_neg (by omega),if_neg (fun⟨p,hp,Hg⟩=>Hg (cR p hp))]
  have hD':lP D h lp=D++ [⟨h,dd lp⟩]:=by unfold lP;rw [if_pos Ul]
  rw [Ul,hD']at hK;have Me:=W.pos;rw [aQ,bk.c8];unfold bk.cK;intro BP;have Ng:Kept Nil w BP:=kk.drew;have GK:Kept Nil w10 BP:=kw.drew;have agB:BP.heap=w'.heap:=rfl;clear_value BP;have UF:BP.heap[w.heap.size]? =some (.cells h.1 aj (0,0)):=(GK.heap (nK.heap (k7.heap qT (fun h=>h)) (fun h=>h)) (fun h=>h));obtain⟨A,c,ajk,t27,GZ,Ui,pY⟩:=(H.same Ng).ex;refine⟨A,_,c,by rw [add_zero,ay GZ];exact Ui,h.1,⟨h.2.1,Cells.bC UF⟩,?_⟩;rw [EJ];have kY:(h.1.push (.slice Fp (dd lp).length IQ)).size=33:=by rw [Array.size_push,h.2.1]
  have ahD:∀ {v},Kept Nil w v->w.heap.size<=v.heap.size:=fun k=>k.size;have abu:∀b,Fp=some b->w.heap.size<=b.block:=fun b hb=>Nat.le_trans Ak.size (Row.bC vQ (k:=b.block) (by rw [hb];rfl)).1;have Kl:∀(A':Option Addr) (c':Nat) (v:World) (news:List Value),Row v BP.heap.size bK 33 A' (D.length+1) c' (news++(h.1.push (.slice Fp (dd lp).length IQ)).toList)->news.length=D.length*33->Kept Nil BP v->
   (∀(i:Nat) nd,D[i]? =some nd->∃pA pn pc,HS v pA pn nd.ps/\(∀b,pA=some b->F b.block)/\∀(j:Nat) u,(nd.id.1.push (.slice pA pn pc))[j]? =some u->news[i*33+j]? =some u)->
   Wr v ((⟨r,0,none⟩:Addr).add 0)/\K (.int .i64 0) (v.setCell ((⟨r,0,none⟩:Addr).add 0) (.slice A' (D.length+1) c')):=by
   intro A' c' v news eE xH kv ur;have M0:Kept Nil w v:=Ng.tt kv;obtain⟨A0,c0,cs0,t0,iH,aaD,_⟩:=(H.same M0).ex;have LN:=(Array.getElem?_eq_some_iff.1 aaD).1;rw [add_zero];have k3:Kept (· =r) v (v.setCell ⟨r,0,none⟩ (.slice A' (D.length+1) c')):=Kept.setCell (S:=fun k=>k=r) (Kept.refl _ v) (p:=⟨r,0,none⟩) (fun _=>rfl) _;refine⟨dK iH LN,hK _ ⟨⟨A',c',cs0.setIfInBounds 0 (.slice A' (D.length+1) c'),t0,?_,?_,?_⟩,fun e=>e.elim H.gL (fun h=>absurd h.1 (by omega))⟩ ((M0.mono (S':=fun k=>k=r) (fun _ _ h=>h.elim)).tt k3)⟩
   ·rw [cS iH 0]
   ·rw [List.length_append]
    simp [LN]
   ·have AG:=k3.size
    have Vb:∀b,Fp=some b->b.block<v.heap.size:=fun b hb=>by
     obtain⟨_,cur,hc⟩:=Row.bC vQ (k:=b.block) (by rw [hb];rfl);have:=aS hc;have:=GK.size;have:=kv.size;omega
    have Oj:=Jg (F:=fun k=>F k\/(w.heap.size<=k/\k<(v.setCell ⟨r,0,none⟩ (.slice A' (D.length+1) c')).heap.size)) (nd:=⟨h,dd lp⟩) eE xH rfl (fun k hk=>by
     obtain⟨h1,cur,hc⟩:=Row.bC eE hk;have:=aS hc;have:=Ng.size;exact .inr ⟨by omega,by omega⟩) (fun i nd hi=>by
     obtain⟨pA,pn,pc,h1,h2,h3⟩:=ur i nd hi;exact⟨pA,pn,pc,h1,fun b hb=>.inl (h2 b hb),h3⟩) ((vQ.hs.same GK).same kv) (fun b hb=>.inr ⟨abu b hb,by have:=Vb b hb;omega⟩)
    have:=Oj.aD k3 (fun k hk e=>by
     subst e;rcases hk with hk|hk
     ·exact H.gL hk
     ·omega)
    rw [List.length_append];exact this
  refine⟨?_,?_⟩
  ·obtain⟨A1,c1,qR,news,ki,kP,Ao,ur⟩:=wC pY (cx:=c) Me (by omega)
   refine⟨A1,_,c1,qR,ki,⟨h.1,rfl,h.2.1,Cells.bC (Ao.heap UF (fun h=>h))⟩,kY,?_⟩;intro mO;have YJ:mO=qR.alloc (.cells (h.1.push (.slice Fp (dd lp).length IQ)) bK):=by
    show qR.alloc (.cells ((h.1.push (.slice Fp (dd lp).length IQ)).toList++ []).toArray bK)=_
    rw [List.append_nil,Array.toArray_toList]
   have zD:Kept Nil qR mO:=(Kept.refl _ _).alloc _;have UD:mO.heap[qR.heap.size]? =some (.cells (h.1.push (.slice Fp (dd lp).length IQ)) bK (0,0)):=by rw [YJ];exact aJ qR _
   clear_value mO;have yj:=Row.aD kP zD (fun _ _ h=>h);obtain⟨A2,c2,sD,iT,fI,Kk⟩:=wD yj (by omega) (Nat.le_trans Ao.size zD.size) UD kY (yn _ _ _ _);have sF:Kept Nil BP sD:=Kept.dF (Ao.tt zD) Kk (fun k hk=>(Row.bC kP hk).1);refine⟨A2,_,c2,sD,iT,?_⟩;exact Kl A2 c2 sD news fI (Row.len kP) sF (fun i nd hi=>by
    obtain⟨pA,pn,pc,h1,h2,h3⟩:=ur i nd hi;exact⟨pA,pn,pc,h1.same sF,h2,h3⟩)
  ·refine⟨kY,?_⟩
   intro EZ;have YI:EZ=BP.alloc (.cells (h.1.push (.slice Fp (dd lp).length IQ)) bK):=by
    show BP.alloc (.cells ((h.1.push (.slice Fp (dd lp).length IQ)).toList++ []).toArray bK)=_
    rw [List.append_nil,Array.toArray_toList]
   have Gx:Kept Nil BP EZ:=(Kept.refl _ _).alloc _;have Ko:EZ.heap[BP.heap.size]? =some (.cells (h.1.push (.slice Fp (dd lp).length IQ)) bK (0,0)):=by rw [YI];exact aJ BP _
   clear_value EZ;refine⟨by rw [add_zero,ay (Gx.heap GZ (fun h=>h))];exact Ui,?_⟩;obtain⟨A1,c1,BO,news,ki,kP,Nf,ur⟩:=wC (pY.same Gx) (cx:=c) Me (by omega);have UB:=Nf.heap Ko (fun h=>h);obtain⟨A2,c2,Fw,iT,fI,Kk⟩:=wD kP (by omega) Nf.size UB kY (yn _ _ _ _);have RS:Kept Nil EZ Fw:=Kept.dF Nf Kk (fun k hk=>(Row.bC kP hk).1);have k43:Kept Nil BP Fw:=Gx.tt RS;refine⟨A1,_,c1,BO,ki,A2,_,c2,Fw,iT,?_⟩;exact Kl A2 c2 Fw news (Row.base fI fun k hk=>Nat.le_trans Gx.size (Row.bC fI hk).1) (Row.len kP) k43 (fun i nd hi=>by
    obtain⟨pA,pn,pc,h1,h2,h3⟩:=ur i nd hi;exact⟨pA,pn,pc,h1.same RS,h2,h3⟩)
end
theorem rj:∀ {l m:List HT},l.Nodup->(∀x∈l,x∈m)->l.length<=m.length
 | [],_,_,_=>Nat.zero_le _
 |x::l,m,hn,h=>by
  rw [List.nodup_cons]at hn;have hx:=h x (by simp);have:=rj (l:=l) (m:=m.erase x) hn.2 (fun y hy=>by
   have fg:y≠x:=fun e=>hn.1 (e▸hy);exact(List.mem_erase_of_ne fg).2 (h y (by simp [hy])))
  rw [List.length_erase_of_mem hx]at this;have im:0<m.length:=List.length_pos_of_mem hx;simp only [List.length_cons];omega
structure PB(w0 w':World)(D:DG)(l out:List HT)(A1:Option Addr)(c1:Nat)(A2:Option Addr)(c2:Nat):Prop where
 r1:bQ w' w0.heap.size A1 out.length c1 out
 r2:bQ w' w0.heap.size A2 (l.length+out.length) c2 (l++out)
 ap:∀k,a8 A1=some k->a8 A2≠some k
 nd:out.Nodup
 xw:∀x∈out,∃h∈l,eI D x h
 kp:Kept Nil w0 w'
section
variable{w w' kM:World}{F S:Nat->Prop}{D:DG}{l out:List HT}{A1 A2:Option Addr}{c1 c2 r:Nat}{K:Value->World->Prop}
theorem PB.same(h:PB w w' D l out A1 c1 A2 c2)(k:Kept Nil w' kM):PB w kM D l out A1 c1 A2 c2:=
 ⟨Row.aD h.r1 k (fun _ _ h=>h),Row.aD h.r2 k (fun _ _ h=>h),h.ap,h.nd,h.xw,h.kp.tt k⟩
theorem PB.len(h:PB w w' D l out A1 c1 A2 c2)(W:iS D):out.length<=D.length:=by
 rw [<-fc D];exact rj h.nd fun x hx=>by obtain⟨_,_,ha⟩:=h.xw x hx;exact(ha.mem W).1
theorem ja(w:World)(x:HT):HS (w.alloc (.cells (x.1.toList++ []).toArray aj)) (some ⟨w.heap.size,0,none⟩) 1 [x]:=by
 refine HS.one (t:=aj) (fr:=(0,0)) ?_;rw [List.append_nil,Array.toArray_toList];exact aJ w _
theorem PB.add(h:PB w w' D l out A1 c1 A2 c2){x:HT}(hx:x∉out)(ha:∃h∈l,eI D x h)(hb:l.length+out.length<=500000):
 ∃Iq zM v,(Builtin.append_ #[az,az] az #[.slice A1 out.length c1,.slice (some ⟨w'.heap.size,0,none⟩) 1 1]).run prog (w'.alloc (.cells (x.1.toList++ []).toArray aj))=.ok (.slice Iq (out.length+1) zM) v/\Kept (fun k=>w.heap.size<=k) w' v/\
 ∃Fk xM u,(Builtin.append_ #[az,az] az #[.slice A2 (l.length+out.length) c2,.slice (some ⟨v.heap.size,0,none⟩) 1 1]).run prog (v.alloc (.cells (x.1.toList++ []).toArray aj))=.ok (.slice Fk (l.length+out.length+1) xM) u/\
  PB w u D l (out++ [x]) Iq zM Fk xM:=by
 have hkw:=h.kp.size;have k1:Kept Nil w' (w'.alloc (.cells (x.1.toList++ []).toArray aj)):=(Kept.refl _ _).alloc _;have xc:=ja w' x;generalize w'.alloc (.cells (x.1.toList++ []).toArray aj)=w1 at k1 xc⊢;have r1:bQ w1 w.heap.size A1 out.length c1 out:=Row.aD h.r1 k1 (fun _ _ h=>h);have ag9:=k1.size;obtain⟨Iq,zM,v,ki,kP,hg1,xK⟩:=cF (cx:=1) az r1 xc (by omega) (by omega);have Yb:Kept (fun k=>a8 A1=some k) w1 v:=Kept.grown (Kept.refl _ _) hg1 (fun k hk _=>hk);have hA1:∀k,a8 A1=some k->w.heap.size<=k/\k<w'.heap.size:=fun k hk=>by
  obtain⟨h1,cur,hc⟩:=Row.bC h.r1 hk;exact⟨h1,aS hc⟩
 have Va:∀k,a8 A2=some k->w.heap.size<=k/\k<w'.heap.size:=fun k hk=>by
  obtain⟨h1,cur,hc⟩:=Row.bC h.r2 hk;exact⟨h1,aS hc⟩
 have kv:Kept (fun k=>w.heap.size<=k) w' v:=(k1.mono (fun _ _ h=>h.elim)).trans Yb (fun k _ e=>(hA1 k e).1);refine⟨Iq,zM,v,ki,kv,?_⟩;have k2:Kept Nil v (v.alloc (.cells (x.1.toList++ []).toArray aj)):=(Kept.refl _ _).alloc _;have AH:=ja v x;generalize v.alloc (.cells (x.1.toList++ []).toArray aj)=w2 at k2 AH⊢;have r2v:bQ v w.heap.size A2 (l.length+out.length) c2 (l++out):=Row.aD (Row.aD h.r2 k1 (fun _ _ h=>h)) Yb (fun k hk e=>h.ap k e hk);have r2:bQ w2 w.heap.size A2 (l.length+out.length) c2 (l++out):=Row.aD r2v k2 (fun _ _ h=>h);have NU:=Yb.size;have ag6:=k2.size;obtain⟨Fk,xM,u,iT,fI,Kk,lS⟩:=cF (cx:=1) az r2 AH (by omega) (by omega);have ku:Kept (fun k=>a8 A2=some k) w2 u:=Kept.grown (Kept.refl _ _) Kk (fun k hk _=>hk);have abt:∀k,a8 Iq=some k->k<v.heap.size:=fun k hk=>by
  obtain⟨_,cur,hc⟩:=Row.bC kP hk;exact aS hc
 have UL:∀k,a8 Iq=some k->a8 A2≠some k:=fun k hk e=>by
  rcases xK k hk with h'|h'
  ·exact h.ap k h' e
  ·have:=(Va k e).2;omega
 have Ra:bQ u w.heap.size Iq (out.length+1) zM (out++ [x]):=Row.aD (Row.aD kP k2 (fun _ _ h=>h)) ku (fun k hk e=>UL k hk e);refine⟨Fk,xM,u,iT,?_⟩;refine⟨?_,?_,fun k hk e=>?_,?_,fun y hy=>?_,?_⟩
 ·rw [List.length_append];exact Ra
 ·rw [List.length_append,<-List.append_assoc,List.length_singleton,<-Nat.add_assoc];exact fI
 ·rcases lS k e with h'|h'
  ·exact UL k hk h'
  ·have:=abt k hk;omega
 ·rw [List.nodup_append]
  exact⟨h.nd,by simp,fun u hu v hv e=>hx (by rw [List.mem_singleton]at hv;rw [<-hv,<-e];exact hu)⟩
 ·rw [List.mem_append,List.mem_singleton]at hy
  rcases hy with hy|rfl
  ·exact h.xw y hy
  ·exact ha
 ·exact((h.kp.trans kv (fun k hk e=>absurd hk (by omega))).tt k2).trans ku (fun k hk e=>absurd (Va k e).1 (by omega))
theorem DL(W:iS D){l out:List HT}(ha:∀x∈out,∃h∈l,eI D x h)(hc:∀h∈l++out,∀p,mL D p h->p∈out):dd out=dL D l:=by
 refine Cg fun a=>⟨fun h=>?_,fun⟨_,h,hl,han⟩=>?_⟩
 ·obtain⟨b,hb,lD⟩:=ha a h
  exact⟨(lD.mem W).1,b,hb,lD⟩
 ·have key:∀ {a h},eI D a h->h∈l++out->a∈out:=by
   intro a h han
   induction han with
   |one hp=>exact fun hm=>hc _ hm _ hp
   |more _ hp ih=>exact fun hm=>ih (by rw [List.mem_append];exact .inr (hc _ hm _ hp))
  exact key han (by rw [List.mem_append];exact .inl hl)
theorem ym(H:sW w F r D)(W:iS D)(hD:D.length<=10000){A:Option Addr}{n c:Nat}(hl:HS w A n l)(hn:n<=10000)
 (hK:∀A' c' w',bQ w' w.heap.size A' (dL D l).length c' (dL D l)->Kept Nil w w'->K (.slice A' (dL D l).length c') w'):
 bj prog aF.id #[.pointer (some ⟨r,0,none⟩),.slice A n c] w K:=by
 refine aF.of ?_;unfold aF.W;have hlen:=hl.len;obtain⟨A4,c4,w4,xG,jn,CQ,qT⟩:=cF (cx:=c) az (bQ.nil w w.heap.size) hl (by omega) (Nat.le_refl _);rw [Nat.zero_add]at xG jn;rw [List.nil_append]at jn;have k4:Kept Nil w w4:=Kept.dF (Kept.refl _ _) CQ (fun k hk=>by cases hk);refine⟨A4,n,c4,w4,xG,?_⟩;refine aF.b7 (I:=fun s w'=>∃(i:Nat) (out:List HT) (A1:Option Addr) (c1:Nat) (A2:Option Addr) (c2:Nat),s=(A1,out.length,c1,A2,n+out.length,c2,(i:Int))/\PB w w' D l out A1 c1 A2 c2/\i<=n+out.length/\∀h∈(l++out).take i,∀p,mL D p h->p∈out)
  (μ:=fun s _=>((n:Int)+D.length-s.2.2.2.2.2.2).toNat) (s:=(none,0,0,A4,n,c4,0))
  ⟨0,[],none,0,A4,c4,by simp,⟨bQ.nil _ _,by simpa [hlen]using jn,(fun k hk=>by cases hk),List.Pairwise.nil,by simp,k4⟩,by omega,by simp⟩ ?_
 rintro s w' ⟨i,out,A1,c1,A2,c2,rfl,AO,hi,pG⟩;have hol:=AO.len W;have iT:=AO.r2;rw [hlen]at iT;refine Split.dec (fun iU=>?_) (fun fU=>?_)
 ·simp only at iU
  have dW:i<n+out.length:=by omega
  obtain⟨h,hh⟩:∃h,(l++out)[i]? =some h:=⟨_,List.getElem?_eq_getElem (by simp;omega)⟩;refine iT.hs.load (i:=(i:Int)) (by omega) hh (oy (H.same AO.kp) (by omega) h fun lN uW=>⟨_,rfl,Split.dec (fun yW=>?_) (fun im=>?_)⟩)
  ·simp only
   rw [dh (n:=(i:Int)) (by omega) (by omega)];refine⟨(A1,out.length,c1,A2,n+out.length,c2,(i:Int)+1),rfl,⟨i+1,out,A1,c1,A2,c2,rfl,AO.same uW,by omega,fun x hx p hp=>?_⟩,by simp only;omega⟩;rcases(bG hh).1 hx with hx|rfl
   ·exact pG x hx p hp
   ·exact absurd (eI.mem W (.one hp)).2 (qO.1 yW)
  ·have gR:h∈ids D:=rM.1 (by omega)
   obtain⟨nd,h1,h2,h3⟩:=KK gR;have CH:=AO.same uW;have H13:=H.same CH.kp;have AZ:∃b∈l,h=b\/eI D h b:=by
    have hm:=List.mem_of_getElem? hh;rw [List.mem_append]at hm;rcases hm with hm|hm
    ·exact⟨h,hm,.inl rfl⟩
    ·obtain⟨b,hb,lD⟩:=AO.xw h hm
     exact⟨b,hb,.inr lD⟩
   have kV:∀p,mL D p h↔p∈nd.ps:=fun p=>by
    constructor
    ·rintro⟨md,uY,e,hp⟩
     obtain⟨j,hj⟩:=List.mem_iff_getElem?.1 uY;have:=W.inj hj h2 (by rw [e,h3]);subst this;rw [h2]at hj;cases hj;exact hp
    ·exact fun hp=>⟨nd,List.mem_of_getElem? h2,h3,hp⟩
   have nz:nd.ps.length<=D.length:=by
    rw [<-fc D];exact rj (W.ss nd (List.mem_of_getElem? h2)).nodup fun x hx=>(eI.mem W (.one ((kV x).2 hx))).1
   refine H.go' CH.kp fun A c pY=>pY.ps' CH.kp h1 h2 fun pA pn pc mQ=>?_;have Hg:=mQ.len;refine aF.gw (I:=fun s w'=>∃(k:Nat) (lW:List HT) (A1:Option Addr) (c1:Nat) (A2:Option Addr) (c2:Nat),s=(A1,lW.length,c1,A2,n+lW.length,c2,(k:Int))/\PB w w' D l lW A1 c1 A2 c2/\k<=pn/\(∃m,lW=out++m)/\(∀p∈nd.ps.take k,p∈lW))
    (μ:=fun s _=>((pn:Int)-s.2.2.2.2.2.2).toNat) (s:=(A1,out.length,c1,A2,n+out.length,c2,0)) ⟨0,out,A1,c1,A2,c2,rfl,CH,Nat.zero_le _,⟨[],by simp⟩,by simp⟩ ?_
   rintro s w1 ⟨k,lW,B1,d1,B2,d2,rfl,hq,hk,⟨m,hm⟩,fz⟩;have ahl:=hq.len W;refine Split.dec (fun OD=>?_) (fun OL=>?_)
   ·simp only at OD
    have AS:k<pn:=by omega
    obtain⟨p,hp⟩:∃p,nd.ps[k]? =some p:=⟨_,List.getElem?_eq_getElem (by omega)⟩;have SL:=List.mem_of_getElem? hp;refine(mQ.same hq.kp).load (i:=(k:Int)) (by omega) hp (rh p hq.r1.hs (by simp only;omega) fun vH D9=>⟨_,rfl,?_⟩);have JT:=hq.same D9;have ahi:(nd.ps.length:Int)<=10000:=by omega
    by_cases vp:p∈lW
    ·refine Split.no (by rw [decide_eq_true vp];rfl) ?_
     simp only;rw [dh (n:=(k:Int)) (by omega) (by omega)];refine⟨(B1,lW.length,d1,B2,n+lW.length,d2,(k:Int)+1),rfl,⟨k+1,lW,B1,d1,B2,d2,rfl,JT,AS,⟨m,hm⟩,fun q yV=>?_⟩,by simp only;omega⟩;rcases(bG hp).1 yV with yV|rfl
     ·exact fz q yV
     ·exact vp
    ·refine Split.yes (by rw [decide_eq_false vp];rfl) ?_
     have UM:∃b∈l,eI D p b:=by
      obtain⟨b,hb,e|e⟩:=AZ
      ·subst e;exact⟨_,hb,.one ((kV p).2 SL)⟩
      ·exact⟨b,hb,eI.trans (.one ((kV p).2 SL)) e⟩
     obtain⟨Iq,zM,v,ki,kv,Fk,xM,u,JR,hqu⟩:=JT.add vp UM (by omega);rw [hlen]at JR;refine(mQ.same JT.kp).load (i:=(k:Int)) (by omega) hp ⟨p.2.1,?_⟩;refine⟨Iq,_,zM,v,ki,?_⟩;have M0:Kept Nil w v:=JT.kp.trans kv (fun k hk e=>absurd hk (by omega));refine(mQ.same M0).load (i:=(k:Int)) (by omega) hp ⟨p.2.1,?_⟩;refine⟨Fk,_,xM,u,JR,?_⟩;simp only;rw [dh (n:=(k:Int)) (by omega) (by omega)];have e1:lW.length+1=(lW++ [p]).length:=by simp
     rw [e1,show n+lW.length+1=n+(lW++ [p]).length by simp;omega];refine⟨(Iq,(lW++ [p]).length,zM,Fk,n+(lW++ [p]).length,xM,(k:Int)+1),rfl,⟨k+1,lW++ [p],Iq,zM,Fk,xM,rfl,hqu,AS,⟨m++ [p],by rw [hm];simp⟩,fun q yV=>?_⟩,by simp only;omega⟩;rw [List.mem_append,List.mem_singleton];rcases(bG hp).1 yV with yV|rfl
     ·exact .inl (fz q yV)
     ·exact .inr rfl
   ·simp only at OL
    rw [aQ,aF.jA];unfold aF.gU;rw [dh (n:=(i:Int)) (by omega) (by omega)];rw [List.take_of_length_le (by omega)]at fz;refine⟨(B1,lW.length,d1,B2,n+lW.length,d2,(i:Int)+1),rfl,⟨i+1,lW,B1,d1,B2,d2,rfl,hq,by rw [hm];simp;omega,fun x hx q GW=>?_⟩,by simp only;omega⟩;have Z7:(l++lW)[i]? =some h:=by
     rw [hm,<-List.append_assoc,List.getElem?_append_left (lgeS hh).1];exact hh
    rcases(bG Z7).1 hx with hx|rfl
    ·have Wm:x∈(l++out).take i:=by
      rw [hm,<-List.append_assoc,List.take_append_of_le_length (by simp;omega)]at hx;exact hx
     rw [hm,List.mem_append];exact .inl (pG x Wm q GW)
    ·exact fz q ((kV q).1 GW)
 ·simp only at fU
  have Z2:i=n+out.length:=by omega
  rw [aQ,aF.c8];rw [List.take_of_length_le (by simp;omega)]at pG;have e:=DL W AO.xw pG;refine pN AO.r1.hs (by simp only;omega) fun A' c' w2 row k2=>⟨A',_,c',rfl,?_⟩;rw [e]at row⊢;exact hK A' c' w2 (Row.base row fun b hb=>Nat.le_trans AO.kp.size (Row.bC row hb).1) (AO.kp.tt k2)
end
section
variable{w w' kM:World}{F S:Nat->Prop}{D:DG}{is:HT->Prop}{i:Nat}{l out:List HT}{A:Option Addr}{c r:Nat}{K:Value->World->Prop}
theorem pO(H:sW w F r D)(W:iS D)(hD:D.length<=10000)(a b:HT)(hK:∀w' (x:Bool),(x=true↔eI D a b)->Kept Nil w w'->K (.bool x) w'):
 bj prog dB.id #[.pointer (some ⟨r,0,none⟩),.agg a.1,.agg b.1] w K:=by
 refine dB.of ?_;unfold dB.W;intro w4 w5 w6;have k4:Kept Nil w w4:=(Kept.refl _ _).alloc _;have xi:w4.heap[w.heap.size]? =some (.cells a.1 aj (0,0)):=aJ w _;have k5:Kept Nil w4 w5:=(Kept.refl _ _).alloc _;have mZ:w5.heap[w4.heap.size]? =some (.cells b.1 aj (0,0)):=aJ w4 _;have k6:Kept Nil w5 w6:=(Kept.refl _ _).drew;have vt:=k6.heap (k5.heap xi (fun h=>h)) (fun h=>h);have pv:=k6.heap mZ (fun h=>h);have X4:Kept Nil w w6:=(k4.tt k5).tt k6;clear_value w6;refine⟨a.1,⟨a.2.1,Cells.bC vt⟩,oy (H.same X4) (by omega) a fun w9 k9=>⟨_,rfl,Split.dec (fun fU=>?_) (fun Ot=>?_)⟩⟩
 ·have ha9:=k9.heap vt (fun h=>h)
  have Ry:Kept Nil w w9:=X4.tt k9;refine⟨b.1,⟨b.2.1,Cells.bC (k9.heap pv (fun h=>h))⟩,a.1,⟨a.2.1,Cells.bC ha9⟩,b.2.1,?_⟩;intro lN;have uW:Kept Nil w9 lN:=(Kept.refl _ _).alloc _;have jh:HS lN (some ⟨w9.heap.size,0,none⟩) 1 [b]:=ja w9 b;clear_value lN;have RC:Kept Nil w lN:=Ry.tt uW;have UP:=uW.heap ha9 (fun h=>h);refine⟨⟨a.1,rfl,a.2.1,Cells.bC UP⟩,ym (H.same RC) W hD jh (by omega) fun A15 c15 mn Rb sg=>⟨A15,_,c15,rfl,?_⟩⟩;have nz:=mv D fun x=>∃h∈ [b],eI D x h;refine⟨⟨a.1,rfl,a.2.1,Cells.bC (sg.heap UP (fun h=>h))⟩,rh a Rb.hs (by unfold dL;omega) fun vI Iy=>⟨_,rfl,?_⟩⟩;refine hK vI _ ?_ ((RC.tt sg).tt Iy);rw [decide_eq_true_iff];unfold dL;rw [iY];constructor
  ·rintro⟨_,h,hh,ha⟩
   rw [List.mem_singleton]at hh;subst hh;exact ha
  ·intro ha
   exact⟨(ha.mem W).1,b,by simp,ha⟩
 ·refine hK w9 false ?_ (X4.tt k9)
  constructor
  ·intro h;cases h
  ·intro ha;exact absurd (rM.2 (ha.mem W).1) Ot
theorem Ga(W:iS D){j:Nat}{nd:DN}(h2:D[j]? =some nd)(p:HT):mL D p nd.id↔p∈nd.ps:=by
 constructor
 ·rintro⟨md,uY,e,hp⟩
  obtain⟨k,hk⟩:=List.mem_iff_getElem?.1 uY;have:=W.inj hk h2 e;subst this;rw [h2]at hk;cases hk;exact hp
 ·exact fun hp=>⟨nd,List.mem_of_getElem? h2,rfl,hp⟩
theorem DH(H:sW w F r D)(W:iS D)(hD:D.length<=10000)(a b:HT)(hK:∀w' (x:Bool),(x=true↔a≠b/\¬eI D a b/\¬eI D b a)->Kept Nil w w'->K (.bool x) w'):
 bj prog dO.id #[.pointer (some ⟨r,0,none⟩),.agg a.1,.agg b.1] w K:=by
 refine dO.of ?_;unfold dO.W;intro w4 w5;have k4:Kept Nil w w4:=(Kept.refl _ _).alloc _;have xi:w4.heap[w.heap.size]? =some (.cells a.1 aj (0,0)):=aJ w _;have k5:Kept Nil w4 w5:=(Kept.refl _ _).alloc _;have mZ:w5.heap[w4.heap.size]? =some (.cells b.1 aj (0,0)):=aJ w4 _;have Ff:=k5.heap xi (fun h=>h);have K6:Kept Nil w w5:=k4.tt k5;clear_value w5;refine⟨a.1,⟨a.2.1,Cells.bC Ff⟩,b.1,⟨b.2.1,Cells.bC mZ⟩,⟨a.2.ints,b.2.ints⟩,?_⟩;rw [dz];by_cases e:a=b
 ·refine Split.no (by rw [decide_eq_true e];rfl) ?_
  exact hK w5 false (by simp [e]) K6
 ·refine Split.yes (by rw [decide_eq_false e];rfl) ?_
  refine⟨a.1,⟨a.2.1,Cells.bC Ff⟩,b.1,⟨b.2.1,Cells.bC mZ⟩,pO (H.same K6) W hD a b fun vK x hx IA=>⟨x,rfl,?_⟩⟩;cases x with
  |true=>
   refine Split.no rfl ?_;exact hK vK false (by simp [hx.1 rfl]) (K6.tt IA)
  |false=>
   refine Split.yes rfl ?_;have hn:¬eI D a b:=fun h=>by have:=hx.2 h;cases this
   have RD:=K6.tt IA;refine⟨b.1,⟨b.2.1,Cells.bC (IA.heap mZ (fun h=>h))⟩,a.1,⟨a.2.1,Cells.bC (IA.heap Ff (fun h=>h))⟩,pO (H.same RD) W hD b a fun jk y hy nv=>⟨y,rfl,?_⟩⟩;refine hK jk _ ?_ (RD.tt nv);rw [Bool.not_eq_true',<-Bool.not_eq_true,hy];exact⟨fun h=>⟨e,hn,h⟩,fun h=>h.2.2⟩
end
structure NM where
 b:Nat
 pA:Option Addr
 pn:Nat
 pc:Nat
 cA:Option Addr
 cn:Nat
 cc:Nat
 rA:Option Addr
 rn:Nat
 rc:Nat
 ws:List Nat
def fD(h:HT)(m:NM):Array Value:=h.1++ #[.slice m.pA m.pn m.pc,.slice m.cA m.cn m.cc,.slice m.rA m.rn m.rc]
theorem tX(h:HT)(m:NM):(fD h m).size=35:=by unfold fD;rw [Array.size_append,h.2.1];rfl
theorem Ge(h:HT)(m:NM){j:Nat}{v:Value}(hj:h.1[j]? =some v):(fD h m)[j]? =some v:=by
 unfold fD;rw [Array.getElem?_append_left (Array.getElem?_eq_some_iff.1 hj).1];exact hj
theorem Gf(h:HT)(m:NM):(fD h m)[33]? =some (.slice m.cA m.cn m.cc):=by
 unfold fD;rw [Array.getElem?_append_right (by rw [h.2.1];omega),h.2.1];rfl
theorem yy(h:HT)(m:NM):(fD h m)[34]? =some (.slice m.rA m.rn m.rc):=by
 unfold fD;rw [Array.getElem?_append_right (by rw [h.2.1];omega),h.2.1];rfl
theorem DT{h h':HT}{m m':NM}(e:fD h m=fD h' m'):h=h':=by
 apply Subtype.ext;have h1:=h.2.1;have h2:=h'.2.1;have:=congrArg (fun a:Array Value=>a.toList.take 32) e;unfold fD at this;simp only [Array.toList_append]at this;rw [List.take_left' (by simpa using h1),List.take_left' (by simpa using h2)]at this;exact Array.ext' this
structure qa(w:World)(S F:Nat->Prop)(D:DG)(ch:List HT)(nd:DN)(m:NM):Prop where
 bC:w.heap[m.b]? =some (.cells (fD nd.id m) dE (0,0))
 fK:S m.b
 ps:HS w m.pA m.pn nd.ps
 Ja:∀a,m.pA=some a->F a.block
 ch:bQ w 0 m.cA m.cn m.cc ch
 Pv:∀k,a8 m.cA=some k->S k
 past:US w m.rA m.rn m.ws
 oD:∀a,m.rA=some a->F a.block
 ok:okW m.ws
 bits:∀j,bit m.ws j=true↔∃nj,D[j]? =some nj/\eI D nj.id nd.id
 small:m.rn<=200
structure GV(w:World)(S F:Nat->Prop)(g:Nat)(D:DG)(C:HT->List HT)(bl c mb:Nat)(M:List NM):Prop where
 top:w.heap[g]? =some (.cells #[.slice (some ⟨bl,0,none⟩) D.length c,.map (some mb)] gE (0,0))
 row:Row w 0 eU 1 (some ⟨bl,0,none⟩) D.length c (M.map fun m=>.pointer (some ⟨m.b,0,none⟩))
 map:IsMap w mb (ids D)
 len:M.length=D.length
 node:∀(i:Nat) nd m,D[i]? =some nd->M[i]? =some m->qa w S F D (C nd.id) nd m
 apart:∀(i j:Nat) m m',M[i]? =some m->M[j]? =some m'->i≠j->∀k,a8 m.cA=some k->a8 m'.cA≠some k
 gK:S g
 sk:S bl
 uB:S mb
 tk:∀k,S k->¬F k
 low:∀k,S k\/F k->k<w.heap.size
def BJ(w:World)(S F:Nat->Prop)(g:Nat)(D:DG):Prop:=∃bl c mb M,GV w S F g D (fX D) bl c mb M
section
variable{w w':World}{S F S' F':Nat->Prop}{g bl c mb:Nat}{D:DG}{C:HT->List HT}{M:List NM}{K:Value->World->Prop}
theorem qa.aD{ch:List HT}{nd:DN}{m:NM}{S0:Nat->Prop}(h:qa w S F D ch nd m)(hk:Kept S0 w w')(hS:∀k,S k->¬S0 k)(hF:∀k,F k->¬S0 k):qa w' S F D ch nd m:=
 ⟨hk.heap h.bC (hS _ h.fK),h.fK,h.ps.aD hk (fun a ha=>hF _ (h.Ja a ha)),h.Ja,Row.aD h.ch hk (fun k hb=>hS k (h.Pv k hb)),h.Pv,h.past.aD hk (fun a ha=>hF _ (h.oD a ha)),h.oD,h.ok,h.bits,h.small⟩
theorem GV.aD{S0:Nat->Prop}(h:GV w S F g D C bl c mb M)(hk:Kept S0 w w')(hS:∀k,S k->¬S0 k)(hF:∀k,F k->¬S0 k):GV w' S F g D C bl c mb M:=
 ⟨hk.heap h.top (hS _ h.gK),Row.aD h.row hk (fun k e=>by cases e;exact hS _ h.sk),h.map.aD hk (hS _ h.uB),h.len,fun i nd m h1 h2=>(h.node i nd m h1 h2).aD hk hS hF,h.apart,h.gK,h.sk,h.uB,h.tk,fun k nC=>Nat.lt_of_lt_of_le (h.low k nC) hk.size⟩
theorem GV.same(h:GV w S F g D C bl c mb M)(hk:Kept Nil w w'):GV w' S F g D C bl c mb M:=h.aD hk (fun _ _ h=>h) (fun _ _ h=>h)
theorem BJ.aD{S0:Nat->Prop}(h:BJ w S F g D)(hk:Kept S0 w w')(hS:∀k,S k->¬S0 k)(hF:∀k,F k->¬S0 k):BJ w' S F g D:=let ⟨bl,c,mb,M,h⟩:=h;⟨bl,c,mb,M,h.aD hk hS hF⟩
theorem BJ.same(h:BJ w S F g D)(hk:Kept Nil w w'):BJ w' S F g D:=h.aD hk (fun _ _ h=>h) (fun _ _ h=>h)
theorem GV.get(h:GV w S F g D C bl c mb M){i:Nat}{nd:DN}(hi:D[i]? =some nd):∃m,M[i]? =some m/\qa w S F D (C nd.id) nd m:=by
 have:=(lgeS hi).1;have hl:=h.len;exact⟨M[i],List.getElem?_eq_getElem (by omega),h.node i nd _ hi (List.getElem?_eq_getElem (by omega))⟩
theorem GV.nodes(h:GV w S F g D C bl c mb M):w.cell? ((⟨g,0,none⟩:Addr).add 0)=some (.slice (some ⟨bl,0,none⟩) D.length c):=by rw [add_zero,ay h.top];rfl
theorem GV.at_(h:GV w S F g D C bl c mb M):w.cell? ((⟨g,0,none⟩:Addr).add 1)=some (.map (some mb)):=by rw [a7,ay h.top];rfl
theorem GV.ptr(h:GV w S F g D C bl c mb M){i:Nat}{m:NM}(hm:M[i]? =some m):w.cell? ((⟨bl,0,none⟩:Addr).add (i*1))=some (.pointer (some ⟨m.b,0,none⟩)):=by
 rw [a7,Nat.zero_add,Nat.mul_one];exact Row.cell h.row (by rw [List.getElem?_map,hm];rfl)
theorem wv(h:GV w S F g D C bl c mb M)(hK:K (.bool true) w):bj prog fG.id #[.pointer (some ⟨g,0,none⟩)] w K:=
 fG.of (Split.yes rfl ⟨some mb,h.at_,hK⟩)
def Found(D:DG)(M:List NM)(h:HT)(x:Option Addr):Prop:=(x=none/\h∉ids D)\/∃(i:Nat) (nd:DN) (m:NM),D[i]? =some nd/\nd.id=h/\M[i]? =some m/\x=some ⟨m.b,0,none⟩
theorem Found.isSome{h:HT}{x:Option Addr}(f:Found D M h x):(!x.isNone)=decide (h∈ids D):=by
 rcases f with⟨rfl,hn⟩|⟨i,nd,m,h1,h2,_,rfl⟩
 ·rw [decide_eq_false hn];rfl
 ·rw [decide_eq_true (cU.2 ⟨nd,List.mem_of_getElem? h1,h2⟩)];rfl
theorem uI(G:GV w S F g D C bl c mb M)(h:HT)(hK:∀w' x,Kept Nil w w'->Found D M h x->K (.pointer x) w'):
 bj prog fC.id #[.pointer (some ⟨g,0,none⟩),.agg h.1] w K:=by
 refine fC.of ?_;unfold fC.W;intro w3;have k3:Kept Nil w w3:=(Kept.refl _ _).alloc _;have pe:w3.heap[w.heap.size]? =some (.cells h.1 aj (0,0)):=aJ w _;clear_value w3;refine wv (G.same k3) ⟨true,rfl,Split.yes rfl ?_⟩;intro w7;have k7:Kept Nil w3 w7:=(Kept.refl _ _).drew;clear_value w7;have kw:Kept Nil w w7:=k3.tt k7;have G7:=G.same kw;refine⟨some mb,G7.at_,h.1,⟨h.2.1,Cells.bC (k7.heap pe (fun h=>h))⟩,_,_,G7.map.look h,?_⟩;cases hp:pos h (ids D) 0 with
 |none=>exact Split.no rfl (hK w7 none kw (.inl ⟨rfl,oC.1 hp⟩))
 |some i=>
  obtain⟨_,hi⟩:=tO hp;obtain⟨nd,h1,h2⟩:=GU hi;rw [Nat.sub_zero]at h1;obtain⟨m,hm,_⟩:=G7.get h1;have dW:=(lgeS h1).1;refine Split.yes rfl ⟨_,_,_,G7.nodes,⟨by simp,by simp only [Option.getD_some];omega⟩,some ⟨m.b,0,none⟩,?_,hK w7 _ kw (.inr ⟨i,nd,m,h1,h2,hm,rfl⟩)⟩;rw [Option.getD_some,Int.toNat_natCast];exact G7.ptr hm
theorem tl(G:GV w S F g D C bl c mb M)(h:HT)(hK:∀w',Kept Nil w w'->K (.bool (decide (h∈ids D))) w'):
 bj prog fP.id #[.pointer (some ⟨g,0,none⟩),.agg h.1] w K:=by
 refine fP.of ?_;unfold fP.W;intro w3;have k3:Kept Nil w w3:=(Kept.refl _ _).alloc _;have pe:w3.heap[w.heap.size]? =some (.cells h.1 aj (0,0)):=aJ w _;clear_value w3;refine⟨h.1,⟨h.2.1,Cells.bC pe⟩,uI (G.same k3) h fun w6 x k6 hx=>⟨x,rfl,?_⟩⟩;rw [hx.isSome];exact hK w6 (k3.tt k6)
end
section
variable{w w':World}{S F:Nat->Prop}{g bl c mb:Nat}{D:DG}{C:HT->List HT}{M:List NM}{K:Value->World->Prop}
end
section
variable{w w':World}{S F:Nat->Prop}{g bl c mb:Nat}{D:DG}{C:HT->List HT}{M:List NM}{K:Value->World->Prop}
theorem Br{A:Option Addr}{n c:Nat}{l:List HT}(hl:HS w A n l)(hn:n<=400000)(hK:∀A' c' w',bQ w' w.heap.size A' n c' l->Kept Nil w w'->K (.slice A' n c') w'):
 bj prog cQ.id #[.slice A n c] w K:=by
 refine cQ.of ?_;cases A with
 |none=>
  obtain⟨rfl,rfl⟩:=hl.none;exact Split.yes rfl (hK none 0 w (bQ.nil _ _) (Kept.refl _ _))
 |some a=>
  refine Split.no rfl ?_;intro w2;have k2:Kept Nil w w2:=(Kept.refl _ _).alloc _;have r0:bQ w2 w.heap.size (some ⟨w.heap.size,0,none⟩) 0 0 []:=Row.made (n:=0) (cur:= #[]) (aJ w _) (Nat.le_refl _) rfl (Nat.zero_le _);clear_value w2;obtain⟨A',c',w4,hr,row,hg,_⟩:=cF (cx:=c) az r0 (hl.same k2) (by omega) k2.size;rw [Nat.zero_add]at hr row;rw [List.nil_append]at row;exact⟨A',n,c',w4,hr,hK A' c' w4 row (Kept.dF k2 hg (fun k hk=>by cases hk;exact Nat.le_refl _))⟩
theorem vS{D:DG}{nd:DN}{m:NM}{ch:List HT}(N:qa w S F D ch nd m):w.cell? ((⟨m.b,0,none⟩:Addr).add 34)=some (.slice m.rA m.rn m.rc):=by
 rw [a7,Nat.zero_add,ay N.bC];exact yy _ _
theorem Ck{D:DG}{nd:DN}{m:NM}{ch:List HT}(N:qa w S F D ch nd m):w.cell? ((⟨m.b,0,none⟩:Addr).add 33)=some (.slice m.cA m.cn m.cc):=by
 rw [a7,Nat.zero_add,ay N.bC];exact Gf _ _
end
def nN(D:DG)(j:Nat):HT:=match D[j]? with|some nd=>nd.id|none=>default
theorem tT:∀(ws:List Nat) (k:Nat),okW ws->(oF k ws).Nodup
 | [],_,_=>List.Pairwise.nil
 |x::ws,k,ho=>by
  have hx:=ho x (by simp);have IG:okW ws:=fun y hy=>ho y (by simp [hy]);obtain⟨_,h2,h3⟩:=vW x hx;rw [oF,List.nodup_append];refine⟨List.Pairwise.map _ (fun a b lD e=>lD (by omega)) h2,tT ws (k+1) IG,fun a ha b hb e=>?_⟩;rw [List.mem_map]at ha;obtain⟨t,ht,rfl⟩:=ha;have:=((oI ws (k+1) b IG).1 hb).1;have:=h3 t ht;omega
section
variable{w w':World}{S F:Nat->Prop}{g bl c mb:Nat}{D:DG}{C:HT->List HT}{M:List NM}{K:Value->World->Prop}
theorem uJ(G:GV w S F g D C bl c mb M)(W:iS D)(hD:D.length<=10000)(hT:rQ w){A:Option Addr}{n cx:Nat}{l:List HT}(hl:HS w A n l)(hn:n<=10000)
 (hK:∀A' c' w',bQ w' w.heap.size A' (dL D l).length c' (dL D l)->Kept Nil w w'->K (.slice A' (dL D l).length c') w'):
 bj prog aP.id #[.pointer (some ⟨g,0,none⟩),.slice A n cx] w K:=by
 have hlen:=hl.len;refine aP.of ?_;unfold aP.W;intro w3;have k3:Kept Nil w w3:=(Kept.refl _ _).alloc _;have TW:w3.heap[w.heap.size]? =some (.cells #[.pointer (some ⟨g,0,none⟩)] jY (0,0)):=aJ w _;have AG:w.heap.size<w3.heap.size:=aS TW;clear_value w3;refine aP.b7 (I:=fun s w'=>∃(i:Nat) (A':Option Addr) (n' c':Nat) (ws:List Nat),s=(A',n',c',(i:Int))/\i<=n/\jQ w' w3.heap.size A' n' c' ws/\okW ws/\n'<=200/\(∀j,bit ws j=true↔∃h∈l.take i,∃nj,D[j]? =some nj/\eI D nj.id h)/\Kept Nil w3 w')
  (μ:=fun s _=>((n:Int)-s.2.2.2).toNat) (s:=(none,0,0,0)) ⟨0,none,0,0,[],rfl,Nat.zero_le _,Row.nil _ _ _ _,by simp [okW],by omega,by simp [xo],Kept.refl _ _⟩ ?_
 rintro s w' ⟨i,A',n',c',ws,rfl,hi,row,ho,ZF,pr,kw⟩;have kk:Kept Nil w w':=k3.tt kw;refine Split.dec (fun iU=>?_) (fun fU=>?_)
 ·simp only at iU
  have dW:i<n:=by omega
  obtain⟨h,hh⟩:∃h,l[i]? =some h:=⟨_,List.getElem?_eq_getElem (by omega)⟩;refine(hl.same kk).load (i:=(i:Int)) (by omega) hh ?_;intro lQ;obtain⟨sH,jh,jB⟩:=gM (w:=w') (z:=(#[.int .u8 0,.int .u8 0,.int .u8 0,.int .u8 0,.int .u8 0,.int .u8 0,.int .u8 0,.int .u8 0,.int .u8 0,.int .u8 0,.int .u8 0,.int .u8 0,.int .u8 0,.int .u8 0,.int .u8 0,.int .u8 0,.int .u8 0,.int .u8 0,.int .u8 0,.int .u8 0,.int .u8 0,.int .u8 0,.int .u8 0,.int .u8 0,.int .u8 0,.int .u8 0,.int .u8 0,.int .u8 0,.int .u8 0,.int .u8 0,.int .u8 0,.int .u8 0]:Array Value)) (cs:=h.1) (t:=aj) (by rw [h.2.1];rfl);refine⟨⟨h.2.1,h.2.one,fun j hj=>sH j (by rw [h.2.1];exact hj)⟩,?_⟩;intro mn
  replace jh:mn.heap[w'.heap.size]? =some (.cells h.1 aj (0,0)):=jh
  replace jB:Kept Nil w' mn:=jB
  clear_value mn;have sg:Kept Nil w3 mn:=kw.tt jB;refine⟨some ⟨g,0,none⟩,by rw [ay (sg.heap TW (fun h=>h))];rfl,h.1,⟨h.2.1,Cells.bC jh⟩,?_⟩;refine uI (G.same (k3.tt sg)) h fun nX x wg hx=>⟨x,rfl,?_⟩;have JC:Kept Nil w3 nX:=sg.tt wg;have Gp:Kept Nil w nX:=k3.tt JC;have vP:jQ nX w3.heap.size A' n' c' ws:=Row.aD row (jB.tt wg) (fun _ _ h=>h);rcases hx with⟨rfl,lZ⟩|⟨q,nd,m',hq,rfl,mc,rfl⟩
  ·refine Split.no rfl ?_
   simp only;rw [dh (n:=(i:Int)) (by omega) (by omega)];refine⟨(A',n',c',(i:Int)+1),rfl,⟨i+1,A',n',c',ws,rfl,dW,vP,ho,ZF,fun j=>?_,JC⟩,by simp only;omega⟩;rw [pr];constructor
   ·rintro⟨h',h1,h2⟩;exact⟨h',(bG hh).2 (.inl h1),h2⟩
   ·rintro⟨h',h1,nj,h2,h3⟩
    rcases(bG hh).1 h1 with h1|rfl
    ·exact⟨h',h1,nj,h2,h3⟩
    ·exact absurd (h3.mem W).2 lZ
  ·obtain⟨m,hm,N⟩:=(G.same Gp).get hq
   rw [mc]at hm;cases hm;refine Split.yes rfl ⟨_,_,_,vS N,?_⟩;have uX:=N.small;have Ev:∀k,a8 A'=some k->w3.heap.size<=k:=fun k hk=>(Row.bC vP hk).1;refine vN vP ho (by omega) JC.size N.past N.ok (by omega) (fun a ha k hk e=>?_) fun A2 n2 c2 l2 kW Q9 Zz Tk O4 pF Kp=>⟨A2,n2,c2,rfl,?_⟩
   ·have h1:=G.low a.block (.inr (N.oD a ha))
    have h2:=Ev k hk;omega
   ·simp only
    rw [dh (n:=(i:Int)) (by omega) (by omega)];refine⟨(A2,n2,c2,(i:Int)+1),rfl,⟨i+1,A2,n2,c2,l2,rfl,dW,Q9,Zz,by omega,fun j=>?_,JC.trans pF (fun k hk e=>absurd (Ev k e) (by omega))⟩,by simp only;omega⟩;rw [O4,Bool.or_eq_true,pr,N.bits];constructor
    ·rintro(⟨h',h1,h2⟩|h2)
     ·exact⟨h',(bG hh).2 (.inl h1),h2⟩
     ·exact⟨nd.id,(bG hh).2 (.inr rfl),h2⟩
    ·rintro⟨h',h1,h2⟩
     rcases(bG hh).1 h1 with h1|rfl
     ·exact .inl ⟨h',h1,h2⟩
     ·exact .inr h2
 ·simp only at fU
  have Z2:i=n:=by omega
  subst Z2;rw [List.take_of_length_le (by omega)]at pr;rw [aQ,aP.c8];unfold aP.cK;intro sY;have E7:Kept Nil w' sY:=(Kept.refl _ _).alloc _;have S8:sY.heap[w'.heap.size]? =some (.cells #[.slice none 0 0] az (0,0)):=aJ w' _;clear_value sY;refine jy.of ?_;unfold jy.W;intro mO;have zD:Kept Nil sY mO:=(Kept.refl _ _).alloc _;have JQ:mO.heap[sY.heap.size]? =some (.cells #[.slice A' n' c'] jW (0,0)):=aJ sY _;clear_value mO;refine⟨_,rfl,?_⟩;have S7:=zD.heap S8 (fun h=>h);have RV:Kept Nil w3 mO:=(kw.tt E7).tt zD;have Jr:Kept Nil w mO:=k3.tt RV;have yj:jQ mO w3.heap.size A' n' c' ws:=Row.aD (Row.aD row E7 (fun _ _ h=>h)) zD (fun _ _ h=>h);have OO:=RV.heap TW (fun h=>h);have Fa:w.heap.size<w'.heap.size:=Nat.lt_of_lt_of_le AG kw.size;have ag3:w'.heap.size<mO.heap.size:=aS S7;have ag4:sY.heap.size<mO.heap.size:=aS JQ;have Hh:∀j∈oF 0 ws,∃nj,D[j]? =some nj:=fun j hj=>by
   have:=((oI ws 0 j ho).1 hj).2;rw [Nat.mul_zero,Nat.sub_zero]at this;obtain⟨_,_,nj,h1,_⟩:=(pr j).1 this;exact⟨nj,h1⟩
  have xH:(oF 0 ws).length<=D.length:=by
   have:=tU (m:=List.range D.length) (tT ws 0 ho) (fun j hj=>by
    obtain⟨nj,h1⟩:=Hh j hj;exact List.mem_range.2 (lgeS h1).1)
   rwa [List.length_range]at this
  let xs:=oF 0 ws
  let ρ0:Env:= [(2,.pointer (some (⟨w.heap.size,0,none⟩:Addr))),(4,.slice none 0 0),(9,.pointer (some (⟨w'.heap.size,0,none⟩:Addr))),(30,.func (.func aH.id) #[] #[.pointer (some (⟨sY.heap.size,0,none⟩:Addr))])]
  let J:Nat->World->Prop:=fun i v=>∃A c,v.heap[w'.heap.size]? =some (.cells #[.slice A i c] az (0,0))/\bQ v mO.heap.size A i c ((xs.take i).map (nN D))/\Kept (· =w'.heap.size) mO v/\i<=xs.length
  have qD:∀i v,J i v->US v A' n' ws/\v.cell? ⟨sY.heap.size,0,none⟩=some (.slice A' n' c')/\rQ v:=by
   rintro i v ⟨A,c,h1,h2,h3,h4⟩;refine⟨yj.us.aD h3 (fun a ha e=>?_),by rw [ay (h3.heap JQ (by have:=aS S8;omega))];rfl,(hT.same Jr).aD h3 (fun e=>by have:=hT.lt;omega)⟩;have hk:a8 A'=some a.block:=by rw [ha];rfl
   obtain⟨_,cur,hc⟩:=Row.bC row hk;have:=aS hc;omega
  refine mV (ρ:=ρ0) (ρ0:=ρ0) ng mix aP.k (t:=30) (ps:= #[31]) (by kernel_rfl) (by decide) rfl aH.at_ rfl (.inl rfl) (fun i v _ h=>h) rfl encI xs (fun _=>rfl) (by simp [gB]) (Ic ⟨sY.heap.size,0,none⟩ (c:=c') (by omega) ho) J (fun _ _=>False) ?_ (fun _ _ _ _ _ h=>h.elim) qD ?_ ?_ ?_ (fun _ _ h=>h.elim) (fun _ _ _ h=>h.elim)
  ·rintro i v v' R qE ⟨A,c,h1,h2,h3,h4⟩ hk
   exact⟨A,c,hk.heap h1 (jX h1 qE.loop),Row.apart h2 hk (fun cs t fr h=>by rw [qE.loop]at h;cases h),h3.trans hk (fun k hk e=>by omega),h4⟩
  ·intro R
   exact⟨none,0,jK (jK S7 _) _,bQ.nil _ _,(((Kept.refl _ _).alloc _).alloc _),Nat.zero_le _⟩
  ·rintro i x v R hx hj qE
   have hJ:=hj;obtain⟨A,c,h1,h2,h3,h4⟩:=hj;have dW:i<xs.length:=(lgeS hx).1;have e7:kK ρ0 ((#[31]:Array Nat).toList.zip (encI x))= [(2,.pointer (some (⟨w.heap.size,0,none⟩:Addr))),(4,.slice none 0 0),(9,.pointer (some (⟨w'.heap.size,0,none⟩:Addr))),(30,.func (.func aH.id) #[] #[.pointer (some (⟨sY.heap.size,0,none⟩:Addr))]),(31,.int .i64 (x:Int))]:=rfl;rw [e7,aP.a1];unfold aP.A1;refine⟨qE,fun w2 R2 nA sM=>?_⟩;have CW:=nA.heap h1 (jX h1 qE.loop);have A9:bQ w2 mO.heap.size A i c ((xs.take i).map (nN D)):=Row.apart h2 nA (fun cs t fr h=>by rw [qE.loop]at h;cases h);have Vc:Kept (· =w'.heap.size) mO w2:=h3.trans nA (fun k hk e=>by omega);clear hJ h1 h2 h3;rw [aP.y1];unfold aP.Y1;intro Da;have Nc:Kept Nil w2 Da:=(Kept.refl _ _).drew;clear_value Da;have Vg:=Nc.heap CW (fun h=>h);have Cr:Kept (· =w'.heap.size) mO Da:=Vc.trans Nc (fun _ _ h=>h.elim);obtain⟨nj,LG⟩:=Hh x (List.mem_of_getElem? hx);have th:=(lgeS LG).1;have X1:Kept Nil w Da:=Jr.trans Cr (fun k hk e=>by omega);obtain⟨m,hm,N⟩:=(G.same X1).get LG;refine⟨A,i,c,by rw [ay Vg];rfl,some ⟨g,0,none⟩,by rw [ay (Cr.heap OO (by omega))];rfl,?_⟩;refine⟨_,_,_,(G.same X1).nodes,⟨by omega,by omega⟩,some ⟨m.b,0,none⟩,by rw [Int.toNat_natCast];exact(G.same X1).ptr hm,?_⟩;refine⟨nj.id.1,⟨nj.id.2.1,fun j v hj=>?_⟩,nj.id.2.1,?_⟩
   ·rw [add_zero,a7,Nat.zero_add,ay N.bC]
    exact Ge _ _ hj
   intro PR;have RR:Kept Nil Da PR:=(Kept.refl _ _).alloc _;have ja:HS PR (some ⟨Da.heap.size,0,none⟩) 1 [nj.id]:=ja Da nj.id;clear_value PR;have Ve:=RR.heap Vg (fun h=>h);refine⟨by rw [ay Ve];rfl,?_⟩;have Ku:bQ PR mO.heap.size A i c ((xs.take i).map (nN D)):=Row.aD (Row.aD A9 Nc (fun _ _ h=>h)) RR (fun _ _ h=>h);have Sl:mO.heap.size<=PR.heap.size:=Nat.le_trans Cr.size RR.size;have JJ:xs.length<=D.length:=xH;obtain⟨A2,c2,pJ,hr,vO,Kj,O5⟩:=cF (cx:=1) az Ku ja (by omega) Sl;have OK:Kept (fun k=>a8 A=some k) PR pJ:=Kept.grown (Kept.refl _ _) Kj (fun k hk _=>hk);have U8:∀k,a8 A=some k->mO.heap.size<=k:=fun k hk=>(Row.bC Ku hk).1;have Vd:=OK.heap Ve (fun e=>by have:=U8 _ e;omega);have ZT:Live (mO.heap.size+1) mO.heap.size R2 pJ:=by
    have Ov:=(sM.aD Nc (fun h=>h) (fun h=>h)).aD RR (fun h=>h) (fun h=>h);refine Ov.aD OK ?_ ?_
    ·intro h
     obtain⟨_,cur,hc⟩:=Row.bC Ku h;exact jX hc Ov.loop rfl
    ·intro h
     obtain⟨_,cur,hc⟩:=Row.bC Ku h;exact wS hc Ov.mark rfl
   refine⟨A2,_,c2,pJ,hr,dK Vd (by simp),?_⟩;intro Xu;have Yk:Kept (· =w'.heap.size) pJ Xu:=Kept.setCell (S:=fun k=>k=w'.heap.size) (Kept.refl _ pJ) (p:=⟨w'.heap.size,0,none⟩) (fun _=>rfl) _;have aaS:Xu.heap[w'.heap.size]? =some (.cells #[.slice A2 (i+1) c2] az (0,0)):=cS Vd 0 _;clear_value Xu;refine⟨ZT.aD Yk (by omega) (by omega),A2,c2,aaS,?_,((Cr.trans RR (fun _ _ h=>h.elim)).trans OK (fun k hk e=>absurd (U8 k e) (by omega))).tt Yk,dW⟩;have e:(xs.take (i+1)).map (nN D)=(xs.take i).map (nN D)++ [nj.id]:=by
    rw [List.take_add_one,hx];simp [nN,LG]
   rw [e];exact Row.aD vO Yk (fun k hk e=>by have:=(Row.bC vO hk).1;omega)
  ·rintro v R ⟨A,c,h1,h2,h3,h4⟩ qE
   have e7:gN ρ0 mO.heap.size= [(2,.pointer (some (⟨w.heap.size,0,none⟩:Addr))),(4,.slice none 0 0),(9,.pointer (some (⟨w'.heap.size,0,none⟩:Addr))),(30,.func (.func aH.id) #[] #[.pointer (some (⟨sY.heap.size,0,none⟩:Addr))]),(4294967296,.agg #[.pointer (some ⟨mO.heap.size,0,none⟩)])]:=rfl;rw [e7,aP.jS];rw [List.take_of_length_le (Nat.le_refl _)]at h2;have JJ:xs.length<=D.length:=xH;refine⟨A,xs.length,c,by rw [ay h1];rfl,iw h2.hs (by omega) fun A2 c2 Xt FZ Yj=>⟨A2,_,c2,rfl,⟨Yj.heap qE.mark (fun h=>h),trivial⟩,?_⟩⟩;have hmk:=Yj.heap qE.mark (fun h=>h);have kp:Kept (· =mO.heap.size) Xt (Xt.putObj mO.heap.size (.deferred none)):=Kept.putAt _ _ _;have e:dd (xs.map (nN D))=dL D l:=Cg fun a=>by
    rw [List.mem_map];constructor
    ·rintro⟨j,hj,rfl⟩
     have hb:=((oI ws 0 j ho).1 hj).2;rw [Nat.mul_zero,Nat.sub_zero]at hb;obtain⟨h',sj,nj,uv,CT⟩:=(pr j).1 hb;have:nN D j=nj.id:=by unfold nN;rw [uv]
     rw [this];exact⟨(CT.mem W).1,h',sj,CT⟩
    ·rintro⟨ha,h',Z7,AZ⟩
     obtain⟨nj,hnm,rfl⟩:=cU.1 ha;obtain⟨j,hj⟩:=List.mem_iff_getElem?.1 hnm;refine⟨j,(oI ws 0 j ho).2 ⟨by omega,?_⟩,by unfold nN;rw [hj]⟩;rw [Nat.mul_zero,Nat.sub_zero];exact(pr j).2 ⟨h',Z7,nj,hj,AZ⟩
   rw [e]at FZ⊢;have ke:Kept Nil w Xt:=(Jr.trans h3 (fun k hk e=>by omega)).tt Yj;have hws:w.heap.size<=v.heap.size:=Nat.le_trans Jr.size h3.size;refine hK A2 c2 _ (Row.base (Row.apart FZ kp (fun cs t fr h=>by rw [hmk]at h;cases h)) fun b hb=>Nat.le_trans hws (Row.bC FZ hb).1) (ke.trans kp (fun k hk e=>by omega))
end
section
variable{w w':World}{S F:Nat->Prop}{g bl c mb gb:Nat}{D:DG}{C:HT->List HT}{M:List NM}{K:Value->World->Prop}
theorem zl(G:GV w S F g D C bl c mb M)(hg:w.heap[gb]? =some (.cells #[.pointer (some ⟨g,0,none⟩)] jY (0,0))){A:Option Addr}{n cx:Nat}{l:List HT}(hl:HS w A n l)(hn:n<=400000)
 (hK:∀w' (x:Bool),(x=true↔∃p∈l,p∉ids D)->Kept Nil w w'->K (.bool x) w'):
 bj prog du.id #[.slice A n cx,.func (.func dS.id) #[] #[.pointer (some ⟨gb,0,none⟩)]] w K:=by
 have hlen:=hl.len;refine bY.of (aq.of ?_);refine aq.b7 (I:=fun s w'=>∃i:Nat,s=(0,(i:Int))/\i<=n/\(∀p∈l.take i,p∈ids D)/\Kept Nil w w') (μ:=fun s _=>((n:Int)-s.2).toNat) (s:=(0,0)) ⟨0,rfl,Nat.zero_le _,by simp,Kept.refl _ _⟩ ?_;rintro s w' ⟨i,rfl,hi,cR,kw⟩;refine Split.dec (fun iU=>?_) (fun fU=>?_)
 ·simp only at iU
  have dW:i<n:=by omega
  obtain⟨x,hx⟩:∃x,l[i]? =some x:=⟨_,List.getElem?_eq_getElem (by omega)⟩;refine(hl.same kw).load (i:=(i:Int)) (by omega) hx ?_;refine dS.of ?_;unfold dS.W;intro w3;have k3:Kept Nil w' w3:=(Kept.refl _ _).alloc _;have pe:w3.heap[w'.heap.size]? =some (.cells x.1 aj (0,0)):=aJ w' _;clear_value w3;have K7:=kw.tt k3;refine⟨some ⟨g,0,none⟩,by rw [ay (K7.heap hg (fun h=>h))];rfl,x.1,⟨x.2.1,Cells.bC pe⟩,tl (G.same K7) x fun w7 k7=>⟨_,rfl,_,rfl,?_⟩⟩;have Ak:=K7.tt k7;by_cases hm:x∈ids D
  ·refine Split.no (by rw [decide_eq_true hm];rfl) ?_
   simp only;rw [dh (n:=(i:Int)) (by omega) (by omega)];refine⟨(0,(i:Int)+1),rfl,⟨i+1,rfl,dW,fun p hp=>?_,Ak⟩,by simp only;omega⟩;rcases(bG hx).1 hp with hp|rfl
   ·exact cR p hp
   ·exact hm
  ·refine Split.yes (by rw [decide_eq_false hm];rfl) ?_
   refine⟨(i:Int),rfl,?_⟩;exact hK w7 _ ⟨fun _=>⟨x,List.mem_of_getElem? hx,hm⟩,fun _=>decide_eq_true (by omega)⟩ Ak
 ·simp only at fU
  rw [aQ,aq.c8];rw [List.take_of_length_le (by omega)]at cR;exact⟨-1,rfl,hK w' _ ⟨fun h=>absurd (of_decide_eq_true h) (by omega),fun⟨p,hp,hn⟩=>absurd (cR p hp) hn⟩ kw⟩
theorem jq{w:World}{a b:Nat}{ca cb:Array Value}{ta tb:TypeId}{fa fb:Nat×Nat}(ha:w.heap[a]? =some (.cells ca ta fa))(hb:w.heap[b]? =some (.cells cb tb fb))(fg:ta≠tb):a≠b:=by
 rintro rfl;rw [ha]at hb;simp only [Option.some.injEq,Obj.cells.injEq]at hb;exact fg hb.2.1
theorem GV.upd(G:GV w S F g D C bl c mb M)(W:iS D){q:Nat}{nd:DN}{m:NM}(hq:D[q]? =some nd)(hm:M[q]? =some m){A5:Option Addr}{n5 c5:Nat}{ch':List HT}
 (kT:Kept (fun k=>a8 m.cA=some k\/k=m.b) w w') (hb:w'.heap[m.b]? =some (.cells (fD nd.id {m with cA:=A5,cn:=n5,cc:=c5}) dE (0,0))) (eE:bQ w' w.heap.size A5 n5 c5 ch'):
 GV w' (fun k=>S k\/a8 A5=some k) F g D (fun x=>if x=nd.id then ch' else C x) bl c mb (M.set q {m with cA:=A5,cn:=n5,cc:=c5}):=by
 have N:=G.node q nd m hq hm;have JS:q<M.length:=(lgeS hm).1;have oL:∀k,a8 m.cA=some k->∃cur,w.heap[k]? =some (.cells cur aj (0,0)):=fun k hk=>(Row.bC N.ch hk).2;have hF:∀k,F k->¬(a8 m.cA=some k\/k=m.b):=fun k hk e=>by
  rcases e with e|rfl
  ·exact G.tk k (N.Pv k e) hk
  ·exact G.tk _ N.fK hk
 have typ:∀ {k:Nat} {cs:Array Value} {t:TypeId},w.heap[k]? =some (.cells cs t (0,0))->t≠aj->t≠dE->¬(a8 m.cA=some k\/k=m.b):=fun h h1 h2 e=>by
  rcases e with e|rfl
  ·obtain⟨cur,hc⟩:=oL _ e
   exact jq h hc h1 rfl
  ·exact jq h N.bC h2 rfl
 have Eu:∀k,a8 A5=some k->w.heap.size<=k:=fun k hk=>(Row.bC eE hk).1;have fW:∀(i:Nat) m',(M.set q {m with cA:=A5,cn:=n5,cc:=c5})[i]? =some m'->(i=q/\m'= {m with cA:=A5,cn:=n5,cc:=c5})\/(i≠q/\M[i]? =some m'):=fun i m' h=>by
  by_cases e:i=q
  ·subst e
   rw [List.getElem?_set_self JS]at h;exact .inl ⟨rfl,(Option.some.inj h).symm⟩
  ·rw [List.getElem?_set_ne (Ne.symm e)]at h
   exact .inr ⟨e,h⟩
 refine⟨?_,?_,?_,by simpa using G.len,?_,?_,.inl G.gK,.inl G.sk,.inl G.uB,?_,?_⟩
 ·exact kT.heap G.top (typ G.top (by decide) (by decide))
 ·have Oq:(M.set q {m with cA:=A5,cn:=n5,cc:=c5}).map (fun m=>Value.pointer (some ⟨m.b,0,none⟩))=M.map fun m=>Value.pointer (some ⟨m.b,0,none⟩):=by
   apply List.ext_getElem?;intro i;rw [List.getElem?_map,List.getElem?_map];by_cases e:i=q
   ·subst e
    rw [List.getElem?_set_self JS,hm];rfl
   ·rw [List.getElem?_set_ne (Ne.symm e)]
  rw [Oq];refine Row.aD G.row kT (fun k e=>?_);cases e;obtain⟨_,cur,hc⟩:=Row.bC G.row (k:=bl) rfl;exact typ hc (by decide) (by decide)
 ·refine G.map.aD kT (fun e=>?_)
  obtain⟨es,clock,J0,_⟩:=G.map.ex;rcases e with e|e
  ·obtain⟨cur,hc⟩:=oL _ e
   rw [hc]at J0;cases J0
  ·rw [e,N.bC]at J0;cases J0
 ·intro i nd' m' hi mc
  rcases fW i m' mc with⟨rfl,rfl⟩|⟨fg,Tt⟩
  ·rw [hq]at hi
   cases hi;rw [if_pos rfl];exact⟨hb,.inl N.fK,N.ps.aD kT (fun a ha=>hF _ (N.Ja a ha)),N.Ja,Row.base eE (fun _ _=>Nat.zero_le _),fun k hk=>.inr hk,N.past.aD kT (fun a ha=>hF _ (N.oD a ha)),N.oD,N.ok,N.bits,N.small⟩
  ·have N':=G.node i nd' m' hi Tt
   have hid:nd'.id≠nd.id:=fun e=>fg (W.inj hi hq e);rw [if_neg hid];have aaG:m'.b≠m.b:=fun e=>by
    have h1:=N'.bC;rw [e,N.bC]at h1;simp only [Option.some.injEq,Obj.cells.injEq]at h1;exact hid (DT h1.1).symm
   refine⟨kT.heap N'.bC (fun e=>?_),.inl N'.fK,N'.ps.aD kT (fun a ha=>hF _ (N'.Ja a ha)),N'.Ja,Row.aD N'.ch kT (fun k hk e=>?_),fun k hk=>.inl (N'.Pv k hk),N'.past.aD kT (fun a ha=>hF _ (N'.oD a ha)),N'.oD,N'.ok,N'.bits,N'.small⟩
   ·rcases e with e|e
    ·obtain⟨cur,hc⟩:=oL _ e
     exact jq N'.bC hc (by decide) rfl
    ·exact aaG e
   ·rcases e with e|rfl
    ·exact G.apart i q m' m Tt hm fg k hk e
    ·obtain⟨cur,hc⟩:=(Row.bC N'.ch hk).2
     exact jq hc N.bC (by decide) rfl
 ·intro i j m1 m2 h1 h2 qF k IH nA
  rcases fW i m1 h1 with⟨rfl,rfl⟩|⟨hi,sj⟩
  ·rcases fW j m2 h2 with⟨rfl,rfl⟩|⟨hj,uv⟩
   ·exact qF rfl
   ·have:=Eu k IH
    have ti:j<D.length:=by rw [<-G.len];exact(lgeS uv).1
    obtain⟨cur,hc⟩:=(Row.bC (G.node j _ m2 (List.getElem?_eq_getElem ti) uv).ch nA).2;have:=aS hc;omega
  ·rcases fW j m2 h2 with⟨rfl,rfl⟩|⟨hj,uv⟩
   ·have:=Eu k nA
    have dW:i<D.length:=by rw [<-G.len];exact(lgeS sj).1
    obtain⟨cur,hc⟩:=(Row.bC (G.node i _ m1 (List.getElem?_eq_getElem dW) sj).ch IH).2;have:=aS hc;omega
   ·exact G.apart i j m1 m2 sj uv qF k IH nA
 ·intro k hk hf
  rcases hk with hk|hk
  ·exact G.tk k hk hf
  ·have:=Eu k hk
   have:=G.low k (.inr hf);omega
 ·intro k hk
  rcases hk with(hk|hk)|hk
  ·exact Nat.lt_of_lt_of_le (G.low k (.inl hk)) kT.size
  ·obtain⟨cur,hc⟩:=(Row.bC eE hk).2
   exact aS hc
  ·exact Nat.lt_of_lt_of_le (G.low k (.inr hk)) kT.size
end
theorem yx(h:HT)(m:NM)(A:Option Addr)(n c:Nat):(fD h m).setIfInBounds 33 (.slice A n c)=fD h {m with cA:=A,cn:=n,cc:=c}:=by
 have hs:=h.2.1;apply Array.ext_getElem?;intro i;unfold fD;rw [Array.getElem?_setIfInBounds,Array.getElem?_append,Array.getElem?_append];by_cases h1:i<h.1.size
 ·rw [if_neg (by omega),if_pos h1,if_pos h1]
 ·rw [if_neg h1,if_neg h1]
  by_cases h2:i=33
  ·subst h2
   rw [if_pos rfl,if_pos (by simp;omega),hs];rfl
  ·rw [if_neg (Ne.symm h2),hs]
   match i-32,show i-32≠1 by omega with
   |0,_=>rfl
   |2,_=>rfl
   |(k+3),_=>rfl
theorem yw(h:HT)(m:NM)(A:Option Addr)(n c:Nat):(fD h m).setIfInBounds 34 (.slice A n c)=fD h {m with rA:=A,rn:=n,rc:=c}:=by
 have hs:=h.2.1;apply Array.ext_getElem?;intro i;unfold fD;rw [Array.getElem?_setIfInBounds,Array.getElem?_append,Array.getElem?_append];by_cases h1:i<h.1.size
 ·rw [if_neg (by omega),if_pos h1,if_pos h1]
 ·rw [if_neg h1,if_neg h1]
  by_cases h2:i=34
  ·subst h2
   rw [if_pos rfl,if_pos (by simp;omega),hs];rfl
  ·rw [if_neg (Ne.symm h2),hs]
   match i-32,show i-32≠2 by omega with
   |0,_=>rfl
   |1,_=>rfl
   |(k+3),_=>rfl
section
variable{w w0 w':World}{S F F1 S':Nat->Prop}{g bl c mb gb ib nb:Nat}{D:DG}{C:HT->List HT}{M:List NM}{K:Value->World->Prop}
noncomputable def iy(D:DG)(h:HT)(l:List HT):HT->List HT:=fun x=>if x∈l then dd (fX D x++ [h])else fX D x
structure AL(w0 w':World)(S F1 S':Nat->Prop)(g:Nat)(D:DG)(h:HT)(l:List HT)(gb ib nb:Nat)(pA:Option Addr)(pc i bl c mb:Nat)(M:List NM)(rA:Option Addr)(rn rc:Nat)(ws:List Nat):Prop where
 G:GV w' S' F1 g D (iy D h (l.take i)) bl c mb M
 sub:∀k,S k->S' k
 new:∀k,S' k->S k\/w0.heap.size<=k
 node:w'.heap[nb]? =some (.cells (fD h ⟨nb,pA,l.length,pc,none,0,0,rA,rn,rc,ws⟩) dE (0,0))
 XQ:¬S' nb
 row:jQ w' nb rA rn rc ws
 ok:okW ws
 small:rn<=200
 XP:∀k,a8 rA=some k->¬S' k
 bits:∀j,bit ws j=true↔∃p∈l.take i,∃nj,D[j]? =some nj/\(nj.id=p\/eI D nj.id p)
 WW:w'.heap[gb]? =some (.cells #[.pointer (some ⟨g,0,none⟩)] jY (0,0))
 ibx:w'.heap[ib]? =some (.cells h.1 aj (0,0))
 noG:¬S' gb
 noI:¬S' ib
 hl:HS w' pA l.length l
 kp:Kept S w0 w'
theorem ER{h:HT}{l:List HT}{pA:Option Addr}{pc i:Nat}{rA:Option Addr}{rn rc:Nat}{ws:List Nat}{Q:aM}
 (L:AL w0 w' S F1 S' g D h l gb ib nb pA pc i bl c mb M rA rn rc ws) (W:iS D) (hD:D.length<=10000) (rC:SS l) (fz:∀p∈l,p∈ids D) (Fg:∀k,F1 k->k<nb) (IF:∀a,pA=some a->F1 a.block) (h0:w0.heap.size<=nb) (dW:i<l.length) (hll:l.length<=10000)
 (hQ:∀S2 M rA rn rc ws v,AL w0 v S F1 S2 g D h l gb ib nb pA pc (i+1) bl c mb M rA rn rc ws->Q .normal (br.e1 ⟨gb,0,none⟩ ⟨ib,0,none⟩ 0 ⟨nb,0,none⟩ pA l.length pc (l.length:Int) ((i:Int)+1)) v):
 br.B1 ⟨gb,0,none⟩ ⟨ib,0,none⟩ 0 ⟨nb,0,none⟩ pA l.length pc (l.length:Int) (i:Int) Q w':=by
 obtain⟨p,hp⟩:∃p,l[i]? =some p:=⟨_,List.getElem?_eq_getElem dW⟩;have nz:=List.mem_of_getElem? hp;have Zq:=fz p nz;refine Split.yes (decide_eq_true (by omega)) ?_;refine L.hl.load (i:=(i:Int)) (by omega) hp ?_;intro qR;obtain⟨sH,jh,jB⟩:=gM (w:=w') (z:=(#[.int .u8 0,.int .u8 0,.int .u8 0,.int .u8 0,.int .u8 0,.int .u8 0,.int .u8 0,.int .u8 0,.int .u8 0,.int .u8 0,.int .u8 0,.int .u8 0,.int .u8 0,.int .u8 0,.int .u8 0,.int .u8 0,.int .u8 0,.int .u8 0,.int .u8 0,.int .u8 0,.int .u8 0,.int .u8 0,.int .u8 0,.int .u8 0,.int .u8 0,.int .u8 0,.int .u8 0,.int .u8 0,.int .u8 0,.int .u8 0,.int .u8 0,.int .u8 0]:Array Value)) (cs:=p.1) (t:=aj) (by rw [p.2.1];rfl);refine⟨⟨p.2.1,p.2.one,fun j hj=>sH j (by rw [p.2.1];exact hj)⟩,?_⟩;intro sD
 replace jh:sD.heap[w'.heap.size]? =some (.cells p.1 aj (0,0)):=jh
 replace sF:Kept Nil w' sD:=jB
 clear_value sD;refine⟨some ⟨g,0,none⟩,by rw [ay (sF.heap L.WW (fun h=>h))];rfl,p.1,⟨p.2.1,Cells.bC jh⟩,?_⟩;refine uI (L.G.same sF) p fun w40 x k40 hx=>⟨x,rfl,?_⟩;rcases hx with⟨rfl,lZ⟩|⟨q,nd,m',hq,eF,mc,rfl⟩
 ·exact absurd Zq lZ
 intro zA;have Gv:Kept Nil w' zA:=(sF.tt k40).drew;have Hv:zA.heap[w'.heap.size]? =some (.cells p.1 aj (0,0)):=k40.heap jh (fun h=>h);clear_value zA;have ag2:=Gv.size;have Xg:=L.G.same Gv;obtain⟨m,hm,QG⟩:=Xg.get hq;rw [mc]at hm;cases hm;have Om:=Gv.heap L.node (fun h=>h);have yi:jQ zA nb rA rn rc ws:=Row.aD L.row Gv (fun _ _ h=>h);refine⟨rA,rn,rc,by rw [a7,Nat.zero_add,ay Om];exact yy _ _,?_⟩;refine⟨_,_,_,vS QG,some ⟨g,0,none⟩,by rw [ay (Gv.heap L.WW (fun h=>h))];rfl,?_⟩;refine⟨some mb,Xg.at_,p.1,⟨p.2.1,Cells.bC Hv⟩,_,Xg.map.vY p,?_⟩;rw [show pos p (ids D) 0=some q by rw [<-eF];exact W.pos_eq hq,Option.getD_some];have JS:=(lgeS hq).1;have uX:=QG.small;have agQ:=L.small;have Y3:∀k,a8 rA=some k->nb<=k/\k<w'.heap.size:=fun k hk=>by
  obtain⟨h1,cur,hc⟩:=Row.bC L.row hk;exact⟨h1,aS hc⟩
 have ZC:nb<w'.heap.size:=aS L.node;have KU:∀ {v:World} {A:Option Addr} {n c:Nat} {l:List Nat} {B:Nat},jQ v B A n c l->∀ {k:Nat} {cs:Array Value} {t:TypeId},v.heap[k]? =some (.cells cs t (0,0))->t≠ir->¬a8 A=some k:=fun hr _ _ _ hk fg e=>by
  obtain⟨_,cur,hc⟩:=Row.bC hr e;exact jq hk hc fg rfl
 refine vN yi L.ok (by omega) (by omega) QG.past QG.ok (by omega) (fun a ha k hk e=>?_) fun A2 n2 c2 l2 KR rX Zy ahv O3 Gu aaT=>⟨A2,n2,c2,rfl,?_⟩
 ·have h1:=Fg a.block (QG.oD a ha)
  have h2:=(Y3 k hk).1;omega
 have hnF:∀k,F1 k->¬a8 rA=some k:=fun k hk e=>by have:=Fg k hk;have:=(Y3 k e).1;omega
 have G52:=Xg.aD Gu (fun k hk e=>L.XP k e hk) hnF;have Um:=Gu.heap Hv (KU yi Hv (by decide));have TU:=Gv.heap L.WW (fun h=>h);have ON:=Gu.heap TU (KU yi TU (by decide));have TO:=Gv.heap L.ibx (fun h=>h);have TN:=Gu.heap TO (KU yi TO (by decide));have LK:=Gu.heap Om (KU yi Om (by decide));have ag1:=Gu.size;have TC:=G52.map.vY p;rw [show pos p (ids D) 0=some q by rw [<-eF];exact W.pos_eq hq,Option.getD_some]at TC;refine⟨TC,⟨p.1,rfl,p.2.1,Cells.bC Um⟩,G52.at_,by rw [ay ON];rfl,?_⟩;have Va:∀k,a8 A2=some k->a8 rA=some k\/zA.heap.size<=k:=aaT;refine yf rX Zy (by omega) (by omega) (by omega) fun A3 n3 c3 l3 pJ vO Zx ahu O1 D8 O5=>⟨A3,n3,c3,rfl,?_⟩;have AR:∀k,a8 A2=some k->¬S' k:=fun k hk hs=>by
  rcases Va k hk with h|h
  ·exact L.XP k h hs
  ·have:=L.G.low k (.inl hs);omega
 have Hk:∀k,F1 k->¬a8 A2=some k:=fun k hf hk=>by
  have:=Fg k hf;have:=(Row.bC rX hk).1;omega
 have G55:=G52.aD D8 (fun k hk e=>AR k e hk) Hk;have Kj:=D8.heap ON (KU rX ON (by decide));have TM:=D8.heap TN (KU rX TN (by decide));have yX:=D8.heap LK (KU rX LK (by decide));have ag0:=D8.size;have adE:=tX h ⟨nb,pA,l.length,pc,none,0,0,rA,rn,rc,ws⟩;refine⟨by rw [a7,Nat.zero_add];exact dK yX (by omega),?_⟩;intro w57 Fu;have D7:Kept (· =nb) pJ w57:=by
  show Kept (· =nb) pJ (pJ.setCell ((⟨nb,0,none⟩:Addr).add 34) (.slice A3 n3 c3))
  exact Kept.setCell (S:=fun k=>k=nb) (Kept.refl _ pJ) (by rw [ee];exact fun _=>rfl) _
 have Tj:w57.heap[nb]? =some (.cells (fD h ⟨nb,pA,l.length,pc,none,0,0,A3,n3,c3,l3⟩) dE (0,0)):=by
  show(pJ.setCell ((⟨nb,0,none⟩:Addr).add 34) (.slice A3 n3 c3)).heap[nb]? =_;rw [a7,Nat.zero_add,cS yX 34,yw];rfl
 have Gt:Kept (· =nb) pJ Fu:=D7.drew;have Ti:Fu.heap[nb]? =some (.cells (fD h ⟨nb,pA,l.length,pc,none,0,0,A3,n3,c3,l3⟩) dE (0,0)):=Tj;clear_value Fu;clear Tj D7;have agZ:=Gt.size;have G58:=G55.aD Gt (fun k hk e=>L.XQ (e▸hk)) (fun k hk e=>by have:=Fg k hk;omega);have TS:=Gt.heap Kj (jq Kj yX (by decide));have OH:=Gt.heap TM (jq TM yX (by decide));have Q7:jQ Fu nb A3 n3 c3 l3:=Row.aD vO Gt (fun k hk e=>by
  subst e;exact KU vO yX (by decide) hk)
 obtain⟨m,hm,N58⟩:=G58.get hq;rw [mc]at hm;cases hm;refine⟨m'.cA,m'.cn,m'.cc,Ck N58,h.1,⟨h.2.1,Cells.bC OH⟩,h.2.1,?_⟩;intro VX;have Yi:Kept Nil Fu VX:=(Kept.refl _ _).alloc _;have OZ:HS VX (some ⟨Fu.heap.size,0,none⟩) 1 [h]:=ja Fu h;clear_value VX;have G62:=G58.same Yi;obtain⟨m,hm,QF⟩:=G62.get hq;rw [mc]at hm;cases hm;refine⟨Ck QF,?_⟩;have Uf:=QF.ch.len;have CN:iy D h (l.take i) nd.id=fX D p:=by
  unfold iy;rw [eF,if_neg];intro gR;obtain⟨j,hj⟩:=List.mem_iff_getElem?.1 gR;rw [List.getElem?_take]at hj;split at hj
  ·have:=rC.get (by omega) hj hp
   rw [gH]at this;cases this
  ·cases hj
 have pG:=mv D fun a=>mL D p a;have WE:m'.cn<=10000:=by
  rw [<-Uf,CN];unfold fX;omega
 obtain⟨A7,c7,EY,Y8,Q6,aac,aaR⟩:=cF (cx:=1) az QF.ch OZ (by omega) (Nat.zero_le _);have D6:Kept (fun k=>a8 m'.cA=some k) VX EY:=Kept.grown (Kept.refl _ _) aac (fun k hk _=>hk);refine⟨A7,_,c7,EY,Y8,?_⟩;have agY:=Yi.size;have Ss:=D6.size;refine iw Q6.hs (by omega) fun A5 c5 Mw FW Yh=>⟨A5,_,c5,rfl,?_⟩;have agX:=Yh.size;have Tp:=D6.heap QF.bC (fun e=>by
  obtain⟨_,cur,hc⟩:=Row.bC QF.ch e;exact jq QF.bC hc (by decide) rfl)
 have Hm:=Yh.heap Tp (fun h=>h);refine⟨by rw [a7,Nat.zero_add];exact dK Hm (by rw [tX];omega),?_⟩;intro BN;have RO:Kept (· =m'.b) Mw BN:=by
  show Kept (· =m'.b) Mw (Mw.setCell ((⟨m'.b,0,none⟩:Addr).add 33) (.slice A5 (dd (iy D h (l.take i) nd.id++ [h])).length c5))
  exact Kept.setCell (S:=fun k=>k=m'.b) (Kept.refl _ Mw) (by rw [ee];exact fun _=>rfl) _
 have To:BN.heap[m'.b]? =some (.cells (fD nd.id {m' with cA:=A5,cn:=(dd (iy D h (l.take i) nd.id++ [h])).length,cc:=c5}) dE (0,0)):=by
  show(Mw.setCell ((⟨m'.b,0,none⟩:Addr).add 33) (.slice A5 (dd (iy D h (l.take i) nd.id++ [h])).length c5)).heap[m'.b]? =_;rw [a7,Nat.zero_add,cS Hm 33,yx]
 clear_value BN;have kT:Kept (fun k=>a8 m'.cA=some k\/k=m'.b) Fu BN:=
  (((Yi.mono (S':=fun k=>a8 m'.cA=some k\/k=m'.b) (fun _ _ h=>h.elim)).trans D6 (fun _ _ h=>.inl h)).trans Yh (fun _ _ h=>h.elim)).trans RO (fun _ _ h=>.inr h)
 have G9:bQ BN Fu.heap.size A5 (dd (iy D h (l.take i) nd.id++ [h])).length c5 (dd (iy D h (l.take i) nd.id++ [h])):=
  Row.base (Row.aD FW RO (fun k hk e=>by
   subst e;obtain⟨_,cur,hc⟩:=Row.bC FW hk;exact jq Hm hc (by decide) rfl)) (fun k hk=>by have:=(Row.bC FW hk).1;omega)
 have G69:=G58.upd W hq mc kT To G9;have Eu:∀k,a8 A5=some k->Fu.heap.size<=k:=fun k hk=>(Row.bC G9 hk).1;have Qw:∀k,(a8 m'.cA=some k\/k=m'.b)->S' k:=fun k e=>by
  rcases e with e|rfl
  ·exact N58.Pv k e
  ·exact N58.fK
 have hkf:(fun x=>if x=nd.id then dd (iy D h (l.take i) nd.id++ [h])else iy D h (l.take i) x)=iy D h (l.take (i+1)):=by
  funext x
  by_cases hx:x=nd.id
  ·rw [if_pos hx,CN,hx,eF]
   unfold iy;rw [if_pos ((bG hp).2 (.inr rfl))]
  ·rw [if_neg hx]
   unfold iy;have:x∈l.take (i+1)↔x∈l.take i:=by
    rw [bG hp];exact⟨fun e=>e.resolve_right (fun e=>hx (by rw [eF];exact e)),.inl⟩
   by_cases hm:x∈l.take i
   ·rw [if_pos hm,if_pos (this.2 hm)]
   ·rw [if_neg hm,if_neg (fun e=>hm (this.1 e))]
 rw [hkf]at G69;rw [dh (n:=(i:Int)) (by omega) (by omega)];have adN:nb<Fu.heap.size:=aS Ti;have ke:Kept S w0 BN:=by
  have k1:=L.kp.trans Gv (fun _ _ h=>h.elim);have k2:=k1.trans Gu (fun k hk e=>absurd (Y3 k e).1 (by omega));have k3:=k2.trans D8 (fun k hk e=>absurd (Row.bC rX e).1 (by omega));have k4:=k3.trans Gt (fun k hk e=>by omega);exact k4.trans kT (fun k hk e=>by
   rcases L.new k (Qw k e)with h|h
   ·exact h
   ·omega)
 refine hQ _ _ A3 n3 c3 l3 BN ⟨G69,fun k hk=>.inl (L.sub k hk),fun k hk=>?_,kT.heap Ti (fun e=>L.XQ (Qw _ e)),fun e=>?_,Row.aD Q7 kT (fun k hk e=>?_),Zx,by omega,fun k hk e=>?_,fun j=>?_,
  kT.heap TS (fun e=>L.noG (Qw _ e)),kT.heap OH (fun e=>L.noI (Qw _ e)),fun e=>?_,fun e=>?_,?_,ke⟩
 ·rcases hk with hk|hk
  ·exact L.new k hk
  ·have:=Eu k hk
   have:=L.kp.size;exact .inr (by omega)
 ·rcases e with e|e
  ·exact L.XQ e
  ·have:=Eu _ e;omega
 ·have hs:=Qw k e
  rcases O5 k hk with h|h
  ·exact AR k h hs
  ·have:=L.G.low k (.inl hs);omega
 ·have hk3:k<pJ.heap.size:=by
   obtain⟨_,cur,hc⟩:=Row.bC vO hk;exact aS hc
  rcases e with e|e
  ·rcases O5 k hk with h|h
   ·exact AR k h e
   ·have:=L.G.low k (.inl e);omega
  ·have:=Eu _ e;omega
 ·rw [O1,Bool.or_eq_true,O3,Bool.or_eq_true,L.bits,QG.bits,decide_eq_true_iff]
  constructor
  ·rintro((⟨p',h1,h2⟩|⟨nj,h1,h2⟩)|rfl)
   ·exact⟨p',(bG hp).2 (.inl h1),h2⟩
   ·exact⟨p,(bG hp).2 (.inr rfl),nj,h1,.inr (eF▸h2)⟩
   ·exact⟨p,(bG hp).2 (.inr rfl),nd,hq,.inl eF⟩
  ·rintro⟨p',h1,nj,h2,h3⟩
   rcases(bG hp).1 h1 with h1|rfl
   ·exact .inl (.inl ⟨p',h1,nj,h2,h3⟩)
   ·rcases h3 with h3|h3
    ·exact .inr (W.inj h2 hq (h3.trans eF.symm))
    ·exact .inl (.inr ⟨nj,h2,eF▸h3⟩)
 ·rcases e with e|e
  ·exact L.noG e
  ·have:=Eu _ e;have:=aS TS;omega
 ·rcases e with e|e
  ·exact L.noI e
  ·have:=Eu _ e;have:=aS OH;omega
 ·have hb:∀a,pA=some a->F1 a.block/\a.block<nb:=fun a ha=>⟨IF a ha,Fg _ (IF a ha)⟩
  have k1:=L.hl.same Gv;have k2:=k1.aD Gu (fun a ha=>hnF _ (hb a ha).1);have k3:=k2.aD D8 (fun a ha=>Hk _ (hb a ha).1);have k4:=k3.aD Gt (fun a ha e=>by have:=(hb a ha).2;omega);exact k4.aD kT (fun a ha e=>L.G.tk _ (Qw _ e) (hb a ha).1)
end
theorem QZ:xN prog kL eU 1 8:=⟨by kernel_rfl,by kernel_rfl⟩
theorem H5:QD prog dE=some ([(0,32),(32,1),(33,1),(34,1)],List.replicate 32 (.int .u8 0)++ [.slice none 0 0,.slice none 0 0,.slice none 0 0]):=by kernel_rfl
theorem H3(h:HT)(b:Nat)(A:Option Addr)(n c:Nat):prog.built dE [(0,.agg h.1),(1,.slice A n c)]=some (fD h ⟨b,A,n,c,none,0,0,none,0,0,[]⟩):=by
 have hs:=h.2.1;rw [mI H5,iu (off:=0) (size:=32) rfl (by simpa [Value.cells]using hs) (by simp),iu (off:=32) (size:=1) rfl rfl (by
  rw [List.size_toArray,lg (by simp [Value.cells,hs])];simp)]
 simp only [Instr.fill,Option.some.injEq];apply Array.ext';unfold gk fD;simp [Value.cells,hs];rw [List.drop_append];simp [hs]
theorem EI(h:HT)(b:Nat):prog.built dE [(0,.agg h.1)]=some (fD h ⟨b,none,0,0,none,0,0,none,0,0,[]⟩):=by
 have hs:=h.2.1;rw [mI H5,iu (off:=0) (size:=32) rfl (by simpa [Value.cells]using hs) (by simp)];simp only [Instr.fill,Option.some.injEq];apply Array.ext';unfold gk fD;simp [Value.cells,hs]
section
variable{D:DG}{h:HT}{l:List HT}
theorem Bt(W:iS D)(hn:h∉ids D){x:HT}:iy D h l x=fX (D++ [⟨h,l⟩]) x:=by
 have gR:∀a,a∈fX (D++ [⟨h,l⟩]) x↔(a∈fX D x\/(a=h/\x∈l)):=fun a=>by
  unfold fX;rw [iY,iY,mw,kh,List.mem_append,List.mem_singleton];constructor
  ·rintro⟨h1,h2|⟨h2,h3⟩⟩
   ·exact .inl ⟨(eI.mem W (.one h2)).2,h2⟩
   ·exact .inr ⟨h2.symm,h3⟩
  ·rintro(⟨h1,h2⟩|⟨rfl,h2⟩)
   ·exact⟨.inl h1,.inl h2⟩
   ·exact⟨.inr rfl,.inr ⟨rfl,h2⟩⟩
 unfold iy;by_cases th:x∈l
 ·rw [if_pos th]
  refine(wH (l:=fX (D++ [⟨h,l⟩]) x) (iz _) fun a=>?_).symm;rw [gR,List.mem_append,List.mem_singleton];exact⟨fun e=>e.imp (fun e=>e) (fun e=>e.1),fun e=>e.imp (fun e=>e) (fun e=>⟨e,th⟩)⟩
 ·rw [if_neg th]
  refine xz (iz _) (iz _) fun a=>?_;have:=gR a;unfold fX pick at this⊢;rw [this];exact⟨.inl,fun e=>e.resolve_right (fun e=>th e.2)⟩
theorem EG(W:iS D)(hn:h∉ids D)(fz:∀p∈l,p∈ids D):fX (D++ [⟨h,l⟩]) h= []:=by
 cases hc:fX (D++ [⟨h,l⟩]) h with
 |nil=>rfl
 |cons b t=>
  exfalso;have:b∈fX (D++ [⟨h,l⟩]) h:=by rw [hc];simp
  rcases mw.1 (iY.1 this).2 with h1|⟨_,h2⟩
  ·exact hn (eI.mem W (.one h1)).1
  ·exact hn (fz h h2)
theorem H6(W:iS D)(hn:h∉ids D){x:HT}(hx:x∈ids D)(j:Nat):(∃nj,(D++ [⟨h,l⟩])[j]? =some nj/\eI (D++ [⟨h,l⟩]) nj.id x)↔∃nj,D[j]? =some nj/\eI D nj.id x:=by
 constructor
 ·rintro⟨nj,h1,h2⟩
  have uv:=(iK W (nd:=⟨h,l⟩) hn hx).1 h2;rw [List.getElem?_append]at h1;split at h1
  ·exact⟨nj,h1,uv⟩
  ·exfalso
   have:nj=⟨h,l⟩:=by
    cases hk:j-D.length with
    |zero=>rw [hk]at h1;simpa using h1.symm
    |succ k=>rw [hk]at h1;simp at h1
   subst this;exact hn (uv.mem W).1
 ·rintro⟨nj,h1,h2⟩
  exact⟨nj,by rw [List.getElem?_append_left (lgeS h1).1];exact h1,(iK W (nd:=⟨h,l⟩) hn hx).2 h2⟩
theorem H7(W:iS D)(hn:h∉ids D)(fz:∀p∈l,p∈ids D)(hs:SS l)(j:Nat):
 (∃nj,(D++ [⟨h,l⟩])[j]? =some nj/\eI (D++ [⟨h,l⟩]) nj.id h)↔∃p∈l,∃nj,D[j]? =some nj/\(nj.id=p\/eI D nj.id p):=by
 have W':iS (D++ [⟨h,l⟩]):=W.snoc (nd:=⟨h,l⟩) hn fz hs;have fW:(D++ [⟨h,l⟩])[D.length]? =some ⟨h,l⟩:=by rw [List.getElem?_append_right (Nat.le_refl _),Nat.sub_self];rfl
 have key:∀a,eI (D++ [⟨h,l⟩]) a h↔∃p∈l,a=p\/eI D a p:=fun a=>by
  rw [tm W' fW a];constructor
  ·rintro⟨p,hp,e⟩
   exact⟨p,hp,e.imp (fun e=>e) (fun e=>(iK W (nd:=⟨h,l⟩) hn (fz p hp)).1 e)⟩
  ·rintro⟨p,hp,e⟩
   exact⟨p,hp,e.imp (fun e=>e) (fun e=>(iK W (nd:=⟨h,l⟩) hn (fz p hp)).2 e)⟩
 constructor
 ·rintro⟨nj,h1,h2⟩
  obtain⟨p,hp,e⟩:=(key _).1 h2;have hid:nj.id∈ids D:=by
   rcases e with e|e
   ·rw [e];exact fz p hp
   ·exact(e.mem W).1
  rw [List.getElem?_append]at h1;split at h1
  ·exact⟨p,hp,nj,h1,e⟩
  ·exfalso
   have:nj=⟨h,l⟩:=by
    cases hk:j-D.length with
    |zero=>rw [hk]at h1;simpa using h1.symm
    |succ k=>rw [hk]at h1;simp at h1
   subst this;exact hn hid
 ·rintro⟨p,hp,nj,h1,e⟩
  exact⟨nj,by rw [List.getElem?_append_left (lgeS h1).1];exact h1,(key _).2 ⟨p,hp,e⟩⟩
end
section
variable{w w':World}{S F F':Nat->Prop}{g bl c mb:Nat}{D:DG}{C:HT->List HT}{M:List NM}{K:Value->World->Prop}
theorem GV.Rm(G:GV w S F g D C bl c mb M)(hf:∀k,F k->F' k)(hd:∀k,S k->¬F' k)(hl:∀k,F' k->k<w.heap.size):GV w S F' g D C bl c mb M:=
 ⟨G.top,G.row,G.map,G.len,fun i nd m h1 h2=>by
   have N:=G.node i nd m h1 h2;exact⟨N.bC,N.fK,N.ps,fun a ha=>hf _ (N.Ja a ha),N.ch,N.Pv,N.past,fun a ha=>hf _ (N.oD a ha),N.ok,N.bits,N.small⟩,G.apart,G.gK,G.sk,G.uB,hd,fun k hk=>hk.elim (fun h=>G.low k (.inl h)) (hl k)⟩
theorem KM{w0:World}{F1 S':Nat->Prop}{h:HT}{l:List HT}{gb ib nb:Nat}{pA:Option Addr}{pc i:Nat}{rA:Option Addr}{rn rc:Nat}{ws:List Nat}
 (L:AL w0 w S F1 S' g D h l gb ib nb pA pc i bl c mb M rA rn rc ws) (W:iS D) (hD:D.length<=5000) (rC:SS l) (fz:∀p∈l,p∈ids D) (hn:h∉ids D) (Fg:∀k,F1 k->k<nb) (IF:∀a,pA=some a->F1 a.block) (h0:w0.heap.size<=nb) (dW:l.length<=i)
 (hK:∀v S2 F2,BJ v S2 F2 g (D++ [⟨h,l⟩])->Kept S w0 v->(∀k,S2 k->S k\/w0.heap.size<=k)->(∀k,F2 k->F1 k\/w0.heap.size<=k)->K (.int .i64 0) v):
 br.EU ⟨gb,0,none⟩ ⟨ib,0,none⟩ 0 ⟨nb,0,none⟩ pA l.length pc (l.length:Int) (i:Int) K w:=by
 have Sk:l.take i=l:=List.take_of_length_le dW;have hG:=L.G;rw [Sk]at hG;have L4:=L.bits;rw [Sk]at L4;unfold br.EU;intro PQ;have La:Kept Nil w PQ:=(Kept.refl _ _).drew;clear_value PQ;have tp:=hG.same La;have Ki:=La.heap L.WW (fun h=>h);have Hl:=La.heap L.node (fun h=>h);have B7:jQ PQ nb rA rn rc ws:=Row.aD L.row La (fun _ _ h=>h);refine⟨some ⟨g,0,none⟩,by rw [ay Ki];rfl,some mb,tp.at_,h.1,⟨h.2.1,Cells.bC (La.heap L.ibx (fun h=>h))⟩,some ⟨g,0,none⟩,by rw [ay Ki];rfl,?_⟩;refine⟨_,_,_,tp.nodes,?_⟩;obtain⟨w85,Sz,Rr,k85⟩:=tp.map.put hn;rw [fc]at Sz;refine⟨w85,Sz,?_⟩;intro IX;have M9:Kept (· =mb) PQ IX:=k85.drew;have K4:IsMap IX mb (ids D++ [h]):=Rr.aD ((Kept.refl Nil w85).drew) (fun h=>h);clear_value IX;have I0:∀ {v:World} {k:Nat} {cs:Array Value} {t:TypeId},IsMap v mb (ids D)->v.heap[k]? =some (.cells cs t (0,0))->k≠mb:=fun hm hk e=>by
  obtain⟨es,clock,J0,_⟩:=hm.ex;rw [e,J0]at hk;cases hk
 have OM:=M9.heap Ki (I0 tp.map Ki);have aht:=M9.heap Hl (I0 tp.map Hl);have GX:=M9.heap tp.top (I0 tp.map tp.top);have Q5:Row IX 0 eU 1 (some ⟨bl,0,none⟩) D.length c (M.map fun m=>.pointer (some ⟨m.b,0,none⟩)):=Row.aD tp.row M9 (fun k hk e=>by
  obtain⟨_,cur,hc⟩:=Row.bC tp.row hk;exact I0 tp.map hc e)
 have XG:jQ IX nb rA rn rc ws:=Row.aD B7 M9 (fun k hk e=>by
  obtain⟨_,cur,hc⟩:=Row.bC B7 hk;exact I0 tp.map hc e)
 refine⟨some ⟨g,0,none⟩,by rw [ay OM];rfl,some ⟨g,0,none⟩,by rw [ay OM];rfl,?_⟩;refine⟨some ⟨bl,0,none⟩,D.length,c,by rw [add_zero,ay GX];rfl,?_⟩;intro Mu;have P2:Kept Nil IX Mu:=(Kept.refl _ _).alloc _;have aaP:Mu.heap[IX.heap.size]? =some (.cells #[.pointer (some ⟨nb,0,none⟩)] eU (0,0)):=aJ IX _;clear_value Mu;have Kh:=P2.heap OM (fun h=>h);have AF:=P2.heap GX (fun h=>h);refine⟨by rw [add_zero,ay AF];rfl,by rw [ay Kh];rfl,by rw [ay Kh];rfl,?_⟩;have FT:Row Mu 0 eU 1 (some ⟨bl,0,none⟩) D.length c (M.map fun m=>.pointer (some ⟨m.b,0,none⟩)):=Row.aD Q5 P2 (fun _ _ h=>h);obtain⟨Xj,QC,Mt,Y6,FQ,TQ,aaO⟩:=eN (P:=prog) (t:=kL) (ty:=kL) (bytes:=8) QZ FT (a:=⟨IX.heap.size,0,none⟩) (m:=1) (cx:=1) (news:= [.pointer (some ⟨nb,0,none⟩)]) rfl
  (fun j u hj=>by rw [a7,Nat.zero_add,ay aaP];simpa using hj) (fun u hu=>by simp at hu;subst hu;rfl) (by omega) (by unfold maxLen;omega) (Nat.zero_le _)
 have We:Kept (· =bl) Mu Mt:=Kept.grown (S:=fun k=>k=bl) (Kept.refl _ _) TQ (fun k hk _=>by cases hk;rfl);refine⟨Xj,_,QC,Mt,Y6,?_⟩;have tyL:∀ {k:Nat} {cs:Array Value} {t:TypeId},Mu.heap[k]? =some (.cells cs t (0,0))->t≠eU->k≠bl:=fun hk fg=>by
  obtain⟨_,cur,hc⟩:=Row.bC FT (k:=bl) rfl;exact jq hk hc fg
 have aaa:=We.heap Kh (tyL Kh (by decide));have wZ:=We.heap AF (tyL AF (by decide));refine⟨by rw [ay aaa];rfl,by rw [add_zero];exact dK wZ (by simp),?_⟩;intro Ir;have Yf:Kept (· =g) Mt Ir:=by
  show Kept (· =g) Mt (Mt.setCell ((⟨g,0,none⟩:Addr).add 0) (.slice Xj (D.length+1) QC))
  exact Kept.setCell (S:=fun k=>k=g) (Kept.refl _ Mt) (by rw [ee];exact fun _=>rfl) _
 have NQ:Ir.heap[g]? =some (.cells #[.slice Xj (D.length+1) QC,.map (some mb)] gE (0,0)):=by
  show(Mt.setCell ((⟨g,0,none⟩:Addr).add 0) (.slice Xj (D.length+1) QC)).heap[g]? =_;rw [add_zero,cS wZ 0];rfl
 clear_value Ir;obtain⟨QE,rfl⟩:=Row.some FQ (by omega);have agV:=M9.size;have agU:=P2.size;have ke:Kept (fun k=>k=g\/k=bl\/k=mb) PQ Ir:=
  (((M9.mono (S':=fun k=>k=g\/k=bl\/k=mb) (fun _ _ h=>.inr (.inr h))).trans P2 (fun _ _ h=>h.elim)).trans We (fun _ _ h=>.inr (.inl h))).trans Yf (fun _ _ h=>.inl h)
 have hTF:∀k,F1 k->¬(k=g\/k=bl\/k=mb):=fun k hk e=>by
  rcases e with rfl|rfl|rfl
  ·exact tp.tk _ tp.gK hk
  ·exact tp.tk _ tp.sk hk
  ·exact tp.tk _ tp.uB hk
 have ty:∀ {k:Nat} {cs:Array Value} {t:TypeId},PQ.heap[k]? =some (.cells cs t (0,0))->t≠gE->t≠eU->¬(k=g\/k=bl\/k=mb):=fun hk h1 h2 e=>by
  rcases e with e|e|e
  ·rw [e]at hk
   exact jq hk tp.top h1 rfl
  ·rw [e]at hk
   obtain⟨_,cur,hc⟩:=Row.bC tp.row (k:=bl) rfl;exact jq hk hc h2 rfl
  ·exact I0 tp.map hk e
 have AI:Row Ir 0 eU 1 (some ⟨QE,0,none⟩) (D.length+1) QC ((M.map fun m=>.pointer (some ⟨m.b,0,none⟩))++ [.pointer (some ⟨nb,0,none⟩)]):=Row.aD FQ Yf (fun k hk e=>by
  obtain⟨_,cur,hc⟩:=Row.bC FQ hk;exact jq hc wZ (by decide) e)
 have Rq:IsMap Ir mb (ids D++ [h]):=by
  obtain⟨es,clock,J0,_⟩:=K4.ex;have h1:=K4.aD P2 (fun h=>h);have h2:=h1.aD We (fun e=>by
   obtain⟨_,cur,hc⟩:=Row.bC FT (k:=bl) rfl;obtain⟨_,_,mc,_⟩:=h1.ex;rw [e,hc]at mc;cases mc)
  exact h2.aD Yf (fun e=>by
   obtain⟨_,_,mc,_⟩:=h2.ex;rw [e,wZ]at mc;cases mc)
 have Ol:=ke.heap Hl (ty Hl (by decide) (by decide));have wL:jQ Ir nb rA rn rc ws:=Row.aD B7 ke (fun k hk e=>by
  obtain⟨_,cur,hc⟩:=Row.bC B7 hk;exact ty hc (by decide) (by decide) e)
 have Hn:(D++ [(⟨h,l⟩:DN)]).length=D.length+1:=by simp
 have UA:QE=bl\/Mu.heap.size<=QE:=by
  rcases aaO QE rfl with e|e
  ·exact .inl (by cases e;rfl)
  ·exact .inr e
 have kY:=L.kp.size;have agW:=La.size;have ZC:=aS Hl;have Sy:∀k,a8 rA=some k->nb<=k/\k<Ir.heap.size:=fun k hk=>by
  obtain⟨h1,cur,hc⟩:=Row.bC wL hk;exact⟨h1,aS hc⟩
 have fW:∀ {X:Type} (xs:List X) (y:X) (j:Nat) (z:X),(xs++ [y])[j]? =some z->(j<xs.length/\xs[j]? =some z)\/(j=xs.length/\z=y):=fun xs y j z e=>by
  rw [List.getElem?_append]at e;split at e
  ·rename_i cy;exact .inl ⟨cy,e⟩
  ·rename_i fU
   cases hk:j-xs.length with
   |zero=>rw [hk]at e;exact .inr ⟨by omega,by simpa using e.symm⟩
   |succ k=>rw [hk]at e;simp at e
 refine hK Ir (fun k=>S' k\/k=nb\/k=QE) (fun k=>F1 k\/a8 rA=some k) ⟨QE,QC,mb,M++ [⟨nb,pA,l.length,pc,none,0,0,rA,rn,rc,ws⟩],?_⟩ ?_ ?_ ?_
 ·refine⟨by rw [Hn];exact NQ,?_,by rw [kh];exact Rq,by simp [hG.len],fun j nd m h1 h2=>?_,fun j j' m m' h1 h2 fg k hk nC=>?_,.inl hG.gK,.inr (.inr rfl),.inl hG.uB,fun k hk hf=>?_,fun k hk=>?_⟩
  ·rw [Hn,List.map_append]
   exact AI
  ·rcases fW _ _ _ _ h1 with⟨hj,sj⟩|⟨hj,rfl⟩
   ·rcases fW _ _ _ _ h2 with⟨_,uv⟩|⟨uk,_⟩
    ·have N:=tp.node j nd m sj uv
     have hid:nd.id∈ids D:=cU.2 ⟨nd,List.mem_of_getElem? sj,rfl⟩;have hF:∀k,F1 k->¬(k=g\/k=bl\/k=mb):=hTF;rw [<-Bt W hn];refine⟨ke.heap N.bC (ty N.bC (by decide) (by decide)),.inl N.fK,N.ps.aD ke (fun a ha=>hF _ (N.Ja a ha)),fun a ha=>.inl (N.Ja a ha),Row.aD N.ch ke (fun k hk e=>?_),fun k hk=>.inl (N.Pv k hk),N.past.aD ke (fun a ha=>hF _ (N.oD a ha)),fun a ha=>.inl (N.oD a ha),N.ok,fun j=>?_,N.small⟩
     ·obtain⟨cur,hc⟩:=(Row.bC N.ch hk).2
      exact ty hc (by decide) (by decide) e
     ·rw [N.bits,H6 W hn hid]
    ·rw [hG.len]at uk;omega
   ·rcases fW _ _ _ _ h2 with⟨uk,_⟩|⟨_,rfl⟩
    ·rw [hG.len]at uk;omega
    ·rw [EG W hn fz]
     refine⟨Ol,.inr (.inl rfl),(L.hl.same La).aD ke (fun a ha=>hTF _ (IF a ha)),fun a ha=>.inl (IF a ha),bQ.nil _ _,(fun k hk=>by cases hk),wL.us,fun a ha=>.inr (congrArg a8 ha),L.ok,fun j=>?_,L.small⟩;rw [L4,H7 W hn fz rC]
  ·rcases fW _ _ _ _ h1 with⟨_,sj⟩|⟨_,rfl⟩
   ·rcases fW _ _ _ _ h2 with⟨_,uv⟩|⟨_,rfl⟩
    ·exact hG.apart j j' m m' sj uv fg k hk nC
    ·cases nC
   ·cases hk
  ·rcases hk with hk|rfl|rfl
   ·rcases hf with hf|hf
    ·exact hG.tk k hk hf
    ·exact L.XP k hf hk
   ·rcases hf with hf|hf
    ·have:=Fg k hf;omega
    ·obtain⟨_,cur,hc⟩:=Row.bC wL hf
     exact jq Ol hc (by decide) rfl
   ·rcases hf with hf|hf
    ·rcases UA with e|e
     ·rw [e]at hf;exact hG.tk _ hG.sk hf
     ·have:=Fg _ hf;omega
    ·obtain⟨_,cur,hc⟩:=Row.bC wL hf
     obtain⟨_,Vs,sN⟩:=Row.bC AI (k:=k) rfl;exact jq sN hc (by decide) rfl
  ·have agT:=ke.size
   rcases hk with(hk|rfl|rfl)|hk|hk
   ·have:=tp.low k (.inl hk);omega
   ·exact aS Ol
   ·obtain⟨_,Vs,sN⟩:=Row.bC AI (k:=k) rfl
    exact aS sN
   ·have:=tp.low k (.inr hk);omega
   ·exact(Sy k hk).2
 ·exact(L.kp.trans La (fun _ _ h=>h.elim)).trans ke (fun k hk e=>by
   have hs:S' k:=by
    rcases e with rfl|rfl|rfl
    ·exact hG.gK
    ·exact hG.sk
    ·exact hG.uB
   rcases L.new k hs with h|h
   ·exact h
   ·omega)
 ·intro k hk
  rcases hk with hk|rfl|rfl
  ·exact L.new k hk
  ·exact .inr h0
  ·rcases UA with e|e
   ·rw [e];exact L.new _ hG.sk
   ·exact .inr (by omega)
 ·intro k hk
  rcases hk with hk|hk
  ·exact .inl hk
  ·exact .inr (by have:=(Sy k hk).1;omega)
theorem KE(G:GV w S F g D (fX D) bl c mb M)(W:iS D)(hD:D.length<=5000){A:Option Addr}{n cx:Nat}{lp:List HT}(hl:HS w A n lp)(hn:n<=10000)(h:HT)
 (hK:∀v S2 F2,BJ v S2 F2 g (lP D h lp)->Kept S w v->(∀k,S2 k->S k\/w.heap.size<=k)->(∀k,F2 k->F k\/w.heap.size<=k)->K (.int .i64 (c9 D h lp)) v):
 bj prog br.id #[.pointer (some ⟨g,0,none⟩),.agg h.1,.slice A n cx] w K:=by
 have hlen:=hl.len;have lZ:∀v,Kept Nil w v->∀e,c9 D h lp=e->e≠0->K (.int .i64 e) v:=fun v k e he fg=>by
  have:=hK v S F ?_ (k.mono fun _ _ h=>h.elim) (fun _ h=>.inl h) (fun _ h=>.inl h)
  ·rw [he]at this;exact this
  ·unfold lP
   rw [if_neg (by rw [he];exact fg)];exact⟨bl,c,mb,M,G.same k⟩
 refine br.of ?_;unfold br.W;intro w4 w5;have k4:Kept Nil w w4:=(Kept.refl _ _).alloc _;have CQ:w4.heap[w.heap.size]? =some (.cells #[.pointer (some ⟨g,0,none⟩)] jY (0,0)):=aJ w _;have k5:Kept Nil w4 w5:=(Kept.refl _ _).alloc _;have Kf:w5.heap[w4.heap.size]? =some (.cells h.1 aj (0,0)):=aJ w4 _;have TT:=k5.heap CQ (fun h=>h);clear_value w5;have K6:Kept Nil w w5:=k4.tt k5;have OI:w.heap.size<w4.heap.size:=aS CQ;have ahV:w4.heap.size<w5.heap.size:=aS Kf;clear_value w4;refine iw (hl.same K6) (by omega) fun Fm Vy w7 yh k7=>⟨Fm,_,Vy,rfl,?_⟩;have Ak:Kept Nil w w7:=K6.tt k7;have hg7:=k7.heap TT (fun h=>h);have hi7:=k7.heap Kf (fun h=>h);have G7:=G.same Ak;have CC:(dd lp).length<=n:=by have:=oZ lp;omega
 refine⟨some ⟨g,0,none⟩,by rw [ay hg7];rfl,wv G7 ⟨true,rfl,Split.no rfl ?_⟩⟩;refine⟨some ⟨g,0,none⟩,by rw [ay hg7];rfl,h.1,⟨h.2.1,Cells.bC hi7⟩,tl G7 h fun jk nv=>⟨_,rfl,?_⟩⟩;have Gq:=Ak.tt nv;by_cases hm:h∈ids D
 ·refine Split.yes (decide_eq_true hm) (lZ jk Gq 7 ?_ (by omega))
  unfold c9;rw [if_pos hm]
 refine Split.no (decide_eq_false hm) ?_;by_cases h0:(dd lp).length=0
 ·refine Split.yes (by simp [h0]) (lZ jk Gq 9 ?_ (by omega))
  unfold c9;rw [if_neg hm,if_pos (.inl h0)]
 refine Split.no (beq_eq_false_iff_ne.2 (by omega)) ?_;by_cases h1:(dd lp).length≠n
 ·refine Split.yes (bne_iff_ne.2 (by omega)) (lZ jk Gq 9 ?_ (by omega))
  unfold c9;rw [if_neg hm,if_pos (.inr (by omega))]
 replace h1:(dd lp).length=n:=by omega
 refine Split.no (by rw [h1];simp) ?_;have TX:=nv.heap hg7 (fun h=>h);have KY:=Row.aD yh nv (fun _ _ h=>h);refine zl (G.same Gq) TX (bQ.hs KY) (by omega) fun nX x hx wg=>⟨x,rfl,?_⟩;have Gp:=Gq.tt wg;cases x with
 |true=>
  refine Split.yes rfl (lZ nX Gp 6 ?_ (by omega));unfold c9;rw [if_neg hm,if_neg (by omega),if_pos (hx.1 rfl)]
 |false=>
  have fz:∀p∈dd lp,p∈ids D:=fun p hp=>Classical.byContradiction fun ZA=>by have:=hx.2 ⟨p,hp,ZA⟩;cases this
  have Ul:c9 D h lp=0:=by
   unfold c9;rw [if_neg hm,if_neg (by omega),if_neg (fun⟨p,hp,Hg⟩=>Hg (fz p hp))]
  have hD':lP D h lp=D++ [⟨h,dd lp⟩]:=by unfold lP;rw [if_pos Ul]
  rw [Ul,hD']at hK;refine Split.no rfl ?_;have TP:=wg.heap (nv.heap hi7 (fun h=>h)) (fun h=>h);have OP:=wg.heap TX (fun h=>h);have vP:bQ nX w5.heap.size Fm (dd lp).length Vy (dd lp):=Row.aD KY wg (fun _ _ h=>h);refine⟨h.1,⟨h.2.1,Cells.bC TP⟩,?_⟩;rw [H3 h nX.heap.size];refine Is.mk rfl ?_;intro Iu;have Ni:Kept Nil nX Iu:=(Kept.refl _ _).alloc _;have ZD:Iu.heap[nX.heap.size]? =some (.cells (fD h ⟨nX.heap.size,Fm,(dd lp).length,Vy,none,0,0,none,0,0,[]⟩) dE (0,0)):=aJ nX _;clear_value Iu;have RA:=Gp.tt Ni;have Pp:∀k,a8 Fm=some k->w5.heap.size<=k/\k<nX.heap.size:=fun k hk=>by
   obtain⟨e1,cur,hc⟩:=Row.bC vP hk;exact⟨e1,aS hc⟩
  have hs5:=K6.size;have ag7:=Gp.size;have Fg:∀k,(F k\/a8 Fm=some k)->k<nX.heap.size:=fun k hk=>by
   rcases hk with hk|hk
   ·have:=G.low k (.inr hk);omega
   ·exact(Pp k hk).2
  have Kt:∀k,S k->k<w.heap.size:=fun k hk=>G.low k (.inl hk);have G23:GV Iu S (fun k=>F k\/a8 Fm=some k) g D (fX D) bl c mb M:=(G.same RA).Rm (fun _ h=>.inl h) (fun k hs e=>by
   rcases e with e|e
   ·exact G.tk k hs e
   ·have:=Kt k hs;have:=(Pp k e).1;omega) (fun k hk=>by have:=Fg k hk;have:=Ni.size;omega)
  have CN:iy D h ((dd lp).take 0)=fX D:=by
   funext y
   unfold iy;rw [if_neg (by simp)]
  have L0:AL w Iu S (fun k=>F k\/a8 Fm=some k) S g D h (dd lp) w.heap.size w4.heap.size nX.heap.size Fm Vy 0 bl c mb M none 0 0 []:=
   ⟨by rw [CN];exact G23,fun _ h=>h,fun _ h=>.inl h,ZD,fun e=>by have:=Kt _ e;omega,Row.nil _ _ _ _,by simp [okW],by omega,(fun k hk=>by cases hk),fun j=>by simp [xo],Ni.heap OP (fun h=>h),Ni.heap TP (fun h=>h),
     fun e=>by have:=Kt _ e;omega,fun e=>by have:=Kt _ e;omega,(vP.hs).same Ni,RA.mono fun _ _ h=>h.elim⟩
  refine br.b7 (I:=fun s v=>∃(i:Nat) (S2:Nat->Prop) (M2:List NM) (rA:Option Addr) (rn rc:Nat) (ws:List Nat),s=(i:Int)/\i<=(dd lp).length/\AL w v S (fun k=>F k\/a8 Fm=some k) S2 g D h (dd lp) w.heap.size w4.heap.size nX.heap.size Fm Vy i bl c mb M2 rA rn rc ws)
   (μ:=fun s _=>(((dd lp).length:Int)-s).toNat) (s:=0) ⟨0,S,M,none,0,0,[],rfl,Nat.zero_le _,L0⟩ ?_
  rintro s v ⟨i,S2,M2,rA,rn,rc,ws,rfl,hi,L⟩;have IF:∀a,Fm=some a->F a.block\/a8 Fm=some a.block:=fun a ha=>.inr (by rw [ha];rfl);by_cases dW:i<(dd lp).length
  ·refine ER L W (by omega) (iz _) fz Fg IF (by omega) dW (by omega) fun S3 M3 rA3 rn3 rc3 ws3 v3 L3=>?_
   exact⟨(i:Int)+1,rfl,⟨i+1,S3,M3,rA3,rn3,rc3,ws3,rfl,dW,L3⟩,by simp only;omega⟩
  ·refine Split.no (decide_eq_false (by omega)) ?_
   rw [aQ,br.Mr];refine KM L W hD (iz _) fz hm Fg IF (by omega) (by omega) fun v2 S4 F4 hI TE hS4 hF4=>hK v2 S4 F4 hI TE hS4 (fun k hk=>?_);rcases hF4 k hk with(e|e)|e
   ·exact .inl e
   ·exact .inr (by have:=(Pp k e).1;omega)
   ·exact .inr e
end
def ow(nb:Nat):NM:=⟨nb,none,0,0,none,0,0,none,0,0,[]⟩
structure NP(w v:World)(r:HT)(A B E:Option Nat)(l:List HT):Prop where
 kp:Kept Nil w v
 node:∀b,A=some b->w.heap.size<=b/\v.heap[b]? =some (.cells (fD r (ow b)) dE (0,0))
 list:∀b,B=some b->w.heap.size<=b/\∃nb,A=some nb/\v.heap[b]? =some (.cells #[.pointer (some ⟨nb,0,none⟩)] eU (0,0))
 map:∀b,E=some b->w.heap.size<=b/\IsMap v b l
section
variable{w v:World}{r:HT}{A B E:Option Nat}{l:List HT}{K:Value->World->Prop}
theorem NP.grow(h:NP w v r A B E l)(o:Obj):NP w (v.alloc o) r A B E l:=
 ⟨h.kp.alloc o,fun b e=>⟨(h.node b e).1,jK (h.node b e).2 o⟩,fun b e=>⟨(h.list b e).1,let ⟨nb,h1,h2⟩:=(h.list b e).2;⟨nb,h1,jK h2 o⟩⟩,fun b e=>⟨(h.map b e).1,(h.map b e).2.aD ((Kept.refl Nil v).alloc o) (fun h=>h)⟩⟩
theorem NP.addNode(h:NP w v r none none E l):NP w (v.alloc (.cells (fD r (ow v.heap.size)) dE)) r (some v.heap.size) none E l:=
 have g:=h.grow (.cells (fD r (ow v.heap.size)) dE)
 ⟨g.kp,fun b e=>by cases e;exact⟨h.kp.size,aJ v _⟩,fun b e=>(by cases e),g.map⟩
theorem NP.pg{nb:Nat}(h:NP w v r (some nb) none E l):NP w (v.alloc (.cells #[.pointer (some ⟨nb,0,none⟩)] eU)) r (some nb) (some v.heap.size) E l:=
 have g:=h.grow (.cells #[.pointer (some ⟨nb,0,none⟩)] eU)
 ⟨g.kp,g.node,fun b e=>by cases e;exact⟨h.kp.size,nb,rfl,aJ v _⟩,g.map⟩
theorem NP.BF(h:NP w v r A B none []):NP w (v.alloc (.map #[] 0)) r A B (some v.heap.size) []:=
 have g:=h.grow (.map #[] 0)
 ⟨g.kp,g.node,g.list,fun b e=>by cases e;exact⟨h.kp.size,⟨#[],0,aJ v _,trivial⟩⟩⟩
theorem NP.put{mb:Nat}(h:NP w v r A B (some mb) []):∃v',(Instr.mapUpdate ck (.map (some mb)) (.agg r.1) (.int .i64 0)).run prog v=.ok () v'/\NP w v' r A B (some mb) [r]:=by
 obtain⟨h1,h2⟩:=h.map mb rfl;obtain⟨v',hr,hm,hk⟩:=h2.put (h:=r) (by simp);have I0:∀ {k:Nat} {cs:Array Value} {t:TypeId},v.heap[k]? =some (.cells cs t (0,0))->¬(k=mb):=fun hk e=>by
  obtain⟨es,clock,J0,_⟩:=h2.ex;rw [e,J0]at hk;cases hk
 refine⟨v',hr,h.kp.trans hk (fun k hk e=>by omega),fun b e=>⟨(h.node b e).1,hk.heap (h.node b e).2 (I0 (h.node b e).2)⟩,fun b e=>⟨(h.list b e).1,?_⟩,fun b e=>by cases e;exact⟨h1,hm⟩⟩;obtain⟨nb,e1,e2⟩:=(h.list b e).2;exact⟨nb,e1,hk.heap e2 (I0 e2)⟩
theorem rf(r:HT){a b:HT}:¬mL [(⟨r,[]⟩:DN)] a b:=fun⟨nd,h1,_,h2⟩=>by
 simp at h1;subst h1;simp at h2
theorem yk(r:HT){a b:HT}:¬eI [(⟨r,[]⟩:DN)] a b:=fun h=>by
 cases h with
 |one h=>exact rf r h
 |more _ h=>exact rf r h
theorem NP.fin{w0:World}{nb lb mb:Nat}(h:NP w v r (some nb) (some lb) (some mb) [r])(hw:w0.heap.size<=w.heap.size):
 BJ (v.alloc (.cells #[.slice (some ⟨lb,0,none⟩) 1 1,.map (some mb)] gE)) (fun k=>w0.heap.size<=k/\k<(v.alloc (.cells #[.slice (some ⟨lb,0,none⟩) 1 1,.map (some mb)] gE)).heap.size) (fun _=>False) v.heap.size [⟨r,[]⟩]:=by
 have g:=h.grow (.cells #[.slice (some ⟨lb,0,none⟩) 1 1,.map (some mb)] gE);have iH:=aJ v (.cells #[.slice (some ⟨lb,0,none⟩) 1 1,.map (some mb)] gE);generalize v.alloc (.cells #[.slice (some ⟨lb,0,none⟩) 1 1,.map (some mb)] gE)=u at g iH;have hs:=h.kp.size;obtain⟨n1,n2⟩:=g.node nb rfl;obtain⟨l1,nb',e,l2⟩:=g.list lb rfl;cases e;obtain⟨m1,m2⟩:=g.map mb rfl;have oL:fX [⟨r,[]⟩] r= []:=by
  cases hc:fX [⟨r,[]⟩] r with
  |nil=>rfl
  |cons b t=>exact absurd (iY.1 (show b∈fX [⟨r,[]⟩] r by rw [hc];simp)).2 (rf r)
 refine⟨lb,1,mb,[ow nb],iH,Row.made (n:=1) (cur:= #[.pointer (some ⟨nb,0,none⟩)]) l2 (Nat.zero_le _) rfl (by decide),m2,rfl,fun i nd m hi hm=>?_,fun i j m m' h1 h2 fg k hk=>?_,⟨by omega,aS iH⟩,⟨by omega,aS l2⟩,⟨by omega,m2.lt⟩,fun _ _ h=>h,fun k hk=>hk.elim (fun h=>h.2) (fun h=>h.elim)⟩
 ·cases i with
  |zero=>
   simp at hi hm;subst hi;subst hm;refine⟨n2,⟨Nat.le_trans hw n1,aS n2⟩,HS.nil _ _,(fun a ha=>by cases ha),?_,(fun k hk=>by cases hk),⟨rfl,fun i x hx=>by simp [ow]at hx⟩,(fun a ha=>by cases ha),by simp [okW,ow],fun j=>?_,by simp [ow]⟩
   ·show bQ u 0 none 0 0 (fX [⟨r,[]⟩] r)
    rw [oL];exact bQ.nil _ _
   ·show bit [] j=true↔_
    rw [xo];exact⟨(fun h=>by cases h),fun⟨nj,_,h⟩=>absurd h (yk r)⟩
  |succ i=>simp at hi
 ·have hm:m=ow nb:=by
   have:=List.mem_of_getElem? h1;simpa using this
  subst hm;cases hk
theorem fF(r:HT)(hK:∀v gb,BJ v (fun k=>w.heap.size<=k/\k<v.heap.size) (fun _=>False) gb [⟨r,[]⟩]->Kept Nil w v->K (.pointer (some ⟨gb,0,none⟩)) v):
 bj prog lU.id #[.agg r.1] w K:=by
 refine lU.of ?_;unfold lU.W;intro w2 w3;have k2:Kept Nil w w2:=(Kept.refl _ _).alloc _;have lS:w2.heap[w.heap.size]? =some (.cells r.1 aj (0,0)):=aJ w _;have k3:Kept Nil w w3:=k2.drew;have pe:w3.heap[w.heap.size]? =some (.cells r.1 aj (0,0)):=lS;clear_value w3;have N3:NP w3 w3 r none none none []:=⟨Kept.refl _ _,(fun b e=>by cases e),(fun b e=>by cases e),(fun b e=>by cases e)⟩;have ml:∀ {v:World},Kept Nil w3 v->∃cs:Array Value,(.agg r.1:Value)=.agg cs/\cs.size=32/\Cells v (⟨w.heap.size,0,none⟩:Addr) cs:=fun k=>⟨r.1,rfl,r.2.1,Cells.bC (k.heap pe (fun h=>h))⟩;have um:∀ {v:World} {nb lb mb:Nat},NP w3 v r (some nb) (some lb) (some mb) [r]->K (.pointer (some ⟨v.heap.size,0,none⟩)) (v.alloc (.cells #[.slice (some ⟨lb,0,none⟩) 1 1,.map (some mb)] gE)):=fun h=>hK _ _ (h.fin k3.size) ((k3.tt h.kp).alloc _);refine⟨r.1,⟨r.2.1,Cells.bC pe⟩,?_⟩;have Tc:∀b,prog.built dE [(0,.agg r.1)]=some (fD r (ow b)):=fun b=>EI r b;rw [Tc 0];refine Is.mk rfl ?_;refine⟨r.1,⟨r.2.1,Cells.bC pe⟩,?_⟩;refine⟨?_,?_⟩
 ·have N7:NP w3 (w3.alloc (.cells (fD r (ow w3.heap.size)) dE)) r (some w3.heap.size) none none []:=N3.addNode
  refine⟨ml N7.kp,?_,?_⟩
  ·have N8:=N7.pg
   have N9:=N8.BF;obtain⟨v,hr,QK⟩:=N9.put;exact⟨ml N8.kp,ml N9.kp,v,hr,um QK⟩
  ·have PK:=N7.BF
   refine⟨ml PK.kp,?_,?_⟩
   ·have KO:=PK.pg
    obtain⟨v,hr,PJ⟩:=KO.put;exact⟨ml KO.kp,v,hr,um PJ⟩
   ·obtain⟨v,hr,QJ⟩:=PK.put
    exact⟨v,hr,um QJ.pg⟩
 ·have IT:=N3.BF
  refine⟨ml IT.kp,ml IT.kp,?_,?_⟩
  ·have Mn:NP w3 ((w3.alloc (.map #[] 0)).alloc (.cells (fD r (ow (w3.alloc (.map #[] 0)).heap.size)) dE)) r (some (w3.alloc (.map #[] 0)).heap.size) none (some w3.heap.size) []:=IT.addNode
   refine⟨ml Mn.kp,?_,?_⟩
   ·have Mm:=Mn.pg
    obtain⟨v,hr,QH⟩:=Mm.put;exact⟨ml Mm.kp,v,hr,um QH⟩
   ·obtain⟨v,hr,VM⟩:=Mn.put
    exact⟨v,hr,um VM.pg⟩
  ·obtain⟨v,hr,PI⟩:=IT.put
   exact⟨v,hr,ml PI.kp,um PI.addNode.pg⟩
end
section
variable{w w':World}{S S' F:Nat->Prop}{g bl c mb:Nat}{D:DG}{C:HT->List HT}{M:List NM}{K:Value->World->Prop}
end
section
variable{w w':World}{S S' F:Nat->Prop}{g bl c mb:Nat}{D:DG}{C:HT->List HT}{M:List NM}{K:Value->World->Prop}
end
theorem dN{w:World}{b:Nat}{z cs:Array Value}{t:TypeId}(h:w.heap[b]? =some (.cells z t (0,0)))(hz:z.size=cs.size):
 (∀j,j<cs.size->Wr w ((⟨b,0,none⟩:Addr).add j))/\(setCells w ⟨b,0,none⟩ cs.toList 0).heap[b]? =some (.cells cs t (0,0))/\Kept (· =b) w (setCells w ⟨b,0,none⟩ cs.toList 0):=by
 refine⟨fun j hj=>?_,?_,fO _ _ _ _⟩
 ·rw [a7,Nat.zero_add]
  exact dK h (by omega)
 ·have h1:=jI cs.toList z w t 0 0 h (by simp;omega)
  rw [h1,tB (by simp [hz])]
def hx(i:Nat)(hi:i<256):HT:=⟨#[.int .u8 (i:Int),.int .u8 0,.int .u8 0,.int .u8 0,.int .u8 0,.int .u8 0,.int .u8 0,.int .u8 0,.int .u8 0,.int .u8 0,.int .u8 0,.int .u8 0,.int .u8 0,.int .u8 0,.int .u8 0,.int .u8 0,.int .u8 0,.int .u8 0,.int .u8 0,.int .u8 0,.int .u8 0,.int .u8 0,.int .u8 0,.int .u8 0,.int .u8 0,.int .u8 0,.int .u8 0,.int .u8 0,.int .u8 0,.int .u8 0,.int .u8 0,.int .u8 0],rfl,fun v hv=>by
 simp only [List.mem_cons,List.not_mem_nil,or_false]at hv;rcases hv with rfl|hv
 ·exact⟨i,rfl,by omega,by omega⟩
 ·exact⟨0,by simpa using hv,by omega,by omega⟩⟩
theorem ry{i j:Nat}{hi:i<256}{hj:j<256}(h:i≠j):hx i hi≠hx j hj:=fun e=>by
 have:=congrArg (fun a:HT=>a.1[0]?) e;simp [hx]at this;omega
section
variable{w w':World}{K:Value->World->Prop}
end
theorem HS.lay{w:World}{b:Nat}{l:List HT}{t:TypeId}(hb:w.heap[b]? =some (.cells (cP l).toArray t (0,0))):HS w (some ⟨b,0,Option.none⟩) l.length l:=
 ⟨rfl,fun i x hi=>⟨_,rfl,aS hb,fun j v hj=>by
   rw [a7,a7,Nat.zero_add,ay hb];simpa using jV hi hj⟩⟩
section
variable{r a b c:HT}(Ek:r≠a)(yT:r≠b)(Ly:r≠c)(lD:a≠b)(Mc:a≠c)(Hy:b≠c)
abbrev kD(r a b c:HT):DG:= [⟨r,[]⟩,⟨a,[r]⟩,⟨b,[r]⟩,⟨c,dd [a,b]⟩]
include Ek in
theorem k1:c9 [⟨r,[]⟩] a [r]=0/\lP [⟨r,[]⟩] a [r]= [⟨r,[]⟩,⟨a,[r]⟩]:=by
 have h:c9 [⟨r,[]⟩] a [r]=0:=by
  unfold c9;rw [if_neg (by simp [ids];exact fun e=>Ek e.symm),sZ,if_neg (by simp),if_neg (by simp [ids])]
 exact⟨h,by unfold lP;rw [if_pos h,sZ];rfl⟩
include yT lD in
theorem k2:c9 [⟨r,[]⟩,⟨a,[r]⟩] b [r]=0/\lP [⟨r,[]⟩,⟨a,[r]⟩] b [r]= [⟨r,[]⟩,⟨a,[r]⟩,⟨b,[r]⟩]:=by
 have h:c9 [⟨r,[]⟩,⟨a,[r]⟩] b [r]=0:=by
  unfold c9;rw [if_neg (by simp [ids];exact⟨fun e=>yT e.symm,fun e=>lD e.symm⟩),sZ,if_neg (by simp),if_neg (by simp [ids])]
 exact⟨h,by unfold lP;rw [if_pos h,sZ];rfl⟩
include Ly lD Mc Hy in
theorem k3:c9 [⟨r,[]⟩,⟨a,[r]⟩,⟨b,[r]⟩] c [a,b]=0/\lP [⟨r,[]⟩,⟨a,[r]⟩,⟨b,[r]⟩] c [a,b]=kD r a b c:=by
 have hl:(dd [a,b]).length=2:=pw (by simp [lD]);have h:c9 [⟨r,[]⟩,⟨a,[r]⟩,⟨b,[r]⟩] c [a,b]=0:=by
  unfold c9;rw [if_neg (by simp [ids];exact⟨fun e=>Ly e.symm,fun e=>Mc e.symm,fun e=>Hy e.symm⟩),hl,if_neg (by simp),if_neg];rintro⟨p,hp,hn⟩;rw [cZ]at hp;simp at hp;simp [ids]at hn;rcases hp with rfl|rfl
  ·exact hn.2.1 rfl
  ·exact hn.2.2 rfl
 exact⟨h,by unfold lP;rw [if_pos h];rfl⟩
end
section
variable{w w':World}{K:Value->World->Prop}
end
structure ajJ(w:World)(S F:Nat->Prop)(g:Nat)(FR:Nat->Prop)(r:Nat)(D:DG):Prop where
 G:BJ w S F g D
 R:sW w FR r D
 rS:¬S r
 rF:¬F r
 fS:∀k,FR k->¬S k
 low:∀k,FR k->k<w.heap.size
section
variable{w v w':World}{S F S2 F2 FR:Nat->Prop}{g r:Nat}{D D':DG}{K:Value->World->Prop}
theorem HZ(h:HT):prog.built bK [(0,.agg h.1)]=some (h.1.push (.slice none 0 0)):=by
 have hs:=h.2.1;rw [mI C0,iu (off:=0) (size:=32) rfl (by simpa [Value.cells]using hs) (by simp)];simp only [Instr.fill,Option.some.injEq];apply Array.ext';unfold gk;simp [Value.cells,hs]
end
end Go.Proofs.YtnboahlopghcjaaGreatDoor
