import Derived.Test.YtfleamccglihoaaGreatDoorProg
import Derived.Shelf.SlSortCmp.NoneTotal
import Derived.Shelf.SlMaps.Clone
import Derived.Shelf.Spec.TrailingZeros
import Derived.Shelf.Strconv.Itoa0
import Derived.Shelf.Bits.Mul64
import Derived.Test.YtfleamccglihoaaGreatDoorMA
import Derived.Test.YtfleamccglihoaaGreatDoorMB
import Derived.Lib.BytesEntry
import Derived.Test.YtfleamccglihoaaGreatDoorMC
import Derived.LaidEql
open Go.IntKind (i64 u64)
set_option linter.unusedVariables false
namespace Go.Proofs
open Go.Shelf
def Tryz.nX:Go.Shelf.Ren:=⟨fun|6=>53|15=>98|14=>97|28=>135|29=>136|20=>127|21=>128|22=>129|23=>130|24=>131|25=>132|26=>133|27=>134|46=>152|47=>153|48=>154|49=>155|50=>156|57=>163|n=>n,fun|22=>33|24=>24|25=>106|3=>3|39=>150|0=>0|53=>182|55=>22|4=>4|46=>176|45=>175|50=>162|5=>5|9=>9|66=>204|70=>208|76=>215|77=>216|n=>n,fun|n=>n⟩
theorem Tryz.uw:Go.Proofs.SlLaysF0.n6 prog Tryz.nX:= {
 mixed:=by kernel_rfl
 f6:=⟨f53.name,by decide,func53.trans (congrArg some (by kernel_rfl))⟩
 f14:=⟨f97.name,by decide,func97.trans (congrArg some (by kernel_rfl))⟩
 f15:=func98.trans (congrArg some (by kernel_rfl))
 f20:=⟨f127.name,by decide,func127.trans (congrArg some (by kernel_rfl))⟩
 f21:=⟨f128.name,by decide,func128.trans (congrArg some (by kernel_rfl))⟩
 f22:=⟨Tryz.f129.name,by decide,func129.trans (congrArg some (by kernel_rfl))⟩
 f23:=⟨f130.name,by decide,func130.trans (congrArg some (by kernel_rfl))⟩
 f24:=⟨f131.name,by decide,func131.trans (congrArg some (by kernel_rfl))⟩
 f25:=⟨f132.name,by decide,func132.trans (congrArg some (by kernel_rfl))⟩
 f26:=⟨f133.name,by decide,func133.trans (congrArg some (by kernel_rfl))⟩
 f27:=⟨f134.name,by decide,func134.trans (congrArg some (by kernel_rfl))⟩
 f28:=func135.trans (congrArg some (by kernel_rfl))
 f29:=func136.trans (congrArg some (by kernel_rfl))
 f46:=⟨f152.name,by decide,func152.trans (congrArg some (by kernel_rfl))⟩
 f47:=func153.trans (congrArg some (by kernel_rfl))
 f48:=func154.trans (congrArg some (by kernel_rfl))
 f49:=⟨f155.name,by decide,func155.trans (congrArg some (by kernel_rfl))⟩
 f50:=⟨f156.name,by decide,func156.trans (congrArg some (by kernel_rfl))⟩
 f57:=⟨f163.name,by decide,func163.trans (congrArg some (by kernel_rfl))⟩
 t0:=underlying0
 a0:=isAgg0
 z0:=sizeOf0
 v0:=zeroValue0
 t3:=underlying3
 a3:=isAgg3
 z3:=sizeOf3
 v3:=zeroValue3
 t4:=underlying4
 a4:=isAgg4
 z4:=sizeOf4
 v4:=zeroValue4
 t5:=underlying5
 a5:=isAgg5
 z5:=sizeOf5
 v5:=zeroValue5
 t9:=underlying9
 a9:=isAgg9
 z9:=sizeOf9
 v9:=zeroValue9
 t22:=underlying33
 a22:=isAgg33
 z22:=sizeOf33
 v22:=zeroValue33
 t25:=underlying106
 a25:=isAgg106
 z25:=sizeOf106
 v25:=zeroValue106
 t39:=underlying150
 a39:=isAgg150
 z39:=sizeOf150
 v39:=zeroValue150
 t45:=underlying175
 a45:=isAgg175
 z45:=sizeOf175
 v45:=zeroValue175
 t46:=underlying176
 a46:=isAgg176
 z46:=sizeOf176
 v46:=zeroValue176
 t50:=underlying162
 a50:=isAgg162
 z50:=sizeOf162
 v50:=zeroValue162
 t53:=underlying182
 a53:=isAgg182
 z53:=sizeOf182
 v53:=zeroValue182
 t55:=underlying22
 a55:=isAgg22
 z55:=sizeOf22
 v55:=zeroValue22
 t66:=underlying204
 a66:=isAgg204
 z66:=sizeOf204
 v66:=zeroValue204
 t70:=underlying208
 a70:=isAgg208
 z70:=sizeOf208
 v70:=zeroValue208
 t76:=underlying215
 a76:=isAgg215
 z76:=sizeOf215
 v76:=zeroValue215
 t77:=underlying216
 a77:=isAgg216
 z77:=sizeOf216
 v77:=zeroValue216}
def Tryz.jg:Go.Shelf.Ren:=⟨fun|29=>159|n=>n,fun|22=>22|3=>3|4=>4|25=>150|54=>218|0=>0|5=>5|n=>n,fun|1=>1|n=>n⟩
theorem Tryz.tzL:Go.Proofs.Lays7.n29 prog Tryz.jg:= {
 mixed:=by kernel_rfl
 f29:=func159.trans (congrArg some (by kernel_rfl))
 t0:=underlying0
 a0:=isAgg0
 z0:=sizeOf0
 v0:=zeroValue0
 i0:=by kernel_rfl
 t3:=underlying3
 a3:=isAgg3
 z3:=sizeOf3
 v3:=zeroValue3
 i3:=by kernel_rfl
 t4:=underlying4
 a4:=isAgg4
 z4:=sizeOf4
 v4:=zeroValue4
 i4:=by kernel_rfl
 t5:=underlying5
 a5:=isAgg5
 z5:=sizeOf5
 v5:=zeroValue5
 i5:=by kernel_rfl
 t22:=underlying22
 a22:=isAgg22
 z22:=sizeOf22
 v22:=zeroValue22
 i22:=by kernel_rfl
 t25:=underlying150
 a25:=isAgg150
 z25:=sizeOf150
 v25:=zeroValue150
 i25:=by kernel_rfl
 t54:=underlying218
 a54:=isAgg218
 z54:=sizeOf218
 g1:=by kernel_rfl}
def Tryz.wS:Go.Shelf.Ren:=⟨fun|129=>136|n=>n,fun|53=>22|3=>3|4=>4|46=>150|5=>5|9=>9|n=>n,fun|n=>n⟩
theorem Tryz.Gx:Go.Proofs.Lays.n129 prog Tryz.wS:= {
 mixed:=by kernel_rfl
 f129:=func136.trans (congrArg some (by kernel_rfl))
 t3:=underlying3
 a3:=isAgg3
 z3:=sizeOf3
 v3:=zeroValue3
 t4:=underlying4
 a4:=isAgg4
 z4:=sizeOf4
 v4:=zeroValue4
 t5:=underlying5
 a5:=isAgg5
 z5:=sizeOf5
 v5:=zeroValue5
 t9:=underlying9
 a9:=isAgg9
 z9:=sizeOf9
 v9:=zeroValue9
 t46:=underlying150
 a46:=isAgg150
 z46:=sizeOf150
 v46:=zeroValue150
 t53:=underlying22
 a53:=isAgg22
 z53:=sizeOf22
 v53:=zeroValue22}
def Tryz.wR:Go.Shelf.Ren:=⟨fun|264=>161|n=>n,fun|53=>22|46=>150|n=>n,fun|n=>n⟩
theorem Tryz.Gw:Go.Proofs.Lays.n264 prog Tryz.wR:= {
 mixed:=by kernel_rfl
 f264:=func161.trans (congrArg some (by kernel_rfl))
 t46:=underlying150
 a46:=isAgg150
 z46:=sizeOf150
 v46:=zeroValue150
 t53:=underlying22
 a53:=isAgg22
 z53:=sizeOf22
 v53:=zeroValue22}
end Go.Proofs
namespace Go.bE
open Go.RowKit
theorem jt.mono{P:Program}{l:Nat}{args:Array Value}{w:World}{R R':Bool->World->Prop}(h:jt P l args w R)(hr:∀b w',R b w'->R' b w'):jt P l args w R':=by
 obtain⟨g,tmps,assign,body,h1,h2⟩:=h;exact⟨g,tmps,assign,body,h1,fun r m=>RoundIn.mono (h2 r m) fun e w' ⟨b,he,hb⟩=>⟨b,he,hr _ _ hb⟩⟩
def gg(xs:List Value)(k:Nat)(vs:List Value):List Value:=xs.take k++vs++xs.drop (k+vs.length)
theorem oM(xs:List Value)(k:Nat):gg xs k []=xs:=by simp [gg]
theorem nr{xs:List Value}{k:Nat}(hk:k<xs.length)(v:Value)(vs:List Value):gg xs k (v::vs)=gg (xs.set k v) (k+1) vs:=by
 unfold gg;rw [List.take_add_one,List.take_set_of_le (Nat.le_refl k),List.getElem?_set_self hk,List.drop_set];rw [if_pos (by omega),List.length_cons,show k+(vs.length+1)=k+1+vs.length by omega];simp
theorem lZ{xs:List Value}{k:Nat}{vs:List Value}(h:k+vs.length<=xs.length):(gg xs k vs).length=xs.length:=by
 unfold gg;simp;omega
theorem rR{xs vs:List Value}(h:vs.length=xs.length):gg xs 0 vs=vs:=by
 unfold gg;simp [h]
section
variable{w:World}{B:Nat}{e:TypeId}{size n c b:Nat}
theorem pf:∀(vs:List Value) (xs:List Value) (w:World) (o i:Nat),Row w B e size (some ⟨b,0,none⟩) n c xs->o+i+vs.length<=xs.length->
 Row (setCells w ⟨b,o,none⟩ vs i) B e size (some ⟨b,0,none⟩) n c (gg xs (o+i) vs)
 | [],xs,w,o,i,h,_=>by rw [oM];exact h
 |v::vs,xs,w,o,i,h,hl=>by
  rw [List.length_cons]at hl;rw [nr (by omega)];simp only [setCells];rw [bt];have h1:=Row.set h (j:=o+i) (by omega) v;have:=pf vs (xs.set (o+i) v) _ o (i+1) h1 (by rw [List.length_set];omega)
  rwa [show o+(i+1)=o+i+1 by omega]at this
theorem fR:∀(vs:List Value) (w:World) (o i:Nat),Kept (· =b) w (setCells w ⟨b,o,none⟩ vs i)
 | [],w,o,i=>Kept.refl _ _
 |v::vs,w,o,i=>by
  simp only [setCells];rw [bt];exact(Kept.setCell (S:=fun k=>k=b) (Kept.refl _ w) (p:=⟨b,o+i,none⟩) (fun _=>rfl) v).tt (fR vs _ o (i+1))
theorem jm:∀(vs:List Value) (cur:Array Value) (w:World) (t:TypeId) (o i:Nat),w.heap[b]? =some (.cells cur t (0,0))->o+i+vs.length<=cur.size->
 (setCells w ⟨b,o,none⟩ vs i).heap[b]? =some (.cells (gg cur.toList (o+i) vs).toArray t (0,0))
 | [],cur,w,t,o,i,h,_=>by rw [oM];simpa [setCells]using h
 |v::vs,cur,w,t,o,i,h,hl=>by
  rw [List.length_cons]at hl;rw [nr (by simp;omega)];simp only [setCells];rw [bt];have h1:=cR h (o+i) v;have:=jm vs _ _ t o (i+1) h1 (by simp;omega);rw [show o+(i+1)=o+i+1 by omega]at this;rw [this];simp
theorem fY{z cs:Array Value}{t:TypeId}(hz:z.size=cs.size):
 (∀j,j<cs.size->Wr (w.alloc (.cells z t)) ((aU w.heap.size).add j))/\
 (setCells (w.alloc (.cells z t)) ⟨w.heap.size,0,none⟩ cs.toList 0).heap[w.heap.size]? =some (.cells cs t (0,0))/\
 Kept Nil w (setCells (w.alloc (.cells z t)) ⟨w.heap.size,0,none⟩ cs.toList 0):=by
 refine⟨fun j hj=>?_,?_,?_⟩
 ·rw [bt,Nat.zero_add]
  exact dz (aR w _) (by omega)
 ·have h:=jm cs.toList z (w.alloc (.cells z t)) t 0 0 (aR w _) (by simp;omega)
  rw [h,rR (by simp [hz])]
 ·exact((Kept.refl Nil w).alloc _).trans (fR cs.toList _ 0 0) (fun k hk e=>absurd hk (by omega))
end
end Go.bE
namespace Go.bE
theorem AK:∀(vs:List Value) (off k:Nat) (cells:Array Value),off+k+vs.length<=cells.size->
 ((vs.zipIdx k).foldl (fun(cs:Array Value) (p:Value×Nat)=>cs.setIfInBounds (off+p.2) p.1) cells)=(gg cells.toList (off+k) vs).toArray
 | [],off,k,cells,_=>by rw [oM];simp
 |v::vs,off,k,cells,h=>by
  rw [List.length_cons]at h;rw [nr (by simp;omega),List.zipIdx_cons,List.foldl_cons];have:=AK vs off (k+1) (cells.setIfInBounds (off+k) v) (by simp;omega);rw [this,Array.toList_setIfInBounds];rfl
theorem jA{place:Nat->Option (Nat×Nat)}{cells:Array Value}{i off size:Nat}{v:Value}{rest:List (Nat×Value)}(hp:place i=some (off,size))(hs:v.cells.size=size)(hle:off+size<=cells.size):
 Instr.fill place cells ((i,v)::rest)=Instr.fill place (gg cells.toList off v.cells.toList).toArray rest:=by
 rw [Instr.fill,hp];simp only;rw [if_neg (by simp;omega)]
 congr 1
 have h:=AK v.cells.toList off 0 cells (by simp;omega);rw [Nat.add_zero]at h;rw [<-h,<-Array.foldl_toList,Array.toList_zipIdx]
def Q5(P:Program)(t:TypeId):Option (List (Nat×Nat)×List Value):=
 match P.info? t,P.underlying t with
 |some it,some (.struct fields)=>
  match it.zero,fields.toList.mapM (fun f=>(P.info? f.type).map fun i=>(f.offset,i.size))with
  |some z,some places=>some (places,z.cells.toList)
  |_,_=>none
 |_,_=>none
theorem pU{P:Program}{t:TypeId}{pl:List (Nat×Nat)}{z:List Value}(h:Q5 P t=some (pl,z))(parts:List (Nat×Value)):
 P.built t parts=Instr.fill (pl.toArray[·]?) z.toArray parts:=by
 unfold Q5 at h;split at h
 ·rename_i it fields h1 h2
  split at h
  ·rename_i z' pl' h3 h4
   simp only [Option.some.injEq,Prod.mk.injEq]at h;obtain⟨rfl,rfl⟩:=h;unfold Program.built;rw [h1,h2];simp only [h3,h4]
  ·cases h
 ·cases h
def oQ:List Nat->Array Value
 | []=> #[]
 |D::l=> #[.pointer (some ⟨D,0,none⟩)]++oQ l
theorem lM:∀l,marksOf (.agg (oQ l))=l
 | []=>rfl
 |D::l=>by
  have ih:=lM l;simp only [oQ,marksOf]at*;simp [ih]
theorem kM:∀(l:List Nat) (w:World),l.Nodup->(∀D∈l,w.heap[D]? =some (.deferred (some [])))->jG l w
 | [],_,_,_=>trivial
 |D::l,w,hn,h=>by
  rw [List.nodup_cons]at hn;refine⟨h D (by simp),kM l _ hn.2 fun E hE=>?_⟩;have fG:D≠E:=fun e=>hn.1 (by rw [e];exact hE);exact(World.putObj_heap_other fG.symm).trans (h E (by simp [hE]))
theorem jh:∀(l:List Nat) (w:World),Kept (· ∈l) w (fi l w)
 | [],w=>Kept.refl _ w
 |D::l,w=>((Kept.putAt w D (.deferred none)).mono (S':=fun k=>k∈D::l) (fun k _ e=>by subst e;simp)).trans (jh l _) (fun k _ h=>by simp [h])
open Go.RowKit
section
variable{P:Program}{n:Nat}
end
end Go.bE
namespace Go.Proofs.YtfleamccglihoaaGreatDoor
open Go.Proofs.Tryz
open Go Go.bE Go.RowKit
def Og(cs:Array Value):Prop:=cs.size=32/\∀v∈cs.toList,∃i:Int,v=.int .u8 i/\0<=i/\i<256
abbrev HT:= {cs:Array Value//Og cs}
def key(h:HT):List Int:=h.1.toList.map kF
theorem Og.ints{cs:Array Value}(h:Og cs):fT .u8 32 cs:=⟨h.1,fun v hv=>let ⟨i,e,_⟩:=h.2 v hv;⟨i,e⟩⟩
theorem xf:∀ {a b:List Value},(∀v∈a,∃i:Int,v=.int .u8 i)->(∀v∈b,∃i:Int,v=.int .u8 i)->a.map kF=b.map kF->a=b
 | [],[],_,_,_=>rfl
 | [],_::_,_,_,h=>by simp at h
 |_::_,[],_,_,h=>by simp at h
 |x::a,y::b,ha,hb,h=>by
  obtain⟨i,rfl⟩:=ha x (by simp);obtain⟨j,rfl⟩:=hb y (by simp);simp only [List.map_cons,List.cons.injEq,kF]at h;rw [h.1,xf (fun v hv=>ha v (by simp [hv])) (fun v hv=>hb v (by simp [hv])) h.2]
theorem key_inj{a b:HT}(h:key a=key b):a=b:=by
 apply Subtype.ext;apply Array.ext';exact xf (fun v hv=>a.2.ints.2 v hv) (fun v hv=>b.2.ints.2 v hv) h
instance:DecidableEq HT:=fun a b=>if h:key a=key b then isTrue (key_inj h)else isFalse fun e=>h (by rw [e])
theorem gw(a b:HT):gh a.1 b.1=decide (a=b):=by
 unfold gh;by_cases e:a=b
 ·subst e;simp
 ·rw [decide_eq_false e]
  have:¬(key a=key b):=fun h=>e (key_inj h);simpa [key]using this
theorem Og.one{cs:Array Value}(h:Og cs):∀v∈cs.toList,v.oneCell'=true:=fun v hv=>by
 obtain⟨i,rfl,_⟩:=h.2 v hv;rfl
def vP:List Int->List Int->Bool
 | [],[]=>false
 | [],_::_=>true
 |_::_,[]=>false
 |x::a,y::b=>if x<y then true else if y<x then false else vP a b
def cI(a b:HT):Bool:=vP (key a) (key b)
theorem si:∀a,vP a a=false
 | []=>rfl
 |x::a=>by simp [vP,si a]
theorem uD:∀ {a b c},vP a b=true->vP b c=true->vP a c=true
 | [],[],_,h,_=>by simp [vP]at h
 | [],_::_,[],_,h=>by simp [vP]at h
 | [],_::_,_::_,_,_=>rfl
 |_::_,[],_,h,_=>by simp [vP]at h
 |_::_,_::_,[],_,h=>by simp [vP]at h
 |x::a,y::b,z::c,h,h'=>by
  simp only [vP]at*;by_cases h1:x<y
  ·by_cases h2:y<z
   ·rw [if_pos (by omega)]
   ·rw [if_neg h2]at h'
    by_cases h3:z<y
    ·rw [if_pos h3]at h';cases h'
    ·rw [if_pos (by omega)]
  ·rw [if_neg h1]at h
   by_cases h2:y<x
   ·rw [if_pos h2]at h;cases h
   ·rw [if_neg h2]at h
    by_cases h3:y<z
    ·rw [if_pos (by omega)]
    ·rw [if_neg h3]at h'
     by_cases h4:z<y
     ·rw [if_pos h4]at h';cases h'
     ·rw [if_neg h4]at h'
      rw [if_neg (by omega),if_neg (by omega)];exact uD h h'
theorem uE:∀ {a b},a.length=b.length->vP a b=false->vP b a=false->a=b
 | [],[],_,_,_=>rfl
 | [],_::_,h,_,_=>by simp at h
 |_::_,[],h,_,_=>by simp at h
 |x::a,y::b,hl,h,h'=>by
  simp only [vP]at*;by_cases h1:x<y
  ·rw [if_pos h1]at h;cases h
  ·rw [if_neg h1]at h
   by_cases h2:y<x
   ·rw [if_pos h2]at h';cases h'
   ·rw [if_neg h2]at h h'
    rw [if_neg h1]at h';have:x=y:=by omega
    rw [this,uE (by simpa using hl) h h']
theorem om(a:HT):(key a).length=32:=by have:=a.2.1;simpa [key]using this
theorem ot{a b:HT}(h:cI a b=false)(h':cI b a=false):a=b:=key_inj (uE (by rw [om,om]) h h')
theorem kz{a b c:HT}(h:cI a b=true)(h':cI b c=true):cI a c=true:=uD h h'
theorem gZ(a:HT):cI a a=false:=si _
theorem qu{a b:HT}(h:cI a b=true):cI b a=false:=by
 cases h':cI b a
 ·rfl
 ·have:=kz h h';rw [gZ]at this;cases this
end Go.Proofs.YtfleamccglihoaaGreatDoor
namespace Go.Proofs.YtfleamccglihoaaGreatDoor
open Go.Proofs.Tryz
open Go Go.bE
def SS(l:List HT):Prop:=l.Pairwise fun a b=>cI a b=true
theorem SS.nodup{l:List HT}(h:SS l):l.Nodup:=List.Pairwise.imp (fun {a b} mH e=>by subst e;rw [gZ]at mH;cases mH) h
theorem SS.cons{x:HT}{l:List HT}:SS (x::l)↔(∀y∈l,cI x y=true)/\SS l:=List.pairwise_cons
theorem vM:∀ {l m:List HT},SS l->SS m->(∀x,x∈l↔x∈m)->l=m
 | [],[],_,_,_=>rfl
 | [],y::m,_,_,h=>by have:=(h y).2 (by simp);simp at this
 |x::l,[],_,_,h=>by have:=(h x).1 (by simp);simp at this
 |x::l,y::m,hl,hm,h=>by
  rw [SS.cons]at hl hm;have lW:x=y:=by
   have h1:=(h x).1 (by simp);have h2:=(h y).2 (by simp);rcases List.mem_cons.1 h1 with h1|h1
   ·exact h1
   ·rcases List.mem_cons.1 h2 with h2|h2
    ·exact h2.symm
    ·have a:=hl.1 _ h2
     have b:=hm.1 _ h1;rw [qu a]at b;cases b
  subst lW
  congr 1
  refine vM hl.2 hm.2 fun z=>?_;have hz:=h z;constructor
  ·intro Yj
   rcases List.mem_cons.1 (hz.1 (by simp [Yj]))with e|e
   ·subst e;have:=hl.1 _ Yj;rw [gZ]at this;cases this
   ·exact e
  ·intro Yi
   rcases List.mem_cons.1 (hz.2 (by simp [Yi]))with e|e
   ·subst e;have:=hm.1 _ Yi;rw [gZ]at this;cases this
   ·exact e
def ins(x:HT):List HT->List HT
 | []=> [x]
 |y::l=>if cI x y then x::y::l else if x=y then y::l else y::ins x l
theorem vl(x z:HT):∀l,z∈ins x l↔z=x\/z∈l
 | []=>by simp [ins]
 |y::l=>by
  unfold ins;split
  ·simp
  ·split
   ·rename_i e;subst e;simp
   ·simp only [List.mem_cons,vl x z l]
    constructor
    ·rintro(h|h|h)<;>simp [h]
    ·rintro(h|h|h)<;>simp [h]
theorem Fv(x:HT):∀ {l:List HT},SS l->SS (ins x l)
 | [],_=>by simp [ins,SS]
 |y::l,h=>by
  have h':=SS.cons.1 h;unfold ins;split
  ·rename_i lW
   refine SS.cons.2 ⟨fun z hz=>?_,h⟩;rcases List.mem_cons.1 hz with rfl|hz
   ·exact lW
   ·exact kz lW (h'.1 _ hz)
  ·split
   ·exact h
   ·rename_i h1 h2
    refine SS.cons.2 ⟨fun z hz=>?_,Fv x h'.2⟩;rcases(vl x z l).1 hz with rfl|hz
    ·cases Mi:cI y z
     ·exact absurd (ot Mi (by simpa using h1)).symm h2
     ·rfl
    ·exact h'.1 _ hz
def di(l:List HT):List HT:=l.foldr ins []
theorem dJ{z:HT}:∀ {l:List HT},z∈di l↔z∈l
 | []=>by simp [di]
 |x::l=>by
  have:= @dJ z l;simp only [di,List.foldr_cons,vl,List.mem_cons]at this⊢;rw [this]
theorem iI:∀l:List HT,SS (di l)
 | []=>List.Pairwise.nil
 |x::l=>Fv x (iI l)
theorem zW{l m:List HT}(h:∀x,x∈l↔x∈m):di l=di m:=vM (iI l) (iI m) fun x=>by rw [dJ,dJ,h]
theorem yi{l m:List HT}(hs:SS l)(h:∀x,x∈l↔x∈m):l=di m:=vM hs (iI m) fun x=>by rw [dJ,h]
theorem Au(x:HT):∀l,(ins x l).length<=l.length+1
 | []=>by simp [ins]
 |y::l=>by
  have:=Au x l;unfold ins;split
  ·simp
  ·split<;>simp<;>omega
theorem nW:∀l:List HT,(di l).length<=l.length
 | []=>by simp [di]
 |x::l=>by
  have h1:=Au x (di l);have h2:=nW l;simp only [di,List.foldr_cons,List.length_cons]at*;omega
theorem oT{x:HT}:∀ {l:List HT},x∉l->(ins x l).length=l.length+1
 | [],_=>by simp [ins]
 |y::l,h=>by
  simp only [List.mem_cons,not_or]at h;have:=oT h.2;unfold ins;split
  ·simp
  ·rw [if_neg h.1];simp;omega
theorem oE:∀ {l:List HT},l.Nodup->(di l).length=l.length
 | [],_=>by simp [di]
 |x::l,h=>by
  rw [List.nodup_cons]at h;have h2:=oE h.2;have:=oT (l:=di l) (x:=x) (fun hm=>h.1 (dJ.1 hm));simp only [di,List.foldr_cons,List.length_cons]at*;omega
theorem qM{x:HT}:∀ {l:List HT},SS l->x∈l->(ins x l).length=l.length
 | [],_,h=>by simp at h
 |y::l,hs,h=>by
  have h':=SS.cons.1 hs;unfold ins;split
  ·rename_i lW
   rcases List.mem_cons.1 h with rfl|h
   ·rw [gZ]at lW;cases lW
   ·have:=h'.1 _ h;rw [qu lW]at this;cases this
  ·split
   ·rfl
   ·rename_i h1 h2
    rcases List.mem_cons.1 h with rfl|h
    ·exact absurd rfl h2
    ·simp [qM h'.2 h]
theorem pC:∀ {l:List HT},(di l).length=l.length->l.Nodup
 | [],_=>List.Pairwise.nil
 |x::l,h=>by
  have h2:=nW l;by_cases hm:x∈l
  ·have:=qM (iI l) (dJ.2 hm)
   simp only [di,List.foldr_cons,List.length_cons]at*;omega
  ·have h3:=oT (l:=di l) (x:=x) (fun h=>hm (dJ.1 h))
   simp only [di,List.foldr_cons,List.length_cons]at*;exact List.nodup_cons.2 ⟨hm,pC (by simp only [di];omega)⟩
theorem Gi:di []= []:=rfl
theorem lY(x:HT):di [x]= [x]:=rfl
theorem wh{l:List HT}(h:SS l):di l=l:=(yi h fun _=>Iff.rfl).symm
theorem LO{l:List HT}{x:HT}{k:Nat}(hs:SS l)(h1:∀y∈l.take k,cI y x=true)(h2:∀y∈l.drop k,cI x y=true):SS (l.take k++x::l.drop k):=by
 unfold SS at*;rw [<-List.take_append_drop k l,List.pairwise_append]at hs;rw [List.pairwise_append,List.pairwise_cons];refine⟨hs.1,⟨h2,hs.2.1⟩,fun y hy z hz=>?_⟩;rcases List.mem_cons.1 hz with rfl|hz
 ·exact h1 y hy
 ·exact hs.2.2 y hy z hz
theorem SS.get{l:List HT}(h:SS l){i j:Nat}(pM:i<j){x y:HT}(hx:l[i]? =some x)(hy:l[j]? =some y):cI x y=true:=by
 obtain⟨h1,rfl⟩:=lgeS hx;obtain⟨h2,rfl⟩:=lgeS hy;exact List.pairwise_iff_getElem.1 h i j h1 h2 pM
theorem AU{l:List HT}{x:HT}(hs:SS l)(h:∀y∈l,cI y x=true):SS (l++ [x]):=by
 have:=LO (k:=l.length) hs (x:=x) (by simpa using h) (by simp);simpa using this
def LE(l:List HT):Prop:=l.Pairwise fun a b=>cI b a=false
theorem lt_of_le_ne{a b:HT}(h:cI b a=false)(hn:a≠b):cI a b=true:=by
 cases mH:cI a b
 ·exact absurd (ot mH h) hn
 ·rfl
theorem qK{a b c:HT}(h:cI b a=false)(h':cI b c=true):cI a c=true:=by
 by_cases e:a=b
 ·subst e;exact h'
 ·exact kz (lt_of_le_ne h e) h'
theorem LE.get{l:List HT}(h:LE l){i j:Nat}(pM:i<j){x y:HT}(hx:l[i]? =some x)(hy:l[j]? =some y):cI y x=false:=by
 obtain⟨h1,rfl⟩:=lgeS hx;obtain⟨h2,rfl⟩:=lgeS hy;exact List.pairwise_iff_getElem.1 h i j h1 h2 pM
theorem bI{l:List HT}{k:Nat}{x z:HT}(hx:l[k]? =some x):z∈l.take (k+1)↔z∈l.take k\/z=x:=by
 rw [List.take_add_one,hx];simp
open Go.RowKit
theorem iu(a:Addr)(k:Nat):(a.add k).block=a.block:=by unfold Addr.add;split<;>rfl
theorem aY{σ:Type}(e:σ->Env)(I:σ->World->Prop)(μ:σ->World->Nat)(s:σ)(w:World)(Q:aM)(l:Nat)(ρ:Env)(w':World):bS e I μ s w Q (.exit l) ρ w'=Q (.exit l) ρ w':=rfl
theorem fS{σ:Type}(e:σ->Env)(I:σ->World->Prop)(μ:σ->World->Nat)(s:σ)(w:World)(Q:aM)(ρ:Env)(w':World):bS e I μ s w Q .ret ρ w'=Q .ret ρ w':=rfl
theorem iF{x:Int}(h0: -9223372036854775808<=x)(h1:x<9223372036854775808):i64.wrap x=x:=by
 simp only [IntKind.wrap,IntKind.bits,IntKind.signed];simp;omega
theorem Cells.aK{S:Nat->Prop}{w w':World}{a:Addr}{cs:Array Value}(h:Cells w a cs)(hk:Kept S w w')(hn:¬S a.block):Cells w' a cs:=
 fun j v hj=>hk.cell (h j v hj) (by rw [iu];exact hn)
theorem Cells.bW{w:World}{b:Nat}{cs:Array Value}{t:TypeId}{fr:Nat×Nat}(h:w.heap[b]? =some (.cells cs t fr)):Cells w ⟨b,0,none⟩ cs:=
 fun j v hj=>by rw [bt,Nat.zero_add,aA h];exact hj
structure HS(w:World)(A:Option Addr)(n:Nat)(l:List HT):Prop where
 len:l.length=n
 at_:∀(i:Nat) (h:HT),l[i]? =some h->∃a,A=some a/\a.block<w.heap.size/\Cells w (a.add (i*32)) h.1
theorem HS.aK{S:Nat->Prop}{w w':World}{A:Option Addr}{n:Nat}{l:List HT}(h:HS w A n l)(hk:Kept S w w')(hn:∀a,A=some a->¬S a.block):HS w' A n l:=⟨h.len,fun i x hi=>by
 obtain⟨a,h1,h2,h3⟩:=h.at_ i x hi;exact⟨a,h1,Nat.lt_of_lt_of_le h2 hk.size,Cells.aK h3 hk (by rw [iu];exact hn a h1)⟩⟩
theorem HS.same{w w':World}{A:Option Addr}{n:Nat}{l:List HT}(h:HS w A n l)(hk:Kept Nil w w'):HS w' A n l:=h.aK hk fun _ _ h=>h
section
variable{w:World}{K:Value->World->Prop}
end
def mR(a b:HT):Int:=if cI a b then-1 else if cI b a then 1 else 0
theorem GD{h:HT}{i:Nat}(hi:i<32):∃x:Int,h.1[i]? =some (.int .u8 x)/\(key h)[i]? =some x/\0<=x/\x<256:=by
 have hs:i<h.1.size:=by rw [h.2.1];exact hi
 obtain⟨x,hx,h1,h2⟩:=h.2.2 h.1[i] (by simp);refine⟨x,by rw [Array.getElem?_eq_getElem hs,hx],?_,h1,h2⟩;unfold key;rw [List.getElem?_map,Array.getElem?_toList,Array.getElem?_eq_getElem hs,hx];rfl
section
variable{w:World}{K:Value->World->Prop}
end
theorem AO{x y:Int}(hx:0<=x/\x<256)(hy:0<=y/\y<256):(x.toNat.toUInt8<y.toNat.toUInt8)↔x<y:=by
 rw [UInt8.lt_iff_toNat_lt];simp only [Nat.toUInt8,UInt8.toNat_ofNat'];omega
theorem lR:∀ {a b:List Int},a.length=b.length->(∀x∈a,0<=x/\x<256)->(∀x∈b,0<=x/\x<256)->
 Lib.compareBytes (Lib.bytesOf a) (Lib.bytesOf b)=if vP a b then-1 else if vP b a then 1 else 0
 | [],[],_,_,_=>rfl
 | [],_::_,h,_,_=>by simp at h
 |_::_,[],h,_,_=>by simp at h
 |x::a,y::b,h,ha,hb=>by
  have hx:=ha x (by simp);have hy:=hb y (by simp);have ih:=lR (a:=a) (b:=b) (by simpa using h) (fun z hz=>ha z (by simp [hz])) (fun z hz=>hb z (by simp [hz]));simp only [Lib.bytesOf,List.map_cons,Lib.compareBytes,AO hx hy,AO hy hx,vP];by_cases h1:x<y
  ·simp [h1]
  ·by_cases h2:y<x
   ·simp [h1,h2]
   ·simp only [h1,h2,if_false]
    exact ih
theorem uJ(h:HT):∀x∈key h,0<=x/\x<256:=by
 intro x hx;simp only [key,List.mem_map]at hx;obtain⟨v,hv,rfl⟩:=hx;obtain⟨i,rfl,h1,h2⟩:=h.2.2 v hv;exact⟨h1,h2⟩
theorem pT(a b:HT):Lib.compareBytes (Lib.bytesOf (key a)) (Lib.bytesOf (key b))=mR a b:=
 lR (by rw [om,om]) (uJ a) (uJ b)
section
variable{w:World}{K:Value->World->Prop}
theorem qv(a b:HT){p q:Addr}{c c':Nat}(ha:Cells w p a.1)(hb:Cells w q b.1)(hK:K (.int .i64 (mR a b)) w):
 bf prog fW.id #[.slice (some p) 32 c,.slice (some q) 32 c'] w K:=by
 refine fW.of ⟨.int .i64 (mR a b),w,?_,_,rfl,hK⟩;have xp:∀(h:HT) (r:Addr),Cells w r h.1->∀j x,(key h)[j]? =some x->w.cell? (r.add j)=some (.int .u8 x):=by
  intro h r hr j x hx;have hj:j<32:=by have:=(lgeS hx).1;rw [om]at this;exact this
  obtain⟨y,hy,ky,_⟩:=GD (h:=h) hj;rw [hx]at ky;cases ky;exact hr j _ hy
 have l1:=Lib.run_loadBytesX (P:=prog) w (key a) p .empty (xp a p ha);have l2:=Lib.run_loadBytesX (P:=prog) w (key b) q .empty (xp b q hb);rw [om]at l1 l2;rw [run_callFunc_extern ru.at_ (by kernel_rfl) (by kernel_rfl) (by kernel_rfl) (e:=Extern.BytealgCompare.compare) (by kernel_rfl)];have hr:(Extern.BytealgCompare.compare #[.slice (some p) 32 c,.slice (some q) 32 c']).run prog w=.ok (.int .i64 (mR a b)) w:=by
  change Sem.run prog (do pure (goInt (Extern.BytealgCompare.cmp (<-Extern.Bytes.bytesOf (.slice (some p) 32 c)) (<-Extern.Bytes.bytesOf (.slice (some q) 32 c'))))) w=_
  simp only [Extern.Bytes.bytesOf,Sem.run_bind,l1,l2,Result.andThen_ok,Sem.run_pure,Lib.cmp_eq,goInt];rw [<-pT];simp
 rw [hr];rfl
theorem nQ(a b:HT)(hK:K (.int .i64 (mR a b)) ((w.alloc (.cells a.1 ax)).alloc (.cells b.1 ax)).drew):bf prog cX.id #[.agg a.1,.agg b.1] w K:=by
 refine cX.of ?_;unfold cX.W;intro w3 w4 w5;have ha:w5.heap[w.heap.size]? =some (.cells a.1 ax (0,0)):=jD (aR w _) _;have hb:w5.heap[w3.heap.size]? =some (.cells b.1 ax (0,0)):=aR w3 _;simp only [if_neg (show ¬(32:Nat)=0 by omega),Nat.zero_mul,add_zero,Nat.sub_zero];exact qv a b (Cells.bW ha) (Cells.bW hb) ⟨_,rfl,hK⟩
end
theorem tm(a:Addr)(m n:Nat):(a.add m).add n=a.add (m+n):=by
 unfold Addr.add;by_cases hm:m=0<;>by_cases hn:n=0<;>simp [hm,hn,Nat.add_assoc]
def cF(l:List HT):List Value:=l.flatMap fun h=>h.1.toList
theorem jM(h:HT)(l:List HT):cF (h::l)=h.1.toList++cF l:=by simp [cF]
theorem kO(l m:List HT):cF (l++m)=cF l++cF m:=by simp [cF]
theorem dE:∀l:List HT,(cF l).length=l.length*32
 | []=>rfl
 |h::l=>by
  have:=h.2.1;rw [jM,List.length_append,dE l,Array.length_toList,this,List.length_cons];omega
theorem y0(l:List HT):∀u∈cF l,u.oneCell'=true:=by
 intro u hu;simp only [cF,List.mem_flatMap]at hu;obtain⟨h,_,hu⟩:=hu;exact h.2.one u hu
theorem jz:∀ {l:List HT} {i:Nat} {h:HT},l[i]? =some h->∀ {j:Nat} {v:Value},h.1[j]? =some v->(cF l)[i*32+j]? =some v
 | [],_,_,hi,_,_,_=>by simp at hi
 |x::l,0,h,hi,j,v,hj=>by
  simp only [List.getElem?_cons_zero,Option.some.injEq]at hi;subst hi;have cI:j<x.1.toList.length:=by simpa using (Array.getElem?_eq_some_iff.1 hj).1
  rw [jM,Nat.zero_mul,Nat.zero_add,List.getElem?_append_left cI,Array.getElem?_toList,hj]
 |x::l,i+1,h,hi,j,v,hj=>by
  simp only [List.getElem?_cons_succ]at hi;have:=x.2.1;rw [jM,List.getElem?_append_right (by simp;omega),Array.length_toList,this,show(i+1)*32+j-32=i*32+j by omega];exact jz hi hj
theorem Ci{l:List HT}{j:Nat}{v:Value}(h:(cF l)[j]? =some v):∃x,l[j/32]? =some x/\x.1[j%32]? =some v:=by
 have hj:=(lgeS h).1;rw [dE]at hj;have hi:j/32<l.length:=by omega
 refine⟨l[j/32],List.getElem?_eq_getElem hi,?_⟩;have hs:=l[j/32].2.1;have hm:j%32<l[j/32].1.size:=by rw [hs];omega
 obtain⟨u,hu⟩:∃u,l[j/32].1[j%32]? =some u:=⟨_,Array.getElem?_eq_getElem hm⟩;have:=jz (List.getElem?_eq_getElem hi) hu;rw [show j/32*32+j%32=j by omega,h]at this;rw [hu,this]
theorem nt:AT prog aV ax 32 32:=⟨by kernel_rfl,by kernel_rfl⟩
abbrev cm(w:World)(B:Nat)(A:Option Addr)(n c:Nat)(l:List HT):Prop:=Row w B ax 32 A n c (cF l)
section
variable{w w':World}{B:Nat}{A:Option Addr}{n c:Nat}{l:List HT}
theorem cm.len(h:cm w B A n c l):l.length=n:=by
 have:=Row.len h;rw [dE]at this;omega
theorem cm.hs(h:cm w B A n c l):HS w A n l:=⟨h.len,fun i x hi=>by
 have hlen:=h.len;have eV:=(lgeS hi).1;obtain⟨b,rfl⟩:=Row.some h (by omega);obtain⟨_,cur,vx⟩:=Row.bW h (k:=b) rfl;refine⟨_,rfl,a7 vx,fun j v hj=>?_⟩;rw [tm];exact Row.cells h _ _ (jz hi hj)⟩
theorem cm.nil(w:World)(B:Nat):cm w B none 0 0 []:=Row.nil _ _ _ _
theorem HS.cells{a:Addr}(h:HS w (some a) n l):∀j u,(cF l)[j]? =some u->w.cell? (a.add j)=some u:=by
 intro j u hj;obtain⟨x,hx,hu⟩:=Ci hj;obtain⟨a',ha,_,hc⟩:=h.at_ _ x hx;cases ha;have:=hc _ _ hu
 rwa [tm,show j/32*32+j%32=j by omega]at this
theorem HS.nil(w:World)(A:Option Addr):HS w A 0 []:=⟨rfl,fun i x hi=>by simp at hi⟩
theorem HS.none(h:HS w none n l):n=0/\l= []:=by
 cases l with
 |nil=>exact⟨h.len.symm,rfl⟩
 |cons x l=>obtain⟨a,ha,_⟩:=h.at_ 0 x rfl;cases ha
theorem HS.drop(h:HS w A n l){k:Nat}(hc:n<=c)(hk:k<=n):HS w (if c=k then A else A.map (·.add (k*32))) (n-k) (l.drop k):=⟨by have:=h.len;simp;omega,fun i x hi=>by
 rw [List.getElem?_drop]at hi;have hlen:=h.len;have:=(lgeS hi).1;obtain⟨a,rfl,hb,vy⟩:=h.at_ _ x hi;rw [if_neg (by omega)];refine⟨_,rfl,by rw [iu];exact hb,?_⟩;rw [tm,<-Nat.add_mul];exact vy⟩
theorem HS.one{w:World}{b:Nat}{h:HT}{t:TypeId}{fr:Nat×Nat}(hb:w.heap[b]? =some (.cells h.1 t fr)):HS w (some ⟨b,0,Option.none⟩) 1 [h]:=⟨rfl,fun i x hi=>by
 cases i with
 |zero=>
  simp only [List.getElem?_cons_zero,Option.some.injEq]at hi;subst hi;exact⟨_,rfl,a7 hb,by rw [Nat.zero_mul,add_zero];exact Cells.bW hb⟩
 |succ i=>simp at hi⟩
theorem gu(ty:Nat)(h:cm w B A n c l){A2:Option Addr}{m cx:Nat}{l2:List HT}(h2:HS w A2 m l2)(hm:n+m<=1000000)(hB:B<=w.heap.size):
 ∃A' c' w',(Builtin.append_ #[aV,aV] ty #[.slice A n c,.slice A2 m cx]).run prog w=.ok (.slice A' (n+m) c') w'/\
  cm w' B A' (n+m) c' (l++l2)/\w.grownBy w' (bm A)/\(∀k,bm A'=some k->bm A=some k\/w.heap.size<=k):=by
 cases A2 with
 |some a=>
  have tC:=h2.len;obtain⟨A',c',w',hr,fU,hg,hb⟩:=im (P:=prog) (t:=aV) (bytes:=32) (ty:=ty) nt h (a:=a) (m:=m) (cx:=cx) (news:=cF l2) (by rw [dE,tC]) h2.cells (y0 l2) (by omega) (by unfold maxLen;omega) hB;refine⟨A',c',w',hr,?_,hg,hb⟩;rw [<-kO]at fU;exact fU
 |none=>
  obtain⟨rfl,rfl⟩:=h2.none;refine⟨A,c,w,?_,by simpa using h,⟨rfl,rfl,rfl,Nat.le_refl _,fun _ _ _=>rfl⟩,fun k hk=>.inl hk⟩;obtain⟨i,z,hi,hz,hs,FV,FF⟩:=nt.inf;have hn:n<=c:=by rcases Row.own h with⟨_,h1,h2,_⟩|⟨_,_,_,_,_,h1,_⟩<;>omega
  simp [Builtin.append_,run_underlying nt.mW,sizeOf,typeInfo,hi,Builtin.lenOf,Builtin.firstCells,hn];cases A<;>simp [storeCells]
end
theorem HS.load{w:World}{A:Option Addr}{n:Nat}{l:List HT}(hl:HS w A n l){i:Int}{x:HT}(h0:0<=i)(hx:l[i.toNat]? =some x){k:Array Value->Prop}(hk:k x.1):
 (0<=i/\i<(n:Int))/\Is A fun a=>∃t:Array Value,(t.size=32/\Cells w (a.add (i.toNat*32)) t)/\k t:=by
 obtain⟨a,rfl,_,hc⟩:=hl.at_ _ x hx;have:=(lgeS hx).1;have:=hl.len;exact⟨⟨h0,by omega⟩,x.1,⟨x.2.1,hc⟩,hk⟩
theorem AN{a b:HT}:(mR a b<0)↔cI a b=true:=by
 unfold mR;by_cases h:cI a b=true
 ·simp [h]
 ·by_cases h':cI b a=true<;>simp [h,h']
theorem eF{n:Int}(h0:0<=n)(h1:n<=2000000):i64.wrap (n+1)=n+1:=iF (by omega) (by omega)
theorem wrapM{n:Int}(h0:0<=n)(h1:n<=2000000):i64.wrap (n-1)=n-1:=iF (by omega) (by omega)
theorem Kept.pO{w w' kZ:World}{A:Option Addr}(h:Kept Nil w w')(hg:w'.grownBy kZ (bm A))(hr:∀k,bm A=some k->w.heap.size<=k):Kept Nil w kZ:=
 Kept.grown h hg fun k hk cI=>absurd (hr k hk) (by omega)
section
variable{w:World}{K:Value->World->Prop}
end
theorem jE{w:World}{k l:Nat}{cs:Array Value}{t:TypeId}{fr:Nat×Nat}{R:Loop}(h:w.heap[k]? =some (.cells cs t fr))(h':w.heap[l]? =some (.loop R)):k≠l:=by
 rintro rfl;rw [h]at h';cases h'
theorem vh{w:World}{k l:Nat}{cs:Array Value}{t:TypeId}{fr:Nat×Nat}{d:Option (List Deferred)}(h:w.heap[k]? =some (.cells cs t fr))(h':w.heap[l]? =some (.deferred d)):k≠l:=by
 rintro rfl;rw [h]at h';cases h'
theorem Row.apart{w w':World}{B:Nat}{e:TypeId}{size:Nat}{A:Option Addr}{n c:Nat}{xs:List Value}(h:Row w B e size A n c xs){l:Nat}(hk:Kept (· =l) w w')
 (hl:∀cs t fr,w.heap[l]? ≠some (.cells cs t fr)):Row w' B e size A n c xs:=Row.aK h hk fun k hb e=>by
 subst e;obtain⟨_,cur,hc⟩:=Row.bW h hb;exact hl _ _ _ hc
abbrev pR(h:HT):List Value:= [.agg h.1]
section
variable{w:World}{K:Value->World->Prop}
theorem v8(p:Addr){A:Option Addr}{n c:Nat}{l:List HT}(hn:n<=1000000):
 lV prog aE.id #[] #[.pointer (some p)] (l.map pR) (fun w=>HS w A n l/\w.cell? p=some (.slice A n c)):=by
 intro y I D w0 hI hD pK h0 oU;refine aE.of ?_;obtain⟨vv,Mr⟩:=pK 0 w0 h0;have hlen:=vv.len;refine⟨A,n,c,Mr,?_⟩;refine aE.b9 (I:=fun s w'=>∃i:Nat,s=(i:Int)/\i<=n/\I i w') (μ:=fun s _=>((n:Int)-s).toNat) (s:=0) ⟨0,rfl,Nat.zero_le _,h0⟩ ?_;rintro s w' ⟨i,rfl,hi,hw⟩;refine Split.dec (fun lE=>?_) (fun iG=>?_)
 ·have eV:i<n:=by omega
  obtain⟨x,hx⟩:∃x,l[i]? =some x:=⟨_,List.getElem?_eq_getElem (by omega)⟩;have hl:=(pK i w' hw).1;refine hl.load (i:=(i:Int)) (by omega) hx ?_;intro w10;obtain⟨ri,hb,hk⟩:=fY (w:=w') (z:=(yM 0)) (cs:=x.1) (t:=ax) (by rw [x.2.1];rfl);refine⟨⟨x.2.1,x.2.one,fun j hj=>ri j (by rw [x.2.1];exact hj)⟩,?_⟩;intro pY
  replace hb:pY.heap[w'.heap.size]? =some (.cells x.1 ax (0,0)):=hb
  replace hk:Kept Nil w' pY:=hk
  clear_value pY;refine⟨x.1,⟨x.2.1,Cells.bW hb⟩,?_⟩;refine(oU i (pR x) pY (by rw [List.getElem?_map,hx];rfl) (hI i w' pY hw hk)).mono ?_;rintro b kZ ⟨ht,hf⟩;cases b with
  |true=>
   refine Split.no rfl ?_;rw [eF (n:=(i:Int)) (by omega) (by omega)];exact⟨(i:Int)+1,rfl,⟨i+1,rfl,eV,ht rfl⟩,by simp only;omega⟩
  |false=>
   refine Split.yes rfl ?_;exact Or.inr (hf rfl)
 ·rw [aY,aE.dw]
  have e:i=n:=by omega
  subst e;refine Or.inl ?_;rw [List.length_map,hlen];exact hw
theorem ug{gf:FuncId}{fh:Array Value}{xs:List HT}{fn:Func}(FU:prog.funcs[gf]? =some fn)(hb:fn.body.isSome){F5:World->Prop}
 (hit:lV prog gf #[] fh (xs.map pR) F5) (hp:∀w',Kept Nil w w'->F5 w') (GX:xs.length<=1000000)
 (hK:∀A c w',cm w' w.heap.size A xs.length c xs->Kept Nil w w'->K (.slice A xs.length c) w'):
 bf prog aG.id #[.slice none 0 0,.func (.func gf) #[] fh] w K:=by
 refine aG.of ?_;unfold aG.W;intro w3;have k3:Kept Nil w w3:=(Kept.refl Nil w).alloc _;have oX:w3.heap[w.heap.size]? =some (.cells #[.slice none 0 0] aV (0,0)):=aR w _;have G3:w.heap.size<w3.heap.size:=a7 oX;clear_value w3
 let ρ0:Env:= [(2,.pointer (some (aU w.heap.size))),(4,.slice none 0 0),(6,.func (.func gf) #[] fh)]
 let J:Nat->World->Prop:=fun i w'=>∃A c,w'.heap[w.heap.size]? =some (.cells #[.slice A i c] aV (0,0))/\cm w' w.heap.size A i c (xs.take i)/\Kept Nil w w'/\i<=xs.length/\∀k,bm A=some k->k≠w.heap.size
 refine mn (ρ:=ρ0) (ρ0:=ρ0) ng mix aG.k (t:=6) (ps:= #[7]) (by kernel_rfl) (by decide) rfl FU hb (.inl rfl) (fun i v _ h=>h) rfl pR xs (fun _=>rfl) (by simp [fN]) hit J (fun _ _=>False) ?_ (fun _ _ _ _ _ h=>h.elim) (fun i w' h=>hp w' (let ⟨_,_,_,_,h,_⟩:=h;h)) ?_ ?_ ?_ (fun _ _ h=>h.elim) (fun _ _ _ h=>h.elim)
 ·rintro i w' kZ R hl ⟨A,c,h1,h2,h3,h4,h5⟩ hk
  exact⟨A,c,hk.heap h1 (jE h1 hl.loop),Row.apart h2 hk (fun cs t fr h=>by rw [hl.loop]at h;cases h),h3.trans hk (fun k hk e=>by omega),h4,h5⟩
 ·intro R
  exact⟨none,0,jD (jD oX _) _,cm.nil _ _,(k3.alloc _).alloc _,Nat.zero_le _,fun k hk=>by cases hk⟩
 ·rintro i x w' R hx ⟨A,c,h1,h2,h3,h4,h5⟩ hl
  have eV:i<xs.length:=(lgeS hx).1;have e7:jV ρ0 ((#[7]:Array Nat).toList.zip (pR x))= [(2,.pointer (some (aU w.heap.size))),(4,.slice none 0 0),(6,.func (.func gf) #[] fh),(7,.agg x.1)]:=rfl;rw [e7,aG.a1];unfold aG.A1;intro w8;obtain⟨ri,ju,jc⟩:=fY (w:=w') (z:=(yM 0)) (cs:=x.1) (t:=ax) (by rw [x.2.1];rfl);refine⟨⟨x.2.1,x.2.one,fun j hj=>ri j (by rw [x.2.1];exact hj)⟩,?_⟩;intro Bf
  replace ju:Bf.heap[w'.heap.size]? =some (.cells x.1 ax (0,0)):=ju
  replace jc:Kept Nil w' Bf:=jc
  clear_value Bf;have He:=hl.aK jc (fun h=>h) (fun h=>h);refine⟨He,fun w2 R2 mN tC=>?_⟩;have VM:=mN.heap ju (jE ju He.loop);have ZK:=jc.heap h1 (fun h=>h);have C5:=mN.heap ZK (jE ZK He.loop);have zf:cm w2 w.heap.size A i c (xs.take i):=Row.apart (Row.aK h2 jc (fun _ _ h=>h)) mN (fun cs t fr h=>by rw [He.loop]at h;cases h);have WD:Kept Nil w w2:=(h3.tt jc).trans mN (fun k hk e=>by omega);have cI:w.heap.size<w2.heap.size:=a7 C5;rw [aG.y1];unfold aG.Y1;refine⟨A,i,c,by rw [aA C5];rfl,x.1,⟨x.2.1,Cells.bW VM⟩,x.2.1,?_⟩;intro ln;have tP:Kept Nil w2 ln:=(Kept.refl _ _).alloc _;have lj:HS ln (some ⟨w2.heap.size,0,none⟩) 1 [x]:=by
   refine HS.one (t:=ax) (fr:=(0,0)) ?_;have e3:ln=w2.alloc (.cells x.1 ax):=by
    show w2.alloc (.cells (x.1.toList++ []).toArray ax)=_
    simp
   rw [e3];exact aR w2 _
  clear_value ln;have HB:cm ln w.heap.size A i c (xs.take i):=Row.aK zf tP (fun _ _ h=>h);have WG:=tP.heap C5 (fun h=>h);have abW:=tP.size;obtain⟨A',c',vO,hr,lK,hg,tY⟩:=gu (cx:=1) aV HB lj (by omega) (by omega);have K0:Kept (fun k=>bm A=some k) ln vO:=Kept.grown (Kept.refl _ _) hg (fun k hk _=>hk);have HC:=K0.heap WG (fun h=>h5 _ h rfl);have KP:Live (w3.heap.size+1) w3.heap.size R2 vO:=by
   have KQ:=tC.aK tP (fun h=>h) (fun h=>h);refine KQ.aK K0 ?_ ?_
   ·intro h
    obtain⟨_,cur,hc⟩:=Row.bW HB h;exact jE hc KQ.loop rfl
   ·intro h
    obtain⟨_,cur,hc⟩:=Row.bW HB h;exact vh hc KQ.mark rfl
  have Ij:Kept Nil w vO:=(WD.tt tP).trans K0 (fun k hk e=>by
   obtain⟨h,_⟩:=Row.bW HB e;omega)
  refine⟨A',_,c',vO,hr,dz HC (by simp),?_⟩;intro p6;have Ap:Kept (· =w.heap.size) vO p6:=Kept.setCell (S:=fun k=>k=w.heap.size) (Kept.refl _ vO) (p:=⟨w.heap.size,0,none⟩) (fun _=>rfl) _;have V7:p6.heap[w.heap.size]? =some (.cells #[.slice A' (i+1) c'] aV (0,0)):=cR HC 0 _;clear_value p6;have Cm:∀k,bm A'=some k->k≠w.heap.size:=fun k hk=>by
   rcases tY k hk with h|h
   ·exact h5 k h
   ·omega
  refine⟨KP.aK Ap (jE HC KP.loop).symm (vh HC KP.mark).symm,A',c',V7,?_,Ij.trans Ap (fun k hk e=>by omega),eV,Cm⟩;rw [List.take_add_one,hx];exact Row.aK lK Ap Cm
 ·rintro w' R ⟨A,c,h1,h2,h3,h4,h5⟩ hl
  have e7:fZ ρ0 w3.heap.size= [(2,.pointer (some (aU w.heap.size))),(4,.slice none 0 0),(6,.func (.func gf) #[] fh),(4294967296,.agg #[.pointer (some ⟨w3.heap.size,0,none⟩)])]:=rfl;rw [e7,aG.jw];refine⟨A,xs.length,c,by rw [aA h1];rfl,⟨hl.mark,trivial⟩,?_⟩;have kp:Kept (· =w3.heap.size) w' (w'.putObj w3.heap.size (.deferred none)):=Kept.putAt _ _ _;refine hK A c _ ?_ (h3.trans kp (fun k hk e=>by omega));have:=Row.apart h2 kp (fun cs t fr h=>by rw [hl.mark]at h;cases h)
  rwa [List.take_of_length_le (Nat.le_refl _)]at this
theorem zt{gf:FuncId}{fh:Array Value}{xs:List HT}{fn:Func}(FU:prog.funcs[gf]? =some fn)(hb:fn.body.isSome){F5:World->Prop}
 (hit:lV prog gf #[] fh (xs.map pR) F5) (hp:∀w',Kept Nil w w'->F5 w') (GX:xs.length<=1000000)
 (hK:∀A c w',cm w' w.heap.size A xs.length c xs->Kept Nil w w'->K (.slice A xs.length c) w'):
 bf prog cy.id #[.func (.func gf) #[] fh] w K:=by
 refine cy.of (ug FU hb hit hp GX fun A c w' h1 h2=>⟨_,_,_,rfl,hK A c w' h1 h2⟩)
end
open Go.Sort
instance:Inhabited HT:=⟨⟨Array.replicate 32 (.int .u8 0),by simp,fun v hv=>⟨0,by simpa using hv,by omega,by omega⟩⟩⟩
abbrev lG(h:HT):List Value:=h.1.toList
theorem xB(h:HT):(lG h).length=32:=by have:=h.2.1;simpa using this
theorem sQ(d:Array HT):(flatK lG 32 d).toList=cF d.toList:=by
 apply List.ext_getElem?;intro t;by_cases ht:t<d.size*32
 ·have hi:t/32<d.size:=by omega
  have hx:d.toList[t/32]? =some d[t/32]:=by rw [Array.getElem?_toList,Array.getElem?_eq_getElem hi]
  have hs:t%32<d[t/32].1.size:=by rw [d[t/32].2.1];omega
  have h1:=jz hx (Array.getElem?_eq_getElem hs);rw [show t/32*32+t%32=t by omega]at h1;rw [h1];have h2:t<(flatK lG 32 d).size:=by rw [size_flatK];exact ht
  have h3:=get_flatK lG 32 d t ht;rw [getElem!_pos _ t h2]at h3;rw [Array.getElem?_toList,Array.getElem?_eq_getElem h2,h3,getElem!_pos d _ hi];rw [getElem!_pos _ _ (by rw [xB];omega)];simp [lG]
 ·rw [List.getElem?_eq_none (by simp;omega),List.getElem?_eq_none (by rw [dE];simp;omega)]
theorem DE{F cur:Array Value}{k:Nat}(hk:F.size=k)(h:k<=cur.size):(putCells id 0 F cur).toList.take k=F.toList:=by
 apply List.ext_getElem?;intro i;rw [List.getElem?_take];split
 ·rename_i hi
  have h1:i<cur.size:=by omega
  have h2:i<F.size:=by omega
  rw [Array.getElem?_toList,Array.getElem?_toList,putCells,Array.getElem?_mapIdx,Array.getElem?_eq_getElem h1,Array.getElem?_eq_getElem h2];simp [h2]
 ·rw [List.getElem?_eq_none (by simp;omega)]
theorem tM{w:World}{b:Nat}{f:Array Value->Array Value}{cur:Array Value}{t:TypeId}{fr:Nat×Nat}(h:w.heap[b]? =some (.cells cur t fr)):(mapBlock w b f).heap[b]? =some (.cells (f cur) t fr):=by
 simp [mapBlock,Array.getElem?_modify,h,onCells]
theorem tL(w:World)(b:Nat)(f:Array Value->Array Value):Kept (· =b) w (mapBlock w b f):=
 ⟨rfl,rfl,rfl,by simp [mapBlock],fun k _ hn=>by simp [mapBlock,Array.getElem?_modify,Ne.symm hn]⟩
theorem Co(w:World)(os:Array Obj):Kept Nil w (grow w os):=
 ⟨rfl,rfl,rfl,by simp,fun k hk _=>heap_grow_old w os hk⟩
theorem zE(w:World)(m:Nat):Kept Nil w (Sort.ahead w m):=⟨rfl,rfl,rfl,Nat.le_refl _,fun _ _ _=>rfl⟩
section
variable{w:World}{B n c b:Nat}{l:List HT}
theorem tG(row:cm w B (some ⟨b,0,none⟩) n c l)(m:Nat)(dk:Array HT)(os:Array Obj)(hd:dk.size=n):
 cm (sortWorldK lG 32 w b 0 m dk os) B (some ⟨b,0,none⟩) n c dk.toList/\Kept (· =b) w (sortWorldK lG 32 w b 0 m dk os):=by
 have hka:=zE w m;have k1:=tL (Sort.ahead w m) b (putCells id 0 (flatK lG 32 dk));have kk:=((hka.mono (S':=fun k=>k=b) (fun _ _ h=>h.elim)).tt k1).trans (Co _ os) (fun _ _ h=>h.elim);refine⟨?_,?_⟩
 ·rcases Row.own row with⟨h,_⟩|⟨b',cur,hA,hB,hg,Cc,mG,mF,yO⟩
  ·cases h
  ·cases hA
   refine⟨by rw [dE,Array.length_toList,hd],.inr ⟨b,c,putCells id 0 (flatK lG 32 dk) cur,rfl,hB,?_,Cc,mG,by simp [putCells,mF],?_⟩⟩
   ·have h1:(mapBlock (Sort.ahead w m) b (putCells id 0 (flatK lG 32 dk))).heap[b]? =some (.cells (putCells id 0 (flatK lG 32 dk) cur) ax (0,0)):=tM hg
    exact(heap_grow_old _ os (a7 h1)).trans h1
   ·rw [<-sQ]
    refine DE (by rw [size_flatK,hd]) ?_;rw [mF];exact Nat.mul_le_mul_right _ Cc
 ·exact kk
theorem yV(row:cm w B (some ⟨b,0,none⟩) n c l):HoldsK lG 32 w b 0 l.toArray:=by
 intro j hj;rw [size_flatK]at hj;have uP:j<l.length*32:=by simpa using hj
 rw [Nat.zero_add];have hlen:=Row.len row;have hx:(flatK lG 32 l.toArray).toList[j]? =(cF l)[j]? :=by rw [sQ]
 have Y8:j<(flatK lG 32 l.toArray).size:=by rw [size_flatK];exact hj
 rw [Array.getElem?_toList,Array.getElem?_eq_getElem Y8]at hx;have hc:=Row.cell row hx.symm;refine⟨?_,?_⟩
 ·rw [hc,getElem!_pos _ j Y8];rfl
 ·exact(Row.wr row (j:=j) (by rw [dE];exact uP)).2
theorem nI(x y:HT):ltOf mR x y=cI x y:=by
 unfold ltOf;cases h:cI x y
 ·exact decide_eq_false fun h'=>by rw [AN.1 h']at h;cases h
 ·exact decide_eq_true (AN.2 h)
theorem le_trans'{x y z:HT}(h:cI y x=false)(h':cI z y=false):cI z x=false:=by
 cases Oi:cI z x
 ·rfl
 ·exfalso
  by_cases e:y=z
  ·subst e;rw [h]at Oi;cases Oi
  ·have Mi:=lt_of_le_ne h' e
   have:=kz Mi Oi;rw [h]at this;cases this
theorem SL:SWO (ltOf mR) where
 irrefl x:=by rw [nI];exact gZ x
 trans x y z h h':=by rw [nI]at*;exact kz h h'
 ntrans x y z h h':=by
  rw [nI]at*;exact le_trans' h' h
theorem Gj{A:Option Addr}{K:Value->World->Prop}(row:cm w B A n c l)(hn:n<=1000000)
 (hK:∀l' w',LE l'->(∀x,x∈l'↔x∈l)->cm w' B A n c l'->Kept (fun k=>bm A=some k) w w'->K (.tuple #[]) w'):
 bf prog fp.id #[.slice A n c,.func (.func cX.id) #[] #[]] w K:=by
 have hlen:=row.len;by_cases h0:n=0
 ·subst h0
  have h:=AnyF.slices_SortFunc_none Tryz.uw A c (.func (.func cX.id) #[] #[]) w;refine Calls.mono h ?_;rintro e w' ⟨rfl,rfl⟩;have:l= []:=List.eq_nil_of_length_eq_zero hlen;subst this;exact⟨_,rfl,hK [] _ List.Pairwise.nil (fun _=>Iff.rfl) row (Kept.refl _ _)⟩
 ·obtain⟨b,rfl⟩:=Row.some row (by omega)
  have hblk:b<w.heap.size:=by
   obtain⟨_,cur,hc⟩:=Row.bW row (k:=b) rfl;exact a7 hc
  have nK:l.toArray.size=n:=by simpa using hlen
  have eg:∀args w,(callFunc cX.id args).run prog w=.ok (.enter cX.id args) w:=enters_of cX.at_ (by kernel_rfl) rfl;have hk:lg prog ax=.agg 32:=by kernel_rfl
  obtain⟨WU,ha⟩:=pG hk;obtain⟨i,hi⟩:=Go.bE.info_of_underlying (P:=prog) (t:=ax) (by kernel_rfl);have VE:CmpLays prog cX.id #[] lG 32 mR b 0 l.toArray.size w:=fun m os dk _ x y=>by
   have e:(#[.agg (lG x).toArray,.agg (lG y).toArray]++ #[]:Array Value)= #[.agg x.1,.agg y.1]:=by simp [lG]
   rw [e];have h:=nQ (w:=sortWorldK lG 32 w b 0 m dk os) x y (K:=fun v w'=>v=.int .i64 (mR x y)/\w'=(((sortWorldK lG 32 w b 0 m dk os).alloc (.cells x.1 ax)).alloc (.cells y.1 ax)).drew) ⟨rfl,rfl⟩;refine Calls.mono h ?_;rintro e w' ⟨v,rfl,rfl,rfl⟩;refine⟨rfl,1,#[.cells x.1 ax,.cells y.1 ax],?_⟩;rw [alloc_eq_grow,alloc_eq_grow,grow_grow,drew_grow];rfl
  have h:=AnyQ.slices_SortFunc_total Tryz.uw 32 ha (fun w=>by rw [WU];exact Go.bE.run_sizeOf hi w) lG xB (fun x=>x.2.one) mR SL cX.id #[] b 0 c l.toArray w eg VE (yV row) hblk (by omega)
   (fun x y h1 h2=>by rw [nI]at h1 h2;exact ot h1 h2)
  rw [nK]at h;refine Calls.mono h ?_;rintro e w' ⟨rfl,m,os,rfl⟩;have hp:=List.mergeSort_perm l.toArray.toList (fun x y=> !(ltOf mR) y x);have FQ:(l.toArray.toList.mergeSort fun x y=> !(ltOf mR) y x).toArray.size=n:=by
   have:=hp.length_eq;simp only [List.size_toArray];rw [this];simpa using hlen
  obtain⟨h1,h2⟩:=tG row m _ os FQ;refine⟨_,rfl,hK _ _ ?_ (fun x=>?_) h1 (h2.mono fun k _ e=>by rw [e];rfl)⟩
  ·have hs:=List.pairwise_mergeSort (le:=fun x y=> !(ltOf mR) y x) (fun a b c h h'=>by
    rw [nI]at*;simp only [Bool.not_eq_true']at*;exact le_trans' h h') (fun a b=>by
    rw [nI,nI];cases mH:cI b a
    ·rfl
    ·rw [qu mH];rfl) l.toArray.toList
   refine List.Pairwise.imp ?_ hs;intro a b mH;rw [nI]at mH;simpa using mH
  ·simp
end
end Go.Proofs.YtfleamccglihoaaGreatDoor
namespace Go.Proofs.YtfleamccglihoaaGreatDoor
open Go.Proofs.Tryz
open Go Go.bE Go.RowKit
theorem yZ{l:List HT}{k:Nat}(hk:k<l.length)(x:HT):cF (l.set k x)=gg (cF l) (k*32) x.1.toList:=by
 have h1:l=l.take k++l[k]::l.drop (k+1):=by rw [<-List.drop_eq_getElem_cons hk,List.take_append_drop]
 have e1:(cF (l.take k)).length=k*32:=by rw [dE,List.length_take];omega
 have hx:=x.2.1;have hl:=l[k].2.1;have hs:l.set k x=l.take k++x::l.drop (k+1):=List.set_eq_take_append_cons_drop .. |>.trans (if_pos hk)
 rw [hs]
 conv=>rhs;rw [h1]
 rw [kO,kO,jM,jM];generalize cF (l.take k)=p at e1;generalize cF (l.drop (k+1))=r;have eq:l[k].1.toList.length=32:=by simpa using hl
 have ev:x.1.toList.length=32:=by simpa using hx
 generalize l[k].1.toList=q at eq;generalize x.1.toList=v at ev;unfold gg;rw [List.take_left' e1,ev,show p++(q++r)=(p++q)++r by simp,List.drop_left' (by rw [List.length_append,e1,eq])];simp
theorem cm.setAt{w:World}{B n c b:Nat}{l:List HT}(row:cm w B (some ⟨b,0,none⟩) n c l){k:Nat}(hk:k<n)(x:HT):
 cm (setCells w ⟨b,k*32,none⟩ x.1.toList 0) B (some ⟨b,0,none⟩) n c (l.set k x):=by
 have hlen:=row.len;have hx:=x.2.1;have:=pf x.1.toList (cF l) w (k*32) 0 row (by rw [dE];simp;omega);rw [Nat.add_zero]at this;rw [<-yZ (by omega)]at this;exact this
theorem cm.Jl{w:World}{B n c b:Nat}{l:List HT}(row:cm w B (some ⟨b,0,none⟩) n c l){k:Nat}(hk:k<n)(j:Nat)(hj:j<32):Wr w ((⟨b,k*32,none⟩:Addr).add j):=by
 rw [bt];refine Row.wr row ?_;rw [dE,row.len];omega
theorem cm.cap{w:World}{B:Nat}{A:Option Addr}{n c:Nat}{l:List HT}(row:cm w B A n c l):n<=c:=by
 rcases Row.own row with⟨_,h1,h2,_⟩|⟨_,_,_,_,_,h1,_⟩<;>omega
theorem cm.cut{w w':World}{B n c b:Nat}{l:List HT}(row:cm w B (some ⟨b,0,none⟩) n c l){k:Nat}(hk:k<=n)(vs:List Value)(hv:vs.length=(n-k)*32)(hw:w'=setCells w ⟨b,k*32,none⟩ vs 0):
 cm w' B (some ⟨b,0,none⟩) k c (l.take k):=by
 subst hw;have hlen:=row.len;rcases Row.own row with⟨h,_⟩|⟨b',cur,hA,hB,hg,Cc,mG,mF,yO⟩
 ·cases h
 ·cases hA
  have hle:n*32<=c*32:=Nat.mul_le_mul_right _ Cc;have nK:k*32+0+vs.length<=cur.size:=by omega
  have h1:=jm vs cur w ax (k*32) 0 hg nK;refine⟨by rw [dE,List.length_take];omega,.inr ⟨b,c,_,rfl,hB,h1,by omega,mG,?_,?_⟩⟩
  ·have:=lZ (xs:=cur.toList) (k:=k*32+0) (vs:=vs) (by simpa using nK)
   rw [List.size_toArray,this];simpa using mF
  ·have e1:(cF (l.take k)).length=k*32:=by rw [dE,List.length_take];omega
   have e2:(cF l).take (k*32)=cF (l.take k):=by
    conv=>lhs;rw [<-List.take_append_drop k l,kO]
    rw [<-e1,List.take_left'];rfl
   rw [<-e2,<-yO,List.take_take,Nat.min_eq_left (by omega)];unfold gg;simp only [Nat.add_zero];rw [List.append_assoc,List.take_append_of_le_length (by simp;omega),List.take_take,Nat.min_self]
def zN(P:Program)(e:TypeId):Bool:=
 match P.info? e with
 |some i=>match i.zero with
  |some z=>z.cells.toList.all fun v=>v.oneCell'
  |none=>false
 |none=>false
theorem rW{w:World}{B n c b:Nat}{l:List HT}(row:cm w B (some ⟨b,0,none⟩) n c l){k:Nat}(hk:k<=n)(ty:Nat){A:Option Addr}{cx:Nat}(hA:k<n->A=some ⟨b,k*32,none⟩):
 ∃w',(Builtin.clear_ #[aV] ty #[.slice A (n-k) cx]).run prog w=.ok (.tuple #[]) w'/\cm w' B (some ⟨b,0,none⟩) k c (l.take k)/\Kept (· =b) w w':=by
 have hlen:=row.len;by_cases tX:k<n
 ·obtain⟨i,z,hi,hz,hs,_,FF⟩:=nt.inf
  have Ha:zN prog ax=true:=by kernel_rfl
  unfold zN at Ha;rw [hi]at Ha;simp only [hz,List.all_eq_true]at Ha;rw [hA tX];obtain⟨m,hm⟩:∃m,n-k=m+1:=⟨n-k-1,by omega⟩;have TW:(Builtin.zeroCells z.cells (n-k)).toList.length=(n-k)*32:=by simp [Builtin.zeroCells,FF]
  have oo:=gB (P:=prog) ⟨b,k*32,none⟩ (Builtin.zeroCells z.cells (n-k)).toList 0 w (fun v hv=>by
   simp only [Builtin.zeroCells,Array.toList_map,List.mem_map]at hv;obtain⟨t,ht,rfl⟩:=hv;have:t%z.cells.size<z.cells.size:=Nat.mod_lt _ (by omega);rw [getElem!_pos z.cells _ this];exact Ha _ (by simp)) (fun j hj=>by
   rw [Nat.zero_add,bt];refine Row.wr row ?_;rw [dE];omega)
  refine⟨_,?_,row.cut hk _ TW rfl,fR _ _ _ _⟩;simp only [Builtin.clear_,hm];rw [hm]at oo;simp [run_underlying nt.mW,zeroValue,typeInfo,hi,hz,oo]
 ·have:n=k:=by omega
  subst this;refine⟨w,?_,by rw [List.take_of_length_le (by omega)];exact row,Kept.refl _ _⟩;rw [Nat.sub_self];cases A<;>simp [Builtin.clear_,run_underlying nt.mW]
theorem Bl:∀ {l:List HT},l.length<2->di l=l
 | [],_=>rfl
 | [_],_=>rfl
 |_::_::_,h=>by simp only [List.length_cons]at h;omega
section
variable{w:World}{B n c:Nat}{A:Option Addr}{l:List HT}{K:Value->World->Prop}
theorem zr(row:cm w B A n c l)(hle:LE l)(hn:n<=400000)
 (hK:∀A' c' w',cm w' B A' (di l).length c' (di l)->(∀k,bm A'=some k->bm A=some k)->Kept (fun k=>bm A=some k) w w'->K (.slice A' (di l).length c') w'):
 bf prog ag.id #[.slice A n c] w K:=by
 have hlen:=row.len;refine ag.of ?_;refine Split.dec (fun h2=>?_) (fun h2=>?_)
 ·have e:di l=l:=Bl (by omega)
  have:=hK A c w (by rw [e,hlen];exact row) (fun k h=>h) (Kept.refl _ _);rw [e,hlen]at this;exact this
 obtain⟨b,rfl⟩:=Row.some row (by omega);have VL:=row.cap;refine ag.b9 (I:=fun s w'=>∃k:Nat,s=(none,0,0,(k:Int))/\1<=k/\k<=n/\SS (l.take k)/\Kept Nil w w') (μ:=fun s _=>((n:Int)-s.2.2.2).toNat) (s:=(none,0,0,1))
  ⟨1,rfl,Nat.le_refl _,by omega,?_,Kept.refl _ _⟩ ?_
 ·cases l with
  |nil=>exact List.Pairwise.nil
  |cons x l=>simp [SS]
 rintro s w' ⟨k,rfl,Hf,tX,vr,kw⟩;refine Split.dec (fun lE=>?_) (fun iG=>?_)
 ·simp only at lE
  have CZ:k<n:=by omega
  obtain⟨x,hx⟩:∃x,l[k]? =some x:=⟨_,List.getElem?_eq_getElem (by omega)⟩;obtain⟨y,hy⟩:∃y,l[k-1]? =some y:=⟨_,List.getElem?_eq_getElem (by omega)⟩;intro w5;have k5:Kept Nil w w5:=kw.drew;clear_value w5;have qg:cm w5 B (some ⟨b,0,none⟩) n c l:=Row.aK row k5 (fun _ _ h=>h);simp only;rw [wrapM (n:=(k:Int)) (by omega) (by omega)];have lW:cI x y=false:=hle.get (by omega) hy hx;refine qg.hs.load (i:=(k:Int)) (by omega) hx (qg.hs.load (i:=(k:Int)-1) (by omega) (by rw [show((k:Int)-1).toNat=k-1 by omega];exact hy) ⟨⟨x.2.ints,y.2.ints⟩,?_⟩);rw [gw];refine Split.dec (fun he=>?_) (fun he=>?_)
  ·refine⟨⟨by omega,by omega⟩,?_⟩
   rw [Int.toNat_natCast];rw [if_neg (show ¬c=k by omega)];simp only [Option.map_some,bt,Nat.zero_add];refine ag.iK (I:=fun s w'=>∃(p j:Nat) (l':List HT),s=((p:Int),(j:Int))/\1<=j/\k<=p/\p<k+j/\k+j<=n/\cm w' B (some ⟨b,0,none⟩) n c l'/\l'.drop (k+j-1)=l.drop (k+j-1)/\SS (l'.take p)/\(∀z,z∈l'.take p↔z∈l.take (k+j))/\Kept (· =b) w w')
    (μ:=fun s _=>((n:Int)-s.2).toNat) (s:=((k:Int),1)) ⟨k,1,l,rfl,Nat.le_refl _,Nat.le_refl _,by omega,by omega,qg,rfl,vr,fun z=>?_,k5.mono fun _ _ h=>h.elim⟩ ?_
   ·rw [bI hx]
    constructor
    ·exact .inl
    ·rintro(h|rfl)
     ·exact h
     ·rw [he]
      have:=bI (z:=y) hy;rw [show k-1+1=k by omega]at this;exact this.2 (.inr rfl)
   rintro s w1 ⟨p,j,l',rfl,hj1,Px,YN,hjn,BE,Qa,CU,IK,k1⟩;have ED:=BE.len;refine Split.dec (fun Vd=>?_) (fun Vj=>?_)
   ·simp only at Vd
    have tD:k+j<n:=by omega
    obtain⟨u,hu⟩:∃u,l[k+j]? =some u:=⟨_,List.getElem?_eq_getElem (by omega)⟩;obtain⟨v,hv⟩:∃v,l[k+j-1]? =some v:=⟨_,List.getElem?_eq_getElem (by omega)⟩;have GZ:l'[k+j]? =some u:=by
     have h:=congrArg (fun m:List HT=>m[1]?) Qa;simp only [List.getElem?_drop]at h;rw [show k+j-1+1=k+j by omega]at h;rw [h,hu]
    have TZ:l'[k+j-1]? =some v:=by
     have h:=congrArg (fun m:List HT=>m[0]?) Qa;simp only [List.getElem?_drop,Nat.add_zero]at h;rw [h,hv]
    intro vO;have Ij:Kept (· =b) w vO:=k1.drew;have lK:cm vO B (some ⟨b,0,none⟩) n c l':=Row.aK BE ((Kept.refl Nil w1).drew) (fun _ _ h=>h);clear_value vO;have sy:HS vO (some ⟨b,k*32,none⟩) (n-k) (l'.drop k):=by
     have h:=lK.hs.drop (c:=c) VL (k:=k) (by omega);rw [if_neg (show ¬c=k by omega)]at h;simpa [bt]using h
    have YE:(l'.drop k)[(j:Int).toNat]? =some u:=by rw [Int.toNat_natCast,List.getElem?_drop];exact GZ
    have T8:(l'.drop k)[((j:Int)-1).toNat]? =some v:=by
     rw [show((j:Int)-1).toNat=j-1 by omega,List.getElem?_drop,show k+(j-1)=k+j-1 by omega];exact TZ
    simp-zeta only;rw [wrapM (n:=(j:Int)) (by omega) (by omega)];have huv:cI u v=false:=hle.get (by omega) hv hu;refine sy.load (i:=(j:Int)) (by omega) YE (sy.load (i:=(j:Int)-1) (by omega) T8 ⟨⟨u.2.ints,v.2.ints⟩,?_⟩);rw [gw,eF (n:=(j:Int)) (by omega) (by omega)];have YW:∀z,z∈l.take (k+(j+1))↔z∈l'.take p\/z=u:=fun z=>by
     rw [show k+(j+1)=k+j+1 by omega,bI hu,IK z]
    by_cases heq:u=v
    ·refine Split.no (by rw [decide_eq_true heq];rfl) ?_
     refine⟨((p:Int),(j:Int)+1),rfl,⟨p,j+1,l',rfl,by omega,Px,by omega,by omega,lK,?_,CU,fun z=>?_,Ij⟩,by simp only;omega⟩
     ·have h:=congrArg (fun m:List HT=>m.drop 1) Qa
      simp only [List.drop_drop]at h;rw [show k+(j+1)-1=k+j-1+1 by omega];exact h
     ·rw [YW z]
      constructor
      ·exact .inl
      ·rintro(h|rfl)
       ·exact h
       ·refine(IK _).2 ?_
        rw [heq];exact List.mem_of_getElem? (i:=k+j-1) (by rw [List.getElem?_take,if_pos (by omega)];exact hv)
    ·refine Split.yes (by rw [decide_eq_false heq];rfl) ?_
     refine sy.load (i:=(j:Int)) (by omega) YE ⟨⟨by omega,by omega⟩,⟨u.2.1,u.2.one,fun i hi=>?_⟩,?_⟩
     ·rw [Int.toNat_natCast,bt,Nat.zero_add]
      exact lK.Jl (by omega) i hi
     intro CP;have Ot:CP=setCells vO ⟨b,p*32,none⟩ u.1.toList 0:=by
      show setCells vO ((⟨b,0,none⟩:Addr).add ((p:Int).toNat*32)) u.1.toList 0=_
      rw [Int.toNat_natCast,bt,Nat.zero_add]
     have Nf:cm CP B (some ⟨b,0,none⟩) n c (l'.set p u):=by rw [Ot];exact lK.setAt (by omega) u
     have GP:Kept (· =b) w CP:=by rw [Ot];exact Ij.tt (fR _ _ _ _)
     clear_value CP;rw [eF (n:=(p:Int)) (by omega) (by omega)];have yO:(l'.set p u).take (p+1)=l'.take p++ [u]:=by
      rw [List.take_add_one,List.take_set_of_le (Nat.le_refl p),List.getElem?_set_self (by omega)];rfl
     refine⟨((p:Int)+1,(j:Int)+1),rfl,⟨p+1,j+1,l'.set p u,rfl,by omega,by omega,by omega,by omega,Nf,?_,?_,fun z=>?_,GP⟩,by simp only;omega⟩
     ·have h:=congrArg (fun m:List HT=>m.drop 1) Qa
      simp only [List.drop_drop]at h;rw [List.drop_set,if_pos (by omega),show k+(j+1)-1=k+j-1+1 by omega];exact h
     ·rw [yO]
      refine AU CU fun z hz=>?_;obtain⟨i,hi⟩:=List.mem_iff_getElem?.1 ((IK z).1 hz);rw [List.getElem?_take]at hi;split at hi
      ·rename_i hik
       have Yt:cI v u=true:=lt_of_le_ne huv (fun e=>heq e.symm);by_cases e:i=k+j-1
       ·subst e;rw [hv]at hi;cases hi;exact Yt
       ·exact qK (hle.get (by omega) hi hv) Yt
      ·cases hi
     ·rw [yO,YW z]
      simp
   ·simp only at Vj
    have hj:k+j=n:=by omega
    rw [aY,ag.lI];unfold ag.jX;refine⟨⟨by omega,by omega⟩,?_⟩;rw [Int.toNat_natCast];obtain⟨w2,hr,rX,k2⟩:=rW BE (k:=p) (by omega) 0 (A:=if c=p then some ⟨b,0,none⟩else(some ⟨b,0,none⟩:Option Addr).map (·.add (p*32))) (cx:=c-p) (fun hp=>by
     rw [if_neg (by omega)];simp [bt])
    refine⟨_,w2,hr,⟨by omega,by omega⟩,?_⟩;have e:l'.take p=di l:=yi CU fun z=>by rw [IK z,hj,List.take_of_length_le (by omega)]
    have el:p=(di l).length:=by
     have h:=rX.len;rw [e]at h;exact h.symm
    have e0:(if c=0 then(some ⟨b,0,none⟩:Option Addr)else(some ⟨b,0,none⟩:Option Addr).map (·.add (0*32)))=some ⟨b,0,none⟩:=by
     rw [if_neg (by omega)];simp [add_zero]
    rw [e0,Nat.sub_zero,Nat.sub_zero];rw [e,el]at rX;have:=hK (some ⟨b,0,none⟩) c w2 rX (fun k h=>h) ((k1.tt k2).mono fun i _ h=>by rw [h];rfl);rw [<-el]at this;exact this
  ·rw [eF (n:=(k:Int)) (by omega) (by omega)]
   refine⟨(none,0,0,(k:Int)+1),rfl,⟨k+1,rfl,by omega,by omega,?_,k5⟩,by simp only;omega⟩;rw [List.take_add_one,hx];refine AU vr fun z hz=>?_;have RD:cI y x=true:=lt_of_le_ne lW (fun e=>he e.symm);obtain⟨i,hi⟩:=List.mem_iff_getElem?.1 hz;rw [List.getElem?_take]at hi;split at hi
   ·by_cases e:i=k-1
    ·subst e;rw [hy]at hi;cases hi;exact RD
    ·exact qK (hle.get (by omega) hi hy) RD
   ·cases hi
 ·simp only at iG
  have e:k=n:=by omega
  subst e;rw [aY,ag.dw];rw [List.take_of_length_le (by omega)]at vr;have e:di l=l:=wh vr;have:=hK (some ⟨b,0,none⟩) c w' (by rw [e,hlen];exact Row.aK row kw (fun _ _ h=>h)) (fun k h=>h) (kw.mono fun _ _ h=>h.elim);rw [e,hlen]at this;exact this
theorem fV(hl:HS w A n l)(hn:n<=400000)
 (hK:∀A' c' w',cm w' w.heap.size A' (di l).length c' (di l)->Kept Nil w w'->K (.slice A' (di l).length c') w'):
 bf prog ig.id #[.slice A n c] w K:=by
 have hlen:=hl.len;refine ig.of ?_;refine cQ.of ?_;unfold cQ.W;intro w2;have k2:Kept Nil w w2:=(Kept.refl _ _).alloc _;have o6:w2.heap[w.heap.size]? =some (.cells #[.slice A n c] aV (0,0)):=aR w _;clear_value w2;refine⟨_,rfl,?_⟩;refine cO.of ?_;refine zt (xs:=l) aE.at_ (by rfl) (v8 (l:=l) ⟨w.heap.size,0,none⟩ (A:=A) (n:=n) (c:=c) (by omega)) (fun w' hk=>⟨(hl.same k2).same hk,by rw [aA (hk.heap o6 (fun h=>h))];rfl⟩) (by omega) ?_;intro A4 c4 w4 wv k4;refine⟨A4,_,c4,rfl,?_⟩;refine Gj wv (by omega) fun l5 w5 hle jW qg k5=>⟨rfl,?_⟩;refine⟨A4,_,c4,rfl,?_⟩;refine zr qg hle (by omega) fun A6 c6 w6 BD pN k6=>⟨A6,_,c6,rfl,?_⟩;have e:di l5=di l:=zW jW;rw [e]at BD⊢;have Sa:∀k,bm A4=some k->w.heap.size<=k:=fun k hk=>Nat.le_trans k2.size (Row.bW wv hk).1;refine hK A6 c6 w6 (Row.base BD fun k hk=>Sa k (pN k hk)) ?_;exact((k2.tt k4).trans k5 (fun k hk h=>absurd (Sa k h) (by omega))).trans k6 (fun k hk h=>absurd (Sa k h) (by omega))
end
theorem jC{x:Nat}(h:x<18446744073709551616):u64.wrap (x:Int)=(x:Int):=by
 simp only [IntKind.wrap,IntKind.bits,IntKind.signed];simp;omega
theorem XH{x y:Nat}(hx:x<18446744073709551616)(hy:y<18446744073709551616):
 u64.wrap ((BitVec.ofInt 64 (x:Int)|||BitVec.ofInt 64 (y:Int)).toNat:Int)=((x|||y:Nat):Int):=by
 have h:(BitVec.ofInt 64 (x:Int)|||BitVec.ofInt 64 (y:Int)).toNat=x|||y:=by
  rw [BitVec.ofInt_natCast,BitVec.ofInt_natCast,BitVec.toNat_or,BitVec.toNat_ofNat,BitVec.toNat_ofNat,Nat.mod_eq_of_lt (by omega),Nat.mod_eq_of_lt (by omega)]
 rw [h];exact jC (Nat.or_lt_two_pow (n:=64) hx hy)
theorem W0{x y:Nat}(hx:x<18446744073709551616)(hy:y<18446744073709551616):
 u64.wrap ((BitVec.ofInt 64 (x:Int)&&& BitVec.ofInt 64 (y:Int)).toNat:Int)=((x&&& y:Nat):Int):=by
 have h:(BitVec.ofInt 64 (x:Int)&&& BitVec.ofInt 64 (y:Int)).toNat=x&&& y:=by
  rw [BitVec.ofInt_natCast,BitVec.ofInt_natCast,BitVec.toNat_and,BitVec.toNat_ofNat,BitVec.toNat_ofNat,Nat.mod_eq_of_lt (by omega),Nat.mod_eq_of_lt (by omega)]
 rw [h];exact jC (Nat.lt_of_le_of_lt Nat.and_le_left hx)
theorem S8{i:Nat}(hi:i<64):u64.wrap ((1:Int)*2 ^ (min i 64))=((2 ^ i:Nat):Int):=by
 rw [Nat.min_eq_left (by omega),Int.one_mul];have h:2 ^ i<18446744073709551616:=Nat.pow_lt_pow_right (by omega) (n:=64) hi;have:=jC h;rw [<-this];simp
def bit(ws:List Nat)(i:Nat):Bool:=(ws.getD (i/64) 0).testBit (i%64)
def okW(ws:List Nat):Prop:=∀x∈ws,x<18446744073709551616
theorem vF(i:Nat):bit [] i=false:=by simp [bit]
theorem xJ(ws:List Nat)(i:Nat):bit (ws++ [0]) i=bit ws i:=by
 unfold bit
 congr 1
 simp only [List.getD_eq_getElem?_getD,List.getElem?_append];split
 ·rfl
 ·rename_i h
  rw [List.getElem?_eq_none (l:=ws) (by omega)];cases i/64-ws.length<;>simp
theorem AP{ws:List Nat}{q:Nat}(hq:q<ws.length)(v i:Nat):bit (ws.set q v) i=if i/64=q then v.testBit (i%64)else bit ws i:=by
 unfold bit;simp only [List.getD_eq_getElem?_getD,List.getElem?_set];by_cases h:i/64=q
 ·subst h;simp [hq]
 ·rw [if_neg (fun e=>h e.symm),if_neg h]
theorem Ad{ws:List Nat}(h:okW ws){x:Nat}(hx:x<18446744073709551616):okW (ws++ [x]):=fun y hy=>by
 rw [List.mem_append,List.mem_singleton]at hy;rcases hy with hy|rfl
 ·exact h y hy
 ·exact hx
theorem Ac{ws:List Nat}(h:okW ws){x:Nat}(hx:x<18446744073709551616)(q:Nat):okW (ws.set q x):=fun y hy=>by
 rcases List.mem_or_eq_of_mem_set hy with hy|rfl
 ·exact h y hy
 ·exact hx
def us(l:List Nat):List Value:=l.map fun x:Nat=>.int .u64 (x:Int)
theorem nn(l:List Nat):(us l).length=l.length:=by simp [us]
theorem np{l:List Nat}{j x:Nat}(h:l[j]? =some x):(us l)[j]? =some (.int .u64 (x:Int)):=by simp [us,h]
theorem u9(l:List Nat)(q v:Nat):(us l).set q (.int .u64 (v:Int))=us (l.set q v):=by simp [us,List.map_set]
theorem Jt(l m:List Nat):us (l++m)=us l++us m:=by simp [us]
structure US(w:World)(A:Option Addr)(n:Nat)(l:List Nat):Prop where
 len:l.length=n
 at_:∀(i x:Nat),l[i]? =some x->∃a,A=some a/\a.block<w.heap.size/\w.cell? (a.add i)=some (.int .u64 (x:Int))
theorem US.aK{S:Nat->Prop}{w w':World}{A:Option Addr}{n:Nat}{l:List Nat}(h:US w A n l)(hk:Kept S w w')(hn:∀a,A=some a->¬S a.block):US w' A n l:=⟨h.len,fun i x hi=>by
 obtain⟨a,h1,h2,h3⟩:=h.at_ i x hi;exact⟨a,h1,Nat.lt_of_lt_of_le h2 hk.size,hk.cell h3 (by rw [iu];exact hn a h1)⟩⟩
theorem US.load{w:World}{A:Option Addr}{n:Nat}{l:List Nat}(hl:US w A n l){i:Int}{x:Nat}(h0:0<=i)(hx:l[i.toNat]? =some x){k:Int->Prop}(hk:k x):
 (0<=i/\i<(n:Int))/\Is A fun a=>∃t:Int,w.cell? (a.add (i.toNat*1))=some (.int .u64 t)/\k t:=by
 obtain⟨a,rfl,_,hc⟩:=hl.at_ _ x hx;have:=(lgeS hx).1;have:=hl.len;exact⟨⟨h0,by omega⟩,x,by rw [Nat.mul_one];exact hc,hk⟩
theorem JB:AT prog jB gM 1 8:=⟨by kernel_rfl,by kernel_rfl⟩
abbrev jv(w:World)(B:Nat)(A:Option Addr)(n c:Nat)(l:List Nat):Prop:=Row w B gM 1 A n c (us l)
section
variable{w w':World}{B n c:Nat}{A:Option Addr}{l:List Nat}
theorem jv.len(h:jv w B A n c l):l.length=n:=by have:=Row.len h;rw [nn]at this;omega
theorem jv.us(h:jv w B A n c l):US w A n l:=⟨h.len,fun i x hi=>by
 have hlen:=h.len;have:=(lgeS hi).1;obtain⟨b,rfl⟩:=Row.some h (by omega);obtain⟨_,cur,vx⟩:=Row.bW h (k:=b) rfl;exact⟨_,rfl,a7 vx,by rw [bt,Nat.zero_add];exact Row.cell h (np hi)⟩⟩
theorem Dr(i:Nat):((i:Int).tdiv 64)=((i/64:Nat):Int):=by
 rw [Int.tdiv_eq_ediv_of_nonneg (by omega)];omega
theorem Jy(i:Nat):((i:Int).tmod 64)=((i%64:Nat):Int):=by
 rw [Int.tmod_eq_emod_of_nonneg (by omega)];omega
theorem qX(h:jv w B A n c l)(hn:n<=1000000)(hB:B<=w.heap.size){t:Nat}(x:Nat):
 ∃A' c' w',(Builtin.append_ #[jB,jB] jB #[.slice A n c,.slice (some ⟨w.heap.size,0,none⟩) 1 1]).run prog (w.alloc (.cells #[.int .u64 (x:Int)] t))=.ok (.slice A' (n+1) c') w'/\
  jv w' B A' (n+1) c' (l++ [x])/\Kept (fun k=>bm A=some k) w w'/\(∀k,bm A'=some k->bm A=some k\/w.heap.size<=k):=by
 have k1:Kept Nil w (w.alloc (.cells #[.int .u64 (x:Int)] t)):=(Kept.refl _ _).alloc _;have hb:=aR w (.cells #[.int .u64 (x:Int)] t);have h1:jv (w.alloc (.cells #[.int .u64 (x:Int)] t)) B A n c l:=Row.aK h k1 (fun _ _ h=>h);obtain⟨A',c',w',hr,fU,hg,tY⟩:=im (P:=prog) (t:=jB) (ty:=jB) (bytes:=8) JB h1 (a:=⟨w.heap.size,0,none⟩) (m:=1) (cx:=1) (news:=us [x]) rfl
  (fun j u hj=>by rw [bt,Nat.zero_add,aA hb];simpa [us]using hj) (fun u hu=>by simp [us]at hu;subst hu;rfl) (by omega) (by unfold maxLen;omega) (by have:=k1.size;omega)
 refine⟨A',c',w',hr,?_,?_,fun k hk=>?_⟩
 ·show Row w' B gM 1 A' (n+1) c' (Proofs.YtfleamccglihoaaGreatDoor.us (l++ [x]))
  rw [Jt];exact fU
 ·exact(k1.mono (S':=fun k=>bm A=some k) (fun _ _ h=>h.elim)).tt (Kept.grown (S:=fun k=>bm A=some k) (Kept.refl _ _) hg (fun k hk _=>hk))
 ·rcases tY k hk with h|h
  ·exact .inl h
  ·have:=k1.size;exact .inr (by omega)
theorem wj{b:Nat}(h:jv w B (some ⟨b,0,none⟩) n c l){q:Nat}(hq:q<n)(x:Nat):
 jv (w.setCell ⟨b,q,none⟩ (.int .u64 (x:Int))) B (some ⟨b,0,none⟩) n c (l.set q x):=by
 have:=Row.set h (j:=q) (by rw [nn,h.len];exact hq) (.int .u64 (x:Int));rw [u9]at this;exact this
theorem wo{K:Value->World->Prop}(h:jv w B A n c l)(ho:okW l)(hn:n<=100000)(hB:B<=w.heap.size){i:Nat}(hi:i<=1000000)
 (hK:∀A' n' c' l' w',jv w' B A' n' c' l'->okW l'->(n'<=n\/n'<=i/64+1)->(∀j,bit l' j=(bit l j||decide (j=i)))->Kept (fun k=>bm A=some k) w w'->(∀k,bm A'=some k->bm A=some k\/w.heap.size<=k)->K (.slice A' n' c') w'):
 bf prog bA.id #[.slice A n c,.int .i64 (i:Int)] w K:=by
 refine bA.of ?_;refine bA.b9 (I:=fun s w'=>∃A' n' c' l',s=(A',n',c')/\jv w' B A' n' c' l'/\okW l'/\(n'<=n\/n'<=i/64+1)/\(∀j,bit l' j=bit l j)/\Kept (fun k=>bm A=some k) w w'/\(∀k,bm A'=some k->bm A=some k\/w.heap.size<=k))
  (μ:=fun s _=>i/64+1-s.2.1) (s:=(A,n,c)) ⟨A,n,c,l,rfl,h,ho,.inl (Nat.le_refl _),fun _=>rfl,Kept.refl _ _,fun k hk=>.inl hk⟩ ?_
 rintro s w' ⟨A',n',c',l',rfl,row,FN,UU,oD,kw,hb⟩;unfold bA.B1;rw [Dr,iF (by omega) (by omega)];refine⟨by omega,?_⟩;refine Split.dec (fun hle=>?_) (fun xn=>?_)
 ·simp only at hle
  have acw:n'<=i/64:=by omega
  obtain⟨A2,c2,w2,hr,rX,k2,o6⟩:=qX row (by omega) (Nat.le_trans hB kw.size) (t:=gM) 0;intro w6;refine⟨A2,n'+1,c2,w2,hr,?_⟩;refine⟨(A2,n'+1,c2),rfl,⟨A2,n'+1,c2,l'++ [0],rfl,rX,Ad FN (by omega),by omega,fun j=>by rw [xJ,oD],?_,fun k hk=>?_⟩,by simp only;omega⟩
  ·exact kw.trans k2 (fun k hk e=>by
    rcases hb k e with h|h
    ·exact h
    ·omega)
  ·rcases o6 k hk with h|h
   ·exact hb k h
   ·exact .inr (Nat.le_trans kw.size h)
 ·simp only at xn
  have eV:i/64<n':=by omega
  rw [aY,bA.dw];unfold bA.cU;intro o7;have FE:Kept Nil w' o7:=(Kept.refl _ _).drew;have Qa:o7=w'.drew:=rfl;clear_value o7;have rY:jv o7 B A' n' c' l':=Row.aK row FE (fun _ _ h=>h);have hlen:=row.len;rw [Dr,Jy,iF (by omega) (by omega)];obtain⟨b,rfl⟩:=Row.some rY (by omega);obtain⟨x,hx⟩:∃x,l'[i/64]? =some x:=⟨_,List.getElem?_eq_getElem (by omega)⟩;refine⟨by omega,rY.us.load (by omega) (by rw [Int.toNat_natCast];exact hx) ⟨by omega,by omega,⟨⟨by omega,by simp only;omega⟩,?_⟩⟩⟩;have tV:=FN x (List.mem_of_getElem? hx);have hp:2 ^ (i%64)<18446744073709551616:=Nat.pow_lt_pow_right (by omega) (n:=64) (Nat.mod_lt _ (by omega));simp only [Is,Int.toNat_natCast,Nat.mul_one,bt,Nat.zero_add];rw [S8 (Nat.mod_lt _ (by omega)),XH tV hp];refine⟨Row.wr rY (by rw [nn,hlen];exact eV),?_⟩;have oz:Kept (fun k=>bm A=some k) w (o7.setCell ⟨b,i/64,none⟩ (.int .u64 ((x|||2 ^ (i%64):Nat):Int))):=
   Kept.setCell (kw.trans FE (fun _ _ h=>h.elim)) (p:=⟨b,i/64,none⟩) (fun cI=>by
    rcases hb b rfl with h|h
    ·exact h
    ·exact absurd cI (by simp only;omega)) _
  refine hK _ _ _ _ _ (wj rY eV _) (Ac FN (Nat.or_lt_two_pow (n:=64) tV hp) _) UU (fun j=>?_) oz hb;rw [AP (by omega),oD];have Zs:bit l' i=x.testBit (i%64):=by unfold bit;rw [List.getD_eq_getElem?_getD,hx];rfl
  by_cases e:j/64=i/64
  ·rw [if_pos e,Nat.testBit_or,Nat.testBit_two_pow]
   have hbj:bit l' j=x.testBit (j%64):=by unfold bit;rw [e,List.getD_eq_getElem?_getD,hx];rfl
   rw [<-hbj,oD]
   congr 1
   exact decide_eq_decide.2 ⟨fun h=>by omega,fun h=>by rw [h]⟩
  ·rw [if_neg e,decide_eq_false (fun h=>e (by rw [h]))]
   simp
end
section
variable{w w':World}{B n c:Nat}{A:Option Addr}{l:List Nat}
theorem ux{K:Value->World->Prop}(h:jv w B A n c l)(ho:okW l)(hn:n<=100000)(hB:B<=w.heap.size){A2:Option Addr}{n2 c2:Nat}{v:List Nat}(hv:US w A2 n2 v)(TZ:okW v)(UT:n2<=100000)
 (Wa:∀a,A2=some a->∀k,bm A=some k->a.block≠k)
 (hK:∀A' n' c' l' w',jv w' B A' n' c' l'->okW l'->(n'<=n\/n'<=n2)->(∀j,bit l' j=(bit l j||bit v j))->Kept (fun k=>bm A=some k) w w'->(∀k,bm A'=some k->bm A=some k\/w.heap.size<=k)->K (.slice A' n' c') w'):
 bf prog bT.id #[.slice A n c,.slice A2 n2 c2] w K:=by
 have Yu:=hv.len;refine bT.of ?_;refine bT.b9 (I:=fun s w'=>∃(i:Nat) (A':Option Addr) (n' c':Nat) (l':List Nat),s=(A',n',c',(i:Int))/\i<=n2/\jv w' B A' n' c' l'/\okW l'/\i<=n'/\n<=n'/\(n'<=n\/n'<=i)/\(∀j,bit l' j=(bit l j||(decide (j/64<i)&&bit v j)))/\Kept (fun k=>bm A=some k) w w'/\(∀k,bm A'=some k->bm A=some k\/w.heap.size<=k))
  (μ:=fun s _=>((n2:Int)-s.2.2.2).toNat) (s:=(A,n,c,0)) ⟨0,A,n,c,l,rfl,Nat.zero_le _,h,ho,Nat.zero_le _,Nat.le_refl _,.inl (Nat.le_refl _),by simp,Kept.refl _ _,fun k hk=>.inl hk⟩ ?_
 rintro s w' ⟨i,A',n',c',l',rfl,hi,row,FN,gK,O9,RS,oD,kw,hb⟩;have ED:=row.len;refine Split.dec (fun lE=>?_) (fun iG=>?_)
 ·simp only at lE
  have eV:i<n2:=by omega
  obtain⟨x,hx⟩:∃x,v[i]? =some x:=⟨_,List.getElem?_eq_getElem (by omega)⟩;have tV:=TZ x (List.mem_of_getElem? hx);have hvw:US w' A2 n2 v:=hv.aK kw (fun a ha e=>Wa a ha _ e rfl);refine hvw.load (i:=(i:Int)) (by omega) hx ?_;have step:∀(A2:Option Addr) (n3 c3:Nat) (l3:List Nat) (w3:World),jv w3 B A2 n3 c3 l3->okW l3->i<n3->n<=n3->(n3<=n\/n3<=i+1)->(∀j,bit l3 j=(bit l j||(decide (j/64<i)&&bit v j)))->Kept (fun k=>bm A=some k) w w3->(∀k,bm A2=some k->bm A=some k\/w.heap.size<=k)->
   (0<=(i:Int)/\(i:Int)<(n3:Int))/\Is A2 fun a=>∃t:Int,w3.cell? (a.add ((i:Int).toNat*1))=some (.int .u64 t)/\(0<=(i:Int)/\(i:Int)<(n3:Int))/\Is A2 fun a'=>Wr w3 (a'.add ((i:Int).toNat*1))/\
     ∃(l4:List Nat),
     jv (w3.setCell (a'.add ((i:Int).toNat*1)) (.int .u64 (u64.wrap ((BitVec.ofInt 64 t|||BitVec.ofInt 64 (x:Int)).toNat)))) B A2 n3 c3 l4/\okW l4/\(∀j,bit l4 j=(bit l j||(decide (j/64<i+1)&&bit v j)))/\Kept (fun k=>bm A=some k) w (w3.setCell (a'.add ((i:Int).toNat*1)) (.int .u64 (u64.wrap ((BitVec.ofInt 64 t|||BitVec.ofInt 64 (x:Int)).toNat)))):=by
   intro A2 n3 c3 l3 w3 rf YO Ve hn3 ack I0 k3 oX;have Y7:=rf.len;obtain⟨b,rfl⟩:=Row.some rf (by omega);obtain⟨y,hy⟩:∃y,l3[i]? =some y:=⟨_,List.getElem?_eq_getElem (by omega)⟩;have Ym:=YO y (List.mem_of_getElem? hy);refine rf.us.load (i:=(i:Int)) (by omega) hy ⟨⟨by omega,by omega⟩,?_⟩;simp only [Is,Int.toNat_natCast,Nat.mul_one,bt,Nat.zero_add];rw [XH Ym tV];refine⟨Row.wr rf (by rw [nn];omega),l3.set i (y|||x),wj rf Ve _,Ac YO (Nat.or_lt_two_pow (n:=64) Ym tV) _,fun j=>?_,?_⟩
   ·rw [AP (by omega),I0]
    have EN:j/64=i->bit v j=x.testBit (j%64):=fun e=>by unfold bit;rw [e,List.getD_eq_getElem?_getD,hx];rfl
    have FV:j/64=i->bit l3 j=y.testBit (j%64):=fun e=>by unfold bit;rw [e,List.getD_eq_getElem?_getD,hy];rfl
    by_cases e:j/64=i
    ·rw [if_pos e,Nat.testBit_or,<-FV e,<-EN e,I0]
     rw [decide_eq_false (show ¬j/64<i by omega),decide_eq_true (show j/64<i+1 by omega)];simp
    ·rw [if_neg e]
     congr 2
     exact decide_eq_decide.2 (by omega)
   ·refine Kept.setCell k3 (p:=⟨b,i,none⟩) (fun cI=>?_) _
    rcases oX b rfl with h|h
    ·exact h
    ·exact absurd cI (by simp only;omega)
  by_cases he:i=n'
  ·refine Split.yes (by simp [he]) ?_
   obtain⟨Xn,MI,w2,hr,rX,k2,o6⟩:=qX row (by omega) (Nat.le_trans hB kw.size) (t:=gM) 0;intro w10;refine⟨Xn,n'+1,MI,w2,hr,?_⟩;have st:=step Xn (n'+1) MI (l'++ [0]) w2 rX (Ad FN (by omega)) (by omega) (by omega) (by omega) (fun j=>by rw [xJ,oD])
    (kw.trans k2 (fun k hk e=>by
      rcases hb k e with h|h
      ·exact h
      ·omega)) (fun k hk=>by
      rcases o6 k hk with h|h
      ·exact hb k h
      ·exact .inr (Nat.le_trans kw.size h))
   clear step;obtain⟨s1,s2⟩:=st;refine⟨s1,?_⟩;cases Xn with
   |none=>exact s2.elim
   |some a=>
    obtain⟨t,s3,s4,s5,l4,s6,s7,s8,s9⟩:=s2;refine⟨t,s3,s4,s5,?_⟩;intro ln;simp only;rw [eF (n:=(i:Int)) (by omega) (by omega)];exact⟨(some a,n'+1,MI,(i:Int)+1),rfl,⟨i+1,some a,n'+1,MI,l4,rfl,eV,s6,s7,by omega,by omega,by omega,s8,s9,fun k hk=>by
     rcases o6 k hk with h|h
     ·exact hb k h
     ·exact .inr (Nat.le_trans kw.size h)⟩,by simp only;omega⟩
  ·refine Split.no (beq_eq_false_iff_ne.2 (by simp only;omega)) ?_
   have st:=step A' n' c' l' w' row FN (by omega) O9 (by omega) oD kw hb;clear step;obtain⟨s1,s2⟩:=st;refine⟨s1,?_⟩;cases A' with
   |none=>exact s2.elim
   |some a=>
    obtain⟨t,s3,s4,s5,l4,s6,s7,s8,s9⟩:=s2;refine⟨t,s3,s4,s5,?_⟩;intro ln;simp only;rw [eF (n:=(i:Int)) (by omega) (by omega)];exact⟨(some a,n',c',(i:Int)+1),rfl,⟨i+1,some a,n',c',l4,rfl,eV,s6,s7,by omega,O9,by omega,s8,s9,hb⟩,by simp only;omega⟩
 ·simp only at iG
  have:i=n2:=by omega
  subst this;rw [aY,bT.dw];refine hK A' n' c' l' w' row FN (by omega) (fun j=>?_) kw hb;rw [oD]
  congr 1
  by_cases e:j/64<i
  ·rw [decide_eq_true e];simp
  ·rw [decide_eq_false e]
   unfold bit;rw [List.getD_eq_getElem?_getD,List.getElem?_eq_none (by omega)];simp
end
theorem xN:∀k m:Nat,(2 ^ k*(2*m+1))&&& (2 ^ k*(2*m+1)-1)=2 ^ (k+1)*m
 |0,m=>by
  apply Nat.eq_of_testBit_eq;intro i;rw [Nat.testBit_and];cases i with
  |zero=>simp [Nat.testBit_zero]
  |succ i=>
   simp only [Nat.testBit_succ];rw [show(2 ^ 0*(2*m+1))/2=m by omega,show(2 ^ 0*(2*m+1)-1)/2=m by omega,show 2 ^ (0+1)*m/2=m by omega];simp
 |k+1,m=>by
  have ih:=xN k m;have hp:0<2 ^ k*(2*m+1):=Nat.mul_pos (Nat.pow_pos (by omega)) (by omega);rw [show 2 ^ (k+1)*(2*m+1)=2*(2 ^ k*(2*m+1))by rw [Nat.pow_succ];ac_rfl,show 2 ^ (k+1+1)*m=2*(2 ^ (k+1)*m)by rw [Nat.pow_succ 2 (k+1)];ac_rfl];generalize 2 ^ k*(2*m+1)=x at ih hp⊢;rw [<-ih];apply Nat.eq_of_testBit_eq;intro i;rw [Nat.testBit_and];cases i with
  |zero=>simp [Nat.testBit_zero]
  |succ i=>
   simp only [Nat.testBit_succ];rw [show 2*x/2=x by omega,show(2*x-1)/2=x-1 by omega,show 2*(x&&& (x-1))/2=x&&& (x-1)by omega,Nat.testBit_and]
theorem Af{x:Nat}(h0:x≠0)(hx:x<18446744073709551616):Lib.ctz 64 x<64/\x.testBit (Lib.ctz 64 x)=true/\∀t,(x&&& (x-1)).testBit t=(x.testBit t&&decide (t≠Lib.ctz 64 x)):=by
 obtain⟨m,h1,h2⟩:=Lib.ctzFrom_spec 64 x (by omega) hx;have e:Lib.ctz 64 x=Lib.ctzFrom 64 x:=by unfold Lib.ctz;rw [if_neg h0]
 rw [e];generalize Lib.ctzFrom 64 x=k at h1 h2⊢;have hand:x&&& (x-1)=2 ^ (k+1)*m:=by rw [h1];exact xN k m
 have hb:∀t,x.testBit t=(decide (t>=k)&&(2*m+1).testBit (t-k)):=fun t=>by rw [h1,Nat.testBit_two_pow_mul]
 refine⟨h2,by rw [hb];simp,fun t=>?_⟩;rw [hand,Nat.testBit_two_pow_mul,hb];by_cases ht:t=k
 ·subst ht
  simp;intro h;omega
 ·rw [decide_eq_true ht,Bool.and_true]
  by_cases hk:t>=k
  ·obtain⟨d,hd⟩:∃d,t-k=d+1:=⟨t-k-1,by omega⟩
   rw [decide_eq_true hk,decide_eq_true (show t>=k+1 by omega),hd,show t-(k+1)=d by omega,Nat.testBit_succ,show(2*m+1)/2=m by omega]
  ·rw [decide_eq_false hk,decide_eq_false (show ¬t>=k+1 by omega)]
   simp
theorem vI{x:Nat}(h0:x≠0):x&&& (x-1)<x:=Nat.lt_of_le_of_lt Nat.and_le_right (by omega)
def sj(x:Nat):List Nat:=if h:x=0 then []else Lib.ctz 64 x::sj (x&&& (x-1))
termination_by x
decreasing_by exact vI h
theorem uF:sj 0= []:=by rw [sj];simp
theorem uH{x:Nat}(h0:x≠0):sj x=Lib.ctz 64 x::sj (x&&& (x-1)):=by rw [sj,dif_neg h0]
theorem uG:∀(x:Nat),x<18446744073709551616->(∀t,t∈sj x↔x.testBit t=true)/\(sj x).Nodup/\∀t∈sj x,t<64:=by
 intro x
 induction x using Nat.strongRecOn with
 |_ x ih=>
  intro hx;by_cases h0:x=0
  ·subst h0;rw [uF];simp
  ·obtain⟨h1,h2,h3⟩:=Af h0 hx
   obtain⟨i1,i2,i3⟩:=ih _ (vI h0) (Nat.lt_trans (vI h0) hx);rw [uH h0];refine⟨fun t=>?_,?_,fun t ht=>?_⟩
   ·rw [List.mem_cons,i1,h3]
    by_cases e:t=Lib.ctz 64 x
    ·rw [e,h2];simp
    ·simp [e]
   ·rw [List.nodup_cons,i1,h3]
    exact⟨by simp,i2⟩
   ·rcases List.mem_cons.1 ht with rfl|ht
    ·exact h1
    ·exact i3 t ht
def nD:Nat->List Nat->List Nat
 |_,[]=> []
 |k,x::ws=>(sj x).map (64*k+ ·)++nD (k+1) ws
theorem Fk(x:Nat)(ws:List Nat)(j:Nat):bit (x::ws) j=if j<64 then x.testBit j else bit ws (j-64):=by
 unfold bit;split
 ·rename_i h
  rw [show j/64=0 by omega,show j%64=j by omega];rfl
 ·rename_i h
  rw [show j/64=(j-64)/64+1 by omega,show j%64=(j-64)%64 by omega];rfl
theorem nH:∀(ws:List Nat) (k j:Nat),okW ws->(j∈nD k ws↔64*k<=j/\bit ws (j-64*k)=true)
 | [],k,j,_=>by simp [nD,bit]
 |x::ws,k,j,ho=>by
  obtain⟨h1,_,h3⟩:=uG x (ho x (by simp));have ih:=nH ws (k+1) j (fun y hy=>ho y (by simp [hy]));rw [nD,List.mem_append,ih,Fk,List.mem_map];constructor
  ·rintro(⟨t,ht,rfl⟩|⟨h,hb⟩)
   ·have:=h3 t ht
    refine⟨by omega,?_⟩;rw [if_pos (by omega),show 64*k+t-64*k=t by omega];exact(h1 t).1 ht
   ·refine⟨by omega,?_⟩
    rw [if_neg (by omega),show j-64*k-64=j-64*(k+1)by omega];exact hb
  ·rintro⟨h,hb⟩
   split at hb
   ·exact .inl ⟨j-64*k,(h1 _).2 hb,by omega⟩
   ·refine .inr ⟨by omega,?_⟩
    rw [show j-64*(k+1)=j-64*k-64 by omega];exact hb
theorem sd:∀ {l m:List Nat},l.Nodup->(∀x∈l,x∈m)->l.length<=m.length
 | [],_,_,_=>Nat.zero_le _
 |x::l,m,hn,h=>by
  rw [List.nodup_cons]at hn;have hx:=h x (by simp);have:=sd (l:=l) (m:=m.erase x) hn.2 (fun y hy=>by
   have fG:y≠x:=fun e=>hn.1 (e▸hy);exact(List.mem_erase_of_ne fG).2 (h y (by simp [hy])))
  rw [List.length_erase_of_mem hx]at this;have kl:0<m.length:=List.length_pos_of_mem hx;simp only [List.length_cons];omega
def p0(w:World):Prop:=TabAt (Tryz.jg.g 1) Lib.deBruijn64tab w
theorem p0.aK{S:Nat->Prop}{w w':World}(h:p0 w)(hk:Kept S w w')(hn:¬S (Tryz.jg.g 1)):p0 w':=fun j hj=>hk.cell (h j hj) hn
theorem p0.same{w w':World}(h:p0 w)(hk:Kept Nil w w'):p0 w':=h.aK hk fun h=>h
theorem p0.lt{w:World}(h:p0 w):Tryz.jg.g 1<w.heap.size:=World.block_lt_of_cell? w _ (h 0 (by decide))
section
variable{w:World}{K:Value->World->Prop}
theorem MY{x:Nat}(hx:x<18446744073709551616)(hT:p0 w)(hK:K (.int .i64 (Lib.ctz 64 x:Nat)) w):bf prog bits_TrailingZeros64.id #[.int .u64 (x:Int)] w K:=by
 refine Calls.mono (Any7.bits_TrailingZeros64 Tryz.tzL x hx w (fun _=>hT)) ?_;rintro e w' ⟨rfl,rfl⟩;exact⟨_,rfl,hK⟩
abbrev encI(i:Nat):List Value:= [.int .i64 (i:Int)]
theorem Fo(p:Addr){A:Option Addr}{n c:Nat}{l:List Nat}(hn:n<=100000)(ho:okW l):
 lV prog aF.id #[] #[.pointer (some p)] ((nD 0 l).map encI) (fun w=>US w A n l/\w.cell? p=some (.slice A n c)/\p0 w):=by
 intro y I D w0 hI hD pK h0 oU;refine aF.of ?_;obtain⟨vv,Mr,_⟩:=pK 0 w0 h0;have hlen:=vv.len;refine⟨A,n,c,Mr,?_⟩;refine aF.b9 (I:=fun s w'=>∃(i:Nat) (dn:List Nat),s=(i:Int)/\i<=n/\dn++nD i (l.drop i)=nD 0 l/\I dn.length w') (μ:=fun s _=>((n:Int)-s).toNat) (s:=0) ⟨0,[],rfl,Nat.zero_le _,rfl,h0⟩ ?_;rintro s w' ⟨i,dn,rfl,hi,EI,hw⟩;refine Split.dec (fun lE=>?_) (fun iG=>?_)
 ·have eV:i<n:=by omega
  obtain⟨x,hx⟩:∃x,l[i]? =some x:=⟨_,List.getElem?_eq_getElem (by omega)⟩;have tV:=ho x (List.mem_of_getElem? hx);have hl:=(pK _ w' hw).1;have P7:l.drop i=x::l.drop (i+1):=by
   obtain⟨h1,h2⟩:=lgeS hx;rw [List.drop_eq_getElem_cons h1,h2]
  rw [P7,nD]at EI;refine hl.load (i:=(i:Int)) (by omega) hx ?_;refine aF.iK (I:=fun s w'=>∃(v:Nat) (dn:List Nat),s=(v:Int)/\v<18446744073709551616/\dn++((sj v).map (64*i+ ·)++nD (i+1) (l.drop (i+1)))=nD 0 l/\I dn.length w') (μ:=fun s _=>s.toNat) (s:=(x:Int)) ⟨x,dn,rfl,tV,EI,hw⟩ ?_;clear hw EI;rintro s w1 ⟨v,Sm,rfl,hv,EH,FH⟩;by_cases h0:v=0
  ·refine Split.no (by subst h0;rfl) ?_
   rw [aY,aF.lI];unfold aF.jX;rw [eF (n:=(i:Int)) (by omega) (by omega)];rw [h0,uF,List.map_nil,List.nil_append]at EH;exact⟨(i:Int)+1,rfl,⟨i+1,Sm,rfl,eV,EH,FH⟩,by simp only;omega⟩
  ·refine Split.yes (bne_iff_ne.2 (by omega)) ?_
   have hpr:=pK _ w1 FH;obtain⟨hk,IL,hkr⟩:=Af h0 hv;rw [uH h0,List.map_cons,List.cons_append]at EH;refine MY hv hpr.2.2 ⟨_,rfl,?_⟩;have eA:((nD 0 l).map encI)[Sm.length]? =some (encI (64*i+Lib.ctz 64 v)):=by
    rw [List.getElem?_map,<-EH,List.getElem?_append_right (Nat.le_refl _),Nat.sub_self];rfl
   have Kq:i64.wrap (i64.wrap ((64:Int)*(i:Int))+((Lib.ctz 64 v:Nat):Int))=((64*i+Lib.ctz 64 v:Nat):Int):=by
    rw [iF (x:=(64:Int)*(i:Int)) (by omega) (by omega),iF (by omega) (by omega)];omega
   rw [Kq];refine(oU Sm.length _ w1 eA FH).mono ?_;rintro b kZ ⟨ht,hf⟩;have nM:u64.wrap ((BitVec.ofInt 64 (v:Int)&&& BitVec.ofInt 64 (u64.wrap ((v:Int)-(1:Int)))).toNat:Int)=((v&&& (v-1):Nat):Int):=by
    have e1:(v:Int)-1=((v-1:Nat):Int):=by omega
    rw [e1,jC (x:=v-1) (by omega),W0 hv (by omega)]
   cases b with
   |true=>
    refine Split.no rfl ?_;rw [nM];have cI:=vI h0;refine⟨((v&&& (v-1):Nat):Int),rfl,⟨v&&& (v-1),Sm++ [64*i+Lib.ctz 64 v],rfl,by omega,by rw [List.append_assoc];exact EH,?_⟩,by simp only;omega⟩;rw [List.length_append];exact ht rfl
   |false=>
    refine Split.yes rfl ?_;exact Or.inr (hf rfl)
 ·rw [aY,aF.dw]
  have e:i=n:=by omega
  subst e;refine Or.inl ?_;rw [List.drop_eq_nil_of_le (by omega),nD,List.append_nil]at EI;rw [List.length_map,<-EI];exact hw
end
def pos(h:HT):List HT->Nat->Option Nat
 | [],_=>none
 |x::l,i=>if h=x then some i else pos h l (i+1)
theorem r5{h:HT}:∀ {l:List HT} {i:Nat},pos h l i=none↔h∉l
 | [],i=>by simp [pos]
 |x::l,i=>by
  unfold pos;split
  ·rename_i e;simp [e]
  ·rename_i e
   rw [r5 (l:=l)];simp [e]
theorem wz{h:HT}:∀ {l:List HT} {i j:Nat},pos h l i=some j->i<=j/\l[j-i]? =some h
 | [],i,j,e=>by simp [pos]at e
 |x::l,i,j,e=>by
  unfold pos at e;split at e
  ·rename_i hx
   cases e;subst hx;exact⟨Nat.le_refl _,by rw [Nat.sub_self];rfl⟩
  ·obtain⟨h1,h2⟩:=wz e
   refine⟨by omega,?_⟩;rw [show j-i=(j-(i+1))+1 by omega];exact h2
theorem jy{h:HT}:∀ {l:List HT} (i j:Nat),l.Nodup->l[j]? =some h->pos h l i=some (i+j)
 | [],i,j,_,e=>by simp at e
 |x::l,i,0,_,e=>by
  simp only [List.getElem?_cons_zero,Option.some.injEq]at e;unfold pos;rw [if_pos e.symm];simp
 |x::l,i,j+1,hn,e=>by
  simp only [List.getElem?_cons_succ]at e;rw [List.nodup_cons]at hn;unfold pos;rw [if_neg (fun hx=>hn.1 (by rw [<-hx];exact List.mem_of_getElem? e)),jy (i+1) j hn.2 e]
  congr 1
  omega
section
variable{w:World}
theorem Gf:prog.underlying ax=some (.array 32 iD):=by kernel_rfl
theorem Ju:prog.underlying iD=some (.int .u8):=by kernel_rfl
theorem Ip:∃i,prog.info? iD=some i/\i.size=1:=by
 have h:(match prog.info? iD with|some i=>Nat.beq i.size 1|none=>false)=true:=by kernel_rfl
 split at h
 ·rename_i i hi;exact⟨i,hi,Nat.eq_of_beq_eq_true h⟩
 ·cases h
theorem Jv:prog.underlying b0=some (.map ax iN):=by kernel_rfl
theorem rU(a b:HT)(w:World):(Op.equal ax (.agg a.1) (.agg b.1)).run prog w=.ok (decide (a=b)) w:=by
 obtain⟨i,hi,h1⟩:=Ip;have:=nv (P:=prog) 9998 w Gf Ju hi h1 a.2.ints b.2.ints;rw [gw]at this;simp only [Op.equal,Op.maxDepth];exact this
theorem gY(h:HT)(em:Bool)(w:World):(Instr.checkKey em 10000 ax (.agg h.1)).run prog w=.ok () w:=by
 obtain⟨i,hi,h1⟩:=Ip;have hc:prog.cellsOf iD=1:=by simp [Program.cellsOf,hi,h1]
 rw [show(10000:Nat)=9999+1 from rfl,Instr.checkKey];simp only [Sem.run_bind,run_underlying Gf,Result.andThen_ok];simp only [Std.Legacy.Range.forIn_eq_forIn_range',Std.Legacy.Range.size,Nat.sub_zero,Nat.add_one_sub_one,Nat.div_one];have each:∀j∈List.range' 0 32,∃v,h.1[j]? =some v/\∃x:Int,v=.int .u8 x:=fun j hj=>by
  have uP:j<h.1.size:=by rw [h.2.1];simpa using hj
  obtain⟨x,hx,_⟩:=h.2.2 h.1[j] (by simp);exact⟨_,Array.getElem?_eq_getElem uP,x,hx⟩
 generalize List.range' 0 32=is at each
 induction is with
 |nil=>simp
 |cons j is ih=>
  obtain⟨v,hv,x,rfl⟩:=each j (by simp);have Hw:(isAgg iD).run prog w=.ok false w:=by simp [isAgg,run_underlying Ju]
  have p1:(part iD h.1 (j*1)).run prog w=.ok (.int .u8 x) w:=by simp [part,Hw,hv]
  have p2:(Instr.checkKey em 9999 iD (.int .u8 x)).run prog w=.ok () w:=by
   rw [show(9999:Nat)=9998+1 from rfl,Instr.checkKey];simp [run_underlying Ju]
  simp only [List.forIn_cons,Sem.run_bind,Go.bE.run_sizeOf hi w,hc,Result.andThen_ok,p1,p2,Sem.run_pure];exact ih (fun y hy=>each y (by simp [hy]))
def xT(es:List MapEntry)(l:List HT)(i:Nat):Prop:=match es,l with
 | [],[]=>True
 |e::es,h::l=>(e.key=.agg h.1/\e.val=.int .i64 (i:Int))/\xT es l (i+1)
 |_,_=>False
theorem xT.snoc:∀ {es:List MapEntry} {l:List HT} {i:Nat} {e:MapEntry} {h:HT},xT es l i->e.key=.agg h.1->e.val=.int .i64 ((i+l.length:Nat):Int)->xT (es++ [e]) (l++ [h]) i
 | [],[],i,e,h,_,h1,h2=>⟨⟨h1,by simpa using h2⟩,trivial⟩
 |x::es,y::l,i,e,h,he,h1,h2=>⟨he.1,xT.snoc he.2 h1 (by rw [h2];congr 2;simp;omega)⟩
 | [],_::_,_,_,_,he,_,_=>he.elim
 |_::_,[],_,_,_,he,_,_=>he.elim
theorem ph(h:HT)(w:World):∀(es:List MapEntry) (l:List HT) (i:Nat),xT es l i->
 (Instr.findAsking ax (.agg h.1) es i).run prog w=.ok ((pos h l i).map fun j=>(j,.int .i64 (j:Int))) w
 | [],[],i,_=>by simp [Instr.findAsking,pos]
 |e::es,x::l,i,he=>by
  have hq:=rU h x w;have ih:=ph h w es l (i+1) he.2;simp only [Instr.findAsking,he.1.1,Sem.run_bind,hq,Result.andThen_ok];by_cases hx:h=x
  ·simp [hx,pos,he.1.2]
  ·simp [hx,pos,ih]
 | [],_::_,_,he=>he.elim
 |_::_,[],_,he=>he.elim
theorem mh(h:HT)(w:World){es:List MapEntry}{l:List HT}(he:xT es l 0):
 (Instr.findKey ax (.agg h.1) es).run prog w=.ok ((pos h l 0).map fun j=>(j,.int .i64 (j:Int))) w:=by
 have h1:=ph h w es l 0 he;simp only [Instr.findKey,Sem.run_bind,run_underlying Gf,Result.andThen_ok];cases es with
 |nil=>
  cases l with
  |nil=>simp [Instr.findNow,pos]
  |cons x l=>exact he.elim
 |cons e es=>
  have:Instr.findNow (.array 32 iD) (.agg h.1) (e::es) 0=none:=by
   simp only [Instr.findNow,Instr.sameNow]
  rw [this];exact h1
theorem nO{r:Nat}{es:Array MapEntry}{clock:Nat}(hb:w.heap[r]? =some (.map es clock)):(getObj r).run prog w=.ok (.map es clock) w:=by
 simp [getObj,Sem.run,hb]
theorem yn{r:Nat}{es:Array MapEntry}{clock:Nat}(o:Obj)(hb:w.heap[r]? =some (.map es clock)):(setObj r o).run prog w=.ok () {w with heap:=w.heap.setIfInBounds r o}:=by
 simp [setObj,Sem.run,hb]
structure IsMap(w:World)(m:Nat)(l:List HT):Prop where
 ex:∃es clock,w.heap[m]? =some (.map es clock)/\xT es.toList l 0
theorem IsMap.aK{S:Nat->Prop}{w w':World}{m:Nat}{l:List HT}(h:IsMap w m l)(hk:Kept S w w')(hn:¬S m):IsMap w' m l:=by
 obtain⟨es,clock,h1,h2⟩:=h.ex;exact⟨es,clock,hk.heap h1 hn,h2⟩
theorem IsMap.lt{w:World}{m:Nat}{l:List HT}(h:IsMap w m l):m<w.heap.size:=by
 obtain⟨es,clock,h1,_⟩:=h.ex;exact a7 h1
theorem IsMap.look{m:Nat}{l:List HT}(hm:IsMap w m l)(h:HT):
 (Instr.lookup b0 (.map (some m)) (.agg h.1) true).run prog w=.ok (.tuple #[.int .i64 (((pos h l 0).getD 0:Nat):Int),.bool (pos h l 0).isSome]) w:=by
 obtain⟨es,clock,h1,h2⟩:=hm.ex;have h3:=mh h w h2;simp only [Instr.lookup,Sem.run_bind,run_underlying Jv,nO h1,Result.andThen_ok,Sem.run_pure,gY,h3];cases hp:pos h l 0<;>simp
theorem IsMap.uI{m:Nat}{l:List HT}(hm:IsMap w m l)(h:HT):
 (Instr.lookup b0 (.map (some m)) (.agg h.1) false).run prog w=.ok (.int .i64 (((pos h l 0).getD 0:Nat):Int)) w:=by
 obtain⟨es,clock,h1,h2⟩:=hm.ex;have h3:=mh h w h2;simp only [Instr.lookup,Sem.run_bind,run_underlying Jv,nO h1,Result.andThen_ok,Sem.run_pure,gY,h3];cases hp:pos h l 0<;>simp
theorem IsMap.put{m:Nat}{l:List HT}(hm:IsMap w m l){h:HT}(hn:h∉l):
 ∃w',(Instr.mapUpdate b0 (.map (some m)) (.agg h.1) (.int .i64 ((l.length:Nat):Int))).run prog w=.ok () w'/\IsMap w' m (l++ [h])/\Kept (· =m) w w':=by
 obtain⟨es,clock,h1,h2⟩:=hm.ex;have h3:=mh h w h2;rw [r5.2 hn]at h3;refine⟨{w with heap:=w.heap.setIfInBounds m (.map (es.push {key:=.agg h.1,val:=.int .i64 ((l.length:Nat):Int),born:=clock}) (clock+1))},?_,⟨es.push {key:=.agg h.1,val:=.int .i64 ((l.length:Nat):Int),born:=clock},clock+1,?_,?_⟩,?_⟩
 ·simp only [Instr.mapUpdate,Sem.run_bind,run_underlying Jv,nO h1,Result.andThen_ok,gY,h3,Option.map_none,yn _ h1]
 ·simp [a7 h1]
 ·have:=h2.snoc (e:= {key:=.agg h.1,val:=.int .i64 ((l.length:Nat):Int),born:=clock}) (h:=h) rfl (by simp)
  simpa using this
 ·exact⟨rfl,rfl,rfl,by simp,fun k _ hk=>by simp [Ne.symm hk]⟩
end
end Go.Proofs.YtfleamccglihoaaGreatDoor
namespace Go.Proofs.YtfleamccglihoaaGreatDoor
open Go.Proofs.Tryz
open Go Go.bE
structure DN where
 id:HT
 ps:List HT
abbrev DG:=List DN
def ids(D:DG):List HT:=D.map (·.id)
def mY(D:DG)(p h:HT):Prop:=∃nd∈D,nd.id=h/\p∈nd.ps
inductive fE (D:DG):HT->HT->Prop
 |one {p h:HT}:mY D p h->fE D p h
 |more {a p h:HT}:fE D a p->mY D p h->fE D a h
theorem fE.trans{D:DG}{a b c:HT}(h:fE D a b)(h':fE D b c):fE D a c:=by
 induction h' with
 |one hp=>exact .more h hp
 |more _ hp ih=>exact .more ih hp
structure jY(D:DG):Prop where
 pos:0<D.length
 nodup:(ids D).Nodup
 ss:∀nd∈D,SS nd.ps
 up:∀(i:Nat) nd p,D[i]? =some nd->p∈nd.ps->∃(j:Nat) (m:DN),j<i/\D[j]? =some m/\m.id=p
theorem jF(D:DG):(ids D).length=D.length:=by simp [ids]
theorem rE{D:DG}{i:Nat}{nd:DN}(h:D[i]? =some nd):(ids D)[i]? =some nd.id:=by simp [ids,h]
theorem Kk{D:DG}{i:Nat}{h:HT}(e:(ids D)[i]? =some h):∃nd,D[i]? =some nd/\nd.id=h:=by
 unfold ids at e;rw [List.getElem?_map]at e;cases hd:D[i]? with
 |none=>rw [hd]at e;cases e
 |some nd=>rw [hd]at e;exact⟨nd,rfl,by simpa using e⟩
theorem dB{D:DG}{h:HT}:h∈ids D↔∃nd∈D,nd.id=h:=by simp [ids]
section
variable{D:DG}
theorem jY.inj(W:jY D){i j:Nat}{a b:DN}(ha:D[i]? =some a)(hb:D[j]? =some b)(e:a.id=b.id):i=j:=by
 have h1:=jy 0 i W.nodup (rE ha);have h2:=jy 0 j W.nodup (rE hb);rw [e,h2]at h1;simpa using h1.symm
theorem jY.pos_eq(W:jY D){i:Nat}{nd:DN}(h:D[i]? =some nd):Proofs.YtfleamccglihoaaGreatDoor.pos nd.id (ids D) 0=some i:=by
 have:=jy 0 i W.nodup (rE h)
 rwa [Nat.zero_add]at this
theorem mY.at_(W:jY D){p h:HT}(hp:mY D p h):∃(i j:Nat) (m nd:DN),i<j/\D[i]? =some m/\D[j]? =some nd/\m.id=p/\nd.id=h/\p∈nd.ps:=by
 obtain⟨nd,gJ,rfl,vQ⟩:=hp;obtain⟨j,hj⟩:=List.mem_iff_getElem?.1 gJ;obtain⟨i,m,pM,hm,e⟩:=W.up j nd p hj vQ;exact⟨i,j,m,nd,pM,hm,hj,e,rfl,vQ⟩
theorem fE.at_(W:jY D){a h:HT}(hp:fE D a h):∃(i j:Nat) (m nd:DN),i<j/\D[i]? =some m/\D[j]? =some nd/\m.id=a/\nd.id=h:=by
 induction hp with
 |one hp=>
  obtain⟨i,j,m,nd,h1,h2,h3,h4,h5,_⟩:=hp.at_ W;exact⟨i,j,m,nd,h1,h2,h3,h4,h5⟩
 |more _ hp ih=>
  obtain⟨i,j,m,nd,h1,h2,h3,h4,h5⟩:=ih;obtain⟨i',j',m',nd',qO,sF,AJ,Sb,h5',_⟩:=hp.at_ W;have e:=W.inj h3 sF (by rw [h5,Sb]);exact⟨i,j',m,nd',by omega,h2,AJ,h4,h5'⟩
theorem fE.irrefl(W:jY D)(a:HT):¬fE D a a:=fun h=>by
 obtain⟨i,j,m,nd,h1,h2,h3,h4,h5⟩:=h.at_ W;have:=W.inj h2 h3 (by rw [h4,h5]);omega
theorem fE.mem(W:jY D){a h:HT}(hp:fE D a h):a∈ids D/\h∈ids D:=by
 obtain⟨i,j,m,nd,_,h2,h3,h4,h5⟩:=hp.at_ W;exact⟨dB.2 ⟨m,List.mem_of_getElem? h2,h4⟩,dB.2 ⟨nd,List.mem_of_getElem? h3,h5⟩⟩
theorem AQ(W:jY D){i:Nat}{nd:DN}(h:D[i]? =some nd)(a:HT):fE D a nd.id↔∃p∈nd.ps,a=p\/fE D a p:=by
 have key:∀ {p},mY D p nd.id->p∈nd.ps:=fun⟨nd',hm,e,hp⟩=>by
  obtain⟨j,hj⟩:=List.mem_iff_getElem?.1 hm;have:=W.inj h hj e.symm;subst this;rw [h]at hj;cases hj;exact hp
 constructor
 ·intro ha
  generalize he:nd.id=x at ha;cases ha with
  |one hp=>subst he;exact⟨a,key hp,.inl rfl⟩
  |more y9 hp=>subst he;exact⟨_,key hp,.inr y9⟩
 ·rintro⟨p,hp,e⟩
  have oB:mY D p nd.id:=⟨nd,List.mem_of_getElem? h,rfl,hp⟩;rcases e with rfl|e
  ·exact .one oB
  ·exact .more e oB
theorem lL{nd:DN}{p h:HT}:mY (D++ [nd]) p h↔mY D p h\/(nd.id=h/\p∈nd.ps):=by
 unfold mY;constructor
 ·rintro⟨m,hm,e,hp⟩
  rw [List.mem_append,List.mem_singleton]at hm;rcases hm with hm|rfl
  ·exact .inl ⟨m,hm,e,hp⟩
  ·exact .inr ⟨e,hp⟩
 ·rintro(⟨m,hm,e,hp⟩|⟨e,hp⟩)
  ·exact⟨m,by simp [hm],e,hp⟩
  ·exact⟨nd,by simp,e,hp⟩
theorem ir(W:jY D){nd:DN}(hn:nd.id∉ids D){a h:HT}(hh:h∈ids D):fE (D++ [nd]) a h↔fE D a h:=by
 constructor
 ·intro ha
  induction ha with
  |one hp=>
   rcases lL.1 hp with hp|⟨e,_⟩
   ·exact .one hp
   ·subst e;exact absurd hh hn
  |more _ hp ih=>
   rcases lL.1 hp with hp|⟨e,_⟩
   ·exact .more (ih (fE.mem W (.one hp)).1) hp
   ·subst e;exact absurd hh hn
 ·intro ha
  induction ha with
  |one hp=>exact .one (lL.2 (.inl hp))
  |more y9 hp ih=>exact .more (ih (fE.mem W y9).2) (lL.2 (.inl hp))
theorem jL(D:DG)(nd:DN):ids (D++ [nd])=ids D++ [nd.id]:=by simp [ids]
theorem jY.snoc(W:jY D){nd:DN}(hn:nd.id∉ids D)(vQ:∀p∈nd.ps,p∈ids D)(hs:SS nd.ps):jY (D++ [nd]) where
 pos:=by simp
 nodup:=by
  rw [jL,List.nodup_append];refine⟨W.nodup,by simp,fun a ha b hb=>?_⟩;rw [List.mem_singleton]at hb;subst hb;exact fun e=>hn (e▸ha)
 ss:=fun m hm=>by
  rw [List.mem_append,List.mem_singleton]at hm;rcases hm with hm|rfl
  ·exact W.ss m hm
  ·exact hs
 up:=fun i m p hi hp=>by
  rw [List.getElem?_append]at hi;split at hi
  ·rename_i cI
   obtain⟨j,q,h1,h2,h3⟩:=W.up i m p hi hp;exact⟨j,q,h1,by rw [List.getElem?_append_left (by omega)];exact h2,h3⟩
  ·rename_i iG
   have:m=nd:=by
    cases hk:i-D.length with
    |zero=>rw [hk]at hi;simpa using hi.symm
    |succ k=>rw [hk]at hi;simp at hi
   subst this;obtain⟨q,hq,e⟩:=dB.1 (vQ p hp);obtain⟨j,hj⟩:=List.mem_iff_getElem?.1 hq;have tD:=(lgeS hj).1;exact⟨j,q,by omega,by rw [List.getElem?_append_left tD];exact hj,e⟩
end
theorem jY.root(r:HT):jY [⟨r,[]⟩] where
 pos:=by simp
 nodup:=by simp [ids]
 ss:=fun nd h=>by simp at h;subst h;exact List.Pairwise.nil
 up:=fun i nd p h hp=>by
  cases i with
  |zero=>simp at h;subst h;simp at hp
  |succ i=>simp at h
def eB(D:DG)(h:HT)(l:List HT):Int:=
 if h∈ids D then 7 else if(di l).length=0\/(di l).length≠l.length then 9 else if ∃p∈di l,p∉ids D then 6 else 0
def mB(D:DG)(h:HT)(l:List HT):DG:=if eB D h l=0 then D++ [⟨h,di l⟩]else D
theorem ly{D:DG}{h:HT}{l:List HT}(e:eB D h l=0):h∉ids D/\l≠ []/\l.Nodup/\∀p∈di l,p∈ids D:=by
 unfold eB at e;split at e
 ·cases e
 ·rename_i h1
  split at e
  ·cases e
  ·rename_i h2
   split at e
   ·cases e
   ·rename_i h3
    simp only [not_or,Decidable.not_not]at h2;refine⟨h1,fun hl=>h2.1 (by rw [hl];rfl),pC h2.2,fun p hp=>Classical.byContradiction fun hn=>h3 ⟨p,hp,hn⟩⟩
theorem jY.add{D:DG}(W:jY D)(h:HT)(l:List HT):jY (mB D h l):=by
 unfold mB;split
 ·rename_i e
  obtain⟨h1,_,_,h4⟩:=ly e;exact W.snoc h1 h4 (iI l)
 ·exact W
open Classical in
noncomputable def pick(D:DG)(is:HT->Prop):List HT:=di ((ids D).filter fun a=>decide (is a))
theorem jK{D:DG}{is:HT->Prop}{a:HT}:a∈pick D is↔a∈ids D/\is a:=by
 unfold pick;rw [dJ,List.mem_filter];simp
theorem Gp{D:DG}{is:HT->Prop}{l:List HT}(h:∀a,a∈l↔a∈ids D/\is a):di l=pick D is:=zW fun x=>by
 rw [h,List.mem_filter];simp
theorem pv(D:DG)(is:HT->Prop):(pick D is).length<=D.length:=by
 unfold pick;refine Nat.le_trans (nW _) (Nat.le_trans (List.length_filter_le _ _) ?_);rw [jF];exact Nat.le_refl _
noncomputable def eT(D:DG)(l:List HT):List HT:=pick D fun a=>∃h∈l,fE D a h
noncomputable def fH(D:DG)(h:HT):List HT:=pick D fun a=>mY D h a
open Go.RowKit
section
variable{w w':World}{F F' S:Nat->Prop}{A:Option Addr}{n:Nat}{l:List DN}
theorem Dt:AT prog mV oZ 33 56:=⟨by kernel_rfl,by kernel_rfl⟩
variable{r:Nat}{D:DG}{K:Value->World->Prop}
end
section
variable{w w':World}{F F' S:Nat->Prop}{A:Option Addr}{n c B:Nat}{l:List DN}{news:List Value}{r:Nat}{D:DG}{K:Value->World->Prop}
end
section
variable{w w' kZ:World}{F S:Nat->Prop}{D:DG}{l out:List HT}{A1 A2:Option Addr}{c1 c2 r:Nat}{K:Value->World->Prop}
theorem lj(w:World)(x:HT):HS (w.alloc (.cells (x.1.toList++ []).toArray ax)) (some ⟨w.heap.size,0,none⟩) 1 [x]:=by
 refine HS.one (t:=ax) (fr:=(0,0)) ?_;rw [List.append_nil,Array.toArray_toList];exact aR w _
end
section
variable{w w' kZ:World}{F S:Nat->Prop}{D:DG}{is:HT->Prop}{i:Nat}{l out:List HT}{A:Option Addr}{c r:Nat}{K:Value->World->Prop}
theorem DH(W:jY D){j:Nat}{nd:DN}(h2:D[j]? =some nd)(p:HT):mY D p nd.id↔p∈nd.ps:=by
 constructor
 ·rintro⟨md,Ax,e,hp⟩
  obtain⟨k,hk⟩:=List.mem_iff_getElem?.1 Ax;have:=W.inj hk h2 e;subst this;rw [h2]at hk;cases hk;exact hp
 ·exact fun hp=>⟨nd,List.mem_of_getElem? h2,rfl,hp⟩
end
structure NM where
 b:Nat
 pA:Option Addr
 pn:Nat
 pc:Nat
 cA:Option Addr
 cn:Nat
 cc:Nat
 rA:Option Addr
 rn:Nat
 rc:Nat
 ws:List Nat
def eN(h:HT)(m:NM):Array Value:=h.1++ #[.slice m.pA m.pn m.pc,.slice m.cA m.cn m.cc,.slice m.rA m.rn m.rc]
theorem sg(h:HT)(m:NM):(eN h m).size=35:=by unfold eN;rw [Array.size_append,h.2.1];rfl
theorem DK(h:HT)(m:NM){j:Nat}{v:Value}(hj:h.1[j]? =some v):(eN h m)[j]? =some v:=by
 unfold eN;rw [Array.getElem?_append_left (Array.getElem?_eq_some_iff.1 hj).1];exact hj
theorem DL(h:HT)(m:NM):(eN h m)[33]? =some (.slice m.cA m.cn m.cc):=by
 unfold eN;rw [Array.getElem?_append_right (by rw [h.2.1];omega),h.2.1];rfl
theorem wJ(h:HT)(m:NM):(eN h m)[34]? =some (.slice m.rA m.rn m.rc):=by
 unfold eN;rw [Array.getElem?_append_right (by rw [h.2.1];omega),h.2.1];rfl
theorem BM{h h':HT}{m m':NM}(e:eN h m=eN h' m'):h=h':=by
 apply Subtype.ext;have h1:=h.2.1;have h2:=h'.2.1;have:=congrArg (fun a:Array Value=>a.toList.take 32) e;unfold eN at this;simp only [Array.toList_append]at this;rw [List.take_left' (by simpa using h1),List.take_left' (by simpa using h2)]at this;exact Array.ext' this
structure o0(w:World)(S F:Nat->Prop)(D:DG)(ch:List HT)(nd:DN)(m:NM):Prop where
 bW:w.heap[m.b]? =some (.cells (eN nd.id m) df (0,0))
 fg:S m.b
 ps:HS w m.pA m.pn nd.ps
 Gn:∀a,m.pA=some a->F a.block
 ch:cm w 0 m.cA m.cn m.cc ch
 LF:∀k,bm m.cA=some k->S k
 past:US w m.rA m.rn m.ws
 nB:∀a,m.rA=some a->F a.block
 ok:okW m.ws
 bits:∀j,bit m.ws j=true↔∃nj,D[j]? =some nj/\fE D nj.id nd.id
 small:m.rn<=200
structure GV(w:World)(S F:Nat->Prop)(g:Nat)(D:DG)(C:HT->List HT)(bl c mb:Nat)(M:List NM):Prop where
 top:w.heap[g]? =some (.cells #[.slice (some ⟨bl,0,none⟩) D.length c,.map (some mb)] fO (0,0))
 row:Row w 0 dP 1 (some ⟨bl,0,none⟩) D.length c (M.map fun m=>.pointer (some ⟨m.b,0,none⟩))
 map:IsMap w mb (ids D)
 len:M.length=D.length
 node:∀(i:Nat) nd m,D[i]? =some nd->M[i]? =some m->o0 w S F D (C nd.id) nd m
 apart:∀(i j:Nat) m m',M[i]? =some m->M[j]? =some m'->i≠j->∀k,bm m.cA=some k->bm m'.cA≠some k
 fX:S g
 qS:S bl
 sO:S mb
 C8:∀k,S k->¬F k
 low:∀k,S k\/F k->k<w.heap.size
def AX(w:World)(S F:Nat->Prop)(g:Nat)(D:DG):Prop:=∃bl c mb M,GV w S F g D (fH D) bl c mb M
section
variable{w w':World}{S F S' F':Nat->Prop}{g bl c mb:Nat}{D:DG}{C:HT->List HT}{M:List NM}{K:Value->World->Prop}
theorem o0.aK{ch:List HT}{nd:DN}{m:NM}{S0:Nat->Prop}(h:o0 w S F D ch nd m)(hk:Kept S0 w w')(hS:∀k,S k->¬S0 k)(hF:∀k,F k->¬S0 k):o0 w' S F D ch nd m:=
 ⟨hk.heap h.bW (hS _ h.fg),h.fg,h.ps.aK hk (fun a ha=>hF _ (h.Gn a ha)),h.Gn,Row.aK h.ch hk (fun k hb=>hS k (h.LF k hb)),h.LF,h.past.aK hk (fun a ha=>hF _ (h.nB a ha)),h.nB,h.ok,h.bits,h.small⟩
theorem GV.aK{S0:Nat->Prop}(h:GV w S F g D C bl c mb M)(hk:Kept S0 w w')(hS:∀k,S k->¬S0 k)(hF:∀k,F k->¬S0 k):GV w' S F g D C bl c mb M:=
 ⟨hk.heap h.top (hS _ h.fX),Row.aK h.row hk (fun k e=>by cases e;exact hS _ h.qS),h.map.aK hk (hS _ h.sO),h.len,fun i nd m h1 h2=>(h.node i nd m h1 h2).aK hk hS hF,h.apart,h.fX,h.qS,h.sO,h.C8,fun k mX=>Nat.lt_of_lt_of_le (h.low k mX) hk.size⟩
theorem GV.same(h:GV w S F g D C bl c mb M)(hk:Kept Nil w w'):GV w' S F g D C bl c mb M:=h.aK hk (fun _ _ h=>h) (fun _ _ h=>h)
theorem AX.aK{S0:Nat->Prop}(h:AX w S F g D)(hk:Kept S0 w w')(hS:∀k,S k->¬S0 k)(hF:∀k,F k->¬S0 k):AX w' S F g D:=let ⟨bl,c,mb,M,h⟩:=h;⟨bl,c,mb,M,h.aK hk hS hF⟩
theorem AX.same(h:AX w S F g D)(hk:Kept Nil w w'):AX w' S F g D:=h.aK hk (fun _ _ h=>h) (fun _ _ h=>h)
theorem GV.get(h:GV w S F g D C bl c mb M){i:Nat}{nd:DN}(hi:D[i]? =some nd):∃m,M[i]? =some m/\o0 w S F D (C nd.id) nd m:=by
 have:=(lgeS hi).1;have hl:=h.len;exact⟨M[i],List.getElem?_eq_getElem (by omega),h.node i nd _ hi (List.getElem?_eq_getElem (by omega))⟩
theorem GV.nodes(h:GV w S F g D C bl c mb M):w.cell? ((⟨g,0,none⟩:Addr).add 0)=some (.slice (some ⟨bl,0,none⟩) D.length c):=by rw [add_zero,aA h.top];rfl
theorem GV.at_(h:GV w S F g D C bl c mb M):w.cell? ((⟨g,0,none⟩:Addr).add 1)=some (.map (some mb)):=by rw [bt,aA h.top];rfl
theorem GV.ptr(h:GV w S F g D C bl c mb M){i:Nat}{m:NM}(hm:M[i]? =some m):w.cell? ((⟨bl,0,none⟩:Addr).add (i*1))=some (.pointer (some ⟨m.b,0,none⟩)):=by
 rw [bt,Nat.zero_add,Nat.mul_one];exact Row.cell h.row (by rw [List.getElem?_map,hm];rfl)
theorem uW(h:GV w S F g D C bl c mb M)(hK:K (.bool true) w):bf prog eZ.id #[.pointer (some ⟨g,0,none⟩)] w K:=
 eZ.of (Split.yes rfl ⟨some mb,h.at_,hK⟩)
def Found(D:DG)(M:List NM)(h:HT)(x:Option Addr):Prop:=(x=none/\h∉ids D)\/∃(i:Nat) (nd:DN) (m:NM),D[i]? =some nd/\nd.id=h/\M[i]? =some m/\x=some ⟨m.b,0,none⟩
theorem Found.isSome{h:HT}{x:Option Addr}(f:Found D M h x):(!x.isNone)=decide (h∈ids D):=by
 rcases f with⟨rfl,hn⟩|⟨i,nd,m,h1,h2,_,rfl⟩
 ·rw [decide_eq_false hn];rfl
 ·rw [decide_eq_true (dB.2 ⟨nd,List.mem_of_getElem? h1,h2⟩)];rfl
theorem sV(G:GV w S F g D C bl c mb M)(h:HT)(hK:∀w' x,Kept Nil w w'->Found D M h x->K (.pointer x) w'):
 bf prog eM.id #[.pointer (some ⟨g,0,none⟩),.agg h.1] w K:=by
 refine eM.of ?_;unfold eM.W;intro w3;have k3:Kept Nil w w3:=(Kept.refl _ _).alloc _;have oX:w3.heap[w.heap.size]? =some (.cells h.1 ax (0,0)):=aR w _;clear_value w3;refine uW (G.same k3) ⟨true,rfl,Split.yes rfl ?_⟩;intro w7;have k7:Kept Nil w3 w7:=(Kept.refl _ _).drew;clear_value w7;have kw:Kept Nil w w7:=k3.tt k7;have G7:=G.same kw;refine⟨some mb,G7.at_,h.1,⟨h.2.1,Cells.bW (k7.heap oX (fun h=>h))⟩,_,_,G7.map.look h,?_⟩;cases hp:pos h (ids D) 0 with
 |none=>exact Split.no rfl (hK w7 none kw (.inl ⟨rfl,r5.1 hp⟩))
 |some i=>
  obtain⟨_,hi⟩:=wz hp;obtain⟨nd,h1,h2⟩:=Kk hi;rw [Nat.sub_zero]at h1;obtain⟨m,hm,_⟩:=G7.get h1;have eV:=(lgeS h1).1;refine Split.yes rfl ⟨_,_,_,G7.nodes,⟨by simp,by simp only [Option.getD_some];omega⟩,some ⟨m.b,0,none⟩,?_,hK w7 _ kw (.inr ⟨i,nd,m,h1,h2,hm,rfl⟩)⟩;rw [Option.getD_some,Int.toNat_natCast];exact G7.ptr hm
theorem pS(G:GV w S F g D C bl c mb M)(h:HT)(hK:∀w',Kept Nil w w'->K (.bool (decide (h∈ids D))) w'):
 bf prog fz.id #[.pointer (some ⟨g,0,none⟩),.agg h.1] w K:=by
 refine fz.of ?_;unfold fz.W;intro w3;have k3:Kept Nil w w3:=(Kept.refl _ _).alloc _;have oX:w3.heap[w.heap.size]? =some (.cells h.1 ax (0,0)):=aR w _;clear_value w3;refine⟨h.1,⟨h.2.1,Cells.bW oX⟩,sV (G.same k3) h fun w6 x k6 hx=>⟨x,rfl,?_⟩⟩;rw [hx.isSome];exact hK w6 (k3.tt k6)
end
section
variable{w w':World}{S F:Nat->Prop}{g bl c mb:Nat}{D:DG}{C:HT->List HT}{M:List NM}{K:Value->World->Prop}
end
section
variable{w w':World}{S F:Nat->Prop}{g bl c mb:Nat}{D:DG}{C:HT->List HT}{M:List NM}{K:Value->World->Prop}
theorem zx{A:Option Addr}{n c:Nat}{l:List HT}(hl:HS w A n l)(hn:n<=400000)(hK:∀A' c' w',cm w' w.heap.size A' n c' l->Kept Nil w w'->K (.slice A' n c') w'):
 bf prog cH.id #[.slice A n c] w K:=by
 refine cH.of ?_;cases A with
 |none=>
  obtain⟨rfl,rfl⟩:=hl.none;exact Split.yes rfl (hK none 0 w (cm.nil _ _) (Kept.refl _ _))
 |some a=>
  refine Split.no rfl ?_;intro w2;have k2:Kept Nil w w2:=(Kept.refl _ _).alloc _;have r0:cm w2 w.heap.size (some ⟨w.heap.size,0,none⟩) 0 0 []:=Row.made (n:=0) (cur:= #[]) (aR w _) (Nat.le_refl _) rfl (Nat.zero_le _);clear_value w2;obtain⟨A',c',w4,hr,row,hg,_⟩:=gu (cx:=c) aV r0 (hl.same k2) (by omega) k2.size;rw [Nat.zero_add]at hr row;rw [List.nil_append]at row;exact⟨A',n,c',w4,hr,hK A' c' w4 row (Kept.pO k2 hg (fun k hk=>by cases hk;exact Nat.le_refl _))⟩
theorem uA{D:DG}{nd:DN}{m:NM}{ch:List HT}(N:o0 w S F D ch nd m):w.cell? ((⟨m.b,0,none⟩:Addr).add 34)=some (.slice m.rA m.rn m.rc):=by
 rw [bt,Nat.zero_add,aA N.bW];exact wJ _ _
theorem Ae{D:DG}{nd:DN}{m:NM}{ch:List HT}(N:o0 w S F D ch nd m):w.cell? ((⟨m.b,0,none⟩:Addr).add 33)=some (.slice m.cA m.cn m.cc):=by
 rw [bt,Nat.zero_add,aA N.bW];exact DL _ _
end
def mM(D:DG)(j:Nat):HT:=match D[j]? with|some nd=>nd.id|none=>default
theorem r9:∀(ws:List Nat) (k:Nat),okW ws->(nD k ws).Nodup
 | [],_,_=>List.Pairwise.nil
 |x::ws,k,ho=>by
  have hx:=ho x (by simp);have FN:okW ws:=fun y hy=>ho y (by simp [hy]);obtain⟨_,h2,h3⟩:=uG x hx;rw [nD,List.nodup_append];refine⟨List.Pairwise.map _ (fun a b mH e=>mH (by omega)) h2,r9 ws (k+1) FN,fun a ha b hb e=>?_⟩;rw [List.mem_map]at ha;obtain⟨t,ht,rfl⟩:=ha;have:=((nH ws (k+1) b FN).1 hb).1;have:=h3 t ht;omega
section
variable{w w':World}{S F:Nat->Prop}{g bl c mb:Nat}{D:DG}{C:HT->List HT}{M:List NM}{K:Value->World->Prop}
theorem sW(G:GV w S F g D C bl c mb M)(W:jY D)(hD:D.length<=10000)(hT:p0 w){A:Option Addr}{n cx:Nat}{l:List HT}(hl:HS w A n l)(hn:n<=10000)
 (hK:∀A' c' w',cm w' w.heap.size A' (eT D l).length c' (eT D l)->Kept Nil w w'->K (.slice A' (eT D l).length c') w'):
 bf prog aJ.id #[.pointer (some ⟨g,0,none⟩),.slice A n cx] w K:=by
 have hlen:=hl.len;refine aJ.of ?_;unfold aJ.W;intro w3;have k3:Kept Nil w w3:=(Kept.refl _ _).alloc _;have Vo:w3.heap[w.heap.size]? =some (.cells #[.pointer (some ⟨g,0,none⟩)] eE (0,0)):=aR w _;have G3:w.heap.size<w3.heap.size:=a7 Vo;clear_value w3;refine aJ.b9 (I:=fun s w'=>∃(i:Nat) (A':Option Addr) (n' c':Nat) (ws:List Nat),s=(A',n',c',(i:Int))/\i<=n/\jv w' w3.heap.size A' n' c' ws/\okW ws/\n'<=200/\(∀j,bit ws j=true↔∃h∈l.take i,∃nj,D[j]? =some nj/\fE D nj.id h)/\Kept Nil w3 w')
  (μ:=fun s _=>((n:Int)-s.2.2.2).toNat) (s:=(none,0,0,0)) ⟨0,none,0,0,[],rfl,Nat.zero_le _,Row.nil _ _ _ _,by simp [okW],by omega,by simp [vF],Kept.refl _ _⟩ ?_
 rintro s w' ⟨i,A',n',c',ws,rfl,hi,row,ho,UU,oD,kw⟩;have kk:Kept Nil w w':=k3.tt kw;refine Split.dec (fun lE=>?_) (fun iG=>?_)
 ·simp only at lE
  have eV:i<n:=by omega
  obtain⟨h,hh⟩:∃h,l[i]? =some h:=⟨_,List.getElem?_eq_getElem (by omega)⟩;refine(hl.same kk).load (i:=(i:Int)) (by omega) hh ?_;intro o7;obtain⟨ri,ju,jc⟩:=fY (w:=w') (z:=(yM 0)) (cs:=h.1) (t:=ax) (by rw [h.2.1];rfl);refine⟨⟨h.2.1,h.2.one,fun j hj=>ri j (by rw [h.2.1];exact hj)⟩,?_⟩;intro nh
  replace ju:nh.heap[w'.heap.size]? =some (.cells h.1 ax (0,0)):=ju
  replace jc:Kept Nil w' nh:=jc
  clear_value nh;have uN:Kept Nil w3 nh:=kw.tt jc;refine⟨some ⟨g,0,none⟩,by rw [aA (uN.heap Vo (fun h=>h))];rfl,h.1,⟨h.2.1,Cells.bW ju⟩,?_⟩;refine sV (G.same (k3.tt uN)) h fun p6 x Ap hx=>⟨x,rfl,?_⟩;have GO:Kept Nil w3 p6:=uN.tt Ap;have DU:Kept Nil w p6:=k3.tt GO;have uz:jv p6 w3.heap.size A' n' c' ws:=Row.aK row (jc.tt Ap) (fun _ _ h=>h);rcases hx with⟨rfl,rG⟩|⟨q,nd,m',hq,rfl,oC,rfl⟩
  ·refine Split.no rfl ?_
   simp only;rw [eF (n:=(i:Int)) (by omega) (by omega)];refine⟨(A',n',c',(i:Int)+1),rfl,⟨i+1,A',n',c',ws,rfl,eV,uz,ho,UU,fun j=>?_,GO⟩,by simp only;omega⟩;rw [oD];constructor
   ·rintro⟨h',h1,h2⟩;exact⟨h',(bI hh).2 (.inl h1),h2⟩
   ·rintro⟨h',h1,nj,h2,h3⟩
    rcases(bI hh).1 h1 with h1|rfl
    ·exact⟨h',h1,nj,h2,h3⟩
    ·exact absurd (h3.mem W).2 rG
  ·obtain⟨m,hm,N⟩:=(G.same DU).get hq
   rw [oC]at hm;cases hm;refine Split.yes rfl ⟨_,_,_,uA N,?_⟩;have B7:=N.small;have Cm:∀k,bm A'=some k->w3.heap.size<=k:=fun k hk=>(Row.bW uz hk).1;refine ux uz ho (by omega) GO.size N.past N.ok (by omega) (fun a ha k hk e=>?_) fun A2 n2 c2 l2 km Ng UL Pe Lf pZ Hu=>⟨A2,n2,c2,rfl,?_⟩
   ·have h1:=G.low a.block (.inr (N.nB a ha))
    have h2:=Cm k hk;omega
   ·simp only
    rw [eF (n:=(i:Int)) (by omega) (by omega)];refine⟨(A2,n2,c2,(i:Int)+1),rfl,⟨i+1,A2,n2,c2,l2,rfl,eV,Ng,UL,by omega,fun j=>?_,GO.trans pZ (fun k hk e=>absurd (Cm k e) (by omega))⟩,by simp only;omega⟩;rw [Lf,Bool.or_eq_true,oD,N.bits];constructor
    ·rintro(⟨h',h1,h2⟩|h2)
     ·exact⟨h',(bI hh).2 (.inl h1),h2⟩
     ·exact⟨nd.id,(bI hh).2 (.inr rfl),h2⟩
    ·rintro⟨h',h1,h2⟩
     rcases(bI hh).1 h1 with h1|rfl
     ·exact .inl ⟨h',h1,h2⟩
     ·exact .inr h2
 ·simp only at iG
  have Za:i=n:=by omega
  subst Za;rw [List.take_of_length_le (by omega)]at oD;rw [aY,aJ.dw];unfold aJ.cU;intro ur;have Ii:Kept Nil w' ur:=(Kept.refl _ _).alloc _;have O5:ur.heap[w'.heap.size]? =some (.cells #[.slice none 0 0] aV (0,0)):=aR w' _;clear_value ur;refine iX.of ?_;unfold iX.W;intro mL;have xU:Kept Nil ur mL:=(Kept.refl _ _).alloc _;have OK:mL.heap[ur.heap.size]? =some (.cells #[.slice A' n' c'] jB (0,0)):=aR ur _;clear_value mL;refine⟨_,rfl,?_⟩;have O4:=xU.heap O5 (fun h=>h);have NT:Kept Nil w3 mL:=(kw.tt Ii).tt xU;have GA:Kept Nil w mL:=k3.tt NT;have Nc:jv mL w3.heap.size A' n' c' ws:=Row.aK (Row.aK row Ii (fun _ _ h=>h)) xU (fun _ _ h=>h);have Vn:=NT.heap Vo (fun h=>h);have xl:w.heap.size<w'.heap.size:=Nat.lt_of_lt_of_le G3 kw.size;have abS:w'.heap.size<mL.heap.size:=a7 O4;have abT:ur.heap.size<mL.heap.size:=a7 OK;have Ex:∀j∈nD 0 ws,∃nj,D[j]? =some nj:=fun j hj=>by
   have:=((nH ws 0 j ho).1 hj).2;rw [Nat.mul_zero,Nat.sub_zero]at this;obtain⟨_,_,nj,h1,_⟩:=(oD j).1 this;exact⟨nj,h1⟩
  have UO:(nD 0 ws).length<=D.length:=by
   have:=sd (m:=List.range D.length) (r9 ws 0 ho) (fun j hj=>by
    obtain⟨nj,h1⟩:=Ex j hj;exact List.mem_range.2 (lgeS h1).1)
   rwa [List.length_range]at this
  let xs:=nD 0 ws
  let ρ0:Env:= [(2,.pointer (some (aU w.heap.size))),(4,.slice none 0 0),(9,.pointer (some (aU w'.heap.size))),(30,.func (.func aF.id) #[] #[.pointer (some (aU ur.heap.size))])]
  let J:Nat->World->Prop:=fun i v=>∃A c,v.heap[w'.heap.size]? =some (.cells #[.slice A i c] aV (0,0))/\cm v mL.heap.size A i c ((xs.take i).map (mM D))/\Kept (· =w'.heap.size) mL v/\i<=xs.length
  have pK:∀i v,J i v->US v A' n' ws/\v.cell? ⟨ur.heap.size,0,none⟩=some (.slice A' n' c')/\p0 v:=by
   rintro i v ⟨A,c,h1,h2,h3,h4⟩;refine⟨Nc.us.aK h3 (fun a ha e=>?_),by rw [aA (h3.heap OK (by have:=a7 O5;omega))];rfl,(hT.same GA).aK h3 (fun e=>by have:=hT.lt;omega)⟩;have hk:bm A'=some a.block:=by rw [ha];rfl
   obtain⟨_,cur,hc⟩:=Row.bW row hk;have:=a7 hc;omega
  refine mn (ρ:=ρ0) (ρ0:=ρ0) ng mix aJ.k (t:=30) (ps:= #[31]) (by kernel_rfl) (by decide) rfl aF.at_ rfl (.inl rfl) (fun i v _ h=>h) rfl encI xs (fun _=>rfl) (by simp [fN]) (Fo ⟨ur.heap.size,0,none⟩ (c:=c') (by omega) ho) J (fun _ _=>False) ?_ (fun _ _ _ _ _ h=>h.elim) pK ?_ ?_ ?_ (fun _ _ h=>h.elim) (fun _ _ _ h=>h.elim)
  ·rintro i v v' R oV ⟨A,c,h1,h2,h3,h4⟩ hk
   exact⟨A,c,hk.heap h1 (jE h1 oV.loop),Row.apart h2 hk (fun cs t fr h=>by rw [oV.loop]at h;cases h),h3.trans hk (fun k hk e=>by omega),h4⟩
  ·intro R
   exact⟨none,0,jD (jD O4 _) _,cm.nil _ _,(((Kept.refl _ _).alloc _).alloc _),Nat.zero_le _⟩
  ·rintro i x v R hx hj oV
   have hJ:=hj;obtain⟨A,c,h1,h2,h3,h4⟩:=hj;have eV:i<xs.length:=(lgeS hx).1;have e7:jV ρ0 ((#[31]:Array Nat).toList.zip (encI x))= [(2,.pointer (some (aU w.heap.size))),(4,.slice none 0 0),(9,.pointer (some (aU w'.heap.size))),(30,.func (.func aF.id) #[] #[.pointer (some (aU ur.heap.size))]),(31,.int .i64 (x:Int))]:=rfl;rw [e7,aJ.a1];unfold aJ.A1;refine⟨oV,fun w2 R2 mN tC=>?_⟩;have C5:=mN.heap h1 (jE h1 oV.loop);have zf:cm w2 mL.heap.size A i c ((xs.take i).map (mM D)):=Row.apart h2 mN (fun cs t fr h=>by rw [oV.loop]at h;cases h);have WD:Kept (· =w'.heap.size) mL w2:=h3.trans mN (fun k hk e=>by omega);clear hJ h1 h2 h3;rw [aJ.y1];unfold aJ.Y1;intro Jq;have RB:Kept Nil w2 Jq:=(Kept.refl _ _).drew;clear_value Jq;have QT:=RB.heap C5 (fun h=>h);have Aj:Kept (· =w'.heap.size) mL Jq:=WD.trans RB (fun _ _ h=>h.elim);obtain⟨nj,IG⟩:=Ex x (List.mem_of_getElem? hx);have tV:=(lgeS IG).1;have Tj:Kept Nil w Jq:=GA.trans Aj (fun k hk e=>by omega);obtain⟨m,hm,N⟩:=(G.same Tj).get IG;refine⟨A,i,c,by rw [aA QT];rfl,some ⟨g,0,none⟩,by rw [aA (Aj.heap Vn (by omega))];rfl,?_⟩;refine⟨_,_,_,(G.same Tj).nodes,⟨by omega,by omega⟩,some ⟨m.b,0,none⟩,by rw [Int.toNat_natCast];exact(G.same Tj).ptr hm,?_⟩;refine⟨nj.id.1,⟨nj.id.2.1,fun j v hj=>?_⟩,nj.id.2.1,?_⟩
   ·rw [add_zero,bt,Nat.zero_add,aA N.bW]
    exact DK _ _ hj
   intro LZ;have NQ:Kept Nil Jq LZ:=(Kept.refl _ _).alloc _;have lj:HS LZ (some ⟨Jq.heap.size,0,none⟩) 1 [nj.id]:=lj Jq nj.id;clear_value LZ;have QS:=NQ.heap QT (fun h=>h);refine⟨by rw [aA QS];rfl,?_⟩;have HA:cm LZ mL.heap.size A i c ((xs.take i).map (mM D)):=Row.aK (Row.aK zf RB (fun _ _ h=>h)) NQ (fun _ _ h=>h);have Oz:mL.heap.size<=LZ.heap.size:=Nat.le_trans Aj.size NQ.size;have GX:xs.length<=D.length:=UO;obtain⟨A2,c2,oL,hr,uy,Hl,Lh⟩:=gu (cx:=1) aV HA lj (by omega) Oz;have K0:Kept (fun k=>bm A=some k) LZ oL:=Kept.grown (Kept.refl _ _) Hl (fun k hk _=>hk);have QO:∀k,bm A=some k->mL.heap.size<=k:=fun k hk=>(Row.bW HA hk).1;have QR:=K0.heap QS (fun e=>by have:=QO _ e;omega);have U6:Live (mL.heap.size+1) mL.heap.size R2 oL:=by
    have KO:=(tC.aK RB (fun h=>h) (fun h=>h)).aK NQ (fun h=>h) (fun h=>h);refine KO.aK K0 ?_ ?_
    ·intro h
     obtain⟨_,cur,hc⟩:=Row.bW HA h;exact jE hc KO.loop rfl
    ·intro h
     obtain⟨_,cur,hc⟩:=Row.bW HA h;exact vh hc KO.mark rfl
   refine⟨A2,_,c2,oL,hr,dz QR (by simp),?_⟩;intro SJ;have Ty:Kept (· =w'.heap.size) oL SJ:=Kept.setCell (S:=fun k=>k=w'.heap.size) (Kept.refl _ oL) (p:=⟨w'.heap.size,0,none⟩) (fun _=>rfl) _;have VZ:SJ.heap[w'.heap.size]? =some (.cells #[.slice A2 (i+1) c2] aV (0,0)):=cR QR 0 _;clear_value SJ;refine⟨U6.aK Ty (by omega) (by omega),A2,c2,VZ,?_,((Aj.trans NQ (fun _ _ h=>h.elim)).trans K0 (fun k hk e=>absurd (QO k e) (by omega))).tt Ty,eV⟩;have e:(xs.take (i+1)).map (mM D)=(xs.take i).map (mM D)++ [nj.id]:=by
    rw [List.take_add_one,hx];simp [mM,IG]
   rw [e];exact Row.aK uy Ty (fun k hk e=>by have:=(Row.bW uy hk).1;omega)
  ·rintro v R ⟨A,c,h1,h2,h3,h4⟩ oV
   have e7:fZ ρ0 mL.heap.size= [(2,.pointer (some (aU w.heap.size))),(4,.slice none 0 0),(9,.pointer (some (aU w'.heap.size))),(30,.func (.func aF.id) #[] #[.pointer (some (aU ur.heap.size))]),(4294967296,.agg #[.pointer (some ⟨mL.heap.size,0,none⟩)])]:=rfl;rw [e7,aJ.jw];rw [List.take_of_length_le (Nat.le_refl _)]at h2;have GX:xs.length<=D.length:=UO;refine⟨A,xs.length,c,by rw [aA h1];rfl,fV h2.hs (by omega) fun A2 c2 SI DC Tx=>⟨A2,_,c2,rfl,⟨Tx.heap oV.mark (fun h=>h),trivial⟩,?_⟩⟩;have hmk:=Tx.heap oV.mark (fun h=>h);have kp:Kept (· =mL.heap.size) SI (SI.putObj mL.heap.size (.deferred none)):=Kept.putAt _ _ _;have e:di (xs.map (mM D))=eT D l:=Gp fun a=>by
    rw [List.mem_map];constructor
    ·rintro⟨j,hj,rfl⟩
     have hb:=((nH ws 0 j ho).1 hj).2;rw [Nat.mul_zero,Nat.sub_zero]at hb;obtain⟨h',qO,nj,sF,AJ⟩:=(oD j).1 hb;have:mM D j=nj.id:=by unfold mM;rw [sF]
     rw [this];exact⟨(AJ.mem W).1,h',qO,AJ⟩
    ·rintro⟨ha,h',hh',ET⟩
     obtain⟨nj,YP,rfl⟩:=dB.1 ha;obtain⟨j,hj⟩:=List.mem_iff_getElem?.1 YP;refine⟨j,(nH ws 0 j ho).2 ⟨by omega,?_⟩,by unfold mM;rw [hj]⟩;rw [Nat.mul_zero,Nat.sub_zero];exact(oD j).2 ⟨h',hh',nj,hj,ET⟩
   rw [e]at DC⊢;have mo:Kept Nil w SI:=(GA.trans h3 (fun k hk e=>by omega)).tt Tx;have hws:w.heap.size<=v.heap.size:=Nat.le_trans GA.size h3.size;refine hK A2 c2 _ (Row.base (Row.apart DC kp (fun cs t fr h=>by rw [hmk]at h;cases h)) fun b hb=>Nat.le_trans hws (Row.bW DC hb).1) (mo.trans kp (fun k hk e=>by omega))
end
section
variable{w w':World}{S F:Nat->Prop}{g bl c mb gb:Nat}{D:DG}{C:HT->List HT}{M:List NM}{K:Value->World->Prop}
theorem xG(G:GV w S F g D C bl c mb M)(hg:w.heap[gb]? =some (.cells #[.pointer (some ⟨g,0,none⟩)] eE (0,0))){A:Option Addr}{n cx:Nat}{l:List HT}(hl:HS w A n l)(hn:n<=400000)
 (hK:∀w' (x:Bool),(x=true↔∃p∈l,p∉ids D)->Kept Nil w w'->K (.bool x) w'):
 bf prog c9.id #[.slice A n cx,.func (.func du.id) #[] #[.pointer (some ⟨gb,0,none⟩)]] w K:=by
 have hlen:=hl.len;refine bQ.of (au.of ?_);refine au.b9 (I:=fun s w'=>∃i:Nat,s=(0,(i:Int))/\i<=n/\(∀p∈l.take i,p∈ids D)/\Kept Nil w w') (μ:=fun s _=>((n:Int)-s.2).toNat) (s:=(0,0)) ⟨0,rfl,Nat.zero_le _,by simp,Kept.refl _ _⟩ ?_;rintro s w' ⟨i,rfl,hi,cV,kw⟩;refine Split.dec (fun lE=>?_) (fun iG=>?_)
 ·simp only at lE
  have eV:i<n:=by omega
  obtain⟨x,hx⟩:∃x,l[i]? =some x:=⟨_,List.getElem?_eq_getElem (by omega)⟩;refine(hl.same kw).load (i:=(i:Int)) (by omega) hx ?_;refine du.of ?_;unfold du.W;intro w3;have k3:Kept Nil w' w3:=(Kept.refl _ _).alloc _;have oX:w3.heap[w'.heap.size]? =some (.cells x.1 ax (0,0)):=aR w' _;clear_value w3;have Tl:=kw.tt k3;refine⟨some ⟨g,0,none⟩,by rw [aA (Tl.heap hg (fun h=>h))];rfl,x.1,⟨x.2.1,Cells.bW oX⟩,pS (G.same Tl) x fun w7 k7=>⟨_,rfl,_,rfl,?_⟩⟩;have DT:=Tl.tt k7;by_cases hm:x∈ids D
  ·refine Split.no (by rw [decide_eq_true hm];rfl) ?_
   simp only;rw [eF (n:=(i:Int)) (by omega) (by omega)];refine⟨(0,(i:Int)+1),rfl,⟨i+1,rfl,eV,fun p hp=>?_,DT⟩,by simp only;omega⟩;rcases(bI hx).1 hp with hp|rfl
   ·exact cV p hp
   ·exact hm
  ·refine Split.yes (by rw [decide_eq_false hm];rfl) ?_
   refine⟨(i:Int),rfl,?_⟩;exact hK w7 _ ⟨fun _=>⟨x,List.mem_of_getElem? hx,hm⟩,fun _=>decide_eq_true (by omega)⟩ DT
 ·simp only at iG
  rw [aY,au.dw];rw [List.take_of_length_le (by omega)]at cV;exact⟨-1,rfl,hK w' _ ⟨fun h=>absurd (of_decide_eq_true h) (by omega),fun⟨p,hp,hn⟩=>absurd (cV p hp) hn⟩ kw⟩
theorem iT{w:World}{a b:Nat}{ca cb:Array Value}{ta tb:TypeId}{fa fb:Nat×Nat}(ha:w.heap[a]? =some (.cells ca ta fa))(hb:w.heap[b]? =some (.cells cb tb fb))(fG:ta≠tb):a≠b:=by
 rintro rfl;rw [ha]at hb;simp only [Option.some.injEq,Obj.cells.injEq]at hb;exact fG hb.2.1
theorem GV.upd(G:GV w S F g D C bl c mb M)(W:jY D){q:Nat}{nd:DN}{m:NM}(hq:D[q]? =some nd)(hm:M[q]? =some m){A5:Option Addr}{n5 c5:Nat}{Z1:List HT}
 (kT:Kept (fun k=>bm m.cA=some k\/k=m.b) w w') (hb:w'.heap[m.b]? =some (.cells (eN nd.id {m with cA:=A5,cn:=n5,cc:=c5}) df (0,0))) (fU:cm w' w.heap.size A5 n5 c5 Z1):
 GV w' (fun k=>S k\/bm A5=some k) F g D (fun x=>if x=nd.id then Z1 else C x) bl c mb (M.set q {m with cA:=A5,cn:=n5,cc:=c5}):=by
 have N:=G.node q nd m hq hm;have Mn:q<M.length:=(lgeS hm).1;have mP:∀k,bm m.cA=some k->∃cur,w.heap[k]? =some (.cells cur ax (0,0)):=fun k hk=>(Row.bW N.ch hk).2;have hF:∀k,F k->¬(bm m.cA=some k\/k=m.b):=fun k hk e=>by
  rcases e with e|rfl
  ·exact G.C8 k (N.LF k e) hk
  ·exact G.C8 _ N.fg hk
 have Xu:∀ {k:Nat} {cs:Array Value} {t:TypeId},w.heap[k]? =some (.cells cs t (0,0))->t≠ax->t≠df->¬(bm m.cA=some k\/k=m.b):=fun h h1 h2 e=>by
  rcases e with e|rfl
  ·obtain⟨cur,hc⟩:=mP _ e
   exact iT h hc h1 rfl
  ·exact iT h N.bW h2 rfl
 have Hz:∀k,bm A5=some k->w.heap.size<=k:=fun k hk=>(Row.bW fU hk).1;have eA:∀(i:Nat) m',(M.set q {m with cA:=A5,cn:=n5,cc:=c5})[i]? =some m'->(i=q/\m'= {m with cA:=A5,cn:=n5,cc:=c5})\/(i≠q/\M[i]? =some m'):=fun i m' h=>by
  by_cases e:i=q
  ·subst e
   rw [List.getElem?_set_self Mn]at h;exact .inl ⟨rfl,(Option.some.inj h).symm⟩
  ·rw [List.getElem?_set_ne (Ne.symm e)]at h
   exact .inr ⟨e,h⟩
 refine⟨?_,?_,?_,by simpa using G.len,?_,?_,.inl G.fX,.inl G.qS,.inl G.sO,?_,?_⟩
 ·exact kT.heap G.top (Xu G.top (by decide) (by decide))
 ·have KM:(M.set q {m with cA:=A5,cn:=n5,cc:=c5}).map (fun m=>Value.pointer (some ⟨m.b,0,none⟩))=M.map fun m=>Value.pointer (some ⟨m.b,0,none⟩):=by
   apply List.ext_getElem?;intro i;rw [List.getElem?_map,List.getElem?_map];by_cases e:i=q
   ·subst e
    rw [List.getElem?_set_self Mn,hm];rfl
   ·rw [List.getElem?_set_ne (Ne.symm e)]
  rw [KM];refine Row.aK G.row kT (fun k e=>?_);cases e;obtain⟨_,cur,hc⟩:=Row.bW G.row (k:=bl) rfl;exact Xu hc (by decide) (by decide)
 ·refine G.map.aK kT (fun e=>?_)
  obtain⟨es,clock,Hd,_⟩:=G.map.ex;rcases e with e|e
  ·obtain⟨cur,hc⟩:=mP _ e
   rw [hc]at Hd;cases Hd
  ·rw [e,N.bW]at Hd;cases Hd
 ·intro i nd' m' hi oC
  rcases eA i m' oC with⟨rfl,rfl⟩|⟨fG,Pn⟩
  ·rw [hq]at hi
   cases hi;rw [if_pos rfl];exact⟨hb,.inl N.fg,N.ps.aK kT (fun a ha=>hF _ (N.Gn a ha)),N.Gn,Row.base fU (fun _ _=>Nat.zero_le _),fun k hk=>.inr hk,N.past.aK kT (fun a ha=>hF _ (N.nB a ha)),N.nB,N.ok,N.bits,N.small⟩
  ·have N':=G.node i nd' m' hi Pn
   have hid:nd'.id≠nd.id:=fun e=>fG (W.inj hi hq e);rw [if_neg hid];have VN:m'.b≠m.b:=fun e=>by
    have h1:=N'.bW;rw [e,N.bW]at h1;simp only [Option.some.injEq,Obj.cells.injEq]at h1;exact hid (BM h1.1).symm
   refine⟨kT.heap N'.bW (fun e=>?_),.inl N'.fg,N'.ps.aK kT (fun a ha=>hF _ (N'.Gn a ha)),N'.Gn,Row.aK N'.ch kT (fun k hk e=>?_),fun k hk=>.inl (N'.LF k hk),N'.past.aK kT (fun a ha=>hF _ (N'.nB a ha)),N'.nB,N'.ok,N'.bits,N'.small⟩
   ·rcases e with e|e
    ·obtain⟨cur,hc⟩:=mP _ e
     exact iT N'.bW hc (by decide) rfl
    ·exact VN e
   ·rcases e with e|rfl
    ·exact G.apart i q m' m Pn hm fG k hk e
    ·obtain⟨cur,hc⟩:=(Row.bW N'.ch hk).2
     exact iT hc N.bW (by decide) rfl
 ·intro i j m1 m2 h1 h2 pM k Hf mN
  rcases eA i m1 h1 with⟨rfl,rfl⟩|⟨hi,qO⟩
  ·rcases eA j m2 h2 with⟨rfl,rfl⟩|⟨hj,sF⟩
   ·exact pM rfl
   ·have:=Hz k Hf
    have tD:j<D.length:=by rw [<-G.len];exact(lgeS sF).1
    obtain⟨cur,hc⟩:=(Row.bW (G.node j _ m2 (List.getElem?_eq_getElem tD) sF).ch mN).2;have:=a7 hc;omega
  ·rcases eA j m2 h2 with⟨rfl,rfl⟩|⟨hj,sF⟩
   ·have:=Hz k mN
    have eV:i<D.length:=by rw [<-G.len];exact(lgeS qO).1
    obtain⟨cur,hc⟩:=(Row.bW (G.node i _ m1 (List.getElem?_eq_getElem eV) qO).ch Hf).2;have:=a7 hc;omega
   ·exact G.apart i j m1 m2 qO sF pM k Hf mN
 ·intro k hk hf
  rcases hk with hk|hk
  ·exact G.C8 k hk hf
  ·have:=Hz k hk
   have:=G.low k (.inr hf);omega
 ·intro k hk
  rcases hk with(hk|hk)|hk
  ·exact Nat.lt_of_lt_of_le (G.low k (.inl hk)) kT.size
  ·obtain⟨cur,hc⟩:=(Row.bW fU hk).2
   exact a7 hc
  ·exact Nat.lt_of_lt_of_le (G.low k (.inr hk)) kT.size
end
theorem wI(h:HT)(m:NM)(A:Option Addr)(n c:Nat):(eN h m).setIfInBounds 33 (.slice A n c)=eN h {m with cA:=A,cn:=n,cc:=c}:=by
 have hs:=h.2.1;apply Array.ext_getElem?;intro i;unfold eN;rw [Array.getElem?_setIfInBounds,Array.getElem?_append,Array.getElem?_append];by_cases h1:i<h.1.size
 ·rw [if_neg (by omega),if_pos h1,if_pos h1]
 ·rw [if_neg h1,if_neg h1]
  by_cases h2:i=33
  ·subst h2
   rw [if_pos rfl,if_pos (by simp;omega),hs];rfl
  ·rw [if_neg (Ne.symm h2),hs]
   match i-32,show i-32≠1 by omega with
   |0,_=>rfl
   |2,_=>rfl
   |(k+3),_=>rfl
theorem wH(h:HT)(m:NM)(A:Option Addr)(n c:Nat):(eN h m).setIfInBounds 34 (.slice A n c)=eN h {m with rA:=A,rn:=n,rc:=c}:=by
 have hs:=h.2.1;apply Array.ext_getElem?;intro i;unfold eN;rw [Array.getElem?_setIfInBounds,Array.getElem?_append,Array.getElem?_append];by_cases h1:i<h.1.size
 ·rw [if_neg (by omega),if_pos h1,if_pos h1]
 ·rw [if_neg h1,if_neg h1]
  by_cases h2:i=34
  ·subst h2
   rw [if_pos rfl,if_pos (by simp;omega),hs];rfl
  ·rw [if_neg (Ne.symm h2),hs]
   match i-32,show i-32≠2 by omega with
   |0,_=>rfl
   |1,_=>rfl
   |(k+3),_=>rfl
section
variable{w w0 w':World}{S F F1 S':Nat->Prop}{g bl c mb gb ib nb:Nat}{D:DG}{C:HT->List HT}{M:List NM}{K:Value->World->Prop}
noncomputable def gP(D:DG)(h:HT)(l:List HT):HT->List HT:=fun x=>if x∈l then di (fH D x++ [h])else fH D x
structure AL(w0 w':World)(S F1 S':Nat->Prop)(g:Nat)(D:DG)(h:HT)(l:List HT)(gb ib nb:Nat)(pA:Option Addr)(pc i bl c mb:Nat)(M:List NM)(rA:Option Addr)(rn rc:Nat)(ws:List Nat):Prop where
 G:GV w' S' F1 g D (gP D h (l.take i)) bl c mb M
 sub:∀k,S k->S' k
 new:∀k,S' k->S k\/w0.heap.size<=k
 node:w'.heap[nb]? =some (.cells (eN h ⟨nb,pA,l.length,pc,none,0,0,rA,rn,rc,ws⟩) df (0,0))
 Tb:¬S' nb
 row:jv w' nb rA rn rc ws
 ok:okW ws
 small:rn<=200
 Ta:∀k,bm rA=some k->¬S' k
 bits:∀j,bit ws j=true↔∃p∈l.take i,∃nj,D[j]? =some nj/\(nj.id=p\/fE D nj.id p)
 Sf:w'.heap[gb]? =some (.cells #[.pointer (some ⟨g,0,none⟩)] eE (0,0))
 Yh:w'.heap[ib]? =some (.cells h.1 ax (0,0))
 XP:¬S' gb
 XO:¬S' ib
 hl:HS w' pA l.length l
 kp:Kept S w0 w'
theorem CE{h:HT}{l:List HT}{pA:Option Addr}{pc i:Nat}{rA:Option Addr}{rn rc:Nat}{ws:List Nat}{Q:aM}
 (L:AL w0 w' S F1 S' g D h l gb ib nb pA pc i bl c mb M rA rn rc ws) (W:jY D) (hD:D.length<=10000) (vr:SS l) (gK:∀p∈l,p∈ids D) (C1:∀k,F1 k->k<nb) (IE:∀a,pA=some a->F1 a.block) (h0:w0.heap.size<=nb) (eV:i<l.length) (hll:l.length<=10000)
 (hQ:∀S2 M rA rn rc ws v,AL w0 v S F1 S2 g D h l gb ib nb pA pc (i+1) bl c mb M rA rn rc ws->Q .normal (bp.e1 ⟨gb,0,none⟩ ⟨ib,0,none⟩ 0 ⟨nb,0,none⟩ pA l.length pc (l.length:Int) ((i:Int)+1)) v):
 bp.B1 ⟨gb,0,none⟩ ⟨ib,0,none⟩ 0 ⟨nb,0,none⟩ pA l.length pc (l.length:Int) (i:Int) Q w':=by
 obtain⟨p,hp⟩:∃p,l[i]? =some p:=⟨_,List.getElem?_eq_getElem eV⟩;have rF:=List.mem_of_getElem? hp;have UC:=gK p rF;refine Split.yes (decide_eq_true (by omega)) ?_;refine L.hl.load (i:=(i:Int)) (by omega) hp ?_;intro p5;obtain⟨ri,ju,jc⟩:=fY (w:=w') (z:=(yM 0)) (cs:=p.1) (t:=ax) (by rw [p.2.1];rfl);refine⟨⟨p.2.1,p.2.one,fun j hj=>ri j (by rw [p.2.1];exact hj)⟩,?_⟩;intro qA
 replace ju:qA.heap[w'.heap.size]? =some (.cells p.1 ax (0,0)):=ju
 replace qo:Kept Nil w' qA:=jc
 clear_value qA;refine⟨some ⟨g,0,none⟩,by rw [aA (qo.heap L.Sf (fun h=>h))];rfl,p.1,⟨p.2.1,Cells.bW ju⟩,?_⟩;refine sV (L.G.same qo) p fun w40 x Yf hx=>⟨x,rfl,?_⟩;rcases hx with⟨rfl,rG⟩|⟨q,nd,m',hq,gJ,oC,rfl⟩
 ·exact absurd UC rG
 intro De;have GM:Kept Nil w' De:=(qo.tt Yf).drew;have EL:De.heap[w'.heap.size]? =some (.cells p.1 ax (0,0)):=Yf.heap ju (fun h=>h);clear_value De;have abR:=GM.size;have Sw:=L.G.same GM;obtain⟨m,hm,ML⟩:=Sw.get hq;rw [oC]at hm;cases hm;have KL:=GM.heap L.node (fun h=>h);have wu:jv De nb rA rn rc ws:=Row.aK L.row GM (fun _ _ h=>h);refine⟨rA,rn,rc,by rw [bt,Nat.zero_add,aA KL];exact wJ _ _,?_⟩;refine⟨_,_,_,uA ML,some ⟨g,0,none⟩,by rw [aA (GM.heap L.Sf (fun h=>h))];rfl,?_⟩;refine⟨some mb,Sw.at_,p.1,⟨p.2.1,Cells.bW EL⟩,_,Sw.map.uI p,?_⟩;rw [show pos p (ids D) 0=some q by rw [<-gJ];exact W.pos_eq hq,Option.getD_some];have Mn:=(lgeS hq).1;have B7:=ML.small;have abF:=L.small;have Ug:∀k,bm rA=some k->nb<=k/\k<w'.heap.size:=fun k hk=>by
  obtain⟨h1,cur,hc⟩:=Row.bW L.row hk;exact⟨h1,a7 hc⟩
 have UQ:nb<w'.heap.size:=a7 L.node;have HZ:∀ {v:World} {A:Option Addr} {n c:Nat} {l:List Nat} {B:Nat},jv v B A n c l->∀ {k:Nat} {cs:Array Value} {t:TypeId},v.heap[k]? =some (.cells cs t (0,0))->t≠gM->¬bm A=some k:=fun hr _ _ _ hk fG e=>by
  obtain⟨_,cur,hc⟩:=Row.bW hr e;exact iT hk hc fG rfl
 refine ux wu L.ok (by omega) (by omega) ML.past ML.ok (by omega) (fun a ha k hk e=>?_) fun A2 n2 c2 l2 HW qF UK acj Le D3 V0=>⟨A2,n2,c2,rfl,?_⟩
 ·have h1:=C1 a.block (ML.nB a ha)
  have h2:=(Ug k hk).1;omega
 have YR:∀k,F1 k->¬bm rA=some k:=fun k hk e=>by have:=C1 k hk;have:=(Ug k e).1;omega
 have Xg:=Sw.aK D3 (fun k hk e=>L.Ta k e hk) YR;have Qe:=D3.heap EL (HZ wu EL (by decide));have PS:=GM.heap L.Sf (fun h=>h);have K4:=D3.heap PS (HZ wu PS (by decide));have PI:=GM.heap L.Yh (fun h=>h);have PF:=D3.heap PI (HZ wu PI (by decide));have IJ:=D3.heap KL (HZ wu KL (by decide));have abQ:=D3.size;have Pu:=Xg.map.uI p;rw [show pos p (ids D) 0=some q by rw [<-gJ];exact W.pos_eq hq,Option.getD_some]at Pu;refine⟨Pu,⟨p.1,rfl,p.2.1,Cells.bW Qe⟩,Xg.at_,by rw [aA K4];rfl,?_⟩;have ZG:∀k,bm A2=some k->bm rA=some k\/De.heap.size<=k:=V0;refine wo qF UK (by omega) (by omega) (by omega) fun A3 n3 c3 l3 oL uy UJ aci Ld BV Lh=>⟨A3,n3,c3,rfl,?_⟩;have yW:∀k,bm A2=some k->¬S' k:=fun k hk hs=>by
  rcases ZG k hk with h|h
  ·exact L.Ta k h hs
  ·have:=L.G.low k (.inl hs);omega
 have Ez:∀k,F1 k->¬bm A2=some k:=fun k hf hk=>by
  have:=C1 k hf;have:=(Row.bW qF hk).1;omega
 have G55:=Xg.aK BV (fun k hk e=>yW k e hk) Ez;have Hl:=BV.heap K4 (HZ qF K4 (by decide));have PE:=BV.heap PF (HZ qF PF (by decide));have xm:=BV.heap IJ (HZ qF IJ (by decide));have abP:=BV.size;have YC:=sg h ⟨nb,pA,l.length,pc,none,0,0,rA,rn,rc,ws⟩;refine⟨by rw [bt,Nat.zero_add];exact dz xm (by omega),?_⟩;intro Xr Dc;have GL:Kept (· =nb) oL Xr:=by
  show Kept (· =nb) oL (oL.setCell ((⟨nb,0,none⟩:Addr).add 34) (.slice A3 n3 c3))
  exact Kept.setCell (S:=fun k=>k=nb) (Kept.refl _ oL) (by rw [iu];exact fun _=>rfl) _
 have Pd:Xr.heap[nb]? =some (.cells (eN h ⟨nb,pA,l.length,pc,none,0,0,A3,n3,c3,l3⟩) df (0,0)):=by
  show(oL.setCell ((⟨nb,0,none⟩:Addr).add 34) (.slice A3 n3 c3)).heap[nb]? =_;rw [bt,Nat.zero_add,cR xm 34,wH];rfl
 have D0:Kept (· =nb) oL Dc:=GL.drew;have Pc:Dc.heap[nb]? =some (.cells (eN h ⟨nb,pA,l.length,pc,none,0,0,A3,n3,c3,l3⟩) df (0,0)):=Pd;clear_value Dc;clear Pd GL;have abO:=D0.size;have Xf:=G55.aK D0 (fun k hk e=>L.Tb (e▸hk)) (fun k hk e=>by have:=C1 k hk;omega);have PR:=D0.heap Hl (iT Hl xm (by decide));have KY:=D0.heap PE (iT PE xm (by decide));have Nb:jv Dc nb A3 n3 c3 l3:=Row.aK uy D0 (fun k hk e=>by
  subst e;exact HZ uy xm (by decide) hk)
 obtain⟨m,hm,W3⟩:=Xf.get hq;rw [oC]at hm;cases hm;refine⟨m'.cA,m'.cn,m'.cc,Ae W3,h.1,⟨h.2.1,Cells.bW KY⟩,h.2.1,?_⟩;intro Ro;have Tw:Kept Nil Dc Ro:=(Kept.refl _ _).alloc _;have Lc:HS Ro (some ⟨Dc.heap.size,0,none⟩) 1 [h]:=lj Dc h;clear_value Ro;have G62:=Xf.same Tw;obtain⟨m,hm,MK⟩:=G62.get hq;rw [oC]at hm;cases hm;refine⟨Ae MK,?_⟩;have Qc:=MK.ch.len;have AB:gP D h (l.take i) nd.id=fH D p:=by
  unfold gP;rw [gJ,if_neg];intro jW;obtain⟨j,hj⟩:=List.mem_iff_getElem?.1 jW;rw [List.getElem?_take]at hj;split at hj
  ·have:=vr.get (by omega) hj hp
   rw [gZ]at this;cases this
  ·cases hj
 have vy:=pv D fun a=>mY D p a;have R3:m'.cn<=10000:=by
  rw [<-Qc,AB];unfold fH;omega
 obtain⟨A7,c7,CO,Ul,Na,Vm,VY⟩:=gu (cx:=1) aV MK.ch Lc (by omega) (Nat.zero_le _);have BU:Kept (fun k=>bm m'.cA=some k) Ro CO:=Kept.grown (Kept.refl _ _) Vm (fun k hk _=>hk);refine⟨A7,_,c7,CO,Ul,?_⟩;have abN:=Tw.size;have OD:=BU.size;refine fV Na.hs (by omega) fun A5 c5 Jp DB Tv=>⟨A5,_,c5,rfl,?_⟩;have abM:=Tv.size;have Pk:=BU.heap MK.bW (fun e=>by
  obtain⟨_,cur,hc⟩:=Row.bW MK.ch e;exact iT MK.bW hc (by decide) rfl)
 have EB:=Tv.heap Pk (fun h=>h);refine⟨by rw [bt,Nat.zero_add];exact dz EB (by rw [sg];omega),?_⟩;intro zQ;have NL:Kept (· =m'.b) Jp zQ:=by
  show Kept (· =m'.b) Jp (Jp.setCell ((⟨m'.b,0,none⟩:Addr).add 33) (.slice A5 (di (gP D h (l.take i) nd.id++ [h])).length c5))
  exact Kept.setCell (S:=fun k=>k=m'.b) (Kept.refl _ Jp) (by rw [iu];exact fun _=>rfl) _
 have Pj:zQ.heap[m'.b]? =some (.cells (eN nd.id {m' with cA:=A5,cn:=(di (gP D h (l.take i) nd.id++ [h])).length,cc:=c5}) df (0,0)):=by
  show(Jp.setCell ((⟨m'.b,0,none⟩:Addr).add 33) (.slice A5 (di (gP D h (l.take i) nd.id++ [h])).length c5)).heap[m'.b]? =_;rw [bt,Nat.zero_add,cR EB 33,wI]
 clear_value zQ;have kT:Kept (fun k=>bm m'.cA=some k\/k=m'.b) Dc zQ:=
  (((Tw.mono (S':=fun k=>bm m'.cA=some k\/k=m'.b) (fun _ _ h=>h.elim)).trans BU (fun _ _ h=>.inl h)).trans Tv (fun _ _ h=>h.elim)).trans NL (fun _ _ h=>.inr h)
 have Ep:cm zQ Dc.heap.size A5 (di (gP D h (l.take i) nd.id++ [h])).length c5 (di (gP D h (l.take i) nd.id++ [h])):=
  Row.base (Row.aK DB NL (fun k hk e=>by
   subst e;obtain⟨_,cur,hc⟩:=Row.bW DB hk;exact iT EB hc (by decide) rfl)) (fun k hk=>by have:=(Row.bW DB hk).1;omega)
 have Z6:=Xf.upd W hq oC kT Pj Ep;have Hz:∀k,bm A5=some k->Dc.heap.size<=k:=fun k hk=>(Row.bW Ep hk).1;have MB:∀k,(bm m'.cA=some k\/k=m'.b)->S' k:=fun k e=>by
  rcases e with e|rfl
  ·exact W3.LF k e
  ·exact W3.fg
 have hkf:(fun x=>if x=nd.id then di (gP D h (l.take i) nd.id++ [h])else gP D h (l.take i) x)=gP D h (l.take (i+1)):=by
  funext x
  by_cases hx:x=nd.id
  ·rw [if_pos hx,AB,hx,gJ]
   unfold gP;rw [if_pos ((bI hp).2 (.inr rfl))]
  ·rw [if_neg hx]
   unfold gP;have:x∈l.take (i+1)↔x∈l.take i:=by
    rw [bI hp];exact⟨fun e=>e.resolve_right (fun e=>hx (by rw [gJ];exact e)),.inl⟩
   by_cases hm:x∈l.take i
   ·rw [if_pos hm,if_pos (this.2 hm)]
   ·rw [if_neg hm,if_neg (fun e=>hm (this.1 e))]
 rw [hkf]at Z6;rw [eF (n:=(i:Int)) (by omega) (by omega)];have YQ:nb<Dc.heap.size:=a7 Pc;have mo:Kept S w0 zQ:=by
  have k1:=L.kp.trans GM (fun _ _ h=>h.elim);have k2:=k1.trans D3 (fun k hk e=>absurd (Ug k e).1 (by omega));have k3:=k2.trans BV (fun k hk e=>absurd (Row.bW qF e).1 (by omega));have k4:=k3.trans D0 (fun k hk e=>by omega);exact k4.trans kT (fun k hk e=>by
   rcases L.new k (MB k e)with h|h
   ·exact h
   ·omega)
 refine hQ _ _ A3 n3 c3 l3 zQ ⟨Z6,fun k hk=>.inl (L.sub k hk),fun k hk=>?_,kT.heap Pc (fun e=>L.Tb (MB _ e)),fun e=>?_,Row.aK Nb kT (fun k hk e=>?_),UJ,by omega,fun k hk e=>?_,fun j=>?_,
  kT.heap PR (fun e=>L.XP (MB _ e)),kT.heap KY (fun e=>L.XO (MB _ e)),fun e=>?_,fun e=>?_,?_,mo⟩
 ·rcases hk with hk|hk
  ·exact L.new k hk
  ·have:=Hz k hk
   have:=L.kp.size;exact .inr (by omega)
 ·rcases e with e|e
  ·exact L.Tb e
  ·have:=Hz _ e;omega
 ·have hs:=MB k e
  rcases Lh k hk with h|h
  ·exact yW k h hs
  ·have:=L.G.low k (.inl hs);omega
 ·have hk3:k<oL.heap.size:=by
   obtain⟨_,cur,hc⟩:=Row.bW uy hk;exact a7 hc
  rcases e with e|e
  ·rcases Lh k hk with h|h
   ·exact yW k h e
   ·have:=L.G.low k (.inl e);omega
  ·have:=Hz _ e;omega
 ·rw [Ld,Bool.or_eq_true,Le,Bool.or_eq_true,L.bits,ML.bits,decide_eq_true_iff]
  constructor
  ·rintro((⟨p',h1,h2⟩|⟨nj,h1,h2⟩)|rfl)
   ·exact⟨p',(bI hp).2 (.inl h1),h2⟩
   ·exact⟨p,(bI hp).2 (.inr rfl),nj,h1,.inr (gJ▸h2)⟩
   ·exact⟨p,(bI hp).2 (.inr rfl),nd,hq,.inl gJ⟩
  ·rintro⟨p',h1,nj,h2,h3⟩
   rcases(bI hp).1 h1 with h1|rfl
   ·exact .inl (.inl ⟨p',h1,nj,h2,h3⟩)
   ·rcases h3 with h3|h3
    ·exact .inr (W.inj h2 hq (h3.trans gJ.symm))
    ·exact .inl (.inr ⟨nj,h2,gJ▸h3⟩)
 ·rcases e with e|e
  ·exact L.XP e
  ·have:=Hz _ e;have:=a7 PR;omega
 ·rcases e with e|e
  ·exact L.XO e
  ·have:=Hz _ e;have:=a7 KY;omega
 ·have hb:∀a,pA=some a->F1 a.block/\a.block<nb:=fun a ha=>⟨IE a ha,C1 _ (IE a ha)⟩
  have k1:=L.hl.same GM;have k2:=k1.aK D3 (fun a ha=>YR _ (hb a ha).1);have k3:=k2.aK BV (fun a ha=>Ez _ (hb a ha).1);have k4:=k3.aK D0 (fun a ha e=>by have:=(hb a ha).2;omega);exact k4.aK kT (fun a ha e=>L.G.C8 _ (MB _ e) (hb a ha).1)
end
theorem M6:AT prog jZ dP 1 8:=⟨by kernel_rfl,by kernel_rfl⟩
theorem Fh:Q5 prog df=some ([(0,32),(32,1),(33,1),(34,1)],List.replicate 32 (.int .u8 0)++ [.slice none 0 0,.slice none 0 0,.slice none 0 0]):=by kernel_rfl
theorem Fe(h:HT)(b:Nat)(A:Option Addr)(n c:Nat):prog.built df [(0,.agg h.1),(1,.slice A n c)]=some (eN h ⟨b,A,n,c,none,0,0,none,0,0,[]⟩):=by
 have hs:=h.2.1;rw [pU Fh,jA (off:=0) (size:=32) rfl (by simpa [Value.cells]using hs) (by simp),jA (off:=32) (size:=1) rfl rfl (by
  rw [List.size_toArray,lZ (by simp [Value.cells,hs])];simp)]
 simp only [Instr.fill,Option.some.injEq];apply Array.ext';unfold gg eN;simp [Value.cells,hs];rw [List.drop_append];simp [hs]
theorem Cy(h:HT)(b:Nat):prog.built df [(0,.agg h.1)]=some (eN h ⟨b,none,0,0,none,0,0,none,0,0,[]⟩):=by
 have hs:=h.2.1;rw [pU Fh,jA (off:=0) (size:=32) rfl (by simpa [Value.cells]using hs) (by simp)];simp only [Instr.fill,Option.some.injEq];apply Array.ext';unfold gg eN;simp [Value.cells,hs]
section
variable{D:DG}{h:HT}{l:List HT}
theorem zz(W:jY D)(hn:h∉ids D){x:HT}:gP D h l x=fH (D++ [⟨h,l⟩]) x:=by
 have jW:∀a,a∈fH (D++ [⟨h,l⟩]) x↔(a∈fH D x\/(a=h/\x∈l)):=fun a=>by
  unfold fH;rw [jK,jK,lL,jL,List.mem_append,List.mem_singleton];constructor
  ·rintro⟨h1,h2|⟨h2,h3⟩⟩
   ·exact .inl ⟨(fE.mem W (.one h2)).2,h2⟩
   ·exact .inr ⟨h2.symm,h3⟩
  ·rintro(⟨h1,h2⟩|⟨rfl,h2⟩)
   ·exact⟨.inl h1,.inl h2⟩
   ·exact⟨.inr rfl,.inr ⟨rfl,h2⟩⟩
 unfold gP;by_cases tV:x∈l
 ·rw [if_pos tV]
  refine(yi (l:=fH (D++ [⟨h,l⟩]) x) (iI _) fun a=>?_).symm;rw [jW,List.mem_append,List.mem_singleton];exact⟨fun e=>e.imp (fun e=>e) (fun e=>e.1),fun e=>e.imp (fun e=>e) (fun e=>⟨e,tV⟩)⟩
 ·rw [if_neg tV]
  refine vM (iI _) (iI _) fun a=>?_;have:=jW a;unfold fH pick at this⊢;rw [this];exact⟨.inl,fun e=>e.resolve_right (fun e=>tV e.2)⟩
theorem Cx(W:jY D)(hn:h∉ids D)(gK:∀p∈l,p∈ids D):fH (D++ [⟨h,l⟩]) h= []:=by
 cases hc:fH (D++ [⟨h,l⟩]) h with
 |nil=>rfl
 |cons b t=>
  exfalso;have:b∈fH (D++ [⟨h,l⟩]) h:=by rw [hc];simp
  rcases lL.1 (jK.1 this).2 with h1|⟨_,h2⟩
  ·exact hn (fE.mem W (.one h1)).1
  ·exact hn (gK h h2)
theorem Fi(W:jY D)(hn:h∉ids D){x:HT}(hx:x∈ids D)(j:Nat):(∃nj,(D++ [⟨h,l⟩])[j]? =some nj/\fE (D++ [⟨h,l⟩]) nj.id x)↔∃nj,D[j]? =some nj/\fE D nj.id x:=by
 constructor
 ·rintro⟨nj,h1,h2⟩
  have sF:=(ir W (nd:=⟨h,l⟩) hn hx).1 h2;rw [List.getElem?_append]at h1;split at h1
  ·exact⟨nj,h1,sF⟩
  ·exfalso
   have:nj=⟨h,l⟩:=by
    cases hk:j-D.length with
    |zero=>rw [hk]at h1;simpa using h1.symm
    |succ k=>rw [hk]at h1;simp at h1
   subst this;exact hn (sF.mem W).1
 ·rintro⟨nj,h1,h2⟩
  exact⟨nj,by rw [List.getElem?_append_left (lgeS h1).1];exact h1,(ir W (nd:=⟨h,l⟩) hn hx).2 h2⟩
theorem Fj(W:jY D)(hn:h∉ids D)(gK:∀p∈l,p∈ids D)(hs:SS l)(j:Nat):
 (∃nj,(D++ [⟨h,l⟩])[j]? =some nj/\fE (D++ [⟨h,l⟩]) nj.id h)↔∃p∈l,∃nj,D[j]? =some nj/\(nj.id=p\/fE D nj.id p):=by
 have W':jY (D++ [⟨h,l⟩]):=W.snoc (nd:=⟨h,l⟩) hn gK hs;have eA:(D++ [⟨h,l⟩])[D.length]? =some ⟨h,l⟩:=by rw [List.getElem?_append_right (Nat.le_refl _),Nat.sub_self];rfl
 have key:∀a,fE (D++ [⟨h,l⟩]) a h↔∃p∈l,a=p\/fE D a p:=fun a=>by
  rw [AQ W' eA a];constructor
  ·rintro⟨p,hp,e⟩
   exact⟨p,hp,e.imp (fun e=>e) (fun e=>(ir W (nd:=⟨h,l⟩) hn (gK p hp)).1 e)⟩
  ·rintro⟨p,hp,e⟩
   exact⟨p,hp,e.imp (fun e=>e) (fun e=>(ir W (nd:=⟨h,l⟩) hn (gK p hp)).2 e)⟩
 constructor
 ·rintro⟨nj,h1,h2⟩
  obtain⟨p,hp,e⟩:=(key _).1 h2;have hid:nj.id∈ids D:=by
   rcases e with e|e
   ·rw [e];exact gK p hp
   ·exact(e.mem W).1
  rw [List.getElem?_append]at h1;split at h1
  ·exact⟨p,hp,nj,h1,e⟩
  ·exfalso
   have:nj=⟨h,l⟩:=by
    cases hk:j-D.length with
    |zero=>rw [hk]at h1;simpa using h1.symm
    |succ k=>rw [hk]at h1;simp at h1
   subst this;exact hn hid
 ·rintro⟨p,hp,nj,h1,e⟩
  exact⟨nj,by rw [List.getElem?_append_left (lgeS h1).1];exact h1,(key _).2 ⟨p,hp,e⟩⟩
end
section
variable{w w':World}{S F F':Nat->Prop}{g bl c mb:Nat}{D:DG}{C:HT->List HT}{M:List NM}{K:Value->World->Prop}
theorem GV.Np(G:GV w S F g D C bl c mb M)(hf:∀k,F k->F' k)(hd:∀k,S k->¬F' k)(hl:∀k,F' k->k<w.heap.size):GV w S F' g D C bl c mb M:=
 ⟨G.top,G.row,G.map,G.len,fun i nd m h1 h2=>by
   have N:=G.node i nd m h1 h2;exact⟨N.bW,N.fg,N.ps,fun a ha=>hf _ (N.Gn a ha),N.ch,N.LF,N.past,fun a ha=>hf _ (N.nB a ha),N.ok,N.bits,N.small⟩,G.apart,G.fX,G.qS,G.sO,hd,fun k hk=>hk.elim (fun h=>G.low k (.inl h)) (hl k)⟩
theorem HU{w0:World}{F1 S':Nat->Prop}{h:HT}{l:List HT}{gb ib nb:Nat}{pA:Option Addr}{pc i:Nat}{rA:Option Addr}{rn rc:Nat}{ws:List Nat}
 (L:AL w0 w S F1 S' g D h l gb ib nb pA pc i bl c mb M rA rn rc ws) (W:jY D) (hD:D.length<=5000) (vr:SS l) (gK:∀p∈l,p∈ids D) (hn:h∉ids D) (C1:∀k,F1 k->k<nb) (IE:∀a,pA=some a->F1 a.block) (h0:w0.heap.size<=nb) (eV:l.length<=i)
 (hK:∀v S2 F2,AX v S2 F2 g (D++ [⟨h,l⟩])->Kept S w0 v->(∀k,S2 k->S k\/w0.heap.size<=k)->(∀k,F2 k->F1 k\/w0.heap.size<=k)->K (.int .i64 0) v):
 bp.CI ⟨gb,0,none⟩ ⟨ib,0,none⟩ 0 ⟨nb,0,none⟩ pA l.length pc (l.length:Int) (i:Int) K w:=by
 have FK:l.take i=l:=List.take_of_length_le eV;have hG:=L.G;rw [FK]at hG;have IZ:=L.bits;rw [FK]at IZ;unfold bp.CI;intro LY;have Ie:Kept Nil w LY:=(Kept.refl _ _).drew;clear_value LY;have rK:=hG.same Ie;have Hk:=Ie.heap L.Sf (fun h=>h);have EA:=Ie.heap L.node (fun h=>h);have zZ:jv LY nb rA rn rc ws:=Row.aK L.row Ie (fun _ _ h=>h);refine⟨some ⟨g,0,none⟩,by rw [aA Hk];rfl,some mb,rK.at_,h.1,⟨h.2.1,Cells.bW (Ie.heap L.Yh (fun h=>h))⟩,some ⟨g,0,none⟩,by rw [aA Hk];rfl,?_⟩;refine⟨_,_,_,rK.nodes,?_⟩;obtain⟨Xp,OJ,Nt,k85⟩:=rK.map.put hn;rw [jF]at OJ;refine⟨Xp,OJ,?_⟩;intro Gb;have JP:Kept (· =mb) LY Gb:=k85.drew;have Ia:IsMap Gb mb (ids D++ [h]):=Nt.aK ((Kept.refl Nil Xp).drew) (fun h=>h);clear_value Gb;have Gg:∀ {v:World} {k:Nat} {cs:Array Value} {t:TypeId},IsMap v mb (ids D)->v.heap[k]? =some (.cells cs t (0,0))->k≠mb:=fun hm hk e=>by
  obtain⟨es,clock,Hd,_⟩:=hm.ex;rw [e,Hd]at hk;cases hk
 have K2:=JP.heap Hk (Gg rK.map Hk);have ach:=JP.heap EA (Gg rK.map EA);have El:=JP.heap rK.top (Gg rK.map rK.top);have M9:Row Gb 0 dP 1 (some ⟨bl,0,none⟩) D.length c (M.map fun m=>.pointer (some ⟨m.b,0,none⟩)):=Row.aK rK.row JP (fun k hk e=>by
  obtain⟨_,cur,hc⟩:=Row.bW rK.row hk;exact Gg rK.map hc e)
 have S7:jv Gb nb rA rn rc ws:=Row.aK zZ JP (fun k hk e=>by
  obtain⟨_,cur,hc⟩:=Row.bW zZ hk;exact Gg rK.map hc e)
 refine⟨some ⟨g,0,none⟩,by rw [aA K2];rfl,some ⟨g,0,none⟩,by rw [aA K2];rfl,?_⟩;refine⟨some ⟨bl,0,none⟩,D.length,c,by rw [add_zero,aA El];rfl,?_⟩;intro Jn;have Mb:Kept Nil Gb Jn:=(Kept.refl _ _).alloc _;have VX:Jn.heap[Gb.heap.size]? =some (.cells #[.pointer (some ⟨nb,0,none⟩)] dP (0,0)):=aR Gb _;clear_value Jn;have Hj:=Mb.heap K2 (fun h=>h);have yN:=Mb.heap El (fun h=>h);refine⟨by rw [add_zero,aA yN];rfl,by rw [aA Hj];rfl,by rw [aA Hj];rfl,?_⟩;have Dz:Row Jn 0 dP 1 (some ⟨bl,0,none⟩) D.length c (M.map fun m=>.pointer (some ⟨m.b,0,none⟩)):=Row.aK M9 Mb (fun _ _ h=>h);obtain⟨Sy,MH,Jm,Uj,Dy,PM,VW⟩:=im (P:=prog) (t:=jZ) (ty:=jZ) (bytes:=8) M6 Dz (a:=⟨Gb.heap.size,0,none⟩) (m:=1) (cx:=1) (news:= [.pointer (some ⟨nb,0,none⟩)]) rfl
  (fun j u hj=>by rw [bt,Nat.zero_add,aA VX];simpa using hj) (fun u hu=>by simp at hu;subst hu;rfl) (by omega) (by unfold maxLen;omega) (Nat.zero_le _)
 have Ry:Kept (· =bl) Jn Jm:=Kept.grown (S:=fun k=>k=bl) (Kept.refl _ _) PM (fun k hk _=>by cases hk;rfl);refine⟨Sy,_,MH,Jm,Uj,?_⟩;have Xw:∀ {k:Nat} {cs:Array Value} {t:TypeId},Jn.heap[k]? =some (.cells cs t (0,0))->t≠dP->k≠bl:=fun hk fG=>by
  obtain⟨_,cur,hc⟩:=Row.bW Dz (k:=bl) rfl;exact iT hk hc fG
 have Vl:=Ry.heap Hj (Xw Hj (by decide));have vp:=Ry.heap yN (Xw yN (by decide));refine⟨by rw [aA Vl];rfl,by rw [add_zero];exact dz vp (by simp),?_⟩;intro Fx;have Tt:Kept (· =g) Jm Fx:=by
  show Kept (· =g) Jm (Jm.setCell ((⟨g,0,none⟩:Addr).add 0) (.slice Sy (D.length+1) MH))
  exact Kept.setCell (S:=fun k=>k=g) (Kept.refl _ Jm) (by rw [iu];exact fun _=>rfl) _
 have Kr:Fx.heap[g]? =some (.cells #[.slice Sy (D.length+1) MH,.map (some mb)] fO (0,0)):=by
  show(Jm.setCell ((⟨g,0,none⟩:Addr).add 0) (.slice Sy (D.length+1) MH)).heap[g]? =_;rw [add_zero,cR vp 0];rfl
 clear_value Fx;obtain⟨MJ,rfl⟩:=Row.some Dy (by omega);have abK:=JP.size;have abJ:=Mb.size;have mo:Kept (fun k=>k=g\/k=bl\/k=mb) LY Fx:=
  (((JP.mono (S':=fun k=>k=g\/k=bl\/k=mb) (fun _ _ h=>.inr (.inr h))).trans Mb (fun _ _ h=>h.elim)).trans Ry (fun _ _ h=>.inr (.inl h))).trans Tt (fun _ _ h=>.inl h)
 have Zz:∀k,F1 k->¬(k=g\/k=bl\/k=mb):=fun k hk e=>by
  rcases e with rfl|rfl|rfl
  ·exact rK.C8 _ rK.fX hk
  ·exact rK.C8 _ rK.qS hk
  ·exact rK.C8 _ rK.sO hk
 have ty:∀ {k:Nat} {cs:Array Value} {t:TypeId},LY.heap[k]? =some (.cells cs t (0,0))->t≠fO->t≠dP->¬(k=g\/k=bl\/k=mb):=fun hk h1 h2 e=>by
  rcases e with e|e|e
  ·rw [e]at hk
   exact iT hk rK.top h1 rfl
  ·rw [e]at hk
   obtain⟨_,cur,hc⟩:=Row.bW rK.row (k:=bl) rfl;exact iT hk hc h2 rfl
  ·exact Gg rK.map hk e
 have yQ:Row Fx 0 dP 1 (some ⟨MJ,0,none⟩) (D.length+1) MH ((M.map fun m=>.pointer (some ⟨m.b,0,none⟩))++ [.pointer (some ⟨nb,0,none⟩)]):=Row.aK Dy Tt (fun k hk e=>by
  obtain⟨_,cur,hc⟩:=Row.bW Dy hk;exact iT hc vp (by decide) e)
 have Ns:IsMap Fx mb (ids D++ [h]):=by
  obtain⟨es,clock,Hd,_⟩:=Ia.ex;have h1:=Ia.aK Mb (fun h=>h);have h2:=h1.aK Ry (fun e=>by
   obtain⟨_,cur,hc⟩:=Row.bW Dz (k:=bl) rfl;obtain⟨_,_,oC,_⟩:=h1.ex;rw [e,hc]at oC;cases oC)
  exact h2.aK Tt (fun e=>by
   obtain⟨_,_,oC,_⟩:=h2.ex;rw [e,vp]at oC;cases oC)
 have KK:=mo.heap EA (ty EA (by decide) (by decide));have vd:jv Fx nb rA rn rc ws:=Row.aK zZ mo (fun k hk e=>by
  obtain⟨_,cur,hc⟩:=Row.bW zZ hk;exact ty hc (by decide) (by decide) e)
 have EC:(D++ [(⟨h,l⟩:DN)]).length=D.length+1:=by simp
 have Qr:MJ=bl\/Jn.heap.size<=MJ:=by
  rcases VW MJ rfl with e|e
  ·exact .inl (by cases e;rfl)
  ·exact .inr e
 have nK:=L.kp.size;have abL:=Ie.size;have UQ:=a7 EA;have OI:∀k,bm rA=some k->nb<=k/\k<Fx.heap.size:=fun k hk=>by
  obtain⟨h1,cur,hc⟩:=Row.bW vd hk;exact⟨h1,a7 hc⟩
 have eA:∀ {X:Type} (xs:List X) (y:X) (j:Nat) (z:X),(xs++ [y])[j]? =some z->(j<xs.length/\xs[j]? =some z)\/(j=xs.length/\z=y):=fun xs y j z e=>by
  rw [List.getElem?_append]at e;split at e
  ·rename_i cI;exact .inl ⟨cI,e⟩
  ·rename_i iG
   cases hk:j-xs.length with
   |zero=>rw [hk]at e;exact .inr ⟨by omega,by simpa using e.symm⟩
   |succ k=>rw [hk]at e;simp at e
 refine hK Fx (fun k=>S' k\/k=nb\/k=MJ) (fun k=>F1 k\/bm rA=some k) ⟨MJ,MH,mb,M++ [⟨nb,pA,l.length,pc,none,0,0,rA,rn,rc,ws⟩],?_⟩ ?_ ?_ ?_
 ·refine⟨by rw [EC];exact Kr,?_,by rw [jL];exact Ns,by simp [hG.len],fun j nd m h1 h2=>?_,fun j j' m m' h1 h2 fG k hk mX=>?_,.inl hG.fX,.inr (.inr rfl),.inl hG.sO,fun k hk hf=>?_,fun k hk=>?_⟩
  ·rw [EC,List.map_append]
   exact yQ
  ·rcases eA _ _ _ _ h1 with⟨hj,qO⟩|⟨hj,rfl⟩
   ·rcases eA _ _ _ _ h2 with⟨_,sF⟩|⟨uP,_⟩
    ·have N:=rK.node j nd m qO sF
     have hid:nd.id∈ids D:=dB.2 ⟨nd,List.mem_of_getElem? qO,rfl⟩;have hF:∀k,F1 k->¬(k=g\/k=bl\/k=mb):=Zz;rw [<-zz W hn];refine⟨mo.heap N.bW (ty N.bW (by decide) (by decide)),.inl N.fg,N.ps.aK mo (fun a ha=>hF _ (N.Gn a ha)),fun a ha=>.inl (N.Gn a ha),Row.aK N.ch mo (fun k hk e=>?_),fun k hk=>.inl (N.LF k hk),N.past.aK mo (fun a ha=>hF _ (N.nB a ha)),fun a ha=>.inl (N.nB a ha),N.ok,fun j=>?_,N.small⟩
     ·obtain⟨cur,hc⟩:=(Row.bW N.ch hk).2
      exact ty hc (by decide) (by decide) e
     ·rw [N.bits,Fi W hn hid]
    ·rw [hG.len]at uP;omega
   ·rcases eA _ _ _ _ h2 with⟨uP,_⟩|⟨_,rfl⟩
    ·rw [hG.len]at uP;omega
    ·rw [Cx W hn gK]
     refine⟨KK,.inr (.inl rfl),(L.hl.same Ie).aK mo (fun a ha=>Zz _ (IE a ha)),fun a ha=>.inl (IE a ha),cm.nil _ _,(fun k hk=>by cases hk),vd.us,fun a ha=>.inr (congrArg bm ha),L.ok,fun j=>?_,L.small⟩;rw [IZ,Fj W hn gK vr]
  ·rcases eA _ _ _ _ h1 with⟨_,qO⟩|⟨_,rfl⟩
   ·rcases eA _ _ _ _ h2 with⟨_,sF⟩|⟨_,rfl⟩
    ·exact hG.apart j j' m m' qO sF fG k hk mX
    ·cases mX
   ·cases hk
  ·rcases hk with hk|rfl|rfl
   ·rcases hf with hf|hf
    ·exact hG.C8 k hk hf
    ·exact L.Ta k hf hk
   ·rcases hf with hf|hf
    ·have:=C1 k hf;omega
    ·obtain⟨_,cur,hc⟩:=Row.bW vd hf
     exact iT KK hc (by decide) rfl
   ·rcases hf with hf|hf
    ·rcases Qr with e|e
     ·rw [e]at hf;exact hG.C8 _ hG.qS hf
     ·have:=C1 _ hf;omega
    ·obtain⟨_,cur,hc⟩:=Row.bW vd hf
     obtain⟨_,Q0,sD⟩:=Row.bW yQ (k:=k) rfl;exact iT sD hc (by decide) rfl
  ·have abI:=mo.size
   rcases hk with(hk|rfl|rfl)|hk|hk
   ·have:=rK.low k (.inl hk);omega
   ·exact a7 KK
   ·obtain⟨_,Q0,sD⟩:=Row.bW yQ (k:=k) rfl
    exact a7 sD
   ·have:=rK.low k (.inr hk);omega
   ·exact(OI k hk).2
 ·exact(L.kp.trans Ie (fun _ _ h=>h.elim)).trans mo (fun k hk e=>by
   have hs:S' k:=by
    rcases e with rfl|rfl|rfl
    ·exact hG.fX
    ·exact hG.qS
    ·exact hG.sO
   rcases L.new k hs with h|h
   ·exact h
   ·omega)
 ·intro k hk
  rcases hk with hk|rfl|rfl
  ·exact L.new k hk
  ·exact .inr h0
  ·rcases Qr with e|e
   ·rw [e];exact L.new _ hG.qS
   ·exact .inr (by omega)
 ·intro k hk
  rcases hk with hk|hk
  ·exact .inl hk
  ·exact .inr (by have:=(OI k hk).1;omega)
theorem HK(G:GV w S F g D (fH D) bl c mb M)(W:jY D)(hD:D.length<=5000){A:Option Addr}{n cx:Nat}{lp:List HT}(hl:HS w A n lp)(hn:n<=10000)(h:HT)
 (hK:∀v S2 F2,AX v S2 F2 g (mB D h lp)->Kept S w v->(∀k,S2 k->S k\/w.heap.size<=k)->(∀k,F2 k->F k\/w.heap.size<=k)->K (.int .i64 (eB D h lp)) v):
 bf prog bp.id #[.pointer (some ⟨g,0,none⟩),.agg h.1,.slice A n cx] w K:=by
 have hlen:=hl.len;have rG:∀v,Kept Nil w v->∀e,eB D h lp=e->e≠0->K (.int .i64 e) v:=fun v k e he fG=>by
  have:=hK v S F ?_ (k.mono fun _ _ h=>h.elim) (fun _ h=>.inl h) (fun _ h=>.inl h)
  ·rw [he]at this;exact this
  ·unfold mB
   rw [if_neg (by rw [he];exact fG)];exact⟨bl,c,mb,M,G.same k⟩
 refine bp.of ?_;unfold bp.W;intro w4 w5;have k4:Kept Nil w w4:=(Kept.refl _ _).alloc _;have Zg:w4.heap[w.heap.size]? =some (.cells #[.pointer (some ⟨g,0,none⟩)] eE (0,0)):=aR w _;have k5:Kept Nil w4 w5:=(Kept.refl _ _).alloc _;have PH:w5.heap[w4.heap.size]? =some (.cells h.1 ax (0,0)):=aR w4 _;have Hm:=k5.heap Zg (fun h=>h);clear_value w5;have Tk:Kept Nil w w5:=k4.tt k5;have PO:w.heap.size<w4.heap.size:=a7 Zg;have acI:w4.heap.size<w5.heap.size:=a7 PH;clear_value w4;refine fV (hl.same Tk) (by omega) fun C9 Q4 w7 yp k7=>⟨C9,_,Q4,rfl,?_⟩;have DT:Kept Nil w w7:=Tk.tt k7;have K3:=k7.heap Hm (fun h=>h);have Zb:=k7.heap PH (fun h=>h);have G7:=G.same DT;have FL:(di lp).length<=n:=by have:=nW lp;omega
 refine⟨some ⟨g,0,none⟩,by rw [aA K3];rfl,uW G7 ⟨true,rfl,Split.no rfl ?_⟩⟩;refine⟨some ⟨g,0,none⟩,by rw [aA K3];rfl,h.1,⟨h.2.1,Cells.bW Zb⟩,pS G7 h fun ln tP=>⟨_,rfl,?_⟩⟩;have DV:=DT.tt tP;by_cases hm:h∈ids D
 ·refine Split.yes (decide_eq_true hm) (rG ln DV 7 ?_ (by omega))
  unfold eB;rw [if_pos hm]
 refine Split.no (decide_eq_false hm) ?_;by_cases h0:(di lp).length=0
 ·refine Split.yes (by simp [h0]) (rG ln DV 9 ?_ (by omega))
  unfold eB;rw [if_neg hm,if_pos (.inl h0)]
 refine Split.no (beq_eq_false_iff_ne.2 (by omega)) ?_;by_cases h1:(di lp).length≠n
 ·refine Split.yes (bne_iff_ne.2 (by omega)) (rG ln DV 9 ?_ (by omega))
  unfold eB;rw [if_neg hm,if_pos (.inr (by omega))]
 replace h1:(di lp).length=n:=by omega
 refine Split.no (by rw [h1];simp) ?_;have PT:=tP.heap K3 (fun h=>h);have H5:=Row.aK yp tP (fun _ _ h=>h);refine xG (G.same DV) PT (cm.hs H5) (by omega) fun p6 x hx Ap=>⟨x,rfl,?_⟩;have DU:=DV.tt Ap;cases x with
 |true=>
  refine Split.yes rfl (rG p6 DU 6 ?_ (by omega));unfold eB;rw [if_neg hm,if_neg (by omega),if_pos (hx.1 rfl)]
 |false=>
  have gK:∀p∈di lp,p∈ids D:=fun p hp=>Classical.byContradiction fun UN=>by have:=hx.2 ⟨p,hp,UN⟩;cases this
  have Zr:eB D h lp=0:=by
   unfold eB;rw [if_neg hm,if_neg (by omega),if_neg (fun⟨p,hp,RP⟩=>RP (gK p hp))]
  have hD':mB D h lp=D++ [⟨h,di lp⟩]:=by unfold mB;rw [if_pos Zr]
  rw [Zr,hD']at hK;refine Split.no rfl ?_;have PJ:=Ap.heap (tP.heap Zb (fun h=>h)) (fun h=>h);have Vp:=Ap.heap PT (fun h=>h);have uz:cm p6 w5.heap.size C9 (di lp).length Q4 (di lp):=Row.aK H5 Ap (fun _ _ h=>h);refine⟨h.1,⟨h.2.1,Cells.bW PJ⟩,?_⟩;rw [Fe h p6.heap.size];refine Is.mk rfl ?_;intro Fz;have D7:Kept Nil p6 Fz:=(Kept.refl _ _).alloc _;have UR:Fz.heap[p6.heap.size]? =some (.cells (eN h ⟨p6.heap.size,C9,(di lp).length,Q4,none,0,0,none,0,0,[]⟩) df (0,0)):=aR p6 _;clear_value Fz;have NA:=DU.tt D7;have Lu:∀k,bm C9=some k->w5.heap.size<=k/\k<p6.heap.size:=fun k hk=>by
   obtain⟨e1,cur,hc⟩:=Row.bW uz hk;exact⟨e1,a7 hc⟩
  have YG:=Tk.size;have abV:=DU.size;have C1:∀k,(F k\/bm C9=some k)->k<p6.heap.size:=fun k hk=>by
   rcases hk with hk|hk
   ·have:=G.low k (.inr hk);omega
   ·exact(Lu k hk).2
  have Hy:∀k,S k->k<w.heap.size:=fun k hk=>G.low k (.inl hk);have G23:GV Fz S (fun k=>F k\/bm C9=some k) g D (fH D) bl c mb M:=(G.same NA).Np (fun _ h=>.inl h) (fun k hs e=>by
   rcases e with e|e
   ·exact G.C8 k hs e
   ·have:=Hy k hs;have:=(Lu k e).1;omega) (fun k hk=>by have:=C1 k hk;have:=D7.size;omega)
  have AB:gP D h ((di lp).take 0)=fH D:=by
   funext y
   unfold gP;rw [if_neg (by simp)]
  have L0:AL w Fz S (fun k=>F k\/bm C9=some k) S g D h (di lp) w.heap.size w4.heap.size p6.heap.size C9 Q4 0 bl c mb M none 0 0 []:=
   ⟨by rw [AB];exact G23,fun _ h=>h,fun _ h=>.inl h,UR,fun e=>by have:=Hy _ e;omega,Row.nil _ _ _ _,by simp [okW],by omega,(fun k hk=>by cases hk),fun j=>by simp [vF],D7.heap Vp (fun h=>h),D7.heap PJ (fun h=>h),
     fun e=>by have:=Hy _ e;omega,fun e=>by have:=Hy _ e;omega,(uz.hs).same D7,NA.mono fun _ _ h=>h.elim⟩
  refine bp.b9 (I:=fun s v=>∃(i:Nat) (S2:Nat->Prop) (M2:List NM) (rA:Option Addr) (rn rc:Nat) (ws:List Nat),s=(i:Int)/\i<=(di lp).length/\AL w v S (fun k=>F k\/bm C9=some k) S2 g D h (di lp) w.heap.size w4.heap.size p6.heap.size C9 Q4 i bl c mb M2 rA rn rc ws)
   (μ:=fun s _=>(((di lp).length:Int)-s).toNat) (s:=0) ⟨0,S,M,none,0,0,[],rfl,Nat.zero_le _,L0⟩ ?_
  rintro s v ⟨i,S2,M2,rA,rn,rc,ws,rfl,hi,L⟩;have IE:∀a,C9=some a->F a.block\/bm C9=some a.block:=fun a ha=>.inr (by rw [ha];rfl);by_cases eV:i<(di lp).length
  ·refine CE L W (by omega) (iI _) gK C1 IE (by omega) eV (by omega) fun S3 M3 rA3 rn3 rc3 ws3 v3 L3=>?_
   exact⟨(i:Int)+1,rfl,⟨i+1,S3,M3,rA3,rn3,rc3,ws3,rfl,eV,L3⟩,by simp only;omega⟩
  ·refine Split.no (decide_eq_false (by omega)) ?_
   rw [aY,bp.Jk];refine HU L W hD (iI _) gK hm C1 IE (by omega) (by omega) fun v2 S4 F4 hI Px hS4 hF4=>hK v2 S4 F4 hI Px hS4 (fun k hk=>?_);rcases hF4 k hk with(e|e)|e
   ·exact .inl e
   ·exact .inr (by have:=(Lu k e).1;omega)
   ·exact .inr e
end
def nx(nb:Nat):NM:=⟨nb,none,0,0,none,0,0,none,0,0,[]⟩
structure NP(w v:World)(r:HT)(A B E:Option Nat)(l:List HT):Prop where
 kp:Kept Nil w v
 node:∀b,A=some b->w.heap.size<=b/\v.heap[b]? =some (.cells (eN r (nx b)) df (0,0))
 list:∀b,B=some b->w.heap.size<=b/\∃nb,A=some nb/\v.heap[b]? =some (.cells #[.pointer (some ⟨nb,0,none⟩)] dP (0,0))
 map:∀b,E=some b->w.heap.size<=b/\IsMap v b l
section
variable{w v:World}{r:HT}{A B E:Option Nat}{l:List HT}{K:Value->World->Prop}
theorem NP.grow(h:NP w v r A B E l)(o:Obj):NP w (v.alloc o) r A B E l:=
 ⟨h.kp.alloc o,fun b e=>⟨(h.node b e).1,jD (h.node b e).2 o⟩,fun b e=>⟨(h.list b e).1,let ⟨nb,h1,h2⟩:=(h.list b e).2;⟨nb,h1,jD h2 o⟩⟩,fun b e=>⟨(h.map b e).1,(h.map b e).2.aK ((Kept.refl Nil v).alloc o) (fun h=>h)⟩⟩
theorem NP.addNode(h:NP w v r none none E l):NP w (v.alloc (.cells (eN r (nx v.heap.size)) df)) r (some v.heap.size) none E l:=
 have g:=h.grow (.cells (eN r (nx v.heap.size)) df)
 ⟨g.kp,fun b e=>by cases e;exact⟨h.kp.size,aR v _⟩,fun b e=>(by cases e),g.map⟩
theorem NP.ox{nb:Nat}(h:NP w v r (some nb) none E l):NP w (v.alloc (.cells #[.pointer (some ⟨nb,0,none⟩)] dP)) r (some nb) (some v.heap.size) E l:=
 have g:=h.grow (.cells #[.pointer (some ⟨nb,0,none⟩)] dP)
 ⟨g.kp,g.node,fun b e=>by cases e;exact⟨h.kp.size,nb,rfl,aR v _⟩,g.map⟩
theorem NP.zG(h:NP w v r A B none []):NP w (v.alloc (.map #[] 0)) r A B (some v.heap.size) []:=
 have g:=h.grow (.map #[] 0)
 ⟨g.kp,g.node,g.list,fun b e=>by cases e;exact⟨h.kp.size,⟨#[],0,aR v _,trivial⟩⟩⟩
theorem NP.put{mb:Nat}(h:NP w v r A B (some mb) []):∃v',(Instr.mapUpdate b0 (.map (some mb)) (.agg r.1) (.int .i64 0)).run prog v=.ok () v'/\NP w v' r A B (some mb) [r]:=by
 obtain⟨h1,h2⟩:=h.map mb rfl;obtain⟨v',hr,hm,hk⟩:=h2.put (h:=r) (by simp);have Gg:∀ {k:Nat} {cs:Array Value} {t:TypeId},v.heap[k]? =some (.cells cs t (0,0))->¬(k=mb):=fun hk e=>by
  obtain⟨es,clock,Hd,_⟩:=h2.ex;rw [e,Hd]at hk;cases hk
 refine⟨v',hr,h.kp.trans hk (fun k hk e=>by omega),fun b e=>⟨(h.node b e).1,hk.heap (h.node b e).2 (Gg (h.node b e).2)⟩,fun b e=>⟨(h.list b e).1,?_⟩,fun b e=>by cases e;exact⟨h1,hm⟩⟩;obtain⟨nb,e1,e2⟩:=(h.list b e).2;exact⟨nb,e1,hk.heap e2 (Gg e2)⟩
theorem qh(r:HT){a b:HT}:¬mY [(⟨r,[]⟩:DN)] a b:=fun⟨nd,h1,_,h2⟩=>by
 simp at h1;subst h1;simp at h2
theorem wx(r:HT){a b:HT}:¬fE [(⟨r,[]⟩:DN)] a b:=fun h=>by
 cases h with
 |one h=>exact qh r h
 |more _ h=>exact qh r h
theorem NP.fin{w0:World}{nb lb mb:Nat}(h:NP w v r (some nb) (some lb) (some mb) [r])(hw:w0.heap.size<=w.heap.size):
 AX (v.alloc (.cells #[.slice (some ⟨lb,0,none⟩) 1 1,.map (some mb)] fO)) (fun k=>w0.heap.size<=k/\k<(v.alloc (.cells #[.slice (some ⟨lb,0,none⟩) 1 1,.map (some mb)] fO)).heap.size) (fun _=>False) v.heap.size [⟨r,[]⟩]:=by
 have g:=h.grow (.cells #[.slice (some ⟨lb,0,none⟩) 1 1,.map (some mb)] fO);have jo:=aR v (.cells #[.slice (some ⟨lb,0,none⟩) 1 1,.map (some mb)] fO);generalize v.alloc (.cells #[.slice (some ⟨lb,0,none⟩) 1 1,.map (some mb)] fO)=u at g jo;have hs:=h.kp.size;obtain⟨n1,n2⟩:=g.node nb rfl;obtain⟨l1,nb',e,l2⟩:=g.list lb rfl;cases e;obtain⟨m1,m2⟩:=g.map mb rfl;have mP:fH [⟨r,[]⟩] r= []:=by
  cases hc:fH [⟨r,[]⟩] r with
  |nil=>rfl
  |cons b t=>exact absurd (jK.1 (show b∈fH [⟨r,[]⟩] r by rw [hc];simp)).2 (qh r)
 refine⟨lb,1,mb,[nx nb],jo,Row.made (n:=1) (cur:= #[.pointer (some ⟨nb,0,none⟩)]) l2 (Nat.zero_le _) rfl (by decide),m2,rfl,fun i nd m hi hm=>?_,fun i j m m' h1 h2 fG k hk=>?_,⟨by omega,a7 jo⟩,⟨by omega,a7 l2⟩,⟨by omega,m2.lt⟩,fun _ _ h=>h,fun k hk=>hk.elim (fun h=>h.2) (fun h=>h.elim)⟩
 ·cases i with
  |zero=>
   simp at hi hm;subst hi;subst hm;refine⟨n2,⟨Nat.le_trans hw n1,a7 n2⟩,HS.nil _ _,(fun a ha=>by cases ha),?_,(fun k hk=>by cases hk),⟨rfl,fun i x hx=>by simp [nx]at hx⟩,(fun a ha=>by cases ha),by simp [okW,nx],fun j=>?_,by simp [nx]⟩
   ·show cm u 0 none 0 0 (fH [⟨r,[]⟩] r)
    rw [mP];exact cm.nil _ _
   ·show bit [] j=true↔_
    rw [vF];exact⟨(fun h=>by cases h),fun⟨nj,_,h⟩=>absurd h (wx r)⟩
  |succ i=>simp at hi
 ·have hm:m=nx nb:=by
   have:=List.mem_of_getElem? h1;simpa using this
  subst hm;cases hk
theorem eW(r:HT)(hK:∀v gb,AX v (fun k=>w.heap.size<=k/\k<v.heap.size) (fun _=>False) gb [⟨r,[]⟩]->Kept Nil w v->K (.pointer (some ⟨gb,0,none⟩)) v):
 bf prog lx.id #[.agg r.1] w K:=by
 refine lx.of ?_;unfold lx.W;intro w2 w3;have k2:Kept Nil w w2:=(Kept.refl _ _).alloc _;have o6:w2.heap[w.heap.size]? =some (.cells r.1 ax (0,0)):=aR w _;have k3:Kept Nil w w3:=k2.drew;have oX:w3.heap[w.heap.size]? =some (.cells r.1 ax (0,0)):=o6;clear_value w3;have N3:NP w3 w3 r none none none []:=⟨Kept.refl _ _,(fun b e=>by cases e),(fun b e=>by cases e),(fun b e=>by cases e)⟩;have mF:∀ {v:World},Kept Nil w3 v->∃cs:Array Value,(.agg r.1:Value)=.agg cs/\cs.size=32/\Cells v (aU w.heap.size) cs:=fun k=>⟨r.1,rfl,r.2.1,Cells.bW (k.heap oX (fun h=>h))⟩;have sC:∀ {v:World} {nb lb mb:Nat},NP w3 v r (some nb) (some lb) (some mb) [r]->K (.pointer (some ⟨v.heap.size,0,none⟩)) (v.alloc (.cells #[.slice (some ⟨lb,0,none⟩) 1 1,.map (some mb)] fO)):=fun h=>hK _ _ (h.fin k3.size) ((k3.tt h.kp).alloc _);refine⟨r.1,⟨r.2.1,Cells.bW oX⟩,?_⟩;have O8:∀b,prog.built df [(0,.agg r.1)]=some (eN r (nx b)):=fun b=>Cy r b;rw [O8 0];refine Is.mk rfl ?_;refine⟨r.1,⟨r.2.1,Cells.bW oX⟩,?_⟩;refine⟨?_,?_⟩
 ·have N7:NP w3 (w3.alloc (.cells (eN r (nx w3.heap.size)) df)) r (some w3.heap.size) none none []:=N3.addNode
  refine⟨mF N7.kp,?_,?_⟩
  ·have N8:=N7.ox
   have N9:=N8.zG;obtain⟨v,hr,MP⟩:=N9.put;exact⟨mF N8.kp,mF N9.kp,v,hr,sC MP⟩
  ·have LU:=N7.zG
   refine⟨mF LU.kp,?_,?_⟩
   ·have HV:=LU.ox
    obtain⟨v,hr,LS⟩:=HV.put;exact⟨mF HV.kp,v,hr,sC LS⟩
   ·obtain⟨v,hr,MO⟩:=LU.put
    exact⟨v,hr,sC MO.ox⟩
 ·have F6:=N3.zG
  refine⟨mF F6.kp,mF F6.kp,?_,?_⟩
  ·have Jh:NP w3 ((w3.alloc (.map #[] 0)).alloc (.cells (eN r (nx (w3.alloc (.map #[] 0)).heap.size)) df)) r (some (w3.alloc (.map #[] 0)).heap.size) none (some w3.heap.size) []:=F6.addNode
   refine⟨mF Jh.kp,?_,?_⟩
   ·have Jg:=Jh.ox
    obtain⟨v,hr,MM⟩:=Jg.put;exact⟨mF Jg.kp,v,hr,sC MM⟩
   ·obtain⟨v,hr,Rg⟩:=Jh.put
    exact⟨v,hr,sC Rg.ox⟩
  ·obtain⟨v,hr,LR⟩:=F6.put
   exact⟨v,hr,mF LR.kp,sC LR.addNode.ox⟩
end
section
variable{w w':World}{S S' F:Nat->Prop}{g bl c mb:Nat}{D:DG}{C:HT->List HT}{M:List NM}{K:Value->World->Prop}
end
section
variable{w w':World}{S S' F:Nat->Prop}{g bl c mb:Nat}{D:DG}{C:HT->List HT}{M:List NM}{K:Value->World->Prop}
end
theorem lr{w:World}{b:Nat}{z cs:Array Value}{t:TypeId}(h:w.heap[b]? =some (.cells z t (0,0)))(hz:z.size=cs.size):
 (∀j,j<cs.size->Wr w ((⟨b,0,none⟩:Addr).add j))/\(setCells w ⟨b,0,none⟩ cs.toList 0).heap[b]? =some (.cells cs t (0,0))/\Kept (· =b) w (setCells w ⟨b,0,none⟩ cs.toList 0):=by
 refine⟨fun j hj=>?_,?_,fR _ _ _ _⟩
 ·rw [bt,Nat.zero_add]
  exact dz h (by omega)
 ·have h1:=jm cs.toList z w t 0 0 h (by simp;omega)
  rw [h1,rR (by simp [hz])]
def hx(i:Nat)(hi:i<256):HT:=⟨#[.int .u8 (i:Int),.int .u8 0,.int .u8 0,.int .u8 0,.int .u8 0,.int .u8 0,.int .u8 0,.int .u8 0,.int .u8 0,.int .u8 0,.int .u8 0,.int .u8 0,.int .u8 0,.int .u8 0,.int .u8 0,.int .u8 0,.int .u8 0,.int .u8 0,.int .u8 0,.int .u8 0,.int .u8 0,.int .u8 0,.int .u8 0,.int .u8 0,.int .u8 0,.int .u8 0,.int .u8 0,.int .u8 0,.int .u8 0,.int .u8 0,.int .u8 0,.int .u8 0],rfl,fun v hv=>by
 simp only [List.mem_cons,List.not_mem_nil,or_false]at hv;rcases hv with rfl|hv
 ·exact⟨i,rfl,by omega,by omega⟩
 ·exact⟨0,by simpa using hv,by omega,by omega⟩⟩
theorem yL{i j:Nat}{hi:i<256}{hj:j<256}(h:i≠j):hx i hi≠hx j hj:=fun e=>by
 have:=congrArg (fun a:HT=>a.1[0]?) e;simp [hx]at this;omega
section
variable{w w':World}{K:Value->World->Prop}
end
theorem HS.lay{w:World}{b:Nat}{l:List HT}{t:TypeId}(hb:w.heap[b]? =some (.cells (cF l).toArray t (0,0))):HS w (some ⟨b,0,Option.none⟩) l.length l:=
 ⟨rfl,fun i x hi=>⟨_,rfl,a7 hb,fun j v hj=>by
   rw [bt,bt,Nat.zero_add,aA hb];simpa using jz hi hj⟩⟩
section
variable{r a b c:HT}(KB:r≠a)(Ew:r≠b)(RL:r≠c)(mH:a≠b)(R7:a≠c)(Lg:b≠c)
abbrev kD(r a b c:HT):DG:= [⟨r,[]⟩,⟨a,[r]⟩,⟨b,[r]⟩,⟨c,di [a,b]⟩]
include KB in
theorem k1:eB [⟨r,[]⟩] a [r]=0/\mB [⟨r,[]⟩] a [r]= [⟨r,[]⟩,⟨a,[r]⟩]:=by
 have h:eB [⟨r,[]⟩] a [r]=0:=by
  unfold eB;rw [if_neg (by simp [ids];exact fun e=>KB e.symm),lY,if_neg (by simp),if_neg (by simp [ids])]
 exact⟨h,by unfold mB;rw [if_pos h,lY];rfl⟩
include Ew mH in
theorem k2:eB [⟨r,[]⟩,⟨a,[r]⟩] b [r]=0/\mB [⟨r,[]⟩,⟨a,[r]⟩] b [r]= [⟨r,[]⟩,⟨a,[r]⟩,⟨b,[r]⟩]:=by
 have h:eB [⟨r,[]⟩,⟨a,[r]⟩] b [r]=0:=by
  unfold eB;rw [if_neg (by simp [ids];exact⟨fun e=>Ew e.symm,fun e=>mH e.symm⟩),lY,if_neg (by simp),if_neg (by simp [ids])]
 exact⟨h,by unfold mB;rw [if_pos h,lY];rfl⟩
include RL mH R7 Lg in
theorem k3:eB [⟨r,[]⟩,⟨a,[r]⟩,⟨b,[r]⟩] c [a,b]=0/\mB [⟨r,[]⟩,⟨a,[r]⟩,⟨b,[r]⟩] c [a,b]=kD r a b c:=by
 have hl:(di [a,b]).length=2:=oE (by simp [mH]);have h:eB [⟨r,[]⟩,⟨a,[r]⟩,⟨b,[r]⟩] c [a,b]=0:=by
  unfold eB;rw [if_neg (by simp [ids];exact⟨fun e=>RL e.symm,fun e=>R7 e.symm,fun e=>Lg e.symm⟩),hl,if_neg (by simp),if_neg];rintro⟨p,hp,hn⟩;rw [dJ]at hp;simp at hp;simp [ids]at hn;rcases hp with rfl|rfl
  ·exact hn.2.1 rfl
  ·exact hn.2.2 rfl
 exact⟨h,by unfold mB;rw [if_pos h];rfl⟩
end
section
variable{w w':World}{K:Value->World->Prop}
end
section
variable{w v w':World}{S F S2 F2 FR:Nat->Prop}{g r:Nat}{D D':DG}{K:Value->World->Prop}
end
end Go.Proofs.YtfleamccglihoaaGreatDoor
