import Derived.CallsIn
import Derived.OrdersIn
import Derived.KernelRfl
import Derived.Laws.AppendOwn
import Derived.Laws.Cells
import Derived.Laws.Sem
import Derived.Laws.Tables
import Derived.ChangeKeysEq
import Derived.Great.BuildSlice
import Derived.Great.FillDense
import Derived.RangeFuncRecord
import Derived.Below
open Go.IntKind (i64 u64)
set_option linter.unusedVariables false
namespace Go.bE
abbrev aU(b:Nat):Addr:=⟨b,0,none⟩
abbrev yQ(n:Int):Array Value:= #[.int .u8 n,.int .u8 0,.int .u8 0,.int .u8 0,.int .u8 0,.int .u8 0,.int .u8 0,.int .u8 0,.int .u8 0,.int .u8 0,.int .u8 0,.int .u8 0,.int .u8 0,.int .u8 0,.int .u8 0,.int .u8 0,.int .u8 0,.int .u8 0,.int .u8 0,.int .u8 0,.int .u8 0,.int .u8 0,.int .u8 0,.int .u8 0,.int .u8 0,.int .u8 0,.int .u8 0,.int .u8 0,.int .u8 0,.int .u8 0,.int .u8 0,.int .u8 0]
theorem _root_.lgeS{α:Type _}{l:List α}{i:Nat}{a:α}(h:l[i]? =some a):∃h:i<l.length,l[i]=a:=List.getElem?_eq_some_iff.mp h
abbrev FR(r:Option Nat):Fence:= {fn:=fun _=>True,depth:=none,alive:=false,round:=r}
def Split(b:Bool)(A B:Prop):Prop:=match b with|true=>A|false=>B
theorem Split.mk{b:Bool}{A B:Prop}(h1:b=true->A)(h2:b=false->B):Split b A B:=by cases b;exact h2 rfl;exact h1 rfl
theorem Split.dec{p:Prop}[Decidable p]{A B:Prop}(h1:p->A)(h2:¬p->B):Split (decide p) A B:=by
 by_cases h:p
 ·rw [decide_eq_true h];exact h1 h
 ·rw [decide_eq_false h];exact h2 h
theorem Split.yes{b:Bool}{A B:Prop}(h:b=true)(h1:A):Split b A B:=by subst h;exact h1
theorem Split.no{b:Bool}{A B:Prop}(h:b=false)(h1:B):Split b A B:=by subst h;exact h1
def Is{α:Type}(p:Option α)(k:α->Prop):Prop:=match p with|some a=>k a|none=>False
theorem Is.out{α:Type}{p:Option α}{k:α->Prop}(h:Is p k):∃a,p=some a/\k a:=by
 cases p with
 |none=>exact h.elim
 |some a=>exact⟨a,rfl,h⟩
theorem Is.mk{α:Type}{p:Option α}{k:α->Prop}{a:α}(h:p=some a)(hk:k a):Is p k:=by subst h;exact hk
inductive Kd where
 |int (k:IntKind)|bool|str|ptr|slice|map|agg (n:Nat)|other|bad
def lE(P:Program)(t:TypeId):Kd:=
 match P.underlying t with
 |some (.int k)=>.int k
 |some .bool=>.bool
 |some .string=>.str
 |some (.pointer _)=>.ptr
 |some (.slice _)=>.slice
 |some (.map _ _)=>.map
 |some (.struct _)=>.agg (P.cellsOf t)
 |some (.array _ _)=>.agg (P.cellsOf t)
 |some _=>.other
 |none=>.bad
def Any(d:Kd)(k:Value->Prop):Prop:=
 match d with
 | .int kk=>∃n,k (.int kk n)
 | .bool=>∃b,k (.bool b)
 | .str=>∃s,k (.string s)
 | .ptr=>∃p,k (.pointer p)
 | .slice=>∃A n m,k (.slice A n m)
 | .map=>∃r,k (.map r)
 | .agg _=>∃cs,k (.agg cs)
 | .other=>∃v,k v
 | .bad=>False
theorem Any.out{d:Kd}{k:Value->Prop}(h:Any d k):∃v,k v:=by
 cases d<;>simp only [Any]at h
 case int=>obtain⟨n,h⟩:=h;exact⟨_,h⟩
 case bool=>obtain⟨n,h⟩:=h;exact⟨_,h⟩
 case str=>obtain⟨n,h⟩:=h;exact⟨_,h⟩
 case ptr=>obtain⟨n,h⟩:=h;exact⟨_,h⟩
 case slice=>obtain⟨A,n,m,h⟩:=h;exact⟨_,h⟩
 case map=>obtain⟨n,h⟩:=h;exact⟨_,h⟩
 case agg=>obtain⟨n,h⟩:=h;exact⟨_,h⟩
 case other=>exact h
def Cell(d:Kd)(c:Option Value)(k:Value->Prop):Prop:=Any d fun v=>c=some v/\k v
theorem Cell.out{d:Kd}{c:Option Value}{k:Value->Prop}(h:Cell d c k):∃v,c=some v/\k v:=Any.out h
def Cells(w:World)(a:Addr)(cs:Array Value):Prop:=∀j v,cs[j]? =some v->w.cell? (a.add j)=some v
def vr(op:BinOp)(kk:IntKind)(a b:Int)(k:Value->Prop):Prop:=
 match op with
 | .add=>k (.int kk (kk.wrap (a+b)))
 | .sub=>k (.int kk (kk.wrap (a-b)))
 | .mul=>k (.int kk (kk.wrap (a*b)))
 | .quo=>b≠0/\k (.int kk (kk.wrap (a.tdiv b)))
 | .rem=>b≠0/\k (.int kk (a.tmod b))
 | .and=>k (.int kk (kk.wrap (BitVec.ofInt kk.bits a&&& BitVec.ofInt kk.bits b).toNat))
 | .or=>k (.int kk (kk.wrap (BitVec.ofInt kk.bits a|||BitVec.ofInt kk.bits b).toNat))
 | .xor=>k (.int kk (kk.wrap (BitVec.ofInt kk.bits a ^^^ BitVec.ofInt kk.bits b).toNat))
 | .andNot=>k (.int kk (kk.wrap (BitVec.ofInt kk.bits a&&& ~~~ BitVec.ofInt kk.bits b).toNat))
 | .eql=>k (.bool (a==b))
 | .neq=>k (.bool (a != b))
 | .lss=>k (.bool (decide (a<b)))
 | .leq=>k (.bool (decide (a<=b)))
 | .gtr=>k (.bool (decide (a>b)))
 | .geq=>k (.bool (decide (a>=b)))
 |_=>False
def fV(kk:IntKind)(n:Nat)(cs:Array Value):Prop:=cs.size=n/\∀v∈cs.toList,∃i,v=.int kk i
def kI:Value->Int
 | .int _ i=>i
 |_=>0
def gv(a b:Array Value):Bool:=a.toList.map kI==b.toList.map kI
def Kq(v:Value):Prop:=v=.nilFunc\/∃a b c,v=.func a b c
def Gu:Value->Bool
 | .nilFunc=>true
 |_=>false
def nI(P:Program)(op:BinOp)(t:TypeId)(x:Value)(k:Value->Prop):Prop:=
 match op,P.underlying t with
 | .eql,some (.func _ _ _)=>Kq x/\k (.bool (Gu x))
 | .neq,some (.func _ _ _)=>Kq x/\k (.bool (!Gu x))
 |_,_=>False
def pZ(P:Program)(op:BinOp)(t:TypeId)(a b:Array Value)(k:Value->Prop):Prop:=
 match P.underlying t with
 |some (.array n e)=>match P.underlying e,P.info? e with
  |some (.int kk),some inf=>match Nat.beq inf.size 1&& !P.eqGuardType P.depth t with
   |true=>match op with
    | .eql=>(fV kk n a/\fV kk n b)/\k (.bool (gv a b))
    | .neq=>(fV kk n a/\fV kk n b)/\k (.bool (!gv a b))
    |_=>False
   |false=>False
  |_,_=>False
 |_=>False
def pY(P:Program)(op:BinOp)(t:TypeId)(x y:Value)(k:Value->Prop):Prop:=
 match x,y with
 | .int ka a,.int kb b=>
   match op with
   | .shl=>0<=b/\k (.int ka (ka.wrap (a*2 ^ (min b.toNat ka.bits))))
   | .shr=>0<=b/\k (.int ka (a.fdiv (2 ^ (min b.toNat ka.bits))))
   |op=>match decide (ka=kb)with|true=>vr op ka a b k|false=>False
 | .bool a,.bool b=>
   match op,P.underlying t with
   | .eql,some .bool=>k (.bool (a==b))
   | .neq,some .bool=>k (.bool (!(a==b)))
   |_,_=>False
 | .pointer p,.pointer none=>
   match op,P.underlying t with
   | .eql,some (.pointer _)=>k (.bool p.isNone)
   | .neq,some (.pointer _)=>k (.bool (!p.isNone))
   |_,_=>False
 | .slice A _ _,.slice none _ _=>
   match op,P.underlying t with
   | .eql,some (.slice _)=>k (.bool A.isNone)
   | .neq,some (.slice _)=>k (.bool (!A.isNone))
   |_,_=>False
 | .map r,.map none=>
   match op,P.underlying t with
   | .eql,some (.map _ _)=>k (.bool r.isNone)
   | .neq,some (.map _ _)=>k (.bool (!r.isNone))
   |_,_=>False
 | .agg a,.agg b=>pZ P op t a b k
 |_,_=>False
def NA(lo:Option Value)(k:Nat->Prop)(h:Nat):Prop:=
 match lo with
 |none=>k 0
 |some (.int _ i)=>(0<=i/\i<=(h:Int))/\k i.toNat
 |_=>False
def Mz(hi:Option Value)(len top:Nat)(k:Nat->Prop):Prop:=
 match hi with
 |none=>k len
 |some (.int _ i)=>(0<=i/\i<=(top:Int))/\k i.toNat
 |_=>False
def pF(P:Program)(t:TypeId)(cs:Array Value)(off:Nat)(k:Value->Prop):Prop:=
 match lE P t with
 | .agg n=>k (.agg (cs.extract off (off+n)))
 |d=>Cell d cs[off]? k
def pB(P:Program)(f:Operand->Value)(o:Oper)(k:Value->Prop):Prop:=
 match o.op with
 | .move x=>k (f x)
 | .assign x=>k (f x)
 | .pick c a b=>match f c with| .bool t=>Split t (k (f a)) (k (f b))|_=>False
 | .nilCheck x=>
   match f x with
   | .pointer p=>Is p fun a=>k (.pointer (some a))
   | .func (.func g) fs cs=>k (.func (.func g) fs cs)
   |_=>False
 | .binOp op t x y _=>match y,f y with
   | .const _,.nilFunc=>nI P op t (f x) k
   |_,v=>pY P op t (f x) v k
 | .unOp op _ x=>
   match op,f x with
   | .not,.bool b=>k (.bool !b)
   | .neg,.int kk n=>k (.int kk (kk.wrap (0-n)))
   |_,_=>False
 | .convert src dst x=>
   match P.underlying src,P.underlying dst,f x with
   |some (.int _),some (.int kd),.int _ n=>k (.int kd (kd.wrap n))
   |_,_,_=>False
 | .fieldAddr s x i=>
   match P.underlying s,f x with
   |some (.struct fs),.pointer (some a)=>
    match fs[i]? with
    |some fd=>Is (P.info? fd.type) fun inf=>match inf.size with
     |0=>False
     |_+1=>k (.pointer (some (a.add fd.offset)))
    |none=>False
   |_,_=>False
 | .field s x i=>
   match P.underlying s,f x with
   |some (.struct fs),.agg cs=>
    match fs[i]? with
    |some fd=>pF P fd.type cs fd.offset k
    |none=>False
   |_,_=>False
 | .indexAddr t x ix=>
   match P.underlying t,f x,f ix with
   |some (.slice e),.slice A n _,.int _ i=>Is (P.info? e) fun inf=>(0<=i/\i<(n:Int))/\Is A fun a=>k (.pointer (some (a.add (i.toNat*inf.size))))
   |some (.array n e),.pointer (some a),.int _ i=>Is (P.info? e) fun inf=>(0<=i/\i<(n:Int))/\k (.pointer (some (a.add (i.toNat*inf.size))))
   |_,_,_=>False
 | .index t x ix=>
   match P.underlying t,f x,f ix with
   |some (.array n e),.agg cs,.int _ i=>Is (P.info? e) fun inf=>(0<=i/\i<(n:Int))/\pF P e cs (i.toNat*inf.size) k
   |_,_,_=>False
 | .slice t x lo hi none=>
   match P.underlying t,f x with
   |some (.slice e),.slice A n c=>Is (P.info? e) fun inf=>Mz (hi.map f) n c fun h=>NA (lo.map f) (fun l=>k (.slice (if c=l then A else A.map (·.add (l*inf.size))) (h-l) (c-l))) h
   |some (.array n e),.pointer (some a)=>Is (P.info? e) fun inf=>Mz (hi.map f) n n fun h=>NA (lo.map f) (fun l=>k (.slice (some (if n=l then a else a.add (l*inf.size))) (h-l) (n-l))) h
   |_,_=>False
 | .slice t x lo (some hi) (some mx)=>
   match P.underlying t,f x with
   |some (.slice e),.slice A n c=>Is (P.info? e) fun inf=>Mz (some (f mx)) n c fun m=>Mz (some (f hi)) n m fun h=>NA (lo.map f) (fun l=>k (.slice (if m=l then A else A.map (·.add (l*inf.size))) (h-l) (m-l))) h
   |_,_=>False
 | .extract x i=>match f x with| .tuple vs=>Is vs[i]? k|_=>False
 | .build t parts=>Is (P.built t (parts.toList.map fun p=>(p.1,f p.2))) fun cells=>k (.agg cells)
 | .makeFunc fn first captured=>k (.func fn (first.toList.map f).toArray (captured.toList.map f).toArray)
 | .call c=>
   match c.callee,c.args.toList,c.argTypes.toList with
   | .builtin .len,[x],[t]=>
     match P.underlying t,f x with
     |some (.slice _),.slice _ n _=>k (.int .i64 n)
     |some .string,.string s=>k (.int .i64 s.size)
     |_,_=>False
   |_,_,_=>False
 |_=>False
section
variable{P:Program}{f:Operand->Value}{o:Oper}{k:Value->Prop}
theorem pK{t:TypeId}{n:Nat}(h:lE P t=.agg n):n=P.cellsOf t/\∀w,(isAgg t).run P w=.ok true w:=by
 unfold lE at h;split at h<;>simp at h<;>(rename_i hd;refine⟨h.symm,fun w=>?_⟩;simp [isAgg,run_underlying hd])
theorem xg{t:TypeId}(hn:∀n,lE P t≠ .agg n)(hs:(P.underlying t).isSome):∀w,(isAgg t).run P w=.ok false w:=by
 intro w;obtain⟨d,hd⟩:=Option.isSome_iff_exists.1 hs;unfold lE at hn;rw [hd]at hn;cases d<;>first|(simp [isAgg,run_underlying hd];done)|exact absurd rfl (hn _)
theorem run_sizeOf{t:TypeId}{i:TypeInfo}(hi:P.info? t=some i)(w:World):(sizeOf t).run P w=.ok (P.cellsOf t) w:=by
 simp [sizeOf,typeInfo,hi,Program.cellsOf]
theorem info_of_underlying{t:TypeId}(h:(P.underlying t).isSome):∃i,P.info? t=some i:=by
 unfold Program.underlying at h;cases hi:P.info? t with
 |none=>simp [hi]at h
 |some i=>exact⟨i,rfl⟩
end
section
variable{P:Program}{f:Operand->Value}{o:Oper}{k:Value->Prop}
def Rh(P:Program)(s:Sem Value)(v:Value):Prop:=∀w,s.run P w=.ok v w
theorem nE{t:TypeId}{cs:Array Value}{off:Nat}(h:pF P t cs off k):∃v,Rh P (part t cs off) v/\k v:=by
 unfold pF at h;split at h
 ·rename_i n hn
  obtain⟨rfl,ha⟩:=pK hn;have hs:(P.underlying t).isSome:=by
   unfold lE at hn;split at hn<;>simp_all
  obtain⟨i,hi⟩:=info_of_underlying hs;exact⟨_,fun w=>by simp [part,ha w,run_sizeOf hi],h⟩
 ·rename_i d hd
  obtain⟨v,hv,hk⟩:=h.out;by_cases hs:(P.underlying t).isSome
  ·exact⟨v,fun w=>by simp [part,xg (fun n e=>hd n e) hs w,hv],hk⟩
  ·exfalso
   have:P.underlying t=none:=by simpa using hs
   have hb:lE P t=.bad:=by unfold lE;rw [this]
   rw [hb]at h;exact h
theorem tW{op:BinOp}{t:TypeId}{kk:IntKind}{a b:Int}(h:vr op kk a b k):∃v,Rh P (Go.binOp op t (.int kk a) (.int kk b)) v/\k v:=by
 cases op<;>simp only [vr]at h
 case quo=>exact⟨_,fun w=>by simp [Go.binOp,Op.intDiv,h.1],h.2⟩
 case rem=>exact⟨_,fun w=>by simp [Go.binOp,Op.intDiv,h.1],h.2⟩
 all_goals exact⟨_,fun w=>by simp [Go.binOp,Op.intArith,Op.intBits,Op.intCmp];try rfl,h⟩
section eq
variable(d:Nat){t:TypeId}(w:World)
theorem qK(h:P.underlying t=some .bool)(a b:Bool):(Op.equalIn (d+1) t (.bool a) (.bool b)).run P w=.ok (a==b) w:=by
 simp [Op.equalIn,run_underlying h]
theorem r5{e:TypeId}(h:P.underlying t=some (.pointer e))(p:Option Addr):(Op.equalIn (d+1) t (.pointer p) (.pointer none)).run P w=.ok p.isNone w:=by
 cases p<;>simp [Op.equalIn,run_underlying h]
theorem pw{e:TypeId}(h:P.underlying t=some (.slice e))(p:Option Addr)(n m n' m':Nat):(Op.equalIn (d+1) t (.slice p n m) (.slice none n' m')).run P w=.ok p.isNone w:=by
 cases p<;>simp [Op.equalIn,run_underlying h]
theorem run_eq_map{e e':TypeId}(h:P.underlying t=some (.map e e'))(p:Option Nat):(Op.equalIn (d+1) t (.map p) (.map none)).run P w=.ok p.isNone w:=by
 cases p<;>simp [Op.equalIn,run_underlying h]
theorem nx{x:Value}{a b:Array TypeId}{c:Bool}(h:P.underlying t=some (.func a b c))(hx:Kq x):(Op.equalIn (d+1) t x .nilFunc).run P w=.ok (Gu x) w:=by
 rcases hx with rfl|⟨_,_,_,rfl⟩<;>simp [Op.equalIn,run_underlying h,Gu]
theorem tN(x y:Value)(a b:List Value):((x::a).map kI==(y::b).map kI)=((kI x==kI y)&&(a.map kI==b.map kI)):=rfl
theorem qi{e:TypeId}{kk:IntKind}{i:TypeInfo}(he:P.underlying e=some (.int kk))(hi:P.info? e=some i)(h1:i.size=1)(xs ys:Array Value)(hx:∀v∈xs.toList,∃i,v=.int kk i)(hy:∀v∈ys.toList,∃i,v=.int kk i):
 ∀(m s:Nat),s+m=xs.size->s+m=ys.size->(Op.eqItems (d+1) e (P.cellsOf e) xs ys (List.range' s m)).run P w=.ok ((xs.toList.drop s).map kI==(ys.toList.drop s).map kI) w:=by
 have hc:P.cellsOf e=1:=by simp [Program.cellsOf,hi,h1]
 have Hv:∀w,(isAgg e).run P w=.ok false w:=fun w=>by simp [isAgg,run_underlying he]
 intro m
 induction m with
 |zero=>
  intro s hs lS;have e1:xs.toList.drop s= []:=List.drop_eq_nil_of_le (by simp;omega);have e2:ys.toList.drop s= []:=List.drop_eq_nil_of_le (by simp;omega);simp [List.range',Op.eqItems,e1,e2]
 |succ m ih=>
  intro s hs lS;have Zc:s<xs.size:=by omega
  have Zb:s<ys.size:=by omega
  obtain⟨a,ha⟩:=hx xs[s] (by simp);obtain⟨b,hb⟩:=hy ys[s] (by simp);have gx:xs[s]? =some (.int kk a):=by rw [Array.getElem?_eq_getElem Zc,ha]
  have gy:ys[s]? =some (.int kk b):=by rw [Array.getElem?_eq_getElem Zb,hb]
  have dx:xs.toList.drop s=.int kk a::xs.toList.drop (s+1):=by
   rw [List.drop_eq_getElem_cons (by simpa using Zc)];congr 1
  have dy:ys.toList.drop s=.int kk b::ys.toList.drop (s+1):=by
   rw [List.drop_eq_getElem_cons (by simpa using Zb)];congr 1
  have hq:(Op.equalIn (d+1) e (.int kk a) (.int kk b)).run P w=.ok (a==b) w:=by simp [Op.equalIn,run_underlying he]
  have px:(part e xs (s*P.cellsOf e)).run P w=.ok (.int kk a) w:=by simp [part,Hv w,hc,gx]
  have py:(part e ys (s*P.cellsOf e)).run P w=.ok (.int kk b) w:=by simp [part,Hv w,hc,gy]
  rw [dx,dy];simp only [List.range',Op.eqItems,Sem.run_bind,px,py,hq,Result.andThen_ok,tN,kI];cases mJ:(a==b)
  ·simp
  ·have:=ih (s+1) (by omega) (by omega)
   simp [this]
theorem ny{e:TypeId}{n:Nat}{kk:IntKind}{i:TypeInfo}{a b:Array Value}(hu:P.underlying t=some (.array n e))(he:P.underlying e=some (.int kk))(hi:P.info? e=some i)(h1:i.size=1)(ha:fV kk n a)(hb:fV kk n b):
 (Op.equalIn (d+2) t (.agg a) (.agg b)).run P w=.ok (gv a b) w:=by
 have h:=run_equalIn_array (P:=P) w (d+1) a b hu hi;rw [h,List.range_eq_range',qi d w he hi h1 a b ha.2 hb.2 n 0 (by rw [ha.1];omega) (by rw [hb.1];omega)];simp [gv]
theorem kM{x y:Value}{b:Bool}(h:∀d w,(Op.equalIn (d+1) t x y).run P w=.ok b w)(hb:Go.binOp .eql t x y=(do pure (.bool (<-Op.equal t x y)))):(Go.binOp .eql t x y).run P w=.ok (.bool b) w:=by
 rw [hb];have:=h 9999 w;simp only [Sem.run_bind,Op.equal,Op.maxDepth];rw [this];rfl
theorem wv{x y:Value}{b:Bool}(h:∀d w,(Op.equalIn (d+2) t x y).run P w=.ok b w)(hb:Go.binOp .eql t x y=(do pure (.bool (<-Op.equal t x y)))):(Go.binOp .eql t x y).run P w=.ok (.bool b) w:=by
 rw [hb];have:=h 9998 w;simp only [Sem.run_bind,Op.equal,Op.maxDepth];rw [this];rfl
theorem wu{x y:Value}{b:Bool}(h:∀d w,(Op.equalIn (d+2) t x y).run P w=.ok b w)(hb:Go.binOp .neq t x y=(do pure (.bool (!(<-Op.equal t x y))))):(Go.binOp .neq t x y).run P w=.ok (.bool !b) w:=by
 rw [hb];have:=h 9998 w;simp only [Sem.run_bind,Op.equal,Op.maxDepth];rw [this];rfl
theorem kL{x y:Value}{b:Bool}(h:∀d w,(Op.equalIn (d+1) t x y).run P w=.ok b w)(hb:Go.binOp .neq t x y=(do pure (.bool (!(<-Op.equal t x y))))):(Go.binOp .neq t x y).run P w=.ok (.bool !b) w:=by
 rw [hb];have:=h 9999 w;simp only [Sem.run_bind,Op.equal,Op.maxDepth];rw [this];rfl
end eq
theorem um{op:BinOp}{t:TypeId}{a b:Array Value}(h:pZ P op t a b k):∃v,Rh P (Go.binOp op t (.agg a) (.agg b)) v/\k v:=by
 unfold pZ at h;split at h
 ·rename_i n e hu
  split at h
  ·rename_i kk inf he hi
   split at h
   ·rename_i hb
    simp only [Bool.and_eq_true]at hb;have h1:=Nat.eq_of_beq_eq_true hb.1;split at h
    ·exact⟨_,fun w=>wv w (fun d w=>ny d w hu he hi h1 h.1.1 h.1.2) rfl,h.2⟩
    ·exact⟨_,fun w=>wu w (fun d w=>ny d w hu he hi h1 h.1.1 h.1.2) rfl,h.2⟩
    ·exact h.elim
   ·exact h.elim
  ·exact h.elim
 ·exact h.elim
theorem uo{op:BinOp}{t:TypeId}{a b:Array Value}(h:pZ P op t a b k):P.eqGuardType P.depth t=false:=by
 unfold pZ at h;split at h
 ·split at h
  ·split at h
   ·rename_i hb
    simp only [Bool.and_eq_true]at hb;simpa using hb.2
   ·exact h.elim
  ·exact h.elim
 ·exact h.elim
theorem sl{op:BinOp}{t:TypeId}{x:Value}(h:nI P op t x k):∃v,Rh P (Go.binOp op t x .nilFunc) v/\k v:=by
 unfold nI at h;split at h
 ·rename_i hu
  refine⟨_,fun w=>kM w (fun d w=>nx d w hu h.1) ?_,h.2⟩;rcases h.1 with rfl|⟨_,_,_,rfl⟩<;>rfl
 ·rename_i hu
  refine⟨_,fun w=>kL w (fun d w=>nx d w hu h.1) ?_,h.2⟩;rcases h.1 with rfl|⟨_,_,_,rfl⟩<;>rfl
 ·exact h.elim
theorem sn{op:BinOp}{t:TypeId}{x:Value}{y z:Operand}(h:nI P op t x k)(w:World):(eqGuard op t y z x .nilFunc).run P w=.ok () w:=by
 unfold nI at h;split at h
 ·rcases h.1 with rfl|⟨_,_,_,rfl⟩<;>simp [eqGuard]
 ·rcases h.1 with rfl|⟨_,_,_,rfl⟩<;>simp [eqGuard]
 ·exact h.elim
theorem uh{op:BinOp}{t:TypeId}{x y:Value}(h:pY P op t x y k):∃v,Rh P (Go.binOp op t x y) v/\k v:=by
 unfold pY at h;split at h
 ·rename_i ka a kb b
  split at h
  ·obtain⟨hb,h⟩:=h
   exact⟨_,fun w=>by simp [Go.binOp,Op.shift,Int.not_lt.2 hb],h⟩
  ·obtain⟨hb,h⟩:=h
   exact⟨_,fun w=>by simp [Go.binOp,Op.shift,Int.not_lt.2 hb],h⟩
  ·rename_i op h1 h2
   split at h
   ·rename_i hd
    obtain rfl:=of_decide_eq_true hd;exact tW h
   ·exact h.elim
 ·split at h
  ·rename_i hd
   exact⟨_,fun w=>kM w (fun d w=>qK d w hd _ _) rfl,h⟩
  ·rename_i hd
   exact⟨_,fun w=>kL w (fun d w=>qK d w hd _ _) rfl,h⟩
  ·exact h.elim
 ·rename_i p
  split at h
  ·rename_i hd
   exact⟨_,fun w=>kM w (fun d w=>r5 d w hd _) rfl,h⟩
  ·rename_i hd
   exact⟨_,fun w=>kL w (fun d w=>r5 d w hd _) rfl,h⟩
  ·exact h.elim
 ·rename_i A _ _ _ _
  split at h
  ·rename_i hd
   exact⟨_,fun w=>kM w (fun d w=>pw d w hd _ _ _ _ _) rfl,h⟩
  ·rename_i hd
   exact⟨_,fun w=>kL w (fun d w=>pw d w hd _ _ _ _ _) rfl,h⟩
  ·exact h.elim
 ·rename_i r
  split at h
  ·rename_i hd
   exact⟨_,fun w=>kM w (fun d w=>run_eq_map d w hd _) rfl,h⟩
  ·rename_i hd
   exact⟨_,fun w=>kL w (fun d w=>run_eq_map d w hd _) rfl,h⟩
  ·exact h.elim
 ·exact um h
 ·exact h.elim
theorem ox{hi:Option Value}{len top:Nat}{k:Nat->Prop}(h:Mz hi len top k):
 ∃m,(∀code w,(match hi with|some v=>Instr.sliceBound v top code|none=>pure len).run P w=.ok m w)/\k m:=by
 unfold Mz at h;split at h
 ·exact⟨_,fun _ w=>by simp,h⟩
 ·obtain⟨hb,h⟩:=h
  exact⟨_,fun _ w=>by simp [Instr.sliceBound,asIntOf,hb],h⟩
 ·exact h.elim
theorem qt{lo:Option Value}{top:Nat}{k:Nat->Prop}(h:NA lo k top):
 ∃m,(∀code w,(match lo with|some v=>Instr.sliceBound v top code|none=>pure 0).run P w=.ok m w)/\k m:=by
 unfold NA at h;split at h
 ·exact⟨_,fun _ w=>by simp,h⟩
 ·obtain⟨hb,h⟩:=h
  exact⟨_,fun _ w=>by simp [Instr.sliceBound,asIntOf,hb],h⟩
 ·exact h.elim
def Rk(P:Program)(f:Operand->Value)(o:Oper)(v:Value):Prop:=∀w,(execOp f o).run P w=.ok (.value v) w
theorem tg{a:Addr}{fd:Field}{inf:TypeInfo}{m:Nat}(hi:P.info? fd.type=some inf)(hm:inf.size=m+1)(w:World):
 (fieldPlace a fd).run P w=.ok (a.add fd.offset) w:=by
 simp [fieldPlace,sizeOf,typeInfo,hi,hm]
theorem toArray_map{α β:Type}(g:α->β)(xs:Array α):(xs.toList.map g).toArray=xs.map g:=by
 rw [<-Array.toList_map]
theorem xD{w:World}{op:BinOp}{t:TypeId}{x y:Operand}{u v:Value}(h:pY P op t u v k):(eqGuard op t x y u v).run P w=.ok () w:=by
 unfold pY at h;split at h<;>first|exact h.elim|(unfold eqGuard;simp;done)|(have hg:=uo h;unfold eqGuard;simp [hg])
theorem nC(h:pB P f o k):∃v,Rk P f o v/\k v:=by
 unfold pB at h;split at h
 ·rename_i x ho
  exact⟨_,fun w=>by simp [execOp,ho],h⟩
 ·rename_i x ho
  exact⟨_,fun w=>by simp [execOp,ho],h⟩
 ·rename_i c a b ho
  split at h
  ·rename_i t ht
   cases t
   ·exact⟨_,fun w=>by simp [execOp,ho,ht,asBool],h⟩
   ·exact⟨_,fun w=>by simp [execOp,ho,ht,asBool],h⟩
  ·exact h.elim
 ·rename_i x ho
  split at h
  ·rename_i p hp
   obtain⟨a,rfl,h⟩:=h.out;exact⟨_,fun w=>by simp [execOp,ho,hp],h⟩
  ·rename_i g fs cs hp
   exact⟨_,fun w=>by simp [execOp,ho,hp],h⟩
  ·exact h.elim
 ·rename_i op t x y yt ho
  split at h
  ·rename_i c hf
   obtain⟨v,hv,hk⟩:=sl h;refine⟨v,fun w=>?_,hk⟩;have hg:(eqGuard op t x (.const c) (f x) .nilFunc).run P w=.ok () w:=sn h w;simp [execOp,ho,hf,hg,hv w]
  ·obtain⟨v,hv,hk⟩:=uh h
   refine⟨v,fun w=>?_,hk⟩;have hg:=fun(x y:Operand) (w:World)=>xD (x:=x) (y:=y) (w:=w) h;simp [execOp,ho,hg,hv w]
 ·rename_i op t x ho
  split at h
  ·rename_i b hb
   exact⟨_,fun w=>by simp [execOp,ho,hb,Op.unary],h⟩
  ·rename_i kk n hb
   exact⟨_,fun w=>by simp [execOp,ho,hb,Op.unary,Op.intArith],h⟩
  ·exact h.elim
 ·rename_i src dst x ho
  split at h
  ·rename_i k1 kd k2 n h1 h2 h3
   exact⟨_,fun w=>by simp [execOp,ho,h3,Go.convert,run_underlying h1,run_underlying h2,Conv.intToInt],h⟩
  ·exact h.elim
 ·rename_i s x i ho
  split at h
  ·rename_i fs a h1 h2
   split at h
   ·rename_i fd hf
    obtain⟨inf,hi,h⟩:=h.out;split at h
    ·exact h.elim
    ·rename_i m hm
     exact⟨_,fun w=>by simp [execOp,ho,h2,Instr.fieldAt,run_underlying h1,hf,Instr.sureAddr,tg hi hm],h⟩
   ·exact h.elim
  ·exact h.elim
 ·rename_i s x i ho
  split at h
  ·rename_i fs cs h1 h2
   split at h
   ·rename_i fd hf
    obtain⟨v,hv,hk⟩:=nE h;exact⟨v,fun w=>by simp [execOp,ho,h2,Instr.field,run_underlying h1,hf,asAgg,hv w],hk⟩
   ·exact h.elim
  ·exact h.elim
 ·rename_i t x ix ho
  split at h
  ·rename_i e A n c kk i h1 h2 h3
   obtain⟨inf,hi,hb,h⟩:=h.out;obtain⟨a,rfl,h⟩:=h.out;exact⟨_,fun w=>by simp [execOp,ho,h2,h3,Instr.indexAt,asIntOf,run_underlying h1,hb,sizeOf,typeInfo,hi],h⟩
  ·rename_i n e a kk i h1 h2 h3
   obtain⟨inf,hi,hb,h⟩:=h.out;exact⟨_,fun w=>by simp [execOp,ho,h2,h3,Instr.indexAt,Instr.sureAddr,asIntOf,run_underlying h1,hb,sizeOf,typeInfo,hi],h⟩
  ·exact h.elim
 ·rename_i t x ix ho
  split at h
  ·rename_i n e cs kk i h1 h2 h3
   obtain⟨inf,hi,hb,h⟩:=h.out;obtain⟨v,hv,hk⟩:=nE h;exact⟨v,fun w=>by simp [execOp,ho,h2,h3,Instr.index,asIntOf,run_underlying h1,hb,sizeOf,typeInfo,hi,hv w],hk⟩
  ·exact h.elim
 ·rename_i t x lo hi ho
  split at h
  ·rename_i e A n c h1 h2
   obtain⟨inf,gM,h⟩:=h.out;obtain⟨hh,r1,h⟩:=ox (P:=P) h;obtain⟨ll,r2,h⟩:=qt (P:=P) h;refine⟨_,fun w=>?_,h⟩;have e1:=r1 .sliceAcap w;have e2:=r2 .sliceB w;cases lo<;>cases hi<;>simp_all [execOp,Instr.sliceAt,Instr.slice,Instr.sliceBounds,run_underlying h1,sizeOf,typeInfo]
  ·rename_i n e a h1 h2
   obtain⟨inf,gM,h⟩:=h.out;obtain⟨hh,r1,h⟩:=ox (P:=P) h;obtain⟨ll,r2,h⟩:=qt (P:=P) h;refine⟨_,fun w=>?_,h⟩;have e1:=r1 .sliceAlen w;have e2:=r2 .sliceB w;cases lo<;>cases hi<;>simp_all [execOp,Instr.sliceAt,Instr.sureAddr,Instr.sliceBounds,run_underlying h1,sizeOf,typeInfo]
  ·exact h.elim
 ·rename_i t x lo hi mx ho
  split at h
  ·rename_i e A n c h1 h2
   obtain⟨inf,gM,h⟩:=h.out;obtain⟨mm,r0,h⟩:=ox (P:=P) h;obtain⟨hh,r1,h⟩:=ox (P:=P) h;obtain⟨ll,r2,h⟩:=qt (P:=P) h;refine⟨_,fun w=>?_,h⟩;have e0:=r0 .slice3Acap w;have e1:=r1 .slice3B w;have e2:=r2 .slice3C w;cases lo<;>simp_all [execOp,Instr.sliceAt,Instr.slice,Instr.sliceBounds,run_underlying h1,sizeOf,typeInfo]
  ·exact h.elim
 ·rename_i x i ho
  split at h
  ·rename_i vs hv
   obtain⟨v,hi,h⟩:=h.out;exact⟨v,fun w=>by simp [execOp,ho,hv,Instr.extract,hi],h⟩
  ·exact h.elim
 ·rename_i t parts ho
  obtain⟨cells,hc,h⟩:=h.out;refine⟨_,fun w=>?_,h⟩;have hp:(parts.map fun(i,x)=>(i,f x)).toList=parts.toList.map fun p=>(p.1,f p.2):=by rw [Array.toList_map]
  have hr:=run_build (P:=P) w t (parts.map fun(i,x)=>(i,f x)) cells (by rw [hp];exact hc);simp only [execOp,ho,Sem.run_bind,hr,Result.andThen_ok,Sem.run_pure]
 ·rename_i fn first captured ho
  exact⟨.func fn (first.map f) (captured.map f),fun w=>by simp [execOp,ho,Instr.makeFunc],by rwa [toArray_map,toArray_map]at h⟩
 ·rename_i c ho
  split at h
  ·rename_i x t hc ha ht
   obtain⟨callee,args,ats⟩:=c;obtain⟨args⟩:=args;obtain⟨ats⟩:=ats;simp only at hc ha ht;subst hc ha ht;split at h
   ·rename_i e A n m h1 h2
    exact⟨_,fun w=>by simp [execOp,ho,resolve,invoke,builtin,Builtin.len_,h2,run_underlying h1,goInt],h⟩
   ·rename_i s h1 h2
    exact⟨_,fun w=>by simp [execOp,ho,resolve,invoke,builtin,Builtin.len_,h2,run_underlying h1,goInt],h⟩
   ·exact h.elim
  ·exact h.elim
 ·exact h.elim
end
def Xo(P:Program)(s:Sem Value)(w:World)(k:Value->World->Prop):Prop:=∃v w',s.run P w=.ok v w'/\k v w'
def Rr(P:Program)(s:Sem Value)(w:World)(k:Value->World->Prop):Prop:=∃A n c w',s.run P w=.ok (.slice A n c) w'/\k (.slice A n c) w'
def DoP(P:Program)(s:Sem Value)(w:World)(k:Value->World->Prop):Prop:=∃(a:Option Addr) (w':World),s.run P w=.ok (.pointer a) w'/\k (.pointer a) w'
def Xp(P:Program)(s:Sem Value)(w:World)(k:Value->World->Prop):Prop:=
 (∃w':World,s.run P w=.ok (.tuple #[.bool false]) w'/\k (.tuple #[.bool false]) w')\/∃(a b:Value) (w':World),s.run P w=.ok (.tuple #[.bool true,a,b]) w'/\k (.tuple #[.bool true,a,b]) w'
def HI(d:Option Tmp)(i:Nat):List Oper->Option TypeId
 | []=>none
 |o::r=>match o.op,d with
  | .extract (.tmp t) j,some d=>match Nat.beq t d&&Nat.beq i j with|true=>some o.type|false=>HI (some d) i r
  |_,d=>HI d i r
def HQ(P:Program)(t:Option TypeId)(k:Value->Prop):Prop:=match t with|some t=>Any (lE P t) k|none=>∃v:Value,k v
def DoU(P:Program)(s:Sem Unit)(w:World)(k:Value->World->Prop):Prop:=∃w',s.run P w=.ok () w'/\k undef w'
def NG(P:Program):Prop:=∀(g:Nat) fn,P.funcs[g]? =some fn->(fn.name== "runtime.NumGoroutine")=false
def CO(P:Program):List TypeId->List Value->(List Value->Prop)->Prop
 | [],acc,k=>k acc
 |t::ts,acc,k=>Any (lE P t) fun v=>CO P ts (acc++ [v]) k
def LU(P:Program)(ts:List TypeId)(v:Value)(k:Value->Prop):Prop:=
 match ts with
 | [t]=>Any (lE P t) fun u=>v=u/\k u
 |ts=>CO P ts [] fun us=>v=.tuple us.toArray/\k (.tuple us.toArray)
theorem CO.out{P:Program}:∀ {ts:List TypeId} {acc:List Value} {k:List Value->Prop},CO P ts acc k->∃us,k us
 | [],_,_,h=>⟨_,h⟩
 |_::_,_,_,h=>let ⟨_,h⟩:=Any.out h;CO.out h
theorem LU.out{P:Program}{ts:List TypeId}{v:Value}{k:Value->Prop}(h:LU P ts v k):k v:=by
 unfold LU at h;split at h
 ·obtain⟨u,e,h'⟩:=Any.out h;rw [e];exact h'
 ·obtain⟨us,e,h'⟩:=CO.out h;rw [e];exact h'
def bm(P:Program)(g:FuncId)(args:Array Value)(w:World)(k:Value->World->Prop):Prop:=
 Calls P g args w fun e w'=>∃v,e=.returned v/\k v w'
def o9(P:Program)(t:TypeId)(a:Addr)(v:Value)(w:World):Prop:=
 match lE P t with
 | .agg n=>∃cs,v=.agg cs/\cs.size=n/\Cells w a cs
 |_=>w.cell? a=some v
def xV(P:Program)(t:TypeId)(a:Addr)(w:World)(k:Value->Prop):Prop:=
 match lE P t with
 | .agg n=>∃cs:Array Value,(cs.size=n/\Cells w a cs)/\k (.agg cs)
 |d=>Cell d (w.cell? a) k
theorem xV.ok{P:Program}{t:TypeId}{a:Addr}{w:World}{k:Value->Prop}(h:xV P t a w k):∃v,o9 P t a v w/\k v:=by
 unfold xV at h;split at h
 ·rename_i n hn
  obtain⟨cs,⟨h1,h2⟩,h3⟩:=h;exact⟨_,by unfold o9;rw [hn];exact⟨cs,rfl,h1,h2⟩,h3⟩
 ·rename_i d hd
  obtain⟨v,h1,h2⟩:=h.out;refine⟨v,?_,h2⟩;unfold o9;split
  ·rename_i n hn;exact absurd hn (hd n)
  ·exact h1
theorem o9.run{P:Program}{t:TypeId}{a:Addr}{w:World}{v:Value}(h:o9 P t a v w)(hu:(P.underlying t).isSome):(loadVar t a).run P w=.ok v w:=by
 unfold o9 at h;split at h
 ·rename_i n hn
  obtain⟨cs,rfl,h1,h2⟩:=h;obtain⟨rfl,ha⟩:=pK hn;obtain⟨i,hi⟩:=info_of_underlying hu;have hl:=run_loadCells_list (P:=P) w a cs.toList (fun j v hv=>h2 j v (by simpa using hv));have:cs.toList.length=P.cellsOf t:=by simpa using h1
  rw [this]at hl;simp [loadVar,ha w,run_sizeOf hi,hl]
 ·rename_i hd
  simp [loadVar,xg (fun n e=>hd n e) hu w,h]
def Ae(P:Program)(op:BinOp)(t:TypeId)(x y:Value)(w:World)(k:Value->Prop):Prop:=
 match x,y with
 | .pointer p,.pointer q=>
   match op with
   | .eql=>∃b:Bool,(Go.binOp .eql t (.pointer p) (.pointer q)).run P w=.ok (.bool b) w/\k (.bool b)
   | .neq=>∃b:Bool,(Go.binOp .neq t (.pointer p) (.pointer q)).run P w=.ok (.bool b) w/\k (.bool b)
   |_=>False
 |_,_=>False
def wU(P:Program)(t:TypeId)(x ix:Value)(comma:Bool)(w:World)(k:Value->Prop):Prop:=
 match P.underlying t with
 |some (.map _ e)=>
  match comma with
  |false=>Any (lE P e) fun u=>(Instr.lookup t x ix false).run P w=.ok u w/\k u
  |true=>Any (lE P e) fun u=>∃b:Bool,(Instr.lookup t x ix true).run P w=.ok (.tuple #[u,.bool b]) w/\k (.tuple #[u,.bool b])
 |_=>False
def Ak(P:Program)(f:Operand->Value)(c:Call)(ty:TypeId)(w:World)(k:Value->Prop):Prop:=
 match c.callee,c.args.toList,c.argTypes.toList with
 | .builtin .len,[x],[t]=>
   match P.underlying t with
   |some (.map _ _)=>∃n:Nat,(Builtin.len_ #[t] ty #[f x]).run P w=.ok (.int .i64 (n:Int)) w/\k (.int .i64 (n:Int))
   |_=>False
 |_,_,_=>False
def pz(P:Program)(f:Operand->Value)(o:Oper)(w:World)(k:Value->Prop):Prop:=
 match o.op with
 | .load t x=>match f x,P.underlying t with| .pointer (some a),some _=>xV P t a w k|_,_=>False
 | .lookup t x ix comma=>wU P t (f x) (f ix) comma w k
 | .binOp op t x y _=>Ae P op t (f x) (f y) w k
 | .call c=>Ak P f c o.type w k
 |_=>False
def fc(P:Program)(f:Operand->Value)(o:Oper)(v:Value)(w:World):Prop:=
 match o.op with
 | .load t x=>match f x with| .pointer (some a)=>o9 P t a v w|_=>False
 | .lookup t x ix comma=>(Instr.lookup t (f x) (f ix) comma).run P w=.ok v w
 | .binOp op t x y _=>(Go.binOp op t (f x) (f y)).run P w=.ok v w
 | .call c=>(Builtin.len_ c.argTypes o.type (c.args.map f)).run P w=.ok v w
 |_=>False
section
variable{P:Program}{f:Operand->Value}{o:Oper}
theorem nB{w:World}{k:Value->Prop}(h:pz P f o w k):
 ∃v,fc P f o v w/\(∀w',fc P f o v w'->(execOp f o).run P w'=.ok (.value v) w')/\k v:=by
 unfold pz at h;split at h
 ·rename_i t x ho
  split at h
  ·rename_i a d hx hu
   obtain⟨v,h1,h2⟩:=h.ok;refine⟨v,by simp only [fc,ho,hx];exact h1,fun w' hs=>?_,h2⟩;simp only [fc,ho,hx]at hs;simp [execOp,ho,hx,Instr.loadAt,Instr.sureAddr,hs.run (by simp [hu])]
  ·exact h.elim
 ·rename_i t x ix comma ho
  unfold wU at h;split at h
  ·split at h
   ·obtain⟨u,h1,h2⟩:=h.out
    refine⟨u,by simp only [fc,ho];exact h1,fun w' hs=>?_,h2⟩;simp only [fc,ho]at hs;simp only [execOp,ho,Sem.run_bind,hs,Result.andThen_ok,Sem.run_pure]
   ·obtain⟨u,b,h1,h2⟩:=h.out
    refine⟨_,by simp only [fc,ho];exact h1,fun w' hs=>?_,h2⟩;simp only [fc,ho]at hs;simp only [execOp,ho,Sem.run_bind,hs,Result.andThen_ok,Sem.run_pure]
  ·exact h.elim
 ·rename_i op t x y yt ho
  unfold Ae at h;split at h
  ·rename_i p q hp hq
   have hg:∀(op:BinOp) (w:World),(eqGuard op t x y (f x) (f y)).run P w=.ok () w:=fun op w=>by rw [hp,hq];unfold eqGuard;simp
   have key:∀(XT:BinOp) (b:Bool),op=XT->(Go.binOp XT t (.pointer p) (.pointer q)).run P w=.ok (.bool b) w->k (.bool b)->
    ∃v,fc P f o v w/\(∀w',fc P f o v w'->(execOp f o).run P w'=.ok (.value v) w')/\k v:=by
    rintro _ b rfl h1 h2;refine⟨.bool b,by simp only [fc,ho];rw [hp,hq];exact h1,fun w' hs=>?_,h2⟩;simp only [fc,ho]at hs;simp only [execOp,ho,Sem.run_bind,hg,hs,Result.andThen_ok,Sem.run_pure]
   split at h
   ·obtain⟨b,h1,h2⟩:=h
    exact key _ b rfl h1 h2
   ·obtain⟨b,h1,h2⟩:=h
    exact key _ b rfl h1 h2
   ·exact h.elim
  ·exact h.elim
 ·rename_i c ho
  unfold Ak at h;split at h
  ·rename_i x t hc ha ht
   split at h
   ·obtain⟨n,h1,h2⟩:=h
    have ea:c.args= #[x]:=by apply Array.ext';simpa using ha
    have et:c.argTypes= #[t]:=by apply Array.ext';simpa using ht
    refine⟨_,by simpa [fc,ho,ea,et]using h1,fun w' hs=>?_,h2⟩;simp only [fc,ho]at hs;simp only [execOp,ho,resolve,hc,invoke,builtin,Sem.run_bind,Sem.run_pure,hs,Result.andThen_ok]
   ·exact h.elim
  ·exact h.elim
 ·exact h.elim
end
def Wr(w:World)(a:Addr):Prop:=(∃v,w.cell? a=some v)/\w.frozen? a=false
def setCells(w:World)(a:Addr):List Value->Nat->World
 | [],_=>w
 |v::r,i=>setCells (w.setCell (a.add i) v) a r (i+1)
def oh(size:Nat):List Value->Prop->Prop
 | [],k=>k
 | .agg cs::r,k=>cs.size=size/\oh size r k
 |_::r,k=>match Nat.beq size 1 with|true=>oh size r k|false=>False
def Fu(P:Program)(t:TypeId)(a:Addr)(v:Value)(w:World)(k:World->Prop):Prop:=
 match lE P t,v with
 | .agg n,.agg cs=>(cs.size=n/\(∀c∈cs.toList,c.oneCell'=true)/\∀j,j<n->Wr w (a.add j))/\k (setCells w a cs.toList 0)
 | .agg _,_=>False
 |_,v=>match v.oneCell',P.info? t with
  |true,some inf=>match inf.size with
   |1=>Wr w a/\k (w.setCell a v)
   |_=>False
  |_,_=>False
def Bb(P:Program)(g:FuncId)(args:Array Value)(w:World)(k:Value->World->Prop):Prop:=
 ∃v w',(callFunc g args).run P w=.ok (.value v) w'/\k v w'
def ju(P:Program)(l:Nat)(args:Array Value)(w:World)(R:Bool->World->Prop):Prop:=
 ∃g tmps assign body,(Instr.yield l args).run P w=.ok (.round l g tmps assign body) w/\
  ∀r m,RoundIn (FR r) m P l g tmps assign body w fun e w'=>∃b:Bool,e=.returned (.bool b)/\R b w'
def jP(P:Program)(fv:Value)(args:List Value)(w:World)(k:Value->World->Prop):Prop:=
 match fv with
 | .func (.func g) first fi=>
   match P.funcs[g]? with
   |some fn=>match fn.body with
    |some _=>bm P g (first.toList++args++fi.toList).toArray w fun v w'=>LU P fn.resultTypes.toList v fun v=>k v w'
    |none=>Bb P g (first.toList++args++fi.toList).toArray w fun v w'=>LU P fn.resultTypes.toList v fun v=>k v w'
   |none=>False
 | .func (.yield l) first _=>ju P l (first.toList++args).toArray w fun b w'=>k (.bool b) w'
 |_=>False
def sC(s:Nat):List Oper->Bool
 | []=>false
 |o::r=>match o.dst,o.op with
  |some d,.load .. =>Nat.beq d s||sC s r
  |_,_=>sC s r
def Bc(P:Program)(v:Value)(args:List Value)(rt:TypeId)(w:World)(k:Value->World->Prop):Prop:=
 ∃(g:Nat) (first fi:Array Value) (fn:Func),v=.func (.func g) first fi/\P.funcs[g]? =some fn/\fn.body.isSome=true/\
  bm P g (first.toList++args++fi.toList).toArray w fun r w'=>Any (lE P rt) fun u=>r=u/\k u w'
def rQ(P:Program)(ops:Array Oper)(f:Operand->Value)(o:Oper)(w:World)(k:Value->World->Prop):Prop:=
 match o.op with
 | .alloc t=>Is (P.info? t) fun i=>Is i.zero fun z=>k (.pointer (some ⟨w.heap.size,0,none⟩)) (w.alloc (.cells z.cells t))
 | .box t x=>k (.pointer (some ⟨w.heap.size,0,none⟩)) (w.alloc (.cells (f x).cells t))
 | .buildSlice t len parts=>
   match P.underlying t with
   |some (.slice e)=>Is (P.info? e) fun i=>Is i.zero fun z=>
    match Nat.beq len 0 with
    |true=>match parts.toList with
     | []=>k (.slice (some ⟨w.heap.size,0,none⟩) 0 0) (w.alloc (.cells #[] e))
     |_=>False
    |false=>match Nat.ble (len*i.size) 16777216&&Nat.beq z.cells.size i.size&&Nat.ble 1 i.size&&Nat.ble 1 len&&(parts.toList.map (·.1)==List.range len)with
    |true=>oh i.size (parts.toList.map fun p=>f p.2)
      (k (.slice (some ⟨w.heap.size,0,none⟩) len len) (w.alloc (.cells ((parts.toList.map fun p=>f p.2).flatMap fun v=>v.cells.toList).toArray e)))
    |false=>False
   |_=>False
 | .store t x y=>match f x with| .pointer (some a)=>Fu P t a (f y) w (k undef)|_=>False
 | .makeSlice t l c=>Rr P (Instr.makeSlice t (f l) (f c)) w k
 | .makeMap t r=>match r with|none=>k (.map (some w.heap.size)) (w.alloc (.map #[] 0))|some _=>Xo P (Instr.makeMap t (r.map f)) w k
 | .mapUpdate t m x y=>DoU P (Instr.mapUpdate t (f m) (f x) (f y)) w k
 | .insert t m x y=>DoU P (Instr.mapUpdate t (f m) (f x) (f y)) w k
 | .range t x=>DoP P (Instr.range t (f x)) w k
 | .next x b=>Xp P (Instr.next (f x) b o.type) w k
 | .entry x=>HQ P (HI o.dst 0 ops.toList) fun a=>HQ P (HI o.dst 1 ops.toList) fun b=>(Instr.entry (f x)).run P w=.ok (.tuple #[a,b]) w/\k (.tuple #[a,b]) w
 | .call c=>
   match c.callee with
   | .value g=>match g with
     | .tmp s=>match sC s ops.toList with
       |true=>Bc P (f (.tmp s)) (c.args.toList.map f) o.type w k
       |false=>jP P (f (.tmp s)) (c.args.toList.map f) w k
     |g=>jP P (f g) (c.args.toList.map f) w k
   | .builtin .append=>Rr P (Builtin.append_ c.argTypes o.type (c.args.toList.map f).toArray) w k
   | .builtin .copy=>Xo P (Builtin.copy_ c.argTypes o.type (c.args.toList.map f).toArray) w k
   | .builtin .clear=>Xo P (Builtin.clear_ c.argTypes o.type (c.args.toList.map f).toArray) w k
   |_=>False
 |_=>False
def zP(P:Program)(f:Operand->Value)(o:Oper)(w:World)(k:Value->World->Prop):Prop:=
 (∃v w',(execOp f o).run P w=.ok (.value v) w'/\k v w')\/(∃w',(execOp f o).run P w=.ok .skip w'/\k undef w')\/
 (∃g args,(execOp f o).run P w=.ok (.enter g args) w/\bm P g args w k)\/
 (∃l g tmps assign body,(execOp f o).run P w=.ok (.round l g tmps assign body) w/\∀r m,RoundIn (FR r) m P l g tmps assign body w fun e w'=>∃v,e=.returned v/\k v w')
section
variable{P:Program}{f:Operand->Value}{o:Oper}{w:World}{k:Value->World->Prop}
theorem qJ{size:Nat}{K:Prop}:∀ {vs:List Value},oh size vs K->(∀v∈vs,v.cells.size=size)/\K
 | [],h=>⟨by simp,h⟩
 |v::r,h=>by
  have key:v.cells.size=size/\oh size r K:=by
   cases v<;>simp only [oh]at h
   case agg cs=>exact⟨by simpa [Value.cells]using h.1,h.2⟩
   all_goals
    split at h
    ·rename_i hb
     exact⟨by have:=Nat.eq_of_beq_eq_true hb;simp [Value.cells,this],h⟩
    ·exact h.elim
  obtain⟨h1,h2⟩:=qJ key.2;exact⟨by intro u hu;rcases List.mem_cons.1 hu with rfl|hu;exact key.1;exact h1 u hu,h2⟩
theorem gE(a:Addr):∀(vs:List Value) (i:Nat) (w:World),(∀c∈vs,c.oneCell'=true)->(∀j,j<vs.length->Wr w (a.add (i+j)))->
 (storeCells a vs i).run P w=.ok () (setCells w a vs i)
 | [],_,_,_,_=>rfl
 |v::r,i,w,h1,hw=>by
  obtain⟨⟨u,hu⟩,hf⟩:=hw 0 (by simp);rw [Nat.add_zero]at hu hf;have hv:v.oneCell'=true:=h1 v (by simp);have ou:(store (a.add i) v).run P w=.ok () (w.setCell (a.add i) v):=by
   rw [run_store P w _ v _ hv];simp [hu,hf]
  rw [storeCells,Sem.run_bind,ou];simp only [Result.andThen_ok,setCells];refine gE a r (i+1) _ (fun c hc=>h1 c (by simp [hc])) fun j hj=>?_;obtain⟨⟨u',GZ⟩,hf'⟩:=hw (j+1) (by simp;omega);rw [show i+1+j=i+(j+1)from by omega];refine⟨?_,by rw [World.frozen?_setCell];exact hf'⟩;by_cases e:a.add i=a.add (i+(j+1))
  ·exact⟨v,by rw [<-e];exact World.cell?_setCell_same w _ _ hu⟩
  ·exact⟨u',by rw [World.cell?_setCell_other w _ _ _ e];exact GZ⟩
theorem lM{g:FuncId}{first fi:Array Value}{c:Call}{x:Operand}{t:TypeId}(hc:c.callee=.value x)(hx:f x=.func (.func g) first fi){fn:Func}(hf:P.funcs[g]? =some fn)(hb:fn.body.isSome)
 (lF:NG P):(do let d<-resolve f c t;invoke d.target d.args:Sem Next).run P w=.ok (.enter g (first++c.args.map f++fi)) w:=by
 have hn:=lF g fn hf;have ub:fn.body.isNone=false:=by cases Cn:fn.body<;>simp_all
 simp only [resolve,hc,hx,Deferred.ofValue,Sem.run_bind,Sem.run_pure,Result.andThen_ok,invoke,callFunc,run_program,hf,hn,ub,Bool.false_eq_true,if_false]
theorem mF{fn:Fn}{first fi:Array Value}{c:Call}{x:Operand}{t:TypeId}(hc:c.callee=.value x)(hx:f x=.func fn first fi):
 (do let d<-resolve f c t;invoke d.target d.args:Sem Next).run P w=(invoke (.fn fn fi) (first++c.args.map f)).run P w:=by
 simp only [resolve,hc,hx,Deferred.ofValue,Sem.run_bind,Sem.run_pure,Result.andThen_ok]
theorem xO{t:Option TypeId}{k:Value->Prop}(h:HQ P t k):∃v,k v:=by
 unfold HQ at h;split at h
 ·exact h.out
 ·exact h
set_option maxHeartbeats 400000 in
theorem oM{ops:Array Oper}(lF:NG P)(h:rQ P ops f o w k):zP P f o w k:=by
 unfold rQ at h;split at h
 ·rename_i t ho
  obtain⟨i,hi,h⟩:=h.out;obtain⟨z,hz,h⟩:=h.out;exact .inl ⟨_,_,by simp [execOp,ho,Instr.alloc,zeroValue,typeInfo,hi,hz,newVar,newRow],h⟩
 ·rename_i t x ho
  exact .inl ⟨_,_,by simp [execOp,ho,Instr.box,newVar,newRow],h⟩
 ·rename_i t len parts ho
  split at h
  ·rename_i e he
   obtain⟨i,hi,hA⟩:=h.out;obtain⟨z,hz,hB⟩:=hA.out;clear h hA;split at hB
   ·rename_i h0
    have h0:=Nat.eq_of_beq_eq_true h0;subst h0;split at hB
    ·rename_i hp
     refine .inl ⟨_,_,?_,hB⟩;have G9:parts= #[]:=by apply Array.ext';simpa using hp
     simp [execOp,ho,G9,Instr.buildSlice,run_underlying he,sizeOf,typeInfo,hi,newRow,Instr.fill,show Array.range 0= #[]from rfl]
    ·exact hB.elim
   rename_i h0;have h:=hB;clear hB;split at h
   ·rename_i hb
    simp only [Bool.and_eq_true,Nat.ble_eq,beq_iff_eq]at hb;obtain⟨⟨⟨⟨Cb,FD⟩,ko⟩,hlen⟩,Ew⟩:=hb;have FD:=Nat.eq_of_beq_eq_true FD;obtain⟨nN,h⟩:=qJ h;have T3:(parts.toList.map fun p=>f p.2).length=len:=by
     have:=congrArg List.length Ew;simpa using this
    have P0:=Great.fill_whole (s:=i.size) ko (parts.toList.map fun p=>f p.2) ((Array.range (len*i.size)).map (z.cells[· %z.cells.size]!)) nN (by rw [T3];simp);have hp:(parts.map fun(i,x)=>(i,f x)).toList=((parts.toList.map fun p=>f p.2).zipIdx 0).map fun x=>(x.2,x.1):=by
     apply List.ext_getElem?;intro j;have hj:=congrArg (fun l:List Nat=>l[j]?) Ew;simp only [List.getElem?_map,Array.getElem?_toList]at hj;simp only [Array.toList_map,List.getElem?_map,List.getElem?_zipIdx,Array.getElem?_toList];cases YW:parts[j]? with
     |none=>simp
     |some p=>
      rw [YW]at hj;obtain⟨p1,p2⟩:=p;simp only [Option.map_some]at hj;obtain⟨cK,e⟩:=lgeS hj.symm;simp at e;subst e;simp
    have hr:=run_buildSlice (P:=P) w t e len (parts.map fun(i,x)=>(i,f x)) _ i z he hi hz (by omega) (by have:=Nat.mul_pos (show 0<len from hlen) (show 0<i.size from ko);omega) (by rw [hp];exact P0);exact .inl ⟨_,_,by simp only [execOp,ho,Sem.run_bind,hr,Result.andThen_ok,Sem.run_pure],h⟩
   ·exact h.elim
  ·exact h.elim
 ·rename_i t x y ho
  split at h
  ·rename_i a hx
   unfold Fu at h;split at h
   ·rename_i n cs hn hy
    obtain⟨⟨h1,h2,h3⟩,h⟩:=h;obtain⟨rfl,ha⟩:=pK hn;have hu:(P.underlying t).isSome:=by
     unfold lE at hn;split at hn<;>simp_all
    obtain⟨i,hi⟩:=info_of_underlying hu;refine .inr (.inl ⟨_,?_,h⟩);have ou:=gE (P:=P) a cs.toList 0 w h2 (fun j hj=>by rw [Nat.zero_add];exact h3 j (by rw [<-h1];simpa using hj));simp [execOp,ho,hx,hy,Instr.storeAt,Instr.sureAddr,storeVar,Value.cells,run_sizeOf hi,h1,ou]
   ·exact h.elim
   ·rename_i v hk hv
    split at h
    ·rename_i inf h1 hi
     split at h
     ·rename_i hs
      obtain⟨hw,h⟩:=h;refine .inr (.inl ⟨_,?_,h⟩);have hc:(f y).cells= #[f y]:=by cases hfy:f y<;>first|rfl|(simp [hfy,Value.oneCell']at h1)
      have ou:=gE (P:=P) a [f y] 0 w (by simpa using h1) (fun j hj=>by
       have:j=0:=by simpa using hj
       subst this;simpa [Addr.add]using hw)
      have Wh:setCells w a [f y] 0=w.setCell a (f y):=by simp [setCells,Addr.add]
      rw [Wh]at ou;simp [execOp,ho,hx,Instr.storeAt,Instr.sureAddr,storeVar,hc,sizeOf,typeInfo,hi,hs,ou]
     ·exact h.elim
    ·exact h.elim
  ·exact h.elim
 ·rename_i t l c ho
  obtain⟨A,n,m,w',hr,h⟩:=h;exact .inl ⟨_,_,by simp only [execOp,ho,Sem.run_bind,hr,Result.andThen_ok,Sem.run_pure],h⟩
 ·rename_i t r ho
  split at h
  ·exact .inl ⟨_,_,by simp [execOp,ho,Instr.makeMap],h⟩
  ·obtain⟨v,w',hr,h⟩:=h
   exact .inl ⟨_,_,by simp only [execOp,ho,Sem.run_bind,hr,Result.andThen_ok,Sem.run_pure],h⟩
 ·rename_i t m x y ho
  obtain⟨w',hr,h⟩:=h;exact .inr (.inl ⟨_,by simp only [execOp,ho,Sem.run_bind,hr,Result.andThen_ok,Sem.run_pure],h⟩)
 ·rename_i t m x y ho
  obtain⟨w',hr,h⟩:=h;exact .inr (.inl ⟨_,by simp only [execOp,ho,Sem.run_bind,hr,Result.andThen_ok,Sem.run_pure],h⟩)
 ·rename_i t x ho
  obtain⟨v,w',hr,h⟩:=h;exact .inl ⟨_,_,by simp only [execOp,ho,Sem.run_bind,hr,Result.andThen_ok,Sem.run_pure],h⟩
 ·rename_i x b ho
  rcases h with⟨w',hr,h⟩|⟨a,b',w',hr,h⟩
  ·exact .inl ⟨_,_,by simp only [execOp,ho,Sem.run_bind,hr,Result.andThen_ok,Sem.run_pure],h⟩
  ·exact .inl ⟨_,_,by simp only [execOp,ho,Sem.run_bind,hr,Result.andThen_ok,Sem.run_pure],h⟩
 ·rename_i x ho
  obtain⟨a,h⟩:=xO h;obtain⟨b,hr,h⟩:=xO h;exact .inl ⟨_,_,by simp only [execOp,ho,Sem.run_bind,hr,Result.andThen_ok,Sem.run_pure],h⟩
 ·rename_i c ho
  split at h
  ·rename_i g hc
   have h:Bc P (f g) (c.args.toList.map f) o.type w k\/jP P (f g) (c.args.toList.map f) w k:=by
    split at h
    ·split at h
     ·exact .inl h
     ·exact .inr h
    ·exact .inr h
   rcases h with h|h
   ·obtain⟨g',first,fi,fn,hg,hf,hb,h⟩:=h
    refine .inr (.inr (.inl ⟨g',first++c.args.map f++fi,?_,?_⟩))
    ·have:=lM (P:=P) (w:=w) (t:=o.type) hc hg hf hb lF
     simpa only [execOp,ho]using this
    ·have e:first++c.args.map f++fi=(first.toList++c.args.toList.map f++fi.toList).toArray:=by
      apply Array.ext';simp
     rw [e];exact Calls.mono h fun e w' ⟨v,he,hr⟩=>by
      obtain⟨u,hu,hk⟩:=hr.out;subst hu;exact⟨_,he,hk⟩
   unfold jP at h;split at h
   ·rename_i g' first fi hg
    split at h
    ·rename_i fn hf
     split at h
     ·rename_i b hb
      refine .inr (.inr (.inl ⟨g',first++c.args.map f++fi,?_,?_⟩))
      ·have:=lM (P:=P) (w:=w) (t:=o.type) hc hg hf (by simp [hb]) lF
       simpa only [execOp,ho]using this
      ·have e:first++c.args.map f++fi=(first.toList++c.args.toList.map f++fi.toList).toArray:=by
        apply Array.ext';simp
       rw [e];exact Calls.mono h fun e w' ⟨v,he,hr⟩=>⟨v,he,hr.out⟩
     ·obtain⟨v,w',hr,hk⟩:=h
      refine .inl ⟨v,w',?_,hk.out⟩;have e:first++c.args.map f++fi=(first.toList++c.args.toList.map f++fi.toList).toArray:=by
       apply Array.ext';simp
      have h2:(invoke (.fn (.func g') fi) (first++c.args.map f)).run P w=.ok (.value v) w':=by simp only [invoke,e,hr]
      have:=(mF (P:=P) (w:=w) (t:=o.type) hc hg).trans h2;simpa only [execOp,ho]using this
    ·exact h.elim
   ·rename_i l first fi hg
    obtain⟨g',tmps,assign,body,hr,oY⟩:=h;refine .inr (.inr (.inr ⟨l,g',tmps,assign,body,?_,fun r m=>RoundIn.mono (oY r m) fun e w' ⟨b,he,hk⟩=>⟨_,he,hk⟩⟩));have e:first++c.args.map f=(first.toList++c.args.toList.map f).toArray:=by
     apply Array.ext';simp
    have h2:(invoke (.fn (.yield l) fi) (first++c.args.map f)).run P w=.ok (.round l g' tmps assign body) w:=by simp only [invoke,e,hr]
    have:=(mF (P:=P) (w:=w) (t:=o.type) hc hg).trans h2;simpa only [execOp,ho]using this
   ·exact h.elim
  ·rename_i hc
   obtain⟨A,n,m,w',hr,h⟩:=h;rw [toArray_map]at hr;exact .inl ⟨_,_,by simp only [execOp,ho,resolve,hc,invoke,builtin,Sem.run_bind,Sem.run_pure,hr,Result.andThen_ok],h⟩
  ·rename_i hc
   obtain⟨v,w',hr,h⟩:=h;rw [toArray_map]at hr;exact .inl ⟨_,_,by simp only [execOp,ho,resolve,hc,invoke,builtin,Sem.run_bind,Sem.run_pure,hr,Result.andThen_ok],h⟩
  ·rename_i hc
   obtain⟨v,w',hr,h⟩:=h;rw [toArray_map]at hr;exact .inl ⟨_,_,by simp only [execOp,ho,resolve,hc,invoke,builtin,Sem.run_bind,Sem.run_pure,hr,Result.andThen_ok],h⟩
  ·exact h.elim
 ·exact h.elim
end
abbrev Env:=List (Nat×Value)
def find:Env->Nat->Option Value
 | [],_=>none
 |(j,v)::ρ,i=>bif Nat.beq j i then some v else find ρ i
def put:Env->Nat->Value->Env
 | [],i,v=> [(i,v)]
 |(j,u)::ρ,i,v=>bif Nat.beq j i then(i,v)::ρ else bif Nat.blt i j then(i,v)::(j,u)::ρ else(j,u)::put ρ i v
def yH:List Nat->Nat->Bool
 | [],_=>false
 |j::l,i=>bif Nat.beq j i then true else yH l i
def fR:Nat:=4294967296
def aK(ks:List Nat):Env->Env
 | []=> []
 |(j,v)::ρ=>bif yH ks j||Nat.beq j fR then(j,v)::aK ks ρ else aK ks ρ
theorem jO(ρ:Env)(i:Nat)(v:Value)(k:Nat):find (put ρ i v) k=if i=k then some v else find ρ k:=by
 induction ρ with
 |nil=>
  simp only [put,find];cases hb:Nat.beq i k
  ·rw [if_neg (Nat.ne_of_beq_eq_false hb)];rfl
  ·rw [if_pos (Nat.eq_of_beq_eq_true hb)];rfl
 |cons p ρ ih=>
  obtain⟨j,u⟩:=p;simp only [put];cases h1:Nat.beq j i
  ·simp only [cond_false]
   cases h2:Nat.blt i j
   ·simp only [cond_false,find,ih]
    cases h3:Nat.beq j k
    ·simp
    ·have e3:=Nat.eq_of_beq_eq_true h3
     have e1:=Nat.ne_of_beq_eq_false h1;subst e3;have e2:¬i=j:=fun e=>e1 e.symm;simp [e2]
   ·simp only [cond_true,find]
    cases h3:Nat.beq i k
    ·rw [if_neg (Nat.ne_of_beq_eq_false h3)];rfl
    ·rw [if_pos (Nat.eq_of_beq_eq_true h3)];rfl
  ·have e1:=Nat.eq_of_beq_eq_true h1
   subst e1;simp only [cond_true,find];cases h3:Nat.beq j k
   ·rw [if_neg (Nat.ne_of_beq_eq_false h3)];rfl
   ·rw [if_pos (Nat.eq_of_beq_eq_true h3)];rfl
theorem sF(ks:List Nat):∀(ρ:Env) (i:Nat) (v:Value),find (aK ks ρ) i=some v->(yH ks i||Nat.beq i fR)=true
 | [],_,_,h=>by simp [aK,find]at h
 |(j,u)::ρ,i,v,h=>by
  simp only [aK]at h;cases hm:(yH ks j||Nat.beq j fR)
  ·rw [hm]at h
   exact sF ks ρ i v h
  ·rw [hm]at h
   simp only [cond_true,find]at h;cases hb:Nat.beq j i
   ·rw [hb]at h;exact sF ks ρ i v h
   ·rw [<-Nat.eq_of_beq_eq_true hb];exact hm
theorem qu(ks:List Nat):∀(ρ:Env) (i:Nat) (v:Value),find (aK ks ρ) i=some v->find ρ i=some v
 | [],_,_,h=>by simp [aK,find]at h
 |(j,u)::ρ,i,v,h=>by
  have jX:=sF ks ((j,u)::ρ) i v h;simp only [aK]at h;simp only [find];cases hb:Nat.beq j i
  ·simp only [cond_false]
   cases hm:(yH ks j||Nat.beq j fR)
   ·rw [hm]at h;exact qu ks ρ i v h
   ·rw [hm]at h
    simp only [cond_true,find,hb,cond_false]at h;exact qu ks ρ i v h
  ·have e:=Nat.eq_of_beq_eq_true hb
   subst e;rw [jX]at h;simpa [find,hb]using h
theorem uN(ks:List Nat):∀(ρ:Env),find (aK ks ρ) fR=find ρ fR
 | []=>rfl
 |(j,u)::ρ=>by
  have ih:=uN ks ρ;simp only [aK];cases hb:Nat.beq j fR
  ·cases hm:yH ks j
   ·simp only [Bool.or_false,cond_false,find,hb];exact ih
   ·simp only [Bool.true_or,cond_true,find,hb,cond_false];exact ih
  ·simp only [Bool.or_true,cond_true,find,hb]
def marksOf:Value->List Nat
 | .agg cs=>cs.toList.filterMap fun| .pointer (some a)=>some a.block|_=>none
 |_=> []
def marks(ρ:Env):List Deferred:=
 match find ρ fR with
 |some v=>(marksOf v).map fun D=> {target:=.collected D,args:= #[]}
 |none=> []
structure Sat(n:Nat)(ds:List Deferred)(ρ:Env)(a:Act):Prop where
 size:a.tmps.size=n
 defers:a.defers=marks ρ++ds
 wh:∀i v,i≠fR->find ρ i=some v->a.tmps.getD i undef=v
def si(ρ:Env):Operand->Option Value
 | .tmp t=>bif Nat.beq t fR then none else find ρ t
 | .const v=>some v
 | .global g=>some (.pointer (some ⟨g,0,none⟩))
 | .func f=>some (.func (.func f) #[] #[])
def eval(ρ:Env)(x:Operand):Value:=(si ρ x).getD undef
def rK(ρ:Env):List Operand->Bool
 | []=>true
 |x::l=>bif (si ρ x).isSome then rK ρ l else false
def kO(o:Oper):Bool:=match o.op with| .select .. | .defer _=>false|_=>true
def known(ρ:Env)(o:Oper):Bool:=bif kO o then rK ρ o.op.operands.toList else false
def sd(n:Nat)(ρ:Env)(d:Option Tmp)(v:Value)(K:Env->Prop):Prop:=
 match d with
 |none=>K ρ
 |some d=>match Nat.blt d n&& !Nat.beq d fR with
  |true=>K (put ρ d v)
  |false=>False
def guarded(ops:Array Oper)(n:Nat)(o:Oper)(ρ:Env)(yes no:Env->Prop):Prop:=
 match o.guard with
 |none=>yes ρ
 |some (j,want)=>
  match (ops[j]?).bind (·.dst)with
  |some d=>match Nat.blt d n&& !Nat.beq d fR,find ρ d with
   |true,some (.bool b)=>Split b (match want with|true=>yes (put ρ d (.bool true))|false=>no (put ρ d (.bool true))) (match want with|true=>no (put ρ d (.bool false))|false=>yes (put ρ d (.bool false)))
   |true,some (.tuple _)=>no ρ
   |_,_=>False
  |none=>False
inductive Cls where|pure|read|MH
def Ko(P:Program)(t:TypeId):Bool:=match P.underlying t with|some (.pointer _)=>true|_=>false
def cls(P:Program)(o:Oper):Cls:=
 match o.op with
 | .load .. =>.read
 | .lookup .. =>.read
 | .binOp _ t _ y _=>match y with| .const _=>.pure |_=>match Ko P t with|true=>.read |false=>.pure
 | .alloc .. | .box .. | .buildSlice .. | .store .. | .makeSlice .. | .makeMap .. | .mapUpdate .. | .insert .. | .range .. | .next .. | .entry .. =>.MH
 | .call c=>match c.callee with| .builtin .len=>(match c.argTypes.toList with| [t]=>(match P.underlying t with|some (.map _ _)=>.read |_=>.pure)|_=>.pure)|_=>.MH
 |_=>.pure
def yF(P:Program)(n:Nat)(ops:Array Oper)(ρ:Env)(o:Oper)(w:World)(K:Env->World->Prop):Prop:=
 bif known ρ o then
  match cls P o with
  | .pure=>pB P (eval ρ) o fun v=>sd n ρ o.dst v fun iR=>K iR w
  | .read=>pz P (eval ρ) o w fun v=>sd n ρ o.dst v fun iR=>K iR w
  | .MH=>rQ P ops (eval ρ) o w fun v w'=>sd n ρ o.dst v fun iR=>K iR w'
 else False
def Gt(P:Program)(n:Nat)(ops:Array Oper):List Oper->Env->World->(Env->World->Prop)->Prop
 | [],ρ,w,K=>K ρ w
 |o::os,ρ,w,K=>
  guarded ops n o ρ (fun ρ=>yF P n ops ρ o w fun iR w'=>Gt P n ops os iR w' K)
   (fun ρ=>sd n ρ o.dst undef fun iR=>Gt P n ops os iR w K)
section
variable{P:Program}{n:Nat}{ds:List Deferred}{r:Option Nat}
theorem BS{ρ:Env}{d:Nat}{v:Value}(hd:d≠fR):marks (put ρ d v)=marks ρ:=by
 unfold marks;rw [jO,if_neg hd]
theorem Sat.put{ρ:Env}{a:Act}(h:Sat n ds ρ a){d:Nat}{v:Value}(hd:d<n)(hk:d≠fR):Sat n ds (put ρ d v) (a.put (some d) v):=by
 refine⟨by simp [Act.put,h.size],by rw [BS hk];exact h.defers,fun i u fJ hi=>?_⟩;rw [jO]at hi;by_cases e:d=i
 ·subst e
  rw [if_pos rfl]at hi;cases hi;simp [Act.put,h.size,hd]
 ·rw [if_neg e]at hi
  have:=h.wh i u fJ hi;simpa [Act.put,Array.getElem?_setIfInBounds_ne e]using this
theorem Sat.mono{ρ iR:Env}{a:Act}(h:Sat n ds ρ a)(hd:find iR fR=find ρ fR)(hs:∀i v,find iR i=some v->find ρ i=some v):Sat n ds iR a:=
 ⟨h.size,by rw [h.defers];unfold marks;rw [hd],fun i v fJ hi=>h.wh i v fJ (hs i v hi)⟩
theorem Sat.aK{ρ:Env}{a:Act}(h:Sat n ds ρ a)(ks:List Nat):Sat n ds (aK ks ρ) a:=h.mono (uN ks ρ) (qu ks ρ)
theorem Sat.same{ρ:Env}{a:Act}(h:Sat n ds ρ a){d:Nat}{v:Value}(hk:d≠fR)(hd:find ρ d=some v):Sat n ds (bE.put ρ d v) a:=by
 refine h.mono (by rw [jO,if_neg hk]) fun i u hi=>?_;rw [jO]at hi;by_cases e:d=i
 ·subst e;rw [if_pos rfl]at hi;rw [hd];exact hi
 ·rwa [if_neg e]at hi
theorem sh{ρ:Env}{a:Act}(h:Sat n ds ρ a){x:Operand}(hx:(si ρ x).isSome):a.eval x=eval ρ x:=by
 cases x with
 |tmp t=>
  obtain⟨v,hv⟩:=Option.isSome_iff_exists.1 hx;simp only [si]at hv;cases hb:Nat.beq t fR
  ·rw [hb]at hv
   simp only [cond_false]at hv;simp only [eval,si,hb,cond_false,hv,Option.getD_some,Act.eval];exact h.wh t v (Nat.ne_of_beq_eq_false hb) hv
  ·rw [hb]at hv
   cases hv
 |const v=>rfl
 |global g=>rfl
 |func f=>rfl
theorem qP{ρ:Env}:∀ {l:List Operand},rK ρ l=true->∀x∈l,(si ρ x).isSome
 | [],_,x,hx=>by cases hx
 |y::l,h,x,hx=>by
  simp only [rK]at h;cases hy:(si ρ y).isSome
  ·rw [hy]at h;simp at h
  ·rw [hy]at h
   rcases List.mem_cons.1 hx with rfl|hx
   ·exact hy
   ·exact qP h x hx
theorem oV{ρ:Env}{a:Act}(h:Sat n ds ρ a){o:Oper}(hk:known ρ o=true):execOp a.eval o=execOp (eval ρ) o:=by
 unfold known at hk;cases hn:kO o
 ·rw [hn]at hk;simp at hk
 ·rw [hn]at hk
  refine execOp_congr o (fun cs b e=>by simp [kO,e]at hn) fun x hx=>sh h (qP hk x (by simpa using hx))
theorem oL{ρ:Env}{o:Oper}(hk:known ρ o=true):∀c,o.op≠ .defer c:=by
 intro c e;simp [known,kO,e]at hk
theorem fH{ρ:Env}{a:Act}{d:Option Tmp}{v:Value}{K:Env->Prop}(h:Sat n ds ρ a)(hp:sd n ρ d v K):
 ∃iR,Sat n ds iR (a.put d v)/\K iR:=by
 cases d with
 |none=>exact⟨ρ,h,hp⟩
 |some d=>
  simp only [sd]at hp;split at hp
  ·rename_i hb
   simp only [Bool.and_eq_true,Bool.not_eq_true']at hb;exact⟨_,h.put (Nat.le_of_ble_eq_true hb.1) (Nat.ne_of_beq_eq_false hb.2),hp⟩
  ·exact hp.elim
theorem tq{m:Nat}{f:FuncId}{args:Array Value}{w:World}{R:Ending->World->Prop}(h:Calls P f args w R):CallsIn (FR r) m P f args w R:=
 callsIn_wide.2 h
theorem zP.wpIn{m:Nat}{o:Oper}{a:Act}{w:World}{k:Value->World->Prop}{K:Act->World->Prop}{Q:Exit->Act->World->Prop}
 (hd:∀c,o.op≠ .defer c) (h:zP P a.eval o w k) (hk:∀v w',k v w'->K (a.put o.dst v) w'):o.wpIn (FR r) m P a w K Q:=by
 refine⟨fun _ _=>trivial,?_⟩;rw [Oper.semAt_eq _ _ _ hd];rcases h with⟨v,w',hr,h⟩|⟨w',hr,h⟩|⟨g,args,hr,h⟩|⟨l,g,tmps,assign,body,hr,h⟩
 ·rw [hr];exact hk _ _ h
 ·rw [hr];exact hk _ _ h
 ·rw [hr]
  refine⟨fun h=>by simp at h,tq (Calls.mono h ?_)⟩;rintro e w' ⟨v,rfl,hv⟩;exact hk _ _ hv
 ·rw [hr]
  refine⟨fun h=>by simp at h,RoundIn.mono (h r _) ?_⟩;rintro e w' ⟨v,rfl,hv⟩;exact hk _ _ hv
theorem wJ{ops:Array Oper}(lF:NG P){ρ:Env}{a:Act}{o:Oper}{w:World}{K:Env->World->Prop}(hs:Sat n ds ρ a)(h:yF P n ops ρ o w K):
 (∀c,o.op≠ .defer c)/\zP P a.eval o w fun v w'=>∃iR,Sat n ds iR (a.put o.dst v)/\K iR w':=by
 unfold yF at h;cases hk:known ρ o
 ·rw [hk]at h;exact h.elim
 ·rw [hk,cond_true]at h
  refine⟨oL hk,?_⟩;have he:=oV hs hk;unfold zP;rw [he];cases hc:cls P o<;>rw [hc]at h
  ·obtain⟨v,hv,h⟩:=nC h
   exact .inl ⟨v,w,hv w,fH hs h⟩
  ·obtain⟨v,h1,h2,h⟩:=nB h
   exact .inl ⟨v,w,h2 w h1,fH hs h⟩
  ·rcases oM lF h with⟨v,w',hr,h⟩|⟨w',hr,h⟩|⟨g,args,hr,h⟩|⟨l,g,tmps,assign,body,hr,h⟩
   ·exact .inl ⟨v,w',hr,fH hs h⟩
   ·exact .inr (.inl ⟨w',hr,fH hs h⟩)
   ·exact .inr (.inr (.inl ⟨g,args,hr,Calls.mono h fun e w' ⟨v,hv,h⟩=>⟨v,hv,fH hs h⟩⟩))
   ·exact .inr (.inr (.inr ⟨l,g,tmps,assign,body,hr,fun r m=>RoundIn.mono (h r m) fun e w' ⟨v,hv,h⟩=>⟨v,hv,fH hs h⟩⟩))
theorem lI{ops:Array Oper}{o:Oper}{ρ:Env}{a:Act}{yes no:Env->Prop}(hs:Sat n ds ρ a)(h:guarded ops n o ρ yes no):
 ∃iR,Sat n ds iR a/\((Region.wanted o (yielded ops a.tmps)=true/\yes iR)\/(Region.wanted o (yielded ops a.tmps)=false/\no iR)):=by
 unfold guarded at h;split at h
 ·rename_i hg
  exact⟨ρ,hs,.inl ⟨by simp [Region.wanted,hg],h⟩⟩
 ·rename_i j want hg
  split at h
  ·rename_i d hd
   split at h
   ·rename_i b cK hb
    simp only [Bool.and_eq_true,Bool.not_eq_true']at cK;have Zv:=Nat.ne_of_beq_eq_false cK.2;have EH:d<a.tmps.size:=by rw [hs.size];exact Nat.le_of_ble_eq_true cK.1
    have hv:=hs.wh d _ Zv hb;have hy:yielded ops a.tmps j=some b:=by
     unfold yielded;rw [hd];simp only [Option.bind_some];have:a.tmps[d]? =some (.bool b):=by
      rw [Array.getElem?_eq_getElem EH];simpa [Array.getD,EH]using hv
     rw [this]
    refine⟨put ρ d (.bool b),hs.same Zv hb,?_⟩;unfold Region.wanted;rw [hg];simp only [hy];cases b<;>cases want<;>simp only [Split]at h
    ·exact .inl ⟨rfl,h⟩
    ·exact .inr ⟨rfl,h⟩
    ·exact .inr ⟨rfl,h⟩
    ·exact .inl ⟨rfl,h⟩
   ·rename_i vs cK hb
    simp only [Bool.and_eq_true,Bool.not_eq_true']at cK;have hv:=hs.wh d _ (Nat.ne_of_beq_eq_false cK.2) hb;have EH:d<a.tmps.size:=by rw [hs.size];exact Nat.le_of_ble_eq_true cK.1
    refine⟨ρ,hs,.inr ⟨?_,h⟩⟩;unfold Region.wanted;rw [hg];have hy:yielded ops a.tmps j=none:=by
     unfold yielded;rw [hd];simp only [Option.bind_some];have:a.tmps[d]? =some (.tuple vs):=by
      rw [Array.getElem?_eq_getElem EH];simpa [Array.getD,EH]using hv
     rw [this]
    simp [hy]
   ·exact h.elim
  ·exact h.elim
theorem oR(lF:NG P){ops:Array Oper}{Q:Exit->Act->World->Prop}{K:Env->World->Prop}{m:Nat}(hQ:∀ρ a w,Sat n ds ρ a->K ρ w->Q .normal a w):
 ∀(l:List Nat) (os:List Oper) (ρ:Env) (a:Act) (w:World),l.map (ops[·]?)=os.map some->Sat n ds ρ a->Gt P n ops os ρ w K->wpOpsIn (FR r) m P ops Q l a w
 | [],[],ρ,a,w,_,hs,h=>hQ ρ a w hs h
 |i::l,o::os,ρ,a,w,hl,hs,h=>by
  simp only [List.map_cons,List.cons.injEq]at hl;obtain⟨ho,hl⟩:=hl;simp only [wpOpsIn,ho];obtain⟨iR,lS,⟨hw,h⟩|⟨hw,h⟩⟩:=lI hs h
  ·simp only [hw,if_true]
   obtain⟨hd,Wi⟩:=wJ lF lS h;refine Wi.wpIn hd ?_;rintro v w' ⟨oB,qy,Sk⟩;exact oR lF hQ l os oB _ w' hl qy Sk
  ·simp only [hw,Bool.false_eq_true,if_false]
   obtain⟨oB,qy,Sk⟩:=fH lS h;exact⟨fun _ _=>trivial,oR lF hQ l os oB _ w hl qy Sk⟩
 | [],_::_,_,_,_,hl,_,_=>by simp at hl
 |_::_,[],_,_,_,hl,_,_=>by simp at hl
end
abbrev Fl:=List (Nat×(World->Prop))
def maskAt(l:List Nat)(i:Nat):Nat:=match l,i with| [],_=>0|x::_,0=>x|_::l,i+1=>maskAt l i
def DR(ops:List Oper):List Nat->List Nat
 |acc=>match ops with
  | []=>acc
  |o::os=>DR os (acc++ [o.after.toList.foldl (fun s e=>bif Region.binds .any e then s|||2 ^ e.on|||maskAt acc e.on else s) 0])
def oT(ops:Array Oper)(ms:List Nat):Bool:=
 (List.range ops.size).all fun j=>(List.range ops.size).all fun k=> !(maskAt ms j).testBit k||
   match ops[j]? with
   |some o=>o.after.toList.any fun e=>Region.binds .any e&&(e.on==k||(maskAt ms e.on).testBit k)
   |none=>false
def uY(m:Nat):Fl->Fl
 | []=> []
 |(r,p)::l=>match m.testBit r with|true=>uY m l|false=>(r,p)::uY m l
def L8(m:Nat):Fl->World->Prop->Prop
 | [],_,k=>k
 |(r,p)::l,w,k=>match m.testBit r with|true=>L8 m l w k|false=>p w/\L8 m l w k
def quiet(P:Program)(ops:Array Oper)(listed:Array Bool)(i:Nat):Bool:=
 match ops[i]? with
 |some o=>match cls P o with
  | .MH=>false
  |_=>Region.free .any ops listed i
 |none=>false
def Oj(P:Program)(ops:Array Oper)(i:Nat):Bool:=
 match ops[i]? with
 |some o=>match cls P o with| .MH=>true|_=>false
 |none=>false
def LM:List Nat->(Nat->Prop)->Prop
 | [],_=>True
 | [i],p=>p i
 |i::l,p=>p i/\LM l p
def oJ(P:Program)(n:Nat)(ops:Array Oper)(ms:List Nat):Nat->Array Bool->Env->Fl->World->(Env->World->Prop)->Prop
 |0,listed,ρ,_,w,K=>match Region.ready .any ops listed with| []=>K ρ w|_=>False
 |k+1,listed,ρ,fl,w,K=>
  match Region.ready .any ops listed with
  | []=>K ρ w
  |j::rest=>
   match (j::rest).find? (quiet P ops listed)with
   |some i=>
    match ops[i]? with
    |none=>False
    |some o=>
     guarded ops n o ρ (fun ρ=>
      bif known ρ o then
       match cls P o with
       | .pure=>pB P (eval ρ) o fun v=>sd n ρ o.dst v fun iR=>oJ P n ops ms k (listed.setIfInBounds i true) iR fl w K
       | .read=>pz P (eval ρ) o w fun v=>sd n ρ o.dst v fun iR=>oJ P n ops ms k (listed.setIfInBounds i true) iR ((i,fc P (eval ρ) o v)::fl) w K
       | .MH=>False
      else False)
      (fun ρ=>sd n ρ o.dst undef fun iR=>oJ P n ops ms k (listed.setIfInBounds i true) iR fl w K)
   |none=>
    match (j::rest).all (Oj P ops)with
    |false=>False
    |true=>LM (j::rest) fun i=>
     match ops[i]? with
     |none=>False
     |some o=>
      guarded ops n o ρ (fun ρ=>
       bif known ρ o then
        rQ P ops (eval ρ) o w fun v w'=>sd n ρ o.dst v fun iR=>L8 (maskAt ms i) fl w' (oJ P n ops ms k (listed.setIfInBounds i true) iR (uY (maskAt ms i) fl) w' K)
       else False)
       (fun ρ=>sd n ρ o.dst undef fun iR=>oJ P n ops ms k (listed.setIfInBounds i true) iR fl w K)
def E9(P:Program)(n:Nat)(ops:Array Oper)(ρ:Env)(w:World)(K:Env->World->Prop):Prop:=
 let listed:=Array.replicate ops.size false
 let ms:=DR ops.toList []
 match oT ops ms&&ops.toList.all kO with
 |true=>oJ P n ops ms ops.size listed ρ [] w.drew K
 |false=>False
section
variable{P:Program}{n:Nat}{ds:List Deferred}{r:Option Nat}{m:Nat}{ops:Array Oper}{Q:Exit->Act->World->Prop}
def YS(P:Program)(ops:Array Oper)(S:World->Prop)(o:Oper)(v:Value)(a:Act):Prop:=
 (Region.wanted o (yielded ops a.tmps)=true/\∀w,S w->(execOp a.eval o).run P w=.ok (.value v) w)\/
 (Region.wanted o (yielded ops a.tmps)=false/\v=undef)
theorem YS.of_same{S:World->Prop}{o:Oper}{v:Value}{a a':Act}(hy:YS P ops S o v a)(he:execOp a'.eval o=execOp a.eval o)
 (hw:Region.wanted o (yielded ops a'.tmps)=Region.wanted o (yielded ops a.tmps)):YS P ops S o v a':=by
 unfold YS at*;rw [he,hw];exact hy
theorem YS.wpOpIn{S:World->Prop}{i:Nat}{o:Oper}{v:Value}{a:Act}(hi:ops[i]? =some o)(hn:kO o=true)(hy:YS P ops S o v a)
 {K:Act->World->Prop} {w:World} (hS:S w) (h:K (a.put o.dst v) w):wpOpIn (FR r) m P ops Q i K a w:=by
 unfold Go.wpOpIn;simp only [hi];rcases hy with⟨hw,hv⟩|⟨hw,rfl⟩
 ·simp only [hw,if_true]
  refine⟨fun _ _=>trivial,?_⟩;rw [Oper.semAt_eq _ _ _ (fun c e=>by simp [kO,e]at hn),hv w hS];exact h
 ·simp only [hw,Bool.false_eq_true,if_false]
  exact⟨fun _ _=>trivial,h⟩
theorem v8{S:World->Prop}{j:Nat}{oi oj:Oper}{v:Value}(hj:ops[j]? =some oj)(Wg:oi.apart ops oj=true)
 (RY:kO oi=true) (IH:kO oj=true) (hQ:∀c a w,¬Q (.panic c) a w) {K:Act->World->Prop} {a:Act} {w:World}
 (hy:YS P ops S oi v a) (h:wpOpIn (FR r) m P ops Q j K (a.put oi.dst v) w):
 wpOpIn (FR r) m P ops Q j (fun a' w'=>YS P ops S oi v a'/\K (a'.put oi.dst v) w') a w:=by
 obtain⟨h1,h2,h3⟩:=Oper.apart_spec Wg;have FK:∀cs b,oi.op≠ .select cs b:=fun cs b e=>by simp [kO,e]at RY
 have RQ:∀cs b,oj.op≠ .select cs b:=fun cs b e=>by simp [kO,e]at IH
 have Zw:∀c,oj.op≠ .defer c:=fun c e=>by simp [kO,e]at IH
 have aK:∀(a:Act),YS P ops S oi v a->∀u,YS P ops S oi v (a.put oj.dst u):=fun a hy u=>
  hy.of_same (execOp_put oi FK a oj.dst u h3) (wanted_put oi a oj.dst u h3)
 have xf:∀d,YS P ops S oi v {a with defers:=d::a.defers}:=fun d=>hy.of_same rfl rfl;unfold Go.wpOpIn at*;simp only [hj]at*;rw [wanted_put oj a oi.dst v h1]at h;split
 ·rename_i hw
  simp only [hw,if_true]at h;refine⟨fun _ _=>trivial,?_⟩;have h:=h.2;rw [Oper.semAt_eq _ _ _ Zw,execOp_put oj RQ a oi.dst v h1]at h;rw [Oper.semAt_eq _ _ _ Zw];generalize (execOp a.eval oj).run P w=r at*;cases r with
  |ok x w'=>
   cases x<;>simp only [Oper.uponIn]at h⊢
   case value u=>exact⟨aK a hy u,by rw [<-Act.put_comm a v u h2];exact h⟩
   case skip=>exact⟨aK a hy _,by rw [<-Act.put_comm a v undef h2];exact h⟩
   case defer d=>
    refine⟨aK _ (xf d) _,?_⟩;rw [<-Act.put_comm _ v undef h2,<-Act.put_defers];exact h
   case enter f args=>
    refine⟨h.1,CallsIn.mono h.2 fun e lf he=>?_⟩;cases e with
    |returned u=>exact⟨aK a hy u,by rw [<-Act.put_comm a v u h2];exact he⟩
    |panicked c=>exact(hQ _ _ _ he).elim
    |outgrown=>exact he
   case row row args=>exact⟨h.1,RowsIn.mono h.2 fun u lf he=>⟨aK a hy u,by rw [<-Act.put_comm a v u h2];exact he⟩⟩
   case round l f tmps assign body=>
    refine⟨h.1,RoundIn.mono h.2 fun e lf he=>?_⟩;cases e with
    |returned u=>exact⟨aK a hy u,by rw [<-Act.put_comm a v u h2];exact he⟩
    |panicked c=>exact(hQ _ _ _ he).elim
    |outgrown=>exact he
  |halt x w'=>
   cases x<;>simp only [Oper.uponIn]at h⊢
   case panic u=>exact(hQ _ _ _ h).elim
 ·rename_i hw
  simp only [hw]at h;exact⟨fun _ _=>trivial,aK a hy _,by rw [<-Act.put_comm a v undef h2];exact h.2⟩
def anyS(r:Option Nat)(m:Nat)(P:Program)(ops:Array Oper)(ms:List Nat)(Q:Exit->Act->World->Prop):Nat->Fl->Array Bool->Act->World->Prop
 |0,_,listed,a,w=>Region.ready .any ops listed= []/\Q .normal a w
 |k+1,fl,listed,a,w=>
  (Region.ready .any ops listed= []->Q .normal a w)/\
  ∀i∈Region.ready .any ops listed,wpOpIn (FR r) m P ops Q i (fun a' w'=>(∀p∈uY (maskAt ms i) fl,p.2 w')/\
   anyS r m P ops ms Q k (uY (maskAt ms i) fl) (listed.setIfInBounds i true) a' w') a w
theorem xP{ms:List Nat}:∀(k:Nat) (fl:Fl) (listed:Array Bool) (a:Act) (w:World),anyS r m P ops ms Q k fl listed a w->wpAnyIn (FR r) m P .any ops Q k listed a w
 |0,_,_,_,_,h=>h
 |k+1,_,_,_,_,h=>⟨h.1,fun i hi=>wpOpIn_mono (fun a' w' h'=>xP k _ _ a' w' h'.2) (h.2 i hi)⟩
theorem ki{b:Nat}{p:Nat×(World->Prop)}:∀ {fl:Fl},p∈uY b fl↔p∈fl/\b.testBit p.1=false
 | []=>by simp [uY]
 |(q,s)::fl=>by
  simp only [uY];split
  ·rename_i hb
   rw [ki,List.mem_cons];constructor
   ·rintro⟨h1,h2⟩;exact⟨.inr h1,h2⟩
   ·rintro⟨rfl|h1,h2⟩
    ·rw [hb]at h2;cases h2
    ·exact⟨h1,h2⟩
  ·rename_i hb
   rw [List.mem_cons,ki,List.mem_cons];constructor
   ·rintro(rfl|⟨h1,h2⟩)
    ·exact⟨.inl rfl,hb⟩
    ·exact⟨.inr h1,h2⟩
   ·rintro⟨rfl|h1,h2⟩
    ·exact .inl rfl
    ·exact .inr ⟨h1,h2⟩
theorem sY{b q:Nat}{s:World->Prop}{fl:Fl}(h:b.testBit q=false):uY b ((q,s)::fl)=(q,s)::uY b fl:=by simp [uY,h]
theorem vl{b:Nat}{w:World}{k:Prop}:∀ {fl:Fl},L8 b fl w k->(∀p∈uY b fl,p.2 w)/\k
 | [],h=>⟨by simp [uY],h⟩
 |(q,s)::fl,h=>by
  simp only [L8]at h;split at h
  ·rename_i hb
   have:=vl h;simpa [uY,hb]using this
  ·rename_i hb
   obtain⟨h1,h2⟩:=vl h.2;refine⟨fun p hp=>?_,h2⟩;rw [sY hb]at hp;rcases List.mem_cons.1 hp with rfl|hp
   ·exact h.1
   ·exact h1 p hp
theorem oz{ms:List Nat}:∀(k:Nat) (fl Sm:Fl) (listed:Array Bool) (a:Act) (w:World),(∀p∈Sm,p∈fl)->anyS r m P ops ms Q k fl listed a w->anyS r m P ops ms Q k Sm listed a w
 |0,_,_,_,_,_,_,h=>h
 |k+1,fl,Sm,_,_,_,hs,h=>⟨h.1,fun i hi=>wpOpIn_mono (fun a' w' h'=>
   have sI:∀p∈uY (maskAt ms i) Sm,p∈uY (maskAt ms i) fl:=fun p hp=>by
    rw [ki]at*;exact⟨hs p hp.1,hp.2⟩
   ⟨fun p hp=>h'.1 p (sI p hp),oz k _ _ _ a' w' sI h'.2⟩) (h.2 i hi)⟩
def MC(N:Nat)(ms:List Nat)(listed:Array Bool):Prop:=∀j,listed.getD j false=true->∀k,k<N->(maskAt ms j).testBit k=true->listed.getD k false=true
theorem wS{ms:List Nat}(h:oT ops ms=true){j:Nat}{o:Oper}(hj:ops[j]? =some o){k:Nat}(hk:k<ops.size)(hb:(maskAt ms j).testBit k=true):
 ∃e∈o.after,Region.binds .any e=true/\(e.on=k\/(maskAt ms e.on).testBit k=true):=by
 unfold oT at h;rw [List.all_eq_true]at h;have h1:=h j (List.mem_range.2 (Array.getElem?_eq_some_iff.1 hj).1);rw [List.all_eq_true]at h1;have h2:=h1 k (List.mem_range.2 hk);simp only [hb,Bool.not_true,Bool.false_or,hj,List.any_eq_true,Bool.and_eq_true,Bool.or_eq_true,beq_iff_eq]at h2;obtain⟨e,he,h3,h4⟩:=h2;exact⟨e,by simpa using he,h3,h4⟩
theorem MC.ready{ms:List Nat}(hm:oT ops ms=true){listed:Array Bool}(hc:MC ops.size ms listed){j:Nat}(hr:j∈Region.ready .any ops listed){k:Nat}(hk:k<ops.size)
 (hb:(maskAt ms j).testBit k=true):listed.getD k false=true:=by
 obtain⟨_,o,ho,cP⟩:=mem_ready.1 hr;obtain⟨e,he,h1,h2⟩:=wS hm ho hk hb;have hl:=cP e he h1;rcases h2 with rfl|h2
 ·exact hl
 ·exact hc _ hl _ hk h2
theorem E5{listed:Array Bool}{j k:Nat}(hj:j<listed.size):(listed.setIfInBounds j true).getD k false=if j=k then true else listed.getD k false:=by
 by_cases e:j=k
 ·subst e;simp [hj]
 ·rw [if_neg e,getD_set_ne false e]
theorem MC.set{ms:List Nat}(hm:oT ops ms=true){listed:Array Bool}(nN:listed.size=ops.size)(hc:MC ops.size ms listed){j:Nat}(hr:j∈Region.ready .any ops listed):
 MC ops.size ms (listed.setIfInBounds j true):=by
 have hj:j<listed.size:=by
  obtain⟨_,o,ho,_⟩:=mem_ready.1 hr;rw [nN];exact(Array.getElem?_eq_some_iff.1 ho).1
 intro j' hl k hk hb;rw [E5 hj]at hl⊢;split
 ·rfl
 ·split at hl
  ·rename_i e;subst e;exact hc.ready hm hr hk hb
  ·exact hc _ hl _ hk hb
theorem qE{ms:List Nat}{i:Nat}:∀(k:Nat) (fl:Fl) (listed:Array Bool) (a:Act) (w:World),anyS r m P ops ms Q k fl listed a w->anyS r m P ops ms Q k ((i,fun _=>True)::fl) listed a w
 |0,_,_,_,_,h=>h
 |k+1,fl,_,_,_,h=>⟨h.1,fun j hj=>wpOpIn_mono (fun a' w' h'=>by
   cases hb:(maskAt ms j).testBit i
   ·rw [sY hb]
    refine⟨fun p hp=>?_,qE k _ _ a' w' h'.2⟩;rcases List.mem_cons.1 hp with rfl|hp
    ·trivial
    ·exact h'.1 p hp
   ·have e:uY (maskAt ms j) ((i,fun _=>True)::fl)=uY (maskAt ms j) fl:=by simp [uY,hb]
    rw [e];exact h') (h.2 j hj)⟩
theorem o6{ms:List Nat}(hm:oT ops ms=true)(x7:∀(j:Nat) o,ops[j]? =some o->kO o=true)(hQ:∀c a w,¬Q (.panic c) a w)
 {S:World->Prop} {i:Nat} {oi:Oper} {v:Value} (hi:ops[i]? =some oi):
 ∀(k:Nat) (fl:Fl) (listed:Array Bool) (a:Act) (w:World),listed.size=ops.size->MC ops.size ms listed->
  (∀j oj,ops[j]? =some oj->j≠i->listed.getD j true=false->(∀e∈oj.after,Region.binds .any e=true->e.on≠i)->oi.apart ops oj=true)->
  i∈Region.ready .any ops listed->YS P ops S oi v a->S w->(∀p∈fl,p.2 w)->
  anyS r m P ops ms Q k ((i,S)::fl) (listed.setIfInBounds i true) (a.put oi.dst v) w->anyS r m P ops ms Q (k+1) fl listed a w:=by
 intro k;have K0:i<ops.size:=(Array.getElem?_eq_some_iff.1 hi).1
 induction k with
 |zero=>
  intro fl listed a w nN hc xr hr hy hS C0 H;refine⟨fun h=>(by rw [h]at hr;cases hr),fun j hj=>?_⟩;by_cases FQ:j=i
  ·subst FQ
   exact hy.wpOpIn hi (x7 _ _ hi) hS ⟨fun p hp=>C0 p (ki.1 hp).1,oz 0 _ _ _ _ _ (fun p hp=>List.mem_cons_of_mem _ (ki.1 hp).1) H⟩
  ·have:=ready_mono hj FQ
   rw [H.1]at this;cases this
 |succ k ih=>
  intro fl listed a w nN hc xr hr hy hS C0 H;refine⟨fun h=>(by rw [h]at hr;cases hr),fun j hj=>?_⟩;by_cases FQ:j=i
  ·subst FQ
   exact hy.wpOpIn hi (x7 _ _ hi) hS ⟨fun p hp=>C0 p (ki.1 hp).1,oz _ _ _ _ _ _ (fun p hp=>List.mem_cons_of_mem _ (ki.1 hp).1) H⟩
  ·have h1:=H.2 j (ready_mono hj FQ)
   obtain⟨PC,oj,UM,cP⟩:=mem_ready.1 hj;have IP:listed.getD i false=false:=by
    have h0:=(mem_ready.1 hr).1;rw [<-nN]at K0;simp [K0]at h0⊢;exact h0
   have O6:∀e∈oj.after,Region.binds .any e=true->e.on≠i:=fun e he hb heq=>by
    have h1:=cP e he hb;rw [heq,IP]at h1;cases h1
   have oG:(maskAt ms j).testBit i=false:=by
    cases hb:(maskAt ms j).testBit i
    ·rfl
    ·have:=hc.ready hm hj K0 hb
     rw [IP]at this;cases this
   rw [sY oG]at h1;have h2:=v8 UM (xr j oj UM FQ PC O6) (x7 _ _ hi) (x7 _ _ UM) hQ hy h1;have La:∀k ok,ops[k]? =some ok->k≠i->(listed.setIfInBounds j true).getD k true=false->
    (∀e∈ok.after,Region.binds .any e=true->e.on≠i)->oi.apart ops ok=true:=fun k ok hk hki YH rN=>by
    refine xr k ok hk hki ?_ rN;by_cases Vf:j=k
    ·subst Vf;exact PC
    ·rw [getD_set_ne true Vf]at YH;exact YH
   refine wpOpIn_mono (fun a' w' h3=>?_) h2;obtain⟨RM,x6,H'⟩:=h3;refine⟨fun p hp=>x6 p (List.mem_cons_of_mem _ hp),ih _ (listed.setIfInBounds j true) a' w' (by simp [nN]) (hc.set hm nN hj) La (ready_mono hr (Ne.symm FQ)) RM (x6 _ List.mem_cons_self)
    (fun p hp=>x6 p (List.mem_cons_of_mem _ hp)) ?_⟩
   rw [Array.setIfInBounds_comm _ _ FQ];exact H'
theorem CE{ms:List Nat}{listed:Array Bool}{a:Act}{w:World}(hr:Region.ready .any ops listed= [])(h:Q .normal a w):
 ∀(k:Nat) (fl:Fl),anyS r m P ops ms Q k fl listed a w
 |0,_=>⟨hr,h⟩
 |_+1,_=>⟨fun _=>h,by rw [hr];simp⟩
def JH(n:Nat)(ds:List Deferred)(K:Env->World->Prop):Exit->Act->World->Prop
 | .normal,a,w=>∃ρ,Sat n ds ρ a/\K ρ w
 |_,_,_=>False
theorem xR{p:Nat->Prop}:∀ {l:List Nat},LM l p->∀i∈l,p i
 | [],_,i,hi=>by cases hi
 | [j],h,i,hi=>by
   have:i=j:=by simpa using hi
   subst this;exact h
 |j::j'::l,h,i,hi=>by
  rcases List.mem_cons.1 hi with rfl|hi
  ·exact h.1
  ·exact xR h.2 i hi
theorem iX(lF:NG P){ms:List Nat}(hm:oT ops ms=true)(x7:∀(j:Nat) o,ops[j]? =some o->kO o=true){K:Env->World->Prop}:
 ∀(k:Nat) (fl:Fl) (listed:Array Bool) (ρ:Env) (a:Act) (w:World),listed.size=ops.size->MC ops.size ms listed->
  Sat n ds ρ a->(∀p∈fl,p.2 w)->oJ P n ops ms k listed ρ fl w K->anyS r m P ops ms (JH n ds K) k fl listed a w
 |0,fl,listed,ρ,a,w,_,_,hs,_,h=>by
  simp only [oJ]at h;split at h
  ·rename_i hr
   exact⟨hr,ρ,hs,h⟩
  ·exact h.elim
 |k+1,fl,listed,ρ,a,w,nN,hc,hs,C0,h=>by
  simp only [oJ]at h;split at h
  ·rename_i hr
   exact CE hr ⟨ρ,hs,h⟩ _ _
  ·rename_i j rest yX
   rw [<-yX]at h;have hQ:∀c a w,¬JH n ds K (.panic c) a w:=fun _ _ _ h=>h;split at h
   ·rename_i i IT
    have PK:=List.mem_of_find?_eq_some IT;have EE:=List.find?_some IT;unfold quiet at EE;cases ho:ops[i]? with
    |none=>rw [ho]at h;exact h.elim
    |some o=>
     simp only [ho]at h EE;have Ca:(listed.setIfInBounds i true).size=ops.size:=by simp [nN]
     have sM:=hc.set hm nN PK;obtain⟨iR,lS,⟨hw,h⟩|⟨hw,h⟩⟩:=lI hs h
     ·cases tZ:known iR o
      ·rw [tZ]at h;exact h.elim
      ·rw [tZ,cond_true]at h
       have he:=oV lS tZ;cases mH:cls P o<;>rw [mH]at h EE
       ·obtain⟨v,hv,h⟩:=nC h
        obtain⟨oB,qy,h⟩:=fH lS h;exact o6 hm x7 hQ (S:=fun _=>True) ho k fl listed a w nN hc (Region.free_spec ho EE) PK (.inl ⟨hw,fun w' _=>by rw [he];exact hv w'⟩) trivial C0
         (qE _ _ _ _ _ (iX lF hm x7 k fl _ oB _ w Ca sM qy C0 h))
       ·obtain⟨v,h1,h2,h⟩:=nB h
        obtain⟨oB,qy,h⟩:=fH lS h;refine o6 hm x7 hQ (S:=fc P (eval iR) o v) ho k fl listed a w nN hc (Region.free_spec ho EE) PK (.inl ⟨hw,fun w' hw'=>by rw [he];exact h2 w' hw'⟩) h1 C0
         (iX lF hm x7 k _ _ oB _ w Ca sM qy ?_ h)
        intro p hp;rcases List.mem_cons.1 hp with rfl|hp
        ·exact h1
        ·exact C0 p hp
       ·exact h.elim
     ·obtain⟨oB,qy,h⟩:=fH lS h
      have hfr:Region.free .any ops listed i=true:=by
       cases mH:cls P o<;>rw [mH]at EE
       ·exact EE
       ·exact EE
       ·cases EE
      exact o6 hm x7 hQ (S:=fun _=>True) ho k fl listed a w nN hc (Region.free_spec ho hfr) PK (.inr ⟨hw,rfl⟩) trivial C0
       (qE _ _ _ _ _ (iX lF hm x7 k fl _ oB _ w Ca sM qy C0 h))
   ·split at h
    ·exact h.elim
    ·have cP:=xR h
     refine⟨fun h0=>(by rw [h0]at yX;cases yX),fun i hi=>?_⟩;have h:=cP i hi;have Ca:(listed.setIfInBounds i true).size=ops.size:=by simp [nN]
     have sM:=hc.set hm nN hi;cases ho:ops[i]? with
     |none=>rw [ho]at h;exact h.elim
     |some o=>
      simp only [ho]at h;unfold Go.wpOpIn;simp only [ho];obtain⟨iR,lS,⟨hw,h⟩|⟨hw,h⟩⟩:=lI hs h
      ·simp only [hw,if_true]
       cases tZ:known iR o
       ·rw [tZ]at h;exact h.elim
       ·rw [tZ,cond_true]at h
        have he:=oV lS tZ;have Qz:zP P a.eval o w fun v w'=>∃oB,Sat n ds oB (a.put o.dst v)/\L8 (maskAt ms i) fl w' (oJ P n ops ms k (listed.setIfInBounds i true) oB (uY (maskAt ms i) fl) w' K):=by
         unfold zP;rw [he];rcases oM lF h with⟨v,w',hr,h⟩|⟨w',hr,h⟩|⟨g,args,hr,h⟩|⟨l,g,tmps,assign,body,hr,h⟩
         ·exact .inl ⟨v,w',hr,fH lS h⟩
         ·exact .inr (.inl ⟨w',hr,fH lS h⟩)
         ·exact .inr (.inr (.inl ⟨g,args,hr,Calls.mono h fun e w' ⟨v,hv,h⟩=>⟨v,hv,fH lS h⟩⟩))
         ·exact .inr (.inr (.inr ⟨l,g,tmps,assign,body,hr,fun r m=>RoundIn.mono (h r m) fun e w' ⟨v,hv,h⟩=>⟨v,hv,fH lS h⟩⟩))
        refine Qz.wpIn (oL tZ) ?_;rintro v w' ⟨oB,qy,h⟩;obtain⟨x6,h⟩:=vl h;exact⟨x6,iX lF hm x7 k _ _ oB _ w' Ca sM qy x6 h⟩
      ·simp only [hw,Bool.false_eq_true,if_false]
       obtain⟨oB,qy,h⟩:=fH lS h;exact⟨fun _ _=>trivial,fun p hp=>C0 p (ki.1 hp).1,oz _ _ _ _ _ _ (fun p hp=>(ki.1 hp).1) (iX lF hm x7 k _ _ oB _ w Ca sM qy C0 h)⟩
theorem xH(lF:NG P)(lG:P.follows .mixedOrders=true){id:Nat}{ρ:Env}{a:Act}{w:World}{K:Env->World->Prop}(hs:Sat n ds ρ a)(h:E9 P n ops ρ w K):
 (Code.region id ops true).wpIn (FR r) m P (JH n ds K) a w:=by
 unfold E9 at h;simp only at h;split at h
 ·rename_i hb
  simp only [Bool.and_eq_true]at hb;obtain⟨hm,x7⟩:=hb;have UT:∀(j:Nat) o,ops[j]? =some o->kO o=true:=fun j o ho=>by
   rw [List.all_eq_true]at x7;exact x7 o (by simpa using Array.mem_of_getElem? ho)
  refine wpIn_region_any lG (xP _ [] _ _ _ (iX lF hm UT _ _ _ ρ a _ (by simp) ?_ hs (by simp) h));intro j hj;exfalso;have:(Array.replicate ops.size false).getD j false=false:=by simp [Array.getD]
  rw [this]at hj;cases hj
 ·exact h.elim
end
def JK(o:Oper):List Nat:=o.op.operands.toList.filterMap fun| .tmp t=>some t|_=>none
def cu:Code->List Nat
 | .region _ ops _=>ops.toList.flatMap JK
 | .seq a b=>cu a++cu b
 | .cond c a b=>(match c with| .tmp t=> [t]|_=> [])++cu a++cu b
 | .block _ c=>cu c
 | .loop c=>cu c
 | .scope c=>cu c
 | .rangeFunc f _ a b=>(match f with| .tmp t=> [t]|_=> [])++cu a++cu b
 |_=> []
abbrev aM:=Exit->Env->World->Prop
def Holds(r:Option Nat)(ds:List Deferred)(P:Program)(n:Nat)(c:Code)(Q:aM)(ρ:Env)(w:World):Prop:=
 ∀a,Sat n ds ρ a->c.wpIn (FR r) 0 P (fun e a' w'=>∃iR,Sat n ds iR a'/\Q e iR w') a w
def b9(K:Env->World->Prop)(Q:aM):aM
 | .normal,ρ,w=>K ρ w
 |e,ρ,w=>Q e ρ w
def aQ(id:Nat)(U:List Nat)(Q:aM):aM
 | .exit TL,ρ,w=>match Nat.beq TL id with|true=>Q .normal (aK U ρ) w|false=>Q (.exit TL) ρ w
 |e,ρ,w=>Q e ρ w
def cutAt(C:List Nat):Code->Bool
 | .region id _ _=>yH C id
 | .seq a _=>cutAt C a
 | .block _ a=>cutAt C a
 |_=>false
def bg(r:Option Nat)(ds:List Deferred)(P:Program)(n:Nat)(C:List Nat):Code->List Nat->aM->Env->World->Prop
 | .skip,_,Q,ρ,w=>Q .normal ρ w
 | .label _,_,Q,ρ,w=>Q .normal ρ w
 | .region _ ops draw,U,Q,ρ,w=>
   match draw with
   |false=>Gt P n ops ops.toList ρ w fun iR w'=>Q .normal (aK U iR) w'
   |true=>E9 P n ops ρ w fun iR w'=>Q .normal (aK U iR) w'
 | .seq a b,U,Q,ρ,w=>bg r ds P n C a (cu b++U) (b9 (fun iR w'=>match cutAt C b with|true=>Holds r ds P n b Q iR w'|false=>bg r ds P n C b U Q iR w') Q) ρ w
 | .cond c a b,U,Q,ρ,w=>
   match si ρ c with
   |some (.bool t)=>Split t (bg r ds P n C a U Q (aK (cu a++U) ρ) w) (bg r ds P n C b U Q (aK (cu b++U) ρ) w)
   |_=>False
 | .block id c,U,Q,ρ,w=>bg r ds P n C c U (aQ id U Q) ρ w
 | .exit id,_,Q,ρ,w=>Q (.exit id) ρ w
 | .ret,_,Q,ρ,w=>Q .ret ρ w
 | .loop c,_,Q,ρ,w=>Holds r ds P n (.loop c) Q ρ w
 | .rangeFunc f ps a b,_,Q,ρ,w=>Holds r ds P n (.rangeFunc f ps a b) Q ρ w
 |_,_,_,_,_=>False
section
variable{r:Option Nat}{ds:List Deferred}{P:Program}{n:Nat}
theorem Holds.mono{c:Code}{Q Q':aM}{ρ:Env}{w:World}(h:Holds r ds P n c Q ρ w)(hq:∀e ρ w,Q e ρ w->Q' e ρ w):Holds r ds P n c Q' ρ w:=
 fun a hs=>wpIn_mono (h a hs) fun _ _ _ ⟨iR,h1,h2⟩=>⟨iR,h1,hq _ _ _ h2⟩
theorem fD{C:List Nat}(lF:NG P)(lG:P.follows .mixedOrders=true):∀(c:Code) (U:List Nat) (Q:aM) (ρ:Env) (w:World),bg r ds P n C c U Q ρ w->Holds r ds P n c Q ρ w
 | .skip,_,_,ρ,_,h=>fun _ hs=>wpIn_skip ⟨ρ,hs,h⟩
 | .label _,_,_,ρ,_,h=>fun _ hs=>wpIn_label ⟨ρ,hs,h⟩
 | .region id ops draw,U,Q,ρ,w,h=>fun a hs=>by
   cases draw with
   |false=>exact wpIn_region (oR lF (fun iR a' w' lS h'=>⟨_,lS.aK U,h'⟩) _ _ ρ a w (by
     apply List.ext_getElem?;intro j;simp only [List.getElem?_map,Array.getElem?_toList];rcases Nat.lt_or_ge j ops.size with hj|hj
     ·rw [List.getElem?_range hj];simp [Array.getElem?_eq_getElem hj]
     ·rw [List.getElem?_eq_none (by simpa using hj)];simp [Array.getElem?_eq_none hj]) hs h)
   |true=>
    refine wpIn_mono (xH lF lG hs h) ?_;intro e a' w' h';cases e with
    |normal=>obtain⟨iR,lS,h'⟩:=h';exact⟨_,lS.aK U,h'⟩
    |_=>exact h'.elim
 | .seq x y,U,Q,ρ,w,h=>fun a hs=>by
   refine wpIn_seq (wpIn_mono (fD lF lG x _ _ ρ w h a hs) ?_);rintro e a' w' ⟨iR,lS,h'⟩;cases e with
   |normal=>
    simp only [b9]at h';split at h'
    ·exact h' a' lS
    ·exact fD lF lG y U Q iR w' h' a' lS
   |_=>exact⟨iR,lS,h'⟩
 | .cond c x y,U,Q,ρ,w,h=>fun a hs=>by
   simp only [bg]at h;split at h
   ·rename_i t ht
    have he:a.eval c=.bool t:=by
     rw [sh hs (by rw [ht];rfl)];simp [eval,ht]
    cases t
    ·exact wpIn_cond_false he (fD lF lG y U Q _ w h a (hs.aK _))
    ·exact wpIn_cond_true he (fD lF lG x U Q _ w h a (hs.aK _))
   ·exact h.elim
 | .block id c,U,Q,ρ,w,h=>fun a hs=>by
   refine wpIn_block (wpIn_mono (fD lF lG c U _ ρ w h a hs) ?_);rintro e a' w' ⟨iR,lS,h'⟩;cases e with
   |exit TL=>
    simp only [aQ]at h';simp only [Exit.inBlock];split at h'
    ·rename_i hb
     rw [if_pos (Nat.eq_of_beq_eq_true hb)];exact⟨_,lS.aK U,h'⟩
    ·rename_i hb
     rw [if_neg (Nat.ne_of_beq_eq_false hb)];exact⟨_,lS,h'⟩
   |_=>exact⟨iR,lS,h'⟩
 | .exit _,_,_,ρ,_,h=>fun _ hs=>wpIn_exit ⟨ρ,hs,h⟩
 | .ret,_,_,ρ,_,h=>fun _ hs=>wpIn_ret ⟨ρ,hs,h⟩
 | .loop _,_,_,_,_,h=>h
 | .rangeFunc _ _ _ _,_,_,_,_,h=>h
 | .scope _,_,_,_,_,h=>h.elim
 | .goto _,_,_,_,_,h=>h.elim
 | .refuse _,_,_,_,_,h=>h.elim
def bR{S:Type}(env:S->Env)(I:S->World->Prop)(μ:S->World->Nat)(s:S)(w:World)(Q:aM):aM:=
 b9 (fun iR w'=>∃s',iR=env s'/\I s' w'/\μ s' w'<μ s w) Q
theorem yh{F:Fence}{m:Nat}{S:Type}{c:Code}{Q:Exit->Act->World->Prop}{a:Act}{w:World}(I:S->Act->World->Prop)(μ:S->World->Nat)(s:S)(h₀:I s a w)
 (round:∀s a w,I s a w->c.wpIn F m P (Exit.then (fun a' w'=>∃s',I s' a' w'/\μ s' w'<μ s w) Q) a w):(Code.loop c).wpIn F m P Q a w:=by
 intro b k cs hro hb hr;have key:∀j s a w,μ s w=j->I s a w->
  ∃e a' w',Q e a' w'/\ArrivesIn (Machine.fenced P F) P (lone (b.atR a (.code c:: .inLoop c::k)) cs w) b k cs e a' w':=by
  intro j
  induction j using Nat.strongRecOn with
  |_ j ih=>
   intro s a w hn hI;obtain⟨e,CD,yg,hq,mw⟩:=round s a w hI b (.inLoop c::k) cs hro hb hr;cases e with
   |normal=>
    obtain⟨s',QL,cK⟩:=hq;obtain⟨WT,W6,SI,ON,Hu⟩:=ih (μ s' yg) (hn▸cK) s' CD yg rfl QL;exact⟨WT,W6,SI,ON,.of_steps (StepsIn.trans mw (.one (fenced_calm hb hr rfl) stepR_inLoop)) Hu⟩
   |exit id=>exact⟨_,CD,yg,hq,.pass (x:=.inLoop c) rfl (fun _ _=>.inl (by simp)) mw⟩
   |goto l=>exact⟨_,CD,yg,hq,.pass (x:=.inLoop c) rfl (fun _ _=>.inl (by simp)) mw⟩
   |ret=>exact⟨_,CD,yg,hq,.pass (x:=.inLoop c) rfl (fun _ _=>.inl (by simp)) mw⟩
   |panic ch=>exact⟨_,CD,yg,hq,.pass (x:=.inLoop c) rfl (fun _ _=>.inl (by simp)) mw⟩
   |outgrown=>exact⟨_,CD,yg,hq,.pass (x:=.inLoop c) rfl (fun _ _=>.inl (by simp)) mw⟩
 obtain⟨e,a',w',hq,mw⟩:=key _ s a w rfl h₀;exact⟨e,a',w',hq,.of_steps (.one (fenced_calm hb hr rfl) stepR_loop) mw⟩
theorem BU(lF:NG P)(lG:P.follows .mixedOrders=true){S:Type}(env:S->Env)(I:S->World->Prop)(μ:S->World->Nat){c:Code}{Q:aM}{w:World}(C U:List Nat)(s:S)
 (h0:I s w) (round:∀s w,I s w->bg r ds P n C c U (bR env I μ s w Q) (env s) w):Holds r ds P n (.loop c) Q (env s) w:=by
 intro a hs;refine yh (fun s a w=>Sat n ds (env s) a/\I s w) μ s ⟨hs,h0⟩ ?_;rintro s a w ⟨hs,hI⟩;refine wpIn_mono (fD lF lG c U _ _ w (round s w hI) a hs) ?_;rintro e a' w' ⟨iR,lS,h'⟩;cases e with
 |normal=>obtain⟨s',rfl,h1,h2⟩:=h';exact⟨s',⟨lS,h1⟩,h2⟩
 |_=>exact⟨iR,lS,h'⟩
def sL:Code->Code| .seq a _=>a|c=>c
def sR:Code->Code| .seq _ b=>b|c=>c
abbrev aZ(c:Code):Code:=sR (sR c)
abbrev cS(c:Code):Code:=sR (sR (sR (sR c)))
abbrev dZ(c:Code):Code:=sR (sR (sR (sR (sR (sR (sR (sR c)))))))
def bB:Code->Code| .block _ c=>c|c=>c
def lB:Code->Code| .loop c=>c|c=>c
def cT:Code->Code| .cond _ a _=>a|c=>c
def cE:Code->Code| .cond _ _ b=>b|c=>c
def rA:Code->Code| .rangeFunc _ _ a _=>a|c=>c
def rB:Code->Code| .rangeFunc _ _ _ b=>b|c=>c
def body(fn:Func):Code:=match fn.body with|some c=>c|none=>.skip
def jV(P:Program)(ρ:Env)(w:World)(r:ResultVar)(k:Value->Prop):Prop:=
 match r with
 | .tmp t=>Is (si ρ (.tmp t)) k
 | .cell t ty=>match si ρ (.tmp t),P.underlying ty with|some (.pointer (some a)),some _=>xV P ty a w k|_,_=>False
def Gl(P:Program)(fn:Func)(ρ:Env)(w:World)(k:Value->Prop):Prop:=
 match fn.results.toList with
 | []=>k (.tuple #[])
 | [r]=>jV P ρ w r k
 | [r,s]=>jV P ρ w r fun x=>jV P ρ w s fun y=>k (.tuple #[x,y])
 | [r,s,t]=>jV P ρ w r fun x=>jV P ρ w s fun y=>jV P ρ w t fun z=>k (.tuple #[x,y,z])
 | [r,s,t,u]=>jV P ρ w r fun x=>jV P ρ w s fun y=>jV P ρ w t fun z=>jV P ρ w u fun q=>k (.tuple #[x,y,z,q])
 |_=>False
def aX(fn:Func):List Nat:=fn.results.toList.filterMap fun| .tmp t=>some t| .cell t _=>some t
def fp:List Nat->World->World
 | [],w=>w
 |D::l,w=>fp l (w.putObj D (.deferred none))
def jH:List Nat->World->Prop
 | [],_=>True
 |D::l,w=>w.heap[D]? =some (.deferred (some []))/\jH l (w.putObj D (.deferred none))
def HH(P:Program)(fn:Func)(K:Value->World->Prop)(ρ:Env)(w:World):Prop:=
 match find ρ fR with
 |none=>Gl P fn ρ w fun v=>K v w
 |some m=>jH (marksOf m) w/\Gl P fn ρ (fp (marksOf m) w) fun v=>K v (fp (marksOf m) w)
def bV(P:Program)(fn:Func)(K:Value->World->Prop):aM
 | .normal,ρ,w=>HH P fn K ρ w
 | .ret,ρ,w=>HH P fn K ρ w
 |_,_,_=>False
def mD:List Value->Nat->Env
 | [],_=> []
 |v::vs,i=>(i,v)::mD vs (i+1)
def vi(tmps:Array Value):ResultVar->Sem Value
 | .tmp t=>pure (tmps.getD t undef)
 | .cell c t=>do loadVar t (<-asAddr (tmps.getD c undef))
theorem mr(fn:Func)(tmps:Array Value):results fn tmps=(do
 let vs<-fn.results.mapM (vi tmps)
 pure (if h:vs.size=1 then vs[0]else .tuple vs)):=by
 unfold results
 congr 1
theorem eh{ρ:Env}{a:Act}{w:World}{r:ResultVar}{k:Value->Prop}(hs:Sat n ds ρ a)(h:jV P ρ w r k):∃v,(vi a.tmps r).run P w=.ok v w/\k v:=by
 unfold jV at h;have key:∀t v,si ρ (.tmp t)=some v->a.tmps.getD t undef=v:=fun t v hv=>by
  have:=sh hs (x:=.tmp t) (by rw [hv];rfl);rw [eval,hv]at this;exact this
 cases r with
 |tmp t=>
  obtain⟨x,hx,h⟩:=h.out;refine⟨x,?_,h⟩;have e1:=key _ _ hx;simp only [vi];rw [e1];simp
 |cell t ty=>
  simp only at h;split at h
  ·rename_i b d hx hu
   have e1:=key _ _ hx;obtain⟨v,h1,h2⟩:=h.ok;refine⟨v,?_,h2⟩;simp only [vi];rw [e1];simp [asAddr,h1.run (by simp [hu])]
  ·exact h.elim
theorem r9{fn:Func}{ρ:Env}{a:Act}{w:World}{k:Value->Prop}(hs:Sat n ds ρ a)(h:Gl P fn ρ w k):∃v,(results fn a.tmps).run P w=.ok v w/\k v:=by
 unfold Gl at h;have mw:fn.results=fn.results.toList.toArray:=by simp
 split at h
 ·rename_i hr
  rw [hr]at mw;exact⟨_,by simp [results,mw],h⟩
 ·rename_i r hr
  rw [hr]at mw;obtain⟨x,h1,h⟩:=eh hs h;exact⟨x,by simp [mr,mw,h1],h⟩
 ·rename_i r s hr
  rw [hr]at mw;obtain⟨x,h1,h⟩:=eh hs h;obtain⟨y,h2,h⟩:=eh hs h;exact⟨_,by simp [mr,mw,h1,h2],h⟩
 ·rename_i r s t hr
  rw [hr]at mw;obtain⟨x,h1,h⟩:=eh hs h;obtain⟨y,h2,h⟩:=eh hs h;obtain⟨z,h3,h⟩:=eh hs h;exact⟨_,by simp [mr,mw,h1,h2,h3],h⟩
 ·rename_i r s t u hr
  rw [hr]at mw;obtain⟨x,h1,h⟩:=eh hs h;obtain⟨y,h2,h⟩:=eh hs h;obtain⟨z,h3,h⟩:=eh hs h;obtain⟨q,h4,h⟩:=eh hs h;exact⟨_,by simp [mr,mw,h1,h2,h3,h4],h⟩
 ·exact h.elim
theorem pI{fn:Func}{tmps:Array Value}{R:Ending->World->Prop}:∀(l:List Nat) (w:World),jH l w->(∃v,(results fn tmps).run P (fp l w)=.ok v (fp l w)/\R (.returned v) (fp l w))->
 LeavesInM (FR none) 0 P fn tmps R (l.map fun D=> {target:=.collected D,args:= #[]}) .returning w
 | [],_,_,h=>h
 |D::l,w,hm,h=>⟨by simp,.inl ⟨D,_,rfl,run_takeDeferred hm.1,pI l _ hm.2 h⟩⟩
theorem tf{fn:Func}{K:Value->World->Prop}{ρ:Env}{a:Act}{w:World}(hs:Sat n [] ρ a)(h:HH P fn K ρ w):
 LeavesInM (FR none) 0 P fn a.tmps (fun e w'=>∃v,e=.returned v/\K v w') a.defers .returning w:=by
 have hd:=hs.defers;rw [List.append_nil]at hd;unfold HH at h;unfold marks at hd;split at h
 ·rename_i hn
  rw [hn]at hd;rw [hd];obtain⟨v,hv,hk⟩:=r9 hs h;exact⟨v,hv,v,rfl,hk⟩
 ·rename_i m hn
  rw [hn]at hd;rw [hd];obtain⟨v,hv,hk⟩:=r9 hs h.2;exact pI _ _ h.1 ⟨v,hv,v,rfl,hk⟩
theorem nR:∀(vs:List Value) (i j:Nat) (v:Value),find (mD vs i) j=some v->∃k,j=i+k/\vs[k]? =some v
 | [],_,_,_,h=>by simp [mD,find]at h
 |u::vs,i,j,v,h=>by
  simp only [mD,find]at h;cases hb:Nat.beq i j
  ·rw [hb]at h
   obtain⟨k,hk,hv⟩:=nR vs (i+1) j v h;exact⟨k+1,by omega,by simpa using hv⟩
  ·rw [hb]at h
   cases h;exact⟨0,by have:=Nat.eq_of_beq_eq_true hb;omega,rfl⟩
theorem wC{C:List Nat}(lF:NG P)(lG:P.follows .mixedOrders=true){f:FuncId}{fn:Func}{c:Code}{args:List Value}{w:World}{K:Value->World->Prop}
 (hf:P.funcs[f]? =some fn) (hb:fn.body=some c) (hn:(Nat.ble args.length fn.ntmps&&Nat.ble fn.ntmps fR)=true)
 (h:bg none [] P fn.ntmps C c (aX fn) (bV P fn K) (mD args 0) w):bm P f args.toArray w K:=by
 simp only [Bool.and_eq_true]at hn;have U0:=Nat.le_of_ble_eq_true hn.2;have hn:=Nat.le_of_ble_eq_true hn.1;refine(callsIn_wide (n:=0)).1 (callsIn_of_wp_marks (F:=FR none) hf hb trivial (wpIn_mono (fD lF lG c _ _ _ w h _ ?_) ?_))
 ·refine⟨by simp;omega,?_,fun i v _ hi=>?_⟩
  ·have:find (mD args 0) fR=none:=by
    cases hfd:find (mD args 0) fR with
    |none=>rfl
    |some v=>
     obtain⟨k,hk,hv⟩:=nR _ _ _ _ hfd;have:=(lgeS hv).1;omega
   simp [marks,this]
  ·obtain⟨k,hk,hv⟩:=nR _ _ _ _ hi
   have:i=k:=by omega
   subst this;have cK:i<args.length:=(lgeS hv).1;have hg:args[i]=v:=(lgeS hv).2;simp [Array.getElem?_append,cK,hg]
 ·rintro e a' w' ⟨iR,lS,h'⟩
  cases e with
  |normal=>exact tf lS h'
  |ret=>exact tf lS h'
  |_=>exact h'.elim
theorem BK{C:List Nat}(lF:NG P)(lG:P.follows .mixedOrders=true){f:FuncId}{fn:Func}{c:Code}{args:List Value}{w:World}{K:Value->World->Prop}{W:Prop}
 (hf:P.funcs[f]? =some fn) (hb:fn.body=some c) (hn:(Nat.ble args.length fn.ntmps&&Nat.ble fn.ntmps fR)=true)
 (hs:bg none [] P fn.ntmps C c (aX fn) (bV P fn K) (mD args 0) w=W) (h:W):bm P f args.toArray w K:=
 wC lF lG hf hb hn (Eq.mpr hs h)
theorem cH{C:List Nat}(lF:NG P)(lG:P.follows .mixedOrders=true){c:Code}{U:List Nat}{Q:aM}{ρ:Env}{w:World}{W:Prop}
 (hs:bg r ds P n C c U Q ρ w=W) (h:W):Holds r ds P n c Q ρ w:=fD lF lG c U Q ρ w (Eq.mpr hs h)
theorem bt(lF:NG P)(lG:P.follows .mixedOrders=true){S:Type}(env:S->Env)(I:S->World->Prop)(μ:S->World->Nat){c:Code}{Q:aM}{w:World}(C U:List Nat)(s:S)
 (B:S->aM->World->Prop) (hB:∀s Q w,bg r ds P n C c U Q (env s) w=B s Q w)
 (h0:I s w) (round:∀s w,I s w->B s (bR env I μ s w Q) w):Holds r ds P n (.loop c) Q (env s) w:=
 BU lF lG env I μ C U s h0 fun s w hI=>Eq.mpr (hB s _ w) (round s w hI)
end
def gm(ρ:Env)(D:Nat):Env:=
 match find ρ fR with
 |some (.agg cs)=>put ρ fR (.agg (#[.pointer (some ⟨D,0,none⟩)]++cs))
 |_=>put ρ fR (.agg #[.pointer (some ⟨D,0,none⟩)])
def yI(ρ:Env):Prop:=find ρ fR=none\/∃cs,find ρ fR=some (.agg cs)
theorem BT{ρ:Env}(h:yI ρ)(D:Nat):marks (gm ρ D)= {target:=.collected D,args:= #[]}::marks ρ:=by
 rcases h with h|⟨cs,h⟩
 ·simp only [gm,h,marks,jO,marksOf]
  simp
 ·simp only [gm,h,marks,jO,marksOf]
  simp
theorem vG{ρ:Env}{D i:Nat}(hi:i≠fR):find (gm ρ D) i=find ρ i:=by
 unfold gm;split<;>rw [jO,if_neg (fun e=>hi e.symm)]
def jW:Env->List (Nat×Value)->Env
 |ρ,[]=>ρ
 |ρ,(t,v)::l=>jW (put ρ t v) l
section
variable{P:Program}{n:Nat}
def Q6(Q:aM)(R:Loop)(l:Nat)(ρ:Env)(w:World):Prop:=
 ∃st wF,w.heap[l]? =some (.loop {R with state:=st,pending:=wF})/\st≠ .busy/\
  match wF with
  |none=>Q .normal ρ (w.putObj l (.loop {R with state:=.exhausted,pending:=wF}))
  |some .ret=>Q .ret ρ (w.putObj l (.loop {R with state:=.exhausted,pending:=wF}))
  |some (.exit id)=>Q (.exit id) ρ (w.putObj l (.loop {R with state:=.exhausted,pending:=wF}))
  |_=>False
theorem yA(lF:NG P){t:Nat}{ps:Array Tmp}{assign body:Code}{Q:aM}{ρ:Env}{w:World}{gf:FuncId}{first fi:Array Value}{fn:Func}
 (ht:t≠fR) (hf:find ρ t=some (.func (.func gf) first fi)) (FT:P.funcs[gf]? =some fn) (hb:fn.body.isSome) (hm:yI ρ)
 (h:∀zo tmps,tmps.size=n->(∀i v,i≠fR->find ρ i=some v->tmps.getD i undef=v)->
   ∀R:Loop,R= {state:=.ready,pending:=none,fn:=zo,tmps,params:=ps,assign,body,defers:=w.heap.size}->
   bm P gf (first++ #[.func (.yield (w.heap.size+1)) #[] #[]]++fi) ((w.alloc (.deferred (some []))).alloc (.loop R)) fun _ w2=>Q6 Q R (w.heap.size+1) (gm ρ w.heap.size) w2):
 Holds none [] P n (.rangeFunc (.tmp t) ps assign body) Q ρ w:=by
 intro a hs;have hev:a.eval (.tmp t)=.func (.func gf) first fi:=by
  simp only [Act.eval];exact hs.wh t _ ht hf
 refine wpIn_rangeFunc (F:=FR none) fun zo _=>?_;have AN:=h zo a.tmps hs.size hs.wh _ rfl;generalize hR:({state:=.ready,pending:=none,fn:=zo,tmps:=a.tmps,params:=ps,assign,body,defers:=w.heap.size}:Loop)=R at AN;have Lc:(Instr.enterLoop zo a.tmps ps assign body (FR none).round).run P w=.ok (w.heap.size+1,[{target:=.collected w.heap.size,args:= #[]}]) ((w.alloc (.deferred (some []))).alloc (.loop R)):=by
  rw [<-hR];exact run_enterLoop_outer zo a.tmps ps assign body
 refine⟨_,_,_,{target:=.fn (.func gf) fi,args:=first++ #[.func (.yield (w.heap.size+1)) #[] #[]]},((w.alloc (.deferred (some []))).alloc (.loop R)),gf,first++ #[.func (.yield (w.heap.size+1)) #[] #[]]++fi,((w.alloc (.deferred (some []))).alloc (.loop R)),Lc,?_,fun _ _=>trivial,?_,fun h=>by simp at h,?_⟩
 ·simp [resolve,hev,Deferred.ofValue]
  rfl
 ·have hn:=lF gf fn FT
  have ub:fn.body.isNone=false:=by cases Cn:fn.body<;>simp_all
  simp only [invoke,callFunc,Sem.run_bind,run_program,Result.andThen_ok,FT,hn,ub,Bool.false_eq_true,if_false,Sem.run_pure]
 ·refine tq (Calls.mono AN ?_)
  rintro e w2 ⟨v,rfl,st,wF,hl,ou,hq⟩;refine⟨wF,w2.putObj (w.heap.size+1) (.loop {R with state:=.exhausted,pending:=wF}),run_endLoop hl ou,?_⟩;have En:Sat n [] (gm ρ w.heap.size) {a with defers:= [{target:=.collected w.heap.size,args:= #[]}]++a.defers}:=by
   refine⟨hs.size,?_,fun i v hi hv=>?_⟩
   ·rw [BT hm,hs.defers];rfl
   ·rw [vG hi]at hv
    exact hs.wh i v hi hv
  split at hq
  ·exact⟨_,En,hq⟩
  ·exact wpIn_ret ⟨_,En,hq⟩
  ·exact wpIn_exit ⟨_,En,hq⟩
  ·exact hq.elim
def WW(R:Loop)(l:Nat)(K:Bool->World->Prop):aM
 | .normal,_,w=>∃st,w.heap[l]? =some (.loop {R with state:=st})/\K true (w.putObj l (.loop {R with state:=.ready,pending:=none}))
 | .ret,_,w=>∃st,w.heap[l]? =some (.loop {R with state:=st})/\K false (w.putObj l (.loop {R with state:=.done,pending:=some .ret}))
 | .exit id,_,w=>∃st,w.heap[l]? =some (.loop {R with state:=st})/\K false (w.putObj l (.loop {R with state:=.done,pending:=some (.exit id)}))
 |_,_,_=>False
theorem RoundIn.deep{r:Option Nat}{m l:Nat}{f:FuncId}{tmps:Array Value}{assign body:Code}{w:World}{R:Ending->World->Prop}(h:RoundIn (FR r) 0 P l f tmps assign body w R):RoundIn (FR r) m P l f tmps assign body w R:=
 ⟨h.1,fun c cs _=>h.2 c cs (by simp [Fence.room])⟩
theorem se{ds:List Deferred}:∀(ps:List Nat) (vs:List Value) (ρ:Env) (tmps:Array Value),(∀t∈ps,t<n/\t≠fR)->Sat n ds ρ {tmps,defers:=ds}->find ρ fR=none->
 Sat n ds (jW ρ (ps.zip vs)) {tmps:=(ps.zip vs).foldl (fun tmps (t,a)=>tmps.setIfInBounds t a) tmps,defers:=ds}/\find (jW ρ (ps.zip vs)) fR=none
 | [],vs,ρ,tmps,_,h,hd=>by simp [jW];exact⟨h,hd⟩
 |_::_,[],ρ,tmps,_,h,hd=>by simp [jW];exact⟨h,hd⟩
 |t::ps,v::vs,ρ,tmps,hp,h,hd=>by
  simp only [List.zip_cons_cons,jW,List.foldl_cons];have ht:=hp t (by simp);have h1:=h.put (v:=v) ht.1 ht.2;exact se ps vs _ _ (fun u hu=>hp u (by simp [hu])) h1 (by rw [jO,if_neg ht.2];exact hd)
theorem vZ{l:Nat}{R:Loop}{args:List Value}{w:World}{K:Bool->World->Prop}{ρ0:Env}
 (hl:w.heap[l]? =some (.loop R)) (ou:R.state=.ready) (hn:R.tmps.size=n) (hv:∀i v,i≠fR->find ρ0 i=some v->R.tmps.getD i undef=v) (R8:find ρ0 fR=none)
 (vU:args.length=R.params.size) (RW:∀t∈R.params.toList,t<n/\t≠fR)
 (EN:Holds (some l) [] P n R.assign (fun e MV w1=>match e with
   | .normal=>w1.heap[l]? =some (.loop R)/\Holds (some l) [] P n R.body (WW R l K) MV (w1.putObj l (.loop {R with state:=.busy}))
   |_=>False) (jW ρ0 (R.params.toList.zip args)) w):
 ju P l args.toArray w K:=by
 have PZ:(R.params.zip args.toArray).foldl (fun tmps (t,a)=>tmps.setIfInBounds t a) R.tmps=(R.params.toList.zip args).foldl (fun tmps (t,a)=>tmps.setIfInBounds t a) R.tmps:=by
  rw [<-Array.foldl_toList,Array.toList_zip]
 refine⟨R.fn,_,R.assign,R.body,run_yield hl (by simpa using vU),fun r m=>RoundIn.deep ?_⟩;rw [PZ];have En:=se (n:=n) (ds:= []) R.params.toList args ρ0 R.tmps RW ⟨hn,by simp [marks,R8],hv⟩ R8;refine roundIn_of_wpIn (F:=FR r) trivial (wpIn_mono (EN _ En.1) ?_);rintro e a1 w1 ⟨MV,CU,h1⟩;cases e with
 |normal=>
  obtain⟨vV,h1⟩:=h1;refine⟨_,run_beginRound vV ou,wpIn_mono (h1 _ CU) ?_⟩;rintro e2 a2 w2 ⟨ρ2,yT,h2⟩;cases e2 with
  |normal=>
   obtain⟨st,vy,hk⟩:=h2;exact⟨_,_,run_endRound none vy,true,rfl,hk⟩
  |ret=>
   obtain⟨st,vy,hk⟩:=h2;exact⟨_,_,run_endRound (some .ret) vy,false,rfl,hk⟩
  |exit id=>
   obtain⟨st,vy,hk⟩:=h2;exact⟨_,_,run_endRound (some (.exit id)) vy,false,rfl,hk⟩
  |_=>exact h2.elim
 |_=>exact h1.elim
end
open Go.RowKit
structure Kept(S:Nat->Prop)(w w':World):Prop where
 os:w'.os=w.os
 tape:w'.tape=w.tape
 output:w'.output=w.output
 size:w.heap.size<=w'.heap.size
 block:∀k,k<w.heap.size->¬S k->w'.heap[k]? =w.heap[k]?
abbrev Nil:Nat->Prop:=fun _=>False
section
variable{S S':Nat->Prop}{w w' lf:World}
theorem Kept.refl(S:Nat->Prop)(w:World):Kept S w w:=⟨rfl,rfl,rfl,Nat.le_refl _,fun _ _ _=>rfl⟩
theorem Kept.mono(h:Kept S w w')(hs:∀k,k<w.heap.size->S k->S' k):Kept S' w w':=
 ⟨h.os,h.tape,h.output,h.size,fun k hk hn=>h.block k hk fun hS=>hn (hs k hk hS)⟩
theorem Kept.trans(h:Kept S w w')(h':Kept S' w' lf)(hs:∀k,k<w.heap.size->S' k->S k):Kept S w lf:=
 ⟨h'.os.trans h.os,h'.tape.trans h.tape,h'.output.trans h.output,Nat.le_trans h.size h'.size,fun k hk hn=>
   (h'.block k (Nat.lt_of_lt_of_le hk h.size) fun hS=>hn (hs k hk hS)).trans (h.block k hk hn)⟩
theorem Kept.tt{S:Nat->Prop}{w w' lf:World}(h:Kept S w w')(h':Kept S w' lf):Kept S w lf:=h.trans h' (fun _ _ h=>h)
theorem Kept.drew(h:Kept S w w'):Kept S w w'.drew:=⟨h.os,h.tape,h.output,h.size,h.block⟩
theorem Kept.alloc(h:Kept S w w')(o:Obj):Kept S w (w'.alloc o):=
 ⟨h.os,h.tape,h.output,by have:=h.size;simp;omega,fun k hk hn=>(heap_alloc_old w' o k (Nat.lt_of_lt_of_le hk h.size)).trans (h.block k hk hn)⟩
theorem Kept.setCell(h:Kept S w w'){p:Addr}(hp:p.block<w.heap.size->S p.block)(u:Value):Kept S w (w'.setCell p u):=
 ⟨h.os,h.tape,h.output,by simpa using h.size,fun k hk hn=>(Below.heap_setCell w' p u k (fun e=>hn (e▸hp (e▸hk)))).trans (h.block k hk hn)⟩
theorem Kept.grown{row:Option Nat}(h:Kept S w w')(hg:w'.grownBy lf row)(hr:∀k,row=some k->k<w.heap.size->S k):Kept S w lf:=
 ⟨hg.os.trans h.os,hg.tape.trans h.tape,hg.output.trans h.output,Nat.le_trans h.size hg.size,fun k hk hn=>
   (hg.block k (Nat.lt_of_lt_of_le hk h.size) fun e=>hn (hr k e.symm hk)).trans (h.block k hk hn)⟩
theorem Kept.below(h:Kept S w w'){B:Nat}(hB:B<=w.heap.size)(hs:∀k,k<B->¬S k):Below B w w':=
 ⟨h.os,h.tape,h.output,h.size,fun k hk=>h.block k (Nat.lt_of_lt_of_le hk hB) (hs k hk)⟩
theorem Kept.heap(h:Kept S w w'){k:Nat}{o:Obj}(ho:w.heap[k]? =some o)(hn:¬S k):w'.heap[k]? =some o:=
 (h.block k (Array.getElem?_eq_some_iff.1 ho).1 hn).trans ho
theorem Kept.cell(h:Kept S w w'){p:Addr}{v:Value}(hc:w.cell? p=some v)(hn:¬S p.block):w'.cell? p=some v:=
 (World.cell?_of_block (h.block p.block (World.block_lt_of_cell? w _ hc) hn)).trans hc
end
theorem add_zero(a:Addr):a.add 0=a:=by simp [Addr.add]
theorem bu(b o k:Nat):(⟨b,o,none⟩:Addr).add k=⟨b,o+k,none⟩:=by
 unfold Addr.add;split
 ·subst_vars;rfl
 ·rfl
theorem aD{w:World}{b:Nat}{cs:Array Value}{t:TypeId}{fr:Nat×Nat}(h:w.heap[b]? =some (.cells cs t fr))(j:Nat):w.cell? ⟨b,j,none⟩=cs[j]? :=
 cell_of_row w b j cs t fr h
theorem dL{w:World}{b:Nat}{cs:Array Value}{t:TypeId}(h:w.heap[b]? =some (.cells cs t (0,0))){j:Nat}(hj:j<cs.size):Wr w ⟨b,j,none⟩:=
 ⟨⟨cs[j],by rw [aD h,Array.getElem?_eq_getElem hj]⟩,frozen_of_row w b j cs t h⟩
theorem cY{w:World}{b:Nat}{cs:Array Value}{t:TypeId}(h:w.heap[b]? =some (.cells cs t (0,0)))(j:Nat)(v:Value):
 (w.setCell ⟨b,j,none⟩ v).heap[b]? =some (.cells (cs.setIfInBounds j v) t (0,0)):=heap_setCell_same w b j cs t v h
theorem aR(w:World)(o:Obj):(w.alloc o).heap[w.heap.size]? =some o:=heap_alloc_new w o
theorem jE{w:World}{k:Nat}{x:Obj}(h:w.heap[k]? =some x)(o:Obj):(w.alloc o).heap[k]? =some x:=
 (heap_alloc_old w o k (Array.getElem?_eq_some_iff.1 h).1).trans h
theorem bf{w:World}{k:Nat}{x:Obj}(h:w.heap[k]? =some x):k<w.heap.size:=(Array.getElem?_eq_some_iff.1 h).1
def Dw(P:Program)(e:TypeId)(size bytes:Nat):Bool:=
 match P.info? e with
 |some i=>match i.zero with
  |some z=>Nat.beq i.size size&&Nat.beq i.bytes bytes&&Nat.beq z.cells.size size&&Nat.ble 1 size
  |none=>false
 |none=>false
structure AZ(P:Program)(t e:TypeId)(size bytes:Nat):Prop where
 mY:P.underlying t=some (.slice e)
 chk:Dw P e size bytes=true
theorem AZ.inf{P:Program}{t e:TypeId}{size bytes:Nat}(T:AZ P t e size bytes):
 ∃i z,P.info? e=some i/\i.zero=some z/\i.size=size/\i.bytes=bytes/\z.cells.size=size:=by
 have h:=T.chk;unfold Dw at h;split at h
 ·rename_i i hi
  split at h
  ·rename_i z hz
   simp only [Bool.and_eq_true]at h;exact⟨i,z,hi,hz,Nat.eq_of_beq_eq_true h.1.1.1,Nat.eq_of_beq_eq_true h.1.1.2,Nat.eq_of_beq_eq_true h.1.2⟩
  ·cases h
 ·cases h
theorem AZ.pos{P:Program}{t e:TypeId}{size bytes:Nat}(T:AZ P t e size bytes):0<size:=by
 have h:=T.chk;unfold Dw at h;split at h
 ·split at h
  ·simp only [Bool.and_eq_true]at h
   exact Nat.le_of_ble_eq_true h.2
  ·cases h
 ·cases h
abbrev Row(w:World)(B:Nat)(e:TypeId)(size:Nat)(A:Option Addr)(n c:Nat)(xs:List Value):Prop:=
 w.ownsRow B e size (.slice A n c) n xs
def bp:Option Addr->Option Nat
 |some a=>some a.block
 |none=>none
section
variable{w w':World}{B:Nat}{e:TypeId}{size:Nat}{A:Option Addr}{n c:Nat}{xs:List Value}
theorem Row.own(h:Row w B e size A n c xs):(A=none/\c=0/\n=0/\xs= [])\/
 ∃b cur,A=some ⟨b,0,none⟩/\B<=b/\w.heap[b]? =some (.cells cur e (0,0))/\n<=c/\c<=maxLen/\cur.size=c*size/\cur.toList.take (n*size)=xs:=by
 obtain⟨hl,⟨hv,hn⟩|⟨g,cap,cur,hv,hb,hg,h1,h2,h3,h4⟩⟩:=h
 ·cases hv
  exact .inl ⟨rfl,rfl,rfl,List.eq_nil_of_length_eq_zero (by simpa using hl)⟩
 ·cases hv
  exact .inr ⟨g,cur,rfl,hb,hg,h1,h2,h3,h4⟩
theorem Row.len(h:Row w B e size A n c xs):xs.length=n*size:=h.1
theorem Row.some(h:Row w B e size A n c xs)(hn:0<n):∃b,A=Option.some ⟨b,0,none⟩:=by
 rcases Row.own h with⟨_,_,h,_⟩|⟨b,cur,h,_⟩
 ·omega
 ·exact⟨b,h⟩
theorem Row.cell{b:Nat}(h:Row w B e size (Option.some ⟨b,0,none⟩) n c xs){j:Nat}{v:Value}(hj:xs[j]? =Option.some v):w.cell? ⟨b,j,none⟩=Option.some v:=by
 have:=World.ownsRow.cells h (g:=b) rfl j v hj
 rwa [bu,Nat.zero_add]at this
theorem Row.cells{b:Nat}(h:Row w B e size (Option.some ⟨b,0,none⟩) n c xs):∀j u,xs[j]? =Option.some u->w.cell? ((⟨b,0,none⟩:Addr).add j)=Option.some u:=
 World.ownsRow.cells h (g:=b) rfl
theorem Row.wr{b:Nat}(h:Row w B e size (Option.some ⟨b,0,none⟩) n c xs){j:Nat}(hj:j<xs.length):Wr w ⟨b,j,none⟩:=by
 rcases Row.own h with⟨h,_⟩|⟨b',cur,hA,_,hg,Cf,_,hs,yS⟩
 ·cases h
 ·cases hA
  refine dL hg ?_;have:=h.len;have h1:n*size<=c*size:=Nat.mul_le_mul_right _ Cf;omega
theorem Row.set{b:Nat}(h:Row w B e size (Option.some ⟨b,0,none⟩) n c xs){j:Nat}(_hj:j<xs.length)(v:Value):
 Row (w.setCell ⟨b,j,none⟩ v) B e size (Option.some ⟨b,0,none⟩) n c (xs.set j v):=by
 rcases Row.own h with⟨h,_⟩|⟨b',cur,hA,hB,hg,Cf,hm,hs,yS⟩
 ·cases h
 ·cases hA
  refine⟨by rw [List.length_set];exact h.len,.inr ⟨b,c,cur.setIfInBounds j v,rfl,hB,cY hg j v,Cf,hm,by simpa using hs,?_⟩⟩;rw [Array.toList_setIfInBounds,<-yS,List.take_set]
theorem Row.bS(h:Row w B e size A n c xs){k:Nat}(hk:bp A=Option.some k):B<=k/\∃cur,w.heap[k]? =Option.some (.cells cur e (0,0)):=by
 rcases Row.own h with⟨rfl,_⟩|⟨b,cur,rfl,hB,hg,_⟩
 ·cases hk
 ·cases hk;exact⟨hB,cur,hg⟩
theorem Row.aK{S:Nat->Prop}(h:Row w B e size A n c xs)(hk:Kept S w w')(hn:∀k,bp A=Option.some k->¬S k):Row w' B e size A n c xs:=by
 refine⟨h.1,?_⟩;rcases h.2 with hv|⟨g,cap,cur,hv,hb,hg,rest⟩
 ·exact .inl hv
 ·cases hv
  exact .inr ⟨g,c,cur,rfl,hb,hk.heap hg (hn g rfl),rest⟩
theorem Row.base{B':Nat}(h:Row w B e size A n c xs)(hb:∀k,bp A=Option.some k->B'<=k):Row w B' e size A n c xs:=by
 refine⟨h.1,?_⟩;rcases h.2 with hv|⟨g,cap,cur,hv,_,rest⟩
 ·exact .inl hv
 ·cases hv
  exact .inr ⟨g,c,cur,rfl,hb g rfl,rest⟩
theorem Row.nil(w:World)(B:Nat)(e:TypeId)(size:Nat):Row w B e size none 0 0 []:=World.ownsRow_nil w B e size
theorem Row.made{w:World}{b:Nat}{cur:Array Value}(hg:w.heap[b]? =Option.some (.cells cur e (0,0)))(hB:B<=b)(hs:cur.size=n*size)(hm:n<=maxLen):
 Row w B e size (Option.some ⟨b,0,none⟩) n n cur.toList:=
 ⟨by simpa using hs,.inr ⟨b,n,cur,rfl,hB,hg,Nat.le_refl _,hm,hs,List.take_of_length_le (by simp [hs])⟩⟩
theorem iu{P:Program}{t:TypeId}{bytes ty:Nat}(T:AZ P t e size bytes)(h:Row w B e size A n c xs){a:Addr}{m cx:Nat}{news:List Value}
 (hl:news.length=m*size) (Ay:∀j u,news[j]? =Option.some u->w.cell? (a.add j)=Option.some u) (h1:∀u∈news,u.oneCell'=true)
 (hb:(n+m)*bytes<=140737488355328) (hm:n+m<=maxLen) (hB:B<=w.heap.size):
 ∃A' c' w',(Builtin.append_ #[t,t] ty #[.slice A n c,.slice (Option.some a) m cx]).run P w=.ok (.slice A' (n+m) c') w'/\
  Row w' B e size A' (n+m) c' (xs++news)/\w.grownBy w' (bp A)/\(∀k,bp A'=Option.some k->bp A=Option.some k\/w.heap.size<=k):=by
 obtain⟨i,z,hi,hz,hs,FU,FD⟩:=T.inf;have EO:B<=w.heap.size:=hB;obtain⟨v',w',hr,pO,hg,_⟩:=run_append_own (P:=P) w B t ty e i z size bytes T.mY hi hz hs FU FD T.pos _ n xs h a m cx news hl Ay h1 hm hb EO;have hbo:Value.ownBlock (.slice A n c)=bp A:=by cases A<;>rfl
 rw [hbo]at hg;have PX:∃A' c',v'=.slice A' (n+m) c':=by
  rcases pO.2 with⟨rfl,hn⟩|⟨g,cap,cur,rfl,_⟩
  ·exact⟨none,0,by rw [hn]⟩
  ·exact⟨_,_,rfl⟩
 obtain⟨A',c',rfl⟩:=PX;refine⟨A',c',w',hr,pO,hg,fun k hk=>?_⟩;by_cases hA:bp A=Option.some k
 ·exact .inl hA
 ·right
  rcases Row.own h with⟨rfl,rfl,rfl,rfl⟩|⟨b,cur,rfl,hBb,PQ,Cf,mI,mH,yS⟩
  ·have h2:=run_append_own (P:=P) w w.heap.size t ty e i z size bytes T.mY hi hz hs FU FD T.pos _ 0 [] (World.ownsRow_nil w w.heap.size e size) a m cx news hl Ay h1 hm hb (Nat.le_refl _)
   obtain⟨v2,w2,lg,OX,_⟩:=h2;rw [hr]at lg;cases lg;exact(Row.bS OX hk).1
  ·by_cases qT:n+m<=c
   ·exfalso
    have lg:=run_append_room (P:=P) w t ty e i T.mY hi b n c cur PQ a m cx news (by rw [hs];exact hl) Ay h1 qT (by rw [hs,hl,mH,<-Nat.add_mul];exact Nat.mul_le_mul_right _ qT);rw [hr]at lg;cases lg;exact hA hk
   ·have lg:=run_append_grow (P:=P) w t ty e i z T.mY hi hz ⟨b,0,none⟩ n c xs (by rw [hs];exact h.len) (Row.cells h) a m cx news (by rw [hs];exact hl) Ay (by omega) (by simp only [maxLen]at hm;omega) (growslice_fits (by omega) (by rw [FU];exact hb))
    rw [hr]at lg;cases lg;simp [bp]at hk;omega
end
structure Live(l D:Nat)(R:Loop)(w:World):Prop where
 loop:w.heap[l]? =some (.loop R)
 mark:w.heap[D]? =some (.deferred (some []))
theorem Live.aK{S:Nat->Prop}{l D:Nat}{R:Loop}{w w':World}(h:Live l D R w)(hk:Kept S w w')(h1:¬S l)(h2:¬S D):Live l D R w':=
 ⟨hk.heap h.loop h1,hk.heap h.mark h2⟩
theorem Kept.put{S:Nat->Prop}{w w':World}(h:Kept S w w'){l:Nat}(hl:l<w.heap.size->S l)(o:Obj):Kept S w (w'.putObj l o):=
 ⟨h.os,h.tape,h.output,by rw [World.putObj_size];exact h.size,fun k hk hn=>(World.putObj_heap_other (fun e=>hn (by subst e;exact hl hk))).trans (h.block k hk hn)⟩
theorem Kept.putAt(w:World)(l:Nat)(o:Obj):Kept (· =l) w (w.putObj l o):=
 Kept.put (S:=fun k=>k=l) (Kept.refl _ w) (fun _=>rfl) o
theorem Live.put{l D:Nat}{R:Loop}{w:World}(h:Live l D R w)(hd:D≠l)(R':Loop):Live l D R' (w.putObj l (.loop R')):=
 ⟨World.putObj_heap_same (bf h.loop),(World.putObj_heap_other hd).trans h.mark⟩
def lY(P:Program)(gf:FuncId)(first fi:Array Value)(xs:List (List Value))(F5:World->Prop):Prop:=
 ∀(l:Nat) (I:Nat->World->Prop) (D:World->Prop) (w0:World),(∀i w' lf,I i w'->Kept Nil w' lf->I i lf)->(∀w' lf,D w'->Kept Nil w' lf->D lf)->(∀i w',I i w'->F5 w')->I 0 w0->
  (∀i x w',xs[i]? =some x->I i w'->ju P l x.toArray w' fun b lf=>(b=true->I (i+1) lf)/\(b=false->D lf))->
  bm P gf (first++ #[.func (.yield l) #[] #[]]++fi) w0 fun _ w'=>I xs.length w'\/D w'
def WX(l D:Nat)(R:Loop)(J:World->Prop)(Jd:Code->World->Prop):aM
 | .normal,_,w=>Live l D R w/\J w
 | .ret,_,w=>Live l D R w/\Jd .ret w
 | .exit id,_,w=>Live l D R w/\Jd (.exit id) w
 |_,_,_=>False
section
variable{P:Program}{n:Nat}
theorem mu(lF:NG P)(lG:P.follows .mixedOrders=true)(C:List Nat){t:Nat}{ps:Array Tmp}{path:Code}{Q:aM}{ρ:Env}{w:World}{gf:FuncId}{first fi:Array Value}{fn:Func}
 (OS:path=.rangeFunc (.tmp t) ps (rA path) (rB path)) (ht:t≠fR) (hf:find ρ t=some (.func (.func gf) first fi)) (FT:P.funcs[gf]? =some fn) (hb:fn.body.isSome) (hm:yI ρ)
 {ρ0:Env} (hρ:∀i v,i≠fR->find ρ0 i=some v->find ρ i=some v) (R8:find ρ0 fR=none)
 {α:Type} (enc:α->List Value) (xs:List α) (VG:∀x,(enc x).length=ps.size) (vU:∀t∈ps.toList,t<n/\t≠fR)
 {F5:World->Prop} (hit:lY P gf first fi (xs.map enc) F5)
 (J:Nat->World->Prop) (Jd:Code->World->Prop)
 (hJ:∀i w' lf R,Live (w.heap.size+1) w.heap.size R w'->J i w'->Kept (· =w.heap.size+1) w' lf->J i lf)
 (QK:∀e w' lf R,Live (w.heap.size+1) w.heap.size R w'->Jd e w'->Kept (· =w.heap.size+1) w' lf->Jd e lf)
 (pN:∀i w',J i w'->F5 w')
 (h0:∀R,J 0 ((w.alloc (.deferred (some []))).alloc (.loop R)))
 (EN:∀i x w' R,xs[i]? =some x->J i w'->Live (w.heap.size+1) w.heap.size R w'->
   bg (some (w.heap.size+1)) [] P n C (rA path) (cu (rB path)) (fun e MV w1=>match e with
    | .normal=>Live (w.heap.size+1) w.heap.size R w1/\∀w2 R2,Kept (· =w.heap.size+1) w1 w2->Live (w.heap.size+1) w.heap.size R2 w2->bg (some (w.heap.size+1)) [] P n C (rB path) [] (WX (w.heap.size+1) w.heap.size R2 (J (i+1)) Jd) MV w2
    |_=>False) (jW ρ0 (ps.toList.zip (enc x))) w')
 (VF:∀w' R,J xs.length w'->Live (w.heap.size+1) w.heap.size R w'->Q .normal (gm ρ w.heap.size) w')
 (Et:∀w' R,Jd .ret w'->Live (w.heap.size+1) w.heap.size R w'->Q .ret (gm ρ w.heap.size) w')
 (P8:∀id w' R,Jd (.exit id) w'->Live (w.heap.size+1) w.heap.size R w'->Q (.exit id) (gm ρ w.heap.size) w'):
 Holds none [] P n path Q ρ w:=by
 rw [OS];have fJ:w.heap.size≠w.heap.size+1:=by omega
 refine yA lF ht hf FT hb hm fun zo tmps Oy Ow R hR=>?_;have UG:∀x:α,(enc x).length=R.params.size:=fun x=>by rw [VG x,hR]
 have KU:Live (w.heap.size+1) w.heap.size R ((w.alloc (.deferred (some []))).alloc (.loop R)):=by
  have h1:=aR (w.alloc (.deferred (some []))) (.loop R);simp only [World.alloc,Array.size_push]at h1⊢;exact⟨h1,jE (aR w _) _⟩
 have hRR:({R with state:=.ready,pending:=none}:Loop)=R:=by rw [hR]
 have Ce:∀ {w' lf},Kept Nil w' lf->Kept (· =w.heap.size+1) w' lf:=fun h=>h.mono fun _ _ h=>h.elim;have AN:=hit (w.heap.size+1) (fun i w'=>Live (w.heap.size+1) w.heap.size R w'/\J i w')
  (fun w'=>∃e,(e=.ret\/∃id,e=.exit id)/\Live (w.heap.size+1) w.heap.size {R with state:=.done,pending:=some e} w'/\Jd e w')
  ((w.alloc (.deferred (some []))).alloc (.loop R))
  (fun i w' lf h k=>⟨h.1.aK k (fun h=>h) (fun h=>h),hJ i w' lf R h.1 h.2 (Ce k)⟩)
  (fun w' lf h k=>by
    obtain⟨e,he,hl,hd⟩:=h;exact⟨e,he,hl.aK k (fun h=>h) (fun h=>h),QK e w' lf _ hl hd (Ce k)⟩)
  (fun i w' h=>pN i w' h.2) ⟨KU,h0 R⟩
  (fun i x w' hx h=>by
    rw [List.getElem?_map]at hx;obtain⟨a,ha,rfl⟩:∃a,xs[i]? =some a/\enc a=x:=by
     cases Mm:xs[i]? with
     |none=>rw [Mm]at hx;simp at hx
     |some a=>rw [Mm]at hx;exact⟨a,rfl,by simpa using hx⟩
    obtain⟨hl,hj⟩:=h;refine vZ (n:=n) (ρ0:=ρ0) hl.loop (by rw [hR]) (by rw [hR];exact Oy) (fun i v hi hv=>by rw [hR];exact Ow i v hi (hρ i v hi hv)) R8 (UG a) (by rw [hR];exact vU) ?_;have Qk:=EN i a w' R ha hj hl;rw [<-show R.params=ps by rw [hR],<-show R.assign=rA path by rw [hR],<-show R.body=rB path by rw [hR]]at Qk;refine Holds.mono (fD lF lG _ _ _ _ _ Qk) ?_;rintro e MV w1 h1;cases e with
    |normal=>
     obtain⟨vV,h1⟩:=h1;refine⟨vV.loop,?_⟩;have vy:=vV.put fJ {R with state:=.busy};refine Holds.mono (fD lF lG _ _ _ _ _ (h1 _ _ (Kept.putAt _ _ _) vy)) ?_;rintro e2 ρ2 w2 h2;cases e2 with
     |normal=>
      have Ze:=h2.1.put fJ {R with state:=.ready,pending:=none};have hrr:Live (w.heap.size+1) w.heap.size R (w2.putObj (w.heap.size+1) (.loop {R with state:=.ready,pending:=none})):=by
       rw [hRR]at Ze⊢;exact Ze
      refine⟨_,h2.1.loop,fun _=>⟨hrr,hJ _ _ _ _ h2.1 h2.2 (Kept.putAt _ _ _)⟩,fun h=>by cases h⟩
     |ret=>
      refine⟨_,h2.1.loop,(fun h=>by cases h),fun _=>⟨.ret,.inl rfl,h2.1.put fJ _,QK _ _ _ _ h2.1 h2.2 (Kept.putAt _ _ _)⟩⟩
     |exit id=>
      refine⟨_,h2.1.loop,(fun h=>by cases h),fun _=>⟨.exit id,.inr ⟨id,rfl⟩,h2.1.put fJ _,QK _ _ _ _ h2.1 h2.2 (Kept.putAt _ _ _)⟩⟩
     |_=>exact h2.elim
    |_=>exact h1.elim)
 refine Calls.mono AN ?_;rintro e w2 ⟨v,rfl,h⟩;refine⟨v,rfl,?_⟩;rcases h with⟨hl,hj⟩|⟨e,he,hl,hj⟩
 ·refine⟨R.state,R.pending,hl.loop,by rw [hR];simp,?_⟩
  have hp:R.pending=none:=by rw [hR]
  rw [hp];rw [List.length_map]at hj;have k:Kept (· =w.heap.size+1) w2 (w2.putObj (w.heap.size+1) (.loop {R with state:=.exhausted,pending:=none})):=Kept.putAt _ _ _;exact VF _ _ (hJ _ _ _ _ hl hj k) (hl.put fJ _)
 ·refine⟨.done,some e,hl.loop,by simp,?_⟩
  have k:Kept (· =w.heap.size+1) w2 (w2.putObj (w.heap.size+1) (.loop {R with state:=.exhausted,pending:=some e})):=Kept.putAt _ _ _;rcases he with rfl|⟨id,rfl⟩
  ·exact Et _ _ (QK _ _ _ _ hl hj k) (hl.put fJ _)
  ·exact P8 id _ _ (QK _ _ _ _ hl hj k) (hl.put fJ _)
end
end Go.bE
