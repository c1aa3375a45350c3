import Derived.CallsIn
import Derived.OrdersIn
import Derived.KernelRfl
import Derived.Laws.AppendOwn
import Derived.Laws.Cells
import Derived.Laws.Sem
import Derived.Laws.Tables
import Derived.ChangeKeysEq
import Derived.Great.BuildSlice
import Derived.Great.FillDense
import Derived.RangeFuncRecord
import Derived.Below
open Go.IntKind (i64 u64)
set_option linter.unusedVariables false
namespace Go.bE
abbrev aU(b:Nat):Addr:=⟨b,0,none⟩
abbrev yM(n:Int):Array Value:= #[.int .u8 n,.int .u8 0,.int .u8 0,.int .u8 0,.int .u8 0,.int .u8 0,.int .u8 0,.int .u8 0,.int .u8 0,.int .u8 0,.int .u8 0,.int .u8 0,.int .u8 0,.int .u8 0,.int .u8 0,.int .u8 0,.int .u8 0,.int .u8 0,.int .u8 0,.int .u8 0,.int .u8 0,.int .u8 0,.int .u8 0,.int .u8 0,.int .u8 0,.int .u8 0,.int .u8 0,.int .u8 0,.int .u8 0,.int .u8 0,.int .u8 0,.int .u8 0]
theorem _root_.lgeS{α:Type _}{l:List α}{i:Nat}{a:α}(h:l[i]? =some a):∃h:i<l.length,l[i]=a:=List.getElem?_eq_some_iff.mp h
abbrev FR(r:Option Nat):Fence:= {fn:=fun _=>True,depth:=none,alive:=false,round:=r}
def Split(b:Bool)(A B:Prop):Prop:=match b with|true=>A|false=>B
theorem Split.mk{b:Bool}{A B:Prop}(h1:b=true->A)(h2:b=false->B):Split b A B:=by cases b;exact h2 rfl;exact h1 rfl
theorem Split.dec{p:Prop}[Decidable p]{A B:Prop}(h1:p->A)(h2:¬p->B):Split (decide p) A B:=by
 by_cases h:p
 ·rw [decide_eq_true h];exact h1 h
 ·rw [decide_eq_false h];exact h2 h
theorem Split.yes{b:Bool}{A B:Prop}(h:b=true)(h1:A):Split b A B:=by subst h;exact h1
theorem Split.no{b:Bool}{A B:Prop}(h:b=false)(h1:B):Split b A B:=by subst h;exact h1
def Is{α:Type}(p:Option α)(k:α->Prop):Prop:=match p with|some a=>k a|none=>False
theorem Is.out{α:Type}{p:Option α}{k:α->Prop}(h:Is p k):∃a,p=some a/\k a:=by
 cases p with
 |none=>exact h.elim
 |some a=>exact⟨a,rfl,h⟩
theorem Is.mk{α:Type}{p:Option α}{k:α->Prop}{a:α}(h:p=some a)(hk:k a):Is p k:=by subst h;exact hk
inductive Kd where
 |int (k:IntKind)|bool|str|ptr|slice|map|agg (n:Nat)|other|bad
def lg(P:Program)(t:TypeId):Kd:=
 match P.underlying t with
 |some (.int k)=>.int k
 |some .bool=>.bool
 |some .string=>.str
 |some (.pointer _)=>.ptr
 |some (.slice _)=>.slice
 |some (.map _ _)=>.map
 |some (.struct _)=>.agg (P.cellsOf t)
 |some (.array _ _)=>.agg (P.cellsOf t)
 |some _=>.other
 |none=>.bad
def Any(d:Kd)(k:Value->Prop):Prop:=
 match d with
 | .int kk=>∃n,k (.int kk n)
 | .bool=>∃b,k (.bool b)
 | .str=>∃s,k (.string s)
 | .ptr=>∃p,k (.pointer p)
 | .slice=>∃A n m,k (.slice A n m)
 | .map=>∃r,k (.map r)
 | .agg _=>∃cs,k (.agg cs)
 | .other=>∃v,k v
 | .bad=>False
theorem Any.out{d:Kd}{k:Value->Prop}(h:Any d k):∃v,k v:=by
 cases d<;>simp only [Any]at h
 case int=>obtain⟨n,h⟩:=h;exact⟨_,h⟩
 case bool=>obtain⟨n,h⟩:=h;exact⟨_,h⟩
 case str=>obtain⟨n,h⟩:=h;exact⟨_,h⟩
 case ptr=>obtain⟨n,h⟩:=h;exact⟨_,h⟩
 case slice=>obtain⟨A,n,m,h⟩:=h;exact⟨_,h⟩
 case map=>obtain⟨n,h⟩:=h;exact⟨_,h⟩
 case agg=>obtain⟨n,h⟩:=h;exact⟨_,h⟩
 case other=>exact h
def Cell(d:Kd)(c:Option Value)(k:Value->Prop):Prop:=Any d fun v=>c=some v/\k v
theorem Cell.out{d:Kd}{c:Option Value}{k:Value->Prop}(h:Cell d c k):∃v,c=some v/\k v:=Any.out h
def Cells(w:World)(a:Addr)(cs:Array Value):Prop:=∀j v,cs[j]? =some v->w.cell? (a.add j)=some v
def vo(op:BinOp)(kk:IntKind)(a b:Int)(k:Value->Prop):Prop:=
 match op with
 | .add=>k (.int kk (kk.wrap (a+b)))
 | .sub=>k (.int kk (kk.wrap (a-b)))
 | .mul=>k (.int kk (kk.wrap (a*b)))
 | .quo=>b≠0/\k (.int kk (kk.wrap (a.tdiv b)))
 | .rem=>b≠0/\k (.int kk (a.tmod b))
 | .and=>k (.int kk (kk.wrap (BitVec.ofInt kk.bits a&&& BitVec.ofInt kk.bits b).toNat))
 | .or=>k (.int kk (kk.wrap (BitVec.ofInt kk.bits a|||BitVec.ofInt kk.bits b).toNat))
 | .xor=>k (.int kk (kk.wrap (BitVec.ofInt kk.bits a ^^^ BitVec.ofInt kk.bits b).toNat))
 | .andNot=>k (.int kk (kk.wrap (BitVec.ofInt kk.bits a&&& ~~~ BitVec.ofInt kk.bits b).toNat))
 | .eql=>k (.bool (a==b))
 | .neq=>k (.bool (a != b))
 | .lss=>k (.bool (decide (a<b)))
 | .leq=>k (.bool (decide (a<=b)))
 | .gtr=>k (.bool (decide (a>b)))
 | .geq=>k (.bool (decide (a>=b)))
 |_=>False
def fT(kk:IntKind)(n:Nat)(cs:Array Value):Prop:=cs.size=n/\∀v∈cs.toList,∃i,v=.int kk i
def kF:Value->Int
 | .int _ i=>i
 |_=>0
def gh(a b:Array Value):Bool:=a.toList.map kF==b.toList.map kF
def Ki(v:Value):Prop:=v=.nilFunc\/∃a b c,v=.func a b c
def Gu:Value->Bool
 | .nilFunc=>true
 |_=>false
def nE(P:Program)(op:BinOp)(t:TypeId)(x:Value)(k:Value->Prop):Prop:=
 match op,P.underlying t with
 | .eql,some (.func _ _ _)=>Ki x/\k (.bool (Gu x))
 | .neq,some (.func _ _ _)=>Ki x/\k (.bool (!Gu x))
 |_,_=>False
def pW(P:Program)(op:BinOp)(t:TypeId)(a b:Array Value)(k:Value->Prop):Prop:=
 match P.underlying t with
 |some (.array n e)=>match P.underlying e,P.info? e with
  |some (.int kk),some inf=>match Nat.beq inf.size 1&& !P.eqGuardType P.depth t with
   |true=>match op with
    | .eql=>(fT kk n a/\fT kk n b)/\k (.bool (gh a b))
    | .neq=>(fT kk n a/\fT kk n b)/\k (.bool (!gh a b))
    |_=>False
   |false=>False
  |_,_=>False
 |_=>False
def pV(P:Program)(op:BinOp)(t:TypeId)(x y:Value)(k:Value->Prop):Prop:=
 match x,y with
 | .int ka a,.int kb b=>
   match op with
   | .shl=>0<=b/\k (.int ka (ka.wrap (a*2 ^ (min b.toNat ka.bits))))
   | .shr=>0<=b/\k (.int ka (a.fdiv (2 ^ (min b.toNat ka.bits))))
   |op=>match decide (ka=kb)with|true=>vo op ka a b k|false=>False
 | .bool a,.bool b=>
   match op,P.underlying t with
   | .eql,some .bool=>k (.bool (a==b))
   | .neq,some .bool=>k (.bool (!(a==b)))
   |_,_=>False
 | .pointer p,.pointer none=>
   match op,P.underlying t with
   | .eql,some (.pointer _)=>k (.bool p.isNone)
   | .neq,some (.pointer _)=>k (.bool (!p.isNone))
   |_,_=>False
 | .slice A _ _,.slice none _ _=>
   match op,P.underlying t with
   | .eql,some (.slice _)=>k (.bool A.isNone)
   | .neq,some (.slice _)=>k (.bool (!A.isNone))
   |_,_=>False
 | .map r,.map none=>
   match op,P.underlying t with
   | .eql,some (.map _ _)=>k (.bool r.isNone)
   | .neq,some (.map _ _)=>k (.bool (!r.isNone))
   |_,_=>False
 | .agg a,.agg b=>pW P op t a b k
 |_,_=>False
def Nx(lo:Option Value)(k:Nat->Prop)(h:Nat):Prop:=
 match lo with
 |none=>k 0
 |some (.int _ i)=>(0<=i/\i<=(h:Int))/\k i.toNat
 |_=>False
def Mw(hi:Option Value)(len top:Nat)(k:Nat->Prop):Prop:=
 match hi with
 |none=>k len
 |some (.int _ i)=>(0<=i/\i<=(top:Int))/\k i.toNat
 |_=>False
def pB(P:Program)(t:TypeId)(cs:Array Value)(off:Nat)(k:Value->Prop):Prop:=
 match lg P t with
 | .agg n=>k (.agg (cs.extract off (off+n)))
 |d=>Cell d cs[off]? k
def pr(P:Program)(f:Operand->Value)(o:Oper)(k:Value->Prop):Prop:=
 match o.op with
 | .move x=>k (f x)
 | .assign x=>k (f x)
 | .pick c a b=>match f c with| .bool t=>Split t (k (f a)) (k (f b))|_=>False
 | .nilCheck x=>
   match f x with
   | .pointer p=>Is p fun a=>k (.pointer (some a))
   | .func (.func g) fs cs=>k (.func (.func g) fs cs)
   |_=>False
 | .binOp op t x y _=>match y,f y with
   | .const _,.nilFunc=>nE P op t (f x) k
   |_,v=>pV P op t (f x) v k
 | .unOp op _ x=>
   match op,f x with
   | .not,.bool b=>k (.bool !b)
   | .neg,.int kk n=>k (.int kk (kk.wrap (0-n)))
   |_,_=>False
 | .convert src dst x=>
   match P.underlying src,P.underlying dst,f x with
   |some (.int _),some (.int kd),.int _ n=>k (.int kd (kd.wrap n))
   |_,_,_=>False
 | .fieldAddr s x i=>
   match P.underlying s,f x with
   |some (.struct fs),.pointer (some a)=>
    match fs[i]? with
    |some fd=>Is (P.info? fd.type) fun inf=>match inf.size with
     |0=>False
     |_+1=>k (.pointer (some (a.add fd.offset)))
    |none=>False
   |_,_=>False
 | .field s x i=>
   match P.underlying s,f x with
   |some (.struct fs),.agg cs=>
    match fs[i]? with
    |some fd=>pB P fd.type cs fd.offset k
    |none=>False
   |_,_=>False
 | .indexAddr t x ix=>
   match P.underlying t,f x,f ix with
   |some (.slice e),.slice A n _,.int _ i=>Is (P.info? e) fun inf=>(0<=i/\i<(n:Int))/\Is A fun a=>k (.pointer (some (a.add (i.toNat*inf.size))))
   |some (.array n e),.pointer (some a),.int _ i=>Is (P.info? e) fun inf=>(0<=i/\i<(n:Int))/\k (.pointer (some (a.add (i.toNat*inf.size))))
   |_,_,_=>False
 | .index t x ix=>
   match P.underlying t,f x,f ix with
   |some (.array n e),.agg cs,.int _ i=>Is (P.info? e) fun inf=>(0<=i/\i<(n:Int))/\pB P e cs (i.toNat*inf.size) k
   |_,_,_=>False
 | .slice t x lo hi none=>
   match P.underlying t,f x with
   |some (.slice e),.slice A n c=>Is (P.info? e) fun inf=>Mw (hi.map f) n c fun h=>Nx (lo.map f) (fun l=>k (.slice (if c=l then A else A.map (·.add (l*inf.size))) (h-l) (c-l))) h
   |some (.array n e),.pointer (some a)=>Is (P.info? e) fun inf=>Mw (hi.map f) n n fun h=>Nx (lo.map f) (fun l=>k (.slice (some (if n=l then a else a.add (l*inf.size))) (h-l) (n-l))) h
   |_,_=>False
 | .slice t x lo (some hi) (some mx)=>
   match P.underlying t,f x with
   |some (.slice e),.slice A n c=>Is (P.info? e) fun inf=>Mw (some (f mx)) n c fun m=>Mw (some (f hi)) n m fun h=>Nx (lo.map f) (fun l=>k (.slice (if m=l then A else A.map (·.add (l*inf.size))) (h-l) (m-l))) h
   |_,_=>False
 | .extract x i=>match f x with| .tuple vs=>Is vs[i]? k|_=>False
 | .build t parts=>Is (P.built t (parts.toList.map fun p=>(p.1,f p.2))) fun cells=>k (.agg cells)
 | .makeFunc fn first captured=>k (.func fn (first.toList.map f).toArray (captured.toList.map f).toArray)
 | .call c=>
   match c.callee,c.args.toList,c.argTypes.toList with
   | .builtin .len,[x],[t]=>
     match P.underlying t,f x with
     |some (.slice _),.slice _ n _=>k (.int .i64 n)
     |some .string,.string s=>k (.int .i64 s.size)
     |_,_=>False
   |_,_,_=>False
 |_=>False
section
variable{P:Program}{f:Operand->Value}{o:Oper}{k:Value->Prop}
theorem pG{t:TypeId}{n:Nat}(h:lg P t=.agg n):n=P.cellsOf t/\∀w,(isAgg t).run P w=.ok true w:=by
 unfold lg at h;split at h<;>simp at h<;>(rename_i hd;refine⟨h.symm,fun w=>?_⟩;simp [isAgg,run_underlying hd])
theorem wY{t:TypeId}(hn:∀n,lg P t≠ .agg n)(hs:(P.underlying t).isSome):∀w,(isAgg t).run P w=.ok false w:=by
 intro w;obtain⟨d,hd⟩:=Option.isSome_iff_exists.1 hs;unfold lg at hn;rw [hd]at hn;cases d<;>first|(simp [isAgg,run_underlying hd];done)|exact absurd rfl (hn _)
theorem run_sizeOf{t:TypeId}{i:TypeInfo}(hi:P.info? t=some i)(w:World):(sizeOf t).run P w=.ok (P.cellsOf t) w:=by
 simp [sizeOf,typeInfo,hi,Program.cellsOf]
theorem info_of_underlying{t:TypeId}(h:(P.underlying t).isSome):∃i,P.info? t=some i:=by
 unfold Program.underlying at h;cases hi:P.info? t with
 |none=>simp [hi]at h
 |some i=>exact⟨i,rfl⟩
end
section
variable{P:Program}{f:Operand->Value}{o:Oper}{k:Value->Prop}
def Q9(P:Program)(s:Sem Value)(v:Value):Prop:=∀w,s.run P w=.ok v w
theorem nC{t:TypeId}{cs:Array Value}{off:Nat}(h:pB P t cs off k):∃v,Q9 P (part t cs off) v/\k v:=by
 unfold pB at h;split at h
 ·rename_i n hn
  obtain⟨rfl,ha⟩:=pG hn;have hs:(P.underlying t).isSome:=by
   unfold lg at hn;split at hn<;>simp_all
  obtain⟨i,hi⟩:=info_of_underlying hs;exact⟨_,fun w=>by simp [part,ha w,run_sizeOf hi],h⟩
 ·rename_i d hd
  obtain⟨v,hv,hk⟩:=h.out;by_cases hs:(P.underlying t).isSome
  ·exact⟨v,fun w=>by simp [part,wY (fun n e=>hd n e) hs w,hv],hk⟩
  ·exfalso
   have:P.underlying t=none:=by simpa using hs
   have hb:lg P t=.bad:=by unfold lg;rw [this]
   rw [hb]at h;exact h
theorem tT{op:BinOp}{t:TypeId}{kk:IntKind}{a b:Int}(h:vo op kk a b k):∃v,Q9 P (Go.binOp op t (.int kk a) (.int kk b)) v/\k v:=by
 cases op<;>simp only [vo]at h
 case quo=>exact⟨_,fun w=>by simp [Go.binOp,Op.intDiv,h.1],h.2⟩
 case rem=>exact⟨_,fun w=>by simp [Go.binOp,Op.intDiv,h.1],h.2⟩
 all_goals exact⟨_,fun w=>by simp [Go.binOp,Op.intArith,Op.intBits,Op.intCmp];try rfl,h⟩
section eq
variable(d:Nat){t:TypeId}(w:World)
theorem qE(h:P.underlying t=some .bool)(a b:Bool):(Op.equalIn (d+1) t (.bool a) (.bool b)).run P w=.ok (a==b) w:=by
 simp [Op.equalIn,run_underlying h]
theorem rV{e:TypeId}(h:P.underlying t=some (.pointer e))(p:Option Addr):(Op.equalIn (d+1) t (.pointer p) (.pointer none)).run P w=.ok p.isNone w:=by
 cases p<;>simp [Op.equalIn,run_underlying h]
theorem po{e:TypeId}(h:P.underlying t=some (.slice e))(p:Option Addr)(n m n' m':Nat):(Op.equalIn (d+1) t (.slice p n m) (.slice none n' m')).run P w=.ok p.isNone w:=by
 cases p<;>simp [Op.equalIn,run_underlying h]
theorem run_eq_map{e e':TypeId}(h:P.underlying t=some (.map e e'))(p:Option Nat):(Op.equalIn (d+1) t (.map p) (.map none)).run P w=.ok p.isNone w:=by
 cases p<;>simp [Op.equalIn,run_underlying h]
theorem nu{x:Value}{a b:Array TypeId}{c:Bool}(h:P.underlying t=some (.func a b c))(hx:Ki x):(Op.equalIn (d+1) t x .nilFunc).run P w=.ok (Gu x) w:=by
 rcases hx with rfl|⟨_,_,_,rfl⟩<;>simp [Op.equalIn,run_underlying h,Gu]
theorem tI(x y:Value)(a b:List Value):((x::a).map kF==(y::b).map kF)=((kF x==kF y)&&(a.map kF==b.map kF)):=rfl
theorem qf{e:TypeId}{kk:IntKind}{i:TypeInfo}(he:P.underlying e=some (.int kk))(hi:P.info? e=some i)(h1:i.size=1)(xs ys:Array Value)(hx:∀v∈xs.toList,∃i,v=.int kk i)(hy:∀v∈ys.toList,∃i,v=.int kk i):
 ∀(m s:Nat),s+m=xs.size->s+m=ys.size->(Op.eqItems (d+1) e (P.cellsOf e) xs ys (List.range' s m)).run P w=.ok ((xs.toList.drop s).map kF==(ys.toList.drop s).map kF) w:=by
 have hc:P.cellsOf e=1:=by simp [Program.cellsOf,hi,h1]
 have Hw:∀w,(isAgg e).run P w=.ok false w:=fun w=>by simp [isAgg,run_underlying he]
 intro m
 induction m with
 |zero=>
  intro s hs lP;have e1:xs.toList.drop s= []:=List.drop_eq_nil_of_le (by simp;omega);have e2:ys.toList.drop s= []:=List.drop_eq_nil_of_le (by simp;omega);simp [List.range',Op.eqItems,e1,e2]
 |succ m ih=>
  intro s hs lP;have Y3:s<xs.size:=by omega
  have Y2:s<ys.size:=by omega
  obtain⟨a,ha⟩:=hx xs[s] (by simp);obtain⟨b,hb⟩:=hy ys[s] (by simp);have gx:xs[s]? =some (.int kk a):=by rw [Array.getElem?_eq_getElem Y3,ha]
  have gy:ys[s]? =some (.int kk b):=by rw [Array.getElem?_eq_getElem Y2,hb]
  have dx:xs.toList.drop s=.int kk a::xs.toList.drop (s+1):=by
   rw [List.drop_eq_getElem_cons (by simpa using Y3)];congr 1
  have dy:ys.toList.drop s=.int kk b::ys.toList.drop (s+1):=by
   rw [List.drop_eq_getElem_cons (by simpa using Y2)];congr 1
  have hq:(Op.equalIn (d+1) e (.int kk a) (.int kk b)).run P w=.ok (a==b) w:=by simp [Op.equalIn,run_underlying he]
  have px:(part e xs (s*P.cellsOf e)).run P w=.ok (.int kk a) w:=by simp [part,Hw w,hc,gx]
  have py:(part e ys (s*P.cellsOf e)).run P w=.ok (.int kk b) w:=by simp [part,Hw w,hc,gy]
  rw [dx,dy];simp only [List.range',Op.eqItems,Sem.run_bind,px,py,hq,Result.andThen_ok,tI,kF];cases mH:(a==b)
  ·simp
  ·have:=ih (s+1) (by omega) (by omega)
   simp [this]
theorem nv{e:TypeId}{n:Nat}{kk:IntKind}{i:TypeInfo}{a b:Array Value}(hu:P.underlying t=some (.array n e))(he:P.underlying e=some (.int kk))(hi:P.info? e=some i)(h1:i.size=1)(ha:fT kk n a)(hb:fT kk n b):
 (Op.equalIn (d+2) t (.agg a) (.agg b)).run P w=.ok (gh a b) w:=by
 have h:=run_equalIn_array (P:=P) w (d+1) a b hu hi;rw [h,List.range_eq_range',qf d w he hi h1 a b ha.2 hb.2 n 0 (by rw [ha.1];omega) (by rw [hb.1];omega)];simp [gh]
theorem kK{x y:Value}{b:Bool}(h:∀d w,(Op.equalIn (d+1) t x y).run P w=.ok b w)(hb:Go.binOp .eql t x y=(do pure (.bool (<-Op.equal t x y)))):(Go.binOp .eql t x y).run P w=.ok (.bool b) w:=by
 rw [hb];have:=h 9999 w;simp only [Sem.run_bind,Op.equal,Op.maxDepth];rw [this];rfl
theorem wm{x y:Value}{b:Bool}(h:∀d w,(Op.equalIn (d+2) t x y).run P w=.ok b w)(hb:Go.binOp .eql t x y=(do pure (.bool (<-Op.equal t x y)))):(Go.binOp .eql t x y).run P w=.ok (.bool b) w:=by
 rw [hb];have:=h 9998 w;simp only [Sem.run_bind,Op.equal,Op.maxDepth];rw [this];rfl
theorem wk{x y:Value}{b:Bool}(h:∀d w,(Op.equalIn (d+2) t x y).run P w=.ok b w)(hb:Go.binOp .neq t x y=(do pure (.bool (!(<-Op.equal t x y))))):(Go.binOp .neq t x y).run P w=.ok (.bool !b) w:=by
 rw [hb];have:=h 9998 w;simp only [Sem.run_bind,Op.equal,Op.maxDepth];rw [this];rfl
theorem kI{x y:Value}{b:Bool}(h:∀d w,(Op.equalIn (d+1) t x y).run P w=.ok b w)(hb:Go.binOp .neq t x y=(do pure (.bool (!(<-Op.equal t x y))))):(Go.binOp .neq t x y).run P w=.ok (.bool !b) w:=by
 rw [hb];have:=h 9999 w;simp only [Sem.run_bind,Op.equal,Op.maxDepth];rw [this];rfl
end eq
theorem uh{op:BinOp}{t:TypeId}{a b:Array Value}(h:pW P op t a b k):∃v,Q9 P (Go.binOp op t (.agg a) (.agg b)) v/\k v:=by
 unfold pW at h;split at h
 ·rename_i n e hu
  split at h
  ·rename_i kk inf he hi
   split at h
   ·rename_i hb
    simp only [Bool.and_eq_true]at hb;have h1:=Nat.eq_of_beq_eq_true hb.1;split at h
    ·exact⟨_,fun w=>wm w (fun d w=>nv d w hu he hi h1 h.1.1 h.1.2) rfl,h.2⟩
    ·exact⟨_,fun w=>wk w (fun d w=>nv d w hu he hi h1 h.1.1 h.1.2) rfl,h.2⟩
    ·exact h.elim
   ·exact h.elim
  ·exact h.elim
 ·exact h.elim
theorem ui{op:BinOp}{t:TypeId}{a b:Array Value}(h:pW P op t a b k):P.eqGuardType P.depth t=false:=by
 unfold pW at h;split at h
 ·split at h
  ·split at h
   ·rename_i hb
    simp only [Bool.and_eq_true]at hb;simpa using hb.2
   ·exact h.elim
  ·exact h.elim
 ·exact h.elim
theorem se{op:BinOp}{t:TypeId}{x:Value}(h:nE P op t x k):∃v,Q9 P (Go.binOp op t x .nilFunc) v/\k v:=by
 unfold nE at h;split at h
 ·rename_i hu
  refine⟨_,fun w=>kK w (fun d w=>nu d w hu h.1) ?_,h.2⟩;rcases h.1 with rfl|⟨_,_,_,rfl⟩<;>rfl
 ·rename_i hu
  refine⟨_,fun w=>kI w (fun d w=>nu d w hu h.1) ?_,h.2⟩;rcases h.1 with rfl|⟨_,_,_,rfl⟩<;>rfl
 ·exact h.elim
theorem sf{op:BinOp}{t:TypeId}{x:Value}{y z:Operand}(h:nE P op t x k)(w:World):(eqGuard op t y z x .nilFunc).run P w=.ok () w:=by
 unfold nE at h;split at h
 ·rcases h.1 with rfl|⟨_,_,_,rfl⟩<;>simp [eqGuard]
 ·rcases h.1 with rfl|⟨_,_,_,rfl⟩<;>simp [eqGuard]
 ·exact h.elim
theorem uf{op:BinOp}{t:TypeId}{x y:Value}(h:pV P op t x y k):∃v,Q9 P (Go.binOp op t x y) v/\k v:=by
 unfold pV at h;split at h
 ·rename_i ka a kb b
  split at h
  ·obtain⟨hb,h⟩:=h
   exact⟨_,fun w=>by simp [Go.binOp,Op.shift,Int.not_lt.2 hb],h⟩
  ·obtain⟨hb,h⟩:=h
   exact⟨_,fun w=>by simp [Go.binOp,Op.shift,Int.not_lt.2 hb],h⟩
  ·rename_i op h1 h2
   split at h
   ·rename_i hd
    obtain rfl:=of_decide_eq_true hd;exact tT h
   ·exact h.elim
 ·split at h
  ·rename_i hd
   exact⟨_,fun w=>kK w (fun d w=>qE d w hd _ _) rfl,h⟩
  ·rename_i hd
   exact⟨_,fun w=>kI w (fun d w=>qE d w hd _ _) rfl,h⟩
  ·exact h.elim
 ·rename_i p
  split at h
  ·rename_i hd
   exact⟨_,fun w=>kK w (fun d w=>rV d w hd _) rfl,h⟩
  ·rename_i hd
   exact⟨_,fun w=>kI w (fun d w=>rV d w hd _) rfl,h⟩
  ·exact h.elim
 ·rename_i A _ _ _ _
  split at h
  ·rename_i hd
   exact⟨_,fun w=>kK w (fun d w=>po d w hd _ _ _ _ _) rfl,h⟩
  ·rename_i hd
   exact⟨_,fun w=>kI w (fun d w=>po d w hd _ _ _ _ _) rfl,h⟩
  ·exact h.elim
 ·rename_i r
  split at h
  ·rename_i hd
   exact⟨_,fun w=>kK w (fun d w=>run_eq_map d w hd _) rfl,h⟩
  ·rename_i hd
   exact⟨_,fun w=>kI w (fun d w=>run_eq_map d w hd _) rfl,h⟩
  ·exact h.elim
 ·exact uh h
 ·exact h.elim
theorem ou{hi:Option Value}{len top:Nat}{k:Nat->Prop}(h:Mw hi len top k):
 ∃m,(∀code w,(match hi with|some v=>Instr.sliceBound v top code|none=>pure len).run P w=.ok m w)/\k m:=by
 unfold Mw at h;split at h
 ·exact⟨_,fun _ w=>by simp,h⟩
 ·obtain⟨hb,h⟩:=h
  exact⟨_,fun _ w=>by simp [Instr.sliceBound,asIntOf,hb],h⟩
 ·exact h.elim
theorem qm{lo:Option Value}{top:Nat}{k:Nat->Prop}(h:Nx lo k top):
 ∃m,(∀code w,(match lo with|some v=>Instr.sliceBound v top code|none=>pure 0).run P w=.ok m w)/\k m:=by
 unfold Nx at h;split at h
 ·exact⟨_,fun _ w=>by simp,h⟩
 ·obtain⟨hb,h⟩:=h
  exact⟨_,fun _ w=>by simp [Instr.sliceBound,asIntOf,hb],h⟩
 ·exact h.elim
def Rc(P:Program)(f:Operand->Value)(o:Oper)(v:Value):Prop:=∀w,(execOp f o).run P w=.ok (.value v) w
theorem sU{a:Addr}{fd:Field}{inf:TypeInfo}{m:Nat}(hi:P.info? fd.type=some inf)(hm:inf.size=m+1)(w:World):
 (fieldPlace a fd).run P w=.ok (a.add fd.offset) w:=by
 simp [fieldPlace,sizeOf,typeInfo,hi,hm]
theorem toArray_map{α β:Type}(g:α->β)(xs:Array α):(xs.toList.map g).toArray=xs.map g:=by
 rw [<-Array.toList_map]
theorem xA{w:World}{op:BinOp}{t:TypeId}{x y:Operand}{u v:Value}(h:pV P op t u v k):(eqGuard op t x y u v).run P w=.ok () w:=by
 unfold pV at h;split at h<;>first|exact h.elim|(unfold eqGuard;simp;done)|(have hg:=ui h;unfold eqGuard;simp [hg])
theorem nA(h:pr P f o k):∃v,Rc P f o v/\k v:=by
 unfold pr at h;split at h
 ·rename_i x ho
  exact⟨_,fun w=>by simp [execOp,ho],h⟩
 ·rename_i x ho
  exact⟨_,fun w=>by simp [execOp,ho],h⟩
 ·rename_i c a b ho
  split at h
  ·rename_i t ht
   cases t
   ·exact⟨_,fun w=>by simp [execOp,ho,ht,asBool],h⟩
   ·exact⟨_,fun w=>by simp [execOp,ho,ht,asBool],h⟩
  ·exact h.elim
 ·rename_i x ho
  split at h
  ·rename_i p hp
   obtain⟨a,rfl,h⟩:=h.out;exact⟨_,fun w=>by simp [execOp,ho,hp],h⟩
  ·rename_i g fs cs hp
   exact⟨_,fun w=>by simp [execOp,ho,hp],h⟩
  ·exact h.elim
 ·rename_i op t x y yt ho
  split at h
  ·rename_i c hf
   obtain⟨v,hv,hk⟩:=se h;refine⟨v,fun w=>?_,hk⟩;have hg:(eqGuard op t x (.const c) (f x) .nilFunc).run P w=.ok () w:=sf h w;simp [execOp,ho,hf,hg,hv w]
  ·obtain⟨v,hv,hk⟩:=uf h
   refine⟨v,fun w=>?_,hk⟩;have hg:=fun(x y:Operand) (w:World)=>xA (x:=x) (y:=y) (w:=w) h;simp [execOp,ho,hg,hv w]
 ·rename_i op t x ho
  split at h
  ·rename_i b hb
   exact⟨_,fun w=>by simp [execOp,ho,hb,Op.unary],h⟩
  ·rename_i kk n hb
   exact⟨_,fun w=>by simp [execOp,ho,hb,Op.unary,Op.intArith],h⟩
  ·exact h.elim
 ·rename_i src dst x ho
  split at h
  ·rename_i k1 kd k2 n h1 h2 h3
   exact⟨_,fun w=>by simp [execOp,ho,h3,Go.convert,run_underlying h1,run_underlying h2,Conv.intToInt],h⟩
  ·exact h.elim
 ·rename_i s x i ho
  split at h
  ·rename_i fs a h1 h2
   split at h
   ·rename_i fd hf
    obtain⟨inf,hi,h⟩:=h.out;split at h
    ·exact h.elim
    ·rename_i m hm
     exact⟨_,fun w=>by simp [execOp,ho,h2,Instr.fieldAt,run_underlying h1,hf,Instr.sureAddr,sU hi hm],h⟩
   ·exact h.elim
  ·exact h.elim
 ·rename_i s x i ho
  split at h
  ·rename_i fs cs h1 h2
   split at h
   ·rename_i fd hf
    obtain⟨v,hv,hk⟩:=nC h;exact⟨v,fun w=>by simp [execOp,ho,h2,Instr.field,run_underlying h1,hf,asAgg,hv w],hk⟩
   ·exact h.elim
  ·exact h.elim
 ·rename_i t x ix ho
  split at h
  ·rename_i e A n c kk i h1 h2 h3
   obtain⟨inf,hi,hb,h⟩:=h.out;obtain⟨a,rfl,h⟩:=h.out;exact⟨_,fun w=>by simp [execOp,ho,h2,h3,Instr.indexAt,asIntOf,run_underlying h1,hb,sizeOf,typeInfo,hi],h⟩
  ·rename_i n e a kk i h1 h2 h3
   obtain⟨inf,hi,hb,h⟩:=h.out;exact⟨_,fun w=>by simp [execOp,ho,h2,h3,Instr.indexAt,Instr.sureAddr,asIntOf,run_underlying h1,hb,sizeOf,typeInfo,hi],h⟩
  ·exact h.elim
 ·rename_i t x ix ho
  split at h
  ·rename_i n e cs kk i h1 h2 h3
   obtain⟨inf,hi,hb,h⟩:=h.out;obtain⟨v,hv,hk⟩:=nC h;exact⟨v,fun w=>by simp [execOp,ho,h2,h3,Instr.index,asIntOf,run_underlying h1,hb,sizeOf,typeInfo,hi,hv w],hk⟩
  ·exact h.elim
 ·rename_i t x lo hi ho
  split at h
  ·rename_i e A n c h1 h2
   obtain⟨inf,gK,h⟩:=h.out;obtain⟨hh,r1,h⟩:=ou (P:=P) h;obtain⟨ll,r2,h⟩:=qm (P:=P) h;refine⟨_,fun w=>?_,h⟩;have e1:=r1 .sliceAcap w;have e2:=r2 .sliceB w;cases lo<;>cases hi<;>simp_all [execOp,Instr.sliceAt,Instr.slice,Instr.sliceBounds,run_underlying h1,sizeOf,typeInfo]
  ·rename_i n e a h1 h2
   obtain⟨inf,gK,h⟩:=h.out;obtain⟨hh,r1,h⟩:=ou (P:=P) h;obtain⟨ll,r2,h⟩:=qm (P:=P) h;refine⟨_,fun w=>?_,h⟩;have e1:=r1 .sliceAlen w;have e2:=r2 .sliceB w;cases lo<;>cases hi<;>simp_all [execOp,Instr.sliceAt,Instr.sureAddr,Instr.sliceBounds,run_underlying h1,sizeOf,typeInfo]
  ·exact h.elim
 ·rename_i t x lo hi mx ho
  split at h
  ·rename_i e A n c h1 h2
   obtain⟨inf,gK,h⟩:=h.out;obtain⟨mm,r0,h⟩:=ou (P:=P) h;obtain⟨hh,r1,h⟩:=ou (P:=P) h;obtain⟨ll,r2,h⟩:=qm (P:=P) h;refine⟨_,fun w=>?_,h⟩;have e0:=r0 .slice3Acap w;have e1:=r1 .slice3B w;have e2:=r2 .slice3C w;cases lo<;>simp_all [execOp,Instr.sliceAt,Instr.slice,Instr.sliceBounds,run_underlying h1,sizeOf,typeInfo]
  ·exact h.elim
 ·rename_i x i ho
  split at h
  ·rename_i vs hv
   obtain⟨v,hi,h⟩:=h.out;exact⟨v,fun w=>by simp [execOp,ho,hv,Instr.extract,hi],h⟩
  ·exact h.elim
 ·rename_i t parts ho
  obtain⟨cells,hc,h⟩:=h.out;refine⟨_,fun w=>?_,h⟩;have hp:(parts.map fun(i,x)=>(i,f x)).toList=parts.toList.map fun p=>(p.1,f p.2):=by rw [Array.toList_map]
  have hr:=run_build (P:=P) w t (parts.map fun(i,x)=>(i,f x)) cells (by rw [hp];exact hc);simp only [execOp,ho,Sem.run_bind,hr,Result.andThen_ok,Sem.run_pure]
 ·rename_i fn first captured ho
  exact⟨.func fn (first.map f) (captured.map f),fun w=>by simp [execOp,ho,Instr.makeFunc],by rwa [toArray_map,toArray_map]at h⟩
 ·rename_i c ho
  split at h
  ·rename_i x t hc ha ht
   obtain⟨callee,args,Z3⟩:=c;obtain⟨args⟩:=args;obtain⟨Z3⟩:=Z3;simp only at hc ha ht;subst hc ha ht;split at h
   ·rename_i e A n m h1 h2
    exact⟨_,fun w=>by simp [execOp,ho,resolve,invoke,builtin,Builtin.len_,h2,run_underlying h1,goInt],h⟩
   ·rename_i s h1 h2
    exact⟨_,fun w=>by simp [execOp,ho,resolve,invoke,builtin,Builtin.len_,h2,run_underlying h1,goInt],h⟩
   ·exact h.elim
  ·exact h.elim
 ·exact h.elim
end
def Xh(P:Program)(s:Sem Value)(w:World)(k:Value->World->Prop):Prop:=∃v w',s.run P w=.ok v w'/\k v w'
def Rk(P:Program)(s:Sem Value)(w:World)(k:Value->World->Prop):Prop:=∃A n c w',s.run P w=.ok (.slice A n c) w'/\k (.slice A n c) w'
def DoP(P:Program)(s:Sem Value)(w:World)(k:Value->World->Prop):Prop:=∃(a:Option Addr) (w':World),s.run P w=.ok (.pointer a) w'/\k (.pointer a) w'
def Xi(P:Program)(s:Sem Value)(w:World)(k:Value->World->Prop):Prop:=
 (∃w':World,s.run P w=.ok (.tuple #[.bool false]) w'/\k (.tuple #[.bool false]) w')\/∃(a b:Value) (w':World),s.run P w=.ok (.tuple #[.bool true,a,b]) w'/\k (.tuple #[.bool true,a,b]) w'
def HJ(d:Option Tmp)(i:Nat):List Oper->Option TypeId
 | []=>none
 |o::r=>match o.op,d with
  | .extract (.tmp t) j,some d=>match Nat.beq t d&&Nat.beq i j with|true=>some o.type|false=>HJ (some d) i r
  |_,d=>HJ d i r
def HR(P:Program)(t:Option TypeId)(k:Value->Prop):Prop:=match t with|some t=>Any (lg P t) k|none=>∃v:Value,k v
def Z8(P:Program)(s:Sem Unit)(w:World)(k:Value->World->Prop):Prop:=∃w',s.run P w=.ok () w'/\k undef w'
def NG(P:Program):Prop:=∀(g:Nat) fn,P.funcs[g]? =some fn->(fn.name== "runtime.NumGoroutine")=false
def CK(P:Program):List TypeId->List Value->(List Value->Prop)->Prop
 | [],acc,k=>k acc
 |t::ts,acc,k=>Any (lg P t) fun v=>CK P ts (acc++ [v]) k
def LP(P:Program)(ts:List TypeId)(v:Value)(k:Value->Prop):Prop:=
 match ts with
 | [t]=>Any (lg P t) fun u=>v=u/\k u
 |ts=>CK P ts [] fun us=>v=.tuple us.toArray/\k (.tuple us.toArray)
theorem CK.out{P:Program}:∀ {ts:List TypeId} {acc:List Value} {k:List Value->Prop},CK P ts acc k->∃us,k us
 | [],_,_,h=>⟨_,h⟩
 |_::_,_,_,h=>let ⟨_,h⟩:=Any.out h;CK.out h
theorem LP.out{P:Program}{ts:List TypeId}{v:Value}{k:Value->Prop}(h:LP P ts v k):k v:=by
 unfold LP at h;split at h
 ·obtain⟨u,e,h'⟩:=Any.out h;rw [e];exact h'
 ·obtain⟨us,e,h'⟩:=CK.out h;rw [e];exact h'
def bf(P:Program)(g:FuncId)(args:Array Value)(w:World)(k:Value->World->Prop):Prop:=
 Calls P g args w fun e w'=>∃v,e=.returned v/\k v w'
def o4(P:Program)(t:TypeId)(a:Addr)(v:Value)(w:World):Prop:=
 match lg P t with
 | .agg n=>∃cs,v=.agg cs/\cs.size=n/\Cells w a cs
 |_=>w.cell? a=some v
def xS(P:Program)(t:TypeId)(a:Addr)(w:World)(k:Value->Prop):Prop:=
 match lg P t with
 | .agg n=>∃cs:Array Value,(cs.size=n/\Cells w a cs)/\k (.agg cs)
 |d=>Cell d (w.cell? a) k
theorem xS.ok{P:Program}{t:TypeId}{a:Addr}{w:World}{k:Value->Prop}(h:xS P t a w k):∃v,o4 P t a v w/\k v:=by
 unfold xS at h;split at h
 ·rename_i n hn
  obtain⟨cs,⟨h1,h2⟩,h3⟩:=h;exact⟨_,by unfold o4;rw [hn];exact⟨cs,rfl,h1,h2⟩,h3⟩
 ·rename_i d hd
  obtain⟨v,h1,h2⟩:=h.out;refine⟨v,?_,h2⟩;unfold o4;split
  ·rename_i n hn;exact absurd hn (hd n)
  ·exact h1
theorem o4.run{P:Program}{t:TypeId}{a:Addr}{w:World}{v:Value}(h:o4 P t a v w)(hu:(P.underlying t).isSome):(loadVar t a).run P w=.ok v w:=by
 unfold o4 at h;split at h
 ·rename_i n hn
  obtain⟨cs,rfl,h1,h2⟩:=h;obtain⟨rfl,ha⟩:=pG hn;obtain⟨i,hi⟩:=info_of_underlying hu;have hl:=run_loadCells_list (P:=P) w a cs.toList (fun j v hv=>h2 j v (by simpa using hv));have:cs.toList.length=P.cellsOf t:=by simpa using h1
  rw [this]at hl;simp [loadVar,ha w,run_sizeOf hi,hl]
 ·rename_i hd
  simp [loadVar,wY (fun n e=>hd n e) hu w,h]
def Aa(P:Program)(op:BinOp)(t:TypeId)(x y:Value)(w:World)(k:Value->Prop):Prop:=
 match x,y with
 | .pointer p,.pointer q=>
   match op with
   | .eql=>∃b:Bool,(Go.binOp .eql t (.pointer p) (.pointer q)).run P w=.ok (.bool b) w/\k (.bool b)
   | .neq=>∃b:Bool,(Go.binOp .neq t (.pointer p) (.pointer q)).run P w=.ok (.bool b) w/\k (.bool b)
   |_=>False
 |_,_=>False
def wQ(P:Program)(t:TypeId)(x ix:Value)(comma:Bool)(w:World)(k:Value->Prop):Prop:=
 match P.underlying t with
 |some (.map _ e)=>
  match comma with
  |false=>Any (lg P e) fun u=>(Instr.lookup t x ix false).run P w=.ok u w/\k u
  |true=>Any (lg P e) fun u=>∃b:Bool,(Instr.lookup t x ix true).run P w=.ok (.tuple #[u,.bool b]) w/\k (.tuple #[u,.bool b])
 |_=>False
def Ah(P:Program)(f:Operand->Value)(c:Call)(ty:TypeId)(w:World)(k:Value->Prop):Prop:=
 match c.callee,c.args.toList,c.argTypes.toList with
 | .builtin .len,[x],[t]=>
   match P.underlying t with
   |some (.map _ _)=>∃n:Nat,(Builtin.len_ #[t] ty #[f x]).run P w=.ok (.int .i64 (n:Int)) w/\k (.int .i64 (n:Int))
   |_=>False
 |_,_,_=>False
def pq(P:Program)(f:Operand->Value)(o:Oper)(w:World)(k:Value->Prop):Prop:=
 match o.op with
 | .load t x=>match f x,P.underlying t with| .pointer (some a),some _=>xS P t a w k|_,_=>False
 | .lookup t x ix comma=>wQ P t (f x) (f ix) comma w k
 | .binOp op t x y _=>Aa P op t (f x) (f y) w k
 | .call c=>Ah P f c o.type w k
 |_=>False
def fc(P:Program)(f:Operand->Value)(o:Oper)(v:Value)(w:World):Prop:=
 match o.op with
 | .load t x=>match f x with| .pointer (some a)=>o4 P t a v w|_=>False
 | .lookup t x ix comma=>(Instr.lookup t (f x) (f ix) comma).run P w=.ok v w
 | .binOp op t x y _=>(Go.binOp op t (f x) (f y)).run P w=.ok v w
 | .call c=>(Builtin.len_ c.argTypes o.type (c.args.map f)).run P w=.ok v w
 |_=>False
section
variable{P:Program}{f:Operand->Value}{o:Oper}
theorem nz{w:World}{k:Value->Prop}(h:pq P f o w k):
 ∃v,fc P f o v w/\(∀w',fc P f o v w'->(execOp f o).run P w'=.ok (.value v) w')/\k v:=by
 unfold pq at h;split at h
 ·rename_i t x ho
  split at h
  ·rename_i a d hx hu
   obtain⟨v,h1,h2⟩:=h.ok;refine⟨v,by simp only [fc,ho,hx];exact h1,fun w' hs=>?_,h2⟩;simp only [fc,ho,hx]at hs;simp [execOp,ho,hx,Instr.loadAt,Instr.sureAddr,hs.run (by simp [hu])]
  ·exact h.elim
 ·rename_i t x ix comma ho
  unfold wQ at h;split at h
  ·split at h
   ·obtain⟨u,h1,h2⟩:=h.out
    refine⟨u,by simp only [fc,ho];exact h1,fun w' hs=>?_,h2⟩;simp only [fc,ho]at hs;simp only [execOp,ho,Sem.run_bind,hs,Result.andThen_ok,Sem.run_pure]
   ·obtain⟨u,b,h1,h2⟩:=h.out
    refine⟨_,by simp only [fc,ho];exact h1,fun w' hs=>?_,h2⟩;simp only [fc,ho]at hs;simp only [execOp,ho,Sem.run_bind,hs,Result.andThen_ok,Sem.run_pure]
  ·exact h.elim
 ·rename_i op t x y yt ho
  unfold Aa at h;split at h
  ·rename_i p q hp hq
   have hg:∀(op:BinOp) (w:World),(eqGuard op t x y (f x) (f y)).run P w=.ok () w:=fun op w=>by rw [hp,hq];unfold eqGuard;simp
   have key:∀(XI:BinOp) (b:Bool),op=XI->(Go.binOp XI t (.pointer p) (.pointer q)).run P w=.ok (.bool b) w->k (.bool b)->
    ∃v,fc P f o v w/\(∀w',fc P f o v w'->(execOp f o).run P w'=.ok (.value v) w')/\k v:=by
    rintro _ b rfl h1 h2;refine⟨.bool b,by simp only [fc,ho];rw [hp,hq];exact h1,fun w' hs=>?_,h2⟩;simp only [fc,ho]at hs;simp only [execOp,ho,Sem.run_bind,hg,hs,Result.andThen_ok,Sem.run_pure]
   split at h
   ·obtain⟨b,h1,h2⟩:=h
    exact key _ b rfl h1 h2
   ·obtain⟨b,h1,h2⟩:=h
    exact key _ b rfl h1 h2
   ·exact h.elim
  ·exact h.elim
 ·rename_i c ho
  unfold Ah at h;split at h
  ·rename_i x t hc ha ht
   split at h
   ·obtain⟨n,h1,h2⟩:=h
    have ea:c.args= #[x]:=by apply Array.ext';simpa using ha
    have et:c.argTypes= #[t]:=by apply Array.ext';simpa using ht
    refine⟨_,by simpa [fc,ho,ea,et]using h1,fun w' hs=>?_,h2⟩;simp only [fc,ho]at hs;simp only [execOp,ho,resolve,hc,invoke,builtin,Sem.run_bind,Sem.run_pure,hs,Result.andThen_ok]
   ·exact h.elim
  ·exact h.elim
 ·exact h.elim
end
def Wr(w:World)(a:Addr):Prop:=(∃v,w.cell? a=some v)/\w.frozen? a=false
def setCells(w:World)(a:Addr):List Value->Nat->World
 | [],_=>w
 |v::r,i=>setCells (w.setCell (a.add i) v) a r (i+1)
def nZ(size:Nat):List Value->Prop->Prop
 | [],k=>k
 | .agg cs::r,k=>cs.size=size/\nZ size r k
 |_::r,k=>match Nat.beq size 1 with|true=>nZ size r k|false=>False
def Fu(P:Program)(t:TypeId)(a:Addr)(v:Value)(w:World)(k:World->Prop):Prop:=
 match lg P t,v with
 | .agg n,.agg cs=>(cs.size=n/\(∀c∈cs.toList,c.oneCell'=true)/\∀j,j<n->Wr w (a.add j))/\k (setCells w a cs.toList 0)
 | .agg _,_=>False
 |_,v=>match v.oneCell',P.info? t with
  |true,some inf=>match inf.size with
   |1=>Wr w a/\k (w.setCell a v)
   |_=>False
  |_,_=>False
def AY(P:Program)(g:FuncId)(args:Array Value)(w:World)(k:Value->World->Prop):Prop:=
 ∃v w',(callFunc g args).run P w=.ok (.value v) w'/\k v w'
def jt(P:Program)(l:Nat)(args:Array Value)(w:World)(R:Bool->World->Prop):Prop:=
 ∃g tmps assign body,(Instr.yield l args).run P w=.ok (.round l g tmps assign body) w/\
  ∀r m,RoundIn (FR r) m P l g tmps assign body w fun e w'=>∃b:Bool,e=.returned (.bool b)/\R b w'
def jO(P:Program)(fv:Value)(args:List Value)(w:World)(k:Value->World->Prop):Prop:=
 match fv with
 | .func (.func g) first fh=>
   match P.funcs[g]? with
   |some fn=>match fn.body with
    |some _=>bf P g (first.toList++args++fh.toList).toArray w fun v w'=>LP P fn.resultTypes.toList v fun v=>k v w'
    |none=>AY P g (first.toList++args++fh.toList).toArray w fun v w'=>LP P fn.resultTypes.toList v fun v=>k v w'
   |none=>False
 | .func (.yield l) first _=>jt P l (first.toList++args).toArray w fun b w'=>k (.bool b) w'
 |_=>False
def sl(s:Nat):List Oper->Bool
 | []=>false
 |o::r=>match o.dst,o.op with
  |some d,.load .. =>Nat.beq d s||sl s r
  |_,_=>sl s r
def AZ(P:Program)(v:Value)(args:List Value)(rt:TypeId)(w:World)(k:Value->World->Prop):Prop:=
 ∃(g:Nat) (first fh:Array Value) (fn:Func),v=.func (.func g) first fh/\P.funcs[g]? =some fn/\fn.body.isSome=true/\
  bf P g (first.toList++args++fh.toList).toArray w fun r w'=>Any (lg P rt) fun u=>r=u/\k u w'
def rJ(P:Program)(ops:Array Oper)(f:Operand->Value)(o:Oper)(w:World)(k:Value->World->Prop):Prop:=
 match o.op with
 | .alloc t=>Is (P.info? t) fun i=>Is i.zero fun z=>k (.pointer (some ⟨w.heap.size,0,none⟩)) (w.alloc (.cells z.cells t))
 | .box t x=>k (.pointer (some ⟨w.heap.size,0,none⟩)) (w.alloc (.cells (f x).cells t))
 | .buildSlice t len parts=>
   match P.underlying t with
   |some (.slice e)=>Is (P.info? e) fun i=>Is i.zero fun z=>
    match Nat.beq len 0 with
    |true=>match parts.toList with
     | []=>k (.slice (some ⟨w.heap.size,0,none⟩) 0 0) (w.alloc (.cells #[] e))
     |_=>False
    |false=>match Nat.ble (len*i.size) 16777216&&Nat.beq z.cells.size i.size&&Nat.ble 1 i.size&&Nat.ble 1 len&&(parts.toList.map (·.1)==List.range len)with
    |true=>nZ i.size (parts.toList.map fun p=>f p.2)
      (k (.slice (some ⟨w.heap.size,0,none⟩) len len) (w.alloc (.cells ((parts.toList.map fun p=>f p.2).flatMap fun v=>v.cells.toList).toArray e)))
    |false=>False
   |_=>False
 | .store t x y=>match f x with| .pointer (some a)=>Fu P t a (f y) w (k undef)|_=>False
 | .makeSlice t l c=>Rk P (Instr.makeSlice t (f l) (f c)) w k
 | .makeMap t r=>match r with|none=>k (.map (some w.heap.size)) (w.alloc (.map #[] 0))|some _=>Xh P (Instr.makeMap t (r.map f)) w k
 | .mapUpdate t m x y=>Z8 P (Instr.mapUpdate t (f m) (f x) (f y)) w k
 | .insert t m x y=>Z8 P (Instr.mapUpdate t (f m) (f x) (f y)) w k
 | .range t x=>DoP P (Instr.range t (f x)) w k
 | .next x b=>Xi P (Instr.next (f x) b o.type) w k
 | .entry x=>HR P (HJ o.dst 0 ops.toList) fun a=>HR P (HJ o.dst 1 ops.toList) fun b=>(Instr.entry (f x)).run P w=.ok (.tuple #[a,b]) w/\k (.tuple #[a,b]) w
 | .call c=>
   match c.callee with
   | .value g=>match g with
     | .tmp s=>match sl s ops.toList with
       |true=>AZ P (f (.tmp s)) (c.args.toList.map f) o.type w k
       |false=>jO P (f (.tmp s)) (c.args.toList.map f) w k
     |g=>jO P (f g) (c.args.toList.map f) w k
   | .builtin .append=>Rk P (Builtin.append_ c.argTypes o.type (c.args.toList.map f).toArray) w k
   | .builtin .copy=>Xh P (Builtin.copy_ c.argTypes o.type (c.args.toList.map f).toArray) w k
   | .builtin .clear=>Xh P (Builtin.clear_ c.argTypes o.type (c.args.toList.map f).toArray) w k
   |_=>False
 |_=>False
def zM(P:Program)(f:Operand->Value)(o:Oper)(w:World)(k:Value->World->Prop):Prop:=
 (∃v w',(execOp f o).run P w=.ok (.value v) w'/\k v w')\/(∃w',(execOp f o).run P w=.ok .skip w'/\k undef w')\/
 (∃g args,(execOp f o).run P w=.ok (.enter g args) w/\bf P g args w k)\/
 (∃l g tmps assign body,(execOp f o).run P w=.ok (.round l g tmps assign body) w/\∀r m,RoundIn (FR r) m P l g tmps assign body w fun e w'=>∃v,e=.returned v/\k v w')
section
variable{P:Program}{f:Operand->Value}{o:Oper}{w:World}{k:Value->World->Prop}
theorem qD{size:Nat}{K:Prop}:∀ {vs:List Value},nZ size vs K->(∀v∈vs,v.cells.size=size)/\K
 | [],h=>⟨by simp,h⟩
 |v::r,h=>by
  have key:v.cells.size=size/\nZ size r K:=by
   cases v<;>simp only [nZ]at h
   case agg cs=>exact⟨by simpa [Value.cells]using h.1,h.2⟩
   all_goals
    split at h
    ·rename_i hb
     exact⟨by have:=Nat.eq_of_beq_eq_true hb;simp [Value.cells,this],h⟩
    ·exact h.elim
  obtain⟨h1,h2⟩:=qD key.2;exact⟨by intro u hu;rcases List.mem_cons.1 hu with rfl|hu;exact key.1;exact h1 u hu,h2⟩
theorem gB(a:Addr):∀(vs:List Value) (i:Nat) (w:World),(∀c∈vs,c.oneCell'=true)->(∀j,j<vs.length->Wr w (a.add (i+j)))->
 (storeCells a vs i).run P w=.ok () (setCells w a vs i)
 | [],_,_,_,_=>rfl
 |v::r,i,w,h1,hw=>by
  obtain⟨⟨u,hu⟩,hf⟩:=hw 0 (by simp);rw [Nat.add_zero]at hu hf;have hv:v.oneCell'=true:=h1 v (by simp);have oo:(store (a.add i) v).run P w=.ok () (w.setCell (a.add i) v):=by
   rw [run_store P w _ v _ hv];simp [hu,hf]
  rw [storeCells,Sem.run_bind,oo];simp only [Result.andThen_ok,setCells];refine gB a r (i+1) _ (fun c hc=>h1 c (by simp [hc])) fun j hj=>?_;obtain⟨⟨u',GZ⟩,hf'⟩:=hw (j+1) (by simp;omega);rw [show i+1+j=i+(j+1)from by omega];refine⟨?_,by rw [World.frozen?_setCell];exact hf'⟩;by_cases e:a.add i=a.add (i+(j+1))
  ·exact⟨v,by rw [<-e];exact World.cell?_setCell_same w _ _ hu⟩
  ·exact⟨u',by rw [World.cell?_setCell_other w _ _ _ e];exact GZ⟩
theorem lJ{g:FuncId}{first fh:Array Value}{c:Call}{x:Operand}{t:TypeId}(hc:c.callee=.value x)(hx:f x=.func (.func g) first fh){fn:Func}(hf:P.funcs[g]? =some fn)(hb:fn.body.isSome)
 (lC:NG P):(do let d<-resolve f c t;invoke d.target d.args:Sem Next).run P w=.ok (.enter g (first++c.args.map f++fh)) w:=by
 have hn:=lC g fn hf;have tY:fn.body.isNone=false:=by cases Cl:fn.body<;>simp_all
 simp only [resolve,hc,hx,Deferred.ofValue,Sem.run_bind,Sem.run_pure,Result.andThen_ok,invoke,callFunc,run_program,hf,hn,tY,Bool.false_eq_true,if_false]
theorem mC{fn:Fn}{first fh:Array Value}{c:Call}{x:Operand}{t:TypeId}(hc:c.callee=.value x)(hx:f x=.func fn first fh):
 (do let d<-resolve f c t;invoke d.target d.args:Sem Next).run P w=(invoke (.fn fn fh) (first++c.args.map f)).run P w:=by
 simp only [resolve,hc,hx,Deferred.ofValue,Sem.run_bind,Sem.run_pure,Result.andThen_ok]
theorem xL{t:Option TypeId}{k:Value->Prop}(h:HR P t k):∃v,k v:=by
 unfold HR at h;split at h
 ·exact h.out
 ·exact h
set_option maxHeartbeats 400000 in
theorem oJ{ops:Array Oper}(lC:NG P)(h:rJ P ops f o w k):zM P f o w k:=by
 unfold rJ at h;split at h
 ·rename_i t ho
  obtain⟨i,hi,h⟩:=h.out;obtain⟨z,hz,h⟩:=h.out;exact .inl ⟨_,_,by simp [execOp,ho,Instr.alloc,zeroValue,typeInfo,hi,hz,newVar,newRow],h⟩
 ·rename_i t x ho
  exact .inl ⟨_,_,by simp [execOp,ho,Instr.box,newVar,newRow],h⟩
 ·rename_i t len parts ho
  split at h
  ·rename_i e he
   obtain⟨i,hi,hA⟩:=h.out;obtain⟨z,hz,hB⟩:=hA.out;clear h hA;split at hB
   ·rename_i h0
    have h0:=Nat.eq_of_beq_eq_true h0;subst h0;split at hB
    ·rename_i hp
     refine .inl ⟨_,_,?_,hB⟩;have G9:parts= #[]:=by apply Array.ext';simpa using hp
     simp [execOp,ho,G9,Instr.buildSlice,run_underlying he,sizeOf,typeInfo,hi,newRow,Instr.fill,show Array.range 0= #[]from rfl]
    ·exact hB.elim
   rename_i h0;have h:=hB;clear hB;split at h
   ·rename_i hb
    simp only [Bool.and_eq_true,Nat.ble_eq,beq_iff_eq]at hb;obtain⟨⟨⟨⟨B7,FF⟩,kl⟩,hlen⟩,Ey⟩:=hb;have FF:=Nat.eq_of_beq_eq_true FF;obtain⟨nK,h⟩:=qD h;have TW:(parts.toList.map fun p=>f p.2).length=len:=by
     have:=congrArg List.length Ey;simpa using this
    have PY:=Great.fill_whole (s:=i.size) kl (parts.toList.map fun p=>f p.2) ((Array.range (len*i.size)).map (z.cells[· %z.cells.size]!)) nK (by rw [TW];simp);have hp:(parts.map fun(i,x)=>(i,f x)).toList=((parts.toList.map fun p=>f p.2).zipIdx 0).map fun x=>(x.2,x.1):=by
     apply List.ext_getElem?;intro j;have hj:=congrArg (fun l:List Nat=>l[j]?) Ey;simp only [List.getElem?_map,Array.getElem?_toList]at hj;simp only [Array.toList_map,List.getElem?_map,List.getElem?_zipIdx,Array.getElem?_toList];cases YN:parts[j]? with
     |none=>simp
     |some p=>
      rw [YN]at hj;obtain⟨p1,p2⟩:=p;simp only [Option.map_some]at hj;obtain⟨cI,e⟩:=lgeS hj.symm;simp at e;subst e;simp
    have hr:=run_buildSlice (P:=P) w t e len (parts.map fun(i,x)=>(i,f x)) _ i z he hi hz (by omega) (by have:=Nat.mul_pos (show 0<len from hlen) (show 0<i.size from kl);omega) (by rw [hp];exact PY);exact .inl ⟨_,_,by simp only [execOp,ho,Sem.run_bind,hr,Result.andThen_ok,Sem.run_pure],h⟩
   ·exact h.elim
  ·exact h.elim
 ·rename_i t x y ho
  split at h
  ·rename_i a hx
   unfold Fu at h;split at h
   ·rename_i n cs hn hy
    obtain⟨⟨h1,h2,h3⟩,h⟩:=h;obtain⟨rfl,ha⟩:=pG hn;have hu:(P.underlying t).isSome:=by
     unfold lg at hn;split at hn<;>simp_all
    obtain⟨i,hi⟩:=info_of_underlying hu;refine .inr (.inl ⟨_,?_,h⟩);have oo:=gB (P:=P) a cs.toList 0 w h2 (fun j hj=>by rw [Nat.zero_add];exact h3 j (by rw [<-h1];simpa using hj));simp [execOp,ho,hx,hy,Instr.storeAt,Instr.sureAddr,storeVar,Value.cells,run_sizeOf hi,h1,oo]
   ·exact h.elim
   ·rename_i v hk hv
    split at h
    ·rename_i inf h1 hi
     split at h
     ·rename_i hs
      obtain⟨hw,h⟩:=h;refine .inr (.inl ⟨_,?_,h⟩);have hc:(f y).cells= #[f y]:=by cases hfy:f y<;>first|rfl|(simp [hfy,Value.oneCell']at h1)
      have oo:=gB (P:=P) a [f y] 0 w (by simpa using h1) (fun j hj=>by
       have:j=0:=by simpa using hj
       subst this;simpa [Addr.add]using hw)
      have Wb:setCells w a [f y] 0=w.setCell a (f y):=by simp [setCells,Addr.add]
      rw [Wb]at oo;simp [execOp,ho,hx,Instr.storeAt,Instr.sureAddr,storeVar,hc,sizeOf,typeInfo,hi,hs,oo]
     ·exact h.elim
    ·exact h.elim
  ·exact h.elim
 ·rename_i t l c ho
  obtain⟨A,n,m,w',hr,h⟩:=h;exact .inl ⟨_,_,by simp only [execOp,ho,Sem.run_bind,hr,Result.andThen_ok,Sem.run_pure],h⟩
 ·rename_i t r ho
  split at h
  ·exact .inl ⟨_,_,by simp [execOp,ho,Instr.makeMap],h⟩
  ·obtain⟨v,w',hr,h⟩:=h
   exact .inl ⟨_,_,by simp only [execOp,ho,Sem.run_bind,hr,Result.andThen_ok,Sem.run_pure],h⟩
 ·rename_i t m x y ho
  obtain⟨w',hr,h⟩:=h;exact .inr (.inl ⟨_,by simp only [execOp,ho,Sem.run_bind,hr,Result.andThen_ok,Sem.run_pure],h⟩)
 ·rename_i t m x y ho
  obtain⟨w',hr,h⟩:=h;exact .inr (.inl ⟨_,by simp only [execOp,ho,Sem.run_bind,hr,Result.andThen_ok,Sem.run_pure],h⟩)
 ·rename_i t x ho
  obtain⟨v,w',hr,h⟩:=h;exact .inl ⟨_,_,by simp only [execOp,ho,Sem.run_bind,hr,Result.andThen_ok,Sem.run_pure],h⟩
 ·rename_i x b ho
  rcases h with⟨w',hr,h⟩|⟨a,b',w',hr,h⟩
  ·exact .inl ⟨_,_,by simp only [execOp,ho,Sem.run_bind,hr,Result.andThen_ok,Sem.run_pure],h⟩
  ·exact .inl ⟨_,_,by simp only [execOp,ho,Sem.run_bind,hr,Result.andThen_ok,Sem.run_pure],h⟩
 ·rename_i x ho
  obtain⟨a,h⟩:=xL h;obtain⟨b,hr,h⟩:=xL h;exact .inl ⟨_,_,by simp only [execOp,ho,Sem.run_bind,hr,Result.andThen_ok,Sem.run_pure],h⟩
 ·rename_i c ho
  split at h
  ·rename_i g hc
   have h:AZ P (f g) (c.args.toList.map f) o.type w k\/jO P (f g) (c.args.toList.map f) w k:=by
    split at h
    ·split at h
     ·exact .inl h
     ·exact .inr h
    ·exact .inr h
   rcases h with h|h
   ·obtain⟨g',first,fh,fn,hg,hf,hb,h⟩:=h
    refine .inr (.inr (.inl ⟨g',first++c.args.map f++fh,?_,?_⟩))
    ·have:=lJ (P:=P) (w:=w) (t:=o.type) hc hg hf hb lC
     simpa only [execOp,ho]using this
    ·have e:first++c.args.map f++fh=(first.toList++c.args.toList.map f++fh.toList).toArray:=by
      apply Array.ext';simp
     rw [e];exact Calls.mono h fun e w' ⟨v,he,hr⟩=>by
      obtain⟨u,hu,hk⟩:=hr.out;subst hu;exact⟨_,he,hk⟩
   unfold jO at h;split at h
   ·rename_i g' first fh hg
    split at h
    ·rename_i fn hf
     split at h
     ·rename_i b hb
      refine .inr (.inr (.inl ⟨g',first++c.args.map f++fh,?_,?_⟩))
      ·have:=lJ (P:=P) (w:=w) (t:=o.type) hc hg hf (by simp [hb]) lC
       simpa only [execOp,ho]using this
      ·have e:first++c.args.map f++fh=(first.toList++c.args.toList.map f++fh.toList).toArray:=by
        apply Array.ext';simp
       rw [e];exact Calls.mono h fun e w' ⟨v,he,hr⟩=>⟨v,he,hr.out⟩
     ·obtain⟨v,w',hr,hk⟩:=h
      refine .inl ⟨v,w',?_,hk.out⟩;have e:first++c.args.map f++fh=(first.toList++c.args.toList.map f++fh.toList).toArray:=by
       apply Array.ext';simp
      have h2:(invoke (.fn (.func g') fh) (first++c.args.map f)).run P w=.ok (.value v) w':=by simp only [invoke,e,hr]
      have:=(mC (P:=P) (w:=w) (t:=o.type) hc hg).trans h2;simpa only [execOp,ho]using this
    ·exact h.elim
   ·rename_i l first fh hg
    obtain⟨g',tmps,assign,body,hr,oU⟩:=h;refine .inr (.inr (.inr ⟨l,g',tmps,assign,body,?_,fun r m=>RoundIn.mono (oU r m) fun e w' ⟨b,he,hk⟩=>⟨_,he,hk⟩⟩));have e:first++c.args.map f=(first.toList++c.args.toList.map f).toArray:=by
     apply Array.ext';simp
    have h2:(invoke (.fn (.yield l) fh) (first++c.args.map f)).run P w=.ok (.round l g' tmps assign body) w:=by simp only [invoke,e,hr]
    have:=(mC (P:=P) (w:=w) (t:=o.type) hc hg).trans h2;simpa only [execOp,ho]using this
   ·exact h.elim
  ·rename_i hc
   obtain⟨A,n,m,w',hr,h⟩:=h;rw [toArray_map]at hr;exact .inl ⟨_,_,by simp only [execOp,ho,resolve,hc,invoke,builtin,Sem.run_bind,Sem.run_pure,hr,Result.andThen_ok],h⟩
  ·rename_i hc
   obtain⟨v,w',hr,h⟩:=h;rw [toArray_map]at hr;exact .inl ⟨_,_,by simp only [execOp,ho,resolve,hc,invoke,builtin,Sem.run_bind,Sem.run_pure,hr,Result.andThen_ok],h⟩
  ·rename_i hc
   obtain⟨v,w',hr,h⟩:=h;rw [toArray_map]at hr;exact .inl ⟨_,_,by simp only [execOp,ho,resolve,hc,invoke,builtin,Sem.run_bind,Sem.run_pure,hr,Result.andThen_ok],h⟩
  ·exact h.elim
 ·exact h.elim
end
abbrev Env:=List (Nat×Value)
def find:Env->Nat->Option Value
 | [],_=>none
 |(j,v)::ρ,i=>bif Nat.beq j i then some v else find ρ i
def put:Env->Nat->Value->Env
 | [],i,v=> [(i,v)]
 |(j,u)::ρ,i,v=>bif Nat.beq j i then(i,v)::ρ else bif Nat.blt i j then(i,v)::(j,u)::ρ else(j,u)::put ρ i v
def yD:List Nat->Nat->Bool
 | [],_=>false
 |j::l,i=>bif Nat.beq j i then true else yD l i
def fN:Nat:=4294967296
def aK(ks:List Nat):Env->Env
 | []=> []
 |(j,v)::ρ=>bif yD ks j||Nat.beq j fN then(j,v)::aK ks ρ else aK ks ρ
theorem jN(ρ:Env)(i:Nat)(v:Value)(k:Nat):find (put ρ i v) k=if i=k then some v else find ρ k:=by
 induction ρ with
 |nil=>
  simp only [put,find];cases hb:Nat.beq i k
  ·rw [if_neg (Nat.ne_of_beq_eq_false hb)];rfl
  ·rw [if_pos (Nat.eq_of_beq_eq_true hb)];rfl
 |cons p ρ ih=>
  obtain⟨j,u⟩:=p;simp only [put];cases h1:Nat.beq j i
  ·simp only [cond_false]
   cases h2:Nat.blt i j
   ·simp only [cond_false,find,ih]
    cases h3:Nat.beq j k
    ·simp
    ·have e3:=Nat.eq_of_beq_eq_true h3
     have e1:=Nat.ne_of_beq_eq_false h1;subst e3;have e2:¬i=j:=fun e=>e1 e.symm;simp [e2]
   ·simp only [cond_true,find]
    cases h3:Nat.beq i k
    ·rw [if_neg (Nat.ne_of_beq_eq_false h3)];rfl
    ·rw [if_pos (Nat.eq_of_beq_eq_true h3)];rfl
  ·have e1:=Nat.eq_of_beq_eq_true h1
   subst e1;simp only [cond_true,find];cases h3:Nat.beq j k
   ·rw [if_neg (Nat.ne_of_beq_eq_false h3)];rfl
   ·rw [if_pos (Nat.eq_of_beq_eq_true h3)];rfl
theorem sr(ks:List Nat):∀(ρ:Env) (i:Nat) (v:Value),find (aK ks ρ) i=some v->(yD ks i||Nat.beq i fN)=true
 | [],_,_,h=>by simp [aK,find]at h
 |(j,u)::ρ,i,v,h=>by
  simp only [aK]at h;cases hm:(yD ks j||Nat.beq j fN)
  ·rw [hm]at h
   exact sr ks ρ i v h
  ·rw [hm]at h
   simp only [cond_true,find]at h;cases hb:Nat.beq j i
   ·rw [hb]at h;exact sr ks ρ i v h
   ·rw [<-Nat.eq_of_beq_eq_true hb];exact hm
theorem qn(ks:List Nat):∀(ρ:Env) (i:Nat) (v:Value),find (aK ks ρ) i=some v->find ρ i=some v
 | [],_,_,h=>by simp [aK,find]at h
 |(j,u)::ρ,i,v,h=>by
  have jW:=sr ks ((j,u)::ρ) i v h;simp only [aK]at h;simp only [find];cases hb:Nat.beq j i
  ·simp only [cond_false]
   cases hm:(yD ks j||Nat.beq j fN)
   ·rw [hm]at h;exact qn ks ρ i v h
   ·rw [hm]at h
    simp only [cond_true,find,hb,cond_false]at h;exact qn ks ρ i v h
  ·have e:=Nat.eq_of_beq_eq_true hb
   subst e;rw [jW]at h;simpa [find,hb]using h
theorem uK(ks:List Nat):∀(ρ:Env),find (aK ks ρ) fN=find ρ fN
 | []=>rfl
 |(j,u)::ρ=>by
  have ih:=uK ks ρ;simp only [aK];cases hb:Nat.beq j fN
  ·cases hm:yD ks j
   ·simp only [Bool.or_false,cond_false,find,hb];exact ih
   ·simp only [Bool.true_or,cond_true,find,hb,cond_false];exact ih
  ·simp only [Bool.or_true,cond_true,find,hb]
def marksOf:Value->List Nat
 | .agg cs=>cs.toList.filterMap fun| .pointer (some a)=>some a.block|_=>none
 |_=> []
def marks(ρ:Env):List Deferred:=
 match find ρ fN with
 |some v=>(marksOf v).map fun D=> {target:=.collected D,args:= #[]}
 |none=> []
structure Sat(n:Nat)(ds:List Deferred)(ρ:Env)(a:Act):Prop where
 size:a.tmps.size=n
 defers:a.defers=marks ρ++ds
 wa:∀i v,i≠fN->find ρ i=some v->a.tmps.getD i undef=v
def r8(ρ:Env):Operand->Option Value
 | .tmp t=>bif Nat.beq t fN then none else find ρ t
 | .const v=>some v
 | .global g=>some (.pointer (some ⟨g,0,none⟩))
 | .func f=>some (.func (.func f) #[] #[])
def eval(ρ:Env)(x:Operand):Value:=(r8 ρ x).getD undef
def rD(ρ:Env):List Operand->Bool
 | []=>true
 |x::l=>bif (r8 ρ x).isSome then rD ρ l else false
def kL(o:Oper):Bool:=match o.op with| .select .. | .defer _=>false|_=>true
def known(ρ:Env)(o:Oper):Bool:=bif kL o then rD ρ o.op.operands.toList else false
def r3(n:Nat)(ρ:Env)(d:Option Tmp)(v:Value)(K:Env->Prop):Prop:=
 match d with
 |none=>K ρ
 |some d=>match Nat.blt d n&& !Nat.beq d fN with
  |true=>K (put ρ d v)
  |false=>False
def guarded(ops:Array Oper)(n:Nat)(o:Oper)(ρ:Env)(yes no:Env->Prop):Prop:=
 match o.guard with
 |none=>yes ρ
 |some (j,want)=>
  match (ops[j]?).bind (·.dst)with
  |some d=>match Nat.blt d n&& !Nat.beq d fN,find ρ d with
   |true,some (.bool b)=>Split b (match want with|true=>yes (put ρ d (.bool true))|false=>no (put ρ d (.bool true))) (match want with|true=>no (put ρ d (.bool false))|false=>yes (put ρ d (.bool false)))
   |true,some (.tuple _)=>no ρ
   |_,_=>False
  |none=>False
inductive Cls where|pure|read|ME
def Kh(P:Program)(t:TypeId):Bool:=match P.underlying t with|some (.pointer _)=>true|_=>false
def cls(P:Program)(o:Oper):Cls:=
 match o.op with
 | .load .. =>.read
 | .lookup .. =>.read
 | .binOp _ t _ y _=>match y with| .const _=>.pure |_=>match Kh P t with|true=>.read |false=>.pure
 | .alloc .. | .box .. | .buildSlice .. | .store .. | .makeSlice .. | .makeMap .. | .mapUpdate .. | .insert .. | .range .. | .next .. | .entry .. =>.ME
 | .call c=>match c.callee with| .builtin .len=>(match c.argTypes.toList with| [t]=>(match P.underlying t with|some (.map _ _)=>.read |_=>.pure)|_=>.pure)|_=>.ME
 |_=>.pure
def yA(P:Program)(n:Nat)(ops:Array Oper)(ρ:Env)(o:Oper)(w:World)(K:Env->World->Prop):Prop:=
 bif known ρ o then
  match cls P o with
  | .pure=>pr P (eval ρ) o fun v=>r3 n ρ o.dst v fun iP=>K iP w
  | .read=>pq P (eval ρ) o w fun v=>r3 n ρ o.dst v fun iP=>K iP w
  | .ME=>rJ P ops (eval ρ) o w fun v w'=>r3 n ρ o.dst v fun iP=>K iP w'
 else False
def Gt(P:Program)(n:Nat)(ops:Array Oper):List Oper->Env->World->(Env->World->Prop)->Prop
 | [],ρ,w,K=>K ρ w
 |o::os,ρ,w,K=>
  guarded ops n o ρ (fun ρ=>yA P n ops ρ o w fun iP w'=>Gt P n ops os iP w' K)
   (fun ρ=>r3 n ρ o.dst undef fun iP=>Gt P n ops os iP w K)
section
variable{P:Program}{n:Nat}{ds:List Deferred}{r:Option Nat}
theorem BO{ρ:Env}{d:Nat}{v:Value}(hd:d≠fN):marks (put ρ d v)=marks ρ:=by
 unfold marks;rw [jN,if_neg hd]
theorem Sat.put{ρ:Env}{a:Act}(h:Sat n ds ρ a){d:Nat}{v:Value}(hd:d<n)(hk:d≠fN):Sat n ds (put ρ d v) (a.put (some d) v):=by
 refine⟨by simp [Act.put,h.size],by rw [BO hk];exact h.defers,fun i u fG hi=>?_⟩;rw [jN]at hi;by_cases e:d=i
 ·subst e
  rw [if_pos rfl]at hi;cases hi;simp [Act.put,h.size,hd]
 ·rw [if_neg e]at hi
  have:=h.wa i u fG hi;simpa [Act.put,Array.getElem?_setIfInBounds_ne e]using this
theorem Sat.mono{ρ iP:Env}{a:Act}(h:Sat n ds ρ a)(hd:find iP fN=find ρ fN)(hs:∀i v,find iP i=some v->find ρ i=some v):Sat n ds iP a:=
 ⟨h.size,by rw [h.defers];unfold marks;rw [hd],fun i v fG hi=>h.wa i v fG (hs i v hi)⟩
theorem Sat.aK{ρ:Env}{a:Act}(h:Sat n ds ρ a)(ks:List Nat):Sat n ds (aK ks ρ) a:=h.mono (uK ks ρ) (qn ks ρ)
theorem Sat.same{ρ:Env}{a:Act}(h:Sat n ds ρ a){d:Nat}{v:Value}(hk:d≠fN)(hd:find ρ d=some v):Sat n ds (bE.put ρ d v) a:=by
 refine h.mono (by rw [jN,if_neg hk]) fun i u hi=>?_;rw [jN]at hi;by_cases e:d=i
 ·subst e;rw [if_pos rfl]at hi;rw [hd];exact hi
 ·rwa [if_neg e]at hi
theorem r7{ρ:Env}{a:Act}(h:Sat n ds ρ a){x:Operand}(hx:(r8 ρ x).isSome):a.eval x=eval ρ x:=by
 cases x with
 |tmp t=>
  obtain⟨v,hv⟩:=Option.isSome_iff_exists.1 hx;simp only [r8]at hv;cases hb:Nat.beq t fN
  ·rw [hb]at hv
   simp only [cond_false]at hv;simp only [eval,r8,hb,cond_false,hv,Option.getD_some,Act.eval];exact h.wa t v (Nat.ne_of_beq_eq_false hb) hv
  ·rw [hb]at hv
   cases hv
 |const v=>rfl
 |global g=>rfl
 |func f=>rfl
theorem qJ{ρ:Env}:∀ {l:List Operand},rD ρ l=true->∀x∈l,(r8 ρ x).isSome
 | [],_,x,hx=>by cases hx
 |y::l,h,x,hx=>by
  simp only [rD]at h;cases hy:(r8 ρ y).isSome
  ·rw [hy]at h;simp at h
  ·rw [hy]at h
   rcases List.mem_cons.1 hx with rfl|hx
   ·exact hy
   ·exact qJ h x hx
theorem oR{ρ:Env}{a:Act}(h:Sat n ds ρ a){o:Oper}(hk:known ρ o=true):execOp a.eval o=execOp (eval ρ) o:=by
 unfold known at hk;cases hn:kL o
 ·rw [hn]at hk;simp at hk
 ·rw [hn]at hk
  refine execOp_congr o (fun cs b e=>by simp [kL,e]at hn) fun x hx=>r7 h (qJ hk x (by simpa using hx))
theorem oI{ρ:Env}{o:Oper}(hk:known ρ o=true):∀c,o.op≠ .defer c:=by
 intro c e;simp [known,kL,e]at hk
theorem fF{ρ:Env}{a:Act}{d:Option Tmp}{v:Value}{K:Env->Prop}(h:Sat n ds ρ a)(hp:r3 n ρ d v K):
 ∃iP,Sat n ds iP (a.put d v)/\K iP:=by
 cases d with
 |none=>exact⟨ρ,h,hp⟩
 |some d=>
  simp only [r3]at hp;split at hp
  ·rename_i hb
   simp only [Bool.and_eq_true,Bool.not_eq_true']at hb;exact⟨_,h.put (Nat.le_of_ble_eq_true hb.1) (Nat.ne_of_beq_eq_false hb.2),hp⟩
  ·exact hp.elim
theorem tf{m:Nat}{f:FuncId}{args:Array Value}{w:World}{R:Ending->World->Prop}(h:Calls P f args w R):CallsIn (FR r) m P f args w R:=
 callsIn_wide.2 h
theorem zM.wpIn{m:Nat}{o:Oper}{a:Act}{w:World}{k:Value->World->Prop}{K:Act->World->Prop}{Q:Exit->Act->World->Prop}
 (hd:∀c,o.op≠ .defer c) (h:zM P a.eval o w k) (hk:∀v w',k v w'->K (a.put o.dst v) w'):o.wpIn (FR r) m P a w K Q:=by
 refine⟨fun _ _=>trivial,?_⟩;rw [Oper.semAt_eq _ _ _ hd];rcases h with⟨v,w',hr,h⟩|⟨w',hr,h⟩|⟨g,args,hr,h⟩|⟨l,g,tmps,assign,body,hr,h⟩
 ·rw [hr];exact hk _ _ h
 ·rw [hr];exact hk _ _ h
 ·rw [hr]
  refine⟨fun h=>by simp at h,tf (Calls.mono h ?_)⟩;rintro e w' ⟨v,rfl,hv⟩;exact hk _ _ hv
 ·rw [hr]
  refine⟨fun h=>by simp at h,RoundIn.mono (h r _) ?_⟩;rintro e w' ⟨v,rfl,hv⟩;exact hk _ _ hv
theorem wE{ops:Array Oper}(lC:NG P){ρ:Env}{a:Act}{o:Oper}{w:World}{K:Env->World->Prop}(hs:Sat n ds ρ a)(h:yA P n ops ρ o w K):
 (∀c,o.op≠ .defer c)/\zM P a.eval o w fun v w'=>∃iP,Sat n ds iP (a.put o.dst v)/\K iP w':=by
 unfold yA at h;cases hk:known ρ o
 ·rw [hk]at h;exact h.elim
 ·rw [hk,cond_true]at h
  refine⟨oI hk,?_⟩;have he:=oR hs hk;unfold zM;rw [he];cases hc:cls P o<;>rw [hc]at h
  ·obtain⟨v,hv,h⟩:=nA h
   exact .inl ⟨v,w,hv w,fF hs h⟩
  ·obtain⟨v,h1,h2,h⟩:=nz h
   exact .inl ⟨v,w,h2 w h1,fF hs h⟩
  ·rcases oJ lC h with⟨v,w',hr,h⟩|⟨w',hr,h⟩|⟨g,args,hr,h⟩|⟨l,g,tmps,assign,body,hr,h⟩
   ·exact .inl ⟨v,w',hr,fF hs h⟩
   ·exact .inr (.inl ⟨w',hr,fF hs h⟩)
   ·exact .inr (.inr (.inl ⟨g,args,hr,Calls.mono h fun e w' ⟨v,hv,h⟩=>⟨v,hv,fF hs h⟩⟩))
   ·exact .inr (.inr (.inr ⟨l,g,tmps,assign,body,hr,fun r m=>RoundIn.mono (h r m) fun e w' ⟨v,hv,h⟩=>⟨v,hv,fF hs h⟩⟩))
theorem lF{ops:Array Oper}{o:Oper}{ρ:Env}{a:Act}{yes no:Env->Prop}(hs:Sat n ds ρ a)(h:guarded ops n o ρ yes no):
 ∃iP,Sat n ds iP a/\((Region.wanted o (yielded ops a.tmps)=true/\yes iP)\/(Region.wanted o (yielded ops a.tmps)=false/\no iP)):=by
 unfold guarded at h;split at h
 ·rename_i hg
  exact⟨ρ,hs,.inl ⟨by simp [Region.wanted,hg],h⟩⟩
 ·rename_i j want hg
  split at h
  ·rename_i d hd
   split at h
   ·rename_i b cI hb
    simp only [Bool.and_eq_true,Bool.not_eq_true']at cI;have Zl:=Nat.ne_of_beq_eq_false cI.2;have EI:d<a.tmps.size:=by rw [hs.size];exact Nat.le_of_ble_eq_true cI.1
    have hv:=hs.wa d _ Zl hb;have hy:yielded ops a.tmps j=some b:=by
     unfold yielded;rw [hd];simp only [Option.bind_some];have:a.tmps[d]? =some (.bool b):=by
      rw [Array.getElem?_eq_getElem EI];simpa [Array.getD,EI]using hv
     rw [this]
    refine⟨put ρ d (.bool b),hs.same Zl hb,?_⟩;unfold Region.wanted;rw [hg];simp only [hy];cases b<;>cases want<;>simp only [Split]at h
    ·exact .inl ⟨rfl,h⟩
    ·exact .inr ⟨rfl,h⟩
    ·exact .inr ⟨rfl,h⟩
    ·exact .inl ⟨rfl,h⟩
   ·rename_i vs cI hb
    simp only [Bool.and_eq_true,Bool.not_eq_true']at cI;have hv:=hs.wa d _ (Nat.ne_of_beq_eq_false cI.2) hb;have EI:d<a.tmps.size:=by rw [hs.size];exact Nat.le_of_ble_eq_true cI.1
    refine⟨ρ,hs,.inr ⟨?_,h⟩⟩;unfold Region.wanted;rw [hg];have hy:yielded ops a.tmps j=none:=by
     unfold yielded;rw [hd];simp only [Option.bind_some];have:a.tmps[d]? =some (.tuple vs):=by
      rw [Array.getElem?_eq_getElem EI];simpa [Array.getD,EI]using hv
     rw [this]
    simp [hy]
   ·exact h.elim
  ·exact h.elim
theorem oN(lC:NG P){ops:Array Oper}{Q:Exit->Act->World->Prop}{K:Env->World->Prop}{m:Nat}(hQ:∀ρ a w,Sat n ds ρ a->K ρ w->Q .normal a w):
 ∀(l:List Nat) (os:List Oper) (ρ:Env) (a:Act) (w:World),l.map (ops[·]?)=os.map some->Sat n ds ρ a->Gt P n ops os ρ w K->wpOpsIn (FR r) m P ops Q l a w
 | [],[],ρ,a,w,_,hs,h=>hQ ρ a w hs h
 |i::l,o::os,ρ,a,w,hl,hs,h=>by
  simp only [List.map_cons,List.cons.injEq]at hl;obtain⟨ho,hl⟩:=hl;simp only [wpOpsIn,ho];obtain⟨iP,lP,⟨hw,h⟩|⟨hw,h⟩⟩:=lF hs h
  ·simp only [hw,if_true]
   obtain⟨hd,Wc⟩:=wE lC lP h;refine Wc.wpIn hd ?_;rintro v w' ⟨oy,qt,Se⟩;exact oN lC hQ l os oy _ w' hl qt Se
  ·simp only [hw,Bool.false_eq_true,if_false]
   obtain⟨oy,qt,Se⟩:=fF lP h;exact⟨fun _ _=>trivial,oN lC hQ l os oy _ w hl qt Se⟩
 | [],_::_,_,_,_,hl,_,_=>by simp at hl
 |_::_,[],_,_,_,hl,_,_=>by simp at hl
end
abbrev Fl:=List (Nat×(World->Prop))
def maskAt(l:List Nat)(i:Nat):Nat:=match l,i with| [],_=>0|x::_,0=>x|_::l,i+1=>maskAt l i
def DQ(ops:List Oper):List Nat->List Nat
 |acc=>match ops with
  | []=>acc
  |o::os=>DQ os (acc++ [o.after.toList.foldl (fun s e=>bif Region.binds .any e then s|||2 ^ e.on|||maskAt acc e.on else s) 0])
def oP(ops:Array Oper)(ms:List Nat):Bool:=
 (List.range ops.size).all fun j=>(List.range ops.size).all fun k=> !(maskAt ms j).testBit k||
   match ops[j]? with
   |some o=>o.after.toList.any fun e=>Region.binds .any e&&(e.on==k||(maskAt ms e.on).testBit k)
   |none=>false
def uU(m:Nat):Fl->Fl
 | []=> []
 |(r,p)::l=>match m.testBit r with|true=>uU m l|false=>(r,p)::uU m l
def L5(m:Nat):Fl->World->Prop->Prop
 | [],_,k=>k
 |(r,p)::l,w,k=>match m.testBit r with|true=>L5 m l w k|false=>p w/\L5 m l w k
def quiet(P:Program)(ops:Array Oper)(listed:Array Bool)(i:Nat):Bool:=
 match ops[i]? with
 |some o=>match cls P o with
  | .ME=>false
  |_=>Region.free .any ops listed i
 |none=>false
def Oh(P:Program)(ops:Array Oper)(i:Nat):Bool:=
 match ops[i]? with
 |some o=>match cls P o with| .ME=>true|_=>false
 |none=>false
def LI:List Nat->(Nat->Prop)->Prop
 | [],_=>True
 | [i],p=>p i
 |i::l,p=>p i/\LI l p
def oG(P:Program)(n:Nat)(ops:Array Oper)(ms:List Nat):Nat->Array Bool->Env->Fl->World->(Env->World->Prop)->Prop
 |0,listed,ρ,_,w,K=>match Region.ready .any ops listed with| []=>K ρ w|_=>False
 |k+1,listed,ρ,fl,w,K=>
  match Region.ready .any ops listed with
  | []=>K ρ w
  |j::rest=>
   match (j::rest).find? (quiet P ops listed)with
   |some i=>
    match ops[i]? with
    |none=>False
    |some o=>
     guarded ops n o ρ (fun ρ=>
      bif known ρ o then
       match cls P o with
       | .pure=>pr P (eval ρ) o fun v=>r3 n ρ o.dst v fun iP=>oG P n ops ms k (listed.setIfInBounds i true) iP fl w K
       | .read=>pq P (eval ρ) o w fun v=>r3 n ρ o.dst v fun iP=>oG P n ops ms k (listed.setIfInBounds i true) iP ((i,fc P (eval ρ) o v)::fl) w K
       | .ME=>False
      else False)
      (fun ρ=>r3 n ρ o.dst undef fun iP=>oG P n ops ms k (listed.setIfInBounds i true) iP fl w K)
   |none=>
    match (j::rest).all (Oh P ops)with
    |false=>False
    |true=>LI (j::rest) fun i=>
     match ops[i]? with
     |none=>False
     |some o=>
      guarded ops n o ρ (fun ρ=>
       bif known ρ o then
        rJ P ops (eval ρ) o w fun v w'=>r3 n ρ o.dst v fun iP=>L5 (maskAt ms i) fl w' (oG P n ops ms k (listed.setIfInBounds i true) iP (uU (maskAt ms i) fl) w' K)
       else False)
       (fun ρ=>r3 n ρ o.dst undef fun iP=>oG P n ops ms k (listed.setIfInBounds i true) iP fl w K)
def E9(P:Program)(n:Nat)(ops:Array Oper)(ρ:Env)(w:World)(K:Env->World->Prop):Prop:=
 let listed:=Array.replicate ops.size false
 let ms:=DQ ops.toList []
 match oP ops ms&&ops.toList.all kL with
 |true=>oG P n ops ms ops.size listed ρ [] w.drew K
 |false=>False
section
variable{P:Program}{n:Nat}{ds:List Deferred}{r:Option Nat}{m:Nat}{ops:Array Oper}{Q:Exit->Act->World->Prop}
def YS(P:Program)(ops:Array Oper)(S:World->Prop)(o:Oper)(v:Value)(a:Act):Prop:=
 (Region.wanted o (yielded ops a.tmps)=true/\∀w,S w->(execOp a.eval o).run P w=.ok (.value v) w)\/
 (Region.wanted o (yielded ops a.tmps)=false/\v=undef)
theorem YS.of_same{S:World->Prop}{o:Oper}{v:Value}{a a':Act}(hy:YS P ops S o v a)(he:execOp a'.eval o=execOp a.eval o)
 (hw:Region.wanted o (yielded ops a'.tmps)=Region.wanted o (yielded ops a.tmps)):YS P ops S o v a':=by
 unfold YS at*;rw [he,hw];exact hy
theorem YS.wpOpIn{S:World->Prop}{i:Nat}{o:Oper}{v:Value}{a:Act}(hi:ops[i]? =some o)(hn:kL o=true)(hy:YS P ops S o v a)
 {K:Act->World->Prop} {w:World} (hS:S w) (h:K (a.put o.dst v) w):wpOpIn (FR r) m P ops Q i K a w:=by
 unfold Go.wpOpIn;simp only [hi];rcases hy with⟨hw,hv⟩|⟨hw,rfl⟩
 ·simp only [hw,if_true]
  refine⟨fun _ _=>trivial,?_⟩;rw [Oper.semAt_eq _ _ _ (fun c e=>by simp [kL,e]at hn),hv w hS];exact h
 ·simp only [hw,Bool.false_eq_true,if_false]
  exact⟨fun _ _=>trivial,h⟩
theorem vX{S:World->Prop}{j:Nat}{oi oj:Oper}{v:Value}(hj:ops[j]? =some oj)(Wa:oi.apart ops oj=true)
 (RS:kL oi=true) (IG:kL oj=true) (hQ:∀c a w,¬Q (.panic c) a w) {K:Act->World->Prop} {a:Act} {w:World}
 (hy:YS P ops S oi v a) (h:wpOpIn (FR r) m P ops Q j K (a.put oi.dst v) w):
 wpOpIn (FR r) m P ops Q j (fun a' w'=>YS P ops S oi v a'/\K (a'.put oi.dst v) w') a w:=by
 obtain⟨h1,h2,h3⟩:=Oper.apart_spec Wa;have FM:∀cs b,oi.op≠ .select cs b:=fun cs b e=>by simp [kL,e]at RS
 have RJ:∀cs b,oj.op≠ .select cs b:=fun cs b e=>by simp [kL,e]at IG
 have Zm:∀c,oj.op≠ .defer c:=fun c e=>by simp [kL,e]at IG
 have aK:∀(a:Act),YS P ops S oi v a->∀u,YS P ops S oi v (a.put oj.dst u):=fun a hy u=>
  hy.of_same (execOp_put oi FM a oj.dst u h3) (wanted_put oi a oj.dst u h3)
 have wX:∀d,YS P ops S oi v {a with defers:=d::a.defers}:=fun d=>hy.of_same rfl rfl;unfold Go.wpOpIn at*;simp only [hj]at*;rw [wanted_put oj a oi.dst v h1]at h;split
 ·rename_i hw
  simp only [hw,if_true]at h;refine⟨fun _ _=>trivial,?_⟩;have h:=h.2;rw [Oper.semAt_eq _ _ _ Zm,execOp_put oj RJ a oi.dst v h1]at h;rw [Oper.semAt_eq _ _ _ Zm];generalize (execOp a.eval oj).run P w=r at*;cases r with
  |ok x w'=>
   cases x<;>simp only [Oper.uponIn]at h⊢
   case value u=>exact⟨aK a hy u,by rw [<-Act.put_comm a v u h2];exact h⟩
   case skip=>exact⟨aK a hy _,by rw [<-Act.put_comm a v undef h2];exact h⟩
   case defer d=>
    refine⟨aK _ (wX d) _,?_⟩;rw [<-Act.put_comm _ v undef h2,<-Act.put_defers];exact h
   case enter f args=>
    refine⟨h.1,CallsIn.mono h.2 fun e kZ he=>?_⟩;cases e with
    |returned u=>exact⟨aK a hy u,by rw [<-Act.put_comm a v u h2];exact he⟩
    |panicked c=>exact(hQ _ _ _ he).elim
    |outgrown=>exact he
   case row row args=>exact⟨h.1,RowsIn.mono h.2 fun u kZ he=>⟨aK a hy u,by rw [<-Act.put_comm a v u h2];exact he⟩⟩
   case round l f tmps assign body=>
    refine⟨h.1,RoundIn.mono h.2 fun e kZ he=>?_⟩;cases e with
    |returned u=>exact⟨aK a hy u,by rw [<-Act.put_comm a v u h2];exact he⟩
    |panicked c=>exact(hQ _ _ _ he).elim
    |outgrown=>exact he
  |halt x w'=>
   cases x<;>simp only [Oper.uponIn]at h⊢
   case panic u=>exact(hQ _ _ _ h).elim
 ·rename_i hw
  simp only [hw]at h;exact⟨fun _ _=>trivial,aK a hy _,by rw [<-Act.put_comm a v undef h2];exact h.2⟩
def anyS(r:Option Nat)(m:Nat)(P:Program)(ops:Array Oper)(ms:List Nat)(Q:Exit->Act->World->Prop):Nat->Fl->Array Bool->Act->World->Prop
 |0,_,listed,a,w=>Region.ready .any ops listed= []/\Q .normal a w
 |k+1,fl,listed,a,w=>
  (Region.ready .any ops listed= []->Q .normal a w)/\
  ∀i∈Region.ready .any ops listed,wpOpIn (FR r) m P ops Q i (fun a' w'=>(∀p∈uU (maskAt ms i) fl,p.2 w')/\
   anyS r m P ops ms Q k (uU (maskAt ms i) fl) (listed.setIfInBounds i true) a' w') a w
theorem xM{ms:List Nat}:∀(k:Nat) (fl:Fl) (listed:Array Bool) (a:Act) (w:World),anyS r m P ops ms Q k fl listed a w->wpAnyIn (FR r) m P .any ops Q k listed a w
 |0,_,_,_,_,h=>h
 |k+1,_,_,_,_,h=>⟨h.1,fun i hi=>wpOpIn_mono (fun a' w' h'=>xM k _ _ a' w' h'.2) (h.2 i hi)⟩
theorem kh{b:Nat}{p:Nat×(World->Prop)}:∀ {fl:Fl},p∈uU b fl↔p∈fl/\b.testBit p.1=false
 | []=>by simp [uU]
 |(q,s)::fl=>by
  simp only [uU];split
  ·rename_i hb
   rw [kh,List.mem_cons];constructor
   ·rintro⟨h1,h2⟩;exact⟨.inr h1,h2⟩
   ·rintro⟨rfl|h1,h2⟩
    ·rw [hb]at h2;cases h2
    ·exact⟨h1,h2⟩
  ·rename_i hb
   rw [List.mem_cons,kh,List.mem_cons];constructor
   ·rintro(rfl|⟨h1,h2⟩)
    ·exact⟨.inl rfl,hb⟩
    ·exact⟨.inr h1,h2⟩
   ·rintro⟨rfl|h1,h2⟩
    ·exact .inl rfl
    ·exact .inr ⟨h1,h2⟩
theorem sP{b q:Nat}{s:World->Prop}{fl:Fl}(h:b.testBit q=false):uU b ((q,s)::fl)=(q,s)::uU b fl:=by simp [uU,h]
theorem vg{b:Nat}{w:World}{k:Prop}:∀ {fl:Fl},L5 b fl w k->(∀p∈uU b fl,p.2 w)/\k
 | [],h=>⟨by simp [uU],h⟩
 |(q,s)::fl,h=>by
  simp only [L5]at h;split at h
  ·rename_i hb
   have:=vg h;simpa [uU,hb]using this
  ·rename_i hb
   obtain⟨h1,h2⟩:=vg h.2;refine⟨fun p hp=>?_,h2⟩;rw [sP hb]at hp;rcases List.mem_cons.1 hp with rfl|hp
   ·exact h.1
   ·exact h1 p hp
theorem ow{ms:List Nat}:∀(k:Nat) (fl Sg:Fl) (listed:Array Bool) (a:Act) (w:World),(∀p∈Sg,p∈fl)->anyS r m P ops ms Q k fl listed a w->anyS r m P ops ms Q k Sg listed a w
 |0,_,_,_,_,_,_,h=>h
 |k+1,fl,Sg,_,_,_,hs,h=>⟨h.1,fun i hi=>wpOpIn_mono (fun a' w' h'=>
   have sy:∀p∈uU (maskAt ms i) Sg,p∈uU (maskAt ms i) fl:=fun p hp=>by
    rw [kh]at*;exact⟨hs p hp.1,hp.2⟩
   ⟨fun p hp=>h'.1 p (sy p hp),ow k _ _ _ a' w' sy h'.2⟩) (h.2 i hi)⟩
def MC(N:Nat)(ms:List Nat)(listed:Array Bool):Prop:=∀j,listed.getD j false=true->∀k,k<N->(maskAt ms j).testBit k=true->listed.getD k false=true
theorem wO{ms:List Nat}(h:oP ops ms=true){j:Nat}{o:Oper}(hj:ops[j]? =some o){k:Nat}(hk:k<ops.size)(hb:(maskAt ms j).testBit k=true):
 ∃e∈o.after,Region.binds .any e=true/\(e.on=k\/(maskAt ms e.on).testBit k=true):=by
 unfold oP at h;rw [List.all_eq_true]at h;have h1:=h j (List.mem_range.2 (Array.getElem?_eq_some_iff.1 hj).1);rw [List.all_eq_true]at h1;have h2:=h1 k (List.mem_range.2 hk);simp only [hb,Bool.not_true,Bool.false_or,hj,List.any_eq_true,Bool.and_eq_true,Bool.or_eq_true,beq_iff_eq]at h2;obtain⟨e,he,h3,h4⟩:=h2;exact⟨e,by simpa using he,h3,h4⟩
theorem MC.ready{ms:List Nat}(hm:oP ops ms=true){listed:Array Bool}(hc:MC ops.size ms listed){j:Nat}(hr:j∈Region.ready .any ops listed){k:Nat}(hk:k<ops.size)
 (hb:(maskAt ms j).testBit k=true):listed.getD k false=true:=by
 obtain⟨_,o,ho,cV⟩:=mem_ready.1 hr;obtain⟨e,he,h1,h2⟩:=wO hm ho hk hb;have hl:=cV e he h1;rcases h2 with rfl|h2
 ·exact hl
 ·exact hc _ hl _ hk h2
theorem E6{listed:Array Bool}{j k:Nat}(hj:j<listed.size):(listed.setIfInBounds j true).getD k false=if j=k then true else listed.getD k false:=by
 by_cases e:j=k
 ·subst e;simp [hj]
 ·rw [if_neg e,getD_set_ne false e]
theorem MC.set{ms:List Nat}(hm:oP ops ms=true){listed:Array Bool}(nK:listed.size=ops.size)(hc:MC ops.size ms listed){j:Nat}(hr:j∈Region.ready .any ops listed):
 MC ops.size ms (listed.setIfInBounds j true):=by
 have hj:j<listed.size:=by
  obtain⟨_,o,ho,_⟩:=mem_ready.1 hr;rw [nK];exact(Array.getElem?_eq_some_iff.1 ho).1
 intro j' hl k hk hb;rw [E6 hj]at hl⊢;split
 ·rfl
 ·split at hl
  ·rename_i e;subst e;exact hc.ready hm hr hk hb
  ·exact hc _ hl _ hk hb
theorem qx{ms:List Nat}{i:Nat}:∀(k:Nat) (fl:Fl) (listed:Array Bool) (a:Act) (w:World),anyS r m P ops ms Q k fl listed a w->anyS r m P ops ms Q k ((i,fun _=>True)::fl) listed a w
 |0,_,_,_,_,h=>h
 |k+1,fl,_,_,_,h=>⟨h.1,fun j hj=>wpOpIn_mono (fun a' w' h'=>by
   cases hb:(maskAt ms j).testBit i
   ·rw [sP hb]
    refine⟨fun p hp=>?_,qx k _ _ a' w' h'.2⟩;rcases List.mem_cons.1 hp with rfl|hp
    ·trivial
    ·exact h'.1 p hp
   ·have e:uU (maskAt ms j) ((i,fun _=>True)::fl)=uU (maskAt ms j) fl:=by simp [uU,hb]
    rw [e];exact h') (h.2 j hj)⟩
theorem oY{ms:List Nat}(hm:oP ops ms=true)(xZ:∀(j:Nat) o,ops[j]? =some o->kL o=true)(hQ:∀c a w,¬Q (.panic c) a w)
 {S:World->Prop} {i:Nat} {oi:Oper} {v:Value} (hi:ops[i]? =some oi):
 ∀(k:Nat) (fl:Fl) (listed:Array Bool) (a:Act) (w:World),listed.size=ops.size->MC ops.size ms listed->
  (∀j oj,ops[j]? =some oj->j≠i->listed.getD j true=false->(∀e∈oj.after,Region.binds .any e=true->e.on≠i)->oi.apart ops oj=true)->
  i∈Region.ready .any ops listed->YS P ops S oi v a->S w->(∀p∈fl,p.2 w)->
  anyS r m P ops ms Q k ((i,S)::fl) (listed.setIfInBounds i true) (a.put oi.dst v) w->anyS r m P ops ms Q (k+1) fl listed a w:=by
 intro k;have KU:i<ops.size:=(Array.getElem?_eq_some_iff.1 hi).1
 induction k with
 |zero=>
  intro fl listed a w nK hc xo hr hy hS C0 H;refine⟨fun h=>(by rw [h]at hr;cases hr),fun j hj=>?_⟩;by_cases FT:j=i
  ·subst FT
   exact hy.wpOpIn hi (xZ _ _ hi) hS ⟨fun p hp=>C0 p (kh.1 hp).1,ow 0 _ _ _ _ _ (fun p hp=>List.mem_cons_of_mem _ (kh.1 hp).1) H⟩
  ·have:=ready_mono hj FT
   rw [H.1]at this;cases this
 |succ k ih=>
  intro fl listed a w nK hc xo hr hy hS C0 H;refine⟨fun h=>(by rw [h]at hr;cases hr),fun j hj=>?_⟩;by_cases FT:j=i
  ·subst FT
   exact hy.wpOpIn hi (xZ _ _ hi) hS ⟨fun p hp=>C0 p (kh.1 hp).1,ow _ _ _ _ _ _ (fun p hp=>List.mem_cons_of_mem _ (kh.1 hp).1) H⟩
  ·have h1:=H.2 j (ready_mono hj FT)
   obtain⟨PC,oj,UH,cV⟩:=mem_ready.1 hj;have IN:listed.getD i false=false:=by
    have h0:=(mem_ready.1 hr).1;rw [<-nK]at KU;simp [KU]at h0⊢;exact h0
   have O6:∀e∈oj.after,Region.binds .any e=true->e.on≠i:=fun e he hb heq=>by
    have h1:=cV e he hb;rw [heq,IN]at h1;cases h1
   have oD:(maskAt ms j).testBit i=false:=by
    cases hb:(maskAt ms j).testBit i
    ·rfl
    ·have:=hc.ready hm hj KU hb
     rw [IN]at this;cases this
   rw [sP oD]at h1;have h2:=vX UH (xo j oj UH FT PC O6) (xZ _ _ hi) (xZ _ _ UH) hQ hy h1;have K6:∀k ok,ops[k]? =some ok->k≠i->(listed.setIfInBounds j true).getD k true=false->
    (∀e∈ok.after,Region.binds .any e=true->e.on≠i)->oi.apart ops ok=true:=fun k ok hk hki Yz rG=>by
    refine xo k ok hk hki ?_ rG;by_cases U9:j=k
    ·subst U9;exact PC
    ·rw [getD_set_ne true U9]at Yz;exact Yz
   refine wpOpIn_mono (fun a' w' h3=>?_) h2;obtain⟨RF,xl,H'⟩:=h3;refine⟨fun p hp=>xl p (List.mem_cons_of_mem _ hp),ih _ (listed.setIfInBounds j true) a' w' (by simp [nK]) (hc.set hm nK hj) K6 (ready_mono hr (Ne.symm FT)) RF (xl _ List.mem_cons_self)
    (fun p hp=>xl p (List.mem_cons_of_mem _ hp)) ?_⟩
   rw [Array.setIfInBounds_comm _ _ FT];exact H'
theorem CC{ms:List Nat}{listed:Array Bool}{a:Act}{w:World}(hr:Region.ready .any ops listed= [])(h:Q .normal a w):
 ∀(k:Nat) (fl:Fl),anyS r m P ops ms Q k fl listed a w
 |0,_=>⟨hr,h⟩
 |_+1,_=>⟨fun _=>h,by rw [hr];simp⟩
def JG(n:Nat)(ds:List Deferred)(K:Env->World->Prop):Exit->Act->World->Prop
 | .normal,a,w=>∃ρ,Sat n ds ρ a/\K ρ w
 |_,_,_=>False
theorem xO{p:Nat->Prop}:∀ {l:List Nat},LI l p->∀i∈l,p i
 | [],_,i,hi=>by cases hi
 | [j],h,i,hi=>by
   have:i=j:=by simpa using hi
   subst this;exact h
 |j::j'::l,h,i,hi=>by
  rcases List.mem_cons.1 hi with rfl|hi
  ·exact h.1
  ·exact xO h.2 i hi
theorem iW(lC:NG P){ms:List Nat}(hm:oP ops ms=true)(xZ:∀(j:Nat) o,ops[j]? =some o->kL o=true){K:Env->World->Prop}:
 ∀(k:Nat) (fl:Fl) (listed:Array Bool) (ρ:Env) (a:Act) (w:World),listed.size=ops.size->MC ops.size ms listed->
  Sat n ds ρ a->(∀p∈fl,p.2 w)->oG P n ops ms k listed ρ fl w K->anyS r m P ops ms (JG n ds K) k fl listed a w
 |0,fl,listed,ρ,a,w,_,_,hs,_,h=>by
  simp only [oG]at h;split at h
  ·rename_i hr
   exact⟨hr,ρ,hs,h⟩
  ·exact h.elim
 |k+1,fl,listed,ρ,a,w,nK,hc,hs,C0,h=>by
  simp only [oG]at h;split at h
  ·rename_i hr
   exact CC hr ⟨ρ,hs,h⟩ _ _
  ·rename_i j rest yT
   rw [<-yT]at h;have hQ:∀c a w,¬JG n ds K (.panic c) a w:=fun _ _ _ h=>h;split at h
   ·rename_i i IS
    have PK:=List.mem_of_find?_eq_some IS;have Ce:=List.find?_some IS;unfold quiet at Ce;cases ho:ops[i]? with
    |none=>rw [ho]at h;exact h.elim
    |some o=>
     simp only [ho]at h Ce;have BZ:(listed.setIfInBounds i true).size=ops.size:=by simp [nK]
     have sD:=hc.set hm nK PK;obtain⟨iP,lP,⟨hw,h⟩|⟨hw,h⟩⟩:=lF hs h
     ·cases tX:known iP o
      ·rw [tX]at h;exact h.elim
      ·rw [tX,cond_true]at h
       have he:=oR lP tX;cases mF:cls P o<;>rw [mF]at h Ce
       ·obtain⟨v,hv,h⟩:=nA h
        obtain⟨oy,qt,h⟩:=fF lP h;exact oY hm xZ hQ (S:=fun _=>True) ho k fl listed a w nK hc (Region.free_spec ho Ce) PK (.inl ⟨hw,fun w' _=>by rw [he];exact hv w'⟩) trivial C0
         (qx _ _ _ _ _ (iW lC hm xZ k fl _ oy _ w BZ sD qt C0 h))
       ·obtain⟨v,h1,h2,h⟩:=nz h
        obtain⟨oy,qt,h⟩:=fF lP h;refine oY hm xZ hQ (S:=fc P (eval iP) o v) ho k fl listed a w nK hc (Region.free_spec ho Ce) PK (.inl ⟨hw,fun w' hw'=>by rw [he];exact h2 w' hw'⟩) h1 C0
         (iW lC hm xZ k _ _ oy _ w BZ sD qt ?_ h)
        intro p hp;rcases List.mem_cons.1 hp with rfl|hp
        ·exact h1
        ·exact C0 p hp
       ·exact h.elim
     ·obtain⟨oy,qt,h⟩:=fF lP h
      have hfr:Region.free .any ops listed i=true:=by
       cases mF:cls P o<;>rw [mF]at Ce
       ·exact Ce
       ·exact Ce
       ·cases Ce
      exact oY hm xZ hQ (S:=fun _=>True) ho k fl listed a w nK hc (Region.free_spec ho hfr) PK (.inr ⟨hw,rfl⟩) trivial C0
       (qx _ _ _ _ _ (iW lC hm xZ k fl _ oy _ w BZ sD qt C0 h))
   ·split at h
    ·exact h.elim
    ·have cV:=xO h
     refine⟨fun h0=>(by rw [h0]at yT;cases yT),fun i hi=>?_⟩;have h:=cV i hi;have BZ:(listed.setIfInBounds i true).size=ops.size:=by simp [nK]
     have sD:=hc.set hm nK hi;cases ho:ops[i]? with
     |none=>rw [ho]at h;exact h.elim
     |some o=>
      simp only [ho]at h;unfold Go.wpOpIn;simp only [ho];obtain⟨iP,lP,⟨hw,h⟩|⟨hw,h⟩⟩:=lF hs h
      ·simp only [hw,if_true]
       cases tX:known iP o
       ·rw [tX]at h;exact h.elim
       ·rw [tX,cond_true]at h
        have he:=oR lP tX;have Qx:zM P a.eval o w fun v w'=>∃oy,Sat n ds oy (a.put o.dst v)/\L5 (maskAt ms i) fl w' (oG P n ops ms k (listed.setIfInBounds i true) oy (uU (maskAt ms i) fl) w' K):=by
         unfold zM;rw [he];rcases oJ lC h with⟨v,w',hr,h⟩|⟨w',hr,h⟩|⟨g,args,hr,h⟩|⟨l,g,tmps,assign,body,hr,h⟩
         ·exact .inl ⟨v,w',hr,fF lP h⟩
         ·exact .inr (.inl ⟨w',hr,fF lP h⟩)
         ·exact .inr (.inr (.inl ⟨g,args,hr,Calls.mono h fun e w' ⟨v,hv,h⟩=>⟨v,hv,fF lP h⟩⟩))
         ·exact .inr (.inr (.inr ⟨l,g,tmps,assign,body,hr,fun r m=>RoundIn.mono (h r m) fun e w' ⟨v,hv,h⟩=>⟨v,hv,fF lP h⟩⟩))
        refine Qx.wpIn (oI tX) ?_;rintro v w' ⟨oy,qt,h⟩;obtain⟨xl,h⟩:=vg h;exact⟨xl,iW lC hm xZ k _ _ oy _ w' BZ sD qt xl h⟩
      ·simp only [hw,Bool.false_eq_true,if_false]
       obtain⟨oy,qt,h⟩:=fF lP h;exact⟨fun _ _=>trivial,fun p hp=>C0 p (kh.1 hp).1,ow _ _ _ _ _ _ (fun p hp=>(kh.1 hp).1) (iW lC hm xZ k _ _ oy _ w BZ sD qt C0 h)⟩
theorem xE(lC:NG P)(lD:P.follows .mixedOrders=true){id:Nat}{ρ:Env}{a:Act}{w:World}{K:Env->World->Prop}(hs:Sat n ds ρ a)(h:E9 P n ops ρ w K):
 (Code.region id ops true).wpIn (FR r) m P (JG n ds K) a w:=by
 unfold E9 at h;simp only at h;split at h
 ·rename_i hb
  simp only [Bool.and_eq_true]at hb;obtain⟨hm,xZ⟩:=hb;have UM:∀(j:Nat) o,ops[j]? =some o->kL o=true:=fun j o ho=>by
   rw [List.all_eq_true]at xZ;exact xZ o (by simpa using Array.mem_of_getElem? ho)
  refine wpIn_region_any lD (xM _ [] _ _ _ (iW lC hm UM _ _ _ ρ a _ (by simp) ?_ hs (by simp) h));intro j hj;exfalso;have:(Array.replicate ops.size false).getD j false=false:=by simp [Array.getD]
  rw [this]at hj;cases hj
 ·exact h.elim
end
def JH(o:Oper):List Nat:=o.op.operands.toList.filterMap fun| .tmp t=>some t|_=>none
def ct:Code->List Nat
 | .region _ ops _=>ops.toList.flatMap JH
 | .seq a b=>ct a++ct b
 | .cond c a b=>(match c with| .tmp t=> [t]|_=> [])++ct a++ct b
 | .block _ c=>ct c
 | .loop c=>ct c
 | .scope c=>ct c
 | .rangeFunc f _ a b=>(match f with| .tmp t=> [t]|_=> [])++ct a++ct b
 |_=> []
abbrev aM:=Exit->Env->World->Prop
def Holds(r:Option Nat)(ds:List Deferred)(P:Program)(n:Nat)(c:Code)(Q:aM)(ρ:Env)(w:World):Prop:=
 ∀a,Sat n ds ρ a->c.wpIn (FR r) 0 P (fun e a' w'=>∃iP,Sat n ds iP a'/\Q e iP w') a w
def b6(K:Env->World->Prop)(Q:aM):aM
 | .normal,ρ,w=>K ρ w
 |e,ρ,w=>Q e ρ w
def aP(id:Nat)(U:List Nat)(Q:aM):aM
 | .exit TF,ρ,w=>match Nat.beq TF id with|true=>Q .normal (aK U ρ) w|false=>Q (.exit TF) ρ w
 |e,ρ,w=>Q e ρ w
def cutAt(C:List Nat):Code->Bool
 | .region id _ _=>yD C id
 | .seq a _=>cutAt C a
 | .block _ a=>cutAt C a
 |_=>false
def a8(r:Option Nat)(ds:List Deferred)(P:Program)(n:Nat)(C:List Nat):Code->List Nat->aM->Env->World->Prop
 | .skip,_,Q,ρ,w=>Q .normal ρ w
 | .label _,_,Q,ρ,w=>Q .normal ρ w
 | .region _ ops draw,U,Q,ρ,w=>
   match draw with
   |false=>Gt P n ops ops.toList ρ w fun iP w'=>Q .normal (aK U iP) w'
   |true=>E9 P n ops ρ w fun iP w'=>Q .normal (aK U iP) w'
 | .seq a b,U,Q,ρ,w=>a8 r ds P n C a (ct b++U) (b6 (fun iP w'=>match cutAt C b with|true=>Holds r ds P n b Q iP w'|false=>a8 r ds P n C b U Q iP w') Q) ρ w
 | .cond c a b,U,Q,ρ,w=>
   match r8 ρ c with
   |some (.bool t)=>Split t (a8 r ds P n C a U Q (aK (ct a++U) ρ) w) (a8 r ds P n C b U Q (aK (ct b++U) ρ) w)
   |_=>False
 | .block id c,U,Q,ρ,w=>a8 r ds P n C c U (aP id U Q) ρ w
 | .exit id,_,Q,ρ,w=>Q (.exit id) ρ w
 | .ret,_,Q,ρ,w=>Q .ret ρ w
 | .loop c,_,Q,ρ,w=>Holds r ds P n (.loop c) Q ρ w
 | .rangeFunc f ps a b,_,Q,ρ,w=>Holds r ds P n (.rangeFunc f ps a b) Q ρ w
 |_,_,_,_,_=>False
section
variable{r:Option Nat}{ds:List Deferred}{P:Program}{n:Nat}
theorem Holds.mono{c:Code}{Q Q':aM}{ρ:Env}{w:World}(h:Holds r ds P n c Q ρ w)(hq:∀e ρ w,Q e ρ w->Q' e ρ w):Holds r ds P n c Q' ρ w:=
 fun a hs=>wpIn_mono (h a hs) fun _ _ _ ⟨iP,h1,h2⟩=>⟨iP,h1,hq _ _ _ h2⟩
theorem fC{C:List Nat}(lC:NG P)(lD:P.follows .mixedOrders=true):∀(c:Code) (U:List Nat) (Q:aM) (ρ:Env) (w:World),a8 r ds P n C c U Q ρ w->Holds r ds P n c Q ρ w
 | .skip,_,_,ρ,_,h=>fun _ hs=>wpIn_skip ⟨ρ,hs,h⟩
 | .label _,_,_,ρ,_,h=>fun _ hs=>wpIn_label ⟨ρ,hs,h⟩
 | .region id ops draw,U,Q,ρ,w,h=>fun a hs=>by
   cases draw with
   |false=>exact wpIn_region (oN lC (fun iP a' w' lP h'=>⟨_,lP.aK U,h'⟩) _ _ ρ a w (by
     apply List.ext_getElem?;intro j;simp only [List.getElem?_map,Array.getElem?_toList];rcases Nat.lt_or_ge j ops.size with hj|hj
     ·rw [List.getElem?_range hj];simp [Array.getElem?_eq_getElem hj]
     ·rw [List.getElem?_eq_none (by simpa using hj)];simp [Array.getElem?_eq_none hj]) hs h)
   |true=>
    refine wpIn_mono (xE lC lD hs h) ?_;intro e a' w' h';cases e with
    |normal=>obtain⟨iP,lP,h'⟩:=h';exact⟨_,lP.aK U,h'⟩
    |_=>exact h'.elim
 | .seq x y,U,Q,ρ,w,h=>fun a hs=>by
   refine wpIn_seq (wpIn_mono (fC lC lD x _ _ ρ w h a hs) ?_);rintro e a' w' ⟨iP,lP,h'⟩;cases e with
   |normal=>
    simp only [b6]at h';split at h'
    ·exact h' a' lP
    ·exact fC lC lD y U Q iP w' h' a' lP
   |_=>exact⟨iP,lP,h'⟩
 | .cond c x y,U,Q,ρ,w,h=>fun a hs=>by
   simp only [a8]at h;split at h
   ·rename_i t ht
    have he:a.eval c=.bool t:=by
     rw [r7 hs (by rw [ht];rfl)];simp [eval,ht]
    cases t
    ·exact wpIn_cond_false he (fC lC lD y U Q _ w h a (hs.aK _))
    ·exact wpIn_cond_true he (fC lC lD x U Q _ w h a (hs.aK _))
   ·exact h.elim
 | .block id c,U,Q,ρ,w,h=>fun a hs=>by
   refine wpIn_block (wpIn_mono (fC lC lD c U _ ρ w h a hs) ?_);rintro e a' w' ⟨iP,lP,h'⟩;cases e with
   |exit TF=>
    simp only [aP]at h';simp only [Exit.inBlock];split at h'
    ·rename_i hb
     rw [if_pos (Nat.eq_of_beq_eq_true hb)];exact⟨_,lP.aK U,h'⟩
    ·rename_i hb
     rw [if_neg (Nat.ne_of_beq_eq_false hb)];exact⟨_,lP,h'⟩
   |_=>exact⟨iP,lP,h'⟩
 | .exit _,_,_,ρ,_,h=>fun _ hs=>wpIn_exit ⟨ρ,hs,h⟩
 | .ret,_,_,ρ,_,h=>fun _ hs=>wpIn_ret ⟨ρ,hs,h⟩
 | .loop _,_,_,_,_,h=>h
 | .rangeFunc _ _ _ _,_,_,_,_,h=>h
 | .scope _,_,_,_,_,h=>h.elim
 | .goto _,_,_,_,_,h=>h.elim
 | .refuse _,_,_,_,_,h=>h.elim
def bS{S:Type}(env:S->Env)(I:S->World->Prop)(μ:S->World->Nat)(s:S)(w:World)(Q:aM):aM:=
 b6 (fun iP w'=>∃s',iP=env s'/\I s' w'/\μ s' w'<μ s w) Q
theorem x8{F:Fence}{m:Nat}{S:Type}{c:Code}{Q:Exit->Act->World->Prop}{a:Act}{w:World}(I:S->Act->World->Prop)(μ:S->World->Nat)(s:S)(h₀:I s a w)
 (round:∀s a w,I s a w->c.wpIn F m P (Exit.then (fun a' w'=>∃s',I s' a' w'/\μ s' w'<μ s w) Q) a w):(Code.loop c).wpIn F m P Q a w:=by
 intro b k cs hro hb hr;have key:∀j s a w,μ s w=j->I s a w->
  ∃e a' w',Q e a' w'/\ArrivesIn (Machine.fenced P F) P (lone (b.atR a (.code c:: .inLoop c::k)) cs w) b k cs e a' w':=by
  intro j
  induction j using Nat.strongRecOn with
  |_ j ih=>
   intro s a w hn hI;obtain⟨e,CB,x7,hq,mr⟩:=round s a w hI b (.inLoop c::k) cs hro hb hr;cases e with
   |normal=>
    obtain⟨s',QJ,cI⟩:=hq;obtain⟨WL,WZ,SB,ON,Hv⟩:=ih (μ s' x7) (hn▸cI) s' CB x7 rfl QJ;exact⟨WL,WZ,SB,ON,.of_steps (StepsIn.trans mr (.one (fenced_calm hb hr rfl) stepR_inLoop)) Hv⟩
   |exit id=>exact⟨_,CB,x7,hq,.pass (x:=.inLoop c) rfl (fun _ _=>.inl (by simp)) mr⟩
   |goto l=>exact⟨_,CB,x7,hq,.pass (x:=.inLoop c) rfl (fun _ _=>.inl (by simp)) mr⟩
   |ret=>exact⟨_,CB,x7,hq,.pass (x:=.inLoop c) rfl (fun _ _=>.inl (by simp)) mr⟩
   |panic ch=>exact⟨_,CB,x7,hq,.pass (x:=.inLoop c) rfl (fun _ _=>.inl (by simp)) mr⟩
   |outgrown=>exact⟨_,CB,x7,hq,.pass (x:=.inLoop c) rfl (fun _ _=>.inl (by simp)) mr⟩
 obtain⟨e,a',w',hq,mr⟩:=key _ s a w rfl h₀;exact⟨e,a',w',hq,.of_steps (.one (fenced_calm hb hr rfl) stepR_loop) mr⟩
theorem BQ(lC:NG P)(lD:P.follows .mixedOrders=true){S:Type}(env:S->Env)(I:S->World->Prop)(μ:S->World->Nat){c:Code}{Q:aM}{w:World}(C U:List Nat)(s:S)
 (h0:I s w) (round:∀s w,I s w->a8 r ds P n C c U (bS env I μ s w Q) (env s) w):Holds r ds P n (.loop c) Q (env s) w:=by
 intro a hs;refine x8 (fun s a w=>Sat n ds (env s) a/\I s w) μ s ⟨hs,h0⟩ ?_;rintro s a w ⟨hs,hI⟩;refine wpIn_mono (fC lC lD c U _ _ w (round s w hI) a hs) ?_;rintro e a' w' ⟨iP,lP,h'⟩;cases e with
 |normal=>obtain⟨s',rfl,h1,h2⟩:=h';exact⟨s',⟨lP,h1⟩,h2⟩
 |_=>exact⟨iP,lP,h'⟩
def sL:Code->Code| .seq a _=>a|c=>c
def sR:Code->Code| .seq _ b=>b|c=>c
abbrev aZ(c:Code):Code:=sR (sR c)
abbrev cS(c:Code):Code:=sR (sR (sR (sR c)))
abbrev dW(c:Code):Code:=sR (sR (sR (sR (sR (sR (sR (sR c)))))))
def bB:Code->Code| .block _ c=>c|c=>c
def lB:Code->Code| .loop c=>c|c=>c
def cT:Code->Code| .cond _ a _=>a|c=>c
def cE:Code->Code| .cond _ _ b=>b|c=>c
def rA:Code->Code| .rangeFunc _ _ a _=>a|c=>c
def rB:Code->Code| .rangeFunc _ _ _ b=>b|c=>c
def body(fn:Func):Code:=match fn.body with|some c=>c|none=>.skip
def jU(P:Program)(ρ:Env)(w:World)(r:ResultVar)(k:Value->Prop):Prop:=
 match r with
 | .tmp t=>Is (r8 ρ (.tmp t)) k
 | .cell t ty=>match r8 ρ (.tmp t),P.underlying ty with|some (.pointer (some a)),some _=>xS P ty a w k|_,_=>False
def Gl(P:Program)(fn:Func)(ρ:Env)(w:World)(k:Value->Prop):Prop:=
 match fn.results.toList with
 | []=>k (.tuple #[])
 | [r]=>jU P ρ w r k
 | [r,s]=>jU P ρ w r fun x=>jU P ρ w s fun y=>k (.tuple #[x,y])
 | [r,s,t]=>jU P ρ w r fun x=>jU P ρ w s fun y=>jU P ρ w t fun z=>k (.tuple #[x,y,z])
 | [r,s,t,u]=>jU P ρ w r fun x=>jU P ρ w s fun y=>jU P ρ w t fun z=>jU P ρ w u fun q=>k (.tuple #[x,y,z,q])
 |_=>False
def aW(fn:Func):List Nat:=fn.results.toList.filterMap fun| .tmp t=>some t| .cell t _=>some t
def fi:List Nat->World->World
 | [],w=>w
 |D::l,w=>fi l (w.putObj D (.deferred none))
def jG:List Nat->World->Prop
 | [],_=>True
 |D::l,w=>w.heap[D]? =some (.deferred (some []))/\jG l (w.putObj D (.deferred none))
def HI(P:Program)(fn:Func)(K:Value->World->Prop)(ρ:Env)(w:World):Prop:=
 match find ρ fN with
 |none=>Gl P fn ρ w fun v=>K v w
 |some m=>jG (marksOf m) w/\Gl P fn ρ (fi (marksOf m) w) fun v=>K v (fi (marksOf m) w)
def bV(P:Program)(fn:Func)(K:Value->World->Prop):aM
 | .normal,ρ,w=>HI P fn K ρ w
 | .ret,ρ,w=>HI P fn K ρ w
 |_,_,_=>False
def mz:List Value->Nat->Env
 | [],_=> []
 |v::vs,i=>(i,v)::mz vs (i+1)
def vf(tmps:Array Value):ResultVar->Sem Value
 | .tmp t=>pure (tmps.getD t undef)
 | .cell c t=>do loadVar t (<-asAddr (tmps.getD c undef))
theorem ml(fn:Func)(tmps:Array Value):results fn tmps=(do
 let vs<-fn.results.mapM (vf tmps)
 pure (if h:vs.size=1 then vs[0]else .tuple vs)):=by
 unfold results
 congr 1
theorem eh{ρ:Env}{a:Act}{w:World}{r:ResultVar}{k:Value->Prop}(hs:Sat n ds ρ a)(h:jU P ρ w r k):∃v,(vf a.tmps r).run P w=.ok v w/\k v:=by
 unfold jU at h;have key:∀t v,r8 ρ (.tmp t)=some v->a.tmps.getD t undef=v:=fun t v hv=>by
  have:=r7 hs (x:=.tmp t) (by rw [hv];rfl);rw [eval,hv]at this;exact this
 cases r with
 |tmp t=>
  obtain⟨x,hx,h⟩:=h.out;refine⟨x,?_,h⟩;have e1:=key _ _ hx;simp only [vf];rw [e1];simp
 |cell t ty=>
  simp only at h;split at h
  ·rename_i b d hx hu
   have e1:=key _ _ hx;obtain⟨v,h1,h2⟩:=h.ok;refine⟨v,?_,h2⟩;simp only [vf];rw [e1];simp [asAddr,h1.run (by simp [hu])]
  ·exact h.elim
theorem rZ{fn:Func}{ρ:Env}{a:Act}{w:World}{k:Value->Prop}(hs:Sat n ds ρ a)(h:Gl P fn ρ w k):∃v,(results fn a.tmps).run P w=.ok v w/\k v:=by
 unfold Gl at h;have mr:fn.results=fn.results.toList.toArray:=by simp
 split at h
 ·rename_i hr
  rw [hr]at mr;exact⟨_,by simp [results,mr],h⟩
 ·rename_i r hr
  rw [hr]at mr;obtain⟨x,h1,h⟩:=eh hs h;exact⟨x,by simp [ml,mr,h1],h⟩
 ·rename_i r s hr
  rw [hr]at mr;obtain⟨x,h1,h⟩:=eh hs h;obtain⟨y,h2,h⟩:=eh hs h;exact⟨_,by simp [ml,mr,h1,h2],h⟩
 ·rename_i r s t hr
  rw [hr]at mr;obtain⟨x,h1,h⟩:=eh hs h;obtain⟨y,h2,h⟩:=eh hs h;obtain⟨z,h3,h⟩:=eh hs h;exact⟨_,by simp [ml,mr,h1,h2,h3],h⟩
 ·rename_i r s t u hr
  rw [hr]at mr;obtain⟨x,h1,h⟩:=eh hs h;obtain⟨y,h2,h⟩:=eh hs h;obtain⟨z,h3,h⟩:=eh hs h;obtain⟨q,h4,h⟩:=eh hs h;exact⟨_,by simp [ml,mr,h1,h2,h3,h4],h⟩
 ·exact h.elim
theorem pE{fn:Func}{tmps:Array Value}{R:Ending->World->Prop}:∀(l:List Nat) (w:World),jG l w->(∃v,(results fn tmps).run P (fi l w)=.ok v (fi l w)/\R (.returned v) (fi l w))->
 LeavesInM (FR none) 0 P fn tmps R (l.map fun D=> {target:=.collected D,args:= #[]}) .returning w
 | [],_,_,h=>h
 |D::l,w,hm,h=>⟨by simp,.inl ⟨D,_,rfl,run_takeDeferred hm.1,pE l _ hm.2 h⟩⟩
theorem sT{fn:Func}{K:Value->World->Prop}{ρ:Env}{a:Act}{w:World}(hs:Sat n [] ρ a)(h:HI P fn K ρ w):
 LeavesInM (FR none) 0 P fn a.tmps (fun e w'=>∃v,e=.returned v/\K v w') a.defers .returning w:=by
 have hd:=hs.defers;rw [List.append_nil]at hd;unfold HI at h;unfold marks at hd;split at h
 ·rename_i hn
  rw [hn]at hd;rw [hd];obtain⟨v,hv,hk⟩:=rZ hs h;exact⟨v,hv,v,rfl,hk⟩
 ·rename_i m hn
  rw [hn]at hd;rw [hd];obtain⟨v,hv,hk⟩:=rZ hs h.2;exact pE _ _ h.1 ⟨v,hv,v,rfl,hk⟩
theorem nP:∀(vs:List Value) (i j:Nat) (v:Value),find (mz vs i) j=some v->∃k,j=i+k/\vs[k]? =some v
 | [],_,_,_,h=>by simp [mz,find]at h
 |u::vs,i,j,v,h=>by
  simp only [mz,find]at h;cases hb:Nat.beq i j
  ·rw [hb]at h
   obtain⟨k,hk,hv⟩:=nP vs (i+1) j v h;exact⟨k+1,by omega,by simpa using hv⟩
  ·rw [hb]at h
   cases h;exact⟨0,by have:=Nat.eq_of_beq_eq_true hb;omega,rfl⟩
theorem wy{C:List Nat}(lC:NG P)(lD:P.follows .mixedOrders=true){f:FuncId}{fn:Func}{c:Code}{args:List Value}{w:World}{K:Value->World->Prop}
 (hf:P.funcs[f]? =some fn) (hb:fn.body=some c) (hn:(Nat.ble args.length fn.ntmps&&Nat.ble fn.ntmps fN)=true)
 (h:a8 none [] P fn.ntmps C c (aW fn) (bV P fn K) (mz args 0) w):bf P f args.toArray w K:=by
 simp only [Bool.and_eq_true]at hn;have UT:=Nat.le_of_ble_eq_true hn.2;have hn:=Nat.le_of_ble_eq_true hn.1;refine(callsIn_wide (n:=0)).1 (callsIn_of_wp_marks (F:=FR none) hf hb trivial (wpIn_mono (fC lC lD c _ _ _ w h _ ?_) ?_))
 ·refine⟨by simp;omega,?_,fun i v _ hi=>?_⟩
  ·have:find (mz args 0) fN=none:=by
    cases hfd:find (mz args 0) fN with
    |none=>rfl
    |some v=>
     obtain⟨k,hk,hv⟩:=nP _ _ _ _ hfd;have:=(lgeS hv).1;omega
   simp [marks,this]
  ·obtain⟨k,hk,hv⟩:=nP _ _ _ _ hi
   have:i=k:=by omega
   subst this;have cI:i<args.length:=(lgeS hv).1;have hg:args[i]=v:=(lgeS hv).2;simp [Array.getElem?_append,cI,hg]
 ·rintro e a' w' ⟨iP,lP,h'⟩
  cases e with
  |normal=>exact sT lP h'
  |ret=>exact sT lP h'
  |_=>exact h'.elim
theorem BF{C:List Nat}(lC:NG P)(lD:P.follows .mixedOrders=true){f:FuncId}{fn:Func}{c:Code}{args:List Value}{w:World}{K:Value->World->Prop}{W:Prop}
 (hf:P.funcs[f]? =some fn) (hb:fn.body=some c) (hn:(Nat.ble args.length fn.ntmps&&Nat.ble fn.ntmps fN)=true)
 (hs:a8 none [] P fn.ntmps C c (aW fn) (bV P fn K) (mz args 0) w=W) (h:W):bf P f args.toArray w K:=
 wy lC lD hf hb hn (Eq.mpr hs h)
theorem cJ{C:List Nat}(lC:NG P)(lD:P.follows .mixedOrders=true){c:Code}{U:List Nat}{Q:aM}{ρ:Env}{w:World}{W:Prop}
 (hs:a8 r ds P n C c U Q ρ w=W) (h:W):Holds r ds P n c Q ρ w:=fC lC lD c U Q ρ w (Eq.mpr hs h)
theorem br(lC:NG P)(lD:P.follows .mixedOrders=true){S:Type}(env:S->Env)(I:S->World->Prop)(μ:S->World->Nat){c:Code}{Q:aM}{w:World}(C U:List Nat)(s:S)
 (B:S->aM->World->Prop) (hB:∀s Q w,a8 r ds P n C c U Q (env s) w=B s Q w)
 (h0:I s w) (round:∀s w,I s w->B s (bS env I μ s w Q) w):Holds r ds P n (.loop c) Q (env s) w:=
 BQ lC lD env I μ C U s h0 fun s w hI=>Eq.mpr (hB s _ w) (round s w hI)
end
def fZ(ρ:Env)(D:Nat):Env:=
 match find ρ fN with
 |some (.agg cs)=>put ρ fN (.agg (#[.pointer (some ⟨D,0,none⟩)]++cs))
 |_=>put ρ fN (.agg #[.pointer (some ⟨D,0,none⟩)])
def yE(ρ:Env):Prop:=find ρ fN=none\/∃cs,find ρ fN=some (.agg cs)
theorem BP{ρ:Env}(h:yE ρ)(D:Nat):marks (fZ ρ D)= {target:=.collected D,args:= #[]}::marks ρ:=by
 rcases h with h|⟨cs,h⟩
 ·simp only [fZ,h,marks,jN,marksOf]
  simp
 ·simp only [fZ,h,marks,jN,marksOf]
  simp
theorem vC{ρ:Env}{D i:Nat}(hi:i≠fN):find (fZ ρ D) i=find ρ i:=by
 unfold fZ;split<;>rw [jN,if_neg (fun e=>hi e.symm)]
def jV:Env->List (Nat×Value)->Env
 |ρ,[]=>ρ
 |ρ,(t,v)::l=>jV (put ρ t v) l
section
variable{P:Program}{n:Nat}
def QZ(Q:aM)(R:Loop)(l:Nat)(ρ:Env)(w:World):Prop:=
 ∃st wB,w.heap[l]? =some (.loop {R with state:=st,pending:=wB})/\st≠ .busy/\
  match wB with
  |none=>Q .normal ρ (w.putObj l (.loop {R with state:=.exhausted,pending:=wB}))
  |some .ret=>Q .ret ρ (w.putObj l (.loop {R with state:=.exhausted,pending:=wB}))
  |some (.exit id)=>Q (.exit id) ρ (w.putObj l (.loop {R with state:=.exhausted,pending:=wB}))
  |_=>False
theorem yv(lC:NG P){t:Nat}{ps:Array Tmp}{assign body:Code}{Q:aM}{ρ:Env}{w:World}{gf:FuncId}{first fh:Array Value}{fn:Func}
 (ht:t≠fN) (hf:find ρ t=some (.func (.func gf) first fh)) (FU:P.funcs[gf]? =some fn) (hb:fn.body.isSome) (hm:yE ρ)
 (h:∀zm tmps,tmps.size=n->(∀i v,i≠fN->find ρ i=some v->tmps.getD i undef=v)->
   ∀R:Loop,R= {state:=.ready,pending:=none,fn:=zm,tmps,params:=ps,assign,body,defers:=w.heap.size}->
   bf P gf (first++ #[.func (.yield (w.heap.size+1)) #[] #[]]++fh) ((w.alloc (.deferred (some []))).alloc (.loop R)) fun _ w2=>QZ Q R (w.heap.size+1) (fZ ρ w.heap.size) w2):
 Holds none [] P n (.rangeFunc (.tmp t) ps assign body) Q ρ w:=by
 intro a hs;have hev:a.eval (.tmp t)=.func (.func gf) first fh:=by
  simp only [Act.eval];exact hs.wa t _ ht hf
 refine wpIn_rangeFunc (F:=FR none) fun zm _=>?_;have AH:=h zm a.tmps hs.size hs.wa _ rfl;generalize hR:({state:=.ready,pending:=none,fn:=zm,tmps:=a.tmps,params:=ps,assign,body,defers:=w.heap.size}:Loop)=R at AH;have K8:(Instr.enterLoop zm a.tmps ps assign body (FR none).round).run P w=.ok (w.heap.size+1,[{target:=.collected w.heap.size,args:= #[]}]) ((w.alloc (.deferred (some []))).alloc (.loop R)):=by
  rw [<-hR];exact run_enterLoop_outer zm a.tmps ps assign body
 refine⟨_,_,_,{target:=.fn (.func gf) fh,args:=first++ #[.func (.yield (w.heap.size+1)) #[] #[]]},((w.alloc (.deferred (some []))).alloc (.loop R)),gf,first++ #[.func (.yield (w.heap.size+1)) #[] #[]]++fh,((w.alloc (.deferred (some []))).alloc (.loop R)),K8,?_,fun _ _=>trivial,?_,fun h=>by simp at h,?_⟩
 ·simp [resolve,hev,Deferred.ofValue]
  rfl
 ·have hn:=lC gf fn FU
  have tY:fn.body.isNone=false:=by cases Cl:fn.body<;>simp_all
  simp only [invoke,callFunc,Sem.run_bind,run_program,Result.andThen_ok,FU,hn,tY,Bool.false_eq_true,if_false,Sem.run_pure]
 ·refine tf (Calls.mono AH ?_)
  rintro e w2 ⟨v,rfl,st,wB,hl,oo,hq⟩;refine⟨wB,w2.putObj (w.heap.size+1) (.loop {R with state:=.exhausted,pending:=wB}),run_endLoop hl oo,?_⟩;have Eo:Sat n [] (fZ ρ w.heap.size) {a with defers:= [{target:=.collected w.heap.size,args:= #[]}]++a.defers}:=by
   refine⟨hs.size,?_,fun i v hi hv=>?_⟩
   ·rw [BP hm,hs.defers];rfl
   ·rw [vC hi]at hv
    exact hs.wa i v hi hv
  split at hq
  ·exact⟨_,Eo,hq⟩
  ·exact wpIn_ret ⟨_,Eo,hq⟩
  ·exact wpIn_exit ⟨_,Eo,hq⟩
  ·exact hq.elim
def WO(R:Loop)(l:Nat)(K:Bool->World->Prop):aM
 | .normal,_,w=>∃st,w.heap[l]? =some (.loop {R with state:=st})/\K true (w.putObj l (.loop {R with state:=.ready,pending:=none}))
 | .ret,_,w=>∃st,w.heap[l]? =some (.loop {R with state:=st})/\K false (w.putObj l (.loop {R with state:=.done,pending:=some .ret}))
 | .exit id,_,w=>∃st,w.heap[l]? =some (.loop {R with state:=st})/\K false (w.putObj l (.loop {R with state:=.done,pending:=some (.exit id)}))
 |_,_,_=>False
theorem RoundIn.deep{r:Option Nat}{m l:Nat}{f:FuncId}{tmps:Array Value}{assign body:Code}{w:World}{R:Ending->World->Prop}(h:RoundIn (FR r) 0 P l f tmps assign body w R):RoundIn (FR r) m P l f tmps assign body w R:=
 ⟨h.1,fun c cs _=>h.2 c cs (by simp [Fence.room])⟩
theorem r4{ds:List Deferred}:∀(ps:List Nat) (vs:List Value) (ρ:Env) (tmps:Array Value),(∀t∈ps,t<n/\t≠fN)->Sat n ds ρ {tmps,defers:=ds}->find ρ fN=none->
 Sat n ds (jV ρ (ps.zip vs)) {tmps:=(ps.zip vs).foldl (fun tmps (t,a)=>tmps.setIfInBounds t a) tmps,defers:=ds}/\find (jV ρ (ps.zip vs)) fN=none
 | [],vs,ρ,tmps,_,h,hd=>by simp [jV];exact⟨h,hd⟩
 |_::_,[],ρ,tmps,_,h,hd=>by simp [jV];exact⟨h,hd⟩
 |t::ps,v::vs,ρ,tmps,hp,h,hd=>by
  simp only [List.zip_cons_cons,jV,List.foldl_cons];have ht:=hp t (by simp);have h1:=h.put (v:=v) ht.1 ht.2;exact r4 ps vs _ _ (fun u hu=>hp u (by simp [hu])) h1 (by rw [jN,if_neg ht.2];exact hd)
theorem vV{l:Nat}{R:Loop}{args:List Value}{w:World}{K:Bool->World->Prop}{ρ0:Env}
 (hl:w.heap[l]? =some (.loop R)) (oo:R.state=.ready) (hn:R.tmps.size=n) (hv:∀i v,i≠fN->find ρ0 i=some v->R.tmps.getD i undef=v) (R0:find ρ0 fN=none)
 (vQ:args.length=R.params.size) (RP:∀t∈R.params.toList,t<n/\t≠fN)
 (EO:Holds (some l) [] P n R.assign (fun e MS w1=>match e with
   | .normal=>w1.heap[l]? =some (.loop R)/\Holds (some l) [] P n R.body (WO R l K) MS (w1.putObj l (.loop {R with state:=.busy}))
   |_=>False) (jV ρ0 (R.params.toList.zip args)) w):
 jt P l args.toArray w K:=by
 have PX:(R.params.zip args.toArray).foldl (fun tmps (t,a)=>tmps.setIfInBounds t a) R.tmps=(R.params.toList.zip args).foldl (fun tmps (t,a)=>tmps.setIfInBounds t a) R.tmps:=by
  rw [<-Array.foldl_toList,Array.toList_zip]
 refine⟨R.fn,_,R.assign,R.body,run_yield hl (by simpa using vQ),fun r m=>RoundIn.deep ?_⟩;rw [PX];have Eo:=r4 (n:=n) (ds:= []) R.params.toList args ρ0 R.tmps RP ⟨hn,by simp [marks,R0],hv⟩ R0;refine roundIn_of_wpIn (F:=FR r) trivial (wpIn_mono (EO _ Eo.1) ?_);rintro e a1 w1 ⟨MS,CU,h1⟩;cases e with
 |normal=>
  obtain⟨vR,h1⟩:=h1;refine⟨_,run_beginRound vR oo,wpIn_mono (h1 _ CU) ?_⟩;rintro e2 a2 w2 ⟨ρ2,yP,h2⟩;cases e2 with
  |normal=>
   obtain⟨st,tC,hk⟩:=h2;exact⟨_,_,run_endRound none tC,true,rfl,hk⟩
  |ret=>
   obtain⟨st,tC,hk⟩:=h2;exact⟨_,_,run_endRound (some .ret) tC,false,rfl,hk⟩
  |exit id=>
   obtain⟨st,tC,hk⟩:=h2;exact⟨_,_,run_endRound (some (.exit id)) tC,false,rfl,hk⟩
  |_=>exact h2.elim
 |_=>exact h1.elim
end
open Go.RowKit
structure Kept(S:Nat->Prop)(w w':World):Prop where
 os:w'.os=w.os
 tape:w'.tape=w.tape
 output:w'.output=w.output
 size:w.heap.size<=w'.heap.size
 block:∀k,k<w.heap.size->¬S k->w'.heap[k]? =w.heap[k]?
abbrev Nil:Nat->Prop:=fun _=>False
section
variable{S S':Nat->Prop}{w w' kZ:World}
theorem Kept.refl(S:Nat->Prop)(w:World):Kept S w w:=⟨rfl,rfl,rfl,Nat.le_refl _,fun _ _ _=>rfl⟩
theorem Kept.mono(h:Kept S w w')(hs:∀k,k<w.heap.size->S k->S' k):Kept S' w w':=
 ⟨h.os,h.tape,h.output,h.size,fun k hk hn=>h.block k hk fun hS=>hn (hs k hk hS)⟩
theorem Kept.trans(h:Kept S w w')(h':Kept S' w' kZ)(hs:∀k,k<w.heap.size->S' k->S k):Kept S w kZ:=
 ⟨h'.os.trans h.os,h'.tape.trans h.tape,h'.output.trans h.output,Nat.le_trans h.size h'.size,fun k hk hn=>
   (h'.block k (Nat.lt_of_lt_of_le hk h.size) fun hS=>hn (hs k hk hS)).trans (h.block k hk hn)⟩
theorem Kept.tt{S:Nat->Prop}{w w' kZ:World}(h:Kept S w w')(h':Kept S w' kZ):Kept S w kZ:=h.trans h' (fun _ _ h=>h)
theorem Kept.drew(h:Kept S w w'):Kept S w w'.drew:=⟨h.os,h.tape,h.output,h.size,h.block⟩
theorem Kept.alloc(h:Kept S w w')(o:Obj):Kept S w (w'.alloc o):=
 ⟨h.os,h.tape,h.output,by have:=h.size;simp;omega,fun k hk hn=>(heap_alloc_old w' o k (Nat.lt_of_lt_of_le hk h.size)).trans (h.block k hk hn)⟩
theorem Kept.setCell(h:Kept S w w'){p:Addr}(hp:p.block<w.heap.size->S p.block)(u:Value):Kept S w (w'.setCell p u):=
 ⟨h.os,h.tape,h.output,by simpa using h.size,fun k hk hn=>(Below.heap_setCell w' p u k (fun e=>hn (e▸hp (e▸hk)))).trans (h.block k hk hn)⟩
theorem Kept.grown{row:Option Nat}(h:Kept S w w')(hg:w'.grownBy kZ row)(hr:∀k,row=some k->k<w.heap.size->S k):Kept S w kZ:=
 ⟨hg.os.trans h.os,hg.tape.trans h.tape,hg.output.trans h.output,Nat.le_trans h.size hg.size,fun k hk hn=>
   (hg.block k (Nat.lt_of_lt_of_le hk h.size) fun e=>hn (hr k e.symm hk)).trans (h.block k hk hn)⟩
theorem Kept.below(h:Kept S w w'){B:Nat}(hB:B<=w.heap.size)(hs:∀k,k<B->¬S k):Below B w w':=
 ⟨h.os,h.tape,h.output,h.size,fun k hk=>h.block k (Nat.lt_of_lt_of_le hk hB) (hs k hk)⟩
theorem Kept.heap(h:Kept S w w'){k:Nat}{o:Obj}(ho:w.heap[k]? =some o)(hn:¬S k):w'.heap[k]? =some o:=
 (h.block k (Array.getElem?_eq_some_iff.1 ho).1 hn).trans ho
theorem Kept.cell(h:Kept S w w'){p:Addr}{v:Value}(hc:w.cell? p=some v)(hn:¬S p.block):w'.cell? p=some v:=
 (World.cell?_of_block (h.block p.block (World.block_lt_of_cell? w _ hc) hn)).trans hc
end
theorem add_zero(a:Addr):a.add 0=a:=by simp [Addr.add]
theorem bt(b o k:Nat):(⟨b,o,none⟩:Addr).add k=⟨b,o+k,none⟩:=by
 unfold Addr.add;split
 ·subst_vars;rfl
 ·rfl
theorem aA{w:World}{b:Nat}{cs:Array Value}{t:TypeId}{fr:Nat×Nat}(h:w.heap[b]? =some (.cells cs t fr))(j:Nat):w.cell? ⟨b,j,none⟩=cs[j]? :=
 cell_of_row w b j cs t fr h
theorem dz{w:World}{b:Nat}{cs:Array Value}{t:TypeId}(h:w.heap[b]? =some (.cells cs t (0,0))){j:Nat}(hj:j<cs.size):Wr w ⟨b,j,none⟩:=
 ⟨⟨cs[j],by rw [aA h,Array.getElem?_eq_getElem hj]⟩,frozen_of_row w b j cs t h⟩
theorem cR{w:World}{b:Nat}{cs:Array Value}{t:TypeId}(h:w.heap[b]? =some (.cells cs t (0,0)))(j:Nat)(v:Value):
 (w.setCell ⟨b,j,none⟩ v).heap[b]? =some (.cells (cs.setIfInBounds j v) t (0,0)):=heap_setCell_same w b j cs t v h
theorem aR(w:World)(o:Obj):(w.alloc o).heap[w.heap.size]? =some o:=heap_alloc_new w o
theorem jD{w:World}{k:Nat}{x:Obj}(h:w.heap[k]? =some x)(o:Obj):(w.alloc o).heap[k]? =some x:=
 (heap_alloc_old w o k (Array.getElem?_eq_some_iff.1 h).1).trans h
theorem a7{w:World}{k:Nat}{x:Obj}(h:w.heap[k]? =some x):k<w.heap.size:=(Array.getElem?_eq_some_iff.1 h).1
def Du(P:Program)(e:TypeId)(size bytes:Nat):Bool:=
 match P.info? e with
 |some i=>match i.zero with
  |some z=>Nat.beq i.size size&&Nat.beq i.bytes bytes&&Nat.beq z.cells.size size&&Nat.ble 1 size
  |none=>false
 |none=>false
structure AT(P:Program)(t e:TypeId)(size bytes:Nat):Prop where
 mW:P.underlying t=some (.slice e)
 Z0:Du P e size bytes=true
theorem AT.inf{P:Program}{t e:TypeId}{size bytes:Nat}(T:AT P t e size bytes):
 ∃i z,P.info? e=some i/\i.zero=some z/\i.size=size/\i.bytes=bytes/\z.cells.size=size:=by
 have h:=T.Z0;unfold Du at h;split at h
 ·rename_i i hi
  split at h
  ·rename_i z hz
   simp only [Bool.and_eq_true]at h;exact⟨i,z,hi,hz,Nat.eq_of_beq_eq_true h.1.1.1,Nat.eq_of_beq_eq_true h.1.1.2,Nat.eq_of_beq_eq_true h.1.2⟩
  ·cases h
 ·cases h
theorem AT.pos{P:Program}{t e:TypeId}{size bytes:Nat}(T:AT P t e size bytes):0<size:=by
 have h:=T.Z0;unfold Du at h;split at h
 ·split at h
  ·simp only [Bool.and_eq_true]at h
   exact Nat.le_of_ble_eq_true h.2
  ·cases h
 ·cases h
abbrev Row(w:World)(B:Nat)(e:TypeId)(size:Nat)(A:Option Addr)(n c:Nat)(xs:List Value):Prop:=
 w.ownsRow B e size (.slice A n c) n xs
def bm:Option Addr->Option Nat
 |some a=>some a.block
 |none=>none
section
variable{w w':World}{B:Nat}{e:TypeId}{size:Nat}{A:Option Addr}{n c:Nat}{xs:List Value}
theorem Row.own(h:Row w B e size A n c xs):(A=none/\c=0/\n=0/\xs= [])\/
 ∃b cur,A=some ⟨b,0,none⟩/\B<=b/\w.heap[b]? =some (.cells cur e (0,0))/\n<=c/\c<=maxLen/\cur.size=c*size/\cur.toList.take (n*size)=xs:=by
 obtain⟨hl,⟨hv,hn⟩|⟨g,cap,cur,hv,hb,hg,h1,h2,h3,h4⟩⟩:=h
 ·cases hv
  exact .inl ⟨rfl,rfl,rfl,List.eq_nil_of_length_eq_zero (by simpa using hl)⟩
 ·cases hv
  exact .inr ⟨g,cur,rfl,hb,hg,h1,h2,h3,h4⟩
theorem Row.len(h:Row w B e size A n c xs):xs.length=n*size:=h.1
theorem Row.some(h:Row w B e size A n c xs)(hn:0<n):∃b,A=Option.some ⟨b,0,none⟩:=by
 rcases Row.own h with⟨_,_,h,_⟩|⟨b,cur,h,_⟩
 ·omega
 ·exact⟨b,h⟩
theorem Row.cell{b:Nat}(h:Row w B e size (Option.some ⟨b,0,none⟩) n c xs){j:Nat}{v:Value}(hj:xs[j]? =Option.some v):w.cell? ⟨b,j,none⟩=Option.some v:=by
 have:=World.ownsRow.cells h (g:=b) rfl j v hj
 rwa [bt,Nat.zero_add]at this
theorem Row.cells{b:Nat}(h:Row w B e size (Option.some ⟨b,0,none⟩) n c xs):∀j u,xs[j]? =Option.some u->w.cell? ((⟨b,0,none⟩:Addr).add j)=Option.some u:=
 World.ownsRow.cells h (g:=b) rfl
theorem Row.wr{b:Nat}(h:Row w B e size (Option.some ⟨b,0,none⟩) n c xs){j:Nat}(hj:j<xs.length):Wr w ⟨b,j,none⟩:=by
 rcases Row.own h with⟨h,_⟩|⟨b',cur,hA,_,hg,Cc,_,hs,yO⟩
 ·cases h
 ·cases hA
  refine dz hg ?_;have:=h.len;have h1:n*size<=c*size:=Nat.mul_le_mul_right _ Cc;omega
theorem Row.set{b:Nat}(h:Row w B e size (Option.some ⟨b,0,none⟩) n c xs){j:Nat}(_hj:j<xs.length)(v:Value):
 Row (w.setCell ⟨b,j,none⟩ v) B e size (Option.some ⟨b,0,none⟩) n c (xs.set j v):=by
 rcases Row.own h with⟨h,_⟩|⟨b',cur,hA,hB,hg,Cc,hm,hs,yO⟩
 ·cases h
 ·cases hA
  refine⟨by rw [List.length_set];exact h.len,.inr ⟨b,c,cur.setIfInBounds j v,rfl,hB,cR hg j v,Cc,hm,by simpa using hs,?_⟩⟩;rw [Array.toList_setIfInBounds,<-yO,List.take_set]
theorem Row.bW(h:Row w B e size A n c xs){k:Nat}(hk:bm A=Option.some k):B<=k/\∃cur,w.heap[k]? =Option.some (.cells cur e (0,0)):=by
 rcases Row.own h with⟨rfl,_⟩|⟨b,cur,rfl,hB,hg,_⟩
 ·cases hk
 ·cases hk;exact⟨hB,cur,hg⟩
theorem Row.aK{S:Nat->Prop}(h:Row w B e size A n c xs)(hk:Kept S w w')(hn:∀k,bm A=Option.some k->¬S k):Row w' B e size A n c xs:=by
 refine⟨h.1,?_⟩;rcases h.2 with hv|⟨g,cap,cur,hv,hb,hg,rest⟩
 ·exact .inl hv
 ·cases hv
  exact .inr ⟨g,c,cur,rfl,hb,hk.heap hg (hn g rfl),rest⟩
theorem Row.base{B':Nat}(h:Row w B e size A n c xs)(hb:∀k,bm A=Option.some k->B'<=k):Row w B' e size A n c xs:=by
 refine⟨h.1,?_⟩;rcases h.2 with hv|⟨g,cap,cur,hv,_,rest⟩
 ·exact .inl hv
 ·cases hv
  exact .inr ⟨g,c,cur,rfl,hb g rfl,rest⟩
theorem Row.nil(w:World)(B:Nat)(e:TypeId)(size:Nat):Row w B e size none 0 0 []:=World.ownsRow_nil w B e size
theorem Row.made{w:World}{b:Nat}{cur:Array Value}(hg:w.heap[b]? =Option.some (.cells cur e (0,0)))(hB:B<=b)(hs:cur.size=n*size)(hm:n<=maxLen):
 Row w B e size (Option.some ⟨b,0,none⟩) n n cur.toList:=
 ⟨by simpa using hs,.inr ⟨b,n,cur,rfl,hB,hg,Nat.le_refl _,hm,hs,List.take_of_length_le (by simp [hs])⟩⟩
theorem im{P:Program}{t:TypeId}{bytes ty:Nat}(T:AT P t e size bytes)(h:Row w B e size A n c xs){a:Addr}{m cx:Nat}{news:List Value}
 (hl:news.length=m*size) (Av:∀j u,news[j]? =Option.some u->w.cell? (a.add j)=Option.some u) (h1:∀u∈news,u.oneCell'=true)
 (hb:(n+m)*bytes<=140737488355328) (hm:n+m<=maxLen) (hB:B<=w.heap.size):
 ∃A' c' w',(Builtin.append_ #[t,t] ty #[.slice A n c,.slice (Option.some a) m cx]).run P w=.ok (.slice A' (n+m) c') w'/\
  Row w' B e size A' (n+m) c' (xs++news)/\w.grownBy w' (bm A)/\(∀k,bm A'=Option.some k->bm A=Option.some k\/w.heap.size<=k):=by
 obtain⟨i,z,hi,hz,hs,FV,FF⟩:=T.inf;have EP:B<=w.heap.size:=hB;obtain⟨v',w',hr,pL,hg,_⟩:=run_append_own (P:=P) w B t ty e i z size bytes T.mW hi hz hs FV FF T.pos _ n xs h a m cx news hl Av h1 hm hb EP;have hbo:Value.ownBlock (.slice A n c)=bm A:=by cases A<;>rfl
 rw [hbo]at hg;have PV:∃A' c',v'=.slice A' (n+m) c':=by
  rcases pL.2 with⟨rfl,hn⟩|⟨g,cap,cur,rfl,_⟩
  ·exact⟨none,0,by rw [hn]⟩
  ·exact⟨_,_,rfl⟩
 obtain⟨A',c',rfl⟩:=PV;refine⟨A',c',w',hr,pL,hg,fun k hk=>?_⟩;by_cases hA:bm A=Option.some k
 ·exact .inl hA
 ·right
  rcases Row.own h with⟨rfl,rfl,rfl,rfl⟩|⟨b,cur,rfl,hBb,K1,Cc,mG,mF,yO⟩
  ·have h2:=run_append_own (P:=P) w w.heap.size t ty e i z size bytes T.mW hi hz hs FV FF T.pos _ 0 [] (World.ownsRow_nil w w.heap.size e size) a m cx news hl Av h1 hm hb (Nat.le_refl _)
   obtain⟨v2,w2,la,OX,_⟩:=h2;rw [hr]at la;cases la;exact(Row.bW OX hk).1
  ·by_cases qN:n+m<=c
   ·exfalso
    have la:=run_append_room (P:=P) w t ty e i T.mW hi b n c cur K1 a m cx news (by rw [hs];exact hl) Av h1 qN (by rw [hs,hl,mF,<-Nat.add_mul];exact Nat.mul_le_mul_right _ qN);rw [hr]at la;cases la;exact hA hk
   ·have la:=run_append_grow (P:=P) w t ty e i z T.mW hi hz ⟨b,0,none⟩ n c xs (by rw [hs];exact h.len) (Row.cells h) a m cx news (by rw [hs];exact hl) Av (by omega) (by simp only [maxLen]at hm;omega) (growslice_fits (by omega) (by rw [FV];exact hb))
    rw [hr]at la;cases la;simp [bm]at hk;omega
end
structure Live(l D:Nat)(R:Loop)(w:World):Prop where
 loop:w.heap[l]? =some (.loop R)
 mark:w.heap[D]? =some (.deferred (some []))
theorem Live.aK{S:Nat->Prop}{l D:Nat}{R:Loop}{w w':World}(h:Live l D R w)(hk:Kept S w w')(h1:¬S l)(h2:¬S D):Live l D R w':=
 ⟨hk.heap h.loop h1,hk.heap h.mark h2⟩
theorem Kept.put{S:Nat->Prop}{w w':World}(h:Kept S w w'){l:Nat}(hl:l<w.heap.size->S l)(o:Obj):Kept S w (w'.putObj l o):=
 ⟨h.os,h.tape,h.output,by rw [World.putObj_size];exact h.size,fun k hk hn=>(World.putObj_heap_other (fun e=>hn (by subst e;exact hl hk))).trans (h.block k hk hn)⟩
theorem Kept.putAt(w:World)(l:Nat)(o:Obj):Kept (· =l) w (w.putObj l o):=
 Kept.put (S:=fun k=>k=l) (Kept.refl _ w) (fun _=>rfl) o
theorem Live.put{l D:Nat}{R:Loop}{w:World}(h:Live l D R w)(hd:D≠l)(R':Loop):Live l D R' (w.putObj l (.loop R')):=
 ⟨World.putObj_heap_same (a7 h.loop),(World.putObj_heap_other hd).trans h.mark⟩
def lV(P:Program)(gf:FuncId)(first fh:Array Value)(xs:List (List Value))(F5:World->Prop):Prop:=
 ∀(l:Nat) (I:Nat->World->Prop) (D:World->Prop) (w0:World),(∀i w' kZ,I i w'->Kept Nil w' kZ->I i kZ)->(∀w' kZ,D w'->Kept Nil w' kZ->D kZ)->(∀i w',I i w'->F5 w')->I 0 w0->
  (∀i x w',xs[i]? =some x->I i w'->jt P l x.toArray w' fun b kZ=>(b=true->I (i+1) kZ)/\(b=false->D kZ))->
  bf P gf (first++ #[.func (.yield l) #[] #[]]++fh) w0 fun _ w'=>I xs.length w'\/D w'
def WQ(l D:Nat)(R:Loop)(J:World->Prop)(Jd:Code->World->Prop):aM
 | .normal,_,w=>Live l D R w/\J w
 | .ret,_,w=>Live l D R w/\Jd .ret w
 | .exit id,_,w=>Live l D R w/\Jd (.exit id) w
 |_,_,_=>False
section
variable{P:Program}{n:Nat}
theorem mn(lC:NG P)(lD:P.follows .mixedOrders=true)(C:List Nat){t:Nat}{ps:Array Tmp}{path:Code}{Q:aM}{ρ:Env}{w:World}{gf:FuncId}{first fh:Array Value}{fn:Func}
 (OS:path=.rangeFunc (.tmp t) ps (rA path) (rB path)) (ht:t≠fN) (hf:find ρ t=some (.func (.func gf) first fh)) (FU:P.funcs[gf]? =some fn) (hb:fn.body.isSome) (hm:yE ρ)
 {ρ0:Env} (hρ:∀i v,i≠fN->find ρ0 i=some v->find ρ i=some v) (R0:find ρ0 fN=none)
 {α:Type} (enc:α->List Value) (xs:List α) (Vz:∀x,(enc x).length=ps.size) (vQ:∀t∈ps.toList,t<n/\t≠fN)
 {F5:World->Prop} (hit:lV P gf first fh (xs.map enc) F5)
 (J:Nat->World->Prop) (Jd:Code->World->Prop)
 (hJ:∀i w' kZ R,Live (w.heap.size+1) w.heap.size R w'->J i w'->Kept (· =w.heap.size+1) w' kZ->J i kZ)
 (QI:∀e w' kZ R,Live (w.heap.size+1) w.heap.size R w'->Jd e w'->Kept (· =w.heap.size+1) w' kZ->Jd e kZ)
 (pK:∀i w',J i w'->F5 w')
 (h0:∀R,J 0 ((w.alloc (.deferred (some []))).alloc (.loop R)))
 (EO:∀i x w' R,xs[i]? =some x->J i w'->Live (w.heap.size+1) w.heap.size R w'->
   a8 (some (w.heap.size+1)) [] P n C (rA path) (ct (rB path)) (fun e MS w1=>match e with
    | .normal=>Live (w.heap.size+1) w.heap.size R w1/\∀w2 R2,Kept (· =w.heap.size+1) w1 w2->Live (w.heap.size+1) w.heap.size R2 w2->a8 (some (w.heap.size+1)) [] P n C (rB path) [] (WQ (w.heap.size+1) w.heap.size R2 (J (i+1)) Jd) MS w2
    |_=>False) (jV ρ0 (ps.toList.zip (enc x))) w')
 (Vy:∀w' R,J xs.length w'->Live (w.heap.size+1) w.heap.size R w'->Q .normal (fZ ρ w.heap.size) w')
 (Eu:∀w' R,Jd .ret w'->Live (w.heap.size+1) w.heap.size R w'->Q .ret (fZ ρ w.heap.size) w')
 (P6:∀id w' R,Jd (.exit id) w'->Live (w.heap.size+1) w.heap.size R w'->Q (.exit id) (fZ ρ w.heap.size) w'):
 Holds none [] P n path Q ρ w:=by
 rw [OS];have fG:w.heap.size≠w.heap.size+1:=by omega
 refine yv lC ht hf FU hb hm fun zm tmps Oy Ov R hR=>?_;have UB:∀x:α,(enc x).length=R.params.size:=fun x=>by rw [Vz x,hR]
 have KN:Live (w.heap.size+1) w.heap.size R ((w.alloc (.deferred (some []))).alloc (.loop R)):=by
  have h1:=aR (w.alloc (.deferred (some []))) (.loop R);simp only [World.alloc,Array.size_push]at h1⊢;exact⟨h1,jD (aR w _) _⟩
 have hRR:({R with state:=.ready,pending:=none}:Loop)=R:=by rw [hR]
 have Cb:∀ {w' kZ},Kept Nil w' kZ->Kept (· =w.heap.size+1) w' kZ:=fun h=>h.mono fun _ _ h=>h.elim;have AH:=hit (w.heap.size+1) (fun i w'=>Live (w.heap.size+1) w.heap.size R w'/\J i w')
  (fun w'=>∃e,(e=.ret\/∃id,e=.exit id)/\Live (w.heap.size+1) w.heap.size {R with state:=.done,pending:=some e} w'/\Jd e w')
  ((w.alloc (.deferred (some []))).alloc (.loop R))
  (fun i w' kZ h k=>⟨h.1.aK k (fun h=>h) (fun h=>h),hJ i w' kZ R h.1 h.2 (Cb k)⟩)
  (fun w' kZ h k=>by
    obtain⟨e,he,hl,hd⟩:=h;exact⟨e,he,hl.aK k (fun h=>h) (fun h=>h),QI e w' kZ _ hl hd (Cb k)⟩)
  (fun i w' h=>pK i w' h.2) ⟨KN,h0 R⟩
  (fun i x w' hx h=>by
    rw [List.getElem?_map]at hx;obtain⟨a,ha,rfl⟩:∃a,xs[i]? =some a/\enc a=x:=by
     cases Mj:xs[i]? with
     |none=>rw [Mj]at hx;simp at hx
     |some a=>rw [Mj]at hx;exact⟨a,rfl,by simpa using hx⟩
    obtain⟨hl,hj⟩:=h;refine vV (n:=n) (ρ0:=ρ0) hl.loop (by rw [hR]) (by rw [hR];exact Oy) (fun i v hi hv=>by rw [hR];exact Ov i v hi (hρ i v hi hv)) R0 (UB a) (by rw [hR];exact vQ) ?_;have Qi:=EO i a w' R ha hj hl;rw [<-show R.params=ps by rw [hR],<-show R.assign=rA path by rw [hR],<-show R.body=rB path by rw [hR]]at Qi;refine Holds.mono (fC lC lD _ _ _ _ _ Qi) ?_;rintro e MS w1 h1;cases e with
    |normal=>
     obtain⟨vR,h1⟩:=h1;refine⟨vR.loop,?_⟩;have tC:=vR.put fG {R with state:=.busy};refine Holds.mono (fC lC lD _ _ _ _ _ (h1 _ _ (Kept.putAt _ _ _) tC)) ?_;rintro e2 ρ2 w2 h2;cases e2 with
     |normal=>
      have Y5:=h2.1.put fG {R with state:=.ready,pending:=none};have hrr:Live (w.heap.size+1) w.heap.size R (w2.putObj (w.heap.size+1) (.loop {R with state:=.ready,pending:=none})):=by
       rw [hRR]at Y5⊢;exact Y5
      refine⟨_,h2.1.loop,fun _=>⟨hrr,hJ _ _ _ _ h2.1 h2.2 (Kept.putAt _ _ _)⟩,fun h=>by cases h⟩
     |ret=>
      refine⟨_,h2.1.loop,(fun h=>by cases h),fun _=>⟨.ret,.inl rfl,h2.1.put fG _,QI _ _ _ _ h2.1 h2.2 (Kept.putAt _ _ _)⟩⟩
     |exit id=>
      refine⟨_,h2.1.loop,(fun h=>by cases h),fun _=>⟨.exit id,.inr ⟨id,rfl⟩,h2.1.put fG _,QI _ _ _ _ h2.1 h2.2 (Kept.putAt _ _ _)⟩⟩
     |_=>exact h2.elim
    |_=>exact h1.elim)
 refine Calls.mono AH ?_;rintro e w2 ⟨v,rfl,h⟩;refine⟨v,rfl,?_⟩;rcases h with⟨hl,hj⟩|⟨e,he,hl,hj⟩
 ·refine⟨R.state,R.pending,hl.loop,by rw [hR];simp,?_⟩
  have hp:R.pending=none:=by rw [hR]
  rw [hp];rw [List.length_map]at hj;have k:Kept (· =w.heap.size+1) w2 (w2.putObj (w.heap.size+1) (.loop {R with state:=.exhausted,pending:=none})):=Kept.putAt _ _ _;exact Vy _ _ (hJ _ _ _ _ hl hj k) (hl.put fG _)
 ·refine⟨.done,some e,hl.loop,by simp,?_⟩
  have k:Kept (· =w.heap.size+1) w2 (w2.putObj (w.heap.size+1) (.loop {R with state:=.exhausted,pending:=some e})):=Kept.putAt _ _ _;rcases he with rfl|⟨id,rfl⟩
  ·exact Eu _ _ (QI _ _ _ _ hl hj k) (hl.put fG _)
  ·exact P6 id _ _ (QI _ _ _ _ hl hj k) (hl.put fG _)
end
end Go.bE
