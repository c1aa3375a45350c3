import Derived.Test.YtfleamccglihoaaGreatDoorProg
import Derived.Test.YtfleamccglihoaaGreatDoorMA
import Derived.Test.YtfleamccglihoaaGreatDoorMB
open Go.IntKind (i64 u64)
set_option linter.unusedVariables false
namespace Go.Proofs.YtfleamccglihoaaGreatDoor
open Go.Proofs.Tryz
open Go Go.bW
def bG.k:List Nat:= []
def bG.q1(K:KT):aO:=(aL 0 (ck (aQ (sR (body Tryz.f29)))++(aS Tryz.f29)) (bV (fun b6 w_=>match cutAt bG.k (aQ (sR (body Tryz.f29)))with|true=>Holds none [] prog 33 (aQ (sR (body Tryz.f29))) (bS prog Tryz.f29 K) b6 w_|false=>aW none [] prog 33 bG.k (aQ (sR (body Tryz.f29))) (aS Tryz.f29) (bS prog Tryz.f29 K) b6 w_) (bS prog Tryz.f29 K)))
def bG.e1(a:OA)(b:Addr)(c:OA)(d e:Nat)(s:(OA)×Nat×Nat×Int):Env:= [(0,.pointer a),(3,.pointer (some b)),(4,.slice c d e),(5,.slice s.1 s.2.1 s.2.2.1),(6,.int .i64 s.2.2.2)]
def bG.u1:List Nat:= [0,3,4,5,6]
section
variable(a:OA)(b:AV)(K:KT)(w:World)
def bG.W:Prop:=
 let d:=w.alloc (.cells b 24);let e:=d.drew;Is a fun f:Addr=>∃g:AV,(g.size=32/\Cells e (aP w.heap.size) g)/\bC prog 16 #[.pointer (some (f.add 0)),.agg g] e fun i j=>∃k:Int,i=.int .i64 k/\Holds none [] prog 33 (.loop (lB (bB (sR (sL (aQ (body Tryz.f29))))))) (bG.q1 K) [(0,.pointer a),(3,.pointer (some (aP w.heap.size))),(4,.slice none 0 0),(5,.slice none 0 0),(6,.int .i64 k)] j
variable{a b K w}
theorem bG.of(h:bG.W a b K w):bC prog 29 #[.pointer a,.agg b] w K:=
 rqq func29 (C:=bG.k) h
end
section
variable(a:OA)(b:Addr)(c:OA)(d e:Nat)(f:OA)(g i:Nat)(j:Int)(Q:aO)(w:World)
def bG.B1:Prop:=
 Split (decide (j>=(0:Int))) (∃k:AV,(k.size=32/\Cells w b k)/\k.size=32/\let m:=w.alloc (.cells (k.toList++ []).toArray 24);∃(n:OA) (o p:Nat) (q:World),(Builtin.append_ #[33,33] 33 #[.slice f g i,.slice (some (aP w.heap.size)) 1 1]).run prog m=.ok (.slice n o p) q/\Split (j==(0:Int)) (Q (.exit 0) [(0,.pointer a),(3,.pointer (some b)),(4,.slice c d e),(5,.slice n o p),(6,.int .i64 j)] q) (Is a fun r:Addr=>∃t:OA,∃u v:Nat,q.cell? (r.add 1)=some (.slice t u v)/\(0<=j/\j<(u:Int))/\Is t fun x:Addr=>∃y:AV,(y.size=32/\Cells q (x.add (j.toNat*32)) y)/\(y.size=32/\(∀z∈y.toList,z.oneCell'=true)/\∀a1,a1<32->Wr q (b.add a1))/\let b1:=setCells q b y.toList 0;let c1:=b1.drew;Is a fun d1:Addr=>∃e1:AV,(e1.size=32/\Cells c1 b e1)/\bC prog 16 #[.pointer (some (d1.add 0)),.agg e1] c1 fun f1 g1=>∃i1:Int,f1=.int .i64 i1/\Q .normal [(0,.pointer a),(3,.pointer (some b)),(4,.slice c d e),(5,.slice n o p),(6,.int .i64 i1)] g1)) (Q (.exit 0) [(0,.pointer a),(3,.pointer (some b)),(4,.slice c d e),(5,.slice f g i),(6,.int .i64 j)] w)
theorem bG.b1:(aW none [] prog 33 bG.k (lB (bB (sR (sL (aQ (body Tryz.f29)))))) bG.u1 Q [(0,.pointer a),(3,.pointer (some b)),(4,.slice c d e),(5,.slice f g i),(6,.int .i64 j)] w)=bG.B1 a b c d e f g i j Q w:=by kernel_rfl
variable{a b c d e}
theorem bG.cC(I:(OA)×Nat×Nat×Int->World->Prop)(μ:(OA)×Nat×Nat×Int->World->Nat)(s:(OA)×Nat×Nat×Int){Q:aO}{w:World}(h0:I s w)
 (round:∀s w,I s w->bG.B1 a b c d e (s.1) (s.2.1) (s.2.2.1) (s.2.2.2) (bR (bG.e1 a b c d e) I μ s w Q) w):Holds none [] prog 33 (.loop (lB (bB (sR (sL (aQ (body Tryz.f29))))))) Q (bG.e1 a b c d e s) w:=
 bp ng mix (bG.e1 a b c d e) I μ bG.k bG.u1 s (fun s Q w=>bG.B1 a b c d e (s.1) (s.2.1) (s.2.2.1) (s.2.2.2) Q w) (fun s Q w=>bG.b1 a b c d e (s.1) (s.2.1) (s.2.2.1) (s.2.2.2) Q w) h0 round
end
section
def bG.cU(a:OA)(b:Addr)(c:OA)(d e:Nat)(f:OA)(g i:Nat)(j:Int)(K:KT)(w:World):Prop:=
 K (.slice f g i) w
variable(a:OA)(b:Addr)(c:OA)(d e:Nat)(f:OA)(g i:Nat)(j:Int)(K:KT)(w:World)
theorem bG.df:(bG.q1 K (.exit 0) [(0,.pointer a),(3,.pointer (some b)),(4,.slice c d e),(5,.slice f g i),(6,.int .i64 j)] w)=bG.cU a b c d e f g i j K w:=by kernel_rfl
end
def kK.k:List Nat:= []
section
variable(a:AV)(K:KT)(w:World)
def kK.W:Prop:=
 let b:=w.alloc (.cells a 24);∃d:AV,(d.size=32/\Cells b (aP w.heap.size) d)/\Is (prog.built 69 [(0,.agg d)]) fun e:AV=>e.size=33/\let f:=b.alloc (.cells (e.toList++ []).toArray 69);32=32/\let g:=f.alloc (.cells zH 24);let i:=g.alloc (.cells (#[.slice (some (aP b.heap.size)) 1 1,.slice (some (aP f.heap.size)) 1 1]:AV) 42);K (.pointer (some (aP g.heap.size))) i
variable{a K w}
theorem kK.of(h:kK.W a K w):bC prog 87 #[.agg a] w K:=
 rqq func87 (C:=kK.k) h
end
def fH.k:List Nat:= []
section
variable(a:OA)(b d:AV)(e:OA)(f g:Nat)(K:KT)(w:World)
def fH.W:Prop:=
 let i:=w.alloc (.cells b 24);let j:=i.alloc (.cells d 24);Is a fun k:Addr=>∃m:AV,(m.size=1/\Cells j (k.add 0) m)/\let n:=j.alloc (.cells (#[.slice none 0 0]:AV) 40);(m.size=1/\(∀o∈m.toList,o.oneCell'=true)/\∀p,p<1->Wr n ((aP j.heap.size).add p))/\let q:=setCells n (aP j.heap.size) m.toList 0;∃r:AV,(r.size=32/\Cells q (aP w.heap.size) r)/\bC prog 88 #[.pointer (some (aP j.heap.size)),.agg r,.slice e f g] q fun t u=>∃v:Int,t=.int .i64 v/\Split (v != (0:Int)) (K (.int .i64 v) u) (∃x:AV,(x.size=32/\Cells u (aP i.heap.size) x)/\bC prog 38 #[.slice e f g,.agg x] u fun y z=>∃a1:Bool,y=.bool a1/\Split (!a1) (K (.int .i64 2) z) (∃b1:AV,(b1.size=1/\Cells z (aP j.heap.size) b1)/\Is a fun c1:Addr=>(b1.size=1/\(∀d1∈b1.toList,d1.oneCell'=true)/\∀e1,e1<1->Wr z ((c1.add 0).add e1))/\let f1:=setCells z (c1.add 0) b1.toList 0;let g1:=f1.drew;Is a fun i1:Addr=>∃j1:OA,∃k1 m1:Nat,g1.cell? (i1.add 1)=some (.slice j1 k1 m1)/\∃n1:AV,(n1.size=32/\Cells g1 (aP i.heap.size) n1)/\(∃(o1:OA) (p1 q1:Nat) (r1:World),(Builtin.append_ #[33,33] 33 #[.slice none 0 0,.slice j1 k1 m1]).run prog g1=.ok (.slice o1 p1 q1) r1/\(∃cs:AV,(.agg n1:Value)=.agg cs/\cs.size=32/\Cells r1 (aP i.heap.size) cs)/\n1.size=32/\let t1:=r1.alloc (.cells (n1.toList++ []).toArray 24);∃(u1:OA) (v1 x1:Nat) (y1:World),(Builtin.append_ #[33,33] 33 #[.slice o1 p1 q1,.slice (some (aP r1.heap.size)) 1 1]).run prog t1=.ok (.slice u1 v1 x1) y1/\Is a fun z1:Addr=>Wr y1 (z1.add 1)/\let a2:=y1.setCell (z1.add 1) (.slice u1 v1 x1);K (.int .i64 0) a2)/\(n1.size=32/\let b2:=g1.alloc (.cells (n1.toList++ []).toArray 24);b2.cell? (i1.add 1)=some (.slice j1 k1 m1)/\∃(c2:OA) (d2 e2:Nat) (f2:World),(Builtin.append_ #[33,33] 33 #[.slice none 0 0,.slice j1 k1 m1]).run prog b2=.ok (.slice c2 d2 e2) f2/\∃(g2:OA) (i2 j2:Nat) (k2:World),(Builtin.append_ #[33,33] 33 #[.slice c2 d2 e2,.slice (some (aP g1.heap.size)) 1 1]).run prog f2=.ok (.slice g2 i2 j2) k2/\Is a fun m2:Addr=>Wr k2 (m2.add 1)/\let n2:=k2.setCell (m2.add 1) (.slice g2 i2 j2);K (.int .i64 0) n2)))
variable{a b d e f g K w}
theorem fH.of(h:fH.W a b d e f g K w):bC prog 89 #[.pointer a,.agg b,.agg d,.slice e f g] w K:=
 rqq func89 (C:=fH.k) h
end
end Go.Proofs.YtfleamccglihoaaGreatDoor
