import Derived.Test.YtfleamccglihoaaGreatDoorProg
import Derived.Test.YtfleamccglihoaaGreatDoorMA
import Derived.Test.YtfleamccglihoaaGreatDoorMB
open Go.IntKind (i64 u64)
set_option linter.unusedVariables false
namespace Go.Proofs.YtfleamccglihoaaGreatDoor
open Go.Proofs.Tryz
open Go Go.b0
section
variable(a:OA)(b:AV)(K:KT)(w:World)
variable{a b K w}
end
section
variable(a:OA)(b:Addr)(c:OA)(d e:Nat)(f:OA)(g i:Nat)(j:Int)(Q:aT)(w:World)
variable{a b c d e}
end
section
variable(a:OA)(b:Addr)(c:OA)(d e:Nat)(f:OA)(g i:Nat)(j:Int)(K:KT)(w:World)
end
def kR.k:List Nat:= []
section
variable(a:AV)(K:KT)(w:World)
def kR.W:Prop:=
 let b:=w.alloc (.cells a 24);∃d:AV,(d.size=32/\Cells b (aV w.heap.size) d)/\Is (prog.built 69 [(0,.agg d)]) fun e:AV=>e.size=33/\let f:=b.alloc (.cells (e.toList++ []).toArray 69);32=32/\let g:=f.alloc (.cells zH 24);let i:=g.alloc (.cells (#[.slice (some (aV b.heap.size)) 1 1,.slice (some (aV f.heap.size)) 1 1]:AV) 42);K (.pointer (some (aV g.heap.size))) i
variable{a K w}
theorem kR.of(h:kR.W a K w):bG prog 87 #[.agg a] w K:=
 rqq func87 (C:=kR.k) h
end
def fR.k:List Nat:= []
section
variable(a:OA)(b d:AV)(e:OA)(f g:Nat)(K:KT)(w:World)
def fR.W:Prop:=
 let i:=w.alloc (.cells b 24);let j:=i.alloc (.cells d 24);Is a fun k:Addr=>∃m:AV,(m.size=1/\Cells j (k.add 0) m)/\let n:=j.alloc (.cells (#[.slice none 0 0]:AV) 40);(m.size=1/\(∀o∈m.toList,o.oneCell'=true)/\∀p,p<1->Wr n ((aV j.heap.size).add p))/\let q:=setCells n (aV j.heap.size) m.toList 0;∃r:AV,(r.size=32/\Cells q (aV w.heap.size) r)/\bG prog 88 #[.pointer (some (aV j.heap.size)),.agg r,.slice e f g] q fun t u=>∃v:Int,t=.int .i64 v/\Split (v != (0:Int)) (K (.int .i64 v) u) (∃x:AV,(x.size=32/\Cells u (aV i.heap.size) x)/\bG prog 38 #[.slice e f g,.agg x] u fun y z=>∃a1:Bool,y=.bool a1/\Split (!a1) (K (.int .i64 2) z) (∃b1:AV,(b1.size=1/\Cells z (aV j.heap.size) b1)/\Is a fun c1:Addr=>(b1.size=1/\(∀d1∈b1.toList,d1.oneCell'=true)/\∀e1,e1<1->Wr z ((c1.add 0).add e1))/\let f1:=setCells z (c1.add 0) b1.toList 0;let g1:=f1.drew;Is a fun i1:Addr=>∃j1:OA,∃k1 m1:Nat,g1.cell? (i1.add 1)=some (.slice j1 k1 m1)/\∃n1:AV,(n1.size=32/\Cells g1 (aV i.heap.size) n1)/\(∃(o1:OA) (p1 q1:Nat) (r1:World),(Builtin.append_ #[33,33] 33 #[.slice none 0 0,.slice j1 k1 m1]).run prog g1=.ok (.slice o1 p1 q1) r1/\(∃cs:AV,(.agg n1:Value)=.agg cs/\cs.size=32/\Cells r1 (aV i.heap.size) cs)/\n1.size=32/\let t1:=r1.alloc (.cells (n1.toList++ []).toArray 24);∃(u1:OA) (v1 x1:Nat) (y1:World),(Builtin.append_ #[33,33] 33 #[.slice o1 p1 q1,.slice (some (aV r1.heap.size)) 1 1]).run prog t1=.ok (.slice u1 v1 x1) y1/\Is a fun z1:Addr=>Wr y1 (z1.add 1)/\let a2:=y1.setCell (z1.add 1) (.slice u1 v1 x1);K (.int .i64 0) a2)/\(n1.size=32/\let b2:=g1.alloc (.cells (n1.toList++ []).toArray 24);b2.cell? (i1.add 1)=some (.slice j1 k1 m1)/\∃(c2:OA) (d2 e2:Nat) (f2:World),(Builtin.append_ #[33,33] 33 #[.slice none 0 0,.slice j1 k1 m1]).run prog b2=.ok (.slice c2 d2 e2) f2/\∃(g2:OA) (i2 j2:Nat) (k2:World),(Builtin.append_ #[33,33] 33 #[.slice c2 d2 e2,.slice (some (aV g1.heap.size)) 1 1]).run prog f2=.ok (.slice g2 i2 j2) k2/\Is a fun m2:Addr=>Wr k2 (m2.add 1)/\let n2:=k2.setCell (m2.add 1) (.slice g2 i2 j2);K (.int .i64 0) n2)))
variable{a b d e f g K w}
theorem fR.of(h:fR.W a b d e f g K w):bG prog 89 #[.pointer a,.agg b,.agg d,.slice e f g] w K:=
 rqq func89 (C:=fR.k) h
end
end Go.Proofs.YtfleamccglihoaaGreatDoor
