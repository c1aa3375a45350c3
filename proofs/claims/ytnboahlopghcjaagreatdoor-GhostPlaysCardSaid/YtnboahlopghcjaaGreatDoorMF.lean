import Derived.Test.YtnboahlopghcjaaGreatDoorProg
import Derived.Test.YtnboahlopghcjaaGreatDoorMA
import Derived.Test.YtnboahlopghcjaaGreatDoorMB
set_option linter.unusedVariables false
namespace Go.Proofs.YtnboahlopghcjaaGreatDoor
open Go.Proofs.Tryz
open Go Go.bV
def dU.k:List Nat:= []
section
variable(a:OA)(b:AV)(d:AV)(K:KT)(w:World)
def dU.W:Prop:=
 let e:=w.alloc (.cells b 23);let f:=e.alloc (.cells d 23);let g:=f.drew;∃i:AV,(i.size=32/\Cells g (⟨e.heap.size,0,none⟩:Addr) i)/\ ∃j:AV,(j.size=32/\Cells g (⟨w.heap.size,0,none⟩:Addr) j)/\bn prog 57 #[.pointer a,.agg i] g fun k m=> ∃n:OA,∃o:Nat,∃p:Nat,k=.slice n o p/\(∃cs:AV,(.agg j:Value)=.agg cs/\cs.size=32/\Cells m (⟨w.heap.size,0,none⟩:Addr) cs)/\bn prog 13 #[.slice n o p,.agg j] m fun q r=> ∃t:Bool,q=.bool t/\K (.bool t) r
variable{a b d K w}
theorem dU.of(h:dU.W a b d K w):bn prog 33 #[.pointer a,.agg b,.agg d] w K:=
 aK (C:=dU.k) (c:=body f33) ng mix func33 (by kernel_rfl) (by kernel_rfl) (by kernel_rfl) h
end
def bt.k:List Nat:= []
def bt.q1(K:KT):aO:=(aN 0 (b9 (sR (sR (sR (body Tryz.f57))))++(aT Tryz.f57)) (bS (fun bW w_=>match cutAt bt.k (sR (sR (sR (body Tryz.f57))))with|true=>Holds none [] prog 33 (sR (sR (sR (body Tryz.f57)))) (bK prog Tryz.f57 K) bW w_|false=>aX none [] prog 33 bt.k (sR (sR (sR (body Tryz.f57)))) (aT Tryz.f57) (bK prog Tryz.f57 K) bW w_) (bK prog Tryz.f57 K)))
def bt.e1(a:OA)(b:Addr)(c:OA)(d:Nat)(e:Nat)(s:(OA)×Nat×Nat×Int):Env:= [(0,.pointer a),(3,.pointer (some b)),(4,.slice c d e),(5,.slice s.1 s.2.1 s.2.2.1),(6,.int .i64 s.2.2.2)]
def bt.u1:List Nat:= [0,3,4,5,6]
section
variable(a:OA)(b:AV)(K:KT)(w:World)
def bt.W:Prop:=
 let d:=w.alloc (.cells b 23);let e:=d.drew;Is a fun f:Addr=> ∃g:AV,(g.size=32/\Cells e (⟨w.heap.size,0,none⟩:Addr) g)/\bn prog 48 #[.pointer (some (f.add 0)),.agg g] e fun i j=> ∃k:Int,i=.int .i64 k/\Holds none [] prog 33 (.loop (lB (bB (sR (sL (sR (sR (body Tryz.f57)))))))) (bt.q1 K) [(0,.pointer a),(3,.pointer (some (⟨w.heap.size,0,none⟩:Addr))),(4,.slice none 0 0),(5,.slice none 0 0),(6,.int .i64 k)] j
variable{a b K w}
theorem bt.of(h:bt.W a b K w):bn prog 57 #[.pointer a,.agg b] w K:=
 aK (C:=bt.k) (c:=body Tryz.f57) ng mix func57 (by kernel_rfl) (by kernel_rfl) (by kernel_rfl) h
end
section
variable(a:OA)(b:Addr)(c:OA)(d:Nat)(e:Nat)(f:OA)(g:Nat)(i:Nat)(j:Int)(Q:aO)(w:World)
def bt.B1:Prop:=
 Split (decide (j>=(0:Int))) (∃k:AV,(k.size=32/\Cells w b k)/\k.size=32/\let m:=w.alloc (.cells (k.toList++ []).toArray 23);∃(n:OA) (o p:Nat) (q:World),(Builtin.append_ #[35,35] 35 #[.slice f g i,.slice (some (⟨w.heap.size,0,none⟩:Addr)) 1 1]).run prog m=.ok (.slice n o p) q/\Split (j==(0:Int)) (Q (.exit 0) [(0,.pointer a),(3,.pointer (some b)),(4,.slice c d e),(5,.slice n o p),(6,.int .i64 j)] q) (Is a fun r:Addr=> ∃t:OA,∃u:Nat,∃v:Nat,q.cell? (r.add 1)=some (.slice t u v)/\(0<=j/\j<(u:Int))/\Is t fun x:Addr=> ∃y:AV,(y.size=32/\Cells q (x.add (j.toNat*32)) y)/\(y.size=32/\(∀z∈y.toList,z.oneCell'=true)/\ ∀a1,a1<32->Wr q (b.add a1))/\let b1:=setCells q b y.toList 0;let c1:=b1.drew;Is a fun d1:Addr=> ∃e1:AV,(e1.size=32/\Cells c1 b e1)/\bn prog 48 #[.pointer (some (d1.add 0)),.agg e1] c1 fun f1 g1=> ∃i1:Int,f1=.int .i64 i1/\Q .normal [(0,.pointer a),(3,.pointer (some b)),(4,.slice c d e),(5,.slice n o p),(6,.int .i64 i1)] g1)) (Q (.exit 0) [(0,.pointer a),(3,.pointer (some b)),(4,.slice c d e),(5,.slice f g i),(6,.int .i64 j)] w)
theorem bt.b1:(aX none [] prog 33 bt.k (lB (bB (sR (sL (sR (sR (body Tryz.f57))))))) bt.u1 Q [(0,.pointer a),(3,.pointer (some b)),(4,.slice c d e),(5,.slice f g i),(6,.int .i64 j)] w)=bt.B1 a b c d e f g i j Q w:=by kernel_rfl
variable{a b c d e}
theorem bt.b6(I:(OA)×Nat×Nat×Int->World->Prop)(μ:(OA)×Nat×Nat×Int->World->Nat)(s:(OA)×Nat×Nat×Int){Q:aO}{w:World}(h0:I s w)
 (round: ∀s w,I s w->bt.B1 a b c d e (s.1) (s.2.1) (s.2.2.1) (s.2.2.2) (bJ (bt.e1 a b c d e) I μ s w Q) w):Holds none [] prog 33 (.loop (lB (bB (sR (sL (sR (sR (body Tryz.f57)))))))) Q (bt.e1 a b c d e s) w:=
 bf ng mix (bt.e1 a b c d e) I μ bt.k bt.u1 s (fun s Q w=>bt.B1 a b c d e (s.1) (s.2.1) (s.2.2.1) (s.2.2.2) Q w) (fun s Q w=>bt.b1 a b c d e (s.1) (s.2.1) (s.2.2.1) (s.2.2.2) Q w) h0 round
end
section
def bt.cJ(a:OA)(b:Addr)(c:OA)(d:Nat)(e:Nat)(f:OA)(g:Nat)(i:Nat)(j:Int)(K:KT)(w:World):Prop:=
 K (.slice f g i) w
variable(a:OA)(b:Addr)(c:OA)(d:Nat)(e:Nat)(f:OA)(g:Nat)(i:Nat)(j:Int)(K:KT)(w:World)
theorem bt.cX:(bt.q1 K (.exit 0) [(0,.pointer a),(3,.pointer (some b)),(4,.slice c d e),(5,.slice f g i),(6,.int .i64 j)] w)=bt.cJ a b c d e f g i j K w:=by kernel_rfl
end
def jy.k:List Nat:= []
section
variable(a:AV)(K:KT)(w:World)
def jy.W:Prop:=
 let b:=w.alloc (.cells a 23);∃d:AV,(d.size=32/\Cells b (⟨w.heap.size,0,none⟩:Addr) d)/\Is (prog.built 48 [(0,.agg d)]) fun e:AV=>e.size=33/\let f:=b.alloc (.cells (e.toList++ []).toArray 48);32=32/\let g:=f.alloc (.cells zH 23);let i:=g.alloc (.cells (#[.slice (some (⟨b.heap.size,0,none⟩:Addr)) 1 1,.slice (some (⟨f.heap.size,0,none⟩:Addr)) 1 1]:AV) 40);K (.pointer (some (⟨g.heap.size,0,none⟩:Addr))) i
variable{a K w}
theorem jy.of(h:jy.W a K w):bn prog 61 #[.agg a] w K:=
 aK (C:=jy.k) (c:=body f61) ng mix func61 (by kernel_rfl) (by kernel_rfl) (by kernel_rfl) h
end
def fc.k:List Nat:= []
section
variable(a:OA)(b:AV)(d:AV)(e:OA)(f:Nat)(g:Nat)(K:KT)(w:World)
def fc.W:Prop:=
 let i:=w.alloc (.cells b 23);let j:=i.alloc (.cells d 23);Is a fun k:Addr=> ∃m:AV,(m.size=1/\Cells j (k.add 0) m)/\let n:=j.alloc (.cells (#[.slice none 0 0]:AV) 38);(m.size=1/\(∀o∈m.toList,o.oneCell'=true)/\ ∀p,p<1->Wr n ((⟨j.heap.size,0,none⟩:Addr).add p))/\let q:=setCells n (⟨j.heap.size,0,none⟩:Addr) m.toList 0;∃r:AV,(r.size=32/\Cells q (⟨w.heap.size,0,none⟩:Addr) r)/\bn prog 62 #[.pointer (some (⟨j.heap.size,0,none⟩:Addr)),.agg r,.slice e f g] q fun t u=> ∃v:Int,t=.int .i64 v/\Split (v != (0:Int)) (K (.int .i64 v) u) (∃x:AV,(x.size=32/\Cells u (⟨i.heap.size,0,none⟩:Addr) x)/\bn prog 13 #[.slice e f g,.agg x] u fun y z=> ∃a1:Bool,y=.bool a1/\Split (!a1) (K (.int .i64 2) z) (∃b1:AV,(b1.size=1/\Cells z (⟨j.heap.size,0,none⟩:Addr) b1)/\Is a fun c1:Addr=>(b1.size=1/\(∀d1∈b1.toList,d1.oneCell'=true)/\ ∀e1,e1<1->Wr z ((c1.add 0).add e1))/\let f1:=setCells z (c1.add 0) b1.toList 0;let g1:=f1.drew;Is a fun i1:Addr=> ∃j1:OA,∃k1:Nat,∃m1:Nat,g1.cell? (i1.add 1)=some (.slice j1 k1 m1)/\ ∃n1:AV,(n1.size=32/\Cells g1 (⟨i.heap.size,0,none⟩:Addr) n1)/\(∃(o1:OA) (p1 q1:Nat) (r1:World),(Builtin.append_ #[35,35] 35 #[.slice none 0 0,.slice j1 k1 m1]).run prog g1=.ok (.slice o1 p1 q1) r1/\(∃cs:AV,(.agg n1:Value)=.agg cs/\cs.size=32/\Cells r1 (⟨i.heap.size,0,none⟩:Addr) cs)/\n1.size=32/\let t1:=r1.alloc (.cells (n1.toList++ []).toArray 23);∃(u1:OA) (v1 x1:Nat) (y1:World),(Builtin.append_ #[35,35] 35 #[.slice o1 p1 q1,.slice (some (⟨r1.heap.size,0,none⟩:Addr)) 1 1]).run prog t1=.ok (.slice u1 v1 x1) y1/\Is a fun z1:Addr=>Wr y1 (z1.add 1)/\let a2:=y1.setCell (z1.add 1) (.slice u1 v1 x1);K (.int .i64 0) a2)/\(n1.size=32/\let b2:=g1.alloc (.cells (n1.toList++ []).toArray 23);b2.cell? (i1.add 1)=some (.slice j1 k1 m1)/\ ∃(c2:OA) (d2 e2:Nat) (f2:World),(Builtin.append_ #[35,35] 35 #[.slice none 0 0,.slice j1 k1 m1]).run prog b2=.ok (.slice c2 d2 e2) f2/\ ∃(g2:OA) (i2 j2:Nat) (k2:World),(Builtin.append_ #[35,35] 35 #[.slice c2 d2 e2,.slice (some (⟨g1.heap.size,0,none⟩:Addr)) 1 1]).run prog f2=.ok (.slice g2 i2 j2) k2/\Is a fun m2:Addr=>Wr k2 (m2.add 1)/\let n2:=k2.setCell (m2.add 1) (.slice g2 i2 j2);K (.int .i64 0) n2)))
variable{a b d e f g K w}
theorem fc.of(h:fc.W a b d e f g K w):bn prog 63 #[.pointer a,.agg b,.agg d,.slice e f g] w K:=
 aK (C:=fc.k) (c:=body f63) ng mix func63 (by kernel_rfl) (by kernel_rfl) (by kernel_rfl) h
end
end Go.Proofs.YtnboahlopghcjaaGreatDoor
