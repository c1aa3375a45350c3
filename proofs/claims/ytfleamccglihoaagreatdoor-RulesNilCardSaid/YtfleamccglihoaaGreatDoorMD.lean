import Derived.Test.YtfleamccglihoaaGreatDoorProg
import Derived.Test.YtfleamccglihoaaGreatDoorMA
import Derived.Test.YtfleamccglihoaaGreatDoorMB
open Go.IntKind (i64 u64)
set_option linter.unusedVariables false
namespace Go.Proofs.YtfleamccglihoaaGreatDoor
open Go.Proofs.Tryz
open Go Go.bE
def fu.k:List Nat:= []
section
variable(a:OA)(b:Int)(K:KT)(w:World)
def fu.W:Prop:=
 bf prog 147 #[.pointer a,.int .i64 b] w fun d e=>∃f:Int,d=.int .i64 f/\Split (f != (0:Int)) (K (.tuple #[.int .i64 0,.int .i64 f]) e) (Is a fun g:Addr=>∃i:OA,∃j k:Nat,e.cell? (g.add 0)=some (.slice i j k)/\Is a fun m:Addr=>∃n:OA,∃o p:Nat,e.cell? (m.add 0)=some (.slice n o p)/\5=5/\let q:=e.alloc (.cells #[.int .i64 b,.slice none 0 0,.int .u64 0,.int .u64 0,.int .u64 0] 199);∃(r:OA) (t u:Nat) (v:World),(Builtin.append_ #[195,195] 195 #[.slice n o p,.slice (some (⟨e.heap.size,0,none⟩:Addr)) 1 1]).run prog q=.ok (.slice r t u) v/\Is a fun x:Addr=>Wr v (x.add 0)/\let y:=v.setCell (x.add 0) (.slice r t u);let z:=y.drew;Is a fun a1:Addr=>∃b1:OA,∃c1 d1:Nat,z.cell? (a1.add 0)=some (.slice b1 c1 d1)/\Is a fun e1:Addr=>∃f1:OA,∃g1 i1:Nat,z.cell? (e1.add 0)=some (.slice f1 g1 i1)/\(0<=b/\b<(g1:Int))/\Is f1 fun j1:Addr=>∃k1:OA,∃m1 n1:Nat,z.cell? ((j1.add (b.toNat*5)).add 1)=some (.slice k1 m1 n1)/\let o1:=z.alloc (.cells #[.int .i64 (j:Int)] 3);o1.cell? ((j1.add (b.toNat*5)).add 1)=some (.slice k1 m1 n1)/\o1.cell? (e1.add 0)=some (.slice f1 g1 i1)/\o1.cell? (a1.add 0)=some (.slice b1 c1 d1)/\∃(p1:OA) (q1 r1:Nat) (t1:World),(Builtin.append_ #[186,186] 186 #[.slice k1 m1 n1,.slice (some (⟨z.heap.size,0,none⟩:Addr)) 1 1]).run prog o1=.ok (.slice p1 q1 r1) t1/\t1.cell? (a1.add 0)=some (.slice b1 c1 d1)/\(0<=b/\b<(c1:Int))/\Is b1 fun u1:Addr=>Wr t1 ((u1.add (b.toNat*5)).add 1)/\let v1:=t1.setCell ((u1.add (b.toNat*5)).add 1) (.slice p1 q1 r1);bf prog 148 #[.pointer a,.int .i64 b] v1 fun x1 y1=>∃z1:Int,x1=.int .u64 z1/\Split (decide (z1>(0:Int))) ((2:Int)≠0/\bf prog 149 #[.pointer a,.int .i64 (j:Int),.int .u64 (u64.wrap ((u64.wrap (z1+(1:Int))).tdiv (2:Int)))] y1 fun a2 b2=>a2=.tuple #[]/\K (.tuple #[.int .i64 (j:Int),.int .i64 0]) b2) (bf prog 150 #[.pointer a,.int .i64 b] y1 fun c2 d2=>c2=.tuple #[]/\K (.tuple #[.int .i64 (j:Int),.int .i64 0]) d2))
variable{a b K w}
theorem fu.of(h:fu.W a b K w):bf prog 120 #[.pointer a,.int .i64 b] w K:=
 rqq func120 (C:=fu.k) h
end
def dF.k:List Nat:= []
section
variable(K:KT)(w:World)
def dF.W:Prop:=
 5=5/\let a:=w.alloc (.cells #[.int .i64 (-1),.slice none 0 0,.int .u64 1,.int .u64 4611686018427387904,.int .u64 1] 199);let b:=a.alloc (.cells (#[.slice (some (⟨w.heap.size,0,none⟩:Addr)) 1 1,.int .i64 0]:AV) 197);K (.pointer (some (⟨a.heap.size,0,none⟩:Addr))) b
variable{K w}
theorem dF.of(h:dF.W K w):bf prog 123 #[] w K:=
 rqq func123 (C:=dF.k) h
end
def dT.k:List Nat:= []
section
variable(a:OA)(b d:Int)(K:KT)(w:World)
def dT.W:Prop:=
 let e:=w.drew;bf prog 151 #[.pointer a,.int .i64 b] e fun f g=>∃i:Bool,f=.bool i/\Split i (bf prog 151 #[.pointer a,.int .i64 d] g fun j k=>∃m:Bool,j=.bool m/\Split m (Is a fun n:Addr=>∃o:OA,∃p q:Nat,k.cell? (n.add 0)=some (.slice o p q)/\(0<=d/\d<(p:Int))/\Is o fun r:Addr=>∃t:Int,k.cell? ((r.add (d.toNat*5)).add 2)=some (.int .u64 t)/\Is a fun u:Addr=>∃v:OA,∃x y:Nat,k.cell? (u.add 0)=some (.slice v x y)/\(0<=b/\b<(x:Int))/\Is v fun z:Addr=>∃a1:Int,k.cell? ((z.add (b.toNat*5)).add 2)=some (.int .u64 a1)/\Split (decide (t<=a1)) (Is a fun b1:Addr=>∃c1:OA,∃d1 e1:Nat,k.cell? (b1.add 0)=some (.slice c1 d1 e1)/\(0<=b/\b<(d1:Int))/\Is c1 fun f1:Addr=>∃g1:Int,k.cell? ((f1.add (b.toNat*5)).add 3)=some (.int .u64 g1)/\Is a fun i1:Addr=>∃j1:OA,∃k1 m1:Nat,k.cell? (i1.add 0)=some (.slice j1 k1 m1)/\(0<=d/\d<(k1:Int))/\Is j1 fun n1:Addr=>∃o1:Int,k.cell? ((n1.add (d.toNat*5)).add 3)=some (.int .u64 o1)/\K (.bool (decide (g1<=o1))) k) (K (.bool false) k)) (K (.bool false) k)) (K (.bool false) g)
variable{a b d K w}
theorem dT.of(h:dT.W a b d K w):bf prog 126 #[.pointer a,.int .i64 b,.int .i64 d] w K:=
 rqq func126 (C:=dT.k) h
end
def dX.k:List Nat:= []
section
variable(a:OA)(b:Int)(K:KT)(w:World)
def dX.W:Prop:=
 bf prog 147 #[.pointer a,.int .i64 b] w fun d e=>∃f:Int,d=.int .i64 f/\Split (f==(0:Int)) (Split (b==(0:Int)) (Split ((6:Int) != (0:Int)) (K (.tuple #[.int .i64 0,.int .i64 6]) e) (Is a fun g:Addr=>∃i:OA,∃j k:Nat,e.cell? (g.add 0)=some (.slice i j k)/\(0<=b/\b<(j:Int))/\Is i fun m:Addr=>∃n:Int,e.cell? ((m.add (b.toNat*5)).add 0)=some (.int .i64 n)/\K (.tuple #[.int .i64 n,.int .i64 0]) e)) (Split (f != (0:Int)) (K (.tuple #[.int .i64 0,.int .i64 f]) e) (Is a fun o:Addr=>∃p:OA,∃q r:Nat,e.cell? (o.add 0)=some (.slice p q r)/\(0<=b/\b<(q:Int))/\Is p fun t:Addr=>∃u:Int,e.cell? ((t.add (b.toNat*5)).add 0)=some (.int .i64 u)/\K (.tuple #[.int .i64 u,.int .i64 0]) e))) (Split (f != (0:Int)) (K (.tuple #[.int .i64 0,.int .i64 f]) e) (Is a fun v:Addr=>∃x:OA,∃y z:Nat,e.cell? (v.add 0)=some (.slice x y z)/\(0<=b/\b<(y:Int))/\Is x fun a1:Addr=>∃b1:Int,e.cell? ((a1.add (b.toNat*5)).add 0)=some (.int .i64 b1)/\K (.tuple #[.int .i64 b1,.int .i64 0]) e))
variable{a b K w}
theorem dX.of(h:dX.W a b K w):bf prog 142 #[.pointer a,.int .i64 b] w K:=
 rqq func142 (C:=dX.k) h
end
def ft.k:List Nat:= []
section
variable(a:OA)(b:Int)(K:KT)(w:World)
def ft.W:Prop:=
 Split ((a).isNone) (K (.int .i64 1) w) (Is a fun d:Addr=>∃e:OA,∃f g:Nat,w.cell? (d.add 0)=some (.slice e f g)/\Split ((f:Int)==(0:Int)) (K (.int .i64 1) w) (bf prog 151 #[.pointer a,.int .i64 b] w fun i j=>∃k:Bool,i=.bool k/\Split (!k) (K (.int .i64 6) j) (K (.int .i64 0) j)))
variable{a b K w}
theorem ft.of(h:ft.W a b K w):bf prog 147 #[.pointer a,.int .i64 b] w K:=
 rqq func147 (C:=ft.k) h
end
def eI.k:List Nat:= []
section
variable(a:OA)(b:Int)(K:KT)(w:World)
def eI.W:Prop:=
 let d:=w.drew;Is a fun e:Addr=>∃f:OA,∃g i:Nat,d.cell? (e.add 0)=some (.slice f g i)/\(0<=b/\b<(g:Int))/\Is f fun j:Addr=>∃k:Int,d.cell? ((j.add (b.toNat*5)).add 3)=some (.int .u64 k)/\Is a fun m:Addr=>∃n:OA,∃o p:Nat,d.cell? (m.add 0)=some (.slice n o p)/\(0<=b/\b<(o:Int))/\Is n fun q:Addr=>∃r:Int,d.cell? ((q.add (b.toNat*5)).add 4)=some (.int .u64 r)/\K (.int .u64 (u64.wrap (k-r))) d
variable{a b K w}
theorem eI.of(h:eI.W a b K w):bf prog 148 #[.pointer a,.int .i64 b] w K:=
 rqq func148 (C:=eI.k) h
end
def eJ.k:List Nat:= []
section
variable(a:OA)(b d:Int)(K:KT)(w:World)
def eJ.W:Prop:=
 Is a fun e:Addr=>∃f:OA,∃g i:Nat,w.cell? (e.add 0)=some (.slice f g i)/\(0<=b/\b<(g:Int))/\Is f fun j:Addr=>let k:=w.drew;Is a fun m:Addr=>∃n:OA,∃o p:Nat,k.cell? (m.add 0)=some (.slice n o p)/\∃q:Int,k.cell? ((j.add (b.toNat*5)).add 0)=some (.int .i64 q)/\(0<=q/\q<(o:Int))/\Is n fun r:Addr=>∃t:Int,k.cell? ((r.add (q.toNat*5)).add 4)=some (.int .u64 t)/\Wr k ((j.add (b.toNat*5)).add 2)/\let u:=k.setCell ((j.add (b.toNat*5)).add 2) (.int .u64 t);∃v:Int,u.cell? ((j.add (b.toNat*5)).add 2)=some (.int .u64 v)/\Wr u ((j.add (b.toNat*5)).add 3)/\let x:=u.setCell ((j.add (b.toNat*5)).add 3) (.int .u64 (u64.wrap ((u64.wrap (v+d))-(1:Int))));∃y:Int,x.cell? ((j.add (b.toNat*5)).add 2)=some (.int .u64 y)/\Wr x ((j.add (b.toNat*5)).add 4)/\let z:=x.setCell ((j.add (b.toNat*5)).add 4) (.int .u64 y);∃a1:Int,z.cell? ((r.add (q.toNat*5)).add 4)=some (.int .u64 a1)/\Wr z ((r.add (q.toNat*5)).add 4)/\let b1:=z.setCell ((r.add (q.toNat*5)).add 4) (.int .u64 (u64.wrap (a1+d)));K (.tuple #[]) b1
variable{a b d K w}
theorem eJ.of(h:eJ.W a b d K w):bf prog 149 #[.pointer a,.int .i64 b,.int .u64 d] w K:=
 rqq func149 (C:=eJ.k) h
end
def gA.k:List Nat:= []
section
variable(a:OA)(b:Int)(K:KT)(w:World)
def gA.W:Prop:=
 Split (!(a).isNone) (Split (decide (b>=(0:Int))) (Is a fun d:Addr=>∃e:OA,∃f g:Nat,w.cell? (d.add 0)=some (.slice e f g)/\K (.bool (decide (b<(f:Int)))) w) (K (.bool false) w)) (K (.bool false) w)
variable{a b K w}
theorem gA.of(h:gA.W a b K w):bf prog 151 #[.pointer a,.int .i64 b] w K:=
 rqq func151 (C:=gA.k) h
end
def bits_LeadingZeros64.k:List Nat:= []
section
variable(a:Int)(K:KT)(w:World)
def bits_LeadingZeros64.W:Prop:=
 bf prog 136 #[.int .u64 a] w fun b d=>∃e:Int,b=.int .i64 e/\K (.int .i64 (i64.wrap ((64:Int)-e))) d
variable{a K w}
theorem bits_LeadingZeros64.of(h:bits_LeadingZeros64.W a K w):bf prog 164 #[.int .u64 a] w K:=
 rqq func164 (C:=bits_LeadingZeros64.k) h
end
def ay.k:List Nat:= []
def ay.q1(K:KT):aM:=(aP 0 (ct (aZ (sR (body f150)))++(aW f150)) (b6 (fun cf w_=>match cutAt ay.k (aZ (sR (body f150)))with|true=>Holds none [] prog 164 (aZ (sR (body f150))) (bV prog f150 K) cf w_|false=>a8 none [] prog 164 ay.k (aZ (sR (body f150))) (aW f150) (bV prog f150 K) cf w_) (bV prog f150 K)))
def ay.e1(a b:OA)(c d:Nat)(s:Int):Env:= [(0,.pointer a),(1,.int .i64 s),(4,.slice b c d)]
def ay.u1:List Nat:= [0,1,4]
def ay.q2(K:KT):aM:=(aP 2 (aW f150) (bV prog f150 K))
def ay.e2(a b:OA)(c d:Nat)(s:(OA)×Nat×Nat×Int):Env:= [(0,.pointer a),(4,.slice b c d),(5,.slice s.1 s.2.1 s.2.2.1),(6,.int .i64 s.2.2.2)]
def ay.u2:List Nat:= [0,4,5,6]
def ay.q3(Q:aM):aM:=(aP 4 (ct (aZ (lB (bB (cS (sR (body f150))))))++ay.u2) (aP 3 (ct (aZ (lB (bB (cS (sR (body f150))))))++ay.u2) (b6 (fun cf w_=>match cutAt ay.k (aZ (lB (bB (cS (sR (body f150))))))with|true=>Holds none [] prog 164 (aZ (lB (bB (cS (sR (body f150)))))) Q cf w_|false=>a8 none [] prog 164 ay.k (aZ (lB (bB (cS (sR (body f150)))))) ay.u2 Q cf w_) Q)))
def ay.e3(a b:OA)(c d:Nat)(e f g:Int)(i:OA)(j k:Nat)(m:Int)(s:(OA)×Nat×Nat×Int):Env:= [(0,.pointer a),(4,.slice b c d),(5,.slice s.1 s.2.1 s.2.2.1),(6,.int .i64 e),(7,.int .i64 f),(8,.int .u64 g),(124,.slice i j k),(125,.int .i64 m),(126,.int .i64 s.2.2.2)]
def ay.u3:List Nat:= [0,4,5,6,7,8,124,125,126]
section
variable(a:OA)(b:Int)(K:KT)(w:World)
def ay.W:Prop:=
 Is a fun d:Addr=>∃e:Int,w.cell? (d.add 1)=some (.int .i64 e)/\Is a fun f:Addr=>Wr w (f.add 1)/\let g:=w.setCell (f.add 1) (.int .i64 (i64.wrap (e+(1:Int))));bf prog 160 #[.pointer a] g fun i j=>∃k:OA,∃m n:Nat,i=.slice k m n/\Holds none [] prog 164 (.loop (lB (bB (sL (aZ (body f150)))))) (ay.q1 K) [(0,.pointer a),(1,.int .i64 b),(4,.slice k m n)] j
variable{a b K w}
theorem ay.of(h:ay.W a b K w):bf prog 150 #[.pointer a,.int .i64 b] w K:=
 rqq func150 (C:=ay.k) h
end
section
variable(a:OA)(b:Int)(c:OA)(d e:Nat)(Q:aM)(w:World)
def ay.B1:Prop:=
 let f:=w.drew;Is a fun g:Addr=>∃i:OA,∃j k:Nat,f.cell? (g.add 0)=some (.slice i j k)/\(0<=b/\b<(j:Int))/\Is i fun m:Addr=>∃n:Int,f.cell? ((m.add (b.toNat*5)).add 0)=some (.int .i64 n)/\Split (decide (n>=(0:Int))) (Is a fun o:Addr=>∃p:OA,∃q r:Nat,f.cell? (o.add 0)=some (.slice p q r)/\(0<=b/\b<(q:Int))/\Is p fun t:Addr=>∃u:Int,f.cell? ((t.add (b.toNat*5)).add 3)=some (.int .u64 u)/\Is a fun v:Addr=>∃x:OA,∃y z:Nat,f.cell? (v.add 0)=some (.slice x y z)/\(0<=b/\b<(y:Int))/\Is x fun a1:Addr=>∃b1:Int,f.cell? ((a1.add (b.toNat*5)).add 2)=some (.int .u64 b1)/\(4:Int)≠0/\(0<=b/\b<(d:Int))/\Is c fun c1:Addr=>∃d1:Int,f.cell? (c1.add (b.toNat*1))=some (.int .u64 d1)/\Split (decide ((u64.wrap ((u64.wrap ((u64.wrap (u-b1))+(1:Int))).tdiv (4:Int)))<d1)) (Is a fun e1:Addr=>∃f1:OA,∃g1 i1:Nat,f.cell? (e1.add 0)=some (.slice f1 g1 i1)/\(0<=b/\b<(g1:Int))/\Is f1 fun j1:Addr=>∃k1:Int,f.cell? ((j1.add (b.toNat*5)).add 0)=some (.int .i64 k1)/\Q .normal [(0,.pointer a),(1,.int .i64 k1),(4,.slice c d e)] f) (Q (.exit 0) [(0,.pointer a),(1,.int .i64 b),(4,.slice c d e)] f)) (Q (.exit 0) [(0,.pointer a),(1,.int .i64 b),(4,.slice c d e)] f)
theorem ay.b1:(a8 none [] prog 164 ay.k (lB (bB (sL (aZ (body f150))))) ay.u1 Q [(0,.pointer a),(1,.int .i64 b),(4,.slice c d e)] w)=ay.B1 a b c d e Q w:=by kernel_rfl
variable{a c d e}
theorem ay.b9(I:Int->World->Prop)(μ:Int->World->Nat)(s:Int){Q:aM}{w:World}(h0:I s w)
 (round:∀s w,I s w->ay.B1 a s c d e (bS (ay.e1 a c d e) I μ s w Q) w):Holds none [] prog 164 (.loop (lB (bB (sL (aZ (body f150)))))) Q (ay.e1 a c d e s) w:=
 br ng mix (ay.e1 a c d e) I μ ay.k ay.u1 s (fun s Q w=>ay.B1 a s c d e Q w) (fun s Q w=>ay.b1 a s c d e Q w) h0 round
end
section
variable(a:OA)(b:Int)(c:OA)(d e:Nat)(K:KT)(w:World)
def ay.cU:Prop:=
 let f:=w.alloc (.cells #[.int .i64 b] 3);Holds none [] prog 164 (.loop (lB (bB (cS (sR (body f150)))))) (ay.q2 K) [(0,.pointer a),(4,.slice c d e),(5,.slice (some (⟨w.heap.size,0,none⟩:Addr)) 1 1),(6,.int .i64 0)] f
theorem ay.dw:(ay.q1 K (.exit 0) [(0,.pointer a),(1,.int .i64 b),(4,.slice c d e)] w)=ay.cU a b c d e K w:=by kernel_rfl
end
section
variable(a b:OA)(c d:Nat)(e:OA)(f g:Nat)(i:Int)(Q:aM)(w:World)
def ay.B2:Prop:=
 Split (decide (i<(f:Int))) ((0<=i/\i<(f:Int))/\Is e fun j:Addr=>∃k:Int,w.cell? (j.add (i.toNat*1))=some (.int .i64 k)/\let m:=w.drew;Is a fun n:Addr=>∃o:OA,∃p q:Nat,m.cell? (n.add 0)=some (.slice o p q)/\Is a fun r:Addr=>∃t:OA,∃u v:Nat,m.cell? (r.add 0)=some (.slice t u v)/\(0<=k/\k<(u:Int))/\Is t fun x:Addr=>∃y:Int,m.cell? ((x.add (k.toNat*5)).add 2)=some (.int .u64 y)/\(0<=k/\k<(p:Int))/\Is o fun z:Addr=>Wr m ((z.add (k.toNat*5)).add 4)/\let a1:=m.setCell ((z.add (k.toNat*5)).add 4) (.int .u64 y);let b1:=a1.drew;Is a fun c1:Addr=>∃d1:OA,∃e1 f1:Nat,b1.cell? (c1.add 0)=some (.slice d1 e1 f1)/\(0<=k/\k<(e1:Int))/\Is d1 fun g1:Addr=>∃i1:Int,b1.cell? ((g1.add (k.toNat*5)).add 3)=some (.int .u64 i1)/\Is a fun j1:Addr=>∃k1:OA,∃m1 n1:Nat,b1.cell? (j1.add 0)=some (.slice k1 m1 n1)/\(0<=k/\k<(m1:Int))/\Is k1 fun o1:Addr=>∃p1:Int,b1.cell? ((o1.add (k.toNat*5)).add 2)=some (.int .u64 p1)/\(0<=k/\k<(c:Int))/\Is b fun q1:Addr=>∃r1:Int,b1.cell? (q1.add (k.toNat*1))=some (.int .u64 r1)/\Is a fun t1:Addr=>∃u1:OA,∃v1 x1:Nat,b1.cell? (t1.add 0)=some (.slice u1 v1 x1)/\(0<=k/\k<(v1:Int))/\Is u1 fun y1:Addr=>∃z1:OA,∃a2 b2:Nat,b1.cell? ((y1.add (k.toNat*5)).add 1)=some (.slice z1 a2 b2)/\Holds none [] prog 164 (.loop (lB (bB (cS (bB (sL (sR (lB (bB (cS (sR (body f150)))))))))))) (ay.q3 Q) [(0,.pointer a),(4,.slice b c d),(5,.slice e f g),(6,.int .i64 i),(7,.int .i64 k),(8,.int .u64 (u64.wrap ((u64.wrap (i1-p1))-(u64.wrap (r1-(1:Int)))))),(124,.slice z1 a2 b2),(125,.int .i64 (a2:Int)),(126,.int .i64 0)] b1) (Q (.exit 2) [(0,.pointer a),(4,.slice b c d),(5,.slice e f g),(6,.int .i64 i)] w)
theorem ay.b2:(a8 none [] prog 164 ay.k (lB (bB (cS (sR (body f150))))) ay.u2 Q [(0,.pointer a),(4,.slice b c d),(5,.slice e f g),(6,.int .i64 i)] w)=ay.B2 a b c d e f g i Q w:=by kernel_rfl
variable{a b c d}
theorem ay.iK(I:(OA)×Nat×Nat×Int->World->Prop)(μ:(OA)×Nat×Nat×Int->World->Nat)(s:(OA)×Nat×Nat×Int){Q:aM}{w:World}(h0:I s w)
 (round:∀s w,I s w->ay.B2 a b c d (s.1) (s.2.1) (s.2.2.1) (s.2.2.2) (bS (ay.e2 a b c d) I μ s w Q) w):Holds none [] prog 164 (.loop (lB (bB (cS (sR (body f150)))))) Q (ay.e2 a b c d s) w:=
 br ng mix (ay.e2 a b c d) I μ ay.k ay.u2 s (fun s Q w=>ay.B2 a b c d (s.1) (s.2.1) (s.2.2.1) (s.2.2.2) Q w) (fun s Q w=>ay.b2 a b c d (s.1) (s.2.1) (s.2.2.1) (s.2.2.2) Q w) h0 round
end
section
def ay.jX(a b:OA)(c d:Nat)(e:OA)(f g:Nat)(i:Int)(K:KT)(w:World):Prop:=
 K (.tuple #[]) w
variable(a b:OA)(c d:Nat)(e:OA)(f g:Nat)(i:Int)(K:KT)(w:World)
theorem ay.lI:(ay.q2 K (.exit 2) [(0,.pointer a),(4,.slice b c d),(5,.slice e f g),(6,.int .i64 i)] w)=ay.jX a b c d e f g i K w:=by kernel_rfl
end
section
variable(a b:OA)(c d:Nat)(e:OA)(f g:Nat)(i j k:Int)(m:OA)(n o:Nat)(p q:Int)(Q:aM)(w:World)
def ay.B3:Prop:=
 Split (decide (q<p)) ((0<=q/\q<(n:Int))/\Is m fun r:Addr=>∃t:Int,w.cell? (r.add (q.toNat*1))=some (.int .i64 t)/\(2:Int)≠0/\(0<=t/\t<(c:Int))/\Is b fun u:Addr=>∃v:Int,w.cell? (u.add (t.toNat*1))=some (.int .u64 v)/\bf prog 161 #[.int .u64 (u64.wrap (k.tdiv (2:Int))),.int .u64 v] w fun x y=>∃z a1:Int,x=.tuple #[.int .u64 z,.int .u64 a1]/\(0<=j/\j<(c:Int))/\Is b fun b1:Addr=>∃c1:Int,y.cell? (b1.add (j.toNat*1))=some (.int .u64 c1)/\bf prog 162 #[.int .u64 z,.int .u64 a1,.int .u64 c1] y fun d1 e1=>∃f1 g1:Int,d1=.tuple #[.int .u64 f1,.int .u64 g1]/\(0<=t/\t<(c:Int))/\Is b fun i1:Addr=>∃j1:Int,e1.cell? (i1.add (t.toNat*1))=some (.int .u64 j1)/\bf prog 149 #[.pointer a,.int .i64 t,.int .u64 (u64.wrap (j1+f1))] e1 fun k1 m1=>k1=.tuple #[]/\let n1:=m1.alloc (.cells #[.int .i64 t] 3);∃(o1:OA) (p1 q1:Nat) (r1:World),(Builtin.append_ #[186,186] 186 #[.slice e f g,.slice (some (⟨m1.heap.size,0,none⟩:Addr)) 1 1]).run prog n1=.ok (.slice o1 p1 q1) r1/\Q .normal [(0,.pointer a),(4,.slice b c d),(5,.slice o1 p1 q1),(6,.int .i64 i),(7,.int .i64 j),(8,.int .u64 k),(124,.slice m n o),(125,.int .i64 p),(126,.int .i64 (i64.wrap (q+(1:Int))))] r1) (Q (.exit 4) [(0,.pointer a),(4,.slice b c d),(5,.slice e f g),(6,.int .i64 i),(7,.int .i64 j),(8,.int .u64 k),(124,.slice m n o),(125,.int .i64 p),(126,.int .i64 q)] w)
theorem ay.b3:(a8 none [] prog 164 ay.k (lB (bB (cS (bB (sL (sR (lB (bB (cS (sR (body f150))))))))))) ay.u3 Q [(0,.pointer a),(4,.slice b c d),(5,.slice e f g),(6,.int .i64 i),(7,.int .i64 j),(8,.int .u64 k),(124,.slice m n o),(125,.int .i64 p),(126,.int .i64 q)] w)=ay.B3 a b c d e f g i j k m n o p q Q w:=by kernel_rfl
variable{a b c d i j k m n o p}
theorem ay.wP(I:(OA)×Nat×Nat×Int->World->Prop)(μ:(OA)×Nat×Nat×Int->World->Nat)(s:(OA)×Nat×Nat×Int){Q:aM}{w:World}(h0:I s w)
 (round:∀s w,I s w->ay.B3 a b c d (s.1) (s.2.1) (s.2.2.1) i j k m n o p (s.2.2.2) (bS (ay.e3 a b c d i j k m n o p) I μ s w Q) w):Holds none [] prog 164 (.loop (lB (bB (cS (bB (sL (sR (lB (bB (cS (sR (body f150)))))))))))) Q (ay.e3 a b c d i j k m n o p s) w:=
 br ng mix (ay.e3 a b c d i j k m n o p) I μ ay.k ay.u3 s (fun s Q w=>ay.B3 a b c d (s.1) (s.2.1) (s.2.2.1) i j k m n o p (s.2.2.2) Q w) (fun s Q w=>ay.b3 a b c d (s.1) (s.2.1) (s.2.2.1) i j k m n o p (s.2.2.2) Q w) h0 round
end
section
def ay.zJ(a b:OA)(c d:Nat)(e:OA)(f g:Nat)(i j k:Int)(m:OA)(n o:Nat)(p q:Int)(Q:aM)(w:World):Prop:=
 Q .normal [(0,.pointer a),(4,.slice b c d),(5,.slice e f g),(6,.int .i64 (i64.wrap (i+(1:Int))))] w
variable(a b:OA)(c d:Nat)(e:OA)(f g:Nat)(i j k:Int)(m:OA)(n o:Nat)(p q:Int)(Q:aM)(w:World)
theorem ay.Da:(ay.q3 Q (.exit 4) [(0,.pointer a),(4,.slice b c d),(5,.slice e f g),(6,.int .i64 i),(7,.int .i64 j),(8,.int .u64 k),(124,.slice m n o),(125,.int .i64 p),(126,.int .i64 q)] w)=ay.zJ a b c d e f g i j k m n o p q Q w:=by kernel_rfl
end
def bg.k:List Nat:= []
def bg.q1(K:KT):aM:=(aP 0 (ct (aZ (sR (body f160)))++(aW f160)) (b6 (fun cf w_=>match cutAt bg.k (aZ (sR (body f160)))with|true=>Holds none [] prog 57 (aZ (sR (body f160))) (bV prog f160 K) cf w_|false=>a8 none [] prog 57 bg.k (aZ (sR (body f160))) (aW f160) (bV prog f160 K) cf w_) (bV prog f160 K)))
def bg.e1(a b:OA)(c d:Nat)(e:OA)(f g:Nat)(i s:Int):Env:= [(0,.pointer a),(2,.slice b c d),(3,.slice e f g),(17,.int .i64 i),(18,.int .i64 s)]
def bg.u1:List Nat:= [0,2,3,17,18]
section
variable(a:OA)(K:KT)(w:World)
def bg.W:Prop:=
 Is a fun b:Addr=>∃d:OA,∃e f:Nat,w.cell? (b.add 0)=some (.slice d e f)/\∃(g:OA) (i j:Nat) (k:World),(Instr.makeSlice 142 (.int .i64 (e:Int)) (.int .i64 (e:Int))).run prog w=.ok (.slice g i j) k/\Is a fun m:Addr=>∃n:OA,∃o p:Nat,k.cell? (m.add 0)=some (.slice n o p)/\Holds none [] prog 57 (.loop (lB (bB (sR (sL (aZ (body f160))))))) (bg.q1 K) [(0,.pointer a),(2,.slice none 0 0),(3,.slice g i j),(17,.int .i64 (o:Int)),(18,.int .i64 0)] k
variable{a K w}
theorem bg.of(h:bg.W a K w):bf prog 160 #[.pointer a] w K:=
 rqq func160 (C:=bg.k) h
end
section
variable(a b:OA)(c d:Nat)(e:OA)(f g:Nat)(i j:Int)(Q:aM)(w:World)
def bg.B1:Prop:=
 Split (decide (j<i)) (Is a fun k:Addr=>∃m:OA,∃n o:Nat,w.cell? (k.add 0)=some (.slice m n o)/\(0<=(i64.wrap ((i64.wrap ((n:Int)-(1:Int)))-j))/\(i64.wrap ((i64.wrap ((n:Int)-(1:Int)))-j))<(f:Int))/\Is e fun p:Addr=>∃q:Int,w.cell? (p.add ((i64.wrap ((i64.wrap ((n:Int)-(1:Int)))-j)).toNat*1))=some (.int .u64 q)/\(0<=(i64.wrap ((i64.wrap ((n:Int)-(1:Int)))-j))/\(i64.wrap ((i64.wrap ((n:Int)-(1:Int)))-j))<(f:Int))/\Is e fun r:Addr=>Wr w (r.add ((i64.wrap ((i64.wrap ((n:Int)-(1:Int)))-j)).toNat*1))/\let t:=w.setCell (r.add ((i64.wrap ((i64.wrap ((n:Int)-(1:Int)))-j)).toNat*1)) (.int .u64 (u64.wrap (q+(1:Int))));Is a fun u:Addr=>∃v:OA,∃x y:Nat,t.cell? (u.add 0)=some (.slice v x y)/\(0<=(i64.wrap ((i64.wrap ((n:Int)-(1:Int)))-j))/\(i64.wrap ((i64.wrap ((n:Int)-(1:Int)))-j))<(x:Int))/\Is v fun z:Addr=>∃a1:Int,t.cell? ((z.add ((i64.wrap ((i64.wrap ((n:Int)-(1:Int)))-j)).toNat*5)).add 0)=some (.int .i64 a1)/\Split (decide (a1>=(0:Int))) (let b1:=t.drew;(0<=a1/\a1<(f:Int))/\Is e fun c1:Addr=>∃d1:Int,b1.cell? (c1.add (a1.toNat*1))=some (.int .u64 d1)/\(0<=(i64.wrap ((i64.wrap ((n:Int)-(1:Int)))-j))/\(i64.wrap ((i64.wrap ((n:Int)-(1:Int)))-j))<(f:Int))/\Is e fun e1:Addr=>∃f1:Int,b1.cell? (e1.add ((i64.wrap ((i64.wrap ((n:Int)-(1:Int)))-j)).toNat*1))=some (.int .u64 f1)/\(0<=a1/\a1<(f:Int))/\Is e fun g1:Addr=>Wr b1 (g1.add (a1.toNat*1))/\let i1:=b1.setCell (g1.add (a1.toNat*1)) (.int .u64 (u64.wrap (d1+f1)));Q .normal [(0,.pointer a),(2,.slice b c d),(3,.slice e f g),(17,.int .i64 i),(18,.int .i64 (i64.wrap (j+(1:Int))))] i1) (Q .normal [(0,.pointer a),(2,.slice b c d),(3,.slice e f g),(17,.int .i64 i),(18,.int .i64 (i64.wrap (j+(1:Int))))] t)) (Q (.exit 0) [(0,.pointer a),(2,.slice b c d),(3,.slice e f g),(17,.int .i64 i),(18,.int .i64 j)] w)
theorem bg.b1:(a8 none [] prog 57 bg.k (lB (bB (sR (sL (aZ (body f160)))))) bg.u1 Q [(0,.pointer a),(2,.slice b c d),(3,.slice e f g),(17,.int .i64 i),(18,.int .i64 j)] w)=bg.B1 a b c d e f g i j Q w:=by kernel_rfl
variable{a b c d e f g i}
theorem bg.b9(I:Int->World->Prop)(μ:Int->World->Nat)(s:Int){Q:aM}{w:World}(h0:I s w)
 (round:∀s w,I s w->bg.B1 a b c d e f g i s (bS (bg.e1 a b c d e f g i) I μ s w Q) w):Holds none [] prog 57 (.loop (lB (bB (sR (sL (aZ (body f160))))))) Q (bg.e1 a b c d e f g i s) w:=
 br ng mix (bg.e1 a b c d e f g i) I μ bg.k bg.u1 s (fun s Q w=>bg.B1 a b c d e f g i s Q w) (fun s Q w=>bg.b1 a b c d e f g i s Q w) h0 round
end
section
def bg.cU(a b:OA)(c d:Nat)(e:OA)(f g:Nat)(i j:Int)(K:KT)(w:World):Prop:=
 K (.slice e f g) w
variable(a b:OA)(c d:Nat)(e:OA)(f g:Nat)(i j:Int)(K:KT)(w:World)
theorem bg.dw:(bg.q1 K (.exit 0) [(0,.pointer a),(2,.slice b c d),(3,.slice e f g),(17,.int .i64 i),(18,.int .i64 j)] w)=bg.cU a b c d e f g i j K w:=by kernel_rfl
end
section
variable(a b:Int)(K:KT)(w:World)
variable{a b K w}
end
def aT.k:List Nat:= []
def aT.q1(K:KT):aM:=(aP 0 (ct (dW (cS (aZ (sR (body f162)))))++(aW f162)) (b6 (fun cf w_=>match cutAt aT.k (dW (cS (aZ (sR (body f162)))))with|true=>Holds none [] prog 135 (dW (cS (aZ (sR (body f162))))) (bV prog f162 K) cf w_|false=>a8 none [] prog 135 aT.k (dW (cS (aZ (sR (body f162))))) (aW f162) (bV prog f162 K) cf w_) (bV prog f162 K)))
def aT.e1(a b c d e f g i j:Int)(s:Int×Int):Env:= [(2,.int .u64 a),(6,.int .u64 b),(7,.int .u64 c),(8,.int .u64 d),(9,.int .u64 e),(10,.int .u64 f),(11,.int .u64 g),(13,.int .u64 i),(14,.int .u64 j),(15,.int .u64 s.1),(16,.int .u64 s.2)]
def aT.u1:List Nat:= [2,6,7,8,9,10,11,13,14,15,16]
def aT.q2(K:KT):aM:=(aP 2 (ct (dW (dW (aZ (sR (body f162)))))++(aW f162)) (b6 (fun cf w_=>match cutAt aT.k (dW (dW (aZ (sR (body f162)))))with|true=>Holds none [] prog 135 (dW (dW (aZ (sR (body f162))))) (bV prog f162 K) cf w_|false=>a8 none [] prog 135 aT.k (dW (dW (aZ (sR (body f162))))) (aW f162) (bV prog f162 K) cf w_) (bV prog f162 K)))
def aT.e2(a b c d e f g i j:Int)(s:Int×Int):Env:= [(2,.int .u64 a),(6,.int .u64 b),(7,.int .u64 c),(8,.int .u64 d),(9,.int .u64 e),(10,.int .u64 f),(14,.int .u64 g),(15,.int .u64 i),(16,.int .u64 s.1),(17,.int .u64 j),(18,.int .u64 s.2)]
def aT.u2:List Nat:= [2,6,7,8,9,10,14,15,16,17,18]
section
variable(a b d:Int)(K:KT)(w:World)
def aT.W:Prop:=
 Split (d==(0:Int)) (∃e:Value,w.cell? (⟨2,0,none⟩:Addr)=some (e)/\False) (Split (decide (d<=a)) (∃f:Value,w.cell? (⟨3,0,none⟩:Addr)=some (f)/\False) (Split (a==(0:Int)) (let g:=w.drew;d≠0/\d≠0/\K (.tuple #[.int .u64 (u64.wrap (b.tdiv d)),.int .u64 (b.tmod d)]) g) (bf prog 164 #[.int .u64 d] w fun i j=>∃k:Int,i=.int .i64 k/\0<=(u64.wrap k)/\0<=(32:Int)/\0<=(u64.wrap k)/\0<=(u64.wrap ((64:Int)-(u64.wrap k)))/\0<=(u64.wrap k)/\0<=(32:Int)/\((u64.wrap (d*2 ^ (min (u64.wrap k).toNat 64))).fdiv (2 ^ (min (32:Int).toNat 64)))≠0/\Holds none [] prog 135 (.loop (lB (bB (sL (dW (cS (aZ (body f162)))))))) (aT.q1 K) [(2,.int .u64 (u64.wrap (d*2 ^ (min (u64.wrap k).toNat 64)))),(6,.int .u64 0),(7,.int .u64 0),(8,.int .u64 (u64.wrap k)),(9,.int .u64 ((u64.wrap (d*2 ^ (min (u64.wrap k).toNat 64))).fdiv (2 ^ (min (32:Int).toNat 64)))),(10,.int .u64 (u64.wrap ((BitVec.ofInt 64 (u64.wrap (d*2 ^ (min (u64.wrap k).toNat 64)))&&& BitVec.ofInt 64 (4294967295:Int)).toNat))),(11,.int .u64 (u64.wrap ((BitVec.ofInt 64 (u64.wrap (a*2 ^ (min (u64.wrap k).toNat 64)))|||BitVec.ofInt 64 (b.fdiv (2 ^ (min (u64.wrap ((64:Int)-(u64.wrap k))).toNat 64)))).toNat))),(13,.int .u64 ((u64.wrap (b*2 ^ (min (u64.wrap k).toNat 64))).fdiv (2 ^ (min (32:Int).toNat 64)))),(14,.int .u64 (u64.wrap ((BitVec.ofInt 64 (u64.wrap (b*2 ^ (min (u64.wrap k).toNat 64)))&&& BitVec.ofInt 64 (4294967295:Int)).toNat))),(15,.int .u64 (u64.wrap ((u64.wrap ((BitVec.ofInt 64 (u64.wrap (a*2 ^ (min (u64.wrap k).toNat 64)))|||BitVec.ofInt 64 (b.fdiv (2 ^ (min (u64.wrap ((64:Int)-(u64.wrap k))).toNat 64)))).toNat)).tdiv ((u64.wrap (d*2 ^ (min (u64.wrap k).toNat 64))).fdiv (2 ^ (min (32:Int).toNat 64)))))),(16,.int .u64 (u64.wrap ((u64.wrap ((BitVec.ofInt 64 (u64.wrap (a*2 ^ (min (u64.wrap k).toNat 64)))|||BitVec.ofInt 64 (b.fdiv (2 ^ (min (u64.wrap ((64:Int)-(u64.wrap k))).toNat 64)))).toNat))-(u64.wrap ((u64.wrap ((u64.wrap ((BitVec.ofInt 64 (u64.wrap (a*2 ^ (min (u64.wrap k).toNat 64)))|||BitVec.ofInt 64 (b.fdiv (2 ^ (min (u64.wrap ((64:Int)-(u64.wrap k))).toNat 64)))).toNat)).tdiv ((u64.wrap (d*2 ^ (min (u64.wrap k).toNat 64))).fdiv (2 ^ (min (32:Int).toNat 64)))))*((u64.wrap (d*2 ^ (min (u64.wrap k).toNat 64))).fdiv (2 ^ (min (32:Int).toNat 64))))))))] j)))
variable{a b d K w}
theorem aT.of(h:aT.W a b d K w):bf prog 162 #[.int .u64 a,.int .u64 b,.int .u64 d] w K:=
 rqq func162 (C:=aT.k) h
end
section
variable(a b c d e f g i j k m:Int)(Q:aM)(w:World)
def aT.B1:Prop:=
 Split (decide (k>=(4294967296:Int))) (Split (decide ((u64.wrap (m+e))>=(4294967296:Int))) (Q (.exit 0) [(2,.int .u64 a),(6,.int .u64 b),(7,.int .u64 c),(8,.int .u64 d),(9,.int .u64 e),(10,.int .u64 f),(11,.int .u64 g),(13,.int .u64 i),(14,.int .u64 j),(15,.int .u64 (u64.wrap (k-(1:Int)))),(16,.int .u64 (u64.wrap (m+e)))] w) (Q .normal [(2,.int .u64 a),(6,.int .u64 b),(7,.int .u64 c),(8,.int .u64 d),(9,.int .u64 e),(10,.int .u64 f),(11,.int .u64 g),(13,.int .u64 i),(14,.int .u64 j),(15,.int .u64 (u64.wrap (k-(1:Int)))),(16,.int .u64 (u64.wrap (m+e)))] w)) (Split (decide ((u64.wrap (k*f))>(u64.wrap ((u64.wrap ((4294967296:Int)*m))+i)))) (Split (decide ((u64.wrap (m+e))>=(4294967296:Int))) (Q (.exit 0) [(2,.int .u64 a),(6,.int .u64 b),(7,.int .u64 c),(8,.int .u64 d),(9,.int .u64 e),(10,.int .u64 f),(11,.int .u64 g),(13,.int .u64 i),(14,.int .u64 j),(15,.int .u64 (u64.wrap (k-(1:Int)))),(16,.int .u64 (u64.wrap (m+e)))] w) (Q .normal [(2,.int .u64 a),(6,.int .u64 b),(7,.int .u64 c),(8,.int .u64 d),(9,.int .u64 e),(10,.int .u64 f),(11,.int .u64 g),(13,.int .u64 i),(14,.int .u64 j),(15,.int .u64 (u64.wrap (k-(1:Int)))),(16,.int .u64 (u64.wrap (m+e)))] w)) (Q (.exit 0) [(2,.int .u64 a),(6,.int .u64 b),(7,.int .u64 c),(8,.int .u64 d),(9,.int .u64 e),(10,.int .u64 f),(11,.int .u64 g),(13,.int .u64 i),(14,.int .u64 j),(15,.int .u64 k),(16,.int .u64 m)] w))
theorem aT.b1:(a8 none [] prog 135 aT.k (lB (bB (sL (dW (cS (aZ (body f162))))))) aT.u1 Q [(2,.int .u64 a),(6,.int .u64 b),(7,.int .u64 c),(8,.int .u64 d),(9,.int .u64 e),(10,.int .u64 f),(11,.int .u64 g),(13,.int .u64 i),(14,.int .u64 j),(15,.int .u64 k),(16,.int .u64 m)] w)=aT.B1 a b c d e f g i j k m Q w:=by kernel_rfl
variable{a b c d e f g i j}
theorem aT.b9(I:Int×Int->World->Prop)(μ:Int×Int->World->Nat)(s:Int×Int){Q:aM}{w:World}(h0:I s w)
 (round:∀s w,I s w->aT.B1 a b c d e f g i j (s.1) (s.2) (bS (aT.e1 a b c d e f g i j) I μ s w Q) w):Holds none [] prog 135 (.loop (lB (bB (sL (dW (cS (aZ (body f162)))))))) Q (aT.e1 a b c d e f g i j s) w:=
 br ng mix (aT.e1 a b c d e f g i j) I μ aT.k aT.u1 s (fun s Q w=>aT.B1 a b c d e f g i j (s.1) (s.2) Q w) (fun s Q w=>aT.b1 a b c d e f g i j (s.1) (s.2) Q w) h0 round
end
section
def aT.cU(a b c d e f g i j k m:Int)(K:KT)(w:World):Prop:=
 e≠0/\Holds none [] prog 135 (.loop (lB (bB (sL (dW (dW (aZ (body f162)))))))) (aT.q2 K) [(2,.int .u64 a),(6,.int .u64 b),(7,.int .u64 c),(8,.int .u64 d),(9,.int .u64 e),(10,.int .u64 f),(14,.int .u64 j),(15,.int .u64 k),(16,.int .u64 (u64.wrap ((u64.wrap ((u64.wrap ((u64.wrap (g*(4294967296:Int)))+i))-(u64.wrap (k*a))))-(u64.wrap ((u64.wrap ((u64.wrap ((u64.wrap ((u64.wrap (g*(4294967296:Int)))+i))-(u64.wrap (k*a)))).tdiv e))*e))))),(17,.int .u64 (u64.wrap ((u64.wrap ((u64.wrap (g*(4294967296:Int)))+i))-(u64.wrap (k*a))))),(18,.int .u64 (u64.wrap ((u64.wrap ((u64.wrap ((u64.wrap (g*(4294967296:Int)))+i))-(u64.wrap (k*a)))).tdiv e)))] w
variable(a b c d e f g i j k m:Int)(K:KT)(w:World)
theorem aT.dw:(aT.q1 K (.exit 0) [(2,.int .u64 a),(6,.int .u64 b),(7,.int .u64 c),(8,.int .u64 d),(9,.int .u64 e),(10,.int .u64 f),(11,.int .u64 g),(13,.int .u64 i),(14,.int .u64 j),(15,.int .u64 k),(16,.int .u64 m)] w)=aT.cU a b c d e f g i j k m K w:=by kernel_rfl
end
section
variable(a b c d e f g i j k m:Int)(Q:aM)(w:World)
def aT.B2:Prop:=
 Split (decide (m>=(4294967296:Int))) (Split (decide ((u64.wrap (j+e))>=(4294967296:Int))) (Q (.exit 2) [(2,.int .u64 a),(6,.int .u64 b),(7,.int .u64 c),(8,.int .u64 d),(9,.int .u64 e),(10,.int .u64 f),(14,.int .u64 g),(15,.int .u64 i),(16,.int .u64 (u64.wrap (j+e))),(17,.int .u64 k),(18,.int .u64 (u64.wrap (m-(1:Int))))] w) (Q .normal [(2,.int .u64 a),(6,.int .u64 b),(7,.int .u64 c),(8,.int .u64 d),(9,.int .u64 e),(10,.int .u64 f),(14,.int .u64 g),(15,.int .u64 i),(16,.int .u64 (u64.wrap (j+e))),(17,.int .u64 k),(18,.int .u64 (u64.wrap (m-(1:Int))))] w)) (Split (decide ((u64.wrap (m*f))>(u64.wrap ((u64.wrap ((4294967296:Int)*j))+g)))) (Split (decide ((u64.wrap (j+e))>=(4294967296:Int))) (Q (.exit 2) [(2,.int .u64 a),(6,.int .u64 b),(7,.int .u64 c),(8,.int .u64 d),(9,.int .u64 e),(10,.int .u64 f),(14,.int .u64 g),(15,.int .u64 i),(16,.int .u64 (u64.wrap (j+e))),(17,.int .u64 k),(18,.int .u64 (u64.wrap (m-(1:Int))))] w) (Q .normal [(2,.int .u64 a),(6,.int .u64 b),(7,.int .u64 c),(8,.int .u64 d),(9,.int .u64 e),(10,.int .u64 f),(14,.int .u64 g),(15,.int .u64 i),(16,.int .u64 (u64.wrap (j+e))),(17,.int .u64 k),(18,.int .u64 (u64.wrap (m-(1:Int))))] w)) (Q (.exit 2) [(2,.int .u64 a),(6,.int .u64 b),(7,.int .u64 c),(8,.int .u64 d),(9,.int .u64 e),(10,.int .u64 f),(14,.int .u64 g),(15,.int .u64 i),(16,.int .u64 j),(17,.int .u64 k),(18,.int .u64 m)] w))
theorem aT.b2:(a8 none [] prog 135 aT.k (lB (bB (sL (dW (dW (aZ (body f162))))))) aT.u2 Q [(2,.int .u64 a),(6,.int .u64 b),(7,.int .u64 c),(8,.int .u64 d),(9,.int .u64 e),(10,.int .u64 f),(14,.int .u64 g),(15,.int .u64 i),(16,.int .u64 j),(17,.int .u64 k),(18,.int .u64 m)] w)=aT.B2 a b c d e f g i j k m Q w:=by kernel_rfl
variable{a b c d e f g i k}
theorem aT.iK(I:Int×Int->World->Prop)(μ:Int×Int->World->Nat)(s:Int×Int){Q:aM}{w:World}(h0:I s w)
 (round:∀s w,I s w->aT.B2 a b c d e f g i (s.1) k (s.2) (bS (aT.e2 a b c d e f g i k) I μ s w Q) w):Holds none [] prog 135 (.loop (lB (bB (sL (dW (dW (aZ (body f162)))))))) Q (aT.e2 a b c d e f g i k s) w:=
 br ng mix (aT.e2 a b c d e f g i k) I μ aT.k aT.u2 s (fun s Q w=>aT.B2 a b c d e f g i (s.1) k (s.2) Q w) (fun s Q w=>aT.b2 a b c d e f g i (s.1) k (s.2) Q w) h0 round
end
section
def aT.jX(a b c d e f g i j k m:Int)(K:KT)(w:World):Prop:=
 0<=d/\K (.tuple #[.int .u64 (u64.wrap ((u64.wrap (i*(4294967296:Int)))+m)),.int .u64 ((u64.wrap ((u64.wrap ((u64.wrap (k*(4294967296:Int)))+g))-(u64.wrap (m*a)))).fdiv (2 ^ (min d.toNat 64)))]) w
variable(a b c d e f g i j k m:Int)(K:KT)(w:World)
theorem aT.lI:(aT.q2 K (.exit 2) [(2,.int .u64 a),(6,.int .u64 b),(7,.int .u64 c),(8,.int .u64 d),(9,.int .u64 e),(10,.int .u64 f),(14,.int .u64 g),(15,.int .u64 i),(16,.int .u64 j),(17,.int .u64 k),(18,.int .u64 m)] w)=aT.jX a b c d e f g i j k m K w:=by kernel_rfl
end
end Go.Proofs.YtfleamccglihoaaGreatDoor
