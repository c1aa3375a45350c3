import Derived.Test.YtnboahlopghcjaaGreatDoorProg
import Derived.Test.YtnboahlopghcjaaGreatDoorMA
import Derived.Test.YtnboahlopghcjaaGreatDoorMB
set_option linter.unusedVariables false
namespace Go.Proofs.YtnboahlopghcjaaGreatDoor
open Go.Proofs.Tryz
open Go Go.bp
def dm.k:List Nat:= []
section
variable(a:OA)(b:Int)(d:Int)(K:KT)(w:World)
def dm.W:Prop:=
 let e:=w.drew;aY prog 93 #[.pointer a,.int .i64 b] e fun f g=> ∃i:Bool,f=.bool i/\Split i (aY prog 93 #[.pointer a,.int .i64 d] g fun j k=> ∃m:Bool,j=.bool m/\Split m (Is a fun n:Addr=> ∃o:OA,∃p:Nat,∃q:Nat,k.cell? (n.add 0)=some (.slice o p q)/\(0<=d/\d<(p:Int))/\Is o fun r:Addr=> ∃t:Int,k.cell? ((r.add (d.toNat*5)).add 2)=some (.int .u64 t)/\Is a fun u:Addr=> ∃v:OA,∃x:Nat,∃y:Nat,k.cell? (u.add 0)=some (.slice v x y)/\(0<=b/\b<(x:Int))/\Is v fun z:Addr=> ∃a1:Int,k.cell? ((z.add (b.toNat*5)).add 2)=some (.int .u64 a1)/\Split (decide (t<=a1)) (Is a fun b1:Addr=> ∃c1:OA,∃d1:Nat,∃e1:Nat,k.cell? (b1.add 0)=some (.slice c1 d1 e1)/\(0<=b/\b<(d1:Int))/\Is c1 fun f1:Addr=> ∃g1:Int,k.cell? ((f1.add (b.toNat*5)).add 3)=some (.int .u64 g1)/\Is a fun i1:Addr=> ∃j1:OA,∃k1:Nat,∃m1:Nat,k.cell? (i1.add 0)=some (.slice j1 k1 m1)/\(0<=d/\d<(k1:Int))/\Is j1 fun n1:Addr=> ∃o1:Int,k.cell? ((n1.add (d.toNat*5)).add 3)=some (.int .u64 o1)/\K (.bool (decide (g1<=o1))) k) (K (.bool false) k)) (K (.bool false) k)) (K (.bool false) g)
variable{a b d K w}
theorem dm.of(h:dm.W a b d K w):aY prog 56 #[.pointer a,.int .i64 b,.int .i64 d] w K:=
 aH (C:=dm.k) (c:=body f56) ng mix func56 (by kernel_rfl) (by kernel_rfl) (by kernel_rfl) h
end
def cY.k:List Nat:= []
section
variable(K:KT)(w:World)
def cY.W:Prop:=
 5=5/\let a:=w.alloc (.cells #[.int .i64 (-1),.slice none 0 0,.int .u64 1,.int .u64 4611686018427387904,.int .u64 1] 140);let b:=a.alloc (.cells (#[.slice (some (⟨w.heap.size,0,none⟩:Addr)) 1 1,.int .i64 0]:AV) 143);K (.pointer (some (⟨a.heap.size,0,none⟩:Addr))) b
variable{K w}
theorem cY.of(h:cY.W K w):aY prog 65 #[] w K:=
 aH (C:=cY.k) (c:=body f65) ng mix func65 (by kernel_rfl) (by kernel_rfl) (by kernel_rfl) h
end
def dW.k:List Nat:= []
section
variable(a:OA)(b:Int)(K:KT)(w:World)
def dW.W:Prop:=
 aY prog 109 #[.pointer a,.int .i64 b] w fun d e=> ∃f:Int,d=.int .i64 f/\Split (f != (0:Int)) (K (.tuple #[.int .i64 0,.int .i64 f]) e) (Is a fun g:Addr=> ∃i:OA,∃j:Nat,∃k:Nat,e.cell? (g.add 0)=some (.slice i j k)/\Is a fun m:Addr=> ∃n:OA,∃o:Nat,∃p:Nat,e.cell? (m.add 0)=some (.slice n o p)/\5=5/\let q:=e.alloc (.cells #[.int .i64 b,.slice none 0 0,.int .u64 0,.int .u64 0,.int .u64 0] 140);∃(r:OA) (t u:Nat) (v:World),(Builtin.append_ #[141,141] 141 #[.slice n o p,.slice (some (⟨e.heap.size,0,none⟩:Addr)) 1 1]).run prog q=.ok (.slice r t u) v/\Is a fun x:Addr=>Wr v (x.add 0)/\let y:=v.setCell (x.add 0) (.slice r t u);let z:=y.drew;Is a fun a1:Addr=> ∃b1:OA,∃c1:Nat,∃d1:Nat,z.cell? (a1.add 0)=some (.slice b1 c1 d1)/\Is a fun e1:Addr=> ∃f1:OA,∃g1:Nat,∃i1:Nat,z.cell? (e1.add 0)=some (.slice f1 g1 i1)/\(0<=b/\b<(g1:Int))/\Is f1 fun j1:Addr=> ∃k1:OA,∃m1:Nat,∃n1:Nat,z.cell? ((j1.add (b.toNat*5)).add 1)=some (.slice k1 m1 n1)/\let o1:=z.alloc (.cells #[.int .i64 (j:Int)] 3);o1.cell? ((j1.add (b.toNat*5)).add 1)=some (.slice k1 m1 n1)/\o1.cell? (e1.add 0)=some (.slice f1 g1 i1)/\o1.cell? (a1.add 0)=some (.slice b1 c1 d1)/\ ∃(p1:OA) (q1 r1:Nat) (t1:World),(Builtin.append_ #[25,25] 25 #[.slice k1 m1 n1,.slice (some (⟨z.heap.size,0,none⟩:Addr)) 1 1]).run prog o1=.ok (.slice p1 q1 r1) t1/\t1.cell? (a1.add 0)=some (.slice b1 c1 d1)/\(0<=b/\b<(c1:Int))/\Is b1 fun u1:Addr=>Wr t1 ((u1.add (b.toNat*5)).add 1)/\let v1:=t1.setCell ((u1.add (b.toNat*5)).add 1) (.slice p1 q1 r1);aY prog 110 #[.pointer a,.int .i64 b] v1 fun x1 y1=> ∃z1:Int,x1=.int .u64 z1/\Split (decide (z1>(0:Int))) ((2:Int)≠0/\aY prog 111 #[.pointer a,.int .i64 (j:Int),.int .u64 (IntKind.u64.wrap ((IntKind.u64.wrap (z1+(1:Int))).tdiv (2:Int)))] y1 fun a2 b2=>a2=.tuple #[]/\K (.tuple #[.int .i64 (j:Int),.int .i64 0]) b2) (aY prog 112 #[.pointer a,.int .i64 b] y1 fun c2 d2=>c2=.tuple #[]/\K (.tuple #[.int .i64 (j:Int),.int .i64 0]) d2))
variable{a b K w}
theorem dW.of(h:dW.W a b K w):aY prog 82 #[.pointer a,.int .i64 b] w K:=
 aH (C:=dW.k) (c:=body f82) ng mix func82 (by kernel_rfl) (by kernel_rfl) (by kernel_rfl) h
end
def du.k:List Nat:= []
section
variable(a:OA)(b:Int)(K:KT)(w:World)
def du.W:Prop:=
 aY prog 109 #[.pointer a,.int .i64 b] w fun d e=> ∃f:Int,d=.int .i64 f/\Split (f==(0:Int)) (Split (b==(0:Int)) (Split ((6:Int) != (0:Int)) (K (.tuple #[.int .i64 0,.int .i64 6]) e) (Is a fun g:Addr=> ∃i:OA,∃j:Nat,∃k:Nat,e.cell? (g.add 0)=some (.slice i j k)/\(0<=b/\b<(j:Int))/\Is i fun m:Addr=> ∃n:Int,e.cell? ((m.add (b.toNat*5)).add 0)=some (.int .i64 n)/\K (.tuple #[.int .i64 n,.int .i64 0]) e)) (Split (f != (0:Int)) (K (.tuple #[.int .i64 0,.int .i64 f]) e) (Is a fun o:Addr=> ∃p:OA,∃q:Nat,∃r:Nat,e.cell? (o.add 0)=some (.slice p q r)/\(0<=b/\b<(q:Int))/\Is p fun t:Addr=> ∃u:Int,e.cell? ((t.add (b.toNat*5)).add 0)=some (.int .i64 u)/\K (.tuple #[.int .i64 u,.int .i64 0]) e))) (Split (f != (0:Int)) (K (.tuple #[.int .i64 0,.int .i64 f]) e) (Is a fun v:Addr=> ∃x:OA,∃y:Nat,∃z:Nat,e.cell? (v.add 0)=some (.slice x y z)/\(0<=b/\b<(y:Int))/\Is x fun a1:Addr=> ∃b1:Int,e.cell? ((a1.add (b.toNat*5)).add 0)=some (.int .i64 b1)/\K (.tuple #[.int .i64 b1,.int .i64 0]) e))
variable{a b K w}
theorem du.of(h:du.W a b K w):aY prog 90 #[.pointer a,.int .i64 b] w K:=
 aH (C:=du.k) (c:=body f90) ng mix func90 (by kernel_rfl) (by kernel_rfl) (by kernel_rfl) h
end
def fk.k:List Nat:= []
section
variable(a:OA)(b:Int)(K:KT)(w:World)
def fk.W:Prop:=
 Split (!(a).isNone) (Split (decide (b>=(0:Int))) (Is a fun d:Addr=> ∃e:OA,∃f:Nat,∃g:Nat,w.cell? (d.add 0)=some (.slice e f g)/\K (.bool (decide (b<(f:Int)))) w) (K (.bool false) w)) (K (.bool false) w)
variable{a b K w}
theorem fk.of(h:fk.W a b K w):aY prog 93 #[.pointer a,.int .i64 b] w K:=
 aH (C:=fk.k) (c:=body f93) ng mix func93 (by kernel_rfl) (by kernel_rfl) (by kernel_rfl) h
end
def dV.k:List Nat:= []
section
variable(a:OA)(b:Int)(K:KT)(w:World)
def dV.W:Prop:=
 Split ((a).isNone) (K (.int .i64 1) w) (Is a fun d:Addr=> ∃e:OA,∃f:Nat,∃g:Nat,w.cell? (d.add 0)=some (.slice e f g)/\Split ((f:Int)==(0:Int)) (K (.int .i64 1) w) (aY prog 93 #[.pointer a,.int .i64 b] w fun i j=> ∃k:Bool,i=.bool k/\Split (!k) (K (.int .i64 6) j) (K (.int .i64 0) j)))
variable{a b K w}
theorem dV.of(h:dV.W a b K w):aY prog 109 #[.pointer a,.int .i64 b] w K:=
 aH (C:=dV.k) (c:=body f109) ng mix func109 (by kernel_rfl) (by kernel_rfl) (by kernel_rfl) h
end
def dF.k:List Nat:= []
section
variable(a:OA)(b:Int)(K:KT)(w:World)
def dF.W:Prop:=
 let d:=w.drew;Is a fun e:Addr=> ∃f:OA,∃g:Nat,∃i:Nat,d.cell? (e.add 0)=some (.slice f g i)/\(0<=b/\b<(g:Int))/\Is f fun j:Addr=> ∃k:Int,d.cell? ((j.add (b.toNat*5)).add 3)=some (.int .u64 k)/\Is a fun m:Addr=> ∃n:OA,∃o:Nat,∃p:Nat,d.cell? (m.add 0)=some (.slice n o p)/\(0<=b/\b<(o:Int))/\Is n fun q:Addr=> ∃r:Int,d.cell? ((q.add (b.toNat*5)).add 4)=some (.int .u64 r)/\K (.int .u64 (IntKind.u64.wrap (k-r))) d
variable{a b K w}
theorem dF.of(h:dF.W a b K w):aY prog 110 #[.pointer a,.int .i64 b] w K:=
 aH (C:=dF.k) (c:=body f110) ng mix func110 (by kernel_rfl) (by kernel_rfl) (by kernel_rfl) h
end
def dG.k:List Nat:= []
section
variable(a:OA)(b:Int)(d:Int)(K:KT)(w:World)
def dG.W:Prop:=
 Is a fun e:Addr=> ∃f:OA,∃g:Nat,∃i:Nat,w.cell? (e.add 0)=some (.slice f g i)/\(0<=b/\b<(g:Int))/\Is f fun j:Addr=>let k:=w.drew;Is a fun m:Addr=> ∃n:OA,∃o:Nat,∃p:Nat,k.cell? (m.add 0)=some (.slice n o p)/\ ∃q:Int,k.cell? ((j.add (b.toNat*5)).add 0)=some (.int .i64 q)/\(0<=q/\q<(o:Int))/\Is n fun r:Addr=> ∃t:Int,k.cell? ((r.add (q.toNat*5)).add 4)=some (.int .u64 t)/\Wr k ((j.add (b.toNat*5)).add 2)/\let u:=k.setCell ((j.add (b.toNat*5)).add 2) (.int .u64 t);∃v:Int,u.cell? ((j.add (b.toNat*5)).add 2)=some (.int .u64 v)/\Wr u ((j.add (b.toNat*5)).add 3)/\let x:=u.setCell ((j.add (b.toNat*5)).add 3) (.int .u64 (IntKind.u64.wrap ((IntKind.u64.wrap (v+d))-(1:Int))));∃y:Int,x.cell? ((j.add (b.toNat*5)).add 2)=some (.int .u64 y)/\Wr x ((j.add (b.toNat*5)).add 4)/\let z:=x.setCell ((j.add (b.toNat*5)).add 4) (.int .u64 y);∃a1:Int,z.cell? ((r.add (q.toNat*5)).add 4)=some (.int .u64 a1)/\Wr z ((r.add (q.toNat*5)).add 4)/\let b1:=z.setCell ((r.add (q.toNat*5)).add 4) (.int .u64 (IntKind.u64.wrap (a1+d)));K (.tuple #[]) b1
variable{a b d K w}
theorem dG.of(h:dG.W a b d K w):aY prog 111 #[.pointer a,.int .i64 b,.int .u64 d] w K:=
 aH (C:=dG.k) (c:=body f111) ng mix func111 (by kernel_rfl) (by kernel_rfl) (by kernel_rfl) h
end
section
variable(a:OA)(K:KT)(w:World)
variable{a K w}
end
section
variable(a:OA)(b:Nat)(d:Nat)(K:KT)(w:World)
variable{a b d K w}
end
section
variable(a:OA)(b:Nat)(d:Nat)(K:KT)(w:World)
variable{a b d K w}
end
def bits_LeadingZeros64.k:List Nat:= []
section
variable(a:Int)(K:KT)(w:World)
def bits_LeadingZeros64.W:Prop:=
 aY prog 131 #[.int .u64 a] w fun b d=> ∃e:Int,b=.int .i64 e/\K (.int .i64 (IntKind.i64.wrap ((64:Int)-e))) d
variable{a K w}
theorem bits_LeadingZeros64.of(h:bits_LeadingZeros64.W a K w):aY prog 140 #[.int .u64 a] w K:=
 aH (C:=bits_LeadingZeros64.k) (c:=body f140) ng mix func140 (by kernel_rfl) (by kernel_rfl) (by kernel_rfl) h
end
end Go.Proofs.YtnboahlopghcjaaGreatDoor
namespace Go.Proofs.YtnboahlopghcjaaGreatDoor
open Go.Proofs.Tryz
open Go Go.bp
def jg.k:List Nat:= []
def jg.q1(K:KT):aJ:=(aK 0 (bY (sR (sR (sR (sR (body f95)))))++(aO f95)) (bN (fun bS w_=>match cutAt jg.k (sR (sR (sR (sR (body f95)))))with|true=>Holds none [] prog 45 (sR (sR (sR (sR (body f95))))) (bG prog f95 K) bS w_|false=>aT none [] prog 45 jg.k (sR (sR (sR (sR (body f95))))) (aO f95) (bG prog f95 K) bS w_) (bG prog f95 K)))
section
variable(a:OA)(K:KT)(w:World)
variable{a K w}
end
section
variable(a:OA)(b:Addr)(c:Int)(d:Int)(Q:aJ)(w:World)
variable{a b c}
end
section
variable(a:OA)(b:Addr)(c:Int)(d:Int)(K:KT)(w:World)
end
def aq.k:List Nat:= []
def aq.q1(K:KT):aJ:=(aK 0 (bY (sR (sR (sR (body f112))))++(aO f112)) (bN (fun bS w_=>match cutAt aq.k (sR (sR (sR (body f112))))with|true=>Holds none [] prog 164 (sR (sR (sR (body f112)))) (bG prog f112 K) bS w_|false=>aT none [] prog 164 aq.k (sR (sR (sR (body f112)))) (aO f112) (bG prog f112 K) bS w_) (bG prog f112 K)))
def aq.e1(a:OA)(b:OA)(c:Nat)(d:Nat)(s:Int):Env:= [(0,.pointer a),(1,.int .i64 s),(4,.slice b c d)]
def aq.u1:List Nat:= [0,1,4]
def aq.q2(K:KT):aJ:=(aK 2 (aO f112) (bG prog f112 K))
def aq.e2(a:OA)(b:OA)(c:Nat)(d:Nat)(s:(OA)×Nat×Nat×Int):Env:= [(0,.pointer a),(4,.slice b c d),(5,.slice s.1 s.2.1 s.2.2.1),(6,.int .i64 s.2.2.2)]
def aq.u2:List Nat:= [0,4,5,6]
def aq.q3(Q:aJ):aJ:=(aK 4 (bY (sR (sR (lB (bB (sR (sR (sR (sR (sR (body f112))))))))))++aq.u2) (aK 3 (bY (sR (sR (lB (bB (sR (sR (sR (sR (sR (body f112))))))))))++aq.u2) (bN (fun bS w_=>match cutAt aq.k (sR (sR (lB (bB (sR (sR (sR (sR (sR (body f112))))))))))with|true=>Holds none [] prog 164 (sR (sR (lB (bB (sR (sR (sR (sR (sR (body f112)))))))))) Q bS w_|false=>aT none [] prog 164 aq.k (sR (sR (lB (bB (sR (sR (sR (sR (sR (body f112)))))))))) aq.u2 Q bS w_) Q)))
def aq.e3(a:OA)(b:OA)(c:Nat)(d:Nat)(e:Int)(f:Int)(g:Int)(i:OA)(j:Nat)(k:Nat)(m:Int)(s:(OA)×Nat×Nat×Int):Env:= [(0,.pointer a),(4,.slice b c d),(5,.slice s.1 s.2.1 s.2.2.1),(6,.int .i64 e),(7,.int .i64 f),(8,.int .u64 g),(124,.slice i j k),(125,.int .i64 m),(126,.int .i64 s.2.2.2)]
def aq.u3:List Nat:= [0,4,5,6,7,8,124,125,126]
section
variable(a:OA)(b:Int)(K:KT)(w:World)
def aq.W:Prop:=
 Is a fun d:Addr=> ∃e:Int,w.cell? (d.add 1)=some (.int .i64 e)/\Is a fun f:Addr=>Wr w (f.add 1)/\let g:=w.setCell (f.add 1) (.int .i64 (IntKind.i64.wrap (e+(1:Int))));aY prog 132 #[.pointer a] g fun i j=> ∃k:OA,∃m:Nat,∃n:Nat,i=.slice k m n/\Holds none [] prog 164 (.loop (lB (bB (sL (sR (sR (body f112))))))) (aq.q1 K) [(0,.pointer a),(1,.int .i64 b),(4,.slice k m n)] j
variable{a b K w}
theorem aq.of(h:aq.W a b K w):aY prog 112 #[.pointer a,.int .i64 b] w K:=
 aH (C:=aq.k) (c:=body f112) ng mix func112 (by kernel_rfl) (by kernel_rfl) (by kernel_rfl) h
end
section
variable(a:OA)(b:Int)(c:OA)(d:Nat)(e:Nat)(Q:aJ)(w:World)
def aq.B1:Prop:=
 let f:=w.drew;Is a fun g:Addr=> ∃i:OA,∃j:Nat,∃k:Nat,f.cell? (g.add 0)=some (.slice i j k)/\(0<=b/\b<(j:Int))/\Is i fun m:Addr=> ∃n:Int,f.cell? ((m.add (b.toNat*5)).add 0)=some (.int .i64 n)/\Split (decide (n>=(0:Int))) (Is a fun o:Addr=> ∃p:OA,∃q:Nat,∃r:Nat,f.cell? (o.add 0)=some (.slice p q r)/\(0<=b/\b<(q:Int))/\Is p fun t:Addr=> ∃u:Int,f.cell? ((t.add (b.toNat*5)).add 3)=some (.int .u64 u)/\Is a fun v:Addr=> ∃x:OA,∃y:Nat,∃z:Nat,f.cell? (v.add 0)=some (.slice x y z)/\(0<=b/\b<(y:Int))/\Is x fun a1:Addr=> ∃b1:Int,f.cell? ((a1.add (b.toNat*5)).add 2)=some (.int .u64 b1)/\(4:Int)≠0/\(0<=b/\b<(d:Int))/\Is c fun c1:Addr=> ∃d1:Int,f.cell? (c1.add (b.toNat*1))=some (.int .u64 d1)/\Split (decide ((IntKind.u64.wrap ((IntKind.u64.wrap ((IntKind.u64.wrap (u-b1))+(1:Int))).tdiv (4:Int)))<d1)) (Is a fun e1:Addr=> ∃f1:OA,∃g1:Nat,∃i1:Nat,f.cell? (e1.add 0)=some (.slice f1 g1 i1)/\(0<=b/\b<(g1:Int))/\Is f1 fun j1:Addr=> ∃k1:Int,f.cell? ((j1.add (b.toNat*5)).add 0)=some (.int .i64 k1)/\Q .normal [(0,.pointer a),(1,.int .i64 k1),(4,.slice c d e)] f) (Q (.exit 0) [(0,.pointer a),(1,.int .i64 b),(4,.slice c d e)] f)) (Q (.exit 0) [(0,.pointer a),(1,.int .i64 b),(4,.slice c d e)] f)
theorem aq.b1:(aT none [] prog 164 aq.k (lB (bB (sL (sR (sR (body f112)))))) aq.u1 Q [(0,.pointer a),(1,.int .i64 b),(4,.slice c d e)] w)=aq.B1 a b c d e Q w:=by kernel_rfl
variable{a c d e}
theorem aq.bU(I:Int->World->Prop)(μ:Int->World->Nat)(s:Int){Q:aJ}{w:World}(h0:I s w)
 (round: ∀s w,I s w->aq.B1 a s c d e (bF (aq.e1 a c d e) I μ s w Q) w):Holds none [] prog 164 (.loop (lB (bB (sL (sR (sR (body f112))))))) Q (aq.e1 a c d e s) w:=
 ba ng mix (aq.e1 a c d e) I μ aq.k aq.u1 s (fun s Q w=>aq.B1 a s c d e Q w) (fun s Q w=>aq.b1 a s c d e Q w) h0 round
end
section
variable(a:OA)(b:Int)(c:OA)(d:Nat)(e:Nat)(K:KT)(w:World)
def aq.cW:Prop:=
 let f:=w.alloc (.cells #[.int .i64 b] 3);Holds none [] prog 164 (.loop (lB (bB (sR (sR (sR (sR (sR (body f112))))))))) (aq.q2 K) [(0,.pointer a),(4,.slice c d e),(5,.slice (some (⟨w.heap.size,0,none⟩:Addr)) 1 1),(6,.int .i64 0)] f
theorem aq.dD:(aq.q1 K (.exit 0) [(0,.pointer a),(1,.int .i64 b),(4,.slice c d e)] w)=aq.cW a b c d e K w:=by kernel_rfl
end
section
variable(a:OA)(b:OA)(c:Nat)(d:Nat)(e:OA)(f:Nat)(g:Nat)(i:Int)(Q:aJ)(w:World)
def aq.B2:Prop:=
 Split (decide (i<(f:Int))) ((0<=i/\i<(f:Int))/\Is e fun j:Addr=> ∃k:Int,w.cell? (j.add (i.toNat*1))=some (.int .i64 k)/\let m:=w.drew;Is a fun n:Addr=> ∃o:OA,∃p:Nat,∃q:Nat,m.cell? (n.add 0)=some (.slice o p q)/\Is a fun r:Addr=> ∃t:OA,∃u:Nat,∃v:Nat,m.cell? (r.add 0)=some (.slice t u v)/\(0<=k/\k<(u:Int))/\Is t fun x:Addr=> ∃y:Int,m.cell? ((x.add (k.toNat*5)).add 2)=some (.int .u64 y)/\(0<=k/\k<(p:Int))/\Is o fun z:Addr=>Wr m ((z.add (k.toNat*5)).add 4)/\let a1:=m.setCell ((z.add (k.toNat*5)).add 4) (.int .u64 y);let b1:=a1.drew;Is a fun c1:Addr=> ∃d1:OA,∃e1:Nat,∃f1:Nat,b1.cell? (c1.add 0)=some (.slice d1 e1 f1)/\(0<=k/\k<(e1:Int))/\Is d1 fun g1:Addr=> ∃i1:Int,b1.cell? ((g1.add (k.toNat*5)).add 3)=some (.int .u64 i1)/\Is a fun j1:Addr=> ∃k1:OA,∃m1:Nat,∃n1:Nat,b1.cell? (j1.add 0)=some (.slice k1 m1 n1)/\(0<=k/\k<(m1:Int))/\Is k1 fun o1:Addr=> ∃p1:Int,b1.cell? ((o1.add (k.toNat*5)).add 2)=some (.int .u64 p1)/\(0<=k/\k<(c:Int))/\Is b fun q1:Addr=> ∃r1:Int,b1.cell? (q1.add (k.toNat*1))=some (.int .u64 r1)/\Is a fun t1:Addr=> ∃u1:OA,∃v1:Nat,∃x1:Nat,b1.cell? (t1.add 0)=some (.slice u1 v1 x1)/\(0<=k/\k<(v1:Int))/\Is u1 fun y1:Addr=> ∃z1:OA,∃a2:Nat,∃b2:Nat,b1.cell? ((y1.add (k.toNat*5)).add 1)=some (.slice z1 a2 b2)/\Holds none [] prog 164 (.loop (lB (bB (sR (sR (sR (sR (bB (sL (sR (lB (bB (sR (sR (sR (sR (sR (body f112)))))))))))))))))) (aq.q3 Q) [(0,.pointer a),(4,.slice b c d),(5,.slice e f g),(6,.int .i64 i),(7,.int .i64 k),(8,.int .u64 (IntKind.u64.wrap ((IntKind.u64.wrap (i1-p1))-(IntKind.u64.wrap (r1-(1:Int)))))),(124,.slice z1 a2 b2),(125,.int .i64 (a2:Int)),(126,.int .i64 0)] b1) (Q (.exit 2) [(0,.pointer a),(4,.slice b c d),(5,.slice e f g),(6,.int .i64 i)] w)
theorem aq.b2:(aT none [] prog 164 aq.k (lB (bB (sR (sR (sR (sR (sR (body f112)))))))) aq.u2 Q [(0,.pointer a),(4,.slice b c d),(5,.slice e f g),(6,.int .i64 i)] w)=aq.B2 a b c d e f g i Q w:=by kernel_rfl
variable{a b c d}
theorem aq.gz(I:(OA)×Nat×Nat×Int->World->Prop)(μ:(OA)×Nat×Nat×Int->World->Nat)(s:(OA)×Nat×Nat×Int){Q:aJ}{w:World}(h0:I s w)
 (round: ∀s w,I s w->aq.B2 a b c d (s.1) (s.2.1) (s.2.2.1) (s.2.2.2) (bF (aq.e2 a b c d) I μ s w Q) w):Holds none [] prog 164 (.loop (lB (bB (sR (sR (sR (sR (sR (body f112))))))))) Q (aq.e2 a b c d s) w:=
 ba ng mix (aq.e2 a b c d) I μ aq.k aq.u2 s (fun s Q w=>aq.B2 a b c d (s.1) (s.2.1) (s.2.2.1) (s.2.2.2) Q w) (fun s Q w=>aq.b2 a b c d (s.1) (s.2.1) (s.2.2.1) (s.2.2.2) Q w) h0 round
end
section
def aq.iS(a:OA)(b:OA)(c:Nat)(d:Nat)(e:OA)(f:Nat)(g:Nat)(i:Int)(K:KT)(w:World):Prop:=
 K (.tuple #[]) w
variable(a:OA)(b:OA)(c:Nat)(d:Nat)(e:OA)(f:Nat)(g:Nat)(i:Int)(K:KT)(w:World)
theorem aq.jI:(aq.q2 K (.exit 2) [(0,.pointer a),(4,.slice b c d),(5,.slice e f g),(6,.int .i64 i)] w)=aq.iS a b c d e f g i K w:=by kernel_rfl
end
section
variable(a:OA)(b:OA)(c:Nat)(d:Nat)(e:OA)(f:Nat)(g:Nat)(i:Int)(j:Int)(k:Int)(m:OA)(n:Nat)(o:Nat)(p:Int)(q:Int)(Q:aJ)(w:World)
def aq.B3:Prop:=
 Split (decide (q<p)) ((0<=q/\q<(n:Int))/\Is m fun r:Addr=> ∃t:Int,w.cell? (r.add (q.toNat*1))=some (.int .i64 t)/\(2:Int)≠0/\(0<=t/\t<(c:Int))/\Is b fun u:Addr=> ∃v:Int,w.cell? (u.add (t.toNat*1))=some (.int .u64 v)/\aY prog 133 #[.int .u64 (IntKind.u64.wrap (k.tdiv (2:Int))),.int .u64 v] w fun x y=> ∃z:Int,∃a1:Int,x=.tuple #[.int .u64 z,.int .u64 a1]/\(0<=j/\j<(c:Int))/\Is b fun b1:Addr=> ∃c1:Int,y.cell? (b1.add (j.toNat*1))=some (.int .u64 c1)/\aY prog 134 #[.int .u64 z,.int .u64 a1,.int .u64 c1] y fun d1 e1=> ∃f1:Int,∃g1:Int,d1=.tuple #[.int .u64 f1,.int .u64 g1]/\(0<=t/\t<(c:Int))/\Is b fun i1:Addr=> ∃j1:Int,e1.cell? (i1.add (t.toNat*1))=some (.int .u64 j1)/\aY prog 111 #[.pointer a,.int .i64 t,.int .u64 (IntKind.u64.wrap (j1+f1))] e1 fun k1 m1=>k1=.tuple #[]/\let n1:=m1.alloc (.cells #[.int .i64 t] 3);∃(o1:OA) (p1 q1:Nat) (r1:World),(Builtin.append_ #[25,25] 25 #[.slice e f g,.slice (some (⟨m1.heap.size,0,none⟩:Addr)) 1 1]).run prog n1=.ok (.slice o1 p1 q1) r1/\Q .normal [(0,.pointer a),(4,.slice b c d),(5,.slice o1 p1 q1),(6,.int .i64 i),(7,.int .i64 j),(8,.int .u64 k),(124,.slice m n o),(125,.int .i64 p),(126,.int .i64 (IntKind.i64.wrap (q+(1:Int))))] r1) (Q (.exit 4) [(0,.pointer a),(4,.slice b c d),(5,.slice e f g),(6,.int .i64 i),(7,.int .i64 j),(8,.int .u64 k),(124,.slice m n o),(125,.int .i64 p),(126,.int .i64 q)] w)
theorem aq.b3:(aT none [] prog 164 aq.k (lB (bB (sR (sR (sR (sR (bB (sL (sR (lB (bB (sR (sR (sR (sR (sR (body f112))))))))))))))))) aq.u3 Q [(0,.pointer a),(4,.slice b c d),(5,.slice e f g),(6,.int .i64 i),(7,.int .i64 j),(8,.int .u64 k),(124,.slice m n o),(125,.int .i64 p),(126,.int .i64 q)] w)=aq.B3 a b c d e f g i j k m n o p q Q w:=by kernel_rfl
variable{a b c d i j k m n o p}
theorem aq.uU(I:(OA)×Nat×Nat×Int->World->Prop)(μ:(OA)×Nat×Nat×Int->World->Nat)(s:(OA)×Nat×Nat×Int){Q:aJ}{w:World}(h0:I s w)
 (round: ∀s w,I s w->aq.B3 a b c d (s.1) (s.2.1) (s.2.2.1) i j k m n o p (s.2.2.2) (bF (aq.e3 a b c d i j k m n o p) I μ s w Q) w):Holds none [] prog 164 (.loop (lB (bB (sR (sR (sR (sR (bB (sL (sR (lB (bB (sR (sR (sR (sR (sR (body f112)))))))))))))))))) Q (aq.e3 a b c d i j k m n o p s) w:=
 ba ng mix (aq.e3 a b c d i j k m n o p) I μ aq.k aq.u3 s (fun s Q w=>aq.B3 a b c d (s.1) (s.2.1) (s.2.2.1) i j k m n o p (s.2.2.2) Q w) (fun s Q w=>aq.b3 a b c d (s.1) (s.2.1) (s.2.2.1) i j k m n o p (s.2.2.2) Q w) h0 round
end
section
def aq.xz(a:OA)(b:OA)(c:Nat)(d:Nat)(e:OA)(f:Nat)(g:Nat)(i:Int)(j:Int)(k:Int)(m:OA)(n:Nat)(o:Nat)(p:Int)(q:Int)(Q:aJ)(w:World):Prop:=
 Q .normal [(0,.pointer a),(4,.slice b c d),(5,.slice e f g),(6,.int .i64 (IntKind.i64.wrap (i+(1:Int))))] w
variable(a:OA)(b:OA)(c:Nat)(d:Nat)(e:OA)(f:Nat)(g:Nat)(i:Int)(j:Int)(k:Int)(m:OA)(n:Nat)(o:Nat)(p:Int)(q:Int)(Q:aJ)(w:World)
theorem aq.Aw:(aq.q3 Q (.exit 4) [(0,.pointer a),(4,.slice b c d),(5,.slice e f g),(6,.int .i64 i),(7,.int .i64 j),(8,.int .u64 k),(124,.slice m n o),(125,.int .i64 p),(126,.int .i64 q)] w)=aq.xz a b c d e f g i j k m n o p q Q w:=by kernel_rfl
end
def aV.k:List Nat:= []
def aV.q1(K:KT):aJ:=(aK 0 (bY (sR (sR (sR (body f132))))++(aO f132)) (bN (fun bS w_=>match cutAt aV.k (sR (sR (sR (body f132))))with|true=>Holds none [] prog 57 (sR (sR (sR (body f132)))) (bG prog f132 K) bS w_|false=>aT none [] prog 57 aV.k (sR (sR (sR (body f132)))) (aO f132) (bG prog f132 K) bS w_) (bG prog f132 K)))
def aV.e1(a:OA)(b:OA)(c:Nat)(d:Nat)(e:OA)(f:Nat)(g:Nat)(i:Int)(s:Int):Env:= [(0,.pointer a),(2,.slice b c d),(3,.slice e f g),(17,.int .i64 i),(18,.int .i64 s)]
def aV.u1:List Nat:= [0,2,3,17,18]
section
variable(a:OA)(K:KT)(w:World)
def aV.W:Prop:=
 Is a fun b:Addr=> ∃d:OA,∃e:Nat,∃f:Nat,w.cell? (b.add 0)=some (.slice d e f)/\ ∃(g:OA) (i j:Nat) (k:World),(Instr.makeSlice 147 (.int .i64 (e:Int)) (.int .i64 (e:Int))).run prog w=.ok (.slice g i j) k/\Is a fun m:Addr=> ∃n:OA,∃o:Nat,∃p:Nat,k.cell? (m.add 0)=some (.slice n o p)/\Holds none [] prog 57 (.loop (lB (bB (sR (sL (sR (sR (body f132)))))))) (aV.q1 K) [(0,.pointer a),(2,.slice none 0 0),(3,.slice g i j),(17,.int .i64 (o:Int)),(18,.int .i64 0)] k
variable{a K w}
theorem aV.of(h:aV.W a K w):aY prog 132 #[.pointer a] w K:=
 aH (C:=aV.k) (c:=body f132) ng mix func132 (by kernel_rfl) (by kernel_rfl) (by kernel_rfl) h
end
section
variable(a:OA)(b:OA)(c:Nat)(d:Nat)(e:OA)(f:Nat)(g:Nat)(i:Int)(j:Int)(Q:aJ)(w:World)
def aV.B1:Prop:=
 Split (decide (j<i)) (Is a fun k:Addr=> ∃m:OA,∃n:Nat,∃o:Nat,w.cell? (k.add 0)=some (.slice m n o)/\(0<=(IntKind.i64.wrap ((IntKind.i64.wrap ((n:Int)-(1:Int)))-j))/\(IntKind.i64.wrap ((IntKind.i64.wrap ((n:Int)-(1:Int)))-j))<(f:Int))/\Is e fun p:Addr=> ∃q:Int,w.cell? (p.add ((IntKind.i64.wrap ((IntKind.i64.wrap ((n:Int)-(1:Int)))-j)).toNat*1))=some (.int .u64 q)/\(0<=(IntKind.i64.wrap ((IntKind.i64.wrap ((n:Int)-(1:Int)))-j))/\(IntKind.i64.wrap ((IntKind.i64.wrap ((n:Int)-(1:Int)))-j))<(f:Int))/\Is e fun r:Addr=>Wr w (r.add ((IntKind.i64.wrap ((IntKind.i64.wrap ((n:Int)-(1:Int)))-j)).toNat*1))/\let t:=w.setCell (r.add ((IntKind.i64.wrap ((IntKind.i64.wrap ((n:Int)-(1:Int)))-j)).toNat*1)) (.int .u64 (IntKind.u64.wrap (q+(1:Int))));Is a fun u:Addr=> ∃v:OA,∃x:Nat,∃y:Nat,t.cell? (u.add 0)=some (.slice v x y)/\(0<=(IntKind.i64.wrap ((IntKind.i64.wrap ((n:Int)-(1:Int)))-j))/\(IntKind.i64.wrap ((IntKind.i64.wrap ((n:Int)-(1:Int)))-j))<(x:Int))/\Is v fun z:Addr=> ∃a1:Int,t.cell? ((z.add ((IntKind.i64.wrap ((IntKind.i64.wrap ((n:Int)-(1:Int)))-j)).toNat*5)).add 0)=some (.int .i64 a1)/\Split (decide (a1>=(0:Int))) (let b1:=t.drew;(0<=a1/\a1<(f:Int))/\Is e fun c1:Addr=> ∃d1:Int,b1.cell? (c1.add (a1.toNat*1))=some (.int .u64 d1)/\(0<=(IntKind.i64.wrap ((IntKind.i64.wrap ((n:Int)-(1:Int)))-j))/\(IntKind.i64.wrap ((IntKind.i64.wrap ((n:Int)-(1:Int)))-j))<(f:Int))/\Is e fun e1:Addr=> ∃f1:Int,b1.cell? (e1.add ((IntKind.i64.wrap ((IntKind.i64.wrap ((n:Int)-(1:Int)))-j)).toNat*1))=some (.int .u64 f1)/\(0<=a1/\a1<(f:Int))/\Is e fun g1:Addr=>Wr b1 (g1.add (a1.toNat*1))/\let i1:=b1.setCell (g1.add (a1.toNat*1)) (.int .u64 (IntKind.u64.wrap (d1+f1)));Q .normal [(0,.pointer a),(2,.slice b c d),(3,.slice e f g),(17,.int .i64 i),(18,.int .i64 (IntKind.i64.wrap (j+(1:Int))))] i1) (Q .normal [(0,.pointer a),(2,.slice b c d),(3,.slice e f g),(17,.int .i64 i),(18,.int .i64 (IntKind.i64.wrap (j+(1:Int))))] t)) (Q (.exit 0) [(0,.pointer a),(2,.slice b c d),(3,.slice e f g),(17,.int .i64 i),(18,.int .i64 j)] w)
theorem aV.b1:(aT none [] prog 57 aV.k (lB (bB (sR (sL (sR (sR (body f132))))))) aV.u1 Q [(0,.pointer a),(2,.slice b c d),(3,.slice e f g),(17,.int .i64 i),(18,.int .i64 j)] w)=aV.B1 a b c d e f g i j Q w:=by kernel_rfl
variable{a b c d e f g i}
theorem aV.bU(I:Int->World->Prop)(μ:Int->World->Nat)(s:Int){Q:aJ}{w:World}(h0:I s w)
 (round: ∀s w,I s w->aV.B1 a b c d e f g i s (bF (aV.e1 a b c d e f g i) I μ s w Q) w):Holds none [] prog 57 (.loop (lB (bB (sR (sL (sR (sR (body f132)))))))) Q (aV.e1 a b c d e f g i s) w:=
 ba ng mix (aV.e1 a b c d e f g i) I μ aV.k aV.u1 s (fun s Q w=>aV.B1 a b c d e f g i s Q w) (fun s Q w=>aV.b1 a b c d e f g i s Q w) h0 round
end
section
def aV.cW(a:OA)(b:OA)(c:Nat)(d:Nat)(e:OA)(f:Nat)(g:Nat)(i:Int)(j:Int)(K:KT)(w:World):Prop:=
 K (.slice e f g) w
variable(a:OA)(b:OA)(c:Nat)(d:Nat)(e:OA)(f:Nat)(g:Nat)(i:Int)(j:Int)(K:KT)(w:World)
theorem aV.dD:(aV.q1 K (.exit 0) [(0,.pointer a),(2,.slice b c d),(3,.slice e f g),(17,.int .i64 i),(18,.int .i64 j)] w)=aV.cW a b c d e f g i j K w:=by kernel_rfl
end
section
variable(a:Int)(b:Int)(K:KT)(w:World)
variable{a b K w}
end
def aM.k:List Nat:= []
def aM.q1(K:KT):aJ:=(aK 0 (bY (sR (sR (sR (sR (sR (sR (sR (sR (sR (sR (sR (sR (sR (sR (sR (body f134))))))))))))))))++(aO f134)) (bN (fun bS w_=>match cutAt aM.k (sR (sR (sR (sR (sR (sR (sR (sR (sR (sR (sR (sR (sR (sR (sR (body f134))))))))))))))))with|true=>Holds none [] prog 135 (sR (sR (sR (sR (sR (sR (sR (sR (sR (sR (sR (sR (sR (sR (sR (body f134)))))))))))))))) (bG prog f134 K) bS w_|false=>aT none [] prog 135 aM.k (sR (sR (sR (sR (sR (sR (sR (sR (sR (sR (sR (sR (sR (sR (sR (body f134)))))))))))))))) (aO f134) (bG prog f134 K) bS w_) (bG prog f134 K)))
def aM.e1(a:Int)(b:Int)(c:Int)(d:Int)(e:Int)(f:Int)(g:Int)(i:Int)(j:Int)(s:Int×Int):Env:= [(2,.int .u64 a),(6,.int .u64 b),(7,.int .u64 c),(8,.int .u64 d),(9,.int .u64 e),(10,.int .u64 f),(11,.int .u64 g),(13,.int .u64 i),(14,.int .u64 j),(15,.int .u64 s.1),(16,.int .u64 s.2)]
def aM.u1:List Nat:= [2,6,7,8,9,10,11,13,14,15,16]
def aM.q2(K:KT):aJ:=(aK 2 (bY (sR (sR (sR (sR (sR (sR (sR (sR (sR (sR (sR (sR (sR (sR (sR (sR (sR (sR (sR (body f134))))))))))))))))))))++(aO f134)) (bN (fun bS w_=>match cutAt aM.k (sR (sR (sR (sR (sR (sR (sR (sR (sR (sR (sR (sR (sR (sR (sR (sR (sR (sR (sR (body f134))))))))))))))))))))with|true=>Holds none [] prog 135 (sR (sR (sR (sR (sR (sR (sR (sR (sR (sR (sR (sR (sR (sR (sR (sR (sR (sR (sR (body f134)))))))))))))))))))) (bG prog f134 K) bS w_|false=>aT none [] prog 135 aM.k (sR (sR (sR (sR (sR (sR (sR (sR (sR (sR (sR (sR (sR (sR (sR (sR (sR (sR (sR (body f134)))))))))))))))))))) (aO f134) (bG prog f134 K) bS w_) (bG prog f134 K)))
def aM.e2(a:Int)(b:Int)(c:Int)(d:Int)(e:Int)(f:Int)(g:Int)(i:Int)(j:Int)(s:Int×Int):Env:= [(2,.int .u64 a),(6,.int .u64 b),(7,.int .u64 c),(8,.int .u64 d),(9,.int .u64 e),(10,.int .u64 f),(14,.int .u64 g),(15,.int .u64 i),(16,.int .u64 s.1),(17,.int .u64 j),(18,.int .u64 s.2)]
def aM.u2:List Nat:= [2,6,7,8,9,10,14,15,16,17,18]
section
variable(a:Int)(b:Int)(d:Int)(K:KT)(w:World)
def aM.W:Prop:=
 Split (d==(0:Int)) (∃e:Value,w.cell? (⟨2,0,none⟩:Addr)=some (e)/\False) (Split (decide (d<=a)) (∃f:Value,w.cell? (⟨3,0,none⟩:Addr)=some (f)/\False) (Split (a==(0:Int)) (let g:=w.drew;d≠0/\d≠0/\K (.tuple #[.int .u64 (IntKind.u64.wrap (b.tdiv d)),.int .u64 (b.tmod d)]) g) (aY prog 140 #[.int .u64 d] w fun i j=> ∃k:Int,i=.int .i64 k/\0<=(IntKind.u64.wrap k)/\0<=(32:Int)/\0<=(IntKind.u64.wrap k)/\0<=(IntKind.u64.wrap ((64:Int)-(IntKind.u64.wrap k)))/\0<=(IntKind.u64.wrap k)/\0<=(32:Int)/\((IntKind.u64.wrap (d*2 ^ (min (IntKind.u64.wrap k).toNat 64))).fdiv (2 ^ (min (32:Int).toNat 64)))≠0/\Holds none [] prog 135 (.loop (lB (bB (sL (sR (sR (sR (sR (sR (sR (sR (sR (sR (sR (sR (sR (sR (sR (body f134))))))))))))))))))) (aM.q1 K) [(2,.int .u64 (IntKind.u64.wrap (d*2 ^ (min (IntKind.u64.wrap k).toNat 64)))),(6,.int .u64 0),(7,.int .u64 0),(8,.int .u64 (IntKind.u64.wrap k)),(9,.int .u64 ((IntKind.u64.wrap (d*2 ^ (min (IntKind.u64.wrap k).toNat 64))).fdiv (2 ^ (min (32:Int).toNat 64)))),(10,.int .u64 (IntKind.u64.wrap ((BitVec.ofInt 64 (IntKind.u64.wrap (d*2 ^ (min (IntKind.u64.wrap k).toNat 64)))&&& BitVec.ofInt 64 (4294967295:Int)).toNat))),(11,.int .u64 (IntKind.u64.wrap ((BitVec.ofInt 64 (IntKind.u64.wrap (a*2 ^ (min (IntKind.u64.wrap k).toNat 64)))|||BitVec.ofInt 64 (b.fdiv (2 ^ (min (IntKind.u64.wrap ((64:Int)-(IntKind.u64.wrap k))).toNat 64)))).toNat))),(13,.int .u64 ((IntKind.u64.wrap (b*2 ^ (min (IntKind.u64.wrap k).toNat 64))).fdiv (2 ^ (min (32:Int).toNat 64)))),(14,.int .u64 (IntKind.u64.wrap ((BitVec.ofInt 64 (IntKind.u64.wrap (b*2 ^ (min (IntKind.u64.wrap k).toNat 64)))&&& BitVec.ofInt 64 (4294967295:Int)).toNat))),(15,.int .u64 (IntKind.u64.wrap ((IntKind.u64.wrap ((BitVec.ofInt 64 (IntKind.u64.wrap (a*2 ^ (min (IntKind.u64.wrap k).toNat 64)))|||BitVec.ofInt 64 (b.fdiv (2 ^ (min (IntKind.u64.wrap ((64:Int)-(IntKind.u64.wrap k))).toNat 64)))).toNat)).tdiv ((IntKind.u64.wrap (d*2 ^ (min (IntKind.u64.wrap k).toNat 64))).fdiv (2 ^ (min (32:Int).toNat 64)))))),(16,.int .u64 (IntKind.u64.wrap ((IntKind.u64.wrap ((BitVec.ofInt 64 (IntKind.u64.wrap (a*2 ^ (min (IntKind.u64.wrap k).toNat 64)))|||BitVec.ofInt 64 (b.fdiv (2 ^ (min (IntKind.u64.wrap ((64:Int)-(IntKind.u64.wrap k))).toNat 64)))).toNat))-(IntKind.u64.wrap ((IntKind.u64.wrap ((IntKind.u64.wrap ((BitVec.ofInt 64 (IntKind.u64.wrap (a*2 ^ (min (IntKind.u64.wrap k).toNat 64)))|||BitVec.ofInt 64 (b.fdiv (2 ^ (min (IntKind.u64.wrap ((64:Int)-(IntKind.u64.wrap k))).toNat 64)))).toNat)).tdiv ((IntKind.u64.wrap (d*2 ^ (min (IntKind.u64.wrap k).toNat 64))).fdiv (2 ^ (min (32:Int).toNat 64)))))*((IntKind.u64.wrap (d*2 ^ (min (IntKind.u64.wrap k).toNat 64))).fdiv (2 ^ (min (32:Int).toNat 64))))))))] j)))
variable{a b d K w}
theorem aM.of(h:aM.W a b d K w):aY prog 134 #[.int .u64 a,.int .u64 b,.int .u64 d] w K:=
 aH (C:=aM.k) (c:=body f134) ng mix func134 (by kernel_rfl) (by kernel_rfl) (by kernel_rfl) h
end
section
variable(a:Int)(b:Int)(c:Int)(d:Int)(e:Int)(f:Int)(g:Int)(i:Int)(j:Int)(k:Int)(m:Int)(Q:aJ)(w:World)
def aM.B1:Prop:=
 Split (decide (k>=(4294967296:Int))) (Split (decide ((IntKind.u64.wrap (m+e))>=(4294967296:Int))) (Q (.exit 0) [(2,.int .u64 a),(6,.int .u64 b),(7,.int .u64 c),(8,.int .u64 d),(9,.int .u64 e),(10,.int .u64 f),(11,.int .u64 g),(13,.int .u64 i),(14,.int .u64 j),(15,.int .u64 (IntKind.u64.wrap (k-(1:Int)))),(16,.int .u64 (IntKind.u64.wrap (m+e)))] w) (Q .normal [(2,.int .u64 a),(6,.int .u64 b),(7,.int .u64 c),(8,.int .u64 d),(9,.int .u64 e),(10,.int .u64 f),(11,.int .u64 g),(13,.int .u64 i),(14,.int .u64 j),(15,.int .u64 (IntKind.u64.wrap (k-(1:Int)))),(16,.int .u64 (IntKind.u64.wrap (m+e)))] w)) (Split (decide ((IntKind.u64.wrap (k*f))>(IntKind.u64.wrap ((IntKind.u64.wrap ((4294967296:Int)*m))+i)))) (Split (decide ((IntKind.u64.wrap (m+e))>=(4294967296:Int))) (Q (.exit 0) [(2,.int .u64 a),(6,.int .u64 b),(7,.int .u64 c),(8,.int .u64 d),(9,.int .u64 e),(10,.int .u64 f),(11,.int .u64 g),(13,.int .u64 i),(14,.int .u64 j),(15,.int .u64 (IntKind.u64.wrap (k-(1:Int)))),(16,.int .u64 (IntKind.u64.wrap (m+e)))] w) (Q .normal [(2,.int .u64 a),(6,.int .u64 b),(7,.int .u64 c),(8,.int .u64 d),(9,.int .u64 e),(10,.int .u64 f),(11,.int .u64 g),(13,.int .u64 i),(14,.int .u64 j),(15,.int .u64 (IntKind.u64.wrap (k-(1:Int)))),(16,.int .u64 (IntKind.u64.wrap (m+e)))] w)) (Q (.exit 0) [(2,.int .u64 a),(6,.int .u64 b),(7,.int .u64 c),(8,.int .u64 d),(9,.int .u64 e),(10,.int .u64 f),(11,.int .u64 g),(13,.int .u64 i),(14,.int .u64 j),(15,.int .u64 k),(16,.int .u64 m)] w))
theorem aM.b1:(aT none [] prog 135 aM.k (lB (bB (sL (sR (sR (sR (sR (sR (sR (sR (sR (sR (sR (sR (sR (sR (sR (body f134)))))))))))))))))) aM.u1 Q [(2,.int .u64 a),(6,.int .u64 b),(7,.int .u64 c),(8,.int .u64 d),(9,.int .u64 e),(10,.int .u64 f),(11,.int .u64 g),(13,.int .u64 i),(14,.int .u64 j),(15,.int .u64 k),(16,.int .u64 m)] w)=aM.B1 a b c d e f g i j k m Q w:=by kernel_rfl
variable{a b c d e f g i j}
theorem aM.bU(I:Int×Int->World->Prop)(μ:Int×Int->World->Nat)(s:Int×Int){Q:aJ}{w:World}(h0:I s w)
 (round: ∀s w,I s w->aM.B1 a b c d e f g i j (s.1) (s.2) (bF (aM.e1 a b c d e f g i j) I μ s w Q) w):Holds none [] prog 135 (.loop (lB (bB (sL (sR (sR (sR (sR (sR (sR (sR (sR (sR (sR (sR (sR (sR (sR (body f134))))))))))))))))))) Q (aM.e1 a b c d e f g i j s) w:=
 ba ng mix (aM.e1 a b c d e f g i j) I μ aM.k aM.u1 s (fun s Q w=>aM.B1 a b c d e f g i j (s.1) (s.2) Q w) (fun s Q w=>aM.b1 a b c d e f g i j (s.1) (s.2) Q w) h0 round
end
section
def aM.cW(a:Int)(b:Int)(c:Int)(d:Int)(e:Int)(f:Int)(g:Int)(i:Int)(j:Int)(k:Int)(m:Int)(K:KT)(w:World):Prop:=
 e≠0/\Holds none [] prog 135 (.loop (lB (bB (sL (sR (sR (sR (sR (sR (sR (sR (sR (sR (sR (sR (sR (sR (sR (sR (sR (sR (sR (body f134))))))))))))))))))))))) (aM.q2 K) [(2,.int .u64 a),(6,.int .u64 b),(7,.int .u64 c),(8,.int .u64 d),(9,.int .u64 e),(10,.int .u64 f),(14,.int .u64 j),(15,.int .u64 k),(16,.int .u64 (IntKind.u64.wrap ((IntKind.u64.wrap ((IntKind.u64.wrap ((IntKind.u64.wrap (g*(4294967296:Int)))+i))-(IntKind.u64.wrap (k*a))))-(IntKind.u64.wrap ((IntKind.u64.wrap ((IntKind.u64.wrap ((IntKind.u64.wrap ((IntKind.u64.wrap (g*(4294967296:Int)))+i))-(IntKind.u64.wrap (k*a)))).tdiv e))*e))))),(17,.int .u64 (IntKind.u64.wrap ((IntKind.u64.wrap ((IntKind.u64.wrap (g*(4294967296:Int)))+i))-(IntKind.u64.wrap (k*a))))),(18,.int .u64 (IntKind.u64.wrap ((IntKind.u64.wrap ((IntKind.u64.wrap ((IntKind.u64.wrap (g*(4294967296:Int)))+i))-(IntKind.u64.wrap (k*a)))).tdiv e)))] w
variable(a:Int)(b:Int)(c:Int)(d:Int)(e:Int)(f:Int)(g:Int)(i:Int)(j:Int)(k:Int)(m:Int)(K:KT)(w:World)
theorem aM.dD:(aM.q1 K (.exit 0) [(2,.int .u64 a),(6,.int .u64 b),(7,.int .u64 c),(8,.int .u64 d),(9,.int .u64 e),(10,.int .u64 f),(11,.int .u64 g),(13,.int .u64 i),(14,.int .u64 j),(15,.int .u64 k),(16,.int .u64 m)] w)=aM.cW a b c d e f g i j k m K w:=by kernel_rfl
end
section
variable(a:Int)(b:Int)(c:Int)(d:Int)(e:Int)(f:Int)(g:Int)(i:Int)(j:Int)(k:Int)(m:Int)(Q:aJ)(w:World)
def aM.B2:Prop:=
 Split (decide (m>=(4294967296:Int))) (Split (decide ((IntKind.u64.wrap (j+e))>=(4294967296:Int))) (Q (.exit 2) [(2,.int .u64 a),(6,.int .u64 b),(7,.int .u64 c),(8,.int .u64 d),(9,.int .u64 e),(10,.int .u64 f),(14,.int .u64 g),(15,.int .u64 i),(16,.int .u64 (IntKind.u64.wrap (j+e))),(17,.int .u64 k),(18,.int .u64 (IntKind.u64.wrap (m-(1:Int))))] w) (Q .normal [(2,.int .u64 a),(6,.int .u64 b),(7,.int .u64 c),(8,.int .u64 d),(9,.int .u64 e),(10,.int .u64 f),(14,.int .u64 g),(15,.int .u64 i),(16,.int .u64 (IntKind.u64.wrap (j+e))),(17,.int .u64 k),(18,.int .u64 (IntKind.u64.wrap (m-(1:Int))))] w)) (Split (decide ((IntKind.u64.wrap (m*f))>(IntKind.u64.wrap ((IntKind.u64.wrap ((4294967296:Int)*j))+g)))) (Split (decide ((IntKind.u64.wrap (j+e))>=(4294967296:Int))) (Q (.exit 2) [(2,.int .u64 a),(6,.int .u64 b),(7,.int .u64 c),(8,.int .u64 d),(9,.int .u64 e),(10,.int .u64 f),(14,.int .u64 g),(15,.int .u64 i),(16,.int .u64 (IntKind.u64.wrap (j+e))),(17,.int .u64 k),(18,.int .u64 (IntKind.u64.wrap (m-(1:Int))))] w) (Q .normal [(2,.int .u64 a),(6,.int .u64 b),(7,.int .u64 c),(8,.int .u64 d),(9,.int .u64 e),(10,.int .u64 f),(14,.int .u64 g),(15,.int .u64 i),(16,.int .u64 (IntKind.u64.wrap (j+e))),(17,.int .u64 k),(18,.int .u64 (IntKind.u64.wrap (m-(1:Int))))] w)) (Q (.exit 2) [(2,.int .u64 a),(6,.int .u64 b),(7,.int .u64 c),(8,.int .u64 d),(9,.int .u64 e),(10,.int .u64 f),(14,.int .u64 g),(15,.int .u64 i),(16,.int .u64 j),(17,.int .u64 k),(18,.int .u64 m)] w))
theorem aM.b2:(aT none [] prog 135 aM.k (lB (bB (sL (sR (sR (sR (sR (sR (sR (sR (sR (sR (sR (sR (sR (sR (sR (sR (sR (sR (sR (body f134)))))))))))))))))))))) aM.u2 Q [(2,.int .u64 a),(6,.int .u64 b),(7,.int .u64 c),(8,.int .u64 d),(9,.int .u64 e),(10,.int .u64 f),(14,.int .u64 g),(15,.int .u64 i),(16,.int .u64 j),(17,.int .u64 k),(18,.int .u64 m)] w)=aM.B2 a b c d e f g i j k m Q w:=by kernel_rfl
variable{a b c d e f g i k}
theorem aM.gz(I:Int×Int->World->Prop)(μ:Int×Int->World->Nat)(s:Int×Int){Q:aJ}{w:World}(h0:I s w)
 (round: ∀s w,I s w->aM.B2 a b c d e f g i (s.1) k (s.2) (bF (aM.e2 a b c d e f g i k) I μ s w Q) w):Holds none [] prog 135 (.loop (lB (bB (sL (sR (sR (sR (sR (sR (sR (sR (sR (sR (sR (sR (sR (sR (sR (sR (sR (sR (sR (body f134))))))))))))))))))))))) Q (aM.e2 a b c d e f g i k s) w:=
 ba ng mix (aM.e2 a b c d e f g i k) I μ aM.k aM.u2 s (fun s Q w=>aM.B2 a b c d e f g i (s.1) k (s.2) Q w) (fun s Q w=>aM.b2 a b c d e f g i (s.1) k (s.2) Q w) h0 round
end
section
def aM.iS(a:Int)(b:Int)(c:Int)(d:Int)(e:Int)(f:Int)(g:Int)(i:Int)(j:Int)(k:Int)(m:Int)(K:KT)(w:World):Prop:=
 0<=d/\K (.tuple #[.int .u64 (IntKind.u64.wrap ((IntKind.u64.wrap (i*(4294967296:Int)))+m)),.int .u64 ((IntKind.u64.wrap ((IntKind.u64.wrap ((IntKind.u64.wrap (k*(4294967296:Int)))+g))-(IntKind.u64.wrap (m*a)))).fdiv (2 ^ (min d.toNat 64)))]) w
variable(a:Int)(b:Int)(c:Int)(d:Int)(e:Int)(f:Int)(g:Int)(i:Int)(j:Int)(k:Int)(m:Int)(K:KT)(w:World)
theorem aM.jI:(aM.q2 K (.exit 2) [(2,.int .u64 a),(6,.int .u64 b),(7,.int .u64 c),(8,.int .u64 d),(9,.int .u64 e),(10,.int .u64 f),(14,.int .u64 g),(15,.int .u64 i),(16,.int .u64 j),(17,.int .u64 k),(18,.int .u64 m)] w)=aM.iS a b c d e f g i j k m K w:=by kernel_rfl
end
end Go.Proofs.YtnboahlopghcjaaGreatDoor
