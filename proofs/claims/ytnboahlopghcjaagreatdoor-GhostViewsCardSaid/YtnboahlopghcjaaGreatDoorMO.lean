import Derived.Test.YtnboahlopghcjaaGreatDoorProg
import Derived.Test.YtnboahlopghcjaaGreatDoorMA
import Derived.Test.YtnboahlopghcjaaGreatDoorMB
set_option linter.unusedVariables false
namespace Go.Proofs.YtnboahlopghcjaaGreatDoor
open Go.Proofs.Tryz
open Go Go.bS
def oP.k:List Nat:= []
section
variable(a:OA)(b:Nat)(d:Nat)(e:OA)(K:KT)(w:World)
def oP.W:Prop:=
 bk prog 106 #[.int .u64 (IntKind.u64.wrap (b:Int))] w fun f g=> ∃i:Int,f=.int .i64 i/\bk prog 105 #[.slice a b d,.int .i64 0,.int .i64 (b:Int),.int .i64 i,.func (.func 47) #[.pointer e] #[]] g fun j k=>j=.tuple #[]/\K (.tuple #[]) k
variable{a b d e K w}
theorem oP.of(h:oP.W a b d e K w):bk prog 72 #[.slice a b d,.func (.func 47) #[.pointer e] #[]] w K:=
 aK (C:=oP.k) (c:=body f72) ng mix func72 (by kernel_rfl) (by kernel_rfl) (by kernel_rfl) h
end
def aw.k:List Nat:= [10,11,13,14,15,17,20,21,22,23,24,26,27,29,30]
def aw.q1(K:KT):aN:=(aL 0 (aR f105) (bH prog f105 K))
def aw.e1(a:OA)(b:Nat)(c:Nat)(d:OA)(s:Int×Int×Int×Bool×Bool):Env:= [(0,.slice a b c),(1,.int .i64 s.1),(2,.int .i64 s.2.1),(3,.int .i64 s.2.2.1),(4,.func (.func 47) #[.pointer d] #[]),(10,.bool s.2.2.2.1),(11,.bool s.2.2.2.2)]
def aw.u1:List Nat:= [0,1,2,3,4,10,11]
section
variable(a:OA)(b:Nat)(d:Nat)(e:Int)(f:Int)(g:Int)(i:OA)(K:KT)(w:World)
def aw.W:Prop:=
 Holds none [] prog 148 (.loop (lB (bB (sR (sR (body f105)))))) (aw.q1 K) [(0,.slice a b d),(1,.int .i64 e),(2,.int .i64 f),(3,.int .i64 g),(4,.func (.func 47) #[.pointer i] #[]),(10,.bool true),(11,.bool true)] w
variable{a b d e f g i K w}
theorem aw.of(h:aw.W a b d e f g i K w):bk prog 105 #[.slice a b d,.int .i64 e,.int .i64 f,.int .i64 g,.func (.func 47) #[.pointer i] #[]] w K:=
 aK (C:=aw.k) (c:=body f105) ng mix func105 (by kernel_rfl) (by kernel_rfl) (by kernel_rfl) h
end
section
variable(a:OA)(b:Nat)(c:Nat)(d:Int)(e:Int)(f:Int)(g:OA)(i:Bool)(j:Bool)(Q:aN)(w:World)
def aw.B1:Prop:=
 Split (decide ((IntKind.i64.wrap (e-d))<=(12:Int))) (bk prog 122 #[.slice a b c,.int .i64 d,.int .i64 e,.func (.func 47) #[.pointer g] #[]] w fun k m=>k=.tuple #[]/\Q .ret [(0,.slice a b c),(1,.int .i64 d),(2,.int .i64 e),(3,.int .i64 f),(4,.func (.func 47) #[.pointer g] #[]),(10,.bool i),(11,.bool j),(12,.int .i64 (IntKind.i64.wrap (e-d)))] m) (Split (f==(0:Int)) (bk prog 123 #[.slice a b c,.int .i64 d,.int .i64 e,.func (.func 47) #[.pointer g] #[]] w fun n o=>n=.tuple #[]/\Q .ret [(0,.slice a b c),(1,.int .i64 d),(2,.int .i64 e),(3,.int .i64 f),(4,.func (.func 47) #[.pointer g] #[]),(10,.bool i),(11,.bool j),(12,.int .i64 (IntKind.i64.wrap (e-d)))] o) (Split (!i) (bk prog 124 #[.slice a b c,.int .i64 d,.int .i64 e,.func (.func 47) #[.pointer g] #[]] w fun p q=>p=.tuple #[]/\Holds none [] prog 148 (sR (sR (sR (sR (bB (lB (bB (sR (sR (body f105)))))))))) (aL 1 aw.u1 Q) [(0,.slice a b c),(1,.int .i64 d),(2,.int .i64 e),(3,.int .i64 (IntKind.i64.wrap (f-(1:Int)))),(4,.func (.func 47) #[.pointer g] #[]),(10,.bool i),(11,.bool j),(12,.int .i64 (IntKind.i64.wrap (e-d)))] q) (Holds none [] prog 148 (sR (sR (sR (sR (bB (lB (bB (sR (sR (body f105)))))))))) (aL 1 aw.u1 Q) [(0,.slice a b c),(1,.int .i64 d),(2,.int .i64 e),(3,.int .i64 f),(4,.func (.func 47) #[.pointer g] #[]),(10,.bool i),(11,.bool j),(12,.int .i64 (IntKind.i64.wrap (e-d)))] w)))
theorem aw.b1:(aW none [] prog 148 aw.k (lB (bB (sR (sR (body f105))))) aw.u1 Q [(0,.slice a b c),(1,.int .i64 d),(2,.int .i64 e),(3,.int .i64 f),(4,.func (.func 47) #[.pointer g] #[]),(10,.bool i),(11,.bool j)] w)=aw.B1 a b c d e f g i j Q w:=by kernel_rfl
variable{a b c g}
theorem aw.b9(I:Int×Int×Int×Bool×Bool->World->Prop)(μ:Int×Int×Int×Bool×Bool->World->Nat)(s:Int×Int×Int×Bool×Bool){Q:aN}{w:World}(h0:I s w)
 (round: ∀s w,I s w->aw.B1 a b c (s.1) (s.2.1) (s.2.2.1) g (s.2.2.2.1) (s.2.2.2.2) (bK (aw.e1 a b c g) I μ s w Q) w):Holds none [] prog 148 (.loop (lB (bB (sR (sR (body f105)))))) Q (aw.e1 a b c g s) w:=
 bf ng mix (aw.e1 a b c g) I μ aw.k aw.u1 s (fun s Q w=>aw.B1 a b c (s.1) (s.2.1) (s.2.2.1) g (s.2.2.2.1) (s.2.2.2.2) Q w) (fun s Q w=>aw.b1 a b c (s.1) (s.2.1) (s.2.2.1) g (s.2.2.2.1) (s.2.2.2.2) Q w) h0 round
end
section
variable(a:OA)(b:Nat)(c:Nat)(d:Int)(e:Int)(f:Int)(g:OA)(i:Bool)(j:Bool)(k:Int)(Q:aN)(w:World)
def aw.J1:Prop:=
 bk prog 125 #[.slice a b c,.int .i64 d,.int .i64 e,.func (.func 47) #[.pointer g] #[]] w fun m n=> ∃o:Int,∃p:Int,m=.tuple #[.int .i64 o,.int .i64 p]/\Holds none [] prog 148 (sR (sR (sR (sR (sR (bB (lB (bB (sR (sR (body f105))))))))))) (aL 1 aw.u1 Q) [(0,.slice a b c),(1,.int .i64 d),(2,.int .i64 e),(3,.int .i64 f),(4,.func (.func 47) #[.pointer g] #[]),(10,.bool i),(11,.bool j),(12,.int .i64 k),(13,.int .i64 o),(14,.int .i64 p)] n
theorem aw.j1:(aW none [] prog 148 aw.k (sR (sR (sR (sR (bB (lB (bB (sR (sR (body f105)))))))))) aw.u1 (aL 1 aw.u1 Q) [(0,.slice a b c),(1,.int .i64 d),(2,.int .i64 e),(3,.int .i64 f),(4,.func (.func 47) #[.pointer g] #[]),(10,.bool i),(11,.bool j),(12,.int .i64 k)] w)=aw.J1 a b c d e f g i j k Q w:=by kernel_rfl
variable{a b c d e f g i j k Q w}
theorem aw.lj(h:aw.J1 a b c d e f g i j k Q w):Holds none [] prog 148 (sR (sR (sR (sR (bB (lB (bB (sR (sR (body f105)))))))))) (aL 1 aw.u1 Q) [(0,.slice a b c),(1,.int .i64 d),(2,.int .i64 e),(3,.int .i64 f),(4,.func (.func 47) #[.pointer g] #[]),(10,.bool i),(11,.bool j),(12,.int .i64 k)] w:=
 cF (C:=aw.k) ng mix (aw.j1 a b c d e f g i j k Q w) h
end
section
variable(a:OA)(b:Nat)(c:Nat)(d:Int)(e:Int)(f:Int)(g:OA)(i:Bool)(j:Bool)(k:Int)(m:Int)(n:Int)(Q:aN)(w:World)
def aw.J2:Prop:=
 Split (n==(2:Int)) (bk prog 126 #[.slice a b c,.int .i64 d,.int .i64 e,.func (.func 47) #[.pointer g] #[]] w fun o p=>o=.tuple #[]/\Holds none [] prog 148 (sR (cT (sR (sL (sR (sR (sR (sR (sR (bB (lB (bB (sR (sR (body f105))))))))))))))) (bT (fun bW w_=>match cutAt aw.k (sR (sR (sR (sR (sR (sR (bB (lB (bB (sR (sR (body f105))))))))))))with|true=>Holds none [] prog 148 (sR (sR (sR (sR (sR (sR (bB (lB (bB (sR (sR (body f105)))))))))))) (aL 1 aw.u1 Q) bW w_|false=>aW none [] prog 148 aw.k (sR (sR (sR (sR (sR (sR (bB (lB (bB (sR (sR (body f105)))))))))))) aw.u1 (aL 1 aw.u1 Q) bW w_) (aL 1 aw.u1 Q)) [(0,.slice a b c),(1,.int .i64 d),(2,.int .i64 e),(3,.int .i64 f),(4,.func (.func 47) #[.pointer g] #[]),(10,.bool i),(11,.bool j),(12,.int .i64 k),(13,.int .i64 m),(14,.int .i64 n)] p) (Holds none [] prog 148 (sR (sR (sR (sR (sR (sR (bB (lB (bB (sR (sR (body f105)))))))))))) (aL 1 aw.u1 Q) [(0,.slice a b c),(1,.int .i64 d),(2,.int .i64 e),(3,.int .i64 f),(4,.func (.func 47) #[.pointer g] #[]),(10,.bool i),(11,.bool j),(12,.int .i64 k),(13,.int .i64 m),(14,.int .i64 n)] w)
theorem aw.j2:(aW none [] prog 148 aw.k (sR (sR (sR (sR (sR (bB (lB (bB (sR (sR (body f105))))))))))) aw.u1 (aL 1 aw.u1 Q) [(0,.slice a b c),(1,.int .i64 d),(2,.int .i64 e),(3,.int .i64 f),(4,.func (.func 47) #[.pointer g] #[]),(10,.bool i),(11,.bool j),(12,.int .i64 k),(13,.int .i64 m),(14,.int .i64 n)] w)=aw.J2 a b c d e f g i j k m n Q w:=by kernel_rfl
variable{a b c d e f g i j k m n Q w}
theorem aw.pj(h:aw.J2 a b c d e f g i j k m n Q w):Holds none [] prog 148 (sR (sR (sR (sR (sR (bB (lB (bB (sR (sR (body f105))))))))))) (aL 1 aw.u1 Q) [(0,.slice a b c),(1,.int .i64 d),(2,.int .i64 e),(3,.int .i64 f),(4,.func (.func 47) #[.pointer g] #[]),(10,.bool i),(11,.bool j),(12,.int .i64 k),(13,.int .i64 m),(14,.int .i64 n)] w:=
 cF (C:=aw.k) ng mix (aw.j2 a b c d e f g i j k m n Q w) h
end
section
variable(a:OA)(b:Nat)(c:Nat)(d:Int)(e:Int)(f:Int)(g:OA)(i:Bool)(j:Bool)(k:Int)(m:Int)(n:Int)(Q:aN)(w:World)
def aw.J3:Prop:=
 Holds none [] prog 148 (sR (sR (cT (sR (sL (sR (sR (sR (sR (sR (bB (lB (bB (sR (sR (body f105)))))))))))))))) (bT (fun bW w_=>match cutAt aw.k (sR (sR (sR (sR (sR (sR (bB (lB (bB (sR (sR (body f105))))))))))))with|true=>Holds none [] prog 148 (sR (sR (sR (sR (sR (sR (bB (lB (bB (sR (sR (body f105)))))))))))) (aL 1 aw.u1 Q) bW w_|false=>aW none [] prog 148 aw.k (sR (sR (sR (sR (sR (sR (bB (lB (bB (sR (sR (body f105)))))))))))) aw.u1 (aL 1 aw.u1 Q) bW w_) (aL 1 aw.u1 Q)) [(0,.slice a b c),(1,.int .i64 d),(2,.int .i64 e),(3,.int .i64 f),(4,.func (.func 47) #[.pointer g] #[]),(10,.bool i),(11,.bool j),(12,.int .i64 k),(13,.int .i64 (IntKind.i64.wrap ((IntKind.i64.wrap (e-(1:Int)))-(IntKind.i64.wrap (m-d))))),(14,.int .i64 n)] w
theorem aw.j3:(aW none [] prog 148 aw.k (sR (cT (sR (sL (sR (sR (sR (sR (sR (bB (lB (bB (sR (sR (body f105))))))))))))))) (b7 (sR (sR (sR (sR (sR (sR (bB (lB (bB (sR (sR (body f105))))))))))))++aw.u1) (bT (fun bW w_=>match cutAt aw.k (sR (sR (sR (sR (sR (sR (bB (lB (bB (sR (sR (body f105))))))))))))with|true=>Holds none [] prog 148 (sR (sR (sR (sR (sR (sR (bB (lB (bB (sR (sR (body f105)))))))))))) (aL 1 aw.u1 Q) bW w_|false=>aW none [] prog 148 aw.k (sR (sR (sR (sR (sR (sR (bB (lB (bB (sR (sR (body f105)))))))))))) aw.u1 (aL 1 aw.u1 Q) bW w_) (aL 1 aw.u1 Q)) [(0,.slice a b c),(1,.int .i64 d),(2,.int .i64 e),(3,.int .i64 f),(4,.func (.func 47) #[.pointer g] #[]),(10,.bool i),(11,.bool j),(12,.int .i64 k),(13,.int .i64 m),(14,.int .i64 n)] w)=aw.J3 a b c d e f g i j k m n Q w:=by kernel_rfl
variable{a b c d e f g i j k m n Q w}
theorem aw.Q7(h:aw.J3 a b c d e f g i j k m n Q w):Holds none [] prog 148 (sR (cT (sR (sL (sR (sR (sR (sR (sR (bB (lB (bB (sR (sR (body f105))))))))))))))) (bT (fun bW w_=>match cutAt aw.k (sR (sR (sR (sR (sR (sR (bB (lB (bB (sR (sR (body f105))))))))))))with|true=>Holds none [] prog 148 (sR (sR (sR (sR (sR (sR (bB (lB (bB (sR (sR (body f105)))))))))))) (aL 1 aw.u1 Q) bW w_|false=>aW none [] prog 148 aw.k (sR (sR (sR (sR (sR (sR (bB (lB (bB (sR (sR (body f105)))))))))))) aw.u1 (aL 1 aw.u1 Q) bW w_) (aL 1 aw.u1 Q)) [(0,.slice a b c),(1,.int .i64 d),(2,.int .i64 e),(3,.int .i64 f),(4,.func (.func 47) #[.pointer g] #[]),(10,.bool i),(11,.bool j),(12,.int .i64 k),(13,.int .i64 m),(14,.int .i64 n)] w:=
 cF (C:=aw.k) ng mix (aw.j3 a b c d e f g i j k m n Q w) h
end
section
variable(a:OA)(b:Nat)(c:Nat)(d:Int)(e:Int)(f:Int)(g:OA)(i:Bool)(j:Bool)(k:Int)(m:Int)(n:Int)(Q:aN)(w:World)
def aw.J4:Prop:=
 Split i (Split j (Split (n==(1:Int)) (bk prog 127 #[.slice a b c,.int .i64 d,.int .i64 e,.func (.func 47) #[.pointer g] #[]] w fun o p=> ∃q:Bool,o=.bool q/\Split q (Q .ret [(0,.slice a b c),(1,.int .i64 d),(2,.int .i64 e),(3,.int .i64 f),(4,.func (.func 47) #[.pointer g] #[]),(10,.bool i),(11,.bool j),(12,.int .i64 k),(13,.int .i64 m)] p) (Holds none [] prog 148 (sR (sR (sR (sR (sR (sR (sR (bB (lB (bB (sR (sR (body f105))))))))))))) (aL 1 aw.u1 Q) [(0,.slice a b c),(1,.int .i64 d),(2,.int .i64 e),(3,.int .i64 f),(4,.func (.func 47) #[.pointer g] #[]),(10,.bool i),(11,.bool j),(12,.int .i64 k),(13,.int .i64 m)] p)) (Holds none [] prog 148 (sR (sR (sR (sR (sR (sR (sR (bB (lB (bB (sR (sR (body f105))))))))))))) (aL 1 aw.u1 Q) [(0,.slice a b c),(1,.int .i64 d),(2,.int .i64 e),(3,.int .i64 f),(4,.func (.func 47) #[.pointer g] #[]),(10,.bool i),(11,.bool j),(12,.int .i64 k),(13,.int .i64 m)] w)) (Holds none [] prog 148 (sR (sR (sR (sR (sR (sR (sR (bB (lB (bB (sR (sR (body f105))))))))))))) (aL 1 aw.u1 Q) [(0,.slice a b c),(1,.int .i64 d),(2,.int .i64 e),(3,.int .i64 f),(4,.func (.func 47) #[.pointer g] #[]),(10,.bool i),(11,.bool j),(12,.int .i64 k),(13,.int .i64 m)] w)) (Holds none [] prog 148 (sR (sR (sR (sR (sR (sR (sR (bB (lB (bB (sR (sR (body f105))))))))))))) (aL 1 aw.u1 Q) [(0,.slice a b c),(1,.int .i64 d),(2,.int .i64 e),(3,.int .i64 f),(4,.func (.func 47) #[.pointer g] #[]),(10,.bool i),(11,.bool j),(12,.int .i64 k),(13,.int .i64 m)] w)
theorem aw.j4:(aW none [] prog 148 aw.k (sR (sR (sR (sR (sR (sR (bB (lB (bB (sR (sR (body f105)))))))))))) aw.u1 (aL 1 aw.u1 Q) [(0,.slice a b c),(1,.int .i64 d),(2,.int .i64 e),(3,.int .i64 f),(4,.func (.func 47) #[.pointer g] #[]),(10,.bool i),(11,.bool j),(12,.int .i64 k),(13,.int .i64 m),(14,.int .i64 n)] w)=aw.J4 a b c d e f g i j k m n Q w:=by kernel_rfl
variable{a b c d e f g i j k m n Q w}
theorem aw.Kw(h:aw.J4 a b c d e f g i j k m n Q w):Holds none [] prog 148 (sR (sR (sR (sR (sR (sR (bB (lB (bB (sR (sR (body f105)))))))))))) (aL 1 aw.u1 Q) [(0,.slice a b c),(1,.int .i64 d),(2,.int .i64 e),(3,.int .i64 f),(4,.func (.func 47) #[.pointer g] #[]),(10,.bool i),(11,.bool j),(12,.int .i64 k),(13,.int .i64 m),(14,.int .i64 n)] w:=
 cF (C:=aw.k) ng mix (aw.j4 a b c d e f g i j k m n Q w) h
end
section
def aw.J5(a:OA)(b:Nat)(c:Nat)(d:Int)(e:Int)(f:Int)(g:OA)(i:Bool)(j:Bool)(k:Int)(m:Int)(n:Int)(Q:aN)(w:World):Prop:=
 Holds none [] prog 148 (sR (sR (sR (sR (sR (sR (bB (lB (bB (sR (sR (body f105)))))))))))) (aL 1 aw.u1 Q) [(0,.slice a b c),(1,.int .i64 d),(2,.int .i64 e),(3,.int .i64 f),(4,.func (.func 47) #[.pointer g] #[]),(10,.bool i),(11,.bool j),(12,.int .i64 k),(13,.int .i64 m),(14,.int .i64 1)] w
variable(a:OA)(b:Nat)(c:Nat)(d:Int)(e:Int)(f:Int)(g:OA)(i:Bool)(j:Bool)(k:Int)(m:Int)(n:Int)(Q:aN)(w:World)
theorem aw.j5:(aW none [] prog 148 aw.k (sR (sR (cT (sR (sL (sR (sR (sR (sR (sR (bB (lB (bB (sR (sR (body f105)))))))))))))))) (b7 (sR (sR (sR (sR (sR (sR (bB (lB (bB (sR (sR (body f105))))))))))))++aw.u1) (bT (fun bW w_=>match cutAt aw.k (sR (sR (sR (sR (sR (sR (bB (lB (bB (sR (sR (body f105))))))))))))with|true=>Holds none [] prog 148 (sR (sR (sR (sR (sR (sR (bB (lB (bB (sR (sR (body f105)))))))))))) (aL 1 aw.u1 Q) bW w_|false=>aW none [] prog 148 aw.k (sR (sR (sR (sR (sR (sR (bB (lB (bB (sR (sR (body f105)))))))))))) aw.u1 (aL 1 aw.u1 Q) bW w_) (aL 1 aw.u1 Q)) [(0,.slice a b c),(1,.int .i64 d),(2,.int .i64 e),(3,.int .i64 f),(4,.func (.func 47) #[.pointer g] #[]),(10,.bool i),(11,.bool j),(12,.int .i64 k),(13,.int .i64 m),(14,.int .i64 n)] w)=aw.J5 a b c d e f g i j k m n Q w:=by kernel_rfl
variable{a b c d e f g i j k m n Q w}
theorem aw.Q6(h:aw.J5 a b c d e f g i j k m n Q w):Holds none [] prog 148 (sR (sR (cT (sR (sL (sR (sR (sR (sR (sR (bB (lB (bB (sR (sR (body f105)))))))))))))))) (bT (fun bW w_=>match cutAt aw.k (sR (sR (sR (sR (sR (sR (bB (lB (bB (sR (sR (body f105))))))))))))with|true=>Holds none [] prog 148 (sR (sR (sR (sR (sR (sR (bB (lB (bB (sR (sR (body f105)))))))))))) (aL 1 aw.u1 Q) bW w_|false=>aW none [] prog 148 aw.k (sR (sR (sR (sR (sR (sR (bB (lB (bB (sR (sR (body f105)))))))))))) aw.u1 (aL 1 aw.u1 Q) bW w_) (aL 1 aw.u1 Q)) [(0,.slice a b c),(1,.int .i64 d),(2,.int .i64 e),(3,.int .i64 f),(4,.func (.func 47) #[.pointer g] #[]),(10,.bool i),(11,.bool j),(12,.int .i64 k),(13,.int .i64 m),(14,.int .i64 n)] w:=
 cF (C:=aw.k) ng mix (aw.j5 a b c d e f g i j k m n Q w) h
end
section
variable(a:OA)(b:Nat)(c:Nat)(d:Int)(e:Int)(f:Int)(g:OA)(i:Bool)(j:Bool)(k:Int)(m:Int)(Q:aN)(w:World)
def aw.J6:Prop:=
 let n:=w.drew;Split (decide (d>(0:Int))) ((0<=(IntKind.i64.wrap (d-(1:Int)))/\(IntKind.i64.wrap (d-(1:Int)))<(b:Int))/\Is a fun o:Addr=> ∃p:AV,(p.size=32/\Cells n (o.add ((IntKind.i64.wrap (d-(1:Int))).toNat*32)) p)/\(0<=m/\m<(b:Int))/\Is a fun q:Addr=> ∃r:AV,(r.size=32/\Cells n (q.add (m.toNat*32)) r)/\bk prog 47 #[.pointer g,.agg p,.agg r] n fun t u=> ∃v:Int,t=.int .i64 v/\Split (!(decide (v<(0:Int)))) (bk prog 128 #[.slice a b c,.int .i64 d,.int .i64 e,.int .i64 m,.func (.func 47) #[.pointer g] #[]] u fun x y=> ∃z:Int,x=.int .i64 z/\Q .normal [(0,.slice a b c),(1,.int .i64 z),(2,.int .i64 e),(3,.int .i64 f),(4,.func (.func 47) #[.pointer g] #[]),(10,.bool i),(11,.bool j)] y) (Holds none [] prog 148 (sR (sR (sR (sR (sR (sR (sR (sR (bB (lB (bB (sR (sR (body f105)))))))))))))) (aL 1 aw.u1 Q) [(0,.slice a b c),(1,.int .i64 d),(2,.int .i64 e),(3,.int .i64 f),(4,.func (.func 47) #[.pointer g] #[]),(10,.bool i),(11,.bool j),(12,.int .i64 k),(13,.int .i64 m)] u)) (Holds none [] prog 148 (sR (sR (sR (sR (sR (sR (sR (sR (bB (lB (bB (sR (sR (body f105)))))))))))))) (aL 1 aw.u1 Q) [(0,.slice a b c),(1,.int .i64 d),(2,.int .i64 e),(3,.int .i64 f),(4,.func (.func 47) #[.pointer g] #[]),(10,.bool i),(11,.bool j),(12,.int .i64 k),(13,.int .i64 m)] n)
theorem aw.j6:(aW none [] prog 148 aw.k (sR (sR (sR (sR (sR (sR (sR (bB (lB (bB (sR (sR (body f105))))))))))))) aw.u1 (aL 1 aw.u1 Q) [(0,.slice a b c),(1,.int .i64 d),(2,.int .i64 e),(3,.int .i64 f),(4,.func (.func 47) #[.pointer g] #[]),(10,.bool i),(11,.bool j),(12,.int .i64 k),(13,.int .i64 m)] w)=aw.J6 a b c d e f g i j k m Q w:=by kernel_rfl
variable{a b c d e f g i j k m Q w}
theorem aw.Kv(h:aw.J6 a b c d e f g i j k m Q w):Holds none [] prog 148 (sR (sR (sR (sR (sR (sR (sR (bB (lB (bB (sR (sR (body f105))))))))))))) (aL 1 aw.u1 Q) [(0,.slice a b c),(1,.int .i64 d),(2,.int .i64 e),(3,.int .i64 f),(4,.func (.func 47) #[.pointer g] #[]),(10,.bool i),(11,.bool j),(12,.int .i64 k),(13,.int .i64 m)] w:=
 cF (C:=aw.k) ng mix (aw.j6 a b c d e f g i j k m Q w) h
end
section
variable(a:OA)(b:Nat)(c:Nat)(d:Int)(e:Int)(f:Int)(g:OA)(i:Bool)(j:Bool)(k:Int)(m:Int)(Q:aN)(w:World)
def aw.J7:Prop:=
 bk prog 129 #[.slice a b c,.int .i64 d,.int .i64 e,.int .i64 m,.func (.func 47) #[.pointer g] #[]] w fun n o=> ∃p:Int,∃q:Bool,n=.tuple #[.int .i64 p,.bool q]/\Holds none [] prog 148 (sR (sR (sR (sR (sR (sR (sR (sR (sR (bB (lB (bB (sR (sR (body f105))))))))))))))) (aL 1 aw.u1 Q) [(0,.slice a b c),(1,.int .i64 d),(2,.int .i64 e),(3,.int .i64 f),(4,.func (.func 47) #[.pointer g] #[]),(10,.bool i),(11,.bool j),(12,.int .i64 k),(16,.int .i64 p),(17,.bool q)] o
theorem aw.j7:(aW none [] prog 148 aw.k (sR (sR (sR (sR (sR (sR (sR (sR (bB (lB (bB (sR (sR (body f105)))))))))))))) aw.u1 (aL 1 aw.u1 Q) [(0,.slice a b c),(1,.int .i64 d),(2,.int .i64 e),(3,.int .i64 f),(4,.func (.func 47) #[.pointer g] #[]),(10,.bool i),(11,.bool j),(12,.int .i64 k),(13,.int .i64 m)] w)=aw.J7 a b c d e f g i j k m Q w:=by kernel_rfl
variable{a b c d e f g i j k m Q w}
theorem aw.Ku(h:aw.J7 a b c d e f g i j k m Q w):Holds none [] prog 148 (sR (sR (sR (sR (sR (sR (sR (sR (bB (lB (bB (sR (sR (body f105)))))))))))))) (aL 1 aw.u1 Q) [(0,.slice a b c),(1,.int .i64 d),(2,.int .i64 e),(3,.int .i64 f),(4,.func (.func 47) #[.pointer g] #[]),(10,.bool i),(11,.bool j),(12,.int .i64 k),(13,.int .i64 m)] w:=
 cF (C:=aw.k) ng mix (aw.j7 a b c d e f g i j k m Q w) h
end
section
def aw.J8(a:OA)(b:Nat)(c:Nat)(d:Int)(e:Int)(f:Int)(g:OA)(i:Bool)(j:Bool)(k:Int)(m:Int)(n:Bool)(Q:aN)(w:World):Prop:=
 Holds none [] prog 148 (sR (sR (sR (sR (sR (sR (sR (sR (sR (sR (bB (lB (bB (sR (sR (body f105)))))))))))))))) (aL 1 aw.u1 Q) [(0,.slice a b c),(1,.int .i64 d),(2,.int .i64 e),(3,.int .i64 f),(4,.func (.func 47) #[.pointer g] #[]),(10,.bool i),(11,.bool n),(12,.int .i64 k),(16,.int .i64 m)] w
variable(a:OA)(b:Nat)(c:Nat)(d:Int)(e:Int)(f:Int)(g:OA)(i:Bool)(j:Bool)(k:Int)(m:Int)(n:Bool)(Q:aN)(w:World)
theorem aw.j8:(aW none [] prog 148 aw.k (sR (sR (sR (sR (sR (sR (sR (sR (sR (bB (lB (bB (sR (sR (body f105))))))))))))))) aw.u1 (aL 1 aw.u1 Q) [(0,.slice a b c),(1,.int .i64 d),(2,.int .i64 e),(3,.int .i64 f),(4,.func (.func 47) #[.pointer g] #[]),(10,.bool i),(11,.bool j),(12,.int .i64 k),(16,.int .i64 m),(17,.bool n)] w)=aw.J8 a b c d e f g i j k m n Q w:=by kernel_rfl
variable{a b c d e f g i j k m n Q w}
theorem aw.Q5(h:aw.J8 a b c d e f g i j k m n Q w):Holds none [] prog 148 (sR (sR (sR (sR (sR (sR (sR (sR (sR (bB (lB (bB (sR (sR (body f105))))))))))))))) (aL 1 aw.u1 Q) [(0,.slice a b c),(1,.int .i64 d),(2,.int .i64 e),(3,.int .i64 f),(4,.func (.func 47) #[.pointer g] #[]),(10,.bool i),(11,.bool j),(12,.int .i64 k),(16,.int .i64 m),(17,.bool n)] w:=
 cF (C:=aw.k) ng mix (aw.j8 a b c d e f g i j k m n Q w) h
end
section
variable(a:OA)(b:Nat)(c:Nat)(d:Int)(e:Int)(f:Int)(g:OA)(i:Bool)(j:Bool)(k:Int)(m:Int)(Q:aN)(w:World)
def aw.J9:Prop:=
 Holds none [] prog 148 (sR (sR (sR (sR (sR (sR (sR (sR (sR (sR (sR (bB (lB (bB (sR (sR (body f105))))))))))))))))) (aL 1 aw.u1 Q) [(0,.slice a b c),(1,.int .i64 d),(2,.int .i64 e),(3,.int .i64 f),(4,.func (.func 47) #[.pointer g] #[]),(10,.bool i),(11,.bool j),(12,.int .i64 k),(16,.int .i64 m),(18,.int .i64 (IntKind.i64.wrap (m-d))),(19,.int .i64 (IntKind.i64.wrap (e-m)))] w
theorem aw.j9:(aW none [] prog 148 aw.k (sR (sR (sR (sR (sR (sR (sR (sR (sR (sR (bB (lB (bB (sR (sR (body f105)))))))))))))))) aw.u1 (aL 1 aw.u1 Q) [(0,.slice a b c),(1,.int .i64 d),(2,.int .i64 e),(3,.int .i64 f),(4,.func (.func 47) #[.pointer g] #[]),(10,.bool i),(11,.bool j),(12,.int .i64 k),(16,.int .i64 m)] w)=aw.J9 a b c d e f g i j k m Q w:=by kernel_rfl
variable{a b c d e f g i j k m Q w}
theorem aw.Q4(h:aw.J9 a b c d e f g i j k m Q w):Holds none [] prog 148 (sR (sR (sR (sR (sR (sR (sR (sR (sR (sR (bB (lB (bB (sR (sR (body f105)))))))))))))))) (aL 1 aw.u1 Q) [(0,.slice a b c),(1,.int .i64 d),(2,.int .i64 e),(3,.int .i64 f),(4,.func (.func 47) #[.pointer g] #[]),(10,.bool i),(11,.bool j),(12,.int .i64 k),(16,.int .i64 m)] w:=
 cF (C:=aw.k) ng mix (aw.j9 a b c d e f g i j k m Q w) h
end
section
variable(a:OA)(b:Nat)(c:Nat)(d:Int)(e:Int)(f:Int)(g:OA)(i:Bool)(j:Bool)(k:Int)(m:Int)(n:Int)(o:Int)(Q:aN)(w:World)
def aw.J10:Prop:=
 (8:Int)≠0/\Holds none [] prog 148 (sR (sR (sR (sR (sR (sR (sR (sR (sR (sR (sR (sR (bB (lB (bB (sR (sR (body f105)))))))))))))))))) (aL 1 aw.u1 Q) [(0,.slice a b c),(1,.int .i64 d),(2,.int .i64 e),(3,.int .i64 f),(4,.func (.func 47) #[.pointer g] #[]),(10,.bool i),(11,.bool j),(16,.int .i64 m),(18,.int .i64 n),(19,.int .i64 o),(20,.int .i64 (IntKind.i64.wrap (k.tdiv (8:Int))))] w
theorem aw.j10:(aW none [] prog 148 aw.k (sR (sR (sR (sR (sR (sR (sR (sR (sR (sR (sR (bB (lB (bB (sR (sR (body f105))))))))))))))))) aw.u1 (aL 1 aw.u1 Q) [(0,.slice a b c),(1,.int .i64 d),(2,.int .i64 e),(3,.int .i64 f),(4,.func (.func 47) #[.pointer g] #[]),(10,.bool i),(11,.bool j),(12,.int .i64 k),(16,.int .i64 m),(18,.int .i64 n),(19,.int .i64 o)] w)=aw.J10 a b c d e f g i j k m n o Q w:=by kernel_rfl
variable{a b c d e f g i j k m n o Q w}
theorem aw.MI(h:aw.J10 a b c d e f g i j k m n o Q w):Holds none [] prog 148 (sR (sR (sR (sR (sR (sR (sR (sR (sR (sR (sR (bB (lB (bB (sR (sR (body f105))))))))))))))))) (aL 1 aw.u1 Q) [(0,.slice a b c),(1,.int .i64 d),(2,.int .i64 e),(3,.int .i64 f),(4,.func (.func 47) #[.pointer g] #[]),(10,.bool i),(11,.bool j),(12,.int .i64 k),(16,.int .i64 m),(18,.int .i64 n),(19,.int .i64 o)] w:=
 cF (C:=aw.k) ng mix (aw.j10 a b c d e f g i j k m n o Q w) h
end
section
def aw.J11(a:OA)(b:Nat)(c:Nat)(d:Int)(e:Int)(f:Int)(g:OA)(i:Bool)(j:Bool)(k:Int)(m:Int)(n:Int)(o:Int)(Q:aN)(w:World):Prop:=
 Split (decide (m<n)) (Holds none [] prog 148 (sR (cT (sR (sR (sR (sR (sR (sR (sR (sR (sR (sR (sR (sR (sR (bB (lB (bB (sR (sR (body f105))))))))))))))))))))) (aL 1 aw.u1 Q) [(0,.slice a b c),(1,.int .i64 d),(2,.int .i64 e),(3,.int .i64 f),(4,.func (.func 47) #[.pointer g] #[]),(10,.bool (decide (m>=o))),(11,.bool j),(16,.int .i64 k)] w) (Holds none [] prog 148 (sR (cE (sR (sR (sR (sR (sR (sR (sR (sR (sR (sR (sR (sR (sR (bB (lB (bB (sR (sR (body f105))))))))))))))))))))) (aL 1 aw.u1 Q) [(0,.slice a b c),(1,.int .i64 d),(2,.int .i64 e),(3,.int .i64 f),(4,.func (.func 47) #[.pointer g] #[]),(10,.bool (decide (n>=o))),(11,.bool j),(16,.int .i64 k)] w)
variable(a:OA)(b:Nat)(c:Nat)(d:Int)(e:Int)(f:Int)(g:OA)(i:Bool)(j:Bool)(k:Int)(m:Int)(n:Int)(o:Int)(Q:aN)(w:World)
theorem aw.j11:(aW none [] prog 148 aw.k (sR (sR (sR (sR (sR (sR (sR (sR (sR (sR (sR (sR (bB (lB (bB (sR (sR (body f105)))))))))))))))))) aw.u1 (aL 1 aw.u1 Q) [(0,.slice a b c),(1,.int .i64 d),(2,.int .i64 e),(3,.int .i64 f),(4,.func (.func 47) #[.pointer g] #[]),(10,.bool i),(11,.bool j),(16,.int .i64 k),(18,.int .i64 m),(19,.int .i64 n),(20,.int .i64 o)] w)=aw.J11 a b c d e f g i j k m n o Q w:=by kernel_rfl
variable{a b c d e f g i j k m n o Q w}
theorem aw.MH(h:aw.J11 a b c d e f g i j k m n o Q w):Holds none [] prog 148 (sR (sR (sR (sR (sR (sR (sR (sR (sR (sR (sR (sR (bB (lB (bB (sR (sR (body f105)))))))))))))))))) (aL 1 aw.u1 Q) [(0,.slice a b c),(1,.int .i64 d),(2,.int .i64 e),(3,.int .i64 f),(4,.func (.func 47) #[.pointer g] #[]),(10,.bool i),(11,.bool j),(16,.int .i64 k),(18,.int .i64 m),(19,.int .i64 n),(20,.int .i64 o)] w:=
 cF (C:=aw.k) ng mix (aw.j11 a b c d e f g i j k m n o Q w) h
end
section
variable(a:OA)(b:Nat)(c:Nat)(d:Int)(e:Int)(f:Int)(g:OA)(i:Bool)(j:Bool)(k:Int)(Q:aN)(w:World)
def aw.J12:Prop:=
 bk prog 105 #[.slice a b c,.int .i64 d,.int .i64 k,.int .i64 f,.func (.func 47) #[.pointer g] #[]] w fun m n=>m=.tuple #[]/\Holds none [] prog 148 (sR (sR (cT (sR (sR (sR (sR (sR (sR (sR (sR (sR (sR (sR (sR (sR (bB (lB (bB (sR (sR (body f105)))))))))))))))))))))) (aL 1 aw.u1 Q) [(0,.slice a b c),(1,.int .i64 d),(2,.int .i64 e),(3,.int .i64 f),(4,.func (.func 47) #[.pointer g] #[]),(10,.bool i),(11,.bool j),(16,.int .i64 k)] n
theorem aw.j12:(aW none [] prog 148 aw.k (sR (cT (sR (sR (sR (sR (sR (sR (sR (sR (sR (sR (sR (sR (sR (bB (lB (bB (sR (sR (body f105))))))))))))))))))))) aw.u1 (aL 1 aw.u1 Q) [(0,.slice a b c),(1,.int .i64 d),(2,.int .i64 e),(3,.int .i64 f),(4,.func (.func 47) #[.pointer g] #[]),(10,.bool i),(11,.bool j),(16,.int .i64 k)] w)=aw.J12 a b c d e f g i j k Q w:=by kernel_rfl
variable{a b c d e f g i j k Q w}
theorem aw.MG(h:aw.J12 a b c d e f g i j k Q w):Holds none [] prog 148 (sR (cT (sR (sR (sR (sR (sR (sR (sR (sR (sR (sR (sR (sR (sR (bB (lB (bB (sR (sR (body f105))))))))))))))))))))) (aL 1 aw.u1 Q) [(0,.slice a b c),(1,.int .i64 d),(2,.int .i64 e),(3,.int .i64 f),(4,.func (.func 47) #[.pointer g] #[]),(10,.bool i),(11,.bool j),(16,.int .i64 k)] w:=
 cF (C:=aw.k) ng mix (aw.j12 a b c d e f g i j k Q w) h
end
section
variable(a:OA)(b:Nat)(c:Nat)(d:Int)(e:Int)(f:Int)(g:OA)(i:Bool)(j:Bool)(k:Int)(Q:aN)(w:World)
def aw.J13:Prop:=
 bk prog 105 #[.slice a b c,.int .i64 (IntKind.i64.wrap (k+(1:Int))),.int .i64 e,.int .i64 f,.func (.func 47) #[.pointer g] #[]] w fun m n=>m=.tuple #[]/\Holds none [] prog 148 (sR (sR (cE (sR (sR (sR (sR (sR (sR (sR (sR (sR (sR (sR (sR (sR (bB (lB (bB (sR (sR (body f105)))))))))))))))))))))) (aL 1 aw.u1 Q) [(0,.slice a b c),(1,.int .i64 d),(2,.int .i64 e),(3,.int .i64 f),(4,.func (.func 47) #[.pointer g] #[]),(10,.bool i),(11,.bool j),(16,.int .i64 k)] n
theorem aw.j13:(aW none [] prog 148 aw.k (sR (cE (sR (sR (sR (sR (sR (sR (sR (sR (sR (sR (sR (sR (sR (bB (lB (bB (sR (sR (body f105))))))))))))))))))))) aw.u1 (aL 1 aw.u1 Q) [(0,.slice a b c),(1,.int .i64 d),(2,.int .i64 e),(3,.int .i64 f),(4,.func (.func 47) #[.pointer g] #[]),(10,.bool i),(11,.bool j),(16,.int .i64 k)] w)=aw.J13 a b c d e f g i j k Q w:=by kernel_rfl
variable{a b c d e f g i j k Q w}
theorem aw.MF(h:aw.J13 a b c d e f g i j k Q w):Holds none [] prog 148 (sR (cE (sR (sR (sR (sR (sR (sR (sR (sR (sR (sR (sR (sR (sR (bB (lB (bB (sR (sR (body f105))))))))))))))))))))) (aL 1 aw.u1 Q) [(0,.slice a b c),(1,.int .i64 d),(2,.int .i64 e),(3,.int .i64 f),(4,.func (.func 47) #[.pointer g] #[]),(10,.bool i),(11,.bool j),(16,.int .i64 k)] w:=
 cF (C:=aw.k) ng mix (aw.j13 a b c d e f g i j k Q w) h
end
section
def aw.J14(a:OA)(b:Nat)(c:Nat)(d:Int)(e:Int)(f:Int)(g:OA)(i:Bool)(j:Bool)(k:Int)(Q:aN)(w:World):Prop:=
 Q .normal [(0,.slice a b c),(1,.int .i64 (IntKind.i64.wrap (k+(1:Int)))),(2,.int .i64 e),(3,.int .i64 f),(4,.func (.func 47) #[.pointer g] #[]),(10,.bool i),(11,.bool j)] w
variable(a:OA)(b:Nat)(c:Nat)(d:Int)(e:Int)(f:Int)(g:OA)(i:Bool)(j:Bool)(k:Int)(Q:aN)(w:World)
theorem aw.j14:(aW none [] prog 148 aw.k (sR (sR (cT (sR (sR (sR (sR (sR (sR (sR (sR (sR (sR (sR (sR (sR (bB (lB (bB (sR (sR (body f105)))))))))))))))))))))) aw.u1 (aL 1 aw.u1 Q) [(0,.slice a b c),(1,.int .i64 d),(2,.int .i64 e),(3,.int .i64 f),(4,.func (.func 47) #[.pointer g] #[]),(10,.bool i),(11,.bool j),(16,.int .i64 k)] w)=aw.J14 a b c d e f g i j k Q w:=by kernel_rfl
variable{a b c d e f g i j k Q w}
theorem aw.ME(h:aw.J14 a b c d e f g i j k Q w):Holds none [] prog 148 (sR (sR (cT (sR (sR (sR (sR (sR (sR (sR (sR (sR (sR (sR (sR (sR (bB (lB (bB (sR (sR (body f105)))))))))))))))))))))) (aL 1 aw.u1 Q) [(0,.slice a b c),(1,.int .i64 d),(2,.int .i64 e),(3,.int .i64 f),(4,.func (.func 47) #[.pointer g] #[]),(10,.bool i),(11,.bool j),(16,.int .i64 k)] w:=
 cF (C:=aw.k) ng mix (aw.j14 a b c d e f g i j k Q w) h
end
section
def aw.J15(a:OA)(b:Nat)(c:Nat)(d:Int)(e:Int)(f:Int)(g:OA)(i:Bool)(j:Bool)(k:Int)(Q:aN)(w:World):Prop:=
 Q .normal [(0,.slice a b c),(1,.int .i64 d),(2,.int .i64 k),(3,.int .i64 f),(4,.func (.func 47) #[.pointer g] #[]),(10,.bool i),(11,.bool j)] w
variable(a:OA)(b:Nat)(c:Nat)(d:Int)(e:Int)(f:Int)(g:OA)(i:Bool)(j:Bool)(k:Int)(Q:aN)(w:World)
theorem aw.j15:(aW none [] prog 148 aw.k (sR (sR (cE (sR (sR (sR (sR (sR (sR (sR (sR (sR (sR (sR (sR (sR (bB (lB (bB (sR (sR (body f105)))))))))))))))))))))) aw.u1 (aL 1 aw.u1 Q) [(0,.slice a b c),(1,.int .i64 d),(2,.int .i64 e),(3,.int .i64 f),(4,.func (.func 47) #[.pointer g] #[]),(10,.bool i),(11,.bool j),(16,.int .i64 k)] w)=aw.J15 a b c d e f g i j k Q w:=by kernel_rfl
variable{a b c d e f g i j k Q w}
theorem aw.MD(h:aw.J15 a b c d e f g i j k Q w):Holds none [] prog 148 (sR (sR (cE (sR (sR (sR (sR (sR (sR (sR (sR (sR (sR (sR (sR (sR (bB (lB (bB (sR (sR (body f105)))))))))))))))))))))) (aL 1 aw.u1 Q) [(0,.slice a b c),(1,.int .i64 d),(2,.int .i64 e),(3,.int .i64 f),(4,.func (.func 47) #[.pointer g] #[]),(10,.bool i),(11,.bool j),(16,.int .i64 k)] w:=
 cF (C:=aw.k) ng mix (aw.j15 a b c d e f g i j k Q w) h
end
def b6.k:List Nat:= []
def b6.q1(K:KT):aN:=(aL 0 (aR f122) (bH prog f122 K))
def b6.e1(a:OA)(b:Nat)(c:Nat)(d:Int)(e:Int)(f:OA)(s:Int):Env:= [(0,.slice a b c),(1,.int .i64 d),(2,.int .i64 e),(3,.func (.func 47) #[.pointer f] #[]),(8,.int .i64 s)]
def b6.u1:List Nat:= [0,1,2,3,8]
def b6.q2(Q:aN):aN:=(aL 2 (b7 (sR (sR (lB (bB (sR (body f122))))))++b6.u1) (aL 1 (b7 (sR (sR (lB (bB (sR (body f122))))))++b6.u1) (bT (fun bW w_=>match cutAt b6.k (sR (sR (lB (bB (sR (body f122))))))with|true=>Holds none [] prog 53 (sR (sR (lB (bB (sR (body f122)))))) Q bW w_|false=>aW none [] prog 53 b6.k (sR (sR (lB (bB (sR (body f122)))))) b6.u1 Q bW w_) Q)))
def b6.e2(a:OA)(b:Nat)(c:Nat)(d:Int)(e:Int)(f:OA)(g:Int)(s:Int):Env:= [(0,.slice a b c),(1,.int .i64 d),(2,.int .i64 e),(3,.func (.func 47) #[.pointer f] #[]),(8,.int .i64 g),(9,.int .i64 s)]
def b6.u2:List Nat:= [0,1,2,3,8,9]
section
variable(a:OA)(b:Nat)(d:Nat)(e:Int)(f:Int)(g:OA)(K:KT)(w:World)
def b6.W:Prop:=
 Holds none [] prog 53 (.loop (lB (bB (sR (body f122))))) (b6.q1 K) [(0,.slice a b d),(1,.int .i64 e),(2,.int .i64 f),(3,.func (.func 47) #[.pointer g] #[]),(8,.int .i64 (IntKind.i64.wrap (e+(1:Int))))] w
variable{a b d e f g K w}
theorem b6.of(h:b6.W a b d e f g K w):bk prog 122 #[.slice a b d,.int .i64 e,.int .i64 f,.func (.func 47) #[.pointer g] #[]] w K:=
 aK (C:=b6.k) (c:=body f122) ng mix func122 (by kernel_rfl) (by kernel_rfl) (by kernel_rfl) h
end
section
variable(a:OA)(b:Nat)(c:Nat)(d:Int)(e:Int)(f:OA)(g:Int)(Q:aN)(w:World)
def b6.B1:Prop:=
 Split (decide (g<e)) (Holds none [] prog 53 (.loop (lB (bB (sR (bB (sL (sR (lB (bB (sR (body f122))))))))))) (b6.q2 Q) [(0,.slice a b c),(1,.int .i64 d),(2,.int .i64 e),(3,.func (.func 47) #[.pointer f] #[]),(8,.int .i64 g),(9,.int .i64 g)] w) (Q (.exit 0) [(0,.slice a b c),(1,.int .i64 d),(2,.int .i64 e),(3,.func (.func 47) #[.pointer f] #[]),(8,.int .i64 g)] w)
theorem b6.b1:(aW none [] prog 53 b6.k (lB (bB (sR (body f122)))) b6.u1 Q [(0,.slice a b c),(1,.int .i64 d),(2,.int .i64 e),(3,.func (.func 47) #[.pointer f] #[]),(8,.int .i64 g)] w)=b6.B1 a b c d e f g Q w:=by kernel_rfl
variable{a b c d e f}
theorem b6.b9(I:Int->World->Prop)(μ:Int->World->Nat)(s:Int){Q:aN}{w:World}(h0:I s w)
 (round: ∀s w,I s w->b6.B1 a b c d e f s (bK (b6.e1 a b c d e f) I μ s w Q) w):Holds none [] prog 53 (.loop (lB (bB (sR (body f122))))) Q (b6.e1 a b c d e f s) w:=
 bf ng mix (b6.e1 a b c d e f) I μ b6.k b6.u1 s (fun s Q w=>b6.B1 a b c d e f s Q w) (fun s Q w=>b6.b1 a b c d e f s Q w) h0 round
end
section
def b6.cK(a:OA)(b:Nat)(c:Nat)(d:Int)(e:Int)(f:OA)(g:Int)(K:KT)(w:World):Prop:=
 K (.tuple #[]) w
variable(a:OA)(b:Nat)(c:Nat)(d:Int)(e:Int)(f:OA)(g:Int)(K:KT)(w:World)
theorem b6.cZ:(b6.q1 K (.exit 0) [(0,.slice a b c),(1,.int .i64 d),(2,.int .i64 e),(3,.func (.func 47) #[.pointer f] #[]),(8,.int .i64 g)] w)=b6.cK a b c d e f g K w:=by kernel_rfl
end
section
variable(a:OA)(b:Nat)(c:Nat)(d:Int)(e:Int)(f:OA)(g:Int)(i:Int)(Q:aN)(w:World)
def b6.B2:Prop:=
 let j:=w.drew;Split (decide (i>d)) ((0<=i/\i<(b:Int))/\Is a fun k:Addr=> ∃m:AV,(m.size=32/\Cells j (k.add (i.toNat*32)) m)/\(0<=(IntKind.i64.wrap (i-(1:Int)))/\(IntKind.i64.wrap (i-(1:Int)))<(b:Int))/\Is a fun n:Addr=> ∃o:AV,(o.size=32/\Cells j (n.add ((IntKind.i64.wrap (i-(1:Int))).toNat*32)) o)/\bk prog 47 #[.pointer f,.agg m,.agg o] j fun p q=> ∃r:Int,p=.int .i64 r/\Split (decide (r<(0:Int))) (let t:=q.drew;(0<=(IntKind.i64.wrap (i-(1:Int)))/\(IntKind.i64.wrap (i-(1:Int)))<(b:Int))/\Is a fun u:Addr=> ∃v:AV,(v.size=32/\Cells t (u.add ((IntKind.i64.wrap (i-(1:Int))).toNat*32)) v)/\(0<=i/\i<(b:Int))/\Is a fun x:Addr=> ∃y:AV,(y.size=32/\Cells t (x.add (i.toNat*32)) y)/\(0<=i/\i<(b:Int))/\Is a fun z:Addr=>(v.size=32/\(∀a1∈v.toList,a1.oneCell'=true)/\ ∀b1,b1<32->Wr t ((z.add (i.toNat*32)).add b1))/\let c1:=setCells t (z.add (i.toNat*32)) v.toList 0;(0<=(IntKind.i64.wrap (i-(1:Int)))/\(IntKind.i64.wrap (i-(1:Int)))<(b:Int))/\Is a fun d1:Addr=>(y.size=32/\(∀e1∈y.toList,e1.oneCell'=true)/\ ∀f1,f1<32->Wr c1 ((d1.add ((IntKind.i64.wrap (i-(1:Int))).toNat*32)).add f1))/\let g1:=setCells c1 (d1.add ((IntKind.i64.wrap (i-(1:Int))).toNat*32)) y.toList 0;Q .normal [(0,.slice a b c),(1,.int .i64 d),(2,.int .i64 e),(3,.func (.func 47) #[.pointer f] #[]),(8,.int .i64 g),(9,.int .i64 (IntKind.i64.wrap (i-(1:Int))))] g1) (Q (.exit 2) [(0,.slice a b c),(1,.int .i64 d),(2,.int .i64 e),(3,.func (.func 47) #[.pointer f] #[]),(8,.int .i64 g),(9,.int .i64 i)] q)) (Q (.exit 2) [(0,.slice a b c),(1,.int .i64 d),(2,.int .i64 e),(3,.func (.func 47) #[.pointer f] #[]),(8,.int .i64 g),(9,.int .i64 i)] j)
theorem b6.b2:(aW none [] prog 53 b6.k (lB (bB (sR (bB (sL (sR (lB (bB (sR (body f122)))))))))) b6.u2 Q [(0,.slice a b c),(1,.int .i64 d),(2,.int .i64 e),(3,.func (.func 47) #[.pointer f] #[]),(8,.int .i64 g),(9,.int .i64 i)] w)=b6.B2 a b c d e f g i Q w:=by kernel_rfl
variable{a b c d e f g}
theorem b6.gI(I:Int->World->Prop)(μ:Int->World->Nat)(s:Int){Q:aN}{w:World}(h0:I s w)
 (round: ∀s w,I s w->b6.B2 a b c d e f g s (bK (b6.e2 a b c d e f g) I μ s w Q) w):Holds none [] prog 53 (.loop (lB (bB (sR (bB (sL (sR (lB (bB (sR (body f122))))))))))) Q (b6.e2 a b c d e f g s) w:=
 bf ng mix (b6.e2 a b c d e f g) I μ b6.k b6.u2 s (fun s Q w=>b6.B2 a b c d e f g s Q w) (fun s Q w=>b6.b2 a b c d e f g s Q w) h0 round
end
section
def b6.iu(a:OA)(b:Nat)(c:Nat)(d:Int)(e:Int)(f:OA)(g:Int)(i:Int)(Q:aN)(w:World):Prop:=
 Q .normal [(0,.slice a b c),(1,.int .i64 d),(2,.int .i64 e),(3,.func (.func 47) #[.pointer f] #[]),(8,.int .i64 (IntKind.i64.wrap (g+(1:Int))))] w
variable(a:OA)(b:Nat)(c:Nat)(d:Int)(e:Int)(f:OA)(g:Int)(i:Int)(Q:aN)(w:World)
theorem b6.jF:(b6.q2 Q (.exit 2) [(0,.slice a b c),(1,.int .i64 d),(2,.int .i64 e),(3,.func (.func 47) #[.pointer f] #[]),(8,.int .i64 g),(9,.int .i64 i)] w)=b6.iu a b c d e f g i Q w:=by kernel_rfl
end
def bU.k:List Nat:= []
def bU.q1(K:KT):aN:=(aL 0 (b7 (sR (sR (sR (sR (body f123)))))++(aR f123)) (bT (fun bW w_=>match cutAt bU.k (sR (sR (sR (sR (body f123)))))with|true=>Holds none [] prog 60 (sR (sR (sR (sR (body f123))))) (bH prog f123 K) bW w_|false=>aW none [] prog 60 bU.k (sR (sR (sR (sR (body f123))))) (aR f123) (bH prog f123 K) bW w_) (bH prog f123 K)))
def bU.e1(a:OA)(b:Nat)(c:Nat)(d:OA)(e:Int)(f:Int)(g:Int)(s:Int):Env:= [(0,.slice a b c),(3,.func (.func 47) #[.pointer d] #[]),(8,.int .i64 e),(9,.int .i64 f),(10,.int .i64 g),(11,.int .i64 s)]
def bU.u1:List Nat:= [0,3,8,9,10,11]
def bU.q2(K:KT):aN:=(aL 2 (aR f123) (bH prog f123 K))
def bU.e2(a:OA)(b:Nat)(c:Nat)(d:OA)(e:Int)(f:Int)(s:Int):Env:= [(0,.slice a b c),(3,.func (.func 47) #[.pointer d] #[]),(8,.int .i64 e),(9,.int .i64 f),(12,.int .i64 s)]
def bU.u2:List Nat:= [0,3,8,9,12]
section
variable(a:OA)(b:Nat)(d:Nat)(e:Int)(f:Int)(g:OA)(K:KT)(w:World)
def bU.W:Prop:=
 (2:Int)≠0/\Holds none [] prog 60 (.loop (lB (bB (sR (sL (sR (sR (sR (body f123))))))))) (bU.q1 K) [(0,.slice a b d),(3,.func (.func 47) #[.pointer g] #[]),(8,.int .i64 e),(9,.int .i64 0),(10,.int .i64 (IntKind.i64.wrap (f-e))),(11,.int .i64 (IntKind.i64.wrap ((IntKind.i64.wrap ((IntKind.i64.wrap (f-e))-(1:Int))).tdiv (2:Int))))] w
variable{a b d e f g K w}
theorem bU.of(h:bU.W a b d e f g K w):bk prog 123 #[.slice a b d,.int .i64 e,.int .i64 f,.func (.func 47) #[.pointer g] #[]] w K:=
 aK (C:=bU.k) (c:=body f123) ng mix func123 (by kernel_rfl) (by kernel_rfl) (by kernel_rfl) h
end
section
variable(a:OA)(b:Nat)(c:Nat)(d:OA)(e:Int)(f:Int)(g:Int)(i:Int)(Q:aN)(w:World)
def bU.B1:Prop:=
 Split (decide (i>=(0:Int))) (bk prog 135 #[.slice a b c,.int .i64 i,.int .i64 g,.int .i64 e,.func (.func 47) #[.pointer d] #[]] w fun j k=>j=.tuple #[]/\Q .normal [(0,.slice a b c),(3,.func (.func 47) #[.pointer d] #[]),(8,.int .i64 e),(9,.int .i64 f),(10,.int .i64 g),(11,.int .i64 (IntKind.i64.wrap (i-(1:Int))))] k) (Q (.exit 0) [(0,.slice a b c),(3,.func (.func 47) #[.pointer d] #[]),(8,.int .i64 e),(9,.int .i64 f),(10,.int .i64 g),(11,.int .i64 i)] w)
theorem bU.b1:(aW none [] prog 60 bU.k (lB (bB (sR (sL (sR (sR (sR (body f123)))))))) bU.u1 Q [(0,.slice a b c),(3,.func (.func 47) #[.pointer d] #[]),(8,.int .i64 e),(9,.int .i64 f),(10,.int .i64 g),(11,.int .i64 i)] w)=bU.B1 a b c d e f g i Q w:=by kernel_rfl
variable{a b c d e f g}
theorem bU.b9(I:Int->World->Prop)(μ:Int->World->Nat)(s:Int){Q:aN}{w:World}(h0:I s w)
 (round: ∀s w,I s w->bU.B1 a b c d e f g s (bK (bU.e1 a b c d e f g) I μ s w Q) w):Holds none [] prog 60 (.loop (lB (bB (sR (sL (sR (sR (sR (body f123))))))))) Q (bU.e1 a b c d e f g s) w:=
 bf ng mix (bU.e1 a b c d e f g) I μ bU.k bU.u1 s (fun s Q w=>bU.B1 a b c d e f g s Q w) (fun s Q w=>bU.b1 a b c d e f g s Q w) h0 round
end
section
def bU.cK(a:OA)(b:Nat)(c:Nat)(d:OA)(e:Int)(f:Int)(g:Int)(i:Int)(K:KT)(w:World):Prop:=
 Holds none [] prog 60 (.loop (lB (bB (sR (sR (sR (sR (sR (body f123))))))))) (bU.q2 K) [(0,.slice a b c),(3,.func (.func 47) #[.pointer d] #[]),(8,.int .i64 e),(9,.int .i64 f),(12,.int .i64 (IntKind.i64.wrap (g-(1:Int))))] w
variable(a:OA)(b:Nat)(c:Nat)(d:OA)(e:Int)(f:Int)(g:Int)(i:Int)(K:KT)(w:World)
theorem bU.cZ:(bU.q1 K (.exit 0) [(0,.slice a b c),(3,.func (.func 47) #[.pointer d] #[]),(8,.int .i64 e),(9,.int .i64 f),(10,.int .i64 g),(11,.int .i64 i)] w)=bU.cK a b c d e f g i K w:=by kernel_rfl
end
section
variable(a:OA)(b:Nat)(c:Nat)(d:OA)(e:Int)(f:Int)(g:Int)(Q:aN)(w:World)
def bU.B2:Prop:=
 Split (decide (g>=(0:Int))) (let i:=w.drew;(0<=(IntKind.i64.wrap (e+g))/\(IntKind.i64.wrap (e+g))<(b:Int))/\Is a fun j:Addr=> ∃k:AV,(k.size=32/\Cells i (j.add ((IntKind.i64.wrap (e+g)).toNat*32)) k)/\(0<=e/\e<(b:Int))/\Is a fun m:Addr=> ∃n:AV,(n.size=32/\Cells i (m.add (e.toNat*32)) n)/\(0<=e/\e<(b:Int))/\Is a fun o:Addr=>(k.size=32/\(∀p∈k.toList,p.oneCell'=true)/\ ∀q,q<32->Wr i ((o.add (e.toNat*32)).add q))/\let r:=setCells i (o.add (e.toNat*32)) k.toList 0;(0<=(IntKind.i64.wrap (e+g))/\(IntKind.i64.wrap (e+g))<(b:Int))/\Is a fun t:Addr=>(n.size=32/\(∀u∈n.toList,u.oneCell'=true)/\ ∀v,v<32->Wr r ((t.add ((IntKind.i64.wrap (e+g)).toNat*32)).add v))/\let x:=setCells r (t.add ((IntKind.i64.wrap (e+g)).toNat*32)) n.toList 0;bk prog 135 #[.slice a b c,.int .i64 f,.int .i64 g,.int .i64 e,.func (.func 47) #[.pointer d] #[]] x fun y z=>y=.tuple #[]/\Q .normal [(0,.slice a b c),(3,.func (.func 47) #[.pointer d] #[]),(8,.int .i64 e),(9,.int .i64 f),(12,.int .i64 (IntKind.i64.wrap (g-(1:Int))))] z) (Q (.exit 2) [(0,.slice a b c),(3,.func (.func 47) #[.pointer d] #[]),(8,.int .i64 e),(9,.int .i64 f),(12,.int .i64 g)] w)
theorem bU.b2:(aW none [] prog 60 bU.k (lB (bB (sR (sR (sR (sR (sR (body f123)))))))) bU.u2 Q [(0,.slice a b c),(3,.func (.func 47) #[.pointer d] #[]),(8,.int .i64 e),(9,.int .i64 f),(12,.int .i64 g)] w)=bU.B2 a b c d e f g Q w:=by kernel_rfl
variable{a b c d e f}
theorem bU.gI(I:Int->World->Prop)(μ:Int->World->Nat)(s:Int){Q:aN}{w:World}(h0:I s w)
 (round: ∀s w,I s w->bU.B2 a b c d e f s (bK (bU.e2 a b c d e f) I μ s w Q) w):Holds none [] prog 60 (.loop (lB (bB (sR (sR (sR (sR (sR (body f123))))))))) Q (bU.e2 a b c d e f s) w:=
 bf ng mix (bU.e2 a b c d e f) I μ bU.k bU.u2 s (fun s Q w=>bU.B2 a b c d e f s Q w) (fun s Q w=>bU.b2 a b c d e f s Q w) h0 round
end
section
def bU.iu(a:OA)(b:Nat)(c:Nat)(d:OA)(e:Int)(f:Int)(g:Int)(K:KT)(w:World):Prop:=
 K (.tuple #[]) w
variable(a:OA)(b:Nat)(c:Nat)(d:OA)(e:Int)(f:Int)(g:Int)(K:KT)(w:World)
theorem bU.jF:(bU.q2 K (.exit 2) [(0,.slice a b c),(3,.func (.func 47) #[.pointer d] #[]),(8,.int .i64 e),(9,.int .i64 f),(12,.int .i64 g)] w)=bU.iu a b c d e f g K w:=by kernel_rfl
end
def dY.k:List Nat:= []
def dY.q1(K:KT):aN:=(aL 0 (aR f124) (bH prog f124 K))
def dY.e1(a:OA)(b:Nat)(c:Nat)(d:Int)(e:Int)(f:Addr)(g:Int)(s:Int):Env:= [(0,.slice a b c),(1,.int .i64 d),(8,.int .i64 e),(9,.pointer (some f)),(10,.int .u64 g),(11,.int .i64 s)]
def dY.u1:List Nat:= [0,1,8,9,10,11]
section
def dY.W(a:OA)(b:Nat)(d:Nat)(e:Int)(f:Int)(g:OA)(K:KT)(w:World):Prop:=
 Split (decide ((IntKind.i64.wrap (f-e))>=(8:Int))) (let i:=w.alloc (.cells (#[.int .u64 0]:AV) 188);Wr i (⟨w.heap.size,0,none⟩:Addr)/\let j:=i.setCell (⟨w.heap.size,0,none⟩:Addr) (.int .u64 (IntKind.u64.wrap (IntKind.i64.wrap (f-e))));bk prog 136 #[.int .i64 (IntKind.i64.wrap (f-e))] j fun k m=> ∃n:Int,k=.int .u64 n/\(4:Int)≠0/\Holds none [] prog 67 (.loop (lB (bB (sR (sR (sR (cT (sR (sR (body f124)))))))))) (dY.q1 K) [(0,.slice a b d),(1,.int .i64 e),(8,.int .i64 (IntKind.i64.wrap (f-e))),(9,.pointer (some (⟨w.heap.size,0,none⟩:Addr))),(10,.int .u64 n),(11,.int .i64 (IntKind.i64.wrap ((IntKind.i64.wrap (e+(IntKind.i64.wrap ((IntKind.i64.wrap ((IntKind.i64.wrap (f-e)).tdiv (4:Int)))*(2:Int)))))-(1:Int))))] m) (K (.tuple #[]) w)
variable(a:OA)(b:Nat)(d:Nat)(e:Int)(f:Int)(g:OA)(K:KT)(w:World)
variable{a b d e f g K w}
theorem dY.of(h:dY.W a b d e f g K w):bk prog 124 #[.slice a b d,.int .i64 e,.int .i64 f,.func (.func 47) #[.pointer g] #[]] w K:=
 aK (C:=dY.k) (c:=body f124) ng mix func124 (by kernel_rfl) (by kernel_rfl) (by kernel_rfl) h
end
section
variable(a:OA)(b:Nat)(c:Nat)(d:Int)(e:Int)(f:Addr)(g:Int)(i:Int)(Q:aN)(w:World)
def dY.B1:Prop:=
 (4:Int)≠0/\Split (decide (i<=(IntKind.i64.wrap ((IntKind.i64.wrap (d+(IntKind.i64.wrap ((IntKind.i64.wrap (e.tdiv (4:Int)))*(2:Int)))))+(1:Int))))) (bk prog 137 #[.pointer (some f)] w fun j k=> ∃m:Int,j=.int .u64 m/\Split (decide ((IntKind.i64.wrap (IntKind.u64.wrap ((BitVec.ofInt 64 m&&& BitVec.ofInt 64 (IntKind.u64.wrap (g-(1:Int)))).toNat)))>=e)) (let n:=k.drew;(0<=(IntKind.i64.wrap (d+(IntKind.i64.wrap ((IntKind.i64.wrap (IntKind.u64.wrap ((BitVec.ofInt 64 m&&& BitVec.ofInt 64 (IntKind.u64.wrap (g-(1:Int)))).toNat)))-e))))/\(IntKind.i64.wrap (d+(IntKind.i64.wrap ((IntKind.i64.wrap (IntKind.u64.wrap ((BitVec.ofInt 64 m&&& BitVec.ofInt 64 (IntKind.u64.wrap (g-(1:Int)))).toNat)))-e))))<(b:Int))/\Is a fun o:Addr=> ∃p:AV,(p.size=32/\Cells n (o.add ((IntKind.i64.wrap (d+(IntKind.i64.wrap ((IntKind.i64.wrap (IntKind.u64.wrap ((BitVec.ofInt 64 m&&& BitVec.ofInt 64 (IntKind.u64.wrap (g-(1:Int)))).toNat)))-e)))).toNat*32)) p)/\(0<=i/\i<(b:Int))/\Is a fun q:Addr=> ∃r:AV,(r.size=32/\Cells n (q.add (i.toNat*32)) r)/\(0<=i/\i<(b:Int))/\Is a fun t:Addr=>(p.size=32/\(∀u∈p.toList,u.oneCell'=true)/\ ∀v,v<32->Wr n ((t.add (i.toNat*32)).add v))/\let x:=setCells n (t.add (i.toNat*32)) p.toList 0;(0<=(IntKind.i64.wrap (d+(IntKind.i64.wrap ((IntKind.i64.wrap (IntKind.u64.wrap ((BitVec.ofInt 64 m&&& BitVec.ofInt 64 (IntKind.u64.wrap (g-(1:Int)))).toNat)))-e))))/\(IntKind.i64.wrap (d+(IntKind.i64.wrap ((IntKind.i64.wrap (IntKind.u64.wrap ((BitVec.ofInt 64 m&&& BitVec.ofInt 64 (IntKind.u64.wrap (g-(1:Int)))).toNat)))-e))))<(b:Int))/\Is a fun y:Addr=>(r.size=32/\(∀z∈r.toList,z.oneCell'=true)/\ ∀a1,a1<32->Wr x ((y.add ((IntKind.i64.wrap (d+(IntKind.i64.wrap ((IntKind.i64.wrap (IntKind.u64.wrap ((BitVec.ofInt 64 m&&& BitVec.ofInt 64 (IntKind.u64.wrap (g-(1:Int)))).toNat)))-e)))).toNat*32)).add a1))/\let b1:=setCells x (y.add ((IntKind.i64.wrap (d+(IntKind.i64.wrap ((IntKind.i64.wrap (IntKind.u64.wrap ((BitVec.ofInt 64 m&&& BitVec.ofInt 64 (IntKind.u64.wrap (g-(1:Int)))).toNat)))-e)))).toNat*32)) r.toList 0;Q .normal [(0,.slice a b c),(1,.int .i64 d),(8,.int .i64 e),(9,.pointer (some f)),(10,.int .u64 g),(11,.int .i64 (IntKind.i64.wrap (i+(1:Int))))] b1) (let c1:=k.drew;(0<=(IntKind.i64.wrap (d+(IntKind.i64.wrap (IntKind.u64.wrap ((BitVec.ofInt 64 m&&& BitVec.ofInt 64 (IntKind.u64.wrap (g-(1:Int)))).toNat)))))/\(IntKind.i64.wrap (d+(IntKind.i64.wrap (IntKind.u64.wrap ((BitVec.ofInt 64 m&&& BitVec.ofInt 64 (IntKind.u64.wrap (g-(1:Int)))).toNat)))))<(b:Int))/\Is a fun d1:Addr=> ∃e1:AV,(e1.size=32/\Cells c1 (d1.add ((IntKind.i64.wrap (d+(IntKind.i64.wrap (IntKind.u64.wrap ((BitVec.ofInt 64 m&&& BitVec.ofInt 64 (IntKind.u64.wrap (g-(1:Int)))).toNat))))).toNat*32)) e1)/\(0<=i/\i<(b:Int))/\Is a fun f1:Addr=> ∃g1:AV,(g1.size=32/\Cells c1 (f1.add (i.toNat*32)) g1)/\(0<=i/\i<(b:Int))/\Is a fun i1:Addr=>(e1.size=32/\(∀j1∈e1.toList,j1.oneCell'=true)/\ ∀k1,k1<32->Wr c1 ((i1.add (i.toNat*32)).add k1))/\let m1:=setCells c1 (i1.add (i.toNat*32)) e1.toList 0;(0<=(IntKind.i64.wrap (d+(IntKind.i64.wrap (IntKind.u64.wrap ((BitVec.ofInt 64 m&&& BitVec.ofInt 64 (IntKind.u64.wrap (g-(1:Int)))).toNat)))))/\(IntKind.i64.wrap (d+(IntKind.i64.wrap (IntKind.u64.wrap ((BitVec.ofInt 64 m&&& BitVec.ofInt 64 (IntKind.u64.wrap (g-(1:Int)))).toNat)))))<(b:Int))/\Is a fun n1:Addr=>(g1.size=32/\(∀o1∈g1.toList,o1.oneCell'=true)/\ ∀p1,p1<32->Wr m1 ((n1.add ((IntKind.i64.wrap (d+(IntKind.i64.wrap (IntKind.u64.wrap ((BitVec.ofInt 64 m&&& BitVec.ofInt 64 (IntKind.u64.wrap (g-(1:Int)))).toNat))))).toNat*32)).add p1))/\let q1:=setCells m1 (n1.add ((IntKind.i64.wrap (d+(IntKind.i64.wrap (IntKind.u64.wrap ((BitVec.ofInt 64 m&&& BitVec.ofInt 64 (IntKind.u64.wrap (g-(1:Int)))).toNat))))).toNat*32)) g1.toList 0;Q .normal [(0,.slice a b c),(1,.int .i64 d),(8,.int .i64 e),(9,.pointer (some f)),(10,.int .u64 g),(11,.int .i64 (IntKind.i64.wrap (i+(1:Int))))] q1)) (Q (.exit 0) [(0,.slice a b c),(1,.int .i64 d),(8,.int .i64 e),(9,.pointer (some f)),(10,.int .u64 g),(11,.int .i64 i)] w)
theorem dY.b1:(aW none [] prog 67 dY.k (lB (bB (sR (sR (sR (cT (sR (sR (body f124))))))))) dY.u1 Q [(0,.slice a b c),(1,.int .i64 d),(8,.int .i64 e),(9,.pointer (some f)),(10,.int .u64 g),(11,.int .i64 i)] w)=dY.B1 a b c d e f g i Q w:=by kernel_rfl
variable{a b c d e f g}
theorem dY.b9(I:Int->World->Prop)(μ:Int->World->Nat)(s:Int){Q:aN}{w:World}(h0:I s w)
 (round: ∀s w,I s w->dY.B1 a b c d e f g s (bK (dY.e1 a b c d e f g) I μ s w Q) w):Holds none [] prog 67 (.loop (lB (bB (sR (sR (sR (cT (sR (sR (body f124)))))))))) Q (dY.e1 a b c d e f g s) w:=
 bf ng mix (dY.e1 a b c d e f g) I μ dY.k dY.u1 s (fun s Q w=>dY.B1 a b c d e f g s Q w) (fun s Q w=>dY.b1 a b c d e f g s Q w) h0 round
end
section
def dY.cK(a:OA)(b:Nat)(c:Nat)(d:Int)(e:Int)(f:Addr)(g:Int)(i:Int)(K:KT)(w:World):Prop:=
 K (.tuple #[]) w
variable(a:OA)(b:Nat)(c:Nat)(d:Int)(e:Int)(f:Addr)(g:Int)(i:Int)(K:KT)(w:World)
theorem dY.cZ:(dY.q1 K (.exit 0) [(0,.slice a b c),(1,.int .i64 d),(8,.int .i64 e),(9,.pointer (some f)),(10,.int .u64 g),(11,.int .i64 i)] w)=dY.cK a b c d e f g i K w:=by kernel_rfl
end
def qS.k:List Nat:= []
section
variable(a:OA)(b:Nat)(d:Nat)(e:Int)(f:Int)(g:OA)(K:KT)(w:World)
def qS.W:Prop:=
 let i:=w.alloc (.cells (#[.int .i64 0]:AV) 3);(4:Int)≠0/\(4:Int)≠0/\(4:Int)≠0/\Split (decide ((IntKind.i64.wrap (f-e))>=(8:Int))) (Split (decide ((IntKind.i64.wrap (f-e))>=(50:Int))) (bk prog 138 #[.slice a b d,.int .i64 (IntKind.i64.wrap (e+(IntKind.i64.wrap ((IntKind.i64.wrap ((IntKind.i64.wrap (f-e)).tdiv (4:Int)))*(1:Int))))),.pointer (some (⟨w.heap.size,0,none⟩:Addr)),.func (.func 47) #[.pointer g] #[]] i fun j k=> ∃m:Int,j=.int .i64 m/\bk prog 138 #[.slice a b d,.int .i64 (IntKind.i64.wrap (e+(IntKind.i64.wrap ((IntKind.i64.wrap ((IntKind.i64.wrap (f-e)).tdiv (4:Int)))*(2:Int))))),.pointer (some (⟨w.heap.size,0,none⟩:Addr)),.func (.func 47) #[.pointer g] #[]] k fun n o=> ∃p:Int,n=.int .i64 p/\bk prog 138 #[.slice a b d,.int .i64 (IntKind.i64.wrap (e+(IntKind.i64.wrap ((IntKind.i64.wrap ((IntKind.i64.wrap (f-e)).tdiv (4:Int)))*(3:Int))))),.pointer (some (⟨w.heap.size,0,none⟩:Addr)),.func (.func 47) #[.pointer g] #[]] o fun q r=> ∃t:Int,q=.int .i64 t/\bk prog 139 #[.slice a b d,.int .i64 m,.int .i64 p,.int .i64 t,.pointer (some (⟨w.heap.size,0,none⟩:Addr)),.func (.func 47) #[.pointer g] #[]] r fun u v=> ∃x:Int,u=.int .i64 x/\ ∃y:Int,v.cell? (⟨w.heap.size,0,none⟩:Addr)=some (.int .i64 y)/\Split (y==(0:Int)) (K (.tuple #[.int .i64 x,.int .i64 1]) v) (Split (y==(12:Int)) (K (.tuple #[.int .i64 x,.int .i64 2]) v) (K (.tuple #[.int .i64 x,.int .i64 0]) v))) (bk prog 139 #[.slice a b d,.int .i64 (IntKind.i64.wrap (e+(IntKind.i64.wrap ((IntKind.i64.wrap ((IntKind.i64.wrap (f-e)).tdiv (4:Int)))*(1:Int))))),.int .i64 (IntKind.i64.wrap (e+(IntKind.i64.wrap ((IntKind.i64.wrap ((IntKind.i64.wrap (f-e)).tdiv (4:Int)))*(2:Int))))),.int .i64 (IntKind.i64.wrap (e+(IntKind.i64.wrap ((IntKind.i64.wrap ((IntKind.i64.wrap (f-e)).tdiv (4:Int)))*(3:Int))))),.pointer (some (⟨w.heap.size,0,none⟩:Addr)),.func (.func 47) #[.pointer g] #[]] i fun z a1=> ∃b1:Int,z=.int .i64 b1/\ ∃c1:Int,a1.cell? (⟨w.heap.size,0,none⟩:Addr)=some (.int .i64 c1)/\Split (c1==(0:Int)) (K (.tuple #[.int .i64 b1,.int .i64 1]) a1) (Split (c1==(12:Int)) (K (.tuple #[.int .i64 b1,.int .i64 2]) a1) (K (.tuple #[.int .i64 b1,.int .i64 0]) a1)))) (∃d1:Int,i.cell? (⟨w.heap.size,0,none⟩:Addr)=some (.int .i64 d1)/\Split (d1==(0:Int)) (K (.tuple #[.int .i64 (IntKind.i64.wrap (e+(IntKind.i64.wrap ((IntKind.i64.wrap ((IntKind.i64.wrap (f-e)).tdiv (4:Int)))*(2:Int))))),.int .i64 1]) i) (Split (d1==(12:Int)) (K (.tuple #[.int .i64 (IntKind.i64.wrap (e+(IntKind.i64.wrap ((IntKind.i64.wrap ((IntKind.i64.wrap (f-e)).tdiv (4:Int)))*(2:Int))))),.int .i64 2]) i) (K (.tuple #[.int .i64 (IntKind.i64.wrap (e+(IntKind.i64.wrap ((IntKind.i64.wrap ((IntKind.i64.wrap (f-e)).tdiv (4:Int)))*(2:Int))))),.int .i64 0]) i)))
variable{a b d e f g K w}
theorem qS.of(h:qS.W a b d e f g K w):bk prog 125 #[.slice a b d,.int .i64 e,.int .i64 f,.func (.func 47) #[.pointer g] #[]] w K:=
 aK (C:=qS.k) (c:=body f125) ng mix func125 (by kernel_rfl) (by kernel_rfl) (by kernel_rfl) h
end
def dX.k:List Nat:= []
def dX.q1(K:KT):aN:=(aL 0 (aR f126) (bH prog f126 K))
def dX.e1(a:OA)(b:Nat)(c:Nat)(s:Int×Int):Env:= [(0,.slice a b c),(8,.int .i64 s.1),(9,.int .i64 s.2)]
def dX.u1:List Nat:= [0,8,9]
section
def dX.W(a:OA)(b:Nat)(d:Nat)(e:Int)(f:Int)(g:OA)(K:KT)(w:World):Prop:=
 Holds none [] prog 34 (.loop (lB (bB (sR (sR (body f126)))))) (dX.q1 K) [(0,.slice a b d),(8,.int .i64 e),(9,.int .i64 (IntKind.i64.wrap (f-(1:Int))))] w
variable(a:OA)(b:Nat)(d:Nat)(e:Int)(f:Int)(g:OA)(K:KT)(w:World)
variable{a b d e f g K w}
theorem dX.of(h:dX.W a b d e f g K w):bk prog 126 #[.slice a b d,.int .i64 e,.int .i64 f,.func (.func 47) #[.pointer g] #[]] w K:=
 aK (C:=dX.k) (c:=body f126) ng mix func126 (by kernel_rfl) (by kernel_rfl) (by kernel_rfl) h
end
section
variable(a:OA)(b:Nat)(c:Nat)(d:Int)(e:Int)(Q:aN)(w:World)
def dX.B1:Prop:=
 Split (decide (d<e)) (let f:=w.drew;(0<=e/\e<(b:Int))/\Is a fun g:Addr=> ∃i:AV,(i.size=32/\Cells f (g.add (e.toNat*32)) i)/\(0<=d/\d<(b:Int))/\Is a fun j:Addr=> ∃k:AV,(k.size=32/\Cells f (j.add (d.toNat*32)) k)/\(0<=d/\d<(b:Int))/\Is a fun m:Addr=>(i.size=32/\(∀n∈i.toList,n.oneCell'=true)/\ ∀o,o<32->Wr f ((m.add (d.toNat*32)).add o))/\let p:=setCells f (m.add (d.toNat*32)) i.toList 0;(0<=e/\e<(b:Int))/\Is a fun q:Addr=>(k.size=32/\(∀r∈k.toList,r.oneCell'=true)/\ ∀t,t<32->Wr p ((q.add (e.toNat*32)).add t))/\let u:=setCells p (q.add (e.toNat*32)) k.toList 0;Q .normal [(0,.slice a b c),(8,.int .i64 (IntKind.i64.wrap (d+(1:Int)))),(9,.int .i64 (IntKind.i64.wrap (e-(1:Int))))] u) (Q (.exit 0) [(0,.slice a b c),(8,.int .i64 d),(9,.int .i64 e)] w)
theorem dX.b1:(aW none [] prog 34 dX.k (lB (bB (sR (sR (body f126))))) dX.u1 Q [(0,.slice a b c),(8,.int .i64 d),(9,.int .i64 e)] w)=dX.B1 a b c d e Q w:=by kernel_rfl
variable{a b c}
theorem dX.b9(I:Int×Int->World->Prop)(μ:Int×Int->World->Nat)(s:Int×Int){Q:aN}{w:World}(h0:I s w)
 (round: ∀s w,I s w->dX.B1 a b c (s.1) (s.2) (bK (dX.e1 a b c) I μ s w Q) w):Holds none [] prog 34 (.loop (lB (bB (sR (sR (body f126)))))) Q (dX.e1 a b c s) w:=
 bf ng mix (dX.e1 a b c) I μ dX.k dX.u1 s (fun s Q w=>dX.B1 a b c (s.1) (s.2) Q w) (fun s Q w=>dX.b1 a b c (s.1) (s.2) Q w) h0 round
end
section
def dX.cK(a:OA)(b:Nat)(c:Nat)(d:Int)(e:Int)(K:KT)(w:World):Prop:=
 K (.tuple #[]) w
variable(a:OA)(b:Nat)(c:Nat)(d:Int)(e:Int)(K:KT)(w:World)
theorem dX.cZ:(dX.q1 K (.exit 0) [(0,.slice a b c),(8,.int .i64 d),(9,.int .i64 e)] w)=dX.cK a b c d e K w:=by kernel_rfl
end
def bz.k:List Nat:= []
def bz.q1(K:KT):aN:=(aL 0 (b7 (sR (sR (sR (body f127))))++(aR f127)) (bT (fun bW w_=>match cutAt bz.k (sR (sR (sR (body f127))))with|true=>Holds none [] prog 141 (sR (sR (sR (body f127)))) (bH prog f127 K) bW w_|false=>aW none [] prog 141 bz.k (sR (sR (sR (body f127)))) (aR f127) (bH prog f127 K) bW w_) (bH prog f127 K)))
def bz.e1(a:OA)(b:Nat)(c:Nat)(d:Int)(e:Int)(f:OA)(s:Bool×Int×Int):Env:= [(0,.slice a b c),(1,.int .i64 d),(2,.int .i64 e),(3,.func (.func 47) #[.pointer f] #[]),(8,.bool s.1),(9,.int .i64 s.2.1),(10,.int .i64 s.2.2)]
def bz.u1:List Nat:= [0,1,2,3,8,9,10]
def bz.q2(Q:aN):aN:=(aL 2 (b7 (sR (bB (sL (sR (lB (bB (sR (sL (sR (sR (body f127)))))))))))++(b7 (sR (sR (lB (bB (sR (sL (sR (sR (body f127)))))))))++bz.u1)) (bT (fun bW w_=>match cutAt bz.k (sR (bB (sL (sR (lB (bB (sR (sL (sR (sR (body f127)))))))))))with|true=>Holds none [] prog 141 (sR (bB (sL (sR (lB (bB (sR (sL (sR (sR (body f127))))))))))) (aL 1 (b7 (sR (sR (lB (bB (sR (sL (sR (sR (body f127)))))))))++bz.u1) (bT (fun bW w_=>match cutAt bz.k (sR (sR (lB (bB (sR (sL (sR (sR (body f127)))))))))with|true=>Holds none [] prog 141 (sR (sR (lB (bB (sR (sL (sR (sR (body f127))))))))) Q bW w_|false=>aW none [] prog 141 bz.k (sR (sR (lB (bB (sR (sL (sR (sR (body f127))))))))) bz.u1 Q bW w_) Q)) bW w_|false=>aW none [] prog 141 bz.k (sR (bB (sL (sR (lB (bB (sR (sL (sR (sR (body f127))))))))))) (b7 (sR (sR (lB (bB (sR (sL (sR (sR (body f127)))))))))++bz.u1) (aL 1 (b7 (sR (sR (lB (bB (sR (sL (sR (sR (body f127)))))))))++bz.u1) (bT (fun bW w_=>match cutAt bz.k (sR (sR (lB (bB (sR (sL (sR (sR (body f127)))))))))with|true=>Holds none [] prog 141 (sR (sR (lB (bB (sR (sL (sR (sR (body f127))))))))) Q bW w_|false=>aW none [] prog 141 bz.k (sR (sR (lB (bB (sR (sL (sR (sR (body f127))))))))) bz.u1 Q bW w_) Q)) bW w_) (aL 1 (b7 (sR (sR (lB (bB (sR (sL (sR (sR (body f127)))))))))++bz.u1) (bT (fun bW w_=>match cutAt bz.k (sR (sR (lB (bB (sR (sL (sR (sR (body f127)))))))))with|true=>Holds none [] prog 141 (sR (sR (lB (bB (sR (sL (sR (sR (body f127))))))))) Q bW w_|false=>aW none [] prog 141 bz.k (sR (sR (lB (bB (sR (sL (sR (sR (body f127))))))))) bz.u1 Q bW w_) Q))))
def bz.e2(a:OA)(b:Nat)(c:Nat)(d:Int)(e:Int)(f:OA)(g:Bool)(i:Int)(s:Int):Env:= [(0,.slice a b c),(1,.int .i64 d),(2,.int .i64 e),(3,.func (.func 47) #[.pointer f] #[]),(8,.bool g),(9,.int .i64 s),(10,.int .i64 i)]
def bz.u2:List Nat:= [0,1,2,3,8,9,10]
def bz.q3(Q:aN):aN:=(aL 4 (b7 (sR (sR (sR (sR (sR (bB (sL (sR (lB (bB (sR (sL (sR (sR (body f127)))))))))))))))++(b7 (sR (sR (lB (bB (sR (sL (sR (sR (body f127)))))))))++bz.u1)) (bT (fun bW w_=>match cutAt bz.k (sR (sR (sR (sR (sR (bB (sL (sR (lB (bB (sR (sL (sR (sR (body f127)))))))))))))))with|true=>Holds none [] prog 141 (sR (sR (sR (sR (sR (bB (sL (sR (lB (bB (sR (sL (sR (sR (body f127))))))))))))))) (aL 1 (b7 (sR (sR (lB (bB (sR (sL (sR (sR (body f127)))))))))++bz.u1) (bT (fun bW w_=>match cutAt bz.k (sR (sR (lB (bB (sR (sL (sR (sR (body f127)))))))))with|true=>Holds none [] prog 141 (sR (sR (lB (bB (sR (sL (sR (sR (body f127))))))))) Q bW w_|false=>aW none [] prog 141 bz.k (sR (sR (lB (bB (sR (sL (sR (sR (body f127))))))))) bz.u1 Q bW w_) Q)) bW w_|false=>aW none [] prog 141 bz.k (sR (sR (sR (sR (sR (bB (sL (sR (lB (bB (sR (sL (sR (sR (body f127))))))))))))))) (b7 (sR (sR (lB (bB (sR (sL (sR (sR (body f127)))))))))++bz.u1) (aL 1 (b7 (sR (sR (lB (bB (sR (sL (sR (sR (body f127)))))))))++bz.u1) (bT (fun bW w_=>match cutAt bz.k (sR (sR (lB (bB (sR (sL (sR (sR (body f127)))))))))with|true=>Holds none [] prog 141 (sR (sR (lB (bB (sR (sL (sR (sR (body f127))))))))) Q bW w_|false=>aW none [] prog 141 bz.k (sR (sR (lB (bB (sR (sL (sR (sR (body f127))))))))) bz.u1 Q bW w_) Q)) bW w_) (aL 1 (b7 (sR (sR (lB (bB (sR (sL (sR (sR (body f127)))))))))++bz.u1) (bT (fun bW w_=>match cutAt bz.k (sR (sR (lB (bB (sR (sL (sR (sR (body f127)))))))))with|true=>Holds none [] prog 141 (sR (sR (lB (bB (sR (sL (sR (sR (body f127))))))))) Q bW w_|false=>aW none [] prog 141 bz.k (sR (sR (lB (bB (sR (sL (sR (sR (body f127))))))))) bz.u1 Q bW w_) Q))))
def bz.q4(Q:aN):aN:=(aL 6 (b7 (sR (sR (lB (bB (sR (sL (sR (sR (body f127)))))))))++bz.u1) (aL 1 (b7 (sR (sR (lB (bB (sR (sL (sR (sR (body f127)))))))))++bz.u1) (bT (fun bW w_=>match cutAt bz.k (sR (sR (lB (bB (sR (sL (sR (sR (body f127)))))))))with|true=>Holds none [] prog 141 (sR (sR (lB (bB (sR (sL (sR (sR (body f127))))))))) Q bW w_|false=>aW none [] prog 141 bz.k (sR (sR (lB (bB (sR (sL (sR (sR (body f127))))))))) bz.u1 Q bW w_) Q)))
section
variable(a:OA)(b:Nat)(d:Nat)(e:Int)(f:Int)(g:OA)(K:KT)(w:World)
def bz.W:Prop:=
 Holds none [] prog 141 (.loop (lB (bB (sR (sL (sR (sR (body f127)))))))) (bz.q1 K) [(0,.slice a b d),(1,.int .i64 e),(2,.int .i64 f),(3,.func (.func 47) #[.pointer g] #[]),(8,.bool false),(9,.int .i64 (IntKind.i64.wrap (e+(1:Int)))),(10,.int .i64 0)] w
variable{a b d e f g K w}
theorem bz.of(h:bz.W a b d e f g K w):bk prog 127 #[.slice a b d,.int .i64 e,.int .i64 f,.func (.func 47) #[.pointer g] #[]] w K:=
 aK (C:=bz.k) (c:=body f127) ng mix func127 (by kernel_rfl) (by kernel_rfl) (by kernel_rfl) h
end
section
variable(a:OA)(b:Nat)(c:Nat)(d:Int)(e:Int)(f:OA)(g:Bool)(i:Int)(j:Int)(Q:aN)(w:World)
def bz.B1:Prop:=
 Split (decide (j<(5:Int))) (Holds none [] prog 141 (.loop (lB (bB (sL (bB (sL (sR (lB (bB (sR (sL (sR (sR (body f127)))))))))))))) (bz.q2 Q) [(0,.slice a b c),(1,.int .i64 d),(2,.int .i64 e),(3,.func (.func 47) #[.pointer f] #[]),(8,.bool g),(9,.int .i64 i),(10,.int .i64 j)] w) (Q (.exit 0) [(0,.slice a b c),(1,.int .i64 d),(2,.int .i64 e),(3,.func (.func 47) #[.pointer f] #[]),(8,.bool g),(9,.int .i64 i),(10,.int .i64 j)] w)
theorem bz.b1:(aW none [] prog 141 bz.k (lB (bB (sR (sL (sR (sR (body f127))))))) bz.u1 Q [(0,.slice a b c),(1,.int .i64 d),(2,.int .i64 e),(3,.func (.func 47) #[.pointer f] #[]),(8,.bool g),(9,.int .i64 i),(10,.int .i64 j)] w)=bz.B1 a b c d e f g i j Q w:=by kernel_rfl
variable{a b c d e f}
theorem bz.b9(I:Bool×Int×Int->World->Prop)(μ:Bool×Int×Int->World->Nat)(s:Bool×Int×Int){Q:aN}{w:World}(h0:I s w)
 (round: ∀s w,I s w->bz.B1 a b c d e f (s.1) (s.2.1) (s.2.2) (bK (bz.e1 a b c d e f) I μ s w Q) w):Holds none [] prog 141 (.loop (lB (bB (sR (sL (sR (sR (body f127)))))))) Q (bz.e1 a b c d e f s) w:=
 bf ng mix (bz.e1 a b c d e f) I μ bz.k bz.u1 s (fun s Q w=>bz.B1 a b c d e f (s.1) (s.2.1) (s.2.2) Q w) (fun s Q w=>bz.b1 a b c d e f (s.1) (s.2.1) (s.2.2) Q w) h0 round
end
section
variable(a:OA)(b:Nat)(c:Nat)(d:Int)(e:Int)(f:OA)(g:Bool)(i:Int)(j:Int)(K:KT)(w:World)
end
section
variable(a:OA)(b:Nat)(c:Nat)(d:Int)(e:Int)(f:OA)(g:Bool)(i:Int)(j:Int)(Q:aN)(w:World)
def bz.B2:Prop:=
 let k:=w.drew;Split (decide (i<e)) ((0<=i/\i<(b:Int))/\Is a fun m:Addr=> ∃n:AV,(n.size=32/\Cells k (m.add (i.toNat*32)) n)/\(0<=(IntKind.i64.wrap (i-(1:Int)))/\(IntKind.i64.wrap (i-(1:Int)))<(b:Int))/\Is a fun o:Addr=> ∃p:AV,(p.size=32/\Cells k (o.add ((IntKind.i64.wrap (i-(1:Int))).toNat*32)) p)/\bk prog 47 #[.pointer f,.agg n,.agg p] k fun q r=> ∃t:Int,q=.int .i64 t/\Split (!(decide (t<(0:Int)))) (Q .normal [(0,.slice a b c),(1,.int .i64 d),(2,.int .i64 e),(3,.func (.func 47) #[.pointer f] #[]),(8,.bool g),(9,.int .i64 (IntKind.i64.wrap (i+(1:Int)))),(10,.int .i64 j)] r) (Q (.exit 2) [(0,.slice a b c),(1,.int .i64 d),(2,.int .i64 e),(3,.func (.func 47) #[.pointer f] #[]),(8,.bool g),(9,.int .i64 i),(10,.int .i64 j)] r)) (Q (.exit 2) [(0,.slice a b c),(1,.int .i64 d),(2,.int .i64 e),(3,.func (.func 47) #[.pointer f] #[]),(8,.bool g),(9,.int .i64 i),(10,.int .i64 j)] k)
theorem bz.b2:(aW none [] prog 141 bz.k (lB (bB (sL (bB (sL (sR (lB (bB (sR (sL (sR (sR (body f127))))))))))))) bz.u2 Q [(0,.slice a b c),(1,.int .i64 d),(2,.int .i64 e),(3,.func (.func 47) #[.pointer f] #[]),(8,.bool g),(9,.int .i64 i),(10,.int .i64 j)] w)=bz.B2 a b c d e f g i j Q w:=by kernel_rfl
variable{a b c d e f g j}
theorem bz.gI(I:Int->World->Prop)(μ:Int->World->Nat)(s:Int){Q:aN}{w:World}(h0:I s w)
 (round: ∀s w,I s w->bz.B2 a b c d e f g s j (bK (bz.e2 a b c d e f g j) I μ s w Q) w):Holds none [] prog 141 (.loop (lB (bB (sL (bB (sL (sR (lB (bB (sR (sL (sR (sR (body f127)))))))))))))) Q (bz.e2 a b c d e f g j s) w:=
 bf ng mix (bz.e2 a b c d e f g j) I μ bz.k bz.u2 s (fun s Q w=>bz.B2 a b c d e f g s j Q w) (fun s Q w=>bz.b2 a b c d e f g s j Q w) h0 round
end
section
variable(a:OA)(b:Nat)(c:Nat)(d:Int)(e:Int)(f:OA)(g:Bool)(i:Int)(j:Int)(Q:aN)(w:World)
def bz.iu:Prop:=
 Split (i==e) (Q .ret [(0,.slice a b c),(1,.int .i64 d),(2,.int .i64 e),(3,.func (.func 47) #[.pointer f] #[]),(8,.bool true),(9,.int .i64 i),(10,.int .i64 j)] w) (Split (decide ((IntKind.i64.wrap (e-d))<(50:Int))) (Q .ret [(0,.slice a b c),(1,.int .i64 d),(2,.int .i64 e),(3,.func (.func 47) #[.pointer f] #[]),(8,.bool false),(9,.int .i64 i),(10,.int .i64 j)] w) (let k:=w.drew;(0<=(IntKind.i64.wrap (i-(1:Int)))/\(IntKind.i64.wrap (i-(1:Int)))<(b:Int))/\Is a fun m:Addr=> ∃n:AV,(n.size=32/\Cells k (m.add ((IntKind.i64.wrap (i-(1:Int))).toNat*32)) n)/\(0<=i/\i<(b:Int))/\Is a fun o:Addr=> ∃p:AV,(p.size=32/\Cells k (o.add (i.toNat*32)) p)/\(0<=i/\i<(b:Int))/\Is a fun q:Addr=>(n.size=32/\(∀r∈n.toList,r.oneCell'=true)/\ ∀t,t<32->Wr k ((q.add (i.toNat*32)).add t))/\let u:=setCells k (q.add (i.toNat*32)) n.toList 0;(0<=(IntKind.i64.wrap (i-(1:Int)))/\(IntKind.i64.wrap (i-(1:Int)))<(b:Int))/\Is a fun v:Addr=>(p.size=32/\(∀x∈p.toList,x.oneCell'=true)/\ ∀y,y<32->Wr u ((v.add ((IntKind.i64.wrap (i-(1:Int))).toNat*32)).add y))/\let z:=setCells u (v.add ((IntKind.i64.wrap (i-(1:Int))).toNat*32)) p.toList 0;Split (decide ((IntKind.i64.wrap (i-d))>=(2:Int))) (Holds none [] prog 141 (.loop (lB (bB (sR (cT (sR (sL (sR (sR (sR (sR (bB (sL (sR (lB (bB (sR (sL (sR (sR (body f127))))))))))))))))))))) (bz.q3 Q) [(0,.slice a b c),(1,.int .i64 d),(2,.int .i64 e),(3,.func (.func 47) #[.pointer f] #[]),(8,.bool g),(9,.int .i64 i),(10,.int .i64 j),(11,.int .i64 (IntKind.i64.wrap (i-(1:Int))))] z) (Split (decide ((IntKind.i64.wrap (e-i))>=(2:Int))) (Holds none [] prog 141 (.loop (lB (bB (sR (cT (sR (sR (sR (sR (sR (sR (bB (sL (sR (lB (bB (sR (sL (sR (sR (body f127))))))))))))))))))))) (bz.q4 Q) [(0,.slice a b c),(1,.int .i64 d),(2,.int .i64 e),(3,.func (.func 47) #[.pointer f] #[]),(8,.bool g),(9,.int .i64 i),(10,.int .i64 j),(12,.int .i64 (IntKind.i64.wrap (i+(1:Int))))] z) (Q .normal [(0,.slice a b c),(1,.int .i64 d),(2,.int .i64 e),(3,.func (.func 47) #[.pointer f] #[]),(8,.bool g),(9,.int .i64 i),(10,.int .i64 (IntKind.i64.wrap (j+(1:Int))))] z))))
theorem bz.jF:(bz.q2 Q (.exit 2) [(0,.slice a b c),(1,.int .i64 d),(2,.int .i64 e),(3,.func (.func 47) #[.pointer f] #[]),(8,.bool g),(9,.int .i64 i),(10,.int .i64 j)] w)=bz.iu a b c d e f g i j Q w:=by kernel_rfl
end
section
variable(a:OA)(b:Nat)(c:Nat)(d:Int)(e:Int)(f:OA)(g:Bool)(i:Int)(j:Int)(k:Int)(Q:aN)(w:World)
variable{a b c d e f g i j}
end
section
variable(a:OA)(b:Nat)(c:Nat)(d:Int)(e:Int)(f:OA)(g:Bool)(i:Int)(j:Int)(k:Int)(Q:aN)(w:World)
end
section
variable(a:OA)(b:Nat)(c:Nat)(d:Int)(e:Int)(f:OA)(g:Bool)(i:Int)(j:Int)(k:Int)(Q:aN)(w:World)
variable{a b c d e f g i j}
end
section
variable(a:OA)(b:Nat)(c:Nat)(d:Int)(e:Int)(f:OA)(g:Bool)(i:Int)(j:Int)(k:Int)(Q:aN)(w:World)
end
section
variable(a:OA)(b:Nat)(d:Nat)(e:Int)(f:Int)(g:Int)(i:OA)(K:KT)(w:World)
variable{a b d e f g i K w}
end
section
variable(a:OA)(b:Nat)(c:Nat)(d:Int)(e:OA)(f:Int)(g:Int)(i:Int)(Q:aN)(w:World)
variable{a b c d e f}
end
section
variable(a:OA)(b:Nat)(c:Nat)(d:Int)(e:OA)(f:Int)(g:Int)(i:Int)(Q:aN)(w:World)
variable{a b c d e f i}
end
section
variable(a:OA)(b:Nat)(c:Nat)(d:Int)(e:OA)(f:Int)(g:Int)(i:Int)(Q:aN)(w:World)
end
section
variable(a:OA)(b:Nat)(c:Nat)(d:Int)(e:OA)(f:Int)(g:Int)(i:Int)(Q:aN)(w:World)
variable{a b c d e f g}
end
section
variable(a:OA)(b:Nat)(c:Nat)(d:Int)(e:OA)(f:Int)(g:Int)(i:Int)(Q:aN)(w:World)
end
section
variable(a:OA)(b:Nat)(c:Nat)(d:Int)(e:OA)(f:Int)(g:Int)(i:Int)(K:KT)(w:World)
end
def aQ.k:List Nat:= []
def aQ.q1(K:KT):aN:=(aL 0 (b7 (sR (sR (sR (sR (body Tryz.f129)))))++(aR Tryz.f129)) (bT (fun bW w_=>match cutAt aQ.k (sR (sR (sR (sR (body Tryz.f129)))))with|true=>Holds none [] prog 178 (sR (sR (sR (sR (body Tryz.f129))))) (bH prog Tryz.f129 K) bW w_|false=>aW none [] prog 178 aQ.k (sR (sR (sR (sR (body Tryz.f129))))) (aR Tryz.f129) (bH prog Tryz.f129 K) bW w_) (bH prog Tryz.f129 K)))
def aQ.e1(a:OA)(b:Nat)(c:Nat)(d:Int)(e:OA)(f:Int)(g:Int)(s:Int):Env:= [(0,.slice a b c),(1,.int .i64 d),(4,.func (.func 47) #[.pointer e] #[]),(10,.int .i64 f),(11,.bool false),(12,.int .i64 s),(13,.int .i64 g)]
def aQ.u1:List Nat:= [0,1,4,10,11,12,13]
def aQ.q2(K:KT):aN:=(aL 2 (b7 (sR (sR (sR (sR (sR (body Tryz.f129))))))++(aR Tryz.f129)) (bT (fun bW w_=>match cutAt aQ.k (sR (sR (sR (sR (sR (body Tryz.f129))))))with|true=>Holds none [] prog 178 (sR (sR (sR (sR (sR (body Tryz.f129)))))) (bH prog Tryz.f129 K) bW w_|false=>aW none [] prog 178 aQ.k (sR (sR (sR (sR (sR (body Tryz.f129)))))) (aR Tryz.f129) (bH prog Tryz.f129 K) bW w_) (bH prog Tryz.f129 K)))
def aQ.e2(a:OA)(b:Nat)(c:Nat)(d:Int)(e:OA)(f:Int)(g:Int)(s:Int):Env:= [(0,.slice a b c),(1,.int .i64 d),(4,.func (.func 47) #[.pointer e] #[]),(10,.int .i64 f),(11,.bool false),(12,.int .i64 g),(13,.int .i64 s)]
def aQ.u2:List Nat:= [0,1,4,10,11,12,13]
def aQ.q3(K:KT):aN:=(aL 4 (b7 (sR (sR (sR (sR (sR (sR (sR (sR (sR (sR (body Tryz.f129)))))))))))++(aR Tryz.f129)) (bT (fun bW w_=>match cutAt aQ.k (sR (sR (sR (sR (sR (sR (sR (sR (sR (sR (body Tryz.f129)))))))))))with|true=>Holds none [] prog 178 (sR (sR (sR (sR (sR (sR (sR (sR (sR (sR (body Tryz.f129))))))))))) (bH prog Tryz.f129 K) bW w_|false=>aW none [] prog 178 aQ.k (sR (sR (sR (sR (sR (sR (sR (sR (sR (sR (body Tryz.f129))))))))))) (aR Tryz.f129) (bH prog Tryz.f129 K) bW w_) (bH prog Tryz.f129 K)))
def aQ.e3(a:OA)(b:Nat)(c:Nat)(d:Int)(e:OA)(f:Int)(s:Int×Int):Env:= [(0,.slice a b c),(1,.int .i64 d),(4,.func (.func 47) #[.pointer e] #[]),(10,.int .i64 f),(11,.bool false),(12,.int .i64 s.1),(13,.int .i64 s.2)]
def aQ.u3:List Nat:= [0,1,4,10,11,12,13]
def aQ.q4(Q:aN):aN:=(aL 6 (b7 (sR (bB (lB (bB (sL (sR (sR (sR (sR (sR (sR (sR (sR (sR (body Tryz.f129)))))))))))))))++aQ.u3) (bT (fun bW w_=>match cutAt aQ.k (sR (bB (lB (bB (sL (sR (sR (sR (sR (sR (sR (sR (sR (sR (body Tryz.f129)))))))))))))))with|true=>Holds none [] prog 178 (sR (bB (lB (bB (sL (sR (sR (sR (sR (sR (sR (sR (sR (sR (body Tryz.f129))))))))))))))) (aL 5 aQ.u3 Q) bW w_|false=>aW none [] prog 178 aQ.k (sR (bB (lB (bB (sL (sR (sR (sR (sR (sR (sR (sR (sR (sR (body Tryz.f129))))))))))))))) aQ.u3 (aL 5 aQ.u3 Q) bW w_) (aL 5 aQ.u3 Q)))
def aQ.e4(a:OA)(b:Nat)(c:Nat)(d:Int)(e:OA)(f:Int)(g:Int)(s:Int):Env:= [(0,.slice a b c),(1,.int .i64 d),(4,.func (.func 47) #[.pointer e] #[]),(10,.int .i64 f),(11,.bool false),(12,.int .i64 s),(13,.int .i64 g)]
def aQ.u4:List Nat:= [0,1,4,10,11,12,13]
def aQ.q5(Q:aN):aN:=(aL 8 (b7 (sR (sR (bB (lB (bB (sL (sR (sR (sR (sR (sR (sR (sR (sR (sR (body Tryz.f129))))))))))))))))++aQ.u3) (bT (fun bW w_=>match cutAt aQ.k (sR (sR (bB (lB (bB (sL (sR (sR (sR (sR (sR (sR (sR (sR (sR (body Tryz.f129))))))))))))))))with|true=>Holds none [] prog 178 (sR (sR (bB (lB (bB (sL (sR (sR (sR (sR (sR (sR (sR (sR (sR (body Tryz.f129)))))))))))))))) (aL 5 aQ.u3 Q) bW w_|false=>aW none [] prog 178 aQ.k (sR (sR (bB (lB (bB (sL (sR (sR (sR (sR (sR (sR (sR (sR (sR (body Tryz.f129)))))))))))))))) aQ.u3 (aL 5 aQ.u3 Q) bW w_) (aL 5 aQ.u3 Q)))
def aQ.e5(a:OA)(b:Nat)(c:Nat)(d:Int)(e:OA)(f:Int)(g:Int)(s:Int):Env:= [(0,.slice a b c),(1,.int .i64 d),(4,.func (.func 47) #[.pointer e] #[]),(10,.int .i64 f),(11,.bool false),(12,.int .i64 g),(13,.int .i64 s)]
def aQ.u5:List Nat:= [0,1,4,10,11,12,13]
section
variable(a:OA)(b:Nat)(d:Nat)(e:Int)(f:Int)(g:Int)(i:OA)(K:KT)(w:World)
def aQ.W:Prop:=
 let j:=w.drew;(0<=g/\g<(b:Int))/\Is a fun k:Addr=> ∃m:AV,(m.size=32/\Cells j (k.add (g.toNat*32)) m)/\(0<=e/\e<(b:Int))/\Is a fun n:Addr=> ∃o:AV,(o.size=32/\Cells j (n.add (e.toNat*32)) o)/\(0<=e/\e<(b:Int))/\Is a fun p:Addr=>(m.size=32/\(∀q∈m.toList,q.oneCell'=true)/\ ∀r,r<32->Wr j ((p.add (e.toNat*32)).add r))/\let t:=setCells j (p.add (e.toNat*32)) m.toList 0;(0<=g/\g<(b:Int))/\Is a fun u:Addr=>(o.size=32/\(∀v∈o.toList,v.oneCell'=true)/\ ∀x,x<32->Wr t ((u.add (g.toNat*32)).add x))/\let y:=setCells t (u.add (g.toNat*32)) o.toList 0;Holds none [] prog 178 (.loop (lB (bB (sL (sR (sR (sR (body Tryz.f129)))))))) (aQ.q1 K) [(0,.slice a b d),(1,.int .i64 e),(4,.func (.func 47) #[.pointer i] #[]),(10,.int .i64 0),(11,.bool false),(12,.int .i64 (IntKind.i64.wrap (e+(1:Int)))),(13,.int .i64 (IntKind.i64.wrap (f-(1:Int))))] y
variable{a b d e f g i K w}
theorem aQ.of(h:aQ.W a b d e f g i K w):bk prog 129 #[.slice a b d,.int .i64 e,.int .i64 f,.int .i64 g,.func (.func 47) #[.pointer i] #[]] w K:=
 aK (C:=aQ.k) (c:=body Tryz.f129) ng mix func129 (by kernel_rfl) (by kernel_rfl) (by kernel_rfl) h
end
section
variable(a:OA)(b:Nat)(c:Nat)(d:Int)(e:OA)(f:Int)(g:Int)(i:Int)(Q:aN)(w:World)
def aQ.B1:Prop:=
 let j:=w.drew;Split (decide (g<=i)) ((0<=g/\g<(b:Int))/\Is a fun k:Addr=> ∃m:AV,(m.size=32/\Cells j (k.add (g.toNat*32)) m)/\(0<=d/\d<(b:Int))/\Is a fun n:Addr=> ∃o:AV,(o.size=32/\Cells j (n.add (d.toNat*32)) o)/\bk prog 47 #[.pointer e,.agg m,.agg o] j fun p q=> ∃r:Int,p=.int .i64 r/\Split (decide (r<(0:Int))) (Q .normal [(0,.slice a b c),(1,.int .i64 d),(4,.func (.func 47) #[.pointer e] #[]),(10,.int .i64 f),(11,.bool false),(12,.int .i64 (IntKind.i64.wrap (g+(1:Int)))),(13,.int .i64 i)] q) (Q (.exit 0) [(0,.slice a b c),(1,.int .i64 d),(4,.func (.func 47) #[.pointer e] #[]),(10,.int .i64 f),(11,.bool false),(12,.int .i64 g),(13,.int .i64 i)] q)) (Q (.exit 0) [(0,.slice a b c),(1,.int .i64 d),(4,.func (.func 47) #[.pointer e] #[]),(10,.int .i64 f),(11,.bool false),(12,.int .i64 g),(13,.int .i64 i)] j)
theorem aQ.b1:(aW none [] prog 178 aQ.k (lB (bB (sL (sR (sR (sR (body Tryz.f129))))))) aQ.u1 Q [(0,.slice a b c),(1,.int .i64 d),(4,.func (.func 47) #[.pointer e] #[]),(10,.int .i64 f),(11,.bool false),(12,.int .i64 g),(13,.int .i64 i)] w)=aQ.B1 a b c d e f g i Q w:=by kernel_rfl
variable{a b c d e f i}
theorem aQ.b9(I:Int->World->Prop)(μ:Int->World->Nat)(s:Int){Q:aN}{w:World}(h0:I s w)
 (round: ∀s w,I s w->aQ.B1 a b c d e f s i (bK (aQ.e1 a b c d e f i) I μ s w Q) w):Holds none [] prog 178 (.loop (lB (bB (sL (sR (sR (sR (body Tryz.f129)))))))) Q (aQ.e1 a b c d e f i s) w:=
 bf ng mix (aQ.e1 a b c d e f i) I μ aQ.k aQ.u1 s (fun s Q w=>aQ.B1 a b c d e f s i Q w) (fun s Q w=>aQ.b1 a b c d e f s i Q w) h0 round
end
section
variable(a:OA)(b:Nat)(c:Nat)(d:Int)(e:OA)(f:Int)(g:Int)(i:Int)(K:KT)(w:World)
def aQ.cK:Prop:=
 Holds none [] prog 178 (.loop (lB (bB (sL (sR (sR (sR (sR (body Tryz.f129))))))))) (aQ.q2 K) [(0,.slice a b c),(1,.int .i64 d),(4,.func (.func 47) #[.pointer e] #[]),(10,.int .i64 f),(11,.bool false),(12,.int .i64 g),(13,.int .i64 i)] w
theorem aQ.cZ:(aQ.q1 K (.exit 0) [(0,.slice a b c),(1,.int .i64 d),(4,.func (.func 47) #[.pointer e] #[]),(10,.int .i64 f),(11,.bool false),(12,.int .i64 g),(13,.int .i64 i)] w)=aQ.cK a b c d e f g i K w:=by kernel_rfl
end
section
variable(a:OA)(b:Nat)(c:Nat)(d:Int)(e:OA)(f:Int)(g:Int)(i:Int)(Q:aN)(w:World)
def aQ.B2:Prop:=
 let j:=w.drew;Split (decide (g<=i)) ((0<=i/\i<(b:Int))/\Is a fun k:Addr=> ∃m:AV,(m.size=32/\Cells j (k.add (i.toNat*32)) m)/\(0<=d/\d<(b:Int))/\Is a fun n:Addr=> ∃o:AV,(o.size=32/\Cells j (n.add (d.toNat*32)) o)/\bk prog 47 #[.pointer e,.agg m,.agg o] j fun p q=> ∃r:Int,p=.int .i64 r/\Split (!(decide (r<(0:Int)))) (Q .normal [(0,.slice a b c),(1,.int .i64 d),(4,.func (.func 47) #[.pointer e] #[]),(10,.int .i64 f),(11,.bool false),(12,.int .i64 g),(13,.int .i64 (IntKind.i64.wrap (i-(1:Int))))] q) (Q (.exit 2) [(0,.slice a b c),(1,.int .i64 d),(4,.func (.func 47) #[.pointer e] #[]),(10,.int .i64 f),(11,.bool false),(12,.int .i64 g),(13,.int .i64 i)] q)) (Q (.exit 2) [(0,.slice a b c),(1,.int .i64 d),(4,.func (.func 47) #[.pointer e] #[]),(10,.int .i64 f),(11,.bool false),(12,.int .i64 g),(13,.int .i64 i)] j)
theorem aQ.b2:(aW none [] prog 178 aQ.k (lB (bB (sL (sR (sR (sR (sR (body Tryz.f129)))))))) aQ.u2 Q [(0,.slice a b c),(1,.int .i64 d),(4,.func (.func 47) #[.pointer e] #[]),(10,.int .i64 f),(11,.bool false),(12,.int .i64 g),(13,.int .i64 i)] w)=aQ.B2 a b c d e f g i Q w:=by kernel_rfl
variable{a b c d e f g}
theorem aQ.gI(I:Int->World->Prop)(μ:Int->World->Nat)(s:Int){Q:aN}{w:World}(h0:I s w)
 (round: ∀s w,I s w->aQ.B2 a b c d e f g s (bK (aQ.e2 a b c d e f g) I μ s w Q) w):Holds none [] prog 178 (.loop (lB (bB (sL (sR (sR (sR (sR (body Tryz.f129))))))))) Q (aQ.e2 a b c d e f g s) w:=
 bf ng mix (aQ.e2 a b c d e f g) I μ aQ.k aQ.u2 s (fun s Q w=>aQ.B2 a b c d e f g s Q w) (fun s Q w=>aQ.b2 a b c d e f g s Q w) h0 round
end
section
variable(a:OA)(b:Nat)(c:Nat)(d:Int)(e:OA)(f:Int)(g:Int)(i:Int)(K:KT)(w:World)
def aQ.iu:Prop:=
 Split (decide (g>i)) (let j:=w.drew;(0<=d/\d<(b:Int))/\Is a fun k:Addr=> ∃m:AV,(m.size=32/\Cells j (k.add (d.toNat*32)) m)/\(0<=i/\i<(b:Int))/\Is a fun n:Addr=> ∃o:AV,(o.size=32/\Cells j (n.add (i.toNat*32)) o)/\(0<=i/\i<(b:Int))/\Is a fun p:Addr=>(m.size=32/\(∀q∈m.toList,q.oneCell'=true)/\ ∀r,r<32->Wr j ((p.add (i.toNat*32)).add r))/\let t:=setCells j (p.add (i.toNat*32)) m.toList 0;(0<=d/\d<(b:Int))/\Is a fun u:Addr=>(o.size=32/\(∀v∈o.toList,v.oneCell'=true)/\ ∀x,x<32->Wr t ((u.add (d.toNat*32)).add x))/\let y:=setCells t (u.add (d.toNat*32)) o.toList 0;K (.tuple #[.int .i64 i,.bool true]) y) (let z:=w.drew;(0<=i/\i<(b:Int))/\Is a fun a1:Addr=> ∃b1:AV,(b1.size=32/\Cells z (a1.add (i.toNat*32)) b1)/\(0<=g/\g<(b:Int))/\Is a fun c1:Addr=> ∃d1:AV,(d1.size=32/\Cells z (c1.add (g.toNat*32)) d1)/\(0<=g/\g<(b:Int))/\Is a fun e1:Addr=>(b1.size=32/\(∀f1∈b1.toList,f1.oneCell'=true)/\ ∀g1,g1<32->Wr z ((e1.add (g.toNat*32)).add g1))/\let i1:=setCells z (e1.add (g.toNat*32)) b1.toList 0;(0<=i/\i<(b:Int))/\Is a fun j1:Addr=>(d1.size=32/\(∀k1∈d1.toList,k1.oneCell'=true)/\ ∀m1,m1<32->Wr i1 ((j1.add (i.toNat*32)).add m1))/\let n1:=setCells i1 (j1.add (i.toNat*32)) d1.toList 0;Holds none [] prog 178 (.loop (lB (bB (sL (sR (sR (sR (sR (sR (sR (sR (sR (sR (body Tryz.f129)))))))))))))) (aQ.q3 K) [(0,.slice a b c),(1,.int .i64 d),(4,.func (.func 47) #[.pointer e] #[]),(10,.int .i64 f),(11,.bool false),(12,.int .i64 (IntKind.i64.wrap (g+(1:Int)))),(13,.int .i64 (IntKind.i64.wrap (i-(1:Int))))] n1)
theorem aQ.jF:(aQ.q2 K (.exit 2) [(0,.slice a b c),(1,.int .i64 d),(4,.func (.func 47) #[.pointer e] #[]),(10,.int .i64 f),(11,.bool false),(12,.int .i64 g),(13,.int .i64 i)] w)=aQ.iu a b c d e f g i K w:=by kernel_rfl
end
section
variable(a:OA)(b:Nat)(c:Nat)(d:Int)(e:OA)(f:Int)(g:Int)(i:Int)(Q:aN)(w:World)
def aQ.B3:Prop:=
 Holds none [] prog 178 (.loop (lB (bB (sL (bB (lB (bB (sL (sR (sR (sR (sR (sR (sR (sR (sR (sR (body Tryz.f129)))))))))))))))))) (aQ.q4 Q) [(0,.slice a b c),(1,.int .i64 d),(4,.func (.func 47) #[.pointer e] #[]),(10,.int .i64 f),(11,.bool false),(12,.int .i64 g),(13,.int .i64 i)] w
theorem aQ.b3:(aW none [] prog 178 aQ.k (lB (bB (sL (sR (sR (sR (sR (sR (sR (sR (sR (sR (body Tryz.f129))))))))))))) aQ.u3 Q [(0,.slice a b c),(1,.int .i64 d),(4,.func (.func 47) #[.pointer e] #[]),(10,.int .i64 f),(11,.bool false),(12,.int .i64 g),(13,.int .i64 i)] w)=aQ.B3 a b c d e f g i Q w:=by kernel_rfl
variable{a b c d e f}
theorem aQ.tV(I:Int×Int->World->Prop)(μ:Int×Int->World->Nat)(s:Int×Int){Q:aN}{w:World}(h0:I s w)
 (round: ∀s w,I s w->aQ.B3 a b c d e f (s.1) (s.2) (bK (aQ.e3 a b c d e f) I μ s w Q) w):Holds none [] prog 178 (.loop (lB (bB (sL (sR (sR (sR (sR (sR (sR (sR (sR (sR (body Tryz.f129)))))))))))))) Q (aQ.e3 a b c d e f s) w:=
 bf ng mix (aQ.e3 a b c d e f) I μ aQ.k aQ.u3 s (fun s Q w=>aQ.B3 a b c d e f (s.1) (s.2) Q w) (fun s Q w=>aQ.b3 a b c d e f (s.1) (s.2) Q w) h0 round
end
section
variable(a:OA)(b:Nat)(c:Nat)(d:Int)(e:OA)(f:Int)(g:Int)(i:Int)(Q:aN)(w:World)
def aQ.B4:Prop:=
 let j:=w.drew;Split (decide (g<=i)) ((0<=g/\g<(b:Int))/\Is a fun k:Addr=> ∃m:AV,(m.size=32/\Cells j (k.add (g.toNat*32)) m)/\(0<=d/\d<(b:Int))/\Is a fun n:Addr=> ∃o:AV,(o.size=32/\Cells j (n.add (d.toNat*32)) o)/\bk prog 47 #[.pointer e,.agg m,.agg o] j fun p q=> ∃r:Int,p=.int .i64 r/\Split (decide (r<(0:Int))) (Q .normal [(0,.slice a b c),(1,.int .i64 d),(4,.func (.func 47) #[.pointer e] #[]),(10,.int .i64 f),(11,.bool false),(12,.int .i64 (IntKind.i64.wrap (g+(1:Int)))),(13,.int .i64 i)] q) (Q (.exit 6) [(0,.slice a b c),(1,.int .i64 d),(4,.func (.func 47) #[.pointer e] #[]),(10,.int .i64 f),(11,.bool false),(12,.int .i64 g),(13,.int .i64 i)] q)) (Q (.exit 6) [(0,.slice a b c),(1,.int .i64 d),(4,.func (.func 47) #[.pointer e] #[]),(10,.int .i64 f),(11,.bool false),(12,.int .i64 g),(13,.int .i64 i)] j)
theorem aQ.b4:(aW none [] prog 178 aQ.k (lB (bB (sL (bB (lB (bB (sL (sR (sR (sR (sR (sR (sR (sR (sR (sR (body Tryz.f129))))))))))))))))) aQ.u4 Q [(0,.slice a b c),(1,.int .i64 d),(4,.func (.func 47) #[.pointer e] #[]),(10,.int .i64 f),(11,.bool false),(12,.int .i64 g),(13,.int .i64 i)] w)=aQ.B4 a b c d e f g i Q w:=by kernel_rfl
variable{a b c d e f i}
theorem aQ.FI(I:Int->World->Prop)(μ:Int->World->Nat)(s:Int){Q:aN}{w:World}(h0:I s w)
 (round: ∀s w,I s w->aQ.B4 a b c d e f s i (bK (aQ.e4 a b c d e f i) I μ s w Q) w):Holds none [] prog 178 (.loop (lB (bB (sL (bB (lB (bB (sL (sR (sR (sR (sR (sR (sR (sR (sR (sR (body Tryz.f129)))))))))))))))))) Q (aQ.e4 a b c d e f i s) w:=
 bf ng mix (aQ.e4 a b c d e f i) I μ aQ.k aQ.u4 s (fun s Q w=>aQ.B4 a b c d e f s i Q w) (fun s Q w=>aQ.b4 a b c d e f s i Q w) h0 round
end
section
variable(a:OA)(b:Nat)(c:Nat)(d:Int)(e:OA)(f:Int)(g:Int)(i:Int)(Q:aN)(w:World)
def aQ.Bq:Prop:=
 Holds none [] prog 178 (.loop (lB (bB (sL (sR (bB (lB (bB (sL (sR (sR (sR (sR (sR (sR (sR (sR (sR (body Tryz.f129))))))))))))))))))) (aQ.q5 Q) [(0,.slice a b c),(1,.int .i64 d),(4,.func (.func 47) #[.pointer e] #[]),(10,.int .i64 f),(11,.bool false),(12,.int .i64 g),(13,.int .i64 i)] w
theorem aQ.ES:(aQ.q4 Q (.exit 6) [(0,.slice a b c),(1,.int .i64 d),(4,.func (.func 47) #[.pointer e] #[]),(10,.int .i64 f),(11,.bool false),(12,.int .i64 g),(13,.int .i64 i)] w)=aQ.Bq a b c d e f g i Q w:=by kernel_rfl
end
section
variable(a:OA)(b:Nat)(c:Nat)(d:Int)(e:OA)(f:Int)(g:Int)(i:Int)(Q:aN)(w:World)
def aQ.B5:Prop:=
 let j:=w.drew;Split (decide (g<=i)) ((0<=i/\i<(b:Int))/\Is a fun k:Addr=> ∃m:AV,(m.size=32/\Cells j (k.add (i.toNat*32)) m)/\(0<=d/\d<(b:Int))/\Is a fun n:Addr=> ∃o:AV,(o.size=32/\Cells j (n.add (d.toNat*32)) o)/\bk prog 47 #[.pointer e,.agg m,.agg o] j fun p q=> ∃r:Int,p=.int .i64 r/\Split (!(decide (r<(0:Int)))) (Q .normal [(0,.slice a b c),(1,.int .i64 d),(4,.func (.func 47) #[.pointer e] #[]),(10,.int .i64 f),(11,.bool false),(12,.int .i64 g),(13,.int .i64 (IntKind.i64.wrap (i-(1:Int))))] q) (Q (.exit 8) [(0,.slice a b c),(1,.int .i64 d),(4,.func (.func 47) #[.pointer e] #[]),(10,.int .i64 f),(11,.bool false),(12,.int .i64 g),(13,.int .i64 i)] q)) (Q (.exit 8) [(0,.slice a b c),(1,.int .i64 d),(4,.func (.func 47) #[.pointer e] #[]),(10,.int .i64 f),(11,.bool false),(12,.int .i64 g),(13,.int .i64 i)] j)
theorem aQ.b5:(aW none [] prog 178 aQ.k (lB (bB (sL (sR (bB (lB (bB (sL (sR (sR (sR (sR (sR (sR (sR (sR (sR (body Tryz.f129)))))))))))))))))) aQ.u5 Q [(0,.slice a b c),(1,.int .i64 d),(4,.func (.func 47) #[.pointer e] #[]),(10,.int .i64 f),(11,.bool false),(12,.int .i64 g),(13,.int .i64 i)] w)=aQ.B5 a b c d e f g i Q w:=by kernel_rfl
variable{a b c d e f g}
theorem aQ.Qt(I:Int->World->Prop)(μ:Int->World->Nat)(s:Int){Q:aN}{w:World}(h0:I s w)
 (round: ∀s w,I s w->aQ.B5 a b c d e f g s (bK (aQ.e5 a b c d e f g) I μ s w Q) w):Holds none [] prog 178 (.loop (lB (bB (sL (sR (bB (lB (bB (sL (sR (sR (sR (sR (sR (sR (sR (sR (sR (body Tryz.f129))))))))))))))))))) Q (aQ.e5 a b c d e f g s) w:=
 bf ng mix (aQ.e5 a b c d e f g) I μ aQ.k aQ.u5 s (fun s Q w=>aQ.B5 a b c d e f g s Q w) (fun s Q w=>aQ.b5 a b c d e f g s Q w) h0 round
end
section
variable(a:OA)(b:Nat)(c:Nat)(d:Int)(e:OA)(f:Int)(g:Int)(i:Int)(Q:aN)(w:World)
def aQ.OG:Prop:=
 Split (decide (g>i)) (Q (.exit 4) [(0,.slice a b c),(1,.int .i64 d),(4,.func (.func 47) #[.pointer e] #[]),(10,.int .i64 f),(11,.bool false),(12,.int .i64 g),(13,.int .i64 i)] w) (let j:=w.drew;(0<=i/\i<(b:Int))/\Is a fun k:Addr=> ∃m:AV,(m.size=32/\Cells j (k.add (i.toNat*32)) m)/\(0<=g/\g<(b:Int))/\Is a fun n:Addr=> ∃o:AV,(o.size=32/\Cells j (n.add (g.toNat*32)) o)/\(0<=g/\g<(b:Int))/\Is a fun p:Addr=>(m.size=32/\(∀q∈m.toList,q.oneCell'=true)/\ ∀r,r<32->Wr j ((p.add (g.toNat*32)).add r))/\let t:=setCells j (p.add (g.toNat*32)) m.toList 0;(0<=i/\i<(b:Int))/\Is a fun u:Addr=>(o.size=32/\(∀v∈o.toList,v.oneCell'=true)/\ ∀x,x<32->Wr t ((u.add (i.toNat*32)).add x))/\let y:=setCells t (u.add (i.toNat*32)) o.toList 0;Q .normal [(0,.slice a b c),(1,.int .i64 d),(4,.func (.func 47) #[.pointer e] #[]),(10,.int .i64 f),(11,.bool false),(12,.int .i64 (IntKind.i64.wrap (g+(1:Int)))),(13,.int .i64 (IntKind.i64.wrap (i-(1:Int))))] y)
theorem aQ.PO:(aQ.q5 Q (.exit 8) [(0,.slice a b c),(1,.int .i64 d),(4,.func (.func 47) #[.pointer e] #[]),(10,.int .i64 f),(11,.bool false),(12,.int .i64 g),(13,.int .i64 i)] w)=aQ.OG a b c d e f g i Q w:=by kernel_rfl
end
section
def aQ.vx(a:OA)(b:Nat)(c:Nat)(d:Int)(e:OA)(f:Int)(g:Int)(i:Int)(K:KT)(w:World):Prop:=
 let j:=w.drew;(0<=d/\d<(b:Int))/\Is a fun k:Addr=> ∃m:AV,(m.size=32/\Cells j (k.add (d.toNat*32)) m)/\(0<=i/\i<(b:Int))/\Is a fun n:Addr=> ∃o:AV,(o.size=32/\Cells j (n.add (i.toNat*32)) o)/\(0<=i/\i<(b:Int))/\Is a fun p:Addr=>(m.size=32/\(∀q∈m.toList,q.oneCell'=true)/\ ∀r,r<32->Wr j ((p.add (i.toNat*32)).add r))/\let t:=setCells j (p.add (i.toNat*32)) m.toList 0;(0<=d/\d<(b:Int))/\Is a fun u:Addr=>(o.size=32/\(∀v∈o.toList,v.oneCell'=true)/\ ∀x,x<32->Wr t ((u.add (d.toNat*32)).add x))/\let y:=setCells t (u.add (d.toNat*32)) o.toList 0;K (.tuple #[.int .i64 i,.bool false]) y
variable(a:OA)(b:Nat)(c:Nat)(d:Int)(e:OA)(f:Int)(g:Int)(i:Int)(K:KT)(w:World)
theorem aQ.zz:(aQ.q3 K (.exit 4) [(0,.slice a b c),(1,.int .i64 d),(4,.func (.func 47) #[.pointer e] #[]),(10,.int .i64 f),(11,.bool false),(12,.int .i64 g),(13,.int .i64 i)] w)=aQ.vx a b c d e f g i K w:=by kernel_rfl
end
def bJ.k:List Nat:= [5,6]
def bJ.q1(K:KT):aN:=(aL 0 (aR f135) (bH prog f135 K))
def bJ.e1(a:OA)(b:Nat)(c:Nat)(d:Int)(e:Int)(f:OA)(s:Int):Env:= [(0,.slice a b c),(2,.int .i64 d),(3,.int .i64 e),(4,.func (.func 47) #[.pointer f] #[]),(10,.int .i64 s)]
def bJ.u1:List Nat:= [0,2,3,4,10]
section
variable(a:OA)(b:Nat)(d:Nat)(e:Int)(f:Int)(g:Int)(i:OA)(K:KT)(w:World)
def bJ.W:Prop:=
 Holds none [] prog 82 (.loop (lB (bB (sR (body f135))))) (bJ.q1 K) [(0,.slice a b d),(2,.int .i64 f),(3,.int .i64 g),(4,.func (.func 47) #[.pointer i] #[]),(10,.int .i64 e)] w
variable{a b d e f g i K w}
theorem bJ.of(h:bJ.W a b d e f g i K w):bk prog 135 #[.slice a b d,.int .i64 e,.int .i64 f,.int .i64 g,.func (.func 47) #[.pointer i] #[]] w K:=
 aK (C:=bJ.k) (c:=body f135) ng mix func135 (by kernel_rfl) (by kernel_rfl) (by kernel_rfl) h
end
section
variable(a:OA)(b:Nat)(c:Nat)(d:Int)(e:Int)(f:OA)(g:Int)(Q:aN)(w:World)
def bJ.B1:Prop:=
 Split (decide ((IntKind.i64.wrap ((IntKind.i64.wrap ((2:Int)*g))+(1:Int)))>=d)) (Q (.exit 0) [(0,.slice a b c),(2,.int .i64 d),(3,.int .i64 e),(4,.func (.func 47) #[.pointer f] #[]),(10,.int .i64 g),(11,.int .i64 (IntKind.i64.wrap ((IntKind.i64.wrap ((2:Int)*g))+(1:Int))))] w) (let i:=w.drew;Split (decide ((IntKind.i64.wrap ((IntKind.i64.wrap ((IntKind.i64.wrap ((2:Int)*g))+(1:Int)))+(1:Int)))<d)) ((0<=(IntKind.i64.wrap (e+(IntKind.i64.wrap ((IntKind.i64.wrap ((2:Int)*g))+(1:Int)))))/\(IntKind.i64.wrap (e+(IntKind.i64.wrap ((IntKind.i64.wrap ((2:Int)*g))+(1:Int)))))<(b:Int))/\Is a fun j:Addr=> ∃k:AV,(k.size=32/\Cells i (j.add ((IntKind.i64.wrap (e+(IntKind.i64.wrap ((IntKind.i64.wrap ((2:Int)*g))+(1:Int))))).toNat*32)) k)/\(0<=(IntKind.i64.wrap ((IntKind.i64.wrap (e+(IntKind.i64.wrap ((IntKind.i64.wrap ((2:Int)*g))+(1:Int)))))+(1:Int)))/\(IntKind.i64.wrap ((IntKind.i64.wrap (e+(IntKind.i64.wrap ((IntKind.i64.wrap ((2:Int)*g))+(1:Int)))))+(1:Int)))<(b:Int))/\Is a fun m:Addr=> ∃n:AV,(n.size=32/\Cells i (m.add ((IntKind.i64.wrap ((IntKind.i64.wrap (e+(IntKind.i64.wrap ((IntKind.i64.wrap ((2:Int)*g))+(1:Int)))))+(1:Int))).toNat*32)) n)/\bk prog 47 #[.pointer f,.agg k,.agg n] i fun o p=> ∃q:Int,o=.int .i64 q/\Split (decide (q<(0:Int))) (Holds none [] prog 82 (sR (sR (sR (bB (lB (bB (sR (body f135)))))))) (aL 1 bJ.u1 Q) [(0,.slice a b c),(2,.int .i64 d),(3,.int .i64 e),(4,.func (.func 47) #[.pointer f] #[]),(10,.int .i64 g),(11,.int .i64 (IntKind.i64.wrap ((IntKind.i64.wrap ((IntKind.i64.wrap ((2:Int)*g))+(1:Int)))+(1:Int))))] p) (Holds none [] prog 82 (sR (sR (sR (bB (lB (bB (sR (body f135)))))))) (aL 1 bJ.u1 Q) [(0,.slice a b c),(2,.int .i64 d),(3,.int .i64 e),(4,.func (.func 47) #[.pointer f] #[]),(10,.int .i64 g),(11,.int .i64 (IntKind.i64.wrap ((IntKind.i64.wrap ((2:Int)*g))+(1:Int))))] p)) (Holds none [] prog 82 (sR (sR (sR (bB (lB (bB (sR (body f135)))))))) (aL 1 bJ.u1 Q) [(0,.slice a b c),(2,.int .i64 d),(3,.int .i64 e),(4,.func (.func 47) #[.pointer f] #[]),(10,.int .i64 g),(11,.int .i64 (IntKind.i64.wrap ((IntKind.i64.wrap ((2:Int)*g))+(1:Int))))] i))
theorem bJ.b1:(aW none [] prog 82 bJ.k (lB (bB (sR (body f135)))) bJ.u1 Q [(0,.slice a b c),(2,.int .i64 d),(3,.int .i64 e),(4,.func (.func 47) #[.pointer f] #[]),(10,.int .i64 g)] w)=bJ.B1 a b c d e f g Q w:=by kernel_rfl
variable{a b c d e f}
theorem bJ.b9(I:Int->World->Prop)(μ:Int->World->Nat)(s:Int){Q:aN}{w:World}(h0:I s w)
 (round: ∀s w,I s w->bJ.B1 a b c d e f s (bK (bJ.e1 a b c d e f) I μ s w Q) w):Holds none [] prog 82 (.loop (lB (bB (sR (body f135))))) Q (bJ.e1 a b c d e f s) w:=
 bf ng mix (bJ.e1 a b c d e f) I μ bJ.k bJ.u1 s (fun s Q w=>bJ.B1 a b c d e f s Q w) (fun s Q w=>bJ.b1 a b c d e f s Q w) h0 round
end
section
def bJ.cK(a:OA)(b:Nat)(c:Nat)(d:Int)(e:Int)(f:OA)(g:Int)(i:Int)(K:KT)(w:World):Prop:=
 K (.tuple #[]) w
variable(a:OA)(b:Nat)(c:Nat)(d:Int)(e:Int)(f:OA)(g:Int)(i:Int)(K:KT)(w:World)
theorem bJ.cZ:(bJ.q1 K (.exit 0) [(0,.slice a b c),(2,.int .i64 d),(3,.int .i64 e),(4,.func (.func 47) #[.pointer f] #[]),(10,.int .i64 g),(11,.int .i64 i)] w)=bJ.cK a b c d e f g i K w:=by kernel_rfl
end
section
variable(a:OA)(b:Nat)(c:Nat)(d:Int)(e:Int)(f:OA)(g:Int)(i:Int)(Q:aN)(w:World)
def bJ.J1:Prop:=
 let j:=w.drew;(0<=(IntKind.i64.wrap (e+g))/\(IntKind.i64.wrap (e+g))<(b:Int))/\Is a fun k:Addr=> ∃m:AV,(m.size=32/\Cells j (k.add ((IntKind.i64.wrap (e+g)).toNat*32)) m)/\(0<=(IntKind.i64.wrap (e+i))/\(IntKind.i64.wrap (e+i))<(b:Int))/\Is a fun n:Addr=> ∃o:AV,(o.size=32/\Cells j (n.add ((IntKind.i64.wrap (e+i)).toNat*32)) o)/\bk prog 47 #[.pointer f,.agg m,.agg o] j fun p q=> ∃r:Int,p=.int .i64 r/\Split (!(decide (r<(0:Int)))) (Q .ret [(0,.slice a b c),(2,.int .i64 d),(3,.int .i64 e),(4,.func (.func 47) #[.pointer f] #[]),(10,.int .i64 g),(11,.int .i64 i)] q) (Holds none [] prog 82 (sR (sR (sR (sR (bB (lB (bB (sR (body f135))))))))) (aL 1 bJ.u1 Q) [(0,.slice a b c),(2,.int .i64 d),(3,.int .i64 e),(4,.func (.func 47) #[.pointer f] #[]),(10,.int .i64 g),(11,.int .i64 i)] q)
theorem bJ.j1:(aW none [] prog 82 bJ.k (sR (sR (sR (bB (lB (bB (sR (body f135)))))))) bJ.u1 (aL 1 bJ.u1 Q) [(0,.slice a b c),(2,.int .i64 d),(3,.int .i64 e),(4,.func (.func 47) #[.pointer f] #[]),(10,.int .i64 g),(11,.int .i64 i)] w)=bJ.J1 a b c d e f g i Q w:=by kernel_rfl
variable{a b c d e f g i Q w}
theorem bJ.lj(h:bJ.J1 a b c d e f g i Q w):Holds none [] prog 82 (sR (sR (sR (bB (lB (bB (sR (body f135)))))))) (aL 1 bJ.u1 Q) [(0,.slice a b c),(2,.int .i64 d),(3,.int .i64 e),(4,.func (.func 47) #[.pointer f] #[]),(10,.int .i64 g),(11,.int .i64 i)] w:=
 cF (C:=bJ.k) ng mix (bJ.j1 a b c d e f g i Q w) h
end
section
variable(a:OA)(b:Nat)(c:Nat)(d:Int)(e:Int)(f:OA)(g:Int)(i:Int)(Q:aN)(w:World)
def bJ.J2:Prop:=
 let j:=w.drew;(0<=(IntKind.i64.wrap (e+i))/\(IntKind.i64.wrap (e+i))<(b:Int))/\Is a fun k:Addr=> ∃m:AV,(m.size=32/\Cells j (k.add ((IntKind.i64.wrap (e+i)).toNat*32)) m)/\(0<=(IntKind.i64.wrap (e+g))/\(IntKind.i64.wrap (e+g))<(b:Int))/\Is a fun n:Addr=> ∃o:AV,(o.size=32/\Cells j (n.add ((IntKind.i64.wrap (e+g)).toNat*32)) o)/\(0<=(IntKind.i64.wrap (e+g))/\(IntKind.i64.wrap (e+g))<(b:Int))/\Is a fun p:Addr=>(m.size=32/\(∀q∈m.toList,q.oneCell'=true)/\ ∀r,r<32->Wr j ((p.add ((IntKind.i64.wrap (e+g)).toNat*32)).add r))/\let t:=setCells j (p.add ((IntKind.i64.wrap (e+g)).toNat*32)) m.toList 0;(0<=(IntKind.i64.wrap (e+i))/\(IntKind.i64.wrap (e+i))<(b:Int))/\Is a fun u:Addr=>(o.size=32/\(∀v∈o.toList,v.oneCell'=true)/\ ∀x,x<32->Wr t ((u.add ((IntKind.i64.wrap (e+i)).toNat*32)).add x))/\let y:=setCells t (u.add ((IntKind.i64.wrap (e+i)).toNat*32)) o.toList 0;Q .normal [(0,.slice a b c),(2,.int .i64 d),(3,.int .i64 e),(4,.func (.func 47) #[.pointer f] #[]),(10,.int .i64 i)] y
theorem bJ.j2:(aW none [] prog 82 bJ.k (sR (sR (sR (sR (bB (lB (bB (sR (body f135))))))))) bJ.u1 (aL 1 bJ.u1 Q) [(0,.slice a b c),(2,.int .i64 d),(3,.int .i64 e),(4,.func (.func 47) #[.pointer f] #[]),(10,.int .i64 g),(11,.int .i64 i)] w)=bJ.J2 a b c d e f g i Q w:=by kernel_rfl
variable{a b c d e f g i Q w}
theorem bJ.pj(h:bJ.J2 a b c d e f g i Q w):Holds none [] prog 82 (sR (sR (sR (sR (bB (lB (bB (sR (body f135))))))))) (aL 1 bJ.u1 Q) [(0,.slice a b c),(2,.int .i64 d),(3,.int .i64 e),(4,.func (.func 47) #[.pointer f] #[]),(10,.int .i64 g),(11,.int .i64 i)] w:=
 cF (C:=bJ.k) ng mix (bJ.j2 a b c d e f g i Q w) h
end
section
variable(a:OA)(b:Nat)(d:Nat)(e:Int)(f:OA)(g:OA)(K:KT)(w:World)
variable{a b d e f g K w}
end
def qV.k:List Nat:= []
section
variable(a:OA)(b:Nat)(d:Nat)(e:Int)(f:Int)(g:Int)(i:OA)(j:OA)(K:KT)(w:World)
def qV.W:Prop:=
 bk prog 141 #[.slice a b d,.int .i64 e,.int .i64 f,.pointer i,.func (.func 47) #[.pointer j] #[]] w fun k m=> ∃n:Int,∃o:Int,k=.tuple #[.int .i64 n,.int .i64 o]/\bk prog 141 #[.slice a b d,.int .i64 o,.int .i64 g,.pointer i,.func (.func 47) #[.pointer j] #[]] m fun p q=> ∃r:Int,∃t:Int,p=.tuple #[.int .i64 r,.int .i64 t]/\bk prog 141 #[.slice a b d,.int .i64 n,.int .i64 r,.pointer i,.func (.func 47) #[.pointer j] #[]] q fun u v=> ∃x:Int,∃y:Int,u=.tuple #[.int .i64 x,.int .i64 y]/\K (.int .i64 y) v
variable{a b d e f g i j K w}
theorem qV.of(h:qV.W a b d e f g i j K w):bk prog 139 #[.slice a b d,.int .i64 e,.int .i64 f,.int .i64 g,.pointer i,.func (.func 47) #[.pointer j] #[]] w K:=
 aK (C:=qV.k) (c:=body f139) ng mix func139 (by kernel_rfl) (by kernel_rfl) (by kernel_rfl) h
end
def qU.k:List Nat:= []
section
def qU.W(a:OA)(b:Nat)(d:Nat)(e:Int)(f:Int)(g:OA)(i:OA)(K:KT)(w:World):Prop:=
 let j:=w.drew;(0<=f/\f<(b:Int))/\Is a fun k:Addr=> ∃m:AV,(m.size=32/\Cells j (k.add (f.toNat*32)) m)/\(0<=e/\e<(b:Int))/\Is a fun n:Addr=> ∃o:AV,(o.size=32/\Cells j (n.add (e.toNat*32)) o)/\bk prog 47 #[.pointer i,.agg m,.agg o] j fun p q=> ∃r:Int,p=.int .i64 r/\Split (decide (r<(0:Int))) (Is g fun t:Addr=> ∃u:Int,q.cell? t=some (.int .i64 u)/\Is g fun v:Addr=>Wr q v/\let x:=q.setCell v (.int .i64 (IntKind.i64.wrap (u+(1:Int))));K (.tuple #[.int .i64 f,.int .i64 e]) x) (K (.tuple #[.int .i64 e,.int .i64 f]) q)
variable(a:OA)(b:Nat)(d:Nat)(e:Int)(f:Int)(g:OA)(i:OA)(K:KT)(w:World)
variable{a b d e f g i K w}
theorem qU.of(h:qU.W a b d e f g i K w):bk prog 141 #[.slice a b d,.int .i64 e,.int .i64 f,.pointer g,.func (.func 47) #[.pointer i] #[]] w K:=
 aK (C:=qU.k) (c:=body f141) ng mix func141 (by kernel_rfl) (by kernel_rfl) (by kernel_rfl) h
end
end Go.Proofs.YtnboahlopghcjaaGreatDoor
