import Derived.Test.YtfleamccglihoaaGreatDoorProg
import Derived.Test.YtfleamccglihoaaGreatDoorMA
import Derived.Test.YtfleamccglihoaaGreatDoorMB
open Go.IntKind (i64 u64)
set_option linter.unusedVariables false
namespace Go.Proofs.YtfleamccglihoaaGreatDoor
open Go.Proofs.Tryz
open Go Go.bR
def pR.k:List Nat:= []
section
variable(a:OA)(b d:Nat)(e:OA)(K:KT)(w:World)
def pR.W:Prop:=
 bk prog 98 #[.int .u64 (u64.wrap (b:Int))] w fun f g=>∃i:Int,f=.int .i64 i/\bk prog 97 #[.slice a b d,.int .i64 0,.int .i64 (b:Int),.int .i64 i,.func (.func 73) #[.pointer e] #[]] g fun j k=>j=.tuple #[]/\K (.tuple #[]) k
variable{a b d e K w}
theorem pR.of(h:pR.W a b d e K w):bk prog 53 #[.slice a b d,.func (.func 73) #[.pointer e] #[]] w K:=
 rqq func53 (C:=pR.k) h
end
def az.k:List Nat:= [10,11,13,14,15,17,20,21,22,23,24,26,27,29,30]
def az.q1(K:KT):aN:=(aM 0 (aR f97) (bO prog f97 K))
def az.e1(a:OA)(b c:Nat)(d:OA)(s:Int×Int×Int×Bool×Bool):Env:= [(0,.slice a b c),(1,.int .i64 s.1),(2,.int .i64 s.2.1),(3,.int .i64 s.2.2.1),(4,.func (.func 73) #[.pointer d] #[]),(10,.bool s.2.2.2.1),(11,.bool s.2.2.2.2)]
def az.u1:List Nat:= [0,1,2,3,4,10,11]
section
variable(a:OA)(b d:Nat)(e f g:Int)(i:OA)(K:KT)(w:World)
def az.W:Prop:=
 Holds none [] prog 148 (.loop (lB (bB (sR (sR (body f97)))))) (az.q1 K) [(0,.slice a b d),(1,.int .i64 e),(2,.int .i64 f),(3,.int .i64 g),(4,.func (.func 73) #[.pointer i] #[]),(10,.bool true),(11,.bool true)] w
variable{a b d e f g i K w}
theorem az.of(h:az.W a b d e f g i K w):bk prog 97 #[.slice a b d,.int .i64 e,.int .i64 f,.int .i64 g,.func (.func 73) #[.pointer i] #[]] w K:=
 rqq func97 (C:=az.k) h
end
section
variable(a:OA)(b c:Nat)(d e f:Int)(g:OA)(i j:Bool)(Q:aN)(w:World)
def az.B1:Prop:=
 Split (decide ((i64.wrap (e-d))<=(12:Int))) (bk prog 127 #[.slice a b c,.int .i64 d,.int .i64 e,.func (.func 73) #[.pointer g] #[]] w fun k m=>k=.tuple #[]/\Q .ret [(0,.slice a b c),(1,.int .i64 d),(2,.int .i64 e),(3,.int .i64 f),(4,.func (.func 73) #[.pointer g] #[]),(10,.bool i),(11,.bool j),(12,.int .i64 (i64.wrap (e-d)))] m) (Split (f==(0:Int)) (bk prog 128 #[.slice a b c,.int .i64 d,.int .i64 e,.func (.func 73) #[.pointer g] #[]] w fun n o=>n=.tuple #[]/\Q .ret [(0,.slice a b c),(1,.int .i64 d),(2,.int .i64 e),(3,.int .i64 f),(4,.func (.func 73) #[.pointer g] #[]),(10,.bool i),(11,.bool j),(12,.int .i64 (i64.wrap (e-d)))] o) (Split (!i) (bk prog 129 #[.slice a b c,.int .i64 d,.int .i64 e,.func (.func 73) #[.pointer g] #[]] w fun p q=>p=.tuple #[]/\Holds none [] prog 148 (sR (sR (sR (sR (bB (lB (bB (sR (sR (body f97)))))))))) (aM 1 az.u1 Q) [(0,.slice a b c),(1,.int .i64 d),(2,.int .i64 e),(3,.int .i64 (i64.wrap (f-(1:Int)))),(4,.func (.func 73) #[.pointer g] #[]),(10,.bool i),(11,.bool j),(12,.int .i64 (i64.wrap (e-d)))] q) (Holds none [] prog 148 (sR (sR (sR (sR (bB (lB (bB (sR (sR (body f97)))))))))) (aM 1 az.u1 Q) [(0,.slice a b c),(1,.int .i64 d),(2,.int .i64 e),(3,.int .i64 f),(4,.func (.func 73) #[.pointer g] #[]),(10,.bool i),(11,.bool j),(12,.int .i64 (i64.wrap (e-d)))] w)))
theorem az.b1:(aU none [] prog 148 az.k (lB (bB (sR (sR (body f97))))) az.u1 Q [(0,.slice a b c),(1,.int .i64 d),(2,.int .i64 e),(3,.int .i64 f),(4,.func (.func 73) #[.pointer g] #[]),(10,.bool i),(11,.bool j)] w)=az.B1 a b c d e f g i j Q w:=by kernel_rfl
variable{a b c g}
theorem az.b9(I:Int×Int×Int×Bool×Bool->World->Prop)(μ:Int×Int×Int×Bool×Bool->World->Nat)(s:Int×Int×Int×Bool×Bool){Q:aN}{w:World}(h0:I s w)
 (round:∀s w,I s w->az.B1 a b c (s.1) (s.2.1) (s.2.2.1) g (s.2.2.2.1) (s.2.2.2.2) (bL (az.e1 a b c g) I μ s w Q) w):Holds none [] prog 148 (.loop (lB (bB (sR (sR (body f97)))))) Q (az.e1 a b c g s) w:=
 a7 ng mix (az.e1 a b c g) I μ az.k az.u1 s (fun s Q w=>az.B1 a b c (s.1) (s.2.1) (s.2.2.1) g (s.2.2.2.1) (s.2.2.2.2) Q w) (fun s Q w=>az.b1 a b c (s.1) (s.2.1) (s.2.2.1) g (s.2.2.2.1) (s.2.2.2.2) Q w) h0 round
end
section
variable(a:OA)(b c:Nat)(d e f:Int)(g:OA)(i j:Bool)(k:Int)(Q:aN)(w:World)
def az.J1:Prop:=
 bk prog 130 #[.slice a b c,.int .i64 d,.int .i64 e,.func (.func 73) #[.pointer g] #[]] w fun m n=>∃o p:Int,m=.tuple #[.int .i64 o,.int .i64 p]/\Holds none [] prog 148 (sR (sR (sR (sR (sR (bB (lB (bB (sR (sR (body f97))))))))))) (aM 1 az.u1 Q) [(0,.slice a b c),(1,.int .i64 d),(2,.int .i64 e),(3,.int .i64 f),(4,.func (.func 73) #[.pointer g] #[]),(10,.bool i),(11,.bool j),(12,.int .i64 k),(13,.int .i64 o),(14,.int .i64 p)] n
theorem az.j1:(aU none [] prog 148 az.k (sR (sR (sR (sR (bB (lB (bB (sR (sR (body f97)))))))))) az.u1 (aM 1 az.u1 Q) [(0,.slice a b c),(1,.int .i64 d),(2,.int .i64 e),(3,.int .i64 f),(4,.func (.func 73) #[.pointer g] #[]),(10,.bool i),(11,.bool j),(12,.int .i64 k)] w)=az.J1 a b c d e f g i j k Q w:=by kernel_rfl
variable{a b c d e f g i j k Q w}
theorem az.oA(h:az.J1 a b c d e f g i j k Q w):Holds none [] prog 148 (sR (sR (sR (sR (bB (lB (bB (sR (sR (body f97)))))))))) (aM 1 az.u1 Q) [(0,.slice a b c),(1,.int .i64 d),(2,.int .i64 e),(3,.int .i64 f),(4,.func (.func 73) #[.pointer g] #[]),(10,.bool i),(11,.bool j),(12,.int .i64 k)] w:=
 cO (C:=az.k) ng mix (az.j1 a b c d e f g i j k Q w) h
end
section
variable(a:OA)(b c:Nat)(d e f:Int)(g:OA)(i j:Bool)(k m n:Int)(Q:aN)(w:World)
def az.J2:Prop:=
 Split (n==(2:Int)) (bk prog 131 #[.slice a b c,.int .i64 d,.int .i64 e,.func (.func 73) #[.pointer g] #[]] w fun o p=>o=.tuple #[]/\Holds none [] prog 148 (sR (cT (sR (sL (sR (sR (sR (sR (sR (bB (lB (bB (sR (sR (body f97))))))))))))))) (bT (fun bX w_=>match cutAt az.k (sR (sR (sR (sR (sR (sR (bB (lB (bB (sR (sR (body f97))))))))))))with|true=>Holds none [] prog 148 (sR (sR (sR (sR (sR (sR (bB (lB (bB (sR (sR (body f97)))))))))))) (aM 1 az.u1 Q) bX w_|false=>aU none [] prog 148 az.k (sR (sR (sR (sR (sR (sR (bB (lB (bB (sR (sR (body f97)))))))))))) az.u1 (aM 1 az.u1 Q) bX w_) (aM 1 az.u1 Q)) [(0,.slice a b c),(1,.int .i64 d),(2,.int .i64 e),(3,.int .i64 f),(4,.func (.func 73) #[.pointer g] #[]),(10,.bool i),(11,.bool j),(12,.int .i64 k),(13,.int .i64 m),(14,.int .i64 n)] p) (Holds none [] prog 148 (sR (sR (sR (sR (sR (sR (bB (lB (bB (sR (sR (body f97)))))))))))) (aM 1 az.u1 Q) [(0,.slice a b c),(1,.int .i64 d),(2,.int .i64 e),(3,.int .i64 f),(4,.func (.func 73) #[.pointer g] #[]),(10,.bool i),(11,.bool j),(12,.int .i64 k),(13,.int .i64 m),(14,.int .i64 n)] w)
theorem az.j2:(aU none [] prog 148 az.k (sR (sR (sR (sR (sR (bB (lB (bB (sR (sR (body f97))))))))))) az.u1 (aM 1 az.u1 Q) [(0,.slice a b c),(1,.int .i64 d),(2,.int .i64 e),(3,.int .i64 f),(4,.func (.func 73) #[.pointer g] #[]),(10,.bool i),(11,.bool j),(12,.int .i64 k),(13,.int .i64 m),(14,.int .i64 n)] w)=az.J2 a b c d e f g i j k m n Q w:=by kernel_rfl
variable{a b c d e f g i j k m n Q w}
theorem az.qq(h:az.J2 a b c d e f g i j k m n Q w):Holds none [] prog 148 (sR (sR (sR (sR (sR (bB (lB (bB (sR (sR (body f97))))))))))) (aM 1 az.u1 Q) [(0,.slice a b c),(1,.int .i64 d),(2,.int .i64 e),(3,.int .i64 f),(4,.func (.func 73) #[.pointer g] #[]),(10,.bool i),(11,.bool j),(12,.int .i64 k),(13,.int .i64 m),(14,.int .i64 n)] w:=
 cO (C:=az.k) ng mix (az.j2 a b c d e f g i j k m n Q w) h
end
section
variable(a:OA)(b c:Nat)(d e f:Int)(g:OA)(i j:Bool)(k m n:Int)(Q:aN)(w:World)
def az.J3:Prop:=
 Holds none [] prog 148 (sR (sR (cT (sR (sL (sR (sR (sR (sR (sR (bB (lB (bB (sR (sR (body f97)))))))))))))))) (bT (fun bX w_=>match cutAt az.k (sR (sR (sR (sR (sR (sR (bB (lB (bB (sR (sR (body f97))))))))))))with|true=>Holds none [] prog 148 (sR (sR (sR (sR (sR (sR (bB (lB (bB (sR (sR (body f97)))))))))))) (aM 1 az.u1 Q) bX w_|false=>aU none [] prog 148 az.k (sR (sR (sR (sR (sR (sR (bB (lB (bB (sR (sR (body f97)))))))))))) az.u1 (aM 1 az.u1 Q) bX w_) (aM 1 az.u1 Q)) [(0,.slice a b c),(1,.int .i64 d),(2,.int .i64 e),(3,.int .i64 f),(4,.func (.func 73) #[.pointer g] #[]),(10,.bool i),(11,.bool j),(12,.int .i64 k),(13,.int .i64 (i64.wrap ((i64.wrap (e-(1:Int)))-(i64.wrap (m-d))))),(14,.int .i64 n)] w
theorem az.j3:(aU none [] prog 148 az.k (sR (cT (sR (sL (sR (sR (sR (sR (sR (bB (lB (bB (sR (sR (body f97))))))))))))))) (b6 (sR (sR (sR (sR (sR (sR (bB (lB (bB (sR (sR (body f97))))))))))))++az.u1) (bT (fun bX w_=>match cutAt az.k (sR (sR (sR (sR (sR (sR (bB (lB (bB (sR (sR (body f97))))))))))))with|true=>Holds none [] prog 148 (sR (sR (sR (sR (sR (sR (bB (lB (bB (sR (sR (body f97)))))))))))) (aM 1 az.u1 Q) bX w_|false=>aU none [] prog 148 az.k (sR (sR (sR (sR (sR (sR (bB (lB (bB (sR (sR (body f97)))))))))))) az.u1 (aM 1 az.u1 Q) bX w_) (aM 1 az.u1 Q)) [(0,.slice a b c),(1,.int .i64 d),(2,.int .i64 e),(3,.int .i64 f),(4,.func (.func 73) #[.pointer g] #[]),(10,.bool i),(11,.bool j),(12,.int .i64 k),(13,.int .i64 m),(14,.int .i64 n)] w)=az.J3 a b c d e f g i j k m n Q w:=by kernel_rfl
variable{a b c d e f g i j k m n Q w}
theorem az.Tv(h:az.J3 a b c d e f g i j k m n Q w):Holds none [] prog 148 (sR (cT (sR (sL (sR (sR (sR (sR (sR (bB (lB (bB (sR (sR (body f97))))))))))))))) (bT (fun bX w_=>match cutAt az.k (sR (sR (sR (sR (sR (sR (bB (lB (bB (sR (sR (body f97))))))))))))with|true=>Holds none [] prog 148 (sR (sR (sR (sR (sR (sR (bB (lB (bB (sR (sR (body f97)))))))))))) (aM 1 az.u1 Q) bX w_|false=>aU none [] prog 148 az.k (sR (sR (sR (sR (sR (sR (bB (lB (bB (sR (sR (body f97)))))))))))) az.u1 (aM 1 az.u1 Q) bX w_) (aM 1 az.u1 Q)) [(0,.slice a b c),(1,.int .i64 d),(2,.int .i64 e),(3,.int .i64 f),(4,.func (.func 73) #[.pointer g] #[]),(10,.bool i),(11,.bool j),(12,.int .i64 k),(13,.int .i64 m),(14,.int .i64 n)] w:=
 cO (C:=az.k) ng mix (az.j3 a b c d e f g i j k m n Q w) h
end
section
variable(a:OA)(b c:Nat)(d e f:Int)(g:OA)(i j:Bool)(k m n:Int)(Q:aN)(w:World)
def az.J4:Prop:=
 Split i (Split j (Split (n==(1:Int)) (bk prog 132 #[.slice a b c,.int .i64 d,.int .i64 e,.func (.func 73) #[.pointer g] #[]] w fun o p=>∃q:Bool,o=.bool q/\Split q (Q .ret [(0,.slice a b c),(1,.int .i64 d),(2,.int .i64 e),(3,.int .i64 f),(4,.func (.func 73) #[.pointer g] #[]),(10,.bool i),(11,.bool j),(12,.int .i64 k),(13,.int .i64 m)] p) (Holds none [] prog 148 (sR (sR (sR (sR (sR (sR (sR (bB (lB (bB (sR (sR (body f97))))))))))))) (aM 1 az.u1 Q) [(0,.slice a b c),(1,.int .i64 d),(2,.int .i64 e),(3,.int .i64 f),(4,.func (.func 73) #[.pointer g] #[]),(10,.bool i),(11,.bool j),(12,.int .i64 k),(13,.int .i64 m)] p)) (Holds none [] prog 148 (sR (sR (sR (sR (sR (sR (sR (bB (lB (bB (sR (sR (body f97))))))))))))) (aM 1 az.u1 Q) [(0,.slice a b c),(1,.int .i64 d),(2,.int .i64 e),(3,.int .i64 f),(4,.func (.func 73) #[.pointer g] #[]),(10,.bool i),(11,.bool j),(12,.int .i64 k),(13,.int .i64 m)] w)) (Holds none [] prog 148 (sR (sR (sR (sR (sR (sR (sR (bB (lB (bB (sR (sR (body f97))))))))))))) (aM 1 az.u1 Q) [(0,.slice a b c),(1,.int .i64 d),(2,.int .i64 e),(3,.int .i64 f),(4,.func (.func 73) #[.pointer g] #[]),(10,.bool i),(11,.bool j),(12,.int .i64 k),(13,.int .i64 m)] w)) (Holds none [] prog 148 (sR (sR (sR (sR (sR (sR (sR (bB (lB (bB (sR (sR (body f97))))))))))))) (aM 1 az.u1 Q) [(0,.slice a b c),(1,.int .i64 d),(2,.int .i64 e),(3,.int .i64 f),(4,.func (.func 73) #[.pointer g] #[]),(10,.bool i),(11,.bool j),(12,.int .i64 k),(13,.int .i64 m)] w)
theorem az.j4:(aU none [] prog 148 az.k (sR (sR (sR (sR (sR (sR (bB (lB (bB (sR (sR (body f97)))))))))))) az.u1 (aM 1 az.u1 Q) [(0,.slice a b c),(1,.int .i64 d),(2,.int .i64 e),(3,.int .i64 f),(4,.func (.func 73) #[.pointer g] #[]),(10,.bool i),(11,.bool j),(12,.int .i64 k),(13,.int .i64 m),(14,.int .i64 n)] w)=az.J4 a b c d e f g i j k m n Q w:=by kernel_rfl
variable{a b c d e f g i j k m n Q w}
theorem az.Mx(h:az.J4 a b c d e f g i j k m n Q w):Holds none [] prog 148 (sR (sR (sR (sR (sR (sR (bB (lB (bB (sR (sR (body f97)))))))))))) (aM 1 az.u1 Q) [(0,.slice a b c),(1,.int .i64 d),(2,.int .i64 e),(3,.int .i64 f),(4,.func (.func 73) #[.pointer g] #[]),(10,.bool i),(11,.bool j),(12,.int .i64 k),(13,.int .i64 m),(14,.int .i64 n)] w:=
 cO (C:=az.k) ng mix (az.j4 a b c d e f g i j k m n Q w) h
end
section
def az.J5(a:OA)(b c:Nat)(d e f:Int)(g:OA)(i j:Bool)(k m n:Int)(Q:aN)(w:World):Prop:=
 Holds none [] prog 148 (sR (sR (sR (sR (sR (sR (bB (lB (bB (sR (sR (body f97)))))))))))) (aM 1 az.u1 Q) [(0,.slice a b c),(1,.int .i64 d),(2,.int .i64 e),(3,.int .i64 f),(4,.func (.func 73) #[.pointer g] #[]),(10,.bool i),(11,.bool j),(12,.int .i64 k),(13,.int .i64 m),(14,.int .i64 1)] w
variable(a:OA)(b c:Nat)(d e f:Int)(g:OA)(i j:Bool)(k m n:Int)(Q:aN)(w:World)
theorem az.j5:(aU none [] prog 148 az.k (sR (sR (cT (sR (sL (sR (sR (sR (sR (sR (bB (lB (bB (sR (sR (body f97)))))))))))))))) (b6 (sR (sR (sR (sR (sR (sR (bB (lB (bB (sR (sR (body f97))))))))))))++az.u1) (bT (fun bX w_=>match cutAt az.k (sR (sR (sR (sR (sR (sR (bB (lB (bB (sR (sR (body f97))))))))))))with|true=>Holds none [] prog 148 (sR (sR (sR (sR (sR (sR (bB (lB (bB (sR (sR (body f97)))))))))))) (aM 1 az.u1 Q) bX w_|false=>aU none [] prog 148 az.k (sR (sR (sR (sR (sR (sR (bB (lB (bB (sR (sR (body f97)))))))))))) az.u1 (aM 1 az.u1 Q) bX w_) (aM 1 az.u1 Q)) [(0,.slice a b c),(1,.int .i64 d),(2,.int .i64 e),(3,.int .i64 f),(4,.func (.func 73) #[.pointer g] #[]),(10,.bool i),(11,.bool j),(12,.int .i64 k),(13,.int .i64 m),(14,.int .i64 n)] w)=az.J5 a b c d e f g i j k m n Q w:=by kernel_rfl
variable{a b c d e f g i j k m n Q w}
theorem az.Tu(h:az.J5 a b c d e f g i j k m n Q w):Holds none [] prog 148 (sR (sR (cT (sR (sL (sR (sR (sR (sR (sR (bB (lB (bB (sR (sR (body f97)))))))))))))))) (bT (fun bX w_=>match cutAt az.k (sR (sR (sR (sR (sR (sR (bB (lB (bB (sR (sR (body f97))))))))))))with|true=>Holds none [] prog 148 (sR (sR (sR (sR (sR (sR (bB (lB (bB (sR (sR (body f97)))))))))))) (aM 1 az.u1 Q) bX w_|false=>aU none [] prog 148 az.k (sR (sR (sR (sR (sR (sR (bB (lB (bB (sR (sR (body f97)))))))))))) az.u1 (aM 1 az.u1 Q) bX w_) (aM 1 az.u1 Q)) [(0,.slice a b c),(1,.int .i64 d),(2,.int .i64 e),(3,.int .i64 f),(4,.func (.func 73) #[.pointer g] #[]),(10,.bool i),(11,.bool j),(12,.int .i64 k),(13,.int .i64 m),(14,.int .i64 n)] w:=
 cO (C:=az.k) ng mix (az.j5 a b c d e f g i j k m n Q w) h
end
section
variable(a:OA)(b c:Nat)(d e f:Int)(g:OA)(i j:Bool)(k m:Int)(Q:aN)(w:World)
def az.J6:Prop:=
 let n:=w.drew;Split (decide (d>(0:Int))) ((0<=(i64.wrap (d-(1:Int)))/\(i64.wrap (d-(1:Int)))<(b:Int))/\Is a fun o:Addr=>∃p:AV,(p.size=32/\Cells n (o.add ((i64.wrap (d-(1:Int))).toNat*32)) p)/\(0<=m/\m<(b:Int))/\Is a fun q:Addr=>∃r:AV,(r.size=32/\Cells n (q.add (m.toNat*32)) r)/\bk prog 73 #[.pointer g,.agg p,.agg r] n fun t u=>∃v:Int,t=.int .i64 v/\Split (!(decide (v<(0:Int)))) (bk prog 133 #[.slice a b c,.int .i64 d,.int .i64 e,.int .i64 m,.func (.func 73) #[.pointer g] #[]] u fun x y=>∃z:Int,x=.int .i64 z/\Q .normal [(0,.slice a b c),(1,.int .i64 z),(2,.int .i64 e),(3,.int .i64 f),(4,.func (.func 73) #[.pointer g] #[]),(10,.bool i),(11,.bool j)] y) (Holds none [] prog 148 (sR (sR (sR (sR (sR (sR (sR (sR (bB (lB (bB (sR (sR (body f97)))))))))))))) (aM 1 az.u1 Q) [(0,.slice a b c),(1,.int .i64 d),(2,.int .i64 e),(3,.int .i64 f),(4,.func (.func 73) #[.pointer g] #[]),(10,.bool i),(11,.bool j),(12,.int .i64 k),(13,.int .i64 m)] u)) (Holds none [] prog 148 (sR (sR (sR (sR (sR (sR (sR (sR (bB (lB (bB (sR (sR (body f97)))))))))))))) (aM 1 az.u1 Q) [(0,.slice a b c),(1,.int .i64 d),(2,.int .i64 e),(3,.int .i64 f),(4,.func (.func 73) #[.pointer g] #[]),(10,.bool i),(11,.bool j),(12,.int .i64 k),(13,.int .i64 m)] n)
theorem az.j6:(aU none [] prog 148 az.k (sR (sR (sR (sR (sR (sR (sR (bB (lB (bB (sR (sR (body f97))))))))))))) az.u1 (aM 1 az.u1 Q) [(0,.slice a b c),(1,.int .i64 d),(2,.int .i64 e),(3,.int .i64 f),(4,.func (.func 73) #[.pointer g] #[]),(10,.bool i),(11,.bool j),(12,.int .i64 k),(13,.int .i64 m)] w)=az.J6 a b c d e f g i j k m Q w:=by kernel_rfl
variable{a b c d e f g i j k m Q w}
theorem az.Mw(h:az.J6 a b c d e f g i j k m Q w):Holds none [] prog 148 (sR (sR (sR (sR (sR (sR (sR (bB (lB (bB (sR (sR (body f97))))))))))))) (aM 1 az.u1 Q) [(0,.slice a b c),(1,.int .i64 d),(2,.int .i64 e),(3,.int .i64 f),(4,.func (.func 73) #[.pointer g] #[]),(10,.bool i),(11,.bool j),(12,.int .i64 k),(13,.int .i64 m)] w:=
 cO (C:=az.k) ng mix (az.j6 a b c d e f g i j k m Q w) h
end
section
variable(a:OA)(b c:Nat)(d e f:Int)(g:OA)(i j:Bool)(k m:Int)(Q:aN)(w:World)
def az.J7:Prop:=
 bk prog 134 #[.slice a b c,.int .i64 d,.int .i64 e,.int .i64 m,.func (.func 73) #[.pointer g] #[]] w fun n o=>∃p:Int,∃q:Bool,n=.tuple #[.int .i64 p,.bool q]/\Holds none [] prog 148 (sR (sR (sR (sR (sR (sR (sR (sR (sR (bB (lB (bB (sR (sR (body f97))))))))))))))) (aM 1 az.u1 Q) [(0,.slice a b c),(1,.int .i64 d),(2,.int .i64 e),(3,.int .i64 f),(4,.func (.func 73) #[.pointer g] #[]),(10,.bool i),(11,.bool j),(12,.int .i64 k),(16,.int .i64 p),(17,.bool q)] o
theorem az.j7:(aU none [] prog 148 az.k (sR (sR (sR (sR (sR (sR (sR (sR (bB (lB (bB (sR (sR (body f97)))))))))))))) az.u1 (aM 1 az.u1 Q) [(0,.slice a b c),(1,.int .i64 d),(2,.int .i64 e),(3,.int .i64 f),(4,.func (.func 73) #[.pointer g] #[]),(10,.bool i),(11,.bool j),(12,.int .i64 k),(13,.int .i64 m)] w)=az.J7 a b c d e f g i j k m Q w:=by kernel_rfl
variable{a b c d e f g i j k m Q w}
theorem az.Mv(h:az.J7 a b c d e f g i j k m Q w):Holds none [] prog 148 (sR (sR (sR (sR (sR (sR (sR (sR (bB (lB (bB (sR (sR (body f97)))))))))))))) (aM 1 az.u1 Q) [(0,.slice a b c),(1,.int .i64 d),(2,.int .i64 e),(3,.int .i64 f),(4,.func (.func 73) #[.pointer g] #[]),(10,.bool i),(11,.bool j),(12,.int .i64 k),(13,.int .i64 m)] w:=
 cO (C:=az.k) ng mix (az.j7 a b c d e f g i j k m Q w) h
end
section
def az.J8(a:OA)(b c:Nat)(d e f:Int)(g:OA)(i j:Bool)(k m:Int)(n:Bool)(Q:aN)(w:World):Prop:=
 Holds none [] prog 148 (sR (sR (sR (sR (sR (sR (sR (sR (sR (sR (bB (lB (bB (sR (sR (body f97)))))))))))))))) (aM 1 az.u1 Q) [(0,.slice a b c),(1,.int .i64 d),(2,.int .i64 e),(3,.int .i64 f),(4,.func (.func 73) #[.pointer g] #[]),(10,.bool i),(11,.bool n),(12,.int .i64 k),(16,.int .i64 m)] w
variable(a:OA)(b c:Nat)(d e f:Int)(g:OA)(i j:Bool)(k m:Int)(n:Bool)(Q:aN)(w:World)
theorem az.j8:(aU none [] prog 148 az.k (sR (sR (sR (sR (sR (sR (sR (sR (sR (bB (lB (bB (sR (sR (body f97))))))))))))))) az.u1 (aM 1 az.u1 Q) [(0,.slice a b c),(1,.int .i64 d),(2,.int .i64 e),(3,.int .i64 f),(4,.func (.func 73) #[.pointer g] #[]),(10,.bool i),(11,.bool j),(12,.int .i64 k),(16,.int .i64 m),(17,.bool n)] w)=az.J8 a b c d e f g i j k m n Q w:=by kernel_rfl
variable{a b c d e f g i j k m n Q w}
theorem az.Tt(h:az.J8 a b c d e f g i j k m n Q w):Holds none [] prog 148 (sR (sR (sR (sR (sR (sR (sR (sR (sR (bB (lB (bB (sR (sR (body f97))))))))))))))) (aM 1 az.u1 Q) [(0,.slice a b c),(1,.int .i64 d),(2,.int .i64 e),(3,.int .i64 f),(4,.func (.func 73) #[.pointer g] #[]),(10,.bool i),(11,.bool j),(12,.int .i64 k),(16,.int .i64 m),(17,.bool n)] w:=
 cO (C:=az.k) ng mix (az.j8 a b c d e f g i j k m n Q w) h
end
section
variable(a:OA)(b c:Nat)(d e f:Int)(g:OA)(i j:Bool)(k m:Int)(Q:aN)(w:World)
def az.J9:Prop:=
 Holds none [] prog 148 (sR (sR (sR (sR (sR (sR (sR (sR (sR (sR (sR (bB (lB (bB (sR (sR (body f97))))))))))))))))) (aM 1 az.u1 Q) [(0,.slice a b c),(1,.int .i64 d),(2,.int .i64 e),(3,.int .i64 f),(4,.func (.func 73) #[.pointer g] #[]),(10,.bool i),(11,.bool j),(12,.int .i64 k),(16,.int .i64 m),(18,.int .i64 (i64.wrap (m-d))),(19,.int .i64 (i64.wrap (e-m)))] w
theorem az.j9:(aU none [] prog 148 az.k (sR (sR (sR (sR (sR (sR (sR (sR (sR (sR (bB (lB (bB (sR (sR (body f97)))))))))))))))) az.u1 (aM 1 az.u1 Q) [(0,.slice a b c),(1,.int .i64 d),(2,.int .i64 e),(3,.int .i64 f),(4,.func (.func 73) #[.pointer g] #[]),(10,.bool i),(11,.bool j),(12,.int .i64 k),(16,.int .i64 m)] w)=az.J9 a b c d e f g i j k m Q w:=by kernel_rfl
variable{a b c d e f g i j k m Q w}
theorem az.Ts(h:az.J9 a b c d e f g i j k m Q w):Holds none [] prog 148 (sR (sR (sR (sR (sR (sR (sR (sR (sR (sR (bB (lB (bB (sR (sR (body f97)))))))))))))))) (aM 1 az.u1 Q) [(0,.slice a b c),(1,.int .i64 d),(2,.int .i64 e),(3,.int .i64 f),(4,.func (.func 73) #[.pointer g] #[]),(10,.bool i),(11,.bool j),(12,.int .i64 k),(16,.int .i64 m)] w:=
 cO (C:=az.k) ng mix (az.j9 a b c d e f g i j k m Q w) h
end
section
variable(a:OA)(b c:Nat)(d e f:Int)(g:OA)(i j:Bool)(k m n o:Int)(Q:aN)(w:World)
def az.J10:Prop:=
 (8:Int)≠0/\Holds none [] prog 148 (sR (sR (sR (sR (sR (sR (sR (sR (sR (sR (sR (sR (bB (lB (bB (sR (sR (body f97)))))))))))))))))) (aM 1 az.u1 Q) [(0,.slice a b c),(1,.int .i64 d),(2,.int .i64 e),(3,.int .i64 f),(4,.func (.func 73) #[.pointer g] #[]),(10,.bool i),(11,.bool j),(16,.int .i64 m),(18,.int .i64 n),(19,.int .i64 o),(20,.int .i64 (i64.wrap (k.tdiv (8:Int))))] w
theorem az.j10:(aU none [] prog 148 az.k (sR (sR (sR (sR (sR (sR (sR (sR (sR (sR (sR (bB (lB (bB (sR (sR (body f97))))))))))))))))) az.u1 (aM 1 az.u1 Q) [(0,.slice a b c),(1,.int .i64 d),(2,.int .i64 e),(3,.int .i64 f),(4,.func (.func 73) #[.pointer g] #[]),(10,.bool i),(11,.bool j),(12,.int .i64 k),(16,.int .i64 m),(18,.int .i64 n),(19,.int .i64 o)] w)=az.J10 a b c d e f g i j k m n o Q w:=by kernel_rfl
variable{a b c d e f g i j k m n o Q w}
theorem az.O0(h:az.J10 a b c d e f g i j k m n o Q w):Holds none [] prog 148 (sR (sR (sR (sR (sR (sR (sR (sR (sR (sR (sR (bB (lB (bB (sR (sR (body f97))))))))))))))))) (aM 1 az.u1 Q) [(0,.slice a b c),(1,.int .i64 d),(2,.int .i64 e),(3,.int .i64 f),(4,.func (.func 73) #[.pointer g] #[]),(10,.bool i),(11,.bool j),(12,.int .i64 k),(16,.int .i64 m),(18,.int .i64 n),(19,.int .i64 o)] w:=
 cO (C:=az.k) ng mix (az.j10 a b c d e f g i j k m n o Q w) h
end
section
def az.J11(a:OA)(b c:Nat)(d e f:Int)(g:OA)(i j:Bool)(k m n o:Int)(Q:aN)(w:World):Prop:=
 Split (decide (m<n)) (Holds none [] prog 148 (sR (cT (sR (sR (sR (sR (sR (sR (sR (sR (sR (sR (sR (sR (sR (bB (lB (bB (sR (sR (body f97))))))))))))))))))))) (aM 1 az.u1 Q) [(0,.slice a b c),(1,.int .i64 d),(2,.int .i64 e),(3,.int .i64 f),(4,.func (.func 73) #[.pointer g] #[]),(10,.bool (decide (m>=o))),(11,.bool j),(16,.int .i64 k)] w) (Holds none [] prog 148 (sR (cE (sR (sR (sR (sR (sR (sR (sR (sR (sR (sR (sR (sR (sR (bB (lB (bB (sR (sR (body f97))))))))))))))))))))) (aM 1 az.u1 Q) [(0,.slice a b c),(1,.int .i64 d),(2,.int .i64 e),(3,.int .i64 f),(4,.func (.func 73) #[.pointer g] #[]),(10,.bool (decide (n>=o))),(11,.bool j),(16,.int .i64 k)] w)
variable(a:OA)(b c:Nat)(d e f:Int)(g:OA)(i j:Bool)(k m n o:Int)(Q:aN)(w:World)
theorem az.j11:(aU none [] prog 148 az.k (sR (sR (sR (sR (sR (sR (sR (sR (sR (sR (sR (sR (bB (lB (bB (sR (sR (body f97)))))))))))))))))) az.u1 (aM 1 az.u1 Q) [(0,.slice a b c),(1,.int .i64 d),(2,.int .i64 e),(3,.int .i64 f),(4,.func (.func 73) #[.pointer g] #[]),(10,.bool i),(11,.bool j),(16,.int .i64 k),(18,.int .i64 m),(19,.int .i64 n),(20,.int .i64 o)] w)=az.J11 a b c d e f g i j k m n o Q w:=by kernel_rfl
variable{a b c d e f g i j k m n o Q w}
theorem az.OZ(h:az.J11 a b c d e f g i j k m n o Q w):Holds none [] prog 148 (sR (sR (sR (sR (sR (sR (sR (sR (sR (sR (sR (sR (bB (lB (bB (sR (sR (body f97)))))))))))))))))) (aM 1 az.u1 Q) [(0,.slice a b c),(1,.int .i64 d),(2,.int .i64 e),(3,.int .i64 f),(4,.func (.func 73) #[.pointer g] #[]),(10,.bool i),(11,.bool j),(16,.int .i64 k),(18,.int .i64 m),(19,.int .i64 n),(20,.int .i64 o)] w:=
 cO (C:=az.k) ng mix (az.j11 a b c d e f g i j k m n o Q w) h
end
section
variable(a:OA)(b c:Nat)(d e f:Int)(g:OA)(i j:Bool)(k:Int)(Q:aN)(w:World)
def az.J12:Prop:=
 bk prog 97 #[.slice a b c,.int .i64 d,.int .i64 k,.int .i64 f,.func (.func 73) #[.pointer g] #[]] w fun m n=>m=.tuple #[]/\Holds none [] prog 148 (sR (sR (cT (sR (sR (sR (sR (sR (sR (sR (sR (sR (sR (sR (sR (sR (bB (lB (bB (sR (sR (body f97)))))))))))))))))))))) (aM 1 az.u1 Q) [(0,.slice a b c),(1,.int .i64 d),(2,.int .i64 e),(3,.int .i64 f),(4,.func (.func 73) #[.pointer g] #[]),(10,.bool i),(11,.bool j),(16,.int .i64 k)] n
theorem az.j12:(aU none [] prog 148 az.k (sR (cT (sR (sR (sR (sR (sR (sR (sR (sR (sR (sR (sR (sR (sR (bB (lB (bB (sR (sR (body f97))))))))))))))))))))) az.u1 (aM 1 az.u1 Q) [(0,.slice a b c),(1,.int .i64 d),(2,.int .i64 e),(3,.int .i64 f),(4,.func (.func 73) #[.pointer g] #[]),(10,.bool i),(11,.bool j),(16,.int .i64 k)] w)=az.J12 a b c d e f g i j k Q w:=by kernel_rfl
variable{a b c d e f g i j k Q w}
theorem az.OY(h:az.J12 a b c d e f g i j k Q w):Holds none [] prog 148 (sR (cT (sR (sR (sR (sR (sR (sR (sR (sR (sR (sR (sR (sR (sR (bB (lB (bB (sR (sR (body f97))))))))))))))))))))) (aM 1 az.u1 Q) [(0,.slice a b c),(1,.int .i64 d),(2,.int .i64 e),(3,.int .i64 f),(4,.func (.func 73) #[.pointer g] #[]),(10,.bool i),(11,.bool j),(16,.int .i64 k)] w:=
 cO (C:=az.k) ng mix (az.j12 a b c d e f g i j k Q w) h
end
section
variable(a:OA)(b c:Nat)(d e f:Int)(g:OA)(i j:Bool)(k:Int)(Q:aN)(w:World)
def az.J13:Prop:=
 bk prog 97 #[.slice a b c,.int .i64 (i64.wrap (k+(1:Int))),.int .i64 e,.int .i64 f,.func (.func 73) #[.pointer g] #[]] w fun m n=>m=.tuple #[]/\Holds none [] prog 148 (sR (sR (cE (sR (sR (sR (sR (sR (sR (sR (sR (sR (sR (sR (sR (sR (bB (lB (bB (sR (sR (body f97)))))))))))))))))))))) (aM 1 az.u1 Q) [(0,.slice a b c),(1,.int .i64 d),(2,.int .i64 e),(3,.int .i64 f),(4,.func (.func 73) #[.pointer g] #[]),(10,.bool i),(11,.bool j),(16,.int .i64 k)] n
theorem az.j13:(aU none [] prog 148 az.k (sR (cE (sR (sR (sR (sR (sR (sR (sR (sR (sR (sR (sR (sR (sR (bB (lB (bB (sR (sR (body f97))))))))))))))))))))) az.u1 (aM 1 az.u1 Q) [(0,.slice a b c),(1,.int .i64 d),(2,.int .i64 e),(3,.int .i64 f),(4,.func (.func 73) #[.pointer g] #[]),(10,.bool i),(11,.bool j),(16,.int .i64 k)] w)=az.J13 a b c d e f g i j k Q w:=by kernel_rfl
variable{a b c d e f g i j k Q w}
theorem az.OX(h:az.J13 a b c d e f g i j k Q w):Holds none [] prog 148 (sR (cE (sR (sR (sR (sR (sR (sR (sR (sR (sR (sR (sR (sR (sR (bB (lB (bB (sR (sR (body f97))))))))))))))))))))) (aM 1 az.u1 Q) [(0,.slice a b c),(1,.int .i64 d),(2,.int .i64 e),(3,.int .i64 f),(4,.func (.func 73) #[.pointer g] #[]),(10,.bool i),(11,.bool j),(16,.int .i64 k)] w:=
 cO (C:=az.k) ng mix (az.j13 a b c d e f g i j k Q w) h
end
section
def az.J14(a:OA)(b c:Nat)(d e f:Int)(g:OA)(i j:Bool)(k:Int)(Q:aN)(w:World):Prop:=
 Q .normal [(0,.slice a b c),(1,.int .i64 (i64.wrap (k+(1:Int)))),(2,.int .i64 e),(3,.int .i64 f),(4,.func (.func 73) #[.pointer g] #[]),(10,.bool i),(11,.bool j)] w
variable(a:OA)(b c:Nat)(d e f:Int)(g:OA)(i j:Bool)(k:Int)(Q:aN)(w:World)
theorem az.j14:(aU none [] prog 148 az.k (sR (sR (cT (sR (sR (sR (sR (sR (sR (sR (sR (sR (sR (sR (sR (sR (bB (lB (bB (sR (sR (body f97)))))))))))))))))))))) az.u1 (aM 1 az.u1 Q) [(0,.slice a b c),(1,.int .i64 d),(2,.int .i64 e),(3,.int .i64 f),(4,.func (.func 73) #[.pointer g] #[]),(10,.bool i),(11,.bool j),(16,.int .i64 k)] w)=az.J14 a b c d e f g i j k Q w:=by kernel_rfl
variable{a b c d e f g i j k Q w}
theorem az.OW(h:az.J14 a b c d e f g i j k Q w):Holds none [] prog 148 (sR (sR (cT (sR (sR (sR (sR (sR (sR (sR (sR (sR (sR (sR (sR (sR (bB (lB (bB (sR (sR (body f97)))))))))))))))))))))) (aM 1 az.u1 Q) [(0,.slice a b c),(1,.int .i64 d),(2,.int .i64 e),(3,.int .i64 f),(4,.func (.func 73) #[.pointer g] #[]),(10,.bool i),(11,.bool j),(16,.int .i64 k)] w:=
 cO (C:=az.k) ng mix (az.j14 a b c d e f g i j k Q w) h
end
section
def az.J15(a:OA)(b c:Nat)(d e f:Int)(g:OA)(i j:Bool)(k:Int)(Q:aN)(w:World):Prop:=
 Q .normal [(0,.slice a b c),(1,.int .i64 d),(2,.int .i64 k),(3,.int .i64 f),(4,.func (.func 73) #[.pointer g] #[]),(10,.bool i),(11,.bool j)] w
variable(a:OA)(b c:Nat)(d e f:Int)(g:OA)(i j:Bool)(k:Int)(Q:aN)(w:World)
theorem az.j15:(aU none [] prog 148 az.k (sR (sR (cE (sR (sR (sR (sR (sR (sR (sR (sR (sR (sR (sR (sR (sR (bB (lB (bB (sR (sR (body f97)))))))))))))))))))))) az.u1 (aM 1 az.u1 Q) [(0,.slice a b c),(1,.int .i64 d),(2,.int .i64 e),(3,.int .i64 f),(4,.func (.func 73) #[.pointer g] #[]),(10,.bool i),(11,.bool j),(16,.int .i64 k)] w)=az.J15 a b c d e f g i j k Q w:=by kernel_rfl
variable{a b c d e f g i j k Q w}
theorem az.OU(h:az.J15 a b c d e f g i j k Q w):Holds none [] prog 148 (sR (sR (cE (sR (sR (sR (sR (sR (sR (sR (sR (sR (sR (sR (sR (sR (bB (lB (bB (sR (sR (body f97)))))))))))))))))))))) (aM 1 az.u1 Q) [(0,.slice a b c),(1,.int .i64 d),(2,.int .i64 e),(3,.int .i64 f),(4,.func (.func 73) #[.pointer g] #[]),(10,.bool i),(11,.bool j),(16,.int .i64 k)] w:=
 cO (C:=az.k) ng mix (az.j15 a b c d e f g i j k Q w) h
end
def cg.k:List Nat:= []
def cg.q1(K:KT):aN:=(aM 0 (aR f127) (bO prog f127 K))
def cg.e1(a:OA)(b c:Nat)(d e:Int)(f:OA)(s:Int):Env:= [(0,.slice a b c),(1,.int .i64 d),(2,.int .i64 e),(3,.func (.func 73) #[.pointer f] #[]),(8,.int .i64 s)]
def cg.u1:List Nat:= [0,1,2,3,8]
def cg.q2(Q:aN):aN:=(aM 2 (b6 (sR (sR (lB (bB (sR (body f127))))))++cg.u1) (aM 1 (b6 (sR (sR (lB (bB (sR (body f127))))))++cg.u1) (bT (fun bX w_=>match cutAt cg.k (sR (sR (lB (bB (sR (body f127))))))with|true=>Holds none [] prog 53 (sR (sR (lB (bB (sR (body f127)))))) Q bX w_|false=>aU none [] prog 53 cg.k (sR (sR (lB (bB (sR (body f127)))))) cg.u1 Q bX w_) Q)))
def cg.e2(a:OA)(b c:Nat)(d e:Int)(f:OA)(g s:Int):Env:= [(0,.slice a b c),(1,.int .i64 d),(2,.int .i64 e),(3,.func (.func 73) #[.pointer f] #[]),(8,.int .i64 g),(9,.int .i64 s)]
def cg.u2:List Nat:= [0,1,2,3,8,9]
section
variable(a:OA)(b d:Nat)(e f:Int)(g:OA)(K:KT)(w:World)
def cg.W:Prop:=
 Holds none [] prog 53 (.loop (lB (bB (sR (body f127))))) (cg.q1 K) [(0,.slice a b d),(1,.int .i64 e),(2,.int .i64 f),(3,.func (.func 73) #[.pointer g] #[]),(8,.int .i64 (i64.wrap (e+(1:Int))))] w
variable{a b d e f g K w}
theorem cg.of(h:cg.W a b d e f g K w):bk prog 127 #[.slice a b d,.int .i64 e,.int .i64 f,.func (.func 73) #[.pointer g] #[]] w K:=
 rqq func127 (C:=cg.k) h
end
section
variable(a:OA)(b c:Nat)(d e:Int)(f:OA)(g:Int)(Q:aN)(w:World)
def cg.B1:Prop:=
 Split (decide (g<e)) (Holds none [] prog 53 (.loop (lB (bB (sR (bB (sL (sR (lB (bB (sR (body f127))))))))))) (cg.q2 Q) [(0,.slice a b c),(1,.int .i64 d),(2,.int .i64 e),(3,.func (.func 73) #[.pointer f] #[]),(8,.int .i64 g),(9,.int .i64 g)] w) (Q (.exit 0) [(0,.slice a b c),(1,.int .i64 d),(2,.int .i64 e),(3,.func (.func 73) #[.pointer f] #[]),(8,.int .i64 g)] w)
theorem cg.b1:(aU none [] prog 53 cg.k (lB (bB (sR (body f127)))) cg.u1 Q [(0,.slice a b c),(1,.int .i64 d),(2,.int .i64 e),(3,.func (.func 73) #[.pointer f] #[]),(8,.int .i64 g)] w)=cg.B1 a b c d e f g Q w:=by kernel_rfl
variable{a b c d e f}
theorem cg.b9(I:Int->World->Prop)(μ:Int->World->Nat)(s:Int){Q:aN}{w:World}(h0:I s w)
 (round:∀s w,I s w->cg.B1 a b c d e f s (bL (cg.e1 a b c d e f) I μ s w Q) w):Holds none [] prog 53 (.loop (lB (bB (sR (body f127))))) Q (cg.e1 a b c d e f s) w:=
 a7 ng mix (cg.e1 a b c d e f) I μ cg.k cg.u1 s (fun s Q w=>cg.B1 a b c d e f s Q w) (fun s Q w=>cg.b1 a b c d e f s Q w) h0 round
end
section
def cg.cH(a:OA)(b c:Nat)(d e:Int)(f:OA)(g:Int)(K:KT)(w:World):Prop:=
 K (.tuple #[]) w
variable(a:OA)(b c:Nat)(d e:Int)(f:OA)(g:Int)(K:KT)(w:World)
theorem cg.df:(cg.q1 K (.exit 0) [(0,.slice a b c),(1,.int .i64 d),(2,.int .i64 e),(3,.func (.func 73) #[.pointer f] #[]),(8,.int .i64 g)] w)=cg.cH a b c d e f g K w:=by kernel_rfl
end
section
variable(a:OA)(b c:Nat)(d e:Int)(f:OA)(g i:Int)(Q:aN)(w:World)
def cg.B2:Prop:=
 let j:=w.drew;Split (decide (i>d)) ((0<=i/\i<(b:Int))/\Is a fun k:Addr=>∃m:AV,(m.size=32/\Cells j (k.add (i.toNat*32)) m)/\(0<=(i64.wrap (i-(1:Int)))/\(i64.wrap (i-(1:Int)))<(b:Int))/\Is a fun n:Addr=>∃o:AV,(o.size=32/\Cells j (n.add ((i64.wrap (i-(1:Int))).toNat*32)) o)/\bk prog 73 #[.pointer f,.agg m,.agg o] j fun p q=>∃r:Int,p=.int .i64 r/\Split (decide (r<(0:Int))) (let t:=q.drew;(0<=(i64.wrap (i-(1:Int)))/\(i64.wrap (i-(1:Int)))<(b:Int))/\Is a fun u:Addr=>∃v:AV,(v.size=32/\Cells t (u.add ((i64.wrap (i-(1:Int))).toNat*32)) v)/\(0<=i/\i<(b:Int))/\Is a fun x:Addr=>∃y:AV,(y.size=32/\Cells t (x.add (i.toNat*32)) y)/\(0<=i/\i<(b:Int))/\Is a fun z:Addr=>(v.size=32/\(∀a1∈v.toList,a1.oneCell'=true)/\∀b1,b1<32->Wr t ((z.add (i.toNat*32)).add b1))/\let c1:=setCells t (z.add (i.toNat*32)) v.toList 0;(0<=(i64.wrap (i-(1:Int)))/\(i64.wrap (i-(1:Int)))<(b:Int))/\Is a fun d1:Addr=>(y.size=32/\(∀e1∈y.toList,e1.oneCell'=true)/\∀f1,f1<32->Wr c1 ((d1.add ((i64.wrap (i-(1:Int))).toNat*32)).add f1))/\let g1:=setCells c1 (d1.add ((i64.wrap (i-(1:Int))).toNat*32)) y.toList 0;Q .normal [(0,.slice a b c),(1,.int .i64 d),(2,.int .i64 e),(3,.func (.func 73) #[.pointer f] #[]),(8,.int .i64 g),(9,.int .i64 (i64.wrap (i-(1:Int))))] g1) (Q (.exit 2) [(0,.slice a b c),(1,.int .i64 d),(2,.int .i64 e),(3,.func (.func 73) #[.pointer f] #[]),(8,.int .i64 g),(9,.int .i64 i)] q)) (Q (.exit 2) [(0,.slice a b c),(1,.int .i64 d),(2,.int .i64 e),(3,.func (.func 73) #[.pointer f] #[]),(8,.int .i64 g),(9,.int .i64 i)] j)
theorem cg.b2:(aU none [] prog 53 cg.k (lB (bB (sR (bB (sL (sR (lB (bB (sR (body f127)))))))))) cg.u2 Q [(0,.slice a b c),(1,.int .i64 d),(2,.int .i64 e),(3,.func (.func 73) #[.pointer f] #[]),(8,.int .i64 g),(9,.int .i64 i)] w)=cg.B2 a b c d e f g i Q w:=by kernel_rfl
variable{a b c d e f g}
theorem cg.gC(I:Int->World->Prop)(μ:Int->World->Nat)(s:Int){Q:aN}{w:World}(h0:I s w)
 (round:∀s w,I s w->cg.B2 a b c d e f g s (bL (cg.e2 a b c d e f g) I μ s w Q) w):Holds none [] prog 53 (.loop (lB (bB (sR (bB (sL (sR (lB (bB (sR (body f127))))))))))) Q (cg.e2 a b c d e f g s) w:=
 a7 ng mix (cg.e2 a b c d e f g) I μ cg.k cg.u2 s (fun s Q w=>cg.B2 a b c d e f g s Q w) (fun s Q w=>cg.b2 a b c d e f g s Q w) h0 round
end
section
def cg.ik(a:OA)(b c:Nat)(d e:Int)(f:OA)(g i:Int)(Q:aN)(w:World):Prop:=
 Q .normal [(0,.slice a b c),(1,.int .i64 d),(2,.int .i64 e),(3,.func (.func 73) #[.pointer f] #[]),(8,.int .i64 (i64.wrap (g+(1:Int))))] w
variable(a:OA)(b c:Nat)(d e:Int)(f:OA)(g i:Int)(Q:aN)(w:World)
theorem cg.jA:(cg.q2 Q (.exit 2) [(0,.slice a b c),(1,.int .i64 d),(2,.int .i64 e),(3,.func (.func 73) #[.pointer f] #[]),(8,.int .i64 g),(9,.int .i64 i)] w)=cg.ik a b c d e f g i Q w:=by kernel_rfl
end
def bZ.k:List Nat:= []
def bZ.q1(K:KT):aN:=(aM 0 (b6 (sR (sR (sR (sR (body f128)))))++(aR f128)) (bT (fun bX w_=>match cutAt bZ.k (sR (sR (sR (sR (body f128)))))with|true=>Holds none [] prog 60 (sR (sR (sR (sR (body f128))))) (bO prog f128 K) bX w_|false=>aU none [] prog 60 bZ.k (sR (sR (sR (sR (body f128))))) (aR f128) (bO prog f128 K) bX w_) (bO prog f128 K)))
def bZ.e1(a:OA)(b c:Nat)(d:OA)(e f g s:Int):Env:= [(0,.slice a b c),(3,.func (.func 73) #[.pointer d] #[]),(8,.int .i64 e),(9,.int .i64 f),(10,.int .i64 g),(11,.int .i64 s)]
def bZ.u1:List Nat:= [0,3,8,9,10,11]
def bZ.q2(K:KT):aN:=(aM 2 (aR f128) (bO prog f128 K))
def bZ.e2(a:OA)(b c:Nat)(d:OA)(e f s:Int):Env:= [(0,.slice a b c),(3,.func (.func 73) #[.pointer d] #[]),(8,.int .i64 e),(9,.int .i64 f),(12,.int .i64 s)]
def bZ.u2:List Nat:= [0,3,8,9,12]
section
variable(a:OA)(b d:Nat)(e f:Int)(g:OA)(K:KT)(w:World)
def bZ.W:Prop:=
 (2:Int)≠0/\Holds none [] prog 60 (.loop (lB (bB (sR (sL (sR (sR (sR (body f128))))))))) (bZ.q1 K) [(0,.slice a b d),(3,.func (.func 73) #[.pointer g] #[]),(8,.int .i64 e),(9,.int .i64 0),(10,.int .i64 (i64.wrap (f-e))),(11,.int .i64 (i64.wrap ((i64.wrap ((i64.wrap (f-e))-(1:Int))).tdiv (2:Int))))] w
variable{a b d e f g K w}
theorem bZ.of(h:bZ.W a b d e f g K w):bk prog 128 #[.slice a b d,.int .i64 e,.int .i64 f,.func (.func 73) #[.pointer g] #[]] w K:=
 rqq func128 (C:=bZ.k) h
end
section
variable(a:OA)(b c:Nat)(d:OA)(e f g i:Int)(Q:aN)(w:World)
def bZ.B1:Prop:=
 Split (decide (i>=(0:Int))) (bk prog 152 #[.slice a b c,.int .i64 i,.int .i64 g,.int .i64 e,.func (.func 73) #[.pointer d] #[]] w fun j k=>j=.tuple #[]/\Q .normal [(0,.slice a b c),(3,.func (.func 73) #[.pointer d] #[]),(8,.int .i64 e),(9,.int .i64 f),(10,.int .i64 g),(11,.int .i64 (i64.wrap (i-(1:Int))))] k) (Q (.exit 0) [(0,.slice a b c),(3,.func (.func 73) #[.pointer d] #[]),(8,.int .i64 e),(9,.int .i64 f),(10,.int .i64 g),(11,.int .i64 i)] w)
theorem bZ.b1:(aU none [] prog 60 bZ.k (lB (bB (sR (sL (sR (sR (sR (body f128)))))))) bZ.u1 Q [(0,.slice a b c),(3,.func (.func 73) #[.pointer d] #[]),(8,.int .i64 e),(9,.int .i64 f),(10,.int .i64 g),(11,.int .i64 i)] w)=bZ.B1 a b c d e f g i Q w:=by kernel_rfl
variable{a b c d e f g}
theorem bZ.b9(I:Int->World->Prop)(μ:Int->World->Nat)(s:Int){Q:aN}{w:World}(h0:I s w)
 (round:∀s w,I s w->bZ.B1 a b c d e f g s (bL (bZ.e1 a b c d e f g) I μ s w Q) w):Holds none [] prog 60 (.loop (lB (bB (sR (sL (sR (sR (sR (body f128))))))))) Q (bZ.e1 a b c d e f g s) w:=
 a7 ng mix (bZ.e1 a b c d e f g) I μ bZ.k bZ.u1 s (fun s Q w=>bZ.B1 a b c d e f g s Q w) (fun s Q w=>bZ.b1 a b c d e f g s Q w) h0 round
end
section
def bZ.cH(a:OA)(b c:Nat)(d:OA)(e f g i:Int)(K:KT)(w:World):Prop:=
 Holds none [] prog 60 (.loop (lB (bB (sR (sR (sR (sR (sR (body f128))))))))) (bZ.q2 K) [(0,.slice a b c),(3,.func (.func 73) #[.pointer d] #[]),(8,.int .i64 e),(9,.int .i64 f),(12,.int .i64 (i64.wrap (g-(1:Int))))] w
variable(a:OA)(b c:Nat)(d:OA)(e f g i:Int)(K:KT)(w:World)
theorem bZ.df:(bZ.q1 K (.exit 0) [(0,.slice a b c),(3,.func (.func 73) #[.pointer d] #[]),(8,.int .i64 e),(9,.int .i64 f),(10,.int .i64 g),(11,.int .i64 i)] w)=bZ.cH a b c d e f g i K w:=by kernel_rfl
end
section
variable(a:OA)(b c:Nat)(d:OA)(e f g:Int)(Q:aN)(w:World)
def bZ.B2:Prop:=
 Split (decide (g>=(0:Int))) (let i:=w.drew;(0<=(i64.wrap (e+g))/\(i64.wrap (e+g))<(b:Int))/\Is a fun j:Addr=>∃k:AV,(k.size=32/\Cells i (j.add ((i64.wrap (e+g)).toNat*32)) k)/\(0<=e/\e<(b:Int))/\Is a fun m:Addr=>∃n:AV,(n.size=32/\Cells i (m.add (e.toNat*32)) n)/\(0<=e/\e<(b:Int))/\Is a fun o:Addr=>(k.size=32/\(∀p∈k.toList,p.oneCell'=true)/\∀q,q<32->Wr i ((o.add (e.toNat*32)).add q))/\let r:=setCells i (o.add (e.toNat*32)) k.toList 0;(0<=(i64.wrap (e+g))/\(i64.wrap (e+g))<(b:Int))/\Is a fun t:Addr=>(n.size=32/\(∀u∈n.toList,u.oneCell'=true)/\∀v,v<32->Wr r ((t.add ((i64.wrap (e+g)).toNat*32)).add v))/\let x:=setCells r (t.add ((i64.wrap (e+g)).toNat*32)) n.toList 0;bk prog 152 #[.slice a b c,.int .i64 f,.int .i64 g,.int .i64 e,.func (.func 73) #[.pointer d] #[]] x fun y z=>y=.tuple #[]/\Q .normal [(0,.slice a b c),(3,.func (.func 73) #[.pointer d] #[]),(8,.int .i64 e),(9,.int .i64 f),(12,.int .i64 (i64.wrap (g-(1:Int))))] z) (Q (.exit 2) [(0,.slice a b c),(3,.func (.func 73) #[.pointer d] #[]),(8,.int .i64 e),(9,.int .i64 f),(12,.int .i64 g)] w)
theorem bZ.b2:(aU none [] prog 60 bZ.k (lB (bB (sR (sR (sR (sR (sR (body f128)))))))) bZ.u2 Q [(0,.slice a b c),(3,.func (.func 73) #[.pointer d] #[]),(8,.int .i64 e),(9,.int .i64 f),(12,.int .i64 g)] w)=bZ.B2 a b c d e f g Q w:=by kernel_rfl
variable{a b c d e f}
theorem bZ.gC(I:Int->World->Prop)(μ:Int->World->Nat)(s:Int){Q:aN}{w:World}(h0:I s w)
 (round:∀s w,I s w->bZ.B2 a b c d e f s (bL (bZ.e2 a b c d e f) I μ s w Q) w):Holds none [] prog 60 (.loop (lB (bB (sR (sR (sR (sR (sR (body f128))))))))) Q (bZ.e2 a b c d e f s) w:=
 a7 ng mix (bZ.e2 a b c d e f) I μ bZ.k bZ.u2 s (fun s Q w=>bZ.B2 a b c d e f s Q w) (fun s Q w=>bZ.b2 a b c d e f s Q w) h0 round
end
section
def bZ.ik(a:OA)(b c:Nat)(d:OA)(e f g:Int)(K:KT)(w:World):Prop:=
 K (.tuple #[]) w
variable(a:OA)(b c:Nat)(d:OA)(e f g:Int)(K:KT)(w:World)
theorem bZ.jA:(bZ.q2 K (.exit 2) [(0,.slice a b c),(3,.func (.func 73) #[.pointer d] #[]),(8,.int .i64 e),(9,.int .i64 f),(12,.int .i64 g)] w)=bZ.ik a b c d e f g K w:=by kernel_rfl
end
def eN.k:List Nat:= []
def eN.q1(K:KT):aN:=(aM 0 (aR Tryz.f129) (bO prog Tryz.f129 K))
def eN.e1(a:OA)(b c:Nat)(d e:Int)(f:Addr)(g s:Int):Env:= [(0,.slice a b c),(1,.int .i64 d),(8,.int .i64 e),(9,.pointer (some f)),(10,.int .u64 g),(11,.int .i64 s)]
def eN.u1:List Nat:= [0,1,8,9,10,11]
section
def eN.W(a:OA)(b d:Nat)(e f:Int)(g:OA)(K:KT)(w:World):Prop:=
 Split (decide ((i64.wrap (f-e))>=(8:Int))) (let i:=w.alloc (.cells (#[.int .u64 0]:AV) 204);Wr i (⟨w.heap.size,0,none⟩:Addr)/\let j:=i.setCell (⟨w.heap.size,0,none⟩:Addr) (.int .u64 (u64.wrap (i64.wrap (f-e))));bk prog 153 #[.int .i64 (i64.wrap (f-e))] j fun k m=>∃n:Int,k=.int .u64 n/\(4:Int)≠0/\Holds none [] prog 67 (.loop (lB (bB (sR (sR (sR (cT (sR (sR (body Tryz.f129)))))))))) (eN.q1 K) [(0,.slice a b d),(1,.int .i64 e),(8,.int .i64 (i64.wrap (f-e))),(9,.pointer (some (⟨w.heap.size,0,none⟩:Addr))),(10,.int .u64 n),(11,.int .i64 (i64.wrap ((i64.wrap (e+(i64.wrap ((i64.wrap ((i64.wrap (f-e)).tdiv (4:Int)))*(2:Int)))))-(1:Int))))] m) (K (.tuple #[]) w)
variable(a:OA)(b d:Nat)(e f:Int)(g:OA)(K:KT)(w:World)
variable{a b d e f g K w}
theorem eN.of(h:eN.W a b d e f g K w):bk prog 129 #[.slice a b d,.int .i64 e,.int .i64 f,.func (.func 73) #[.pointer g] #[]] w K:=
 rqq func129 (C:=eN.k) h
end
section
variable(a:OA)(b c:Nat)(d e:Int)(f:Addr)(g i:Int)(Q:aN)(w:World)
def eN.B1:Prop:=
 (4:Int)≠0/\Split (decide (i<=(i64.wrap ((i64.wrap (d+(i64.wrap ((i64.wrap (e.tdiv (4:Int)))*(2:Int)))))+(1:Int))))) (bk prog 154 #[.pointer (some f)] w fun j k=>∃m:Int,j=.int .u64 m/\Split (decide ((i64.wrap (u64.wrap ((BitVec.ofInt 64 m&&& BitVec.ofInt 64 (u64.wrap (g-(1:Int)))).toNat)))>=e)) (let n:=k.drew;(0<=(i64.wrap (d+(i64.wrap ((i64.wrap (u64.wrap ((BitVec.ofInt 64 m&&& BitVec.ofInt 64 (u64.wrap (g-(1:Int)))).toNat)))-e))))/\(i64.wrap (d+(i64.wrap ((i64.wrap (u64.wrap ((BitVec.ofInt 64 m&&& BitVec.ofInt 64 (u64.wrap (g-(1:Int)))).toNat)))-e))))<(b:Int))/\Is a fun o:Addr=>∃p:AV,(p.size=32/\Cells n (o.add ((i64.wrap (d+(i64.wrap ((i64.wrap (u64.wrap ((BitVec.ofInt 64 m&&& BitVec.ofInt 64 (u64.wrap (g-(1:Int)))).toNat)))-e)))).toNat*32)) p)/\(0<=i/\i<(b:Int))/\Is a fun q:Addr=>∃r:AV,(r.size=32/\Cells n (q.add (i.toNat*32)) r)/\(0<=i/\i<(b:Int))/\Is a fun t:Addr=>(p.size=32/\(∀u∈p.toList,u.oneCell'=true)/\∀v,v<32->Wr n ((t.add (i.toNat*32)).add v))/\let x:=setCells n (t.add (i.toNat*32)) p.toList 0;(0<=(i64.wrap (d+(i64.wrap ((i64.wrap (u64.wrap ((BitVec.ofInt 64 m&&& BitVec.ofInt 64 (u64.wrap (g-(1:Int)))).toNat)))-e))))/\(i64.wrap (d+(i64.wrap ((i64.wrap (u64.wrap ((BitVec.ofInt 64 m&&& BitVec.ofInt 64 (u64.wrap (g-(1:Int)))).toNat)))-e))))<(b:Int))/\Is a fun y:Addr=>(r.size=32/\(∀z∈r.toList,z.oneCell'=true)/\∀a1,a1<32->Wr x ((y.add ((i64.wrap (d+(i64.wrap ((i64.wrap (u64.wrap ((BitVec.ofInt 64 m&&& BitVec.ofInt 64 (u64.wrap (g-(1:Int)))).toNat)))-e)))).toNat*32)).add a1))/\let b1:=setCells x (y.add ((i64.wrap (d+(i64.wrap ((i64.wrap (u64.wrap ((BitVec.ofInt 64 m&&& BitVec.ofInt 64 (u64.wrap (g-(1:Int)))).toNat)))-e)))).toNat*32)) r.toList 0;Q .normal [(0,.slice a b c),(1,.int .i64 d),(8,.int .i64 e),(9,.pointer (some f)),(10,.int .u64 g),(11,.int .i64 (i64.wrap (i+(1:Int))))] b1) (let c1:=k.drew;(0<=(i64.wrap (d+(i64.wrap (u64.wrap ((BitVec.ofInt 64 m&&& BitVec.ofInt 64 (u64.wrap (g-(1:Int)))).toNat)))))/\(i64.wrap (d+(i64.wrap (u64.wrap ((BitVec.ofInt 64 m&&& BitVec.ofInt 64 (u64.wrap (g-(1:Int)))).toNat)))))<(b:Int))/\Is a fun d1:Addr=>∃e1:AV,(e1.size=32/\Cells c1 (d1.add ((i64.wrap (d+(i64.wrap (u64.wrap ((BitVec.ofInt 64 m&&& BitVec.ofInt 64 (u64.wrap (g-(1:Int)))).toNat))))).toNat*32)) e1)/\(0<=i/\i<(b:Int))/\Is a fun f1:Addr=>∃g1:AV,(g1.size=32/\Cells c1 (f1.add (i.toNat*32)) g1)/\(0<=i/\i<(b:Int))/\Is a fun i1:Addr=>(e1.size=32/\(∀j1∈e1.toList,j1.oneCell'=true)/\∀k1,k1<32->Wr c1 ((i1.add (i.toNat*32)).add k1))/\let m1:=setCells c1 (i1.add (i.toNat*32)) e1.toList 0;(0<=(i64.wrap (d+(i64.wrap (u64.wrap ((BitVec.ofInt 64 m&&& BitVec.ofInt 64 (u64.wrap (g-(1:Int)))).toNat)))))/\(i64.wrap (d+(i64.wrap (u64.wrap ((BitVec.ofInt 64 m&&& BitVec.ofInt 64 (u64.wrap (g-(1:Int)))).toNat)))))<(b:Int))/\Is a fun n1:Addr=>(g1.size=32/\(∀o1∈g1.toList,o1.oneCell'=true)/\∀p1,p1<32->Wr m1 ((n1.add ((i64.wrap (d+(i64.wrap (u64.wrap ((BitVec.ofInt 64 m&&& BitVec.ofInt 64 (u64.wrap (g-(1:Int)))).toNat))))).toNat*32)).add p1))/\let q1:=setCells m1 (n1.add ((i64.wrap (d+(i64.wrap (u64.wrap ((BitVec.ofInt 64 m&&& BitVec.ofInt 64 (u64.wrap (g-(1:Int)))).toNat))))).toNat*32)) g1.toList 0;Q .normal [(0,.slice a b c),(1,.int .i64 d),(8,.int .i64 e),(9,.pointer (some f)),(10,.int .u64 g),(11,.int .i64 (i64.wrap (i+(1:Int))))] q1)) (Q (.exit 0) [(0,.slice a b c),(1,.int .i64 d),(8,.int .i64 e),(9,.pointer (some f)),(10,.int .u64 g),(11,.int .i64 i)] w)
theorem eN.b1:(aU none [] prog 67 eN.k (lB (bB (sR (sR (sR (cT (sR (sR (body Tryz.f129))))))))) eN.u1 Q [(0,.slice a b c),(1,.int .i64 d),(8,.int .i64 e),(9,.pointer (some f)),(10,.int .u64 g),(11,.int .i64 i)] w)=eN.B1 a b c d e f g i Q w:=by kernel_rfl
variable{a b c d e f g}
theorem eN.b9(I:Int->World->Prop)(μ:Int->World->Nat)(s:Int){Q:aN}{w:World}(h0:I s w)
 (round:∀s w,I s w->eN.B1 a b c d e f g s (bL (eN.e1 a b c d e f g) I μ s w Q) w):Holds none [] prog 67 (.loop (lB (bB (sR (sR (sR (cT (sR (sR (body Tryz.f129)))))))))) Q (eN.e1 a b c d e f g s) w:=
 a7 ng mix (eN.e1 a b c d e f g) I μ eN.k eN.u1 s (fun s Q w=>eN.B1 a b c d e f g s Q w) (fun s Q w=>eN.b1 a b c d e f g s Q w) h0 round
end
section
def eN.cH(a:OA)(b c:Nat)(d e:Int)(f:Addr)(g i:Int)(K:KT)(w:World):Prop:=
 K (.tuple #[]) w
variable(a:OA)(b c:Nat)(d e:Int)(f:Addr)(g i:Int)(K:KT)(w:World)
theorem eN.df:(eN.q1 K (.exit 0) [(0,.slice a b c),(1,.int .i64 d),(8,.int .i64 e),(9,.pointer (some f)),(10,.int .u64 g),(11,.int .i64 i)] w)=eN.cH a b c d e f g i K w:=by kernel_rfl
end
def r7.k:List Nat:= []
section
variable(a:OA)(b d:Nat)(e f:Int)(g:OA)(K:KT)(w:World)
def r7.W:Prop:=
 let i:=w.alloc (.cells (#[.int .i64 0]:AV) 3);(4:Int)≠0/\(4:Int)≠0/\(4:Int)≠0/\Split (decide ((i64.wrap (f-e))>=(8:Int))) (Split (decide ((i64.wrap (f-e))>=(50:Int))) (bk prog 155 #[.slice a b d,.int .i64 (i64.wrap (e+(i64.wrap ((i64.wrap ((i64.wrap (f-e)).tdiv (4:Int)))*(1:Int))))),.pointer (some (⟨w.heap.size,0,none⟩:Addr)),.func (.func 73) #[.pointer g] #[]] i fun j k=>∃m:Int,j=.int .i64 m/\bk prog 155 #[.slice a b d,.int .i64 (i64.wrap (e+(i64.wrap ((i64.wrap ((i64.wrap (f-e)).tdiv (4:Int)))*(2:Int))))),.pointer (some (⟨w.heap.size,0,none⟩:Addr)),.func (.func 73) #[.pointer g] #[]] k fun n o=>∃p:Int,n=.int .i64 p/\bk prog 155 #[.slice a b d,.int .i64 (i64.wrap (e+(i64.wrap ((i64.wrap ((i64.wrap (f-e)).tdiv (4:Int)))*(3:Int))))),.pointer (some (⟨w.heap.size,0,none⟩:Addr)),.func (.func 73) #[.pointer g] #[]] o fun q r=>∃t:Int,q=.int .i64 t/\bk prog 156 #[.slice a b d,.int .i64 m,.int .i64 p,.int .i64 t,.pointer (some (⟨w.heap.size,0,none⟩:Addr)),.func (.func 73) #[.pointer g] #[]] r fun u v=>∃x:Int,u=.int .i64 x/\∃y:Int,v.cell? (⟨w.heap.size,0,none⟩:Addr)=some (.int .i64 y)/\Split (y==(0:Int)) (K (.tuple #[.int .i64 x,.int .i64 1]) v) (Split (y==(12:Int)) (K (.tuple #[.int .i64 x,.int .i64 2]) v) (K (.tuple #[.int .i64 x,.int .i64 0]) v))) (bk prog 156 #[.slice a b d,.int .i64 (i64.wrap (e+(i64.wrap ((i64.wrap ((i64.wrap (f-e)).tdiv (4:Int)))*(1:Int))))),.int .i64 (i64.wrap (e+(i64.wrap ((i64.wrap ((i64.wrap (f-e)).tdiv (4:Int)))*(2:Int))))),.int .i64 (i64.wrap (e+(i64.wrap ((i64.wrap ((i64.wrap (f-e)).tdiv (4:Int)))*(3:Int))))),.pointer (some (⟨w.heap.size,0,none⟩:Addr)),.func (.func 73) #[.pointer g] #[]] i fun z a1=>∃b1:Int,z=.int .i64 b1/\∃c1:Int,a1.cell? (⟨w.heap.size,0,none⟩:Addr)=some (.int .i64 c1)/\Split (c1==(0:Int)) (K (.tuple #[.int .i64 b1,.int .i64 1]) a1) (Split (c1==(12:Int)) (K (.tuple #[.int .i64 b1,.int .i64 2]) a1) (K (.tuple #[.int .i64 b1,.int .i64 0]) a1)))) (∃d1:Int,i.cell? (⟨w.heap.size,0,none⟩:Addr)=some (.int .i64 d1)/\Split (d1==(0:Int)) (K (.tuple #[.int .i64 (i64.wrap (e+(i64.wrap ((i64.wrap ((i64.wrap (f-e)).tdiv (4:Int)))*(2:Int))))),.int .i64 1]) i) (Split (d1==(12:Int)) (K (.tuple #[.int .i64 (i64.wrap (e+(i64.wrap ((i64.wrap ((i64.wrap (f-e)).tdiv (4:Int)))*(2:Int))))),.int .i64 2]) i) (K (.tuple #[.int .i64 (i64.wrap (e+(i64.wrap ((i64.wrap ((i64.wrap (f-e)).tdiv (4:Int)))*(2:Int))))),.int .i64 0]) i)))
variable{a b d e f g K w}
theorem r7.of(h:r7.W a b d e f g K w):bk prog 130 #[.slice a b d,.int .i64 e,.int .i64 f,.func (.func 73) #[.pointer g] #[]] w K:=
 rqq func130 (C:=r7.k) h
end
def eM.k:List Nat:= []
def eM.q1(K:KT):aN:=(aM 0 (aR f131) (bO prog f131 K))
def eM.e1(a:OA)(b c:Nat)(s:Int×Int):Env:= [(0,.slice a b c),(8,.int .i64 s.1),(9,.int .i64 s.2)]
def eM.u1:List Nat:= [0,8,9]
section
def eM.W(a:OA)(b d:Nat)(e f:Int)(g:OA)(K:KT)(w:World):Prop:=
 Holds none [] prog 34 (.loop (lB (bB (sR (sR (body f131)))))) (eM.q1 K) [(0,.slice a b d),(8,.int .i64 e),(9,.int .i64 (i64.wrap (f-(1:Int))))] w
variable(a:OA)(b d:Nat)(e f:Int)(g:OA)(K:KT)(w:World)
variable{a b d e f g K w}
theorem eM.of(h:eM.W a b d e f g K w):bk prog 131 #[.slice a b d,.int .i64 e,.int .i64 f,.func (.func 73) #[.pointer g] #[]] w K:=
 rqq func131 (C:=eM.k) h
end
section
variable(a:OA)(b c:Nat)(d e:Int)(Q:aN)(w:World)
def eM.B1:Prop:=
 Split (decide (d<e)) (let f:=w.drew;(0<=e/\e<(b:Int))/\Is a fun g:Addr=>∃i:AV,(i.size=32/\Cells f (g.add (e.toNat*32)) i)/\(0<=d/\d<(b:Int))/\Is a fun j:Addr=>∃k:AV,(k.size=32/\Cells f (j.add (d.toNat*32)) k)/\(0<=d/\d<(b:Int))/\Is a fun m:Addr=>(i.size=32/\(∀n∈i.toList,n.oneCell'=true)/\∀o,o<32->Wr f ((m.add (d.toNat*32)).add o))/\let p:=setCells f (m.add (d.toNat*32)) i.toList 0;(0<=e/\e<(b:Int))/\Is a fun q:Addr=>(k.size=32/\(∀r∈k.toList,r.oneCell'=true)/\∀t,t<32->Wr p ((q.add (e.toNat*32)).add t))/\let u:=setCells p (q.add (e.toNat*32)) k.toList 0;Q .normal [(0,.slice a b c),(8,.int .i64 (i64.wrap (d+(1:Int)))),(9,.int .i64 (i64.wrap (e-(1:Int))))] u) (Q (.exit 0) [(0,.slice a b c),(8,.int .i64 d),(9,.int .i64 e)] w)
theorem eM.b1:(aU none [] prog 34 eM.k (lB (bB (sR (sR (body f131))))) eM.u1 Q [(0,.slice a b c),(8,.int .i64 d),(9,.int .i64 e)] w)=eM.B1 a b c d e Q w:=by kernel_rfl
variable{a b c}
theorem eM.b9(I:Int×Int->World->Prop)(μ:Int×Int->World->Nat)(s:Int×Int){Q:aN}{w:World}(h0:I s w)
 (round:∀s w,I s w->eM.B1 a b c (s.1) (s.2) (bL (eM.e1 a b c) I μ s w Q) w):Holds none [] prog 34 (.loop (lB (bB (sR (sR (body f131)))))) Q (eM.e1 a b c s) w:=
 a7 ng mix (eM.e1 a b c) I μ eM.k eM.u1 s (fun s Q w=>eM.B1 a b c (s.1) (s.2) Q w) (fun s Q w=>eM.b1 a b c (s.1) (s.2) Q w) h0 round
end
section
def eM.cH(a:OA)(b c:Nat)(d e:Int)(K:KT)(w:World):Prop:=
 K (.tuple #[]) w
variable(a:OA)(b c:Nat)(d e:Int)(K:KT)(w:World)
theorem eM.df:(eM.q1 K (.exit 0) [(0,.slice a b c),(8,.int .i64 d),(9,.int .i64 e)] w)=eM.cH a b c d e K w:=by kernel_rfl
end
def bD.k:List Nat:= []
def bD.q1(K:KT):aN:=(aM 0 (b6 (sR (sR (sR (body f132))))++(aR f132)) (bT (fun bX w_=>match cutAt bD.k (sR (sR (sR (body f132))))with|true=>Holds none [] prog 141 (sR (sR (sR (body f132)))) (bO prog f132 K) bX w_|false=>aU none [] prog 141 bD.k (sR (sR (sR (body f132)))) (aR f132) (bO prog f132 K) bX w_) (bO prog f132 K)))
def bD.e1(a:OA)(b c:Nat)(d e:Int)(f:OA)(s:Bool×Int×Int):Env:= [(0,.slice a b c),(1,.int .i64 d),(2,.int .i64 e),(3,.func (.func 73) #[.pointer f] #[]),(8,.bool s.1),(9,.int .i64 s.2.1),(10,.int .i64 s.2.2)]
def bD.u1:List Nat:= [0,1,2,3,8,9,10]
def bD.q2(Q:aN):aN:=(aM 2 (b6 (sR (bB (sL (sR (lB (bB (sR (sL (sR (sR (body f132)))))))))))++(b6 (sR (sR (lB (bB (sR (sL (sR (sR (body f132)))))))))++bD.u1)) (bT (fun bX w_=>match cutAt bD.k (sR (bB (sL (sR (lB (bB (sR (sL (sR (sR (body f132)))))))))))with|true=>Holds none [] prog 141 (sR (bB (sL (sR (lB (bB (sR (sL (sR (sR (body f132))))))))))) (aM 1 (b6 (sR (sR (lB (bB (sR (sL (sR (sR (body f132)))))))))++bD.u1) (bT (fun bX w_=>match cutAt bD.k (sR (sR (lB (bB (sR (sL (sR (sR (body f132)))))))))with|true=>Holds none [] prog 141 (sR (sR (lB (bB (sR (sL (sR (sR (body f132))))))))) Q bX w_|false=>aU none [] prog 141 bD.k (sR (sR (lB (bB (sR (sL (sR (sR (body f132))))))))) bD.u1 Q bX w_) Q)) bX w_|false=>aU none [] prog 141 bD.k (sR (bB (sL (sR (lB (bB (sR (sL (sR (sR (body f132))))))))))) (b6 (sR (sR (lB (bB (sR (sL (sR (sR (body f132)))))))))++bD.u1) (aM 1 (b6 (sR (sR (lB (bB (sR (sL (sR (sR (body f132)))))))))++bD.u1) (bT (fun bX w_=>match cutAt bD.k (sR (sR (lB (bB (sR (sL (sR (sR (body f132)))))))))with|true=>Holds none [] prog 141 (sR (sR (lB (bB (sR (sL (sR (sR (body f132))))))))) Q bX w_|false=>aU none [] prog 141 bD.k (sR (sR (lB (bB (sR (sL (sR (sR (body f132))))))))) bD.u1 Q bX w_) Q)) bX w_) (aM 1 (b6 (sR (sR (lB (bB (sR (sL (sR (sR (body f132)))))))))++bD.u1) (bT (fun bX w_=>match cutAt bD.k (sR (sR (lB (bB (sR (sL (sR (sR (body f132)))))))))with|true=>Holds none [] prog 141 (sR (sR (lB (bB (sR (sL (sR (sR (body f132))))))))) Q bX w_|false=>aU none [] prog 141 bD.k (sR (sR (lB (bB (sR (sL (sR (sR (body f132))))))))) bD.u1 Q bX w_) Q))))
def bD.e2(a:OA)(b c:Nat)(d e:Int)(f:OA)(g:Bool)(i s:Int):Env:= [(0,.slice a b c),(1,.int .i64 d),(2,.int .i64 e),(3,.func (.func 73) #[.pointer f] #[]),(8,.bool g),(9,.int .i64 s),(10,.int .i64 i)]
def bD.u2:List Nat:= [0,1,2,3,8,9,10]
def bD.q3(Q:aN):aN:=(aM 4 (b6 (sR (sR (sR (sR (sR (bB (sL (sR (lB (bB (sR (sL (sR (sR (body f132)))))))))))))))++(b6 (sR (sR (lB (bB (sR (sL (sR (sR (body f132)))))))))++bD.u1)) (bT (fun bX w_=>match cutAt bD.k (sR (sR (sR (sR (sR (bB (sL (sR (lB (bB (sR (sL (sR (sR (body f132)))))))))))))))with|true=>Holds none [] prog 141 (sR (sR (sR (sR (sR (bB (sL (sR (lB (bB (sR (sL (sR (sR (body f132))))))))))))))) (aM 1 (b6 (sR (sR (lB (bB (sR (sL (sR (sR (body f132)))))))))++bD.u1) (bT (fun bX w_=>match cutAt bD.k (sR (sR (lB (bB (sR (sL (sR (sR (body f132)))))))))with|true=>Holds none [] prog 141 (sR (sR (lB (bB (sR (sL (sR (sR (body f132))))))))) Q bX w_|false=>aU none [] prog 141 bD.k (sR (sR (lB (bB (sR (sL (sR (sR (body f132))))))))) bD.u1 Q bX w_) Q)) bX w_|false=>aU none [] prog 141 bD.k (sR (sR (sR (sR (sR (bB (sL (sR (lB (bB (sR (sL (sR (sR (body f132))))))))))))))) (b6 (sR (sR (lB (bB (sR (sL (sR (sR (body f132)))))))))++bD.u1) (aM 1 (b6 (sR (sR (lB (bB (sR (sL (sR (sR (body f132)))))))))++bD.u1) (bT (fun bX w_=>match cutAt bD.k (sR (sR (lB (bB (sR (sL (sR (sR (body f132)))))))))with|true=>Holds none [] prog 141 (sR (sR (lB (bB (sR (sL (sR (sR (body f132))))))))) Q bX w_|false=>aU none [] prog 141 bD.k (sR (sR (lB (bB (sR (sL (sR (sR (body f132))))))))) bD.u1 Q bX w_) Q)) bX w_) (aM 1 (b6 (sR (sR (lB (bB (sR (sL (sR (sR (body f132)))))))))++bD.u1) (bT (fun bX w_=>match cutAt bD.k (sR (sR (lB (bB (sR (sL (sR (sR (body f132)))))))))with|true=>Holds none [] prog 141 (sR (sR (lB (bB (sR (sL (sR (sR (body f132))))))))) Q bX w_|false=>aU none [] prog 141 bD.k (sR (sR (lB (bB (sR (sL (sR (sR (body f132))))))))) bD.u1 Q bX w_) Q))))
def bD.q4(Q:aN):aN:=(aM 6 (b6 (sR (sR (lB (bB (sR (sL (sR (sR (body f132)))))))))++bD.u1) (aM 1 (b6 (sR (sR (lB (bB (sR (sL (sR (sR (body f132)))))))))++bD.u1) (bT (fun bX w_=>match cutAt bD.k (sR (sR (lB (bB (sR (sL (sR (sR (body f132)))))))))with|true=>Holds none [] prog 141 (sR (sR (lB (bB (sR (sL (sR (sR (body f132))))))))) Q bX w_|false=>aU none [] prog 141 bD.k (sR (sR (lB (bB (sR (sL (sR (sR (body f132))))))))) bD.u1 Q bX w_) Q)))
section
variable(a:OA)(b d:Nat)(e f:Int)(g:OA)(K:KT)(w:World)
def bD.W:Prop:=
 Holds none [] prog 141 (.loop (lB (bB (sR (sL (sR (sR (body f132)))))))) (bD.q1 K) [(0,.slice a b d),(1,.int .i64 e),(2,.int .i64 f),(3,.func (.func 73) #[.pointer g] #[]),(8,.bool false),(9,.int .i64 (i64.wrap (e+(1:Int)))),(10,.int .i64 0)] w
variable{a b d e f g K w}
theorem bD.of(h:bD.W a b d e f g K w):bk prog 132 #[.slice a b d,.int .i64 e,.int .i64 f,.func (.func 73) #[.pointer g] #[]] w K:=
 rqq func132 (C:=bD.k) h
end
section
variable(a:OA)(b c:Nat)(d e:Int)(f:OA)(g:Bool)(i j:Int)(Q:aN)(w:World)
def bD.B1:Prop:=
 Split (decide (j<(5:Int))) (Holds none [] prog 141 (.loop (lB (bB (sL (bB (sL (sR (lB (bB (sR (sL (sR (sR (body f132)))))))))))))) (bD.q2 Q) [(0,.slice a b c),(1,.int .i64 d),(2,.int .i64 e),(3,.func (.func 73) #[.pointer f] #[]),(8,.bool g),(9,.int .i64 i),(10,.int .i64 j)] w) (Q (.exit 0) [(0,.slice a b c),(1,.int .i64 d),(2,.int .i64 e),(3,.func (.func 73) #[.pointer f] #[]),(8,.bool g),(9,.int .i64 i),(10,.int .i64 j)] w)
theorem bD.b1:(aU none [] prog 141 bD.k (lB (bB (sR (sL (sR (sR (body f132))))))) bD.u1 Q [(0,.slice a b c),(1,.int .i64 d),(2,.int .i64 e),(3,.func (.func 73) #[.pointer f] #[]),(8,.bool g),(9,.int .i64 i),(10,.int .i64 j)] w)=bD.B1 a b c d e f g i j Q w:=by kernel_rfl
variable{a b c d e f}
theorem bD.b9(I:Bool×Int×Int->World->Prop)(μ:Bool×Int×Int->World->Nat)(s:Bool×Int×Int){Q:aN}{w:World}(h0:I s w)
 (round:∀s w,I s w->bD.B1 a b c d e f (s.1) (s.2.1) (s.2.2) (bL (bD.e1 a b c d e f) I μ s w Q) w):Holds none [] prog 141 (.loop (lB (bB (sR (sL (sR (sR (body f132)))))))) Q (bD.e1 a b c d e f s) w:=
 a7 ng mix (bD.e1 a b c d e f) I μ bD.k bD.u1 s (fun s Q w=>bD.B1 a b c d e f (s.1) (s.2.1) (s.2.2) Q w) (fun s Q w=>bD.b1 a b c d e f (s.1) (s.2.1) (s.2.2) Q w) h0 round
end
section
variable(a:OA)(b c:Nat)(d e:Int)(f:OA)(g:Bool)(i j:Int)(K:KT)(w:World)
end
section
variable(a:OA)(b c:Nat)(d e:Int)(f:OA)(g:Bool)(i j:Int)(Q:aN)(w:World)
def bD.B2:Prop:=
 let k:=w.drew;Split (decide (i<e)) ((0<=i/\i<(b:Int))/\Is a fun m:Addr=>∃n:AV,(n.size=32/\Cells k (m.add (i.toNat*32)) n)/\(0<=(i64.wrap (i-(1:Int)))/\(i64.wrap (i-(1:Int)))<(b:Int))/\Is a fun o:Addr=>∃p:AV,(p.size=32/\Cells k (o.add ((i64.wrap (i-(1:Int))).toNat*32)) p)/\bk prog 73 #[.pointer f,.agg n,.agg p] k fun q r=>∃t:Int,q=.int .i64 t/\Split (!(decide (t<(0:Int)))) (Q .normal [(0,.slice a b c),(1,.int .i64 d),(2,.int .i64 e),(3,.func (.func 73) #[.pointer f] #[]),(8,.bool g),(9,.int .i64 (i64.wrap (i+(1:Int)))),(10,.int .i64 j)] r) (Q (.exit 2) [(0,.slice a b c),(1,.int .i64 d),(2,.int .i64 e),(3,.func (.func 73) #[.pointer f] #[]),(8,.bool g),(9,.int .i64 i),(10,.int .i64 j)] r)) (Q (.exit 2) [(0,.slice a b c),(1,.int .i64 d),(2,.int .i64 e),(3,.func (.func 73) #[.pointer f] #[]),(8,.bool g),(9,.int .i64 i),(10,.int .i64 j)] k)
theorem bD.b2:(aU none [] prog 141 bD.k (lB (bB (sL (bB (sL (sR (lB (bB (sR (sL (sR (sR (body f132))))))))))))) bD.u2 Q [(0,.slice a b c),(1,.int .i64 d),(2,.int .i64 e),(3,.func (.func 73) #[.pointer f] #[]),(8,.bool g),(9,.int .i64 i),(10,.int .i64 j)] w)=bD.B2 a b c d e f g i j Q w:=by kernel_rfl
variable{a b c d e f g j}
theorem bD.gC(I:Int->World->Prop)(μ:Int->World->Nat)(s:Int){Q:aN}{w:World}(h0:I s w)
 (round:∀s w,I s w->bD.B2 a b c d e f g s j (bL (bD.e2 a b c d e f g j) I μ s w Q) w):Holds none [] prog 141 (.loop (lB (bB (sL (bB (sL (sR (lB (bB (sR (sL (sR (sR (body f132)))))))))))))) Q (bD.e2 a b c d e f g j s) w:=
 a7 ng mix (bD.e2 a b c d e f g j) I μ bD.k bD.u2 s (fun s Q w=>bD.B2 a b c d e f g s j Q w) (fun s Q w=>bD.b2 a b c d e f g s j Q w) h0 round
end
section
variable(a:OA)(b c:Nat)(d e:Int)(f:OA)(g:Bool)(i j:Int)(Q:aN)(w:World)
def bD.ik:Prop:=
 Split (i==e) (Q .ret [(0,.slice a b c),(1,.int .i64 d),(2,.int .i64 e),(3,.func (.func 73) #[.pointer f] #[]),(8,.bool true),(9,.int .i64 i),(10,.int .i64 j)] w) (Split (decide ((i64.wrap (e-d))<(50:Int))) (Q .ret [(0,.slice a b c),(1,.int .i64 d),(2,.int .i64 e),(3,.func (.func 73) #[.pointer f] #[]),(8,.bool false),(9,.int .i64 i),(10,.int .i64 j)] w) (let k:=w.drew;(0<=(i64.wrap (i-(1:Int)))/\(i64.wrap (i-(1:Int)))<(b:Int))/\Is a fun m:Addr=>∃n:AV,(n.size=32/\Cells k (m.add ((i64.wrap (i-(1:Int))).toNat*32)) n)/\(0<=i/\i<(b:Int))/\Is a fun o:Addr=>∃p:AV,(p.size=32/\Cells k (o.add (i.toNat*32)) p)/\(0<=i/\i<(b:Int))/\Is a fun q:Addr=>(n.size=32/\(∀r∈n.toList,r.oneCell'=true)/\∀t,t<32->Wr k ((q.add (i.toNat*32)).add t))/\let u:=setCells k (q.add (i.toNat*32)) n.toList 0;(0<=(i64.wrap (i-(1:Int)))/\(i64.wrap (i-(1:Int)))<(b:Int))/\Is a fun v:Addr=>(p.size=32/\(∀x∈p.toList,x.oneCell'=true)/\∀y,y<32->Wr u ((v.add ((i64.wrap (i-(1:Int))).toNat*32)).add y))/\let z:=setCells u (v.add ((i64.wrap (i-(1:Int))).toNat*32)) p.toList 0;Split (decide ((i64.wrap (i-d))>=(2:Int))) (Holds none [] prog 141 (.loop (lB (bB (sR (cT (sR (sL (sR (sR (sR (sR (bB (sL (sR (lB (bB (sR (sL (sR (sR (body f132))))))))))))))))))))) (bD.q3 Q) [(0,.slice a b c),(1,.int .i64 d),(2,.int .i64 e),(3,.func (.func 73) #[.pointer f] #[]),(8,.bool g),(9,.int .i64 i),(10,.int .i64 j),(11,.int .i64 (i64.wrap (i-(1:Int))))] z) (Split (decide ((i64.wrap (e-i))>=(2:Int))) (Holds none [] prog 141 (.loop (lB (bB (sR (cT (sR (sR (sR (sR (sR (sR (bB (sL (sR (lB (bB (sR (sL (sR (sR (body f132))))))))))))))))))))) (bD.q4 Q) [(0,.slice a b c),(1,.int .i64 d),(2,.int .i64 e),(3,.func (.func 73) #[.pointer f] #[]),(8,.bool g),(9,.int .i64 i),(10,.int .i64 j),(12,.int .i64 (i64.wrap (i+(1:Int))))] z) (Q .normal [(0,.slice a b c),(1,.int .i64 d),(2,.int .i64 e),(3,.func (.func 73) #[.pointer f] #[]),(8,.bool g),(9,.int .i64 i),(10,.int .i64 (i64.wrap (j+(1:Int))))] z))))
theorem bD.jA:(bD.q2 Q (.exit 2) [(0,.slice a b c),(1,.int .i64 d),(2,.int .i64 e),(3,.func (.func 73) #[.pointer f] #[]),(8,.bool g),(9,.int .i64 i),(10,.int .i64 j)] w)=bD.ik a b c d e f g i j Q w:=by kernel_rfl
end
section
variable(a:OA)(b c:Nat)(d e:Int)(f:OA)(g:Bool)(i j k:Int)(Q:aN)(w:World)
variable{a b c d e f g i j}
end
section
variable(a:OA)(b c:Nat)(d e:Int)(f:OA)(g:Bool)(i j k:Int)(Q:aN)(w:World)
end
section
variable(a:OA)(b c:Nat)(d e:Int)(f:OA)(g:Bool)(i j k:Int)(Q:aN)(w:World)
variable{a b c d e f g i j}
end
section
variable(a:OA)(b c:Nat)(d e:Int)(f:OA)(g:Bool)(i j k:Int)(Q:aN)(w:World)
end
section
variable(a:OA)(b d:Nat)(e f g:Int)(i:OA)(K:KT)(w:World)
variable{a b d e f g i K w}
end
section
variable(a:OA)(b c:Nat)(d:Int)(e:OA)(f g i:Int)(Q:aN)(w:World)
variable{a b c d e f}
end
section
variable(a:OA)(b c:Nat)(d:Int)(e:OA)(f g i:Int)(Q:aN)(w:World)
variable{a b c d e f i}
end
section
variable(a:OA)(b c:Nat)(d:Int)(e:OA)(f g i:Int)(Q:aN)(w:World)
end
section
variable(a:OA)(b c:Nat)(d:Int)(e:OA)(f g i:Int)(Q:aN)(w:World)
variable{a b c d e f g}
end
section
variable(a:OA)(b c:Nat)(d:Int)(e:OA)(f g i:Int)(Q:aN)(w:World)
end
section
variable(a:OA)(b c:Nat)(d:Int)(e:OA)(f g i:Int)(K:KT)(w:World)
end
def aS.k:List Nat:= []
def aS.q1(K:KT):aN:=(aM 0 (b6 (sR (sR (sR (sR (body f134)))))++(aR f134)) (bT (fun bX w_=>match cutAt aS.k (sR (sR (sR (sR (body f134)))))with|true=>Holds none [] prog 178 (sR (sR (sR (sR (body f134))))) (bO prog f134 K) bX w_|false=>aU none [] prog 178 aS.k (sR (sR (sR (sR (body f134))))) (aR f134) (bO prog f134 K) bX w_) (bO prog f134 K)))
def aS.e1(a:OA)(b c:Nat)(d:Int)(e:OA)(f g s:Int):Env:= [(0,.slice a b c),(1,.int .i64 d),(4,.func (.func 73) #[.pointer e] #[]),(10,.int .i64 f),(11,.bool false),(12,.int .i64 s),(13,.int .i64 g)]
def aS.u1:List Nat:= [0,1,4,10,11,12,13]
def aS.q2(K:KT):aN:=(aM 2 (b6 (sR (sR (sR (sR (sR (body f134))))))++(aR f134)) (bT (fun bX w_=>match cutAt aS.k (sR (sR (sR (sR (sR (body f134))))))with|true=>Holds none [] prog 178 (sR (sR (sR (sR (sR (body f134)))))) (bO prog f134 K) bX w_|false=>aU none [] prog 178 aS.k (sR (sR (sR (sR (sR (body f134)))))) (aR f134) (bO prog f134 K) bX w_) (bO prog f134 K)))
def aS.e2(a:OA)(b c:Nat)(d:Int)(e:OA)(f g s:Int):Env:= [(0,.slice a b c),(1,.int .i64 d),(4,.func (.func 73) #[.pointer e] #[]),(10,.int .i64 f),(11,.bool false),(12,.int .i64 g),(13,.int .i64 s)]
def aS.u2:List Nat:= [0,1,4,10,11,12,13]
def aS.q3(K:KT):aN:=(aM 4 (b6 (sR (sR (sR (sR (sR (sR (sR (sR (sR (sR (body f134)))))))))))++(aR f134)) (bT (fun bX w_=>match cutAt aS.k (sR (sR (sR (sR (sR (sR (sR (sR (sR (sR (body f134)))))))))))with|true=>Holds none [] prog 178 (sR (sR (sR (sR (sR (sR (sR (sR (sR (sR (body f134))))))))))) (bO prog f134 K) bX w_|false=>aU none [] prog 178 aS.k (sR (sR (sR (sR (sR (sR (sR (sR (sR (sR (body f134))))))))))) (aR f134) (bO prog f134 K) bX w_) (bO prog f134 K)))
def aS.e3(a:OA)(b c:Nat)(d:Int)(e:OA)(f:Int)(s:Int×Int):Env:= [(0,.slice a b c),(1,.int .i64 d),(4,.func (.func 73) #[.pointer e] #[]),(10,.int .i64 f),(11,.bool false),(12,.int .i64 s.1),(13,.int .i64 s.2)]
def aS.u3:List Nat:= [0,1,4,10,11,12,13]
def aS.q4(Q:aN):aN:=(aM 6 (b6 (sR (bB (lB (bB (sL (sR (sR (sR (sR (sR (sR (sR (sR (sR (body f134)))))))))))))))++aS.u3) (bT (fun bX w_=>match cutAt aS.k (sR (bB (lB (bB (sL (sR (sR (sR (sR (sR (sR (sR (sR (sR (body f134)))))))))))))))with|true=>Holds none [] prog 178 (sR (bB (lB (bB (sL (sR (sR (sR (sR (sR (sR (sR (sR (sR (body f134))))))))))))))) (aM 5 aS.u3 Q) bX w_|false=>aU none [] prog 178 aS.k (sR (bB (lB (bB (sL (sR (sR (sR (sR (sR (sR (sR (sR (sR (body f134))))))))))))))) aS.u3 (aM 5 aS.u3 Q) bX w_) (aM 5 aS.u3 Q)))
def aS.e4(a:OA)(b c:Nat)(d:Int)(e:OA)(f g s:Int):Env:= [(0,.slice a b c),(1,.int .i64 d),(4,.func (.func 73) #[.pointer e] #[]),(10,.int .i64 f),(11,.bool false),(12,.int .i64 s),(13,.int .i64 g)]
def aS.u4:List Nat:= [0,1,4,10,11,12,13]
def aS.q5(Q:aN):aN:=(aM 8 (b6 (sR (sR (bB (lB (bB (sL (sR (sR (sR (sR (sR (sR (sR (sR (sR (body f134))))))))))))))))++aS.u3) (bT (fun bX w_=>match cutAt aS.k (sR (sR (bB (lB (bB (sL (sR (sR (sR (sR (sR (sR (sR (sR (sR (body f134))))))))))))))))with|true=>Holds none [] prog 178 (sR (sR (bB (lB (bB (sL (sR (sR (sR (sR (sR (sR (sR (sR (sR (body f134)))))))))))))))) (aM 5 aS.u3 Q) bX w_|false=>aU none [] prog 178 aS.k (sR (sR (bB (lB (bB (sL (sR (sR (sR (sR (sR (sR (sR (sR (sR (body f134)))))))))))))))) aS.u3 (aM 5 aS.u3 Q) bX w_) (aM 5 aS.u3 Q)))
def aS.e5(a:OA)(b c:Nat)(d:Int)(e:OA)(f g s:Int):Env:= [(0,.slice a b c),(1,.int .i64 d),(4,.func (.func 73) #[.pointer e] #[]),(10,.int .i64 f),(11,.bool false),(12,.int .i64 g),(13,.int .i64 s)]
def aS.u5:List Nat:= [0,1,4,10,11,12,13]
section
variable(a:OA)(b d:Nat)(e f g:Int)(i:OA)(K:KT)(w:World)
def aS.W:Prop:=
 let j:=w.drew;(0<=g/\g<(b:Int))/\Is a fun k:Addr=>∃m:AV,(m.size=32/\Cells j (k.add (g.toNat*32)) m)/\(0<=e/\e<(b:Int))/\Is a fun n:Addr=>∃o:AV,(o.size=32/\Cells j (n.add (e.toNat*32)) o)/\(0<=e/\e<(b:Int))/\Is a fun p:Addr=>(m.size=32/\(∀q∈m.toList,q.oneCell'=true)/\∀r,r<32->Wr j ((p.add (e.toNat*32)).add r))/\let t:=setCells j (p.add (e.toNat*32)) m.toList 0;(0<=g/\g<(b:Int))/\Is a fun u:Addr=>(o.size=32/\(∀v∈o.toList,v.oneCell'=true)/\∀x,x<32->Wr t ((u.add (g.toNat*32)).add x))/\let y:=setCells t (u.add (g.toNat*32)) o.toList 0;Holds none [] prog 178 (.loop (lB (bB (sL (sR (sR (sR (body f134)))))))) (aS.q1 K) [(0,.slice a b d),(1,.int .i64 e),(4,.func (.func 73) #[.pointer i] #[]),(10,.int .i64 0),(11,.bool false),(12,.int .i64 (i64.wrap (e+(1:Int)))),(13,.int .i64 (i64.wrap (f-(1:Int))))] y
variable{a b d e f g i K w}
theorem aS.of(h:aS.W a b d e f g i K w):bk prog 134 #[.slice a b d,.int .i64 e,.int .i64 f,.int .i64 g,.func (.func 73) #[.pointer i] #[]] w K:=
 rqq func134 (C:=aS.k) h
end
section
variable(a:OA)(b c:Nat)(d:Int)(e:OA)(f g i:Int)(Q:aN)(w:World)
def aS.B1:Prop:=
 let j:=w.drew;Split (decide (g<=i)) ((0<=g/\g<(b:Int))/\Is a fun k:Addr=>∃m:AV,(m.size=32/\Cells j (k.add (g.toNat*32)) m)/\(0<=d/\d<(b:Int))/\Is a fun n:Addr=>∃o:AV,(o.size=32/\Cells j (n.add (d.toNat*32)) o)/\bk prog 73 #[.pointer e,.agg m,.agg o] j fun p q=>∃r:Int,p=.int .i64 r/\Split (decide (r<(0:Int))) (Q .normal [(0,.slice a b c),(1,.int .i64 d),(4,.func (.func 73) #[.pointer e] #[]),(10,.int .i64 f),(11,.bool false),(12,.int .i64 (i64.wrap (g+(1:Int)))),(13,.int .i64 i)] q) (Q (.exit 0) [(0,.slice a b c),(1,.int .i64 d),(4,.func (.func 73) #[.pointer e] #[]),(10,.int .i64 f),(11,.bool false),(12,.int .i64 g),(13,.int .i64 i)] q)) (Q (.exit 0) [(0,.slice a b c),(1,.int .i64 d),(4,.func (.func 73) #[.pointer e] #[]),(10,.int .i64 f),(11,.bool false),(12,.int .i64 g),(13,.int .i64 i)] j)
theorem aS.b1:(aU none [] prog 178 aS.k (lB (bB (sL (sR (sR (sR (body f134))))))) aS.u1 Q [(0,.slice a b c),(1,.int .i64 d),(4,.func (.func 73) #[.pointer e] #[]),(10,.int .i64 f),(11,.bool false),(12,.int .i64 g),(13,.int .i64 i)] w)=aS.B1 a b c d e f g i Q w:=by kernel_rfl
variable{a b c d e f i}
theorem aS.b9(I:Int->World->Prop)(μ:Int->World->Nat)(s:Int){Q:aN}{w:World}(h0:I s w)
 (round:∀s w,I s w->aS.B1 a b c d e f s i (bL (aS.e1 a b c d e f i) I μ s w Q) w):Holds none [] prog 178 (.loop (lB (bB (sL (sR (sR (sR (body f134)))))))) Q (aS.e1 a b c d e f i s) w:=
 a7 ng mix (aS.e1 a b c d e f i) I μ aS.k aS.u1 s (fun s Q w=>aS.B1 a b c d e f s i Q w) (fun s Q w=>aS.b1 a b c d e f s i Q w) h0 round
end
section
variable(a:OA)(b c:Nat)(d:Int)(e:OA)(f g i:Int)(K:KT)(w:World)
def aS.cH:Prop:=
 Holds none [] prog 178 (.loop (lB (bB (sL (sR (sR (sR (sR (body f134))))))))) (aS.q2 K) [(0,.slice a b c),(1,.int .i64 d),(4,.func (.func 73) #[.pointer e] #[]),(10,.int .i64 f),(11,.bool false),(12,.int .i64 g),(13,.int .i64 i)] w
theorem aS.df:(aS.q1 K (.exit 0) [(0,.slice a b c),(1,.int .i64 d),(4,.func (.func 73) #[.pointer e] #[]),(10,.int .i64 f),(11,.bool false),(12,.int .i64 g),(13,.int .i64 i)] w)=aS.cH a b c d e f g i K w:=by kernel_rfl
end
section
variable(a:OA)(b c:Nat)(d:Int)(e:OA)(f g i:Int)(Q:aN)(w:World)
def aS.B2:Prop:=
 let j:=w.drew;Split (decide (g<=i)) ((0<=i/\i<(b:Int))/\Is a fun k:Addr=>∃m:AV,(m.size=32/\Cells j (k.add (i.toNat*32)) m)/\(0<=d/\d<(b:Int))/\Is a fun n:Addr=>∃o:AV,(o.size=32/\Cells j (n.add (d.toNat*32)) o)/\bk prog 73 #[.pointer e,.agg m,.agg o] j fun p q=>∃r:Int,p=.int .i64 r/\Split (!(decide (r<(0:Int)))) (Q .normal [(0,.slice a b c),(1,.int .i64 d),(4,.func (.func 73) #[.pointer e] #[]),(10,.int .i64 f),(11,.bool false),(12,.int .i64 g),(13,.int .i64 (i64.wrap (i-(1:Int))))] q) (Q (.exit 2) [(0,.slice a b c),(1,.int .i64 d),(4,.func (.func 73) #[.pointer e] #[]),(10,.int .i64 f),(11,.bool false),(12,.int .i64 g),(13,.int .i64 i)] q)) (Q (.exit 2) [(0,.slice a b c),(1,.int .i64 d),(4,.func (.func 73) #[.pointer e] #[]),(10,.int .i64 f),(11,.bool false),(12,.int .i64 g),(13,.int .i64 i)] j)
theorem aS.b2:(aU none [] prog 178 aS.k (lB (bB (sL (sR (sR (sR (sR (body f134)))))))) aS.u2 Q [(0,.slice a b c),(1,.int .i64 d),(4,.func (.func 73) #[.pointer e] #[]),(10,.int .i64 f),(11,.bool false),(12,.int .i64 g),(13,.int .i64 i)] w)=aS.B2 a b c d e f g i Q w:=by kernel_rfl
variable{a b c d e f g}
theorem aS.gC(I:Int->World->Prop)(μ:Int->World->Nat)(s:Int){Q:aN}{w:World}(h0:I s w)
 (round:∀s w,I s w->aS.B2 a b c d e f g s (bL (aS.e2 a b c d e f g) I μ s w Q) w):Holds none [] prog 178 (.loop (lB (bB (sL (sR (sR (sR (sR (body f134))))))))) Q (aS.e2 a b c d e f g s) w:=
 a7 ng mix (aS.e2 a b c d e f g) I μ aS.k aS.u2 s (fun s Q w=>aS.B2 a b c d e f g s Q w) (fun s Q w=>aS.b2 a b c d e f g s Q w) h0 round
end
section
variable(a:OA)(b c:Nat)(d:Int)(e:OA)(f g i:Int)(K:KT)(w:World)
def aS.ik:Prop:=
 Split (decide (g>i)) (let j:=w.drew;(0<=d/\d<(b:Int))/\Is a fun k:Addr=>∃m:AV,(m.size=32/\Cells j (k.add (d.toNat*32)) m)/\(0<=i/\i<(b:Int))/\Is a fun n:Addr=>∃o:AV,(o.size=32/\Cells j (n.add (i.toNat*32)) o)/\(0<=i/\i<(b:Int))/\Is a fun p:Addr=>(m.size=32/\(∀q∈m.toList,q.oneCell'=true)/\∀r,r<32->Wr j ((p.add (i.toNat*32)).add r))/\let t:=setCells j (p.add (i.toNat*32)) m.toList 0;(0<=d/\d<(b:Int))/\Is a fun u:Addr=>(o.size=32/\(∀v∈o.toList,v.oneCell'=true)/\∀x,x<32->Wr t ((u.add (d.toNat*32)).add x))/\let y:=setCells t (u.add (d.toNat*32)) o.toList 0;K (.tuple #[.int .i64 i,.bool true]) y) (let z:=w.drew;(0<=i/\i<(b:Int))/\Is a fun a1:Addr=>∃b1:AV,(b1.size=32/\Cells z (a1.add (i.toNat*32)) b1)/\(0<=g/\g<(b:Int))/\Is a fun c1:Addr=>∃d1:AV,(d1.size=32/\Cells z (c1.add (g.toNat*32)) d1)/\(0<=g/\g<(b:Int))/\Is a fun e1:Addr=>(b1.size=32/\(∀f1∈b1.toList,f1.oneCell'=true)/\∀g1,g1<32->Wr z ((e1.add (g.toNat*32)).add g1))/\let i1:=setCells z (e1.add (g.toNat*32)) b1.toList 0;(0<=i/\i<(b:Int))/\Is a fun j1:Addr=>(d1.size=32/\(∀k1∈d1.toList,k1.oneCell'=true)/\∀m1,m1<32->Wr i1 ((j1.add (i.toNat*32)).add m1))/\let n1:=setCells i1 (j1.add (i.toNat*32)) d1.toList 0;Holds none [] prog 178 (.loop (lB (bB (sL (sR (sR (sR (sR (sR (sR (sR (sR (sR (body f134)))))))))))))) (aS.q3 K) [(0,.slice a b c),(1,.int .i64 d),(4,.func (.func 73) #[.pointer e] #[]),(10,.int .i64 f),(11,.bool false),(12,.int .i64 (i64.wrap (g+(1:Int)))),(13,.int .i64 (i64.wrap (i-(1:Int))))] n1)
theorem aS.jA:(aS.q2 K (.exit 2) [(0,.slice a b c),(1,.int .i64 d),(4,.func (.func 73) #[.pointer e] #[]),(10,.int .i64 f),(11,.bool false),(12,.int .i64 g),(13,.int .i64 i)] w)=aS.ik a b c d e f g i K w:=by kernel_rfl
end
section
variable(a:OA)(b c:Nat)(d:Int)(e:OA)(f g i:Int)(Q:aN)(w:World)
def aS.B3:Prop:=
 Holds none [] prog 178 (.loop (lB (bB (sL (bB (lB (bB (sL (sR (sR (sR (sR (sR (sR (sR (sR (sR (body f134)))))))))))))))))) (aS.q4 Q) [(0,.slice a b c),(1,.int .i64 d),(4,.func (.func 73) #[.pointer e] #[]),(10,.int .i64 f),(11,.bool false),(12,.int .i64 g),(13,.int .i64 i)] w
theorem aS.b3:(aU none [] prog 178 aS.k (lB (bB (sL (sR (sR (sR (sR (sR (sR (sR (sR (sR (body f134))))))))))))) aS.u3 Q [(0,.slice a b c),(1,.int .i64 d),(4,.func (.func 73) #[.pointer e] #[]),(10,.int .i64 f),(11,.bool false),(12,.int .i64 g),(13,.int .i64 i)] w)=aS.B3 a b c d e f g i Q w:=by kernel_rfl
variable{a b c d e f}
theorem aS.rv(I:Int×Int->World->Prop)(μ:Int×Int->World->Nat)(s:Int×Int){Q:aN}{w:World}(h0:I s w)
 (round:∀s w,I s w->aS.B3 a b c d e f (s.1) (s.2) (bL (aS.e3 a b c d e f) I μ s w Q) w):Holds none [] prog 178 (.loop (lB (bB (sL (sR (sR (sR (sR (sR (sR (sR (sR (sR (body f134)))))))))))))) Q (aS.e3 a b c d e f s) w:=
 a7 ng mix (aS.e3 a b c d e f) I μ aS.k aS.u3 s (fun s Q w=>aS.B3 a b c d e f (s.1) (s.2) Q w) (fun s Q w=>aS.b3 a b c d e f (s.1) (s.2) Q w) h0 round
end
section
variable(a:OA)(b c:Nat)(d:Int)(e:OA)(f g i:Int)(Q:aN)(w:World)
def aS.B4:Prop:=
 let j:=w.drew;Split (decide (g<=i)) ((0<=g/\g<(b:Int))/\Is a fun k:Addr=>∃m:AV,(m.size=32/\Cells j (k.add (g.toNat*32)) m)/\(0<=d/\d<(b:Int))/\Is a fun n:Addr=>∃o:AV,(o.size=32/\Cells j (n.add (d.toNat*32)) o)/\bk prog 73 #[.pointer e,.agg m,.agg o] j fun p q=>∃r:Int,p=.int .i64 r/\Split (decide (r<(0:Int))) (Q .normal [(0,.slice a b c),(1,.int .i64 d),(4,.func (.func 73) #[.pointer e] #[]),(10,.int .i64 f),(11,.bool false),(12,.int .i64 (i64.wrap (g+(1:Int)))),(13,.int .i64 i)] q) (Q (.exit 6) [(0,.slice a b c),(1,.int .i64 d),(4,.func (.func 73) #[.pointer e] #[]),(10,.int .i64 f),(11,.bool false),(12,.int .i64 g),(13,.int .i64 i)] q)) (Q (.exit 6) [(0,.slice a b c),(1,.int .i64 d),(4,.func (.func 73) #[.pointer e] #[]),(10,.int .i64 f),(11,.bool false),(12,.int .i64 g),(13,.int .i64 i)] j)
theorem aS.b4:(aU none [] prog 178 aS.k (lB (bB (sL (bB (lB (bB (sL (sR (sR (sR (sR (sR (sR (sR (sR (sR (body f134))))))))))))))))) aS.u4 Q [(0,.slice a b c),(1,.int .i64 d),(4,.func (.func 73) #[.pointer e] #[]),(10,.int .i64 f),(11,.bool false),(12,.int .i64 g),(13,.int .i64 i)] w)=aS.B4 a b c d e f g i Q w:=by kernel_rfl
variable{a b c d e f i}
theorem aS.zL(I:Int->World->Prop)(μ:Int->World->Nat)(s:Int){Q:aN}{w:World}(h0:I s w)
 (round:∀s w,I s w->aS.B4 a b c d e f s i (bL (aS.e4 a b c d e f i) I μ s w Q) w):Holds none [] prog 178 (.loop (lB (bB (sL (bB (lB (bB (sL (sR (sR (sR (sR (sR (sR (sR (sR (sR (body f134)))))))))))))))))) Q (aS.e4 a b c d e f i s) w:=
 a7 ng mix (aS.e4 a b c d e f i) I μ aS.k aS.u4 s (fun s Q w=>aS.B4 a b c d e f s i Q w) (fun s Q w=>aS.b4 a b c d e f s i Q w) h0 round
end
section
variable(a:OA)(b c:Nat)(d:Int)(e:OA)(f g i:Int)(Q:aN)(w:World)
def aS.wF:Prop:=
 Holds none [] prog 178 (.loop (lB (bB (sL (sR (bB (lB (bB (sL (sR (sR (sR (sR (sR (sR (sR (sR (sR (body f134))))))))))))))))))) (aS.q5 Q) [(0,.slice a b c),(1,.int .i64 d),(4,.func (.func 73) #[.pointer e] #[]),(10,.int .i64 f),(11,.bool false),(12,.int .i64 g),(13,.int .i64 i)] w
theorem aS.Bq:(aS.q4 Q (.exit 6) [(0,.slice a b c),(1,.int .i64 d),(4,.func (.func 73) #[.pointer e] #[]),(10,.int .i64 f),(11,.bool false),(12,.int .i64 g),(13,.int .i64 i)] w)=aS.wF a b c d e f g i Q w:=by kernel_rfl
end
section
variable(a:OA)(b c:Nat)(d:Int)(e:OA)(f g i:Int)(Q:aN)(w:World)
def aS.B5:Prop:=
 let j:=w.drew;Split (decide (g<=i)) ((0<=i/\i<(b:Int))/\Is a fun k:Addr=>∃m:AV,(m.size=32/\Cells j (k.add (i.toNat*32)) m)/\(0<=d/\d<(b:Int))/\Is a fun n:Addr=>∃o:AV,(o.size=32/\Cells j (n.add (d.toNat*32)) o)/\bk prog 73 #[.pointer e,.agg m,.agg o] j fun p q=>∃r:Int,p=.int .i64 r/\Split (!(decide (r<(0:Int)))) (Q .normal [(0,.slice a b c),(1,.int .i64 d),(4,.func (.func 73) #[.pointer e] #[]),(10,.int .i64 f),(11,.bool false),(12,.int .i64 g),(13,.int .i64 (i64.wrap (i-(1:Int))))] q) (Q (.exit 8) [(0,.slice a b c),(1,.int .i64 d),(4,.func (.func 73) #[.pointer e] #[]),(10,.int .i64 f),(11,.bool false),(12,.int .i64 g),(13,.int .i64 i)] q)) (Q (.exit 8) [(0,.slice a b c),(1,.int .i64 d),(4,.func (.func 73) #[.pointer e] #[]),(10,.int .i64 f),(11,.bool false),(12,.int .i64 g),(13,.int .i64 i)] j)
theorem aS.b5:(aU none [] prog 178 aS.k (lB (bB (sL (sR (bB (lB (bB (sL (sR (sR (sR (sR (sR (sR (sR (sR (sR (body f134)))))))))))))))))) aS.u5 Q [(0,.slice a b c),(1,.int .i64 d),(4,.func (.func 73) #[.pointer e] #[]),(10,.int .i64 f),(11,.bool false),(12,.int .i64 g),(13,.int .i64 i)] w)=aS.B5 a b c d e f g i Q w:=by kernel_rfl
variable{a b c d e f g}
theorem aS.SD(I:Int->World->Prop)(μ:Int->World->Nat)(s:Int){Q:aN}{w:World}(h0:I s w)
 (round:∀s w,I s w->aS.B5 a b c d e f g s (bL (aS.e5 a b c d e f g) I μ s w Q) w):Holds none [] prog 178 (.loop (lB (bB (sL (sR (bB (lB (bB (sL (sR (sR (sR (sR (sR (sR (sR (sR (sR (body f134))))))))))))))))))) Q (aS.e5 a b c d e f g s) w:=
 a7 ng mix (aS.e5 a b c d e f g) I μ aS.k aS.u5 s (fun s Q w=>aS.B5 a b c d e f g s Q w) (fun s Q w=>aS.b5 a b c d e f g s Q w) h0 round
end
section
variable(a:OA)(b c:Nat)(d:Int)(e:OA)(f g i:Int)(Q:aN)(w:World)
def aS.QR:Prop:=
 Split (decide (g>i)) (Q (.exit 4) [(0,.slice a b c),(1,.int .i64 d),(4,.func (.func 73) #[.pointer e] #[]),(10,.int .i64 f),(11,.bool false),(12,.int .i64 g),(13,.int .i64 i)] w) (let j:=w.drew;(0<=i/\i<(b:Int))/\Is a fun k:Addr=>∃m:AV,(m.size=32/\Cells j (k.add (i.toNat*32)) m)/\(0<=g/\g<(b:Int))/\Is a fun n:Addr=>∃o:AV,(o.size=32/\Cells j (n.add (g.toNat*32)) o)/\(0<=g/\g<(b:Int))/\Is a fun p:Addr=>(m.size=32/\(∀q∈m.toList,q.oneCell'=true)/\∀r,r<32->Wr j ((p.add (g.toNat*32)).add r))/\let t:=setCells j (p.add (g.toNat*32)) m.toList 0;(0<=i/\i<(b:Int))/\Is a fun u:Addr=>(o.size=32/\(∀v∈o.toList,v.oneCell'=true)/\∀x,x<32->Wr t ((u.add (i.toNat*32)).add x))/\let y:=setCells t (u.add (i.toNat*32)) o.toList 0;Q .normal [(0,.slice a b c),(1,.int .i64 d),(4,.func (.func 73) #[.pointer e] #[]),(10,.int .i64 f),(11,.bool false),(12,.int .i64 (i64.wrap (g+(1:Int)))),(13,.int .i64 (i64.wrap (i-(1:Int))))] y)
theorem aS.RV:(aS.q5 Q (.exit 8) [(0,.slice a b c),(1,.int .i64 d),(4,.func (.func 73) #[.pointer e] #[]),(10,.int .i64 f),(11,.bool false),(12,.int .i64 g),(13,.int .i64 i)] w)=aS.QR a b c d e f g i Q w:=by kernel_rfl
end
section
def aS.sP(a:OA)(b c:Nat)(d:Int)(e:OA)(f g i:Int)(K:KT)(w:World):Prop:=
 let j:=w.drew;(0<=d/\d<(b:Int))/\Is a fun k:Addr=>∃m:AV,(m.size=32/\Cells j (k.add (d.toNat*32)) m)/\(0<=i/\i<(b:Int))/\Is a fun n:Addr=>∃o:AV,(o.size=32/\Cells j (n.add (i.toNat*32)) o)/\(0<=i/\i<(b:Int))/\Is a fun p:Addr=>(m.size=32/\(∀q∈m.toList,q.oneCell'=true)/\∀r,r<32->Wr j ((p.add (i.toNat*32)).add r))/\let t:=setCells j (p.add (i.toNat*32)) m.toList 0;(0<=d/\d<(b:Int))/\Is a fun u:Addr=>(o.size=32/\(∀v∈o.toList,v.oneCell'=true)/\∀x,x<32->Wr t ((u.add (d.toNat*32)).add x))/\let y:=setCells t (u.add (d.toNat*32)) o.toList 0;K (.tuple #[.int .i64 i,.bool false]) y
variable(a:OA)(b c:Nat)(d:Int)(e:OA)(f g i:Int)(K:KT)(w:World)
theorem aS.xK:(aS.q3 K (.exit 4) [(0,.slice a b c),(1,.int .i64 d),(4,.func (.func 73) #[.pointer e] #[]),(10,.int .i64 f),(11,.bool false),(12,.int .i64 g),(13,.int .i64 i)] w)=aS.sP a b c d e f g i K w:=by kernel_rfl
end
def bQ.k:List Nat:= [5,6]
def bQ.q1(K:KT):aN:=(aM 0 (aR f152) (bO prog f152 K))
def bQ.e1(a:OA)(b c:Nat)(d e:Int)(f:OA)(s:Int):Env:= [(0,.slice a b c),(2,.int .i64 d),(3,.int .i64 e),(4,.func (.func 73) #[.pointer f] #[]),(10,.int .i64 s)]
def bQ.u1:List Nat:= [0,2,3,4,10]
section
variable(a:OA)(b d:Nat)(e f g:Int)(i:OA)(K:KT)(w:World)
def bQ.W:Prop:=
 Holds none [] prog 82 (.loop (lB (bB (sR (body f152))))) (bQ.q1 K) [(0,.slice a b d),(2,.int .i64 f),(3,.int .i64 g),(4,.func (.func 73) #[.pointer i] #[]),(10,.int .i64 e)] w
variable{a b d e f g i K w}
theorem bQ.of(h:bQ.W a b d e f g i K w):bk prog 152 #[.slice a b d,.int .i64 e,.int .i64 f,.int .i64 g,.func (.func 73) #[.pointer i] #[]] w K:=
 rqq func152 (C:=bQ.k) h
end
section
variable(a:OA)(b c:Nat)(d e:Int)(f:OA)(g:Int)(Q:aN)(w:World)
def bQ.B1:Prop:=
 Split (decide ((i64.wrap ((i64.wrap ((2:Int)*g))+(1:Int)))>=d)) (Q (.exit 0) [(0,.slice a b c),(2,.int .i64 d),(3,.int .i64 e),(4,.func (.func 73) #[.pointer f] #[]),(10,.int .i64 g),(11,.int .i64 (i64.wrap ((i64.wrap ((2:Int)*g))+(1:Int))))] w) (let i:=w.drew;Split (decide ((i64.wrap ((i64.wrap ((i64.wrap ((2:Int)*g))+(1:Int)))+(1:Int)))<d)) ((0<=(i64.wrap (e+(i64.wrap ((i64.wrap ((2:Int)*g))+(1:Int)))))/\(i64.wrap (e+(i64.wrap ((i64.wrap ((2:Int)*g))+(1:Int)))))<(b:Int))/\Is a fun j:Addr=>∃k:AV,(k.size=32/\Cells i (j.add ((i64.wrap (e+(i64.wrap ((i64.wrap ((2:Int)*g))+(1:Int))))).toNat*32)) k)/\(0<=(i64.wrap ((i64.wrap (e+(i64.wrap ((i64.wrap ((2:Int)*g))+(1:Int)))))+(1:Int)))/\(i64.wrap ((i64.wrap (e+(i64.wrap ((i64.wrap ((2:Int)*g))+(1:Int)))))+(1:Int)))<(b:Int))/\Is a fun m:Addr=>∃n:AV,(n.size=32/\Cells i (m.add ((i64.wrap ((i64.wrap (e+(i64.wrap ((i64.wrap ((2:Int)*g))+(1:Int)))))+(1:Int))).toNat*32)) n)/\bk prog 73 #[.pointer f,.agg k,.agg n] i fun o p=>∃q:Int,o=.int .i64 q/\Split (decide (q<(0:Int))) (Holds none [] prog 82 (sR (sR (sR (bB (lB (bB (sR (body f152)))))))) (aM 1 bQ.u1 Q) [(0,.slice a b c),(2,.int .i64 d),(3,.int .i64 e),(4,.func (.func 73) #[.pointer f] #[]),(10,.int .i64 g),(11,.int .i64 (i64.wrap ((i64.wrap ((i64.wrap ((2:Int)*g))+(1:Int)))+(1:Int))))] p) (Holds none [] prog 82 (sR (sR (sR (bB (lB (bB (sR (body f152)))))))) (aM 1 bQ.u1 Q) [(0,.slice a b c),(2,.int .i64 d),(3,.int .i64 e),(4,.func (.func 73) #[.pointer f] #[]),(10,.int .i64 g),(11,.int .i64 (i64.wrap ((i64.wrap ((2:Int)*g))+(1:Int))))] p)) (Holds none [] prog 82 (sR (sR (sR (bB (lB (bB (sR (body f152)))))))) (aM 1 bQ.u1 Q) [(0,.slice a b c),(2,.int .i64 d),(3,.int .i64 e),(4,.func (.func 73) #[.pointer f] #[]),(10,.int .i64 g),(11,.int .i64 (i64.wrap ((i64.wrap ((2:Int)*g))+(1:Int))))] i))
theorem bQ.b1:(aU none [] prog 82 bQ.k (lB (bB (sR (body f152)))) bQ.u1 Q [(0,.slice a b c),(2,.int .i64 d),(3,.int .i64 e),(4,.func (.func 73) #[.pointer f] #[]),(10,.int .i64 g)] w)=bQ.B1 a b c d e f g Q w:=by kernel_rfl
variable{a b c d e f}
theorem bQ.b9(I:Int->World->Prop)(μ:Int->World->Nat)(s:Int){Q:aN}{w:World}(h0:I s w)
 (round:∀s w,I s w->bQ.B1 a b c d e f s (bL (bQ.e1 a b c d e f) I μ s w Q) w):Holds none [] prog 82 (.loop (lB (bB (sR (body f152))))) Q (bQ.e1 a b c d e f s) w:=
 a7 ng mix (bQ.e1 a b c d e f) I μ bQ.k bQ.u1 s (fun s Q w=>bQ.B1 a b c d e f s Q w) (fun s Q w=>bQ.b1 a b c d e f s Q w) h0 round
end
section
def bQ.cH(a:OA)(b c:Nat)(d e:Int)(f:OA)(g i:Int)(K:KT)(w:World):Prop:=
 K (.tuple #[]) w
variable(a:OA)(b c:Nat)(d e:Int)(f:OA)(g i:Int)(K:KT)(w:World)
theorem bQ.df:(bQ.q1 K (.exit 0) [(0,.slice a b c),(2,.int .i64 d),(3,.int .i64 e),(4,.func (.func 73) #[.pointer f] #[]),(10,.int .i64 g),(11,.int .i64 i)] w)=bQ.cH a b c d e f g i K w:=by kernel_rfl
end
section
variable(a:OA)(b c:Nat)(d e:Int)(f:OA)(g i:Int)(Q:aN)(w:World)
def bQ.J1:Prop:=
 let j:=w.drew;(0<=(i64.wrap (e+g))/\(i64.wrap (e+g))<(b:Int))/\Is a fun k:Addr=>∃m:AV,(m.size=32/\Cells j (k.add ((i64.wrap (e+g)).toNat*32)) m)/\(0<=(i64.wrap (e+i))/\(i64.wrap (e+i))<(b:Int))/\Is a fun n:Addr=>∃o:AV,(o.size=32/\Cells j (n.add ((i64.wrap (e+i)).toNat*32)) o)/\bk prog 73 #[.pointer f,.agg m,.agg o] j fun p q=>∃r:Int,p=.int .i64 r/\Split (!(decide (r<(0:Int)))) (Q .ret [(0,.slice a b c),(2,.int .i64 d),(3,.int .i64 e),(4,.func (.func 73) #[.pointer f] #[]),(10,.int .i64 g),(11,.int .i64 i)] q) (Holds none [] prog 82 (sR (sR (sR (sR (bB (lB (bB (sR (body f152))))))))) (aM 1 bQ.u1 Q) [(0,.slice a b c),(2,.int .i64 d),(3,.int .i64 e),(4,.func (.func 73) #[.pointer f] #[]),(10,.int .i64 g),(11,.int .i64 i)] q)
theorem bQ.j1:(aU none [] prog 82 bQ.k (sR (sR (sR (bB (lB (bB (sR (body f152)))))))) bQ.u1 (aM 1 bQ.u1 Q) [(0,.slice a b c),(2,.int .i64 d),(3,.int .i64 e),(4,.func (.func 73) #[.pointer f] #[]),(10,.int .i64 g),(11,.int .i64 i)] w)=bQ.J1 a b c d e f g i Q w:=by kernel_rfl
variable{a b c d e f g i Q w}
theorem bQ.oA(h:bQ.J1 a b c d e f g i Q w):Holds none [] prog 82 (sR (sR (sR (bB (lB (bB (sR (body f152)))))))) (aM 1 bQ.u1 Q) [(0,.slice a b c),(2,.int .i64 d),(3,.int .i64 e),(4,.func (.func 73) #[.pointer f] #[]),(10,.int .i64 g),(11,.int .i64 i)] w:=
 cO (C:=bQ.k) ng mix (bQ.j1 a b c d e f g i Q w) h
end
section
variable(a:OA)(b c:Nat)(d e:Int)(f:OA)(g i:Int)(Q:aN)(w:World)
def bQ.J2:Prop:=
 let j:=w.drew;(0<=(i64.wrap (e+i))/\(i64.wrap (e+i))<(b:Int))/\Is a fun k:Addr=>∃m:AV,(m.size=32/\Cells j (k.add ((i64.wrap (e+i)).toNat*32)) m)/\(0<=(i64.wrap (e+g))/\(i64.wrap (e+g))<(b:Int))/\Is a fun n:Addr=>∃o:AV,(o.size=32/\Cells j (n.add ((i64.wrap (e+g)).toNat*32)) o)/\(0<=(i64.wrap (e+g))/\(i64.wrap (e+g))<(b:Int))/\Is a fun p:Addr=>(m.size=32/\(∀q∈m.toList,q.oneCell'=true)/\∀r,r<32->Wr j ((p.add ((i64.wrap (e+g)).toNat*32)).add r))/\let t:=setCells j (p.add ((i64.wrap (e+g)).toNat*32)) m.toList 0;(0<=(i64.wrap (e+i))/\(i64.wrap (e+i))<(b:Int))/\Is a fun u:Addr=>(o.size=32/\(∀v∈o.toList,v.oneCell'=true)/\∀x,x<32->Wr t ((u.add ((i64.wrap (e+i)).toNat*32)).add x))/\let y:=setCells t (u.add ((i64.wrap (e+i)).toNat*32)) o.toList 0;Q .normal [(0,.slice a b c),(2,.int .i64 d),(3,.int .i64 e),(4,.func (.func 73) #[.pointer f] #[]),(10,.int .i64 i)] y
theorem bQ.j2:(aU none [] prog 82 bQ.k (sR (sR (sR (sR (bB (lB (bB (sR (body f152))))))))) bQ.u1 (aM 1 bQ.u1 Q) [(0,.slice a b c),(2,.int .i64 d),(3,.int .i64 e),(4,.func (.func 73) #[.pointer f] #[]),(10,.int .i64 g),(11,.int .i64 i)] w)=bQ.J2 a b c d e f g i Q w:=by kernel_rfl
variable{a b c d e f g i Q w}
theorem bQ.qq(h:bQ.J2 a b c d e f g i Q w):Holds none [] prog 82 (sR (sR (sR (sR (bB (lB (bB (sR (body f152))))))))) (aM 1 bQ.u1 Q) [(0,.slice a b c),(2,.int .i64 d),(3,.int .i64 e),(4,.func (.func 73) #[.pointer f] #[]),(10,.int .i64 g),(11,.int .i64 i)] w:=
 cO (C:=bQ.k) ng mix (bQ.j2 a b c d e f g i Q w) h
end
section
variable(a:OA)(b d:Nat)(e:Int)(f g:OA)(K:KT)(w:World)
variable{a b d e f g K w}
end
def sd.k:List Nat:= []
section
variable(a:OA)(b d:Nat)(e f g:Int)(i j:OA)(K:KT)(w:World)
def sd.W:Prop:=
 bk prog 163 #[.slice a b d,.int .i64 e,.int .i64 f,.pointer i,.func (.func 73) #[.pointer j] #[]] w fun k m=>∃n o:Int,k=.tuple #[.int .i64 n,.int .i64 o]/\bk prog 163 #[.slice a b d,.int .i64 o,.int .i64 g,.pointer i,.func (.func 73) #[.pointer j] #[]] m fun p q=>∃r t:Int,p=.tuple #[.int .i64 r,.int .i64 t]/\bk prog 163 #[.slice a b d,.int .i64 n,.int .i64 r,.pointer i,.func (.func 73) #[.pointer j] #[]] q fun u v=>∃x y:Int,u=.tuple #[.int .i64 x,.int .i64 y]/\K (.int .i64 y) v
variable{a b d e f g i j K w}
theorem sd.of(h:sd.W a b d e f g i j K w):bk prog 156 #[.slice a b d,.int .i64 e,.int .i64 f,.int .i64 g,.pointer i,.func (.func 73) #[.pointer j] #[]] w K:=
 rqq func156 (C:=sd.k) h
end
def r9.k:List Nat:= []
section
def r9.W(a:OA)(b d:Nat)(e f:Int)(g i:OA)(K:KT)(w:World):Prop:=
 let j:=w.drew;(0<=f/\f<(b:Int))/\Is a fun k:Addr=>∃m:AV,(m.size=32/\Cells j (k.add (f.toNat*32)) m)/\(0<=e/\e<(b:Int))/\Is a fun n:Addr=>∃o:AV,(o.size=32/\Cells j (n.add (e.toNat*32)) o)/\bk prog 73 #[.pointer i,.agg m,.agg o] j fun p q=>∃r:Int,p=.int .i64 r/\Split (decide (r<(0:Int))) (Is g fun t:Addr=>∃u:Int,q.cell? t=some (.int .i64 u)/\Is g fun v:Addr=>Wr q v/\let x:=q.setCell v (.int .i64 (i64.wrap (u+(1:Int))));K (.tuple #[.int .i64 f,.int .i64 e]) x) (K (.tuple #[.int .i64 e,.int .i64 f]) q)
variable(a:OA)(b d:Nat)(e f:Int)(g i:OA)(K:KT)(w:World)
variable{a b d e f g i K w}
theorem r9.of(h:r9.W a b d e f g i K w):bk prog 163 #[.slice a b d,.int .i64 e,.int .i64 f,.pointer g,.func (.func 73) #[.pointer i] #[]] w K:=
 rqq func163 (C:=r9.k) h
end
end Go.Proofs.YtfleamccglihoaaGreatDoor
