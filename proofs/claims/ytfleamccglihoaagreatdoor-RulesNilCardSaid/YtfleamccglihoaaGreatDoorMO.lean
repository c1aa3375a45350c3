import Derived.Test.YtfleamccglihoaaGreatDoorProg
import Derived.Test.YtfleamccglihoaaGreatDoorMA
import Derived.Test.YtfleamccglihoaaGreatDoorMB
open Go.IntKind (i64 u64)
set_option linter.unusedVariables false
namespace Go.Proofs.YtfleamccglihoaaGreatDoor
open Go.Proofs.Tryz
open Go Go.bE
def CL(aX:Bool)(g:OA):Value:=cond aX (.func (.func 73) #[.pointer g] #[]) (.func (.func 54) #[] #[.pointer g])
def CF(aX:Bool):Nat:=cond aX 73 54
def CA(aX:Bool)(g:OA)(t u:AV):AV:=cond aX #[.pointer g,.agg t,.agg u] #[.agg t,.agg u,.pointer g]
def nY.k:List Nat:= []
section
variable(aX:Bool)(a:OA)(b d:Nat)(e:OA)(K:KT)(w:World)
def nY.W:Prop:=
 bf prog 98 #[.int .u64 (u64.wrap (b:Int))] w fun f g=>∃i:Int,f=.int .i64 i/\bf prog 97 #[.slice a b d,.int .i64 0,.int .i64 (b:Int),.int .i64 i,CL aX e] g fun j k=>j=.tuple #[]/\K (.tuple #[]) k
variable{aX a b d e K w}
theorem nY.of(h:nY.W aX a b d e K w):bf prog 53 #[.slice a b d,CL aX e] w K:=
 by cases aX<;>exact rqq func53 (C:=nY.k) h
end
def az.k:List Nat:= [10,11,13,14,15,17,20,21,22,23,24,26,27,29,30]
def az.q1(K:KT):aM:=(aP 0 (aW f97) (bV prog f97 K))
def az.e1(aX:Bool)(a:OA)(b c:Nat)(d:OA)(s:Int×Int×Int×Bool×Bool):Env:= [(0,.slice a b c),(1,.int .i64 s.1),(2,.int .i64 s.2.1),(3,.int .i64 s.2.2.1),(4,CL aX d),(10,.bool s.2.2.2.1),(11,.bool s.2.2.2.2)]
def az.u1:List Nat:= [0,1,2,3,4,10,11]
section
variable(aX:Bool)(a:OA)(b d:Nat)(e f g:Int)(i:OA)(K:KT)(w:World)
def az.W:Prop:=
 Holds none [] prog 148 (.loop (lB (bB (aZ (body f97))))) (az.q1 K) [(0,.slice a b d),(1,.int .i64 e),(2,.int .i64 f),(3,.int .i64 g),(4,CL aX i),(10,.bool true),(11,.bool true)] w
variable{aX a b d e f g i K w}
theorem az.of(h:az.W aX a b d e f g i K w):bf prog 97 #[.slice a b d,.int .i64 e,.int .i64 f,.int .i64 g,CL aX i] w K:=
 by cases aX<;>exact rqq func97 (C:=az.k) h
end
section
variable(aX:Bool)(a:OA)(b c:Nat)(d e f:Int)(g:OA)(i j:Bool)(Q:aM)(w:World)
def az.B1:Prop:=
 Split (decide ((i64.wrap (e-d))<=(12:Int))) (bf prog 127 #[.slice a b c,.int .i64 d,.int .i64 e,CL aX g] w fun k m=>k=.tuple #[]/\Q .ret [(0,.slice a b c),(1,.int .i64 d),(2,.int .i64 e),(3,.int .i64 f),(4,CL aX g),(10,.bool i),(11,.bool j),(12,.int .i64 (i64.wrap (e-d)))] m) (Split (f==(0:Int)) (bf prog 128 #[.slice a b c,.int .i64 d,.int .i64 e,CL aX g] w fun n o=>n=.tuple #[]/\Q .ret [(0,.slice a b c),(1,.int .i64 d),(2,.int .i64 e),(3,.int .i64 f),(4,CL aX g),(10,.bool i),(11,.bool j),(12,.int .i64 (i64.wrap (e-d)))] o) (Split (!i) (bf prog 129 #[.slice a b c,.int .i64 d,.int .i64 e,CL aX g] w fun p q=>p=.tuple #[]/\Holds none [] prog 148 (cS (bB (lB (bB (aZ (body f97)))))) (aP 1 az.u1 Q) [(0,.slice a b c),(1,.int .i64 d),(2,.int .i64 e),(3,.int .i64 (i64.wrap (f-(1:Int)))),(4,CL aX g),(10,.bool i),(11,.bool j),(12,.int .i64 (i64.wrap (e-d)))] q) (Holds none [] prog 148 (cS (bB (lB (bB (aZ (body f97)))))) (aP 1 az.u1 Q) [(0,.slice a b c),(1,.int .i64 d),(2,.int .i64 e),(3,.int .i64 f),(4,CL aX g),(10,.bool i),(11,.bool j),(12,.int .i64 (i64.wrap (e-d)))] w)))
theorem az.b1:(a8 none [] prog 148 az.k (lB (bB (aZ (body f97)))) az.u1 Q [(0,.slice a b c),(1,.int .i64 d),(2,.int .i64 e),(3,.int .i64 f),(4,CL aX g),(10,.bool i),(11,.bool j)] w)=az.B1 aX a b c d e f g i j Q w:=by cases aX<;>kernel_rfl
variable{aX a b c g}
theorem az.b9(I:Int×Int×Int×Bool×Bool->World->Prop)(μ:Int×Int×Int×Bool×Bool->World->Nat)(s:Int×Int×Int×Bool×Bool){Q:aM}{w:World}(h0:I s w)
 (round:∀s w,I s w->az.B1 aX a b c (s.1) (s.2.1) (s.2.2.1) g (s.2.2.2.1) (s.2.2.2.2) (bS (az.e1 aX a b c g) I μ s w Q) w):Holds none [] prog 148 (.loop (lB (bB (aZ (body f97))))) Q (az.e1 aX a b c g s) w:=
 br ng mix (az.e1 aX a b c g) I μ az.k az.u1 s (fun s Q w=>az.B1 aX a b c (s.1) (s.2.1) (s.2.2.1) g (s.2.2.2.1) (s.2.2.2.2) Q w) (fun s Q w=>az.b1 aX a b c (s.1) (s.2.1) (s.2.2.1) g (s.2.2.2.1) (s.2.2.2.2) Q w) h0 round
end
section
variable(aX:Bool)(a:OA)(b c:Nat)(d e f:Int)(g:OA)(i j:Bool)(k:Int)(Q:aM)(w:World)
def az.J1:Prop:=
 bf prog 130 #[.slice a b c,.int .i64 d,.int .i64 e,CL aX g] w fun m n=>∃o p:Int,m=.tuple #[.int .i64 o,.int .i64 p]/\Holds none [] prog 148 (cS (sR (bB (lB (bB (aZ (body f97))))))) (aP 1 az.u1 Q) [(0,.slice a b c),(1,.int .i64 d),(2,.int .i64 e),(3,.int .i64 f),(4,CL aX g),(10,.bool i),(11,.bool j),(12,.int .i64 k),(13,.int .i64 o),(14,.int .i64 p)] n
theorem az.j1:(a8 none [] prog 148 az.k (cS (bB (lB (bB (aZ (body f97)))))) az.u1 (aP 1 az.u1 Q) [(0,.slice a b c),(1,.int .i64 d),(2,.int .i64 e),(3,.int .i64 f),(4,CL aX g),(10,.bool i),(11,.bool j),(12,.int .i64 k)] w)=az.J1 aX a b c d e f g i j k Q w:=by cases aX<;>kernel_rfl
variable{aX a b c d e f g i j k Q w}
theorem az.kN(h:az.J1 aX a b c d e f g i j k Q w):Holds none [] prog 148 (cS (bB (lB (bB (aZ (body f97)))))) (aP 1 az.u1 Q) [(0,.slice a b c),(1,.int .i64 d),(2,.int .i64 e),(3,.int .i64 f),(4,CL aX g),(10,.bool i),(11,.bool j),(12,.int .i64 k)] w:=
 cJ (C:=az.k) ng mix (az.j1 aX a b c d e f g i j k Q w) h
end
section
variable(aX:Bool)(a:OA)(b c:Nat)(d e f:Int)(g:OA)(i j:Bool)(k m n:Int)(Q:aM)(w:World)
def az.J2:Prop:=
 Split (n==(2:Int)) (bf prog 131 #[.slice a b c,.int .i64 d,.int .i64 e,CL aX g] w fun o p=>o=.tuple #[]/\Holds none [] prog 148 (sR (cT (sR (sL (cS (sR (bB (lB (bB (aZ (body f97))))))))))) (b6 (fun cf w_=>match cutAt az.k (cS (aZ (bB (lB (bB (aZ (body f97)))))))with|true=>Holds none [] prog 148 (cS (aZ (bB (lB (bB (aZ (body f97))))))) (aP 1 az.u1 Q) cf w_|false=>a8 none [] prog 148 az.k (cS (aZ (bB (lB (bB (aZ (body f97))))))) az.u1 (aP 1 az.u1 Q) cf w_) (aP 1 az.u1 Q)) [(0,.slice a b c),(1,.int .i64 d),(2,.int .i64 e),(3,.int .i64 f),(4,CL aX g),(10,.bool i),(11,.bool j),(12,.int .i64 k),(13,.int .i64 m),(14,.int .i64 n)] p) (Holds none [] prog 148 (cS (aZ (bB (lB (bB (aZ (body f97))))))) (aP 1 az.u1 Q) [(0,.slice a b c),(1,.int .i64 d),(2,.int .i64 e),(3,.int .i64 f),(4,CL aX g),(10,.bool i),(11,.bool j),(12,.int .i64 k),(13,.int .i64 m),(14,.int .i64 n)] w)
theorem az.j2:(a8 none [] prog 148 az.k (cS (sR (bB (lB (bB (aZ (body f97))))))) az.u1 (aP 1 az.u1 Q) [(0,.slice a b c),(1,.int .i64 d),(2,.int .i64 e),(3,.int .i64 f),(4,CL aX g),(10,.bool i),(11,.bool j),(12,.int .i64 k),(13,.int .i64 m),(14,.int .i64 n)] w)=az.J2 aX a b c d e f g i j k m n Q w:=by cases aX<;>kernel_rfl
variable{aX a b c d e f g i j k m n Q w}
theorem az.Eh(h:az.J2 aX a b c d e f g i j k m n Q w):Holds none [] prog 148 (cS (sR (bB (lB (bB (aZ (body f97))))))) (aP 1 az.u1 Q) [(0,.slice a b c),(1,.int .i64 d),(2,.int .i64 e),(3,.int .i64 f),(4,CL aX g),(10,.bool i),(11,.bool j),(12,.int .i64 k),(13,.int .i64 m),(14,.int .i64 n)] w:=
 cJ (C:=az.k) ng mix (az.j2 aX a b c d e f g i j k m n Q w) h
end
section
variable(aX:Bool)(a:OA)(b c:Nat)(d e f:Int)(g:OA)(i j:Bool)(k m n:Int)(Q:aM)(w:World)
def az.J3:Prop:=
 Holds none [] prog 148 (aZ (cT (sR (sL (cS (sR (bB (lB (bB (aZ (body f97))))))))))) (b6 (fun cf w_=>match cutAt az.k (cS (aZ (bB (lB (bB (aZ (body f97)))))))with|true=>Holds none [] prog 148 (cS (aZ (bB (lB (bB (aZ (body f97))))))) (aP 1 az.u1 Q) cf w_|false=>a8 none [] prog 148 az.k (cS (aZ (bB (lB (bB (aZ (body f97))))))) az.u1 (aP 1 az.u1 Q) cf w_) (aP 1 az.u1 Q)) [(0,.slice a b c),(1,.int .i64 d),(2,.int .i64 e),(3,.int .i64 f),(4,CL aX g),(10,.bool i),(11,.bool j),(12,.int .i64 k),(13,.int .i64 (i64.wrap ((i64.wrap (e-(1:Int)))-(i64.wrap (m-d))))),(14,.int .i64 n)] w
theorem az.j3:(a8 none [] prog 148 az.k (sR (cT (sR (sL (cS (sR (bB (lB (bB (aZ (body f97))))))))))) (ct (cS (aZ (bB (lB (bB (aZ (body f97)))))))++az.u1) (b6 (fun cf w_=>match cutAt az.k (cS (aZ (bB (lB (bB (aZ (body f97)))))))with|true=>Holds none [] prog 148 (cS (aZ (bB (lB (bB (aZ (body f97))))))) (aP 1 az.u1 Q) cf w_|false=>a8 none [] prog 148 az.k (cS (aZ (bB (lB (bB (aZ (body f97))))))) az.u1 (aP 1 az.u1 Q) cf w_) (aP 1 az.u1 Q)) [(0,.slice a b c),(1,.int .i64 d),(2,.int .i64 e),(3,.int .i64 f),(4,CL aX g),(10,.bool i),(11,.bool j),(12,.int .i64 k),(13,.int .i64 m),(14,.int .i64 n)] w)=az.J3 aX a b c d e f g i j k m n Q w:=by cases aX<;>kernel_rfl
variable{aX a b c d e f g i j k m n Q w}
theorem az.Of(h:az.J3 aX a b c d e f g i j k m n Q w):Holds none [] prog 148 (sR (cT (sR (sL (cS (sR (bB (lB (bB (aZ (body f97))))))))))) (b6 (fun cf w_=>match cutAt az.k (cS (aZ (bB (lB (bB (aZ (body f97)))))))with|true=>Holds none [] prog 148 (cS (aZ (bB (lB (bB (aZ (body f97))))))) (aP 1 az.u1 Q) cf w_|false=>a8 none [] prog 148 az.k (cS (aZ (bB (lB (bB (aZ (body f97))))))) az.u1 (aP 1 az.u1 Q) cf w_) (aP 1 az.u1 Q)) [(0,.slice a b c),(1,.int .i64 d),(2,.int .i64 e),(3,.int .i64 f),(4,CL aX g),(10,.bool i),(11,.bool j),(12,.int .i64 k),(13,.int .i64 m),(14,.int .i64 n)] w:=
 cJ (C:=az.k) ng mix (az.j3 aX a b c d e f g i j k m n Q w) h
end
section
variable(aX:Bool)(a:OA)(b c:Nat)(d e f:Int)(g:OA)(i j:Bool)(k m n:Int)(Q:aM)(w:World)
def az.J4:Prop:=
 Split i (Split j (Split (n==(1:Int)) (bf prog 132 #[.slice a b c,.int .i64 d,.int .i64 e,CL aX g] w fun o p=>∃q:Bool,o=.bool q/\Split q (Q .ret [(0,.slice a b c),(1,.int .i64 d),(2,.int .i64 e),(3,.int .i64 f),(4,CL aX g),(10,.bool i),(11,.bool j),(12,.int .i64 k),(13,.int .i64 m)] p) (Holds none [] prog 148 (cS (aZ (sR (bB (lB (bB (aZ (body f97)))))))) (aP 1 az.u1 Q) [(0,.slice a b c),(1,.int .i64 d),(2,.int .i64 e),(3,.int .i64 f),(4,CL aX g),(10,.bool i),(11,.bool j),(12,.int .i64 k),(13,.int .i64 m)] p)) (Holds none [] prog 148 (cS (aZ (sR (bB (lB (bB (aZ (body f97)))))))) (aP 1 az.u1 Q) [(0,.slice a b c),(1,.int .i64 d),(2,.int .i64 e),(3,.int .i64 f),(4,CL aX g),(10,.bool i),(11,.bool j),(12,.int .i64 k),(13,.int .i64 m)] w)) (Holds none [] prog 148 (cS (aZ (sR (bB (lB (bB (aZ (body f97)))))))) (aP 1 az.u1 Q) [(0,.slice a b c),(1,.int .i64 d),(2,.int .i64 e),(3,.int .i64 f),(4,CL aX g),(10,.bool i),(11,.bool j),(12,.int .i64 k),(13,.int .i64 m)] w)) (Holds none [] prog 148 (cS (aZ (sR (bB (lB (bB (aZ (body f97)))))))) (aP 1 az.u1 Q) [(0,.slice a b c),(1,.int .i64 d),(2,.int .i64 e),(3,.int .i64 f),(4,CL aX g),(10,.bool i),(11,.bool j),(12,.int .i64 k),(13,.int .i64 m)] w)
theorem az.j4:(a8 none [] prog 148 az.k (cS (aZ (bB (lB (bB (aZ (body f97))))))) az.u1 (aP 1 az.u1 Q) [(0,.slice a b c),(1,.int .i64 d),(2,.int .i64 e),(3,.int .i64 f),(4,CL aX g),(10,.bool i),(11,.bool j),(12,.int .i64 k),(13,.int .i64 m),(14,.int .i64 n)] w)=az.J4 aX a b c d e f g i j k m n Q w:=by cases aX<;>kernel_rfl
variable{aX a b c d e f g i j k m n Q w}
theorem az.Io(h:az.J4 aX a b c d e f g i j k m n Q w):Holds none [] prog 148 (cS (aZ (bB (lB (bB (aZ (body f97))))))) (aP 1 az.u1 Q) [(0,.slice a b c),(1,.int .i64 d),(2,.int .i64 e),(3,.int .i64 f),(4,CL aX g),(10,.bool i),(11,.bool j),(12,.int .i64 k),(13,.int .i64 m),(14,.int .i64 n)] w:=
 cJ (C:=az.k) ng mix (az.j4 aX a b c d e f g i j k m n Q w) h
end
section
def az.J5(aX:Bool)(a:OA)(b c:Nat)(d e f:Int)(g:OA)(i j:Bool)(k m n:Int)(Q:aM)(w:World):Prop:=
 Holds none [] prog 148 (cS (aZ (bB (lB (bB (aZ (body f97))))))) (aP 1 az.u1 Q) [(0,.slice a b c),(1,.int .i64 d),(2,.int .i64 e),(3,.int .i64 f),(4,CL aX g),(10,.bool i),(11,.bool j),(12,.int .i64 k),(13,.int .i64 m),(14,.int .i64 1)] w
variable(aX:Bool)(a:OA)(b c:Nat)(d e f:Int)(g:OA)(i j:Bool)(k m n:Int)(Q:aM)(w:World)
theorem az.j5:(a8 none [] prog 148 az.k (aZ (cT (sR (sL (cS (sR (bB (lB (bB (aZ (body f97))))))))))) (ct (cS (aZ (bB (lB (bB (aZ (body f97)))))))++az.u1) (b6 (fun cf w_=>match cutAt az.k (cS (aZ (bB (lB (bB (aZ (body f97)))))))with|true=>Holds none [] prog 148 (cS (aZ (bB (lB (bB (aZ (body f97))))))) (aP 1 az.u1 Q) cf w_|false=>a8 none [] prog 148 az.k (cS (aZ (bB (lB (bB (aZ (body f97))))))) az.u1 (aP 1 az.u1 Q) cf w_) (aP 1 az.u1 Q)) [(0,.slice a b c),(1,.int .i64 d),(2,.int .i64 e),(3,.int .i64 f),(4,CL aX g),(10,.bool i),(11,.bool j),(12,.int .i64 k),(13,.int .i64 m),(14,.int .i64 n)] w)=az.J5 aX a b c d e f g i j k m n Q w:=by cases aX<;>kernel_rfl
variable{aX a b c d e f g i j k m n Q w}
theorem az.Oe(h:az.J5 aX a b c d e f g i j k m n Q w):Holds none [] prog 148 (aZ (cT (sR (sL (cS (sR (bB (lB (bB (aZ (body f97))))))))))) (b6 (fun cf w_=>match cutAt az.k (cS (aZ (bB (lB (bB (aZ (body f97)))))))with|true=>Holds none [] prog 148 (cS (aZ (bB (lB (bB (aZ (body f97))))))) (aP 1 az.u1 Q) cf w_|false=>a8 none [] prog 148 az.k (cS (aZ (bB (lB (bB (aZ (body f97))))))) az.u1 (aP 1 az.u1 Q) cf w_) (aP 1 az.u1 Q)) [(0,.slice a b c),(1,.int .i64 d),(2,.int .i64 e),(3,.int .i64 f),(4,CL aX g),(10,.bool i),(11,.bool j),(12,.int .i64 k),(13,.int .i64 m),(14,.int .i64 n)] w:=
 cJ (C:=az.k) ng mix (az.j5 aX a b c d e f g i j k m n Q w) h
end
section
variable(aX:Bool)(a:OA)(b c:Nat)(d e f:Int)(g:OA)(i j:Bool)(k m:Int)(Q:aM)(w:World)
def az.J6:Prop:=
 let n:=w.drew;Split (decide (d>(0:Int))) ((0<=(i64.wrap (d-(1:Int)))/\(i64.wrap (d-(1:Int)))<(b:Int))/\Is a fun o:Addr=>∃p:AV,(p.size=32/\Cells n (o.add ((i64.wrap (d-(1:Int))).toNat*32)) p)/\(0<=m/\m<(b:Int))/\Is a fun q:Addr=>∃r:AV,(r.size=32/\Cells n (q.add (m.toNat*32)) r)/\bf prog (CF aX) (CA aX g p r) n fun t u=>∃v:Int,t=.int .i64 v/\Split (!(decide (v<(0:Int)))) (bf prog 133 #[.slice a b c,.int .i64 d,.int .i64 e,.int .i64 m,CL aX g] u fun x y=>∃z:Int,x=.int .i64 z/\Q .normal [(0,.slice a b c),(1,.int .i64 z),(2,.int .i64 e),(3,.int .i64 f),(4,CL aX g),(10,.bool i),(11,.bool j)] y) (Holds none [] prog 148 (dW (bB (lB (bB (aZ (body f97)))))) (aP 1 az.u1 Q) [(0,.slice a b c),(1,.int .i64 d),(2,.int .i64 e),(3,.int .i64 f),(4,CL aX g),(10,.bool i),(11,.bool j),(12,.int .i64 k),(13,.int .i64 m)] u)) (Holds none [] prog 148 (dW (bB (lB (bB (aZ (body f97)))))) (aP 1 az.u1 Q) [(0,.slice a b c),(1,.int .i64 d),(2,.int .i64 e),(3,.int .i64 f),(4,CL aX g),(10,.bool i),(11,.bool j),(12,.int .i64 k),(13,.int .i64 m)] n)
theorem az.j6:(a8 none [] prog 148 az.k (cS (aZ (sR (bB (lB (bB (aZ (body f97)))))))) az.u1 (aP 1 az.u1 Q) [(0,.slice a b c),(1,.int .i64 d),(2,.int .i64 e),(3,.int .i64 f),(4,CL aX g),(10,.bool i),(11,.bool j),(12,.int .i64 k),(13,.int .i64 m)] w)=az.J6 aX a b c d e f g i j k m Q w:=by cases aX<;>kernel_rfl
variable{aX a b c d e f g i j k m Q w}
theorem az.Im(h:az.J6 aX a b c d e f g i j k m Q w):Holds none [] prog 148 (cS (aZ (sR (bB (lB (bB (aZ (body f97)))))))) (aP 1 az.u1 Q) [(0,.slice a b c),(1,.int .i64 d),(2,.int .i64 e),(3,.int .i64 f),(4,CL aX g),(10,.bool i),(11,.bool j),(12,.int .i64 k),(13,.int .i64 m)] w:=
 cJ (C:=az.k) ng mix (az.j6 aX a b c d e f g i j k m Q w) h
end
section
variable(aX:Bool)(a:OA)(b c:Nat)(d e f:Int)(g:OA)(i j:Bool)(k m:Int)(Q:aM)(w:World)
def az.J7:Prop:=
 bf prog 134 #[.slice a b c,.int .i64 d,.int .i64 e,.int .i64 m,CL aX g] w fun n o=>∃p:Int,∃q:Bool,n=.tuple #[.int .i64 p,.bool q]/\Holds none [] prog 148 (dW (sR (bB (lB (bB (aZ (body f97))))))) (aP 1 az.u1 Q) [(0,.slice a b c),(1,.int .i64 d),(2,.int .i64 e),(3,.int .i64 f),(4,CL aX g),(10,.bool i),(11,.bool j),(12,.int .i64 k),(16,.int .i64 p),(17,.bool q)] o
theorem az.j7:(a8 none [] prog 148 az.k (dW (bB (lB (bB (aZ (body f97)))))) az.u1 (aP 1 az.u1 Q) [(0,.slice a b c),(1,.int .i64 d),(2,.int .i64 e),(3,.int .i64 f),(4,CL aX g),(10,.bool i),(11,.bool j),(12,.int .i64 k),(13,.int .i64 m)] w)=az.J7 aX a b c d e f g i j k m Q w:=by cases aX<;>kernel_rfl
variable{aX a b c d e f g i j k m Q w}
theorem az.Il(h:az.J7 aX a b c d e f g i j k m Q w):Holds none [] prog 148 (dW (bB (lB (bB (aZ (body f97)))))) (aP 1 az.u1 Q) [(0,.slice a b c),(1,.int .i64 d),(2,.int .i64 e),(3,.int .i64 f),(4,CL aX g),(10,.bool i),(11,.bool j),(12,.int .i64 k),(13,.int .i64 m)] w:=
 cJ (C:=az.k) ng mix (az.j7 aX a b c d e f g i j k m Q w) h
end
section
def az.J8(aX:Bool)(a:OA)(b c:Nat)(d e f:Int)(g:OA)(i j:Bool)(k m:Int)(n:Bool)(Q:aM)(w:World):Prop:=
 Holds none [] prog 148 (dW (aZ (bB (lB (bB (aZ (body f97))))))) (aP 1 az.u1 Q) [(0,.slice a b c),(1,.int .i64 d),(2,.int .i64 e),(3,.int .i64 f),(4,CL aX g),(10,.bool i),(11,.bool n),(12,.int .i64 k),(16,.int .i64 m)] w
variable(aX:Bool)(a:OA)(b c:Nat)(d e f:Int)(g:OA)(i j:Bool)(k m:Int)(n:Bool)(Q:aM)(w:World)
theorem az.j8:(a8 none [] prog 148 az.k (dW (sR (bB (lB (bB (aZ (body f97))))))) az.u1 (aP 1 az.u1 Q) [(0,.slice a b c),(1,.int .i64 d),(2,.int .i64 e),(3,.int .i64 f),(4,CL aX g),(10,.bool i),(11,.bool j),(12,.int .i64 k),(16,.int .i64 m),(17,.bool n)] w)=az.J8 aX a b c d e f g i j k m n Q w:=by cases aX<;>kernel_rfl
variable{aX a b c d e f g i j k m n Q w}
theorem az.Od(h:az.J8 aX a b c d e f g i j k m n Q w):Holds none [] prog 148 (dW (sR (bB (lB (bB (aZ (body f97))))))) (aP 1 az.u1 Q) [(0,.slice a b c),(1,.int .i64 d),(2,.int .i64 e),(3,.int .i64 f),(4,CL aX g),(10,.bool i),(11,.bool j),(12,.int .i64 k),(16,.int .i64 m),(17,.bool n)] w:=
 cJ (C:=az.k) ng mix (az.j8 aX a b c d e f g i j k m n Q w) h
end
section
variable(aX:Bool)(a:OA)(b c:Nat)(d e f:Int)(g:OA)(i j:Bool)(k m:Int)(Q:aM)(w:World)
def az.J9:Prop:=
 Holds none [] prog 148 (dW (aZ (sR (bB (lB (bB (aZ (body f97)))))))) (aP 1 az.u1 Q) [(0,.slice a b c),(1,.int .i64 d),(2,.int .i64 e),(3,.int .i64 f),(4,CL aX g),(10,.bool i),(11,.bool j),(12,.int .i64 k),(16,.int .i64 m),(18,.int .i64 (i64.wrap (m-d))),(19,.int .i64 (i64.wrap (e-m)))] w
theorem az.j9:(a8 none [] prog 148 az.k (dW (aZ (bB (lB (bB (aZ (body f97))))))) az.u1 (aP 1 az.u1 Q) [(0,.slice a b c),(1,.int .i64 d),(2,.int .i64 e),(3,.int .i64 f),(4,CL aX g),(10,.bool i),(11,.bool j),(12,.int .i64 k),(16,.int .i64 m)] w)=az.J9 aX a b c d e f g i j k m Q w:=by cases aX<;>kernel_rfl
variable{aX a b c d e f g i j k m Q w}
theorem az.Oc(h:az.J9 aX a b c d e f g i j k m Q w):Holds none [] prog 148 (dW (aZ (bB (lB (bB (aZ (body f97))))))) (aP 1 az.u1 Q) [(0,.slice a b c),(1,.int .i64 d),(2,.int .i64 e),(3,.int .i64 f),(4,CL aX g),(10,.bool i),(11,.bool j),(12,.int .i64 k),(16,.int .i64 m)] w:=
 cJ (C:=az.k) ng mix (az.j9 aX a b c d e f g i j k m Q w) h
end
section
variable(aX:Bool)(a:OA)(b c:Nat)(d e f:Int)(g:OA)(i j:Bool)(k m n o:Int)(Q:aM)(w:World)
def az.Xe:Prop:=
 (8:Int)≠0/\Holds none [] prog 148 (dW (cS (bB (lB (bB (aZ (body f97))))))) (aP 1 az.u1 Q) [(0,.slice a b c),(1,.int .i64 d),(2,.int .i64 e),(3,.int .i64 f),(4,CL aX g),(10,.bool i),(11,.bool j),(16,.int .i64 m),(18,.int .i64 n),(19,.int .i64 o),(20,.int .i64 (i64.wrap (k.tdiv (8:Int))))] w
theorem az.j10:(a8 none [] prog 148 az.k (dW (aZ (sR (bB (lB (bB (aZ (body f97)))))))) az.u1 (aP 1 az.u1 Q) [(0,.slice a b c),(1,.int .i64 d),(2,.int .i64 e),(3,.int .i64 f),(4,CL aX g),(10,.bool i),(11,.bool j),(12,.int .i64 k),(16,.int .i64 m),(18,.int .i64 n),(19,.int .i64 o)] w)=az.Xe aX a b c d e f g i j k m n o Q w:=by cases aX<;>kernel_rfl
variable{aX a b c d e f g i j k m n o Q w}
theorem az.Kf(h:az.Xe aX a b c d e f g i j k m n o Q w):Holds none [] prog 148 (dW (aZ (sR (bB (lB (bB (aZ (body f97)))))))) (aP 1 az.u1 Q) [(0,.slice a b c),(1,.int .i64 d),(2,.int .i64 e),(3,.int .i64 f),(4,CL aX g),(10,.bool i),(11,.bool j),(12,.int .i64 k),(16,.int .i64 m),(18,.int .i64 n),(19,.int .i64 o)] w:=
 cJ (C:=az.k) ng mix (az.j10 aX a b c d e f g i j k m n o Q w) h
end
section
def az.Xd(aX:Bool)(a:OA)(b c:Nat)(d e f:Int)(g:OA)(i j:Bool)(k m n o:Int)(Q:aM)(w:World):Prop:=
 Split (decide (m<n)) (Holds none [] prog 148 (sR (cT (dW (cS (sR (bB (lB (bB (aZ (body f97)))))))))) (aP 1 az.u1 Q) [(0,.slice a b c),(1,.int .i64 d),(2,.int .i64 e),(3,.int .i64 f),(4,CL aX g),(10,.bool (decide (m>=o))),(11,.bool j),(16,.int .i64 k)] w) (Holds none [] prog 148 (sR (cE (dW (cS (sR (bB (lB (bB (aZ (body f97)))))))))) (aP 1 az.u1 Q) [(0,.slice a b c),(1,.int .i64 d),(2,.int .i64 e),(3,.int .i64 f),(4,CL aX g),(10,.bool (decide (n>=o))),(11,.bool j),(16,.int .i64 k)] w)
variable(aX:Bool)(a:OA)(b c:Nat)(d e f:Int)(g:OA)(i j:Bool)(k m n o:Int)(Q:aM)(w:World)
theorem az.j11:(a8 none [] prog 148 az.k (dW (cS (bB (lB (bB (aZ (body f97))))))) az.u1 (aP 1 az.u1 Q) [(0,.slice a b c),(1,.int .i64 d),(2,.int .i64 e),(3,.int .i64 f),(4,CL aX g),(10,.bool i),(11,.bool j),(16,.int .i64 k),(18,.int .i64 m),(19,.int .i64 n),(20,.int .i64 o)] w)=az.Xd aX a b c d e f g i j k m n o Q w:=by cases aX<;>kernel_rfl
variable{aX a b c d e f g i j k m n o Q w}
theorem az.Ke(h:az.Xd aX a b c d e f g i j k m n o Q w):Holds none [] prog 148 (dW (cS (bB (lB (bB (aZ (body f97))))))) (aP 1 az.u1 Q) [(0,.slice a b c),(1,.int .i64 d),(2,.int .i64 e),(3,.int .i64 f),(4,CL aX g),(10,.bool i),(11,.bool j),(16,.int .i64 k),(18,.int .i64 m),(19,.int .i64 n),(20,.int .i64 o)] w:=
 cJ (C:=az.k) ng mix (az.j11 aX a b c d e f g i j k m n o Q w) h
end
section
variable(aX:Bool)(a:OA)(b c:Nat)(d e f:Int)(g:OA)(i j:Bool)(k:Int)(Q:aM)(w:World)
def az.Xc:Prop:=
 bf prog 97 #[.slice a b c,.int .i64 d,.int .i64 k,.int .i64 f,CL aX g] w fun m n=>m=.tuple #[]/\Holds none [] prog 148 (aZ (cT (dW (cS (sR (bB (lB (bB (aZ (body f97)))))))))) (aP 1 az.u1 Q) [(0,.slice a b c),(1,.int .i64 d),(2,.int .i64 e),(3,.int .i64 f),(4,CL aX g),(10,.bool i),(11,.bool j),(16,.int .i64 k)] n
theorem az.j12:(a8 none [] prog 148 az.k (sR (cT (dW (cS (sR (bB (lB (bB (aZ (body f97)))))))))) az.u1 (aP 1 az.u1 Q) [(0,.slice a b c),(1,.int .i64 d),(2,.int .i64 e),(3,.int .i64 f),(4,CL aX g),(10,.bool i),(11,.bool j),(16,.int .i64 k)] w)=az.Xc aX a b c d e f g i j k Q w:=by cases aX<;>kernel_rfl
variable{aX a b c d e f g i j k Q w}
theorem az.Kc(h:az.Xc aX a b c d e f g i j k Q w):Holds none [] prog 148 (sR (cT (dW (cS (sR (bB (lB (bB (aZ (body f97)))))))))) (aP 1 az.u1 Q) [(0,.slice a b c),(1,.int .i64 d),(2,.int .i64 e),(3,.int .i64 f),(4,CL aX g),(10,.bool i),(11,.bool j),(16,.int .i64 k)] w:=
 cJ (C:=az.k) ng mix (az.j12 aX a b c d e f g i j k Q w) h
end
section
variable(aX:Bool)(a:OA)(b c:Nat)(d e f:Int)(g:OA)(i j:Bool)(k:Int)(Q:aM)(w:World)
def az.Xb:Prop:=
 bf prog 97 #[.slice a b c,.int .i64 (i64.wrap (k+(1:Int))),.int .i64 e,.int .i64 f,CL aX g] w fun m n=>m=.tuple #[]/\Holds none [] prog 148 (aZ (cE (dW (cS (sR (bB (lB (bB (aZ (body f97)))))))))) (aP 1 az.u1 Q) [(0,.slice a b c),(1,.int .i64 d),(2,.int .i64 e),(3,.int .i64 f),(4,CL aX g),(10,.bool i),(11,.bool j),(16,.int .i64 k)] n
theorem az.j13:(a8 none [] prog 148 az.k (sR (cE (dW (cS (sR (bB (lB (bB (aZ (body f97)))))))))) az.u1 (aP 1 az.u1 Q) [(0,.slice a b c),(1,.int .i64 d),(2,.int .i64 e),(3,.int .i64 f),(4,CL aX g),(10,.bool i),(11,.bool j),(16,.int .i64 k)] w)=az.Xb aX a b c d e f g i j k Q w:=by cases aX<;>kernel_rfl
variable{aX a b c d e f g i j k Q w}
theorem az.Kb(h:az.Xb aX a b c d e f g i j k Q w):Holds none [] prog 148 (sR (cE (dW (cS (sR (bB (lB (bB (aZ (body f97)))))))))) (aP 1 az.u1 Q) [(0,.slice a b c),(1,.int .i64 d),(2,.int .i64 e),(3,.int .i64 f),(4,CL aX g),(10,.bool i),(11,.bool j),(16,.int .i64 k)] w:=
 cJ (C:=az.k) ng mix (az.j13 aX a b c d e f g i j k Q w) h
end
section
def az.Xa(aX:Bool)(a:OA)(b c:Nat)(d e f:Int)(g:OA)(i j:Bool)(k:Int)(Q:aM)(w:World):Prop:=
 Q .normal [(0,.slice a b c),(1,.int .i64 (i64.wrap (k+(1:Int)))),(2,.int .i64 e),(3,.int .i64 f),(4,CL aX g),(10,.bool i),(11,.bool j)] w
variable(aX:Bool)(a:OA)(b c:Nat)(d e f:Int)(g:OA)(i j:Bool)(k:Int)(Q:aM)(w:World)
theorem az.j14:(a8 none [] prog 148 az.k (aZ (cT (dW (cS (sR (bB (lB (bB (aZ (body f97)))))))))) az.u1 (aP 1 az.u1 Q) [(0,.slice a b c),(1,.int .i64 d),(2,.int .i64 e),(3,.int .i64 f),(4,CL aX g),(10,.bool i),(11,.bool j),(16,.int .i64 k)] w)=az.Xa aX a b c d e f g i j k Q w:=by cases aX<;>kernel_rfl
variable{aX a b c d e f g i j k Q w}
theorem az.Ka(h:az.Xa aX a b c d e f g i j k Q w):Holds none [] prog 148 (aZ (cT (dW (cS (sR (bB (lB (bB (aZ (body f97)))))))))) (aP 1 az.u1 Q) [(0,.slice a b c),(1,.int .i64 d),(2,.int .i64 e),(3,.int .i64 f),(4,CL aX g),(10,.bool i),(11,.bool j),(16,.int .i64 k)] w:=
 cJ (C:=az.k) ng mix (az.j14 aX a b c d e f g i j k Q w) h
end
section
def az.W9(aX:Bool)(a:OA)(b c:Nat)(d e f:Int)(g:OA)(i j:Bool)(k:Int)(Q:aM)(w:World):Prop:=
 Q .normal [(0,.slice a b c),(1,.int .i64 d),(2,.int .i64 k),(3,.int .i64 f),(4,CL aX g),(10,.bool i),(11,.bool j)] w
variable(aX:Bool)(a:OA)(b c:Nat)(d e f:Int)(g:OA)(i j:Bool)(k:Int)(Q:aM)(w:World)
theorem az.j15:(a8 none [] prog 148 az.k (aZ (cE (dW (cS (sR (bB (lB (bB (aZ (body f97)))))))))) az.u1 (aP 1 az.u1 Q) [(0,.slice a b c),(1,.int .i64 d),(2,.int .i64 e),(3,.int .i64 f),(4,CL aX g),(10,.bool i),(11,.bool j),(16,.int .i64 k)] w)=az.W9 aX a b c d e f g i j k Q w:=by cases aX<;>kernel_rfl
variable{aX a b c d e f g i j k Q w}
theorem az.J0(h:az.W9 aX a b c d e f g i j k Q w):Holds none [] prog 148 (aZ (cE (dW (cS (sR (bB (lB (bB (aZ (body f97)))))))))) (aP 1 az.u1 Q) [(0,.slice a b c),(1,.int .i64 d),(2,.int .i64 e),(3,.int .i64 f),(4,CL aX g),(10,.bool i),(11,.bool j),(16,.int .i64 k)] w:=
 cJ (C:=az.k) ng mix (az.j15 aX a b c d e f g i j k Q w) h
end
def bU.k:List Nat:= []
def bU.q1(K:KT):aM:=(aP 0 (aW f127) (bV prog f127 K))
def bU.e1(aX:Bool)(a:OA)(b c:Nat)(d e:Int)(f:OA)(s:Int):Env:= [(0,.slice a b c),(1,.int .i64 d),(2,.int .i64 e),(3,CL aX f),(8,.int .i64 s)]
def bU.u1:List Nat:= [0,1,2,3,8]
def bU.q2(Q:aM):aM:=(aP 2 (ct (aZ (lB (bB (sR (body f127)))))++bU.u1) (aP 1 (ct (aZ (lB (bB (sR (body f127)))))++bU.u1) (b6 (fun cf w_=>match cutAt bU.k (aZ (lB (bB (sR (body f127)))))with|true=>Holds none [] prog 53 (aZ (lB (bB (sR (body f127))))) Q cf w_|false=>a8 none [] prog 53 bU.k (aZ (lB (bB (sR (body f127))))) bU.u1 Q cf w_) Q)))
def bU.e2(aX:Bool)(a:OA)(b c:Nat)(d e:Int)(f:OA)(g s:Int):Env:= [(0,.slice a b c),(1,.int .i64 d),(2,.int .i64 e),(3,CL aX f),(8,.int .i64 g),(9,.int .i64 s)]
def bU.u2:List Nat:= [0,1,2,3,8,9]
section
variable(aX:Bool)(a:OA)(b d:Nat)(e f:Int)(g:OA)(K:KT)(w:World)
def bU.W:Prop:=
 Holds none [] prog 53 (.loop (lB (bB (sR (body f127))))) (bU.q1 K) [(0,.slice a b d),(1,.int .i64 e),(2,.int .i64 f),(3,CL aX g),(8,.int .i64 (i64.wrap (e+(1:Int))))] w
variable{aX a b d e f g K w}
theorem bU.of(h:bU.W aX a b d e f g K w):bf prog 127 #[.slice a b d,.int .i64 e,.int .i64 f,CL aX g] w K:=
 by cases aX<;>exact rqq func127 (C:=bU.k) h
end
section
variable(aX:Bool)(a:OA)(b c:Nat)(d e:Int)(f:OA)(g:Int)(Q:aM)(w:World)
def bU.B1:Prop:=
 Split (decide (g<e)) (Holds none [] prog 53 (.loop (lB (bB (sR (bB (sL (sR (lB (bB (sR (body f127))))))))))) (bU.q2 Q) [(0,.slice a b c),(1,.int .i64 d),(2,.int .i64 e),(3,CL aX f),(8,.int .i64 g),(9,.int .i64 g)] w) (Q (.exit 0) [(0,.slice a b c),(1,.int .i64 d),(2,.int .i64 e),(3,CL aX f),(8,.int .i64 g)] w)
theorem bU.b1:(a8 none [] prog 53 bU.k (lB (bB (sR (body f127)))) bU.u1 Q [(0,.slice a b c),(1,.int .i64 d),(2,.int .i64 e),(3,CL aX f),(8,.int .i64 g)] w)=bU.B1 aX a b c d e f g Q w:=by cases aX<;>kernel_rfl
variable{aX a b c d e f}
theorem bU.b9(I:Int->World->Prop)(μ:Int->World->Nat)(s:Int){Q:aM}{w:World}(h0:I s w)
 (round:∀s w,I s w->bU.B1 aX a b c d e f s (bS (bU.e1 aX a b c d e f) I μ s w Q) w):Holds none [] prog 53 (.loop (lB (bB (sR (body f127))))) Q (bU.e1 aX a b c d e f s) w:=
 br ng mix (bU.e1 aX a b c d e f) I μ bU.k bU.u1 s (fun s Q w=>bU.B1 aX a b c d e f s Q w) (fun s Q w=>bU.b1 aX a b c d e f s Q w) h0 round
end
section
def bU.cU(a:OA)(b c:Nat)(d e:Int)(f:OA)(g:Int)(K:KT)(w:World):Prop:=
 K (.tuple #[]) w
variable(aX:Bool)(a:OA)(b c:Nat)(d e:Int)(f:OA)(g:Int)(K:KT)(w:World)
theorem bU.dw:(bU.q1 K (.exit 0) [(0,.slice a b c),(1,.int .i64 d),(2,.int .i64 e),(3,CL aX f),(8,.int .i64 g)] w)=bU.cU a b c d e f g K w:=by cases aX<;>kernel_rfl
end
section
variable(aX:Bool)(a:OA)(b c:Nat)(d e:Int)(f:OA)(g i:Int)(Q:aM)(w:World)
def bU.B2:Prop:=
 let j:=w.drew;Split (decide (i>d)) ((0<=i/\i<(b:Int))/\Is a fun k:Addr=>∃m:AV,(m.size=32/\Cells j (k.add (i.toNat*32)) m)/\(0<=(i64.wrap (i-(1:Int)))/\(i64.wrap (i-(1:Int)))<(b:Int))/\Is a fun n:Addr=>∃o:AV,(o.size=32/\Cells j (n.add ((i64.wrap (i-(1:Int))).toNat*32)) o)/\bf prog (CF aX) (CA aX f m o) j fun p q=>∃r:Int,p=.int .i64 r/\Split (decide (r<(0:Int))) (let t:=q.drew;(0<=(i64.wrap (i-(1:Int)))/\(i64.wrap (i-(1:Int)))<(b:Int))/\Is a fun u:Addr=>∃v:AV,(v.size=32/\Cells t (u.add ((i64.wrap (i-(1:Int))).toNat*32)) v)/\(0<=i/\i<(b:Int))/\Is a fun x:Addr=>∃y:AV,(y.size=32/\Cells t (x.add (i.toNat*32)) y)/\(0<=i/\i<(b:Int))/\Is a fun z:Addr=>(v.size=32/\(∀a1∈v.toList,a1.oneCell'=true)/\∀b1,b1<32->Wr t ((z.add (i.toNat*32)).add b1))/\let c1:=setCells t (z.add (i.toNat*32)) v.toList 0;(0<=(i64.wrap (i-(1:Int)))/\(i64.wrap (i-(1:Int)))<(b:Int))/\Is a fun d1:Addr=>(y.size=32/\(∀e1∈y.toList,e1.oneCell'=true)/\∀f1,f1<32->Wr c1 ((d1.add ((i64.wrap (i-(1:Int))).toNat*32)).add f1))/\let g1:=setCells c1 (d1.add ((i64.wrap (i-(1:Int))).toNat*32)) y.toList 0;Q .normal [(0,.slice a b c),(1,.int .i64 d),(2,.int .i64 e),(3,CL aX f),(8,.int .i64 g),(9,.int .i64 (i64.wrap (i-(1:Int))))] g1) (Q (.exit 2) [(0,.slice a b c),(1,.int .i64 d),(2,.int .i64 e),(3,CL aX f),(8,.int .i64 g),(9,.int .i64 i)] q)) (Q (.exit 2) [(0,.slice a b c),(1,.int .i64 d),(2,.int .i64 e),(3,CL aX f),(8,.int .i64 g),(9,.int .i64 i)] j)
theorem bU.b2:(a8 none [] prog 53 bU.k (lB (bB (sR (bB (sL (sR (lB (bB (sR (body f127)))))))))) bU.u2 Q [(0,.slice a b c),(1,.int .i64 d),(2,.int .i64 e),(3,CL aX f),(8,.int .i64 g),(9,.int .i64 i)] w)=bU.B2 aX a b c d e f g i Q w:=by cases aX<;>kernel_rfl
variable{aX a b c d e f g}
theorem bU.iK(I:Int->World->Prop)(μ:Int->World->Nat)(s:Int){Q:aM}{w:World}(h0:I s w)
 (round:∀s w,I s w->bU.B2 aX a b c d e f g s (bS (bU.e2 aX a b c d e f g) I μ s w Q) w):Holds none [] prog 53 (.loop (lB (bB (sR (bB (sL (sR (lB (bB (sR (body f127))))))))))) Q (bU.e2 aX a b c d e f g s) w:=
 br ng mix (bU.e2 aX a b c d e f g) I μ bU.k bU.u2 s (fun s Q w=>bU.B2 aX a b c d e f g s Q w) (fun s Q w=>bU.b2 aX a b c d e f g s Q w) h0 round
end
section
def bU.jX(aX:Bool)(a:OA)(b c:Nat)(d e:Int)(f:OA)(g i:Int)(Q:aM)(w:World):Prop:=
 Q .normal [(0,.slice a b c),(1,.int .i64 d),(2,.int .i64 e),(3,CL aX f),(8,.int .i64 (i64.wrap (g+(1:Int))))] w
variable(aX:Bool)(a:OA)(b c:Nat)(d e:Int)(f:OA)(g i:Int)(Q:aM)(w:World)
theorem bU.lI:(bU.q2 Q (.exit 2) [(0,.slice a b c),(1,.int .i64 d),(2,.int .i64 e),(3,CL aX f),(8,.int .i64 g),(9,.int .i64 i)] w)=bU.jX aX a b c d e f g i Q w:=by cases aX<;>kernel_rfl
end
def bM.k:List Nat:= []
def bM.q1(K:KT):aM:=(aP 0 (ct (cS (body f128))++(aW f128)) (b6 (fun cf w_=>match cutAt bM.k (cS (body f128))with|true=>Holds none [] prog 60 (cS (body f128)) (bV prog f128 K) cf w_|false=>a8 none [] prog 60 bM.k (cS (body f128)) (aW f128) (bV prog f128 K) cf w_) (bV prog f128 K)))
def bM.e1(aX:Bool)(a:OA)(b c:Nat)(d:OA)(e f g s:Int):Env:= [(0,.slice a b c),(3,CL aX d),(8,.int .i64 e),(9,.int .i64 f),(10,.int .i64 g),(11,.int .i64 s)]
def bM.u1:List Nat:= [0,3,8,9,10,11]
def bM.q2(K:KT):aM:=(aP 2 (aW f128) (bV prog f128 K))
def bM.e2(aX:Bool)(a:OA)(b c:Nat)(d:OA)(e f s:Int):Env:= [(0,.slice a b c),(3,CL aX d),(8,.int .i64 e),(9,.int .i64 f),(12,.int .i64 s)]
def bM.u2:List Nat:= [0,3,8,9,12]
section
variable(aX:Bool)(a:OA)(b d:Nat)(e f:Int)(g:OA)(K:KT)(w:World)
def bM.W:Prop:=
 (2:Int)≠0/\Holds none [] prog 60 (.loop (lB (bB (sR (sL (aZ (sR (body f128)))))))) (bM.q1 K) [(0,.slice a b d),(3,CL aX g),(8,.int .i64 e),(9,.int .i64 0),(10,.int .i64 (i64.wrap (f-e))),(11,.int .i64 (i64.wrap ((i64.wrap ((i64.wrap (f-e))-(1:Int))).tdiv (2:Int))))] w
variable{aX a b d e f g K w}
theorem bM.of(h:bM.W aX a b d e f g K w):bf prog 128 #[.slice a b d,.int .i64 e,.int .i64 f,CL aX g] w K:=
 by cases aX<;>exact rqq func128 (C:=bM.k) h
end
section
variable(aX:Bool)(a:OA)(b c:Nat)(d:OA)(e f g i:Int)(Q:aM)(w:World)
def bM.B1:Prop:=
 Split (decide (i>=(0:Int))) (bf prog 152 #[.slice a b c,.int .i64 i,.int .i64 g,.int .i64 e,CL aX d] w fun j k=>j=.tuple #[]/\Q .normal [(0,.slice a b c),(3,CL aX d),(8,.int .i64 e),(9,.int .i64 f),(10,.int .i64 g),(11,.int .i64 (i64.wrap (i-(1:Int))))] k) (Q (.exit 0) [(0,.slice a b c),(3,CL aX d),(8,.int .i64 e),(9,.int .i64 f),(10,.int .i64 g),(11,.int .i64 i)] w)
theorem bM.b1:(a8 none [] prog 60 bM.k (lB (bB (sR (sL (aZ (sR (body f128))))))) bM.u1 Q [(0,.slice a b c),(3,CL aX d),(8,.int .i64 e),(9,.int .i64 f),(10,.int .i64 g),(11,.int .i64 i)] w)=bM.B1 aX a b c d e f g i Q w:=by cases aX<;>kernel_rfl
variable{aX a b c d e f g}
theorem bM.b9(I:Int->World->Prop)(μ:Int->World->Nat)(s:Int){Q:aM}{w:World}(h0:I s w)
 (round:∀s w,I s w->bM.B1 aX a b c d e f g s (bS (bM.e1 aX a b c d e f g) I μ s w Q) w):Holds none [] prog 60 (.loop (lB (bB (sR (sL (aZ (sR (body f128)))))))) Q (bM.e1 aX a b c d e f g s) w:=
 br ng mix (bM.e1 aX a b c d e f g) I μ bM.k bM.u1 s (fun s Q w=>bM.B1 aX a b c d e f g s Q w) (fun s Q w=>bM.b1 aX a b c d e f g s Q w) h0 round
end
section
def bM.cU(aX:Bool)(a:OA)(b c:Nat)(d:OA)(e f g i:Int)(K:KT)(w:World):Prop:=
 Holds none [] prog 60 (.loop (lB (bB (cS (sR (body f128)))))) (bM.q2 K) [(0,.slice a b c),(3,CL aX d),(8,.int .i64 e),(9,.int .i64 f),(12,.int .i64 (i64.wrap (g-(1:Int))))] w
variable(aX:Bool)(a:OA)(b c:Nat)(d:OA)(e f g i:Int)(K:KT)(w:World)
theorem bM.dw:(bM.q1 K (.exit 0) [(0,.slice a b c),(3,CL aX d),(8,.int .i64 e),(9,.int .i64 f),(10,.int .i64 g),(11,.int .i64 i)] w)=bM.cU aX a b c d e f g i K w:=by cases aX<;>kernel_rfl
end
section
variable(aX:Bool)(a:OA)(b c:Nat)(d:OA)(e f g:Int)(Q:aM)(w:World)
def bM.B2:Prop:=
 Split (decide (g>=(0:Int))) (let i:=w.drew;(0<=(i64.wrap (e+g))/\(i64.wrap (e+g))<(b:Int))/\Is a fun j:Addr=>∃k:AV,(k.size=32/\Cells i (j.add ((i64.wrap (e+g)).toNat*32)) k)/\(0<=e/\e<(b:Int))/\Is a fun m:Addr=>∃n:AV,(n.size=32/\Cells i (m.add (e.toNat*32)) n)/\(0<=e/\e<(b:Int))/\Is a fun o:Addr=>(k.size=32/\(∀p∈k.toList,p.oneCell'=true)/\∀q,q<32->Wr i ((o.add (e.toNat*32)).add q))/\let r:=setCells i (o.add (e.toNat*32)) k.toList 0;(0<=(i64.wrap (e+g))/\(i64.wrap (e+g))<(b:Int))/\Is a fun t:Addr=>(n.size=32/\(∀u∈n.toList,u.oneCell'=true)/\∀v,v<32->Wr r ((t.add ((i64.wrap (e+g)).toNat*32)).add v))/\let x:=setCells r (t.add ((i64.wrap (e+g)).toNat*32)) n.toList 0;bf prog 152 #[.slice a b c,.int .i64 f,.int .i64 g,.int .i64 e,CL aX d] x fun y z=>y=.tuple #[]/\Q .normal [(0,.slice a b c),(3,CL aX d),(8,.int .i64 e),(9,.int .i64 f),(12,.int .i64 (i64.wrap (g-(1:Int))))] z) (Q (.exit 2) [(0,.slice a b c),(3,CL aX d),(8,.int .i64 e),(9,.int .i64 f),(12,.int .i64 g)] w)
theorem bM.b2:(a8 none [] prog 60 bM.k (lB (bB (cS (sR (body f128))))) bM.u2 Q [(0,.slice a b c),(3,CL aX d),(8,.int .i64 e),(9,.int .i64 f),(12,.int .i64 g)] w)=bM.B2 aX a b c d e f g Q w:=by cases aX<;>kernel_rfl
variable{aX a b c d e f}
theorem bM.iK(I:Int->World->Prop)(μ:Int->World->Nat)(s:Int){Q:aM}{w:World}(h0:I s w)
 (round:∀s w,I s w->bM.B2 aX a b c d e f s (bS (bM.e2 aX a b c d e f) I μ s w Q) w):Holds none [] prog 60 (.loop (lB (bB (cS (sR (body f128)))))) Q (bM.e2 aX a b c d e f s) w:=
 br ng mix (bM.e2 aX a b c d e f) I μ bM.k bM.u2 s (fun s Q w=>bM.B2 aX a b c d e f s Q w) (fun s Q w=>bM.b2 aX a b c d e f s Q w) h0 round
end
section
def bM.jX(a:OA)(b c:Nat)(d:OA)(e f g:Int)(K:KT)(w:World):Prop:=
 K (.tuple #[]) w
variable(aX:Bool)(a:OA)(b c:Nat)(d:OA)(e f g:Int)(K:KT)(w:World)
theorem bM.lI:(bM.q2 K (.exit 2) [(0,.slice a b c),(3,CL aX d),(8,.int .i64 e),(9,.int .i64 f),(12,.int .i64 g)] w)=bM.jX a b c d e f g K w:=by cases aX<;>kernel_rfl
end
def dD.k:List Nat:= []
def dD.q1(K:KT):aM:=(aP 0 (aW Tryz.f129) (bV prog Tryz.f129 K))
def dD.e1(a:OA)(b c:Nat)(d e:Int)(f:Addr)(g s:Int):Env:= [(0,.slice a b c),(1,.int .i64 d),(8,.int .i64 e),(9,.pointer (some f)),(10,.int .u64 g),(11,.int .i64 s)]
def dD.u1:List Nat:= [0,1,8,9,10,11]
section
def dD.W(a:OA)(b d:Nat)(e f:Int)(g:OA)(K:KT)(w:World):Prop:=
 Split (decide ((i64.wrap (f-e))>=(8:Int))) (let i:=w.alloc (.cells (#[.int .u64 0]:AV) 204);Wr i (aU w.heap.size)/\let j:=i.setCell (aU w.heap.size) (.int .u64 (u64.wrap (i64.wrap (f-e))));bf prog 153 #[.int .i64 (i64.wrap (f-e))] j fun k m=>∃n:Int,k=.int .u64 n/\(4:Int)≠0/\Holds none [] prog 67 (.loop (lB (bB (aZ (sR (cT (aZ (body Tryz.f129)))))))) (dD.q1 K) [(0,.slice a b d),(1,.int .i64 e),(8,.int .i64 (i64.wrap (f-e))),(9,.pointer (some (aU w.heap.size))),(10,.int .u64 n),(11,.int .i64 (i64.wrap ((i64.wrap (e+(i64.wrap ((i64.wrap ((i64.wrap (f-e)).tdiv (4:Int)))*(2:Int)))))-(1:Int))))] m) (K (.tuple #[]) w)
variable(aX:Bool)(a:OA)(b d:Nat)(e f:Int)(g:OA)(K:KT)(w:World)
variable{aX a b d e f g K w}
theorem dD.of(h:dD.W a b d e f g K w):bf prog 129 #[.slice a b d,.int .i64 e,.int .i64 f,CL aX g] w K:=
 by cases aX<;>exact rqq func129 (C:=dD.k) h
end
section
variable(aX:Bool)(a:OA)(b c:Nat)(d e:Int)(f:Addr)(g i:Int)(Q:aM)(w:World)
def dD.B1:Prop:=
 (4:Int)≠0/\Split (decide (i<=(i64.wrap ((i64.wrap (d+(i64.wrap ((i64.wrap (e.tdiv (4:Int)))*(2:Int)))))+(1:Int))))) (bf prog 154 #[.pointer (some f)] w fun j k=>∃m:Int,j=.int .u64 m/\Split (decide ((i64.wrap (u64.wrap ((BitVec.ofInt 64 m&&& BitVec.ofInt 64 (u64.wrap (g-(1:Int)))).toNat)))>=e)) (let n:=k.drew;(0<=(i64.wrap (d+(i64.wrap ((i64.wrap (u64.wrap ((BitVec.ofInt 64 m&&& BitVec.ofInt 64 (u64.wrap (g-(1:Int)))).toNat)))-e))))/\(i64.wrap (d+(i64.wrap ((i64.wrap (u64.wrap ((BitVec.ofInt 64 m&&& BitVec.ofInt 64 (u64.wrap (g-(1:Int)))).toNat)))-e))))<(b:Int))/\Is a fun o:Addr=>∃p:AV,(p.size=32/\Cells n (o.add ((i64.wrap (d+(i64.wrap ((i64.wrap (u64.wrap ((BitVec.ofInt 64 m&&& BitVec.ofInt 64 (u64.wrap (g-(1:Int)))).toNat)))-e)))).toNat*32)) p)/\(0<=i/\i<(b:Int))/\Is a fun q:Addr=>∃r:AV,(r.size=32/\Cells n (q.add (i.toNat*32)) r)/\(0<=i/\i<(b:Int))/\Is a fun t:Addr=>(p.size=32/\(∀u∈p.toList,u.oneCell'=true)/\∀v,v<32->Wr n ((t.add (i.toNat*32)).add v))/\let x:=setCells n (t.add (i.toNat*32)) p.toList 0;(0<=(i64.wrap (d+(i64.wrap ((i64.wrap (u64.wrap ((BitVec.ofInt 64 m&&& BitVec.ofInt 64 (u64.wrap (g-(1:Int)))).toNat)))-e))))/\(i64.wrap (d+(i64.wrap ((i64.wrap (u64.wrap ((BitVec.ofInt 64 m&&& BitVec.ofInt 64 (u64.wrap (g-(1:Int)))).toNat)))-e))))<(b:Int))/\Is a fun y:Addr=>(r.size=32/\(∀z∈r.toList,z.oneCell'=true)/\∀a1,a1<32->Wr x ((y.add ((i64.wrap (d+(i64.wrap ((i64.wrap (u64.wrap ((BitVec.ofInt 64 m&&& BitVec.ofInt 64 (u64.wrap (g-(1:Int)))).toNat)))-e)))).toNat*32)).add a1))/\let b1:=setCells x (y.add ((i64.wrap (d+(i64.wrap ((i64.wrap (u64.wrap ((BitVec.ofInt 64 m&&& BitVec.ofInt 64 (u64.wrap (g-(1:Int)))).toNat)))-e)))).toNat*32)) r.toList 0;Q .normal [(0,.slice a b c),(1,.int .i64 d),(8,.int .i64 e),(9,.pointer (some f)),(10,.int .u64 g),(11,.int .i64 (i64.wrap (i+(1:Int))))] b1) (let c1:=k.drew;(0<=(i64.wrap (d+(i64.wrap (u64.wrap ((BitVec.ofInt 64 m&&& BitVec.ofInt 64 (u64.wrap (g-(1:Int)))).toNat)))))/\(i64.wrap (d+(i64.wrap (u64.wrap ((BitVec.ofInt 64 m&&& BitVec.ofInt 64 (u64.wrap (g-(1:Int)))).toNat)))))<(b:Int))/\Is a fun d1:Addr=>∃e1:AV,(e1.size=32/\Cells c1 (d1.add ((i64.wrap (d+(i64.wrap (u64.wrap ((BitVec.ofInt 64 m&&& BitVec.ofInt 64 (u64.wrap (g-(1:Int)))).toNat))))).toNat*32)) e1)/\(0<=i/\i<(b:Int))/\Is a fun f1:Addr=>∃g1:AV,(g1.size=32/\Cells c1 (f1.add (i.toNat*32)) g1)/\(0<=i/\i<(b:Int))/\Is a fun i1:Addr=>(e1.size=32/\(∀j1∈e1.toList,j1.oneCell'=true)/\∀k1,k1<32->Wr c1 ((i1.add (i.toNat*32)).add k1))/\let m1:=setCells c1 (i1.add (i.toNat*32)) e1.toList 0;(0<=(i64.wrap (d+(i64.wrap (u64.wrap ((BitVec.ofInt 64 m&&& BitVec.ofInt 64 (u64.wrap (g-(1:Int)))).toNat)))))/\(i64.wrap (d+(i64.wrap (u64.wrap ((BitVec.ofInt 64 m&&& BitVec.ofInt 64 (u64.wrap (g-(1:Int)))).toNat)))))<(b:Int))/\Is a fun n1:Addr=>(g1.size=32/\(∀o1∈g1.toList,o1.oneCell'=true)/\∀p1,p1<32->Wr m1 ((n1.add ((i64.wrap (d+(i64.wrap (u64.wrap ((BitVec.ofInt 64 m&&& BitVec.ofInt 64 (u64.wrap (g-(1:Int)))).toNat))))).toNat*32)).add p1))/\let q1:=setCells m1 (n1.add ((i64.wrap (d+(i64.wrap (u64.wrap ((BitVec.ofInt 64 m&&& BitVec.ofInt 64 (u64.wrap (g-(1:Int)))).toNat))))).toNat*32)) g1.toList 0;Q .normal [(0,.slice a b c),(1,.int .i64 d),(8,.int .i64 e),(9,.pointer (some f)),(10,.int .u64 g),(11,.int .i64 (i64.wrap (i+(1:Int))))] q1)) (Q (.exit 0) [(0,.slice a b c),(1,.int .i64 d),(8,.int .i64 e),(9,.pointer (some f)),(10,.int .u64 g),(11,.int .i64 i)] w)
theorem dD.b1:(a8 none [] prog 67 dD.k (lB (bB (aZ (sR (cT (aZ (body Tryz.f129))))))) dD.u1 Q [(0,.slice a b c),(1,.int .i64 d),(8,.int .i64 e),(9,.pointer (some f)),(10,.int .u64 g),(11,.int .i64 i)] w)=dD.B1 a b c d e f g i Q w:=by kernel_rfl
variable{aX a b c d e f g}
theorem dD.b9(I:Int->World->Prop)(μ:Int->World->Nat)(s:Int){Q:aM}{w:World}(h0:I s w)
 (round:∀s w,I s w->dD.B1 a b c d e f g s (bS (dD.e1 a b c d e f g) I μ s w Q) w):Holds none [] prog 67 (.loop (lB (bB (aZ (sR (cT (aZ (body Tryz.f129)))))))) Q (dD.e1 a b c d e f g s) w:=
 br ng mix (dD.e1 a b c d e f g) I μ dD.k dD.u1 s (fun s Q w=>dD.B1 a b c d e f g s Q w) (fun s Q w=>dD.b1 a b c d e f g s Q w) h0 round
end
section
def dD.cU(a:OA)(b c:Nat)(d e:Int)(f:Addr)(g i:Int)(K:KT)(w:World):Prop:=
 K (.tuple #[]) w
variable(aX:Bool)(a:OA)(b c:Nat)(d e:Int)(f:Addr)(g i:Int)(K:KT)(w:World)
theorem dD.dw:(dD.q1 K (.exit 0) [(0,.slice a b c),(1,.int .i64 d),(8,.int .i64 e),(9,.pointer (some f)),(10,.int .u64 g),(11,.int .i64 i)] w)=dD.cU a b c d e f g i K w:=by kernel_rfl
end
def p8.k:List Nat:= []
section
variable(aX:Bool)(a:OA)(b d:Nat)(e f:Int)(g:OA)(K:KT)(w:World)
def p8.W:Prop:=
 let i:=w.alloc (.cells (#[.int .i64 0]:AV) 3);(4:Int)≠0/\(4:Int)≠0/\(4:Int)≠0/\Split (decide ((i64.wrap (f-e))>=(8:Int))) (Split (decide ((i64.wrap (f-e))>=(50:Int))) (bf prog 155 #[.slice a b d,.int .i64 (i64.wrap (e+(i64.wrap ((i64.wrap ((i64.wrap (f-e)).tdiv (4:Int)))*(1:Int))))),.pointer (some (aU w.heap.size)),CL aX g] i fun j k=>∃m:Int,j=.int .i64 m/\bf prog 155 #[.slice a b d,.int .i64 (i64.wrap (e+(i64.wrap ((i64.wrap ((i64.wrap (f-e)).tdiv (4:Int)))*(2:Int))))),.pointer (some (aU w.heap.size)),CL aX g] k fun n o=>∃p:Int,n=.int .i64 p/\bf prog 155 #[.slice a b d,.int .i64 (i64.wrap (e+(i64.wrap ((i64.wrap ((i64.wrap (f-e)).tdiv (4:Int)))*(3:Int))))),.pointer (some (aU w.heap.size)),CL aX g] o fun q r=>∃t:Int,q=.int .i64 t/\bf prog 156 #[.slice a b d,.int .i64 m,.int .i64 p,.int .i64 t,.pointer (some (aU w.heap.size)),CL aX g] r fun u v=>∃x:Int,u=.int .i64 x/\∃y:Int,v.cell? (aU w.heap.size)=some (.int .i64 y)/\Split (y==(0:Int)) (K (.tuple #[.int .i64 x,.int .i64 1]) v) (Split (y==(12:Int)) (K (.tuple #[.int .i64 x,.int .i64 2]) v) (K (.tuple #[.int .i64 x,.int .i64 0]) v))) (bf prog 156 #[.slice a b d,.int .i64 (i64.wrap (e+(i64.wrap ((i64.wrap ((i64.wrap (f-e)).tdiv (4:Int)))*(1:Int))))),.int .i64 (i64.wrap (e+(i64.wrap ((i64.wrap ((i64.wrap (f-e)).tdiv (4:Int)))*(2:Int))))),.int .i64 (i64.wrap (e+(i64.wrap ((i64.wrap ((i64.wrap (f-e)).tdiv (4:Int)))*(3:Int))))),.pointer (some (aU w.heap.size)),CL aX g] i fun z a1=>∃b1:Int,z=.int .i64 b1/\∃c1:Int,a1.cell? (aU w.heap.size)=some (.int .i64 c1)/\Split (c1==(0:Int)) (K (.tuple #[.int .i64 b1,.int .i64 1]) a1) (Split (c1==(12:Int)) (K (.tuple #[.int .i64 b1,.int .i64 2]) a1) (K (.tuple #[.int .i64 b1,.int .i64 0]) a1)))) (∃d1:Int,i.cell? (aU w.heap.size)=some (.int .i64 d1)/\Split (d1==(0:Int)) (K (.tuple #[.int .i64 (i64.wrap (e+(i64.wrap ((i64.wrap ((i64.wrap (f-e)).tdiv (4:Int)))*(2:Int))))),.int .i64 1]) i) (Split (d1==(12:Int)) (K (.tuple #[.int .i64 (i64.wrap (e+(i64.wrap ((i64.wrap ((i64.wrap (f-e)).tdiv (4:Int)))*(2:Int))))),.int .i64 2]) i) (K (.tuple #[.int .i64 (i64.wrap (e+(i64.wrap ((i64.wrap ((i64.wrap (f-e)).tdiv (4:Int)))*(2:Int))))),.int .i64 0]) i)))
variable{aX a b d e f g K w}
theorem p8.of(h:p8.W aX a b d e f g K w):bf prog 130 #[.slice a b d,.int .i64 e,.int .i64 f,CL aX g] w K:=
 by cases aX<;>exact rqq func130 (C:=p8.k) h
end
def dC.k:List Nat:= []
def dC.q1(K:KT):aM:=(aP 0 (aW f131) (bV prog f131 K))
def dC.e1(a:OA)(b c:Nat)(s:Int×Int):Env:= [(0,.slice a b c),(8,.int .i64 s.1),(9,.int .i64 s.2)]
def dC.u1:List Nat:= [0,8,9]
section
def dC.W(a:OA)(b d:Nat)(e f:Int)(g:OA)(K:KT)(w:World):Prop:=
 Holds none [] prog 34 (.loop (lB (bB (aZ (body f131))))) (dC.q1 K) [(0,.slice a b d),(8,.int .i64 e),(9,.int .i64 (i64.wrap (f-(1:Int))))] w
variable(aX:Bool)(a:OA)(b d:Nat)(e f:Int)(g:OA)(K:KT)(w:World)
variable{aX a b d e f g K w}
theorem dC.of(h:dC.W a b d e f g K w):bf prog 131 #[.slice a b d,.int .i64 e,.int .i64 f,CL aX g] w K:=
 by cases aX<;>exact rqq func131 (C:=dC.k) h
end
section
variable(aX:Bool)(a:OA)(b c:Nat)(d e:Int)(Q:aM)(w:World)
def dC.B1:Prop:=
 Split (decide (d<e)) (let f:=w.drew;(0<=e/\e<(b:Int))/\Is a fun g:Addr=>∃i:AV,(i.size=32/\Cells f (g.add (e.toNat*32)) i)/\(0<=d/\d<(b:Int))/\Is a fun j:Addr=>∃k:AV,(k.size=32/\Cells f (j.add (d.toNat*32)) k)/\(0<=d/\d<(b:Int))/\Is a fun m:Addr=>(i.size=32/\(∀n∈i.toList,n.oneCell'=true)/\∀o,o<32->Wr f ((m.add (d.toNat*32)).add o))/\let p:=setCells f (m.add (d.toNat*32)) i.toList 0;(0<=e/\e<(b:Int))/\Is a fun q:Addr=>(k.size=32/\(∀r∈k.toList,r.oneCell'=true)/\∀t,t<32->Wr p ((q.add (e.toNat*32)).add t))/\let u:=setCells p (q.add (e.toNat*32)) k.toList 0;Q .normal [(0,.slice a b c),(8,.int .i64 (i64.wrap (d+(1:Int)))),(9,.int .i64 (i64.wrap (e-(1:Int))))] u) (Q (.exit 0) [(0,.slice a b c),(8,.int .i64 d),(9,.int .i64 e)] w)
theorem dC.b1:(a8 none [] prog 34 dC.k (lB (bB (aZ (body f131)))) dC.u1 Q [(0,.slice a b c),(8,.int .i64 d),(9,.int .i64 e)] w)=dC.B1 a b c d e Q w:=by kernel_rfl
variable{aX a b c}
theorem dC.b9(I:Int×Int->World->Prop)(μ:Int×Int->World->Nat)(s:Int×Int){Q:aM}{w:World}(h0:I s w)
 (round:∀s w,I s w->dC.B1 a b c (s.1) (s.2) (bS (dC.e1 a b c) I μ s w Q) w):Holds none [] prog 34 (.loop (lB (bB (aZ (body f131))))) Q (dC.e1 a b c s) w:=
 br ng mix (dC.e1 a b c) I μ dC.k dC.u1 s (fun s Q w=>dC.B1 a b c (s.1) (s.2) Q w) (fun s Q w=>dC.b1 a b c (s.1) (s.2) Q w) h0 round
end
section
def dC.cU(a:OA)(b c:Nat)(d e:Int)(K:KT)(w:World):Prop:=
 K (.tuple #[]) w
variable(aX:Bool)(a:OA)(b c:Nat)(d e:Int)(K:KT)(w:World)
theorem dC.dw:(dC.q1 K (.exit 0) [(0,.slice a b c),(8,.int .i64 d),(9,.int .i64 e)] w)=dC.cU a b c d e K w:=by kernel_rfl
end
def bu.k:List Nat:= []
def bu.q1(K:KT):aM:=(aP 0 (ct (aZ (sR (body f132)))++(aW f132)) (b6 (fun cf w_=>match cutAt bu.k (aZ (sR (body f132)))with|true=>Holds none [] prog 141 (aZ (sR (body f132))) (bV prog f132 K) cf w_|false=>a8 none [] prog 141 bu.k (aZ (sR (body f132))) (aW f132) (bV prog f132 K) cf w_) (bV prog f132 K)))
def bu.e1(aX:Bool)(a:OA)(b c:Nat)(d e:Int)(f:OA)(s:Bool×Int×Int):Env:= [(0,.slice a b c),(1,.int .i64 d),(2,.int .i64 e),(3,CL aX f),(8,.bool s.1),(9,.int .i64 s.2.1),(10,.int .i64 s.2.2)]
def bu.u1:List Nat:= [0,1,2,3,8,9,10]
def bu.q2(Q:aM):aM:=(aP 2 (ct (sR (bB (sL (sR (lB (bB (sR (sL (aZ (body f132))))))))))++(ct (aZ (lB (bB (sR (sL (aZ (body f132)))))))++bu.u1)) (b6 (fun cf w_=>match cutAt bu.k (sR (bB (sL (sR (lB (bB (sR (sL (aZ (body f132))))))))))with|true=>Holds none [] prog 141 (sR (bB (sL (sR (lB (bB (sR (sL (aZ (body f132)))))))))) (aP 1 (ct (aZ (lB (bB (sR (sL (aZ (body f132)))))))++bu.u1) (b6 (fun cf w_=>match cutAt bu.k (aZ (lB (bB (sR (sL (aZ (body f132)))))))with|true=>Holds none [] prog 141 (aZ (lB (bB (sR (sL (aZ (body f132))))))) Q cf w_|false=>a8 none [] prog 141 bu.k (aZ (lB (bB (sR (sL (aZ (body f132))))))) bu.u1 Q cf w_) Q)) cf w_|false=>a8 none [] prog 141 bu.k (sR (bB (sL (sR (lB (bB (sR (sL (aZ (body f132)))))))))) (ct (aZ (lB (bB (sR (sL (aZ (body f132)))))))++bu.u1) (aP 1 (ct (aZ (lB (bB (sR (sL (aZ (body f132)))))))++bu.u1) (b6 (fun cf w_=>match cutAt bu.k (aZ (lB (bB (sR (sL (aZ (body f132)))))))with|true=>Holds none [] prog 141 (aZ (lB (bB (sR (sL (aZ (body f132))))))) Q cf w_|false=>a8 none [] prog 141 bu.k (aZ (lB (bB (sR (sL (aZ (body f132))))))) bu.u1 Q cf w_) Q)) cf w_) (aP 1 (ct (aZ (lB (bB (sR (sL (aZ (body f132)))))))++bu.u1) (b6 (fun cf w_=>match cutAt bu.k (aZ (lB (bB (sR (sL (aZ (body f132)))))))with|true=>Holds none [] prog 141 (aZ (lB (bB (sR (sL (aZ (body f132))))))) Q cf w_|false=>a8 none [] prog 141 bu.k (aZ (lB (bB (sR (sL (aZ (body f132))))))) bu.u1 Q cf w_) Q))))
def bu.e2(aX:Bool)(a:OA)(b c:Nat)(d e:Int)(f:OA)(g:Bool)(i s:Int):Env:= [(0,.slice a b c),(1,.int .i64 d),(2,.int .i64 e),(3,CL aX f),(8,.bool g),(9,.int .i64 s),(10,.int .i64 i)]
def bu.u2:List Nat:= [0,1,2,3,8,9,10]
def bu.q3(Q:aM):aM:=(aP 4 (ct (cS (sR (bB (sL (sR (lB (bB (sR (sL (aZ (body f132)))))))))))++(ct (aZ (lB (bB (sR (sL (aZ (body f132)))))))++bu.u1)) (b6 (fun cf w_=>match cutAt bu.k (cS (sR (bB (sL (sR (lB (bB (sR (sL (aZ (body f132)))))))))))with|true=>Holds none [] prog 141 (cS (sR (bB (sL (sR (lB (bB (sR (sL (aZ (body f132))))))))))) (aP 1 (ct (aZ (lB (bB (sR (sL (aZ (body f132)))))))++bu.u1) (b6 (fun cf w_=>match cutAt bu.k (aZ (lB (bB (sR (sL (aZ (body f132)))))))with|true=>Holds none [] prog 141 (aZ (lB (bB (sR (sL (aZ (body f132))))))) Q cf w_|false=>a8 none [] prog 141 bu.k (aZ (lB (bB (sR (sL (aZ (body f132))))))) bu.u1 Q cf w_) Q)) cf w_|false=>a8 none [] prog 141 bu.k (cS (sR (bB (sL (sR (lB (bB (sR (sL (aZ (body f132))))))))))) (ct (aZ (lB (bB (sR (sL (aZ (body f132)))))))++bu.u1) (aP 1 (ct (aZ (lB (bB (sR (sL (aZ (body f132)))))))++bu.u1) (b6 (fun cf w_=>match cutAt bu.k (aZ (lB (bB (sR (sL (aZ (body f132)))))))with|true=>Holds none [] prog 141 (aZ (lB (bB (sR (sL (aZ (body f132))))))) Q cf w_|false=>a8 none [] prog 141 bu.k (aZ (lB (bB (sR (sL (aZ (body f132))))))) bu.u1 Q cf w_) Q)) cf w_) (aP 1 (ct (aZ (lB (bB (sR (sL (aZ (body f132)))))))++bu.u1) (b6 (fun cf w_=>match cutAt bu.k (aZ (lB (bB (sR (sL (aZ (body f132)))))))with|true=>Holds none [] prog 141 (aZ (lB (bB (sR (sL (aZ (body f132))))))) Q cf w_|false=>a8 none [] prog 141 bu.k (aZ (lB (bB (sR (sL (aZ (body f132))))))) bu.u1 Q cf w_) Q))))
def bu.q4(Q:aM):aM:=(aP 6 (ct (aZ (lB (bB (sR (sL (aZ (body f132)))))))++bu.u1) (aP 1 (ct (aZ (lB (bB (sR (sL (aZ (body f132)))))))++bu.u1) (b6 (fun cf w_=>match cutAt bu.k (aZ (lB (bB (sR (sL (aZ (body f132)))))))with|true=>Holds none [] prog 141 (aZ (lB (bB (sR (sL (aZ (body f132))))))) Q cf w_|false=>a8 none [] prog 141 bu.k (aZ (lB (bB (sR (sL (aZ (body f132))))))) bu.u1 Q cf w_) Q)))
section
variable(aX:Bool)(a:OA)(b d:Nat)(e f:Int)(g:OA)(K:KT)(w:World)
def bu.W:Prop:=
 Holds none [] prog 141 (.loop (lB (bB (sR (sL (aZ (body f132))))))) (bu.q1 K) [(0,.slice a b d),(1,.int .i64 e),(2,.int .i64 f),(3,CL aX g),(8,.bool false),(9,.int .i64 (i64.wrap (e+(1:Int)))),(10,.int .i64 0)] w
variable{aX a b d e f g K w}
theorem bu.of(h:bu.W aX a b d e f g K w):bf prog 132 #[.slice a b d,.int .i64 e,.int .i64 f,CL aX g] w K:=
 by cases aX<;>exact rqq func132 (C:=bu.k) h
end
section
variable(aX:Bool)(a:OA)(b c:Nat)(d e:Int)(f:OA)(g:Bool)(i j:Int)(Q:aM)(w:World)
def bu.B1:Prop:=
 Split (decide (j<(5:Int))) (Holds none [] prog 141 (.loop (lB (bB (sL (bB (sL (sR (lB (bB (sR (sL (aZ (body f132))))))))))))) (bu.q2 Q) [(0,.slice a b c),(1,.int .i64 d),(2,.int .i64 e),(3,CL aX f),(8,.bool g),(9,.int .i64 i),(10,.int .i64 j)] w) (Q (.exit 0) [(0,.slice a b c),(1,.int .i64 d),(2,.int .i64 e),(3,CL aX f),(8,.bool g),(9,.int .i64 i),(10,.int .i64 j)] w)
theorem bu.b1:(a8 none [] prog 141 bu.k (lB (bB (sR (sL (aZ (body f132)))))) bu.u1 Q [(0,.slice a b c),(1,.int .i64 d),(2,.int .i64 e),(3,CL aX f),(8,.bool g),(9,.int .i64 i),(10,.int .i64 j)] w)=bu.B1 aX a b c d e f g i j Q w:=by cases aX<;>kernel_rfl
variable{aX a b c d e f}
theorem bu.b9(I:Bool×Int×Int->World->Prop)(μ:Bool×Int×Int->World->Nat)(s:Bool×Int×Int){Q:aM}{w:World}(h0:I s w)
 (round:∀s w,I s w->bu.B1 aX a b c d e f (s.1) (s.2.1) (s.2.2) (bS (bu.e1 aX a b c d e f) I μ s w Q) w):Holds none [] prog 141 (.loop (lB (bB (sR (sL (aZ (body f132))))))) Q (bu.e1 aX a b c d e f s) w:=
 br ng mix (bu.e1 aX a b c d e f) I μ bu.k bu.u1 s (fun s Q w=>bu.B1 aX a b c d e f (s.1) (s.2.1) (s.2.2) Q w) (fun s Q w=>bu.b1 aX a b c d e f (s.1) (s.2.1) (s.2.2) Q w) h0 round
end
section
variable(aX:Bool)(a:OA)(b c:Nat)(d e:Int)(f:OA)(g:Bool)(i j:Int)(K:KT)(w:World)
end
section
variable(aX:Bool)(a:OA)(b c:Nat)(d e:Int)(f:OA)(g:Bool)(i j:Int)(Q:aM)(w:World)
def bu.B2:Prop:=
 let k:=w.drew;Split (decide (i<e)) ((0<=i/\i<(b:Int))/\Is a fun m:Addr=>∃n:AV,(n.size=32/\Cells k (m.add (i.toNat*32)) n)/\(0<=(i64.wrap (i-(1:Int)))/\(i64.wrap (i-(1:Int)))<(b:Int))/\Is a fun o:Addr=>∃p:AV,(p.size=32/\Cells k (o.add ((i64.wrap (i-(1:Int))).toNat*32)) p)/\bf prog (CF aX) (CA aX f n p) k fun q r=>∃t:Int,q=.int .i64 t/\Split (!(decide (t<(0:Int)))) (Q .normal [(0,.slice a b c),(1,.int .i64 d),(2,.int .i64 e),(3,CL aX f),(8,.bool g),(9,.int .i64 (i64.wrap (i+(1:Int)))),(10,.int .i64 j)] r) (Q (.exit 2) [(0,.slice a b c),(1,.int .i64 d),(2,.int .i64 e),(3,CL aX f),(8,.bool g),(9,.int .i64 i),(10,.int .i64 j)] r)) (Q (.exit 2) [(0,.slice a b c),(1,.int .i64 d),(2,.int .i64 e),(3,CL aX f),(8,.bool g),(9,.int .i64 i),(10,.int .i64 j)] k)
theorem bu.b2:(a8 none [] prog 141 bu.k (lB (bB (sL (bB (sL (sR (lB (bB (sR (sL (aZ (body f132)))))))))))) bu.u2 Q [(0,.slice a b c),(1,.int .i64 d),(2,.int .i64 e),(3,CL aX f),(8,.bool g),(9,.int .i64 i),(10,.int .i64 j)] w)=bu.B2 aX a b c d e f g i j Q w:=by cases aX<;>kernel_rfl
variable{aX a b c d e f g j}
theorem bu.iK(I:Int->World->Prop)(μ:Int->World->Nat)(s:Int){Q:aM}{w:World}(h0:I s w)
 (round:∀s w,I s w->bu.B2 aX a b c d e f g s j (bS (bu.e2 aX a b c d e f g j) I μ s w Q) w):Holds none [] prog 141 (.loop (lB (bB (sL (bB (sL (sR (lB (bB (sR (sL (aZ (body f132))))))))))))) Q (bu.e2 aX a b c d e f g j s) w:=
 br ng mix (bu.e2 aX a b c d e f g j) I μ bu.k bu.u2 s (fun s Q w=>bu.B2 aX a b c d e f g s j Q w) (fun s Q w=>bu.b2 aX a b c d e f g s j Q w) h0 round
end
section
variable(aX:Bool)(a:OA)(b c:Nat)(d e:Int)(f:OA)(g:Bool)(i j:Int)(Q:aM)(w:World)
def bu.jX:Prop:=
 Split (i==e) (Q .ret [(0,.slice a b c),(1,.int .i64 d),(2,.int .i64 e),(3,CL aX f),(8,.bool true),(9,.int .i64 i),(10,.int .i64 j)] w) (Split (decide ((i64.wrap (e-d))<(50:Int))) (Q .ret [(0,.slice a b c),(1,.int .i64 d),(2,.int .i64 e),(3,CL aX f),(8,.bool false),(9,.int .i64 i),(10,.int .i64 j)] w) (let k:=w.drew;(0<=(i64.wrap (i-(1:Int)))/\(i64.wrap (i-(1:Int)))<(b:Int))/\Is a fun m:Addr=>∃n:AV,(n.size=32/\Cells k (m.add ((i64.wrap (i-(1:Int))).toNat*32)) n)/\(0<=i/\i<(b:Int))/\Is a fun o:Addr=>∃p:AV,(p.size=32/\Cells k (o.add (i.toNat*32)) p)/\(0<=i/\i<(b:Int))/\Is a fun q:Addr=>(n.size=32/\(∀r∈n.toList,r.oneCell'=true)/\∀t,t<32->Wr k ((q.add (i.toNat*32)).add t))/\let u:=setCells k (q.add (i.toNat*32)) n.toList 0;(0<=(i64.wrap (i-(1:Int)))/\(i64.wrap (i-(1:Int)))<(b:Int))/\Is a fun v:Addr=>(p.size=32/\(∀x∈p.toList,x.oneCell'=true)/\∀y,y<32->Wr u ((v.add ((i64.wrap (i-(1:Int))).toNat*32)).add y))/\let z:=setCells u (v.add ((i64.wrap (i-(1:Int))).toNat*32)) p.toList 0;Split (decide ((i64.wrap (i-d))>=(2:Int))) (Holds none [] prog 141 (.loop (lB (bB (sR (cT (sR (sL (cS (bB (sL (sR (lB (bB (sR (sL (aZ (body f132))))))))))))))))) (bu.q3 Q) [(0,.slice a b c),(1,.int .i64 d),(2,.int .i64 e),(3,CL aX f),(8,.bool g),(9,.int .i64 i),(10,.int .i64 j),(11,.int .i64 (i64.wrap (i-(1:Int))))] z) (Split (decide ((i64.wrap (e-i))>=(2:Int))) (Holds none [] prog 141 (.loop (lB (bB (sR (cT (cS (aZ (bB (sL (sR (lB (bB (sR (sL (aZ (body f132)))))))))))))))) (bu.q4 Q) [(0,.slice a b c),(1,.int .i64 d),(2,.int .i64 e),(3,CL aX f),(8,.bool g),(9,.int .i64 i),(10,.int .i64 j),(12,.int .i64 (i64.wrap (i+(1:Int))))] z) (Q .normal [(0,.slice a b c),(1,.int .i64 d),(2,.int .i64 e),(3,CL aX f),(8,.bool g),(9,.int .i64 i),(10,.int .i64 (i64.wrap (j+(1:Int))))] z))))
theorem bu.lI:(bu.q2 Q (.exit 2) [(0,.slice a b c),(1,.int .i64 d),(2,.int .i64 e),(3,CL aX f),(8,.bool g),(9,.int .i64 i),(10,.int .i64 j)] w)=bu.jX aX a b c d e f g i j Q w:=by cases aX<;>kernel_rfl
end
section
variable(aX:Bool)(a:OA)(b c:Nat)(d e:Int)(f:OA)(g:Bool)(i j k:Int)(Q:aM)(w:World)
variable{aX a b c d e f g i j}
end
section
variable(aX:Bool)(a:OA)(b c:Nat)(d e:Int)(f:OA)(g:Bool)(i j k:Int)(Q:aM)(w:World)
end
section
variable(aX:Bool)(a:OA)(b c:Nat)(d e:Int)(f:OA)(g:Bool)(i j k:Int)(Q:aM)(w:World)
variable{aX a b c d e f g i j}
end
section
variable(aX:Bool)(a:OA)(b c:Nat)(d e:Int)(f:OA)(g:Bool)(i j k:Int)(Q:aM)(w:World)
end
section
variable(aX:Bool)(a:OA)(b d:Nat)(e f g:Int)(i:OA)(K:KT)(w:World)
variable{aX a b d e f g i K w}
end
section
variable(aX:Bool)(a:OA)(b c:Nat)(d:Int)(e:OA)(f g i:Int)(Q:aM)(w:World)
variable{aX a b c d e f}
end
section
variable(aX:Bool)(a:OA)(b c:Nat)(d:Int)(e:OA)(f g i:Int)(Q:aM)(w:World)
variable{aX a b c d e f i}
end
section
variable(aX:Bool)(a:OA)(b c:Nat)(d:Int)(e:OA)(f g i:Int)(Q:aM)(w:World)
end
section
variable(aX:Bool)(a:OA)(b c:Nat)(d:Int)(e:OA)(f g i:Int)(Q:aM)(w:World)
variable{aX a b c d e f g}
end
section
variable(aX:Bool)(a:OA)(b c:Nat)(d:Int)(e:OA)(f g i:Int)(Q:aM)(w:World)
end
section
variable(aX:Bool)(a:OA)(b c:Nat)(d:Int)(e:OA)(f g i:Int)(K:KT)(w:World)
end
def aN.k:List Nat:= []
def aN.q1(K:KT):aM:=(aP 0 (ct (cS (body f134))++(aW f134)) (b6 (fun cf w_=>match cutAt aN.k (cS (body f134))with|true=>Holds none [] prog 178 (cS (body f134)) (bV prog f134 K) cf w_|false=>a8 none [] prog 178 aN.k (cS (body f134)) (aW f134) (bV prog f134 K) cf w_) (bV prog f134 K)))
def aN.e1(aX:Bool)(a:OA)(b c:Nat)(d:Int)(e:OA)(f g s:Int):Env:= [(0,.slice a b c),(1,.int .i64 d),(4,CL aX e),(10,.int .i64 f),(11,.bool false),(12,.int .i64 s),(13,.int .i64 g)]
def aN.u1:List Nat:= [0,1,4,10,11,12,13]
def aN.q2(K:KT):aM:=(aP 2 (ct (cS (sR (body f134)))++(aW f134)) (b6 (fun cf w_=>match cutAt aN.k (cS (sR (body f134)))with|true=>Holds none [] prog 178 (cS (sR (body f134))) (bV prog f134 K) cf w_|false=>a8 none [] prog 178 aN.k (cS (sR (body f134))) (aW f134) (bV prog f134 K) cf w_) (bV prog f134 K)))
def aN.e2(aX:Bool)(a:OA)(b c:Nat)(d:Int)(e:OA)(f g s:Int):Env:= [(0,.slice a b c),(1,.int .i64 d),(4,CL aX e),(10,.int .i64 f),(11,.bool false),(12,.int .i64 g),(13,.int .i64 s)]
def aN.u2:List Nat:= [0,1,4,10,11,12,13]
def aN.q3(K:KT):aM:=(aP 4 (ct (dW (aZ (body f134)))++(aW f134)) (b6 (fun cf w_=>match cutAt aN.k (dW (aZ (body f134)))with|true=>Holds none [] prog 178 (dW (aZ (body f134))) (bV prog f134 K) cf w_|false=>a8 none [] prog 178 aN.k (dW (aZ (body f134))) (aW f134) (bV prog f134 K) cf w_) (bV prog f134 K)))
def aN.e3(aX:Bool)(a:OA)(b c:Nat)(d:Int)(e:OA)(f:Int)(s:Int×Int):Env:= [(0,.slice a b c),(1,.int .i64 d),(4,CL aX e),(10,.int .i64 f),(11,.bool false),(12,.int .i64 s.1),(13,.int .i64 s.2)]
def aN.u3:List Nat:= [0,1,4,10,11,12,13]
def aN.q4(Q:aM):aM:=(aP 6 (ct (sR (bB (lB (bB (sL (dW (sR (body f134))))))))++aN.u3) (b6 (fun cf w_=>match cutAt aN.k (sR (bB (lB (bB (sL (dW (sR (body f134))))))))with|true=>Holds none [] prog 178 (sR (bB (lB (bB (sL (dW (sR (body f134)))))))) (aP 5 aN.u3 Q) cf w_|false=>a8 none [] prog 178 aN.k (sR (bB (lB (bB (sL (dW (sR (body f134)))))))) aN.u3 (aP 5 aN.u3 Q) cf w_) (aP 5 aN.u3 Q)))
def aN.e4(aX:Bool)(a:OA)(b c:Nat)(d:Int)(e:OA)(f g s:Int):Env:= [(0,.slice a b c),(1,.int .i64 d),(4,CL aX e),(10,.int .i64 f),(11,.bool false),(12,.int .i64 s),(13,.int .i64 g)]
def aN.u4:List Nat:= [0,1,4,10,11,12,13]
def aN.q5(Q:aM):aM:=(aP 8 (ct (aZ (bB (lB (bB (sL (dW (sR (body f134))))))))++aN.u3) (b6 (fun cf w_=>match cutAt aN.k (aZ (bB (lB (bB (sL (dW (sR (body f134))))))))with|true=>Holds none [] prog 178 (aZ (bB (lB (bB (sL (dW (sR (body f134)))))))) (aP 5 aN.u3 Q) cf w_|false=>a8 none [] prog 178 aN.k (aZ (bB (lB (bB (sL (dW (sR (body f134)))))))) aN.u3 (aP 5 aN.u3 Q) cf w_) (aP 5 aN.u3 Q)))
def aN.e5(aX:Bool)(a:OA)(b c:Nat)(d:Int)(e:OA)(f g s:Int):Env:= [(0,.slice a b c),(1,.int .i64 d),(4,CL aX e),(10,.int .i64 f),(11,.bool false),(12,.int .i64 g),(13,.int .i64 s)]
def aN.u5:List Nat:= [0,1,4,10,11,12,13]
section
variable(aX:Bool)(a:OA)(b d:Nat)(e f g:Int)(i:OA)(K:KT)(w:World)
def aN.W:Prop:=
 let j:=w.drew;(0<=g/\g<(b:Int))/\Is a fun k:Addr=>∃m:AV,(m.size=32/\Cells j (k.add (g.toNat*32)) m)/\(0<=e/\e<(b:Int))/\Is a fun n:Addr=>∃o:AV,(o.size=32/\Cells j (n.add (e.toNat*32)) o)/\(0<=e/\e<(b:Int))/\Is a fun p:Addr=>(m.size=32/\(∀q∈m.toList,q.oneCell'=true)/\∀r,r<32->Wr j ((p.add (e.toNat*32)).add r))/\let t:=setCells j (p.add (e.toNat*32)) m.toList 0;(0<=g/\g<(b:Int))/\Is a fun u:Addr=>(o.size=32/\(∀v∈o.toList,v.oneCell'=true)/\∀x,x<32->Wr t ((u.add (g.toNat*32)).add x))/\let y:=setCells t (u.add (g.toNat*32)) o.toList 0;Holds none [] prog 178 (.loop (lB (bB (sL (aZ (sR (body f134))))))) (aN.q1 K) [(0,.slice a b d),(1,.int .i64 e),(4,CL aX i),(10,.int .i64 0),(11,.bool false),(12,.int .i64 (i64.wrap (e+(1:Int)))),(13,.int .i64 (i64.wrap (f-(1:Int))))] y
variable{aX a b d e f g i K w}
theorem aN.of(h:aN.W aX a b d e f g i K w):bf prog 134 #[.slice a b d,.int .i64 e,.int .i64 f,.int .i64 g,CL aX i] w K:=
 by cases aX<;>exact rqq func134 (C:=aN.k) h
end
section
variable(aX:Bool)(a:OA)(b c:Nat)(d:Int)(e:OA)(f g i:Int)(Q:aM)(w:World)
def aN.B1:Prop:=
 let j:=w.drew;Split (decide (g<=i)) ((0<=g/\g<(b:Int))/\Is a fun k:Addr=>∃m:AV,(m.size=32/\Cells j (k.add (g.toNat*32)) m)/\(0<=d/\d<(b:Int))/\Is a fun n:Addr=>∃o:AV,(o.size=32/\Cells j (n.add (d.toNat*32)) o)/\bf prog (CF aX) (CA aX e m o) j fun p q=>∃r:Int,p=.int .i64 r/\Split (decide (r<(0:Int))) (Q .normal [(0,.slice a b c),(1,.int .i64 d),(4,CL aX e),(10,.int .i64 f),(11,.bool false),(12,.int .i64 (i64.wrap (g+(1:Int)))),(13,.int .i64 i)] q) (Q (.exit 0) [(0,.slice a b c),(1,.int .i64 d),(4,CL aX e),(10,.int .i64 f),(11,.bool false),(12,.int .i64 g),(13,.int .i64 i)] q)) (Q (.exit 0) [(0,.slice a b c),(1,.int .i64 d),(4,CL aX e),(10,.int .i64 f),(11,.bool false),(12,.int .i64 g),(13,.int .i64 i)] j)
theorem aN.b1:(a8 none [] prog 178 aN.k (lB (bB (sL (aZ (sR (body f134)))))) aN.u1 Q [(0,.slice a b c),(1,.int .i64 d),(4,CL aX e),(10,.int .i64 f),(11,.bool false),(12,.int .i64 g),(13,.int .i64 i)] w)=aN.B1 aX a b c d e f g i Q w:=by cases aX<;>kernel_rfl
variable{aX a b c d e f i}
theorem aN.b9(I:Int->World->Prop)(μ:Int->World->Nat)(s:Int){Q:aM}{w:World}(h0:I s w)
 (round:∀s w,I s w->aN.B1 aX a b c d e f s i (bS (aN.e1 aX a b c d e f i) I μ s w Q) w):Holds none [] prog 178 (.loop (lB (bB (sL (aZ (sR (body f134))))))) Q (aN.e1 aX a b c d e f i s) w:=
 br ng mix (aN.e1 aX a b c d e f i) I μ aN.k aN.u1 s (fun s Q w=>aN.B1 aX a b c d e f s i Q w) (fun s Q w=>aN.b1 aX a b c d e f s i Q w) h0 round
end
section
variable(aX:Bool)(a:OA)(b c:Nat)(d:Int)(e:OA)(f g i:Int)(K:KT)(w:World)
def aN.cU:Prop:=
 Holds none [] prog 178 (.loop (lB (bB (sL (cS (body f134)))))) (aN.q2 K) [(0,.slice a b c),(1,.int .i64 d),(4,CL aX e),(10,.int .i64 f),(11,.bool false),(12,.int .i64 g),(13,.int .i64 i)] w
theorem aN.dw:(aN.q1 K (.exit 0) [(0,.slice a b c),(1,.int .i64 d),(4,CL aX e),(10,.int .i64 f),(11,.bool false),(12,.int .i64 g),(13,.int .i64 i)] w)=aN.cU aX a b c d e f g i K w:=by cases aX<;>kernel_rfl
end
section
variable(aX:Bool)(a:OA)(b c:Nat)(d:Int)(e:OA)(f g i:Int)(Q:aM)(w:World)
def aN.B2:Prop:=
 let j:=w.drew;Split (decide (g<=i)) ((0<=i/\i<(b:Int))/\Is a fun k:Addr=>∃m:AV,(m.size=32/\Cells j (k.add (i.toNat*32)) m)/\(0<=d/\d<(b:Int))/\Is a fun n:Addr=>∃o:AV,(o.size=32/\Cells j (n.add (d.toNat*32)) o)/\bf prog (CF aX) (CA aX e m o) j fun p q=>∃r:Int,p=.int .i64 r/\Split (!(decide (r<(0:Int)))) (Q .normal [(0,.slice a b c),(1,.int .i64 d),(4,CL aX e),(10,.int .i64 f),(11,.bool false),(12,.int .i64 g),(13,.int .i64 (i64.wrap (i-(1:Int))))] q) (Q (.exit 2) [(0,.slice a b c),(1,.int .i64 d),(4,CL aX e),(10,.int .i64 f),(11,.bool false),(12,.int .i64 g),(13,.int .i64 i)] q)) (Q (.exit 2) [(0,.slice a b c),(1,.int .i64 d),(4,CL aX e),(10,.int .i64 f),(11,.bool false),(12,.int .i64 g),(13,.int .i64 i)] j)
theorem aN.b2:(a8 none [] prog 178 aN.k (lB (bB (sL (cS (body f134))))) aN.u2 Q [(0,.slice a b c),(1,.int .i64 d),(4,CL aX e),(10,.int .i64 f),(11,.bool false),(12,.int .i64 g),(13,.int .i64 i)] w)=aN.B2 aX a b c d e f g i Q w:=by cases aX<;>kernel_rfl
variable{aX a b c d e f g}
theorem aN.iK(I:Int->World->Prop)(μ:Int->World->Nat)(s:Int){Q:aM}{w:World}(h0:I s w)
 (round:∀s w,I s w->aN.B2 aX a b c d e f g s (bS (aN.e2 aX a b c d e f g) I μ s w Q) w):Holds none [] prog 178 (.loop (lB (bB (sL (cS (body f134)))))) Q (aN.e2 aX a b c d e f g s) w:=
 br ng mix (aN.e2 aX a b c d e f g) I μ aN.k aN.u2 s (fun s Q w=>aN.B2 aX a b c d e f g s Q w) (fun s Q w=>aN.b2 aX a b c d e f g s Q w) h0 round
end
section
variable(aX:Bool)(a:OA)(b c:Nat)(d:Int)(e:OA)(f g i:Int)(K:KT)(w:World)
def aN.jX:Prop:=
 Split (decide (g>i)) (let j:=w.drew;(0<=d/\d<(b:Int))/\Is a fun k:Addr=>∃m:AV,(m.size=32/\Cells j (k.add (d.toNat*32)) m)/\(0<=i/\i<(b:Int))/\Is a fun n:Addr=>∃o:AV,(o.size=32/\Cells j (n.add (i.toNat*32)) o)/\(0<=i/\i<(b:Int))/\Is a fun p:Addr=>(m.size=32/\(∀q∈m.toList,q.oneCell'=true)/\∀r,r<32->Wr j ((p.add (i.toNat*32)).add r))/\let t:=setCells j (p.add (i.toNat*32)) m.toList 0;(0<=d/\d<(b:Int))/\Is a fun u:Addr=>(o.size=32/\(∀v∈o.toList,v.oneCell'=true)/\∀x,x<32->Wr t ((u.add (d.toNat*32)).add x))/\let y:=setCells t (u.add (d.toNat*32)) o.toList 0;K (.tuple #[.int .i64 i,.bool true]) y) (let z:=w.drew;(0<=i/\i<(b:Int))/\Is a fun a1:Addr=>∃b1:AV,(b1.size=32/\Cells z (a1.add (i.toNat*32)) b1)/\(0<=g/\g<(b:Int))/\Is a fun c1:Addr=>∃d1:AV,(d1.size=32/\Cells z (c1.add (g.toNat*32)) d1)/\(0<=g/\g<(b:Int))/\Is a fun e1:Addr=>(b1.size=32/\(∀f1∈b1.toList,f1.oneCell'=true)/\∀g1,g1<32->Wr z ((e1.add (g.toNat*32)).add g1))/\let i1:=setCells z (e1.add (g.toNat*32)) b1.toList 0;(0<=i/\i<(b:Int))/\Is a fun j1:Addr=>(d1.size=32/\(∀k1∈d1.toList,k1.oneCell'=true)/\∀m1,m1<32->Wr i1 ((j1.add (i.toNat*32)).add m1))/\let n1:=setCells i1 (j1.add (i.toNat*32)) d1.toList 0;Holds none [] prog 178 (.loop (lB (bB (sL (dW (sR (body f134))))))) (aN.q3 K) [(0,.slice a b c),(1,.int .i64 d),(4,CL aX e),(10,.int .i64 f),(11,.bool false),(12,.int .i64 (i64.wrap (g+(1:Int)))),(13,.int .i64 (i64.wrap (i-(1:Int))))] n1)
theorem aN.lI:(aN.q2 K (.exit 2) [(0,.slice a b c),(1,.int .i64 d),(4,CL aX e),(10,.int .i64 f),(11,.bool false),(12,.int .i64 g),(13,.int .i64 i)] w)=aN.jX aX a b c d e f g i K w:=by cases aX<;>kernel_rfl
end
section
variable(aX:Bool)(a:OA)(b c:Nat)(d:Int)(e:OA)(f g i:Int)(Q:aM)(w:World)
def aN.B3:Prop:=
 Holds none [] prog 178 (.loop (lB (bB (sL (bB (lB (bB (sL (dW (sR (body f134))))))))))) (aN.q4 Q) [(0,.slice a b c),(1,.int .i64 d),(4,CL aX e),(10,.int .i64 f),(11,.bool false),(12,.int .i64 g),(13,.int .i64 i)] w
theorem aN.b3:(a8 none [] prog 178 aN.k (lB (bB (sL (dW (sR (body f134)))))) aN.u3 Q [(0,.slice a b c),(1,.int .i64 d),(4,CL aX e),(10,.int .i64 f),(11,.bool false),(12,.int .i64 g),(13,.int .i64 i)] w)=aN.B3 aX a b c d e f g i Q w:=by cases aX<;>kernel_rfl
variable{aX a b c d e f}
theorem aN.wP(I:Int×Int->World->Prop)(μ:Int×Int->World->Nat)(s:Int×Int){Q:aM}{w:World}(h0:I s w)
 (round:∀s w,I s w->aN.B3 aX a b c d e f (s.1) (s.2) (bS (aN.e3 aX a b c d e f) I μ s w Q) w):Holds none [] prog 178 (.loop (lB (bB (sL (dW (sR (body f134))))))) Q (aN.e3 aX a b c d e f s) w:=
 br ng mix (aN.e3 aX a b c d e f) I μ aN.k aN.u3 s (fun s Q w=>aN.B3 aX a b c d e f (s.1) (s.2) Q w) (fun s Q w=>aN.b3 aX a b c d e f (s.1) (s.2) Q w) h0 round
end
section
variable(aX:Bool)(a:OA)(b c:Nat)(d:Int)(e:OA)(f g i:Int)(Q:aM)(w:World)
def aN.B4:Prop:=
 let j:=w.drew;Split (decide (g<=i)) ((0<=g/\g<(b:Int))/\Is a fun k:Addr=>∃m:AV,(m.size=32/\Cells j (k.add (g.toNat*32)) m)/\(0<=d/\d<(b:Int))/\Is a fun n:Addr=>∃o:AV,(o.size=32/\Cells j (n.add (d.toNat*32)) o)/\bf prog (CF aX) (CA aX e m o) j fun p q=>∃r:Int,p=.int .i64 r/\Split (decide (r<(0:Int))) (Q .normal [(0,.slice a b c),(1,.int .i64 d),(4,CL aX e),(10,.int .i64 f),(11,.bool false),(12,.int .i64 (i64.wrap (g+(1:Int)))),(13,.int .i64 i)] q) (Q (.exit 6) [(0,.slice a b c),(1,.int .i64 d),(4,CL aX e),(10,.int .i64 f),(11,.bool false),(12,.int .i64 g),(13,.int .i64 i)] q)) (Q (.exit 6) [(0,.slice a b c),(1,.int .i64 d),(4,CL aX e),(10,.int .i64 f),(11,.bool false),(12,.int .i64 g),(13,.int .i64 i)] j)
theorem aN.b4:(a8 none [] prog 178 aN.k (lB (bB (sL (bB (lB (bB (sL (dW (sR (body f134)))))))))) aN.u4 Q [(0,.slice a b c),(1,.int .i64 d),(4,CL aX e),(10,.int .i64 f),(11,.bool false),(12,.int .i64 g),(13,.int .i64 i)] w)=aN.B4 aX a b c d e f g i Q w:=by cases aX<;>kernel_rfl
variable{aX a b c d e f i}
theorem aN.Nv(I:Int->World->Prop)(μ:Int->World->Nat)(s:Int){Q:aM}{w:World}(h0:I s w)
 (round:∀s w,I s w->aN.B4 aX a b c d e f s i (bS (aN.e4 aX a b c d e f i) I μ s w Q) w):Holds none [] prog 178 (.loop (lB (bB (sL (bB (lB (bB (sL (dW (sR (body f134))))))))))) Q (aN.e4 aX a b c d e f i s) w:=
 br ng mix (aN.e4 aX a b c d e f i) I μ aN.k aN.u4 s (fun s Q w=>aN.B4 aX a b c d e f s i Q w) (fun s Q w=>aN.b4 aX a b c d e f s i Q w) h0 round
end
section
variable(aX:Bool)(a:OA)(b c:Nat)(d:Int)(e:OA)(f g i:Int)(Q:aM)(w:World)
def aN.LM:Prop:=
 Holds none [] prog 178 (.loop (lB (bB (sL (sR (bB (lB (bB (sL (dW (sR (body f134)))))))))))) (aN.q5 Q) [(0,.slice a b c),(1,.int .i64 d),(4,CL aX e),(10,.int .i64 f),(11,.bool false),(12,.int .i64 g),(13,.int .i64 i)] w
theorem aN.MU:(aN.q4 Q (.exit 6) [(0,.slice a b c),(1,.int .i64 d),(4,CL aX e),(10,.int .i64 f),(11,.bool false),(12,.int .i64 g),(13,.int .i64 i)] w)=aN.LM aX a b c d e f g i Q w:=by cases aX<;>kernel_rfl
end
section
variable(aX:Bool)(a:OA)(b c:Nat)(d:Int)(e:OA)(f g i:Int)(Q:aM)(w:World)
def aN.B5:Prop:=
 let j:=w.drew;Split (decide (g<=i)) ((0<=i/\i<(b:Int))/\Is a fun k:Addr=>∃m:AV,(m.size=32/\Cells j (k.add (i.toNat*32)) m)/\(0<=d/\d<(b:Int))/\Is a fun n:Addr=>∃o:AV,(o.size=32/\Cells j (n.add (d.toNat*32)) o)/\bf prog (CF aX) (CA aX e m o) j fun p q=>∃r:Int,p=.int .i64 r/\Split (!(decide (r<(0:Int)))) (Q .normal [(0,.slice a b c),(1,.int .i64 d),(4,CL aX e),(10,.int .i64 f),(11,.bool false),(12,.int .i64 g),(13,.int .i64 (i64.wrap (i-(1:Int))))] q) (Q (.exit 8) [(0,.slice a b c),(1,.int .i64 d),(4,CL aX e),(10,.int .i64 f),(11,.bool false),(12,.int .i64 g),(13,.int .i64 i)] q)) (Q (.exit 8) [(0,.slice a b c),(1,.int .i64 d),(4,CL aX e),(10,.int .i64 f),(11,.bool false),(12,.int .i64 g),(13,.int .i64 i)] j)
theorem aN.b5:(a8 none [] prog 178 aN.k (lB (bB (sL (sR (bB (lB (bB (sL (dW (sR (body f134))))))))))) aN.u5 Q [(0,.slice a b c),(1,.int .i64 d),(4,CL aX e),(10,.int .i64 f),(11,.bool false),(12,.int .i64 g),(13,.int .i64 i)] w)=aN.B5 aX a b c d e f g i Q w:=by cases aX<;>kernel_rfl
variable{aX a b c d e f g}
theorem aN.Nu(I:Int->World->Prop)(μ:Int->World->Nat)(s:Int){Q:aM}{w:World}(h0:I s w)
 (round:∀s w,I s w->aN.B5 aX a b c d e f g s (bS (aN.e5 aX a b c d e f g) I μ s w Q) w):Holds none [] prog 178 (.loop (lB (bB (sL (sR (bB (lB (bB (sL (dW (sR (body f134)))))))))))) Q (aN.e5 aX a b c d e f g s) w:=
 br ng mix (aN.e5 aX a b c d e f g) I μ aN.k aN.u5 s (fun s Q w=>aN.B5 aX a b c d e f g s Q w) (fun s Q w=>aN.b5 aX a b c d e f g s Q w) h0 round
end
section
variable(aX:Bool)(a:OA)(b c:Nat)(d:Int)(e:OA)(f g i:Int)(Q:aM)(w:World)
def aN.LL:Prop:=
 Split (decide (g>i)) (Q (.exit 4) [(0,.slice a b c),(1,.int .i64 d),(4,CL aX e),(10,.int .i64 f),(11,.bool false),(12,.int .i64 g),(13,.int .i64 i)] w) (let j:=w.drew;(0<=i/\i<(b:Int))/\Is a fun k:Addr=>∃m:AV,(m.size=32/\Cells j (k.add (i.toNat*32)) m)/\(0<=g/\g<(b:Int))/\Is a fun n:Addr=>∃o:AV,(o.size=32/\Cells j (n.add (g.toNat*32)) o)/\(0<=g/\g<(b:Int))/\Is a fun p:Addr=>(m.size=32/\(∀q∈m.toList,q.oneCell'=true)/\∀r,r<32->Wr j ((p.add (g.toNat*32)).add r))/\let t:=setCells j (p.add (g.toNat*32)) m.toList 0;(0<=i/\i<(b:Int))/\Is a fun u:Addr=>(o.size=32/\(∀v∈o.toList,v.oneCell'=true)/\∀x,x<32->Wr t ((u.add (i.toNat*32)).add x))/\let y:=setCells t (u.add (i.toNat*32)) o.toList 0;Q .normal [(0,.slice a b c),(1,.int .i64 d),(4,CL aX e),(10,.int .i64 f),(11,.bool false),(12,.int .i64 (i64.wrap (g+(1:Int)))),(13,.int .i64 (i64.wrap (i-(1:Int))))] y)
theorem aN.MT:(aN.q5 Q (.exit 8) [(0,.slice a b c),(1,.int .i64 d),(4,CL aX e),(10,.int .i64 f),(11,.bool false),(12,.int .i64 g),(13,.int .i64 i)] w)=aN.LL aX a b c d e f g i Q w:=by cases aX<;>kernel_rfl
end
section
def aN.zJ(a:OA)(b c:Nat)(d:Int)(e:OA)(f g i:Int)(K:KT)(w:World):Prop:=
 let j:=w.drew;(0<=d/\d<(b:Int))/\Is a fun k:Addr=>∃m:AV,(m.size=32/\Cells j (k.add (d.toNat*32)) m)/\(0<=i/\i<(b:Int))/\Is a fun n:Addr=>∃o:AV,(o.size=32/\Cells j (n.add (i.toNat*32)) o)/\(0<=i/\i<(b:Int))/\Is a fun p:Addr=>(m.size=32/\(∀q∈m.toList,q.oneCell'=true)/\∀r,r<32->Wr j ((p.add (i.toNat*32)).add r))/\let t:=setCells j (p.add (i.toNat*32)) m.toList 0;(0<=d/\d<(b:Int))/\Is a fun u:Addr=>(o.size=32/\(∀v∈o.toList,v.oneCell'=true)/\∀x,x<32->Wr t ((u.add (d.toNat*32)).add x))/\let y:=setCells t (u.add (d.toNat*32)) o.toList 0;K (.tuple #[.int .i64 i,.bool false]) y
variable(aX:Bool)(a:OA)(b c:Nat)(d:Int)(e:OA)(f g i:Int)(K:KT)(w:World)
theorem aN.Da:(aN.q3 K (.exit 4) [(0,.slice a b c),(1,.int .i64 d),(4,CL aX e),(10,.int .i64 f),(11,.bool false),(12,.int .i64 g),(13,.int .i64 i)] w)=aN.zJ a b c d e f g i K w:=by cases aX<;>kernel_rfl
end
def bF.k:List Nat:= [5,6]
def bF.q1(K:KT):aM:=(aP 0 (aW f152) (bV prog f152 K))
def bF.e1(aX:Bool)(a:OA)(b c:Nat)(d e:Int)(f:OA)(s:Int):Env:= [(0,.slice a b c),(2,.int .i64 d),(3,.int .i64 e),(4,CL aX f),(10,.int .i64 s)]
def bF.u1:List Nat:= [0,2,3,4,10]
section
variable(aX:Bool)(a:OA)(b d:Nat)(e f g:Int)(i:OA)(K:KT)(w:World)
def bF.W:Prop:=
 Holds none [] prog 82 (.loop (lB (bB (sR (body f152))))) (bF.q1 K) [(0,.slice a b d),(2,.int .i64 f),(3,.int .i64 g),(4,CL aX i),(10,.int .i64 e)] w
variable{aX a b d e f g i K w}
theorem bF.of(h:bF.W aX a b d e f g i K w):bf prog 152 #[.slice a b d,.int .i64 e,.int .i64 f,.int .i64 g,CL aX i] w K:=
 by cases aX<;>exact rqq func152 (C:=bF.k) h
end
section
variable(aX:Bool)(a:OA)(b c:Nat)(d e:Int)(f:OA)(g:Int)(Q:aM)(w:World)
def bF.B1:Prop:=
 Split (decide ((i64.wrap ((i64.wrap ((2:Int)*g))+(1:Int)))>=d)) (Q (.exit 0) [(0,.slice a b c),(2,.int .i64 d),(3,.int .i64 e),(4,CL aX f),(10,.int .i64 g),(11,.int .i64 (i64.wrap ((i64.wrap ((2:Int)*g))+(1:Int))))] w) (let i:=w.drew;Split (decide ((i64.wrap ((i64.wrap ((i64.wrap ((2:Int)*g))+(1:Int)))+(1:Int)))<d)) ((0<=(i64.wrap (e+(i64.wrap ((i64.wrap ((2:Int)*g))+(1:Int)))))/\(i64.wrap (e+(i64.wrap ((i64.wrap ((2:Int)*g))+(1:Int)))))<(b:Int))/\Is a fun j:Addr=>∃k:AV,(k.size=32/\Cells i (j.add ((i64.wrap (e+(i64.wrap ((i64.wrap ((2:Int)*g))+(1:Int))))).toNat*32)) k)/\(0<=(i64.wrap ((i64.wrap (e+(i64.wrap ((i64.wrap ((2:Int)*g))+(1:Int)))))+(1:Int)))/\(i64.wrap ((i64.wrap (e+(i64.wrap ((i64.wrap ((2:Int)*g))+(1:Int)))))+(1:Int)))<(b:Int))/\Is a fun m:Addr=>∃n:AV,(n.size=32/\Cells i (m.add ((i64.wrap ((i64.wrap (e+(i64.wrap ((i64.wrap ((2:Int)*g))+(1:Int)))))+(1:Int))).toNat*32)) n)/\bf prog (CF aX) (CA aX f k n) i fun o p=>∃q:Int,o=.int .i64 q/\Split (decide (q<(0:Int))) (Holds none [] prog 82 (aZ (sR (bB (lB (bB (sR (body f152))))))) (aP 1 bF.u1 Q) [(0,.slice a b c),(2,.int .i64 d),(3,.int .i64 e),(4,CL aX f),(10,.int .i64 g),(11,.int .i64 (i64.wrap ((i64.wrap ((i64.wrap ((2:Int)*g))+(1:Int)))+(1:Int))))] p) (Holds none [] prog 82 (aZ (sR (bB (lB (bB (sR (body f152))))))) (aP 1 bF.u1 Q) [(0,.slice a b c),(2,.int .i64 d),(3,.int .i64 e),(4,CL aX f),(10,.int .i64 g),(11,.int .i64 (i64.wrap ((i64.wrap ((2:Int)*g))+(1:Int))))] p)) (Holds none [] prog 82 (aZ (sR (bB (lB (bB (sR (body f152))))))) (aP 1 bF.u1 Q) [(0,.slice a b c),(2,.int .i64 d),(3,.int .i64 e),(4,CL aX f),(10,.int .i64 g),(11,.int .i64 (i64.wrap ((i64.wrap ((2:Int)*g))+(1:Int))))] i))
theorem bF.b1:(a8 none [] prog 82 bF.k (lB (bB (sR (body f152)))) bF.u1 Q [(0,.slice a b c),(2,.int .i64 d),(3,.int .i64 e),(4,CL aX f),(10,.int .i64 g)] w)=bF.B1 aX a b c d e f g Q w:=by cases aX<;>kernel_rfl
variable{aX a b c d e f}
theorem bF.b9(I:Int->World->Prop)(μ:Int->World->Nat)(s:Int){Q:aM}{w:World}(h0:I s w)
 (round:∀s w,I s w->bF.B1 aX a b c d e f s (bS (bF.e1 aX a b c d e f) I μ s w Q) w):Holds none [] prog 82 (.loop (lB (bB (sR (body f152))))) Q (bF.e1 aX a b c d e f s) w:=
 br ng mix (bF.e1 aX a b c d e f) I μ bF.k bF.u1 s (fun s Q w=>bF.B1 aX a b c d e f s Q w) (fun s Q w=>bF.b1 aX a b c d e f s Q w) h0 round
end
section
def bF.cU(a:OA)(b c:Nat)(d e:Int)(f:OA)(g i:Int)(K:KT)(w:World):Prop:=
 K (.tuple #[]) w
variable(aX:Bool)(a:OA)(b c:Nat)(d e:Int)(f:OA)(g i:Int)(K:KT)(w:World)
theorem bF.dw:(bF.q1 K (.exit 0) [(0,.slice a b c),(2,.int .i64 d),(3,.int .i64 e),(4,CL aX f),(10,.int .i64 g),(11,.int .i64 i)] w)=bF.cU a b c d e f g i K w:=by cases aX<;>kernel_rfl
end
section
variable(aX:Bool)(a:OA)(b c:Nat)(d e:Int)(f:OA)(g i:Int)(Q:aM)(w:World)
def bF.J1:Prop:=
 let j:=w.drew;(0<=(i64.wrap (e+g))/\(i64.wrap (e+g))<(b:Int))/\Is a fun k:Addr=>∃m:AV,(m.size=32/\Cells j (k.add ((i64.wrap (e+g)).toNat*32)) m)/\(0<=(i64.wrap (e+i))/\(i64.wrap (e+i))<(b:Int))/\Is a fun n:Addr=>∃o:AV,(o.size=32/\Cells j (n.add ((i64.wrap (e+i)).toNat*32)) o)/\bf prog (CF aX) (CA aX f m o) j fun p q=>∃r:Int,p=.int .i64 r/\Split (!(decide (r<(0:Int)))) (Q .ret [(0,.slice a b c),(2,.int .i64 d),(3,.int .i64 e),(4,CL aX f),(10,.int .i64 g),(11,.int .i64 i)] q) (Holds none [] prog 82 (cS (bB (lB (bB (sR (body f152)))))) (aP 1 bF.u1 Q) [(0,.slice a b c),(2,.int .i64 d),(3,.int .i64 e),(4,CL aX f),(10,.int .i64 g),(11,.int .i64 i)] q)
theorem bF.j1:(a8 none [] prog 82 bF.k (aZ (sR (bB (lB (bB (sR (body f152))))))) bF.u1 (aP 1 bF.u1 Q) [(0,.slice a b c),(2,.int .i64 d),(3,.int .i64 e),(4,CL aX f),(10,.int .i64 g),(11,.int .i64 i)] w)=bF.J1 aX a b c d e f g i Q w:=by cases aX<;>kernel_rfl
variable{aX a b c d e f g i Q w}
theorem bF.kN(h:bF.J1 aX a b c d e f g i Q w):Holds none [] prog 82 (aZ (sR (bB (lB (bB (sR (body f152))))))) (aP 1 bF.u1 Q) [(0,.slice a b c),(2,.int .i64 d),(3,.int .i64 e),(4,CL aX f),(10,.int .i64 g),(11,.int .i64 i)] w:=
 cJ (C:=bF.k) ng mix (bF.j1 aX a b c d e f g i Q w) h
end
section
variable(aX:Bool)(a:OA)(b c:Nat)(d e:Int)(f:OA)(g i:Int)(Q:aM)(w:World)
def bF.J2:Prop:=
 let j:=w.drew;(0<=(i64.wrap (e+i))/\(i64.wrap (e+i))<(b:Int))/\Is a fun k:Addr=>∃m:AV,(m.size=32/\Cells j (k.add ((i64.wrap (e+i)).toNat*32)) m)/\(0<=(i64.wrap (e+g))/\(i64.wrap (e+g))<(b:Int))/\Is a fun n:Addr=>∃o:AV,(o.size=32/\Cells j (n.add ((i64.wrap (e+g)).toNat*32)) o)/\(0<=(i64.wrap (e+g))/\(i64.wrap (e+g))<(b:Int))/\Is a fun p:Addr=>(m.size=32/\(∀q∈m.toList,q.oneCell'=true)/\∀r,r<32->Wr j ((p.add ((i64.wrap (e+g)).toNat*32)).add r))/\let t:=setCells j (p.add ((i64.wrap (e+g)).toNat*32)) m.toList 0;(0<=(i64.wrap (e+i))/\(i64.wrap (e+i))<(b:Int))/\Is a fun u:Addr=>(o.size=32/\(∀v∈o.toList,v.oneCell'=true)/\∀x,x<32->Wr t ((u.add ((i64.wrap (e+i)).toNat*32)).add x))/\let y:=setCells t (u.add ((i64.wrap (e+i)).toNat*32)) o.toList 0;Q .normal [(0,.slice a b c),(2,.int .i64 d),(3,.int .i64 e),(4,CL aX f),(10,.int .i64 i)] y
theorem bF.j2:(a8 none [] prog 82 bF.k (cS (bB (lB (bB (sR (body f152)))))) bF.u1 (aP 1 bF.u1 Q) [(0,.slice a b c),(2,.int .i64 d),(3,.int .i64 e),(4,CL aX f),(10,.int .i64 g),(11,.int .i64 i)] w)=bF.J2 aX a b c d e f g i Q w:=by cases aX<;>kernel_rfl
variable{aX a b c d e f g i Q w}
theorem bF.Eh(h:bF.J2 aX a b c d e f g i Q w):Holds none [] prog 82 (cS (bB (lB (bB (sR (body f152)))))) (aP 1 bF.u1 Q) [(0,.slice a b c),(2,.int .i64 d),(3,.int .i64 e),(4,CL aX f),(10,.int .i64 g),(11,.int .i64 i)] w:=
 cJ (C:=bF.k) ng mix (bF.j2 aX a b c d e f g i Q w) h
end
section
variable(aX:Bool)(a:OA)(b d:Nat)(e:Int)(f g:OA)(K:KT)(w:World)
variable{aX a b d e f g K w}
end
def qd.k:List Nat:= []
section
variable(aX:Bool)(a:OA)(b d:Nat)(e f g:Int)(i j:OA)(K:KT)(w:World)
def qd.W:Prop:=
 bf prog 163 #[.slice a b d,.int .i64 e,.int .i64 f,.pointer i,CL aX j] w fun k m=>∃n o:Int,k=.tuple #[.int .i64 n,.int .i64 o]/\bf prog 163 #[.slice a b d,.int .i64 o,.int .i64 g,.pointer i,CL aX j] m fun p q=>∃r t:Int,p=.tuple #[.int .i64 r,.int .i64 t]/\bf prog 163 #[.slice a b d,.int .i64 n,.int .i64 r,.pointer i,CL aX j] q fun u v=>∃x y:Int,u=.tuple #[.int .i64 x,.int .i64 y]/\K (.int .i64 y) v
variable{aX a b d e f g i j K w}
theorem qd.of(h:qd.W aX a b d e f g i j K w):bf prog 156 #[.slice a b d,.int .i64 e,.int .i64 f,.int .i64 g,.pointer i,CL aX j] w K:=
 by cases aX<;>exact rqq func156 (C:=qd.k) h
end
def qc.k:List Nat:= []
section
def qc.W(aX:Bool)(a:OA)(b d:Nat)(e f:Int)(g i:OA)(K:KT)(w:World):Prop:=
 let j:=w.drew;(0<=f/\f<(b:Int))/\Is a fun k:Addr=>∃m:AV,(m.size=32/\Cells j (k.add (f.toNat*32)) m)/\(0<=e/\e<(b:Int))/\Is a fun n:Addr=>∃o:AV,(o.size=32/\Cells j (n.add (e.toNat*32)) o)/\bf prog (CF aX) (CA aX i m o) j fun p q=>∃r:Int,p=.int .i64 r/\Split (decide (r<(0:Int))) (Is g fun t:Addr=>∃u:Int,q.cell? t=some (.int .i64 u)/\Is g fun v:Addr=>Wr q v/\let x:=q.setCell v (.int .i64 (i64.wrap (u+(1:Int))));K (.tuple #[.int .i64 f,.int .i64 e]) x) (K (.tuple #[.int .i64 e,.int .i64 f]) q)
variable(aX:Bool)(a:OA)(b d:Nat)(e f:Int)(g i:OA)(K:KT)(w:World)
variable{aX a b d e f g i K w}
theorem qc.of(h:qc.W aX a b d e f g i K w):bf prog 163 #[.slice a b d,.int .i64 e,.int .i64 f,.pointer g,CL aX i] w K:=
 by cases aX<;>exact rqq func163 (C:=qc.k) h
end
end Go.Proofs.YtfleamccglihoaaGreatDoor
