import Derived.Test.YtfleamccglihoaaGreatDoorProg
import Derived.Test.YtfleamccglihoaaGreatDoorMA
import Derived.Test.YtfleamccglihoaaGreatDoorMB
open Go.IntKind (i64 u64)
set_option linter.unusedVariables false
namespace Go.Proofs.YtfleamccglihoaaGreatDoor
open Go.Proofs.Tryz
open Go Go.bE
def CL(aV:Bool)(g:OA):Value:=cond aV (.func (.func 73) #[.pointer g] #[]) (.func (.func 54) #[] #[.pointer g])
def CF(aV:Bool):Nat:=cond aV 73 54
def CA(aV:Bool)(g:OA)(t u:AV):AV:=cond aV #[.pointer g,.agg t,.agg u] #[.agg t,.agg u,.pointer g]
def og.k:List Nat:= []
section
variable(aV:Bool)(a:OA)(b d:Nat)(e:OA)(K:KT)(w:World)
def og.W:Prop:=
 bm prog 98 #[.int .u64 (u64.wrap (b:Int))] w fun f g=>∃i:Int,f=.int .i64 i/\bm prog 97 #[.slice a b d,.int .i64 0,.int .i64 (b:Int),.int .i64 i,CL aV e] g fun j k=>j=.tuple #[]/\K (.tuple #[]) k
variable{aV a b d e K w}
theorem og.of(h:og.W aV a b d e K w):bm prog 53 #[.slice a b d,CL aV e] w K:=
 by cases aV<;>exact rqq func53 (C:=og.k) h
end
def az.k:List Nat:= [10,11,13,14,15,17,20,21,22,23,24,26,27,29,30]
def az.q1(K:KT):aM:=(aQ 0 (aX f97) (bV prog f97 K))
def az.e1(aV:Bool)(a:OA)(b c:Nat)(d:OA)(s:Int×Int×Int×Bool×Bool):Env:= [(0,.slice a b c),(1,.int .i64 s.1),(2,.int .i64 s.2.1),(3,.int .i64 s.2.2.1),(4,CL aV d),(10,.bool s.2.2.2.1),(11,.bool s.2.2.2.2)]
def az.u1:List Nat:= [0,1,2,3,4,10,11]
section
variable(aV:Bool)(a:OA)(b d:Nat)(e f g:Int)(i:OA)(K:KT)(w:World)
def az.W:Prop:=
 Holds none [] prog 148 (.loop (lB (bB (aZ (body f97))))) (az.q1 K) [(0,.slice a b d),(1,.int .i64 e),(2,.int .i64 f),(3,.int .i64 g),(4,CL aV i),(10,.bool true),(11,.bool true)] w
variable{aV a b d e f g i K w}
theorem az.of(h:az.W aV a b d e f g i K w):bm prog 97 #[.slice a b d,.int .i64 e,.int .i64 f,.int .i64 g,CL aV i] w K:=
 by cases aV<;>exact rqq func97 (C:=az.k) h
end
section
variable(aV:Bool)(a:OA)(b c:Nat)(d e f:Int)(g:OA)(i j:Bool)(Q:aM)(w:World)
def az.B1:Prop:=
 Split (decide ((i64.wrap (e-d))<=(12:Int))) (bm prog 127 #[.slice a b c,.int .i64 d,.int .i64 e,CL aV g] w fun k m=>k=.tuple #[]/\Q .ret [(0,.slice a b c),(1,.int .i64 d),(2,.int .i64 e),(3,.int .i64 f),(4,CL aV g),(10,.bool i),(11,.bool j),(12,.int .i64 (i64.wrap (e-d)))] m) (Split (f==(0:Int)) (bm prog 128 #[.slice a b c,.int .i64 d,.int .i64 e,CL aV g] w fun n o=>n=.tuple #[]/\Q .ret [(0,.slice a b c),(1,.int .i64 d),(2,.int .i64 e),(3,.int .i64 f),(4,CL aV g),(10,.bool i),(11,.bool j),(12,.int .i64 (i64.wrap (e-d)))] o) (Split (!i) (bm prog 129 #[.slice a b c,.int .i64 d,.int .i64 e,CL aV g] w fun p q=>p=.tuple #[]/\Holds none [] prog 148 (cS (bB (lB (bB (aZ (body f97)))))) (aQ 1 az.u1 Q) [(0,.slice a b c),(1,.int .i64 d),(2,.int .i64 e),(3,.int .i64 (i64.wrap (f-(1:Int)))),(4,CL aV g),(10,.bool i),(11,.bool j),(12,.int .i64 (i64.wrap (e-d)))] q) (Holds none [] prog 148 (cS (bB (lB (bB (aZ (body f97)))))) (aQ 1 az.u1 Q) [(0,.slice a b c),(1,.int .i64 d),(2,.int .i64 e),(3,.int .i64 f),(4,CL aV g),(10,.bool i),(11,.bool j),(12,.int .i64 (i64.wrap (e-d)))] w)))
theorem az.b1:(bg none [] prog 148 az.k (lB (bB (aZ (body f97)))) az.u1 Q [(0,.slice a b c),(1,.int .i64 d),(2,.int .i64 e),(3,.int .i64 f),(4,CL aV g),(10,.bool i),(11,.bool j)] w)=az.B1 aV a b c d e f g i j Q w:=by cases aV<;>kernel_rfl
variable{aV a b c g}
theorem az.cf(I:Int×Int×Int×Bool×Bool->World->Prop)(μ:Int×Int×Int×Bool×Bool->World->Nat)(s:Int×Int×Int×Bool×Bool){Q:aM}{w:World}(h0:I s w)
 (round:∀s w,I s w->az.B1 aV a b c (s.1) (s.2.1) (s.2.2.1) g (s.2.2.2.1) (s.2.2.2.2) (bR (az.e1 aV a b c g) I μ s w Q) w):Holds none [] prog 148 (.loop (lB (bB (aZ (body f97))))) Q (az.e1 aV a b c g s) w:=
 bt ng mix (az.e1 aV a b c g) I μ az.k az.u1 s (fun s Q w=>az.B1 aV a b c (s.1) (s.2.1) (s.2.2.1) g (s.2.2.2.1) (s.2.2.2.2) Q w) (fun s Q w=>az.b1 aV a b c (s.1) (s.2.1) (s.2.2.1) g (s.2.2.2.1) (s.2.2.2.2) Q w) h0 round
end
section
variable(aV:Bool)(a:OA)(b c:Nat)(d e f:Int)(g:OA)(i j:Bool)(k:Int)(Q:aM)(w:World)
def az.J1:Prop:=
 bm prog 130 #[.slice a b c,.int .i64 d,.int .i64 e,CL aV g] w fun m n=>∃o p:Int,m=.tuple #[.int .i64 o,.int .i64 p]/\Holds none [] prog 148 (cS (sR (bB (lB (bB (aZ (body f97))))))) (aQ 1 az.u1 Q) [(0,.slice a b c),(1,.int .i64 d),(2,.int .i64 e),(3,.int .i64 f),(4,CL aV g),(10,.bool i),(11,.bool j),(12,.int .i64 k),(13,.int .i64 o),(14,.int .i64 p)] n
theorem az.j1:(bg none [] prog 148 az.k (cS (bB (lB (bB (aZ (body f97)))))) az.u1 (aQ 1 az.u1 Q) [(0,.slice a b c),(1,.int .i64 d),(2,.int .i64 e),(3,.int .i64 f),(4,CL aV g),(10,.bool i),(11,.bool j),(12,.int .i64 k)] w)=az.J1 aV a b c d e f g i j k Q w:=by cases aV<;>kernel_rfl
variable{aV a b c d e f g i j k Q w}
theorem az.lx(h:az.J1 aV a b c d e f g i j k Q w):Holds none [] prog 148 (cS (bB (lB (bB (aZ (body f97)))))) (aQ 1 az.u1 Q) [(0,.slice a b c),(1,.int .i64 d),(2,.int .i64 e),(3,.int .i64 f),(4,CL aV g),(10,.bool i),(11,.bool j),(12,.int .i64 k)] w:=
 cH (C:=az.k) ng mix (az.j1 aV a b c d e f g i j k Q w) h
end
section
variable(aV:Bool)(a:OA)(b c:Nat)(d e f:Int)(g:OA)(i j:Bool)(k m n:Int)(Q:aM)(w:World)
def az.J2:Prop:=
 Split (n==(2:Int)) (bm prog 131 #[.slice a b c,.int .i64 d,.int .i64 e,CL aV g] w fun o p=>o=.tuple #[]/\Holds none [] prog 148 (sR (cT (sR (sL (cS (sR (bB (lB (bB (aZ (body f97))))))))))) (b9 (fun cm w_=>match cutAt az.k (cS (aZ (bB (lB (bB (aZ (body f97)))))))with|true=>Holds none [] prog 148 (cS (aZ (bB (lB (bB (aZ (body f97))))))) (aQ 1 az.u1 Q) cm w_|false=>bg none [] prog 148 az.k (cS (aZ (bB (lB (bB (aZ (body f97))))))) az.u1 (aQ 1 az.u1 Q) cm w_) (aQ 1 az.u1 Q)) [(0,.slice a b c),(1,.int .i64 d),(2,.int .i64 e),(3,.int .i64 f),(4,CL aV g),(10,.bool i),(11,.bool j),(12,.int .i64 k),(13,.int .i64 m),(14,.int .i64 n)] p) (Holds none [] prog 148 (cS (aZ (bB (lB (bB (aZ (body f97))))))) (aQ 1 az.u1 Q) [(0,.slice a b c),(1,.int .i64 d),(2,.int .i64 e),(3,.int .i64 f),(4,CL aV g),(10,.bool i),(11,.bool j),(12,.int .i64 k),(13,.int .i64 m),(14,.int .i64 n)] w)
theorem az.j2:(bg none [] prog 148 az.k (cS (sR (bB (lB (bB (aZ (body f97))))))) az.u1 (aQ 1 az.u1 Q) [(0,.slice a b c),(1,.int .i64 d),(2,.int .i64 e),(3,.int .i64 f),(4,CL aV g),(10,.bool i),(11,.bool j),(12,.int .i64 k),(13,.int .i64 m),(14,.int .i64 n)] w)=az.J2 aV a b c d e f g i j k m n Q w:=by cases aV<;>kernel_rfl
variable{aV a b c d e f g i j k m n Q w}
theorem az.Eg(h:az.J2 aV a b c d e f g i j k m n Q w):Holds none [] prog 148 (cS (sR (bB (lB (bB (aZ (body f97))))))) (aQ 1 az.u1 Q) [(0,.slice a b c),(1,.int .i64 d),(2,.int .i64 e),(3,.int .i64 f),(4,CL aV g),(10,.bool i),(11,.bool j),(12,.int .i64 k),(13,.int .i64 m),(14,.int .i64 n)] w:=
 cH (C:=az.k) ng mix (az.j2 aV a b c d e f g i j k m n Q w) h
end
section
variable(aV:Bool)(a:OA)(b c:Nat)(d e f:Int)(g:OA)(i j:Bool)(k m n:Int)(Q:aM)(w:World)
def az.J3:Prop:=
 Holds none [] prog 148 (aZ (cT (sR (sL (cS (sR (bB (lB (bB (aZ (body f97))))))))))) (b9 (fun cm w_=>match cutAt az.k (cS (aZ (bB (lB (bB (aZ (body f97)))))))with|true=>Holds none [] prog 148 (cS (aZ (bB (lB (bB (aZ (body f97))))))) (aQ 1 az.u1 Q) cm w_|false=>bg none [] prog 148 az.k (cS (aZ (bB (lB (bB (aZ (body f97))))))) az.u1 (aQ 1 az.u1 Q) cm w_) (aQ 1 az.u1 Q)) [(0,.slice a b c),(1,.int .i64 d),(2,.int .i64 e),(3,.int .i64 f),(4,CL aV g),(10,.bool i),(11,.bool j),(12,.int .i64 k),(13,.int .i64 (i64.wrap ((i64.wrap (e-(1:Int)))-(i64.wrap (m-d))))),(14,.int .i64 n)] w
theorem az.j3:(bg none [] prog 148 az.k (sR (cT (sR (sL (cS (sR (bB (lB (bB (aZ (body f97))))))))))) (cu (cS (aZ (bB (lB (bB (aZ (body f97)))))))++az.u1) (b9 (fun cm w_=>match cutAt az.k (cS (aZ (bB (lB (bB (aZ (body f97)))))))with|true=>Holds none [] prog 148 (cS (aZ (bB (lB (bB (aZ (body f97))))))) (aQ 1 az.u1 Q) cm w_|false=>bg none [] prog 148 az.k (cS (aZ (bB (lB (bB (aZ (body f97))))))) az.u1 (aQ 1 az.u1 Q) cm w_) (aQ 1 az.u1 Q)) [(0,.slice a b c),(1,.int .i64 d),(2,.int .i64 e),(3,.int .i64 f),(4,CL aV g),(10,.bool i),(11,.bool j),(12,.int .i64 k),(13,.int .i64 m),(14,.int .i64 n)] w)=az.J3 aV a b c d e f g i j k m n Q w:=by cases aV<;>kernel_rfl
variable{aV a b c d e f g i j k m n Q w}
theorem az.Oi(h:az.J3 aV a b c d e f g i j k m n Q w):Holds none [] prog 148 (sR (cT (sR (sL (cS (sR (bB (lB (bB (aZ (body f97))))))))))) (b9 (fun cm w_=>match cutAt az.k (cS (aZ (bB (lB (bB (aZ (body f97)))))))with|true=>Holds none [] prog 148 (cS (aZ (bB (lB (bB (aZ (body f97))))))) (aQ 1 az.u1 Q) cm w_|false=>bg none [] prog 148 az.k (cS (aZ (bB (lB (bB (aZ (body f97))))))) az.u1 (aQ 1 az.u1 Q) cm w_) (aQ 1 az.u1 Q)) [(0,.slice a b c),(1,.int .i64 d),(2,.int .i64 e),(3,.int .i64 f),(4,CL aV g),(10,.bool i),(11,.bool j),(12,.int .i64 k),(13,.int .i64 m),(14,.int .i64 n)] w:=
 cH (C:=az.k) ng mix (az.j3 aV a b c d e f g i j k m n Q w) h
end
section
variable(aV:Bool)(a:OA)(b c:Nat)(d e f:Int)(g:OA)(i j:Bool)(k m n:Int)(Q:aM)(w:World)
def az.J4:Prop:=
 Split i (Split j (Split (n==(1:Int)) (bm prog 132 #[.slice a b c,.int .i64 d,.int .i64 e,CL aV g] w fun o p=>∃q:Bool,o=.bool q/\Split q (Q .ret [(0,.slice a b c),(1,.int .i64 d),(2,.int .i64 e),(3,.int .i64 f),(4,CL aV g),(10,.bool i),(11,.bool j),(12,.int .i64 k),(13,.int .i64 m)] p) (Holds none [] prog 148 (cS (aZ (sR (bB (lB (bB (aZ (body f97)))))))) (aQ 1 az.u1 Q) [(0,.slice a b c),(1,.int .i64 d),(2,.int .i64 e),(3,.int .i64 f),(4,CL aV g),(10,.bool i),(11,.bool j),(12,.int .i64 k),(13,.int .i64 m)] p)) (Holds none [] prog 148 (cS (aZ (sR (bB (lB (bB (aZ (body f97)))))))) (aQ 1 az.u1 Q) [(0,.slice a b c),(1,.int .i64 d),(2,.int .i64 e),(3,.int .i64 f),(4,CL aV g),(10,.bool i),(11,.bool j),(12,.int .i64 k),(13,.int .i64 m)] w)) (Holds none [] prog 148 (cS (aZ (sR (bB (lB (bB (aZ (body f97)))))))) (aQ 1 az.u1 Q) [(0,.slice a b c),(1,.int .i64 d),(2,.int .i64 e),(3,.int .i64 f),(4,CL aV g),(10,.bool i),(11,.bool j),(12,.int .i64 k),(13,.int .i64 m)] w)) (Holds none [] prog 148 (cS (aZ (sR (bB (lB (bB (aZ (body f97)))))))) (aQ 1 az.u1 Q) [(0,.slice a b c),(1,.int .i64 d),(2,.int .i64 e),(3,.int .i64 f),(4,CL aV g),(10,.bool i),(11,.bool j),(12,.int .i64 k),(13,.int .i64 m)] w)
theorem az.j4:(bg none [] prog 148 az.k (cS (aZ (bB (lB (bB (aZ (body f97))))))) az.u1 (aQ 1 az.u1 Q) [(0,.slice a b c),(1,.int .i64 d),(2,.int .i64 e),(3,.int .i64 f),(4,CL aV g),(10,.bool i),(11,.bool j),(12,.int .i64 k),(13,.int .i64 m),(14,.int .i64 n)] w)=az.J4 aV a b c d e f g i j k m n Q w:=by cases aV<;>kernel_rfl
variable{aV a b c d e f g i j k m n Q w}
theorem az.Io(h:az.J4 aV a b c d e f g i j k m n Q w):Holds none [] prog 148 (cS (aZ (bB (lB (bB (aZ (body f97))))))) (aQ 1 az.u1 Q) [(0,.slice a b c),(1,.int .i64 d),(2,.int .i64 e),(3,.int .i64 f),(4,CL aV g),(10,.bool i),(11,.bool j),(12,.int .i64 k),(13,.int .i64 m),(14,.int .i64 n)] w:=
 cH (C:=az.k) ng mix (az.j4 aV a b c d e f g i j k m n Q w) h
end
section
def az.J5(aV:Bool)(a:OA)(b c:Nat)(d e f:Int)(g:OA)(i j:Bool)(k m n:Int)(Q:aM)(w:World):Prop:=
 Holds none [] prog 148 (cS (aZ (bB (lB (bB (aZ (body f97))))))) (aQ 1 az.u1 Q) [(0,.slice a b c),(1,.int .i64 d),(2,.int .i64 e),(3,.int .i64 f),(4,CL aV g),(10,.bool i),(11,.bool j),(12,.int .i64 k),(13,.int .i64 m),(14,.int .i64 1)] w
variable(aV:Bool)(a:OA)(b c:Nat)(d e f:Int)(g:OA)(i j:Bool)(k m n:Int)(Q:aM)(w:World)
theorem az.j5:(bg none [] prog 148 az.k (aZ (cT (sR (sL (cS (sR (bB (lB (bB (aZ (body f97))))))))))) (cu (cS (aZ (bB (lB (bB (aZ (body f97)))))))++az.u1) (b9 (fun cm w_=>match cutAt az.k (cS (aZ (bB (lB (bB (aZ (body f97)))))))with|true=>Holds none [] prog 148 (cS (aZ (bB (lB (bB (aZ (body f97))))))) (aQ 1 az.u1 Q) cm w_|false=>bg none [] prog 148 az.k (cS (aZ (bB (lB (bB (aZ (body f97))))))) az.u1 (aQ 1 az.u1 Q) cm w_) (aQ 1 az.u1 Q)) [(0,.slice a b c),(1,.int .i64 d),(2,.int .i64 e),(3,.int .i64 f),(4,CL aV g),(10,.bool i),(11,.bool j),(12,.int .i64 k),(13,.int .i64 m),(14,.int .i64 n)] w)=az.J5 aV a b c d e f g i j k m n Q w:=by cases aV<;>kernel_rfl
variable{aV a b c d e f g i j k m n Q w}
theorem az.Oh(h:az.J5 aV a b c d e f g i j k m n Q w):Holds none [] prog 148 (aZ (cT (sR (sL (cS (sR (bB (lB (bB (aZ (body f97))))))))))) (b9 (fun cm w_=>match cutAt az.k (cS (aZ (bB (lB (bB (aZ (body f97)))))))with|true=>Holds none [] prog 148 (cS (aZ (bB (lB (bB (aZ (body f97))))))) (aQ 1 az.u1 Q) cm w_|false=>bg none [] prog 148 az.k (cS (aZ (bB (lB (bB (aZ (body f97))))))) az.u1 (aQ 1 az.u1 Q) cm w_) (aQ 1 az.u1 Q)) [(0,.slice a b c),(1,.int .i64 d),(2,.int .i64 e),(3,.int .i64 f),(4,CL aV g),(10,.bool i),(11,.bool j),(12,.int .i64 k),(13,.int .i64 m),(14,.int .i64 n)] w:=
 cH (C:=az.k) ng mix (az.j5 aV a b c d e f g i j k m n Q w) h
end
section
variable(aV:Bool)(a:OA)(b c:Nat)(d e f:Int)(g:OA)(i j:Bool)(k m:Int)(Q:aM)(w:World)
def az.J6:Prop:=
 let n:=w.drew;Split (decide (d>(0:Int))) ((0<=(i64.wrap (d-(1:Int)))/\(i64.wrap (d-(1:Int)))<(b:Int))/\Is a fun o:Addr=>∃p:AV,(p.size=32/\Cells n (o.add ((i64.wrap (d-(1:Int))).toNat*32)) p)/\(0<=m/\m<(b:Int))/\Is a fun q:Addr=>∃r:AV,(r.size=32/\Cells n (q.add (m.toNat*32)) r)/\bm prog (CF aV) (CA aV g p r) n fun t u=>∃v:Int,t=.int .i64 v/\Split (!(decide (v<(0:Int)))) (bm prog 133 #[.slice a b c,.int .i64 d,.int .i64 e,.int .i64 m,CL aV g] u fun x y=>∃z:Int,x=.int .i64 z/\Q .normal [(0,.slice a b c),(1,.int .i64 z),(2,.int .i64 e),(3,.int .i64 f),(4,CL aV g),(10,.bool i),(11,.bool j)] y) (Holds none [] prog 148 (dZ (bB (lB (bB (aZ (body f97)))))) (aQ 1 az.u1 Q) [(0,.slice a b c),(1,.int .i64 d),(2,.int .i64 e),(3,.int .i64 f),(4,CL aV g),(10,.bool i),(11,.bool j),(12,.int .i64 k),(13,.int .i64 m)] u)) (Holds none [] prog 148 (dZ (bB (lB (bB (aZ (body f97)))))) (aQ 1 az.u1 Q) [(0,.slice a b c),(1,.int .i64 d),(2,.int .i64 e),(3,.int .i64 f),(4,CL aV g),(10,.bool i),(11,.bool j),(12,.int .i64 k),(13,.int .i64 m)] n)
theorem az.j6:(bg none [] prog 148 az.k (cS (aZ (sR (bB (lB (bB (aZ (body f97)))))))) az.u1 (aQ 1 az.u1 Q) [(0,.slice a b c),(1,.int .i64 d),(2,.int .i64 e),(3,.int .i64 f),(4,CL aV g),(10,.bool i),(11,.bool j),(12,.int .i64 k),(13,.int .i64 m)] w)=az.J6 aV a b c d e f g i j k m Q w:=by cases aV<;>kernel_rfl
variable{aV a b c d e f g i j k m Q w}
theorem az.Im(h:az.J6 aV a b c d e f g i j k m Q w):Holds none [] prog 148 (cS (aZ (sR (bB (lB (bB (aZ (body f97)))))))) (aQ 1 az.u1 Q) [(0,.slice a b c),(1,.int .i64 d),(2,.int .i64 e),(3,.int .i64 f),(4,CL aV g),(10,.bool i),(11,.bool j),(12,.int .i64 k),(13,.int .i64 m)] w:=
 cH (C:=az.k) ng mix (az.j6 aV a b c d e f g i j k m Q w) h
end
section
variable(aV:Bool)(a:OA)(b c:Nat)(d e f:Int)(g:OA)(i j:Bool)(k m:Int)(Q:aM)(w:World)
def az.J7:Prop:=
 bm prog 134 #[.slice a b c,.int .i64 d,.int .i64 e,.int .i64 m,CL aV g] w fun n o=>∃p:Int,∃q:Bool,n=.tuple #[.int .i64 p,.bool q]/\Holds none [] prog 148 (dZ (sR (bB (lB (bB (aZ (body f97))))))) (aQ 1 az.u1 Q) [(0,.slice a b c),(1,.int .i64 d),(2,.int .i64 e),(3,.int .i64 f),(4,CL aV g),(10,.bool i),(11,.bool j),(12,.int .i64 k),(16,.int .i64 p),(17,.bool q)] o
theorem az.j7:(bg none [] prog 148 az.k (dZ (bB (lB (bB (aZ (body f97)))))) az.u1 (aQ 1 az.u1 Q) [(0,.slice a b c),(1,.int .i64 d),(2,.int .i64 e),(3,.int .i64 f),(4,CL aV g),(10,.bool i),(11,.bool j),(12,.int .i64 k),(13,.int .i64 m)] w)=az.J7 aV a b c d e f g i j k m Q w:=by cases aV<;>kernel_rfl
variable{aV a b c d e f g i j k m Q w}
theorem az.Il(h:az.J7 aV a b c d e f g i j k m Q w):Holds none [] prog 148 (dZ (bB (lB (bB (aZ (body f97)))))) (aQ 1 az.u1 Q) [(0,.slice a b c),(1,.int .i64 d),(2,.int .i64 e),(3,.int .i64 f),(4,CL aV g),(10,.bool i),(11,.bool j),(12,.int .i64 k),(13,.int .i64 m)] w:=
 cH (C:=az.k) ng mix (az.j7 aV a b c d e f g i j k m Q w) h
end
section
def az.J8(aV:Bool)(a:OA)(b c:Nat)(d e f:Int)(g:OA)(i j:Bool)(k m:Int)(n:Bool)(Q:aM)(w:World):Prop:=
 Holds none [] prog 148 (dZ (aZ (bB (lB (bB (aZ (body f97))))))) (aQ 1 az.u1 Q) [(0,.slice a b c),(1,.int .i64 d),(2,.int .i64 e),(3,.int .i64 f),(4,CL aV g),(10,.bool i),(11,.bool n),(12,.int .i64 k),(16,.int .i64 m)] w
variable(aV:Bool)(a:OA)(b c:Nat)(d e f:Int)(g:OA)(i j:Bool)(k m:Int)(n:Bool)(Q:aM)(w:World)
theorem az.j8:(bg none [] prog 148 az.k (dZ (sR (bB (lB (bB (aZ (body f97))))))) az.u1 (aQ 1 az.u1 Q) [(0,.slice a b c),(1,.int .i64 d),(2,.int .i64 e),(3,.int .i64 f),(4,CL aV g),(10,.bool i),(11,.bool j),(12,.int .i64 k),(16,.int .i64 m),(17,.bool n)] w)=az.J8 aV a b c d e f g i j k m n Q w:=by cases aV<;>kernel_rfl
variable{aV a b c d e f g i j k m n Q w}
theorem az.Og(h:az.J8 aV a b c d e f g i j k m n Q w):Holds none [] prog 148 (dZ (sR (bB (lB (bB (aZ (body f97))))))) (aQ 1 az.u1 Q) [(0,.slice a b c),(1,.int .i64 d),(2,.int .i64 e),(3,.int .i64 f),(4,CL aV g),(10,.bool i),(11,.bool j),(12,.int .i64 k),(16,.int .i64 m),(17,.bool n)] w:=
 cH (C:=az.k) ng mix (az.j8 aV a b c d e f g i j k m n Q w) h
end
section
variable(aV:Bool)(a:OA)(b c:Nat)(d e f:Int)(g:OA)(i j:Bool)(k m:Int)(Q:aM)(w:World)
def az.J9:Prop:=
 Holds none [] prog 148 (dZ (aZ (sR (bB (lB (bB (aZ (body f97)))))))) (aQ 1 az.u1 Q) [(0,.slice a b c),(1,.int .i64 d),(2,.int .i64 e),(3,.int .i64 f),(4,CL aV g),(10,.bool i),(11,.bool j),(12,.int .i64 k),(16,.int .i64 m),(18,.int .i64 (i64.wrap (m-d))),(19,.int .i64 (i64.wrap (e-m)))] w
theorem az.j9:(bg none [] prog 148 az.k (dZ (aZ (bB (lB (bB (aZ (body f97))))))) az.u1 (aQ 1 az.u1 Q) [(0,.slice a b c),(1,.int .i64 d),(2,.int .i64 e),(3,.int .i64 f),(4,CL aV g),(10,.bool i),(11,.bool j),(12,.int .i64 k),(16,.int .i64 m)] w)=az.J9 aV a b c d e f g i j k m Q w:=by cases aV<;>kernel_rfl
variable{aV a b c d e f g i j k m Q w}
theorem az.Of(h:az.J9 aV a b c d e f g i j k m Q w):Holds none [] prog 148 (dZ (aZ (bB (lB (bB (aZ (body f97))))))) (aQ 1 az.u1 Q) [(0,.slice a b c),(1,.int .i64 d),(2,.int .i64 e),(3,.int .i64 f),(4,CL aV g),(10,.bool i),(11,.bool j),(12,.int .i64 k),(16,.int .i64 m)] w:=
 cH (C:=az.k) ng mix (az.j9 aV a b c d e f g i j k m Q w) h
end
section
variable(aV:Bool)(a:OA)(b c:Nat)(d e f:Int)(g:OA)(i j:Bool)(k m n o:Int)(Q:aM)(w:World)
def az.Xl:Prop:=
 (8:Int)≠0/\Holds none [] prog 148 (dZ (cS (bB (lB (bB (aZ (body f97))))))) (aQ 1 az.u1 Q) [(0,.slice a b c),(1,.int .i64 d),(2,.int .i64 e),(3,.int .i64 f),(4,CL aV g),(10,.bool i),(11,.bool j),(16,.int .i64 m),(18,.int .i64 n),(19,.int .i64 o),(20,.int .i64 (i64.wrap (k.tdiv (8:Int))))] w
theorem az.j10:(bg none [] prog 148 az.k (dZ (aZ (sR (bB (lB (bB (aZ (body f97)))))))) az.u1 (aQ 1 az.u1 Q) [(0,.slice a b c),(1,.int .i64 d),(2,.int .i64 e),(3,.int .i64 f),(4,CL aV g),(10,.bool i),(11,.bool j),(12,.int .i64 k),(16,.int .i64 m),(18,.int .i64 n),(19,.int .i64 o)] w)=az.Xl aV a b c d e f g i j k m n o Q w:=by cases aV<;>kernel_rfl
variable{aV a b c d e f g i j k m n o Q w}
theorem az.Km(h:az.Xl aV a b c d e f g i j k m n o Q w):Holds none [] prog 148 (dZ (aZ (sR (bB (lB (bB (aZ (body f97)))))))) (aQ 1 az.u1 Q) [(0,.slice a b c),(1,.int .i64 d),(2,.int .i64 e),(3,.int .i64 f),(4,CL aV g),(10,.bool i),(11,.bool j),(12,.int .i64 k),(16,.int .i64 m),(18,.int .i64 n),(19,.int .i64 o)] w:=
 cH (C:=az.k) ng mix (az.j10 aV a b c d e f g i j k m n o Q w) h
end
section
def az.Xk(aV:Bool)(a:OA)(b c:Nat)(d e f:Int)(g:OA)(i j:Bool)(k m n o:Int)(Q:aM)(w:World):Prop:=
 Split (decide (m<n)) (Holds none [] prog 148 (sR (cT (dZ (cS (sR (bB (lB (bB (aZ (body f97)))))))))) (aQ 1 az.u1 Q) [(0,.slice a b c),(1,.int .i64 d),(2,.int .i64 e),(3,.int .i64 f),(4,CL aV g),(10,.bool (decide (m>=o))),(11,.bool j),(16,.int .i64 k)] w) (Holds none [] prog 148 (sR (cE (dZ (cS (sR (bB (lB (bB (aZ (body f97)))))))))) (aQ 1 az.u1 Q) [(0,.slice a b c),(1,.int .i64 d),(2,.int .i64 e),(3,.int .i64 f),(4,CL aV g),(10,.bool (decide (n>=o))),(11,.bool j),(16,.int .i64 k)] w)
variable(aV:Bool)(a:OA)(b c:Nat)(d e f:Int)(g:OA)(i j:Bool)(k m n o:Int)(Q:aM)(w:World)
theorem az.j11:(bg none [] prog 148 az.k (dZ (cS (bB (lB (bB (aZ (body f97))))))) az.u1 (aQ 1 az.u1 Q) [(0,.slice a b c),(1,.int .i64 d),(2,.int .i64 e),(3,.int .i64 f),(4,CL aV g),(10,.bool i),(11,.bool j),(16,.int .i64 k),(18,.int .i64 m),(19,.int .i64 n),(20,.int .i64 o)] w)=az.Xk aV a b c d e f g i j k m n o Q w:=by cases aV<;>kernel_rfl
variable{aV a b c d e f g i j k m n o Q w}
theorem az.Kl(h:az.Xk aV a b c d e f g i j k m n o Q w):Holds none [] prog 148 (dZ (cS (bB (lB (bB (aZ (body f97))))))) (aQ 1 az.u1 Q) [(0,.slice a b c),(1,.int .i64 d),(2,.int .i64 e),(3,.int .i64 f),(4,CL aV g),(10,.bool i),(11,.bool j),(16,.int .i64 k),(18,.int .i64 m),(19,.int .i64 n),(20,.int .i64 o)] w:=
 cH (C:=az.k) ng mix (az.j11 aV a b c d e f g i j k m n o Q w) h
end
section
variable(aV:Bool)(a:OA)(b c:Nat)(d e f:Int)(g:OA)(i j:Bool)(k:Int)(Q:aM)(w:World)
def az.Xj:Prop:=
 bm prog 97 #[.slice a b c,.int .i64 d,.int .i64 k,.int .i64 f,CL aV g] w fun m n=>m=.tuple #[]/\Holds none [] prog 148 (aZ (cT (dZ (cS (sR (bB (lB (bB (aZ (body f97)))))))))) (aQ 1 az.u1 Q) [(0,.slice a b c),(1,.int .i64 d),(2,.int .i64 e),(3,.int .i64 f),(4,CL aV g),(10,.bool i),(11,.bool j),(16,.int .i64 k)] n
theorem az.j12:(bg none [] prog 148 az.k (sR (cT (dZ (cS (sR (bB (lB (bB (aZ (body f97)))))))))) az.u1 (aQ 1 az.u1 Q) [(0,.slice a b c),(1,.int .i64 d),(2,.int .i64 e),(3,.int .i64 f),(4,CL aV g),(10,.bool i),(11,.bool j),(16,.int .i64 k)] w)=az.Xj aV a b c d e f g i j k Q w:=by cases aV<;>kernel_rfl
variable{aV a b c d e f g i j k Q w}
theorem az.Kk(h:az.Xj aV a b c d e f g i j k Q w):Holds none [] prog 148 (sR (cT (dZ (cS (sR (bB (lB (bB (aZ (body f97)))))))))) (aQ 1 az.u1 Q) [(0,.slice a b c),(1,.int .i64 d),(2,.int .i64 e),(3,.int .i64 f),(4,CL aV g),(10,.bool i),(11,.bool j),(16,.int .i64 k)] w:=
 cH (C:=az.k) ng mix (az.j12 aV a b c d e f g i j k Q w) h
end
section
variable(aV:Bool)(a:OA)(b c:Nat)(d e f:Int)(g:OA)(i j:Bool)(k:Int)(Q:aM)(w:World)
def az.Xi:Prop:=
 bm prog 97 #[.slice a b c,.int .i64 (i64.wrap (k+(1:Int))),.int .i64 e,.int .i64 f,CL aV g] w fun m n=>m=.tuple #[]/\Holds none [] prog 148 (aZ (cE (dZ (cS (sR (bB (lB (bB (aZ (body f97)))))))))) (aQ 1 az.u1 Q) [(0,.slice a b c),(1,.int .i64 d),(2,.int .i64 e),(3,.int .i64 f),(4,CL aV g),(10,.bool i),(11,.bool j),(16,.int .i64 k)] n
theorem az.j13:(bg none [] prog 148 az.k (sR (cE (dZ (cS (sR (bB (lB (bB (aZ (body f97)))))))))) az.u1 (aQ 1 az.u1 Q) [(0,.slice a b c),(1,.int .i64 d),(2,.int .i64 e),(3,.int .i64 f),(4,CL aV g),(10,.bool i),(11,.bool j),(16,.int .i64 k)] w)=az.Xi aV a b c d e f g i j k Q w:=by cases aV<;>kernel_rfl
variable{aV a b c d e f g i j k Q w}
theorem az.Kj(h:az.Xi aV a b c d e f g i j k Q w):Holds none [] prog 148 (sR (cE (dZ (cS (sR (bB (lB (bB (aZ (body f97)))))))))) (aQ 1 az.u1 Q) [(0,.slice a b c),(1,.int .i64 d),(2,.int .i64 e),(3,.int .i64 f),(4,CL aV g),(10,.bool i),(11,.bool j),(16,.int .i64 k)] w:=
 cH (C:=az.k) ng mix (az.j13 aV a b c d e f g i j k Q w) h
end
section
def az.Xh(aV:Bool)(a:OA)(b c:Nat)(d e f:Int)(g:OA)(i j:Bool)(k:Int)(Q:aM)(w:World):Prop:=
 Q .normal [(0,.slice a b c),(1,.int .i64 (i64.wrap (k+(1:Int)))),(2,.int .i64 e),(3,.int .i64 f),(4,CL aV g),(10,.bool i),(11,.bool j)] w
variable(aV:Bool)(a:OA)(b c:Nat)(d e f:Int)(g:OA)(i j:Bool)(k:Int)(Q:aM)(w:World)
theorem az.j14:(bg none [] prog 148 az.k (aZ (cT (dZ (cS (sR (bB (lB (bB (aZ (body f97)))))))))) az.u1 (aQ 1 az.u1 Q) [(0,.slice a b c),(1,.int .i64 d),(2,.int .i64 e),(3,.int .i64 f),(4,CL aV g),(10,.bool i),(11,.bool j),(16,.int .i64 k)] w)=az.Xh aV a b c d e f g i j k Q w:=by cases aV<;>kernel_rfl
variable{aV a b c d e f g i j k Q w}
theorem az.Ki(h:az.Xh aV a b c d e f g i j k Q w):Holds none [] prog 148 (aZ (cT (dZ (cS (sR (bB (lB (bB (aZ (body f97)))))))))) (aQ 1 az.u1 Q) [(0,.slice a b c),(1,.int .i64 d),(2,.int .i64 e),(3,.int .i64 f),(4,CL aV g),(10,.bool i),(11,.bool j),(16,.int .i64 k)] w:=
 cH (C:=az.k) ng mix (az.j14 aV a b c d e f g i j k Q w) h
end
section
def az.Xg(aV:Bool)(a:OA)(b c:Nat)(d e f:Int)(g:OA)(i j:Bool)(k:Int)(Q:aM)(w:World):Prop:=
 Q .normal [(0,.slice a b c),(1,.int .i64 d),(2,.int .i64 k),(3,.int .i64 f),(4,CL aV g),(10,.bool i),(11,.bool j)] w
variable(aV:Bool)(a:OA)(b c:Nat)(d e f:Int)(g:OA)(i j:Bool)(k:Int)(Q:aM)(w:World)
theorem az.j15:(bg none [] prog 148 az.k (aZ (cE (dZ (cS (sR (bB (lB (bB (aZ (body f97)))))))))) az.u1 (aQ 1 az.u1 Q) [(0,.slice a b c),(1,.int .i64 d),(2,.int .i64 e),(3,.int .i64 f),(4,CL aV g),(10,.bool i),(11,.bool j),(16,.int .i64 k)] w)=az.Xg aV a b c d e f g i j k Q w:=by cases aV<;>kernel_rfl
variable{aV a b c d e f g i j k Q w}
theorem az.Kh(h:az.Xg aV a b c d e f g i j k Q w):Holds none [] prog 148 (aZ (cE (dZ (cS (sR (bB (lB (bB (aZ (body f97)))))))))) (aQ 1 az.u1 Q) [(0,.slice a b c),(1,.int .i64 d),(2,.int .i64 e),(3,.int .i64 f),(4,CL aV g),(10,.bool i),(11,.bool j),(16,.int .i64 k)] w:=
 cH (C:=az.k) ng mix (az.j15 aV a b c d e f g i j k Q w) h
end
def bQ.k:List Nat:= []
def bQ.q1(K:KT):aM:=(aQ 0 (aX f127) (bV prog f127 K))
def bQ.e1(aV:Bool)(a:OA)(b c:Nat)(d e:Int)(f:OA)(s:Int):Env:= [(0,.slice a b c),(1,.int .i64 d),(2,.int .i64 e),(3,CL aV f),(8,.int .i64 s)]
def bQ.u1:List Nat:= [0,1,2,3,8]
def bQ.q2(Q:aM):aM:=(aQ 2 (cu (aZ (lB (bB (sR (body f127)))))++bQ.u1) (aQ 1 (cu (aZ (lB (bB (sR (body f127)))))++bQ.u1) (b9 (fun cm w_=>match cutAt bQ.k (aZ (lB (bB (sR (body f127)))))with|true=>Holds none [] prog 53 (aZ (lB (bB (sR (body f127))))) Q cm w_|false=>bg none [] prog 53 bQ.k (aZ (lB (bB (sR (body f127))))) bQ.u1 Q cm w_) Q)))
def bQ.e2(aV:Bool)(a:OA)(b c:Nat)(d e:Int)(f:OA)(g s:Int):Env:= [(0,.slice a b c),(1,.int .i64 d),(2,.int .i64 e),(3,CL aV f),(8,.int .i64 g),(9,.int .i64 s)]
def bQ.u2:List Nat:= [0,1,2,3,8,9]
section
variable(aV:Bool)(a:OA)(b d:Nat)(e f:Int)(g:OA)(K:KT)(w:World)
def bQ.W:Prop:=
 Holds none [] prog 53 (.loop (lB (bB (sR (body f127))))) (bQ.q1 K) [(0,.slice a b d),(1,.int .i64 e),(2,.int .i64 f),(3,CL aV g),(8,.int .i64 (i64.wrap (e+(1:Int))))] w
variable{aV a b d e f g K w}
theorem bQ.of(h:bQ.W aV a b d e f g K w):bm prog 127 #[.slice a b d,.int .i64 e,.int .i64 f,CL aV g] w K:=
 by cases aV<;>exact rqq func127 (C:=bQ.k) h
end
section
variable(aV:Bool)(a:OA)(b c:Nat)(d e:Int)(f:OA)(g:Int)(Q:aM)(w:World)
def bQ.B1:Prop:=
 Split (decide (g<e)) (Holds none [] prog 53 (.loop (lB (bB (sR (bB (sL (sR (lB (bB (sR (body f127))))))))))) (bQ.q2 Q) [(0,.slice a b c),(1,.int .i64 d),(2,.int .i64 e),(3,CL aV f),(8,.int .i64 g),(9,.int .i64 g)] w) (Q (.exit 0) [(0,.slice a b c),(1,.int .i64 d),(2,.int .i64 e),(3,CL aV f),(8,.int .i64 g)] w)
theorem bQ.b1:(bg none [] prog 53 bQ.k (lB (bB (sR (body f127)))) bQ.u1 Q [(0,.slice a b c),(1,.int .i64 d),(2,.int .i64 e),(3,CL aV f),(8,.int .i64 g)] w)=bQ.B1 aV a b c d e f g Q w:=by cases aV<;>kernel_rfl
variable{aV a b c d e f}
theorem bQ.cf(I:Int->World->Prop)(μ:Int->World->Nat)(s:Int){Q:aM}{w:World}(h0:I s w)
 (round:∀s w,I s w->bQ.B1 aV a b c d e f s (bR (bQ.e1 aV a b c d e f) I μ s w Q) w):Holds none [] prog 53 (.loop (lB (bB (sR (body f127))))) Q (bQ.e1 aV a b c d e f s) w:=
 bt ng mix (bQ.e1 aV a b c d e f) I μ bQ.k bQ.u1 s (fun s Q w=>bQ.B1 aV a b c d e f s Q w) (fun s Q w=>bQ.b1 aV a b c d e f s Q w) h0 round
end
section
def bQ.cX(a:OA)(b c:Nat)(d e:Int)(f:OA)(g:Int)(K:KT)(w:World):Prop:=
 K (.tuple #[]) w
variable(aV:Bool)(a:OA)(b c:Nat)(d e:Int)(f:OA)(g:Int)(K:KT)(w:World)
theorem bQ.dB:(bQ.q1 K (.exit 0) [(0,.slice a b c),(1,.int .i64 d),(2,.int .i64 e),(3,CL aV f),(8,.int .i64 g)] w)=bQ.cX a b c d e f g K w:=by cases aV<;>kernel_rfl
end
section
variable(aV:Bool)(a:OA)(b c:Nat)(d e:Int)(f:OA)(g i:Int)(Q:aM)(w:World)
def bQ.B2:Prop:=
 let j:=w.drew;Split (decide (i>d)) ((0<=i/\i<(b:Int))/\Is a fun k:Addr=>∃m:AV,(m.size=32/\Cells j (k.add (i.toNat*32)) m)/\(0<=(i64.wrap (i-(1:Int)))/\(i64.wrap (i-(1:Int)))<(b:Int))/\Is a fun n:Addr=>∃o:AV,(o.size=32/\Cells j (n.add ((i64.wrap (i-(1:Int))).toNat*32)) o)/\bm prog (CF aV) (CA aV f m o) j fun p q=>∃r:Int,p=.int .i64 r/\Split (decide (r<(0:Int))) (let t:=q.drew;(0<=(i64.wrap (i-(1:Int)))/\(i64.wrap (i-(1:Int)))<(b:Int))/\Is a fun u:Addr=>∃v:AV,(v.size=32/\Cells t (u.add ((i64.wrap (i-(1:Int))).toNat*32)) v)/\(0<=i/\i<(b:Int))/\Is a fun x:Addr=>∃y:AV,(y.size=32/\Cells t (x.add (i.toNat*32)) y)/\(0<=i/\i<(b:Int))/\Is a fun z:Addr=>(v.size=32/\(∀a1∈v.toList,a1.oneCell'=true)/\∀b1,b1<32->Wr t ((z.add (i.toNat*32)).add b1))/\let c1:=setCells t (z.add (i.toNat*32)) v.toList 0;(0<=(i64.wrap (i-(1:Int)))/\(i64.wrap (i-(1:Int)))<(b:Int))/\Is a fun d1:Addr=>(y.size=32/\(∀e1∈y.toList,e1.oneCell'=true)/\∀f1,f1<32->Wr c1 ((d1.add ((i64.wrap (i-(1:Int))).toNat*32)).add f1))/\let g1:=setCells c1 (d1.add ((i64.wrap (i-(1:Int))).toNat*32)) y.toList 0;Q .normal [(0,.slice a b c),(1,.int .i64 d),(2,.int .i64 e),(3,CL aV f),(8,.int .i64 g),(9,.int .i64 (i64.wrap (i-(1:Int))))] g1) (Q (.exit 2) [(0,.slice a b c),(1,.int .i64 d),(2,.int .i64 e),(3,CL aV f),(8,.int .i64 g),(9,.int .i64 i)] q)) (Q (.exit 2) [(0,.slice a b c),(1,.int .i64 d),(2,.int .i64 e),(3,CL aV f),(8,.int .i64 g),(9,.int .i64 i)] j)
theorem bQ.b2:(bg none [] prog 53 bQ.k (lB (bB (sR (bB (sL (sR (lB (bB (sR (body f127)))))))))) bQ.u2 Q [(0,.slice a b c),(1,.int .i64 d),(2,.int .i64 e),(3,CL aV f),(8,.int .i64 g),(9,.int .i64 i)] w)=bQ.B2 aV a b c d e f g i Q w:=by cases aV<;>kernel_rfl
variable{aV a b c d e f g}
theorem bQ.iN(I:Int->World->Prop)(μ:Int->World->Nat)(s:Int){Q:aM}{w:World}(h0:I s w)
 (round:∀s w,I s w->bQ.B2 aV a b c d e f g s (bR (bQ.e2 aV a b c d e f g) I μ s w Q) w):Holds none [] prog 53 (.loop (lB (bB (sR (bB (sL (sR (lB (bB (sR (body f127))))))))))) Q (bQ.e2 aV a b c d e f g s) w:=
 bt ng mix (bQ.e2 aV a b c d e f g) I μ bQ.k bQ.u2 s (fun s Q w=>bQ.B2 aV a b c d e f g s Q w) (fun s Q w=>bQ.b2 aV a b c d e f g s Q w) h0 round
end
section
def bQ.jY(aV:Bool)(a:OA)(b c:Nat)(d e:Int)(f:OA)(g i:Int)(Q:aM)(w:World):Prop:=
 Q .normal [(0,.slice a b c),(1,.int .i64 d),(2,.int .i64 e),(3,CL aV f),(8,.int .i64 (i64.wrap (g+(1:Int))))] w
variable(aV:Bool)(a:OA)(b c:Nat)(d e:Int)(f:OA)(g i:Int)(Q:aM)(w:World)
theorem bQ.lL:(bQ.q2 Q (.exit 2) [(0,.slice a b c),(1,.int .i64 d),(2,.int .i64 e),(3,CL aV f),(8,.int .i64 g),(9,.int .i64 i)] w)=bQ.jY aV a b c d e f g i Q w:=by cases aV<;>kernel_rfl
end
def bM.k:List Nat:= []
def bM.q1(K:KT):aM:=(aQ 0 (cu (cS (body f128))++(aX f128)) (b9 (fun cm w_=>match cutAt bM.k (cS (body f128))with|true=>Holds none [] prog 60 (cS (body f128)) (bV prog f128 K) cm w_|false=>bg none [] prog 60 bM.k (cS (body f128)) (aX f128) (bV prog f128 K) cm w_) (bV prog f128 K)))
def bM.e1(aV:Bool)(a:OA)(b c:Nat)(d:OA)(e f g s:Int):Env:= [(0,.slice a b c),(3,CL aV d),(8,.int .i64 e),(9,.int .i64 f),(10,.int .i64 g),(11,.int .i64 s)]
def bM.u1:List Nat:= [0,3,8,9,10,11]
def bM.q2(K:KT):aM:=(aQ 2 (aX f128) (bV prog f128 K))
def bM.e2(aV:Bool)(a:OA)(b c:Nat)(d:OA)(e f s:Int):Env:= [(0,.slice a b c),(3,CL aV d),(8,.int .i64 e),(9,.int .i64 f),(12,.int .i64 s)]
def bM.u2:List Nat:= [0,3,8,9,12]
section
variable(aV:Bool)(a:OA)(b d:Nat)(e f:Int)(g:OA)(K:KT)(w:World)
def bM.W:Prop:=
 (2:Int)≠0/\Holds none [] prog 60 (.loop (lB (bB (sR (sL (aZ (sR (body f128)))))))) (bM.q1 K) [(0,.slice a b d),(3,CL aV g),(8,.int .i64 e),(9,.int .i64 0),(10,.int .i64 (i64.wrap (f-e))),(11,.int .i64 (i64.wrap ((i64.wrap ((i64.wrap (f-e))-(1:Int))).tdiv (2:Int))))] w
variable{aV a b d e f g K w}
theorem bM.of(h:bM.W aV a b d e f g K w):bm prog 128 #[.slice a b d,.int .i64 e,.int .i64 f,CL aV g] w K:=
 by cases aV<;>exact rqq func128 (C:=bM.k) h
end
section
variable(aV:Bool)(a:OA)(b c:Nat)(d:OA)(e f g i:Int)(Q:aM)(w:World)
def bM.B1:Prop:=
 Split (decide (i>=(0:Int))) (bm prog 152 #[.slice a b c,.int .i64 i,.int .i64 g,.int .i64 e,CL aV d] w fun j k=>j=.tuple #[]/\Q .normal [(0,.slice a b c),(3,CL aV d),(8,.int .i64 e),(9,.int .i64 f),(10,.int .i64 g),(11,.int .i64 (i64.wrap (i-(1:Int))))] k) (Q (.exit 0) [(0,.slice a b c),(3,CL aV d),(8,.int .i64 e),(9,.int .i64 f),(10,.int .i64 g),(11,.int .i64 i)] w)
theorem bM.b1:(bg none [] prog 60 bM.k (lB (bB (sR (sL (aZ (sR (body f128))))))) bM.u1 Q [(0,.slice a b c),(3,CL aV d),(8,.int .i64 e),(9,.int .i64 f),(10,.int .i64 g),(11,.int .i64 i)] w)=bM.B1 aV a b c d e f g i Q w:=by cases aV<;>kernel_rfl
variable{aV a b c d e f g}
theorem bM.cf(I:Int->World->Prop)(μ:Int->World->Nat)(s:Int){Q:aM}{w:World}(h0:I s w)
 (round:∀s w,I s w->bM.B1 aV a b c d e f g s (bR (bM.e1 aV a b c d e f g) I μ s w Q) w):Holds none [] prog 60 (.loop (lB (bB (sR (sL (aZ (sR (body f128)))))))) Q (bM.e1 aV a b c d e f g s) w:=
 bt ng mix (bM.e1 aV a b c d e f g) I μ bM.k bM.u1 s (fun s Q w=>bM.B1 aV a b c d e f g s Q w) (fun s Q w=>bM.b1 aV a b c d e f g s Q w) h0 round
end
section
def bM.cX(aV:Bool)(a:OA)(b c:Nat)(d:OA)(e f g i:Int)(K:KT)(w:World):Prop:=
 Holds none [] prog 60 (.loop (lB (bB (cS (sR (body f128)))))) (bM.q2 K) [(0,.slice a b c),(3,CL aV d),(8,.int .i64 e),(9,.int .i64 f),(12,.int .i64 (i64.wrap (g-(1:Int))))] w
variable(aV:Bool)(a:OA)(b c:Nat)(d:OA)(e f g i:Int)(K:KT)(w:World)
theorem bM.dB:(bM.q1 K (.exit 0) [(0,.slice a b c),(3,CL aV d),(8,.int .i64 e),(9,.int .i64 f),(10,.int .i64 g),(11,.int .i64 i)] w)=bM.cX aV a b c d e f g i K w:=by cases aV<;>kernel_rfl
end
section
variable(aV:Bool)(a:OA)(b c:Nat)(d:OA)(e f g:Int)(Q:aM)(w:World)
def bM.B2:Prop:=
 Split (decide (g>=(0:Int))) (let i:=w.drew;(0<=(i64.wrap (e+g))/\(i64.wrap (e+g))<(b:Int))/\Is a fun j:Addr=>∃k:AV,(k.size=32/\Cells i (j.add ((i64.wrap (e+g)).toNat*32)) k)/\(0<=e/\e<(b:Int))/\Is a fun m:Addr=>∃n:AV,(n.size=32/\Cells i (m.add (e.toNat*32)) n)/\(0<=e/\e<(b:Int))/\Is a fun o:Addr=>(k.size=32/\(∀p∈k.toList,p.oneCell'=true)/\∀q,q<32->Wr i ((o.add (e.toNat*32)).add q))/\let r:=setCells i (o.add (e.toNat*32)) k.toList 0;(0<=(i64.wrap (e+g))/\(i64.wrap (e+g))<(b:Int))/\Is a fun t:Addr=>(n.size=32/\(∀u∈n.toList,u.oneCell'=true)/\∀v,v<32->Wr r ((t.add ((i64.wrap (e+g)).toNat*32)).add v))/\let x:=setCells r (t.add ((i64.wrap (e+g)).toNat*32)) n.toList 0;bm prog 152 #[.slice a b c,.int .i64 f,.int .i64 g,.int .i64 e,CL aV d] x fun y z=>y=.tuple #[]/\Q .normal [(0,.slice a b c),(3,CL aV d),(8,.int .i64 e),(9,.int .i64 f),(12,.int .i64 (i64.wrap (g-(1:Int))))] z) (Q (.exit 2) [(0,.slice a b c),(3,CL aV d),(8,.int .i64 e),(9,.int .i64 f),(12,.int .i64 g)] w)
theorem bM.b2:(bg none [] prog 60 bM.k (lB (bB (cS (sR (body f128))))) bM.u2 Q [(0,.slice a b c),(3,CL aV d),(8,.int .i64 e),(9,.int .i64 f),(12,.int .i64 g)] w)=bM.B2 aV a b c d e f g Q w:=by cases aV<;>kernel_rfl
variable{aV a b c d e f}
theorem bM.iN(I:Int->World->Prop)(μ:Int->World->Nat)(s:Int){Q:aM}{w:World}(h0:I s w)
 (round:∀s w,I s w->bM.B2 aV a b c d e f s (bR (bM.e2 aV a b c d e f) I μ s w Q) w):Holds none [] prog 60 (.loop (lB (bB (cS (sR (body f128)))))) Q (bM.e2 aV a b c d e f s) w:=
 bt ng mix (bM.e2 aV a b c d e f) I μ bM.k bM.u2 s (fun s Q w=>bM.B2 aV a b c d e f s Q w) (fun s Q w=>bM.b2 aV a b c d e f s Q w) h0 round
end
section
def bM.jY(a:OA)(b c:Nat)(d:OA)(e f g:Int)(K:KT)(w:World):Prop:=
 K (.tuple #[]) w
variable(aV:Bool)(a:OA)(b c:Nat)(d:OA)(e f g:Int)(K:KT)(w:World)
theorem bM.lL:(bM.q2 K (.exit 2) [(0,.slice a b c),(3,CL aV d),(8,.int .i64 e),(9,.int .i64 f),(12,.int .i64 g)] w)=bM.jY a b c d e f g K w:=by cases aV<;>kernel_rfl
end
def dD.k:List Nat:= []
def dD.q1(K:KT):aM:=(aQ 0 (aX Tryz.f129) (bV prog Tryz.f129 K))
def dD.e1(a:OA)(b c:Nat)(d e:Int)(f:Addr)(g s:Int):Env:= [(0,.slice a b c),(1,.int .i64 d),(8,.int .i64 e),(9,.pointer (some f)),(10,.int .u64 g),(11,.int .i64 s)]
def dD.u1:List Nat:= [0,1,8,9,10,11]
section
def dD.W(a:OA)(b d:Nat)(e f:Int)(g:OA)(K:KT)(w:World):Prop:=
 Split (decide ((i64.wrap (f-e))>=(8:Int))) (let i:=w.alloc (.cells (#[.int .u64 0]:AV) 204);Wr i (aU w.heap.size)/\let j:=i.setCell (aU w.heap.size) (.int .u64 (u64.wrap (i64.wrap (f-e))));bm prog 153 #[.int .i64 (i64.wrap (f-e))] j fun k m=>∃n:Int,k=.int .u64 n/\(4:Int)≠0/\Holds none [] prog 67 (.loop (lB (bB (aZ (sR (cT (aZ (body Tryz.f129)))))))) (dD.q1 K) [(0,.slice a b d),(1,.int .i64 e),(8,.int .i64 (i64.wrap (f-e))),(9,.pointer (some (aU w.heap.size))),(10,.int .u64 n),(11,.int .i64 (i64.wrap ((i64.wrap (e+(i64.wrap ((i64.wrap ((i64.wrap (f-e)).tdiv (4:Int)))*(2:Int)))))-(1:Int))))] m) (K (.tuple #[]) w)
variable(aV:Bool)(a:OA)(b d:Nat)(e f:Int)(g:OA)(K:KT)(w:World)
variable{aV a b d e f g K w}
theorem dD.of(h:dD.W a b d e f g K w):bm prog 129 #[.slice a b d,.int .i64 e,.int .i64 f,CL aV g] w K:=
 by cases aV<;>exact rqq func129 (C:=dD.k) h
end
section
variable(aV:Bool)(a:OA)(b c:Nat)(d e:Int)(f:Addr)(g i:Int)(Q:aM)(w:World)
def dD.B1:Prop:=
 (4:Int)≠0/\Split (decide (i<=(i64.wrap ((i64.wrap (d+(i64.wrap ((i64.wrap (e.tdiv (4:Int)))*(2:Int)))))+(1:Int))))) (bm prog 154 #[.pointer (some f)] w fun j k=>∃m:Int,j=.int .u64 m/\Split (decide ((i64.wrap (u64.wrap ((BitVec.ofInt 64 m&&& BitVec.ofInt 64 (u64.wrap (g-(1:Int)))).toNat)))>=e)) (let n:=k.drew;(0<=(i64.wrap (d+(i64.wrap ((i64.wrap (u64.wrap ((BitVec.ofInt 64 m&&& BitVec.ofInt 64 (u64.wrap (g-(1:Int)))).toNat)))-e))))/\(i64.wrap (d+(i64.wrap ((i64.wrap (u64.wrap ((BitVec.ofInt 64 m&&& BitVec.ofInt 64 (u64.wrap (g-(1:Int)))).toNat)))-e))))<(b:Int))/\Is a fun o:Addr=>∃p:AV,(p.size=32/\Cells n (o.add ((i64.wrap (d+(i64.wrap ((i64.wrap (u64.wrap ((BitVec.ofInt 64 m&&& BitVec.ofInt 64 (u64.wrap (g-(1:Int)))).toNat)))-e)))).toNat*32)) p)/\(0<=i/\i<(b:Int))/\Is a fun q:Addr=>∃r:AV,(r.size=32/\Cells n (q.add (i.toNat*32)) r)/\(0<=i/\i<(b:Int))/\Is a fun t:Addr=>(p.size=32/\(∀u∈p.toList,u.oneCell'=true)/\∀v,v<32->Wr n ((t.add (i.toNat*32)).add v))/\let x:=setCells n (t.add (i.toNat*32)) p.toList 0;(0<=(i64.wrap (d+(i64.wrap ((i64.wrap (u64.wrap ((BitVec.ofInt 64 m&&& BitVec.ofInt 64 (u64.wrap (g-(1:Int)))).toNat)))-e))))/\(i64.wrap (d+(i64.wrap ((i64.wrap (u64.wrap ((BitVec.ofInt 64 m&&& BitVec.ofInt 64 (u64.wrap (g-(1:Int)))).toNat)))-e))))<(b:Int))/\Is a fun y:Addr=>(r.size=32/\(∀z∈r.toList,z.oneCell'=true)/\∀a1,a1<32->Wr x ((y.add ((i64.wrap (d+(i64.wrap ((i64.wrap (u64.wrap ((BitVec.ofInt 64 m&&& BitVec.ofInt 64 (u64.wrap (g-(1:Int)))).toNat)))-e)))).toNat*32)).add a1))/\let b1:=setCells x (y.add ((i64.wrap (d+(i64.wrap ((i64.wrap (u64.wrap ((BitVec.ofInt 64 m&&& BitVec.ofInt 64 (u64.wrap (g-(1:Int)))).toNat)))-e)))).toNat*32)) r.toList 0;Q .normal [(0,.slice a b c),(1,.int .i64 d),(8,.int .i64 e),(9,.pointer (some f)),(10,.int .u64 g),(11,.int .i64 (i64.wrap (i+(1:Int))))] b1) (let c1:=k.drew;(0<=(i64.wrap (d+(i64.wrap (u64.wrap ((BitVec.ofInt 64 m&&& BitVec.ofInt 64 (u64.wrap (g-(1:Int)))).toNat)))))/\(i64.wrap (d+(i64.wrap (u64.wrap ((BitVec.ofInt 64 m&&& BitVec.ofInt 64 (u64.wrap (g-(1:Int)))).toNat)))))<(b:Int))/\Is a fun d1:Addr=>∃e1:AV,(e1.size=32/\Cells c1 (d1.add ((i64.wrap (d+(i64.wrap (u64.wrap ((BitVec.ofInt 64 m&&& BitVec.ofInt 64 (u64.wrap (g-(1:Int)))).toNat))))).toNat*32)) e1)/\(0<=i/\i<(b:Int))/\Is a fun f1:Addr=>∃g1:AV,(g1.size=32/\Cells c1 (f1.add (i.toNat*32)) g1)/\(0<=i/\i<(b:Int))/\Is a fun i1:Addr=>(e1.size=32/\(∀j1∈e1.toList,j1.oneCell'=true)/\∀k1,k1<32->Wr c1 ((i1.add (i.toNat*32)).add k1))/\let m1:=setCells c1 (i1.add (i.toNat*32)) e1.toList 0;(0<=(i64.wrap (d+(i64.wrap (u64.wrap ((BitVec.ofInt 64 m&&& BitVec.ofInt 64 (u64.wrap (g-(1:Int)))).toNat)))))/\(i64.wrap (d+(i64.wrap (u64.wrap ((BitVec.ofInt 64 m&&& BitVec.ofInt 64 (u64.wrap (g-(1:Int)))).toNat)))))<(b:Int))/\Is a fun n1:Addr=>(g1.size=32/\(∀o1∈g1.toList,o1.oneCell'=true)/\∀p1,p1<32->Wr m1 ((n1.add ((i64.wrap (d+(i64.wrap (u64.wrap ((BitVec.ofInt 64 m&&& BitVec.ofInt 64 (u64.wrap (g-(1:Int)))).toNat))))).toNat*32)).add p1))/\let q1:=setCells m1 (n1.add ((i64.wrap (d+(i64.wrap (u64.wrap ((BitVec.ofInt 64 m&&& BitVec.ofInt 64 (u64.wrap (g-(1:Int)))).toNat))))).toNat*32)) g1.toList 0;Q .normal [(0,.slice a b c),(1,.int .i64 d),(8,.int .i64 e),(9,.pointer (some f)),(10,.int .u64 g),(11,.int .i64 (i64.wrap (i+(1:Int))))] q1)) (Q (.exit 0) [(0,.slice a b c),(1,.int .i64 d),(8,.int .i64 e),(9,.pointer (some f)),(10,.int .u64 g),(11,.int .i64 i)] w)
theorem dD.b1:(bg none [] prog 67 dD.k (lB (bB (aZ (sR (cT (aZ (body Tryz.f129))))))) dD.u1 Q [(0,.slice a b c),(1,.int .i64 d),(8,.int .i64 e),(9,.pointer (some f)),(10,.int .u64 g),(11,.int .i64 i)] w)=dD.B1 a b c d e f g i Q w:=by kernel_rfl
variable{aV a b c d e f g}
theorem dD.cf(I:Int->World->Prop)(μ:Int->World->Nat)(s:Int){Q:aM}{w:World}(h0:I s w)
 (round:∀s w,I s w->dD.B1 a b c d e f g s (bR (dD.e1 a b c d e f g) I μ s w Q) w):Holds none [] prog 67 (.loop (lB (bB (aZ (sR (cT (aZ (body Tryz.f129)))))))) Q (dD.e1 a b c d e f g s) w:=
 bt ng mix (dD.e1 a b c d e f g) I μ dD.k dD.u1 s (fun s Q w=>dD.B1 a b c d e f g s Q w) (fun s Q w=>dD.b1 a b c d e f g s Q w) h0 round
end
section
def dD.cX(a:OA)(b c:Nat)(d e:Int)(f:Addr)(g i:Int)(K:KT)(w:World):Prop:=
 K (.tuple #[]) w
variable(aV:Bool)(a:OA)(b c:Nat)(d e:Int)(f:Addr)(g i:Int)(K:KT)(w:World)
theorem dD.dB:(dD.q1 K (.exit 0) [(0,.slice a b c),(1,.int .i64 d),(8,.int .i64 e),(9,.pointer (some f)),(10,.int .u64 g),(11,.int .i64 i)] w)=dD.cX a b c d e f g i K w:=by kernel_rfl
end
def qd.k:List Nat:= []
section
variable(aV:Bool)(a:OA)(b d:Nat)(e f:Int)(g:OA)(K:KT)(w:World)
def qd.W:Prop:=
 let i:=w.alloc (.cells (#[.int .i64 0]:AV) 3);(4:Int)≠0/\(4:Int)≠0/\(4:Int)≠0/\Split (decide ((i64.wrap (f-e))>=(8:Int))) (Split (decide ((i64.wrap (f-e))>=(50:Int))) (bm prog 155 #[.slice a b d,.int .i64 (i64.wrap (e+(i64.wrap ((i64.wrap ((i64.wrap (f-e)).tdiv (4:Int)))*(1:Int))))),.pointer (some (aU w.heap.size)),CL aV g] i fun j k=>∃m:Int,j=.int .i64 m/\bm prog 155 #[.slice a b d,.int .i64 (i64.wrap (e+(i64.wrap ((i64.wrap ((i64.wrap (f-e)).tdiv (4:Int)))*(2:Int))))),.pointer (some (aU w.heap.size)),CL aV g] k fun n o=>∃p:Int,n=.int .i64 p/\bm prog 155 #[.slice a b d,.int .i64 (i64.wrap (e+(i64.wrap ((i64.wrap ((i64.wrap (f-e)).tdiv (4:Int)))*(3:Int))))),.pointer (some (aU w.heap.size)),CL aV g] o fun q r=>∃t:Int,q=.int .i64 t/\bm prog 156 #[.slice a b d,.int .i64 m,.int .i64 p,.int .i64 t,.pointer (some (aU w.heap.size)),CL aV g] r fun u v=>∃x:Int,u=.int .i64 x/\∃y:Int,v.cell? (aU w.heap.size)=some (.int .i64 y)/\Split (y==(0:Int)) (K (.tuple #[.int .i64 x,.int .i64 1]) v) (Split (y==(12:Int)) (K (.tuple #[.int .i64 x,.int .i64 2]) v) (K (.tuple #[.int .i64 x,.int .i64 0]) v))) (bm prog 156 #[.slice a b d,.int .i64 (i64.wrap (e+(i64.wrap ((i64.wrap ((i64.wrap (f-e)).tdiv (4:Int)))*(1:Int))))),.int .i64 (i64.wrap (e+(i64.wrap ((i64.wrap ((i64.wrap (f-e)).tdiv (4:Int)))*(2:Int))))),.int .i64 (i64.wrap (e+(i64.wrap ((i64.wrap ((i64.wrap (f-e)).tdiv (4:Int)))*(3:Int))))),.pointer (some (aU w.heap.size)),CL aV g] i fun z a1=>∃b1:Int,z=.int .i64 b1/\∃c1:Int,a1.cell? (aU w.heap.size)=some (.int .i64 c1)/\Split (c1==(0:Int)) (K (.tuple #[.int .i64 b1,.int .i64 1]) a1) (Split (c1==(12:Int)) (K (.tuple #[.int .i64 b1,.int .i64 2]) a1) (K (.tuple #[.int .i64 b1,.int .i64 0]) a1)))) (∃d1:Int,i.cell? (aU w.heap.size)=some (.int .i64 d1)/\Split (d1==(0:Int)) (K (.tuple #[.int .i64 (i64.wrap (e+(i64.wrap ((i64.wrap ((i64.wrap (f-e)).tdiv (4:Int)))*(2:Int))))),.int .i64 1]) i) (Split (d1==(12:Int)) (K (.tuple #[.int .i64 (i64.wrap (e+(i64.wrap ((i64.wrap ((i64.wrap (f-e)).tdiv (4:Int)))*(2:Int))))),.int .i64 2]) i) (K (.tuple #[.int .i64 (i64.wrap (e+(i64.wrap ((i64.wrap ((i64.wrap (f-e)).tdiv (4:Int)))*(2:Int))))),.int .i64 0]) i)))
variable{aV a b d e f g K w}
theorem qd.of(h:qd.W aV a b d e f g K w):bm prog 130 #[.slice a b d,.int .i64 e,.int .i64 f,CL aV g] w K:=
 by cases aV<;>exact rqq func130 (C:=qd.k) h
end
def dC.k:List Nat:= []
def dC.q1(K:KT):aM:=(aQ 0 (aX f131) (bV prog f131 K))
def dC.e1(a:OA)(b c:Nat)(s:Int×Int):Env:= [(0,.slice a b c),(8,.int .i64 s.1),(9,.int .i64 s.2)]
def dC.u1:List Nat:= [0,8,9]
section
def dC.W(a:OA)(b d:Nat)(e f:Int)(g:OA)(K:KT)(w:World):Prop:=
 Holds none [] prog 34 (.loop (lB (bB (aZ (body f131))))) (dC.q1 K) [(0,.slice a b d),(8,.int .i64 e),(9,.int .i64 (i64.wrap (f-(1:Int))))] w
variable(aV:Bool)(a:OA)(b d:Nat)(e f:Int)(g:OA)(K:KT)(w:World)
variable{aV a b d e f g K w}
theorem dC.of(h:dC.W a b d e f g K w):bm prog 131 #[.slice a b d,.int .i64 e,.int .i64 f,CL aV g] w K:=
 by cases aV<;>exact rqq func131 (C:=dC.k) h
end
section
variable(aV:Bool)(a:OA)(b c:Nat)(d e:Int)(Q:aM)(w:World)
def dC.B1:Prop:=
 Split (decide (d<e)) (let f:=w.drew;(0<=e/\e<(b:Int))/\Is a fun g:Addr=>∃i:AV,(i.size=32/\Cells f (g.add (e.toNat*32)) i)/\(0<=d/\d<(b:Int))/\Is a fun j:Addr=>∃k:AV,(k.size=32/\Cells f (j.add (d.toNat*32)) k)/\(0<=d/\d<(b:Int))/\Is a fun m:Addr=>(i.size=32/\(∀n∈i.toList,n.oneCell'=true)/\∀o,o<32->Wr f ((m.add (d.toNat*32)).add o))/\let p:=setCells f (m.add (d.toNat*32)) i.toList 0;(0<=e/\e<(b:Int))/\Is a fun q:Addr=>(k.size=32/\(∀r∈k.toList,r.oneCell'=true)/\∀t,t<32->Wr p ((q.add (e.toNat*32)).add t))/\let u:=setCells p (q.add (e.toNat*32)) k.toList 0;Q .normal [(0,.slice a b c),(8,.int .i64 (i64.wrap (d+(1:Int)))),(9,.int .i64 (i64.wrap (e-(1:Int))))] u) (Q (.exit 0) [(0,.slice a b c),(8,.int .i64 d),(9,.int .i64 e)] w)
theorem dC.b1:(bg none [] prog 34 dC.k (lB (bB (aZ (body f131)))) dC.u1 Q [(0,.slice a b c),(8,.int .i64 d),(9,.int .i64 e)] w)=dC.B1 a b c d e Q w:=by kernel_rfl
variable{aV a b c}
theorem dC.cf(I:Int×Int->World->Prop)(μ:Int×Int->World->Nat)(s:Int×Int){Q:aM}{w:World}(h0:I s w)
 (round:∀s w,I s w->dC.B1 a b c (s.1) (s.2) (bR (dC.e1 a b c) I μ s w Q) w):Holds none [] prog 34 (.loop (lB (bB (aZ (body f131))))) Q (dC.e1 a b c s) w:=
 bt ng mix (dC.e1 a b c) I μ dC.k dC.u1 s (fun s Q w=>dC.B1 a b c (s.1) (s.2) Q w) (fun s Q w=>dC.b1 a b c (s.1) (s.2) Q w) h0 round
end
section
def dC.cX(a:OA)(b c:Nat)(d e:Int)(K:KT)(w:World):Prop:=
 K (.tuple #[]) w
variable(aV:Bool)(a:OA)(b c:Nat)(d e:Int)(K:KT)(w:World)
theorem dC.dB:(dC.q1 K (.exit 0) [(0,.slice a b c),(8,.int .i64 d),(9,.int .i64 e)] w)=dC.cX a b c d e K w:=by kernel_rfl
end
def bw.k:List Nat:= []
def bw.q1(K:KT):aM:=(aQ 0 (cu (aZ (sR (body f132)))++(aX f132)) (b9 (fun cm w_=>match cutAt bw.k (aZ (sR (body f132)))with|true=>Holds none [] prog 141 (aZ (sR (body f132))) (bV prog f132 K) cm w_|false=>bg none [] prog 141 bw.k (aZ (sR (body f132))) (aX f132) (bV prog f132 K) cm w_) (bV prog f132 K)))
def bw.e1(aV:Bool)(a:OA)(b c:Nat)(d e:Int)(f:OA)(s:Bool×Int×Int):Env:= [(0,.slice a b c),(1,.int .i64 d),(2,.int .i64 e),(3,CL aV f),(8,.bool s.1),(9,.int .i64 s.2.1),(10,.int .i64 s.2.2)]
def bw.u1:List Nat:= [0,1,2,3,8,9,10]
def bw.q2(Q:aM):aM:=(aQ 2 (cu (sR (bB (sL (sR (lB (bB (sR (sL (aZ (body f132))))))))))++(cu (aZ (lB (bB (sR (sL (aZ (body f132)))))))++bw.u1)) (b9 (fun cm w_=>match cutAt bw.k (sR (bB (sL (sR (lB (bB (sR (sL (aZ (body f132))))))))))with|true=>Holds none [] prog 141 (sR (bB (sL (sR (lB (bB (sR (sL (aZ (body f132)))))))))) (aQ 1 (cu (aZ (lB (bB (sR (sL (aZ (body f132)))))))++bw.u1) (b9 (fun cm w_=>match cutAt bw.k (aZ (lB (bB (sR (sL (aZ (body f132)))))))with|true=>Holds none [] prog 141 (aZ (lB (bB (sR (sL (aZ (body f132))))))) Q cm w_|false=>bg none [] prog 141 bw.k (aZ (lB (bB (sR (sL (aZ (body f132))))))) bw.u1 Q cm w_) Q)) cm w_|false=>bg none [] prog 141 bw.k (sR (bB (sL (sR (lB (bB (sR (sL (aZ (body f132)))))))))) (cu (aZ (lB (bB (sR (sL (aZ (body f132)))))))++bw.u1) (aQ 1 (cu (aZ (lB (bB (sR (sL (aZ (body f132)))))))++bw.u1) (b9 (fun cm w_=>match cutAt bw.k (aZ (lB (bB (sR (sL (aZ (body f132)))))))with|true=>Holds none [] prog 141 (aZ (lB (bB (sR (sL (aZ (body f132))))))) Q cm w_|false=>bg none [] prog 141 bw.k (aZ (lB (bB (sR (sL (aZ (body f132))))))) bw.u1 Q cm w_) Q)) cm w_) (aQ 1 (cu (aZ (lB (bB (sR (sL (aZ (body f132)))))))++bw.u1) (b9 (fun cm w_=>match cutAt bw.k (aZ (lB (bB (sR (sL (aZ (body f132)))))))with|true=>Holds none [] prog 141 (aZ (lB (bB (sR (sL (aZ (body f132))))))) Q cm w_|false=>bg none [] prog 141 bw.k (aZ (lB (bB (sR (sL (aZ (body f132))))))) bw.u1 Q cm w_) Q))))
def bw.e2(aV:Bool)(a:OA)(b c:Nat)(d e:Int)(f:OA)(g:Bool)(i s:Int):Env:= [(0,.slice a b c),(1,.int .i64 d),(2,.int .i64 e),(3,CL aV f),(8,.bool g),(9,.int .i64 s),(10,.int .i64 i)]
def bw.u2:List Nat:= [0,1,2,3,8,9,10]
def bw.q3(Q:aM):aM:=(aQ 4 (cu (cS (sR (bB (sL (sR (lB (bB (sR (sL (aZ (body f132)))))))))))++(cu (aZ (lB (bB (sR (sL (aZ (body f132)))))))++bw.u1)) (b9 (fun cm w_=>match cutAt bw.k (cS (sR (bB (sL (sR (lB (bB (sR (sL (aZ (body f132)))))))))))with|true=>Holds none [] prog 141 (cS (sR (bB (sL (sR (lB (bB (sR (sL (aZ (body f132))))))))))) (aQ 1 (cu (aZ (lB (bB (sR (sL (aZ (body f132)))))))++bw.u1) (b9 (fun cm w_=>match cutAt bw.k (aZ (lB (bB (sR (sL (aZ (body f132)))))))with|true=>Holds none [] prog 141 (aZ (lB (bB (sR (sL (aZ (body f132))))))) Q cm w_|false=>bg none [] prog 141 bw.k (aZ (lB (bB (sR (sL (aZ (body f132))))))) bw.u1 Q cm w_) Q)) cm w_|false=>bg none [] prog 141 bw.k (cS (sR (bB (sL (sR (lB (bB (sR (sL (aZ (body f132))))))))))) (cu (aZ (lB (bB (sR (sL (aZ (body f132)))))))++bw.u1) (aQ 1 (cu (aZ (lB (bB (sR (sL (aZ (body f132)))))))++bw.u1) (b9 (fun cm w_=>match cutAt bw.k (aZ (lB (bB (sR (sL (aZ (body f132)))))))with|true=>Holds none [] prog 141 (aZ (lB (bB (sR (sL (aZ (body f132))))))) Q cm w_|false=>bg none [] prog 141 bw.k (aZ (lB (bB (sR (sL (aZ (body f132))))))) bw.u1 Q cm w_) Q)) cm w_) (aQ 1 (cu (aZ (lB (bB (sR (sL (aZ (body f132)))))))++bw.u1) (b9 (fun cm w_=>match cutAt bw.k (aZ (lB (bB (sR (sL (aZ (body f132)))))))with|true=>Holds none [] prog 141 (aZ (lB (bB (sR (sL (aZ (body f132))))))) Q cm w_|false=>bg none [] prog 141 bw.k (aZ (lB (bB (sR (sL (aZ (body f132))))))) bw.u1 Q cm w_) Q))))
def bw.q4(Q:aM):aM:=(aQ 6 (cu (aZ (lB (bB (sR (sL (aZ (body f132)))))))++bw.u1) (aQ 1 (cu (aZ (lB (bB (sR (sL (aZ (body f132)))))))++bw.u1) (b9 (fun cm w_=>match cutAt bw.k (aZ (lB (bB (sR (sL (aZ (body f132)))))))with|true=>Holds none [] prog 141 (aZ (lB (bB (sR (sL (aZ (body f132))))))) Q cm w_|false=>bg none [] prog 141 bw.k (aZ (lB (bB (sR (sL (aZ (body f132))))))) bw.u1 Q cm w_) Q)))
section
variable(aV:Bool)(a:OA)(b d:Nat)(e f:Int)(g:OA)(K:KT)(w:World)
def bw.W:Prop:=
 Holds none [] prog 141 (.loop (lB (bB (sR (sL (aZ (body f132))))))) (bw.q1 K) [(0,.slice a b d),(1,.int .i64 e),(2,.int .i64 f),(3,CL aV g),(8,.bool false),(9,.int .i64 (i64.wrap (e+(1:Int)))),(10,.int .i64 0)] w
variable{aV a b d e f g K w}
theorem bw.of(h:bw.W aV a b d e f g K w):bm prog 132 #[.slice a b d,.int .i64 e,.int .i64 f,CL aV g] w K:=
 by cases aV<;>exact rqq func132 (C:=bw.k) h
end
section
variable(aV:Bool)(a:OA)(b c:Nat)(d e:Int)(f:OA)(g:Bool)(i j:Int)(Q:aM)(w:World)
def bw.B1:Prop:=
 Split (decide (j<(5:Int))) (Holds none [] prog 141 (.loop (lB (bB (sL (bB (sL (sR (lB (bB (sR (sL (aZ (body f132))))))))))))) (bw.q2 Q) [(0,.slice a b c),(1,.int .i64 d),(2,.int .i64 e),(3,CL aV f),(8,.bool g),(9,.int .i64 i),(10,.int .i64 j)] w) (Q (.exit 0) [(0,.slice a b c),(1,.int .i64 d),(2,.int .i64 e),(3,CL aV f),(8,.bool g),(9,.int .i64 i),(10,.int .i64 j)] w)
theorem bw.b1:(bg none [] prog 141 bw.k (lB (bB (sR (sL (aZ (body f132)))))) bw.u1 Q [(0,.slice a b c),(1,.int .i64 d),(2,.int .i64 e),(3,CL aV f),(8,.bool g),(9,.int .i64 i),(10,.int .i64 j)] w)=bw.B1 aV a b c d e f g i j Q w:=by cases aV<;>kernel_rfl
variable{aV a b c d e f}
theorem bw.cf(I:Bool×Int×Int->World->Prop)(μ:Bool×Int×Int->World->Nat)(s:Bool×Int×Int){Q:aM}{w:World}(h0:I s w)
 (round:∀s w,I s w->bw.B1 aV a b c d e f (s.1) (s.2.1) (s.2.2) (bR (bw.e1 aV a b c d e f) I μ s w Q) w):Holds none [] prog 141 (.loop (lB (bB (sR (sL (aZ (body f132))))))) Q (bw.e1 aV a b c d e f s) w:=
 bt ng mix (bw.e1 aV a b c d e f) I μ bw.k bw.u1 s (fun s Q w=>bw.B1 aV a b c d e f (s.1) (s.2.1) (s.2.2) Q w) (fun s Q w=>bw.b1 aV a b c d e f (s.1) (s.2.1) (s.2.2) Q w) h0 round
end
section
variable(aV:Bool)(a:OA)(b c:Nat)(d e:Int)(f:OA)(g:Bool)(i j:Int)(K:KT)(w:World)
end
section
variable(aV:Bool)(a:OA)(b c:Nat)(d e:Int)(f:OA)(g:Bool)(i j:Int)(Q:aM)(w:World)
def bw.B2:Prop:=
 let k:=w.drew;Split (decide (i<e)) ((0<=i/\i<(b:Int))/\Is a fun m:Addr=>∃n:AV,(n.size=32/\Cells k (m.add (i.toNat*32)) n)/\(0<=(i64.wrap (i-(1:Int)))/\(i64.wrap (i-(1:Int)))<(b:Int))/\Is a fun o:Addr=>∃p:AV,(p.size=32/\Cells k (o.add ((i64.wrap (i-(1:Int))).toNat*32)) p)/\bm prog (CF aV) (CA aV f n p) k fun q r=>∃t:Int,q=.int .i64 t/\Split (!(decide (t<(0:Int)))) (Q .normal [(0,.slice a b c),(1,.int .i64 d),(2,.int .i64 e),(3,CL aV f),(8,.bool g),(9,.int .i64 (i64.wrap (i+(1:Int)))),(10,.int .i64 j)] r) (Q (.exit 2) [(0,.slice a b c),(1,.int .i64 d),(2,.int .i64 e),(3,CL aV f),(8,.bool g),(9,.int .i64 i),(10,.int .i64 j)] r)) (Q (.exit 2) [(0,.slice a b c),(1,.int .i64 d),(2,.int .i64 e),(3,CL aV f),(8,.bool g),(9,.int .i64 i),(10,.int .i64 j)] k)
theorem bw.b2:(bg none [] prog 141 bw.k (lB (bB (sL (bB (sL (sR (lB (bB (sR (sL (aZ (body f132)))))))))))) bw.u2 Q [(0,.slice a b c),(1,.int .i64 d),(2,.int .i64 e),(3,CL aV f),(8,.bool g),(9,.int .i64 i),(10,.int .i64 j)] w)=bw.B2 aV a b c d e f g i j Q w:=by cases aV<;>kernel_rfl
variable{aV a b c d e f g j}
theorem bw.iN(I:Int->World->Prop)(μ:Int->World->Nat)(s:Int){Q:aM}{w:World}(h0:I s w)
 (round:∀s w,I s w->bw.B2 aV a b c d e f g s j (bR (bw.e2 aV a b c d e f g j) I μ s w Q) w):Holds none [] prog 141 (.loop (lB (bB (sL (bB (sL (sR (lB (bB (sR (sL (aZ (body f132))))))))))))) Q (bw.e2 aV a b c d e f g j s) w:=
 bt ng mix (bw.e2 aV a b c d e f g j) I μ bw.k bw.u2 s (fun s Q w=>bw.B2 aV a b c d e f g s j Q w) (fun s Q w=>bw.b2 aV a b c d e f g s j Q w) h0 round
end
section
variable(aV:Bool)(a:OA)(b c:Nat)(d e:Int)(f:OA)(g:Bool)(i j:Int)(Q:aM)(w:World)
def bw.jY:Prop:=
 Split (i==e) (Q .ret [(0,.slice a b c),(1,.int .i64 d),(2,.int .i64 e),(3,CL aV f),(8,.bool true),(9,.int .i64 i),(10,.int .i64 j)] w) (Split (decide ((i64.wrap (e-d))<(50:Int))) (Q .ret [(0,.slice a b c),(1,.int .i64 d),(2,.int .i64 e),(3,CL aV f),(8,.bool false),(9,.int .i64 i),(10,.int .i64 j)] w) (let k:=w.drew;(0<=(i64.wrap (i-(1:Int)))/\(i64.wrap (i-(1:Int)))<(b:Int))/\Is a fun m:Addr=>∃n:AV,(n.size=32/\Cells k (m.add ((i64.wrap (i-(1:Int))).toNat*32)) n)/\(0<=i/\i<(b:Int))/\Is a fun o:Addr=>∃p:AV,(p.size=32/\Cells k (o.add (i.toNat*32)) p)/\(0<=i/\i<(b:Int))/\Is a fun q:Addr=>(n.size=32/\(∀r∈n.toList,r.oneCell'=true)/\∀t,t<32->Wr k ((q.add (i.toNat*32)).add t))/\let u:=setCells k (q.add (i.toNat*32)) n.toList 0;(0<=(i64.wrap (i-(1:Int)))/\(i64.wrap (i-(1:Int)))<(b:Int))/\Is a fun v:Addr=>(p.size=32/\(∀x∈p.toList,x.oneCell'=true)/\∀y,y<32->Wr u ((v.add ((i64.wrap (i-(1:Int))).toNat*32)).add y))/\let z:=setCells u (v.add ((i64.wrap (i-(1:Int))).toNat*32)) p.toList 0;Split (decide ((i64.wrap (i-d))>=(2:Int))) (Holds none [] prog 141 (.loop (lB (bB (sR (cT (sR (sL (cS (bB (sL (sR (lB (bB (sR (sL (aZ (body f132))))))))))))))))) (bw.q3 Q) [(0,.slice a b c),(1,.int .i64 d),(2,.int .i64 e),(3,CL aV f),(8,.bool g),(9,.int .i64 i),(10,.int .i64 j),(11,.int .i64 (i64.wrap (i-(1:Int))))] z) (Split (decide ((i64.wrap (e-i))>=(2:Int))) (Holds none [] prog 141 (.loop (lB (bB (sR (cT (cS (aZ (bB (sL (sR (lB (bB (sR (sL (aZ (body f132)))))))))))))))) (bw.q4 Q) [(0,.slice a b c),(1,.int .i64 d),(2,.int .i64 e),(3,CL aV f),(8,.bool g),(9,.int .i64 i),(10,.int .i64 j),(12,.int .i64 (i64.wrap (i+(1:Int))))] z) (Q .normal [(0,.slice a b c),(1,.int .i64 d),(2,.int .i64 e),(3,CL aV f),(8,.bool g),(9,.int .i64 i),(10,.int .i64 (i64.wrap (j+(1:Int))))] z))))
theorem bw.lL:(bw.q2 Q (.exit 2) [(0,.slice a b c),(1,.int .i64 d),(2,.int .i64 e),(3,CL aV f),(8,.bool g),(9,.int .i64 i),(10,.int .i64 j)] w)=bw.jY aV a b c d e f g i j Q w:=by cases aV<;>kernel_rfl
end
section
variable(aV:Bool)(a:OA)(b c:Nat)(d e:Int)(f:OA)(g:Bool)(i j k:Int)(Q:aM)(w:World)
variable{aV a b c d e f g i j}
end
section
variable(aV:Bool)(a:OA)(b c:Nat)(d e:Int)(f:OA)(g:Bool)(i j k:Int)(Q:aM)(w:World)
end
section
variable(aV:Bool)(a:OA)(b c:Nat)(d e:Int)(f:OA)(g:Bool)(i j k:Int)(Q:aM)(w:World)
variable{aV a b c d e f g i j}
end
section
variable(aV:Bool)(a:OA)(b c:Nat)(d e:Int)(f:OA)(g:Bool)(i j k:Int)(Q:aM)(w:World)
end
section
variable(aV:Bool)(a:OA)(b d:Nat)(e f g:Int)(i:OA)(K:KT)(w:World)
variable{aV a b d e f g i K w}
end
section
variable(aV:Bool)(a:OA)(b c:Nat)(d:Int)(e:OA)(f g i:Int)(Q:aM)(w:World)
variable{aV a b c d e f}
end
section
variable(aV:Bool)(a:OA)(b c:Nat)(d:Int)(e:OA)(f g i:Int)(Q:aM)(w:World)
variable{aV a b c d e f i}
end
section
variable(aV:Bool)(a:OA)(b c:Nat)(d:Int)(e:OA)(f g i:Int)(Q:aM)(w:World)
end
section
variable(aV:Bool)(a:OA)(b c:Nat)(d:Int)(e:OA)(f g i:Int)(Q:aM)(w:World)
variable{aV a b c d e f g}
end
section
variable(aV:Bool)(a:OA)(b c:Nat)(d:Int)(e:OA)(f g i:Int)(Q:aM)(w:World)
end
section
variable(aV:Bool)(a:OA)(b c:Nat)(d:Int)(e:OA)(f g i:Int)(K:KT)(w:World)
end
def aL.k:List Nat:= []
def aL.q1(K:KT):aM:=(aQ 0 (cu (cS (body f134))++(aX f134)) (b9 (fun cm w_=>match cutAt aL.k (cS (body f134))with|true=>Holds none [] prog 178 (cS (body f134)) (bV prog f134 K) cm w_|false=>bg none [] prog 178 aL.k (cS (body f134)) (aX f134) (bV prog f134 K) cm w_) (bV prog f134 K)))
def aL.e1(aV:Bool)(a:OA)(b c:Nat)(d:Int)(e:OA)(f g s:Int):Env:= [(0,.slice a b c),(1,.int .i64 d),(4,CL aV e),(10,.int .i64 f),(11,.bool false),(12,.int .i64 s),(13,.int .i64 g)]
def aL.u1:List Nat:= [0,1,4,10,11,12,13]
def aL.q2(K:KT):aM:=(aQ 2 (cu (cS (sR (body f134)))++(aX f134)) (b9 (fun cm w_=>match cutAt aL.k (cS (sR (body f134)))with|true=>Holds none [] prog 178 (cS (sR (body f134))) (bV prog f134 K) cm w_|false=>bg none [] prog 178 aL.k (cS (sR (body f134))) (aX f134) (bV prog f134 K) cm w_) (bV prog f134 K)))
def aL.e2(aV:Bool)(a:OA)(b c:Nat)(d:Int)(e:OA)(f g s:Int):Env:= [(0,.slice a b c),(1,.int .i64 d),(4,CL aV e),(10,.int .i64 f),(11,.bool false),(12,.int .i64 g),(13,.int .i64 s)]
def aL.u2:List Nat:= [0,1,4,10,11,12,13]
def aL.q3(K:KT):aM:=(aQ 4 (cu (dZ (aZ (body f134)))++(aX f134)) (b9 (fun cm w_=>match cutAt aL.k (dZ (aZ (body f134)))with|true=>Holds none [] prog 178 (dZ (aZ (body f134))) (bV prog f134 K) cm w_|false=>bg none [] prog 178 aL.k (dZ (aZ (body f134))) (aX f134) (bV prog f134 K) cm w_) (bV prog f134 K)))
def aL.e3(aV:Bool)(a:OA)(b c:Nat)(d:Int)(e:OA)(f:Int)(s:Int×Int):Env:= [(0,.slice a b c),(1,.int .i64 d),(4,CL aV e),(10,.int .i64 f),(11,.bool false),(12,.int .i64 s.1),(13,.int .i64 s.2)]
def aL.u3:List Nat:= [0,1,4,10,11,12,13]
def aL.q4(Q:aM):aM:=(aQ 6 (cu (sR (bB (lB (bB (sL (dZ (sR (body f134))))))))++aL.u3) (b9 (fun cm w_=>match cutAt aL.k (sR (bB (lB (bB (sL (dZ (sR (body f134))))))))with|true=>Holds none [] prog 178 (sR (bB (lB (bB (sL (dZ (sR (body f134)))))))) (aQ 5 aL.u3 Q) cm w_|false=>bg none [] prog 178 aL.k (sR (bB (lB (bB (sL (dZ (sR (body f134)))))))) aL.u3 (aQ 5 aL.u3 Q) cm w_) (aQ 5 aL.u3 Q)))
def aL.e4(aV:Bool)(a:OA)(b c:Nat)(d:Int)(e:OA)(f g s:Int):Env:= [(0,.slice a b c),(1,.int .i64 d),(4,CL aV e),(10,.int .i64 f),(11,.bool false),(12,.int .i64 s),(13,.int .i64 g)]
def aL.u4:List Nat:= [0,1,4,10,11,12,13]
def aL.q5(Q:aM):aM:=(aQ 8 (cu (aZ (bB (lB (bB (sL (dZ (sR (body f134))))))))++aL.u3) (b9 (fun cm w_=>match cutAt aL.k (aZ (bB (lB (bB (sL (dZ (sR (body f134))))))))with|true=>Holds none [] prog 178 (aZ (bB (lB (bB (sL (dZ (sR (body f134)))))))) (aQ 5 aL.u3 Q) cm w_|false=>bg none [] prog 178 aL.k (aZ (bB (lB (bB (sL (dZ (sR (body f134)))))))) aL.u3 (aQ 5 aL.u3 Q) cm w_) (aQ 5 aL.u3 Q)))
def aL.e5(aV:Bool)(a:OA)(b c:Nat)(d:Int)(e:OA)(f g s:Int):Env:= [(0,.slice a b c),(1,.int .i64 d),(4,CL aV e),(10,.int .i64 f),(11,.bool false),(12,.int .i64 g),(13,.int .i64 s)]
def aL.u5:List Nat:= [0,1,4,10,11,12,13]
section
variable(aV:Bool)(a:OA)(b d:Nat)(e f g:Int)(i:OA)(K:KT)(w:World)
def aL.W:Prop:=
 let j:=w.drew;(0<=g/\g<(b:Int))/\Is a fun k:Addr=>∃m:AV,(m.size=32/\Cells j (k.add (g.toNat*32)) m)/\(0<=e/\e<(b:Int))/\Is a fun n:Addr=>∃o:AV,(o.size=32/\Cells j (n.add (e.toNat*32)) o)/\(0<=e/\e<(b:Int))/\Is a fun p:Addr=>(m.size=32/\(∀q∈m.toList,q.oneCell'=true)/\∀r,r<32->Wr j ((p.add (e.toNat*32)).add r))/\let t:=setCells j (p.add (e.toNat*32)) m.toList 0;(0<=g/\g<(b:Int))/\Is a fun u:Addr=>(o.size=32/\(∀v∈o.toList,v.oneCell'=true)/\∀x,x<32->Wr t ((u.add (g.toNat*32)).add x))/\let y:=setCells t (u.add (g.toNat*32)) o.toList 0;Holds none [] prog 178 (.loop (lB (bB (sL (aZ (sR (body f134))))))) (aL.q1 K) [(0,.slice a b d),(1,.int .i64 e),(4,CL aV i),(10,.int .i64 0),(11,.bool false),(12,.int .i64 (i64.wrap (e+(1:Int)))),(13,.int .i64 (i64.wrap (f-(1:Int))))] y
variable{aV a b d e f g i K w}
theorem aL.of(h:aL.W aV a b d e f g i K w):bm prog 134 #[.slice a b d,.int .i64 e,.int .i64 f,.int .i64 g,CL aV i] w K:=
 by cases aV<;>exact rqq func134 (C:=aL.k) h
end
section
variable(aV:Bool)(a:OA)(b c:Nat)(d:Int)(e:OA)(f g i:Int)(Q:aM)(w:World)
def aL.B1:Prop:=
 let j:=w.drew;Split (decide (g<=i)) ((0<=g/\g<(b:Int))/\Is a fun k:Addr=>∃m:AV,(m.size=32/\Cells j (k.add (g.toNat*32)) m)/\(0<=d/\d<(b:Int))/\Is a fun n:Addr=>∃o:AV,(o.size=32/\Cells j (n.add (d.toNat*32)) o)/\bm prog (CF aV) (CA aV e m o) j fun p q=>∃r:Int,p=.int .i64 r/\Split (decide (r<(0:Int))) (Q .normal [(0,.slice a b c),(1,.int .i64 d),(4,CL aV e),(10,.int .i64 f),(11,.bool false),(12,.int .i64 (i64.wrap (g+(1:Int)))),(13,.int .i64 i)] q) (Q (.exit 0) [(0,.slice a b c),(1,.int .i64 d),(4,CL aV e),(10,.int .i64 f),(11,.bool false),(12,.int .i64 g),(13,.int .i64 i)] q)) (Q (.exit 0) [(0,.slice a b c),(1,.int .i64 d),(4,CL aV e),(10,.int .i64 f),(11,.bool false),(12,.int .i64 g),(13,.int .i64 i)] j)
theorem aL.b1:(bg none [] prog 178 aL.k (lB (bB (sL (aZ (sR (body f134)))))) aL.u1 Q [(0,.slice a b c),(1,.int .i64 d),(4,CL aV e),(10,.int .i64 f),(11,.bool false),(12,.int .i64 g),(13,.int .i64 i)] w)=aL.B1 aV a b c d e f g i Q w:=by cases aV<;>kernel_rfl
variable{aV a b c d e f i}
theorem aL.cf(I:Int->World->Prop)(μ:Int->World->Nat)(s:Int){Q:aM}{w:World}(h0:I s w)
 (round:∀s w,I s w->aL.B1 aV a b c d e f s i (bR (aL.e1 aV a b c d e f i) I μ s w Q) w):Holds none [] prog 178 (.loop (lB (bB (sL (aZ (sR (body f134))))))) Q (aL.e1 aV a b c d e f i s) w:=
 bt ng mix (aL.e1 aV a b c d e f i) I μ aL.k aL.u1 s (fun s Q w=>aL.B1 aV a b c d e f s i Q w) (fun s Q w=>aL.b1 aV a b c d e f s i Q w) h0 round
end
section
variable(aV:Bool)(a:OA)(b c:Nat)(d:Int)(e:OA)(f g i:Int)(K:KT)(w:World)
def aL.cX:Prop:=
 Holds none [] prog 178 (.loop (lB (bB (sL (cS (body f134)))))) (aL.q2 K) [(0,.slice a b c),(1,.int .i64 d),(4,CL aV e),(10,.int .i64 f),(11,.bool false),(12,.int .i64 g),(13,.int .i64 i)] w
theorem aL.dB:(aL.q1 K (.exit 0) [(0,.slice a b c),(1,.int .i64 d),(4,CL aV e),(10,.int .i64 f),(11,.bool false),(12,.int .i64 g),(13,.int .i64 i)] w)=aL.cX aV a b c d e f g i K w:=by cases aV<;>kernel_rfl
end
section
variable(aV:Bool)(a:OA)(b c:Nat)(d:Int)(e:OA)(f g i:Int)(Q:aM)(w:World)
def aL.B2:Prop:=
 let j:=w.drew;Split (decide (g<=i)) ((0<=i/\i<(b:Int))/\Is a fun k:Addr=>∃m:AV,(m.size=32/\Cells j (k.add (i.toNat*32)) m)/\(0<=d/\d<(b:Int))/\Is a fun n:Addr=>∃o:AV,(o.size=32/\Cells j (n.add (d.toNat*32)) o)/\bm prog (CF aV) (CA aV e m o) j fun p q=>∃r:Int,p=.int .i64 r/\Split (!(decide (r<(0:Int)))) (Q .normal [(0,.slice a b c),(1,.int .i64 d),(4,CL aV e),(10,.int .i64 f),(11,.bool false),(12,.int .i64 g),(13,.int .i64 (i64.wrap (i-(1:Int))))] q) (Q (.exit 2) [(0,.slice a b c),(1,.int .i64 d),(4,CL aV e),(10,.int .i64 f),(11,.bool false),(12,.int .i64 g),(13,.int .i64 i)] q)) (Q (.exit 2) [(0,.slice a b c),(1,.int .i64 d),(4,CL aV e),(10,.int .i64 f),(11,.bool false),(12,.int .i64 g),(13,.int .i64 i)] j)
theorem aL.b2:(bg none [] prog 178 aL.k (lB (bB (sL (cS (body f134))))) aL.u2 Q [(0,.slice a b c),(1,.int .i64 d),(4,CL aV e),(10,.int .i64 f),(11,.bool false),(12,.int .i64 g),(13,.int .i64 i)] w)=aL.B2 aV a b c d e f g i Q w:=by cases aV<;>kernel_rfl
variable{aV a b c d e f g}
theorem aL.iN(I:Int->World->Prop)(μ:Int->World->Nat)(s:Int){Q:aM}{w:World}(h0:I s w)
 (round:∀s w,I s w->aL.B2 aV a b c d e f g s (bR (aL.e2 aV a b c d e f g) I μ s w Q) w):Holds none [] prog 178 (.loop (lB (bB (sL (cS (body f134)))))) Q (aL.e2 aV a b c d e f g s) w:=
 bt ng mix (aL.e2 aV a b c d e f g) I μ aL.k aL.u2 s (fun s Q w=>aL.B2 aV a b c d e f g s Q w) (fun s Q w=>aL.b2 aV a b c d e f g s Q w) h0 round
end
section
variable(aV:Bool)(a:OA)(b c:Nat)(d:Int)(e:OA)(f g i:Int)(K:KT)(w:World)
def aL.jY:Prop:=
 Split (decide (g>i)) (let j:=w.drew;(0<=d/\d<(b:Int))/\Is a fun k:Addr=>∃m:AV,(m.size=32/\Cells j (k.add (d.toNat*32)) m)/\(0<=i/\i<(b:Int))/\Is a fun n:Addr=>∃o:AV,(o.size=32/\Cells j (n.add (i.toNat*32)) o)/\(0<=i/\i<(b:Int))/\Is a fun p:Addr=>(m.size=32/\(∀q∈m.toList,q.oneCell'=true)/\∀r,r<32->Wr j ((p.add (i.toNat*32)).add r))/\let t:=setCells j (p.add (i.toNat*32)) m.toList 0;(0<=d/\d<(b:Int))/\Is a fun u:Addr=>(o.size=32/\(∀v∈o.toList,v.oneCell'=true)/\∀x,x<32->Wr t ((u.add (d.toNat*32)).add x))/\let y:=setCells t (u.add (d.toNat*32)) o.toList 0;K (.tuple #[.int .i64 i,.bool true]) y) (let z:=w.drew;(0<=i/\i<(b:Int))/\Is a fun a1:Addr=>∃b1:AV,(b1.size=32/\Cells z (a1.add (i.toNat*32)) b1)/\(0<=g/\g<(b:Int))/\Is a fun c1:Addr=>∃d1:AV,(d1.size=32/\Cells z (c1.add (g.toNat*32)) d1)/\(0<=g/\g<(b:Int))/\Is a fun e1:Addr=>(b1.size=32/\(∀f1∈b1.toList,f1.oneCell'=true)/\∀g1,g1<32->Wr z ((e1.add (g.toNat*32)).add g1))/\let i1:=setCells z (e1.add (g.toNat*32)) b1.toList 0;(0<=i/\i<(b:Int))/\Is a fun j1:Addr=>(d1.size=32/\(∀k1∈d1.toList,k1.oneCell'=true)/\∀m1,m1<32->Wr i1 ((j1.add (i.toNat*32)).add m1))/\let n1:=setCells i1 (j1.add (i.toNat*32)) d1.toList 0;Holds none [] prog 178 (.loop (lB (bB (sL (dZ (sR (body f134))))))) (aL.q3 K) [(0,.slice a b c),(1,.int .i64 d),(4,CL aV e),(10,.int .i64 f),(11,.bool false),(12,.int .i64 (i64.wrap (g+(1:Int)))),(13,.int .i64 (i64.wrap (i-(1:Int))))] n1)
theorem aL.lL:(aL.q2 K (.exit 2) [(0,.slice a b c),(1,.int .i64 d),(4,CL aV e),(10,.int .i64 f),(11,.bool false),(12,.int .i64 g),(13,.int .i64 i)] w)=aL.jY aV a b c d e f g i K w:=by cases aV<;>kernel_rfl
end
section
variable(aV:Bool)(a:OA)(b c:Nat)(d:Int)(e:OA)(f g i:Int)(Q:aM)(w:World)
def aL.B3:Prop:=
 Holds none [] prog 178 (.loop (lB (bB (sL (bB (lB (bB (sL (dZ (sR (body f134))))))))))) (aL.q4 Q) [(0,.slice a b c),(1,.int .i64 d),(4,CL aV e),(10,.int .i64 f),(11,.bool false),(12,.int .i64 g),(13,.int .i64 i)] w
theorem aL.b3:(bg none [] prog 178 aL.k (lB (bB (sL (dZ (sR (body f134)))))) aL.u3 Q [(0,.slice a b c),(1,.int .i64 d),(4,CL aV e),(10,.int .i64 f),(11,.bool false),(12,.int .i64 g),(13,.int .i64 i)] w)=aL.B3 aV a b c d e f g i Q w:=by cases aV<;>kernel_rfl
variable{aV a b c d e f}
theorem aL.wT(I:Int×Int->World->Prop)(μ:Int×Int->World->Nat)(s:Int×Int){Q:aM}{w:World}(h0:I s w)
 (round:∀s w,I s w->aL.B3 aV a b c d e f (s.1) (s.2) (bR (aL.e3 aV a b c d e f) I μ s w Q) w):Holds none [] prog 178 (.loop (lB (bB (sL (dZ (sR (body f134))))))) Q (aL.e3 aV a b c d e f s) w:=
 bt ng mix (aL.e3 aV a b c d e f) I μ aL.k aL.u3 s (fun s Q w=>aL.B3 aV a b c d e f (s.1) (s.2) Q w) (fun s Q w=>aL.b3 aV a b c d e f (s.1) (s.2) Q w) h0 round
end
section
variable(aV:Bool)(a:OA)(b c:Nat)(d:Int)(e:OA)(f g i:Int)(Q:aM)(w:World)
def aL.B4:Prop:=
 let j:=w.drew;Split (decide (g<=i)) ((0<=g/\g<(b:Int))/\Is a fun k:Addr=>∃m:AV,(m.size=32/\Cells j (k.add (g.toNat*32)) m)/\(0<=d/\d<(b:Int))/\Is a fun n:Addr=>∃o:AV,(o.size=32/\Cells j (n.add (d.toNat*32)) o)/\bm prog (CF aV) (CA aV e m o) j fun p q=>∃r:Int,p=.int .i64 r/\Split (decide (r<(0:Int))) (Q .normal [(0,.slice a b c),(1,.int .i64 d),(4,CL aV e),(10,.int .i64 f),(11,.bool false),(12,.int .i64 (i64.wrap (g+(1:Int)))),(13,.int .i64 i)] q) (Q (.exit 6) [(0,.slice a b c),(1,.int .i64 d),(4,CL aV e),(10,.int .i64 f),(11,.bool false),(12,.int .i64 g),(13,.int .i64 i)] q)) (Q (.exit 6) [(0,.slice a b c),(1,.int .i64 d),(4,CL aV e),(10,.int .i64 f),(11,.bool false),(12,.int .i64 g),(13,.int .i64 i)] j)
theorem aL.b4:(bg none [] prog 178 aL.k (lB (bB (sL (bB (lB (bB (sL (dZ (sR (body f134)))))))))) aL.u4 Q [(0,.slice a b c),(1,.int .i64 d),(4,CL aV e),(10,.int .i64 f),(11,.bool false),(12,.int .i64 g),(13,.int .i64 i)] w)=aL.B4 aV a b c d e f g i Q w:=by cases aV<;>kernel_rfl
variable{aV a b c d e f i}
theorem aL.Ny(I:Int->World->Prop)(μ:Int->World->Nat)(s:Int){Q:aM}{w:World}(h0:I s w)
 (round:∀s w,I s w->aL.B4 aV a b c d e f s i (bR (aL.e4 aV a b c d e f i) I μ s w Q) w):Holds none [] prog 178 (.loop (lB (bB (sL (bB (lB (bB (sL (dZ (sR (body f134))))))))))) Q (aL.e4 aV a b c d e f i s) w:=
 bt ng mix (aL.e4 aV a b c d e f i) I μ aL.k aL.u4 s (fun s Q w=>aL.B4 aV a b c d e f s i Q w) (fun s Q w=>aL.b4 aV a b c d e f s i Q w) h0 round
end
section
variable(aV:Bool)(a:OA)(b c:Nat)(d:Int)(e:OA)(f g i:Int)(Q:aM)(w:World)
def aL.LQ:Prop:=
 Holds none [] prog 178 (.loop (lB (bB (sL (sR (bB (lB (bB (sL (dZ (sR (body f134)))))))))))) (aL.q5 Q) [(0,.slice a b c),(1,.int .i64 d),(4,CL aV e),(10,.int .i64 f),(11,.bool false),(12,.int .i64 g),(13,.int .i64 i)] w
theorem aL.MX:(aL.q4 Q (.exit 6) [(0,.slice a b c),(1,.int .i64 d),(4,CL aV e),(10,.int .i64 f),(11,.bool false),(12,.int .i64 g),(13,.int .i64 i)] w)=aL.LQ aV a b c d e f g i Q w:=by cases aV<;>kernel_rfl
end
section
variable(aV:Bool)(a:OA)(b c:Nat)(d:Int)(e:OA)(f g i:Int)(Q:aM)(w:World)
def aL.B5:Prop:=
 let j:=w.drew;Split (decide (g<=i)) ((0<=i/\i<(b:Int))/\Is a fun k:Addr=>∃m:AV,(m.size=32/\Cells j (k.add (i.toNat*32)) m)/\(0<=d/\d<(b:Int))/\Is a fun n:Addr=>∃o:AV,(o.size=32/\Cells j (n.add (d.toNat*32)) o)/\bm prog (CF aV) (CA aV e m o) j fun p q=>∃r:Int,p=.int .i64 r/\Split (!(decide (r<(0:Int)))) (Q .normal [(0,.slice a b c),(1,.int .i64 d),(4,CL aV e),(10,.int .i64 f),(11,.bool false),(12,.int .i64 g),(13,.int .i64 (i64.wrap (i-(1:Int))))] q) (Q (.exit 8) [(0,.slice a b c),(1,.int .i64 d),(4,CL aV e),(10,.int .i64 f),(11,.bool false),(12,.int .i64 g),(13,.int .i64 i)] q)) (Q (.exit 8) [(0,.slice a b c),(1,.int .i64 d),(4,CL aV e),(10,.int .i64 f),(11,.bool false),(12,.int .i64 g),(13,.int .i64 i)] j)
theorem aL.b5:(bg none [] prog 178 aL.k (lB (bB (sL (sR (bB (lB (bB (sL (dZ (sR (body f134))))))))))) aL.u5 Q [(0,.slice a b c),(1,.int .i64 d),(4,CL aV e),(10,.int .i64 f),(11,.bool false),(12,.int .i64 g),(13,.int .i64 i)] w)=aL.B5 aV a b c d e f g i Q w:=by cases aV<;>kernel_rfl
variable{aV a b c d e f g}
theorem aL.Nx(I:Int->World->Prop)(μ:Int->World->Nat)(s:Int){Q:aM}{w:World}(h0:I s w)
 (round:∀s w,I s w->aL.B5 aV a b c d e f g s (bR (aL.e5 aV a b c d e f g) I μ s w Q) w):Holds none [] prog 178 (.loop (lB (bB (sL (sR (bB (lB (bB (sL (dZ (sR (body f134)))))))))))) Q (aL.e5 aV a b c d e f g s) w:=
 bt ng mix (aL.e5 aV a b c d e f g) I μ aL.k aL.u5 s (fun s Q w=>aL.B5 aV a b c d e f g s Q w) (fun s Q w=>aL.b5 aV a b c d e f g s Q w) h0 round
end
section
variable(aV:Bool)(a:OA)(b c:Nat)(d:Int)(e:OA)(f g i:Int)(Q:aM)(w:World)
def aL.LP:Prop:=
 Split (decide (g>i)) (Q (.exit 4) [(0,.slice a b c),(1,.int .i64 d),(4,CL aV e),(10,.int .i64 f),(11,.bool false),(12,.int .i64 g),(13,.int .i64 i)] w) (let j:=w.drew;(0<=i/\i<(b:Int))/\Is a fun k:Addr=>∃m:AV,(m.size=32/\Cells j (k.add (i.toNat*32)) m)/\(0<=g/\g<(b:Int))/\Is a fun n:Addr=>∃o:AV,(o.size=32/\Cells j (n.add (g.toNat*32)) o)/\(0<=g/\g<(b:Int))/\Is a fun p:Addr=>(m.size=32/\(∀q∈m.toList,q.oneCell'=true)/\∀r,r<32->Wr j ((p.add (g.toNat*32)).add r))/\let t:=setCells j (p.add (g.toNat*32)) m.toList 0;(0<=i/\i<(b:Int))/\Is a fun u:Addr=>(o.size=32/\(∀v∈o.toList,v.oneCell'=true)/\∀x,x<32->Wr t ((u.add (i.toNat*32)).add x))/\let y:=setCells t (u.add (i.toNat*32)) o.toList 0;Q .normal [(0,.slice a b c),(1,.int .i64 d),(4,CL aV e),(10,.int .i64 f),(11,.bool false),(12,.int .i64 (i64.wrap (g+(1:Int)))),(13,.int .i64 (i64.wrap (i-(1:Int))))] y)
theorem aL.MW:(aL.q5 Q (.exit 8) [(0,.slice a b c),(1,.int .i64 d),(4,CL aV e),(10,.int .i64 f),(11,.bool false),(12,.int .i64 g),(13,.int .i64 i)] w)=aL.LP aV a b c d e f g i Q w:=by cases aV<;>kernel_rfl
end
section
def aL.zM(a:OA)(b c:Nat)(d:Int)(e:OA)(f g i:Int)(K:KT)(w:World):Prop:=
 let j:=w.drew;(0<=d/\d<(b:Int))/\Is a fun k:Addr=>∃m:AV,(m.size=32/\Cells j (k.add (d.toNat*32)) m)/\(0<=i/\i<(b:Int))/\Is a fun n:Addr=>∃o:AV,(o.size=32/\Cells j (n.add (i.toNat*32)) o)/\(0<=i/\i<(b:Int))/\Is a fun p:Addr=>(m.size=32/\(∀q∈m.toList,q.oneCell'=true)/\∀r,r<32->Wr j ((p.add (i.toNat*32)).add r))/\let t:=setCells j (p.add (i.toNat*32)) m.toList 0;(0<=d/\d<(b:Int))/\Is a fun u:Addr=>(o.size=32/\(∀v∈o.toList,v.oneCell'=true)/\∀x,x<32->Wr t ((u.add (d.toNat*32)).add x))/\let y:=setCells t (u.add (d.toNat*32)) o.toList 0;K (.tuple #[.int .i64 i,.bool false]) y
variable(aV:Bool)(a:OA)(b c:Nat)(d:Int)(e:OA)(f g i:Int)(K:KT)(w:World)
theorem aL.Db:(aL.q3 K (.exit 4) [(0,.slice a b c),(1,.int .i64 d),(4,CL aV e),(10,.int .i64 f),(11,.bool false),(12,.int .i64 g),(13,.int .i64 i)] w)=aL.zM a b c d e f g i K w:=by cases aV<;>kernel_rfl
end
def bF.k:List Nat:= [5,6]
def bF.q1(K:KT):aM:=(aQ 0 (aX f152) (bV prog f152 K))
def bF.e1(aV:Bool)(a:OA)(b c:Nat)(d e:Int)(f:OA)(s:Int):Env:= [(0,.slice a b c),(2,.int .i64 d),(3,.int .i64 e),(4,CL aV f),(10,.int .i64 s)]
def bF.u1:List Nat:= [0,2,3,4,10]
section
variable(aV:Bool)(a:OA)(b d:Nat)(e f g:Int)(i:OA)(K:KT)(w:World)
def bF.W:Prop:=
 Holds none [] prog 82 (.loop (lB (bB (sR (body f152))))) (bF.q1 K) [(0,.slice a b d),(2,.int .i64 f),(3,.int .i64 g),(4,CL aV i),(10,.int .i64 e)] w
variable{aV a b d e f g i K w}
theorem bF.of(h:bF.W aV a b d e f g i K w):bm prog 152 #[.slice a b d,.int .i64 e,.int .i64 f,.int .i64 g,CL aV i] w K:=
 by cases aV<;>exact rqq func152 (C:=bF.k) h
end
section
variable(aV:Bool)(a:OA)(b c:Nat)(d e:Int)(f:OA)(g:Int)(Q:aM)(w:World)
def bF.B1:Prop:=
 Split (decide ((i64.wrap ((i64.wrap ((2:Int)*g))+(1:Int)))>=d)) (Q (.exit 0) [(0,.slice a b c),(2,.int .i64 d),(3,.int .i64 e),(4,CL aV f),(10,.int .i64 g),(11,.int .i64 (i64.wrap ((i64.wrap ((2:Int)*g))+(1:Int))))] w) (let i:=w.drew;Split (decide ((i64.wrap ((i64.wrap ((i64.wrap ((2:Int)*g))+(1:Int)))+(1:Int)))<d)) ((0<=(i64.wrap (e+(i64.wrap ((i64.wrap ((2:Int)*g))+(1:Int)))))/\(i64.wrap (e+(i64.wrap ((i64.wrap ((2:Int)*g))+(1:Int)))))<(b:Int))/\Is a fun j:Addr=>∃k:AV,(k.size=32/\Cells i (j.add ((i64.wrap (e+(i64.wrap ((i64.wrap ((2:Int)*g))+(1:Int))))).toNat*32)) k)/\(0<=(i64.wrap ((i64.wrap (e+(i64.wrap ((i64.wrap ((2:Int)*g))+(1:Int)))))+(1:Int)))/\(i64.wrap ((i64.wrap (e+(i64.wrap ((i64.wrap ((2:Int)*g))+(1:Int)))))+(1:Int)))<(b:Int))/\Is a fun m:Addr=>∃n:AV,(n.size=32/\Cells i (m.add ((i64.wrap ((i64.wrap (e+(i64.wrap ((i64.wrap ((2:Int)*g))+(1:Int)))))+(1:Int))).toNat*32)) n)/\bm prog (CF aV) (CA aV f k n) i fun o p=>∃q:Int,o=.int .i64 q/\Split (decide (q<(0:Int))) (Holds none [] prog 82 (aZ (sR (bB (lB (bB (sR (body f152))))))) (aQ 1 bF.u1 Q) [(0,.slice a b c),(2,.int .i64 d),(3,.int .i64 e),(4,CL aV f),(10,.int .i64 g),(11,.int .i64 (i64.wrap ((i64.wrap ((i64.wrap ((2:Int)*g))+(1:Int)))+(1:Int))))] p) (Holds none [] prog 82 (aZ (sR (bB (lB (bB (sR (body f152))))))) (aQ 1 bF.u1 Q) [(0,.slice a b c),(2,.int .i64 d),(3,.int .i64 e),(4,CL aV f),(10,.int .i64 g),(11,.int .i64 (i64.wrap ((i64.wrap ((2:Int)*g))+(1:Int))))] p)) (Holds none [] prog 82 (aZ (sR (bB (lB (bB (sR (body f152))))))) (aQ 1 bF.u1 Q) [(0,.slice a b c),(2,.int .i64 d),(3,.int .i64 e),(4,CL aV f),(10,.int .i64 g),(11,.int .i64 (i64.wrap ((i64.wrap ((2:Int)*g))+(1:Int))))] i))
theorem bF.b1:(bg none [] prog 82 bF.k (lB (bB (sR (body f152)))) bF.u1 Q [(0,.slice a b c),(2,.int .i64 d),(3,.int .i64 e),(4,CL aV f),(10,.int .i64 g)] w)=bF.B1 aV a b c d e f g Q w:=by cases aV<;>kernel_rfl
variable{aV a b c d e f}
theorem bF.cf(I:Int->World->Prop)(μ:Int->World->Nat)(s:Int){Q:aM}{w:World}(h0:I s w)
 (round:∀s w,I s w->bF.B1 aV a b c d e f s (bR (bF.e1 aV a b c d e f) I μ s w Q) w):Holds none [] prog 82 (.loop (lB (bB (sR (body f152))))) Q (bF.e1 aV a b c d e f s) w:=
 bt ng mix (bF.e1 aV a b c d e f) I μ bF.k bF.u1 s (fun s Q w=>bF.B1 aV a b c d e f s Q w) (fun s Q w=>bF.b1 aV a b c d e f s Q w) h0 round
end
section
def bF.cX(a:OA)(b c:Nat)(d e:Int)(f:OA)(g i:Int)(K:KT)(w:World):Prop:=
 K (.tuple #[]) w
variable(aV:Bool)(a:OA)(b c:Nat)(d e:Int)(f:OA)(g i:Int)(K:KT)(w:World)
theorem bF.dB:(bF.q1 K (.exit 0) [(0,.slice a b c),(2,.int .i64 d),(3,.int .i64 e),(4,CL aV f),(10,.int .i64 g),(11,.int .i64 i)] w)=bF.cX a b c d e f g i K w:=by cases aV<;>kernel_rfl
end
section
variable(aV:Bool)(a:OA)(b c:Nat)(d e:Int)(f:OA)(g i:Int)(Q:aM)(w:World)
def bF.J1:Prop:=
 let j:=w.drew;(0<=(i64.wrap (e+g))/\(i64.wrap (e+g))<(b:Int))/\Is a fun k:Addr=>∃m:AV,(m.size=32/\Cells j (k.add ((i64.wrap (e+g)).toNat*32)) m)/\(0<=(i64.wrap (e+i))/\(i64.wrap (e+i))<(b:Int))/\Is a fun n:Addr=>∃o:AV,(o.size=32/\Cells j (n.add ((i64.wrap (e+i)).toNat*32)) o)/\bm prog (CF aV) (CA aV f m o) j fun p q=>∃r:Int,p=.int .i64 r/\Split (!(decide (r<(0:Int)))) (Q .ret [(0,.slice a b c),(2,.int .i64 d),(3,.int .i64 e),(4,CL aV f),(10,.int .i64 g),(11,.int .i64 i)] q) (Holds none [] prog 82 (cS (bB (lB (bB (sR (body f152)))))) (aQ 1 bF.u1 Q) [(0,.slice a b c),(2,.int .i64 d),(3,.int .i64 e),(4,CL aV f),(10,.int .i64 g),(11,.int .i64 i)] q)
theorem bF.j1:(bg none [] prog 82 bF.k (aZ (sR (bB (lB (bB (sR (body f152))))))) bF.u1 (aQ 1 bF.u1 Q) [(0,.slice a b c),(2,.int .i64 d),(3,.int .i64 e),(4,CL aV f),(10,.int .i64 g),(11,.int .i64 i)] w)=bF.J1 aV a b c d e f g i Q w:=by cases aV<;>kernel_rfl
variable{aV a b c d e f g i Q w}
theorem bF.lx(h:bF.J1 aV a b c d e f g i Q w):Holds none [] prog 82 (aZ (sR (bB (lB (bB (sR (body f152))))))) (aQ 1 bF.u1 Q) [(0,.slice a b c),(2,.int .i64 d),(3,.int .i64 e),(4,CL aV f),(10,.int .i64 g),(11,.int .i64 i)] w:=
 cH (C:=bF.k) ng mix (bF.j1 aV a b c d e f g i Q w) h
end
section
variable(aV:Bool)(a:OA)(b c:Nat)(d e:Int)(f:OA)(g i:Int)(Q:aM)(w:World)
def bF.J2:Prop:=
 let j:=w.drew;(0<=(i64.wrap (e+i))/\(i64.wrap (e+i))<(b:Int))/\Is a fun k:Addr=>∃m:AV,(m.size=32/\Cells j (k.add ((i64.wrap (e+i)).toNat*32)) m)/\(0<=(i64.wrap (e+g))/\(i64.wrap (e+g))<(b:Int))/\Is a fun n:Addr=>∃o:AV,(o.size=32/\Cells j (n.add ((i64.wrap (e+g)).toNat*32)) o)/\(0<=(i64.wrap (e+g))/\(i64.wrap (e+g))<(b:Int))/\Is a fun p:Addr=>(m.size=32/\(∀q∈m.toList,q.oneCell'=true)/\∀r,r<32->Wr j ((p.add ((i64.wrap (e+g)).toNat*32)).add r))/\let t:=setCells j (p.add ((i64.wrap (e+g)).toNat*32)) m.toList 0;(0<=(i64.wrap (e+i))/\(i64.wrap (e+i))<(b:Int))/\Is a fun u:Addr=>(o.size=32/\(∀v∈o.toList,v.oneCell'=true)/\∀x,x<32->Wr t ((u.add ((i64.wrap (e+i)).toNat*32)).add x))/\let y:=setCells t (u.add ((i64.wrap (e+i)).toNat*32)) o.toList 0;Q .normal [(0,.slice a b c),(2,.int .i64 d),(3,.int .i64 e),(4,CL aV f),(10,.int .i64 i)] y
theorem bF.j2:(bg none [] prog 82 bF.k (cS (bB (lB (bB (sR (body f152)))))) bF.u1 (aQ 1 bF.u1 Q) [(0,.slice a b c),(2,.int .i64 d),(3,.int .i64 e),(4,CL aV f),(10,.int .i64 g),(11,.int .i64 i)] w)=bF.J2 aV a b c d e f g i Q w:=by cases aV<;>kernel_rfl
variable{aV a b c d e f g i Q w}
theorem bF.Eg(h:bF.J2 aV a b c d e f g i Q w):Holds none [] prog 82 (cS (bB (lB (bB (sR (body f152)))))) (aQ 1 bF.u1 Q) [(0,.slice a b c),(2,.int .i64 d),(3,.int .i64 e),(4,CL aV f),(10,.int .i64 g),(11,.int .i64 i)] w:=
 cH (C:=bF.k) ng mix (bF.j2 aV a b c d e f g i Q w) h
end
section
variable(aV:Bool)(a:OA)(b d:Nat)(e:Int)(f g:OA)(K:KT)(w:World)
variable{aV a b d e f g K w}
end
def qh.k:List Nat:= []
section
variable(aV:Bool)(a:OA)(b d:Nat)(e f g:Int)(i j:OA)(K:KT)(w:World)
def qh.W:Prop:=
 bm prog 163 #[.slice a b d,.int .i64 e,.int .i64 f,.pointer i,CL aV j] w fun k m=>∃n o:Int,k=.tuple #[.int .i64 n,.int .i64 o]/\bm prog 163 #[.slice a b d,.int .i64 o,.int .i64 g,.pointer i,CL aV j] m fun p q=>∃r t:Int,p=.tuple #[.int .i64 r,.int .i64 t]/\bm prog 163 #[.slice a b d,.int .i64 n,.int .i64 r,.pointer i,CL aV j] q fun u v=>∃x y:Int,u=.tuple #[.int .i64 x,.int .i64 y]/\K (.int .i64 y) v
variable{aV a b d e f g i j K w}
theorem qh.of(h:qh.W aV a b d e f g i j K w):bm prog 156 #[.slice a b d,.int .i64 e,.int .i64 f,.int .i64 g,.pointer i,CL aV j] w K:=
 by cases aV<;>exact rqq func156 (C:=qh.k) h
end
def qg.k:List Nat:= []
section
def qg.W(aV:Bool)(a:OA)(b d:Nat)(e f:Int)(g i:OA)(K:KT)(w:World):Prop:=
 let j:=w.drew;(0<=f/\f<(b:Int))/\Is a fun k:Addr=>∃m:AV,(m.size=32/\Cells j (k.add (f.toNat*32)) m)/\(0<=e/\e<(b:Int))/\Is a fun n:Addr=>∃o:AV,(o.size=32/\Cells j (n.add (e.toNat*32)) o)/\bm prog (CF aV) (CA aV i m o) j fun p q=>∃r:Int,p=.int .i64 r/\Split (decide (r<(0:Int))) (Is g fun t:Addr=>∃u:Int,q.cell? t=some (.int .i64 u)/\Is g fun v:Addr=>Wr q v/\let x:=q.setCell v (.int .i64 (i64.wrap (u+(1:Int))));K (.tuple #[.int .i64 f,.int .i64 e]) x) (K (.tuple #[.int .i64 e,.int .i64 f]) q)
variable(aV:Bool)(a:OA)(b d:Nat)(e f:Int)(g i:OA)(K:KT)(w:World)
variable{aV a b d e f g i K w}
theorem qg.of(h:qg.W aV a b d e f g i K w):bm prog 163 #[.slice a b d,.int .i64 e,.int .i64 f,.pointer g,CL aV i] w K:=
 by cases aV<;>exact rqq func163 (C:=qg.k) h
end
end Go.Proofs.YtfleamccglihoaaGreatDoor
