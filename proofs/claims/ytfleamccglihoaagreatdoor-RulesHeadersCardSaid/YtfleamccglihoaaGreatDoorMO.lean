import Derived.Test.YtfleamccglihoaaGreatDoorProg
import Derived.Test.YtfleamccglihoaaGreatDoorMA
import Derived.Test.YtfleamccglihoaaGreatDoorMB
open Go.IntKind (i64 u64)
set_option linter.unusedVariables false
namespace Go.Proofs.YtfleamccglihoaaGreatDoor
open Go.Proofs.Tryz
open Go Go.b0
def CL(bD:Bool)(g:OA):Value:=cond bD (.func (.func 73) #[.pointer g] #[]) (.func (.func 54) #[] #[.pointer g])
def CF(bD:Bool):Nat:=cond bD 73 54
def CA(bD:Bool)(g:OA)(t u:AV):AV:=cond bD #[.pointer g,.agg t,.agg u] #[.agg t,.agg u,.pointer g]
def qv.k:List Nat:= []
section
variable(bD:Bool)(a:OA)(b d:Nat)(e:OA)(K:KT)(w:World)
def qv.W:Prop:=
 bG prog 98 #[.int .u64 (u64.wrap (b:Int))] w fun f g=>∃i:Int,f=.int .i64 i/\bG prog 97 #[.slice a b d,.int .i64 0,.int .i64 (b:Int),.int .i64 i,CL bD e] g fun j k=>j=.tuple #[]/\K (.tuple #[]) k
variable{bD a b d e K w}
theorem qv.of(h:qv.W bD a b d e K w):bG prog 53 #[.slice a b d,CL bD e] w K:=
 by cases bD<;>exact rqq func53 (C:=qv.k) h
end
def aD.k:List Nat:= [10,11,13,14,15,17,20,21,22,23,24,26,27,29,30]
def aD.q1(K:KT):aT:=(aR 0 (aX f97) (bY prog f97 K))
def aD.e1(bD:Bool)(a:OA)(b c:Nat)(d:OA)(s:Int×Int×Int×Bool×Bool):Env:= [(0,.slice a b c),(1,.int .i64 s.1),(2,.int .i64 s.2.1),(3,.int .i64 s.2.2.1),(4,CL bD d),(10,.bool s.2.2.2.1),(11,.bool s.2.2.2.2)]
def aD.u1:List Nat:= [0,1,2,3,4,10,11]
section
variable(bD:Bool)(a:OA)(b d:Nat)(e f g:Int)(i:OA)(K:KT)(w:World)
def aD.W:Prop:=
 Holds none [] prog 148 (.loop (lB (bB (aS (body f97))))) (aD.q1 K) [(0,.slice a b d),(1,.int .i64 e),(2,.int .i64 f),(3,.int .i64 g),(4,CL bD i),(10,.bool true),(11,.bool true)] w
variable{bD a b d e f g i K w}
theorem aD.of(h:aD.W bD a b d e f g i K w):bG prog 97 #[.slice a b d,.int .i64 e,.int .i64 f,.int .i64 g,CL bD i] w K:=
 by cases bD<;>exact rqq func97 (C:=aD.k) h
end
section
variable(bD:Bool)(a:OA)(b c:Nat)(d e f:Int)(g:OA)(i j:Bool)(Q:aT)(w:World)
def aD.B1:Prop:=
 Split (decide ((i64.wrap (e-d))<=(12:Int))) (bG prog 127 #[.slice a b c,.int .i64 d,.int .i64 e,CL bD g] w fun k m=>k=.tuple #[]/\Q .ret [(0,.slice a b c),(1,.int .i64 d),(2,.int .i64 e),(3,.int .i64 f),(4,CL bD g),(10,.bool i),(11,.bool j),(12,.int .i64 (i64.wrap (e-d)))] m) (Split (f==(0:Int)) (bG prog 128 #[.slice a b c,.int .i64 d,.int .i64 e,CL bD g] w fun n o=>n=.tuple #[]/\Q .ret [(0,.slice a b c),(1,.int .i64 d),(2,.int .i64 e),(3,.int .i64 f),(4,CL bD g),(10,.bool i),(11,.bool j),(12,.int .i64 (i64.wrap (e-d)))] o) (Split (!i) (bG prog 129 #[.slice a b c,.int .i64 d,.int .i64 e,CL bD g] w fun p q=>p=.tuple #[]/\Holds none [] prog 148 (cH (bB (lB (bB (aS (body f97)))))) (aR 1 aD.u1 Q) [(0,.slice a b c),(1,.int .i64 d),(2,.int .i64 e),(3,.int .i64 (i64.wrap (f-(1:Int)))),(4,CL bD g),(10,.bool i),(11,.bool j),(12,.int .i64 (i64.wrap (e-d)))] q) (Holds none [] prog 148 (cH (bB (lB (bB (aS (body f97)))))) (aR 1 aD.u1 Q) [(0,.slice a b c),(1,.int .i64 d),(2,.int .i64 e),(3,.int .i64 f),(4,CL bD g),(10,.bool i),(11,.bool j),(12,.int .i64 (i64.wrap (e-d)))] w)))
theorem aD.b1:(bg none [] prog 148 aD.k (lB (bB (aS (body f97)))) aD.u1 Q [(0,.slice a b c),(1,.int .i64 d),(2,.int .i64 e),(3,.int .i64 f),(4,CL bD g),(10,.bool i),(11,.bool j)] w)=aD.B1 bD a b c d e f g i j Q w:=by cases bD<;>kernel_rfl
variable{bD a b c g}
theorem aD.cJ(I:Int×Int×Int×Bool×Bool->World->Prop)(μ:Int×Int×Int×Bool×Bool->World->Nat)(s:Int×Int×Int×Bool×Bool){Q:aT}{w:World}(h0:I s w)
 (round:∀s w,I s w->aD.B1 bD a b c (s.1) (s.2.1) (s.2.2.1) g (s.2.2.2.1) (s.2.2.2.2) (bW (aD.e1 bD a b c g) I μ s w Q) w):Holds none [] prog 148 (.loop (lB (bB (aS (body f97))))) Q (aD.e1 bD a b c g s) w:=
 bC ng mix (aD.e1 bD a b c g) I μ aD.k aD.u1 s (fun s Q w=>aD.B1 bD a b c (s.1) (s.2.1) (s.2.2.1) g (s.2.2.2.1) (s.2.2.2.2) Q w) (fun s Q w=>aD.b1 bD a b c (s.1) (s.2.1) (s.2.2.1) g (s.2.2.2.1) (s.2.2.2.2) Q w) h0 round
end
section
variable(bD:Bool)(a:OA)(b c:Nat)(d e f:Int)(g:OA)(i j:Bool)(k:Int)(Q:aT)(w:World)
def aD.J1:Prop:=
 bG prog 130 #[.slice a b c,.int .i64 d,.int .i64 e,CL bD g] w fun m n=>∃o p:Int,m=.tuple #[.int .i64 o,.int .i64 p]/\Holds none [] prog 148 (cH (sR (bB (lB (bB (aS (body f97))))))) (aR 1 aD.u1 Q) [(0,.slice a b c),(1,.int .i64 d),(2,.int .i64 e),(3,.int .i64 f),(4,CL bD g),(10,.bool i),(11,.bool j),(12,.int .i64 k),(13,.int .i64 o),(14,.int .i64 p)] n
theorem aD.j1:(bg none [] prog 148 aD.k (cH (bB (lB (bB (aS (body f97)))))) aD.u1 (aR 1 aD.u1 Q) [(0,.slice a b c),(1,.int .i64 d),(2,.int .i64 e),(3,.int .i64 f),(4,CL bD g),(10,.bool i),(11,.bool j),(12,.int .i64 k)] w)=aD.J1 bD a b c d e f g i j k Q w:=by cases bD<;>kernel_rfl
variable{bD a b c d e f g i j k Q w}
theorem aD.kW(h:aD.J1 bD a b c d e f g i j k Q w):Holds none [] prog 148 (cH (bB (lB (bB (aS (body f97)))))) (aR 1 aD.u1 Q) [(0,.slice a b c),(1,.int .i64 d),(2,.int .i64 e),(3,.int .i64 f),(4,CL bD g),(10,.bool i),(11,.bool j),(12,.int .i64 k)] w:=
 dh (C:=aD.k) ng mix (aD.j1 bD a b c d e f g i j k Q w) h
end
section
variable(bD:Bool)(a:OA)(b c:Nat)(d e f:Int)(g:OA)(i j:Bool)(k m n:Int)(Q:aT)(w:World)
def aD.J2:Prop:=
 Split (n==(2:Int)) (bG prog 131 #[.slice a b c,.int .i64 d,.int .i64 e,CL bD g] w fun o p=>o=.tuple #[]/\Holds none [] prog 148 (sR (cT (sR (sL (cH (sR (bB (lB (bB (aS (body f97))))))))))) (cg (fun cy w_=>match cutAt aD.k (cH (aS (bB (lB (bB (aS (body f97)))))))with|true=>Holds none [] prog 148 (cH (aS (bB (lB (bB (aS (body f97))))))) (aR 1 aD.u1 Q) cy w_|false=>bg none [] prog 148 aD.k (cH (aS (bB (lB (bB (aS (body f97))))))) aD.u1 (aR 1 aD.u1 Q) cy w_) (aR 1 aD.u1 Q)) [(0,.slice a b c),(1,.int .i64 d),(2,.int .i64 e),(3,.int .i64 f),(4,CL bD g),(10,.bool i),(11,.bool j),(12,.int .i64 k),(13,.int .i64 m),(14,.int .i64 n)] p) (Holds none [] prog 148 (cH (aS (bB (lB (bB (aS (body f97))))))) (aR 1 aD.u1 Q) [(0,.slice a b c),(1,.int .i64 d),(2,.int .i64 e),(3,.int .i64 f),(4,CL bD g),(10,.bool i),(11,.bool j),(12,.int .i64 k),(13,.int .i64 m),(14,.int .i64 n)] w)
theorem aD.j2:(bg none [] prog 148 aD.k (cH (sR (bB (lB (bB (aS (body f97))))))) aD.u1 (aR 1 aD.u1 Q) [(0,.slice a b c),(1,.int .i64 d),(2,.int .i64 e),(3,.int .i64 f),(4,CL bD g),(10,.bool i),(11,.bool j),(12,.int .i64 k),(13,.int .i64 m),(14,.int .i64 n)] w)=aD.J2 bD a b c d e f g i j k m n Q w:=by cases bD<;>kernel_rfl
variable{bD a b c d e f g i j k m n Q w}
theorem aD.qV(h:aD.J2 bD a b c d e f g i j k m n Q w):Holds none [] prog 148 (cH (sR (bB (lB (bB (aS (body f97))))))) (aR 1 aD.u1 Q) [(0,.slice a b c),(1,.int .i64 d),(2,.int .i64 e),(3,.int .i64 f),(4,CL bD g),(10,.bool i),(11,.bool j),(12,.int .i64 k),(13,.int .i64 m),(14,.int .i64 n)] w:=
 dh (C:=aD.k) ng mix (aD.j2 bD a b c d e f g i j k m n Q w) h
end
section
variable(bD:Bool)(a:OA)(b c:Nat)(d e f:Int)(g:OA)(i j:Bool)(k m n:Int)(Q:aT)(w:World)
def aD.J3:Prop:=
 Holds none [] prog 148 (aS (cT (sR (sL (cH (sR (bB (lB (bB (aS (body f97))))))))))) (cg (fun cy w_=>match cutAt aD.k (cH (aS (bB (lB (bB (aS (body f97)))))))with|true=>Holds none [] prog 148 (cH (aS (bB (lB (bB (aS (body f97))))))) (aR 1 aD.u1 Q) cy w_|false=>bg none [] prog 148 aD.k (cH (aS (bB (lB (bB (aS (body f97))))))) aD.u1 (aR 1 aD.u1 Q) cy w_) (aR 1 aD.u1 Q)) [(0,.slice a b c),(1,.int .i64 d),(2,.int .i64 e),(3,.int .i64 f),(4,CL bD g),(10,.bool i),(11,.bool j),(12,.int .i64 k),(13,.int .i64 (i64.wrap ((i64.wrap (e-(1:Int)))-(i64.wrap (m-d))))),(14,.int .i64 n)] w
theorem aD.j3:(bg none [] prog 148 aD.k (sR (cT (sR (sL (cH (sR (bB (lB (bB (aS (body f97))))))))))) (cK (cH (aS (bB (lB (bB (aS (body f97)))))))++aD.u1) (cg (fun cy w_=>match cutAt aD.k (cH (aS (bB (lB (bB (aS (body f97)))))))with|true=>Holds none [] prog 148 (cH (aS (bB (lB (bB (aS (body f97))))))) (aR 1 aD.u1 Q) cy w_|false=>bg none [] prog 148 aD.k (cH (aS (bB (lB (bB (aS (body f97))))))) aD.u1 (aR 1 aD.u1 Q) cy w_) (aR 1 aD.u1 Q)) [(0,.slice a b c),(1,.int .i64 d),(2,.int .i64 e),(3,.int .i64 f),(4,CL bD g),(10,.bool i),(11,.bool j),(12,.int .i64 k),(13,.int .i64 m),(14,.int .i64 n)] w)=aD.J3 bD a b c d e f g i j k m n Q w:=by cases bD<;>kernel_rfl
variable{bD a b c d e f g i j k m n Q w}
theorem aD.TR(h:aD.J3 bD a b c d e f g i j k m n Q w):Holds none [] prog 148 (sR (cT (sR (sL (cH (sR (bB (lB (bB (aS (body f97))))))))))) (cg (fun cy w_=>match cutAt aD.k (cH (aS (bB (lB (bB (aS (body f97)))))))with|true=>Holds none [] prog 148 (cH (aS (bB (lB (bB (aS (body f97))))))) (aR 1 aD.u1 Q) cy w_|false=>bg none [] prog 148 aD.k (cH (aS (bB (lB (bB (aS (body f97))))))) aD.u1 (aR 1 aD.u1 Q) cy w_) (aR 1 aD.u1 Q)) [(0,.slice a b c),(1,.int .i64 d),(2,.int .i64 e),(3,.int .i64 f),(4,CL bD g),(10,.bool i),(11,.bool j),(12,.int .i64 k),(13,.int .i64 m),(14,.int .i64 n)] w:=
 dh (C:=aD.k) ng mix (aD.j3 bD a b c d e f g i j k m n Q w) h
end
section
variable(bD:Bool)(a:OA)(b c:Nat)(d e f:Int)(g:OA)(i j:Bool)(k m n:Int)(Q:aT)(w:World)
def aD.J4:Prop:=
 Split i (Split j (Split (n==(1:Int)) (bG prog 132 #[.slice a b c,.int .i64 d,.int .i64 e,CL bD g] w fun o p=>∃q:Bool,o=.bool q/\Split q (Q .ret [(0,.slice a b c),(1,.int .i64 d),(2,.int .i64 e),(3,.int .i64 f),(4,CL bD g),(10,.bool i),(11,.bool j),(12,.int .i64 k),(13,.int .i64 m)] p) (Holds none [] prog 148 (cH (aS (sR (bB (lB (bB (aS (body f97)))))))) (aR 1 aD.u1 Q) [(0,.slice a b c),(1,.int .i64 d),(2,.int .i64 e),(3,.int .i64 f),(4,CL bD g),(10,.bool i),(11,.bool j),(12,.int .i64 k),(13,.int .i64 m)] p)) (Holds none [] prog 148 (cH (aS (sR (bB (lB (bB (aS (body f97)))))))) (aR 1 aD.u1 Q) [(0,.slice a b c),(1,.int .i64 d),(2,.int .i64 e),(3,.int .i64 f),(4,CL bD g),(10,.bool i),(11,.bool j),(12,.int .i64 k),(13,.int .i64 m)] w)) (Holds none [] prog 148 (cH (aS (sR (bB (lB (bB (aS (body f97)))))))) (aR 1 aD.u1 Q) [(0,.slice a b c),(1,.int .i64 d),(2,.int .i64 e),(3,.int .i64 f),(4,CL bD g),(10,.bool i),(11,.bool j),(12,.int .i64 k),(13,.int .i64 m)] w)) (Holds none [] prog 148 (cH (aS (sR (bB (lB (bB (aS (body f97)))))))) (aR 1 aD.u1 Q) [(0,.slice a b c),(1,.int .i64 d),(2,.int .i64 e),(3,.int .i64 f),(4,CL bD g),(10,.bool i),(11,.bool j),(12,.int .i64 k),(13,.int .i64 m)] w)
theorem aD.j4:(bg none [] prog 148 aD.k (cH (aS (bB (lB (bB (aS (body f97))))))) aD.u1 (aR 1 aD.u1 Q) [(0,.slice a b c),(1,.int .i64 d),(2,.int .i64 e),(3,.int .i64 f),(4,CL bD g),(10,.bool i),(11,.bool j),(12,.int .i64 k),(13,.int .i64 m),(14,.int .i64 n)] w)=aD.J4 bD a b c d e f g i j k m n Q w:=by cases bD<;>kernel_rfl
variable{bD a b c d e f g i j k m n Q w}
theorem aD.M4(h:aD.J4 bD a b c d e f g i j k m n Q w):Holds none [] prog 148 (cH (aS (bB (lB (bB (aS (body f97))))))) (aR 1 aD.u1 Q) [(0,.slice a b c),(1,.int .i64 d),(2,.int .i64 e),(3,.int .i64 f),(4,CL bD g),(10,.bool i),(11,.bool j),(12,.int .i64 k),(13,.int .i64 m),(14,.int .i64 n)] w:=
 dh (C:=aD.k) ng mix (aD.j4 bD a b c d e f g i j k m n Q w) h
end
section
def aD.J5(bD:Bool)(a:OA)(b c:Nat)(d e f:Int)(g:OA)(i j:Bool)(k m n:Int)(Q:aT)(w:World):Prop:=
 Holds none [] prog 148 (cH (aS (bB (lB (bB (aS (body f97))))))) (aR 1 aD.u1 Q) [(0,.slice a b c),(1,.int .i64 d),(2,.int .i64 e),(3,.int .i64 f),(4,CL bD g),(10,.bool i),(11,.bool j),(12,.int .i64 k),(13,.int .i64 m),(14,.int .i64 1)] w
variable(bD:Bool)(a:OA)(b c:Nat)(d e f:Int)(g:OA)(i j:Bool)(k m n:Int)(Q:aT)(w:World)
theorem aD.j5:(bg none [] prog 148 aD.k (aS (cT (sR (sL (cH (sR (bB (lB (bB (aS (body f97))))))))))) (cK (cH (aS (bB (lB (bB (aS (body f97)))))))++aD.u1) (cg (fun cy w_=>match cutAt aD.k (cH (aS (bB (lB (bB (aS (body f97)))))))with|true=>Holds none [] prog 148 (cH (aS (bB (lB (bB (aS (body f97))))))) (aR 1 aD.u1 Q) cy w_|false=>bg none [] prog 148 aD.k (cH (aS (bB (lB (bB (aS (body f97))))))) aD.u1 (aR 1 aD.u1 Q) cy w_) (aR 1 aD.u1 Q)) [(0,.slice a b c),(1,.int .i64 d),(2,.int .i64 e),(3,.int .i64 f),(4,CL bD g),(10,.bool i),(11,.bool j),(12,.int .i64 k),(13,.int .i64 m),(14,.int .i64 n)] w)=aD.J5 bD a b c d e f g i j k m n Q w:=by cases bD<;>kernel_rfl
variable{bD a b c d e f g i j k m n Q w}
theorem aD.TQ(h:aD.J5 bD a b c d e f g i j k m n Q w):Holds none [] prog 148 (aS (cT (sR (sL (cH (sR (bB (lB (bB (aS (body f97))))))))))) (cg (fun cy w_=>match cutAt aD.k (cH (aS (bB (lB (bB (aS (body f97)))))))with|true=>Holds none [] prog 148 (cH (aS (bB (lB (bB (aS (body f97))))))) (aR 1 aD.u1 Q) cy w_|false=>bg none [] prog 148 aD.k (cH (aS (bB (lB (bB (aS (body f97))))))) aD.u1 (aR 1 aD.u1 Q) cy w_) (aR 1 aD.u1 Q)) [(0,.slice a b c),(1,.int .i64 d),(2,.int .i64 e),(3,.int .i64 f),(4,CL bD g),(10,.bool i),(11,.bool j),(12,.int .i64 k),(13,.int .i64 m),(14,.int .i64 n)] w:=
 dh (C:=aD.k) ng mix (aD.j5 bD a b c d e f g i j k m n Q w) h
end
section
variable(bD:Bool)(a:OA)(b c:Nat)(d e f:Int)(g:OA)(i j:Bool)(k m:Int)(Q:aT)(w:World)
def aD.J6:Prop:=
 let n:=w.drew;Split (decide (d>(0:Int))) ((0<=(i64.wrap (d-(1:Int)))/\(i64.wrap (d-(1:Int)))<(b:Int))/\Is a fun o:Addr=>∃p:AV,(p.size=32/\Cells n (o.add ((i64.wrap (d-(1:Int))).toNat*32)) p)/\(0<=m/\m<(b:Int))/\Is a fun q:Addr=>∃r:AV,(r.size=32/\Cells n (q.add (m.toNat*32)) r)/\bG prog (CF bD) (CA bD g p r) n fun t u=>∃v:Int,t=.int .i64 v/\Split (!(decide (v<(0:Int)))) (bG prog 133 #[.slice a b c,.int .i64 d,.int .i64 e,.int .i64 m,CL bD g] u fun x y=>∃z:Int,x=.int .i64 z/\Q .normal [(0,.slice a b c),(1,.int .i64 z),(2,.int .i64 e),(3,.int .i64 f),(4,CL bD g),(10,.bool i),(11,.bool j)] y) (Holds none [] prog 148 (fU (bB (lB (bB (aS (body f97)))))) (aR 1 aD.u1 Q) [(0,.slice a b c),(1,.int .i64 d),(2,.int .i64 e),(3,.int .i64 f),(4,CL bD g),(10,.bool i),(11,.bool j),(12,.int .i64 k),(13,.int .i64 m)] u)) (Holds none [] prog 148 (fU (bB (lB (bB (aS (body f97)))))) (aR 1 aD.u1 Q) [(0,.slice a b c),(1,.int .i64 d),(2,.int .i64 e),(3,.int .i64 f),(4,CL bD g),(10,.bool i),(11,.bool j),(12,.int .i64 k),(13,.int .i64 m)] n)
theorem aD.j6:(bg none [] prog 148 aD.k (cH (aS (sR (bB (lB (bB (aS (body f97)))))))) aD.u1 (aR 1 aD.u1 Q) [(0,.slice a b c),(1,.int .i64 d),(2,.int .i64 e),(3,.int .i64 f),(4,CL bD g),(10,.bool i),(11,.bool j),(12,.int .i64 k),(13,.int .i64 m)] w)=aD.J6 bD a b c d e f g i j k m Q w:=by cases bD<;>kernel_rfl
variable{bD a b c d e f g i j k m Q w}
theorem aD.M1(h:aD.J6 bD a b c d e f g i j k m Q w):Holds none [] prog 148 (cH (aS (sR (bB (lB (bB (aS (body f97)))))))) (aR 1 aD.u1 Q) [(0,.slice a b c),(1,.int .i64 d),(2,.int .i64 e),(3,.int .i64 f),(4,CL bD g),(10,.bool i),(11,.bool j),(12,.int .i64 k),(13,.int .i64 m)] w:=
 dh (C:=aD.k) ng mix (aD.j6 bD a b c d e f g i j k m Q w) h
end
section
variable(bD:Bool)(a:OA)(b c:Nat)(d e f:Int)(g:OA)(i j:Bool)(k m:Int)(Q:aT)(w:World)
def aD.J7:Prop:=
 bG prog 134 #[.slice a b c,.int .i64 d,.int .i64 e,.int .i64 m,CL bD g] w fun n o=>∃p:Int,∃q:Bool,n=.tuple #[.int .i64 p,.bool q]/\Holds none [] prog 148 (fU (sR (bB (lB (bB (aS (body f97))))))) (aR 1 aD.u1 Q) [(0,.slice a b c),(1,.int .i64 d),(2,.int .i64 e),(3,.int .i64 f),(4,CL bD g),(10,.bool i),(11,.bool j),(12,.int .i64 k),(16,.int .i64 p),(17,.bool q)] o
theorem aD.j7:(bg none [] prog 148 aD.k (fU (bB (lB (bB (aS (body f97)))))) aD.u1 (aR 1 aD.u1 Q) [(0,.slice a b c),(1,.int .i64 d),(2,.int .i64 e),(3,.int .i64 f),(4,CL bD g),(10,.bool i),(11,.bool j),(12,.int .i64 k),(13,.int .i64 m)] w)=aD.J7 bD a b c d e f g i j k m Q w:=by cases bD<;>kernel_rfl
variable{bD a b c d e f g i j k m Q w}
theorem aD.M0(h:aD.J7 bD a b c d e f g i j k m Q w):Holds none [] prog 148 (fU (bB (lB (bB (aS (body f97)))))) (aR 1 aD.u1 Q) [(0,.slice a b c),(1,.int .i64 d),(2,.int .i64 e),(3,.int .i64 f),(4,CL bD g),(10,.bool i),(11,.bool j),(12,.int .i64 k),(13,.int .i64 m)] w:=
 dh (C:=aD.k) ng mix (aD.j7 bD a b c d e f g i j k m Q w) h
end
section
def aD.J8(bD:Bool)(a:OA)(b c:Nat)(d e f:Int)(g:OA)(i j:Bool)(k m:Int)(n:Bool)(Q:aT)(w:World):Prop:=
 Holds none [] prog 148 (fU (aS (bB (lB (bB (aS (body f97))))))) (aR 1 aD.u1 Q) [(0,.slice a b c),(1,.int .i64 d),(2,.int .i64 e),(3,.int .i64 f),(4,CL bD g),(10,.bool i),(11,.bool n),(12,.int .i64 k),(16,.int .i64 m)] w
variable(bD:Bool)(a:OA)(b c:Nat)(d e f:Int)(g:OA)(i j:Bool)(k m:Int)(n:Bool)(Q:aT)(w:World)
theorem aD.j8:(bg none [] prog 148 aD.k (fU (sR (bB (lB (bB (aS (body f97))))))) aD.u1 (aR 1 aD.u1 Q) [(0,.slice a b c),(1,.int .i64 d),(2,.int .i64 e),(3,.int .i64 f),(4,CL bD g),(10,.bool i),(11,.bool j),(12,.int .i64 k),(16,.int .i64 m),(17,.bool n)] w)=aD.J8 bD a b c d e f g i j k m n Q w:=by cases bD<;>kernel_rfl
variable{bD a b c d e f g i j k m n Q w}
theorem aD.TP(h:aD.J8 bD a b c d e f g i j k m n Q w):Holds none [] prog 148 (fU (sR (bB (lB (bB (aS (body f97))))))) (aR 1 aD.u1 Q) [(0,.slice a b c),(1,.int .i64 d),(2,.int .i64 e),(3,.int .i64 f),(4,CL bD g),(10,.bool i),(11,.bool j),(12,.int .i64 k),(16,.int .i64 m),(17,.bool n)] w:=
 dh (C:=aD.k) ng mix (aD.j8 bD a b c d e f g i j k m n Q w) h
end
section
variable(bD:Bool)(a:OA)(b c:Nat)(d e f:Int)(g:OA)(i j:Bool)(k m:Int)(Q:aT)(w:World)
def aD.J9:Prop:=
 Holds none [] prog 148 (fU (aS (sR (bB (lB (bB (aS (body f97)))))))) (aR 1 aD.u1 Q) [(0,.slice a b c),(1,.int .i64 d),(2,.int .i64 e),(3,.int .i64 f),(4,CL bD g),(10,.bool i),(11,.bool j),(12,.int .i64 k),(16,.int .i64 m),(18,.int .i64 (i64.wrap (m-d))),(19,.int .i64 (i64.wrap (e-m)))] w
theorem aD.j9:(bg none [] prog 148 aD.k (fU (aS (bB (lB (bB (aS (body f97))))))) aD.u1 (aR 1 aD.u1 Q) [(0,.slice a b c),(1,.int .i64 d),(2,.int .i64 e),(3,.int .i64 f),(4,CL bD g),(10,.bool i),(11,.bool j),(12,.int .i64 k),(16,.int .i64 m)] w)=aD.J9 bD a b c d e f g i j k m Q w:=by cases bD<;>kernel_rfl
variable{bD a b c d e f g i j k m Q w}
theorem aD.TO(h:aD.J9 bD a b c d e f g i j k m Q w):Holds none [] prog 148 (fU (aS (bB (lB (bB (aS (body f97))))))) (aR 1 aD.u1 Q) [(0,.slice a b c),(1,.int .i64 d),(2,.int .i64 e),(3,.int .i64 f),(4,CL bD g),(10,.bool i),(11,.bool j),(12,.int .i64 k),(16,.int .i64 m)] w:=
 dh (C:=aD.k) ng mix (aD.j9 bD a b c d e f g i j k m Q w) h
end
section
variable(bD:Bool)(a:OA)(b c:Nat)(d e f:Int)(g:OA)(i j:Bool)(k m n o:Int)(Q:aT)(w:World)
def aD.J10:Prop:=
 (8:Int)≠0/\Holds none [] prog 148 (fU (cH (bB (lB (bB (aS (body f97))))))) (aR 1 aD.u1 Q) [(0,.slice a b c),(1,.int .i64 d),(2,.int .i64 e),(3,.int .i64 f),(4,CL bD g),(10,.bool i),(11,.bool j),(16,.int .i64 m),(18,.int .i64 n),(19,.int .i64 o),(20,.int .i64 (i64.wrap (k.tdiv (8:Int))))] w
theorem aD.j10:(bg none [] prog 148 aD.k (fU (aS (sR (bB (lB (bB (aS (body f97)))))))) aD.u1 (aR 1 aD.u1 Q) [(0,.slice a b c),(1,.int .i64 d),(2,.int .i64 e),(3,.int .i64 f),(4,CL bD g),(10,.bool i),(11,.bool j),(12,.int .i64 k),(16,.int .i64 m),(18,.int .i64 n),(19,.int .i64 o)] w)=aD.J10 bD a b c d e f g i j k m n o Q w:=by cases bD<;>kernel_rfl
variable{bD a b c d e f g i j k m n o Q w}
theorem aD.Px(h:aD.J10 bD a b c d e f g i j k m n o Q w):Holds none [] prog 148 (fU (aS (sR (bB (lB (bB (aS (body f97)))))))) (aR 1 aD.u1 Q) [(0,.slice a b c),(1,.int .i64 d),(2,.int .i64 e),(3,.int .i64 f),(4,CL bD g),(10,.bool i),(11,.bool j),(12,.int .i64 k),(16,.int .i64 m),(18,.int .i64 n),(19,.int .i64 o)] w:=
 dh (C:=aD.k) ng mix (aD.j10 bD a b c d e f g i j k m n o Q w) h
end
section
def aD.J11(bD:Bool)(a:OA)(b c:Nat)(d e f:Int)(g:OA)(i j:Bool)(k m n o:Int)(Q:aT)(w:World):Prop:=
 Split (decide (m<n)) (Holds none [] prog 148 (sR (cT (fU (cH (sR (bB (lB (bB (aS (body f97)))))))))) (aR 1 aD.u1 Q) [(0,.slice a b c),(1,.int .i64 d),(2,.int .i64 e),(3,.int .i64 f),(4,CL bD g),(10,.bool (decide (m>=o))),(11,.bool j),(16,.int .i64 k)] w) (Holds none [] prog 148 (sR (cE (fU (cH (sR (bB (lB (bB (aS (body f97)))))))))) (aR 1 aD.u1 Q) [(0,.slice a b c),(1,.int .i64 d),(2,.int .i64 e),(3,.int .i64 f),(4,CL bD g),(10,.bool (decide (n>=o))),(11,.bool j),(16,.int .i64 k)] w)
variable(bD:Bool)(a:OA)(b c:Nat)(d e f:Int)(g:OA)(i j:Bool)(k m n o:Int)(Q:aT)(w:World)
theorem aD.j11:(bg none [] prog 148 aD.k (fU (cH (bB (lB (bB (aS (body f97))))))) aD.u1 (aR 1 aD.u1 Q) [(0,.slice a b c),(1,.int .i64 d),(2,.int .i64 e),(3,.int .i64 f),(4,CL bD g),(10,.bool i),(11,.bool j),(16,.int .i64 k),(18,.int .i64 m),(19,.int .i64 n),(20,.int .i64 o)] w)=aD.J11 bD a b c d e f g i j k m n o Q w:=by cases bD<;>kernel_rfl
variable{bD a b c d e f g i j k m n o Q w}
theorem aD.Pw(h:aD.J11 bD a b c d e f g i j k m n o Q w):Holds none [] prog 148 (fU (cH (bB (lB (bB (aS (body f97))))))) (aR 1 aD.u1 Q) [(0,.slice a b c),(1,.int .i64 d),(2,.int .i64 e),(3,.int .i64 f),(4,CL bD g),(10,.bool i),(11,.bool j),(16,.int .i64 k),(18,.int .i64 m),(19,.int .i64 n),(20,.int .i64 o)] w:=
 dh (C:=aD.k) ng mix (aD.j11 bD a b c d e f g i j k m n o Q w) h
end
section
variable(bD:Bool)(a:OA)(b c:Nat)(d e f:Int)(g:OA)(i j:Bool)(k:Int)(Q:aT)(w:World)
def aD.J12:Prop:=
 bG prog 97 #[.slice a b c,.int .i64 d,.int .i64 k,.int .i64 f,CL bD g] w fun m n=>m=.tuple #[]/\Holds none [] prog 148 (aS (cT (fU (cH (sR (bB (lB (bB (aS (body f97)))))))))) (aR 1 aD.u1 Q) [(0,.slice a b c),(1,.int .i64 d),(2,.int .i64 e),(3,.int .i64 f),(4,CL bD g),(10,.bool i),(11,.bool j),(16,.int .i64 k)] n
theorem aD.j12:(bg none [] prog 148 aD.k (sR (cT (fU (cH (sR (bB (lB (bB (aS (body f97)))))))))) aD.u1 (aR 1 aD.u1 Q) [(0,.slice a b c),(1,.int .i64 d),(2,.int .i64 e),(3,.int .i64 f),(4,CL bD g),(10,.bool i),(11,.bool j),(16,.int .i64 k)] w)=aD.J12 bD a b c d e f g i j k Q w:=by cases bD<;>kernel_rfl
variable{bD a b c d e f g i j k Q w}
theorem aD.Pv(h:aD.J12 bD a b c d e f g i j k Q w):Holds none [] prog 148 (sR (cT (fU (cH (sR (bB (lB (bB (aS (body f97)))))))))) (aR 1 aD.u1 Q) [(0,.slice a b c),(1,.int .i64 d),(2,.int .i64 e),(3,.int .i64 f),(4,CL bD g),(10,.bool i),(11,.bool j),(16,.int .i64 k)] w:=
 dh (C:=aD.k) ng mix (aD.j12 bD a b c d e f g i j k Q w) h
end
section
variable(bD:Bool)(a:OA)(b c:Nat)(d e f:Int)(g:OA)(i j:Bool)(k:Int)(Q:aT)(w:World)
def aD.J13:Prop:=
 bG prog 97 #[.slice a b c,.int .i64 (i64.wrap (k+(1:Int))),.int .i64 e,.int .i64 f,CL bD g] w fun m n=>m=.tuple #[]/\Holds none [] prog 148 (aS (cE (fU (cH (sR (bB (lB (bB (aS (body f97)))))))))) (aR 1 aD.u1 Q) [(0,.slice a b c),(1,.int .i64 d),(2,.int .i64 e),(3,.int .i64 f),(4,CL bD g),(10,.bool i),(11,.bool j),(16,.int .i64 k)] n
theorem aD.j13:(bg none [] prog 148 aD.k (sR (cE (fU (cH (sR (bB (lB (bB (aS (body f97)))))))))) aD.u1 (aR 1 aD.u1 Q) [(0,.slice a b c),(1,.int .i64 d),(2,.int .i64 e),(3,.int .i64 f),(4,CL bD g),(10,.bool i),(11,.bool j),(16,.int .i64 k)] w)=aD.J13 bD a b c d e f g i j k Q w:=by cases bD<;>kernel_rfl
variable{bD a b c d e f g i j k Q w}
theorem aD.Pu(h:aD.J13 bD a b c d e f g i j k Q w):Holds none [] prog 148 (sR (cE (fU (cH (sR (bB (lB (bB (aS (body f97)))))))))) (aR 1 aD.u1 Q) [(0,.slice a b c),(1,.int .i64 d),(2,.int .i64 e),(3,.int .i64 f),(4,CL bD g),(10,.bool i),(11,.bool j),(16,.int .i64 k)] w:=
 dh (C:=aD.k) ng mix (aD.j13 bD a b c d e f g i j k Q w) h
end
section
def aD.J14(bD:Bool)(a:OA)(b c:Nat)(d e f:Int)(g:OA)(i j:Bool)(k:Int)(Q:aT)(w:World):Prop:=
 Q .normal [(0,.slice a b c),(1,.int .i64 (i64.wrap (k+(1:Int)))),(2,.int .i64 e),(3,.int .i64 f),(4,CL bD g),(10,.bool i),(11,.bool j)] w
variable(bD:Bool)(a:OA)(b c:Nat)(d e f:Int)(g:OA)(i j:Bool)(k:Int)(Q:aT)(w:World)
theorem aD.j14:(bg none [] prog 148 aD.k (aS (cT (fU (cH (sR (bB (lB (bB (aS (body f97)))))))))) aD.u1 (aR 1 aD.u1 Q) [(0,.slice a b c),(1,.int .i64 d),(2,.int .i64 e),(3,.int .i64 f),(4,CL bD g),(10,.bool i),(11,.bool j),(16,.int .i64 k)] w)=aD.J14 bD a b c d e f g i j k Q w:=by cases bD<;>kernel_rfl
variable{bD a b c d e f g i j k Q w}
theorem aD.Pt(h:aD.J14 bD a b c d e f g i j k Q w):Holds none [] prog 148 (aS (cT (fU (cH (sR (bB (lB (bB (aS (body f97)))))))))) (aR 1 aD.u1 Q) [(0,.slice a b c),(1,.int .i64 d),(2,.int .i64 e),(3,.int .i64 f),(4,CL bD g),(10,.bool i),(11,.bool j),(16,.int .i64 k)] w:=
 dh (C:=aD.k) ng mix (aD.j14 bD a b c d e f g i j k Q w) h
end
section
def aD.J15(bD:Bool)(a:OA)(b c:Nat)(d e f:Int)(g:OA)(i j:Bool)(k:Int)(Q:aT)(w:World):Prop:=
 Q .normal [(0,.slice a b c),(1,.int .i64 d),(2,.int .i64 k),(3,.int .i64 f),(4,CL bD g),(10,.bool i),(11,.bool j)] w
variable(bD:Bool)(a:OA)(b c:Nat)(d e f:Int)(g:OA)(i j:Bool)(k:Int)(Q:aT)(w:World)
theorem aD.j15:(bg none [] prog 148 aD.k (aS (cE (fU (cH (sR (bB (lB (bB (aS (body f97)))))))))) aD.u1 (aR 1 aD.u1 Q) [(0,.slice a b c),(1,.int .i64 d),(2,.int .i64 e),(3,.int .i64 f),(4,CL bD g),(10,.bool i),(11,.bool j),(16,.int .i64 k)] w)=aD.J15 bD a b c d e f g i j k Q w:=by cases bD<;>kernel_rfl
variable{bD a b c d e f g i j k Q w}
theorem aD.Ps(h:aD.J15 bD a b c d e f g i j k Q w):Holds none [] prog 148 (aS (cE (fU (cH (sR (bB (lB (bB (aS (body f97)))))))))) (aR 1 aD.u1 Q) [(0,.slice a b c),(1,.int .i64 d),(2,.int .i64 e),(3,.int .i64 f),(4,CL bD g),(10,.bool i),(11,.bool j),(16,.int .i64 k)] w:=
 dh (C:=aD.k) ng mix (aD.j15 bD a b c d e f g i j k Q w) h
end
def cO.k:List Nat:= []
def cO.q1(K:KT):aT:=(aR 0 (aX f127) (bY prog f127 K))
def cO.e1(bD:Bool)(a:OA)(b c:Nat)(d e:Int)(f:OA)(s:Int):Env:= [(0,.slice a b c),(1,.int .i64 d),(2,.int .i64 e),(3,CL bD f),(8,.int .i64 s)]
def cO.u1:List Nat:= [0,1,2,3,8]
def cO.q2(Q:aT):aT:=(aR 2 (cK (aS (lB (bB (sR (body f127)))))++cO.u1) (aR 1 (cK (aS (lB (bB (sR (body f127)))))++cO.u1) (cg (fun cy w_=>match cutAt cO.k (aS (lB (bB (sR (body f127)))))with|true=>Holds none [] prog 53 (aS (lB (bB (sR (body f127))))) Q cy w_|false=>bg none [] prog 53 cO.k (aS (lB (bB (sR (body f127))))) cO.u1 Q cy w_) Q)))
def cO.e2(bD:Bool)(a:OA)(b c:Nat)(d e:Int)(f:OA)(g s:Int):Env:= [(0,.slice a b c),(1,.int .i64 d),(2,.int .i64 e),(3,CL bD f),(8,.int .i64 g),(9,.int .i64 s)]
def cO.u2:List Nat:= [0,1,2,3,8,9]
section
variable(bD:Bool)(a:OA)(b d:Nat)(e f:Int)(g:OA)(K:KT)(w:World)
def cO.W:Prop:=
 Holds none [] prog 53 (.loop (lB (bB (sR (body f127))))) (cO.q1 K) [(0,.slice a b d),(1,.int .i64 e),(2,.int .i64 f),(3,CL bD g),(8,.int .i64 (i64.wrap (e+(1:Int))))] w
variable{bD a b d e f g K w}
theorem cO.of(h:cO.W bD a b d e f g K w):bG prog 127 #[.slice a b d,.int .i64 e,.int .i64 f,CL bD g] w K:=
 by cases bD<;>exact rqq func127 (C:=cO.k) h
end
section
variable(bD:Bool)(a:OA)(b c:Nat)(d e:Int)(f:OA)(g:Int)(Q:aT)(w:World)
def cO.B1:Prop:=
 Split (decide (g<e)) (Holds none [] prog 53 (.loop (lB (bB (sR (bB (sL (sR (lB (bB (sR (body f127))))))))))) (cO.q2 Q) [(0,.slice a b c),(1,.int .i64 d),(2,.int .i64 e),(3,CL bD f),(8,.int .i64 g),(9,.int .i64 g)] w) (Q (.exit 0) [(0,.slice a b c),(1,.int .i64 d),(2,.int .i64 e),(3,CL bD f),(8,.int .i64 g)] w)
theorem cO.b1:(bg none [] prog 53 cO.k (lB (bB (sR (body f127)))) cO.u1 Q [(0,.slice a b c),(1,.int .i64 d),(2,.int .i64 e),(3,CL bD f),(8,.int .i64 g)] w)=cO.B1 bD a b c d e f g Q w:=by cases bD<;>kernel_rfl
variable{bD a b c d e f}
theorem cO.cJ(I:Int->World->Prop)(μ:Int->World->Nat)(s:Int){Q:aT}{w:World}(h0:I s w)
 (round:∀s w,I s w->cO.B1 bD a b c d e f s (bW (cO.e1 bD a b c d e f) I μ s w Q) w):Holds none [] prog 53 (.loop (lB (bB (sR (body f127))))) Q (cO.e1 bD a b c d e f s) w:=
 bC ng mix (cO.e1 bD a b c d e f) I μ cO.k cO.u1 s (fun s Q w=>cO.B1 bD a b c d e f s Q w) (fun s Q w=>cO.b1 bD a b c d e f s Q w) h0 round
end
section
def cO.df(a:OA)(b c:Nat)(d e:Int)(f:OA)(g:Int)(K:KT)(w:World):Prop:=
 K (.tuple #[]) w
variable(bD:Bool)(a:OA)(b c:Nat)(d e:Int)(f:OA)(g:Int)(K:KT)(w:World)
theorem cO.dz:(cO.q1 K (.exit 0) [(0,.slice a b c),(1,.int .i64 d),(2,.int .i64 e),(3,CL bD f),(8,.int .i64 g)] w)=cO.df a b c d e f g K w:=by cases bD<;>kernel_rfl
end
section
variable(bD:Bool)(a:OA)(b c:Nat)(d e:Int)(f:OA)(g i:Int)(Q:aT)(w:World)
def cO.B2:Prop:=
 let j:=w.drew;Split (decide (i>d)) ((0<=i/\i<(b:Int))/\Is a fun k:Addr=>∃m:AV,(m.size=32/\Cells j (k.add (i.toNat*32)) m)/\(0<=(i64.wrap (i-(1:Int)))/\(i64.wrap (i-(1:Int)))<(b:Int))/\Is a fun n:Addr=>∃o:AV,(o.size=32/\Cells j (n.add ((i64.wrap (i-(1:Int))).toNat*32)) o)/\bG prog (CF bD) (CA bD f m o) j fun p q=>∃r:Int,p=.int .i64 r/\Split (decide (r<(0:Int))) (let t:=q.drew;(0<=(i64.wrap (i-(1:Int)))/\(i64.wrap (i-(1:Int)))<(b:Int))/\Is a fun u:Addr=>∃v:AV,(v.size=32/\Cells t (u.add ((i64.wrap (i-(1:Int))).toNat*32)) v)/\(0<=i/\i<(b:Int))/\Is a fun x:Addr=>∃y:AV,(y.size=32/\Cells t (x.add (i.toNat*32)) y)/\(0<=i/\i<(b:Int))/\Is a fun z:Addr=>(v.size=32/\(∀a1∈v.toList,a1.oneCell'=true)/\∀b1,b1<32->Wr t ((z.add (i.toNat*32)).add b1))/\let c1:=setCells t (z.add (i.toNat*32)) v.toList 0;(0<=(i64.wrap (i-(1:Int)))/\(i64.wrap (i-(1:Int)))<(b:Int))/\Is a fun d1:Addr=>(y.size=32/\(∀e1∈y.toList,e1.oneCell'=true)/\∀f1,f1<32->Wr c1 ((d1.add ((i64.wrap (i-(1:Int))).toNat*32)).add f1))/\let g1:=setCells c1 (d1.add ((i64.wrap (i-(1:Int))).toNat*32)) y.toList 0;Q .normal [(0,.slice a b c),(1,.int .i64 d),(2,.int .i64 e),(3,CL bD f),(8,.int .i64 g),(9,.int .i64 (i64.wrap (i-(1:Int))))] g1) (Q (.exit 2) [(0,.slice a b c),(1,.int .i64 d),(2,.int .i64 e),(3,CL bD f),(8,.int .i64 g),(9,.int .i64 i)] q)) (Q (.exit 2) [(0,.slice a b c),(1,.int .i64 d),(2,.int .i64 e),(3,CL bD f),(8,.int .i64 g),(9,.int .i64 i)] j)
theorem cO.b2:(bg none [] prog 53 cO.k (lB (bB (sR (bB (sL (sR (lB (bB (sR (body f127)))))))))) cO.u2 Q [(0,.slice a b c),(1,.int .i64 d),(2,.int .i64 e),(3,CL bD f),(8,.int .i64 g),(9,.int .i64 i)] w)=cO.B2 bD a b c d e f g i Q w:=by cases bD<;>kernel_rfl
variable{bD a b c d e f g}
theorem cO.iB(I:Int->World->Prop)(μ:Int->World->Nat)(s:Int){Q:aT}{w:World}(h0:I s w)
 (round:∀s w,I s w->cO.B2 bD a b c d e f g s (bW (cO.e2 bD a b c d e f g) I μ s w Q) w):Holds none [] prog 53 (.loop (lB (bB (sR (bB (sL (sR (lB (bB (sR (body f127))))))))))) Q (cO.e2 bD a b c d e f g s) w:=
 bC ng mix (cO.e2 bD a b c d e f g) I μ cO.k cO.u2 s (fun s Q w=>cO.B2 bD a b c d e f g s Q w) (fun s Q w=>cO.b2 bD a b c d e f g s Q w) h0 round
end
section
def cO.jh(bD:Bool)(a:OA)(b c:Nat)(d e:Int)(f:OA)(g i:Int)(Q:aT)(w:World):Prop:=
 Q .normal [(0,.slice a b c),(1,.int .i64 d),(2,.int .i64 e),(3,CL bD f),(8,.int .i64 (i64.wrap (g+(1:Int))))] w
variable(bD:Bool)(a:OA)(b c:Nat)(d e:Int)(f:OA)(g i:Int)(Q:aT)(w:World)
theorem cO.ki:(cO.q2 Q (.exit 2) [(0,.slice a b c),(1,.int .i64 d),(2,.int .i64 e),(3,CL bD f),(8,.int .i64 g),(9,.int .i64 i)] w)=cO.jh bD a b c d e f g i Q w:=by cases bD<;>kernel_rfl
end
def cF.k:List Nat:= []
def cF.q1(K:KT):aT:=(aR 0 (cK (cH (body f128))++(aX f128)) (cg (fun cy w_=>match cutAt cF.k (cH (body f128))with|true=>Holds none [] prog 60 (cH (body f128)) (bY prog f128 K) cy w_|false=>bg none [] prog 60 cF.k (cH (body f128)) (aX f128) (bY prog f128 K) cy w_) (bY prog f128 K)))
def cF.e1(bD:Bool)(a:OA)(b c:Nat)(d:OA)(e f g s:Int):Env:= [(0,.slice a b c),(3,CL bD d),(8,.int .i64 e),(9,.int .i64 f),(10,.int .i64 g),(11,.int .i64 s)]
def cF.u1:List Nat:= [0,3,8,9,10,11]
def cF.q2(K:KT):aT:=(aR 2 (aX f128) (bY prog f128 K))
def cF.e2(bD:Bool)(a:OA)(b c:Nat)(d:OA)(e f s:Int):Env:= [(0,.slice a b c),(3,CL bD d),(8,.int .i64 e),(9,.int .i64 f),(12,.int .i64 s)]
def cF.u2:List Nat:= [0,3,8,9,12]
section
variable(bD:Bool)(a:OA)(b d:Nat)(e f:Int)(g:OA)(K:KT)(w:World)
def cF.W:Prop:=
 (2:Int)≠0/\Holds none [] prog 60 (.loop (lB (bB (sR (sL (aS (sR (body f128)))))))) (cF.q1 K) [(0,.slice a b d),(3,CL bD g),(8,.int .i64 e),(9,.int .i64 0),(10,.int .i64 (i64.wrap (f-e))),(11,.int .i64 (i64.wrap ((i64.wrap ((i64.wrap (f-e))-(1:Int))).tdiv (2:Int))))] w
variable{bD a b d e f g K w}
theorem cF.of(h:cF.W bD a b d e f g K w):bG prog 128 #[.slice a b d,.int .i64 e,.int .i64 f,CL bD g] w K:=
 by cases bD<;>exact rqq func128 (C:=cF.k) h
end
section
variable(bD:Bool)(a:OA)(b c:Nat)(d:OA)(e f g i:Int)(Q:aT)(w:World)
def cF.B1:Prop:=
 Split (decide (i>=(0:Int))) (bG prog 152 #[.slice a b c,.int .i64 i,.int .i64 g,.int .i64 e,CL bD d] w fun j k=>j=.tuple #[]/\Q .normal [(0,.slice a b c),(3,CL bD d),(8,.int .i64 e),(9,.int .i64 f),(10,.int .i64 g),(11,.int .i64 (i64.wrap (i-(1:Int))))] k) (Q (.exit 0) [(0,.slice a b c),(3,CL bD d),(8,.int .i64 e),(9,.int .i64 f),(10,.int .i64 g),(11,.int .i64 i)] w)
theorem cF.b1:(bg none [] prog 60 cF.k (lB (bB (sR (sL (aS (sR (body f128))))))) cF.u1 Q [(0,.slice a b c),(3,CL bD d),(8,.int .i64 e),(9,.int .i64 f),(10,.int .i64 g),(11,.int .i64 i)] w)=cF.B1 bD a b c d e f g i Q w:=by cases bD<;>kernel_rfl
variable{bD a b c d e f g}
theorem cF.cJ(I:Int->World->Prop)(μ:Int->World->Nat)(s:Int){Q:aT}{w:World}(h0:I s w)
 (round:∀s w,I s w->cF.B1 bD a b c d e f g s (bW (cF.e1 bD a b c d e f g) I μ s w Q) w):Holds none [] prog 60 (.loop (lB (bB (sR (sL (aS (sR (body f128)))))))) Q (cF.e1 bD a b c d e f g s) w:=
 bC ng mix (cF.e1 bD a b c d e f g) I μ cF.k cF.u1 s (fun s Q w=>cF.B1 bD a b c d e f g s Q w) (fun s Q w=>cF.b1 bD a b c d e f g s Q w) h0 round
end
section
def cF.df(bD:Bool)(a:OA)(b c:Nat)(d:OA)(e f g i:Int)(K:KT)(w:World):Prop:=
 Holds none [] prog 60 (.loop (lB (bB (cH (sR (body f128)))))) (cF.q2 K) [(0,.slice a b c),(3,CL bD d),(8,.int .i64 e),(9,.int .i64 f),(12,.int .i64 (i64.wrap (g-(1:Int))))] w
variable(bD:Bool)(a:OA)(b c:Nat)(d:OA)(e f g i:Int)(K:KT)(w:World)
theorem cF.dz:(cF.q1 K (.exit 0) [(0,.slice a b c),(3,CL bD d),(8,.int .i64 e),(9,.int .i64 f),(10,.int .i64 g),(11,.int .i64 i)] w)=cF.df bD a b c d e f g i K w:=by cases bD<;>kernel_rfl
end
section
variable(bD:Bool)(a:OA)(b c:Nat)(d:OA)(e f g:Int)(Q:aT)(w:World)
def cF.B2:Prop:=
 Split (decide (g>=(0:Int))) (let i:=w.drew;(0<=(i64.wrap (e+g))/\(i64.wrap (e+g))<(b:Int))/\Is a fun j:Addr=>∃k:AV,(k.size=32/\Cells i (j.add ((i64.wrap (e+g)).toNat*32)) k)/\(0<=e/\e<(b:Int))/\Is a fun m:Addr=>∃n:AV,(n.size=32/\Cells i (m.add (e.toNat*32)) n)/\(0<=e/\e<(b:Int))/\Is a fun o:Addr=>(k.size=32/\(∀p∈k.toList,p.oneCell'=true)/\∀q,q<32->Wr i ((o.add (e.toNat*32)).add q))/\let r:=setCells i (o.add (e.toNat*32)) k.toList 0;(0<=(i64.wrap (e+g))/\(i64.wrap (e+g))<(b:Int))/\Is a fun t:Addr=>(n.size=32/\(∀u∈n.toList,u.oneCell'=true)/\∀v,v<32->Wr r ((t.add ((i64.wrap (e+g)).toNat*32)).add v))/\let x:=setCells r (t.add ((i64.wrap (e+g)).toNat*32)) n.toList 0;bG prog 152 #[.slice a b c,.int .i64 f,.int .i64 g,.int .i64 e,CL bD d] x fun y z=>y=.tuple #[]/\Q .normal [(0,.slice a b c),(3,CL bD d),(8,.int .i64 e),(9,.int .i64 f),(12,.int .i64 (i64.wrap (g-(1:Int))))] z) (Q (.exit 2) [(0,.slice a b c),(3,CL bD d),(8,.int .i64 e),(9,.int .i64 f),(12,.int .i64 g)] w)
theorem cF.b2:(bg none [] prog 60 cF.k (lB (bB (cH (sR (body f128))))) cF.u2 Q [(0,.slice a b c),(3,CL bD d),(8,.int .i64 e),(9,.int .i64 f),(12,.int .i64 g)] w)=cF.B2 bD a b c d e f g Q w:=by cases bD<;>kernel_rfl
variable{bD a b c d e f}
theorem cF.iB(I:Int->World->Prop)(μ:Int->World->Nat)(s:Int){Q:aT}{w:World}(h0:I s w)
 (round:∀s w,I s w->cF.B2 bD a b c d e f s (bW (cF.e2 bD a b c d e f) I μ s w Q) w):Holds none [] prog 60 (.loop (lB (bB (cH (sR (body f128)))))) Q (cF.e2 bD a b c d e f s) w:=
 bC ng mix (cF.e2 bD a b c d e f) I μ cF.k cF.u2 s (fun s Q w=>cF.B2 bD a b c d e f s Q w) (fun s Q w=>cF.b2 bD a b c d e f s Q w) h0 round
end
section
def cF.jh(a:OA)(b c:Nat)(d:OA)(e f g:Int)(K:KT)(w:World):Prop:=
 K (.tuple #[]) w
variable(bD:Bool)(a:OA)(b c:Nat)(d:OA)(e f g:Int)(K:KT)(w:World)
theorem cF.ki:(cF.q2 K (.exit 2) [(0,.slice a b c),(3,CL bD d),(8,.int .i64 e),(9,.int .i64 f),(12,.int .i64 g)] w)=cF.jh a b c d e f g K w:=by cases bD<;>kernel_rfl
end
def fp.k:List Nat:= []
def fp.q1(K:KT):aT:=(aR 0 (aX Tryz.f129) (bY prog Tryz.f129 K))
def fp.e1(a:OA)(b c:Nat)(d e:Int)(f:Addr)(g s:Int):Env:= [(0,.slice a b c),(1,.int .i64 d),(8,.int .i64 e),(9,.pointer (some f)),(10,.int .u64 g),(11,.int .i64 s)]
def fp.u1:List Nat:= [0,1,8,9,10,11]
section
def fp.W(a:OA)(b d:Nat)(e f:Int)(g:OA)(K:KT)(w:World):Prop:=
 Split (decide ((i64.wrap (f-e))>=(8:Int))) (let i:=w.alloc (.cells (#[.int .u64 0]:AV) 204);Wr i (aV w.heap.size)/\let j:=i.setCell (aV w.heap.size) (.int .u64 (u64.wrap (i64.wrap (f-e))));bG prog 153 #[.int .i64 (i64.wrap (f-e))] j fun k m=>∃n:Int,k=.int .u64 n/\(4:Int)≠0/\Holds none [] prog 67 (.loop (lB (bB (aS (sR (cT (aS (body Tryz.f129)))))))) (fp.q1 K) [(0,.slice a b d),(1,.int .i64 e),(8,.int .i64 (i64.wrap (f-e))),(9,.pointer (some (aV w.heap.size))),(10,.int .u64 n),(11,.int .i64 (i64.wrap ((i64.wrap (e+(i64.wrap ((i64.wrap ((i64.wrap (f-e)).tdiv (4:Int)))*(2:Int)))))-(1:Int))))] m) (K (.tuple #[]) w)
variable(bD:Bool)(a:OA)(b d:Nat)(e f:Int)(g:OA)(K:KT)(w:World)
variable{bD a b d e f g K w}
theorem fp.of(h:fp.W a b d e f g K w):bG prog 129 #[.slice a b d,.int .i64 e,.int .i64 f,CL bD g] w K:=
 by cases bD<;>exact rqq func129 (C:=fp.k) h
end
section
variable(bD:Bool)(a:OA)(b c:Nat)(d e:Int)(f:Addr)(g i:Int)(Q:aT)(w:World)
def fp.B1:Prop:=
 (4:Int)≠0/\Split (decide (i<=(i64.wrap ((i64.wrap (d+(i64.wrap ((i64.wrap (e.tdiv (4:Int)))*(2:Int)))))+(1:Int))))) (bG prog 154 #[.pointer (some f)] w fun j k=>∃m:Int,j=.int .u64 m/\Split (decide ((i64.wrap (u64.wrap ((BitVec.ofInt 64 m&&& BitVec.ofInt 64 (u64.wrap (g-(1:Int)))).toNat)))>=e)) (let n:=k.drew;(0<=(i64.wrap (d+(i64.wrap ((i64.wrap (u64.wrap ((BitVec.ofInt 64 m&&& BitVec.ofInt 64 (u64.wrap (g-(1:Int)))).toNat)))-e))))/\(i64.wrap (d+(i64.wrap ((i64.wrap (u64.wrap ((BitVec.ofInt 64 m&&& BitVec.ofInt 64 (u64.wrap (g-(1:Int)))).toNat)))-e))))<(b:Int))/\Is a fun o:Addr=>∃p:AV,(p.size=32/\Cells n (o.add ((i64.wrap (d+(i64.wrap ((i64.wrap (u64.wrap ((BitVec.ofInt 64 m&&& BitVec.ofInt 64 (u64.wrap (g-(1:Int)))).toNat)))-e)))).toNat*32)) p)/\(0<=i/\i<(b:Int))/\Is a fun q:Addr=>∃r:AV,(r.size=32/\Cells n (q.add (i.toNat*32)) r)/\(0<=i/\i<(b:Int))/\Is a fun t:Addr=>(p.size=32/\(∀u∈p.toList,u.oneCell'=true)/\∀v,v<32->Wr n ((t.add (i.toNat*32)).add v))/\let x:=setCells n (t.add (i.toNat*32)) p.toList 0;(0<=(i64.wrap (d+(i64.wrap ((i64.wrap (u64.wrap ((BitVec.ofInt 64 m&&& BitVec.ofInt 64 (u64.wrap (g-(1:Int)))).toNat)))-e))))/\(i64.wrap (d+(i64.wrap ((i64.wrap (u64.wrap ((BitVec.ofInt 64 m&&& BitVec.ofInt 64 (u64.wrap (g-(1:Int)))).toNat)))-e))))<(b:Int))/\Is a fun y:Addr=>(r.size=32/\(∀z∈r.toList,z.oneCell'=true)/\∀a1,a1<32->Wr x ((y.add ((i64.wrap (d+(i64.wrap ((i64.wrap (u64.wrap ((BitVec.ofInt 64 m&&& BitVec.ofInt 64 (u64.wrap (g-(1:Int)))).toNat)))-e)))).toNat*32)).add a1))/\let b1:=setCells x (y.add ((i64.wrap (d+(i64.wrap ((i64.wrap (u64.wrap ((BitVec.ofInt 64 m&&& BitVec.ofInt 64 (u64.wrap (g-(1:Int)))).toNat)))-e)))).toNat*32)) r.toList 0;Q .normal [(0,.slice a b c),(1,.int .i64 d),(8,.int .i64 e),(9,.pointer (some f)),(10,.int .u64 g),(11,.int .i64 (i64.wrap (i+(1:Int))))] b1) (let c1:=k.drew;(0<=(i64.wrap (d+(i64.wrap (u64.wrap ((BitVec.ofInt 64 m&&& BitVec.ofInt 64 (u64.wrap (g-(1:Int)))).toNat)))))/\(i64.wrap (d+(i64.wrap (u64.wrap ((BitVec.ofInt 64 m&&& BitVec.ofInt 64 (u64.wrap (g-(1:Int)))).toNat)))))<(b:Int))/\Is a fun d1:Addr=>∃e1:AV,(e1.size=32/\Cells c1 (d1.add ((i64.wrap (d+(i64.wrap (u64.wrap ((BitVec.ofInt 64 m&&& BitVec.ofInt 64 (u64.wrap (g-(1:Int)))).toNat))))).toNat*32)) e1)/\(0<=i/\i<(b:Int))/\Is a fun f1:Addr=>∃g1:AV,(g1.size=32/\Cells c1 (f1.add (i.toNat*32)) g1)/\(0<=i/\i<(b:Int))/\Is a fun i1:Addr=>(e1.size=32/\(∀j1∈e1.toList,j1.oneCell'=true)/\∀k1,k1<32->Wr c1 ((i1.add (i.toNat*32)).add k1))/\let m1:=setCells c1 (i1.add (i.toNat*32)) e1.toList 0;(0<=(i64.wrap (d+(i64.wrap (u64.wrap ((BitVec.ofInt 64 m&&& BitVec.ofInt 64 (u64.wrap (g-(1:Int)))).toNat)))))/\(i64.wrap (d+(i64.wrap (u64.wrap ((BitVec.ofInt 64 m&&& BitVec.ofInt 64 (u64.wrap (g-(1:Int)))).toNat)))))<(b:Int))/\Is a fun n1:Addr=>(g1.size=32/\(∀o1∈g1.toList,o1.oneCell'=true)/\∀p1,p1<32->Wr m1 ((n1.add ((i64.wrap (d+(i64.wrap (u64.wrap ((BitVec.ofInt 64 m&&& BitVec.ofInt 64 (u64.wrap (g-(1:Int)))).toNat))))).toNat*32)).add p1))/\let q1:=setCells m1 (n1.add ((i64.wrap (d+(i64.wrap (u64.wrap ((BitVec.ofInt 64 m&&& BitVec.ofInt 64 (u64.wrap (g-(1:Int)))).toNat))))).toNat*32)) g1.toList 0;Q .normal [(0,.slice a b c),(1,.int .i64 d),(8,.int .i64 e),(9,.pointer (some f)),(10,.int .u64 g),(11,.int .i64 (i64.wrap (i+(1:Int))))] q1)) (Q (.exit 0) [(0,.slice a b c),(1,.int .i64 d),(8,.int .i64 e),(9,.pointer (some f)),(10,.int .u64 g),(11,.int .i64 i)] w)
theorem fp.b1:(bg none [] prog 67 fp.k (lB (bB (aS (sR (cT (aS (body Tryz.f129))))))) fp.u1 Q [(0,.slice a b c),(1,.int .i64 d),(8,.int .i64 e),(9,.pointer (some f)),(10,.int .u64 g),(11,.int .i64 i)] w)=fp.B1 a b c d e f g i Q w:=by kernel_rfl
variable{bD a b c d e f g}
theorem fp.cJ(I:Int->World->Prop)(μ:Int->World->Nat)(s:Int){Q:aT}{w:World}(h0:I s w)
 (round:∀s w,I s w->fp.B1 a b c d e f g s (bW (fp.e1 a b c d e f g) I μ s w Q) w):Holds none [] prog 67 (.loop (lB (bB (aS (sR (cT (aS (body Tryz.f129)))))))) Q (fp.e1 a b c d e f g s) w:=
 bC ng mix (fp.e1 a b c d e f g) I μ fp.k fp.u1 s (fun s Q w=>fp.B1 a b c d e f g s Q w) (fun s Q w=>fp.b1 a b c d e f g s Q w) h0 round
end
section
def fp.df(a:OA)(b c:Nat)(d e:Int)(f:Addr)(g i:Int)(K:KT)(w:World):Prop:=
 K (.tuple #[]) w
variable(bD:Bool)(a:OA)(b c:Nat)(d e:Int)(f:Addr)(g i:Int)(K:KT)(w:World)
theorem fp.dz:(fp.q1 K (.exit 0) [(0,.slice a b c),(1,.int .i64 d),(8,.int .i64 e),(9,.pointer (some f)),(10,.int .u64 g),(11,.int .i64 i)] w)=fp.df a b c d e f g i K w:=by kernel_rfl
end
def sY.k:List Nat:= []
section
variable(bD:Bool)(a:OA)(b d:Nat)(e f:Int)(g:OA)(K:KT)(w:World)
def sY.W:Prop:=
 let i:=w.alloc (.cells (#[.int .i64 0]:AV) 3);(4:Int)≠0/\(4:Int)≠0/\(4:Int)≠0/\Split (decide ((i64.wrap (f-e))>=(8:Int))) (Split (decide ((i64.wrap (f-e))>=(50:Int))) (bG prog 155 #[.slice a b d,.int .i64 (i64.wrap (e+(i64.wrap ((i64.wrap ((i64.wrap (f-e)).tdiv (4:Int)))*(1:Int))))),.pointer (some (aV w.heap.size)),CL bD g] i fun j k=>∃m:Int,j=.int .i64 m/\bG prog 155 #[.slice a b d,.int .i64 (i64.wrap (e+(i64.wrap ((i64.wrap ((i64.wrap (f-e)).tdiv (4:Int)))*(2:Int))))),.pointer (some (aV w.heap.size)),CL bD g] k fun n o=>∃p:Int,n=.int .i64 p/\bG prog 155 #[.slice a b d,.int .i64 (i64.wrap (e+(i64.wrap ((i64.wrap ((i64.wrap (f-e)).tdiv (4:Int)))*(3:Int))))),.pointer (some (aV w.heap.size)),CL bD g] o fun q r=>∃t:Int,q=.int .i64 t/\bG prog 156 #[.slice a b d,.int .i64 m,.int .i64 p,.int .i64 t,.pointer (some (aV w.heap.size)),CL bD g] r fun u v=>∃x:Int,u=.int .i64 x/\∃y:Int,v.cell? (aV w.heap.size)=some (.int .i64 y)/\Split (y==(0:Int)) (K (.tuple #[.int .i64 x,.int .i64 1]) v) (Split (y==(12:Int)) (K (.tuple #[.int .i64 x,.int .i64 2]) v) (K (.tuple #[.int .i64 x,.int .i64 0]) v))) (bG prog 156 #[.slice a b d,.int .i64 (i64.wrap (e+(i64.wrap ((i64.wrap ((i64.wrap (f-e)).tdiv (4:Int)))*(1:Int))))),.int .i64 (i64.wrap (e+(i64.wrap ((i64.wrap ((i64.wrap (f-e)).tdiv (4:Int)))*(2:Int))))),.int .i64 (i64.wrap (e+(i64.wrap ((i64.wrap ((i64.wrap (f-e)).tdiv (4:Int)))*(3:Int))))),.pointer (some (aV w.heap.size)),CL bD g] i fun z a1=>∃b1:Int,z=.int .i64 b1/\∃c1:Int,a1.cell? (aV w.heap.size)=some (.int .i64 c1)/\Split (c1==(0:Int)) (K (.tuple #[.int .i64 b1,.int .i64 1]) a1) (Split (c1==(12:Int)) (K (.tuple #[.int .i64 b1,.int .i64 2]) a1) (K (.tuple #[.int .i64 b1,.int .i64 0]) a1)))) (∃d1:Int,i.cell? (aV w.heap.size)=some (.int .i64 d1)/\Split (d1==(0:Int)) (K (.tuple #[.int .i64 (i64.wrap (e+(i64.wrap ((i64.wrap ((i64.wrap (f-e)).tdiv (4:Int)))*(2:Int))))),.int .i64 1]) i) (Split (d1==(12:Int)) (K (.tuple #[.int .i64 (i64.wrap (e+(i64.wrap ((i64.wrap ((i64.wrap (f-e)).tdiv (4:Int)))*(2:Int))))),.int .i64 2]) i) (K (.tuple #[.int .i64 (i64.wrap (e+(i64.wrap ((i64.wrap ((i64.wrap (f-e)).tdiv (4:Int)))*(2:Int))))),.int .i64 0]) i)))
variable{bD a b d e f g K w}
theorem sY.of(h:sY.W bD a b d e f g K w):bG prog 130 #[.slice a b d,.int .i64 e,.int .i64 f,CL bD g] w K:=
 by cases bD<;>exact rqq func130 (C:=sY.k) h
end
def fi.k:List Nat:= []
def fi.q1(K:KT):aT:=(aR 0 (aX f131) (bY prog f131 K))
def fi.e1(a:OA)(b c:Nat)(s:Int×Int):Env:= [(0,.slice a b c),(8,.int .i64 s.1),(9,.int .i64 s.2)]
def fi.u1:List Nat:= [0,8,9]
section
def fi.W(a:OA)(b d:Nat)(e f:Int)(g:OA)(K:KT)(w:World):Prop:=
 Holds none [] prog 34 (.loop (lB (bB (aS (body f131))))) (fi.q1 K) [(0,.slice a b d),(8,.int .i64 e),(9,.int .i64 (i64.wrap (f-(1:Int))))] w
variable(bD:Bool)(a:OA)(b d:Nat)(e f:Int)(g:OA)(K:KT)(w:World)
variable{bD a b d e f g K w}
theorem fi.of(h:fi.W a b d e f g K w):bG prog 131 #[.slice a b d,.int .i64 e,.int .i64 f,CL bD g] w K:=
 by cases bD<;>exact rqq func131 (C:=fi.k) h
end
section
variable(bD:Bool)(a:OA)(b c:Nat)(d e:Int)(Q:aT)(w:World)
def fi.B1:Prop:=
 Split (decide (d<e)) (let f:=w.drew;(0<=e/\e<(b:Int))/\Is a fun g:Addr=>∃i:AV,(i.size=32/\Cells f (g.add (e.toNat*32)) i)/\(0<=d/\d<(b:Int))/\Is a fun j:Addr=>∃k:AV,(k.size=32/\Cells f (j.add (d.toNat*32)) k)/\(0<=d/\d<(b:Int))/\Is a fun m:Addr=>(i.size=32/\(∀n∈i.toList,n.oneCell'=true)/\∀o,o<32->Wr f ((m.add (d.toNat*32)).add o))/\let p:=setCells f (m.add (d.toNat*32)) i.toList 0;(0<=e/\e<(b:Int))/\Is a fun q:Addr=>(k.size=32/\(∀r∈k.toList,r.oneCell'=true)/\∀t,t<32->Wr p ((q.add (e.toNat*32)).add t))/\let u:=setCells p (q.add (e.toNat*32)) k.toList 0;Q .normal [(0,.slice a b c),(8,.int .i64 (i64.wrap (d+(1:Int)))),(9,.int .i64 (i64.wrap (e-(1:Int))))] u) (Q (.exit 0) [(0,.slice a b c),(8,.int .i64 d),(9,.int .i64 e)] w)
theorem fi.b1:(bg none [] prog 34 fi.k (lB (bB (aS (body f131)))) fi.u1 Q [(0,.slice a b c),(8,.int .i64 d),(9,.int .i64 e)] w)=fi.B1 a b c d e Q w:=by kernel_rfl
variable{bD a b c}
theorem fi.cJ(I:Int×Int->World->Prop)(μ:Int×Int->World->Nat)(s:Int×Int){Q:aT}{w:World}(h0:I s w)
 (round:∀s w,I s w->fi.B1 a b c (s.1) (s.2) (bW (fi.e1 a b c) I μ s w Q) w):Holds none [] prog 34 (.loop (lB (bB (aS (body f131))))) Q (fi.e1 a b c s) w:=
 bC ng mix (fi.e1 a b c) I μ fi.k fi.u1 s (fun s Q w=>fi.B1 a b c (s.1) (s.2) Q w) (fun s Q w=>fi.b1 a b c (s.1) (s.2) Q w) h0 round
end
section
def fi.df(a:OA)(b c:Nat)(d e:Int)(K:KT)(w:World):Prop:=
 K (.tuple #[]) w
variable(bD:Bool)(a:OA)(b c:Nat)(d e:Int)(K:KT)(w:World)
theorem fi.dz:(fi.q1 K (.exit 0) [(0,.slice a b c),(8,.int .i64 d),(9,.int .i64 e)] w)=fi.df a b c d e K w:=by kernel_rfl
end
def bQ.k:List Nat:= []
def bQ.q1(K:KT):aT:=(aR 0 (cK (aS (sR (body f132)))++(aX f132)) (cg (fun cy w_=>match cutAt bQ.k (aS (sR (body f132)))with|true=>Holds none [] prog 141 (aS (sR (body f132))) (bY prog f132 K) cy w_|false=>bg none [] prog 141 bQ.k (aS (sR (body f132))) (aX f132) (bY prog f132 K) cy w_) (bY prog f132 K)))
def bQ.e1(bD:Bool)(a:OA)(b c:Nat)(d e:Int)(f:OA)(s:Bool×Int×Int):Env:= [(0,.slice a b c),(1,.int .i64 d),(2,.int .i64 e),(3,CL bD f),(8,.bool s.1),(9,.int .i64 s.2.1),(10,.int .i64 s.2.2)]
def bQ.u1:List Nat:= [0,1,2,3,8,9,10]
def bQ.q2(Q:aT):aT:=(aR 2 (cK (sR (bB (sL (sR (lB (bB (sR (sL (aS (body f132))))))))))++(cK (aS (lB (bB (sR (sL (aS (body f132)))))))++bQ.u1)) (cg (fun cy w_=>match cutAt bQ.k (sR (bB (sL (sR (lB (bB (sR (sL (aS (body f132))))))))))with|true=>Holds none [] prog 141 (sR (bB (sL (sR (lB (bB (sR (sL (aS (body f132)))))))))) (aR 1 (cK (aS (lB (bB (sR (sL (aS (body f132)))))))++bQ.u1) (cg (fun cy w_=>match cutAt bQ.k (aS (lB (bB (sR (sL (aS (body f132)))))))with|true=>Holds none [] prog 141 (aS (lB (bB (sR (sL (aS (body f132))))))) Q cy w_|false=>bg none [] prog 141 bQ.k (aS (lB (bB (sR (sL (aS (body f132))))))) bQ.u1 Q cy w_) Q)) cy w_|false=>bg none [] prog 141 bQ.k (sR (bB (sL (sR (lB (bB (sR (sL (aS (body f132)))))))))) (cK (aS (lB (bB (sR (sL (aS (body f132)))))))++bQ.u1) (aR 1 (cK (aS (lB (bB (sR (sL (aS (body f132)))))))++bQ.u1) (cg (fun cy w_=>match cutAt bQ.k (aS (lB (bB (sR (sL (aS (body f132)))))))with|true=>Holds none [] prog 141 (aS (lB (bB (sR (sL (aS (body f132))))))) Q cy w_|false=>bg none [] prog 141 bQ.k (aS (lB (bB (sR (sL (aS (body f132))))))) bQ.u1 Q cy w_) Q)) cy w_) (aR 1 (cK (aS (lB (bB (sR (sL (aS (body f132)))))))++bQ.u1) (cg (fun cy w_=>match cutAt bQ.k (aS (lB (bB (sR (sL (aS (body f132)))))))with|true=>Holds none [] prog 141 (aS (lB (bB (sR (sL (aS (body f132))))))) Q cy w_|false=>bg none [] prog 141 bQ.k (aS (lB (bB (sR (sL (aS (body f132))))))) bQ.u1 Q cy w_) Q))))
def bQ.e2(bD:Bool)(a:OA)(b c:Nat)(d e:Int)(f:OA)(g:Bool)(i s:Int):Env:= [(0,.slice a b c),(1,.int .i64 d),(2,.int .i64 e),(3,CL bD f),(8,.bool g),(9,.int .i64 s),(10,.int .i64 i)]
def bQ.u2:List Nat:= [0,1,2,3,8,9,10]
def bQ.q3(Q:aT):aT:=(aR 4 (cK (cH (sR (bB (sL (sR (lB (bB (sR (sL (aS (body f132)))))))))))++(cK (aS (lB (bB (sR (sL (aS (body f132)))))))++bQ.u1)) (cg (fun cy w_=>match cutAt bQ.k (cH (sR (bB (sL (sR (lB (bB (sR (sL (aS (body f132)))))))))))with|true=>Holds none [] prog 141 (cH (sR (bB (sL (sR (lB (bB (sR (sL (aS (body f132))))))))))) (aR 1 (cK (aS (lB (bB (sR (sL (aS (body f132)))))))++bQ.u1) (cg (fun cy w_=>match cutAt bQ.k (aS (lB (bB (sR (sL (aS (body f132)))))))with|true=>Holds none [] prog 141 (aS (lB (bB (sR (sL (aS (body f132))))))) Q cy w_|false=>bg none [] prog 141 bQ.k (aS (lB (bB (sR (sL (aS (body f132))))))) bQ.u1 Q cy w_) Q)) cy w_|false=>bg none [] prog 141 bQ.k (cH (sR (bB (sL (sR (lB (bB (sR (sL (aS (body f132))))))))))) (cK (aS (lB (bB (sR (sL (aS (body f132)))))))++bQ.u1) (aR 1 (cK (aS (lB (bB (sR (sL (aS (body f132)))))))++bQ.u1) (cg (fun cy w_=>match cutAt bQ.k (aS (lB (bB (sR (sL (aS (body f132)))))))with|true=>Holds none [] prog 141 (aS (lB (bB (sR (sL (aS (body f132))))))) Q cy w_|false=>bg none [] prog 141 bQ.k (aS (lB (bB (sR (sL (aS (body f132))))))) bQ.u1 Q cy w_) Q)) cy w_) (aR 1 (cK (aS (lB (bB (sR (sL (aS (body f132)))))))++bQ.u1) (cg (fun cy w_=>match cutAt bQ.k (aS (lB (bB (sR (sL (aS (body f132)))))))with|true=>Holds none [] prog 141 (aS (lB (bB (sR (sL (aS (body f132))))))) Q cy w_|false=>bg none [] prog 141 bQ.k (aS (lB (bB (sR (sL (aS (body f132))))))) bQ.u1 Q cy w_) Q))))
def bQ.q4(Q:aT):aT:=(aR 6 (cK (aS (lB (bB (sR (sL (aS (body f132)))))))++bQ.u1) (aR 1 (cK (aS (lB (bB (sR (sL (aS (body f132)))))))++bQ.u1) (cg (fun cy w_=>match cutAt bQ.k (aS (lB (bB (sR (sL (aS (body f132)))))))with|true=>Holds none [] prog 141 (aS (lB (bB (sR (sL (aS (body f132))))))) Q cy w_|false=>bg none [] prog 141 bQ.k (aS (lB (bB (sR (sL (aS (body f132))))))) bQ.u1 Q cy w_) Q)))
section
variable(bD:Bool)(a:OA)(b d:Nat)(e f:Int)(g:OA)(K:KT)(w:World)
def bQ.W:Prop:=
 Holds none [] prog 141 (.loop (lB (bB (sR (sL (aS (body f132))))))) (bQ.q1 K) [(0,.slice a b d),(1,.int .i64 e),(2,.int .i64 f),(3,CL bD g),(8,.bool false),(9,.int .i64 (i64.wrap (e+(1:Int)))),(10,.int .i64 0)] w
variable{bD a b d e f g K w}
theorem bQ.of(h:bQ.W bD a b d e f g K w):bG prog 132 #[.slice a b d,.int .i64 e,.int .i64 f,CL bD g] w K:=
 by cases bD<;>exact rqq func132 (C:=bQ.k) h
end
section
variable(bD:Bool)(a:OA)(b c:Nat)(d e:Int)(f:OA)(g:Bool)(i j:Int)(Q:aT)(w:World)
def bQ.B1:Prop:=
 Split (decide (j<(5:Int))) (Holds none [] prog 141 (.loop (lB (bB (sL (bB (sL (sR (lB (bB (sR (sL (aS (body f132))))))))))))) (bQ.q2 Q) [(0,.slice a b c),(1,.int .i64 d),(2,.int .i64 e),(3,CL bD f),(8,.bool g),(9,.int .i64 i),(10,.int .i64 j)] w) (Q (.exit 0) [(0,.slice a b c),(1,.int .i64 d),(2,.int .i64 e),(3,CL bD f),(8,.bool g),(9,.int .i64 i),(10,.int .i64 j)] w)
theorem bQ.b1:(bg none [] prog 141 bQ.k (lB (bB (sR (sL (aS (body f132)))))) bQ.u1 Q [(0,.slice a b c),(1,.int .i64 d),(2,.int .i64 e),(3,CL bD f),(8,.bool g),(9,.int .i64 i),(10,.int .i64 j)] w)=bQ.B1 bD a b c d e f g i j Q w:=by cases bD<;>kernel_rfl
variable{bD a b c d e f}
theorem bQ.cJ(I:Bool×Int×Int->World->Prop)(μ:Bool×Int×Int->World->Nat)(s:Bool×Int×Int){Q:aT}{w:World}(h0:I s w)
 (round:∀s w,I s w->bQ.B1 bD a b c d e f (s.1) (s.2.1) (s.2.2) (bW (bQ.e1 bD a b c d e f) I μ s w Q) w):Holds none [] prog 141 (.loop (lB (bB (sR (sL (aS (body f132))))))) Q (bQ.e1 bD a b c d e f s) w:=
 bC ng mix (bQ.e1 bD a b c d e f) I μ bQ.k bQ.u1 s (fun s Q w=>bQ.B1 bD a b c d e f (s.1) (s.2.1) (s.2.2) Q w) (fun s Q w=>bQ.b1 bD a b c d e f (s.1) (s.2.1) (s.2.2) Q w) h0 round
end
section
variable(bD:Bool)(a:OA)(b c:Nat)(d e:Int)(f:OA)(g:Bool)(i j:Int)(K:KT)(w:World)
end
section
variable(bD:Bool)(a:OA)(b c:Nat)(d e:Int)(f:OA)(g:Bool)(i j:Int)(Q:aT)(w:World)
def bQ.B2:Prop:=
 let k:=w.drew;Split (decide (i<e)) ((0<=i/\i<(b:Int))/\Is a fun m:Addr=>∃n:AV,(n.size=32/\Cells k (m.add (i.toNat*32)) n)/\(0<=(i64.wrap (i-(1:Int)))/\(i64.wrap (i-(1:Int)))<(b:Int))/\Is a fun o:Addr=>∃p:AV,(p.size=32/\Cells k (o.add ((i64.wrap (i-(1:Int))).toNat*32)) p)/\bG prog (CF bD) (CA bD f n p) k fun q r=>∃t:Int,q=.int .i64 t/\Split (!(decide (t<(0:Int)))) (Q .normal [(0,.slice a b c),(1,.int .i64 d),(2,.int .i64 e),(3,CL bD f),(8,.bool g),(9,.int .i64 (i64.wrap (i+(1:Int)))),(10,.int .i64 j)] r) (Q (.exit 2) [(0,.slice a b c),(1,.int .i64 d),(2,.int .i64 e),(3,CL bD f),(8,.bool g),(9,.int .i64 i),(10,.int .i64 j)] r)) (Q (.exit 2) [(0,.slice a b c),(1,.int .i64 d),(2,.int .i64 e),(3,CL bD f),(8,.bool g),(9,.int .i64 i),(10,.int .i64 j)] k)
theorem bQ.b2:(bg none [] prog 141 bQ.k (lB (bB (sL (bB (sL (sR (lB (bB (sR (sL (aS (body f132)))))))))))) bQ.u2 Q [(0,.slice a b c),(1,.int .i64 d),(2,.int .i64 e),(3,CL bD f),(8,.bool g),(9,.int .i64 i),(10,.int .i64 j)] w)=bQ.B2 bD a b c d e f g i j Q w:=by cases bD<;>kernel_rfl
variable{bD a b c d e f g j}
theorem bQ.iB(I:Int->World->Prop)(μ:Int->World->Nat)(s:Int){Q:aT}{w:World}(h0:I s w)
 (round:∀s w,I s w->bQ.B2 bD a b c d e f g s j (bW (bQ.e2 bD a b c d e f g j) I μ s w Q) w):Holds none [] prog 141 (.loop (lB (bB (sL (bB (sL (sR (lB (bB (sR (sL (aS (body f132))))))))))))) Q (bQ.e2 bD a b c d e f g j s) w:=
 bC ng mix (bQ.e2 bD a b c d e f g j) I μ bQ.k bQ.u2 s (fun s Q w=>bQ.B2 bD a b c d e f g s j Q w) (fun s Q w=>bQ.b2 bD a b c d e f g s j Q w) h0 round
end
section
variable(bD:Bool)(a:OA)(b c:Nat)(d e:Int)(f:OA)(g:Bool)(i j:Int)(Q:aT)(w:World)
def bQ.jh:Prop:=
 Split (i==e) (Q .ret [(0,.slice a b c),(1,.int .i64 d),(2,.int .i64 e),(3,CL bD f),(8,.bool true),(9,.int .i64 i),(10,.int .i64 j)] w) (Split (decide ((i64.wrap (e-d))<(50:Int))) (Q .ret [(0,.slice a b c),(1,.int .i64 d),(2,.int .i64 e),(3,CL bD f),(8,.bool false),(9,.int .i64 i),(10,.int .i64 j)] w) (let k:=w.drew;(0<=(i64.wrap (i-(1:Int)))/\(i64.wrap (i-(1:Int)))<(b:Int))/\Is a fun m:Addr=>∃n:AV,(n.size=32/\Cells k (m.add ((i64.wrap (i-(1:Int))).toNat*32)) n)/\(0<=i/\i<(b:Int))/\Is a fun o:Addr=>∃p:AV,(p.size=32/\Cells k (o.add (i.toNat*32)) p)/\(0<=i/\i<(b:Int))/\Is a fun q:Addr=>(n.size=32/\(∀r∈n.toList,r.oneCell'=true)/\∀t,t<32->Wr k ((q.add (i.toNat*32)).add t))/\let u:=setCells k (q.add (i.toNat*32)) n.toList 0;(0<=(i64.wrap (i-(1:Int)))/\(i64.wrap (i-(1:Int)))<(b:Int))/\Is a fun v:Addr=>(p.size=32/\(∀x∈p.toList,x.oneCell'=true)/\∀y,y<32->Wr u ((v.add ((i64.wrap (i-(1:Int))).toNat*32)).add y))/\let z:=setCells u (v.add ((i64.wrap (i-(1:Int))).toNat*32)) p.toList 0;Split (decide ((i64.wrap (i-d))>=(2:Int))) (Holds none [] prog 141 (.loop (lB (bB (sR (cT (sR (sL (cH (bB (sL (sR (lB (bB (sR (sL (aS (body f132))))))))))))))))) (bQ.q3 Q) [(0,.slice a b c),(1,.int .i64 d),(2,.int .i64 e),(3,CL bD f),(8,.bool g),(9,.int .i64 i),(10,.int .i64 j),(11,.int .i64 (i64.wrap (i-(1:Int))))] z) (Split (decide ((i64.wrap (e-i))>=(2:Int))) (Holds none [] prog 141 (.loop (lB (bB (sR (cT (cH (aS (bB (sL (sR (lB (bB (sR (sL (aS (body f132)))))))))))))))) (bQ.q4 Q) [(0,.slice a b c),(1,.int .i64 d),(2,.int .i64 e),(3,CL bD f),(8,.bool g),(9,.int .i64 i),(10,.int .i64 j),(12,.int .i64 (i64.wrap (i+(1:Int))))] z) (Q .normal [(0,.slice a b c),(1,.int .i64 d),(2,.int .i64 e),(3,CL bD f),(8,.bool g),(9,.int .i64 i),(10,.int .i64 (i64.wrap (j+(1:Int))))] z))))
theorem bQ.ki:(bQ.q2 Q (.exit 2) [(0,.slice a b c),(1,.int .i64 d),(2,.int .i64 e),(3,CL bD f),(8,.bool g),(9,.int .i64 i),(10,.int .i64 j)] w)=bQ.jh bD a b c d e f g i j Q w:=by cases bD<;>kernel_rfl
end
section
variable(bD:Bool)(a:OA)(b c:Nat)(d e:Int)(f:OA)(g:Bool)(i j k:Int)(Q:aT)(w:World)
variable{bD a b c d e f g i j}
end
section
variable(bD:Bool)(a:OA)(b c:Nat)(d e:Int)(f:OA)(g:Bool)(i j k:Int)(Q:aT)(w:World)
end
section
variable(bD:Bool)(a:OA)(b c:Nat)(d e:Int)(f:OA)(g:Bool)(i j k:Int)(Q:aT)(w:World)
variable{bD a b c d e f g i j}
end
section
variable(bD:Bool)(a:OA)(b c:Nat)(d e:Int)(f:OA)(g:Bool)(i j k:Int)(Q:aT)(w:World)
end
section
variable(bD:Bool)(a:OA)(b d:Nat)(e f g:Int)(i:OA)(K:KT)(w:World)
variable{bD a b d e f g i K w}
end
section
variable(bD:Bool)(a:OA)(b c:Nat)(d:Int)(e:OA)(f g i:Int)(Q:aT)(w:World)
variable{bD a b c d e f}
end
section
variable(bD:Bool)(a:OA)(b c:Nat)(d:Int)(e:OA)(f g i:Int)(Q:aT)(w:World)
variable{bD a b c d e f i}
end
section
variable(bD:Bool)(a:OA)(b c:Nat)(d:Int)(e:OA)(f g i:Int)(Q:aT)(w:World)
end
section
variable(bD:Bool)(a:OA)(b c:Nat)(d:Int)(e:OA)(f g i:Int)(Q:aT)(w:World)
variable{bD a b c d e f g}
end
section
variable(bD:Bool)(a:OA)(b c:Nat)(d:Int)(e:OA)(f g i:Int)(Q:aT)(w:World)
end
section
variable(bD:Bool)(a:OA)(b c:Nat)(d:Int)(e:OA)(f g i:Int)(K:KT)(w:World)
end
def aZ.k:List Nat:= []
def aZ.q1(K:KT):aT:=(aR 0 (cK (cH (body f134))++(aX f134)) (cg (fun cy w_=>match cutAt aZ.k (cH (body f134))with|true=>Holds none [] prog 178 (cH (body f134)) (bY prog f134 K) cy w_|false=>bg none [] prog 178 aZ.k (cH (body f134)) (aX f134) (bY prog f134 K) cy w_) (bY prog f134 K)))
def aZ.e1(bD:Bool)(a:OA)(b c:Nat)(d:Int)(e:OA)(f g s:Int):Env:= [(0,.slice a b c),(1,.int .i64 d),(4,CL bD e),(10,.int .i64 f),(11,.bool false),(12,.int .i64 s),(13,.int .i64 g)]
def aZ.u1:List Nat:= [0,1,4,10,11,12,13]
def aZ.q2(K:KT):aT:=(aR 2 (cK (cH (sR (body f134)))++(aX f134)) (cg (fun cy w_=>match cutAt aZ.k (cH (sR (body f134)))with|true=>Holds none [] prog 178 (cH (sR (body f134))) (bY prog f134 K) cy w_|false=>bg none [] prog 178 aZ.k (cH (sR (body f134))) (aX f134) (bY prog f134 K) cy w_) (bY prog f134 K)))
def aZ.e2(bD:Bool)(a:OA)(b c:Nat)(d:Int)(e:OA)(f g s:Int):Env:= [(0,.slice a b c),(1,.int .i64 d),(4,CL bD e),(10,.int .i64 f),(11,.bool false),(12,.int .i64 g),(13,.int .i64 s)]
def aZ.u2:List Nat:= [0,1,4,10,11,12,13]
def aZ.q3(K:KT):aT:=(aR 4 (cK (fU (aS (body f134)))++(aX f134)) (cg (fun cy w_=>match cutAt aZ.k (fU (aS (body f134)))with|true=>Holds none [] prog 178 (fU (aS (body f134))) (bY prog f134 K) cy w_|false=>bg none [] prog 178 aZ.k (fU (aS (body f134))) (aX f134) (bY prog f134 K) cy w_) (bY prog f134 K)))
def aZ.e3(bD:Bool)(a:OA)(b c:Nat)(d:Int)(e:OA)(f:Int)(s:Int×Int):Env:= [(0,.slice a b c),(1,.int .i64 d),(4,CL bD e),(10,.int .i64 f),(11,.bool false),(12,.int .i64 s.1),(13,.int .i64 s.2)]
def aZ.u3:List Nat:= [0,1,4,10,11,12,13]
def aZ.q4(Q:aT):aT:=(aR 6 (cK (sR (bB (lB (bB (sL (fU (sR (body f134))))))))++aZ.u3) (cg (fun cy w_=>match cutAt aZ.k (sR (bB (lB (bB (sL (fU (sR (body f134))))))))with|true=>Holds none [] prog 178 (sR (bB (lB (bB (sL (fU (sR (body f134)))))))) (aR 5 aZ.u3 Q) cy w_|false=>bg none [] prog 178 aZ.k (sR (bB (lB (bB (sL (fU (sR (body f134)))))))) aZ.u3 (aR 5 aZ.u3 Q) cy w_) (aR 5 aZ.u3 Q)))
def aZ.e4(bD:Bool)(a:OA)(b c:Nat)(d:Int)(e:OA)(f g s:Int):Env:= [(0,.slice a b c),(1,.int .i64 d),(4,CL bD e),(10,.int .i64 f),(11,.bool false),(12,.int .i64 s),(13,.int .i64 g)]
def aZ.u4:List Nat:= [0,1,4,10,11,12,13]
def aZ.q5(Q:aT):aT:=(aR 8 (cK (aS (bB (lB (bB (sL (fU (sR (body f134))))))))++aZ.u3) (cg (fun cy w_=>match cutAt aZ.k (aS (bB (lB (bB (sL (fU (sR (body f134))))))))with|true=>Holds none [] prog 178 (aS (bB (lB (bB (sL (fU (sR (body f134)))))))) (aR 5 aZ.u3 Q) cy w_|false=>bg none [] prog 178 aZ.k (aS (bB (lB (bB (sL (fU (sR (body f134)))))))) aZ.u3 (aR 5 aZ.u3 Q) cy w_) (aR 5 aZ.u3 Q)))
def aZ.e5(bD:Bool)(a:OA)(b c:Nat)(d:Int)(e:OA)(f g s:Int):Env:= [(0,.slice a b c),(1,.int .i64 d),(4,CL bD e),(10,.int .i64 f),(11,.bool false),(12,.int .i64 g),(13,.int .i64 s)]
def aZ.u5:List Nat:= [0,1,4,10,11,12,13]
section
variable(bD:Bool)(a:OA)(b d:Nat)(e f g:Int)(i:OA)(K:KT)(w:World)
def aZ.W:Prop:=
 let j:=w.drew;(0<=g/\g<(b:Int))/\Is a fun k:Addr=>∃m:AV,(m.size=32/\Cells j (k.add (g.toNat*32)) m)/\(0<=e/\e<(b:Int))/\Is a fun n:Addr=>∃o:AV,(o.size=32/\Cells j (n.add (e.toNat*32)) o)/\(0<=e/\e<(b:Int))/\Is a fun p:Addr=>(m.size=32/\(∀q∈m.toList,q.oneCell'=true)/\∀r,r<32->Wr j ((p.add (e.toNat*32)).add r))/\let t:=setCells j (p.add (e.toNat*32)) m.toList 0;(0<=g/\g<(b:Int))/\Is a fun u:Addr=>(o.size=32/\(∀v∈o.toList,v.oneCell'=true)/\∀x,x<32->Wr t ((u.add (g.toNat*32)).add x))/\let y:=setCells t (u.add (g.toNat*32)) o.toList 0;Holds none [] prog 178 (.loop (lB (bB (sL (aS (sR (body f134))))))) (aZ.q1 K) [(0,.slice a b d),(1,.int .i64 e),(4,CL bD i),(10,.int .i64 0),(11,.bool false),(12,.int .i64 (i64.wrap (e+(1:Int)))),(13,.int .i64 (i64.wrap (f-(1:Int))))] y
variable{bD a b d e f g i K w}
theorem aZ.of(h:aZ.W bD a b d e f g i K w):bG prog 134 #[.slice a b d,.int .i64 e,.int .i64 f,.int .i64 g,CL bD i] w K:=
 by cases bD<;>exact rqq func134 (C:=aZ.k) h
end
section
variable(bD:Bool)(a:OA)(b c:Nat)(d:Int)(e:OA)(f g i:Int)(Q:aT)(w:World)
def aZ.B1:Prop:=
 let j:=w.drew;Split (decide (g<=i)) ((0<=g/\g<(b:Int))/\Is a fun k:Addr=>∃m:AV,(m.size=32/\Cells j (k.add (g.toNat*32)) m)/\(0<=d/\d<(b:Int))/\Is a fun n:Addr=>∃o:AV,(o.size=32/\Cells j (n.add (d.toNat*32)) o)/\bG prog (CF bD) (CA bD e m o) j fun p q=>∃r:Int,p=.int .i64 r/\Split (decide (r<(0:Int))) (Q .normal [(0,.slice a b c),(1,.int .i64 d),(4,CL bD e),(10,.int .i64 f),(11,.bool false),(12,.int .i64 (i64.wrap (g+(1:Int)))),(13,.int .i64 i)] q) (Q (.exit 0) [(0,.slice a b c),(1,.int .i64 d),(4,CL bD e),(10,.int .i64 f),(11,.bool false),(12,.int .i64 g),(13,.int .i64 i)] q)) (Q (.exit 0) [(0,.slice a b c),(1,.int .i64 d),(4,CL bD e),(10,.int .i64 f),(11,.bool false),(12,.int .i64 g),(13,.int .i64 i)] j)
theorem aZ.b1:(bg none [] prog 178 aZ.k (lB (bB (sL (aS (sR (body f134)))))) aZ.u1 Q [(0,.slice a b c),(1,.int .i64 d),(4,CL bD e),(10,.int .i64 f),(11,.bool false),(12,.int .i64 g),(13,.int .i64 i)] w)=aZ.B1 bD a b c d e f g i Q w:=by cases bD<;>kernel_rfl
variable{bD a b c d e f i}
theorem aZ.cJ(I:Int->World->Prop)(μ:Int->World->Nat)(s:Int){Q:aT}{w:World}(h0:I s w)
 (round:∀s w,I s w->aZ.B1 bD a b c d e f s i (bW (aZ.e1 bD a b c d e f i) I μ s w Q) w):Holds none [] prog 178 (.loop (lB (bB (sL (aS (sR (body f134))))))) Q (aZ.e1 bD a b c d e f i s) w:=
 bC ng mix (aZ.e1 bD a b c d e f i) I μ aZ.k aZ.u1 s (fun s Q w=>aZ.B1 bD a b c d e f s i Q w) (fun s Q w=>aZ.b1 bD a b c d e f s i Q w) h0 round
end
section
variable(bD:Bool)(a:OA)(b c:Nat)(d:Int)(e:OA)(f g i:Int)(K:KT)(w:World)
def aZ.df:Prop:=
 Holds none [] prog 178 (.loop (lB (bB (sL (cH (body f134)))))) (aZ.q2 K) [(0,.slice a b c),(1,.int .i64 d),(4,CL bD e),(10,.int .i64 f),(11,.bool false),(12,.int .i64 g),(13,.int .i64 i)] w
theorem aZ.dz:(aZ.q1 K (.exit 0) [(0,.slice a b c),(1,.int .i64 d),(4,CL bD e),(10,.int .i64 f),(11,.bool false),(12,.int .i64 g),(13,.int .i64 i)] w)=aZ.df bD a b c d e f g i K w:=by cases bD<;>kernel_rfl
end
section
variable(bD:Bool)(a:OA)(b c:Nat)(d:Int)(e:OA)(f g i:Int)(Q:aT)(w:World)
def aZ.B2:Prop:=
 let j:=w.drew;Split (decide (g<=i)) ((0<=i/\i<(b:Int))/\Is a fun k:Addr=>∃m:AV,(m.size=32/\Cells j (k.add (i.toNat*32)) m)/\(0<=d/\d<(b:Int))/\Is a fun n:Addr=>∃o:AV,(o.size=32/\Cells j (n.add (d.toNat*32)) o)/\bG prog (CF bD) (CA bD e m o) j fun p q=>∃r:Int,p=.int .i64 r/\Split (!(decide (r<(0:Int)))) (Q .normal [(0,.slice a b c),(1,.int .i64 d),(4,CL bD e),(10,.int .i64 f),(11,.bool false),(12,.int .i64 g),(13,.int .i64 (i64.wrap (i-(1:Int))))] q) (Q (.exit 2) [(0,.slice a b c),(1,.int .i64 d),(4,CL bD e),(10,.int .i64 f),(11,.bool false),(12,.int .i64 g),(13,.int .i64 i)] q)) (Q (.exit 2) [(0,.slice a b c),(1,.int .i64 d),(4,CL bD e),(10,.int .i64 f),(11,.bool false),(12,.int .i64 g),(13,.int .i64 i)] j)
theorem aZ.b2:(bg none [] prog 178 aZ.k (lB (bB (sL (cH (body f134))))) aZ.u2 Q [(0,.slice a b c),(1,.int .i64 d),(4,CL bD e),(10,.int .i64 f),(11,.bool false),(12,.int .i64 g),(13,.int .i64 i)] w)=aZ.B2 bD a b c d e f g i Q w:=by cases bD<;>kernel_rfl
variable{bD a b c d e f g}
theorem aZ.iB(I:Int->World->Prop)(μ:Int->World->Nat)(s:Int){Q:aT}{w:World}(h0:I s w)
 (round:∀s w,I s w->aZ.B2 bD a b c d e f g s (bW (aZ.e2 bD a b c d e f g) I μ s w Q) w):Holds none [] prog 178 (.loop (lB (bB (sL (cH (body f134)))))) Q (aZ.e2 bD a b c d e f g s) w:=
 bC ng mix (aZ.e2 bD a b c d e f g) I μ aZ.k aZ.u2 s (fun s Q w=>aZ.B2 bD a b c d e f g s Q w) (fun s Q w=>aZ.b2 bD a b c d e f g s Q w) h0 round
end
section
variable(bD:Bool)(a:OA)(b c:Nat)(d:Int)(e:OA)(f g i:Int)(K:KT)(w:World)
def aZ.jh:Prop:=
 Split (decide (g>i)) (let j:=w.drew;(0<=d/\d<(b:Int))/\Is a fun k:Addr=>∃m:AV,(m.size=32/\Cells j (k.add (d.toNat*32)) m)/\(0<=i/\i<(b:Int))/\Is a fun n:Addr=>∃o:AV,(o.size=32/\Cells j (n.add (i.toNat*32)) o)/\(0<=i/\i<(b:Int))/\Is a fun p:Addr=>(m.size=32/\(∀q∈m.toList,q.oneCell'=true)/\∀r,r<32->Wr j ((p.add (i.toNat*32)).add r))/\let t:=setCells j (p.add (i.toNat*32)) m.toList 0;(0<=d/\d<(b:Int))/\Is a fun u:Addr=>(o.size=32/\(∀v∈o.toList,v.oneCell'=true)/\∀x,x<32->Wr t ((u.add (d.toNat*32)).add x))/\let y:=setCells t (u.add (d.toNat*32)) o.toList 0;K (.tuple #[.int .i64 i,.bool true]) y) (let z:=w.drew;(0<=i/\i<(b:Int))/\Is a fun a1:Addr=>∃b1:AV,(b1.size=32/\Cells z (a1.add (i.toNat*32)) b1)/\(0<=g/\g<(b:Int))/\Is a fun c1:Addr=>∃d1:AV,(d1.size=32/\Cells z (c1.add (g.toNat*32)) d1)/\(0<=g/\g<(b:Int))/\Is a fun e1:Addr=>(b1.size=32/\(∀f1∈b1.toList,f1.oneCell'=true)/\∀g1,g1<32->Wr z ((e1.add (g.toNat*32)).add g1))/\let i1:=setCells z (e1.add (g.toNat*32)) b1.toList 0;(0<=i/\i<(b:Int))/\Is a fun j1:Addr=>(d1.size=32/\(∀k1∈d1.toList,k1.oneCell'=true)/\∀m1,m1<32->Wr i1 ((j1.add (i.toNat*32)).add m1))/\let n1:=setCells i1 (j1.add (i.toNat*32)) d1.toList 0;Holds none [] prog 178 (.loop (lB (bB (sL (fU (sR (body f134))))))) (aZ.q3 K) [(0,.slice a b c),(1,.int .i64 d),(4,CL bD e),(10,.int .i64 f),(11,.bool false),(12,.int .i64 (i64.wrap (g+(1:Int)))),(13,.int .i64 (i64.wrap (i-(1:Int))))] n1)
theorem aZ.ki:(aZ.q2 K (.exit 2) [(0,.slice a b c),(1,.int .i64 d),(4,CL bD e),(10,.int .i64 f),(11,.bool false),(12,.int .i64 g),(13,.int .i64 i)] w)=aZ.jh bD a b c d e f g i K w:=by cases bD<;>kernel_rfl
end
section
variable(bD:Bool)(a:OA)(b c:Nat)(d:Int)(e:OA)(f g i:Int)(Q:aT)(w:World)
def aZ.B3:Prop:=
 Holds none [] prog 178 (.loop (lB (bB (sL (bB (lB (bB (sL (fU (sR (body f134))))))))))) (aZ.q4 Q) [(0,.slice a b c),(1,.int .i64 d),(4,CL bD e),(10,.int .i64 f),(11,.bool false),(12,.int .i64 g),(13,.int .i64 i)] w
theorem aZ.b3:(bg none [] prog 178 aZ.k (lB (bB (sL (fU (sR (body f134)))))) aZ.u3 Q [(0,.slice a b c),(1,.int .i64 d),(4,CL bD e),(10,.int .i64 f),(11,.bool false),(12,.int .i64 g),(13,.int .i64 i)] w)=aZ.B3 bD a b c d e f g i Q w:=by cases bD<;>kernel_rfl
variable{bD a b c d e f}
theorem aZ.sn(I:Int×Int->World->Prop)(μ:Int×Int->World->Nat)(s:Int×Int){Q:aT}{w:World}(h0:I s w)
 (round:∀s w,I s w->aZ.B3 bD a b c d e f (s.1) (s.2) (bW (aZ.e3 bD a b c d e f) I μ s w Q) w):Holds none [] prog 178 (.loop (lB (bB (sL (fU (sR (body f134))))))) Q (aZ.e3 bD a b c d e f s) w:=
 bC ng mix (aZ.e3 bD a b c d e f) I μ aZ.k aZ.u3 s (fun s Q w=>aZ.B3 bD a b c d e f (s.1) (s.2) Q w) (fun s Q w=>aZ.b3 bD a b c d e f (s.1) (s.2) Q w) h0 round
end
section
variable(bD:Bool)(a:OA)(b c:Nat)(d:Int)(e:OA)(f g i:Int)(Q:aT)(w:World)
def aZ.B4:Prop:=
 let j:=w.drew;Split (decide (g<=i)) ((0<=g/\g<(b:Int))/\Is a fun k:Addr=>∃m:AV,(m.size=32/\Cells j (k.add (g.toNat*32)) m)/\(0<=d/\d<(b:Int))/\Is a fun n:Addr=>∃o:AV,(o.size=32/\Cells j (n.add (d.toNat*32)) o)/\bG prog (CF bD) (CA bD e m o) j fun p q=>∃r:Int,p=.int .i64 r/\Split (decide (r<(0:Int))) (Q .normal [(0,.slice a b c),(1,.int .i64 d),(4,CL bD e),(10,.int .i64 f),(11,.bool false),(12,.int .i64 (i64.wrap (g+(1:Int)))),(13,.int .i64 i)] q) (Q (.exit 6) [(0,.slice a b c),(1,.int .i64 d),(4,CL bD e),(10,.int .i64 f),(11,.bool false),(12,.int .i64 g),(13,.int .i64 i)] q)) (Q (.exit 6) [(0,.slice a b c),(1,.int .i64 d),(4,CL bD e),(10,.int .i64 f),(11,.bool false),(12,.int .i64 g),(13,.int .i64 i)] j)
theorem aZ.b4:(bg none [] prog 178 aZ.k (lB (bB (sL (bB (lB (bB (sL (fU (sR (body f134)))))))))) aZ.u4 Q [(0,.slice a b c),(1,.int .i64 d),(4,CL bD e),(10,.int .i64 f),(11,.bool false),(12,.int .i64 g),(13,.int .i64 i)] w)=aZ.B4 bD a b c d e f g i Q w:=by cases bD<;>kernel_rfl
variable{bD a b c d e f i}
theorem aZ.H4(I:Int->World->Prop)(μ:Int->World->Nat)(s:Int){Q:aT}{w:World}(h0:I s w)
 (round:∀s w,I s w->aZ.B4 bD a b c d e f s i (bW (aZ.e4 bD a b c d e f i) I μ s w Q) w):Holds none [] prog 178 (.loop (lB (bB (sL (bB (lB (bB (sL (fU (sR (body f134))))))))))) Q (aZ.e4 bD a b c d e f i s) w:=
 bC ng mix (aZ.e4 bD a b c d e f i) I μ aZ.k aZ.u4 s (fun s Q w=>aZ.B4 bD a b c d e f s i Q w) (fun s Q w=>aZ.b4 bD a b c d e f s i Q w) h0 round
end
section
variable(bD:Bool)(a:OA)(b c:Nat)(d:Int)(e:OA)(f g i:Int)(Q:aT)(w:World)
def aZ.DM:Prop:=
 Holds none [] prog 178 (.loop (lB (bB (sL (sR (bB (lB (bB (sL (fU (sR (body f134)))))))))))) (aZ.q5 Q) [(0,.slice a b c),(1,.int .i64 d),(4,CL bD e),(10,.int .i64 f),(11,.bool false),(12,.int .i64 g),(13,.int .i64 i)] w
theorem aZ.Hl:(aZ.q4 Q (.exit 6) [(0,.slice a b c),(1,.int .i64 d),(4,CL bD e),(10,.int .i64 f),(11,.bool false),(12,.int .i64 g),(13,.int .i64 i)] w)=aZ.DM bD a b c d e f g i Q w:=by cases bD<;>kernel_rfl
end
section
variable(bD:Bool)(a:OA)(b c:Nat)(d:Int)(e:OA)(f g i:Int)(Q:aT)(w:World)
def aZ.B5:Prop:=
 let j:=w.drew;Split (decide (g<=i)) ((0<=i/\i<(b:Int))/\Is a fun k:Addr=>∃m:AV,(m.size=32/\Cells j (k.add (i.toNat*32)) m)/\(0<=d/\d<(b:Int))/\Is a fun n:Addr=>∃o:AV,(o.size=32/\Cells j (n.add (d.toNat*32)) o)/\bG prog (CF bD) (CA bD e m o) j fun p q=>∃r:Int,p=.int .i64 r/\Split (!(decide (r<(0:Int)))) (Q .normal [(0,.slice a b c),(1,.int .i64 d),(4,CL bD e),(10,.int .i64 f),(11,.bool false),(12,.int .i64 g),(13,.int .i64 (i64.wrap (i-(1:Int))))] q) (Q (.exit 8) [(0,.slice a b c),(1,.int .i64 d),(4,CL bD e),(10,.int .i64 f),(11,.bool false),(12,.int .i64 g),(13,.int .i64 i)] q)) (Q (.exit 8) [(0,.slice a b c),(1,.int .i64 d),(4,CL bD e),(10,.int .i64 f),(11,.bool false),(12,.int .i64 g),(13,.int .i64 i)] j)
theorem aZ.b5:(bg none [] prog 178 aZ.k (lB (bB (sL (sR (bB (lB (bB (sL (fU (sR (body f134))))))))))) aZ.u5 Q [(0,.slice a b c),(1,.int .i64 d),(4,CL bD e),(10,.int .i64 f),(11,.bool false),(12,.int .i64 g),(13,.int .i64 i)] w)=aZ.B5 bD a b c d e f g i Q w:=by cases bD<;>kernel_rfl
variable{bD a b c d e f g}
theorem aZ.Td(I:Int->World->Prop)(μ:Int->World->Nat)(s:Int){Q:aT}{w:World}(h0:I s w)
 (round:∀s w,I s w->aZ.B5 bD a b c d e f g s (bW (aZ.e5 bD a b c d e f g) I μ s w Q) w):Holds none [] prog 178 (.loop (lB (bB (sL (sR (bB (lB (bB (sL (fU (sR (body f134)))))))))))) Q (aZ.e5 bD a b c d e f g s) w:=
 bC ng mix (aZ.e5 bD a b c d e f g) I μ aZ.k aZ.u5 s (fun s Q w=>aZ.B5 bD a b c d e f g s Q w) (fun s Q w=>aZ.b5 bD a b c d e f g s Q w) h0 round
end
section
variable(bD:Bool)(a:OA)(b c:Nat)(d:Int)(e:OA)(f g i:Int)(Q:aT)(w:World)
def aZ.Ri:Prop:=
 Split (decide (g>i)) (Q (.exit 4) [(0,.slice a b c),(1,.int .i64 d),(4,CL bD e),(10,.int .i64 f),(11,.bool false),(12,.int .i64 g),(13,.int .i64 i)] w) (let j:=w.drew;(0<=i/\i<(b:Int))/\Is a fun k:Addr=>∃m:AV,(m.size=32/\Cells j (k.add (i.toNat*32)) m)/\(0<=g/\g<(b:Int))/\Is a fun n:Addr=>∃o:AV,(o.size=32/\Cells j (n.add (g.toNat*32)) o)/\(0<=g/\g<(b:Int))/\Is a fun p:Addr=>(m.size=32/\(∀q∈m.toList,q.oneCell'=true)/\∀r,r<32->Wr j ((p.add (g.toNat*32)).add r))/\let t:=setCells j (p.add (g.toNat*32)) m.toList 0;(0<=i/\i<(b:Int))/\Is a fun u:Addr=>(o.size=32/\(∀v∈o.toList,v.oneCell'=true)/\∀x,x<32->Wr t ((u.add (i.toNat*32)).add x))/\let y:=setCells t (u.add (i.toNat*32)) o.toList 0;Q .normal [(0,.slice a b c),(1,.int .i64 d),(4,CL bD e),(10,.int .i64 f),(11,.bool false),(12,.int .i64 (i64.wrap (g+(1:Int)))),(13,.int .i64 (i64.wrap (i-(1:Int))))] y)
theorem aZ.Sp:(aZ.q5 Q (.exit 8) [(0,.slice a b c),(1,.int .i64 d),(4,CL bD e),(10,.int .i64 f),(11,.bool false),(12,.int .i64 g),(13,.int .i64 i)] w)=aZ.Ri bD a b c d e f g i Q w:=by cases bD<;>kernel_rfl
end
section
def aZ.tM(a:OA)(b c:Nat)(d:Int)(e:OA)(f g i:Int)(K:KT)(w:World):Prop:=
 let j:=w.drew;(0<=d/\d<(b:Int))/\Is a fun k:Addr=>∃m:AV,(m.size=32/\Cells j (k.add (d.toNat*32)) m)/\(0<=i/\i<(b:Int))/\Is a fun n:Addr=>∃o:AV,(o.size=32/\Cells j (n.add (i.toNat*32)) o)/\(0<=i/\i<(b:Int))/\Is a fun p:Addr=>(m.size=32/\(∀q∈m.toList,q.oneCell'=true)/\∀r,r<32->Wr j ((p.add (i.toNat*32)).add r))/\let t:=setCells j (p.add (i.toNat*32)) m.toList 0;(0<=d/\d<(b:Int))/\Is a fun u:Addr=>(o.size=32/\(∀v∈o.toList,v.oneCell'=true)/\∀x,x<32->Wr t ((u.add (d.toNat*32)).add x))/\let y:=setCells t (u.add (d.toNat*32)) o.toList 0;K (.tuple #[.int .i64 i,.bool false]) y
variable(bD:Bool)(a:OA)(b c:Nat)(d:Int)(e:OA)(f g i:Int)(K:KT)(w:World)
theorem aZ.yz:(aZ.q3 K (.exit 4) [(0,.slice a b c),(1,.int .i64 d),(4,CL bD e),(10,.int .i64 f),(11,.bool false),(12,.int .i64 g),(13,.int .i64 i)] w)=aZ.tM a b c d e f g i K w:=by cases bD<;>kernel_rfl
end
def b7.k:List Nat:= [5,6]
def b7.q1(K:KT):aT:=(aR 0 (aX f152) (bY prog f152 K))
def b7.e1(bD:Bool)(a:OA)(b c:Nat)(d e:Int)(f:OA)(s:Int):Env:= [(0,.slice a b c),(2,.int .i64 d),(3,.int .i64 e),(4,CL bD f),(10,.int .i64 s)]
def b7.u1:List Nat:= [0,2,3,4,10]
section
variable(bD:Bool)(a:OA)(b d:Nat)(e f g:Int)(i:OA)(K:KT)(w:World)
def b7.W:Prop:=
 Holds none [] prog 82 (.loop (lB (bB (sR (body f152))))) (b7.q1 K) [(0,.slice a b d),(2,.int .i64 f),(3,.int .i64 g),(4,CL bD i),(10,.int .i64 e)] w
variable{bD a b d e f g i K w}
theorem b7.of(h:b7.W bD a b d e f g i K w):bG prog 152 #[.slice a b d,.int .i64 e,.int .i64 f,.int .i64 g,CL bD i] w K:=
 by cases bD<;>exact rqq func152 (C:=b7.k) h
end
section
variable(bD:Bool)(a:OA)(b c:Nat)(d e:Int)(f:OA)(g:Int)(Q:aT)(w:World)
def b7.B1:Prop:=
 Split (decide ((i64.wrap ((i64.wrap ((2:Int)*g))+(1:Int)))>=d)) (Q (.exit 0) [(0,.slice a b c),(2,.int .i64 d),(3,.int .i64 e),(4,CL bD f),(10,.int .i64 g),(11,.int .i64 (i64.wrap ((i64.wrap ((2:Int)*g))+(1:Int))))] w) (let i:=w.drew;Split (decide ((i64.wrap ((i64.wrap ((i64.wrap ((2:Int)*g))+(1:Int)))+(1:Int)))<d)) ((0<=(i64.wrap (e+(i64.wrap ((i64.wrap ((2:Int)*g))+(1:Int)))))/\(i64.wrap (e+(i64.wrap ((i64.wrap ((2:Int)*g))+(1:Int)))))<(b:Int))/\Is a fun j:Addr=>∃k:AV,(k.size=32/\Cells i (j.add ((i64.wrap (e+(i64.wrap ((i64.wrap ((2:Int)*g))+(1:Int))))).toNat*32)) k)/\(0<=(i64.wrap ((i64.wrap (e+(i64.wrap ((i64.wrap ((2:Int)*g))+(1:Int)))))+(1:Int)))/\(i64.wrap ((i64.wrap (e+(i64.wrap ((i64.wrap ((2:Int)*g))+(1:Int)))))+(1:Int)))<(b:Int))/\Is a fun m:Addr=>∃n:AV,(n.size=32/\Cells i (m.add ((i64.wrap ((i64.wrap (e+(i64.wrap ((i64.wrap ((2:Int)*g))+(1:Int)))))+(1:Int))).toNat*32)) n)/\bG prog (CF bD) (CA bD f k n) i fun o p=>∃q:Int,o=.int .i64 q/\Split (decide (q<(0:Int))) (Holds none [] prog 82 (aS (sR (bB (lB (bB (sR (body f152))))))) (aR 1 b7.u1 Q) [(0,.slice a b c),(2,.int .i64 d),(3,.int .i64 e),(4,CL bD f),(10,.int .i64 g),(11,.int .i64 (i64.wrap ((i64.wrap ((i64.wrap ((2:Int)*g))+(1:Int)))+(1:Int))))] p) (Holds none [] prog 82 (aS (sR (bB (lB (bB (sR (body f152))))))) (aR 1 b7.u1 Q) [(0,.slice a b c),(2,.int .i64 d),(3,.int .i64 e),(4,CL bD f),(10,.int .i64 g),(11,.int .i64 (i64.wrap ((i64.wrap ((2:Int)*g))+(1:Int))))] p)) (Holds none [] prog 82 (aS (sR (bB (lB (bB (sR (body f152))))))) (aR 1 b7.u1 Q) [(0,.slice a b c),(2,.int .i64 d),(3,.int .i64 e),(4,CL bD f),(10,.int .i64 g),(11,.int .i64 (i64.wrap ((i64.wrap ((2:Int)*g))+(1:Int))))] i))
theorem b7.b1:(bg none [] prog 82 b7.k (lB (bB (sR (body f152)))) b7.u1 Q [(0,.slice a b c),(2,.int .i64 d),(3,.int .i64 e),(4,CL bD f),(10,.int .i64 g)] w)=b7.B1 bD a b c d e f g Q w:=by cases bD<;>kernel_rfl
variable{bD a b c d e f}
theorem b7.cJ(I:Int->World->Prop)(μ:Int->World->Nat)(s:Int){Q:aT}{w:World}(h0:I s w)
 (round:∀s w,I s w->b7.B1 bD a b c d e f s (bW (b7.e1 bD a b c d e f) I μ s w Q) w):Holds none [] prog 82 (.loop (lB (bB (sR (body f152))))) Q (b7.e1 bD a b c d e f s) w:=
 bC ng mix (b7.e1 bD a b c d e f) I μ b7.k b7.u1 s (fun s Q w=>b7.B1 bD a b c d e f s Q w) (fun s Q w=>b7.b1 bD a b c d e f s Q w) h0 round
end
section
def b7.df(a:OA)(b c:Nat)(d e:Int)(f:OA)(g i:Int)(K:KT)(w:World):Prop:=
 K (.tuple #[]) w
variable(bD:Bool)(a:OA)(b c:Nat)(d e:Int)(f:OA)(g i:Int)(K:KT)(w:World)
theorem b7.dz:(b7.q1 K (.exit 0) [(0,.slice a b c),(2,.int .i64 d),(3,.int .i64 e),(4,CL bD f),(10,.int .i64 g),(11,.int .i64 i)] w)=b7.df a b c d e f g i K w:=by cases bD<;>kernel_rfl
end
section
variable(bD:Bool)(a:OA)(b c:Nat)(d e:Int)(f:OA)(g i:Int)(Q:aT)(w:World)
def b7.J1:Prop:=
 let j:=w.drew;(0<=(i64.wrap (e+g))/\(i64.wrap (e+g))<(b:Int))/\Is a fun k:Addr=>∃m:AV,(m.size=32/\Cells j (k.add ((i64.wrap (e+g)).toNat*32)) m)/\(0<=(i64.wrap (e+i))/\(i64.wrap (e+i))<(b:Int))/\Is a fun n:Addr=>∃o:AV,(o.size=32/\Cells j (n.add ((i64.wrap (e+i)).toNat*32)) o)/\bG prog (CF bD) (CA bD f m o) j fun p q=>∃r:Int,p=.int .i64 r/\Split (!(decide (r<(0:Int)))) (Q .ret [(0,.slice a b c),(2,.int .i64 d),(3,.int .i64 e),(4,CL bD f),(10,.int .i64 g),(11,.int .i64 i)] q) (Holds none [] prog 82 (cH (bB (lB (bB (sR (body f152)))))) (aR 1 b7.u1 Q) [(0,.slice a b c),(2,.int .i64 d),(3,.int .i64 e),(4,CL bD f),(10,.int .i64 g),(11,.int .i64 i)] q)
theorem b7.j1:(bg none [] prog 82 b7.k (aS (sR (bB (lB (bB (sR (body f152))))))) b7.u1 (aR 1 b7.u1 Q) [(0,.slice a b c),(2,.int .i64 d),(3,.int .i64 e),(4,CL bD f),(10,.int .i64 g),(11,.int .i64 i)] w)=b7.J1 bD a b c d e f g i Q w:=by cases bD<;>kernel_rfl
variable{bD a b c d e f g i Q w}
theorem b7.kW(h:b7.J1 bD a b c d e f g i Q w):Holds none [] prog 82 (aS (sR (bB (lB (bB (sR (body f152))))))) (aR 1 b7.u1 Q) [(0,.slice a b c),(2,.int .i64 d),(3,.int .i64 e),(4,CL bD f),(10,.int .i64 g),(11,.int .i64 i)] w:=
 dh (C:=b7.k) ng mix (b7.j1 bD a b c d e f g i Q w) h
end
section
variable(bD:Bool)(a:OA)(b c:Nat)(d e:Int)(f:OA)(g i:Int)(Q:aT)(w:World)
def b7.J2:Prop:=
 let j:=w.drew;(0<=(i64.wrap (e+i))/\(i64.wrap (e+i))<(b:Int))/\Is a fun k:Addr=>∃m:AV,(m.size=32/\Cells j (k.add ((i64.wrap (e+i)).toNat*32)) m)/\(0<=(i64.wrap (e+g))/\(i64.wrap (e+g))<(b:Int))/\Is a fun n:Addr=>∃o:AV,(o.size=32/\Cells j (n.add ((i64.wrap (e+g)).toNat*32)) o)/\(0<=(i64.wrap (e+g))/\(i64.wrap (e+g))<(b:Int))/\Is a fun p:Addr=>(m.size=32/\(∀q∈m.toList,q.oneCell'=true)/\∀r,r<32->Wr j ((p.add ((i64.wrap (e+g)).toNat*32)).add r))/\let t:=setCells j (p.add ((i64.wrap (e+g)).toNat*32)) m.toList 0;(0<=(i64.wrap (e+i))/\(i64.wrap (e+i))<(b:Int))/\Is a fun u:Addr=>(o.size=32/\(∀v∈o.toList,v.oneCell'=true)/\∀x,x<32->Wr t ((u.add ((i64.wrap (e+i)).toNat*32)).add x))/\let y:=setCells t (u.add ((i64.wrap (e+i)).toNat*32)) o.toList 0;Q .normal [(0,.slice a b c),(2,.int .i64 d),(3,.int .i64 e),(4,CL bD f),(10,.int .i64 i)] y
theorem b7.j2:(bg none [] prog 82 b7.k (cH (bB (lB (bB (sR (body f152)))))) b7.u1 (aR 1 b7.u1 Q) [(0,.slice a b c),(2,.int .i64 d),(3,.int .i64 e),(4,CL bD f),(10,.int .i64 g),(11,.int .i64 i)] w)=b7.J2 bD a b c d e f g i Q w:=by cases bD<;>kernel_rfl
variable{bD a b c d e f g i Q w}
theorem b7.qV(h:b7.J2 bD a b c d e f g i Q w):Holds none [] prog 82 (cH (bB (lB (bB (sR (body f152)))))) (aR 1 b7.u1 Q) [(0,.slice a b c),(2,.int .i64 d),(3,.int .i64 e),(4,CL bD f),(10,.int .i64 g),(11,.int .i64 i)] w:=
 dh (C:=b7.k) ng mix (b7.j2 bD a b c d e f g i Q w) h
end
section
variable(bD:Bool)(a:OA)(b d:Nat)(e:Int)(f g:OA)(K:KT)(w:World)
variable{bD a b d e f g K w}
end
def tf.k:List Nat:= []
section
variable(bD:Bool)(a:OA)(b d:Nat)(e f g:Int)(i j:OA)(K:KT)(w:World)
def tf.W:Prop:=
 bG prog 163 #[.slice a b d,.int .i64 e,.int .i64 f,.pointer i,CL bD j] w fun k m=>∃n o:Int,k=.tuple #[.int .i64 n,.int .i64 o]/\bG prog 163 #[.slice a b d,.int .i64 o,.int .i64 g,.pointer i,CL bD j] m fun p q=>∃r t:Int,p=.tuple #[.int .i64 r,.int .i64 t]/\bG prog 163 #[.slice a b d,.int .i64 n,.int .i64 r,.pointer i,CL bD j] q fun u v=>∃x y:Int,u=.tuple #[.int .i64 x,.int .i64 y]/\K (.int .i64 y) v
variable{bD a b d e f g i j K w}
theorem tf.of(h:tf.W bD a b d e f g i j K w):bG prog 156 #[.slice a b d,.int .i64 e,.int .i64 f,.int .i64 g,.pointer i,CL bD j] w K:=
 by cases bD<;>exact rqq func156 (C:=tf.k) h
end
def tc.k:List Nat:= []
section
def tc.W(bD:Bool)(a:OA)(b d:Nat)(e f:Int)(g i:OA)(K:KT)(w:World):Prop:=
 let j:=w.drew;(0<=f/\f<(b:Int))/\Is a fun k:Addr=>∃m:AV,(m.size=32/\Cells j (k.add (f.toNat*32)) m)/\(0<=e/\e<(b:Int))/\Is a fun n:Addr=>∃o:AV,(o.size=32/\Cells j (n.add (e.toNat*32)) o)/\bG prog (CF bD) (CA bD i m o) j fun p q=>∃r:Int,p=.int .i64 r/\Split (decide (r<(0:Int))) (Is g fun t:Addr=>∃u:Int,q.cell? t=some (.int .i64 u)/\Is g fun v:Addr=>Wr q v/\let x:=q.setCell v (.int .i64 (i64.wrap (u+(1:Int))));K (.tuple #[.int .i64 f,.int .i64 e]) x) (K (.tuple #[.int .i64 e,.int .i64 f]) q)
variable(bD:Bool)(a:OA)(b d:Nat)(e f:Int)(g i:OA)(K:KT)(w:World)
variable{bD a b d e f g i K w}
theorem tc.of(h:tc.W bD a b d e f g i K w):bG prog 163 #[.slice a b d,.int .i64 e,.int .i64 f,.pointer g,CL bD i] w K:=
 by cases bD<;>exact rqq func163 (C:=tc.k) h
end
end Go.Proofs.YtfleamccglihoaaGreatDoor
