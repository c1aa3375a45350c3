import Derived.Test.YtfleamccglihoaaGreatDoorProg
import Derived.Test.YtfleamccglihoaaGreatDoorMA
import Derived.Test.YtfleamccglihoaaGreatDoorMB
open Go.IntKind (i64 u64)
set_option linter.unusedVariables false
namespace Go.Proofs.YtfleamccglihoaaGreatDoor
open Go.Proofs.Tryz
open Go Go.bV
def qw.k:List Nat:= []
section
variable(a:OA)(b d:Nat)(e:OA)(K:KT)(w:World)
def qw.W:Prop:=
 bz prog 98 #[.int .u64 (u64.wrap (b:Int))] w fun f g=>∃i:Int,f=.int .i64 i/\bz prog 97 #[.slice a b d,.int .i64 0,.int .i64 (b:Int),.int .i64 i,.func (.func 73) #[.pointer e] #[]] g fun j k=>j=.tuple #[]/\K (.tuple #[]) k
variable{a b d e K w}
theorem qw.of(h:qw.W a b d e K w):bz prog 53 #[.slice a b d,.func (.func 73) #[.pointer e] #[]] w K:=
 rqq func53 (C:=qw.k) h
end
def aC.k:List Nat:= [10,11,13,14,15,17,20,21,22,23,24,26,27,29,30]
def aC.q1(K:KT):aP:=(aO 0 (aT f97) (bT prog f97 K))
def aC.e1(a:OA)(b c:Nat)(d:OA)(s:Int×Int×Int×Bool×Bool):Env:= [(0,.slice a b c),(1,.int .i64 s.1),(2,.int .i64 s.2.1),(3,.int .i64 s.2.2.1),(4,.func (.func 73) #[.pointer d] #[]),(10,.bool s.2.2.2.1),(11,.bool s.2.2.2.2)]
def aC.u1:List Nat:= [0,1,2,3,4,10,11]
section
variable(a:OA)(b d:Nat)(e f g:Int)(i:OA)(K:KT)(w:World)
def aC.W:Prop:=
 Holds none [] prog 148 (.loop (lB (bB (aQ (body f97))))) (aC.q1 K) [(0,.slice a b d),(1,.int .i64 e),(2,.int .i64 f),(3,.int .i64 g),(4,.func (.func 73) #[.pointer i] #[]),(10,.bool true),(11,.bool true)] w
variable{a b d e f g i K w}
theorem aC.of(h:aC.W a b d e f g i K w):bz prog 97 #[.slice a b d,.int .i64 e,.int .i64 f,.int .i64 g,.func (.func 73) #[.pointer i] #[]] w K:=
 rqq func97 (C:=aC.k) h
end
section
variable(a:OA)(b c:Nat)(d e f:Int)(g:OA)(i j:Bool)(Q:aP)(w:World)
def aC.B1:Prop:=
 Split (decide ((i64.wrap (e-d))<=(12:Int))) (bz prog 127 #[.slice a b c,.int .i64 d,.int .i64 e,.func (.func 73) #[.pointer g] #[]] w fun k m=>k=.tuple #[]/\Q .ret [(0,.slice a b c),(1,.int .i64 d),(2,.int .i64 e),(3,.int .i64 f),(4,.func (.func 73) #[.pointer g] #[]),(10,.bool i),(11,.bool j),(12,.int .i64 (i64.wrap (e-d)))] m) (Split (f==(0:Int)) (bz prog 128 #[.slice a b c,.int .i64 d,.int .i64 e,.func (.func 73) #[.pointer g] #[]] w fun n o=>n=.tuple #[]/\Q .ret [(0,.slice a b c),(1,.int .i64 d),(2,.int .i64 e),(3,.int .i64 f),(4,.func (.func 73) #[.pointer g] #[]),(10,.bool i),(11,.bool j),(12,.int .i64 (i64.wrap (e-d)))] o) (Split (!i) (bz prog 129 #[.slice a b c,.int .i64 d,.int .i64 e,.func (.func 73) #[.pointer g] #[]] w fun p q=>p=.tuple #[]/\Holds none [] prog 148 (b9 (bB (lB (bB (aQ (body f97)))))) (aO 1 aC.u1 Q) [(0,.slice a b c),(1,.int .i64 d),(2,.int .i64 e),(3,.int .i64 (i64.wrap (f-(1:Int)))),(4,.func (.func 73) #[.pointer g] #[]),(10,.bool i),(11,.bool j),(12,.int .i64 (i64.wrap (e-d)))] q) (Holds none [] prog 148 (b9 (bB (lB (bB (aQ (body f97)))))) (aO 1 aC.u1 Q) [(0,.slice a b c),(1,.int .i64 d),(2,.int .i64 e),(3,.int .i64 f),(4,.func (.func 73) #[.pointer g] #[]),(10,.bool i),(11,.bool j),(12,.int .i64 (i64.wrap (e-d)))] w)))
theorem aC.b1:(aX none [] prog 148 aC.k (lB (bB (aQ (body f97)))) aC.u1 Q [(0,.slice a b c),(1,.int .i64 d),(2,.int .i64 e),(3,.int .i64 f),(4,.func (.func 73) #[.pointer g] #[]),(10,.bool i),(11,.bool j)] w)=aC.B1 a b c d e f g i j Q w:=by kernel_rfl
variable{a b c g}
theorem aC.cy(I:Int×Int×Int×Bool×Bool->World->Prop)(μ:Int×Int×Int×Bool×Bool->World->Nat)(s:Int×Int×Int×Bool×Bool){Q:aP}{w:World}(h0:I s w)
 (round:∀s w,I s w->aC.B1 a b c (s.1) (s.2.1) (s.2.2.1) g (s.2.2.2.1) (s.2.2.2.2) (bR (aC.e1 a b c g) I μ s w Q) w):Holds none [] prog 148 (.loop (lB (bB (aQ (body f97))))) Q (aC.e1 a b c g s) w:=
 bp ng mix (aC.e1 a b c g) I μ aC.k aC.u1 s (fun s Q w=>aC.B1 a b c (s.1) (s.2.1) (s.2.2.1) g (s.2.2.2.1) (s.2.2.2.2) Q w) (fun s Q w=>aC.b1 a b c (s.1) (s.2.1) (s.2.2.1) g (s.2.2.2.1) (s.2.2.2.2) Q w) h0 round
end
section
variable(a:OA)(b c:Nat)(d e f:Int)(g:OA)(i j:Bool)(k:Int)(Q:aP)(w:World)
def aC.J1:Prop:=
 bz prog 130 #[.slice a b c,.int .i64 d,.int .i64 e,.func (.func 73) #[.pointer g] #[]] w fun m n=>∃o p:Int,m=.tuple #[.int .i64 o,.int .i64 p]/\Holds none [] prog 148 (b9 (sR (bB (lB (bB (aQ (body f97))))))) (aO 1 aC.u1 Q) [(0,.slice a b c),(1,.int .i64 d),(2,.int .i64 e),(3,.int .i64 f),(4,.func (.func 73) #[.pointer g] #[]),(10,.bool i),(11,.bool j),(12,.int .i64 k),(13,.int .i64 o),(14,.int .i64 p)] n
theorem aC.j1:(aX none [] prog 148 aC.k (b9 (bB (lB (bB (aQ (body f97)))))) aC.u1 (aO 1 aC.u1 Q) [(0,.slice a b c),(1,.int .i64 d),(2,.int .i64 e),(3,.int .i64 f),(4,.func (.func 73) #[.pointer g] #[]),(10,.bool i),(11,.bool j),(12,.int .i64 k)] w)=aC.J1 a b c d e f g i j k Q w:=by kernel_rfl
variable{a b c d e f g i j k Q w}
theorem aC.oX(h:aC.J1 a b c d e f g i j k Q w):Holds none [] prog 148 (b9 (bB (lB (bB (aQ (body f97)))))) (aO 1 aC.u1 Q) [(0,.slice a b c),(1,.int .i64 d),(2,.int .i64 e),(3,.int .i64 f),(4,.func (.func 73) #[.pointer g] #[]),(10,.bool i),(11,.bool j),(12,.int .i64 k)] w:=
 c9 (C:=aC.k) ng mix (aC.j1 a b c d e f g i j k Q w) h
end
section
variable(a:OA)(b c:Nat)(d e f:Int)(g:OA)(i j:Bool)(k m n:Int)(Q:aP)(w:World)
def aC.J2:Prop:=
 Split (n==(2:Int)) (bz prog 131 #[.slice a b c,.int .i64 d,.int .i64 e,.func (.func 73) #[.pointer g] #[]] w fun o p=>o=.tuple #[]/\Holds none [] prog 148 (sR (cT (sR (sL (b9 (sR (bB (lB (bB (aQ (body f97))))))))))) (bZ (fun b7 w_=>match cutAt aC.k (b9 (aQ (bB (lB (bB (aQ (body f97)))))))with|true=>Holds none [] prog 148 (b9 (aQ (bB (lB (bB (aQ (body f97))))))) (aO 1 aC.u1 Q) b7 w_|false=>aX none [] prog 148 aC.k (b9 (aQ (bB (lB (bB (aQ (body f97))))))) aC.u1 (aO 1 aC.u1 Q) b7 w_) (aO 1 aC.u1 Q)) [(0,.slice a b c),(1,.int .i64 d),(2,.int .i64 e),(3,.int .i64 f),(4,.func (.func 73) #[.pointer g] #[]),(10,.bool i),(11,.bool j),(12,.int .i64 k),(13,.int .i64 m),(14,.int .i64 n)] p) (Holds none [] prog 148 (b9 (aQ (bB (lB (bB (aQ (body f97))))))) (aO 1 aC.u1 Q) [(0,.slice a b c),(1,.int .i64 d),(2,.int .i64 e),(3,.int .i64 f),(4,.func (.func 73) #[.pointer g] #[]),(10,.bool i),(11,.bool j),(12,.int .i64 k),(13,.int .i64 m),(14,.int .i64 n)] w)
theorem aC.j2:(aX none [] prog 148 aC.k (b9 (sR (bB (lB (bB (aQ (body f97))))))) aC.u1 (aO 1 aC.u1 Q) [(0,.slice a b c),(1,.int .i64 d),(2,.int .i64 e),(3,.int .i64 f),(4,.func (.func 73) #[.pointer g] #[]),(10,.bool i),(11,.bool j),(12,.int .i64 k),(13,.int .i64 m),(14,.int .i64 n)] w)=aC.J2 a b c d e f g i j k m n Q w:=by kernel_rfl
variable{a b c d e f g i j k m n Q w}
theorem aC.q9(h:aC.J2 a b c d e f g i j k m n Q w):Holds none [] prog 148 (b9 (sR (bB (lB (bB (aQ (body f97))))))) (aO 1 aC.u1 Q) [(0,.slice a b c),(1,.int .i64 d),(2,.int .i64 e),(3,.int .i64 f),(4,.func (.func 73) #[.pointer g] #[]),(10,.bool i),(11,.bool j),(12,.int .i64 k),(13,.int .i64 m),(14,.int .i64 n)] w:=
 c9 (C:=aC.k) ng mix (aC.j2 a b c d e f g i j k m n Q w) h
end
section
variable(a:OA)(b c:Nat)(d e f:Int)(g:OA)(i j:Bool)(k m n:Int)(Q:aP)(w:World)
def aC.J3:Prop:=
 Holds none [] prog 148 (aQ (cT (sR (sL (b9 (sR (bB (lB (bB (aQ (body f97))))))))))) (bZ (fun b7 w_=>match cutAt aC.k (b9 (aQ (bB (lB (bB (aQ (body f97)))))))with|true=>Holds none [] prog 148 (b9 (aQ (bB (lB (bB (aQ (body f97))))))) (aO 1 aC.u1 Q) b7 w_|false=>aX none [] prog 148 aC.k (b9 (aQ (bB (lB (bB (aQ (body f97))))))) aC.u1 (aO 1 aC.u1 Q) b7 w_) (aO 1 aC.u1 Q)) [(0,.slice a b c),(1,.int .i64 d),(2,.int .i64 e),(3,.int .i64 f),(4,.func (.func 73) #[.pointer g] #[]),(10,.bool i),(11,.bool j),(12,.int .i64 k),(13,.int .i64 (i64.wrap ((i64.wrap (e-(1:Int)))-(i64.wrap (m-d))))),(14,.int .i64 n)] w
theorem aC.j3:(aX none [] prog 148 aC.k (sR (cT (sR (sL (b9 (sR (bB (lB (bB (aQ (body f97))))))))))) (cr (b9 (aQ (bB (lB (bB (aQ (body f97)))))))++aC.u1) (bZ (fun b7 w_=>match cutAt aC.k (b9 (aQ (bB (lB (bB (aQ (body f97)))))))with|true=>Holds none [] prog 148 (b9 (aQ (bB (lB (bB (aQ (body f97))))))) (aO 1 aC.u1 Q) b7 w_|false=>aX none [] prog 148 aC.k (b9 (aQ (bB (lB (bB (aQ (body f97))))))) aC.u1 (aO 1 aC.u1 Q) b7 w_) (aO 1 aC.u1 Q)) [(0,.slice a b c),(1,.int .i64 d),(2,.int .i64 e),(3,.int .i64 f),(4,.func (.func 73) #[.pointer g] #[]),(10,.bool i),(11,.bool j),(12,.int .i64 k),(13,.int .i64 m),(14,.int .i64 n)] w)=aC.J3 a b c d e f g i j k m n Q w:=by kernel_rfl
variable{a b c d e f g i j k m n Q w}
theorem aC.Uj(h:aC.J3 a b c d e f g i j k m n Q w):Holds none [] prog 148 (sR (cT (sR (sL (b9 (sR (bB (lB (bB (aQ (body f97))))))))))) (bZ (fun b7 w_=>match cutAt aC.k (b9 (aQ (bB (lB (bB (aQ (body f97)))))))with|true=>Holds none [] prog 148 (b9 (aQ (bB (lB (bB (aQ (body f97))))))) (aO 1 aC.u1 Q) b7 w_|false=>aX none [] prog 148 aC.k (b9 (aQ (bB (lB (bB (aQ (body f97))))))) aC.u1 (aO 1 aC.u1 Q) b7 w_) (aO 1 aC.u1 Q)) [(0,.slice a b c),(1,.int .i64 d),(2,.int .i64 e),(3,.int .i64 f),(4,.func (.func 73) #[.pointer g] #[]),(10,.bool i),(11,.bool j),(12,.int .i64 k),(13,.int .i64 m),(14,.int .i64 n)] w:=
 c9 (C:=aC.k) ng mix (aC.j3 a b c d e f g i j k m n Q w) h
end
section
variable(a:OA)(b c:Nat)(d e f:Int)(g:OA)(i j:Bool)(k m n:Int)(Q:aP)(w:World)
def aC.J4:Prop:=
 Split i (Split j (Split (n==(1:Int)) (bz prog 132 #[.slice a b c,.int .i64 d,.int .i64 e,.func (.func 73) #[.pointer g] #[]] w fun o p=>∃q:Bool,o=.bool q/\Split q (Q .ret [(0,.slice a b c),(1,.int .i64 d),(2,.int .i64 e),(3,.int .i64 f),(4,.func (.func 73) #[.pointer g] #[]),(10,.bool i),(11,.bool j),(12,.int .i64 k),(13,.int .i64 m)] p) (Holds none [] prog 148 (b9 (aQ (sR (bB (lB (bB (aQ (body f97)))))))) (aO 1 aC.u1 Q) [(0,.slice a b c),(1,.int .i64 d),(2,.int .i64 e),(3,.int .i64 f),(4,.func (.func 73) #[.pointer g] #[]),(10,.bool i),(11,.bool j),(12,.int .i64 k),(13,.int .i64 m)] p)) (Holds none [] prog 148 (b9 (aQ (sR (bB (lB (bB (aQ (body f97)))))))) (aO 1 aC.u1 Q) [(0,.slice a b c),(1,.int .i64 d),(2,.int .i64 e),(3,.int .i64 f),(4,.func (.func 73) #[.pointer g] #[]),(10,.bool i),(11,.bool j),(12,.int .i64 k),(13,.int .i64 m)] w)) (Holds none [] prog 148 (b9 (aQ (sR (bB (lB (bB (aQ (body f97)))))))) (aO 1 aC.u1 Q) [(0,.slice a b c),(1,.int .i64 d),(2,.int .i64 e),(3,.int .i64 f),(4,.func (.func 73) #[.pointer g] #[]),(10,.bool i),(11,.bool j),(12,.int .i64 k),(13,.int .i64 m)] w)) (Holds none [] prog 148 (b9 (aQ (sR (bB (lB (bB (aQ (body f97)))))))) (aO 1 aC.u1 Q) [(0,.slice a b c),(1,.int .i64 d),(2,.int .i64 e),(3,.int .i64 f),(4,.func (.func 73) #[.pointer g] #[]),(10,.bool i),(11,.bool j),(12,.int .i64 k),(13,.int .i64 m)] w)
theorem aC.j4:(aX none [] prog 148 aC.k (b9 (aQ (bB (lB (bB (aQ (body f97))))))) aC.u1 (aO 1 aC.u1 Q) [(0,.slice a b c),(1,.int .i64 d),(2,.int .i64 e),(3,.int .i64 f),(4,.func (.func 73) #[.pointer g] #[]),(10,.bool i),(11,.bool j),(12,.int .i64 k),(13,.int .i64 m),(14,.int .i64 n)] w)=aC.J4 a b c d e f g i j k m n Q w:=by kernel_rfl
variable{a b c d e f g i j k m n Q w}
theorem aC.No(h:aC.J4 a b c d e f g i j k m n Q w):Holds none [] prog 148 (b9 (aQ (bB (lB (bB (aQ (body f97))))))) (aO 1 aC.u1 Q) [(0,.slice a b c),(1,.int .i64 d),(2,.int .i64 e),(3,.int .i64 f),(4,.func (.func 73) #[.pointer g] #[]),(10,.bool i),(11,.bool j),(12,.int .i64 k),(13,.int .i64 m),(14,.int .i64 n)] w:=
 c9 (C:=aC.k) ng mix (aC.j4 a b c d e f g i j k m n Q w) h
end
section
def aC.J5(a:OA)(b c:Nat)(d e f:Int)(g:OA)(i j:Bool)(k m n:Int)(Q:aP)(w:World):Prop:=
 Holds none [] prog 148 (b9 (aQ (bB (lB (bB (aQ (body f97))))))) (aO 1 aC.u1 Q) [(0,.slice a b c),(1,.int .i64 d),(2,.int .i64 e),(3,.int .i64 f),(4,.func (.func 73) #[.pointer g] #[]),(10,.bool i),(11,.bool j),(12,.int .i64 k),(13,.int .i64 m),(14,.int .i64 1)] w
variable(a:OA)(b c:Nat)(d e f:Int)(g:OA)(i j:Bool)(k m n:Int)(Q:aP)(w:World)
theorem aC.j5:(aX none [] prog 148 aC.k (aQ (cT (sR (sL (b9 (sR (bB (lB (bB (aQ (body f97))))))))))) (cr (b9 (aQ (bB (lB (bB (aQ (body f97)))))))++aC.u1) (bZ (fun b7 w_=>match cutAt aC.k (b9 (aQ (bB (lB (bB (aQ (body f97)))))))with|true=>Holds none [] prog 148 (b9 (aQ (bB (lB (bB (aQ (body f97))))))) (aO 1 aC.u1 Q) b7 w_|false=>aX none [] prog 148 aC.k (b9 (aQ (bB (lB (bB (aQ (body f97))))))) aC.u1 (aO 1 aC.u1 Q) b7 w_) (aO 1 aC.u1 Q)) [(0,.slice a b c),(1,.int .i64 d),(2,.int .i64 e),(3,.int .i64 f),(4,.func (.func 73) #[.pointer g] #[]),(10,.bool i),(11,.bool j),(12,.int .i64 k),(13,.int .i64 m),(14,.int .i64 n)] w)=aC.J5 a b c d e f g i j k m n Q w:=by kernel_rfl
variable{a b c d e f g i j k m n Q w}
theorem aC.Ui(h:aC.J5 a b c d e f g i j k m n Q w):Holds none [] prog 148 (aQ (cT (sR (sL (b9 (sR (bB (lB (bB (aQ (body f97))))))))))) (bZ (fun b7 w_=>match cutAt aC.k (b9 (aQ (bB (lB (bB (aQ (body f97)))))))with|true=>Holds none [] prog 148 (b9 (aQ (bB (lB (bB (aQ (body f97))))))) (aO 1 aC.u1 Q) b7 w_|false=>aX none [] prog 148 aC.k (b9 (aQ (bB (lB (bB (aQ (body f97))))))) aC.u1 (aO 1 aC.u1 Q) b7 w_) (aO 1 aC.u1 Q)) [(0,.slice a b c),(1,.int .i64 d),(2,.int .i64 e),(3,.int .i64 f),(4,.func (.func 73) #[.pointer g] #[]),(10,.bool i),(11,.bool j),(12,.int .i64 k),(13,.int .i64 m),(14,.int .i64 n)] w:=
 c9 (C:=aC.k) ng mix (aC.j5 a b c d e f g i j k m n Q w) h
end
section
variable(a:OA)(b c:Nat)(d e f:Int)(g:OA)(i j:Bool)(k m:Int)(Q:aP)(w:World)
def aC.J6:Prop:=
 let n:=w.drew;Split (decide (d>(0:Int))) ((0<=(i64.wrap (d-(1:Int)))/\(i64.wrap (d-(1:Int)))<(b:Int))/\Is a fun o:Addr=>∃p:AV,(p.size=32/\Cells n (o.add ((i64.wrap (d-(1:Int))).toNat*32)) p)/\(0<=m/\m<(b:Int))/\Is a fun q:Addr=>∃r:AV,(r.size=32/\Cells n (q.add (m.toNat*32)) r)/\bz prog 73 #[.pointer g,.agg p,.agg r] n fun t u=>∃v:Int,t=.int .i64 v/\Split (!(decide (v<(0:Int)))) (bz prog 133 #[.slice a b c,.int .i64 d,.int .i64 e,.int .i64 m,.func (.func 73) #[.pointer g] #[]] u fun x y=>∃z:Int,x=.int .i64 z/\Q .normal [(0,.slice a b c),(1,.int .i64 z),(2,.int .i64 e),(3,.int .i64 f),(4,.func (.func 73) #[.pointer g] #[]),(10,.bool i),(11,.bool j)] y) (Holds none [] prog 148 (fX (bB (lB (bB (aQ (body f97)))))) (aO 1 aC.u1 Q) [(0,.slice a b c),(1,.int .i64 d),(2,.int .i64 e),(3,.int .i64 f),(4,.func (.func 73) #[.pointer g] #[]),(10,.bool i),(11,.bool j),(12,.int .i64 k),(13,.int .i64 m)] u)) (Holds none [] prog 148 (fX (bB (lB (bB (aQ (body f97)))))) (aO 1 aC.u1 Q) [(0,.slice a b c),(1,.int .i64 d),(2,.int .i64 e),(3,.int .i64 f),(4,.func (.func 73) #[.pointer g] #[]),(10,.bool i),(11,.bool j),(12,.int .i64 k),(13,.int .i64 m)] n)
theorem aC.j6:(aX none [] prog 148 aC.k (b9 (aQ (sR (bB (lB (bB (aQ (body f97)))))))) aC.u1 (aO 1 aC.u1 Q) [(0,.slice a b c),(1,.int .i64 d),(2,.int .i64 e),(3,.int .i64 f),(4,.func (.func 73) #[.pointer g] #[]),(10,.bool i),(11,.bool j),(12,.int .i64 k),(13,.int .i64 m)] w)=aC.J6 a b c d e f g i j k m Q w:=by kernel_rfl
variable{a b c d e f g i j k m Q w}
theorem aC.Nn(h:aC.J6 a b c d e f g i j k m Q w):Holds none [] prog 148 (b9 (aQ (sR (bB (lB (bB (aQ (body f97)))))))) (aO 1 aC.u1 Q) [(0,.slice a b c),(1,.int .i64 d),(2,.int .i64 e),(3,.int .i64 f),(4,.func (.func 73) #[.pointer g] #[]),(10,.bool i),(11,.bool j),(12,.int .i64 k),(13,.int .i64 m)] w:=
 c9 (C:=aC.k) ng mix (aC.j6 a b c d e f g i j k m Q w) h
end
section
variable(a:OA)(b c:Nat)(d e f:Int)(g:OA)(i j:Bool)(k m:Int)(Q:aP)(w:World)
def aC.J7:Prop:=
 bz prog 134 #[.slice a b c,.int .i64 d,.int .i64 e,.int .i64 m,.func (.func 73) #[.pointer g] #[]] w fun n o=>∃p:Int,∃q:Bool,n=.tuple #[.int .i64 p,.bool q]/\Holds none [] prog 148 (fX (sR (bB (lB (bB (aQ (body f97))))))) (aO 1 aC.u1 Q) [(0,.slice a b c),(1,.int .i64 d),(2,.int .i64 e),(3,.int .i64 f),(4,.func (.func 73) #[.pointer g] #[]),(10,.bool i),(11,.bool j),(12,.int .i64 k),(16,.int .i64 p),(17,.bool q)] o
theorem aC.j7:(aX none [] prog 148 aC.k (fX (bB (lB (bB (aQ (body f97)))))) aC.u1 (aO 1 aC.u1 Q) [(0,.slice a b c),(1,.int .i64 d),(2,.int .i64 e),(3,.int .i64 f),(4,.func (.func 73) #[.pointer g] #[]),(10,.bool i),(11,.bool j),(12,.int .i64 k),(13,.int .i64 m)] w)=aC.J7 a b c d e f g i j k m Q w:=by kernel_rfl
variable{a b c d e f g i j k m Q w}
theorem aC.Nl(h:aC.J7 a b c d e f g i j k m Q w):Holds none [] prog 148 (fX (bB (lB (bB (aQ (body f97)))))) (aO 1 aC.u1 Q) [(0,.slice a b c),(1,.int .i64 d),(2,.int .i64 e),(3,.int .i64 f),(4,.func (.func 73) #[.pointer g] #[]),(10,.bool i),(11,.bool j),(12,.int .i64 k),(13,.int .i64 m)] w:=
 c9 (C:=aC.k) ng mix (aC.j7 a b c d e f g i j k m Q w) h
end
section
def aC.J8(a:OA)(b c:Nat)(d e f:Int)(g:OA)(i j:Bool)(k m:Int)(n:Bool)(Q:aP)(w:World):Prop:=
 Holds none [] prog 148 (fX (aQ (bB (lB (bB (aQ (body f97))))))) (aO 1 aC.u1 Q) [(0,.slice a b c),(1,.int .i64 d),(2,.int .i64 e),(3,.int .i64 f),(4,.func (.func 73) #[.pointer g] #[]),(10,.bool i),(11,.bool n),(12,.int .i64 k),(16,.int .i64 m)] w
variable(a:OA)(b c:Nat)(d e f:Int)(g:OA)(i j:Bool)(k m:Int)(n:Bool)(Q:aP)(w:World)
theorem aC.j8:(aX none [] prog 148 aC.k (fX (sR (bB (lB (bB (aQ (body f97))))))) aC.u1 (aO 1 aC.u1 Q) [(0,.slice a b c),(1,.int .i64 d),(2,.int .i64 e),(3,.int .i64 f),(4,.func (.func 73) #[.pointer g] #[]),(10,.bool i),(11,.bool j),(12,.int .i64 k),(16,.int .i64 m),(17,.bool n)] w)=aC.J8 a b c d e f g i j k m n Q w:=by kernel_rfl
variable{a b c d e f g i j k m n Q w}
theorem aC.Uh(h:aC.J8 a b c d e f g i j k m n Q w):Holds none [] prog 148 (fX (sR (bB (lB (bB (aQ (body f97))))))) (aO 1 aC.u1 Q) [(0,.slice a b c),(1,.int .i64 d),(2,.int .i64 e),(3,.int .i64 f),(4,.func (.func 73) #[.pointer g] #[]),(10,.bool i),(11,.bool j),(12,.int .i64 k),(16,.int .i64 m),(17,.bool n)] w:=
 c9 (C:=aC.k) ng mix (aC.j8 a b c d e f g i j k m n Q w) h
end
section
variable(a:OA)(b c:Nat)(d e f:Int)(g:OA)(i j:Bool)(k m:Int)(Q:aP)(w:World)
def aC.J9:Prop:=
 Holds none [] prog 148 (fX (aQ (sR (bB (lB (bB (aQ (body f97)))))))) (aO 1 aC.u1 Q) [(0,.slice a b c),(1,.int .i64 d),(2,.int .i64 e),(3,.int .i64 f),(4,.func (.func 73) #[.pointer g] #[]),(10,.bool i),(11,.bool j),(12,.int .i64 k),(16,.int .i64 m),(18,.int .i64 (i64.wrap (m-d))),(19,.int .i64 (i64.wrap (e-m)))] w
theorem aC.j9:(aX none [] prog 148 aC.k (fX (aQ (bB (lB (bB (aQ (body f97))))))) aC.u1 (aO 1 aC.u1 Q) [(0,.slice a b c),(1,.int .i64 d),(2,.int .i64 e),(3,.int .i64 f),(4,.func (.func 73) #[.pointer g] #[]),(10,.bool i),(11,.bool j),(12,.int .i64 k),(16,.int .i64 m)] w)=aC.J9 a b c d e f g i j k m Q w:=by kernel_rfl
variable{a b c d e f g i j k m Q w}
theorem aC.Ug(h:aC.J9 a b c d e f g i j k m Q w):Holds none [] prog 148 (fX (aQ (bB (lB (bB (aQ (body f97))))))) (aO 1 aC.u1 Q) [(0,.slice a b c),(1,.int .i64 d),(2,.int .i64 e),(3,.int .i64 f),(4,.func (.func 73) #[.pointer g] #[]),(10,.bool i),(11,.bool j),(12,.int .i64 k),(16,.int .i64 m)] w:=
 c9 (C:=aC.k) ng mix (aC.j9 a b c d e f g i j k m Q w) h
end
section
variable(a:OA)(b c:Nat)(d e f:Int)(g:OA)(i j:Bool)(k m n o:Int)(Q:aP)(w:World)
def aC.J10:Prop:=
 (8:Int)≠0/\Holds none [] prog 148 (fX (b9 (bB (lB (bB (aQ (body f97))))))) (aO 1 aC.u1 Q) [(0,.slice a b c),(1,.int .i64 d),(2,.int .i64 e),(3,.int .i64 f),(4,.func (.func 73) #[.pointer g] #[]),(10,.bool i),(11,.bool j),(16,.int .i64 m),(18,.int .i64 n),(19,.int .i64 o),(20,.int .i64 (i64.wrap (k.tdiv (8:Int))))] w
theorem aC.j10:(aX none [] prog 148 aC.k (fX (aQ (sR (bB (lB (bB (aQ (body f97)))))))) aC.u1 (aO 1 aC.u1 Q) [(0,.slice a b c),(1,.int .i64 d),(2,.int .i64 e),(3,.int .i64 f),(4,.func (.func 73) #[.pointer g] #[]),(10,.bool i),(11,.bool j),(12,.int .i64 k),(16,.int .i64 m),(18,.int .i64 n),(19,.int .i64 o)] w)=aC.J10 a b c d e f g i j k m n o Q w:=by kernel_rfl
variable{a b c d e f g i j k m n o Q w}
theorem aC.PW(h:aC.J10 a b c d e f g i j k m n o Q w):Holds none [] prog 148 (fX (aQ (sR (bB (lB (bB (aQ (body f97)))))))) (aO 1 aC.u1 Q) [(0,.slice a b c),(1,.int .i64 d),(2,.int .i64 e),(3,.int .i64 f),(4,.func (.func 73) #[.pointer g] #[]),(10,.bool i),(11,.bool j),(12,.int .i64 k),(16,.int .i64 m),(18,.int .i64 n),(19,.int .i64 o)] w:=
 c9 (C:=aC.k) ng mix (aC.j10 a b c d e f g i j k m n o Q w) h
end
section
def aC.J11(a:OA)(b c:Nat)(d e f:Int)(g:OA)(i j:Bool)(k m n o:Int)(Q:aP)(w:World):Prop:=
 Split (decide (m<n)) (Holds none [] prog 148 (sR (cT (fX (b9 (sR (bB (lB (bB (aQ (body f97)))))))))) (aO 1 aC.u1 Q) [(0,.slice a b c),(1,.int .i64 d),(2,.int .i64 e),(3,.int .i64 f),(4,.func (.func 73) #[.pointer g] #[]),(10,.bool (decide (m>=o))),(11,.bool j),(16,.int .i64 k)] w) (Holds none [] prog 148 (sR (cE (fX (b9 (sR (bB (lB (bB (aQ (body f97)))))))))) (aO 1 aC.u1 Q) [(0,.slice a b c),(1,.int .i64 d),(2,.int .i64 e),(3,.int .i64 f),(4,.func (.func 73) #[.pointer g] #[]),(10,.bool (decide (n>=o))),(11,.bool j),(16,.int .i64 k)] w)
variable(a:OA)(b c:Nat)(d e f:Int)(g:OA)(i j:Bool)(k m n o:Int)(Q:aP)(w:World)
theorem aC.j11:(aX none [] prog 148 aC.k (fX (b9 (bB (lB (bB (aQ (body f97))))))) aC.u1 (aO 1 aC.u1 Q) [(0,.slice a b c),(1,.int .i64 d),(2,.int .i64 e),(3,.int .i64 f),(4,.func (.func 73) #[.pointer g] #[]),(10,.bool i),(11,.bool j),(16,.int .i64 k),(18,.int .i64 m),(19,.int .i64 n),(20,.int .i64 o)] w)=aC.J11 a b c d e f g i j k m n o Q w:=by kernel_rfl
variable{a b c d e f g i j k m n o Q w}
theorem aC.PV(h:aC.J11 a b c d e f g i j k m n o Q w):Holds none [] prog 148 (fX (b9 (bB (lB (bB (aQ (body f97))))))) (aO 1 aC.u1 Q) [(0,.slice a b c),(1,.int .i64 d),(2,.int .i64 e),(3,.int .i64 f),(4,.func (.func 73) #[.pointer g] #[]),(10,.bool i),(11,.bool j),(16,.int .i64 k),(18,.int .i64 m),(19,.int .i64 n),(20,.int .i64 o)] w:=
 c9 (C:=aC.k) ng mix (aC.j11 a b c d e f g i j k m n o Q w) h
end
section
variable(a:OA)(b c:Nat)(d e f:Int)(g:OA)(i j:Bool)(k:Int)(Q:aP)(w:World)
def aC.J12:Prop:=
 bz prog 97 #[.slice a b c,.int .i64 d,.int .i64 k,.int .i64 f,.func (.func 73) #[.pointer g] #[]] w fun m n=>m=.tuple #[]/\Holds none [] prog 148 (aQ (cT (fX (b9 (sR (bB (lB (bB (aQ (body f97)))))))))) (aO 1 aC.u1 Q) [(0,.slice a b c),(1,.int .i64 d),(2,.int .i64 e),(3,.int .i64 f),(4,.func (.func 73) #[.pointer g] #[]),(10,.bool i),(11,.bool j),(16,.int .i64 k)] n
theorem aC.j12:(aX none [] prog 148 aC.k (sR (cT (fX (b9 (sR (bB (lB (bB (aQ (body f97)))))))))) aC.u1 (aO 1 aC.u1 Q) [(0,.slice a b c),(1,.int .i64 d),(2,.int .i64 e),(3,.int .i64 f),(4,.func (.func 73) #[.pointer g] #[]),(10,.bool i),(11,.bool j),(16,.int .i64 k)] w)=aC.J12 a b c d e f g i j k Q w:=by kernel_rfl
variable{a b c d e f g i j k Q w}
theorem aC.PU(h:aC.J12 a b c d e f g i j k Q w):Holds none [] prog 148 (sR (cT (fX (b9 (sR (bB (lB (bB (aQ (body f97)))))))))) (aO 1 aC.u1 Q) [(0,.slice a b c),(1,.int .i64 d),(2,.int .i64 e),(3,.int .i64 f),(4,.func (.func 73) #[.pointer g] #[]),(10,.bool i),(11,.bool j),(16,.int .i64 k)] w:=
 c9 (C:=aC.k) ng mix (aC.j12 a b c d e f g i j k Q w) h
end
section
variable(a:OA)(b c:Nat)(d e f:Int)(g:OA)(i j:Bool)(k:Int)(Q:aP)(w:World)
def aC.J13:Prop:=
 bz prog 97 #[.slice a b c,.int .i64 (i64.wrap (k+(1:Int))),.int .i64 e,.int .i64 f,.func (.func 73) #[.pointer g] #[]] w fun m n=>m=.tuple #[]/\Holds none [] prog 148 (aQ (cE (fX (b9 (sR (bB (lB (bB (aQ (body f97)))))))))) (aO 1 aC.u1 Q) [(0,.slice a b c),(1,.int .i64 d),(2,.int .i64 e),(3,.int .i64 f),(4,.func (.func 73) #[.pointer g] #[]),(10,.bool i),(11,.bool j),(16,.int .i64 k)] n
theorem aC.j13:(aX none [] prog 148 aC.k (sR (cE (fX (b9 (sR (bB (lB (bB (aQ (body f97)))))))))) aC.u1 (aO 1 aC.u1 Q) [(0,.slice a b c),(1,.int .i64 d),(2,.int .i64 e),(3,.int .i64 f),(4,.func (.func 73) #[.pointer g] #[]),(10,.bool i),(11,.bool j),(16,.int .i64 k)] w)=aC.J13 a b c d e f g i j k Q w:=by kernel_rfl
variable{a b c d e f g i j k Q w}
theorem aC.PT(h:aC.J13 a b c d e f g i j k Q w):Holds none [] prog 148 (sR (cE (fX (b9 (sR (bB (lB (bB (aQ (body f97)))))))))) (aO 1 aC.u1 Q) [(0,.slice a b c),(1,.int .i64 d),(2,.int .i64 e),(3,.int .i64 f),(4,.func (.func 73) #[.pointer g] #[]),(10,.bool i),(11,.bool j),(16,.int .i64 k)] w:=
 c9 (C:=aC.k) ng mix (aC.j13 a b c d e f g i j k Q w) h
end
section
def aC.J14(a:OA)(b c:Nat)(d e f:Int)(g:OA)(i j:Bool)(k:Int)(Q:aP)(w:World):Prop:=
 Q .normal [(0,.slice a b c),(1,.int .i64 (i64.wrap (k+(1:Int)))),(2,.int .i64 e),(3,.int .i64 f),(4,.func (.func 73) #[.pointer g] #[]),(10,.bool i),(11,.bool j)] w
variable(a:OA)(b c:Nat)(d e f:Int)(g:OA)(i j:Bool)(k:Int)(Q:aP)(w:World)
theorem aC.j14:(aX none [] prog 148 aC.k (aQ (cT (fX (b9 (sR (bB (lB (bB (aQ (body f97)))))))))) aC.u1 (aO 1 aC.u1 Q) [(0,.slice a b c),(1,.int .i64 d),(2,.int .i64 e),(3,.int .i64 f),(4,.func (.func 73) #[.pointer g] #[]),(10,.bool i),(11,.bool j),(16,.int .i64 k)] w)=aC.J14 a b c d e f g i j k Q w:=by kernel_rfl
variable{a b c d e f g i j k Q w}
theorem aC.PS(h:aC.J14 a b c d e f g i j k Q w):Holds none [] prog 148 (aQ (cT (fX (b9 (sR (bB (lB (bB (aQ (body f97)))))))))) (aO 1 aC.u1 Q) [(0,.slice a b c),(1,.int .i64 d),(2,.int .i64 e),(3,.int .i64 f),(4,.func (.func 73) #[.pointer g] #[]),(10,.bool i),(11,.bool j),(16,.int .i64 k)] w:=
 c9 (C:=aC.k) ng mix (aC.j14 a b c d e f g i j k Q w) h
end
section
def aC.J15(a:OA)(b c:Nat)(d e f:Int)(g:OA)(i j:Bool)(k:Int)(Q:aP)(w:World):Prop:=
 Q .normal [(0,.slice a b c),(1,.int .i64 d),(2,.int .i64 k),(3,.int .i64 f),(4,.func (.func 73) #[.pointer g] #[]),(10,.bool i),(11,.bool j)] w
variable(a:OA)(b c:Nat)(d e f:Int)(g:OA)(i j:Bool)(k:Int)(Q:aP)(w:World)
theorem aC.j15:(aX none [] prog 148 aC.k (aQ (cE (fX (b9 (sR (bB (lB (bB (aQ (body f97)))))))))) aC.u1 (aO 1 aC.u1 Q) [(0,.slice a b c),(1,.int .i64 d),(2,.int .i64 e),(3,.int .i64 f),(4,.func (.func 73) #[.pointer g] #[]),(10,.bool i),(11,.bool j),(16,.int .i64 k)] w)=aC.J15 a b c d e f g i j k Q w:=by kernel_rfl
variable{a b c d e f g i j k Q w}
theorem aC.PR(h:aC.J15 a b c d e f g i j k Q w):Holds none [] prog 148 (aQ (cE (fX (b9 (sR (bB (lB (bB (aQ (body f97)))))))))) (aO 1 aC.u1 Q) [(0,.slice a b c),(1,.int .i64 d),(2,.int .i64 e),(3,.int .i64 f),(4,.func (.func 73) #[.pointer g] #[]),(10,.bool i),(11,.bool j),(16,.int .i64 k)] w:=
 c9 (C:=aC.k) ng mix (aC.j15 a b c d e f g i j k Q w) h
end
def cD.k:List Nat:= []
def cD.q1(K:KT):aP:=(aO 0 (aT f127) (bT prog f127 K))
def cD.e1(a:OA)(b c:Nat)(d e:Int)(f:OA)(s:Int):Env:= [(0,.slice a b c),(1,.int .i64 d),(2,.int .i64 e),(3,.func (.func 73) #[.pointer f] #[]),(8,.int .i64 s)]
def cD.u1:List Nat:= [0,1,2,3,8]
def cD.q2(Q:aP):aP:=(aO 2 (cr (aQ (lB (bB (sR (body f127)))))++cD.u1) (aO 1 (cr (aQ (lB (bB (sR (body f127)))))++cD.u1) (bZ (fun b7 w_=>match cutAt cD.k (aQ (lB (bB (sR (body f127)))))with|true=>Holds none [] prog 53 (aQ (lB (bB (sR (body f127))))) Q b7 w_|false=>aX none [] prog 53 cD.k (aQ (lB (bB (sR (body f127))))) cD.u1 Q b7 w_) Q)))
def cD.e2(a:OA)(b c:Nat)(d e:Int)(f:OA)(g s:Int):Env:= [(0,.slice a b c),(1,.int .i64 d),(2,.int .i64 e),(3,.func (.func 73) #[.pointer f] #[]),(8,.int .i64 g),(9,.int .i64 s)]
def cD.u2:List Nat:= [0,1,2,3,8,9]
section
variable(a:OA)(b d:Nat)(e f:Int)(g:OA)(K:KT)(w:World)
def cD.W:Prop:=
 Holds none [] prog 53 (.loop (lB (bB (sR (body f127))))) (cD.q1 K) [(0,.slice a b d),(1,.int .i64 e),(2,.int .i64 f),(3,.func (.func 73) #[.pointer g] #[]),(8,.int .i64 (i64.wrap (e+(1:Int))))] w
variable{a b d e f g K w}
theorem cD.of(h:cD.W a b d e f g K w):bz prog 127 #[.slice a b d,.int .i64 e,.int .i64 f,.func (.func 73) #[.pointer g] #[]] w K:=
 rqq func127 (C:=cD.k) h
end
section
variable(a:OA)(b c:Nat)(d e:Int)(f:OA)(g:Int)(Q:aP)(w:World)
def cD.B1:Prop:=
 Split (decide (g<e)) (Holds none [] prog 53 (.loop (lB (bB (sR (bB (sL (sR (lB (bB (sR (body f127))))))))))) (cD.q2 Q) [(0,.slice a b c),(1,.int .i64 d),(2,.int .i64 e),(3,.func (.func 73) #[.pointer f] #[]),(8,.int .i64 g),(9,.int .i64 g)] w) (Q (.exit 0) [(0,.slice a b c),(1,.int .i64 d),(2,.int .i64 e),(3,.func (.func 73) #[.pointer f] #[]),(8,.int .i64 g)] w)
theorem cD.b1:(aX none [] prog 53 cD.k (lB (bB (sR (body f127)))) cD.u1 Q [(0,.slice a b c),(1,.int .i64 d),(2,.int .i64 e),(3,.func (.func 73) #[.pointer f] #[]),(8,.int .i64 g)] w)=cD.B1 a b c d e f g Q w:=by kernel_rfl
variable{a b c d e f}
theorem cD.cy(I:Int->World->Prop)(μ:Int->World->Nat)(s:Int){Q:aP}{w:World}(h0:I s w)
 (round:∀s w,I s w->cD.B1 a b c d e f s (bR (cD.e1 a b c d e f) I μ s w Q) w):Holds none [] prog 53 (.loop (lB (bB (sR (body f127))))) Q (cD.e1 a b c d e f s) w:=
 bp ng mix (cD.e1 a b c d e f) I μ cD.k cD.u1 s (fun s Q w=>cD.B1 a b c d e f s Q w) (fun s Q w=>cD.b1 a b c d e f s Q w) h0 round
end
section
def cD.cV(a:OA)(b c:Nat)(d e:Int)(f:OA)(g:Int)(K:KT)(w:World):Prop:=
 K (.tuple #[]) w
variable(a:OA)(b c:Nat)(d e:Int)(f:OA)(g:Int)(K:KT)(w:World)
theorem cD.dq:(cD.q1 K (.exit 0) [(0,.slice a b c),(1,.int .i64 d),(2,.int .i64 e),(3,.func (.func 73) #[.pointer f] #[]),(8,.int .i64 g)] w)=cD.cV a b c d e f g K w:=by kernel_rfl
end
section
variable(a:OA)(b c:Nat)(d e:Int)(f:OA)(g i:Int)(Q:aP)(w:World)
def cD.B2:Prop:=
 let j:=w.drew;Split (decide (i>d)) ((0<=i/\i<(b:Int))/\Is a fun k:Addr=>∃m:AV,(m.size=32/\Cells j (k.add (i.toNat*32)) m)/\(0<=(i64.wrap (i-(1:Int)))/\(i64.wrap (i-(1:Int)))<(b:Int))/\Is a fun n:Addr=>∃o:AV,(o.size=32/\Cells j (n.add ((i64.wrap (i-(1:Int))).toNat*32)) o)/\bz prog 73 #[.pointer f,.agg m,.agg o] j fun p q=>∃r:Int,p=.int .i64 r/\Split (decide (r<(0:Int))) (let t:=q.drew;(0<=(i64.wrap (i-(1:Int)))/\(i64.wrap (i-(1:Int)))<(b:Int))/\Is a fun u:Addr=>∃v:AV,(v.size=32/\Cells t (u.add ((i64.wrap (i-(1:Int))).toNat*32)) v)/\(0<=i/\i<(b:Int))/\Is a fun x:Addr=>∃y:AV,(y.size=32/\Cells t (x.add (i.toNat*32)) y)/\(0<=i/\i<(b:Int))/\Is a fun z:Addr=>(v.size=32/\(∀a1∈v.toList,a1.oneCell'=true)/\∀b1,b1<32->Wr t ((z.add (i.toNat*32)).add b1))/\let c1:=setCells t (z.add (i.toNat*32)) v.toList 0;(0<=(i64.wrap (i-(1:Int)))/\(i64.wrap (i-(1:Int)))<(b:Int))/\Is a fun d1:Addr=>(y.size=32/\(∀e1∈y.toList,e1.oneCell'=true)/\∀f1,f1<32->Wr c1 ((d1.add ((i64.wrap (i-(1:Int))).toNat*32)).add f1))/\let g1:=setCells c1 (d1.add ((i64.wrap (i-(1:Int))).toNat*32)) y.toList 0;Q .normal [(0,.slice a b c),(1,.int .i64 d),(2,.int .i64 e),(3,.func (.func 73) #[.pointer f] #[]),(8,.int .i64 g),(9,.int .i64 (i64.wrap (i-(1:Int))))] g1) (Q (.exit 2) [(0,.slice a b c),(1,.int .i64 d),(2,.int .i64 e),(3,.func (.func 73) #[.pointer f] #[]),(8,.int .i64 g),(9,.int .i64 i)] q)) (Q (.exit 2) [(0,.slice a b c),(1,.int .i64 d),(2,.int .i64 e),(3,.func (.func 73) #[.pointer f] #[]),(8,.int .i64 g),(9,.int .i64 i)] j)
theorem cD.b2:(aX none [] prog 53 cD.k (lB (bB (sR (bB (sL (sR (lB (bB (sR (body f127)))))))))) cD.u2 Q [(0,.slice a b c),(1,.int .i64 d),(2,.int .i64 e),(3,.func (.func 73) #[.pointer f] #[]),(8,.int .i64 g),(9,.int .i64 i)] w)=cD.B2 a b c d e f g i Q w:=by kernel_rfl
variable{a b c d e f g}
theorem cD.gS(I:Int->World->Prop)(μ:Int->World->Nat)(s:Int){Q:aP}{w:World}(h0:I s w)
 (round:∀s w,I s w->cD.B2 a b c d e f g s (bR (cD.e2 a b c d e f g) I μ s w Q) w):Holds none [] prog 53 (.loop (lB (bB (sR (bB (sL (sR (lB (bB (sR (body f127))))))))))) Q (cD.e2 a b c d e f g s) w:=
 bp ng mix (cD.e2 a b c d e f g) I μ cD.k cD.u2 s (fun s Q w=>cD.B2 a b c d e f g s Q w) (fun s Q w=>cD.b2 a b c d e f g s Q w) h0 round
end
section
def cD.iI(a:OA)(b c:Nat)(d e:Int)(f:OA)(g i:Int)(Q:aP)(w:World):Prop:=
 Q .normal [(0,.slice a b c),(1,.int .i64 d),(2,.int .i64 e),(3,.func (.func 73) #[.pointer f] #[]),(8,.int .i64 (i64.wrap (g+(1:Int))))] w
variable(a:OA)(b c:Nat)(d e:Int)(f:OA)(g i:Int)(Q:aP)(w:World)
theorem cD.jU:(cD.q2 Q (.exit 2) [(0,.slice a b c),(1,.int .i64 d),(2,.int .i64 e),(3,.func (.func 73) #[.pointer f] #[]),(8,.int .i64 g),(9,.int .i64 i)] w)=cD.iI a b c d e f g i Q w:=by kernel_rfl
end
def cg.k:List Nat:= []
def cg.q1(K:KT):aP:=(aO 0 (cr (b9 (body f128))++(aT f128)) (bZ (fun b7 w_=>match cutAt cg.k (b9 (body f128))with|true=>Holds none [] prog 60 (b9 (body f128)) (bT prog f128 K) b7 w_|false=>aX none [] prog 60 cg.k (b9 (body f128)) (aT f128) (bT prog f128 K) b7 w_) (bT prog f128 K)))
def cg.e1(a:OA)(b c:Nat)(d:OA)(e f g s:Int):Env:= [(0,.slice a b c),(3,.func (.func 73) #[.pointer d] #[]),(8,.int .i64 e),(9,.int .i64 f),(10,.int .i64 g),(11,.int .i64 s)]
def cg.u1:List Nat:= [0,3,8,9,10,11]
def cg.q2(K:KT):aP:=(aO 2 (aT f128) (bT prog f128 K))
def cg.e2(a:OA)(b c:Nat)(d:OA)(e f s:Int):Env:= [(0,.slice a b c),(3,.func (.func 73) #[.pointer d] #[]),(8,.int .i64 e),(9,.int .i64 f),(12,.int .i64 s)]
def cg.u2:List Nat:= [0,3,8,9,12]
section
variable(a:OA)(b d:Nat)(e f:Int)(g:OA)(K:KT)(w:World)
def cg.W:Prop:=
 (2:Int)≠0/\Holds none [] prog 60 (.loop (lB (bB (sR (sL (aQ (sR (body f128)))))))) (cg.q1 K) [(0,.slice a b d),(3,.func (.func 73) #[.pointer g] #[]),(8,.int .i64 e),(9,.int .i64 0),(10,.int .i64 (i64.wrap (f-e))),(11,.int .i64 (i64.wrap ((i64.wrap ((i64.wrap (f-e))-(1:Int))).tdiv (2:Int))))] w
variable{a b d e f g K w}
theorem cg.of(h:cg.W a b d e f g K w):bz prog 128 #[.slice a b d,.int .i64 e,.int .i64 f,.func (.func 73) #[.pointer g] #[]] w K:=
 rqq func128 (C:=cg.k) h
end
section
variable(a:OA)(b c:Nat)(d:OA)(e f g i:Int)(Q:aP)(w:World)
def cg.B1:Prop:=
 Split (decide (i>=(0:Int))) (bz prog 152 #[.slice a b c,.int .i64 i,.int .i64 g,.int .i64 e,.func (.func 73) #[.pointer d] #[]] w fun j k=>j=.tuple #[]/\Q .normal [(0,.slice a b c),(3,.func (.func 73) #[.pointer d] #[]),(8,.int .i64 e),(9,.int .i64 f),(10,.int .i64 g),(11,.int .i64 (i64.wrap (i-(1:Int))))] k) (Q (.exit 0) [(0,.slice a b c),(3,.func (.func 73) #[.pointer d] #[]),(8,.int .i64 e),(9,.int .i64 f),(10,.int .i64 g),(11,.int .i64 i)] w)
theorem cg.b1:(aX none [] prog 60 cg.k (lB (bB (sR (sL (aQ (sR (body f128))))))) cg.u1 Q [(0,.slice a b c),(3,.func (.func 73) #[.pointer d] #[]),(8,.int .i64 e),(9,.int .i64 f),(10,.int .i64 g),(11,.int .i64 i)] w)=cg.B1 a b c d e f g i Q w:=by kernel_rfl
variable{a b c d e f g}
theorem cg.cy(I:Int->World->Prop)(μ:Int->World->Nat)(s:Int){Q:aP}{w:World}(h0:I s w)
 (round:∀s w,I s w->cg.B1 a b c d e f g s (bR (cg.e1 a b c d e f g) I μ s w Q) w):Holds none [] prog 60 (.loop (lB (bB (sR (sL (aQ (sR (body f128)))))))) Q (cg.e1 a b c d e f g s) w:=
 bp ng mix (cg.e1 a b c d e f g) I μ cg.k cg.u1 s (fun s Q w=>cg.B1 a b c d e f g s Q w) (fun s Q w=>cg.b1 a b c d e f g s Q w) h0 round
end
section
def cg.cV(a:OA)(b c:Nat)(d:OA)(e f g i:Int)(K:KT)(w:World):Prop:=
 Holds none [] prog 60 (.loop (lB (bB (b9 (sR (body f128)))))) (cg.q2 K) [(0,.slice a b c),(3,.func (.func 73) #[.pointer d] #[]),(8,.int .i64 e),(9,.int .i64 f),(12,.int .i64 (i64.wrap (g-(1:Int))))] w
variable(a:OA)(b c:Nat)(d:OA)(e f g i:Int)(K:KT)(w:World)
theorem cg.dq:(cg.q1 K (.exit 0) [(0,.slice a b c),(3,.func (.func 73) #[.pointer d] #[]),(8,.int .i64 e),(9,.int .i64 f),(10,.int .i64 g),(11,.int .i64 i)] w)=cg.cV a b c d e f g i K w:=by kernel_rfl
end
section
variable(a:OA)(b c:Nat)(d:OA)(e f g:Int)(Q:aP)(w:World)
def cg.B2:Prop:=
 Split (decide (g>=(0:Int))) (let i:=w.drew;(0<=(i64.wrap (e+g))/\(i64.wrap (e+g))<(b:Int))/\Is a fun j:Addr=>∃k:AV,(k.size=32/\Cells i (j.add ((i64.wrap (e+g)).toNat*32)) k)/\(0<=e/\e<(b:Int))/\Is a fun m:Addr=>∃n:AV,(n.size=32/\Cells i (m.add (e.toNat*32)) n)/\(0<=e/\e<(b:Int))/\Is a fun o:Addr=>(k.size=32/\(∀p∈k.toList,p.oneCell'=true)/\∀q,q<32->Wr i ((o.add (e.toNat*32)).add q))/\let r:=setCells i (o.add (e.toNat*32)) k.toList 0;(0<=(i64.wrap (e+g))/\(i64.wrap (e+g))<(b:Int))/\Is a fun t:Addr=>(n.size=32/\(∀u∈n.toList,u.oneCell'=true)/\∀v,v<32->Wr r ((t.add ((i64.wrap (e+g)).toNat*32)).add v))/\let x:=setCells r (t.add ((i64.wrap (e+g)).toNat*32)) n.toList 0;bz prog 152 #[.slice a b c,.int .i64 f,.int .i64 g,.int .i64 e,.func (.func 73) #[.pointer d] #[]] x fun y z=>y=.tuple #[]/\Q .normal [(0,.slice a b c),(3,.func (.func 73) #[.pointer d] #[]),(8,.int .i64 e),(9,.int .i64 f),(12,.int .i64 (i64.wrap (g-(1:Int))))] z) (Q (.exit 2) [(0,.slice a b c),(3,.func (.func 73) #[.pointer d] #[]),(8,.int .i64 e),(9,.int .i64 f),(12,.int .i64 g)] w)
theorem cg.b2:(aX none [] prog 60 cg.k (lB (bB (b9 (sR (body f128))))) cg.u2 Q [(0,.slice a b c),(3,.func (.func 73) #[.pointer d] #[]),(8,.int .i64 e),(9,.int .i64 f),(12,.int .i64 g)] w)=cg.B2 a b c d e f g Q w:=by kernel_rfl
variable{a b c d e f}
theorem cg.gS(I:Int->World->Prop)(μ:Int->World->Nat)(s:Int){Q:aP}{w:World}(h0:I s w)
 (round:∀s w,I s w->cg.B2 a b c d e f s (bR (cg.e2 a b c d e f) I μ s w Q) w):Holds none [] prog 60 (.loop (lB (bB (b9 (sR (body f128)))))) Q (cg.e2 a b c d e f s) w:=
 bp ng mix (cg.e2 a b c d e f) I μ cg.k cg.u2 s (fun s Q w=>cg.B2 a b c d e f s Q w) (fun s Q w=>cg.b2 a b c d e f s Q w) h0 round
end
section
def cg.iI(a:OA)(b c:Nat)(d:OA)(e f g:Int)(K:KT)(w:World):Prop:=
 K (.tuple #[]) w
variable(a:OA)(b c:Nat)(d:OA)(e f g:Int)(K:KT)(w:World)
theorem cg.jU:(cg.q2 K (.exit 2) [(0,.slice a b c),(3,.func (.func 73) #[.pointer d] #[]),(8,.int .i64 e),(9,.int .i64 f),(12,.int .i64 g)] w)=cg.iI a b c d e f g K w:=by kernel_rfl
end
def e9.k:List Nat:= []
def e9.q1(K:KT):aP:=(aO 0 (aT Tryz.f129) (bT prog Tryz.f129 K))
def e9.e1(a:OA)(b c:Nat)(d e:Int)(f:Addr)(g s:Int):Env:= [(0,.slice a b c),(1,.int .i64 d),(8,.int .i64 e),(9,.pointer (some f)),(10,.int .u64 g),(11,.int .i64 s)]
def e9.u1:List Nat:= [0,1,8,9,10,11]
section
def e9.W(a:OA)(b d:Nat)(e f:Int)(g:OA)(K:KT)(w:World):Prop:=
 Split (decide ((i64.wrap (f-e))>=(8:Int))) (let i:=w.alloc (.cells (#[.int .u64 0]:AV) 204);Wr i (aR w.heap.size)/\let j:=i.setCell (aR w.heap.size) (.int .u64 (u64.wrap (i64.wrap (f-e))));bz prog 153 #[.int .i64 (i64.wrap (f-e))] j fun k m=>∃n:Int,k=.int .u64 n/\(4:Int)≠0/\Holds none [] prog 67 (.loop (lB (bB (aQ (sR (cT (aQ (body Tryz.f129)))))))) (e9.q1 K) [(0,.slice a b d),(1,.int .i64 e),(8,.int .i64 (i64.wrap (f-e))),(9,.pointer (some (aR w.heap.size))),(10,.int .u64 n),(11,.int .i64 (i64.wrap ((i64.wrap (e+(i64.wrap ((i64.wrap ((i64.wrap (f-e)).tdiv (4:Int)))*(2:Int)))))-(1:Int))))] m) (K (.tuple #[]) w)
variable(a:OA)(b d:Nat)(e f:Int)(g:OA)(K:KT)(w:World)
variable{a b d e f g K w}
theorem e9.of(h:e9.W a b d e f g K w):bz prog 129 #[.slice a b d,.int .i64 e,.int .i64 f,.func (.func 73) #[.pointer g] #[]] w K:=
 rqq func129 (C:=e9.k) h
end
section
variable(a:OA)(b c:Nat)(d e:Int)(f:Addr)(g i:Int)(Q:aP)(w:World)
def e9.B1:Prop:=
 (4:Int)≠0/\Split (decide (i<=(i64.wrap ((i64.wrap (d+(i64.wrap ((i64.wrap (e.tdiv (4:Int)))*(2:Int)))))+(1:Int))))) (bz prog 154 #[.pointer (some f)] w fun j k=>∃m:Int,j=.int .u64 m/\Split (decide ((i64.wrap (u64.wrap ((BitVec.ofInt 64 m&&& BitVec.ofInt 64 (u64.wrap (g-(1:Int)))).toNat)))>=e)) (let n:=k.drew;(0<=(i64.wrap (d+(i64.wrap ((i64.wrap (u64.wrap ((BitVec.ofInt 64 m&&& BitVec.ofInt 64 (u64.wrap (g-(1:Int)))).toNat)))-e))))/\(i64.wrap (d+(i64.wrap ((i64.wrap (u64.wrap ((BitVec.ofInt 64 m&&& BitVec.ofInt 64 (u64.wrap (g-(1:Int)))).toNat)))-e))))<(b:Int))/\Is a fun o:Addr=>∃p:AV,(p.size=32/\Cells n (o.add ((i64.wrap (d+(i64.wrap ((i64.wrap (u64.wrap ((BitVec.ofInt 64 m&&& BitVec.ofInt 64 (u64.wrap (g-(1:Int)))).toNat)))-e)))).toNat*32)) p)/\(0<=i/\i<(b:Int))/\Is a fun q:Addr=>∃r:AV,(r.size=32/\Cells n (q.add (i.toNat*32)) r)/\(0<=i/\i<(b:Int))/\Is a fun t:Addr=>(p.size=32/\(∀u∈p.toList,u.oneCell'=true)/\∀v,v<32->Wr n ((t.add (i.toNat*32)).add v))/\let x:=setCells n (t.add (i.toNat*32)) p.toList 0;(0<=(i64.wrap (d+(i64.wrap ((i64.wrap (u64.wrap ((BitVec.ofInt 64 m&&& BitVec.ofInt 64 (u64.wrap (g-(1:Int)))).toNat)))-e))))/\(i64.wrap (d+(i64.wrap ((i64.wrap (u64.wrap ((BitVec.ofInt 64 m&&& BitVec.ofInt 64 (u64.wrap (g-(1:Int)))).toNat)))-e))))<(b:Int))/\Is a fun y:Addr=>(r.size=32/\(∀z∈r.toList,z.oneCell'=true)/\∀a1,a1<32->Wr x ((y.add ((i64.wrap (d+(i64.wrap ((i64.wrap (u64.wrap ((BitVec.ofInt 64 m&&& BitVec.ofInt 64 (u64.wrap (g-(1:Int)))).toNat)))-e)))).toNat*32)).add a1))/\let b1:=setCells x (y.add ((i64.wrap (d+(i64.wrap ((i64.wrap (u64.wrap ((BitVec.ofInt 64 m&&& BitVec.ofInt 64 (u64.wrap (g-(1:Int)))).toNat)))-e)))).toNat*32)) r.toList 0;Q .normal [(0,.slice a b c),(1,.int .i64 d),(8,.int .i64 e),(9,.pointer (some f)),(10,.int .u64 g),(11,.int .i64 (i64.wrap (i+(1:Int))))] b1) (let c1:=k.drew;(0<=(i64.wrap (d+(i64.wrap (u64.wrap ((BitVec.ofInt 64 m&&& BitVec.ofInt 64 (u64.wrap (g-(1:Int)))).toNat)))))/\(i64.wrap (d+(i64.wrap (u64.wrap ((BitVec.ofInt 64 m&&& BitVec.ofInt 64 (u64.wrap (g-(1:Int)))).toNat)))))<(b:Int))/\Is a fun d1:Addr=>∃e1:AV,(e1.size=32/\Cells c1 (d1.add ((i64.wrap (d+(i64.wrap (u64.wrap ((BitVec.ofInt 64 m&&& BitVec.ofInt 64 (u64.wrap (g-(1:Int)))).toNat))))).toNat*32)) e1)/\(0<=i/\i<(b:Int))/\Is a fun f1:Addr=>∃g1:AV,(g1.size=32/\Cells c1 (f1.add (i.toNat*32)) g1)/\(0<=i/\i<(b:Int))/\Is a fun i1:Addr=>(e1.size=32/\(∀j1∈e1.toList,j1.oneCell'=true)/\∀k1,k1<32->Wr c1 ((i1.add (i.toNat*32)).add k1))/\let m1:=setCells c1 (i1.add (i.toNat*32)) e1.toList 0;(0<=(i64.wrap (d+(i64.wrap (u64.wrap ((BitVec.ofInt 64 m&&& BitVec.ofInt 64 (u64.wrap (g-(1:Int)))).toNat)))))/\(i64.wrap (d+(i64.wrap (u64.wrap ((BitVec.ofInt 64 m&&& BitVec.ofInt 64 (u64.wrap (g-(1:Int)))).toNat)))))<(b:Int))/\Is a fun n1:Addr=>(g1.size=32/\(∀o1∈g1.toList,o1.oneCell'=true)/\∀p1,p1<32->Wr m1 ((n1.add ((i64.wrap (d+(i64.wrap (u64.wrap ((BitVec.ofInt 64 m&&& BitVec.ofInt 64 (u64.wrap (g-(1:Int)))).toNat))))).toNat*32)).add p1))/\let q1:=setCells m1 (n1.add ((i64.wrap (d+(i64.wrap (u64.wrap ((BitVec.ofInt 64 m&&& BitVec.ofInt 64 (u64.wrap (g-(1:Int)))).toNat))))).toNat*32)) g1.toList 0;Q .normal [(0,.slice a b c),(1,.int .i64 d),(8,.int .i64 e),(9,.pointer (some f)),(10,.int .u64 g),(11,.int .i64 (i64.wrap (i+(1:Int))))] q1)) (Q (.exit 0) [(0,.slice a b c),(1,.int .i64 d),(8,.int .i64 e),(9,.pointer (some f)),(10,.int .u64 g),(11,.int .i64 i)] w)
theorem e9.b1:(aX none [] prog 67 e9.k (lB (bB (aQ (sR (cT (aQ (body Tryz.f129))))))) e9.u1 Q [(0,.slice a b c),(1,.int .i64 d),(8,.int .i64 e),(9,.pointer (some f)),(10,.int .u64 g),(11,.int .i64 i)] w)=e9.B1 a b c d e f g i Q w:=by kernel_rfl
variable{a b c d e f g}
theorem e9.cy(I:Int->World->Prop)(μ:Int->World->Nat)(s:Int){Q:aP}{w:World}(h0:I s w)
 (round:∀s w,I s w->e9.B1 a b c d e f g s (bR (e9.e1 a b c d e f g) I μ s w Q) w):Holds none [] prog 67 (.loop (lB (bB (aQ (sR (cT (aQ (body Tryz.f129)))))))) Q (e9.e1 a b c d e f g s) w:=
 bp ng mix (e9.e1 a b c d e f g) I μ e9.k e9.u1 s (fun s Q w=>e9.B1 a b c d e f g s Q w) (fun s Q w=>e9.b1 a b c d e f g s Q w) h0 round
end
section
def e9.cV(a:OA)(b c:Nat)(d e:Int)(f:Addr)(g i:Int)(K:KT)(w:World):Prop:=
 K (.tuple #[]) w
variable(a:OA)(b c:Nat)(d e:Int)(f:Addr)(g i:Int)(K:KT)(w:World)
theorem e9.dq:(e9.q1 K (.exit 0) [(0,.slice a b c),(1,.int .i64 d),(8,.int .i64 e),(9,.pointer (some f)),(10,.int .u64 g),(11,.int .i64 i)] w)=e9.cV a b c d e f g i K w:=by kernel_rfl
end
def sV.k:List Nat:= []
section
variable(a:OA)(b d:Nat)(e f:Int)(g:OA)(K:KT)(w:World)
def sV.W:Prop:=
 let i:=w.alloc (.cells (#[.int .i64 0]:AV) 3);(4:Int)≠0/\(4:Int)≠0/\(4:Int)≠0/\Split (decide ((i64.wrap (f-e))>=(8:Int))) (Split (decide ((i64.wrap (f-e))>=(50:Int))) (bz prog 155 #[.slice a b d,.int .i64 (i64.wrap (e+(i64.wrap ((i64.wrap ((i64.wrap (f-e)).tdiv (4:Int)))*(1:Int))))),.pointer (some (aR w.heap.size)),.func (.func 73) #[.pointer g] #[]] i fun j k=>∃m:Int,j=.int .i64 m/\bz prog 155 #[.slice a b d,.int .i64 (i64.wrap (e+(i64.wrap ((i64.wrap ((i64.wrap (f-e)).tdiv (4:Int)))*(2:Int))))),.pointer (some (aR w.heap.size)),.func (.func 73) #[.pointer g] #[]] k fun n o=>∃p:Int,n=.int .i64 p/\bz prog 155 #[.slice a b d,.int .i64 (i64.wrap (e+(i64.wrap ((i64.wrap ((i64.wrap (f-e)).tdiv (4:Int)))*(3:Int))))),.pointer (some (aR w.heap.size)),.func (.func 73) #[.pointer g] #[]] o fun q r=>∃t:Int,q=.int .i64 t/\bz prog 156 #[.slice a b d,.int .i64 m,.int .i64 p,.int .i64 t,.pointer (some (aR w.heap.size)),.func (.func 73) #[.pointer g] #[]] r fun u v=>∃x:Int,u=.int .i64 x/\∃y:Int,v.cell? (aR w.heap.size)=some (.int .i64 y)/\Split (y==(0:Int)) (K (.tuple #[.int .i64 x,.int .i64 1]) v) (Split (y==(12:Int)) (K (.tuple #[.int .i64 x,.int .i64 2]) v) (K (.tuple #[.int .i64 x,.int .i64 0]) v))) (bz prog 156 #[.slice a b d,.int .i64 (i64.wrap (e+(i64.wrap ((i64.wrap ((i64.wrap (f-e)).tdiv (4:Int)))*(1:Int))))),.int .i64 (i64.wrap (e+(i64.wrap ((i64.wrap ((i64.wrap (f-e)).tdiv (4:Int)))*(2:Int))))),.int .i64 (i64.wrap (e+(i64.wrap ((i64.wrap ((i64.wrap (f-e)).tdiv (4:Int)))*(3:Int))))),.pointer (some (aR w.heap.size)),.func (.func 73) #[.pointer g] #[]] i fun z a1=>∃b1:Int,z=.int .i64 b1/\∃c1:Int,a1.cell? (aR w.heap.size)=some (.int .i64 c1)/\Split (c1==(0:Int)) (K (.tuple #[.int .i64 b1,.int .i64 1]) a1) (Split (c1==(12:Int)) (K (.tuple #[.int .i64 b1,.int .i64 2]) a1) (K (.tuple #[.int .i64 b1,.int .i64 0]) a1)))) (∃d1:Int,i.cell? (aR w.heap.size)=some (.int .i64 d1)/\Split (d1==(0:Int)) (K (.tuple #[.int .i64 (i64.wrap (e+(i64.wrap ((i64.wrap ((i64.wrap (f-e)).tdiv (4:Int)))*(2:Int))))),.int .i64 1]) i) (Split (d1==(12:Int)) (K (.tuple #[.int .i64 (i64.wrap (e+(i64.wrap ((i64.wrap ((i64.wrap (f-e)).tdiv (4:Int)))*(2:Int))))),.int .i64 2]) i) (K (.tuple #[.int .i64 (i64.wrap (e+(i64.wrap ((i64.wrap ((i64.wrap (f-e)).tdiv (4:Int)))*(2:Int))))),.int .i64 0]) i)))
variable{a b d e f g K w}
theorem sV.of(h:sV.W a b d e f g K w):bz prog 130 #[.slice a b d,.int .i64 e,.int .i64 f,.func (.func 73) #[.pointer g] #[]] w K:=
 rqq func130 (C:=sV.k) h
end
def e8.k:List Nat:= []
def e8.q1(K:KT):aP:=(aO 0 (aT f131) (bT prog f131 K))
def e8.e1(a:OA)(b c:Nat)(s:Int×Int):Env:= [(0,.slice a b c),(8,.int .i64 s.1),(9,.int .i64 s.2)]
def e8.u1:List Nat:= [0,8,9]
section
def e8.W(a:OA)(b d:Nat)(e f:Int)(g:OA)(K:KT)(w:World):Prop:=
 Holds none [] prog 34 (.loop (lB (bB (aQ (body f131))))) (e8.q1 K) [(0,.slice a b d),(8,.int .i64 e),(9,.int .i64 (i64.wrap (f-(1:Int))))] w
variable(a:OA)(b d:Nat)(e f:Int)(g:OA)(K:KT)(w:World)
variable{a b d e f g K w}
theorem e8.of(h:e8.W a b d e f g K w):bz prog 131 #[.slice a b d,.int .i64 e,.int .i64 f,.func (.func 73) #[.pointer g] #[]] w K:=
 rqq func131 (C:=e8.k) h
end
section
variable(a:OA)(b c:Nat)(d e:Int)(Q:aP)(w:World)
def e8.B1:Prop:=
 Split (decide (d<e)) (let f:=w.drew;(0<=e/\e<(b:Int))/\Is a fun g:Addr=>∃i:AV,(i.size=32/\Cells f (g.add (e.toNat*32)) i)/\(0<=d/\d<(b:Int))/\Is a fun j:Addr=>∃k:AV,(k.size=32/\Cells f (j.add (d.toNat*32)) k)/\(0<=d/\d<(b:Int))/\Is a fun m:Addr=>(i.size=32/\(∀n∈i.toList,n.oneCell'=true)/\∀o,o<32->Wr f ((m.add (d.toNat*32)).add o))/\let p:=setCells f (m.add (d.toNat*32)) i.toList 0;(0<=e/\e<(b:Int))/\Is a fun q:Addr=>(k.size=32/\(∀r∈k.toList,r.oneCell'=true)/\∀t,t<32->Wr p ((q.add (e.toNat*32)).add t))/\let u:=setCells p (q.add (e.toNat*32)) k.toList 0;Q .normal [(0,.slice a b c),(8,.int .i64 (i64.wrap (d+(1:Int)))),(9,.int .i64 (i64.wrap (e-(1:Int))))] u) (Q (.exit 0) [(0,.slice a b c),(8,.int .i64 d),(9,.int .i64 e)] w)
theorem e8.b1:(aX none [] prog 34 e8.k (lB (bB (aQ (body f131)))) e8.u1 Q [(0,.slice a b c),(8,.int .i64 d),(9,.int .i64 e)] w)=e8.B1 a b c d e Q w:=by kernel_rfl
variable{a b c}
theorem e8.cy(I:Int×Int->World->Prop)(μ:Int×Int->World->Nat)(s:Int×Int){Q:aP}{w:World}(h0:I s w)
 (round:∀s w,I s w->e8.B1 a b c (s.1) (s.2) (bR (e8.e1 a b c) I μ s w Q) w):Holds none [] prog 34 (.loop (lB (bB (aQ (body f131))))) Q (e8.e1 a b c s) w:=
 bp ng mix (e8.e1 a b c) I μ e8.k e8.u1 s (fun s Q w=>e8.B1 a b c (s.1) (s.2) Q w) (fun s Q w=>e8.b1 a b c (s.1) (s.2) Q w) h0 round
end
section
def e8.cV(a:OA)(b c:Nat)(d e:Int)(K:KT)(w:World):Prop:=
 K (.tuple #[]) w
variable(a:OA)(b c:Nat)(d e:Int)(K:KT)(w:World)
theorem e8.dq:(e8.q1 K (.exit 0) [(0,.slice a b c),(8,.int .i64 d),(9,.int .i64 e)] w)=e8.cV a b c d e K w:=by kernel_rfl
end
def bL.k:List Nat:= []
def bL.q1(K:KT):aP:=(aO 0 (cr (aQ (sR (body f132)))++(aT f132)) (bZ (fun b7 w_=>match cutAt bL.k (aQ (sR (body f132)))with|true=>Holds none [] prog 141 (aQ (sR (body f132))) (bT prog f132 K) b7 w_|false=>aX none [] prog 141 bL.k (aQ (sR (body f132))) (aT f132) (bT prog f132 K) b7 w_) (bT prog f132 K)))
def bL.e1(a:OA)(b c:Nat)(d e:Int)(f:OA)(s:Bool×Int×Int):Env:= [(0,.slice a b c),(1,.int .i64 d),(2,.int .i64 e),(3,.func (.func 73) #[.pointer f] #[]),(8,.bool s.1),(9,.int .i64 s.2.1),(10,.int .i64 s.2.2)]
def bL.u1:List Nat:= [0,1,2,3,8,9,10]
def bL.q2(Q:aP):aP:=(aO 2 (cr (sR (bB (sL (sR (lB (bB (sR (sL (aQ (body f132))))))))))++(cr (aQ (lB (bB (sR (sL (aQ (body f132)))))))++bL.u1)) (bZ (fun b7 w_=>match cutAt bL.k (sR (bB (sL (sR (lB (bB (sR (sL (aQ (body f132))))))))))with|true=>Holds none [] prog 141 (sR (bB (sL (sR (lB (bB (sR (sL (aQ (body f132)))))))))) (aO 1 (cr (aQ (lB (bB (sR (sL (aQ (body f132)))))))++bL.u1) (bZ (fun b7 w_=>match cutAt bL.k (aQ (lB (bB (sR (sL (aQ (body f132)))))))with|true=>Holds none [] prog 141 (aQ (lB (bB (sR (sL (aQ (body f132))))))) Q b7 w_|false=>aX none [] prog 141 bL.k (aQ (lB (bB (sR (sL (aQ (body f132))))))) bL.u1 Q b7 w_) Q)) b7 w_|false=>aX none [] prog 141 bL.k (sR (bB (sL (sR (lB (bB (sR (sL (aQ (body f132)))))))))) (cr (aQ (lB (bB (sR (sL (aQ (body f132)))))))++bL.u1) (aO 1 (cr (aQ (lB (bB (sR (sL (aQ (body f132)))))))++bL.u1) (bZ (fun b7 w_=>match cutAt bL.k (aQ (lB (bB (sR (sL (aQ (body f132)))))))with|true=>Holds none [] prog 141 (aQ (lB (bB (sR (sL (aQ (body f132))))))) Q b7 w_|false=>aX none [] prog 141 bL.k (aQ (lB (bB (sR (sL (aQ (body f132))))))) bL.u1 Q b7 w_) Q)) b7 w_) (aO 1 (cr (aQ (lB (bB (sR (sL (aQ (body f132)))))))++bL.u1) (bZ (fun b7 w_=>match cutAt bL.k (aQ (lB (bB (sR (sL (aQ (body f132)))))))with|true=>Holds none [] prog 141 (aQ (lB (bB (sR (sL (aQ (body f132))))))) Q b7 w_|false=>aX none [] prog 141 bL.k (aQ (lB (bB (sR (sL (aQ (body f132))))))) bL.u1 Q b7 w_) Q))))
def bL.e2(a:OA)(b c:Nat)(d e:Int)(f:OA)(g:Bool)(i s:Int):Env:= [(0,.slice a b c),(1,.int .i64 d),(2,.int .i64 e),(3,.func (.func 73) #[.pointer f] #[]),(8,.bool g),(9,.int .i64 s),(10,.int .i64 i)]
def bL.u2:List Nat:= [0,1,2,3,8,9,10]
def bL.q3(Q:aP):aP:=(aO 4 (cr (b9 (sR (bB (sL (sR (lB (bB (sR (sL (aQ (body f132)))))))))))++(cr (aQ (lB (bB (sR (sL (aQ (body f132)))))))++bL.u1)) (bZ (fun b7 w_=>match cutAt bL.k (b9 (sR (bB (sL (sR (lB (bB (sR (sL (aQ (body f132)))))))))))with|true=>Holds none [] prog 141 (b9 (sR (bB (sL (sR (lB (bB (sR (sL (aQ (body f132))))))))))) (aO 1 (cr (aQ (lB (bB (sR (sL (aQ (body f132)))))))++bL.u1) (bZ (fun b7 w_=>match cutAt bL.k (aQ (lB (bB (sR (sL (aQ (body f132)))))))with|true=>Holds none [] prog 141 (aQ (lB (bB (sR (sL (aQ (body f132))))))) Q b7 w_|false=>aX none [] prog 141 bL.k (aQ (lB (bB (sR (sL (aQ (body f132))))))) bL.u1 Q b7 w_) Q)) b7 w_|false=>aX none [] prog 141 bL.k (b9 (sR (bB (sL (sR (lB (bB (sR (sL (aQ (body f132))))))))))) (cr (aQ (lB (bB (sR (sL (aQ (body f132)))))))++bL.u1) (aO 1 (cr (aQ (lB (bB (sR (sL (aQ (body f132)))))))++bL.u1) (bZ (fun b7 w_=>match cutAt bL.k (aQ (lB (bB (sR (sL (aQ (body f132)))))))with|true=>Holds none [] prog 141 (aQ (lB (bB (sR (sL (aQ (body f132))))))) Q b7 w_|false=>aX none [] prog 141 bL.k (aQ (lB (bB (sR (sL (aQ (body f132))))))) bL.u1 Q b7 w_) Q)) b7 w_) (aO 1 (cr (aQ (lB (bB (sR (sL (aQ (body f132)))))))++bL.u1) (bZ (fun b7 w_=>match cutAt bL.k (aQ (lB (bB (sR (sL (aQ (body f132)))))))with|true=>Holds none [] prog 141 (aQ (lB (bB (sR (sL (aQ (body f132))))))) Q b7 w_|false=>aX none [] prog 141 bL.k (aQ (lB (bB (sR (sL (aQ (body f132))))))) bL.u1 Q b7 w_) Q))))
def bL.q4(Q:aP):aP:=(aO 6 (cr (aQ (lB (bB (sR (sL (aQ (body f132)))))))++bL.u1) (aO 1 (cr (aQ (lB (bB (sR (sL (aQ (body f132)))))))++bL.u1) (bZ (fun b7 w_=>match cutAt bL.k (aQ (lB (bB (sR (sL (aQ (body f132)))))))with|true=>Holds none [] prog 141 (aQ (lB (bB (sR (sL (aQ (body f132))))))) Q b7 w_|false=>aX none [] prog 141 bL.k (aQ (lB (bB (sR (sL (aQ (body f132))))))) bL.u1 Q b7 w_) Q)))
section
variable(a:OA)(b d:Nat)(e f:Int)(g:OA)(K:KT)(w:World)
def bL.W:Prop:=
 Holds none [] prog 141 (.loop (lB (bB (sR (sL (aQ (body f132))))))) (bL.q1 K) [(0,.slice a b d),(1,.int .i64 e),(2,.int .i64 f),(3,.func (.func 73) #[.pointer g] #[]),(8,.bool false),(9,.int .i64 (i64.wrap (e+(1:Int)))),(10,.int .i64 0)] w
variable{a b d e f g K w}
theorem bL.of(h:bL.W a b d e f g K w):bz prog 132 #[.slice a b d,.int .i64 e,.int .i64 f,.func (.func 73) #[.pointer g] #[]] w K:=
 rqq func132 (C:=bL.k) h
end
section
variable(a:OA)(b c:Nat)(d e:Int)(f:OA)(g:Bool)(i j:Int)(Q:aP)(w:World)
def bL.B1:Prop:=
 Split (decide (j<(5:Int))) (Holds none [] prog 141 (.loop (lB (bB (sL (bB (sL (sR (lB (bB (sR (sL (aQ (body f132))))))))))))) (bL.q2 Q) [(0,.slice a b c),(1,.int .i64 d),(2,.int .i64 e),(3,.func (.func 73) #[.pointer f] #[]),(8,.bool g),(9,.int .i64 i),(10,.int .i64 j)] w) (Q (.exit 0) [(0,.slice a b c),(1,.int .i64 d),(2,.int .i64 e),(3,.func (.func 73) #[.pointer f] #[]),(8,.bool g),(9,.int .i64 i),(10,.int .i64 j)] w)
theorem bL.b1:(aX none [] prog 141 bL.k (lB (bB (sR (sL (aQ (body f132)))))) bL.u1 Q [(0,.slice a b c),(1,.int .i64 d),(2,.int .i64 e),(3,.func (.func 73) #[.pointer f] #[]),(8,.bool g),(9,.int .i64 i),(10,.int .i64 j)] w)=bL.B1 a b c d e f g i j Q w:=by kernel_rfl
variable{a b c d e f}
theorem bL.cy(I:Bool×Int×Int->World->Prop)(μ:Bool×Int×Int->World->Nat)(s:Bool×Int×Int){Q:aP}{w:World}(h0:I s w)
 (round:∀s w,I s w->bL.B1 a b c d e f (s.1) (s.2.1) (s.2.2) (bR (bL.e1 a b c d e f) I μ s w Q) w):Holds none [] prog 141 (.loop (lB (bB (sR (sL (aQ (body f132))))))) Q (bL.e1 a b c d e f s) w:=
 bp ng mix (bL.e1 a b c d e f) I μ bL.k bL.u1 s (fun s Q w=>bL.B1 a b c d e f (s.1) (s.2.1) (s.2.2) Q w) (fun s Q w=>bL.b1 a b c d e f (s.1) (s.2.1) (s.2.2) Q w) h0 round
end
section
variable(a:OA)(b c:Nat)(d e:Int)(f:OA)(g:Bool)(i j:Int)(K:KT)(w:World)
end
section
variable(a:OA)(b c:Nat)(d e:Int)(f:OA)(g:Bool)(i j:Int)(Q:aP)(w:World)
def bL.B2:Prop:=
 let k:=w.drew;Split (decide (i<e)) ((0<=i/\i<(b:Int))/\Is a fun m:Addr=>∃n:AV,(n.size=32/\Cells k (m.add (i.toNat*32)) n)/\(0<=(i64.wrap (i-(1:Int)))/\(i64.wrap (i-(1:Int)))<(b:Int))/\Is a fun o:Addr=>∃p:AV,(p.size=32/\Cells k (o.add ((i64.wrap (i-(1:Int))).toNat*32)) p)/\bz prog 73 #[.pointer f,.agg n,.agg p] k fun q r=>∃t:Int,q=.int .i64 t/\Split (!(decide (t<(0:Int)))) (Q .normal [(0,.slice a b c),(1,.int .i64 d),(2,.int .i64 e),(3,.func (.func 73) #[.pointer f] #[]),(8,.bool g),(9,.int .i64 (i64.wrap (i+(1:Int)))),(10,.int .i64 j)] r) (Q (.exit 2) [(0,.slice a b c),(1,.int .i64 d),(2,.int .i64 e),(3,.func (.func 73) #[.pointer f] #[]),(8,.bool g),(9,.int .i64 i),(10,.int .i64 j)] r)) (Q (.exit 2) [(0,.slice a b c),(1,.int .i64 d),(2,.int .i64 e),(3,.func (.func 73) #[.pointer f] #[]),(8,.bool g),(9,.int .i64 i),(10,.int .i64 j)] k)
theorem bL.b2:(aX none [] prog 141 bL.k (lB (bB (sL (bB (sL (sR (lB (bB (sR (sL (aQ (body f132)))))))))))) bL.u2 Q [(0,.slice a b c),(1,.int .i64 d),(2,.int .i64 e),(3,.func (.func 73) #[.pointer f] #[]),(8,.bool g),(9,.int .i64 i),(10,.int .i64 j)] w)=bL.B2 a b c d e f g i j Q w:=by kernel_rfl
variable{a b c d e f g j}
theorem bL.gS(I:Int->World->Prop)(μ:Int->World->Nat)(s:Int){Q:aP}{w:World}(h0:I s w)
 (round:∀s w,I s w->bL.B2 a b c d e f g s j (bR (bL.e2 a b c d e f g j) I μ s w Q) w):Holds none [] prog 141 (.loop (lB (bB (sL (bB (sL (sR (lB (bB (sR (sL (aQ (body f132))))))))))))) Q (bL.e2 a b c d e f g j s) w:=
 bp ng mix (bL.e2 a b c d e f g j) I μ bL.k bL.u2 s (fun s Q w=>bL.B2 a b c d e f g s j Q w) (fun s Q w=>bL.b2 a b c d e f g s j Q w) h0 round
end
section
variable(a:OA)(b c:Nat)(d e:Int)(f:OA)(g:Bool)(i j:Int)(Q:aP)(w:World)
def bL.iI:Prop:=
 Split (i==e) (Q .ret [(0,.slice a b c),(1,.int .i64 d),(2,.int .i64 e),(3,.func (.func 73) #[.pointer f] #[]),(8,.bool true),(9,.int .i64 i),(10,.int .i64 j)] w) (Split (decide ((i64.wrap (e-d))<(50:Int))) (Q .ret [(0,.slice a b c),(1,.int .i64 d),(2,.int .i64 e),(3,.func (.func 73) #[.pointer f] #[]),(8,.bool false),(9,.int .i64 i),(10,.int .i64 j)] w) (let k:=w.drew;(0<=(i64.wrap (i-(1:Int)))/\(i64.wrap (i-(1:Int)))<(b:Int))/\Is a fun m:Addr=>∃n:AV,(n.size=32/\Cells k (m.add ((i64.wrap (i-(1:Int))).toNat*32)) n)/\(0<=i/\i<(b:Int))/\Is a fun o:Addr=>∃p:AV,(p.size=32/\Cells k (o.add (i.toNat*32)) p)/\(0<=i/\i<(b:Int))/\Is a fun q:Addr=>(n.size=32/\(∀r∈n.toList,r.oneCell'=true)/\∀t,t<32->Wr k ((q.add (i.toNat*32)).add t))/\let u:=setCells k (q.add (i.toNat*32)) n.toList 0;(0<=(i64.wrap (i-(1:Int)))/\(i64.wrap (i-(1:Int)))<(b:Int))/\Is a fun v:Addr=>(p.size=32/\(∀x∈p.toList,x.oneCell'=true)/\∀y,y<32->Wr u ((v.add ((i64.wrap (i-(1:Int))).toNat*32)).add y))/\let z:=setCells u (v.add ((i64.wrap (i-(1:Int))).toNat*32)) p.toList 0;Split (decide ((i64.wrap (i-d))>=(2:Int))) (Holds none [] prog 141 (.loop (lB (bB (sR (cT (sR (sL (b9 (bB (sL (sR (lB (bB (sR (sL (aQ (body f132))))))))))))))))) (bL.q3 Q) [(0,.slice a b c),(1,.int .i64 d),(2,.int .i64 e),(3,.func (.func 73) #[.pointer f] #[]),(8,.bool g),(9,.int .i64 i),(10,.int .i64 j),(11,.int .i64 (i64.wrap (i-(1:Int))))] z) (Split (decide ((i64.wrap (e-i))>=(2:Int))) (Holds none [] prog 141 (.loop (lB (bB (sR (cT (b9 (aQ (bB (sL (sR (lB (bB (sR (sL (aQ (body f132)))))))))))))))) (bL.q4 Q) [(0,.slice a b c),(1,.int .i64 d),(2,.int .i64 e),(3,.func (.func 73) #[.pointer f] #[]),(8,.bool g),(9,.int .i64 i),(10,.int .i64 j),(12,.int .i64 (i64.wrap (i+(1:Int))))] z) (Q .normal [(0,.slice a b c),(1,.int .i64 d),(2,.int .i64 e),(3,.func (.func 73) #[.pointer f] #[]),(8,.bool g),(9,.int .i64 i),(10,.int .i64 (i64.wrap (j+(1:Int))))] z))))
theorem bL.jU:(bL.q2 Q (.exit 2) [(0,.slice a b c),(1,.int .i64 d),(2,.int .i64 e),(3,.func (.func 73) #[.pointer f] #[]),(8,.bool g),(9,.int .i64 i),(10,.int .i64 j)] w)=bL.iI a b c d e f g i j Q w:=by kernel_rfl
end
section
variable(a:OA)(b c:Nat)(d e:Int)(f:OA)(g:Bool)(i j k:Int)(Q:aP)(w:World)
variable{a b c d e f g i j}
end
section
variable(a:OA)(b c:Nat)(d e:Int)(f:OA)(g:Bool)(i j k:Int)(Q:aP)(w:World)
end
section
variable(a:OA)(b c:Nat)(d e:Int)(f:OA)(g:Bool)(i j k:Int)(Q:aP)(w:World)
variable{a b c d e f g i j}
end
section
variable(a:OA)(b c:Nat)(d e:Int)(f:OA)(g:Bool)(i j k:Int)(Q:aP)(w:World)
end
section
variable(a:OA)(b d:Nat)(e f g:Int)(i:OA)(K:KT)(w:World)
variable{a b d e f g i K w}
end
section
variable(a:OA)(b c:Nat)(d:Int)(e:OA)(f g i:Int)(Q:aP)(w:World)
variable{a b c d e f}
end
section
variable(a:OA)(b c:Nat)(d:Int)(e:OA)(f g i:Int)(Q:aP)(w:World)
variable{a b c d e f i}
end
section
variable(a:OA)(b c:Nat)(d:Int)(e:OA)(f g i:Int)(Q:aP)(w:World)
end
section
variable(a:OA)(b c:Nat)(d:Int)(e:OA)(f g i:Int)(Q:aP)(w:World)
variable{a b c d e f g}
end
section
variable(a:OA)(b c:Nat)(d:Int)(e:OA)(f g i:Int)(Q:aP)(w:World)
end
section
variable(a:OA)(b c:Nat)(d:Int)(e:OA)(f g i:Int)(K:KT)(w:World)
end
def aY.k:List Nat:= []
def aY.q1(K:KT):aP:=(aO 0 (cr (b9 (body f134))++(aT f134)) (bZ (fun b7 w_=>match cutAt aY.k (b9 (body f134))with|true=>Holds none [] prog 178 (b9 (body f134)) (bT prog f134 K) b7 w_|false=>aX none [] prog 178 aY.k (b9 (body f134)) (aT f134) (bT prog f134 K) b7 w_) (bT prog f134 K)))
def aY.e1(a:OA)(b c:Nat)(d:Int)(e:OA)(f g s:Int):Env:= [(0,.slice a b c),(1,.int .i64 d),(4,.func (.func 73) #[.pointer e] #[]),(10,.int .i64 f),(11,.bool false),(12,.int .i64 s),(13,.int .i64 g)]
def aY.u1:List Nat:= [0,1,4,10,11,12,13]
def aY.q2(K:KT):aP:=(aO 2 (cr (b9 (sR (body f134)))++(aT f134)) (bZ (fun b7 w_=>match cutAt aY.k (b9 (sR (body f134)))with|true=>Holds none [] prog 178 (b9 (sR (body f134))) (bT prog f134 K) b7 w_|false=>aX none [] prog 178 aY.k (b9 (sR (body f134))) (aT f134) (bT prog f134 K) b7 w_) (bT prog f134 K)))
def aY.e2(a:OA)(b c:Nat)(d:Int)(e:OA)(f g s:Int):Env:= [(0,.slice a b c),(1,.int .i64 d),(4,.func (.func 73) #[.pointer e] #[]),(10,.int .i64 f),(11,.bool false),(12,.int .i64 g),(13,.int .i64 s)]
def aY.u2:List Nat:= [0,1,4,10,11,12,13]
def aY.q3(K:KT):aP:=(aO 4 (cr (fX (aQ (body f134)))++(aT f134)) (bZ (fun b7 w_=>match cutAt aY.k (fX (aQ (body f134)))with|true=>Holds none [] prog 178 (fX (aQ (body f134))) (bT prog f134 K) b7 w_|false=>aX none [] prog 178 aY.k (fX (aQ (body f134))) (aT f134) (bT prog f134 K) b7 w_) (bT prog f134 K)))
def aY.e3(a:OA)(b c:Nat)(d:Int)(e:OA)(f:Int)(s:Int×Int):Env:= [(0,.slice a b c),(1,.int .i64 d),(4,.func (.func 73) #[.pointer e] #[]),(10,.int .i64 f),(11,.bool false),(12,.int .i64 s.1),(13,.int .i64 s.2)]
def aY.u3:List Nat:= [0,1,4,10,11,12,13]
def aY.q4(Q:aP):aP:=(aO 6 (cr (sR (bB (lB (bB (sL (fX (sR (body f134))))))))++aY.u3) (bZ (fun b7 w_=>match cutAt aY.k (sR (bB (lB (bB (sL (fX (sR (body f134))))))))with|true=>Holds none [] prog 178 (sR (bB (lB (bB (sL (fX (sR (body f134)))))))) (aO 5 aY.u3 Q) b7 w_|false=>aX none [] prog 178 aY.k (sR (bB (lB (bB (sL (fX (sR (body f134)))))))) aY.u3 (aO 5 aY.u3 Q) b7 w_) (aO 5 aY.u3 Q)))
def aY.e4(a:OA)(b c:Nat)(d:Int)(e:OA)(f g s:Int):Env:= [(0,.slice a b c),(1,.int .i64 d),(4,.func (.func 73) #[.pointer e] #[]),(10,.int .i64 f),(11,.bool false),(12,.int .i64 s),(13,.int .i64 g)]
def aY.u4:List Nat:= [0,1,4,10,11,12,13]
def aY.q5(Q:aP):aP:=(aO 8 (cr (aQ (bB (lB (bB (sL (fX (sR (body f134))))))))++aY.u3) (bZ (fun b7 w_=>match cutAt aY.k (aQ (bB (lB (bB (sL (fX (sR (body f134))))))))with|true=>Holds none [] prog 178 (aQ (bB (lB (bB (sL (fX (sR (body f134)))))))) (aO 5 aY.u3 Q) b7 w_|false=>aX none [] prog 178 aY.k (aQ (bB (lB (bB (sL (fX (sR (body f134)))))))) aY.u3 (aO 5 aY.u3 Q) b7 w_) (aO 5 aY.u3 Q)))
def aY.e5(a:OA)(b c:Nat)(d:Int)(e:OA)(f g s:Int):Env:= [(0,.slice a b c),(1,.int .i64 d),(4,.func (.func 73) #[.pointer e] #[]),(10,.int .i64 f),(11,.bool false),(12,.int .i64 g),(13,.int .i64 s)]
def aY.u5:List Nat:= [0,1,4,10,11,12,13]
section
variable(a:OA)(b d:Nat)(e f g:Int)(i:OA)(K:KT)(w:World)
def aY.W:Prop:=
 let j:=w.drew;(0<=g/\g<(b:Int))/\Is a fun k:Addr=>∃m:AV,(m.size=32/\Cells j (k.add (g.toNat*32)) m)/\(0<=e/\e<(b:Int))/\Is a fun n:Addr=>∃o:AV,(o.size=32/\Cells j (n.add (e.toNat*32)) o)/\(0<=e/\e<(b:Int))/\Is a fun p:Addr=>(m.size=32/\(∀q∈m.toList,q.oneCell'=true)/\∀r,r<32->Wr j ((p.add (e.toNat*32)).add r))/\let t:=setCells j (p.add (e.toNat*32)) m.toList 0;(0<=g/\g<(b:Int))/\Is a fun u:Addr=>(o.size=32/\(∀v∈o.toList,v.oneCell'=true)/\∀x,x<32->Wr t ((u.add (g.toNat*32)).add x))/\let y:=setCells t (u.add (g.toNat*32)) o.toList 0;Holds none [] prog 178 (.loop (lB (bB (sL (aQ (sR (body f134))))))) (aY.q1 K) [(0,.slice a b d),(1,.int .i64 e),(4,.func (.func 73) #[.pointer i] #[]),(10,.int .i64 0),(11,.bool false),(12,.int .i64 (i64.wrap (e+(1:Int)))),(13,.int .i64 (i64.wrap (f-(1:Int))))] y
variable{a b d e f g i K w}
theorem aY.of(h:aY.W a b d e f g i K w):bz prog 134 #[.slice a b d,.int .i64 e,.int .i64 f,.int .i64 g,.func (.func 73) #[.pointer i] #[]] w K:=
 rqq func134 (C:=aY.k) h
end
section
variable(a:OA)(b c:Nat)(d:Int)(e:OA)(f g i:Int)(Q:aP)(w:World)
def aY.B1:Prop:=
 let j:=w.drew;Split (decide (g<=i)) ((0<=g/\g<(b:Int))/\Is a fun k:Addr=>∃m:AV,(m.size=32/\Cells j (k.add (g.toNat*32)) m)/\(0<=d/\d<(b:Int))/\Is a fun n:Addr=>∃o:AV,(o.size=32/\Cells j (n.add (d.toNat*32)) o)/\bz prog 73 #[.pointer e,.agg m,.agg o] j fun p q=>∃r:Int,p=.int .i64 r/\Split (decide (r<(0:Int))) (Q .normal [(0,.slice a b c),(1,.int .i64 d),(4,.func (.func 73) #[.pointer e] #[]),(10,.int .i64 f),(11,.bool false),(12,.int .i64 (i64.wrap (g+(1:Int)))),(13,.int .i64 i)] q) (Q (.exit 0) [(0,.slice a b c),(1,.int .i64 d),(4,.func (.func 73) #[.pointer e] #[]),(10,.int .i64 f),(11,.bool false),(12,.int .i64 g),(13,.int .i64 i)] q)) (Q (.exit 0) [(0,.slice a b c),(1,.int .i64 d),(4,.func (.func 73) #[.pointer e] #[]),(10,.int .i64 f),(11,.bool false),(12,.int .i64 g),(13,.int .i64 i)] j)
theorem aY.b1:(aX none [] prog 178 aY.k (lB (bB (sL (aQ (sR (body f134)))))) aY.u1 Q [(0,.slice a b c),(1,.int .i64 d),(4,.func (.func 73) #[.pointer e] #[]),(10,.int .i64 f),(11,.bool false),(12,.int .i64 g),(13,.int .i64 i)] w)=aY.B1 a b c d e f g i Q w:=by kernel_rfl
variable{a b c d e f i}
theorem aY.cy(I:Int->World->Prop)(μ:Int->World->Nat)(s:Int){Q:aP}{w:World}(h0:I s w)
 (round:∀s w,I s w->aY.B1 a b c d e f s i (bR (aY.e1 a b c d e f i) I μ s w Q) w):Holds none [] prog 178 (.loop (lB (bB (sL (aQ (sR (body f134))))))) Q (aY.e1 a b c d e f i s) w:=
 bp ng mix (aY.e1 a b c d e f i) I μ aY.k aY.u1 s (fun s Q w=>aY.B1 a b c d e f s i Q w) (fun s Q w=>aY.b1 a b c d e f s i Q w) h0 round
end
section
variable(a:OA)(b c:Nat)(d:Int)(e:OA)(f g i:Int)(K:KT)(w:World)
def aY.cV:Prop:=
 Holds none [] prog 178 (.loop (lB (bB (sL (b9 (body f134)))))) (aY.q2 K) [(0,.slice a b c),(1,.int .i64 d),(4,.func (.func 73) #[.pointer e] #[]),(10,.int .i64 f),(11,.bool false),(12,.int .i64 g),(13,.int .i64 i)] w
theorem aY.dq:(aY.q1 K (.exit 0) [(0,.slice a b c),(1,.int .i64 d),(4,.func (.func 73) #[.pointer e] #[]),(10,.int .i64 f),(11,.bool false),(12,.int .i64 g),(13,.int .i64 i)] w)=aY.cV a b c d e f g i K w:=by kernel_rfl
end
section
variable(a:OA)(b c:Nat)(d:Int)(e:OA)(f g i:Int)(Q:aP)(w:World)
def aY.B2:Prop:=
 let j:=w.drew;Split (decide (g<=i)) ((0<=i/\i<(b:Int))/\Is a fun k:Addr=>∃m:AV,(m.size=32/\Cells j (k.add (i.toNat*32)) m)/\(0<=d/\d<(b:Int))/\Is a fun n:Addr=>∃o:AV,(o.size=32/\Cells j (n.add (d.toNat*32)) o)/\bz prog 73 #[.pointer e,.agg m,.agg o] j fun p q=>∃r:Int,p=.int .i64 r/\Split (!(decide (r<(0:Int)))) (Q .normal [(0,.slice a b c),(1,.int .i64 d),(4,.func (.func 73) #[.pointer e] #[]),(10,.int .i64 f),(11,.bool false),(12,.int .i64 g),(13,.int .i64 (i64.wrap (i-(1:Int))))] q) (Q (.exit 2) [(0,.slice a b c),(1,.int .i64 d),(4,.func (.func 73) #[.pointer e] #[]),(10,.int .i64 f),(11,.bool false),(12,.int .i64 g),(13,.int .i64 i)] q)) (Q (.exit 2) [(0,.slice a b c),(1,.int .i64 d),(4,.func (.func 73) #[.pointer e] #[]),(10,.int .i64 f),(11,.bool false),(12,.int .i64 g),(13,.int .i64 i)] j)
theorem aY.b2:(aX none [] prog 178 aY.k (lB (bB (sL (b9 (body f134))))) aY.u2 Q [(0,.slice a b c),(1,.int .i64 d),(4,.func (.func 73) #[.pointer e] #[]),(10,.int .i64 f),(11,.bool false),(12,.int .i64 g),(13,.int .i64 i)] w)=aY.B2 a b c d e f g i Q w:=by kernel_rfl
variable{a b c d e f g}
theorem aY.gS(I:Int->World->Prop)(μ:Int->World->Nat)(s:Int){Q:aP}{w:World}(h0:I s w)
 (round:∀s w,I s w->aY.B2 a b c d e f g s (bR (aY.e2 a b c d e f g) I μ s w Q) w):Holds none [] prog 178 (.loop (lB (bB (sL (b9 (body f134)))))) Q (aY.e2 a b c d e f g s) w:=
 bp ng mix (aY.e2 a b c d e f g) I μ aY.k aY.u2 s (fun s Q w=>aY.B2 a b c d e f g s Q w) (fun s Q w=>aY.b2 a b c d e f g s Q w) h0 round
end
section
variable(a:OA)(b c:Nat)(d:Int)(e:OA)(f g i:Int)(K:KT)(w:World)
def aY.iI:Prop:=
 Split (decide (g>i)) (let j:=w.drew;(0<=d/\d<(b:Int))/\Is a fun k:Addr=>∃m:AV,(m.size=32/\Cells j (k.add (d.toNat*32)) m)/\(0<=i/\i<(b:Int))/\Is a fun n:Addr=>∃o:AV,(o.size=32/\Cells j (n.add (i.toNat*32)) o)/\(0<=i/\i<(b:Int))/\Is a fun p:Addr=>(m.size=32/\(∀q∈m.toList,q.oneCell'=true)/\∀r,r<32->Wr j ((p.add (i.toNat*32)).add r))/\let t:=setCells j (p.add (i.toNat*32)) m.toList 0;(0<=d/\d<(b:Int))/\Is a fun u:Addr=>(o.size=32/\(∀v∈o.toList,v.oneCell'=true)/\∀x,x<32->Wr t ((u.add (d.toNat*32)).add x))/\let y:=setCells t (u.add (d.toNat*32)) o.toList 0;K (.tuple #[.int .i64 i,.bool true]) y) (let z:=w.drew;(0<=i/\i<(b:Int))/\Is a fun a1:Addr=>∃b1:AV,(b1.size=32/\Cells z (a1.add (i.toNat*32)) b1)/\(0<=g/\g<(b:Int))/\Is a fun c1:Addr=>∃d1:AV,(d1.size=32/\Cells z (c1.add (g.toNat*32)) d1)/\(0<=g/\g<(b:Int))/\Is a fun e1:Addr=>(b1.size=32/\(∀f1∈b1.toList,f1.oneCell'=true)/\∀g1,g1<32->Wr z ((e1.add (g.toNat*32)).add g1))/\let i1:=setCells z (e1.add (g.toNat*32)) b1.toList 0;(0<=i/\i<(b:Int))/\Is a fun j1:Addr=>(d1.size=32/\(∀k1∈d1.toList,k1.oneCell'=true)/\∀m1,m1<32->Wr i1 ((j1.add (i.toNat*32)).add m1))/\let n1:=setCells i1 (j1.add (i.toNat*32)) d1.toList 0;Holds none [] prog 178 (.loop (lB (bB (sL (fX (sR (body f134))))))) (aY.q3 K) [(0,.slice a b c),(1,.int .i64 d),(4,.func (.func 73) #[.pointer e] #[]),(10,.int .i64 f),(11,.bool false),(12,.int .i64 (i64.wrap (g+(1:Int)))),(13,.int .i64 (i64.wrap (i-(1:Int))))] n1)
theorem aY.jU:(aY.q2 K (.exit 2) [(0,.slice a b c),(1,.int .i64 d),(4,.func (.func 73) #[.pointer e] #[]),(10,.int .i64 f),(11,.bool false),(12,.int .i64 g),(13,.int .i64 i)] w)=aY.iI a b c d e f g i K w:=by kernel_rfl
end
section
variable(a:OA)(b c:Nat)(d:Int)(e:OA)(f g i:Int)(Q:aP)(w:World)
def aY.B3:Prop:=
 Holds none [] prog 178 (.loop (lB (bB (sL (bB (lB (bB (sL (fX (sR (body f134))))))))))) (aY.q4 Q) [(0,.slice a b c),(1,.int .i64 d),(4,.func (.func 73) #[.pointer e] #[]),(10,.int .i64 f),(11,.bool false),(12,.int .i64 g),(13,.int .i64 i)] w
theorem aY.b3:(aX none [] prog 178 aY.k (lB (bB (sL (fX (sR (body f134)))))) aY.u3 Q [(0,.slice a b c),(1,.int .i64 d),(4,.func (.func 73) #[.pointer e] #[]),(10,.int .i64 f),(11,.bool false),(12,.int .i64 g),(13,.int .i64 i)] w)=aY.B3 a b c d e f g i Q w:=by kernel_rfl
variable{a b c d e f}
theorem aY.sk(I:Int×Int->World->Prop)(μ:Int×Int->World->Nat)(s:Int×Int){Q:aP}{w:World}(h0:I s w)
 (round:∀s w,I s w->aY.B3 a b c d e f (s.1) (s.2) (bR (aY.e3 a b c d e f) I μ s w Q) w):Holds none [] prog 178 (.loop (lB (bB (sL (fX (sR (body f134))))))) Q (aY.e3 a b c d e f s) w:=
 bp ng mix (aY.e3 a b c d e f) I μ aY.k aY.u3 s (fun s Q w=>aY.B3 a b c d e f (s.1) (s.2) Q w) (fun s Q w=>aY.b3 a b c d e f (s.1) (s.2) Q w) h0 round
end
section
variable(a:OA)(b c:Nat)(d:Int)(e:OA)(f g i:Int)(Q:aP)(w:World)
def aY.B4:Prop:=
 let j:=w.drew;Split (decide (g<=i)) ((0<=g/\g<(b:Int))/\Is a fun k:Addr=>∃m:AV,(m.size=32/\Cells j (k.add (g.toNat*32)) m)/\(0<=d/\d<(b:Int))/\Is a fun n:Addr=>∃o:AV,(o.size=32/\Cells j (n.add (d.toNat*32)) o)/\bz prog 73 #[.pointer e,.agg m,.agg o] j fun p q=>∃r:Int,p=.int .i64 r/\Split (decide (r<(0:Int))) (Q .normal [(0,.slice a b c),(1,.int .i64 d),(4,.func (.func 73) #[.pointer e] #[]),(10,.int .i64 f),(11,.bool false),(12,.int .i64 (i64.wrap (g+(1:Int)))),(13,.int .i64 i)] q) (Q (.exit 6) [(0,.slice a b c),(1,.int .i64 d),(4,.func (.func 73) #[.pointer e] #[]),(10,.int .i64 f),(11,.bool false),(12,.int .i64 g),(13,.int .i64 i)] q)) (Q (.exit 6) [(0,.slice a b c),(1,.int .i64 d),(4,.func (.func 73) #[.pointer e] #[]),(10,.int .i64 f),(11,.bool false),(12,.int .i64 g),(13,.int .i64 i)] j)
theorem aY.b4:(aX none [] prog 178 aY.k (lB (bB (sL (bB (lB (bB (sL (fX (sR (body f134)))))))))) aY.u4 Q [(0,.slice a b c),(1,.int .i64 d),(4,.func (.func 73) #[.pointer e] #[]),(10,.int .i64 f),(11,.bool false),(12,.int .i64 g),(13,.int .i64 i)] w)=aY.B4 a b c d e f g i Q w:=by kernel_rfl
variable{a b c d e f i}
theorem aY.Ih(I:Int->World->Prop)(μ:Int->World->Nat)(s:Int){Q:aP}{w:World}(h0:I s w)
 (round:∀s w,I s w->aY.B4 a b c d e f s i (bR (aY.e4 a b c d e f i) I μ s w Q) w):Holds none [] prog 178 (.loop (lB (bB (sL (bB (lB (bB (sL (fX (sR (body f134))))))))))) Q (aY.e4 a b c d e f i s) w:=
 bp ng mix (aY.e4 a b c d e f i) I μ aY.k aY.u4 s (fun s Q w=>aY.B4 a b c d e f s i Q w) (fun s Q w=>aY.b4 a b c d e f s i Q w) h0 round
end
section
variable(a:OA)(b c:Nat)(d:Int)(e:OA)(f g i:Int)(Q:aP)(w:World)
def aY.DI:Prop:=
 Holds none [] prog 178 (.loop (lB (bB (sL (sR (bB (lB (bB (sL (fX (sR (body f134)))))))))))) (aY.q5 Q) [(0,.slice a b c),(1,.int .i64 d),(4,.func (.func 73) #[.pointer e] #[]),(10,.int .i64 f),(11,.bool false),(12,.int .i64 g),(13,.int .i64 i)] w
theorem aY.Hp:(aY.q4 Q (.exit 6) [(0,.slice a b c),(1,.int .i64 d),(4,.func (.func 73) #[.pointer e] #[]),(10,.int .i64 f),(11,.bool false),(12,.int .i64 g),(13,.int .i64 i)] w)=aY.DI a b c d e f g i Q w:=by kernel_rfl
end
section
variable(a:OA)(b c:Nat)(d:Int)(e:OA)(f g i:Int)(Q:aP)(w:World)
def aY.B5:Prop:=
 let j:=w.drew;Split (decide (g<=i)) ((0<=i/\i<(b:Int))/\Is a fun k:Addr=>∃m:AV,(m.size=32/\Cells j (k.add (i.toNat*32)) m)/\(0<=d/\d<(b:Int))/\Is a fun n:Addr=>∃o:AV,(o.size=32/\Cells j (n.add (d.toNat*32)) o)/\bz prog 73 #[.pointer e,.agg m,.agg o] j fun p q=>∃r:Int,p=.int .i64 r/\Split (!(decide (r<(0:Int)))) (Q .normal [(0,.slice a b c),(1,.int .i64 d),(4,.func (.func 73) #[.pointer e] #[]),(10,.int .i64 f),(11,.bool false),(12,.int .i64 g),(13,.int .i64 (i64.wrap (i-(1:Int))))] q) (Q (.exit 8) [(0,.slice a b c),(1,.int .i64 d),(4,.func (.func 73) #[.pointer e] #[]),(10,.int .i64 f),(11,.bool false),(12,.int .i64 g),(13,.int .i64 i)] q)) (Q (.exit 8) [(0,.slice a b c),(1,.int .i64 d),(4,.func (.func 73) #[.pointer e] #[]),(10,.int .i64 f),(11,.bool false),(12,.int .i64 g),(13,.int .i64 i)] j)
theorem aY.b5:(aX none [] prog 178 aY.k (lB (bB (sL (sR (bB (lB (bB (sL (fX (sR (body f134))))))))))) aY.u5 Q [(0,.slice a b c),(1,.int .i64 d),(4,.func (.func 73) #[.pointer e] #[]),(10,.int .i64 f),(11,.bool false),(12,.int .i64 g),(13,.int .i64 i)] w)=aY.B5 a b c d e f g i Q w:=by kernel_rfl
variable{a b c d e f g}
theorem aY.TA(I:Int->World->Prop)(μ:Int->World->Nat)(s:Int){Q:aP}{w:World}(h0:I s w)
 (round:∀s w,I s w->aY.B5 a b c d e f g s (bR (aY.e5 a b c d e f g) I μ s w Q) w):Holds none [] prog 178 (.loop (lB (bB (sL (sR (bB (lB (bB (sL (fX (sR (body f134)))))))))))) Q (aY.e5 a b c d e f g s) w:=
 bp ng mix (aY.e5 a b c d e f g) I μ aY.k aY.u5 s (fun s Q w=>aY.B5 a b c d e f g s Q w) (fun s Q w=>aY.b5 a b c d e f g s Q w) h0 round
end
section
variable(a:OA)(b c:Nat)(d:Int)(e:OA)(f g i:Int)(Q:aP)(w:World)
def aY.Ry:Prop:=
 Split (decide (g>i)) (Q (.exit 4) [(0,.slice a b c),(1,.int .i64 d),(4,.func (.func 73) #[.pointer e] #[]),(10,.int .i64 f),(11,.bool false),(12,.int .i64 g),(13,.int .i64 i)] w) (let j:=w.drew;(0<=i/\i<(b:Int))/\Is a fun k:Addr=>∃m:AV,(m.size=32/\Cells j (k.add (i.toNat*32)) m)/\(0<=g/\g<(b:Int))/\Is a fun n:Addr=>∃o:AV,(o.size=32/\Cells j (n.add (g.toNat*32)) o)/\(0<=g/\g<(b:Int))/\Is a fun p:Addr=>(m.size=32/\(∀q∈m.toList,q.oneCell'=true)/\∀r,r<32->Wr j ((p.add (g.toNat*32)).add r))/\let t:=setCells j (p.add (g.toNat*32)) m.toList 0;(0<=i/\i<(b:Int))/\Is a fun u:Addr=>(o.size=32/\(∀v∈o.toList,v.oneCell'=true)/\∀x,x<32->Wr t ((u.add (i.toNat*32)).add x))/\let y:=setCells t (u.add (i.toNat*32)) o.toList 0;Q .normal [(0,.slice a b c),(1,.int .i64 d),(4,.func (.func 73) #[.pointer e] #[]),(10,.int .i64 f),(11,.bool false),(12,.int .i64 (i64.wrap (g+(1:Int)))),(13,.int .i64 (i64.wrap (i-(1:Int))))] y)
theorem aY.SD:(aY.q5 Q (.exit 8) [(0,.slice a b c),(1,.int .i64 d),(4,.func (.func 73) #[.pointer e] #[]),(10,.int .i64 f),(11,.bool false),(12,.int .i64 g),(13,.int .i64 i)] w)=aY.Ry a b c d e f g i Q w:=by kernel_rfl
end
section
def aY.sK(a:OA)(b c:Nat)(d:Int)(e:OA)(f g i:Int)(K:KT)(w:World):Prop:=
 let j:=w.drew;(0<=d/\d<(b:Int))/\Is a fun k:Addr=>∃m:AV,(m.size=32/\Cells j (k.add (d.toNat*32)) m)/\(0<=i/\i<(b:Int))/\Is a fun n:Addr=>∃o:AV,(o.size=32/\Cells j (n.add (i.toNat*32)) o)/\(0<=i/\i<(b:Int))/\Is a fun p:Addr=>(m.size=32/\(∀q∈m.toList,q.oneCell'=true)/\∀r,r<32->Wr j ((p.add (i.toNat*32)).add r))/\let t:=setCells j (p.add (i.toNat*32)) m.toList 0;(0<=d/\d<(b:Int))/\Is a fun u:Addr=>(o.size=32/\(∀v∈o.toList,v.oneCell'=true)/\∀x,x<32->Wr t ((u.add (d.toNat*32)).add x))/\let y:=setCells t (u.add (d.toNat*32)) o.toList 0;K (.tuple #[.int .i64 i,.bool false]) y
variable(a:OA)(b c:Nat)(d:Int)(e:OA)(f g i:Int)(K:KT)(w:World)
theorem aY.yz:(aY.q3 K (.exit 4) [(0,.slice a b c),(1,.int .i64 d),(4,.func (.func 73) #[.pointer e] #[]),(10,.int .i64 f),(11,.bool false),(12,.int .i64 g),(13,.int .i64 i)] w)=aY.sK a b c d e f g i K w:=by kernel_rfl
end
def bX.k:List Nat:= [5,6]
def bX.q1(K:KT):aP:=(aO 0 (aT f152) (bT prog f152 K))
def bX.e1(a:OA)(b c:Nat)(d e:Int)(f:OA)(s:Int):Env:= [(0,.slice a b c),(2,.int .i64 d),(3,.int .i64 e),(4,.func (.func 73) #[.pointer f] #[]),(10,.int .i64 s)]
def bX.u1:List Nat:= [0,2,3,4,10]
section
variable(a:OA)(b d:Nat)(e f g:Int)(i:OA)(K:KT)(w:World)
def bX.W:Prop:=
 Holds none [] prog 82 (.loop (lB (bB (sR (body f152))))) (bX.q1 K) [(0,.slice a b d),(2,.int .i64 f),(3,.int .i64 g),(4,.func (.func 73) #[.pointer i] #[]),(10,.int .i64 e)] w
variable{a b d e f g i K w}
theorem bX.of(h:bX.W a b d e f g i K w):bz prog 152 #[.slice a b d,.int .i64 e,.int .i64 f,.int .i64 g,.func (.func 73) #[.pointer i] #[]] w K:=
 rqq func152 (C:=bX.k) h
end
section
variable(a:OA)(b c:Nat)(d e:Int)(f:OA)(g:Int)(Q:aP)(w:World)
def bX.B1:Prop:=
 Split (decide ((i64.wrap ((i64.wrap ((2:Int)*g))+(1:Int)))>=d)) (Q (.exit 0) [(0,.slice a b c),(2,.int .i64 d),(3,.int .i64 e),(4,.func (.func 73) #[.pointer f] #[]),(10,.int .i64 g),(11,.int .i64 (i64.wrap ((i64.wrap ((2:Int)*g))+(1:Int))))] w) (let i:=w.drew;Split (decide ((i64.wrap ((i64.wrap ((i64.wrap ((2:Int)*g))+(1:Int)))+(1:Int)))<d)) ((0<=(i64.wrap (e+(i64.wrap ((i64.wrap ((2:Int)*g))+(1:Int)))))/\(i64.wrap (e+(i64.wrap ((i64.wrap ((2:Int)*g))+(1:Int)))))<(b:Int))/\Is a fun j:Addr=>∃k:AV,(k.size=32/\Cells i (j.add ((i64.wrap (e+(i64.wrap ((i64.wrap ((2:Int)*g))+(1:Int))))).toNat*32)) k)/\(0<=(i64.wrap ((i64.wrap (e+(i64.wrap ((i64.wrap ((2:Int)*g))+(1:Int)))))+(1:Int)))/\(i64.wrap ((i64.wrap (e+(i64.wrap ((i64.wrap ((2:Int)*g))+(1:Int)))))+(1:Int)))<(b:Int))/\Is a fun m:Addr=>∃n:AV,(n.size=32/\Cells i (m.add ((i64.wrap ((i64.wrap (e+(i64.wrap ((i64.wrap ((2:Int)*g))+(1:Int)))))+(1:Int))).toNat*32)) n)/\bz prog 73 #[.pointer f,.agg k,.agg n] i fun o p=>∃q:Int,o=.int .i64 q/\Split (decide (q<(0:Int))) (Holds none [] prog 82 (aQ (sR (bB (lB (bB (sR (body f152))))))) (aO 1 bX.u1 Q) [(0,.slice a b c),(2,.int .i64 d),(3,.int .i64 e),(4,.func (.func 73) #[.pointer f] #[]),(10,.int .i64 g),(11,.int .i64 (i64.wrap ((i64.wrap ((i64.wrap ((2:Int)*g))+(1:Int)))+(1:Int))))] p) (Holds none [] prog 82 (aQ (sR (bB (lB (bB (sR (body f152))))))) (aO 1 bX.u1 Q) [(0,.slice a b c),(2,.int .i64 d),(3,.int .i64 e),(4,.func (.func 73) #[.pointer f] #[]),(10,.int .i64 g),(11,.int .i64 (i64.wrap ((i64.wrap ((2:Int)*g))+(1:Int))))] p)) (Holds none [] prog 82 (aQ (sR (bB (lB (bB (sR (body f152))))))) (aO 1 bX.u1 Q) [(0,.slice a b c),(2,.int .i64 d),(3,.int .i64 e),(4,.func (.func 73) #[.pointer f] #[]),(10,.int .i64 g),(11,.int .i64 (i64.wrap ((i64.wrap ((2:Int)*g))+(1:Int))))] i))
theorem bX.b1:(aX none [] prog 82 bX.k (lB (bB (sR (body f152)))) bX.u1 Q [(0,.slice a b c),(2,.int .i64 d),(3,.int .i64 e),(4,.func (.func 73) #[.pointer f] #[]),(10,.int .i64 g)] w)=bX.B1 a b c d e f g Q w:=by kernel_rfl
variable{a b c d e f}
theorem bX.cy(I:Int->World->Prop)(μ:Int->World->Nat)(s:Int){Q:aP}{w:World}(h0:I s w)
 (round:∀s w,I s w->bX.B1 a b c d e f s (bR (bX.e1 a b c d e f) I μ s w Q) w):Holds none [] prog 82 (.loop (lB (bB (sR (body f152))))) Q (bX.e1 a b c d e f s) w:=
 bp ng mix (bX.e1 a b c d e f) I μ bX.k bX.u1 s (fun s Q w=>bX.B1 a b c d e f s Q w) (fun s Q w=>bX.b1 a b c d e f s Q w) h0 round
end
section
def bX.cV(a:OA)(b c:Nat)(d e:Int)(f:OA)(g i:Int)(K:KT)(w:World):Prop:=
 K (.tuple #[]) w
variable(a:OA)(b c:Nat)(d e:Int)(f:OA)(g i:Int)(K:KT)(w:World)
theorem bX.dq:(bX.q1 K (.exit 0) [(0,.slice a b c),(2,.int .i64 d),(3,.int .i64 e),(4,.func (.func 73) #[.pointer f] #[]),(10,.int .i64 g),(11,.int .i64 i)] w)=bX.cV a b c d e f g i K w:=by kernel_rfl
end
section
variable(a:OA)(b c:Nat)(d e:Int)(f:OA)(g i:Int)(Q:aP)(w:World)
def bX.J1:Prop:=
 let j:=w.drew;(0<=(i64.wrap (e+g))/\(i64.wrap (e+g))<(b:Int))/\Is a fun k:Addr=>∃m:AV,(m.size=32/\Cells j (k.add ((i64.wrap (e+g)).toNat*32)) m)/\(0<=(i64.wrap (e+i))/\(i64.wrap (e+i))<(b:Int))/\Is a fun n:Addr=>∃o:AV,(o.size=32/\Cells j (n.add ((i64.wrap (e+i)).toNat*32)) o)/\bz prog 73 #[.pointer f,.agg m,.agg o] j fun p q=>∃r:Int,p=.int .i64 r/\Split (!(decide (r<(0:Int)))) (Q .ret [(0,.slice a b c),(2,.int .i64 d),(3,.int .i64 e),(4,.func (.func 73) #[.pointer f] #[]),(10,.int .i64 g),(11,.int .i64 i)] q) (Holds none [] prog 82 (b9 (bB (lB (bB (sR (body f152)))))) (aO 1 bX.u1 Q) [(0,.slice a b c),(2,.int .i64 d),(3,.int .i64 e),(4,.func (.func 73) #[.pointer f] #[]),(10,.int .i64 g),(11,.int .i64 i)] q)
theorem bX.j1:(aX none [] prog 82 bX.k (aQ (sR (bB (lB (bB (sR (body f152))))))) bX.u1 (aO 1 bX.u1 Q) [(0,.slice a b c),(2,.int .i64 d),(3,.int .i64 e),(4,.func (.func 73) #[.pointer f] #[]),(10,.int .i64 g),(11,.int .i64 i)] w)=bX.J1 a b c d e f g i Q w:=by kernel_rfl
variable{a b c d e f g i Q w}
theorem bX.oX(h:bX.J1 a b c d e f g i Q w):Holds none [] prog 82 (aQ (sR (bB (lB (bB (sR (body f152))))))) (aO 1 bX.u1 Q) [(0,.slice a b c),(2,.int .i64 d),(3,.int .i64 e),(4,.func (.func 73) #[.pointer f] #[]),(10,.int .i64 g),(11,.int .i64 i)] w:=
 c9 (C:=bX.k) ng mix (bX.j1 a b c d e f g i Q w) h
end
section
variable(a:OA)(b c:Nat)(d e:Int)(f:OA)(g i:Int)(Q:aP)(w:World)
def bX.J2:Prop:=
 let j:=w.drew;(0<=(i64.wrap (e+i))/\(i64.wrap (e+i))<(b:Int))/\Is a fun k:Addr=>∃m:AV,(m.size=32/\Cells j (k.add ((i64.wrap (e+i)).toNat*32)) m)/\(0<=(i64.wrap (e+g))/\(i64.wrap (e+g))<(b:Int))/\Is a fun n:Addr=>∃o:AV,(o.size=32/\Cells j (n.add ((i64.wrap (e+g)).toNat*32)) o)/\(0<=(i64.wrap (e+g))/\(i64.wrap (e+g))<(b:Int))/\Is a fun p:Addr=>(m.size=32/\(∀q∈m.toList,q.oneCell'=true)/\∀r,r<32->Wr j ((p.add ((i64.wrap (e+g)).toNat*32)).add r))/\let t:=setCells j (p.add ((i64.wrap (e+g)).toNat*32)) m.toList 0;(0<=(i64.wrap (e+i))/\(i64.wrap (e+i))<(b:Int))/\Is a fun u:Addr=>(o.size=32/\(∀v∈o.toList,v.oneCell'=true)/\∀x,x<32->Wr t ((u.add ((i64.wrap (e+i)).toNat*32)).add x))/\let y:=setCells t (u.add ((i64.wrap (e+i)).toNat*32)) o.toList 0;Q .normal [(0,.slice a b c),(2,.int .i64 d),(3,.int .i64 e),(4,.func (.func 73) #[.pointer f] #[]),(10,.int .i64 i)] y
theorem bX.j2:(aX none [] prog 82 bX.k (b9 (bB (lB (bB (sR (body f152)))))) bX.u1 (aO 1 bX.u1 Q) [(0,.slice a b c),(2,.int .i64 d),(3,.int .i64 e),(4,.func (.func 73) #[.pointer f] #[]),(10,.int .i64 g),(11,.int .i64 i)] w)=bX.J2 a b c d e f g i Q w:=by kernel_rfl
variable{a b c d e f g i Q w}
theorem bX.q9(h:bX.J2 a b c d e f g i Q w):Holds none [] prog 82 (b9 (bB (lB (bB (sR (body f152)))))) (aO 1 bX.u1 Q) [(0,.slice a b c),(2,.int .i64 d),(3,.int .i64 e),(4,.func (.func 73) #[.pointer f] #[]),(10,.int .i64 g),(11,.int .i64 i)] w:=
 c9 (C:=bX.k) ng mix (bX.j2 a b c d e f g i Q w) h
end
section
variable(a:OA)(b d:Nat)(e:Int)(f g:OA)(K:KT)(w:World)
variable{a b d e f g K w}
end
def sY.k:List Nat:= []
section
variable(a:OA)(b d:Nat)(e f g:Int)(i j:OA)(K:KT)(w:World)
def sY.W:Prop:=
 bz prog 163 #[.slice a b d,.int .i64 e,.int .i64 f,.pointer i,.func (.func 73) #[.pointer j] #[]] w fun k m=>∃n o:Int,k=.tuple #[.int .i64 n,.int .i64 o]/\bz prog 163 #[.slice a b d,.int .i64 o,.int .i64 g,.pointer i,.func (.func 73) #[.pointer j] #[]] m fun p q=>∃r t:Int,p=.tuple #[.int .i64 r,.int .i64 t]/\bz prog 163 #[.slice a b d,.int .i64 n,.int .i64 r,.pointer i,.func (.func 73) #[.pointer j] #[]] q fun u v=>∃x y:Int,u=.tuple #[.int .i64 x,.int .i64 y]/\K (.int .i64 y) v
variable{a b d e f g i j K w}
theorem sY.of(h:sY.W a b d e f g i j K w):bz prog 156 #[.slice a b d,.int .i64 e,.int .i64 f,.int .i64 g,.pointer i,.func (.func 73) #[.pointer j] #[]] w K:=
 rqq func156 (C:=sY.k) h
end
def sX.k:List Nat:= []
section
def sX.W(a:OA)(b d:Nat)(e f:Int)(g i:OA)(K:KT)(w:World):Prop:=
 let j:=w.drew;(0<=f/\f<(b:Int))/\Is a fun k:Addr=>∃m:AV,(m.size=32/\Cells j (k.add (f.toNat*32)) m)/\(0<=e/\e<(b:Int))/\Is a fun n:Addr=>∃o:AV,(o.size=32/\Cells j (n.add (e.toNat*32)) o)/\bz prog 73 #[.pointer i,.agg m,.agg o] j fun p q=>∃r:Int,p=.int .i64 r/\Split (decide (r<(0:Int))) (Is g fun t:Addr=>∃u:Int,q.cell? t=some (.int .i64 u)/\Is g fun v:Addr=>Wr q v/\let x:=q.setCell v (.int .i64 (i64.wrap (u+(1:Int))));K (.tuple #[.int .i64 f,.int .i64 e]) x) (K (.tuple #[.int .i64 e,.int .i64 f]) q)
variable(a:OA)(b d:Nat)(e f:Int)(g i:OA)(K:KT)(w:World)
variable{a b d e f g i K w}
theorem sX.of(h:sX.W a b d e f g i K w):bz prog 163 #[.slice a b d,.int .i64 e,.int .i64 f,.pointer g,.func (.func 73) #[.pointer i] #[]] w K:=
 rqq func163 (C:=sX.k) h
end
end Go.Proofs.YtfleamccglihoaaGreatDoor
