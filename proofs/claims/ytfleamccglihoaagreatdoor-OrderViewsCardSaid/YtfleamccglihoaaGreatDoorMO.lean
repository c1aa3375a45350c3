import Derived.Test.YtfleamccglihoaaGreatDoorProg
import Derived.Test.YtfleamccglihoaaGreatDoorMA
import Derived.Test.YtfleamccglihoaaGreatDoorMB
open Go.IntKind (i64 u64)
set_option linter.unusedVariables false
namespace Go.Proofs.YtfleamccglihoaaGreatDoor
open Go.Proofs.Tryz
open Go Go.bT
def qm.k:List Nat:= []
section
variable(a:OA)(b d:Nat)(e:OA)(K:KT)(w:World)
def qm.W:Prop:=
 bu prog 98 #[.int .u64 (u64.wrap (b:Int))] w fun f g=>∃i:Int,f=.int .i64 i/\bu prog 97 #[.slice a b d,.int .i64 0,.int .i64 (b:Int),.int .i64 i,.func (.func 73) #[.pointer e] #[]] g fun j k=>j=.tuple #[]/\K (.tuple #[]) k
variable{a b d e K w}
theorem qm.of(h:qm.W a b d e K w):bu prog 53 #[.slice a b d,.func (.func 73) #[.pointer e] #[]] w K:=
 rqq func53 (C:=qm.k) h
end
def aC.k:List Nat:= [10,11,13,14,15,17,20,21,22,23,24,26,27,29,30]
def aC.q1(K:KT):aO:=(aN 0 (aT f97) (bR prog f97 K))
def aC.e1(a:OA)(b c:Nat)(d:OA)(s:Int×Int×Int×Bool×Bool):Env:= [(0,.slice a b c),(1,.int .i64 s.1),(2,.int .i64 s.2.1),(3,.int .i64 s.2.2.1),(4,.func (.func 73) #[.pointer d] #[]),(10,.bool s.2.2.2.1),(11,.bool s.2.2.2.2)]
def aC.u1:List Nat:= [0,1,2,3,4,10,11]
section
variable(a:OA)(b d:Nat)(e f g:Int)(i:OA)(K:KT)(w:World)
def aC.W:Prop:=
 Holds none [] prog 148 (.loop (lB (bB (sR (sR (body f97)))))) (aC.q1 K) [(0,.slice a b d),(1,.int .i64 e),(2,.int .i64 f),(3,.int .i64 g),(4,.func (.func 73) #[.pointer i] #[]),(10,.bool true),(11,.bool true)] w
variable{a b d e f g i K w}
theorem aC.of(h:aC.W a b d e f g i K w):bu prog 97 #[.slice a b d,.int .i64 e,.int .i64 f,.int .i64 g,.func (.func 73) #[.pointer i] #[]] w K:=
 rqq func97 (C:=aC.k) h
end
section
variable(a:OA)(b c:Nat)(d e f:Int)(g:OA)(i j:Bool)(Q:aO)(w:World)
def aC.B1:Prop:=
 Split (decide ((i64.wrap (e-d))<=(12:Int))) (bu prog 127 #[.slice a b c,.int .i64 d,.int .i64 e,.func (.func 73) #[.pointer g] #[]] w fun k m=>k=.tuple #[]/\Q .ret [(0,.slice a b c),(1,.int .i64 d),(2,.int .i64 e),(3,.int .i64 f),(4,.func (.func 73) #[.pointer g] #[]),(10,.bool i),(11,.bool j),(12,.int .i64 (i64.wrap (e-d)))] m) (Split (f==(0:Int)) (bu prog 128 #[.slice a b c,.int .i64 d,.int .i64 e,.func (.func 73) #[.pointer g] #[]] w fun n o=>n=.tuple #[]/\Q .ret [(0,.slice a b c),(1,.int .i64 d),(2,.int .i64 e),(3,.int .i64 f),(4,.func (.func 73) #[.pointer g] #[]),(10,.bool i),(11,.bool j),(12,.int .i64 (i64.wrap (e-d)))] o) (Split (!i) (bu prog 129 #[.slice a b c,.int .i64 d,.int .i64 e,.func (.func 73) #[.pointer g] #[]] w fun p q=>p=.tuple #[]/\Holds none [] prog 148 (sR (sR (sR (sR (bB (lB (bB (sR (sR (body f97)))))))))) (aN 1 aC.u1 Q) [(0,.slice a b c),(1,.int .i64 d),(2,.int .i64 e),(3,.int .i64 (i64.wrap (f-(1:Int)))),(4,.func (.func 73) #[.pointer g] #[]),(10,.bool i),(11,.bool j),(12,.int .i64 (i64.wrap (e-d)))] q) (Holds none [] prog 148 (sR (sR (sR (sR (bB (lB (bB (sR (sR (body f97)))))))))) (aN 1 aC.u1 Q) [(0,.slice a b c),(1,.int .i64 d),(2,.int .i64 e),(3,.int .i64 f),(4,.func (.func 73) #[.pointer g] #[]),(10,.bool i),(11,.bool j),(12,.int .i64 (i64.wrap (e-d)))] w)))
theorem aC.b1:(aY none [] prog 148 aC.k (lB (bB (sR (sR (body f97))))) aC.u1 Q [(0,.slice a b c),(1,.int .i64 d),(2,.int .i64 e),(3,.int .i64 f),(4,.func (.func 73) #[.pointer g] #[]),(10,.bool i),(11,.bool j)] w)=aC.B1 a b c d e f g i j Q w:=by kernel_rfl
variable{a b c g}
theorem aC.cy(I:Int×Int×Int×Bool×Bool->World->Prop)(μ:Int×Int×Int×Bool×Bool->World->Nat)(s:Int×Int×Int×Bool×Bool){Q:aO}{w:World}(h0:I s w)
 (round:∀s w,I s w->aC.B1 a b c (s.1) (s.2.1) (s.2.2.1) g (s.2.2.2.1) (s.2.2.2.2) (bQ (aC.e1 a b c g) I μ s w Q) w):Holds none [] prog 148 (.loop (lB (bB (sR (sR (body f97)))))) Q (aC.e1 a b c g s) w:=
 bp ng mix (aC.e1 a b c g) I μ aC.k aC.u1 s (fun s Q w=>aC.B1 a b c (s.1) (s.2.1) (s.2.2.1) g (s.2.2.2.1) (s.2.2.2.2) Q w) (fun s Q w=>aC.b1 a b c (s.1) (s.2.1) (s.2.2.1) g (s.2.2.2.1) (s.2.2.2.2) Q w) h0 round
end
section
variable(a:OA)(b c:Nat)(d e f:Int)(g:OA)(i j:Bool)(k:Int)(Q:aO)(w:World)
def aC.J1:Prop:=
 bu prog 130 #[.slice a b c,.int .i64 d,.int .i64 e,.func (.func 73) #[.pointer g] #[]] w fun m n=>∃o p:Int,m=.tuple #[.int .i64 o,.int .i64 p]/\Holds none [] prog 148 (sR (sR (sR (sR (sR (bB (lB (bB (sR (sR (body f97))))))))))) (aN 1 aC.u1 Q) [(0,.slice a b c),(1,.int .i64 d),(2,.int .i64 e),(3,.int .i64 f),(4,.func (.func 73) #[.pointer g] #[]),(10,.bool i),(11,.bool j),(12,.int .i64 k),(13,.int .i64 o),(14,.int .i64 p)] n
theorem aC.j1:(aY none [] prog 148 aC.k (sR (sR (sR (sR (bB (lB (bB (sR (sR (body f97)))))))))) aC.u1 (aN 1 aC.u1 Q) [(0,.slice a b c),(1,.int .i64 d),(2,.int .i64 e),(3,.int .i64 f),(4,.func (.func 73) #[.pointer g] #[]),(10,.bool i),(11,.bool j),(12,.int .i64 k)] w)=aC.J1 a b c d e f g i j k Q w:=by kernel_rfl
variable{a b c d e f g i j k Q w}
theorem aC.oP(h:aC.J1 a b c d e f g i j k Q w):Holds none [] prog 148 (sR (sR (sR (sR (bB (lB (bB (sR (sR (body f97)))))))))) (aN 1 aC.u1 Q) [(0,.slice a b c),(1,.int .i64 d),(2,.int .i64 e),(3,.int .i64 f),(4,.func (.func 73) #[.pointer g] #[]),(10,.bool i),(11,.bool j),(12,.int .i64 k)] w:=
 cY (C:=aC.k) ng mix (aC.j1 a b c d e f g i j k Q w) h
end
section
variable(a:OA)(b c:Nat)(d e f:Int)(g:OA)(i j:Bool)(k m n:Int)(Q:aO)(w:World)
def aC.J2:Prop:=
 Split (n==(2:Int)) (bu prog 131 #[.slice a b c,.int .i64 d,.int .i64 e,.func (.func 73) #[.pointer g] #[]] w fun o p=>o=.tuple #[]/\Holds none [] prog 148 (sR (cT (sR (sL (sR (sR (sR (sR (sR (bB (lB (bB (sR (sR (body f97))))))))))))))) (b7 (fun cg w_=>match cutAt aC.k (sR (sR (sR (sR (sR (sR (bB (lB (bB (sR (sR (body f97))))))))))))with|true=>Holds none [] prog 148 (sR (sR (sR (sR (sR (sR (bB (lB (bB (sR (sR (body f97)))))))))))) (aN 1 aC.u1 Q) cg w_|false=>aY none [] prog 148 aC.k (sR (sR (sR (sR (sR (sR (bB (lB (bB (sR (sR (body f97)))))))))))) aC.u1 (aN 1 aC.u1 Q) cg w_) (aN 1 aC.u1 Q)) [(0,.slice a b c),(1,.int .i64 d),(2,.int .i64 e),(3,.int .i64 f),(4,.func (.func 73) #[.pointer g] #[]),(10,.bool i),(11,.bool j),(12,.int .i64 k),(13,.int .i64 m),(14,.int .i64 n)] p) (Holds none [] prog 148 (sR (sR (sR (sR (sR (sR (bB (lB (bB (sR (sR (body f97)))))))))))) (aN 1 aC.u1 Q) [(0,.slice a b c),(1,.int .i64 d),(2,.int .i64 e),(3,.int .i64 f),(4,.func (.func 73) #[.pointer g] #[]),(10,.bool i),(11,.bool j),(12,.int .i64 k),(13,.int .i64 m),(14,.int .i64 n)] w)
theorem aC.j2:(aY none [] prog 148 aC.k (sR (sR (sR (sR (sR (bB (lB (bB (sR (sR (body f97))))))))))) aC.u1 (aN 1 aC.u1 Q) [(0,.slice a b c),(1,.int .i64 d),(2,.int .i64 e),(3,.int .i64 f),(4,.func (.func 73) #[.pointer g] #[]),(10,.bool i),(11,.bool j),(12,.int .i64 k),(13,.int .i64 m),(14,.int .i64 n)] w)=aC.J2 a b c d e f g i j k m n Q w:=by kernel_rfl
variable{a b c d e f g i j k m n Q w}
theorem aC.qT(h:aC.J2 a b c d e f g i j k m n Q w):Holds none [] prog 148 (sR (sR (sR (sR (sR (bB (lB (bB (sR (sR (body f97))))))))))) (aN 1 aC.u1 Q) [(0,.slice a b c),(1,.int .i64 d),(2,.int .i64 e),(3,.int .i64 f),(4,.func (.func 73) #[.pointer g] #[]),(10,.bool i),(11,.bool j),(12,.int .i64 k),(13,.int .i64 m),(14,.int .i64 n)] w:=
 cY (C:=aC.k) ng mix (aC.j2 a b c d e f g i j k m n Q w) h
end
section
variable(a:OA)(b c:Nat)(d e f:Int)(g:OA)(i j:Bool)(k m n:Int)(Q:aO)(w:World)
def aC.J3:Prop:=
 Holds none [] prog 148 (sR (sR (cT (sR (sL (sR (sR (sR (sR (sR (bB (lB (bB (sR (sR (body f97)))))))))))))))) (b7 (fun cg w_=>match cutAt aC.k (sR (sR (sR (sR (sR (sR (bB (lB (bB (sR (sR (body f97))))))))))))with|true=>Holds none [] prog 148 (sR (sR (sR (sR (sR (sR (bB (lB (bB (sR (sR (body f97)))))))))))) (aN 1 aC.u1 Q) cg w_|false=>aY none [] prog 148 aC.k (sR (sR (sR (sR (sR (sR (bB (lB (bB (sR (sR (body f97)))))))))))) aC.u1 (aN 1 aC.u1 Q) cg w_) (aN 1 aC.u1 Q)) [(0,.slice a b c),(1,.int .i64 d),(2,.int .i64 e),(3,.int .i64 f),(4,.func (.func 73) #[.pointer g] #[]),(10,.bool i),(11,.bool j),(12,.int .i64 k),(13,.int .i64 (i64.wrap ((i64.wrap (e-(1:Int)))-(i64.wrap (m-d))))),(14,.int .i64 n)] w
theorem aC.j3:(aY none [] prog 148 aC.k (sR (cT (sR (sL (sR (sR (sR (sR (sR (bB (lB (bB (sR (sR (body f97))))))))))))))) (cF (sR (sR (sR (sR (sR (sR (bB (lB (bB (sR (sR (body f97))))))))))))++aC.u1) (b7 (fun cg w_=>match cutAt aC.k (sR (sR (sR (sR (sR (sR (bB (lB (bB (sR (sR (body f97))))))))))))with|true=>Holds none [] prog 148 (sR (sR (sR (sR (sR (sR (bB (lB (bB (sR (sR (body f97)))))))))))) (aN 1 aC.u1 Q) cg w_|false=>aY none [] prog 148 aC.k (sR (sR (sR (sR (sR (sR (bB (lB (bB (sR (sR (body f97)))))))))))) aC.u1 (aN 1 aC.u1 Q) cg w_) (aN 1 aC.u1 Q)) [(0,.slice a b c),(1,.int .i64 d),(2,.int .i64 e),(3,.int .i64 f),(4,.func (.func 73) #[.pointer g] #[]),(10,.bool i),(11,.bool j),(12,.int .i64 k),(13,.int .i64 m),(14,.int .i64 n)] w)=aC.J3 a b c d e f g i j k m n Q w:=by kernel_rfl
variable{a b c d e f g i j k m n Q w}
theorem aC.TU(h:aC.J3 a b c d e f g i j k m n Q w):Holds none [] prog 148 (sR (cT (sR (sL (sR (sR (sR (sR (sR (bB (lB (bB (sR (sR (body f97))))))))))))))) (b7 (fun cg w_=>match cutAt aC.k (sR (sR (sR (sR (sR (sR (bB (lB (bB (sR (sR (body f97))))))))))))with|true=>Holds none [] prog 148 (sR (sR (sR (sR (sR (sR (bB (lB (bB (sR (sR (body f97)))))))))))) (aN 1 aC.u1 Q) cg w_|false=>aY none [] prog 148 aC.k (sR (sR (sR (sR (sR (sR (bB (lB (bB (sR (sR (body f97)))))))))))) aC.u1 (aN 1 aC.u1 Q) cg w_) (aN 1 aC.u1 Q)) [(0,.slice a b c),(1,.int .i64 d),(2,.int .i64 e),(3,.int .i64 f),(4,.func (.func 73) #[.pointer g] #[]),(10,.bool i),(11,.bool j),(12,.int .i64 k),(13,.int .i64 m),(14,.int .i64 n)] w:=
 cY (C:=aC.k) ng mix (aC.j3 a b c d e f g i j k m n Q w) h
end
section
variable(a:OA)(b c:Nat)(d e f:Int)(g:OA)(i j:Bool)(k m n:Int)(Q:aO)(w:World)
def aC.J4:Prop:=
 Split i (Split j (Split (n==(1:Int)) (bu prog 132 #[.slice a b c,.int .i64 d,.int .i64 e,.func (.func 73) #[.pointer g] #[]] w fun o p=>∃q:Bool,o=.bool q/\Split q (Q .ret [(0,.slice a b c),(1,.int .i64 d),(2,.int .i64 e),(3,.int .i64 f),(4,.func (.func 73) #[.pointer g] #[]),(10,.bool i),(11,.bool j),(12,.int .i64 k),(13,.int .i64 m)] p) (Holds none [] prog 148 (sR (sR (sR (sR (sR (sR (sR (bB (lB (bB (sR (sR (body f97))))))))))))) (aN 1 aC.u1 Q) [(0,.slice a b c),(1,.int .i64 d),(2,.int .i64 e),(3,.int .i64 f),(4,.func (.func 73) #[.pointer g] #[]),(10,.bool i),(11,.bool j),(12,.int .i64 k),(13,.int .i64 m)] p)) (Holds none [] prog 148 (sR (sR (sR (sR (sR (sR (sR (bB (lB (bB (sR (sR (body f97))))))))))))) (aN 1 aC.u1 Q) [(0,.slice a b c),(1,.int .i64 d),(2,.int .i64 e),(3,.int .i64 f),(4,.func (.func 73) #[.pointer g] #[]),(10,.bool i),(11,.bool j),(12,.int .i64 k),(13,.int .i64 m)] w)) (Holds none [] prog 148 (sR (sR (sR (sR (sR (sR (sR (bB (lB (bB (sR (sR (body f97))))))))))))) (aN 1 aC.u1 Q) [(0,.slice a b c),(1,.int .i64 d),(2,.int .i64 e),(3,.int .i64 f),(4,.func (.func 73) #[.pointer g] #[]),(10,.bool i),(11,.bool j),(12,.int .i64 k),(13,.int .i64 m)] w)) (Holds none [] prog 148 (sR (sR (sR (sR (sR (sR (sR (bB (lB (bB (sR (sR (body f97))))))))))))) (aN 1 aC.u1 Q) [(0,.slice a b c),(1,.int .i64 d),(2,.int .i64 e),(3,.int .i64 f),(4,.func (.func 73) #[.pointer g] #[]),(10,.bool i),(11,.bool j),(12,.int .i64 k),(13,.int .i64 m)] w)
theorem aC.j4:(aY none [] prog 148 aC.k (sR (sR (sR (sR (sR (sR (bB (lB (bB (sR (sR (body f97)))))))))))) aC.u1 (aN 1 aC.u1 Q) [(0,.slice a b c),(1,.int .i64 d),(2,.int .i64 e),(3,.int .i64 f),(4,.func (.func 73) #[.pointer g] #[]),(10,.bool i),(11,.bool j),(12,.int .i64 k),(13,.int .i64 m),(14,.int .i64 n)] w)=aC.J4 a b c d e f g i j k m n Q w:=by kernel_rfl
variable{a b c d e f g i j k m n Q w}
theorem aC.M0(h:aC.J4 a b c d e f g i j k m n Q w):Holds none [] prog 148 (sR (sR (sR (sR (sR (sR (bB (lB (bB (sR (sR (body f97)))))))))))) (aN 1 aC.u1 Q) [(0,.slice a b c),(1,.int .i64 d),(2,.int .i64 e),(3,.int .i64 f),(4,.func (.func 73) #[.pointer g] #[]),(10,.bool i),(11,.bool j),(12,.int .i64 k),(13,.int .i64 m),(14,.int .i64 n)] w:=
 cY (C:=aC.k) ng mix (aC.j4 a b c d e f g i j k m n Q w) h
end
section
def aC.J5(a:OA)(b c:Nat)(d e f:Int)(g:OA)(i j:Bool)(k m n:Int)(Q:aO)(w:World):Prop:=
 Holds none [] prog 148 (sR (sR (sR (sR (sR (sR (bB (lB (bB (sR (sR (body f97)))))))))))) (aN 1 aC.u1 Q) [(0,.slice a b c),(1,.int .i64 d),(2,.int .i64 e),(3,.int .i64 f),(4,.func (.func 73) #[.pointer g] #[]),(10,.bool i),(11,.bool j),(12,.int .i64 k),(13,.int .i64 m),(14,.int .i64 1)] w
variable(a:OA)(b c:Nat)(d e f:Int)(g:OA)(i j:Bool)(k m n:Int)(Q:aO)(w:World)
theorem aC.j5:(aY none [] prog 148 aC.k (sR (sR (cT (sR (sL (sR (sR (sR (sR (sR (bB (lB (bB (sR (sR (body f97)))))))))))))))) (cF (sR (sR (sR (sR (sR (sR (bB (lB (bB (sR (sR (body f97))))))))))))++aC.u1) (b7 (fun cg w_=>match cutAt aC.k (sR (sR (sR (sR (sR (sR (bB (lB (bB (sR (sR (body f97))))))))))))with|true=>Holds none [] prog 148 (sR (sR (sR (sR (sR (sR (bB (lB (bB (sR (sR (body f97)))))))))))) (aN 1 aC.u1 Q) cg w_|false=>aY none [] prog 148 aC.k (sR (sR (sR (sR (sR (sR (bB (lB (bB (sR (sR (body f97)))))))))))) aC.u1 (aN 1 aC.u1 Q) cg w_) (aN 1 aC.u1 Q)) [(0,.slice a b c),(1,.int .i64 d),(2,.int .i64 e),(3,.int .i64 f),(4,.func (.func 73) #[.pointer g] #[]),(10,.bool i),(11,.bool j),(12,.int .i64 k),(13,.int .i64 m),(14,.int .i64 n)] w)=aC.J5 a b c d e f g i j k m n Q w:=by kernel_rfl
variable{a b c d e f g i j k m n Q w}
theorem aC.TT(h:aC.J5 a b c d e f g i j k m n Q w):Holds none [] prog 148 (sR (sR (cT (sR (sL (sR (sR (sR (sR (sR (bB (lB (bB (sR (sR (body f97)))))))))))))))) (b7 (fun cg w_=>match cutAt aC.k (sR (sR (sR (sR (sR (sR (bB (lB (bB (sR (sR (body f97))))))))))))with|true=>Holds none [] prog 148 (sR (sR (sR (sR (sR (sR (bB (lB (bB (sR (sR (body f97)))))))))))) (aN 1 aC.u1 Q) cg w_|false=>aY none [] prog 148 aC.k (sR (sR (sR (sR (sR (sR (bB (lB (bB (sR (sR (body f97)))))))))))) aC.u1 (aN 1 aC.u1 Q) cg w_) (aN 1 aC.u1 Q)) [(0,.slice a b c),(1,.int .i64 d),(2,.int .i64 e),(3,.int .i64 f),(4,.func (.func 73) #[.pointer g] #[]),(10,.bool i),(11,.bool j),(12,.int .i64 k),(13,.int .i64 m),(14,.int .i64 n)] w:=
 cY (C:=aC.k) ng mix (aC.j5 a b c d e f g i j k m n Q w) h
end
section
variable(a:OA)(b c:Nat)(d e f:Int)(g:OA)(i j:Bool)(k m:Int)(Q:aO)(w:World)
def aC.J6:Prop:=
 let n:=w.drew;Split (decide (d>(0:Int))) ((0<=(i64.wrap (d-(1:Int)))/\(i64.wrap (d-(1:Int)))<(b:Int))/\Is a fun o:Addr=>∃p:AV,(p.size=32/\Cells n (o.add ((i64.wrap (d-(1:Int))).toNat*32)) p)/\(0<=m/\m<(b:Int))/\Is a fun q:Addr=>∃r:AV,(r.size=32/\Cells n (q.add (m.toNat*32)) r)/\bu prog 73 #[.pointer g,.agg p,.agg r] n fun t u=>∃v:Int,t=.int .i64 v/\Split (!(decide (v<(0:Int)))) (bu prog 133 #[.slice a b c,.int .i64 d,.int .i64 e,.int .i64 m,.func (.func 73) #[.pointer g] #[]] u fun x y=>∃z:Int,x=.int .i64 z/\Q .normal [(0,.slice a b c),(1,.int .i64 z),(2,.int .i64 e),(3,.int .i64 f),(4,.func (.func 73) #[.pointer g] #[]),(10,.bool i),(11,.bool j)] y) (Holds none [] prog 148 (sR (sR (sR (sR (sR (sR (sR (sR (bB (lB (bB (sR (sR (body f97)))))))))))))) (aN 1 aC.u1 Q) [(0,.slice a b c),(1,.int .i64 d),(2,.int .i64 e),(3,.int .i64 f),(4,.func (.func 73) #[.pointer g] #[]),(10,.bool i),(11,.bool j),(12,.int .i64 k),(13,.int .i64 m)] u)) (Holds none [] prog 148 (sR (sR (sR (sR (sR (sR (sR (sR (bB (lB (bB (sR (sR (body f97)))))))))))))) (aN 1 aC.u1 Q) [(0,.slice a b c),(1,.int .i64 d),(2,.int .i64 e),(3,.int .i64 f),(4,.func (.func 73) #[.pointer g] #[]),(10,.bool i),(11,.bool j),(12,.int .i64 k),(13,.int .i64 m)] n)
theorem aC.j6:(aY none [] prog 148 aC.k (sR (sR (sR (sR (sR (sR (sR (bB (lB (bB (sR (sR (body f97))))))))))))) aC.u1 (aN 1 aC.u1 Q) [(0,.slice a b c),(1,.int .i64 d),(2,.int .i64 e),(3,.int .i64 f),(4,.func (.func 73) #[.pointer g] #[]),(10,.bool i),(11,.bool j),(12,.int .i64 k),(13,.int .i64 m)] w)=aC.J6 a b c d e f g i j k m Q w:=by kernel_rfl
variable{a b c d e f g i j k m Q w}
theorem aC.MZ(h:aC.J6 a b c d e f g i j k m Q w):Holds none [] prog 148 (sR (sR (sR (sR (sR (sR (sR (bB (lB (bB (sR (sR (body f97))))))))))))) (aN 1 aC.u1 Q) [(0,.slice a b c),(1,.int .i64 d),(2,.int .i64 e),(3,.int .i64 f),(4,.func (.func 73) #[.pointer g] #[]),(10,.bool i),(11,.bool j),(12,.int .i64 k),(13,.int .i64 m)] w:=
 cY (C:=aC.k) ng mix (aC.j6 a b c d e f g i j k m Q w) h
end
section
variable(a:OA)(b c:Nat)(d e f:Int)(g:OA)(i j:Bool)(k m:Int)(Q:aO)(w:World)
def aC.J7:Prop:=
 bu prog 134 #[.slice a b c,.int .i64 d,.int .i64 e,.int .i64 m,.func (.func 73) #[.pointer g] #[]] w fun n o=>∃p:Int,∃q:Bool,n=.tuple #[.int .i64 p,.bool q]/\Holds none [] prog 148 (sR (sR (sR (sR (sR (sR (sR (sR (sR (bB (lB (bB (sR (sR (body f97))))))))))))))) (aN 1 aC.u1 Q) [(0,.slice a b c),(1,.int .i64 d),(2,.int .i64 e),(3,.int .i64 f),(4,.func (.func 73) #[.pointer g] #[]),(10,.bool i),(11,.bool j),(12,.int .i64 k),(16,.int .i64 p),(17,.bool q)] o
theorem aC.j7:(aY none [] prog 148 aC.k (sR (sR (sR (sR (sR (sR (sR (sR (bB (lB (bB (sR (sR (body f97)))))))))))))) aC.u1 (aN 1 aC.u1 Q) [(0,.slice a b c),(1,.int .i64 d),(2,.int .i64 e),(3,.int .i64 f),(4,.func (.func 73) #[.pointer g] #[]),(10,.bool i),(11,.bool j),(12,.int .i64 k),(13,.int .i64 m)] w)=aC.J7 a b c d e f g i j k m Q w:=by kernel_rfl
variable{a b c d e f g i j k m Q w}
theorem aC.MY(h:aC.J7 a b c d e f g i j k m Q w):Holds none [] prog 148 (sR (sR (sR (sR (sR (sR (sR (sR (bB (lB (bB (sR (sR (body f97)))))))))))))) (aN 1 aC.u1 Q) [(0,.slice a b c),(1,.int .i64 d),(2,.int .i64 e),(3,.int .i64 f),(4,.func (.func 73) #[.pointer g] #[]),(10,.bool i),(11,.bool j),(12,.int .i64 k),(13,.int .i64 m)] w:=
 cY (C:=aC.k) ng mix (aC.j7 a b c d e f g i j k m Q w) h
end
section
def aC.J8(a:OA)(b c:Nat)(d e f:Int)(g:OA)(i j:Bool)(k m:Int)(n:Bool)(Q:aO)(w:World):Prop:=
 Holds none [] prog 148 (sR (sR (sR (sR (sR (sR (sR (sR (sR (sR (bB (lB (bB (sR (sR (body f97)))))))))))))))) (aN 1 aC.u1 Q) [(0,.slice a b c),(1,.int .i64 d),(2,.int .i64 e),(3,.int .i64 f),(4,.func (.func 73) #[.pointer g] #[]),(10,.bool i),(11,.bool n),(12,.int .i64 k),(16,.int .i64 m)] w
variable(a:OA)(b c:Nat)(d e f:Int)(g:OA)(i j:Bool)(k m:Int)(n:Bool)(Q:aO)(w:World)
theorem aC.j8:(aY none [] prog 148 aC.k (sR (sR (sR (sR (sR (sR (sR (sR (sR (bB (lB (bB (sR (sR (body f97))))))))))))))) aC.u1 (aN 1 aC.u1 Q) [(0,.slice a b c),(1,.int .i64 d),(2,.int .i64 e),(3,.int .i64 f),(4,.func (.func 73) #[.pointer g] #[]),(10,.bool i),(11,.bool j),(12,.int .i64 k),(16,.int .i64 m),(17,.bool n)] w)=aC.J8 a b c d e f g i j k m n Q w:=by kernel_rfl
variable{a b c d e f g i j k m n Q w}
theorem aC.TS(h:aC.J8 a b c d e f g i j k m n Q w):Holds none [] prog 148 (sR (sR (sR (sR (sR (sR (sR (sR (sR (bB (lB (bB (sR (sR (body f97))))))))))))))) (aN 1 aC.u1 Q) [(0,.slice a b c),(1,.int .i64 d),(2,.int .i64 e),(3,.int .i64 f),(4,.func (.func 73) #[.pointer g] #[]),(10,.bool i),(11,.bool j),(12,.int .i64 k),(16,.int .i64 m),(17,.bool n)] w:=
 cY (C:=aC.k) ng mix (aC.j8 a b c d e f g i j k m n Q w) h
end
section
variable(a:OA)(b c:Nat)(d e f:Int)(g:OA)(i j:Bool)(k m:Int)(Q:aO)(w:World)
def aC.J9:Prop:=
 Holds none [] prog 148 (sR (sR (sR (sR (sR (sR (sR (sR (sR (sR (sR (bB (lB (bB (sR (sR (body f97))))))))))))))))) (aN 1 aC.u1 Q) [(0,.slice a b c),(1,.int .i64 d),(2,.int .i64 e),(3,.int .i64 f),(4,.func (.func 73) #[.pointer g] #[]),(10,.bool i),(11,.bool j),(12,.int .i64 k),(16,.int .i64 m),(18,.int .i64 (i64.wrap (m-d))),(19,.int .i64 (i64.wrap (e-m)))] w
theorem aC.j9:(aY none [] prog 148 aC.k (sR (sR (sR (sR (sR (sR (sR (sR (sR (sR (bB (lB (bB (sR (sR (body f97)))))))))))))))) aC.u1 (aN 1 aC.u1 Q) [(0,.slice a b c),(1,.int .i64 d),(2,.int .i64 e),(3,.int .i64 f),(4,.func (.func 73) #[.pointer g] #[]),(10,.bool i),(11,.bool j),(12,.int .i64 k),(16,.int .i64 m)] w)=aC.J9 a b c d e f g i j k m Q w:=by kernel_rfl
variable{a b c d e f g i j k m Q w}
theorem aC.TR(h:aC.J9 a b c d e f g i j k m Q w):Holds none [] prog 148 (sR (sR (sR (sR (sR (sR (sR (sR (sR (sR (bB (lB (bB (sR (sR (body f97)))))))))))))))) (aN 1 aC.u1 Q) [(0,.slice a b c),(1,.int .i64 d),(2,.int .i64 e),(3,.int .i64 f),(4,.func (.func 73) #[.pointer g] #[]),(10,.bool i),(11,.bool j),(12,.int .i64 k),(16,.int .i64 m)] w:=
 cY (C:=aC.k) ng mix (aC.j9 a b c d e f g i j k m Q w) h
end
section
variable(a:OA)(b c:Nat)(d e f:Int)(g:OA)(i j:Bool)(k m n o:Int)(Q:aO)(w:World)
def aC.J10:Prop:=
 (8:Int)≠0/\Holds none [] prog 148 (sR (sR (sR (sR (sR (sR (sR (sR (sR (sR (sR (sR (bB (lB (bB (sR (sR (body f97)))))))))))))))))) (aN 1 aC.u1 Q) [(0,.slice a b c),(1,.int .i64 d),(2,.int .i64 e),(3,.int .i64 f),(4,.func (.func 73) #[.pointer g] #[]),(10,.bool i),(11,.bool j),(16,.int .i64 m),(18,.int .i64 n),(19,.int .i64 o),(20,.int .i64 (i64.wrap (k.tdiv (8:Int))))] w
theorem aC.j10:(aY none [] prog 148 aC.k (sR (sR (sR (sR (sR (sR (sR (sR (sR (sR (sR (bB (lB (bB (sR (sR (body f97))))))))))))))))) aC.u1 (aN 1 aC.u1 Q) [(0,.slice a b c),(1,.int .i64 d),(2,.int .i64 e),(3,.int .i64 f),(4,.func (.func 73) #[.pointer g] #[]),(10,.bool i),(11,.bool j),(12,.int .i64 k),(16,.int .i64 m),(18,.int .i64 n),(19,.int .i64 o)] w)=aC.J10 a b c d e f g i j k m n o Q w:=by kernel_rfl
variable{a b c d e f g i j k m n o Q w}
theorem aC.Px(h:aC.J10 a b c d e f g i j k m n o Q w):Holds none [] prog 148 (sR (sR (sR (sR (sR (sR (sR (sR (sR (sR (sR (bB (lB (bB (sR (sR (body f97))))))))))))))))) (aN 1 aC.u1 Q) [(0,.slice a b c),(1,.int .i64 d),(2,.int .i64 e),(3,.int .i64 f),(4,.func (.func 73) #[.pointer g] #[]),(10,.bool i),(11,.bool j),(12,.int .i64 k),(16,.int .i64 m),(18,.int .i64 n),(19,.int .i64 o)] w:=
 cY (C:=aC.k) ng mix (aC.j10 a b c d e f g i j k m n o Q w) h
end
section
def aC.J11(a:OA)(b c:Nat)(d e f:Int)(g:OA)(i j:Bool)(k m n o:Int)(Q:aO)(w:World):Prop:=
 Split (decide (m<n)) (Holds none [] prog 148 (sR (cT (sR (sR (sR (sR (sR (sR (sR (sR (sR (sR (sR (sR (sR (bB (lB (bB (sR (sR (body f97))))))))))))))))))))) (aN 1 aC.u1 Q) [(0,.slice a b c),(1,.int .i64 d),(2,.int .i64 e),(3,.int .i64 f),(4,.func (.func 73) #[.pointer g] #[]),(10,.bool (decide (m>=o))),(11,.bool j),(16,.int .i64 k)] w) (Holds none [] prog 148 (sR (cE (sR (sR (sR (sR (sR (sR (sR (sR (sR (sR (sR (sR (sR (bB (lB (bB (sR (sR (body f97))))))))))))))))))))) (aN 1 aC.u1 Q) [(0,.slice a b c),(1,.int .i64 d),(2,.int .i64 e),(3,.int .i64 f),(4,.func (.func 73) #[.pointer g] #[]),(10,.bool (decide (n>=o))),(11,.bool j),(16,.int .i64 k)] w)
variable(a:OA)(b c:Nat)(d e f:Int)(g:OA)(i j:Bool)(k m n o:Int)(Q:aO)(w:World)
theorem aC.j11:(aY none [] prog 148 aC.k (sR (sR (sR (sR (sR (sR (sR (sR (sR (sR (sR (sR (bB (lB (bB (sR (sR (body f97)))))))))))))))))) aC.u1 (aN 1 aC.u1 Q) [(0,.slice a b c),(1,.int .i64 d),(2,.int .i64 e),(3,.int .i64 f),(4,.func (.func 73) #[.pointer g] #[]),(10,.bool i),(11,.bool j),(16,.int .i64 k),(18,.int .i64 m),(19,.int .i64 n),(20,.int .i64 o)] w)=aC.J11 a b c d e f g i j k m n o Q w:=by kernel_rfl
variable{a b c d e f g i j k m n o Q w}
theorem aC.Pw(h:aC.J11 a b c d e f g i j k m n o Q w):Holds none [] prog 148 (sR (sR (sR (sR (sR (sR (sR (sR (sR (sR (sR (sR (bB (lB (bB (sR (sR (body f97)))))))))))))))))) (aN 1 aC.u1 Q) [(0,.slice a b c),(1,.int .i64 d),(2,.int .i64 e),(3,.int .i64 f),(4,.func (.func 73) #[.pointer g] #[]),(10,.bool i),(11,.bool j),(16,.int .i64 k),(18,.int .i64 m),(19,.int .i64 n),(20,.int .i64 o)] w:=
 cY (C:=aC.k) ng mix (aC.j11 a b c d e f g i j k m n o Q w) h
end
section
variable(a:OA)(b c:Nat)(d e f:Int)(g:OA)(i j:Bool)(k:Int)(Q:aO)(w:World)
def aC.J12:Prop:=
 bu prog 97 #[.slice a b c,.int .i64 d,.int .i64 k,.int .i64 f,.func (.func 73) #[.pointer g] #[]] w fun m n=>m=.tuple #[]/\Holds none [] prog 148 (sR (sR (cT (sR (sR (sR (sR (sR (sR (sR (sR (sR (sR (sR (sR (sR (bB (lB (bB (sR (sR (body f97)))))))))))))))))))))) (aN 1 aC.u1 Q) [(0,.slice a b c),(1,.int .i64 d),(2,.int .i64 e),(3,.int .i64 f),(4,.func (.func 73) #[.pointer g] #[]),(10,.bool i),(11,.bool j),(16,.int .i64 k)] n
theorem aC.j12:(aY none [] prog 148 aC.k (sR (cT (sR (sR (sR (sR (sR (sR (sR (sR (sR (sR (sR (sR (sR (bB (lB (bB (sR (sR (body f97))))))))))))))))))))) aC.u1 (aN 1 aC.u1 Q) [(0,.slice a b c),(1,.int .i64 d),(2,.int .i64 e),(3,.int .i64 f),(4,.func (.func 73) #[.pointer g] #[]),(10,.bool i),(11,.bool j),(16,.int .i64 k)] w)=aC.J12 a b c d e f g i j k Q w:=by kernel_rfl
variable{a b c d e f g i j k Q w}
theorem aC.Pv(h:aC.J12 a b c d e f g i j k Q w):Holds none [] prog 148 (sR (cT (sR (sR (sR (sR (sR (sR (sR (sR (sR (sR (sR (sR (sR (bB (lB (bB (sR (sR (body f97))))))))))))))))))))) (aN 1 aC.u1 Q) [(0,.slice a b c),(1,.int .i64 d),(2,.int .i64 e),(3,.int .i64 f),(4,.func (.func 73) #[.pointer g] #[]),(10,.bool i),(11,.bool j),(16,.int .i64 k)] w:=
 cY (C:=aC.k) ng mix (aC.j12 a b c d e f g i j k Q w) h
end
section
variable(a:OA)(b c:Nat)(d e f:Int)(g:OA)(i j:Bool)(k:Int)(Q:aO)(w:World)
def aC.J13:Prop:=
 bu prog 97 #[.slice a b c,.int .i64 (i64.wrap (k+(1:Int))),.int .i64 e,.int .i64 f,.func (.func 73) #[.pointer g] #[]] w fun m n=>m=.tuple #[]/\Holds none [] prog 148 (sR (sR (cE (sR (sR (sR (sR (sR (sR (sR (sR (sR (sR (sR (sR (sR (bB (lB (bB (sR (sR (body f97)))))))))))))))))))))) (aN 1 aC.u1 Q) [(0,.slice a b c),(1,.int .i64 d),(2,.int .i64 e),(3,.int .i64 f),(4,.func (.func 73) #[.pointer g] #[]),(10,.bool i),(11,.bool j),(16,.int .i64 k)] n
theorem aC.j13:(aY none [] prog 148 aC.k (sR (cE (sR (sR (sR (sR (sR (sR (sR (sR (sR (sR (sR (sR (sR (bB (lB (bB (sR (sR (body f97))))))))))))))))))))) aC.u1 (aN 1 aC.u1 Q) [(0,.slice a b c),(1,.int .i64 d),(2,.int .i64 e),(3,.int .i64 f),(4,.func (.func 73) #[.pointer g] #[]),(10,.bool i),(11,.bool j),(16,.int .i64 k)] w)=aC.J13 a b c d e f g i j k Q w:=by kernel_rfl
variable{a b c d e f g i j k Q w}
theorem aC.Pu(h:aC.J13 a b c d e f g i j k Q w):Holds none [] prog 148 (sR (cE (sR (sR (sR (sR (sR (sR (sR (sR (sR (sR (sR (sR (sR (bB (lB (bB (sR (sR (body f97))))))))))))))))))))) (aN 1 aC.u1 Q) [(0,.slice a b c),(1,.int .i64 d),(2,.int .i64 e),(3,.int .i64 f),(4,.func (.func 73) #[.pointer g] #[]),(10,.bool i),(11,.bool j),(16,.int .i64 k)] w:=
 cY (C:=aC.k) ng mix (aC.j13 a b c d e f g i j k Q w) h
end
section
def aC.J14(a:OA)(b c:Nat)(d e f:Int)(g:OA)(i j:Bool)(k:Int)(Q:aO)(w:World):Prop:=
 Q .normal [(0,.slice a b c),(1,.int .i64 (i64.wrap (k+(1:Int)))),(2,.int .i64 e),(3,.int .i64 f),(4,.func (.func 73) #[.pointer g] #[]),(10,.bool i),(11,.bool j)] w
variable(a:OA)(b c:Nat)(d e f:Int)(g:OA)(i j:Bool)(k:Int)(Q:aO)(w:World)
theorem aC.j14:(aY none [] prog 148 aC.k (sR (sR (cT (sR (sR (sR (sR (sR (sR (sR (sR (sR (sR (sR (sR (sR (bB (lB (bB (sR (sR (body f97)))))))))))))))))))))) aC.u1 (aN 1 aC.u1 Q) [(0,.slice a b c),(1,.int .i64 d),(2,.int .i64 e),(3,.int .i64 f),(4,.func (.func 73) #[.pointer g] #[]),(10,.bool i),(11,.bool j),(16,.int .i64 k)] w)=aC.J14 a b c d e f g i j k Q w:=by kernel_rfl
variable{a b c d e f g i j k Q w}
theorem aC.Pt(h:aC.J14 a b c d e f g i j k Q w):Holds none [] prog 148 (sR (sR (cT (sR (sR (sR (sR (sR (sR (sR (sR (sR (sR (sR (sR (sR (bB (lB (bB (sR (sR (body f97)))))))))))))))))))))) (aN 1 aC.u1 Q) [(0,.slice a b c),(1,.int .i64 d),(2,.int .i64 e),(3,.int .i64 f),(4,.func (.func 73) #[.pointer g] #[]),(10,.bool i),(11,.bool j),(16,.int .i64 k)] w:=
 cY (C:=aC.k) ng mix (aC.j14 a b c d e f g i j k Q w) h
end
section
def aC.J15(a:OA)(b c:Nat)(d e f:Int)(g:OA)(i j:Bool)(k:Int)(Q:aO)(w:World):Prop:=
 Q .normal [(0,.slice a b c),(1,.int .i64 d),(2,.int .i64 k),(3,.int .i64 f),(4,.func (.func 73) #[.pointer g] #[]),(10,.bool i),(11,.bool j)] w
variable(a:OA)(b c:Nat)(d e f:Int)(g:OA)(i j:Bool)(k:Int)(Q:aO)(w:World)
theorem aC.j15:(aY none [] prog 148 aC.k (sR (sR (cE (sR (sR (sR (sR (sR (sR (sR (sR (sR (sR (sR (sR (sR (bB (lB (bB (sR (sR (body f97)))))))))))))))))))))) aC.u1 (aN 1 aC.u1 Q) [(0,.slice a b c),(1,.int .i64 d),(2,.int .i64 e),(3,.int .i64 f),(4,.func (.func 73) #[.pointer g] #[]),(10,.bool i),(11,.bool j),(16,.int .i64 k)] w)=aC.J15 a b c d e f g i j k Q w:=by kernel_rfl
variable{a b c d e f g i j k Q w}
theorem aC.Ps(h:aC.J15 a b c d e f g i j k Q w):Holds none [] prog 148 (sR (sR (cE (sR (sR (sR (sR (sR (sR (sR (sR (sR (sR (sR (sR (sR (bB (lB (bB (sR (sR (body f97)))))))))))))))))))))) (aN 1 aC.u1 Q) [(0,.slice a b c),(1,.int .i64 d),(2,.int .i64 e),(3,.int .i64 f),(4,.func (.func 73) #[.pointer g] #[]),(10,.bool i),(11,.bool j),(16,.int .i64 k)] w:=
 cY (C:=aC.k) ng mix (aC.j15 a b c d e f g i j k Q w) h
end
def cG.k:List Nat:= []
def cG.q1(K:KT):aO:=(aN 0 (aT f127) (bR prog f127 K))
def cG.e1(a:OA)(b c:Nat)(d e:Int)(f:OA)(s:Int):Env:= [(0,.slice a b c),(1,.int .i64 d),(2,.int .i64 e),(3,.func (.func 73) #[.pointer f] #[]),(8,.int .i64 s)]
def cG.u1:List Nat:= [0,1,2,3,8]
def cG.q2(Q:aO):aO:=(aN 2 (cF (sR (sR (lB (bB (sR (body f127))))))++cG.u1) (aN 1 (cF (sR (sR (lB (bB (sR (body f127))))))++cG.u1) (b7 (fun cg w_=>match cutAt cG.k (sR (sR (lB (bB (sR (body f127))))))with|true=>Holds none [] prog 53 (sR (sR (lB (bB (sR (body f127)))))) Q cg w_|false=>aY none [] prog 53 cG.k (sR (sR (lB (bB (sR (body f127)))))) cG.u1 Q cg w_) Q)))
def cG.e2(a:OA)(b c:Nat)(d e:Int)(f:OA)(g s:Int):Env:= [(0,.slice a b c),(1,.int .i64 d),(2,.int .i64 e),(3,.func (.func 73) #[.pointer f] #[]),(8,.int .i64 g),(9,.int .i64 s)]
def cG.u2:List Nat:= [0,1,2,3,8,9]
section
variable(a:OA)(b d:Nat)(e f:Int)(g:OA)(K:KT)(w:World)
def cG.W:Prop:=
 Holds none [] prog 53 (.loop (lB (bB (sR (body f127))))) (cG.q1 K) [(0,.slice a b d),(1,.int .i64 e),(2,.int .i64 f),(3,.func (.func 73) #[.pointer g] #[]),(8,.int .i64 (i64.wrap (e+(1:Int))))] w
variable{a b d e f g K w}
theorem cG.of(h:cG.W a b d e f g K w):bu prog 127 #[.slice a b d,.int .i64 e,.int .i64 f,.func (.func 73) #[.pointer g] #[]] w K:=
 rqq func127 (C:=cG.k) h
end
section
variable(a:OA)(b c:Nat)(d e:Int)(f:OA)(g:Int)(Q:aO)(w:World)
def cG.B1:Prop:=
 Split (decide (g<e)) (Holds none [] prog 53 (.loop (lB (bB (sR (bB (sL (sR (lB (bB (sR (body f127))))))))))) (cG.q2 Q) [(0,.slice a b c),(1,.int .i64 d),(2,.int .i64 e),(3,.func (.func 73) #[.pointer f] #[]),(8,.int .i64 g),(9,.int .i64 g)] w) (Q (.exit 0) [(0,.slice a b c),(1,.int .i64 d),(2,.int .i64 e),(3,.func (.func 73) #[.pointer f] #[]),(8,.int .i64 g)] w)
theorem cG.b1:(aY none [] prog 53 cG.k (lB (bB (sR (body f127)))) cG.u1 Q [(0,.slice a b c),(1,.int .i64 d),(2,.int .i64 e),(3,.func (.func 73) #[.pointer f] #[]),(8,.int .i64 g)] w)=cG.B1 a b c d e f g Q w:=by kernel_rfl
variable{a b c d e f}
theorem cG.cy(I:Int->World->Prop)(μ:Int->World->Nat)(s:Int){Q:aO}{w:World}(h0:I s w)
 (round:∀s w,I s w->cG.B1 a b c d e f s (bQ (cG.e1 a b c d e f) I μ s w Q) w):Holds none [] prog 53 (.loop (lB (bB (sR (body f127))))) Q (cG.e1 a b c d e f s) w:=
 bp ng mix (cG.e1 a b c d e f) I μ cG.k cG.u1 s (fun s Q w=>cG.B1 a b c d e f s Q w) (fun s Q w=>cG.b1 a b c d e f s Q w) h0 round
end
section
def cG.cV(a:OA)(b c:Nat)(d e:Int)(f:OA)(g:Int)(K:KT)(w:World):Prop:=
 K (.tuple #[]) w
variable(a:OA)(b c:Nat)(d e:Int)(f:OA)(g:Int)(K:KT)(w:World)
theorem cG.df:(cG.q1 K (.exit 0) [(0,.slice a b c),(1,.int .i64 d),(2,.int .i64 e),(3,.func (.func 73) #[.pointer f] #[]),(8,.int .i64 g)] w)=cG.cV a b c d e f g K w:=by kernel_rfl
end
section
variable(a:OA)(b c:Nat)(d e:Int)(f:OA)(g i:Int)(Q:aO)(w:World)
def cG.B2:Prop:=
 let j:=w.drew;Split (decide (i>d)) ((0<=i/\i<(b:Int))/\Is a fun k:Addr=>∃m:AV,(m.size=32/\Cells j (k.add (i.toNat*32)) m)/\(0<=(i64.wrap (i-(1:Int)))/\(i64.wrap (i-(1:Int)))<(b:Int))/\Is a fun n:Addr=>∃o:AV,(o.size=32/\Cells j (n.add ((i64.wrap (i-(1:Int))).toNat*32)) o)/\bu prog 73 #[.pointer f,.agg m,.agg o] j fun p q=>∃r:Int,p=.int .i64 r/\Split (decide (r<(0:Int))) (let t:=q.drew;(0<=(i64.wrap (i-(1:Int)))/\(i64.wrap (i-(1:Int)))<(b:Int))/\Is a fun u:Addr=>∃v:AV,(v.size=32/\Cells t (u.add ((i64.wrap (i-(1:Int))).toNat*32)) v)/\(0<=i/\i<(b:Int))/\Is a fun x:Addr=>∃y:AV,(y.size=32/\Cells t (x.add (i.toNat*32)) y)/\(0<=i/\i<(b:Int))/\Is a fun z:Addr=>(v.size=32/\(∀a1∈v.toList,a1.oneCell'=true)/\∀b1,b1<32->Wr t ((z.add (i.toNat*32)).add b1))/\let c1:=setCells t (z.add (i.toNat*32)) v.toList 0;(0<=(i64.wrap (i-(1:Int)))/\(i64.wrap (i-(1:Int)))<(b:Int))/\Is a fun d1:Addr=>(y.size=32/\(∀e1∈y.toList,e1.oneCell'=true)/\∀f1,f1<32->Wr c1 ((d1.add ((i64.wrap (i-(1:Int))).toNat*32)).add f1))/\let g1:=setCells c1 (d1.add ((i64.wrap (i-(1:Int))).toNat*32)) y.toList 0;Q .normal [(0,.slice a b c),(1,.int .i64 d),(2,.int .i64 e),(3,.func (.func 73) #[.pointer f] #[]),(8,.int .i64 g),(9,.int .i64 (i64.wrap (i-(1:Int))))] g1) (Q (.exit 2) [(0,.slice a b c),(1,.int .i64 d),(2,.int .i64 e),(3,.func (.func 73) #[.pointer f] #[]),(8,.int .i64 g),(9,.int .i64 i)] q)) (Q (.exit 2) [(0,.slice a b c),(1,.int .i64 d),(2,.int .i64 e),(3,.func (.func 73) #[.pointer f] #[]),(8,.int .i64 g),(9,.int .i64 i)] j)
theorem cG.b2:(aY none [] prog 53 cG.k (lB (bB (sR (bB (sL (sR (lB (bB (sR (body f127)))))))))) cG.u2 Q [(0,.slice a b c),(1,.int .i64 d),(2,.int .i64 e),(3,.func (.func 73) #[.pointer f] #[]),(8,.int .i64 g),(9,.int .i64 i)] w)=cG.B2 a b c d e f g i Q w:=by kernel_rfl
variable{a b c d e f g}
theorem cG.iq(I:Int->World->Prop)(μ:Int->World->Nat)(s:Int){Q:aO}{w:World}(h0:I s w)
 (round:∀s w,I s w->cG.B2 a b c d e f g s (bQ (cG.e2 a b c d e f g) I μ s w Q) w):Holds none [] prog 53 (.loop (lB (bB (sR (bB (sL (sR (lB (bB (sR (body f127))))))))))) Q (cG.e2 a b c d e f g s) w:=
 bp ng mix (cG.e2 a b c d e f g) I μ cG.k cG.u2 s (fun s Q w=>cG.B2 a b c d e f g s Q w) (fun s Q w=>cG.b2 a b c d e f g s Q w) h0 round
end
section
def cG.iZ(a:OA)(b c:Nat)(d e:Int)(f:OA)(g i:Int)(Q:aO)(w:World):Prop:=
 Q .normal [(0,.slice a b c),(1,.int .i64 d),(2,.int .i64 e),(3,.func (.func 73) #[.pointer f] #[]),(8,.int .i64 (i64.wrap (g+(1:Int))))] w
variable(a:OA)(b c:Nat)(d e:Int)(f:OA)(g i:Int)(Q:aO)(w:World)
theorem cG.kL:(cG.q2 Q (.exit 2) [(0,.slice a b c),(1,.int .i64 d),(2,.int .i64 e),(3,.func (.func 73) #[.pointer f] #[]),(8,.int .i64 g),(9,.int .i64 i)] w)=cG.iZ a b c d e f g i Q w:=by kernel_rfl
end
def b9.k:List Nat:= []
def b9.q1(K:KT):aO:=(aN 0 (cF (sR (sR (sR (sR (body f128)))))++(aT f128)) (b7 (fun cg w_=>match cutAt b9.k (sR (sR (sR (sR (body f128)))))with|true=>Holds none [] prog 60 (sR (sR (sR (sR (body f128))))) (bR prog f128 K) cg w_|false=>aY none [] prog 60 b9.k (sR (sR (sR (sR (body f128))))) (aT f128) (bR prog f128 K) cg w_) (bR prog f128 K)))
def b9.e1(a:OA)(b c:Nat)(d:OA)(e f g s:Int):Env:= [(0,.slice a b c),(3,.func (.func 73) #[.pointer d] #[]),(8,.int .i64 e),(9,.int .i64 f),(10,.int .i64 g),(11,.int .i64 s)]
def b9.u1:List Nat:= [0,3,8,9,10,11]
def b9.q2(K:KT):aO:=(aN 2 (aT f128) (bR prog f128 K))
def b9.e2(a:OA)(b c:Nat)(d:OA)(e f s:Int):Env:= [(0,.slice a b c),(3,.func (.func 73) #[.pointer d] #[]),(8,.int .i64 e),(9,.int .i64 f),(12,.int .i64 s)]
def b9.u2:List Nat:= [0,3,8,9,12]
section
variable(a:OA)(b d:Nat)(e f:Int)(g:OA)(K:KT)(w:World)
def b9.W:Prop:=
 (2:Int)≠0/\Holds none [] prog 60 (.loop (lB (bB (sR (sL (sR (sR (sR (body f128))))))))) (b9.q1 K) [(0,.slice a b d),(3,.func (.func 73) #[.pointer g] #[]),(8,.int .i64 e),(9,.int .i64 0),(10,.int .i64 (i64.wrap (f-e))),(11,.int .i64 (i64.wrap ((i64.wrap ((i64.wrap (f-e))-(1:Int))).tdiv (2:Int))))] w
variable{a b d e f g K w}
theorem b9.of(h:b9.W a b d e f g K w):bu prog 128 #[.slice a b d,.int .i64 e,.int .i64 f,.func (.func 73) #[.pointer g] #[]] w K:=
 rqq func128 (C:=b9.k) h
end
section
variable(a:OA)(b c:Nat)(d:OA)(e f g i:Int)(Q:aO)(w:World)
def b9.B1:Prop:=
 Split (decide (i>=(0:Int))) (bu prog 152 #[.slice a b c,.int .i64 i,.int .i64 g,.int .i64 e,.func (.func 73) #[.pointer d] #[]] w fun j k=>j=.tuple #[]/\Q .normal [(0,.slice a b c),(3,.func (.func 73) #[.pointer d] #[]),(8,.int .i64 e),(9,.int .i64 f),(10,.int .i64 g),(11,.int .i64 (i64.wrap (i-(1:Int))))] k) (Q (.exit 0) [(0,.slice a b c),(3,.func (.func 73) #[.pointer d] #[]),(8,.int .i64 e),(9,.int .i64 f),(10,.int .i64 g),(11,.int .i64 i)] w)
theorem b9.b1:(aY none [] prog 60 b9.k (lB (bB (sR (sL (sR (sR (sR (body f128)))))))) b9.u1 Q [(0,.slice a b c),(3,.func (.func 73) #[.pointer d] #[]),(8,.int .i64 e),(9,.int .i64 f),(10,.int .i64 g),(11,.int .i64 i)] w)=b9.B1 a b c d e f g i Q w:=by kernel_rfl
variable{a b c d e f g}
theorem b9.cy(I:Int->World->Prop)(μ:Int->World->Nat)(s:Int){Q:aO}{w:World}(h0:I s w)
 (round:∀s w,I s w->b9.B1 a b c d e f g s (bQ (b9.e1 a b c d e f g) I μ s w Q) w):Holds none [] prog 60 (.loop (lB (bB (sR (sL (sR (sR (sR (body f128))))))))) Q (b9.e1 a b c d e f g s) w:=
 bp ng mix (b9.e1 a b c d e f g) I μ b9.k b9.u1 s (fun s Q w=>b9.B1 a b c d e f g s Q w) (fun s Q w=>b9.b1 a b c d e f g s Q w) h0 round
end
section
def b9.cV(a:OA)(b c:Nat)(d:OA)(e f g i:Int)(K:KT)(w:World):Prop:=
 Holds none [] prog 60 (.loop (lB (bB (sR (sR (sR (sR (sR (body f128))))))))) (b9.q2 K) [(0,.slice a b c),(3,.func (.func 73) #[.pointer d] #[]),(8,.int .i64 e),(9,.int .i64 f),(12,.int .i64 (i64.wrap (g-(1:Int))))] w
variable(a:OA)(b c:Nat)(d:OA)(e f g i:Int)(K:KT)(w:World)
theorem b9.df:(b9.q1 K (.exit 0) [(0,.slice a b c),(3,.func (.func 73) #[.pointer d] #[]),(8,.int .i64 e),(9,.int .i64 f),(10,.int .i64 g),(11,.int .i64 i)] w)=b9.cV a b c d e f g i K w:=by kernel_rfl
end
section
variable(a:OA)(b c:Nat)(d:OA)(e f g:Int)(Q:aO)(w:World)
def b9.B2:Prop:=
 Split (decide (g>=(0:Int))) (let i:=w.drew;(0<=(i64.wrap (e+g))/\(i64.wrap (e+g))<(b:Int))/\Is a fun j:Addr=>∃k:AV,(k.size=32/\Cells i (j.add ((i64.wrap (e+g)).toNat*32)) k)/\(0<=e/\e<(b:Int))/\Is a fun m:Addr=>∃n:AV,(n.size=32/\Cells i (m.add (e.toNat*32)) n)/\(0<=e/\e<(b:Int))/\Is a fun o:Addr=>(k.size=32/\(∀p∈k.toList,p.oneCell'=true)/\∀q,q<32->Wr i ((o.add (e.toNat*32)).add q))/\let r:=setCells i (o.add (e.toNat*32)) k.toList 0;(0<=(i64.wrap (e+g))/\(i64.wrap (e+g))<(b:Int))/\Is a fun t:Addr=>(n.size=32/\(∀u∈n.toList,u.oneCell'=true)/\∀v,v<32->Wr r ((t.add ((i64.wrap (e+g)).toNat*32)).add v))/\let x:=setCells r (t.add ((i64.wrap (e+g)).toNat*32)) n.toList 0;bu prog 152 #[.slice a b c,.int .i64 f,.int .i64 g,.int .i64 e,.func (.func 73) #[.pointer d] #[]] x fun y z=>y=.tuple #[]/\Q .normal [(0,.slice a b c),(3,.func (.func 73) #[.pointer d] #[]),(8,.int .i64 e),(9,.int .i64 f),(12,.int .i64 (i64.wrap (g-(1:Int))))] z) (Q (.exit 2) [(0,.slice a b c),(3,.func (.func 73) #[.pointer d] #[]),(8,.int .i64 e),(9,.int .i64 f),(12,.int .i64 g)] w)
theorem b9.b2:(aY none [] prog 60 b9.k (lB (bB (sR (sR (sR (sR (sR (body f128)))))))) b9.u2 Q [(0,.slice a b c),(3,.func (.func 73) #[.pointer d] #[]),(8,.int .i64 e),(9,.int .i64 f),(12,.int .i64 g)] w)=b9.B2 a b c d e f g Q w:=by kernel_rfl
variable{a b c d e f}
theorem b9.iq(I:Int->World->Prop)(μ:Int->World->Nat)(s:Int){Q:aO}{w:World}(h0:I s w)
 (round:∀s w,I s w->b9.B2 a b c d e f s (bQ (b9.e2 a b c d e f) I μ s w Q) w):Holds none [] prog 60 (.loop (lB (bB (sR (sR (sR (sR (sR (body f128))))))))) Q (b9.e2 a b c d e f s) w:=
 bp ng mix (b9.e2 a b c d e f) I μ b9.k b9.u2 s (fun s Q w=>b9.B2 a b c d e f s Q w) (fun s Q w=>b9.b2 a b c d e f s Q w) h0 round
end
section
def b9.iZ(a:OA)(b c:Nat)(d:OA)(e f g:Int)(K:KT)(w:World):Prop:=
 K (.tuple #[]) w
variable(a:OA)(b c:Nat)(d:OA)(e f g:Int)(K:KT)(w:World)
theorem b9.kL:(b9.q2 K (.exit 2) [(0,.slice a b c),(3,.func (.func 73) #[.pointer d] #[]),(8,.int .i64 e),(9,.int .i64 f),(12,.int .i64 g)] w)=b9.iZ a b c d e f g K w:=by kernel_rfl
end
def eU.k:List Nat:= []
def eU.q1(K:KT):aO:=(aN 0 (aT Tryz.f129) (bR prog Tryz.f129 K))
def eU.e1(a:OA)(b c:Nat)(d e:Int)(f:Addr)(g s:Int):Env:= [(0,.slice a b c),(1,.int .i64 d),(8,.int .i64 e),(9,.pointer (some f)),(10,.int .u64 g),(11,.int .i64 s)]
def eU.u1:List Nat:= [0,1,8,9,10,11]
section
def eU.W(a:OA)(b d:Nat)(e f:Int)(g:OA)(K:KT)(w:World):Prop:=
 Split (decide ((i64.wrap (f-e))>=(8:Int))) (let i:=w.alloc (.cells (#[.int .u64 0]:AV) 204);Wr i (⟨w.heap.size,0,none⟩:Addr)/\let j:=i.setCell (⟨w.heap.size,0,none⟩:Addr) (.int .u64 (u64.wrap (i64.wrap (f-e))));bu prog 153 #[.int .i64 (i64.wrap (f-e))] j fun k m=>∃n:Int,k=.int .u64 n/\(4:Int)≠0/\Holds none [] prog 67 (.loop (lB (bB (sR (sR (sR (cT (sR (sR (body Tryz.f129)))))))))) (eU.q1 K) [(0,.slice a b d),(1,.int .i64 e),(8,.int .i64 (i64.wrap (f-e))),(9,.pointer (some (⟨w.heap.size,0,none⟩:Addr))),(10,.int .u64 n),(11,.int .i64 (i64.wrap ((i64.wrap (e+(i64.wrap ((i64.wrap ((i64.wrap (f-e)).tdiv (4:Int)))*(2:Int)))))-(1:Int))))] m) (K (.tuple #[]) w)
variable(a:OA)(b d:Nat)(e f:Int)(g:OA)(K:KT)(w:World)
variable{a b d e f g K w}
theorem eU.of(h:eU.W a b d e f g K w):bu prog 129 #[.slice a b d,.int .i64 e,.int .i64 f,.func (.func 73) #[.pointer g] #[]] w K:=
 rqq func129 (C:=eU.k) h
end
section
variable(a:OA)(b c:Nat)(d e:Int)(f:Addr)(g i:Int)(Q:aO)(w:World)
def eU.B1:Prop:=
 (4:Int)≠0/\Split (decide (i<=(i64.wrap ((i64.wrap (d+(i64.wrap ((i64.wrap (e.tdiv (4:Int)))*(2:Int)))))+(1:Int))))) (bu prog 154 #[.pointer (some f)] w fun j k=>∃m:Int,j=.int .u64 m/\Split (decide ((i64.wrap (u64.wrap ((BitVec.ofInt 64 m&&& BitVec.ofInt 64 (u64.wrap (g-(1:Int)))).toNat)))>=e)) (let n:=k.drew;(0<=(i64.wrap (d+(i64.wrap ((i64.wrap (u64.wrap ((BitVec.ofInt 64 m&&& BitVec.ofInt 64 (u64.wrap (g-(1:Int)))).toNat)))-e))))/\(i64.wrap (d+(i64.wrap ((i64.wrap (u64.wrap ((BitVec.ofInt 64 m&&& BitVec.ofInt 64 (u64.wrap (g-(1:Int)))).toNat)))-e))))<(b:Int))/\Is a fun o:Addr=>∃p:AV,(p.size=32/\Cells n (o.add ((i64.wrap (d+(i64.wrap ((i64.wrap (u64.wrap ((BitVec.ofInt 64 m&&& BitVec.ofInt 64 (u64.wrap (g-(1:Int)))).toNat)))-e)))).toNat*32)) p)/\(0<=i/\i<(b:Int))/\Is a fun q:Addr=>∃r:AV,(r.size=32/\Cells n (q.add (i.toNat*32)) r)/\(0<=i/\i<(b:Int))/\Is a fun t:Addr=>(p.size=32/\(∀u∈p.toList,u.oneCell'=true)/\∀v,v<32->Wr n ((t.add (i.toNat*32)).add v))/\let x:=setCells n (t.add (i.toNat*32)) p.toList 0;(0<=(i64.wrap (d+(i64.wrap ((i64.wrap (u64.wrap ((BitVec.ofInt 64 m&&& BitVec.ofInt 64 (u64.wrap (g-(1:Int)))).toNat)))-e))))/\(i64.wrap (d+(i64.wrap ((i64.wrap (u64.wrap ((BitVec.ofInt 64 m&&& BitVec.ofInt 64 (u64.wrap (g-(1:Int)))).toNat)))-e))))<(b:Int))/\Is a fun y:Addr=>(r.size=32/\(∀z∈r.toList,z.oneCell'=true)/\∀a1,a1<32->Wr x ((y.add ((i64.wrap (d+(i64.wrap ((i64.wrap (u64.wrap ((BitVec.ofInt 64 m&&& BitVec.ofInt 64 (u64.wrap (g-(1:Int)))).toNat)))-e)))).toNat*32)).add a1))/\let b1:=setCells x (y.add ((i64.wrap (d+(i64.wrap ((i64.wrap (u64.wrap ((BitVec.ofInt 64 m&&& BitVec.ofInt 64 (u64.wrap (g-(1:Int)))).toNat)))-e)))).toNat*32)) r.toList 0;Q .normal [(0,.slice a b c),(1,.int .i64 d),(8,.int .i64 e),(9,.pointer (some f)),(10,.int .u64 g),(11,.int .i64 (i64.wrap (i+(1:Int))))] b1) (let c1:=k.drew;(0<=(i64.wrap (d+(i64.wrap (u64.wrap ((BitVec.ofInt 64 m&&& BitVec.ofInt 64 (u64.wrap (g-(1:Int)))).toNat)))))/\(i64.wrap (d+(i64.wrap (u64.wrap ((BitVec.ofInt 64 m&&& BitVec.ofInt 64 (u64.wrap (g-(1:Int)))).toNat)))))<(b:Int))/\Is a fun d1:Addr=>∃e1:AV,(e1.size=32/\Cells c1 (d1.add ((i64.wrap (d+(i64.wrap (u64.wrap ((BitVec.ofInt 64 m&&& BitVec.ofInt 64 (u64.wrap (g-(1:Int)))).toNat))))).toNat*32)) e1)/\(0<=i/\i<(b:Int))/\Is a fun f1:Addr=>∃g1:AV,(g1.size=32/\Cells c1 (f1.add (i.toNat*32)) g1)/\(0<=i/\i<(b:Int))/\Is a fun i1:Addr=>(e1.size=32/\(∀j1∈e1.toList,j1.oneCell'=true)/\∀k1,k1<32->Wr c1 ((i1.add (i.toNat*32)).add k1))/\let m1:=setCells c1 (i1.add (i.toNat*32)) e1.toList 0;(0<=(i64.wrap (d+(i64.wrap (u64.wrap ((BitVec.ofInt 64 m&&& BitVec.ofInt 64 (u64.wrap (g-(1:Int)))).toNat)))))/\(i64.wrap (d+(i64.wrap (u64.wrap ((BitVec.ofInt 64 m&&& BitVec.ofInt 64 (u64.wrap (g-(1:Int)))).toNat)))))<(b:Int))/\Is a fun n1:Addr=>(g1.size=32/\(∀o1∈g1.toList,o1.oneCell'=true)/\∀p1,p1<32->Wr m1 ((n1.add ((i64.wrap (d+(i64.wrap (u64.wrap ((BitVec.ofInt 64 m&&& BitVec.ofInt 64 (u64.wrap (g-(1:Int)))).toNat))))).toNat*32)).add p1))/\let q1:=setCells m1 (n1.add ((i64.wrap (d+(i64.wrap (u64.wrap ((BitVec.ofInt 64 m&&& BitVec.ofInt 64 (u64.wrap (g-(1:Int)))).toNat))))).toNat*32)) g1.toList 0;Q .normal [(0,.slice a b c),(1,.int .i64 d),(8,.int .i64 e),(9,.pointer (some f)),(10,.int .u64 g),(11,.int .i64 (i64.wrap (i+(1:Int))))] q1)) (Q (.exit 0) [(0,.slice a b c),(1,.int .i64 d),(8,.int .i64 e),(9,.pointer (some f)),(10,.int .u64 g),(11,.int .i64 i)] w)
theorem eU.b1:(aY none [] prog 67 eU.k (lB (bB (sR (sR (sR (cT (sR (sR (body Tryz.f129))))))))) eU.u1 Q [(0,.slice a b c),(1,.int .i64 d),(8,.int .i64 e),(9,.pointer (some f)),(10,.int .u64 g),(11,.int .i64 i)] w)=eU.B1 a b c d e f g i Q w:=by kernel_rfl
variable{a b c d e f g}
theorem eU.cy(I:Int->World->Prop)(μ:Int->World->Nat)(s:Int){Q:aO}{w:World}(h0:I s w)
 (round:∀s w,I s w->eU.B1 a b c d e f g s (bQ (eU.e1 a b c d e f g) I μ s w Q) w):Holds none [] prog 67 (.loop (lB (bB (sR (sR (sR (cT (sR (sR (body Tryz.f129)))))))))) Q (eU.e1 a b c d e f g s) w:=
 bp ng mix (eU.e1 a b c d e f g) I μ eU.k eU.u1 s (fun s Q w=>eU.B1 a b c d e f g s Q w) (fun s Q w=>eU.b1 a b c d e f g s Q w) h0 round
end
section
def eU.cV(a:OA)(b c:Nat)(d e:Int)(f:Addr)(g i:Int)(K:KT)(w:World):Prop:=
 K (.tuple #[]) w
variable(a:OA)(b c:Nat)(d e:Int)(f:Addr)(g i:Int)(K:KT)(w:World)
theorem eU.df:(eU.q1 K (.exit 0) [(0,.slice a b c),(1,.int .i64 d),(8,.int .i64 e),(9,.pointer (some f)),(10,.int .u64 g),(11,.int .i64 i)] w)=eU.cV a b c d e f g i K w:=by kernel_rfl
end
def sU.k:List Nat:= []
section
variable(a:OA)(b d:Nat)(e f:Int)(g:OA)(K:KT)(w:World)
def sU.W:Prop:=
 let i:=w.alloc (.cells (#[.int .i64 0]:AV) 3);(4:Int)≠0/\(4:Int)≠0/\(4:Int)≠0/\Split (decide ((i64.wrap (f-e))>=(8:Int))) (Split (decide ((i64.wrap (f-e))>=(50:Int))) (bu prog 155 #[.slice a b d,.int .i64 (i64.wrap (e+(i64.wrap ((i64.wrap ((i64.wrap (f-e)).tdiv (4:Int)))*(1:Int))))),.pointer (some (⟨w.heap.size,0,none⟩:Addr)),.func (.func 73) #[.pointer g] #[]] i fun j k=>∃m:Int,j=.int .i64 m/\bu prog 155 #[.slice a b d,.int .i64 (i64.wrap (e+(i64.wrap ((i64.wrap ((i64.wrap (f-e)).tdiv (4:Int)))*(2:Int))))),.pointer (some (⟨w.heap.size,0,none⟩:Addr)),.func (.func 73) #[.pointer g] #[]] k fun n o=>∃p:Int,n=.int .i64 p/\bu prog 155 #[.slice a b d,.int .i64 (i64.wrap (e+(i64.wrap ((i64.wrap ((i64.wrap (f-e)).tdiv (4:Int)))*(3:Int))))),.pointer (some (⟨w.heap.size,0,none⟩:Addr)),.func (.func 73) #[.pointer g] #[]] o fun q r=>∃t:Int,q=.int .i64 t/\bu prog 156 #[.slice a b d,.int .i64 m,.int .i64 p,.int .i64 t,.pointer (some (⟨w.heap.size,0,none⟩:Addr)),.func (.func 73) #[.pointer g] #[]] r fun u v=>∃x:Int,u=.int .i64 x/\∃y:Int,v.cell? (⟨w.heap.size,0,none⟩:Addr)=some (.int .i64 y)/\Split (y==(0:Int)) (K (.tuple #[.int .i64 x,.int .i64 1]) v) (Split (y==(12:Int)) (K (.tuple #[.int .i64 x,.int .i64 2]) v) (K (.tuple #[.int .i64 x,.int .i64 0]) v))) (bu prog 156 #[.slice a b d,.int .i64 (i64.wrap (e+(i64.wrap ((i64.wrap ((i64.wrap (f-e)).tdiv (4:Int)))*(1:Int))))),.int .i64 (i64.wrap (e+(i64.wrap ((i64.wrap ((i64.wrap (f-e)).tdiv (4:Int)))*(2:Int))))),.int .i64 (i64.wrap (e+(i64.wrap ((i64.wrap ((i64.wrap (f-e)).tdiv (4:Int)))*(3:Int))))),.pointer (some (⟨w.heap.size,0,none⟩:Addr)),.func (.func 73) #[.pointer g] #[]] i fun z a1=>∃b1:Int,z=.int .i64 b1/\∃c1:Int,a1.cell? (⟨w.heap.size,0,none⟩:Addr)=some (.int .i64 c1)/\Split (c1==(0:Int)) (K (.tuple #[.int .i64 b1,.int .i64 1]) a1) (Split (c1==(12:Int)) (K (.tuple #[.int .i64 b1,.int .i64 2]) a1) (K (.tuple #[.int .i64 b1,.int .i64 0]) a1)))) (∃d1:Int,i.cell? (⟨w.heap.size,0,none⟩:Addr)=some (.int .i64 d1)/\Split (d1==(0:Int)) (K (.tuple #[.int .i64 (i64.wrap (e+(i64.wrap ((i64.wrap ((i64.wrap (f-e)).tdiv (4:Int)))*(2:Int))))),.int .i64 1]) i) (Split (d1==(12:Int)) (K (.tuple #[.int .i64 (i64.wrap (e+(i64.wrap ((i64.wrap ((i64.wrap (f-e)).tdiv (4:Int)))*(2:Int))))),.int .i64 2]) i) (K (.tuple #[.int .i64 (i64.wrap (e+(i64.wrap ((i64.wrap ((i64.wrap (f-e)).tdiv (4:Int)))*(2:Int))))),.int .i64 0]) i)))
variable{a b d e f g K w}
theorem sU.of(h:sU.W a b d e f g K w):bu prog 130 #[.slice a b d,.int .i64 e,.int .i64 f,.func (.func 73) #[.pointer g] #[]] w K:=
 rqq func130 (C:=sU.k) h
end
def eT.k:List Nat:= []
def eT.q1(K:KT):aO:=(aN 0 (aT f131) (bR prog f131 K))
def eT.e1(a:OA)(b c:Nat)(s:Int×Int):Env:= [(0,.slice a b c),(8,.int .i64 s.1),(9,.int .i64 s.2)]
def eT.u1:List Nat:= [0,8,9]
section
def eT.W(a:OA)(b d:Nat)(e f:Int)(g:OA)(K:KT)(w:World):Prop:=
 Holds none [] prog 34 (.loop (lB (bB (sR (sR (body f131)))))) (eT.q1 K) [(0,.slice a b d),(8,.int .i64 e),(9,.int .i64 (i64.wrap (f-(1:Int))))] w
variable(a:OA)(b d:Nat)(e f:Int)(g:OA)(K:KT)(w:World)
variable{a b d e f g K w}
theorem eT.of(h:eT.W a b d e f g K w):bu prog 131 #[.slice a b d,.int .i64 e,.int .i64 f,.func (.func 73) #[.pointer g] #[]] w K:=
 rqq func131 (C:=eT.k) h
end
section
variable(a:OA)(b c:Nat)(d e:Int)(Q:aO)(w:World)
def eT.B1:Prop:=
 Split (decide (d<e)) (let f:=w.drew;(0<=e/\e<(b:Int))/\Is a fun g:Addr=>∃i:AV,(i.size=32/\Cells f (g.add (e.toNat*32)) i)/\(0<=d/\d<(b:Int))/\Is a fun j:Addr=>∃k:AV,(k.size=32/\Cells f (j.add (d.toNat*32)) k)/\(0<=d/\d<(b:Int))/\Is a fun m:Addr=>(i.size=32/\(∀n∈i.toList,n.oneCell'=true)/\∀o,o<32->Wr f ((m.add (d.toNat*32)).add o))/\let p:=setCells f (m.add (d.toNat*32)) i.toList 0;(0<=e/\e<(b:Int))/\Is a fun q:Addr=>(k.size=32/\(∀r∈k.toList,r.oneCell'=true)/\∀t,t<32->Wr p ((q.add (e.toNat*32)).add t))/\let u:=setCells p (q.add (e.toNat*32)) k.toList 0;Q .normal [(0,.slice a b c),(8,.int .i64 (i64.wrap (d+(1:Int)))),(9,.int .i64 (i64.wrap (e-(1:Int))))] u) (Q (.exit 0) [(0,.slice a b c),(8,.int .i64 d),(9,.int .i64 e)] w)
theorem eT.b1:(aY none [] prog 34 eT.k (lB (bB (sR (sR (body f131))))) eT.u1 Q [(0,.slice a b c),(8,.int .i64 d),(9,.int .i64 e)] w)=eT.B1 a b c d e Q w:=by kernel_rfl
variable{a b c}
theorem eT.cy(I:Int×Int->World->Prop)(μ:Int×Int->World->Nat)(s:Int×Int){Q:aO}{w:World}(h0:I s w)
 (round:∀s w,I s w->eT.B1 a b c (s.1) (s.2) (bQ (eT.e1 a b c) I μ s w Q) w):Holds none [] prog 34 (.loop (lB (bB (sR (sR (body f131)))))) Q (eT.e1 a b c s) w:=
 bp ng mix (eT.e1 a b c) I μ eT.k eT.u1 s (fun s Q w=>eT.B1 a b c (s.1) (s.2) Q w) (fun s Q w=>eT.b1 a b c (s.1) (s.2) Q w) h0 round
end
section
def eT.cV(a:OA)(b c:Nat)(d e:Int)(K:KT)(w:World):Prop:=
 K (.tuple #[]) w
variable(a:OA)(b c:Nat)(d e:Int)(K:KT)(w:World)
theorem eT.df:(eT.q1 K (.exit 0) [(0,.slice a b c),(8,.int .i64 d),(9,.int .i64 e)] w)=eT.cV a b c d e K w:=by kernel_rfl
end
def bL.k:List Nat:= []
def bL.q1(K:KT):aO:=(aN 0 (cF (sR (sR (sR (body f132))))++(aT f132)) (b7 (fun cg w_=>match cutAt bL.k (sR (sR (sR (body f132))))with|true=>Holds none [] prog 141 (sR (sR (sR (body f132)))) (bR prog f132 K) cg w_|false=>aY none [] prog 141 bL.k (sR (sR (sR (body f132)))) (aT f132) (bR prog f132 K) cg w_) (bR prog f132 K)))
def bL.e1(a:OA)(b c:Nat)(d e:Int)(f:OA)(s:Bool×Int×Int):Env:= [(0,.slice a b c),(1,.int .i64 d),(2,.int .i64 e),(3,.func (.func 73) #[.pointer f] #[]),(8,.bool s.1),(9,.int .i64 s.2.1),(10,.int .i64 s.2.2)]
def bL.u1:List Nat:= [0,1,2,3,8,9,10]
def bL.q2(Q:aO):aO:=(aN 2 (cF (sR (bB (sL (sR (lB (bB (sR (sL (sR (sR (body f132)))))))))))++(cF (sR (sR (lB (bB (sR (sL (sR (sR (body f132)))))))))++bL.u1)) (b7 (fun cg w_=>match cutAt bL.k (sR (bB (sL (sR (lB (bB (sR (sL (sR (sR (body f132)))))))))))with|true=>Holds none [] prog 141 (sR (bB (sL (sR (lB (bB (sR (sL (sR (sR (body f132))))))))))) (aN 1 (cF (sR (sR (lB (bB (sR (sL (sR (sR (body f132)))))))))++bL.u1) (b7 (fun cg w_=>match cutAt bL.k (sR (sR (lB (bB (sR (sL (sR (sR (body f132)))))))))with|true=>Holds none [] prog 141 (sR (sR (lB (bB (sR (sL (sR (sR (body f132))))))))) Q cg w_|false=>aY none [] prog 141 bL.k (sR (sR (lB (bB (sR (sL (sR (sR (body f132))))))))) bL.u1 Q cg w_) Q)) cg w_|false=>aY none [] prog 141 bL.k (sR (bB (sL (sR (lB (bB (sR (sL (sR (sR (body f132))))))))))) (cF (sR (sR (lB (bB (sR (sL (sR (sR (body f132)))))))))++bL.u1) (aN 1 (cF (sR (sR (lB (bB (sR (sL (sR (sR (body f132)))))))))++bL.u1) (b7 (fun cg w_=>match cutAt bL.k (sR (sR (lB (bB (sR (sL (sR (sR (body f132)))))))))with|true=>Holds none [] prog 141 (sR (sR (lB (bB (sR (sL (sR (sR (body f132))))))))) Q cg w_|false=>aY none [] prog 141 bL.k (sR (sR (lB (bB (sR (sL (sR (sR (body f132))))))))) bL.u1 Q cg w_) Q)) cg w_) (aN 1 (cF (sR (sR (lB (bB (sR (sL (sR (sR (body f132)))))))))++bL.u1) (b7 (fun cg w_=>match cutAt bL.k (sR (sR (lB (bB (sR (sL (sR (sR (body f132)))))))))with|true=>Holds none [] prog 141 (sR (sR (lB (bB (sR (sL (sR (sR (body f132))))))))) Q cg w_|false=>aY none [] prog 141 bL.k (sR (sR (lB (bB (sR (sL (sR (sR (body f132))))))))) bL.u1 Q cg w_) Q))))
def bL.e2(a:OA)(b c:Nat)(d e:Int)(f:OA)(g:Bool)(i s:Int):Env:= [(0,.slice a b c),(1,.int .i64 d),(2,.int .i64 e),(3,.func (.func 73) #[.pointer f] #[]),(8,.bool g),(9,.int .i64 s),(10,.int .i64 i)]
def bL.u2:List Nat:= [0,1,2,3,8,9,10]
def bL.q3(Q:aO):aO:=(aN 4 (cF (sR (sR (sR (sR (sR (bB (sL (sR (lB (bB (sR (sL (sR (sR (body f132)))))))))))))))++(cF (sR (sR (lB (bB (sR (sL (sR (sR (body f132)))))))))++bL.u1)) (b7 (fun cg w_=>match cutAt bL.k (sR (sR (sR (sR (sR (bB (sL (sR (lB (bB (sR (sL (sR (sR (body f132)))))))))))))))with|true=>Holds none [] prog 141 (sR (sR (sR (sR (sR (bB (sL (sR (lB (bB (sR (sL (sR (sR (body f132))))))))))))))) (aN 1 (cF (sR (sR (lB (bB (sR (sL (sR (sR (body f132)))))))))++bL.u1) (b7 (fun cg w_=>match cutAt bL.k (sR (sR (lB (bB (sR (sL (sR (sR (body f132)))))))))with|true=>Holds none [] prog 141 (sR (sR (lB (bB (sR (sL (sR (sR (body f132))))))))) Q cg w_|false=>aY none [] prog 141 bL.k (sR (sR (lB (bB (sR (sL (sR (sR (body f132))))))))) bL.u1 Q cg w_) Q)) cg w_|false=>aY none [] prog 141 bL.k (sR (sR (sR (sR (sR (bB (sL (sR (lB (bB (sR (sL (sR (sR (body f132))))))))))))))) (cF (sR (sR (lB (bB (sR (sL (sR (sR (body f132)))))))))++bL.u1) (aN 1 (cF (sR (sR (lB (bB (sR (sL (sR (sR (body f132)))))))))++bL.u1) (b7 (fun cg w_=>match cutAt bL.k (sR (sR (lB (bB (sR (sL (sR (sR (body f132)))))))))with|true=>Holds none [] prog 141 (sR (sR (lB (bB (sR (sL (sR (sR (body f132))))))))) Q cg w_|false=>aY none [] prog 141 bL.k (sR (sR (lB (bB (sR (sL (sR (sR (body f132))))))))) bL.u1 Q cg w_) Q)) cg w_) (aN 1 (cF (sR (sR (lB (bB (sR (sL (sR (sR (body f132)))))))))++bL.u1) (b7 (fun cg w_=>match cutAt bL.k (sR (sR (lB (bB (sR (sL (sR (sR (body f132)))))))))with|true=>Holds none [] prog 141 (sR (sR (lB (bB (sR (sL (sR (sR (body f132))))))))) Q cg w_|false=>aY none [] prog 141 bL.k (sR (sR (lB (bB (sR (sL (sR (sR (body f132))))))))) bL.u1 Q cg w_) Q))))
def bL.q4(Q:aO):aO:=(aN 6 (cF (sR (sR (lB (bB (sR (sL (sR (sR (body f132)))))))))++bL.u1) (aN 1 (cF (sR (sR (lB (bB (sR (sL (sR (sR (body f132)))))))))++bL.u1) (b7 (fun cg w_=>match cutAt bL.k (sR (sR (lB (bB (sR (sL (sR (sR (body f132)))))))))with|true=>Holds none [] prog 141 (sR (sR (lB (bB (sR (sL (sR (sR (body f132))))))))) Q cg w_|false=>aY none [] prog 141 bL.k (sR (sR (lB (bB (sR (sL (sR (sR (body f132))))))))) bL.u1 Q cg w_) Q)))
section
variable(a:OA)(b d:Nat)(e f:Int)(g:OA)(K:KT)(w:World)
def bL.W:Prop:=
 Holds none [] prog 141 (.loop (lB (bB (sR (sL (sR (sR (body f132)))))))) (bL.q1 K) [(0,.slice a b d),(1,.int .i64 e),(2,.int .i64 f),(3,.func (.func 73) #[.pointer g] #[]),(8,.bool false),(9,.int .i64 (i64.wrap (e+(1:Int)))),(10,.int .i64 0)] w
variable{a b d e f g K w}
theorem bL.of(h:bL.W a b d e f g K w):bu prog 132 #[.slice a b d,.int .i64 e,.int .i64 f,.func (.func 73) #[.pointer g] #[]] w K:=
 rqq func132 (C:=bL.k) h
end
section
variable(a:OA)(b c:Nat)(d e:Int)(f:OA)(g:Bool)(i j:Int)(Q:aO)(w:World)
def bL.B1:Prop:=
 Split (decide (j<(5:Int))) (Holds none [] prog 141 (.loop (lB (bB (sL (bB (sL (sR (lB (bB (sR (sL (sR (sR (body f132)))))))))))))) (bL.q2 Q) [(0,.slice a b c),(1,.int .i64 d),(2,.int .i64 e),(3,.func (.func 73) #[.pointer f] #[]),(8,.bool g),(9,.int .i64 i),(10,.int .i64 j)] w) (Q (.exit 0) [(0,.slice a b c),(1,.int .i64 d),(2,.int .i64 e),(3,.func (.func 73) #[.pointer f] #[]),(8,.bool g),(9,.int .i64 i),(10,.int .i64 j)] w)
theorem bL.b1:(aY none [] prog 141 bL.k (lB (bB (sR (sL (sR (sR (body f132))))))) bL.u1 Q [(0,.slice a b c),(1,.int .i64 d),(2,.int .i64 e),(3,.func (.func 73) #[.pointer f] #[]),(8,.bool g),(9,.int .i64 i),(10,.int .i64 j)] w)=bL.B1 a b c d e f g i j Q w:=by kernel_rfl
variable{a b c d e f}
theorem bL.cy(I:Bool×Int×Int->World->Prop)(μ:Bool×Int×Int->World->Nat)(s:Bool×Int×Int){Q:aO}{w:World}(h0:I s w)
 (round:∀s w,I s w->bL.B1 a b c d e f (s.1) (s.2.1) (s.2.2) (bQ (bL.e1 a b c d e f) I μ s w Q) w):Holds none [] prog 141 (.loop (lB (bB (sR (sL (sR (sR (body f132)))))))) Q (bL.e1 a b c d e f s) w:=
 bp ng mix (bL.e1 a b c d e f) I μ bL.k bL.u1 s (fun s Q w=>bL.B1 a b c d e f (s.1) (s.2.1) (s.2.2) Q w) (fun s Q w=>bL.b1 a b c d e f (s.1) (s.2.1) (s.2.2) Q w) h0 round
end
section
variable(a:OA)(b c:Nat)(d e:Int)(f:OA)(g:Bool)(i j:Int)(K:KT)(w:World)
end
section
variable(a:OA)(b c:Nat)(d e:Int)(f:OA)(g:Bool)(i j:Int)(Q:aO)(w:World)
def bL.B2:Prop:=
 let k:=w.drew;Split (decide (i<e)) ((0<=i/\i<(b:Int))/\Is a fun m:Addr=>∃n:AV,(n.size=32/\Cells k (m.add (i.toNat*32)) n)/\(0<=(i64.wrap (i-(1:Int)))/\(i64.wrap (i-(1:Int)))<(b:Int))/\Is a fun o:Addr=>∃p:AV,(p.size=32/\Cells k (o.add ((i64.wrap (i-(1:Int))).toNat*32)) p)/\bu prog 73 #[.pointer f,.agg n,.agg p] k fun q r=>∃t:Int,q=.int .i64 t/\Split (!(decide (t<(0:Int)))) (Q .normal [(0,.slice a b c),(1,.int .i64 d),(2,.int .i64 e),(3,.func (.func 73) #[.pointer f] #[]),(8,.bool g),(9,.int .i64 (i64.wrap (i+(1:Int)))),(10,.int .i64 j)] r) (Q (.exit 2) [(0,.slice a b c),(1,.int .i64 d),(2,.int .i64 e),(3,.func (.func 73) #[.pointer f] #[]),(8,.bool g),(9,.int .i64 i),(10,.int .i64 j)] r)) (Q (.exit 2) [(0,.slice a b c),(1,.int .i64 d),(2,.int .i64 e),(3,.func (.func 73) #[.pointer f] #[]),(8,.bool g),(9,.int .i64 i),(10,.int .i64 j)] k)
theorem bL.b2:(aY none [] prog 141 bL.k (lB (bB (sL (bB (sL (sR (lB (bB (sR (sL (sR (sR (body f132))))))))))))) bL.u2 Q [(0,.slice a b c),(1,.int .i64 d),(2,.int .i64 e),(3,.func (.func 73) #[.pointer f] #[]),(8,.bool g),(9,.int .i64 i),(10,.int .i64 j)] w)=bL.B2 a b c d e f g i j Q w:=by kernel_rfl
variable{a b c d e f g j}
theorem bL.iq(I:Int->World->Prop)(μ:Int->World->Nat)(s:Int){Q:aO}{w:World}(h0:I s w)
 (round:∀s w,I s w->bL.B2 a b c d e f g s j (bQ (bL.e2 a b c d e f g j) I μ s w Q) w):Holds none [] prog 141 (.loop (lB (bB (sL (bB (sL (sR (lB (bB (sR (sL (sR (sR (body f132)))))))))))))) Q (bL.e2 a b c d e f g j s) w:=
 bp ng mix (bL.e2 a b c d e f g j) I μ bL.k bL.u2 s (fun s Q w=>bL.B2 a b c d e f g s j Q w) (fun s Q w=>bL.b2 a b c d e f g s j Q w) h0 round
end
section
variable(a:OA)(b c:Nat)(d e:Int)(f:OA)(g:Bool)(i j:Int)(Q:aO)(w:World)
def bL.iZ:Prop:=
 Split (i==e) (Q .ret [(0,.slice a b c),(1,.int .i64 d),(2,.int .i64 e),(3,.func (.func 73) #[.pointer f] #[]),(8,.bool true),(9,.int .i64 i),(10,.int .i64 j)] w) (Split (decide ((i64.wrap (e-d))<(50:Int))) (Q .ret [(0,.slice a b c),(1,.int .i64 d),(2,.int .i64 e),(3,.func (.func 73) #[.pointer f] #[]),(8,.bool false),(9,.int .i64 i),(10,.int .i64 j)] w) (let k:=w.drew;(0<=(i64.wrap (i-(1:Int)))/\(i64.wrap (i-(1:Int)))<(b:Int))/\Is a fun m:Addr=>∃n:AV,(n.size=32/\Cells k (m.add ((i64.wrap (i-(1:Int))).toNat*32)) n)/\(0<=i/\i<(b:Int))/\Is a fun o:Addr=>∃p:AV,(p.size=32/\Cells k (o.add (i.toNat*32)) p)/\(0<=i/\i<(b:Int))/\Is a fun q:Addr=>(n.size=32/\(∀r∈n.toList,r.oneCell'=true)/\∀t,t<32->Wr k ((q.add (i.toNat*32)).add t))/\let u:=setCells k (q.add (i.toNat*32)) n.toList 0;(0<=(i64.wrap (i-(1:Int)))/\(i64.wrap (i-(1:Int)))<(b:Int))/\Is a fun v:Addr=>(p.size=32/\(∀x∈p.toList,x.oneCell'=true)/\∀y,y<32->Wr u ((v.add ((i64.wrap (i-(1:Int))).toNat*32)).add y))/\let z:=setCells u (v.add ((i64.wrap (i-(1:Int))).toNat*32)) p.toList 0;Split (decide ((i64.wrap (i-d))>=(2:Int))) (Holds none [] prog 141 (.loop (lB (bB (sR (cT (sR (sL (sR (sR (sR (sR (bB (sL (sR (lB (bB (sR (sL (sR (sR (body f132))))))))))))))))))))) (bL.q3 Q) [(0,.slice a b c),(1,.int .i64 d),(2,.int .i64 e),(3,.func (.func 73) #[.pointer f] #[]),(8,.bool g),(9,.int .i64 i),(10,.int .i64 j),(11,.int .i64 (i64.wrap (i-(1:Int))))] z) (Split (decide ((i64.wrap (e-i))>=(2:Int))) (Holds none [] prog 141 (.loop (lB (bB (sR (cT (sR (sR (sR (sR (sR (sR (bB (sL (sR (lB (bB (sR (sL (sR (sR (body f132))))))))))))))))))))) (bL.q4 Q) [(0,.slice a b c),(1,.int .i64 d),(2,.int .i64 e),(3,.func (.func 73) #[.pointer f] #[]),(8,.bool g),(9,.int .i64 i),(10,.int .i64 j),(12,.int .i64 (i64.wrap (i+(1:Int))))] z) (Q .normal [(0,.slice a b c),(1,.int .i64 d),(2,.int .i64 e),(3,.func (.func 73) #[.pointer f] #[]),(8,.bool g),(9,.int .i64 i),(10,.int .i64 (i64.wrap (j+(1:Int))))] z))))
theorem bL.kL:(bL.q2 Q (.exit 2) [(0,.slice a b c),(1,.int .i64 d),(2,.int .i64 e),(3,.func (.func 73) #[.pointer f] #[]),(8,.bool g),(9,.int .i64 i),(10,.int .i64 j)] w)=bL.iZ a b c d e f g i j Q w:=by kernel_rfl
end
section
variable(a:OA)(b c:Nat)(d e:Int)(f:OA)(g:Bool)(i j k:Int)(Q:aO)(w:World)
variable{a b c d e f g i j}
end
section
variable(a:OA)(b c:Nat)(d e:Int)(f:OA)(g:Bool)(i j k:Int)(Q:aO)(w:World)
end
section
variable(a:OA)(b c:Nat)(d e:Int)(f:OA)(g:Bool)(i j k:Int)(Q:aO)(w:World)
variable{a b c d e f g i j}
end
section
variable(a:OA)(b c:Nat)(d e:Int)(f:OA)(g:Bool)(i j k:Int)(Q:aO)(w:World)
end
section
variable(a:OA)(b d:Nat)(e f g:Int)(i:OA)(K:KT)(w:World)
variable{a b d e f g i K w}
end
section
variable(a:OA)(b c:Nat)(d:Int)(e:OA)(f g i:Int)(Q:aO)(w:World)
variable{a b c d e f}
end
section
variable(a:OA)(b c:Nat)(d:Int)(e:OA)(f g i:Int)(Q:aO)(w:World)
variable{a b c d e f i}
end
section
variable(a:OA)(b c:Nat)(d:Int)(e:OA)(f g i:Int)(Q:aO)(w:World)
end
section
variable(a:OA)(b c:Nat)(d:Int)(e:OA)(f g i:Int)(Q:aO)(w:World)
variable{a b c d e f g}
end
section
variable(a:OA)(b c:Nat)(d:Int)(e:OA)(f g i:Int)(Q:aO)(w:World)
end
section
variable(a:OA)(b c:Nat)(d:Int)(e:OA)(f g i:Int)(K:KT)(w:World)
end
def aV.k:List Nat:= []
def aV.q1(K:KT):aO:=(aN 0 (cF (sR (sR (sR (sR (body f134)))))++(aT f134)) (b7 (fun cg w_=>match cutAt aV.k (sR (sR (sR (sR (body f134)))))with|true=>Holds none [] prog 178 (sR (sR (sR (sR (body f134))))) (bR prog f134 K) cg w_|false=>aY none [] prog 178 aV.k (sR (sR (sR (sR (body f134))))) (aT f134) (bR prog f134 K) cg w_) (bR prog f134 K)))
def aV.e1(a:OA)(b c:Nat)(d:Int)(e:OA)(f g s:Int):Env:= [(0,.slice a b c),(1,.int .i64 d),(4,.func (.func 73) #[.pointer e] #[]),(10,.int .i64 f),(11,.bool false),(12,.int .i64 s),(13,.int .i64 g)]
def aV.u1:List Nat:= [0,1,4,10,11,12,13]
def aV.q2(K:KT):aO:=(aN 2 (cF (sR (sR (sR (sR (sR (body f134))))))++(aT f134)) (b7 (fun cg w_=>match cutAt aV.k (sR (sR (sR (sR (sR (body f134))))))with|true=>Holds none [] prog 178 (sR (sR (sR (sR (sR (body f134)))))) (bR prog f134 K) cg w_|false=>aY none [] prog 178 aV.k (sR (sR (sR (sR (sR (body f134)))))) (aT f134) (bR prog f134 K) cg w_) (bR prog f134 K)))
def aV.e2(a:OA)(b c:Nat)(d:Int)(e:OA)(f g s:Int):Env:= [(0,.slice a b c),(1,.int .i64 d),(4,.func (.func 73) #[.pointer e] #[]),(10,.int .i64 f),(11,.bool false),(12,.int .i64 g),(13,.int .i64 s)]
def aV.u2:List Nat:= [0,1,4,10,11,12,13]
def aV.q3(K:KT):aO:=(aN 4 (cF (sR (sR (sR (sR (sR (sR (sR (sR (sR (sR (body f134)))))))))))++(aT f134)) (b7 (fun cg w_=>match cutAt aV.k (sR (sR (sR (sR (sR (sR (sR (sR (sR (sR (body f134)))))))))))with|true=>Holds none [] prog 178 (sR (sR (sR (sR (sR (sR (sR (sR (sR (sR (body f134))))))))))) (bR prog f134 K) cg w_|false=>aY none [] prog 178 aV.k (sR (sR (sR (sR (sR (sR (sR (sR (sR (sR (body f134))))))))))) (aT f134) (bR prog f134 K) cg w_) (bR prog f134 K)))
def aV.e3(a:OA)(b c:Nat)(d:Int)(e:OA)(f:Int)(s:Int×Int):Env:= [(0,.slice a b c),(1,.int .i64 d),(4,.func (.func 73) #[.pointer e] #[]),(10,.int .i64 f),(11,.bool false),(12,.int .i64 s.1),(13,.int .i64 s.2)]
def aV.u3:List Nat:= [0,1,4,10,11,12,13]
def aV.q4(Q:aO):aO:=(aN 6 (cF (sR (bB (lB (bB (sL (sR (sR (sR (sR (sR (sR (sR (sR (sR (body f134)))))))))))))))++aV.u3) (b7 (fun cg w_=>match cutAt aV.k (sR (bB (lB (bB (sL (sR (sR (sR (sR (sR (sR (sR (sR (sR (body f134)))))))))))))))with|true=>Holds none [] prog 178 (sR (bB (lB (bB (sL (sR (sR (sR (sR (sR (sR (sR (sR (sR (body f134))))))))))))))) (aN 5 aV.u3 Q) cg w_|false=>aY none [] prog 178 aV.k (sR (bB (lB (bB (sL (sR (sR (sR (sR (sR (sR (sR (sR (sR (body f134))))))))))))))) aV.u3 (aN 5 aV.u3 Q) cg w_) (aN 5 aV.u3 Q)))
def aV.e4(a:OA)(b c:Nat)(d:Int)(e:OA)(f g s:Int):Env:= [(0,.slice a b c),(1,.int .i64 d),(4,.func (.func 73) #[.pointer e] #[]),(10,.int .i64 f),(11,.bool false),(12,.int .i64 s),(13,.int .i64 g)]
def aV.u4:List Nat:= [0,1,4,10,11,12,13]
def aV.q5(Q:aO):aO:=(aN 8 (cF (sR (sR (bB (lB (bB (sL (sR (sR (sR (sR (sR (sR (sR (sR (sR (body f134))))))))))))))))++aV.u3) (b7 (fun cg w_=>match cutAt aV.k (sR (sR (bB (lB (bB (sL (sR (sR (sR (sR (sR (sR (sR (sR (sR (body f134))))))))))))))))with|true=>Holds none [] prog 178 (sR (sR (bB (lB (bB (sL (sR (sR (sR (sR (sR (sR (sR (sR (sR (body f134)))))))))))))))) (aN 5 aV.u3 Q) cg w_|false=>aY none [] prog 178 aV.k (sR (sR (bB (lB (bB (sL (sR (sR (sR (sR (sR (sR (sR (sR (sR (body f134)))))))))))))))) aV.u3 (aN 5 aV.u3 Q) cg w_) (aN 5 aV.u3 Q)))
def aV.e5(a:OA)(b c:Nat)(d:Int)(e:OA)(f g s:Int):Env:= [(0,.slice a b c),(1,.int .i64 d),(4,.func (.func 73) #[.pointer e] #[]),(10,.int .i64 f),(11,.bool false),(12,.int .i64 g),(13,.int .i64 s)]
def aV.u5:List Nat:= [0,1,4,10,11,12,13]
section
variable(a:OA)(b d:Nat)(e f g:Int)(i:OA)(K:KT)(w:World)
def aV.W:Prop:=
 let j:=w.drew;(0<=g/\g<(b:Int))/\Is a fun k:Addr=>∃m:AV,(m.size=32/\Cells j (k.add (g.toNat*32)) m)/\(0<=e/\e<(b:Int))/\Is a fun n:Addr=>∃o:AV,(o.size=32/\Cells j (n.add (e.toNat*32)) o)/\(0<=e/\e<(b:Int))/\Is a fun p:Addr=>(m.size=32/\(∀q∈m.toList,q.oneCell'=true)/\∀r,r<32->Wr j ((p.add (e.toNat*32)).add r))/\let t:=setCells j (p.add (e.toNat*32)) m.toList 0;(0<=g/\g<(b:Int))/\Is a fun u:Addr=>(o.size=32/\(∀v∈o.toList,v.oneCell'=true)/\∀x,x<32->Wr t ((u.add (g.toNat*32)).add x))/\let y:=setCells t (u.add (g.toNat*32)) o.toList 0;Holds none [] prog 178 (.loop (lB (bB (sL (sR (sR (sR (body f134)))))))) (aV.q1 K) [(0,.slice a b d),(1,.int .i64 e),(4,.func (.func 73) #[.pointer i] #[]),(10,.int .i64 0),(11,.bool false),(12,.int .i64 (i64.wrap (e+(1:Int)))),(13,.int .i64 (i64.wrap (f-(1:Int))))] y
variable{a b d e f g i K w}
theorem aV.of(h:aV.W a b d e f g i K w):bu prog 134 #[.slice a b d,.int .i64 e,.int .i64 f,.int .i64 g,.func (.func 73) #[.pointer i] #[]] w K:=
 rqq func134 (C:=aV.k) h
end
section
variable(a:OA)(b c:Nat)(d:Int)(e:OA)(f g i:Int)(Q:aO)(w:World)
def aV.B1:Prop:=
 let j:=w.drew;Split (decide (g<=i)) ((0<=g/\g<(b:Int))/\Is a fun k:Addr=>∃m:AV,(m.size=32/\Cells j (k.add (g.toNat*32)) m)/\(0<=d/\d<(b:Int))/\Is a fun n:Addr=>∃o:AV,(o.size=32/\Cells j (n.add (d.toNat*32)) o)/\bu prog 73 #[.pointer e,.agg m,.agg o] j fun p q=>∃r:Int,p=.int .i64 r/\Split (decide (r<(0:Int))) (Q .normal [(0,.slice a b c),(1,.int .i64 d),(4,.func (.func 73) #[.pointer e] #[]),(10,.int .i64 f),(11,.bool false),(12,.int .i64 (i64.wrap (g+(1:Int)))),(13,.int .i64 i)] q) (Q (.exit 0) [(0,.slice a b c),(1,.int .i64 d),(4,.func (.func 73) #[.pointer e] #[]),(10,.int .i64 f),(11,.bool false),(12,.int .i64 g),(13,.int .i64 i)] q)) (Q (.exit 0) [(0,.slice a b c),(1,.int .i64 d),(4,.func (.func 73) #[.pointer e] #[]),(10,.int .i64 f),(11,.bool false),(12,.int .i64 g),(13,.int .i64 i)] j)
theorem aV.b1:(aY none [] prog 178 aV.k (lB (bB (sL (sR (sR (sR (body f134))))))) aV.u1 Q [(0,.slice a b c),(1,.int .i64 d),(4,.func (.func 73) #[.pointer e] #[]),(10,.int .i64 f),(11,.bool false),(12,.int .i64 g),(13,.int .i64 i)] w)=aV.B1 a b c d e f g i Q w:=by kernel_rfl
variable{a b c d e f i}
theorem aV.cy(I:Int->World->Prop)(μ:Int->World->Nat)(s:Int){Q:aO}{w:World}(h0:I s w)
 (round:∀s w,I s w->aV.B1 a b c d e f s i (bQ (aV.e1 a b c d e f i) I μ s w Q) w):Holds none [] prog 178 (.loop (lB (bB (sL (sR (sR (sR (body f134)))))))) Q (aV.e1 a b c d e f i s) w:=
 bp ng mix (aV.e1 a b c d e f i) I μ aV.k aV.u1 s (fun s Q w=>aV.B1 a b c d e f s i Q w) (fun s Q w=>aV.b1 a b c d e f s i Q w) h0 round
end
section
variable(a:OA)(b c:Nat)(d:Int)(e:OA)(f g i:Int)(K:KT)(w:World)
def aV.cV:Prop:=
 Holds none [] prog 178 (.loop (lB (bB (sL (sR (sR (sR (sR (body f134))))))))) (aV.q2 K) [(0,.slice a b c),(1,.int .i64 d),(4,.func (.func 73) #[.pointer e] #[]),(10,.int .i64 f),(11,.bool false),(12,.int .i64 g),(13,.int .i64 i)] w
theorem aV.df:(aV.q1 K (.exit 0) [(0,.slice a b c),(1,.int .i64 d),(4,.func (.func 73) #[.pointer e] #[]),(10,.int .i64 f),(11,.bool false),(12,.int .i64 g),(13,.int .i64 i)] w)=aV.cV a b c d e f g i K w:=by kernel_rfl
end
section
variable(a:OA)(b c:Nat)(d:Int)(e:OA)(f g i:Int)(Q:aO)(w:World)
def aV.B2:Prop:=
 let j:=w.drew;Split (decide (g<=i)) ((0<=i/\i<(b:Int))/\Is a fun k:Addr=>∃m:AV,(m.size=32/\Cells j (k.add (i.toNat*32)) m)/\(0<=d/\d<(b:Int))/\Is a fun n:Addr=>∃o:AV,(o.size=32/\Cells j (n.add (d.toNat*32)) o)/\bu prog 73 #[.pointer e,.agg m,.agg o] j fun p q=>∃r:Int,p=.int .i64 r/\Split (!(decide (r<(0:Int)))) (Q .normal [(0,.slice a b c),(1,.int .i64 d),(4,.func (.func 73) #[.pointer e] #[]),(10,.int .i64 f),(11,.bool false),(12,.int .i64 g),(13,.int .i64 (i64.wrap (i-(1:Int))))] q) (Q (.exit 2) [(0,.slice a b c),(1,.int .i64 d),(4,.func (.func 73) #[.pointer e] #[]),(10,.int .i64 f),(11,.bool false),(12,.int .i64 g),(13,.int .i64 i)] q)) (Q (.exit 2) [(0,.slice a b c),(1,.int .i64 d),(4,.func (.func 73) #[.pointer e] #[]),(10,.int .i64 f),(11,.bool false),(12,.int .i64 g),(13,.int .i64 i)] j)
theorem aV.b2:(aY none [] prog 178 aV.k (lB (bB (sL (sR (sR (sR (sR (body f134)))))))) aV.u2 Q [(0,.slice a b c),(1,.int .i64 d),(4,.func (.func 73) #[.pointer e] #[]),(10,.int .i64 f),(11,.bool false),(12,.int .i64 g),(13,.int .i64 i)] w)=aV.B2 a b c d e f g i Q w:=by kernel_rfl
variable{a b c d e f g}
theorem aV.iq(I:Int->World->Prop)(μ:Int->World->Nat)(s:Int){Q:aO}{w:World}(h0:I s w)
 (round:∀s w,I s w->aV.B2 a b c d e f g s (bQ (aV.e2 a b c d e f g) I μ s w Q) w):Holds none [] prog 178 (.loop (lB (bB (sL (sR (sR (sR (sR (body f134))))))))) Q (aV.e2 a b c d e f g s) w:=
 bp ng mix (aV.e2 a b c d e f g) I μ aV.k aV.u2 s (fun s Q w=>aV.B2 a b c d e f g s Q w) (fun s Q w=>aV.b2 a b c d e f g s Q w) h0 round
end
section
variable(a:OA)(b c:Nat)(d:Int)(e:OA)(f g i:Int)(K:KT)(w:World)
def aV.iZ:Prop:=
 Split (decide (g>i)) (let j:=w.drew;(0<=d/\d<(b:Int))/\Is a fun k:Addr=>∃m:AV,(m.size=32/\Cells j (k.add (d.toNat*32)) m)/\(0<=i/\i<(b:Int))/\Is a fun n:Addr=>∃o:AV,(o.size=32/\Cells j (n.add (i.toNat*32)) o)/\(0<=i/\i<(b:Int))/\Is a fun p:Addr=>(m.size=32/\(∀q∈m.toList,q.oneCell'=true)/\∀r,r<32->Wr j ((p.add (i.toNat*32)).add r))/\let t:=setCells j (p.add (i.toNat*32)) m.toList 0;(0<=d/\d<(b:Int))/\Is a fun u:Addr=>(o.size=32/\(∀v∈o.toList,v.oneCell'=true)/\∀x,x<32->Wr t ((u.add (d.toNat*32)).add x))/\let y:=setCells t (u.add (d.toNat*32)) o.toList 0;K (.tuple #[.int .i64 i,.bool true]) y) (let z:=w.drew;(0<=i/\i<(b:Int))/\Is a fun a1:Addr=>∃b1:AV,(b1.size=32/\Cells z (a1.add (i.toNat*32)) b1)/\(0<=g/\g<(b:Int))/\Is a fun c1:Addr=>∃d1:AV,(d1.size=32/\Cells z (c1.add (g.toNat*32)) d1)/\(0<=g/\g<(b:Int))/\Is a fun e1:Addr=>(b1.size=32/\(∀f1∈b1.toList,f1.oneCell'=true)/\∀g1,g1<32->Wr z ((e1.add (g.toNat*32)).add g1))/\let i1:=setCells z (e1.add (g.toNat*32)) b1.toList 0;(0<=i/\i<(b:Int))/\Is a fun j1:Addr=>(d1.size=32/\(∀k1∈d1.toList,k1.oneCell'=true)/\∀m1,m1<32->Wr i1 ((j1.add (i.toNat*32)).add m1))/\let n1:=setCells i1 (j1.add (i.toNat*32)) d1.toList 0;Holds none [] prog 178 (.loop (lB (bB (sL (sR (sR (sR (sR (sR (sR (sR (sR (sR (body f134)))))))))))))) (aV.q3 K) [(0,.slice a b c),(1,.int .i64 d),(4,.func (.func 73) #[.pointer e] #[]),(10,.int .i64 f),(11,.bool false),(12,.int .i64 (i64.wrap (g+(1:Int)))),(13,.int .i64 (i64.wrap (i-(1:Int))))] n1)
theorem aV.kL:(aV.q2 K (.exit 2) [(0,.slice a b c),(1,.int .i64 d),(4,.func (.func 73) #[.pointer e] #[]),(10,.int .i64 f),(11,.bool false),(12,.int .i64 g),(13,.int .i64 i)] w)=aV.iZ a b c d e f g i K w:=by kernel_rfl
end
section
variable(a:OA)(b c:Nat)(d:Int)(e:OA)(f g i:Int)(Q:aO)(w:World)
def aV.B3:Prop:=
 Holds none [] prog 178 (.loop (lB (bB (sL (bB (lB (bB (sL (sR (sR (sR (sR (sR (sR (sR (sR (sR (body f134)))))))))))))))))) (aV.q4 Q) [(0,.slice a b c),(1,.int .i64 d),(4,.func (.func 73) #[.pointer e] #[]),(10,.int .i64 f),(11,.bool false),(12,.int .i64 g),(13,.int .i64 i)] w
theorem aV.b3:(aY none [] prog 178 aV.k (lB (bB (sL (sR (sR (sR (sR (sR (sR (sR (sR (sR (body f134))))))))))))) aV.u3 Q [(0,.slice a b c),(1,.int .i64 d),(4,.func (.func 73) #[.pointer e] #[]),(10,.int .i64 f),(11,.bool false),(12,.int .i64 g),(13,.int .i64 i)] w)=aV.B3 a b c d e f g i Q w:=by kernel_rfl
variable{a b c d e f}
theorem aV.vM(I:Int×Int->World->Prop)(μ:Int×Int->World->Nat)(s:Int×Int){Q:aO}{w:World}(h0:I s w)
 (round:∀s w,I s w->aV.B3 a b c d e f (s.1) (s.2) (bQ (aV.e3 a b c d e f) I μ s w Q) w):Holds none [] prog 178 (.loop (lB (bB (sL (sR (sR (sR (sR (sR (sR (sR (sR (sR (body f134)))))))))))))) Q (aV.e3 a b c d e f s) w:=
 bp ng mix (aV.e3 a b c d e f) I μ aV.k aV.u3 s (fun s Q w=>aV.B3 a b c d e f (s.1) (s.2) Q w) (fun s Q w=>aV.b3 a b c d e f (s.1) (s.2) Q w) h0 round
end
section
variable(a:OA)(b c:Nat)(d:Int)(e:OA)(f g i:Int)(Q:aO)(w:World)
def aV.B4:Prop:=
 let j:=w.drew;Split (decide (g<=i)) ((0<=g/\g<(b:Int))/\Is a fun k:Addr=>∃m:AV,(m.size=32/\Cells j (k.add (g.toNat*32)) m)/\(0<=d/\d<(b:Int))/\Is a fun n:Addr=>∃o:AV,(o.size=32/\Cells j (n.add (d.toNat*32)) o)/\bu prog 73 #[.pointer e,.agg m,.agg o] j fun p q=>∃r:Int,p=.int .i64 r/\Split (decide (r<(0:Int))) (Q .normal [(0,.slice a b c),(1,.int .i64 d),(4,.func (.func 73) #[.pointer e] #[]),(10,.int .i64 f),(11,.bool false),(12,.int .i64 (i64.wrap (g+(1:Int)))),(13,.int .i64 i)] q) (Q (.exit 6) [(0,.slice a b c),(1,.int .i64 d),(4,.func (.func 73) #[.pointer e] #[]),(10,.int .i64 f),(11,.bool false),(12,.int .i64 g),(13,.int .i64 i)] q)) (Q (.exit 6) [(0,.slice a b c),(1,.int .i64 d),(4,.func (.func 73) #[.pointer e] #[]),(10,.int .i64 f),(11,.bool false),(12,.int .i64 g),(13,.int .i64 i)] j)
theorem aV.b4:(aY none [] prog 178 aV.k (lB (bB (sL (bB (lB (bB (sL (sR (sR (sR (sR (sR (sR (sR (sR (sR (body f134))))))))))))))))) aV.u4 Q [(0,.slice a b c),(1,.int .i64 d),(4,.func (.func 73) #[.pointer e] #[]),(10,.int .i64 f),(11,.bool false),(12,.int .i64 g),(13,.int .i64 i)] w)=aV.B4 a b c d e f g i Q w:=by kernel_rfl
variable{a b c d e f i}
theorem aV.Ii(I:Int->World->Prop)(μ:Int->World->Nat)(s:Int){Q:aO}{w:World}(h0:I s w)
 (round:∀s w,I s w->aV.B4 a b c d e f s i (bQ (aV.e4 a b c d e f i) I μ s w Q) w):Holds none [] prog 178 (.loop (lB (bB (sL (bB (lB (bB (sL (sR (sR (sR (sR (sR (sR (sR (sR (sR (body f134)))))))))))))))))) Q (aV.e4 a b c d e f i s) w:=
 bp ng mix (aV.e4 a b c d e f i) I μ aV.k aV.u4 s (fun s Q w=>aV.B4 a b c d e f s i Q w) (fun s Q w=>aV.b4 a b c d e f s i Q w) h0 round
end
section
variable(a:OA)(b c:Nat)(d:Int)(e:OA)(f g i:Int)(Q:aO)(w:World)
def aV.DI:Prop:=
 Holds none [] prog 178 (.loop (lB (bB (sL (sR (bB (lB (bB (sL (sR (sR (sR (sR (sR (sR (sR (sR (sR (body f134))))))))))))))))))) (aV.q5 Q) [(0,.slice a b c),(1,.int .i64 d),(4,.func (.func 73) #[.pointer e] #[]),(10,.int .i64 f),(11,.bool false),(12,.int .i64 g),(13,.int .i64 i)] w
theorem aV.Hq:(aV.q4 Q (.exit 6) [(0,.slice a b c),(1,.int .i64 d),(4,.func (.func 73) #[.pointer e] #[]),(10,.int .i64 f),(11,.bool false),(12,.int .i64 g),(13,.int .i64 i)] w)=aV.DI a b c d e f g i Q w:=by kernel_rfl
end
section
variable(a:OA)(b c:Nat)(d:Int)(e:OA)(f g i:Int)(Q:aO)(w:World)
def aV.B5:Prop:=
 let j:=w.drew;Split (decide (g<=i)) ((0<=i/\i<(b:Int))/\Is a fun k:Addr=>∃m:AV,(m.size=32/\Cells j (k.add (i.toNat*32)) m)/\(0<=d/\d<(b:Int))/\Is a fun n:Addr=>∃o:AV,(o.size=32/\Cells j (n.add (d.toNat*32)) o)/\bu prog 73 #[.pointer e,.agg m,.agg o] j fun p q=>∃r:Int,p=.int .i64 r/\Split (!(decide (r<(0:Int)))) (Q .normal [(0,.slice a b c),(1,.int .i64 d),(4,.func (.func 73) #[.pointer e] #[]),(10,.int .i64 f),(11,.bool false),(12,.int .i64 g),(13,.int .i64 (i64.wrap (i-(1:Int))))] q) (Q (.exit 8) [(0,.slice a b c),(1,.int .i64 d),(4,.func (.func 73) #[.pointer e] #[]),(10,.int .i64 f),(11,.bool false),(12,.int .i64 g),(13,.int .i64 i)] q)) (Q (.exit 8) [(0,.slice a b c),(1,.int .i64 d),(4,.func (.func 73) #[.pointer e] #[]),(10,.int .i64 f),(11,.bool false),(12,.int .i64 g),(13,.int .i64 i)] j)
theorem aV.b5:(aY none [] prog 178 aV.k (lB (bB (sL (sR (bB (lB (bB (sL (sR (sR (sR (sR (sR (sR (sR (sR (sR (body f134)))))))))))))))))) aV.u5 Q [(0,.slice a b c),(1,.int .i64 d),(4,.func (.func 73) #[.pointer e] #[]),(10,.int .i64 f),(11,.bool false),(12,.int .i64 g),(13,.int .i64 i)] w)=aV.B5 a b c d e f g i Q w:=by kernel_rfl
variable{a b c d e f g}
theorem aV.Td(I:Int->World->Prop)(μ:Int->World->Nat)(s:Int){Q:aO}{w:World}(h0:I s w)
 (round:∀s w,I s w->aV.B5 a b c d e f g s (bQ (aV.e5 a b c d e f g) I μ s w Q) w):Holds none [] prog 178 (.loop (lB (bB (sL (sR (bB (lB (bB (sL (sR (sR (sR (sR (sR (sR (sR (sR (sR (body f134))))))))))))))))))) Q (aV.e5 a b c d e f g s) w:=
 bp ng mix (aV.e5 a b c d e f g) I μ aV.k aV.u5 s (fun s Q w=>aV.B5 a b c d e f g s Q w) (fun s Q w=>aV.b5 a b c d e f g s Q w) h0 round
end
section
variable(a:OA)(b c:Nat)(d:Int)(e:OA)(f g i:Int)(Q:aO)(w:World)
def aV.Rf:Prop:=
 Split (decide (g>i)) (Q (.exit 4) [(0,.slice a b c),(1,.int .i64 d),(4,.func (.func 73) #[.pointer e] #[]),(10,.int .i64 f),(11,.bool false),(12,.int .i64 g),(13,.int .i64 i)] w) (let j:=w.drew;(0<=i/\i<(b:Int))/\Is a fun k:Addr=>∃m:AV,(m.size=32/\Cells j (k.add (i.toNat*32)) m)/\(0<=g/\g<(b:Int))/\Is a fun n:Addr=>∃o:AV,(o.size=32/\Cells j (n.add (g.toNat*32)) o)/\(0<=g/\g<(b:Int))/\Is a fun p:Addr=>(m.size=32/\(∀q∈m.toList,q.oneCell'=true)/\∀r,r<32->Wr j ((p.add (g.toNat*32)).add r))/\let t:=setCells j (p.add (g.toNat*32)) m.toList 0;(0<=i/\i<(b:Int))/\Is a fun u:Addr=>(o.size=32/\(∀v∈o.toList,v.oneCell'=true)/\∀x,x<32->Wr t ((u.add (i.toNat*32)).add x))/\let y:=setCells t (u.add (i.toNat*32)) o.toList 0;Q .normal [(0,.slice a b c),(1,.int .i64 d),(4,.func (.func 73) #[.pointer e] #[]),(10,.int .i64 f),(11,.bool false),(12,.int .i64 (i64.wrap (g+(1:Int)))),(13,.int .i64 (i64.wrap (i-(1:Int))))] y)
theorem aV.Sg:(aV.q5 Q (.exit 8) [(0,.slice a b c),(1,.int .i64 d),(4,.func (.func 73) #[.pointer e] #[]),(10,.int .i64 f),(11,.bool false),(12,.int .i64 g),(13,.int .i64 i)] w)=aV.Rf a b c d e f g i Q w:=by kernel_rfl
end
section
def aV.xw(a:OA)(b c:Nat)(d:Int)(e:OA)(f g i:Int)(K:KT)(w:World):Prop:=
 let j:=w.drew;(0<=d/\d<(b:Int))/\Is a fun k:Addr=>∃m:AV,(m.size=32/\Cells j (k.add (d.toNat*32)) m)/\(0<=i/\i<(b:Int))/\Is a fun n:Addr=>∃o:AV,(o.size=32/\Cells j (n.add (i.toNat*32)) o)/\(0<=i/\i<(b:Int))/\Is a fun p:Addr=>(m.size=32/\(∀q∈m.toList,q.oneCell'=true)/\∀r,r<32->Wr j ((p.add (i.toNat*32)).add r))/\let t:=setCells j (p.add (i.toNat*32)) m.toList 0;(0<=d/\d<(b:Int))/\Is a fun u:Addr=>(o.size=32/\(∀v∈o.toList,v.oneCell'=true)/\∀x,x<32->Wr t ((u.add (d.toNat*32)).add x))/\let y:=setCells t (u.add (d.toNat*32)) o.toList 0;K (.tuple #[.int .i64 i,.bool false]) y
variable(a:OA)(b c:Nat)(d:Int)(e:OA)(f g i:Int)(K:KT)(w:World)
theorem aV.Cf:(aV.q3 K (.exit 4) [(0,.slice a b c),(1,.int .i64 d),(4,.func (.func 73) #[.pointer e] #[]),(10,.int .i64 f),(11,.bool false),(12,.int .i64 g),(13,.int .i64 i)] w)=aV.xw a b c d e f g i K w:=by kernel_rfl
end
def bU.k:List Nat:= [5,6]
def bU.q1(K:KT):aO:=(aN 0 (aT f152) (bR prog f152 K))
def bU.e1(a:OA)(b c:Nat)(d e:Int)(f:OA)(s:Int):Env:= [(0,.slice a b c),(2,.int .i64 d),(3,.int .i64 e),(4,.func (.func 73) #[.pointer f] #[]),(10,.int .i64 s)]
def bU.u1:List Nat:= [0,2,3,4,10]
section
variable(a:OA)(b d:Nat)(e f g:Int)(i:OA)(K:KT)(w:World)
def bU.W:Prop:=
 Holds none [] prog 82 (.loop (lB (bB (sR (body f152))))) (bU.q1 K) [(0,.slice a b d),(2,.int .i64 f),(3,.int .i64 g),(4,.func (.func 73) #[.pointer i] #[]),(10,.int .i64 e)] w
variable{a b d e f g i K w}
theorem bU.of(h:bU.W a b d e f g i K w):bu prog 152 #[.slice a b d,.int .i64 e,.int .i64 f,.int .i64 g,.func (.func 73) #[.pointer i] #[]] w K:=
 rqq func152 (C:=bU.k) h
end
section
variable(a:OA)(b c:Nat)(d e:Int)(f:OA)(g:Int)(Q:aO)(w:World)
def bU.B1:Prop:=
 Split (decide ((i64.wrap ((i64.wrap ((2:Int)*g))+(1:Int)))>=d)) (Q (.exit 0) [(0,.slice a b c),(2,.int .i64 d),(3,.int .i64 e),(4,.func (.func 73) #[.pointer f] #[]),(10,.int .i64 g),(11,.int .i64 (i64.wrap ((i64.wrap ((2:Int)*g))+(1:Int))))] w) (let i:=w.drew;Split (decide ((i64.wrap ((i64.wrap ((i64.wrap ((2:Int)*g))+(1:Int)))+(1:Int)))<d)) ((0<=(i64.wrap (e+(i64.wrap ((i64.wrap ((2:Int)*g))+(1:Int)))))/\(i64.wrap (e+(i64.wrap ((i64.wrap ((2:Int)*g))+(1:Int)))))<(b:Int))/\Is a fun j:Addr=>∃k:AV,(k.size=32/\Cells i (j.add ((i64.wrap (e+(i64.wrap ((i64.wrap ((2:Int)*g))+(1:Int))))).toNat*32)) k)/\(0<=(i64.wrap ((i64.wrap (e+(i64.wrap ((i64.wrap ((2:Int)*g))+(1:Int)))))+(1:Int)))/\(i64.wrap ((i64.wrap (e+(i64.wrap ((i64.wrap ((2:Int)*g))+(1:Int)))))+(1:Int)))<(b:Int))/\Is a fun m:Addr=>∃n:AV,(n.size=32/\Cells i (m.add ((i64.wrap ((i64.wrap (e+(i64.wrap ((i64.wrap ((2:Int)*g))+(1:Int)))))+(1:Int))).toNat*32)) n)/\bu prog 73 #[.pointer f,.agg k,.agg n] i fun o p=>∃q:Int,o=.int .i64 q/\Split (decide (q<(0:Int))) (Holds none [] prog 82 (sR (sR (sR (bB (lB (bB (sR (body f152)))))))) (aN 1 bU.u1 Q) [(0,.slice a b c),(2,.int .i64 d),(3,.int .i64 e),(4,.func (.func 73) #[.pointer f] #[]),(10,.int .i64 g),(11,.int .i64 (i64.wrap ((i64.wrap ((i64.wrap ((2:Int)*g))+(1:Int)))+(1:Int))))] p) (Holds none [] prog 82 (sR (sR (sR (bB (lB (bB (sR (body f152)))))))) (aN 1 bU.u1 Q) [(0,.slice a b c),(2,.int .i64 d),(3,.int .i64 e),(4,.func (.func 73) #[.pointer f] #[]),(10,.int .i64 g),(11,.int .i64 (i64.wrap ((i64.wrap ((2:Int)*g))+(1:Int))))] p)) (Holds none [] prog 82 (sR (sR (sR (bB (lB (bB (sR (body f152)))))))) (aN 1 bU.u1 Q) [(0,.slice a b c),(2,.int .i64 d),(3,.int .i64 e),(4,.func (.func 73) #[.pointer f] #[]),(10,.int .i64 g),(11,.int .i64 (i64.wrap ((i64.wrap ((2:Int)*g))+(1:Int))))] i))
theorem bU.b1:(aY none [] prog 82 bU.k (lB (bB (sR (body f152)))) bU.u1 Q [(0,.slice a b c),(2,.int .i64 d),(3,.int .i64 e),(4,.func (.func 73) #[.pointer f] #[]),(10,.int .i64 g)] w)=bU.B1 a b c d e f g Q w:=by kernel_rfl
variable{a b c d e f}
theorem bU.cy(I:Int->World->Prop)(μ:Int->World->Nat)(s:Int){Q:aO}{w:World}(h0:I s w)
 (round:∀s w,I s w->bU.B1 a b c d e f s (bQ (bU.e1 a b c d e f) I μ s w Q) w):Holds none [] prog 82 (.loop (lB (bB (sR (body f152))))) Q (bU.e1 a b c d e f s) w:=
 bp ng mix (bU.e1 a b c d e f) I μ bU.k bU.u1 s (fun s Q w=>bU.B1 a b c d e f s Q w) (fun s Q w=>bU.b1 a b c d e f s Q w) h0 round
end
section
def bU.cV(a:OA)(b c:Nat)(d e:Int)(f:OA)(g i:Int)(K:KT)(w:World):Prop:=
 K (.tuple #[]) w
variable(a:OA)(b c:Nat)(d e:Int)(f:OA)(g i:Int)(K:KT)(w:World)
theorem bU.df:(bU.q1 K (.exit 0) [(0,.slice a b c),(2,.int .i64 d),(3,.int .i64 e),(4,.func (.func 73) #[.pointer f] #[]),(10,.int .i64 g),(11,.int .i64 i)] w)=bU.cV a b c d e f g i K w:=by kernel_rfl
end
section
variable(a:OA)(b c:Nat)(d e:Int)(f:OA)(g i:Int)(Q:aO)(w:World)
def bU.J1:Prop:=
 let j:=w.drew;(0<=(i64.wrap (e+g))/\(i64.wrap (e+g))<(b:Int))/\Is a fun k:Addr=>∃m:AV,(m.size=32/\Cells j (k.add ((i64.wrap (e+g)).toNat*32)) m)/\(0<=(i64.wrap (e+i))/\(i64.wrap (e+i))<(b:Int))/\Is a fun n:Addr=>∃o:AV,(o.size=32/\Cells j (n.add ((i64.wrap (e+i)).toNat*32)) o)/\bu prog 73 #[.pointer f,.agg m,.agg o] j fun p q=>∃r:Int,p=.int .i64 r/\Split (!(decide (r<(0:Int)))) (Q .ret [(0,.slice a b c),(2,.int .i64 d),(3,.int .i64 e),(4,.func (.func 73) #[.pointer f] #[]),(10,.int .i64 g),(11,.int .i64 i)] q) (Holds none [] prog 82 (sR (sR (sR (sR (bB (lB (bB (sR (body f152))))))))) (aN 1 bU.u1 Q) [(0,.slice a b c),(2,.int .i64 d),(3,.int .i64 e),(4,.func (.func 73) #[.pointer f] #[]),(10,.int .i64 g),(11,.int .i64 i)] q)
theorem bU.j1:(aY none [] prog 82 bU.k (sR (sR (sR (bB (lB (bB (sR (body f152)))))))) bU.u1 (aN 1 bU.u1 Q) [(0,.slice a b c),(2,.int .i64 d),(3,.int .i64 e),(4,.func (.func 73) #[.pointer f] #[]),(10,.int .i64 g),(11,.int .i64 i)] w)=bU.J1 a b c d e f g i Q w:=by kernel_rfl
variable{a b c d e f g i Q w}
theorem bU.oP(h:bU.J1 a b c d e f g i Q w):Holds none [] prog 82 (sR (sR (sR (bB (lB (bB (sR (body f152)))))))) (aN 1 bU.u1 Q) [(0,.slice a b c),(2,.int .i64 d),(3,.int .i64 e),(4,.func (.func 73) #[.pointer f] #[]),(10,.int .i64 g),(11,.int .i64 i)] w:=
 cY (C:=bU.k) ng mix (bU.j1 a b c d e f g i Q w) h
end
section
variable(a:OA)(b c:Nat)(d e:Int)(f:OA)(g i:Int)(Q:aO)(w:World)
def bU.J2:Prop:=
 let j:=w.drew;(0<=(i64.wrap (e+i))/\(i64.wrap (e+i))<(b:Int))/\Is a fun k:Addr=>∃m:AV,(m.size=32/\Cells j (k.add ((i64.wrap (e+i)).toNat*32)) m)/\(0<=(i64.wrap (e+g))/\(i64.wrap (e+g))<(b:Int))/\Is a fun n:Addr=>∃o:AV,(o.size=32/\Cells j (n.add ((i64.wrap (e+g)).toNat*32)) o)/\(0<=(i64.wrap (e+g))/\(i64.wrap (e+g))<(b:Int))/\Is a fun p:Addr=>(m.size=32/\(∀q∈m.toList,q.oneCell'=true)/\∀r,r<32->Wr j ((p.add ((i64.wrap (e+g)).toNat*32)).add r))/\let t:=setCells j (p.add ((i64.wrap (e+g)).toNat*32)) m.toList 0;(0<=(i64.wrap (e+i))/\(i64.wrap (e+i))<(b:Int))/\Is a fun u:Addr=>(o.size=32/\(∀v∈o.toList,v.oneCell'=true)/\∀x,x<32->Wr t ((u.add ((i64.wrap (e+i)).toNat*32)).add x))/\let y:=setCells t (u.add ((i64.wrap (e+i)).toNat*32)) o.toList 0;Q .normal [(0,.slice a b c),(2,.int .i64 d),(3,.int .i64 e),(4,.func (.func 73) #[.pointer f] #[]),(10,.int .i64 i)] y
theorem bU.j2:(aY none [] prog 82 bU.k (sR (sR (sR (sR (bB (lB (bB (sR (body f152))))))))) bU.u1 (aN 1 bU.u1 Q) [(0,.slice a b c),(2,.int .i64 d),(3,.int .i64 e),(4,.func (.func 73) #[.pointer f] #[]),(10,.int .i64 g),(11,.int .i64 i)] w)=bU.J2 a b c d e f g i Q w:=by kernel_rfl
variable{a b c d e f g i Q w}
theorem bU.qT(h:bU.J2 a b c d e f g i Q w):Holds none [] prog 82 (sR (sR (sR (sR (bB (lB (bB (sR (body f152))))))))) (aN 1 bU.u1 Q) [(0,.slice a b c),(2,.int .i64 d),(3,.int .i64 e),(4,.func (.func 73) #[.pointer f] #[]),(10,.int .i64 g),(11,.int .i64 i)] w:=
 cY (C:=bU.k) ng mix (bU.j2 a b c d e f g i Q w) h
end
section
variable(a:OA)(b d:Nat)(e:Int)(f g:OA)(K:KT)(w:World)
variable{a b d e f g K w}
end
def sX.k:List Nat:= []
section
variable(a:OA)(b d:Nat)(e f g:Int)(i j:OA)(K:KT)(w:World)
def sX.W:Prop:=
 bu prog 163 #[.slice a b d,.int .i64 e,.int .i64 f,.pointer i,.func (.func 73) #[.pointer j] #[]] w fun k m=>∃n o:Int,k=.tuple #[.int .i64 n,.int .i64 o]/\bu prog 163 #[.slice a b d,.int .i64 o,.int .i64 g,.pointer i,.func (.func 73) #[.pointer j] #[]] m fun p q=>∃r t:Int,p=.tuple #[.int .i64 r,.int .i64 t]/\bu prog 163 #[.slice a b d,.int .i64 n,.int .i64 r,.pointer i,.func (.func 73) #[.pointer j] #[]] q fun u v=>∃x y:Int,u=.tuple #[.int .i64 x,.int .i64 y]/\K (.int .i64 y) v
variable{a b d e f g i j K w}
theorem sX.of(h:sX.W a b d e f g i j K w):bu prog 156 #[.slice a b d,.int .i64 e,.int .i64 f,.int .i64 g,.pointer i,.func (.func 73) #[.pointer j] #[]] w K:=
 rqq func156 (C:=sX.k) h
end
def sW.k:List Nat:= []
section
def sW.W(a:OA)(b d:Nat)(e f:Int)(g i:OA)(K:KT)(w:World):Prop:=
 let j:=w.drew;(0<=f/\f<(b:Int))/\Is a fun k:Addr=>∃m:AV,(m.size=32/\Cells j (k.add (f.toNat*32)) m)/\(0<=e/\e<(b:Int))/\Is a fun n:Addr=>∃o:AV,(o.size=32/\Cells j (n.add (e.toNat*32)) o)/\bu prog 73 #[.pointer i,.agg m,.agg o] j fun p q=>∃r:Int,p=.int .i64 r/\Split (decide (r<(0:Int))) (Is g fun t:Addr=>∃u:Int,q.cell? t=some (.int .i64 u)/\Is g fun v:Addr=>Wr q v/\let x:=q.setCell v (.int .i64 (i64.wrap (u+(1:Int))));K (.tuple #[.int .i64 f,.int .i64 e]) x) (K (.tuple #[.int .i64 e,.int .i64 f]) q)
variable(a:OA)(b d:Nat)(e f:Int)(g i:OA)(K:KT)(w:World)
variable{a b d e f g i K w}
theorem sW.of(h:sW.W a b d e f g i K w):bu prog 163 #[.slice a b d,.int .i64 e,.int .i64 f,.pointer g,.func (.func 73) #[.pointer i] #[]] w K:=
 rqq func163 (C:=sW.k) h
end
end Go.Proofs.YtfleamccglihoaaGreatDoor
