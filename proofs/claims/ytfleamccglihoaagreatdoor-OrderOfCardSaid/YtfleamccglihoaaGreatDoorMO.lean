import Derived.Test.YtfleamccglihoaaGreatDoorProg
import Derived.Test.YtfleamccglihoaaGreatDoorMA
import Derived.Test.YtfleamccglihoaaGreatDoorMB
open Go.IntKind (i64 u64)
set_option linter.unusedVariables false
namespace Go.Proofs.YtfleamccglihoaaGreatDoor
open Go.Proofs.Tryz
open Go Go.bW
def qk.k:List Nat:= []
section
variable(a:OA)(b d:Nat)(e:OA)(K:KT)(w:World)
def qk.W:Prop:=
 bC prog 98 #[.int .u64 (u64.wrap (b:Int))] w fun f g=>∃i:Int,f=.int .i64 i/\bC prog 97 #[.slice a b d,.int .i64 0,.int .i64 (b:Int),.int .i64 i,.func (.func 73) #[.pointer e] #[]] g fun j k=>j=.tuple #[]/\K (.tuple #[]) k
variable{a b d e K w}
theorem qk.of(h:qk.W a b d e K w):bC prog 53 #[.slice a b d,.func (.func 73) #[.pointer e] #[]] w K:=
 rqq func53 (C:=qk.k) h
end
def aC.k:List Nat:= [10,11,13,14,15,17,20,21,22,23,24,26,27,29,30]
def aC.q1(K:KT):aO:=(aL 0 (aS f97) (bS prog f97 K))
def aC.e1(a:OA)(b c:Nat)(d:OA)(s:Int×Int×Int×Bool×Bool):Env:= [(0,.slice a b c),(1,.int .i64 s.1),(2,.int .i64 s.2.1),(3,.int .i64 s.2.2.1),(4,.func (.func 73) #[.pointer d] #[]),(10,.bool s.2.2.2.1),(11,.bool s.2.2.2.2)]
def aC.u1:List Nat:= [0,1,2,3,4,10,11]
section
variable(a:OA)(b d:Nat)(e f g:Int)(i:OA)(K:KT)(w:World)
def aC.W:Prop:=
 Holds none [] prog 148 (.loop (lB (bB (aQ (body f97))))) (aC.q1 K) [(0,.slice a b d),(1,.int .i64 e),(2,.int .i64 f),(3,.int .i64 g),(4,.func (.func 73) #[.pointer i] #[]),(10,.bool true),(11,.bool true)] w
variable{a b d e f g i K w}
theorem aC.of(h:aC.W a b d e f g i K w):bC prog 97 #[.slice a b d,.int .i64 e,.int .i64 f,.int .i64 g,.func (.func 73) #[.pointer i] #[]] w K:=
 rqq func97 (C:=aC.k) h
end
section
variable(a:OA)(b c:Nat)(d e f:Int)(g:OA)(i j:Bool)(Q:aO)(w:World)
def aC.B1:Prop:=
 Split (decide ((i64.wrap (e-d))<=(12:Int))) (bC prog 127 #[.slice a b c,.int .i64 d,.int .i64 e,.func (.func 73) #[.pointer g] #[]] w fun k m=>k=.tuple #[]/\Q .ret [(0,.slice a b c),(1,.int .i64 d),(2,.int .i64 e),(3,.int .i64 f),(4,.func (.func 73) #[.pointer g] #[]),(10,.bool i),(11,.bool j),(12,.int .i64 (i64.wrap (e-d)))] m) (Split (f==(0:Int)) (bC prog 128 #[.slice a b c,.int .i64 d,.int .i64 e,.func (.func 73) #[.pointer g] #[]] w fun n o=>n=.tuple #[]/\Q .ret [(0,.slice a b c),(1,.int .i64 d),(2,.int .i64 e),(3,.int .i64 f),(4,.func (.func 73) #[.pointer g] #[]),(10,.bool i),(11,.bool j),(12,.int .i64 (i64.wrap (e-d)))] o) (Split (!i) (bC prog 129 #[.slice a b c,.int .i64 d,.int .i64 e,.func (.func 73) #[.pointer g] #[]] w fun p q=>p=.tuple #[]/\Holds none [] prog 148 (bU (bB (lB (bB (aQ (body f97)))))) (aL 1 aC.u1 Q) [(0,.slice a b c),(1,.int .i64 d),(2,.int .i64 e),(3,.int .i64 (i64.wrap (f-(1:Int)))),(4,.func (.func 73) #[.pointer g] #[]),(10,.bool i),(11,.bool j),(12,.int .i64 (i64.wrap (e-d)))] q) (Holds none [] prog 148 (bU (bB (lB (bB (aQ (body f97)))))) (aL 1 aC.u1 Q) [(0,.slice a b c),(1,.int .i64 d),(2,.int .i64 e),(3,.int .i64 f),(4,.func (.func 73) #[.pointer g] #[]),(10,.bool i),(11,.bool j),(12,.int .i64 (i64.wrap (e-d)))] w)))
theorem aC.b1:(aW none [] prog 148 aC.k (lB (bB (aQ (body f97)))) aC.u1 Q [(0,.slice a b c),(1,.int .i64 d),(2,.int .i64 e),(3,.int .i64 f),(4,.func (.func 73) #[.pointer g] #[]),(10,.bool i),(11,.bool j)] w)=aC.B1 a b c d e f g i j Q w:=by kernel_rfl
variable{a b c g}
theorem aC.cC(I:Int×Int×Int×Bool×Bool->World->Prop)(μ:Int×Int×Int×Bool×Bool->World->Nat)(s:Int×Int×Int×Bool×Bool){Q:aO}{w:World}(h0:I s w)
 (round:∀s w,I s w->aC.B1 a b c (s.1) (s.2.1) (s.2.2.1) g (s.2.2.2.1) (s.2.2.2.2) (bR (aC.e1 a b c g) I μ s w Q) w):Holds none [] prog 148 (.loop (lB (bB (aQ (body f97))))) Q (aC.e1 a b c g s) w:=
 bp ng mix (aC.e1 a b c g) I μ aC.k aC.u1 s (fun s Q w=>aC.B1 a b c (s.1) (s.2.1) (s.2.2.1) g (s.2.2.2.1) (s.2.2.2.2) Q w) (fun s Q w=>aC.b1 a b c (s.1) (s.2.1) (s.2.2.1) g (s.2.2.2.1) (s.2.2.2.2) Q w) h0 round
end
section
variable(a:OA)(b c:Nat)(d e f:Int)(g:OA)(i j:Bool)(k:Int)(Q:aO)(w:World)
def aC.J1:Prop:=
 bC prog 130 #[.slice a b c,.int .i64 d,.int .i64 e,.func (.func 73) #[.pointer g] #[]] w fun m n=>∃o p:Int,m=.tuple #[.int .i64 o,.int .i64 p]/\Holds none [] prog 148 (bU (sR (bB (lB (bB (aQ (body f97))))))) (aL 1 aC.u1 Q) [(0,.slice a b c),(1,.int .i64 d),(2,.int .i64 e),(3,.int .i64 f),(4,.func (.func 73) #[.pointer g] #[]),(10,.bool i),(11,.bool j),(12,.int .i64 k),(13,.int .i64 o),(14,.int .i64 p)] n
theorem aC.j1:(aW none [] prog 148 aC.k (bU (bB (lB (bB (aQ (body f97)))))) aC.u1 (aL 1 aC.u1 Q) [(0,.slice a b c),(1,.int .i64 d),(2,.int .i64 e),(3,.int .i64 f),(4,.func (.func 73) #[.pointer g] #[]),(10,.bool i),(11,.bool j),(12,.int .i64 k)] w)=aC.J1 a b c d e f g i j k Q w:=by kernel_rfl
variable{a b c d e f g i j k Q w}
theorem aC.mF(h:aC.J1 a b c d e f g i j k Q w):Holds none [] prog 148 (bU (bB (lB (bB (aQ (body f97)))))) (aL 1 aC.u1 Q) [(0,.slice a b c),(1,.int .i64 d),(2,.int .i64 e),(3,.int .i64 f),(4,.func (.func 73) #[.pointer g] #[]),(10,.bool i),(11,.bool j),(12,.int .i64 k)] w:=
 cZ (C:=aC.k) ng mix (aC.j1 a b c d e f g i j k Q w) h
end
section
variable(a:OA)(b c:Nat)(d e f:Int)(g:OA)(i j:Bool)(k m n:Int)(Q:aO)(w:World)
def aC.J2:Prop:=
 Split (n==(2:Int)) (bC prog 131 #[.slice a b c,.int .i64 d,.int .i64 e,.func (.func 73) #[.pointer g] #[]] w fun o p=>o=.tuple #[]/\Holds none [] prog 148 (sR (cT (sR (sL (bU (sR (bB (lB (bB (aQ (body f97))))))))))) (bV (fun b6 w_=>match cutAt aC.k (bU (aQ (bB (lB (bB (aQ (body f97)))))))with|true=>Holds none [] prog 148 (bU (aQ (bB (lB (bB (aQ (body f97))))))) (aL 1 aC.u1 Q) b6 w_|false=>aW none [] prog 148 aC.k (bU (aQ (bB (lB (bB (aQ (body f97))))))) aC.u1 (aL 1 aC.u1 Q) b6 w_) (aL 1 aC.u1 Q)) [(0,.slice a b c),(1,.int .i64 d),(2,.int .i64 e),(3,.int .i64 f),(4,.func (.func 73) #[.pointer g] #[]),(10,.bool i),(11,.bool j),(12,.int .i64 k),(13,.int .i64 m),(14,.int .i64 n)] p) (Holds none [] prog 148 (bU (aQ (bB (lB (bB (aQ (body f97))))))) (aL 1 aC.u1 Q) [(0,.slice a b c),(1,.int .i64 d),(2,.int .i64 e),(3,.int .i64 f),(4,.func (.func 73) #[.pointer g] #[]),(10,.bool i),(11,.bool j),(12,.int .i64 k),(13,.int .i64 m),(14,.int .i64 n)] w)
theorem aC.j2:(aW none [] prog 148 aC.k (bU (sR (bB (lB (bB (aQ (body f97))))))) aC.u1 (aL 1 aC.u1 Q) [(0,.slice a b c),(1,.int .i64 d),(2,.int .i64 e),(3,.int .i64 f),(4,.func (.func 73) #[.pointer g] #[]),(10,.bool i),(11,.bool j),(12,.int .i64 k),(13,.int .i64 m),(14,.int .i64 n)] w)=aC.J2 a b c d e f g i j k m n Q w:=by kernel_rfl
variable{a b c d e f g i j k m n Q w}
theorem aC.qM(h:aC.J2 a b c d e f g i j k m n Q w):Holds none [] prog 148 (bU (sR (bB (lB (bB (aQ (body f97))))))) (aL 1 aC.u1 Q) [(0,.slice a b c),(1,.int .i64 d),(2,.int .i64 e),(3,.int .i64 f),(4,.func (.func 73) #[.pointer g] #[]),(10,.bool i),(11,.bool j),(12,.int .i64 k),(13,.int .i64 m),(14,.int .i64 n)] w:=
 cZ (C:=aC.k) ng mix (aC.j2 a b c d e f g i j k m n Q w) h
end
section
variable(a:OA)(b c:Nat)(d e f:Int)(g:OA)(i j:Bool)(k m n:Int)(Q:aO)(w:World)
def aC.J3:Prop:=
 Holds none [] prog 148 (aQ (cT (sR (sL (bU (sR (bB (lB (bB (aQ (body f97))))))))))) (bV (fun b6 w_=>match cutAt aC.k (bU (aQ (bB (lB (bB (aQ (body f97)))))))with|true=>Holds none [] prog 148 (bU (aQ (bB (lB (bB (aQ (body f97))))))) (aL 1 aC.u1 Q) b6 w_|false=>aW none [] prog 148 aC.k (bU (aQ (bB (lB (bB (aQ (body f97))))))) aC.u1 (aL 1 aC.u1 Q) b6 w_) (aL 1 aC.u1 Q)) [(0,.slice a b c),(1,.int .i64 d),(2,.int .i64 e),(3,.int .i64 f),(4,.func (.func 73) #[.pointer g] #[]),(10,.bool i),(11,.bool j),(12,.int .i64 k),(13,.int .i64 (i64.wrap ((i64.wrap (e-(1:Int)))-(i64.wrap (m-d))))),(14,.int .i64 n)] w
theorem aC.j3:(aW none [] prog 148 aC.k (sR (cT (sR (sL (bU (sR (bB (lB (bB (aQ (body f97))))))))))) (ck (bU (aQ (bB (lB (bB (aQ (body f97)))))))++aC.u1) (bV (fun b6 w_=>match cutAt aC.k (bU (aQ (bB (lB (bB (aQ (body f97)))))))with|true=>Holds none [] prog 148 (bU (aQ (bB (lB (bB (aQ (body f97))))))) (aL 1 aC.u1 Q) b6 w_|false=>aW none [] prog 148 aC.k (bU (aQ (bB (lB (bB (aQ (body f97))))))) aC.u1 (aL 1 aC.u1 Q) b6 w_) (aL 1 aC.u1 Q)) [(0,.slice a b c),(1,.int .i64 d),(2,.int .i64 e),(3,.int .i64 f),(4,.func (.func 73) #[.pointer g] #[]),(10,.bool i),(11,.bool j),(12,.int .i64 k),(13,.int .i64 m),(14,.int .i64 n)] w)=aC.J3 a b c d e f g i j k m n Q w:=by kernel_rfl
variable{a b c d e f g i j k m n Q w}
theorem aC.Uv(h:aC.J3 a b c d e f g i j k m n Q w):Holds none [] prog 148 (sR (cT (sR (sL (bU (sR (bB (lB (bB (aQ (body f97))))))))))) (bV (fun b6 w_=>match cutAt aC.k (bU (aQ (bB (lB (bB (aQ (body f97)))))))with|true=>Holds none [] prog 148 (bU (aQ (bB (lB (bB (aQ (body f97))))))) (aL 1 aC.u1 Q) b6 w_|false=>aW none [] prog 148 aC.k (bU (aQ (bB (lB (bB (aQ (body f97))))))) aC.u1 (aL 1 aC.u1 Q) b6 w_) (aL 1 aC.u1 Q)) [(0,.slice a b c),(1,.int .i64 d),(2,.int .i64 e),(3,.int .i64 f),(4,.func (.func 73) #[.pointer g] #[]),(10,.bool i),(11,.bool j),(12,.int .i64 k),(13,.int .i64 m),(14,.int .i64 n)] w:=
 cZ (C:=aC.k) ng mix (aC.j3 a b c d e f g i j k m n Q w) h
end
section
variable(a:OA)(b c:Nat)(d e f:Int)(g:OA)(i j:Bool)(k m n:Int)(Q:aO)(w:World)
def aC.J4:Prop:=
 Split i (Split j (Split (n==(1:Int)) (bC prog 132 #[.slice a b c,.int .i64 d,.int .i64 e,.func (.func 73) #[.pointer g] #[]] w fun o p=>∃q:Bool,o=.bool q/\Split q (Q .ret [(0,.slice a b c),(1,.int .i64 d),(2,.int .i64 e),(3,.int .i64 f),(4,.func (.func 73) #[.pointer g] #[]),(10,.bool i),(11,.bool j),(12,.int .i64 k),(13,.int .i64 m)] p) (Holds none [] prog 148 (bU (aQ (sR (bB (lB (bB (aQ (body f97)))))))) (aL 1 aC.u1 Q) [(0,.slice a b c),(1,.int .i64 d),(2,.int .i64 e),(3,.int .i64 f),(4,.func (.func 73) #[.pointer g] #[]),(10,.bool i),(11,.bool j),(12,.int .i64 k),(13,.int .i64 m)] p)) (Holds none [] prog 148 (bU (aQ (sR (bB (lB (bB (aQ (body f97)))))))) (aL 1 aC.u1 Q) [(0,.slice a b c),(1,.int .i64 d),(2,.int .i64 e),(3,.int .i64 f),(4,.func (.func 73) #[.pointer g] #[]),(10,.bool i),(11,.bool j),(12,.int .i64 k),(13,.int .i64 m)] w)) (Holds none [] prog 148 (bU (aQ (sR (bB (lB (bB (aQ (body f97)))))))) (aL 1 aC.u1 Q) [(0,.slice a b c),(1,.int .i64 d),(2,.int .i64 e),(3,.int .i64 f),(4,.func (.func 73) #[.pointer g] #[]),(10,.bool i),(11,.bool j),(12,.int .i64 k),(13,.int .i64 m)] w)) (Holds none [] prog 148 (bU (aQ (sR (bB (lB (bB (aQ (body f97)))))))) (aL 1 aC.u1 Q) [(0,.slice a b c),(1,.int .i64 d),(2,.int .i64 e),(3,.int .i64 f),(4,.func (.func 73) #[.pointer g] #[]),(10,.bool i),(11,.bool j),(12,.int .i64 k),(13,.int .i64 m)] w)
theorem aC.j4:(aW none [] prog 148 aC.k (bU (aQ (bB (lB (bB (aQ (body f97))))))) aC.u1 (aL 1 aC.u1 Q) [(0,.slice a b c),(1,.int .i64 d),(2,.int .i64 e),(3,.int .i64 f),(4,.func (.func 73) #[.pointer g] #[]),(10,.bool i),(11,.bool j),(12,.int .i64 k),(13,.int .i64 m),(14,.int .i64 n)] w)=aC.J4 a b c d e f g i j k m n Q w:=by kernel_rfl
variable{a b c d e f g i j k m n Q w}
theorem aC.Nc(h:aC.J4 a b c d e f g i j k m n Q w):Holds none [] prog 148 (bU (aQ (bB (lB (bB (aQ (body f97))))))) (aL 1 aC.u1 Q) [(0,.slice a b c),(1,.int .i64 d),(2,.int .i64 e),(3,.int .i64 f),(4,.func (.func 73) #[.pointer g] #[]),(10,.bool i),(11,.bool j),(12,.int .i64 k),(13,.int .i64 m),(14,.int .i64 n)] w:=
 cZ (C:=aC.k) ng mix (aC.j4 a b c d e f g i j k m n Q w) h
end
section
def aC.J5(a:OA)(b c:Nat)(d e f:Int)(g:OA)(i j:Bool)(k m n:Int)(Q:aO)(w:World):Prop:=
 Holds none [] prog 148 (bU (aQ (bB (lB (bB (aQ (body f97))))))) (aL 1 aC.u1 Q) [(0,.slice a b c),(1,.int .i64 d),(2,.int .i64 e),(3,.int .i64 f),(4,.func (.func 73) #[.pointer g] #[]),(10,.bool i),(11,.bool j),(12,.int .i64 k),(13,.int .i64 m),(14,.int .i64 1)] w
variable(a:OA)(b c:Nat)(d e f:Int)(g:OA)(i j:Bool)(k m n:Int)(Q:aO)(w:World)
theorem aC.j5:(aW none [] prog 148 aC.k (aQ (cT (sR (sL (bU (sR (bB (lB (bB (aQ (body f97))))))))))) (ck (bU (aQ (bB (lB (bB (aQ (body f97)))))))++aC.u1) (bV (fun b6 w_=>match cutAt aC.k (bU (aQ (bB (lB (bB (aQ (body f97)))))))with|true=>Holds none [] prog 148 (bU (aQ (bB (lB (bB (aQ (body f97))))))) (aL 1 aC.u1 Q) b6 w_|false=>aW none [] prog 148 aC.k (bU (aQ (bB (lB (bB (aQ (body f97))))))) aC.u1 (aL 1 aC.u1 Q) b6 w_) (aL 1 aC.u1 Q)) [(0,.slice a b c),(1,.int .i64 d),(2,.int .i64 e),(3,.int .i64 f),(4,.func (.func 73) #[.pointer g] #[]),(10,.bool i),(11,.bool j),(12,.int .i64 k),(13,.int .i64 m),(14,.int .i64 n)] w)=aC.J5 a b c d e f g i j k m n Q w:=by kernel_rfl
variable{a b c d e f g i j k m n Q w}
theorem aC.Uu(h:aC.J5 a b c d e f g i j k m n Q w):Holds none [] prog 148 (aQ (cT (sR (sL (bU (sR (bB (lB (bB (aQ (body f97))))))))))) (bV (fun b6 w_=>match cutAt aC.k (bU (aQ (bB (lB (bB (aQ (body f97)))))))with|true=>Holds none [] prog 148 (bU (aQ (bB (lB (bB (aQ (body f97))))))) (aL 1 aC.u1 Q) b6 w_|false=>aW none [] prog 148 aC.k (bU (aQ (bB (lB (bB (aQ (body f97))))))) aC.u1 (aL 1 aC.u1 Q) b6 w_) (aL 1 aC.u1 Q)) [(0,.slice a b c),(1,.int .i64 d),(2,.int .i64 e),(3,.int .i64 f),(4,.func (.func 73) #[.pointer g] #[]),(10,.bool i),(11,.bool j),(12,.int .i64 k),(13,.int .i64 m),(14,.int .i64 n)] w:=
 cZ (C:=aC.k) ng mix (aC.j5 a b c d e f g i j k m n Q w) h
end
section
variable(a:OA)(b c:Nat)(d e f:Int)(g:OA)(i j:Bool)(k m:Int)(Q:aO)(w:World)
def aC.J6:Prop:=
 let n:=w.drew;Split (decide (d>(0:Int))) ((0<=(i64.wrap (d-(1:Int)))/\(i64.wrap (d-(1:Int)))<(b:Int))/\Is a fun o:Addr=>∃p:AV,(p.size=32/\Cells n (o.add ((i64.wrap (d-(1:Int))).toNat*32)) p)/\(0<=m/\m<(b:Int))/\Is a fun q:Addr=>∃r:AV,(r.size=32/\Cells n (q.add (m.toNat*32)) r)/\bC prog 73 #[.pointer g,.agg p,.agg r] n fun t u=>∃v:Int,t=.int .i64 v/\Split (!(decide (v<(0:Int)))) (bC prog 133 #[.slice a b c,.int .i64 d,.int .i64 e,.int .i64 m,.func (.func 73) #[.pointer g] #[]] u fun x y=>∃z:Int,x=.int .i64 z/\Q .normal [(0,.slice a b c),(1,.int .i64 z),(2,.int .i64 e),(3,.int .i64 f),(4,.func (.func 73) #[.pointer g] #[]),(10,.bool i),(11,.bool j)] y) (Holds none [] prog 148 (fk (bB (lB (bB (aQ (body f97)))))) (aL 1 aC.u1 Q) [(0,.slice a b c),(1,.int .i64 d),(2,.int .i64 e),(3,.int .i64 f),(4,.func (.func 73) #[.pointer g] #[]),(10,.bool i),(11,.bool j),(12,.int .i64 k),(13,.int .i64 m)] u)) (Holds none [] prog 148 (fk (bB (lB (bB (aQ (body f97)))))) (aL 1 aC.u1 Q) [(0,.slice a b c),(1,.int .i64 d),(2,.int .i64 e),(3,.int .i64 f),(4,.func (.func 73) #[.pointer g] #[]),(10,.bool i),(11,.bool j),(12,.int .i64 k),(13,.int .i64 m)] n)
theorem aC.j6:(aW none [] prog 148 aC.k (bU (aQ (sR (bB (lB (bB (aQ (body f97)))))))) aC.u1 (aL 1 aC.u1 Q) [(0,.slice a b c),(1,.int .i64 d),(2,.int .i64 e),(3,.int .i64 f),(4,.func (.func 73) #[.pointer g] #[]),(10,.bool i),(11,.bool j),(12,.int .i64 k),(13,.int .i64 m)] w)=aC.J6 a b c d e f g i j k m Q w:=by kernel_rfl
variable{a b c d e f g i j k m Q w}
theorem aC.Nb(h:aC.J6 a b c d e f g i j k m Q w):Holds none [] prog 148 (bU (aQ (sR (bB (lB (bB (aQ (body f97)))))))) (aL 1 aC.u1 Q) [(0,.slice a b c),(1,.int .i64 d),(2,.int .i64 e),(3,.int .i64 f),(4,.func (.func 73) #[.pointer g] #[]),(10,.bool i),(11,.bool j),(12,.int .i64 k),(13,.int .i64 m)] w:=
 cZ (C:=aC.k) ng mix (aC.j6 a b c d e f g i j k m Q w) h
end
section
variable(a:OA)(b c:Nat)(d e f:Int)(g:OA)(i j:Bool)(k m:Int)(Q:aO)(w:World)
def aC.J7:Prop:=
 bC prog 134 #[.slice a b c,.int .i64 d,.int .i64 e,.int .i64 m,.func (.func 73) #[.pointer g] #[]] w fun n o=>∃p:Int,∃q:Bool,n=.tuple #[.int .i64 p,.bool q]/\Holds none [] prog 148 (fk (sR (bB (lB (bB (aQ (body f97))))))) (aL 1 aC.u1 Q) [(0,.slice a b c),(1,.int .i64 d),(2,.int .i64 e),(3,.int .i64 f),(4,.func (.func 73) #[.pointer g] #[]),(10,.bool i),(11,.bool j),(12,.int .i64 k),(16,.int .i64 p),(17,.bool q)] o
theorem aC.j7:(aW none [] prog 148 aC.k (fk (bB (lB (bB (aQ (body f97)))))) aC.u1 (aL 1 aC.u1 Q) [(0,.slice a b c),(1,.int .i64 d),(2,.int .i64 e),(3,.int .i64 f),(4,.func (.func 73) #[.pointer g] #[]),(10,.bool i),(11,.bool j),(12,.int .i64 k),(13,.int .i64 m)] w)=aC.J7 a b c d e f g i j k m Q w:=by kernel_rfl
variable{a b c d e f g i j k m Q w}
theorem aC.Na(h:aC.J7 a b c d e f g i j k m Q w):Holds none [] prog 148 (fk (bB (lB (bB (aQ (body f97)))))) (aL 1 aC.u1 Q) [(0,.slice a b c),(1,.int .i64 d),(2,.int .i64 e),(3,.int .i64 f),(4,.func (.func 73) #[.pointer g] #[]),(10,.bool i),(11,.bool j),(12,.int .i64 k),(13,.int .i64 m)] w:=
 cZ (C:=aC.k) ng mix (aC.j7 a b c d e f g i j k m Q w) h
end
section
def aC.J8(a:OA)(b c:Nat)(d e f:Int)(g:OA)(i j:Bool)(k m:Int)(n:Bool)(Q:aO)(w:World):Prop:=
 Holds none [] prog 148 (fk (aQ (bB (lB (bB (aQ (body f97))))))) (aL 1 aC.u1 Q) [(0,.slice a b c),(1,.int .i64 d),(2,.int .i64 e),(3,.int .i64 f),(4,.func (.func 73) #[.pointer g] #[]),(10,.bool i),(11,.bool n),(12,.int .i64 k),(16,.int .i64 m)] w
variable(a:OA)(b c:Nat)(d e f:Int)(g:OA)(i j:Bool)(k m:Int)(n:Bool)(Q:aO)(w:World)
theorem aC.j8:(aW none [] prog 148 aC.k (fk (sR (bB (lB (bB (aQ (body f97))))))) aC.u1 (aL 1 aC.u1 Q) [(0,.slice a b c),(1,.int .i64 d),(2,.int .i64 e),(3,.int .i64 f),(4,.func (.func 73) #[.pointer g] #[]),(10,.bool i),(11,.bool j),(12,.int .i64 k),(16,.int .i64 m),(17,.bool n)] w)=aC.J8 a b c d e f g i j k m n Q w:=by kernel_rfl
variable{a b c d e f g i j k m n Q w}
theorem aC.Ut(h:aC.J8 a b c d e f g i j k m n Q w):Holds none [] prog 148 (fk (sR (bB (lB (bB (aQ (body f97))))))) (aL 1 aC.u1 Q) [(0,.slice a b c),(1,.int .i64 d),(2,.int .i64 e),(3,.int .i64 f),(4,.func (.func 73) #[.pointer g] #[]),(10,.bool i),(11,.bool j),(12,.int .i64 k),(16,.int .i64 m),(17,.bool n)] w:=
 cZ (C:=aC.k) ng mix (aC.j8 a b c d e f g i j k m n Q w) h
end
section
variable(a:OA)(b c:Nat)(d e f:Int)(g:OA)(i j:Bool)(k m:Int)(Q:aO)(w:World)
def aC.J9:Prop:=
 Holds none [] prog 148 (fk (aQ (sR (bB (lB (bB (aQ (body f97)))))))) (aL 1 aC.u1 Q) [(0,.slice a b c),(1,.int .i64 d),(2,.int .i64 e),(3,.int .i64 f),(4,.func (.func 73) #[.pointer g] #[]),(10,.bool i),(11,.bool j),(12,.int .i64 k),(16,.int .i64 m),(18,.int .i64 (i64.wrap (m-d))),(19,.int .i64 (i64.wrap (e-m)))] w
theorem aC.j9:(aW none [] prog 148 aC.k (fk (aQ (bB (lB (bB (aQ (body f97))))))) aC.u1 (aL 1 aC.u1 Q) [(0,.slice a b c),(1,.int .i64 d),(2,.int .i64 e),(3,.int .i64 f),(4,.func (.func 73) #[.pointer g] #[]),(10,.bool i),(11,.bool j),(12,.int .i64 k),(16,.int .i64 m)] w)=aC.J9 a b c d e f g i j k m Q w:=by kernel_rfl
variable{a b c d e f g i j k m Q w}
theorem aC.Us(h:aC.J9 a b c d e f g i j k m Q w):Holds none [] prog 148 (fk (aQ (bB (lB (bB (aQ (body f97))))))) (aL 1 aC.u1 Q) [(0,.slice a b c),(1,.int .i64 d),(2,.int .i64 e),(3,.int .i64 f),(4,.func (.func 73) #[.pointer g] #[]),(10,.bool i),(11,.bool j),(12,.int .i64 k),(16,.int .i64 m)] w:=
 cZ (C:=aC.k) ng mix (aC.j9 a b c d e f g i j k m Q w) h
end
section
variable(a:OA)(b c:Nat)(d e f:Int)(g:OA)(i j:Bool)(k m n o:Int)(Q:aO)(w:World)
def aC.J10:Prop:=
 (8:Int)≠0/\Holds none [] prog 148 (fk (bU (bB (lB (bB (aQ (body f97))))))) (aL 1 aC.u1 Q) [(0,.slice a b c),(1,.int .i64 d),(2,.int .i64 e),(3,.int .i64 f),(4,.func (.func 73) #[.pointer g] #[]),(10,.bool i),(11,.bool j),(16,.int .i64 m),(18,.int .i64 n),(19,.int .i64 o),(20,.int .i64 (i64.wrap (k.tdiv (8:Int))))] w
theorem aC.j10:(aW none [] prog 148 aC.k (fk (aQ (sR (bB (lB (bB (aQ (body f97)))))))) aC.u1 (aL 1 aC.u1 Q) [(0,.slice a b c),(1,.int .i64 d),(2,.int .i64 e),(3,.int .i64 f),(4,.func (.func 73) #[.pointer g] #[]),(10,.bool i),(11,.bool j),(12,.int .i64 k),(16,.int .i64 m),(18,.int .i64 n),(19,.int .i64 o)] w)=aC.J10 a b c d e f g i j k m n o Q w:=by kernel_rfl
variable{a b c d e f g i j k m n o Q w}
theorem aC.PR(h:aC.J10 a b c d e f g i j k m n o Q w):Holds none [] prog 148 (fk (aQ (sR (bB (lB (bB (aQ (body f97)))))))) (aL 1 aC.u1 Q) [(0,.slice a b c),(1,.int .i64 d),(2,.int .i64 e),(3,.int .i64 f),(4,.func (.func 73) #[.pointer g] #[]),(10,.bool i),(11,.bool j),(12,.int .i64 k),(16,.int .i64 m),(18,.int .i64 n),(19,.int .i64 o)] w:=
 cZ (C:=aC.k) ng mix (aC.j10 a b c d e f g i j k m n o Q w) h
end
section
def aC.J11(a:OA)(b c:Nat)(d e f:Int)(g:OA)(i j:Bool)(k m n o:Int)(Q:aO)(w:World):Prop:=
 Split (decide (m<n)) (Holds none [] prog 148 (sR (cT (fk (bU (sR (bB (lB (bB (aQ (body f97)))))))))) (aL 1 aC.u1 Q) [(0,.slice a b c),(1,.int .i64 d),(2,.int .i64 e),(3,.int .i64 f),(4,.func (.func 73) #[.pointer g] #[]),(10,.bool (decide (m>=o))),(11,.bool j),(16,.int .i64 k)] w) (Holds none [] prog 148 (sR (cE (fk (bU (sR (bB (lB (bB (aQ (body f97)))))))))) (aL 1 aC.u1 Q) [(0,.slice a b c),(1,.int .i64 d),(2,.int .i64 e),(3,.int .i64 f),(4,.func (.func 73) #[.pointer g] #[]),(10,.bool (decide (n>=o))),(11,.bool j),(16,.int .i64 k)] w)
variable(a:OA)(b c:Nat)(d e f:Int)(g:OA)(i j:Bool)(k m n o:Int)(Q:aO)(w:World)
theorem aC.j11:(aW none [] prog 148 aC.k (fk (bU (bB (lB (bB (aQ (body f97))))))) aC.u1 (aL 1 aC.u1 Q) [(0,.slice a b c),(1,.int .i64 d),(2,.int .i64 e),(3,.int .i64 f),(4,.func (.func 73) #[.pointer g] #[]),(10,.bool i),(11,.bool j),(16,.int .i64 k),(18,.int .i64 m),(19,.int .i64 n),(20,.int .i64 o)] w)=aC.J11 a b c d e f g i j k m n o Q w:=by kernel_rfl
variable{a b c d e f g i j k m n o Q w}
theorem aC.PQ(h:aC.J11 a b c d e f g i j k m n o Q w):Holds none [] prog 148 (fk (bU (bB (lB (bB (aQ (body f97))))))) (aL 1 aC.u1 Q) [(0,.slice a b c),(1,.int .i64 d),(2,.int .i64 e),(3,.int .i64 f),(4,.func (.func 73) #[.pointer g] #[]),(10,.bool i),(11,.bool j),(16,.int .i64 k),(18,.int .i64 m),(19,.int .i64 n),(20,.int .i64 o)] w:=
 cZ (C:=aC.k) ng mix (aC.j11 a b c d e f g i j k m n o Q w) h
end
section
variable(a:OA)(b c:Nat)(d e f:Int)(g:OA)(i j:Bool)(k:Int)(Q:aO)(w:World)
def aC.J12:Prop:=
 bC prog 97 #[.slice a b c,.int .i64 d,.int .i64 k,.int .i64 f,.func (.func 73) #[.pointer g] #[]] w fun m n=>m=.tuple #[]/\Holds none [] prog 148 (aQ (cT (fk (bU (sR (bB (lB (bB (aQ (body f97)))))))))) (aL 1 aC.u1 Q) [(0,.slice a b c),(1,.int .i64 d),(2,.int .i64 e),(3,.int .i64 f),(4,.func (.func 73) #[.pointer g] #[]),(10,.bool i),(11,.bool j),(16,.int .i64 k)] n
theorem aC.j12:(aW none [] prog 148 aC.k (sR (cT (fk (bU (sR (bB (lB (bB (aQ (body f97)))))))))) aC.u1 (aL 1 aC.u1 Q) [(0,.slice a b c),(1,.int .i64 d),(2,.int .i64 e),(3,.int .i64 f),(4,.func (.func 73) #[.pointer g] #[]),(10,.bool i),(11,.bool j),(16,.int .i64 k)] w)=aC.J12 a b c d e f g i j k Q w:=by kernel_rfl
variable{a b c d e f g i j k Q w}
theorem aC.PO(h:aC.J12 a b c d e f g i j k Q w):Holds none [] prog 148 (sR (cT (fk (bU (sR (bB (lB (bB (aQ (body f97)))))))))) (aL 1 aC.u1 Q) [(0,.slice a b c),(1,.int .i64 d),(2,.int .i64 e),(3,.int .i64 f),(4,.func (.func 73) #[.pointer g] #[]),(10,.bool i),(11,.bool j),(16,.int .i64 k)] w:=
 cZ (C:=aC.k) ng mix (aC.j12 a b c d e f g i j k Q w) h
end
section
variable(a:OA)(b c:Nat)(d e f:Int)(g:OA)(i j:Bool)(k:Int)(Q:aO)(w:World)
def aC.J13:Prop:=
 bC prog 97 #[.slice a b c,.int .i64 (i64.wrap (k+(1:Int))),.int .i64 e,.int .i64 f,.func (.func 73) #[.pointer g] #[]] w fun m n=>m=.tuple #[]/\Holds none [] prog 148 (aQ (cE (fk (bU (sR (bB (lB (bB (aQ (body f97)))))))))) (aL 1 aC.u1 Q) [(0,.slice a b c),(1,.int .i64 d),(2,.int .i64 e),(3,.int .i64 f),(4,.func (.func 73) #[.pointer g] #[]),(10,.bool i),(11,.bool j),(16,.int .i64 k)] n
theorem aC.j13:(aW none [] prog 148 aC.k (sR (cE (fk (bU (sR (bB (lB (bB (aQ (body f97)))))))))) aC.u1 (aL 1 aC.u1 Q) [(0,.slice a b c),(1,.int .i64 d),(2,.int .i64 e),(3,.int .i64 f),(4,.func (.func 73) #[.pointer g] #[]),(10,.bool i),(11,.bool j),(16,.int .i64 k)] w)=aC.J13 a b c d e f g i j k Q w:=by kernel_rfl
variable{a b c d e f g i j k Q w}
theorem aC.PM(h:aC.J13 a b c d e f g i j k Q w):Holds none [] prog 148 (sR (cE (fk (bU (sR (bB (lB (bB (aQ (body f97)))))))))) (aL 1 aC.u1 Q) [(0,.slice a b c),(1,.int .i64 d),(2,.int .i64 e),(3,.int .i64 f),(4,.func (.func 73) #[.pointer g] #[]),(10,.bool i),(11,.bool j),(16,.int .i64 k)] w:=
 cZ (C:=aC.k) ng mix (aC.j13 a b c d e f g i j k Q w) h
end
section
def aC.J14(a:OA)(b c:Nat)(d e f:Int)(g:OA)(i j:Bool)(k:Int)(Q:aO)(w:World):Prop:=
 Q .normal [(0,.slice a b c),(1,.int .i64 (i64.wrap (k+(1:Int)))),(2,.int .i64 e),(3,.int .i64 f),(4,.func (.func 73) #[.pointer g] #[]),(10,.bool i),(11,.bool j)] w
variable(a:OA)(b c:Nat)(d e f:Int)(g:OA)(i j:Bool)(k:Int)(Q:aO)(w:World)
theorem aC.j14:(aW none [] prog 148 aC.k (aQ (cT (fk (bU (sR (bB (lB (bB (aQ (body f97)))))))))) aC.u1 (aL 1 aC.u1 Q) [(0,.slice a b c),(1,.int .i64 d),(2,.int .i64 e),(3,.int .i64 f),(4,.func (.func 73) #[.pointer g] #[]),(10,.bool i),(11,.bool j),(16,.int .i64 k)] w)=aC.J14 a b c d e f g i j k Q w:=by kernel_rfl
variable{a b c d e f g i j k Q w}
theorem aC.PL(h:aC.J14 a b c d e f g i j k Q w):Holds none [] prog 148 (aQ (cT (fk (bU (sR (bB (lB (bB (aQ (body f97)))))))))) (aL 1 aC.u1 Q) [(0,.slice a b c),(1,.int .i64 d),(2,.int .i64 e),(3,.int .i64 f),(4,.func (.func 73) #[.pointer g] #[]),(10,.bool i),(11,.bool j),(16,.int .i64 k)] w:=
 cZ (C:=aC.k) ng mix (aC.j14 a b c d e f g i j k Q w) h
end
section
def aC.J15(a:OA)(b c:Nat)(d e f:Int)(g:OA)(i j:Bool)(k:Int)(Q:aO)(w:World):Prop:=
 Q .normal [(0,.slice a b c),(1,.int .i64 d),(2,.int .i64 k),(3,.int .i64 f),(4,.func (.func 73) #[.pointer g] #[]),(10,.bool i),(11,.bool j)] w
variable(a:OA)(b c:Nat)(d e f:Int)(g:OA)(i j:Bool)(k:Int)(Q:aO)(w:World)
theorem aC.j15:(aW none [] prog 148 aC.k (aQ (cE (fk (bU (sR (bB (lB (bB (aQ (body f97)))))))))) aC.u1 (aL 1 aC.u1 Q) [(0,.slice a b c),(1,.int .i64 d),(2,.int .i64 e),(3,.int .i64 f),(4,.func (.func 73) #[.pointer g] #[]),(10,.bool i),(11,.bool j),(16,.int .i64 k)] w)=aC.J15 a b c d e f g i j k Q w:=by kernel_rfl
variable{a b c d e f g i j k Q w}
theorem aC.PK(h:aC.J15 a b c d e f g i j k Q w):Holds none [] prog 148 (aQ (cE (fk (bU (sR (bB (lB (bB (aQ (body f97)))))))))) (aL 1 aC.u1 Q) [(0,.slice a b c),(1,.int .i64 d),(2,.int .i64 e),(3,.int .i64 f),(4,.func (.func 73) #[.pointer g] #[]),(10,.bool i),(11,.bool j),(16,.int .i64 k)] w:=
 cZ (C:=aC.k) ng mix (aC.j15 a b c d e f g i j k Q w) h
end
def cH.k:List Nat:= []
def cH.q1(K:KT):aO:=(aL 0 (aS f127) (bS prog f127 K))
def cH.e1(a:OA)(b c:Nat)(d e:Int)(f:OA)(s:Int):Env:= [(0,.slice a b c),(1,.int .i64 d),(2,.int .i64 e),(3,.func (.func 73) #[.pointer f] #[]),(8,.int .i64 s)]
def cH.u1:List Nat:= [0,1,2,3,8]
def cH.q2(Q:aO):aO:=(aL 2 (ck (aQ (lB (bB (sR (body f127)))))++cH.u1) (aL 1 (ck (aQ (lB (bB (sR (body f127)))))++cH.u1) (bV (fun b6 w_=>match cutAt cH.k (aQ (lB (bB (sR (body f127)))))with|true=>Holds none [] prog 53 (aQ (lB (bB (sR (body f127))))) Q b6 w_|false=>aW none [] prog 53 cH.k (aQ (lB (bB (sR (body f127))))) cH.u1 Q b6 w_) Q)))
def cH.e2(a:OA)(b c:Nat)(d e:Int)(f:OA)(g s:Int):Env:= [(0,.slice a b c),(1,.int .i64 d),(2,.int .i64 e),(3,.func (.func 73) #[.pointer f] #[]),(8,.int .i64 g),(9,.int .i64 s)]
def cH.u2:List Nat:= [0,1,2,3,8,9]
section
variable(a:OA)(b d:Nat)(e f:Int)(g:OA)(K:KT)(w:World)
def cH.W:Prop:=
 Holds none [] prog 53 (.loop (lB (bB (sR (body f127))))) (cH.q1 K) [(0,.slice a b d),(1,.int .i64 e),(2,.int .i64 f),(3,.func (.func 73) #[.pointer g] #[]),(8,.int .i64 (i64.wrap (e+(1:Int))))] w
variable{a b d e f g K w}
theorem cH.of(h:cH.W a b d e f g K w):bC prog 127 #[.slice a b d,.int .i64 e,.int .i64 f,.func (.func 73) #[.pointer g] #[]] w K:=
 rqq func127 (C:=cH.k) h
end
section
variable(a:OA)(b c:Nat)(d e:Int)(f:OA)(g:Int)(Q:aO)(w:World)
def cH.B1:Prop:=
 Split (decide (g<e)) (Holds none [] prog 53 (.loop (lB (bB (sR (bB (sL (sR (lB (bB (sR (body f127))))))))))) (cH.q2 Q) [(0,.slice a b c),(1,.int .i64 d),(2,.int .i64 e),(3,.func (.func 73) #[.pointer f] #[]),(8,.int .i64 g),(9,.int .i64 g)] w) (Q (.exit 0) [(0,.slice a b c),(1,.int .i64 d),(2,.int .i64 e),(3,.func (.func 73) #[.pointer f] #[]),(8,.int .i64 g)] w)
theorem cH.b1:(aW none [] prog 53 cH.k (lB (bB (sR (body f127)))) cH.u1 Q [(0,.slice a b c),(1,.int .i64 d),(2,.int .i64 e),(3,.func (.func 73) #[.pointer f] #[]),(8,.int .i64 g)] w)=cH.B1 a b c d e f g Q w:=by kernel_rfl
variable{a b c d e f}
theorem cH.cC(I:Int->World->Prop)(μ:Int->World->Nat)(s:Int){Q:aO}{w:World}(h0:I s w)
 (round:∀s w,I s w->cH.B1 a b c d e f s (bR (cH.e1 a b c d e f) I μ s w Q) w):Holds none [] prog 53 (.loop (lB (bB (sR (body f127))))) Q (cH.e1 a b c d e f s) w:=
 bp ng mix (cH.e1 a b c d e f) I μ cH.k cH.u1 s (fun s Q w=>cH.B1 a b c d e f s Q w) (fun s Q w=>cH.b1 a b c d e f s Q w) h0 round
end
section
def cH.cU(a:OA)(b c:Nat)(d e:Int)(f:OA)(g:Int)(K:KT)(w:World):Prop:=
 K (.tuple #[]) w
variable(a:OA)(b c:Nat)(d e:Int)(f:OA)(g:Int)(K:KT)(w:World)
theorem cH.df:(cH.q1 K (.exit 0) [(0,.slice a b c),(1,.int .i64 d),(2,.int .i64 e),(3,.func (.func 73) #[.pointer f] #[]),(8,.int .i64 g)] w)=cH.cU a b c d e f g K w:=by kernel_rfl
end
section
variable(a:OA)(b c:Nat)(d e:Int)(f:OA)(g i:Int)(Q:aO)(w:World)
def cH.B2:Prop:=
 let j:=w.drew;Split (decide (i>d)) ((0<=i/\i<(b:Int))/\Is a fun k:Addr=>∃m:AV,(m.size=32/\Cells j (k.add (i.toNat*32)) m)/\(0<=(i64.wrap (i-(1:Int)))/\(i64.wrap (i-(1:Int)))<(b:Int))/\Is a fun n:Addr=>∃o:AV,(o.size=32/\Cells j (n.add ((i64.wrap (i-(1:Int))).toNat*32)) o)/\bC prog 73 #[.pointer f,.agg m,.agg o] j fun p q=>∃r:Int,p=.int .i64 r/\Split (decide (r<(0:Int))) (let t:=q.drew;(0<=(i64.wrap (i-(1:Int)))/\(i64.wrap (i-(1:Int)))<(b:Int))/\Is a fun u:Addr=>∃v:AV,(v.size=32/\Cells t (u.add ((i64.wrap (i-(1:Int))).toNat*32)) v)/\(0<=i/\i<(b:Int))/\Is a fun x:Addr=>∃y:AV,(y.size=32/\Cells t (x.add (i.toNat*32)) y)/\(0<=i/\i<(b:Int))/\Is a fun z:Addr=>(v.size=32/\(∀a1∈v.toList,a1.oneCell'=true)/\∀b1,b1<32->Wr t ((z.add (i.toNat*32)).add b1))/\let c1:=setCells t (z.add (i.toNat*32)) v.toList 0;(0<=(i64.wrap (i-(1:Int)))/\(i64.wrap (i-(1:Int)))<(b:Int))/\Is a fun d1:Addr=>(y.size=32/\(∀e1∈y.toList,e1.oneCell'=true)/\∀f1,f1<32->Wr c1 ((d1.add ((i64.wrap (i-(1:Int))).toNat*32)).add f1))/\let g1:=setCells c1 (d1.add ((i64.wrap (i-(1:Int))).toNat*32)) y.toList 0;Q .normal [(0,.slice a b c),(1,.int .i64 d),(2,.int .i64 e),(3,.func (.func 73) #[.pointer f] #[]),(8,.int .i64 g),(9,.int .i64 (i64.wrap (i-(1:Int))))] g1) (Q (.exit 2) [(0,.slice a b c),(1,.int .i64 d),(2,.int .i64 e),(3,.func (.func 73) #[.pointer f] #[]),(8,.int .i64 g),(9,.int .i64 i)] q)) (Q (.exit 2) [(0,.slice a b c),(1,.int .i64 d),(2,.int .i64 e),(3,.func (.func 73) #[.pointer f] #[]),(8,.int .i64 g),(9,.int .i64 i)] j)
theorem cH.b2:(aW none [] prog 53 cH.k (lB (bB (sR (bB (sL (sR (lB (bB (sR (body f127)))))))))) cH.u2 Q [(0,.slice a b c),(1,.int .i64 d),(2,.int .i64 e),(3,.func (.func 73) #[.pointer f] #[]),(8,.int .i64 g),(9,.int .i64 i)] w)=cH.B2 a b c d e f g i Q w:=by kernel_rfl
variable{a b c d e f g}
theorem cH.gU(I:Int->World->Prop)(μ:Int->World->Nat)(s:Int){Q:aO}{w:World}(h0:I s w)
 (round:∀s w,I s w->cH.B2 a b c d e f g s (bR (cH.e2 a b c d e f g) I μ s w Q) w):Holds none [] prog 53 (.loop (lB (bB (sR (bB (sL (sR (lB (bB (sR (body f127))))))))))) Q (cH.e2 a b c d e f g s) w:=
 bp ng mix (cH.e2 a b c d e f g) I μ cH.k cH.u2 s (fun s Q w=>cH.B2 a b c d e f g s Q w) (fun s Q w=>cH.b2 a b c d e f g s Q w) h0 round
end
section
def cH.iN(a:OA)(b c:Nat)(d e:Int)(f:OA)(g i:Int)(Q:aO)(w:World):Prop:=
 Q .normal [(0,.slice a b c),(1,.int .i64 d),(2,.int .i64 e),(3,.func (.func 73) #[.pointer f] #[]),(8,.int .i64 (i64.wrap (g+(1:Int))))] w
variable(a:OA)(b c:Nat)(d e:Int)(f:OA)(g i:Int)(Q:aO)(w:World)
theorem cH.jN:(cH.q2 Q (.exit 2) [(0,.slice a b c),(1,.int .i64 d),(2,.int .i64 e),(3,.func (.func 73) #[.pointer f] #[]),(8,.int .i64 g),(9,.int .i64 i)] w)=cH.iN a b c d e f g i Q w:=by kernel_rfl
end
def cr.k:List Nat:= []
def cr.q1(K:KT):aO:=(aL 0 (ck (bU (body f128))++(aS f128)) (bV (fun b6 w_=>match cutAt cr.k (bU (body f128))with|true=>Holds none [] prog 60 (bU (body f128)) (bS prog f128 K) b6 w_|false=>aW none [] prog 60 cr.k (bU (body f128)) (aS f128) (bS prog f128 K) b6 w_) (bS prog f128 K)))
def cr.e1(a:OA)(b c:Nat)(d:OA)(e f g s:Int):Env:= [(0,.slice a b c),(3,.func (.func 73) #[.pointer d] #[]),(8,.int .i64 e),(9,.int .i64 f),(10,.int .i64 g),(11,.int .i64 s)]
def cr.u1:List Nat:= [0,3,8,9,10,11]
def cr.q2(K:KT):aO:=(aL 2 (aS f128) (bS prog f128 K))
def cr.e2(a:OA)(b c:Nat)(d:OA)(e f s:Int):Env:= [(0,.slice a b c),(3,.func (.func 73) #[.pointer d] #[]),(8,.int .i64 e),(9,.int .i64 f),(12,.int .i64 s)]
def cr.u2:List Nat:= [0,3,8,9,12]
section
variable(a:OA)(b d:Nat)(e f:Int)(g:OA)(K:KT)(w:World)
def cr.W:Prop:=
 (2:Int)≠0/\Holds none [] prog 60 (.loop (lB (bB (sR (sL (aQ (sR (body f128)))))))) (cr.q1 K) [(0,.slice a b d),(3,.func (.func 73) #[.pointer g] #[]),(8,.int .i64 e),(9,.int .i64 0),(10,.int .i64 (i64.wrap (f-e))),(11,.int .i64 (i64.wrap ((i64.wrap ((i64.wrap (f-e))-(1:Int))).tdiv (2:Int))))] w
variable{a b d e f g K w}
theorem cr.of(h:cr.W a b d e f g K w):bC prog 128 #[.slice a b d,.int .i64 e,.int .i64 f,.func (.func 73) #[.pointer g] #[]] w K:=
 rqq func128 (C:=cr.k) h
end
section
variable(a:OA)(b c:Nat)(d:OA)(e f g i:Int)(Q:aO)(w:World)
def cr.B1:Prop:=
 Split (decide (i>=(0:Int))) (bC prog 152 #[.slice a b c,.int .i64 i,.int .i64 g,.int .i64 e,.func (.func 73) #[.pointer d] #[]] w fun j k=>j=.tuple #[]/\Q .normal [(0,.slice a b c),(3,.func (.func 73) #[.pointer d] #[]),(8,.int .i64 e),(9,.int .i64 f),(10,.int .i64 g),(11,.int .i64 (i64.wrap (i-(1:Int))))] k) (Q (.exit 0) [(0,.slice a b c),(3,.func (.func 73) #[.pointer d] #[]),(8,.int .i64 e),(9,.int .i64 f),(10,.int .i64 g),(11,.int .i64 i)] w)
theorem cr.b1:(aW none [] prog 60 cr.k (lB (bB (sR (sL (aQ (sR (body f128))))))) cr.u1 Q [(0,.slice a b c),(3,.func (.func 73) #[.pointer d] #[]),(8,.int .i64 e),(9,.int .i64 f),(10,.int .i64 g),(11,.int .i64 i)] w)=cr.B1 a b c d e f g i Q w:=by kernel_rfl
variable{a b c d e f g}
theorem cr.cC(I:Int->World->Prop)(μ:Int->World->Nat)(s:Int){Q:aO}{w:World}(h0:I s w)
 (round:∀s w,I s w->cr.B1 a b c d e f g s (bR (cr.e1 a b c d e f g) I μ s w Q) w):Holds none [] prog 60 (.loop (lB (bB (sR (sL (aQ (sR (body f128)))))))) Q (cr.e1 a b c d e f g s) w:=
 bp ng mix (cr.e1 a b c d e f g) I μ cr.k cr.u1 s (fun s Q w=>cr.B1 a b c d e f g s Q w) (fun s Q w=>cr.b1 a b c d e f g s Q w) h0 round
end
section
def cr.cU(a:OA)(b c:Nat)(d:OA)(e f g i:Int)(K:KT)(w:World):Prop:=
 Holds none [] prog 60 (.loop (lB (bB (bU (sR (body f128)))))) (cr.q2 K) [(0,.slice a b c),(3,.func (.func 73) #[.pointer d] #[]),(8,.int .i64 e),(9,.int .i64 f),(12,.int .i64 (i64.wrap (g-(1:Int))))] w
variable(a:OA)(b c:Nat)(d:OA)(e f g i:Int)(K:KT)(w:World)
theorem cr.df:(cr.q1 K (.exit 0) [(0,.slice a b c),(3,.func (.func 73) #[.pointer d] #[]),(8,.int .i64 e),(9,.int .i64 f),(10,.int .i64 g),(11,.int .i64 i)] w)=cr.cU a b c d e f g i K w:=by kernel_rfl
end
section
variable(a:OA)(b c:Nat)(d:OA)(e f g:Int)(Q:aO)(w:World)
def cr.B2:Prop:=
 Split (decide (g>=(0:Int))) (let i:=w.drew;(0<=(i64.wrap (e+g))/\(i64.wrap (e+g))<(b:Int))/\Is a fun j:Addr=>∃k:AV,(k.size=32/\Cells i (j.add ((i64.wrap (e+g)).toNat*32)) k)/\(0<=e/\e<(b:Int))/\Is a fun m:Addr=>∃n:AV,(n.size=32/\Cells i (m.add (e.toNat*32)) n)/\(0<=e/\e<(b:Int))/\Is a fun o:Addr=>(k.size=32/\(∀p∈k.toList,p.oneCell'=true)/\∀q,q<32->Wr i ((o.add (e.toNat*32)).add q))/\let r:=setCells i (o.add (e.toNat*32)) k.toList 0;(0<=(i64.wrap (e+g))/\(i64.wrap (e+g))<(b:Int))/\Is a fun t:Addr=>(n.size=32/\(∀u∈n.toList,u.oneCell'=true)/\∀v,v<32->Wr r ((t.add ((i64.wrap (e+g)).toNat*32)).add v))/\let x:=setCells r (t.add ((i64.wrap (e+g)).toNat*32)) n.toList 0;bC prog 152 #[.slice a b c,.int .i64 f,.int .i64 g,.int .i64 e,.func (.func 73) #[.pointer d] #[]] x fun y z=>y=.tuple #[]/\Q .normal [(0,.slice a b c),(3,.func (.func 73) #[.pointer d] #[]),(8,.int .i64 e),(9,.int .i64 f),(12,.int .i64 (i64.wrap (g-(1:Int))))] z) (Q (.exit 2) [(0,.slice a b c),(3,.func (.func 73) #[.pointer d] #[]),(8,.int .i64 e),(9,.int .i64 f),(12,.int .i64 g)] w)
theorem cr.b2:(aW none [] prog 60 cr.k (lB (bB (bU (sR (body f128))))) cr.u2 Q [(0,.slice a b c),(3,.func (.func 73) #[.pointer d] #[]),(8,.int .i64 e),(9,.int .i64 f),(12,.int .i64 g)] w)=cr.B2 a b c d e f g Q w:=by kernel_rfl
variable{a b c d e f}
theorem cr.gU(I:Int->World->Prop)(μ:Int->World->Nat)(s:Int){Q:aO}{w:World}(h0:I s w)
 (round:∀s w,I s w->cr.B2 a b c d e f s (bR (cr.e2 a b c d e f) I μ s w Q) w):Holds none [] prog 60 (.loop (lB (bB (bU (sR (body f128)))))) Q (cr.e2 a b c d e f s) w:=
 bp ng mix (cr.e2 a b c d e f) I μ cr.k cr.u2 s (fun s Q w=>cr.B2 a b c d e f s Q w) (fun s Q w=>cr.b2 a b c d e f s Q w) h0 round
end
section
def cr.iN(a:OA)(b c:Nat)(d:OA)(e f g:Int)(K:KT)(w:World):Prop:=
 K (.tuple #[]) w
variable(a:OA)(b c:Nat)(d:OA)(e f g:Int)(K:KT)(w:World)
theorem cr.jN:(cr.q2 K (.exit 2) [(0,.slice a b c),(3,.func (.func 73) #[.pointer d] #[]),(8,.int .i64 e),(9,.int .i64 f),(12,.int .i64 g)] w)=cr.iN a b c d e f g K w:=by kernel_rfl
end
def e8.k:List Nat:= []
def e8.q1(K:KT):aO:=(aL 0 (aS Tryz.f129) (bS prog Tryz.f129 K))
def e8.e1(a:OA)(b c:Nat)(d e:Int)(f:Addr)(g s:Int):Env:= [(0,.slice a b c),(1,.int .i64 d),(8,.int .i64 e),(9,.pointer (some f)),(10,.int .u64 g),(11,.int .i64 s)]
def e8.u1:List Nat:= [0,1,8,9,10,11]
section
def e8.W(a:OA)(b d:Nat)(e f:Int)(g:OA)(K:KT)(w:World):Prop:=
 Split (decide ((i64.wrap (f-e))>=(8:Int))) (let i:=w.alloc (.cells (#[.int .u64 0]:AV) 204);Wr i (aP w.heap.size)/\let j:=i.setCell (aP w.heap.size) (.int .u64 (u64.wrap (i64.wrap (f-e))));bC prog 153 #[.int .i64 (i64.wrap (f-e))] j fun k m=>∃n:Int,k=.int .u64 n/\(4:Int)≠0/\Holds none [] prog 67 (.loop (lB (bB (aQ (sR (cT (aQ (body Tryz.f129)))))))) (e8.q1 K) [(0,.slice a b d),(1,.int .i64 e),(8,.int .i64 (i64.wrap (f-e))),(9,.pointer (some (aP w.heap.size))),(10,.int .u64 n),(11,.int .i64 (i64.wrap ((i64.wrap (e+(i64.wrap ((i64.wrap ((i64.wrap (f-e)).tdiv (4:Int)))*(2:Int)))))-(1:Int))))] m) (K (.tuple #[]) w)
variable(a:OA)(b d:Nat)(e f:Int)(g:OA)(K:KT)(w:World)
variable{a b d e f g K w}
theorem e8.of(h:e8.W a b d e f g K w):bC prog 129 #[.slice a b d,.int .i64 e,.int .i64 f,.func (.func 73) #[.pointer g] #[]] w K:=
 rqq func129 (C:=e8.k) h
end
section
variable(a:OA)(b c:Nat)(d e:Int)(f:Addr)(g i:Int)(Q:aO)(w:World)
def e8.B1:Prop:=
 (4:Int)≠0/\Split (decide (i<=(i64.wrap ((i64.wrap (d+(i64.wrap ((i64.wrap (e.tdiv (4:Int)))*(2:Int)))))+(1:Int))))) (bC prog 154 #[.pointer (some f)] w fun j k=>∃m:Int,j=.int .u64 m/\Split (decide ((i64.wrap (u64.wrap ((BitVec.ofInt 64 m&&& BitVec.ofInt 64 (u64.wrap (g-(1:Int)))).toNat)))>=e)) (let n:=k.drew;(0<=(i64.wrap (d+(i64.wrap ((i64.wrap (u64.wrap ((BitVec.ofInt 64 m&&& BitVec.ofInt 64 (u64.wrap (g-(1:Int)))).toNat)))-e))))/\(i64.wrap (d+(i64.wrap ((i64.wrap (u64.wrap ((BitVec.ofInt 64 m&&& BitVec.ofInt 64 (u64.wrap (g-(1:Int)))).toNat)))-e))))<(b:Int))/\Is a fun o:Addr=>∃p:AV,(p.size=32/\Cells n (o.add ((i64.wrap (d+(i64.wrap ((i64.wrap (u64.wrap ((BitVec.ofInt 64 m&&& BitVec.ofInt 64 (u64.wrap (g-(1:Int)))).toNat)))-e)))).toNat*32)) p)/\(0<=i/\i<(b:Int))/\Is a fun q:Addr=>∃r:AV,(r.size=32/\Cells n (q.add (i.toNat*32)) r)/\(0<=i/\i<(b:Int))/\Is a fun t:Addr=>(p.size=32/\(∀u∈p.toList,u.oneCell'=true)/\∀v,v<32->Wr n ((t.add (i.toNat*32)).add v))/\let x:=setCells n (t.add (i.toNat*32)) p.toList 0;(0<=(i64.wrap (d+(i64.wrap ((i64.wrap (u64.wrap ((BitVec.ofInt 64 m&&& BitVec.ofInt 64 (u64.wrap (g-(1:Int)))).toNat)))-e))))/\(i64.wrap (d+(i64.wrap ((i64.wrap (u64.wrap ((BitVec.ofInt 64 m&&& BitVec.ofInt 64 (u64.wrap (g-(1:Int)))).toNat)))-e))))<(b:Int))/\Is a fun y:Addr=>(r.size=32/\(∀z∈r.toList,z.oneCell'=true)/\∀a1,a1<32->Wr x ((y.add ((i64.wrap (d+(i64.wrap ((i64.wrap (u64.wrap ((BitVec.ofInt 64 m&&& BitVec.ofInt 64 (u64.wrap (g-(1:Int)))).toNat)))-e)))).toNat*32)).add a1))/\let b1:=setCells x (y.add ((i64.wrap (d+(i64.wrap ((i64.wrap (u64.wrap ((BitVec.ofInt 64 m&&& BitVec.ofInt 64 (u64.wrap (g-(1:Int)))).toNat)))-e)))).toNat*32)) r.toList 0;Q .normal [(0,.slice a b c),(1,.int .i64 d),(8,.int .i64 e),(9,.pointer (some f)),(10,.int .u64 g),(11,.int .i64 (i64.wrap (i+(1:Int))))] b1) (let c1:=k.drew;(0<=(i64.wrap (d+(i64.wrap (u64.wrap ((BitVec.ofInt 64 m&&& BitVec.ofInt 64 (u64.wrap (g-(1:Int)))).toNat)))))/\(i64.wrap (d+(i64.wrap (u64.wrap ((BitVec.ofInt 64 m&&& BitVec.ofInt 64 (u64.wrap (g-(1:Int)))).toNat)))))<(b:Int))/\Is a fun d1:Addr=>∃e1:AV,(e1.size=32/\Cells c1 (d1.add ((i64.wrap (d+(i64.wrap (u64.wrap ((BitVec.ofInt 64 m&&& BitVec.ofInt 64 (u64.wrap (g-(1:Int)))).toNat))))).toNat*32)) e1)/\(0<=i/\i<(b:Int))/\Is a fun f1:Addr=>∃g1:AV,(g1.size=32/\Cells c1 (f1.add (i.toNat*32)) g1)/\(0<=i/\i<(b:Int))/\Is a fun i1:Addr=>(e1.size=32/\(∀j1∈e1.toList,j1.oneCell'=true)/\∀k1,k1<32->Wr c1 ((i1.add (i.toNat*32)).add k1))/\let m1:=setCells c1 (i1.add (i.toNat*32)) e1.toList 0;(0<=(i64.wrap (d+(i64.wrap (u64.wrap ((BitVec.ofInt 64 m&&& BitVec.ofInt 64 (u64.wrap (g-(1:Int)))).toNat)))))/\(i64.wrap (d+(i64.wrap (u64.wrap ((BitVec.ofInt 64 m&&& BitVec.ofInt 64 (u64.wrap (g-(1:Int)))).toNat)))))<(b:Int))/\Is a fun n1:Addr=>(g1.size=32/\(∀o1∈g1.toList,o1.oneCell'=true)/\∀p1,p1<32->Wr m1 ((n1.add ((i64.wrap (d+(i64.wrap (u64.wrap ((BitVec.ofInt 64 m&&& BitVec.ofInt 64 (u64.wrap (g-(1:Int)))).toNat))))).toNat*32)).add p1))/\let q1:=setCells m1 (n1.add ((i64.wrap (d+(i64.wrap (u64.wrap ((BitVec.ofInt 64 m&&& BitVec.ofInt 64 (u64.wrap (g-(1:Int)))).toNat))))).toNat*32)) g1.toList 0;Q .normal [(0,.slice a b c),(1,.int .i64 d),(8,.int .i64 e),(9,.pointer (some f)),(10,.int .u64 g),(11,.int .i64 (i64.wrap (i+(1:Int))))] q1)) (Q (.exit 0) [(0,.slice a b c),(1,.int .i64 d),(8,.int .i64 e),(9,.pointer (some f)),(10,.int .u64 g),(11,.int .i64 i)] w)
theorem e8.b1:(aW none [] prog 67 e8.k (lB (bB (aQ (sR (cT (aQ (body Tryz.f129))))))) e8.u1 Q [(0,.slice a b c),(1,.int .i64 d),(8,.int .i64 e),(9,.pointer (some f)),(10,.int .u64 g),(11,.int .i64 i)] w)=e8.B1 a b c d e f g i Q w:=by kernel_rfl
variable{a b c d e f g}
theorem e8.cC(I:Int->World->Prop)(μ:Int->World->Nat)(s:Int){Q:aO}{w:World}(h0:I s w)
 (round:∀s w,I s w->e8.B1 a b c d e f g s (bR (e8.e1 a b c d e f g) I μ s w Q) w):Holds none [] prog 67 (.loop (lB (bB (aQ (sR (cT (aQ (body Tryz.f129)))))))) Q (e8.e1 a b c d e f g s) w:=
 bp ng mix (e8.e1 a b c d e f g) I μ e8.k e8.u1 s (fun s Q w=>e8.B1 a b c d e f g s Q w) (fun s Q w=>e8.b1 a b c d e f g s Q w) h0 round
end
section
def e8.cU(a:OA)(b c:Nat)(d e:Int)(f:Addr)(g i:Int)(K:KT)(w:World):Prop:=
 K (.tuple #[]) w
variable(a:OA)(b c:Nat)(d e:Int)(f:Addr)(g i:Int)(K:KT)(w:World)
theorem e8.df:(e8.q1 K (.exit 0) [(0,.slice a b c),(1,.int .i64 d),(8,.int .i64 e),(9,.pointer (some f)),(10,.int .u64 g),(11,.int .i64 i)] w)=e8.cU a b c d e f g i K w:=by kernel_rfl
end
def sH.k:List Nat:= []
section
variable(a:OA)(b d:Nat)(e f:Int)(g:OA)(K:KT)(w:World)
def sH.W:Prop:=
 let i:=w.alloc (.cells (#[.int .i64 0]:AV) 3);(4:Int)≠0/\(4:Int)≠0/\(4:Int)≠0/\Split (decide ((i64.wrap (f-e))>=(8:Int))) (Split (decide ((i64.wrap (f-e))>=(50:Int))) (bC prog 155 #[.slice a b d,.int .i64 (i64.wrap (e+(i64.wrap ((i64.wrap ((i64.wrap (f-e)).tdiv (4:Int)))*(1:Int))))),.pointer (some (aP w.heap.size)),.func (.func 73) #[.pointer g] #[]] i fun j k=>∃m:Int,j=.int .i64 m/\bC prog 155 #[.slice a b d,.int .i64 (i64.wrap (e+(i64.wrap ((i64.wrap ((i64.wrap (f-e)).tdiv (4:Int)))*(2:Int))))),.pointer (some (aP w.heap.size)),.func (.func 73) #[.pointer g] #[]] k fun n o=>∃p:Int,n=.int .i64 p/\bC prog 155 #[.slice a b d,.int .i64 (i64.wrap (e+(i64.wrap ((i64.wrap ((i64.wrap (f-e)).tdiv (4:Int)))*(3:Int))))),.pointer (some (aP w.heap.size)),.func (.func 73) #[.pointer g] #[]] o fun q r=>∃t:Int,q=.int .i64 t/\bC prog 156 #[.slice a b d,.int .i64 m,.int .i64 p,.int .i64 t,.pointer (some (aP w.heap.size)),.func (.func 73) #[.pointer g] #[]] r fun u v=>∃x:Int,u=.int .i64 x/\∃y:Int,v.cell? (aP w.heap.size)=some (.int .i64 y)/\Split (y==(0:Int)) (K (.tuple #[.int .i64 x,.int .i64 1]) v) (Split (y==(12:Int)) (K (.tuple #[.int .i64 x,.int .i64 2]) v) (K (.tuple #[.int .i64 x,.int .i64 0]) v))) (bC prog 156 #[.slice a b d,.int .i64 (i64.wrap (e+(i64.wrap ((i64.wrap ((i64.wrap (f-e)).tdiv (4:Int)))*(1:Int))))),.int .i64 (i64.wrap (e+(i64.wrap ((i64.wrap ((i64.wrap (f-e)).tdiv (4:Int)))*(2:Int))))),.int .i64 (i64.wrap (e+(i64.wrap ((i64.wrap ((i64.wrap (f-e)).tdiv (4:Int)))*(3:Int))))),.pointer (some (aP w.heap.size)),.func (.func 73) #[.pointer g] #[]] i fun z a1=>∃b1:Int,z=.int .i64 b1/\∃c1:Int,a1.cell? (aP w.heap.size)=some (.int .i64 c1)/\Split (c1==(0:Int)) (K (.tuple #[.int .i64 b1,.int .i64 1]) a1) (Split (c1==(12:Int)) (K (.tuple #[.int .i64 b1,.int .i64 2]) a1) (K (.tuple #[.int .i64 b1,.int .i64 0]) a1)))) (∃d1:Int,i.cell? (aP w.heap.size)=some (.int .i64 d1)/\Split (d1==(0:Int)) (K (.tuple #[.int .i64 (i64.wrap (e+(i64.wrap ((i64.wrap ((i64.wrap (f-e)).tdiv (4:Int)))*(2:Int))))),.int .i64 1]) i) (Split (d1==(12:Int)) (K (.tuple #[.int .i64 (i64.wrap (e+(i64.wrap ((i64.wrap ((i64.wrap (f-e)).tdiv (4:Int)))*(2:Int))))),.int .i64 2]) i) (K (.tuple #[.int .i64 (i64.wrap (e+(i64.wrap ((i64.wrap ((i64.wrap (f-e)).tdiv (4:Int)))*(2:Int))))),.int .i64 0]) i)))
variable{a b d e f g K w}
theorem sH.of(h:sH.W a b d e f g K w):bC prog 130 #[.slice a b d,.int .i64 e,.int .i64 f,.func (.func 73) #[.pointer g] #[]] w K:=
 rqq func130 (C:=sH.k) h
end
def eZ.k:List Nat:= []
def eZ.q1(K:KT):aO:=(aL 0 (aS f131) (bS prog f131 K))
def eZ.e1(a:OA)(b c:Nat)(s:Int×Int):Env:= [(0,.slice a b c),(8,.int .i64 s.1),(9,.int .i64 s.2)]
def eZ.u1:List Nat:= [0,8,9]
section
def eZ.W(a:OA)(b d:Nat)(e f:Int)(g:OA)(K:KT)(w:World):Prop:=
 Holds none [] prog 34 (.loop (lB (bB (aQ (body f131))))) (eZ.q1 K) [(0,.slice a b d),(8,.int .i64 e),(9,.int .i64 (i64.wrap (f-(1:Int))))] w
variable(a:OA)(b d:Nat)(e f:Int)(g:OA)(K:KT)(w:World)
variable{a b d e f g K w}
theorem eZ.of(h:eZ.W a b d e f g K w):bC prog 131 #[.slice a b d,.int .i64 e,.int .i64 f,.func (.func 73) #[.pointer g] #[]] w K:=
 rqq func131 (C:=eZ.k) h
end
section
variable(a:OA)(b c:Nat)(d e:Int)(Q:aO)(w:World)
def eZ.B1:Prop:=
 Split (decide (d<e)) (let f:=w.drew;(0<=e/\e<(b:Int))/\Is a fun g:Addr=>∃i:AV,(i.size=32/\Cells f (g.add (e.toNat*32)) i)/\(0<=d/\d<(b:Int))/\Is a fun j:Addr=>∃k:AV,(k.size=32/\Cells f (j.add (d.toNat*32)) k)/\(0<=d/\d<(b:Int))/\Is a fun m:Addr=>(i.size=32/\(∀n∈i.toList,n.oneCell'=true)/\∀o,o<32->Wr f ((m.add (d.toNat*32)).add o))/\let p:=setCells f (m.add (d.toNat*32)) i.toList 0;(0<=e/\e<(b:Int))/\Is a fun q:Addr=>(k.size=32/\(∀r∈k.toList,r.oneCell'=true)/\∀t,t<32->Wr p ((q.add (e.toNat*32)).add t))/\let u:=setCells p (q.add (e.toNat*32)) k.toList 0;Q .normal [(0,.slice a b c),(8,.int .i64 (i64.wrap (d+(1:Int)))),(9,.int .i64 (i64.wrap (e-(1:Int))))] u) (Q (.exit 0) [(0,.slice a b c),(8,.int .i64 d),(9,.int .i64 e)] w)
theorem eZ.b1:(aW none [] prog 34 eZ.k (lB (bB (aQ (body f131)))) eZ.u1 Q [(0,.slice a b c),(8,.int .i64 d),(9,.int .i64 e)] w)=eZ.B1 a b c d e Q w:=by kernel_rfl
variable{a b c}
theorem eZ.cC(I:Int×Int->World->Prop)(μ:Int×Int->World->Nat)(s:Int×Int){Q:aO}{w:World}(h0:I s w)
 (round:∀s w,I s w->eZ.B1 a b c (s.1) (s.2) (bR (eZ.e1 a b c) I μ s w Q) w):Holds none [] prog 34 (.loop (lB (bB (aQ (body f131))))) Q (eZ.e1 a b c s) w:=
 bp ng mix (eZ.e1 a b c) I μ eZ.k eZ.u1 s (fun s Q w=>eZ.B1 a b c (s.1) (s.2) Q w) (fun s Q w=>eZ.b1 a b c (s.1) (s.2) Q w) h0 round
end
section
def eZ.cU(a:OA)(b c:Nat)(d e:Int)(K:KT)(w:World):Prop:=
 K (.tuple #[]) w
variable(a:OA)(b c:Nat)(d e:Int)(K:KT)(w:World)
theorem eZ.df:(eZ.q1 K (.exit 0) [(0,.slice a b c),(8,.int .i64 d),(9,.int .i64 e)] w)=eZ.cU a b c d e K w:=by kernel_rfl
end
def bM.k:List Nat:= []
def bM.q1(K:KT):aO:=(aL 0 (ck (aQ (sR (body f132)))++(aS f132)) (bV (fun b6 w_=>match cutAt bM.k (aQ (sR (body f132)))with|true=>Holds none [] prog 141 (aQ (sR (body f132))) (bS prog f132 K) b6 w_|false=>aW none [] prog 141 bM.k (aQ (sR (body f132))) (aS f132) (bS prog f132 K) b6 w_) (bS prog f132 K)))
def bM.e1(a:OA)(b c:Nat)(d e:Int)(f:OA)(s:Bool×Int×Int):Env:= [(0,.slice a b c),(1,.int .i64 d),(2,.int .i64 e),(3,.func (.func 73) #[.pointer f] #[]),(8,.bool s.1),(9,.int .i64 s.2.1),(10,.int .i64 s.2.2)]
def bM.u1:List Nat:= [0,1,2,3,8,9,10]
def bM.q2(Q:aO):aO:=(aL 2 (ck (sR (bB (sL (sR (lB (bB (sR (sL (aQ (body f132))))))))))++(ck (aQ (lB (bB (sR (sL (aQ (body f132)))))))++bM.u1)) (bV (fun b6 w_=>match cutAt bM.k (sR (bB (sL (sR (lB (bB (sR (sL (aQ (body f132))))))))))with|true=>Holds none [] prog 141 (sR (bB (sL (sR (lB (bB (sR (sL (aQ (body f132)))))))))) (aL 1 (ck (aQ (lB (bB (sR (sL (aQ (body f132)))))))++bM.u1) (bV (fun b6 w_=>match cutAt bM.k (aQ (lB (bB (sR (sL (aQ (body f132)))))))with|true=>Holds none [] prog 141 (aQ (lB (bB (sR (sL (aQ (body f132))))))) Q b6 w_|false=>aW none [] prog 141 bM.k (aQ (lB (bB (sR (sL (aQ (body f132))))))) bM.u1 Q b6 w_) Q)) b6 w_|false=>aW none [] prog 141 bM.k (sR (bB (sL (sR (lB (bB (sR (sL (aQ (body f132)))))))))) (ck (aQ (lB (bB (sR (sL (aQ (body f132)))))))++bM.u1) (aL 1 (ck (aQ (lB (bB (sR (sL (aQ (body f132)))))))++bM.u1) (bV (fun b6 w_=>match cutAt bM.k (aQ (lB (bB (sR (sL (aQ (body f132)))))))with|true=>Holds none [] prog 141 (aQ (lB (bB (sR (sL (aQ (body f132))))))) Q b6 w_|false=>aW none [] prog 141 bM.k (aQ (lB (bB (sR (sL (aQ (body f132))))))) bM.u1 Q b6 w_) Q)) b6 w_) (aL 1 (ck (aQ (lB (bB (sR (sL (aQ (body f132)))))))++bM.u1) (bV (fun b6 w_=>match cutAt bM.k (aQ (lB (bB (sR (sL (aQ (body f132)))))))with|true=>Holds none [] prog 141 (aQ (lB (bB (sR (sL (aQ (body f132))))))) Q b6 w_|false=>aW none [] prog 141 bM.k (aQ (lB (bB (sR (sL (aQ (body f132))))))) bM.u1 Q b6 w_) Q))))
def bM.e2(a:OA)(b c:Nat)(d e:Int)(f:OA)(g:Bool)(i s:Int):Env:= [(0,.slice a b c),(1,.int .i64 d),(2,.int .i64 e),(3,.func (.func 73) #[.pointer f] #[]),(8,.bool g),(9,.int .i64 s),(10,.int .i64 i)]
def bM.u2:List Nat:= [0,1,2,3,8,9,10]
def bM.q3(Q:aO):aO:=(aL 4 (ck (bU (sR (bB (sL (sR (lB (bB (sR (sL (aQ (body f132)))))))))))++(ck (aQ (lB (bB (sR (sL (aQ (body f132)))))))++bM.u1)) (bV (fun b6 w_=>match cutAt bM.k (bU (sR (bB (sL (sR (lB (bB (sR (sL (aQ (body f132)))))))))))with|true=>Holds none [] prog 141 (bU (sR (bB (sL (sR (lB (bB (sR (sL (aQ (body f132))))))))))) (aL 1 (ck (aQ (lB (bB (sR (sL (aQ (body f132)))))))++bM.u1) (bV (fun b6 w_=>match cutAt bM.k (aQ (lB (bB (sR (sL (aQ (body f132)))))))with|true=>Holds none [] prog 141 (aQ (lB (bB (sR (sL (aQ (body f132))))))) Q b6 w_|false=>aW none [] prog 141 bM.k (aQ (lB (bB (sR (sL (aQ (body f132))))))) bM.u1 Q b6 w_) Q)) b6 w_|false=>aW none [] prog 141 bM.k (bU (sR (bB (sL (sR (lB (bB (sR (sL (aQ (body f132))))))))))) (ck (aQ (lB (bB (sR (sL (aQ (body f132)))))))++bM.u1) (aL 1 (ck (aQ (lB (bB (sR (sL (aQ (body f132)))))))++bM.u1) (bV (fun b6 w_=>match cutAt bM.k (aQ (lB (bB (sR (sL (aQ (body f132)))))))with|true=>Holds none [] prog 141 (aQ (lB (bB (sR (sL (aQ (body f132))))))) Q b6 w_|false=>aW none [] prog 141 bM.k (aQ (lB (bB (sR (sL (aQ (body f132))))))) bM.u1 Q b6 w_) Q)) b6 w_) (aL 1 (ck (aQ (lB (bB (sR (sL (aQ (body f132)))))))++bM.u1) (bV (fun b6 w_=>match cutAt bM.k (aQ (lB (bB (sR (sL (aQ (body f132)))))))with|true=>Holds none [] prog 141 (aQ (lB (bB (sR (sL (aQ (body f132))))))) Q b6 w_|false=>aW none [] prog 141 bM.k (aQ (lB (bB (sR (sL (aQ (body f132))))))) bM.u1 Q b6 w_) Q))))
def bM.q4(Q:aO):aO:=(aL 6 (ck (aQ (lB (bB (sR (sL (aQ (body f132)))))))++bM.u1) (aL 1 (ck (aQ (lB (bB (sR (sL (aQ (body f132)))))))++bM.u1) (bV (fun b6 w_=>match cutAt bM.k (aQ (lB (bB (sR (sL (aQ (body f132)))))))with|true=>Holds none [] prog 141 (aQ (lB (bB (sR (sL (aQ (body f132))))))) Q b6 w_|false=>aW none [] prog 141 bM.k (aQ (lB (bB (sR (sL (aQ (body f132))))))) bM.u1 Q b6 w_) Q)))
section
variable(a:OA)(b d:Nat)(e f:Int)(g:OA)(K:KT)(w:World)
def bM.W:Prop:=
 Holds none [] prog 141 (.loop (lB (bB (sR (sL (aQ (body f132))))))) (bM.q1 K) [(0,.slice a b d),(1,.int .i64 e),(2,.int .i64 f),(3,.func (.func 73) #[.pointer g] #[]),(8,.bool false),(9,.int .i64 (i64.wrap (e+(1:Int)))),(10,.int .i64 0)] w
variable{a b d e f g K w}
theorem bM.of(h:bM.W a b d e f g K w):bC prog 132 #[.slice a b d,.int .i64 e,.int .i64 f,.func (.func 73) #[.pointer g] #[]] w K:=
 rqq func132 (C:=bM.k) h
end
section
variable(a:OA)(b c:Nat)(d e:Int)(f:OA)(g:Bool)(i j:Int)(Q:aO)(w:World)
def bM.B1:Prop:=
 Split (decide (j<(5:Int))) (Holds none [] prog 141 (.loop (lB (bB (sL (bB (sL (sR (lB (bB (sR (sL (aQ (body f132))))))))))))) (bM.q2 Q) [(0,.slice a b c),(1,.int .i64 d),(2,.int .i64 e),(3,.func (.func 73) #[.pointer f] #[]),(8,.bool g),(9,.int .i64 i),(10,.int .i64 j)] w) (Q (.exit 0) [(0,.slice a b c),(1,.int .i64 d),(2,.int .i64 e),(3,.func (.func 73) #[.pointer f] #[]),(8,.bool g),(9,.int .i64 i),(10,.int .i64 j)] w)
theorem bM.b1:(aW none [] prog 141 bM.k (lB (bB (sR (sL (aQ (body f132)))))) bM.u1 Q [(0,.slice a b c),(1,.int .i64 d),(2,.int .i64 e),(3,.func (.func 73) #[.pointer f] #[]),(8,.bool g),(9,.int .i64 i),(10,.int .i64 j)] w)=bM.B1 a b c d e f g i j Q w:=by kernel_rfl
variable{a b c d e f}
theorem bM.cC(I:Bool×Int×Int->World->Prop)(μ:Bool×Int×Int->World->Nat)(s:Bool×Int×Int){Q:aO}{w:World}(h0:I s w)
 (round:∀s w,I s w->bM.B1 a b c d e f (s.1) (s.2.1) (s.2.2) (bR (bM.e1 a b c d e f) I μ s w Q) w):Holds none [] prog 141 (.loop (lB (bB (sR (sL (aQ (body f132))))))) Q (bM.e1 a b c d e f s) w:=
 bp ng mix (bM.e1 a b c d e f) I μ bM.k bM.u1 s (fun s Q w=>bM.B1 a b c d e f (s.1) (s.2.1) (s.2.2) Q w) (fun s Q w=>bM.b1 a b c d e f (s.1) (s.2.1) (s.2.2) Q w) h0 round
end
section
variable(a:OA)(b c:Nat)(d e:Int)(f:OA)(g:Bool)(i j:Int)(K:KT)(w:World)
end
section
variable(a:OA)(b c:Nat)(d e:Int)(f:OA)(g:Bool)(i j:Int)(Q:aO)(w:World)
def bM.B2:Prop:=
 let k:=w.drew;Split (decide (i<e)) ((0<=i/\i<(b:Int))/\Is a fun m:Addr=>∃n:AV,(n.size=32/\Cells k (m.add (i.toNat*32)) n)/\(0<=(i64.wrap (i-(1:Int)))/\(i64.wrap (i-(1:Int)))<(b:Int))/\Is a fun o:Addr=>∃p:AV,(p.size=32/\Cells k (o.add ((i64.wrap (i-(1:Int))).toNat*32)) p)/\bC prog 73 #[.pointer f,.agg n,.agg p] k fun q r=>∃t:Int,q=.int .i64 t/\Split (!(decide (t<(0:Int)))) (Q .normal [(0,.slice a b c),(1,.int .i64 d),(2,.int .i64 e),(3,.func (.func 73) #[.pointer f] #[]),(8,.bool g),(9,.int .i64 (i64.wrap (i+(1:Int)))),(10,.int .i64 j)] r) (Q (.exit 2) [(0,.slice a b c),(1,.int .i64 d),(2,.int .i64 e),(3,.func (.func 73) #[.pointer f] #[]),(8,.bool g),(9,.int .i64 i),(10,.int .i64 j)] r)) (Q (.exit 2) [(0,.slice a b c),(1,.int .i64 d),(2,.int .i64 e),(3,.func (.func 73) #[.pointer f] #[]),(8,.bool g),(9,.int .i64 i),(10,.int .i64 j)] k)
theorem bM.b2:(aW none [] prog 141 bM.k (lB (bB (sL (bB (sL (sR (lB (bB (sR (sL (aQ (body f132)))))))))))) bM.u2 Q [(0,.slice a b c),(1,.int .i64 d),(2,.int .i64 e),(3,.func (.func 73) #[.pointer f] #[]),(8,.bool g),(9,.int .i64 i),(10,.int .i64 j)] w)=bM.B2 a b c d e f g i j Q w:=by kernel_rfl
variable{a b c d e f g j}
theorem bM.gU(I:Int->World->Prop)(μ:Int->World->Nat)(s:Int){Q:aO}{w:World}(h0:I s w)
 (round:∀s w,I s w->bM.B2 a b c d e f g s j (bR (bM.e2 a b c d e f g j) I μ s w Q) w):Holds none [] prog 141 (.loop (lB (bB (sL (bB (sL (sR (lB (bB (sR (sL (aQ (body f132))))))))))))) Q (bM.e2 a b c d e f g j s) w:=
 bp ng mix (bM.e2 a b c d e f g j) I μ bM.k bM.u2 s (fun s Q w=>bM.B2 a b c d e f g s j Q w) (fun s Q w=>bM.b2 a b c d e f g s j Q w) h0 round
end
section
variable(a:OA)(b c:Nat)(d e:Int)(f:OA)(g:Bool)(i j:Int)(Q:aO)(w:World)
def bM.iN:Prop:=
 Split (i==e) (Q .ret [(0,.slice a b c),(1,.int .i64 d),(2,.int .i64 e),(3,.func (.func 73) #[.pointer f] #[]),(8,.bool true),(9,.int .i64 i),(10,.int .i64 j)] w) (Split (decide ((i64.wrap (e-d))<(50:Int))) (Q .ret [(0,.slice a b c),(1,.int .i64 d),(2,.int .i64 e),(3,.func (.func 73) #[.pointer f] #[]),(8,.bool false),(9,.int .i64 i),(10,.int .i64 j)] w) (let k:=w.drew;(0<=(i64.wrap (i-(1:Int)))/\(i64.wrap (i-(1:Int)))<(b:Int))/\Is a fun m:Addr=>∃n:AV,(n.size=32/\Cells k (m.add ((i64.wrap (i-(1:Int))).toNat*32)) n)/\(0<=i/\i<(b:Int))/\Is a fun o:Addr=>∃p:AV,(p.size=32/\Cells k (o.add (i.toNat*32)) p)/\(0<=i/\i<(b:Int))/\Is a fun q:Addr=>(n.size=32/\(∀r∈n.toList,r.oneCell'=true)/\∀t,t<32->Wr k ((q.add (i.toNat*32)).add t))/\let u:=setCells k (q.add (i.toNat*32)) n.toList 0;(0<=(i64.wrap (i-(1:Int)))/\(i64.wrap (i-(1:Int)))<(b:Int))/\Is a fun v:Addr=>(p.size=32/\(∀x∈p.toList,x.oneCell'=true)/\∀y,y<32->Wr u ((v.add ((i64.wrap (i-(1:Int))).toNat*32)).add y))/\let z:=setCells u (v.add ((i64.wrap (i-(1:Int))).toNat*32)) p.toList 0;Split (decide ((i64.wrap (i-d))>=(2:Int))) (Holds none [] prog 141 (.loop (lB (bB (sR (cT (sR (sL (bU (bB (sL (sR (lB (bB (sR (sL (aQ (body f132))))))))))))))))) (bM.q3 Q) [(0,.slice a b c),(1,.int .i64 d),(2,.int .i64 e),(3,.func (.func 73) #[.pointer f] #[]),(8,.bool g),(9,.int .i64 i),(10,.int .i64 j),(11,.int .i64 (i64.wrap (i-(1:Int))))] z) (Split (decide ((i64.wrap (e-i))>=(2:Int))) (Holds none [] prog 141 (.loop (lB (bB (sR (cT (bU (aQ (bB (sL (sR (lB (bB (sR (sL (aQ (body f132)))))))))))))))) (bM.q4 Q) [(0,.slice a b c),(1,.int .i64 d),(2,.int .i64 e),(3,.func (.func 73) #[.pointer f] #[]),(8,.bool g),(9,.int .i64 i),(10,.int .i64 j),(12,.int .i64 (i64.wrap (i+(1:Int))))] z) (Q .normal [(0,.slice a b c),(1,.int .i64 d),(2,.int .i64 e),(3,.func (.func 73) #[.pointer f] #[]),(8,.bool g),(9,.int .i64 i),(10,.int .i64 (i64.wrap (j+(1:Int))))] z))))
theorem bM.jN:(bM.q2 Q (.exit 2) [(0,.slice a b c),(1,.int .i64 d),(2,.int .i64 e),(3,.func (.func 73) #[.pointer f] #[]),(8,.bool g),(9,.int .i64 i),(10,.int .i64 j)] w)=bM.iN a b c d e f g i j Q w:=by kernel_rfl
end
section
variable(a:OA)(b c:Nat)(d e:Int)(f:OA)(g:Bool)(i j k:Int)(Q:aO)(w:World)
variable{a b c d e f g i j}
end
section
variable(a:OA)(b c:Nat)(d e:Int)(f:OA)(g:Bool)(i j k:Int)(Q:aO)(w:World)
end
section
variable(a:OA)(b c:Nat)(d e:Int)(f:OA)(g:Bool)(i j k:Int)(Q:aO)(w:World)
variable{a b c d e f g i j}
end
section
variable(a:OA)(b c:Nat)(d e:Int)(f:OA)(g:Bool)(i j k:Int)(Q:aO)(w:World)
end
section
variable(a:OA)(b d:Nat)(e f g:Int)(i:OA)(K:KT)(w:World)
variable{a b d e f g i K w}
end
section
variable(a:OA)(b c:Nat)(d:Int)(e:OA)(f g i:Int)(Q:aO)(w:World)
variable{a b c d e f}
end
section
variable(a:OA)(b c:Nat)(d:Int)(e:OA)(f g i:Int)(Q:aO)(w:World)
variable{a b c d e f i}
end
section
variable(a:OA)(b c:Nat)(d:Int)(e:OA)(f g i:Int)(Q:aO)(w:World)
end
section
variable(a:OA)(b c:Nat)(d:Int)(e:OA)(f g i:Int)(Q:aO)(w:World)
variable{a b c d e f g}
end
section
variable(a:OA)(b c:Nat)(d:Int)(e:OA)(f g i:Int)(Q:aO)(w:World)
end
section
variable(a:OA)(b c:Nat)(d:Int)(e:OA)(f g i:Int)(K:KT)(w:World)
end
def aY.k:List Nat:= []
def aY.q1(K:KT):aO:=(aL 0 (ck (bU (body f134))++(aS f134)) (bV (fun b6 w_=>match cutAt aY.k (bU (body f134))with|true=>Holds none [] prog 178 (bU (body f134)) (bS prog f134 K) b6 w_|false=>aW none [] prog 178 aY.k (bU (body f134)) (aS f134) (bS prog f134 K) b6 w_) (bS prog f134 K)))
def aY.e1(a:OA)(b c:Nat)(d:Int)(e:OA)(f g s:Int):Env:= [(0,.slice a b c),(1,.int .i64 d),(4,.func (.func 73) #[.pointer e] #[]),(10,.int .i64 f),(11,.bool false),(12,.int .i64 s),(13,.int .i64 g)]
def aY.u1:List Nat:= [0,1,4,10,11,12,13]
def aY.q2(K:KT):aO:=(aL 2 (ck (bU (sR (body f134)))++(aS f134)) (bV (fun b6 w_=>match cutAt aY.k (bU (sR (body f134)))with|true=>Holds none [] prog 178 (bU (sR (body f134))) (bS prog f134 K) b6 w_|false=>aW none [] prog 178 aY.k (bU (sR (body f134))) (aS f134) (bS prog f134 K) b6 w_) (bS prog f134 K)))
def aY.e2(a:OA)(b c:Nat)(d:Int)(e:OA)(f g s:Int):Env:= [(0,.slice a b c),(1,.int .i64 d),(4,.func (.func 73) #[.pointer e] #[]),(10,.int .i64 f),(11,.bool false),(12,.int .i64 g),(13,.int .i64 s)]
def aY.u2:List Nat:= [0,1,4,10,11,12,13]
def aY.q3(K:KT):aO:=(aL 4 (ck (fk (aQ (body f134)))++(aS f134)) (bV (fun b6 w_=>match cutAt aY.k (fk (aQ (body f134)))with|true=>Holds none [] prog 178 (fk (aQ (body f134))) (bS prog f134 K) b6 w_|false=>aW none [] prog 178 aY.k (fk (aQ (body f134))) (aS f134) (bS prog f134 K) b6 w_) (bS prog f134 K)))
def aY.e3(a:OA)(b c:Nat)(d:Int)(e:OA)(f:Int)(s:Int×Int):Env:= [(0,.slice a b c),(1,.int .i64 d),(4,.func (.func 73) #[.pointer e] #[]),(10,.int .i64 f),(11,.bool false),(12,.int .i64 s.1),(13,.int .i64 s.2)]
def aY.u3:List Nat:= [0,1,4,10,11,12,13]
def aY.q4(Q:aO):aO:=(aL 6 (ck (sR (bB (lB (bB (sL (fk (sR (body f134))))))))++aY.u3) (bV (fun b6 w_=>match cutAt aY.k (sR (bB (lB (bB (sL (fk (sR (body f134))))))))with|true=>Holds none [] prog 178 (sR (bB (lB (bB (sL (fk (sR (body f134)))))))) (aL 5 aY.u3 Q) b6 w_|false=>aW none [] prog 178 aY.k (sR (bB (lB (bB (sL (fk (sR (body f134)))))))) aY.u3 (aL 5 aY.u3 Q) b6 w_) (aL 5 aY.u3 Q)))
def aY.e4(a:OA)(b c:Nat)(d:Int)(e:OA)(f g s:Int):Env:= [(0,.slice a b c),(1,.int .i64 d),(4,.func (.func 73) #[.pointer e] #[]),(10,.int .i64 f),(11,.bool false),(12,.int .i64 s),(13,.int .i64 g)]
def aY.u4:List Nat:= [0,1,4,10,11,12,13]
def aY.q5(Q:aO):aO:=(aL 8 (ck (aQ (bB (lB (bB (sL (fk (sR (body f134))))))))++aY.u3) (bV (fun b6 w_=>match cutAt aY.k (aQ (bB (lB (bB (sL (fk (sR (body f134))))))))with|true=>Holds none [] prog 178 (aQ (bB (lB (bB (sL (fk (sR (body f134)))))))) (aL 5 aY.u3 Q) b6 w_|false=>aW none [] prog 178 aY.k (aQ (bB (lB (bB (sL (fk (sR (body f134)))))))) aY.u3 (aL 5 aY.u3 Q) b6 w_) (aL 5 aY.u3 Q)))
def aY.e5(a:OA)(b c:Nat)(d:Int)(e:OA)(f g s:Int):Env:= [(0,.slice a b c),(1,.int .i64 d),(4,.func (.func 73) #[.pointer e] #[]),(10,.int .i64 f),(11,.bool false),(12,.int .i64 g),(13,.int .i64 s)]
def aY.u5:List Nat:= [0,1,4,10,11,12,13]
section
variable(a:OA)(b d:Nat)(e f g:Int)(i:OA)(K:KT)(w:World)
def aY.W:Prop:=
 let j:=w.drew;(0<=g/\g<(b:Int))/\Is a fun k:Addr=>∃m:AV,(m.size=32/\Cells j (k.add (g.toNat*32)) m)/\(0<=e/\e<(b:Int))/\Is a fun n:Addr=>∃o:AV,(o.size=32/\Cells j (n.add (e.toNat*32)) o)/\(0<=e/\e<(b:Int))/\Is a fun p:Addr=>(m.size=32/\(∀q∈m.toList,q.oneCell'=true)/\∀r,r<32->Wr j ((p.add (e.toNat*32)).add r))/\let t:=setCells j (p.add (e.toNat*32)) m.toList 0;(0<=g/\g<(b:Int))/\Is a fun u:Addr=>(o.size=32/\(∀v∈o.toList,v.oneCell'=true)/\∀x,x<32->Wr t ((u.add (g.toNat*32)).add x))/\let y:=setCells t (u.add (g.toNat*32)) o.toList 0;Holds none [] prog 178 (.loop (lB (bB (sL (aQ (sR (body f134))))))) (aY.q1 K) [(0,.slice a b d),(1,.int .i64 e),(4,.func (.func 73) #[.pointer i] #[]),(10,.int .i64 0),(11,.bool false),(12,.int .i64 (i64.wrap (e+(1:Int)))),(13,.int .i64 (i64.wrap (f-(1:Int))))] y
variable{a b d e f g i K w}
theorem aY.of(h:aY.W a b d e f g i K w):bC prog 134 #[.slice a b d,.int .i64 e,.int .i64 f,.int .i64 g,.func (.func 73) #[.pointer i] #[]] w K:=
 rqq func134 (C:=aY.k) h
end
section
variable(a:OA)(b c:Nat)(d:Int)(e:OA)(f g i:Int)(Q:aO)(w:World)
def aY.B1:Prop:=
 let j:=w.drew;Split (decide (g<=i)) ((0<=g/\g<(b:Int))/\Is a fun k:Addr=>∃m:AV,(m.size=32/\Cells j (k.add (g.toNat*32)) m)/\(0<=d/\d<(b:Int))/\Is a fun n:Addr=>∃o:AV,(o.size=32/\Cells j (n.add (d.toNat*32)) o)/\bC prog 73 #[.pointer e,.agg m,.agg o] j fun p q=>∃r:Int,p=.int .i64 r/\Split (decide (r<(0:Int))) (Q .normal [(0,.slice a b c),(1,.int .i64 d),(4,.func (.func 73) #[.pointer e] #[]),(10,.int .i64 f),(11,.bool false),(12,.int .i64 (i64.wrap (g+(1:Int)))),(13,.int .i64 i)] q) (Q (.exit 0) [(0,.slice a b c),(1,.int .i64 d),(4,.func (.func 73) #[.pointer e] #[]),(10,.int .i64 f),(11,.bool false),(12,.int .i64 g),(13,.int .i64 i)] q)) (Q (.exit 0) [(0,.slice a b c),(1,.int .i64 d),(4,.func (.func 73) #[.pointer e] #[]),(10,.int .i64 f),(11,.bool false),(12,.int .i64 g),(13,.int .i64 i)] j)
theorem aY.b1:(aW none [] prog 178 aY.k (lB (bB (sL (aQ (sR (body f134)))))) aY.u1 Q [(0,.slice a b c),(1,.int .i64 d),(4,.func (.func 73) #[.pointer e] #[]),(10,.int .i64 f),(11,.bool false),(12,.int .i64 g),(13,.int .i64 i)] w)=aY.B1 a b c d e f g i Q w:=by kernel_rfl
variable{a b c d e f i}
theorem aY.cC(I:Int->World->Prop)(μ:Int->World->Nat)(s:Int){Q:aO}{w:World}(h0:I s w)
 (round:∀s w,I s w->aY.B1 a b c d e f s i (bR (aY.e1 a b c d e f i) I μ s w Q) w):Holds none [] prog 178 (.loop (lB (bB (sL (aQ (sR (body f134))))))) Q (aY.e1 a b c d e f i s) w:=
 bp ng mix (aY.e1 a b c d e f i) I μ aY.k aY.u1 s (fun s Q w=>aY.B1 a b c d e f s i Q w) (fun s Q w=>aY.b1 a b c d e f s i Q w) h0 round
end
section
variable(a:OA)(b c:Nat)(d:Int)(e:OA)(f g i:Int)(K:KT)(w:World)
def aY.cU:Prop:=
 Holds none [] prog 178 (.loop (lB (bB (sL (bU (body f134)))))) (aY.q2 K) [(0,.slice a b c),(1,.int .i64 d),(4,.func (.func 73) #[.pointer e] #[]),(10,.int .i64 f),(11,.bool false),(12,.int .i64 g),(13,.int .i64 i)] w
theorem aY.df:(aY.q1 K (.exit 0) [(0,.slice a b c),(1,.int .i64 d),(4,.func (.func 73) #[.pointer e] #[]),(10,.int .i64 f),(11,.bool false),(12,.int .i64 g),(13,.int .i64 i)] w)=aY.cU a b c d e f g i K w:=by kernel_rfl
end
section
variable(a:OA)(b c:Nat)(d:Int)(e:OA)(f g i:Int)(Q:aO)(w:World)
def aY.B2:Prop:=
 let j:=w.drew;Split (decide (g<=i)) ((0<=i/\i<(b:Int))/\Is a fun k:Addr=>∃m:AV,(m.size=32/\Cells j (k.add (i.toNat*32)) m)/\(0<=d/\d<(b:Int))/\Is a fun n:Addr=>∃o:AV,(o.size=32/\Cells j (n.add (d.toNat*32)) o)/\bC prog 73 #[.pointer e,.agg m,.agg o] j fun p q=>∃r:Int,p=.int .i64 r/\Split (!(decide (r<(0:Int)))) (Q .normal [(0,.slice a b c),(1,.int .i64 d),(4,.func (.func 73) #[.pointer e] #[]),(10,.int .i64 f),(11,.bool false),(12,.int .i64 g),(13,.int .i64 (i64.wrap (i-(1:Int))))] q) (Q (.exit 2) [(0,.slice a b c),(1,.int .i64 d),(4,.func (.func 73) #[.pointer e] #[]),(10,.int .i64 f),(11,.bool false),(12,.int .i64 g),(13,.int .i64 i)] q)) (Q (.exit 2) [(0,.slice a b c),(1,.int .i64 d),(4,.func (.func 73) #[.pointer e] #[]),(10,.int .i64 f),(11,.bool false),(12,.int .i64 g),(13,.int .i64 i)] j)
theorem aY.b2:(aW none [] prog 178 aY.k (lB (bB (sL (bU (body f134))))) aY.u2 Q [(0,.slice a b c),(1,.int .i64 d),(4,.func (.func 73) #[.pointer e] #[]),(10,.int .i64 f),(11,.bool false),(12,.int .i64 g),(13,.int .i64 i)] w)=aY.B2 a b c d e f g i Q w:=by kernel_rfl
variable{a b c d e f g}
theorem aY.gU(I:Int->World->Prop)(μ:Int->World->Nat)(s:Int){Q:aO}{w:World}(h0:I s w)
 (round:∀s w,I s w->aY.B2 a b c d e f g s (bR (aY.e2 a b c d e f g) I μ s w Q) w):Holds none [] prog 178 (.loop (lB (bB (sL (bU (body f134)))))) Q (aY.e2 a b c d e f g s) w:=
 bp ng mix (aY.e2 a b c d e f g) I μ aY.k aY.u2 s (fun s Q w=>aY.B2 a b c d e f g s Q w) (fun s Q w=>aY.b2 a b c d e f g s Q w) h0 round
end
section
variable(a:OA)(b c:Nat)(d:Int)(e:OA)(f g i:Int)(K:KT)(w:World)
def aY.iN:Prop:=
 Split (decide (g>i)) (let j:=w.drew;(0<=d/\d<(b:Int))/\Is a fun k:Addr=>∃m:AV,(m.size=32/\Cells j (k.add (d.toNat*32)) m)/\(0<=i/\i<(b:Int))/\Is a fun n:Addr=>∃o:AV,(o.size=32/\Cells j (n.add (i.toNat*32)) o)/\(0<=i/\i<(b:Int))/\Is a fun p:Addr=>(m.size=32/\(∀q∈m.toList,q.oneCell'=true)/\∀r,r<32->Wr j ((p.add (i.toNat*32)).add r))/\let t:=setCells j (p.add (i.toNat*32)) m.toList 0;(0<=d/\d<(b:Int))/\Is a fun u:Addr=>(o.size=32/\(∀v∈o.toList,v.oneCell'=true)/\∀x,x<32->Wr t ((u.add (d.toNat*32)).add x))/\let y:=setCells t (u.add (d.toNat*32)) o.toList 0;K (.tuple #[.int .i64 i,.bool true]) y) (let z:=w.drew;(0<=i/\i<(b:Int))/\Is a fun a1:Addr=>∃b1:AV,(b1.size=32/\Cells z (a1.add (i.toNat*32)) b1)/\(0<=g/\g<(b:Int))/\Is a fun c1:Addr=>∃d1:AV,(d1.size=32/\Cells z (c1.add (g.toNat*32)) d1)/\(0<=g/\g<(b:Int))/\Is a fun e1:Addr=>(b1.size=32/\(∀f1∈b1.toList,f1.oneCell'=true)/\∀g1,g1<32->Wr z ((e1.add (g.toNat*32)).add g1))/\let i1:=setCells z (e1.add (g.toNat*32)) b1.toList 0;(0<=i/\i<(b:Int))/\Is a fun j1:Addr=>(d1.size=32/\(∀k1∈d1.toList,k1.oneCell'=true)/\∀m1,m1<32->Wr i1 ((j1.add (i.toNat*32)).add m1))/\let n1:=setCells i1 (j1.add (i.toNat*32)) d1.toList 0;Holds none [] prog 178 (.loop (lB (bB (sL (fk (sR (body f134))))))) (aY.q3 K) [(0,.slice a b c),(1,.int .i64 d),(4,.func (.func 73) #[.pointer e] #[]),(10,.int .i64 f),(11,.bool false),(12,.int .i64 (i64.wrap (g+(1:Int)))),(13,.int .i64 (i64.wrap (i-(1:Int))))] n1)
theorem aY.jN:(aY.q2 K (.exit 2) [(0,.slice a b c),(1,.int .i64 d),(4,.func (.func 73) #[.pointer e] #[]),(10,.int .i64 f),(11,.bool false),(12,.int .i64 g),(13,.int .i64 i)] w)=aY.iN a b c d e f g i K w:=by kernel_rfl
end
section
variable(a:OA)(b c:Nat)(d:Int)(e:OA)(f g i:Int)(Q:aO)(w:World)
def aY.B3:Prop:=
 Holds none [] prog 178 (.loop (lB (bB (sL (bB (lB (bB (sL (fk (sR (body f134))))))))))) (aY.q4 Q) [(0,.slice a b c),(1,.int .i64 d),(4,.func (.func 73) #[.pointer e] #[]),(10,.int .i64 f),(11,.bool false),(12,.int .i64 g),(13,.int .i64 i)] w
theorem aY.b3:(aW none [] prog 178 aY.k (lB (bB (sL (fk (sR (body f134)))))) aY.u3 Q [(0,.slice a b c),(1,.int .i64 d),(4,.func (.func 73) #[.pointer e] #[]),(10,.int .i64 f),(11,.bool false),(12,.int .i64 g),(13,.int .i64 i)] w)=aY.B3 a b c d e f g i Q w:=by kernel_rfl
variable{a b c d e f}
theorem aY.vM(I:Int×Int->World->Prop)(μ:Int×Int->World->Nat)(s:Int×Int){Q:aO}{w:World}(h0:I s w)
 (round:∀s w,I s w->aY.B3 a b c d e f (s.1) (s.2) (bR (aY.e3 a b c d e f) I μ s w Q) w):Holds none [] prog 178 (.loop (lB (bB (sL (fk (sR (body f134))))))) Q (aY.e3 a b c d e f s) w:=
 bp ng mix (aY.e3 a b c d e f) I μ aY.k aY.u3 s (fun s Q w=>aY.B3 a b c d e f (s.1) (s.2) Q w) (fun s Q w=>aY.b3 a b c d e f (s.1) (s.2) Q w) h0 round
end
section
variable(a:OA)(b c:Nat)(d:Int)(e:OA)(f g i:Int)(Q:aO)(w:World)
def aY.B4:Prop:=
 let j:=w.drew;Split (decide (g<=i)) ((0<=g/\g<(b:Int))/\Is a fun k:Addr=>∃m:AV,(m.size=32/\Cells j (k.add (g.toNat*32)) m)/\(0<=d/\d<(b:Int))/\Is a fun n:Addr=>∃o:AV,(o.size=32/\Cells j (n.add (d.toNat*32)) o)/\bC prog 73 #[.pointer e,.agg m,.agg o] j fun p q=>∃r:Int,p=.int .i64 r/\Split (decide (r<(0:Int))) (Q .normal [(0,.slice a b c),(1,.int .i64 d),(4,.func (.func 73) #[.pointer e] #[]),(10,.int .i64 f),(11,.bool false),(12,.int .i64 (i64.wrap (g+(1:Int)))),(13,.int .i64 i)] q) (Q (.exit 6) [(0,.slice a b c),(1,.int .i64 d),(4,.func (.func 73) #[.pointer e] #[]),(10,.int .i64 f),(11,.bool false),(12,.int .i64 g),(13,.int .i64 i)] q)) (Q (.exit 6) [(0,.slice a b c),(1,.int .i64 d),(4,.func (.func 73) #[.pointer e] #[]),(10,.int .i64 f),(11,.bool false),(12,.int .i64 g),(13,.int .i64 i)] j)
theorem aY.b4:(aW none [] prog 178 aY.k (lB (bB (sL (bB (lB (bB (sL (fk (sR (body f134)))))))))) aY.u4 Q [(0,.slice a b c),(1,.int .i64 d),(4,.func (.func 73) #[.pointer e] #[]),(10,.int .i64 f),(11,.bool false),(12,.int .i64 g),(13,.int .i64 i)] w)=aY.B4 a b c d e f g i Q w:=by kernel_rfl
variable{a b c d e f i}
theorem aY.Ie(I:Int->World->Prop)(μ:Int->World->Nat)(s:Int){Q:aO}{w:World}(h0:I s w)
 (round:∀s w,I s w->aY.B4 a b c d e f s i (bR (aY.e4 a b c d e f i) I μ s w Q) w):Holds none [] prog 178 (.loop (lB (bB (sL (bB (lB (bB (sL (fk (sR (body f134))))))))))) Q (aY.e4 a b c d e f i s) w:=
 bp ng mix (aY.e4 a b c d e f i) I μ aY.k aY.u4 s (fun s Q w=>aY.B4 a b c d e f s i Q w) (fun s Q w=>aY.b4 a b c d e f s i Q w) h0 round
end
section
variable(a:OA)(b c:Nat)(d:Int)(e:OA)(f g i:Int)(Q:aO)(w:World)
def aY.DB:Prop:=
 Holds none [] prog 178 (.loop (lB (bB (sL (sR (bB (lB (bB (sL (fk (sR (body f134)))))))))))) (aY.q5 Q) [(0,.slice a b c),(1,.int .i64 d),(4,.func (.func 73) #[.pointer e] #[]),(10,.int .i64 f),(11,.bool false),(12,.int .i64 g),(13,.int .i64 i)] w
theorem aY.Hk:(aY.q4 Q (.exit 6) [(0,.slice a b c),(1,.int .i64 d),(4,.func (.func 73) #[.pointer e] #[]),(10,.int .i64 f),(11,.bool false),(12,.int .i64 g),(13,.int .i64 i)] w)=aY.DB a b c d e f g i Q w:=by kernel_rfl
end
section
variable(a:OA)(b c:Nat)(d:Int)(e:OA)(f g i:Int)(Q:aO)(w:World)
def aY.B5:Prop:=
 let j:=w.drew;Split (decide (g<=i)) ((0<=i/\i<(b:Int))/\Is a fun k:Addr=>∃m:AV,(m.size=32/\Cells j (k.add (i.toNat*32)) m)/\(0<=d/\d<(b:Int))/\Is a fun n:Addr=>∃o:AV,(o.size=32/\Cells j (n.add (d.toNat*32)) o)/\bC prog 73 #[.pointer e,.agg m,.agg o] j fun p q=>∃r:Int,p=.int .i64 r/\Split (!(decide (r<(0:Int)))) (Q .normal [(0,.slice a b c),(1,.int .i64 d),(4,.func (.func 73) #[.pointer e] #[]),(10,.int .i64 f),(11,.bool false),(12,.int .i64 g),(13,.int .i64 (i64.wrap (i-(1:Int))))] q) (Q (.exit 8) [(0,.slice a b c),(1,.int .i64 d),(4,.func (.func 73) #[.pointer e] #[]),(10,.int .i64 f),(11,.bool false),(12,.int .i64 g),(13,.int .i64 i)] q)) (Q (.exit 8) [(0,.slice a b c),(1,.int .i64 d),(4,.func (.func 73) #[.pointer e] #[]),(10,.int .i64 f),(11,.bool false),(12,.int .i64 g),(13,.int .i64 i)] j)
theorem aY.b5:(aW none [] prog 178 aY.k (lB (bB (sL (sR (bB (lB (bB (sL (fk (sR (body f134))))))))))) aY.u5 Q [(0,.slice a b c),(1,.int .i64 d),(4,.func (.func 73) #[.pointer e] #[]),(10,.int .i64 f),(11,.bool false),(12,.int .i64 g),(13,.int .i64 i)] w)=aY.B5 a b c d e f g i Q w:=by kernel_rfl
variable{a b c d e f g}
theorem aY.TJ(I:Int->World->Prop)(μ:Int->World->Nat)(s:Int){Q:aO}{w:World}(h0:I s w)
 (round:∀s w,I s w->aY.B5 a b c d e f g s (bR (aY.e5 a b c d e f g) I μ s w Q) w):Holds none [] prog 178 (.loop (lB (bB (sL (sR (bB (lB (bB (sL (fk (sR (body f134)))))))))))) Q (aY.e5 a b c d e f g s) w:=
 bp ng mix (aY.e5 a b c d e f g) I μ aY.k aY.u5 s (fun s Q w=>aY.B5 a b c d e f g s Q w) (fun s Q w=>aY.b5 a b c d e f g s Q w) h0 round
end
section
variable(a:OA)(b c:Nat)(d:Int)(e:OA)(f g i:Int)(Q:aO)(w:World)
def aY.Rw:Prop:=
 Split (decide (g>i)) (Q (.exit 4) [(0,.slice a b c),(1,.int .i64 d),(4,.func (.func 73) #[.pointer e] #[]),(10,.int .i64 f),(11,.bool false),(12,.int .i64 g),(13,.int .i64 i)] w) (let j:=w.drew;(0<=i/\i<(b:Int))/\Is a fun k:Addr=>∃m:AV,(m.size=32/\Cells j (k.add (i.toNat*32)) m)/\(0<=g/\g<(b:Int))/\Is a fun n:Addr=>∃o:AV,(o.size=32/\Cells j (n.add (g.toNat*32)) o)/\(0<=g/\g<(b:Int))/\Is a fun p:Addr=>(m.size=32/\(∀q∈m.toList,q.oneCell'=true)/\∀r,r<32->Wr j ((p.add (g.toNat*32)).add r))/\let t:=setCells j (p.add (g.toNat*32)) m.toList 0;(0<=i/\i<(b:Int))/\Is a fun u:Addr=>(o.size=32/\(∀v∈o.toList,v.oneCell'=true)/\∀x,x<32->Wr t ((u.add (i.toNat*32)).add x))/\let y:=setCells t (u.add (i.toNat*32)) o.toList 0;Q .normal [(0,.slice a b c),(1,.int .i64 d),(4,.func (.func 73) #[.pointer e] #[]),(10,.int .i64 f),(11,.bool false),(12,.int .i64 (i64.wrap (g+(1:Int)))),(13,.int .i64 (i64.wrap (i-(1:Int))))] y)
theorem aY.SK:(aY.q5 Q (.exit 8) [(0,.slice a b c),(1,.int .i64 d),(4,.func (.func 73) #[.pointer e] #[]),(10,.int .i64 f),(11,.bool false),(12,.int .i64 g),(13,.int .i64 i)] w)=aY.Rw a b c d e f g i Q w:=by kernel_rfl
end
section
def aY.xu(a:OA)(b c:Nat)(d:Int)(e:OA)(f g i:Int)(K:KT)(w:World):Prop:=
 let j:=w.drew;(0<=d/\d<(b:Int))/\Is a fun k:Addr=>∃m:AV,(m.size=32/\Cells j (k.add (d.toNat*32)) m)/\(0<=i/\i<(b:Int))/\Is a fun n:Addr=>∃o:AV,(o.size=32/\Cells j (n.add (i.toNat*32)) o)/\(0<=i/\i<(b:Int))/\Is a fun p:Addr=>(m.size=32/\(∀q∈m.toList,q.oneCell'=true)/\∀r,r<32->Wr j ((p.add (i.toNat*32)).add r))/\let t:=setCells j (p.add (i.toNat*32)) m.toList 0;(0<=d/\d<(b:Int))/\Is a fun u:Addr=>(o.size=32/\(∀v∈o.toList,v.oneCell'=true)/\∀x,x<32->Wr t ((u.add (d.toNat*32)).add x))/\let y:=setCells t (u.add (d.toNat*32)) o.toList 0;K (.tuple #[.int .i64 i,.bool false]) y
variable(a:OA)(b c:Nat)(d:Int)(e:OA)(f g i:Int)(K:KT)(w:World)
theorem aY.Ca:(aY.q3 K (.exit 4) [(0,.slice a b c),(1,.int .i64 d),(4,.func (.func 73) #[.pointer e] #[]),(10,.int .i64 f),(11,.bool false),(12,.int .i64 g),(13,.int .i64 i)] w)=aY.xu a b c d e f g i K w:=by kernel_rfl
end
def bY.k:List Nat:= [5,6]
def bY.q1(K:KT):aO:=(aL 0 (aS f152) (bS prog f152 K))
def bY.e1(a:OA)(b c:Nat)(d e:Int)(f:OA)(s:Int):Env:= [(0,.slice a b c),(2,.int .i64 d),(3,.int .i64 e),(4,.func (.func 73) #[.pointer f] #[]),(10,.int .i64 s)]
def bY.u1:List Nat:= [0,2,3,4,10]
section
variable(a:OA)(b d:Nat)(e f g:Int)(i:OA)(K:KT)(w:World)
def bY.W:Prop:=
 Holds none [] prog 82 (.loop (lB (bB (sR (body f152))))) (bY.q1 K) [(0,.slice a b d),(2,.int .i64 f),(3,.int .i64 g),(4,.func (.func 73) #[.pointer i] #[]),(10,.int .i64 e)] w
variable{a b d e f g i K w}
theorem bY.of(h:bY.W a b d e f g i K w):bC prog 152 #[.slice a b d,.int .i64 e,.int .i64 f,.int .i64 g,.func (.func 73) #[.pointer i] #[]] w K:=
 rqq func152 (C:=bY.k) h
end
section
variable(a:OA)(b c:Nat)(d e:Int)(f:OA)(g:Int)(Q:aO)(w:World)
def bY.B1:Prop:=
 Split (decide ((i64.wrap ((i64.wrap ((2:Int)*g))+(1:Int)))>=d)) (Q (.exit 0) [(0,.slice a b c),(2,.int .i64 d),(3,.int .i64 e),(4,.func (.func 73) #[.pointer f] #[]),(10,.int .i64 g),(11,.int .i64 (i64.wrap ((i64.wrap ((2:Int)*g))+(1:Int))))] w) (let i:=w.drew;Split (decide ((i64.wrap ((i64.wrap ((i64.wrap ((2:Int)*g))+(1:Int)))+(1:Int)))<d)) ((0<=(i64.wrap (e+(i64.wrap ((i64.wrap ((2:Int)*g))+(1:Int)))))/\(i64.wrap (e+(i64.wrap ((i64.wrap ((2:Int)*g))+(1:Int)))))<(b:Int))/\Is a fun j:Addr=>∃k:AV,(k.size=32/\Cells i (j.add ((i64.wrap (e+(i64.wrap ((i64.wrap ((2:Int)*g))+(1:Int))))).toNat*32)) k)/\(0<=(i64.wrap ((i64.wrap (e+(i64.wrap ((i64.wrap ((2:Int)*g))+(1:Int)))))+(1:Int)))/\(i64.wrap ((i64.wrap (e+(i64.wrap ((i64.wrap ((2:Int)*g))+(1:Int)))))+(1:Int)))<(b:Int))/\Is a fun m:Addr=>∃n:AV,(n.size=32/\Cells i (m.add ((i64.wrap ((i64.wrap (e+(i64.wrap ((i64.wrap ((2:Int)*g))+(1:Int)))))+(1:Int))).toNat*32)) n)/\bC prog 73 #[.pointer f,.agg k,.agg n] i fun o p=>∃q:Int,o=.int .i64 q/\Split (decide (q<(0:Int))) (Holds none [] prog 82 (aQ (sR (bB (lB (bB (sR (body f152))))))) (aL 1 bY.u1 Q) [(0,.slice a b c),(2,.int .i64 d),(3,.int .i64 e),(4,.func (.func 73) #[.pointer f] #[]),(10,.int .i64 g),(11,.int .i64 (i64.wrap ((i64.wrap ((i64.wrap ((2:Int)*g))+(1:Int)))+(1:Int))))] p) (Holds none [] prog 82 (aQ (sR (bB (lB (bB (sR (body f152))))))) (aL 1 bY.u1 Q) [(0,.slice a b c),(2,.int .i64 d),(3,.int .i64 e),(4,.func (.func 73) #[.pointer f] #[]),(10,.int .i64 g),(11,.int .i64 (i64.wrap ((i64.wrap ((2:Int)*g))+(1:Int))))] p)) (Holds none [] prog 82 (aQ (sR (bB (lB (bB (sR (body f152))))))) (aL 1 bY.u1 Q) [(0,.slice a b c),(2,.int .i64 d),(3,.int .i64 e),(4,.func (.func 73) #[.pointer f] #[]),(10,.int .i64 g),(11,.int .i64 (i64.wrap ((i64.wrap ((2:Int)*g))+(1:Int))))] i))
theorem bY.b1:(aW none [] prog 82 bY.k (lB (bB (sR (body f152)))) bY.u1 Q [(0,.slice a b c),(2,.int .i64 d),(3,.int .i64 e),(4,.func (.func 73) #[.pointer f] #[]),(10,.int .i64 g)] w)=bY.B1 a b c d e f g Q w:=by kernel_rfl
variable{a b c d e f}
theorem bY.cC(I:Int->World->Prop)(μ:Int->World->Nat)(s:Int){Q:aO}{w:World}(h0:I s w)
 (round:∀s w,I s w->bY.B1 a b c d e f s (bR (bY.e1 a b c d e f) I μ s w Q) w):Holds none [] prog 82 (.loop (lB (bB (sR (body f152))))) Q (bY.e1 a b c d e f s) w:=
 bp ng mix (bY.e1 a b c d e f) I μ bY.k bY.u1 s (fun s Q w=>bY.B1 a b c d e f s Q w) (fun s Q w=>bY.b1 a b c d e f s Q w) h0 round
end
section
def bY.cU(a:OA)(b c:Nat)(d e:Int)(f:OA)(g i:Int)(K:KT)(w:World):Prop:=
 K (.tuple #[]) w
variable(a:OA)(b c:Nat)(d e:Int)(f:OA)(g i:Int)(K:KT)(w:World)
theorem bY.df:(bY.q1 K (.exit 0) [(0,.slice a b c),(2,.int .i64 d),(3,.int .i64 e),(4,.func (.func 73) #[.pointer f] #[]),(10,.int .i64 g),(11,.int .i64 i)] w)=bY.cU a b c d e f g i K w:=by kernel_rfl
end
section
variable(a:OA)(b c:Nat)(d e:Int)(f:OA)(g i:Int)(Q:aO)(w:World)
def bY.J1:Prop:=
 let j:=w.drew;(0<=(i64.wrap (e+g))/\(i64.wrap (e+g))<(b:Int))/\Is a fun k:Addr=>∃m:AV,(m.size=32/\Cells j (k.add ((i64.wrap (e+g)).toNat*32)) m)/\(0<=(i64.wrap (e+i))/\(i64.wrap (e+i))<(b:Int))/\Is a fun n:Addr=>∃o:AV,(o.size=32/\Cells j (n.add ((i64.wrap (e+i)).toNat*32)) o)/\bC prog 73 #[.pointer f,.agg m,.agg o] j fun p q=>∃r:Int,p=.int .i64 r/\Split (!(decide (r<(0:Int)))) (Q .ret [(0,.slice a b c),(2,.int .i64 d),(3,.int .i64 e),(4,.func (.func 73) #[.pointer f] #[]),(10,.int .i64 g),(11,.int .i64 i)] q) (Holds none [] prog 82 (bU (bB (lB (bB (sR (body f152)))))) (aL 1 bY.u1 Q) [(0,.slice a b c),(2,.int .i64 d),(3,.int .i64 e),(4,.func (.func 73) #[.pointer f] #[]),(10,.int .i64 g),(11,.int .i64 i)] q)
theorem bY.j1:(aW none [] prog 82 bY.k (aQ (sR (bB (lB (bB (sR (body f152))))))) bY.u1 (aL 1 bY.u1 Q) [(0,.slice a b c),(2,.int .i64 d),(3,.int .i64 e),(4,.func (.func 73) #[.pointer f] #[]),(10,.int .i64 g),(11,.int .i64 i)] w)=bY.J1 a b c d e f g i Q w:=by kernel_rfl
variable{a b c d e f g i Q w}
theorem bY.mF(h:bY.J1 a b c d e f g i Q w):Holds none [] prog 82 (aQ (sR (bB (lB (bB (sR (body f152))))))) (aL 1 bY.u1 Q) [(0,.slice a b c),(2,.int .i64 d),(3,.int .i64 e),(4,.func (.func 73) #[.pointer f] #[]),(10,.int .i64 g),(11,.int .i64 i)] w:=
 cZ (C:=bY.k) ng mix (bY.j1 a b c d e f g i Q w) h
end
section
variable(a:OA)(b c:Nat)(d e:Int)(f:OA)(g i:Int)(Q:aO)(w:World)
def bY.J2:Prop:=
 let j:=w.drew;(0<=(i64.wrap (e+i))/\(i64.wrap (e+i))<(b:Int))/\Is a fun k:Addr=>∃m:AV,(m.size=32/\Cells j (k.add ((i64.wrap (e+i)).toNat*32)) m)/\(0<=(i64.wrap (e+g))/\(i64.wrap (e+g))<(b:Int))/\Is a fun n:Addr=>∃o:AV,(o.size=32/\Cells j (n.add ((i64.wrap (e+g)).toNat*32)) o)/\(0<=(i64.wrap (e+g))/\(i64.wrap (e+g))<(b:Int))/\Is a fun p:Addr=>(m.size=32/\(∀q∈m.toList,q.oneCell'=true)/\∀r,r<32->Wr j ((p.add ((i64.wrap (e+g)).toNat*32)).add r))/\let t:=setCells j (p.add ((i64.wrap (e+g)).toNat*32)) m.toList 0;(0<=(i64.wrap (e+i))/\(i64.wrap (e+i))<(b:Int))/\Is a fun u:Addr=>(o.size=32/\(∀v∈o.toList,v.oneCell'=true)/\∀x,x<32->Wr t ((u.add ((i64.wrap (e+i)).toNat*32)).add x))/\let y:=setCells t (u.add ((i64.wrap (e+i)).toNat*32)) o.toList 0;Q .normal [(0,.slice a b c),(2,.int .i64 d),(3,.int .i64 e),(4,.func (.func 73) #[.pointer f] #[]),(10,.int .i64 i)] y
theorem bY.j2:(aW none [] prog 82 bY.k (bU (bB (lB (bB (sR (body f152)))))) bY.u1 (aL 1 bY.u1 Q) [(0,.slice a b c),(2,.int .i64 d),(3,.int .i64 e),(4,.func (.func 73) #[.pointer f] #[]),(10,.int .i64 g),(11,.int .i64 i)] w)=bY.J2 a b c d e f g i Q w:=by kernel_rfl
variable{a b c d e f g i Q w}
theorem bY.qM(h:bY.J2 a b c d e f g i Q w):Holds none [] prog 82 (bU (bB (lB (bB (sR (body f152)))))) (aL 1 bY.u1 Q) [(0,.slice a b c),(2,.int .i64 d),(3,.int .i64 e),(4,.func (.func 73) #[.pointer f] #[]),(10,.int .i64 g),(11,.int .i64 i)] w:=
 cZ (C:=bY.k) ng mix (bY.j2 a b c d e f g i Q w) h
end
section
variable(a:OA)(b d:Nat)(e:Int)(f g:OA)(K:KT)(w:World)
variable{a b d e f g K w}
end
def sK.k:List Nat:= []
section
variable(a:OA)(b d:Nat)(e f g:Int)(i j:OA)(K:KT)(w:World)
def sK.W:Prop:=
 bC prog 163 #[.slice a b d,.int .i64 e,.int .i64 f,.pointer i,.func (.func 73) #[.pointer j] #[]] w fun k m=>∃n o:Int,k=.tuple #[.int .i64 n,.int .i64 o]/\bC prog 163 #[.slice a b d,.int .i64 o,.int .i64 g,.pointer i,.func (.func 73) #[.pointer j] #[]] m fun p q=>∃r t:Int,p=.tuple #[.int .i64 r,.int .i64 t]/\bC prog 163 #[.slice a b d,.int .i64 n,.int .i64 r,.pointer i,.func (.func 73) #[.pointer j] #[]] q fun u v=>∃x y:Int,u=.tuple #[.int .i64 x,.int .i64 y]/\K (.int .i64 y) v
variable{a b d e f g i j K w}
theorem sK.of(h:sK.W a b d e f g i j K w):bC prog 156 #[.slice a b d,.int .i64 e,.int .i64 f,.int .i64 g,.pointer i,.func (.func 73) #[.pointer j] #[]] w K:=
 rqq func156 (C:=sK.k) h
end
def sJ.k:List Nat:= []
section
def sJ.W(a:OA)(b d:Nat)(e f:Int)(g i:OA)(K:KT)(w:World):Prop:=
 let j:=w.drew;(0<=f/\f<(b:Int))/\Is a fun k:Addr=>∃m:AV,(m.size=32/\Cells j (k.add (f.toNat*32)) m)/\(0<=e/\e<(b:Int))/\Is a fun n:Addr=>∃o:AV,(o.size=32/\Cells j (n.add (e.toNat*32)) o)/\bC prog 73 #[.pointer i,.agg m,.agg o] j fun p q=>∃r:Int,p=.int .i64 r/\Split (decide (r<(0:Int))) (Is g fun t:Addr=>∃u:Int,q.cell? t=some (.int .i64 u)/\Is g fun v:Addr=>Wr q v/\let x:=q.setCell v (.int .i64 (i64.wrap (u+(1:Int))));K (.tuple #[.int .i64 f,.int .i64 e]) x) (K (.tuple #[.int .i64 e,.int .i64 f]) q)
variable(a:OA)(b d:Nat)(e f:Int)(g i:OA)(K:KT)(w:World)
variable{a b d e f g i K w}
theorem sJ.of(h:sJ.W a b d e f g i K w):bC prog 163 #[.slice a b d,.int .i64 e,.int .i64 f,.pointer g,.func (.func 73) #[.pointer i] #[]] w K:=
 rqq func163 (C:=sJ.k) h
end
end Go.Proofs.YtfleamccglihoaaGreatDoor
