import Derived.Test.YtnboahlopghcjaaGreatDoorProg
import Derived.Test.YtnboahlopghcjaaGreatDoorMA
import Derived.Test.YtnboahlopghcjaaGreatDoorMB
open Go.IntKind (i64 u64)
set_option linter.unusedVariables false
namespace Go.Proofs.YtnboahlopghcjaaGreatDoor
open Go.Proofs.Tryz
open Go Go.bP
def o5.k:List Nat:= []
section
variable(a:OA)(b d:Nat)(e:OA)(K:KT)(w:World)
def o5.W:Prop:=
 bj prog 106 #[.int .u64 (u64.wrap (b:Int))] w fun f g=>∃i:Int,f=.int .i64 i/\bj prog 105 #[.slice a b d,.int .i64 0,.int .i64 (b:Int),.int .i64 i,.func (.func 47) #[.pointer e] #[]] g fun j k=>j=.tuple #[]/\K (.tuple #[]) k
variable{a b d e K w}
theorem o5.of(h:o5.W a b d e K w):bj prog 72 #[.slice a b d,.func (.func 47) #[.pointer e] #[]] w K:=
 rqq func72 (C:=o5.k) h
end
def ax.k:List Nat:= [10,11,13,14,15,17,20,21,22,23,24,26,27,29,30]
def ax.q1(K:KT):aM:=(aI 0 (aT f105) (bO prog f105 K))
def ax.e1(a:OA)(b c:Nat)(d:OA)(s:Int×Int×Int×Bool×Bool):Env:= [(0,.slice a b c),(1,.int .i64 s.1),(2,.int .i64 s.2.1),(3,.int .i64 s.2.2.1),(4,.func (.func 47) #[.pointer d] #[]),(10,.bool s.2.2.2.1),(11,.bool s.2.2.2.2)]
def ax.u1:List Nat:= [0,1,2,3,4,10,11]
section
variable(a:OA)(b d:Nat)(e f g:Int)(i:OA)(K:KT)(w:World)
def ax.W:Prop:=
 Holds none [] prog 148 (.loop (lB (bB (sR (sR (body f105)))))) (ax.q1 K) [(0,.slice a b d),(1,.int .i64 e),(2,.int .i64 f),(3,.int .i64 g),(4,.func (.func 47) #[.pointer i] #[]),(10,.bool true),(11,.bool true)] w
variable{a b d e f g i K w}
theorem ax.of(h:ax.W a b d e f g i K w):bj prog 105 #[.slice a b d,.int .i64 e,.int .i64 f,.int .i64 g,.func (.func 47) #[.pointer i] #[]] w K:=
 rqq func105 (C:=ax.k) h
end
section
variable(a:OA)(b c:Nat)(d e f:Int)(g:OA)(i j:Bool)(Q:aM)(w:World)
def ax.B1:Prop:=
 Split (decide ((i64.wrap (e-d))<=(12:Int))) (bj prog 122 #[.slice a b c,.int .i64 d,.int .i64 e,.func (.func 47) #[.pointer g] #[]] w fun k m=>k=.tuple #[]/\Q .ret [(0,.slice a b c),(1,.int .i64 d),(2,.int .i64 e),(3,.int .i64 f),(4,.func (.func 47) #[.pointer g] #[]),(10,.bool i),(11,.bool j),(12,.int .i64 (i64.wrap (e-d)))] m) (Split (f==(0:Int)) (bj prog 123 #[.slice a b c,.int .i64 d,.int .i64 e,.func (.func 47) #[.pointer g] #[]] w fun n o=>n=.tuple #[]/\Q .ret [(0,.slice a b c),(1,.int .i64 d),(2,.int .i64 e),(3,.int .i64 f),(4,.func (.func 47) #[.pointer g] #[]),(10,.bool i),(11,.bool j),(12,.int .i64 (i64.wrap (e-d)))] o) (Split (!i) (bj prog 124 #[.slice a b c,.int .i64 d,.int .i64 e,.func (.func 47) #[.pointer g] #[]] w fun p q=>p=.tuple #[]/\Holds none [] prog 148 (sR (sR (sR (sR (bB (lB (bB (sR (sR (body f105)))))))))) (aI 1 ax.u1 Q) [(0,.slice a b c),(1,.int .i64 d),(2,.int .i64 e),(3,.int .i64 (i64.wrap (f-(1:Int)))),(4,.func (.func 47) #[.pointer g] #[]),(10,.bool i),(11,.bool j),(12,.int .i64 (i64.wrap (e-d)))] q) (Holds none [] prog 148 (sR (sR (sR (sR (bB (lB (bB (sR (sR (body f105)))))))))) (aI 1 ax.u1 Q) [(0,.slice a b c),(1,.int .i64 d),(2,.int .i64 e),(3,.int .i64 f),(4,.func (.func 47) #[.pointer g] #[]),(10,.bool i),(11,.bool j),(12,.int .i64 (i64.wrap (e-d)))] w)))
theorem ax.b1:(aO none [] prog 148 ax.k (lB (bB (sR (sR (body f105))))) ax.u1 Q [(0,.slice a b c),(1,.int .i64 d),(2,.int .i64 e),(3,.int .i64 f),(4,.func (.func 47) #[.pointer g] #[]),(10,.bool i),(11,.bool j)] w)=ax.B1 a b c d e f g i j Q w:=by kernel_rfl
variable{a b c g}
theorem ax.b7(I:Int×Int×Int×Bool×Bool->World->Prop)(μ:Int×Int×Int×Bool×Bool->World->Nat)(s:Int×Int×Int×Bool×Bool){Q:aM}{w:World}(h0:I s w)
 (round:∀s w,I s w->ax.B1 a b c (s.1) (s.2.1) (s.2.2.1) g (s.2.2.2.1) (s.2.2.2.2) (bI (ax.e1 a b c g) I μ s w Q) w):Holds none [] prog 148 (.loop (lB (bB (sR (sR (body f105)))))) Q (ax.e1 a b c g s) w:=
 ba ng mix (ax.e1 a b c g) I μ ax.k ax.u1 s (fun s Q w=>ax.B1 a b c (s.1) (s.2.1) (s.2.2.1) g (s.2.2.2.1) (s.2.2.2.2) Q w) (fun s Q w=>ax.b1 a b c (s.1) (s.2.1) (s.2.2.1) g (s.2.2.2.1) (s.2.2.2.2) Q w) h0 round
end
section
variable(a:OA)(b c:Nat)(d e f:Int)(g:OA)(i j:Bool)(k:Int)(Q:aM)(w:World)
def ax.J1:Prop:=
 bj prog 125 #[.slice a b c,.int .i64 d,.int .i64 e,.func (.func 47) #[.pointer g] #[]] w fun m n=>∃o p:Int,m=.tuple #[.int .i64 o,.int .i64 p]/\Holds none [] prog 148 (sR (sR (sR (sR (sR (bB (lB (bB (sR (sR (body f105))))))))))) (aI 1 ax.u1 Q) [(0,.slice a b c),(1,.int .i64 d),(2,.int .i64 e),(3,.int .i64 f),(4,.func (.func 47) #[.pointer g] #[]),(10,.bool i),(11,.bool j),(12,.int .i64 k),(13,.int .i64 o),(14,.int .i64 p)] n
theorem ax.j1:(aO none [] prog 148 ax.k (sR (sR (sR (sR (bB (lB (bB (sR (sR (body f105)))))))))) ax.u1 (aI 1 ax.u1 Q) [(0,.slice a b c),(1,.int .i64 d),(2,.int .i64 e),(3,.int .i64 f),(4,.func (.func 47) #[.pointer g] #[]),(10,.bool i),(11,.bool j),(12,.int .i64 k)] w)=ax.J1 a b c d e f g i j k Q w:=by kernel_rfl
variable{a b c d e f g i j k Q w}
theorem ax.ly(h:ax.J1 a b c d e f g i j k Q w):Holds none [] prog 148 (sR (sR (sR (sR (bB (lB (bB (sR (sR (body f105)))))))))) (aI 1 ax.u1 Q) [(0,.slice a b c),(1,.int .i64 d),(2,.int .i64 e),(3,.int .i64 f),(4,.func (.func 47) #[.pointer g] #[]),(10,.bool i),(11,.bool j),(12,.int .i64 k)] w:=
 cg (C:=ax.k) ng mix (ax.j1 a b c d e f g i j k Q w) h
end
section
variable(a:OA)(b c:Nat)(d e f:Int)(g:OA)(i j:Bool)(k m n:Int)(Q:aM)(w:World)
def ax.J2:Prop:=
 Split (n==(2:Int)) (bj prog 126 #[.slice a b c,.int .i64 d,.int .i64 e,.func (.func 47) #[.pointer g] #[]] w fun o p=>o=.tuple #[]/\Holds none [] prog 148 (sR (cT (sR (sL (sR (sR (sR (sR (sR (bB (lB (bB (sR (sR (body f105))))))))))))))) (bD (fun bE w_=>match cutAt ax.k (sR (sR (sR (sR (sR (sR (bB (lB (bB (sR (sR (body f105))))))))))))with|true=>Holds none [] prog 148 (sR (sR (sR (sR (sR (sR (bB (lB (bB (sR (sR (body f105)))))))))))) (aI 1 ax.u1 Q) bE w_|false=>aO none [] prog 148 ax.k (sR (sR (sR (sR (sR (sR (bB (lB (bB (sR (sR (body f105)))))))))))) ax.u1 (aI 1 ax.u1 Q) bE w_) (aI 1 ax.u1 Q)) [(0,.slice a b c),(1,.int .i64 d),(2,.int .i64 e),(3,.int .i64 f),(4,.func (.func 47) #[.pointer g] #[]),(10,.bool i),(11,.bool j),(12,.int .i64 k),(13,.int .i64 m),(14,.int .i64 n)] p) (Holds none [] prog 148 (sR (sR (sR (sR (sR (sR (bB (lB (bB (sR (sR (body f105)))))))))))) (aI 1 ax.u1 Q) [(0,.slice a b c),(1,.int .i64 d),(2,.int .i64 e),(3,.int .i64 f),(4,.func (.func 47) #[.pointer g] #[]),(10,.bool i),(11,.bool j),(12,.int .i64 k),(13,.int .i64 m),(14,.int .i64 n)] w)
theorem ax.j2:(aO none [] prog 148 ax.k (sR (sR (sR (sR (sR (bB (lB (bB (sR (sR (body f105))))))))))) ax.u1 (aI 1 ax.u1 Q) [(0,.slice a b c),(1,.int .i64 d),(2,.int .i64 e),(3,.int .i64 f),(4,.func (.func 47) #[.pointer g] #[]),(10,.bool i),(11,.bool j),(12,.int .i64 k),(13,.int .i64 m),(14,.int .i64 n)] w)=ax.J2 a b c d e f g i j k m n Q w:=by kernel_rfl
variable{a b c d e f g i j k m n Q w}
theorem ax.ny(h:ax.J2 a b c d e f g i j k m n Q w):Holds none [] prog 148 (sR (sR (sR (sR (sR (bB (lB (bB (sR (sR (body f105))))))))))) (aI 1 ax.u1 Q) [(0,.slice a b c),(1,.int .i64 d),(2,.int .i64 e),(3,.int .i64 f),(4,.func (.func 47) #[.pointer g] #[]),(10,.bool i),(11,.bool j),(12,.int .i64 k),(13,.int .i64 m),(14,.int .i64 n)] w:=
 cg (C:=ax.k) ng mix (ax.j2 a b c d e f g i j k m n Q w) h
end
section
variable(a:OA)(b c:Nat)(d e f:Int)(g:OA)(i j:Bool)(k m n:Int)(Q:aM)(w:World)
def ax.J3:Prop:=
 Holds none [] prog 148 (sR (sR (cT (sR (sL (sR (sR (sR (sR (sR (bB (lB (bB (sR (sR (body f105)))))))))))))))) (bD (fun bE w_=>match cutAt ax.k (sR (sR (sR (sR (sR (sR (bB (lB (bB (sR (sR (body f105))))))))))))with|true=>Holds none [] prog 148 (sR (sR (sR (sR (sR (sR (bB (lB (bB (sR (sR (body f105)))))))))))) (aI 1 ax.u1 Q) bE w_|false=>aO none [] prog 148 ax.k (sR (sR (sR (sR (sR (sR (bB (lB (bB (sR (sR (body f105)))))))))))) ax.u1 (aI 1 ax.u1 Q) bE w_) (aI 1 ax.u1 Q)) [(0,.slice a b c),(1,.int .i64 d),(2,.int .i64 e),(3,.int .i64 f),(4,.func (.func 47) #[.pointer g] #[]),(10,.bool i),(11,.bool j),(12,.int .i64 k),(13,.int .i64 (i64.wrap ((i64.wrap (e-(1:Int)))-(i64.wrap (m-d))))),(14,.int .i64 n)] w
theorem ax.j3:(aO none [] prog 148 ax.k (sR (cT (sR (sL (sR (sR (sR (sR (sR (bB (lB (bB (sR (sR (body f105))))))))))))))) (bM (sR (sR (sR (sR (sR (sR (bB (lB (bB (sR (sR (body f105))))))))))))++ax.u1) (bD (fun bE w_=>match cutAt ax.k (sR (sR (sR (sR (sR (sR (bB (lB (bB (sR (sR (body f105))))))))))))with|true=>Holds none [] prog 148 (sR (sR (sR (sR (sR (sR (bB (lB (bB (sR (sR (body f105)))))))))))) (aI 1 ax.u1 Q) bE w_|false=>aO none [] prog 148 ax.k (sR (sR (sR (sR (sR (sR (bB (lB (bB (sR (sR (body f105)))))))))))) ax.u1 (aI 1 ax.u1 Q) bE w_) (aI 1 ax.u1 Q)) [(0,.slice a b c),(1,.int .i64 d),(2,.int .i64 e),(3,.int .i64 f),(4,.func (.func 47) #[.pointer g] #[]),(10,.bool i),(11,.bool j),(12,.int .i64 k),(13,.int .i64 m),(14,.int .i64 n)] w)=ax.J3 a b c d e f g i j k m n Q w:=by kernel_rfl
variable{a b c d e f g i j k m n Q w}
theorem ax.GP(h:ax.J3 a b c d e f g i j k m n Q w):Holds none [] prog 148 (sR (cT (sR (sL (sR (sR (sR (sR (sR (bB (lB (bB (sR (sR (body f105))))))))))))))) (bD (fun bE w_=>match cutAt ax.k (sR (sR (sR (sR (sR (sR (bB (lB (bB (sR (sR (body f105))))))))))))with|true=>Holds none [] prog 148 (sR (sR (sR (sR (sR (sR (bB (lB (bB (sR (sR (body f105)))))))))))) (aI 1 ax.u1 Q) bE w_|false=>aO none [] prog 148 ax.k (sR (sR (sR (sR (sR (sR (bB (lB (bB (sR (sR (body f105)))))))))))) ax.u1 (aI 1 ax.u1 Q) bE w_) (aI 1 ax.u1 Q)) [(0,.slice a b c),(1,.int .i64 d),(2,.int .i64 e),(3,.int .i64 f),(4,.func (.func 47) #[.pointer g] #[]),(10,.bool i),(11,.bool j),(12,.int .i64 k),(13,.int .i64 m),(14,.int .i64 n)] w:=
 cg (C:=ax.k) ng mix (ax.j3 a b c d e f g i j k m n Q w) h
end
section
variable(a:OA)(b c:Nat)(d e f:Int)(g:OA)(i j:Bool)(k m n:Int)(Q:aM)(w:World)
def ax.J4:Prop:=
 Split i (Split j (Split (n==(1:Int)) (bj prog 127 #[.slice a b c,.int .i64 d,.int .i64 e,.func (.func 47) #[.pointer g] #[]] w fun o p=>∃q:Bool,o=.bool q/\Split q (Q .ret [(0,.slice a b c),(1,.int .i64 d),(2,.int .i64 e),(3,.int .i64 f),(4,.func (.func 47) #[.pointer g] #[]),(10,.bool i),(11,.bool j),(12,.int .i64 k),(13,.int .i64 m)] p) (Holds none [] prog 148 (sR (sR (sR (sR (sR (sR (sR (bB (lB (bB (sR (sR (body f105))))))))))))) (aI 1 ax.u1 Q) [(0,.slice a b c),(1,.int .i64 d),(2,.int .i64 e),(3,.int .i64 f),(4,.func (.func 47) #[.pointer g] #[]),(10,.bool i),(11,.bool j),(12,.int .i64 k),(13,.int .i64 m)] p)) (Holds none [] prog 148 (sR (sR (sR (sR (sR (sR (sR (bB (lB (bB (sR (sR (body f105))))))))))))) (aI 1 ax.u1 Q) [(0,.slice a b c),(1,.int .i64 d),(2,.int .i64 e),(3,.int .i64 f),(4,.func (.func 47) #[.pointer g] #[]),(10,.bool i),(11,.bool j),(12,.int .i64 k),(13,.int .i64 m)] w)) (Holds none [] prog 148 (sR (sR (sR (sR (sR (sR (sR (bB (lB (bB (sR (sR (body f105))))))))))))) (aI 1 ax.u1 Q) [(0,.slice a b c),(1,.int .i64 d),(2,.int .i64 e),(3,.int .i64 f),(4,.func (.func 47) #[.pointer g] #[]),(10,.bool i),(11,.bool j),(12,.int .i64 k),(13,.int .i64 m)] w)) (Holds none [] prog 148 (sR (sR (sR (sR (sR (sR (sR (bB (lB (bB (sR (sR (body f105))))))))))))) (aI 1 ax.u1 Q) [(0,.slice a b c),(1,.int .i64 d),(2,.int .i64 e),(3,.int .i64 f),(4,.func (.func 47) #[.pointer g] #[]),(10,.bool i),(11,.bool j),(12,.int .i64 k),(13,.int .i64 m)] w)
theorem ax.j4:(aO none [] prog 148 ax.k (sR (sR (sR (sR (sR (sR (bB (lB (bB (sR (sR (body f105)))))))))))) ax.u1 (aI 1 ax.u1 Q) [(0,.slice a b c),(1,.int .i64 d),(2,.int .i64 e),(3,.int .i64 f),(4,.func (.func 47) #[.pointer g] #[]),(10,.bool i),(11,.bool j),(12,.int .i64 k),(13,.int .i64 m),(14,.int .i64 n)] w)=ax.J4 a b c d e f g i j k m n Q w:=by kernel_rfl
variable{a b c d e f g i j k m n Q w}
theorem ax.yO(h:ax.J4 a b c d e f g i j k m n Q w):Holds none [] prog 148 (sR (sR (sR (sR (sR (sR (bB (lB (bB (sR (sR (body f105)))))))))))) (aI 1 ax.u1 Q) [(0,.slice a b c),(1,.int .i64 d),(2,.int .i64 e),(3,.int .i64 f),(4,.func (.func 47) #[.pointer g] #[]),(10,.bool i),(11,.bool j),(12,.int .i64 k),(13,.int .i64 m),(14,.int .i64 n)] w:=
 cg (C:=ax.k) ng mix (ax.j4 a b c d e f g i j k m n Q w) h
end
section
def ax.J5(a:OA)(b c:Nat)(d e f:Int)(g:OA)(i j:Bool)(k m n:Int)(Q:aM)(w:World):Prop:=
 Holds none [] prog 148 (sR (sR (sR (sR (sR (sR (bB (lB (bB (sR (sR (body f105)))))))))))) (aI 1 ax.u1 Q) [(0,.slice a b c),(1,.int .i64 d),(2,.int .i64 e),(3,.int .i64 f),(4,.func (.func 47) #[.pointer g] #[]),(10,.bool i),(11,.bool j),(12,.int .i64 k),(13,.int .i64 m),(14,.int .i64 1)] w
variable(a:OA)(b c:Nat)(d e f:Int)(g:OA)(i j:Bool)(k m n:Int)(Q:aM)(w:World)
theorem ax.j5:(aO none [] prog 148 ax.k (sR (sR (cT (sR (sL (sR (sR (sR (sR (sR (bB (lB (bB (sR (sR (body f105)))))))))))))))) (bM (sR (sR (sR (sR (sR (sR (bB (lB (bB (sR (sR (body f105))))))))))))++ax.u1) (bD (fun bE w_=>match cutAt ax.k (sR (sR (sR (sR (sR (sR (bB (lB (bB (sR (sR (body f105))))))))))))with|true=>Holds none [] prog 148 (sR (sR (sR (sR (sR (sR (bB (lB (bB (sR (sR (body f105)))))))))))) (aI 1 ax.u1 Q) bE w_|false=>aO none [] prog 148 ax.k (sR (sR (sR (sR (sR (sR (bB (lB (bB (sR (sR (body f105)))))))))))) ax.u1 (aI 1 ax.u1 Q) bE w_) (aI 1 ax.u1 Q)) [(0,.slice a b c),(1,.int .i64 d),(2,.int .i64 e),(3,.int .i64 f),(4,.func (.func 47) #[.pointer g] #[]),(10,.bool i),(11,.bool j),(12,.int .i64 k),(13,.int .i64 m),(14,.int .i64 n)] w)=ax.J5 a b c d e f g i j k m n Q w:=by kernel_rfl
variable{a b c d e f g i j k m n Q w}
theorem ax.GO(h:ax.J5 a b c d e f g i j k m n Q w):Holds none [] prog 148 (sR (sR (cT (sR (sL (sR (sR (sR (sR (sR (bB (lB (bB (sR (sR (body f105)))))))))))))))) (bD (fun bE w_=>match cutAt ax.k (sR (sR (sR (sR (sR (sR (bB (lB (bB (sR (sR (body f105))))))))))))with|true=>Holds none [] prog 148 (sR (sR (sR (sR (sR (sR (bB (lB (bB (sR (sR (body f105)))))))))))) (aI 1 ax.u1 Q) bE w_|false=>aO none [] prog 148 ax.k (sR (sR (sR (sR (sR (sR (bB (lB (bB (sR (sR (body f105)))))))))))) ax.u1 (aI 1 ax.u1 Q) bE w_) (aI 1 ax.u1 Q)) [(0,.slice a b c),(1,.int .i64 d),(2,.int .i64 e),(3,.int .i64 f),(4,.func (.func 47) #[.pointer g] #[]),(10,.bool i),(11,.bool j),(12,.int .i64 k),(13,.int .i64 m),(14,.int .i64 n)] w:=
 cg (C:=ax.k) ng mix (ax.j5 a b c d e f g i j k m n Q w) h
end
section
variable(a:OA)(b c:Nat)(d e f:Int)(g:OA)(i j:Bool)(k m:Int)(Q:aM)(w:World)
def ax.J6:Prop:=
 let n:=w.drew;Split (decide (d>(0:Int))) ((0<=(i64.wrap (d-(1:Int)))/\(i64.wrap (d-(1:Int)))<(b:Int))/\Is a fun o:Addr=>∃p:AV,(p.size=32/\Cells n (o.add ((i64.wrap (d-(1:Int))).toNat*32)) p)/\(0<=m/\m<(b:Int))/\Is a fun q:Addr=>∃r:AV,(r.size=32/\Cells n (q.add (m.toNat*32)) r)/\bj prog 47 #[.pointer g,.agg p,.agg r] n fun t u=>∃v:Int,t=.int .i64 v/\Split (!(decide (v<(0:Int)))) (bj prog 128 #[.slice a b c,.int .i64 d,.int .i64 e,.int .i64 m,.func (.func 47) #[.pointer g] #[]] u fun x y=>∃z:Int,x=.int .i64 z/\Q .normal [(0,.slice a b c),(1,.int .i64 z),(2,.int .i64 e),(3,.int .i64 f),(4,.func (.func 47) #[.pointer g] #[]),(10,.bool i),(11,.bool j)] y) (Holds none [] prog 148 (sR (sR (sR (sR (sR (sR (sR (sR (bB (lB (bB (sR (sR (body f105)))))))))))))) (aI 1 ax.u1 Q) [(0,.slice a b c),(1,.int .i64 d),(2,.int .i64 e),(3,.int .i64 f),(4,.func (.func 47) #[.pointer g] #[]),(10,.bool i),(11,.bool j),(12,.int .i64 k),(13,.int .i64 m)] u)) (Holds none [] prog 148 (sR (sR (sR (sR (sR (sR (sR (sR (bB (lB (bB (sR (sR (body f105)))))))))))))) (aI 1 ax.u1 Q) [(0,.slice a b c),(1,.int .i64 d),(2,.int .i64 e),(3,.int .i64 f),(4,.func (.func 47) #[.pointer g] #[]),(10,.bool i),(11,.bool j),(12,.int .i64 k),(13,.int .i64 m)] n)
theorem ax.j6:(aO none [] prog 148 ax.k (sR (sR (sR (sR (sR (sR (sR (bB (lB (bB (sR (sR (body f105))))))))))))) ax.u1 (aI 1 ax.u1 Q) [(0,.slice a b c),(1,.int .i64 d),(2,.int .i64 e),(3,.int .i64 f),(4,.func (.func 47) #[.pointer g] #[]),(10,.bool i),(11,.bool j),(12,.int .i64 k),(13,.int .i64 m)] w)=ax.J6 a b c d e f g i j k m Q w:=by kernel_rfl
variable{a b c d e f g i j k m Q w}
theorem ax.Lk(h:ax.J6 a b c d e f g i j k m Q w):Holds none [] prog 148 (sR (sR (sR (sR (sR (sR (sR (bB (lB (bB (sR (sR (body f105))))))))))))) (aI 1 ax.u1 Q) [(0,.slice a b c),(1,.int .i64 d),(2,.int .i64 e),(3,.int .i64 f),(4,.func (.func 47) #[.pointer g] #[]),(10,.bool i),(11,.bool j),(12,.int .i64 k),(13,.int .i64 m)] w:=
 cg (C:=ax.k) ng mix (ax.j6 a b c d e f g i j k m Q w) h
end
section
variable(a:OA)(b c:Nat)(d e f:Int)(g:OA)(i j:Bool)(k m:Int)(Q:aM)(w:World)
def ax.J7:Prop:=
 bj prog 129 #[.slice a b c,.int .i64 d,.int .i64 e,.int .i64 m,.func (.func 47) #[.pointer g] #[]] w fun n o=>∃p:Int,∃q:Bool,n=.tuple #[.int .i64 p,.bool q]/\Holds none [] prog 148 (sR (sR (sR (sR (sR (sR (sR (sR (sR (bB (lB (bB (sR (sR (body f105))))))))))))))) (aI 1 ax.u1 Q) [(0,.slice a b c),(1,.int .i64 d),(2,.int .i64 e),(3,.int .i64 f),(4,.func (.func 47) #[.pointer g] #[]),(10,.bool i),(11,.bool j),(12,.int .i64 k),(16,.int .i64 p),(17,.bool q)] o
theorem ax.j7:(aO none [] prog 148 ax.k (sR (sR (sR (sR (sR (sR (sR (sR (bB (lB (bB (sR (sR (body f105)))))))))))))) ax.u1 (aI 1 ax.u1 Q) [(0,.slice a b c),(1,.int .i64 d),(2,.int .i64 e),(3,.int .i64 f),(4,.func (.func 47) #[.pointer g] #[]),(10,.bool i),(11,.bool j),(12,.int .i64 k),(13,.int .i64 m)] w)=ax.J7 a b c d e f g i j k m Q w:=by kernel_rfl
variable{a b c d e f g i j k m Q w}
theorem ax.Lj(h:ax.J7 a b c d e f g i j k m Q w):Holds none [] prog 148 (sR (sR (sR (sR (sR (sR (sR (sR (bB (lB (bB (sR (sR (body f105)))))))))))))) (aI 1 ax.u1 Q) [(0,.slice a b c),(1,.int .i64 d),(2,.int .i64 e),(3,.int .i64 f),(4,.func (.func 47) #[.pointer g] #[]),(10,.bool i),(11,.bool j),(12,.int .i64 k),(13,.int .i64 m)] w:=
 cg (C:=ax.k) ng mix (ax.j7 a b c d e f g i j k m Q w) h
end
section
def ax.J8(a:OA)(b c:Nat)(d e f:Int)(g:OA)(i j:Bool)(k m:Int)(n:Bool)(Q:aM)(w:World):Prop:=
 Holds none [] prog 148 (sR (sR (sR (sR (sR (sR (sR (sR (sR (sR (bB (lB (bB (sR (sR (body f105)))))))))))))))) (aI 1 ax.u1 Q) [(0,.slice a b c),(1,.int .i64 d),(2,.int .i64 e),(3,.int .i64 f),(4,.func (.func 47) #[.pointer g] #[]),(10,.bool i),(11,.bool n),(12,.int .i64 k),(16,.int .i64 m)] w
variable(a:OA)(b c:Nat)(d e f:Int)(g:OA)(i j:Bool)(k m:Int)(n:Bool)(Q:aM)(w:World)
theorem ax.j8:(aO none [] prog 148 ax.k (sR (sR (sR (sR (sR (sR (sR (sR (sR (bB (lB (bB (sR (sR (body f105))))))))))))))) ax.u1 (aI 1 ax.u1 Q) [(0,.slice a b c),(1,.int .i64 d),(2,.int .i64 e),(3,.int .i64 f),(4,.func (.func 47) #[.pointer g] #[]),(10,.bool i),(11,.bool j),(12,.int .i64 k),(16,.int .i64 m),(17,.bool n)] w)=ax.J8 a b c d e f g i j k m n Q w:=by kernel_rfl
variable{a b c d e f g i j k m n Q w}
theorem ax.R7(h:ax.J8 a b c d e f g i j k m n Q w):Holds none [] prog 148 (sR (sR (sR (sR (sR (sR (sR (sR (sR (bB (lB (bB (sR (sR (body f105))))))))))))))) (aI 1 ax.u1 Q) [(0,.slice a b c),(1,.int .i64 d),(2,.int .i64 e),(3,.int .i64 f),(4,.func (.func 47) #[.pointer g] #[]),(10,.bool i),(11,.bool j),(12,.int .i64 k),(16,.int .i64 m),(17,.bool n)] w:=
 cg (C:=ax.k) ng mix (ax.j8 a b c d e f g i j k m n Q w) h
end
section
variable(a:OA)(b c:Nat)(d e f:Int)(g:OA)(i j:Bool)(k m:Int)(Q:aM)(w:World)
def ax.J9:Prop:=
 Holds none [] prog 148 (sR (sR (sR (sR (sR (sR (sR (sR (sR (sR (sR (bB (lB (bB (sR (sR (body f105))))))))))))))))) (aI 1 ax.u1 Q) [(0,.slice a b c),(1,.int .i64 d),(2,.int .i64 e),(3,.int .i64 f),(4,.func (.func 47) #[.pointer g] #[]),(10,.bool i),(11,.bool j),(12,.int .i64 k),(16,.int .i64 m),(18,.int .i64 (i64.wrap (m-d))),(19,.int .i64 (i64.wrap (e-m)))] w
theorem ax.j9:(aO none [] prog 148 ax.k (sR (sR (sR (sR (sR (sR (sR (sR (sR (sR (bB (lB (bB (sR (sR (body f105)))))))))))))))) ax.u1 (aI 1 ax.u1 Q) [(0,.slice a b c),(1,.int .i64 d),(2,.int .i64 e),(3,.int .i64 f),(4,.func (.func 47) #[.pointer g] #[]),(10,.bool i),(11,.bool j),(12,.int .i64 k),(16,.int .i64 m)] w)=ax.J9 a b c d e f g i j k m Q w:=by kernel_rfl
variable{a b c d e f g i j k m Q w}
theorem ax.R5(h:ax.J9 a b c d e f g i j k m Q w):Holds none [] prog 148 (sR (sR (sR (sR (sR (sR (sR (sR (sR (sR (bB (lB (bB (sR (sR (body f105)))))))))))))))) (aI 1 ax.u1 Q) [(0,.slice a b c),(1,.int .i64 d),(2,.int .i64 e),(3,.int .i64 f),(4,.func (.func 47) #[.pointer g] #[]),(10,.bool i),(11,.bool j),(12,.int .i64 k),(16,.int .i64 m)] w:=
 cg (C:=ax.k) ng mix (ax.j9 a b c d e f g i j k m Q w) h
end
section
variable(a:OA)(b c:Nat)(d e f:Int)(g:OA)(i j:Bool)(k m n o:Int)(Q:aM)(w:World)
def ax.J10:Prop:=
 (8:Int)≠0/\Holds none [] prog 148 (sR (sR (sR (sR (sR (sR (sR (sR (sR (sR (sR (sR (bB (lB (bB (sR (sR (body f105)))))))))))))))))) (aI 1 ax.u1 Q) [(0,.slice a b c),(1,.int .i64 d),(2,.int .i64 e),(3,.int .i64 f),(4,.func (.func 47) #[.pointer g] #[]),(10,.bool i),(11,.bool j),(16,.int .i64 m),(18,.int .i64 n),(19,.int .i64 o),(20,.int .i64 (i64.wrap (k.tdiv (8:Int))))] w
theorem ax.j10:(aO none [] prog 148 ax.k (sR (sR (sR (sR (sR (sR (sR (sR (sR (sR (sR (bB (lB (bB (sR (sR (body f105))))))))))))))))) ax.u1 (aI 1 ax.u1 Q) [(0,.slice a b c),(1,.int .i64 d),(2,.int .i64 e),(3,.int .i64 f),(4,.func (.func 47) #[.pointer g] #[]),(10,.bool i),(11,.bool j),(12,.int .i64 k),(16,.int .i64 m),(18,.int .i64 n),(19,.int .i64 o)] w)=ax.J10 a b c d e f g i j k m n o Q w:=by kernel_rfl
variable{a b c d e f g i j k m n o Q w}
theorem ax.Nx(h:ax.J10 a b c d e f g i j k m n o Q w):Holds none [] prog 148 (sR (sR (sR (sR (sR (sR (sR (sR (sR (sR (sR (bB (lB (bB (sR (sR (body f105))))))))))))))))) (aI 1 ax.u1 Q) [(0,.slice a b c),(1,.int .i64 d),(2,.int .i64 e),(3,.int .i64 f),(4,.func (.func 47) #[.pointer g] #[]),(10,.bool i),(11,.bool j),(12,.int .i64 k),(16,.int .i64 m),(18,.int .i64 n),(19,.int .i64 o)] w:=
 cg (C:=ax.k) ng mix (ax.j10 a b c d e f g i j k m n o Q w) h
end
section
def ax.J11(a:OA)(b c:Nat)(d e f:Int)(g:OA)(i j:Bool)(k m n o:Int)(Q:aM)(w:World):Prop:=
 Split (decide (m<n)) (Holds none [] prog 148 (sR (cT (sR (sR (sR (sR (sR (sR (sR (sR (sR (sR (sR (sR (sR (bB (lB (bB (sR (sR (body f105))))))))))))))))))))) (aI 1 ax.u1 Q) [(0,.slice a b c),(1,.int .i64 d),(2,.int .i64 e),(3,.int .i64 f),(4,.func (.func 47) #[.pointer g] #[]),(10,.bool (decide (m>=o))),(11,.bool j),(16,.int .i64 k)] w) (Holds none [] prog 148 (sR (cE (sR (sR (sR (sR (sR (sR (sR (sR (sR (sR (sR (sR (sR (bB (lB (bB (sR (sR (body f105))))))))))))))))))))) (aI 1 ax.u1 Q) [(0,.slice a b c),(1,.int .i64 d),(2,.int .i64 e),(3,.int .i64 f),(4,.func (.func 47) #[.pointer g] #[]),(10,.bool (decide (n>=o))),(11,.bool j),(16,.int .i64 k)] w)
variable(a:OA)(b c:Nat)(d e f:Int)(g:OA)(i j:Bool)(k m n o:Int)(Q:aM)(w:World)
theorem ax.j11:(aO none [] prog 148 ax.k (sR (sR (sR (sR (sR (sR (sR (sR (sR (sR (sR (sR (bB (lB (bB (sR (sR (body f105)))))))))))))))))) ax.u1 (aI 1 ax.u1 Q) [(0,.slice a b c),(1,.int .i64 d),(2,.int .i64 e),(3,.int .i64 f),(4,.func (.func 47) #[.pointer g] #[]),(10,.bool i),(11,.bool j),(16,.int .i64 k),(18,.int .i64 m),(19,.int .i64 n),(20,.int .i64 o)] w)=ax.J11 a b c d e f g i j k m n o Q w:=by kernel_rfl
variable{a b c d e f g i j k m n o Q w}
theorem ax.Nw(h:ax.J11 a b c d e f g i j k m n o Q w):Holds none [] prog 148 (sR (sR (sR (sR (sR (sR (sR (sR (sR (sR (sR (sR (bB (lB (bB (sR (sR (body f105)))))))))))))))))) (aI 1 ax.u1 Q) [(0,.slice a b c),(1,.int .i64 d),(2,.int .i64 e),(3,.int .i64 f),(4,.func (.func 47) #[.pointer g] #[]),(10,.bool i),(11,.bool j),(16,.int .i64 k),(18,.int .i64 m),(19,.int .i64 n),(20,.int .i64 o)] w:=
 cg (C:=ax.k) ng mix (ax.j11 a b c d e f g i j k m n o Q w) h
end
section
variable(a:OA)(b c:Nat)(d e f:Int)(g:OA)(i j:Bool)(k:Int)(Q:aM)(w:World)
def ax.J12:Prop:=
 bj prog 105 #[.slice a b c,.int .i64 d,.int .i64 k,.int .i64 f,.func (.func 47) #[.pointer g] #[]] w fun m n=>m=.tuple #[]/\Holds none [] prog 148 (sR (sR (cT (sR (sR (sR (sR (sR (sR (sR (sR (sR (sR (sR (sR (sR (bB (lB (bB (sR (sR (body f105)))))))))))))))))))))) (aI 1 ax.u1 Q) [(0,.slice a b c),(1,.int .i64 d),(2,.int .i64 e),(3,.int .i64 f),(4,.func (.func 47) #[.pointer g] #[]),(10,.bool i),(11,.bool j),(16,.int .i64 k)] n
theorem ax.j12:(aO none [] prog 148 ax.k (sR (cT (sR (sR (sR (sR (sR (sR (sR (sR (sR (sR (sR (sR (sR (bB (lB (bB (sR (sR (body f105))))))))))))))))))))) ax.u1 (aI 1 ax.u1 Q) [(0,.slice a b c),(1,.int .i64 d),(2,.int .i64 e),(3,.int .i64 f),(4,.func (.func 47) #[.pointer g] #[]),(10,.bool i),(11,.bool j),(16,.int .i64 k)] w)=ax.J12 a b c d e f g i j k Q w:=by kernel_rfl
variable{a b c d e f g i j k Q w}
theorem ax.Nv(h:ax.J12 a b c d e f g i j k Q w):Holds none [] prog 148 (sR (cT (sR (sR (sR (sR (sR (sR (sR (sR (sR (sR (sR (sR (sR (bB (lB (bB (sR (sR (body f105))))))))))))))))))))) (aI 1 ax.u1 Q) [(0,.slice a b c),(1,.int .i64 d),(2,.int .i64 e),(3,.int .i64 f),(4,.func (.func 47) #[.pointer g] #[]),(10,.bool i),(11,.bool j),(16,.int .i64 k)] w:=
 cg (C:=ax.k) ng mix (ax.j12 a b c d e f g i j k Q w) h
end
section
variable(a:OA)(b c:Nat)(d e f:Int)(g:OA)(i j:Bool)(k:Int)(Q:aM)(w:World)
def ax.J13:Prop:=
 bj prog 105 #[.slice a b c,.int .i64 (i64.wrap (k+(1:Int))),.int .i64 e,.int .i64 f,.func (.func 47) #[.pointer g] #[]] w fun m n=>m=.tuple #[]/\Holds none [] prog 148 (sR (sR (cE (sR (sR (sR (sR (sR (sR (sR (sR (sR (sR (sR (sR (sR (bB (lB (bB (sR (sR (body f105)))))))))))))))))))))) (aI 1 ax.u1 Q) [(0,.slice a b c),(1,.int .i64 d),(2,.int .i64 e),(3,.int .i64 f),(4,.func (.func 47) #[.pointer g] #[]),(10,.bool i),(11,.bool j),(16,.int .i64 k)] n
theorem ax.j13:(aO none [] prog 148 ax.k (sR (cE (sR (sR (sR (sR (sR (sR (sR (sR (sR (sR (sR (sR (sR (bB (lB (bB (sR (sR (body f105))))))))))))))))))))) ax.u1 (aI 1 ax.u1 Q) [(0,.slice a b c),(1,.int .i64 d),(2,.int .i64 e),(3,.int .i64 f),(4,.func (.func 47) #[.pointer g] #[]),(10,.bool i),(11,.bool j),(16,.int .i64 k)] w)=ax.J13 a b c d e f g i j k Q w:=by kernel_rfl
variable{a b c d e f g i j k Q w}
theorem ax.Nu(h:ax.J13 a b c d e f g i j k Q w):Holds none [] prog 148 (sR (cE (sR (sR (sR (sR (sR (sR (sR (sR (sR (sR (sR (sR (sR (bB (lB (bB (sR (sR (body f105))))))))))))))))))))) (aI 1 ax.u1 Q) [(0,.slice a b c),(1,.int .i64 d),(2,.int .i64 e),(3,.int .i64 f),(4,.func (.func 47) #[.pointer g] #[]),(10,.bool i),(11,.bool j),(16,.int .i64 k)] w:=
 cg (C:=ax.k) ng mix (ax.j13 a b c d e f g i j k Q w) h
end
section
def ax.J14(a:OA)(b c:Nat)(d e f:Int)(g:OA)(i j:Bool)(k:Int)(Q:aM)(w:World):Prop:=
 Q .normal [(0,.slice a b c),(1,.int .i64 (i64.wrap (k+(1:Int)))),(2,.int .i64 e),(3,.int .i64 f),(4,.func (.func 47) #[.pointer g] #[]),(10,.bool i),(11,.bool j)] w
variable(a:OA)(b c:Nat)(d e f:Int)(g:OA)(i j:Bool)(k:Int)(Q:aM)(w:World)
theorem ax.j14:(aO none [] prog 148 ax.k (sR (sR (cT (sR (sR (sR (sR (sR (sR (sR (sR (sR (sR (sR (sR (sR (bB (lB (bB (sR (sR (body f105)))))))))))))))))))))) ax.u1 (aI 1 ax.u1 Q) [(0,.slice a b c),(1,.int .i64 d),(2,.int .i64 e),(3,.int .i64 f),(4,.func (.func 47) #[.pointer g] #[]),(10,.bool i),(11,.bool j),(16,.int .i64 k)] w)=ax.J14 a b c d e f g i j k Q w:=by kernel_rfl
variable{a b c d e f g i j k Q w}
theorem ax.Nt(h:ax.J14 a b c d e f g i j k Q w):Holds none [] prog 148 (sR (sR (cT (sR (sR (sR (sR (sR (sR (sR (sR (sR (sR (sR (sR (sR (bB (lB (bB (sR (sR (body f105)))))))))))))))))))))) (aI 1 ax.u1 Q) [(0,.slice a b c),(1,.int .i64 d),(2,.int .i64 e),(3,.int .i64 f),(4,.func (.func 47) #[.pointer g] #[]),(10,.bool i),(11,.bool j),(16,.int .i64 k)] w:=
 cg (C:=ax.k) ng mix (ax.j14 a b c d e f g i j k Q w) h
end
section
def ax.J15(a:OA)(b c:Nat)(d e f:Int)(g:OA)(i j:Bool)(k:Int)(Q:aM)(w:World):Prop:=
 Q .normal [(0,.slice a b c),(1,.int .i64 d),(2,.int .i64 k),(3,.int .i64 f),(4,.func (.func 47) #[.pointer g] #[]),(10,.bool i),(11,.bool j)] w
variable(a:OA)(b c:Nat)(d e f:Int)(g:OA)(i j:Bool)(k:Int)(Q:aM)(w:World)
theorem ax.j15:(aO none [] prog 148 ax.k (sR (sR (cE (sR (sR (sR (sR (sR (sR (sR (sR (sR (sR (sR (sR (sR (bB (lB (bB (sR (sR (body f105)))))))))))))))))))))) ax.u1 (aI 1 ax.u1 Q) [(0,.slice a b c),(1,.int .i64 d),(2,.int .i64 e),(3,.int .i64 f),(4,.func (.func 47) #[.pointer g] #[]),(10,.bool i),(11,.bool j),(16,.int .i64 k)] w)=ax.J15 a b c d e f g i j k Q w:=by kernel_rfl
variable{a b c d e f g i j k Q w}
theorem ax.Ns(h:ax.J15 a b c d e f g i j k Q w):Holds none [] prog 148 (sR (sR (cE (sR (sR (sR (sR (sR (sR (sR (sR (sR (sR (sR (sR (sR (bB (lB (bB (sR (sR (body f105)))))))))))))))))))))) (aI 1 ax.u1 Q) [(0,.slice a b c),(1,.int .i64 d),(2,.int .i64 e),(3,.int .i64 f),(4,.func (.func 47) #[.pointer g] #[]),(10,.bool i),(11,.bool j),(16,.int .i64 k)] w:=
 cg (C:=ax.k) ng mix (ax.j15 a b c d e f g i j k Q w) h
end
def b6.k:List Nat:= []
def b6.q1(K:KT):aM:=(aI 0 (aT f122) (bO prog f122 K))
def b6.e1(a:OA)(b c:Nat)(d e:Int)(f:OA)(s:Int):Env:= [(0,.slice a b c),(1,.int .i64 d),(2,.int .i64 e),(3,.func (.func 47) #[.pointer f] #[]),(8,.int .i64 s)]
def b6.u1:List Nat:= [0,1,2,3,8]
def b6.q2(Q:aM):aM:=(aI 2 (bM (sR (sR (lB (bB (sR (body f122))))))++b6.u1) (aI 1 (bM (sR (sR (lB (bB (sR (body f122))))))++b6.u1) (bD (fun bE w_=>match cutAt b6.k (sR (sR (lB (bB (sR (body f122))))))with|true=>Holds none [] prog 53 (sR (sR (lB (bB (sR (body f122)))))) Q bE w_|false=>aO none [] prog 53 b6.k (sR (sR (lB (bB (sR (body f122)))))) b6.u1 Q bE w_) Q)))
def b6.e2(a:OA)(b c:Nat)(d e:Int)(f:OA)(g s:Int):Env:= [(0,.slice a b c),(1,.int .i64 d),(2,.int .i64 e),(3,.func (.func 47) #[.pointer f] #[]),(8,.int .i64 g),(9,.int .i64 s)]
def b6.u2:List Nat:= [0,1,2,3,8,9]
section
variable(a:OA)(b d:Nat)(e f:Int)(g:OA)(K:KT)(w:World)
def b6.W:Prop:=
 Holds none [] prog 53 (.loop (lB (bB (sR (body f122))))) (b6.q1 K) [(0,.slice a b d),(1,.int .i64 e),(2,.int .i64 f),(3,.func (.func 47) #[.pointer g] #[]),(8,.int .i64 (i64.wrap (e+(1:Int))))] w
variable{a b d e f g K w}
theorem b6.of(h:b6.W a b d e f g K w):bj prog 122 #[.slice a b d,.int .i64 e,.int .i64 f,.func (.func 47) #[.pointer g] #[]] w K:=
 rqq func122 (C:=b6.k) h
end
section
variable(a:OA)(b c:Nat)(d e:Int)(f:OA)(g:Int)(Q:aM)(w:World)
def b6.B1:Prop:=
 Split (decide (g<e)) (Holds none [] prog 53 (.loop (lB (bB (sR (bB (sL (sR (lB (bB (sR (body f122))))))))))) (b6.q2 Q) [(0,.slice a b c),(1,.int .i64 d),(2,.int .i64 e),(3,.func (.func 47) #[.pointer f] #[]),(8,.int .i64 g),(9,.int .i64 g)] w) (Q (.exit 0) [(0,.slice a b c),(1,.int .i64 d),(2,.int .i64 e),(3,.func (.func 47) #[.pointer f] #[]),(8,.int .i64 g)] w)
theorem b6.b1:(aO none [] prog 53 b6.k (lB (bB (sR (body f122)))) b6.u1 Q [(0,.slice a b c),(1,.int .i64 d),(2,.int .i64 e),(3,.func (.func 47) #[.pointer f] #[]),(8,.int .i64 g)] w)=b6.B1 a b c d e f g Q w:=by kernel_rfl
variable{a b c d e f}
theorem b6.b7(I:Int->World->Prop)(μ:Int->World->Nat)(s:Int){Q:aM}{w:World}(h0:I s w)
 (round:∀s w,I s w->b6.B1 a b c d e f s (bI (b6.e1 a b c d e f) I μ s w Q) w):Holds none [] prog 53 (.loop (lB (bB (sR (body f122))))) Q (b6.e1 a b c d e f s) w:=
 ba ng mix (b6.e1 a b c d e f) I μ b6.k b6.u1 s (fun s Q w=>b6.B1 a b c d e f s Q w) (fun s Q w=>b6.b1 a b c d e f s Q w) h0 round
end
section
def b6.cK(a:OA)(b c:Nat)(d e:Int)(f:OA)(g:Int)(K:KT)(w:World):Prop:=
 K (.tuple #[]) w
variable(a:OA)(b c:Nat)(d e:Int)(f:OA)(g:Int)(K:KT)(w:World)
theorem b6.c8:(b6.q1 K (.exit 0) [(0,.slice a b c),(1,.int .i64 d),(2,.int .i64 e),(3,.func (.func 47) #[.pointer f] #[]),(8,.int .i64 g)] w)=b6.cK a b c d e f g K w:=by kernel_rfl
end
section
variable(a:OA)(b c:Nat)(d e:Int)(f:OA)(g i:Int)(Q:aM)(w:World)
def b6.B2:Prop:=
 let j:=w.drew;Split (decide (i>d)) ((0<=i/\i<(b:Int))/\Is a fun k:Addr=>∃m:AV,(m.size=32/\Cells j (k.add (i.toNat*32)) m)/\(0<=(i64.wrap (i-(1:Int)))/\(i64.wrap (i-(1:Int)))<(b:Int))/\Is a fun n:Addr=>∃o:AV,(o.size=32/\Cells j (n.add ((i64.wrap (i-(1:Int))).toNat*32)) o)/\bj prog 47 #[.pointer f,.agg m,.agg o] j fun p q=>∃r:Int,p=.int .i64 r/\Split (decide (r<(0:Int))) (let t:=q.drew;(0<=(i64.wrap (i-(1:Int)))/\(i64.wrap (i-(1:Int)))<(b:Int))/\Is a fun u:Addr=>∃v:AV,(v.size=32/\Cells t (u.add ((i64.wrap (i-(1:Int))).toNat*32)) v)/\(0<=i/\i<(b:Int))/\Is a fun x:Addr=>∃y:AV,(y.size=32/\Cells t (x.add (i.toNat*32)) y)/\(0<=i/\i<(b:Int))/\Is a fun z:Addr=>(v.size=32/\(∀a1∈v.toList,a1.oneCell'=true)/\∀b1,b1<32->Wr t ((z.add (i.toNat*32)).add b1))/\let c1:=setCells t (z.add (i.toNat*32)) v.toList 0;(0<=(i64.wrap (i-(1:Int)))/\(i64.wrap (i-(1:Int)))<(b:Int))/\Is a fun d1:Addr=>(y.size=32/\(∀e1∈y.toList,e1.oneCell'=true)/\∀f1,f1<32->Wr c1 ((d1.add ((i64.wrap (i-(1:Int))).toNat*32)).add f1))/\let g1:=setCells c1 (d1.add ((i64.wrap (i-(1:Int))).toNat*32)) y.toList 0;Q .normal [(0,.slice a b c),(1,.int .i64 d),(2,.int .i64 e),(3,.func (.func 47) #[.pointer f] #[]),(8,.int .i64 g),(9,.int .i64 (i64.wrap (i-(1:Int))))] g1) (Q (.exit 2) [(0,.slice a b c),(1,.int .i64 d),(2,.int .i64 e),(3,.func (.func 47) #[.pointer f] #[]),(8,.int .i64 g),(9,.int .i64 i)] q)) (Q (.exit 2) [(0,.slice a b c),(1,.int .i64 d),(2,.int .i64 e),(3,.func (.func 47) #[.pointer f] #[]),(8,.int .i64 g),(9,.int .i64 i)] j)
theorem b6.b2:(aO none [] prog 53 b6.k (lB (bB (sR (bB (sL (sR (lB (bB (sR (body f122)))))))))) b6.u2 Q [(0,.slice a b c),(1,.int .i64 d),(2,.int .i64 e),(3,.func (.func 47) #[.pointer f] #[]),(8,.int .i64 g),(9,.int .i64 i)] w)=b6.B2 a b c d e f g i Q w:=by kernel_rfl
variable{a b c d e f g}
theorem b6.gw(I:Int->World->Prop)(μ:Int->World->Nat)(s:Int){Q:aM}{w:World}(h0:I s w)
 (round:∀s w,I s w->b6.B2 a b c d e f g s (bI (b6.e2 a b c d e f g) I μ s w Q) w):Holds none [] prog 53 (.loop (lB (bB (sR (bB (sL (sR (lB (bB (sR (body f122))))))))))) Q (b6.e2 a b c d e f g s) w:=
 ba ng mix (b6.e2 a b c d e f g) I μ b6.k b6.u2 s (fun s Q w=>b6.B2 a b c d e f g s Q w) (fun s Q w=>b6.b2 a b c d e f g s Q w) h0 round
end
section
def b6.gU(a:OA)(b c:Nat)(d e:Int)(f:OA)(g i:Int)(Q:aM)(w:World):Prop:=
 Q .normal [(0,.slice a b c),(1,.int .i64 d),(2,.int .i64 e),(3,.func (.func 47) #[.pointer f] #[]),(8,.int .i64 (i64.wrap (g+(1:Int))))] w
variable(a:OA)(b c:Nat)(d e:Int)(f:OA)(g i:Int)(Q:aM)(w:World)
theorem b6.jA:(b6.q2 Q (.exit 2) [(0,.slice a b c),(1,.int .i64 d),(2,.int .i64 e),(3,.func (.func 47) #[.pointer f] #[]),(8,.int .i64 g),(9,.int .i64 i)] w)=b6.gU a b c d e f g i Q w:=by kernel_rfl
end
def bW.k:List Nat:= []
def bW.q1(K:KT):aM:=(aI 0 (bM (sR (sR (sR (sR (body f123)))))++(aT f123)) (bD (fun bE w_=>match cutAt bW.k (sR (sR (sR (sR (body f123)))))with|true=>Holds none [] prog 60 (sR (sR (sR (sR (body f123))))) (bO prog f123 K) bE w_|false=>aO none [] prog 60 bW.k (sR (sR (sR (sR (body f123))))) (aT f123) (bO prog f123 K) bE w_) (bO prog f123 K)))
def bW.e1(a:OA)(b c:Nat)(d:OA)(e f g s:Int):Env:= [(0,.slice a b c),(3,.func (.func 47) #[.pointer d] #[]),(8,.int .i64 e),(9,.int .i64 f),(10,.int .i64 g),(11,.int .i64 s)]
def bW.u1:List Nat:= [0,3,8,9,10,11]
def bW.q2(K:KT):aM:=(aI 2 (aT f123) (bO prog f123 K))
def bW.e2(a:OA)(b c:Nat)(d:OA)(e f s:Int):Env:= [(0,.slice a b c),(3,.func (.func 47) #[.pointer d] #[]),(8,.int .i64 e),(9,.int .i64 f),(12,.int .i64 s)]
def bW.u2:List Nat:= [0,3,8,9,12]
section
variable(a:OA)(b d:Nat)(e f:Int)(g:OA)(K:KT)(w:World)
def bW.W:Prop:=
 (2:Int)≠0/\Holds none [] prog 60 (.loop (lB (bB (sR (sL (sR (sR (sR (body f123))))))))) (bW.q1 K) [(0,.slice a b d),(3,.func (.func 47) #[.pointer g] #[]),(8,.int .i64 e),(9,.int .i64 0),(10,.int .i64 (i64.wrap (f-e))),(11,.int .i64 (i64.wrap ((i64.wrap ((i64.wrap (f-e))-(1:Int))).tdiv (2:Int))))] w
variable{a b d e f g K w}
theorem bW.of(h:bW.W a b d e f g K w):bj prog 123 #[.slice a b d,.int .i64 e,.int .i64 f,.func (.func 47) #[.pointer g] #[]] w K:=
 rqq func123 (C:=bW.k) h
end
section
variable(a:OA)(b c:Nat)(d:OA)(e f g i:Int)(Q:aM)(w:World)
def bW.B1:Prop:=
 Split (decide (i>=(0:Int))) (bj prog 135 #[.slice a b c,.int .i64 i,.int .i64 g,.int .i64 e,.func (.func 47) #[.pointer d] #[]] w fun j k=>j=.tuple #[]/\Q .normal [(0,.slice a b c),(3,.func (.func 47) #[.pointer d] #[]),(8,.int .i64 e),(9,.int .i64 f),(10,.int .i64 g),(11,.int .i64 (i64.wrap (i-(1:Int))))] k) (Q (.exit 0) [(0,.slice a b c),(3,.func (.func 47) #[.pointer d] #[]),(8,.int .i64 e),(9,.int .i64 f),(10,.int .i64 g),(11,.int .i64 i)] w)
theorem bW.b1:(aO none [] prog 60 bW.k (lB (bB (sR (sL (sR (sR (sR (body f123)))))))) bW.u1 Q [(0,.slice a b c),(3,.func (.func 47) #[.pointer d] #[]),(8,.int .i64 e),(9,.int .i64 f),(10,.int .i64 g),(11,.int .i64 i)] w)=bW.B1 a b c d e f g i Q w:=by kernel_rfl
variable{a b c d e f g}
theorem bW.b7(I:Int->World->Prop)(μ:Int->World->Nat)(s:Int){Q:aM}{w:World}(h0:I s w)
 (round:∀s w,I s w->bW.B1 a b c d e f g s (bI (bW.e1 a b c d e f g) I μ s w Q) w):Holds none [] prog 60 (.loop (lB (bB (sR (sL (sR (sR (sR (body f123))))))))) Q (bW.e1 a b c d e f g s) w:=
 ba ng mix (bW.e1 a b c d e f g) I μ bW.k bW.u1 s (fun s Q w=>bW.B1 a b c d e f g s Q w) (fun s Q w=>bW.b1 a b c d e f g s Q w) h0 round
end
section
def bW.cK(a:OA)(b c:Nat)(d:OA)(e f g i:Int)(K:KT)(w:World):Prop:=
 Holds none [] prog 60 (.loop (lB (bB (sR (sR (sR (sR (sR (body f123))))))))) (bW.q2 K) [(0,.slice a b c),(3,.func (.func 47) #[.pointer d] #[]),(8,.int .i64 e),(9,.int .i64 f),(12,.int .i64 (i64.wrap (g-(1:Int))))] w
variable(a:OA)(b c:Nat)(d:OA)(e f g i:Int)(K:KT)(w:World)
theorem bW.c8:(bW.q1 K (.exit 0) [(0,.slice a b c),(3,.func (.func 47) #[.pointer d] #[]),(8,.int .i64 e),(9,.int .i64 f),(10,.int .i64 g),(11,.int .i64 i)] w)=bW.cK a b c d e f g i K w:=by kernel_rfl
end
section
variable(a:OA)(b c:Nat)(d:OA)(e f g:Int)(Q:aM)(w:World)
def bW.B2:Prop:=
 Split (decide (g>=(0:Int))) (let i:=w.drew;(0<=(i64.wrap (e+g))/\(i64.wrap (e+g))<(b:Int))/\Is a fun j:Addr=>∃k:AV,(k.size=32/\Cells i (j.add ((i64.wrap (e+g)).toNat*32)) k)/\(0<=e/\e<(b:Int))/\Is a fun m:Addr=>∃n:AV,(n.size=32/\Cells i (m.add (e.toNat*32)) n)/\(0<=e/\e<(b:Int))/\Is a fun o:Addr=>(k.size=32/\(∀p∈k.toList,p.oneCell'=true)/\∀q,q<32->Wr i ((o.add (e.toNat*32)).add q))/\let r:=setCells i (o.add (e.toNat*32)) k.toList 0;(0<=(i64.wrap (e+g))/\(i64.wrap (e+g))<(b:Int))/\Is a fun t:Addr=>(n.size=32/\(∀u∈n.toList,u.oneCell'=true)/\∀v,v<32->Wr r ((t.add ((i64.wrap (e+g)).toNat*32)).add v))/\let x:=setCells r (t.add ((i64.wrap (e+g)).toNat*32)) n.toList 0;bj prog 135 #[.slice a b c,.int .i64 f,.int .i64 g,.int .i64 e,.func (.func 47) #[.pointer d] #[]] x fun y z=>y=.tuple #[]/\Q .normal [(0,.slice a b c),(3,.func (.func 47) #[.pointer d] #[]),(8,.int .i64 e),(9,.int .i64 f),(12,.int .i64 (i64.wrap (g-(1:Int))))] z) (Q (.exit 2) [(0,.slice a b c),(3,.func (.func 47) #[.pointer d] #[]),(8,.int .i64 e),(9,.int .i64 f),(12,.int .i64 g)] w)
theorem bW.b2:(aO none [] prog 60 bW.k (lB (bB (sR (sR (sR (sR (sR (body f123)))))))) bW.u2 Q [(0,.slice a b c),(3,.func (.func 47) #[.pointer d] #[]),(8,.int .i64 e),(9,.int .i64 f),(12,.int .i64 g)] w)=bW.B2 a b c d e f g Q w:=by kernel_rfl
variable{a b c d e f}
theorem bW.gw(I:Int->World->Prop)(μ:Int->World->Nat)(s:Int){Q:aM}{w:World}(h0:I s w)
 (round:∀s w,I s w->bW.B2 a b c d e f s (bI (bW.e2 a b c d e f) I μ s w Q) w):Holds none [] prog 60 (.loop (lB (bB (sR (sR (sR (sR (sR (body f123))))))))) Q (bW.e2 a b c d e f s) w:=
 ba ng mix (bW.e2 a b c d e f) I μ bW.k bW.u2 s (fun s Q w=>bW.B2 a b c d e f s Q w) (fun s Q w=>bW.b2 a b c d e f s Q w) h0 round
end
section
def bW.gU(a:OA)(b c:Nat)(d:OA)(e f g:Int)(K:KT)(w:World):Prop:=
 K (.tuple #[]) w
variable(a:OA)(b c:Nat)(d:OA)(e f g:Int)(K:KT)(w:World)
theorem bW.jA:(bW.q2 K (.exit 2) [(0,.slice a b c),(3,.func (.func 47) #[.pointer d] #[]),(8,.int .i64 e),(9,.int .i64 f),(12,.int .i64 g)] w)=bW.gU a b c d e f g K w:=by kernel_rfl
end
def dY.k:List Nat:= []
def dY.q1(K:KT):aM:=(aI 0 (aT f124) (bO prog f124 K))
def dY.e1(a:OA)(b c:Nat)(d e:Int)(f:Addr)(g s:Int):Env:= [(0,.slice a b c),(1,.int .i64 d),(8,.int .i64 e),(9,.pointer (some f)),(10,.int .u64 g),(11,.int .i64 s)]
def dY.u1:List Nat:= [0,1,8,9,10,11]
section
def dY.W(a:OA)(b d:Nat)(e f:Int)(g:OA)(K:KT)(w:World):Prop:=
 Split (decide ((i64.wrap (f-e))>=(8:Int))) (let i:=w.alloc (.cells (#[.int .u64 0]:AV) 188);Wr i (⟨w.heap.size,0,none⟩:Addr)/\let j:=i.setCell (⟨w.heap.size,0,none⟩:Addr) (.int .u64 (u64.wrap (i64.wrap (f-e))));bj prog 136 #[.int .i64 (i64.wrap (f-e))] j fun k m=>∃n:Int,k=.int .u64 n/\(4:Int)≠0/\Holds none [] prog 67 (.loop (lB (bB (sR (sR (sR (cT (sR (sR (body f124)))))))))) (dY.q1 K) [(0,.slice a b d),(1,.int .i64 e),(8,.int .i64 (i64.wrap (f-e))),(9,.pointer (some (⟨w.heap.size,0,none⟩:Addr))),(10,.int .u64 n),(11,.int .i64 (i64.wrap ((i64.wrap (e+(i64.wrap ((i64.wrap ((i64.wrap (f-e)).tdiv (4:Int)))*(2:Int)))))-(1:Int))))] m) (K (.tuple #[]) w)
variable(a:OA)(b d:Nat)(e f:Int)(g:OA)(K:KT)(w:World)
variable{a b d e f g K w}
theorem dY.of(h:dY.W a b d e f g K w):bj prog 124 #[.slice a b d,.int .i64 e,.int .i64 f,.func (.func 47) #[.pointer g] #[]] w K:=
 rqq func124 (C:=dY.k) h
end
section
variable(a:OA)(b c:Nat)(d e:Int)(f:Addr)(g i:Int)(Q:aM)(w:World)
def dY.B1:Prop:=
 (4:Int)≠0/\Split (decide (i<=(i64.wrap ((i64.wrap (d+(i64.wrap ((i64.wrap (e.tdiv (4:Int)))*(2:Int)))))+(1:Int))))) (bj prog 137 #[.pointer (some f)] w fun j k=>∃m:Int,j=.int .u64 m/\Split (decide ((i64.wrap (u64.wrap ((BitVec.ofInt 64 m&&& BitVec.ofInt 64 (u64.wrap (g-(1:Int)))).toNat)))>=e)) (let n:=k.drew;(0<=(i64.wrap (d+(i64.wrap ((i64.wrap (u64.wrap ((BitVec.ofInt 64 m&&& BitVec.ofInt 64 (u64.wrap (g-(1:Int)))).toNat)))-e))))/\(i64.wrap (d+(i64.wrap ((i64.wrap (u64.wrap ((BitVec.ofInt 64 m&&& BitVec.ofInt 64 (u64.wrap (g-(1:Int)))).toNat)))-e))))<(b:Int))/\Is a fun o:Addr=>∃p:AV,(p.size=32/\Cells n (o.add ((i64.wrap (d+(i64.wrap ((i64.wrap (u64.wrap ((BitVec.ofInt 64 m&&& BitVec.ofInt 64 (u64.wrap (g-(1:Int)))).toNat)))-e)))).toNat*32)) p)/\(0<=i/\i<(b:Int))/\Is a fun q:Addr=>∃r:AV,(r.size=32/\Cells n (q.add (i.toNat*32)) r)/\(0<=i/\i<(b:Int))/\Is a fun t:Addr=>(p.size=32/\(∀u∈p.toList,u.oneCell'=true)/\∀v,v<32->Wr n ((t.add (i.toNat*32)).add v))/\let x:=setCells n (t.add (i.toNat*32)) p.toList 0;(0<=(i64.wrap (d+(i64.wrap ((i64.wrap (u64.wrap ((BitVec.ofInt 64 m&&& BitVec.ofInt 64 (u64.wrap (g-(1:Int)))).toNat)))-e))))/\(i64.wrap (d+(i64.wrap ((i64.wrap (u64.wrap ((BitVec.ofInt 64 m&&& BitVec.ofInt 64 (u64.wrap (g-(1:Int)))).toNat)))-e))))<(b:Int))/\Is a fun y:Addr=>(r.size=32/\(∀z∈r.toList,z.oneCell'=true)/\∀a1,a1<32->Wr x ((y.add ((i64.wrap (d+(i64.wrap ((i64.wrap (u64.wrap ((BitVec.ofInt 64 m&&& BitVec.ofInt 64 (u64.wrap (g-(1:Int)))).toNat)))-e)))).toNat*32)).add a1))/\let b1:=setCells x (y.add ((i64.wrap (d+(i64.wrap ((i64.wrap (u64.wrap ((BitVec.ofInt 64 m&&& BitVec.ofInt 64 (u64.wrap (g-(1:Int)))).toNat)))-e)))).toNat*32)) r.toList 0;Q .normal [(0,.slice a b c),(1,.int .i64 d),(8,.int .i64 e),(9,.pointer (some f)),(10,.int .u64 g),(11,.int .i64 (i64.wrap (i+(1:Int))))] b1) (let c1:=k.drew;(0<=(i64.wrap (d+(i64.wrap (u64.wrap ((BitVec.ofInt 64 m&&& BitVec.ofInt 64 (u64.wrap (g-(1:Int)))).toNat)))))/\(i64.wrap (d+(i64.wrap (u64.wrap ((BitVec.ofInt 64 m&&& BitVec.ofInt 64 (u64.wrap (g-(1:Int)))).toNat)))))<(b:Int))/\Is a fun d1:Addr=>∃e1:AV,(e1.size=32/\Cells c1 (d1.add ((i64.wrap (d+(i64.wrap (u64.wrap ((BitVec.ofInt 64 m&&& BitVec.ofInt 64 (u64.wrap (g-(1:Int)))).toNat))))).toNat*32)) e1)/\(0<=i/\i<(b:Int))/\Is a fun f1:Addr=>∃g1:AV,(g1.size=32/\Cells c1 (f1.add (i.toNat*32)) g1)/\(0<=i/\i<(b:Int))/\Is a fun i1:Addr=>(e1.size=32/\(∀j1∈e1.toList,j1.oneCell'=true)/\∀k1,k1<32->Wr c1 ((i1.add (i.toNat*32)).add k1))/\let m1:=setCells c1 (i1.add (i.toNat*32)) e1.toList 0;(0<=(i64.wrap (d+(i64.wrap (u64.wrap ((BitVec.ofInt 64 m&&& BitVec.ofInt 64 (u64.wrap (g-(1:Int)))).toNat)))))/\(i64.wrap (d+(i64.wrap (u64.wrap ((BitVec.ofInt 64 m&&& BitVec.ofInt 64 (u64.wrap (g-(1:Int)))).toNat)))))<(b:Int))/\Is a fun n1:Addr=>(g1.size=32/\(∀o1∈g1.toList,o1.oneCell'=true)/\∀p1,p1<32->Wr m1 ((n1.add ((i64.wrap (d+(i64.wrap (u64.wrap ((BitVec.ofInt 64 m&&& BitVec.ofInt 64 (u64.wrap (g-(1:Int)))).toNat))))).toNat*32)).add p1))/\let q1:=setCells m1 (n1.add ((i64.wrap (d+(i64.wrap (u64.wrap ((BitVec.ofInt 64 m&&& BitVec.ofInt 64 (u64.wrap (g-(1:Int)))).toNat))))).toNat*32)) g1.toList 0;Q .normal [(0,.slice a b c),(1,.int .i64 d),(8,.int .i64 e),(9,.pointer (some f)),(10,.int .u64 g),(11,.int .i64 (i64.wrap (i+(1:Int))))] q1)) (Q (.exit 0) [(0,.slice a b c),(1,.int .i64 d),(8,.int .i64 e),(9,.pointer (some f)),(10,.int .u64 g),(11,.int .i64 i)] w)
theorem dY.b1:(aO none [] prog 67 dY.k (lB (bB (sR (sR (sR (cT (sR (sR (body f124))))))))) dY.u1 Q [(0,.slice a b c),(1,.int .i64 d),(8,.int .i64 e),(9,.pointer (some f)),(10,.int .u64 g),(11,.int .i64 i)] w)=dY.B1 a b c d e f g i Q w:=by kernel_rfl
variable{a b c d e f g}
theorem dY.b7(I:Int->World->Prop)(μ:Int->World->Nat)(s:Int){Q:aM}{w:World}(h0:I s w)
 (round:∀s w,I s w->dY.B1 a b c d e f g s (bI (dY.e1 a b c d e f g) I μ s w Q) w):Holds none [] prog 67 (.loop (lB (bB (sR (sR (sR (cT (sR (sR (body f124)))))))))) Q (dY.e1 a b c d e f g s) w:=
 ba ng mix (dY.e1 a b c d e f g) I μ dY.k dY.u1 s (fun s Q w=>dY.B1 a b c d e f g s Q w) (fun s Q w=>dY.b1 a b c d e f g s Q w) h0 round
end
section
def dY.cK(a:OA)(b c:Nat)(d e:Int)(f:Addr)(g i:Int)(K:KT)(w:World):Prop:=
 K (.tuple #[]) w
variable(a:OA)(b c:Nat)(d e:Int)(f:Addr)(g i:Int)(K:KT)(w:World)
theorem dY.c8:(dY.q1 K (.exit 0) [(0,.slice a b c),(1,.int .i64 d),(8,.int .i64 e),(9,.pointer (some f)),(10,.int .u64 g),(11,.int .i64 i)] w)=dY.cK a b c d e f g i K w:=by kernel_rfl
end
def qY.k:List Nat:= []
section
variable(a:OA)(b d:Nat)(e f:Int)(g:OA)(K:KT)(w:World)
def qY.W:Prop:=
 let i:=w.alloc (.cells (#[.int .i64 0]:AV) 3);(4:Int)≠0/\(4:Int)≠0/\(4:Int)≠0/\Split (decide ((i64.wrap (f-e))>=(8:Int))) (Split (decide ((i64.wrap (f-e))>=(50:Int))) (bj prog 138 #[.slice a b d,.int .i64 (i64.wrap (e+(i64.wrap ((i64.wrap ((i64.wrap (f-e)).tdiv (4:Int)))*(1:Int))))),.pointer (some (⟨w.heap.size,0,none⟩:Addr)),.func (.func 47) #[.pointer g] #[]] i fun j k=>∃m:Int,j=.int .i64 m/\bj prog 138 #[.slice a b d,.int .i64 (i64.wrap (e+(i64.wrap ((i64.wrap ((i64.wrap (f-e)).tdiv (4:Int)))*(2:Int))))),.pointer (some (⟨w.heap.size,0,none⟩:Addr)),.func (.func 47) #[.pointer g] #[]] k fun n o=>∃p:Int,n=.int .i64 p/\bj prog 138 #[.slice a b d,.int .i64 (i64.wrap (e+(i64.wrap ((i64.wrap ((i64.wrap (f-e)).tdiv (4:Int)))*(3:Int))))),.pointer (some (⟨w.heap.size,0,none⟩:Addr)),.func (.func 47) #[.pointer g] #[]] o fun q r=>∃t:Int,q=.int .i64 t/\bj prog 139 #[.slice a b d,.int .i64 m,.int .i64 p,.int .i64 t,.pointer (some (⟨w.heap.size,0,none⟩:Addr)),.func (.func 47) #[.pointer g] #[]] r fun u v=>∃x:Int,u=.int .i64 x/\∃y:Int,v.cell? (⟨w.heap.size,0,none⟩:Addr)=some (.int .i64 y)/\Split (y==(0:Int)) (K (.tuple #[.int .i64 x,.int .i64 1]) v) (Split (y==(12:Int)) (K (.tuple #[.int .i64 x,.int .i64 2]) v) (K (.tuple #[.int .i64 x,.int .i64 0]) v))) (bj prog 139 #[.slice a b d,.int .i64 (i64.wrap (e+(i64.wrap ((i64.wrap ((i64.wrap (f-e)).tdiv (4:Int)))*(1:Int))))),.int .i64 (i64.wrap (e+(i64.wrap ((i64.wrap ((i64.wrap (f-e)).tdiv (4:Int)))*(2:Int))))),.int .i64 (i64.wrap (e+(i64.wrap ((i64.wrap ((i64.wrap (f-e)).tdiv (4:Int)))*(3:Int))))),.pointer (some (⟨w.heap.size,0,none⟩:Addr)),.func (.func 47) #[.pointer g] #[]] i fun z a1=>∃b1:Int,z=.int .i64 b1/\∃c1:Int,a1.cell? (⟨w.heap.size,0,none⟩:Addr)=some (.int .i64 c1)/\Split (c1==(0:Int)) (K (.tuple #[.int .i64 b1,.int .i64 1]) a1) (Split (c1==(12:Int)) (K (.tuple #[.int .i64 b1,.int .i64 2]) a1) (K (.tuple #[.int .i64 b1,.int .i64 0]) a1)))) (∃d1:Int,i.cell? (⟨w.heap.size,0,none⟩:Addr)=some (.int .i64 d1)/\Split (d1==(0:Int)) (K (.tuple #[.int .i64 (i64.wrap (e+(i64.wrap ((i64.wrap ((i64.wrap (f-e)).tdiv (4:Int)))*(2:Int))))),.int .i64 1]) i) (Split (d1==(12:Int)) (K (.tuple #[.int .i64 (i64.wrap (e+(i64.wrap ((i64.wrap ((i64.wrap (f-e)).tdiv (4:Int)))*(2:Int))))),.int .i64 2]) i) (K (.tuple #[.int .i64 (i64.wrap (e+(i64.wrap ((i64.wrap ((i64.wrap (f-e)).tdiv (4:Int)))*(2:Int))))),.int .i64 0]) i)))
variable{a b d e f g K w}
theorem qY.of(h:qY.W a b d e f g K w):bj prog 125 #[.slice a b d,.int .i64 e,.int .i64 f,.func (.func 47) #[.pointer g] #[]] w K:=
 rqq func125 (C:=qY.k) h
end
def dX.k:List Nat:= []
def dX.q1(K:KT):aM:=(aI 0 (aT f126) (bO prog f126 K))
def dX.e1(a:OA)(b c:Nat)(s:Int×Int):Env:= [(0,.slice a b c),(8,.int .i64 s.1),(9,.int .i64 s.2)]
def dX.u1:List Nat:= [0,8,9]
section
def dX.W(a:OA)(b d:Nat)(e f:Int)(g:OA)(K:KT)(w:World):Prop:=
 Holds none [] prog 34 (.loop (lB (bB (sR (sR (body f126)))))) (dX.q1 K) [(0,.slice a b d),(8,.int .i64 e),(9,.int .i64 (i64.wrap (f-(1:Int))))] w
variable(a:OA)(b d:Nat)(e f:Int)(g:OA)(K:KT)(w:World)
variable{a b d e f g K w}
theorem dX.of(h:dX.W a b d e f g K w):bj prog 126 #[.slice a b d,.int .i64 e,.int .i64 f,.func (.func 47) #[.pointer g] #[]] w K:=
 rqq func126 (C:=dX.k) h
end
section
variable(a:OA)(b c:Nat)(d e:Int)(Q:aM)(w:World)
def dX.B1:Prop:=
 Split (decide (d<e)) (let f:=w.drew;(0<=e/\e<(b:Int))/\Is a fun g:Addr=>∃i:AV,(i.size=32/\Cells f (g.add (e.toNat*32)) i)/\(0<=d/\d<(b:Int))/\Is a fun j:Addr=>∃k:AV,(k.size=32/\Cells f (j.add (d.toNat*32)) k)/\(0<=d/\d<(b:Int))/\Is a fun m:Addr=>(i.size=32/\(∀n∈i.toList,n.oneCell'=true)/\∀o,o<32->Wr f ((m.add (d.toNat*32)).add o))/\let p:=setCells f (m.add (d.toNat*32)) i.toList 0;(0<=e/\e<(b:Int))/\Is a fun q:Addr=>(k.size=32/\(∀r∈k.toList,r.oneCell'=true)/\∀t,t<32->Wr p ((q.add (e.toNat*32)).add t))/\let u:=setCells p (q.add (e.toNat*32)) k.toList 0;Q .normal [(0,.slice a b c),(8,.int .i64 (i64.wrap (d+(1:Int)))),(9,.int .i64 (i64.wrap (e-(1:Int))))] u) (Q (.exit 0) [(0,.slice a b c),(8,.int .i64 d),(9,.int .i64 e)] w)
theorem dX.b1:(aO none [] prog 34 dX.k (lB (bB (sR (sR (body f126))))) dX.u1 Q [(0,.slice a b c),(8,.int .i64 d),(9,.int .i64 e)] w)=dX.B1 a b c d e Q w:=by kernel_rfl
variable{a b c}
theorem dX.b7(I:Int×Int->World->Prop)(μ:Int×Int->World->Nat)(s:Int×Int){Q:aM}{w:World}(h0:I s w)
 (round:∀s w,I s w->dX.B1 a b c (s.1) (s.2) (bI (dX.e1 a b c) I μ s w Q) w):Holds none [] prog 34 (.loop (lB (bB (sR (sR (body f126)))))) Q (dX.e1 a b c s) w:=
 ba ng mix (dX.e1 a b c) I μ dX.k dX.u1 s (fun s Q w=>dX.B1 a b c (s.1) (s.2) Q w) (fun s Q w=>dX.b1 a b c (s.1) (s.2) Q w) h0 round
end
section
def dX.cK(a:OA)(b c:Nat)(d e:Int)(K:KT)(w:World):Prop:=
 K (.tuple #[]) w
variable(a:OA)(b c:Nat)(d e:Int)(K:KT)(w:World)
theorem dX.c8:(dX.q1 K (.exit 0) [(0,.slice a b c),(8,.int .i64 d),(9,.int .i64 e)] w)=dX.cK a b c d e K w:=by kernel_rfl
end
def bu.k:List Nat:= []
def bu.q1(K:KT):aM:=(aI 0 (bM (sR (sR (sR (body f127))))++(aT f127)) (bD (fun bE w_=>match cutAt bu.k (sR (sR (sR (body f127))))with|true=>Holds none [] prog 141 (sR (sR (sR (body f127)))) (bO prog f127 K) bE w_|false=>aO none [] prog 141 bu.k (sR (sR (sR (body f127)))) (aT f127) (bO prog f127 K) bE w_) (bO prog f127 K)))
def bu.e1(a:OA)(b c:Nat)(d e:Int)(f:OA)(s:Bool×Int×Int):Env:= [(0,.slice a b c),(1,.int .i64 d),(2,.int .i64 e),(3,.func (.func 47) #[.pointer f] #[]),(8,.bool s.1),(9,.int .i64 s.2.1),(10,.int .i64 s.2.2)]
def bu.u1:List Nat:= [0,1,2,3,8,9,10]
def bu.q2(Q:aM):aM:=(aI 2 (bM (sR (bB (sL (sR (lB (bB (sR (sL (sR (sR (body f127)))))))))))++(bM (sR (sR (lB (bB (sR (sL (sR (sR (body f127)))))))))++bu.u1)) (bD (fun bE w_=>match cutAt bu.k (sR (bB (sL (sR (lB (bB (sR (sL (sR (sR (body f127)))))))))))with|true=>Holds none [] prog 141 (sR (bB (sL (sR (lB (bB (sR (sL (sR (sR (body f127))))))))))) (aI 1 (bM (sR (sR (lB (bB (sR (sL (sR (sR (body f127)))))))))++bu.u1) (bD (fun bE w_=>match cutAt bu.k (sR (sR (lB (bB (sR (sL (sR (sR (body f127)))))))))with|true=>Holds none [] prog 141 (sR (sR (lB (bB (sR (sL (sR (sR (body f127))))))))) Q bE w_|false=>aO none [] prog 141 bu.k (sR (sR (lB (bB (sR (sL (sR (sR (body f127))))))))) bu.u1 Q bE w_) Q)) bE w_|false=>aO none [] prog 141 bu.k (sR (bB (sL (sR (lB (bB (sR (sL (sR (sR (body f127))))))))))) (bM (sR (sR (lB (bB (sR (sL (sR (sR (body f127)))))))))++bu.u1) (aI 1 (bM (sR (sR (lB (bB (sR (sL (sR (sR (body f127)))))))))++bu.u1) (bD (fun bE w_=>match cutAt bu.k (sR (sR (lB (bB (sR (sL (sR (sR (body f127)))))))))with|true=>Holds none [] prog 141 (sR (sR (lB (bB (sR (sL (sR (sR (body f127))))))))) Q bE w_|false=>aO none [] prog 141 bu.k (sR (sR (lB (bB (sR (sL (sR (sR (body f127))))))))) bu.u1 Q bE w_) Q)) bE w_) (aI 1 (bM (sR (sR (lB (bB (sR (sL (sR (sR (body f127)))))))))++bu.u1) (bD (fun bE w_=>match cutAt bu.k (sR (sR (lB (bB (sR (sL (sR (sR (body f127)))))))))with|true=>Holds none [] prog 141 (sR (sR (lB (bB (sR (sL (sR (sR (body f127))))))))) Q bE w_|false=>aO none [] prog 141 bu.k (sR (sR (lB (bB (sR (sL (sR (sR (body f127))))))))) bu.u1 Q bE w_) Q))))
def bu.e2(a:OA)(b c:Nat)(d e:Int)(f:OA)(g:Bool)(i s:Int):Env:= [(0,.slice a b c),(1,.int .i64 d),(2,.int .i64 e),(3,.func (.func 47) #[.pointer f] #[]),(8,.bool g),(9,.int .i64 s),(10,.int .i64 i)]
def bu.u2:List Nat:= [0,1,2,3,8,9,10]
def bu.q3(Q:aM):aM:=(aI 4 (bM (sR (sR (sR (sR (sR (bB (sL (sR (lB (bB (sR (sL (sR (sR (body f127)))))))))))))))++(bM (sR (sR (lB (bB (sR (sL (sR (sR (body f127)))))))))++bu.u1)) (bD (fun bE w_=>match cutAt bu.k (sR (sR (sR (sR (sR (bB (sL (sR (lB (bB (sR (sL (sR (sR (body f127)))))))))))))))with|true=>Holds none [] prog 141 (sR (sR (sR (sR (sR (bB (sL (sR (lB (bB (sR (sL (sR (sR (body f127))))))))))))))) (aI 1 (bM (sR (sR (lB (bB (sR (sL (sR (sR (body f127)))))))))++bu.u1) (bD (fun bE w_=>match cutAt bu.k (sR (sR (lB (bB (sR (sL (sR (sR (body f127)))))))))with|true=>Holds none [] prog 141 (sR (sR (lB (bB (sR (sL (sR (sR (body f127))))))))) Q bE w_|false=>aO none [] prog 141 bu.k (sR (sR (lB (bB (sR (sL (sR (sR (body f127))))))))) bu.u1 Q bE w_) Q)) bE w_|false=>aO none [] prog 141 bu.k (sR (sR (sR (sR (sR (bB (sL (sR (lB (bB (sR (sL (sR (sR (body f127))))))))))))))) (bM (sR (sR (lB (bB (sR (sL (sR (sR (body f127)))))))))++bu.u1) (aI 1 (bM (sR (sR (lB (bB (sR (sL (sR (sR (body f127)))))))))++bu.u1) (bD (fun bE w_=>match cutAt bu.k (sR (sR (lB (bB (sR (sL (sR (sR (body f127)))))))))with|true=>Holds none [] prog 141 (sR (sR (lB (bB (sR (sL (sR (sR (body f127))))))))) Q bE w_|false=>aO none [] prog 141 bu.k (sR (sR (lB (bB (sR (sL (sR (sR (body f127))))))))) bu.u1 Q bE w_) Q)) bE w_) (aI 1 (bM (sR (sR (lB (bB (sR (sL (sR (sR (body f127)))))))))++bu.u1) (bD (fun bE w_=>match cutAt bu.k (sR (sR (lB (bB (sR (sL (sR (sR (body f127)))))))))with|true=>Holds none [] prog 141 (sR (sR (lB (bB (sR (sL (sR (sR (body f127))))))))) Q bE w_|false=>aO none [] prog 141 bu.k (sR (sR (lB (bB (sR (sL (sR (sR (body f127))))))))) bu.u1 Q bE w_) Q))))
def bu.q4(Q:aM):aM:=(aI 6 (bM (sR (sR (lB (bB (sR (sL (sR (sR (body f127)))))))))++bu.u1) (aI 1 (bM (sR (sR (lB (bB (sR (sL (sR (sR (body f127)))))))))++bu.u1) (bD (fun bE w_=>match cutAt bu.k (sR (sR (lB (bB (sR (sL (sR (sR (body f127)))))))))with|true=>Holds none [] prog 141 (sR (sR (lB (bB (sR (sL (sR (sR (body f127))))))))) Q bE w_|false=>aO none [] prog 141 bu.k (sR (sR (lB (bB (sR (sL (sR (sR (body f127))))))))) bu.u1 Q bE w_) Q)))
section
variable(a:OA)(b d:Nat)(e f:Int)(g:OA)(K:KT)(w:World)
def bu.W:Prop:=
 Holds none [] prog 141 (.loop (lB (bB (sR (sL (sR (sR (body f127)))))))) (bu.q1 K) [(0,.slice a b d),(1,.int .i64 e),(2,.int .i64 f),(3,.func (.func 47) #[.pointer g] #[]),(8,.bool false),(9,.int .i64 (i64.wrap (e+(1:Int)))),(10,.int .i64 0)] w
variable{a b d e f g K w}
theorem bu.of(h:bu.W a b d e f g K w):bj prog 127 #[.slice a b d,.int .i64 e,.int .i64 f,.func (.func 47) #[.pointer g] #[]] w K:=
 rqq func127 (C:=bu.k) h
end
section
variable(a:OA)(b c:Nat)(d e:Int)(f:OA)(g:Bool)(i j:Int)(Q:aM)(w:World)
def bu.B1:Prop:=
 Split (decide (j<(5:Int))) (Holds none [] prog 141 (.loop (lB (bB (sL (bB (sL (sR (lB (bB (sR (sL (sR (sR (body f127)))))))))))))) (bu.q2 Q) [(0,.slice a b c),(1,.int .i64 d),(2,.int .i64 e),(3,.func (.func 47) #[.pointer f] #[]),(8,.bool g),(9,.int .i64 i),(10,.int .i64 j)] w) (Q (.exit 0) [(0,.slice a b c),(1,.int .i64 d),(2,.int .i64 e),(3,.func (.func 47) #[.pointer f] #[]),(8,.bool g),(9,.int .i64 i),(10,.int .i64 j)] w)
theorem bu.b1:(aO none [] prog 141 bu.k (lB (bB (sR (sL (sR (sR (body f127))))))) bu.u1 Q [(0,.slice a b c),(1,.int .i64 d),(2,.int .i64 e),(3,.func (.func 47) #[.pointer f] #[]),(8,.bool g),(9,.int .i64 i),(10,.int .i64 j)] w)=bu.B1 a b c d e f g i j Q w:=by kernel_rfl
variable{a b c d e f}
theorem bu.b7(I:Bool×Int×Int->World->Prop)(μ:Bool×Int×Int->World->Nat)(s:Bool×Int×Int){Q:aM}{w:World}(h0:I s w)
 (round:∀s w,I s w->bu.B1 a b c d e f (s.1) (s.2.1) (s.2.2) (bI (bu.e1 a b c d e f) I μ s w Q) w):Holds none [] prog 141 (.loop (lB (bB (sR (sL (sR (sR (body f127)))))))) Q (bu.e1 a b c d e f s) w:=
 ba ng mix (bu.e1 a b c d e f) I μ bu.k bu.u1 s (fun s Q w=>bu.B1 a b c d e f (s.1) (s.2.1) (s.2.2) Q w) (fun s Q w=>bu.b1 a b c d e f (s.1) (s.2.1) (s.2.2) Q w) h0 round
end
section
variable(a:OA)(b c:Nat)(d e:Int)(f:OA)(g:Bool)(i j:Int)(K:KT)(w:World)
end
section
variable(a:OA)(b c:Nat)(d e:Int)(f:OA)(g:Bool)(i j:Int)(Q:aM)(w:World)
def bu.B2:Prop:=
 let k:=w.drew;Split (decide (i<e)) ((0<=i/\i<(b:Int))/\Is a fun m:Addr=>∃n:AV,(n.size=32/\Cells k (m.add (i.toNat*32)) n)/\(0<=(i64.wrap (i-(1:Int)))/\(i64.wrap (i-(1:Int)))<(b:Int))/\Is a fun o:Addr=>∃p:AV,(p.size=32/\Cells k (o.add ((i64.wrap (i-(1:Int))).toNat*32)) p)/\bj prog 47 #[.pointer f,.agg n,.agg p] k fun q r=>∃t:Int,q=.int .i64 t/\Split (!(decide (t<(0:Int)))) (Q .normal [(0,.slice a b c),(1,.int .i64 d),(2,.int .i64 e),(3,.func (.func 47) #[.pointer f] #[]),(8,.bool g),(9,.int .i64 (i64.wrap (i+(1:Int)))),(10,.int .i64 j)] r) (Q (.exit 2) [(0,.slice a b c),(1,.int .i64 d),(2,.int .i64 e),(3,.func (.func 47) #[.pointer f] #[]),(8,.bool g),(9,.int .i64 i),(10,.int .i64 j)] r)) (Q (.exit 2) [(0,.slice a b c),(1,.int .i64 d),(2,.int .i64 e),(3,.func (.func 47) #[.pointer f] #[]),(8,.bool g),(9,.int .i64 i),(10,.int .i64 j)] k)
theorem bu.b2:(aO none [] prog 141 bu.k (lB (bB (sL (bB (sL (sR (lB (bB (sR (sL (sR (sR (body f127))))))))))))) bu.u2 Q [(0,.slice a b c),(1,.int .i64 d),(2,.int .i64 e),(3,.func (.func 47) #[.pointer f] #[]),(8,.bool g),(9,.int .i64 i),(10,.int .i64 j)] w)=bu.B2 a b c d e f g i j Q w:=by kernel_rfl
variable{a b c d e f g j}
theorem bu.gw(I:Int->World->Prop)(μ:Int->World->Nat)(s:Int){Q:aM}{w:World}(h0:I s w)
 (round:∀s w,I s w->bu.B2 a b c d e f g s j (bI (bu.e2 a b c d e f g j) I μ s w Q) w):Holds none [] prog 141 (.loop (lB (bB (sL (bB (sL (sR (lB (bB (sR (sL (sR (sR (body f127)))))))))))))) Q (bu.e2 a b c d e f g j s) w:=
 ba ng mix (bu.e2 a b c d e f g j) I μ bu.k bu.u2 s (fun s Q w=>bu.B2 a b c d e f g s j Q w) (fun s Q w=>bu.b2 a b c d e f g s j Q w) h0 round
end
section
variable(a:OA)(b c:Nat)(d e:Int)(f:OA)(g:Bool)(i j:Int)(Q:aM)(w:World)
def bu.gU:Prop:=
 Split (i==e) (Q .ret [(0,.slice a b c),(1,.int .i64 d),(2,.int .i64 e),(3,.func (.func 47) #[.pointer f] #[]),(8,.bool true),(9,.int .i64 i),(10,.int .i64 j)] w) (Split (decide ((i64.wrap (e-d))<(50:Int))) (Q .ret [(0,.slice a b c),(1,.int .i64 d),(2,.int .i64 e),(3,.func (.func 47) #[.pointer f] #[]),(8,.bool false),(9,.int .i64 i),(10,.int .i64 j)] w) (let k:=w.drew;(0<=(i64.wrap (i-(1:Int)))/\(i64.wrap (i-(1:Int)))<(b:Int))/\Is a fun m:Addr=>∃n:AV,(n.size=32/\Cells k (m.add ((i64.wrap (i-(1:Int))).toNat*32)) n)/\(0<=i/\i<(b:Int))/\Is a fun o:Addr=>∃p:AV,(p.size=32/\Cells k (o.add (i.toNat*32)) p)/\(0<=i/\i<(b:Int))/\Is a fun q:Addr=>(n.size=32/\(∀r∈n.toList,r.oneCell'=true)/\∀t,t<32->Wr k ((q.add (i.toNat*32)).add t))/\let u:=setCells k (q.add (i.toNat*32)) n.toList 0;(0<=(i64.wrap (i-(1:Int)))/\(i64.wrap (i-(1:Int)))<(b:Int))/\Is a fun v:Addr=>(p.size=32/\(∀x∈p.toList,x.oneCell'=true)/\∀y,y<32->Wr u ((v.add ((i64.wrap (i-(1:Int))).toNat*32)).add y))/\let z:=setCells u (v.add ((i64.wrap (i-(1:Int))).toNat*32)) p.toList 0;Split (decide ((i64.wrap (i-d))>=(2:Int))) (Holds none [] prog 141 (.loop (lB (bB (sR (cT (sR (sL (sR (sR (sR (sR (bB (sL (sR (lB (bB (sR (sL (sR (sR (body f127))))))))))))))))))))) (bu.q3 Q) [(0,.slice a b c),(1,.int .i64 d),(2,.int .i64 e),(3,.func (.func 47) #[.pointer f] #[]),(8,.bool g),(9,.int .i64 i),(10,.int .i64 j),(11,.int .i64 (i64.wrap (i-(1:Int))))] z) (Split (decide ((i64.wrap (e-i))>=(2:Int))) (Holds none [] prog 141 (.loop (lB (bB (sR (cT (sR (sR (sR (sR (sR (sR (bB (sL (sR (lB (bB (sR (sL (sR (sR (body f127))))))))))))))))))))) (bu.q4 Q) [(0,.slice a b c),(1,.int .i64 d),(2,.int .i64 e),(3,.func (.func 47) #[.pointer f] #[]),(8,.bool g),(9,.int .i64 i),(10,.int .i64 j),(12,.int .i64 (i64.wrap (i+(1:Int))))] z) (Q .normal [(0,.slice a b c),(1,.int .i64 d),(2,.int .i64 e),(3,.func (.func 47) #[.pointer f] #[]),(8,.bool g),(9,.int .i64 i),(10,.int .i64 (i64.wrap (j+(1:Int))))] z))))
theorem bu.jA:(bu.q2 Q (.exit 2) [(0,.slice a b c),(1,.int .i64 d),(2,.int .i64 e),(3,.func (.func 47) #[.pointer f] #[]),(8,.bool g),(9,.int .i64 i),(10,.int .i64 j)] w)=bu.gU a b c d e f g i j Q w:=by kernel_rfl
end
section
variable(a:OA)(b c:Nat)(d e:Int)(f:OA)(g:Bool)(i j k:Int)(Q:aM)(w:World)
variable{a b c d e f g i j}
end
section
variable(a:OA)(b c:Nat)(d e:Int)(f:OA)(g:Bool)(i j k:Int)(Q:aM)(w:World)
end
section
variable(a:OA)(b c:Nat)(d e:Int)(f:OA)(g:Bool)(i j k:Int)(Q:aM)(w:World)
variable{a b c d e f g i j}
end
section
variable(a:OA)(b c:Nat)(d e:Int)(f:OA)(g:Bool)(i j k:Int)(Q:aM)(w:World)
end
section
variable(a:OA)(b d:Nat)(e f g:Int)(i:OA)(K:KT)(w:World)
variable{a b d e f g i K w}
end
section
variable(a:OA)(b c:Nat)(d:Int)(e:OA)(f g i:Int)(Q:aM)(w:World)
variable{a b c d e f}
end
section
variable(a:OA)(b c:Nat)(d:Int)(e:OA)(f g i:Int)(Q:aM)(w:World)
variable{a b c d e f i}
end
section
variable(a:OA)(b c:Nat)(d:Int)(e:OA)(f g i:Int)(Q:aM)(w:World)
end
section
variable(a:OA)(b c:Nat)(d:Int)(e:OA)(f g i:Int)(Q:aM)(w:World)
variable{a b c d e f g}
end
section
variable(a:OA)(b c:Nat)(d:Int)(e:OA)(f g i:Int)(Q:aM)(w:World)
end
section
variable(a:OA)(b c:Nat)(d:Int)(e:OA)(f g i:Int)(K:KT)(w:World)
end
def aR.k:List Nat:= []
def aR.q1(K:KT):aM:=(aI 0 (bM (sR (sR (sR (sR (body Tryz.f129)))))++(aT Tryz.f129)) (bD (fun bE w_=>match cutAt aR.k (sR (sR (sR (sR (body Tryz.f129)))))with|true=>Holds none [] prog 178 (sR (sR (sR (sR (body Tryz.f129))))) (bO prog Tryz.f129 K) bE w_|false=>aO none [] prog 178 aR.k (sR (sR (sR (sR (body Tryz.f129))))) (aT Tryz.f129) (bO prog Tryz.f129 K) bE w_) (bO prog Tryz.f129 K)))
def aR.e1(a:OA)(b c:Nat)(d:Int)(e:OA)(f g s:Int):Env:= [(0,.slice a b c),(1,.int .i64 d),(4,.func (.func 47) #[.pointer e] #[]),(10,.int .i64 f),(11,.bool false),(12,.int .i64 s),(13,.int .i64 g)]
def aR.u1:List Nat:= [0,1,4,10,11,12,13]
def aR.q2(K:KT):aM:=(aI 2 (bM (sR (sR (sR (sR (sR (body Tryz.f129))))))++(aT Tryz.f129)) (bD (fun bE w_=>match cutAt aR.k (sR (sR (sR (sR (sR (body Tryz.f129))))))with|true=>Holds none [] prog 178 (sR (sR (sR (sR (sR (body Tryz.f129)))))) (bO prog Tryz.f129 K) bE w_|false=>aO none [] prog 178 aR.k (sR (sR (sR (sR (sR (body Tryz.f129)))))) (aT Tryz.f129) (bO prog Tryz.f129 K) bE w_) (bO prog Tryz.f129 K)))
def aR.e2(a:OA)(b c:Nat)(d:Int)(e:OA)(f g s:Int):Env:= [(0,.slice a b c),(1,.int .i64 d),(4,.func (.func 47) #[.pointer e] #[]),(10,.int .i64 f),(11,.bool false),(12,.int .i64 g),(13,.int .i64 s)]
def aR.u2:List Nat:= [0,1,4,10,11,12,13]
def aR.q3(K:KT):aM:=(aI 4 (bM (sR (sR (sR (sR (sR (sR (sR (sR (sR (sR (body Tryz.f129)))))))))))++(aT Tryz.f129)) (bD (fun bE w_=>match cutAt aR.k (sR (sR (sR (sR (sR (sR (sR (sR (sR (sR (body Tryz.f129)))))))))))with|true=>Holds none [] prog 178 (sR (sR (sR (sR (sR (sR (sR (sR (sR (sR (body Tryz.f129))))))))))) (bO prog Tryz.f129 K) bE w_|false=>aO none [] prog 178 aR.k (sR (sR (sR (sR (sR (sR (sR (sR (sR (sR (body Tryz.f129))))))))))) (aT Tryz.f129) (bO prog Tryz.f129 K) bE w_) (bO prog Tryz.f129 K)))
def aR.e3(a:OA)(b c:Nat)(d:Int)(e:OA)(f:Int)(s:Int×Int):Env:= [(0,.slice a b c),(1,.int .i64 d),(4,.func (.func 47) #[.pointer e] #[]),(10,.int .i64 f),(11,.bool false),(12,.int .i64 s.1),(13,.int .i64 s.2)]
def aR.u3:List Nat:= [0,1,4,10,11,12,13]
def aR.q4(Q:aM):aM:=(aI 6 (bM (sR (bB (lB (bB (sL (sR (sR (sR (sR (sR (sR (sR (sR (sR (body Tryz.f129)))))))))))))))++aR.u3) (bD (fun bE w_=>match cutAt aR.k (sR (bB (lB (bB (sL (sR (sR (sR (sR (sR (sR (sR (sR (sR (body Tryz.f129)))))))))))))))with|true=>Holds none [] prog 178 (sR (bB (lB (bB (sL (sR (sR (sR (sR (sR (sR (sR (sR (sR (body Tryz.f129))))))))))))))) (aI 5 aR.u3 Q) bE w_|false=>aO none [] prog 178 aR.k (sR (bB (lB (bB (sL (sR (sR (sR (sR (sR (sR (sR (sR (sR (body Tryz.f129))))))))))))))) aR.u3 (aI 5 aR.u3 Q) bE w_) (aI 5 aR.u3 Q)))
def aR.e4(a:OA)(b c:Nat)(d:Int)(e:OA)(f g s:Int):Env:= [(0,.slice a b c),(1,.int .i64 d),(4,.func (.func 47) #[.pointer e] #[]),(10,.int .i64 f),(11,.bool false),(12,.int .i64 s),(13,.int .i64 g)]
def aR.u4:List Nat:= [0,1,4,10,11,12,13]
def aR.q5(Q:aM):aM:=(aI 8 (bM (sR (sR (bB (lB (bB (sL (sR (sR (sR (sR (sR (sR (sR (sR (sR (body Tryz.f129))))))))))))))))++aR.u3) (bD (fun bE w_=>match cutAt aR.k (sR (sR (bB (lB (bB (sL (sR (sR (sR (sR (sR (sR (sR (sR (sR (body Tryz.f129))))))))))))))))with|true=>Holds none [] prog 178 (sR (sR (bB (lB (bB (sL (sR (sR (sR (sR (sR (sR (sR (sR (sR (body Tryz.f129)))))))))))))))) (aI 5 aR.u3 Q) bE w_|false=>aO none [] prog 178 aR.k (sR (sR (bB (lB (bB (sL (sR (sR (sR (sR (sR (sR (sR (sR (sR (body Tryz.f129)))))))))))))))) aR.u3 (aI 5 aR.u3 Q) bE w_) (aI 5 aR.u3 Q)))
def aR.e5(a:OA)(b c:Nat)(d:Int)(e:OA)(f g s:Int):Env:= [(0,.slice a b c),(1,.int .i64 d),(4,.func (.func 47) #[.pointer e] #[]),(10,.int .i64 f),(11,.bool false),(12,.int .i64 g),(13,.int .i64 s)]
def aR.u5:List Nat:= [0,1,4,10,11,12,13]
section
variable(a:OA)(b d:Nat)(e f g:Int)(i:OA)(K:KT)(w:World)
def aR.W:Prop:=
 let j:=w.drew;(0<=g/\g<(b:Int))/\Is a fun k:Addr=>∃m:AV,(m.size=32/\Cells j (k.add (g.toNat*32)) m)/\(0<=e/\e<(b:Int))/\Is a fun n:Addr=>∃o:AV,(o.size=32/\Cells j (n.add (e.toNat*32)) o)/\(0<=e/\e<(b:Int))/\Is a fun p:Addr=>(m.size=32/\(∀q∈m.toList,q.oneCell'=true)/\∀r,r<32->Wr j ((p.add (e.toNat*32)).add r))/\let t:=setCells j (p.add (e.toNat*32)) m.toList 0;(0<=g/\g<(b:Int))/\Is a fun u:Addr=>(o.size=32/\(∀v∈o.toList,v.oneCell'=true)/\∀x,x<32->Wr t ((u.add (g.toNat*32)).add x))/\let y:=setCells t (u.add (g.toNat*32)) o.toList 0;Holds none [] prog 178 (.loop (lB (bB (sL (sR (sR (sR (body Tryz.f129)))))))) (aR.q1 K) [(0,.slice a b d),(1,.int .i64 e),(4,.func (.func 47) #[.pointer i] #[]),(10,.int .i64 0),(11,.bool false),(12,.int .i64 (i64.wrap (e+(1:Int)))),(13,.int .i64 (i64.wrap (f-(1:Int))))] y
variable{a b d e f g i K w}
theorem aR.of(h:aR.W a b d e f g i K w):bj prog 129 #[.slice a b d,.int .i64 e,.int .i64 f,.int .i64 g,.func (.func 47) #[.pointer i] #[]] w K:=
 rqq func129 (C:=aR.k) h
end
section
variable(a:OA)(b c:Nat)(d:Int)(e:OA)(f g i:Int)(Q:aM)(w:World)
def aR.B1:Prop:=
 let j:=w.drew;Split (decide (g<=i)) ((0<=g/\g<(b:Int))/\Is a fun k:Addr=>∃m:AV,(m.size=32/\Cells j (k.add (g.toNat*32)) m)/\(0<=d/\d<(b:Int))/\Is a fun n:Addr=>∃o:AV,(o.size=32/\Cells j (n.add (d.toNat*32)) o)/\bj prog 47 #[.pointer e,.agg m,.agg o] j fun p q=>∃r:Int,p=.int .i64 r/\Split (decide (r<(0:Int))) (Q .normal [(0,.slice a b c),(1,.int .i64 d),(4,.func (.func 47) #[.pointer e] #[]),(10,.int .i64 f),(11,.bool false),(12,.int .i64 (i64.wrap (g+(1:Int)))),(13,.int .i64 i)] q) (Q (.exit 0) [(0,.slice a b c),(1,.int .i64 d),(4,.func (.func 47) #[.pointer e] #[]),(10,.int .i64 f),(11,.bool false),(12,.int .i64 g),(13,.int .i64 i)] q)) (Q (.exit 0) [(0,.slice a b c),(1,.int .i64 d),(4,.func (.func 47) #[.pointer e] #[]),(10,.int .i64 f),(11,.bool false),(12,.int .i64 g),(13,.int .i64 i)] j)
theorem aR.b1:(aO none [] prog 178 aR.k (lB (bB (sL (sR (sR (sR (body Tryz.f129))))))) aR.u1 Q [(0,.slice a b c),(1,.int .i64 d),(4,.func (.func 47) #[.pointer e] #[]),(10,.int .i64 f),(11,.bool false),(12,.int .i64 g),(13,.int .i64 i)] w)=aR.B1 a b c d e f g i Q w:=by kernel_rfl
variable{a b c d e f i}
theorem aR.b7(I:Int->World->Prop)(μ:Int->World->Nat)(s:Int){Q:aM}{w:World}(h0:I s w)
 (round:∀s w,I s w->aR.B1 a b c d e f s i (bI (aR.e1 a b c d e f i) I μ s w Q) w):Holds none [] prog 178 (.loop (lB (bB (sL (sR (sR (sR (body Tryz.f129)))))))) Q (aR.e1 a b c d e f i s) w:=
 ba ng mix (aR.e1 a b c d e f i) I μ aR.k aR.u1 s (fun s Q w=>aR.B1 a b c d e f s i Q w) (fun s Q w=>aR.b1 a b c d e f s i Q w) h0 round
end
section
variable(a:OA)(b c:Nat)(d:Int)(e:OA)(f g i:Int)(K:KT)(w:World)
def aR.cK:Prop:=
 Holds none [] prog 178 (.loop (lB (bB (sL (sR (sR (sR (sR (body Tryz.f129))))))))) (aR.q2 K) [(0,.slice a b c),(1,.int .i64 d),(4,.func (.func 47) #[.pointer e] #[]),(10,.int .i64 f),(11,.bool false),(12,.int .i64 g),(13,.int .i64 i)] w
theorem aR.c8:(aR.q1 K (.exit 0) [(0,.slice a b c),(1,.int .i64 d),(4,.func (.func 47) #[.pointer e] #[]),(10,.int .i64 f),(11,.bool false),(12,.int .i64 g),(13,.int .i64 i)] w)=aR.cK a b c d e f g i K w:=by kernel_rfl
end
section
variable(a:OA)(b c:Nat)(d:Int)(e:OA)(f g i:Int)(Q:aM)(w:World)
def aR.B2:Prop:=
 let j:=w.drew;Split (decide (g<=i)) ((0<=i/\i<(b:Int))/\Is a fun k:Addr=>∃m:AV,(m.size=32/\Cells j (k.add (i.toNat*32)) m)/\(0<=d/\d<(b:Int))/\Is a fun n:Addr=>∃o:AV,(o.size=32/\Cells j (n.add (d.toNat*32)) o)/\bj prog 47 #[.pointer e,.agg m,.agg o] j fun p q=>∃r:Int,p=.int .i64 r/\Split (!(decide (r<(0:Int)))) (Q .normal [(0,.slice a b c),(1,.int .i64 d),(4,.func (.func 47) #[.pointer e] #[]),(10,.int .i64 f),(11,.bool false),(12,.int .i64 g),(13,.int .i64 (i64.wrap (i-(1:Int))))] q) (Q (.exit 2) [(0,.slice a b c),(1,.int .i64 d),(4,.func (.func 47) #[.pointer e] #[]),(10,.int .i64 f),(11,.bool false),(12,.int .i64 g),(13,.int .i64 i)] q)) (Q (.exit 2) [(0,.slice a b c),(1,.int .i64 d),(4,.func (.func 47) #[.pointer e] #[]),(10,.int .i64 f),(11,.bool false),(12,.int .i64 g),(13,.int .i64 i)] j)
theorem aR.b2:(aO none [] prog 178 aR.k (lB (bB (sL (sR (sR (sR (sR (body Tryz.f129)))))))) aR.u2 Q [(0,.slice a b c),(1,.int .i64 d),(4,.func (.func 47) #[.pointer e] #[]),(10,.int .i64 f),(11,.bool false),(12,.int .i64 g),(13,.int .i64 i)] w)=aR.B2 a b c d e f g i Q w:=by kernel_rfl
variable{a b c d e f g}
theorem aR.gw(I:Int->World->Prop)(μ:Int->World->Nat)(s:Int){Q:aM}{w:World}(h0:I s w)
 (round:∀s w,I s w->aR.B2 a b c d e f g s (bI (aR.e2 a b c d e f g) I μ s w Q) w):Holds none [] prog 178 (.loop (lB (bB (sL (sR (sR (sR (sR (body Tryz.f129))))))))) Q (aR.e2 a b c d e f g s) w:=
 ba ng mix (aR.e2 a b c d e f g) I μ aR.k aR.u2 s (fun s Q w=>aR.B2 a b c d e f g s Q w) (fun s Q w=>aR.b2 a b c d e f g s Q w) h0 round
end
section
variable(a:OA)(b c:Nat)(d:Int)(e:OA)(f g i:Int)(K:KT)(w:World)
def aR.gU:Prop:=
 Split (decide (g>i)) (let j:=w.drew;(0<=d/\d<(b:Int))/\Is a fun k:Addr=>∃m:AV,(m.size=32/\Cells j (k.add (d.toNat*32)) m)/\(0<=i/\i<(b:Int))/\Is a fun n:Addr=>∃o:AV,(o.size=32/\Cells j (n.add (i.toNat*32)) o)/\(0<=i/\i<(b:Int))/\Is a fun p:Addr=>(m.size=32/\(∀q∈m.toList,q.oneCell'=true)/\∀r,r<32->Wr j ((p.add (i.toNat*32)).add r))/\let t:=setCells j (p.add (i.toNat*32)) m.toList 0;(0<=d/\d<(b:Int))/\Is a fun u:Addr=>(o.size=32/\(∀v∈o.toList,v.oneCell'=true)/\∀x,x<32->Wr t ((u.add (d.toNat*32)).add x))/\let y:=setCells t (u.add (d.toNat*32)) o.toList 0;K (.tuple #[.int .i64 i,.bool true]) y) (let z:=w.drew;(0<=i/\i<(b:Int))/\Is a fun a1:Addr=>∃b1:AV,(b1.size=32/\Cells z (a1.add (i.toNat*32)) b1)/\(0<=g/\g<(b:Int))/\Is a fun c1:Addr=>∃d1:AV,(d1.size=32/\Cells z (c1.add (g.toNat*32)) d1)/\(0<=g/\g<(b:Int))/\Is a fun e1:Addr=>(b1.size=32/\(∀f1∈b1.toList,f1.oneCell'=true)/\∀g1,g1<32->Wr z ((e1.add (g.toNat*32)).add g1))/\let i1:=setCells z (e1.add (g.toNat*32)) b1.toList 0;(0<=i/\i<(b:Int))/\Is a fun j1:Addr=>(d1.size=32/\(∀k1∈d1.toList,k1.oneCell'=true)/\∀m1,m1<32->Wr i1 ((j1.add (i.toNat*32)).add m1))/\let n1:=setCells i1 (j1.add (i.toNat*32)) d1.toList 0;Holds none [] prog 178 (.loop (lB (bB (sL (sR (sR (sR (sR (sR (sR (sR (sR (sR (body Tryz.f129)))))))))))))) (aR.q3 K) [(0,.slice a b c),(1,.int .i64 d),(4,.func (.func 47) #[.pointer e] #[]),(10,.int .i64 f),(11,.bool false),(12,.int .i64 (i64.wrap (g+(1:Int)))),(13,.int .i64 (i64.wrap (i-(1:Int))))] n1)
theorem aR.jA:(aR.q2 K (.exit 2) [(0,.slice a b c),(1,.int .i64 d),(4,.func (.func 47) #[.pointer e] #[]),(10,.int .i64 f),(11,.bool false),(12,.int .i64 g),(13,.int .i64 i)] w)=aR.gU a b c d e f g i K w:=by kernel_rfl
end
section
variable(a:OA)(b c:Nat)(d:Int)(e:OA)(f g i:Int)(Q:aM)(w:World)
def aR.B3:Prop:=
 Holds none [] prog 178 (.loop (lB (bB (sL (bB (lB (bB (sL (sR (sR (sR (sR (sR (sR (sR (sR (sR (body Tryz.f129)))))))))))))))))) (aR.q4 Q) [(0,.slice a b c),(1,.int .i64 d),(4,.func (.func 47) #[.pointer e] #[]),(10,.int .i64 f),(11,.bool false),(12,.int .i64 g),(13,.int .i64 i)] w
theorem aR.b3:(aO none [] prog 178 aR.k (lB (bB (sL (sR (sR (sR (sR (sR (sR (sR (sR (sR (body Tryz.f129))))))))))))) aR.u3 Q [(0,.slice a b c),(1,.int .i64 d),(4,.func (.func 47) #[.pointer e] #[]),(10,.int .i64 f),(11,.bool false),(12,.int .i64 g),(13,.int .i64 i)] w)=aR.B3 a b c d e f g i Q w:=by kernel_rfl
variable{a b c d e f}
theorem aR.qv(I:Int×Int->World->Prop)(μ:Int×Int->World->Nat)(s:Int×Int){Q:aM}{w:World}(h0:I s w)
 (round:∀s w,I s w->aR.B3 a b c d e f (s.1) (s.2) (bI (aR.e3 a b c d e f) I μ s w Q) w):Holds none [] prog 178 (.loop (lB (bB (sL (sR (sR (sR (sR (sR (sR (sR (sR (sR (body Tryz.f129)))))))))))))) Q (aR.e3 a b c d e f s) w:=
 ba ng mix (aR.e3 a b c d e f) I μ aR.k aR.u3 s (fun s Q w=>aR.B3 a b c d e f (s.1) (s.2) Q w) (fun s Q w=>aR.b3 a b c d e f (s.1) (s.2) Q w) h0 round
end
section
variable(a:OA)(b c:Nat)(d:Int)(e:OA)(f g i:Int)(Q:aM)(w:World)
def aR.B4:Prop:=
 let j:=w.drew;Split (decide (g<=i)) ((0<=g/\g<(b:Int))/\Is a fun k:Addr=>∃m:AV,(m.size=32/\Cells j (k.add (g.toNat*32)) m)/\(0<=d/\d<(b:Int))/\Is a fun n:Addr=>∃o:AV,(o.size=32/\Cells j (n.add (d.toNat*32)) o)/\bj prog 47 #[.pointer e,.agg m,.agg o] j fun p q=>∃r:Int,p=.int .i64 r/\Split (decide (r<(0:Int))) (Q .normal [(0,.slice a b c),(1,.int .i64 d),(4,.func (.func 47) #[.pointer e] #[]),(10,.int .i64 f),(11,.bool false),(12,.int .i64 (i64.wrap (g+(1:Int)))),(13,.int .i64 i)] q) (Q (.exit 6) [(0,.slice a b c),(1,.int .i64 d),(4,.func (.func 47) #[.pointer e] #[]),(10,.int .i64 f),(11,.bool false),(12,.int .i64 g),(13,.int .i64 i)] q)) (Q (.exit 6) [(0,.slice a b c),(1,.int .i64 d),(4,.func (.func 47) #[.pointer e] #[]),(10,.int .i64 f),(11,.bool false),(12,.int .i64 g),(13,.int .i64 i)] j)
theorem aR.b4:(aO none [] prog 178 aR.k (lB (bB (sL (bB (lB (bB (sL (sR (sR (sR (sR (sR (sR (sR (sR (sR (body Tryz.f129))))))))))))))))) aR.u4 Q [(0,.slice a b c),(1,.int .i64 d),(4,.func (.func 47) #[.pointer e] #[]),(10,.int .i64 f),(11,.bool false),(12,.int .i64 g),(13,.int .i64 i)] w)=aR.B4 a b c d e f g i Q w:=by kernel_rfl
variable{a b c d e f i}
theorem aR.Gm(I:Int->World->Prop)(μ:Int->World->Nat)(s:Int){Q:aM}{w:World}(h0:I s w)
 (round:∀s w,I s w->aR.B4 a b c d e f s i (bI (aR.e4 a b c d e f i) I μ s w Q) w):Holds none [] prog 178 (.loop (lB (bB (sL (bB (lB (bB (sL (sR (sR (sR (sR (sR (sR (sR (sR (sR (body Tryz.f129)))))))))))))))))) Q (aR.e4 a b c d e f i s) w:=
 ba ng mix (aR.e4 a b c d e f i) I μ aR.k aR.u4 s (fun s Q w=>aR.B4 a b c d e f s i Q w) (fun s Q w=>aR.b4 a b c d e f s i Q w) h0 round
end
section
variable(a:OA)(b c:Nat)(d:Int)(e:OA)(f g i:Int)(Q:aM)(w:World)
def aR.BH:Prop:=
 Holds none [] prog 178 (.loop (lB (bB (sL (sR (bB (lB (bB (sL (sR (sR (sR (sR (sR (sR (sR (sR (sR (body Tryz.f129))))))))))))))))))) (aR.q5 Q) [(0,.slice a b c),(1,.int .i64 d),(4,.func (.func 47) #[.pointer e] #[]),(10,.int .i64 f),(11,.bool false),(12,.int .i64 g),(13,.int .i64 i)] w
theorem aR.Fq:(aR.q4 Q (.exit 6) [(0,.slice a b c),(1,.int .i64 d),(4,.func (.func 47) #[.pointer e] #[]),(10,.int .i64 f),(11,.bool false),(12,.int .i64 g),(13,.int .i64 i)] w)=aR.BH a b c d e f g i Q w:=by kernel_rfl
end
section
variable(a:OA)(b c:Nat)(d:Int)(e:OA)(f g i:Int)(Q:aM)(w:World)
def aR.B5:Prop:=
 let j:=w.drew;Split (decide (g<=i)) ((0<=i/\i<(b:Int))/\Is a fun k:Addr=>∃m:AV,(m.size=32/\Cells j (k.add (i.toNat*32)) m)/\(0<=d/\d<(b:Int))/\Is a fun n:Addr=>∃o:AV,(o.size=32/\Cells j (n.add (d.toNat*32)) o)/\bj prog 47 #[.pointer e,.agg m,.agg o] j fun p q=>∃r:Int,p=.int .i64 r/\Split (!(decide (r<(0:Int)))) (Q .normal [(0,.slice a b c),(1,.int .i64 d),(4,.func (.func 47) #[.pointer e] #[]),(10,.int .i64 f),(11,.bool false),(12,.int .i64 g),(13,.int .i64 (i64.wrap (i-(1:Int))))] q) (Q (.exit 8) [(0,.slice a b c),(1,.int .i64 d),(4,.func (.func 47) #[.pointer e] #[]),(10,.int .i64 f),(11,.bool false),(12,.int .i64 g),(13,.int .i64 i)] q)) (Q (.exit 8) [(0,.slice a b c),(1,.int .i64 d),(4,.func (.func 47) #[.pointer e] #[]),(10,.int .i64 f),(11,.bool false),(12,.int .i64 g),(13,.int .i64 i)] j)
theorem aR.b5:(aO none [] prog 178 aR.k (lB (bB (sL (sR (bB (lB (bB (sL (sR (sR (sR (sR (sR (sR (sR (sR (sR (body Tryz.f129)))))))))))))))))) aR.u5 Q [(0,.slice a b c),(1,.int .i64 d),(4,.func (.func 47) #[.pointer e] #[]),(10,.int .i64 f),(11,.bool false),(12,.int .i64 g),(13,.int .i64 i)] w)=aR.B5 a b c d e f g i Q w:=by kernel_rfl
variable{a b c d e f g}
theorem aR.Rt(I:Int->World->Prop)(μ:Int->World->Nat)(s:Int){Q:aM}{w:World}(h0:I s w)
 (round:∀s w,I s w->aR.B5 a b c d e f g s (bI (aR.e5 a b c d e f g) I μ s w Q) w):Holds none [] prog 178 (.loop (lB (bB (sL (sR (bB (lB (bB (sL (sR (sR (sR (sR (sR (sR (sR (sR (sR (body Tryz.f129))))))))))))))))))) Q (aR.e5 a b c d e f g s) w:=
 ba ng mix (aR.e5 a b c d e f g) I μ aR.k aR.u5 s (fun s Q w=>aR.B5 a b c d e f g s Q w) (fun s Q w=>aR.b5 a b c d e f g s Q w) h0 round
end
section
variable(a:OA)(b c:Nat)(d:Int)(e:OA)(f g i:Int)(Q:aM)(w:World)
def aR.PC:Prop:=
 Split (decide (g>i)) (Q (.exit 4) [(0,.slice a b c),(1,.int .i64 d),(4,.func (.func 47) #[.pointer e] #[]),(10,.int .i64 f),(11,.bool false),(12,.int .i64 g),(13,.int .i64 i)] w) (let j:=w.drew;(0<=i/\i<(b:Int))/\Is a fun k:Addr=>∃m:AV,(m.size=32/\Cells j (k.add (i.toNat*32)) m)/\(0<=g/\g<(b:Int))/\Is a fun n:Addr=>∃o:AV,(o.size=32/\Cells j (n.add (g.toNat*32)) o)/\(0<=g/\g<(b:Int))/\Is a fun p:Addr=>(m.size=32/\(∀q∈m.toList,q.oneCell'=true)/\∀r,r<32->Wr j ((p.add (g.toNat*32)).add r))/\let t:=setCells j (p.add (g.toNat*32)) m.toList 0;(0<=i/\i<(b:Int))/\Is a fun u:Addr=>(o.size=32/\(∀v∈o.toList,v.oneCell'=true)/\∀x,x<32->Wr t ((u.add (i.toNat*32)).add x))/\let y:=setCells t (u.add (i.toNat*32)) o.toList 0;Q .normal [(0,.slice a b c),(1,.int .i64 d),(4,.func (.func 47) #[.pointer e] #[]),(10,.int .i64 f),(11,.bool false),(12,.int .i64 (i64.wrap (g+(1:Int)))),(13,.int .i64 (i64.wrap (i-(1:Int))))] y)
theorem aR.QO:(aR.q5 Q (.exit 8) [(0,.slice a b c),(1,.int .i64 d),(4,.func (.func 47) #[.pointer e] #[]),(10,.int .i64 f),(11,.bool false),(12,.int .i64 g),(13,.int .i64 i)] w)=aR.PC a b c d e f g i Q w:=by kernel_rfl
end
section
def aR.qQ(a:OA)(b c:Nat)(d:Int)(e:OA)(f g i:Int)(K:KT)(w:World):Prop:=
 let j:=w.drew;(0<=d/\d<(b:Int))/\Is a fun k:Addr=>∃m:AV,(m.size=32/\Cells j (k.add (d.toNat*32)) m)/\(0<=i/\i<(b:Int))/\Is a fun n:Addr=>∃o:AV,(o.size=32/\Cells j (n.add (i.toNat*32)) o)/\(0<=i/\i<(b:Int))/\Is a fun p:Addr=>(m.size=32/\(∀q∈m.toList,q.oneCell'=true)/\∀r,r<32->Wr j ((p.add (i.toNat*32)).add r))/\let t:=setCells j (p.add (i.toNat*32)) m.toList 0;(0<=d/\d<(b:Int))/\Is a fun u:Addr=>(o.size=32/\(∀v∈o.toList,v.oneCell'=true)/\∀x,x<32->Wr t ((u.add (d.toNat*32)).add x))/\let y:=setCells t (u.add (d.toNat*32)) o.toList 0;K (.tuple #[.int .i64 i,.bool false]) y
variable(a:OA)(b c:Nat)(d:Int)(e:OA)(f g i:Int)(K:KT)(w:World)
theorem aR.wE:(aR.q3 K (.exit 4) [(0,.slice a b c),(1,.int .i64 d),(4,.func (.func 47) #[.pointer e] #[]),(10,.int .i64 f),(11,.bool false),(12,.int .i64 g),(13,.int .i64 i)] w)=aR.qQ a b c d e f g i K w:=by kernel_rfl
end
def bL.k:List Nat:= [5,6]
def bL.q1(K:KT):aM:=(aI 0 (aT f135) (bO prog f135 K))
def bL.e1(a:OA)(b c:Nat)(d e:Int)(f:OA)(s:Int):Env:= [(0,.slice a b c),(2,.int .i64 d),(3,.int .i64 e),(4,.func (.func 47) #[.pointer f] #[]),(10,.int .i64 s)]
def bL.u1:List Nat:= [0,2,3,4,10]
section
variable(a:OA)(b d:Nat)(e f g:Int)(i:OA)(K:KT)(w:World)
def bL.W:Prop:=
 Holds none [] prog 82 (.loop (lB (bB (sR (body f135))))) (bL.q1 K) [(0,.slice a b d),(2,.int .i64 f),(3,.int .i64 g),(4,.func (.func 47) #[.pointer i] #[]),(10,.int .i64 e)] w
variable{a b d e f g i K w}
theorem bL.of(h:bL.W a b d e f g i K w):bj prog 135 #[.slice a b d,.int .i64 e,.int .i64 f,.int .i64 g,.func (.func 47) #[.pointer i] #[]] w K:=
 rqq func135 (C:=bL.k) h
end
section
variable(a:OA)(b c:Nat)(d e:Int)(f:OA)(g:Int)(Q:aM)(w:World)
def bL.B1:Prop:=
 Split (decide ((i64.wrap ((i64.wrap ((2:Int)*g))+(1:Int)))>=d)) (Q (.exit 0) [(0,.slice a b c),(2,.int .i64 d),(3,.int .i64 e),(4,.func (.func 47) #[.pointer f] #[]),(10,.int .i64 g),(11,.int .i64 (i64.wrap ((i64.wrap ((2:Int)*g))+(1:Int))))] w) (let i:=w.drew;Split (decide ((i64.wrap ((i64.wrap ((i64.wrap ((2:Int)*g))+(1:Int)))+(1:Int)))<d)) ((0<=(i64.wrap (e+(i64.wrap ((i64.wrap ((2:Int)*g))+(1:Int)))))/\(i64.wrap (e+(i64.wrap ((i64.wrap ((2:Int)*g))+(1:Int)))))<(b:Int))/\Is a fun j:Addr=>∃k:AV,(k.size=32/\Cells i (j.add ((i64.wrap (e+(i64.wrap ((i64.wrap ((2:Int)*g))+(1:Int))))).toNat*32)) k)/\(0<=(i64.wrap ((i64.wrap (e+(i64.wrap ((i64.wrap ((2:Int)*g))+(1:Int)))))+(1:Int)))/\(i64.wrap ((i64.wrap (e+(i64.wrap ((i64.wrap ((2:Int)*g))+(1:Int)))))+(1:Int)))<(b:Int))/\Is a fun m:Addr=>∃n:AV,(n.size=32/\Cells i (m.add ((i64.wrap ((i64.wrap (e+(i64.wrap ((i64.wrap ((2:Int)*g))+(1:Int)))))+(1:Int))).toNat*32)) n)/\bj prog 47 #[.pointer f,.agg k,.agg n] i fun o p=>∃q:Int,o=.int .i64 q/\Split (decide (q<(0:Int))) (Holds none [] prog 82 (sR (sR (sR (bB (lB (bB (sR (body f135)))))))) (aI 1 bL.u1 Q) [(0,.slice a b c),(2,.int .i64 d),(3,.int .i64 e),(4,.func (.func 47) #[.pointer f] #[]),(10,.int .i64 g),(11,.int .i64 (i64.wrap ((i64.wrap ((i64.wrap ((2:Int)*g))+(1:Int)))+(1:Int))))] p) (Holds none [] prog 82 (sR (sR (sR (bB (lB (bB (sR (body f135)))))))) (aI 1 bL.u1 Q) [(0,.slice a b c),(2,.int .i64 d),(3,.int .i64 e),(4,.func (.func 47) #[.pointer f] #[]),(10,.int .i64 g),(11,.int .i64 (i64.wrap ((i64.wrap ((2:Int)*g))+(1:Int))))] p)) (Holds none [] prog 82 (sR (sR (sR (bB (lB (bB (sR (body f135)))))))) (aI 1 bL.u1 Q) [(0,.slice a b c),(2,.int .i64 d),(3,.int .i64 e),(4,.func (.func 47) #[.pointer f] #[]),(10,.int .i64 g),(11,.int .i64 (i64.wrap ((i64.wrap ((2:Int)*g))+(1:Int))))] i))
theorem bL.b1:(aO none [] prog 82 bL.k (lB (bB (sR (body f135)))) bL.u1 Q [(0,.slice a b c),(2,.int .i64 d),(3,.int .i64 e),(4,.func (.func 47) #[.pointer f] #[]),(10,.int .i64 g)] w)=bL.B1 a b c d e f g Q w:=by kernel_rfl
variable{a b c d e f}
theorem bL.b7(I:Int->World->Prop)(μ:Int->World->Nat)(s:Int){Q:aM}{w:World}(h0:I s w)
 (round:∀s w,I s w->bL.B1 a b c d e f s (bI (bL.e1 a b c d e f) I μ s w Q) w):Holds none [] prog 82 (.loop (lB (bB (sR (body f135))))) Q (bL.e1 a b c d e f s) w:=
 ba ng mix (bL.e1 a b c d e f) I μ bL.k bL.u1 s (fun s Q w=>bL.B1 a b c d e f s Q w) (fun s Q w=>bL.b1 a b c d e f s Q w) h0 round
end
section
def bL.cK(a:OA)(b c:Nat)(d e:Int)(f:OA)(g i:Int)(K:KT)(w:World):Prop:=
 K (.tuple #[]) w
variable(a:OA)(b c:Nat)(d e:Int)(f:OA)(g i:Int)(K:KT)(w:World)
theorem bL.c8:(bL.q1 K (.exit 0) [(0,.slice a b c),(2,.int .i64 d),(3,.int .i64 e),(4,.func (.func 47) #[.pointer f] #[]),(10,.int .i64 g),(11,.int .i64 i)] w)=bL.cK a b c d e f g i K w:=by kernel_rfl
end
section
variable(a:OA)(b c:Nat)(d e:Int)(f:OA)(g i:Int)(Q:aM)(w:World)
def bL.J1:Prop:=
 let j:=w.drew;(0<=(i64.wrap (e+g))/\(i64.wrap (e+g))<(b:Int))/\Is a fun k:Addr=>∃m:AV,(m.size=32/\Cells j (k.add ((i64.wrap (e+g)).toNat*32)) m)/\(0<=(i64.wrap (e+i))/\(i64.wrap (e+i))<(b:Int))/\Is a fun n:Addr=>∃o:AV,(o.size=32/\Cells j (n.add ((i64.wrap (e+i)).toNat*32)) o)/\bj prog 47 #[.pointer f,.agg m,.agg o] j fun p q=>∃r:Int,p=.int .i64 r/\Split (!(decide (r<(0:Int)))) (Q .ret [(0,.slice a b c),(2,.int .i64 d),(3,.int .i64 e),(4,.func (.func 47) #[.pointer f] #[]),(10,.int .i64 g),(11,.int .i64 i)] q) (Holds none [] prog 82 (sR (sR (sR (sR (bB (lB (bB (sR (body f135))))))))) (aI 1 bL.u1 Q) [(0,.slice a b c),(2,.int .i64 d),(3,.int .i64 e),(4,.func (.func 47) #[.pointer f] #[]),(10,.int .i64 g),(11,.int .i64 i)] q)
theorem bL.j1:(aO none [] prog 82 bL.k (sR (sR (sR (bB (lB (bB (sR (body f135)))))))) bL.u1 (aI 1 bL.u1 Q) [(0,.slice a b c),(2,.int .i64 d),(3,.int .i64 e),(4,.func (.func 47) #[.pointer f] #[]),(10,.int .i64 g),(11,.int .i64 i)] w)=bL.J1 a b c d e f g i Q w:=by kernel_rfl
variable{a b c d e f g i Q w}
theorem bL.ly(h:bL.J1 a b c d e f g i Q w):Holds none [] prog 82 (sR (sR (sR (bB (lB (bB (sR (body f135)))))))) (aI 1 bL.u1 Q) [(0,.slice a b c),(2,.int .i64 d),(3,.int .i64 e),(4,.func (.func 47) #[.pointer f] #[]),(10,.int .i64 g),(11,.int .i64 i)] w:=
 cg (C:=bL.k) ng mix (bL.j1 a b c d e f g i Q w) h
end
section
variable(a:OA)(b c:Nat)(d e:Int)(f:OA)(g i:Int)(Q:aM)(w:World)
def bL.J2:Prop:=
 let j:=w.drew;(0<=(i64.wrap (e+i))/\(i64.wrap (e+i))<(b:Int))/\Is a fun k:Addr=>∃m:AV,(m.size=32/\Cells j (k.add ((i64.wrap (e+i)).toNat*32)) m)/\(0<=(i64.wrap (e+g))/\(i64.wrap (e+g))<(b:Int))/\Is a fun n:Addr=>∃o:AV,(o.size=32/\Cells j (n.add ((i64.wrap (e+g)).toNat*32)) o)/\(0<=(i64.wrap (e+g))/\(i64.wrap (e+g))<(b:Int))/\Is a fun p:Addr=>(m.size=32/\(∀q∈m.toList,q.oneCell'=true)/\∀r,r<32->Wr j ((p.add ((i64.wrap (e+g)).toNat*32)).add r))/\let t:=setCells j (p.add ((i64.wrap (e+g)).toNat*32)) m.toList 0;(0<=(i64.wrap (e+i))/\(i64.wrap (e+i))<(b:Int))/\Is a fun u:Addr=>(o.size=32/\(∀v∈o.toList,v.oneCell'=true)/\∀x,x<32->Wr t ((u.add ((i64.wrap (e+i)).toNat*32)).add x))/\let y:=setCells t (u.add ((i64.wrap (e+i)).toNat*32)) o.toList 0;Q .normal [(0,.slice a b c),(2,.int .i64 d),(3,.int .i64 e),(4,.func (.func 47) #[.pointer f] #[]),(10,.int .i64 i)] y
theorem bL.j2:(aO none [] prog 82 bL.k (sR (sR (sR (sR (bB (lB (bB (sR (body f135))))))))) bL.u1 (aI 1 bL.u1 Q) [(0,.slice a b c),(2,.int .i64 d),(3,.int .i64 e),(4,.func (.func 47) #[.pointer f] #[]),(10,.int .i64 g),(11,.int .i64 i)] w)=bL.J2 a b c d e f g i Q w:=by kernel_rfl
variable{a b c d e f g i Q w}
theorem bL.ny(h:bL.J2 a b c d e f g i Q w):Holds none [] prog 82 (sR (sR (sR (sR (bB (lB (bB (sR (body f135))))))))) (aI 1 bL.u1 Q) [(0,.slice a b c),(2,.int .i64 d),(3,.int .i64 e),(4,.func (.func 47) #[.pointer f] #[]),(10,.int .i64 g),(11,.int .i64 i)] w:=
 cg (C:=bL.k) ng mix (bL.j2 a b c d e f g i Q w) h
end
section
variable(a:OA)(b d:Nat)(e:Int)(f g:OA)(K:KT)(w:World)
variable{a b d e f g K w}
end
def ra.k:List Nat:= []
section
variable(a:OA)(b d:Nat)(e f g:Int)(i j:OA)(K:KT)(w:World)
def ra.W:Prop:=
 bj prog 141 #[.slice a b d,.int .i64 e,.int .i64 f,.pointer i,.func (.func 47) #[.pointer j] #[]] w fun k m=>∃n o:Int,k=.tuple #[.int .i64 n,.int .i64 o]/\bj prog 141 #[.slice a b d,.int .i64 o,.int .i64 g,.pointer i,.func (.func 47) #[.pointer j] #[]] m fun p q=>∃r t:Int,p=.tuple #[.int .i64 r,.int .i64 t]/\bj prog 141 #[.slice a b d,.int .i64 n,.int .i64 r,.pointer i,.func (.func 47) #[.pointer j] #[]] q fun u v=>∃x y:Int,u=.tuple #[.int .i64 x,.int .i64 y]/\K (.int .i64 y) v
variable{a b d e f g i j K w}
theorem ra.of(h:ra.W a b d e f g i j K w):bj prog 139 #[.slice a b d,.int .i64 e,.int .i64 f,.int .i64 g,.pointer i,.func (.func 47) #[.pointer j] #[]] w K:=
 rqq func139 (C:=ra.k) h
end
def q9.k:List Nat:= []
section
def q9.W(a:OA)(b d:Nat)(e f:Int)(g i:OA)(K:KT)(w:World):Prop:=
 let j:=w.drew;(0<=f/\f<(b:Int))/\Is a fun k:Addr=>∃m:AV,(m.size=32/\Cells j (k.add (f.toNat*32)) m)/\(0<=e/\e<(b:Int))/\Is a fun n:Addr=>∃o:AV,(o.size=32/\Cells j (n.add (e.toNat*32)) o)/\bj prog 47 #[.pointer i,.agg m,.agg o] j fun p q=>∃r:Int,p=.int .i64 r/\Split (decide (r<(0:Int))) (Is g fun t:Addr=>∃u:Int,q.cell? t=some (.int .i64 u)/\Is g fun v:Addr=>Wr q v/\let x:=q.setCell v (.int .i64 (i64.wrap (u+(1:Int))));K (.tuple #[.int .i64 f,.int .i64 e]) x) (K (.tuple #[.int .i64 e,.int .i64 f]) q)
variable(a:OA)(b d:Nat)(e f:Int)(g i:OA)(K:KT)(w:World)
variable{a b d e f g i K w}
theorem q9.of(h:q9.W a b d e f g i K w):bj prog 141 #[.slice a b d,.int .i64 e,.int .i64 f,.pointer g,.func (.func 47) #[.pointer i] #[]] w K:=
 rqq func141 (C:=q9.k) h
end
end Go.Proofs.YtnboahlopghcjaaGreatDoor
