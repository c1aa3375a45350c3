import Derived.Test.YtnboahlopghcjaaGreatDoorProg
import Derived.Test.YtnboahlopghcjaaGreatDoorMA
import Derived.Test.YtnboahlopghcjaaGreatDoorMB
open Go.IntKind (i64 u64)
set_option linter.unusedVariables false
namespace Go.Proofs.YtnboahlopghcjaaGreatDoor
open Go.Proofs.Tryz
open Go Go.bT
def pG.k:List Nat:= []
section
variable(a:OA)(b d:Nat)(e:OA)(K:KT)(w:World)
def pG.W:Prop:=
 bj prog 106 #[.int .u64 (u64.wrap (b:Int))] w fun f g=>∃i:Int,f=.int .i64 i/\bj prog 105 #[.slice a b d,.int .i64 0,.int .i64 (b:Int),.int .i64 i,.func (.func 47) #[.pointer e] #[]] g fun j k=>j=.tuple #[]/\K (.tuple #[]) k
variable{a b d e K w}
theorem pG.of(h:pG.W a b d e K w):bj prog 72 #[.slice a b d,.func (.func 47) #[.pointer e] #[]] w K:=
 rqq func72 (C:=pG.k) h
end
def ax.k:List Nat:= [10,11,13,14,15,17,20,21,22,23,24,26,27,29,30]
def ax.q1(K:KT):aM:=(aL 0 (aN f105) (bI prog f105 K))
def ax.e1(a:OA)(b c:Nat)(d:OA)(s:Int×Int×Int×Bool×Bool):Env:= [(0,.slice a b c),(1,.int .i64 s.1),(2,.int .i64 s.2.1),(3,.int .i64 s.2.2.1),(4,.func (.func 47) #[.pointer d] #[]),(10,.bool s.2.2.2.1),(11,.bool s.2.2.2.2)]
def ax.u1:List Nat:= [0,1,2,3,4,10,11]
section
variable(a:OA)(b d:Nat)(e f g:Int)(i:OA)(K:KT)(w:World)
def ax.W:Prop:=
 Holds none [] prog 148 (.loop (lB (bB (sR (sR (body f105)))))) (ax.q1 K) [(0,.slice a b d),(1,.int .i64 e),(2,.int .i64 f),(3,.int .i64 g),(4,.func (.func 47) #[.pointer i] #[]),(10,.bool true),(11,.bool true)] w
variable{a b d e f g i K w}
theorem ax.of(h:ax.W a b d e f g i K w):bj prog 105 #[.slice a b d,.int .i64 e,.int .i64 f,.int .i64 g,.func (.func 47) #[.pointer i] #[]] w K:=
 rqq func105 (C:=ax.k) h
end
section
variable(a:OA)(b c:Nat)(d e f:Int)(g:OA)(i j:Bool)(Q:aM)(w:World)
def ax.B1:Prop:=
 Split (decide ((i64.wrap (e-d))<=(12:Int))) (bj prog 122 #[.slice a b c,.int .i64 d,.int .i64 e,.func (.func 47) #[.pointer g] #[]] w fun k m=>k=.tuple #[]/\Q .ret [(0,.slice a b c),(1,.int .i64 d),(2,.int .i64 e),(3,.int .i64 f),(4,.func (.func 47) #[.pointer g] #[]),(10,.bool i),(11,.bool j),(12,.int .i64 (i64.wrap (e-d)))] m) (Split (f==(0:Int)) (bj prog 123 #[.slice a b c,.int .i64 d,.int .i64 e,.func (.func 47) #[.pointer g] #[]] w fun n o=>n=.tuple #[]/\Q .ret [(0,.slice a b c),(1,.int .i64 d),(2,.int .i64 e),(3,.int .i64 f),(4,.func (.func 47) #[.pointer g] #[]),(10,.bool i),(11,.bool j),(12,.int .i64 (i64.wrap (e-d)))] o) (Split (!i) (bj prog 124 #[.slice a b c,.int .i64 d,.int .i64 e,.func (.func 47) #[.pointer g] #[]] w fun p q=>p=.tuple #[]/\Holds none [] prog 148 (sR (sR (sR (sR (bB (lB (bB (sR (sR (body f105)))))))))) (aL 1 ax.u1 Q) [(0,.slice a b c),(1,.int .i64 d),(2,.int .i64 e),(3,.int .i64 (i64.wrap (f-(1:Int)))),(4,.func (.func 47) #[.pointer g] #[]),(10,.bool i),(11,.bool j),(12,.int .i64 (i64.wrap (e-d)))] q) (Holds none [] prog 148 (sR (sR (sR (sR (bB (lB (bB (sR (sR (body f105)))))))))) (aL 1 ax.u1 Q) [(0,.slice a b c),(1,.int .i64 d),(2,.int .i64 e),(3,.int .i64 f),(4,.func (.func 47) #[.pointer g] #[]),(10,.bool i),(11,.bool j),(12,.int .i64 (i64.wrap (e-d)))] w)))
theorem ax.b1:(aU none [] prog 148 ax.k (lB (bB (sR (sR (body f105))))) ax.u1 Q [(0,.slice a b c),(1,.int .i64 d),(2,.int .i64 e),(3,.int .i64 f),(4,.func (.func 47) #[.pointer g] #[]),(10,.bool i),(11,.bool j)] w)=ax.B1 a b c d e f g i j Q w:=by kernel_rfl
variable{a b c g}
theorem ax.b6(I:Int×Int×Int×Bool×Bool->World->Prop)(μ:Int×Int×Int×Bool×Bool->World->Nat)(s:Int×Int×Int×Bool×Bool){Q:aM}{w:World}(h0:I s w)
 (round:∀s w,I s w->ax.B1 a b c (s.1) (s.2.1) (s.2.2.1) g (s.2.2.2.1) (s.2.2.2.2) (bH (ax.e1 a b c g) I μ s w Q) w):Holds none [] prog 148 (.loop (lB (bB (sR (sR (body f105)))))) Q (ax.e1 a b c g s) w:=
 ba ng mix (ax.e1 a b c g) I μ ax.k ax.u1 s (fun s Q w=>ax.B1 a b c (s.1) (s.2.1) (s.2.2.1) g (s.2.2.2.1) (s.2.2.2.2) Q w) (fun s Q w=>ax.b1 a b c (s.1) (s.2.1) (s.2.2.1) g (s.2.2.2.1) (s.2.2.2.2) Q w) h0 round
end
section
variable(a:OA)(b c:Nat)(d e f:Int)(g:OA)(i j:Bool)(k:Int)(Q:aM)(w:World)
def ax.J1:Prop:=
 bj prog 125 #[.slice a b c,.int .i64 d,.int .i64 e,.func (.func 47) #[.pointer g] #[]] w fun m n=>∃o p:Int,m=.tuple #[.int .i64 o,.int .i64 p]/\Holds none [] prog 148 (sR (sR (sR (sR (sR (bB (lB (bB (sR (sR (body f105))))))))))) (aL 1 ax.u1 Q) [(0,.slice a b c),(1,.int .i64 d),(2,.int .i64 e),(3,.int .i64 f),(4,.func (.func 47) #[.pointer g] #[]),(10,.bool i),(11,.bool j),(12,.int .i64 k),(13,.int .i64 o),(14,.int .i64 p)] n
theorem ax.j1:(aU none [] prog 148 ax.k (sR (sR (sR (sR (bB (lB (bB (sR (sR (body f105)))))))))) ax.u1 (aL 1 ax.u1 Q) [(0,.slice a b c),(1,.int .i64 d),(2,.int .i64 e),(3,.int .i64 f),(4,.func (.func 47) #[.pointer g] #[]),(10,.bool i),(11,.bool j),(12,.int .i64 k)] w)=ax.J1 a b c d e f g i j k Q w:=by kernel_rfl
variable{a b c d e f g i j k Q w}
theorem ax.ox(h:ax.J1 a b c d e f g i j k Q w):Holds none [] prog 148 (sR (sR (sR (sR (bB (lB (bB (sR (sR (body f105)))))))))) (aL 1 ax.u1 Q) [(0,.slice a b c),(1,.int .i64 d),(2,.int .i64 e),(3,.int .i64 f),(4,.func (.func 47) #[.pointer g] #[]),(10,.bool i),(11,.bool j),(12,.int .i64 k)] w:=
 cK (C:=ax.k) ng mix (ax.j1 a b c d e f g i j k Q w) h
end
section
variable(a:OA)(b c:Nat)(d e f:Int)(g:OA)(i j:Bool)(k m n:Int)(Q:aM)(w:World)
def ax.J2:Prop:=
 Split (n==(2:Int)) (bj prog 126 #[.slice a b c,.int .i64 d,.int .i64 e,.func (.func 47) #[.pointer g] #[]] w fun o p=>o=.tuple #[]/\Holds none [] prog 148 (sR (cT (sR (sL (sR (sR (sR (sR (sR (bB (lB (bB (sR (sR (body f105))))))))))))))) (bQ (fun bV w_=>match cutAt ax.k (sR (sR (sR (sR (sR (sR (bB (lB (bB (sR (sR (body f105))))))))))))with|true=>Holds none [] prog 148 (sR (sR (sR (sR (sR (sR (bB (lB (bB (sR (sR (body f105)))))))))))) (aL 1 ax.u1 Q) bV w_|false=>aU none [] prog 148 ax.k (sR (sR (sR (sR (sR (sR (bB (lB (bB (sR (sR (body f105)))))))))))) ax.u1 (aL 1 ax.u1 Q) bV w_) (aL 1 ax.u1 Q)) [(0,.slice a b c),(1,.int .i64 d),(2,.int .i64 e),(3,.int .i64 f),(4,.func (.func 47) #[.pointer g] #[]),(10,.bool i),(11,.bool j),(12,.int .i64 k),(13,.int .i64 m),(14,.int .i64 n)] p) (Holds none [] prog 148 (sR (sR (sR (sR (sR (sR (bB (lB (bB (sR (sR (body f105)))))))))))) (aL 1 ax.u1 Q) [(0,.slice a b c),(1,.int .i64 d),(2,.int .i64 e),(3,.int .i64 f),(4,.func (.func 47) #[.pointer g] #[]),(10,.bool i),(11,.bool j),(12,.int .i64 k),(13,.int .i64 m),(14,.int .i64 n)] w)
theorem ax.j2:(aU none [] prog 148 ax.k (sR (sR (sR (sR (sR (bB (lB (bB (sR (sR (body f105))))))))))) ax.u1 (aL 1 ax.u1 Q) [(0,.slice a b c),(1,.int .i64 d),(2,.int .i64 e),(3,.int .i64 f),(4,.func (.func 47) #[.pointer g] #[]),(10,.bool i),(11,.bool j),(12,.int .i64 k),(13,.int .i64 m),(14,.int .i64 n)] w)=ax.J2 a b c d e f g i j k m n Q w:=by kernel_rfl
variable{a b c d e f g i j k m n Q w}
theorem ax.qj(h:ax.J2 a b c d e f g i j k m n Q w):Holds none [] prog 148 (sR (sR (sR (sR (sR (bB (lB (bB (sR (sR (body f105))))))))))) (aL 1 ax.u1 Q) [(0,.slice a b c),(1,.int .i64 d),(2,.int .i64 e),(3,.int .i64 f),(4,.func (.func 47) #[.pointer g] #[]),(10,.bool i),(11,.bool j),(12,.int .i64 k),(13,.int .i64 m),(14,.int .i64 n)] w:=
 cK (C:=ax.k) ng mix (ax.j2 a b c d e f g i j k m n Q w) h
end
section
variable(a:OA)(b c:Nat)(d e f:Int)(g:OA)(i j:Bool)(k m n:Int)(Q:aM)(w:World)
def ax.J3:Prop:=
 Holds none [] prog 148 (sR (sR (cT (sR (sL (sR (sR (sR (sR (sR (bB (lB (bB (sR (sR (body f105)))))))))))))))) (bQ (fun bV w_=>match cutAt ax.k (sR (sR (sR (sR (sR (sR (bB (lB (bB (sR (sR (body f105))))))))))))with|true=>Holds none [] prog 148 (sR (sR (sR (sR (sR (sR (bB (lB (bB (sR (sR (body f105)))))))))))) (aL 1 ax.u1 Q) bV w_|false=>aU none [] prog 148 ax.k (sR (sR (sR (sR (sR (sR (bB (lB (bB (sR (sR (body f105)))))))))))) ax.u1 (aL 1 ax.u1 Q) bV w_) (aL 1 ax.u1 Q)) [(0,.slice a b c),(1,.int .i64 d),(2,.int .i64 e),(3,.int .i64 f),(4,.func (.func 47) #[.pointer g] #[]),(10,.bool i),(11,.bool j),(12,.int .i64 k),(13,.int .i64 (i64.wrap ((i64.wrap (e-(1:Int)))-(i64.wrap (m-d))))),(14,.int .i64 n)] w
theorem ax.j3:(aU none [] prog 148 ax.k (sR (cT (sR (sL (sR (sR (sR (sR (sR (bB (lB (bB (sR (sR (body f105))))))))))))))) (b7 (sR (sR (sR (sR (sR (sR (bB (lB (bB (sR (sR (body f105))))))))))))++ax.u1) (bQ (fun bV w_=>match cutAt ax.k (sR (sR (sR (sR (sR (sR (bB (lB (bB (sR (sR (body f105))))))))))))with|true=>Holds none [] prog 148 (sR (sR (sR (sR (sR (sR (bB (lB (bB (sR (sR (body f105)))))))))))) (aL 1 ax.u1 Q) bV w_|false=>aU none [] prog 148 ax.k (sR (sR (sR (sR (sR (sR (bB (lB (bB (sR (sR (body f105)))))))))))) ax.u1 (aL 1 ax.u1 Q) bV w_) (aL 1 ax.u1 Q)) [(0,.slice a b c),(1,.int .i64 d),(2,.int .i64 e),(3,.int .i64 f),(4,.func (.func 47) #[.pointer g] #[]),(10,.bool i),(11,.bool j),(12,.int .i64 k),(13,.int .i64 m),(14,.int .i64 n)] w)=ax.J3 a b c d e f g i j k m n Q w:=by kernel_rfl
variable{a b c d e f g i j k m n Q w}
theorem ax.U4(h:ax.J3 a b c d e f g i j k m n Q w):Holds none [] prog 148 (sR (cT (sR (sL (sR (sR (sR (sR (sR (bB (lB (bB (sR (sR (body f105))))))))))))))) (bQ (fun bV w_=>match cutAt ax.k (sR (sR (sR (sR (sR (sR (bB (lB (bB (sR (sR (body f105))))))))))))with|true=>Holds none [] prog 148 (sR (sR (sR (sR (sR (sR (bB (lB (bB (sR (sR (body f105)))))))))))) (aL 1 ax.u1 Q) bV w_|false=>aU none [] prog 148 ax.k (sR (sR (sR (sR (sR (sR (bB (lB (bB (sR (sR (body f105)))))))))))) ax.u1 (aL 1 ax.u1 Q) bV w_) (aL 1 ax.u1 Q)) [(0,.slice a b c),(1,.int .i64 d),(2,.int .i64 e),(3,.int .i64 f),(4,.func (.func 47) #[.pointer g] #[]),(10,.bool i),(11,.bool j),(12,.int .i64 k),(13,.int .i64 m),(14,.int .i64 n)] w:=
 cK (C:=ax.k) ng mix (ax.j3 a b c d e f g i j k m n Q w) h
end
section
variable(a:OA)(b c:Nat)(d e f:Int)(g:OA)(i j:Bool)(k m n:Int)(Q:aM)(w:World)
def ax.J4:Prop:=
 Split i (Split j (Split (n==(1:Int)) (bj prog 127 #[.slice a b c,.int .i64 d,.int .i64 e,.func (.func 47) #[.pointer g] #[]] w fun o p=>∃q:Bool,o=.bool q/\Split q (Q .ret [(0,.slice a b c),(1,.int .i64 d),(2,.int .i64 e),(3,.int .i64 f),(4,.func (.func 47) #[.pointer g] #[]),(10,.bool i),(11,.bool j),(12,.int .i64 k),(13,.int .i64 m)] p) (Holds none [] prog 148 (sR (sR (sR (sR (sR (sR (sR (bB (lB (bB (sR (sR (body f105))))))))))))) (aL 1 ax.u1 Q) [(0,.slice a b c),(1,.int .i64 d),(2,.int .i64 e),(3,.int .i64 f),(4,.func (.func 47) #[.pointer g] #[]),(10,.bool i),(11,.bool j),(12,.int .i64 k),(13,.int .i64 m)] p)) (Holds none [] prog 148 (sR (sR (sR (sR (sR (sR (sR (bB (lB (bB (sR (sR (body f105))))))))))))) (aL 1 ax.u1 Q) [(0,.slice a b c),(1,.int .i64 d),(2,.int .i64 e),(3,.int .i64 f),(4,.func (.func 47) #[.pointer g] #[]),(10,.bool i),(11,.bool j),(12,.int .i64 k),(13,.int .i64 m)] w)) (Holds none [] prog 148 (sR (sR (sR (sR (sR (sR (sR (bB (lB (bB (sR (sR (body f105))))))))))))) (aL 1 ax.u1 Q) [(0,.slice a b c),(1,.int .i64 d),(2,.int .i64 e),(3,.int .i64 f),(4,.func (.func 47) #[.pointer g] #[]),(10,.bool i),(11,.bool j),(12,.int .i64 k),(13,.int .i64 m)] w)) (Holds none [] prog 148 (sR (sR (sR (sR (sR (sR (sR (bB (lB (bB (sR (sR (body f105))))))))))))) (aL 1 ax.u1 Q) [(0,.slice a b c),(1,.int .i64 d),(2,.int .i64 e),(3,.int .i64 f),(4,.func (.func 47) #[.pointer g] #[]),(10,.bool i),(11,.bool j),(12,.int .i64 k),(13,.int .i64 m)] w)
theorem ax.j4:(aU none [] prog 148 ax.k (sR (sR (sR (sR (sR (sR (bB (lB (bB (sR (sR (body f105)))))))))))) ax.u1 (aL 1 ax.u1 Q) [(0,.slice a b c),(1,.int .i64 d),(2,.int .i64 e),(3,.int .i64 f),(4,.func (.func 47) #[.pointer g] #[]),(10,.bool i),(11,.bool j),(12,.int .i64 k),(13,.int .i64 m),(14,.int .i64 n)] w)=ax.J4 a b c d e f g i j k m n Q w:=by kernel_rfl
variable{a b c d e f g i j k m n Q w}
theorem ax.NU(h:ax.J4 a b c d e f g i j k m n Q w):Holds none [] prog 148 (sR (sR (sR (sR (sR (sR (bB (lB (bB (sR (sR (body f105)))))))))))) (aL 1 ax.u1 Q) [(0,.slice a b c),(1,.int .i64 d),(2,.int .i64 e),(3,.int .i64 f),(4,.func (.func 47) #[.pointer g] #[]),(10,.bool i),(11,.bool j),(12,.int .i64 k),(13,.int .i64 m),(14,.int .i64 n)] w:=
 cK (C:=ax.k) ng mix (ax.j4 a b c d e f g i j k m n Q w) h
end
section
def ax.J5(a:OA)(b c:Nat)(d e f:Int)(g:OA)(i j:Bool)(k m n:Int)(Q:aM)(w:World):Prop:=
 Holds none [] prog 148 (sR (sR (sR (sR (sR (sR (bB (lB (bB (sR (sR (body f105)))))))))))) (aL 1 ax.u1 Q) [(0,.slice a b c),(1,.int .i64 d),(2,.int .i64 e),(3,.int .i64 f),(4,.func (.func 47) #[.pointer g] #[]),(10,.bool i),(11,.bool j),(12,.int .i64 k),(13,.int .i64 m),(14,.int .i64 1)] w
variable(a:OA)(b c:Nat)(d e f:Int)(g:OA)(i j:Bool)(k m n:Int)(Q:aM)(w:World)
theorem ax.j5:(aU none [] prog 148 ax.k (sR (sR (cT (sR (sL (sR (sR (sR (sR (sR (bB (lB (bB (sR (sR (body f105)))))))))))))))) (b7 (sR (sR (sR (sR (sR (sR (bB (lB (bB (sR (sR (body f105))))))))))))++ax.u1) (bQ (fun bV w_=>match cutAt ax.k (sR (sR (sR (sR (sR (sR (bB (lB (bB (sR (sR (body f105))))))))))))with|true=>Holds none [] prog 148 (sR (sR (sR (sR (sR (sR (bB (lB (bB (sR (sR (body f105)))))))))))) (aL 1 ax.u1 Q) bV w_|false=>aU none [] prog 148 ax.k (sR (sR (sR (sR (sR (sR (bB (lB (bB (sR (sR (body f105)))))))))))) ax.u1 (aL 1 ax.u1 Q) bV w_) (aL 1 ax.u1 Q)) [(0,.slice a b c),(1,.int .i64 d),(2,.int .i64 e),(3,.int .i64 f),(4,.func (.func 47) #[.pointer g] #[]),(10,.bool i),(11,.bool j),(12,.int .i64 k),(13,.int .i64 m),(14,.int .i64 n)] w)=ax.J5 a b c d e f g i j k m n Q w:=by kernel_rfl
variable{a b c d e f g i j k m n Q w}
theorem ax.U3(h:ax.J5 a b c d e f g i j k m n Q w):Holds none [] prog 148 (sR (sR (cT (sR (sL (sR (sR (sR (sR (sR (bB (lB (bB (sR (sR (body f105)))))))))))))))) (bQ (fun bV w_=>match cutAt ax.k (sR (sR (sR (sR (sR (sR (bB (lB (bB (sR (sR (body f105))))))))))))with|true=>Holds none [] prog 148 (sR (sR (sR (sR (sR (sR (bB (lB (bB (sR (sR (body f105)))))))))))) (aL 1 ax.u1 Q) bV w_|false=>aU none [] prog 148 ax.k (sR (sR (sR (sR (sR (sR (bB (lB (bB (sR (sR (body f105)))))))))))) ax.u1 (aL 1 ax.u1 Q) bV w_) (aL 1 ax.u1 Q)) [(0,.slice a b c),(1,.int .i64 d),(2,.int .i64 e),(3,.int .i64 f),(4,.func (.func 47) #[.pointer g] #[]),(10,.bool i),(11,.bool j),(12,.int .i64 k),(13,.int .i64 m),(14,.int .i64 n)] w:=
 cK (C:=ax.k) ng mix (ax.j5 a b c d e f g i j k m n Q w) h
end
section
variable(a:OA)(b c:Nat)(d e f:Int)(g:OA)(i j:Bool)(k m:Int)(Q:aM)(w:World)
def ax.J6:Prop:=
 let n:=w.drew;Split (decide (d>(0:Int))) ((0<=(i64.wrap (d-(1:Int)))/\(i64.wrap (d-(1:Int)))<(b:Int))/\Is a fun o:Addr=>∃p:AV,(p.size=32/\Cells n (o.add ((i64.wrap (d-(1:Int))).toNat*32)) p)/\(0<=m/\m<(b:Int))/\Is a fun q:Addr=>∃r:AV,(r.size=32/\Cells n (q.add (m.toNat*32)) r)/\bj prog 47 #[.pointer g,.agg p,.agg r] n fun t u=>∃v:Int,t=.int .i64 v/\Split (!(decide (v<(0:Int)))) (bj prog 128 #[.slice a b c,.int .i64 d,.int .i64 e,.int .i64 m,.func (.func 47) #[.pointer g] #[]] u fun x y=>∃z:Int,x=.int .i64 z/\Q .normal [(0,.slice a b c),(1,.int .i64 z),(2,.int .i64 e),(3,.int .i64 f),(4,.func (.func 47) #[.pointer g] #[]),(10,.bool i),(11,.bool j)] y) (Holds none [] prog 148 (sR (sR (sR (sR (sR (sR (sR (sR (bB (lB (bB (sR (sR (body f105)))))))))))))) (aL 1 ax.u1 Q) [(0,.slice a b c),(1,.int .i64 d),(2,.int .i64 e),(3,.int .i64 f),(4,.func (.func 47) #[.pointer g] #[]),(10,.bool i),(11,.bool j),(12,.int .i64 k),(13,.int .i64 m)] u)) (Holds none [] prog 148 (sR (sR (sR (sR (sR (sR (sR (sR (bB (lB (bB (sR (sR (body f105)))))))))))))) (aL 1 ax.u1 Q) [(0,.slice a b c),(1,.int .i64 d),(2,.int .i64 e),(3,.int .i64 f),(4,.func (.func 47) #[.pointer g] #[]),(10,.bool i),(11,.bool j),(12,.int .i64 k),(13,.int .i64 m)] n)
theorem ax.j6:(aU none [] prog 148 ax.k (sR (sR (sR (sR (sR (sR (sR (bB (lB (bB (sR (sR (body f105))))))))))))) ax.u1 (aL 1 ax.u1 Q) [(0,.slice a b c),(1,.int .i64 d),(2,.int .i64 e),(3,.int .i64 f),(4,.func (.func 47) #[.pointer g] #[]),(10,.bool i),(11,.bool j),(12,.int .i64 k),(13,.int .i64 m)] w)=ax.J6 a b c d e f g i j k m Q w:=by kernel_rfl
variable{a b c d e f g i j k m Q w}
theorem ax.NT(h:ax.J6 a b c d e f g i j k m Q w):Holds none [] prog 148 (sR (sR (sR (sR (sR (sR (sR (bB (lB (bB (sR (sR (body f105))))))))))))) (aL 1 ax.u1 Q) [(0,.slice a b c),(1,.int .i64 d),(2,.int .i64 e),(3,.int .i64 f),(4,.func (.func 47) #[.pointer g] #[]),(10,.bool i),(11,.bool j),(12,.int .i64 k),(13,.int .i64 m)] w:=
 cK (C:=ax.k) ng mix (ax.j6 a b c d e f g i j k m Q w) h
end
section
variable(a:OA)(b c:Nat)(d e f:Int)(g:OA)(i j:Bool)(k m:Int)(Q:aM)(w:World)
def ax.J7:Prop:=
 bj prog 129 #[.slice a b c,.int .i64 d,.int .i64 e,.int .i64 m,.func (.func 47) #[.pointer g] #[]] w fun n o=>∃p:Int,∃q:Bool,n=.tuple #[.int .i64 p,.bool q]/\Holds none [] prog 148 (sR (sR (sR (sR (sR (sR (sR (sR (sR (bB (lB (bB (sR (sR (body f105))))))))))))))) (aL 1 ax.u1 Q) [(0,.slice a b c),(1,.int .i64 d),(2,.int .i64 e),(3,.int .i64 f),(4,.func (.func 47) #[.pointer g] #[]),(10,.bool i),(11,.bool j),(12,.int .i64 k),(16,.int .i64 p),(17,.bool q)] o
theorem ax.j7:(aU none [] prog 148 ax.k (sR (sR (sR (sR (sR (sR (sR (sR (bB (lB (bB (sR (sR (body f105)))))))))))))) ax.u1 (aL 1 ax.u1 Q) [(0,.slice a b c),(1,.int .i64 d),(2,.int .i64 e),(3,.int .i64 f),(4,.func (.func 47) #[.pointer g] #[]),(10,.bool i),(11,.bool j),(12,.int .i64 k),(13,.int .i64 m)] w)=ax.J7 a b c d e f g i j k m Q w:=by kernel_rfl
variable{a b c d e f g i j k m Q w}
theorem ax.NR(h:ax.J7 a b c d e f g i j k m Q w):Holds none [] prog 148 (sR (sR (sR (sR (sR (sR (sR (sR (bB (lB (bB (sR (sR (body f105)))))))))))))) (aL 1 ax.u1 Q) [(0,.slice a b c),(1,.int .i64 d),(2,.int .i64 e),(3,.int .i64 f),(4,.func (.func 47) #[.pointer g] #[]),(10,.bool i),(11,.bool j),(12,.int .i64 k),(13,.int .i64 m)] w:=
 cK (C:=ax.k) ng mix (ax.j7 a b c d e f g i j k m Q w) h
end
section
def ax.J8(a:OA)(b c:Nat)(d e f:Int)(g:OA)(i j:Bool)(k m:Int)(n:Bool)(Q:aM)(w:World):Prop:=
 Holds none [] prog 148 (sR (sR (sR (sR (sR (sR (sR (sR (sR (sR (bB (lB (bB (sR (sR (body f105)))))))))))))))) (aL 1 ax.u1 Q) [(0,.slice a b c),(1,.int .i64 d),(2,.int .i64 e),(3,.int .i64 f),(4,.func (.func 47) #[.pointer g] #[]),(10,.bool i),(11,.bool n),(12,.int .i64 k),(16,.int .i64 m)] w
variable(a:OA)(b c:Nat)(d e f:Int)(g:OA)(i j:Bool)(k m:Int)(n:Bool)(Q:aM)(w:World)
theorem ax.j8:(aU none [] prog 148 ax.k (sR (sR (sR (sR (sR (sR (sR (sR (sR (bB (lB (bB (sR (sR (body f105))))))))))))))) ax.u1 (aL 1 ax.u1 Q) [(0,.slice a b c),(1,.int .i64 d),(2,.int .i64 e),(3,.int .i64 f),(4,.func (.func 47) #[.pointer g] #[]),(10,.bool i),(11,.bool j),(12,.int .i64 k),(16,.int .i64 m),(17,.bool n)] w)=ax.J8 a b c d e f g i j k m n Q w:=by kernel_rfl
variable{a b c d e f g i j k m n Q w}
theorem ax.U2(h:ax.J8 a b c d e f g i j k m n Q w):Holds none [] prog 148 (sR (sR (sR (sR (sR (sR (sR (sR (sR (bB (lB (bB (sR (sR (body f105))))))))))))))) (aL 1 ax.u1 Q) [(0,.slice a b c),(1,.int .i64 d),(2,.int .i64 e),(3,.int .i64 f),(4,.func (.func 47) #[.pointer g] #[]),(10,.bool i),(11,.bool j),(12,.int .i64 k),(16,.int .i64 m),(17,.bool n)] w:=
 cK (C:=ax.k) ng mix (ax.j8 a b c d e f g i j k m n Q w) h
end
section
variable(a:OA)(b c:Nat)(d e f:Int)(g:OA)(i j:Bool)(k m:Int)(Q:aM)(w:World)
def ax.J9:Prop:=
 Holds none [] prog 148 (sR (sR (sR (sR (sR (sR (sR (sR (sR (sR (sR (bB (lB (bB (sR (sR (body f105))))))))))))))))) (aL 1 ax.u1 Q) [(0,.slice a b c),(1,.int .i64 d),(2,.int .i64 e),(3,.int .i64 f),(4,.func (.func 47) #[.pointer g] #[]),(10,.bool i),(11,.bool j),(12,.int .i64 k),(16,.int .i64 m),(18,.int .i64 (i64.wrap (m-d))),(19,.int .i64 (i64.wrap (e-m)))] w
theorem ax.j9:(aU none [] prog 148 ax.k (sR (sR (sR (sR (sR (sR (sR (sR (sR (sR (bB (lB (bB (sR (sR (body f105)))))))))))))))) ax.u1 (aL 1 ax.u1 Q) [(0,.slice a b c),(1,.int .i64 d),(2,.int .i64 e),(3,.int .i64 f),(4,.func (.func 47) #[.pointer g] #[]),(10,.bool i),(11,.bool j),(12,.int .i64 k),(16,.int .i64 m)] w)=ax.J9 a b c d e f g i j k m Q w:=by kernel_rfl
variable{a b c d e f g i j k m Q w}
theorem ax.U1(h:ax.J9 a b c d e f g i j k m Q w):Holds none [] prog 148 (sR (sR (sR (sR (sR (sR (sR (sR (sR (sR (bB (lB (bB (sR (sR (body f105)))))))))))))))) (aL 1 ax.u1 Q) [(0,.slice a b c),(1,.int .i64 d),(2,.int .i64 e),(3,.int .i64 f),(4,.func (.func 47) #[.pointer g] #[]),(10,.bool i),(11,.bool j),(12,.int .i64 k),(16,.int .i64 m)] w:=
 cK (C:=ax.k) ng mix (ax.j9 a b c d e f g i j k m Q w) h
end
section
variable(a:OA)(b c:Nat)(d e f:Int)(g:OA)(i j:Bool)(k m n o:Int)(Q:aM)(w:World)
def ax.J10:Prop:=
 (8:Int)≠0/\Holds none [] prog 148 (sR (sR (sR (sR (sR (sR (sR (sR (sR (sR (sR (sR (bB (lB (bB (sR (sR (body f105)))))))))))))))))) (aL 1 ax.u1 Q) [(0,.slice a b c),(1,.int .i64 d),(2,.int .i64 e),(3,.int .i64 f),(4,.func (.func 47) #[.pointer g] #[]),(10,.bool i),(11,.bool j),(16,.int .i64 m),(18,.int .i64 n),(19,.int .i64 o),(20,.int .i64 (i64.wrap (k.tdiv (8:Int))))] w
theorem ax.j10:(aU none [] prog 148 ax.k (sR (sR (sR (sR (sR (sR (sR (sR (sR (sR (sR (bB (lB (bB (sR (sR (body f105))))))))))))))))) ax.u1 (aL 1 ax.u1 Q) [(0,.slice a b c),(1,.int .i64 d),(2,.int .i64 e),(3,.int .i64 f),(4,.func (.func 47) #[.pointer g] #[]),(10,.bool i),(11,.bool j),(12,.int .i64 k),(16,.int .i64 m),(18,.int .i64 n),(19,.int .i64 o)] w)=ax.J10 a b c d e f g i j k m n o Q w:=by kernel_rfl
variable{a b c d e f g i j k m n o Q w}
theorem ax.Qp(h:ax.J10 a b c d e f g i j k m n o Q w):Holds none [] prog 148 (sR (sR (sR (sR (sR (sR (sR (sR (sR (sR (sR (bB (lB (bB (sR (sR (body f105))))))))))))))))) (aL 1 ax.u1 Q) [(0,.slice a b c),(1,.int .i64 d),(2,.int .i64 e),(3,.int .i64 f),(4,.func (.func 47) #[.pointer g] #[]),(10,.bool i),(11,.bool j),(12,.int .i64 k),(16,.int .i64 m),(18,.int .i64 n),(19,.int .i64 o)] w:=
 cK (C:=ax.k) ng mix (ax.j10 a b c d e f g i j k m n o Q w) h
end
section
def ax.J11(a:OA)(b c:Nat)(d e f:Int)(g:OA)(i j:Bool)(k m n o:Int)(Q:aM)(w:World):Prop:=
 Split (decide (m<n)) (Holds none [] prog 148 (sR (cT (sR (sR (sR (sR (sR (sR (sR (sR (sR (sR (sR (sR (sR (bB (lB (bB (sR (sR (body f105))))))))))))))))))))) (aL 1 ax.u1 Q) [(0,.slice a b c),(1,.int .i64 d),(2,.int .i64 e),(3,.int .i64 f),(4,.func (.func 47) #[.pointer g] #[]),(10,.bool (decide (m>=o))),(11,.bool j),(16,.int .i64 k)] w) (Holds none [] prog 148 (sR (cE (sR (sR (sR (sR (sR (sR (sR (sR (sR (sR (sR (sR (sR (bB (lB (bB (sR (sR (body f105))))))))))))))))))))) (aL 1 ax.u1 Q) [(0,.slice a b c),(1,.int .i64 d),(2,.int .i64 e),(3,.int .i64 f),(4,.func (.func 47) #[.pointer g] #[]),(10,.bool (decide (n>=o))),(11,.bool j),(16,.int .i64 k)] w)
variable(a:OA)(b c:Nat)(d e f:Int)(g:OA)(i j:Bool)(k m n o:Int)(Q:aM)(w:World)
theorem ax.j11:(aU none [] prog 148 ax.k (sR (sR (sR (sR (sR (sR (sR (sR (sR (sR (sR (sR (bB (lB (bB (sR (sR (body f105)))))))))))))))))) ax.u1 (aL 1 ax.u1 Q) [(0,.slice a b c),(1,.int .i64 d),(2,.int .i64 e),(3,.int .i64 f),(4,.func (.func 47) #[.pointer g] #[]),(10,.bool i),(11,.bool j),(16,.int .i64 k),(18,.int .i64 m),(19,.int .i64 n),(20,.int .i64 o)] w)=ax.J11 a b c d e f g i j k m n o Q w:=by kernel_rfl
variable{a b c d e f g i j k m n o Q w}
theorem ax.Qn(h:ax.J11 a b c d e f g i j k m n o Q w):Holds none [] prog 148 (sR (sR (sR (sR (sR (sR (sR (sR (sR (sR (sR (sR (bB (lB (bB (sR (sR (body f105)))))))))))))))))) (aL 1 ax.u1 Q) [(0,.slice a b c),(1,.int .i64 d),(2,.int .i64 e),(3,.int .i64 f),(4,.func (.func 47) #[.pointer g] #[]),(10,.bool i),(11,.bool j),(16,.int .i64 k),(18,.int .i64 m),(19,.int .i64 n),(20,.int .i64 o)] w:=
 cK (C:=ax.k) ng mix (ax.j11 a b c d e f g i j k m n o Q w) h
end
section
variable(a:OA)(b c:Nat)(d e f:Int)(g:OA)(i j:Bool)(k:Int)(Q:aM)(w:World)
def ax.J12:Prop:=
 bj prog 105 #[.slice a b c,.int .i64 d,.int .i64 k,.int .i64 f,.func (.func 47) #[.pointer g] #[]] w fun m n=>m=.tuple #[]/\Holds none [] prog 148 (sR (sR (cT (sR (sR (sR (sR (sR (sR (sR (sR (sR (sR (sR (sR (sR (bB (lB (bB (sR (sR (body f105)))))))))))))))))))))) (aL 1 ax.u1 Q) [(0,.slice a b c),(1,.int .i64 d),(2,.int .i64 e),(3,.int .i64 f),(4,.func (.func 47) #[.pointer g] #[]),(10,.bool i),(11,.bool j),(16,.int .i64 k)] n
theorem ax.j12:(aU none [] prog 148 ax.k (sR (cT (sR (sR (sR (sR (sR (sR (sR (sR (sR (sR (sR (sR (sR (bB (lB (bB (sR (sR (body f105))))))))))))))))))))) ax.u1 (aL 1 ax.u1 Q) [(0,.slice a b c),(1,.int .i64 d),(2,.int .i64 e),(3,.int .i64 f),(4,.func (.func 47) #[.pointer g] #[]),(10,.bool i),(11,.bool j),(16,.int .i64 k)] w)=ax.J12 a b c d e f g i j k Q w:=by kernel_rfl
variable{a b c d e f g i j k Q w}
theorem ax.Qm(h:ax.J12 a b c d e f g i j k Q w):Holds none [] prog 148 (sR (cT (sR (sR (sR (sR (sR (sR (sR (sR (sR (sR (sR (sR (sR (bB (lB (bB (sR (sR (body f105))))))))))))))))))))) (aL 1 ax.u1 Q) [(0,.slice a b c),(1,.int .i64 d),(2,.int .i64 e),(3,.int .i64 f),(4,.func (.func 47) #[.pointer g] #[]),(10,.bool i),(11,.bool j),(16,.int .i64 k)] w:=
 cK (C:=ax.k) ng mix (ax.j12 a b c d e f g i j k Q w) h
end
section
variable(a:OA)(b c:Nat)(d e f:Int)(g:OA)(i j:Bool)(k:Int)(Q:aM)(w:World)
def ax.J13:Prop:=
 bj prog 105 #[.slice a b c,.int .i64 (i64.wrap (k+(1:Int))),.int .i64 e,.int .i64 f,.func (.func 47) #[.pointer g] #[]] w fun m n=>m=.tuple #[]/\Holds none [] prog 148 (sR (sR (cE (sR (sR (sR (sR (sR (sR (sR (sR (sR (sR (sR (sR (sR (bB (lB (bB (sR (sR (body f105)))))))))))))))))))))) (aL 1 ax.u1 Q) [(0,.slice a b c),(1,.int .i64 d),(2,.int .i64 e),(3,.int .i64 f),(4,.func (.func 47) #[.pointer g] #[]),(10,.bool i),(11,.bool j),(16,.int .i64 k)] n
theorem ax.j13:(aU none [] prog 148 ax.k (sR (cE (sR (sR (sR (sR (sR (sR (sR (sR (sR (sR (sR (sR (sR (bB (lB (bB (sR (sR (body f105))))))))))))))))))))) ax.u1 (aL 1 ax.u1 Q) [(0,.slice a b c),(1,.int .i64 d),(2,.int .i64 e),(3,.int .i64 f),(4,.func (.func 47) #[.pointer g] #[]),(10,.bool i),(11,.bool j),(16,.int .i64 k)] w)=ax.J13 a b c d e f g i j k Q w:=by kernel_rfl
variable{a b c d e f g i j k Q w}
theorem ax.Ql(h:ax.J13 a b c d e f g i j k Q w):Holds none [] prog 148 (sR (cE (sR (sR (sR (sR (sR (sR (sR (sR (sR (sR (sR (sR (sR (bB (lB (bB (sR (sR (body f105))))))))))))))))))))) (aL 1 ax.u1 Q) [(0,.slice a b c),(1,.int .i64 d),(2,.int .i64 e),(3,.int .i64 f),(4,.func (.func 47) #[.pointer g] #[]),(10,.bool i),(11,.bool j),(16,.int .i64 k)] w:=
 cK (C:=ax.k) ng mix (ax.j13 a b c d e f g i j k Q w) h
end
section
def ax.J14(a:OA)(b c:Nat)(d e f:Int)(g:OA)(i j:Bool)(k:Int)(Q:aM)(w:World):Prop:=
 Q .normal [(0,.slice a b c),(1,.int .i64 (i64.wrap (k+(1:Int)))),(2,.int .i64 e),(3,.int .i64 f),(4,.func (.func 47) #[.pointer g] #[]),(10,.bool i),(11,.bool j)] w
variable(a:OA)(b c:Nat)(d e f:Int)(g:OA)(i j:Bool)(k:Int)(Q:aM)(w:World)
theorem ax.j14:(aU none [] prog 148 ax.k (sR (sR (cT (sR (sR (sR (sR (sR (sR (sR (sR (sR (sR (sR (sR (sR (bB (lB (bB (sR (sR (body f105)))))))))))))))))))))) ax.u1 (aL 1 ax.u1 Q) [(0,.slice a b c),(1,.int .i64 d),(2,.int .i64 e),(3,.int .i64 f),(4,.func (.func 47) #[.pointer g] #[]),(10,.bool i),(11,.bool j),(16,.int .i64 k)] w)=ax.J14 a b c d e f g i j k Q w:=by kernel_rfl
variable{a b c d e f g i j k Q w}
theorem ax.Qk(h:ax.J14 a b c d e f g i j k Q w):Holds none [] prog 148 (sR (sR (cT (sR (sR (sR (sR (sR (sR (sR (sR (sR (sR (sR (sR (sR (bB (lB (bB (sR (sR (body f105)))))))))))))))))))))) (aL 1 ax.u1 Q) [(0,.slice a b c),(1,.int .i64 d),(2,.int .i64 e),(3,.int .i64 f),(4,.func (.func 47) #[.pointer g] #[]),(10,.bool i),(11,.bool j),(16,.int .i64 k)] w:=
 cK (C:=ax.k) ng mix (ax.j14 a b c d e f g i j k Q w) h
end
section
def ax.J15(a:OA)(b c:Nat)(d e f:Int)(g:OA)(i j:Bool)(k:Int)(Q:aM)(w:World):Prop:=
 Q .normal [(0,.slice a b c),(1,.int .i64 d),(2,.int .i64 k),(3,.int .i64 f),(4,.func (.func 47) #[.pointer g] #[]),(10,.bool i),(11,.bool j)] w
variable(a:OA)(b c:Nat)(d e f:Int)(g:OA)(i j:Bool)(k:Int)(Q:aM)(w:World)
theorem ax.j15:(aU none [] prog 148 ax.k (sR (sR (cE (sR (sR (sR (sR (sR (sR (sR (sR (sR (sR (sR (sR (sR (bB (lB (bB (sR (sR (body f105)))))))))))))))))))))) ax.u1 (aL 1 ax.u1 Q) [(0,.slice a b c),(1,.int .i64 d),(2,.int .i64 e),(3,.int .i64 f),(4,.func (.func 47) #[.pointer g] #[]),(10,.bool i),(11,.bool j),(16,.int .i64 k)] w)=ax.J15 a b c d e f g i j k Q w:=by kernel_rfl
variable{a b c d e f g i j k Q w}
theorem ax.Qj(h:ax.J15 a b c d e f g i j k Q w):Holds none [] prog 148 (sR (sR (cE (sR (sR (sR (sR (sR (sR (sR (sR (sR (sR (sR (sR (sR (bB (lB (bB (sR (sR (body f105)))))))))))))))))))))) (aL 1 ax.u1 Q) [(0,.slice a b c),(1,.int .i64 d),(2,.int .i64 e),(3,.int .i64 f),(4,.func (.func 47) #[.pointer g] #[]),(10,.bool i),(11,.bool j),(16,.int .i64 k)] w:=
 cK (C:=ax.k) ng mix (ax.j15 a b c d e f g i j k Q w) h
end
def cg.k:List Nat:= []
def cg.q1(K:KT):aM:=(aL 0 (aN f122) (bI prog f122 K))
def cg.e1(a:OA)(b c:Nat)(d e:Int)(f:OA)(s:Int):Env:= [(0,.slice a b c),(1,.int .i64 d),(2,.int .i64 e),(3,.func (.func 47) #[.pointer f] #[]),(8,.int .i64 s)]
def cg.u1:List Nat:= [0,1,2,3,8]
def cg.q2(Q:aM):aM:=(aL 2 (b7 (sR (sR (lB (bB (sR (body f122))))))++cg.u1) (aL 1 (b7 (sR (sR (lB (bB (sR (body f122))))))++cg.u1) (bQ (fun bV w_=>match cutAt cg.k (sR (sR (lB (bB (sR (body f122))))))with|true=>Holds none [] prog 53 (sR (sR (lB (bB (sR (body f122)))))) Q bV w_|false=>aU none [] prog 53 cg.k (sR (sR (lB (bB (sR (body f122)))))) cg.u1 Q bV w_) Q)))
def cg.e2(a:OA)(b c:Nat)(d e:Int)(f:OA)(g s:Int):Env:= [(0,.slice a b c),(1,.int .i64 d),(2,.int .i64 e),(3,.func (.func 47) #[.pointer f] #[]),(8,.int .i64 g),(9,.int .i64 s)]
def cg.u2:List Nat:= [0,1,2,3,8,9]
section
variable(a:OA)(b d:Nat)(e f:Int)(g:OA)(K:KT)(w:World)
def cg.W:Prop:=
 Holds none [] prog 53 (.loop (lB (bB (sR (body f122))))) (cg.q1 K) [(0,.slice a b d),(1,.int .i64 e),(2,.int .i64 f),(3,.func (.func 47) #[.pointer g] #[]),(8,.int .i64 (i64.wrap (e+(1:Int))))] w
variable{a b d e f g K w}
theorem cg.of(h:cg.W a b d e f g K w):bj prog 122 #[.slice a b d,.int .i64 e,.int .i64 f,.func (.func 47) #[.pointer g] #[]] w K:=
 rqq func122 (C:=cg.k) h
end
section
variable(a:OA)(b c:Nat)(d e:Int)(f:OA)(g:Int)(Q:aM)(w:World)
def cg.B1:Prop:=
 Split (decide (g<e)) (Holds none [] prog 53 (.loop (lB (bB (sR (bB (sL (sR (lB (bB (sR (body f122))))))))))) (cg.q2 Q) [(0,.slice a b c),(1,.int .i64 d),(2,.int .i64 e),(3,.func (.func 47) #[.pointer f] #[]),(8,.int .i64 g),(9,.int .i64 g)] w) (Q (.exit 0) [(0,.slice a b c),(1,.int .i64 d),(2,.int .i64 e),(3,.func (.func 47) #[.pointer f] #[]),(8,.int .i64 g)] w)
theorem cg.b1:(aU none [] prog 53 cg.k (lB (bB (sR (body f122)))) cg.u1 Q [(0,.slice a b c),(1,.int .i64 d),(2,.int .i64 e),(3,.func (.func 47) #[.pointer f] #[]),(8,.int .i64 g)] w)=cg.B1 a b c d e f g Q w:=by kernel_rfl
variable{a b c d e f}
theorem cg.b6(I:Int->World->Prop)(μ:Int->World->Nat)(s:Int){Q:aM}{w:World}(h0:I s w)
 (round:∀s w,I s w->cg.B1 a b c d e f s (bH (cg.e1 a b c d e f) I μ s w Q) w):Holds none [] prog 53 (.loop (lB (bB (sR (body f122))))) Q (cg.e1 a b c d e f s) w:=
 ba ng mix (cg.e1 a b c d e f) I μ cg.k cg.u1 s (fun s Q w=>cg.B1 a b c d e f s Q w) (fun s Q w=>cg.b1 a b c d e f s Q w) h0 round
end
section
def cg.cI(a:OA)(b c:Nat)(d e:Int)(f:OA)(g:Int)(K:KT)(w:World):Prop:=
 K (.tuple #[]) w
variable(a:OA)(b c:Nat)(d e:Int)(f:OA)(g:Int)(K:KT)(w:World)
theorem cg.cX:(cg.q1 K (.exit 0) [(0,.slice a b c),(1,.int .i64 d),(2,.int .i64 e),(3,.func (.func 47) #[.pointer f] #[]),(8,.int .i64 g)] w)=cg.cI a b c d e f g K w:=by kernel_rfl
end
section
variable(a:OA)(b c:Nat)(d e:Int)(f:OA)(g i:Int)(Q:aM)(w:World)
def cg.B2:Prop:=
 let j:=w.drew;Split (decide (i>d)) ((0<=i/\i<(b:Int))/\Is a fun k:Addr=>∃m:AV,(m.size=32/\Cells j (k.add (i.toNat*32)) m)/\(0<=(i64.wrap (i-(1:Int)))/\(i64.wrap (i-(1:Int)))<(b:Int))/\Is a fun n:Addr=>∃o:AV,(o.size=32/\Cells j (n.add ((i64.wrap (i-(1:Int))).toNat*32)) o)/\bj prog 47 #[.pointer f,.agg m,.agg o] j fun p q=>∃r:Int,p=.int .i64 r/\Split (decide (r<(0:Int))) (let t:=q.drew;(0<=(i64.wrap (i-(1:Int)))/\(i64.wrap (i-(1:Int)))<(b:Int))/\Is a fun u:Addr=>∃v:AV,(v.size=32/\Cells t (u.add ((i64.wrap (i-(1:Int))).toNat*32)) v)/\(0<=i/\i<(b:Int))/\Is a fun x:Addr=>∃y:AV,(y.size=32/\Cells t (x.add (i.toNat*32)) y)/\(0<=i/\i<(b:Int))/\Is a fun z:Addr=>(v.size=32/\(∀a1∈v.toList,a1.oneCell'=true)/\∀b1,b1<32->Wr t ((z.add (i.toNat*32)).add b1))/\let c1:=setCells t (z.add (i.toNat*32)) v.toList 0;(0<=(i64.wrap (i-(1:Int)))/\(i64.wrap (i-(1:Int)))<(b:Int))/\Is a fun d1:Addr=>(y.size=32/\(∀e1∈y.toList,e1.oneCell'=true)/\∀f1,f1<32->Wr c1 ((d1.add ((i64.wrap (i-(1:Int))).toNat*32)).add f1))/\let g1:=setCells c1 (d1.add ((i64.wrap (i-(1:Int))).toNat*32)) y.toList 0;Q .normal [(0,.slice a b c),(1,.int .i64 d),(2,.int .i64 e),(3,.func (.func 47) #[.pointer f] #[]),(8,.int .i64 g),(9,.int .i64 (i64.wrap (i-(1:Int))))] g1) (Q (.exit 2) [(0,.slice a b c),(1,.int .i64 d),(2,.int .i64 e),(3,.func (.func 47) #[.pointer f] #[]),(8,.int .i64 g),(9,.int .i64 i)] q)) (Q (.exit 2) [(0,.slice a b c),(1,.int .i64 d),(2,.int .i64 e),(3,.func (.func 47) #[.pointer f] #[]),(8,.int .i64 g),(9,.int .i64 i)] j)
theorem cg.b2:(aU none [] prog 53 cg.k (lB (bB (sR (bB (sL (sR (lB (bB (sR (body f122)))))))))) cg.u2 Q [(0,.slice a b c),(1,.int .i64 d),(2,.int .i64 e),(3,.func (.func 47) #[.pointer f] #[]),(8,.int .i64 g),(9,.int .i64 i)] w)=cg.B2 a b c d e f g i Q w:=by kernel_rfl
variable{a b c d e f g}
theorem cg.gI(I:Int->World->Prop)(μ:Int->World->Nat)(s:Int){Q:aM}{w:World}(h0:I s w)
 (round:∀s w,I s w->cg.B2 a b c d e f g s (bH (cg.e2 a b c d e f g) I μ s w Q) w):Holds none [] prog 53 (.loop (lB (bB (sR (bB (sL (sR (lB (bB (sR (body f122))))))))))) Q (cg.e2 a b c d e f g s) w:=
 ba ng mix (cg.e2 a b c d e f g) I μ cg.k cg.u2 s (fun s Q w=>cg.B2 a b c d e f g s Q w) (fun s Q w=>cg.b2 a b c d e f g s Q w) h0 round
end
section
def cg.iE(a:OA)(b c:Nat)(d e:Int)(f:OA)(g i:Int)(Q:aM)(w:World):Prop:=
 Q .normal [(0,.slice a b c),(1,.int .i64 d),(2,.int .i64 e),(3,.func (.func 47) #[.pointer f] #[]),(8,.int .i64 (i64.wrap (g+(1:Int))))] w
variable(a:OA)(b c:Nat)(d e:Int)(f:OA)(g i:Int)(Q:aM)(w:World)
theorem cg.jJ:(cg.q2 Q (.exit 2) [(0,.slice a b c),(1,.int .i64 d),(2,.int .i64 e),(3,.func (.func 47) #[.pointer f] #[]),(8,.int .i64 g),(9,.int .i64 i)] w)=cg.iE a b c d e f g i Q w:=by kernel_rfl
end
def bX.k:List Nat:= []
def bX.q1(K:KT):aM:=(aL 0 (b7 (sR (sR (sR (sR (body f123)))))++(aN f123)) (bQ (fun bV w_=>match cutAt bX.k (sR (sR (sR (sR (body f123)))))with|true=>Holds none [] prog 60 (sR (sR (sR (sR (body f123))))) (bI prog f123 K) bV w_|false=>aU none [] prog 60 bX.k (sR (sR (sR (sR (body f123))))) (aN f123) (bI prog f123 K) bV w_) (bI prog f123 K)))
def bX.e1(a:OA)(b c:Nat)(d:OA)(e f g s:Int):Env:= [(0,.slice a b c),(3,.func (.func 47) #[.pointer d] #[]),(8,.int .i64 e),(9,.int .i64 f),(10,.int .i64 g),(11,.int .i64 s)]
def bX.u1:List Nat:= [0,3,8,9,10,11]
def bX.q2(K:KT):aM:=(aL 2 (aN f123) (bI prog f123 K))
def bX.e2(a:OA)(b c:Nat)(d:OA)(e f s:Int):Env:= [(0,.slice a b c),(3,.func (.func 47) #[.pointer d] #[]),(8,.int .i64 e),(9,.int .i64 f),(12,.int .i64 s)]
def bX.u2:List Nat:= [0,3,8,9,12]
section
variable(a:OA)(b d:Nat)(e f:Int)(g:OA)(K:KT)(w:World)
def bX.W:Prop:=
 (2:Int)≠0/\Holds none [] prog 60 (.loop (lB (bB (sR (sL (sR (sR (sR (body f123))))))))) (bX.q1 K) [(0,.slice a b d),(3,.func (.func 47) #[.pointer g] #[]),(8,.int .i64 e),(9,.int .i64 0),(10,.int .i64 (i64.wrap (f-e))),(11,.int .i64 (i64.wrap ((i64.wrap ((i64.wrap (f-e))-(1:Int))).tdiv (2:Int))))] w
variable{a b d e f g K w}
theorem bX.of(h:bX.W a b d e f g K w):bj prog 123 #[.slice a b d,.int .i64 e,.int .i64 f,.func (.func 47) #[.pointer g] #[]] w K:=
 rqq func123 (C:=bX.k) h
end
section
variable(a:OA)(b c:Nat)(d:OA)(e f g i:Int)(Q:aM)(w:World)
def bX.B1:Prop:=
 Split (decide (i>=(0:Int))) (bj prog 135 #[.slice a b c,.int .i64 i,.int .i64 g,.int .i64 e,.func (.func 47) #[.pointer d] #[]] w fun j k=>j=.tuple #[]/\Q .normal [(0,.slice a b c),(3,.func (.func 47) #[.pointer d] #[]),(8,.int .i64 e),(9,.int .i64 f),(10,.int .i64 g),(11,.int .i64 (i64.wrap (i-(1:Int))))] k) (Q (.exit 0) [(0,.slice a b c),(3,.func (.func 47) #[.pointer d] #[]),(8,.int .i64 e),(9,.int .i64 f),(10,.int .i64 g),(11,.int .i64 i)] w)
theorem bX.b1:(aU none [] prog 60 bX.k (lB (bB (sR (sL (sR (sR (sR (body f123)))))))) bX.u1 Q [(0,.slice a b c),(3,.func (.func 47) #[.pointer d] #[]),(8,.int .i64 e),(9,.int .i64 f),(10,.int .i64 g),(11,.int .i64 i)] w)=bX.B1 a b c d e f g i Q w:=by kernel_rfl
variable{a b c d e f g}
theorem bX.b6(I:Int->World->Prop)(μ:Int->World->Nat)(s:Int){Q:aM}{w:World}(h0:I s w)
 (round:∀s w,I s w->bX.B1 a b c d e f g s (bH (bX.e1 a b c d e f g) I μ s w Q) w):Holds none [] prog 60 (.loop (lB (bB (sR (sL (sR (sR (sR (body f123))))))))) Q (bX.e1 a b c d e f g s) w:=
 ba ng mix (bX.e1 a b c d e f g) I μ bX.k bX.u1 s (fun s Q w=>bX.B1 a b c d e f g s Q w) (fun s Q w=>bX.b1 a b c d e f g s Q w) h0 round
end
section
def bX.cI(a:OA)(b c:Nat)(d:OA)(e f g i:Int)(K:KT)(w:World):Prop:=
 Holds none [] prog 60 (.loop (lB (bB (sR (sR (sR (sR (sR (body f123))))))))) (bX.q2 K) [(0,.slice a b c),(3,.func (.func 47) #[.pointer d] #[]),(8,.int .i64 e),(9,.int .i64 f),(12,.int .i64 (i64.wrap (g-(1:Int))))] w
variable(a:OA)(b c:Nat)(d:OA)(e f g i:Int)(K:KT)(w:World)
theorem bX.cX:(bX.q1 K (.exit 0) [(0,.slice a b c),(3,.func (.func 47) #[.pointer d] #[]),(8,.int .i64 e),(9,.int .i64 f),(10,.int .i64 g),(11,.int .i64 i)] w)=bX.cI a b c d e f g i K w:=by kernel_rfl
end
section
variable(a:OA)(b c:Nat)(d:OA)(e f g:Int)(Q:aM)(w:World)
def bX.B2:Prop:=
 Split (decide (g>=(0:Int))) (let i:=w.drew;(0<=(i64.wrap (e+g))/\(i64.wrap (e+g))<(b:Int))/\Is a fun j:Addr=>∃k:AV,(k.size=32/\Cells i (j.add ((i64.wrap (e+g)).toNat*32)) k)/\(0<=e/\e<(b:Int))/\Is a fun m:Addr=>∃n:AV,(n.size=32/\Cells i (m.add (e.toNat*32)) n)/\(0<=e/\e<(b:Int))/\Is a fun o:Addr=>(k.size=32/\(∀p∈k.toList,p.oneCell'=true)/\∀q,q<32->Wr i ((o.add (e.toNat*32)).add q))/\let r:=setCells i (o.add (e.toNat*32)) k.toList 0;(0<=(i64.wrap (e+g))/\(i64.wrap (e+g))<(b:Int))/\Is a fun t:Addr=>(n.size=32/\(∀u∈n.toList,u.oneCell'=true)/\∀v,v<32->Wr r ((t.add ((i64.wrap (e+g)).toNat*32)).add v))/\let x:=setCells r (t.add ((i64.wrap (e+g)).toNat*32)) n.toList 0;bj prog 135 #[.slice a b c,.int .i64 f,.int .i64 g,.int .i64 e,.func (.func 47) #[.pointer d] #[]] x fun y z=>y=.tuple #[]/\Q .normal [(0,.slice a b c),(3,.func (.func 47) #[.pointer d] #[]),(8,.int .i64 e),(9,.int .i64 f),(12,.int .i64 (i64.wrap (g-(1:Int))))] z) (Q (.exit 2) [(0,.slice a b c),(3,.func (.func 47) #[.pointer d] #[]),(8,.int .i64 e),(9,.int .i64 f),(12,.int .i64 g)] w)
theorem bX.b2:(aU none [] prog 60 bX.k (lB (bB (sR (sR (sR (sR (sR (body f123)))))))) bX.u2 Q [(0,.slice a b c),(3,.func (.func 47) #[.pointer d] #[]),(8,.int .i64 e),(9,.int .i64 f),(12,.int .i64 g)] w)=bX.B2 a b c d e f g Q w:=by kernel_rfl
variable{a b c d e f}
theorem bX.gI(I:Int->World->Prop)(μ:Int->World->Nat)(s:Int){Q:aM}{w:World}(h0:I s w)
 (round:∀s w,I s w->bX.B2 a b c d e f s (bH (bX.e2 a b c d e f) I μ s w Q) w):Holds none [] prog 60 (.loop (lB (bB (sR (sR (sR (sR (sR (body f123))))))))) Q (bX.e2 a b c d e f s) w:=
 ba ng mix (bX.e2 a b c d e f) I μ bX.k bX.u2 s (fun s Q w=>bX.B2 a b c d e f s Q w) (fun s Q w=>bX.b2 a b c d e f s Q w) h0 round
end
section
def bX.iE(a:OA)(b c:Nat)(d:OA)(e f g:Int)(K:KT)(w:World):Prop:=
 K (.tuple #[]) w
variable(a:OA)(b c:Nat)(d:OA)(e f g:Int)(K:KT)(w:World)
theorem bX.jJ:(bX.q2 K (.exit 2) [(0,.slice a b c),(3,.func (.func 47) #[.pointer d] #[]),(8,.int .i64 e),(9,.int .i64 f),(12,.int .i64 g)] w)=bX.iE a b c d e f g K w:=by kernel_rfl
end
def eM.k:List Nat:= []
def eM.q1(K:KT):aM:=(aL 0 (aN f124) (bI prog f124 K))
def eM.e1(a:OA)(b c:Nat)(d e:Int)(f:Addr)(g s:Int):Env:= [(0,.slice a b c),(1,.int .i64 d),(8,.int .i64 e),(9,.pointer (some f)),(10,.int .u64 g),(11,.int .i64 s)]
def eM.u1:List Nat:= [0,1,8,9,10,11]
section
def eM.W(a:OA)(b d:Nat)(e f:Int)(g:OA)(K:KT)(w:World):Prop:=
 Split (decide ((i64.wrap (f-e))>=(8:Int))) (let i:=w.alloc (.cells (#[.int .u64 0]:AV) 188);Wr i (⟨w.heap.size,0,none⟩:Addr)/\let j:=i.setCell (⟨w.heap.size,0,none⟩:Addr) (.int .u64 (u64.wrap (i64.wrap (f-e))));bj prog 136 #[.int .i64 (i64.wrap (f-e))] j fun k m=>∃n:Int,k=.int .u64 n/\(4:Int)≠0/\Holds none [] prog 67 (.loop (lB (bB (sR (sR (sR (cT (sR (sR (body f124)))))))))) (eM.q1 K) [(0,.slice a b d),(1,.int .i64 e),(8,.int .i64 (i64.wrap (f-e))),(9,.pointer (some (⟨w.heap.size,0,none⟩:Addr))),(10,.int .u64 n),(11,.int .i64 (i64.wrap ((i64.wrap (e+(i64.wrap ((i64.wrap ((i64.wrap (f-e)).tdiv (4:Int)))*(2:Int)))))-(1:Int))))] m) (K (.tuple #[]) w)
variable(a:OA)(b d:Nat)(e f:Int)(g:OA)(K:KT)(w:World)
variable{a b d e f g K w}
theorem eM.of(h:eM.W a b d e f g K w):bj prog 124 #[.slice a b d,.int .i64 e,.int .i64 f,.func (.func 47) #[.pointer g] #[]] w K:=
 rqq func124 (C:=eM.k) h
end
section
variable(a:OA)(b c:Nat)(d e:Int)(f:Addr)(g i:Int)(Q:aM)(w:World)
def eM.B1:Prop:=
 (4:Int)≠0/\Split (decide (i<=(i64.wrap ((i64.wrap (d+(i64.wrap ((i64.wrap (e.tdiv (4:Int)))*(2:Int)))))+(1:Int))))) (bj prog 137 #[.pointer (some f)] w fun j k=>∃m:Int,j=.int .u64 m/\Split (decide ((i64.wrap (u64.wrap ((BitVec.ofInt 64 m&&& BitVec.ofInt 64 (u64.wrap (g-(1:Int)))).toNat)))>=e)) (let n:=k.drew;(0<=(i64.wrap (d+(i64.wrap ((i64.wrap (u64.wrap ((BitVec.ofInt 64 m&&& BitVec.ofInt 64 (u64.wrap (g-(1:Int)))).toNat)))-e))))/\(i64.wrap (d+(i64.wrap ((i64.wrap (u64.wrap ((BitVec.ofInt 64 m&&& BitVec.ofInt 64 (u64.wrap (g-(1:Int)))).toNat)))-e))))<(b:Int))/\Is a fun o:Addr=>∃p:AV,(p.size=32/\Cells n (o.add ((i64.wrap (d+(i64.wrap ((i64.wrap (u64.wrap ((BitVec.ofInt 64 m&&& BitVec.ofInt 64 (u64.wrap (g-(1:Int)))).toNat)))-e)))).toNat*32)) p)/\(0<=i/\i<(b:Int))/\Is a fun q:Addr=>∃r:AV,(r.size=32/\Cells n (q.add (i.toNat*32)) r)/\(0<=i/\i<(b:Int))/\Is a fun t:Addr=>(p.size=32/\(∀u∈p.toList,u.oneCell'=true)/\∀v,v<32->Wr n ((t.add (i.toNat*32)).add v))/\let x:=setCells n (t.add (i.toNat*32)) p.toList 0;(0<=(i64.wrap (d+(i64.wrap ((i64.wrap (u64.wrap ((BitVec.ofInt 64 m&&& BitVec.ofInt 64 (u64.wrap (g-(1:Int)))).toNat)))-e))))/\(i64.wrap (d+(i64.wrap ((i64.wrap (u64.wrap ((BitVec.ofInt 64 m&&& BitVec.ofInt 64 (u64.wrap (g-(1:Int)))).toNat)))-e))))<(b:Int))/\Is a fun y:Addr=>(r.size=32/\(∀z∈r.toList,z.oneCell'=true)/\∀a1,a1<32->Wr x ((y.add ((i64.wrap (d+(i64.wrap ((i64.wrap (u64.wrap ((BitVec.ofInt 64 m&&& BitVec.ofInt 64 (u64.wrap (g-(1:Int)))).toNat)))-e)))).toNat*32)).add a1))/\let b1:=setCells x (y.add ((i64.wrap (d+(i64.wrap ((i64.wrap (u64.wrap ((BitVec.ofInt 64 m&&& BitVec.ofInt 64 (u64.wrap (g-(1:Int)))).toNat)))-e)))).toNat*32)) r.toList 0;Q .normal [(0,.slice a b c),(1,.int .i64 d),(8,.int .i64 e),(9,.pointer (some f)),(10,.int .u64 g),(11,.int .i64 (i64.wrap (i+(1:Int))))] b1) (let c1:=k.drew;(0<=(i64.wrap (d+(i64.wrap (u64.wrap ((BitVec.ofInt 64 m&&& BitVec.ofInt 64 (u64.wrap (g-(1:Int)))).toNat)))))/\(i64.wrap (d+(i64.wrap (u64.wrap ((BitVec.ofInt 64 m&&& BitVec.ofInt 64 (u64.wrap (g-(1:Int)))).toNat)))))<(b:Int))/\Is a fun d1:Addr=>∃e1:AV,(e1.size=32/\Cells c1 (d1.add ((i64.wrap (d+(i64.wrap (u64.wrap ((BitVec.ofInt 64 m&&& BitVec.ofInt 64 (u64.wrap (g-(1:Int)))).toNat))))).toNat*32)) e1)/\(0<=i/\i<(b:Int))/\Is a fun f1:Addr=>∃g1:AV,(g1.size=32/\Cells c1 (f1.add (i.toNat*32)) g1)/\(0<=i/\i<(b:Int))/\Is a fun i1:Addr=>(e1.size=32/\(∀j1∈e1.toList,j1.oneCell'=true)/\∀k1,k1<32->Wr c1 ((i1.add (i.toNat*32)).add k1))/\let m1:=setCells c1 (i1.add (i.toNat*32)) e1.toList 0;(0<=(i64.wrap (d+(i64.wrap (u64.wrap ((BitVec.ofInt 64 m&&& BitVec.ofInt 64 (u64.wrap (g-(1:Int)))).toNat)))))/\(i64.wrap (d+(i64.wrap (u64.wrap ((BitVec.ofInt 64 m&&& BitVec.ofInt 64 (u64.wrap (g-(1:Int)))).toNat)))))<(b:Int))/\Is a fun n1:Addr=>(g1.size=32/\(∀o1∈g1.toList,o1.oneCell'=true)/\∀p1,p1<32->Wr m1 ((n1.add ((i64.wrap (d+(i64.wrap (u64.wrap ((BitVec.ofInt 64 m&&& BitVec.ofInt 64 (u64.wrap (g-(1:Int)))).toNat))))).toNat*32)).add p1))/\let q1:=setCells m1 (n1.add ((i64.wrap (d+(i64.wrap (u64.wrap ((BitVec.ofInt 64 m&&& BitVec.ofInt 64 (u64.wrap (g-(1:Int)))).toNat))))).toNat*32)) g1.toList 0;Q .normal [(0,.slice a b c),(1,.int .i64 d),(8,.int .i64 e),(9,.pointer (some f)),(10,.int .u64 g),(11,.int .i64 (i64.wrap (i+(1:Int))))] q1)) (Q (.exit 0) [(0,.slice a b c),(1,.int .i64 d),(8,.int .i64 e),(9,.pointer (some f)),(10,.int .u64 g),(11,.int .i64 i)] w)
theorem eM.b1:(aU none [] prog 67 eM.k (lB (bB (sR (sR (sR (cT (sR (sR (body f124))))))))) eM.u1 Q [(0,.slice a b c),(1,.int .i64 d),(8,.int .i64 e),(9,.pointer (some f)),(10,.int .u64 g),(11,.int .i64 i)] w)=eM.B1 a b c d e f g i Q w:=by kernel_rfl
variable{a b c d e f g}
theorem eM.b6(I:Int->World->Prop)(μ:Int->World->Nat)(s:Int){Q:aM}{w:World}(h0:I s w)
 (round:∀s w,I s w->eM.B1 a b c d e f g s (bH (eM.e1 a b c d e f g) I μ s w Q) w):Holds none [] prog 67 (.loop (lB (bB (sR (sR (sR (cT (sR (sR (body f124)))))))))) Q (eM.e1 a b c d e f g s) w:=
 ba ng mix (eM.e1 a b c d e f g) I μ eM.k eM.u1 s (fun s Q w=>eM.B1 a b c d e f g s Q w) (fun s Q w=>eM.b1 a b c d e f g s Q w) h0 round
end
section
def eM.cI(a:OA)(b c:Nat)(d e:Int)(f:Addr)(g i:Int)(K:KT)(w:World):Prop:=
 K (.tuple #[]) w
variable(a:OA)(b c:Nat)(d e:Int)(f:Addr)(g i:Int)(K:KT)(w:World)
theorem eM.cX:(eM.q1 K (.exit 0) [(0,.slice a b c),(1,.int .i64 d),(8,.int .i64 e),(9,.pointer (some f)),(10,.int .u64 g),(11,.int .i64 i)] w)=eM.cI a b c d e f g i K w:=by kernel_rfl
end
def sh.k:List Nat:= []
section
variable(a:OA)(b d:Nat)(e f:Int)(g:OA)(K:KT)(w:World)
def sh.W:Prop:=
 let i:=w.alloc (.cells (#[.int .i64 0]:AV) 3);(4:Int)≠0/\(4:Int)≠0/\(4:Int)≠0/\Split (decide ((i64.wrap (f-e))>=(8:Int))) (Split (decide ((i64.wrap (f-e))>=(50:Int))) (bj prog 138 #[.slice a b d,.int .i64 (i64.wrap (e+(i64.wrap ((i64.wrap ((i64.wrap (f-e)).tdiv (4:Int)))*(1:Int))))),.pointer (some (⟨w.heap.size,0,none⟩:Addr)),.func (.func 47) #[.pointer g] #[]] i fun j k=>∃m:Int,j=.int .i64 m/\bj prog 138 #[.slice a b d,.int .i64 (i64.wrap (e+(i64.wrap ((i64.wrap ((i64.wrap (f-e)).tdiv (4:Int)))*(2:Int))))),.pointer (some (⟨w.heap.size,0,none⟩:Addr)),.func (.func 47) #[.pointer g] #[]] k fun n o=>∃p:Int,n=.int .i64 p/\bj prog 138 #[.slice a b d,.int .i64 (i64.wrap (e+(i64.wrap ((i64.wrap ((i64.wrap (f-e)).tdiv (4:Int)))*(3:Int))))),.pointer (some (⟨w.heap.size,0,none⟩:Addr)),.func (.func 47) #[.pointer g] #[]] o fun q r=>∃t:Int,q=.int .i64 t/\bj prog 139 #[.slice a b d,.int .i64 m,.int .i64 p,.int .i64 t,.pointer (some (⟨w.heap.size,0,none⟩:Addr)),.func (.func 47) #[.pointer g] #[]] r fun u v=>∃x:Int,u=.int .i64 x/\∃y:Int,v.cell? (⟨w.heap.size,0,none⟩:Addr)=some (.int .i64 y)/\Split (y==(0:Int)) (K (.tuple #[.int .i64 x,.int .i64 1]) v) (Split (y==(12:Int)) (K (.tuple #[.int .i64 x,.int .i64 2]) v) (K (.tuple #[.int .i64 x,.int .i64 0]) v))) (bj prog 139 #[.slice a b d,.int .i64 (i64.wrap (e+(i64.wrap ((i64.wrap ((i64.wrap (f-e)).tdiv (4:Int)))*(1:Int))))),.int .i64 (i64.wrap (e+(i64.wrap ((i64.wrap ((i64.wrap (f-e)).tdiv (4:Int)))*(2:Int))))),.int .i64 (i64.wrap (e+(i64.wrap ((i64.wrap ((i64.wrap (f-e)).tdiv (4:Int)))*(3:Int))))),.pointer (some (⟨w.heap.size,0,none⟩:Addr)),.func (.func 47) #[.pointer g] #[]] i fun z a1=>∃b1:Int,z=.int .i64 b1/\∃c1:Int,a1.cell? (⟨w.heap.size,0,none⟩:Addr)=some (.int .i64 c1)/\Split (c1==(0:Int)) (K (.tuple #[.int .i64 b1,.int .i64 1]) a1) (Split (c1==(12:Int)) (K (.tuple #[.int .i64 b1,.int .i64 2]) a1) (K (.tuple #[.int .i64 b1,.int .i64 0]) a1)))) (∃d1:Int,i.cell? (⟨w.heap.size,0,none⟩:Addr)=some (.int .i64 d1)/\Split (d1==(0:Int)) (K (.tuple #[.int .i64 (i64.wrap (e+(i64.wrap ((i64.wrap ((i64.wrap (f-e)).tdiv (4:Int)))*(2:Int))))),.int .i64 1]) i) (Split (d1==(12:Int)) (K (.tuple #[.int .i64 (i64.wrap (e+(i64.wrap ((i64.wrap ((i64.wrap (f-e)).tdiv (4:Int)))*(2:Int))))),.int .i64 2]) i) (K (.tuple #[.int .i64 (i64.wrap (e+(i64.wrap ((i64.wrap ((i64.wrap (f-e)).tdiv (4:Int)))*(2:Int))))),.int .i64 0]) i)))
variable{a b d e f g K w}
theorem sh.of(h:sh.W a b d e f g K w):bj prog 125 #[.slice a b d,.int .i64 e,.int .i64 f,.func (.func 47) #[.pointer g] #[]] w K:=
 rqq func125 (C:=sh.k) h
end
def eK.k:List Nat:= []
def eK.q1(K:KT):aM:=(aL 0 (aN f126) (bI prog f126 K))
def eK.e1(a:OA)(b c:Nat)(s:Int×Int):Env:= [(0,.slice a b c),(8,.int .i64 s.1),(9,.int .i64 s.2)]
def eK.u1:List Nat:= [0,8,9]
section
def eK.W(a:OA)(b d:Nat)(e f:Int)(g:OA)(K:KT)(w:World):Prop:=
 Holds none [] prog 34 (.loop (lB (bB (sR (sR (body f126)))))) (eK.q1 K) [(0,.slice a b d),(8,.int .i64 e),(9,.int .i64 (i64.wrap (f-(1:Int))))] w
variable(a:OA)(b d:Nat)(e f:Int)(g:OA)(K:KT)(w:World)
variable{a b d e f g K w}
theorem eK.of(h:eK.W a b d e f g K w):bj prog 126 #[.slice a b d,.int .i64 e,.int .i64 f,.func (.func 47) #[.pointer g] #[]] w K:=
 rqq func126 (C:=eK.k) h
end
section
variable(a:OA)(b c:Nat)(d e:Int)(Q:aM)(w:World)
def eK.B1:Prop:=
 Split (decide (d<e)) (let f:=w.drew;(0<=e/\e<(b:Int))/\Is a fun g:Addr=>∃i:AV,(i.size=32/\Cells f (g.add (e.toNat*32)) i)/\(0<=d/\d<(b:Int))/\Is a fun j:Addr=>∃k:AV,(k.size=32/\Cells f (j.add (d.toNat*32)) k)/\(0<=d/\d<(b:Int))/\Is a fun m:Addr=>(i.size=32/\(∀n∈i.toList,n.oneCell'=true)/\∀o,o<32->Wr f ((m.add (d.toNat*32)).add o))/\let p:=setCells f (m.add (d.toNat*32)) i.toList 0;(0<=e/\e<(b:Int))/\Is a fun q:Addr=>(k.size=32/\(∀r∈k.toList,r.oneCell'=true)/\∀t,t<32->Wr p ((q.add (e.toNat*32)).add t))/\let u:=setCells p (q.add (e.toNat*32)) k.toList 0;Q .normal [(0,.slice a b c),(8,.int .i64 (i64.wrap (d+(1:Int)))),(9,.int .i64 (i64.wrap (e-(1:Int))))] u) (Q (.exit 0) [(0,.slice a b c),(8,.int .i64 d),(9,.int .i64 e)] w)
theorem eK.b1:(aU none [] prog 34 eK.k (lB (bB (sR (sR (body f126))))) eK.u1 Q [(0,.slice a b c),(8,.int .i64 d),(9,.int .i64 e)] w)=eK.B1 a b c d e Q w:=by kernel_rfl
variable{a b c}
theorem eK.b6(I:Int×Int->World->Prop)(μ:Int×Int->World->Nat)(s:Int×Int){Q:aM}{w:World}(h0:I s w)
 (round:∀s w,I s w->eK.B1 a b c (s.1) (s.2) (bH (eK.e1 a b c) I μ s w Q) w):Holds none [] prog 34 (.loop (lB (bB (sR (sR (body f126)))))) Q (eK.e1 a b c s) w:=
 ba ng mix (eK.e1 a b c) I μ eK.k eK.u1 s (fun s Q w=>eK.B1 a b c (s.1) (s.2) Q w) (fun s Q w=>eK.b1 a b c (s.1) (s.2) Q w) h0 round
end
section
def eK.cI(a:OA)(b c:Nat)(d e:Int)(K:KT)(w:World):Prop:=
 K (.tuple #[]) w
variable(a:OA)(b c:Nat)(d e:Int)(K:KT)(w:World)
theorem eK.cX:(eK.q1 K (.exit 0) [(0,.slice a b c),(8,.int .i64 d),(9,.int .i64 e)] w)=eK.cI a b c d e K w:=by kernel_rfl
end
def bD.k:List Nat:= []
def bD.q1(K:KT):aM:=(aL 0 (b7 (sR (sR (sR (body f127))))++(aN f127)) (bQ (fun bV w_=>match cutAt bD.k (sR (sR (sR (body f127))))with|true=>Holds none [] prog 141 (sR (sR (sR (body f127)))) (bI prog f127 K) bV w_|false=>aU none [] prog 141 bD.k (sR (sR (sR (body f127)))) (aN f127) (bI prog f127 K) bV w_) (bI prog f127 K)))
def bD.e1(a:OA)(b c:Nat)(d e:Int)(f:OA)(s:Bool×Int×Int):Env:= [(0,.slice a b c),(1,.int .i64 d),(2,.int .i64 e),(3,.func (.func 47) #[.pointer f] #[]),(8,.bool s.1),(9,.int .i64 s.2.1),(10,.int .i64 s.2.2)]
def bD.u1:List Nat:= [0,1,2,3,8,9,10]
def bD.q2(Q:aM):aM:=(aL 2 (b7 (sR (bB (sL (sR (lB (bB (sR (sL (sR (sR (body f127)))))))))))++(b7 (sR (sR (lB (bB (sR (sL (sR (sR (body f127)))))))))++bD.u1)) (bQ (fun bV w_=>match cutAt bD.k (sR (bB (sL (sR (lB (bB (sR (sL (sR (sR (body f127)))))))))))with|true=>Holds none [] prog 141 (sR (bB (sL (sR (lB (bB (sR (sL (sR (sR (body f127))))))))))) (aL 1 (b7 (sR (sR (lB (bB (sR (sL (sR (sR (body f127)))))))))++bD.u1) (bQ (fun bV w_=>match cutAt bD.k (sR (sR (lB (bB (sR (sL (sR (sR (body f127)))))))))with|true=>Holds none [] prog 141 (sR (sR (lB (bB (sR (sL (sR (sR (body f127))))))))) Q bV w_|false=>aU none [] prog 141 bD.k (sR (sR (lB (bB (sR (sL (sR (sR (body f127))))))))) bD.u1 Q bV w_) Q)) bV w_|false=>aU none [] prog 141 bD.k (sR (bB (sL (sR (lB (bB (sR (sL (sR (sR (body f127))))))))))) (b7 (sR (sR (lB (bB (sR (sL (sR (sR (body f127)))))))))++bD.u1) (aL 1 (b7 (sR (sR (lB (bB (sR (sL (sR (sR (body f127)))))))))++bD.u1) (bQ (fun bV w_=>match cutAt bD.k (sR (sR (lB (bB (sR (sL (sR (sR (body f127)))))))))with|true=>Holds none [] prog 141 (sR (sR (lB (bB (sR (sL (sR (sR (body f127))))))))) Q bV w_|false=>aU none [] prog 141 bD.k (sR (sR (lB (bB (sR (sL (sR (sR (body f127))))))))) bD.u1 Q bV w_) Q)) bV w_) (aL 1 (b7 (sR (sR (lB (bB (sR (sL (sR (sR (body f127)))))))))++bD.u1) (bQ (fun bV w_=>match cutAt bD.k (sR (sR (lB (bB (sR (sL (sR (sR (body f127)))))))))with|true=>Holds none [] prog 141 (sR (sR (lB (bB (sR (sL (sR (sR (body f127))))))))) Q bV w_|false=>aU none [] prog 141 bD.k (sR (sR (lB (bB (sR (sL (sR (sR (body f127))))))))) bD.u1 Q bV w_) Q))))
def bD.e2(a:OA)(b c:Nat)(d e:Int)(f:OA)(g:Bool)(i s:Int):Env:= [(0,.slice a b c),(1,.int .i64 d),(2,.int .i64 e),(3,.func (.func 47) #[.pointer f] #[]),(8,.bool g),(9,.int .i64 s),(10,.int .i64 i)]
def bD.u2:List Nat:= [0,1,2,3,8,9,10]
def bD.q3(Q:aM):aM:=(aL 4 (b7 (sR (sR (sR (sR (sR (bB (sL (sR (lB (bB (sR (sL (sR (sR (body f127)))))))))))))))++(b7 (sR (sR (lB (bB (sR (sL (sR (sR (body f127)))))))))++bD.u1)) (bQ (fun bV w_=>match cutAt bD.k (sR (sR (sR (sR (sR (bB (sL (sR (lB (bB (sR (sL (sR (sR (body f127)))))))))))))))with|true=>Holds none [] prog 141 (sR (sR (sR (sR (sR (bB (sL (sR (lB (bB (sR (sL (sR (sR (body f127))))))))))))))) (aL 1 (b7 (sR (sR (lB (bB (sR (sL (sR (sR (body f127)))))))))++bD.u1) (bQ (fun bV w_=>match cutAt bD.k (sR (sR (lB (bB (sR (sL (sR (sR (body f127)))))))))with|true=>Holds none [] prog 141 (sR (sR (lB (bB (sR (sL (sR (sR (body f127))))))))) Q bV w_|false=>aU none [] prog 141 bD.k (sR (sR (lB (bB (sR (sL (sR (sR (body f127))))))))) bD.u1 Q bV w_) Q)) bV w_|false=>aU none [] prog 141 bD.k (sR (sR (sR (sR (sR (bB (sL (sR (lB (bB (sR (sL (sR (sR (body f127))))))))))))))) (b7 (sR (sR (lB (bB (sR (sL (sR (sR (body f127)))))))))++bD.u1) (aL 1 (b7 (sR (sR (lB (bB (sR (sL (sR (sR (body f127)))))))))++bD.u1) (bQ (fun bV w_=>match cutAt bD.k (sR (sR (lB (bB (sR (sL (sR (sR (body f127)))))))))with|true=>Holds none [] prog 141 (sR (sR (lB (bB (sR (sL (sR (sR (body f127))))))))) Q bV w_|false=>aU none [] prog 141 bD.k (sR (sR (lB (bB (sR (sL (sR (sR (body f127))))))))) bD.u1 Q bV w_) Q)) bV w_) (aL 1 (b7 (sR (sR (lB (bB (sR (sL (sR (sR (body f127)))))))))++bD.u1) (bQ (fun bV w_=>match cutAt bD.k (sR (sR (lB (bB (sR (sL (sR (sR (body f127)))))))))with|true=>Holds none [] prog 141 (sR (sR (lB (bB (sR (sL (sR (sR (body f127))))))))) Q bV w_|false=>aU none [] prog 141 bD.k (sR (sR (lB (bB (sR (sL (sR (sR (body f127))))))))) bD.u1 Q bV w_) Q))))
def bD.q4(Q:aM):aM:=(aL 6 (b7 (sR (sR (lB (bB (sR (sL (sR (sR (body f127)))))))))++bD.u1) (aL 1 (b7 (sR (sR (lB (bB (sR (sL (sR (sR (body f127)))))))))++bD.u1) (bQ (fun bV w_=>match cutAt bD.k (sR (sR (lB (bB (sR (sL (sR (sR (body f127)))))))))with|true=>Holds none [] prog 141 (sR (sR (lB (bB (sR (sL (sR (sR (body f127))))))))) Q bV w_|false=>aU none [] prog 141 bD.k (sR (sR (lB (bB (sR (sL (sR (sR (body f127))))))))) bD.u1 Q bV w_) Q)))
section
variable(a:OA)(b d:Nat)(e f:Int)(g:OA)(K:KT)(w:World)
def bD.W:Prop:=
 Holds none [] prog 141 (.loop (lB (bB (sR (sL (sR (sR (body f127)))))))) (bD.q1 K) [(0,.slice a b d),(1,.int .i64 e),(2,.int .i64 f),(3,.func (.func 47) #[.pointer g] #[]),(8,.bool false),(9,.int .i64 (i64.wrap (e+(1:Int)))),(10,.int .i64 0)] w
variable{a b d e f g K w}
theorem bD.of(h:bD.W a b d e f g K w):bj prog 127 #[.slice a b d,.int .i64 e,.int .i64 f,.func (.func 47) #[.pointer g] #[]] w K:=
 rqq func127 (C:=bD.k) h
end
section
variable(a:OA)(b c:Nat)(d e:Int)(f:OA)(g:Bool)(i j:Int)(Q:aM)(w:World)
def bD.B1:Prop:=
 Split (decide (j<(5:Int))) (Holds none [] prog 141 (.loop (lB (bB (sL (bB (sL (sR (lB (bB (sR (sL (sR (sR (body f127)))))))))))))) (bD.q2 Q) [(0,.slice a b c),(1,.int .i64 d),(2,.int .i64 e),(3,.func (.func 47) #[.pointer f] #[]),(8,.bool g),(9,.int .i64 i),(10,.int .i64 j)] w) (Q (.exit 0) [(0,.slice a b c),(1,.int .i64 d),(2,.int .i64 e),(3,.func (.func 47) #[.pointer f] #[]),(8,.bool g),(9,.int .i64 i),(10,.int .i64 j)] w)
theorem bD.b1:(aU none [] prog 141 bD.k (lB (bB (sR (sL (sR (sR (body f127))))))) bD.u1 Q [(0,.slice a b c),(1,.int .i64 d),(2,.int .i64 e),(3,.func (.func 47) #[.pointer f] #[]),(8,.bool g),(9,.int .i64 i),(10,.int .i64 j)] w)=bD.B1 a b c d e f g i j Q w:=by kernel_rfl
variable{a b c d e f}
theorem bD.b6(I:Bool×Int×Int->World->Prop)(μ:Bool×Int×Int->World->Nat)(s:Bool×Int×Int){Q:aM}{w:World}(h0:I s w)
 (round:∀s w,I s w->bD.B1 a b c d e f (s.1) (s.2.1) (s.2.2) (bH (bD.e1 a b c d e f) I μ s w Q) w):Holds none [] prog 141 (.loop (lB (bB (sR (sL (sR (sR (body f127)))))))) Q (bD.e1 a b c d e f s) w:=
 ba ng mix (bD.e1 a b c d e f) I μ bD.k bD.u1 s (fun s Q w=>bD.B1 a b c d e f (s.1) (s.2.1) (s.2.2) Q w) (fun s Q w=>bD.b1 a b c d e f (s.1) (s.2.1) (s.2.2) Q w) h0 round
end
section
variable(a:OA)(b c:Nat)(d e:Int)(f:OA)(g:Bool)(i j:Int)(K:KT)(w:World)
end
section
variable(a:OA)(b c:Nat)(d e:Int)(f:OA)(g:Bool)(i j:Int)(Q:aM)(w:World)
def bD.B2:Prop:=
 let k:=w.drew;Split (decide (i<e)) ((0<=i/\i<(b:Int))/\Is a fun m:Addr=>∃n:AV,(n.size=32/\Cells k (m.add (i.toNat*32)) n)/\(0<=(i64.wrap (i-(1:Int)))/\(i64.wrap (i-(1:Int)))<(b:Int))/\Is a fun o:Addr=>∃p:AV,(p.size=32/\Cells k (o.add ((i64.wrap (i-(1:Int))).toNat*32)) p)/\bj prog 47 #[.pointer f,.agg n,.agg p] k fun q r=>∃t:Int,q=.int .i64 t/\Split (!(decide (t<(0:Int)))) (Q .normal [(0,.slice a b c),(1,.int .i64 d),(2,.int .i64 e),(3,.func (.func 47) #[.pointer f] #[]),(8,.bool g),(9,.int .i64 (i64.wrap (i+(1:Int)))),(10,.int .i64 j)] r) (Q (.exit 2) [(0,.slice a b c),(1,.int .i64 d),(2,.int .i64 e),(3,.func (.func 47) #[.pointer f] #[]),(8,.bool g),(9,.int .i64 i),(10,.int .i64 j)] r)) (Q (.exit 2) [(0,.slice a b c),(1,.int .i64 d),(2,.int .i64 e),(3,.func (.func 47) #[.pointer f] #[]),(8,.bool g),(9,.int .i64 i),(10,.int .i64 j)] k)
theorem bD.b2:(aU none [] prog 141 bD.k (lB (bB (sL (bB (sL (sR (lB (bB (sR (sL (sR (sR (body f127))))))))))))) bD.u2 Q [(0,.slice a b c),(1,.int .i64 d),(2,.int .i64 e),(3,.func (.func 47) #[.pointer f] #[]),(8,.bool g),(9,.int .i64 i),(10,.int .i64 j)] w)=bD.B2 a b c d e f g i j Q w:=by kernel_rfl
variable{a b c d e f g j}
theorem bD.gI(I:Int->World->Prop)(μ:Int->World->Nat)(s:Int){Q:aM}{w:World}(h0:I s w)
 (round:∀s w,I s w->bD.B2 a b c d e f g s j (bH (bD.e2 a b c d e f g j) I μ s w Q) w):Holds none [] prog 141 (.loop (lB (bB (sL (bB (sL (sR (lB (bB (sR (sL (sR (sR (body f127)))))))))))))) Q (bD.e2 a b c d e f g j s) w:=
 ba ng mix (bD.e2 a b c d e f g j) I μ bD.k bD.u2 s (fun s Q w=>bD.B2 a b c d e f g s j Q w) (fun s Q w=>bD.b2 a b c d e f g s j Q w) h0 round
end
section
variable(a:OA)(b c:Nat)(d e:Int)(f:OA)(g:Bool)(i j:Int)(Q:aM)(w:World)
def bD.iE:Prop:=
 Split (i==e) (Q .ret [(0,.slice a b c),(1,.int .i64 d),(2,.int .i64 e),(3,.func (.func 47) #[.pointer f] #[]),(8,.bool true),(9,.int .i64 i),(10,.int .i64 j)] w) (Split (decide ((i64.wrap (e-d))<(50:Int))) (Q .ret [(0,.slice a b c),(1,.int .i64 d),(2,.int .i64 e),(3,.func (.func 47) #[.pointer f] #[]),(8,.bool false),(9,.int .i64 i),(10,.int .i64 j)] w) (let k:=w.drew;(0<=(i64.wrap (i-(1:Int)))/\(i64.wrap (i-(1:Int)))<(b:Int))/\Is a fun m:Addr=>∃n:AV,(n.size=32/\Cells k (m.add ((i64.wrap (i-(1:Int))).toNat*32)) n)/\(0<=i/\i<(b:Int))/\Is a fun o:Addr=>∃p:AV,(p.size=32/\Cells k (o.add (i.toNat*32)) p)/\(0<=i/\i<(b:Int))/\Is a fun q:Addr=>(n.size=32/\(∀r∈n.toList,r.oneCell'=true)/\∀t,t<32->Wr k ((q.add (i.toNat*32)).add t))/\let u:=setCells k (q.add (i.toNat*32)) n.toList 0;(0<=(i64.wrap (i-(1:Int)))/\(i64.wrap (i-(1:Int)))<(b:Int))/\Is a fun v:Addr=>(p.size=32/\(∀x∈p.toList,x.oneCell'=true)/\∀y,y<32->Wr u ((v.add ((i64.wrap (i-(1:Int))).toNat*32)).add y))/\let z:=setCells u (v.add ((i64.wrap (i-(1:Int))).toNat*32)) p.toList 0;Split (decide ((i64.wrap (i-d))>=(2:Int))) (Holds none [] prog 141 (.loop (lB (bB (sR (cT (sR (sL (sR (sR (sR (sR (bB (sL (sR (lB (bB (sR (sL (sR (sR (body f127))))))))))))))))))))) (bD.q3 Q) [(0,.slice a b c),(1,.int .i64 d),(2,.int .i64 e),(3,.func (.func 47) #[.pointer f] #[]),(8,.bool g),(9,.int .i64 i),(10,.int .i64 j),(11,.int .i64 (i64.wrap (i-(1:Int))))] z) (Split (decide ((i64.wrap (e-i))>=(2:Int))) (Holds none [] prog 141 (.loop (lB (bB (sR (cT (sR (sR (sR (sR (sR (sR (bB (sL (sR (lB (bB (sR (sL (sR (sR (body f127))))))))))))))))))))) (bD.q4 Q) [(0,.slice a b c),(1,.int .i64 d),(2,.int .i64 e),(3,.func (.func 47) #[.pointer f] #[]),(8,.bool g),(9,.int .i64 i),(10,.int .i64 j),(12,.int .i64 (i64.wrap (i+(1:Int))))] z) (Q .normal [(0,.slice a b c),(1,.int .i64 d),(2,.int .i64 e),(3,.func (.func 47) #[.pointer f] #[]),(8,.bool g),(9,.int .i64 i),(10,.int .i64 (i64.wrap (j+(1:Int))))] z))))
theorem bD.jJ:(bD.q2 Q (.exit 2) [(0,.slice a b c),(1,.int .i64 d),(2,.int .i64 e),(3,.func (.func 47) #[.pointer f] #[]),(8,.bool g),(9,.int .i64 i),(10,.int .i64 j)] w)=bD.iE a b c d e f g i j Q w:=by kernel_rfl
end
section
variable(a:OA)(b c:Nat)(d e:Int)(f:OA)(g:Bool)(i j k:Int)(Q:aM)(w:World)
variable{a b c d e f g i j}
end
section
variable(a:OA)(b c:Nat)(d e:Int)(f:OA)(g:Bool)(i j k:Int)(Q:aM)(w:World)
end
section
variable(a:OA)(b c:Nat)(d e:Int)(f:OA)(g:Bool)(i j k:Int)(Q:aM)(w:World)
variable{a b c d e f g i j}
end
section
variable(a:OA)(b c:Nat)(d e:Int)(f:OA)(g:Bool)(i j k:Int)(Q:aM)(w:World)
end
section
variable(a:OA)(b d:Nat)(e f g:Int)(i:OA)(K:KT)(w:World)
variable{a b d e f g i K w}
end
section
variable(a:OA)(b c:Nat)(d:Int)(e:OA)(f g i:Int)(Q:aM)(w:World)
variable{a b c d e f}
end
section
variable(a:OA)(b c:Nat)(d:Int)(e:OA)(f g i:Int)(Q:aM)(w:World)
variable{a b c d e f i}
end
section
variable(a:OA)(b c:Nat)(d:Int)(e:OA)(f g i:Int)(Q:aM)(w:World)
end
section
variable(a:OA)(b c:Nat)(d:Int)(e:OA)(f g i:Int)(Q:aM)(w:World)
variable{a b c d e f g}
end
section
variable(a:OA)(b c:Nat)(d:Int)(e:OA)(f g i:Int)(Q:aM)(w:World)
end
section
variable(a:OA)(b c:Nat)(d:Int)(e:OA)(f g i:Int)(K:KT)(w:World)
end
def aT.k:List Nat:= []
def aT.q1(K:KT):aM:=(aL 0 (b7 (sR (sR (sR (sR (body Tryz.f129)))))++(aN Tryz.f129)) (bQ (fun bV w_=>match cutAt aT.k (sR (sR (sR (sR (body Tryz.f129)))))with|true=>Holds none [] prog 178 (sR (sR (sR (sR (body Tryz.f129))))) (bI prog Tryz.f129 K) bV w_|false=>aU none [] prog 178 aT.k (sR (sR (sR (sR (body Tryz.f129))))) (aN Tryz.f129) (bI prog Tryz.f129 K) bV w_) (bI prog Tryz.f129 K)))
def aT.e1(a:OA)(b c:Nat)(d:Int)(e:OA)(f g s:Int):Env:= [(0,.slice a b c),(1,.int .i64 d),(4,.func (.func 47) #[.pointer e] #[]),(10,.int .i64 f),(11,.bool false),(12,.int .i64 s),(13,.int .i64 g)]
def aT.u1:List Nat:= [0,1,4,10,11,12,13]
def aT.q2(K:KT):aM:=(aL 2 (b7 (sR (sR (sR (sR (sR (body Tryz.f129))))))++(aN Tryz.f129)) (bQ (fun bV w_=>match cutAt aT.k (sR (sR (sR (sR (sR (body Tryz.f129))))))with|true=>Holds none [] prog 178 (sR (sR (sR (sR (sR (body Tryz.f129)))))) (bI prog Tryz.f129 K) bV w_|false=>aU none [] prog 178 aT.k (sR (sR (sR (sR (sR (body Tryz.f129)))))) (aN Tryz.f129) (bI prog Tryz.f129 K) bV w_) (bI prog Tryz.f129 K)))
def aT.e2(a:OA)(b c:Nat)(d:Int)(e:OA)(f g s:Int):Env:= [(0,.slice a b c),(1,.int .i64 d),(4,.func (.func 47) #[.pointer e] #[]),(10,.int .i64 f),(11,.bool false),(12,.int .i64 g),(13,.int .i64 s)]
def aT.u2:List Nat:= [0,1,4,10,11,12,13]
def aT.q3(K:KT):aM:=(aL 4 (b7 (sR (sR (sR (sR (sR (sR (sR (sR (sR (sR (body Tryz.f129)))))))))))++(aN Tryz.f129)) (bQ (fun bV w_=>match cutAt aT.k (sR (sR (sR (sR (sR (sR (sR (sR (sR (sR (body Tryz.f129)))))))))))with|true=>Holds none [] prog 178 (sR (sR (sR (sR (sR (sR (sR (sR (sR (sR (body Tryz.f129))))))))))) (bI prog Tryz.f129 K) bV w_|false=>aU none [] prog 178 aT.k (sR (sR (sR (sR (sR (sR (sR (sR (sR (sR (body Tryz.f129))))))))))) (aN Tryz.f129) (bI prog Tryz.f129 K) bV w_) (bI prog Tryz.f129 K)))
def aT.e3(a:OA)(b c:Nat)(d:Int)(e:OA)(f:Int)(s:Int×Int):Env:= [(0,.slice a b c),(1,.int .i64 d),(4,.func (.func 47) #[.pointer e] #[]),(10,.int .i64 f),(11,.bool false),(12,.int .i64 s.1),(13,.int .i64 s.2)]
def aT.u3:List Nat:= [0,1,4,10,11,12,13]
def aT.q4(Q:aM):aM:=(aL 6 (b7 (sR (bB (lB (bB (sL (sR (sR (sR (sR (sR (sR (sR (sR (sR (body Tryz.f129)))))))))))))))++aT.u3) (bQ (fun bV w_=>match cutAt aT.k (sR (bB (lB (bB (sL (sR (sR (sR (sR (sR (sR (sR (sR (sR (body Tryz.f129)))))))))))))))with|true=>Holds none [] prog 178 (sR (bB (lB (bB (sL (sR (sR (sR (sR (sR (sR (sR (sR (sR (body Tryz.f129))))))))))))))) (aL 5 aT.u3 Q) bV w_|false=>aU none [] prog 178 aT.k (sR (bB (lB (bB (sL (sR (sR (sR (sR (sR (sR (sR (sR (sR (body Tryz.f129))))))))))))))) aT.u3 (aL 5 aT.u3 Q) bV w_) (aL 5 aT.u3 Q)))
def aT.e4(a:OA)(b c:Nat)(d:Int)(e:OA)(f g s:Int):Env:= [(0,.slice a b c),(1,.int .i64 d),(4,.func (.func 47) #[.pointer e] #[]),(10,.int .i64 f),(11,.bool false),(12,.int .i64 s),(13,.int .i64 g)]
def aT.u4:List Nat:= [0,1,4,10,11,12,13]
def aT.q5(Q:aM):aM:=(aL 8 (b7 (sR (sR (bB (lB (bB (sL (sR (sR (sR (sR (sR (sR (sR (sR (sR (body Tryz.f129))))))))))))))))++aT.u3) (bQ (fun bV w_=>match cutAt aT.k (sR (sR (bB (lB (bB (sL (sR (sR (sR (sR (sR (sR (sR (sR (sR (body Tryz.f129))))))))))))))))with|true=>Holds none [] prog 178 (sR (sR (bB (lB (bB (sL (sR (sR (sR (sR (sR (sR (sR (sR (sR (body Tryz.f129)))))))))))))))) (aL 5 aT.u3 Q) bV w_|false=>aU none [] prog 178 aT.k (sR (sR (bB (lB (bB (sL (sR (sR (sR (sR (sR (sR (sR (sR (sR (body Tryz.f129)))))))))))))))) aT.u3 (aL 5 aT.u3 Q) bV w_) (aL 5 aT.u3 Q)))
def aT.e5(a:OA)(b c:Nat)(d:Int)(e:OA)(f g s:Int):Env:= [(0,.slice a b c),(1,.int .i64 d),(4,.func (.func 47) #[.pointer e] #[]),(10,.int .i64 f),(11,.bool false),(12,.int .i64 g),(13,.int .i64 s)]
def aT.u5:List Nat:= [0,1,4,10,11,12,13]
section
variable(a:OA)(b d:Nat)(e f g:Int)(i:OA)(K:KT)(w:World)
def aT.W:Prop:=
 let j:=w.drew;(0<=g/\g<(b:Int))/\Is a fun k:Addr=>∃m:AV,(m.size=32/\Cells j (k.add (g.toNat*32)) m)/\(0<=e/\e<(b:Int))/\Is a fun n:Addr=>∃o:AV,(o.size=32/\Cells j (n.add (e.toNat*32)) o)/\(0<=e/\e<(b:Int))/\Is a fun p:Addr=>(m.size=32/\(∀q∈m.toList,q.oneCell'=true)/\∀r,r<32->Wr j ((p.add (e.toNat*32)).add r))/\let t:=setCells j (p.add (e.toNat*32)) m.toList 0;(0<=g/\g<(b:Int))/\Is a fun u:Addr=>(o.size=32/\(∀v∈o.toList,v.oneCell'=true)/\∀x,x<32->Wr t ((u.add (g.toNat*32)).add x))/\let y:=setCells t (u.add (g.toNat*32)) o.toList 0;Holds none [] prog 178 (.loop (lB (bB (sL (sR (sR (sR (body Tryz.f129)))))))) (aT.q1 K) [(0,.slice a b d),(1,.int .i64 e),(4,.func (.func 47) #[.pointer i] #[]),(10,.int .i64 0),(11,.bool false),(12,.int .i64 (i64.wrap (e+(1:Int)))),(13,.int .i64 (i64.wrap (f-(1:Int))))] y
variable{a b d e f g i K w}
theorem aT.of(h:aT.W a b d e f g i K w):bj prog 129 #[.slice a b d,.int .i64 e,.int .i64 f,.int .i64 g,.func (.func 47) #[.pointer i] #[]] w K:=
 rqq func129 (C:=aT.k) h
end
section
variable(a:OA)(b c:Nat)(d:Int)(e:OA)(f g i:Int)(Q:aM)(w:World)
def aT.B1:Prop:=
 let j:=w.drew;Split (decide (g<=i)) ((0<=g/\g<(b:Int))/\Is a fun k:Addr=>∃m:AV,(m.size=32/\Cells j (k.add (g.toNat*32)) m)/\(0<=d/\d<(b:Int))/\Is a fun n:Addr=>∃o:AV,(o.size=32/\Cells j (n.add (d.toNat*32)) o)/\bj prog 47 #[.pointer e,.agg m,.agg o] j fun p q=>∃r:Int,p=.int .i64 r/\Split (decide (r<(0:Int))) (Q .normal [(0,.slice a b c),(1,.int .i64 d),(4,.func (.func 47) #[.pointer e] #[]),(10,.int .i64 f),(11,.bool false),(12,.int .i64 (i64.wrap (g+(1:Int)))),(13,.int .i64 i)] q) (Q (.exit 0) [(0,.slice a b c),(1,.int .i64 d),(4,.func (.func 47) #[.pointer e] #[]),(10,.int .i64 f),(11,.bool false),(12,.int .i64 g),(13,.int .i64 i)] q)) (Q (.exit 0) [(0,.slice a b c),(1,.int .i64 d),(4,.func (.func 47) #[.pointer e] #[]),(10,.int .i64 f),(11,.bool false),(12,.int .i64 g),(13,.int .i64 i)] j)
theorem aT.b1:(aU none [] prog 178 aT.k (lB (bB (sL (sR (sR (sR (body Tryz.f129))))))) aT.u1 Q [(0,.slice a b c),(1,.int .i64 d),(4,.func (.func 47) #[.pointer e] #[]),(10,.int .i64 f),(11,.bool false),(12,.int .i64 g),(13,.int .i64 i)] w)=aT.B1 a b c d e f g i Q w:=by kernel_rfl
variable{a b c d e f i}
theorem aT.b6(I:Int->World->Prop)(μ:Int->World->Nat)(s:Int){Q:aM}{w:World}(h0:I s w)
 (round:∀s w,I s w->aT.B1 a b c d e f s i (bH (aT.e1 a b c d e f i) I μ s w Q) w):Holds none [] prog 178 (.loop (lB (bB (sL (sR (sR (sR (body Tryz.f129)))))))) Q (aT.e1 a b c d e f i s) w:=
 ba ng mix (aT.e1 a b c d e f i) I μ aT.k aT.u1 s (fun s Q w=>aT.B1 a b c d e f s i Q w) (fun s Q w=>aT.b1 a b c d e f s i Q w) h0 round
end
section
variable(a:OA)(b c:Nat)(d:Int)(e:OA)(f g i:Int)(K:KT)(w:World)
def aT.cI:Prop:=
 Holds none [] prog 178 (.loop (lB (bB (sL (sR (sR (sR (sR (body Tryz.f129))))))))) (aT.q2 K) [(0,.slice a b c),(1,.int .i64 d),(4,.func (.func 47) #[.pointer e] #[]),(10,.int .i64 f),(11,.bool false),(12,.int .i64 g),(13,.int .i64 i)] w
theorem aT.cX:(aT.q1 K (.exit 0) [(0,.slice a b c),(1,.int .i64 d),(4,.func (.func 47) #[.pointer e] #[]),(10,.int .i64 f),(11,.bool false),(12,.int .i64 g),(13,.int .i64 i)] w)=aT.cI a b c d e f g i K w:=by kernel_rfl
end
section
variable(a:OA)(b c:Nat)(d:Int)(e:OA)(f g i:Int)(Q:aM)(w:World)
def aT.B2:Prop:=
 let j:=w.drew;Split (decide (g<=i)) ((0<=i/\i<(b:Int))/\Is a fun k:Addr=>∃m:AV,(m.size=32/\Cells j (k.add (i.toNat*32)) m)/\(0<=d/\d<(b:Int))/\Is a fun n:Addr=>∃o:AV,(o.size=32/\Cells j (n.add (d.toNat*32)) o)/\bj prog 47 #[.pointer e,.agg m,.agg o] j fun p q=>∃r:Int,p=.int .i64 r/\Split (!(decide (r<(0:Int)))) (Q .normal [(0,.slice a b c),(1,.int .i64 d),(4,.func (.func 47) #[.pointer e] #[]),(10,.int .i64 f),(11,.bool false),(12,.int .i64 g),(13,.int .i64 (i64.wrap (i-(1:Int))))] q) (Q (.exit 2) [(0,.slice a b c),(1,.int .i64 d),(4,.func (.func 47) #[.pointer e] #[]),(10,.int .i64 f),(11,.bool false),(12,.int .i64 g),(13,.int .i64 i)] q)) (Q (.exit 2) [(0,.slice a b c),(1,.int .i64 d),(4,.func (.func 47) #[.pointer e] #[]),(10,.int .i64 f),(11,.bool false),(12,.int .i64 g),(13,.int .i64 i)] j)
theorem aT.b2:(aU none [] prog 178 aT.k (lB (bB (sL (sR (sR (sR (sR (body Tryz.f129)))))))) aT.u2 Q [(0,.slice a b c),(1,.int .i64 d),(4,.func (.func 47) #[.pointer e] #[]),(10,.int .i64 f),(11,.bool false),(12,.int .i64 g),(13,.int .i64 i)] w)=aT.B2 a b c d e f g i Q w:=by kernel_rfl
variable{a b c d e f g}
theorem aT.gI(I:Int->World->Prop)(μ:Int->World->Nat)(s:Int){Q:aM}{w:World}(h0:I s w)
 (round:∀s w,I s w->aT.B2 a b c d e f g s (bH (aT.e2 a b c d e f g) I μ s w Q) w):Holds none [] prog 178 (.loop (lB (bB (sL (sR (sR (sR (sR (body Tryz.f129))))))))) Q (aT.e2 a b c d e f g s) w:=
 ba ng mix (aT.e2 a b c d e f g) I μ aT.k aT.u2 s (fun s Q w=>aT.B2 a b c d e f g s Q w) (fun s Q w=>aT.b2 a b c d e f g s Q w) h0 round
end
section
variable(a:OA)(b c:Nat)(d:Int)(e:OA)(f g i:Int)(K:KT)(w:World)
def aT.iE:Prop:=
 Split (decide (g>i)) (let j:=w.drew;(0<=d/\d<(b:Int))/\Is a fun k:Addr=>∃m:AV,(m.size=32/\Cells j (k.add (d.toNat*32)) m)/\(0<=i/\i<(b:Int))/\Is a fun n:Addr=>∃o:AV,(o.size=32/\Cells j (n.add (i.toNat*32)) o)/\(0<=i/\i<(b:Int))/\Is a fun p:Addr=>(m.size=32/\(∀q∈m.toList,q.oneCell'=true)/\∀r,r<32->Wr j ((p.add (i.toNat*32)).add r))/\let t:=setCells j (p.add (i.toNat*32)) m.toList 0;(0<=d/\d<(b:Int))/\Is a fun u:Addr=>(o.size=32/\(∀v∈o.toList,v.oneCell'=true)/\∀x,x<32->Wr t ((u.add (d.toNat*32)).add x))/\let y:=setCells t (u.add (d.toNat*32)) o.toList 0;K (.tuple #[.int .i64 i,.bool true]) y) (let z:=w.drew;(0<=i/\i<(b:Int))/\Is a fun a1:Addr=>∃b1:AV,(b1.size=32/\Cells z (a1.add (i.toNat*32)) b1)/\(0<=g/\g<(b:Int))/\Is a fun c1:Addr=>∃d1:AV,(d1.size=32/\Cells z (c1.add (g.toNat*32)) d1)/\(0<=g/\g<(b:Int))/\Is a fun e1:Addr=>(b1.size=32/\(∀f1∈b1.toList,f1.oneCell'=true)/\∀g1,g1<32->Wr z ((e1.add (g.toNat*32)).add g1))/\let i1:=setCells z (e1.add (g.toNat*32)) b1.toList 0;(0<=i/\i<(b:Int))/\Is a fun j1:Addr=>(d1.size=32/\(∀k1∈d1.toList,k1.oneCell'=true)/\∀m1,m1<32->Wr i1 ((j1.add (i.toNat*32)).add m1))/\let n1:=setCells i1 (j1.add (i.toNat*32)) d1.toList 0;Holds none [] prog 178 (.loop (lB (bB (sL (sR (sR (sR (sR (sR (sR (sR (sR (sR (body Tryz.f129)))))))))))))) (aT.q3 K) [(0,.slice a b c),(1,.int .i64 d),(4,.func (.func 47) #[.pointer e] #[]),(10,.int .i64 f),(11,.bool false),(12,.int .i64 (i64.wrap (g+(1:Int)))),(13,.int .i64 (i64.wrap (i-(1:Int))))] n1)
theorem aT.jJ:(aT.q2 K (.exit 2) [(0,.slice a b c),(1,.int .i64 d),(4,.func (.func 47) #[.pointer e] #[]),(10,.int .i64 f),(11,.bool false),(12,.int .i64 g),(13,.int .i64 i)] w)=aT.iE a b c d e f g i K w:=by kernel_rfl
end
section
variable(a:OA)(b c:Nat)(d:Int)(e:OA)(f g i:Int)(Q:aM)(w:World)
def aT.B3:Prop:=
 Holds none [] prog 178 (.loop (lB (bB (sL (bB (lB (bB (sL (sR (sR (sR (sR (sR (sR (sR (sR (sR (body Tryz.f129)))))))))))))))))) (aT.q4 Q) [(0,.slice a b c),(1,.int .i64 d),(4,.func (.func 47) #[.pointer e] #[]),(10,.int .i64 f),(11,.bool false),(12,.int .i64 g),(13,.int .i64 i)] w
theorem aT.b3:(aU none [] prog 178 aT.k (lB (bB (sL (sR (sR (sR (sR (sR (sR (sR (sR (sR (body Tryz.f129))))))))))))) aT.u3 Q [(0,.slice a b c),(1,.int .i64 d),(4,.func (.func 47) #[.pointer e] #[]),(10,.int .i64 f),(11,.bool false),(12,.int .i64 g),(13,.int .i64 i)] w)=aT.B3 a b c d e f g i Q w:=by kernel_rfl
variable{a b c d e f}
theorem aT.rr(I:Int×Int->World->Prop)(μ:Int×Int->World->Nat)(s:Int×Int){Q:aM}{w:World}(h0:I s w)
 (round:∀s w,I s w->aT.B3 a b c d e f (s.1) (s.2) (bH (aT.e3 a b c d e f) I μ s w Q) w):Holds none [] prog 178 (.loop (lB (bB (sL (sR (sR (sR (sR (sR (sR (sR (sR (sR (body Tryz.f129)))))))))))))) Q (aT.e3 a b c d e f s) w:=
 ba ng mix (aT.e3 a b c d e f) I μ aT.k aT.u3 s (fun s Q w=>aT.B3 a b c d e f (s.1) (s.2) Q w) (fun s Q w=>aT.b3 a b c d e f (s.1) (s.2) Q w) h0 round
end
section
variable(a:OA)(b c:Nat)(d:Int)(e:OA)(f g i:Int)(Q:aM)(w:World)
def aT.B4:Prop:=
 let j:=w.drew;Split (decide (g<=i)) ((0<=g/\g<(b:Int))/\Is a fun k:Addr=>∃m:AV,(m.size=32/\Cells j (k.add (g.toNat*32)) m)/\(0<=d/\d<(b:Int))/\Is a fun n:Addr=>∃o:AV,(o.size=32/\Cells j (n.add (d.toNat*32)) o)/\bj prog 47 #[.pointer e,.agg m,.agg o] j fun p q=>∃r:Int,p=.int .i64 r/\Split (decide (r<(0:Int))) (Q .normal [(0,.slice a b c),(1,.int .i64 d),(4,.func (.func 47) #[.pointer e] #[]),(10,.int .i64 f),(11,.bool false),(12,.int .i64 (i64.wrap (g+(1:Int)))),(13,.int .i64 i)] q) (Q (.exit 6) [(0,.slice a b c),(1,.int .i64 d),(4,.func (.func 47) #[.pointer e] #[]),(10,.int .i64 f),(11,.bool false),(12,.int .i64 g),(13,.int .i64 i)] q)) (Q (.exit 6) [(0,.slice a b c),(1,.int .i64 d),(4,.func (.func 47) #[.pointer e] #[]),(10,.int .i64 f),(11,.bool false),(12,.int .i64 g),(13,.int .i64 i)] j)
theorem aT.b4:(aU none [] prog 178 aT.k (lB (bB (sL (bB (lB (bB (sL (sR (sR (sR (sR (sR (sR (sR (sR (sR (body Tryz.f129))))))))))))))))) aT.u4 Q [(0,.slice a b c),(1,.int .i64 d),(4,.func (.func 47) #[.pointer e] #[]),(10,.int .i64 f),(11,.bool false),(12,.int .i64 g),(13,.int .i64 i)] w)=aT.B4 a b c d e f g i Q w:=by kernel_rfl
variable{a b c d e f i}
theorem aT.zz(I:Int->World->Prop)(μ:Int->World->Nat)(s:Int){Q:aM}{w:World}(h0:I s w)
 (round:∀s w,I s w->aT.B4 a b c d e f s i (bH (aT.e4 a b c d e f i) I μ s w Q) w):Holds none [] prog 178 (.loop (lB (bB (sL (bB (lB (bB (sL (sR (sR (sR (sR (sR (sR (sR (sR (sR (body Tryz.f129)))))))))))))))))) Q (aT.e4 a b c d e f i s) w:=
 ba ng mix (aT.e4 a b c d e f i) I μ aT.k aT.u4 s (fun s Q w=>aT.B4 a b c d e f s i Q w) (fun s Q w=>aT.b4 a b c d e f s i Q w) h0 round
end
section
variable(a:OA)(b c:Nat)(d:Int)(e:OA)(f g i:Int)(Q:aM)(w:World)
def aT.vD:Prop:=
 Holds none [] prog 178 (.loop (lB (bB (sL (sR (bB (lB (bB (sL (sR (sR (sR (sR (sR (sR (sR (sR (sR (body Tryz.f129))))))))))))))))))) (aT.q5 Q) [(0,.slice a b c),(1,.int .i64 d),(4,.func (.func 47) #[.pointer e] #[]),(10,.int .i64 f),(11,.bool false),(12,.int .i64 g),(13,.int .i64 i)] w
theorem aT.Br:(aT.q4 Q (.exit 6) [(0,.slice a b c),(1,.int .i64 d),(4,.func (.func 47) #[.pointer e] #[]),(10,.int .i64 f),(11,.bool false),(12,.int .i64 g),(13,.int .i64 i)] w)=aT.vD a b c d e f g i Q w:=by kernel_rfl
end
section
variable(a:OA)(b c:Nat)(d:Int)(e:OA)(f g i:Int)(Q:aM)(w:World)
def aT.B5:Prop:=
 let j:=w.drew;Split (decide (g<=i)) ((0<=i/\i<(b:Int))/\Is a fun k:Addr=>∃m:AV,(m.size=32/\Cells j (k.add (i.toNat*32)) m)/\(0<=d/\d<(b:Int))/\Is a fun n:Addr=>∃o:AV,(o.size=32/\Cells j (n.add (d.toNat*32)) o)/\bj prog 47 #[.pointer e,.agg m,.agg o] j fun p q=>∃r:Int,p=.int .i64 r/\Split (!(decide (r<(0:Int)))) (Q .normal [(0,.slice a b c),(1,.int .i64 d),(4,.func (.func 47) #[.pointer e] #[]),(10,.int .i64 f),(11,.bool false),(12,.int .i64 g),(13,.int .i64 (i64.wrap (i-(1:Int))))] q) (Q (.exit 8) [(0,.slice a b c),(1,.int .i64 d),(4,.func (.func 47) #[.pointer e] #[]),(10,.int .i64 f),(11,.bool false),(12,.int .i64 g),(13,.int .i64 i)] q)) (Q (.exit 8) [(0,.slice a b c),(1,.int .i64 d),(4,.func (.func 47) #[.pointer e] #[]),(10,.int .i64 f),(11,.bool false),(12,.int .i64 g),(13,.int .i64 i)] j)
theorem aT.b5:(aU none [] prog 178 aT.k (lB (bB (sL (sR (bB (lB (bB (sL (sR (sR (sR (sR (sR (sR (sR (sR (sR (body Tryz.f129)))))))))))))))))) aT.u5 Q [(0,.slice a b c),(1,.int .i64 d),(4,.func (.func 47) #[.pointer e] #[]),(10,.int .i64 f),(11,.bool false),(12,.int .i64 g),(13,.int .i64 i)] w)=aT.B5 a b c d e f g i Q w:=by kernel_rfl
variable{a b c d e f g}
theorem aT.H7(I:Int->World->Prop)(μ:Int->World->Nat)(s:Int){Q:aM}{w:World}(h0:I s w)
 (round:∀s w,I s w->aT.B5 a b c d e f g s (bH (aT.e5 a b c d e f g) I μ s w Q) w):Holds none [] prog 178 (.loop (lB (bB (sL (sR (bB (lB (bB (sL (sR (sR (sR (sR (sR (sR (sR (sR (sR (body Tryz.f129))))))))))))))))))) Q (aT.e5 a b c d e f g s) w:=
 ba ng mix (aT.e5 a b c d e f g) I μ aT.k aT.u5 s (fun s Q w=>aT.B5 a b c d e f g s Q w) (fun s Q w=>aT.b5 a b c d e f g s Q w) h0 round
end
section
variable(a:OA)(b c:Nat)(d:Int)(e:OA)(f g i:Int)(Q:aM)(w:World)
def aT.AY:Prop:=
 Split (decide (g>i)) (Q (.exit 4) [(0,.slice a b c),(1,.int .i64 d),(4,.func (.func 47) #[.pointer e] #[]),(10,.int .i64 f),(11,.bool false),(12,.int .i64 g),(13,.int .i64 i)] w) (let j:=w.drew;(0<=i/\i<(b:Int))/\Is a fun k:Addr=>∃m:AV,(m.size=32/\Cells j (k.add (i.toNat*32)) m)/\(0<=g/\g<(b:Int))/\Is a fun n:Addr=>∃o:AV,(o.size=32/\Cells j (n.add (g.toNat*32)) o)/\(0<=g/\g<(b:Int))/\Is a fun p:Addr=>(m.size=32/\(∀q∈m.toList,q.oneCell'=true)/\∀r,r<32->Wr j ((p.add (g.toNat*32)).add r))/\let t:=setCells j (p.add (g.toNat*32)) m.toList 0;(0<=i/\i<(b:Int))/\Is a fun u:Addr=>(o.size=32/\(∀v∈o.toList,v.oneCell'=true)/\∀x,x<32->Wr t ((u.add (i.toNat*32)).add x))/\let y:=setCells t (u.add (i.toNat*32)) o.toList 0;Q .normal [(0,.slice a b c),(1,.int .i64 d),(4,.func (.func 47) #[.pointer e] #[]),(10,.int .i64 f),(11,.bool false),(12,.int .i64 (i64.wrap (g+(1:Int)))),(13,.int .i64 (i64.wrap (i-(1:Int))))] y)
theorem aT.KU:(aT.q5 Q (.exit 8) [(0,.slice a b c),(1,.int .i64 d),(4,.func (.func 47) #[.pointer e] #[]),(10,.int .i64 f),(11,.bool false),(12,.int .i64 g),(13,.int .i64 i)] w)=aT.AY a b c d e f g i Q w:=by kernel_rfl
end
section
def aT.rU(a:OA)(b c:Nat)(d:Int)(e:OA)(f g i:Int)(K:KT)(w:World):Prop:=
 let j:=w.drew;(0<=d/\d<(b:Int))/\Is a fun k:Addr=>∃m:AV,(m.size=32/\Cells j (k.add (d.toNat*32)) m)/\(0<=i/\i<(b:Int))/\Is a fun n:Addr=>∃o:AV,(o.size=32/\Cells j (n.add (i.toNat*32)) o)/\(0<=i/\i<(b:Int))/\Is a fun p:Addr=>(m.size=32/\(∀q∈m.toList,q.oneCell'=true)/\∀r,r<32->Wr j ((p.add (i.toNat*32)).add r))/\let t:=setCells j (p.add (i.toNat*32)) m.toList 0;(0<=d/\d<(b:Int))/\Is a fun u:Addr=>(o.size=32/\(∀v∈o.toList,v.oneCell'=true)/\∀x,x<32->Wr t ((u.add (d.toNat*32)).add x))/\let y:=setCells t (u.add (d.toNat*32)) o.toList 0;K (.tuple #[.int .i64 i,.bool false]) y
variable(a:OA)(b c:Nat)(d:Int)(e:OA)(f g i:Int)(K:KT)(w:World)
theorem aT.xD:(aT.q3 K (.exit 4) [(0,.slice a b c),(1,.int .i64 d),(4,.func (.func 47) #[.pointer e] #[]),(10,.int .i64 f),(11,.bool false),(12,.int .i64 g),(13,.int .i64 i)] w)=aT.rU a b c d e f g i K w:=by kernel_rfl
end
def bN.k:List Nat:= [5,6]
def bN.q1(K:KT):aM:=(aL 0 (aN f135) (bI prog f135 K))
def bN.e1(a:OA)(b c:Nat)(d e:Int)(f:OA)(s:Int):Env:= [(0,.slice a b c),(2,.int .i64 d),(3,.int .i64 e),(4,.func (.func 47) #[.pointer f] #[]),(10,.int .i64 s)]
def bN.u1:List Nat:= [0,2,3,4,10]
section
variable(a:OA)(b d:Nat)(e f g:Int)(i:OA)(K:KT)(w:World)
def bN.W:Prop:=
 Holds none [] prog 82 (.loop (lB (bB (sR (body f135))))) (bN.q1 K) [(0,.slice a b d),(2,.int .i64 f),(3,.int .i64 g),(4,.func (.func 47) #[.pointer i] #[]),(10,.int .i64 e)] w
variable{a b d e f g i K w}
theorem bN.of(h:bN.W a b d e f g i K w):bj prog 135 #[.slice a b d,.int .i64 e,.int .i64 f,.int .i64 g,.func (.func 47) #[.pointer i] #[]] w K:=
 rqq func135 (C:=bN.k) h
end
section
variable(a:OA)(b c:Nat)(d e:Int)(f:OA)(g:Int)(Q:aM)(w:World)
def bN.B1:Prop:=
 Split (decide ((i64.wrap ((i64.wrap ((2:Int)*g))+(1:Int)))>=d)) (Q (.exit 0) [(0,.slice a b c),(2,.int .i64 d),(3,.int .i64 e),(4,.func (.func 47) #[.pointer f] #[]),(10,.int .i64 g),(11,.int .i64 (i64.wrap ((i64.wrap ((2:Int)*g))+(1:Int))))] w) (let i:=w.drew;Split (decide ((i64.wrap ((i64.wrap ((i64.wrap ((2:Int)*g))+(1:Int)))+(1:Int)))<d)) ((0<=(i64.wrap (e+(i64.wrap ((i64.wrap ((2:Int)*g))+(1:Int)))))/\(i64.wrap (e+(i64.wrap ((i64.wrap ((2:Int)*g))+(1:Int)))))<(b:Int))/\Is a fun j:Addr=>∃k:AV,(k.size=32/\Cells i (j.add ((i64.wrap (e+(i64.wrap ((i64.wrap ((2:Int)*g))+(1:Int))))).toNat*32)) k)/\(0<=(i64.wrap ((i64.wrap (e+(i64.wrap ((i64.wrap ((2:Int)*g))+(1:Int)))))+(1:Int)))/\(i64.wrap ((i64.wrap (e+(i64.wrap ((i64.wrap ((2:Int)*g))+(1:Int)))))+(1:Int)))<(b:Int))/\Is a fun m:Addr=>∃n:AV,(n.size=32/\Cells i (m.add ((i64.wrap ((i64.wrap (e+(i64.wrap ((i64.wrap ((2:Int)*g))+(1:Int)))))+(1:Int))).toNat*32)) n)/\bj prog 47 #[.pointer f,.agg k,.agg n] i fun o p=>∃q:Int,o=.int .i64 q/\Split (decide (q<(0:Int))) (Holds none [] prog 82 (sR (sR (sR (bB (lB (bB (sR (body f135)))))))) (aL 1 bN.u1 Q) [(0,.slice a b c),(2,.int .i64 d),(3,.int .i64 e),(4,.func (.func 47) #[.pointer f] #[]),(10,.int .i64 g),(11,.int .i64 (i64.wrap ((i64.wrap ((i64.wrap ((2:Int)*g))+(1:Int)))+(1:Int))))] p) (Holds none [] prog 82 (sR (sR (sR (bB (lB (bB (sR (body f135)))))))) (aL 1 bN.u1 Q) [(0,.slice a b c),(2,.int .i64 d),(3,.int .i64 e),(4,.func (.func 47) #[.pointer f] #[]),(10,.int .i64 g),(11,.int .i64 (i64.wrap ((i64.wrap ((2:Int)*g))+(1:Int))))] p)) (Holds none [] prog 82 (sR (sR (sR (bB (lB (bB (sR (body f135)))))))) (aL 1 bN.u1 Q) [(0,.slice a b c),(2,.int .i64 d),(3,.int .i64 e),(4,.func (.func 47) #[.pointer f] #[]),(10,.int .i64 g),(11,.int .i64 (i64.wrap ((i64.wrap ((2:Int)*g))+(1:Int))))] i))
theorem bN.b1:(aU none [] prog 82 bN.k (lB (bB (sR (body f135)))) bN.u1 Q [(0,.slice a b c),(2,.int .i64 d),(3,.int .i64 e),(4,.func (.func 47) #[.pointer f] #[]),(10,.int .i64 g)] w)=bN.B1 a b c d e f g Q w:=by kernel_rfl
variable{a b c d e f}
theorem bN.b6(I:Int->World->Prop)(μ:Int->World->Nat)(s:Int){Q:aM}{w:World}(h0:I s w)
 (round:∀s w,I s w->bN.B1 a b c d e f s (bH (bN.e1 a b c d e f) I μ s w Q) w):Holds none [] prog 82 (.loop (lB (bB (sR (body f135))))) Q (bN.e1 a b c d e f s) w:=
 ba ng mix (bN.e1 a b c d e f) I μ bN.k bN.u1 s (fun s Q w=>bN.B1 a b c d e f s Q w) (fun s Q w=>bN.b1 a b c d e f s Q w) h0 round
end
section
def bN.cI(a:OA)(b c:Nat)(d e:Int)(f:OA)(g i:Int)(K:KT)(w:World):Prop:=
 K (.tuple #[]) w
variable(a:OA)(b c:Nat)(d e:Int)(f:OA)(g i:Int)(K:KT)(w:World)
theorem bN.cX:(bN.q1 K (.exit 0) [(0,.slice a b c),(2,.int .i64 d),(3,.int .i64 e),(4,.func (.func 47) #[.pointer f] #[]),(10,.int .i64 g),(11,.int .i64 i)] w)=bN.cI a b c d e f g i K w:=by kernel_rfl
end
section
variable(a:OA)(b c:Nat)(d e:Int)(f:OA)(g i:Int)(Q:aM)(w:World)
def bN.J1:Prop:=
 let j:=w.drew;(0<=(i64.wrap (e+g))/\(i64.wrap (e+g))<(b:Int))/\Is a fun k:Addr=>∃m:AV,(m.size=32/\Cells j (k.add ((i64.wrap (e+g)).toNat*32)) m)/\(0<=(i64.wrap (e+i))/\(i64.wrap (e+i))<(b:Int))/\Is a fun n:Addr=>∃o:AV,(o.size=32/\Cells j (n.add ((i64.wrap (e+i)).toNat*32)) o)/\bj prog 47 #[.pointer f,.agg m,.agg o] j fun p q=>∃r:Int,p=.int .i64 r/\Split (!(decide (r<(0:Int)))) (Q .ret [(0,.slice a b c),(2,.int .i64 d),(3,.int .i64 e),(4,.func (.func 47) #[.pointer f] #[]),(10,.int .i64 g),(11,.int .i64 i)] q) (Holds none [] prog 82 (sR (sR (sR (sR (bB (lB (bB (sR (body f135))))))))) (aL 1 bN.u1 Q) [(0,.slice a b c),(2,.int .i64 d),(3,.int .i64 e),(4,.func (.func 47) #[.pointer f] #[]),(10,.int .i64 g),(11,.int .i64 i)] q)
theorem bN.j1:(aU none [] prog 82 bN.k (sR (sR (sR (bB (lB (bB (sR (body f135)))))))) bN.u1 (aL 1 bN.u1 Q) [(0,.slice a b c),(2,.int .i64 d),(3,.int .i64 e),(4,.func (.func 47) #[.pointer f] #[]),(10,.int .i64 g),(11,.int .i64 i)] w)=bN.J1 a b c d e f g i Q w:=by kernel_rfl
variable{a b c d e f g i Q w}
theorem bN.ox(h:bN.J1 a b c d e f g i Q w):Holds none [] prog 82 (sR (sR (sR (bB (lB (bB (sR (body f135)))))))) (aL 1 bN.u1 Q) [(0,.slice a b c),(2,.int .i64 d),(3,.int .i64 e),(4,.func (.func 47) #[.pointer f] #[]),(10,.int .i64 g),(11,.int .i64 i)] w:=
 cK (C:=bN.k) ng mix (bN.j1 a b c d e f g i Q w) h
end
section
variable(a:OA)(b c:Nat)(d e:Int)(f:OA)(g i:Int)(Q:aM)(w:World)
def bN.J2:Prop:=
 let j:=w.drew;(0<=(i64.wrap (e+i))/\(i64.wrap (e+i))<(b:Int))/\Is a fun k:Addr=>∃m:AV,(m.size=32/\Cells j (k.add ((i64.wrap (e+i)).toNat*32)) m)/\(0<=(i64.wrap (e+g))/\(i64.wrap (e+g))<(b:Int))/\Is a fun n:Addr=>∃o:AV,(o.size=32/\Cells j (n.add ((i64.wrap (e+g)).toNat*32)) o)/\(0<=(i64.wrap (e+g))/\(i64.wrap (e+g))<(b:Int))/\Is a fun p:Addr=>(m.size=32/\(∀q∈m.toList,q.oneCell'=true)/\∀r,r<32->Wr j ((p.add ((i64.wrap (e+g)).toNat*32)).add r))/\let t:=setCells j (p.add ((i64.wrap (e+g)).toNat*32)) m.toList 0;(0<=(i64.wrap (e+i))/\(i64.wrap (e+i))<(b:Int))/\Is a fun u:Addr=>(o.size=32/\(∀v∈o.toList,v.oneCell'=true)/\∀x,x<32->Wr t ((u.add ((i64.wrap (e+i)).toNat*32)).add x))/\let y:=setCells t (u.add ((i64.wrap (e+i)).toNat*32)) o.toList 0;Q .normal [(0,.slice a b c),(2,.int .i64 d),(3,.int .i64 e),(4,.func (.func 47) #[.pointer f] #[]),(10,.int .i64 i)] y
theorem bN.j2:(aU none [] prog 82 bN.k (sR (sR (sR (sR (bB (lB (bB (sR (body f135))))))))) bN.u1 (aL 1 bN.u1 Q) [(0,.slice a b c),(2,.int .i64 d),(3,.int .i64 e),(4,.func (.func 47) #[.pointer f] #[]),(10,.int .i64 g),(11,.int .i64 i)] w)=bN.J2 a b c d e f g i Q w:=by kernel_rfl
variable{a b c d e f g i Q w}
theorem bN.qj(h:bN.J2 a b c d e f g i Q w):Holds none [] prog 82 (sR (sR (sR (sR (bB (lB (bB (sR (body f135))))))))) (aL 1 bN.u1 Q) [(0,.slice a b c),(2,.int .i64 d),(3,.int .i64 e),(4,.func (.func 47) #[.pointer f] #[]),(10,.int .i64 g),(11,.int .i64 i)] w:=
 cK (C:=bN.k) ng mix (bN.j2 a b c d e f g i Q w) h
end
section
variable(a:OA)(b d:Nat)(e:Int)(f g:OA)(K:KT)(w:World)
variable{a b d e f g K w}
end
def sk.k:List Nat:= []
section
variable(a:OA)(b d:Nat)(e f g:Int)(i j:OA)(K:KT)(w:World)
def sk.W:Prop:=
 bj prog 141 #[.slice a b d,.int .i64 e,.int .i64 f,.pointer i,.func (.func 47) #[.pointer j] #[]] w fun k m=>∃n o:Int,k=.tuple #[.int .i64 n,.int .i64 o]/\bj prog 141 #[.slice a b d,.int .i64 o,.int .i64 g,.pointer i,.func (.func 47) #[.pointer j] #[]] m fun p q=>∃r t:Int,p=.tuple #[.int .i64 r,.int .i64 t]/\bj prog 141 #[.slice a b d,.int .i64 n,.int .i64 r,.pointer i,.func (.func 47) #[.pointer j] #[]] q fun u v=>∃x y:Int,u=.tuple #[.int .i64 x,.int .i64 y]/\K (.int .i64 y) v
variable{a b d e f g i j K w}
theorem sk.of(h:sk.W a b d e f g i j K w):bj prog 139 #[.slice a b d,.int .i64 e,.int .i64 f,.int .i64 g,.pointer i,.func (.func 47) #[.pointer j] #[]] w K:=
 rqq func139 (C:=sk.k) h
end
def sj.k:List Nat:= []
section
def sj.W(a:OA)(b d:Nat)(e f:Int)(g i:OA)(K:KT)(w:World):Prop:=
 let j:=w.drew;(0<=f/\f<(b:Int))/\Is a fun k:Addr=>∃m:AV,(m.size=32/\Cells j (k.add (f.toNat*32)) m)/\(0<=e/\e<(b:Int))/\Is a fun n:Addr=>∃o:AV,(o.size=32/\Cells j (n.add (e.toNat*32)) o)/\bj prog 47 #[.pointer i,.agg m,.agg o] j fun p q=>∃r:Int,p=.int .i64 r/\Split (decide (r<(0:Int))) (Is g fun t:Addr=>∃u:Int,q.cell? t=some (.int .i64 u)/\Is g fun v:Addr=>Wr q v/\let x:=q.setCell v (.int .i64 (i64.wrap (u+(1:Int))));K (.tuple #[.int .i64 f,.int .i64 e]) x) (K (.tuple #[.int .i64 e,.int .i64 f]) q)
variable(a:OA)(b d:Nat)(e f:Int)(g i:OA)(K:KT)(w:World)
variable{a b d e f g i K w}
theorem sj.of(h:sj.W a b d e f g i K w):bj prog 141 #[.slice a b d,.int .i64 e,.int .i64 f,.pointer g,.func (.func 47) #[.pointer i] #[]] w K:=
 rqq func141 (C:=sj.k) h
end
end Go.Proofs.YtnboahlopghcjaaGreatDoor
