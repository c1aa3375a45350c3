import Derived.Test.YtnboahlopghcjaaGreatDoorProg
import Derived.Test.YtnboahlopghcjaaGreatDoorMA
import Derived.Test.YtnboahlopghcjaaGreatDoorMB
set_option linter.unusedVariables false
namespace Go.Proofs.YtnboahlopghcjaaGreatDoor
open Go.Proofs.Tryz
open Go Go.bp
def mi.k:List Nat:= []
section
variable(a:OA)(b:Nat)(d:Nat)(e:OA)(K:KT)(w:World)
def mi.W:Prop:=
 aY prog 106 #[.int .u64 (IntKind.u64.wrap (b:Int))] w fun f g=> ∃i:Int,f=.int .i64 i/\aY prog 105 #[.slice a b d,.int .i64 0,.int .i64 (b:Int),.int .i64 i,.func (.func 47) #[.pointer e] #[]] g fun j k=>j=.tuple #[]/\K (.tuple #[]) k
variable{a b d e K w}
theorem mi.of(h:mi.W a b d e K w):aY prog 72 #[.slice a b d,.func (.func 47) #[.pointer e] #[]] w K:=
 aH (C:=mi.k) (c:=body f72) ng mix func72 (by kernel_rfl) (by kernel_rfl) (by kernel_rfl) h
end
def au.k:List Nat:= [10,11,13,14,15,17,20,21,22,23,24,26,27,29,30]
def au.q1(K:KT):aJ:=(aK 0 (aO f105) (bG prog f105 K))
def au.e1(a:OA)(b:Nat)(c:Nat)(d:OA)(s:Int×Int×Int×Bool×Bool):Env:= [(0,.slice a b c),(1,.int .i64 s.1),(2,.int .i64 s.2.1),(3,.int .i64 s.2.2.1),(4,.func (.func 47) #[.pointer d] #[]),(10,.bool s.2.2.2.1),(11,.bool s.2.2.2.2)]
def au.u1:List Nat:= [0,1,2,3,4,10,11]
section
variable(a:OA)(b:Nat)(d:Nat)(e:Int)(f:Int)(g:Int)(i:OA)(K:KT)(w:World)
def au.W:Prop:=
 Holds none [] prog 148 (.loop (lB (bB (sR (sR (body f105)))))) (au.q1 K) [(0,.slice a b d),(1,.int .i64 e),(2,.int .i64 f),(3,.int .i64 g),(4,.func (.func 47) #[.pointer i] #[]),(10,.bool true),(11,.bool true)] w
variable{a b d e f g i K w}
theorem au.of(h:au.W a b d e f g i K w):aY prog 105 #[.slice a b d,.int .i64 e,.int .i64 f,.int .i64 g,.func (.func 47) #[.pointer i] #[]] w K:=
 aH (C:=au.k) (c:=body f105) ng mix func105 (by kernel_rfl) (by kernel_rfl) (by kernel_rfl) h
end
section
variable(a:OA)(b:Nat)(c:Nat)(d:Int)(e:Int)(f:Int)(g:OA)(i:Bool)(j:Bool)(Q:aJ)(w:World)
def au.B1:Prop:=
 Split (decide ((IntKind.i64.wrap (e-d))<=(12:Int))) (aY prog 122 #[.slice a b c,.int .i64 d,.int .i64 e,.func (.func 47) #[.pointer g] #[]] w fun k m=>k=.tuple #[]/\Q .ret [(0,.slice a b c),(1,.int .i64 d),(2,.int .i64 e),(3,.int .i64 f),(4,.func (.func 47) #[.pointer g] #[]),(10,.bool i),(11,.bool j),(12,.int .i64 (IntKind.i64.wrap (e-d)))] m) (Split (f==(0:Int)) (aY prog 123 #[.slice a b c,.int .i64 d,.int .i64 e,.func (.func 47) #[.pointer g] #[]] w fun n o=>n=.tuple #[]/\Q .ret [(0,.slice a b c),(1,.int .i64 d),(2,.int .i64 e),(3,.int .i64 f),(4,.func (.func 47) #[.pointer g] #[]),(10,.bool i),(11,.bool j),(12,.int .i64 (IntKind.i64.wrap (e-d)))] o) (Split (!i) (aY prog 124 #[.slice a b c,.int .i64 d,.int .i64 e,.func (.func 47) #[.pointer g] #[]] w fun p q=>p=.tuple #[]/\Holds none [] prog 148 (sR (sR (sR (sR (bB (lB (bB (sR (sR (body f105)))))))))) (aK 1 au.u1 Q) [(0,.slice a b c),(1,.int .i64 d),(2,.int .i64 e),(3,.int .i64 (IntKind.i64.wrap (f-(1:Int)))),(4,.func (.func 47) #[.pointer g] #[]),(10,.bool i),(11,.bool j),(12,.int .i64 (IntKind.i64.wrap (e-d)))] q) (Holds none [] prog 148 (sR (sR (sR (sR (bB (lB (bB (sR (sR (body f105)))))))))) (aK 1 au.u1 Q) [(0,.slice a b c),(1,.int .i64 d),(2,.int .i64 e),(3,.int .i64 f),(4,.func (.func 47) #[.pointer g] #[]),(10,.bool i),(11,.bool j),(12,.int .i64 (IntKind.i64.wrap (e-d)))] w)))
theorem au.b1:(aT none [] prog 148 au.k (lB (bB (sR (sR (body f105))))) au.u1 Q [(0,.slice a b c),(1,.int .i64 d),(2,.int .i64 e),(3,.int .i64 f),(4,.func (.func 47) #[.pointer g] #[]),(10,.bool i),(11,.bool j)] w)=au.B1 a b c d e f g i j Q w:=by kernel_rfl
variable{a b c g}
theorem au.bU(I:Int×Int×Int×Bool×Bool->World->Prop)(μ:Int×Int×Int×Bool×Bool->World->Nat)(s:Int×Int×Int×Bool×Bool){Q:aJ}{w:World}(h0:I s w)
 (round: ∀s w,I s w->au.B1 a b c (s.1) (s.2.1) (s.2.2.1) g (s.2.2.2.1) (s.2.2.2.2) (bF (au.e1 a b c g) I μ s w Q) w):Holds none [] prog 148 (.loop (lB (bB (sR (sR (body f105)))))) Q (au.e1 a b c g s) w:=
 ba ng mix (au.e1 a b c g) I μ au.k au.u1 s (fun s Q w=>au.B1 a b c (s.1) (s.2.1) (s.2.2.1) g (s.2.2.2.1) (s.2.2.2.2) Q w) (fun s Q w=>au.b1 a b c (s.1) (s.2.1) (s.2.2.1) g (s.2.2.2.1) (s.2.2.2.2) Q w) h0 round
end
section
variable(a:OA)(b:Nat)(c:Nat)(d:Int)(e:Int)(f:Int)(g:OA)(i:Bool)(j:Bool)(k:Int)(Q:aJ)(w:World)
def au.J1:Prop:=
 aY prog 125 #[.slice a b c,.int .i64 d,.int .i64 e,.func (.func 47) #[.pointer g] #[]] w fun m n=> ∃o:Int,∃p:Int,m=.tuple #[.int .i64 o,.int .i64 p]/\Holds none [] prog 148 (sR (sR (sR (sR (sR (bB (lB (bB (sR (sR (body f105))))))))))) (aK 1 au.u1 Q) [(0,.slice a b c),(1,.int .i64 d),(2,.int .i64 e),(3,.int .i64 f),(4,.func (.func 47) #[.pointer g] #[]),(10,.bool i),(11,.bool j),(12,.int .i64 k),(13,.int .i64 o),(14,.int .i64 p)] n
theorem au.j1:(aT none [] prog 148 au.k (sR (sR (sR (sR (bB (lB (bB (sR (sR (body f105)))))))))) au.u1 (aK 1 au.u1 Q) [(0,.slice a b c),(1,.int .i64 d),(2,.int .i64 e),(3,.int .i64 f),(4,.func (.func 47) #[.pointer g] #[]),(10,.bool i),(11,.bool j),(12,.int .i64 k)] w)=au.J1 a b c d e f g i j k Q w:=by kernel_rfl
variable{a b c d e f g i j k Q w}
theorem au.sS(h:au.J1 a b c d e f g i j k Q w):Holds none [] prog 148 (sR (sR (sR (sR (bB (lB (bB (sR (sR (body f105)))))))))) (aK 1 au.u1 Q) [(0,.slice a b c),(1,.int .i64 d),(2,.int .i64 e),(3,.int .i64 f),(4,.func (.func 47) #[.pointer g] #[]),(10,.bool i),(11,.bool j),(12,.int .i64 k)] w:=
 cf (C:=au.k) ng mix (au.j1 a b c d e f g i j k Q w) h
end
section
variable(a:OA)(b:Nat)(c:Nat)(d:Int)(e:Int)(f:Int)(g:OA)(i:Bool)(j:Bool)(k:Int)(m:Int)(n:Int)(Q:aJ)(w:World)
def au.J2:Prop:=
 Split (n==(2:Int)) (aY prog 126 #[.slice a b c,.int .i64 d,.int .i64 e,.func (.func 47) #[.pointer g] #[]] w fun o p=>o=.tuple #[]/\Holds none [] prog 148 (sR (cT (sR (sL (sR (sR (sR (sR (sR (bB (lB (bB (sR (sR (body f105))))))))))))))) (bN (fun bS w_=>match cutAt au.k (sR (sR (sR (sR (sR (sR (bB (lB (bB (sR (sR (body f105))))))))))))with|true=>Holds none [] prog 148 (sR (sR (sR (sR (sR (sR (bB (lB (bB (sR (sR (body f105)))))))))))) (aK 1 au.u1 Q) bS w_|false=>aT none [] prog 148 au.k (sR (sR (sR (sR (sR (sR (bB (lB (bB (sR (sR (body f105)))))))))))) au.u1 (aK 1 au.u1 Q) bS w_) (aK 1 au.u1 Q)) [(0,.slice a b c),(1,.int .i64 d),(2,.int .i64 e),(3,.int .i64 f),(4,.func (.func 47) #[.pointer g] #[]),(10,.bool i),(11,.bool j),(12,.int .i64 k),(13,.int .i64 m),(14,.int .i64 n)] p) (Holds none [] prog 148 (sR (sR (sR (sR (sR (sR (bB (lB (bB (sR (sR (body f105)))))))))))) (aK 1 au.u1 Q) [(0,.slice a b c),(1,.int .i64 d),(2,.int .i64 e),(3,.int .i64 f),(4,.func (.func 47) #[.pointer g] #[]),(10,.bool i),(11,.bool j),(12,.int .i64 k),(13,.int .i64 m),(14,.int .i64 n)] w)
theorem au.j2:(aT none [] prog 148 au.k (sR (sR (sR (sR (sR (bB (lB (bB (sR (sR (body f105))))))))))) au.u1 (aK 1 au.u1 Q) [(0,.slice a b c),(1,.int .i64 d),(2,.int .i64 e),(3,.int .i64 f),(4,.func (.func 47) #[.pointer g] #[]),(10,.bool i),(11,.bool j),(12,.int .i64 k),(13,.int .i64 m),(14,.int .i64 n)] w)=au.J2 a b c d e f g i j k m n Q w:=by kernel_rfl
variable{a b c d e f g i j k m n Q w}
theorem au.BP(h:au.J2 a b c d e f g i j k m n Q w):Holds none [] prog 148 (sR (sR (sR (sR (sR (bB (lB (bB (sR (sR (body f105))))))))))) (aK 1 au.u1 Q) [(0,.slice a b c),(1,.int .i64 d),(2,.int .i64 e),(3,.int .i64 f),(4,.func (.func 47) #[.pointer g] #[]),(10,.bool i),(11,.bool j),(12,.int .i64 k),(13,.int .i64 m),(14,.int .i64 n)] w:=
 cf (C:=au.k) ng mix (au.j2 a b c d e f g i j k m n Q w) h
end
section
variable(a:OA)(b:Nat)(c:Nat)(d:Int)(e:Int)(f:Int)(g:OA)(i:Bool)(j:Bool)(k:Int)(m:Int)(n:Int)(Q:aJ)(w:World)
def au.J3:Prop:=
 Holds none [] prog 148 (sR (sR (cT (sR (sL (sR (sR (sR (sR (sR (bB (lB (bB (sR (sR (body f105)))))))))))))))) (bN (fun bS w_=>match cutAt au.k (sR (sR (sR (sR (sR (sR (bB (lB (bB (sR (sR (body f105))))))))))))with|true=>Holds none [] prog 148 (sR (sR (sR (sR (sR (sR (bB (lB (bB (sR (sR (body f105)))))))))))) (aK 1 au.u1 Q) bS w_|false=>aT none [] prog 148 au.k (sR (sR (sR (sR (sR (sR (bB (lB (bB (sR (sR (body f105)))))))))))) au.u1 (aK 1 au.u1 Q) bS w_) (aK 1 au.u1 Q)) [(0,.slice a b c),(1,.int .i64 d),(2,.int .i64 e),(3,.int .i64 f),(4,.func (.func 47) #[.pointer g] #[]),(10,.bool i),(11,.bool j),(12,.int .i64 k),(13,.int .i64 (IntKind.i64.wrap ((IntKind.i64.wrap (e-(1:Int)))-(IntKind.i64.wrap (m-d))))),(14,.int .i64 n)] w
theorem au.j3:(aT none [] prog 148 au.k (sR (cT (sR (sL (sR (sR (sR (sR (sR (bB (lB (bB (sR (sR (body f105))))))))))))))) (bY (sR (sR (sR (sR (sR (sR (bB (lB (bB (sR (sR (body f105))))))))))))++au.u1) (bN (fun bS w_=>match cutAt au.k (sR (sR (sR (sR (sR (sR (bB (lB (bB (sR (sR (body f105))))))))))))with|true=>Holds none [] prog 148 (sR (sR (sR (sR (sR (sR (bB (lB (bB (sR (sR (body f105)))))))))))) (aK 1 au.u1 Q) bS w_|false=>aT none [] prog 148 au.k (sR (sR (sR (sR (sR (sR (bB (lB (bB (sR (sR (body f105)))))))))))) au.u1 (aK 1 au.u1 Q) bS w_) (aK 1 au.u1 Q)) [(0,.slice a b c),(1,.int .i64 d),(2,.int .i64 e),(3,.int .i64 f),(4,.func (.func 47) #[.pointer g] #[]),(10,.bool i),(11,.bool j),(12,.int .i64 k),(13,.int .i64 m),(14,.int .i64 n)] w)=au.J3 a b c d e f g i j k m n Q w:=by kernel_rfl
variable{a b c d e f g i j k m n Q w}
theorem au.Lx(h:au.J3 a b c d e f g i j k m n Q w):Holds none [] prog 148 (sR (cT (sR (sL (sR (sR (sR (sR (sR (bB (lB (bB (sR (sR (body f105))))))))))))))) (bN (fun bS w_=>match cutAt au.k (sR (sR (sR (sR (sR (sR (bB (lB (bB (sR (sR (body f105))))))))))))with|true=>Holds none [] prog 148 (sR (sR (sR (sR (sR (sR (bB (lB (bB (sR (sR (body f105)))))))))))) (aK 1 au.u1 Q) bS w_|false=>aT none [] prog 148 au.k (sR (sR (sR (sR (sR (sR (bB (lB (bB (sR (sR (body f105)))))))))))) au.u1 (aK 1 au.u1 Q) bS w_) (aK 1 au.u1 Q)) [(0,.slice a b c),(1,.int .i64 d),(2,.int .i64 e),(3,.int .i64 f),(4,.func (.func 47) #[.pointer g] #[]),(10,.bool i),(11,.bool j),(12,.int .i64 k),(13,.int .i64 m),(14,.int .i64 n)] w:=
 cf (C:=au.k) ng mix (au.j3 a b c d e f g i j k m n Q w) h
end
section
variable(a:OA)(b:Nat)(c:Nat)(d:Int)(e:Int)(f:Int)(g:OA)(i:Bool)(j:Bool)(k:Int)(m:Int)(n:Int)(Q:aJ)(w:World)
def au.J4:Prop:=
 Split i (Split j (Split (n==(1:Int)) (aY prog 127 #[.slice a b c,.int .i64 d,.int .i64 e,.func (.func 47) #[.pointer g] #[]] w fun o p=> ∃q:Bool,o=.bool q/\Split q (Q .ret [(0,.slice a b c),(1,.int .i64 d),(2,.int .i64 e),(3,.int .i64 f),(4,.func (.func 47) #[.pointer g] #[]),(10,.bool i),(11,.bool j),(12,.int .i64 k),(13,.int .i64 m)] p) (Holds none [] prog 148 (sR (sR (sR (sR (sR (sR (sR (bB (lB (bB (sR (sR (body f105))))))))))))) (aK 1 au.u1 Q) [(0,.slice a b c),(1,.int .i64 d),(2,.int .i64 e),(3,.int .i64 f),(4,.func (.func 47) #[.pointer g] #[]),(10,.bool i),(11,.bool j),(12,.int .i64 k),(13,.int .i64 m)] p)) (Holds none [] prog 148 (sR (sR (sR (sR (sR (sR (sR (bB (lB (bB (sR (sR (body f105))))))))))))) (aK 1 au.u1 Q) [(0,.slice a b c),(1,.int .i64 d),(2,.int .i64 e),(3,.int .i64 f),(4,.func (.func 47) #[.pointer g] #[]),(10,.bool i),(11,.bool j),(12,.int .i64 k),(13,.int .i64 m)] w)) (Holds none [] prog 148 (sR (sR (sR (sR (sR (sR (sR (bB (lB (bB (sR (sR (body f105))))))))))))) (aK 1 au.u1 Q) [(0,.slice a b c),(1,.int .i64 d),(2,.int .i64 e),(3,.int .i64 f),(4,.func (.func 47) #[.pointer g] #[]),(10,.bool i),(11,.bool j),(12,.int .i64 k),(13,.int .i64 m)] w)) (Holds none [] prog 148 (sR (sR (sR (sR (sR (sR (sR (bB (lB (bB (sR (sR (body f105))))))))))))) (aK 1 au.u1 Q) [(0,.slice a b c),(1,.int .i64 d),(2,.int .i64 e),(3,.int .i64 f),(4,.func (.func 47) #[.pointer g] #[]),(10,.bool i),(11,.bool j),(12,.int .i64 k),(13,.int .i64 m)] w)
theorem au.j4:(aT none [] prog 148 au.k (sR (sR (sR (sR (sR (sR (bB (lB (bB (sR (sR (body f105)))))))))))) au.u1 (aK 1 au.u1 Q) [(0,.slice a b c),(1,.int .i64 d),(2,.int .i64 e),(3,.int .i64 f),(4,.func (.func 47) #[.pointer g] #[]),(10,.bool i),(11,.bool j),(12,.int .i64 k),(13,.int .i64 m),(14,.int .i64 n)] w)=au.J4 a b c d e f g i j k m n Q w:=by kernel_rfl
variable{a b c d e f g i j k m n Q w}
theorem au.FA(h:au.J4 a b c d e f g i j k m n Q w):Holds none [] prog 148 (sR (sR (sR (sR (sR (sR (bB (lB (bB (sR (sR (body f105)))))))))))) (aK 1 au.u1 Q) [(0,.slice a b c),(1,.int .i64 d),(2,.int .i64 e),(3,.int .i64 f),(4,.func (.func 47) #[.pointer g] #[]),(10,.bool i),(11,.bool j),(12,.int .i64 k),(13,.int .i64 m),(14,.int .i64 n)] w:=
 cf (C:=au.k) ng mix (au.j4 a b c d e f g i j k m n Q w) h
end
section
def au.J5(a:OA)(b:Nat)(c:Nat)(d:Int)(e:Int)(f:Int)(g:OA)(i:Bool)(j:Bool)(k:Int)(m:Int)(n:Int)(Q:aJ)(w:World):Prop:=
 Holds none [] prog 148 (sR (sR (sR (sR (sR (sR (bB (lB (bB (sR (sR (body f105)))))))))))) (aK 1 au.u1 Q) [(0,.slice a b c),(1,.int .i64 d),(2,.int .i64 e),(3,.int .i64 f),(4,.func (.func 47) #[.pointer g] #[]),(10,.bool i),(11,.bool j),(12,.int .i64 k),(13,.int .i64 m),(14,.int .i64 1)] w
variable(a:OA)(b:Nat)(c:Nat)(d:Int)(e:Int)(f:Int)(g:OA)(i:Bool)(j:Bool)(k:Int)(m:Int)(n:Int)(Q:aJ)(w:World)
theorem au.j5:(aT none [] prog 148 au.k (sR (sR (cT (sR (sL (sR (sR (sR (sR (sR (bB (lB (bB (sR (sR (body f105)))))))))))))))) (bY (sR (sR (sR (sR (sR (sR (bB (lB (bB (sR (sR (body f105))))))))))))++au.u1) (bN (fun bS w_=>match cutAt au.k (sR (sR (sR (sR (sR (sR (bB (lB (bB (sR (sR (body f105))))))))))))with|true=>Holds none [] prog 148 (sR (sR (sR (sR (sR (sR (bB (lB (bB (sR (sR (body f105)))))))))))) (aK 1 au.u1 Q) bS w_|false=>aT none [] prog 148 au.k (sR (sR (sR (sR (sR (sR (bB (lB (bB (sR (sR (body f105)))))))))))) au.u1 (aK 1 au.u1 Q) bS w_) (aK 1 au.u1 Q)) [(0,.slice a b c),(1,.int .i64 d),(2,.int .i64 e),(3,.int .i64 f),(4,.func (.func 47) #[.pointer g] #[]),(10,.bool i),(11,.bool j),(12,.int .i64 k),(13,.int .i64 m),(14,.int .i64 n)] w)=au.J5 a b c d e f g i j k m n Q w:=by kernel_rfl
variable{a b c d e f g i j k m n Q w}
theorem au.Lw(h:au.J5 a b c d e f g i j k m n Q w):Holds none [] prog 148 (sR (sR (cT (sR (sL (sR (sR (sR (sR (sR (bB (lB (bB (sR (sR (body f105)))))))))))))))) (bN (fun bS w_=>match cutAt au.k (sR (sR (sR (sR (sR (sR (bB (lB (bB (sR (sR (body f105))))))))))))with|true=>Holds none [] prog 148 (sR (sR (sR (sR (sR (sR (bB (lB (bB (sR (sR (body f105)))))))))))) (aK 1 au.u1 Q) bS w_|false=>aT none [] prog 148 au.k (sR (sR (sR (sR (sR (sR (bB (lB (bB (sR (sR (body f105)))))))))))) au.u1 (aK 1 au.u1 Q) bS w_) (aK 1 au.u1 Q)) [(0,.slice a b c),(1,.int .i64 d),(2,.int .i64 e),(3,.int .i64 f),(4,.func (.func 47) #[.pointer g] #[]),(10,.bool i),(11,.bool j),(12,.int .i64 k),(13,.int .i64 m),(14,.int .i64 n)] w:=
 cf (C:=au.k) ng mix (au.j5 a b c d e f g i j k m n Q w) h
end
section
variable(a:OA)(b:Nat)(c:Nat)(d:Int)(e:Int)(f:Int)(g:OA)(i:Bool)(j:Bool)(k:Int)(m:Int)(Q:aJ)(w:World)
def au.J6:Prop:=
 let n:=w.drew;Split (decide (d>(0:Int))) ((0<=(IntKind.i64.wrap (d-(1:Int)))/\(IntKind.i64.wrap (d-(1:Int)))<(b:Int))/\Is a fun o:Addr=> ∃p:AV,(p.size=32/\Cells n (o.add ((IntKind.i64.wrap (d-(1:Int))).toNat*32)) p)/\(0<=m/\m<(b:Int))/\Is a fun q:Addr=> ∃r:AV,(r.size=32/\Cells n (q.add (m.toNat*32)) r)/\aY prog 47 #[.pointer g,.agg p,.agg r] n fun t u=> ∃v:Int,t=.int .i64 v/\Split (!(decide (v<(0:Int)))) (aY prog 128 #[.slice a b c,.int .i64 d,.int .i64 e,.int .i64 m,.func (.func 47) #[.pointer g] #[]] u fun x y=> ∃z:Int,x=.int .i64 z/\Q .normal [(0,.slice a b c),(1,.int .i64 z),(2,.int .i64 e),(3,.int .i64 f),(4,.func (.func 47) #[.pointer g] #[]),(10,.bool i),(11,.bool j)] y) (Holds none [] prog 148 (sR (sR (sR (sR (sR (sR (sR (sR (bB (lB (bB (sR (sR (body f105)))))))))))))) (aK 1 au.u1 Q) [(0,.slice a b c),(1,.int .i64 d),(2,.int .i64 e),(3,.int .i64 f),(4,.func (.func 47) #[.pointer g] #[]),(10,.bool i),(11,.bool j),(12,.int .i64 k),(13,.int .i64 m)] u)) (Holds none [] prog 148 (sR (sR (sR (sR (sR (sR (sR (sR (bB (lB (bB (sR (sR (body f105)))))))))))))) (aK 1 au.u1 Q) [(0,.slice a b c),(1,.int .i64 d),(2,.int .i64 e),(3,.int .i64 f),(4,.func (.func 47) #[.pointer g] #[]),(10,.bool i),(11,.bool j),(12,.int .i64 k),(13,.int .i64 m)] n)
theorem au.j6:(aT none [] prog 148 au.k (sR (sR (sR (sR (sR (sR (sR (bB (lB (bB (sR (sR (body f105))))))))))))) au.u1 (aK 1 au.u1 Q) [(0,.slice a b c),(1,.int .i64 d),(2,.int .i64 e),(3,.int .i64 f),(4,.func (.func 47) #[.pointer g] #[]),(10,.bool i),(11,.bool j),(12,.int .i64 k),(13,.int .i64 m)] w)=au.J6 a b c d e f g i j k m Q w:=by kernel_rfl
variable{a b c d e f g i j k m Q w}
theorem au.Fz(h:au.J6 a b c d e f g i j k m Q w):Holds none [] prog 148 (sR (sR (sR (sR (sR (sR (sR (bB (lB (bB (sR (sR (body f105))))))))))))) (aK 1 au.u1 Q) [(0,.slice a b c),(1,.int .i64 d),(2,.int .i64 e),(3,.int .i64 f),(4,.func (.func 47) #[.pointer g] #[]),(10,.bool i),(11,.bool j),(12,.int .i64 k),(13,.int .i64 m)] w:=
 cf (C:=au.k) ng mix (au.j6 a b c d e f g i j k m Q w) h
end
section
variable(a:OA)(b:Nat)(c:Nat)(d:Int)(e:Int)(f:Int)(g:OA)(i:Bool)(j:Bool)(k:Int)(m:Int)(Q:aJ)(w:World)
def au.J7:Prop:=
 aY prog 129 #[.slice a b c,.int .i64 d,.int .i64 e,.int .i64 m,.func (.func 47) #[.pointer g] #[]] w fun n o=> ∃p:Int,∃q:Bool,n=.tuple #[.int .i64 p,.bool q]/\Holds none [] prog 148 (sR (sR (sR (sR (sR (sR (sR (sR (sR (bB (lB (bB (sR (sR (body f105))))))))))))))) (aK 1 au.u1 Q) [(0,.slice a b c),(1,.int .i64 d),(2,.int .i64 e),(3,.int .i64 f),(4,.func (.func 47) #[.pointer g] #[]),(10,.bool i),(11,.bool j),(12,.int .i64 k),(16,.int .i64 p),(17,.bool q)] o
theorem au.j7:(aT none [] prog 148 au.k (sR (sR (sR (sR (sR (sR (sR (sR (bB (lB (bB (sR (sR (body f105)))))))))))))) au.u1 (aK 1 au.u1 Q) [(0,.slice a b c),(1,.int .i64 d),(2,.int .i64 e),(3,.int .i64 f),(4,.func (.func 47) #[.pointer g] #[]),(10,.bool i),(11,.bool j),(12,.int .i64 k),(13,.int .i64 m)] w)=au.J7 a b c d e f g i j k m Q w:=by kernel_rfl
variable{a b c d e f g i j k m Q w}
theorem au.Fy(h:au.J7 a b c d e f g i j k m Q w):Holds none [] prog 148 (sR (sR (sR (sR (sR (sR (sR (sR (bB (lB (bB (sR (sR (body f105)))))))))))))) (aK 1 au.u1 Q) [(0,.slice a b c),(1,.int .i64 d),(2,.int .i64 e),(3,.int .i64 f),(4,.func (.func 47) #[.pointer g] #[]),(10,.bool i),(11,.bool j),(12,.int .i64 k),(13,.int .i64 m)] w:=
 cf (C:=au.k) ng mix (au.j7 a b c d e f g i j k m Q w) h
end
section
def au.J8(a:OA)(b:Nat)(c:Nat)(d:Int)(e:Int)(f:Int)(g:OA)(i:Bool)(j:Bool)(k:Int)(m:Int)(n:Bool)(Q:aJ)(w:World):Prop:=
 Holds none [] prog 148 (sR (sR (sR (sR (sR (sR (sR (sR (sR (sR (bB (lB (bB (sR (sR (body f105)))))))))))))))) (aK 1 au.u1 Q) [(0,.slice a b c),(1,.int .i64 d),(2,.int .i64 e),(3,.int .i64 f),(4,.func (.func 47) #[.pointer g] #[]),(10,.bool i),(11,.bool n),(12,.int .i64 k),(16,.int .i64 m)] w
variable(a:OA)(b:Nat)(c:Nat)(d:Int)(e:Int)(f:Int)(g:OA)(i:Bool)(j:Bool)(k:Int)(m:Int)(n:Bool)(Q:aJ)(w:World)
theorem au.j8:(aT none [] prog 148 au.k (sR (sR (sR (sR (sR (sR (sR (sR (sR (bB (lB (bB (sR (sR (body f105))))))))))))))) au.u1 (aK 1 au.u1 Q) [(0,.slice a b c),(1,.int .i64 d),(2,.int .i64 e),(3,.int .i64 f),(4,.func (.func 47) #[.pointer g] #[]),(10,.bool i),(11,.bool j),(12,.int .i64 k),(16,.int .i64 m),(17,.bool n)] w)=au.J8 a b c d e f g i j k m n Q w:=by kernel_rfl
variable{a b c d e f g i j k m n Q w}
theorem au.Lv(h:au.J8 a b c d e f g i j k m n Q w):Holds none [] prog 148 (sR (sR (sR (sR (sR (sR (sR (sR (sR (bB (lB (bB (sR (sR (body f105))))))))))))))) (aK 1 au.u1 Q) [(0,.slice a b c),(1,.int .i64 d),(2,.int .i64 e),(3,.int .i64 f),(4,.func (.func 47) #[.pointer g] #[]),(10,.bool i),(11,.bool j),(12,.int .i64 k),(16,.int .i64 m),(17,.bool n)] w:=
 cf (C:=au.k) ng mix (au.j8 a b c d e f g i j k m n Q w) h
end
section
variable(a:OA)(b:Nat)(c:Nat)(d:Int)(e:Int)(f:Int)(g:OA)(i:Bool)(j:Bool)(k:Int)(m:Int)(Q:aJ)(w:World)
def au.J9:Prop:=
 Holds none [] prog 148 (sR (sR (sR (sR (sR (sR (sR (sR (sR (sR (sR (bB (lB (bB (sR (sR (body f105))))))))))))))))) (aK 1 au.u1 Q) [(0,.slice a b c),(1,.int .i64 d),(2,.int .i64 e),(3,.int .i64 f),(4,.func (.func 47) #[.pointer g] #[]),(10,.bool i),(11,.bool j),(12,.int .i64 k),(16,.int .i64 m),(18,.int .i64 (IntKind.i64.wrap (m-d))),(19,.int .i64 (IntKind.i64.wrap (e-m)))] w
theorem au.j9:(aT none [] prog 148 au.k (sR (sR (sR (sR (sR (sR (sR (sR (sR (sR (bB (lB (bB (sR (sR (body f105)))))))))))))))) au.u1 (aK 1 au.u1 Q) [(0,.slice a b c),(1,.int .i64 d),(2,.int .i64 e),(3,.int .i64 f),(4,.func (.func 47) #[.pointer g] #[]),(10,.bool i),(11,.bool j),(12,.int .i64 k),(16,.int .i64 m)] w)=au.J9 a b c d e f g i j k m Q w:=by kernel_rfl
variable{a b c d e f g i j k m Q w}
theorem au.Lu(h:au.J9 a b c d e f g i j k m Q w):Holds none [] prog 148 (sR (sR (sR (sR (sR (sR (sR (sR (sR (sR (bB (lB (bB (sR (sR (body f105)))))))))))))))) (aK 1 au.u1 Q) [(0,.slice a b c),(1,.int .i64 d),(2,.int .i64 e),(3,.int .i64 f),(4,.func (.func 47) #[.pointer g] #[]),(10,.bool i),(11,.bool j),(12,.int .i64 k),(16,.int .i64 m)] w:=
 cf (C:=au.k) ng mix (au.j9 a b c d e f g i j k m Q w) h
end
section
variable(a:OA)(b:Nat)(c:Nat)(d:Int)(e:Int)(f:Int)(g:OA)(i:Bool)(j:Bool)(k:Int)(m:Int)(n:Int)(o:Int)(Q:aJ)(w:World)
def au.Uv:Prop:=
 (8:Int)≠0/\Holds none [] prog 148 (sR (sR (sR (sR (sR (sR (sR (sR (sR (sR (sR (sR (bB (lB (bB (sR (sR (body f105)))))))))))))))))) (aK 1 au.u1 Q) [(0,.slice a b c),(1,.int .i64 d),(2,.int .i64 e),(3,.int .i64 f),(4,.func (.func 47) #[.pointer g] #[]),(10,.bool i),(11,.bool j),(16,.int .i64 m),(18,.int .i64 n),(19,.int .i64 o),(20,.int .i64 (IntKind.i64.wrap (k.tdiv (8:Int))))] w
theorem au.Yu:(aT none [] prog 148 au.k (sR (sR (sR (sR (sR (sR (sR (sR (sR (sR (sR (bB (lB (bB (sR (sR (body f105))))))))))))))))) au.u1 (aK 1 au.u1 Q) [(0,.slice a b c),(1,.int .i64 d),(2,.int .i64 e),(3,.int .i64 f),(4,.func (.func 47) #[.pointer g] #[]),(10,.bool i),(11,.bool j),(12,.int .i64 k),(16,.int .i64 m),(18,.int .i64 n),(19,.int .i64 o)] w)=au.Uv a b c d e f g i j k m n o Q w:=by kernel_rfl
variable{a b c d e f g i j k m n o Q w}
theorem au.HC(h:au.Uv a b c d e f g i j k m n o Q w):Holds none [] prog 148 (sR (sR (sR (sR (sR (sR (sR (sR (sR (sR (sR (bB (lB (bB (sR (sR (body f105))))))))))))))))) (aK 1 au.u1 Q) [(0,.slice a b c),(1,.int .i64 d),(2,.int .i64 e),(3,.int .i64 f),(4,.func (.func 47) #[.pointer g] #[]),(10,.bool i),(11,.bool j),(12,.int .i64 k),(16,.int .i64 m),(18,.int .i64 n),(19,.int .i64 o)] w:=
 cf (C:=au.k) ng mix (au.Yu a b c d e f g i j k m n o Q w) h
end
section
def au.Uu(a:OA)(b:Nat)(c:Nat)(d:Int)(e:Int)(f:Int)(g:OA)(i:Bool)(j:Bool)(k:Int)(m:Int)(n:Int)(o:Int)(Q:aJ)(w:World):Prop:=
 Split (decide (m<n)) (Holds none [] prog 148 (sR (cT (sR (sR (sR (sR (sR (sR (sR (sR (sR (sR (sR (sR (sR (bB (lB (bB (sR (sR (body f105))))))))))))))))))))) (aK 1 au.u1 Q) [(0,.slice a b c),(1,.int .i64 d),(2,.int .i64 e),(3,.int .i64 f),(4,.func (.func 47) #[.pointer g] #[]),(10,.bool (decide (m>=o))),(11,.bool j),(16,.int .i64 k)] w) (Holds none [] prog 148 (sR (cE (sR (sR (sR (sR (sR (sR (sR (sR (sR (sR (sR (sR (sR (bB (lB (bB (sR (sR (body f105))))))))))))))))))))) (aK 1 au.u1 Q) [(0,.slice a b c),(1,.int .i64 d),(2,.int .i64 e),(3,.int .i64 f),(4,.func (.func 47) #[.pointer g] #[]),(10,.bool (decide (n>=o))),(11,.bool j),(16,.int .i64 k)] w)
variable(a:OA)(b:Nat)(c:Nat)(d:Int)(e:Int)(f:Int)(g:OA)(i:Bool)(j:Bool)(k:Int)(m:Int)(n:Int)(o:Int)(Q:aJ)(w:World)
theorem au.Yt:(aT none [] prog 148 au.k (sR (sR (sR (sR (sR (sR (sR (sR (sR (sR (sR (sR (bB (lB (bB (sR (sR (body f105)))))))))))))))))) au.u1 (aK 1 au.u1 Q) [(0,.slice a b c),(1,.int .i64 d),(2,.int .i64 e),(3,.int .i64 f),(4,.func (.func 47) #[.pointer g] #[]),(10,.bool i),(11,.bool j),(16,.int .i64 k),(18,.int .i64 m),(19,.int .i64 n),(20,.int .i64 o)] w)=au.Uu a b c d e f g i j k m n o Q w:=by kernel_rfl
variable{a b c d e f g i j k m n o Q w}
theorem au.HB(h:au.Uu a b c d e f g i j k m n o Q w):Holds none [] prog 148 (sR (sR (sR (sR (sR (sR (sR (sR (sR (sR (sR (sR (bB (lB (bB (sR (sR (body f105)))))))))))))))))) (aK 1 au.u1 Q) [(0,.slice a b c),(1,.int .i64 d),(2,.int .i64 e),(3,.int .i64 f),(4,.func (.func 47) #[.pointer g] #[]),(10,.bool i),(11,.bool j),(16,.int .i64 k),(18,.int .i64 m),(19,.int .i64 n),(20,.int .i64 o)] w:=
 cf (C:=au.k) ng mix (au.Yt a b c d e f g i j k m n o Q w) h
end
section
variable(a:OA)(b:Nat)(c:Nat)(d:Int)(e:Int)(f:Int)(g:OA)(i:Bool)(j:Bool)(k:Int)(Q:aJ)(w:World)
def au.Ut:Prop:=
 aY prog 105 #[.slice a b c,.int .i64 d,.int .i64 k,.int .i64 f,.func (.func 47) #[.pointer g] #[]] w fun m n=>m=.tuple #[]/\Holds none [] prog 148 (sR (sR (cT (sR (sR (sR (sR (sR (sR (sR (sR (sR (sR (sR (sR (sR (bB (lB (bB (sR (sR (body f105)))))))))))))))))))))) (aK 1 au.u1 Q) [(0,.slice a b c),(1,.int .i64 d),(2,.int .i64 e),(3,.int .i64 f),(4,.func (.func 47) #[.pointer g] #[]),(10,.bool i),(11,.bool j),(16,.int .i64 k)] n
theorem au.Ys:(aT none [] prog 148 au.k (sR (cT (sR (sR (sR (sR (sR (sR (sR (sR (sR (sR (sR (sR (sR (bB (lB (bB (sR (sR (body f105))))))))))))))))))))) au.u1 (aK 1 au.u1 Q) [(0,.slice a b c),(1,.int .i64 d),(2,.int .i64 e),(3,.int .i64 f),(4,.func (.func 47) #[.pointer g] #[]),(10,.bool i),(11,.bool j),(16,.int .i64 k)] w)=au.Ut a b c d e f g i j k Q w:=by kernel_rfl
variable{a b c d e f g i j k Q w}
theorem au.HA(h:au.Ut a b c d e f g i j k Q w):Holds none [] prog 148 (sR (cT (sR (sR (sR (sR (sR (sR (sR (sR (sR (sR (sR (sR (sR (bB (lB (bB (sR (sR (body f105))))))))))))))))))))) (aK 1 au.u1 Q) [(0,.slice a b c),(1,.int .i64 d),(2,.int .i64 e),(3,.int .i64 f),(4,.func (.func 47) #[.pointer g] #[]),(10,.bool i),(11,.bool j),(16,.int .i64 k)] w:=
 cf (C:=au.k) ng mix (au.Ys a b c d e f g i j k Q w) h
end
section
variable(a:OA)(b:Nat)(c:Nat)(d:Int)(e:Int)(f:Int)(g:OA)(i:Bool)(j:Bool)(k:Int)(Q:aJ)(w:World)
def au.Us:Prop:=
 aY prog 105 #[.slice a b c,.int .i64 (IntKind.i64.wrap (k+(1:Int))),.int .i64 e,.int .i64 f,.func (.func 47) #[.pointer g] #[]] w fun m n=>m=.tuple #[]/\Holds none [] prog 148 (sR (sR (cE (sR (sR (sR (sR (sR (sR (sR (sR (sR (sR (sR (sR (sR (bB (lB (bB (sR (sR (body f105)))))))))))))))))))))) (aK 1 au.u1 Q) [(0,.slice a b c),(1,.int .i64 d),(2,.int .i64 e),(3,.int .i64 f),(4,.func (.func 47) #[.pointer g] #[]),(10,.bool i),(11,.bool j),(16,.int .i64 k)] n
theorem au.Yr:(aT none [] prog 148 au.k (sR (cE (sR (sR (sR (sR (sR (sR (sR (sR (sR (sR (sR (sR (sR (bB (lB (bB (sR (sR (body f105))))))))))))))))))))) au.u1 (aK 1 au.u1 Q) [(0,.slice a b c),(1,.int .i64 d),(2,.int .i64 e),(3,.int .i64 f),(4,.func (.func 47) #[.pointer g] #[]),(10,.bool i),(11,.bool j),(16,.int .i64 k)] w)=au.Us a b c d e f g i j k Q w:=by kernel_rfl
variable{a b c d e f g i j k Q w}
theorem au.Hz(h:au.Us a b c d e f g i j k Q w):Holds none [] prog 148 (sR (cE (sR (sR (sR (sR (sR (sR (sR (sR (sR (sR (sR (sR (sR (bB (lB (bB (sR (sR (body f105))))))))))))))))))))) (aK 1 au.u1 Q) [(0,.slice a b c),(1,.int .i64 d),(2,.int .i64 e),(3,.int .i64 f),(4,.func (.func 47) #[.pointer g] #[]),(10,.bool i),(11,.bool j),(16,.int .i64 k)] w:=
 cf (C:=au.k) ng mix (au.Yr a b c d e f g i j k Q w) h
end
section
def au.Ur(a:OA)(b:Nat)(c:Nat)(d:Int)(e:Int)(f:Int)(g:OA)(i:Bool)(j:Bool)(k:Int)(Q:aJ)(w:World):Prop:=
 Q .normal [(0,.slice a b c),(1,.int .i64 (IntKind.i64.wrap (k+(1:Int)))),(2,.int .i64 e),(3,.int .i64 f),(4,.func (.func 47) #[.pointer g] #[]),(10,.bool i),(11,.bool j)] w
variable(a:OA)(b:Nat)(c:Nat)(d:Int)(e:Int)(f:Int)(g:OA)(i:Bool)(j:Bool)(k:Int)(Q:aJ)(w:World)
theorem au.Yq:(aT none [] prog 148 au.k (sR (sR (cT (sR (sR (sR (sR (sR (sR (sR (sR (sR (sR (sR (sR (sR (bB (lB (bB (sR (sR (body f105)))))))))))))))))))))) au.u1 (aK 1 au.u1 Q) [(0,.slice a b c),(1,.int .i64 d),(2,.int .i64 e),(3,.int .i64 f),(4,.func (.func 47) #[.pointer g] #[]),(10,.bool i),(11,.bool j),(16,.int .i64 k)] w)=au.Ur a b c d e f g i j k Q w:=by kernel_rfl
variable{a b c d e f g i j k Q w}
theorem au.Hy(h:au.Ur a b c d e f g i j k Q w):Holds none [] prog 148 (sR (sR (cT (sR (sR (sR (sR (sR (sR (sR (sR (sR (sR (sR (sR (sR (bB (lB (bB (sR (sR (body f105)))))))))))))))))))))) (aK 1 au.u1 Q) [(0,.slice a b c),(1,.int .i64 d),(2,.int .i64 e),(3,.int .i64 f),(4,.func (.func 47) #[.pointer g] #[]),(10,.bool i),(11,.bool j),(16,.int .i64 k)] w:=
 cf (C:=au.k) ng mix (au.Yq a b c d e f g i j k Q w) h
end
section
def au.Uq(a:OA)(b:Nat)(c:Nat)(d:Int)(e:Int)(f:Int)(g:OA)(i:Bool)(j:Bool)(k:Int)(Q:aJ)(w:World):Prop:=
 Q .normal [(0,.slice a b c),(1,.int .i64 d),(2,.int .i64 k),(3,.int .i64 f),(4,.func (.func 47) #[.pointer g] #[]),(10,.bool i),(11,.bool j)] w
variable(a:OA)(b:Nat)(c:Nat)(d:Int)(e:Int)(f:Int)(g:OA)(i:Bool)(j:Bool)(k:Int)(Q:aJ)(w:World)
theorem au.Yp:(aT none [] prog 148 au.k (sR (sR (cE (sR (sR (sR (sR (sR (sR (sR (sR (sR (sR (sR (sR (sR (bB (lB (bB (sR (sR (body f105)))))))))))))))))))))) au.u1 (aK 1 au.u1 Q) [(0,.slice a b c),(1,.int .i64 d),(2,.int .i64 e),(3,.int .i64 f),(4,.func (.func 47) #[.pointer g] #[]),(10,.bool i),(11,.bool j),(16,.int .i64 k)] w)=au.Uq a b c d e f g i j k Q w:=by kernel_rfl
variable{a b c d e f g i j k Q w}
theorem au.Hx(h:au.Uq a b c d e f g i j k Q w):Holds none [] prog 148 (sR (sR (cE (sR (sR (sR (sR (sR (sR (sR (sR (sR (sR (sR (sR (sR (bB (lB (bB (sR (sR (body f105)))))))))))))))))))))) (aK 1 au.u1 Q) [(0,.slice a b c),(1,.int .i64 d),(2,.int .i64 e),(3,.int .i64 f),(4,.func (.func 47) #[.pointer g] #[]),(10,.bool i),(11,.bool j),(16,.int .i64 k)] w:=
 cf (C:=au.k) ng mix (au.Yp a b c d e f g i j k Q w) h
end
def bz.k:List Nat:= []
def bz.q1(K:KT):aJ:=(aK 0 (aO f122) (bG prog f122 K))
def bz.e1(a:OA)(b:Nat)(c:Nat)(d:Int)(e:Int)(f:OA)(s:Int):Env:= [(0,.slice a b c),(1,.int .i64 d),(2,.int .i64 e),(3,.func (.func 47) #[.pointer f] #[]),(8,.int .i64 s)]
def bz.u1:List Nat:= [0,1,2,3,8]
def bz.q2(Q:aJ):aJ:=(aK 2 (bY (sR (sR (lB (bB (sR (body f122))))))++bz.u1) (aK 1 (bY (sR (sR (lB (bB (sR (body f122))))))++bz.u1) (bN (fun bS w_=>match cutAt bz.k (sR (sR (lB (bB (sR (body f122))))))with|true=>Holds none [] prog 53 (sR (sR (lB (bB (sR (body f122)))))) Q bS w_|false=>aT none [] prog 53 bz.k (sR (sR (lB (bB (sR (body f122)))))) bz.u1 Q bS w_) Q)))
def bz.e2(a:OA)(b:Nat)(c:Nat)(d:Int)(e:Int)(f:OA)(g:Int)(s:Int):Env:= [(0,.slice a b c),(1,.int .i64 d),(2,.int .i64 e),(3,.func (.func 47) #[.pointer f] #[]),(8,.int .i64 g),(9,.int .i64 s)]
def bz.u2:List Nat:= [0,1,2,3,8,9]
section
variable(a:OA)(b:Nat)(d:Nat)(e:Int)(f:Int)(g:OA)(K:KT)(w:World)
def bz.W:Prop:=
 Holds none [] prog 53 (.loop (lB (bB (sR (body f122))))) (bz.q1 K) [(0,.slice a b d),(1,.int .i64 e),(2,.int .i64 f),(3,.func (.func 47) #[.pointer g] #[]),(8,.int .i64 (IntKind.i64.wrap (e+(1:Int))))] w
variable{a b d e f g K w}
theorem bz.of(h:bz.W a b d e f g K w):aY prog 122 #[.slice a b d,.int .i64 e,.int .i64 f,.func (.func 47) #[.pointer g] #[]] w K:=
 aH (C:=bz.k) (c:=body f122) ng mix func122 (by kernel_rfl) (by kernel_rfl) (by kernel_rfl) h
end
section
variable(a:OA)(b:Nat)(c:Nat)(d:Int)(e:Int)(f:OA)(g:Int)(Q:aJ)(w:World)
def bz.B1:Prop:=
 Split (decide (g<e)) (Holds none [] prog 53 (.loop (lB (bB (sR (bB (sL (sR (lB (bB (sR (body f122))))))))))) (bz.q2 Q) [(0,.slice a b c),(1,.int .i64 d),(2,.int .i64 e),(3,.func (.func 47) #[.pointer f] #[]),(8,.int .i64 g),(9,.int .i64 g)] w) (Q (.exit 0) [(0,.slice a b c),(1,.int .i64 d),(2,.int .i64 e),(3,.func (.func 47) #[.pointer f] #[]),(8,.int .i64 g)] w)
theorem bz.b1:(aT none [] prog 53 bz.k (lB (bB (sR (body f122)))) bz.u1 Q [(0,.slice a b c),(1,.int .i64 d),(2,.int .i64 e),(3,.func (.func 47) #[.pointer f] #[]),(8,.int .i64 g)] w)=bz.B1 a b c d e f g Q w:=by kernel_rfl
variable{a b c d e f}
theorem bz.bU(I:Int->World->Prop)(μ:Int->World->Nat)(s:Int){Q:aJ}{w:World}(h0:I s w)
 (round: ∀s w,I s w->bz.B1 a b c d e f s (bF (bz.e1 a b c d e f) I μ s w Q) w):Holds none [] prog 53 (.loop (lB (bB (sR (body f122))))) Q (bz.e1 a b c d e f s) w:=
 ba ng mix (bz.e1 a b c d e f) I μ bz.k bz.u1 s (fun s Q w=>bz.B1 a b c d e f s Q w) (fun s Q w=>bz.b1 a b c d e f s Q w) h0 round
end
section
def bz.cW(a:OA)(b:Nat)(c:Nat)(d:Int)(e:Int)(f:OA)(g:Int)(K:KT)(w:World):Prop:=
 K (.tuple #[]) w
variable(a:OA)(b:Nat)(c:Nat)(d:Int)(e:Int)(f:OA)(g:Int)(K:KT)(w:World)
theorem bz.dD:(bz.q1 K (.exit 0) [(0,.slice a b c),(1,.int .i64 d),(2,.int .i64 e),(3,.func (.func 47) #[.pointer f] #[]),(8,.int .i64 g)] w)=bz.cW a b c d e f g K w:=by kernel_rfl
end
section
variable(a:OA)(b:Nat)(c:Nat)(d:Int)(e:Int)(f:OA)(g:Int)(i:Int)(Q:aJ)(w:World)
def bz.B2:Prop:=
 let j:=w.drew;Split (decide (i>d)) ((0<=i/\i<(b:Int))/\Is a fun k:Addr=> ∃m:AV,(m.size=32/\Cells j (k.add (i.toNat*32)) m)/\(0<=(IntKind.i64.wrap (i-(1:Int)))/\(IntKind.i64.wrap (i-(1:Int)))<(b:Int))/\Is a fun n:Addr=> ∃o:AV,(o.size=32/\Cells j (n.add ((IntKind.i64.wrap (i-(1:Int))).toNat*32)) o)/\aY prog 47 #[.pointer f,.agg m,.agg o] j fun p q=> ∃r:Int,p=.int .i64 r/\Split (decide (r<(0:Int))) (let t:=q.drew;(0<=(IntKind.i64.wrap (i-(1:Int)))/\(IntKind.i64.wrap (i-(1:Int)))<(b:Int))/\Is a fun u:Addr=> ∃v:AV,(v.size=32/\Cells t (u.add ((IntKind.i64.wrap (i-(1:Int))).toNat*32)) v)/\(0<=i/\i<(b:Int))/\Is a fun x:Addr=> ∃y:AV,(y.size=32/\Cells t (x.add (i.toNat*32)) y)/\(0<=i/\i<(b:Int))/\Is a fun z:Addr=>(v.size=32/\(∀a1∈v.toList,a1.oneCell'=true)/\ ∀b1,b1<32->Wr t ((z.add (i.toNat*32)).add b1))/\let c1:=setCells t (z.add (i.toNat*32)) v.toList 0;(0<=(IntKind.i64.wrap (i-(1:Int)))/\(IntKind.i64.wrap (i-(1:Int)))<(b:Int))/\Is a fun d1:Addr=>(y.size=32/\(∀e1∈y.toList,e1.oneCell'=true)/\ ∀f1,f1<32->Wr c1 ((d1.add ((IntKind.i64.wrap (i-(1:Int))).toNat*32)).add f1))/\let g1:=setCells c1 (d1.add ((IntKind.i64.wrap (i-(1:Int))).toNat*32)) y.toList 0;Q .normal [(0,.slice a b c),(1,.int .i64 d),(2,.int .i64 e),(3,.func (.func 47) #[.pointer f] #[]),(8,.int .i64 g),(9,.int .i64 (IntKind.i64.wrap (i-(1:Int))))] g1) (Q (.exit 2) [(0,.slice a b c),(1,.int .i64 d),(2,.int .i64 e),(3,.func (.func 47) #[.pointer f] #[]),(8,.int .i64 g),(9,.int .i64 i)] q)) (Q (.exit 2) [(0,.slice a b c),(1,.int .i64 d),(2,.int .i64 e),(3,.func (.func 47) #[.pointer f] #[]),(8,.int .i64 g),(9,.int .i64 i)] j)
theorem bz.b2:(aT none [] prog 53 bz.k (lB (bB (sR (bB (sL (sR (lB (bB (sR (body f122)))))))))) bz.u2 Q [(0,.slice a b c),(1,.int .i64 d),(2,.int .i64 e),(3,.func (.func 47) #[.pointer f] #[]),(8,.int .i64 g),(9,.int .i64 i)] w)=bz.B2 a b c d e f g i Q w:=by kernel_rfl
variable{a b c d e f g}
theorem bz.gz(I:Int->World->Prop)(μ:Int->World->Nat)(s:Int){Q:aJ}{w:World}(h0:I s w)
 (round: ∀s w,I s w->bz.B2 a b c d e f g s (bF (bz.e2 a b c d e f g) I μ s w Q) w):Holds none [] prog 53 (.loop (lB (bB (sR (bB (sL (sR (lB (bB (sR (body f122))))))))))) Q (bz.e2 a b c d e f g s) w:=
 ba ng mix (bz.e2 a b c d e f g) I μ bz.k bz.u2 s (fun s Q w=>bz.B2 a b c d e f g s Q w) (fun s Q w=>bz.b2 a b c d e f g s Q w) h0 round
end
section
def bz.iS(a:OA)(b:Nat)(c:Nat)(d:Int)(e:Int)(f:OA)(g:Int)(i:Int)(Q:aJ)(w:World):Prop:=
 Q .normal [(0,.slice a b c),(1,.int .i64 d),(2,.int .i64 e),(3,.func (.func 47) #[.pointer f] #[]),(8,.int .i64 (IntKind.i64.wrap (g+(1:Int))))] w
variable(a:OA)(b:Nat)(c:Nat)(d:Int)(e:Int)(f:OA)(g:Int)(i:Int)(Q:aJ)(w:World)
theorem bz.jI:(bz.q2 Q (.exit 2) [(0,.slice a b c),(1,.int .i64 d),(2,.int .i64 e),(3,.func (.func 47) #[.pointer f] #[]),(8,.int .i64 g),(9,.int .i64 i)] w)=bz.iS a b c d e f g i Q w:=by kernel_rfl
end
def bq.k:List Nat:= []
def bq.q1(K:KT):aJ:=(aK 0 (bY (sR (sR (sR (sR (body f123)))))++(aO f123)) (bN (fun bS w_=>match cutAt bq.k (sR (sR (sR (sR (body f123)))))with|true=>Holds none [] prog 60 (sR (sR (sR (sR (body f123))))) (bG prog f123 K) bS w_|false=>aT none [] prog 60 bq.k (sR (sR (sR (sR (body f123))))) (aO f123) (bG prog f123 K) bS w_) (bG prog f123 K)))
def bq.e1(a:OA)(b:Nat)(c:Nat)(d:OA)(e:Int)(f:Int)(g:Int)(s:Int):Env:= [(0,.slice a b c),(3,.func (.func 47) #[.pointer d] #[]),(8,.int .i64 e),(9,.int .i64 f),(10,.int .i64 g),(11,.int .i64 s)]
def bq.u1:List Nat:= [0,3,8,9,10,11]
def bq.q2(K:KT):aJ:=(aK 2 (aO f123) (bG prog f123 K))
def bq.e2(a:OA)(b:Nat)(c:Nat)(d:OA)(e:Int)(f:Int)(s:Int):Env:= [(0,.slice a b c),(3,.func (.func 47) #[.pointer d] #[]),(8,.int .i64 e),(9,.int .i64 f),(12,.int .i64 s)]
def bq.u2:List Nat:= [0,3,8,9,12]
section
variable(a:OA)(b:Nat)(d:Nat)(e:Int)(f:Int)(g:OA)(K:KT)(w:World)
def bq.W:Prop:=
 (2:Int)≠0/\Holds none [] prog 60 (.loop (lB (bB (sR (sL (sR (sR (sR (body f123))))))))) (bq.q1 K) [(0,.slice a b d),(3,.func (.func 47) #[.pointer g] #[]),(8,.int .i64 e),(9,.int .i64 0),(10,.int .i64 (IntKind.i64.wrap (f-e))),(11,.int .i64 (IntKind.i64.wrap ((IntKind.i64.wrap ((IntKind.i64.wrap (f-e))-(1:Int))).tdiv (2:Int))))] w
variable{a b d e f g K w}
theorem bq.of(h:bq.W a b d e f g K w):aY prog 123 #[.slice a b d,.int .i64 e,.int .i64 f,.func (.func 47) #[.pointer g] #[]] w K:=
 aH (C:=bq.k) (c:=body f123) ng mix func123 (by kernel_rfl) (by kernel_rfl) (by kernel_rfl) h
end
section
variable(a:OA)(b:Nat)(c:Nat)(d:OA)(e:Int)(f:Int)(g:Int)(i:Int)(Q:aJ)(w:World)
def bq.B1:Prop:=
 Split (decide (i>=(0:Int))) (aY prog 135 #[.slice a b c,.int .i64 i,.int .i64 g,.int .i64 e,.func (.func 47) #[.pointer d] #[]] w fun j k=>j=.tuple #[]/\Q .normal [(0,.slice a b c),(3,.func (.func 47) #[.pointer d] #[]),(8,.int .i64 e),(9,.int .i64 f),(10,.int .i64 g),(11,.int .i64 (IntKind.i64.wrap (i-(1:Int))))] k) (Q (.exit 0) [(0,.slice a b c),(3,.func (.func 47) #[.pointer d] #[]),(8,.int .i64 e),(9,.int .i64 f),(10,.int .i64 g),(11,.int .i64 i)] w)
theorem bq.b1:(aT none [] prog 60 bq.k (lB (bB (sR (sL (sR (sR (sR (body f123)))))))) bq.u1 Q [(0,.slice a b c),(3,.func (.func 47) #[.pointer d] #[]),(8,.int .i64 e),(9,.int .i64 f),(10,.int .i64 g),(11,.int .i64 i)] w)=bq.B1 a b c d e f g i Q w:=by kernel_rfl
variable{a b c d e f g}
theorem bq.bU(I:Int->World->Prop)(μ:Int->World->Nat)(s:Int){Q:aJ}{w:World}(h0:I s w)
 (round: ∀s w,I s w->bq.B1 a b c d e f g s (bF (bq.e1 a b c d e f g) I μ s w Q) w):Holds none [] prog 60 (.loop (lB (bB (sR (sL (sR (sR (sR (body f123))))))))) Q (bq.e1 a b c d e f g s) w:=
 ba ng mix (bq.e1 a b c d e f g) I μ bq.k bq.u1 s (fun s Q w=>bq.B1 a b c d e f g s Q w) (fun s Q w=>bq.b1 a b c d e f g s Q w) h0 round
end
section
def bq.cW(a:OA)(b:Nat)(c:Nat)(d:OA)(e:Int)(f:Int)(g:Int)(i:Int)(K:KT)(w:World):Prop:=
 Holds none [] prog 60 (.loop (lB (bB (sR (sR (sR (sR (sR (body f123))))))))) (bq.q2 K) [(0,.slice a b c),(3,.func (.func 47) #[.pointer d] #[]),(8,.int .i64 e),(9,.int .i64 f),(12,.int .i64 (IntKind.i64.wrap (g-(1:Int))))] w
variable(a:OA)(b:Nat)(c:Nat)(d:OA)(e:Int)(f:Int)(g:Int)(i:Int)(K:KT)(w:World)
theorem bq.dD:(bq.q1 K (.exit 0) [(0,.slice a b c),(3,.func (.func 47) #[.pointer d] #[]),(8,.int .i64 e),(9,.int .i64 f),(10,.int .i64 g),(11,.int .i64 i)] w)=bq.cW a b c d e f g i K w:=by kernel_rfl
end
section
variable(a:OA)(b:Nat)(c:Nat)(d:OA)(e:Int)(f:Int)(g:Int)(Q:aJ)(w:World)
def bq.B2:Prop:=
 Split (decide (g>=(0:Int))) (let i:=w.drew;(0<=(IntKind.i64.wrap (e+g))/\(IntKind.i64.wrap (e+g))<(b:Int))/\Is a fun j:Addr=> ∃k:AV,(k.size=32/\Cells i (j.add ((IntKind.i64.wrap (e+g)).toNat*32)) k)/\(0<=e/\e<(b:Int))/\Is a fun m:Addr=> ∃n:AV,(n.size=32/\Cells i (m.add (e.toNat*32)) n)/\(0<=e/\e<(b:Int))/\Is a fun o:Addr=>(k.size=32/\(∀p∈k.toList,p.oneCell'=true)/\ ∀q,q<32->Wr i ((o.add (e.toNat*32)).add q))/\let r:=setCells i (o.add (e.toNat*32)) k.toList 0;(0<=(IntKind.i64.wrap (e+g))/\(IntKind.i64.wrap (e+g))<(b:Int))/\Is a fun t:Addr=>(n.size=32/\(∀u∈n.toList,u.oneCell'=true)/\ ∀v,v<32->Wr r ((t.add ((IntKind.i64.wrap (e+g)).toNat*32)).add v))/\let x:=setCells r (t.add ((IntKind.i64.wrap (e+g)).toNat*32)) n.toList 0;aY prog 135 #[.slice a b c,.int .i64 f,.int .i64 g,.int .i64 e,.func (.func 47) #[.pointer d] #[]] x fun y z=>y=.tuple #[]/\Q .normal [(0,.slice a b c),(3,.func (.func 47) #[.pointer d] #[]),(8,.int .i64 e),(9,.int .i64 f),(12,.int .i64 (IntKind.i64.wrap (g-(1:Int))))] z) (Q (.exit 2) [(0,.slice a b c),(3,.func (.func 47) #[.pointer d] #[]),(8,.int .i64 e),(9,.int .i64 f),(12,.int .i64 g)] w)
theorem bq.b2:(aT none [] prog 60 bq.k (lB (bB (sR (sR (sR (sR (sR (body f123)))))))) bq.u2 Q [(0,.slice a b c),(3,.func (.func 47) #[.pointer d] #[]),(8,.int .i64 e),(9,.int .i64 f),(12,.int .i64 g)] w)=bq.B2 a b c d e f g Q w:=by kernel_rfl
variable{a b c d e f}
theorem bq.gz(I:Int->World->Prop)(μ:Int->World->Nat)(s:Int){Q:aJ}{w:World}(h0:I s w)
 (round: ∀s w,I s w->bq.B2 a b c d e f s (bF (bq.e2 a b c d e f) I μ s w Q) w):Holds none [] prog 60 (.loop (lB (bB (sR (sR (sR (sR (sR (body f123))))))))) Q (bq.e2 a b c d e f s) w:=
 ba ng mix (bq.e2 a b c d e f) I μ bq.k bq.u2 s (fun s Q w=>bq.B2 a b c d e f s Q w) (fun s Q w=>bq.b2 a b c d e f s Q w) h0 round
end
section
def bq.iS(a:OA)(b:Nat)(c:Nat)(d:OA)(e:Int)(f:Int)(g:Int)(K:KT)(w:World):Prop:=
 K (.tuple #[]) w
variable(a:OA)(b:Nat)(c:Nat)(d:OA)(e:Int)(f:Int)(g:Int)(K:KT)(w:World)
theorem bq.jI:(bq.q2 K (.exit 2) [(0,.slice a b c),(3,.func (.func 47) #[.pointer d] #[]),(8,.int .i64 e),(9,.int .i64 f),(12,.int .i64 g)] w)=bq.iS a b c d e f g K w:=by kernel_rfl
end
def cU.k:List Nat:= []
def cU.q1(K:KT):aJ:=(aK 0 (aO f124) (bG prog f124 K))
def cU.e1(a:OA)(b:Nat)(c:Nat)(d:Int)(e:Int)(f:Addr)(g:Int)(s:Int):Env:= [(0,.slice a b c),(1,.int .i64 d),(8,.int .i64 e),(9,.pointer (some f)),(10,.int .u64 g),(11,.int .i64 s)]
def cU.u1:List Nat:= [0,1,8,9,10,11]
section
def cU.W(a:OA)(b:Nat)(d:Nat)(e:Int)(f:Int)(g:OA)(K:KT)(w:World):Prop:=
 Split (decide ((IntKind.i64.wrap (f-e))>=(8:Int))) (let i:=w.alloc (.cells (#[.int .u64 0]:AV) 188);Wr i (⟨w.heap.size,0,none⟩:Addr)/\let j:=i.setCell (⟨w.heap.size,0,none⟩:Addr) (.int .u64 (IntKind.u64.wrap (IntKind.i64.wrap (f-e))));aY prog 136 #[.int .i64 (IntKind.i64.wrap (f-e))] j fun k m=> ∃n:Int,k=.int .u64 n/\(4:Int)≠0/\Holds none [] prog 67 (.loop (lB (bB (sR (sR (sR (cT (sR (sR (body f124)))))))))) (cU.q1 K) [(0,.slice a b d),(1,.int .i64 e),(8,.int .i64 (IntKind.i64.wrap (f-e))),(9,.pointer (some (⟨w.heap.size,0,none⟩:Addr))),(10,.int .u64 n),(11,.int .i64 (IntKind.i64.wrap ((IntKind.i64.wrap (e+(IntKind.i64.wrap ((IntKind.i64.wrap ((IntKind.i64.wrap (f-e)).tdiv (4:Int)))*(2:Int)))))-(1:Int))))] m) (K (.tuple #[]) w)
variable(a:OA)(b:Nat)(d:Nat)(e:Int)(f:Int)(g:OA)(K:KT)(w:World)
variable{a b d e f g K w}
theorem cU.of(h:cU.W a b d e f g K w):aY prog 124 #[.slice a b d,.int .i64 e,.int .i64 f,.func (.func 47) #[.pointer g] #[]] w K:=
 aH (C:=cU.k) (c:=body f124) ng mix func124 (by kernel_rfl) (by kernel_rfl) (by kernel_rfl) h
end
section
variable(a:OA)(b:Nat)(c:Nat)(d:Int)(e:Int)(f:Addr)(g:Int)(i:Int)(Q:aJ)(w:World)
def cU.B1:Prop:=
 (4:Int)≠0/\Split (decide (i<=(IntKind.i64.wrap ((IntKind.i64.wrap (d+(IntKind.i64.wrap ((IntKind.i64.wrap (e.tdiv (4:Int)))*(2:Int)))))+(1:Int))))) (aY prog 137 #[.pointer (some f)] w fun j k=> ∃m:Int,j=.int .u64 m/\Split (decide ((IntKind.i64.wrap (IntKind.u64.wrap ((BitVec.ofInt 64 m&&& BitVec.ofInt 64 (IntKind.u64.wrap (g-(1:Int)))).toNat)))>=e)) (let n:=k.drew;(0<=(IntKind.i64.wrap (d+(IntKind.i64.wrap ((IntKind.i64.wrap (IntKind.u64.wrap ((BitVec.ofInt 64 m&&& BitVec.ofInt 64 (IntKind.u64.wrap (g-(1:Int)))).toNat)))-e))))/\(IntKind.i64.wrap (d+(IntKind.i64.wrap ((IntKind.i64.wrap (IntKind.u64.wrap ((BitVec.ofInt 64 m&&& BitVec.ofInt 64 (IntKind.u64.wrap (g-(1:Int)))).toNat)))-e))))<(b:Int))/\Is a fun o:Addr=> ∃p:AV,(p.size=32/\Cells n (o.add ((IntKind.i64.wrap (d+(IntKind.i64.wrap ((IntKind.i64.wrap (IntKind.u64.wrap ((BitVec.ofInt 64 m&&& BitVec.ofInt 64 (IntKind.u64.wrap (g-(1:Int)))).toNat)))-e)))).toNat*32)) p)/\(0<=i/\i<(b:Int))/\Is a fun q:Addr=> ∃r:AV,(r.size=32/\Cells n (q.add (i.toNat*32)) r)/\(0<=i/\i<(b:Int))/\Is a fun t:Addr=>(p.size=32/\(∀u∈p.toList,u.oneCell'=true)/\ ∀v,v<32->Wr n ((t.add (i.toNat*32)).add v))/\let x:=setCells n (t.add (i.toNat*32)) p.toList 0;(0<=(IntKind.i64.wrap (d+(IntKind.i64.wrap ((IntKind.i64.wrap (IntKind.u64.wrap ((BitVec.ofInt 64 m&&& BitVec.ofInt 64 (IntKind.u64.wrap (g-(1:Int)))).toNat)))-e))))/\(IntKind.i64.wrap (d+(IntKind.i64.wrap ((IntKind.i64.wrap (IntKind.u64.wrap ((BitVec.ofInt 64 m&&& BitVec.ofInt 64 (IntKind.u64.wrap (g-(1:Int)))).toNat)))-e))))<(b:Int))/\Is a fun y:Addr=>(r.size=32/\(∀z∈r.toList,z.oneCell'=true)/\ ∀a1,a1<32->Wr x ((y.add ((IntKind.i64.wrap (d+(IntKind.i64.wrap ((IntKind.i64.wrap (IntKind.u64.wrap ((BitVec.ofInt 64 m&&& BitVec.ofInt 64 (IntKind.u64.wrap (g-(1:Int)))).toNat)))-e)))).toNat*32)).add a1))/\let b1:=setCells x (y.add ((IntKind.i64.wrap (d+(IntKind.i64.wrap ((IntKind.i64.wrap (IntKind.u64.wrap ((BitVec.ofInt 64 m&&& BitVec.ofInt 64 (IntKind.u64.wrap (g-(1:Int)))).toNat)))-e)))).toNat*32)) r.toList 0;Q .normal [(0,.slice a b c),(1,.int .i64 d),(8,.int .i64 e),(9,.pointer (some f)),(10,.int .u64 g),(11,.int .i64 (IntKind.i64.wrap (i+(1:Int))))] b1) (let c1:=k.drew;(0<=(IntKind.i64.wrap (d+(IntKind.i64.wrap (IntKind.u64.wrap ((BitVec.ofInt 64 m&&& BitVec.ofInt 64 (IntKind.u64.wrap (g-(1:Int)))).toNat)))))/\(IntKind.i64.wrap (d+(IntKind.i64.wrap (IntKind.u64.wrap ((BitVec.ofInt 64 m&&& BitVec.ofInt 64 (IntKind.u64.wrap (g-(1:Int)))).toNat)))))<(b:Int))/\Is a fun d1:Addr=> ∃e1:AV,(e1.size=32/\Cells c1 (d1.add ((IntKind.i64.wrap (d+(IntKind.i64.wrap (IntKind.u64.wrap ((BitVec.ofInt 64 m&&& BitVec.ofInt 64 (IntKind.u64.wrap (g-(1:Int)))).toNat))))).toNat*32)) e1)/\(0<=i/\i<(b:Int))/\Is a fun f1:Addr=> ∃g1:AV,(g1.size=32/\Cells c1 (f1.add (i.toNat*32)) g1)/\(0<=i/\i<(b:Int))/\Is a fun i1:Addr=>(e1.size=32/\(∀j1∈e1.toList,j1.oneCell'=true)/\ ∀k1,k1<32->Wr c1 ((i1.add (i.toNat*32)).add k1))/\let m1:=setCells c1 (i1.add (i.toNat*32)) e1.toList 0;(0<=(IntKind.i64.wrap (d+(IntKind.i64.wrap (IntKind.u64.wrap ((BitVec.ofInt 64 m&&& BitVec.ofInt 64 (IntKind.u64.wrap (g-(1:Int)))).toNat)))))/\(IntKind.i64.wrap (d+(IntKind.i64.wrap (IntKind.u64.wrap ((BitVec.ofInt 64 m&&& BitVec.ofInt 64 (IntKind.u64.wrap (g-(1:Int)))).toNat)))))<(b:Int))/\Is a fun n1:Addr=>(g1.size=32/\(∀o1∈g1.toList,o1.oneCell'=true)/\ ∀p1,p1<32->Wr m1 ((n1.add ((IntKind.i64.wrap (d+(IntKind.i64.wrap (IntKind.u64.wrap ((BitVec.ofInt 64 m&&& BitVec.ofInt 64 (IntKind.u64.wrap (g-(1:Int)))).toNat))))).toNat*32)).add p1))/\let q1:=setCells m1 (n1.add ((IntKind.i64.wrap (d+(IntKind.i64.wrap (IntKind.u64.wrap ((BitVec.ofInt 64 m&&& BitVec.ofInt 64 (IntKind.u64.wrap (g-(1:Int)))).toNat))))).toNat*32)) g1.toList 0;Q .normal [(0,.slice a b c),(1,.int .i64 d),(8,.int .i64 e),(9,.pointer (some f)),(10,.int .u64 g),(11,.int .i64 (IntKind.i64.wrap (i+(1:Int))))] q1)) (Q (.exit 0) [(0,.slice a b c),(1,.int .i64 d),(8,.int .i64 e),(9,.pointer (some f)),(10,.int .u64 g),(11,.int .i64 i)] w)
theorem cU.b1:(aT none [] prog 67 cU.k (lB (bB (sR (sR (sR (cT (sR (sR (body f124))))))))) cU.u1 Q [(0,.slice a b c),(1,.int .i64 d),(8,.int .i64 e),(9,.pointer (some f)),(10,.int .u64 g),(11,.int .i64 i)] w)=cU.B1 a b c d e f g i Q w:=by kernel_rfl
variable{a b c d e f g}
theorem cU.bU(I:Int->World->Prop)(μ:Int->World->Nat)(s:Int){Q:aJ}{w:World}(h0:I s w)
 (round: ∀s w,I s w->cU.B1 a b c d e f g s (bF (cU.e1 a b c d e f g) I μ s w Q) w):Holds none [] prog 67 (.loop (lB (bB (sR (sR (sR (cT (sR (sR (body f124)))))))))) Q (cU.e1 a b c d e f g s) w:=
 ba ng mix (cU.e1 a b c d e f g) I μ cU.k cU.u1 s (fun s Q w=>cU.B1 a b c d e f g s Q w) (fun s Q w=>cU.b1 a b c d e f g s Q w) h0 round
end
section
def cU.cW(a:OA)(b:Nat)(c:Nat)(d:Int)(e:Int)(f:Addr)(g:Int)(i:Int)(K:KT)(w:World):Prop:=
 K (.tuple #[]) w
variable(a:OA)(b:Nat)(c:Nat)(d:Int)(e:Int)(f:Addr)(g:Int)(i:Int)(K:KT)(w:World)
theorem cU.dD:(cU.q1 K (.exit 0) [(0,.slice a b c),(1,.int .i64 d),(8,.int .i64 e),(9,.pointer (some f)),(10,.int .u64 g),(11,.int .i64 i)] w)=cU.cW a b c d e f g i K w:=by kernel_rfl
end
def oF.k:List Nat:= []
section
variable(a:OA)(b:Nat)(d:Nat)(e:Int)(f:Int)(g:OA)(K:KT)(w:World)
def oF.W:Prop:=
 let i:=w.alloc (.cells (#[.int .i64 0]:AV) 3);(4:Int)≠0/\(4:Int)≠0/\(4:Int)≠0/\Split (decide ((IntKind.i64.wrap (f-e))>=(8:Int))) (Split (decide ((IntKind.i64.wrap (f-e))>=(50:Int))) (aY prog 138 #[.slice a b d,.int .i64 (IntKind.i64.wrap (e+(IntKind.i64.wrap ((IntKind.i64.wrap ((IntKind.i64.wrap (f-e)).tdiv (4:Int)))*(1:Int))))),.pointer (some (⟨w.heap.size,0,none⟩:Addr)),.func (.func 47) #[.pointer g] #[]] i fun j k=> ∃m:Int,j=.int .i64 m/\aY prog 138 #[.slice a b d,.int .i64 (IntKind.i64.wrap (e+(IntKind.i64.wrap ((IntKind.i64.wrap ((IntKind.i64.wrap (f-e)).tdiv (4:Int)))*(2:Int))))),.pointer (some (⟨w.heap.size,0,none⟩:Addr)),.func (.func 47) #[.pointer g] #[]] k fun n o=> ∃p:Int,n=.int .i64 p/\aY prog 138 #[.slice a b d,.int .i64 (IntKind.i64.wrap (e+(IntKind.i64.wrap ((IntKind.i64.wrap ((IntKind.i64.wrap (f-e)).tdiv (4:Int)))*(3:Int))))),.pointer (some (⟨w.heap.size,0,none⟩:Addr)),.func (.func 47) #[.pointer g] #[]] o fun q r=> ∃t:Int,q=.int .i64 t/\aY prog 139 #[.slice a b d,.int .i64 m,.int .i64 p,.int .i64 t,.pointer (some (⟨w.heap.size,0,none⟩:Addr)),.func (.func 47) #[.pointer g] #[]] r fun u v=> ∃x:Int,u=.int .i64 x/\ ∃y:Int,v.cell? (⟨w.heap.size,0,none⟩:Addr)=some (.int .i64 y)/\Split (y==(0:Int)) (K (.tuple #[.int .i64 x,.int .i64 1]) v) (Split (y==(12:Int)) (K (.tuple #[.int .i64 x,.int .i64 2]) v) (K (.tuple #[.int .i64 x,.int .i64 0]) v))) (aY prog 139 #[.slice a b d,.int .i64 (IntKind.i64.wrap (e+(IntKind.i64.wrap ((IntKind.i64.wrap ((IntKind.i64.wrap (f-e)).tdiv (4:Int)))*(1:Int))))),.int .i64 (IntKind.i64.wrap (e+(IntKind.i64.wrap ((IntKind.i64.wrap ((IntKind.i64.wrap (f-e)).tdiv (4:Int)))*(2:Int))))),.int .i64 (IntKind.i64.wrap (e+(IntKind.i64.wrap ((IntKind.i64.wrap ((IntKind.i64.wrap (f-e)).tdiv (4:Int)))*(3:Int))))),.pointer (some (⟨w.heap.size,0,none⟩:Addr)),.func (.func 47) #[.pointer g] #[]] i fun z a1=> ∃b1:Int,z=.int .i64 b1/\ ∃c1:Int,a1.cell? (⟨w.heap.size,0,none⟩:Addr)=some (.int .i64 c1)/\Split (c1==(0:Int)) (K (.tuple #[.int .i64 b1,.int .i64 1]) a1) (Split (c1==(12:Int)) (K (.tuple #[.int .i64 b1,.int .i64 2]) a1) (K (.tuple #[.int .i64 b1,.int .i64 0]) a1)))) (∃d1:Int,i.cell? (⟨w.heap.size,0,none⟩:Addr)=some (.int .i64 d1)/\Split (d1==(0:Int)) (K (.tuple #[.int .i64 (IntKind.i64.wrap (e+(IntKind.i64.wrap ((IntKind.i64.wrap ((IntKind.i64.wrap (f-e)).tdiv (4:Int)))*(2:Int))))),.int .i64 1]) i) (Split (d1==(12:Int)) (K (.tuple #[.int .i64 (IntKind.i64.wrap (e+(IntKind.i64.wrap ((IntKind.i64.wrap ((IntKind.i64.wrap (f-e)).tdiv (4:Int)))*(2:Int))))),.int .i64 2]) i) (K (.tuple #[.int .i64 (IntKind.i64.wrap (e+(IntKind.i64.wrap ((IntKind.i64.wrap ((IntKind.i64.wrap (f-e)).tdiv (4:Int)))*(2:Int))))),.int .i64 0]) i)))
variable{a b d e f g K w}
theorem oF.of(h:oF.W a b d e f g K w):aY prog 125 #[.slice a b d,.int .i64 e,.int .i64 f,.func (.func 47) #[.pointer g] #[]] w K:=
 aH (C:=oF.k) (c:=body f125) ng mix func125 (by kernel_rfl) (by kernel_rfl) (by kernel_rfl) h
end
def cS.k:List Nat:= []
def cS.q1(K:KT):aJ:=(aK 0 (aO f126) (bG prog f126 K))
def cS.e1(a:OA)(b:Nat)(c:Nat)(s:Int×Int):Env:= [(0,.slice a b c),(8,.int .i64 s.1),(9,.int .i64 s.2)]
def cS.u1:List Nat:= [0,8,9]
section
def cS.W(a:OA)(b:Nat)(d:Nat)(e:Int)(f:Int)(g:OA)(K:KT)(w:World):Prop:=
 Holds none [] prog 34 (.loop (lB (bB (sR (sR (body f126)))))) (cS.q1 K) [(0,.slice a b d),(8,.int .i64 e),(9,.int .i64 (IntKind.i64.wrap (f-(1:Int))))] w
variable(a:OA)(b:Nat)(d:Nat)(e:Int)(f:Int)(g:OA)(K:KT)(w:World)
variable{a b d e f g K w}
theorem cS.of(h:cS.W a b d e f g K w):aY prog 126 #[.slice a b d,.int .i64 e,.int .i64 f,.func (.func 47) #[.pointer g] #[]] w K:=
 aH (C:=cS.k) (c:=body f126) ng mix func126 (by kernel_rfl) (by kernel_rfl) (by kernel_rfl) h
end
section
variable(a:OA)(b:Nat)(c:Nat)(d:Int)(e:Int)(Q:aJ)(w:World)
def cS.B1:Prop:=
 Split (decide (d<e)) (let f:=w.drew;(0<=e/\e<(b:Int))/\Is a fun g:Addr=> ∃i:AV,(i.size=32/\Cells f (g.add (e.toNat*32)) i)/\(0<=d/\d<(b:Int))/\Is a fun j:Addr=> ∃k:AV,(k.size=32/\Cells f (j.add (d.toNat*32)) k)/\(0<=d/\d<(b:Int))/\Is a fun m:Addr=>(i.size=32/\(∀n∈i.toList,n.oneCell'=true)/\ ∀o,o<32->Wr f ((m.add (d.toNat*32)).add o))/\let p:=setCells f (m.add (d.toNat*32)) i.toList 0;(0<=e/\e<(b:Int))/\Is a fun q:Addr=>(k.size=32/\(∀r∈k.toList,r.oneCell'=true)/\ ∀t,t<32->Wr p ((q.add (e.toNat*32)).add t))/\let u:=setCells p (q.add (e.toNat*32)) k.toList 0;Q .normal [(0,.slice a b c),(8,.int .i64 (IntKind.i64.wrap (d+(1:Int)))),(9,.int .i64 (IntKind.i64.wrap (e-(1:Int))))] u) (Q (.exit 0) [(0,.slice a b c),(8,.int .i64 d),(9,.int .i64 e)] w)
theorem cS.b1:(aT none [] prog 34 cS.k (lB (bB (sR (sR (body f126))))) cS.u1 Q [(0,.slice a b c),(8,.int .i64 d),(9,.int .i64 e)] w)=cS.B1 a b c d e Q w:=by kernel_rfl
variable{a b c}
theorem cS.bU(I:Int×Int->World->Prop)(μ:Int×Int->World->Nat)(s:Int×Int){Q:aJ}{w:World}(h0:I s w)
 (round: ∀s w,I s w->cS.B1 a b c (s.1) (s.2) (bF (cS.e1 a b c) I μ s w Q) w):Holds none [] prog 34 (.loop (lB (bB (sR (sR (body f126)))))) Q (cS.e1 a b c s) w:=
 ba ng mix (cS.e1 a b c) I μ cS.k cS.u1 s (fun s Q w=>cS.B1 a b c (s.1) (s.2) Q w) (fun s Q w=>cS.b1 a b c (s.1) (s.2) Q w) h0 round
end
section
def cS.cW(a:OA)(b:Nat)(c:Nat)(d:Int)(e:Int)(K:KT)(w:World):Prop:=
 K (.tuple #[]) w
variable(a:OA)(b:Nat)(c:Nat)(d:Int)(e:Int)(K:KT)(w:World)
theorem cS.dD:(cS.q1 K (.exit 0) [(0,.slice a b c),(8,.int .i64 d),(9,.int .i64 e)] w)=cS.cW a b c d e K w:=by kernel_rfl
end
def aZ.k:List Nat:= []
def aZ.q1(K:KT):aJ:=(aK 0 (bY (sR (sR (sR (body f127))))++(aO f127)) (bN (fun bS w_=>match cutAt aZ.k (sR (sR (sR (body f127))))with|true=>Holds none [] prog 141 (sR (sR (sR (body f127)))) (bG prog f127 K) bS w_|false=>aT none [] prog 141 aZ.k (sR (sR (sR (body f127)))) (aO f127) (bG prog f127 K) bS w_) (bG prog f127 K)))
def aZ.e1(a:OA)(b:Nat)(c:Nat)(d:Int)(e:Int)(f:OA)(s:Bool×Int×Int):Env:= [(0,.slice a b c),(1,.int .i64 d),(2,.int .i64 e),(3,.func (.func 47) #[.pointer f] #[]),(8,.bool s.1),(9,.int .i64 s.2.1),(10,.int .i64 s.2.2)]
def aZ.u1:List Nat:= [0,1,2,3,8,9,10]
def aZ.q2(Q:aJ):aJ:=(aK 2 (bY (sR (bB (sL (sR (lB (bB (sR (sL (sR (sR (body f127)))))))))))++(bY (sR (sR (lB (bB (sR (sL (sR (sR (body f127)))))))))++aZ.u1)) (bN (fun bS w_=>match cutAt aZ.k (sR (bB (sL (sR (lB (bB (sR (sL (sR (sR (body f127)))))))))))with|true=>Holds none [] prog 141 (sR (bB (sL (sR (lB (bB (sR (sL (sR (sR (body f127))))))))))) (aK 1 (bY (sR (sR (lB (bB (sR (sL (sR (sR (body f127)))))))))++aZ.u1) (bN (fun bS w_=>match cutAt aZ.k (sR (sR (lB (bB (sR (sL (sR (sR (body f127)))))))))with|true=>Holds none [] prog 141 (sR (sR (lB (bB (sR (sL (sR (sR (body f127))))))))) Q bS w_|false=>aT none [] prog 141 aZ.k (sR (sR (lB (bB (sR (sL (sR (sR (body f127))))))))) aZ.u1 Q bS w_) Q)) bS w_|false=>aT none [] prog 141 aZ.k (sR (bB (sL (sR (lB (bB (sR (sL (sR (sR (body f127))))))))))) (bY (sR (sR (lB (bB (sR (sL (sR (sR (body f127)))))))))++aZ.u1) (aK 1 (bY (sR (sR (lB (bB (sR (sL (sR (sR (body f127)))))))))++aZ.u1) (bN (fun bS w_=>match cutAt aZ.k (sR (sR (lB (bB (sR (sL (sR (sR (body f127)))))))))with|true=>Holds none [] prog 141 (sR (sR (lB (bB (sR (sL (sR (sR (body f127))))))))) Q bS w_|false=>aT none [] prog 141 aZ.k (sR (sR (lB (bB (sR (sL (sR (sR (body f127))))))))) aZ.u1 Q bS w_) Q)) bS w_) (aK 1 (bY (sR (sR (lB (bB (sR (sL (sR (sR (body f127)))))))))++aZ.u1) (bN (fun bS w_=>match cutAt aZ.k (sR (sR (lB (bB (sR (sL (sR (sR (body f127)))))))))with|true=>Holds none [] prog 141 (sR (sR (lB (bB (sR (sL (sR (sR (body f127))))))))) Q bS w_|false=>aT none [] prog 141 aZ.k (sR (sR (lB (bB (sR (sL (sR (sR (body f127))))))))) aZ.u1 Q bS w_) Q))))
def aZ.e2(a:OA)(b:Nat)(c:Nat)(d:Int)(e:Int)(f:OA)(g:Bool)(i:Int)(s:Int):Env:= [(0,.slice a b c),(1,.int .i64 d),(2,.int .i64 e),(3,.func (.func 47) #[.pointer f] #[]),(8,.bool g),(9,.int .i64 s),(10,.int .i64 i)]
def aZ.u2:List Nat:= [0,1,2,3,8,9,10]
def aZ.q3(Q:aJ):aJ:=(aK 4 (bY (sR (sR (sR (sR (sR (bB (sL (sR (lB (bB (sR (sL (sR (sR (body f127)))))))))))))))++(bY (sR (sR (lB (bB (sR (sL (sR (sR (body f127)))))))))++aZ.u1)) (bN (fun bS w_=>match cutAt aZ.k (sR (sR (sR (sR (sR (bB (sL (sR (lB (bB (sR (sL (sR (sR (body f127)))))))))))))))with|true=>Holds none [] prog 141 (sR (sR (sR (sR (sR (bB (sL (sR (lB (bB (sR (sL (sR (sR (body f127))))))))))))))) (aK 1 (bY (sR (sR (lB (bB (sR (sL (sR (sR (body f127)))))))))++aZ.u1) (bN (fun bS w_=>match cutAt aZ.k (sR (sR (lB (bB (sR (sL (sR (sR (body f127)))))))))with|true=>Holds none [] prog 141 (sR (sR (lB (bB (sR (sL (sR (sR (body f127))))))))) Q bS w_|false=>aT none [] prog 141 aZ.k (sR (sR (lB (bB (sR (sL (sR (sR (body f127))))))))) aZ.u1 Q bS w_) Q)) bS w_|false=>aT none [] prog 141 aZ.k (sR (sR (sR (sR (sR (bB (sL (sR (lB (bB (sR (sL (sR (sR (body f127))))))))))))))) (bY (sR (sR (lB (bB (sR (sL (sR (sR (body f127)))))))))++aZ.u1) (aK 1 (bY (sR (sR (lB (bB (sR (sL (sR (sR (body f127)))))))))++aZ.u1) (bN (fun bS w_=>match cutAt aZ.k (sR (sR (lB (bB (sR (sL (sR (sR (body f127)))))))))with|true=>Holds none [] prog 141 (sR (sR (lB (bB (sR (sL (sR (sR (body f127))))))))) Q bS w_|false=>aT none [] prog 141 aZ.k (sR (sR (lB (bB (sR (sL (sR (sR (body f127))))))))) aZ.u1 Q bS w_) Q)) bS w_) (aK 1 (bY (sR (sR (lB (bB (sR (sL (sR (sR (body f127)))))))))++aZ.u1) (bN (fun bS w_=>match cutAt aZ.k (sR (sR (lB (bB (sR (sL (sR (sR (body f127)))))))))with|true=>Holds none [] prog 141 (sR (sR (lB (bB (sR (sL (sR (sR (body f127))))))))) Q bS w_|false=>aT none [] prog 141 aZ.k (sR (sR (lB (bB (sR (sL (sR (sR (body f127))))))))) aZ.u1 Q bS w_) Q))))
def aZ.q4(Q:aJ):aJ:=(aK 6 (bY (sR (sR (lB (bB (sR (sL (sR (sR (body f127)))))))))++aZ.u1) (aK 1 (bY (sR (sR (lB (bB (sR (sL (sR (sR (body f127)))))))))++aZ.u1) (bN (fun bS w_=>match cutAt aZ.k (sR (sR (lB (bB (sR (sL (sR (sR (body f127)))))))))with|true=>Holds none [] prog 141 (sR (sR (lB (bB (sR (sL (sR (sR (body f127))))))))) Q bS w_|false=>aT none [] prog 141 aZ.k (sR (sR (lB (bB (sR (sL (sR (sR (body f127))))))))) aZ.u1 Q bS w_) Q)))
section
variable(a:OA)(b:Nat)(d:Nat)(e:Int)(f:Int)(g:OA)(K:KT)(w:World)
def aZ.W:Prop:=
 Holds none [] prog 141 (.loop (lB (bB (sR (sL (sR (sR (body f127)))))))) (aZ.q1 K) [(0,.slice a b d),(1,.int .i64 e),(2,.int .i64 f),(3,.func (.func 47) #[.pointer g] #[]),(8,.bool false),(9,.int .i64 (IntKind.i64.wrap (e+(1:Int)))),(10,.int .i64 0)] w
variable{a b d e f g K w}
theorem aZ.of(h:aZ.W a b d e f g K w):aY prog 127 #[.slice a b d,.int .i64 e,.int .i64 f,.func (.func 47) #[.pointer g] #[]] w K:=
 aH (C:=aZ.k) (c:=body f127) ng mix func127 (by kernel_rfl) (by kernel_rfl) (by kernel_rfl) h
end
section
variable(a:OA)(b:Nat)(c:Nat)(d:Int)(e:Int)(f:OA)(g:Bool)(i:Int)(j:Int)(Q:aJ)(w:World)
def aZ.B1:Prop:=
 Split (decide (j<(5:Int))) (Holds none [] prog 141 (.loop (lB (bB (sL (bB (sL (sR (lB (bB (sR (sL (sR (sR (body f127)))))))))))))) (aZ.q2 Q) [(0,.slice a b c),(1,.int .i64 d),(2,.int .i64 e),(3,.func (.func 47) #[.pointer f] #[]),(8,.bool g),(9,.int .i64 i),(10,.int .i64 j)] w) (Q (.exit 0) [(0,.slice a b c),(1,.int .i64 d),(2,.int .i64 e),(3,.func (.func 47) #[.pointer f] #[]),(8,.bool g),(9,.int .i64 i),(10,.int .i64 j)] w)
theorem aZ.b1:(aT none [] prog 141 aZ.k (lB (bB (sR (sL (sR (sR (body f127))))))) aZ.u1 Q [(0,.slice a b c),(1,.int .i64 d),(2,.int .i64 e),(3,.func (.func 47) #[.pointer f] #[]),(8,.bool g),(9,.int .i64 i),(10,.int .i64 j)] w)=aZ.B1 a b c d e f g i j Q w:=by kernel_rfl
variable{a b c d e f}
theorem aZ.bU(I:Bool×Int×Int->World->Prop)(μ:Bool×Int×Int->World->Nat)(s:Bool×Int×Int){Q:aJ}{w:World}(h0:I s w)
 (round: ∀s w,I s w->aZ.B1 a b c d e f (s.1) (s.2.1) (s.2.2) (bF (aZ.e1 a b c d e f) I μ s w Q) w):Holds none [] prog 141 (.loop (lB (bB (sR (sL (sR (sR (body f127)))))))) Q (aZ.e1 a b c d e f s) w:=
 ba ng mix (aZ.e1 a b c d e f) I μ aZ.k aZ.u1 s (fun s Q w=>aZ.B1 a b c d e f (s.1) (s.2.1) (s.2.2) Q w) (fun s Q w=>aZ.b1 a b c d e f (s.1) (s.2.1) (s.2.2) Q w) h0 round
end
section
variable(a:OA)(b:Nat)(c:Nat)(d:Int)(e:Int)(f:OA)(g:Bool)(i:Int)(j:Int)(K:KT)(w:World)
end
section
variable(a:OA)(b:Nat)(c:Nat)(d:Int)(e:Int)(f:OA)(g:Bool)(i:Int)(j:Int)(Q:aJ)(w:World)
def aZ.B2:Prop:=
 let k:=w.drew;Split (decide (i<e)) ((0<=i/\i<(b:Int))/\Is a fun m:Addr=> ∃n:AV,(n.size=32/\Cells k (m.add (i.toNat*32)) n)/\(0<=(IntKind.i64.wrap (i-(1:Int)))/\(IntKind.i64.wrap (i-(1:Int)))<(b:Int))/\Is a fun o:Addr=> ∃p:AV,(p.size=32/\Cells k (o.add ((IntKind.i64.wrap (i-(1:Int))).toNat*32)) p)/\aY prog 47 #[.pointer f,.agg n,.agg p] k fun q r=> ∃t:Int,q=.int .i64 t/\Split (!(decide (t<(0:Int)))) (Q .normal [(0,.slice a b c),(1,.int .i64 d),(2,.int .i64 e),(3,.func (.func 47) #[.pointer f] #[]),(8,.bool g),(9,.int .i64 (IntKind.i64.wrap (i+(1:Int)))),(10,.int .i64 j)] r) (Q (.exit 2) [(0,.slice a b c),(1,.int .i64 d),(2,.int .i64 e),(3,.func (.func 47) #[.pointer f] #[]),(8,.bool g),(9,.int .i64 i),(10,.int .i64 j)] r)) (Q (.exit 2) [(0,.slice a b c),(1,.int .i64 d),(2,.int .i64 e),(3,.func (.func 47) #[.pointer f] #[]),(8,.bool g),(9,.int .i64 i),(10,.int .i64 j)] k)
theorem aZ.b2:(aT none [] prog 141 aZ.k (lB (bB (sL (bB (sL (sR (lB (bB (sR (sL (sR (sR (body f127))))))))))))) aZ.u2 Q [(0,.slice a b c),(1,.int .i64 d),(2,.int .i64 e),(3,.func (.func 47) #[.pointer f] #[]),(8,.bool g),(9,.int .i64 i),(10,.int .i64 j)] w)=aZ.B2 a b c d e f g i j Q w:=by kernel_rfl
variable{a b c d e f g j}
theorem aZ.gz(I:Int->World->Prop)(μ:Int->World->Nat)(s:Int){Q:aJ}{w:World}(h0:I s w)
 (round: ∀s w,I s w->aZ.B2 a b c d e f g s j (bF (aZ.e2 a b c d e f g j) I μ s w Q) w):Holds none [] prog 141 (.loop (lB (bB (sL (bB (sL (sR (lB (bB (sR (sL (sR (sR (body f127)))))))))))))) Q (aZ.e2 a b c d e f g j s) w:=
 ba ng mix (aZ.e2 a b c d e f g j) I μ aZ.k aZ.u2 s (fun s Q w=>aZ.B2 a b c d e f g s j Q w) (fun s Q w=>aZ.b2 a b c d e f g s j Q w) h0 round
end
section
variable(a:OA)(b:Nat)(c:Nat)(d:Int)(e:Int)(f:OA)(g:Bool)(i:Int)(j:Int)(Q:aJ)(w:World)
def aZ.iS:Prop:=
 Split (i==e) (Q .ret [(0,.slice a b c),(1,.int .i64 d),(2,.int .i64 e),(3,.func (.func 47) #[.pointer f] #[]),(8,.bool true),(9,.int .i64 i),(10,.int .i64 j)] w) (Split (decide ((IntKind.i64.wrap (e-d))<(50:Int))) (Q .ret [(0,.slice a b c),(1,.int .i64 d),(2,.int .i64 e),(3,.func (.func 47) #[.pointer f] #[]),(8,.bool false),(9,.int .i64 i),(10,.int .i64 j)] w) (let k:=w.drew;(0<=(IntKind.i64.wrap (i-(1:Int)))/\(IntKind.i64.wrap (i-(1:Int)))<(b:Int))/\Is a fun m:Addr=> ∃n:AV,(n.size=32/\Cells k (m.add ((IntKind.i64.wrap (i-(1:Int))).toNat*32)) n)/\(0<=i/\i<(b:Int))/\Is a fun o:Addr=> ∃p:AV,(p.size=32/\Cells k (o.add (i.toNat*32)) p)/\(0<=i/\i<(b:Int))/\Is a fun q:Addr=>(n.size=32/\(∀r∈n.toList,r.oneCell'=true)/\ ∀t,t<32->Wr k ((q.add (i.toNat*32)).add t))/\let u:=setCells k (q.add (i.toNat*32)) n.toList 0;(0<=(IntKind.i64.wrap (i-(1:Int)))/\(IntKind.i64.wrap (i-(1:Int)))<(b:Int))/\Is a fun v:Addr=>(p.size=32/\(∀x∈p.toList,x.oneCell'=true)/\ ∀y,y<32->Wr u ((v.add ((IntKind.i64.wrap (i-(1:Int))).toNat*32)).add y))/\let z:=setCells u (v.add ((IntKind.i64.wrap (i-(1:Int))).toNat*32)) p.toList 0;Split (decide ((IntKind.i64.wrap (i-d))>=(2:Int))) (Holds none [] prog 141 (.loop (lB (bB (sR (cT (sR (sL (sR (sR (sR (sR (bB (sL (sR (lB (bB (sR (sL (sR (sR (body f127))))))))))))))))))))) (aZ.q3 Q) [(0,.slice a b c),(1,.int .i64 d),(2,.int .i64 e),(3,.func (.func 47) #[.pointer f] #[]),(8,.bool g),(9,.int .i64 i),(10,.int .i64 j),(11,.int .i64 (IntKind.i64.wrap (i-(1:Int))))] z) (Split (decide ((IntKind.i64.wrap (e-i))>=(2:Int))) (Holds none [] prog 141 (.loop (lB (bB (sR (cT (sR (sR (sR (sR (sR (sR (bB (sL (sR (lB (bB (sR (sL (sR (sR (body f127))))))))))))))))))))) (aZ.q4 Q) [(0,.slice a b c),(1,.int .i64 d),(2,.int .i64 e),(3,.func (.func 47) #[.pointer f] #[]),(8,.bool g),(9,.int .i64 i),(10,.int .i64 j),(12,.int .i64 (IntKind.i64.wrap (i+(1:Int))))] z) (Q .normal [(0,.slice a b c),(1,.int .i64 d),(2,.int .i64 e),(3,.func (.func 47) #[.pointer f] #[]),(8,.bool g),(9,.int .i64 i),(10,.int .i64 (IntKind.i64.wrap (j+(1:Int))))] z))))
theorem aZ.jI:(aZ.q2 Q (.exit 2) [(0,.slice a b c),(1,.int .i64 d),(2,.int .i64 e),(3,.func (.func 47) #[.pointer f] #[]),(8,.bool g),(9,.int .i64 i),(10,.int .i64 j)] w)=aZ.iS a b c d e f g i j Q w:=by kernel_rfl
end
section
variable(a:OA)(b:Nat)(c:Nat)(d:Int)(e:Int)(f:OA)(g:Bool)(i:Int)(j:Int)(k:Int)(Q:aJ)(w:World)
variable{a b c d e f g i j}
end
section
variable(a:OA)(b:Nat)(c:Nat)(d:Int)(e:Int)(f:OA)(g:Bool)(i:Int)(j:Int)(k:Int)(Q:aJ)(w:World)
end
section
variable(a:OA)(b:Nat)(c:Nat)(d:Int)(e:Int)(f:OA)(g:Bool)(i:Int)(j:Int)(k:Int)(Q:aJ)(w:World)
variable{a b c d e f g i j}
end
section
variable(a:OA)(b:Nat)(c:Nat)(d:Int)(e:Int)(f:OA)(g:Bool)(i:Int)(j:Int)(k:Int)(Q:aJ)(w:World)
end
section
variable(a:OA)(b:Nat)(d:Nat)(e:Int)(f:Int)(g:Int)(i:OA)(K:KT)(w:World)
variable{a b d e f g i K w}
end
section
variable(a:OA)(b:Nat)(c:Nat)(d:Int)(e:OA)(f:Int)(g:Int)(i:Int)(Q:aJ)(w:World)
variable{a b c d e f}
end
section
variable(a:OA)(b:Nat)(c:Nat)(d:Int)(e:OA)(f:Int)(g:Int)(i:Int)(Q:aJ)(w:World)
variable{a b c d e f i}
end
section
variable(a:OA)(b:Nat)(c:Nat)(d:Int)(e:OA)(f:Int)(g:Int)(i:Int)(Q:aJ)(w:World)
end
section
variable(a:OA)(b:Nat)(c:Nat)(d:Int)(e:OA)(f:Int)(g:Int)(i:Int)(Q:aJ)(w:World)
variable{a b c d e f g}
end
section
variable(a:OA)(b:Nat)(c:Nat)(d:Int)(e:OA)(f:Int)(g:Int)(i:Int)(Q:aJ)(w:World)
end
section
variable(a:OA)(b:Nat)(c:Nat)(d:Int)(e:OA)(f:Int)(g:Int)(i:Int)(K:KT)(w:World)
end
def aF.k:List Nat:= []
def aF.q1(K:KT):aJ:=(aK 0 (bY (sR (sR (sR (sR (body Tryz.f129)))))++(aO Tryz.f129)) (bN (fun bS w_=>match cutAt aF.k (sR (sR (sR (sR (body Tryz.f129)))))with|true=>Holds none [] prog 178 (sR (sR (sR (sR (body Tryz.f129))))) (bG prog Tryz.f129 K) bS w_|false=>aT none [] prog 178 aF.k (sR (sR (sR (sR (body Tryz.f129))))) (aO Tryz.f129) (bG prog Tryz.f129 K) bS w_) (bG prog Tryz.f129 K)))
def aF.e1(a:OA)(b:Nat)(c:Nat)(d:Int)(e:OA)(f:Int)(g:Int)(s:Int):Env:= [(0,.slice a b c),(1,.int .i64 d),(4,.func (.func 47) #[.pointer e] #[]),(10,.int .i64 f),(11,.bool false),(12,.int .i64 s),(13,.int .i64 g)]
def aF.u1:List Nat:= [0,1,4,10,11,12,13]
def aF.q2(K:KT):aJ:=(aK 2 (bY (sR (sR (sR (sR (sR (body Tryz.f129))))))++(aO Tryz.f129)) (bN (fun bS w_=>match cutAt aF.k (sR (sR (sR (sR (sR (body Tryz.f129))))))with|true=>Holds none [] prog 178 (sR (sR (sR (sR (sR (body Tryz.f129)))))) (bG prog Tryz.f129 K) bS w_|false=>aT none [] prog 178 aF.k (sR (sR (sR (sR (sR (body Tryz.f129)))))) (aO Tryz.f129) (bG prog Tryz.f129 K) bS w_) (bG prog Tryz.f129 K)))
def aF.e2(a:OA)(b:Nat)(c:Nat)(d:Int)(e:OA)(f:Int)(g:Int)(s:Int):Env:= [(0,.slice a b c),(1,.int .i64 d),(4,.func (.func 47) #[.pointer e] #[]),(10,.int .i64 f),(11,.bool false),(12,.int .i64 g),(13,.int .i64 s)]
def aF.u2:List Nat:= [0,1,4,10,11,12,13]
def aF.q3(K:KT):aJ:=(aK 4 (bY (sR (sR (sR (sR (sR (sR (sR (sR (sR (sR (body Tryz.f129)))))))))))++(aO Tryz.f129)) (bN (fun bS w_=>match cutAt aF.k (sR (sR (sR (sR (sR (sR (sR (sR (sR (sR (body Tryz.f129)))))))))))with|true=>Holds none [] prog 178 (sR (sR (sR (sR (sR (sR (sR (sR (sR (sR (body Tryz.f129))))))))))) (bG prog Tryz.f129 K) bS w_|false=>aT none [] prog 178 aF.k (sR (sR (sR (sR (sR (sR (sR (sR (sR (sR (body Tryz.f129))))))))))) (aO Tryz.f129) (bG prog Tryz.f129 K) bS w_) (bG prog Tryz.f129 K)))
def aF.e3(a:OA)(b:Nat)(c:Nat)(d:Int)(e:OA)(f:Int)(s:Int×Int):Env:= [(0,.slice a b c),(1,.int .i64 d),(4,.func (.func 47) #[.pointer e] #[]),(10,.int .i64 f),(11,.bool false),(12,.int .i64 s.1),(13,.int .i64 s.2)]
def aF.u3:List Nat:= [0,1,4,10,11,12,13]
def aF.q4(Q:aJ):aJ:=(aK 6 (bY (sR (bB (lB (bB (sL (sR (sR (sR (sR (sR (sR (sR (sR (sR (body Tryz.f129)))))))))))))))++aF.u3) (bN (fun bS w_=>match cutAt aF.k (sR (bB (lB (bB (sL (sR (sR (sR (sR (sR (sR (sR (sR (sR (body Tryz.f129)))))))))))))))with|true=>Holds none [] prog 178 (sR (bB (lB (bB (sL (sR (sR (sR (sR (sR (sR (sR (sR (sR (body Tryz.f129))))))))))))))) (aK 5 aF.u3 Q) bS w_|false=>aT none [] prog 178 aF.k (sR (bB (lB (bB (sL (sR (sR (sR (sR (sR (sR (sR (sR (sR (body Tryz.f129))))))))))))))) aF.u3 (aK 5 aF.u3 Q) bS w_) (aK 5 aF.u3 Q)))
def aF.e4(a:OA)(b:Nat)(c:Nat)(d:Int)(e:OA)(f:Int)(g:Int)(s:Int):Env:= [(0,.slice a b c),(1,.int .i64 d),(4,.func (.func 47) #[.pointer e] #[]),(10,.int .i64 f),(11,.bool false),(12,.int .i64 s),(13,.int .i64 g)]
def aF.u4:List Nat:= [0,1,4,10,11,12,13]
def aF.q5(Q:aJ):aJ:=(aK 8 (bY (sR (sR (bB (lB (bB (sL (sR (sR (sR (sR (sR (sR (sR (sR (sR (body Tryz.f129))))))))))))))))++aF.u3) (bN (fun bS w_=>match cutAt aF.k (sR (sR (bB (lB (bB (sL (sR (sR (sR (sR (sR (sR (sR (sR (sR (body Tryz.f129))))))))))))))))with|true=>Holds none [] prog 178 (sR (sR (bB (lB (bB (sL (sR (sR (sR (sR (sR (sR (sR (sR (sR (body Tryz.f129)))))))))))))))) (aK 5 aF.u3 Q) bS w_|false=>aT none [] prog 178 aF.k (sR (sR (bB (lB (bB (sL (sR (sR (sR (sR (sR (sR (sR (sR (sR (body Tryz.f129)))))))))))))))) aF.u3 (aK 5 aF.u3 Q) bS w_) (aK 5 aF.u3 Q)))
def aF.e5(a:OA)(b:Nat)(c:Nat)(d:Int)(e:OA)(f:Int)(g:Int)(s:Int):Env:= [(0,.slice a b c),(1,.int .i64 d),(4,.func (.func 47) #[.pointer e] #[]),(10,.int .i64 f),(11,.bool false),(12,.int .i64 g),(13,.int .i64 s)]
def aF.u5:List Nat:= [0,1,4,10,11,12,13]
section
variable(a:OA)(b:Nat)(d:Nat)(e:Int)(f:Int)(g:Int)(i:OA)(K:KT)(w:World)
def aF.W:Prop:=
 let j:=w.drew;(0<=g/\g<(b:Int))/\Is a fun k:Addr=> ∃m:AV,(m.size=32/\Cells j (k.add (g.toNat*32)) m)/\(0<=e/\e<(b:Int))/\Is a fun n:Addr=> ∃o:AV,(o.size=32/\Cells j (n.add (e.toNat*32)) o)/\(0<=e/\e<(b:Int))/\Is a fun p:Addr=>(m.size=32/\(∀q∈m.toList,q.oneCell'=true)/\ ∀r,r<32->Wr j ((p.add (e.toNat*32)).add r))/\let t:=setCells j (p.add (e.toNat*32)) m.toList 0;(0<=g/\g<(b:Int))/\Is a fun u:Addr=>(o.size=32/\(∀v∈o.toList,v.oneCell'=true)/\ ∀x,x<32->Wr t ((u.add (g.toNat*32)).add x))/\let y:=setCells t (u.add (g.toNat*32)) o.toList 0;Holds none [] prog 178 (.loop (lB (bB (sL (sR (sR (sR (body Tryz.f129)))))))) (aF.q1 K) [(0,.slice a b d),(1,.int .i64 e),(4,.func (.func 47) #[.pointer i] #[]),(10,.int .i64 0),(11,.bool false),(12,.int .i64 (IntKind.i64.wrap (e+(1:Int)))),(13,.int .i64 (IntKind.i64.wrap (f-(1:Int))))] y
variable{a b d e f g i K w}
theorem aF.of(h:aF.W a b d e f g i K w):aY prog 129 #[.slice a b d,.int .i64 e,.int .i64 f,.int .i64 g,.func (.func 47) #[.pointer i] #[]] w K:=
 aH (C:=aF.k) (c:=body Tryz.f129) ng mix func129 (by kernel_rfl) (by kernel_rfl) (by kernel_rfl) h
end
section
variable(a:OA)(b:Nat)(c:Nat)(d:Int)(e:OA)(f:Int)(g:Int)(i:Int)(Q:aJ)(w:World)
def aF.B1:Prop:=
 let j:=w.drew;Split (decide (g<=i)) ((0<=g/\g<(b:Int))/\Is a fun k:Addr=> ∃m:AV,(m.size=32/\Cells j (k.add (g.toNat*32)) m)/\(0<=d/\d<(b:Int))/\Is a fun n:Addr=> ∃o:AV,(o.size=32/\Cells j (n.add (d.toNat*32)) o)/\aY prog 47 #[.pointer e,.agg m,.agg o] j fun p q=> ∃r:Int,p=.int .i64 r/\Split (decide (r<(0:Int))) (Q .normal [(0,.slice a b c),(1,.int .i64 d),(4,.func (.func 47) #[.pointer e] #[]),(10,.int .i64 f),(11,.bool false),(12,.int .i64 (IntKind.i64.wrap (g+(1:Int)))),(13,.int .i64 i)] q) (Q (.exit 0) [(0,.slice a b c),(1,.int .i64 d),(4,.func (.func 47) #[.pointer e] #[]),(10,.int .i64 f),(11,.bool false),(12,.int .i64 g),(13,.int .i64 i)] q)) (Q (.exit 0) [(0,.slice a b c),(1,.int .i64 d),(4,.func (.func 47) #[.pointer e] #[]),(10,.int .i64 f),(11,.bool false),(12,.int .i64 g),(13,.int .i64 i)] j)
theorem aF.b1:(aT none [] prog 178 aF.k (lB (bB (sL (sR (sR (sR (body Tryz.f129))))))) aF.u1 Q [(0,.slice a b c),(1,.int .i64 d),(4,.func (.func 47) #[.pointer e] #[]),(10,.int .i64 f),(11,.bool false),(12,.int .i64 g),(13,.int .i64 i)] w)=aF.B1 a b c d e f g i Q w:=by kernel_rfl
variable{a b c d e f i}
theorem aF.bU(I:Int->World->Prop)(μ:Int->World->Nat)(s:Int){Q:aJ}{w:World}(h0:I s w)
 (round: ∀s w,I s w->aF.B1 a b c d e f s i (bF (aF.e1 a b c d e f i) I μ s w Q) w):Holds none [] prog 178 (.loop (lB (bB (sL (sR (sR (sR (body Tryz.f129)))))))) Q (aF.e1 a b c d e f i s) w:=
 ba ng mix (aF.e1 a b c d e f i) I μ aF.k aF.u1 s (fun s Q w=>aF.B1 a b c d e f s i Q w) (fun s Q w=>aF.b1 a b c d e f s i Q w) h0 round
end
section
variable(a:OA)(b:Nat)(c:Nat)(d:Int)(e:OA)(f:Int)(g:Int)(i:Int)(K:KT)(w:World)
def aF.cW:Prop:=
 Holds none [] prog 178 (.loop (lB (bB (sL (sR (sR (sR (sR (body Tryz.f129))))))))) (aF.q2 K) [(0,.slice a b c),(1,.int .i64 d),(4,.func (.func 47) #[.pointer e] #[]),(10,.int .i64 f),(11,.bool false),(12,.int .i64 g),(13,.int .i64 i)] w
theorem aF.dD:(aF.q1 K (.exit 0) [(0,.slice a b c),(1,.int .i64 d),(4,.func (.func 47) #[.pointer e] #[]),(10,.int .i64 f),(11,.bool false),(12,.int .i64 g),(13,.int .i64 i)] w)=aF.cW a b c d e f g i K w:=by kernel_rfl
end
section
variable(a:OA)(b:Nat)(c:Nat)(d:Int)(e:OA)(f:Int)(g:Int)(i:Int)(Q:aJ)(w:World)
def aF.B2:Prop:=
 let j:=w.drew;Split (decide (g<=i)) ((0<=i/\i<(b:Int))/\Is a fun k:Addr=> ∃m:AV,(m.size=32/\Cells j (k.add (i.toNat*32)) m)/\(0<=d/\d<(b:Int))/\Is a fun n:Addr=> ∃o:AV,(o.size=32/\Cells j (n.add (d.toNat*32)) o)/\aY prog 47 #[.pointer e,.agg m,.agg o] j fun p q=> ∃r:Int,p=.int .i64 r/\Split (!(decide (r<(0:Int)))) (Q .normal [(0,.slice a b c),(1,.int .i64 d),(4,.func (.func 47) #[.pointer e] #[]),(10,.int .i64 f),(11,.bool false),(12,.int .i64 g),(13,.int .i64 (IntKind.i64.wrap (i-(1:Int))))] q) (Q (.exit 2) [(0,.slice a b c),(1,.int .i64 d),(4,.func (.func 47) #[.pointer e] #[]),(10,.int .i64 f),(11,.bool false),(12,.int .i64 g),(13,.int .i64 i)] q)) (Q (.exit 2) [(0,.slice a b c),(1,.int .i64 d),(4,.func (.func 47) #[.pointer e] #[]),(10,.int .i64 f),(11,.bool false),(12,.int .i64 g),(13,.int .i64 i)] j)
theorem aF.b2:(aT none [] prog 178 aF.k (lB (bB (sL (sR (sR (sR (sR (body Tryz.f129)))))))) aF.u2 Q [(0,.slice a b c),(1,.int .i64 d),(4,.func (.func 47) #[.pointer e] #[]),(10,.int .i64 f),(11,.bool false),(12,.int .i64 g),(13,.int .i64 i)] w)=aF.B2 a b c d e f g i Q w:=by kernel_rfl
variable{a b c d e f g}
theorem aF.gz(I:Int->World->Prop)(μ:Int->World->Nat)(s:Int){Q:aJ}{w:World}(h0:I s w)
 (round: ∀s w,I s w->aF.B2 a b c d e f g s (bF (aF.e2 a b c d e f g) I μ s w Q) w):Holds none [] prog 178 (.loop (lB (bB (sL (sR (sR (sR (sR (body Tryz.f129))))))))) Q (aF.e2 a b c d e f g s) w:=
 ba ng mix (aF.e2 a b c d e f g) I μ aF.k aF.u2 s (fun s Q w=>aF.B2 a b c d e f g s Q w) (fun s Q w=>aF.b2 a b c d e f g s Q w) h0 round
end
section
variable(a:OA)(b:Nat)(c:Nat)(d:Int)(e:OA)(f:Int)(g:Int)(i:Int)(K:KT)(w:World)
def aF.iS:Prop:=
 Split (decide (g>i)) (let j:=w.drew;(0<=d/\d<(b:Int))/\Is a fun k:Addr=> ∃m:AV,(m.size=32/\Cells j (k.add (d.toNat*32)) m)/\(0<=i/\i<(b:Int))/\Is a fun n:Addr=> ∃o:AV,(o.size=32/\Cells j (n.add (i.toNat*32)) o)/\(0<=i/\i<(b:Int))/\Is a fun p:Addr=>(m.size=32/\(∀q∈m.toList,q.oneCell'=true)/\ ∀r,r<32->Wr j ((p.add (i.toNat*32)).add r))/\let t:=setCells j (p.add (i.toNat*32)) m.toList 0;(0<=d/\d<(b:Int))/\Is a fun u:Addr=>(o.size=32/\(∀v∈o.toList,v.oneCell'=true)/\ ∀x,x<32->Wr t ((u.add (d.toNat*32)).add x))/\let y:=setCells t (u.add (d.toNat*32)) o.toList 0;K (.tuple #[.int .i64 i,.bool true]) y) (let z:=w.drew;(0<=i/\i<(b:Int))/\Is a fun a1:Addr=> ∃b1:AV,(b1.size=32/\Cells z (a1.add (i.toNat*32)) b1)/\(0<=g/\g<(b:Int))/\Is a fun c1:Addr=> ∃d1:AV,(d1.size=32/\Cells z (c1.add (g.toNat*32)) d1)/\(0<=g/\g<(b:Int))/\Is a fun e1:Addr=>(b1.size=32/\(∀f1∈b1.toList,f1.oneCell'=true)/\ ∀g1,g1<32->Wr z ((e1.add (g.toNat*32)).add g1))/\let i1:=setCells z (e1.add (g.toNat*32)) b1.toList 0;(0<=i/\i<(b:Int))/\Is a fun j1:Addr=>(d1.size=32/\(∀k1∈d1.toList,k1.oneCell'=true)/\ ∀m1,m1<32->Wr i1 ((j1.add (i.toNat*32)).add m1))/\let n1:=setCells i1 (j1.add (i.toNat*32)) d1.toList 0;Holds none [] prog 178 (.loop (lB (bB (sL (sR (sR (sR (sR (sR (sR (sR (sR (sR (body Tryz.f129)))))))))))))) (aF.q3 K) [(0,.slice a b c),(1,.int .i64 d),(4,.func (.func 47) #[.pointer e] #[]),(10,.int .i64 f),(11,.bool false),(12,.int .i64 (IntKind.i64.wrap (g+(1:Int)))),(13,.int .i64 (IntKind.i64.wrap (i-(1:Int))))] n1)
theorem aF.jI:(aF.q2 K (.exit 2) [(0,.slice a b c),(1,.int .i64 d),(4,.func (.func 47) #[.pointer e] #[]),(10,.int .i64 f),(11,.bool false),(12,.int .i64 g),(13,.int .i64 i)] w)=aF.iS a b c d e f g i K w:=by kernel_rfl
end
section
variable(a:OA)(b:Nat)(c:Nat)(d:Int)(e:OA)(f:Int)(g:Int)(i:Int)(Q:aJ)(w:World)
def aF.B3:Prop:=
 Holds none [] prog 178 (.loop (lB (bB (sL (bB (lB (bB (sL (sR (sR (sR (sR (sR (sR (sR (sR (sR (body Tryz.f129)))))))))))))))))) (aF.q4 Q) [(0,.slice a b c),(1,.int .i64 d),(4,.func (.func 47) #[.pointer e] #[]),(10,.int .i64 f),(11,.bool false),(12,.int .i64 g),(13,.int .i64 i)] w
theorem aF.b3:(aT none [] prog 178 aF.k (lB (bB (sL (sR (sR (sR (sR (sR (sR (sR (sR (sR (body Tryz.f129))))))))))))) aF.u3 Q [(0,.slice a b c),(1,.int .i64 d),(4,.func (.func 47) #[.pointer e] #[]),(10,.int .i64 f),(11,.bool false),(12,.int .i64 g),(13,.int .i64 i)] w)=aF.B3 a b c d e f g i Q w:=by kernel_rfl
variable{a b c d e f}
theorem aF.uU(I:Int×Int->World->Prop)(μ:Int×Int->World->Nat)(s:Int×Int){Q:aJ}{w:World}(h0:I s w)
 (round: ∀s w,I s w->aF.B3 a b c d e f (s.1) (s.2) (bF (aF.e3 a b c d e f) I μ s w Q) w):Holds none [] prog 178 (.loop (lB (bB (sL (sR (sR (sR (sR (sR (sR (sR (sR (sR (body Tryz.f129)))))))))))))) Q (aF.e3 a b c d e f s) w:=
 ba ng mix (aF.e3 a b c d e f) I μ aF.k aF.u3 s (fun s Q w=>aF.B3 a b c d e f (s.1) (s.2) Q w) (fun s Q w=>aF.b3 a b c d e f (s.1) (s.2) Q w) h0 round
end
section
variable(a:OA)(b:Nat)(c:Nat)(d:Int)(e:OA)(f:Int)(g:Int)(i:Int)(Q:aJ)(w:World)
def aF.B4:Prop:=
 let j:=w.drew;Split (decide (g<=i)) ((0<=g/\g<(b:Int))/\Is a fun k:Addr=> ∃m:AV,(m.size=32/\Cells j (k.add (g.toNat*32)) m)/\(0<=d/\d<(b:Int))/\Is a fun n:Addr=> ∃o:AV,(o.size=32/\Cells j (n.add (d.toNat*32)) o)/\aY prog 47 #[.pointer e,.agg m,.agg o] j fun p q=> ∃r:Int,p=.int .i64 r/\Split (decide (r<(0:Int))) (Q .normal [(0,.slice a b c),(1,.int .i64 d),(4,.func (.func 47) #[.pointer e] #[]),(10,.int .i64 f),(11,.bool false),(12,.int .i64 (IntKind.i64.wrap (g+(1:Int)))),(13,.int .i64 i)] q) (Q (.exit 6) [(0,.slice a b c),(1,.int .i64 d),(4,.func (.func 47) #[.pointer e] #[]),(10,.int .i64 f),(11,.bool false),(12,.int .i64 g),(13,.int .i64 i)] q)) (Q (.exit 6) [(0,.slice a b c),(1,.int .i64 d),(4,.func (.func 47) #[.pointer e] #[]),(10,.int .i64 f),(11,.bool false),(12,.int .i64 g),(13,.int .i64 i)] j)
theorem aF.b4:(aT none [] prog 178 aF.k (lB (bB (sL (bB (lB (bB (sL (sR (sR (sR (sR (sR (sR (sR (sR (sR (body Tryz.f129))))))))))))))))) aF.u4 Q [(0,.slice a b c),(1,.int .i64 d),(4,.func (.func 47) #[.pointer e] #[]),(10,.int .i64 f),(11,.bool false),(12,.int .i64 g),(13,.int .i64 i)] w)=aF.B4 a b c d e f g i Q w:=by kernel_rfl
variable{a b c d e f i}
theorem aF.K0(I:Int->World->Prop)(μ:Int->World->Nat)(s:Int){Q:aJ}{w:World}(h0:I s w)
 (round: ∀s w,I s w->aF.B4 a b c d e f s i (bF (aF.e4 a b c d e f i) I μ s w Q) w):Holds none [] prog 178 (.loop (lB (bB (sL (bB (lB (bB (sL (sR (sR (sR (sR (sR (sR (sR (sR (sR (body Tryz.f129)))))))))))))))))) Q (aF.e4 a b c d e f i s) w:=
 ba ng mix (aF.e4 a b c d e f i) I μ aF.k aF.u4 s (fun s Q w=>aF.B4 a b c d e f s i Q w) (fun s Q w=>aF.b4 a b c d e f s i Q w) h0 round
end
section
variable(a:OA)(b:Nat)(c:Nat)(d:Int)(e:OA)(f:Int)(g:Int)(i:Int)(Q:aJ)(w:World)
def aF.Jc:Prop:=
 Holds none [] prog 178 (.loop (lB (bB (sL (sR (bB (lB (bB (sL (sR (sR (sR (sR (sR (sR (sR (sR (sR (body Tryz.f129))))))))))))))))))) (aF.q5 Q) [(0,.slice a b c),(1,.int .i64 d),(4,.func (.func 47) #[.pointer e] #[]),(10,.int .i64 f),(11,.bool false),(12,.int .i64 g),(13,.int .i64 i)] w
theorem aF.Kq:(aF.q4 Q (.exit 6) [(0,.slice a b c),(1,.int .i64 d),(4,.func (.func 47) #[.pointer e] #[]),(10,.int .i64 f),(11,.bool false),(12,.int .i64 g),(13,.int .i64 i)] w)=aF.Jc a b c d e f g i Q w:=by kernel_rfl
end
section
variable(a:OA)(b:Nat)(c:Nat)(d:Int)(e:OA)(f:Int)(g:Int)(i:Int)(Q:aJ)(w:World)
def aF.B5:Prop:=
 let j:=w.drew;Split (decide (g<=i)) ((0<=i/\i<(b:Int))/\Is a fun k:Addr=> ∃m:AV,(m.size=32/\Cells j (k.add (i.toNat*32)) m)/\(0<=d/\d<(b:Int))/\Is a fun n:Addr=> ∃o:AV,(o.size=32/\Cells j (n.add (d.toNat*32)) o)/\aY prog 47 #[.pointer e,.agg m,.agg o] j fun p q=> ∃r:Int,p=.int .i64 r/\Split (!(decide (r<(0:Int)))) (Q .normal [(0,.slice a b c),(1,.int .i64 d),(4,.func (.func 47) #[.pointer e] #[]),(10,.int .i64 f),(11,.bool false),(12,.int .i64 g),(13,.int .i64 (IntKind.i64.wrap (i-(1:Int))))] q) (Q (.exit 8) [(0,.slice a b c),(1,.int .i64 d),(4,.func (.func 47) #[.pointer e] #[]),(10,.int .i64 f),(11,.bool false),(12,.int .i64 g),(13,.int .i64 i)] q)) (Q (.exit 8) [(0,.slice a b c),(1,.int .i64 d),(4,.func (.func 47) #[.pointer e] #[]),(10,.int .i64 f),(11,.bool false),(12,.int .i64 g),(13,.int .i64 i)] j)
theorem aF.b5:(aT none [] prog 178 aF.k (lB (bB (sL (sR (bB (lB (bB (sL (sR (sR (sR (sR (sR (sR (sR (sR (sR (body Tryz.f129)))))))))))))))))) aF.u5 Q [(0,.slice a b c),(1,.int .i64 d),(4,.func (.func 47) #[.pointer e] #[]),(10,.int .i64 f),(11,.bool false),(12,.int .i64 g),(13,.int .i64 i)] w)=aF.B5 a b c d e f g i Q w:=by kernel_rfl
variable{a b c d e f g}
theorem aF.KZ(I:Int->World->Prop)(μ:Int->World->Nat)(s:Int){Q:aJ}{w:World}(h0:I s w)
 (round: ∀s w,I s w->aF.B5 a b c d e f g s (bF (aF.e5 a b c d e f g) I μ s w Q) w):Holds none [] prog 178 (.loop (lB (bB (sL (sR (bB (lB (bB (sL (sR (sR (sR (sR (sR (sR (sR (sR (sR (body Tryz.f129))))))))))))))))))) Q (aF.e5 a b c d e f g s) w:=
 ba ng mix (aF.e5 a b c d e f g) I μ aF.k aF.u5 s (fun s Q w=>aF.B5 a b c d e f g s Q w) (fun s Q w=>aF.b5 a b c d e f g s Q w) h0 round
end
section
variable(a:OA)(b:Nat)(c:Nat)(d:Int)(e:OA)(f:Int)(g:Int)(i:Int)(Q:aJ)(w:World)
def aF.Jb:Prop:=
 Split (decide (g>i)) (Q (.exit 4) [(0,.slice a b c),(1,.int .i64 d),(4,.func (.func 47) #[.pointer e] #[]),(10,.int .i64 f),(11,.bool false),(12,.int .i64 g),(13,.int .i64 i)] w) (let j:=w.drew;(0<=i/\i<(b:Int))/\Is a fun k:Addr=> ∃m:AV,(m.size=32/\Cells j (k.add (i.toNat*32)) m)/\(0<=g/\g<(b:Int))/\Is a fun n:Addr=> ∃o:AV,(o.size=32/\Cells j (n.add (g.toNat*32)) o)/\(0<=g/\g<(b:Int))/\Is a fun p:Addr=>(m.size=32/\(∀q∈m.toList,q.oneCell'=true)/\ ∀r,r<32->Wr j ((p.add (g.toNat*32)).add r))/\let t:=setCells j (p.add (g.toNat*32)) m.toList 0;(0<=i/\i<(b:Int))/\Is a fun u:Addr=>(o.size=32/\(∀v∈o.toList,v.oneCell'=true)/\ ∀x,x<32->Wr t ((u.add (i.toNat*32)).add x))/\let y:=setCells t (u.add (i.toNat*32)) o.toList 0;Q .normal [(0,.slice a b c),(1,.int .i64 d),(4,.func (.func 47) #[.pointer e] #[]),(10,.int .i64 f),(11,.bool false),(12,.int .i64 (IntKind.i64.wrap (g+(1:Int)))),(13,.int .i64 (IntKind.i64.wrap (i-(1:Int))))] y)
theorem aF.Kp:(aF.q5 Q (.exit 8) [(0,.slice a b c),(1,.int .i64 d),(4,.func (.func 47) #[.pointer e] #[]),(10,.int .i64 f),(11,.bool false),(12,.int .i64 g),(13,.int .i64 i)] w)=aF.Jb a b c d e f g i Q w:=by kernel_rfl
end
section
def aF.xz(a:OA)(b:Nat)(c:Nat)(d:Int)(e:OA)(f:Int)(g:Int)(i:Int)(K:KT)(w:World):Prop:=
 let j:=w.drew;(0<=d/\d<(b:Int))/\Is a fun k:Addr=> ∃m:AV,(m.size=32/\Cells j (k.add (d.toNat*32)) m)/\(0<=i/\i<(b:Int))/\Is a fun n:Addr=> ∃o:AV,(o.size=32/\Cells j (n.add (i.toNat*32)) o)/\(0<=i/\i<(b:Int))/\Is a fun p:Addr=>(m.size=32/\(∀q∈m.toList,q.oneCell'=true)/\ ∀r,r<32->Wr j ((p.add (i.toNat*32)).add r))/\let t:=setCells j (p.add (i.toNat*32)) m.toList 0;(0<=d/\d<(b:Int))/\Is a fun u:Addr=>(o.size=32/\(∀v∈o.toList,v.oneCell'=true)/\ ∀x,x<32->Wr t ((u.add (d.toNat*32)).add x))/\let y:=setCells t (u.add (d.toNat*32)) o.toList 0;K (.tuple #[.int .i64 i,.bool false]) y
variable(a:OA)(b:Nat)(c:Nat)(d:Int)(e:OA)(f:Int)(g:Int)(i:Int)(K:KT)(w:World)
theorem aF.Aw:(aF.q3 K (.exit 4) [(0,.slice a b c),(1,.int .i64 d),(4,.func (.func 47) #[.pointer e] #[]),(10,.int .i64 f),(11,.bool false),(12,.int .i64 g),(13,.int .i64 i)] w)=aF.xz a b c d e f g i K w:=by kernel_rfl
end
def bg.k:List Nat:= [5,6]
def bg.q1(K:KT):aJ:=(aK 0 (aO f135) (bG prog f135 K))
def bg.e1(a:OA)(b:Nat)(c:Nat)(d:Int)(e:Int)(f:OA)(s:Int):Env:= [(0,.slice a b c),(2,.int .i64 d),(3,.int .i64 e),(4,.func (.func 47) #[.pointer f] #[]),(10,.int .i64 s)]
def bg.u1:List Nat:= [0,2,3,4,10]
section
variable(a:OA)(b:Nat)(d:Nat)(e:Int)(f:Int)(g:Int)(i:OA)(K:KT)(w:World)
def bg.W:Prop:=
 Holds none [] prog 82 (.loop (lB (bB (sR (body f135))))) (bg.q1 K) [(0,.slice a b d),(2,.int .i64 f),(3,.int .i64 g),(4,.func (.func 47) #[.pointer i] #[]),(10,.int .i64 e)] w
variable{a b d e f g i K w}
theorem bg.of(h:bg.W a b d e f g i K w):aY prog 135 #[.slice a b d,.int .i64 e,.int .i64 f,.int .i64 g,.func (.func 47) #[.pointer i] #[]] w K:=
 aH (C:=bg.k) (c:=body f135) ng mix func135 (by kernel_rfl) (by kernel_rfl) (by kernel_rfl) h
end
section
variable(a:OA)(b:Nat)(c:Nat)(d:Int)(e:Int)(f:OA)(g:Int)(Q:aJ)(w:World)
def bg.B1:Prop:=
 Split (decide ((IntKind.i64.wrap ((IntKind.i64.wrap ((2:Int)*g))+(1:Int)))>=d)) (Q (.exit 0) [(0,.slice a b c),(2,.int .i64 d),(3,.int .i64 e),(4,.func (.func 47) #[.pointer f] #[]),(10,.int .i64 g),(11,.int .i64 (IntKind.i64.wrap ((IntKind.i64.wrap ((2:Int)*g))+(1:Int))))] w) (let i:=w.drew;Split (decide ((IntKind.i64.wrap ((IntKind.i64.wrap ((IntKind.i64.wrap ((2:Int)*g))+(1:Int)))+(1:Int)))<d)) ((0<=(IntKind.i64.wrap (e+(IntKind.i64.wrap ((IntKind.i64.wrap ((2:Int)*g))+(1:Int)))))/\(IntKind.i64.wrap (e+(IntKind.i64.wrap ((IntKind.i64.wrap ((2:Int)*g))+(1:Int)))))<(b:Int))/\Is a fun j:Addr=> ∃k:AV,(k.size=32/\Cells i (j.add ((IntKind.i64.wrap (e+(IntKind.i64.wrap ((IntKind.i64.wrap ((2:Int)*g))+(1:Int))))).toNat*32)) k)/\(0<=(IntKind.i64.wrap ((IntKind.i64.wrap (e+(IntKind.i64.wrap ((IntKind.i64.wrap ((2:Int)*g))+(1:Int)))))+(1:Int)))/\(IntKind.i64.wrap ((IntKind.i64.wrap (e+(IntKind.i64.wrap ((IntKind.i64.wrap ((2:Int)*g))+(1:Int)))))+(1:Int)))<(b:Int))/\Is a fun m:Addr=> ∃n:AV,(n.size=32/\Cells i (m.add ((IntKind.i64.wrap ((IntKind.i64.wrap (e+(IntKind.i64.wrap ((IntKind.i64.wrap ((2:Int)*g))+(1:Int)))))+(1:Int))).toNat*32)) n)/\aY prog 47 #[.pointer f,.agg k,.agg n] i fun o p=> ∃q:Int,o=.int .i64 q/\Split (decide (q<(0:Int))) (Holds none [] prog 82 (sR (sR (sR (bB (lB (bB (sR (body f135)))))))) (aK 1 bg.u1 Q) [(0,.slice a b c),(2,.int .i64 d),(3,.int .i64 e),(4,.func (.func 47) #[.pointer f] #[]),(10,.int .i64 g),(11,.int .i64 (IntKind.i64.wrap ((IntKind.i64.wrap ((IntKind.i64.wrap ((2:Int)*g))+(1:Int)))+(1:Int))))] p) (Holds none [] prog 82 (sR (sR (sR (bB (lB (bB (sR (body f135)))))))) (aK 1 bg.u1 Q) [(0,.slice a b c),(2,.int .i64 d),(3,.int .i64 e),(4,.func (.func 47) #[.pointer f] #[]),(10,.int .i64 g),(11,.int .i64 (IntKind.i64.wrap ((IntKind.i64.wrap ((2:Int)*g))+(1:Int))))] p)) (Holds none [] prog 82 (sR (sR (sR (bB (lB (bB (sR (body f135)))))))) (aK 1 bg.u1 Q) [(0,.slice a b c),(2,.int .i64 d),(3,.int .i64 e),(4,.func (.func 47) #[.pointer f] #[]),(10,.int .i64 g),(11,.int .i64 (IntKind.i64.wrap ((IntKind.i64.wrap ((2:Int)*g))+(1:Int))))] i))
theorem bg.b1:(aT none [] prog 82 bg.k (lB (bB (sR (body f135)))) bg.u1 Q [(0,.slice a b c),(2,.int .i64 d),(3,.int .i64 e),(4,.func (.func 47) #[.pointer f] #[]),(10,.int .i64 g)] w)=bg.B1 a b c d e f g Q w:=by kernel_rfl
variable{a b c d e f}
theorem bg.bU(I:Int->World->Prop)(μ:Int->World->Nat)(s:Int){Q:aJ}{w:World}(h0:I s w)
 (round: ∀s w,I s w->bg.B1 a b c d e f s (bF (bg.e1 a b c d e f) I μ s w Q) w):Holds none [] prog 82 (.loop (lB (bB (sR (body f135))))) Q (bg.e1 a b c d e f s) w:=
 ba ng mix (bg.e1 a b c d e f) I μ bg.k bg.u1 s (fun s Q w=>bg.B1 a b c d e f s Q w) (fun s Q w=>bg.b1 a b c d e f s Q w) h0 round
end
section
def bg.cW(a:OA)(b:Nat)(c:Nat)(d:Int)(e:Int)(f:OA)(g:Int)(i:Int)(K:KT)(w:World):Prop:=
 K (.tuple #[]) w
variable(a:OA)(b:Nat)(c:Nat)(d:Int)(e:Int)(f:OA)(g:Int)(i:Int)(K:KT)(w:World)
theorem bg.dD:(bg.q1 K (.exit 0) [(0,.slice a b c),(2,.int .i64 d),(3,.int .i64 e),(4,.func (.func 47) #[.pointer f] #[]),(10,.int .i64 g),(11,.int .i64 i)] w)=bg.cW a b c d e f g i K w:=by kernel_rfl
end
section
variable(a:OA)(b:Nat)(c:Nat)(d:Int)(e:Int)(f:OA)(g:Int)(i:Int)(Q:aJ)(w:World)
def bg.J1:Prop:=
 let j:=w.drew;(0<=(IntKind.i64.wrap (e+g))/\(IntKind.i64.wrap (e+g))<(b:Int))/\Is a fun k:Addr=> ∃m:AV,(m.size=32/\Cells j (k.add ((IntKind.i64.wrap (e+g)).toNat*32)) m)/\(0<=(IntKind.i64.wrap (e+i))/\(IntKind.i64.wrap (e+i))<(b:Int))/\Is a fun n:Addr=> ∃o:AV,(o.size=32/\Cells j (n.add ((IntKind.i64.wrap (e+i)).toNat*32)) o)/\aY prog 47 #[.pointer f,.agg m,.agg o] j fun p q=> ∃r:Int,p=.int .i64 r/\Split (!(decide (r<(0:Int)))) (Q .ret [(0,.slice a b c),(2,.int .i64 d),(3,.int .i64 e),(4,.func (.func 47) #[.pointer f] #[]),(10,.int .i64 g),(11,.int .i64 i)] q) (Holds none [] prog 82 (sR (sR (sR (sR (bB (lB (bB (sR (body f135))))))))) (aK 1 bg.u1 Q) [(0,.slice a b c),(2,.int .i64 d),(3,.int .i64 e),(4,.func (.func 47) #[.pointer f] #[]),(10,.int .i64 g),(11,.int .i64 i)] q)
theorem bg.j1:(aT none [] prog 82 bg.k (sR (sR (sR (bB (lB (bB (sR (body f135)))))))) bg.u1 (aK 1 bg.u1 Q) [(0,.slice a b c),(2,.int .i64 d),(3,.int .i64 e),(4,.func (.func 47) #[.pointer f] #[]),(10,.int .i64 g),(11,.int .i64 i)] w)=bg.J1 a b c d e f g i Q w:=by kernel_rfl
variable{a b c d e f g i Q w}
theorem bg.sS(h:bg.J1 a b c d e f g i Q w):Holds none [] prog 82 (sR (sR (sR (bB (lB (bB (sR (body f135)))))))) (aK 1 bg.u1 Q) [(0,.slice a b c),(2,.int .i64 d),(3,.int .i64 e),(4,.func (.func 47) #[.pointer f] #[]),(10,.int .i64 g),(11,.int .i64 i)] w:=
 cf (C:=bg.k) ng mix (bg.j1 a b c d e f g i Q w) h
end
section
variable(a:OA)(b:Nat)(c:Nat)(d:Int)(e:Int)(f:OA)(g:Int)(i:Int)(Q:aJ)(w:World)
def bg.J2:Prop:=
 let j:=w.drew;(0<=(IntKind.i64.wrap (e+i))/\(IntKind.i64.wrap (e+i))<(b:Int))/\Is a fun k:Addr=> ∃m:AV,(m.size=32/\Cells j (k.add ((IntKind.i64.wrap (e+i)).toNat*32)) m)/\(0<=(IntKind.i64.wrap (e+g))/\(IntKind.i64.wrap (e+g))<(b:Int))/\Is a fun n:Addr=> ∃o:AV,(o.size=32/\Cells j (n.add ((IntKind.i64.wrap (e+g)).toNat*32)) o)/\(0<=(IntKind.i64.wrap (e+g))/\(IntKind.i64.wrap (e+g))<(b:Int))/\Is a fun p:Addr=>(m.size=32/\(∀q∈m.toList,q.oneCell'=true)/\ ∀r,r<32->Wr j ((p.add ((IntKind.i64.wrap (e+g)).toNat*32)).add r))/\let t:=setCells j (p.add ((IntKind.i64.wrap (e+g)).toNat*32)) m.toList 0;(0<=(IntKind.i64.wrap (e+i))/\(IntKind.i64.wrap (e+i))<(b:Int))/\Is a fun u:Addr=>(o.size=32/\(∀v∈o.toList,v.oneCell'=true)/\ ∀x,x<32->Wr t ((u.add ((IntKind.i64.wrap (e+i)).toNat*32)).add x))/\let y:=setCells t (u.add ((IntKind.i64.wrap (e+i)).toNat*32)) o.toList 0;Q .normal [(0,.slice a b c),(2,.int .i64 d),(3,.int .i64 e),(4,.func (.func 47) #[.pointer f] #[]),(10,.int .i64 i)] y
theorem bg.j2:(aT none [] prog 82 bg.k (sR (sR (sR (sR (bB (lB (bB (sR (body f135))))))))) bg.u1 (aK 1 bg.u1 Q) [(0,.slice a b c),(2,.int .i64 d),(3,.int .i64 e),(4,.func (.func 47) #[.pointer f] #[]),(10,.int .i64 g),(11,.int .i64 i)] w)=bg.J2 a b c d e f g i Q w:=by kernel_rfl
variable{a b c d e f g i Q w}
theorem bg.BP(h:bg.J2 a b c d e f g i Q w):Holds none [] prog 82 (sR (sR (sR (sR (bB (lB (bB (sR (body f135))))))))) (aK 1 bg.u1 Q) [(0,.slice a b c),(2,.int .i64 d),(3,.int .i64 e),(4,.func (.func 47) #[.pointer f] #[]),(10,.int .i64 g),(11,.int .i64 i)] w:=
 cf (C:=bg.k) ng mix (bg.j2 a b c d e f g i Q w) h
end
section
variable(a:OA)(b:Nat)(d:Nat)(e:Int)(f:OA)(g:OA)(K:KT)(w:World)
variable{a b d e f g K w}
end
def oI.k:List Nat:= []
section
variable(a:OA)(b:Nat)(d:Nat)(e:Int)(f:Int)(g:Int)(i:OA)(j:OA)(K:KT)(w:World)
def oI.W:Prop:=
 aY prog 141 #[.slice a b d,.int .i64 e,.int .i64 f,.pointer i,.func (.func 47) #[.pointer j] #[]] w fun k m=> ∃n:Int,∃o:Int,k=.tuple #[.int .i64 n,.int .i64 o]/\aY prog 141 #[.slice a b d,.int .i64 o,.int .i64 g,.pointer i,.func (.func 47) #[.pointer j] #[]] m fun p q=> ∃r:Int,∃t:Int,p=.tuple #[.int .i64 r,.int .i64 t]/\aY prog 141 #[.slice a b d,.int .i64 n,.int .i64 r,.pointer i,.func (.func 47) #[.pointer j] #[]] q fun u v=> ∃x:Int,∃y:Int,u=.tuple #[.int .i64 x,.int .i64 y]/\K (.int .i64 y) v
variable{a b d e f g i j K w}
theorem oI.of(h:oI.W a b d e f g i j K w):aY prog 139 #[.slice a b d,.int .i64 e,.int .i64 f,.int .i64 g,.pointer i,.func (.func 47) #[.pointer j] #[]] w K:=
 aH (C:=oI.k) (c:=body f139) ng mix func139 (by kernel_rfl) (by kernel_rfl) (by kernel_rfl) h
end
def oH.k:List Nat:= []
section
def oH.W(a:OA)(b:Nat)(d:Nat)(e:Int)(f:Int)(g:OA)(i:OA)(K:KT)(w:World):Prop:=
 let j:=w.drew;(0<=f/\f<(b:Int))/\Is a fun k:Addr=> ∃m:AV,(m.size=32/\Cells j (k.add (f.toNat*32)) m)/\(0<=e/\e<(b:Int))/\Is a fun n:Addr=> ∃o:AV,(o.size=32/\Cells j (n.add (e.toNat*32)) o)/\aY prog 47 #[.pointer i,.agg m,.agg o] j fun p q=> ∃r:Int,p=.int .i64 r/\Split (decide (r<(0:Int))) (Is g fun t:Addr=> ∃u:Int,q.cell? t=some (.int .i64 u)/\Is g fun v:Addr=>Wr q v/\let x:=q.setCell v (.int .i64 (IntKind.i64.wrap (u+(1:Int))));K (.tuple #[.int .i64 f,.int .i64 e]) x) (K (.tuple #[.int .i64 e,.int .i64 f]) q)
variable(a:OA)(b:Nat)(d:Nat)(e:Int)(f:Int)(g:OA)(i:OA)(K:KT)(w:World)
variable{a b d e f g i K w}
theorem oH.of(h:oH.W a b d e f g i K w):aY prog 141 #[.slice a b d,.int .i64 e,.int .i64 f,.pointer g,.func (.func 47) #[.pointer i] #[]] w K:=
 aH (C:=oH.k) (c:=body f141) ng mix func141 (by kernel_rfl) (by kernel_rfl) (by kernel_rfl) h
end
end Go.Proofs.YtnboahlopghcjaaGreatDoor
