import Derived.Test.YtfleamccglihoaaGreatDoorProg
import Derived.Test.YtfleamccglihoaaGreatDoorMA
import Derived.Test.YtfleamccglihoaaGreatDoorMB
open Go.IntKind (i64 u64)
set_option linter.unusedVariables false
namespace Go.Proofs.YtfleamccglihoaaGreatDoor
open Go.Proofs.Tryz
open Go Go.cF
def CL(bP:Bool)(g:OA):Value:=cond bP (.func (.func 73) #[au g] #[]) (.func (.func 54) #[] #[au g])
def CF(bP:Bool):Nat:=cond bP 73 54
def CA(bP:Bool)(g:OA)(t u:AV):AV:=cond bP #[au g,.agg t,.agg u] #[.agg t,.agg u,au g]
def rR.k:List Nat:= []
section
variable(bP:Bool)(a:OA)(b d:Nat)(e:OA)(K:KT)(w:World)
def rR.W:Prop:=
 bJ prog 98 #[.int .u64 (u64.wrap (b:Int))] w λf g=>∃i:Int,f=ag i/\bJ prog 97 #[ao a b d,ag 0,ag (b:Int),ag i,CL bP e] g λj k=>j=.tuple #[]/\K (.tuple #[]) k
variable{bP a b d e K w}
theorem rR.of(h:rR.W bP a b d e K w):bJ prog 53 #[ao a b d,CL bP e] w K:=
 by cases bP<;>exact rqq func53 (C:=rR.k) h
end
def aL.k:List Nat:= [10,11,13,14,15,17,20,21,22,23,24,26,27,29,30]
def aL.q1(K:KT):aZ:=(aW 0 (bn f97) (cy prog f97 K))
def aL.e1(bP:Bool)(a:OA)(b c:Nat)(d:OA)(s:Int×Int×Int×Bool×Bool):Env:= [(0,ao a b c),(1,ag s.1),(2,ag s.2.1),(3,ag s.2.2.1),(4,CL bP d),(10,.bool s.2.2.2.1),(11,.bool s.2.2.2.2)]
def aL.u1:List Nat:= [0,1,2,3,4,10,11]
section
variable(bP:Bool)(a:OA)(b d:Nat)(e f g:Int)(i:OA)(K:KT)(w:World)
def aL.W:Prop:=
 cO 148 (.loop (lB (bB (bf (body f97))))) (aL.q1 K) [(0,ao a b d),(1,ag e),(2,ag f),(3,ag g),(4,CL bP i),(10,.bool true),(11,.bool true)] w
variable{bP a b d e f g i K w}
theorem aL.of(h:aL.W bP a b d e f g i K w):bJ prog 97 #[ao a b d,ag e,ag f,ag g,CL bP i] w K:=
 by cases bP<;>exact rqq func97 (C:=aL.k) h
end
section
variable(bP:Bool)(a:OA)(b c:Nat)(d e f:Int)(g:OA)(i j:Bool)(Q:aZ)(w:World)
def aL.B1:Prop:=
 Split (decide ((i64.wrap (e-d))<=(12:Int))) (bJ prog 127 #[ao a b c,ag d,ag e,CL bP g] w λk m=>k=.tuple #[]/\Q .ret [(0,ao a b c),(1,ag d),(2,ag e),(3,ag f),(4,CL bP g),(10,.bool i),(11,.bool j),(12,ag (i64.wrap (e-d)))] m) (Split (f==(0:Int)) (bJ prog 128 #[ao a b c,ag d,ag e,CL bP g] w λn o=>n=.tuple #[]/\Q .ret [(0,ao a b c),(1,ag d),(2,ag e),(3,ag f),(4,CL bP g),(10,.bool i),(11,.bool j),(12,ag (i64.wrap (e-d)))] o) (Split (!i) (bJ prog 129 #[ao a b c,ag d,ag e,CL bP g] w λp q=>p=.tuple #[]/\cO 148 (dc (bB (lB (bB (bf (body f97)))))) (aW 1 aL.u1 Q) [(0,ao a b c),(1,ag d),(2,ag e),(3,ag (i64.wrap (f-(1:Int)))),(4,CL bP g),(10,.bool i),(11,.bool j),(12,ag (i64.wrap (e-d)))] q) (cO 148 (dc (bB (lB (bB (bf (body f97)))))) (aW 1 aL.u1 Q) [(0,ao a b c),(1,ag d),(2,ag e),(3,ag f),(4,CL bP g),(10,.bool i),(11,.bool j),(12,ag (i64.wrap (e-d)))] w)))
theorem aL.b1:(bz none [] prog 148 aL.k (lB (bB (bf (body f97)))) aL.u1 Q [(0,ao a b c),(1,ag d),(2,ag e),(3,ag f),(4,CL bP g),(10,.bool i),(11,.bool j)] w)=aL.B1 bP a b c d e f g i j Q w:=by cases bP<;>kernel_rfl
variable{bP a b c g}
theorem aL.cP(I:Int×Int×Int×Bool×Bool->World->Prop)(μ:Int×Int×Int×Bool×Bool->World->Nat)(s:Int×Int×Int×Bool×Bool){Q:aZ}{w:World}(h0:I s w)
 (round:∀s w,I s w->aL.B1 bP a b c (s.1) (s.2.1) (s.2.2.1) g (s.2.2.2.1) (s.2.2.2.2) (b7 (aL.e1 bP a b c g) I μ s w Q) w):cO 148 (.loop (lB (bB (bf (body f97))))) Q (aL.e1 bP a b c g s) w:=
 bI ng mix (aL.e1 bP a b c g) I μ aL.k aL.u1 s (λs Q w=>aL.B1 bP a b c (s.1) (s.2.1) (s.2.2.1) g (s.2.2.2.1) (s.2.2.2.2) Q w) (λs Q w=>aL.b1 bP a b c (s.1) (s.2.1) (s.2.2.1) g (s.2.2.2.1) (s.2.2.2.2) Q w) h0 round
end
section
variable(bP:Bool)(a:OA)(b c:Nat)(d e f:Int)(g:OA)(i j:Bool)(k:Int)(Q:aZ)(w:World)
def aL.J1:Prop:=
 bJ prog 130 #[ao a b c,ag d,ag e,CL bP g] w λm n=>∃o p:Int,m=.tuple #[ag o,ag p]/\cO 148 (dc (sR (bB (lB (bB (bf (body f97))))))) (aW 1 aL.u1 Q) [(0,ao a b c),(1,ag d),(2,ag e),(3,ag f),(4,CL bP g),(10,.bool i),(11,.bool j),(12,ag k),(13,ag o),(14,ag p)] n
theorem aL.j1:(bz none [] prog 148 aL.k (dc (bB (lB (bB (bf (body f97)))))) aL.u1 (aW 1 aL.u1 Q) [(0,ao a b c),(1,ag d),(2,ag e),(3,ag f),(4,CL bP g),(10,.bool i),(11,.bool j),(12,ag k)] w)=aL.J1 bP a b c d e f g i j k Q w:=by cases bP<;>kernel_rfl
variable{bP a b c d e f g i j k Q w}
theorem aL.lR(h:aL.J1 bP a b c d e f g i j k Q w):cO 148 (dc (bB (lB (bB (bf (body f97)))))) (aW 1 aL.u1 Q) [(0,ao a b c),(1,ag d),(2,ag e),(3,ag f),(4,CL bP g),(10,.bool i),(11,.bool j),(12,ag k)] w:=
 dG (C:=aL.k) ng mix (aL.j1 bP a b c d e f g i j k Q w) h
end
section
variable(bP:Bool)(a:OA)(b c:Nat)(d e f:Int)(g:OA)(i j:Bool)(k m n:Int)(Q:aZ)(w:World)
def aL.J2:Prop:=
 Split (n==(2:Int)) (bJ prog 131 #[ao a b c,ag d,ag e,CL bP g] w λo p=>o=.tuple #[]/\cO 148 (sR (cT (sR (sL (dc (sR (bB (lB (bB (bf (body f97))))))))))) (cH (λcM w_=>match cutAt aL.k (dc (bf (bB (lB (bB (bf (body f97)))))))with|true=>cO 148 (dc (bf (bB (lB (bB (bf (body f97))))))) (aW 1 aL.u1 Q) cM w_|false=>bz none [] prog 148 aL.k (dc (bf (bB (lB (bB (bf (body f97))))))) aL.u1 (aW 1 aL.u1 Q) cM w_) (aW 1 aL.u1 Q)) [(0,ao a b c),(1,ag d),(2,ag e),(3,ag f),(4,CL bP g),(10,.bool i),(11,.bool j),(12,ag k),(13,ag m),(14,ag n)] p) (cO 148 (dc (bf (bB (lB (bB (bf (body f97))))))) (aW 1 aL.u1 Q) [(0,ao a b c),(1,ag d),(2,ag e),(3,ag f),(4,CL bP g),(10,.bool i),(11,.bool j),(12,ag k),(13,ag m),(14,ag n)] w)
theorem aL.j2:(bz none [] prog 148 aL.k (dc (sR (bB (lB (bB (bf (body f97))))))) aL.u1 (aW 1 aL.u1 Q) [(0,ao a b c),(1,ag d),(2,ag e),(3,ag f),(4,CL bP g),(10,.bool i),(11,.bool j),(12,ag k),(13,ag m),(14,ag n)] w)=aL.J2 bP a b c d e f g i j k m n Q w:=by cases bP<;>kernel_rfl
variable{bP a b c d e f g i j k m n Q w}
theorem aL.sG(h:aL.J2 bP a b c d e f g i j k m n Q w):cO 148 (dc (sR (bB (lB (bB (bf (body f97))))))) (aW 1 aL.u1 Q) [(0,ao a b c),(1,ag d),(2,ag e),(3,ag f),(4,CL bP g),(10,.bool i),(11,.bool j),(12,ag k),(13,ag m),(14,ag n)] w:=
 dG (C:=aL.k) ng mix (aL.j2 bP a b c d e f g i j k m n Q w) h
end
section
variable(bP:Bool)(a:OA)(b c:Nat)(d e f:Int)(g:OA)(i j:Bool)(k m n:Int)(Q:aZ)(w:World)
def aL.J3:Prop:=
 cO 148 (bf (cT (sR (sL (dc (sR (bB (lB (bB (bf (body f97))))))))))) (cH (λcM w_=>match cutAt aL.k (dc (bf (bB (lB (bB (bf (body f97)))))))with|true=>cO 148 (dc (bf (bB (lB (bB (bf (body f97))))))) (aW 1 aL.u1 Q) cM w_|false=>bz none [] prog 148 aL.k (dc (bf (bB (lB (bB (bf (body f97))))))) aL.u1 (aW 1 aL.u1 Q) cM w_) (aW 1 aL.u1 Q)) [(0,ao a b c),(1,ag d),(2,ag e),(3,ag f),(4,CL bP g),(10,.bool i),(11,.bool j),(12,ag k),(13,ag (i64.wrap ((i64.wrap (e-(1:Int)))-(i64.wrap (m-d))))),(14,ag n)] w
theorem aL.j3:(bz none [] prog 148 aL.k (sR (cT (sR (sL (dc (sR (bB (lB (bB (bf (body f97))))))))))) (dd (dc (bf (bB (lB (bB (bf (body f97)))))))++aL.u1) (cH (λcM w_=>match cutAt aL.k (dc (bf (bB (lB (bB (bf (body f97)))))))with|true=>cO 148 (dc (bf (bB (lB (bB (bf (body f97))))))) (aW 1 aL.u1 Q) cM w_|false=>bz none [] prog 148 aL.k (dc (bf (bB (lB (bB (bf (body f97))))))) aL.u1 (aW 1 aL.u1 Q) cM w_) (aW 1 aL.u1 Q)) [(0,ao a b c),(1,ag d),(2,ag e),(3,ag f),(4,CL bP g),(10,.bool i),(11,.bool j),(12,ag k),(13,ag m),(14,ag n)] w)=aL.J3 bP a b c d e f g i j k m n Q w:=by cases bP<;>kernel_rfl
variable{bP a b c d e f g i j k m n Q w}
theorem aL.WW(h:aL.J3 bP a b c d e f g i j k m n Q w):cO 148 (sR (cT (sR (sL (dc (sR (bB (lB (bB (bf (body f97))))))))))) (cH (λcM w_=>match cutAt aL.k (dc (bf (bB (lB (bB (bf (body f97)))))))with|true=>cO 148 (dc (bf (bB (lB (bB (bf (body f97))))))) (aW 1 aL.u1 Q) cM w_|false=>bz none [] prog 148 aL.k (dc (bf (bB (lB (bB (bf (body f97))))))) aL.u1 (aW 1 aL.u1 Q) cM w_) (aW 1 aL.u1 Q)) [(0,ao a b c),(1,ag d),(2,ag e),(3,ag f),(4,CL bP g),(10,.bool i),(11,.bool j),(12,ag k),(13,ag m),(14,ag n)] w:=
 dG (C:=aL.k) ng mix (aL.j3 bP a b c d e f g i j k m n Q w) h
end
section
variable(bP:Bool)(a:OA)(b c:Nat)(d e f:Int)(g:OA)(i j:Bool)(k m n:Int)(Q:aZ)(w:World)
def aL.J4:Prop:=
 Split i (Split j (Split (n==(1:Int)) (bJ prog 132 #[ao a b c,ag d,ag e,CL bP g] w λo p=>∃q:Bool,o=.bool q/\Split q (Q .ret [(0,ao a b c),(1,ag d),(2,ag e),(3,ag f),(4,CL bP g),(10,.bool i),(11,.bool j),(12,ag k),(13,ag m)] p) (cO 148 (dc (bf (sR (bB (lB (bB (bf (body f97)))))))) (aW 1 aL.u1 Q) [(0,ao a b c),(1,ag d),(2,ag e),(3,ag f),(4,CL bP g),(10,.bool i),(11,.bool j),(12,ag k),(13,ag m)] p)) (cO 148 (dc (bf (sR (bB (lB (bB (bf (body f97)))))))) (aW 1 aL.u1 Q) [(0,ao a b c),(1,ag d),(2,ag e),(3,ag f),(4,CL bP g),(10,.bool i),(11,.bool j),(12,ag k),(13,ag m)] w)) (cO 148 (dc (bf (sR (bB (lB (bB (bf (body f97)))))))) (aW 1 aL.u1 Q) [(0,ao a b c),(1,ag d),(2,ag e),(3,ag f),(4,CL bP g),(10,.bool i),(11,.bool j),(12,ag k),(13,ag m)] w)) (cO 148 (dc (bf (sR (bB (lB (bB (bf (body f97)))))))) (aW 1 aL.u1 Q) [(0,ao a b c),(1,ag d),(2,ag e),(3,ag f),(4,CL bP g),(10,.bool i),(11,.bool j),(12,ag k),(13,ag m)] w)
theorem aL.j4:(bz none [] prog 148 aL.k (dc (bf (bB (lB (bB (bf (body f97))))))) aL.u1 (aW 1 aL.u1 Q) [(0,ao a b c),(1,ag d),(2,ag e),(3,ag f),(4,CL bP g),(10,.bool i),(11,.bool j),(12,ag k),(13,ag m),(14,ag n)] w)=aL.J4 bP a b c d e f g i j k m n Q w:=by cases bP<;>kernel_rfl
variable{bP a b c d e f g i j k m n Q w}
theorem aL.Px(h:aL.J4 bP a b c d e f g i j k m n Q w):cO 148 (dc (bf (bB (lB (bB (bf (body f97))))))) (aW 1 aL.u1 Q) [(0,ao a b c),(1,ag d),(2,ag e),(3,ag f),(4,CL bP g),(10,.bool i),(11,.bool j),(12,ag k),(13,ag m),(14,ag n)] w:=
 dG (C:=aL.k) ng mix (aL.j4 bP a b c d e f g i j k m n Q w) h
end
section
def aL.J5(bP:Bool)(a:OA)(b c:Nat)(d e f:Int)(g:OA)(i j:Bool)(k m n:Int)(Q:aZ)(w:World):Prop:=
 cO 148 (dc (bf (bB (lB (bB (bf (body f97))))))) (aW 1 aL.u1 Q) [(0,ao a b c),(1,ag d),(2,ag e),(3,ag f),(4,CL bP g),(10,.bool i),(11,.bool j),(12,ag k),(13,ag m),(14,ag 1)] w
variable(bP:Bool)(a:OA)(b c:Nat)(d e f:Int)(g:OA)(i j:Bool)(k m n:Int)(Q:aZ)(w:World)
theorem aL.j5:(bz none [] prog 148 aL.k (bf (cT (sR (sL (dc (sR (bB (lB (bB (bf (body f97))))))))))) (dd (dc (bf (bB (lB (bB (bf (body f97)))))))++aL.u1) (cH (λcM w_=>match cutAt aL.k (dc (bf (bB (lB (bB (bf (body f97)))))))with|true=>cO 148 (dc (bf (bB (lB (bB (bf (body f97))))))) (aW 1 aL.u1 Q) cM w_|false=>bz none [] prog 148 aL.k (dc (bf (bB (lB (bB (bf (body f97))))))) aL.u1 (aW 1 aL.u1 Q) cM w_) (aW 1 aL.u1 Q)) [(0,ao a b c),(1,ag d),(2,ag e),(3,ag f),(4,CL bP g),(10,.bool i),(11,.bool j),(12,ag k),(13,ag m),(14,ag n)] w)=aL.J5 bP a b c d e f g i j k m n Q w:=by cases bP<;>kernel_rfl
variable{bP a b c d e f g i j k m n Q w}
theorem aL.WV(h:aL.J5 bP a b c d e f g i j k m n Q w):cO 148 (bf (cT (sR (sL (dc (sR (bB (lB (bB (bf (body f97))))))))))) (cH (λcM w_=>match cutAt aL.k (dc (bf (bB (lB (bB (bf (body f97)))))))with|true=>cO 148 (dc (bf (bB (lB (bB (bf (body f97))))))) (aW 1 aL.u1 Q) cM w_|false=>bz none [] prog 148 aL.k (dc (bf (bB (lB (bB (bf (body f97))))))) aL.u1 (aW 1 aL.u1 Q) cM w_) (aW 1 aL.u1 Q)) [(0,ao a b c),(1,ag d),(2,ag e),(3,ag f),(4,CL bP g),(10,.bool i),(11,.bool j),(12,ag k),(13,ag m),(14,ag n)] w:=
 dG (C:=aL.k) ng mix (aL.j5 bP a b c d e f g i j k m n Q w) h
end
section
variable(bP:Bool)(a:OA)(b c:Nat)(d e f:Int)(g:OA)(i j:Bool)(k m:Int)(Q:aZ)(w:World)
def aL.J6:Prop:=
 let n:=w.drew;Split (decide (d>(0:Int))) ((0<=(i64.wrap (d-(1:Int)))/\(i64.wrap (d-(1:Int)))<(b:Int))/\Is a λo:Addr=>∃p:AV,(p.size=32/\Cells n (o.add ((i64.wrap (d-(1:Int))).toNat*32)) p)/\(0<=m/\m<(b:Int))/\Is a λq:Addr=>∃r:AV,cS n (q.add (m.toNat*32)) r/\bJ prog (CF bP) (CA bP g p r) n λt u=>∃v:Int,t=ag v/\Split (!(decide (v<(0:Int)))) (bJ prog 133 #[ao a b c,ag d,ag e,ag m,CL bP g] u λx y=>∃z:Int,x=ag z/\Q .normal [(0,ao a b c),(1,ag z),(2,ag e),(3,ag f),(4,CL bP g),(10,.bool i),(11,.bool j)] y) (cO 148 (gR (bB (lB (bB (bf (body f97)))))) (aW 1 aL.u1 Q) [(0,ao a b c),(1,ag d),(2,ag e),(3,ag f),(4,CL bP g),(10,.bool i),(11,.bool j),(12,ag k),(13,ag m)] u)) (cO 148 (gR (bB (lB (bB (bf (body f97)))))) (aW 1 aL.u1 Q) [(0,ao a b c),(1,ag d),(2,ag e),(3,ag f),(4,CL bP g),(10,.bool i),(11,.bool j),(12,ag k),(13,ag m)] n)
theorem aL.j6:(bz none [] prog 148 aL.k (dc (bf (sR (bB (lB (bB (bf (body f97)))))))) aL.u1 (aW 1 aL.u1 Q) [(0,ao a b c),(1,ag d),(2,ag e),(3,ag f),(4,CL bP g),(10,.bool i),(11,.bool j),(12,ag k),(13,ag m)] w)=aL.J6 bP a b c d e f g i j k m Q w:=by cases bP<;>kernel_rfl
variable{bP a b c d e f g i j k m Q w}
theorem aL.Pw(h:aL.J6 bP a b c d e f g i j k m Q w):cO 148 (dc (bf (sR (bB (lB (bB (bf (body f97)))))))) (aW 1 aL.u1 Q) [(0,ao a b c),(1,ag d),(2,ag e),(3,ag f),(4,CL bP g),(10,.bool i),(11,.bool j),(12,ag k),(13,ag m)] w:=
 dG (C:=aL.k) ng mix (aL.j6 bP a b c d e f g i j k m Q w) h
end
section
variable(bP:Bool)(a:OA)(b c:Nat)(d e f:Int)(g:OA)(i j:Bool)(k m:Int)(Q:aZ)(w:World)
def aL.J7:Prop:=
 bJ prog 134 #[ao a b c,ag d,ag e,ag m,CL bP g] w λn o=>∃p:Int,∃q:Bool,n=.tuple #[ag p,.bool q]/\cO 148 (gR (sR (bB (lB (bB (bf (body f97))))))) (aW 1 aL.u1 Q) [(0,ao a b c),(1,ag d),(2,ag e),(3,ag f),(4,CL bP g),(10,.bool i),(11,.bool j),(12,ag k),(16,ag p),(17,.bool q)] o
theorem aL.j7:(bz none [] prog 148 aL.k (gR (bB (lB (bB (bf (body f97)))))) aL.u1 (aW 1 aL.u1 Q) [(0,ao a b c),(1,ag d),(2,ag e),(3,ag f),(4,CL bP g),(10,.bool i),(11,.bool j),(12,ag k),(13,ag m)] w)=aL.J7 bP a b c d e f g i j k m Q w:=by cases bP<;>kernel_rfl
variable{bP a b c d e f g i j k m Q w}
theorem aL.Pv(h:aL.J7 bP a b c d e f g i j k m Q w):cO 148 (gR (bB (lB (bB (bf (body f97)))))) (aW 1 aL.u1 Q) [(0,ao a b c),(1,ag d),(2,ag e),(3,ag f),(4,CL bP g),(10,.bool i),(11,.bool j),(12,ag k),(13,ag m)] w:=
 dG (C:=aL.k) ng mix (aL.j7 bP a b c d e f g i j k m Q w) h
end
section
def aL.J8(bP:Bool)(a:OA)(b c:Nat)(d e f:Int)(g:OA)(i j:Bool)(k m:Int)(n:Bool)(Q:aZ)(w:World):Prop:=
 cO 148 (gR (bf (bB (lB (bB (bf (body f97))))))) (aW 1 aL.u1 Q) [(0,ao a b c),(1,ag d),(2,ag e),(3,ag f),(4,CL bP g),(10,.bool i),(11,.bool n),(12,ag k),(16,ag m)] w
variable(bP:Bool)(a:OA)(b c:Nat)(d e f:Int)(g:OA)(i j:Bool)(k m:Int)(n:Bool)(Q:aZ)(w:World)
theorem aL.j8:(bz none [] prog 148 aL.k (gR (sR (bB (lB (bB (bf (body f97))))))) aL.u1 (aW 1 aL.u1 Q) [(0,ao a b c),(1,ag d),(2,ag e),(3,ag f),(4,CL bP g),(10,.bool i),(11,.bool j),(12,ag k),(16,ag m),(17,.bool n)] w)=aL.J8 bP a b c d e f g i j k m n Q w:=by cases bP<;>kernel_rfl
variable{bP a b c d e f g i j k m n Q w}
theorem aL.WU(h:aL.J8 bP a b c d e f g i j k m n Q w):cO 148 (gR (sR (bB (lB (bB (bf (body f97))))))) (aW 1 aL.u1 Q) [(0,ao a b c),(1,ag d),(2,ag e),(3,ag f),(4,CL bP g),(10,.bool i),(11,.bool j),(12,ag k),(16,ag m),(17,.bool n)] w:=
 dG (C:=aL.k) ng mix (aL.j8 bP a b c d e f g i j k m n Q w) h
end
section
variable(bP:Bool)(a:OA)(b c:Nat)(d e f:Int)(g:OA)(i j:Bool)(k m:Int)(Q:aZ)(w:World)
def aL.J9:Prop:=
 cO 148 (gR (bf (sR (bB (lB (bB (bf (body f97)))))))) (aW 1 aL.u1 Q) [(0,ao a b c),(1,ag d),(2,ag e),(3,ag f),(4,CL bP g),(10,.bool i),(11,.bool j),(12,ag k),(16,ag m),(18,ag (i64.wrap (m-d))),(19,ag (i64.wrap (e-m)))] w
theorem aL.j9:(bz none [] prog 148 aL.k (gR (bf (bB (lB (bB (bf (body f97))))))) aL.u1 (aW 1 aL.u1 Q) [(0,ao a b c),(1,ag d),(2,ag e),(3,ag f),(4,CL bP g),(10,.bool i),(11,.bool j),(12,ag k),(16,ag m)] w)=aL.J9 bP a b c d e f g i j k m Q w:=by cases bP<;>kernel_rfl
variable{bP a b c d e f g i j k m Q w}
theorem aL.WT(h:aL.J9 bP a b c d e f g i j k m Q w):cO 148 (gR (bf (bB (lB (bB (bf (body f97))))))) (aW 1 aL.u1 Q) [(0,ao a b c),(1,ag d),(2,ag e),(3,ag f),(4,CL bP g),(10,.bool i),(11,.bool j),(12,ag k),(16,ag m)] w:=
 dG (C:=aL.k) ng mix (aL.j9 bP a b c d e f g i j k m Q w) h
end
section
variable(bP:Bool)(a:OA)(b c:Nat)(d e f:Int)(g:OA)(i j:Bool)(k m n o:Int)(Q:aZ)(w:World)
def aL.J10:Prop:=
 (8:Int)≠0/\cO 148 (gR (dc (bB (lB (bB (bf (body f97))))))) (aW 1 aL.u1 Q) [(0,ao a b c),(1,ag d),(2,ag e),(3,ag f),(4,CL bP g),(10,.bool i),(11,.bool j),(16,ag m),(18,ag n),(19,ag o),(20,ag (i64.wrap (k.tdiv (8:Int))))] w
theorem aL.j10:(bz none [] prog 148 aL.k (gR (bf (sR (bB (lB (bB (bf (body f97)))))))) aL.u1 (aW 1 aL.u1 Q) [(0,ao a b c),(1,ag d),(2,ag e),(3,ag f),(4,CL bP g),(10,.bool i),(11,.bool j),(12,ag k),(16,ag m),(18,ag n),(19,ag o)] w)=aL.J10 bP a b c d e f g i j k m n o Q w:=by cases bP<;>kernel_rfl
variable{bP a b c d e f g i j k m n o Q w}
theorem aL.RS(h:aL.J10 bP a b c d e f g i j k m n o Q w):cO 148 (gR (bf (sR (bB (lB (bB (bf (body f97)))))))) (aW 1 aL.u1 Q) [(0,ao a b c),(1,ag d),(2,ag e),(3,ag f),(4,CL bP g),(10,.bool i),(11,.bool j),(12,ag k),(16,ag m),(18,ag n),(19,ag o)] w:=
 dG (C:=aL.k) ng mix (aL.j10 bP a b c d e f g i j k m n o Q w) h
end
section
def aL.J11(bP:Bool)(a:OA)(b c:Nat)(d e f:Int)(g:OA)(i j:Bool)(k m n o:Int)(Q:aZ)(w:World):Prop:=
 Split (decide (m<n)) (cO 148 (sR (cT (gR (dc (sR (bB (lB (bB (bf (body f97)))))))))) (aW 1 aL.u1 Q) [(0,ao a b c),(1,ag d),(2,ag e),(3,ag f),(4,CL bP g),(10,.bool (decide (m>=o))),(11,.bool j),(16,ag k)] w) (cO 148 (sR (cE (gR (dc (sR (bB (lB (bB (bf (body f97)))))))))) (aW 1 aL.u1 Q) [(0,ao a b c),(1,ag d),(2,ag e),(3,ag f),(4,CL bP g),(10,.bool (decide (n>=o))),(11,.bool j),(16,ag k)] w)
variable(bP:Bool)(a:OA)(b c:Nat)(d e f:Int)(g:OA)(i j:Bool)(k m n o:Int)(Q:aZ)(w:World)
theorem aL.j11:(bz none [] prog 148 aL.k (gR (dc (bB (lB (bB (bf (body f97))))))) aL.u1 (aW 1 aL.u1 Q) [(0,ao a b c),(1,ag d),(2,ag e),(3,ag f),(4,CL bP g),(10,.bool i),(11,.bool j),(16,ag k),(18,ag m),(19,ag n),(20,ag o)] w)=aL.J11 bP a b c d e f g i j k m n o Q w:=by cases bP<;>kernel_rfl
variable{bP a b c d e f g i j k m n o Q w}
theorem aL.RR(h:aL.J11 bP a b c d e f g i j k m n o Q w):cO 148 (gR (dc (bB (lB (bB (bf (body f97))))))) (aW 1 aL.u1 Q) [(0,ao a b c),(1,ag d),(2,ag e),(3,ag f),(4,CL bP g),(10,.bool i),(11,.bool j),(16,ag k),(18,ag m),(19,ag n),(20,ag o)] w:=
 dG (C:=aL.k) ng mix (aL.j11 bP a b c d e f g i j k m n o Q w) h
end
section
variable(bP:Bool)(a:OA)(b c:Nat)(d e f:Int)(g:OA)(i j:Bool)(k:Int)(Q:aZ)(w:World)
def aL.J12:Prop:=
 bJ prog 97 #[ao a b c,ag d,ag k,ag f,CL bP g] w λm n=>m=.tuple #[]/\cO 148 (bf (cT (gR (dc (sR (bB (lB (bB (bf (body f97)))))))))) (aW 1 aL.u1 Q) [(0,ao a b c),(1,ag d),(2,ag e),(3,ag f),(4,CL bP g),(10,.bool i),(11,.bool j),(16,ag k)] n
theorem aL.j12:(bz none [] prog 148 aL.k (sR (cT (gR (dc (sR (bB (lB (bB (bf (body f97)))))))))) aL.u1 (aW 1 aL.u1 Q) [(0,ao a b c),(1,ag d),(2,ag e),(3,ag f),(4,CL bP g),(10,.bool i),(11,.bool j),(16,ag k)] w)=aL.J12 bP a b c d e f g i j k Q w:=by cases bP<;>kernel_rfl
variable{bP a b c d e f g i j k Q w}
theorem aL.RQ(h:aL.J12 bP a b c d e f g i j k Q w):cO 148 (sR (cT (gR (dc (sR (bB (lB (bB (bf (body f97)))))))))) (aW 1 aL.u1 Q) [(0,ao a b c),(1,ag d),(2,ag e),(3,ag f),(4,CL bP g),(10,.bool i),(11,.bool j),(16,ag k)] w:=
 dG (C:=aL.k) ng mix (aL.j12 bP a b c d e f g i j k Q w) h
end
section
variable(bP:Bool)(a:OA)(b c:Nat)(d e f:Int)(g:OA)(i j:Bool)(k:Int)(Q:aZ)(w:World)
def aL.J13:Prop:=
 bJ prog 97 #[ao a b c,ag (i64.wrap (k+(1:Int))),ag e,ag f,CL bP g] w λm n=>m=.tuple #[]/\cO 148 (bf (cE (gR (dc (sR (bB (lB (bB (bf (body f97)))))))))) (aW 1 aL.u1 Q) [(0,ao a b c),(1,ag d),(2,ag e),(3,ag f),(4,CL bP g),(10,.bool i),(11,.bool j),(16,ag k)] n
theorem aL.j13:(bz none [] prog 148 aL.k (sR (cE (gR (dc (sR (bB (lB (bB (bf (body f97)))))))))) aL.u1 (aW 1 aL.u1 Q) [(0,ao a b c),(1,ag d),(2,ag e),(3,ag f),(4,CL bP g),(10,.bool i),(11,.bool j),(16,ag k)] w)=aL.J13 bP a b c d e f g i j k Q w:=by cases bP<;>kernel_rfl
variable{bP a b c d e f g i j k Q w}
theorem aL.RP(h:aL.J13 bP a b c d e f g i j k Q w):cO 148 (sR (cE (gR (dc (sR (bB (lB (bB (bf (body f97)))))))))) (aW 1 aL.u1 Q) [(0,ao a b c),(1,ag d),(2,ag e),(3,ag f),(4,CL bP g),(10,.bool i),(11,.bool j),(16,ag k)] w:=
 dG (C:=aL.k) ng mix (aL.j13 bP a b c d e f g i j k Q w) h
end
section
def aL.J14(bP:Bool)(a:OA)(b c:Nat)(d e f:Int)(g:OA)(i j:Bool)(k:Int)(Q:aZ)(w:World):Prop:=
 Q .normal [(0,ao a b c),(1,ag (i64.wrap (k+(1:Int)))),(2,ag e),(3,ag f),(4,CL bP g),(10,.bool i),(11,.bool j)] w
variable(bP:Bool)(a:OA)(b c:Nat)(d e f:Int)(g:OA)(i j:Bool)(k:Int)(Q:aZ)(w:World)
theorem aL.j14:(bz none [] prog 148 aL.k (bf (cT (gR (dc (sR (bB (lB (bB (bf (body f97)))))))))) aL.u1 (aW 1 aL.u1 Q) [(0,ao a b c),(1,ag d),(2,ag e),(3,ag f),(4,CL bP g),(10,.bool i),(11,.bool j),(16,ag k)] w)=aL.J14 bP a b c d e f g i j k Q w:=by cases bP<;>kernel_rfl
variable{bP a b c d e f g i j k Q w}
theorem aL.RO(h:aL.J14 bP a b c d e f g i j k Q w):cO 148 (bf (cT (gR (dc (sR (bB (lB (bB (bf (body f97)))))))))) (aW 1 aL.u1 Q) [(0,ao a b c),(1,ag d),(2,ag e),(3,ag f),(4,CL bP g),(10,.bool i),(11,.bool j),(16,ag k)] w:=
 dG (C:=aL.k) ng mix (aL.j14 bP a b c d e f g i j k Q w) h
end
section
def aL.J15(bP:Bool)(a:OA)(b c:Nat)(d e f:Int)(g:OA)(i j:Bool)(k:Int)(Q:aZ)(w:World):Prop:=
 Q .normal [(0,ao a b c),(1,ag d),(2,ag k),(3,ag f),(4,CL bP g),(10,.bool i),(11,.bool j)] w
variable(bP:Bool)(a:OA)(b c:Nat)(d e f:Int)(g:OA)(i j:Bool)(k:Int)(Q:aZ)(w:World)
theorem aL.j15:(bz none [] prog 148 aL.k (bf (cE (gR (dc (sR (bB (lB (bB (bf (body f97)))))))))) aL.u1 (aW 1 aL.u1 Q) [(0,ao a b c),(1,ag d),(2,ag e),(3,ag f),(4,CL bP g),(10,.bool i),(11,.bool j),(16,ag k)] w)=aL.J15 bP a b c d e f g i j k Q w:=by cases bP<;>kernel_rfl
variable{bP a b c d e f g i j k Q w}
theorem aL.RN(h:aL.J15 bP a b c d e f g i j k Q w):cO 148 (bf (cE (gR (dc (sR (bB (lB (bB (bf (body f97)))))))))) (aW 1 aL.u1 Q) [(0,ao a b c),(1,ag d),(2,ag e),(3,ag f),(4,CL bP g),(10,.bool i),(11,.bool j),(16,ag k)] w:=
 dG (C:=aL.k) ng mix (aL.j15 bP a b c d e f g i j k Q w) h
end
def dh.k:List Nat:= []
def dh.q1(K:KT):aZ:=(aW 0 (bn f127) (cy prog f127 K))
def dh.e1(bP:Bool)(a:OA)(b c:Nat)(d e:Int)(f:OA)(s:Int):Env:= [(0,ao a b c),(1,ag d),(2,ag e),(3,CL bP f),(8,ag s)]
def dh.u1:List Nat:= [0,1,2,3,8]
def dh.q2(Q:aZ):aZ:=(aW 2 (dd (bf (lB (bB (sR (body f127)))))++dh.u1) (aW 1 (dd (bf (lB (bB (sR (body f127)))))++dh.u1) (cH (λcM w_=>match cutAt dh.k (bf (lB (bB (sR (body f127)))))with|true=>cO 53 (bf (lB (bB (sR (body f127))))) Q cM w_|false=>bz none [] prog 53 dh.k (bf (lB (bB (sR (body f127))))) dh.u1 Q cM w_) Q)))
def dh.e2(bP:Bool)(a:OA)(b c:Nat)(d e:Int)(f:OA)(g s:Int):Env:= [(0,ao a b c),(1,ag d),(2,ag e),(3,CL bP f),(8,ag g),(9,ag s)]
def dh.u2:List Nat:= [0,1,2,3,8,9]
section
variable(bP:Bool)(a:OA)(b d:Nat)(e f:Int)(g:OA)(K:KT)(w:World)
def dh.W:Prop:=
 cO 53 (.loop (lB (bB (sR (body f127))))) (dh.q1 K) [(0,ao a b d),(1,ag e),(2,ag f),(3,CL bP g),(8,ag (i64.wrap (e+(1:Int))))] w
variable{bP a b d e f g K w}
theorem dh.of(h:dh.W bP a b d e f g K w):bJ prog 127 #[ao a b d,ag e,ag f,CL bP g] w K:=
 by cases bP<;>exact rqq func127 (C:=dh.k) h
end
section
variable(bP:Bool)(a:OA)(b c:Nat)(d e:Int)(f:OA)(g:Int)(Q:aZ)(w:World)
def dh.B1:Prop:=
 Split (decide (g<e)) (cO 53 (.loop (lB (bB (sR (bB (sL (sR (lB (bB (sR (body f127))))))))))) (dh.q2 Q) [(0,ao a b c),(1,ag d),(2,ag e),(3,CL bP f),(8,ag g),(9,ag g)] w) (Q (.exit 0) [(0,ao a b c),(1,ag d),(2,ag e),(3,CL bP f),(8,ag g)] w)
theorem dh.b1:(bz none [] prog 53 dh.k (lB (bB (sR (body f127)))) dh.u1 Q [(0,ao a b c),(1,ag d),(2,ag e),(3,CL bP f),(8,ag g)] w)=dh.B1 bP a b c d e f g Q w:=by cases bP<;>kernel_rfl
variable{bP a b c d e f}
theorem dh.cP(I:Int->World->Prop)(μ:Int->World->Nat)(s:Int){Q:aZ}{w:World}(h0:I s w)
 (round:∀s w,I s w->dh.B1 bP a b c d e f s (b7 (dh.e1 bP a b c d e f) I μ s w Q) w):cO 53 (.loop (lB (bB (sR (body f127))))) Q (dh.e1 bP a b c d e f s) w:=
 bI ng mix (dh.e1 bP a b c d e f) I μ dh.k dh.u1 s (λs Q w=>dh.B1 bP a b c d e f s Q w) (λs Q w=>dh.b1 bP a b c d e f s Q w) h0 round
end
section
def dh.dA(a:OA)(b c:Nat)(d e:Int)(f:OA)(g:Int)(K:KT)(w:World):Prop:=
 K (.tuple #[]) w
variable(bP:Bool)(a:OA)(b c:Nat)(d e:Int)(f:OA)(g:Int)(K:KT)(w:World)
theorem dh.dJ:(dh.q1 K (.exit 0) [(0,ao a b c),(1,ag d),(2,ag e),(3,CL bP f),(8,ag g)] w)=dh.dA a b c d e f g K w:=by cases bP<;>kernel_rfl
end
section
variable(bP:Bool)(a:OA)(b c:Nat)(d e:Int)(f:OA)(g i:Int)(Q:aZ)(w:World)
def dh.B2:Prop:=
 let j:=w.drew;Split (decide (i>d)) ((0<=i/\i<(b:Int))/\Is a λk:Addr=>∃m:AV,cS j (k.add (i.toNat*32)) m/\(0<=(i64.wrap (i-(1:Int)))/\(i64.wrap (i-(1:Int)))<(b:Int))/\Is a λn:Addr=>∃o:AV,(o.size=32/\Cells j (n.add ((i64.wrap (i-(1:Int))).toNat*32)) o)/\bJ prog (CF bP) (CA bP f m o) j λp q=>∃r:Int,p=ag r/\Split (decide (r<(0:Int))) (let t:=q.drew;(0<=(i64.wrap (i-(1:Int)))/\(i64.wrap (i-(1:Int)))<(b:Int))/\Is a λu:Addr=>∃v:AV,(v.size=32/\Cells t (u.add ((i64.wrap (i-(1:Int))).toNat*32)) v)/\(0<=i/\i<(b:Int))/\Is a λx:Addr=>∃y:AV,cS t (x.add (i.toNat*32)) y/\(0<=i/\i<(b:Int))/\Is a λz:Addr=>(v.size=32/\(∀a1∈v.toList,a1.oneCell'=true)/\∀b1,b1<32->Wr t ((z.add (i.toNat*32)).add b1))/\let c1:=setCells t (z.add (i.toNat*32)) v.toList 0;(0<=(i64.wrap (i-(1:Int)))/\(i64.wrap (i-(1:Int)))<(b:Int))/\Is a λd1:Addr=>(y.size=32/\(∀e1∈y.toList,e1.oneCell'=true)/\∀f1,f1<32->Wr c1 ((d1.add ((i64.wrap (i-(1:Int))).toNat*32)).add f1))/\let g1:=setCells c1 (d1.add ((i64.wrap (i-(1:Int))).toNat*32)) y.toList 0;Q .normal [(0,ao a b c),(1,ag d),(2,ag e),(3,CL bP f),(8,ag g),(9,ag (i64.wrap (i-(1:Int))))] g1) (Q (.exit 2) [(0,ao a b c),(1,ag d),(2,ag e),(3,CL bP f),(8,ag g),(9,ag i)] q)) (Q (.exit 2) [(0,ao a b c),(1,ag d),(2,ag e),(3,CL bP f),(8,ag g),(9,ag i)] j)
theorem dh.b2:(bz none [] prog 53 dh.k (lB (bB (sR (bB (sL (sR (lB (bB (sR (body f127)))))))))) dh.u2 Q [(0,ao a b c),(1,ag d),(2,ag e),(3,CL bP f),(8,ag g),(9,ag i)] w)=dh.B2 bP a b c d e f g i Q w:=by cases bP<;>kernel_rfl
variable{bP a b c d e f g}
theorem dh.iY(I:Int->World->Prop)(μ:Int->World->Nat)(s:Int){Q:aZ}{w:World}(h0:I s w)
 (round:∀s w,I s w->dh.B2 bP a b c d e f g s (b7 (dh.e2 bP a b c d e f g) I μ s w Q) w):cO 53 (.loop (lB (bB (sR (bB (sL (sR (lB (bB (sR (body f127))))))))))) Q (dh.e2 bP a b c d e f g s) w:=
 bI ng mix (dh.e2 bP a b c d e f g) I μ dh.k dh.u2 s (λs Q w=>dh.B2 bP a b c d e f g s Q w) (λs Q w=>dh.b2 bP a b c d e f g s Q w) h0 round
end
section
def dh.jJ(bP:Bool)(a:OA)(b c:Nat)(d e:Int)(f:OA)(g i:Int)(Q:aZ)(w:World):Prop:=
 Q .normal [(0,ao a b c),(1,ag d),(2,ag e),(3,CL bP f),(8,ag (i64.wrap (g+(1:Int))))] w
variable(bP:Bool)(a:OA)(b c:Nat)(d e:Int)(f:OA)(g i:Int)(Q:aZ)(w:World)
theorem dh.lA:(dh.q2 Q (.exit 2) [(0,ao a b c),(1,ag d),(2,ag e),(3,CL bP f),(8,ag g),(9,ag i)] w)=dh.jJ bP a b c d e f g i Q w:=by cases bP<;>kernel_rfl
end
def cX.k:List Nat:= []
def cX.q1(K:KT):aZ:=(aW 0 (dd (dc (body f128))++(bn f128)) (cH (λcM w_=>match cutAt cX.k (dc (body f128))with|true=>cO 60 (dc (body f128)) (cy prog f128 K) cM w_|false=>bz none [] prog 60 cX.k (dc (body f128)) (bn f128) (cy prog f128 K) cM w_) (cy prog f128 K)))
def cX.e1(bP:Bool)(a:OA)(b c:Nat)(d:OA)(e f g s:Int):Env:= [(0,ao a b c),(3,CL bP d),(8,ag e),(9,ag f),(10,ag g),(11,ag s)]
def cX.u1:List Nat:= [0,3,8,9,10,11]
def cX.q2(K:KT):aZ:=(aW 2 (bn f128) (cy prog f128 K))
def cX.e2(bP:Bool)(a:OA)(b c:Nat)(d:OA)(e f s:Int):Env:= [(0,ao a b c),(3,CL bP d),(8,ag e),(9,ag f),(12,ag s)]
def cX.u2:List Nat:= [0,3,8,9,12]
section
variable(bP:Bool)(a:OA)(b d:Nat)(e f:Int)(g:OA)(K:KT)(w:World)
def cX.W:Prop:=
 (2:Int)≠0/\cO 60 (.loop (lB (bB (sR (sL (bf (sR (body f128)))))))) (cX.q1 K) [(0,ao a b d),(3,CL bP g),(8,ag e),(9,ag 0),(10,ag (i64.wrap (f-e))),(11,ag (i64.wrap ((i64.wrap ((i64.wrap (f-e))-(1:Int))).tdiv (2:Int))))] w
variable{bP a b d e f g K w}
theorem cX.of(h:cX.W bP a b d e f g K w):bJ prog 128 #[ao a b d,ag e,ag f,CL bP g] w K:=
 by cases bP<;>exact rqq func128 (C:=cX.k) h
end
section
variable(bP:Bool)(a:OA)(b c:Nat)(d:OA)(e f g i:Int)(Q:aZ)(w:World)
def cX.B1:Prop:=
 Split (decide (i>=(0:Int))) (bJ prog 152 #[ao a b c,ag i,ag g,ag e,CL bP d] w λj k=>j=.tuple #[]/\Q .normal [(0,ao a b c),(3,CL bP d),(8,ag e),(9,ag f),(10,ag g),(11,ag (i64.wrap (i-(1:Int))))] k) (Q (.exit 0) [(0,ao a b c),(3,CL bP d),(8,ag e),(9,ag f),(10,ag g),(11,ag i)] w)
theorem cX.b1:(bz none [] prog 60 cX.k (lB (bB (sR (sL (bf (sR (body f128))))))) cX.u1 Q [(0,ao a b c),(3,CL bP d),(8,ag e),(9,ag f),(10,ag g),(11,ag i)] w)=cX.B1 bP a b c d e f g i Q w:=by cases bP<;>kernel_rfl
variable{bP a b c d e f g}
theorem cX.cP(I:Int->World->Prop)(μ:Int->World->Nat)(s:Int){Q:aZ}{w:World}(h0:I s w)
 (round:∀s w,I s w->cX.B1 bP a b c d e f g s (b7 (cX.e1 bP a b c d e f g) I μ s w Q) w):cO 60 (.loop (lB (bB (sR (sL (bf (sR (body f128)))))))) Q (cX.e1 bP a b c d e f g s) w:=
 bI ng mix (cX.e1 bP a b c d e f g) I μ cX.k cX.u1 s (λs Q w=>cX.B1 bP a b c d e f g s Q w) (λs Q w=>cX.b1 bP a b c d e f g s Q w) h0 round
end
section
def cX.dA(bP:Bool)(a:OA)(b c:Nat)(d:OA)(e f g i:Int)(K:KT)(w:World):Prop:=
 cO 60 (.loop (lB (bB (dc (sR (body f128)))))) (cX.q2 K) [(0,ao a b c),(3,CL bP d),(8,ag e),(9,ag f),(12,ag (i64.wrap (g-(1:Int))))] w
variable(bP:Bool)(a:OA)(b c:Nat)(d:OA)(e f g i:Int)(K:KT)(w:World)
theorem cX.dJ:(cX.q1 K (.exit 0) [(0,ao a b c),(3,CL bP d),(8,ag e),(9,ag f),(10,ag g),(11,ag i)] w)=cX.dA bP a b c d e f g i K w:=by cases bP<;>kernel_rfl
end
section
variable(bP:Bool)(a:OA)(b c:Nat)(d:OA)(e f g:Int)(Q:aZ)(w:World)
def cX.B2:Prop:=
 Split (decide (g>=(0:Int))) (let i:=w.drew;(0<=(i64.wrap (e+g))/\(i64.wrap (e+g))<(b:Int))/\Is a λj:Addr=>∃k:AV,cS i (j.add ((i64.wrap (e+g)).toNat*32)) k/\(0<=e/\e<(b:Int))/\Is a λm:Addr=>∃n:AV,cS i (m.add (e.toNat*32)) n/\(0<=e/\e<(b:Int))/\Is a λo:Addr=>(k.size=32/\(∀p∈k.toList,p.oneCell'=true)/\∀q,q<32->Wr i ((o.add (e.toNat*32)).add q))/\let r:=setCells i (o.add (e.toNat*32)) k.toList 0;(0<=(i64.wrap (e+g))/\(i64.wrap (e+g))<(b:Int))/\Is a λt:Addr=>(n.size=32/\(∀u∈n.toList,u.oneCell'=true)/\∀v,v<32->Wr r ((t.add ((i64.wrap (e+g)).toNat*32)).add v))/\let x:=setCells r (t.add ((i64.wrap (e+g)).toNat*32)) n.toList 0;bJ prog 152 #[ao a b c,ag f,ag g,ag e,CL bP d] x λy z=>y=.tuple #[]/\Q .normal [(0,ao a b c),(3,CL bP d),(8,ag e),(9,ag f),(12,ag (i64.wrap (g-(1:Int))))] z) (Q (.exit 2) [(0,ao a b c),(3,CL bP d),(8,ag e),(9,ag f),(12,ag g)] w)
theorem cX.b2:(bz none [] prog 60 cX.k (lB (bB (dc (sR (body f128))))) cX.u2 Q [(0,ao a b c),(3,CL bP d),(8,ag e),(9,ag f),(12,ag g)] w)=cX.B2 bP a b c d e f g Q w:=by cases bP<;>kernel_rfl
variable{bP a b c d e f}
theorem cX.iY(I:Int->World->Prop)(μ:Int->World->Nat)(s:Int){Q:aZ}{w:World}(h0:I s w)
 (round:∀s w,I s w->cX.B2 bP a b c d e f s (b7 (cX.e2 bP a b c d e f) I μ s w Q) w):cO 60 (.loop (lB (bB (dc (sR (body f128)))))) Q (cX.e2 bP a b c d e f s) w:=
 bI ng mix (cX.e2 bP a b c d e f) I μ cX.k cX.u2 s (λs Q w=>cX.B2 bP a b c d e f s Q w) (λs Q w=>cX.b2 bP a b c d e f s Q w) h0 round
end
section
def cX.jJ(a:OA)(b c:Nat)(d:OA)(e f g:Int)(K:KT)(w:World):Prop:=
 K (.tuple #[]) w
variable(bP:Bool)(a:OA)(b c:Nat)(d:OA)(e f g:Int)(K:KT)(w:World)
theorem cX.lA:(cX.q2 K (.exit 2) [(0,ao a b c),(3,CL bP d),(8,ag e),(9,ag f),(12,ag g)] w)=cX.jJ a b c d e f g K w:=by cases bP<;>kernel_rfl
end
def fW.k:List Nat:= []
def fW.q1(K:KT):aZ:=(aW 0 (bn Tryz.f129) (cy prog Tryz.f129 K))
def fW.e1(a:OA)(b c:Nat)(d e:Int)(f:Addr)(g s:Int):Env:= [(0,ao a b c),(1,ag d),(8,ag e),(9,au (some f)),(10,.int .u64 g),(11,ag s)]
def fW.u1:List Nat:= [0,1,8,9,10,11]
section
def fW.W(a:OA)(b d:Nat)(e f:Int)(g:OA)(K:KT)(w:World):Prop:=
 Split (decide ((i64.wrap (f-e))>=(8:Int))) (let i:=w.alloc (.cells (#[.int .u64 0]:AV) 204);Wr i (aU w.heap.size)/\let j:=i.setCell (aU w.heap.size) (.int .u64 (u64.wrap (i64.wrap (f-e))));bJ prog 153 #[ag (i64.wrap (f-e))] j λk m=>∃n:Int,k=.int .u64 n/\(4:Int)≠0/\cO 67 (.loop (lB (bB (bf (sR (cT (bf (body Tryz.f129)))))))) (fW.q1 K) [(0,ao a b d),(1,ag e),(8,ag (i64.wrap (f-e))),(9,au (some (aU w.heap.size))),(10,.int .u64 n),(11,ag (i64.wrap ((i64.wrap (e+(i64.wrap ((i64.wrap ((i64.wrap (f-e)).tdiv (4:Int)))*(2:Int)))))-(1:Int))))] m) (K (.tuple #[]) w)
variable(bP:Bool)(a:OA)(b d:Nat)(e f:Int)(g:OA)(K:KT)(w:World)
variable{bP a b d e f g K w}
theorem fW.of(h:fW.W a b d e f g K w):bJ prog 129 #[ao a b d,ag e,ag f,CL bP g] w K:=
 by cases bP<;>exact rqq func129 (C:=fW.k) h
end
section
variable(bP:Bool)(a:OA)(b c:Nat)(d e:Int)(f:Addr)(g i:Int)(Q:aZ)(w:World)
def fW.B1:Prop:=
 (4:Int)≠0/\Split (decide (i<=(i64.wrap ((i64.wrap (d+(i64.wrap ((i64.wrap (e.tdiv (4:Int)))*(2:Int)))))+(1:Int))))) (bJ prog 154 #[au (some f)] w λj k=>∃m:Int,j=.int .u64 m/\Split (decide ((i64.wrap (u64.wrap ((BitVec.ofInt 64 m&&& BitVec.ofInt 64 (u64.wrap (g-(1:Int)))).toNat)))>=e)) (let n:=k.drew;(0<=(i64.wrap (d+(i64.wrap ((i64.wrap (u64.wrap ((BitVec.ofInt 64 m&&& BitVec.ofInt 64 (u64.wrap (g-(1:Int)))).toNat)))-e))))/\(i64.wrap (d+(i64.wrap ((i64.wrap (u64.wrap ((BitVec.ofInt 64 m&&& BitVec.ofInt 64 (u64.wrap (g-(1:Int)))).toNat)))-e))))<(b:Int))/\Is a λo:Addr=>∃p:AV,(p.size=32/\Cells n (o.add ((i64.wrap (d+(i64.wrap ((i64.wrap (u64.wrap ((BitVec.ofInt 64 m&&& BitVec.ofInt 64 (u64.wrap (g-(1:Int)))).toNat)))-e)))).toNat*32)) p)/\(0<=i/\i<(b:Int))/\Is a λq:Addr=>∃r:AV,cS n (q.add (i.toNat*32)) r/\(0<=i/\i<(b:Int))/\Is a λt:Addr=>(p.size=32/\(∀u∈p.toList,u.oneCell'=true)/\∀v,v<32->Wr n ((t.add (i.toNat*32)).add v))/\let x:=setCells n (t.add (i.toNat*32)) p.toList 0;(0<=(i64.wrap (d+(i64.wrap ((i64.wrap (u64.wrap ((BitVec.ofInt 64 m&&& BitVec.ofInt 64 (u64.wrap (g-(1:Int)))).toNat)))-e))))/\(i64.wrap (d+(i64.wrap ((i64.wrap (u64.wrap ((BitVec.ofInt 64 m&&& BitVec.ofInt 64 (u64.wrap (g-(1:Int)))).toNat)))-e))))<(b:Int))/\Is a λy:Addr=>(r.size=32/\(∀z∈r.toList,z.oneCell'=true)/\∀a1,a1<32->Wr x ((y.add ((i64.wrap (d+(i64.wrap ((i64.wrap (u64.wrap ((BitVec.ofInt 64 m&&& BitVec.ofInt 64 (u64.wrap (g-(1:Int)))).toNat)))-e)))).toNat*32)).add a1))/\let b1:=setCells x (y.add ((i64.wrap (d+(i64.wrap ((i64.wrap (u64.wrap ((BitVec.ofInt 64 m&&& BitVec.ofInt 64 (u64.wrap (g-(1:Int)))).toNat)))-e)))).toNat*32)) r.toList 0;Q .normal [(0,ao a b c),(1,ag d),(8,ag e),(9,au (some f)),(10,.int .u64 g),(11,ag (i64.wrap (i+(1:Int))))] b1) (let c1:=k.drew;(0<=(i64.wrap (d+(i64.wrap (u64.wrap ((BitVec.ofInt 64 m&&& BitVec.ofInt 64 (u64.wrap (g-(1:Int)))).toNat)))))/\(i64.wrap (d+(i64.wrap (u64.wrap ((BitVec.ofInt 64 m&&& BitVec.ofInt 64 (u64.wrap (g-(1:Int)))).toNat)))))<(b:Int))/\Is a λd1:Addr=>∃e1:AV,(e1.size=32/\Cells c1 (d1.add ((i64.wrap (d+(i64.wrap (u64.wrap ((BitVec.ofInt 64 m&&& BitVec.ofInt 64 (u64.wrap (g-(1:Int)))).toNat))))).toNat*32)) e1)/\(0<=i/\i<(b:Int))/\Is a λf1:Addr=>∃g1:AV,cS c1 (f1.add (i.toNat*32)) g1/\(0<=i/\i<(b:Int))/\Is a λi1:Addr=>(e1.size=32/\(∀j1∈e1.toList,j1.oneCell'=true)/\∀k1,k1<32->Wr c1 ((i1.add (i.toNat*32)).add k1))/\let m1:=setCells c1 (i1.add (i.toNat*32)) e1.toList 0;(0<=(i64.wrap (d+(i64.wrap (u64.wrap ((BitVec.ofInt 64 m&&& BitVec.ofInt 64 (u64.wrap (g-(1:Int)))).toNat)))))/\(i64.wrap (d+(i64.wrap (u64.wrap ((BitVec.ofInt 64 m&&& BitVec.ofInt 64 (u64.wrap (g-(1:Int)))).toNat)))))<(b:Int))/\Is a λn1:Addr=>(g1.size=32/\(∀o1∈g1.toList,o1.oneCell'=true)/\∀p1,p1<32->Wr m1 ((n1.add ((i64.wrap (d+(i64.wrap (u64.wrap ((BitVec.ofInt 64 m&&& BitVec.ofInt 64 (u64.wrap (g-(1:Int)))).toNat))))).toNat*32)).add p1))/\let q1:=setCells m1 (n1.add ((i64.wrap (d+(i64.wrap (u64.wrap ((BitVec.ofInt 64 m&&& BitVec.ofInt 64 (u64.wrap (g-(1:Int)))).toNat))))).toNat*32)) g1.toList 0;Q .normal [(0,ao a b c),(1,ag d),(8,ag e),(9,au (some f)),(10,.int .u64 g),(11,ag (i64.wrap (i+(1:Int))))] q1)) (Q (.exit 0) [(0,ao a b c),(1,ag d),(8,ag e),(9,au (some f)),(10,.int .u64 g),(11,ag i)] w)
theorem fW.b1:(bz none [] prog 67 fW.k (lB (bB (bf (sR (cT (bf (body Tryz.f129))))))) fW.u1 Q [(0,ao a b c),(1,ag d),(8,ag e),(9,au (some f)),(10,.int .u64 g),(11,ag i)] w)=fW.B1 a b c d e f g i Q w:=by kernel_rfl
variable{bP a b c d e f g}
theorem fW.cP(I:Int->World->Prop)(μ:Int->World->Nat)(s:Int){Q:aZ}{w:World}(h0:I s w)
 (round:∀s w,I s w->fW.B1 a b c d e f g s (b7 (fW.e1 a b c d e f g) I μ s w Q) w):cO 67 (.loop (lB (bB (bf (sR (cT (bf (body Tryz.f129)))))))) Q (fW.e1 a b c d e f g s) w:=
 bI ng mix (fW.e1 a b c d e f g) I μ fW.k fW.u1 s (λs Q w=>fW.B1 a b c d e f g s Q w) (λs Q w=>fW.b1 a b c d e f g s Q w) h0 round
end
section
def fW.dA(a:OA)(b c:Nat)(d e:Int)(f:Addr)(g i:Int)(K:KT)(w:World):Prop:=
 K (.tuple #[]) w
variable(bP:Bool)(a:OA)(b c:Nat)(d e:Int)(f:Addr)(g i:Int)(K:KT)(w:World)
theorem fW.dJ:(fW.q1 K (.exit 0) [(0,ao a b c),(1,ag d),(8,ag e),(9,au (some f)),(10,.int .u64 g),(11,ag i)] w)=fW.dA a b c d e f g i K w:=by kernel_rfl
end
def uz.k:List Nat:= []
section
variable(bP:Bool)(a:OA)(b d:Nat)(e f:Int)(g:OA)(K:KT)(w:World)
def uz.W:Prop:=
 let i:=w.alloc (.cells (#[ag 0]:AV) 3);(4:Int)≠0/\(4:Int)≠0/\(4:Int)≠0/\Split (decide ((i64.wrap (f-e))>=(8:Int))) (Split (decide ((i64.wrap (f-e))>=(50:Int))) (bJ prog 155 #[ao a b d,ag (i64.wrap (e+(i64.wrap ((i64.wrap ((i64.wrap (f-e)).tdiv (4:Int)))*(1:Int))))),au (some (aU w.heap.size)),CL bP g] i λj k=>∃m:Int,j=ag m/\bJ prog 155 #[ao a b d,ag (i64.wrap (e+(i64.wrap ((i64.wrap ((i64.wrap (f-e)).tdiv (4:Int)))*(2:Int))))),au (some (aU w.heap.size)),CL bP g] k λn o=>∃p:Int,n=ag p/\bJ prog 155 #[ao a b d,ag (i64.wrap (e+(i64.wrap ((i64.wrap ((i64.wrap (f-e)).tdiv (4:Int)))*(3:Int))))),au (some (aU w.heap.size)),CL bP g] o λq r=>∃t:Int,q=ag t/\bJ prog 156 #[ao a b d,ag m,ag p,ag t,au (some (aU w.heap.size)),CL bP g] r λu v=>∃x:Int,u=ag x/\∃y:Int,v.cell? (aU w.heap.size)=some (ag y)/\Split (y==(0:Int)) (K (.tuple #[ag x,ag 1]) v) (Split (y==(12:Int)) (K (.tuple #[ag x,ag 2]) v) (K (.tuple #[ag x,ag 0]) v))) (bJ prog 156 #[ao a b d,ag (i64.wrap (e+(i64.wrap ((i64.wrap ((i64.wrap (f-e)).tdiv (4:Int)))*(1:Int))))),ag (i64.wrap (e+(i64.wrap ((i64.wrap ((i64.wrap (f-e)).tdiv (4:Int)))*(2:Int))))),ag (i64.wrap (e+(i64.wrap ((i64.wrap ((i64.wrap (f-e)).tdiv (4:Int)))*(3:Int))))),au (some (aU w.heap.size)),CL bP g] i λz a1=>∃b1:Int,z=ag b1/\∃c1:Int,a1.cell? (aU w.heap.size)=some (ag c1)/\Split (c1==(0:Int)) (K (.tuple #[ag b1,ag 1]) a1) (Split (c1==(12:Int)) (K (.tuple #[ag b1,ag 2]) a1) (K (.tuple #[ag b1,ag 0]) a1)))) (∃d1:Int,i.cell? (aU w.heap.size)=some (ag d1)/\Split (d1==(0:Int)) (K (.tuple #[ag (i64.wrap (e+(i64.wrap ((i64.wrap ((i64.wrap (f-e)).tdiv (4:Int)))*(2:Int))))),ag 1]) i) (Split (d1==(12:Int)) (K (.tuple #[ag (i64.wrap (e+(i64.wrap ((i64.wrap ((i64.wrap (f-e)).tdiv (4:Int)))*(2:Int))))),ag 2]) i) (K (.tuple #[ag (i64.wrap (e+(i64.wrap ((i64.wrap ((i64.wrap (f-e)).tdiv (4:Int)))*(2:Int))))),ag 0]) i)))
variable{bP a b d e f g K w}
theorem uz.of(h:uz.W bP a b d e f g K w):bJ prog 130 #[ao a b d,ag e,ag f,CL bP g] w K:=
 by cases bP<;>exact rqq func130 (C:=uz.k) h
end
def fV.k:List Nat:= []
def fV.q1(K:KT):aZ:=(aW 0 (bn f131) (cy prog f131 K))
def fV.e1(a:OA)(b c:Nat)(s:Int×Int):Env:= [(0,ao a b c),(8,ag s.1),(9,ag s.2)]
def fV.u1:List Nat:= [0,8,9]
section
def fV.W(a:OA)(b d:Nat)(e f:Int)(g:OA)(K:KT)(w:World):Prop:=
 cO 34 (.loop (lB (bB (bf (body f131))))) (fV.q1 K) [(0,ao a b d),(8,ag e),(9,ag (i64.wrap (f-(1:Int))))] w
variable(bP:Bool)(a:OA)(b d:Nat)(e f:Int)(g:OA)(K:KT)(w:World)
variable{bP a b d e f g K w}
theorem fV.of(h:fV.W a b d e f g K w):bJ prog 131 #[ao a b d,ag e,ag f,CL bP g] w K:=
 by cases bP<;>exact rqq func131 (C:=fV.k) h
end
section
variable(bP:Bool)(a:OA)(b c:Nat)(d e:Int)(Q:aZ)(w:World)
def fV.B1:Prop:=
 Split (decide (d<e)) (let f:=w.drew;(0<=e/\e<(b:Int))/\Is a λg:Addr=>∃i:AV,cS f (g.add (e.toNat*32)) i/\(0<=d/\d<(b:Int))/\Is a λj:Addr=>∃k:AV,cS f (j.add (d.toNat*32)) k/\(0<=d/\d<(b:Int))/\Is a λm:Addr=>(i.size=32/\(∀n∈i.toList,n.oneCell'=true)/\∀o,o<32->Wr f ((m.add (d.toNat*32)).add o))/\let p:=setCells f (m.add (d.toNat*32)) i.toList 0;(0<=e/\e<(b:Int))/\Is a λq:Addr=>(k.size=32/\(∀r∈k.toList,r.oneCell'=true)/\∀t,t<32->Wr p ((q.add (e.toNat*32)).add t))/\let u:=setCells p (q.add (e.toNat*32)) k.toList 0;Q .normal [(0,ao a b c),(8,ag (i64.wrap (d+(1:Int)))),(9,ag (i64.wrap (e-(1:Int))))] u) (Q (.exit 0) [(0,ao a b c),(8,ag d),(9,ag e)] w)
theorem fV.b1:(bz none [] prog 34 fV.k (lB (bB (bf (body f131)))) fV.u1 Q [(0,ao a b c),(8,ag d),(9,ag e)] w)=fV.B1 a b c d e Q w:=by kernel_rfl
variable{bP a b c}
theorem fV.cP(I:Int×Int->World->Prop)(μ:Int×Int->World->Nat)(s:Int×Int){Q:aZ}{w:World}(h0:I s w)
 (round:∀s w,I s w->fV.B1 a b c (s.1) (s.2) (b7 (fV.e1 a b c) I μ s w Q) w):cO 34 (.loop (lB (bB (bf (body f131))))) Q (fV.e1 a b c s) w:=
 bI ng mix (fV.e1 a b c) I μ fV.k fV.u1 s (λs Q w=>fV.B1 a b c (s.1) (s.2) Q w) (λs Q w=>fV.b1 a b c (s.1) (s.2) Q w) h0 round
end
section
def fV.dA(a:OA)(b c:Nat)(d e:Int)(K:KT)(w:World):Prop:=
 K (.tuple #[]) w
variable(bP:Bool)(a:OA)(b c:Nat)(d e:Int)(K:KT)(w:World)
theorem fV.dJ:(fV.q1 K (.exit 0) [(0,ao a b c),(8,ag d),(9,ag e)] w)=fV.dA a b c d e K w:=by kernel_rfl
end
def b9.k:List Nat:= []
def b9.q1(K:KT):aZ:=(aW 0 (dd (bf (sR (body f132)))++(bn f132)) (cH (λcM w_=>match cutAt b9.k (bf (sR (body f132)))with|true=>cO 141 (bf (sR (body f132))) (cy prog f132 K) cM w_|false=>bz none [] prog 141 b9.k (bf (sR (body f132))) (bn f132) (cy prog f132 K) cM w_) (cy prog f132 K)))
def b9.e1(bP:Bool)(a:OA)(b c:Nat)(d e:Int)(f:OA)(s:Bool×Int×Int):Env:= [(0,ao a b c),(1,ag d),(2,ag e),(3,CL bP f),(8,.bool s.1),(9,ag s.2.1),(10,ag s.2.2)]
def b9.u1:List Nat:= [0,1,2,3,8,9,10]
def b9.q2(Q:aZ):aZ:=(aW 2 (dd (sR (bB (sL (sR (lB (bB (sR (sL (bf (body f132))))))))))++(dd (bf (lB (bB (sR (sL (bf (body f132)))))))++b9.u1)) (cH (λcM w_=>match cutAt b9.k (sR (bB (sL (sR (lB (bB (sR (sL (bf (body f132))))))))))with|true=>cO 141 (sR (bB (sL (sR (lB (bB (sR (sL (bf (body f132)))))))))) (aW 1 (dd (bf (lB (bB (sR (sL (bf (body f132)))))))++b9.u1) (cH (λcM w_=>match cutAt b9.k (bf (lB (bB (sR (sL (bf (body f132)))))))with|true=>cO 141 (bf (lB (bB (sR (sL (bf (body f132))))))) Q cM w_|false=>bz none [] prog 141 b9.k (bf (lB (bB (sR (sL (bf (body f132))))))) b9.u1 Q cM w_) Q)) cM w_|false=>bz none [] prog 141 b9.k (sR (bB (sL (sR (lB (bB (sR (sL (bf (body f132)))))))))) (dd (bf (lB (bB (sR (sL (bf (body f132)))))))++b9.u1) (aW 1 (dd (bf (lB (bB (sR (sL (bf (body f132)))))))++b9.u1) (cH (λcM w_=>match cutAt b9.k (bf (lB (bB (sR (sL (bf (body f132)))))))with|true=>cO 141 (bf (lB (bB (sR (sL (bf (body f132))))))) Q cM w_|false=>bz none [] prog 141 b9.k (bf (lB (bB (sR (sL (bf (body f132))))))) b9.u1 Q cM w_) Q)) cM w_) (aW 1 (dd (bf (lB (bB (sR (sL (bf (body f132)))))))++b9.u1) (cH (λcM w_=>match cutAt b9.k (bf (lB (bB (sR (sL (bf (body f132)))))))with|true=>cO 141 (bf (lB (bB (sR (sL (bf (body f132))))))) Q cM w_|false=>bz none [] prog 141 b9.k (bf (lB (bB (sR (sL (bf (body f132))))))) b9.u1 Q cM w_) Q))))
def b9.e2(bP:Bool)(a:OA)(b c:Nat)(d e:Int)(f:OA)(g:Bool)(i s:Int):Env:= [(0,ao a b c),(1,ag d),(2,ag e),(3,CL bP f),(8,.bool g),(9,ag s),(10,ag i)]
def b9.u2:List Nat:= [0,1,2,3,8,9,10]
def b9.q3(Q:aZ):aZ:=(aW 4 (dd (dc (sR (bB (sL (sR (lB (bB (sR (sL (bf (body f132)))))))))))++(dd (bf (lB (bB (sR (sL (bf (body f132)))))))++b9.u1)) (cH (λcM w_=>match cutAt b9.k (dc (sR (bB (sL (sR (lB (bB (sR (sL (bf (body f132)))))))))))with|true=>cO 141 (dc (sR (bB (sL (sR (lB (bB (sR (sL (bf (body f132))))))))))) (aW 1 (dd (bf (lB (bB (sR (sL (bf (body f132)))))))++b9.u1) (cH (λcM w_=>match cutAt b9.k (bf (lB (bB (sR (sL (bf (body f132)))))))with|true=>cO 141 (bf (lB (bB (sR (sL (bf (body f132))))))) Q cM w_|false=>bz none [] prog 141 b9.k (bf (lB (bB (sR (sL (bf (body f132))))))) b9.u1 Q cM w_) Q)) cM w_|false=>bz none [] prog 141 b9.k (dc (sR (bB (sL (sR (lB (bB (sR (sL (bf (body f132))))))))))) (dd (bf (lB (bB (sR (sL (bf (body f132)))))))++b9.u1) (aW 1 (dd (bf (lB (bB (sR (sL (bf (body f132)))))))++b9.u1) (cH (λcM w_=>match cutAt b9.k (bf (lB (bB (sR (sL (bf (body f132)))))))with|true=>cO 141 (bf (lB (bB (sR (sL (bf (body f132))))))) Q cM w_|false=>bz none [] prog 141 b9.k (bf (lB (bB (sR (sL (bf (body f132))))))) b9.u1 Q cM w_) Q)) cM w_) (aW 1 (dd (bf (lB (bB (sR (sL (bf (body f132)))))))++b9.u1) (cH (λcM w_=>match cutAt b9.k (bf (lB (bB (sR (sL (bf (body f132)))))))with|true=>cO 141 (bf (lB (bB (sR (sL (bf (body f132))))))) Q cM w_|false=>bz none [] prog 141 b9.k (bf (lB (bB (sR (sL (bf (body f132))))))) b9.u1 Q cM w_) Q))))
def b9.q4(Q:aZ):aZ:=(aW 6 (dd (bf (lB (bB (sR (sL (bf (body f132)))))))++b9.u1) (aW 1 (dd (bf (lB (bB (sR (sL (bf (body f132)))))))++b9.u1) (cH (λcM w_=>match cutAt b9.k (bf (lB (bB (sR (sL (bf (body f132)))))))with|true=>cO 141 (bf (lB (bB (sR (sL (bf (body f132))))))) Q cM w_|false=>bz none [] prog 141 b9.k (bf (lB (bB (sR (sL (bf (body f132))))))) b9.u1 Q cM w_) Q)))
section
variable(bP:Bool)(a:OA)(b d:Nat)(e f:Int)(g:OA)(K:KT)(w:World)
def b9.W:Prop:=
 cO 141 (.loop (lB (bB (sR (sL (bf (body f132))))))) (b9.q1 K) [(0,ao a b d),(1,ag e),(2,ag f),(3,CL bP g),(8,.bool false),(9,ag (i64.wrap (e+(1:Int)))),(10,ag 0)] w
variable{bP a b d e f g K w}
theorem b9.of(h:b9.W bP a b d e f g K w):bJ prog 132 #[ao a b d,ag e,ag f,CL bP g] w K:=
 by cases bP<;>exact rqq func132 (C:=b9.k) h
end
section
variable(bP:Bool)(a:OA)(b c:Nat)(d e:Int)(f:OA)(g:Bool)(i j:Int)(Q:aZ)(w:World)
def b9.B1:Prop:=
 Split (decide (j<(5:Int))) (cO 141 (.loop (lB (bB (sL (bB (sL (sR (lB (bB (sR (sL (bf (body f132))))))))))))) (b9.q2 Q) [(0,ao a b c),(1,ag d),(2,ag e),(3,CL bP f),(8,.bool g),(9,ag i),(10,ag j)] w) (Q (.exit 0) [(0,ao a b c),(1,ag d),(2,ag e),(3,CL bP f),(8,.bool g),(9,ag i),(10,ag j)] w)
theorem b9.b1:(bz none [] prog 141 b9.k (lB (bB (sR (sL (bf (body f132)))))) b9.u1 Q [(0,ao a b c),(1,ag d),(2,ag e),(3,CL bP f),(8,.bool g),(9,ag i),(10,ag j)] w)=b9.B1 bP a b c d e f g i j Q w:=by cases bP<;>kernel_rfl
variable{bP a b c d e f}
theorem b9.cP(I:Bool×Int×Int->World->Prop)(μ:Bool×Int×Int->World->Nat)(s:Bool×Int×Int){Q:aZ}{w:World}(h0:I s w)
 (round:∀s w,I s w->b9.B1 bP a b c d e f (s.1) (s.2.1) (s.2.2) (b7 (b9.e1 bP a b c d e f) I μ s w Q) w):cO 141 (.loop (lB (bB (sR (sL (bf (body f132))))))) Q (b9.e1 bP a b c d e f s) w:=
 bI ng mix (b9.e1 bP a b c d e f) I μ b9.k b9.u1 s (λs Q w=>b9.B1 bP a b c d e f (s.1) (s.2.1) (s.2.2) Q w) (λs Q w=>b9.b1 bP a b c d e f (s.1) (s.2.1) (s.2.2) Q w) h0 round
end
section
variable(bP:Bool)(a:OA)(b c:Nat)(d e:Int)(f:OA)(g:Bool)(i j:Int)(K:KT)(w:World)
end
section
variable(bP:Bool)(a:OA)(b c:Nat)(d e:Int)(f:OA)(g:Bool)(i j:Int)(Q:aZ)(w:World)
def b9.B2:Prop:=
 let k:=w.drew;Split (decide (i<e)) ((0<=i/\i<(b:Int))/\Is a λm:Addr=>∃n:AV,cS k (m.add (i.toNat*32)) n/\(0<=(i64.wrap (i-(1:Int)))/\(i64.wrap (i-(1:Int)))<(b:Int))/\Is a λo:Addr=>∃p:AV,(p.size=32/\Cells k (o.add ((i64.wrap (i-(1:Int))).toNat*32)) p)/\bJ prog (CF bP) (CA bP f n p) k λq r=>∃t:Int,q=ag t/\Split (!(decide (t<(0:Int)))) (Q .normal [(0,ao a b c),(1,ag d),(2,ag e),(3,CL bP f),(8,.bool g),(9,ag (i64.wrap (i+(1:Int)))),(10,ag j)] r) (Q (.exit 2) [(0,ao a b c),(1,ag d),(2,ag e),(3,CL bP f),(8,.bool g),(9,ag i),(10,ag j)] r)) (Q (.exit 2) [(0,ao a b c),(1,ag d),(2,ag e),(3,CL bP f),(8,.bool g),(9,ag i),(10,ag j)] k)
theorem b9.b2:(bz none [] prog 141 b9.k (lB (bB (sL (bB (sL (sR (lB (bB (sR (sL (bf (body f132)))))))))))) b9.u2 Q [(0,ao a b c),(1,ag d),(2,ag e),(3,CL bP f),(8,.bool g),(9,ag i),(10,ag j)] w)=b9.B2 bP a b c d e f g i j Q w:=by cases bP<;>kernel_rfl
variable{bP a b c d e f g j}
theorem b9.iY(I:Int->World->Prop)(μ:Int->World->Nat)(s:Int){Q:aZ}{w:World}(h0:I s w)
 (round:∀s w,I s w->b9.B2 bP a b c d e f g s j (b7 (b9.e2 bP a b c d e f g j) I μ s w Q) w):cO 141 (.loop (lB (bB (sL (bB (sL (sR (lB (bB (sR (sL (bf (body f132))))))))))))) Q (b9.e2 bP a b c d e f g j s) w:=
 bI ng mix (b9.e2 bP a b c d e f g j) I μ b9.k b9.u2 s (λs Q w=>b9.B2 bP a b c d e f g s j Q w) (λs Q w=>b9.b2 bP a b c d e f g s j Q w) h0 round
end
section
variable(bP:Bool)(a:OA)(b c:Nat)(d e:Int)(f:OA)(g:Bool)(i j:Int)(Q:aZ)(w:World)
def b9.jJ:Prop:=
 Split (i==e) (Q .ret [(0,ao a b c),(1,ag d),(2,ag e),(3,CL bP f),(8,.bool true),(9,ag i),(10,ag j)] w) (Split (decide ((i64.wrap (e-d))<(50:Int))) (Q .ret [(0,ao a b c),(1,ag d),(2,ag e),(3,CL bP f),(8,.bool false),(9,ag i),(10,ag j)] w) (let k:=w.drew;(0<=(i64.wrap (i-(1:Int)))/\(i64.wrap (i-(1:Int)))<(b:Int))/\Is a λm:Addr=>∃n:AV,(n.size=32/\Cells k (m.add ((i64.wrap (i-(1:Int))).toNat*32)) n)/\(0<=i/\i<(b:Int))/\Is a λo:Addr=>∃p:AV,cS k (o.add (i.toNat*32)) p/\(0<=i/\i<(b:Int))/\Is a λq:Addr=>(n.size=32/\(∀r∈n.toList,r.oneCell'=true)/\∀t,t<32->Wr k ((q.add (i.toNat*32)).add t))/\let u:=setCells k (q.add (i.toNat*32)) n.toList 0;(0<=(i64.wrap (i-(1:Int)))/\(i64.wrap (i-(1:Int)))<(b:Int))/\Is a λv:Addr=>(p.size=32/\(∀x∈p.toList,x.oneCell'=true)/\∀y,y<32->Wr u ((v.add ((i64.wrap (i-(1:Int))).toNat*32)).add y))/\let z:=setCells u (v.add ((i64.wrap (i-(1:Int))).toNat*32)) p.toList 0;Split (decide ((i64.wrap (i-d))>=(2:Int))) (cO 141 (.loop (lB (bB (sR (cT (sR (sL (dc (bB (sL (sR (lB (bB (sR (sL (bf (body f132))))))))))))))))) (b9.q3 Q) [(0,ao a b c),(1,ag d),(2,ag e),(3,CL bP f),(8,.bool g),(9,ag i),(10,ag j),(11,ag (i64.wrap (i-(1:Int))))] z) (Split (decide ((i64.wrap (e-i))>=(2:Int))) (cO 141 (.loop (lB (bB (sR (cT (dc (bf (bB (sL (sR (lB (bB (sR (sL (bf (body f132)))))))))))))))) (b9.q4 Q) [(0,ao a b c),(1,ag d),(2,ag e),(3,CL bP f),(8,.bool g),(9,ag i),(10,ag j),(12,ag (i64.wrap (i+(1:Int))))] z) (Q .normal [(0,ao a b c),(1,ag d),(2,ag e),(3,CL bP f),(8,.bool g),(9,ag i),(10,ag (i64.wrap (j+(1:Int))))] z))))
theorem b9.lA:(b9.q2 Q (.exit 2) [(0,ao a b c),(1,ag d),(2,ag e),(3,CL bP f),(8,.bool g),(9,ag i),(10,ag j)] w)=b9.jJ bP a b c d e f g i j Q w:=by cases bP<;>kernel_rfl
end
section
variable(bP:Bool)(a:OA)(b c:Nat)(d e:Int)(f:OA)(g:Bool)(i j k:Int)(Q:aZ)(w:World)
variable{bP a b c d e f g i j}
end
section
variable(bP:Bool)(a:OA)(b c:Nat)(d e:Int)(f:OA)(g:Bool)(i j k:Int)(Q:aZ)(w:World)
end
section
variable(bP:Bool)(a:OA)(b c:Nat)(d e:Int)(f:OA)(g:Bool)(i j k:Int)(Q:aZ)(w:World)
variable{bP a b c d e f g i j}
end
section
variable(bP:Bool)(a:OA)(b c:Nat)(d e:Int)(f:OA)(g:Bool)(i j k:Int)(Q:aZ)(w:World)
end
section
variable(bP:Bool)(a:OA)(b d:Nat)(e f g:Int)(i:OA)(K:KT)(w:World)
variable{bP a b d e f g i K w}
end
section
variable(bP:Bool)(a:OA)(b c:Nat)(d:Int)(e:OA)(f g i:Int)(Q:aZ)(w:World)
variable{bP a b c d e f}
end
section
variable(bP:Bool)(a:OA)(b c:Nat)(d:Int)(e:OA)(f g i:Int)(Q:aZ)(w:World)
variable{bP a b c d e f i}
end
section
variable(bP:Bool)(a:OA)(b c:Nat)(d:Int)(e:OA)(f g i:Int)(Q:aZ)(w:World)
end
section
variable(bP:Bool)(a:OA)(b c:Nat)(d:Int)(e:OA)(f g i:Int)(Q:aZ)(w:World)
variable{bP a b c d e f g}
end
section
variable(bP:Bool)(a:OA)(b c:Nat)(d:Int)(e:OA)(f g i:Int)(Q:aZ)(w:World)
end
section
variable(bP:Bool)(a:OA)(b c:Nat)(d:Int)(e:OA)(f g i:Int)(K:KT)(w:World)
end
def bA.k:List Nat:= []
def bA.q1(K:KT):aZ:=(aW 0 (dd (dc (body f134))++(bn f134)) (cH (λcM w_=>match cutAt bA.k (dc (body f134))with|true=>cO 178 (dc (body f134)) (cy prog f134 K) cM w_|false=>bz none [] prog 178 bA.k (dc (body f134)) (bn f134) (cy prog f134 K) cM w_) (cy prog f134 K)))
def bA.e1(bP:Bool)(a:OA)(b c:Nat)(d:Int)(e:OA)(f g s:Int):Env:= [(0,ao a b c),(1,ag d),(4,CL bP e),(10,ag f),(11,.bool false),(12,ag s),(13,ag g)]
def bA.u1:List Nat:= [0,1,4,10,11,12,13]
def bA.q2(K:KT):aZ:=(aW 2 (dd (dc (sR (body f134)))++(bn f134)) (cH (λcM w_=>match cutAt bA.k (dc (sR (body f134)))with|true=>cO 178 (dc (sR (body f134))) (cy prog f134 K) cM w_|false=>bz none [] prog 178 bA.k (dc (sR (body f134))) (bn f134) (cy prog f134 K) cM w_) (cy prog f134 K)))
def bA.e2(bP:Bool)(a:OA)(b c:Nat)(d:Int)(e:OA)(f g s:Int):Env:= [(0,ao a b c),(1,ag d),(4,CL bP e),(10,ag f),(11,.bool false),(12,ag g),(13,ag s)]
def bA.u2:List Nat:= [0,1,4,10,11,12,13]
def bA.q3(K:KT):aZ:=(aW 4 (dd (gR (bf (body f134)))++(bn f134)) (cH (λcM w_=>match cutAt bA.k (gR (bf (body f134)))with|true=>cO 178 (gR (bf (body f134))) (cy prog f134 K) cM w_|false=>bz none [] prog 178 bA.k (gR (bf (body f134))) (bn f134) (cy prog f134 K) cM w_) (cy prog f134 K)))
def bA.e3(bP:Bool)(a:OA)(b c:Nat)(d:Int)(e:OA)(f:Int)(s:Int×Int):Env:= [(0,ao a b c),(1,ag d),(4,CL bP e),(10,ag f),(11,.bool false),(12,ag s.1),(13,ag s.2)]
def bA.u3:List Nat:= [0,1,4,10,11,12,13]
def bA.q4(Q:aZ):aZ:=(aW 6 (dd (sR (bB (lB (bB (sL (gR (sR (body f134))))))))++bA.u3) (cH (λcM w_=>match cutAt bA.k (sR (bB (lB (bB (sL (gR (sR (body f134))))))))with|true=>cO 178 (sR (bB (lB (bB (sL (gR (sR (body f134)))))))) (aW 5 bA.u3 Q) cM w_|false=>bz none [] prog 178 bA.k (sR (bB (lB (bB (sL (gR (sR (body f134)))))))) bA.u3 (aW 5 bA.u3 Q) cM w_) (aW 5 bA.u3 Q)))
def bA.e4(bP:Bool)(a:OA)(b c:Nat)(d:Int)(e:OA)(f g s:Int):Env:= [(0,ao a b c),(1,ag d),(4,CL bP e),(10,ag f),(11,.bool false),(12,ag s),(13,ag g)]
def bA.u4:List Nat:= [0,1,4,10,11,12,13]
def bA.q5(Q:aZ):aZ:=(aW 8 (dd (bf (bB (lB (bB (sL (gR (sR (body f134))))))))++bA.u3) (cH (λcM w_=>match cutAt bA.k (bf (bB (lB (bB (sL (gR (sR (body f134))))))))with|true=>cO 178 (bf (bB (lB (bB (sL (gR (sR (body f134)))))))) (aW 5 bA.u3 Q) cM w_|false=>bz none [] prog 178 bA.k (bf (bB (lB (bB (sL (gR (sR (body f134)))))))) bA.u3 (aW 5 bA.u3 Q) cM w_) (aW 5 bA.u3 Q)))
def bA.e5(bP:Bool)(a:OA)(b c:Nat)(d:Int)(e:OA)(f g s:Int):Env:= [(0,ao a b c),(1,ag d),(4,CL bP e),(10,ag f),(11,.bool false),(12,ag g),(13,ag s)]
def bA.u5:List Nat:= [0,1,4,10,11,12,13]
section
variable(bP:Bool)(a:OA)(b d:Nat)(e f g:Int)(i:OA)(K:KT)(w:World)
def bA.W:Prop:=
 let j:=w.drew;(0<=g/\g<(b:Int))/\Is a λk:Addr=>∃m:AV,cS j (k.add (g.toNat*32)) m/\(0<=e/\e<(b:Int))/\Is a λn:Addr=>∃o:AV,cS j (n.add (e.toNat*32)) o/\(0<=e/\e<(b:Int))/\Is a λp:Addr=>(m.size=32/\(∀q∈m.toList,q.oneCell'=true)/\∀r,r<32->Wr j ((p.add (e.toNat*32)).add r))/\let t:=setCells j (p.add (e.toNat*32)) m.toList 0;(0<=g/\g<(b:Int))/\Is a λu:Addr=>(o.size=32/\(∀v∈o.toList,v.oneCell'=true)/\∀x,x<32->Wr t ((u.add (g.toNat*32)).add x))/\let y:=setCells t (u.add (g.toNat*32)) o.toList 0;cO 178 (.loop (lB (bB (sL (bf (sR (body f134))))))) (bA.q1 K) [(0,ao a b d),(1,ag e),(4,CL bP i),(10,ag 0),(11,.bool false),(12,ag (i64.wrap (e+(1:Int)))),(13,ag (i64.wrap (f-(1:Int))))] y
variable{bP a b d e f g i K w}
theorem bA.of(h:bA.W bP a b d e f g i K w):bJ prog 134 #[ao a b d,ag e,ag f,ag g,CL bP i] w K:=
 by cases bP<;>exact rqq func134 (C:=bA.k) h
end
section
variable(bP:Bool)(a:OA)(b c:Nat)(d:Int)(e:OA)(f g i:Int)(Q:aZ)(w:World)
def bA.B1:Prop:=
 let j:=w.drew;Split (decide (g<=i)) ((0<=g/\g<(b:Int))/\Is a λk:Addr=>∃m:AV,cS j (k.add (g.toNat*32)) m/\(0<=d/\d<(b:Int))/\Is a λn:Addr=>∃o:AV,cS j (n.add (d.toNat*32)) o/\bJ prog (CF bP) (CA bP e m o) j λp q=>∃r:Int,p=ag r/\Split (decide (r<(0:Int))) (Q .normal [(0,ao a b c),(1,ag d),(4,CL bP e),(10,ag f),(11,.bool false),(12,ag (i64.wrap (g+(1:Int)))),(13,ag i)] q) (Q (.exit 0) [(0,ao a b c),(1,ag d),(4,CL bP e),(10,ag f),(11,.bool false),(12,ag g),(13,ag i)] q)) (Q (.exit 0) [(0,ao a b c),(1,ag d),(4,CL bP e),(10,ag f),(11,.bool false),(12,ag g),(13,ag i)] j)
theorem bA.b1:(bz none [] prog 178 bA.k (lB (bB (sL (bf (sR (body f134)))))) bA.u1 Q [(0,ao a b c),(1,ag d),(4,CL bP e),(10,ag f),(11,.bool false),(12,ag g),(13,ag i)] w)=bA.B1 bP a b c d e f g i Q w:=by cases bP<;>kernel_rfl
variable{bP a b c d e f i}
theorem bA.cP(I:Int->World->Prop)(μ:Int->World->Nat)(s:Int){Q:aZ}{w:World}(h0:I s w)
 (round:∀s w,I s w->bA.B1 bP a b c d e f s i (b7 (bA.e1 bP a b c d e f i) I μ s w Q) w):cO 178 (.loop (lB (bB (sL (bf (sR (body f134))))))) Q (bA.e1 bP a b c d e f i s) w:=
 bI ng mix (bA.e1 bP a b c d e f i) I μ bA.k bA.u1 s (λs Q w=>bA.B1 bP a b c d e f s i Q w) (λs Q w=>bA.b1 bP a b c d e f s i Q w) h0 round
end
section
variable(bP:Bool)(a:OA)(b c:Nat)(d:Int)(e:OA)(f g i:Int)(K:KT)(w:World)
def bA.dA:Prop:=
 cO 178 (.loop (lB (bB (sL (dc (body f134)))))) (bA.q2 K) [(0,ao a b c),(1,ag d),(4,CL bP e),(10,ag f),(11,.bool false),(12,ag g),(13,ag i)] w
theorem bA.dJ:(bA.q1 K (.exit 0) [(0,ao a b c),(1,ag d),(4,CL bP e),(10,ag f),(11,.bool false),(12,ag g),(13,ag i)] w)=bA.dA bP a b c d e f g i K w:=by cases bP<;>kernel_rfl
end
section
variable(bP:Bool)(a:OA)(b c:Nat)(d:Int)(e:OA)(f g i:Int)(Q:aZ)(w:World)
def bA.B2:Prop:=
 let j:=w.drew;Split (decide (g<=i)) ((0<=i/\i<(b:Int))/\Is a λk:Addr=>∃m:AV,cS j (k.add (i.toNat*32)) m/\(0<=d/\d<(b:Int))/\Is a λn:Addr=>∃o:AV,cS j (n.add (d.toNat*32)) o/\bJ prog (CF bP) (CA bP e m o) j λp q=>∃r:Int,p=ag r/\Split (!(decide (r<(0:Int)))) (Q .normal [(0,ao a b c),(1,ag d),(4,CL bP e),(10,ag f),(11,.bool false),(12,ag g),(13,ag (i64.wrap (i-(1:Int))))] q) (Q (.exit 2) [(0,ao a b c),(1,ag d),(4,CL bP e),(10,ag f),(11,.bool false),(12,ag g),(13,ag i)] q)) (Q (.exit 2) [(0,ao a b c),(1,ag d),(4,CL bP e),(10,ag f),(11,.bool false),(12,ag g),(13,ag i)] j)
theorem bA.b2:(bz none [] prog 178 bA.k (lB (bB (sL (dc (body f134))))) bA.u2 Q [(0,ao a b c),(1,ag d),(4,CL bP e),(10,ag f),(11,.bool false),(12,ag g),(13,ag i)] w)=bA.B2 bP a b c d e f g i Q w:=by cases bP<;>kernel_rfl
variable{bP a b c d e f g}
theorem bA.iY(I:Int->World->Prop)(μ:Int->World->Nat)(s:Int){Q:aZ}{w:World}(h0:I s w)
 (round:∀s w,I s w->bA.B2 bP a b c d e f g s (b7 (bA.e2 bP a b c d e f g) I μ s w Q) w):cO 178 (.loop (lB (bB (sL (dc (body f134)))))) Q (bA.e2 bP a b c d e f g s) w:=
 bI ng mix (bA.e2 bP a b c d e f g) I μ bA.k bA.u2 s (λs Q w=>bA.B2 bP a b c d e f g s Q w) (λs Q w=>bA.b2 bP a b c d e f g s Q w) h0 round
end
section
variable(bP:Bool)(a:OA)(b c:Nat)(d:Int)(e:OA)(f g i:Int)(K:KT)(w:World)
def bA.jJ:Prop:=
 Split (decide (g>i)) (let j:=w.drew;(0<=d/\d<(b:Int))/\Is a λk:Addr=>∃m:AV,cS j (k.add (d.toNat*32)) m/\(0<=i/\i<(b:Int))/\Is a λn:Addr=>∃o:AV,cS j (n.add (i.toNat*32)) o/\(0<=i/\i<(b:Int))/\Is a λp:Addr=>(m.size=32/\(∀q∈m.toList,q.oneCell'=true)/\∀r,r<32->Wr j ((p.add (i.toNat*32)).add r))/\let t:=setCells j (p.add (i.toNat*32)) m.toList 0;(0<=d/\d<(b:Int))/\Is a λu:Addr=>(o.size=32/\(∀v∈o.toList,v.oneCell'=true)/\∀x,x<32->Wr t ((u.add (d.toNat*32)).add x))/\let y:=setCells t (u.add (d.toNat*32)) o.toList 0;K (.tuple #[ag i,.bool true]) y) (let z:=w.drew;(0<=i/\i<(b:Int))/\Is a λa1:Addr=>∃b1:AV,cS z (a1.add (i.toNat*32)) b1/\(0<=g/\g<(b:Int))/\Is a λc1:Addr=>∃d1:AV,cS z (c1.add (g.toNat*32)) d1/\(0<=g/\g<(b:Int))/\Is a λe1:Addr=>(b1.size=32/\(∀f1∈b1.toList,f1.oneCell'=true)/\∀g1,g1<32->Wr z ((e1.add (g.toNat*32)).add g1))/\let i1:=setCells z (e1.add (g.toNat*32)) b1.toList 0;(0<=i/\i<(b:Int))/\Is a λj1:Addr=>(d1.size=32/\(∀k1∈d1.toList,k1.oneCell'=true)/\∀m1,m1<32->Wr i1 ((j1.add (i.toNat*32)).add m1))/\let n1:=setCells i1 (j1.add (i.toNat*32)) d1.toList 0;cO 178 (.loop (lB (bB (sL (gR (sR (body f134))))))) (bA.q3 K) [(0,ao a b c),(1,ag d),(4,CL bP e),(10,ag f),(11,.bool false),(12,ag (i64.wrap (g+(1:Int)))),(13,ag (i64.wrap (i-(1:Int))))] n1)
theorem bA.lA:(bA.q2 K (.exit 2) [(0,ao a b c),(1,ag d),(4,CL bP e),(10,ag f),(11,.bool false),(12,ag g),(13,ag i)] w)=bA.jJ bP a b c d e f g i K w:=by cases bP<;>kernel_rfl
end
section
variable(bP:Bool)(a:OA)(b c:Nat)(d:Int)(e:OA)(f g i:Int)(Q:aZ)(w:World)
def bA.B3:Prop:=
 cO 178 (.loop (lB (bB (sL (bB (lB (bB (sL (gR (sR (body f134))))))))))) (bA.q4 Q) [(0,ao a b c),(1,ag d),(4,CL bP e),(10,ag f),(11,.bool false),(12,ag g),(13,ag i)] w
theorem bA.b3:(bz none [] prog 178 bA.k (lB (bB (sL (gR (sR (body f134)))))) bA.u3 Q [(0,ao a b c),(1,ag d),(4,CL bP e),(10,ag f),(11,.bool false),(12,ag g),(13,ag i)] w)=bA.B3 bP a b c d e f g i Q w:=by cases bP<;>kernel_rfl
variable{bP a b c d e f}
theorem bA.xg(I:Int×Int->World->Prop)(μ:Int×Int->World->Nat)(s:Int×Int){Q:aZ}{w:World}(h0:I s w)
 (round:∀s w,I s w->bA.B3 bP a b c d e f (s.1) (s.2) (b7 (bA.e3 bP a b c d e f) I μ s w Q) w):cO 178 (.loop (lB (bB (sL (gR (sR (body f134))))))) Q (bA.e3 bP a b c d e f s) w:=
 bI ng mix (bA.e3 bP a b c d e f) I μ bA.k bA.u3 s (λs Q w=>bA.B3 bP a b c d e f (s.1) (s.2) Q w) (λs Q w=>bA.b3 bP a b c d e f (s.1) (s.2) Q w) h0 round
end
section
variable(bP:Bool)(a:OA)(b c:Nat)(d:Int)(e:OA)(f g i:Int)(Q:aZ)(w:World)
def bA.B4:Prop:=
 let j:=w.drew;Split (decide (g<=i)) ((0<=g/\g<(b:Int))/\Is a λk:Addr=>∃m:AV,cS j (k.add (g.toNat*32)) m/\(0<=d/\d<(b:Int))/\Is a λn:Addr=>∃o:AV,cS j (n.add (d.toNat*32)) o/\bJ prog (CF bP) (CA bP e m o) j λp q=>∃r:Int,p=ag r/\Split (decide (r<(0:Int))) (Q .normal [(0,ao a b c),(1,ag d),(4,CL bP e),(10,ag f),(11,.bool false),(12,ag (i64.wrap (g+(1:Int)))),(13,ag i)] q) (Q (.exit 6) [(0,ao a b c),(1,ag d),(4,CL bP e),(10,ag f),(11,.bool false),(12,ag g),(13,ag i)] q)) (Q (.exit 6) [(0,ao a b c),(1,ag d),(4,CL bP e),(10,ag f),(11,.bool false),(12,ag g),(13,ag i)] j)
theorem bA.b4:(bz none [] prog 178 bA.k (lB (bB (sL (bB (lB (bB (sL (gR (sR (body f134)))))))))) bA.u4 Q [(0,ao a b c),(1,ag d),(4,CL bP e),(10,ag f),(11,.bool false),(12,ag g),(13,ag i)] w)=bA.B4 bP a b c d e f g i Q w:=by cases bP<;>kernel_rfl
variable{bP a b c d e f i}
theorem bA.Ka(I:Int->World->Prop)(μ:Int->World->Nat)(s:Int){Q:aZ}{w:World}(h0:I s w)
 (round:∀s w,I s w->bA.B4 bP a b c d e f s i (b7 (bA.e4 bP a b c d e f i) I μ s w Q) w):cO 178 (.loop (lB (bB (sL (bB (lB (bB (sL (gR (sR (body f134))))))))))) Q (bA.e4 bP a b c d e f i s) w:=
 bI ng mix (bA.e4 bP a b c d e f i) I μ bA.k bA.u4 s (λs Q w=>bA.B4 bP a b c d e f s i Q w) (λs Q w=>bA.b4 bP a b c d e f s i Q w) h0 round
end
section
variable(bP:Bool)(a:OA)(b c:Nat)(d:Int)(e:OA)(f g i:Int)(Q:aZ)(w:World)
def bA.FC:Prop:=
 cO 178 (.loop (lB (bB (sL (sR (bB (lB (bB (sL (gR (sR (body f134)))))))))))) (bA.q5 Q) [(0,ao a b c),(1,ag d),(4,CL bP e),(10,ag f),(11,.bool false),(12,ag g),(13,ag i)] w
theorem bA.Jl:(bA.q4 Q (.exit 6) [(0,ao a b c),(1,ag d),(4,CL bP e),(10,ag f),(11,.bool false),(12,ag g),(13,ag i)] w)=bA.FC bP a b c d e f g i Q w:=by cases bP<;>kernel_rfl
end
section
variable(bP:Bool)(a:OA)(b c:Nat)(d:Int)(e:OA)(f g i:Int)(Q:aZ)(w:World)
def bA.B5:Prop:=
 let j:=w.drew;Split (decide (g<=i)) ((0<=i/\i<(b:Int))/\Is a λk:Addr=>∃m:AV,cS j (k.add (i.toNat*32)) m/\(0<=d/\d<(b:Int))/\Is a λn:Addr=>∃o:AV,cS j (n.add (d.toNat*32)) o/\bJ prog (CF bP) (CA bP e m o) j λp q=>∃r:Int,p=ag r/\Split (!(decide (r<(0:Int)))) (Q .normal [(0,ao a b c),(1,ag d),(4,CL bP e),(10,ag f),(11,.bool false),(12,ag g),(13,ag (i64.wrap (i-(1:Int))))] q) (Q (.exit 8) [(0,ao a b c),(1,ag d),(4,CL bP e),(10,ag f),(11,.bool false),(12,ag g),(13,ag i)] q)) (Q (.exit 8) [(0,ao a b c),(1,ag d),(4,CL bP e),(10,ag f),(11,.bool false),(12,ag g),(13,ag i)] j)
theorem bA.b5:(bz none [] prog 178 bA.k (lB (bB (sL (sR (bB (lB (bB (sL (gR (sR (body f134))))))))))) bA.u5 Q [(0,ao a b c),(1,ag d),(4,CL bP e),(10,ag f),(11,.bool false),(12,ag g),(13,ag i)] w)=bA.B5 bP a b c d e f g i Q w:=by cases bP<;>kernel_rfl
variable{bP a b c d e f g}
theorem bA.V8(I:Int->World->Prop)(μ:Int->World->Nat)(s:Int){Q:aZ}{w:World}(h0:I s w)
 (round:∀s w,I s w->bA.B5 bP a b c d e f g s (b7 (bA.e5 bP a b c d e f g) I μ s w Q) w):cO 178 (.loop (lB (bB (sL (sR (bB (lB (bB (sL (gR (sR (body f134)))))))))))) Q (bA.e5 bP a b c d e f g s) w:=
 bI ng mix (bA.e5 bP a b c d e f g) I μ bA.k bA.u5 s (λs Q w=>bA.B5 bP a b c d e f g s Q w) (λs Q w=>bA.b5 bP a b c d e f g s Q w) h0 round
end
section
variable(bP:Bool)(a:OA)(b c:Nat)(d:Int)(e:OA)(f g i:Int)(Q:aZ)(w:World)
def bA.T8:Prop:=
 Split (decide (g>i)) (Q (.exit 4) [(0,ao a b c),(1,ag d),(4,CL bP e),(10,ag f),(11,.bool false),(12,ag g),(13,ag i)] w) (let j:=w.drew;(0<=i/\i<(b:Int))/\Is a λk:Addr=>∃m:AV,cS j (k.add (i.toNat*32)) m/\(0<=g/\g<(b:Int))/\Is a λn:Addr=>∃o:AV,cS j (n.add (g.toNat*32)) o/\(0<=g/\g<(b:Int))/\Is a λp:Addr=>(m.size=32/\(∀q∈m.toList,q.oneCell'=true)/\∀r,r<32->Wr j ((p.add (g.toNat*32)).add r))/\let t:=setCells j (p.add (g.toNat*32)) m.toList 0;(0<=i/\i<(b:Int))/\Is a λu:Addr=>(o.size=32/\(∀v∈o.toList,v.oneCell'=true)/\∀x,x<32->Wr t ((u.add (i.toNat*32)).add x))/\let y:=setCells t (u.add (i.toNat*32)) o.toList 0;Q .normal [(0,ao a b c),(1,ag d),(4,CL bP e),(10,ag f),(11,.bool false),(12,ag (i64.wrap (g+(1:Int)))),(13,ag (i64.wrap (i-(1:Int))))] y)
theorem bA.Vk:(bA.q5 Q (.exit 8) [(0,ao a b c),(1,ag d),(4,CL bP e),(10,ag f),(11,.bool false),(12,ag g),(13,ag i)] w)=bA.T8 bP a b c d e f g i Q w:=by cases bP<;>kernel_rfl
end
section
def bA.yV(a:OA)(b c:Nat)(d:Int)(e:OA)(f g i:Int)(K:KT)(w:World):Prop:=
 let j:=w.drew;(0<=d/\d<(b:Int))/\Is a λk:Addr=>∃m:AV,cS j (k.add (d.toNat*32)) m/\(0<=i/\i<(b:Int))/\Is a λn:Addr=>∃o:AV,cS j (n.add (i.toNat*32)) o/\(0<=i/\i<(b:Int))/\Is a λp:Addr=>(m.size=32/\(∀q∈m.toList,q.oneCell'=true)/\∀r,r<32->Wr j ((p.add (i.toNat*32)).add r))/\let t:=setCells j (p.add (i.toNat*32)) m.toList 0;(0<=d/\d<(b:Int))/\Is a λu:Addr=>(o.size=32/\(∀v∈o.toList,v.oneCell'=true)/\∀x,x<32->Wr t ((u.add (d.toNat*32)).add x))/\let y:=setCells t (u.add (d.toNat*32)) o.toList 0;K (.tuple #[ag i,.bool false]) y
variable(bP:Bool)(a:OA)(b c:Nat)(d:Int)(e:OA)(f g i:Int)(K:KT)(w:World)
theorem bA.DF:(bA.q3 K (.exit 4) [(0,ao a b c),(1,ag d),(4,CL bP e),(10,ag f),(11,.bool false),(12,ag g),(13,ag i)] w)=bA.yV a b c d e f g i K w:=by cases bP<;>kernel_rfl
end
def cJ.k:List Nat:= [5,6]
def cJ.q1(K:KT):aZ:=(aW 0 (bn f152) (cy prog f152 K))
def cJ.e1(bP:Bool)(a:OA)(b c:Nat)(d e:Int)(f:OA)(s:Int):Env:= [(0,ao a b c),(2,ag d),(3,ag e),(4,CL bP f),(10,ag s)]
def cJ.u1:List Nat:= [0,2,3,4,10]
section
variable(bP:Bool)(a:OA)(b d:Nat)(e f g:Int)(i:OA)(K:KT)(w:World)
def cJ.W:Prop:=
 cO 82 (.loop (lB (bB (sR (body f152))))) (cJ.q1 K) [(0,ao a b d),(2,ag f),(3,ag g),(4,CL bP i),(10,ag e)] w
variable{bP a b d e f g i K w}
theorem cJ.of(h:cJ.W bP a b d e f g i K w):bJ prog 152 #[ao a b d,ag e,ag f,ag g,CL bP i] w K:=
 by cases bP<;>exact rqq func152 (C:=cJ.k) h
end
section
variable(bP:Bool)(a:OA)(b c:Nat)(d e:Int)(f:OA)(g:Int)(Q:aZ)(w:World)
def cJ.B1:Prop:=
 Split (decide ((i64.wrap ((i64.wrap ((2:Int)*g))+(1:Int)))>=d)) (Q (.exit 0) [(0,ao a b c),(2,ag d),(3,ag e),(4,CL bP f),(10,ag g),(11,ag (i64.wrap ((i64.wrap ((2:Int)*g))+(1:Int))))] w) (let i:=w.drew;Split (decide ((i64.wrap ((i64.wrap ((i64.wrap ((2:Int)*g))+(1:Int)))+(1:Int)))<d)) ((0<=(i64.wrap (e+(i64.wrap ((i64.wrap ((2:Int)*g))+(1:Int)))))/\(i64.wrap (e+(i64.wrap ((i64.wrap ((2:Int)*g))+(1:Int)))))<(b:Int))/\Is a λj:Addr=>∃k:AV,(k.size=32/\Cells i (j.add ((i64.wrap (e+(i64.wrap ((i64.wrap ((2:Int)*g))+(1:Int))))).toNat*32)) k)/\(0<=(i64.wrap ((i64.wrap (e+(i64.wrap ((i64.wrap ((2:Int)*g))+(1:Int)))))+(1:Int)))/\(i64.wrap ((i64.wrap (e+(i64.wrap ((i64.wrap ((2:Int)*g))+(1:Int)))))+(1:Int)))<(b:Int))/\Is a λm:Addr=>∃n:AV,(n.size=32/\Cells i (m.add ((i64.wrap ((i64.wrap (e+(i64.wrap ((i64.wrap ((2:Int)*g))+(1:Int)))))+(1:Int))).toNat*32)) n)/\bJ prog (CF bP) (CA bP f k n) i λo p=>∃q:Int,o=ag q/\Split (decide (q<(0:Int))) (cO 82 (bf (sR (bB (lB (bB (sR (body f152))))))) (aW 1 cJ.u1 Q) [(0,ao a b c),(2,ag d),(3,ag e),(4,CL bP f),(10,ag g),(11,ag (i64.wrap ((i64.wrap ((i64.wrap ((2:Int)*g))+(1:Int)))+(1:Int))))] p) (cO 82 (bf (sR (bB (lB (bB (sR (body f152))))))) (aW 1 cJ.u1 Q) [(0,ao a b c),(2,ag d),(3,ag e),(4,CL bP f),(10,ag g),(11,ag (i64.wrap ((i64.wrap ((2:Int)*g))+(1:Int))))] p)) (cO 82 (bf (sR (bB (lB (bB (sR (body f152))))))) (aW 1 cJ.u1 Q) [(0,ao a b c),(2,ag d),(3,ag e),(4,CL bP f),(10,ag g),(11,ag (i64.wrap ((i64.wrap ((2:Int)*g))+(1:Int))))] i))
theorem cJ.b1:(bz none [] prog 82 cJ.k (lB (bB (sR (body f152)))) cJ.u1 Q [(0,ao a b c),(2,ag d),(3,ag e),(4,CL bP f),(10,ag g)] w)=cJ.B1 bP a b c d e f g Q w:=by cases bP<;>kernel_rfl
variable{bP a b c d e f}
theorem cJ.cP(I:Int->World->Prop)(μ:Int->World->Nat)(s:Int){Q:aZ}{w:World}(h0:I s w)
 (round:∀s w,I s w->cJ.B1 bP a b c d e f s (b7 (cJ.e1 bP a b c d e f) I μ s w Q) w):cO 82 (.loop (lB (bB (sR (body f152))))) Q (cJ.e1 bP a b c d e f s) w:=
 bI ng mix (cJ.e1 bP a b c d e f) I μ cJ.k cJ.u1 s (λs Q w=>cJ.B1 bP a b c d e f s Q w) (λs Q w=>cJ.b1 bP a b c d e f s Q w) h0 round
end
section
def cJ.dA(a:OA)(b c:Nat)(d e:Int)(f:OA)(g i:Int)(K:KT)(w:World):Prop:=
 K (.tuple #[]) w
variable(bP:Bool)(a:OA)(b c:Nat)(d e:Int)(f:OA)(g i:Int)(K:KT)(w:World)
theorem cJ.dJ:(cJ.q1 K (.exit 0) [(0,ao a b c),(2,ag d),(3,ag e),(4,CL bP f),(10,ag g),(11,ag i)] w)=cJ.dA a b c d e f g i K w:=by cases bP<;>kernel_rfl
end
section
variable(bP:Bool)(a:OA)(b c:Nat)(d e:Int)(f:OA)(g i:Int)(Q:aZ)(w:World)
def cJ.J1:Prop:=
 let j:=w.drew;(0<=(i64.wrap (e+g))/\(i64.wrap (e+g))<(b:Int))/\Is a λk:Addr=>∃m:AV,cS j (k.add ((i64.wrap (e+g)).toNat*32)) m/\(0<=(i64.wrap (e+i))/\(i64.wrap (e+i))<(b:Int))/\Is a λn:Addr=>∃o:AV,cS j (n.add ((i64.wrap (e+i)).toNat*32)) o/\bJ prog (CF bP) (CA bP f m o) j λp q=>∃r:Int,p=ag r/\Split (!(decide (r<(0:Int)))) (Q .ret [(0,ao a b c),(2,ag d),(3,ag e),(4,CL bP f),(10,ag g),(11,ag i)] q) (cO 82 (dc (bB (lB (bB (sR (body f152)))))) (aW 1 cJ.u1 Q) [(0,ao a b c),(2,ag d),(3,ag e),(4,CL bP f),(10,ag g),(11,ag i)] q)
theorem cJ.j1:(bz none [] prog 82 cJ.k (bf (sR (bB (lB (bB (sR (body f152))))))) cJ.u1 (aW 1 cJ.u1 Q) [(0,ao a b c),(2,ag d),(3,ag e),(4,CL bP f),(10,ag g),(11,ag i)] w)=cJ.J1 bP a b c d e f g i Q w:=by cases bP<;>kernel_rfl
variable{bP a b c d e f g i Q w}
theorem cJ.lR(h:cJ.J1 bP a b c d e f g i Q w):cO 82 (bf (sR (bB (lB (bB (sR (body f152))))))) (aW 1 cJ.u1 Q) [(0,ao a b c),(2,ag d),(3,ag e),(4,CL bP f),(10,ag g),(11,ag i)] w:=
 dG (C:=cJ.k) ng mix (cJ.j1 bP a b c d e f g i Q w) h
end
section
variable(bP:Bool)(a:OA)(b c:Nat)(d e:Int)(f:OA)(g i:Int)(Q:aZ)(w:World)
def cJ.J2:Prop:=
 let j:=w.drew;(0<=(i64.wrap (e+i))/\(i64.wrap (e+i))<(b:Int))/\Is a λk:Addr=>∃m:AV,cS j (k.add ((i64.wrap (e+i)).toNat*32)) m/\(0<=(i64.wrap (e+g))/\(i64.wrap (e+g))<(b:Int))/\Is a λn:Addr=>∃o:AV,cS j (n.add ((i64.wrap (e+g)).toNat*32)) o/\(0<=(i64.wrap (e+g))/\(i64.wrap (e+g))<(b:Int))/\Is a λp:Addr=>(m.size=32/\(∀q∈m.toList,q.oneCell'=true)/\∀r,r<32->Wr j ((p.add ((i64.wrap (e+g)).toNat*32)).add r))/\let t:=setCells j (p.add ((i64.wrap (e+g)).toNat*32)) m.toList 0;(0<=(i64.wrap (e+i))/\(i64.wrap (e+i))<(b:Int))/\Is a λu:Addr=>(o.size=32/\(∀v∈o.toList,v.oneCell'=true)/\∀x,x<32->Wr t ((u.add ((i64.wrap (e+i)).toNat*32)).add x))/\let y:=setCells t (u.add ((i64.wrap (e+i)).toNat*32)) o.toList 0;Q .normal [(0,ao a b c),(2,ag d),(3,ag e),(4,CL bP f),(10,ag i)] y
theorem cJ.j2:(bz none [] prog 82 cJ.k (dc (bB (lB (bB (sR (body f152)))))) cJ.u1 (aW 1 cJ.u1 Q) [(0,ao a b c),(2,ag d),(3,ag e),(4,CL bP f),(10,ag g),(11,ag i)] w)=cJ.J2 bP a b c d e f g i Q w:=by cases bP<;>kernel_rfl
variable{bP a b c d e f g i Q w}
theorem cJ.sG(h:cJ.J2 bP a b c d e f g i Q w):cO 82 (dc (bB (lB (bB (sR (body f152)))))) (aW 1 cJ.u1 Q) [(0,ao a b c),(2,ag d),(3,ag e),(4,CL bP f),(10,ag g),(11,ag i)] w:=
 dG (C:=cJ.k) ng mix (cJ.j2 bP a b c d e f g i Q w) h
end
section
variable(bP:Bool)(a:OA)(b d:Nat)(e:Int)(f g:OA)(K:KT)(w:World)
variable{bP a b d e f g K w}
end
def uC.k:List Nat:= []
section
variable(bP:Bool)(a:OA)(b d:Nat)(e f g:Int)(i j:OA)(K:KT)(w:World)
def uC.W:Prop:=
 bJ prog 163 #[ao a b d,ag e,ag f,au i,CL bP j] w λk m=>∃n o:Int,k=.tuple #[ag n,ag o]/\bJ prog 163 #[ao a b d,ag o,ag g,au i,CL bP j] m λp q=>∃r t:Int,p=.tuple #[ag r,ag t]/\bJ prog 163 #[ao a b d,ag n,ag r,au i,CL bP j] q λu v=>∃x y:Int,u=.tuple #[ag x,ag y]/\K (ag y) v
variable{bP a b d e f g i j K w}
theorem uC.of(h:uC.W bP a b d e f g i j K w):bJ prog 156 #[ao a b d,ag e,ag f,ag g,au i,CL bP j] w K:=
 by cases bP<;>exact rqq func156 (C:=uC.k) h
end
def uB.k:List Nat:= []
section
def uB.W(bP:Bool)(a:OA)(b d:Nat)(e f:Int)(g i:OA)(K:KT)(w:World):Prop:=
 let j:=w.drew;(0<=f/\f<(b:Int))/\Is a λk:Addr=>∃m:AV,cS j (k.add (f.toNat*32)) m/\(0<=e/\e<(b:Int))/\Is a λn:Addr=>∃o:AV,cS j (n.add (e.toNat*32)) o/\bJ prog (CF bP) (CA bP i m o) j λp q=>∃r:Int,p=ag r/\Split (decide (r<(0:Int))) (Is g λt:Addr=>∃u:Int,q.cell? t=some (ag u)/\Is g λv:Addr=>Wr q v/\let x:=q.setCell v (ag (i64.wrap (u+(1:Int))));K (.tuple #[ag f,ag e]) x) (K (.tuple #[ag e,ag f]) q)
variable(bP:Bool)(a:OA)(b d:Nat)(e f:Int)(g i:OA)(K:KT)(w:World)
variable{bP a b d e f g i K w}
theorem uB.of(h:uB.W bP a b d e f g i K w):bJ prog 163 #[ao a b d,ag e,ag f,au g,CL bP i] w K:=
 by cases bP<;>exact rqq func163 (C:=uB.k) h
end
end Go.Proofs.YtfleamccglihoaaGreatDoor
