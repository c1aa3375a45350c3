import Derived.Test.YtfleamccglihoaaGreatDoorProg
import Derived.Test.YtfleamccglihoaaGreatDoorMA
import Derived.Test.YtfleamccglihoaaGreatDoorMB
open Go.IntKind (i64 u64)
set_option linter.unusedVariables false
namespace Go.Proofs.YtfleamccglihoaaGreatDoor
open Go.Proofs.Tryz
open Go Go.cF
def iQ.k:List Nat:= []
section
variable(a:OA)(b:Int)(K:KT)(w:World)
def iQ.W:Prop:=
 bJ prog 147 #[au a,ag b] w λd e=>∃f:Int,d=ag f/\Split (f != (0:Int)) (K (.tuple #[ag 0,ag f]) e) (Is a λg:Addr=>∃i:OA,∃j k:Nat,e.cell? (g.add 0)=some (ao i j k)/\Is a λm:Addr=>∃n:OA,∃o p:Nat,e.cell? (m.add 0)=some (ao n o p)/\5=5/\let q:=e.alloc (.cells #[ag b,ao none 0 0,.int .u64 0,.int .u64 0,.int .u64 0] 199);∃(r:OA) (t u:Nat) (v:World),(Builtin.append_ #[195,195] 195 #[ao n o p,ao (some (⟨e.heap.size,0,none⟩:Addr)) 1 1]).run prog q=.ok (ao r t u) v/\Is a λx:Addr=>Wr v (x.add 0)/\let y:=v.setCell (x.add 0) (ao r t u);let z:=y.drew;Is a λa1:Addr=>∃b1:OA,∃c1 d1:Nat,z.cell? (a1.add 0)=some (ao b1 c1 d1)/\Is a λe1:Addr=>∃f1:OA,∃g1 i1:Nat,z.cell? (e1.add 0)=some (ao f1 g1 i1)/\(0<=b/\b<(g1:Int))/\Is f1 λj1:Addr=>∃k1:OA,∃m1 n1:Nat,z.cell? ((j1.add (b.toNat*5)).add 1)=some (ao k1 m1 n1)/\let o1:=z.alloc (.cells #[ag (j:Int)] 3);o1.cell? ((j1.add (b.toNat*5)).add 1)=some (ao k1 m1 n1)/\o1.cell? (e1.add 0)=some (ao f1 g1 i1)/\o1.cell? (a1.add 0)=some (ao b1 c1 d1)/\∃(p1:OA) (q1 r1:Nat) (t1:World),(Builtin.append_ #[186,186] 186 #[ao k1 m1 n1,ao (some (⟨z.heap.size,0,none⟩:Addr)) 1 1]).run prog o1=.ok (ao p1 q1 r1) t1/\t1.cell? (a1.add 0)=some (ao b1 c1 d1)/\(0<=b/\b<(c1:Int))/\Is b1 λu1:Addr=>Wr t1 ((u1.add (b.toNat*5)).add 1)/\let v1:=t1.setCell ((u1.add (b.toNat*5)).add 1) (ao p1 q1 r1);bJ prog 148 #[au a,ag b] v1 λx1 y1=>∃z1:Int,x1=.int .u64 z1/\Split (decide (z1>(0:Int))) ((2:Int)≠0/\bJ prog 149 #[au a,ag (j:Int),.int .u64 (u64.wrap ((u64.wrap (z1+(1:Int))).tdiv (2:Int)))] y1 λa2 b2=>a2=.tuple #[]/\K (.tuple #[ag (j:Int),ag 0]) b2) (bJ prog 150 #[au a,ag b] y1 λc2 d2=>c2=.tuple #[]/\K (.tuple #[ag (j:Int),ag 0]) d2))
variable{a b K w}
theorem iQ.of(h:iQ.W a b K w):bJ prog 120 #[au a,ag b] w K:=
 rqq func120 (C:=iQ.k) h
end
def fZ.k:List Nat:= []
section
variable(K:KT)(w:World)
def fZ.W:Prop:=
 5=5/\let a:=w.alloc (.cells #[ag (-1),ao none 0 0,.int .u64 1,.int .u64 4611686018427387904,.int .u64 1] 199);let b:=a.alloc (.cells (#[ao (some (⟨w.heap.size,0,none⟩:Addr)) 1 1,ag 0]:AV) 197);K (au (some (⟨a.heap.size,0,none⟩:Addr))) b
variable{K w}
theorem fZ.of(h:fZ.W K w):bJ prog 123 #[] w K:=
 rqq func123 (C:=fZ.k) h
end
def gM.k:List Nat:= []
section
variable(a:OA)(b d:Int)(K:KT)(w:World)
def gM.W:Prop:=
 let e:=w.drew;bJ prog 151 #[au a,ag b] e λf g=>∃i:Bool,f=.bool i/\Split i (bJ prog 151 #[au a,ag d] g λj k=>∃m:Bool,j=.bool m/\Split m (Is a λn:Addr=>∃o:OA,∃p q:Nat,k.cell? (n.add 0)=some (ao o p q)/\(0<=d/\d<(p:Int))/\Is o λr:Addr=>∃t:Int,k.cell? ((r.add (d.toNat*5)).add 2)=some (.int .u64 t)/\Is a λu:Addr=>∃v:OA,∃x y:Nat,k.cell? (u.add 0)=some (ao v x y)/\(0<=b/\b<(x:Int))/\Is v λz:Addr=>∃a1:Int,k.cell? ((z.add (b.toNat*5)).add 2)=some (.int .u64 a1)/\Split (decide (t<=a1)) (Is a λb1:Addr=>∃c1:OA,∃d1 e1:Nat,k.cell? (b1.add 0)=some (ao c1 d1 e1)/\(0<=b/\b<(d1:Int))/\Is c1 λf1:Addr=>∃g1:Int,k.cell? ((f1.add (b.toNat*5)).add 3)=some (.int .u64 g1)/\Is a λi1:Addr=>∃j1:OA,∃k1 m1:Nat,k.cell? (i1.add 0)=some (ao j1 k1 m1)/\(0<=d/\d<(k1:Int))/\Is j1 λn1:Addr=>∃o1:Int,k.cell? ((n1.add (d.toNat*5)).add 3)=some (.int .u64 o1)/\K (.bool (decide (g1<=o1))) k) (K (.bool false) k)) (K (.bool false) k)) (K (.bool false) g)
variable{a b d K w}
theorem gM.of(h:gM.W a b d K w):bJ prog 126 #[au a,ag b,ag d] w K:=
 rqq func126 (C:=gM.k) h
end
def gS.k:List Nat:= []
section
variable(a:OA)(b:Int)(K:KT)(w:World)
def gS.W:Prop:=
 bJ prog 147 #[au a,ag b] w λd e=>∃f:Int,d=ag f/\Split (f==(0:Int)) (Split (b==(0:Int)) (Split ((6:Int) != (0:Int)) (K (.tuple #[ag 0,ag 6]) e) (Is a λg:Addr=>∃i:OA,∃j k:Nat,e.cell? (g.add 0)=some (ao i j k)/\(0<=b/\b<(j:Int))/\Is i λm:Addr=>∃n:Int,e.cell? ((m.add (b.toNat*5)).add 0)=some (ag n)/\K (.tuple #[ag n,ag 0]) e)) (Split (f != (0:Int)) (K (.tuple #[ag 0,ag f]) e) (Is a λo:Addr=>∃p:OA,∃q r:Nat,e.cell? (o.add 0)=some (ao p q r)/\(0<=b/\b<(q:Int))/\Is p λt:Addr=>∃u:Int,e.cell? ((t.add (b.toNat*5)).add 0)=some (ag u)/\K (.tuple #[ag u,ag 0]) e))) (Split (f != (0:Int)) (K (.tuple #[ag 0,ag f]) e) (Is a λv:Addr=>∃x:OA,∃y z:Nat,e.cell? (v.add 0)=some (ao x y z)/\(0<=b/\b<(y:Int))/\Is x λa1:Addr=>∃b1:Int,e.cell? ((a1.add (b.toNat*5)).add 0)=some (ag b1)/\K (.tuple #[ag b1,ag 0]) e))
variable{a b K w}
theorem gS.of(h:gS.W a b K w):bJ prog 142 #[au a,ag b] w K:=
 rqq func142 (C:=gS.k) h
end
def iP.k:List Nat:= []
section
variable(a:OA)(b:Int)(K:KT)(w:World)
def iP.W:Prop:=
 Split ((a).isNone) (K (ag 1) w) (Is a λd:Addr=>∃e:OA,∃f g:Nat,w.cell? (d.add 0)=some (ao e f g)/\Split ((f:Int)==(0:Int)) (K (ag 1) w) (bJ prog 151 #[au a,ag b] w λi j=>∃k:Bool,i=.bool k/\Split (!k) (K (ag 6) j) (K (ag 0) j)))
variable{a b K w}
theorem iP.of(h:iP.W a b K w):bJ prog 147 #[au a,ag b] w K:=
 rqq func147 (C:=iP.k) h
end
def ir.k:List Nat:= []
section
variable(a:OA)(b:Int)(K:KT)(w:World)
def ir.W:Prop:=
 let d:=w.drew;Is a λe:Addr=>∃f:OA,∃g i:Nat,d.cell? (e.add 0)=some (ao f g i)/\(0<=b/\b<(g:Int))/\Is f λj:Addr=>∃k:Int,d.cell? ((j.add (b.toNat*5)).add 3)=some (.int .u64 k)/\Is a λm:Addr=>∃n:OA,∃o p:Nat,d.cell? (m.add 0)=some (ao n o p)/\(0<=b/\b<(o:Int))/\Is n λq:Addr=>∃r:Int,d.cell? ((q.add (b.toNat*5)).add 4)=some (.int .u64 r)/\K (.int .u64 (u64.wrap (k-r))) d
variable{a b K w}
theorem ir.of(h:ir.W a b K w):bJ prog 148 #[au a,ag b] w K:=
 rqq func148 (C:=ir.k) h
end
def iu.k:List Nat:= []
section
variable(a:OA)(b d:Int)(K:KT)(w:World)
def iu.W:Prop:=
 Is a λe:Addr=>∃f:OA,∃g i:Nat,w.cell? (e.add 0)=some (ao f g i)/\(0<=b/\b<(g:Int))/\Is f λj:Addr=>let k:=w.drew;Is a λm:Addr=>∃n:OA,∃o p:Nat,k.cell? (m.add 0)=some (ao n o p)/\∃q:Int,k.cell? ((j.add (b.toNat*5)).add 0)=some (ag q)/\(0<=q/\q<(o:Int))/\Is n λr:Addr=>∃t:Int,k.cell? ((r.add (q.toNat*5)).add 4)=some (.int .u64 t)/\Wr k ((j.add (b.toNat*5)).add 2)/\let u:=k.setCell ((j.add (b.toNat*5)).add 2) (.int .u64 t);∃v:Int,u.cell? ((j.add (b.toNat*5)).add 2)=some (.int .u64 v)/\Wr u ((j.add (b.toNat*5)).add 3)/\let x:=u.setCell ((j.add (b.toNat*5)).add 3) (.int .u64 (u64.wrap ((u64.wrap (v+d))-(1:Int))));∃y:Int,x.cell? ((j.add (b.toNat*5)).add 2)=some (.int .u64 y)/\Wr x ((j.add (b.toNat*5)).add 4)/\let z:=x.setCell ((j.add (b.toNat*5)).add 4) (.int .u64 y);∃a1:Int,z.cell? ((r.add (q.toNat*5)).add 4)=some (.int .u64 a1)/\Wr z ((r.add (q.toNat*5)).add 4)/\let b1:=z.setCell ((r.add (q.toNat*5)).add 4) (.int .u64 (u64.wrap (a1+d)));K (.tuple #[]) b1
variable{a b d K w}
theorem iu.of(h:iu.W a b d K w):bJ prog 149 #[au a,ag b,.int .u64 d] w K:=
 rqq func149 (C:=iu.k) h
end
def jN.k:List Nat:= []
section
variable(a:OA)(b:Int)(K:KT)(w:World)
def jN.W:Prop:=
 Split (!(a).isNone) (Split (decide (b>=(0:Int))) (Is a λd:Addr=>∃e:OA,∃f g:Nat,w.cell? (d.add 0)=some (ao e f g)/\K (.bool (decide (b<(f:Int)))) w) (K (.bool false) w)) (K (.bool false) w)
variable{a b K w}
theorem jN.of(h:jN.W a b K w):bJ prog 151 #[au a,ag b] w K:=
 rqq func151 (C:=jN.k) h
end
def bits_LeadingZeros64.k:List Nat:= []
section
variable(a:Int)(K:KT)(w:World)
def bits_LeadingZeros64.W:Prop:=
 bJ prog 136 #[.int .u64 a] w λb d=>∃e:Int,b=ag e/\K (ag (i64.wrap ((64:Int)-e))) d
variable{a K w}
theorem bits_LeadingZeros64.of(h:bits_LeadingZeros64.W a K w):bJ prog 164 #[.int .u64 a] w K:=
 rqq func164 (C:=bits_LeadingZeros64.k) h
end
def aJ.k:List Nat:= []
def aJ.q1(K:KT):aZ:=(aW 0 (dd (bf (sR (body f150)))++(bn f150)) (cH (λcM w_=>match cutAt aJ.k (bf (sR (body f150)))with|true=>cO 164 (bf (sR (body f150))) (cy prog f150 K) cM w_|false=>bz none [] prog 164 aJ.k (bf (sR (body f150))) (bn f150) (cy prog f150 K) cM w_) (cy prog f150 K)))
def aJ.e1(a b:OA)(c d:Nat)(s:Int):Env:= [(0,au a),(1,ag s),(4,ao b c d)]
def aJ.u1:List Nat:= [0,1,4]
def aJ.q2(K:KT):aZ:=(aW 2 (bn f150) (cy prog f150 K))
def aJ.e2(a b:OA)(c d:Nat)(s:(OA)×Nat×Nat×Int):Env:= [(0,au a),(4,ao b c d),(5,ao s.1 s.2.1 s.2.2.1),(6,ag s.2.2.2)]
def aJ.u2:List Nat:= [0,4,5,6]
def aJ.q3(Q:aZ):aZ:=(aW 4 (dd (bf (lB (bB (dc (sR (body f150))))))++aJ.u2) (aW 3 (dd (bf (lB (bB (dc (sR (body f150))))))++aJ.u2) (cH (λcM w_=>match cutAt aJ.k (bf (lB (bB (dc (sR (body f150))))))with|true=>cO 164 (bf (lB (bB (dc (sR (body f150)))))) Q cM w_|false=>bz none [] prog 164 aJ.k (bf (lB (bB (dc (sR (body f150)))))) aJ.u2 Q cM w_) Q)))
def aJ.e3(a b:OA)(c d:Nat)(e f g:Int)(i:OA)(j k:Nat)(m:Int)(s:(OA)×Nat×Nat×Int):Env:= [(0,au a),(4,ao b c d),(5,ao s.1 s.2.1 s.2.2.1),(6,ag e),(7,ag f),(8,.int .u64 g),(124,ao i j k),(125,ag m),(126,ag s.2.2.2)]
def aJ.u3:List Nat:= [0,4,5,6,7,8,124,125,126]
section
variable(a:OA)(b:Int)(K:KT)(w:World)
def aJ.W:Prop:=
 Is a λd:Addr=>∃e:Int,w.cell? (d.add 1)=some (ag e)/\Is a λf:Addr=>Wr w (f.add 1)/\let g:=w.setCell (f.add 1) (ag (i64.wrap (e+(1:Int))));bJ prog 160 #[au a] g λi j=>∃k:OA,∃m n:Nat,i=ao k m n/\cO 164 (.loop (lB (bB (sL (bf (body f150)))))) (aJ.q1 K) [(0,au a),(1,ag b),(4,ao k m n)] j
variable{a b K w}
theorem aJ.of(h:aJ.W a b K w):bJ prog 150 #[au a,ag b] w K:=
 rqq func150 (C:=aJ.k) h
end
section
variable(a:OA)(b:Int)(c:OA)(d e:Nat)(Q:aZ)(w:World)
def aJ.B1:Prop:=
 let f:=w.drew;Is a λg:Addr=>∃i:OA,∃j k:Nat,f.cell? (g.add 0)=some (ao i j k)/\(0<=b/\b<(j:Int))/\Is i λm:Addr=>∃n:Int,f.cell? ((m.add (b.toNat*5)).add 0)=some (ag n)/\Split (decide (n>=(0:Int))) (Is a λo:Addr=>∃p:OA,∃q r:Nat,f.cell? (o.add 0)=some (ao p q r)/\(0<=b/\b<(q:Int))/\Is p λt:Addr=>∃u:Int,f.cell? ((t.add (b.toNat*5)).add 3)=some (.int .u64 u)/\Is a λv:Addr=>∃x:OA,∃y z:Nat,f.cell? (v.add 0)=some (ao x y z)/\(0<=b/\b<(y:Int))/\Is x λa1:Addr=>∃b1:Int,f.cell? ((a1.add (b.toNat*5)).add 2)=some (.int .u64 b1)/\(4:Int)≠0/\(0<=b/\b<(d:Int))/\Is c λc1:Addr=>∃d1:Int,f.cell? (c1.add (b.toNat*1))=some (.int .u64 d1)/\Split (decide ((u64.wrap ((u64.wrap ((u64.wrap (u-b1))+(1:Int))).tdiv (4:Int)))<d1)) (Is a λe1:Addr=>∃f1:OA,∃g1 i1:Nat,f.cell? (e1.add 0)=some (ao f1 g1 i1)/\(0<=b/\b<(g1:Int))/\Is f1 λj1:Addr=>∃k1:Int,f.cell? ((j1.add (b.toNat*5)).add 0)=some (ag k1)/\Q .normal [(0,au a),(1,ag k1),(4,ao c d e)] f) (Q (.exit 0) [(0,au a),(1,ag b),(4,ao c d e)] f)) (Q (.exit 0) [(0,au a),(1,ag b),(4,ao c d e)] f)
theorem aJ.b1:(bz none [] prog 164 aJ.k (lB (bB (sL (bf (body f150))))) aJ.u1 Q [(0,au a),(1,ag b),(4,ao c d e)] w)=aJ.B1 a b c d e Q w:=by kernel_rfl
variable{a c d e}
theorem aJ.cP(I:Int->World->Prop)(μ:Int->World->Nat)(s:Int){Q:aZ}{w:World}(h0:I s w)
 (round:∀s w,I s w->aJ.B1 a s c d e (b7 (aJ.e1 a c d e) I μ s w Q) w):cO 164 (.loop (lB (bB (sL (bf (body f150)))))) Q (aJ.e1 a c d e s) w:=
 bI ng mix (aJ.e1 a c d e) I μ aJ.k aJ.u1 s (λs Q w=>aJ.B1 a s c d e Q w) (λs Q w=>aJ.b1 a s c d e Q w) h0 round
end
section
variable(a:OA)(b:Int)(c:OA)(d e:Nat)(K:KT)(w:World)
def aJ.dA:Prop:=
 let f:=w.alloc (.cells #[ag b] 3);cO 164 (.loop (lB (bB (dc (sR (body f150)))))) (aJ.q2 K) [(0,au a),(4,ao c d e),(5,ao (some (⟨w.heap.size,0,none⟩:Addr)) 1 1),(6,ag 0)] f
theorem aJ.dJ:(aJ.q1 K (.exit 0) [(0,au a),(1,ag b),(4,ao c d e)] w)=aJ.dA a b c d e K w:=by kernel_rfl
end
section
variable(a b:OA)(c d:Nat)(e:OA)(f g:Nat)(i:Int)(Q:aZ)(w:World)
def aJ.B2:Prop:=
 Split (decide (i<(f:Int))) ((0<=i/\i<(f:Int))/\Is e λj:Addr=>∃k:Int,w.cell? (j.add (i.toNat*1))=some (ag k)/\let m:=w.drew;Is a λn:Addr=>∃o:OA,∃p q:Nat,m.cell? (n.add 0)=some (ao o p q)/\Is a λr:Addr=>∃t:OA,∃u v:Nat,m.cell? (r.add 0)=some (ao t u v)/\(0<=k/\k<(u:Int))/\Is t λx:Addr=>∃y:Int,m.cell? ((x.add (k.toNat*5)).add 2)=some (.int .u64 y)/\(0<=k/\k<(p:Int))/\Is o λz:Addr=>Wr m ((z.add (k.toNat*5)).add 4)/\let a1:=m.setCell ((z.add (k.toNat*5)).add 4) (.int .u64 y);let b1:=a1.drew;Is a λc1:Addr=>∃d1:OA,∃e1 f1:Nat,b1.cell? (c1.add 0)=some (ao d1 e1 f1)/\(0<=k/\k<(e1:Int))/\Is d1 λg1:Addr=>∃i1:Int,b1.cell? ((g1.add (k.toNat*5)).add 3)=some (.int .u64 i1)/\Is a λj1:Addr=>∃k1:OA,∃m1 n1:Nat,b1.cell? (j1.add 0)=some (ao k1 m1 n1)/\(0<=k/\k<(m1:Int))/\Is k1 λo1:Addr=>∃p1:Int,b1.cell? ((o1.add (k.toNat*5)).add 2)=some (.int .u64 p1)/\(0<=k/\k<(c:Int))/\Is b λq1:Addr=>∃r1:Int,b1.cell? (q1.add (k.toNat*1))=some (.int .u64 r1)/\Is a λt1:Addr=>∃u1:OA,∃v1 x1:Nat,b1.cell? (t1.add 0)=some (ao u1 v1 x1)/\(0<=k/\k<(v1:Int))/\Is u1 λy1:Addr=>∃z1:OA,∃a2 b2:Nat,b1.cell? ((y1.add (k.toNat*5)).add 1)=some (ao z1 a2 b2)/\cO 164 (.loop (lB (bB (dc (bB (sL (sR (lB (bB (dc (sR (body f150)))))))))))) (aJ.q3 Q) [(0,au a),(4,ao b c d),(5,ao e f g),(6,ag i),(7,ag k),(8,.int .u64 (u64.wrap ((u64.wrap (i1-p1))-(u64.wrap (r1-(1:Int)))))),(124,ao z1 a2 b2),(125,ag (a2:Int)),(126,ag 0)] b1) (Q (.exit 2) [(0,au a),(4,ao b c d),(5,ao e f g),(6,ag i)] w)
theorem aJ.b2:(bz none [] prog 164 aJ.k (lB (bB (dc (sR (body f150))))) aJ.u2 Q [(0,au a),(4,ao b c d),(5,ao e f g),(6,ag i)] w)=aJ.B2 a b c d e f g i Q w:=by kernel_rfl
variable{a b c d}
theorem aJ.iY(I:(OA)×Nat×Nat×Int->World->Prop)(μ:(OA)×Nat×Nat×Int->World->Nat)(s:(OA)×Nat×Nat×Int){Q:aZ}{w:World}(h0:I s w)
 (round:∀s w,I s w->aJ.B2 a b c d (s.1) (s.2.1) (s.2.2.1) (s.2.2.2) (b7 (aJ.e2 a b c d) I μ s w Q) w):cO 164 (.loop (lB (bB (dc (sR (body f150)))))) Q (aJ.e2 a b c d s) w:=
 bI ng mix (aJ.e2 a b c d) I μ aJ.k aJ.u2 s (λs Q w=>aJ.B2 a b c d (s.1) (s.2.1) (s.2.2.1) (s.2.2.2) Q w) (λs Q w=>aJ.b2 a b c d (s.1) (s.2.1) (s.2.2.1) (s.2.2.2) Q w) h0 round
end
section
def aJ.jJ(a b:OA)(c d:Nat)(e:OA)(f g:Nat)(i:Int)(K:KT)(w:World):Prop:=
 K (.tuple #[]) w
variable(a b:OA)(c d:Nat)(e:OA)(f g:Nat)(i:Int)(K:KT)(w:World)
theorem aJ.lA:(aJ.q2 K (.exit 2) [(0,au a),(4,ao b c d),(5,ao e f g),(6,ag i)] w)=aJ.jJ a b c d e f g i K w:=by kernel_rfl
end
section
variable(a b:OA)(c d:Nat)(e:OA)(f g:Nat)(i j k:Int)(m:OA)(n o:Nat)(p q:Int)(Q:aZ)(w:World)
def aJ.B3:Prop:=
 Split (decide (q<p)) ((0<=q/\q<(n:Int))/\Is m λr:Addr=>∃t:Int,w.cell? (r.add (q.toNat*1))=some (ag t)/\(2:Int)≠0/\(0<=t/\t<(c:Int))/\Is b λu:Addr=>∃v:Int,w.cell? (u.add (t.toNat*1))=some (.int .u64 v)/\bJ prog 161 #[.int .u64 (u64.wrap (k.tdiv (2:Int))),.int .u64 v] w λx y=>∃z a1:Int,x=.tuple #[.int .u64 z,.int .u64 a1]/\(0<=j/\j<(c:Int))/\Is b λb1:Addr=>∃c1:Int,y.cell? (b1.add (j.toNat*1))=some (.int .u64 c1)/\bJ prog 162 #[.int .u64 z,.int .u64 a1,.int .u64 c1] y λd1 e1=>∃f1 g1:Int,d1=.tuple #[.int .u64 f1,.int .u64 g1]/\(0<=t/\t<(c:Int))/\Is b λi1:Addr=>∃j1:Int,e1.cell? (i1.add (t.toNat*1))=some (.int .u64 j1)/\bJ prog 149 #[au a,ag t,.int .u64 (u64.wrap (j1+f1))] e1 λk1 m1=>k1=.tuple #[]/\let n1:=m1.alloc (.cells #[ag t] 3);∃(o1:OA) (p1 q1:Nat) (r1:World),(Builtin.append_ #[186,186] 186 #[ao e f g,ao (some (⟨m1.heap.size,0,none⟩:Addr)) 1 1]).run prog n1=.ok (ao o1 p1 q1) r1/\Q .normal [(0,au a),(4,ao b c d),(5,ao o1 p1 q1),(6,ag i),(7,ag j),(8,.int .u64 k),(124,ao m n o),(125,ag p),(126,ag (i64.wrap (q+(1:Int))))] r1) (Q (.exit 4) [(0,au a),(4,ao b c d),(5,ao e f g),(6,ag i),(7,ag j),(8,.int .u64 k),(124,ao m n o),(125,ag p),(126,ag q)] w)
theorem aJ.b3:(bz none [] prog 164 aJ.k (lB (bB (dc (bB (sL (sR (lB (bB (dc (sR (body f150))))))))))) aJ.u3 Q [(0,au a),(4,ao b c d),(5,ao e f g),(6,ag i),(7,ag j),(8,.int .u64 k),(124,ao m n o),(125,ag p),(126,ag q)] w)=aJ.B3 a b c d e f g i j k m n o p q Q w:=by kernel_rfl
variable{a b c d i j k m n o p}
theorem aJ.xg(I:(OA)×Nat×Nat×Int->World->Prop)(μ:(OA)×Nat×Nat×Int->World->Nat)(s:(OA)×Nat×Nat×Int){Q:aZ}{w:World}(h0:I s w)
 (round:∀s w,I s w->aJ.B3 a b c d (s.1) (s.2.1) (s.2.2.1) i j k m n o p (s.2.2.2) (b7 (aJ.e3 a b c d i j k m n o p) I μ s w Q) w):cO 164 (.loop (lB (bB (dc (bB (sL (sR (lB (bB (dc (sR (body f150)))))))))))) Q (aJ.e3 a b c d i j k m n o p s) w:=
 bI ng mix (aJ.e3 a b c d i j k m n o p) I μ aJ.k aJ.u3 s (λs Q w=>aJ.B3 a b c d (s.1) (s.2.1) (s.2.2.1) i j k m n o p (s.2.2.2) Q w) (λs Q w=>aJ.b3 a b c d (s.1) (s.2.1) (s.2.2.1) i j k m n o p (s.2.2.2) Q w) h0 round
end
section
def aJ.yV(a b:OA)(c d:Nat)(e:OA)(f g:Nat)(i j k:Int)(m:OA)(n o:Nat)(p q:Int)(Q:aZ)(w:World):Prop:=
 Q .normal [(0,au a),(4,ao b c d),(5,ao e f g),(6,ag (i64.wrap (i+(1:Int))))] w
variable(a b:OA)(c d:Nat)(e:OA)(f g:Nat)(i j k:Int)(m:OA)(n o:Nat)(p q:Int)(Q:aZ)(w:World)
theorem aJ.DF:(aJ.q3 Q (.exit 4) [(0,au a),(4,ao b c d),(5,ao e f g),(6,ag i),(7,ag j),(8,.int .u64 k),(124,ao m n o),(125,ag p),(126,ag q)] w)=aJ.yV a b c d e f g i j k m n o p q Q w:=by kernel_rfl
end
def bZ.k:List Nat:= []
def bZ.q1(K:KT):aZ:=(aW 0 (dd (bf (sR (body f160)))++(bn f160)) (cH (λcM w_=>match cutAt bZ.k (bf (sR (body f160)))with|true=>cO 57 (bf (sR (body f160))) (cy prog f160 K) cM w_|false=>bz none [] prog 57 bZ.k (bf (sR (body f160))) (bn f160) (cy prog f160 K) cM w_) (cy prog f160 K)))
def bZ.e1(a b:OA)(c d:Nat)(e:OA)(f g:Nat)(i s:Int):Env:= [(0,au a),(2,ao b c d),(3,ao e f g),(17,ag i),(18,ag s)]
def bZ.u1:List Nat:= [0,2,3,17,18]
section
variable(a:OA)(K:KT)(w:World)
def bZ.W:Prop:=
 Is a λb:Addr=>∃d:OA,∃e f:Nat,w.cell? (b.add 0)=some (ao d e f)/\∃(g:OA) (i j:Nat) (k:World),(Instr.makeSlice 142 (ag (e:Int)) (ag (e:Int))).run prog w=.ok (ao g i j) k/\Is a λm:Addr=>∃n:OA,∃o p:Nat,k.cell? (m.add 0)=some (ao n o p)/\cO 57 (.loop (lB (bB (sR (sL (bf (body f160))))))) (bZ.q1 K) [(0,au a),(2,ao none 0 0),(3,ao g i j),(17,ag (o:Int)),(18,ag 0)] k
variable{a K w}
theorem bZ.of(h:bZ.W a K w):bJ prog 160 #[au a] w K:=
 rqq func160 (C:=bZ.k) h
end
section
variable(a b:OA)(c d:Nat)(e:OA)(f g:Nat)(i j:Int)(Q:aZ)(w:World)
def bZ.B1:Prop:=
 Split (decide (j<i)) (Is a λk:Addr=>∃m:OA,∃n o:Nat,w.cell? (k.add 0)=some (ao m n o)/\(0<=(i64.wrap ((i64.wrap ((n:Int)-(1:Int)))-j))/\(i64.wrap ((i64.wrap ((n:Int)-(1:Int)))-j))<(f:Int))/\Is e λp:Addr=>∃q:Int,w.cell? (p.add ((i64.wrap ((i64.wrap ((n:Int)-(1:Int)))-j)).toNat*1))=some (.int .u64 q)/\(0<=(i64.wrap ((i64.wrap ((n:Int)-(1:Int)))-j))/\(i64.wrap ((i64.wrap ((n:Int)-(1:Int)))-j))<(f:Int))/\Is e λr:Addr=>Wr w (r.add ((i64.wrap ((i64.wrap ((n:Int)-(1:Int)))-j)).toNat*1))/\let t:=w.setCell (r.add ((i64.wrap ((i64.wrap ((n:Int)-(1:Int)))-j)).toNat*1)) (.int .u64 (u64.wrap (q+(1:Int))));Is a λu:Addr=>∃v:OA,∃x y:Nat,t.cell? (u.add 0)=some (ao v x y)/\(0<=(i64.wrap ((i64.wrap ((n:Int)-(1:Int)))-j))/\(i64.wrap ((i64.wrap ((n:Int)-(1:Int)))-j))<(x:Int))/\Is v λz:Addr=>∃a1:Int,t.cell? ((z.add ((i64.wrap ((i64.wrap ((n:Int)-(1:Int)))-j)).toNat*5)).add 0)=some (ag a1)/\Split (decide (a1>=(0:Int))) (let b1:=t.drew;(0<=a1/\a1<(f:Int))/\Is e λc1:Addr=>∃d1:Int,b1.cell? (c1.add (a1.toNat*1))=some (.int .u64 d1)/\(0<=(i64.wrap ((i64.wrap ((n:Int)-(1:Int)))-j))/\(i64.wrap ((i64.wrap ((n:Int)-(1:Int)))-j))<(f:Int))/\Is e λe1:Addr=>∃f1:Int,b1.cell? (e1.add ((i64.wrap ((i64.wrap ((n:Int)-(1:Int)))-j)).toNat*1))=some (.int .u64 f1)/\(0<=a1/\a1<(f:Int))/\Is e λg1:Addr=>Wr b1 (g1.add (a1.toNat*1))/\let i1:=b1.setCell (g1.add (a1.toNat*1)) (.int .u64 (u64.wrap (d1+f1)));Q .normal [(0,au a),(2,ao b c d),(3,ao e f g),(17,ag i),(18,ag (i64.wrap (j+(1:Int))))] i1) (Q .normal [(0,au a),(2,ao b c d),(3,ao e f g),(17,ag i),(18,ag (i64.wrap (j+(1:Int))))] t)) (Q (.exit 0) [(0,au a),(2,ao b c d),(3,ao e f g),(17,ag i),(18,ag j)] w)
theorem bZ.b1:(bz none [] prog 57 bZ.k (lB (bB (sR (sL (bf (body f160)))))) bZ.u1 Q [(0,au a),(2,ao b c d),(3,ao e f g),(17,ag i),(18,ag j)] w)=bZ.B1 a b c d e f g i j Q w:=by kernel_rfl
variable{a b c d e f g i}
theorem bZ.cP(I:Int->World->Prop)(μ:Int->World->Nat)(s:Int){Q:aZ}{w:World}(h0:I s w)
 (round:∀s w,I s w->bZ.B1 a b c d e f g i s (b7 (bZ.e1 a b c d e f g i) I μ s w Q) w):cO 57 (.loop (lB (bB (sR (sL (bf (body f160))))))) Q (bZ.e1 a b c d e f g i s) w:=
 bI ng mix (bZ.e1 a b c d e f g i) I μ bZ.k bZ.u1 s (λs Q w=>bZ.B1 a b c d e f g i s Q w) (λs Q w=>bZ.b1 a b c d e f g i s Q w) h0 round
end
section
def bZ.dA(a b:OA)(c d:Nat)(e:OA)(f g:Nat)(i j:Int)(K:KT)(w:World):Prop:=
 K (ao e f g) w
variable(a b:OA)(c d:Nat)(e:OA)(f g:Nat)(i j:Int)(K:KT)(w:World)
theorem bZ.dJ:(bZ.q1 K (.exit 0) [(0,au a),(2,ao b c d),(3,ao e f g),(17,ag i),(18,ag j)] w)=bZ.dA a b c d e f g i j K w:=by kernel_rfl
end
section
variable(a b:Int)(K:KT)(w:World)
variable{a b K w}
end
def bN.k:List Nat:= []
def bN.q1(K:KT):aZ:=(aW 0 (dd (gR (dc (bf (sR (body f162)))))++(bn f162)) (cH (λcM w_=>match cutAt bN.k (gR (dc (bf (sR (body f162)))))with|true=>cO 135 (gR (dc (bf (sR (body f162))))) (cy prog f162 K) cM w_|false=>bz none [] prog 135 bN.k (gR (dc (bf (sR (body f162))))) (bn f162) (cy prog f162 K) cM w_) (cy prog f162 K)))
def bN.e1(a b c d e f g i j:Int)(s:Int×Int):Env:= [(2,.int .u64 a),(6,.int .u64 b),(7,.int .u64 c),(8,.int .u64 d),(9,.int .u64 e),(10,.int .u64 f),(11,.int .u64 g),(13,.int .u64 i),(14,.int .u64 j),(15,.int .u64 s.1),(16,.int .u64 s.2)]
def bN.u1:List Nat:= [2,6,7,8,9,10,11,13,14,15,16]
def bN.q2(K:KT):aZ:=(aW 2 (dd (gR (gR (bf (sR (body f162)))))++(bn f162)) (cH (λcM w_=>match cutAt bN.k (gR (gR (bf (sR (body f162)))))with|true=>cO 135 (gR (gR (bf (sR (body f162))))) (cy prog f162 K) cM w_|false=>bz none [] prog 135 bN.k (gR (gR (bf (sR (body f162))))) (bn f162) (cy prog f162 K) cM w_) (cy prog f162 K)))
def bN.e2(a b c d e f g i j:Int)(s:Int×Int):Env:= [(2,.int .u64 a),(6,.int .u64 b),(7,.int .u64 c),(8,.int .u64 d),(9,.int .u64 e),(10,.int .u64 f),(14,.int .u64 g),(15,.int .u64 i),(16,.int .u64 s.1),(17,.int .u64 j),(18,.int .u64 s.2)]
def bN.u2:List Nat:= [2,6,7,8,9,10,14,15,16,17,18]
section
variable(a b d:Int)(K:KT)(w:World)
def bN.W:Prop:=
 Split (d==(0:Int)) (∃e:Value,w.cell? (⟨2,0,none⟩:Addr)=some (e)/\False) (Split (decide (d<=a)) (∃f:Value,w.cell? (⟨3,0,none⟩:Addr)=some (f)/\False) (Split (a==(0:Int)) (let g:=w.drew;d≠0/\d≠0/\K (.tuple #[.int .u64 (u64.wrap (b.tdiv d)),.int .u64 (b.tmod d)]) g) (bJ prog 164 #[.int .u64 d] w λi j=>∃k:Int,i=ag k/\0<=(u64.wrap k)/\0<=(32:Int)/\0<=(u64.wrap k)/\0<=(u64.wrap ((64:Int)-(u64.wrap k)))/\0<=(u64.wrap k)/\0<=(32:Int)/\((u64.wrap (d*2 ^ (min (u64.wrap k).toNat 64))).fdiv (2 ^ (min (32:Int).toNat 64)))≠0/\cO 135 (.loop (lB (bB (sL (gR (dc (bf (body f162)))))))) (bN.q1 K) [(2,.int .u64 (u64.wrap (d*2 ^ (min (u64.wrap k).toNat 64)))),(6,.int .u64 0),(7,.int .u64 0),(8,.int .u64 (u64.wrap k)),(9,.int .u64 ((u64.wrap (d*2 ^ (min (u64.wrap k).toNat 64))).fdiv (2 ^ (min (32:Int).toNat 64)))),(10,.int .u64 (u64.wrap ((BitVec.ofInt 64 (u64.wrap (d*2 ^ (min (u64.wrap k).toNat 64)))&&& BitVec.ofInt 64 (4294967295:Int)).toNat))),(11,.int .u64 (u64.wrap ((BitVec.ofInt 64 (u64.wrap (a*2 ^ (min (u64.wrap k).toNat 64)))|||BitVec.ofInt 64 (b.fdiv (2 ^ (min (u64.wrap ((64:Int)-(u64.wrap k))).toNat 64)))).toNat))),(13,.int .u64 ((u64.wrap (b*2 ^ (min (u64.wrap k).toNat 64))).fdiv (2 ^ (min (32:Int).toNat 64)))),(14,.int .u64 (u64.wrap ((BitVec.ofInt 64 (u64.wrap (b*2 ^ (min (u64.wrap k).toNat 64)))&&& BitVec.ofInt 64 (4294967295:Int)).toNat))),(15,.int .u64 (u64.wrap ((u64.wrap ((BitVec.ofInt 64 (u64.wrap (a*2 ^ (min (u64.wrap k).toNat 64)))|||BitVec.ofInt 64 (b.fdiv (2 ^ (min (u64.wrap ((64:Int)-(u64.wrap k))).toNat 64)))).toNat)).tdiv ((u64.wrap (d*2 ^ (min (u64.wrap k).toNat 64))).fdiv (2 ^ (min (32:Int).toNat 64)))))),(16,.int .u64 (u64.wrap ((u64.wrap ((BitVec.ofInt 64 (u64.wrap (a*2 ^ (min (u64.wrap k).toNat 64)))|||BitVec.ofInt 64 (b.fdiv (2 ^ (min (u64.wrap ((64:Int)-(u64.wrap k))).toNat 64)))).toNat))-(u64.wrap ((u64.wrap ((u64.wrap ((BitVec.ofInt 64 (u64.wrap (a*2 ^ (min (u64.wrap k).toNat 64)))|||BitVec.ofInt 64 (b.fdiv (2 ^ (min (u64.wrap ((64:Int)-(u64.wrap k))).toNat 64)))).toNat)).tdiv ((u64.wrap (d*2 ^ (min (u64.wrap k).toNat 64))).fdiv (2 ^ (min (32:Int).toNat 64)))))*((u64.wrap (d*2 ^ (min (u64.wrap k).toNat 64))).fdiv (2 ^ (min (32:Int).toNat 64))))))))] j)))
variable{a b d K w}
theorem bN.of(h:bN.W a b d K w):bJ prog 162 #[.int .u64 a,.int .u64 b,.int .u64 d] w K:=
 rqq func162 (C:=bN.k) h
end
section
variable(a b c d e f g i j k m:Int)(Q:aZ)(w:World)
def bN.B1:Prop:=
 Split (decide (k>=(4294967296:Int))) (Split (decide ((u64.wrap (m+e))>=(4294967296:Int))) (Q (.exit 0) [(2,.int .u64 a),(6,.int .u64 b),(7,.int .u64 c),(8,.int .u64 d),(9,.int .u64 e),(10,.int .u64 f),(11,.int .u64 g),(13,.int .u64 i),(14,.int .u64 j),(15,.int .u64 (u64.wrap (k-(1:Int)))),(16,.int .u64 (u64.wrap (m+e)))] w) (Q .normal [(2,.int .u64 a),(6,.int .u64 b),(7,.int .u64 c),(8,.int .u64 d),(9,.int .u64 e),(10,.int .u64 f),(11,.int .u64 g),(13,.int .u64 i),(14,.int .u64 j),(15,.int .u64 (u64.wrap (k-(1:Int)))),(16,.int .u64 (u64.wrap (m+e)))] w)) (Split (decide ((u64.wrap (k*f))>(u64.wrap ((u64.wrap ((4294967296:Int)*m))+i)))) (Split (decide ((u64.wrap (m+e))>=(4294967296:Int))) (Q (.exit 0) [(2,.int .u64 a),(6,.int .u64 b),(7,.int .u64 c),(8,.int .u64 d),(9,.int .u64 e),(10,.int .u64 f),(11,.int .u64 g),(13,.int .u64 i),(14,.int .u64 j),(15,.int .u64 (u64.wrap (k-(1:Int)))),(16,.int .u64 (u64.wrap (m+e)))] w) (Q .normal [(2,.int .u64 a),(6,.int .u64 b),(7,.int .u64 c),(8,.int .u64 d),(9,.int .u64 e),(10,.int .u64 f),(11,.int .u64 g),(13,.int .u64 i),(14,.int .u64 j),(15,.int .u64 (u64.wrap (k-(1:Int)))),(16,.int .u64 (u64.wrap (m+e)))] w)) (Q (.exit 0) [(2,.int .u64 a),(6,.int .u64 b),(7,.int .u64 c),(8,.int .u64 d),(9,.int .u64 e),(10,.int .u64 f),(11,.int .u64 g),(13,.int .u64 i),(14,.int .u64 j),(15,.int .u64 k),(16,.int .u64 m)] w))
theorem bN.b1:(bz none [] prog 135 bN.k (lB (bB (sL (gR (dc (bf (body f162))))))) bN.u1 Q [(2,.int .u64 a),(6,.int .u64 b),(7,.int .u64 c),(8,.int .u64 d),(9,.int .u64 e),(10,.int .u64 f),(11,.int .u64 g),(13,.int .u64 i),(14,.int .u64 j),(15,.int .u64 k),(16,.int .u64 m)] w)=bN.B1 a b c d e f g i j k m Q w:=by kernel_rfl
variable{a b c d e f g i j}
theorem bN.cP(I:Int×Int->World->Prop)(μ:Int×Int->World->Nat)(s:Int×Int){Q:aZ}{w:World}(h0:I s w)
 (round:∀s w,I s w->bN.B1 a b c d e f g i j (s.1) (s.2) (b7 (bN.e1 a b c d e f g i j) I μ s w Q) w):cO 135 (.loop (lB (bB (sL (gR (dc (bf (body f162)))))))) Q (bN.e1 a b c d e f g i j s) w:=
 bI ng mix (bN.e1 a b c d e f g i j) I μ bN.k bN.u1 s (λs Q w=>bN.B1 a b c d e f g i j (s.1) (s.2) Q w) (λs Q w=>bN.b1 a b c d e f g i j (s.1) (s.2) Q w) h0 round
end
section
def bN.dA(a b c d e f g i j k m:Int)(K:KT)(w:World):Prop:=
 e≠0/\cO 135 (.loop (lB (bB (sL (gR (gR (bf (body f162)))))))) (bN.q2 K) [(2,.int .u64 a),(6,.int .u64 b),(7,.int .u64 c),(8,.int .u64 d),(9,.int .u64 e),(10,.int .u64 f),(14,.int .u64 j),(15,.int .u64 k),(16,.int .u64 (u64.wrap ((u64.wrap ((u64.wrap ((u64.wrap (g*(4294967296:Int)))+i))-(u64.wrap (k*a))))-(u64.wrap ((u64.wrap ((u64.wrap ((u64.wrap ((u64.wrap (g*(4294967296:Int)))+i))-(u64.wrap (k*a)))).tdiv e))*e))))),(17,.int .u64 (u64.wrap ((u64.wrap ((u64.wrap (g*(4294967296:Int)))+i))-(u64.wrap (k*a))))),(18,.int .u64 (u64.wrap ((u64.wrap ((u64.wrap ((u64.wrap (g*(4294967296:Int)))+i))-(u64.wrap (k*a)))).tdiv e)))] w
variable(a b c d e f g i j k m:Int)(K:KT)(w:World)
theorem bN.dJ:(bN.q1 K (.exit 0) [(2,.int .u64 a),(6,.int .u64 b),(7,.int .u64 c),(8,.int .u64 d),(9,.int .u64 e),(10,.int .u64 f),(11,.int .u64 g),(13,.int .u64 i),(14,.int .u64 j),(15,.int .u64 k),(16,.int .u64 m)] w)=bN.dA a b c d e f g i j k m K w:=by kernel_rfl
end
section
variable(a b c d e f g i j k m:Int)(Q:aZ)(w:World)
def bN.B2:Prop:=
 Split (decide (m>=(4294967296:Int))) (Split (decide ((u64.wrap (j+e))>=(4294967296:Int))) (Q (.exit 2) [(2,.int .u64 a),(6,.int .u64 b),(7,.int .u64 c),(8,.int .u64 d),(9,.int .u64 e),(10,.int .u64 f),(14,.int .u64 g),(15,.int .u64 i),(16,.int .u64 (u64.wrap (j+e))),(17,.int .u64 k),(18,.int .u64 (u64.wrap (m-(1:Int))))] w) (Q .normal [(2,.int .u64 a),(6,.int .u64 b),(7,.int .u64 c),(8,.int .u64 d),(9,.int .u64 e),(10,.int .u64 f),(14,.int .u64 g),(15,.int .u64 i),(16,.int .u64 (u64.wrap (j+e))),(17,.int .u64 k),(18,.int .u64 (u64.wrap (m-(1:Int))))] w)) (Split (decide ((u64.wrap (m*f))>(u64.wrap ((u64.wrap ((4294967296:Int)*j))+g)))) (Split (decide ((u64.wrap (j+e))>=(4294967296:Int))) (Q (.exit 2) [(2,.int .u64 a),(6,.int .u64 b),(7,.int .u64 c),(8,.int .u64 d),(9,.int .u64 e),(10,.int .u64 f),(14,.int .u64 g),(15,.int .u64 i),(16,.int .u64 (u64.wrap (j+e))),(17,.int .u64 k),(18,.int .u64 (u64.wrap (m-(1:Int))))] w) (Q .normal [(2,.int .u64 a),(6,.int .u64 b),(7,.int .u64 c),(8,.int .u64 d),(9,.int .u64 e),(10,.int .u64 f),(14,.int .u64 g),(15,.int .u64 i),(16,.int .u64 (u64.wrap (j+e))),(17,.int .u64 k),(18,.int .u64 (u64.wrap (m-(1:Int))))] w)) (Q (.exit 2) [(2,.int .u64 a),(6,.int .u64 b),(7,.int .u64 c),(8,.int .u64 d),(9,.int .u64 e),(10,.int .u64 f),(14,.int .u64 g),(15,.int .u64 i),(16,.int .u64 j),(17,.int .u64 k),(18,.int .u64 m)] w))
theorem bN.b2:(bz none [] prog 135 bN.k (lB (bB (sL (gR (gR (bf (body f162))))))) bN.u2 Q [(2,.int .u64 a),(6,.int .u64 b),(7,.int .u64 c),(8,.int .u64 d),(9,.int .u64 e),(10,.int .u64 f),(14,.int .u64 g),(15,.int .u64 i),(16,.int .u64 j),(17,.int .u64 k),(18,.int .u64 m)] w)=bN.B2 a b c d e f g i j k m Q w:=by kernel_rfl
variable{a b c d e f g i k}
theorem bN.iY(I:Int×Int->World->Prop)(μ:Int×Int->World->Nat)(s:Int×Int){Q:aZ}{w:World}(h0:I s w)
 (round:∀s w,I s w->bN.B2 a b c d e f g i (s.1) k (s.2) (b7 (bN.e2 a b c d e f g i k) I μ s w Q) w):cO 135 (.loop (lB (bB (sL (gR (gR (bf (body f162)))))))) Q (bN.e2 a b c d e f g i k s) w:=
 bI ng mix (bN.e2 a b c d e f g i k) I μ bN.k bN.u2 s (λs Q w=>bN.B2 a b c d e f g i (s.1) k (s.2) Q w) (λs Q w=>bN.b2 a b c d e f g i (s.1) k (s.2) Q w) h0 round
end
section
def bN.jJ(a b c d e f g i j k m:Int)(K:KT)(w:World):Prop:=
 0<=d/\K (.tuple #[.int .u64 (u64.wrap ((u64.wrap (i*(4294967296:Int)))+m)),.int .u64 ((u64.wrap ((u64.wrap ((u64.wrap (k*(4294967296:Int)))+g))-(u64.wrap (m*a)))).fdiv (2 ^ (min d.toNat 64)))]) w
variable(a b c d e f g i j k m:Int)(K:KT)(w:World)
theorem bN.lA:(bN.q2 K (.exit 2) [(2,.int .u64 a),(6,.int .u64 b),(7,.int .u64 c),(8,.int .u64 d),(9,.int .u64 e),(10,.int .u64 f),(14,.int .u64 g),(15,.int .u64 i),(16,.int .u64 j),(17,.int .u64 k),(18,.int .u64 m)] w)=bN.jJ a b c d e f g i j k m K w:=by kernel_rfl
end
end Go.Proofs.YtfleamccglihoaaGreatDoor
