import Derived.Test.YtfleamccglihoaaGreatDoorProg
import Derived.Test.YtfleamccglihoaaGreatDoorMA
import Derived.Test.YtfleamccglihoaaGreatDoorMB
open Go.IntKind (i64 u64)
set_option linter.unusedVariables false
namespace Go.Proofs.YtfleamccglihoaaGreatDoor
open Go.Proofs.Tryz
open Go Go.cF
def jb.k:List Nat:= []
section
variable(a:OA)(K:KT)(w:World)
def jb.W:Prop:=
 bJ prog 92 #[au a,.func (.func 93) #[] #[]] w λb d=>∃e:OA,∃f g:Nat,b=ao e f g/\K (ao e f g) d
variable{a K w}
theorem jb.of(h:jb.W a K w):bJ prog 49 #[au a] w K:=
 rqq func49 (C:=jb.k) h
end
def dS.k:List Nat:= []
section
variable(a:OA)(b d:Nat)(K:KT)(w:World)
def dS.W:Prop:=
 Split ((a).isNone) (K (ao none 0 0) w) (let e:=w.alloc (.cells #[] 24);∃(f:OA) (g i:Nat) (j:World),(Builtin.append_ #[33,33] 33 #[ao (some (aU w.heap.size)) 0 0,ao a b d]).run prog e=.ok (ao f g i) j/\K (ao f g i) j)
variable{a b d K w}
theorem dS.of(h:dS.W a b d K w):bJ prog 55 #[ao a b d] w K:=
 rqq func55 (C:=dS.k) h
end
def jz.k:List Nat:= []
section
variable(a:OA)(b d:Nat)(K:KT)(w:World)
def jz.W:Prop:=
 bJ prog 101 #[ao a b d] w λe f=>∃g:Value,e=g/\bJ prog 100 #[g,.func (.func 102) #[] #[]] f λi j=>∃k:OA,∃m n:Nat,i=ao k m n/\bJ prog 99 #[ao k m n] j λo p=>∃q:OA,∃r t:Nat,o=ao q r t/\K (ao q r t) p
variable{a b d K w}
theorem jz.of(h:jz.W a b d K w):bJ prog 57 #[ao a b d] w K:=
 rqq func57 (C:=jz.k) h
end
def eo.k:List Nat:= []
section
variable(a b:Value)(K:KT)(w:World)
def eo.W:Prop:=
 bJ prog 108 #[a] w λd e=>∃f:OA,∃g i:Nat,d=ao f g i/\bJ prog 53 #[ao f g i,b] e λj k=>j=.tuple #[]/\K (ao f g i) k
variable{a b K w}
theorem eo.of(h:eo.W a b K w):bJ prog 100 #[a,b] w K:=
 rqq func100 (C:=eo.k) h
end
def eE.k:List Nat:= []
section
variable(a:OA)(b d:Nat)(K:KT)(w:World)
def eE.W:Prop:=
 let e:=w.alloc (.cells (#[ao a b d]:AV) 33);K (.func (.func 137) #[] #[au (some (aU w.heap.size))]) e
variable{a b d K w}
theorem eE.of(h:eE.W a b d K w):bJ prog 101 #[ao a b d] w K:=
 rqq func101 (C:=eE.k) h
end
def dM.k:List Nat:= []
section
variable(a:Value)(K:KT)(w:World)
def dM.W:Prop:=
 bJ prog 140 #[ao none 0 0,a] w λb d=>∃e:OA,∃f g:Nat,b=ao e f g/\K (ao e f g) d
variable{a K w}
theorem dM.of(h:dM.W a K w):bJ prog 108 #[a] w K:=
 rqq func108 (C:=dM.k) h
end
def b6.k:List Nat:= []
def b6.q1(K:KT):aZ:=(aW 1 (dd (dc (sR (body f118)))++(bn f118)) (cH (λcM w_=>match cutAt b6.k (dc (sR (body f118)))with|true=>cO 101 (dc (sR (body f118))) (cy prog f118 K) cM w_|false=>bz none [] prog 101 b6.k (dc (sR (body f118))) (bn f118) (cy prog f118 K) cM w_) (cy prog f118 K)))
def b6.e1(a b:Addr)(c:Int)(d:Addr)(e:OA)(f g:Nat)(i s:Int):Env:= [(3,au (some a)),(4,au (some b)),(6,ag c),(8,au (some d)),(41,ao e f g),(42,ag i),(43,ag s)]
def b6.u1:List Nat:= [3,4,6,8,41,42,43]
section
variable(a:OA)(b:AV)(d:OA)(e f:Nat)(K:KT)(w:World)
def b6.W:Prop:=
 let g:=w.alloc (.cells (#[au a]:AV) 98);let i:=g.alloc (.cells b 24);bJ prog 57 #[ao d e f] i λj k=>∃m:OA,∃n o:Nat,j=ao m n o/\∃p:OA,k.cell? (aU w.heap.size)=some (au p)/\bJ prog 124 #[au p] k λq r=>∃t:Bool,q=.bool t/\Split (!t) (K (ag 1) r) (∃u:OA,r.cell? (aU w.heap.size)=some (au u)/\∃v:AV,cS r (aU g.heap.size) v/\bJ prog 47 #[au u,.agg v] r λx y=>∃z:Bool,x=.bool z/\Split z (K (ag 7) y) (Split ((n:Int)==(0:Int)) (K (ag 9) y) (Split ((n:Int) != (e:Int)) (K (ag 9) y) (bJ prog 68 #[ao m n o,.func (.func 145) #[] #[au (some (aU w.heap.size))]] y λa1 b1=>∃c1:Bool,a1=.bool c1/\Split c1 (K (ag 6) b1) (∃d1:AV,cS b1 (aU g.heap.size) d1/\Is (prog.built 145 [(0,.agg d1),(1,ao m n o)]) λe1:AV=>let f1:=b1.alloc (.cells e1 145);cO 101 (.loop (lB (bB (sR (sL (dc (body f118))))))) (b6.q1 K) [(3,au (some (aU w.heap.size))),(4,au (some (aU g.heap.size))),(6,ag 0),(8,au (some (aU b1.heap.size))),(41,ao m n o),(42,ag (n:Int)),(43,ag 0)] f1)))))
variable{a b d e f K w}
theorem b6.of(h:b6.W a b d e f K w):bJ prog 118 #[au a,.agg b,ao d e f] w K:=
 rqq func118 (C:=b6.k) h
end
section
variable(a b:Addr)(c:Int)(d:Addr)(e:OA)(f g:Nat)(i j:Int)(Q:aZ)(w:World)
def b6.B1:Prop:=
 Split (decide (j<i)) ((0<=j/\j<(f:Int))/\Is e λk:Addr=>∃m:AV,cS w (k.add (j.toNat*32)) m/\let n:=w.alloc (.cells zH 24);(m.size=32/\(∀o∈m.toList,o.oneCell'=true)/\∀p,p<32->Wr n ((aU w.heap.size).add p))/\let q:=setCells n (aU w.heap.size) m.toList 0;∃r:OA,q.cell? a=some (au r)/\∃t:AV,cS q (aU w.heap.size) t/\bJ prog 90 #[au r,.agg t] q λu v=>∃x:OA,u=au x/\let y:=v.drew;∃z:OA,∃a1 b1:Nat,y.cell? (d.add 34)=some (ao z a1 b1)/\Is x λc1:Addr=>∃d1:OA,∃e1 f1:Nat,y.cell? (c1.add 34)=some (ao d1 e1 f1)/\∃g1:OA,y.cell? a=some (au g1)/\Is g1 λi1:Addr=>∃j1:Option Nat,y.cell? (i1.add 1)=some (.map j1)/\∃k1:AV,cS y (aU w.heap.size) k1/\∃m1:Int,(Instr.lookup 127 (.map j1) (.agg k1) false).run prog y=.ok (ag m1) y/\bJ prog 143 #[ao z a1 b1,ao d1 e1 f1] y λn1 o1=>∃p1:OA,∃q1 r1:Nat,n1=ao p1 q1 r1/\(Instr.lookup 127 (.map j1) (.agg k1) false).run prog o1=.ok (ag m1) o1/\(∃cs:AV,(.agg k1:Value)=.agg cs/\cs.size=32/\Cells o1 (aU w.heap.size) cs)/\o1.cell? (i1.add 1)=some (.map j1)/\o1.cell? a=some (au g1)/\bJ prog 146 #[ao p1 q1 r1,ag m1] o1 λt1 u1=>∃v1:OA,∃x1 y1:Nat,t1=ao v1 x1 y1/\Wr u1 (d.add 34)/\let z1:=u1.setCell (d.add 34) (ao v1 x1 y1);let a2:=z1.drew;Is x λb2:Addr=>∃c2:OA,∃d2 e2:Nat,a2.cell? (b2.add 33)=some (ao c2 d2 e2)/\∃f2:AV,cS a2 b f2/\f2.size=32/\let g2:=a2.alloc (.cells (f2.toList++ []).toArray 24);g2.cell? (b2.add 33)=some (ao c2 d2 e2)/\∃(i2:OA) (j2 k2:Nat) (m2:World),(Builtin.append_ #[33,33] 33 #[ao c2 d2 e2,ao (some (aU a2.heap.size)) 1 1]).run prog g2=.ok (ao i2 j2 k2) m2/\bJ prog 57 #[ao i2 j2 k2] m2 λn2 o2=>∃p2:OA,∃q2 r2:Nat,n2=ao p2 q2 r2/\Is x λt2:Addr=>Wr o2 (t2.add 33)/\let u2:=o2.setCell (t2.add 33) (ao p2 q2 r2);Q .normal [(3,au (some a)),(4,au (some b)),(6,ag c),(8,au (some d)),(41,ao e f g),(42,ag i),(43,ag (i64.wrap (j+(1:Int))))] u2) (Q (.exit 1) [(3,au (some a)),(4,au (some b)),(6,ag c),(8,au (some d)),(41,ao e f g),(42,ag i),(43,ag j)] w)
theorem b6.b1:(bz none [] prog 101 b6.k (lB (bB (sR (sL (dc (body f118)))))) b6.u1 Q [(3,au (some a)),(4,au (some b)),(6,ag c),(8,au (some d)),(41,ao e f g),(42,ag i),(43,ag j)] w)=b6.B1 a b c d e f g i j Q w:=by kernel_rfl
variable{a b c d e f g i}
theorem b6.cP(I:Int->World->Prop)(μ:Int->World->Nat)(s:Int){Q:aZ}{w:World}(h0:I s w)
 (round:∀s w,I s w->b6.B1 a b c d e f g i s (b7 (b6.e1 a b c d e f g i) I μ s w Q) w):cO 101 (.loop (lB (bB (sR (sL (dc (body f118))))))) Q (b6.e1 a b c d e f g i s) w:=
 bI ng mix (b6.e1 a b c d e f g i) I μ b6.k b6.u1 s (λs Q w=>b6.B1 a b c d e f g i s Q w) (λs Q w=>b6.b1 a b c d e f g i s Q w) h0 round
end
section
def b6.Bg(a b:Addr)(c:Int)(d:Addr)(e:OA)(f g:Nat)(i j:Int)(K:KT)(w:World):Prop:=
 let k:=w.drew;∃m:OA,k.cell? a=some (au m)/\Is m λn:Addr=>∃o:Option Nat,k.cell? (n.add 1)=some (.map o)/\∃p:AV,cS k b p/\∃q:OA,k.cell? a=some (au q)/\Is q λr:Addr=>∃t:OA,∃u v:Nat,k.cell? (r.add 0)=some (ao t u v)/\∃x:World,(Instr.mapUpdate 127 (.map o) (.agg p) (ag (u:Int))).run prog k=.ok () x/\let y:=x.drew;∃z:OA,y.cell? a=some (au z)/\∃a1:OA,y.cell? a=some (au a1)/\Is a1 λb1:Addr=>∃c1:OA,∃d1 e1:Nat,y.cell? (b1.add 0)=some (ao c1 d1 e1)/\let f1:=y.alloc (.cells #[au (some d)] 138);f1.cell? (b1.add 0)=some (ao c1 d1 e1)/\f1.cell? a=some (au a1)/\f1.cell? a=some (au z)/\∃(g1:OA) (i1 j1:Nat) (k1:World),(Builtin.append_ #[170,170] 170 #[ao c1 d1 e1,ao (some (aU y.heap.size)) 1 1]).run prog f1=.ok (ao g1 i1 j1) k1/\k1.cell? a=some (au z)/\Is z λm1:Addr=>Wr k1 (m1.add 0)/\let n1:=k1.setCell (m1.add 0) (ao g1 i1 j1);K (ag 0) n1
variable(a b:Addr)(c:Int)(d:Addr)(e:OA)(f g:Nat)(i j:Int)(K:KT)(w:World)
theorem b6.Jm:(b6.q1 K (.exit 1) [(3,au (some a)),(4,au (some b)),(6,ag c),(8,au (some d)),(41,ao e f g),(42,ag i),(43,ag j)] w)=b6.Bg a b c d e f g i j K w:=by kernel_rfl
end
def oQ.k:List Nat:= []
section
variable(a:AV)(K:KT)(w:World)
def oQ.W:Prop:=
 let b:=w.alloc (.cells a 24);let d:=b.drew;∃e:AV,cS d (aU w.heap.size) e/\Is (prog.built 145 [(0,.agg e)]) λf:AV=>∃g:AV,cS d (aU w.heap.size) g/\(let i:=d.alloc (.cells f 145);(∃cs:AV,(.agg g:Value)=.agg cs/\cs.size=32/\Cells i (aU w.heap.size) cs)/\(let j:=i.alloc (.cells #[au (some (aU d.heap.size))] 138);(∃cs:AV,(.agg g:Value)=.agg cs/\cs.size=32/\Cells j (aU w.heap.size) cs)/\let k:=j.alloc (.map #[] 0);(∃cs:AV,(.agg g:Value)=.agg cs/\cs.size=32/\Cells k (aU w.heap.size) cs)/\∃m:World,(Instr.mapUpdate 127 (.map (some j.heap.size)) (.agg g) (ag 0)).run prog k=.ok () m/\let n:=m.alloc (.cells (#[ao (some (aU i.heap.size)) 1 1,.map (some j.heap.size)]:AV) 172);K (au (some (aU m.heap.size))) n)/\(let o:=i.alloc (.map #[] 0);(∃cs:AV,(.agg g:Value)=.agg cs/\cs.size=32/\Cells o (aU w.heap.size) cs)/\(let p:=o.alloc (.cells #[au (some (aU d.heap.size))] 138);(∃cs:AV,(.agg g:Value)=.agg cs/\cs.size=32/\Cells p (aU w.heap.size) cs)/\∃q:World,(Instr.mapUpdate 127 (.map (some i.heap.size)) (.agg g) (ag 0)).run prog p=.ok () q/\let r:=q.alloc (.cells (#[ao (some (aU o.heap.size)) 1 1,.map (some i.heap.size)]:AV) 172);K (au (some (aU q.heap.size))) r)/\(∃t:World,(Instr.mapUpdate 127 (.map (some i.heap.size)) (.agg g) (ag 0)).run prog o=.ok () t/\let u:=t.alloc (.cells #[au (some (aU d.heap.size))] 138);let v:=u.alloc (.cells (#[ao (some (aU t.heap.size)) 1 1,.map (some i.heap.size)]:AV) 172);K (au (some (aU u.heap.size))) v)))/\(let x:=d.alloc (.map #[] 0);(∃cs:AV,(.agg g:Value)=.agg cs/\cs.size=32/\Cells x (aU w.heap.size) cs)/\(∃cs:AV,(.agg e:Value)=.agg cs/\cs.size=32/\Cells x (aU w.heap.size) cs)/\(let y:=x.alloc (.cells f 145);(∃cs:AV,(.agg g:Value)=.agg cs/\cs.size=32/\Cells y (aU w.heap.size) cs)/\(let z:=y.alloc (.cells #[au (some (aU x.heap.size))] 138);(∃cs:AV,(.agg g:Value)=.agg cs/\cs.size=32/\Cells z (aU w.heap.size) cs)/\∃a1:World,(Instr.mapUpdate 127 (.map (some d.heap.size)) (.agg g) (ag 0)).run prog z=.ok () a1/\let b1:=a1.alloc (.cells (#[ao (some (aU y.heap.size)) 1 1,.map (some d.heap.size)]:AV) 172);K (au (some (aU a1.heap.size))) b1)/\(∃c1:World,(Instr.mapUpdate 127 (.map (some d.heap.size)) (.agg g) (ag 0)).run prog y=.ok () c1/\let d1:=c1.alloc (.cells #[au (some (aU x.heap.size))] 138);let e1:=d1.alloc (.cells (#[ao (some (aU c1.heap.size)) 1 1,.map (some d.heap.size)]:AV) 172);K (au (some (aU d1.heap.size))) e1))/\(∃f1:World,(Instr.mapUpdate 127 (.map (some d.heap.size)) (.agg g) (ag 0)).run prog x=.ok () f1/\(∃cs:AV,(.agg e:Value)=.agg cs/\cs.size=32/\Cells f1 (aU w.heap.size) cs)/\let g1:=f1.alloc (.cells f 145);let i1:=g1.alloc (.cells #[au (some (aU f1.heap.size))] 138);let j1:=i1.alloc (.cells (#[ao (some (aU g1.heap.size)) 1 1,.map (some d.heap.size)]:AV) 172);K (au (some (aU i1.heap.size))) j1))
variable{a K w}
theorem oQ.of(h:oQ.W a K w):bJ prog 122 #[.agg a] w K:=
 rqq func122 (C:=oQ.k) h
end
def lS.k:List Nat:= []
section
variable(a:OA)(b d:Nat)(K:KT)(w:World)
def lS.W:Prop:=
 let e:=w.alloc (.cells (#[ao a b d]:AV) 143);K (.func (.func 158) #[] #[au (some (aU w.heap.size))]) e
variable{a b d K w}
theorem lS.of(h:lS.W a b d K w):bJ prog 144 #[ao a b d] w K:=
 rqq func144 (C:=lS.k) h
end
def b0.k:List Nat:= []
def b0.q1(K:KT):aZ:=(aW 0 (dd (bf (body f16))++(bn f16)) (cH (λcM w_=>match cutAt b0.k (bf (body f16))with|true=>cO 26 (bf (body f16)) (cy prog f16 K) cM w_|false=>bz none [] prog 26 b0.k (bf (body f16)) (bn f16) (cy prog f16 K) cM w_) (cy prog f16 K)))
def b0.e1(a:OA)(b:Addr)(s:Int×Int):Env:= [(0,au a),(3,au (some b)),(4,ag s.1),(5,ag s.2)]
def b0.u1:List Nat:= [0,3,4,5]
section
variable(a:OA)(b:AV)(K:KT)(w:World)
def b0.W:Prop:=
 let d:=w.alloc (.cells b 24);cO 26 (.loop (lB (bB (sR (sL (sR (body f16))))))) (b0.q1 K) [(0,au a),(3,au (some (aU w.heap.size))),(4,ag 0),(5,ag 0)] d
variable{a b K w}
theorem b0.of(h:b0.W a b K w):bJ prog 16 #[au a,.agg b] w K:=
 rqq func16 (C:=b0.k) h
end
section
variable(a:OA)(b:Addr)(c d:Int)(Q:aZ)(w:World)
def b0.B1:Prop:=
 Is a λe:Addr=>∃f:OA,∃g i:Nat,w.cell? (e.add 0)=some (ao f g i)/\Split (decide (d<(g:Int))) (let j:=w.drew;Is a λk:Addr=>∃m:OA,∃n o:Nat,j.cell? (k.add 0)=some (ao m n o)/\(0<=d/\d<(n:Int))/\Is m λp:Addr=>∃q:AV,cS j ((p.add (d.toNat*33)).add 0) q/\∃r:AV,cS j b r/\(dT .u8 32 q/\dT .u8 32 r)/\Split (eR q r) (Q .ret [(0,au a),(3,au (some b)),(4,ag d),(5,ag d)] j) (Q .normal [(0,au a),(3,au (some b)),(4,ag c),(5,ag (i64.wrap (d+(1:Int))))] j)) (Q (.exit 0) [(0,au a),(3,au (some b)),(4,ag c),(5,ag d)] w)
theorem b0.b1:(bz none [] prog 26 b0.k (lB (bB (sR (sL (sR (body f16)))))) b0.u1 Q [(0,au a),(3,au (some b)),(4,ag c),(5,ag d)] w)=b0.B1 a b c d Q w:=by kernel_rfl
variable{a b}
theorem b0.cP(I:Int×Int->World->Prop)(μ:Int×Int->World->Nat)(s:Int×Int){Q:aZ}{w:World}(h0:I s w)
 (round:∀s w,I s w->b0.B1 a b (s.1) (s.2) (b7 (b0.e1 a b) I μ s w Q) w):cO 26 (.loop (lB (bB (sR (sL (sR (body f16))))))) Q (b0.e1 a b s) w:=
 bI ng mix (b0.e1 a b) I μ b0.k b0.u1 s (λs Q w=>b0.B1 a b (s.1) (s.2) Q w) (λs Q w=>b0.b1 a b (s.1) (s.2) Q w) h0 round
end
section
def b0.dA(a:OA)(b:Addr)(c d:Int)(K:KT)(w:World):Prop:=
 K (ag (-1)) w
variable(a:OA)(b:Addr)(c d:Int)(K:KT)(w:World)
theorem b0.dJ:(b0.q1 K (.exit 0) [(0,au a),(3,au (some b)),(4,ag c),(5,ag d)] w)=b0.dA a b c d K w:=by kernel_rfl
end
def aR.k:List Nat:= []
def aR.q1(K:KT):aZ:=(aW 0 (dd (dc (body Tryz.f26))++(bn Tryz.f26)) (cH (λcM w_=>match cutAt aR.k (dc (body Tryz.f26))with|true=>cO 64 (dc (body Tryz.f26)) (cy prog Tryz.f26 K) cM w_|false=>bz none [] prog 64 aR.k (dc (body Tryz.f26)) (bn Tryz.f26) (cy prog Tryz.f26 K) cM w_) (cy prog Tryz.f26 K)))
def aR.e1(a b:OA)(c d:Nat)(s:(OA)×Nat×Nat×(OA)×Nat×Nat×Int):Env:= [(0,au a),(4,ao b c d),(5,ao s.1 s.2.1 s.2.2.1),(6,ao s.2.2.2.1 s.2.2.2.2.1 s.2.2.2.2.2.1),(7,ag s.2.2.2.2.2.2)]
def aR.u1:List Nat:= [0,4,5,6,7]
def aR.q2(Q:aZ):aZ:=(aW 2 (dd (bf (lB (bB (sR (sL (bf (sR (body Tryz.f26))))))))++aR.u1) (aW 1 (dd (bf (lB (bB (sR (sL (bf (sR (body Tryz.f26))))))))++aR.u1) (cH (λcM w_=>match cutAt aR.k (bf (lB (bB (sR (sL (bf (sR (body Tryz.f26))))))))with|true=>cO 64 (bf (lB (bB (sR (sL (bf (sR (body Tryz.f26)))))))) Q cM w_|false=>bz none [] prog 64 aR.k (bf (lB (bB (sR (sL (bf (sR (body Tryz.f26)))))))) aR.u1 Q cM w_) Q)))
def aR.e2(a b:OA)(c d:Nat)(e:Int)(f:OA)(g i:Nat)(s:(OA)×Nat×Nat×(OA)×Nat×Nat×Int):Env:= [(0,au a),(4,ao b c d),(5,ao s.1 s.2.1 s.2.2.1),(6,ao s.2.2.2.1 s.2.2.2.2.1 s.2.2.2.2.2.1),(7,ag e),(9,ao f g i),(10,ag s.2.2.2.2.2.2)]
def aR.u2:List Nat:= [0,4,5,6,7,9,10]
section
variable(a b:OA)(d e:Nat)(K:KT)(w:World)
def aR.W:Prop:=
 ∃(f:OA) (g i:Nat) (j:World),(Builtin.append_ #[33,33] 33 #[ao none 0 0,ao b d e]).run prog w=.ok (ao f g i) j/\cO 64 (.loop (lB (bB (sR (sL (bf (sR (body Tryz.f26)))))))) (aR.q1 K) [(0,au a),(4,ao none 0 0),(5,ao none 0 0),(6,ao f g i),(7,ag 0)] j
variable{a b d e K w}
theorem aR.of(h:aR.W a b d e K w):bJ prog 26 #[au a,ao b d e] w K:=
 rqq func26 (C:=aR.k) h
end
section
variable(a b:OA)(c d:Nat)(e:OA)(f g:Nat)(i:OA)(j k:Nat)(m:Int)(Q:aZ)(w:World)
def aR.B1:Prop:=
 Split (decide (m<(j:Int))) ((0<=m/\m<(j:Int))/\Is i λn:Addr=>∃o:AV,cS w (n.add (m.toNat*32)) o/\bJ prog 16 #[au a,.agg o] w λp q=>∃r:Int,p=ag r/\Split (decide (r<(0:Int))) (Q .normal [(0,au a),(4,ao b c d),(5,ao e f g),(6,ao i j k),(7,ag (i64.wrap (m+(1:Int))))] q) (Is a λt:Addr=>∃u:OA,∃v x:Nat,q.cell? (t.add 0)=some (ao u v x)/\(0<=r/\r<(v:Int))/\Is u λy:Addr=>∃z:OA,∃a1 b1:Nat,q.cell? ((y.add (r.toNat*33)).add 32)=some (ao z a1 b1)/\cO 64 (.loop (lB (bB (dc (bB (sL (sR (lB (bB (sR (sL (bf (sR (body Tryz.f26)))))))))))))) (aR.q2 Q) [(0,au a),(4,ao b c d),(5,ao e f g),(6,ao i j k),(7,ag m),(9,ao z a1 b1),(10,ag 0)] q)) (Q (.exit 0) [(0,au a),(4,ao b c d),(5,ao e f g),(6,ao i j k),(7,ag m)] w)
theorem aR.b1:(bz none [] prog 64 aR.k (lB (bB (sR (sL (bf (sR (body Tryz.f26))))))) aR.u1 Q [(0,au a),(4,ao b c d),(5,ao e f g),(6,ao i j k),(7,ag m)] w)=aR.B1 a b c d e f g i j k m Q w:=by kernel_rfl
variable{a b c d}
theorem aR.cP(I:(OA)×Nat×Nat×(OA)×Nat×Nat×Int->World->Prop)(μ:(OA)×Nat×Nat×(OA)×Nat×Nat×Int->World->Nat)(s:(OA)×Nat×Nat×(OA)×Nat×Nat×Int){Q:aZ}{w:World}(h0:I s w)
 (round:∀s w,I s w->aR.B1 a b c d (s.1) (s.2.1) (s.2.2.1) (s.2.2.2.1) (s.2.2.2.2.1) (s.2.2.2.2.2.1) (s.2.2.2.2.2.2) (b7 (aR.e1 a b c d) I μ s w Q) w):cO 64 (.loop (lB (bB (sR (sL (bf (sR (body Tryz.f26)))))))) Q (aR.e1 a b c d s) w:=
 bI ng mix (aR.e1 a b c d) I μ aR.k aR.u1 s (λs Q w=>aR.B1 a b c d (s.1) (s.2.1) (s.2.2.1) (s.2.2.2.1) (s.2.2.2.2.1) (s.2.2.2.2.2.1) (s.2.2.2.2.2.2) Q w) (λs Q w=>aR.b1 a b c d (s.1) (s.2.1) (s.2.2.1) (s.2.2.2.1) (s.2.2.2.2.1) (s.2.2.2.2.2.1) (s.2.2.2.2.2.2) Q w) h0 round
end
section
def aR.dA(a b:OA)(c d:Nat)(e:OA)(f g:Nat)(i:OA)(j k:Nat)(m:Int)(K:KT)(w:World):Prop:=
 bJ prog 27 #[ao e f g] w λn o=>∃p:OA,∃q r:Nat,n=ao p q r/\K (ao p q r) o
variable(a b:OA)(c d:Nat)(e:OA)(f g:Nat)(i:OA)(j k:Nat)(m:Int)(K:KT)(w:World)
theorem aR.dJ:(aR.q1 K (.exit 0) [(0,au a),(4,ao b c d),(5,ao e f g),(6,ao i j k),(7,ag m)] w)=aR.dA a b c d e f g i j k m K w:=by kernel_rfl
end
section
variable(a b:OA)(c d:Nat)(e:OA)(f g:Nat)(i:OA)(j k:Nat)(m:Int)(n:OA)(o p:Nat)(q:Int)(Q:aZ)(w:World)
def aR.B2:Prop:=
 Split (decide (q<(o:Int))) ((0<=q/\q<(o:Int))/\Is n λr:Addr=>∃t:AV,cS w (r.add (q.toNat*32)) t/\bJ prog 38 #[ao e f g,.agg t] w λu v=>∃x:Bool,u=.bool x/\Split (!x) ((0<=q/\q<(o:Int))/\Is n λy:Addr=>∃z:AV,cS v (y.add (q.toNat*32)) z/\z.size=32/\let a1:=v.alloc (.cells (z.toList++ []).toArray 24);∃(b1:OA) (c1 d1:Nat) (e1:World),(Builtin.append_ #[33,33] 33 #[ao e f g,ao (some (aU v.heap.size)) 1 1]).run prog a1=.ok (ao b1 c1 d1) e1/\(0<=q/\q<(o:Int))/\Is n λf1:Addr=>∃g1:AV,cS e1 (f1.add (q.toNat*32)) g1/\g1.size=32/\let i1:=e1.alloc (.cells (g1.toList++ []).toArray 24);∃(j1:OA) (k1 m1:Nat) (n1:World),(Builtin.append_ #[33,33] 33 #[ao i j k,ao (some (aU e1.heap.size)) 1 1]).run prog i1=.ok (ao j1 k1 m1) n1/\Q .normal [(0,au a),(4,ao b c d),(5,ao b1 c1 d1),(6,ao j1 k1 m1),(7,ag m),(9,ao n o p),(10,ag (i64.wrap (q+(1:Int))))] n1) (Q .normal [(0,au a),(4,ao b c d),(5,ao e f g),(6,ao i j k),(7,ag m),(9,ao n o p),(10,ag (i64.wrap (q+(1:Int))))] v)) (Q (.exit 2) [(0,au a),(4,ao b c d),(5,ao e f g),(6,ao i j k),(7,ag m),(9,ao n o p),(10,ag q)] w)
theorem aR.b2:(bz none [] prog 64 aR.k (lB (bB (dc (bB (sL (sR (lB (bB (sR (sL (bf (sR (body Tryz.f26))))))))))))) aR.u2 Q [(0,au a),(4,ao b c d),(5,ao e f g),(6,ao i j k),(7,ag m),(9,ao n o p),(10,ag q)] w)=aR.B2 a b c d e f g i j k m n o p q Q w:=by kernel_rfl
variable{a b c d m n o p}
theorem aR.iY(I:(OA)×Nat×Nat×(OA)×Nat×Nat×Int->World->Prop)(μ:(OA)×Nat×Nat×(OA)×Nat×Nat×Int->World->Nat)(s:(OA)×Nat×Nat×(OA)×Nat×Nat×Int){Q:aZ}{w:World}(h0:I s w)
 (round:∀s w,I s w->aR.B2 a b c d (s.1) (s.2.1) (s.2.2.1) (s.2.2.2.1) (s.2.2.2.2.1) (s.2.2.2.2.2.1) m n o p (s.2.2.2.2.2.2) (b7 (aR.e2 a b c d m n o p) I μ s w Q) w):cO 64 (.loop (lB (bB (dc (bB (sL (sR (lB (bB (sR (sL (bf (sR (body Tryz.f26)))))))))))))) Q (aR.e2 a b c d m n o p s) w:=
 bI ng mix (aR.e2 a b c d m n o p) I μ aR.k aR.u2 s (λs Q w=>aR.B2 a b c d (s.1) (s.2.1) (s.2.2.1) (s.2.2.2.1) (s.2.2.2.2.1) (s.2.2.2.2.2.1) m n o p (s.2.2.2.2.2.2) Q w) (λs Q w=>aR.b2 a b c d (s.1) (s.2.1) (s.2.2.1) (s.2.2.2.1) (s.2.2.2.2.1) (s.2.2.2.2.2.1) m n o p (s.2.2.2.2.2.2) Q w) h0 round
end
section
def aR.jJ(a b:OA)(c d:Nat)(e:OA)(f g:Nat)(i:OA)(j k:Nat)(m:Int)(n:OA)(o p:Nat)(q:Int)(Q:aZ)(w:World):Prop:=
 Q .normal [(0,au a),(4,ao b c d),(5,ao e f g),(6,ao i j k),(7,ag (i64.wrap (m+(1:Int))))] w
variable(a b:OA)(c d:Nat)(e:OA)(f g:Nat)(i:OA)(j k:Nat)(m:Int)(n:OA)(o p:Nat)(q:Int)(Q:aZ)(w:World)
theorem aR.lA:(aR.q2 Q (.exit 2) [(0,au a),(4,ao b c d),(5,ao e f g),(6,ao i j k),(7,ag m),(9,ao n o p),(10,ag q)] w)=aR.jJ a b c d e f g i j k m n o p q Q w:=by kernel_rfl
end
def ft.k:List Nat:= []
section
variable(a:OA)(b d:AV)(K:KT)(w:World)
def ft.W:Prop:=
 let e:=w.alloc (.cells b 24);let f:=e.alloc (.cells d 24);let g:=f.drew;∃i:AV,cS g (aU w.heap.size) i/\bJ prog 16 #[au a,.agg i] g λj k=>∃m:Int,j=ag m/\Split (decide (m>=(0:Int))) (∃n:AV,cS k (aU e.heap.size) n/\∃o:AV,cS k (aU w.heap.size) o/\n.size=32/\let p:=k.alloc (.cells (n.toList++ []).toArray 24);(∃cs:AV,(.agg o:Value)=.agg cs/\cs.size=32/\Cells p (aU w.heap.size) cs)/\bJ prog 26 #[au a,ao (some (aU k.heap.size)) 1 1] p λq r=>∃t:OA,∃u v:Nat,q=ao t u v/\(∃cs:AV,(.agg o:Value)=.agg cs/\cs.size=32/\Cells r (aU w.heap.size) cs)/\bJ prog 38 #[ao t u v,.agg o] r λx y=>∃z:Bool,x=.bool z/\K (.bool z) y) (K (.bool false) k)
variable{a b d K w}
theorem ft.of(h:ft.W a b d K w):bJ prog 28 #[au a,.agg b,.agg d] w K:=
 rqq func28 (C:=ft.k) h
end
def bU.k:List Nat:= []
def bU.q1(K:KT):aZ:=(aW 0 (dd (bf (sR (body f58)))++(bn f58)) (cH (λcM w_=>match cutAt bU.k (bf (sR (body f58)))with|true=>cO 39 (bf (sR (body f58))) (cy prog f58 K) cM w_|false=>bz none [] prog 39 bU.k (bf (sR (body f58))) (bn f58) (cy prog f58 K) cM w_) (cy prog f58 K)))
def bU.e1(a b:OA)(c d:Nat)(s:(OA)×Nat×Nat×Int):Env:= [(0,au a),(2,ao b c d),(3,ao s.1 s.2.1 s.2.2.1),(4,ag s.2.2.2)]
def bU.u1:List Nat:= [0,2,3,4]
section
variable(a:OA)(K:KT)(w:World)
def bU.W:Prop:=
 cO 39 (.loop (lB (bB (sR (sL (bf (body f58))))))) (bU.q1 K) [(0,au a),(2,ao none 0 0),(3,ao none 0 0),(4,ag 0)] w
variable{a K w}
theorem bU.of(h:bU.W a K w):bJ prog 58 #[au a] w K:=
 rqq func58 (C:=bU.k) h
end
section
variable(a b:OA)(c d:Nat)(e:OA)(f g:Nat)(i:Int)(Q:aZ)(w:World)
def bU.B1:Prop:=
 Is a λj:Addr=>∃k:OA,∃m n:Nat,w.cell? (j.add 0)=some (ao k m n)/\Split (decide (i<(m:Int))) (Is a λo:Addr=>∃p:OA,∃q r:Nat,w.cell? (o.add 0)=some (ao p q r)/\(0<=i/\i<(q:Int))/\Is p λt:Addr=>∃u:AV,cS w ((t.add (i.toNat*33)).add 0) u/\bJ prog 103 #[au a,.agg u] w λv x=>∃y:OA,∃z a1:Nat,v=ao y z a1/\Split ((z:Int)==(0:Int)) (Is a λb1:Addr=>∃c1:OA,∃d1 e1:Nat,x.cell? (b1.add 0)=some (ao c1 d1 e1)/\(0<=i/\i<(d1:Int))/\Is c1 λf1:Addr=>∃g1:AV,cS x ((f1.add (i.toNat*33)).add 0) g1/\g1.size=32/\let i1:=x.alloc (.cells (g1.toList++ []).toArray 24);∃(j1:OA) (k1 m1:Nat) (n1:World),(Builtin.append_ #[33,33] 33 #[ao e f g,ao (some (aU x.heap.size)) 1 1]).run prog i1=.ok (ao j1 k1 m1) n1/\Q .normal [(0,au a),(2,ao b c d),(3,ao j1 k1 m1),(4,ag (i64.wrap (i+(1:Int))))] n1) (Q .normal [(0,au a),(2,ao b c d),(3,ao e f g),(4,ag (i64.wrap (i+(1:Int))))] x)) (Q (.exit 0) [(0,au a),(2,ao b c d),(3,ao e f g),(4,ag i)] w)
theorem bU.b1:(bz none [] prog 39 bU.k (lB (bB (sR (sL (bf (body f58)))))) bU.u1 Q [(0,au a),(2,ao b c d),(3,ao e f g),(4,ag i)] w)=bU.B1 a b c d e f g i Q w:=by kernel_rfl
variable{a b c d}
theorem bU.cP(I:(OA)×Nat×Nat×Int->World->Prop)(μ:(OA)×Nat×Nat×Int->World->Nat)(s:(OA)×Nat×Nat×Int){Q:aZ}{w:World}(h0:I s w)
 (round:∀s w,I s w->bU.B1 a b c d (s.1) (s.2.1) (s.2.2.1) (s.2.2.2) (b7 (bU.e1 a b c d) I μ s w Q) w):cO 39 (.loop (lB (bB (sR (sL (bf (body f58))))))) Q (bU.e1 a b c d s) w:=
 bI ng mix (bU.e1 a b c d) I μ bU.k bU.u1 s (λs Q w=>bU.B1 a b c d (s.1) (s.2.1) (s.2.2.1) (s.2.2.2) Q w) (λs Q w=>bU.b1 a b c d (s.1) (s.2.1) (s.2.2.1) (s.2.2.2) Q w) h0 round
end
section
def bU.dA(a b:OA)(c d:Nat)(e:OA)(f g:Nat)(i:Int)(K:KT)(w:World):Prop:=
 bJ prog 27 #[ao e f g] w λj k=>∃m:OA,∃n o:Nat,j=ao m n o/\K (ao m n o) k
variable(a b:OA)(c d:Nat)(e:OA)(f g:Nat)(i:Int)(K:KT)(w:World)
theorem bU.dJ:(bU.q1 K (.exit 0) [(0,au a),(2,ao b c d),(3,ao e f g),(4,ag i)] w)=bU.dA a b c d e f g i K w:=by kernel_rfl
end
def bW.k:List Nat:= []
def bW.q1(K:KT):aZ:=(aW 0 (dd (dc (sR (body f88)))++(bn f88)) (cH (λcM w_=>match cutAt bW.k (dc (sR (body f88)))with|true=>cO 51 (dc (sR (body f88))) (cy prog f88 K) cM w_|false=>bz none [] prog 51 bW.k (dc (sR (body f88))) (bn f88) (cy prog f88 K) cM w_) (cy prog f88 K)))
def bW.e1(a:OA)(b:Addr)(c:OA)(d e:Nat)(s:Int×Int):Env:= [(0,au a),(4,au (some b)),(6,ag s.1),(7,ao c d e),(8,ag s.2)]
def bW.u1:List Nat:= [0,4,6,7,8]
section
variable(a:OA)(b:AV)(d:OA)(e f:Nat)(K:KT)(w:World)
def bW.W:Prop:=
 let g:=w.alloc (.cells b 24);∃i:AV,cS g (aU w.heap.size) i/\bJ prog 16 #[au a,.agg i] g λj k=>∃m:Int,j=ag m/\Split (decide (m>=(0:Int))) (K (ag 7) k) (bJ prog 27 #[ao d e f] k λn o=>∃p:OA,∃q r:Nat,n=ao p q r/\Split ((q:Int)==(0:Int)) (K (ag 9) o) (Split ((q:Int) != (e:Int)) (K (ag 9) o) (cO 51 (.loop (lB (bB (sR (sL (dc (body f88))))))) (bW.q1 K) [(0,au a),(4,au (some (aU w.heap.size))),(6,ag 0),(7,ao p q r),(8,ag 0)] o)))
variable{a b d e f K w}
theorem bW.of(h:bW.W a b d e f K w):bJ prog 88 #[au a,.agg b,ao d e f] w K:=
 rqq func88 (C:=bW.k) h
end
section
variable(a:OA)(b:Addr)(c:Int)(d:OA)(e f:Nat)(g:Int)(Q:aZ)(w:World)
def bW.B1:Prop:=
 Split (decide (g<(e:Int))) ((0<=g/\g<(e:Int))/\Is d λi:Addr=>∃j:AV,cS w (i.add (g.toNat*32)) j/\bJ prog 16 #[au a,.agg j] w λk m=>∃n:Int,k=ag n/\Split (decide (n<(0:Int))) (Q .ret [(0,au a),(4,au (some b)),(6,ag 6),(7,ao d e f),(8,ag g)] m) (Q .normal [(0,au a),(4,au (some b)),(6,ag c),(7,ao d e f),(8,ag (i64.wrap (g+(1:Int))))] m)) (Q (.exit 0) [(0,au a),(4,au (some b)),(6,ag c),(7,ao d e f),(8,ag g)] w)
theorem bW.b1:(bz none [] prog 51 bW.k (lB (bB (sR (sL (dc (body f88)))))) bW.u1 Q [(0,au a),(4,au (some b)),(6,ag c),(7,ao d e f),(8,ag g)] w)=bW.B1 a b c d e f g Q w:=by kernel_rfl
variable{a b d e f}
theorem bW.cP(I:Int×Int->World->Prop)(μ:Int×Int->World->Nat)(s:Int×Int){Q:aZ}{w:World}(h0:I s w)
 (round:∀s w,I s w->bW.B1 a b (s.1) d e f (s.2) (b7 (bW.e1 a b d e f) I μ s w Q) w):cO 51 (.loop (lB (bB (sR (sL (dc (body f88))))))) Q (bW.e1 a b d e f s) w:=
 bI ng mix (bW.e1 a b d e f) I μ bW.k bW.u1 s (λs Q w=>bW.B1 a b (s.1) d e f (s.2) Q w) (λs Q w=>bW.b1 a b (s.1) d e f (s.2) Q w) h0 round
end
section
def bW.dA(a:OA)(b:Addr)(c:Int)(d:OA)(e f:Nat)(g:Int)(K:KT)(w:World):Prop:=
 let i:=w.drew;Is a λj:Addr=>∃k:OA,∃m n:Nat,i.cell? (j.add 0)=some (ao k m n)/\∃o:AV,cS i b o/\Is (prog.built 69 [(0,.agg o),(1,ao d e f)]) λp:AV=>(∃(q:OA) (r t:Nat) (u:World),(Builtin.append_ #[38,38] 38 #[ao none 0 0,ao k m n]).run prog i=.ok (ao q r t) u/\(∃cs:AV,(.agg o:Value)=.agg cs/\cs.size=32/\Cells u b cs)/\p.size=33/\let v:=u.alloc (.cells (p.toList++ []).toArray 69);∃(x:OA) (y z:Nat) (a1:World),(Builtin.append_ #[38,38] 38 #[ao q r t,ao (some (aU u.heap.size)) 1 1]).run prog v=.ok (ao x y z) a1/\Is a λb1:Addr=>Wr a1 (b1.add 0)/\let c1:=a1.setCell (b1.add 0) (ao x y z);K (ag 0) c1)/\(p.size=33/\let d1:=i.alloc (.cells (p.toList++ []).toArray 69);d1.cell? (j.add 0)=some (ao k m n)/\∃(e1:OA) (f1 g1:Nat) (i1:World),(Builtin.append_ #[38,38] 38 #[ao none 0 0,ao k m n]).run prog d1=.ok (ao e1 f1 g1) i1/\∃(j1:OA) (k1 m1:Nat) (n1:World),(Builtin.append_ #[38,38] 38 #[ao e1 f1 g1,ao (some (aU i.heap.size)) 1 1]).run prog i1=.ok (ao j1 k1 m1) n1/\Is a λo1:Addr=>Wr n1 (o1.add 0)/\let p1:=n1.setCell (o1.add 0) (ao j1 k1 m1);K (ag 0) p1)
variable(a:OA)(b:Addr)(c:Int)(d:OA)(e f:Nat)(g:Int)(K:KT)(w:World)
theorem bW.dJ:(bW.q1 K (.exit 0) [(0,au a),(4,au (some b)),(6,ag c),(7,ao d e f),(8,ag g)] w)=bW.dA a b c d e f g K w:=by kernel_rfl
end
def bH.k:List Nat:= []
def bH.q1(K:KT):aZ:=(aW 0 (dd (bf (sR (body f103)))++(bn f103)) (cH (λcM w_=>match cutAt bH.k (bf (sR (body f103)))with|true=>cO 39 (bf (sR (body f103))) (cy prog f103 K) cM w_|false=>bz none [] prog 39 bH.k (bf (sR (body f103))) (bn f103) (cy prog f103 K) cM w_) (cy prog f103 K)))
def bH.e1(a:OA)(b:Addr)(c:OA)(d e:Nat)(s:(OA)×Nat×Nat×Int):Env:= [(0,au a),(3,au (some b)),(4,ao c d e),(5,ao s.1 s.2.1 s.2.2.1),(6,ag s.2.2.2)]
def bH.u1:List Nat:= [0,3,4,5,6]
section
variable(a:OA)(b:AV)(K:KT)(w:World)
def bH.W:Prop:=
 let d:=w.alloc (.cells b 24);cO 39 (.loop (lB (bB (sR (sL (bf (body f103))))))) (bH.q1 K) [(0,au a),(3,au (some (aU w.heap.size))),(4,ao none 0 0),(5,ao none 0 0),(6,ag 0)] d
variable{a b K w}
theorem bH.of(h:bH.W a b K w):bJ prog 103 #[au a,.agg b] w K:=
 rqq func103 (C:=bH.k) h
end
section
variable(a:OA)(b:Addr)(c:OA)(d e:Nat)(f:OA)(g i:Nat)(j:Int)(Q:aZ)(w:World)
def bH.B1:Prop:=
 Is a λk:Addr=>∃m:OA,∃n o:Nat,w.cell? (k.add 0)=some (ao m n o)/\Split (decide (j<(n:Int))) (let p:=w.drew;Is a λq:Addr=>∃r:OA,∃t u:Nat,p.cell? (q.add 0)=some (ao r t u)/\(0<=j/\j<(t:Int))/\Is r λv:Addr=>∃x:OA,∃y z:Nat,p.cell? ((v.add (j.toNat*33)).add 32)=some (ao x y z)/\∃a1:AV,cS p b a1/\bJ prog 38 #[ao x y z,.agg a1] p λb1 c1=>∃d1:Bool,b1=.bool d1/\Split d1 (Is a λe1:Addr=>∃f1:OA,∃g1 i1:Nat,c1.cell? (e1.add 0)=some (ao f1 g1 i1)/\(0<=j/\j<(g1:Int))/\Is f1 λj1:Addr=>∃k1:AV,cS c1 ((j1.add (j.toNat*33)).add 0) k1/\k1.size=32/\let m1:=c1.alloc (.cells (k1.toList++ []).toArray 24);∃(n1:OA) (o1 p1:Nat) (q1:World),(Builtin.append_ #[33,33] 33 #[ao f g i,ao (some (aU c1.heap.size)) 1 1]).run prog m1=.ok (ao n1 o1 p1) q1/\Q .normal [(0,au a),(3,au (some b)),(4,ao c d e),(5,ao n1 o1 p1),(6,ag (i64.wrap (j+(1:Int))))] q1) (Q .normal [(0,au a),(3,au (some b)),(4,ao c d e),(5,ao f g i),(6,ag (i64.wrap (j+(1:Int))))] c1)) (Q (.exit 0) [(0,au a),(3,au (some b)),(4,ao c d e),(5,ao f g i),(6,ag j)] w)
theorem bH.b1:(bz none [] prog 39 bH.k (lB (bB (sR (sL (bf (body f103)))))) bH.u1 Q [(0,au a),(3,au (some b)),(4,ao c d e),(5,ao f g i),(6,ag j)] w)=bH.B1 a b c d e f g i j Q w:=by kernel_rfl
variable{a b c d e}
theorem bH.cP(I:(OA)×Nat×Nat×Int->World->Prop)(μ:(OA)×Nat×Nat×Int->World->Nat)(s:(OA)×Nat×Nat×Int){Q:aZ}{w:World}(h0:I s w)
 (round:∀s w,I s w->bH.B1 a b c d e (s.1) (s.2.1) (s.2.2.1) (s.2.2.2) (b7 (bH.e1 a b c d e) I μ s w Q) w):cO 39 (.loop (lB (bB (sR (sL (bf (body f103))))))) Q (bH.e1 a b c d e s) w:=
 bI ng mix (bH.e1 a b c d e) I μ bH.k bH.u1 s (λs Q w=>bH.B1 a b c d e (s.1) (s.2.1) (s.2.2.1) (s.2.2.2) Q w) (λs Q w=>bH.b1 a b c d e (s.1) (s.2.1) (s.2.2.1) (s.2.2.2) Q w) h0 round
end
section
def bH.dA(a:OA)(b:Addr)(c:OA)(d e:Nat)(f:OA)(g i:Nat)(j:Int)(K:KT)(w:World):Prop:=
 bJ prog 27 #[ao f g i] w λk m=>∃n:OA,∃o p:Nat,k=ao n o p/\K (ao n o p) m
variable(a:OA)(b:Addr)(c:OA)(d e:Nat)(f:OA)(g i:Nat)(j:Int)(K:KT)(w:World)
theorem bH.dJ:(bH.q1 K (.exit 0) [(0,au a),(3,au (some b)),(4,ao c d e),(5,ao f g i),(6,ag j)] w)=bH.dA a b c d e f g i j K w:=by kernel_rfl
end
def fL.k:List Nat:= []
section
variable(a:OA)(b d:AV)(K:KT)(w:World)
def fL.W:Prop:=
 let e:=w.alloc (.cells b 24);let f:=e.alloc (.cells d 24);∃g:AV,cS f (aU w.heap.size) g/\∃i:AV,cS f (aU e.heap.size) i/\(dT .u8 32 g/\dT .u8 32 i)/\Split (!(eR g i)) (∃j:AV,cS f (aU w.heap.size) j/\∃k:AV,cS f (aU e.heap.size) k/\bJ prog 28 #[au a,.agg j,.agg k] f λm n=>∃o:Bool,m=.bool o/\Split (!o) (∃p:AV,cS n (aU e.heap.size) p/\∃q:AV,cS n (aU w.heap.size) q/\bJ prog 28 #[au a,.agg p,.agg q] n λr t=>∃u:Bool,r=.bool u/\K (.bool (!u)) t) (K (.bool false) n)) (K (.bool false) f)
variable{a b d K w}
theorem fL.of(h:fL.W a b d K w):bJ prog 104 #[au a,.agg b,.agg d] w K:=
 rqq func104 (C:=fL.k) h
end
def bu.k:List Nat:= []
def bu.q1(K:KT):aZ:=(aW 0 (dd (bf (sR (body f111)))++(bn f111)) (cH (λcM w_=>match cutAt bu.k (bf (sR (body f111)))with|true=>cO 47 (bf (sR (body f111))) (cy prog f111 K) cM w_|false=>bz none [] prog 47 bu.k (bf (sR (body f111))) (bn f111) (cy prog f111 K) cM w_) (cy prog f111 K)))
def bu.e1(a:Addr)(b:OA)(c d:Nat)(e:OA)(f g:Nat)(i:Int)(s:(OA)×Nat×Nat×Int):Env:= [(2,au (some a)),(4,ao b c d),(5,ao s.1 s.2.1 s.2.2.1),(11,ao e f g),(12,ag i),(13,ag s.2.2.2)]
def bu.u1:List Nat:= [2,4,5,11,12,13]
def bu.Hx(K:KT):aZ:=(aW 2 (dd (dc (sR (body f111)))++(bn f111)) (cH (λcM w_=>match cutAt bu.k (dc (sR (body f111)))with|true=>cO 47 (dc (sR (body f111))) (cy prog f111 K) cM w_|false=>bz none [] prog 47 bu.k (dc (sR (body f111))) (bn f111) (cy prog f111 K) cM w_) (cy prog f111 K)))
section
variable(a b:OA)(d e:Nat)(K:KT)(w:World)
def bu.W:Prop:=
 let f:=w.alloc (.cells (#[au a]:AV) 98);cO 47 (.loop (lB (bB (sR (sL (bf (body f111))))))) (bu.q1 K) [(2,au (some (aU w.heap.size))),(4,ao none 0 0),(5,ao none 0 0),(11,ao b d e),(12,ag (d:Int)),(13,ag 0)] f
variable{a b d e K w}
theorem bu.of(h:bu.W a b d e K w):bJ prog 111 #[au a,ao b d e] w K:=
 rqq func111 (C:=bu.k) h
end
section
variable(a:Addr)(b:OA)(c d:Nat)(e:OA)(f g:Nat)(i:OA)(j k:Nat)(m n:Int)(Q:aZ)(w:World)
def bu.B1:Prop:=
 Split (decide (n<m)) ((0<=n/\n<(j:Int))/\Is i λo:Addr=>∃p:AV,cS w (o.add (n.toNat*32)) p/\let q:=w.alloc (.cells zH 24);(p.size=32/\(∀r∈p.toList,r.oneCell'=true)/\∀t,t<32->Wr q ((aU w.heap.size).add t))/\let u:=setCells q (aU w.heap.size) p.toList 0;∃v:OA,u.cell? a=some (au v)/\∃x:AV,cS u (aU w.heap.size) x/\bJ prog 90 #[au v,.agg x] u λy z=>∃a1:OA,y=au a1/\Split (!(a1).isNone) (Is a1 λb1:Addr=>∃c1:OA,∃d1 e1:Nat,z.cell? (b1.add 34)=some (ao c1 d1 e1)/\bJ prog 143 #[ao e f g,ao c1 d1 e1] z λf1 g1=>∃i1:OA,∃j1 k1:Nat,f1=ao i1 j1 k1/\Q .normal [(2,au (some a)),(4,ao b c d),(5,ao i1 j1 k1),(11,ao i j k),(12,ag m),(13,ag (i64.wrap (n+(1:Int))))] g1) (Q .normal [(2,au (some a)),(4,ao b c d),(5,ao e f g),(11,ao i j k),(12,ag m),(13,ag (i64.wrap (n+(1:Int))))] z)) (Q (.exit 0) [(2,au (some a)),(4,ao b c d),(5,ao e f g),(11,ao i j k),(12,ag m),(13,ag n)] w)
theorem bu.b1:(bz none [] prog 47 bu.k (lB (bB (sR (sL (bf (body f111)))))) bu.u1 Q [(2,au (some a)),(4,ao b c d),(5,ao e f g),(11,ao i j k),(12,ag m),(13,ag n)] w)=bu.B1 a b c d e f g i j k m n Q w:=by kernel_rfl
variable{a b c d i j k m}
theorem bu.cP(I:(OA)×Nat×Nat×Int->World->Prop)(μ:(OA)×Nat×Nat×Int->World->Nat)(s:(OA)×Nat×Nat×Int){Q:aZ}{w:World}(h0:I s w)
 (round:∀s w,I s w->bu.B1 a b c d (s.1) (s.2.1) (s.2.2.1) i j k m (s.2.2.2) (b7 (bu.e1 a b c d i j k m) I μ s w Q) w):cO 47 (.loop (lB (bB (sR (sL (bf (body f111))))))) Q (bu.e1 a b c d i j k m s) w:=
 bI ng mix (bu.e1 a b c d i j k m) I μ bu.k bu.u1 s (λs Q w=>bu.B1 a b c d (s.1) (s.2.1) (s.2.2.1) i j k m (s.2.2.2) Q w) (λs Q w=>bu.b1 a b c d (s.1) (s.2.1) (s.2.2.1) i j k m (s.2.2.2) Q w) h0 round
end
section
def bu.dA(a:Addr)(b:OA)(c d:Nat)(e:OA)(f g:Nat)(i:OA)(j k:Nat)(m n:Int)(K:KT)(w:World):Prop:=
 let o:=w.alloc (.cells (#[ao none 0 0]:AV) 33);bJ prog 144 #[ao e f g] o λp q=>∃r:Value,p=r/\cO 47 (bB (sR (sL (dc (body f111))))) (bu.Hx K) [(2,au (some a)),(4,ao b c d),(9,au (some (aU w.heap.size))),(30,r)] q
variable(a:Addr)(b:OA)(c d:Nat)(e:OA)(f g:Nat)(i:OA)(j k:Nat)(m n:Int)(K:KT)(w:World)
theorem bu.dJ:(bu.q1 K (.exit 0) [(2,au (some a)),(4,ao b c d),(5,ao e f g),(11,ao i j k),(12,ag m),(13,ag n)] w)=bu.dA a b c d e f g i j k m n K w:=by kernel_rfl
end
section
def bu.A1(l:Nat)(a:Addr)(b:OA)(c d:Nat)(e:Addr)(f:Value)(g:Int)(Q:aZ)(w:World):Prop:=
 Q .normal [(2,au (some a)),(9,au (some e)),(10,ag g)] w
variable(l:Nat)(a:Addr)(b:OA)(c d:Nat)(e:Addr)(f:Value)(g:Int)(Q:aZ)(w:World)
theorem bu.a1:(bz (some l) [] prog 47 bu.k (rA (bB (sR (sL (dc (body f111)))))) (dd (rB (bB (sR (sL (dc (body f111))))))) Q [(2,au (some a)),(4,ao b c d),(9,au (some e)),(30,f),(31,ag g)] w)=bu.A1 l a b c d e f g Q w:=by kernel_rfl
end
section
def bu.Y1(l:Nat)(a b:Addr)(c:Int)(Q:aZ)(w:World):Prop:=
 let d:=w.drew;∃e:OA,∃f g:Nat,d.cell? b=some (ao e f g)/\∃i:OA,d.cell? a=some (au i)/\Is i λj:Addr=>∃k:OA,∃m n:Nat,d.cell? (j.add 0)=some (ao k m n)/\(0<=c/\c<(m:Int))/\Is k λo:Addr=>∃p:OA,d.cell? (o.add (c.toNat*1))=some (au p)/\Is p λq:Addr=>∃r:AV,cS d (q.add 0) r/\r.size=32/\let t:=d.alloc (.cells (r.toList++ []).toArray 24);t.cell? b=some (ao e f g)/\∃(u:OA) (v x:Nat) (y:World),(Builtin.append_ #[33,33] 33 #[ao e f g,ao (some (aU d.heap.size)) 1 1]).run prog t=.ok (ao u v x) y/\Wr y b/\let z:=y.setCell b (ao u v x);Q .normal [] z
variable(l:Nat)(a b:Addr)(c:Int)(Q:aZ)(w:World)
theorem bu.y1:(bz (some l) [] prog 47 bu.k (rB (bB (sR (sL (dc (body f111)))))) [] Q [(2,au (some a)),(9,au (some b)),(10,ag c)] w)=bu.Y1 l a b c Q w:=by kernel_rfl
end
section
def bu.kZ(a:Addr)(b:OA)(c d:Nat)(e:Addr)(f:Value)(ms:AV)(K:KT)(w:World):Prop:=
 ∃g:OA,∃i j:Nat,w.cell? e=some (ao g i j)/\bJ prog 57 #[ao g i j] w λk m=>∃n:OA,∃o p:Nat,k=ao n o p/\mL (marksOf (.agg ms)) m/\K (ao n o p) (iK (marksOf (.agg ms)) m)
variable(a:Addr)(b:OA)(c d:Nat)(e:Addr)(f:Value)(ms:AV)(K:KT)(w:World)
theorem bu.mz:(bu.Hx K .normal [(2,au (some a)),(4,ao b c d),(9,au (some e)),(30,f),(4294967296,.agg ms)] w)=bu.kZ a b c d e f ms K w:=by kernel_rfl
end
def aX.k:List Nat:= []
def aX.Hx(K:KT):aZ:=(aW 0 (dd (bf (body f140))++(bn f140)) (cH (λcM w_=>match cutAt aX.k (bf (body f140))with|true=>cO 13 (bf (body f140)) (cy prog f140 K) cM w_|false=>bz none [] prog 13 aX.k (bf (body f140)) (bn f140) (cy prog f140 K) cM w_) (cy prog f140 K)))
section
variable(a:OA)(b d:Nat)(e:Value)(K:KT)(w:World)
def aX.W:Prop:=
 let f:=w.alloc (.cells (#[ao a b d]:AV) 33);cO 13 (bB (sR (sL (sR (body f140))))) (aX.Hx K) [(2,au (some (aU w.heap.size))),(4,ao none 0 0),(6,e)] f
variable{a b d e K w}
theorem aX.of(h:aX.W a b d e K w):bJ prog 140 #[ao a b d,e] w K:=
 rqq func140 (C:=aX.k) h
end
section
def aX.A1(l:Nat)(a:Addr)(b:OA)(c d:Nat)(e:Value)(f:AV)(Q:aZ)(w:World):Prop:=
 let g:=w.alloc (.cells zH 24);(f.size=32/\(∀i∈f.toList,i.oneCell'=true)/\∀j,j<32->Wr g ((aU w.heap.size).add j))/\let k:=setCells g (aU w.heap.size) f.toList 0;Q .normal [(2,au (some a)),(5,au (some (aU w.heap.size)))] k
variable(l:Nat)(a:Addr)(b:OA)(c d:Nat)(e:Value)(f:AV)(Q:aZ)(w:World)
theorem aX.a1:(bz (some l) [] prog 13 aX.k (rA (bB (sR (sL (sR (body f140)))))) (dd (rB (bB (sR (sL (sR (body f140))))))) Q [(2,au (some a)),(4,ao b c d),(6,e),(7,.agg f)] w)=aX.A1 l a b c d e f Q w:=by kernel_rfl
end
section
def aX.Y1(l:Nat)(a b:Addr)(Q:aZ)(w:World):Prop:=
 ∃c:OA,∃d e:Nat,w.cell? a=some (ao c d e)/\∃f:AV,cS w b f/\f.size=32/\let g:=w.alloc (.cells (f.toList++ []).toArray 24);∃(i:OA) (j k:Nat) (m:World),(Builtin.append_ #[33,33] 33 #[ao c d e,ao (some (aU w.heap.size)) 1 1]).run prog g=.ok (ao i j k) m/\Wr m a/\let n:=m.setCell a (ao i j k);Q .normal [] n
variable(l:Nat)(a b:Addr)(Q:aZ)(w:World)
theorem aX.y1:(bz (some l) [] prog 13 aX.k (rB (bB (sR (sL (sR (body f140)))))) [] Q [(2,au (some a)),(5,au (some b))] w)=aX.Y1 l a b Q w:=by kernel_rfl
end
section
def aX.kZ(a:Addr)(b:OA)(c d:Nat)(e:Value)(ms:AV)(K:KT)(w:World):Prop:=
 ∃f:OA,∃g i:Nat,w.cell? a=some (ao f g i)/\mL (marksOf (.agg ms)) w/\K (ao f g i) (iK (marksOf (.agg ms)) w)
variable(a:Addr)(b:OA)(c d:Nat)(e:Value)(ms:AV)(K:KT)(w:World)
theorem aX.mz:(aX.Hx K .normal [(2,au (some a)),(4,ao b c d),(6,e),(4294967296,.agg ms)] w)=aX.kZ a b c d e ms K w:=by kernel_rfl
end
end Go.Proofs.YtfleamccglihoaaGreatDoor
