import Derived.Test.YtnboahlopghcjaaGreatDoorProg
import Derived.Test.YtnboahlopghcjaaGreatDoorMA
import Derived.Test.YtnboahlopghcjaaGreatDoorMB
set_option linter.unusedVariables false
namespace Go.Proofs.YtnboahlopghcjaaGreatDoor
open Go.Proofs.Tryz
open Go Go.bp
section
variable(a:OA)(K:KT)(w:World)
variable{a K w}
end
def fR.k:List Nat:= []
section
variable(a:OA)(b:Nat)(d:Nat)(K:KT)(w:World)
def fR.W:Prop:=
 aY prog 68 #[.slice a b d] w fun e f=> ∃g:Value,e=g/\aY prog 67 #[g,.func (.func 69) #[] #[]] f fun i j=> ∃k:OA,∃m:Nat,∃n:Nat,i=.slice k m n/\aY prog 66 #[.slice k m n] j fun o p=> ∃q:OA,∃r:Nat,∃t:Nat,o=.slice q r t/\K (.slice q r t) p
variable{a b d K w}
theorem fR.of(h:fR.W a b d K w):aY prog 41 #[.slice a b d] w K:=
 aH (C:=fR.k) (c:=body f41) ng mix func41 (by kernel_rfl) (by kernel_rfl) (by kernel_rfl) h
end
def jy.k:List Nat:= []
section
variable(a:AV)(K:KT)(w:World)
def jy.W:Prop:=
 let b:=w.alloc (.cells a 23);let d:=b.drew;∃e:AV,(e.size=32/\Cells d (⟨w.heap.size,0,none⟩:Addr) e)/\Is (prog.built 150 [(0,.agg e)]) fun f:AV=> ∃g:AV,(g.size=32/\Cells d (⟨w.heap.size,0,none⟩:Addr) g)/\(let i:=d.alloc (.cells f 150);(∃cs:AV,(.agg g:Value)=.agg cs/\cs.size=32/\Cells i (⟨w.heap.size,0,none⟩:Addr) cs)/\(let j:=i.alloc (.cells #[.pointer (some (⟨d.heap.size,0,none⟩:Addr))] 146);(∃cs:AV,(.agg g:Value)=.agg cs/\cs.size=32/\Cells j (⟨w.heap.size,0,none⟩:Addr) cs)/\let k:=j.alloc (.map #[] 0);(∃cs:AV,(.agg g:Value)=.agg cs/\cs.size=32/\Cells k (⟨w.heap.size,0,none⟩:Addr) cs)/\ ∃m:World,(Instr.mapUpdate 89 (.map (some j.heap.size)) (.agg g) (.int .i64 0)).run prog k=.ok () m/\let n:=m.alloc (.cells (#[.slice (some (⟨i.heap.size,0,none⟩:Addr)) 1 1,.map (some j.heap.size)]:AV) 115);K (.pointer (some (⟨m.heap.size,0,none⟩:Addr))) n)/\(let o:=i.alloc (.map #[] 0);(∃cs:AV,(.agg g:Value)=.agg cs/\cs.size=32/\Cells o (⟨w.heap.size,0,none⟩:Addr) cs)/\(let p:=o.alloc (.cells #[.pointer (some (⟨d.heap.size,0,none⟩:Addr))] 146);(∃cs:AV,(.agg g:Value)=.agg cs/\cs.size=32/\Cells p (⟨w.heap.size,0,none⟩:Addr) cs)/\ ∃q:World,(Instr.mapUpdate 89 (.map (some i.heap.size)) (.agg g) (.int .i64 0)).run prog p=.ok () q/\let r:=q.alloc (.cells (#[.slice (some (⟨o.heap.size,0,none⟩:Addr)) 1 1,.map (some i.heap.size)]:AV) 115);K (.pointer (some (⟨q.heap.size,0,none⟩:Addr))) r)/\(∃t:World,(Instr.mapUpdate 89 (.map (some i.heap.size)) (.agg g) (.int .i64 0)).run prog o=.ok () t/\let u:=t.alloc (.cells #[.pointer (some (⟨d.heap.size,0,none⟩:Addr))] 146);let v:=u.alloc (.cells (#[.slice (some (⟨t.heap.size,0,none⟩:Addr)) 1 1,.map (some i.heap.size)]:AV) 115);K (.pointer (some (⟨u.heap.size,0,none⟩:Addr))) v)))/\(let x:=d.alloc (.map #[] 0);(∃cs:AV,(.agg g:Value)=.agg cs/\cs.size=32/\Cells x (⟨w.heap.size,0,none⟩:Addr) cs)/\(∃cs:AV,(.agg e:Value)=.agg cs/\cs.size=32/\Cells x (⟨w.heap.size,0,none⟩:Addr) cs)/\(let y:=x.alloc (.cells f 150);(∃cs:AV,(.agg g:Value)=.agg cs/\cs.size=32/\Cells y (⟨w.heap.size,0,none⟩:Addr) cs)/\(let z:=y.alloc (.cells #[.pointer (some (⟨x.heap.size,0,none⟩:Addr))] 146);(∃cs:AV,(.agg g:Value)=.agg cs/\cs.size=32/\Cells z (⟨w.heap.size,0,none⟩:Addr) cs)/\ ∃a1:World,(Instr.mapUpdate 89 (.map (some d.heap.size)) (.agg g) (.int .i64 0)).run prog z=.ok () a1/\let b1:=a1.alloc (.cells (#[.slice (some (⟨y.heap.size,0,none⟩:Addr)) 1 1,.map (some d.heap.size)]:AV) 115);K (.pointer (some (⟨a1.heap.size,0,none⟩:Addr))) b1)/\(∃c1:World,(Instr.mapUpdate 89 (.map (some d.heap.size)) (.agg g) (.int .i64 0)).run prog y=.ok () c1/\let d1:=c1.alloc (.cells #[.pointer (some (⟨x.heap.size,0,none⟩:Addr))] 146);let e1:=d1.alloc (.cells (#[.slice (some (⟨c1.heap.size,0,none⟩:Addr)) 1 1,.map (some d.heap.size)]:AV) 115);K (.pointer (some (⟨d1.heap.size,0,none⟩:Addr))) e1))/\(∃f1:World,(Instr.mapUpdate 89 (.map (some d.heap.size)) (.agg g) (.int .i64 0)).run prog x=.ok () f1/\(∃cs:AV,(.agg e:Value)=.agg cs/\cs.size=32/\Cells f1 (⟨w.heap.size,0,none⟩:Addr) cs)/\let g1:=f1.alloc (.cells f 150);let i1:=g1.alloc (.cells #[.pointer (some (⟨f1.heap.size,0,none⟩:Addr))] 146);let j1:=i1.alloc (.cells (#[.slice (some (⟨g1.heap.size,0,none⟩:Addr)) 1 1,.map (some d.heap.size)]:AV) 115);K (.pointer (some (⟨i1.heap.size,0,none⟩:Addr))) j1))
variable{a K w}
theorem jy.of(h:jy.W a K w):aY prog 64 #[.agg a] w K:=
 aH (C:=jy.k) (c:=body f64) ng mix func64 (by kernel_rfl) (by kernel_rfl) (by kernel_rfl) h
end
def b9.k:List Nat:= []
section
variable(a:Value)(b:Value)(K:KT)(w:World)
def b9.W:Prop:=
 aY prog 98 #[a] w fun d e=> ∃f:OA,∃g:Nat,∃i:Nat,d=.slice f g i/\aY prog 72 #[.slice f g i,b] e fun j k=>j=.tuple #[]/\K (.slice f g i) k
variable{a b K w}
theorem b9.of(h:b9.W a b K w):aY prog 67 #[a,b] w K:=
 aH (C:=b9.k) (c:=body f67) ng mix func67 (by kernel_rfl) (by kernel_rfl) (by kernel_rfl) h
end
def cg.k:List Nat:= []
section
variable(a:OA)(b:Nat)(d:Nat)(K:KT)(w:World)
def cg.W:Prop:=
 let e:=w.alloc (.cells (#[.slice a b d]:AV) 35);K (.func (.func 99) #[] #[.pointer (some (⟨w.heap.size,0,none⟩:Addr))]) e
variable{a b d K w}
theorem cg.of(h:cg.W a b d K w):aY prog 68 #[.slice a b d] w K:=
 aH (C:=cg.k) (c:=body f68) ng mix func68 (by kernel_rfl) (by kernel_rfl) (by kernel_rfl) h
end
def aW.k:List Nat:= []
def aW.q1(K:KT):aJ:=(aK 1 (bY (sR (sR (sR (sR (sR (body f80))))))++(aO f80)) (bN (fun bS w_=>match cutAt aW.k (sR (sR (sR (sR (sR (body f80))))))with|true=>Holds none [] prog 101 (sR (sR (sR (sR (sR (body f80)))))) (bG prog f80 K) bS w_|false=>aT none [] prog 101 aW.k (sR (sR (sR (sR (sR (body f80)))))) (aO f80) (bG prog f80 K) bS w_) (bG prog f80 K)))
def aW.e1(a:Addr)(b:Addr)(c:Int)(d:Addr)(e:OA)(f:Nat)(g:Nat)(i:Int)(s:Int):Env:= [(3,.pointer (some a)),(4,.pointer (some b)),(6,.int .i64 c),(8,.pointer (some d)),(41,.slice e f g),(42,.int .i64 i),(43,.int .i64 s)]
def aW.u1:List Nat:= [3,4,6,8,41,42,43]
section
variable(a:OA)(b:AV)(d:OA)(e:Nat)(f:Nat)(K:KT)(w:World)
def aW.W:Prop:=
 let g:=w.alloc (.cells (#[.pointer a]:AV) 77);let i:=g.alloc (.cells b 23);aY prog 41 #[.slice d e f] i fun j k=> ∃m:OA,∃n:Nat,∃o:Nat,j=.slice m n o/\ ∃p:OA,k.cell? (⟨w.heap.size,0,none⟩:Addr)=some (.pointer p)/\aY prog 60 #[.pointer p] k fun q r=> ∃t:Bool,q=.bool t/\Split (!t) (K (.int .i64 1) r) (∃u:OA,r.cell? (⟨w.heap.size,0,none⟩:Addr)=some (.pointer u)/\ ∃v:AV,(v.size=32/\Cells r (⟨g.heap.size,0,none⟩:Addr) v)/\aY prog 79 #[.pointer u,.agg v] r fun x y=> ∃z:Bool,x=.bool z/\Split z (K (.int .i64 7) y) (Split ((n:Int)==(0:Int)) (K (.int .i64 9) y) (Split ((n:Int) != (e:Int)) (K (.int .i64 9) y) (aY prog 85 #[.slice m n o,.func (.func 107) #[] #[.pointer (some (⟨w.heap.size,0,none⟩:Addr))]] y fun a1 b1=> ∃c1:Bool,a1=.bool c1/\Split c1 (K (.int .i64 6) b1) (∃d1:AV,(d1.size=32/\Cells b1 (⟨g.heap.size,0,none⟩:Addr) d1)/\Is (prog.built 150 [(0,.agg d1),(1,.slice m n o)]) fun e1:AV=>let f1:=b1.alloc (.cells e1 150);Holds none [] prog 101 (.loop (lB (bB (sR (sL (sR (sR (sR (sR (body f80)))))))))) (aW.q1 K) [(3,.pointer (some (⟨w.heap.size,0,none⟩:Addr))),(4,.pointer (some (⟨g.heap.size,0,none⟩:Addr))),(6,.int .i64 0),(8,.pointer (some (⟨b1.heap.size,0,none⟩:Addr))),(41,.slice m n o),(42,.int .i64 (n:Int)),(43,.int .i64 0)] f1)))))
variable{a b d e f K w}
theorem aW.of(h:aW.W a b d e f K w):aY prog 80 #[.pointer a,.agg b,.slice d e f] w K:=
 aH (C:=aW.k) (c:=body f80) ng mix func80 (by kernel_rfl) (by kernel_rfl) (by kernel_rfl) h
end
section
variable(a:Addr)(b:Addr)(c:Int)(d:Addr)(e:OA)(f:Nat)(g:Nat)(i:Int)(j:Int)(Q:aJ)(w:World)
def aW.B1:Prop:=
 Split (decide (j<i)) ((0<=j/\j<(f:Int))/\Is e fun k:Addr=> ∃m:AV,(m.size=32/\Cells w (k.add (j.toNat*32)) m)/\let n:=w.alloc (.cells zH 23);(m.size=32/\(∀o∈m.toList,o.oneCell'=true)/\ ∀p,p<32->Wr n ((⟨w.heap.size,0,none⟩:Addr).add p))/\let q:=setCells n (⟨w.heap.size,0,none⟩:Addr) m.toList 0;∃r:OA,q.cell? a=some (.pointer r)/\ ∃t:AV,(t.size=32/\Cells q (⟨w.heap.size,0,none⟩:Addr) t)/\aY prog 101 #[.pointer r,.agg t] q fun u v=> ∃x:OA,u=.pointer x/\let y:=v.drew;∃z:OA,∃a1:Nat,∃b1:Nat,y.cell? (d.add 34)=some (.slice z a1 b1)/\Is x fun c1:Addr=> ∃d1:OA,∃e1:Nat,∃f1:Nat,y.cell? (c1.add 34)=some (.slice d1 e1 f1)/\ ∃g1:OA,y.cell? a=some (.pointer g1)/\Is g1 fun i1:Addr=> ∃j1:Option Nat,y.cell? (i1.add 1)=some (.map j1)/\ ∃k1:AV,(k1.size=32/\Cells y (⟨w.heap.size,0,none⟩:Addr) k1)/\ ∃m1:Int,(Instr.lookup 89 (.map j1) (.agg k1) false).run prog y=.ok (.int .i64 m1) y/\aY prog 102 #[.slice z a1 b1,.slice d1 e1 f1] y fun n1 o1=> ∃p1:OA,∃q1:Nat,∃r1:Nat,n1=.slice p1 q1 r1/\(Instr.lookup 89 (.map j1) (.agg k1) false).run prog o1=.ok (.int .i64 m1) o1/\(∃cs:AV,(.agg k1:Value)=.agg cs/\cs.size=32/\Cells o1 (⟨w.heap.size,0,none⟩:Addr) cs)/\o1.cell? (i1.add 1)=some (.map j1)/\o1.cell? a=some (.pointer g1)/\aY prog 108 #[.slice p1 q1 r1,.int .i64 m1] o1 fun t1 u1=> ∃v1:OA,∃x1:Nat,∃y1:Nat,t1=.slice v1 x1 y1/\Wr u1 (d.add 34)/\let z1:=u1.setCell (d.add 34) (.slice v1 x1 y1);let a2:=z1.drew;Is x fun b2:Addr=> ∃c2:OA,∃d2:Nat,∃e2:Nat,a2.cell? (b2.add 33)=some (.slice c2 d2 e2)/\ ∃f2:AV,(f2.size=32/\Cells a2 b f2)/\f2.size=32/\let g2:=a2.alloc (.cells (f2.toList++ []).toArray 23);g2.cell? (b2.add 33)=some (.slice c2 d2 e2)/\ ∃(i2:OA) (j2 k2:Nat) (m2:World),(Builtin.append_ #[35,35] 35 #[.slice c2 d2 e2,.slice (some (⟨a2.heap.size,0,none⟩:Addr)) 1 1]).run prog g2=.ok (.slice i2 j2 k2) m2/\aY prog 41 #[.slice i2 j2 k2] m2 fun n2 o2=> ∃p2:OA,∃q2:Nat,∃r2:Nat,n2=.slice p2 q2 r2/\Is x fun t2:Addr=>Wr o2 (t2.add 33)/\let u2:=o2.setCell (t2.add 33) (.slice p2 q2 r2);Q .normal [(3,.pointer (some a)),(4,.pointer (some b)),(6,.int .i64 c),(8,.pointer (some d)),(41,.slice e f g),(42,.int .i64 i),(43,.int .i64 (IntKind.i64.wrap (j+(1:Int))))] u2) (Q (.exit 1) [(3,.pointer (some a)),(4,.pointer (some b)),(6,.int .i64 c),(8,.pointer (some d)),(41,.slice e f g),(42,.int .i64 i),(43,.int .i64 j)] w)
theorem aW.b1:(aT none [] prog 101 aW.k (lB (bB (sR (sL (sR (sR (sR (sR (body f80))))))))) aW.u1 Q [(3,.pointer (some a)),(4,.pointer (some b)),(6,.int .i64 c),(8,.pointer (some d)),(41,.slice e f g),(42,.int .i64 i),(43,.int .i64 j)] w)=aW.B1 a b c d e f g i j Q w:=by kernel_rfl
variable{a b c d e f g i}
theorem aW.bU(I:Int->World->Prop)(μ:Int->World->Nat)(s:Int){Q:aJ}{w:World}(h0:I s w)
 (round: ∀s w,I s w->aW.B1 a b c d e f g i s (bF (aW.e1 a b c d e f g i) I μ s w Q) w):Holds none [] prog 101 (.loop (lB (bB (sR (sL (sR (sR (sR (sR (body f80)))))))))) Q (aW.e1 a b c d e f g i s) w:=
 ba ng mix (aW.e1 a b c d e f g i) I μ aW.k aW.u1 s (fun s Q w=>aW.B1 a b c d e f g i s Q w) (fun s Q w=>aW.b1 a b c d e f g i s Q w) h0 round
end
section
def aW.z8(a:Addr)(b:Addr)(c:Int)(d:Addr)(e:OA)(f:Nat)(g:Nat)(i:Int)(j:Int)(K:KT)(w:World):Prop:=
 let k:=w.drew;∃m:OA,k.cell? a=some (.pointer m)/\Is m fun n:Addr=> ∃o:Option Nat,k.cell? (n.add 1)=some (.map o)/\ ∃p:AV,(p.size=32/\Cells k b p)/\ ∃q:OA,k.cell? a=some (.pointer q)/\Is q fun r:Addr=> ∃t:OA,∃u:Nat,∃v:Nat,k.cell? (r.add 0)=some (.slice t u v)/\ ∃x:World,(Instr.mapUpdate 89 (.map o) (.agg p) (.int .i64 (u:Int))).run prog k=.ok () x/\let y:=x.drew;∃z:OA,y.cell? a=some (.pointer z)/\ ∃a1:OA,y.cell? a=some (.pointer a1)/\Is a1 fun b1:Addr=> ∃c1:OA,∃d1:Nat,∃e1:Nat,y.cell? (b1.add 0)=some (.slice c1 d1 e1)/\let f1:=y.alloc (.cells #[.pointer (some d)] 146);f1.cell? (b1.add 0)=some (.slice c1 d1 e1)/\f1.cell? a=some (.pointer a1)/\f1.cell? a=some (.pointer z)/\ ∃(g1:OA) (i1 j1:Nat) (k1:World),(Builtin.append_ #[113,113] 113 #[.slice c1 d1 e1,.slice (some (⟨y.heap.size,0,none⟩:Addr)) 1 1]).run prog f1=.ok (.slice g1 i1 j1) k1/\k1.cell? a=some (.pointer z)/\Is z fun m1:Addr=>Wr k1 (m1.add 0)/\let n1:=k1.setCell (m1.add 0) (.slice g1 i1 j1);K (.int .i64 0) n1
variable(a:Addr)(b:Addr)(c:Int)(d:Addr)(e:OA)(f:Nat)(g:Nat)(i:Int)(j:Int)(K:KT)(w:World)
theorem aW.GF:(aW.q1 K (.exit 1) [(3,.pointer (some a)),(4,.pointer (some b)),(6,.int .i64 c),(8,.pointer (some d)),(41,.slice e f g),(42,.int .i64 i),(43,.int .i64 j)] w)=aW.z8 a b c d e f g i j K w:=by kernel_rfl
end
def bZ.k:List Nat:= []
section
variable(a:OA)(b:Nat)(d:Nat)(K:KT)(w:World)
def bZ.W:Prop:=
 Split ((a).isNone) (K (.slice none 0 0) w) (let e:=w.alloc (.cells #[] 23);∃(f:OA) (g i:Nat) (j:World),(Builtin.append_ #[35,35] 35 #[.slice (some (⟨w.heap.size,0,none⟩:Addr)) 0 0,.slice a b d]).run prog e=.ok (.slice f g i) j/\K (.slice f g i) j)
variable{a b d K w}
theorem bZ.of(h:bZ.W a b d K w):aY prog 83 #[.slice a b d] w K:=
 aH (C:=bZ.k) (c:=body f83) ng mix func83 (by kernel_rfl) (by kernel_rfl) (by kernel_rfl) h
end
section
variable(a:OA)(K:KT)(w:World)
variable{a K w}
end
section
variable(a:OA)(b:Addr)(c:OA)(d:Nat)(e:Nat)(f:Int)(g:Int)(Q:aJ)(w:World)
variable{a b c d e f}
end
section
variable(a:OA)(b:Addr)(c:OA)(d:Nat)(e:Nat)(f:Int)(g:Int)(K:KT)(w:World)
end
def bR.k:List Nat:= []
section
variable(a:Value)(K:KT)(w:World)
def bR.W:Prop:=
 aY prog 118 #[.slice none 0 0,a] w fun b d=> ∃e:OA,∃f:Nat,∃g:Nat,b=.slice e f g/\K (.slice e f g) d
variable{a K w}
theorem bR.of(h:bR.W a K w):aY prog 98 #[a] w K:=
 aH (C:=bR.k) (c:=body f98) ng mix func98 (by kernel_rfl) (by kernel_rfl) (by kernel_rfl) h
end
def gR.k:List Nat:= []
section
variable(a:OA)(b:Nat)(d:Nat)(K:KT)(w:World)
def gR.W:Prop:=
 let e:=w.alloc (.cells (#[.slice a b d]:AV) 148);K (.func (.func 120) #[] #[.pointer (some (⟨w.heap.size,0,none⟩:Addr))]) e
variable{a b d K w}
theorem gR.of(h:gR.W a b d K w):aY prog 103 #[.slice a b d] w K:=
 aH (C:=gR.k) (c:=body f103) ng mix func103 (by kernel_rfl) (by kernel_rfl) (by kernel_rfl) h
end
end Go.Proofs.YtnboahlopghcjaaGreatDoor
namespace Go.Proofs.YtnboahlopghcjaaGreatDoor
open Go.Proofs.Tryz
open Go Go.bp
section
variable(a:OA)(b:AV)(d:AV)(K:KT)(w:World)
variable{a b d K w}
end
section
variable(a:OA)(b:OA)(d:Nat)(e:Nat)(K:KT)(w:World)
variable{a b d e K w}
end
section
variable(a:OA)(b:OA)(c:Nat)(d:Nat)(e:OA)(f:Nat)(g:Nat)(i:OA)(j:Nat)(k:Nat)(m:Int)(Q:aJ)(w:World)
variable{a b c d}
end
section
variable(a:OA)(b:OA)(c:Nat)(d:Nat)(e:OA)(f:Nat)(g:Nat)(i:OA)(j:Nat)(k:Nat)(m:Int)(K:KT)(w:World)
end
section
variable(a:OA)(b:OA)(c:Nat)(d:Nat)(e:OA)(f:Nat)(g:Nat)(i:OA)(j:Nat)(k:Nat)(m:Int)(n:OA)(o:Nat)(p:Nat)(q:Int)(Q:aJ)(w:World)
variable{a b c d m n o p}
end
section
variable(a:OA)(b:OA)(c:Nat)(d:Nat)(e:OA)(f:Nat)(g:Nat)(i:OA)(j:Nat)(k:Nat)(m:Int)(n:OA)(o:Nat)(p:Nat)(q:Int)(Q:aJ)(w:World)
end
section
variable(a:OA)(b:AV)(K:KT)(w:World)
variable{a b K w}
end
section
variable(a:OA)(b:Addr)(c:Int)(d:Int)(Q:aJ)(w:World)
variable{a b}
end
section
variable(a:OA)(b:Addr)(c:Int)(d:Int)(K:KT)(w:World)
end
section
variable(a:OA)(b:AV)(d:AV)(K:KT)(w:World)
variable{a b d K w}
end
section
variable(a:OA)(b:AV)(d:OA)(e:Nat)(f:Nat)(K:KT)(w:World)
variable{a b d e f K w}
end
section
variable(a:OA)(b:Addr)(c:Int)(d:OA)(e:Nat)(f:Nat)(g:Int)(Q:aJ)(w:World)
variable{a b d e f}
end
section
variable(a:OA)(b:Addr)(c:Int)(d:OA)(e:Nat)(f:Nat)(g:Int)(K:KT)(w:World)
end
end Go.Proofs.YtnboahlopghcjaaGreatDoor
namespace Go.Proofs.YtnboahlopghcjaaGreatDoor
open Go.Proofs.Tryz
open Go Go.bp
def aD.k:List Nat:= []
def aD.q1(K:KT):aJ:=(aK 0 (bY (sR (sR (sR (body f70))))++(aO f70)) (bN (fun bS w_=>match cutAt aD.k (sR (sR (sR (body f70))))with|true=>Holds none [] prog 47 (sR (sR (sR (body f70)))) (bG prog f70 K) bS w_|false=>aT none [] prog 47 aD.k (sR (sR (sR (body f70)))) (aO f70) (bG prog f70 K) bS w_) (bG prog f70 K)))
def aD.e1(a:Addr)(b:OA)(c:Nat)(d:Nat)(e:OA)(f:Nat)(g:Nat)(i:Int)(s:(OA)×Nat×Nat×Int):Env:= [(2,.pointer (some a)),(4,.slice b c d),(5,.slice s.1 s.2.1 s.2.2.1),(11,.slice e f g),(12,.int .i64 i),(13,.int .i64 s.2.2.2)]
def aD.u1:List Nat:= [2,4,5,11,12,13]
def aD.wm(K:KT):aJ:=(aK 2 (bY (sR (sR (sR (sR (sR (body f70))))))++(aO f70)) (bN (fun bS w_=>match cutAt aD.k (sR (sR (sR (sR (sR (body f70))))))with|true=>Holds none [] prog 47 (sR (sR (sR (sR (sR (body f70)))))) (bG prog f70 K) bS w_|false=>aT none [] prog 47 aD.k (sR (sR (sR (sR (sR (body f70)))))) (aO f70) (bG prog f70 K) bS w_) (bG prog f70 K)))
section
variable(a:OA)(b:OA)(d:Nat)(e:Nat)(K:KT)(w:World)
def aD.W:Prop:=
 let f:=w.alloc (.cells (#[.pointer a]:AV) 77);Holds none [] prog 47 (.loop (lB (bB (sR (sL (sR (sR (body f70)))))))) (aD.q1 K) [(2,.pointer (some (⟨w.heap.size,0,none⟩:Addr))),(4,.slice none 0 0),(5,.slice none 0 0),(11,.slice b d e),(12,.int .i64 (d:Int)),(13,.int .i64 0)] f
variable{a b d e K w}
theorem aD.of(h:aD.W a b d e K w):aY prog 70 #[.pointer a,.slice b d e] w K:=
 aH (C:=aD.k) (c:=body f70) ng mix func70 (by kernel_rfl) (by kernel_rfl) (by kernel_rfl) h
end
section
variable(a:Addr)(b:OA)(c:Nat)(d:Nat)(e:OA)(f:Nat)(g:Nat)(i:OA)(j:Nat)(k:Nat)(m:Int)(n:Int)(Q:aJ)(w:World)
def aD.B1:Prop:=
 Split (decide (n<m)) ((0<=n/\n<(j:Int))/\Is i fun o:Addr=> ∃p:AV,(p.size=32/\Cells w (o.add (n.toNat*32)) p)/\let q:=w.alloc (.cells zH 23);(p.size=32/\(∀r∈p.toList,r.oneCell'=true)/\ ∀t,t<32->Wr q ((⟨w.heap.size,0,none⟩:Addr).add t))/\let u:=setCells q (⟨w.heap.size,0,none⟩:Addr) p.toList 0;∃v:OA,u.cell? a=some (.pointer v)/\ ∃x:AV,(x.size=32/\Cells u (⟨w.heap.size,0,none⟩:Addr) x)/\aY prog 101 #[.pointer v,.agg x] u fun y z=> ∃a1:OA,y=.pointer a1/\Split (!(a1).isNone) (Is a1 fun b1:Addr=> ∃c1:OA,∃d1:Nat,∃e1:Nat,z.cell? (b1.add 34)=some (.slice c1 d1 e1)/\aY prog 102 #[.slice e f g,.slice c1 d1 e1] z fun f1 g1=> ∃i1:OA,∃j1:Nat,∃k1:Nat,f1=.slice i1 j1 k1/\Q .normal [(2,.pointer (some a)),(4,.slice b c d),(5,.slice i1 j1 k1),(11,.slice i j k),(12,.int .i64 m),(13,.int .i64 (IntKind.i64.wrap (n+(1:Int))))] g1) (Q .normal [(2,.pointer (some a)),(4,.slice b c d),(5,.slice e f g),(11,.slice i j k),(12,.int .i64 m),(13,.int .i64 (IntKind.i64.wrap (n+(1:Int))))] z)) (Q (.exit 0) [(2,.pointer (some a)),(4,.slice b c d),(5,.slice e f g),(11,.slice i j k),(12,.int .i64 m),(13,.int .i64 n)] w)
theorem aD.b1:(aT none [] prog 47 aD.k (lB (bB (sR (sL (sR (sR (body f70))))))) aD.u1 Q [(2,.pointer (some a)),(4,.slice b c d),(5,.slice e f g),(11,.slice i j k),(12,.int .i64 m),(13,.int .i64 n)] w)=aD.B1 a b c d e f g i j k m n Q w:=by kernel_rfl
variable{a b c d i j k m}
theorem aD.bU(I:(OA)×Nat×Nat×Int->World->Prop)(μ:(OA)×Nat×Nat×Int->World->Nat)(s:(OA)×Nat×Nat×Int){Q:aJ}{w:World}(h0:I s w)
 (round: ∀s w,I s w->aD.B1 a b c d (s.1) (s.2.1) (s.2.2.1) i j k m (s.2.2.2) (bF (aD.e1 a b c d i j k m) I μ s w Q) w):Holds none [] prog 47 (.loop (lB (bB (sR (sL (sR (sR (body f70)))))))) Q (aD.e1 a b c d i j k m s) w:=
 ba ng mix (aD.e1 a b c d i j k m) I μ aD.k aD.u1 s (fun s Q w=>aD.B1 a b c d (s.1) (s.2.1) (s.2.2.1) i j k m (s.2.2.2) Q w) (fun s Q w=>aD.b1 a b c d (s.1) (s.2.1) (s.2.2.1) i j k m (s.2.2.2) Q w) h0 round
end
section
def aD.cW(a:Addr)(b:OA)(c:Nat)(d:Nat)(e:OA)(f:Nat)(g:Nat)(i:OA)(j:Nat)(k:Nat)(m:Int)(n:Int)(K:KT)(w:World):Prop:=
 let o:=w.alloc (.cells (#[.slice none 0 0]:AV) 35);aY prog 103 #[.slice e f g] o fun p q=> ∃r:Value,p=r/\Holds none [] prog 47 (bB (sR (sL (sR (sR (sR (sR (body f70)))))))) (aD.wm K) [(2,.pointer (some a)),(4,.slice b c d),(9,.pointer (some (⟨w.heap.size,0,none⟩:Addr))),(30,r)] q
variable(a:Addr)(b:OA)(c:Nat)(d:Nat)(e:OA)(f:Nat)(g:Nat)(i:OA)(j:Nat)(k:Nat)(m:Int)(n:Int)(K:KT)(w:World)
theorem aD.dD:(aD.q1 K (.exit 0) [(2,.pointer (some a)),(4,.slice b c d),(5,.slice e f g),(11,.slice i j k),(12,.int .i64 m),(13,.int .i64 n)] w)=aD.cW a b c d e f g i j k m n K w:=by kernel_rfl
end
section
def aD.A1(l:Nat)(a:Addr)(b:OA)(c:Nat)(d:Nat)(e:Addr)(f:Value)(g:Int)(Q:aJ)(w:World):Prop:=
 Q .normal [(2,.pointer (some a)),(9,.pointer (some e)),(10,.int .i64 g)] w
variable(l:Nat)(a:Addr)(b:OA)(c:Nat)(d:Nat)(e:Addr)(f:Value)(g:Int)(Q:aJ)(w:World)
theorem aD.a1:(aT (some l) [] prog 47 aD.k (rA (bB (sR (sL (sR (sR (sR (sR (body f70))))))))) (bY (rB (bB (sR (sL (sR (sR (sR (sR (body f70)))))))))) Q [(2,.pointer (some a)),(4,.slice b c d),(9,.pointer (some e)),(30,f),(31,.int .i64 g)] w)=aD.A1 l a b c d e f g Q w:=by kernel_rfl
end
section
def aD.Y1(l:Nat)(a:Addr)(b:Addr)(c:Int)(Q:aJ)(w:World):Prop:=
 let d:=w.drew;∃e:OA,∃f:Nat,∃g:Nat,d.cell? b=some (.slice e f g)/\ ∃i:OA,d.cell? a=some (.pointer i)/\Is i fun j:Addr=> ∃k:OA,∃m:Nat,∃n:Nat,d.cell? (j.add 0)=some (.slice k m n)/\(0<=c/\c<(m:Int))/\Is k fun o:Addr=> ∃p:OA,d.cell? (o.add (c.toNat*1))=some (.pointer p)/\Is p fun q:Addr=> ∃r:AV,(r.size=32/\Cells d (q.add 0) r)/\r.size=32/\let t:=d.alloc (.cells (r.toList++ []).toArray 23);t.cell? b=some (.slice e f g)/\ ∃(u:OA) (v x:Nat) (y:World),(Builtin.append_ #[35,35] 35 #[.slice e f g,.slice (some (⟨d.heap.size,0,none⟩:Addr)) 1 1]).run prog t=.ok (.slice u v x) y/\Wr y b/\let z:=y.setCell b (.slice u v x);Q .normal [] z
variable(l:Nat)(a:Addr)(b:Addr)(c:Int)(Q:aJ)(w:World)
theorem aD.y1:(aT (some l) [] prog 47 aD.k (rB (bB (sR (sL (sR (sR (sR (sR (body f70))))))))) [] Q [(2,.pointer (some a)),(9,.pointer (some b)),(10,.int .i64 c)] w)=aD.Y1 l a b c Q w:=by kernel_rfl
end
section
def aD.gm(a:Addr)(b:OA)(c:Nat)(d:Nat)(e:Addr)(f:Value)(ms:AV)(K:KT)(w:World):Prop:=
 ∃g:OA,∃i:Nat,∃j:Nat,w.cell? e=some (.slice g i j)/\aY prog 41 #[.slice g i j] w fun k m=> ∃n:OA,∃o:Nat,∃p:Nat,k=.slice n o p/\iH (marksOf (.agg ms)) m/\K (.slice n o p) (dS (marksOf (.agg ms)) m)
variable(a:Addr)(b:OA)(c:Nat)(d:Nat)(e:Addr)(f:Value)(ms:AV)(K:KT)(w:World)
theorem aD.im:(aD.wm K .normal [(2,.pointer (some a)),(4,.slice b c d),(9,.pointer (some e)),(30,f),(4294967296,.agg ms)] w)=aD.gm a b c d e f ms K w:=by kernel_rfl
end
def aA.k:List Nat:= []
def aA.wm(K:KT):aJ:=(aK 0 (bY (sR (sR (body f118)))++(aO f118)) (bN (fun bS w_=>match cutAt aA.k (sR (sR (body f118)))with|true=>Holds none [] prog 13 (sR (sR (body f118))) (bG prog f118 K) bS w_|false=>aT none [] prog 13 aA.k (sR (sR (body f118))) (aO f118) (bG prog f118 K) bS w_) (bG prog f118 K)))
section
variable(a:OA)(b:Nat)(d:Nat)(e:Value)(K:KT)(w:World)
def aA.W:Prop:=
 let f:=w.alloc (.cells (#[.slice a b d]:AV) 35);Holds none [] prog 13 (bB (sR (sL (sR (body f118))))) (aA.wm K) [(2,.pointer (some (⟨w.heap.size,0,none⟩:Addr))),(4,.slice none 0 0),(6,e)] f
variable{a b d e K w}
theorem aA.of(h:aA.W a b d e K w):aY prog 118 #[.slice a b d,e] w K:=
 aH (C:=aA.k) (c:=body f118) ng mix func118 (by kernel_rfl) (by kernel_rfl) (by kernel_rfl) h
end
section
def aA.A1(l:Nat)(a:Addr)(b:OA)(c:Nat)(d:Nat)(e:Value)(f:AV)(Q:aJ)(w:World):Prop:=
 let g:=w.alloc (.cells zH 23);(f.size=32/\(∀i∈f.toList,i.oneCell'=true)/\ ∀j,j<32->Wr g ((⟨w.heap.size,0,none⟩:Addr).add j))/\let k:=setCells g (⟨w.heap.size,0,none⟩:Addr) f.toList 0;Q .normal [(2,.pointer (some a)),(5,.pointer (some (⟨w.heap.size,0,none⟩:Addr)))] k
variable(l:Nat)(a:Addr)(b:OA)(c:Nat)(d:Nat)(e:Value)(f:AV)(Q:aJ)(w:World)
theorem aA.a1:(aT (some l) [] prog 13 aA.k (rA (bB (sR (sL (sR (body f118)))))) (bY (rB (bB (sR (sL (sR (body f118))))))) Q [(2,.pointer (some a)),(4,.slice b c d),(6,e),(7,.agg f)] w)=aA.A1 l a b c d e f Q w:=by kernel_rfl
end
section
def aA.Y1(l:Nat)(a:Addr)(b:Addr)(Q:aJ)(w:World):Prop:=
 ∃c:OA,∃d:Nat,∃e:Nat,w.cell? a=some (.slice c d e)/\ ∃f:AV,(f.size=32/\Cells w b f)/\f.size=32/\let g:=w.alloc (.cells (f.toList++ []).toArray 23);∃(i:OA) (j k:Nat) (m:World),(Builtin.append_ #[35,35] 35 #[.slice c d e,.slice (some (⟨w.heap.size,0,none⟩:Addr)) 1 1]).run prog g=.ok (.slice i j k) m/\Wr m a/\let n:=m.setCell a (.slice i j k);Q .normal [] n
variable(l:Nat)(a:Addr)(b:Addr)(Q:aJ)(w:World)
theorem aA.y1:(aT (some l) [] prog 13 aA.k (rB (bB (sR (sL (sR (body f118)))))) [] Q [(2,.pointer (some a)),(5,.pointer (some b))] w)=aA.Y1 l a b Q w:=by kernel_rfl
end
section
def aA.gm(a:Addr)(b:OA)(c:Nat)(d:Nat)(e:Value)(ms:AV)(K:KT)(w:World):Prop:=
 ∃f:OA,∃g:Nat,∃i:Nat,w.cell? a=some (.slice f g i)/\iH (marksOf (.agg ms)) w/\K (.slice f g i) (dS (marksOf (.agg ms)) w)
variable(a:Addr)(b:OA)(c:Nat)(d:Nat)(e:Value)(ms:AV)(K:KT)(w:World)
theorem aA.im:(aA.wm K .normal [(2,.pointer (some a)),(4,.slice b c d),(6,e),(4294967296,.agg ms)] w)=aA.gm a b c d e ms K w:=by kernel_rfl
end
end Go.Proofs.YtnboahlopghcjaaGreatDoor
