import Derived.Test.YtfleamccglihoaaGreatDoorProg
import Derived.Test.YtfleamccglihoaaGreatDoorMA
import Derived.Test.YtfleamccglihoaaGreatDoorMB
open Go.IntKind (i64 u64)
set_option linter.unusedVariables false
namespace Go.Proofs.YtfleamccglihoaaGreatDoor
open Go.Proofs.Tryz
open Go Go.bE
section
variable(a:OA)(K:KT)(w:World)
variable{a K w}
end
def cH.k:List Nat:= []
section
variable(a:OA)(b d:Nat)(K:KT)(w:World)
def cH.W:Prop:=
 Split ((a).isNone) (K (.slice none 0 0) w) (let e:=w.alloc (.cells #[] 24);∃(f:OA) (g i:Nat) (j:World),(Builtin.append_ #[33,33] 33 #[.slice (some (aU w.heap.size)) 0 0,.slice a b d]).run prog e=.ok (.slice f g i) j/\K (.slice f g i) j)
variable{a b d K w}
theorem cH.of(h:cH.W a b d K w):bf prog 55 #[.slice a b d] w K:=
 rqq func55 (C:=cH.k) h
end
def ig.k:List Nat:= []
section
variable(a:OA)(b d:Nat)(K:KT)(w:World)
def ig.W:Prop:=
 bf prog 101 #[.slice a b d] w fun e f=>∃g:Value,e=g/\bf prog 100 #[g,.func (.func 102) #[] #[]] f fun i j=>∃k:OA,∃m n:Nat,i=.slice k m n/\bf prog 99 #[.slice k m n] j fun o p=>∃q:OA,∃r t:Nat,o=.slice q r t/\K (.slice q r t) p
variable{a b d K w}
theorem ig.of(h:ig.W a b d K w):bf prog 57 #[.slice a b d] w K:=
 rqq func57 (C:=ig.k) h
end
def cO.k:List Nat:= []
section
variable(a b:Value)(K:KT)(w:World)
def cO.W:Prop:=
 bf prog 108 #[a] w fun d e=>∃f:OA,∃g i:Nat,d=.slice f g i/\bf prog 53 #[.slice f g i,b] e fun j k=>j=.tuple #[]/\K (.slice f g i) k
variable{a b K w}
theorem cO.of(h:cO.W a b K w):bf prog 100 #[a,b] w K:=
 rqq func100 (C:=cO.k) h
end
def cQ.k:List Nat:= []
section
variable(a:OA)(b d:Nat)(K:KT)(w:World)
def cQ.W:Prop:=
 let e:=w.alloc (.cells (#[.slice a b d]:AV) 33);K (.func (.func 137) #[] #[.pointer (some (aU w.heap.size))]) e
variable{a b d K w}
theorem cQ.of(h:cQ.W a b d K w):bf prog 101 #[.slice a b d] w K:=
 rqq func101 (C:=cQ.k) h
end
def cy.k:List Nat:= []
section
variable(a:Value)(K:KT)(w:World)
def cy.W:Prop:=
 bf prog 140 #[.slice none 0 0,a] w fun b d=>∃e:OA,∃f g:Nat,b=.slice e f g/\K (.slice e f g) d
variable{a K w}
theorem cy.of(h:cy.W a K w):bf prog 108 #[a] w K:=
 rqq func108 (C:=cy.k) h
end
def bp.k:List Nat:= []
def bp.q1(K:KT):aM:=(aP 1 (ct (cS (sR (body f118)))++(aW f118)) (b6 (fun cf w_=>match cutAt bp.k (cS (sR (body f118)))with|true=>Holds none [] prog 101 (cS (sR (body f118))) (bV prog f118 K) cf w_|false=>a8 none [] prog 101 bp.k (cS (sR (body f118))) (aW f118) (bV prog f118 K) cf w_) (bV prog f118 K)))
def bp.e1(a b:Addr)(c:Int)(d:Addr)(e:OA)(f g:Nat)(i s:Int):Env:= [(3,.pointer (some a)),(4,.pointer (some b)),(6,.int .i64 c),(8,.pointer (some d)),(41,.slice e f g),(42,.int .i64 i),(43,.int .i64 s)]
def bp.u1:List Nat:= [3,4,6,8,41,42,43]
section
variable(a:OA)(b:AV)(d:OA)(e f:Nat)(K:KT)(w:World)
def bp.W:Prop:=
 let g:=w.alloc (.cells (#[.pointer a]:AV) 98);let i:=g.alloc (.cells b 24);bf prog 57 #[.slice d e f] i fun j k=>∃m:OA,∃n o:Nat,j=.slice m n o/\∃p:OA,k.cell? (aU w.heap.size)=some (.pointer p)/\bf prog 124 #[.pointer p] k fun q r=>∃t:Bool,q=.bool t/\Split (!t) (K (.int .i64 1) r) (∃u:OA,r.cell? (aU w.heap.size)=some (.pointer u)/\∃v:AV,(v.size=32/\Cells r (aU g.heap.size) v)/\bf prog 47 #[.pointer u,.agg v] r fun x y=>∃z:Bool,x=.bool z/\Split z (K (.int .i64 7) y) (Split ((n:Int)==(0:Int)) (K (.int .i64 9) y) (Split ((n:Int) != (e:Int)) (K (.int .i64 9) y) (bf prog 68 #[.slice m n o,.func (.func 145) #[] #[.pointer (some (aU w.heap.size))]] y fun a1 b1=>∃c1:Bool,a1=.bool c1/\Split c1 (K (.int .i64 6) b1) (∃d1:AV,(d1.size=32/\Cells b1 (aU g.heap.size) d1)/\Is (prog.built 145 [(0,.agg d1),(1,.slice m n o)]) fun e1:AV=>let f1:=b1.alloc (.cells e1 145);Holds none [] prog 101 (.loop (lB (bB (sR (sL (cS (body f118))))))) (bp.q1 K) [(3,.pointer (some (aU w.heap.size))),(4,.pointer (some (aU g.heap.size))),(6,.int .i64 0),(8,.pointer (some (aU b1.heap.size))),(41,.slice m n o),(42,.int .i64 (n:Int)),(43,.int .i64 0)] f1)))))
variable{a b d e f K w}
theorem bp.of(h:bp.W a b d e f K w):bf prog 118 #[.pointer a,.agg b,.slice d e f] w K:=
 rqq func118 (C:=bp.k) h
end
section
variable(a b:Addr)(c:Int)(d:Addr)(e:OA)(f g:Nat)(i j:Int)(Q:aM)(w:World)
def bp.B1:Prop:=
 Split (decide (j<i)) ((0<=j/\j<(f:Int))/\Is e fun k:Addr=>∃m:AV,(m.size=32/\Cells w (k.add (j.toNat*32)) m)/\let n:=w.alloc (.cells zH 24);(m.size=32/\(∀o∈m.toList,o.oneCell'=true)/\∀p,p<32->Wr n ((aU w.heap.size).add p))/\let q:=setCells n (aU w.heap.size) m.toList 0;∃r:OA,q.cell? a=some (.pointer r)/\∃t:AV,(t.size=32/\Cells q (aU w.heap.size) t)/\bf prog 90 #[.pointer r,.agg t] q fun u v=>∃x:OA,u=.pointer x/\let y:=v.drew;∃z:OA,∃a1 b1:Nat,y.cell? (d.add 34)=some (.slice z a1 b1)/\Is x fun c1:Addr=>∃d1:OA,∃e1 f1:Nat,y.cell? (c1.add 34)=some (.slice d1 e1 f1)/\∃g1:OA,y.cell? a=some (.pointer g1)/\Is g1 fun i1:Addr=>∃j1:Option Nat,y.cell? (i1.add 1)=some (.map j1)/\∃k1:AV,(k1.size=32/\Cells y (aU w.heap.size) k1)/\∃m1:Int,(Instr.lookup 127 (.map j1) (.agg k1) false).run prog y=.ok (.int .i64 m1) y/\bf prog 143 #[.slice z a1 b1,.slice d1 e1 f1] y fun n1 o1=>∃p1:OA,∃q1 r1:Nat,n1=.slice p1 q1 r1/\(Instr.lookup 127 (.map j1) (.agg k1) false).run prog o1=.ok (.int .i64 m1) o1/\(∃cs:AV,(.agg k1:Value)=.agg cs/\cs.size=32/\Cells o1 (aU w.heap.size) cs)/\o1.cell? (i1.add 1)=some (.map j1)/\o1.cell? a=some (.pointer g1)/\bf prog 146 #[.slice p1 q1 r1,.int .i64 m1] o1 fun t1 u1=>∃v1:OA,∃x1 y1:Nat,t1=.slice v1 x1 y1/\Wr u1 (d.add 34)/\let z1:=u1.setCell (d.add 34) (.slice v1 x1 y1);let a2:=z1.drew;Is x fun b2:Addr=>∃c2:OA,∃d2 e2:Nat,a2.cell? (b2.add 33)=some (.slice c2 d2 e2)/\∃f2:AV,(f2.size=32/\Cells a2 b f2)/\f2.size=32/\let g2:=a2.alloc (.cells (f2.toList++ []).toArray 24);g2.cell? (b2.add 33)=some (.slice c2 d2 e2)/\∃(i2:OA) (j2 k2:Nat) (m2:World),(Builtin.append_ #[33,33] 33 #[.slice c2 d2 e2,.slice (some (aU a2.heap.size)) 1 1]).run prog g2=.ok (.slice i2 j2 k2) m2/\bf prog 57 #[.slice i2 j2 k2] m2 fun n2 o2=>∃p2:OA,∃q2 r2:Nat,n2=.slice p2 q2 r2/\Is x fun t2:Addr=>Wr o2 (t2.add 33)/\let u2:=o2.setCell (t2.add 33) (.slice p2 q2 r2);Q .normal [(3,.pointer (some a)),(4,.pointer (some b)),(6,.int .i64 c),(8,.pointer (some d)),(41,.slice e f g),(42,.int .i64 i),(43,.int .i64 (i64.wrap (j+(1:Int))))] u2) (Q (.exit 1) [(3,.pointer (some a)),(4,.pointer (some b)),(6,.int .i64 c),(8,.pointer (some d)),(41,.slice e f g),(42,.int .i64 i),(43,.int .i64 j)] w)
theorem bp.b1:(a8 none [] prog 101 bp.k (lB (bB (sR (sL (cS (body f118)))))) bp.u1 Q [(3,.pointer (some a)),(4,.pointer (some b)),(6,.int .i64 c),(8,.pointer (some d)),(41,.slice e f g),(42,.int .i64 i),(43,.int .i64 j)] w)=bp.B1 a b c d e f g i j Q w:=by kernel_rfl
variable{a b c d e f g i}
theorem bp.b9(I:Int->World->Prop)(μ:Int->World->Nat)(s:Int){Q:aM}{w:World}(h0:I s w)
 (round:∀s w,I s w->bp.B1 a b c d e f g i s (bS (bp.e1 a b c d e f g i) I μ s w Q) w):Holds none [] prog 101 (.loop (lB (bB (sR (sL (cS (body f118))))))) Q (bp.e1 a b c d e f g i s) w:=
 br ng mix (bp.e1 a b c d e f g i) I μ bp.k bp.u1 s (fun s Q w=>bp.B1 a b c d e f g i s Q w) (fun s Q w=>bp.b1 a b c d e f g i s Q w) h0 round
end
section
def bp.CI(a b:Addr)(c:Int)(d:Addr)(e:OA)(f g:Nat)(i j:Int)(K:KT)(w:World):Prop:=
 let k:=w.drew;∃m:OA,k.cell? a=some (.pointer m)/\Is m fun n:Addr=>∃o:Option Nat,k.cell? (n.add 1)=some (.map o)/\∃p:AV,(p.size=32/\Cells k b p)/\∃q:OA,k.cell? a=some (.pointer q)/\Is q fun r:Addr=>∃t:OA,∃u v:Nat,k.cell? (r.add 0)=some (.slice t u v)/\∃x:World,(Instr.mapUpdate 127 (.map o) (.agg p) (.int .i64 (u:Int))).run prog k=.ok () x/\let y:=x.drew;∃z:OA,y.cell? a=some (.pointer z)/\∃a1:OA,y.cell? a=some (.pointer a1)/\Is a1 fun b1:Addr=>∃c1:OA,∃d1 e1:Nat,y.cell? (b1.add 0)=some (.slice c1 d1 e1)/\let f1:=y.alloc (.cells #[.pointer (some d)] 138);f1.cell? (b1.add 0)=some (.slice c1 d1 e1)/\f1.cell? a=some (.pointer a1)/\f1.cell? a=some (.pointer z)/\∃(g1:OA) (i1 j1:Nat) (k1:World),(Builtin.append_ #[170,170] 170 #[.slice c1 d1 e1,.slice (some (aU y.heap.size)) 1 1]).run prog f1=.ok (.slice g1 i1 j1) k1/\k1.cell? a=some (.pointer z)/\Is z fun m1:Addr=>Wr k1 (m1.add 0)/\let n1:=k1.setCell (m1.add 0) (.slice g1 i1 j1);K (.int .i64 0) n1
variable(a b:Addr)(c:Int)(d:Addr)(e:OA)(f g:Nat)(i j:Int)(K:KT)(w:World)
theorem bp.Jk:(bp.q1 K (.exit 1) [(3,.pointer (some a)),(4,.pointer (some b)),(6,.int .i64 c),(8,.pointer (some d)),(41,.slice e f g),(42,.int .i64 i),(43,.int .i64 j)] w)=bp.CI a b c d e f g i j K w:=by kernel_rfl
end
def lx.k:List Nat:= []
section
variable(a:AV)(K:KT)(w:World)
def lx.W:Prop:=
 let b:=w.alloc (.cells a 24);let d:=b.drew;∃e:AV,(e.size=32/\Cells d (aU w.heap.size) e)/\Is (prog.built 145 [(0,.agg e)]) fun f:AV=>∃g:AV,(g.size=32/\Cells d (aU w.heap.size) g)/\(let i:=d.alloc (.cells f 145);(∃cs:AV,(.agg g:Value)=.agg cs/\cs.size=32/\Cells i (aU w.heap.size) cs)/\(let j:=i.alloc (.cells #[.pointer (some (aU d.heap.size))] 138);(∃cs:AV,(.agg g:Value)=.agg cs/\cs.size=32/\Cells j (aU w.heap.size) cs)/\let k:=j.alloc (.map #[] 0);(∃cs:AV,(.agg g:Value)=.agg cs/\cs.size=32/\Cells k (aU w.heap.size) cs)/\∃m:World,(Instr.mapUpdate 127 (.map (some j.heap.size)) (.agg g) (.int .i64 0)).run prog k=.ok () m/\let n:=m.alloc (.cells (#[.slice (some (aU i.heap.size)) 1 1,.map (some j.heap.size)]:AV) 172);K (.pointer (some (aU m.heap.size))) n)/\(let o:=i.alloc (.map #[] 0);(∃cs:AV,(.agg g:Value)=.agg cs/\cs.size=32/\Cells o (aU w.heap.size) cs)/\(let p:=o.alloc (.cells #[.pointer (some (aU d.heap.size))] 138);(∃cs:AV,(.agg g:Value)=.agg cs/\cs.size=32/\Cells p (aU w.heap.size) cs)/\∃q:World,(Instr.mapUpdate 127 (.map (some i.heap.size)) (.agg g) (.int .i64 0)).run prog p=.ok () q/\let r:=q.alloc (.cells (#[.slice (some (aU o.heap.size)) 1 1,.map (some i.heap.size)]:AV) 172);K (.pointer (some (aU q.heap.size))) r)/\(∃t:World,(Instr.mapUpdate 127 (.map (some i.heap.size)) (.agg g) (.int .i64 0)).run prog o=.ok () t/\let u:=t.alloc (.cells #[.pointer (some (aU d.heap.size))] 138);let v:=u.alloc (.cells (#[.slice (some (aU t.heap.size)) 1 1,.map (some i.heap.size)]:AV) 172);K (.pointer (some (aU u.heap.size))) v)))/\(let x:=d.alloc (.map #[] 0);(∃cs:AV,(.agg g:Value)=.agg cs/\cs.size=32/\Cells x (aU w.heap.size) cs)/\(∃cs:AV,(.agg e:Value)=.agg cs/\cs.size=32/\Cells x (aU w.heap.size) cs)/\(let y:=x.alloc (.cells f 145);(∃cs:AV,(.agg g:Value)=.agg cs/\cs.size=32/\Cells y (aU w.heap.size) cs)/\(let z:=y.alloc (.cells #[.pointer (some (aU x.heap.size))] 138);(∃cs:AV,(.agg g:Value)=.agg cs/\cs.size=32/\Cells z (aU w.heap.size) cs)/\∃a1:World,(Instr.mapUpdate 127 (.map (some d.heap.size)) (.agg g) (.int .i64 0)).run prog z=.ok () a1/\let b1:=a1.alloc (.cells (#[.slice (some (aU y.heap.size)) 1 1,.map (some d.heap.size)]:AV) 172);K (.pointer (some (aU a1.heap.size))) b1)/\(∃c1:World,(Instr.mapUpdate 127 (.map (some d.heap.size)) (.agg g) (.int .i64 0)).run prog y=.ok () c1/\let d1:=c1.alloc (.cells #[.pointer (some (aU x.heap.size))] 138);let e1:=d1.alloc (.cells (#[.slice (some (aU c1.heap.size)) 1 1,.map (some d.heap.size)]:AV) 172);K (.pointer (some (aU d1.heap.size))) e1))/\(∃f1:World,(Instr.mapUpdate 127 (.map (some d.heap.size)) (.agg g) (.int .i64 0)).run prog x=.ok () f1/\(∃cs:AV,(.agg e:Value)=.agg cs/\cs.size=32/\Cells f1 (aU w.heap.size) cs)/\let g1:=f1.alloc (.cells f 145);let i1:=g1.alloc (.cells #[.pointer (some (aU f1.heap.size))] 138);let j1:=i1.alloc (.cells (#[.slice (some (aU g1.heap.size)) 1 1,.map (some d.heap.size)]:AV) 172);K (.pointer (some (aU i1.heap.size))) j1))
variable{a K w}
theorem lx.of(h:lx.W a K w):bf prog 122 #[.agg a] w K:=
 rqq func122 (C:=lx.k) h
end
def iX.k:List Nat:= []
section
variable(a:OA)(b d:Nat)(K:KT)(w:World)
def iX.W:Prop:=
 let e:=w.alloc (.cells (#[.slice a b d]:AV) 143);K (.func (.func 158) #[] #[.pointer (some (aU w.heap.size))]) e
variable{a b d K w}
theorem iX.of(h:iX.W a b d K w):bf prog 144 #[.slice a b d] w K:=
 rqq func144 (C:=iX.k) h
end
section
variable(a:OA)(b:AV)(K:KT)(w:World)
variable{a b K w}
end
section
variable(a:OA)(b:Addr)(c d:Int)(Q:aM)(w:World)
variable{a b}
end
section
variable(a:OA)(b:Addr)(c d:Int)(K:KT)(w:World)
end
section
variable(a b:OA)(d e:Nat)(K:KT)(w:World)
variable{a b d e K w}
end
section
variable(a b:OA)(c d:Nat)(e:OA)(f g:Nat)(i:OA)(j k:Nat)(m:Int)(Q:aM)(w:World)
variable{a b c d}
end
section
variable(a b:OA)(c d:Nat)(e:OA)(f g:Nat)(i:OA)(j k:Nat)(m:Int)(K:KT)(w:World)
end
section
variable(a b:OA)(c d:Nat)(e:OA)(f g:Nat)(i:OA)(j k:Nat)(m:Int)(n:OA)(o p:Nat)(q:Int)(Q:aM)(w:World)
variable{a b c d m n o p}
end
section
variable(a b:OA)(c d:Nat)(e:OA)(f g:Nat)(i:OA)(j k:Nat)(m:Int)(n:OA)(o p:Nat)(q:Int)(Q:aM)(w:World)
end
section
variable(a:OA)(b d:AV)(K:KT)(w:World)
variable{a b d K w}
end
section
variable(a:OA)(K:KT)(w:World)
variable{a K w}
end
section
variable(a b:OA)(c d:Nat)(e:OA)(f g:Nat)(i:Int)(Q:aM)(w:World)
variable{a b c d}
end
section
variable(a b:OA)(c d:Nat)(e:OA)(f g:Nat)(i:Int)(K:KT)(w:World)
end
section
variable(a:OA)(b:AV)(d:OA)(e f:Nat)(K:KT)(w:World)
variable{a b d e f K w}
end
section
variable(a:OA)(b:Addr)(c:Int)(d:OA)(e f:Nat)(g:Int)(Q:aM)(w:World)
variable{a b d e f}
end
section
variable(a:OA)(b:Addr)(c:Int)(d:OA)(e f:Nat)(g:Int)(K:KT)(w:World)
end
section
variable(a:OA)(b:AV)(K:KT)(w:World)
variable{a b K w}
end
section
variable(a:OA)(b:Addr)(c:OA)(d e:Nat)(f:OA)(g i:Nat)(j:Int)(Q:aM)(w:World)
variable{a b c d e}
end
section
variable(a:OA)(b:Addr)(c:OA)(d e:Nat)(f:OA)(g i:Nat)(j:Int)(K:KT)(w:World)
end
section
variable(a:OA)(b d:AV)(K:KT)(w:World)
variable{a b d K w}
end
def aJ.k:List Nat:= []
def aJ.q1(K:KT):aM:=(aP 0 (ct (aZ (sR (body f111)))++(aW f111)) (b6 (fun cf w_=>match cutAt aJ.k (aZ (sR (body f111)))with|true=>Holds none [] prog 47 (aZ (sR (body f111))) (bV prog f111 K) cf w_|false=>a8 none [] prog 47 aJ.k (aZ (sR (body f111))) (aW f111) (bV prog f111 K) cf w_) (bV prog f111 K)))
def aJ.e1(a:Addr)(b:OA)(c d:Nat)(e:OA)(f g:Nat)(i:Int)(s:(OA)×Nat×Nat×Int):Env:= [(2,.pointer (some a)),(4,.slice b c d),(5,.slice s.1 s.2.1 s.2.2.1),(11,.slice e f g),(12,.int .i64 i),(13,.int .i64 s.2.2.2)]
def aJ.u1:List Nat:= [2,4,5,11,12,13]
def aJ.Bz(K:KT):aM:=(aP 2 (ct (cS (sR (body f111)))++(aW f111)) (b6 (fun cf w_=>match cutAt aJ.k (cS (sR (body f111)))with|true=>Holds none [] prog 47 (cS (sR (body f111))) (bV prog f111 K) cf w_|false=>a8 none [] prog 47 aJ.k (cS (sR (body f111))) (aW f111) (bV prog f111 K) cf w_) (bV prog f111 K)))
section
variable(a b:OA)(d e:Nat)(K:KT)(w:World)
def aJ.W:Prop:=
 let f:=w.alloc (.cells (#[.pointer a]:AV) 98);Holds none [] prog 47 (.loop (lB (bB (sR (sL (aZ (body f111))))))) (aJ.q1 K) [(2,.pointer (some (aU w.heap.size))),(4,.slice none 0 0),(5,.slice none 0 0),(11,.slice b d e),(12,.int .i64 (d:Int)),(13,.int .i64 0)] f
variable{a b d e K w}
theorem aJ.of(h:aJ.W a b d e K w):bf prog 111 #[.pointer a,.slice b d e] w K:=
 rqq func111 (C:=aJ.k) h
end
section
variable(a:Addr)(b:OA)(c d:Nat)(e:OA)(f g:Nat)(i:OA)(j k:Nat)(m n:Int)(Q:aM)(w:World)
def aJ.B1:Prop:=
 Split (decide (n<m)) ((0<=n/\n<(j:Int))/\Is i fun o:Addr=>∃p:AV,(p.size=32/\Cells w (o.add (n.toNat*32)) p)/\let q:=w.alloc (.cells zH 24);(p.size=32/\(∀r∈p.toList,r.oneCell'=true)/\∀t,t<32->Wr q ((aU w.heap.size).add t))/\let u:=setCells q (aU w.heap.size) p.toList 0;∃v:OA,u.cell? a=some (.pointer v)/\∃x:AV,(x.size=32/\Cells u (aU w.heap.size) x)/\bf prog 90 #[.pointer v,.agg x] u fun y z=>∃a1:OA,y=.pointer a1/\Split (!(a1).isNone) (Is a1 fun b1:Addr=>∃c1:OA,∃d1 e1:Nat,z.cell? (b1.add 34)=some (.slice c1 d1 e1)/\bf prog 143 #[.slice e f g,.slice c1 d1 e1] z fun f1 g1=>∃i1:OA,∃j1 k1:Nat,f1=.slice i1 j1 k1/\Q .normal [(2,.pointer (some a)),(4,.slice b c d),(5,.slice i1 j1 k1),(11,.slice i j k),(12,.int .i64 m),(13,.int .i64 (i64.wrap (n+(1:Int))))] g1) (Q .normal [(2,.pointer (some a)),(4,.slice b c d),(5,.slice e f g),(11,.slice i j k),(12,.int .i64 m),(13,.int .i64 (i64.wrap (n+(1:Int))))] z)) (Q (.exit 0) [(2,.pointer (some a)),(4,.slice b c d),(5,.slice e f g),(11,.slice i j k),(12,.int .i64 m),(13,.int .i64 n)] w)
theorem aJ.b1:(a8 none [] prog 47 aJ.k (lB (bB (sR (sL (aZ (body f111)))))) aJ.u1 Q [(2,.pointer (some a)),(4,.slice b c d),(5,.slice e f g),(11,.slice i j k),(12,.int .i64 m),(13,.int .i64 n)] w)=aJ.B1 a b c d e f g i j k m n Q w:=by kernel_rfl
variable{a b c d i j k m}
theorem aJ.b9(I:(OA)×Nat×Nat×Int->World->Prop)(μ:(OA)×Nat×Nat×Int->World->Nat)(s:(OA)×Nat×Nat×Int){Q:aM}{w:World}(h0:I s w)
 (round:∀s w,I s w->aJ.B1 a b c d (s.1) (s.2.1) (s.2.2.1) i j k m (s.2.2.2) (bS (aJ.e1 a b c d i j k m) I μ s w Q) w):Holds none [] prog 47 (.loop (lB (bB (sR (sL (aZ (body f111))))))) Q (aJ.e1 a b c d i j k m s) w:=
 br ng mix (aJ.e1 a b c d i j k m) I μ aJ.k aJ.u1 s (fun s Q w=>aJ.B1 a b c d (s.1) (s.2.1) (s.2.2.1) i j k m (s.2.2.2) Q w) (fun s Q w=>aJ.b1 a b c d (s.1) (s.2.1) (s.2.2.1) i j k m (s.2.2.2) Q w) h0 round
end
section
def aJ.cU(a:Addr)(b:OA)(c d:Nat)(e:OA)(f g:Nat)(i:OA)(j k:Nat)(m n:Int)(K:KT)(w:World):Prop:=
 let o:=w.alloc (.cells (#[.slice none 0 0]:AV) 33);bf prog 144 #[.slice e f g] o fun p q=>∃r:Value,p=r/\Holds none [] prog 47 (bB (sR (sL (cS (body f111))))) (aJ.Bz K) [(2,.pointer (some a)),(4,.slice b c d),(9,.pointer (some (aU w.heap.size))),(30,r)] q
variable(a:Addr)(b:OA)(c d:Nat)(e:OA)(f g:Nat)(i:OA)(j k:Nat)(m n:Int)(K:KT)(w:World)
theorem aJ.dw:(aJ.q1 K (.exit 0) [(2,.pointer (some a)),(4,.slice b c d),(5,.slice e f g),(11,.slice i j k),(12,.int .i64 m),(13,.int .i64 n)] w)=aJ.cU a b c d e f g i j k m n K w:=by kernel_rfl
end
section
def aJ.A1(l:Nat)(a:Addr)(b:OA)(c d:Nat)(e:Addr)(f:Value)(g:Int)(Q:aM)(w:World):Prop:=
 Q .normal [(2,.pointer (some a)),(9,.pointer (some e)),(10,.int .i64 g)] w
variable(l:Nat)(a:Addr)(b:OA)(c d:Nat)(e:Addr)(f:Value)(g:Int)(Q:aM)(w:World)
theorem aJ.a1:(a8 (some l) [] prog 47 aJ.k (rA (bB (sR (sL (cS (body f111)))))) (ct (rB (bB (sR (sL (cS (body f111))))))) Q [(2,.pointer (some a)),(4,.slice b c d),(9,.pointer (some e)),(30,f),(31,.int .i64 g)] w)=aJ.A1 l a b c d e f g Q w:=by kernel_rfl
end
section
def aJ.Y1(l:Nat)(a b:Addr)(c:Int)(Q:aM)(w:World):Prop:=
 let d:=w.drew;∃e:OA,∃f g:Nat,d.cell? b=some (.slice e f g)/\∃i:OA,d.cell? a=some (.pointer i)/\Is i fun j:Addr=>∃k:OA,∃m n:Nat,d.cell? (j.add 0)=some (.slice k m n)/\(0<=c/\c<(m:Int))/\Is k fun o:Addr=>∃p:OA,d.cell? (o.add (c.toNat*1))=some (.pointer p)/\Is p fun q:Addr=>∃r:AV,(r.size=32/\Cells d (q.add 0) r)/\r.size=32/\let t:=d.alloc (.cells (r.toList++ []).toArray 24);t.cell? b=some (.slice e f g)/\∃(u:OA) (v x:Nat) (y:World),(Builtin.append_ #[33,33] 33 #[.slice e f g,.slice (some (aU d.heap.size)) 1 1]).run prog t=.ok (.slice u v x) y/\Wr y b/\let z:=y.setCell b (.slice u v x);Q .normal [] z
variable(l:Nat)(a b:Addr)(c:Int)(Q:aM)(w:World)
theorem aJ.y1:(a8 (some l) [] prog 47 aJ.k (rB (bB (sR (sL (cS (body f111)))))) [] Q [(2,.pointer (some a)),(9,.pointer (some b)),(10,.int .i64 c)] w)=aJ.Y1 l a b c Q w:=by kernel_rfl
end
section
def aJ.iC(a:Addr)(b:OA)(c d:Nat)(e:Addr)(f:Value)(ms:AV)(K:KT)(w:World):Prop:=
 ∃g:OA,∃i j:Nat,w.cell? e=some (.slice g i j)/\bf prog 57 #[.slice g i j] w fun k m=>∃n:OA,∃o p:Nat,k=.slice n o p/\jG (marksOf (.agg ms)) m/\K (.slice n o p) (fi (marksOf (.agg ms)) m)
variable(a:Addr)(b:OA)(c d:Nat)(e:Addr)(f:Value)(ms:AV)(K:KT)(w:World)
theorem aJ.jw:(aJ.Bz K .normal [(2,.pointer (some a)),(4,.slice b c d),(9,.pointer (some e)),(30,f),(4294967296,.agg ms)] w)=aJ.iC a b c d e f ms K w:=by kernel_rfl
end
def aG.k:List Nat:= []
def aG.Bz(K:KT):aM:=(aP 0 (ct (aZ (body f140))++(aW f140)) (b6 (fun cf w_=>match cutAt aG.k (aZ (body f140))with|true=>Holds none [] prog 13 (aZ (body f140)) (bV prog f140 K) cf w_|false=>a8 none [] prog 13 aG.k (aZ (body f140)) (aW f140) (bV prog f140 K) cf w_) (bV prog f140 K)))
section
variable(a:OA)(b d:Nat)(e:Value)(K:KT)(w:World)
def aG.W:Prop:=
 let f:=w.alloc (.cells (#[.slice a b d]:AV) 33);Holds none [] prog 13 (bB (sR (sL (sR (body f140))))) (aG.Bz K) [(2,.pointer (some (aU w.heap.size))),(4,.slice none 0 0),(6,e)] f
variable{a b d e K w}
theorem aG.of(h:aG.W a b d e K w):bf prog 140 #[.slice a b d,e] w K:=
 rqq func140 (C:=aG.k) h
end
section
def aG.A1(l:Nat)(a:Addr)(b:OA)(c d:Nat)(e:Value)(f:AV)(Q:aM)(w:World):Prop:=
 let g:=w.alloc (.cells zH 24);(f.size=32/\(∀i∈f.toList,i.oneCell'=true)/\∀j,j<32->Wr g ((aU w.heap.size).add j))/\let k:=setCells g (aU w.heap.size) f.toList 0;Q .normal [(2,.pointer (some a)),(5,.pointer (some (aU w.heap.size)))] k
variable(l:Nat)(a:Addr)(b:OA)(c d:Nat)(e:Value)(f:AV)(Q:aM)(w:World)
theorem aG.a1:(a8 (some l) [] prog 13 aG.k (rA (bB (sR (sL (sR (body f140)))))) (ct (rB (bB (sR (sL (sR (body f140))))))) Q [(2,.pointer (some a)),(4,.slice b c d),(6,e),(7,.agg f)] w)=aG.A1 l a b c d e f Q w:=by kernel_rfl
end
section
def aG.Y1(l:Nat)(a b:Addr)(Q:aM)(w:World):Prop:=
 ∃c:OA,∃d e:Nat,w.cell? a=some (.slice c d e)/\∃f:AV,(f.size=32/\Cells w b f)/\f.size=32/\let g:=w.alloc (.cells (f.toList++ []).toArray 24);∃(i:OA) (j k:Nat) (m:World),(Builtin.append_ #[33,33] 33 #[.slice c d e,.slice (some (aU w.heap.size)) 1 1]).run prog g=.ok (.slice i j k) m/\Wr m a/\let n:=m.setCell a (.slice i j k);Q .normal [] n
variable(l:Nat)(a b:Addr)(Q:aM)(w:World)
theorem aG.y1:(a8 (some l) [] prog 13 aG.k (rB (bB (sR (sL (sR (body f140)))))) [] Q [(2,.pointer (some a)),(5,.pointer (some b))] w)=aG.Y1 l a b Q w:=by kernel_rfl
end
section
def aG.iC(a:Addr)(b:OA)(c d:Nat)(e:Value)(ms:AV)(K:KT)(w:World):Prop:=
 ∃f:OA,∃g i:Nat,w.cell? a=some (.slice f g i)/\jG (marksOf (.agg ms)) w/\K (.slice f g i) (fi (marksOf (.agg ms)) w)
variable(a:Addr)(b:OA)(c d:Nat)(e:Value)(ms:AV)(K:KT)(w:World)
theorem aG.jw:(aG.Bz K .normal [(2,.pointer (some a)),(4,.slice b c d),(6,e),(4294967296,.agg ms)] w)=aG.iC a b c d e ms K w:=by kernel_rfl
end
end Go.Proofs.YtfleamccglihoaaGreatDoor
