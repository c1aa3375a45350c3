import Derived.Test.YtnboahlopghcjaaGreatDoorProg
import Derived.Test.YtnboahlopghcjaaGreatDoorMA
import Derived.Test.YtnboahlopghcjaaGreatDoorMB
open Go.IntKind (i64 u64)
set_option linter.unusedVariables false
namespace Go.Proofs.YtnboahlopghcjaaGreatDoor
open Go.Proofs.Tryz
open Go Go.bT
def gX.k:List Nat:= []
section
variable(a:OA)(K:KT)(w:World)
def gX.W:Prop:=
 bj prog 60 #[.pointer a] w fun b d=>∃e:Bool,b=.bool e/\Split (!e) (K (.int .i64 0) d) (Is a fun f:Addr=>∃g:OA,∃i j:Nat,d.cell? (f.add 0)=some (.slice g i j)/\K (.int .i64 (i:Int)) d)
variable{a K w}
theorem gX.of(h:gX.W a K w):bj prog 36 #[.pointer a] w K:=
 rqq func36 (C:=gX.k) h
end
def iX.k:List Nat:= []
section
variable(a:OA)(b d:Nat)(K:KT)(w:World)
def iX.W:Prop:=
 bj prog 68 #[.slice a b d] w fun e f=>∃g:Value,e=g/\bj prog 67 #[g,.func (.func 69) #[] #[]] f fun i j=>∃k:OA,∃m n:Nat,i=.slice k m n/\bj prog 66 #[.slice k m n] j fun o p=>∃q:OA,∃r t:Nat,o=.slice q r t/\K (.slice q r t) p
variable{a b d K w}
theorem iX.of(h:iX.W a b d K w):bj prog 41 #[.slice a b d] w K:=
 rqq func41 (C:=iX.k) h
end
def mz.k:List Nat:= []
section
variable(a:AV)(K:KT)(w:World)
def mz.W:Prop:=
 let b:=w.alloc (.cells a 23);let d:=b.drew;∃e:AV,(e.size=32/\Cells d (⟨w.heap.size,0,none⟩:Addr) e)/\Is (prog.built 150 [(0,.agg e)]) fun f:AV=>∃g:AV,(g.size=32/\Cells d (⟨w.heap.size,0,none⟩:Addr) g)/\(let i:=d.alloc (.cells f 150);(∃cs:AV,(.agg g:Value)=.agg cs/\cs.size=32/\Cells i (⟨w.heap.size,0,none⟩:Addr) cs)/\(let j:=i.alloc (.cells #[.pointer (some (⟨d.heap.size,0,none⟩:Addr))] 146);(∃cs:AV,(.agg g:Value)=.agg cs/\cs.size=32/\Cells j (⟨w.heap.size,0,none⟩:Addr) cs)/\let k:=j.alloc (.map #[] 0);(∃cs:AV,(.agg g:Value)=.agg cs/\cs.size=32/\Cells k (⟨w.heap.size,0,none⟩:Addr) cs)/\∃m:World,(Instr.mapUpdate 89 (.map (some j.heap.size)) (.agg g) (.int .i64 0)).run prog k=.ok () m/\let n:=m.alloc (.cells (#[.slice (some (⟨i.heap.size,0,none⟩:Addr)) 1 1,.map (some j.heap.size)]:AV) 115);K (.pointer (some (⟨m.heap.size,0,none⟩:Addr))) n)/\(let o:=i.alloc (.map #[] 0);(∃cs:AV,(.agg g:Value)=.agg cs/\cs.size=32/\Cells o (⟨w.heap.size,0,none⟩:Addr) cs)/\(let p:=o.alloc (.cells #[.pointer (some (⟨d.heap.size,0,none⟩:Addr))] 146);(∃cs:AV,(.agg g:Value)=.agg cs/\cs.size=32/\Cells p (⟨w.heap.size,0,none⟩:Addr) cs)/\∃q:World,(Instr.mapUpdate 89 (.map (some i.heap.size)) (.agg g) (.int .i64 0)).run prog p=.ok () q/\let r:=q.alloc (.cells (#[.slice (some (⟨o.heap.size,0,none⟩:Addr)) 1 1,.map (some i.heap.size)]:AV) 115);K (.pointer (some (⟨q.heap.size,0,none⟩:Addr))) r)/\(∃t:World,(Instr.mapUpdate 89 (.map (some i.heap.size)) (.agg g) (.int .i64 0)).run prog o=.ok () t/\let u:=t.alloc (.cells #[.pointer (some (⟨d.heap.size,0,none⟩:Addr))] 146);let v:=u.alloc (.cells (#[.slice (some (⟨t.heap.size,0,none⟩:Addr)) 1 1,.map (some i.heap.size)]:AV) 115);K (.pointer (some (⟨u.heap.size,0,none⟩:Addr))) v)))/\(let x:=d.alloc (.map #[] 0);(∃cs:AV,(.agg g:Value)=.agg cs/\cs.size=32/\Cells x (⟨w.heap.size,0,none⟩:Addr) cs)/\(∃cs:AV,(.agg e:Value)=.agg cs/\cs.size=32/\Cells x (⟨w.heap.size,0,none⟩:Addr) cs)/\(let y:=x.alloc (.cells f 150);(∃cs:AV,(.agg g:Value)=.agg cs/\cs.size=32/\Cells y (⟨w.heap.size,0,none⟩:Addr) cs)/\(let z:=y.alloc (.cells #[.pointer (some (⟨x.heap.size,0,none⟩:Addr))] 146);(∃cs:AV,(.agg g:Value)=.agg cs/\cs.size=32/\Cells z (⟨w.heap.size,0,none⟩:Addr) cs)/\∃a1:World,(Instr.mapUpdate 89 (.map (some d.heap.size)) (.agg g) (.int .i64 0)).run prog z=.ok () a1/\let b1:=a1.alloc (.cells (#[.slice (some (⟨y.heap.size,0,none⟩:Addr)) 1 1,.map (some d.heap.size)]:AV) 115);K (.pointer (some (⟨a1.heap.size,0,none⟩:Addr))) b1)/\(∃c1:World,(Instr.mapUpdate 89 (.map (some d.heap.size)) (.agg g) (.int .i64 0)).run prog y=.ok () c1/\let d1:=c1.alloc (.cells #[.pointer (some (⟨x.heap.size,0,none⟩:Addr))] 146);let e1:=d1.alloc (.cells (#[.slice (some (⟨c1.heap.size,0,none⟩:Addr)) 1 1,.map (some d.heap.size)]:AV) 115);K (.pointer (some (⟨d1.heap.size,0,none⟩:Addr))) e1))/\(∃f1:World,(Instr.mapUpdate 89 (.map (some d.heap.size)) (.agg g) (.int .i64 0)).run prog x=.ok () f1/\(∃cs:AV,(.agg e:Value)=.agg cs/\cs.size=32/\Cells f1 (⟨w.heap.size,0,none⟩:Addr) cs)/\let g1:=f1.alloc (.cells f 150);let i1:=g1.alloc (.cells #[.pointer (some (⟨f1.heap.size,0,none⟩:Addr))] 146);let j1:=i1.alloc (.cells (#[.slice (some (⟨g1.heap.size,0,none⟩:Addr)) 1 1,.map (some d.heap.size)]:AV) 115);K (.pointer (some (⟨i1.heap.size,0,none⟩:Addr))) j1))
variable{a K w}
theorem mz.of(h:mz.W a K w):bj prog 64 #[.agg a] w K:=
 rqq func64 (C:=mz.k) h
end
def dm.k:List Nat:= []
section
variable(a b:Value)(K:KT)(w:World)
def dm.W:Prop:=
 bj prog 98 #[a] w fun d e=>∃f:OA,∃g i:Nat,d=.slice f g i/\bj prog 72 #[.slice f g i,b] e fun j k=>j=.tuple #[]/\K (.slice f g i) k
variable{a b K w}
theorem dm.of(h:dm.W a b K w):bj prog 67 #[a,b] w K:=
 rqq func67 (C:=dm.k) h
end
def dq.k:List Nat:= []
section
variable(a:OA)(b d:Nat)(K:KT)(w:World)
def dq.W:Prop:=
 let e:=w.alloc (.cells (#[.slice a b d]:AV) 35);K (.func (.func 99) #[] #[.pointer (some (⟨w.heap.size,0,none⟩:Addr))]) e
variable{a b d K w}
theorem dq.of(h:dq.W a b d K w):bj prog 68 #[.slice a b d] w K:=
 rqq func68 (C:=dq.k) h
end
def bt.k:List Nat:= []
def bt.q1(K:KT):aM:=(aL 1 (b7 (sR (sR (sR (sR (sR (body f80))))))++(aN f80)) (bQ (fun bV w_=>match cutAt bt.k (sR (sR (sR (sR (sR (body f80))))))with|true=>Holds none [] prog 101 (sR (sR (sR (sR (sR (body f80)))))) (bI prog f80 K) bV w_|false=>aU none [] prog 101 bt.k (sR (sR (sR (sR (sR (body f80)))))) (aN f80) (bI prog f80 K) bV w_) (bI prog f80 K)))
def bt.e1(a b:Addr)(c:Int)(d:Addr)(e:OA)(f g:Nat)(i s:Int):Env:= [(3,.pointer (some a)),(4,.pointer (some b)),(6,.int .i64 c),(8,.pointer (some d)),(41,.slice e f g),(42,.int .i64 i),(43,.int .i64 s)]
def bt.u1:List Nat:= [3,4,6,8,41,42,43]
section
variable(a:OA)(b:AV)(d:OA)(e f:Nat)(K:KT)(w:World)
def bt.W:Prop:=
 let g:=w.alloc (.cells (#[.pointer a]:AV) 77);let i:=g.alloc (.cells b 23);bj prog 41 #[.slice d e f] i fun j k=>∃m:OA,∃n o:Nat,j=.slice m n o/\∃p:OA,k.cell? (⟨w.heap.size,0,none⟩:Addr)=some (.pointer p)/\bj prog 60 #[.pointer p] k fun q r=>∃t:Bool,q=.bool t/\Split (!t) (K (.int .i64 1) r) (∃u:OA,r.cell? (⟨w.heap.size,0,none⟩:Addr)=some (.pointer u)/\∃v:AV,(v.size=32/\Cells r (⟨g.heap.size,0,none⟩:Addr) v)/\bj prog 79 #[.pointer u,.agg v] r fun x y=>∃z:Bool,x=.bool z/\Split z (K (.int .i64 7) y) (Split ((n:Int)==(0:Int)) (K (.int .i64 9) y) (Split ((n:Int) != (e:Int)) (K (.int .i64 9) y) (bj prog 85 #[.slice m n o,.func (.func 107) #[] #[.pointer (some (⟨w.heap.size,0,none⟩:Addr))]] y fun a1 b1=>∃c1:Bool,a1=.bool c1/\Split c1 (K (.int .i64 6) b1) (∃d1:AV,(d1.size=32/\Cells b1 (⟨g.heap.size,0,none⟩:Addr) d1)/\Is (prog.built 150 [(0,.agg d1),(1,.slice m n o)]) fun e1:AV=>let f1:=b1.alloc (.cells e1 150);Holds none [] prog 101 (.loop (lB (bB (sR (sL (sR (sR (sR (sR (body f80)))))))))) (bt.q1 K) [(3,.pointer (some (⟨w.heap.size,0,none⟩:Addr))),(4,.pointer (some (⟨g.heap.size,0,none⟩:Addr))),(6,.int .i64 0),(8,.pointer (some (⟨b1.heap.size,0,none⟩:Addr))),(41,.slice m n o),(42,.int .i64 (n:Int)),(43,.int .i64 0)] f1)))))
variable{a b d e f K w}
theorem bt.of(h:bt.W a b d e f K w):bj prog 80 #[.pointer a,.agg b,.slice d e f] w K:=
 rqq func80 (C:=bt.k) h
end
section
variable(a b:Addr)(c:Int)(d:Addr)(e:OA)(f g:Nat)(i j:Int)(Q:aM)(w:World)
def bt.B1:Prop:=
 Split (decide (j<i)) ((0<=j/\j<(f:Int))/\Is e fun k:Addr=>∃m:AV,(m.size=32/\Cells w (k.add (j.toNat*32)) m)/\let n:=w.alloc (.cells zH 23);(m.size=32/\(∀o∈m.toList,o.oneCell'=true)/\∀p,p<32->Wr n ((⟨w.heap.size,0,none⟩:Addr).add p))/\let q:=setCells n (⟨w.heap.size,0,none⟩:Addr) m.toList 0;∃r:OA,q.cell? a=some (.pointer r)/\∃t:AV,(t.size=32/\Cells q (⟨w.heap.size,0,none⟩:Addr) t)/\bj prog 101 #[.pointer r,.agg t] q fun u v=>∃x:OA,u=.pointer x/\let y:=v.drew;∃z:OA,∃a1 b1:Nat,y.cell? (d.add 34)=some (.slice z a1 b1)/\Is x fun c1:Addr=>∃d1:OA,∃e1 f1:Nat,y.cell? (c1.add 34)=some (.slice d1 e1 f1)/\∃g1:OA,y.cell? a=some (.pointer g1)/\Is g1 fun i1:Addr=>∃j1:Option Nat,y.cell? (i1.add 1)=some (.map j1)/\∃k1:AV,(k1.size=32/\Cells y (⟨w.heap.size,0,none⟩:Addr) k1)/\∃m1:Int,(Instr.lookup 89 (.map j1) (.agg k1) false).run prog y=.ok (.int .i64 m1) y/\bj prog 102 #[.slice z a1 b1,.slice d1 e1 f1] y fun n1 o1=>∃p1:OA,∃q1 r1:Nat,n1=.slice p1 q1 r1/\(Instr.lookup 89 (.map j1) (.agg k1) false).run prog o1=.ok (.int .i64 m1) o1/\(∃cs:AV,(.agg k1:Value)=.agg cs/\cs.size=32/\Cells o1 (⟨w.heap.size,0,none⟩:Addr) cs)/\o1.cell? (i1.add 1)=some (.map j1)/\o1.cell? a=some (.pointer g1)/\bj prog 108 #[.slice p1 q1 r1,.int .i64 m1] o1 fun t1 u1=>∃v1:OA,∃x1 y1:Nat,t1=.slice v1 x1 y1/\Wr u1 (d.add 34)/\let z1:=u1.setCell (d.add 34) (.slice v1 x1 y1);let a2:=z1.drew;Is x fun b2:Addr=>∃c2:OA,∃d2 e2:Nat,a2.cell? (b2.add 33)=some (.slice c2 d2 e2)/\∃f2:AV,(f2.size=32/\Cells a2 b f2)/\f2.size=32/\let g2:=a2.alloc (.cells (f2.toList++ []).toArray 23);g2.cell? (b2.add 33)=some (.slice c2 d2 e2)/\∃(i2:OA) (j2 k2:Nat) (m2:World),(Builtin.append_ #[35,35] 35 #[.slice c2 d2 e2,.slice (some (⟨a2.heap.size,0,none⟩:Addr)) 1 1]).run prog g2=.ok (.slice i2 j2 k2) m2/\bj prog 41 #[.slice i2 j2 k2] m2 fun n2 o2=>∃p2:OA,∃q2 r2:Nat,n2=.slice p2 q2 r2/\Is x fun t2:Addr=>Wr o2 (t2.add 33)/\let u2:=o2.setCell (t2.add 33) (.slice p2 q2 r2);Q .normal [(3,.pointer (some a)),(4,.pointer (some b)),(6,.int .i64 c),(8,.pointer (some d)),(41,.slice e f g),(42,.int .i64 i),(43,.int .i64 (i64.wrap (j+(1:Int))))] u2) (Q (.exit 1) [(3,.pointer (some a)),(4,.pointer (some b)),(6,.int .i64 c),(8,.pointer (some d)),(41,.slice e f g),(42,.int .i64 i),(43,.int .i64 j)] w)
theorem bt.b1:(aU none [] prog 101 bt.k (lB (bB (sR (sL (sR (sR (sR (sR (body f80))))))))) bt.u1 Q [(3,.pointer (some a)),(4,.pointer (some b)),(6,.int .i64 c),(8,.pointer (some d)),(41,.slice e f g),(42,.int .i64 i),(43,.int .i64 j)] w)=bt.B1 a b c d e f g i j Q w:=by kernel_rfl
variable{a b c d e f g i}
theorem bt.b6(I:Int->World->Prop)(μ:Int->World->Nat)(s:Int){Q:aM}{w:World}(h0:I s w)
 (round:∀s w,I s w->bt.B1 a b c d e f g i s (bH (bt.e1 a b c d e f g i) I μ s w Q) w):Holds none [] prog 101 (.loop (lB (bB (sR (sL (sR (sR (sR (sR (body f80)))))))))) Q (bt.e1 a b c d e f g i s) w:=
 ba ng mix (bt.e1 a b c d e f g i) I μ bt.k bt.u1 s (fun s Q w=>bt.B1 a b c d e f g i s Q w) (fun s Q w=>bt.b1 a b c d e f g i s Q w) h0 round
end
section
def bt.GH(a b:Addr)(c:Int)(d:Addr)(e:OA)(f g:Nat)(i j:Int)(K:KT)(w:World):Prop:=
 let k:=w.drew;∃m:OA,k.cell? a=some (.pointer m)/\Is m fun n:Addr=>∃o:Option Nat,k.cell? (n.add 1)=some (.map o)/\∃p:AV,(p.size=32/\Cells k b p)/\∃q:OA,k.cell? a=some (.pointer q)/\Is q fun r:Addr=>∃t:OA,∃u v:Nat,k.cell? (r.add 0)=some (.slice t u v)/\∃x:World,(Instr.mapUpdate 89 (.map o) (.agg p) (.int .i64 (u:Int))).run prog k=.ok () x/\let y:=x.drew;∃z:OA,y.cell? a=some (.pointer z)/\∃a1:OA,y.cell? a=some (.pointer a1)/\Is a1 fun b1:Addr=>∃c1:OA,∃d1 e1:Nat,y.cell? (b1.add 0)=some (.slice c1 d1 e1)/\let f1:=y.alloc (.cells #[.pointer (some d)] 146);f1.cell? (b1.add 0)=some (.slice c1 d1 e1)/\f1.cell? a=some (.pointer a1)/\f1.cell? a=some (.pointer z)/\∃(g1:OA) (i1 j1:Nat) (k1:World),(Builtin.append_ #[113,113] 113 #[.slice c1 d1 e1,.slice (some (⟨y.heap.size,0,none⟩:Addr)) 1 1]).run prog f1=.ok (.slice g1 i1 j1) k1/\k1.cell? a=some (.pointer z)/\Is z fun m1:Addr=>Wr k1 (m1.add 0)/\let n1:=k1.setCell (m1.add 0) (.slice g1 i1 j1);K (.int .i64 0) n1
variable(a b:Addr)(c:Int)(d:Addr)(e:OA)(f g:Nat)(i j:Int)(K:KT)(w:World)
theorem bt.Pg:(bt.q1 K (.exit 1) [(3,.pointer (some a)),(4,.pointer (some b)),(6,.int .i64 c),(8,.pointer (some d)),(41,.slice e f g),(42,.int .i64 i),(43,.int .i64 j)] w)=bt.GH a b c d e f g i j K w:=by kernel_rfl
end
def cY.k:List Nat:= []
section
variable(a:OA)(b d:Nat)(K:KT)(w:World)
def cY.W:Prop:=
 Split ((a).isNone) (K (.slice none 0 0) w) (let e:=w.alloc (.cells #[] 23);∃(f:OA) (g i:Nat) (j:World),(Builtin.append_ #[35,35] 35 #[.slice (some (⟨w.heap.size,0,none⟩:Addr)) 0 0,.slice a b d]).run prog e=.ok (.slice f g i) j/\K (.slice f g i) j)
variable{a b d K w}
theorem cY.of(h:cY.W a b d K w):bj prog 83 #[.slice a b d] w K:=
 rqq func83 (C:=cY.k) h
end
def bC.k:List Nat:= []
def bC.q1(K:KT):aM:=(aL 0 (b7 (sR (sR (sR (sR (body f94)))))++(aN f94)) (bQ (fun bV w_=>match cutAt bC.k (sR (sR (sR (sR (body f94)))))with|true=>Holds none [] prog 46 (sR (sR (sR (sR (body f94))))) (bI prog f94 K) bV w_|false=>aU none [] prog 46 bC.k (sR (sR (sR (sR (body f94))))) (aN f94) (bI prog f94 K) bV w_) (bI prog f94 K)))
def bC.e1(a:OA)(b:Addr)(c:OA)(d e:Nat)(f s:Int):Env:= [(2,.pointer a),(3,.pointer (some b)),(20,.slice c d e),(21,.int .i64 f),(22,.int .i64 s)]
def bC.u1:List Nat:= [2,3,20,21,22]
section
variable(a:OA)(K:KT)(w:World)
def bC.W:Prop:=
 bj prog 60 #[.pointer a] w fun b d=>∃e:Bool,b=.bool e/\Split (!e) (K (.pointer none) d) (Is a fun f:Addr=>∃g:Option Nat,d.cell? (f.add 1)=some (.map g)/\bj prog 96 #[.map g] d fun i j=>∃k:Option Nat,i=.map k/\let m:=j.alloc (.cells (#[.slice none 0 0,.map k]:AV) 115);Is a fun n:Addr=>∃o:OA,∃p q:Nat,m.cell? (n.add 0)=some (.slice o p q)/\Holds none [] prog 46 (.loop (lB (bB (sR (sL (sR (sR (sR (body f94))))))))) (bC.q1 K) [(2,.pointer none),(3,.pointer (some (⟨j.heap.size,0,none⟩:Addr))),(20,.slice o p q),(21,.int .i64 (p:Int)),(22,.int .i64 0)] m)
variable{a K w}
theorem bC.of(h:bC.W a K w):bj prog 94 #[.pointer a] w K:=
 rqq func94 (C:=bC.k) h
end
section
variable(a:OA)(b:Addr)(c:OA)(d e:Nat)(f g:Int)(Q:aM)(w:World)
def bC.B1:Prop:=
 Split (decide (g<f)) ((0<=g/\g<(d:Int))/\Is c fun i:Addr=>∃j:OA,w.cell? (i.add (g.toNat*1))=some (.pointer j)/\Is j fun k:Addr=>∃m:AV,(m.size=35/\Cells w k m)/\let n:=w.alloc (.cells (#[.int .u8 0,.int .u8 0,.int .u8 0,.int .u8 0,.int .u8 0,.int .u8 0,.int .u8 0,.int .u8 0,.int .u8 0,.int .u8 0,.int .u8 0,.int .u8 0,.int .u8 0,.int .u8 0,.int .u8 0,.int .u8 0,.int .u8 0,.int .u8 0,.int .u8 0,.int .u8 0,.int .u8 0,.int .u8 0,.int .u8 0,.int .u8 0,.int .u8 0,.int .u8 0,.int .u8 0,.int .u8 0,.int .u8 0,.int .u8 0,.int .u8 0,.int .u8 0,.slice none 0 0,.slice none 0 0,.slice none 0 0]:AV) 150);(m.size=35/\(∀o∈m.toList,o.oneCell'=true)/\∀p,p<35->Wr n ((⟨w.heap.size,0,none⟩:Addr).add p))/\let q:=setCells n (⟨w.heap.size,0,none⟩:Addr) m.toList 0;Is j fun r:Addr=>∃t:OA,∃u v:Nat,q.cell? (r.add 33)=some (.slice t u v)/\bj prog 83 #[.slice t u v] q fun x y=>∃z:OA,∃a1 b1:Nat,x=.slice z a1 b1/\Wr y ((⟨w.heap.size,0,none⟩:Addr).add 33)/\let c1:=y.setCell ((⟨w.heap.size,0,none⟩:Addr).add 33) (.slice z a1 b1);∃d1:OA,∃e1 f1:Nat,c1.cell? (b.add 0)=some (.slice d1 e1 f1)/\let g1:=c1.alloc (.cells #[.pointer (some (⟨w.heap.size,0,none⟩:Addr))] 146);∃(i1:OA) (j1 k1:Nat) (m1:World),(Builtin.append_ #[113,113] 113 #[.slice d1 e1 f1,.slice (some (⟨c1.heap.size,0,none⟩:Addr)) 1 1]).run prog g1=.ok (.slice i1 j1 k1) m1/\Wr m1 (b.add 0)/\let n1:=m1.setCell (b.add 0) (.slice i1 j1 k1);Q .normal [(2,.pointer a),(3,.pointer (some b)),(20,.slice c d e),(21,.int .i64 f),(22,.int .i64 (i64.wrap (g+(1:Int))))] n1) (Q (.exit 0) [(2,.pointer a),(3,.pointer (some b)),(20,.slice c d e),(21,.int .i64 f),(22,.int .i64 g)] w)
theorem bC.b1:(aU none [] prog 46 bC.k (lB (bB (sR (sL (sR (sR (sR (body f94)))))))) bC.u1 Q [(2,.pointer a),(3,.pointer (some b)),(20,.slice c d e),(21,.int .i64 f),(22,.int .i64 g)] w)=bC.B1 a b c d e f g Q w:=by kernel_rfl
variable{a b c d e f}
theorem bC.b6(I:Int->World->Prop)(μ:Int->World->Nat)(s:Int){Q:aM}{w:World}(h0:I s w)
 (round:∀s w,I s w->bC.B1 a b c d e f s (bH (bC.e1 a b c d e f) I μ s w Q) w):Holds none [] prog 46 (.loop (lB (bB (sR (sL (sR (sR (sR (body f94))))))))) Q (bC.e1 a b c d e f s) w:=
 ba ng mix (bC.e1 a b c d e f) I μ bC.k bC.u1 s (fun s Q w=>bC.B1 a b c d e f s Q w) (fun s Q w=>bC.b1 a b c d e f s Q w) h0 round
end
section
def bC.cI(a:OA)(b:Addr)(c:OA)(d e:Nat)(f g:Int)(K:KT)(w:World):Prop:=
 K (.pointer (some b)) w
variable(a:OA)(b:Addr)(c:OA)(d e:Nat)(f g:Int)(K:KT)(w:World)
theorem bC.cX:(bC.q1 K (.exit 0) [(2,.pointer a),(3,.pointer (some b)),(20,.slice c d e),(21,.int .i64 f),(22,.int .i64 g)] w)=bC.cI a b c d e f g K w:=by kernel_rfl
end
def cP.k:List Nat:= []
section
variable(a:Value)(K:KT)(w:World)
def cP.W:Prop:=
 bj prog 118 #[.slice none 0 0,a] w fun b d=>∃e:OA,∃f g:Nat,b=.slice e f g/\K (.slice e f g) d
variable{a K w}
theorem cP.of(h:cP.W a K w):bj prog 98 #[a] w K:=
 rqq func98 (C:=cP.k) h
end
def jH.k:List Nat:= []
section
variable(a:OA)(b d:Nat)(K:KT)(w:World)
def jH.W:Prop:=
 let e:=w.alloc (.cells (#[.slice a b d]:AV) 148);K (.func (.func 120) #[] #[.pointer (some (⟨w.heap.size,0,none⟩:Addr))]) e
variable{a b d K w}
theorem jH.of(h:jH.W a b d K w):bj prog 103 #[.slice a b d] w K:=
 rqq func103 (C:=jH.k) h
end
def eh.k:List Nat:= []
section
variable(a:OA)(b d:AV)(K:KT)(w:World)
def eh.W:Prop:=
 let e:=w.alloc (.cells b 23);let f:=e.alloc (.cells d 23);∃g:AV,(g.size=32/\Cells f (⟨w.heap.size,0,none⟩:Addr) g)/\∃i:AV,(i.size=32/\Cells f (⟨e.heap.size,0,none⟩:Addr) i)/\(dP .u8 32 g/\dP .u8 32 i)/\Split (!(eT g i)) (∃j:AV,(j.size=32/\Cells f (⟨w.heap.size,0,none⟩:Addr) j)/\∃k:AV,(k.size=32/\Cells f (⟨e.heap.size,0,none⟩:Addr) k)/\bj prog 50 #[.pointer a,.agg j,.agg k] f fun m n=>∃o:Bool,m=.bool o/\Split (!o) (∃p:AV,(p.size=32/\Cells n (⟨e.heap.size,0,none⟩:Addr) p)/\∃q:AV,(q.size=32/\Cells n (⟨w.heap.size,0,none⟩:Addr) q)/\bj prog 50 #[.pointer a,.agg p,.agg q] n fun r t=>∃u:Bool,r=.bool u/\K (.bool (!u)) t) (K (.bool false) n)) (K (.bool false) f)
variable{a b d K w}
theorem eh.of(h:eh.W a b d K w):bj prog 25 #[.pointer a,.agg b,.agg d] w K:=
 rqq func25 (C:=eh.k) h
end
def aF.k:List Nat:= []
def aF.q1(K:KT):aM:=(aL 0 (b7 (sR (sR (sR (sR (body Tryz.f26)))))++(aN Tryz.f26)) (bQ (fun bV w_=>match cutAt aF.k (sR (sR (sR (sR (body Tryz.f26)))))with|true=>Holds none [] prog 64 (sR (sR (sR (sR (body Tryz.f26))))) (bI prog Tryz.f26 K) bV w_|false=>aU none [] prog 64 aF.k (sR (sR (sR (sR (body Tryz.f26))))) (aN Tryz.f26) (bI prog Tryz.f26 K) bV w_) (bI prog Tryz.f26 K)))
def aF.e1(a b:OA)(c d:Nat)(s:(OA)×Nat×Nat×(OA)×Nat×Nat×Int):Env:= [(0,.pointer a),(4,.slice b c d),(5,.slice s.1 s.2.1 s.2.2.1),(6,.slice s.2.2.2.1 s.2.2.2.2.1 s.2.2.2.2.2.1),(7,.int .i64 s.2.2.2.2.2.2)]
def aF.u1:List Nat:= [0,4,5,6,7]
def aF.q2(Q:aM):aM:=(aL 2 (b7 (sR (sR (lB (bB (sR (sL (sR (sR (sR (body Tryz.f26))))))))))++aF.u1) (aL 1 (b7 (sR (sR (lB (bB (sR (sL (sR (sR (sR (body Tryz.f26))))))))))++aF.u1) (bQ (fun bV w_=>match cutAt aF.k (sR (sR (lB (bB (sR (sL (sR (sR (sR (body Tryz.f26))))))))))with|true=>Holds none [] prog 64 (sR (sR (lB (bB (sR (sL (sR (sR (sR (body Tryz.f26)))))))))) Q bV w_|false=>aU none [] prog 64 aF.k (sR (sR (lB (bB (sR (sL (sR (sR (sR (body Tryz.f26)))))))))) aF.u1 Q bV w_) Q)))
def aF.e2(a b:OA)(c d:Nat)(e:Int)(f:OA)(g i:Nat)(s:(OA)×Nat×Nat×(OA)×Nat×Nat×Int):Env:= [(0,.pointer a),(4,.slice b c d),(5,.slice s.1 s.2.1 s.2.2.1),(6,.slice s.2.2.2.1 s.2.2.2.2.1 s.2.2.2.2.2.1),(7,.int .i64 e),(9,.slice f g i),(10,.int .i64 s.2.2.2.2.2.2)]
def aF.u2:List Nat:= [0,4,5,6,7,9,10]
section
variable(a b:OA)(d e:Nat)(K:KT)(w:World)
def aF.W:Prop:=
 ∃(f:OA) (g i:Nat) (j:World),(Builtin.append_ #[35,35] 35 #[.slice none 0 0,.slice b d e]).run prog w=.ok (.slice f g i) j/\Holds none [] prog 64 (.loop (lB (bB (sR (sL (sR (sR (sR (body Tryz.f26))))))))) (aF.q1 K) [(0,.pointer a),(4,.slice none 0 0),(5,.slice none 0 0),(6,.slice f g i),(7,.int .i64 0)] j
variable{a b d e K w}
theorem aF.of(h:aF.W a b d e K w):bj prog 26 #[.pointer a,.slice b d e] w K:=
 rqq func26 (C:=aF.k) h
end
section
variable(a b:OA)(c d:Nat)(e:OA)(f g:Nat)(i:OA)(j k:Nat)(m:Int)(Q:aM)(w:World)
def aF.B1:Prop:=
 Split (decide (m<(j:Int))) ((0<=m/\m<(j:Int))/\Is i fun n:Addr=>∃o:AV,(o.size=32/\Cells w (n.add (m.toNat*32)) o)/\bj prog 48 #[.pointer a,.agg o] w fun p q=>∃r:Int,p=.int .i64 r/\Split (decide (r<(0:Int))) (Q .normal [(0,.pointer a),(4,.slice b c d),(5,.slice e f g),(6,.slice i j k),(7,.int .i64 (i64.wrap (m+(1:Int))))] q) (Is a fun t:Addr=>∃u:OA,∃v x:Nat,q.cell? (t.add 0)=some (.slice u v x)/\(0<=r/\r<(v:Int))/\Is u fun y:Addr=>∃z:OA,∃a1 b1:Nat,q.cell? ((y.add (r.toNat*33)).add 32)=some (.slice z a1 b1)/\Holds none [] prog 64 (.loop (lB (bB (sR (sR (sR (sR (bB (sL (sR (lB (bB (sR (sL (sR (sR (sR (body Tryz.f26)))))))))))))))))) (aF.q2 Q) [(0,.pointer a),(4,.slice b c d),(5,.slice e f g),(6,.slice i j k),(7,.int .i64 m),(9,.slice z a1 b1),(10,.int .i64 0)] q)) (Q (.exit 0) [(0,.pointer a),(4,.slice b c d),(5,.slice e f g),(6,.slice i j k),(7,.int .i64 m)] w)
theorem aF.b1:(aU none [] prog 64 aF.k (lB (bB (sR (sL (sR (sR (sR (body Tryz.f26)))))))) aF.u1 Q [(0,.pointer a),(4,.slice b c d),(5,.slice e f g),(6,.slice i j k),(7,.int .i64 m)] w)=aF.B1 a b c d e f g i j k m Q w:=by kernel_rfl
variable{a b c d}
theorem aF.b6(I:(OA)×Nat×Nat×(OA)×Nat×Nat×Int->World->Prop)(μ:(OA)×Nat×Nat×(OA)×Nat×Nat×Int->World->Nat)(s:(OA)×Nat×Nat×(OA)×Nat×Nat×Int){Q:aM}{w:World}(h0:I s w)
 (round:∀s w,I s w->aF.B1 a b c d (s.1) (s.2.1) (s.2.2.1) (s.2.2.2.1) (s.2.2.2.2.1) (s.2.2.2.2.2.1) (s.2.2.2.2.2.2) (bH (aF.e1 a b c d) I μ s w Q) w):Holds none [] prog 64 (.loop (lB (bB (sR (sL (sR (sR (sR (body Tryz.f26))))))))) Q (aF.e1 a b c d s) w:=
 ba ng mix (aF.e1 a b c d) I μ aF.k aF.u1 s (fun s Q w=>aF.B1 a b c d (s.1) (s.2.1) (s.2.2.1) (s.2.2.2.1) (s.2.2.2.2.1) (s.2.2.2.2.2.1) (s.2.2.2.2.2.2) Q w) (fun s Q w=>aF.b1 a b c d (s.1) (s.2.1) (s.2.2.1) (s.2.2.2.1) (s.2.2.2.2.1) (s.2.2.2.2.2.1) (s.2.2.2.2.2.2) Q w) h0 round
end
section
def aF.cI(a b:OA)(c d:Nat)(e:OA)(f g:Nat)(i:OA)(j k:Nat)(m:Int)(K:KT)(w:World):Prop:=
 bj prog 28 #[.slice e f g] w fun n o=>∃p:OA,∃q r:Nat,n=.slice p q r/\K (.slice p q r) o
variable(a b:OA)(c d:Nat)(e:OA)(f g:Nat)(i:OA)(j k:Nat)(m:Int)(K:KT)(w:World)
theorem aF.cX:(aF.q1 K (.exit 0) [(0,.pointer a),(4,.slice b c d),(5,.slice e f g),(6,.slice i j k),(7,.int .i64 m)] w)=aF.cI a b c d e f g i j k m K w:=by kernel_rfl
end
section
variable(a b:OA)(c d:Nat)(e:OA)(f g:Nat)(i:OA)(j k:Nat)(m:Int)(n:OA)(o p:Nat)(q:Int)(Q:aM)(w:World)
def aF.B2:Prop:=
 Split (decide (q<(o:Int))) ((0<=q/\q<(o:Int))/\Is n fun r:Addr=>∃t:AV,(t.size=32/\Cells w (r.add (q.toNat*32)) t)/\bj prog 13 #[.slice e f g,.agg t] w fun u v=>∃x:Bool,u=.bool x/\Split (!x) ((0<=q/\q<(o:Int))/\Is n fun y:Addr=>∃z:AV,(z.size=32/\Cells v (y.add (q.toNat*32)) z)/\z.size=32/\let a1:=v.alloc (.cells (z.toList++ []).toArray 23);∃(b1:OA) (c1 d1:Nat) (e1:World),(Builtin.append_ #[35,35] 35 #[.slice e f g,.slice (some (⟨v.heap.size,0,none⟩:Addr)) 1 1]).run prog a1=.ok (.slice b1 c1 d1) e1/\(0<=q/\q<(o:Int))/\Is n fun f1:Addr=>∃g1:AV,(g1.size=32/\Cells e1 (f1.add (q.toNat*32)) g1)/\g1.size=32/\let i1:=e1.alloc (.cells (g1.toList++ []).toArray 23);∃(j1:OA) (k1 m1:Nat) (n1:World),(Builtin.append_ #[35,35] 35 #[.slice i j k,.slice (some (⟨e1.heap.size,0,none⟩:Addr)) 1 1]).run prog i1=.ok (.slice j1 k1 m1) n1/\Q .normal [(0,.pointer a),(4,.slice b c d),(5,.slice b1 c1 d1),(6,.slice j1 k1 m1),(7,.int .i64 m),(9,.slice n o p),(10,.int .i64 (i64.wrap (q+(1:Int))))] n1) (Q .normal [(0,.pointer a),(4,.slice b c d),(5,.slice e f g),(6,.slice i j k),(7,.int .i64 m),(9,.slice n o p),(10,.int .i64 (i64.wrap (q+(1:Int))))] v)) (Q (.exit 2) [(0,.pointer a),(4,.slice b c d),(5,.slice e f g),(6,.slice i j k),(7,.int .i64 m),(9,.slice n o p),(10,.int .i64 q)] w)
theorem aF.b2:(aU none [] prog 64 aF.k (lB (bB (sR (sR (sR (sR (bB (sL (sR (lB (bB (sR (sL (sR (sR (sR (body Tryz.f26))))))))))))))))) aF.u2 Q [(0,.pointer a),(4,.slice b c d),(5,.slice e f g),(6,.slice i j k),(7,.int .i64 m),(9,.slice n o p),(10,.int .i64 q)] w)=aF.B2 a b c d e f g i j k m n o p q Q w:=by kernel_rfl
variable{a b c d m n o p}
theorem aF.gI(I:(OA)×Nat×Nat×(OA)×Nat×Nat×Int->World->Prop)(μ:(OA)×Nat×Nat×(OA)×Nat×Nat×Int->World->Nat)(s:(OA)×Nat×Nat×(OA)×Nat×Nat×Int){Q:aM}{w:World}(h0:I s w)
 (round:∀s w,I s w->aF.B2 a b c d (s.1) (s.2.1) (s.2.2.1) (s.2.2.2.1) (s.2.2.2.2.1) (s.2.2.2.2.2.1) m n o p (s.2.2.2.2.2.2) (bH (aF.e2 a b c d m n o p) I μ s w Q) w):Holds none [] prog 64 (.loop (lB (bB (sR (sR (sR (sR (bB (sL (sR (lB (bB (sR (sL (sR (sR (sR (body Tryz.f26)))))))))))))))))) Q (aF.e2 a b c d m n o p s) w:=
 ba ng mix (aF.e2 a b c d m n o p) I μ aF.k aF.u2 s (fun s Q w=>aF.B2 a b c d (s.1) (s.2.1) (s.2.2.1) (s.2.2.2.1) (s.2.2.2.2.1) (s.2.2.2.2.2.1) m n o p (s.2.2.2.2.2.2) Q w) (fun s Q w=>aF.b2 a b c d (s.1) (s.2.1) (s.2.2.1) (s.2.2.2.1) (s.2.2.2.2.1) (s.2.2.2.2.2.1) m n o p (s.2.2.2.2.2.2) Q w) h0 round
end
section
def aF.iE(a b:OA)(c d:Nat)(e:OA)(f g:Nat)(i:OA)(j k:Nat)(m:Int)(n:OA)(o p:Nat)(q:Int)(Q:aM)(w:World):Prop:=
 Q .normal [(0,.pointer a),(4,.slice b c d),(5,.slice e f g),(6,.slice i j k),(7,.int .i64 (i64.wrap (m+(1:Int))))] w
variable(a b:OA)(c d:Nat)(e:OA)(f g:Nat)(i:OA)(j k:Nat)(m:Int)(n:OA)(o p:Nat)(q:Int)(Q:aM)(w:World)
theorem aF.jJ:(aF.q2 Q (.exit 2) [(0,.pointer a),(4,.slice b c d),(5,.slice e f g),(6,.slice i j k),(7,.int .i64 m),(9,.slice n o p),(10,.int .i64 q)] w)=aF.iE a b c d e f g i j k m n o p q Q w:=by kernel_rfl
end
def bu.k:List Nat:= []
def bu.q1(K:KT):aM:=(aL 0 (b7 (sR (sR (body Tryz.f48)))++(aN Tryz.f48)) (bQ (fun bV w_=>match cutAt bu.k (sR (sR (body Tryz.f48)))with|true=>Holds none [] prog 26 (sR (sR (body Tryz.f48))) (bI prog Tryz.f48 K) bV w_|false=>aU none [] prog 26 bu.k (sR (sR (body Tryz.f48))) (aN Tryz.f48) (bI prog Tryz.f48 K) bV w_) (bI prog Tryz.f48 K)))
def bu.e1(a:OA)(b:Addr)(s:Int×Int):Env:= [(0,.pointer a),(3,.pointer (some b)),(4,.int .i64 s.1),(5,.int .i64 s.2)]
def bu.u1:List Nat:= [0,3,4,5]
section
variable(a:OA)(b:AV)(K:KT)(w:World)
def bu.W:Prop:=
 let d:=w.alloc (.cells b 23);Holds none [] prog 26 (.loop (lB (bB (sR (sL (sR (body Tryz.f48))))))) (bu.q1 K) [(0,.pointer a),(3,.pointer (some (⟨w.heap.size,0,none⟩:Addr))),(4,.int .i64 0),(5,.int .i64 0)] d
variable{a b K w}
theorem bu.of(h:bu.W a b K w):bj prog 48 #[.pointer a,.agg b] w K:=
 rqq func48 (C:=bu.k) h
end
section
variable(a:OA)(b:Addr)(c d:Int)(Q:aM)(w:World)
def bu.B1:Prop:=
 Is a fun e:Addr=>∃f:OA,∃g i:Nat,w.cell? (e.add 0)=some (.slice f g i)/\Split (decide (d<(g:Int))) (let j:=w.drew;Is a fun k:Addr=>∃m:OA,∃n o:Nat,j.cell? (k.add 0)=some (.slice m n o)/\(0<=d/\d<(n:Int))/\Is m fun p:Addr=>∃q:AV,(q.size=32/\Cells j ((p.add (d.toNat*33)).add 0) q)/\∃r:AV,(r.size=32/\Cells j b r)/\(dP .u8 32 q/\dP .u8 32 r)/\Split (eT q r) (Q .ret [(0,.pointer a),(3,.pointer (some b)),(4,.int .i64 d),(5,.int .i64 d)] j) (Q .normal [(0,.pointer a),(3,.pointer (some b)),(4,.int .i64 c),(5,.int .i64 (i64.wrap (d+(1:Int))))] j)) (Q (.exit 0) [(0,.pointer a),(3,.pointer (some b)),(4,.int .i64 c),(5,.int .i64 d)] w)
theorem bu.b1:(aU none [] prog 26 bu.k (lB (bB (sR (sL (sR (body Tryz.f48)))))) bu.u1 Q [(0,.pointer a),(3,.pointer (some b)),(4,.int .i64 c),(5,.int .i64 d)] w)=bu.B1 a b c d Q w:=by kernel_rfl
variable{a b}
theorem bu.b6(I:Int×Int->World->Prop)(μ:Int×Int->World->Nat)(s:Int×Int){Q:aM}{w:World}(h0:I s w)
 (round:∀s w,I s w->bu.B1 a b (s.1) (s.2) (bH (bu.e1 a b) I μ s w Q) w):Holds none [] prog 26 (.loop (lB (bB (sR (sL (sR (body Tryz.f48))))))) Q (bu.e1 a b s) w:=
 ba ng mix (bu.e1 a b) I μ bu.k bu.u1 s (fun s Q w=>bu.B1 a b (s.1) (s.2) Q w) (fun s Q w=>bu.b1 a b (s.1) (s.2) Q w) h0 round
end
section
def bu.cI(a:OA)(b:Addr)(c d:Int)(K:KT)(w:World):Prop:=
 K (.int .i64 (-1)) w
variable(a:OA)(b:Addr)(c d:Int)(K:KT)(w:World)
theorem bu.cX:(bu.q1 K (.exit 0) [(0,.pointer a),(3,.pointer (some b)),(4,.int .i64 c),(5,.int .i64 d)] w)=bu.cI a b c d K w:=by kernel_rfl
end
def dN.k:List Nat:= []
section
variable(a:OA)(b d:AV)(K:KT)(w:World)
def dN.W:Prop:=
 let e:=w.alloc (.cells b 23);let f:=e.alloc (.cells d 23);let g:=f.drew;∃i:AV,(i.size=32/\Cells g (⟨w.heap.size,0,none⟩:Addr) i)/\bj prog 48 #[.pointer a,.agg i] g fun j k=>∃m:Int,j=.int .i64 m/\Split (decide (m>=(0:Int))) (∃n:AV,(n.size=32/\Cells k (⟨e.heap.size,0,none⟩:Addr) n)/\∃o:AV,(o.size=32/\Cells k (⟨w.heap.size,0,none⟩:Addr) o)/\n.size=32/\let p:=k.alloc (.cells (n.toList++ []).toArray 23);(∃cs:AV,(.agg o:Value)=.agg cs/\cs.size=32/\Cells p (⟨w.heap.size,0,none⟩:Addr) cs)/\bj prog 26 #[.pointer a,.slice (some (⟨k.heap.size,0,none⟩:Addr)) 1 1] p fun q r=>∃t:OA,∃u v:Nat,q=.slice t u v/\(∃cs:AV,(.agg o:Value)=.agg cs/\cs.size=32/\Cells r (⟨w.heap.size,0,none⟩:Addr) cs)/\bj prog 13 #[.slice t u v,.agg o] r fun x y=>∃z:Bool,x=.bool z/\K (.bool z) y) (K (.bool false) k)
variable{a b d K w}
theorem dN.of(h:dN.W a b d K w):bj prog 50 #[.pointer a,.agg b,.agg d] w K:=
 rqq func50 (C:=dN.k) h
end
def bn.k:List Nat:= []
def bn.q1(K:KT):aM:=(aL 0 (b7 (sR (sR (sR (sR (sR (body f62))))))++(aN f62)) (bQ (fun bV w_=>match cutAt bn.k (sR (sR (sR (sR (sR (body f62))))))with|true=>Holds none [] prog 51 (sR (sR (sR (sR (sR (body f62)))))) (bI prog f62 K) bV w_|false=>aU none [] prog 51 bn.k (sR (sR (sR (sR (sR (body f62)))))) (aN f62) (bI prog f62 K) bV w_) (bI prog f62 K)))
def bn.e1(a:OA)(b:Addr)(c:OA)(d e:Nat)(s:Int×Int):Env:= [(0,.pointer a),(4,.pointer (some b)),(6,.int .i64 s.1),(7,.slice c d e),(8,.int .i64 s.2)]
def bn.u1:List Nat:= [0,4,6,7,8]
section
variable(a:OA)(b:AV)(d:OA)(e f:Nat)(K:KT)(w:World)
def bn.W:Prop:=
 let g:=w.alloc (.cells b 23);∃i:AV,(i.size=32/\Cells g (⟨w.heap.size,0,none⟩:Addr) i)/\bj prog 48 #[.pointer a,.agg i] g fun j k=>∃m:Int,j=.int .i64 m/\Split (decide (m>=(0:Int))) (K (.int .i64 7) k) (bj prog 28 #[.slice d e f] k fun n o=>∃p:OA,∃q r:Nat,n=.slice p q r/\Split ((q:Int)==(0:Int)) (K (.int .i64 9) o) (Split ((q:Int) != (e:Int)) (K (.int .i64 9) o) (Holds none [] prog 51 (.loop (lB (bB (sR (sL (sR (sR (sR (sR (body f62)))))))))) (bn.q1 K) [(0,.pointer a),(4,.pointer (some (⟨w.heap.size,0,none⟩:Addr))),(6,.int .i64 0),(7,.slice p q r),(8,.int .i64 0)] o)))
variable{a b d e f K w}
theorem bn.of(h:bn.W a b d e f K w):bj prog 62 #[.pointer a,.agg b,.slice d e f] w K:=
 rqq func62 (C:=bn.k) h
end
section
variable(a:OA)(b:Addr)(c:Int)(d:OA)(e f:Nat)(g:Int)(Q:aM)(w:World)
def bn.B1:Prop:=
 Split (decide (g<(e:Int))) ((0<=g/\g<(e:Int))/\Is d fun i:Addr=>∃j:AV,(j.size=32/\Cells w (i.add (g.toNat*32)) j)/\bj prog 48 #[.pointer a,.agg j] w fun k m=>∃n:Int,k=.int .i64 n/\Split (decide (n<(0:Int))) (Q .ret [(0,.pointer a),(4,.pointer (some b)),(6,.int .i64 6),(7,.slice d e f),(8,.int .i64 g)] m) (Q .normal [(0,.pointer a),(4,.pointer (some b)),(6,.int .i64 c),(7,.slice d e f),(8,.int .i64 (i64.wrap (g+(1:Int))))] m)) (Q (.exit 0) [(0,.pointer a),(4,.pointer (some b)),(6,.int .i64 c),(7,.slice d e f),(8,.int .i64 g)] w)
theorem bn.b1:(aU none [] prog 51 bn.k (lB (bB (sR (sL (sR (sR (sR (sR (body f62))))))))) bn.u1 Q [(0,.pointer a),(4,.pointer (some b)),(6,.int .i64 c),(7,.slice d e f),(8,.int .i64 g)] w)=bn.B1 a b c d e f g Q w:=by kernel_rfl
variable{a b d e f}
theorem bn.b6(I:Int×Int->World->Prop)(μ:Int×Int->World->Nat)(s:Int×Int){Q:aM}{w:World}(h0:I s w)
 (round:∀s w,I s w->bn.B1 a b (s.1) d e f (s.2) (bH (bn.e1 a b d e f) I μ s w Q) w):Holds none [] prog 51 (.loop (lB (bB (sR (sL (sR (sR (sR (sR (body f62)))))))))) Q (bn.e1 a b d e f s) w:=
 ba ng mix (bn.e1 a b d e f) I μ bn.k bn.u1 s (fun s Q w=>bn.B1 a b (s.1) d e f (s.2) Q w) (fun s Q w=>bn.b1 a b (s.1) d e f (s.2) Q w) h0 round
end
section
def bn.cI(a:OA)(b:Addr)(c:Int)(d:OA)(e f:Nat)(g:Int)(K:KT)(w:World):Prop:=
 let i:=w.drew;Is a fun j:Addr=>∃k:OA,∃m n:Nat,i.cell? (j.add 0)=some (.slice k m n)/\∃o:AV,(o.size=32/\Cells i b o)/\Is (prog.built 48 [(0,.agg o),(1,.slice d e f)]) fun p:AV=>(∃(q:OA) (r t:Nat) (u:World),(Builtin.append_ #[36,36] 36 #[.slice none 0 0,.slice k m n]).run prog i=.ok (.slice q r t) u/\(∃cs:AV,(.agg o:Value)=.agg cs/\cs.size=32/\Cells u b cs)/\p.size=33/\let v:=u.alloc (.cells (p.toList++ []).toArray 48);∃(x:OA) (y z:Nat) (a1:World),(Builtin.append_ #[36,36] 36 #[.slice q r t,.slice (some (⟨u.heap.size,0,none⟩:Addr)) 1 1]).run prog v=.ok (.slice x y z) a1/\Is a fun b1:Addr=>Wr a1 (b1.add 0)/\let c1:=a1.setCell (b1.add 0) (.slice x y z);K (.int .i64 0) c1)/\(p.size=33/\let d1:=i.alloc (.cells (p.toList++ []).toArray 48);d1.cell? (j.add 0)=some (.slice k m n)/\∃(e1:OA) (f1 g1:Nat) (i1:World),(Builtin.append_ #[36,36] 36 #[.slice none 0 0,.slice k m n]).run prog d1=.ok (.slice e1 f1 g1) i1/\∃(j1:OA) (k1 m1:Nat) (n1:World),(Builtin.append_ #[36,36] 36 #[.slice e1 f1 g1,.slice (some (⟨i.heap.size,0,none⟩:Addr)) 1 1]).run prog i1=.ok (.slice j1 k1 m1) n1/\Is a fun o1:Addr=>Wr n1 (o1.add 0)/\let p1:=n1.setCell (o1.add 0) (.slice j1 k1 m1);K (.int .i64 0) p1)
variable(a:OA)(b:Addr)(c:Int)(d:OA)(e f:Nat)(g:Int)(K:KT)(w:World)
theorem bn.cX:(bn.q1 K (.exit 0) [(0,.pointer a),(4,.pointer (some b)),(6,.int .i64 c),(7,.slice d e f),(8,.int .i64 g)] w)=bn.cI a b c d e f g K w:=by kernel_rfl
end
def aR.k:List Nat:= []
def aR.q1(K:KT):aM:=(aL 0 (b7 (sR (sR (sR (body f70))))++(aN f70)) (bQ (fun bV w_=>match cutAt aR.k (sR (sR (sR (body f70))))with|true=>Holds none [] prog 47 (sR (sR (sR (body f70)))) (bI prog f70 K) bV w_|false=>aU none [] prog 47 aR.k (sR (sR (sR (body f70)))) (aN f70) (bI prog f70 K) bV w_) (bI prog f70 K)))
def aR.e1(a:Addr)(b:OA)(c d:Nat)(e:OA)(f g:Nat)(i:Int)(s:(OA)×Nat×Nat×Int):Env:= [(2,.pointer (some a)),(4,.slice b c d),(5,.slice s.1 s.2.1 s.2.2.1),(11,.slice e f g),(12,.int .i64 i),(13,.int .i64 s.2.2.2)]
def aR.u1:List Nat:= [2,4,5,11,12,13]
def aR.E0(K:KT):aM:=(aL 2 (b7 (sR (sR (sR (sR (sR (body f70))))))++(aN f70)) (bQ (fun bV w_=>match cutAt aR.k (sR (sR (sR (sR (sR (body f70))))))with|true=>Holds none [] prog 47 (sR (sR (sR (sR (sR (body f70)))))) (bI prog f70 K) bV w_|false=>aU none [] prog 47 aR.k (sR (sR (sR (sR (sR (body f70)))))) (aN f70) (bI prog f70 K) bV w_) (bI prog f70 K)))
section
variable(a b:OA)(d e:Nat)(K:KT)(w:World)
def aR.W:Prop:=
 let f:=w.alloc (.cells (#[.pointer a]:AV) 77);Holds none [] prog 47 (.loop (lB (bB (sR (sL (sR (sR (body f70)))))))) (aR.q1 K) [(2,.pointer (some (⟨w.heap.size,0,none⟩:Addr))),(4,.slice none 0 0),(5,.slice none 0 0),(11,.slice b d e),(12,.int .i64 (d:Int)),(13,.int .i64 0)] f
variable{a b d e K w}
theorem aR.of(h:aR.W a b d e K w):bj prog 70 #[.pointer a,.slice b d e] w K:=
 rqq func70 (C:=aR.k) h
end
section
variable(a:Addr)(b:OA)(c d:Nat)(e:OA)(f g:Nat)(i:OA)(j k:Nat)(m n:Int)(Q:aM)(w:World)
def aR.B1:Prop:=
 Split (decide (n<m)) ((0<=n/\n<(j:Int))/\Is i fun o:Addr=>∃p:AV,(p.size=32/\Cells w (o.add (n.toNat*32)) p)/\let q:=w.alloc (.cells zH 23);(p.size=32/\(∀r∈p.toList,r.oneCell'=true)/\∀t,t<32->Wr q ((⟨w.heap.size,0,none⟩:Addr).add t))/\let u:=setCells q (⟨w.heap.size,0,none⟩:Addr) p.toList 0;∃v:OA,u.cell? a=some (.pointer v)/\∃x:AV,(x.size=32/\Cells u (⟨w.heap.size,0,none⟩:Addr) x)/\bj prog 101 #[.pointer v,.agg x] u fun y z=>∃a1:OA,y=.pointer a1/\Split (!(a1).isNone) (Is a1 fun b1:Addr=>∃c1:OA,∃d1 e1:Nat,z.cell? (b1.add 34)=some (.slice c1 d1 e1)/\bj prog 102 #[.slice e f g,.slice c1 d1 e1] z fun f1 g1=>∃i1:OA,∃j1 k1:Nat,f1=.slice i1 j1 k1/\Q .normal [(2,.pointer (some a)),(4,.slice b c d),(5,.slice i1 j1 k1),(11,.slice i j k),(12,.int .i64 m),(13,.int .i64 (i64.wrap (n+(1:Int))))] g1) (Q .normal [(2,.pointer (some a)),(4,.slice b c d),(5,.slice e f g),(11,.slice i j k),(12,.int .i64 m),(13,.int .i64 (i64.wrap (n+(1:Int))))] z)) (Q (.exit 0) [(2,.pointer (some a)),(4,.slice b c d),(5,.slice e f g),(11,.slice i j k),(12,.int .i64 m),(13,.int .i64 n)] w)
theorem aR.b1:(aU none [] prog 47 aR.k (lB (bB (sR (sL (sR (sR (body f70))))))) aR.u1 Q [(2,.pointer (some a)),(4,.slice b c d),(5,.slice e f g),(11,.slice i j k),(12,.int .i64 m),(13,.int .i64 n)] w)=aR.B1 a b c d e f g i j k m n Q w:=by kernel_rfl
variable{a b c d i j k m}
theorem aR.b6(I:(OA)×Nat×Nat×Int->World->Prop)(μ:(OA)×Nat×Nat×Int->World->Nat)(s:(OA)×Nat×Nat×Int){Q:aM}{w:World}(h0:I s w)
 (round:∀s w,I s w->aR.B1 a b c d (s.1) (s.2.1) (s.2.2.1) i j k m (s.2.2.2) (bH (aR.e1 a b c d i j k m) I μ s w Q) w):Holds none [] prog 47 (.loop (lB (bB (sR (sL (sR (sR (body f70)))))))) Q (aR.e1 a b c d i j k m s) w:=
 ba ng mix (aR.e1 a b c d i j k m) I μ aR.k aR.u1 s (fun s Q w=>aR.B1 a b c d (s.1) (s.2.1) (s.2.2.1) i j k m (s.2.2.2) Q w) (fun s Q w=>aR.b1 a b c d (s.1) (s.2.1) (s.2.2.1) i j k m (s.2.2.2) Q w) h0 round
end
section
def aR.cI(a:Addr)(b:OA)(c d:Nat)(e:OA)(f g:Nat)(i:OA)(j k:Nat)(m n:Int)(K:KT)(w:World):Prop:=
 let o:=w.alloc (.cells (#[.slice none 0 0]:AV) 35);bj prog 103 #[.slice e f g] o fun p q=>∃r:Value,p=r/\Holds none [] prog 47 (bB (sR (sL (sR (sR (sR (sR (body f70)))))))) (aR.E0 K) [(2,.pointer (some a)),(4,.slice b c d),(9,.pointer (some (⟨w.heap.size,0,none⟩:Addr))),(30,r)] q
variable(a:Addr)(b:OA)(c d:Nat)(e:OA)(f g:Nat)(i:OA)(j k:Nat)(m n:Int)(K:KT)(w:World)
theorem aR.cX:(aR.q1 K (.exit 0) [(2,.pointer (some a)),(4,.slice b c d),(5,.slice e f g),(11,.slice i j k),(12,.int .i64 m),(13,.int .i64 n)] w)=aR.cI a b c d e f g i j k m n K w:=by kernel_rfl
end
section
def aR.A1(l:Nat)(a:Addr)(b:OA)(c d:Nat)(e:Addr)(f:Value)(g:Int)(Q:aM)(w:World):Prop:=
 Q .normal [(2,.pointer (some a)),(9,.pointer (some e)),(10,.int .i64 g)] w
variable(l:Nat)(a:Addr)(b:OA)(c d:Nat)(e:Addr)(f:Value)(g:Int)(Q:aM)(w:World)
theorem aR.a1:(aU (some l) [] prog 47 aR.k (rA (bB (sR (sL (sR (sR (sR (sR (body f70))))))))) (b7 (rB (bB (sR (sL (sR (sR (sR (sR (body f70)))))))))) Q [(2,.pointer (some a)),(4,.slice b c d),(9,.pointer (some e)),(30,f),(31,.int .i64 g)] w)=aR.A1 l a b c d e f g Q w:=by kernel_rfl
end
section
def aR.Y1(l:Nat)(a b:Addr)(c:Int)(Q:aM)(w:World):Prop:=
 let d:=w.drew;∃e:OA,∃f g:Nat,d.cell? b=some (.slice e f g)/\∃i:OA,d.cell? a=some (.pointer i)/\Is i fun j:Addr=>∃k:OA,∃m n:Nat,d.cell? (j.add 0)=some (.slice k m n)/\(0<=c/\c<(m:Int))/\Is k fun o:Addr=>∃p:OA,d.cell? (o.add (c.toNat*1))=some (.pointer p)/\Is p fun q:Addr=>∃r:AV,(r.size=32/\Cells d (q.add 0) r)/\r.size=32/\let t:=d.alloc (.cells (r.toList++ []).toArray 23);t.cell? b=some (.slice e f g)/\∃(u:OA) (v x:Nat) (y:World),(Builtin.append_ #[35,35] 35 #[.slice e f g,.slice (some (⟨d.heap.size,0,none⟩:Addr)) 1 1]).run prog t=.ok (.slice u v x) y/\Wr y b/\let z:=y.setCell b (.slice u v x);Q .normal [] z
variable(l:Nat)(a b:Addr)(c:Int)(Q:aM)(w:World)
theorem aR.y1:(aU (some l) [] prog 47 aR.k (rB (bB (sR (sL (sR (sR (sR (sR (body f70))))))))) [] Q [(2,.pointer (some a)),(9,.pointer (some b)),(10,.int .i64 c)] w)=aR.Y1 l a b c Q w:=by kernel_rfl
end
section
def aR.jf(a:Addr)(b:OA)(c d:Nat)(e:Addr)(f:Value)(ms:AV)(K:KT)(w:World):Prop:=
 ∃g:OA,∃i j:Nat,w.cell? e=some (.slice g i j)/\bj prog 41 #[.slice g i j] w fun k m=>∃n:OA,∃o p:Nat,k=.slice n o p/\kL (marksOf (.agg ms)) m/\K (.slice n o p) (gm (marksOf (.agg ms)) m)
variable(a:Addr)(b:OA)(c d:Nat)(e:Addr)(f:Value)(ms:AV)(K:KT)(w:World)
theorem aR.jZ:(aR.E0 K .normal [(2,.pointer (some a)),(4,.slice b c d),(9,.pointer (some e)),(30,f),(4294967296,.agg ms)] w)=aR.jf a b c d e f ms K w:=by kernel_rfl
end
def aJ.k:List Nat:= []
def aJ.E0(K:KT):aM:=(aL 0 (b7 (sR (sR (body f118)))++(aN f118)) (bQ (fun bV w_=>match cutAt aJ.k (sR (sR (body f118)))with|true=>Holds none [] prog 13 (sR (sR (body f118))) (bI prog f118 K) bV w_|false=>aU none [] prog 13 aJ.k (sR (sR (body f118))) (aN f118) (bI prog f118 K) bV w_) (bI prog f118 K)))
section
variable(a:OA)(b d:Nat)(e:Value)(K:KT)(w:World)
def aJ.W:Prop:=
 let f:=w.alloc (.cells (#[.slice a b d]:AV) 35);Holds none [] prog 13 (bB (sR (sL (sR (body f118))))) (aJ.E0 K) [(2,.pointer (some (⟨w.heap.size,0,none⟩:Addr))),(4,.slice none 0 0),(6,e)] f
variable{a b d e K w}
theorem aJ.of(h:aJ.W a b d e K w):bj prog 118 #[.slice a b d,e] w K:=
 rqq func118 (C:=aJ.k) h
end
section
def aJ.A1(l:Nat)(a:Addr)(b:OA)(c d:Nat)(e:Value)(f:AV)(Q:aM)(w:World):Prop:=
 let g:=w.alloc (.cells zH 23);(f.size=32/\(∀i∈f.toList,i.oneCell'=true)/\∀j,j<32->Wr g ((⟨w.heap.size,0,none⟩:Addr).add j))/\let k:=setCells g (⟨w.heap.size,0,none⟩:Addr) f.toList 0;Q .normal [(2,.pointer (some a)),(5,.pointer (some (⟨w.heap.size,0,none⟩:Addr)))] k
variable(l:Nat)(a:Addr)(b:OA)(c d:Nat)(e:Value)(f:AV)(Q:aM)(w:World)
theorem aJ.a1:(aU (some l) [] prog 13 aJ.k (rA (bB (sR (sL (sR (body f118)))))) (b7 (rB (bB (sR (sL (sR (body f118))))))) Q [(2,.pointer (some a)),(4,.slice b c d),(6,e),(7,.agg f)] w)=aJ.A1 l a b c d e f Q w:=by kernel_rfl
end
section
def aJ.Y1(l:Nat)(a b:Addr)(Q:aM)(w:World):Prop:=
 ∃c:OA,∃d e:Nat,w.cell? a=some (.slice c d e)/\∃f:AV,(f.size=32/\Cells w b f)/\f.size=32/\let g:=w.alloc (.cells (f.toList++ []).toArray 23);∃(i:OA) (j k:Nat) (m:World),(Builtin.append_ #[35,35] 35 #[.slice c d e,.slice (some (⟨w.heap.size,0,none⟩:Addr)) 1 1]).run prog g=.ok (.slice i j k) m/\Wr m a/\let n:=m.setCell a (.slice i j k);Q .normal [] n
variable(l:Nat)(a b:Addr)(Q:aM)(w:World)
theorem aJ.y1:(aU (some l) [] prog 13 aJ.k (rB (bB (sR (sL (sR (body f118)))))) [] Q [(2,.pointer (some a)),(5,.pointer (some b))] w)=aJ.Y1 l a b Q w:=by kernel_rfl
end
section
def aJ.jf(a:Addr)(b:OA)(c d:Nat)(e:Value)(ms:AV)(K:KT)(w:World):Prop:=
 ∃f:OA,∃g i:Nat,w.cell? a=some (.slice f g i)/\kL (marksOf (.agg ms)) w/\K (.slice f g i) (gm (marksOf (.agg ms)) w)
variable(a:Addr)(b:OA)(c d:Nat)(e:Value)(ms:AV)(K:KT)(w:World)
theorem aJ.jZ:(aJ.E0 K .normal [(2,.pointer (some a)),(4,.slice b c d),(6,e),(4294967296,.agg ms)] w)=aJ.jf a b c d e ms K w:=by kernel_rfl
end
end Go.Proofs.YtnboahlopghcjaaGreatDoor
