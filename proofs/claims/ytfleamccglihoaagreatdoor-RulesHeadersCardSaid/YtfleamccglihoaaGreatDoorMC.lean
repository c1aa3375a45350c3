import Derived.Test.YtfleamccglihoaaGreatDoorProg
import Derived.Test.YtfleamccglihoaaGreatDoorMA
import Derived.Test.YtfleamccglihoaaGreatDoorMB
open Go.IntKind (i64 u64)
set_option linter.unusedVariables false
namespace Go.Proofs.YtfleamccglihoaaGreatDoor
open Go.Proofs.Tryz
open Go Go.b0
section
variable(a:OA)(K:KT)(w:World)
variable{a K w}
end
def dB.k:List Nat:= []
section
variable(a:OA)(b d:Nat)(K:KT)(w:World)
def dB.W:Prop:=
 Split ((a).isNone) (K (.slice none 0 0) w) (let e:=w.alloc (.cells #[] 24);∃(f:OA) (g i:Nat) (j:World),(Builtin.append_ #[33,33] 33 #[.slice (some (aV w.heap.size)) 0 0,.slice a b d]).run prog e=.ok (.slice f g i) j/\K (.slice f g i) j)
variable{a b d K w}
theorem dB.of(h:dB.W a b d K w):bG prog 55 #[.slice a b d] w K:=
 rqq func55 (C:=dB.k) h
end
def jM.k:List Nat:= []
section
variable(a:OA)(b d:Nat)(K:KT)(w:World)
def jM.W:Prop:=
 bG prog 101 #[.slice a b d] w fun e f=>∃g:Value,e=g/\bG prog 100 #[g,.func (.func 102) #[] #[]] f fun i j=>∃k:OA,∃m n:Nat,i=.slice k m n/\bG prog 99 #[.slice k m n] j fun o p=>∃q:OA,∃r t:Nat,o=.slice q r t/\K (.slice q r t) p
variable{a b d K w}
theorem jM.of(h:jM.W a b d K w):bG prog 57 #[.slice a b d] w K:=
 rqq func57 (C:=jM.k) h
end
def dI.k:List Nat:= []
section
variable(a b:Value)(K:KT)(w:World)
def dI.W:Prop:=
 bG prog 108 #[a] w fun d e=>∃f:OA,∃g i:Nat,d=.slice f g i/\bG prog 53 #[.slice f g i,b] e fun j k=>j=.tuple #[]/\K (.slice f g i) k
variable{a b K w}
theorem dI.of(h:dI.W a b K w):bG prog 100 #[a,b] w K:=
 rqq func100 (C:=dI.k) h
end
def dK.k:List Nat:= []
section
variable(a:OA)(b d:Nat)(K:KT)(w:World)
def dK.W:Prop:=
 let e:=w.alloc (.cells (#[.slice a b d]:AV) 33);K (.func (.func 137) #[] #[.pointer (some (aV w.heap.size))]) e
variable{a b d K w}
theorem dK.of(h:dK.W a b d K w):bG prog 101 #[.slice a b d] w K:=
 rqq func101 (C:=dK.k) h
end
def dt.k:List Nat:= []
section
variable(a:Value)(K:KT)(w:World)
def dt.W:Prop:=
 bG prog 140 #[.slice none 0 0,a] w fun b d=>∃e:OA,∃f g:Nat,b=.slice e f g/\K (.slice e f g) d
variable{a K w}
theorem dt.of(h:dt.W a K w):bG prog 108 #[a] w K:=
 rqq func108 (C:=dt.k) h
end
def bN.k:List Nat:= []
def bN.q1(K:KT):aT:=(aR 1 (cK (cH (sR (body f118)))++(aX f118)) (cg (fun cy w_=>match cutAt bN.k (cH (sR (body f118)))with|true=>Holds none [] prog 101 (cH (sR (body f118))) (bY prog f118 K) cy w_|false=>bg none [] prog 101 bN.k (cH (sR (body f118))) (aX f118) (bY prog f118 K) cy w_) (bY prog f118 K)))
def bN.e1(a b:Addr)(c:Int)(d:Addr)(e:OA)(f g:Nat)(i s:Int):Env:= [(3,.pointer (some a)),(4,.pointer (some b)),(6,.int .i64 c),(8,.pointer (some d)),(41,.slice e f g),(42,.int .i64 i),(43,.int .i64 s)]
def bN.u1:List Nat:= [3,4,6,8,41,42,43]
section
variable(a:OA)(b:AV)(d:OA)(e f:Nat)(K:KT)(w:World)
def bN.W:Prop:=
 let g:=w.alloc (.cells (#[.pointer a]:AV) 98);let i:=g.alloc (.cells b 24);bG prog 57 #[.slice d e f] i fun j k=>∃m:OA,∃n o:Nat,j=.slice m n o/\∃p:OA,k.cell? (aV w.heap.size)=some (.pointer p)/\bG prog 124 #[.pointer p] k fun q r=>∃t:Bool,q=.bool t/\Split (!t) (K (.int .i64 1) r) (∃u:OA,r.cell? (aV w.heap.size)=some (.pointer u)/\∃v:AV,(v.size=32/\Cells r (aV g.heap.size) v)/\bG prog 47 #[.pointer u,.agg v] r fun x y=>∃z:Bool,x=.bool z/\Split z (K (.int .i64 7) y) (Split ((n:Int)==(0:Int)) (K (.int .i64 9) y) (Split ((n:Int) != (e:Int)) (K (.int .i64 9) y) (bG prog 68 #[.slice m n o,.func (.func 145) #[] #[.pointer (some (aV w.heap.size))]] y fun a1 b1=>∃c1:Bool,a1=.bool c1/\Split c1 (K (.int .i64 6) b1) (∃d1:AV,(d1.size=32/\Cells b1 (aV g.heap.size) d1)/\Is (prog.built 145 [(0,.agg d1),(1,.slice m n o)]) fun e1:AV=>let f1:=b1.alloc (.cells e1 145);Holds none [] prog 101 (.loop (lB (bB (sR (sL (cH (body f118))))))) (bN.q1 K) [(3,.pointer (some (aV w.heap.size))),(4,.pointer (some (aV g.heap.size))),(6,.int .i64 0),(8,.pointer (some (aV b1.heap.size))),(41,.slice m n o),(42,.int .i64 (n:Int)),(43,.int .i64 0)] f1)))))
variable{a b d e f K w}
theorem bN.of(h:bN.W a b d e f K w):bG prog 118 #[.pointer a,.agg b,.slice d e f] w K:=
 rqq func118 (C:=bN.k) h
end
section
variable(a b:Addr)(c:Int)(d:Addr)(e:OA)(f g:Nat)(i j:Int)(Q:aT)(w:World)
def bN.B1:Prop:=
 Split (decide (j<i)) ((0<=j/\j<(f:Int))/\Is e fun k:Addr=>∃m:AV,(m.size=32/\Cells w (k.add (j.toNat*32)) m)/\let n:=w.alloc (.cells zH 24);(m.size=32/\(∀o∈m.toList,o.oneCell'=true)/\∀p,p<32->Wr n ((aV w.heap.size).add p))/\let q:=setCells n (aV w.heap.size) m.toList 0;∃r:OA,q.cell? a=some (.pointer r)/\∃t:AV,(t.size=32/\Cells q (aV w.heap.size) t)/\bG prog 90 #[.pointer r,.agg t] q fun u v=>∃x:OA,u=.pointer x/\let y:=v.drew;∃z:OA,∃a1 b1:Nat,y.cell? (d.add 34)=some (.slice z a1 b1)/\Is x fun c1:Addr=>∃d1:OA,∃e1 f1:Nat,y.cell? (c1.add 34)=some (.slice d1 e1 f1)/\∃g1:OA,y.cell? a=some (.pointer g1)/\Is g1 fun i1:Addr=>∃j1:Option Nat,y.cell? (i1.add 1)=some (.map j1)/\∃k1:AV,(k1.size=32/\Cells y (aV w.heap.size) k1)/\∃m1:Int,(Instr.lookup 127 (.map j1) (.agg k1) false).run prog y=.ok (.int .i64 m1) y/\bG prog 143 #[.slice z a1 b1,.slice d1 e1 f1] y fun n1 o1=>∃p1:OA,∃q1 r1:Nat,n1=.slice p1 q1 r1/\(Instr.lookup 127 (.map j1) (.agg k1) false).run prog o1=.ok (.int .i64 m1) o1/\(∃cs:AV,(.agg k1:Value)=.agg cs/\cs.size=32/\Cells o1 (aV w.heap.size) cs)/\o1.cell? (i1.add 1)=some (.map j1)/\o1.cell? a=some (.pointer g1)/\bG prog 146 #[.slice p1 q1 r1,.int .i64 m1] o1 fun t1 u1=>∃v1:OA,∃x1 y1:Nat,t1=.slice v1 x1 y1/\Wr u1 (d.add 34)/\let z1:=u1.setCell (d.add 34) (.slice v1 x1 y1);let a2:=z1.drew;Is x fun b2:Addr=>∃c2:OA,∃d2 e2:Nat,a2.cell? (b2.add 33)=some (.slice c2 d2 e2)/\∃f2:AV,(f2.size=32/\Cells a2 b f2)/\f2.size=32/\let g2:=a2.alloc (.cells (f2.toList++ []).toArray 24);g2.cell? (b2.add 33)=some (.slice c2 d2 e2)/\∃(i2:OA) (j2 k2:Nat) (m2:World),(Builtin.append_ #[33,33] 33 #[.slice c2 d2 e2,.slice (some (aV a2.heap.size)) 1 1]).run prog g2=.ok (.slice i2 j2 k2) m2/\bG prog 57 #[.slice i2 j2 k2] m2 fun n2 o2=>∃p2:OA,∃q2 r2:Nat,n2=.slice p2 q2 r2/\Is x fun t2:Addr=>Wr o2 (t2.add 33)/\let u2:=o2.setCell (t2.add 33) (.slice p2 q2 r2);Q .normal [(3,.pointer (some a)),(4,.pointer (some b)),(6,.int .i64 c),(8,.pointer (some d)),(41,.slice e f g),(42,.int .i64 i),(43,.int .i64 (i64.wrap (j+(1:Int))))] u2) (Q (.exit 1) [(3,.pointer (some a)),(4,.pointer (some b)),(6,.int .i64 c),(8,.pointer (some d)),(41,.slice e f g),(42,.int .i64 i),(43,.int .i64 j)] w)
theorem bN.b1:(bg none [] prog 101 bN.k (lB (bB (sR (sL (cH (body f118)))))) bN.u1 Q [(3,.pointer (some a)),(4,.pointer (some b)),(6,.int .i64 c),(8,.pointer (some d)),(41,.slice e f g),(42,.int .i64 i),(43,.int .i64 j)] w)=bN.B1 a b c d e f g i j Q w:=by kernel_rfl
variable{a b c d e f g i}
theorem bN.cJ(I:Int->World->Prop)(μ:Int->World->Nat)(s:Int){Q:aT}{w:World}(h0:I s w)
 (round:∀s w,I s w->bN.B1 a b c d e f g i s (bW (bN.e1 a b c d e f g i) I μ s w Q) w):Holds none [] prog 101 (.loop (lB (bB (sR (sL (cH (body f118))))))) Q (bN.e1 a b c d e f g i s) w:=
 bC ng mix (bN.e1 a b c d e f g i) I μ bN.k bN.u1 s (fun s Q w=>bN.B1 a b c d e f g i s Q w) (fun s Q w=>bN.b1 a b c d e f g i s Q w) h0 round
end
section
def bN.G1(a b:Addr)(c:Int)(d:Addr)(e:OA)(f g:Nat)(i j:Int)(K:KT)(w:World):Prop:=
 let k:=w.drew;∃m:OA,k.cell? a=some (.pointer m)/\Is m fun n:Addr=>∃o:Option Nat,k.cell? (n.add 1)=some (.map o)/\∃p:AV,(p.size=32/\Cells k b p)/\∃q:OA,k.cell? a=some (.pointer q)/\Is q fun r:Addr=>∃t:OA,∃u v:Nat,k.cell? (r.add 0)=some (.slice t u v)/\∃x:World,(Instr.mapUpdate 127 (.map o) (.agg p) (.int .i64 (u:Int))).run prog k=.ok () x/\let y:=x.drew;∃z:OA,y.cell? a=some (.pointer z)/\∃a1:OA,y.cell? a=some (.pointer a1)/\Is a1 fun b1:Addr=>∃c1:OA,∃d1 e1:Nat,y.cell? (b1.add 0)=some (.slice c1 d1 e1)/\let f1:=y.alloc (.cells #[.pointer (some d)] 138);f1.cell? (b1.add 0)=some (.slice c1 d1 e1)/\f1.cell? a=some (.pointer a1)/\f1.cell? a=some (.pointer z)/\∃(g1:OA) (i1 j1:Nat) (k1:World),(Builtin.append_ #[170,170] 170 #[.slice c1 d1 e1,.slice (some (aV y.heap.size)) 1 1]).run prog f1=.ok (.slice g1 i1 j1) k1/\k1.cell? a=some (.pointer z)/\Is z fun m1:Addr=>Wr k1 (m1.add 0)/\let n1:=k1.setCell (m1.add 0) (.slice g1 i1 j1);K (.int .i64 0) n1
variable(a b:Addr)(c:Int)(d:Addr)(e:OA)(f g:Nat)(i j:Int)(K:KT)(w:World)
theorem bN.Ou:(bN.q1 K (.exit 1) [(3,.pointer (some a)),(4,.pointer (some b)),(6,.int .i64 c),(8,.pointer (some d)),(41,.slice e f g),(42,.int .i64 i),(43,.int .i64 j)] w)=bN.G1 a b c d e f g i j K w:=by kernel_rfl
end
def nJ.k:List Nat:= []
section
variable(a:AV)(K:KT)(w:World)
def nJ.W:Prop:=
 let b:=w.alloc (.cells a 24);let d:=b.drew;∃e:AV,(e.size=32/\Cells d (aV w.heap.size) e)/\Is (prog.built 145 [(0,.agg e)]) fun f:AV=>∃g:AV,(g.size=32/\Cells d (aV w.heap.size) g)/\(let i:=d.alloc (.cells f 145);(∃cs:AV,(.agg g:Value)=.agg cs/\cs.size=32/\Cells i (aV w.heap.size) cs)/\(let j:=i.alloc (.cells #[.pointer (some (aV d.heap.size))] 138);(∃cs:AV,(.agg g:Value)=.agg cs/\cs.size=32/\Cells j (aV w.heap.size) cs)/\let k:=j.alloc (.map #[] 0);(∃cs:AV,(.agg g:Value)=.agg cs/\cs.size=32/\Cells k (aV w.heap.size) cs)/\∃m:World,(Instr.mapUpdate 127 (.map (some j.heap.size)) (.agg g) (.int .i64 0)).run prog k=.ok () m/\let n:=m.alloc (.cells (#[.slice (some (aV i.heap.size)) 1 1,.map (some j.heap.size)]:AV) 172);K (.pointer (some (aV m.heap.size))) n)/\(let o:=i.alloc (.map #[] 0);(∃cs:AV,(.agg g:Value)=.agg cs/\cs.size=32/\Cells o (aV w.heap.size) cs)/\(let p:=o.alloc (.cells #[.pointer (some (aV d.heap.size))] 138);(∃cs:AV,(.agg g:Value)=.agg cs/\cs.size=32/\Cells p (aV w.heap.size) cs)/\∃q:World,(Instr.mapUpdate 127 (.map (some i.heap.size)) (.agg g) (.int .i64 0)).run prog p=.ok () q/\let r:=q.alloc (.cells (#[.slice (some (aV o.heap.size)) 1 1,.map (some i.heap.size)]:AV) 172);K (.pointer (some (aV q.heap.size))) r)/\(∃t:World,(Instr.mapUpdate 127 (.map (some i.heap.size)) (.agg g) (.int .i64 0)).run prog o=.ok () t/\let u:=t.alloc (.cells #[.pointer (some (aV d.heap.size))] 138);let v:=u.alloc (.cells (#[.slice (some (aV t.heap.size)) 1 1,.map (some i.heap.size)]:AV) 172);K (.pointer (some (aV u.heap.size))) v)))/\(let x:=d.alloc (.map #[] 0);(∃cs:AV,(.agg g:Value)=.agg cs/\cs.size=32/\Cells x (aV w.heap.size) cs)/\(∃cs:AV,(.agg e:Value)=.agg cs/\cs.size=32/\Cells x (aV w.heap.size) cs)/\(let y:=x.alloc (.cells f 145);(∃cs:AV,(.agg g:Value)=.agg cs/\cs.size=32/\Cells y (aV w.heap.size) cs)/\(let z:=y.alloc (.cells #[.pointer (some (aV x.heap.size))] 138);(∃cs:AV,(.agg g:Value)=.agg cs/\cs.size=32/\Cells z (aV w.heap.size) cs)/\∃a1:World,(Instr.mapUpdate 127 (.map (some d.heap.size)) (.agg g) (.int .i64 0)).run prog z=.ok () a1/\let b1:=a1.alloc (.cells (#[.slice (some (aV y.heap.size)) 1 1,.map (some d.heap.size)]:AV) 172);K (.pointer (some (aV a1.heap.size))) b1)/\(∃c1:World,(Instr.mapUpdate 127 (.map (some d.heap.size)) (.agg g) (.int .i64 0)).run prog y=.ok () c1/\let d1:=c1.alloc (.cells #[.pointer (some (aV x.heap.size))] 138);let e1:=d1.alloc (.cells (#[.slice (some (aV c1.heap.size)) 1 1,.map (some d.heap.size)]:AV) 172);K (.pointer (some (aV d1.heap.size))) e1))/\(∃f1:World,(Instr.mapUpdate 127 (.map (some d.heap.size)) (.agg g) (.int .i64 0)).run prog x=.ok () f1/\(∃cs:AV,(.agg e:Value)=.agg cs/\cs.size=32/\Cells f1 (aV w.heap.size) cs)/\let g1:=f1.alloc (.cells f 145);let i1:=g1.alloc (.cells #[.pointer (some (aV f1.heap.size))] 138);let j1:=i1.alloc (.cells (#[.slice (some (aV g1.heap.size)) 1 1,.map (some d.heap.size)]:AV) 172);K (.pointer (some (aV i1.heap.size))) j1))
variable{a K w}
theorem nJ.of(h:nJ.W a K w):bG prog 122 #[.agg a] w K:=
 rqq func122 (C:=nJ.k) h
end
def kX.k:List Nat:= []
section
variable(a:OA)(b d:Nat)(K:KT)(w:World)
def kX.W:Prop:=
 let e:=w.alloc (.cells (#[.slice a b d]:AV) 143);K (.func (.func 158) #[] #[.pointer (some (aV w.heap.size))]) e
variable{a b d K w}
theorem kX.of(h:kX.W a b d K w):bG prog 144 #[.slice a b d] w K:=
 rqq func144 (C:=kX.k) h
end
def bO.k:List Nat:= []
def bO.q1(K:KT):aT:=(aR 0 (cK (aS (body f16))++(aX f16)) (cg (fun cy w_=>match cutAt bO.k (aS (body f16))with|true=>Holds none [] prog 26 (aS (body f16)) (bY prog f16 K) cy w_|false=>bg none [] prog 26 bO.k (aS (body f16)) (aX f16) (bY prog f16 K) cy w_) (bY prog f16 K)))
def bO.e1(a:OA)(b:Addr)(s:Int×Int):Env:= [(0,.pointer a),(3,.pointer (some b)),(4,.int .i64 s.1),(5,.int .i64 s.2)]
def bO.u1:List Nat:= [0,3,4,5]
section
variable(a:OA)(b:AV)(K:KT)(w:World)
def bO.W:Prop:=
 let d:=w.alloc (.cells b 24);Holds none [] prog 26 (.loop (lB (bB (sR (sL (sR (body f16))))))) (bO.q1 K) [(0,.pointer a),(3,.pointer (some (aV w.heap.size))),(4,.int .i64 0),(5,.int .i64 0)] d
variable{a b K w}
theorem bO.of(h:bO.W a b K w):bG prog 16 #[.pointer a,.agg b] w K:=
 rqq func16 (C:=bO.k) h
end
section
variable(a:OA)(b:Addr)(c d:Int)(Q:aT)(w:World)
def bO.B1:Prop:=
 Is a fun e:Addr=>∃f:OA,∃g i:Nat,w.cell? (e.add 0)=some (.slice f g i)/\Split (decide (d<(g:Int))) (let j:=w.drew;Is a fun k:Addr=>∃m:OA,∃n o:Nat,j.cell? (k.add 0)=some (.slice m n o)/\(0<=d/\d<(n:Int))/\Is m fun p:Addr=>∃q:AV,(q.size=32/\Cells j ((p.add (d.toNat*33)).add 0) q)/\∃r:AV,(r.size=32/\Cells j b r)/\(ft .u8 32 q/\ft .u8 32 r)/\Split (fV q r) (Q .ret [(0,.pointer a),(3,.pointer (some b)),(4,.int .i64 d),(5,.int .i64 d)] j) (Q .normal [(0,.pointer a),(3,.pointer (some b)),(4,.int .i64 c),(5,.int .i64 (i64.wrap (d+(1:Int))))] j)) (Q (.exit 0) [(0,.pointer a),(3,.pointer (some b)),(4,.int .i64 c),(5,.int .i64 d)] w)
theorem bO.b1:(bg none [] prog 26 bO.k (lB (bB (sR (sL (sR (body f16)))))) bO.u1 Q [(0,.pointer a),(3,.pointer (some b)),(4,.int .i64 c),(5,.int .i64 d)] w)=bO.B1 a b c d Q w:=by kernel_rfl
variable{a b}
theorem bO.cJ(I:Int×Int->World->Prop)(μ:Int×Int->World->Nat)(s:Int×Int){Q:aT}{w:World}(h0:I s w)
 (round:∀s w,I s w->bO.B1 a b (s.1) (s.2) (bW (bO.e1 a b) I μ s w Q) w):Holds none [] prog 26 (.loop (lB (bB (sR (sL (sR (body f16))))))) Q (bO.e1 a b s) w:=
 bC ng mix (bO.e1 a b) I μ bO.k bO.u1 s (fun s Q w=>bO.B1 a b (s.1) (s.2) Q w) (fun s Q w=>bO.b1 a b (s.1) (s.2) Q w) h0 round
end
section
def bO.df(a:OA)(b:Addr)(c d:Int)(K:KT)(w:World):Prop:=
 K (.int .i64 (-1)) w
variable(a:OA)(b:Addr)(c d:Int)(K:KT)(w:World)
theorem bO.dz:(bO.q1 K (.exit 0) [(0,.pointer a),(3,.pointer (some b)),(4,.int .i64 c),(5,.int .i64 d)] w)=bO.df a b c d K w:=by kernel_rfl
end
def aJ.k:List Nat:= []
def aJ.q1(K:KT):aT:=(aR 0 (cK (cH (body Tryz.f26))++(aX Tryz.f26)) (cg (fun cy w_=>match cutAt aJ.k (cH (body Tryz.f26))with|true=>Holds none [] prog 64 (cH (body Tryz.f26)) (bY prog Tryz.f26 K) cy w_|false=>bg none [] prog 64 aJ.k (cH (body Tryz.f26)) (aX Tryz.f26) (bY prog Tryz.f26 K) cy w_) (bY prog Tryz.f26 K)))
def aJ.e1(a b:OA)(c d:Nat)(s:(OA)×Nat×Nat×(OA)×Nat×Nat×Int):Env:= [(0,.pointer a),(4,.slice b c d),(5,.slice s.1 s.2.1 s.2.2.1),(6,.slice s.2.2.2.1 s.2.2.2.2.1 s.2.2.2.2.2.1),(7,.int .i64 s.2.2.2.2.2.2)]
def aJ.u1:List Nat:= [0,4,5,6,7]
def aJ.q2(Q:aT):aT:=(aR 2 (cK (aS (lB (bB (sR (sL (aS (sR (body Tryz.f26))))))))++aJ.u1) (aR 1 (cK (aS (lB (bB (sR (sL (aS (sR (body Tryz.f26))))))))++aJ.u1) (cg (fun cy w_=>match cutAt aJ.k (aS (lB (bB (sR (sL (aS (sR (body Tryz.f26))))))))with|true=>Holds none [] prog 64 (aS (lB (bB (sR (sL (aS (sR (body Tryz.f26)))))))) Q cy w_|false=>bg none [] prog 64 aJ.k (aS (lB (bB (sR (sL (aS (sR (body Tryz.f26)))))))) aJ.u1 Q cy w_) Q)))
def aJ.e2(a b:OA)(c d:Nat)(e:Int)(f:OA)(g i:Nat)(s:(OA)×Nat×Nat×(OA)×Nat×Nat×Int):Env:= [(0,.pointer a),(4,.slice b c d),(5,.slice s.1 s.2.1 s.2.2.1),(6,.slice s.2.2.2.1 s.2.2.2.2.1 s.2.2.2.2.2.1),(7,.int .i64 e),(9,.slice f g i),(10,.int .i64 s.2.2.2.2.2.2)]
def aJ.u2:List Nat:= [0,4,5,6,7,9,10]
section
variable(a b:OA)(d e:Nat)(K:KT)(w:World)
def aJ.W:Prop:=
 ∃(f:OA) (g i:Nat) (j:World),(Builtin.append_ #[33,33] 33 #[.slice none 0 0,.slice b d e]).run prog w=.ok (.slice f g i) j/\Holds none [] prog 64 (.loop (lB (bB (sR (sL (aS (sR (body Tryz.f26)))))))) (aJ.q1 K) [(0,.pointer a),(4,.slice none 0 0),(5,.slice none 0 0),(6,.slice f g i),(7,.int .i64 0)] j
variable{a b d e K w}
theorem aJ.of(h:aJ.W a b d e K w):bG prog 26 #[.pointer a,.slice b d e] w K:=
 rqq func26 (C:=aJ.k) h
end
section
variable(a b:OA)(c d:Nat)(e:OA)(f g:Nat)(i:OA)(j k:Nat)(m:Int)(Q:aT)(w:World)
def aJ.B1:Prop:=
 Split (decide (m<(j:Int))) ((0<=m/\m<(j:Int))/\Is i fun n:Addr=>∃o:AV,(o.size=32/\Cells w (n.add (m.toNat*32)) o)/\bG prog 16 #[.pointer a,.agg o] w fun p q=>∃r:Int,p=.int .i64 r/\Split (decide (r<(0:Int))) (Q .normal [(0,.pointer a),(4,.slice b c d),(5,.slice e f g),(6,.slice i j k),(7,.int .i64 (i64.wrap (m+(1:Int))))] q) (Is a fun t:Addr=>∃u:OA,∃v x:Nat,q.cell? (t.add 0)=some (.slice u v x)/\(0<=r/\r<(v:Int))/\Is u fun y:Addr=>∃z:OA,∃a1 b1:Nat,q.cell? ((y.add (r.toNat*33)).add 32)=some (.slice z a1 b1)/\Holds none [] prog 64 (.loop (lB (bB (cH (bB (sL (sR (lB (bB (sR (sL (aS (sR (body Tryz.f26)))))))))))))) (aJ.q2 Q) [(0,.pointer a),(4,.slice b c d),(5,.slice e f g),(6,.slice i j k),(7,.int .i64 m),(9,.slice z a1 b1),(10,.int .i64 0)] q)) (Q (.exit 0) [(0,.pointer a),(4,.slice b c d),(5,.slice e f g),(6,.slice i j k),(7,.int .i64 m)] w)
theorem aJ.b1:(bg none [] prog 64 aJ.k (lB (bB (sR (sL (aS (sR (body Tryz.f26))))))) aJ.u1 Q [(0,.pointer a),(4,.slice b c d),(5,.slice e f g),(6,.slice i j k),(7,.int .i64 m)] w)=aJ.B1 a b c d e f g i j k m Q w:=by kernel_rfl
variable{a b c d}
theorem aJ.cJ(I:(OA)×Nat×Nat×(OA)×Nat×Nat×Int->World->Prop)(μ:(OA)×Nat×Nat×(OA)×Nat×Nat×Int->World->Nat)(s:(OA)×Nat×Nat×(OA)×Nat×Nat×Int){Q:aT}{w:World}(h0:I s w)
 (round:∀s w,I s w->aJ.B1 a b c d (s.1) (s.2.1) (s.2.2.1) (s.2.2.2.1) (s.2.2.2.2.1) (s.2.2.2.2.2.1) (s.2.2.2.2.2.2) (bW (aJ.e1 a b c d) I μ s w Q) w):Holds none [] prog 64 (.loop (lB (bB (sR (sL (aS (sR (body Tryz.f26)))))))) Q (aJ.e1 a b c d s) w:=
 bC ng mix (aJ.e1 a b c d) I μ aJ.k aJ.u1 s (fun s Q w=>aJ.B1 a b c d (s.1) (s.2.1) (s.2.2.1) (s.2.2.2.1) (s.2.2.2.2.1) (s.2.2.2.2.2.1) (s.2.2.2.2.2.2) Q w) (fun s Q w=>aJ.b1 a b c d (s.1) (s.2.1) (s.2.2.1) (s.2.2.2.1) (s.2.2.2.2.1) (s.2.2.2.2.2.1) (s.2.2.2.2.2.2) Q w) h0 round
end
section
def aJ.df(a b:OA)(c d:Nat)(e:OA)(f g:Nat)(i:OA)(j k:Nat)(m:Int)(K:KT)(w:World):Prop:=
 bG prog 27 #[.slice e f g] w fun n o=>∃p:OA,∃q r:Nat,n=.slice p q r/\K (.slice p q r) o
variable(a b:OA)(c d:Nat)(e:OA)(f g:Nat)(i:OA)(j k:Nat)(m:Int)(K:KT)(w:World)
theorem aJ.dz:(aJ.q1 K (.exit 0) [(0,.pointer a),(4,.slice b c d),(5,.slice e f g),(6,.slice i j k),(7,.int .i64 m)] w)=aJ.df a b c d e f g i j k m K w:=by kernel_rfl
end
section
variable(a b:OA)(c d:Nat)(e:OA)(f g:Nat)(i:OA)(j k:Nat)(m:Int)(n:OA)(o p:Nat)(q:Int)(Q:aT)(w:World)
def aJ.B2:Prop:=
 Split (decide (q<(o:Int))) ((0<=q/\q<(o:Int))/\Is n fun r:Addr=>∃t:AV,(t.size=32/\Cells w (r.add (q.toNat*32)) t)/\bG prog 38 #[.slice e f g,.agg t] w fun u v=>∃x:Bool,u=.bool x/\Split (!x) ((0<=q/\q<(o:Int))/\Is n fun y:Addr=>∃z:AV,(z.size=32/\Cells v (y.add (q.toNat*32)) z)/\z.size=32/\let a1:=v.alloc (.cells (z.toList++ []).toArray 24);∃(b1:OA) (c1 d1:Nat) (e1:World),(Builtin.append_ #[33,33] 33 #[.slice e f g,.slice (some (aV v.heap.size)) 1 1]).run prog a1=.ok (.slice b1 c1 d1) e1/\(0<=q/\q<(o:Int))/\Is n fun f1:Addr=>∃g1:AV,(g1.size=32/\Cells e1 (f1.add (q.toNat*32)) g1)/\g1.size=32/\let i1:=e1.alloc (.cells (g1.toList++ []).toArray 24);∃(j1:OA) (k1 m1:Nat) (n1:World),(Builtin.append_ #[33,33] 33 #[.slice i j k,.slice (some (aV e1.heap.size)) 1 1]).run prog i1=.ok (.slice j1 k1 m1) n1/\Q .normal [(0,.pointer a),(4,.slice b c d),(5,.slice b1 c1 d1),(6,.slice j1 k1 m1),(7,.int .i64 m),(9,.slice n o p),(10,.int .i64 (i64.wrap (q+(1:Int))))] n1) (Q .normal [(0,.pointer a),(4,.slice b c d),(5,.slice e f g),(6,.slice i j k),(7,.int .i64 m),(9,.slice n o p),(10,.int .i64 (i64.wrap (q+(1:Int))))] v)) (Q (.exit 2) [(0,.pointer a),(4,.slice b c d),(5,.slice e f g),(6,.slice i j k),(7,.int .i64 m),(9,.slice n o p),(10,.int .i64 q)] w)
theorem aJ.b2:(bg none [] prog 64 aJ.k (lB (bB (cH (bB (sL (sR (lB (bB (sR (sL (aS (sR (body Tryz.f26))))))))))))) aJ.u2 Q [(0,.pointer a),(4,.slice b c d),(5,.slice e f g),(6,.slice i j k),(7,.int .i64 m),(9,.slice n o p),(10,.int .i64 q)] w)=aJ.B2 a b c d e f g i j k m n o p q Q w:=by kernel_rfl
variable{a b c d m n o p}
theorem aJ.iB(I:(OA)×Nat×Nat×(OA)×Nat×Nat×Int->World->Prop)(μ:(OA)×Nat×Nat×(OA)×Nat×Nat×Int->World->Nat)(s:(OA)×Nat×Nat×(OA)×Nat×Nat×Int){Q:aT}{w:World}(h0:I s w)
 (round:∀s w,I s w->aJ.B2 a b c d (s.1) (s.2.1) (s.2.2.1) (s.2.2.2.1) (s.2.2.2.2.1) (s.2.2.2.2.2.1) m n o p (s.2.2.2.2.2.2) (bW (aJ.e2 a b c d m n o p) I μ s w Q) w):Holds none [] prog 64 (.loop (lB (bB (cH (bB (sL (sR (lB (bB (sR (sL (aS (sR (body Tryz.f26)))))))))))))) Q (aJ.e2 a b c d m n o p s) w:=
 bC ng mix (aJ.e2 a b c d m n o p) I μ aJ.k aJ.u2 s (fun s Q w=>aJ.B2 a b c d (s.1) (s.2.1) (s.2.2.1) (s.2.2.2.1) (s.2.2.2.2.1) (s.2.2.2.2.2.1) m n o p (s.2.2.2.2.2.2) Q w) (fun s Q w=>aJ.b2 a b c d (s.1) (s.2.1) (s.2.2.1) (s.2.2.2.1) (s.2.2.2.2.1) (s.2.2.2.2.2.1) m n o p (s.2.2.2.2.2.2) Q w) h0 round
end
section
def aJ.jh(a b:OA)(c d:Nat)(e:OA)(f g:Nat)(i:OA)(j k:Nat)(m:Int)(n:OA)(o p:Nat)(q:Int)(Q:aT)(w:World):Prop:=
 Q .normal [(0,.pointer a),(4,.slice b c d),(5,.slice e f g),(6,.slice i j k),(7,.int .i64 (i64.wrap (m+(1:Int))))] w
variable(a b:OA)(c d:Nat)(e:OA)(f g:Nat)(i:OA)(j k:Nat)(m:Int)(n:OA)(o p:Nat)(q:Int)(Q:aT)(w:World)
theorem aJ.ki:(aJ.q2 Q (.exit 2) [(0,.pointer a),(4,.slice b c d),(5,.slice e f g),(6,.slice i j k),(7,.int .i64 m),(9,.slice n o p),(10,.int .i64 q)] w)=aJ.jh a b c d e f g i j k m n o p q Q w:=by kernel_rfl
end
def eo.k:List Nat:= []
section
variable(a:OA)(b d:AV)(K:KT)(w:World)
def eo.W:Prop:=
 let e:=w.alloc (.cells b 24);let f:=e.alloc (.cells d 24);let g:=f.drew;∃i:AV,(i.size=32/\Cells g (aV w.heap.size) i)/\bG prog 16 #[.pointer a,.agg i] g fun j k=>∃m:Int,j=.int .i64 m/\Split (decide (m>=(0:Int))) (∃n:AV,(n.size=32/\Cells k (aV e.heap.size) n)/\∃o:AV,(o.size=32/\Cells k (aV w.heap.size) o)/\n.size=32/\let p:=k.alloc (.cells (n.toList++ []).toArray 24);(∃cs:AV,(.agg o:Value)=.agg cs/\cs.size=32/\Cells p (aV w.heap.size) cs)/\bG prog 26 #[.pointer a,.slice (some (aV k.heap.size)) 1 1] p fun q r=>∃t:OA,∃u v:Nat,q=.slice t u v/\(∃cs:AV,(.agg o:Value)=.agg cs/\cs.size=32/\Cells r (aV w.heap.size) cs)/\bG prog 38 #[.slice t u v,.agg o] r fun x y=>∃z:Bool,x=.bool z/\K (.bool z) y) (K (.bool false) k)
variable{a b d K w}
theorem eo.of(h:eo.W a b d K w):bG prog 28 #[.pointer a,.agg b,.agg d] w K:=
 rqq func28 (C:=eo.k) h
end
section
variable(a:OA)(K:KT)(w:World)
variable{a K w}
end
section
variable(a b:OA)(c d:Nat)(e:OA)(f g:Nat)(i:Int)(Q:aT)(w:World)
variable{a b c d}
end
section
variable(a b:OA)(c d:Nat)(e:OA)(f g:Nat)(i:Int)(K:KT)(w:World)
end
def bK.k:List Nat:= []
def bK.q1(K:KT):aT:=(aR 0 (cK (cH (sR (body f88)))++(aX f88)) (cg (fun cy w_=>match cutAt bK.k (cH (sR (body f88)))with|true=>Holds none [] prog 51 (cH (sR (body f88))) (bY prog f88 K) cy w_|false=>bg none [] prog 51 bK.k (cH (sR (body f88))) (aX f88) (bY prog f88 K) cy w_) (bY prog f88 K)))
def bK.e1(a:OA)(b:Addr)(c:OA)(d e:Nat)(s:Int×Int):Env:= [(0,.pointer a),(4,.pointer (some b)),(6,.int .i64 s.1),(7,.slice c d e),(8,.int .i64 s.2)]
def bK.u1:List Nat:= [0,4,6,7,8]
section
variable(a:OA)(b:AV)(d:OA)(e f:Nat)(K:KT)(w:World)
def bK.W:Prop:=
 let g:=w.alloc (.cells b 24);∃i:AV,(i.size=32/\Cells g (aV w.heap.size) i)/\bG prog 16 #[.pointer a,.agg i] g fun j k=>∃m:Int,j=.int .i64 m/\Split (decide (m>=(0:Int))) (K (.int .i64 7) k) (bG prog 27 #[.slice d e f] k fun n o=>∃p:OA,∃q r:Nat,n=.slice p q r/\Split ((q:Int)==(0:Int)) (K (.int .i64 9) o) (Split ((q:Int) != (e:Int)) (K (.int .i64 9) o) (Holds none [] prog 51 (.loop (lB (bB (sR (sL (cH (body f88))))))) (bK.q1 K) [(0,.pointer a),(4,.pointer (some (aV w.heap.size))),(6,.int .i64 0),(7,.slice p q r),(8,.int .i64 0)] o)))
variable{a b d e f K w}
theorem bK.of(h:bK.W a b d e f K w):bG prog 88 #[.pointer a,.agg b,.slice d e f] w K:=
 rqq func88 (C:=bK.k) h
end
section
variable(a:OA)(b:Addr)(c:Int)(d:OA)(e f:Nat)(g:Int)(Q:aT)(w:World)
def bK.B1:Prop:=
 Split (decide (g<(e:Int))) ((0<=g/\g<(e:Int))/\Is d fun i:Addr=>∃j:AV,(j.size=32/\Cells w (i.add (g.toNat*32)) j)/\bG prog 16 #[.pointer a,.agg j] w fun k m=>∃n:Int,k=.int .i64 n/\Split (decide (n<(0:Int))) (Q .ret [(0,.pointer a),(4,.pointer (some b)),(6,.int .i64 6),(7,.slice d e f),(8,.int .i64 g)] m) (Q .normal [(0,.pointer a),(4,.pointer (some b)),(6,.int .i64 c),(7,.slice d e f),(8,.int .i64 (i64.wrap (g+(1:Int))))] m)) (Q (.exit 0) [(0,.pointer a),(4,.pointer (some b)),(6,.int .i64 c),(7,.slice d e f),(8,.int .i64 g)] w)
theorem bK.b1:(bg none [] prog 51 bK.k (lB (bB (sR (sL (cH (body f88)))))) bK.u1 Q [(0,.pointer a),(4,.pointer (some b)),(6,.int .i64 c),(7,.slice d e f),(8,.int .i64 g)] w)=bK.B1 a b c d e f g Q w:=by kernel_rfl
variable{a b d e f}
theorem bK.cJ(I:Int×Int->World->Prop)(μ:Int×Int->World->Nat)(s:Int×Int){Q:aT}{w:World}(h0:I s w)
 (round:∀s w,I s w->bK.B1 a b (s.1) d e f (s.2) (bW (bK.e1 a b d e f) I μ s w Q) w):Holds none [] prog 51 (.loop (lB (bB (sR (sL (cH (body f88))))))) Q (bK.e1 a b d e f s) w:=
 bC ng mix (bK.e1 a b d e f) I μ bK.k bK.u1 s (fun s Q w=>bK.B1 a b (s.1) d e f (s.2) Q w) (fun s Q w=>bK.b1 a b (s.1) d e f (s.2) Q w) h0 round
end
section
def bK.df(a:OA)(b:Addr)(c:Int)(d:OA)(e f:Nat)(g:Int)(K:KT)(w:World):Prop:=
 let i:=w.drew;Is a fun j:Addr=>∃k:OA,∃m n:Nat,i.cell? (j.add 0)=some (.slice k m n)/\∃o:AV,(o.size=32/\Cells i b o)/\Is (prog.built 69 [(0,.agg o),(1,.slice d e f)]) fun p:AV=>(∃(q:OA) (r t:Nat) (u:World),(Builtin.append_ #[38,38] 38 #[.slice none 0 0,.slice k m n]).run prog i=.ok (.slice q r t) u/\(∃cs:AV,(.agg o:Value)=.agg cs/\cs.size=32/\Cells u b cs)/\p.size=33/\let v:=u.alloc (.cells (p.toList++ []).toArray 69);∃(x:OA) (y z:Nat) (a1:World),(Builtin.append_ #[38,38] 38 #[.slice q r t,.slice (some (aV u.heap.size)) 1 1]).run prog v=.ok (.slice x y z) a1/\Is a fun b1:Addr=>Wr a1 (b1.add 0)/\let c1:=a1.setCell (b1.add 0) (.slice x y z);K (.int .i64 0) c1)/\(p.size=33/\let d1:=i.alloc (.cells (p.toList++ []).toArray 69);d1.cell? (j.add 0)=some (.slice k m n)/\∃(e1:OA) (f1 g1:Nat) (i1:World),(Builtin.append_ #[38,38] 38 #[.slice none 0 0,.slice k m n]).run prog d1=.ok (.slice e1 f1 g1) i1/\∃(j1:OA) (k1 m1:Nat) (n1:World),(Builtin.append_ #[38,38] 38 #[.slice e1 f1 g1,.slice (some (aV i.heap.size)) 1 1]).run prog i1=.ok (.slice j1 k1 m1) n1/\Is a fun o1:Addr=>Wr n1 (o1.add 0)/\let p1:=n1.setCell (o1.add 0) (.slice j1 k1 m1);K (.int .i64 0) p1)
variable(a:OA)(b:Addr)(c:Int)(d:OA)(e f:Nat)(g:Int)(K:KT)(w:World)
theorem bK.dz:(bK.q1 K (.exit 0) [(0,.pointer a),(4,.pointer (some b)),(6,.int .i64 c),(7,.slice d e f),(8,.int .i64 g)] w)=bK.df a b c d e f g K w:=by kernel_rfl
end
section
variable(a:OA)(b:AV)(K:KT)(w:World)
variable{a b K w}
end
section
variable(a:OA)(b:Addr)(c:OA)(d e:Nat)(f:OA)(g i:Nat)(j:Int)(Q:aT)(w:World)
variable{a b c d e}
end
section
variable(a:OA)(b:Addr)(c:OA)(d e:Nat)(f:OA)(g i:Nat)(j:Int)(K:KT)(w:World)
end
def eT.k:List Nat:= []
section
variable(a:OA)(b d:AV)(K:KT)(w:World)
def eT.W:Prop:=
 let e:=w.alloc (.cells b 24);let f:=e.alloc (.cells d 24);∃g:AV,(g.size=32/\Cells f (aV w.heap.size) g)/\∃i:AV,(i.size=32/\Cells f (aV e.heap.size) i)/\(ft .u8 32 g/\ft .u8 32 i)/\Split (!(fV g i)) (∃j:AV,(j.size=32/\Cells f (aV w.heap.size) j)/\∃k:AV,(k.size=32/\Cells f (aV e.heap.size) k)/\bG prog 28 #[.pointer a,.agg j,.agg k] f fun m n=>∃o:Bool,m=.bool o/\Split (!o) (∃p:AV,(p.size=32/\Cells n (aV e.heap.size) p)/\∃q:AV,(q.size=32/\Cells n (aV w.heap.size) q)/\bG prog 28 #[.pointer a,.agg p,.agg q] n fun r t=>∃u:Bool,r=.bool u/\K (.bool (!u)) t) (K (.bool false) n)) (K (.bool false) f)
variable{a b d K w}
theorem eT.of(h:eT.W a b d K w):bG prog 104 #[.pointer a,.agg b,.agg d] w K:=
 rqq func104 (C:=eT.k) h
end
def aY.k:List Nat:= []
def aY.q1(K:KT):aT:=(aR 0 (cK (aS (sR (body f111)))++(aX f111)) (cg (fun cy w_=>match cutAt aY.k (aS (sR (body f111)))with|true=>Holds none [] prog 47 (aS (sR (body f111))) (bY prog f111 K) cy w_|false=>bg none [] prog 47 aY.k (aS (sR (body f111))) (aX f111) (bY prog f111 K) cy w_) (bY prog f111 K)))
def aY.e1(a:Addr)(b:OA)(c d:Nat)(e:OA)(f g:Nat)(i:Int)(s:(OA)×Nat×Nat×Int):Env:= [(2,.pointer (some a)),(4,.slice b c d),(5,.slice s.1 s.2.1 s.2.2.1),(11,.slice e f g),(12,.int .i64 i),(13,.int .i64 s.2.2.2)]
def aY.u1:List Nat:= [2,4,5,11,12,13]
def aY.FD(K:KT):aT:=(aR 2 (cK (cH (sR (body f111)))++(aX f111)) (cg (fun cy w_=>match cutAt aY.k (cH (sR (body f111)))with|true=>Holds none [] prog 47 (cH (sR (body f111))) (bY prog f111 K) cy w_|false=>bg none [] prog 47 aY.k (cH (sR (body f111))) (aX f111) (bY prog f111 K) cy w_) (bY prog f111 K)))
section
variable(a b:OA)(d e:Nat)(K:KT)(w:World)
def aY.W:Prop:=
 let f:=w.alloc (.cells (#[.pointer a]:AV) 98);Holds none [] prog 47 (.loop (lB (bB (sR (sL (aS (body f111))))))) (aY.q1 K) [(2,.pointer (some (aV w.heap.size))),(4,.slice none 0 0),(5,.slice none 0 0),(11,.slice b d e),(12,.int .i64 (d:Int)),(13,.int .i64 0)] f
variable{a b d e K w}
theorem aY.of(h:aY.W a b d e K w):bG prog 111 #[.pointer a,.slice b d e] w K:=
 rqq func111 (C:=aY.k) h
end
section
variable(a:Addr)(b:OA)(c d:Nat)(e:OA)(f g:Nat)(i:OA)(j k:Nat)(m n:Int)(Q:aT)(w:World)
def aY.B1:Prop:=
 Split (decide (n<m)) ((0<=n/\n<(j:Int))/\Is i fun o:Addr=>∃p:AV,(p.size=32/\Cells w (o.add (n.toNat*32)) p)/\let q:=w.alloc (.cells zH 24);(p.size=32/\(∀r∈p.toList,r.oneCell'=true)/\∀t,t<32->Wr q ((aV w.heap.size).add t))/\let u:=setCells q (aV w.heap.size) p.toList 0;∃v:OA,u.cell? a=some (.pointer v)/\∃x:AV,(x.size=32/\Cells u (aV w.heap.size) x)/\bG prog 90 #[.pointer v,.agg x] u fun y z=>∃a1:OA,y=.pointer a1/\Split (!(a1).isNone) (Is a1 fun b1:Addr=>∃c1:OA,∃d1 e1:Nat,z.cell? (b1.add 34)=some (.slice c1 d1 e1)/\bG prog 143 #[.slice e f g,.slice c1 d1 e1] z fun f1 g1=>∃i1:OA,∃j1 k1:Nat,f1=.slice i1 j1 k1/\Q .normal [(2,.pointer (some a)),(4,.slice b c d),(5,.slice i1 j1 k1),(11,.slice i j k),(12,.int .i64 m),(13,.int .i64 (i64.wrap (n+(1:Int))))] g1) (Q .normal [(2,.pointer (some a)),(4,.slice b c d),(5,.slice e f g),(11,.slice i j k),(12,.int .i64 m),(13,.int .i64 (i64.wrap (n+(1:Int))))] z)) (Q (.exit 0) [(2,.pointer (some a)),(4,.slice b c d),(5,.slice e f g),(11,.slice i j k),(12,.int .i64 m),(13,.int .i64 n)] w)
theorem aY.b1:(bg none [] prog 47 aY.k (lB (bB (sR (sL (aS (body f111)))))) aY.u1 Q [(2,.pointer (some a)),(4,.slice b c d),(5,.slice e f g),(11,.slice i j k),(12,.int .i64 m),(13,.int .i64 n)] w)=aY.B1 a b c d e f g i j k m n Q w:=by kernel_rfl
variable{a b c d i j k m}
theorem aY.cJ(I:(OA)×Nat×Nat×Int->World->Prop)(μ:(OA)×Nat×Nat×Int->World->Nat)(s:(OA)×Nat×Nat×Int){Q:aT}{w:World}(h0:I s w)
 (round:∀s w,I s w->aY.B1 a b c d (s.1) (s.2.1) (s.2.2.1) i j k m (s.2.2.2) (bW (aY.e1 a b c d i j k m) I μ s w Q) w):Holds none [] prog 47 (.loop (lB (bB (sR (sL (aS (body f111))))))) Q (aY.e1 a b c d i j k m s) w:=
 bC ng mix (aY.e1 a b c d i j k m) I μ aY.k aY.u1 s (fun s Q w=>aY.B1 a b c d (s.1) (s.2.1) (s.2.2.1) i j k m (s.2.2.2) Q w) (fun s Q w=>aY.b1 a b c d (s.1) (s.2.1) (s.2.2.1) i j k m (s.2.2.2) Q w) h0 round
end
section
def aY.df(a:Addr)(b:OA)(c d:Nat)(e:OA)(f g:Nat)(i:OA)(j k:Nat)(m n:Int)(K:KT)(w:World):Prop:=
 let o:=w.alloc (.cells (#[.slice none 0 0]:AV) 33);bG prog 144 #[.slice e f g] o fun p q=>∃r:Value,p=r/\Holds none [] prog 47 (bB (sR (sL (cH (body f111))))) (aY.FD K) [(2,.pointer (some a)),(4,.slice b c d),(9,.pointer (some (aV w.heap.size))),(30,r)] q
variable(a:Addr)(b:OA)(c d:Nat)(e:OA)(f g:Nat)(i:OA)(j k:Nat)(m n:Int)(K:KT)(w:World)
theorem aY.dz:(aY.q1 K (.exit 0) [(2,.pointer (some a)),(4,.slice b c d),(5,.slice e f g),(11,.slice i j k),(12,.int .i64 m),(13,.int .i64 n)] w)=aY.df a b c d e f g i j k m n K w:=by kernel_rfl
end
section
def aY.A1(l:Nat)(a:Addr)(b:OA)(c d:Nat)(e:Addr)(f:Value)(g:Int)(Q:aT)(w:World):Prop:=
 Q .normal [(2,.pointer (some a)),(9,.pointer (some e)),(10,.int .i64 g)] w
variable(l:Nat)(a:Addr)(b:OA)(c d:Nat)(e:Addr)(f:Value)(g:Int)(Q:aT)(w:World)
theorem aY.a1:(bg (some l) [] prog 47 aY.k (rA (bB (sR (sL (cH (body f111)))))) (cK (rB (bB (sR (sL (cH (body f111))))))) Q [(2,.pointer (some a)),(4,.slice b c d),(9,.pointer (some e)),(30,f),(31,.int .i64 g)] w)=aY.A1 l a b c d e f g Q w:=by kernel_rfl
end
section
def aY.Y1(l:Nat)(a b:Addr)(c:Int)(Q:aT)(w:World):Prop:=
 let d:=w.drew;∃e:OA,∃f g:Nat,d.cell? b=some (.slice e f g)/\∃i:OA,d.cell? a=some (.pointer i)/\Is i fun j:Addr=>∃k:OA,∃m n:Nat,d.cell? (j.add 0)=some (.slice k m n)/\(0<=c/\c<(m:Int))/\Is k fun o:Addr=>∃p:OA,d.cell? (o.add (c.toNat*1))=some (.pointer p)/\Is p fun q:Addr=>∃r:AV,(r.size=32/\Cells d (q.add 0) r)/\r.size=32/\let t:=d.alloc (.cells (r.toList++ []).toArray 24);t.cell? b=some (.slice e f g)/\∃(u:OA) (v x:Nat) (y:World),(Builtin.append_ #[33,33] 33 #[.slice e f g,.slice (some (aV d.heap.size)) 1 1]).run prog t=.ok (.slice u v x) y/\Wr y b/\let z:=y.setCell b (.slice u v x);Q .normal [] z
variable(l:Nat)(a b:Addr)(c:Int)(Q:aT)(w:World)
theorem aY.y1:(bg (some l) [] prog 47 aY.k (rB (bB (sR (sL (cH (body f111)))))) [] Q [(2,.pointer (some a)),(9,.pointer (some b)),(10,.int .i64 c)] w)=aY.Y1 l a b c Q w:=by kernel_rfl
end
section
def aY.jW(a:Addr)(b:OA)(c d:Nat)(e:Addr)(f:Value)(ms:AV)(K:KT)(w:World):Prop:=
 ∃g:OA,∃i j:Nat,w.cell? e=some (.slice g i j)/\bG prog 57 #[.slice g i j] w fun k m=>∃n:OA,∃o p:Nat,k=.slice n o p/\lQ (marksOf (.agg ms)) m/\K (.slice n o p) (gX (marksOf (.agg ms)) m)
variable(a:Addr)(b:OA)(c d:Nat)(e:Addr)(f:Value)(ms:AV)(K:KT)(w:World)
theorem aY.lI:(aY.FD K .normal [(2,.pointer (some a)),(4,.slice b c d),(9,.pointer (some e)),(30,f),(4294967296,.agg ms)] w)=aY.jW a b c d e f ms K w:=by kernel_rfl
end
def aO.k:List Nat:= []
def aO.FD(K:KT):aT:=(aR 0 (cK (aS (body f140))++(aX f140)) (cg (fun cy w_=>match cutAt aO.k (aS (body f140))with|true=>Holds none [] prog 13 (aS (body f140)) (bY prog f140 K) cy w_|false=>bg none [] prog 13 aO.k (aS (body f140)) (aX f140) (bY prog f140 K) cy w_) (bY prog f140 K)))
section
variable(a:OA)(b d:Nat)(e:Value)(K:KT)(w:World)
def aO.W:Prop:=
 let f:=w.alloc (.cells (#[.slice a b d]:AV) 33);Holds none [] prog 13 (bB (sR (sL (sR (body f140))))) (aO.FD K) [(2,.pointer (some (aV w.heap.size))),(4,.slice none 0 0),(6,e)] f
variable{a b d e K w}
theorem aO.of(h:aO.W a b d e K w):bG prog 140 #[.slice a b d,e] w K:=
 rqq func140 (C:=aO.k) h
end
section
def aO.A1(l:Nat)(a:Addr)(b:OA)(c d:Nat)(e:Value)(f:AV)(Q:aT)(w:World):Prop:=
 let g:=w.alloc (.cells zH 24);(f.size=32/\(∀i∈f.toList,i.oneCell'=true)/\∀j,j<32->Wr g ((aV w.heap.size).add j))/\let k:=setCells g (aV w.heap.size) f.toList 0;Q .normal [(2,.pointer (some a)),(5,.pointer (some (aV w.heap.size)))] k
variable(l:Nat)(a:Addr)(b:OA)(c d:Nat)(e:Value)(f:AV)(Q:aT)(w:World)
theorem aO.a1:(bg (some l) [] prog 13 aO.k (rA (bB (sR (sL (sR (body f140)))))) (cK (rB (bB (sR (sL (sR (body f140))))))) Q [(2,.pointer (some a)),(4,.slice b c d),(6,e),(7,.agg f)] w)=aO.A1 l a b c d e f Q w:=by kernel_rfl
end
section
def aO.Y1(l:Nat)(a b:Addr)(Q:aT)(w:World):Prop:=
 ∃c:OA,∃d e:Nat,w.cell? a=some (.slice c d e)/\∃f:AV,(f.size=32/\Cells w b f)/\f.size=32/\let g:=w.alloc (.cells (f.toList++ []).toArray 24);∃(i:OA) (j k:Nat) (m:World),(Builtin.append_ #[33,33] 33 #[.slice c d e,.slice (some (aV w.heap.size)) 1 1]).run prog g=.ok (.slice i j k) m/\Wr m a/\let n:=m.setCell a (.slice i j k);Q .normal [] n
variable(l:Nat)(a b:Addr)(Q:aT)(w:World)
theorem aO.y1:(bg (some l) [] prog 13 aO.k (rB (bB (sR (sL (sR (body f140)))))) [] Q [(2,.pointer (some a)),(5,.pointer (some b))] w)=aO.Y1 l a b Q w:=by kernel_rfl
end
section
def aO.jW(a:Addr)(b:OA)(c d:Nat)(e:Value)(ms:AV)(K:KT)(w:World):Prop:=
 ∃f:OA,∃g i:Nat,w.cell? a=some (.slice f g i)/\lQ (marksOf (.agg ms)) w/\K (.slice f g i) (gX (marksOf (.agg ms)) w)
variable(a:Addr)(b:OA)(c d:Nat)(e:Value)(ms:AV)(K:KT)(w:World)
theorem aO.lI:(aO.FD K .normal [(2,.pointer (some a)),(4,.slice b c d),(6,e),(4294967296,.agg ms)] w)=aO.jW a b c d e ms K w:=by kernel_rfl
end
end Go.Proofs.YtfleamccglihoaaGreatDoor
