import Derived.Test.YtfleamccglihoaaGreatDoorProg
import Derived.Test.YtfleamccglihoaaGreatDoorMA
import Derived.Test.YtfleamccglihoaaGreatDoorMB
open Go.IntKind (i64 u64)
set_option linter.unusedVariables false
namespace Go.Proofs.YtfleamccglihoaaGreatDoor
open Go.Proofs.Tryz
open Go Go.b0
def dJ.k:List Nat:= []
section
variable(a b:OA)(d e:Nat)(K:KT)(w:World)
def dJ.W:Prop:=
 let f:=w.alloc (.cells zH 24);bG prog 71 #[.pointer a,.slice b d e] f fun g i=>∃j:Int,g=.int .i64 j/\Split (j != (0:Int)) ((zH.size=32/\(∀k∈zH.toList,k.oneCell'=true)/\∀m,m<32->Wr i ((aV w.heap.size).add m))/\let n:=setCells i (aV w.heap.size) zH.toList 0;∃o:AV,(o.size=32/\Cells n (aV w.heap.size) o)/\K (.tuple #[.agg o,.int .i64 j]) n) (bG prog 72 #[.slice b d e,.func (.func 73) #[.pointer a] #[]] i fun p q=>∃r:AV,p=.agg r/\(r.size=32/\(∀t∈r.toList,t.oneCell'=true)/\∀u,u<32->Wr q ((aV w.heap.size).add u))/\let v:=setCells q (aV w.heap.size) r.toList 0;∃x:AV,(x.size=32/\Cells v (aV w.heap.size) x)/\K (.tuple #[.agg x,.int .i64 0]) v)
variable{a b d e K w}
theorem dJ.of(h:dJ.W a b d e K w):bG prog 21 #[.pointer a,.slice b d e] w K:=
 rqq func21 (C:=dJ.k) h
end
def dT.k:List Nat:= []
section
variable(a:OA)(b:AV)(d:OA)(e f:Nat)(K:KT)(w:World)
def dT.W:Prop:=
 let g:=w.alloc (.cells b 24);let i:=g.alloc (.cells zC 53);bG prog 82 #[.pointer a] i fun j k=>∃m:Bool,j=.bool m/\Split (!m) ((zC.size=35/\(∀n∈zC.toList,n.oneCell'=true)/\∀o,o<35->Wr k ((aV g.heap.size).add o))/\let p:=setCells k (aV g.heap.size) zC.toList 0;∃q:AV,(q.size=35/\Cells p (aV g.heap.size) q)/\K (.tuple #[.agg q,.int .i64 1]) p) (let r:=k.drew;Is a fun t:Addr=>∃u:Option Nat,r.cell? (t.add 2)=some (.map u)/\∃v:AV,(v.size=32/\Cells r (aV w.heap.size) v)/\∃x:OA,(Instr.lookup 63 (.map u) (.agg v) false).run prog r=.ok (.pointer x) r/\Split (!(x).isNone) ((zC.size=35/\(∀y∈zC.toList,y.oneCell'=true)/\∀z,z<35->Wr r ((aV g.heap.size).add z))/\let a1:=setCells r (aV g.heap.size) zC.toList 0;∃b1:AV,(b1.size=35/\Cells a1 (aV g.heap.size) b1)/\K (.tuple #[.agg b1,.int .i64 7]) a1) (Split ((e:Int)==(0:Int)) ((zC.size=35/\(∀c1∈zC.toList,c1.oneCell'=true)/\∀d1,d1<35->Wr r ((aV g.heap.size).add d1))/\let e1:=setCells r (aV g.heap.size) zC.toList 0;∃f1:AV,(f1.size=35/\Cells e1 (aV g.heap.size) f1)/\K (.tuple #[.agg f1,.int .i64 9]) e1) (bG prog 57 #[.slice d e f] r fun g1 i1=>∃j1:OA,∃k1 m1:Nat,g1=.slice j1 k1 m1/\Split ((k1:Int) != (e:Int)) ((zC.size=35/\(∀n1∈zC.toList,n1.oneCell'=true)/\∀o1,o1<35->Wr i1 ((aV g.heap.size).add o1))/\let p1:=setCells i1 (aV g.heap.size) zC.toList 0;∃q1:AV,(q1.size=35/\Cells p1 (aV g.heap.size) q1)/\K (.tuple #[.agg q1,.int .i64 9]) p1) (bG prog 21 #[.pointer a,.slice d e f] i1 fun r1 t1=>∃u1:AV,∃v1:Int,r1=.tuple #[.agg u1,.int .i64 v1]/\let x1:=t1.alloc (.cells zH 24);(u1.size=32/\(∀y1∈u1.toList,y1.oneCell'=true)/\∀z1,z1<32->Wr x1 ((aV t1.heap.size).add z1))/\let a2:=setCells x1 (aV t1.heap.size) u1.toList 0;Split (v1 != (0:Int)) ((zC.size=35/\(∀b2∈zC.toList,b2.oneCell'=true)/\∀c2,c2<35->Wr a2 ((aV g.heap.size).add c2))/\let d2:=setCells a2 (aV g.heap.size) zC.toList 0;∃e2:AV,(e2.size=35/\Cells d2 (aV g.heap.size) e2)/\K (.tuple #[.agg e2,.int .i64 v1]) d2) (∃f2:AV,(f2.size=32/\Cells a2 (aV t1.heap.size) f2)/\bG prog 83 #[.pointer a,.agg f2,.slice d e f] a2 fun g2 i2=>∃j2:OA,g2=.pointer j2/\let k2:=i2.drew;Is a fun m2:Addr=>∃n2:OA,k2.cell? (m2.add 1)=some (.pointer n2)/\∃o2:AV,(o2.size=32/\Cells k2 (aV w.heap.size) o2)/\∃p2:AV,(p2.size=32/\Cells k2 (aV t1.heap.size) p2)/\bG prog 84 #[.pointer n2,.agg o2,.agg p2,.slice d e f] k2 fun q2 r2=>∃t2:Int,q2=.int .i64 t2/\let u2:=r2.drew;Is a fun v2:Addr=>∃x2:Option Nat,u2.cell? (v2.add 2)=some (.map x2)/\∃y2:AV,(y2.size=32/\Cells u2 (aV w.heap.size) y2)/\∃z2:World,(Instr.mapUpdate 63 (.map x2) (.agg y2) (.pointer j2)).run prog u2=.ok () z2/\Is j2 fun a3:Addr=>∃b3:AV,(b3.size=35/\Cells z2 (a3.add 0) b3)/\bG prog 85 #[.agg b3] z2 fun c3 d3=>∃e3:AV,c3=.agg e3/\(e3.size=35/\(∀f3∈e3.toList,f3.oneCell'=true)/\∀g3,g3<35->Wr d3 ((aV g.heap.size).add g3))/\let i3:=setCells d3 (aV g.heap.size) e3.toList 0;∃j3:AV,(j3.size=35/\Cells i3 (aV g.heap.size) j3)/\K (.tuple #[.agg j3,.int .i64 0]) i3)))))
variable{a b d e f K w}
theorem dT.of(h:dT.W a b d e f K w):bG prog 41 #[.pointer a,.agg b,.slice d e f] w K:=
 rqq func41 (C:=dT.k) h
end
def jg.k:List Nat:= []
section
variable(a:Int)(b:AV)(K:KT)(w:World)
def jg.W:Prop:=
 let d:=w.alloc (.cells b 24);Split (decide (a<(0:Int))) (K (.tuple #[.pointer none,.int .i64 2]) d) (Split (decide (a>(100:Int))) (K (.tuple #[.pointer none,.int .i64 2]) d) (let e:=d.drew;∃f:AV,(f.size=32/\Cells e (aV w.heap.size) f)/\∃g:AV,(g.size=32/\Cells e (aV w.heap.size) g)/\(bG prog 86 #[.agg f] e fun i j=>∃k:OA,i=.pointer k/\(∃cs:AV,(.agg g:Value)=.agg cs/\cs.size=32/\Cells j (aV w.heap.size) cs)/\(let m:=j.alloc (.map #[] 0);(∃cs:AV,(.agg g:Value)=.agg cs/\cs.size=32/\Cells m (aV w.heap.size) cs)/\let n:=m.alloc (.cells zS 129);(∃cs:AV,(.agg g:Value)=.agg cs/\cs.size=32/\Cells n (aV w.heap.size) cs)/\∃o:World,(Instr.mapUpdate 63 (.map (some j.heap.size)) (.agg g) (.pointer (some (aV m.heap.size)))).run prog n=.ok () o/\let p:=o.alloc (.cells (#[.int .i64 a,.pointer k,.map (some j.heap.size)]:AV) 65);K (.tuple #[.pointer (some (aV o.heap.size)),.int .i64 0]) p)/\(let q:=j.alloc (.cells zS 129);(∃cs:AV,(.agg g:Value)=.agg cs/\cs.size=32/\Cells q (aV w.heap.size) cs)/\let r:=q.alloc (.map #[] 0);(∃cs:AV,(.agg g:Value)=.agg cs/\cs.size=32/\Cells r (aV w.heap.size) cs)/\∃t:World,(Instr.mapUpdate 63 (.map (some q.heap.size)) (.agg g) (.pointer (some (aV j.heap.size)))).run prog r=.ok () t/\let u:=t.alloc (.cells (#[.int .i64 a,.pointer k,.map (some q.heap.size)]:AV) 65);K (.tuple #[.pointer (some (aV t.heap.size)),.int .i64 0]) u))/\(let v:=e.alloc (.map #[] 0);(∃cs:AV,(.agg g:Value)=.agg cs/\cs.size=32/\Cells v (aV w.heap.size) cs)/\(∃cs:AV,(.agg f:Value)=.agg cs/\cs.size=32/\Cells v (aV w.heap.size) cs)/\(bG prog 86 #[.agg f] v fun x y=>∃z:OA,x=.pointer z/\(∃cs:AV,(.agg g:Value)=.agg cs/\cs.size=32/\Cells y (aV w.heap.size) cs)/\let a1:=y.alloc (.cells zS 129);(∃cs:AV,(.agg g:Value)=.agg cs/\cs.size=32/\Cells a1 (aV w.heap.size) cs)/\∃b1:World,(Instr.mapUpdate 63 (.map (some e.heap.size)) (.agg g) (.pointer (some (aV y.heap.size)))).run prog a1=.ok () b1/\let c1:=b1.alloc (.cells (#[.int .i64 a,.pointer z,.map (some e.heap.size)]:AV) 65);K (.tuple #[.pointer (some (aV b1.heap.size)),.int .i64 0]) c1)/\(let d1:=v.alloc (.cells zS 129);(∃cs:AV,(.agg g:Value)=.agg cs/\cs.size=32/\Cells d1 (aV w.heap.size) cs)/\(∃cs:AV,(.agg f:Value)=.agg cs/\cs.size=32/\Cells d1 (aV w.heap.size) cs)/\(bG prog 86 #[.agg f] d1 fun e1 f1=>∃g1:OA,e1=.pointer g1/\(∃cs:AV,(.agg g:Value)=.agg cs/\cs.size=32/\Cells f1 (aV w.heap.size) cs)/\∃i1:World,(Instr.mapUpdate 63 (.map (some e.heap.size)) (.agg g) (.pointer (some (aV v.heap.size)))).run prog f1=.ok () i1/\let j1:=i1.alloc (.cells (#[.int .i64 a,.pointer g1,.map (some e.heap.size)]:AV) 65);K (.tuple #[.pointer (some (aV i1.heap.size)),.int .i64 0]) j1)/\(∃k1:World,(Instr.mapUpdate 63 (.map (some e.heap.size)) (.agg g) (.pointer (some (aV v.heap.size)))).run prog d1=.ok () k1/\(∃cs:AV,(.agg f:Value)=.agg cs/\cs.size=32/\Cells k1 (aV w.heap.size) cs)/\bG prog 86 #[.agg f] k1 fun m1 n1=>∃o1:OA,m1=.pointer o1/\let p1:=n1.alloc (.cells (#[.int .i64 a,.pointer o1,.map (some e.heap.size)]:AV) 65);K (.tuple #[.pointer (some (aV n1.heap.size)),.int .i64 0]) p1)))/\(let q1:=e.alloc (.cells zS 129);(∃cs:AV,(.agg g:Value)=.agg cs/\cs.size=32/\Cells q1 (aV w.heap.size) cs)/\(∃cs:AV,(.agg f:Value)=.agg cs/\cs.size=32/\Cells q1 (aV w.heap.size) cs)/\(bG prog 86 #[.agg f] q1 fun r1 t1=>∃u1:OA,r1=.pointer u1/\(∃cs:AV,(.agg g:Value)=.agg cs/\cs.size=32/\Cells t1 (aV w.heap.size) cs)/\let v1:=t1.alloc (.map #[] 0);(∃cs:AV,(.agg g:Value)=.agg cs/\cs.size=32/\Cells v1 (aV w.heap.size) cs)/\∃x1:World,(Instr.mapUpdate 63 (.map (some t1.heap.size)) (.agg g) (.pointer (some (aV e.heap.size)))).run prog v1=.ok () x1/\let y1:=x1.alloc (.cells (#[.int .i64 a,.pointer u1,.map (some t1.heap.size)]:AV) 65);K (.tuple #[.pointer (some (aV x1.heap.size)),.int .i64 0]) y1)/\(let z1:=q1.alloc (.map #[] 0);(∃cs:AV,(.agg g:Value)=.agg cs/\cs.size=32/\Cells z1 (aV w.heap.size) cs)/\(∃cs:AV,(.agg f:Value)=.agg cs/\cs.size=32/\Cells z1 (aV w.heap.size) cs)/\(bG prog 86 #[.agg f] z1 fun a2 b2=>∃c2:OA,a2=.pointer c2/\(∃cs:AV,(.agg g:Value)=.agg cs/\cs.size=32/\Cells b2 (aV w.heap.size) cs)/\∃d2:World,(Instr.mapUpdate 63 (.map (some q1.heap.size)) (.agg g) (.pointer (some (aV e.heap.size)))).run prog b2=.ok () d2/\let e2:=d2.alloc (.cells (#[.int .i64 a,.pointer c2,.map (some q1.heap.size)]:AV) 65);K (.tuple #[.pointer (some (aV d2.heap.size)),.int .i64 0]) e2)/\(∃f2:World,(Instr.mapUpdate 63 (.map (some q1.heap.size)) (.agg g) (.pointer (some (aV e.heap.size)))).run prog z1=.ok () f2/\(∃cs:AV,(.agg f:Value)=.agg cs/\cs.size=32/\Cells f2 (aV w.heap.size) cs)/\bG prog 86 #[.agg f] f2 fun g2 i2=>∃j2:OA,g2=.pointer j2/\let k2:=i2.alloc (.cells (#[.int .i64 a,.pointer j2,.map (some q1.heap.size)]:AV) 65);K (.tuple #[.pointer (some (aV i2.heap.size)),.int .i64 0]) k2)))))
variable{a b K w}
theorem jg.of(h:jg.W a b K w):bG prog 42 #[.int .i64 a,.agg b] w K:=
 rqq func42 (C:=jg.k) h
end
def eR.k:List Nat:= []
section
variable(a:OA)(K:KT)(w:World)
def eR.W:Prop:=
 Split ((a).isNone) (K (.pointer none) w) (Is a fun b:Addr=>∃d:OA,w.cell? (b.add 1)=some (.pointer d)/\K (.pointer d) w)
variable{a K w}
theorem eR.of(h:eR.W a K w):bG prog 45 #[.pointer a] w K:=
 rqq func45 (C:=eR.k) h
end
section
variable(a:OA)(b d:AV)(K:KT)(w:World)
variable{a b d K w}
end
def eE.k:List Nat:= []
section
variable(a:OA)(b:AV)(d:OA)(e f:Nat)(K:KT)(w:World)
def eE.W:Prop:=
 let g:=w.alloc (.cells b 24);let i:=g.alloc (.cells zC 53);∃j:AV,(j.size=32/\Cells i (aV w.heap.size) j)/\j.size=32/\let k:=i.alloc (.cells (j.toList++ []).toArray 24);∃(m:OA) (n o:Nat) (p:World),(Builtin.append_ #[33,33] 33 #[.slice (some (aV i.heap.size)) 1 1,.slice d e f]).run prog k=.ok (.slice m n o) p/\bG prog 71 #[.pointer a,.slice m n o] p fun q r=>∃t:Int,q=.int .i64 t/\Split (t != (0:Int)) ((zC.size=35/\(∀u∈zC.toList,u.oneCell'=true)/\∀v,v<35->Wr r ((aV g.heap.size).add v))/\let x:=setCells r (aV g.heap.size) zC.toList 0;∃y:AV,(y.size=35/\Cells x (aV g.heap.size) y)/\K (.tuple #[.agg y,.int .i64 t]) x) (∃z:AV,(z.size=32/\Cells r (aV w.heap.size) z)/\bG prog 83 #[.pointer a,.agg z,.slice d e f] r fun a1 b1=>∃c1:OA,a1=.pointer c1/\Is c1 fun d1:Addr=>∃e1:AV,(e1.size=35/\Cells b1 (d1.add 0) e1)/\(e1.size=35/\(∀f1∈e1.toList,f1.oneCell'=true)/\∀g1,g1<35->Wr b1 ((aV g.heap.size).add g1))/\let i1:=setCells b1 (aV g.heap.size) e1.toList 0;∃j1:AV,(j1.size=35/\Cells i1 (aV g.heap.size) j1)/\K (.tuple #[.agg j1,.int .i64 0]) i1)
variable{a b d e f K w}
theorem eE.of(h:eE.W a b d e f K w):bG prog 56 #[.pointer a,.agg b,.slice d e f] w K:=
 rqq func56 (C:=eE.k) h
end
def eV.k:List Nat:= []
section
variable(a b:OA)(d e:Nat)(K:KT)(w:World)
def eV.W:Prop:=
 let f:=w.alloc (.cells (#[.pointer a]:AV) 28);∃g:OA,f.cell? (aV w.heap.size)=some (.pointer g)/\bG prog 82 #[.pointer g] f fun i j=>∃k:Bool,i=.bool k/\Split (!k) (K (.int .i64 1) j) (Split ((d:Int)==(0:Int)) (K (.int .i64 9) j) (bG prog 68 #[.slice b d e,.func (.func 105) #[] #[.pointer (some (aV w.heap.size))]] j fun m n=>∃o:Bool,m=.bool o/\Split o (K (.int .i64 6) n) (K (.int .i64 0) n)))
variable{a b d e K w}
theorem eV.of(h:eV.W a b d e K w):bG prog 71 #[.pointer a,.slice b d e] w K:=
 rqq func71 (C:=eV.k) h
end
def dv.k:List Nat:= []
section
variable(a:OA)(b d:AV)(K:KT)(w:World)
def dv.W:Prop:=
 let e:=w.alloc (.cells b 24);let f:=e.alloc (.cells d 24);let g:=f.drew;Is a fun i:Addr=>∃j:Option Nat,g.cell? (i.add 2)=some (.map j)/\∃k:AV,(k.size=32/\Cells g (aV w.heap.size) k)/\∃m:OA,(Instr.lookup 63 (.map j) (.agg k) false).run prog g=.ok (.pointer m) g/\Is m fun n:Addr=>∃o:Int,g.cell? ((n.add 0).add 32)=some (.int .u64 o)/\Is a fun p:Addr=>∃q:Option Nat,g.cell? (p.add 2)=some (.map q)/\∃r:AV,(r.size=32/\Cells g (aV e.heap.size) r)/\∃t:OA,(Instr.lookup 63 (.map q) (.agg r) false).run prog g=.ok (.pointer t) g/\Is t fun u:Addr=>∃v:Int,g.cell? ((u.add 0).add 32)=some (.int .u64 v)/\∃x:AV,(x.size=32/\Cells g (aV w.heap.size) x)/\∃y:AV,(y.size=32/\Cells g (aV e.heap.size) y)/\bG prog 107 #[.int .u64 o,.int .u64 v] g fun z a1=>∃b1:Int,z=.int .i64 b1/\(∃cs:AV,(.agg y:Value)=.agg cs/\cs.size=32/\Cells a1 (aV e.heap.size) cs)/\(∃cs:AV,(.agg x:Value)=.agg cs/\cs.size=32/\Cells a1 (aV w.heap.size) cs)/\bG prog 102 #[.agg x,.agg y] a1 fun c1 d1=>∃e1:Int,c1=.int .i64 e1/\let f1:=d1.alloc (.cells #[.int .i64 b1,.int .i64 e1] 3);bG prog 106 #[.slice (some (aV d1.heap.size)) 2 2] f1 fun g1 i1=>∃j1:Int,g1=.int .i64 j1/\K (.int .i64 j1) i1
variable{a b d K w}
theorem dv.of(h:dv.W a b d K w):bG prog 73 #[.pointer a,.agg b,.agg d] w K:=
 rqq func73 (C:=dv.k) h
end
section
variable(a:OA)(b:AV)(K:KT)(w:World)
variable{a b K w}
end
def eQ.k:List Nat:= []
section
variable(a:OA)(K:KT)(w:World)
def eQ.W:Prop:=
 Split (!(a).isNone) (Is a fun b:Addr=>∃d:OA,w.cell? (b.add 1)=some (.pointer d)/\K (.bool (!(d).isNone)) w) (K (.bool false) w)
variable{a K w}
theorem eQ.of(h:eQ.W a K w):bG prog 82 #[.pointer a] w K:=
 rqq func82 (C:=eQ.k) h
end
def ai.k:List Nat:= []
def ai.q1(K:KT):aT:=(aR 0 (cK (cH (body f83))++(aX f83)) (cg (fun cy w_=>match cutAt ai.k (cH (body f83))with|true=>Holds none [] prog 153 (cH (body f83)) (bY prog f83 K) cy w_|false=>bg none [] prog 153 ai.k (cH (body f83)) (aX f83) (bY prog f83 K) cy w_) (bY prog f83 K)))
def ai.e1(a b:Addr)(c:OA)(d:Addr)(e:OA)(f g:Nat)(i s:Int):Env:= [(3,.pointer (some a)),(4,.pointer (some b)),(6,.pointer c),(8,.pointer (some d)),(46,.slice e f g),(47,.int .i64 i),(48,.int .i64 s)]
def ai.u1:List Nat:= [3,4,6,8,46,47,48]
def ai.q2(K:KT):aT:=(aR 2 (cK (fU (sR (body f83)))++(aX f83)) (cg (fun cy w_=>match cutAt ai.k (fU (sR (body f83)))with|true=>Holds none [] prog 153 (fU (sR (body f83))) (bY prog f83 K) cy w_|false=>bg none [] prog 153 ai.k (fU (sR (body f83))) (aX f83) (bY prog f83 K) cy w_) (bY prog f83 K)))
def ai.e2(a:Addr)(b:OA)(c d e f g i:Addr)(j:OA)(k m:Nat)(n s:Int):Env:= [(3,.pointer (some a)),(6,.pointer b),(8,.pointer (some c)),(11,.pointer (some d)),(12,.func (.func 112) #[] #[.pointer (some e),.pointer (some f),.pointer (some g)]),(13,.pointer (some i)),(92,.slice j k m),(93,.int .i64 n),(94,.int .i64 s)]
def ai.u2:List Nat:= [3,6,8,11,12,13,92,93,94]
def ai.q3(Q:aT):aT:=(aR 4 (cK (fU (bB (sL (aS (lB (bB (sR (sL (fU (body f83))))))))))++(cK (aS (sR (lB (bB (sR (sL (fU (body f83))))))))++ai.u2)) (cg (fun cy w_=>match cutAt ai.k (fU (bB (sL (aS (lB (bB (sR (sL (fU (body f83))))))))))with|true=>Holds none [] prog 153 (fU (bB (sL (aS (lB (bB (sR (sL (fU (body f83)))))))))) (aR 3 (cK (aS (sR (lB (bB (sR (sL (fU (body f83))))))))++ai.u2) (cg (fun cy w_=>match cutAt ai.k (aS (sR (lB (bB (sR (sL (fU (body f83))))))))with|true=>Holds none [] prog 153 (aS (sR (lB (bB (sR (sL (fU (body f83)))))))) Q cy w_|false=>bg none [] prog 153 ai.k (aS (sR (lB (bB (sR (sL (fU (body f83)))))))) ai.u2 Q cy w_) Q)) cy w_|false=>bg none [] prog 153 ai.k (fU (bB (sL (aS (lB (bB (sR (sL (fU (body f83)))))))))) (cK (aS (sR (lB (bB (sR (sL (fU (body f83))))))))++ai.u2) (aR 3 (cK (aS (sR (lB (bB (sR (sL (fU (body f83))))))))++ai.u2) (cg (fun cy w_=>match cutAt ai.k (aS (sR (lB (bB (sR (sL (fU (body f83))))))))with|true=>Holds none [] prog 153 (aS (sR (lB (bB (sR (sL (fU (body f83)))))))) Q cy w_|false=>bg none [] prog 153 ai.k (aS (sR (lB (bB (sR (sL (fU (body f83)))))))) ai.u2 Q cy w_) Q)) cy w_) (aR 3 (cK (aS (sR (lB (bB (sR (sL (fU (body f83))))))))++ai.u2) (cg (fun cy w_=>match cutAt ai.k (aS (sR (lB (bB (sR (sL (fU (body f83))))))))with|true=>Holds none [] prog 153 (aS (sR (lB (bB (sR (sL (fU (body f83)))))))) Q cy w_|false=>bg none [] prog 153 ai.k (aS (sR (lB (bB (sR (sL (fU (body f83)))))))) ai.u2 Q cy w_) Q))))
def ai.e3(a:Addr)(b:OA)(c d e f g i j:Addr)(k:OA)(m n:Nat)(o p:Int)(q:OA)(s:Unit):Env:= [(3,.pointer (some a)),(6,.pointer b),(8,.pointer (some c)),(11,.pointer (some d)),(12,.func (.func 112) #[] #[.pointer (some e),.pointer (some f),.pointer (some g)]),(13,.pointer (some i)),(15,.pointer (some j)),(92,.slice k m n),(93,.int .i64 o),(94,.int .i64 p),(134,.pointer q)]
def ai.u3:List Nat:= [3,6,8,11,12,13,15,92,93,94,134]
section
variable(a:OA)(b:AV)(d:OA)(e f:Nat)(K:KT)(w:World)
def ai.W:Prop:=
 let g:=w.alloc (.cells (#[.pointer a]:AV) 28);let i:=g.alloc (.cells b 24);∃j:OA,i.cell? (aV w.heap.size)=some (.pointer j)/\Is j fun k:Addr=>∃m:OA,i.cell? (k.add 1)=some (.pointer m)/\bG prog 46 #[.pointer m] i fun n o=>∃p:OA,n=.pointer p/\let q:=o.drew;∃r:AV,(r.size=32/\Cells q (aV g.heap.size) r)/\∃t:OA,q.cell? (aV w.heap.size)=some (.pointer t)/\Is t fun u:Addr=>∃v:Option Nat,q.cell? (u.add 2)=some (.map v)/\∃x:AV,(x.size=32/\Cells q (aV g.heap.size) x)/\∃y:OA,(Instr.lookup 63 (.map v) (.agg x) false).run prog q=.ok (.pointer y) q/\Is y fun z:Addr=>∃a1:Int,q.cell? ((z.add 0).add 32)=some (.int .u64 a1)/\Is (prog.built 53 [(0,.agg r),(1,.int .u64 (u64.wrap (a1+(1:Int))))]) fun b1:AV=>(let c1:=q.alloc (.map #[] 0);c1.cell? ((z.add 0).add 32)=some (.int .u64 a1)/\(Instr.lookup 63 (.map v) (.agg x) false).run prog c1=.ok (.pointer y) c1/\(∃cs:AV,(.agg x:Value)=.agg cs/\cs.size=32/\Cells c1 (aV g.heap.size) cs)/\c1.cell? (u.add 2)=some (.map v)/\c1.cell? (aV w.heap.size)=some (.pointer t)/\(∃cs:AV,(.agg r:Value)=.agg cs/\cs.size=32/\Cells c1 (aV g.heap.size) cs)/\Is (prog.built 129 [(0,.agg b1),(1,.map (some q.heap.size))]) fun d1:AV=>(let e1:=c1.alloc (.cells d1 129);let f1:=e1.alloc (.cells (#[.pointer none]:AV) 123);Wr f1 (aV e1.heap.size)/\let g1:=f1.setCell (aV e1.heap.size) (.pointer (some (aV c1.heap.size)));bG prog 111 #[.pointer p,.slice d e f] g1 fun i1 j1=>∃k1:OA,∃m1 n1:Nat,i1=.slice k1 m1 n1/\∃(o1:OA) (p1 q1:Nat) (r1:World),(Builtin.append_ #[33,33] 33 #[.slice k1 m1 n1,.slice d e f]).run prog j1=.ok (.slice o1 p1 q1) r1/\bG prog 57 #[.slice o1 p1 q1] r1 fun t1 u1=>∃v1:OA,∃x1 y1:Nat,t1=.slice v1 x1 y1/\Holds none [] prog 153 (.loop (lB (bB (sR (sL (aS (sR (body f83)))))))) (ai.q1 K) [(3,.pointer (some (aV w.heap.size))),(4,.pointer (some (aV g.heap.size))),(6,.pointer none),(8,.pointer (some (aV e1.heap.size))),(46,.slice v1 x1 y1),(47,.int .i64 (x1:Int)),(48,.int .i64 0)] u1)/\(let z1:=c1.alloc (.cells (#[.pointer none]:AV) 123);z1.cell? ((z.add 0).add 32)=some (.int .u64 a1)/\(Instr.lookup 63 (.map v) (.agg x) false).run prog z1=.ok (.pointer y) z1/\(∃cs:AV,(.agg x:Value)=.agg cs/\cs.size=32/\Cells z1 (aV g.heap.size) cs)/\z1.cell? (u.add 2)=some (.map v)/\z1.cell? (aV w.heap.size)=some (.pointer t)/\(∃cs:AV,(.agg r:Value)=.agg cs/\cs.size=32/\Cells z1 (aV g.heap.size) cs)/\let a2:=z1.alloc (.cells d1 129);Wr a2 (aV c1.heap.size)/\let b2:=a2.setCell (aV c1.heap.size) (.pointer (some (aV z1.heap.size)));bG prog 111 #[.pointer p,.slice d e f] b2 fun c2 d2=>∃e2:OA,∃f2 g2:Nat,c2=.slice e2 f2 g2/\∃(i2:OA) (j2 k2:Nat) (m2:World),(Builtin.append_ #[33,33] 33 #[.slice e2 f2 g2,.slice d e f]).run prog d2=.ok (.slice i2 j2 k2) m2/\bG prog 57 #[.slice i2 j2 k2] m2 fun n2 o2=>∃p2:OA,∃q2 r2:Nat,n2=.slice p2 q2 r2/\Holds none [] prog 153 (.loop (lB (bB (sR (sL (aS (sR (body f83)))))))) (ai.q1 K) [(3,.pointer (some (aV w.heap.size))),(4,.pointer (some (aV g.heap.size))),(6,.pointer none),(8,.pointer (some (aV c1.heap.size))),(46,.slice p2 q2 r2),(47,.int .i64 (q2:Int)),(48,.int .i64 0)] o2))/\(let t2:=q.alloc (.cells (#[.pointer none]:AV) 123);t2.cell? ((z.add 0).add 32)=some (.int .u64 a1)/\(Instr.lookup 63 (.map v) (.agg x) false).run prog t2=.ok (.pointer y) t2/\(∃cs:AV,(.agg x:Value)=.agg cs/\cs.size=32/\Cells t2 (aV g.heap.size) cs)/\t2.cell? (u.add 2)=some (.map v)/\t2.cell? (aV w.heap.size)=some (.pointer t)/\(∃cs:AV,(.agg r:Value)=.agg cs/\cs.size=32/\Cells t2 (aV g.heap.size) cs)/\let u2:=t2.alloc (.map #[] 0);u2.cell? ((z.add 0).add 32)=some (.int .u64 a1)/\(Instr.lookup 63 (.map v) (.agg x) false).run prog u2=.ok (.pointer y) u2/\(∃cs:AV,(.agg x:Value)=.agg cs/\cs.size=32/\Cells u2 (aV g.heap.size) cs)/\u2.cell? (u.add 2)=some (.map v)/\u2.cell? (aV w.heap.size)=some (.pointer t)/\(∃cs:AV,(.agg r:Value)=.agg cs/\cs.size=32/\Cells u2 (aV g.heap.size) cs)/\Is (prog.built 129 [(0,.agg b1),(1,.map (some t2.heap.size))]) fun v2:AV=>let x2:=u2.alloc (.cells v2 129);Wr x2 (aV q.heap.size)/\let y2:=x2.setCell (aV q.heap.size) (.pointer (some (aV u2.heap.size)));bG prog 111 #[.pointer p,.slice d e f] y2 fun z2 a3=>∃b3:OA,∃c3 d3:Nat,z2=.slice b3 c3 d3/\∃(e3:OA) (f3 g3:Nat) (i3:World),(Builtin.append_ #[33,33] 33 #[.slice b3 c3 d3,.slice d e f]).run prog a3=.ok (.slice e3 f3 g3) i3/\bG prog 57 #[.slice e3 f3 g3] i3 fun j3 k3=>∃m3:OA,∃n3 o3:Nat,j3=.slice m3 n3 o3/\Holds none [] prog 153 (.loop (lB (bB (sR (sL (aS (sR (body f83)))))))) (ai.q1 K) [(3,.pointer (some (aV w.heap.size))),(4,.pointer (some (aV g.heap.size))),(6,.pointer none),(8,.pointer (some (aV q.heap.size))),(46,.slice m3 n3 o3),(47,.int .i64 (n3:Int)),(48,.int .i64 0)] k3)
variable{a b d e f K w}
theorem ai.of(h:ai.W a b d e f K w):bG prog 83 #[.pointer a,.agg b,.slice d e f] w K:=
 rqq func83 (C:=ai.k) h
end
section
variable(a b:Addr)(c:OA)(d:Addr)(e:OA)(f g:Nat)(i j:Int)(Q:aT)(w:World)
def ai.B1:Prop:=
 Split (decide (j<i)) ((0<=j/\j<(f:Int))/\Is e fun k:Addr=>∃m:AV,(m.size=32/\Cells w (k.add (j.toNat*32)) m)/\let n:=w.alloc (.cells zH 24);(m.size=32/\(∀o∈m.toList,o.oneCell'=true)/\∀p,p<32->Wr n ((aV w.heap.size).add p))/\let q:=setCells n (aV w.heap.size) m.toList 0;let r:=q.drew;∃t:AV,(t.size=32/\Cells r (aV w.heap.size) t)/\∃u:AV,(u.size=32/\Cells r b u)/\(ft .u8 32 t/\ft .u8 32 u)/\Split (!(fV t u)) (∃v:OA,r.cell? a=some (.pointer v)/\Is v fun x:Addr=>∃y:OA,r.cell? (x.add 1)=some (.pointer y)/\∃z:AV,(z.size=32/\Cells r (aV w.heap.size) z)/\∃a1:AV,(a1.size=32/\Cells r b a1)/\bG prog 51 #[.pointer y,.agg z,.agg a1] r fun b1 c1=>∃d1:Bool,b1=.bool d1/\Split (!d1) (let e1:=c1.drew;∃f1:OA,e1.cell? d=some (.pointer f1)/\∃g1:OA,e1.cell? d=some (.pointer g1)/\Is g1 fun i1:Addr=>∃j1:OA,∃k1 m1:Nat,e1.cell? ((i1.add 0).add 33)=some (.slice j1 k1 m1)/\∃n1:AV,(n1.size=32/\Cells e1 (aV w.heap.size) n1)/\n1.size=32/\let o1:=e1.alloc (.cells (n1.toList++ []).toArray 24);o1.cell? ((i1.add 0).add 33)=some (.slice j1 k1 m1)/\o1.cell? d=some (.pointer g1)/\o1.cell? d=some (.pointer f1)/\∃(p1:OA) (q1 r1:Nat) (t1:World),(Builtin.append_ #[33,33] 33 #[.slice j1 k1 m1,.slice (some (aV e1.heap.size)) 1 1]).run prog o1=.ok (.slice p1 q1 r1) t1/\t1.cell? d=some (.pointer f1)/\Is f1 fun u1:Addr=>Wr t1 ((u1.add 0).add 33)/\let v1:=t1.setCell ((u1.add 0).add 33) (.slice p1 q1 r1);Q .normal [(3,.pointer (some a)),(4,.pointer (some b)),(6,.pointer c),(8,.pointer (some d)),(46,.slice e f g),(47,.int .i64 i),(48,.int .i64 (i64.wrap (j+(1:Int))))] v1) (Q .normal [(3,.pointer (some a)),(4,.pointer (some b)),(6,.pointer c),(8,.pointer (some d)),(46,.slice e f g),(47,.int .i64 i),(48,.int .i64 (i64.wrap (j+(1:Int))))] c1)) (Q .normal [(3,.pointer (some a)),(4,.pointer (some b)),(6,.pointer c),(8,.pointer (some d)),(46,.slice e f g),(47,.int .i64 i),(48,.int .i64 (i64.wrap (j+(1:Int))))] r)) (Q (.exit 0) [(3,.pointer (some a)),(4,.pointer (some b)),(6,.pointer c),(8,.pointer (some d)),(46,.slice e f g),(47,.int .i64 i),(48,.int .i64 j)] w)
theorem ai.b1:(bg none [] prog 153 ai.k (lB (bB (sR (sL (aS (sR (body f83))))))) ai.u1 Q [(3,.pointer (some a)),(4,.pointer (some b)),(6,.pointer c),(8,.pointer (some d)),(46,.slice e f g),(47,.int .i64 i),(48,.int .i64 j)] w)=ai.B1 a b c d e f g i j Q w:=by kernel_rfl
variable{a b c d e f g i}
theorem ai.cJ(I:Int->World->Prop)(μ:Int->World->Nat)(s:Int){Q:aT}{w:World}(h0:I s w)
 (round:∀s w,I s w->ai.B1 a b c d e f g i s (bW (ai.e1 a b c d e f g i) I μ s w Q) w):Holds none [] prog 153 (.loop (lB (bB (sR (sL (aS (sR (body f83)))))))) Q (ai.e1 a b c d e f g i s) w:=
 bC ng mix (ai.e1 a b c d e f g i) I μ ai.k ai.u1 s (fun s Q w=>ai.B1 a b c d e f g i s Q w) (fun s Q w=>ai.b1 a b c d e f g i s Q w) h0 round
end
section
def ai.df(a b:Addr)(c:OA)(d:Addr)(e:OA)(f g:Nat)(i j:Int)(K:KT)(w:World):Prop:=
 let k:=w.drew;∃m:OA,k.cell? d=some (.pointer m)/\Is m fun n:Addr=>∃o:OA,∃p q:Nat,k.cell? ((n.add 0).add 33)=some (.slice o p q)/\∃r:OA,k.cell? a=some (.pointer r)/\bG prog 53 #[.slice o p q,.func (.func 73) #[.pointer r] #[]] k fun t u=>t=.tuple #[]/\let v:=u.alloc (.cells (#[.slice none 0 0]:AV) 33);let x:=v.alloc (.cells (#[.nilFunc]:AV) 48);Wr x (aV v.heap.size)/\let y:=x.setCell (aV v.heap.size) (.func (.func 114) #[] #[.pointer (some d),.pointer (some a),.pointer (some b)]);∃z:OA,y.cell? d=some (.pointer z)/\Is z fun a1:Addr=>∃b1:OA,∃c1 d1:Nat,y.cell? ((a1.add 0).add 33)=some (.slice b1 c1 d1)/\Holds none [] prog 153 (.loop (lB (bB (sR (sL (fU (body f83))))))) (ai.q2 K) [(3,.pointer (some a)),(6,.pointer c),(8,.pointer (some d)),(11,.pointer (some (aV u.heap.size))),(12,.func (.func 112) #[] #[.pointer (some (aV u.heap.size)),.pointer (some a),.pointer (some b)]),(13,.pointer (some (aV v.heap.size))),(92,.slice b1 c1 d1),(93,.int .i64 (c1:Int)),(94,.int .i64 0)] y
variable(a b:Addr)(c:OA)(d:Addr)(e:OA)(f g:Nat)(i j:Int)(K:KT)(w:World)
theorem ai.dz:(ai.q1 K (.exit 0) [(3,.pointer (some a)),(4,.pointer (some b)),(6,.pointer c),(8,.pointer (some d)),(46,.slice e f g),(47,.int .i64 i),(48,.int .i64 j)] w)=ai.df a b c d e f g i j K w:=by kernel_rfl
end
section
variable(a:Addr)(b:OA)(c d e f g i:Addr)(j:OA)(k m:Nat)(n o:Int)(Q:aT)(w:World)
def ai.B2:Prop:=
 Split (decide (o<n)) ((0<=o/\o<(k:Int))/\Is j fun p:Addr=>∃q:AV,(q.size=32/\Cells w (p.add (o.toNat*32)) q)/\let r:=w.alloc (.cells zH 24);(q.size=32/\(∀t∈q.toList,t.oneCell'=true)/\∀u,u<32->Wr r ((aV w.heap.size).add u))/\let v:=setCells r (aV w.heap.size) q.toList 0;let x:=v.alloc (.map #[] 0);let y:=x.alloc (.cells (#[.map none]:AV) 127);Wr y (aV x.heap.size)/\let z:=y.setCell (aV x.heap.size) (.map (some v.heap.size));∃a1:AV,(a1.size=32/\Cells z (aV w.heap.size) a1)/\bG prog 112 #[.agg a1,.func (.func 116) #[] #[.pointer (some i),.pointer (some (aV x.heap.size)),.pointer (some a)],.pointer (some e),.pointer (some f),.pointer (some g)] z fun b1 c1=>∃d1:Bool,b1=.bool d1/\let e1:=c1.drew;∃f1:OA,e1.cell? c=some (.pointer f1)/\∃g1:OA,e1.cell? c=some (.pointer g1)/\Is g1 fun i1:Addr=>∃j1:OA,∃k1 m1:Nat,e1.cell? ((i1.add 0).add 34)=some (.slice j1 k1 m1)/\let n1:=e1.alloc (.cells #[.bool d1] 4);n1.cell? ((i1.add 0).add 34)=some (.slice j1 k1 m1)/\n1.cell? c=some (.pointer g1)/\n1.cell? c=some (.pointer f1)/\∃(o1:OA) (p1 q1:Nat) (r1:World),(Builtin.append_ #[51,51] 51 #[.slice j1 k1 m1,.slice (some (aV e1.heap.size)) 1 1]).run prog n1=.ok (.slice o1 p1 q1) r1/\r1.cell? c=some (.pointer f1)/\Is f1 fun t1:Addr=>Wr r1 ((t1.add 0).add 34)/\let u1:=r1.setCell ((t1.add 0).add 34) (.slice o1 p1 q1);Split (!d1) (Q .normal [(3,.pointer (some a)),(6,.pointer b),(8,.pointer (some c)),(11,.pointer (some d)),(12,.func (.func 112) #[] #[.pointer (some e),.pointer (some f),.pointer (some g)]),(13,.pointer (some i)),(92,.slice j k m),(93,.int .i64 n),(94,.int .i64 (i64.wrap (o+(1:Int))))] u1) (∃v1:OA,u1.cell? c=some (.pointer v1)/\Is v1 fun x1:Addr=>∃y1:Int,u1.cell? ((x1.add 0).add 32)=some (.int .u64 y1)/\Is v1 fun z1:Addr=>Wr u1 ((z1.add 0).add 32)/\let a2:=u1.setCell ((z1.add 0).add 32) (.int .u64 (u64.wrap (y1+(1:Int))));let b2:=a2.drew;∃c2:OA,b2.cell? c=some (.pointer c2)/\Is c2 fun d2:Addr=>∃e2:Option Nat,b2.cell? (d2.add 35)=some (.map e2)/\∃f2:AV,(f2.size=32/\Cells b2 (aV w.heap.size) f2)/\∃g2:Option Nat,b2.cell? (aV x.heap.size)=some (.map g2)/\∃i2:Nat,(Builtin.len_ #[127] 3 #[.map g2]).run prog b2=.ok (.int .i64 (i2:Int)) b2/\∃j2:World,(Instr.mapUpdate 127 (.map e2) (.agg f2) (.int .i64 (i2:Int))).run prog b2=.ok () j2/\∃k2:Option Nat,j2.cell? (aV x.heap.size)=some (.map k2)/\∃(m2:OA) (n2:World),(Instr.range 127 (.map k2)).run prog j2=.ok (.pointer m2) n2/\Holds none [] prog 153 (.loop (lB (bB (sR (sL (cH (aS (sR (bB (sL (aS (lB (bB (sR (sL (fU (body f83))))))))))))))))) (ai.q3 Q) [(3,.pointer (some a)),(6,.pointer b),(8,.pointer (some c)),(11,.pointer (some d)),(12,.func (.func 112) #[] #[.pointer (some e),.pointer (some f),.pointer (some g)]),(13,.pointer (some i)),(15,.pointer (some (aV w.heap.size))),(92,.slice j k m),(93,.int .i64 n),(94,.int .i64 o),(134,.pointer m2)] n2)) (Q (.exit 2) [(3,.pointer (some a)),(6,.pointer b),(8,.pointer (some c)),(11,.pointer (some d)),(12,.func (.func 112) #[] #[.pointer (some e),.pointer (some f),.pointer (some g)]),(13,.pointer (some i)),(92,.slice j k m),(93,.int .i64 n),(94,.int .i64 o)] w)
theorem ai.b2:(bg none [] prog 153 ai.k (lB (bB (sR (sL (fU (body f83)))))) ai.u2 Q [(3,.pointer (some a)),(6,.pointer b),(8,.pointer (some c)),(11,.pointer (some d)),(12,.func (.func 112) #[] #[.pointer (some e),.pointer (some f),.pointer (some g)]),(13,.pointer (some i)),(92,.slice j k m),(93,.int .i64 n),(94,.int .i64 o)] w)=ai.B2 a b c d e f g i j k m n o Q w:=by kernel_rfl
variable{a b c d e f g i j k m n}
theorem ai.iB(I:Int->World->Prop)(μ:Int->World->Nat)(s:Int){Q:aT}{w:World}(h0:I s w)
 (round:∀s w,I s w->ai.B2 a b c d e f g i j k m n s (bW (ai.e2 a b c d e f g i j k m n) I μ s w Q) w):Holds none [] prog 153 (.loop (lB (bB (sR (sL (fU (body f83))))))) Q (ai.e2 a b c d e f g i j k m n s) w:=
 bC ng mix (ai.e2 a b c d e f g i j k m n) I μ ai.k ai.u2 s (fun s Q w=>ai.B2 a b c d e f g i j k m n s Q w) (fun s Q w=>ai.b2 a b c d e f g i j k m n s Q w) h0 round
end
section
def ai.jh(a:Addr)(b:OA)(c d e f g i:Addr)(j:OA)(k m:Nat)(n o:Int)(K:KT)(w:World):Prop:=
 ∃p:OA,w.cell? c=some (.pointer p)/\K (.pointer p) w
variable(a:Addr)(b:OA)(c d e f g i:Addr)(j:OA)(k m:Nat)(n o:Int)(K:KT)(w:World)
theorem ai.ki:(ai.q2 K (.exit 2) [(3,.pointer (some a)),(6,.pointer b),(8,.pointer (some c)),(11,.pointer (some d)),(12,.func (.func 112) #[] #[.pointer (some e),.pointer (some f),.pointer (some g)]),(13,.pointer (some i)),(92,.slice j k m),(93,.int .i64 n),(94,.int .i64 o)] w)=ai.jh a b c d e f g i j k m n o K w:=by kernel_rfl
end
section
variable(a:Addr)(b:OA)(c d e f g i j:Addr)(k:OA)(m n:Nat)(o p:Int)(q:OA)(Q:aT)(w:World)
def ai.B3:Prop:=
 (∃r:World,(Instr.next (.pointer q) false 0).run prog w=.ok (.tuple #[.bool false]) r/\Q (.exit 4) [(3,.pointer (some a)),(6,.pointer b),(8,.pointer (some c)),(11,.pointer (some d)),(12,.func (.func 112) #[] #[.pointer (some e),.pointer (some f),.pointer (some g)]),(13,.pointer (some i)),(15,.pointer (some j)),(92,.slice k m n),(93,.int .i64 o),(94,.int .i64 p),(134,.pointer q)] r)\/∃(t u:Value) (v:World),(Instr.next (.pointer q) false 0).run prog w=.ok (.tuple #[.bool true,t,u]) v/\∃x:AV,∃y:Int,(Instr.entry (.pointer q)).run prog v=.ok (.tuple #[.agg x,.int .i64 y]) v/\let z:=v.alloc (.cells zH 24);(x.size=32/\(∀a1∈x.toList,a1.oneCell'=true)/\∀b1,b1<32->Wr z ((aV v.heap.size).add b1))/\let c1:=setCells z (aV v.heap.size) x.toList 0;let d1:=c1.drew;∃e1:OA,d1.cell? c=some (.pointer e1)/\Is e1 fun f1:Addr=>∃g1:Option Nat,d1.cell? (f1.add 35)=some (.map g1)/\∃i1:AV,(i1.size=32/\Cells d1 (aV v.heap.size) i1)/\∃j1:World,(Instr.mapUpdate 127 (.map g1) (.agg i1) (.int .i64 (i64.wrap (y+(1:Int))))).run prog d1=.ok () j1/\Q .normal [(3,.pointer (some a)),(6,.pointer b),(8,.pointer (some c)),(11,.pointer (some d)),(12,.func (.func 112) #[] #[.pointer (some e),.pointer (some f),.pointer (some g)]),(13,.pointer (some i)),(15,.pointer (some j)),(92,.slice k m n),(93,.int .i64 o),(94,.int .i64 p),(134,.pointer q)] j1
theorem ai.b3:(bg none [] prog 153 ai.k (lB (bB (sR (sL (cH (aS (sR (bB (sL (aS (lB (bB (sR (sL (fU (body f83)))))))))))))))) ai.u3 Q [(3,.pointer (some a)),(6,.pointer b),(8,.pointer (some c)),(11,.pointer (some d)),(12,.func (.func 112) #[] #[.pointer (some e),.pointer (some f),.pointer (some g)]),(13,.pointer (some i)),(15,.pointer (some j)),(92,.slice k m n),(93,.int .i64 o),(94,.int .i64 p),(134,.pointer q)] w)=ai.B3 a b c d e f g i j k m n o p q Q w:=by kernel_rfl
variable{a b c d e f g i j k m n o p q}
theorem ai.sn(I:Unit->World->Prop)(μ:Unit->World->Nat)(s:Unit){Q:aT}{w:World}(h0:I s w)
 (round:∀s w,I s w->ai.B3 a b c d e f g i j k m n o p q (bW (ai.e3 a b c d e f g i j k m n o p q) I μ s w Q) w):Holds none [] prog 153 (.loop (lB (bB (sR (sL (cH (aS (sR (bB (sL (aS (lB (bB (sR (sL (fU (body f83))))))))))))))))) Q (ai.e3 a b c d e f g i j k m n o p q s) w:=
 bC ng mix (ai.e3 a b c d e f g i j k m n o p q) I μ ai.k ai.u3 s (fun s Q w=>ai.B3 a b c d e f g i j k m n o p q Q w) (fun s Q w=>ai.b3 a b c d e f g i j k m n o p q Q w) h0 round
end
section
def ai.tM(a:Addr)(b:OA)(c d e f g i j:Addr)(k:OA)(m n:Nat)(o p:Int)(q:OA)(Q:aT)(w:World):Prop:=
 ∃r:OA,∃t u:Nat,w.cell? d=some (.slice r t u)/\∃v:AV,(v.size=32/\Cells w j v)/\v.size=32/\let x:=w.alloc (.cells (v.toList++ []).toArray 24);∃(y:OA) (z a1:Nat) (b1:World),(Builtin.append_ #[33,33] 33 #[.slice r t u,.slice (some (aV w.heap.size)) 1 1]).run prog x=.ok (.slice y z a1) b1/\Wr b1 d/\let c1:=b1.setCell d (.slice y z a1);Q .normal [(3,.pointer (some a)),(6,.pointer b),(8,.pointer (some c)),(11,.pointer (some d)),(12,.func (.func 112) #[] #[.pointer (some e),.pointer (some f),.pointer (some g)]),(13,.pointer (some i)),(92,.slice k m n),(93,.int .i64 o),(94,.int .i64 (i64.wrap (p+(1:Int))))] c1
variable(a:Addr)(b:OA)(c d e f g i j:Addr)(k:OA)(m n:Nat)(o p:Int)(q:OA)(Q:aT)(w:World)
theorem ai.yz:(ai.q3 Q (.exit 4) [(3,.pointer (some a)),(6,.pointer b),(8,.pointer (some c)),(11,.pointer (some d)),(12,.func (.func 112) #[] #[.pointer (some e),.pointer (some f),.pointer (some g)]),(13,.pointer (some i)),(15,.pointer (some j)),(92,.slice k m n),(93,.int .i64 o),(94,.int .i64 p),(134,.pointer q)] w)=ai.tM a b c d e f g i j k m n o p q Q w:=by kernel_rfl
end
def iN.k:List Nat:= []
section
variable(a:AV)(K:KT)(w:World)
def iN.W:Prop:=
 let b:=w.alloc (.cells a 53);let d:=b.alloc (.cells zC 53);let e:=d.drew;∃f:OA,∃g i:Nat,e.cell? ((aV w.heap.size).add 33)=some (.slice f g i)/\∃j:OA,∃k m:Nat,e.cell? ((aV w.heap.size).add 34)=some (.slice j k m)/\bG prog 55 #[.slice f g i] e fun n o=>∃p:OA,∃q r:Nat,n=.slice p q r/\o.cell? ((aV w.heap.size).add 34)=some (.slice j k m)/\bG prog 121 #[.slice j k m] o fun t u=>∃v:OA,∃x y:Nat,t=.slice v x y/\Wr u ((aV w.heap.size).add 33)/\let z:=u.setCell ((aV w.heap.size).add 33) (.slice p q r);Wr z ((aV w.heap.size).add 34)/\let a1:=z.setCell ((aV w.heap.size).add 34) (.slice v x y);∃b1:AV,(b1.size=35/\Cells a1 (aV w.heap.size) b1)/\(b1.size=35/\(∀c1∈b1.toList,c1.oneCell'=true)/\∀d1,d1<35->Wr a1 ((aV b.heap.size).add d1))/\let e1:=setCells a1 (aV b.heap.size) b1.toList 0;∃f1:AV,(f1.size=35/\Cells e1 (aV b.heap.size) f1)/\K (.agg f1) e1
variable{a K w}
theorem iN.of(h:iN.W a K w):bG prog 85 #[.agg a] w K:=
 rqq func85 (C:=iN.k) h
end
def fc.k:List Nat:= []
section
variable(a:AV)(b:Addr)(K:KT)(w:World)
def fc.W:Prop:=
 let d:=w.alloc (.cells a 24);let e:=d.drew;∃f:OA,e.cell? b=some (.pointer f)/\Is f fun g:Addr=>∃i:Option Nat,e.cell? (g.add 2)=some (.map i)/\∃j:AV,(j.size=32/\Cells e (aV w.heap.size) j)/\∃k:OA,(Instr.lookup 63 (.map i) (.agg j) false).run prog e=.ok (.pointer k) e/\K (.bool ((k).isNone)) e
variable{a b K w}
theorem fc.of(h:fc.W a b K w):bG prog 105 #[.agg a,.pointer (some b)] w K:=
 rqq func105 (C:=fc.k) h
end
def bU.k:List Nat:= []
def bU.q1(K:KT):aT:=(aR 0 (cK (aS (sR (body f106)))++(aX f106)) (cg (fun cy w_=>match cutAt bU.k (aS (sR (body f106)))with|true=>Holds none [] prog 18 (aS (sR (body f106))) (bY prog f106 K) cy w_|false=>bg none [] prog 18 bU.k (aS (sR (body f106))) (aX f106) (bY prog f106 K) cy w_) (bY prog f106 K)))
def bU.e1(a:Int)(b:OA)(c d:Nat)(e:Int)(s:Int×Int):Env:= [(2,.int .i64 s.1),(3,.int .i64 a),(6,.slice b c d),(7,.int .i64 e),(8,.int .i64 s.2)]
def bU.u1:List Nat:= [2,3,6,7,8]
section
variable(a:OA)(b d:Nat)(K:KT)(w:World)
def bU.W:Prop:=
 Holds none [] prog 18 (.loop (lB (bB (sR (sL (aS (body f106))))))) (bU.q1 K) [(2,.int .i64 0),(3,.int .i64 0),(6,.slice a b d),(7,.int .i64 (b:Int)),(8,.int .i64 0)] w
variable{a b d K w}
theorem bU.of(h:bU.W a b d K w):bG prog 106 #[.slice a b d] w K:=
 rqq func106 (C:=bU.k) h
end
section
variable(a b:Int)(c:OA)(d e:Nat)(f g:Int)(Q:aT)(w:World)
def bU.B1:Prop:=
 Split (decide (g<f)) ((0<=g/\g<(d:Int))/\Is c fun i:Addr=>∃j:Int,w.cell? (i.add (g.toNat*1))=some (.int .i64 j)/\Split (j != b) (Q .ret [(2,.int .i64 j),(3,.int .i64 b),(6,.slice c d e),(7,.int .i64 f),(8,.int .i64 g)] w) (Q .normal [(2,.int .i64 a),(3,.int .i64 b),(6,.slice c d e),(7,.int .i64 f),(8,.int .i64 (i64.wrap (g+(1:Int))))] w)) (Q (.exit 0) [(2,.int .i64 a),(3,.int .i64 b),(6,.slice c d e),(7,.int .i64 f),(8,.int .i64 g)] w)
theorem bU.b1:(bg none [] prog 18 bU.k (lB (bB (sR (sL (aS (body f106)))))) bU.u1 Q [(2,.int .i64 a),(3,.int .i64 b),(6,.slice c d e),(7,.int .i64 f),(8,.int .i64 g)] w)=bU.B1 a b c d e f g Q w:=by kernel_rfl
variable{b c d e f}
theorem bU.cJ(I:Int×Int->World->Prop)(μ:Int×Int->World->Nat)(s:Int×Int){Q:aT}{w:World}(h0:I s w)
 (round:∀s w,I s w->bU.B1 (s.1) b c d e f (s.2) (bW (bU.e1 b c d e f) I μ s w Q) w):Holds none [] prog 18 (.loop (lB (bB (sR (sL (aS (body f106))))))) Q (bU.e1 b c d e f s) w:=
 bC ng mix (bU.e1 b c d e f) I μ bU.k bU.u1 s (fun s Q w=>bU.B1 (s.1) b c d e f (s.2) Q w) (fun s Q w=>bU.b1 (s.1) b c d e f (s.2) Q w) h0 round
end
section
def bU.df(a b:Int)(c:OA)(d e:Nat)(f g:Int)(K:KT)(w:World):Prop:=
 K (.int .i64 b) w
variable(a b:Int)(c:OA)(d e:Nat)(f g:Int)(K:KT)(w:World)
theorem bU.dz:(bU.q1 K (.exit 0) [(2,.int .i64 a),(3,.int .i64 b),(6,.slice c d e),(7,.int .i64 f),(8,.int .i64 g)] w)=bU.df a b c d e f g K w:=by kernel_rfl
end
def dR.k:List Nat:= []
section
variable(a b:Int)(K:KT)(w:World)
def dR.W:Prop:=
 bG prog 139 #[.int .u64 a] w fun d e=>∃f:Bool,d=.bool f/\bG prog 139 #[.int .u64 b] e fun g i=>∃j:Bool,g=.bool j/\Split f (Split j (K (.int .i64 0) i) (K (.int .i64 (-1)) i)) (Split j (K (.int .i64 1) i) (Split (decide (a<b)) (K (.int .i64 (-1)) i) (Split (decide (a>b)) (K (.int .i64 1) i) (K (.int .i64 0) i))))
variable{a b K w}
theorem dR.of(h:dR.W a b K w):bG prog 107 #[.int .u64 a,.int .u64 b] w K:=
 rqq func107 (C:=dR.k) h
end
def dD.k:List Nat:= []
section
variable(a:OA)(b d:AV)(K:KT)(w:World)
def dD.W:Prop:=
 let e:=w.alloc (.cells b 24);let f:=e.alloc (.cells d 24);let g:=f.drew;∃i:AV,(i.size=32/\Cells g (aV w.heap.size) i)/\∃j:AV,(j.size=32/\Cells g (aV e.heap.size) j)/\(ft .u8 32 i/\ft .u8 32 j)/\Split (!(fV i j)) (Is a fun k:Addr=>∃m:OA,g.cell? (k.add 1)=some (.pointer m)/\∃n:AV,(n.size=32/\Cells g (aV w.heap.size) n)/\∃o:AV,(o.size=32/\Cells g (aV e.heap.size) o)/\bG prog 51 #[.pointer m,.agg n,.agg o] g fun p q=>∃r:Bool,p=.bool r/\Split (!r) (Is a fun t:Addr=>∃u:OA,q.cell? (t.add 1)=some (.pointer u)/\∃v:AV,(v.size=32/\Cells q (aV e.heap.size) v)/\∃x:AV,(x.size=32/\Cells q (aV w.heap.size) x)/\bG prog 51 #[.pointer u,.agg v,.agg x] q fun y z=>∃a1:Bool,y=.bool a1/\K (.bool (!a1)) z) (K (.bool false) q)) (K (.bool false) g)
variable{a b d K w}
theorem dD.of(h:dD.W a b d K w):bG prog 113 #[.pointer a,.agg b,.agg d] w K:=
 rqq func113 (C:=dD.k) h
end
def ct.k:List Nat:= []
section
variable(a:AV)(b d e:Addr)(K:KT)(w:World)
def ct.W:Prop:=
 let f:=w.alloc (.cells a 24);let g:=f.drew;∃i:OA,g.cell? b=some (.pointer i)/\Is i fun j:Addr=>∃k:Option Nat,g.cell? (j.add 35)=some (.map k)/\∃m:AV,(m.size=32/\Cells g (aV w.heap.size) m)/\∃n:Int,∃o:Bool,(Instr.lookup 127 (.map k) (.agg m) true).run prog g=.ok (.tuple #[.int .i64 n,.bool o]) g/\Split o (K (.int .i64 n) g) (∃p:OA,g.cell? d=some (.pointer p)/\∃q:AV,(q.size=32/\Cells g e q)/\∃r:AV,(r.size=32/\Cells g (aV w.heap.size) r)/\bG prog 115 #[.pointer p,.agg q,.agg r] g fun t u=>∃v:Int,t=.int .i64 v/\K (.int .i64 v) u)
variable{a b d e K w}
theorem ct.of(h:ct.W a b d e K w):bG prog 114 #[.agg a,.pointer (some b),.pointer (some d),.pointer (some e)] w K:=
 rqq func114 (C:=ct.k) h
end
def cU.k:List Nat:= []
section
variable(a:AV)(b d e:Addr)(K:KT)(w:World)
def cU.W:Prop:=
 let f:=w.alloc (.cells a 24);let g:=f.drew;∃i:Option Nat,g.cell? d=some (.map i)/\∃j:AV,(j.size=32/\Cells g (aV w.heap.size) j)/\∃k:Value,g.cell? b=some (k)/\∃m:AV,(m.size=32/\Cells g (aV w.heap.size) m)/\∃(n:Nat) (o p:AV) (q:Func),(k:Value)=.func (.func n) o p/\prog.funcs[n]? =some q/\q.body.isSome=true/\bG prog n (o.toList++([.agg m]:List Value)++p.toList).toArray g fun r t=>∃u:Int,r=.int .i64 u/\(∃cs:AV,(.agg j:Value)=.agg cs/\cs.size=32/\Cells t (aV w.heap.size) cs)/\t.cell? d=some (.map i)/\∃v:World,(Instr.mapUpdate 127 (.map i) (.agg j) (.int .i64 u)).run prog t=.ok () v/\let x:=v.drew;∃y:Option Nat,x.cell? d=some (.map y)/\∃z:Nat,(Builtin.len_ #[127] 3 #[.map y]).run prog x=.ok (.int .i64 (z:Int)) x/\∃a1:OA,x.cell? e=some (.pointer a1)/\Is a1 fun b1:Addr=>∃c1:Int,x.cell? (b1.add 0)=some (.int .i64 c1)/\Split (decide ((z:Int)<=c1)) (∃d1:Option Nat,x.cell? d=some (.map d1)/\∃e1:AV,(e1.size=32/\Cells x (aV w.heap.size) e1)/\∃f1:Int,(Instr.lookup 127 (.map d1) (.agg e1) false).run prog x=.ok (.int .i64 f1) x/\∃g1:OA,x.cell? e=some (.pointer g1)/\Is g1 fun i1:Addr=>∃j1:Int,x.cell? (i1.add 0)=some (.int .i64 j1)/\K (.bool (decide (f1<j1))) x) (K (.bool false) x)
variable{a b d e K w}
theorem cU.of(h:cU.W a b d e K w):bG prog 116 #[.agg a,.pointer (some b),.pointer (some d),.pointer (some e)] w K:=
 rqq func116 (C:=cU.k) h
end
def dZ.k:List Nat:= []
section
variable(a:OA)(b d:Nat)(K:KT)(w:World)
def dZ.W:Prop:=
 Split ((a).isNone) (K (.slice none 0 0) w) (let e:=w.alloc (.cells #[] 4);∃(f:OA) (g i:Nat) (j:World),(Builtin.append_ #[51,51] 51 #[.slice (some (aV w.heap.size)) 0 0,.slice a b d]).run prog e=.ok (.slice f g i) j/\K (.slice f g i) j)
variable{a b d K w}
theorem dZ.of(h:dZ.W a b d K w):bG prog 121 #[.slice a b d] w K:=
 rqq func121 (C:=dZ.k) h
end
def fN.k:List Nat:= []
section
variable(a:Int)(K:KT)(w:World)
def fN.W:Prop:=
 K (.bool (a != a)) w
variable{a K w}
theorem fN.of(h:fN.W a K w):bG prog 139 #[.int .u64 a] w K:=
 rqq func139 (C:=fN.k) h
end
def bz.k:List Nat:= []
def bz.FD(K:KT):aT:=(aR 0 (cK (aS (body f115))++(aX f115)) (cg (fun cy w_=>match cutAt bz.k (aS (body f115))with|true=>Holds none [] prog 33 (aS (body f115)) (bY prog f115 K) cy w_|false=>bg none [] prog 33 bz.k (aS (body f115)) (aX f115) (bY prog f115 K) cy w_) (bY prog f115 K)))
section
variable(a:OA)(b d:AV)(K:KT)(w:World)
def bz.W:Prop:=
 let e:=w.alloc (.cells (#[.pointer a]:AV) 28);let f:=e.alloc (.cells b 24);let g:=f.alloc (.cells d 24);let i:=g.alloc (.cells (#[.int .i64 0]:AV) 3);let j:=i.drew;∃k:OA,j.cell? (aV w.heap.size)=some (.pointer k)/\Is k fun m:Addr=>∃n:OA,j.cell? (m.add 1)=some (.pointer n)/\∃o:AV,(o.size=32/\Cells j (aV e.heap.size) o)/\bG prog 109 #[.pointer n,.agg o] j fun p q=>∃r:Value,p=r/\Holds none [] prog 33 (bB (sR (sL (sR (body f115))))) (bz.FD K) [(3,.pointer (some (aV w.heap.size))),(5,.pointer (some (aV f.heap.size))),(6,.pointer (some (aV g.heap.size))),(15,r)] q
variable{a b d K w}
theorem bz.of(h:bz.W a b d K w):bG prog 115 #[.pointer a,.agg b,.agg d] w K:=
 rqq func115 (C:=bz.k) h
end
section
def bz.A1(l:Nat)(a b c:Addr)(d:Value)(e:AV)(Q:aT)(w:World):Prop:=
 let f:=w.alloc (.cells zH 24);(e.size=32/\(∀g∈e.toList,g.oneCell'=true)/\∀i,i<32->Wr f ((aV w.heap.size).add i))/\let j:=setCells f (aV w.heap.size) e.toList 0;Q .normal [(3,.pointer (some a)),(5,.pointer (some b)),(6,.pointer (some c)),(7,.pointer (some (aV w.heap.size)))] j
variable(l:Nat)(a b c:Addr)(d:Value)(e:AV)(Q:aT)(w:World)
theorem bz.a1:(bg (some l) [] prog 33 bz.k (rA (bB (sR (sL (sR (body f115)))))) (cK (rB (bB (sR (sL (sR (body f115))))))) Q [(3,.pointer (some a)),(5,.pointer (some b)),(6,.pointer (some c)),(15,d),(16,.agg e)] w)=bz.A1 l a b c d e Q w:=by kernel_rfl
end
section
def bz.Y1(l:Nat)(a b c d:Addr)(Q:aT)(w:World):Prop:=
 let e:=w.drew;∃f:OA,e.cell? a=some (.pointer f)/\Is f fun g:Addr=>∃i:Option Nat,e.cell? (g.add 2)=some (.map i)/\∃j:AV,(j.size=32/\Cells e d j)/\∃k:OA,(Instr.lookup 63 (.map i) (.agg j) false).run prog e=.ok (.pointer k) e/\Is k fun m:Addr=>∃n:Option Nat,e.cell? (m.add 35)=some (.map n)/\∃o:AV,(o.size=32/\Cells e b o)/\∃p:Int,∃q:Bool,(Instr.lookup 127 (.map n) (.agg o) true).run prog e=.ok (.tuple #[.int .i64 p,.bool q]) e/\Split q (Wr e c/\let r:=e.setCell c (.int .i64 p);Q .ret [] r) (Q .normal [] e)
variable(l:Nat)(a b c d:Addr)(Q:aT)(w:World)
theorem bz.y1:(bg (some l) [] prog 33 bz.k (rB (bB (sR (sL (sR (body f115)))))) [] Q [(3,.pointer (some a)),(5,.pointer (some b)),(6,.pointer (some c)),(7,.pointer (some d))] w)=bz.Y1 l a b c d Q w:=by kernel_rfl
end
section
def bz.jW(a b c:Addr)(d:Value)(ms:AV)(K:KT)(w:World):Prop:=
 Wr w c/\let e:=w.setCell c (.int .i64 0);lQ (marksOf (.agg ms)) e/\∃f:Int,(gX (marksOf (.agg ms)) e).cell? c=some (.int .i64 f)/\K (.int .i64 f) (gX (marksOf (.agg ms)) e)
variable(a b c:Addr)(d:Value)(ms:AV)(K:KT)(w:World)
theorem bz.lI:(bz.FD K .normal [(3,.pointer (some a)),(5,.pointer (some b)),(6,.pointer (some c)),(15,d),(4294967296,.agg ms)] w)=bz.jW a b c d ms K w:=by kernel_rfl
end
section
def bz.wI(a b c:Addr)(d:Value)(ms:AV)(K:KT)(w:World):Prop:=
 lQ (marksOf (.agg ms)) w/\∃e:Int,(gX (marksOf (.agg ms)) w).cell? c=some (.int .i64 e)/\K (.int .i64 e) (gX (marksOf (.agg ms)) w)
variable(a b c:Addr)(d:Value)(ms:AV)(K:KT)(w:World)
theorem bz.BZ:(bz.FD K .ret [(3,.pointer (some a)),(5,.pointer (some b)),(6,.pointer (some c)),(15,d),(4294967296,.agg ms)] w)=bz.wI a b c d ms K w:=by kernel_rfl
end
def ag.k:List Nat:= []
def ag.q1(K:KT):aT:=(aR 0 (cK (aS (body f112))++(aX f112)) (cg (fun cy w_=>match cutAt ag.k (aS (body f112))with|true=>Holds none [] prog 90 (aS (body f112)) (bY prog f112 K) cy w_|false=>bg none [] prog 90 ag.k (aS (body f112)) (aX f112) (bY prog f112 K) cy w_) (bY prog f112 K)))
def ag.e1(a b c d e:Addr)(f:OA)(g i:Nat)(j s:Int):Env:= [(3,.pointer (some a)),(4,.pointer (some b)),(5,.pointer (some c)),(6,.pointer (some d)),(7,.pointer (some e)),(14,.slice f g i),(15,.int .i64 j),(16,.int .i64 s)]
def ag.u1:List Nat:= [3,4,5,6,7,14,15,16]
def ag.FD(K:KT):aT:=(aR 2 (cK (aS (sR (body f112)))++(aX f112)) (cg (fun cy w_=>match cutAt ag.k (aS (sR (body f112)))with|true=>Holds none [] prog 90 (aS (sR (body f112))) (bY prog f112 K) cy w_|false=>bg none [] prog 90 ag.k (aS (sR (body f112))) (aX f112) (bY prog f112 K) cy w_) (bY prog f112 K)))
def ag.q2(l:Nat)(Q:aT):aT:=(aR 4 [] (aR 3 [] Q))
def ag.e2(a b c d e:Addr)(f:OA)(g i:Nat)(j s:Int):Env:= [(3,.pointer (some a)),(5,.pointer (some b)),(6,.pointer (some c)),(7,.pointer (some d)),(11,.pointer (some e)),(65,.slice f g i),(66,.int .i64 j),(67,.int .i64 s)]
def ag.u2:List Nat:= [3,5,6,7,11,65,66,67]
section
variable(a:AV)(b:Value)(d e f:Addr)(K:KT)(w:World)
def ag.W:Prop:=
 let g:=w.alloc (.cells a 24);let i:=g.alloc (.cells b.cells 101);let j:=i.alloc (.cells (#[.bool false]:AV) 4);∃k:OA,∃m n:Nat,j.cell? d=some (.slice k m n)/\Holds none [] prog 90 (.loop (lB (bB (sR (sL (sR (body f112))))))) (ag.q1 K) [(3,.pointer (some e)),(4,.pointer (some f)),(5,.pointer (some (aV w.heap.size))),(6,.pointer (some (aV g.heap.size))),(7,.pointer (some (aV i.heap.size))),(14,.slice k m n),(15,.int .i64 (m:Int)),(16,.int .i64 0)] j
variable{a b d e f K w}
theorem ag.of(h:ag.W a b d e f K w):bG prog 112 #[.agg a,b,.pointer (some d),.pointer (some e),.pointer (some f)] w K:=
 rqq func112 (C:=ag.k) h
end
section
variable(a b c d e:Addr)(f:OA)(g i:Nat)(j k:Int)(Q:aT)(w:World)
def ag.B1:Prop:=
 Split (decide (k<j)) ((0<=k/\k<(g:Int))/\Is f fun m:Addr=>∃n:AV,(n.size=32/\Cells w (m.add (k.toNat*32)) n)/\let o:=w.alloc (.cells zH 24);(n.size=32/\(∀p∈n.toList,p.oneCell'=true)/\∀q,q<32->Wr o ((aV w.heap.size).add q))/\let r:=setCells o (aV w.heap.size) n.toList 0;∃t:OA,r.cell? a=some (.pointer t)/\∃u:AV,(u.size=32/\Cells r (aV w.heap.size) u)/\∃v:AV,(v.size=32/\Cells r c v)/\bG prog 113 #[.pointer t,.agg u,.agg v] r fun x y=>∃z:Bool,x=.bool z/\Split z (∃a1:Value,y.cell? d=some (a1)/\∃b1:AV,(b1.size=32/\Cells y (aV w.heap.size) b1)/\∃(c1:Nat) (d1 e1:AV) (f1:Func),(a1:Value)=.func (.func c1) d1 e1/\prog.funcs[c1]? =some f1/\f1.body.isSome=true/\bG prog c1 (d1.toList++([.agg b1]:List Value)++e1.toList).toArray y fun g1 i1=>∃j1:Bool,g1=.bool j1/\Split (!j1) (Wr i1 e/\let k1:=i1.setCell e (.bool false);Q .ret [(3,.pointer (some a)),(4,.pointer (some b)),(5,.pointer (some c)),(6,.pointer (some d)),(7,.pointer (some e)),(14,.slice f g i),(15,.int .i64 j),(16,.int .i64 k)] k1) (Q .normal [(3,.pointer (some a)),(4,.pointer (some b)),(5,.pointer (some c)),(6,.pointer (some d)),(7,.pointer (some e)),(14,.slice f g i),(15,.int .i64 j),(16,.int .i64 (i64.wrap (k+(1:Int))))] i1)) (Q .normal [(3,.pointer (some a)),(4,.pointer (some b)),(5,.pointer (some c)),(6,.pointer (some d)),(7,.pointer (some e)),(14,.slice f g i),(15,.int .i64 j),(16,.int .i64 (i64.wrap (k+(1:Int))))] y)) (Q (.exit 0) [(3,.pointer (some a)),(4,.pointer (some b)),(5,.pointer (some c)),(6,.pointer (some d)),(7,.pointer (some e)),(14,.slice f g i),(15,.int .i64 j),(16,.int .i64 k)] w)
theorem ag.b1:(bg none [] prog 90 ag.k (lB (bB (sR (sL (sR (body f112)))))) ag.u1 Q [(3,.pointer (some a)),(4,.pointer (some b)),(5,.pointer (some c)),(6,.pointer (some d)),(7,.pointer (some e)),(14,.slice f g i),(15,.int .i64 j),(16,.int .i64 k)] w)=ag.B1 a b c d e f g i j k Q w:=by kernel_rfl
variable{a b c d e f g i j}
theorem ag.cJ(I:Int->World->Prop)(μ:Int->World->Nat)(s:Int){Q:aT}{w:World}(h0:I s w)
 (round:∀s w,I s w->ag.B1 a b c d e f g i j s (bW (ag.e1 a b c d e f g i j) I μ s w Q) w):Holds none [] prog 90 (.loop (lB (bB (sR (sL (sR (body f112))))))) Q (ag.e1 a b c d e f g i j s) w:=
 bC ng mix (ag.e1 a b c d e f g i j) I μ ag.k ag.u1 s (fun s Q w=>ag.B1 a b c d e f g i j s Q w) (fun s Q w=>ag.b1 a b c d e f g i j s Q w) h0 round
end
section
def ag.df(a b c d e:Addr)(f:OA)(g i:Nat)(j k:Int)(K:KT)(w:World):Prop:=
 let m:=w.drew;∃n:OA,m.cell? a=some (.pointer n)/\Is n fun o:Addr=>∃p:OA,m.cell? (o.add 1)=some (.pointer p)/\∃q:AV,(q.size=32/\Cells m b q)/\bG prog 109 #[.pointer p,.agg q] m fun r t=>∃u:Value,r=u/\Holds none [] prog 90 (bB (sR (sL (aS (body f112))))) (ag.FD K) [(3,.pointer (some a)),(5,.pointer (some c)),(6,.pointer (some d)),(7,.pointer (some e)),(36,u)] t
variable(a b c d e:Addr)(f:OA)(g i:Nat)(j k:Int)(K:KT)(w:World)
theorem ag.dz:(ag.q1 K (.exit 0) [(3,.pointer (some a)),(4,.pointer (some b)),(5,.pointer (some c)),(6,.pointer (some d)),(7,.pointer (some e)),(14,.slice f g i),(15,.int .i64 j),(16,.int .i64 k)] w)=ag.df a b c d e f g i j k K w:=by kernel_rfl
end
section
def ag.DO(a b c d e:Addr)(f:OA)(g i:Nat)(j k:Int)(K:KT)(w:World):Prop:=
 ∃m:Bool,w.cell? e=some (.bool m)/\K (.bool m) w
variable(a b c d e:Addr)(f:OA)(g i:Nat)(j k:Int)(K:KT)(w:World)
theorem ag.B7:(ag.q1 K .ret [(3,.pointer (some a)),(4,.pointer (some b)),(5,.pointer (some c)),(6,.pointer (some d)),(7,.pointer (some e)),(14,.slice f g i),(15,.int .i64 j),(16,.int .i64 k)] w)=ag.DO a b c d e f g i j k K w:=by kernel_rfl
end
section
def ag.A1(l:Nat)(a b c d:Addr)(e:Value)(f:AV)(Q:aT)(w:World):Prop:=
 let g:=w.alloc (.cells zH 24);(f.size=32/\(∀i∈f.toList,i.oneCell'=true)/\∀j,j<32->Wr g ((aV w.heap.size).add j))/\let k:=setCells g (aV w.heap.size) f.toList 0;Q .normal [(3,.pointer (some a)),(5,.pointer (some b)),(6,.pointer (some c)),(7,.pointer (some d)),(10,.pointer (some (aV w.heap.size)))] k
variable(l:Nat)(a b c d:Addr)(e:Value)(f:AV)(Q:aT)(w:World)
theorem ag.a1:(bg (some l) [] prog 90 ag.k (rA (bB (sR (sL (aS (body f112)))))) (cK (rB (bB (sR (sL (aS (body f112))))))) Q [(3,.pointer (some a)),(5,.pointer (some b)),(6,.pointer (some c)),(7,.pointer (some d)),(36,e),(37,.agg f)] w)=ag.A1 l a b c d e f Q w:=by kernel_rfl
end
section
variable(l:Nat)(a b c d e:Addr)(Q:aT)(w:World)
def ag.Y1:Prop:=
 ∃f:OA,w.cell? a=some (.pointer f)/\∃g:AV,(g.size=32/\Cells w e g)/\∃i:AV,(i.size=32/\Cells w b i)/\bG prog 113 #[.pointer f,.agg g,.agg i] w fun j k=>∃m:Bool,j=.bool m/\Split m (∃n:Value,k.cell? c=some (n)/\∃o:AV,(o.size=32/\Cells k e o)/\∃(p:Nat) (q r:AV) (t:Func),(n:Value)=.func (.func p) q r/\prog.funcs[p]? =some t/\t.body.isSome=true/\bG prog p (q.toList++([.agg o]:List Value)++r.toList).toArray k fun u v=>∃x:Bool,u=.bool x/\Split (!x) (Wr v d/\let y:=v.setCell d (.bool false);Q .ret [(3,.pointer (some a)),(5,.pointer (some b)),(6,.pointer (some c)),(7,.pointer (some d)),(10,.pointer (some e))] y) (let z:=v.drew;∃a1:OA,z.cell? a=some (.pointer a1)/\Is a1 fun b1:Addr=>∃c1:OA,z.cell? (b1.add 1)=some (.pointer c1)/\∃d1:AV,(d1.size=32/\Cells z e d1)/\∃e1:AV,(e1.size=32/\Cells z b e1)/\bG prog 51 #[.pointer c1,.agg d1,.agg e1] z fun f1 g1=>∃i1:Bool,f1=.bool i1/\Split i1 (Wr g1 d/\let j1:=g1.setCell d (.bool true);Q .ret [(3,.pointer (some a)),(5,.pointer (some b)),(6,.pointer (some c)),(7,.pointer (some d)),(10,.pointer (some e))] j1) (let k1:=g1.drew;∃m1:OA,k1.cell? a=some (.pointer m1)/\Is m1 fun n1:Addr=>∃o1:Option Nat,k1.cell? (n1.add 2)=some (.map o1)/\∃p1:AV,(p1.size=32/\Cells k1 e p1)/\∃q1:OA,(Instr.lookup 63 (.map o1) (.agg p1) false).run prog k1=.ok (.pointer q1) k1/\Is q1 fun r1:Addr=>∃t1:AV,(t1.size=35/\Cells k1 (r1.add 0) t1)/\let u1:=k1.alloc (.cells zC 53);(∃cs:AV,(.agg t1:Value)=.agg cs/\cs.size=35/\Cells u1 (r1.add 0) cs)/\(Instr.lookup 63 (.map o1) (.agg p1) false).run prog u1=.ok (.pointer q1) u1/\(∃cs:AV,(.agg p1:Value)=.agg cs/\cs.size=32/\Cells u1 e cs)/\u1.cell? (n1.add 2)=some (.map o1)/\u1.cell? a=some (.pointer m1)/\(t1.size=35/\(∀v1∈t1.toList,v1.oneCell'=true)/\∀x1,x1<35->Wr u1 ((aV k1.heap.size).add x1))/\let y1:=setCells u1 (aV k1.heap.size) t1.toList 0;∃z1:OA,∃a2 b2:Nat,y1.cell? ((aV k1.heap.size).add 33)=some (.slice z1 a2 b2)/\Holds (some l) [] prog 90 (.loop (lB (bB (cH (bB (rB (bB (sR (sL (aS (body f112))))))))))) (ag.q2 l Q) [(3,.pointer (some a)),(5,.pointer (some b)),(6,.pointer (some c)),(7,.pointer (some d)),(11,.pointer (some (aV k1.heap.size))),(65,.slice z1 a2 b2),(66,.int .i64 (a2:Int)),(67,.int .i64 0)] y1))) (let c2:=k.drew;∃d2:OA,c2.cell? a=some (.pointer d2)/\Is d2 fun e2:Addr=>∃f2:OA,c2.cell? (e2.add 1)=some (.pointer f2)/\∃g2:AV,(g2.size=32/\Cells c2 e g2)/\∃i2:AV,(i2.size=32/\Cells c2 b i2)/\bG prog 51 #[.pointer f2,.agg g2,.agg i2] c2 fun j2 k2=>∃m2:Bool,j2=.bool m2/\Split m2 (Wr k2 d/\let n2:=k2.setCell d (.bool true);Q .ret [(3,.pointer (some a)),(5,.pointer (some b)),(6,.pointer (some c)),(7,.pointer (some d)),(10,.pointer (some e))] n2) (let o2:=k2.drew;∃p2:OA,o2.cell? a=some (.pointer p2)/\Is p2 fun q2:Addr=>∃r2:Option Nat,o2.cell? (q2.add 2)=some (.map r2)/\∃t2:AV,(t2.size=32/\Cells o2 e t2)/\∃u2:OA,(Instr.lookup 63 (.map r2) (.agg t2) false).run prog o2=.ok (.pointer u2) o2/\Is u2 fun v2:Addr=>∃x2:AV,(x2.size=35/\Cells o2 (v2.add 0) x2)/\let y2:=o2.alloc (.cells zC 53);(∃cs:AV,(.agg x2:Value)=.agg cs/\cs.size=35/\Cells y2 (v2.add 0) cs)/\(Instr.lookup 63 (.map r2) (.agg t2) false).run prog y2=.ok (.pointer u2) y2/\(∃cs:AV,(.agg t2:Value)=.agg cs/\cs.size=32/\Cells y2 e cs)/\y2.cell? (q2.add 2)=some (.map r2)/\y2.cell? a=some (.pointer p2)/\(x2.size=35/\(∀z2∈x2.toList,z2.oneCell'=true)/\∀a3,a3<35->Wr y2 ((aV o2.heap.size).add a3))/\let b3:=setCells y2 (aV o2.heap.size) x2.toList 0;∃c3:OA,∃d3 e3:Nat,b3.cell? ((aV o2.heap.size).add 33)=some (.slice c3 d3 e3)/\Holds (some l) [] prog 90 (.loop (lB (bB (cH (bB (rB (bB (sR (sL (aS (body f112))))))))))) (ag.q2 l Q) [(3,.pointer (some a)),(5,.pointer (some b)),(6,.pointer (some c)),(7,.pointer (some d)),(11,.pointer (some (aV o2.heap.size))),(65,.slice c3 d3 e3),(66,.int .i64 (d3:Int)),(67,.int .i64 0)] b3))
theorem ag.y1:(bg (some l) [] prog 90 ag.k (rB (bB (sR (sL (aS (body f112)))))) [] Q [(3,.pointer (some a)),(5,.pointer (some b)),(6,.pointer (some c)),(7,.pointer (some d)),(10,.pointer (some e))] w)=ag.Y1 l a b c d e Q w:=by kernel_rfl
end
section
def ag.jW(a b c d:Addr)(e:Value)(ms:AV)(K:KT)(w:World):Prop:=
 Wr w d/\let f:=w.setCell d (.bool true);lQ (marksOf (.agg ms)) f/\∃g:Bool,(gX (marksOf (.agg ms)) f).cell? d=some (.bool g)/\K (.bool g) (gX (marksOf (.agg ms)) f)
variable(a b c d:Addr)(e:Value)(ms:AV)(K:KT)(w:World)
theorem ag.lI:(ag.FD K .normal [(3,.pointer (some a)),(5,.pointer (some b)),(6,.pointer (some c)),(7,.pointer (some d)),(36,e),(4294967296,.agg ms)] w)=ag.jW a b c d e ms K w:=by kernel_rfl
end
section
def ag.wI(a b c d:Addr)(e:Value)(ms:AV)(K:KT)(w:World):Prop:=
 lQ (marksOf (.agg ms)) w/\∃f:Bool,(gX (marksOf (.agg ms)) w).cell? d=some (.bool f)/\K (.bool f) (gX (marksOf (.agg ms)) w)
variable(a b c d:Addr)(e:Value)(ms:AV)(K:KT)(w:World)
theorem ag.BZ:(ag.FD K .ret [(3,.pointer (some a)),(5,.pointer (some b)),(6,.pointer (some c)),(7,.pointer (some d)),(36,e),(4294967296,.agg ms)] w)=ag.wI a b c d e ms K w:=by kernel_rfl
end
section
def ag.B2(l:Nat)(a b c d e:Addr)(f:OA)(g i:Nat)(j k:Int)(Q:aT)(w:World):Prop:=
 Split (decide (k<j)) ((0<=k/\k<(g:Int))/\Is f fun m:Addr=>∃n:AV,(n.size=32/\Cells w (m.add (k.toNat*32)) n)/\let o:=w.alloc (.cells zH 24);(n.size=32/\(∀p∈n.toList,p.oneCell'=true)/\∀q,q<32->Wr o ((aV w.heap.size).add q))/\let r:=setCells o (aV w.heap.size) n.toList 0;∃t:OA,∃u v:Nat,r.cell? (e.add 34)=some (.slice t u v)/\(0<=k/\k<(u:Int))/\Is t fun x:Addr=>∃y:Bool,r.cell? (x.add (k.toNat*1))=some (.bool y)/\Split y (∃z:OA,r.cell? a=some (.pointer z)/\∃a1:AV,(a1.size=32/\Cells r (aV w.heap.size) a1)/\∃b1:AV,(b1.size=32/\Cells r b b1)/\bG prog 113 #[.pointer z,.agg a1,.agg b1] r fun c1 d1=>∃e1:Bool,c1=.bool e1/\Split e1 (∃f1:Value,d1.cell? c=some (f1)/\∃g1:AV,(g1.size=32/\Cells d1 (aV w.heap.size) g1)/\∃(i1:Nat) (j1 k1:AV) (m1:Func),(f1:Value)=.func (.func i1) j1 k1/\prog.funcs[i1]? =some m1/\m1.body.isSome=true/\bG prog i1 (j1.toList++([.agg g1]:List Value)++k1.toList).toArray d1 fun n1 o1=>∃p1:Bool,n1=.bool p1/\Split (!p1) (Wr o1 d/\let q1:=o1.setCell d (.bool false);Q .ret [(3,.pointer (some a)),(5,.pointer (some b)),(6,.pointer (some c)),(7,.pointer (some d)),(11,.pointer (some e)),(65,.slice f g i),(66,.int .i64 j),(67,.int .i64 k)] q1) (Q .normal [(3,.pointer (some a)),(5,.pointer (some b)),(6,.pointer (some c)),(7,.pointer (some d)),(11,.pointer (some e)),(65,.slice f g i),(66,.int .i64 j),(67,.int .i64 (i64.wrap (k+(1:Int))))] o1)) (Q .normal [(3,.pointer (some a)),(5,.pointer (some b)),(6,.pointer (some c)),(7,.pointer (some d)),(11,.pointer (some e)),(65,.slice f g i),(66,.int .i64 j),(67,.int .i64 (i64.wrap (k+(1:Int))))] d1)) (Q .normal [(3,.pointer (some a)),(5,.pointer (some b)),(6,.pointer (some c)),(7,.pointer (some d)),(11,.pointer (some e)),(65,.slice f g i),(66,.int .i64 j),(67,.int .i64 (i64.wrap (k+(1:Int))))] r)) (Q (.exit 4) [(3,.pointer (some a)),(5,.pointer (some b)),(6,.pointer (some c)),(7,.pointer (some d)),(11,.pointer (some e)),(65,.slice f g i),(66,.int .i64 j),(67,.int .i64 k)] w)
variable(l:Nat)(a b c d e:Addr)(f:OA)(g i:Nat)(j k:Int)(Q:aT)(w:World)
theorem ag.b2:(bg (some l) [] prog 90 ag.k (lB (bB (cH (bB (rB (bB (sR (sL (aS (body f112)))))))))) ag.u2 Q [(3,.pointer (some a)),(5,.pointer (some b)),(6,.pointer (some c)),(7,.pointer (some d)),(11,.pointer (some e)),(65,.slice f g i),(66,.int .i64 j),(67,.int .i64 k)] w)=ag.B2 l a b c d e f g i j k Q w:=by kernel_rfl
variable{l a b c d e f g i j}
theorem ag.iB(I:Int->World->Prop)(μ:Int->World->Nat)(s:Int){Q:aT}{w:World}(h0:I s w)
 (round:∀s w,I s w->ag.B2 l a b c d e f g i j s (bW (ag.e2 a b c d e f g i j) I μ s w Q) w):Holds (some l) [] prog 90 (.loop (lB (bB (cH (bB (rB (bB (sR (sL (aS (body f112))))))))))) Q (ag.e2 a b c d e f g i j s) w:=
 bC ng mix (ag.e2 a b c d e f g i j) I μ ag.k ag.u2 s (fun s Q w=>ag.B2 l a b c d e f g i j s Q w) (fun s Q w=>ag.b2 l a b c d e f g i j s Q w) h0 round
end
section
def ag.Xl(l:Nat)(a b c d e:Addr)(f:OA)(g i:Nat)(j k:Int)(Q:aT)(w:World):Prop:=
 Q .normal [] w
variable(l:Nat)(a b c d e:Addr)(f:OA)(g i:Nat)(j k:Int)(Q:aT)(w:World)
theorem ag.Y6:(ag.q2 l Q (.exit 4) [(3,.pointer (some a)),(5,.pointer (some b)),(6,.pointer (some c)),(7,.pointer (some d)),(11,.pointer (some e)),(65,.slice f g i),(66,.int .i64 j),(67,.int .i64 k)] w)=ag.Xl l a b c d e f g i j k Q w:=by kernel_rfl
end
def aw.k:List Nat:= []
def aw.q1(K:KT):aT:=(aR 0 (cK (cH (body f72))++(aX f72)) (cg (fun cy w_=>match cutAt aw.k (cH (body f72))with|true=>Holds none [] prog 33 (cH (body f72)) (bY prog f72 K) cy w_|false=>bg none [] prog 33 aw.k (cH (body f72)) (aX f72) (bY prog f72 K) cy w_) (bY prog f72 K)))
def aw.e1(a:OA)(b c:Nat)(d:OA)(e f:Addr)(s:Int):Env:= [(0,.slice a b c),(1,.func (.func 73) #[.pointer d] #[]),(4,.pointer (some e)),(5,.pointer (some f)),(6,.int .i64 s)]
def aw.u1:List Nat:= [0,1,4,5,6]
section
variable(a:OA)(b d:Nat)(e:OA)(K:KT)(w:World)
def aw.W:Prop:=
 let f:=w.alloc (.cells zH 24);Split (decide ((b:Int)<(1:Int))) (False) ((0<=(0:Int)/\(0:Int)<(b:Int))/\Is a fun g:Addr=>∃i:AV,(i.size=32/\Cells f (g.add ((0:Int).toNat*32)) i)/\let j:=f.alloc (.cells zH 24);(i.size=32/\(∀k∈i.toList,k.oneCell'=true)/\∀m,m<32->Wr j ((aV f.heap.size).add m))/\let n:=setCells j (aV f.heap.size) i.toList 0;Holds none [] prog 33 (.loop (lB (bB (sR (sL (aS (sR (body f72)))))))) (aw.q1 K) [(0,.slice a b d),(1,.func (.func 73) #[.pointer e] #[]),(4,.pointer (some (aV w.heap.size))),(5,.pointer (some (aV f.heap.size))),(6,.int .i64 1)] n)
variable{a b d e K w}
theorem aw.of(h:aw.W a b d e K w):bG prog 72 #[.slice a b d,.func (.func 73) #[.pointer e] #[]] w K:=
 rqq func72 (C:=aw.k) h
end
section
variable(a:OA)(b c:Nat)(d:OA)(e f:Addr)(g:Int)(Q:aT)(w:World)
def aw.B1:Prop:=
 Split (decide (g<(b:Int))) (let i:=w.drew;(0<=g/\g<(b:Int))/\Is a fun j:Addr=>∃k:AV,(k.size=32/\Cells i (j.add (g.toNat*32)) k)/\∃m:AV,(m.size=32/\Cells i f m)/\bG prog 73 #[.pointer d,.agg k,.agg m] i fun n o=>∃p:Int,n=.int .i64 p/\Split (decide (p>(0:Int))) ((0<=g/\g<(b:Int))/\Is a fun q:Addr=>∃r:AV,(r.size=32/\Cells o (q.add (g.toNat*32)) r)/\(r.size=32/\(∀t∈r.toList,t.oneCell'=true)/\∀u,u<32->Wr o (f.add u))/\let v:=setCells o f r.toList 0;Q .normal [(0,.slice a b c),(1,.func (.func 73) #[.pointer d] #[]),(4,.pointer (some e)),(5,.pointer (some f)),(6,.int .i64 (i64.wrap (g+(1:Int))))] v) (Q .normal [(0,.slice a b c),(1,.func (.func 73) #[.pointer d] #[]),(4,.pointer (some e)),(5,.pointer (some f)),(6,.int .i64 (i64.wrap (g+(1:Int))))] o)) (Q (.exit 0) [(0,.slice a b c),(1,.func (.func 73) #[.pointer d] #[]),(4,.pointer (some e)),(5,.pointer (some f)),(6,.int .i64 g)] w)
theorem aw.b1:(bg none [] prog 33 aw.k (lB (bB (sR (sL (aS (sR (body f72))))))) aw.u1 Q [(0,.slice a b c),(1,.func (.func 73) #[.pointer d] #[]),(4,.pointer (some e)),(5,.pointer (some f)),(6,.int .i64 g)] w)=aw.B1 a b c d e f g Q w:=by kernel_rfl
variable{a b c d e f}
theorem aw.cJ(I:Int->World->Prop)(μ:Int->World->Nat)(s:Int){Q:aT}{w:World}(h0:I s w)
 (round:∀s w,I s w->aw.B1 a b c d e f s (bW (aw.e1 a b c d e f) I μ s w Q) w):Holds none [] prog 33 (.loop (lB (bB (sR (sL (aS (sR (body f72)))))))) Q (aw.e1 a b c d e f s) w:=
 bC ng mix (aw.e1 a b c d e f) I μ aw.k aw.u1 s (fun s Q w=>aw.B1 a b c d e f s Q w) (fun s Q w=>aw.b1 a b c d e f s Q w) h0 round
end
section
def aw.df(a:OA)(b c:Nat)(d:OA)(e f:Addr)(g:Int)(K:KT)(w:World):Prop:=
 ∃i:AV,(i.size=32/\Cells w f i)/\(i.size=32/\(∀j∈i.toList,j.oneCell'=true)/\∀k,k<32->Wr w (e.add k))/\let m:=setCells w e i.toList 0;∃n:AV,(n.size=32/\Cells m e n)/\K (.agg n) m
variable(a:OA)(b c:Nat)(d:OA)(e f:Addr)(g:Int)(K:KT)(w:World)
theorem aw.dz:(aw.q1 K (.exit 0) [(0,.slice a b c),(1,.func (.func 73) #[.pointer d] #[]),(4,.pointer (some e)),(5,.pointer (some f)),(6,.int .i64 g)] w)=aw.df a b c d e f g K w:=by kernel_rfl
end
def cC.k:List Nat:= []
section
variable(a:OA)(b d:Nat)(e:Addr)(K:KT)(w:World)
def cC.W:Prop:=
 bG prog 91 #[.slice a b d,.func (.func 105) #[] #[.pointer (some e)]] w fun f g=>∃i:Int,f=.int .i64 i/\K (.bool (decide (i>=(0:Int)))) g
variable{a b d e K w}
theorem cC.of(h:cC.W a b d e K w):bG prog 68 #[.slice a b d,.func (.func 105) #[] #[.pointer (some e)]] w K:=
 rqq func68 (C:=cC.k) h
end
def au.k:List Nat:= []
def au.q1(K:KT):aT:=(aR 0 (cK (aS (body f91))++(aX f91)) (cg (fun cy w_=>match cutAt au.k (aS (body f91))with|true=>Holds none [] prog 19 (aS (body f91)) (bY prog f91 K) cy w_|false=>bg none [] prog 19 au.k (aS (body f91)) (aX f91) (bY prog f91 K) cy w_) (bY prog f91 K)))
def au.e1(a:OA)(b c:Nat)(d:Addr)(e:Int)(s:Int×Int):Env:= [(0,.slice a b c),(1,.func (.func 105) #[] #[.pointer (some d)]),(4,.int .i64 s.1),(7,.int .i64 e),(8,.int .i64 s.2)]
def au.u1:List Nat:= [0,1,4,7,8]
section
variable(a:OA)(b d:Nat)(e:Addr)(K:KT)(w:World)
def au.W:Prop:=
 Holds none [] prog 19 (.loop (lB (bB (sR (sL (sR (body f91))))))) (au.q1 K) [(0,.slice a b d),(1,.func (.func 105) #[] #[.pointer (some e)]),(4,.int .i64 0),(7,.int .i64 (b:Int)),(8,.int .i64 0)] w
variable{a b d e K w}
theorem au.of(h:au.W a b d e K w):bG prog 91 #[.slice a b d,.func (.func 105) #[] #[.pointer (some e)]] w K:=
 rqq func91 (C:=au.k) h
end
section
variable(a:OA)(b c:Nat)(d:Addr)(e f g:Int)(Q:aT)(w:World)
def au.B1:Prop:=
 Split (decide (g<f)) ((0<=g/\g<(b:Int))/\Is a fun i:Addr=>∃j:AV,(j.size=32/\Cells w (i.add (g.toNat*32)) j)/\bG prog 105 #[.agg j,.pointer (some d)] w fun k m=>∃n:Bool,k=.bool n/\Split n (Q .ret [(0,.slice a b c),(1,.func (.func 105) #[] #[.pointer (some d)]),(4,.int .i64 g),(7,.int .i64 f),(8,.int .i64 g)] m) (Q .normal [(0,.slice a b c),(1,.func (.func 105) #[] #[.pointer (some d)]),(4,.int .i64 e),(7,.int .i64 f),(8,.int .i64 (i64.wrap (g+(1:Int))))] m)) (Q (.exit 0) [(0,.slice a b c),(1,.func (.func 105) #[] #[.pointer (some d)]),(4,.int .i64 e),(7,.int .i64 f),(8,.int .i64 g)] w)
theorem au.b1:(bg none [] prog 19 au.k (lB (bB (sR (sL (sR (body f91)))))) au.u1 Q [(0,.slice a b c),(1,.func (.func 105) #[] #[.pointer (some d)]),(4,.int .i64 e),(7,.int .i64 f),(8,.int .i64 g)] w)=au.B1 a b c d e f g Q w:=by kernel_rfl
variable{a b c d f}
theorem au.cJ(I:Int×Int->World->Prop)(μ:Int×Int->World->Nat)(s:Int×Int){Q:aT}{w:World}(h0:I s w)
 (round:∀s w,I s w->au.B1 a b c d (s.1) f (s.2) (bW (au.e1 a b c d f) I μ s w Q) w):Holds none [] prog 19 (.loop (lB (bB (sR (sL (sR (body f91))))))) Q (au.e1 a b c d f s) w:=
 bC ng mix (au.e1 a b c d f) I μ au.k au.u1 s (fun s Q w=>au.B1 a b c d (s.1) f (s.2) Q w) (fun s Q w=>au.b1 a b c d (s.1) f (s.2) Q w) h0 round
end
section
def au.df(a:OA)(b c:Nat)(d:Addr)(e f g:Int)(K:KT)(w:World):Prop:=
 K (.int .i64 (-1)) w
variable(a:OA)(b c:Nat)(d:Addr)(e f g:Int)(K:KT)(w:World)
theorem au.dz:(au.q1 K (.exit 0) [(0,.slice a b c),(1,.func (.func 105) #[] #[.pointer (some d)]),(4,.int .i64 e),(7,.int .i64 f),(8,.int .i64 g)] w)=au.df a b c d e f g K w:=by kernel_rfl
end
def af.k:List Nat:= [2,3]
def af.q1(K:KT):aT:=(aR 0 (cK (cH (sR (body f19)))++(aX f19)) (cg (fun cy w_=>match cutAt af.k (cH (sR (body f19)))with|true=>Holds none [] prog 179 (cH (sR (body f19))) (bY prog f19 K) cy w_|false=>bg none [] prog 179 af.k (cH (sR (body f19))) (aX f19) (bY prog f19 K) cy w_) (bY prog f19 K)))
def af.e1(a:OA)(b c:Addr)(d:OA)(e f:Nat)(g:Addr)(i:OA)(j k:Nat)(m:OA)(n o:Nat)(s:Int):Env:= [(0,.pointer a),(4,.pointer (some b)),(6,.pointer (some c)),(7,.slice d e f),(8,.pointer (some g)),(9,.slice i j k),(10,.slice m n o),(11,.int .i64 s)]
def af.u1:List Nat:= [0,4,6,7,8,9,10,11]
def af.q2(Q:aT):aT:=(aR 2 (cK (cH (bB (sL (sR (lB (bB (sR (sL (cH (body f19))))))))))++(cK (aS (lB (bB (sR (sL (cH (body f19)))))))++af.u1)) (cg (fun cy w_=>match cutAt af.k (cH (bB (sL (sR (lB (bB (sR (sL (cH (body f19))))))))))with|true=>Holds none [] prog 179 (cH (bB (sL (sR (lB (bB (sR (sL (cH (body f19)))))))))) (aR 1 (cK (aS (lB (bB (sR (sL (cH (body f19)))))))++af.u1) (cg (fun cy w_=>match cutAt af.k (aS (lB (bB (sR (sL (cH (body f19)))))))with|true=>Holds none [] prog 179 (aS (lB (bB (sR (sL (cH (body f19))))))) Q cy w_|false=>bg none [] prog 179 af.k (aS (lB (bB (sR (sL (cH (body f19))))))) af.u1 Q cy w_) Q)) cy w_|false=>bg none [] prog 179 af.k (cH (bB (sL (sR (lB (bB (sR (sL (cH (body f19)))))))))) (cK (aS (lB (bB (sR (sL (cH (body f19)))))))++af.u1) (aR 1 (cK (aS (lB (bB (sR (sL (cH (body f19)))))))++af.u1) (cg (fun cy w_=>match cutAt af.k (aS (lB (bB (sR (sL (cH (body f19)))))))with|true=>Holds none [] prog 179 (aS (lB (bB (sR (sL (cH (body f19))))))) Q cy w_|false=>bg none [] prog 179 af.k (aS (lB (bB (sR (sL (cH (body f19))))))) af.u1 Q cy w_) Q)) cy w_) (aR 1 (cK (aS (lB (bB (sR (sL (cH (body f19)))))))++af.u1) (cg (fun cy w_=>match cutAt af.k (aS (lB (bB (sR (sL (cH (body f19)))))))with|true=>Holds none [] prog 179 (aS (lB (bB (sR (sL (cH (body f19))))))) Q cy w_|false=>bg none [] prog 179 af.k (aS (lB (bB (sR (sL (cH (body f19))))))) af.u1 Q cy w_) Q))))
def af.e2(a:OA)(b c:Addr)(d:OA)(e f:Nat)(g:Addr)(i:OA)(j k:Nat)(m:OA)(n o:Nat)(p:Int)(q:Addr)(s:Int):Env:= [(0,.pointer a),(4,.pointer (some b)),(6,.pointer (some c)),(7,.slice d e f),(8,.pointer (some g)),(9,.slice i j k),(10,.slice m n o),(11,.int .i64 p),(12,.pointer (some q)),(13,.int .i64 s)]
def af.u2:List Nat:= [0,4,6,7,8,9,10,11,12,13]
def af.q3(K:KT):aT:=(aR 4 (cK (cH (aS (body f19)))++(aX f19)) (cg (fun cy w_=>match cutAt af.k (cH (aS (body f19)))with|true=>Holds none [] prog 179 (cH (aS (body f19))) (bY prog f19 K) cy w_|false=>bg none [] prog 179 af.k (cH (aS (body f19))) (aX f19) (bY prog f19 K) cy w_) (bY prog f19 K)))
def af.e3(a:OA)(b:Addr)(c:OA)(d e:Nat)(f:Addr)(s:(OA)×Nat×Nat×Int):Env:= [(0,.pointer a),(6,.pointer (some b)),(7,.slice c d e),(8,.pointer (some f)),(9,.slice s.1 s.2.1 s.2.2.1),(15,.int .i64 s.2.2.2)]
def af.u3:List Nat:= [0,6,7,8,9,15]
def af.q4(Q:aT):aT:=(aR 6 (cK (aS (sR (bB (sL (sR (lB (bB (sR (sL (cH (sR (body f19))))))))))))++(cK (aS (lB (bB (sR (sL (cH (sR (body f19))))))))++af.u3)) (cg (fun cy w_=>match cutAt af.k (aS (sR (bB (sL (sR (lB (bB (sR (sL (cH (sR (body f19))))))))))))with|true=>Holds none [] prog 179 (aS (sR (bB (sL (sR (lB (bB (sR (sL (cH (sR (body f19)))))))))))) (aR 5 (cK (aS (lB (bB (sR (sL (cH (sR (body f19))))))))++af.u3) (cg (fun cy w_=>match cutAt af.k (aS (lB (bB (sR (sL (cH (sR (body f19))))))))with|true=>Holds none [] prog 179 (aS (lB (bB (sR (sL (cH (sR (body f19)))))))) Q cy w_|false=>bg none [] prog 179 af.k (aS (lB (bB (sR (sL (cH (sR (body f19)))))))) af.u3 Q cy w_) Q)) cy w_|false=>bg none [] prog 179 af.k (aS (sR (bB (sL (sR (lB (bB (sR (sL (cH (sR (body f19)))))))))))) (cK (aS (lB (bB (sR (sL (cH (sR (body f19))))))))++af.u3) (aR 5 (cK (aS (lB (bB (sR (sL (cH (sR (body f19))))))))++af.u3) (cg (fun cy w_=>match cutAt af.k (aS (lB (bB (sR (sL (cH (sR (body f19))))))))with|true=>Holds none [] prog 179 (aS (lB (bB (sR (sL (cH (sR (body f19)))))))) Q cy w_|false=>bg none [] prog 179 af.k (aS (lB (bB (sR (sL (cH (sR (body f19)))))))) af.u3 Q cy w_) Q)) cy w_) (aR 5 (cK (aS (lB (bB (sR (sL (cH (sR (body f19))))))))++af.u3) (cg (fun cy w_=>match cutAt af.k (aS (lB (bB (sR (sL (cH (sR (body f19))))))))with|true=>Holds none [] prog 179 (aS (lB (bB (sR (sL (cH (sR (body f19)))))))) Q cy w_|false=>bg none [] prog 179 af.k (aS (lB (bB (sR (sL (cH (sR (body f19)))))))) af.u3 Q cy w_) Q))))
def af.e4(a:OA)(b:Addr)(c:OA)(d e:Nat)(f:Addr)(g:OA)(i j:Nat)(k:Int)(m:OA)(n o:Nat)(s:Bool×Int):Env:= [(0,.pointer a),(6,.pointer (some b)),(7,.slice c d e),(8,.pointer (some f)),(9,.slice g i j),(15,.int .i64 k),(16,.slice m n o),(17,.bool s.1),(18,.int .i64 s.2)]
def af.u4:List Nat:= [0,6,7,8,9,15,16,17,18]
section
variable(a:OA)(b:AV)(d:OA)(e f:Nat)(K:KT)(w:World)
def af.W:Prop:=
 let g:=w.alloc (.cells b 24);let i:=g.alloc (.cells zC 53);let j:=i.drew;∃k:AV,(k.size=32/\Cells j (aV w.heap.size) k)/\∃m:AV,(m.size=32/\Cells j (aV w.heap.size) m)/\(bG prog 60 #[.pointer a,.agg m] j fun n o=>∃p:Int,n=.int .u64 p/\(∃cs:AV,(.agg k:Value)=.agg cs/\cs.size=32/\Cells o (aV w.heap.size) cs)/\Is (prog.built 53 [(0,.agg k),(1,.int .u64 (u64.wrap (p+(1:Int))))]) fun q:AV=>let r:=o.alloc (.cells zC 53);(∃cs:AV,(.agg k:Value)=.agg cs/\cs.size=32/\Cells r (aV w.heap.size) cs)/\(q.size=35/\(∀t∈q.toList,t.oneCell'=true)/\∀u,u<35->Wr r ((aV o.heap.size).add u))/\let v:=setCells r (aV o.heap.size) q.toList 0;Holds none [] prog 179 (aS (body f19)) (bY prog f19 K) [(0,.pointer a),(2,.slice d e f),(4,.pointer (some (aV w.heap.size))),(6,.pointer (some (aV g.heap.size))),(7,.slice none 0 0),(8,.pointer (some (aV o.heap.size)))] v)/\(let x:=j.alloc (.cells zC 53);(∃cs:AV,(.agg m:Value)=.agg cs/\cs.size=32/\Cells x (aV w.heap.size) cs)/\(∃cs:AV,(.agg k:Value)=.agg cs/\cs.size=32/\Cells x (aV w.heap.size) cs)/\bG prog 60 #[.pointer a,.agg m] x fun y z=>∃a1:Int,y=.int .u64 a1/\(∃cs:AV,(.agg k:Value)=.agg cs/\cs.size=32/\Cells z (aV w.heap.size) cs)/\Is (prog.built 53 [(0,.agg k),(1,.int .u64 (u64.wrap (a1+(1:Int))))]) fun b1:AV=>(b1.size=35/\(∀c1∈b1.toList,c1.oneCell'=true)/\∀d1,d1<35->Wr z ((aV j.heap.size).add d1))/\let e1:=setCells z (aV j.heap.size) b1.toList 0;Holds none [] prog 179 (aS (body f19)) (bY prog f19 K) [(0,.pointer a),(2,.slice d e f),(4,.pointer (some (aV w.heap.size))),(6,.pointer (some (aV g.heap.size))),(7,.slice none 0 0),(8,.pointer (some (aV j.heap.size)))] e1)
variable{a b d e f K w}
theorem af.of(h:af.W a b d e f K w):bG prog 19 #[.pointer a,.agg b,.slice d e f] w K:=
 rqq func19 (C:=af.k) h
end
section
variable(a b:OA)(c d:Nat)(e f:Addr)(g:OA)(i j:Nat)(k:Addr)(K:KT)(w:World)
def af.J1:Prop:=
 let m:=w.drew;Is a fun n:Addr=>∃o:OA,∃p q:Nat,m.cell? (n.add 3)=some (.slice o p q)/\Is a fun r:Addr=>∃t:OA,m.cell? (r.add 1)=some (.pointer t)/\Is t fun u:Addr=>∃v:AV,(v.size=32/\Cells m e v)/\∃x:AV,(x.size=32/\Cells m e x)/\(bG prog 16 #[.pointer (some (u.add 0)),.agg v] m fun y z=>∃a1:Int,y=.int .i64 a1/\(∃cs:AV,(.agg x:Value)=.agg cs/\cs.size=32/\Cells z e cs)/\z.cell? (n.add 3)=some (.slice o p q)/\(0<=a1/\a1<(p:Int))/\Is o fun b1:Addr=>∃c1:OA,∃d1 e1:Nat,z.cell? (b1.add (a1.toNat*1))=some (.slice c1 d1 e1)/\(∃(f1:OA) (g1 i1:Nat) (j1:World),(Builtin.append_ #[33,33] 33 #[.slice none 0 0,.slice c1 d1 e1]).run prog z=.ok (.slice f1 g1 i1) j1/\(∃cs:AV,(.agg x:Value)=.agg cs/\cs.size=32/\Cells j1 e cs)/\x.size=32/\let k1:=j1.alloc (.cells (x.toList++ []).toArray 24);∃(m1:OA) (n1 o1:Nat) (p1:World),(Builtin.append_ #[33,33] 33 #[.slice f1 g1 i1,.slice (some (aV j1.heap.size)) 1 1]).run prog k1=.ok (.slice m1 n1 o1) p1/\Holds none [] prog 179 (aS (sR (body f19))) (bY prog f19 K) [(0,.pointer a),(2,.slice b c d),(4,.pointer (some e)),(6,.pointer (some f)),(7,.slice g i j),(8,.pointer (some k)),(9,.slice m1 n1 o1)] p1)/\(x.size=32/\let q1:=z.alloc (.cells (x.toList++ []).toArray 24);q1.cell? (b1.add (a1.toNat*1))=some (.slice c1 d1 e1)/\q1.cell? (n.add 3)=some (.slice o p q)/\∃(r1:OA) (t1 u1:Nat) (v1:World),(Builtin.append_ #[33,33] 33 #[.slice none 0 0,.slice c1 d1 e1]).run prog q1=.ok (.slice r1 t1 u1) v1/\∃(x1:OA) (y1 z1:Nat) (a2:World),(Builtin.append_ #[33,33] 33 #[.slice r1 t1 u1,.slice (some (aV z.heap.size)) 1 1]).run prog v1=.ok (.slice x1 y1 z1) a2/\Holds none [] prog 179 (aS (sR (body f19))) (bY prog f19 K) [(0,.pointer a),(2,.slice b c d),(4,.pointer (some e)),(6,.pointer (some f)),(7,.slice g i j),(8,.pointer (some k)),(9,.slice x1 y1 z1)] a2))/\(x.size=32/\let b2:=m.alloc (.cells (x.toList++ []).toArray 24);(∃cs:AV,(.agg v:Value)=.agg cs/\cs.size=32/\Cells b2 e cs)/\b2.cell? (r.add 1)=some (.pointer t)/\b2.cell? (n.add 3)=some (.slice o p q)/\bG prog 16 #[.pointer (some (u.add 0)),.agg v] b2 fun c2 d2=>∃e2:Int,c2=.int .i64 e2/\d2.cell? (n.add 3)=some (.slice o p q)/\(0<=e2/\e2<(p:Int))/\Is o fun f2:Addr=>∃g2:OA,∃i2 j2:Nat,d2.cell? (f2.add (e2.toNat*1))=some (.slice g2 i2 j2)/\∃(k2:OA) (m2 n2:Nat) (o2:World),(Builtin.append_ #[33,33] 33 #[.slice none 0 0,.slice g2 i2 j2]).run prog d2=.ok (.slice k2 m2 n2) o2/\∃(p2:OA) (q2 r2:Nat) (t2:World),(Builtin.append_ #[33,33] 33 #[.slice k2 m2 n2,.slice (some (aV m.heap.size)) 1 1]).run prog o2=.ok (.slice p2 q2 r2) t2/\Holds none [] prog 179 (aS (sR (body f19))) (bY prog f19 K) [(0,.pointer a),(2,.slice b c d),(4,.pointer (some e)),(6,.pointer (some f)),(7,.slice g i j),(8,.pointer (some k)),(9,.slice p2 q2 r2)] t2)
theorem af.j1:(bg none [] prog 179 af.k (aS (body f19)) (aX f19) (bY prog f19 K) [(0,.pointer a),(2,.slice b c d),(4,.pointer (some e)),(6,.pointer (some f)),(7,.slice g i j),(8,.pointer (some k))] w)=af.J1 a b c d e f g i j k K w:=by kernel_rfl
variable{a b c d e f g i j k K w}
theorem af.kW(h:af.J1 a b c d e f g i j k K w):Holds none [] prog 179 (aS (body f19)) (bY prog f19 K) [(0,.pointer a),(2,.slice b c d),(4,.pointer (some e)),(6,.pointer (some f)),(7,.slice g i j),(8,.pointer (some k))] w:=
 dh (C:=af.k) ng mix (af.j1 a b c d e f g i j k K w) h
end
section
variable(a b:OA)(c d:Nat)(e f:Addr)(g:OA)(i j:Nat)(k:Addr)(m:OA)(n o:Nat)(K:KT)(w:World)
def af.J2:Prop:=
 Is a fun p:Addr=>∃q:OA,w.cell? (p.add 1)=some (.pointer q)/\Is q fun r:Addr=>bG prog 26 #[.pointer (some (r.add 0)),.slice b c d] w fun t u=>∃v:OA,∃x y:Nat,t=.slice v x y/\∃(z:OA) (a1 b1:Nat) (c1:World),(Builtin.append_ #[33,33] 33 #[.slice v x y,.slice b c d]).run prog u=.ok (.slice z a1 b1) c1/\bG prog 27 #[.slice z a1 b1] c1 fun d1 e1=>∃f1:OA,∃g1 i1:Nat,d1=.slice f1 g1 i1/\Holds none [] prog 179 (.loop (lB (bB (sR (sL (cH (body f19))))))) (af.q1 K) [(0,.pointer a),(4,.pointer (some e)),(6,.pointer (some f)),(7,.slice g i j),(8,.pointer (some k)),(9,.slice m n o),(10,.slice f1 g1 i1),(11,.int .i64 0)] e1
theorem af.j2:(bg none [] prog 179 af.k (aS (sR (body f19))) (aX f19) (bY prog f19 K) [(0,.pointer a),(2,.slice b c d),(4,.pointer (some e)),(6,.pointer (some f)),(7,.slice g i j),(8,.pointer (some k)),(9,.slice m n o)] w)=af.J2 a b c d e f g i j k m n o K w:=by kernel_rfl
variable{a b c d e f g i j k m n o K w}
theorem af.qV(h:af.J2 a b c d e f g i j k m n o K w):Holds none [] prog 179 (aS (sR (body f19))) (bY prog f19 K) [(0,.pointer a),(2,.slice b c d),(4,.pointer (some e)),(6,.pointer (some f)),(7,.slice g i j),(8,.pointer (some k)),(9,.slice m n o)] w:=
 dh (C:=af.k) ng mix (af.j2 a b c d e f g i j k m n o K w) h
end
section
variable(a:OA)(b c:Addr)(d:OA)(e f:Nat)(g:Addr)(i:OA)(j k:Nat)(m:OA)(n o:Nat)(p:Int)(Q:aT)(w:World)
def af.B1:Prop:=
 Split (decide (p<(n:Int))) ((0<=p/\p<(n:Int))/\Is m fun q:Addr=>∃r:AV,(r.size=32/\Cells w (q.add (p.toNat*32)) r)/\let t:=w.alloc (.cells zH 24);(r.size=32/\(∀u∈r.toList,u.oneCell'=true)/\∀v,v<32->Wr t ((aV w.heap.size).add v))/\let x:=setCells t (aV w.heap.size) r.toList 0;let y:=x.drew;∃z:AV,(z.size=32/\Cells y (aV w.heap.size) z)/\∃a1:AV,(a1.size=32/\Cells y b a1)/\(ft .u8 32 z/\ft .u8 32 a1)/\Split (fV z a1) (Q .normal [(0,.pointer a),(4,.pointer (some b)),(6,.pointer (some c)),(7,.slice d e f),(8,.pointer (some g)),(9,.slice i j k),(10,.slice m n o),(11,.int .i64 (i64.wrap (p+(1:Int))))] y) (Is a fun b1:Addr=>∃c1:OA,y.cell? (b1.add 1)=some (.pointer c1)/\Is c1 fun d1:Addr=>∃e1:AV,(e1.size=32/\Cells y (aV w.heap.size) e1)/\∃f1:AV,(f1.size=32/\Cells y b f1)/\bG prog 28 #[.pointer (some (d1.add 0)),.agg e1,.agg f1] y fun g1 i1=>∃j1:Bool,g1=.bool j1/\Split j1 (Q .normal [(0,.pointer a),(4,.pointer (some b)),(6,.pointer (some c)),(7,.slice d e f),(8,.pointer (some g)),(9,.slice i j k),(10,.slice m n o),(11,.int .i64 (i64.wrap (p+(1:Int))))] i1) (∃k1:OA,∃m1 n1:Nat,i1.cell? (g.add 33)=some (.slice k1 m1 n1)/\Holds none [] prog 179 (.loop (lB (bB (sL (aS (sR (bB (sL (sR (lB (bB (sR (sL (cH (body f19))))))))))))))) (af.q2 Q) [(0,.pointer a),(4,.pointer (some b)),(6,.pointer (some c)),(7,.slice d e f),(8,.pointer (some g)),(9,.slice i j k),(10,.slice m n o),(11,.int .i64 p),(12,.pointer (some (aV w.heap.size))),(13,.int .i64 (m1:Int))] i1))) (Q (.exit 0) [(0,.pointer a),(4,.pointer (some b)),(6,.pointer (some c)),(7,.slice d e f),(8,.pointer (some g)),(9,.slice i j k),(10,.slice m n o),(11,.int .i64 p)] w)
theorem af.b1:(bg none [] prog 179 af.k (lB (bB (sR (sL (cH (body f19)))))) af.u1 Q [(0,.pointer a),(4,.pointer (some b)),(6,.pointer (some c)),(7,.slice d e f),(8,.pointer (some g)),(9,.slice i j k),(10,.slice m n o),(11,.int .i64 p)] w)=af.B1 a b c d e f g i j k m n o p Q w:=by kernel_rfl
variable{a b c d e f g i j k m n o}
theorem af.cJ(I:Int->World->Prop)(μ:Int->World->Nat)(s:Int){Q:aT}{w:World}(h0:I s w)
 (round:∀s w,I s w->af.B1 a b c d e f g i j k m n o s (bW (af.e1 a b c d e f g i j k m n o) I μ s w Q) w):Holds none [] prog 179 (.loop (lB (bB (sR (sL (cH (body f19))))))) Q (af.e1 a b c d e f g i j k m n o s) w:=
 bC ng mix (af.e1 a b c d e f g i j k m n o) I μ af.k af.u1 s (fun s Q w=>af.B1 a b c d e f g i j k m n o s Q w) (fun s Q w=>af.b1 a b c d e f g i j k m n o s Q w) h0 round
end
section
def af.df(a:OA)(b c:Addr)(d:OA)(e f:Nat)(g:Addr)(i:OA)(j k:Nat)(m:OA)(n o:Nat)(p:Int)(K:KT)(w:World):Prop:=
 Holds none [] prog 179 (.loop (lB (bB (sR (sL (cH (sR (body f19)))))))) (af.q3 K) [(0,.pointer a),(6,.pointer (some c)),(7,.slice d e f),(8,.pointer (some g)),(9,.slice i j k),(15,.int .i64 0)] w
variable(a:OA)(b c:Addr)(d:OA)(e f:Nat)(g:Addr)(i:OA)(j k:Nat)(m:OA)(n o:Nat)(p:Int)(K:KT)(w:World)
theorem af.dz:(af.q1 K (.exit 0) [(0,.pointer a),(4,.pointer (some b)),(6,.pointer (some c)),(7,.slice d e f),(8,.pointer (some g)),(9,.slice i j k),(10,.slice m n o),(11,.int .i64 p)] w)=af.df a b c d e f g i j k m n o p K w:=by kernel_rfl
end
section
variable(a:OA)(b c:Addr)(d:OA)(e f:Nat)(g:Addr)(i:OA)(j k:Nat)(m:OA)(n o:Nat)(p:Int)(q:Addr)(r:Int)(Q:aT)(w:World)
def af.B2:Prop:=
 let t:=w.drew;Split (decide (r>(0:Int))) (∃u:AV,(u.size=32/\Cells t q u)/\∃v:OA,∃x y:Nat,t.cell? (g.add 33)=some (.slice v x y)/\(0<=(i64.wrap (r-(1:Int)))/\(i64.wrap (r-(1:Int)))<(x:Int))/\Is v fun z:Addr=>∃a1:AV,(a1.size=32/\Cells t (z.add ((i64.wrap (r-(1:Int))).toNat*32)) a1)/\bG prog 59 #[.pointer a,.agg u,.agg a1] t fun b1 c1=>∃d1:Bool,b1=.bool d1/\Split d1 (Q .normal [(0,.pointer a),(4,.pointer (some b)),(6,.pointer (some c)),(7,.slice d e f),(8,.pointer (some g)),(9,.slice i j k),(10,.slice m n o),(11,.int .i64 p),(12,.pointer (some q)),(13,.int .i64 (i64.wrap (r-(1:Int))))] c1) (Q (.exit 2) [(0,.pointer a),(4,.pointer (some b)),(6,.pointer (some c)),(7,.slice d e f),(8,.pointer (some g)),(9,.slice i j k),(10,.slice m n o),(11,.int .i64 p),(12,.pointer (some q)),(13,.int .i64 r)] c1)) (Q (.exit 2) [(0,.pointer a),(4,.pointer (some b)),(6,.pointer (some c)),(7,.slice d e f),(8,.pointer (some g)),(9,.slice i j k),(10,.slice m n o),(11,.int .i64 p),(12,.pointer (some q)),(13,.int .i64 r)] t)
theorem af.b2:(bg none [] prog 179 af.k (lB (bB (sL (aS (sR (bB (sL (sR (lB (bB (sR (sL (cH (body f19)))))))))))))) af.u2 Q [(0,.pointer a),(4,.pointer (some b)),(6,.pointer (some c)),(7,.slice d e f),(8,.pointer (some g)),(9,.slice i j k),(10,.slice m n o),(11,.int .i64 p),(12,.pointer (some q)),(13,.int .i64 r)] w)=af.B2 a b c d e f g i j k m n o p q r Q w:=by kernel_rfl
variable{a b c d e f g i j k m n o p q}
theorem af.iB(I:Int->World->Prop)(μ:Int->World->Nat)(s:Int){Q:aT}{w:World}(h0:I s w)
 (round:∀s w,I s w->af.B2 a b c d e f g i j k m n o p q s (bW (af.e2 a b c d e f g i j k m n o p q) I μ s w Q) w):Holds none [] prog 179 (.loop (lB (bB (sL (aS (sR (bB (sL (sR (lB (bB (sR (sL (cH (body f19))))))))))))))) Q (af.e2 a b c d e f g i j k m n o p q s) w:=
 bC ng mix (af.e2 a b c d e f g i j k m n o p q) I μ af.k af.u2 s (fun s Q w=>af.B2 a b c d e f g i j k m n o p q s Q w) (fun s Q w=>af.b2 a b c d e f g i j k m n o p q s Q w) h0 round
end
section
variable(a:OA)(b c:Addr)(d:OA)(e f:Nat)(g:Addr)(i:OA)(j k:Nat)(m:OA)(n o:Nat)(p:Int)(q:Addr)(r:Int)(Q:aT)(w:World)
def af.jh:Prop:=
 ∃t:OA,∃u v:Nat,w.cell? (g.add 33)=some (.slice t u v)/\(0<=r/\r<=(v:Int))/\∃(x:OA) (y z:Nat) (a1:World),(Builtin.append_ #[33,33] 33 #[.slice none 0 0,.slice (if v=0 then t else t.map (·.add (0*32))) (r.toNat-0) (v-0)]).run prog w=.ok (.slice x y z) a1/\∃b1:AV,(b1.size=32/\Cells a1 q b1)/\b1.size=32/\let c1:=a1.alloc (.cells (b1.toList++ []).toArray 24);∃(d1:OA) (e1 f1:Nat) (g1:World),(Builtin.append_ #[33,33] 33 #[.slice x y z,.slice (some (aV a1.heap.size)) 1 1]).run prog c1=.ok (.slice d1 e1 f1) g1/\∃i1:OA,∃j1 k1:Nat,g1.cell? (g.add 33)=some (.slice i1 j1 k1)/\(0<=r/\r<=(j1:Int))/\∃(m1:OA) (n1 o1:Nat) (p1:World),(Builtin.append_ #[33,33] 33 #[.slice d1 e1 f1,.slice (if k1=r.toNat then i1 else i1.map (·.add (r.toNat*32))) (j1-r.toNat) (k1-r.toNat)]).run prog g1=.ok (.slice m1 n1 o1) p1/\Wr p1 (g.add 33)/\let q1:=p1.setCell (g.add 33) (.slice m1 n1 o1);Q .normal [(0,.pointer a),(4,.pointer (some b)),(6,.pointer (some c)),(7,.slice d e f),(8,.pointer (some g)),(9,.slice i j k),(10,.slice m n o),(11,.int .i64 (i64.wrap (p+(1:Int))))] q1
theorem af.ki:(af.q2 Q (.exit 2) [(0,.pointer a),(4,.pointer (some b)),(6,.pointer (some c)),(7,.slice d e f),(8,.pointer (some g)),(9,.slice i j k),(10,.slice m n o),(11,.int .i64 p),(12,.pointer (some q)),(13,.int .i64 r)] w)=af.jh a b c d e f g i j k m n o p q r Q w:=by kernel_rfl
end
section
variable(a:OA)(b:Addr)(c:OA)(d e:Nat)(f:Addr)(g:OA)(i j:Nat)(k:Int)(Q:aT)(w:World)
def af.B3:Prop:=
 ∃m:OA,∃n o:Nat,w.cell? (f.add 33)=some (.slice m n o)/\Split (decide (k<(n:Int))) (∃p:OA,∃q r:Nat,w.cell? (f.add 33)=some (.slice p q r)/\(0<=k/\k<(q:Int))/\Is p fun t:Addr=>∃u:AV,(u.size=32/\Cells w (t.add (k.toNat*32)) u)/\bG prog 61 #[.pointer a,.slice g i j,.agg u] w fun v x=>∃y:OA,∃z a1:Nat,v=.slice y z a1/\Is a fun b1:Addr=>∃c1:Int,x.cell? (b1.add 0)=some (.int .i64 c1)/\Holds none [] prog 179 (.loop (lB (bB (sR (sL (aS (bB (sL (sR (lB (bB (sR (sL (cH (sR (body f19)))))))))))))))) (af.q4 Q) [(0,.pointer a),(6,.pointer (some b)),(7,.slice c d e),(8,.pointer (some f)),(9,.slice g i j),(15,.int .i64 k),(16,.slice y z a1),(17,.bool (decide ((z:Int)<=c1))),(18,.int .i64 0)] x) (Q (.exit 4) [(0,.pointer a),(6,.pointer (some b)),(7,.slice c d e),(8,.pointer (some f)),(9,.slice g i j),(15,.int .i64 k)] w)
theorem af.b3:(bg none [] prog 179 af.k (lB (bB (sR (sL (cH (sR (body f19))))))) af.u3 Q [(0,.pointer a),(6,.pointer (some b)),(7,.slice c d e),(8,.pointer (some f)),(9,.slice g i j),(15,.int .i64 k)] w)=af.B3 a b c d e f g i j k Q w:=by kernel_rfl
variable{a b c d e f}
theorem af.sn(I:(OA)×Nat×Nat×Int->World->Prop)(μ:(OA)×Nat×Nat×Int->World->Nat)(s:(OA)×Nat×Nat×Int){Q:aT}{w:World}(h0:I s w)
 (round:∀s w,I s w->af.B3 a b c d e f (s.1) (s.2.1) (s.2.2.1) (s.2.2.2) (bW (af.e3 a b c d e f) I μ s w Q) w):Holds none [] prog 179 (.loop (lB (bB (sR (sL (cH (sR (body f19)))))))) Q (af.e3 a b c d e f s) w:=
 bC ng mix (af.e3 a b c d e f) I μ af.k af.u3 s (fun s Q w=>af.B3 a b c d e f (s.1) (s.2.1) (s.2.2.1) (s.2.2.2) Q w) (fun s Q w=>af.b3 a b c d e f (s.1) (s.2.1) (s.2.2.1) (s.2.2.2) Q w) h0 round
end
section
def af.tM(a:OA)(b:Addr)(c:OA)(d e:Nat)(f:Addr)(g:OA)(i j:Nat)(k:Int)(K:KT)(w:World):Prop:=
 ∃m:AV,(m.size=35/\Cells w f m)/\(m.size=35/\(∀n∈m.toList,n.oneCell'=true)/\∀o,o<35->Wr w (b.add o))/\let p:=setCells w b m.toList 0;∃q:AV,(q.size=35/\Cells p b q)/\K (.tuple #[.agg q,.slice g i j]) p
variable(a:OA)(b:Addr)(c:OA)(d e:Nat)(f:Addr)(g:OA)(i j:Nat)(k:Int)(K:KT)(w:World)
theorem af.yz:(af.q3 K (.exit 4) [(0,.pointer a),(6,.pointer (some b)),(7,.slice c d e),(8,.pointer (some f)),(9,.slice g i j),(15,.int .i64 k)] w)=af.tM a b c d e f g i j k K w:=by kernel_rfl
end
section
variable(a:OA)(b:Addr)(c:OA)(d e:Nat)(f:Addr)(g:OA)(i j:Nat)(k:Int)(m:OA)(n o:Nat)(p:Bool)(q:Int)(Q:aT)(w:World)
def af.B4:Prop:=
 Split (decide (q<(n:Int))) (Split p (let r:=w.drew;(0<=q/\q<(n:Int))/\Is m fun t:Addr=>∃u:AV,(u.size=32/\Cells r (t.add (q.toNat*32)) u)/\Is a fun v:Addr=>∃x:Int,r.cell? (v.add 0)=some (.int .i64 x)/\bG prog 61 #[.pointer a,.slice g i j,.agg u] r fun y z=>∃a1:OA,∃b1 c1:Nat,y=.slice a1 b1 c1/\z.cell? (v.add 0)=some (.int .i64 x)/\Q .normal [(0,.pointer a),(6,.pointer (some b)),(7,.slice c d e),(8,.pointer (some f)),(9,.slice g i j),(15,.int .i64 k),(16,.slice m n o),(17,.bool (decide ((b1:Int)<=(i64.wrap (x-(1:Int)))))),(18,.int .i64 (i64.wrap (q+(1:Int))))] z) (Q (.exit 6) [(0,.pointer a),(6,.pointer (some b)),(7,.slice c d e),(8,.pointer (some f)),(9,.slice g i j),(15,.int .i64 k),(16,.slice m n o),(17,.bool p),(18,.int .i64 q)] w)) (Q (.exit 6) [(0,.pointer a),(6,.pointer (some b)),(7,.slice c d e),(8,.pointer (some f)),(9,.slice g i j),(15,.int .i64 k),(16,.slice m n o),(17,.bool p),(18,.int .i64 q)] w)
theorem af.b4:(bg none [] prog 179 af.k (lB (bB (sR (sL (aS (bB (sL (sR (lB (bB (sR (sL (cH (sR (body f19))))))))))))))) af.u4 Q [(0,.pointer a),(6,.pointer (some b)),(7,.slice c d e),(8,.pointer (some f)),(9,.slice g i j),(15,.int .i64 k),(16,.slice m n o),(17,.bool p),(18,.int .i64 q)] w)=af.B4 a b c d e f g i j k m n o p q Q w:=by kernel_rfl
variable{a b c d e f g i j k m n o}
theorem af.H4(I:Bool×Int->World->Prop)(μ:Bool×Int->World->Nat)(s:Bool×Int){Q:aT}{w:World}(h0:I s w)
 (round:∀s w,I s w->af.B4 a b c d e f g i j k m n o (s.1) (s.2) (bW (af.e4 a b c d e f g i j k m n o) I μ s w Q) w):Holds none [] prog 179 (.loop (lB (bB (sR (sL (aS (bB (sL (sR (lB (bB (sR (sL (cH (sR (body f19)))))))))))))))) Q (af.e4 a b c d e f g i j k m n o s) w:=
 bC ng mix (af.e4 a b c d e f g i j k m n o) I μ af.k af.u4 s (fun s Q w=>af.B4 a b c d e f g i j k m n o (s.1) (s.2) Q w) (fun s Q w=>af.b4 a b c d e f g i j k m n o (s.1) (s.2) Q w) h0 round
end
section
def af.DM(a:OA)(b:Addr)(c:OA)(d e:Nat)(f:Addr)(g:OA)(i j:Nat)(k:Int)(m:OA)(n o:Nat)(p:Bool)(q:Int)(Q:aT)(w:World):Prop:=
 ∃r:OA,∃t u:Nat,w.cell? (f.add 34)=some (.slice r t u)/\let v:=w.alloc (.cells #[.bool p] 4);∃(x:OA) (y z:Nat) (a1:World),(Builtin.append_ #[51,51] 51 #[.slice r t u,.slice (some (aV w.heap.size)) 1 1]).run prog v=.ok (.slice x y z) a1/\Wr a1 (f.add 34)/\let b1:=a1.setCell (f.add 34) (.slice x y z);Split p (∃c1:OA,∃d1 e1:Nat,b1.cell? (f.add 33)=some (.slice c1 d1 e1)/\(0<=k/\k<(d1:Int))/\Is c1 fun f1:Addr=>∃g1:AV,(g1.size=32/\Cells b1 (f1.add (k.toNat*32)) g1)/\g1.size=32/\let i1:=b1.alloc (.cells (g1.toList++ []).toArray 24);∃(j1:OA) (k1 m1:Nat) (n1:World),(Builtin.append_ #[33,33] 33 #[.slice g i j,.slice (some (aV b1.heap.size)) 1 1]).run prog i1=.ok (.slice j1 k1 m1) n1/\∃o1:Int,n1.cell? (f.add 32)=some (.int .u64 o1)/\Wr n1 (f.add 32)/\let p1:=n1.setCell (f.add 32) (.int .u64 (u64.wrap (o1+(1:Int))));Q .normal [(0,.pointer a),(6,.pointer (some b)),(7,.slice c d e),(8,.pointer (some f)),(9,.slice j1 k1 m1),(15,.int .i64 (i64.wrap (k+(1:Int))))] p1) (Q .normal [(0,.pointer a),(6,.pointer (some b)),(7,.slice c d e),(8,.pointer (some f)),(9,.slice g i j),(15,.int .i64 (i64.wrap (k+(1:Int))))] b1)
variable(a:OA)(b:Addr)(c:OA)(d e:Nat)(f:Addr)(g:OA)(i j:Nat)(k:Int)(m:OA)(n o:Nat)(p:Bool)(q:Int)(Q:aT)(w:World)
theorem af.Hl:(af.q4 Q (.exit 6) [(0,.pointer a),(6,.pointer (some b)),(7,.slice c d e),(8,.pointer (some f)),(9,.slice g i j),(15,.int .i64 k),(16,.slice m n o),(17,.bool p),(18,.int .i64 q)] w)=af.DM a b c d e f g i j k m n o p q Q w:=by kernel_rfl
end
section
variable(a:OA)(b:AV)(K:KT)(w:World)
variable{a b K w}
end
section
variable(a b:OA)(c d:Nat)(e:OA)(f g:Nat)(i:OA)(j k:Nat)(m:Int)(Q:aT)(w:World)
variable{a b c d i j k}
end
section
variable(a b:OA)(c d:Nat)(e:OA)(f g:Nat)(i:OA)(j k:Nat)(m:Int)(K:KT)(w:World)
end
def bH.k:List Nat:= []
def bH.q1(K:KT):aT:=(aR 0 (cK (aS (sR (body f35)))++(aX f35)) (cg (fun cy w_=>match cutAt bH.k (aS (sR (body f35)))with|true=>Holds none [] prog 27 (aS (sR (body f35))) (bY prog f35 K) cy w_|false=>bg none [] prog 27 bH.k (aS (sR (body f35))) (aX f35) (bY prog f35 K) cy w_) (bY prog f35 K)))
def bH.e1(a b:OA)(c d:Nat)(s:Int×Int):Env:= [(0,.pointer a),(1,.slice b c d),(4,.int .i64 s.1),(5,.int .i64 s.2)]
def bH.u1:List Nat:= [0,1,4,5]
section
variable(a b:OA)(d e:Nat)(K:KT)(w:World)
def bH.W:Prop:=
 Split ((d:Int)==(0:Int)) (K (.int .i64 9) w) (Holds none [] prog 27 (.loop (lB (bB (sR (sL (aS (body f35))))))) (bH.q1 K) [(0,.pointer a),(1,.slice b d e),(4,.int .i64 0),(5,.int .i64 0)] w)
variable{a b d e K w}
theorem bH.of(h:bH.W a b d e K w):bG prog 35 #[.pointer a,.slice b d e] w K:=
 rqq func35 (C:=bH.k) h
end
section
variable(a b:OA)(c d:Nat)(e f:Int)(Q:aT)(w:World)
def bH.B1:Prop:=
 Split (decide (f<(c:Int))) (let g:=w.drew;Is a fun i:Addr=>∃j:OA,g.cell? (i.add 1)=some (.pointer j)/\Is j fun k:Addr=>(0<=f/\f<(c:Int))/\Is b fun m:Addr=>∃n:AV,(n.size=32/\Cells g (m.add (f.toNat*32)) n)/\bG prog 16 #[.pointer (some (k.add 0)),.agg n] g fun o p=>∃q:Int,o=.int .i64 q/\Split (decide (q<(0:Int))) (Q .ret [(0,.pointer a),(1,.slice b c d),(4,.int .i64 6),(5,.int .i64 f)] p) (Q .normal [(0,.pointer a),(1,.slice b c d),(4,.int .i64 e),(5,.int .i64 (i64.wrap (f+(1:Int))))] p)) (Q (.exit 0) [(0,.pointer a),(1,.slice b c d),(4,.int .i64 e),(5,.int .i64 f)] w)
theorem bH.b1:(bg none [] prog 27 bH.k (lB (bB (sR (sL (aS (body f35)))))) bH.u1 Q [(0,.pointer a),(1,.slice b c d),(4,.int .i64 e),(5,.int .i64 f)] w)=bH.B1 a b c d e f Q w:=by kernel_rfl
variable{a b c d}
theorem bH.cJ(I:Int×Int->World->Prop)(μ:Int×Int->World->Nat)(s:Int×Int){Q:aT}{w:World}(h0:I s w)
 (round:∀s w,I s w->bH.B1 a b c d (s.1) (s.2) (bW (bH.e1 a b c d) I μ s w Q) w):Holds none [] prog 27 (.loop (lB (bB (sR (sL (aS (body f35))))))) Q (bH.e1 a b c d s) w:=
 bC ng mix (bH.e1 a b c d) I μ bH.k bH.u1 s (fun s Q w=>bH.B1 a b c d (s.1) (s.2) Q w) (fun s Q w=>bH.b1 a b c d (s.1) (s.2) Q w) h0 round
end
section
def bH.df(a b:OA)(c d:Nat)(e f:Int)(K:KT)(w:World):Prop:=
 K (.int .i64 0) w
variable(a b:OA)(c d:Nat)(e f:Int)(K:KT)(w:World)
theorem bH.dz:(bH.q1 K (.exit 0) [(0,.pointer a),(1,.slice b c d),(4,.int .i64 e),(5,.int .i64 f)] w)=bH.df a b c d e f K w:=by kernel_rfl
end
def kQ.k:List Nat:= []
section
variable(a:Int)(b:AV)(K:KT)(w:World)
def kQ.W:Prop:=
 let d:=w.alloc (.cells b 24);∃e:AV,(e.size=32/\Cells d (aV w.heap.size) e)/\bG prog 87 #[.agg e] d fun f g=>∃i:OA,f=.pointer i/\35=35/\let j:=g.alloc (.cells zC 53);let k:=j.alloc (.cells #[.slice none 0 0] 33);let m:=k.alloc (.cells (#[.int .i64 a,.pointer i,.slice (some (aV g.heap.size)) 1 1,.slice (some (aV j.heap.size)) 1 1]:AV) 47);K (.pointer (some (aV k.heap.size))) m
variable{a b K w}
theorem kQ.of(h:kQ.W a b K w):bG prog 43 #[.int .i64 a,.agg b] w K:=
 rqq func43 (C:=kQ.k) h
end
def dS.k:List Nat:= []
section
variable(a:OA)(b:AV)(d:OA)(e f:Nat)(K:KT)(w:World)
def dS.W:Prop:=
 let g:=w.alloc (.cells b 24);let i:=g.alloc (.cells zC 53);Is a fun j:Addr=>∃k:OA,i.cell? (j.add 1)=some (.pointer k)/\Is k fun m:Addr=>∃n:AV,(n.size=1/\Cells i (m.add 0) n)/\let o:=i.alloc (.cells (#[.slice none 0 0]:AV) 40);(n.size=1/\(∀p∈n.toList,p.oneCell'=true)/\∀q,q<1->Wr o ((aV i.heap.size).add q))/\let r:=setCells o (aV i.heap.size) n.toList 0;∃t:AV,(t.size=32/\Cells r (aV w.heap.size) t)/\bG prog 88 #[.pointer (some (aV i.heap.size)),.agg t,.slice d e f] r fun u v=>∃x:Int,u=.int .i64 x/\Split (x != (0:Int)) ((zC.size=35/\(∀y∈zC.toList,y.oneCell'=true)/\∀z,z<35->Wr v ((aV g.heap.size).add z))/\let a1:=setCells v (aV g.heap.size) zC.toList 0;∃b1:AV,(b1.size=35/\Cells a1 (aV g.heap.size) b1)/\K (.tuple #[.agg b1,.int .i64 x]) a1) (bG prog 81 #[.pointer a,.slice d e f] v fun c1 d1=>∃e1:AV,c1=.agg e1/\let f1:=d1.alloc (.cells zH 24);(e1.size=32/\(∀g1∈e1.toList,g1.oneCell'=true)/\∀i1,i1<32->Wr f1 ((aV d1.heap.size).add i1))/\let j1:=setCells f1 (aV d1.heap.size) e1.toList 0;∃k1:AV,(k1.size=32/\Cells j1 (aV d1.heap.size) k1)/\bG prog 19 #[.pointer a,.agg k1,.slice d e f] j1 fun m1 n1=>∃o1:AV,∃p1:OA,∃q1 r1:Nat,m1=.tuple #[.agg o1,.slice p1 q1 r1]/\let t1:=n1.alloc (.cells zC 53);(o1.size=35/\(∀u1∈o1.toList,u1.oneCell'=true)/\∀v1,v1<35->Wr t1 ((aV n1.heap.size).add v1))/\let x1:=setCells t1 (aV n1.heap.size) o1.toList 0;let y1:=x1.drew;Is a fun z1:Addr=>∃a2:OA,y1.cell? (z1.add 1)=some (.pointer a2)/\∃b2:AV,(b2.size=32/\Cells y1 (aV w.heap.size) b2)/\∃c2:AV,(c2.size=32/\Cells y1 (aV d1.heap.size) c2)/\bG prog 89 #[.pointer a2,.agg b2,.agg c2,.slice d e f] y1 fun d2 e2=>∃f2:Int,d2=.int .i64 f2/\let g2:=e2.drew;Is a fun i2:Addr=>∃j2:OA,∃k2 m2:Nat,g2.cell? (i2.add 2)=some (.slice j2 k2 m2)/\∃n2:AV,(n2.size=35/\Cells g2 (aV n1.heap.size) n2)/\(∃(o2:OA) (p2 q2:Nat) (r2:World),(Builtin.append_ #[44,44] 44 #[.slice none 0 0,.slice j2 k2 m2]).run prog g2=.ok (.slice o2 p2 q2) r2/\(∃cs:AV,(.agg n2:Value)=.agg cs/\cs.size=35/\Cells r2 (aV n1.heap.size) cs)/\n2.size=35/\let t2:=r2.alloc (.cells (n2.toList++ []).toArray 53);∃(u2:OA) (v2 x2:Nat) (y2:World),(Builtin.append_ #[44,44] 44 #[.slice o2 p2 q2,.slice (some (aV r2.heap.size)) 1 1]).run prog t2=.ok (.slice u2 v2 x2) y2/\Is a fun z2:Addr=>Wr y2 (z2.add 2)/\let a3:=y2.setCell (z2.add 2) (.slice u2 v2 x2);Is a fun b3:Addr=>∃c3:OA,∃d3 e3:Nat,a3.cell? (b3.add 3)=some (.slice c3 d3 e3)/\∃(f3:OA) (g3 i3:Nat) (j3:World),(Builtin.append_ #[45,45] 45 #[.slice none 0 0,.slice c3 d3 e3]).run prog a3=.ok (.slice f3 g3 i3) j3/\let k3:=j3.alloc (.cells #[.slice p1 q1 r1] 33);∃(m3:OA) (n3 o3:Nat) (p3:World),(Builtin.append_ #[45,45] 45 #[.slice f3 g3 i3,.slice (some (aV j3.heap.size)) 1 1]).run prog k3=.ok (.slice m3 n3 o3) p3/\Is a fun q3:Addr=>Wr p3 (q3.add 3)/\let r3:=p3.setCell (q3.add 3) (.slice m3 n3 o3);∃t3:AV,(t3.size=35/\Cells r3 (aV n1.heap.size) t3)/\(t3.size=35/\(∀u3∈t3.toList,u3.oneCell'=true)/\∀v3,v3<35->Wr r3 ((aV g.heap.size).add v3))/\let x3:=setCells r3 (aV g.heap.size) t3.toList 0;∃y3:AV,(y3.size=35/\Cells x3 (aV g.heap.size) y3)/\K (.tuple #[.agg y3,.int .i64 0]) x3)/\(n2.size=35/\let z3:=g2.alloc (.cells (n2.toList++ []).toArray 53);z3.cell? (i2.add 2)=some (.slice j2 k2 m2)/\∃(a4:OA) (b4 c4:Nat) (d4:World),(Builtin.append_ #[44,44] 44 #[.slice none 0 0,.slice j2 k2 m2]).run prog z3=.ok (.slice a4 b4 c4) d4/\∃(e4:OA) (f4 g4:Nat) (i4:World),(Builtin.append_ #[44,44] 44 #[.slice a4 b4 c4,.slice (some (aV g2.heap.size)) 1 1]).run prog d4=.ok (.slice e4 f4 g4) i4/\Is a fun j4:Addr=>Wr i4 (j4.add 2)/\let k4:=i4.setCell (j4.add 2) (.slice e4 f4 g4);Is a fun m4:Addr=>∃n4:OA,∃o4 p4:Nat,k4.cell? (m4.add 3)=some (.slice n4 o4 p4)/\∃(q4:OA) (r4 t4:Nat) (u4:World),(Builtin.append_ #[45,45] 45 #[.slice none 0 0,.slice n4 o4 p4]).run prog k4=.ok (.slice q4 r4 t4) u4/\let v4:=u4.alloc (.cells #[.slice p1 q1 r1] 33);∃(x4:OA) (y4 z4:Nat) (a5:World),(Builtin.append_ #[45,45] 45 #[.slice q4 r4 t4,.slice (some (aV u4.heap.size)) 1 1]).run prog v4=.ok (.slice x4 y4 z4) a5/\Is a fun b5:Addr=>Wr a5 (b5.add 3)/\let c5:=a5.setCell (b5.add 3) (.slice x4 y4 z4);∃d5:AV,(d5.size=35/\Cells c5 (aV n1.heap.size) d5)/\(d5.size=35/\(∀e5∈d5.toList,e5.oneCell'=true)/\∀f5,f5<35->Wr c5 ((aV g.heap.size).add f5))/\let g5:=setCells c5 (aV g.heap.size) d5.toList 0;∃i5:AV,(i5.size=35/\Cells g5 (aV g.heap.size) i5)/\K (.tuple #[.agg i5,.int .i64 0]) g5))
variable{a b d e f K w}
theorem dS.of(h:dS.W a b d e f K w):bG prog 44 #[.pointer a,.agg b,.slice d e f] w K:=
 rqq func44 (C:=dS.k) h
end
def eh.k:List Nat:= []
section
variable(a:OA)(b d:AV)(K:KT)(w:World)
def eh.W:Prop:=
 let e:=w.alloc (.cells b 24);let f:=e.alloc (.cells d 24);let g:=f.drew;∃i:AV,(i.size=32/\Cells g (aV w.heap.size) i)/\∃j:AV,(j.size=32/\Cells g (aV e.heap.size) j)/\bG prog 60 #[.pointer a,.agg i] g fun k m=>∃n:Int,k=.int .u64 n/\(∃cs:AV,(.agg j:Value)=.agg cs/\cs.size=32/\Cells m (aV e.heap.size) cs)/\bG prog 60 #[.pointer a,.agg j] m fun o p=>∃q:Int,o=.int .u64 q/\Split (n != q) (K (.bool (decide (n<q))) p) (∃r:AV,(r.size=32/\Cells p (aV w.heap.size) r)/\∃t:AV,(t.size=32/\Cells p (aV e.heap.size) t)/\bG prog 75 #[.agg r,.agg t] p fun u v=>∃x:Int,u=.int .i64 x/\K (.bool (decide (x<(0:Int)))) v)
variable{a b d K w}
theorem eh.of(h:eh.W a b d K w):bG prog 59 #[.pointer a,.agg b,.agg d] w K:=
 rqq func59 (C:=eh.k) h
end
def dM.k:List Nat:= []
section
variable(a:OA)(b:AV)(K:KT)(w:World)
def dM.W:Prop:=
 let d:=w.alloc (.cells b 24);let e:=d.drew;Is a fun f:Addr=>∃g:OA,∃i j:Nat,e.cell? (f.add 2)=some (.slice g i j)/\Is a fun k:Addr=>∃m:OA,e.cell? (k.add 1)=some (.pointer m)/\Is m fun n:Addr=>∃o:AV,(o.size=32/\Cells e (aV w.heap.size) o)/\bG prog 16 #[.pointer (some (n.add 0)),.agg o] e fun p q=>∃r:Int,p=.int .i64 r/\q.cell? (f.add 2)=some (.slice g i j)/\(0<=r/\r<(i:Int))/\Is g fun t:Addr=>∃u:Int,q.cell? ((t.add (r.toNat*35)).add 32)=some (.int .u64 u)/\K (.int .u64 u) q
variable{a b K w}
theorem dM.of(h:dM.W a b K w):bG prog 60 #[.pointer a,.agg b] w K:=
 rqq func60 (C:=dM.k) h
end
def bu.k:List Nat:= []
def bu.q1(K:KT):aT:=(aR 0 (cK (aS (sR (body f61)))++(aX f61)) (cg (fun cy w_=>match cutAt bu.k (aS (sR (body f61)))with|true=>Holds none [] prog 35 (aS (sR (body f61))) (bY prog f61 K) cy w_|false=>bg none [] prog 35 bu.k (aS (sR (body f61))) (aX f61) (bY prog f61 K) cy w_) (bY prog f61 K)))
def bu.e1(a b:OA)(c d:Nat)(e:Addr)(f:OA)(g i:Nat)(s:(OA)×Nat×Nat×Int):Env:= [(0,.pointer a),(1,.slice b c d),(5,.pointer (some e)),(6,.slice f g i),(7,.slice s.1 s.2.1 s.2.2.1),(8,.int .i64 s.2.2.2)]
def bu.u1:List Nat:= [0,1,5,6,7,8]
section
variable(a b:OA)(d e:Nat)(f:AV)(K:KT)(w:World)
def bu.W:Prop:=
 let g:=w.alloc (.cells f 24);Holds none [] prog 35 (.loop (lB (bB (sR (sL (aS (body f61))))))) (bu.q1 K) [(0,.pointer a),(1,.slice b d e),(5,.pointer (some (aV w.heap.size))),(6,.slice none 0 0),(7,.slice none 0 0),(8,.int .i64 0)] g
variable{a b d e f K w}
theorem bu.of(h:bu.W a b d e f K w):bG prog 61 #[.pointer a,.slice b d e,.agg f] w K:=
 rqq func61 (C:=bu.k) h
end
section
variable(a b:OA)(c d:Nat)(e:Addr)(f:OA)(g i:Nat)(j:OA)(k m:Nat)(n:Int)(Q:aT)(w:World)
def bu.B1:Prop:=
 Split (decide (n<(c:Int))) (let o:=w.drew;Is a fun p:Addr=>∃q:OA,o.cell? (p.add 1)=some (.pointer q)/\Is q fun r:Addr=>(0<=n/\n<(c:Int))/\Is b fun t:Addr=>∃u:AV,(u.size=32/\Cells o (t.add (n.toNat*32)) u)/\∃v:AV,(v.size=32/\Cells o e v)/\bG prog 104 #[.pointer (some (r.add 0)),.agg u,.agg v] o fun x y=>∃z:Bool,x=.bool z/\Split z ((0<=n/\n<(c:Int))/\Is b fun a1:Addr=>∃b1:AV,(b1.size=32/\Cells y (a1.add (n.toNat*32)) b1)/\b1.size=32/\let c1:=y.alloc (.cells (b1.toList++ []).toArray 24);∃(d1:OA) (e1 f1:Nat) (g1:World),(Builtin.append_ #[33,33] 33 #[.slice j k m,.slice (some (aV y.heap.size)) 1 1]).run prog c1=.ok (.slice d1 e1 f1) g1/\Q .normal [(0,.pointer a),(1,.slice b c d),(5,.pointer (some e)),(6,.slice f g i),(7,.slice d1 e1 f1),(8,.int .i64 (i64.wrap (n+(1:Int))))] g1) (Q .normal [(0,.pointer a),(1,.slice b c d),(5,.pointer (some e)),(6,.slice f g i),(7,.slice j k m),(8,.int .i64 (i64.wrap (n+(1:Int))))] y)) (Q (.exit 0) [(0,.pointer a),(1,.slice b c d),(5,.pointer (some e)),(6,.slice f g i),(7,.slice j k m),(8,.int .i64 n)] w)
theorem bu.b1:(bg none [] prog 35 bu.k (lB (bB (sR (sL (aS (body f61)))))) bu.u1 Q [(0,.pointer a),(1,.slice b c d),(5,.pointer (some e)),(6,.slice f g i),(7,.slice j k m),(8,.int .i64 n)] w)=bu.B1 a b c d e f g i j k m n Q w:=by kernel_rfl
variable{a b c d e f g i}
theorem bu.cJ(I:(OA)×Nat×Nat×Int->World->Prop)(μ:(OA)×Nat×Nat×Int->World->Nat)(s:(OA)×Nat×Nat×Int){Q:aT}{w:World}(h0:I s w)
 (round:∀s w,I s w->bu.B1 a b c d e f g i (s.1) (s.2.1) (s.2.2.1) (s.2.2.2) (bW (bu.e1 a b c d e f g i) I μ s w Q) w):Holds none [] prog 35 (.loop (lB (bB (sR (sL (aS (body f61))))))) Q (bu.e1 a b c d e f g i s) w:=
 bC ng mix (bu.e1 a b c d e f g i) I μ bu.k bu.u1 s (fun s Q w=>bu.B1 a b c d e f g i (s.1) (s.2.1) (s.2.2.1) (s.2.2.2) Q w) (fun s Q w=>bu.b1 a b c d e f g i (s.1) (s.2.1) (s.2.2.1) (s.2.2.2) Q w) h0 round
end
section
def bu.df(a b:OA)(c d:Nat)(e:Addr)(f:OA)(g i:Nat)(j:OA)(k m:Nat)(n:Int)(K:KT)(w:World):Prop:=
 K (.slice j k m) w
variable(a b:OA)(c d:Nat)(e:Addr)(f:OA)(g i:Nat)(j:OA)(k m:Nat)(n:Int)(K:KT)(w:World)
theorem bu.dz:(bu.q1 K (.exit 0) [(0,.pointer a),(1,.slice b c d),(5,.pointer (some e)),(6,.slice f g i),(7,.slice j k m),(8,.int .i64 n)] w)=bu.df a b c d e f g i j k m n K w:=by kernel_rfl
end
def bp.k:List Nat:= []
def bp.q1(K:KT):aT:=(aR 0 (cK (aS (sR (body f81)))++(aX f81)) (cg (fun cy w_=>match cutAt bp.k (aS (sR (body f81)))with|true=>Holds none [] prog 28 (aS (sR (body f81))) (bY prog f81 K) cy w_|false=>bg none [] prog 28 bp.k (aS (sR (body f81))) (aX f81) (bY prog f81 K) cy w_) (bY prog f81 K)))
def bp.e1(a b:OA)(c d:Nat)(e f:Addr)(s:Int):Env:= [(0,.pointer a),(1,.slice b c d),(4,.pointer (some e)),(5,.pointer (some f)),(6,.int .i64 s)]
def bp.u1:List Nat:= [0,1,4,5,6]
section
variable(a b:OA)(d e:Nat)(K:KT)(w:World)
def bp.W:Prop:=
 let f:=w.alloc (.cells zH 24);(0<=(0:Int)/\(0:Int)<(d:Int))/\Is b fun g:Addr=>∃i:AV,(i.size=32/\Cells f (g.add ((0:Int).toNat*32)) i)/\let j:=f.alloc (.cells zH 24);(i.size=32/\(∀k∈i.toList,k.oneCell'=true)/\∀m,m<32->Wr j ((aV f.heap.size).add m))/\let n:=setCells j (aV f.heap.size) i.toList 0;Holds none [] prog 28 (.loop (lB (bB (sR (sL (aS (body f81))))))) (bp.q1 K) [(0,.pointer a),(1,.slice b d e),(4,.pointer (some (aV w.heap.size))),(5,.pointer (some (aV f.heap.size))),(6,.int .i64 1)] n
variable{a b d e K w}
theorem bp.of(h:bp.W a b d e K w):bG prog 81 #[.pointer a,.slice b d e] w K:=
 rqq func81 (C:=bp.k) h
end
section
variable(a b:OA)(c d:Nat)(e f:Addr)(g:Int)(Q:aT)(w:World)
def bp.B1:Prop:=
 Split (decide (g<(c:Int))) (let i:=w.drew;∃j:AV,(j.size=32/\Cells i f j)/\(0<=g/\g<(c:Int))/\Is b fun k:Addr=>∃m:AV,(m.size=32/\Cells i (k.add (g.toNat*32)) m)/\bG prog 59 #[.pointer a,.agg j,.agg m] i fun n o=>∃p:Bool,n=.bool p/\Split p ((0<=g/\g<(c:Int))/\Is b fun q:Addr=>∃r:AV,(r.size=32/\Cells o (q.add (g.toNat*32)) r)/\(r.size=32/\(∀t∈r.toList,t.oneCell'=true)/\∀u,u<32->Wr o (f.add u))/\let v:=setCells o f r.toList 0;Q .normal [(0,.pointer a),(1,.slice b c d),(4,.pointer (some e)),(5,.pointer (some f)),(6,.int .i64 (i64.wrap (g+(1:Int))))] v) (Q .normal [(0,.pointer a),(1,.slice b c d),(4,.pointer (some e)),(5,.pointer (some f)),(6,.int .i64 (i64.wrap (g+(1:Int))))] o)) (Q (.exit 0) [(0,.pointer a),(1,.slice b c d),(4,.pointer (some e)),(5,.pointer (some f)),(6,.int .i64 g)] w)
theorem bp.b1:(bg none [] prog 28 bp.k (lB (bB (sR (sL (aS (body f81)))))) bp.u1 Q [(0,.pointer a),(1,.slice b c d),(4,.pointer (some e)),(5,.pointer (some f)),(6,.int .i64 g)] w)=bp.B1 a b c d e f g Q w:=by kernel_rfl
variable{a b c d e f}
theorem bp.cJ(I:Int->World->Prop)(μ:Int->World->Nat)(s:Int){Q:aT}{w:World}(h0:I s w)
 (round:∀s w,I s w->bp.B1 a b c d e f s (bW (bp.e1 a b c d e f) I μ s w Q) w):Holds none [] prog 28 (.loop (lB (bB (sR (sL (aS (body f81))))))) Q (bp.e1 a b c d e f s) w:=
 bC ng mix (bp.e1 a b c d e f) I μ bp.k bp.u1 s (fun s Q w=>bp.B1 a b c d e f s Q w) (fun s Q w=>bp.b1 a b c d e f s Q w) h0 round
end
section
def bp.df(a b:OA)(c d:Nat)(e f:Addr)(g:Int)(K:KT)(w:World):Prop:=
 ∃i:AV,(i.size=32/\Cells w f i)/\(i.size=32/\(∀j∈i.toList,j.oneCell'=true)/\∀k,k<32->Wr w (e.add k))/\let m:=setCells w e i.toList 0;∃n:AV,(n.size=32/\Cells m e n)/\K (.agg n) m
variable(a b:OA)(c d:Nat)(e f:Addr)(g:Int)(K:KT)(w:World)
theorem bp.dz:(bp.q1 K (.exit 0) [(0,.pointer a),(1,.slice b c d),(4,.pointer (some e)),(5,.pointer (some f)),(6,.int .i64 g)] w)=bp.df a b c d e f g K w:=by kernel_rfl
end
section
variable(a:OA)(b:AV)(K:KT)(w:World)
variable{a b K w}
end
section
variable(a:OA)(b:AV)(K:KT)(w:World)
variable{a b K w}
end
section
variable(a:OA)(b:AV)(d:OA)(e f:Nat)(K:KT)(w:World)
variable{a b d e f K w}
end
section
variable(a:OA)(b d:AV)(K:KT)(w:World)
variable{a b d K w}
end
section
variable(a b:OA)(d e:Nat)(K:KT)(w:World)
variable{a b d e K w}
end
section
variable(a:OA)(b:Int)(c:OA)(d e:Nat)(f g:Int)(Q:aT)(w:World)
variable{a c d e f}
end
section
variable(a:OA)(b:Int)(c:OA)(d e:Nat)(f g:Int)(K:KT)(w:World)
end
section
variable(a:OA)(b:AV)(K:KT)(w:World)
variable{a b K w}
end
section
variable(a:OA)(b d:Nat)(K:KT)(w:World)
variable{a b d K w}
end
section
variable(a:OA)(b c:Nat)(d e:Int)(Q:aT)(w:World)
variable{a b c}
end
section
variable(a:OA)(b c:Nat)(d e:Int)(K:KT)(w:World)
end
section
variable(a:Nat)(b d:Addr)(K:KT)(w:World)
variable{a b d K w}
end
section
variable(a:Nat)(b:Addr)(c:OA)(d e:Nat)(f g:Int)(Q:aT)(w:World)
variable{a b c d e f}
end
section
variable(a:Nat)(b:Addr)(c:OA)(d e:Nat)(f g:Int)(K:KT)(w:World)
end
section
variable(a:OA)(b:AV)(K:KT)(w:World)
variable{a b K w}
end
section
variable(l:Nat)(a:OA)(b c:Nat)(d:Int)(e:Addr)(f:Value)(g:AV)(i:OA)(j k:Nat)(Q:aT)(w:World)
end
section
variable(l:Nat)(a:Addr)(b:OA)(c d:Nat)(Q:aT)(w:World)
end
section
variable(a:OA)(b c:Nat)(d:Int)(e:Addr)(f:Value)(ms:AV)(K:KT)(w:World)
end
section
variable(a:OA)(b d:AV)(K:KT)(w:World)
variable{a b d K w}
end
section
variable(l:Nat)(a b c:Addr)(d:Value)(e:AV)(f:OA)(g i:Nat)(Q:aT)(w:World)
end
section
variable(l:Nat)(a b c d:Addr)(e:OA)(f g:Nat)(Q:aT)(w:World)
end
section
variable(a b c:Addr)(d:Value)(ms:AV)(K:KT)(w:World)
end
section
variable(a b c:Addr)(d:Value)(ms:AV)(K:KT)(w:World)
end
section
variable(a:Int)(b:AV)(d:OA)(e f:Nat)(K:KT)(w:World)
variable{a b d e f K w}
end
section
variable(a:Bool)(b c:OA)(d:Int)(Q:aT)(w:World)
variable{b c}
end
section
variable(a:Bool)(b c:OA)(d:Int)(K:KT)(w:World)
end
section
variable(a:Bool)(b c:OA)(d:Int)(e:Addr)(f:OA)(g i:Nat)(j:Int)(Q:aT)(w:World)
variable{b c d e f g i}
end
section
variable(a:Bool)(b c:OA)(d:Int)(e:Addr)(f:OA)(g i:Nat)(j:Int)(Q:aT)(w:World)
end
section
variable(a:Bool)(b c:OA)(d:Int)(e:Addr)(f:OA)(g i:Nat)(j k:Int)(Q:aT)(w:World)
variable{b c d e f g i j}
end
section
variable(a:Bool)(b c:OA)(d:Int)(e:Addr)(f:OA)(g i:Nat)(j k:Int)(Q:aT)(w:World)
end
section
variable(a:Bool)(b c:OA)(d:Int)(e:OA)(f g:Nat)(i:OA)(j k:Nat)(m:Int)(Q:aT)(w:World)
variable{b c d e f g i j k}
end
section
variable(a:Bool)(b c:OA)(d:Int)(e:OA)(f g:Nat)(i:OA)(j k:Nat)(m:Int)(Q:aT)(w:World)
end
section
variable(a:Int)(b:AV)(d:OA)(e f:Nat)(g:AV)(i:OA)(j k:Nat)(K:KT)(w:World)
variable{a b d e f g i j k K w}
end
section
variable(a:Int)(b:AV)(d:OA)(e f:Nat)(K:KT)(w:World)
variable{a b d e f K w}
end
section
variable(a:Bool)(b c:OA)(d:Int)(Q:aT)(w:World)
variable{b c}
end
section
variable(a:Bool)(b c:OA)(d:Int)(K:KT)(w:World)
end
section
variable(a:Bool)(b c:OA)(d:Int)(e:Addr)(f:OA)(g i:Nat)(j:OA)(k m:Nat)(n:Int)(Q:aT)(w:World)
variable{b c d e f g i j k m}
end
section
variable(a:Bool)(b c:OA)(d:Int)(e:Addr)(f:OA)(g i:Nat)(j:OA)(k m:Nat)(n:Int)(Q:aT)(w:World)
end
section
variable(a:Bool)(b c:OA)(d:Int)(e:Addr)(f:OA)(g i:Nat)(j:OA)(k m:Nat)(n:Int)(o:Addr)(p q:Int)(Q:aT)(w:World)
variable{a b c d e f g i j k m n o}
end
section
variable(a:Bool)(b c:OA)(d:Int)(e:Addr)(f:OA)(g i:Nat)(j:OA)(k m:Nat)(n:Int)(o:Addr)(p q:Int)(Q:aT)(w:World)
end
section
variable(a:Int)(b:AV)(d:OA)(e f:Nat)(K:KT)(w:World)
variable{a b d e f K w}
end
section
variable(a:Int)(b:OA)(c d:Nat)(e:Addr)(f g:OA)(i j:Bool)(k:Int)(Q:aT)(w:World)
variable{a b c d e}
end
section
variable(a:Int)(b:OA)(c d:Nat)(e:Addr)(f g:OA)(i j:Bool)(k:Int)(K:KT)(w:World)
end
section
variable(a:OA)(b c:Nat)(d e:OA)(f g:Bool)(i j:OA)(k:Int)(Q:aT)(w:World)
variable{a b c i j}
end
section
variable(a:OA)(b c:Nat)(d e:OA)(f g:Bool)(i j:OA)(k:Int)(K:KT)(w:World)
end
section
variable(a:OA)(b c:Nat)(d e:OA)(f g:Bool)(i j:OA)(k m:Int)(Q:aT)(w:World)
variable{a b c d e f g i j k m Q w}
end
section
variable(a:OA)(b c:Nat)(d e:OA)(f g:Bool)(i j:OA)(k m n:Int)(Q:aT)(w:World)
variable{a b c d e f g i j k m n Q w}
end
section
variable(K:KT)(w:World)
variable{K w}
end
section
variable(a:OA)(b d:Nat)(K:KT)(w:World)
variable{a b d K w}
end
section
variable(a:OA)(b c:Nat)(d:OA)(e f:Nat)(g:OA)(i j:Nat)(k:Int)(Q:aT)(w:World)
variable{a b c d e f}
end
section
variable(a:OA)(b c:Nat)(d:OA)(e f:Nat)(g:OA)(i j:Nat)(k:Int)(K:KT)(w:World)
end
section
variable(a:Int)(b:AV)(d:OA)(e f:Nat)(g:AV)(K:KT)(w:World)
variable{a b d e f g K w}
end
section
variable(a:Addr)(b:OA)(c:Addr)(d:OA)(e f:Nat)(g:Int)(Q:aT)(w:World)
variable{a b c}
end
section
variable(a:Addr)(b:OA)(c:Addr)(d:OA)(e f:Nat)(g:Int)(K:KT)(w:World)
end
section
variable(a:Addr)(b:OA)(c:Addr)(d:OA)(e f:Nat)(g:Int)(i:AV)(Q:aT)(w:World)
variable{a b c d e f}
end
section
variable(a:Addr)(b:OA)(c:Addr)(d:OA)(e f:Nat)(g:Int)(i:AV)(K:KT)(w:World)
end
section
variable(a:Addr)(b:OA)(c:Addr)(d:OA)(e f:Nat)(g:Int)(i j:Addr)(k:AV)(Q:aT)(w:World)
variable{a b c d e f g i j k Q w}
end
section
variable(l:Nat)(a:Addr)(b:OA)(c:Addr)(d:OA)(e f:Nat)(g:Int)(i j:Addr)(k:OA)(m n:Nat)(o:Int)(p:OA)(q r:Nat)(t:Int)(u v:Addr)(x:Value)(y:AV)(z:OA)(aa ba:Nat)(Q:aT)(w:World)
end
section
variable(l:Nat)(a b c d e f:Addr)(g:OA)(i j:Nat)(Q:aT)(w:World)
end
section
variable(a:Addr)(b:OA)(c:Addr)(d:OA)(e f:Nat)(g:Int)(i j:Addr)(k:OA)(m n:Nat)(o:Int)(p:OA)(q r:Nat)(t:Int)(u v:Addr)(x:Value)(y ms:AV)(Q:aT)(w:World)
end
section
variable(a:Addr)(b:OA)(c:Addr)(d:OA)(e f:Nat)(g:Int)(i j:Addr)(k:OA)(m n:Nat)(o:Int)(p:OA)(q r:Nat)(t:Int)(u v:Addr)(x:Value)(y ms:AV)(Q:aT)(w:World)
end
abbrev Fb(v:Value):Array Value:= #[v,.int .u8 0,.int .u8 0,.int .u8 0,.int .u8 0,.int .u8 0,.int .u8 0,.int .u8 0,.int .u8 0,.int .u8 0,.int .u8 0,.int .u8 0,.int .u8 0,.int .u8 0,.int .u8 0,.int .u8 0,.int .u8 0,.int .u8 0,.int .u8 0,.int .u8 0,.int .u8 0,.int .u8 0,.int .u8 0,.int .u8 0,.int .u8 0,.int .u8 0,.int .u8 0,.int .u8 0,.int .u8 0,.int .u8 0,.int .u8 0,.int .u8 0,.int .u8 0,.int .u8 0,.int .u8 0,.int .u8 0,.int .u8 0,.int .u8 0,.int .u8 0,.int .u8 0,.int .u8 0,.int .u8 0,.int .u8 0,.int .u8 0,.int .u8 0,.int .u8 0,.int .u8 0,.int .u8 0,.int .u8 0,.int .u8 0,.int .u8 0,.int .u8 0,.int .u8 0,.int .u8 0,.int .u8 0,.int .u8 0,.int .u8 0,.int .u8 0,.int .u8 0,.int .u8 0,.int .u8 0,.int .u8 0,.int .u8 0,.int .u8 0,.int .u8 0,.int .u8 0,.int .u8 0,.int .u8 0,.int .u8 0,.int .u8 0,.int .u8 0,.int .u8 0,.int .u8 0,.int .u8 0,.int .u8 0,.int .u8 0,.int .u8 0,.int .u8 0,.int .u8 0,.int .u8 0,.int .u8 0,.int .u8 0,.int .u8 0,.int .u8 0,.int .u8 0,.int .u8 0,.int .u8 0,.int .u8 0,.int .u8 0,.int .u8 0,.int .u8 0,.int .u8 0,.int .u8 0,.int .u8 0,.int .u8 0,.int .u8 0,.int .u8 0,.int .u8 0,.int .u8 0,.int .u8 0,.int .u8 0,.int .u8 0,.int .u8 0,.int .u8 0,.int .u8 0,.int .u8 0,.int .u8 0,.int .u8 0,.int .u8 0,.int .u8 0,.int .u8 0,.int .u8 0,.int .u8 0,.int .u8 0,.int .u8 0,.int .u8 0,.int .u8 0,.int .u8 0,.int .u8 0,.int .u8 0,.int .u8 0,.int .u8 0,.int .u8 0,.int .u8 0,.int .u8 0,.int .u8 0,.int .u8 0,.int .u8 0,.int .u8 0,.int .u64 0]
def aC.k:List Nat:= [16,17]
def aC.q1(K:KT):aT:=(aR 0 (cK (aS (sR (body f12)))++(aX f12)) (cg (fun cy w_=>match cutAt aC.k (aS (sR (body f12)))with|true=>Holds none [] prog 99 (aS (sR (body f12))) (bY prog f12 K) cy w_|false=>bg none [] prog 99 aC.k (aS (sR (body f12))) (aX f12) (bY prog f12 K) cy w_) (bY prog f12 K)))
def aC.e1(a:Int)(b:OA)(c d:Nat)(e:Addr)(s:(OA)×(OA)×Bool×Bool×Int):Env:= [(0,.int .i64 a),(2,.slice b c d),(4,.pointer (some e)),(6,.pointer s.1),(7,.pointer s.2.1),(8,.bool s.2.2.1),(9,.bool s.2.2.2.1),(10,.int .i64 s.2.2.2.2)]
def aC.u1:List Nat:= [0,2,4,6,7,8,9,10]
def aC.q2(K:KT):aT:=(aR 2 (cK (cH (aS (sR (body f12))))++(aX f12)) (cg (fun cy w_=>match cutAt aC.k (cH (aS (sR (body f12))))with|true=>Holds none [] prog 99 (cH (aS (sR (body f12)))) (bY prog f12 K) cy w_|false=>bg none [] prog 99 aC.k (cH (aS (sR (body f12)))) (aX f12) (bY prog f12 K) cy w_) (bY prog f12 K)))
def aC.e2(a:OA)(b c:Nat)(d e:OA)(s:(OA)×(OA)×Bool×Bool×Int):Env:= [(2,.slice a b c),(6,.pointer s.1),(7,.pointer s.2.1),(8,.bool s.2.2.1),(9,.bool s.2.2.2.1),(11,.pointer d),(13,.pointer e),(14,.int .i64 s.2.2.2.2)]
def aC.u2:List Nat:= [2,6,7,8,9,11,13,14]
section
variable(a:Int)(b:AV)(d:OA)(e f:Nat)(K:KT)(w:World)
def aC.W:Prop:=
 let g:=w.alloc (.cells b 24);Split (decide (a<(0:Int))) (K (.tuple #[.pointer none,.pointer none,.bool false,.bool true]) g) (Split (decide (a>(6:Int))) (K (.tuple #[.pointer none,.pointer none,.bool false,.bool true]) g) (Split (decide ((e:Int)>(18:Int))) (K (.tuple #[.pointer none,.pointer none,.bool false,.bool true]) g) (Holds none [] prog 99 (.loop (lB (bB (sR (sL (aS (body f12))))))) (aC.q1 K) [(0,.int .i64 a),(2,.slice d e f),(4,.pointer (some (aV w.heap.size))),(6,.pointer none),(7,.pointer none),(8,.bool false),(9,.bool false),(10,.int .i64 0)] g)))
variable{a b d e f K w}
theorem aC.of(h:aC.W a b d e f K w):bG prog 12 #[.int .i64 a,.agg b,.slice d e f] w K:=
 rqq func12 (C:=aC.k) h
end
section
variable(a:Int)(b:OA)(c d:Nat)(e:Addr)(f g:OA)(i j:Bool)(k:Int)(Q:aT)(w:World)
def aC.B1:Prop:=
 Split (decide (k<(c:Int))) ((0<=k/\k<(c:Int))/\Is b fun m:Addr=>∃n:OA,∃o p:Nat,w.cell? ((m.add (k.toNat*33)).add 32)=some (.slice n o p)/\Split (decide ((o:Int)>(6:Int))) (Q .ret [(0,.int .i64 a),(2,.slice b c d),(4,.pointer (some e)),(6,.pointer none),(7,.pointer none),(8,.bool false),(9,.bool true),(10,.int .i64 k)] w) (Q .normal [(0,.int .i64 a),(2,.slice b c d),(4,.pointer (some e)),(6,.pointer f),(7,.pointer g),(8,.bool i),(9,.bool j),(10,.int .i64 (i64.wrap (k+(1:Int))))] w)) (Q (.exit 0) [(0,.int .i64 a),(2,.slice b c d),(4,.pointer (some e)),(6,.pointer f),(7,.pointer g),(8,.bool i),(9,.bool j),(10,.int .i64 k)] w)
theorem aC.b1:(bg none [] prog 99 aC.k (lB (bB (sR (sL (aS (body f12)))))) aC.u1 Q [(0,.int .i64 a),(2,.slice b c d),(4,.pointer (some e)),(6,.pointer f),(7,.pointer g),(8,.bool i),(9,.bool j),(10,.int .i64 k)] w)=aC.B1 a b c d e f g i j k Q w:=by kernel_rfl
variable{a b c d e}
theorem aC.cJ(I:(OA)×(OA)×Bool×Bool×Int->World->Prop)(μ:(OA)×(OA)×Bool×Bool×Int->World->Nat)(s:(OA)×(OA)×Bool×Bool×Int){Q:aT}{w:World}(h0:I s w)
 (round:∀s w,I s w->aC.B1 a b c d e (s.1) (s.2.1) (s.2.2.1) (s.2.2.2.1) (s.2.2.2.2) (bW (aC.e1 a b c d e) I μ s w Q) w):Holds none [] prog 99 (.loop (lB (bB (sR (sL (aS (body f12))))))) Q (aC.e1 a b c d e s) w:=
 bC ng mix (aC.e1 a b c d e) I μ aC.k aC.u1 s (fun s Q w=>aC.B1 a b c d e (s.1) (s.2.1) (s.2.2.1) (s.2.2.2.1) (s.2.2.2.2) Q w) (fun s Q w=>aC.b1 a b c d e (s.1) (s.2.1) (s.2.2.1) (s.2.2.2.1) (s.2.2.2.2) Q w) h0 round
end
section
def aC.df(a:Int)(b:OA)(c d:Nat)(e:Addr)(f g:OA)(i j:Bool)(k:Int)(K:KT)(w:World):Prop:=
 ∃m:AV,(m.size=32/\Cells w e m)/\bG prog 42 #[.int .i64 a,.agg m] w fun n o=>∃p:OA,∃q:Int,n=.tuple #[.pointer p,.int .i64 q]/\Split (q != (0:Int)) (K (.tuple #[.pointer none,.pointer none,.bool true,.bool false]) o) (Split ((p).isNone) (K (.tuple #[.pointer none,.pointer none,.bool true,.bool false]) o) (∃r:AV,(r.size=32/\Cells o e r)/\bG prog 43 #[.int .i64 a,.agg r] o fun t u=>∃v:OA,t=.pointer v/\Holds none [] prog 99 (.loop (lB (bB (sR (sL (cH (aS (body f12)))))))) (aC.q2 K) [(2,.slice b c d),(6,.pointer f),(7,.pointer g),(8,.bool i),(9,.bool j),(11,.pointer p),(13,.pointer v),(14,.int .i64 0)] u))
variable(a:Int)(b:OA)(c d:Nat)(e:Addr)(f g:OA)(i j:Bool)(k:Int)(K:KT)(w:World)
theorem aC.dz:(aC.q1 K (.exit 0) [(0,.int .i64 a),(2,.slice b c d),(4,.pointer (some e)),(6,.pointer f),(7,.pointer g),(8,.bool i),(9,.bool j),(10,.int .i64 k)] w)=aC.df a b c d e f g i j k K w:=by kernel_rfl
end
section
variable(a:OA)(b c:Nat)(d e:OA)(f g:Bool)(i j:OA)(k:Int)(Q:aT)(w:World)
def aC.B2:Prop:=
 Split (decide (k<(b:Int))) (let m:=w.drew;(0<=k/\k<(b:Int))/\Is a fun n:Addr=>∃o:AV,(o.size=32/\Cells m ((n.add (k.toNat*33)).add 0) o)/\(0<=k/\k<(b:Int))/\Is a fun p:Addr=>∃q:OA,∃r t:Nat,m.cell? ((p.add (k.toNat*33)).add 32)=some (.slice q r t)/\(bG prog 41 #[.pointer i,.agg o,.slice q r t] m fun u v=>∃x:AV,∃y:Int,u=.tuple #[.agg x,.int .i64 y]/\let z:=v.alloc (.cells zC 53);(x.size=35/\(∀aa∈x.toList,aa.oneCell'=true)/\∀ba,ba<35->Wr z ((aV v.heap.size).add ba))/\let ca:=setCells z (aV v.heap.size) x.toList 0;Holds none [] prog 99 (sR (bB (sL (sR (lB (bB (sR (sL (cH (aS (body f12))))))))))) (aR 3 (cK (aS (lB (bB (sR (sL (cH (aS (body f12))))))))++aC.u2) (cg (fun cy w_=>match cutAt aC.k (aS (lB (bB (sR (sL (cH (aS (body f12))))))))with|true=>Holds none [] prog 99 (aS (lB (bB (sR (sL (cH (aS (body f12)))))))) Q cy w_|false=>bg none [] prog 99 aC.k (aS (lB (bB (sR (sL (cH (aS (body f12)))))))) aC.u2 Q cy w_) Q)) [(2,.slice a b c),(6,.pointer d),(7,.pointer e),(8,.bool f),(9,.bool g),(11,.pointer i),(13,.pointer j),(14,.int .i64 k),(16,.int .i64 y)] ca)/\(let da:=m.alloc (.cells zC 53);da.cell? ((p.add (k.toNat*33)).add 32)=some (.slice q r t)/\(∃cs:AV,(.agg o:Value)=.agg cs/\cs.size=32/\Cells da ((n.add (k.toNat*33)).add 0) cs)/\bG prog 41 #[.pointer i,.agg o,.slice q r t] da fun ea fa=>∃ga:AV,∃ia:Int,ea=.tuple #[.agg ga,.int .i64 ia]/\(ga.size=35/\(∀ja∈ga.toList,ja.oneCell'=true)/\∀ka,ka<35->Wr fa ((aV m.heap.size).add ka))/\let ma:=setCells fa (aV m.heap.size) ga.toList 0;Holds none [] prog 99 (sR (bB (sL (sR (lB (bB (sR (sL (cH (aS (body f12))))))))))) (aR 3 (cK (aS (lB (bB (sR (sL (cH (aS (body f12))))))))++aC.u2) (cg (fun cy w_=>match cutAt aC.k (aS (lB (bB (sR (sL (cH (aS (body f12))))))))with|true=>Holds none [] prog 99 (aS (lB (bB (sR (sL (cH (aS (body f12)))))))) Q cy w_|false=>bg none [] prog 99 aC.k (aS (lB (bB (sR (sL (cH (aS (body f12)))))))) aC.u2 Q cy w_) Q)) [(2,.slice a b c),(6,.pointer d),(7,.pointer e),(8,.bool f),(9,.bool g),(11,.pointer i),(13,.pointer j),(14,.int .i64 k),(16,.int .i64 ia)] ma)) (Q (.exit 2) [(2,.slice a b c),(6,.pointer d),(7,.pointer e),(8,.bool f),(9,.bool g),(11,.pointer i),(13,.pointer j),(14,.int .i64 k)] w)
theorem aC.b2:(bg none [] prog 99 aC.k (lB (bB (sR (sL (cH (aS (body f12))))))) aC.u2 Q [(2,.slice a b c),(6,.pointer d),(7,.pointer e),(8,.bool f),(9,.bool g),(11,.pointer i),(13,.pointer j),(14,.int .i64 k)] w)=aC.B2 a b c d e f g i j k Q w:=by kernel_rfl
variable{a b c i j}
theorem aC.iB(I:(OA)×(OA)×Bool×Bool×Int->World->Prop)(μ:(OA)×(OA)×Bool×Bool×Int->World->Nat)(s:(OA)×(OA)×Bool×Bool×Int){Q:aT}{w:World}(h0:I s w)
 (round:∀s w,I s w->aC.B2 a b c (s.1) (s.2.1) (s.2.2.1) (s.2.2.2.1) i j (s.2.2.2.2) (bW (aC.e2 a b c i j) I μ s w Q) w):Holds none [] prog 99 (.loop (lB (bB (sR (sL (cH (aS (body f12)))))))) Q (aC.e2 a b c i j s) w:=
 bC ng mix (aC.e2 a b c i j) I μ aC.k aC.u2 s (fun s Q w=>aC.B2 a b c (s.1) (s.2.1) (s.2.2.1) (s.2.2.2.1) i j (s.2.2.2.2) Q w) (fun s Q w=>aC.b2 a b c (s.1) (s.2.1) (s.2.2.1) (s.2.2.2.1) i j (s.2.2.2.2) Q w) h0 round
end
section
def aC.jh(a:OA)(b c:Nat)(d e:OA)(f g:Bool)(i j:OA)(k:Int)(K:KT)(w:World):Prop:=
 K (.tuple #[.pointer i,.pointer j,.bool true,.bool true]) w
variable(a:OA)(b c:Nat)(d e:OA)(f g:Bool)(i j:OA)(k:Int)(K:KT)(w:World)
theorem aC.ki:(aC.q2 K (.exit 2) [(2,.slice a b c),(6,.pointer d),(7,.pointer e),(8,.bool f),(9,.bool g),(11,.pointer i),(13,.pointer j),(14,.int .i64 k)] w)=aC.jh a b c d e f g i j k K w:=by kernel_rfl
end
section
variable(a:OA)(b c:Nat)(d e:OA)(f g:Bool)(i j:OA)(k m:Int)(Q:aT)(w:World)
def aC.J1:Prop:=
 let n:=w.drew;(0<=k/\k<(b:Int))/\Is a fun o:Addr=>∃p:AV,(p.size=32/\Cells n ((o.add (k.toNat*33)).add 0) p)/\(0<=k/\k<(b:Int))/\Is a fun q:Addr=>∃r:OA,∃t u:Nat,n.cell? ((q.add (k.toNat*33)).add 32)=some (.slice r t u)/\(bG prog 44 #[.pointer j,.agg p,.slice r t u] n fun v x=>∃y:AV,∃z:Int,v=.tuple #[.agg y,.int .i64 z]/\let aa:=x.alloc (.cells zC 53);(y.size=35/\(∀ba∈y.toList,ba.oneCell'=true)/\∀ca,ca<35->Wr aa ((aV x.heap.size).add ca))/\let da:=setCells aa (aV x.heap.size) y.toList 0;Holds none [] prog 99 (aS (bB (sL (sR (lB (bB (sR (sL (cH (aS (body f12))))))))))) (aR 3 (cK (aS (lB (bB (sR (sL (cH (aS (body f12))))))))++aC.u2) (cg (fun cy w_=>match cutAt aC.k (aS (lB (bB (sR (sL (cH (aS (body f12))))))))with|true=>Holds none [] prog 99 (aS (lB (bB (sR (sL (cH (aS (body f12)))))))) Q cy w_|false=>bg none [] prog 99 aC.k (aS (lB (bB (sR (sL (cH (aS (body f12)))))))) aC.u2 Q cy w_) Q)) [(2,.slice a b c),(6,.pointer d),(7,.pointer e),(8,.bool f),(9,.bool g),(11,.pointer i),(13,.pointer j),(14,.int .i64 k),(16,.int .i64 m),(18,.int .i64 z)] da)/\(let ea:=n.alloc (.cells zC 53);ea.cell? ((q.add (k.toNat*33)).add 32)=some (.slice r t u)/\(∃cs:AV,(.agg p:Value)=.agg cs/\cs.size=32/\Cells ea ((o.add (k.toNat*33)).add 0) cs)/\bG prog 44 #[.pointer j,.agg p,.slice r t u] ea fun fa ga=>∃ia:AV,∃ja:Int,fa=.tuple #[.agg ia,.int .i64 ja]/\(ia.size=35/\(∀ka∈ia.toList,ka.oneCell'=true)/\∀ma,ma<35->Wr ga ((aV n.heap.size).add ma))/\let na:=setCells ga (aV n.heap.size) ia.toList 0;Holds none [] prog 99 (aS (bB (sL (sR (lB (bB (sR (sL (cH (aS (body f12))))))))))) (aR 3 (cK (aS (lB (bB (sR (sL (cH (aS (body f12))))))))++aC.u2) (cg (fun cy w_=>match cutAt aC.k (aS (lB (bB (sR (sL (cH (aS (body f12))))))))with|true=>Holds none [] prog 99 (aS (lB (bB (sR (sL (cH (aS (body f12)))))))) Q cy w_|false=>bg none [] prog 99 aC.k (aS (lB (bB (sR (sL (cH (aS (body f12)))))))) aC.u2 Q cy w_) Q)) [(2,.slice a b c),(6,.pointer d),(7,.pointer e),(8,.bool f),(9,.bool g),(11,.pointer i),(13,.pointer j),(14,.int .i64 k),(16,.int .i64 m),(18,.int .i64 ja)] na)
theorem aC.j1:(bg none [] prog 99 aC.k (sR (bB (sL (sR (lB (bB (sR (sL (cH (aS (body f12))))))))))) (cK (aS (lB (bB (sR (sL (cH (aS (body f12))))))))++aC.u2) (aR 3 (cK (aS (lB (bB (sR (sL (cH (aS (body f12))))))))++aC.u2) (cg (fun cy w_=>match cutAt aC.k (aS (lB (bB (sR (sL (cH (aS (body f12))))))))with|true=>Holds none [] prog 99 (aS (lB (bB (sR (sL (cH (aS (body f12)))))))) Q cy w_|false=>bg none [] prog 99 aC.k (aS (lB (bB (sR (sL (cH (aS (body f12)))))))) aC.u2 Q cy w_) Q)) [(2,.slice a b c),(6,.pointer d),(7,.pointer e),(8,.bool f),(9,.bool g),(11,.pointer i),(13,.pointer j),(14,.int .i64 k),(16,.int .i64 m)] w)=aC.J1 a b c d e f g i j k m Q w:=by kernel_rfl
variable{a b c d e f g i j k m Q w}
theorem aC.kW(h:aC.J1 a b c d e f g i j k m Q w):Holds none [] prog 99 (sR (bB (sL (sR (lB (bB (sR (sL (cH (aS (body f12))))))))))) (aR 3 (cK (aS (lB (bB (sR (sL (cH (aS (body f12))))))))++aC.u2) (cg (fun cy w_=>match cutAt aC.k (aS (lB (bB (sR (sL (cH (aS (body f12))))))))with|true=>Holds none [] prog 99 (aS (lB (bB (sR (sL (cH (aS (body f12)))))))) Q cy w_|false=>bg none [] prog 99 aC.k (aS (lB (bB (sR (sL (cH (aS (body f12)))))))) aC.u2 Q cy w_) Q)) [(2,.slice a b c),(6,.pointer d),(7,.pointer e),(8,.bool f),(9,.bool g),(11,.pointer i),(13,.pointer j),(14,.int .i64 k),(16,.int .i64 m)] w:=
 dh (C:=aC.k) ng mix (aC.j1 a b c d e f g i j k m Q w) h
end
section
variable(a:OA)(b c:Nat)(d e:OA)(f g:Bool)(i j:OA)(k m n:Int)(Q:aT)(w:World)
def aC.J2:Prop:=
 Split (m != n) (Q .ret [(2,.slice a b c),(6,.pointer none),(7,.pointer none),(8,.bool true),(9,.bool false),(11,.pointer i),(13,.pointer j),(14,.int .i64 k)] w) (Q .normal [(2,.slice a b c),(6,.pointer d),(7,.pointer e),(8,.bool f),(9,.bool g),(11,.pointer i),(13,.pointer j),(14,.int .i64 (i64.wrap (k+(1:Int))))] w)
theorem aC.j2:(bg none [] prog 99 aC.k (aS (bB (sL (sR (lB (bB (sR (sL (cH (aS (body f12))))))))))) (cK (aS (lB (bB (sR (sL (cH (aS (body f12))))))))++aC.u2) (aR 3 (cK (aS (lB (bB (sR (sL (cH (aS (body f12))))))))++aC.u2) (cg (fun cy w_=>match cutAt aC.k (aS (lB (bB (sR (sL (cH (aS (body f12))))))))with|true=>Holds none [] prog 99 (aS (lB (bB (sR (sL (cH (aS (body f12)))))))) Q cy w_|false=>bg none [] prog 99 aC.k (aS (lB (bB (sR (sL (cH (aS (body f12)))))))) aC.u2 Q cy w_) Q)) [(2,.slice a b c),(6,.pointer d),(7,.pointer e),(8,.bool f),(9,.bool g),(11,.pointer i),(13,.pointer j),(14,.int .i64 k),(16,.int .i64 m),(18,.int .i64 n)] w)=aC.J2 a b c d e f g i j k m n Q w:=by kernel_rfl
variable{a b c d e f g i j k m n Q w}
theorem aC.qV(h:aC.J2 a b c d e f g i j k m n Q w):Holds none [] prog 99 (aS (bB (sL (sR (lB (bB (sR (sL (cH (aS (body f12))))))))))) (aR 3 (cK (aS (lB (bB (sR (sL (cH (aS (body f12))))))))++aC.u2) (cg (fun cy w_=>match cutAt aC.k (aS (lB (bB (sR (sL (cH (aS (body f12))))))))with|true=>Holds none [] prog 99 (aS (lB (bB (sR (sL (cH (aS (body f12)))))))) Q cy w_|false=>bg none [] prog 99 aC.k (aS (lB (bB (sR (sL (cH (aS (body f12)))))))) aC.u2 Q cy w_) Q)) [(2,.slice a b c),(6,.pointer d),(7,.pointer e),(8,.bool f),(9,.bool g),(11,.pointer i),(13,.pointer j),(14,.int .i64 k),(16,.int .i64 m),(18,.int .i64 n)] w:=
 dh (C:=aC.k) ng mix (aC.j2 a b c d e f g i j k m n Q w) h
end
def iL.k:List Nat:= []
section
variable(K:KT)(w:World)
def iL.W:Prop:=
 let a:=w.alloc (.cells zH 24);let b:=a.alloc (.cells zH 24);let d:=b.alloc (.cells zH 24);((CK 1).size=32/\(∀e∈(CK 1).toList,e.oneCell'=true)/\∀f,f<32->Wr d ((aV w.heap.size).add f))/\let g:=setCells d (aV w.heap.size) (CK 1).toList 0;((CK 2).size=32/\(∀i∈(CK 2).toList,i.oneCell'=true)/\∀j,j<32->Wr g ((aV a.heap.size).add j))/\let k:=setCells g (aV a.heap.size) (CK 2).toList 0;((CK 3).size=32/\(∀m∈(CK 3).toList,m.oneCell'=true)/\∀n,n<32->Wr k ((aV b.heap.size).add n))/\let o:=setCells k (aV b.heap.size) (CK 3).toList 0;∃p:AV,(p.size=32/\Cells o (aV w.heap.size) p)/\bG prog 42 #[.int .i64 2,.agg p] o fun q r=>∃t:OA,∃u:Int,q=.tuple #[.pointer t,.int .i64 u]/\Split (u != (0:Int)) (K (.bool false) r) (Split ((t).isNone) (K (.bool false) r) (∃v:AV,(v.size=32/\Cells r (aV a.heap.size) v)/\∃x:AV,(x.size=32/\Cells r (aV w.heap.size) x)/\x.size=32/\let y:=r.alloc (.cells (x.toList++ []).toArray 24);bG prog 41 #[.pointer t,.agg v,.slice (some (aV r.heap.size)) 1 1] y fun z aa=>∃ba:AV,∃ca:Int,z=.tuple #[.agg ba,.int .i64 ca]/\∃da:AV,(da.size=32/\Cells aa (aV b.heap.size) da)/\∃ea:AV,(ea.size=32/\Cells aa (aV a.heap.size) ea)/\ea.size=32/\let fa:=aa.alloc (.cells (ea.toList++ []).toArray 24);bG prog 41 #[.pointer t,.agg da,.slice (some (aV aa.heap.size)) 1 1] fa fun ga ia=>∃ja:AV,∃ka:Int,ga=.tuple #[.agg ja,.int .i64 ka]/\let ma:=ia.drew;∃na:AV,(na.size=32/\Cells ma (aV a.heap.size) na)/\∃oa:AV,(oa.size=32/\Cells ma (aV b.heap.size) oa)/\(bG prog 22 #[] ma fun pa qa=>∃ra:AV,pa=.agg ra/\(∃cs:AV,(.agg oa:Value)=.agg cs/\cs.size=32/\Cells qa (aV b.heap.size) cs)/\(∃cs:AV,(.agg na:Value)=.agg cs/\cs.size=32/\Cells qa (aV a.heap.size) cs)/\na.size=32/\oa.size=32/\let ta:=qa.alloc (.cells (na.toList++(oa.toList++([]))).toArray 24);bG prog 20 #[.agg ra,.pointer t,.agg (Fb (.slice (some (aV qa.heap.size)) 2 2))] ta fun ua va=>∃xa:OA,∃ya za:Nat,∃ae:Int,ua=.tuple #[.slice xa ya za,.int .i64 ae]/\let be:=va.drew;∃ce:AV,(ce.size=32/\Cells be (aV b.heap.size) ce)/\(bG prog 22 #[] be fun de ee=>∃fe:AV,de=.agg fe/\(∃cs:AV,(.agg ce:Value)=.agg cs/\cs.size=32/\Cells ee (aV b.heap.size) cs)/\ce.size=32/\let ge:=ee.alloc (.cells (ce.toList++ []).toArray 24);bG prog 20 #[.agg fe,.pointer t,.agg (Fb (.slice (some (aV ee.heap.size)) 1 1))] ge fun ie je=>∃ke:OA,∃me ne:Nat,∃oe:Int,ie=.tuple #[.slice ke me ne,.int .i64 oe]/\Split (ae==(9:Int)) (Split (oe==(0:Int)) (bG prog 22 #[] je fun pe qe=>∃re:AV,pe=.agg re/\bG prog 40 #[.agg re] qe fun te ue=>∃ve:Bool,te=.bool ve/\K (.bool ve) ue) (K (.bool false) je)) (K (.bool false) je))/\(ce.size=32/\let xe:=be.alloc (.cells (ce.toList++ []).toArray 24);bG prog 22 #[] xe fun ye ze=>∃aj:AV,ye=.agg aj/\bG prog 20 #[.agg aj,.pointer t,.agg (Fb (.slice (some (aV be.heap.size)) 1 1))] ze fun bj cj=>∃dj:OA,∃ej fj:Nat,∃gj:Int,bj=.tuple #[.slice dj ej fj,.int .i64 gj]/\Split (ae==(9:Int)) (Split (gj==(0:Int)) (bG prog 22 #[] cj fun ij jj=>∃kj:AV,ij=.agg kj/\bG prog 40 #[.agg kj] jj fun mj nj=>∃oj:Bool,mj=.bool oj/\K (.bool oj) nj) (K (.bool false) cj)) (K (.bool false) cj)))/\(na.size=32/\oa.size=32/\let pj:=ma.alloc (.cells (na.toList++(oa.toList++([]))).toArray 24);bG prog 22 #[] pj fun qj rj=>∃tj:AV,qj=.agg tj/\bG prog 20 #[.agg tj,.pointer t,.agg (Fb (.slice (some (aV ma.heap.size)) 2 2))] rj fun uj vj=>∃xj:OA,∃yj zj:Nat,∃ak:Int,uj=.tuple #[.slice xj yj zj,.int .i64 ak]/\let bk:=vj.drew;∃ck:AV,(ck.size=32/\Cells bk (aV b.heap.size) ck)/\(bG prog 22 #[] bk fun dk ek=>∃fk:AV,dk=.agg fk/\(∃cs:AV,(.agg ck:Value)=.agg cs/\cs.size=32/\Cells ek (aV b.heap.size) cs)/\ck.size=32/\let gk:=ek.alloc (.cells (ck.toList++ []).toArray 24);bG prog 20 #[.agg fk,.pointer t,.agg (Fb (.slice (some (aV ek.heap.size)) 1 1))] gk fun ik jk=>∃kk:OA,∃mk nk:Nat,∃ok:Int,ik=.tuple #[.slice kk mk nk,.int .i64 ok]/\Split (ak==(9:Int)) (Split (ok==(0:Int)) (bG prog 22 #[] jk fun pk qk=>∃rk:AV,pk=.agg rk/\bG prog 40 #[.agg rk] qk fun tk uk=>∃vk:Bool,tk=.bool vk/\K (.bool vk) uk) (K (.bool false) jk)) (K (.bool false) jk))/\(ck.size=32/\let xk:=bk.alloc (.cells (ck.toList++ []).toArray 24);bG prog 22 #[] xk fun yk zk=>∃aq:AV,yk=.agg aq/\bG prog 20 #[.agg aq,.pointer t,.agg (Fb (.slice (some (aV bk.heap.size)) 1 1))] zk fun bq cq=>∃dq:OA,∃eq fq:Nat,∃gq:Int,bq=.tuple #[.slice dq eq fq,.int .i64 gq]/\Split (ak==(9:Int)) (Split (gq==(0:Int)) (bG prog 22 #[] cq fun iq jq=>∃kq:AV,iq=.agg kq/\bG prog 40 #[.agg kq] jq fun mq nq=>∃oq:Bool,mq=.bool oq/\K (.bool oq) nq) (K (.bool false) cq)) (K (.bool false) cq)))))
variable{K w}
theorem iL.of(h:iL.W K w):bG prog 13 #[] w K:=
 rqq func13 (C:=iL.k) h
end
def iK.k:List Nat:= []
section
variable(a:AV)(K:KT)(w:World)
def iK.W:Prop:=
 let b:=w.alloc (.cells a 26);∃d:Int,b.cell? ((aV w.heap.size).add 0)=some (.int .i64 d)/\Split (decide (d<(0:Int))) (K (.bool false) b) (∃e:Int,b.cell? ((aV w.heap.size).add 0)=some (.int .i64 e)/\Split (decide (e>(100:Int))) (K (.bool false) b) (∃f:Int,b.cell? ((aV w.heap.size).add 1)=some (.int .i64 f)/\Split (decide (f<(1:Int))) (K (.bool false) b) (∃g:Int,b.cell? ((aV w.heap.size).add 1)=some (.int .i64 g)/\Split (decide (g>(20:Int))) (K (.bool false) b) (∃i:Int,b.cell? ((aV w.heap.size).add 2)=some (.int .i64 i)/\Split (decide (i<(1:Int))) (K (.bool false) b) (∃j:Int,b.cell? ((aV w.heap.size).add 2)=some (.int .i64 j)/\Split (decide (j>(1000:Int))) (K (.bool false) b) (∃k:Int,b.cell? ((aV w.heap.size).add 3)=some (.int .i64 k)/\Split (decide (k<(0:Int))) (K (.bool false) b) (∃m:Int,b.cell? ((aV w.heap.size).add 3)=some (.int .i64 m)/\Split (decide (m>(2147483647:Int))) (K (.bool false) b) (∃n:Int,b.cell? ((aV w.heap.size).add 4)=some (.int .i64 n)/\Split (decide (n<(0:Int))) (K (.bool false) b) (∃o:Int,b.cell? ((aV w.heap.size).add 4)=some (.int .i64 o)/\Split (decide (o>(2147483647:Int))) (K (.bool false) b) (∃p:Int,b.cell? ((aV w.heap.size).add 5)=some (.int .i64 p)/\Split (decide (p<(0:Int))) (K (.bool false) b) (∃q:Int,b.cell? ((aV w.heap.size).add 5)=some (.int .i64 q)/\Split (decide (q>(2147483647:Int))) (K (.bool false) b) (∃r:Int,b.cell? ((aV w.heap.size).add 6)=some (.int .u64 r)/\Split (decide (r>(1099511627776:Int))) (K (.bool false) b) (∃t:Int,b.cell? ((aV w.heap.size).add 7)=some (.int .i64 t)/\Split (decide (t<(0:Int))) (K (.bool false) b) (∃u:Int,b.cell? ((aV w.heap.size).add 7)=some (.int .i64 u)/\Split (decide (u>(100000:Int))) (K (.bool false) b) (∃v:Int,b.cell? ((aV w.heap.size).add 8)=some (.int .i64 v)/\Split (decide (v<(0:Int))) (K (.bool false) b) (∃x:Int,b.cell? ((aV w.heap.size).add 8)=some (.int .i64 x)/\Split (decide (x>(100000:Int))) (K (.bool false) b) (∃y:Int,b.cell? ((aV w.heap.size).add 4)=some (.int .i64 y)/\Split (y==(0:Int)) (K (.bool true) b) (∃z:Int,b.cell? ((aV w.heap.size).add 3)=some (.int .i64 z)/\Split (decide (z>(0:Int))) (∃aa:Int,b.cell? ((aV w.heap.size).add 4)=some (.int .i64 aa)/\∃ba:Int,b.cell? ((aV w.heap.size).add 3)=some (.int .i64 ba)/\Split (decide (aa>ba)) (∃ca:Int,b.cell? ((aV w.heap.size).add 4)=some (.int .i64 ca)/\∃da:Int,b.cell? ((aV w.heap.size).add 2)=some (.int .i64 da)/\K (.bool (decide (ca>da))) b) (K (.bool false) b)) (K (.bool false) b)))))))))))))))))))
variable{a K w}
theorem iK.of(h:iK.W a K w):bG prog 15 #[.agg a] w K:=
 rqq func15 (C:=iK.k) h
end
def aN.k:List Nat:= [7]
def aN.q1(K:KT):aT:=(aR 0 (cK (cH (body Tryz.f20))++(aX Tryz.f20)) (cg (fun cy w_=>match cutAt aN.k (cH (body Tryz.f20))with|true=>Holds none [] prog 36 (cH (body Tryz.f20)) (bY prog Tryz.f20 K) cy w_|false=>bg none [] prog 36 aN.k (cH (body Tryz.f20)) (aX Tryz.f20) (bY prog Tryz.f20 K) cy w_) (bY prog Tryz.f20 K)))
def aN.e1(a:Addr)(b:OA)(c d:Nat)(e:Int)(s:Int×Int):Env:= [(6,.pointer (some a)),(7,.int .i64 s.1),(23,.slice b c d),(24,.int .i64 e),(25,.int .i64 s.2)]
def aN.u1:List Nat:= [6,7,23,24,25]
section
variable(a:AV)(b:OA)(d:AV)(K:KT)(w:World)
def aN.W:Prop:=
 let e:=w.alloc (.cells a 26);let f:=e.alloc (.cells (#[.pointer b]:AV) 28);let g:=f.alloc (.cells d 58);let i:=g.alloc (.cells (#[.slice none 0 0]:AV) 33);∃j:OA,i.cell? (aV e.heap.size)=some (.pointer j)/\bG prog 45 #[.pointer j] i fun k m=>∃n:OA,k=.pointer n/\bG prog 46 #[.pointer n] m fun o p=>∃q:OA,o=.pointer q/\let r:=p.alloc (.cells (#[.pointer none]:AV) 98);Wr r (aV p.heap.size)/\let t:=r.setCell (aV p.heap.size) (.pointer q);let u:=t.alloc (.cells #[.func (.func 62) #[] #[.pointer (some (aV p.heap.size))],.func (.func 63) #[] #[.pointer (some (aV w.heap.size))],.func (.func 64) #[] #[.pointer (some (aV f.heap.size)),.pointer (some (aV w.heap.size))],.func (.func 66) #[] #[.pointer (some (aV f.heap.size)),.pointer (some (aV p.heap.size)),.pointer (some (aV g.heap.size))],.func (.func 67) #[] #[.pointer (some (aV f.heap.size)),.pointer (some (aV e.heap.size))],.func (.func 70) #[] #[.pointer (some (aV e.heap.size)),.pointer (some (aV f.heap.size)),.pointer (some (aV w.heap.size))]] 110);Holds none [] prog 36 (.loop (lB (bB (sR (sL (aS (sR (body Tryz.f20)))))))) (aN.q1 K) [(6,.pointer (some (aV g.heap.size))),(7,.int .i64 0),(23,.slice (some (aV t.heap.size)) 6 6),(24,.int .i64 (6:Int)),(25,.int .i64 0)] u
variable{a b d K w}
theorem aN.of(h:aN.W a b d K w):bG prog 20 #[.agg a,.pointer b,.agg d] w K:=
 rqq func20 (C:=aN.k) h
end
section
variable(a:Addr)(b:Int)(c:OA)(d e:Nat)(f g:Int)(Q:aT)(w:World)
def aN.B1:Prop:=
 Split (decide (g<f)) ((0<=g/\g<(d:Int))/\Is c fun i:Addr=>∃j:Value,w.cell? (i.add (g.toNat*1))=some (j)/\lY prog j [] w fun k m=>Holds none [] prog 36 (aS (bB (sL (aS (lB (bB (sR (sL (aS (sR (body Tryz.f20))))))))))) (aR 1 (cK (aS (sR (lB (bB (sR (sL (aS (sR (body Tryz.f20)))))))))++aN.u1) (cg (fun cy w_=>match cutAt aN.k (aS (sR (lB (bB (sR (sL (aS (sR (body Tryz.f20)))))))))with|true=>Holds none [] prog 36 (aS (sR (lB (bB (sR (sL (aS (sR (body Tryz.f20))))))))) Q cy w_|false=>bg none [] prog 36 aN.k (aS (sR (lB (bB (sR (sL (aS (sR (body Tryz.f20))))))))) aN.u1 Q cy w_) Q)) [(6,.pointer (some a)),(7,.int .i64 b),(12,k),(23,.slice c d e),(24,.int .i64 f),(25,.int .i64 g)] m) (Q (.exit 0) [(6,.pointer (some a)),(7,.int .i64 b),(23,.slice c d e),(24,.int .i64 f),(25,.int .i64 g)] w)
theorem aN.b1:(bg none [] prog 36 aN.k (lB (bB (sR (sL (aS (sR (body Tryz.f20))))))) aN.u1 Q [(6,.pointer (some a)),(7,.int .i64 b),(23,.slice c d e),(24,.int .i64 f),(25,.int .i64 g)] w)=aN.B1 a b c d e f g Q w:=by kernel_rfl
variable{a c d e f}
theorem aN.cJ(I:Int×Int->World->Prop)(μ:Int×Int->World->Nat)(s:Int×Int){Q:aT}{w:World}(h0:I s w)
 (round:∀s w,I s w->aN.B1 a (s.1) c d e f (s.2) (bW (aN.e1 a c d e f) I μ s w Q) w):Holds none [] prog 36 (.loop (lB (bB (sR (sL (aS (sR (body Tryz.f20)))))))) Q (aN.e1 a c d e f s) w:=
 bC ng mix (aN.e1 a c d e f) I μ aN.k aN.u1 s (fun s Q w=>aN.B1 a (s.1) c d e f (s.2) Q w) (fun s Q w=>aN.b1 a (s.1) c d e f (s.2) Q w) h0 round
end
section
def aN.df(a:Addr)(b:Int)(c:OA)(d e:Nat)(f g:Int)(K:KT)(w:World):Prop:=
 Wr w a/\let i:=w.setCell a (.slice none 0 0);∃j:OA,∃k m:Nat,i.cell? a=some (.slice j k m)/\K (.tuple #[.slice j k m,.int .i64 0]) i
variable(a:Addr)(b:Int)(c:OA)(d e:Nat)(f g:Int)(K:KT)(w:World)
theorem aN.dz:(aN.q1 K (.exit 0) [(6,.pointer (some a)),(7,.int .i64 b),(23,.slice c d e),(24,.int .i64 f),(25,.int .i64 g)] w)=aN.df a b c d e f g K w:=by kernel_rfl
end
section
variable(a:Addr)(b c:Int)(d:OA)(e f:Nat)(g i:Int)(Q:aT)(w:World)
def aN.J1:Prop:=
 Split (c != (0:Int)) (∃j:OA,∃k m:Nat,w.cell? a=some (.slice j k m)/\Wr w a/\let n:=w.setCell a (.slice j k m);Q .ret [(6,.pointer (some a)),(7,.int .i64 c),(23,.slice d e f),(24,.int .i64 g),(25,.int .i64 i)] n) (Q .normal [(6,.pointer (some a)),(7,.int .i64 b),(23,.slice d e f),(24,.int .i64 g),(25,.int .i64 (i64.wrap (i+(1:Int))))] w)
theorem aN.j1:(bg none [] prog 36 aN.k (aS (bB (sL (aS (lB (bB (sR (sL (aS (sR (body Tryz.f20))))))))))) (cK (aS (sR (lB (bB (sR (sL (aS (sR (body Tryz.f20)))))))))++aN.u1) (aR 1 (cK (aS (sR (lB (bB (sR (sL (aS (sR (body Tryz.f20)))))))))++aN.u1) (cg (fun cy w_=>match cutAt aN.k (aS (sR (lB (bB (sR (sL (aS (sR (body Tryz.f20)))))))))with|true=>Holds none [] prog 36 (aS (sR (lB (bB (sR (sL (aS (sR (body Tryz.f20))))))))) Q cy w_|false=>bg none [] prog 36 aN.k (aS (sR (lB (bB (sR (sL (aS (sR (body Tryz.f20))))))))) aN.u1 Q cy w_) Q)) [(6,.pointer (some a)),(7,.int .i64 b),(12,.int .i64 c),(23,.slice d e f),(24,.int .i64 g),(25,.int .i64 i)] w)=aN.J1 a b c d e f g i Q w:=by kernel_rfl
variable{a b c d e f g i Q w}
theorem aN.kW(h:aN.J1 a b c d e f g i Q w):Holds none [] prog 36 (aS (bB (sL (aS (lB (bB (sR (sL (aS (sR (body Tryz.f20))))))))))) (aR 1 (cK (aS (sR (lB (bB (sR (sL (aS (sR (body Tryz.f20)))))))))++aN.u1) (cg (fun cy w_=>match cutAt aN.k (aS (sR (lB (bB (sR (sL (aS (sR (body Tryz.f20)))))))))with|true=>Holds none [] prog 36 (aS (sR (lB (bB (sR (sL (aS (sR (body Tryz.f20))))))))) Q cy w_|false=>bg none [] prog 36 aN.k (aS (sR (lB (bB (sR (sL (aS (sR (body Tryz.f20))))))))) aN.u1 Q cy w_) Q)) [(6,.pointer (some a)),(7,.int .i64 b),(12,.int .i64 c),(23,.slice d e f),(24,.int .i64 g),(25,.int .i64 i)] w:=
 dh (C:=aN.k) ng mix (aN.j1 a b c d e f g i Q w) h
end
section
def aN.DO(a:Addr)(b:Int)(c:OA)(d e:Nat)(f g:Int)(K:KT)(w:World):Prop:=
 ∃i:OA,∃j k:Nat,w.cell? a=some (.slice i j k)/\K (.tuple #[.slice i j k,.int .i64 b]) w
variable(a:Addr)(b:Int)(c:OA)(d e:Nat)(f g:Int)(K:KT)(w:World)
theorem aN.B7:(aN.q1 K .ret [(6,.pointer (some a)),(7,.int .i64 b),(23,.slice c d e),(24,.int .i64 f),(25,.int .i64 g)] w)=aN.DO a b c d e f g K w:=by kernel_rfl
end
def fE.k:List Nat:= []
section
variable(K:KT)(w:World)
def fE.W:Prop:=
 let a:=w.alloc (.cells (#[.int .i64 0,.int .i64 0,.int .i64 0,.int .i64 0,.int .i64 0,.int .i64 0,.int .u64 0,.int .i64 0,.int .i64 0,.int .u8 0,.int .u8 0,.int .u8 0,.int .u8 0,.int .u8 0,.int .u8 0,.int .u8 0,.int .u8 0,.int .u8 0,.int .u8 0,.int .u8 0,.int .u8 0,.int .u8 0,.int .u8 0,.int .u8 0,.int .u8 0,.int .u8 0,.int .u8 0,.int .u8 0,.int .u8 0,.int .u8 0,.int .u8 0,.int .u8 0,.int .u8 0,.int .u8 0,.int .u8 0,.int .u8 0,.int .u8 0,.int .u8 0,.int .u8 0,.int .u8 0,.int .u8 0]:AV) 26);((#[.int .i64 2,.int .i64 5,.int .i64 10,.int .i64 0,.int .i64 0,.int .i64 0,.int .u64 0,.int .i64 10,.int .i64 10,.int .u8 0,.int .u8 0,.int .u8 0,.int .u8 0,.int .u8 0,.int .u8 0,.int .u8 0,.int .u8 0,.int .u8 0,.int .u8 0,.int .u8 0,.int .u8 0,.int .u8 0,.int .u8 0,.int .u8 0,.int .u8 0,.int .u8 0,.int .u8 0,.int .u8 0,.int .u8 0,.int .u8 0,.int .u8 0,.int .u8 0,.int .u8 0,.int .u8 0,.int .u8 0,.int .u8 0,.int .u8 0,.int .u8 0,.int .u8 0,.int .u8 0,.int .u8 0]:AV).size=41/\(∀b∈(#[.int .i64 2,.int .i64 5,.int .i64 10,.int .i64 0,.int .i64 0,.int .i64 0,.int .u64 0,.int .i64 10,.int .i64 10,.int .u8 0,.int .u8 0,.int .u8 0,.int .u8 0,.int .u8 0,.int .u8 0,.int .u8 0,.int .u8 0,.int .u8 0,.int .u8 0,.int .u8 0,.int .u8 0,.int .u8 0,.int .u8 0,.int .u8 0,.int .u8 0,.int .u8 0,.int .u8 0,.int .u8 0,.int .u8 0,.int .u8 0,.int .u8 0,.int .u8 0,.int .u8 0,.int .u8 0,.int .u8 0,.int .u8 0,.int .u8 0,.int .u8 0,.int .u8 0,.int .u8 0,.int .u8 0]:AV).toList,b.oneCell'=true)/\∀d,d<41->Wr a ((aV w.heap.size).add d))/\let e:=setCells a (aV w.heap.size) (#[.int .i64 2,.int .i64 5,.int .i64 10,.int .i64 0,.int .i64 0,.int .i64 0,.int .u64 0,.int .i64 10,.int .i64 10,.int .u8 0,.int .u8 0,.int .u8 0,.int .u8 0,.int .u8 0,.int .u8 0,.int .u8 0,.int .u8 0,.int .u8 0,.int .u8 0,.int .u8 0,.int .u8 0,.int .u8 0,.int .u8 0,.int .u8 0,.int .u8 0,.int .u8 0,.int .u8 0,.int .u8 0,.int .u8 0,.int .u8 0,.int .u8 0,.int .u8 0,.int .u8 0,.int .u8 0,.int .u8 0,.int .u8 0,.int .u8 0,.int .u8 0,.int .u8 0,.int .u8 0,.int .u8 0]:AV).toList 0;∃f:AV,(f.size=41/\Cells e (aV w.heap.size) f)/\K (.agg f) e
variable{K w}
theorem fE.of(h:fE.W K w):bG prog 22 #[] w K:=
 rqq func22 (C:=fE.k) h
end
def aG.k:List Nat:= []
def aG.q1(K:KT):aT:=(aR 0 (cK (cH (aS (body f39)))++(aX f39)) (cg (fun cy w_=>match cutAt aG.k (cH (aS (body f39)))with|true=>Holds none [] prog 108 (cH (aS (body f39))) (bY prog f39 K) cy w_|false=>bg none [] prog 108 aG.k (cH (aS (body f39))) (aX f39) (bY prog f39 K) cy w_) (bY prog f39 K)))
def aG.e1(a:OA)(b:Addr)(c:OA)(d e:Nat)(f:Int)(g:OA)(i j:Nat)(s:(OA)×Nat×Nat×Int):Env:= [(1,.pointer a),(3,.pointer (some b)),(6,.slice c d e),(7,.int .i64 f),(8,.slice g i j),(9,.slice s.1 s.2.1 s.2.2.1),(10,.int .i64 s.2.2.2)]
def aG.u1:List Nat:= [1,3,6,7,8,9,10]
def aG.q2(K:KT):aT:=(aR 2 (cK (fU (body f39))++(aX f39)) (cg (fun cy w_=>match cutAt aG.k (fU (body f39))with|true=>Holds none [] prog 108 (fU (body f39)) (bY prog f39 K) cy w_|false=>bg none [] prog 108 aG.k (fU (body f39)) (aX f39) (bY prog f39 K) cy w_) (bY prog f39 K)))
def aG.e2(a:OA)(b:Addr)(c:OA)(d e:Nat)(s:(OA)×Nat×Nat×Int×Int):Env:= [(1,.pointer a),(3,.pointer (some b)),(6,.slice s.1 s.2.1 s.2.2.1),(7,.int .i64 s.2.2.2.1),(8,.slice c d e),(11,.int .i64 s.2.2.2.2)]
def aG.u2:List Nat:= [1,3,6,7,8,11]
def aG.q3(Q:aT):aT:=(aR 4 (cK (aS (lB (bB (sR (sL (cH (aS (sR (body f39)))))))))++aG.u2) (aR 3 (cK (aS (lB (bB (sR (sL (cH (aS (sR (body f39)))))))))++aG.u2) (cg (fun cy w_=>match cutAt aG.k (aS (lB (bB (sR (sL (cH (aS (sR (body f39)))))))))with|true=>Holds none [] prog 108 (aS (lB (bB (sR (sL (cH (aS (sR (body f39))))))))) Q cy w_|false=>bg none [] prog 108 aG.k (aS (lB (bB (sR (sL (cH (aS (sR (body f39))))))))) aG.u2 Q cy w_) Q)))
def aG.e3(a:OA)(b:Addr)(c:OA)(d e:Nat)(f:Int)(s:(OA)×Nat×Nat×Int×Int):Env:= [(1,.pointer a),(3,.pointer (some b)),(6,.slice s.1 s.2.1 s.2.2.1),(7,.int .i64 s.2.2.2.1),(8,.slice c d e),(11,.int .i64 f),(12,.int .i64 s.2.2.2.2)]
def aG.u3:List Nat:= [1,3,6,7,8,11,12]
section
variable(a:AV)(b:OA)(d:AV)(K:KT)(w:World)
def aG.W:Prop:=
 let e:=w.alloc (.cells a 26);let f:=e.alloc (.cells d 58);∃g:AV,(g.size=41/\Cells f (aV w.heap.size) g)/\bG prog 15 #[.agg g] f fun i j=>∃k:Bool,i=.bool k/\Split (!k) (K (.tuple #[.slice none 0 0,.int .i64 2]) j) (∃m:OA,∃n o:Nat,j.cell? ((aV e.heap.size).add 0)=some (.slice m n o)/\Split (decide ((n:Int)<(1:Int))) (K (.tuple #[.slice none 0 0,.int .i64 9]) j) (∃p:Int,j.cell? ((aV w.heap.size).add 1)=some (.int .i64 p)/\Split (decide ((n:Int)>p)) (K (.tuple #[.slice none 0 0,.int .i64 9]) j) (bG prog 27 #[.slice m n o] j fun q r=>∃t:OA,∃u v:Nat,q=.slice t u v/\bG prog 17 #[.slice t u v,.slice m n o] r fun x y=>∃z:Bool,x=.bool z/\Split (!z) (K (.tuple #[.slice none 0 0,.int .i64 9]) y) (Holds none [] prog 108 (.loop (lB (bB (sR (sL (cH (sR (body f39)))))))) (aG.q1 K) [(1,.pointer b),(3,.pointer (some (aV w.heap.size))),(6,.slice none 0 0),(7,.int .i64 0),(8,.slice m n o),(9,.slice none 0 0),(10,.int .i64 0)] y))))
variable{a b d K w}
theorem aG.of(h:aG.W a b d K w):bG prog 39 #[.agg a,.pointer b,.agg d] w K:=
 rqq func39 (C:=aG.k) h
end
section
variable(a:OA)(b:Addr)(c:OA)(d e:Nat)(f:Int)(g:OA)(i j:Nat)(k:OA)(m n:Nat)(o:Int)(Q:aT)(w:World)
def aG.B1:Prop:=
 Split (decide (o<(i:Int))) (let p:=w.drew;Is a fun q:Addr=>∃r:OA,p.cell? (q.add 1)=some (.pointer r)/\Is r fun t:Addr=>(0<=o/\o<(i:Int))/\Is g fun u:Addr=>∃v:AV,(v.size=32/\Cells p (u.add (o.toNat*32)) v)/\bG prog 16 #[.pointer (some (t.add 0)),.agg v] p fun x y=>∃z:Int,x=.int .i64 z/\Split (decide (z<(0:Int))) ((0<=o/\o<(i:Int))/\Is g fun aa:Addr=>∃ba:AV,(ba.size=32/\Cells y (aa.add (o.toNat*32)) ba)/\ba.size=32/\let ca:=y.alloc (.cells (ba.toList++ []).toArray 24);∃(da:OA) (ea fa:Nat) (ga:World),(Builtin.append_ #[33,33] 33 #[.slice k m n,.slice (some (aV y.heap.size)) 1 1]).run prog ca=.ok (.slice da ea fa) ga/\Q .normal [(1,.pointer a),(3,.pointer (some b)),(6,.slice c d e),(7,.int .i64 f),(8,.slice g i j),(9,.slice da ea fa),(10,.int .i64 (i64.wrap (o+(1:Int))))] ga) (Q .normal [(1,.pointer a),(3,.pointer (some b)),(6,.slice c d e),(7,.int .i64 f),(8,.slice g i j),(9,.slice k m n),(10,.int .i64 (i64.wrap (o+(1:Int))))] y)) (Q (.exit 0) [(1,.pointer a),(3,.pointer (some b)),(6,.slice c d e),(7,.int .i64 f),(8,.slice g i j),(9,.slice k m n),(10,.int .i64 o)] w)
theorem aG.b1:(bg none [] prog 108 aG.k (lB (bB (sR (sL (cH (sR (body f39))))))) aG.u1 Q [(1,.pointer a),(3,.pointer (some b)),(6,.slice c d e),(7,.int .i64 f),(8,.slice g i j),(9,.slice k m n),(10,.int .i64 o)] w)=aG.B1 a b c d e f g i j k m n o Q w:=by kernel_rfl
variable{a b c d e f g i j}
theorem aG.cJ(I:(OA)×Nat×Nat×Int->World->Prop)(μ:(OA)×Nat×Nat×Int->World->Nat)(s:(OA)×Nat×Nat×Int){Q:aT}{w:World}(h0:I s w)
 (round:∀s w,I s w->aG.B1 a b c d e f g i j (s.1) (s.2.1) (s.2.2.1) (s.2.2.2) (bW (aG.e1 a b c d e f g i j) I μ s w Q) w):Holds none [] prog 108 (.loop (lB (bB (sR (sL (cH (sR (body f39)))))))) Q (aG.e1 a b c d e f g i j s) w:=
 bC ng mix (aG.e1 a b c d e f g i j) I μ aG.k aG.u1 s (fun s Q w=>aG.B1 a b c d e f g i j (s.1) (s.2.1) (s.2.2.1) (s.2.2.2) Q w) (fun s Q w=>aG.b1 a b c d e f g i j (s.1) (s.2.1) (s.2.2.1) (s.2.2.2) Q w) h0 round
end
section
def aG.df(a:OA)(b:Addr)(c:OA)(d e:Nat)(f:Int)(g:OA)(i j:Nat)(k:OA)(m n:Nat)(o:Int)(K:KT)(w:World):Prop:=
 Split (decide ((m:Int)>(0:Int))) (K (.tuple #[.slice k m n,.int .i64 15]) w) (Holds none [] prog 108 (.loop (lB (bB (sR (sL (cH (aS (sR (body f39))))))))) (aG.q2 K) [(1,.pointer a),(3,.pointer (some b)),(6,.slice c d e),(7,.int .i64 f),(8,.slice g i j),(11,.int .i64 0)] w)
variable(a:OA)(b:Addr)(c:OA)(d e:Nat)(f:Int)(g:OA)(i j:Nat)(k:OA)(m n:Nat)(o:Int)(K:KT)(w:World)
theorem aG.dz:(aG.q1 K (.exit 0) [(1,.pointer a),(3,.pointer (some b)),(6,.slice c d e),(7,.int .i64 f),(8,.slice g i j),(9,.slice k m n),(10,.int .i64 o)] w)=aG.df a b c d e f g i j k m n o K w:=by kernel_rfl
end
section
variable(a:OA)(b:Addr)(c:OA)(d e:Nat)(f:Int)(g:OA)(i j:Nat)(k:Int)(Q:aT)(w:World)
def aG.B2:Prop:=
 Split (decide (k<(i:Int))) (Holds none [] prog 108 (.loop (lB (bB (sR (bB (sL (sR (lB (bB (sR (sL (cH (aS (sR (body f39))))))))))))))) (aG.q3 Q) [(1,.pointer a),(3,.pointer (some b)),(6,.slice c d e),(7,.int .i64 f),(8,.slice g i j),(11,.int .i64 k),(12,.int .i64 0)] w) (Q (.exit 2) [(1,.pointer a),(3,.pointer (some b)),(6,.slice c d e),(7,.int .i64 f),(8,.slice g i j),(11,.int .i64 k)] w)
theorem aG.b2:(bg none [] prog 108 aG.k (lB (bB (sR (sL (cH (aS (sR (body f39)))))))) aG.u2 Q [(1,.pointer a),(3,.pointer (some b)),(6,.slice c d e),(7,.int .i64 f),(8,.slice g i j),(11,.int .i64 k)] w)=aG.B2 a b c d e f g i j k Q w:=by kernel_rfl
variable{a b g i j}
theorem aG.iB(I:(OA)×Nat×Nat×Int×Int->World->Prop)(μ:(OA)×Nat×Nat×Int×Int->World->Nat)(s:(OA)×Nat×Nat×Int×Int){Q:aT}{w:World}(h0:I s w)
 (round:∀s w,I s w->aG.B2 a b (s.1) (s.2.1) (s.2.2.1) (s.2.2.2.1) g i j (s.2.2.2.2) (bW (aG.e2 a b g i j) I μ s w Q) w):Holds none [] prog 108 (.loop (lB (bB (sR (sL (cH (aS (sR (body f39))))))))) Q (aG.e2 a b g i j s) w:=
 bC ng mix (aG.e2 a b g i j) I μ aG.k aG.u2 s (fun s Q w=>aG.B2 a b (s.1) (s.2.1) (s.2.2.1) (s.2.2.2.1) g i j (s.2.2.2.2) Q w) (fun s Q w=>aG.b2 a b (s.1) (s.2.1) (s.2.2.1) (s.2.2.2.1) g i j (s.2.2.2.2) Q w) h0 round
end
section
def aG.jh(a:OA)(b:Addr)(c:OA)(d e:Nat)(f:Int)(g:OA)(i j:Nat)(k:Int)(K:KT)(w:World):Prop:=
 bG prog 81 #[.pointer a,.slice g i j] w fun m n=>∃o:AV,m=.agg o/\bG prog 19 #[.pointer a,.agg o,.slice g i j] n fun p q=>∃r:AV,∃t:OA,∃u v:Nat,p=.tuple #[.agg r,.slice t u v]/\let x:=q.alloc (.cells zC 53);(r.size=35/\(∀y∈r.toList,y.oneCell'=true)/\∀z,z<35->Wr x ((aV q.heap.size).add z))/\let aa:=setCells x (aV q.heap.size) r.toList 0;∃ba:OA,∃ca da:Nat,aa.cell? ((aV q.heap.size).add 33)=some (.slice ba ca da)/\∃ea:Int,aa.cell? (b.add 2)=some (.int .i64 ea)/\Split (decide ((ca:Int)>ea)) (K (.tuple #[.slice none 0 0,.int .i64 10]) aa) (K (.tuple #[.slice none 0 0,.int .i64 0]) aa)
variable(a:OA)(b:Addr)(c:OA)(d e:Nat)(f:Int)(g:OA)(i j:Nat)(k:Int)(K:KT)(w:World)
theorem aG.ki:(aG.q2 K (.exit 2) [(1,.pointer a),(3,.pointer (some b)),(6,.slice c d e),(7,.int .i64 f),(8,.slice g i j),(11,.int .i64 k)] w)=aG.jh a b c d e f g i j k K w:=by kernel_rfl
end
section
variable(a:OA)(b:Addr)(c:OA)(d e:Nat)(f:Int)(g:OA)(i j:Nat)(k m:Int)(Q:aT)(w:World)
def aG.B3:Prop:=
 Split (decide (m<(i:Int))) (let n:=w.drew;Is a fun o:Addr=>∃p:OA,n.cell? (o.add 1)=some (.pointer p)/\Is p fun q:Addr=>(0<=k/\k<(i:Int))/\Is g fun r:Addr=>∃t:AV,(t.size=32/\Cells n (r.add (k.toNat*32)) t)/\(0<=m/\m<(i:Int))/\Is g fun u:Addr=>∃v:AV,(v.size=32/\Cells n (u.add (m.toNat*32)) v)/\bG prog 28 #[.pointer (some (q.add 0)),.agg t,.agg v] n fun x y=>∃z:Bool,x=.bool z/\Split z (Q .ret [(1,.pointer a),(3,.pointer (some b)),(6,.slice none 0 0),(7,.int .i64 9),(8,.slice g i j),(11,.int .i64 k),(12,.int .i64 m)] y) (Q .normal [(1,.pointer a),(3,.pointer (some b)),(6,.slice c d e),(7,.int .i64 f),(8,.slice g i j),(11,.int .i64 k),(12,.int .i64 (i64.wrap (m+(1:Int))))] y)) (Q (.exit 4) [(1,.pointer a),(3,.pointer (some b)),(6,.slice c d e),(7,.int .i64 f),(8,.slice g i j),(11,.int .i64 k),(12,.int .i64 m)] w)
theorem aG.b3:(bg none [] prog 108 aG.k (lB (bB (sR (bB (sL (sR (lB (bB (sR (sL (cH (aS (sR (body f39)))))))))))))) aG.u3 Q [(1,.pointer a),(3,.pointer (some b)),(6,.slice c d e),(7,.int .i64 f),(8,.slice g i j),(11,.int .i64 k),(12,.int .i64 m)] w)=aG.B3 a b c d e f g i j k m Q w:=by kernel_rfl
variable{a b g i j k}
theorem aG.sn(I:(OA)×Nat×Nat×Int×Int->World->Prop)(μ:(OA)×Nat×Nat×Int×Int->World->Nat)(s:(OA)×Nat×Nat×Int×Int){Q:aT}{w:World}(h0:I s w)
 (round:∀s w,I s w->aG.B3 a b (s.1) (s.2.1) (s.2.2.1) (s.2.2.2.1) g i j k (s.2.2.2.2) (bW (aG.e3 a b g i j k) I μ s w Q) w):Holds none [] prog 108 (.loop (lB (bB (sR (bB (sL (sR (lB (bB (sR (sL (cH (aS (sR (body f39))))))))))))))) Q (aG.e3 a b g i j k s) w:=
 bC ng mix (aG.e3 a b g i j k) I μ aG.k aG.u3 s (fun s Q w=>aG.B3 a b (s.1) (s.2.1) (s.2.2.1) (s.2.2.2.1) g i j k (s.2.2.2.2) Q w) (fun s Q w=>aG.b3 a b (s.1) (s.2.1) (s.2.2.1) (s.2.2.2.1) g i j k (s.2.2.2.2) Q w) h0 round
end
section
def aG.tM(a:OA)(b:Addr)(c:OA)(d e:Nat)(f:Int)(g:OA)(i j:Nat)(k m:Int)(Q:aT)(w:World):Prop:=
 Q .normal [(1,.pointer a),(3,.pointer (some b)),(6,.slice c d e),(7,.int .i64 f),(8,.slice g i j),(11,.int .i64 (i64.wrap (k+(1:Int))))] w
variable(a:OA)(b:Addr)(c:OA)(d e:Nat)(f:Int)(g:OA)(i j:Nat)(k m:Int)(Q:aT)(w:World)
theorem aG.yz:(aG.q3 Q (.exit 4) [(1,.pointer a),(3,.pointer (some b)),(6,.slice c d e),(7,.int .i64 f),(8,.slice g i j),(11,.int .i64 k),(12,.int .i64 m)] w)=aG.tM a b c d e f g i j k m Q w:=by kernel_rfl
end
def bR.k:List Nat:= []
def bR.q1(K:KT):aT:=(aR 0 (cK (aS (body f40))++(aX f40)) (cg (fun cy w_=>match cutAt bR.k (aS (body f40))with|true=>Holds none [] prog 75 (aS (body f40)) (bY prog f40 K) cy w_|false=>bg none [] prog 75 bR.k (aS (body f40)) (aX f40) (bY prog f40 K) cy w_) (bY prog f40 K)))
def bR.e1(a:Addr)(b:OA)(c d:Nat)(e:Int)(s:Bool×Int):Env:= [(1,.pointer (some a)),(2,.bool s.1),(29,.slice b c d),(30,.int .i64 e),(31,.int .i64 s.2)]
def bR.u1:List Nat:= [1,2,29,30,31]
section
variable(a:AV)(K:KT)(w:World)
def bR.W:Prop:=
 let b:=w.alloc (.cells a 26);∃d:Int,b.cell? ((aV w.heap.size).add 0)=some (.int .i64 d)/\∃e:Int,b.cell? ((aV w.heap.size).add 1)=some (.int .i64 e)/\∃f:Int,b.cell? ((aV w.heap.size).add 2)=some (.int .i64 f)/\∃g:Int,b.cell? ((aV w.heap.size).add 3)=some (.int .i64 g)/\∃i:Int,b.cell? ((aV w.heap.size).add 4)=some (.int .i64 i)/\∃j:Int,b.cell? ((aV w.heap.size).add 5)=some (.int .i64 j)/\∃k:Int,b.cell? ((aV w.heap.size).add 7)=some (.int .i64 k)/\∃m:Int,b.cell? ((aV w.heap.size).add 8)=some (.int .i64 m)/\3=3/\3=3/\3=3/\3=3/\3=3/\3=3/\3=3/\3=3/\let n:=b.alloc (.cells #[.int .i64 d,.int .i64 0,.int .i64 100,.int .i64 e,.int .i64 1,.int .i64 20,.int .i64 f,.int .i64 1,.int .i64 1000,.int .i64 g,.int .i64 0,.int .i64 2147483647,.int .i64 i,.int .i64 0,.int .i64 2147483647,.int .i64 j,.int .i64 0,.int .i64 2147483647,.int .i64 k,.int .i64 0,.int .i64 100000,.int .i64 m,.int .i64 0,.int .i64 100000] 121);Holds none [] prog 75 (.loop (lB (bB (sR (sL (sR (body f40))))))) (bR.q1 K) [(1,.pointer (some (aV w.heap.size))),(2,.bool false),(29,.slice (some (aV b.heap.size)) 8 8),(30,.int .i64 (8:Int)),(31,.int .i64 0)] n
variable{a K w}
theorem bR.of(h:bR.W a K w):bG prog 40 #[.agg a] w K:=
 rqq func40 (C:=bR.k) h
end
section
variable(a:Addr)(b:Bool)(c:OA)(d e:Nat)(f g:Int)(Q:aT)(w:World)
def bR.B1:Prop:=
 Split (decide (g<f)) ((0<=g/\g<(d:Int))/\Is c fun i:Addr=>∃j:AV,(j.size=3/\Cells w (i.add (g.toNat*3)) j)/\let k:=w.alloc (.cells (#[.int .i64 0,.int .i64 0,.int .i64 0]:AV) 121);(j.size=3/\(∀m∈j.toList,m.oneCell'=true)/\∀n,n<3->Wr k ((aV w.heap.size).add n))/\let o:=setCells k (aV w.heap.size) j.toList 0;(0<=(0:Int)/\(0:Int)<(3:Int))/\∃p:Int,o.cell? ((aV w.heap.size).add ((0:Int).toNat*1))=some (.int .i64 p)/\(0<=(1:Int)/\(1:Int)<(3:Int))/\∃q:Int,o.cell? ((aV w.heap.size).add ((1:Int).toNat*1))=some (.int .i64 q)/\Split (decide (p<q)) (Q .ret [(1,.pointer (some a)),(2,.bool false),(29,.slice c d e),(30,.int .i64 f),(31,.int .i64 g)] o) ((0<=(0:Int)/\(0:Int)<(3:Int))/\∃r:Int,o.cell? ((aV w.heap.size).add ((0:Int).toNat*1))=some (.int .i64 r)/\(0<=(2:Int)/\(2:Int)<(3:Int))/\∃t:Int,o.cell? ((aV w.heap.size).add ((2:Int).toNat*1))=some (.int .i64 t)/\Split (decide (r>t)) (Q .ret [(1,.pointer (some a)),(2,.bool false),(29,.slice c d e),(30,.int .i64 f),(31,.int .i64 g)] o) (Q .normal [(1,.pointer (some a)),(2,.bool b),(29,.slice c d e),(30,.int .i64 f),(31,.int .i64 (i64.wrap (g+(1:Int))))] o))) (Q (.exit 0) [(1,.pointer (some a)),(2,.bool b),(29,.slice c d e),(30,.int .i64 f),(31,.int .i64 g)] w)
theorem bR.b1:(bg none [] prog 75 bR.k (lB (bB (sR (sL (sR (body f40)))))) bR.u1 Q [(1,.pointer (some a)),(2,.bool b),(29,.slice c d e),(30,.int .i64 f),(31,.int .i64 g)] w)=bR.B1 a b c d e f g Q w:=by kernel_rfl
variable{a c d e f}
theorem bR.cJ(I:Bool×Int->World->Prop)(μ:Bool×Int->World->Nat)(s:Bool×Int){Q:aT}{w:World}(h0:I s w)
 (round:∀s w,I s w->bR.B1 a (s.1) c d e f (s.2) (bW (bR.e1 a c d e f) I μ s w Q) w):Holds none [] prog 75 (.loop (lB (bB (sR (sL (sR (body f40))))))) Q (bR.e1 a c d e f s) w:=
 bC ng mix (bR.e1 a c d e f) I μ bR.k bR.u1 s (fun s Q w=>bR.B1 a (s.1) c d e f (s.2) Q w) (fun s Q w=>bR.b1 a (s.1) c d e f (s.2) Q w) h0 round
end
section
def bR.df(a:Addr)(b:Bool)(c:OA)(d e:Nat)(f g:Int)(K:KT)(w:World):Prop:=
 ∃i:Int,w.cell? (a.add 6)=some (.int .u64 i)/\Split (decide (i<=(1099511627776:Int))) (∃j:Int,w.cell? (a.add 4)=some (.int .i64 j)/\Split (j==(0:Int)) (K (.bool true) w) (∃k:Int,w.cell? (a.add 3)=some (.int .i64 k)/\Split (decide (k>(0:Int))) (∃m:Int,w.cell? (a.add 4)=some (.int .i64 m)/\∃n:Int,w.cell? (a.add 3)=some (.int .i64 n)/\Split (decide (m>n)) (∃o:Int,w.cell? (a.add 4)=some (.int .i64 o)/\∃p:Int,w.cell? (a.add 2)=some (.int .i64 p)/\K (.bool (decide (o>p))) w) (K (.bool false) w)) (K (.bool false) w))) (K (.bool false) w)
variable(a:Addr)(b:Bool)(c:OA)(d e:Nat)(f g:Int)(K:KT)(w:World)
theorem bR.dz:(bR.q1 K (.exit 0) [(1,.pointer (some a)),(2,.bool b),(29,.slice c d e),(30,.int .i64 f),(31,.int .i64 g)] w)=bR.df a b c d e f g K w:=by kernel_rfl
end
def cX.k:List Nat:= []
section
variable(a:Addr)(K:KT)(w:World)
def cX.W:Prop:=
 ∃b:OA,w.cell? a=some (.pointer b)/\Split ((b).isNone) (K (.int .i64 1) w) (K (.int .i64 0) w)
variable{a K w}
theorem cX.of(h:cX.W a K w):bG prog 62 #[.pointer (some a)] w K:=
 rqq func62 (C:=cX.k) h
end
def cS.k:List Nat:= []
section
variable(a:Addr)(K:KT)(w:World)
def cS.W:Prop:=
 ∃b:AV,(b.size=41/\Cells w a b)/\bG prog 40 #[.agg b] w fun d e=>∃f:Bool,d=.bool f/\Split (!f) (K (.int .i64 2) e) (K (.int .i64 0) e)
variable{a K w}
theorem cS.of(h:cS.W a K w):bG prog 63 #[.pointer (some a)] w K:=
 rqq func63 (C:=cS.k) h
end
def cQ.k:List Nat:= []
section
variable(a b:Addr)(K:KT)(w:World)
def cQ.W:Prop:=
 ∃d:OA,∃e f:Nat,w.cell? (a.add 0)=some (.slice d e f)/\let g:=w.drew;Split (decide ((e:Int)<(1:Int))) (K (.int .i64 9) g) (∃i:Int,g.cell? (b.add 1)=some (.int .i64 i)/\Split (decide ((e:Int)>i)) (K (.int .i64 9) g) (∃j:OA,∃k m:Nat,g.cell? (a.add 0)=some (.slice j k m)/\∃n:OA,∃o p:Nat,g.cell? (a.add 0)=some (.slice n o p)/\bG prog 57 #[.slice j k m] g fun q r=>∃t:OA,∃u v:Nat,q=.slice t u v/\r.cell? (a.add 0)=some (.slice n o p)/\bG prog 65 #[.slice t u v,.slice n o p] r fun x y=>∃z:Bool,x=.bool z/\Split (!z) (K (.int .i64 9) y) (K (.int .i64 0) y)))
variable{a b K w}
theorem cQ.of(h:cQ.W a b K w):bG prog 64 #[.pointer (some a),.pointer (some b)] w K:=
 rqq func64 (C:=cQ.k) h
end
def aQ.k:List Nat:= []
def aQ.q1(K:KT):aT:=(aR 0 (cK (aS (sR (body f65)))++(aX f65)) (cg (fun cy w_=>match cutAt aQ.k (aS (sR (body f65)))with|true=>Holds none [] prog 26 (aS (sR (body f65))) (bY prog f65 K) cy w_|false=>bg none [] prog 26 aQ.k (aS (sR (body f65))) (aX f65) (bY prog f65 K) cy w_) (bY prog f65 K)))
def aQ.e1(a:OA)(b c:Nat)(d:OA)(e f:Nat)(g:Int)(s:Bool×Int):Env:= [(0,.slice a b c),(1,.slice d e f),(4,.bool s.1),(12,.int .i64 g),(13,.int .i64 s.2)]
def aQ.u1:List Nat:= [0,1,4,12,13]
section
variable(a:OA)(b d:Nat)(e:OA)(f g:Nat)(K:KT)(w:World)
def aQ.W:Prop:=
 Split ((b:Int) != (f:Int)) (K (.bool false) w) (Holds none [] prog 26 (.loop (lB (bB (sR (sL (aS (body f65))))))) (aQ.q1 K) [(0,.slice a b d),(1,.slice e f g),(4,.bool false),(12,.int .i64 (b:Int)),(13,.int .i64 0)] w)
variable{a b d e f g K w}
theorem aQ.of(h:aQ.W a b d e f g K w):bG prog 65 #[.slice a b d,.slice e f g] w K:=
 rqq func65 (C:=aQ.k) h
end
section
variable(a:OA)(b c:Nat)(d:OA)(e f:Nat)(g:Bool)(i j:Int)(Q:aT)(w:World)
def aQ.B1:Prop:=
 Split (decide (j<i)) (let k:=w.drew;(0<=j/\j<(b:Int))/\Is a fun m:Addr=>∃n:AV,(n.size=32/\Cells k (m.add (j.toNat*32)) n)/\(0<=j/\j<(e:Int))/\Is d fun o:Addr=>∃p:AV,(p.size=32/\Cells k (o.add (j.toNat*32)) p)/\(ft .u8 32 n/\ft .u8 32 p)/\Split (!(fV n p)) (Q .ret [(0,.slice a b c),(1,.slice d e f),(4,.bool false),(12,.int .i64 i),(13,.int .i64 j)] k) (Q .normal [(0,.slice a b c),(1,.slice d e f),(4,.bool g),(12,.int .i64 i),(13,.int .i64 (i64.wrap (j+(1:Int))))] k)) (Q (.exit 0) [(0,.slice a b c),(1,.slice d e f),(4,.bool g),(12,.int .i64 i),(13,.int .i64 j)] w)
theorem aQ.b1:(bg none [] prog 26 aQ.k (lB (bB (sR (sL (aS (body f65)))))) aQ.u1 Q [(0,.slice a b c),(1,.slice d e f),(4,.bool g),(12,.int .i64 i),(13,.int .i64 j)] w)=aQ.B1 a b c d e f g i j Q w:=by kernel_rfl
variable{a b c d e f i}
theorem aQ.cJ(I:Bool×Int->World->Prop)(μ:Bool×Int->World->Nat)(s:Bool×Int){Q:aT}{w:World}(h0:I s w)
 (round:∀s w,I s w->aQ.B1 a b c d e f (s.1) i (s.2) (bW (aQ.e1 a b c d e f i) I μ s w Q) w):Holds none [] prog 26 (.loop (lB (bB (sR (sL (aS (body f65))))))) Q (aQ.e1 a b c d e f i s) w:=
 bC ng mix (aQ.e1 a b c d e f i) I μ aQ.k aQ.u1 s (fun s Q w=>aQ.B1 a b c d e f (s.1) i (s.2) Q w) (fun s Q w=>aQ.b1 a b c d e f (s.1) i (s.2) Q w) h0 round
end
section
def aQ.df(a:OA)(b c:Nat)(d:OA)(e f:Nat)(g:Bool)(i j:Int)(K:KT)(w:World):Prop:=
 K (.bool true) w
variable(a:OA)(b c:Nat)(d:OA)(e f:Nat)(g:Bool)(i j:Int)(K:KT)(w:World)
theorem aQ.dz:(aQ.q1 K (.exit 0) [(0,.slice a b c),(1,.slice d e f),(4,.bool g),(12,.int .i64 i),(13,.int .i64 j)] w)=aQ.df a b c d e f g i j K w:=by kernel_rfl
end
def bn.k:List Nat:= []
def bn.q1(K:KT):aT:=(aR 0 (cK (aS (body f66))++(aX f66)) (cg (fun cy w_=>match cutAt bn.k (aS (body f66))with|true=>Holds none [] prog 25 (aS (body f66)) (bY prog f66 K) cy w_|false=>bg none [] prog 25 bn.k (aS (body f66)) (aX f66) (bY prog f66 K) cy w_) (bY prog f66 K)))
def bn.e1(a b:Addr)(c:Int)(d:OA)(e f:Nat)(g s:Int):Env:= [(1,.pointer (some a)),(2,.pointer (some b)),(3,.int .i64 c),(7,.slice d e f),(8,.int .i64 g),(9,.int .i64 s)]
def bn.u1:List Nat:= [1,2,3,7,8,9]
section
variable(a b d:Addr)(K:KT)(w:World)
def bn.W:Prop:=
 ∃e:OA,∃f g:Nat,w.cell? (a.add 0)=some (.slice e f g)/\Holds none [] prog 25 (.loop (lB (bB (sR (sL (sR (body f66))))))) (bn.q1 K) [(1,.pointer (some b)),(2,.pointer (some d)),(3,.int .i64 0),(7,.slice e f g),(8,.int .i64 (f:Int)),(9,.int .i64 0)] w
variable{a b d K w}
theorem bn.of(h:bn.W a b d K w):bG prog 66 #[.pointer (some a),.pointer (some b),.pointer (some d)] w K:=
 rqq func66 (C:=bn.k) h
end
section
variable(a b:Addr)(c:Int)(d:OA)(e f:Nat)(g i:Int)(Q:aT)(w:World)
def bn.B1:Prop:=
 Split (decide (i<g)) ((0<=i/\i<(e:Int))/\Is d fun j:Addr=>∃k:AV,(k.size=32/\Cells w (j.add (i.toNat*32)) k)/\let m:=w.alloc (.cells zH 24);(k.size=32/\(∀n∈k.toList,n.oneCell'=true)/\∀o,o<32->Wr m ((aV w.heap.size).add o))/\let p:=setCells m (aV w.heap.size) k.toList 0;∃q:OA,p.cell? a=some (.pointer q)/\∃r:AV,(r.size=32/\Cells p (aV w.heap.size) r)/\bG prog 47 #[.pointer q,.agg r] p fun t u=>∃v:Bool,t=.bool v/\Split (!v) (∃x:OA,∃y z:Nat,u.cell? b=some (.slice x y z)/\∃aa:AV,(aa.size=32/\Cells u (aV w.heap.size) aa)/\aa.size=32/\let ba:=u.alloc (.cells (aa.toList++ []).toArray 24);∃(ca:OA) (da ea:Nat) (fa:World),(Builtin.append_ #[33,33] 33 #[.slice x y z,.slice (some (aV u.heap.size)) 1 1]).run prog ba=.ok (.slice ca da ea) fa/\Wr fa b/\let ga:=fa.setCell b (.slice ca da ea);Q .normal [(1,.pointer (some a)),(2,.pointer (some b)),(3,.int .i64 c),(7,.slice d e f),(8,.int .i64 g),(9,.int .i64 (i64.wrap (i+(1:Int))))] ga) (Q .normal [(1,.pointer (some a)),(2,.pointer (some b)),(3,.int .i64 c),(7,.slice d e f),(8,.int .i64 g),(9,.int .i64 (i64.wrap (i+(1:Int))))] u)) (Q (.exit 0) [(1,.pointer (some a)),(2,.pointer (some b)),(3,.int .i64 c),(7,.slice d e f),(8,.int .i64 g),(9,.int .i64 i)] w)
theorem bn.b1:(bg none [] prog 25 bn.k (lB (bB (sR (sL (sR (body f66)))))) bn.u1 Q [(1,.pointer (some a)),(2,.pointer (some b)),(3,.int .i64 c),(7,.slice d e f),(8,.int .i64 g),(9,.int .i64 i)] w)=bn.B1 a b c d e f g i Q w:=by kernel_rfl
variable{a b c d e f g}
theorem bn.cJ(I:Int->World->Prop)(μ:Int->World->Nat)(s:Int){Q:aT}{w:World}(h0:I s w)
 (round:∀s w,I s w->bn.B1 a b c d e f g s (bW (bn.e1 a b c d e f g) I μ s w Q) w):Holds none [] prog 25 (.loop (lB (bB (sR (sL (sR (body f66))))))) Q (bn.e1 a b c d e f g s) w:=
 bC ng mix (bn.e1 a b c d e f g) I μ bn.k bn.u1 s (fun s Q w=>bn.B1 a b c d e f g s Q w) (fun s Q w=>bn.b1 a b c d e f g s Q w) h0 round
end
section
def bn.df(a b:Addr)(c:Int)(d:OA)(e f:Nat)(g i:Int)(K:KT)(w:World):Prop:=
 ∃j:OA,∃k m:Nat,w.cell? b=some (.slice j k m)/\Split (decide ((k:Int)>(0:Int))) (K (.int .i64 15) w) (K (.int .i64 0) w)
variable(a b:Addr)(c:Int)(d:OA)(e f:Nat)(g i:Int)(K:KT)(w:World)
theorem bn.dz:(bn.q1 K (.exit 0) [(1,.pointer (some a)),(2,.pointer (some b)),(3,.int .i64 c),(7,.slice d e f),(8,.int .i64 g),(9,.int .i64 i)] w)=bn.df a b c d e f g i K w:=by kernel_rfl
end
def br.k:List Nat:= []
def br.q1(K:KT):aT:=(aR 0 (cK (aS (body f67))++(aX f67)) (cg (fun cy w_=>match cutAt br.k (aS (body f67))with|true=>Holds none [] prog 17 (aS (body f67)) (bY prog f67 K) cy w_|false=>bg none [] prog 17 br.k (aS (body f67)) (aX f67) (bY prog f67 K) cy w_) (bY prog f67 K)))
def br.e1(a b:Addr)(c:OA)(d e:Nat)(f:Int)(s:Int×Int):Env:= [(0,.pointer (some a)),(1,.pointer (some b)),(2,.int .i64 s.1),(6,.slice c d e),(7,.int .i64 f),(8,.int .i64 s.2)]
def br.u1:List Nat:= [0,1,2,6,7,8]
section
variable(a b:Addr)(K:KT)(w:World)
def br.W:Prop:=
 ∃d:OA,∃e f:Nat,w.cell? (a.add 0)=some (.slice d e f)/\Holds none [] prog 17 (.loop (lB (bB (sR (sL (sR (body f67))))))) (br.q1 K) [(0,.pointer (some a)),(1,.pointer (some b)),(2,.int .i64 0),(6,.slice d e f),(7,.int .i64 (e:Int)),(8,.int .i64 0)] w
variable{a b K w}
theorem br.of(h:br.W a b K w):bG prog 67 #[.pointer (some a),.pointer (some b)] w K:=
 rqq func67 (C:=br.k) h
end
section
variable(a b:Addr)(c:Int)(d:OA)(e f:Nat)(g i:Int)(Q:aT)(w:World)
def br.B1:Prop:=
 Split (decide (i<g)) ((0<=i/\i<(e:Int))/\Is d fun j:Addr=>∃k:AV,(k.size=32/\Cells w (j.add (i.toNat*32)) k)/\let m:=w.alloc (.cells zH 24);(k.size=32/\(∀n∈k.toList,n.oneCell'=true)/\∀o,o<32->Wr m ((aV w.heap.size).add o))/\let p:=setCells m (aV w.heap.size) k.toList 0;∃q:OA,∃r t:Nat,p.cell? (a.add 0)=some (.slice q r t)/\bG prog 68 #[.slice q r t,.func (.func 69) #[] #[.pointer (some b),.pointer (some (aV w.heap.size))]] p fun u v=>∃x:Bool,u=.bool x/\Split x (Q .ret [(0,.pointer (some a)),(1,.pointer (some b)),(2,.int .i64 9),(6,.slice d e f),(7,.int .i64 g),(8,.int .i64 i)] v) (Q .normal [(0,.pointer (some a)),(1,.pointer (some b)),(2,.int .i64 c),(6,.slice d e f),(7,.int .i64 g),(8,.int .i64 (i64.wrap (i+(1:Int))))] v)) (Q (.exit 0) [(0,.pointer (some a)),(1,.pointer (some b)),(2,.int .i64 c),(6,.slice d e f),(7,.int .i64 g),(8,.int .i64 i)] w)
theorem br.b1:(bg none [] prog 17 br.k (lB (bB (sR (sL (sR (body f67)))))) br.u1 Q [(0,.pointer (some a)),(1,.pointer (some b)),(2,.int .i64 c),(6,.slice d e f),(7,.int .i64 g),(8,.int .i64 i)] w)=br.B1 a b c d e f g i Q w:=by kernel_rfl
variable{a b d e f g}
theorem br.cJ(I:Int×Int->World->Prop)(μ:Int×Int->World->Nat)(s:Int×Int){Q:aT}{w:World}(h0:I s w)
 (round:∀s w,I s w->br.B1 a b (s.1) d e f g (s.2) (bW (br.e1 a b d e f g) I μ s w Q) w):Holds none [] prog 17 (.loop (lB (bB (sR (sL (sR (body f67))))))) Q (br.e1 a b d e f g s) w:=
 bC ng mix (br.e1 a b d e f g) I μ br.k br.u1 s (fun s Q w=>br.B1 a b (s.1) d e f g (s.2) Q w) (fun s Q w=>br.b1 a b (s.1) d e f g (s.2) Q w) h0 round
end
section
def br.df(a b:Addr)(c:Int)(d:OA)(e f:Nat)(g i:Int)(K:KT)(w:World):Prop:=
 K (.int .i64 0) w
variable(a b:Addr)(c:Int)(d:OA)(e f:Nat)(g i:Int)(K:KT)(w:World)
theorem br.dz:(br.q1 K (.exit 0) [(0,.pointer (some a)),(1,.pointer (some b)),(2,.int .i64 c),(6,.slice d e f),(7,.int .i64 g),(8,.int .i64 i)] w)=br.df a b c d e f g i K w:=by kernel_rfl
end
def dA.k:List Nat:= []
section
variable(a:AV)(b d:Addr)(K:KT)(w:World)
def dA.W:Prop:=
 let e:=w.alloc (.cells a 24);let f:=e.drew;∃g:OA,f.cell? b=some (.pointer g)/\∃i:AV,(i.size=32/\Cells f d i)/\∃j:AV,(j.size=32/\Cells f (aV w.heap.size) j)/\bG prog 45 #[.pointer g] f fun k m=>∃n:OA,k=.pointer n/\(∃cs:AV,(.agg j:Value)=.agg cs/\cs.size=32/\Cells m (aV w.heap.size) cs)/\(∃cs:AV,(.agg i:Value)=.agg cs/\cs.size=32/\Cells m d cs)/\bG prog 51 #[.pointer n,.agg i,.agg j] m fun o p=>∃q:Bool,o=.bool q/\K (.bool q) p
variable{a b d K w}
theorem dA.of(h:dA.W a b d K w):bG prog 69 #[.agg a,.pointer (some b),.pointer (some d)] w K:=
 rqq func69 (C:=dA.k) h
end
def cP.k:List Nat:= []
section
variable(a b d:Addr)(K:KT)(w:World)
def cP.W:Prop:=
 ∃e:OA,w.cell? a=some (.pointer e)/\∃f:OA,∃g i:Nat,w.cell? (b.add 0)=some (.slice f g i)/\bG prog 21 #[.pointer e,.slice f g i] w fun j k=>∃m:AV,∃n:Int,j=.tuple #[.agg m,.int .i64 n]/\let o:=k.alloc (.cells zH 24);(m.size=32/\(∀p∈m.toList,p.oneCell'=true)/\∀q,q<32->Wr o ((aV k.heap.size).add q))/\let r:=setCells o (aV k.heap.size) m.toList 0;∃t:OA,r.cell? a=some (.pointer t)/\∃u:AV,(u.size=32/\Cells r (aV k.heap.size) u)/\∃v:OA,∃x y:Nat,r.cell? (b.add 0)=some (.slice v x y)/\bG prog 56 #[.pointer t,.agg u,.slice v x y] r fun z aa=>∃ba:AV,∃ca:Int,z=.tuple #[.agg ba,.int .i64 ca]/\let da:=aa.alloc (.cells zC 53);(ba.size=35/\(∀ea∈ba.toList,ea.oneCell'=true)/\∀fa,fa<35->Wr da ((aV aa.heap.size).add fa))/\let ga:=setCells da (aV aa.heap.size) ba.toList 0;∃ia:OA,∃ja ka:Nat,ga.cell? ((aV aa.heap.size).add 33)=some (.slice ia ja ka)/\∃ma:Int,ga.cell? (d.add 2)=some (.int .i64 ma)/\Split (decide ((ja:Int)>ma)) (K (.int .i64 10) ga) (K (.int .i64 0) ga)
variable{a b d K w}
theorem cP.of(h:cP.W a b d K w):bG prog 70 #[.pointer (some a),.pointer (some b),.pointer (some d)] w K:=
 rqq func70 (C:=cP.k) h
end
def bZ.k:List Nat:= []
section
variable(a:OA)(b d:Nat)(e f:Addr)(K:KT)(w:World)
def bZ.W:Prop:=
 bG prog 91 #[.slice a b d,.func (.func 69) #[] #[.pointer (some e),.pointer (some f)]] w fun g i=>∃j:Int,g=.int .i64 j/\K (.bool (decide (j>=(0:Int)))) i
variable{a b d e f K w}
theorem bZ.of(h:bZ.W a b d e f K w):bG prog 68 #[.slice a b d,.func (.func 69) #[] #[.pointer (some e),.pointer (some f)]] w K:=
 rqq func68 (C:=bZ.k) h
end
def an.k:List Nat:= []
def an.q1(K:KT):aT:=(aR 0 (cK (aS (body f91))++(aX f91)) (cg (fun cy w_=>match cutAt an.k (aS (body f91))with|true=>Holds none [] prog 19 (aS (body f91)) (bY prog f91 K) cy w_|false=>bg none [] prog 19 an.k (aS (body f91)) (aX f91) (bY prog f91 K) cy w_) (bY prog f91 K)))
def an.e1(a:OA)(b c:Nat)(d e:Addr)(f:Int)(s:Int×Int):Env:= [(0,.slice a b c),(1,.func (.func 69) #[] #[.pointer (some d),.pointer (some e)]),(4,.int .i64 s.1),(7,.int .i64 f),(8,.int .i64 s.2)]
def an.u1:List Nat:= [0,1,4,7,8]
section
variable(a:OA)(b d:Nat)(e f:Addr)(K:KT)(w:World)
def an.W:Prop:=
 Holds none [] prog 19 (.loop (lB (bB (sR (sL (sR (body f91))))))) (an.q1 K) [(0,.slice a b d),(1,.func (.func 69) #[] #[.pointer (some e),.pointer (some f)]),(4,.int .i64 0),(7,.int .i64 (b:Int)),(8,.int .i64 0)] w
variable{a b d e f K w}
theorem an.of(h:an.W a b d e f K w):bG prog 91 #[.slice a b d,.func (.func 69) #[] #[.pointer (some e),.pointer (some f)]] w K:=
 rqq func91 (C:=an.k) h
end
section
variable(a:OA)(b c:Nat)(d e:Addr)(f g i:Int)(Q:aT)(w:World)
def an.B1:Prop:=
 Split (decide (i<g)) ((0<=i/\i<(b:Int))/\Is a fun j:Addr=>∃k:AV,(k.size=32/\Cells w (j.add (i.toNat*32)) k)/\bG prog 69 #[.agg k,.pointer (some d),.pointer (some e)] w fun m n=>∃o:Bool,m=.bool o/\Split o (Q .ret [(0,.slice a b c),(1,.func (.func 69) #[] #[.pointer (some d),.pointer (some e)]),(4,.int .i64 i),(7,.int .i64 g),(8,.int .i64 i)] n) (Q .normal [(0,.slice a b c),(1,.func (.func 69) #[] #[.pointer (some d),.pointer (some e)]),(4,.int .i64 f),(7,.int .i64 g),(8,.int .i64 (i64.wrap (i+(1:Int))))] n)) (Q (.exit 0) [(0,.slice a b c),(1,.func (.func 69) #[] #[.pointer (some d),.pointer (some e)]),(4,.int .i64 f),(7,.int .i64 g),(8,.int .i64 i)] w)
theorem an.b1:(bg none [] prog 19 an.k (lB (bB (sR (sL (sR (body f91)))))) an.u1 Q [(0,.slice a b c),(1,.func (.func 69) #[] #[.pointer (some d),.pointer (some e)]),(4,.int .i64 f),(7,.int .i64 g),(8,.int .i64 i)] w)=an.B1 a b c d e f g i Q w:=by kernel_rfl
variable{a b c d e g}
theorem an.cJ(I:Int×Int->World->Prop)(μ:Int×Int->World->Nat)(s:Int×Int){Q:aT}{w:World}(h0:I s w)
 (round:∀s w,I s w->an.B1 a b c d e (s.1) g (s.2) (bW (an.e1 a b c d e g) I μ s w Q) w):Holds none [] prog 19 (.loop (lB (bB (sR (sL (sR (body f91))))))) Q (an.e1 a b c d e g s) w:=
 bC ng mix (an.e1 a b c d e g) I μ an.k an.u1 s (fun s Q w=>an.B1 a b c d e (s.1) g (s.2) Q w) (fun s Q w=>an.b1 a b c d e (s.1) g (s.2) Q w) h0 round
end
section
def an.df(a:OA)(b c:Nat)(d e:Addr)(f g i:Int)(K:KT)(w:World):Prop:=
 K (.int .i64 (-1)) w
variable(a:OA)(b c:Nat)(d e:Addr)(f g i:Int)(K:KT)(w:World)
theorem an.dz:(an.q1 K (.exit 0) [(0,.slice a b c),(1,.func (.func 69) #[] #[.pointer (some d),.pointer (some e)]),(4,.int .i64 f),(7,.int .i64 g),(8,.int .i64 i)] w)=an.df a b c d e f g i K w:=by kernel_rfl
end
section
variable(a:AV)(b:OA)(d:AV)(K:KT)(w:World)
variable{a b d K w}
end
section
variable(a b c:Addr)(d:OA)(e f:Nat)(g:Int)(i:OA)(j k:Nat)(m:OA)(n o:Nat)(p q:Int)(Q:aT)(w:World)
variable{a b c d e f g m n o p}
end
section
variable(a b c:Addr)(d:OA)(e f:Nat)(g:Int)(i:OA)(j k:Nat)(m:Addr)(n:OA)(o p:Nat)(q r:Int)(K:KT)(w:World)
end
section
variable(a b c:Addr)(d:OA)(e f:Nat)(g:Int)(i:OA)(j k:Nat)(m:OA)(n o:Nat)(p q:Int)(K:KT)(w:World)
end
section
variable(a:AV)(b:OA)(d:AV)(K:KT)(w:World)
variable{a b d K w}
end
section
variable(a:OA)(b c:Addr)(d:OA)(e f:Nat)(g:OA)(i j:Nat)(k:OA)(m n:Nat)(o:OA)(p q:Nat)(Q:aT)(w:World)
variable{a b c g i j}
end
section
variable(a:OA)(b c:Addr)(d:OA)(e f:Nat)(g:OA)(i j:Nat)(k:OA)(m n:Nat)(o:OA)(p q:Nat)(r t:Int)(Q:aT)(w:World)
variable{a b c d e f g i j k m n o p q}
end
section
variable(a:OA)(b c:Addr)(d:OA)(e f:Nat)(g:OA)(i j:Nat)(k:OA)(m n:Nat)(o:OA)(p q:Nat)(r t:Int)(Q:aT)(w:World)
end
section
variable(a:AV)(b d e:Addr)(K:KT)(w:World)
variable{a b d e K w}
end
section
variable(a b:AV)(d:Addr)(K:KT)(w:World)
variable{a b d K w}
end
section
variable(a:OA)(b d:Nat)(e f g:Addr)(K:KT)(w:World)
variable{a b d e f g K w}
end
section
variable(a:OA)(b c:Nat)(d e f:Addr)(g:OA)(i j:Nat)(k m:Int)(Q:aT)(w:World)
variable{a b c d e f g i j}
end
section
variable(a:OA)(b c:Nat)(d e f:Addr)(g:OA)(i j:Nat)(k m:Int)(K:KT)(w:World)
end
section
variable(a:OA)(b d:Nat)(e f g:Addr)(K:KT)(w:World)
variable{a b d e f g K w}
end
section
variable(a:OA)(b c:Nat)(d e f:Addr)(g i j:Int)(Q:aT)(w:World)
variable{a b c d e f i}
end
section
variable(a:OA)(b c:Nat)(d e f:Addr)(g i j:Int)(K:KT)(w:World)
end
section
variable(a b:AV)(d:OA)(e f:Nat)(g:AV)(K:KT)(w:World)
variable{a b d e f g K w}
end
section
variable(K:KT)(w:World)
variable{K w}
end
section
variable(a:Bool)(b:OA)(c d:Nat)(e:Int)(Q:aT)(w:World)
variable{b c d}
end
section
variable(a:Bool)(b:OA)(c d:Nat)(e:Int)(K:KT)(w:World)
end
def eB.k:List Nat:= []
section
variable(a b:AV)(d:OA)(e f:Nat)(g:OA)(i j:Nat)(K:KT)(w:World)
def eB.W:Prop:=
 let k:=w.alloc (.cells a 26);let m:=k.alloc (.cells b 24);∃n:Int,m.cell? ((aV w.heap.size).add 0)=some (.int .i64 n)/\∃o:AV,(o.size=32/\Cells m (aV k.heap.size) o)/\bG prog 12 #[.int .i64 n,.agg o,.slice d e f] m fun p q=>∃r t:OA,∃u v:Bool,p=.tuple #[.pointer r,.pointer t,.bool u,.bool v]/\Split (!u) (Split v (bG prog 13 #[] q fun x y=>∃z:Bool,x=.bool z/\K (.bool z) y) (K (.bool false) q)) (Split (!v) (Split v (bG prog 13 #[] q fun aa ba=>∃ca:Bool,aa=.bool ca/\K (.bool ca) ba) (K (.bool false) q)) (Split (decide ((i:Int)>(25:Int))) (Split v (bG prog 13 #[] q fun da ea=>∃fa:Bool,da=.bool fa/\K (.bool fa) ea) (K (.bool false) q)) (∃ga:AV,(ga.size=41/\Cells q (aV w.heap.size) ga)/\bG prog 20 #[.agg ga,.pointer r,.agg (Fb (.slice g i j))] q fun ia ja=>∃ka:OA,∃ma na:Nat,∃oa:Int,ia=.tuple #[.slice ka ma na,.int .i64 oa]/\∃pa:AV,(pa.size=41/\Cells ja (aV w.heap.size) pa)/\bG prog 39 #[.agg pa,.pointer t,.agg (Fb (.slice g i j))] ja fun qa ra=>∃ta:OA,∃ua va:Nat,∃xa:Int,qa=.tuple #[.slice ta ua va,.int .i64 xa]/\Split (oa==xa) (bG prog 17 #[.slice ka ma na,.slice ta ua va] ra fun ya za=>∃ae:Bool,ya=.bool ae/\Split ae (bG prog 13 #[] za fun be ce=>∃de:Bool,be=.bool de/\K (.bool de) ce) (K (.bool false) za)) (K (.bool false) ra))))
variable{a b d e f g i j K w}
theorem eB.of(h:eB.W a b d e f g i j K w):bG prog 9 #[.agg a,.agg b,.slice d e f,.slice g i j] w K:=
 rqq func9 (C:=eB.k) h
end
section
variable(a:AV)(K:KT)(w:World)
variable{a K w}
end
section
variable(a b:AV)(d:OA)(e f:Nat)(g:OA)(i j:Nat)(k:OA)(m n:Nat)(K:KT)(w:World)
variable{a b d e f g i j k m n K w}
end
section
variable(a:OA)(b c:Nat)(d:OA)(e f:Nat)(g:Addr)(i:Bool)(j:OA)(k m:Int)(Q:aT)(w:World)
variable{a b c d e f g j k}
end
section
variable(a:OA)(b c:Nat)(d:OA)(e f:Nat)(g:Addr)(i:Bool)(j:OA)(k m:Int)(K:KT)(w:World)
end
end Go.Proofs.YtfleamccglihoaaGreatDoor
