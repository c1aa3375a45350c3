import Derived.Test.YtfleamccglihoaaGreatDoorProg
import Derived.Test.YtfleamccglihoaaGreatDoorMA
import Derived.Test.YtfleamccglihoaaGreatDoorMB
open Go.IntKind (i64 u64)
set_option linter.unusedVariables false
namespace Go.Proofs.YtfleamccglihoaaGreatDoor
open Go.Proofs.Tryz
open Go Go.bV
def dD.k:List Nat:= []
section
variable(a b:OA)(d e:Nat)(K:KT)(w:World)
def dD.W:Prop:=
 let f:=w.alloc (.cells zH 24);bz prog 71 #[.pointer a,.slice b d e] f fun g i=>∃j:Int,g=.int .i64 j/\Split (j != (0:Int)) ((zH.size=32/\(∀k∈zH.toList,k.oneCell'=true)/\∀m,m<32->Wr i ((aR w.heap.size).add m))/\let n:=setCells i (aR w.heap.size) zH.toList 0;∃o:AV,(o.size=32/\Cells n (aR w.heap.size) o)/\K (.tuple #[.agg o,.int .i64 j]) n) (bz prog 72 #[.slice b d e,.func (.func 73) #[.pointer a] #[]] i fun p q=>∃r:AV,p=.agg r/\(r.size=32/\(∀t∈r.toList,t.oneCell'=true)/\∀u,u<32->Wr q ((aR w.heap.size).add u))/\let v:=setCells q (aR w.heap.size) r.toList 0;∃x:AV,(x.size=32/\Cells v (aR w.heap.size) x)/\K (.tuple #[.agg x,.int .i64 0]) v)
variable{a b d e K w}
theorem dD.of(h:dD.W a b d e K w):bz prog 21 #[.pointer a,.slice b d e] w K:=
 rqq func21 (C:=dD.k) h
end
def dN.k:List Nat:= []
section
variable(a:OA)(b:AV)(d:OA)(e f:Nat)(K:KT)(w:World)
def dN.W:Prop:=
 let g:=w.alloc (.cells b 24);let i:=g.alloc (.cells zC 53);bz prog 82 #[.pointer a] i fun j k=>∃m:Bool,j=.bool m/\Split (!m) ((zC.size=35/\(∀n∈zC.toList,n.oneCell'=true)/\∀o,o<35->Wr k ((aR g.heap.size).add o))/\let p:=setCells k (aR g.heap.size) zC.toList 0;∃q:AV,(q.size=35/\Cells p (aR g.heap.size) q)/\K (.tuple #[.agg q,.int .i64 1]) p) (let r:=k.drew;Is a fun t:Addr=>∃u:Option Nat,r.cell? (t.add 2)=some (.map u)/\∃v:AV,(v.size=32/\Cells r (aR w.heap.size) v)/\∃x:OA,(Instr.lookup 63 (.map u) (.agg v) false).run prog r=.ok (.pointer x) r/\Split (!(x).isNone) ((zC.size=35/\(∀y∈zC.toList,y.oneCell'=true)/\∀z,z<35->Wr r ((aR g.heap.size).add z))/\let a1:=setCells r (aR g.heap.size) zC.toList 0;∃b1:AV,(b1.size=35/\Cells a1 (aR g.heap.size) b1)/\K (.tuple #[.agg b1,.int .i64 7]) a1) (Split ((e:Int)==(0:Int)) ((zC.size=35/\(∀c1∈zC.toList,c1.oneCell'=true)/\∀d1,d1<35->Wr r ((aR g.heap.size).add d1))/\let e1:=setCells r (aR g.heap.size) zC.toList 0;∃f1:AV,(f1.size=35/\Cells e1 (aR g.heap.size) f1)/\K (.tuple #[.agg f1,.int .i64 9]) e1) (bz prog 57 #[.slice d e f] r fun g1 i1=>∃j1:OA,∃k1 m1:Nat,g1=.slice j1 k1 m1/\Split ((k1:Int) != (e:Int)) ((zC.size=35/\(∀n1∈zC.toList,n1.oneCell'=true)/\∀o1,o1<35->Wr i1 ((aR g.heap.size).add o1))/\let p1:=setCells i1 (aR g.heap.size) zC.toList 0;∃q1:AV,(q1.size=35/\Cells p1 (aR g.heap.size) q1)/\K (.tuple #[.agg q1,.int .i64 9]) p1) (bz prog 21 #[.pointer a,.slice d e f] i1 fun r1 t1=>∃u1:AV,∃v1:Int,r1=.tuple #[.agg u1,.int .i64 v1]/\let x1:=t1.alloc (.cells zH 24);(u1.size=32/\(∀y1∈u1.toList,y1.oneCell'=true)/\∀z1,z1<32->Wr x1 ((aR t1.heap.size).add z1))/\let a2:=setCells x1 (aR t1.heap.size) u1.toList 0;Split (v1 != (0:Int)) ((zC.size=35/\(∀b2∈zC.toList,b2.oneCell'=true)/\∀c2,c2<35->Wr a2 ((aR g.heap.size).add c2))/\let d2:=setCells a2 (aR g.heap.size) zC.toList 0;∃e2:AV,(e2.size=35/\Cells d2 (aR g.heap.size) e2)/\K (.tuple #[.agg e2,.int .i64 v1]) d2) (∃f2:AV,(f2.size=32/\Cells a2 (aR t1.heap.size) f2)/\bz prog 83 #[.pointer a,.agg f2,.slice d e f] a2 fun g2 i2=>∃j2:OA,g2=.pointer j2/\let k2:=i2.drew;Is a fun m2:Addr=>∃n2:OA,k2.cell? (m2.add 1)=some (.pointer n2)/\∃o2:AV,(o2.size=32/\Cells k2 (aR w.heap.size) o2)/\∃p2:AV,(p2.size=32/\Cells k2 (aR t1.heap.size) p2)/\bz prog 84 #[.pointer n2,.agg o2,.agg p2,.slice d e f] k2 fun q2 r2=>∃t2:Int,q2=.int .i64 t2/\let u2:=r2.drew;Is a fun v2:Addr=>∃x2:Option Nat,u2.cell? (v2.add 2)=some (.map x2)/\∃y2:AV,(y2.size=32/\Cells u2 (aR w.heap.size) y2)/\∃z2:World,(Instr.mapUpdate 63 (.map x2) (.agg y2) (.pointer j2)).run prog u2=.ok () z2/\Is j2 fun a3:Addr=>∃b3:AV,(b3.size=35/\Cells z2 (a3.add 0) b3)/\bz prog 85 #[.agg b3] z2 fun c3 d3=>∃e3:AV,c3=.agg e3/\(e3.size=35/\(∀f3∈e3.toList,f3.oneCell'=true)/\∀g3,g3<35->Wr d3 ((aR g.heap.size).add g3))/\let i3:=setCells d3 (aR g.heap.size) e3.toList 0;∃j3:AV,(j3.size=35/\Cells i3 (aR g.heap.size) j3)/\K (.tuple #[.agg j3,.int .i64 0]) i3)))))
variable{a b d e f K w}
theorem dN.of(h:dN.W a b d e f K w):bz prog 41 #[.pointer a,.agg b,.slice d e f] w K:=
 rqq func41 (C:=dN.k) h
end
def iG.k:List Nat:= []
section
variable(a:Int)(b:AV)(K:KT)(w:World)
def iG.W:Prop:=
 let d:=w.alloc (.cells b 24);Split (decide (a<(0:Int))) (K (.tuple #[.pointer none,.int .i64 2]) d) (Split (decide (a>(100:Int))) (K (.tuple #[.pointer none,.int .i64 2]) d) (let e:=d.drew;∃f:AV,(f.size=32/\Cells e (aR w.heap.size) f)/\∃g:AV,(g.size=32/\Cells e (aR w.heap.size) g)/\(bz prog 86 #[.agg f] e fun i j=>∃k:OA,i=.pointer k/\(∃cs:AV,(.agg g:Value)=.agg cs/\cs.size=32/\Cells j (aR w.heap.size) cs)/\(let m:=j.alloc (.map #[] 0);(∃cs:AV,(.agg g:Value)=.agg cs/\cs.size=32/\Cells m (aR w.heap.size) cs)/\let n:=m.alloc (.cells zS 129);(∃cs:AV,(.agg g:Value)=.agg cs/\cs.size=32/\Cells n (aR w.heap.size) cs)/\∃o:World,(Instr.mapUpdate 63 (.map (some j.heap.size)) (.agg g) (.pointer (some (aR m.heap.size)))).run prog n=.ok () o/\let p:=o.alloc (.cells (#[.int .i64 a,.pointer k,.map (some j.heap.size)]:AV) 65);K (.tuple #[.pointer (some (aR o.heap.size)),.int .i64 0]) p)/\(let q:=j.alloc (.cells zS 129);(∃cs:AV,(.agg g:Value)=.agg cs/\cs.size=32/\Cells q (aR w.heap.size) cs)/\let r:=q.alloc (.map #[] 0);(∃cs:AV,(.agg g:Value)=.agg cs/\cs.size=32/\Cells r (aR w.heap.size) cs)/\∃t:World,(Instr.mapUpdate 63 (.map (some q.heap.size)) (.agg g) (.pointer (some (aR j.heap.size)))).run prog r=.ok () t/\let u:=t.alloc (.cells (#[.int .i64 a,.pointer k,.map (some q.heap.size)]:AV) 65);K (.tuple #[.pointer (some (aR t.heap.size)),.int .i64 0]) u))/\(let v:=e.alloc (.map #[] 0);(∃cs:AV,(.agg g:Value)=.agg cs/\cs.size=32/\Cells v (aR w.heap.size) cs)/\(∃cs:AV,(.agg f:Value)=.agg cs/\cs.size=32/\Cells v (aR w.heap.size) cs)/\(bz prog 86 #[.agg f] v fun x y=>∃z:OA,x=.pointer z/\(∃cs:AV,(.agg g:Value)=.agg cs/\cs.size=32/\Cells y (aR w.heap.size) cs)/\let a1:=y.alloc (.cells zS 129);(∃cs:AV,(.agg g:Value)=.agg cs/\cs.size=32/\Cells a1 (aR w.heap.size) cs)/\∃b1:World,(Instr.mapUpdate 63 (.map (some e.heap.size)) (.agg g) (.pointer (some (aR y.heap.size)))).run prog a1=.ok () b1/\let c1:=b1.alloc (.cells (#[.int .i64 a,.pointer z,.map (some e.heap.size)]:AV) 65);K (.tuple #[.pointer (some (aR b1.heap.size)),.int .i64 0]) c1)/\(let d1:=v.alloc (.cells zS 129);(∃cs:AV,(.agg g:Value)=.agg cs/\cs.size=32/\Cells d1 (aR w.heap.size) cs)/\(∃cs:AV,(.agg f:Value)=.agg cs/\cs.size=32/\Cells d1 (aR w.heap.size) cs)/\(bz prog 86 #[.agg f] d1 fun e1 f1=>∃g1:OA,e1=.pointer g1/\(∃cs:AV,(.agg g:Value)=.agg cs/\cs.size=32/\Cells f1 (aR w.heap.size) cs)/\∃i1:World,(Instr.mapUpdate 63 (.map (some e.heap.size)) (.agg g) (.pointer (some (aR v.heap.size)))).run prog f1=.ok () i1/\let j1:=i1.alloc (.cells (#[.int .i64 a,.pointer g1,.map (some e.heap.size)]:AV) 65);K (.tuple #[.pointer (some (aR i1.heap.size)),.int .i64 0]) j1)/\(∃k1:World,(Instr.mapUpdate 63 (.map (some e.heap.size)) (.agg g) (.pointer (some (aR v.heap.size)))).run prog d1=.ok () k1/\(∃cs:AV,(.agg f:Value)=.agg cs/\cs.size=32/\Cells k1 (aR w.heap.size) cs)/\bz prog 86 #[.agg f] k1 fun m1 n1=>∃o1:OA,m1=.pointer o1/\let p1:=n1.alloc (.cells (#[.int .i64 a,.pointer o1,.map (some e.heap.size)]:AV) 65);K (.tuple #[.pointer (some (aR n1.heap.size)),.int .i64 0]) p1)))/\(let q1:=e.alloc (.cells zS 129);(∃cs:AV,(.agg g:Value)=.agg cs/\cs.size=32/\Cells q1 (aR w.heap.size) cs)/\(∃cs:AV,(.agg f:Value)=.agg cs/\cs.size=32/\Cells q1 (aR w.heap.size) cs)/\(bz prog 86 #[.agg f] q1 fun r1 t1=>∃u1:OA,r1=.pointer u1/\(∃cs:AV,(.agg g:Value)=.agg cs/\cs.size=32/\Cells t1 (aR w.heap.size) cs)/\let v1:=t1.alloc (.map #[] 0);(∃cs:AV,(.agg g:Value)=.agg cs/\cs.size=32/\Cells v1 (aR w.heap.size) cs)/\∃x1:World,(Instr.mapUpdate 63 (.map (some t1.heap.size)) (.agg g) (.pointer (some (aR e.heap.size)))).run prog v1=.ok () x1/\let y1:=x1.alloc (.cells (#[.int .i64 a,.pointer u1,.map (some t1.heap.size)]:AV) 65);K (.tuple #[.pointer (some (aR x1.heap.size)),.int .i64 0]) y1)/\(let z1:=q1.alloc (.map #[] 0);(∃cs:AV,(.agg g:Value)=.agg cs/\cs.size=32/\Cells z1 (aR w.heap.size) cs)/\(∃cs:AV,(.agg f:Value)=.agg cs/\cs.size=32/\Cells z1 (aR w.heap.size) cs)/\(bz prog 86 #[.agg f] z1 fun a2 b2=>∃c2:OA,a2=.pointer c2/\(∃cs:AV,(.agg g:Value)=.agg cs/\cs.size=32/\Cells b2 (aR w.heap.size) cs)/\∃d2:World,(Instr.mapUpdate 63 (.map (some q1.heap.size)) (.agg g) (.pointer (some (aR e.heap.size)))).run prog b2=.ok () d2/\let e2:=d2.alloc (.cells (#[.int .i64 a,.pointer c2,.map (some q1.heap.size)]:AV) 65);K (.tuple #[.pointer (some (aR d2.heap.size)),.int .i64 0]) e2)/\(∃f2:World,(Instr.mapUpdate 63 (.map (some q1.heap.size)) (.agg g) (.pointer (some (aR e.heap.size)))).run prog z1=.ok () f2/\(∃cs:AV,(.agg f:Value)=.agg cs/\cs.size=32/\Cells f2 (aR w.heap.size) cs)/\bz prog 86 #[.agg f] f2 fun g2 i2=>∃j2:OA,g2=.pointer j2/\let k2:=i2.alloc (.cells (#[.int .i64 a,.pointer j2,.map (some q1.heap.size)]:AV) 65);K (.tuple #[.pointer (some (aR i2.heap.size)),.int .i64 0]) k2)))))
variable{a b K w}
theorem iG.of(h:iG.W a b K w):bz prog 42 #[.int .i64 a,.agg b] w K:=
 rqq func42 (C:=iG.k) h
end
def eJ.k:List Nat:= []
section
variable(a:OA)(K:KT)(w:World)
def eJ.W:Prop:=
 Split ((a).isNone) (K (.pointer none) w) (Is a fun b:Addr=>∃d:OA,w.cell? (b.add 1)=some (.pointer d)/\K (.pointer d) w)
variable{a K w}
theorem eJ.of(h:eJ.W a K w):bz prog 45 #[.pointer a] w K:=
 rqq func45 (C:=eJ.k) h
end
section
variable(a:OA)(b d:AV)(K:KT)(w:World)
variable{a b d K w}
end
section
variable(a:OA)(b:AV)(d:OA)(e f:Nat)(K:KT)(w:World)
variable{a b d e f K w}
end
def eR.k:List Nat:= []
section
variable(a b:OA)(d e:Nat)(K:KT)(w:World)
def eR.W:Prop:=
 let f:=w.alloc (.cells (#[.pointer a]:AV) 28);∃g:OA,f.cell? (aR w.heap.size)=some (.pointer g)/\bz prog 82 #[.pointer g] f fun i j=>∃k:Bool,i=.bool k/\Split (!k) (K (.int .i64 1) j) (Split ((d:Int)==(0:Int)) (K (.int .i64 9) j) (bz prog 68 #[.slice b d e,.func (.func 105) #[] #[.pointer (some (aR w.heap.size))]] j fun m n=>∃o:Bool,m=.bool o/\Split o (K (.int .i64 6) n) (K (.int .i64 0) n)))
variable{a b d e K w}
theorem eR.of(h:eR.W a b d e K w):bz prog 71 #[.pointer a,.slice b d e] w K:=
 rqq func71 (C:=eR.k) h
end
def bE.k:List Nat:= []
section
variable(a:OA)(b d:AV)(K:KT)(w:World)
def bE.W:Prop:=
 let e:=w.alloc (.cells b 24);let f:=e.alloc (.cells d 24);let g:=f.drew;Is a fun i:Addr=>∃j:Option Nat,g.cell? (i.add 2)=some (.map j)/\∃k:AV,(k.size=32/\Cells g (aR w.heap.size) k)/\∃m:OA,(Instr.lookup 63 (.map j) (.agg k) false).run prog g=.ok (.pointer m) g/\Is m fun n:Addr=>∃o:Int,g.cell? ((n.add 0).add 32)=some (.int .u64 o)/\Is a fun p:Addr=>∃q:Option Nat,g.cell? (p.add 2)=some (.map q)/\∃r:AV,(r.size=32/\Cells g (aR e.heap.size) r)/\∃t:OA,(Instr.lookup 63 (.map q) (.agg r) false).run prog g=.ok (.pointer t) g/\Is t fun u:Addr=>∃v:Int,g.cell? ((u.add 0).add 32)=some (.int .u64 v)/\∃x:AV,(x.size=32/\Cells g (aR w.heap.size) x)/\∃y:AV,(y.size=32/\Cells g (aR e.heap.size) y)/\bz prog 107 #[.int .u64 o,.int .u64 v] g fun z a1=>∃b1:Int,z=.int .i64 b1/\(∃cs:AV,(.agg y:Value)=.agg cs/\cs.size=32/\Cells a1 (aR e.heap.size) cs)/\(∃cs:AV,(.agg x:Value)=.agg cs/\cs.size=32/\Cells a1 (aR w.heap.size) cs)/\bz prog 102 #[.agg x,.agg y] a1 fun c1 d1=>∃e1:Int,c1=.int .i64 e1/\let f1:=d1.alloc (.cells #[.int .i64 b1,.int .i64 e1] 3);bz prog 106 #[.slice (some (aR d1.heap.size)) 2 2] f1 fun g1 i1=>∃j1:Int,g1=.int .i64 j1/\K (.int .i64 j1) i1
variable{a b d K w}
theorem bE.of(h:bE.W a b d K w):bz prog 73 #[.pointer a,.agg b,.agg d] w K:=
 rqq func73 (C:=bE.k) h
end
def dp.k:List Nat:= []
section
variable(a:OA)(b:AV)(K:KT)(w:World)
def dp.W:Prop:=
 let d:=w.alloc (.cells b 24);let e:=d.alloc (.cells zC 53);bz prog 82 #[.pointer a] e fun f g=>∃i:Bool,f=.bool i/\Split (!i) ((zC.size=35/\(∀j∈zC.toList,j.oneCell'=true)/\∀k,k<35->Wr g ((aR d.heap.size).add k))/\let m:=setCells g (aR d.heap.size) zC.toList 0;∃n:AV,(n.size=35/\Cells m (aR d.heap.size) n)/\K (.tuple #[.agg n,.int .i64 1]) m) (let o:=g.drew;Is a fun p:Addr=>∃q:Option Nat,o.cell? (p.add 2)=some (.map q)/\∃r:AV,(r.size=32/\Cells o (aR w.heap.size) r)/\∃t:OA,(Instr.lookup 63 (.map q) (.agg r) false).run prog o=.ok (.pointer t) o/\Split ((t).isNone) ((zC.size=35/\(∀u∈zC.toList,u.oneCell'=true)/\∀v,v<35->Wr o ((aR d.heap.size).add v))/\let x:=setCells o (aR d.heap.size) zC.toList 0;∃y:AV,(y.size=35/\Cells x (aR d.heap.size) y)/\K (.tuple #[.agg y,.int .i64 6]) x) (let z:=o.drew;Is a fun a1:Addr=>∃b1:Option Nat,z.cell? (a1.add 2)=some (.map b1)/\∃c1:AV,(c1.size=32/\Cells z (aR w.heap.size) c1)/\∃d1:OA,(Instr.lookup 63 (.map b1) (.agg c1) false).run prog z=.ok (.pointer d1) z/\Is d1 fun e1:Addr=>∃f1:AV,(f1.size=35/\Cells z (e1.add 0) f1)/\bz prog 85 #[.agg f1] z fun g1 i1=>∃j1:AV,g1=.agg j1/\(j1.size=35/\(∀k1∈j1.toList,k1.oneCell'=true)/\∀m1,m1<35->Wr i1 ((aR d.heap.size).add m1))/\let n1:=setCells i1 (aR d.heap.size) j1.toList 0;∃o1:AV,(o1.size=35/\Cells n1 (aR d.heap.size) o1)/\K (.tuple #[.agg o1,.int .i64 0]) n1))
variable{a b K w}
theorem dp.of(h:dp.W a b K w):bz prog 78 #[.pointer a,.agg b] w K:=
 rqq func78 (C:=dp.k) h
end
def eI.k:List Nat:= []
section
variable(a:OA)(K:KT)(w:World)
def eI.W:Prop:=
 Split (!(a).isNone) (Is a fun b:Addr=>∃d:OA,w.cell? (b.add 1)=some (.pointer d)/\K (.bool (!(d).isNone)) w) (K (.bool false) w)
variable{a K w}
theorem eI.of(h:eI.W a K w):bz prog 82 #[.pointer a] w K:=
 rqq func82 (C:=eI.k) h
end
def ak.k:List Nat:= []
def ak.q1(K:KT):aP:=(aO 0 (cr (b9 (body f83))++(aT f83)) (bZ (fun b7 w_=>match cutAt ak.k (b9 (body f83))with|true=>Holds none [] prog 153 (b9 (body f83)) (bT prog f83 K) b7 w_|false=>aX none [] prog 153 ak.k (b9 (body f83)) (aT f83) (bT prog f83 K) b7 w_) (bT prog f83 K)))
def ak.e1(a b:Addr)(c:OA)(d:Addr)(e:OA)(f g:Nat)(i s:Int):Env:= [(3,.pointer (some a)),(4,.pointer (some b)),(6,.pointer c),(8,.pointer (some d)),(46,.slice e f g),(47,.int .i64 i),(48,.int .i64 s)]
def ak.u1:List Nat:= [3,4,6,8,46,47,48]
def ak.q2(K:KT):aP:=(aO 2 (cr (fX (sR (body f83)))++(aT f83)) (bZ (fun b7 w_=>match cutAt ak.k (fX (sR (body f83)))with|true=>Holds none [] prog 153 (fX (sR (body f83))) (bT prog f83 K) b7 w_|false=>aX none [] prog 153 ak.k (fX (sR (body f83))) (aT f83) (bT prog f83 K) b7 w_) (bT prog f83 K)))
def ak.e2(a:Addr)(b:OA)(c d e f g i:Addr)(j:OA)(k m:Nat)(n s:Int):Env:= [(3,.pointer (some a)),(6,.pointer b),(8,.pointer (some c)),(11,.pointer (some d)),(12,.func (.func 112) #[] #[.pointer (some e),.pointer (some f),.pointer (some g)]),(13,.pointer (some i)),(92,.slice j k m),(93,.int .i64 n),(94,.int .i64 s)]
def ak.u2:List Nat:= [3,6,8,11,12,13,92,93,94]
def ak.q3(Q:aP):aP:=(aO 4 (cr (fX (bB (sL (aQ (lB (bB (sR (sL (fX (body f83))))))))))++(cr (aQ (sR (lB (bB (sR (sL (fX (body f83))))))))++ak.u2)) (bZ (fun b7 w_=>match cutAt ak.k (fX (bB (sL (aQ (lB (bB (sR (sL (fX (body f83))))))))))with|true=>Holds none [] prog 153 (fX (bB (sL (aQ (lB (bB (sR (sL (fX (body f83)))))))))) (aO 3 (cr (aQ (sR (lB (bB (sR (sL (fX (body f83))))))))++ak.u2) (bZ (fun b7 w_=>match cutAt ak.k (aQ (sR (lB (bB (sR (sL (fX (body f83))))))))with|true=>Holds none [] prog 153 (aQ (sR (lB (bB (sR (sL (fX (body f83)))))))) Q b7 w_|false=>aX none [] prog 153 ak.k (aQ (sR (lB (bB (sR (sL (fX (body f83)))))))) ak.u2 Q b7 w_) Q)) b7 w_|false=>aX none [] prog 153 ak.k (fX (bB (sL (aQ (lB (bB (sR (sL (fX (body f83)))))))))) (cr (aQ (sR (lB (bB (sR (sL (fX (body f83))))))))++ak.u2) (aO 3 (cr (aQ (sR (lB (bB (sR (sL (fX (body f83))))))))++ak.u2) (bZ (fun b7 w_=>match cutAt ak.k (aQ (sR (lB (bB (sR (sL (fX (body f83))))))))with|true=>Holds none [] prog 153 (aQ (sR (lB (bB (sR (sL (fX (body f83)))))))) Q b7 w_|false=>aX none [] prog 153 ak.k (aQ (sR (lB (bB (sR (sL (fX (body f83)))))))) ak.u2 Q b7 w_) Q)) b7 w_) (aO 3 (cr (aQ (sR (lB (bB (sR (sL (fX (body f83))))))))++ak.u2) (bZ (fun b7 w_=>match cutAt ak.k (aQ (sR (lB (bB (sR (sL (fX (body f83))))))))with|true=>Holds none [] prog 153 (aQ (sR (lB (bB (sR (sL (fX (body f83)))))))) Q b7 w_|false=>aX none [] prog 153 ak.k (aQ (sR (lB (bB (sR (sL (fX (body f83)))))))) ak.u2 Q b7 w_) Q))))
def ak.e3(a:Addr)(b:OA)(c d e f g i j:Addr)(k:OA)(m n:Nat)(o p:Int)(q:OA)(s:Unit):Env:= [(3,.pointer (some a)),(6,.pointer b),(8,.pointer (some c)),(11,.pointer (some d)),(12,.func (.func 112) #[] #[.pointer (some e),.pointer (some f),.pointer (some g)]),(13,.pointer (some i)),(15,.pointer (some j)),(92,.slice k m n),(93,.int .i64 o),(94,.int .i64 p),(134,.pointer q)]
def ak.u3:List Nat:= [3,6,8,11,12,13,15,92,93,94,134]
section
variable(a:OA)(b:AV)(d:OA)(e f:Nat)(K:KT)(w:World)
def ak.W:Prop:=
 let g:=w.alloc (.cells (#[.pointer a]:AV) 28);let i:=g.alloc (.cells b 24);∃j:OA,i.cell? (aR w.heap.size)=some (.pointer j)/\Is j fun k:Addr=>∃m:OA,i.cell? (k.add 1)=some (.pointer m)/\bz prog 46 #[.pointer m] i fun n o=>∃p:OA,n=.pointer p/\let q:=o.drew;∃r:AV,(r.size=32/\Cells q (aR g.heap.size) r)/\∃t:OA,q.cell? (aR w.heap.size)=some (.pointer t)/\Is t fun u:Addr=>∃v:Option Nat,q.cell? (u.add 2)=some (.map v)/\∃x:AV,(x.size=32/\Cells q (aR g.heap.size) x)/\∃y:OA,(Instr.lookup 63 (.map v) (.agg x) false).run prog q=.ok (.pointer y) q/\Is y fun z:Addr=>∃a1:Int,q.cell? ((z.add 0).add 32)=some (.int .u64 a1)/\Is (prog.built 53 [(0,.agg r),(1,.int .u64 (u64.wrap (a1+(1:Int))))]) fun b1:AV=>(let c1:=q.alloc (.map #[] 0);c1.cell? ((z.add 0).add 32)=some (.int .u64 a1)/\(Instr.lookup 63 (.map v) (.agg x) false).run prog c1=.ok (.pointer y) c1/\(∃cs:AV,(.agg x:Value)=.agg cs/\cs.size=32/\Cells c1 (aR g.heap.size) cs)/\c1.cell? (u.add 2)=some (.map v)/\c1.cell? (aR w.heap.size)=some (.pointer t)/\(∃cs:AV,(.agg r:Value)=.agg cs/\cs.size=32/\Cells c1 (aR g.heap.size) cs)/\Is (prog.built 129 [(0,.agg b1),(1,.map (some q.heap.size))]) fun d1:AV=>(let e1:=c1.alloc (.cells d1 129);let f1:=e1.alloc (.cells (#[.pointer none]:AV) 123);Wr f1 (aR e1.heap.size)/\let g1:=f1.setCell (aR e1.heap.size) (.pointer (some (aR c1.heap.size)));bz prog 111 #[.pointer p,.slice d e f] g1 fun i1 j1=>∃k1:OA,∃m1 n1:Nat,i1=.slice k1 m1 n1/\∃(o1:OA) (p1 q1:Nat) (r1:World),(Builtin.append_ #[33,33] 33 #[.slice k1 m1 n1,.slice d e f]).run prog j1=.ok (.slice o1 p1 q1) r1/\bz prog 57 #[.slice o1 p1 q1] r1 fun t1 u1=>∃v1:OA,∃x1 y1:Nat,t1=.slice v1 x1 y1/\Holds none [] prog 153 (.loop (lB (bB (sR (sL (aQ (sR (body f83)))))))) (ak.q1 K) [(3,.pointer (some (aR w.heap.size))),(4,.pointer (some (aR g.heap.size))),(6,.pointer none),(8,.pointer (some (aR e1.heap.size))),(46,.slice v1 x1 y1),(47,.int .i64 (x1:Int)),(48,.int .i64 0)] u1)/\(let z1:=c1.alloc (.cells (#[.pointer none]:AV) 123);z1.cell? ((z.add 0).add 32)=some (.int .u64 a1)/\(Instr.lookup 63 (.map v) (.agg x) false).run prog z1=.ok (.pointer y) z1/\(∃cs:AV,(.agg x:Value)=.agg cs/\cs.size=32/\Cells z1 (aR g.heap.size) cs)/\z1.cell? (u.add 2)=some (.map v)/\z1.cell? (aR w.heap.size)=some (.pointer t)/\(∃cs:AV,(.agg r:Value)=.agg cs/\cs.size=32/\Cells z1 (aR g.heap.size) cs)/\let a2:=z1.alloc (.cells d1 129);Wr a2 (aR c1.heap.size)/\let b2:=a2.setCell (aR c1.heap.size) (.pointer (some (aR z1.heap.size)));bz prog 111 #[.pointer p,.slice d e f] b2 fun c2 d2=>∃e2:OA,∃f2 g2:Nat,c2=.slice e2 f2 g2/\∃(i2:OA) (j2 k2:Nat) (m2:World),(Builtin.append_ #[33,33] 33 #[.slice e2 f2 g2,.slice d e f]).run prog d2=.ok (.slice i2 j2 k2) m2/\bz prog 57 #[.slice i2 j2 k2] m2 fun n2 o2=>∃p2:OA,∃q2 r2:Nat,n2=.slice p2 q2 r2/\Holds none [] prog 153 (.loop (lB (bB (sR (sL (aQ (sR (body f83)))))))) (ak.q1 K) [(3,.pointer (some (aR w.heap.size))),(4,.pointer (some (aR g.heap.size))),(6,.pointer none),(8,.pointer (some (aR c1.heap.size))),(46,.slice p2 q2 r2),(47,.int .i64 (q2:Int)),(48,.int .i64 0)] o2))/\(let t2:=q.alloc (.cells (#[.pointer none]:AV) 123);t2.cell? ((z.add 0).add 32)=some (.int .u64 a1)/\(Instr.lookup 63 (.map v) (.agg x) false).run prog t2=.ok (.pointer y) t2/\(∃cs:AV,(.agg x:Value)=.agg cs/\cs.size=32/\Cells t2 (aR g.heap.size) cs)/\t2.cell? (u.add 2)=some (.map v)/\t2.cell? (aR w.heap.size)=some (.pointer t)/\(∃cs:AV,(.agg r:Value)=.agg cs/\cs.size=32/\Cells t2 (aR g.heap.size) cs)/\let u2:=t2.alloc (.map #[] 0);u2.cell? ((z.add 0).add 32)=some (.int .u64 a1)/\(Instr.lookup 63 (.map v) (.agg x) false).run prog u2=.ok (.pointer y) u2/\(∃cs:AV,(.agg x:Value)=.agg cs/\cs.size=32/\Cells u2 (aR g.heap.size) cs)/\u2.cell? (u.add 2)=some (.map v)/\u2.cell? (aR w.heap.size)=some (.pointer t)/\(∃cs:AV,(.agg r:Value)=.agg cs/\cs.size=32/\Cells u2 (aR g.heap.size) cs)/\Is (prog.built 129 [(0,.agg b1),(1,.map (some t2.heap.size))]) fun v2:AV=>let x2:=u2.alloc (.cells v2 129);Wr x2 (aR q.heap.size)/\let y2:=x2.setCell (aR q.heap.size) (.pointer (some (aR u2.heap.size)));bz prog 111 #[.pointer p,.slice d e f] y2 fun z2 a3=>∃b3:OA,∃c3 d3:Nat,z2=.slice b3 c3 d3/\∃(e3:OA) (f3 g3:Nat) (i3:World),(Builtin.append_ #[33,33] 33 #[.slice b3 c3 d3,.slice d e f]).run prog a3=.ok (.slice e3 f3 g3) i3/\bz prog 57 #[.slice e3 f3 g3] i3 fun j3 k3=>∃m3:OA,∃n3 o3:Nat,j3=.slice m3 n3 o3/\Holds none [] prog 153 (.loop (lB (bB (sR (sL (aQ (sR (body f83)))))))) (ak.q1 K) [(3,.pointer (some (aR w.heap.size))),(4,.pointer (some (aR g.heap.size))),(6,.pointer none),(8,.pointer (some (aR q.heap.size))),(46,.slice m3 n3 o3),(47,.int .i64 (n3:Int)),(48,.int .i64 0)] k3)
variable{a b d e f K w}
theorem ak.of(h:ak.W a b d e f K w):bz prog 83 #[.pointer a,.agg b,.slice d e f] w K:=
 rqq func83 (C:=ak.k) h
end
section
variable(a b:Addr)(c:OA)(d:Addr)(e:OA)(f g:Nat)(i j:Int)(Q:aP)(w:World)
def ak.B1:Prop:=
 Split (decide (j<i)) ((0<=j/\j<(f:Int))/\Is e fun k:Addr=>∃m:AV,(m.size=32/\Cells w (k.add (j.toNat*32)) m)/\let n:=w.alloc (.cells zH 24);(m.size=32/\(∀o∈m.toList,o.oneCell'=true)/\∀p,p<32->Wr n ((aR w.heap.size).add p))/\let q:=setCells n (aR w.heap.size) m.toList 0;let r:=q.drew;∃t:AV,(t.size=32/\Cells r (aR w.heap.size) t)/\∃u:AV,(u.size=32/\Cells r b u)/\(dw .u8 32 t/\dw .u8 32 u)/\Split (!(dU t u)) (∃v:OA,r.cell? a=some (.pointer v)/\Is v fun x:Addr=>∃y:OA,r.cell? (x.add 1)=some (.pointer y)/\∃z:AV,(z.size=32/\Cells r (aR w.heap.size) z)/\∃a1:AV,(a1.size=32/\Cells r b a1)/\bz prog 51 #[.pointer y,.agg z,.agg a1] r fun b1 c1=>∃d1:Bool,b1=.bool d1/\Split (!d1) (let e1:=c1.drew;∃f1:OA,e1.cell? d=some (.pointer f1)/\∃g1:OA,e1.cell? d=some (.pointer g1)/\Is g1 fun i1:Addr=>∃j1:OA,∃k1 m1:Nat,e1.cell? ((i1.add 0).add 33)=some (.slice j1 k1 m1)/\∃n1:AV,(n1.size=32/\Cells e1 (aR w.heap.size) n1)/\n1.size=32/\let o1:=e1.alloc (.cells (n1.toList++ []).toArray 24);o1.cell? ((i1.add 0).add 33)=some (.slice j1 k1 m1)/\o1.cell? d=some (.pointer g1)/\o1.cell? d=some (.pointer f1)/\∃(p1:OA) (q1 r1:Nat) (t1:World),(Builtin.append_ #[33,33] 33 #[.slice j1 k1 m1,.slice (some (aR e1.heap.size)) 1 1]).run prog o1=.ok (.slice p1 q1 r1) t1/\t1.cell? d=some (.pointer f1)/\Is f1 fun u1:Addr=>Wr t1 ((u1.add 0).add 33)/\let v1:=t1.setCell ((u1.add 0).add 33) (.slice p1 q1 r1);Q .normal [(3,.pointer (some a)),(4,.pointer (some b)),(6,.pointer c),(8,.pointer (some d)),(46,.slice e f g),(47,.int .i64 i),(48,.int .i64 (i64.wrap (j+(1:Int))))] v1) (Q .normal [(3,.pointer (some a)),(4,.pointer (some b)),(6,.pointer c),(8,.pointer (some d)),(46,.slice e f g),(47,.int .i64 i),(48,.int .i64 (i64.wrap (j+(1:Int))))] c1)) (Q .normal [(3,.pointer (some a)),(4,.pointer (some b)),(6,.pointer c),(8,.pointer (some d)),(46,.slice e f g),(47,.int .i64 i),(48,.int .i64 (i64.wrap (j+(1:Int))))] r)) (Q (.exit 0) [(3,.pointer (some a)),(4,.pointer (some b)),(6,.pointer c),(8,.pointer (some d)),(46,.slice e f g),(47,.int .i64 i),(48,.int .i64 j)] w)
theorem ak.b1:(aX none [] prog 153 ak.k (lB (bB (sR (sL (aQ (sR (body f83))))))) ak.u1 Q [(3,.pointer (some a)),(4,.pointer (some b)),(6,.pointer c),(8,.pointer (some d)),(46,.slice e f g),(47,.int .i64 i),(48,.int .i64 j)] w)=ak.B1 a b c d e f g i j Q w:=by kernel_rfl
variable{a b c d e f g i}
theorem ak.cy(I:Int->World->Prop)(μ:Int->World->Nat)(s:Int){Q:aP}{w:World}(h0:I s w)
 (round:∀s w,I s w->ak.B1 a b c d e f g i s (bR (ak.e1 a b c d e f g i) I μ s w Q) w):Holds none [] prog 153 (.loop (lB (bB (sR (sL (aQ (sR (body f83)))))))) Q (ak.e1 a b c d e f g i s) w:=
 bp ng mix (ak.e1 a b c d e f g i) I μ ak.k ak.u1 s (fun s Q w=>ak.B1 a b c d e f g i s Q w) (fun s Q w=>ak.b1 a b c d e f g i s Q w) h0 round
end
section
def ak.cV(a b:Addr)(c:OA)(d:Addr)(e:OA)(f g:Nat)(i j:Int)(K:KT)(w:World):Prop:=
 let k:=w.drew;∃m:OA,k.cell? d=some (.pointer m)/\Is m fun n:Addr=>∃o:OA,∃p q:Nat,k.cell? ((n.add 0).add 33)=some (.slice o p q)/\∃r:OA,k.cell? a=some (.pointer r)/\bz prog 53 #[.slice o p q,.func (.func 73) #[.pointer r] #[]] k fun t u=>t=.tuple #[]/\let v:=u.alloc (.cells (#[.slice none 0 0]:AV) 33);let x:=v.alloc (.cells (#[.nilFunc]:AV) 48);Wr x (aR v.heap.size)/\let y:=x.setCell (aR v.heap.size) (.func (.func 114) #[] #[.pointer (some d),.pointer (some a),.pointer (some b)]);∃z:OA,y.cell? d=some (.pointer z)/\Is z fun a1:Addr=>∃b1:OA,∃c1 d1:Nat,y.cell? ((a1.add 0).add 33)=some (.slice b1 c1 d1)/\Holds none [] prog 153 (.loop (lB (bB (sR (sL (fX (body f83))))))) (ak.q2 K) [(3,.pointer (some a)),(6,.pointer c),(8,.pointer (some d)),(11,.pointer (some (aR u.heap.size))),(12,.func (.func 112) #[] #[.pointer (some (aR u.heap.size)),.pointer (some a),.pointer (some b)]),(13,.pointer (some (aR v.heap.size))),(92,.slice b1 c1 d1),(93,.int .i64 (c1:Int)),(94,.int .i64 0)] y
variable(a b:Addr)(c:OA)(d:Addr)(e:OA)(f g:Nat)(i j:Int)(K:KT)(w:World)
theorem ak.dq:(ak.q1 K (.exit 0) [(3,.pointer (some a)),(4,.pointer (some b)),(6,.pointer c),(8,.pointer (some d)),(46,.slice e f g),(47,.int .i64 i),(48,.int .i64 j)] w)=ak.cV a b c d e f g i j K w:=by kernel_rfl
end
section
variable(a:Addr)(b:OA)(c d e f g i:Addr)(j:OA)(k m:Nat)(n o:Int)(Q:aP)(w:World)
def ak.B2:Prop:=
 Split (decide (o<n)) ((0<=o/\o<(k:Int))/\Is j fun p:Addr=>∃q:AV,(q.size=32/\Cells w (p.add (o.toNat*32)) q)/\let r:=w.alloc (.cells zH 24);(q.size=32/\(∀t∈q.toList,t.oneCell'=true)/\∀u,u<32->Wr r ((aR w.heap.size).add u))/\let v:=setCells r (aR w.heap.size) q.toList 0;let x:=v.alloc (.map #[] 0);let y:=x.alloc (.cells (#[.map none]:AV) 127);Wr y (aR x.heap.size)/\let z:=y.setCell (aR x.heap.size) (.map (some v.heap.size));∃a1:AV,(a1.size=32/\Cells z (aR w.heap.size) a1)/\bz prog 112 #[.agg a1,.func (.func 116) #[] #[.pointer (some i),.pointer (some (aR x.heap.size)),.pointer (some a)],.pointer (some e),.pointer (some f),.pointer (some g)] z fun b1 c1=>∃d1:Bool,b1=.bool d1/\let e1:=c1.drew;∃f1:OA,e1.cell? c=some (.pointer f1)/\∃g1:OA,e1.cell? c=some (.pointer g1)/\Is g1 fun i1:Addr=>∃j1:OA,∃k1 m1:Nat,e1.cell? ((i1.add 0).add 34)=some (.slice j1 k1 m1)/\let n1:=e1.alloc (.cells #[.bool d1] 4);n1.cell? ((i1.add 0).add 34)=some (.slice j1 k1 m1)/\n1.cell? c=some (.pointer g1)/\n1.cell? c=some (.pointer f1)/\∃(o1:OA) (p1 q1:Nat) (r1:World),(Builtin.append_ #[51,51] 51 #[.slice j1 k1 m1,.slice (some (aR e1.heap.size)) 1 1]).run prog n1=.ok (.slice o1 p1 q1) r1/\r1.cell? c=some (.pointer f1)/\Is f1 fun t1:Addr=>Wr r1 ((t1.add 0).add 34)/\let u1:=r1.setCell ((t1.add 0).add 34) (.slice o1 p1 q1);Split (!d1) (Q .normal [(3,.pointer (some a)),(6,.pointer b),(8,.pointer (some c)),(11,.pointer (some d)),(12,.func (.func 112) #[] #[.pointer (some e),.pointer (some f),.pointer (some g)]),(13,.pointer (some i)),(92,.slice j k m),(93,.int .i64 n),(94,.int .i64 (i64.wrap (o+(1:Int))))] u1) (∃v1:OA,u1.cell? c=some (.pointer v1)/\Is v1 fun x1:Addr=>∃y1:Int,u1.cell? ((x1.add 0).add 32)=some (.int .u64 y1)/\Is v1 fun z1:Addr=>Wr u1 ((z1.add 0).add 32)/\let a2:=u1.setCell ((z1.add 0).add 32) (.int .u64 (u64.wrap (y1+(1:Int))));let b2:=a2.drew;∃c2:OA,b2.cell? c=some (.pointer c2)/\Is c2 fun d2:Addr=>∃e2:Option Nat,b2.cell? (d2.add 35)=some (.map e2)/\∃f2:AV,(f2.size=32/\Cells b2 (aR w.heap.size) f2)/\∃g2:Option Nat,b2.cell? (aR x.heap.size)=some (.map g2)/\∃i2:Nat,(Builtin.len_ #[127] 3 #[.map g2]).run prog b2=.ok (.int .i64 (i2:Int)) b2/\∃j2:World,(Instr.mapUpdate 127 (.map e2) (.agg f2) (.int .i64 (i2:Int))).run prog b2=.ok () j2/\∃k2:Option Nat,j2.cell? (aR x.heap.size)=some (.map k2)/\∃(m2:OA) (n2:World),(Instr.range 127 (.map k2)).run prog j2=.ok (.pointer m2) n2/\Holds none [] prog 153 (.loop (lB (bB (sR (sL (b9 (aQ (sR (bB (sL (aQ (lB (bB (sR (sL (fX (body f83))))))))))))))))) (ak.q3 Q) [(3,.pointer (some a)),(6,.pointer b),(8,.pointer (some c)),(11,.pointer (some d)),(12,.func (.func 112) #[] #[.pointer (some e),.pointer (some f),.pointer (some g)]),(13,.pointer (some i)),(15,.pointer (some (aR w.heap.size))),(92,.slice j k m),(93,.int .i64 n),(94,.int .i64 o),(134,.pointer m2)] n2)) (Q (.exit 2) [(3,.pointer (some a)),(6,.pointer b),(8,.pointer (some c)),(11,.pointer (some d)),(12,.func (.func 112) #[] #[.pointer (some e),.pointer (some f),.pointer (some g)]),(13,.pointer (some i)),(92,.slice j k m),(93,.int .i64 n),(94,.int .i64 o)] w)
theorem ak.b2:(aX none [] prog 153 ak.k (lB (bB (sR (sL (fX (body f83)))))) ak.u2 Q [(3,.pointer (some a)),(6,.pointer b),(8,.pointer (some c)),(11,.pointer (some d)),(12,.func (.func 112) #[] #[.pointer (some e),.pointer (some f),.pointer (some g)]),(13,.pointer (some i)),(92,.slice j k m),(93,.int .i64 n),(94,.int .i64 o)] w)=ak.B2 a b c d e f g i j k m n o Q w:=by kernel_rfl
variable{a b c d e f g i j k m n}
theorem ak.gS(I:Int->World->Prop)(μ:Int->World->Nat)(s:Int){Q:aP}{w:World}(h0:I s w)
 (round:∀s w,I s w->ak.B2 a b c d e f g i j k m n s (bR (ak.e2 a b c d e f g i j k m n) I μ s w Q) w):Holds none [] prog 153 (.loop (lB (bB (sR (sL (fX (body f83))))))) Q (ak.e2 a b c d e f g i j k m n s) w:=
 bp ng mix (ak.e2 a b c d e f g i j k m n) I μ ak.k ak.u2 s (fun s Q w=>ak.B2 a b c d e f g i j k m n s Q w) (fun s Q w=>ak.b2 a b c d e f g i j k m n s Q w) h0 round
end
section
def ak.iI(a:Addr)(b:OA)(c d e f g i:Addr)(j:OA)(k m:Nat)(n o:Int)(K:KT)(w:World):Prop:=
 ∃p:OA,w.cell? c=some (.pointer p)/\K (.pointer p) w
variable(a:Addr)(b:OA)(c d e f g i:Addr)(j:OA)(k m:Nat)(n o:Int)(K:KT)(w:World)
theorem ak.jU:(ak.q2 K (.exit 2) [(3,.pointer (some a)),(6,.pointer b),(8,.pointer (some c)),(11,.pointer (some d)),(12,.func (.func 112) #[] #[.pointer (some e),.pointer (some f),.pointer (some g)]),(13,.pointer (some i)),(92,.slice j k m),(93,.int .i64 n),(94,.int .i64 o)] w)=ak.iI a b c d e f g i j k m n o K w:=by kernel_rfl
end
section
variable(a:Addr)(b:OA)(c d e f g i j:Addr)(k:OA)(m n:Nat)(o p:Int)(q:OA)(Q:aP)(w:World)
def ak.B3:Prop:=
 (∃r:World,(Instr.next (.pointer q) false 0).run prog w=.ok (.tuple #[.bool false]) r/\Q (.exit 4) [(3,.pointer (some a)),(6,.pointer b),(8,.pointer (some c)),(11,.pointer (some d)),(12,.func (.func 112) #[] #[.pointer (some e),.pointer (some f),.pointer (some g)]),(13,.pointer (some i)),(15,.pointer (some j)),(92,.slice k m n),(93,.int .i64 o),(94,.int .i64 p),(134,.pointer q)] r)\/∃(t u:Value) (v:World),(Instr.next (.pointer q) false 0).run prog w=.ok (.tuple #[.bool true,t,u]) v/\∃x:AV,∃y:Int,(Instr.entry (.pointer q)).run prog v=.ok (.tuple #[.agg x,.int .i64 y]) v/\let z:=v.alloc (.cells zH 24);(x.size=32/\(∀a1∈x.toList,a1.oneCell'=true)/\∀b1,b1<32->Wr z ((aR v.heap.size).add b1))/\let c1:=setCells z (aR v.heap.size) x.toList 0;let d1:=c1.drew;∃e1:OA,d1.cell? c=some (.pointer e1)/\Is e1 fun f1:Addr=>∃g1:Option Nat,d1.cell? (f1.add 35)=some (.map g1)/\∃i1:AV,(i1.size=32/\Cells d1 (aR v.heap.size) i1)/\∃j1:World,(Instr.mapUpdate 127 (.map g1) (.agg i1) (.int .i64 (i64.wrap (y+(1:Int))))).run prog d1=.ok () j1/\Q .normal [(3,.pointer (some a)),(6,.pointer b),(8,.pointer (some c)),(11,.pointer (some d)),(12,.func (.func 112) #[] #[.pointer (some e),.pointer (some f),.pointer (some g)]),(13,.pointer (some i)),(15,.pointer (some j)),(92,.slice k m n),(93,.int .i64 o),(94,.int .i64 p),(134,.pointer q)] j1
theorem ak.b3:(aX none [] prog 153 ak.k (lB (bB (sR (sL (b9 (aQ (sR (bB (sL (aQ (lB (bB (sR (sL (fX (body f83)))))))))))))))) ak.u3 Q [(3,.pointer (some a)),(6,.pointer b),(8,.pointer (some c)),(11,.pointer (some d)),(12,.func (.func 112) #[] #[.pointer (some e),.pointer (some f),.pointer (some g)]),(13,.pointer (some i)),(15,.pointer (some j)),(92,.slice k m n),(93,.int .i64 o),(94,.int .i64 p),(134,.pointer q)] w)=ak.B3 a b c d e f g i j k m n o p q Q w:=by kernel_rfl
variable{a b c d e f g i j k m n o p q}
theorem ak.sk(I:Unit->World->Prop)(μ:Unit->World->Nat)(s:Unit){Q:aP}{w:World}(h0:I s w)
 (round:∀s w,I s w->ak.B3 a b c d e f g i j k m n o p q (bR (ak.e3 a b c d e f g i j k m n o p q) I μ s w Q) w):Holds none [] prog 153 (.loop (lB (bB (sR (sL (b9 (aQ (sR (bB (sL (aQ (lB (bB (sR (sL (fX (body f83))))))))))))))))) Q (ak.e3 a b c d e f g i j k m n o p q s) w:=
 bp ng mix (ak.e3 a b c d e f g i j k m n o p q) I μ ak.k ak.u3 s (fun s Q w=>ak.B3 a b c d e f g i j k m n o p q Q w) (fun s Q w=>ak.b3 a b c d e f g i j k m n o p q Q w) h0 round
end
section
def ak.sK(a:Addr)(b:OA)(c d e f g i j:Addr)(k:OA)(m n:Nat)(o p:Int)(q:OA)(Q:aP)(w:World):Prop:=
 ∃r:OA,∃t u:Nat,w.cell? d=some (.slice r t u)/\∃v:AV,(v.size=32/\Cells w j v)/\v.size=32/\let x:=w.alloc (.cells (v.toList++ []).toArray 24);∃(y:OA) (z a1:Nat) (b1:World),(Builtin.append_ #[33,33] 33 #[.slice r t u,.slice (some (aR w.heap.size)) 1 1]).run prog x=.ok (.slice y z a1) b1/\Wr b1 d/\let c1:=b1.setCell d (.slice y z a1);Q .normal [(3,.pointer (some a)),(6,.pointer b),(8,.pointer (some c)),(11,.pointer (some d)),(12,.func (.func 112) #[] #[.pointer (some e),.pointer (some f),.pointer (some g)]),(13,.pointer (some i)),(92,.slice k m n),(93,.int .i64 o),(94,.int .i64 (i64.wrap (p+(1:Int))))] c1
variable(a:Addr)(b:OA)(c d e f g i j:Addr)(k:OA)(m n:Nat)(o p:Int)(q:OA)(Q:aP)(w:World)
theorem ak.yz:(ak.q3 Q (.exit 4) [(3,.pointer (some a)),(6,.pointer b),(8,.pointer (some c)),(11,.pointer (some d)),(12,.func (.func 112) #[] #[.pointer (some e),.pointer (some f),.pointer (some g)]),(13,.pointer (some i)),(15,.pointer (some j)),(92,.slice k m n),(93,.int .i64 o),(94,.int .i64 p),(134,.pointer q)] w)=ak.sK a b c d e f g i j k m n o p q Q w:=by kernel_rfl
end
def ir.k:List Nat:= []
section
variable(a:AV)(K:KT)(w:World)
def ir.W:Prop:=
 let b:=w.alloc (.cells a 53);let d:=b.alloc (.cells zC 53);let e:=d.drew;∃f:OA,∃g i:Nat,e.cell? ((aR w.heap.size).add 33)=some (.slice f g i)/\∃j:OA,∃k m:Nat,e.cell? ((aR w.heap.size).add 34)=some (.slice j k m)/\bz prog 55 #[.slice f g i] e fun n o=>∃p:OA,∃q r:Nat,n=.slice p q r/\o.cell? ((aR w.heap.size).add 34)=some (.slice j k m)/\bz prog 121 #[.slice j k m] o fun t u=>∃v:OA,∃x y:Nat,t=.slice v x y/\Wr u ((aR w.heap.size).add 33)/\let z:=u.setCell ((aR w.heap.size).add 33) (.slice p q r);Wr z ((aR w.heap.size).add 34)/\let a1:=z.setCell ((aR w.heap.size).add 34) (.slice v x y);∃b1:AV,(b1.size=35/\Cells a1 (aR w.heap.size) b1)/\(b1.size=35/\(∀c1∈b1.toList,c1.oneCell'=true)/\∀d1,d1<35->Wr a1 ((aR b.heap.size).add d1))/\let e1:=setCells a1 (aR b.heap.size) b1.toList 0;∃f1:AV,(f1.size=35/\Cells e1 (aR b.heap.size) f1)/\K (.agg f1) e1
variable{a K w}
theorem ir.of(h:ir.W a K w):bz prog 85 #[.agg a] w K:=
 rqq func85 (C:=ir.k) h
end
def eV.k:List Nat:= []
section
variable(a:AV)(b:Addr)(K:KT)(w:World)
def eV.W:Prop:=
 let d:=w.alloc (.cells a 24);let e:=d.drew;∃f:OA,e.cell? b=some (.pointer f)/\Is f fun g:Addr=>∃i:Option Nat,e.cell? (g.add 2)=some (.map i)/\∃j:AV,(j.size=32/\Cells e (aR w.heap.size) j)/\∃k:OA,(Instr.lookup 63 (.map i) (.agg j) false).run prog e=.ok (.pointer k) e/\K (.bool ((k).isNone)) e
variable{a b K w}
theorem eV.of(h:eV.W a b K w):bz prog 105 #[.agg a,.pointer (some b)] w K:=
 rqq func105 (C:=eV.k) h
end
def bP.k:List Nat:= []
def bP.q1(K:KT):aP:=(aO 0 (cr (aQ (sR (body f106)))++(aT f106)) (bZ (fun b7 w_=>match cutAt bP.k (aQ (sR (body f106)))with|true=>Holds none [] prog 18 (aQ (sR (body f106))) (bT prog f106 K) b7 w_|false=>aX none [] prog 18 bP.k (aQ (sR (body f106))) (aT f106) (bT prog f106 K) b7 w_) (bT prog f106 K)))
def bP.e1(a:Int)(b:OA)(c d:Nat)(e:Int)(s:Int×Int):Env:= [(2,.int .i64 s.1),(3,.int .i64 a),(6,.slice b c d),(7,.int .i64 e),(8,.int .i64 s.2)]
def bP.u1:List Nat:= [2,3,6,7,8]
section
variable(a:OA)(b d:Nat)(K:KT)(w:World)
def bP.W:Prop:=
 Holds none [] prog 18 (.loop (lB (bB (sR (sL (aQ (body f106))))))) (bP.q1 K) [(2,.int .i64 0),(3,.int .i64 0),(6,.slice a b d),(7,.int .i64 (b:Int)),(8,.int .i64 0)] w
variable{a b d K w}
theorem bP.of(h:bP.W a b d K w):bz prog 106 #[.slice a b d] w K:=
 rqq func106 (C:=bP.k) h
end
section
variable(a b:Int)(c:OA)(d e:Nat)(f g:Int)(Q:aP)(w:World)
def bP.B1:Prop:=
 Split (decide (g<f)) ((0<=g/\g<(d:Int))/\Is c fun i:Addr=>∃j:Int,w.cell? (i.add (g.toNat*1))=some (.int .i64 j)/\Split (j != b) (Q .ret [(2,.int .i64 j),(3,.int .i64 b),(6,.slice c d e),(7,.int .i64 f),(8,.int .i64 g)] w) (Q .normal [(2,.int .i64 a),(3,.int .i64 b),(6,.slice c d e),(7,.int .i64 f),(8,.int .i64 (i64.wrap (g+(1:Int))))] w)) (Q (.exit 0) [(2,.int .i64 a),(3,.int .i64 b),(6,.slice c d e),(7,.int .i64 f),(8,.int .i64 g)] w)
theorem bP.b1:(aX none [] prog 18 bP.k (lB (bB (sR (sL (aQ (body f106)))))) bP.u1 Q [(2,.int .i64 a),(3,.int .i64 b),(6,.slice c d e),(7,.int .i64 f),(8,.int .i64 g)] w)=bP.B1 a b c d e f g Q w:=by kernel_rfl
variable{b c d e f}
theorem bP.cy(I:Int×Int->World->Prop)(μ:Int×Int->World->Nat)(s:Int×Int){Q:aP}{w:World}(h0:I s w)
 (round:∀s w,I s w->bP.B1 (s.1) b c d e f (s.2) (bR (bP.e1 b c d e f) I μ s w Q) w):Holds none [] prog 18 (.loop (lB (bB (sR (sL (aQ (body f106))))))) Q (bP.e1 b c d e f s) w:=
 bp ng mix (bP.e1 b c d e f) I μ bP.k bP.u1 s (fun s Q w=>bP.B1 (s.1) b c d e f (s.2) Q w) (fun s Q w=>bP.b1 (s.1) b c d e f (s.2) Q w) h0 round
end
section
def bP.cV(a b:Int)(c:OA)(d e:Nat)(f g:Int)(K:KT)(w:World):Prop:=
 K (.int .i64 b) w
variable(a b:Int)(c:OA)(d e:Nat)(f g:Int)(K:KT)(w:World)
theorem bP.dq:(bP.q1 K (.exit 0) [(2,.int .i64 a),(3,.int .i64 b),(6,.slice c d e),(7,.int .i64 f),(8,.int .i64 g)] w)=bP.cV a b c d e f g K w:=by kernel_rfl
end
def dL.k:List Nat:= []
section
variable(a b:Int)(K:KT)(w:World)
def dL.W:Prop:=
 bz prog 139 #[.int .u64 a] w fun d e=>∃f:Bool,d=.bool f/\bz prog 139 #[.int .u64 b] e fun g i=>∃j:Bool,g=.bool j/\Split f (Split j (K (.int .i64 0) i) (K (.int .i64 (-1)) i)) (Split j (K (.int .i64 1) i) (Split (decide (a<b)) (K (.int .i64 (-1)) i) (Split (decide (a>b)) (K (.int .i64 1) i) (K (.int .i64 0) i))))
variable{a b K w}
theorem dL.of(h:dL.W a b K w):bz prog 107 #[.int .u64 a,.int .u64 b] w K:=
 rqq func107 (C:=dL.k) h
end
def du.k:List Nat:= []
section
variable(a:OA)(b d:AV)(K:KT)(w:World)
def du.W:Prop:=
 let e:=w.alloc (.cells b 24);let f:=e.alloc (.cells d 24);let g:=f.drew;∃i:AV,(i.size=32/\Cells g (aR w.heap.size) i)/\∃j:AV,(j.size=32/\Cells g (aR e.heap.size) j)/\(dw .u8 32 i/\dw .u8 32 j)/\Split (!(dU i j)) (Is a fun k:Addr=>∃m:OA,g.cell? (k.add 1)=some (.pointer m)/\∃n:AV,(n.size=32/\Cells g (aR w.heap.size) n)/\∃o:AV,(o.size=32/\Cells g (aR e.heap.size) o)/\bz prog 51 #[.pointer m,.agg n,.agg o] g fun p q=>∃r:Bool,p=.bool r/\Split (!r) (Is a fun t:Addr=>∃u:OA,q.cell? (t.add 1)=some (.pointer u)/\∃v:AV,(v.size=32/\Cells q (aR e.heap.size) v)/\∃x:AV,(x.size=32/\Cells q (aR w.heap.size) x)/\bz prog 51 #[.pointer u,.agg v,.agg x] q fun y z=>∃a1:Bool,y=.bool a1/\K (.bool (!a1)) z) (K (.bool false) q)) (K (.bool false) g)
variable{a b d K w}
theorem du.of(h:du.W a b d K w):bz prog 113 #[.pointer a,.agg b,.agg d] w K:=
 rqq func113 (C:=du.k) h
end
def b0.k:List Nat:= []
section
variable(a:AV)(b d e:Addr)(K:KT)(w:World)
def b0.W:Prop:=
 let f:=w.alloc (.cells a 24);let g:=f.drew;∃i:OA,g.cell? b=some (.pointer i)/\Is i fun j:Addr=>∃k:Option Nat,g.cell? (j.add 35)=some (.map k)/\∃m:AV,(m.size=32/\Cells g (aR w.heap.size) m)/\∃n:Int,∃o:Bool,(Instr.lookup 127 (.map k) (.agg m) true).run prog g=.ok (.tuple #[.int .i64 n,.bool o]) g/\Split o (K (.int .i64 n) g) (∃p:OA,g.cell? d=some (.pointer p)/\∃q:AV,(q.size=32/\Cells g e q)/\∃r:AV,(r.size=32/\Cells g (aR w.heap.size) r)/\bz prog 115 #[.pointer p,.agg q,.agg r] g fun t u=>∃v:Int,t=.int .i64 v/\K (.int .i64 v) u)
variable{a b d e K w}
theorem b0.of(h:b0.W a b d e K w):bz prog 114 #[.agg a,.pointer (some b),.pointer (some d),.pointer (some e)] w K:=
 rqq func114 (C:=b0.k) h
end
def cI.k:List Nat:= []
section
variable(a:AV)(b d e:Addr)(K:KT)(w:World)
def cI.W:Prop:=
 let f:=w.alloc (.cells a 24);let g:=f.drew;∃i:Option Nat,g.cell? d=some (.map i)/\∃j:AV,(j.size=32/\Cells g (aR w.heap.size) j)/\∃k:Value,g.cell? b=some (k)/\∃m:AV,(m.size=32/\Cells g (aR w.heap.size) m)/\∃(n:Nat) (o p:AV) (q:Func),(k:Value)=.func (.func n) o p/\prog.funcs[n]? =some q/\q.body.isSome=true/\bz prog n (o.toList++([.agg m]:List Value)++p.toList).toArray g fun r t=>∃u:Int,r=.int .i64 u/\(∃cs:AV,(.agg j:Value)=.agg cs/\cs.size=32/\Cells t (aR w.heap.size) cs)/\t.cell? d=some (.map i)/\∃v:World,(Instr.mapUpdate 127 (.map i) (.agg j) (.int .i64 u)).run prog t=.ok () v/\let x:=v.drew;∃y:Option Nat,x.cell? d=some (.map y)/\∃z:Nat,(Builtin.len_ #[127] 3 #[.map y]).run prog x=.ok (.int .i64 (z:Int)) x/\∃a1:OA,x.cell? e=some (.pointer a1)/\Is a1 fun b1:Addr=>∃c1:Int,x.cell? (b1.add 0)=some (.int .i64 c1)/\Split (decide ((z:Int)<=c1)) (∃d1:Option Nat,x.cell? d=some (.map d1)/\∃e1:AV,(e1.size=32/\Cells x (aR w.heap.size) e1)/\∃f1:Int,(Instr.lookup 127 (.map d1) (.agg e1) false).run prog x=.ok (.int .i64 f1) x/\∃g1:OA,x.cell? e=some (.pointer g1)/\Is g1 fun i1:Addr=>∃j1:Int,x.cell? (i1.add 0)=some (.int .i64 j1)/\K (.bool (decide (f1<j1))) x) (K (.bool false) x)
variable{a b d e K w}
theorem cI.of(h:cI.W a b d e K w):bz prog 116 #[.agg a,.pointer (some b),.pointer (some d),.pointer (some e)] w K:=
 rqq func116 (C:=cI.k) h
end
def dT.k:List Nat:= []
section
variable(a:OA)(b d:Nat)(K:KT)(w:World)
def dT.W:Prop:=
 Split ((a).isNone) (K (.slice none 0 0) w) (let e:=w.alloc (.cells #[] 4);∃(f:OA) (g i:Nat) (j:World),(Builtin.append_ #[51,51] 51 #[.slice (some (aR w.heap.size)) 0 0,.slice a b d]).run prog e=.ok (.slice f g i) j/\K (.slice f g i) j)
variable{a b d K w}
theorem dT.of(h:dT.W a b d K w):bz prog 121 #[.slice a b d] w K:=
 rqq func121 (C:=dT.k) h
end
def fE.k:List Nat:= []
section
variable(a:Int)(K:KT)(w:World)
def fE.W:Prop:=
 K (.bool (a != a)) w
variable{a K w}
theorem fE.of(h:fE.W a K w):bz prog 139 #[.int .u64 a] w K:=
 rqq func139 (C:=fE.k) h
end
def bg.k:List Nat:= []
def bg.xM(K:KT):aP:=(aO 0 (cr (aQ (body f115))++(aT f115)) (bZ (fun b7 w_=>match cutAt bg.k (aQ (body f115))with|true=>Holds none [] prog 33 (aQ (body f115)) (bT prog f115 K) b7 w_|false=>aX none [] prog 33 bg.k (aQ (body f115)) (aT f115) (bT prog f115 K) b7 w_) (bT prog f115 K)))
section
variable(a:OA)(b d:AV)(K:KT)(w:World)
def bg.W:Prop:=
 let e:=w.alloc (.cells (#[.pointer a]:AV) 28);let f:=e.alloc (.cells b 24);let g:=f.alloc (.cells d 24);let i:=g.alloc (.cells (#[.int .i64 0]:AV) 3);let j:=i.drew;∃k:OA,j.cell? (aR w.heap.size)=some (.pointer k)/\Is k fun m:Addr=>∃n:OA,j.cell? (m.add 1)=some (.pointer n)/\∃o:AV,(o.size=32/\Cells j (aR e.heap.size) o)/\bz prog 109 #[.pointer n,.agg o] j fun p q=>∃r:Value,p=r/\Holds none [] prog 33 (bB (sR (sL (sR (body f115))))) (bg.xM K) [(3,.pointer (some (aR w.heap.size))),(5,.pointer (some (aR f.heap.size))),(6,.pointer (some (aR g.heap.size))),(15,r)] q
variable{a b d K w}
theorem bg.of(h:bg.W a b d K w):bz prog 115 #[.pointer a,.agg b,.agg d] w K:=
 rqq func115 (C:=bg.k) h
end
section
def bg.A1(l:Nat)(a b c:Addr)(d:Value)(e:AV)(Q:aP)(w:World):Prop:=
 let f:=w.alloc (.cells zH 24);(e.size=32/\(∀g∈e.toList,g.oneCell'=true)/\∀i,i<32->Wr f ((aR w.heap.size).add i))/\let j:=setCells f (aR w.heap.size) e.toList 0;Q .normal [(3,.pointer (some a)),(5,.pointer (some b)),(6,.pointer (some c)),(7,.pointer (some (aR w.heap.size)))] j
variable(l:Nat)(a b c:Addr)(d:Value)(e:AV)(Q:aP)(w:World)
theorem bg.a1:(aX (some l) [] prog 33 bg.k (rA (bB (sR (sL (sR (body f115)))))) (cr (rB (bB (sR (sL (sR (body f115))))))) Q [(3,.pointer (some a)),(5,.pointer (some b)),(6,.pointer (some c)),(15,d),(16,.agg e)] w)=bg.A1 l a b c d e Q w:=by kernel_rfl
end
section
def bg.Y1(l:Nat)(a b c d:Addr)(Q:aP)(w:World):Prop:=
 let e:=w.drew;∃f:OA,e.cell? a=some (.pointer f)/\Is f fun g:Addr=>∃i:Option Nat,e.cell? (g.add 2)=some (.map i)/\∃j:AV,(j.size=32/\Cells e d j)/\∃k:OA,(Instr.lookup 63 (.map i) (.agg j) false).run prog e=.ok (.pointer k) e/\Is k fun m:Addr=>∃n:Option Nat,e.cell? (m.add 35)=some (.map n)/\∃o:AV,(o.size=32/\Cells e b o)/\∃p:Int,∃q:Bool,(Instr.lookup 127 (.map n) (.agg o) true).run prog e=.ok (.tuple #[.int .i64 p,.bool q]) e/\Split q (Wr e c/\let r:=e.setCell c (.int .i64 p);Q .ret [] r) (Q .normal [] e)
variable(l:Nat)(a b c d:Addr)(Q:aP)(w:World)
theorem bg.y1:(aX (some l) [] prog 33 bg.k (rB (bB (sR (sL (sR (body f115)))))) [] Q [(3,.pointer (some a)),(5,.pointer (some b)),(6,.pointer (some c)),(7,.pointer (some d))] w)=bg.Y1 l a b c d Q w:=by kernel_rfl
end
section
def bg.fT(a b c:Addr)(d:Value)(ms:AV)(K:KT)(w:World):Prop:=
 Wr w c/\let e:=w.setCell c (.int .i64 0);jN (marksOf (.agg ms)) e/\∃f:Int,(eK (marksOf (.agg ms)) e).cell? c=some (.int .i64 f)/\K (.int .i64 f) (eK (marksOf (.agg ms)) e)
variable(a b c:Addr)(d:Value)(ms:AV)(K:KT)(w:World)
theorem bg.iF:(bg.xM K .normal [(3,.pointer (some a)),(5,.pointer (some b)),(6,.pointer (some c)),(15,d),(4294967296,.agg ms)] w)=bg.fT a b c d ms K w:=by kernel_rfl
end
section
def bg.qm(a b c:Addr)(d:Value)(ms:AV)(K:KT)(w:World):Prop:=
 jN (marksOf (.agg ms)) w/\∃e:Int,(eK (marksOf (.agg ms)) w).cell? c=some (.int .i64 e)/\K (.int .i64 e) (eK (marksOf (.agg ms)) w)
variable(a b c:Addr)(d:Value)(ms:AV)(K:KT)(w:World)
theorem bg.u7:(bg.xM K .ret [(3,.pointer (some a)),(5,.pointer (some b)),(6,.pointer (some c)),(15,d),(4294967296,.agg ms)] w)=bg.qm a b c d ms K w:=by kernel_rfl
end
def ah.k:List Nat:= []
def ah.q1(K:KT):aP:=(aO 0 (cr (aQ (body f112))++(aT f112)) (bZ (fun b7 w_=>match cutAt ah.k (aQ (body f112))with|true=>Holds none [] prog 90 (aQ (body f112)) (bT prog f112 K) b7 w_|false=>aX none [] prog 90 ah.k (aQ (body f112)) (aT f112) (bT prog f112 K) b7 w_) (bT prog f112 K)))
def ah.e1(a b c d e:Addr)(f:OA)(g i:Nat)(j s:Int):Env:= [(3,.pointer (some a)),(4,.pointer (some b)),(5,.pointer (some c)),(6,.pointer (some d)),(7,.pointer (some e)),(14,.slice f g i),(15,.int .i64 j),(16,.int .i64 s)]
def ah.u1:List Nat:= [3,4,5,6,7,14,15,16]
def ah.xM(K:KT):aP:=(aO 2 (cr (aQ (sR (body f112)))++(aT f112)) (bZ (fun b7 w_=>match cutAt ah.k (aQ (sR (body f112)))with|true=>Holds none [] prog 90 (aQ (sR (body f112))) (bT prog f112 K) b7 w_|false=>aX none [] prog 90 ah.k (aQ (sR (body f112))) (aT f112) (bT prog f112 K) b7 w_) (bT prog f112 K)))
def ah.q2(l:Nat)(Q:aP):aP:=(aO 4 [] (aO 3 [] Q))
def ah.e2(a b c d e:Addr)(f:OA)(g i:Nat)(j s:Int):Env:= [(3,.pointer (some a)),(5,.pointer (some b)),(6,.pointer (some c)),(7,.pointer (some d)),(11,.pointer (some e)),(65,.slice f g i),(66,.int .i64 j),(67,.int .i64 s)]
def ah.u2:List Nat:= [3,5,6,7,11,65,66,67]
section
variable(a:AV)(b:Value)(d e f:Addr)(K:KT)(w:World)
def ah.W:Prop:=
 let g:=w.alloc (.cells a 24);let i:=g.alloc (.cells b.cells 101);let j:=i.alloc (.cells (#[.bool false]:AV) 4);∃k:OA,∃m n:Nat,j.cell? d=some (.slice k m n)/\Holds none [] prog 90 (.loop (lB (bB (sR (sL (sR (body f112))))))) (ah.q1 K) [(3,.pointer (some e)),(4,.pointer (some f)),(5,.pointer (some (aR w.heap.size))),(6,.pointer (some (aR g.heap.size))),(7,.pointer (some (aR i.heap.size))),(14,.slice k m n),(15,.int .i64 (m:Int)),(16,.int .i64 0)] j
variable{a b d e f K w}
theorem ah.of(h:ah.W a b d e f K w):bz prog 112 #[.agg a,b,.pointer (some d),.pointer (some e),.pointer (some f)] w K:=
 rqq func112 (C:=ah.k) h
end
section
variable(a b c d e:Addr)(f:OA)(g i:Nat)(j k:Int)(Q:aP)(w:World)
def ah.B1:Prop:=
 Split (decide (k<j)) ((0<=k/\k<(g:Int))/\Is f fun m:Addr=>∃n:AV,(n.size=32/\Cells w (m.add (k.toNat*32)) n)/\let o:=w.alloc (.cells zH 24);(n.size=32/\(∀p∈n.toList,p.oneCell'=true)/\∀q,q<32->Wr o ((aR w.heap.size).add q))/\let r:=setCells o (aR w.heap.size) n.toList 0;∃t:OA,r.cell? a=some (.pointer t)/\∃u:AV,(u.size=32/\Cells r (aR w.heap.size) u)/\∃v:AV,(v.size=32/\Cells r c v)/\bz prog 113 #[.pointer t,.agg u,.agg v] r fun x y=>∃z:Bool,x=.bool z/\Split z (∃a1:Value,y.cell? d=some (a1)/\∃b1:AV,(b1.size=32/\Cells y (aR w.heap.size) b1)/\∃(c1:Nat) (d1 e1:AV) (f1:Func),(a1:Value)=.func (.func c1) d1 e1/\prog.funcs[c1]? =some f1/\f1.body.isSome=true/\bz prog c1 (d1.toList++([.agg b1]:List Value)++e1.toList).toArray y fun g1 i1=>∃j1:Bool,g1=.bool j1/\Split (!j1) (Wr i1 e/\let k1:=i1.setCell e (.bool false);Q .ret [(3,.pointer (some a)),(4,.pointer (some b)),(5,.pointer (some c)),(6,.pointer (some d)),(7,.pointer (some e)),(14,.slice f g i),(15,.int .i64 j),(16,.int .i64 k)] k1) (Q .normal [(3,.pointer (some a)),(4,.pointer (some b)),(5,.pointer (some c)),(6,.pointer (some d)),(7,.pointer (some e)),(14,.slice f g i),(15,.int .i64 j),(16,.int .i64 (i64.wrap (k+(1:Int))))] i1)) (Q .normal [(3,.pointer (some a)),(4,.pointer (some b)),(5,.pointer (some c)),(6,.pointer (some d)),(7,.pointer (some e)),(14,.slice f g i),(15,.int .i64 j),(16,.int .i64 (i64.wrap (k+(1:Int))))] y)) (Q (.exit 0) [(3,.pointer (some a)),(4,.pointer (some b)),(5,.pointer (some c)),(6,.pointer (some d)),(7,.pointer (some e)),(14,.slice f g i),(15,.int .i64 j),(16,.int .i64 k)] w)
theorem ah.b1:(aX none [] prog 90 ah.k (lB (bB (sR (sL (sR (body f112)))))) ah.u1 Q [(3,.pointer (some a)),(4,.pointer (some b)),(5,.pointer (some c)),(6,.pointer (some d)),(7,.pointer (some e)),(14,.slice f g i),(15,.int .i64 j),(16,.int .i64 k)] w)=ah.B1 a b c d e f g i j k Q w:=by kernel_rfl
variable{a b c d e f g i j}
theorem ah.cy(I:Int->World->Prop)(μ:Int->World->Nat)(s:Int){Q:aP}{w:World}(h0:I s w)
 (round:∀s w,I s w->ah.B1 a b c d e f g i j s (bR (ah.e1 a b c d e f g i j) I μ s w Q) w):Holds none [] prog 90 (.loop (lB (bB (sR (sL (sR (body f112))))))) Q (ah.e1 a b c d e f g i j s) w:=
 bp ng mix (ah.e1 a b c d e f g i j) I μ ah.k ah.u1 s (fun s Q w=>ah.B1 a b c d e f g i j s Q w) (fun s Q w=>ah.b1 a b c d e f g i j s Q w) h0 round
end
section
def ah.cV(a b c d e:Addr)(f:OA)(g i:Nat)(j k:Int)(K:KT)(w:World):Prop:=
 let m:=w.drew;∃n:OA,m.cell? a=some (.pointer n)/\Is n fun o:Addr=>∃p:OA,m.cell? (o.add 1)=some (.pointer p)/\∃q:AV,(q.size=32/\Cells m b q)/\bz prog 109 #[.pointer p,.agg q] m fun r t=>∃u:Value,r=u/\Holds none [] prog 90 (bB (sR (sL (aQ (body f112))))) (ah.xM K) [(3,.pointer (some a)),(5,.pointer (some c)),(6,.pointer (some d)),(7,.pointer (some e)),(36,u)] t
variable(a b c d e:Addr)(f:OA)(g i:Nat)(j k:Int)(K:KT)(w:World)
theorem ah.dq:(ah.q1 K (.exit 0) [(3,.pointer (some a)),(4,.pointer (some b)),(5,.pointer (some c)),(6,.pointer (some d)),(7,.pointer (some e)),(14,.slice f g i),(15,.int .i64 j),(16,.int .i64 k)] w)=ah.cV a b c d e f g i j k K w:=by kernel_rfl
end
section
def ah.RA(a b c d e:Addr)(f:OA)(g i:Nat)(j k:Int)(K:KT)(w:World):Prop:=
 ∃m:Bool,w.cell? e=some (.bool m)/\K (.bool m) w
variable(a b c d e:Addr)(f:OA)(g i:Nat)(j k:Int)(K:KT)(w:World)
theorem ah.OH:(ah.q1 K .ret [(3,.pointer (some a)),(4,.pointer (some b)),(5,.pointer (some c)),(6,.pointer (some d)),(7,.pointer (some e)),(14,.slice f g i),(15,.int .i64 j),(16,.int .i64 k)] w)=ah.RA a b c d e f g i j k K w:=by kernel_rfl
end
section
def ah.A1(l:Nat)(a b c d:Addr)(e:Value)(f:AV)(Q:aP)(w:World):Prop:=
 let g:=w.alloc (.cells zH 24);(f.size=32/\(∀i∈f.toList,i.oneCell'=true)/\∀j,j<32->Wr g ((aR w.heap.size).add j))/\let k:=setCells g (aR w.heap.size) f.toList 0;Q .normal [(3,.pointer (some a)),(5,.pointer (some b)),(6,.pointer (some c)),(7,.pointer (some d)),(10,.pointer (some (aR w.heap.size)))] k
variable(l:Nat)(a b c d:Addr)(e:Value)(f:AV)(Q:aP)(w:World)
theorem ah.a1:(aX (some l) [] prog 90 ah.k (rA (bB (sR (sL (aQ (body f112)))))) (cr (rB (bB (sR (sL (aQ (body f112))))))) Q [(3,.pointer (some a)),(5,.pointer (some b)),(6,.pointer (some c)),(7,.pointer (some d)),(36,e),(37,.agg f)] w)=ah.A1 l a b c d e f Q w:=by kernel_rfl
end
section
variable(l:Nat)(a b c d e:Addr)(Q:aP)(w:World)
def ah.Y1:Prop:=
 ∃f:OA,w.cell? a=some (.pointer f)/\∃g:AV,(g.size=32/\Cells w e g)/\∃i:AV,(i.size=32/\Cells w b i)/\bz prog 113 #[.pointer f,.agg g,.agg i] w fun j k=>∃m:Bool,j=.bool m/\Split m (∃n:Value,k.cell? c=some (n)/\∃o:AV,(o.size=32/\Cells k e o)/\∃(p:Nat) (q r:AV) (t:Func),(n:Value)=.func (.func p) q r/\prog.funcs[p]? =some t/\t.body.isSome=true/\bz prog p (q.toList++([.agg o]:List Value)++r.toList).toArray k fun u v=>∃x:Bool,u=.bool x/\Split (!x) (Wr v d/\let y:=v.setCell d (.bool false);Q .ret [(3,.pointer (some a)),(5,.pointer (some b)),(6,.pointer (some c)),(7,.pointer (some d)),(10,.pointer (some e))] y) (let z:=v.drew;∃a1:OA,z.cell? a=some (.pointer a1)/\Is a1 fun b1:Addr=>∃c1:OA,z.cell? (b1.add 1)=some (.pointer c1)/\∃d1:AV,(d1.size=32/\Cells z e d1)/\∃e1:AV,(e1.size=32/\Cells z b e1)/\bz prog 51 #[.pointer c1,.agg d1,.agg e1] z fun f1 g1=>∃i1:Bool,f1=.bool i1/\Split i1 (Wr g1 d/\let j1:=g1.setCell d (.bool true);Q .ret [(3,.pointer (some a)),(5,.pointer (some b)),(6,.pointer (some c)),(7,.pointer (some d)),(10,.pointer (some e))] j1) (let k1:=g1.drew;∃m1:OA,k1.cell? a=some (.pointer m1)/\Is m1 fun n1:Addr=>∃o1:Option Nat,k1.cell? (n1.add 2)=some (.map o1)/\∃p1:AV,(p1.size=32/\Cells k1 e p1)/\∃q1:OA,(Instr.lookup 63 (.map o1) (.agg p1) false).run prog k1=.ok (.pointer q1) k1/\Is q1 fun r1:Addr=>∃t1:AV,(t1.size=35/\Cells k1 (r1.add 0) t1)/\let u1:=k1.alloc (.cells zC 53);(∃cs:AV,(.agg t1:Value)=.agg cs/\cs.size=35/\Cells u1 (r1.add 0) cs)/\(Instr.lookup 63 (.map o1) (.agg p1) false).run prog u1=.ok (.pointer q1) u1/\(∃cs:AV,(.agg p1:Value)=.agg cs/\cs.size=32/\Cells u1 e cs)/\u1.cell? (n1.add 2)=some (.map o1)/\u1.cell? a=some (.pointer m1)/\(t1.size=35/\(∀v1∈t1.toList,v1.oneCell'=true)/\∀x1,x1<35->Wr u1 ((aR k1.heap.size).add x1))/\let y1:=setCells u1 (aR k1.heap.size) t1.toList 0;∃z1:OA,∃a2 b2:Nat,y1.cell? ((aR k1.heap.size).add 33)=some (.slice z1 a2 b2)/\Holds (some l) [] prog 90 (.loop (lB (bB (b9 (bB (rB (bB (sR (sL (aQ (body f112))))))))))) (ah.q2 l Q) [(3,.pointer (some a)),(5,.pointer (some b)),(6,.pointer (some c)),(7,.pointer (some d)),(11,.pointer (some (aR k1.heap.size))),(65,.slice z1 a2 b2),(66,.int .i64 (a2:Int)),(67,.int .i64 0)] y1))) (let c2:=k.drew;∃d2:OA,c2.cell? a=some (.pointer d2)/\Is d2 fun e2:Addr=>∃f2:OA,c2.cell? (e2.add 1)=some (.pointer f2)/\∃g2:AV,(g2.size=32/\Cells c2 e g2)/\∃i2:AV,(i2.size=32/\Cells c2 b i2)/\bz prog 51 #[.pointer f2,.agg g2,.agg i2] c2 fun j2 k2=>∃m2:Bool,j2=.bool m2/\Split m2 (Wr k2 d/\let n2:=k2.setCell d (.bool true);Q .ret [(3,.pointer (some a)),(5,.pointer (some b)),(6,.pointer (some c)),(7,.pointer (some d)),(10,.pointer (some e))] n2) (let o2:=k2.drew;∃p2:OA,o2.cell? a=some (.pointer p2)/\Is p2 fun q2:Addr=>∃r2:Option Nat,o2.cell? (q2.add 2)=some (.map r2)/\∃t2:AV,(t2.size=32/\Cells o2 e t2)/\∃u2:OA,(Instr.lookup 63 (.map r2) (.agg t2) false).run prog o2=.ok (.pointer u2) o2/\Is u2 fun v2:Addr=>∃x2:AV,(x2.size=35/\Cells o2 (v2.add 0) x2)/\let y2:=o2.alloc (.cells zC 53);(∃cs:AV,(.agg x2:Value)=.agg cs/\cs.size=35/\Cells y2 (v2.add 0) cs)/\(Instr.lookup 63 (.map r2) (.agg t2) false).run prog y2=.ok (.pointer u2) y2/\(∃cs:AV,(.agg t2:Value)=.agg cs/\cs.size=32/\Cells y2 e cs)/\y2.cell? (q2.add 2)=some (.map r2)/\y2.cell? a=some (.pointer p2)/\(x2.size=35/\(∀z2∈x2.toList,z2.oneCell'=true)/\∀a3,a3<35->Wr y2 ((aR o2.heap.size).add a3))/\let b3:=setCells y2 (aR o2.heap.size) x2.toList 0;∃c3:OA,∃d3 e3:Nat,b3.cell? ((aR o2.heap.size).add 33)=some (.slice c3 d3 e3)/\Holds (some l) [] prog 90 (.loop (lB (bB (b9 (bB (rB (bB (sR (sL (aQ (body f112))))))))))) (ah.q2 l Q) [(3,.pointer (some a)),(5,.pointer (some b)),(6,.pointer (some c)),(7,.pointer (some d)),(11,.pointer (some (aR o2.heap.size))),(65,.slice c3 d3 e3),(66,.int .i64 (d3:Int)),(67,.int .i64 0)] b3))
theorem ah.y1:(aX (some l) [] prog 90 ah.k (rB (bB (sR (sL (aQ (body f112)))))) [] Q [(3,.pointer (some a)),(5,.pointer (some b)),(6,.pointer (some c)),(7,.pointer (some d)),(10,.pointer (some e))] w)=ah.Y1 l a b c d e Q w:=by kernel_rfl
end
section
def ah.fT(a b c d:Addr)(e:Value)(ms:AV)(K:KT)(w:World):Prop:=
 Wr w d/\let f:=w.setCell d (.bool true);jN (marksOf (.agg ms)) f/\∃g:Bool,(eK (marksOf (.agg ms)) f).cell? d=some (.bool g)/\K (.bool g) (eK (marksOf (.agg ms)) f)
variable(a b c d:Addr)(e:Value)(ms:AV)(K:KT)(w:World)
theorem ah.iF:(ah.xM K .normal [(3,.pointer (some a)),(5,.pointer (some b)),(6,.pointer (some c)),(7,.pointer (some d)),(36,e),(4294967296,.agg ms)] w)=ah.fT a b c d e ms K w:=by kernel_rfl
end
section
def ah.qm(a b c d:Addr)(e:Value)(ms:AV)(K:KT)(w:World):Prop:=
 jN (marksOf (.agg ms)) w/\∃f:Bool,(eK (marksOf (.agg ms)) w).cell? d=some (.bool f)/\K (.bool f) (eK (marksOf (.agg ms)) w)
variable(a b c d:Addr)(e:Value)(ms:AV)(K:KT)(w:World)
theorem ah.u7:(ah.xM K .ret [(3,.pointer (some a)),(5,.pointer (some b)),(6,.pointer (some c)),(7,.pointer (some d)),(36,e),(4294967296,.agg ms)] w)=ah.qm a b c d e ms K w:=by kernel_rfl
end
section
def ah.B2(l:Nat)(a b c d e:Addr)(f:OA)(g i:Nat)(j k:Int)(Q:aP)(w:World):Prop:=
 Split (decide (k<j)) ((0<=k/\k<(g:Int))/\Is f fun m:Addr=>∃n:AV,(n.size=32/\Cells w (m.add (k.toNat*32)) n)/\let o:=w.alloc (.cells zH 24);(n.size=32/\(∀p∈n.toList,p.oneCell'=true)/\∀q,q<32->Wr o ((aR w.heap.size).add q))/\let r:=setCells o (aR w.heap.size) n.toList 0;∃t:OA,∃u v:Nat,r.cell? (e.add 34)=some (.slice t u v)/\(0<=k/\k<(u:Int))/\Is t fun x:Addr=>∃y:Bool,r.cell? (x.add (k.toNat*1))=some (.bool y)/\Split y (∃z:OA,r.cell? a=some (.pointer z)/\∃a1:AV,(a1.size=32/\Cells r (aR w.heap.size) a1)/\∃b1:AV,(b1.size=32/\Cells r b b1)/\bz prog 113 #[.pointer z,.agg a1,.agg b1] r fun c1 d1=>∃e1:Bool,c1=.bool e1/\Split e1 (∃f1:Value,d1.cell? c=some (f1)/\∃g1:AV,(g1.size=32/\Cells d1 (aR w.heap.size) g1)/\∃(i1:Nat) (j1 k1:AV) (m1:Func),(f1:Value)=.func (.func i1) j1 k1/\prog.funcs[i1]? =some m1/\m1.body.isSome=true/\bz prog i1 (j1.toList++([.agg g1]:List Value)++k1.toList).toArray d1 fun n1 o1=>∃p1:Bool,n1=.bool p1/\Split (!p1) (Wr o1 d/\let q1:=o1.setCell d (.bool false);Q .ret [(3,.pointer (some a)),(5,.pointer (some b)),(6,.pointer (some c)),(7,.pointer (some d)),(11,.pointer (some e)),(65,.slice f g i),(66,.int .i64 j),(67,.int .i64 k)] q1) (Q .normal [(3,.pointer (some a)),(5,.pointer (some b)),(6,.pointer (some c)),(7,.pointer (some d)),(11,.pointer (some e)),(65,.slice f g i),(66,.int .i64 j),(67,.int .i64 (i64.wrap (k+(1:Int))))] o1)) (Q .normal [(3,.pointer (some a)),(5,.pointer (some b)),(6,.pointer (some c)),(7,.pointer (some d)),(11,.pointer (some e)),(65,.slice f g i),(66,.int .i64 j),(67,.int .i64 (i64.wrap (k+(1:Int))))] d1)) (Q .normal [(3,.pointer (some a)),(5,.pointer (some b)),(6,.pointer (some c)),(7,.pointer (some d)),(11,.pointer (some e)),(65,.slice f g i),(66,.int .i64 j),(67,.int .i64 (i64.wrap (k+(1:Int))))] r)) (Q (.exit 4) [(3,.pointer (some a)),(5,.pointer (some b)),(6,.pointer (some c)),(7,.pointer (some d)),(11,.pointer (some e)),(65,.slice f g i),(66,.int .i64 j),(67,.int .i64 k)] w)
variable(l:Nat)(a b c d e:Addr)(f:OA)(g i:Nat)(j k:Int)(Q:aP)(w:World)
theorem ah.b2:(aX (some l) [] prog 90 ah.k (lB (bB (b9 (bB (rB (bB (sR (sL (aQ (body f112)))))))))) ah.u2 Q [(3,.pointer (some a)),(5,.pointer (some b)),(6,.pointer (some c)),(7,.pointer (some d)),(11,.pointer (some e)),(65,.slice f g i),(66,.int .i64 j),(67,.int .i64 k)] w)=ah.B2 l a b c d e f g i j k Q w:=by kernel_rfl
variable{l a b c d e f g i j}
theorem ah.gS(I:Int->World->Prop)(μ:Int->World->Nat)(s:Int){Q:aP}{w:World}(h0:I s w)
 (round:∀s w,I s w->ah.B2 l a b c d e f g i j s (bR (ah.e2 a b c d e f g i j) I μ s w Q) w):Holds (some l) [] prog 90 (.loop (lB (bB (b9 (bB (rB (bB (sR (sL (aQ (body f112))))))))))) Q (ah.e2 a b c d e f g i j s) w:=
 bp ng mix (ah.e2 a b c d e f g i j) I μ ah.k ah.u2 s (fun s Q w=>ah.B2 l a b c d e f g i j s Q w) (fun s Q w=>ah.b2 l a b c d e f g i j s Q w) h0 round
end
section
def ah.XH(l:Nat)(a b c d e:Addr)(f:OA)(g i:Nat)(j k:Int)(Q:aP)(w:World):Prop:=
 Q .normal [] w
variable(l:Nat)(a b c d e:Addr)(f:OA)(g i:Nat)(j k:Int)(Q:aP)(w:World)
theorem ah.Zi:(ah.q2 l Q (.exit 4) [(3,.pointer (some a)),(5,.pointer (some b)),(6,.pointer (some c)),(7,.pointer (some d)),(11,.pointer (some e)),(65,.slice f g i),(66,.int .i64 j),(67,.int .i64 k)] w)=ah.XH l a b c d e f g i j k Q w:=by kernel_rfl
end
def aq.k:List Nat:= []
def aq.q1(K:KT):aP:=(aO 0 (cr (b9 (body f72))++(aT f72)) (bZ (fun b7 w_=>match cutAt aq.k (b9 (body f72))with|true=>Holds none [] prog 33 (b9 (body f72)) (bT prog f72 K) b7 w_|false=>aX none [] prog 33 aq.k (b9 (body f72)) (aT f72) (bT prog f72 K) b7 w_) (bT prog f72 K)))
def aq.e1(a:OA)(b c:Nat)(d:OA)(e f:Addr)(s:Int):Env:= [(0,.slice a b c),(1,.func (.func 73) #[.pointer d] #[]),(4,.pointer (some e)),(5,.pointer (some f)),(6,.int .i64 s)]
def aq.u1:List Nat:= [0,1,4,5,6]
section
variable(a:OA)(b d:Nat)(e:OA)(K:KT)(w:World)
def aq.W:Prop:=
 let f:=w.alloc (.cells zH 24);Split (decide ((b:Int)<(1:Int))) (False) ((0<=(0:Int)/\(0:Int)<(b:Int))/\Is a fun g:Addr=>∃i:AV,(i.size=32/\Cells f (g.add ((0:Int).toNat*32)) i)/\let j:=f.alloc (.cells zH 24);(i.size=32/\(∀k∈i.toList,k.oneCell'=true)/\∀m,m<32->Wr j ((aR f.heap.size).add m))/\let n:=setCells j (aR f.heap.size) i.toList 0;Holds none [] prog 33 (.loop (lB (bB (sR (sL (aQ (sR (body f72)))))))) (aq.q1 K) [(0,.slice a b d),(1,.func (.func 73) #[.pointer e] #[]),(4,.pointer (some (aR w.heap.size))),(5,.pointer (some (aR f.heap.size))),(6,.int .i64 1)] n)
variable{a b d e K w}
theorem aq.of(h:aq.W a b d e K w):bz prog 72 #[.slice a b d,.func (.func 73) #[.pointer e] #[]] w K:=
 rqq func72 (C:=aq.k) h
end
section
variable(a:OA)(b c:Nat)(d:OA)(e f:Addr)(g:Int)(Q:aP)(w:World)
def aq.B1:Prop:=
 Split (decide (g<(b:Int))) (let i:=w.drew;(0<=g/\g<(b:Int))/\Is a fun j:Addr=>∃k:AV,(k.size=32/\Cells i (j.add (g.toNat*32)) k)/\∃m:AV,(m.size=32/\Cells i f m)/\bz prog 73 #[.pointer d,.agg k,.agg m] i fun n o=>∃p:Int,n=.int .i64 p/\Split (decide (p>(0:Int))) ((0<=g/\g<(b:Int))/\Is a fun q:Addr=>∃r:AV,(r.size=32/\Cells o (q.add (g.toNat*32)) r)/\(r.size=32/\(∀t∈r.toList,t.oneCell'=true)/\∀u,u<32->Wr o (f.add u))/\let v:=setCells o f r.toList 0;Q .normal [(0,.slice a b c),(1,.func (.func 73) #[.pointer d] #[]),(4,.pointer (some e)),(5,.pointer (some f)),(6,.int .i64 (i64.wrap (g+(1:Int))))] v) (Q .normal [(0,.slice a b c),(1,.func (.func 73) #[.pointer d] #[]),(4,.pointer (some e)),(5,.pointer (some f)),(6,.int .i64 (i64.wrap (g+(1:Int))))] o)) (Q (.exit 0) [(0,.slice a b c),(1,.func (.func 73) #[.pointer d] #[]),(4,.pointer (some e)),(5,.pointer (some f)),(6,.int .i64 g)] w)
theorem aq.b1:(aX none [] prog 33 aq.k (lB (bB (sR (sL (aQ (sR (body f72))))))) aq.u1 Q [(0,.slice a b c),(1,.func (.func 73) #[.pointer d] #[]),(4,.pointer (some e)),(5,.pointer (some f)),(6,.int .i64 g)] w)=aq.B1 a b c d e f g Q w:=by kernel_rfl
variable{a b c d e f}
theorem aq.cy(I:Int->World->Prop)(μ:Int->World->Nat)(s:Int){Q:aP}{w:World}(h0:I s w)
 (round:∀s w,I s w->aq.B1 a b c d e f s (bR (aq.e1 a b c d e f) I μ s w Q) w):Holds none [] prog 33 (.loop (lB (bB (sR (sL (aQ (sR (body f72)))))))) Q (aq.e1 a b c d e f s) w:=
 bp ng mix (aq.e1 a b c d e f) I μ aq.k aq.u1 s (fun s Q w=>aq.B1 a b c d e f s Q w) (fun s Q w=>aq.b1 a b c d e f s Q w) h0 round
end
section
def aq.cV(a:OA)(b c:Nat)(d:OA)(e f:Addr)(g:Int)(K:KT)(w:World):Prop:=
 ∃i:AV,(i.size=32/\Cells w f i)/\(i.size=32/\(∀j∈i.toList,j.oneCell'=true)/\∀k,k<32->Wr w (e.add k))/\let m:=setCells w e i.toList 0;∃n:AV,(n.size=32/\Cells m e n)/\K (.agg n) m
variable(a:OA)(b c:Nat)(d:OA)(e f:Addr)(g:Int)(K:KT)(w:World)
theorem aq.dq:(aq.q1 K (.exit 0) [(0,.slice a b c),(1,.func (.func 73) #[.pointer d] #[]),(4,.pointer (some e)),(5,.pointer (some f)),(6,.int .i64 g)] w)=aq.cV a b c d e f g K w:=by kernel_rfl
end
def cf.k:List Nat:= []
section
variable(a:OA)(b d:Nat)(e:Addr)(K:KT)(w:World)
def cf.W:Prop:=
 bz prog 91 #[.slice a b d,.func (.func 105) #[] #[.pointer (some e)]] w fun f g=>∃i:Int,f=.int .i64 i/\K (.bool (decide (i>=(0:Int)))) g
variable{a b d e K w}
theorem cf.of(h:cf.W a b d e K w):bz prog 68 #[.slice a b d,.func (.func 105) #[] #[.pointer (some e)]] w K:=
 rqq func68 (C:=cf.k) h
end
def ao.k:List Nat:= []
def ao.q1(K:KT):aP:=(aO 0 (cr (aQ (body f91))++(aT f91)) (bZ (fun b7 w_=>match cutAt ao.k (aQ (body f91))with|true=>Holds none [] prog 19 (aQ (body f91)) (bT prog f91 K) b7 w_|false=>aX none [] prog 19 ao.k (aQ (body f91)) (aT f91) (bT prog f91 K) b7 w_) (bT prog f91 K)))
def ao.e1(a:OA)(b c:Nat)(d:Addr)(e:Int)(s:Int×Int):Env:= [(0,.slice a b c),(1,.func (.func 105) #[] #[.pointer (some d)]),(4,.int .i64 s.1),(7,.int .i64 e),(8,.int .i64 s.2)]
def ao.u1:List Nat:= [0,1,4,7,8]
section
variable(a:OA)(b d:Nat)(e:Addr)(K:KT)(w:World)
def ao.W:Prop:=
 Holds none [] prog 19 (.loop (lB (bB (sR (sL (sR (body f91))))))) (ao.q1 K) [(0,.slice a b d),(1,.func (.func 105) #[] #[.pointer (some e)]),(4,.int .i64 0),(7,.int .i64 (b:Int)),(8,.int .i64 0)] w
variable{a b d e K w}
theorem ao.of(h:ao.W a b d e K w):bz prog 91 #[.slice a b d,.func (.func 105) #[] #[.pointer (some e)]] w K:=
 rqq func91 (C:=ao.k) h
end
section
variable(a:OA)(b c:Nat)(d:Addr)(e f g:Int)(Q:aP)(w:World)
def ao.B1:Prop:=
 Split (decide (g<f)) ((0<=g/\g<(b:Int))/\Is a fun i:Addr=>∃j:AV,(j.size=32/\Cells w (i.add (g.toNat*32)) j)/\bz prog 105 #[.agg j,.pointer (some d)] w fun k m=>∃n:Bool,k=.bool n/\Split n (Q .ret [(0,.slice a b c),(1,.func (.func 105) #[] #[.pointer (some d)]),(4,.int .i64 g),(7,.int .i64 f),(8,.int .i64 g)] m) (Q .normal [(0,.slice a b c),(1,.func (.func 105) #[] #[.pointer (some d)]),(4,.int .i64 e),(7,.int .i64 f),(8,.int .i64 (i64.wrap (g+(1:Int))))] m)) (Q (.exit 0) [(0,.slice a b c),(1,.func (.func 105) #[] #[.pointer (some d)]),(4,.int .i64 e),(7,.int .i64 f),(8,.int .i64 g)] w)
theorem ao.b1:(aX none [] prog 19 ao.k (lB (bB (sR (sL (sR (body f91)))))) ao.u1 Q [(0,.slice a b c),(1,.func (.func 105) #[] #[.pointer (some d)]),(4,.int .i64 e),(7,.int .i64 f),(8,.int .i64 g)] w)=ao.B1 a b c d e f g Q w:=by kernel_rfl
variable{a b c d f}
theorem ao.cy(I:Int×Int->World->Prop)(μ:Int×Int->World->Nat)(s:Int×Int){Q:aP}{w:World}(h0:I s w)
 (round:∀s w,I s w->ao.B1 a b c d (s.1) f (s.2) (bR (ao.e1 a b c d f) I μ s w Q) w):Holds none [] prog 19 (.loop (lB (bB (sR (sL (sR (body f91))))))) Q (ao.e1 a b c d f s) w:=
 bp ng mix (ao.e1 a b c d f) I μ ao.k ao.u1 s (fun s Q w=>ao.B1 a b c d (s.1) f (s.2) Q w) (fun s Q w=>ao.b1 a b c d (s.1) f (s.2) Q w) h0 round
end
section
def ao.cV(a:OA)(b c:Nat)(d:Addr)(e f g:Int)(K:KT)(w:World):Prop:=
 K (.int .i64 (-1)) w
variable(a:OA)(b c:Nat)(d:Addr)(e f g:Int)(K:KT)(w:World)
theorem ao.dq:(ao.q1 K (.exit 0) [(0,.slice a b c),(1,.func (.func 105) #[] #[.pointer (some d)]),(4,.int .i64 e),(7,.int .i64 f),(8,.int .i64 g)] w)=ao.cV a b c d e f g K w:=by kernel_rfl
end
def af.k:List Nat:= [2,3]
def af.q1(K:KT):aP:=(aO 0 (cr (b9 (sR (body f19)))++(aT f19)) (bZ (fun b7 w_=>match cutAt af.k (b9 (sR (body f19)))with|true=>Holds none [] prog 179 (b9 (sR (body f19))) (bT prog f19 K) b7 w_|false=>aX none [] prog 179 af.k (b9 (sR (body f19))) (aT f19) (bT prog f19 K) b7 w_) (bT prog f19 K)))
def af.e1(a:OA)(b c:Addr)(d:OA)(e f:Nat)(g:Addr)(i:OA)(j k:Nat)(m:OA)(n o:Nat)(s:Int):Env:= [(0,.pointer a),(4,.pointer (some b)),(6,.pointer (some c)),(7,.slice d e f),(8,.pointer (some g)),(9,.slice i j k),(10,.slice m n o),(11,.int .i64 s)]
def af.u1:List Nat:= [0,4,6,7,8,9,10,11]
def af.q2(Q:aP):aP:=(aO 2 (cr (b9 (bB (sL (sR (lB (bB (sR (sL (b9 (body f19))))))))))++(cr (aQ (lB (bB (sR (sL (b9 (body f19)))))))++af.u1)) (bZ (fun b7 w_=>match cutAt af.k (b9 (bB (sL (sR (lB (bB (sR (sL (b9 (body f19))))))))))with|true=>Holds none [] prog 179 (b9 (bB (sL (sR (lB (bB (sR (sL (b9 (body f19)))))))))) (aO 1 (cr (aQ (lB (bB (sR (sL (b9 (body f19)))))))++af.u1) (bZ (fun b7 w_=>match cutAt af.k (aQ (lB (bB (sR (sL (b9 (body f19)))))))with|true=>Holds none [] prog 179 (aQ (lB (bB (sR (sL (b9 (body f19))))))) Q b7 w_|false=>aX none [] prog 179 af.k (aQ (lB (bB (sR (sL (b9 (body f19))))))) af.u1 Q b7 w_) Q)) b7 w_|false=>aX none [] prog 179 af.k (b9 (bB (sL (sR (lB (bB (sR (sL (b9 (body f19)))))))))) (cr (aQ (lB (bB (sR (sL (b9 (body f19)))))))++af.u1) (aO 1 (cr (aQ (lB (bB (sR (sL (b9 (body f19)))))))++af.u1) (bZ (fun b7 w_=>match cutAt af.k (aQ (lB (bB (sR (sL (b9 (body f19)))))))with|true=>Holds none [] prog 179 (aQ (lB (bB (sR (sL (b9 (body f19))))))) Q b7 w_|false=>aX none [] prog 179 af.k (aQ (lB (bB (sR (sL (b9 (body f19))))))) af.u1 Q b7 w_) Q)) b7 w_) (aO 1 (cr (aQ (lB (bB (sR (sL (b9 (body f19)))))))++af.u1) (bZ (fun b7 w_=>match cutAt af.k (aQ (lB (bB (sR (sL (b9 (body f19)))))))with|true=>Holds none [] prog 179 (aQ (lB (bB (sR (sL (b9 (body f19))))))) Q b7 w_|false=>aX none [] prog 179 af.k (aQ (lB (bB (sR (sL (b9 (body f19))))))) af.u1 Q b7 w_) Q))))
def af.e2(a:OA)(b c:Addr)(d:OA)(e f:Nat)(g:Addr)(i:OA)(j k:Nat)(m:OA)(n o:Nat)(p:Int)(q:Addr)(s:Int):Env:= [(0,.pointer a),(4,.pointer (some b)),(6,.pointer (some c)),(7,.slice d e f),(8,.pointer (some g)),(9,.slice i j k),(10,.slice m n o),(11,.int .i64 p),(12,.pointer (some q)),(13,.int .i64 s)]
def af.u2:List Nat:= [0,4,6,7,8,9,10,11,12,13]
def af.q3(K:KT):aP:=(aO 4 (cr (b9 (aQ (body f19)))++(aT f19)) (bZ (fun b7 w_=>match cutAt af.k (b9 (aQ (body f19)))with|true=>Holds none [] prog 179 (b9 (aQ (body f19))) (bT prog f19 K) b7 w_|false=>aX none [] prog 179 af.k (b9 (aQ (body f19))) (aT f19) (bT prog f19 K) b7 w_) (bT prog f19 K)))
def af.e3(a:OA)(b:Addr)(c:OA)(d e:Nat)(f:Addr)(s:(OA)×Nat×Nat×Int):Env:= [(0,.pointer a),(6,.pointer (some b)),(7,.slice c d e),(8,.pointer (some f)),(9,.slice s.1 s.2.1 s.2.2.1),(15,.int .i64 s.2.2.2)]
def af.u3:List Nat:= [0,6,7,8,9,15]
def af.q4(Q:aP):aP:=(aO 6 (cr (aQ (sR (bB (sL (sR (lB (bB (sR (sL (b9 (sR (body f19))))))))))))++(cr (aQ (lB (bB (sR (sL (b9 (sR (body f19))))))))++af.u3)) (bZ (fun b7 w_=>match cutAt af.k (aQ (sR (bB (sL (sR (lB (bB (sR (sL (b9 (sR (body f19))))))))))))with|true=>Holds none [] prog 179 (aQ (sR (bB (sL (sR (lB (bB (sR (sL (b9 (sR (body f19)))))))))))) (aO 5 (cr (aQ (lB (bB (sR (sL (b9 (sR (body f19))))))))++af.u3) (bZ (fun b7 w_=>match cutAt af.k (aQ (lB (bB (sR (sL (b9 (sR (body f19))))))))with|true=>Holds none [] prog 179 (aQ (lB (bB (sR (sL (b9 (sR (body f19)))))))) Q b7 w_|false=>aX none [] prog 179 af.k (aQ (lB (bB (sR (sL (b9 (sR (body f19)))))))) af.u3 Q b7 w_) Q)) b7 w_|false=>aX none [] prog 179 af.k (aQ (sR (bB (sL (sR (lB (bB (sR (sL (b9 (sR (body f19)))))))))))) (cr (aQ (lB (bB (sR (sL (b9 (sR (body f19))))))))++af.u3) (aO 5 (cr (aQ (lB (bB (sR (sL (b9 (sR (body f19))))))))++af.u3) (bZ (fun b7 w_=>match cutAt af.k (aQ (lB (bB (sR (sL (b9 (sR (body f19))))))))with|true=>Holds none [] prog 179 (aQ (lB (bB (sR (sL (b9 (sR (body f19)))))))) Q b7 w_|false=>aX none [] prog 179 af.k (aQ (lB (bB (sR (sL (b9 (sR (body f19)))))))) af.u3 Q b7 w_) Q)) b7 w_) (aO 5 (cr (aQ (lB (bB (sR (sL (b9 (sR (body f19))))))))++af.u3) (bZ (fun b7 w_=>match cutAt af.k (aQ (lB (bB (sR (sL (b9 (sR (body f19))))))))with|true=>Holds none [] prog 179 (aQ (lB (bB (sR (sL (b9 (sR (body f19)))))))) Q b7 w_|false=>aX none [] prog 179 af.k (aQ (lB (bB (sR (sL (b9 (sR (body f19)))))))) af.u3 Q b7 w_) Q))))
def af.e4(a:OA)(b:Addr)(c:OA)(d e:Nat)(f:Addr)(g:OA)(i j:Nat)(k:Int)(m:OA)(n o:Nat)(s:Bool×Int):Env:= [(0,.pointer a),(6,.pointer (some b)),(7,.slice c d e),(8,.pointer (some f)),(9,.slice g i j),(15,.int .i64 k),(16,.slice m n o),(17,.bool s.1),(18,.int .i64 s.2)]
def af.u4:List Nat:= [0,6,7,8,9,15,16,17,18]
section
variable(a:OA)(b:AV)(d:OA)(e f:Nat)(K:KT)(w:World)
def af.W:Prop:=
 let g:=w.alloc (.cells b 24);let i:=g.alloc (.cells zC 53);let j:=i.drew;∃k:AV,(k.size=32/\Cells j (aR w.heap.size) k)/\∃m:AV,(m.size=32/\Cells j (aR w.heap.size) m)/\(bz prog 60 #[.pointer a,.agg m] j fun n o=>∃p:Int,n=.int .u64 p/\(∃cs:AV,(.agg k:Value)=.agg cs/\cs.size=32/\Cells o (aR w.heap.size) cs)/\Is (prog.built 53 [(0,.agg k),(1,.int .u64 (u64.wrap (p+(1:Int))))]) fun q:AV=>let r:=o.alloc (.cells zC 53);(∃cs:AV,(.agg k:Value)=.agg cs/\cs.size=32/\Cells r (aR w.heap.size) cs)/\(q.size=35/\(∀t∈q.toList,t.oneCell'=true)/\∀u,u<35->Wr r ((aR o.heap.size).add u))/\let v:=setCells r (aR o.heap.size) q.toList 0;Holds none [] prog 179 (aQ (body f19)) (bT prog f19 K) [(0,.pointer a),(2,.slice d e f),(4,.pointer (some (aR w.heap.size))),(6,.pointer (some (aR g.heap.size))),(7,.slice none 0 0),(8,.pointer (some (aR o.heap.size)))] v)/\(let x:=j.alloc (.cells zC 53);(∃cs:AV,(.agg m:Value)=.agg cs/\cs.size=32/\Cells x (aR w.heap.size) cs)/\(∃cs:AV,(.agg k:Value)=.agg cs/\cs.size=32/\Cells x (aR w.heap.size) cs)/\bz prog 60 #[.pointer a,.agg m] x fun y z=>∃a1:Int,y=.int .u64 a1/\(∃cs:AV,(.agg k:Value)=.agg cs/\cs.size=32/\Cells z (aR w.heap.size) cs)/\Is (prog.built 53 [(0,.agg k),(1,.int .u64 (u64.wrap (a1+(1:Int))))]) fun b1:AV=>(b1.size=35/\(∀c1∈b1.toList,c1.oneCell'=true)/\∀d1,d1<35->Wr z ((aR j.heap.size).add d1))/\let e1:=setCells z (aR j.heap.size) b1.toList 0;Holds none [] prog 179 (aQ (body f19)) (bT prog f19 K) [(0,.pointer a),(2,.slice d e f),(4,.pointer (some (aR w.heap.size))),(6,.pointer (some (aR g.heap.size))),(7,.slice none 0 0),(8,.pointer (some (aR j.heap.size)))] e1)
variable{a b d e f K w}
theorem af.of(h:af.W a b d e f K w):bz prog 19 #[.pointer a,.agg b,.slice d e f] w K:=
 rqq func19 (C:=af.k) h
end
section
variable(a b:OA)(c d:Nat)(e f:Addr)(g:OA)(i j:Nat)(k:Addr)(K:KT)(w:World)
def af.J1:Prop:=
 let m:=w.drew;Is a fun n:Addr=>∃o:OA,∃p q:Nat,m.cell? (n.add 3)=some (.slice o p q)/\Is a fun r:Addr=>∃t:OA,m.cell? (r.add 1)=some (.pointer t)/\Is t fun u:Addr=>∃v:AV,(v.size=32/\Cells m e v)/\∃x:AV,(x.size=32/\Cells m e x)/\(bz prog 16 #[.pointer (some (u.add 0)),.agg v] m fun y z=>∃a1:Int,y=.int .i64 a1/\(∃cs:AV,(.agg x:Value)=.agg cs/\cs.size=32/\Cells z e cs)/\z.cell? (n.add 3)=some (.slice o p q)/\(0<=a1/\a1<(p:Int))/\Is o fun b1:Addr=>∃c1:OA,∃d1 e1:Nat,z.cell? (b1.add (a1.toNat*1))=some (.slice c1 d1 e1)/\(∃(f1:OA) (g1 i1:Nat) (j1:World),(Builtin.append_ #[33,33] 33 #[.slice none 0 0,.slice c1 d1 e1]).run prog z=.ok (.slice f1 g1 i1) j1/\(∃cs:AV,(.agg x:Value)=.agg cs/\cs.size=32/\Cells j1 e cs)/\x.size=32/\let k1:=j1.alloc (.cells (x.toList++ []).toArray 24);∃(m1:OA) (n1 o1:Nat) (p1:World),(Builtin.append_ #[33,33] 33 #[.slice f1 g1 i1,.slice (some (aR j1.heap.size)) 1 1]).run prog k1=.ok (.slice m1 n1 o1) p1/\Holds none [] prog 179 (aQ (sR (body f19))) (bT prog f19 K) [(0,.pointer a),(2,.slice b c d),(4,.pointer (some e)),(6,.pointer (some f)),(7,.slice g i j),(8,.pointer (some k)),(9,.slice m1 n1 o1)] p1)/\(x.size=32/\let q1:=z.alloc (.cells (x.toList++ []).toArray 24);q1.cell? (b1.add (a1.toNat*1))=some (.slice c1 d1 e1)/\q1.cell? (n.add 3)=some (.slice o p q)/\∃(r1:OA) (t1 u1:Nat) (v1:World),(Builtin.append_ #[33,33] 33 #[.slice none 0 0,.slice c1 d1 e1]).run prog q1=.ok (.slice r1 t1 u1) v1/\∃(x1:OA) (y1 z1:Nat) (a2:World),(Builtin.append_ #[33,33] 33 #[.slice r1 t1 u1,.slice (some (aR z.heap.size)) 1 1]).run prog v1=.ok (.slice x1 y1 z1) a2/\Holds none [] prog 179 (aQ (sR (body f19))) (bT prog f19 K) [(0,.pointer a),(2,.slice b c d),(4,.pointer (some e)),(6,.pointer (some f)),(7,.slice g i j),(8,.pointer (some k)),(9,.slice x1 y1 z1)] a2))/\(x.size=32/\let b2:=m.alloc (.cells (x.toList++ []).toArray 24);(∃cs:AV,(.agg v:Value)=.agg cs/\cs.size=32/\Cells b2 e cs)/\b2.cell? (r.add 1)=some (.pointer t)/\b2.cell? (n.add 3)=some (.slice o p q)/\bz prog 16 #[.pointer (some (u.add 0)),.agg v] b2 fun c2 d2=>∃e2:Int,c2=.int .i64 e2/\d2.cell? (n.add 3)=some (.slice o p q)/\(0<=e2/\e2<(p:Int))/\Is o fun f2:Addr=>∃g2:OA,∃i2 j2:Nat,d2.cell? (f2.add (e2.toNat*1))=some (.slice g2 i2 j2)/\∃(k2:OA) (m2 n2:Nat) (o2:World),(Builtin.append_ #[33,33] 33 #[.slice none 0 0,.slice g2 i2 j2]).run prog d2=.ok (.slice k2 m2 n2) o2/\∃(p2:OA) (q2 r2:Nat) (t2:World),(Builtin.append_ #[33,33] 33 #[.slice k2 m2 n2,.slice (some (aR m.heap.size)) 1 1]).run prog o2=.ok (.slice p2 q2 r2) t2/\Holds none [] prog 179 (aQ (sR (body f19))) (bT prog f19 K) [(0,.pointer a),(2,.slice b c d),(4,.pointer (some e)),(6,.pointer (some f)),(7,.slice g i j),(8,.pointer (some k)),(9,.slice p2 q2 r2)] t2)
theorem af.j1:(aX none [] prog 179 af.k (aQ (body f19)) (aT f19) (bT prog f19 K) [(0,.pointer a),(2,.slice b c d),(4,.pointer (some e)),(6,.pointer (some f)),(7,.slice g i j),(8,.pointer (some k))] w)=af.J1 a b c d e f g i j k K w:=by kernel_rfl
variable{a b c d e f g i j k K w}
theorem af.oX(h:af.J1 a b c d e f g i j k K w):Holds none [] prog 179 (aQ (body f19)) (bT prog f19 K) [(0,.pointer a),(2,.slice b c d),(4,.pointer (some e)),(6,.pointer (some f)),(7,.slice g i j),(8,.pointer (some k))] w:=
 c9 (C:=af.k) ng mix (af.j1 a b c d e f g i j k K w) h
end
section
variable(a b:OA)(c d:Nat)(e f:Addr)(g:OA)(i j:Nat)(k:Addr)(m:OA)(n o:Nat)(K:KT)(w:World)
def af.J2:Prop:=
 Is a fun p:Addr=>∃q:OA,w.cell? (p.add 1)=some (.pointer q)/\Is q fun r:Addr=>bz prog 26 #[.pointer (some (r.add 0)),.slice b c d] w fun t u=>∃v:OA,∃x y:Nat,t=.slice v x y/\∃(z:OA) (a1 b1:Nat) (c1:World),(Builtin.append_ #[33,33] 33 #[.slice v x y,.slice b c d]).run prog u=.ok (.slice z a1 b1) c1/\bz prog 27 #[.slice z a1 b1] c1 fun d1 e1=>∃f1:OA,∃g1 i1:Nat,d1=.slice f1 g1 i1/\Holds none [] prog 179 (.loop (lB (bB (sR (sL (b9 (body f19))))))) (af.q1 K) [(0,.pointer a),(4,.pointer (some e)),(6,.pointer (some f)),(7,.slice g i j),(8,.pointer (some k)),(9,.slice m n o),(10,.slice f1 g1 i1),(11,.int .i64 0)] e1
theorem af.j2:(aX none [] prog 179 af.k (aQ (sR (body f19))) (aT f19) (bT prog f19 K) [(0,.pointer a),(2,.slice b c d),(4,.pointer (some e)),(6,.pointer (some f)),(7,.slice g i j),(8,.pointer (some k)),(9,.slice m n o)] w)=af.J2 a b c d e f g i j k m n o K w:=by kernel_rfl
variable{a b c d e f g i j k m n o K w}
theorem af.q9(h:af.J2 a b c d e f g i j k m n o K w):Holds none [] prog 179 (aQ (sR (body f19))) (bT prog f19 K) [(0,.pointer a),(2,.slice b c d),(4,.pointer (some e)),(6,.pointer (some f)),(7,.slice g i j),(8,.pointer (some k)),(9,.slice m n o)] w:=
 c9 (C:=af.k) ng mix (af.j2 a b c d e f g i j k m n o K w) h
end
section
variable(a:OA)(b c:Addr)(d:OA)(e f:Nat)(g:Addr)(i:OA)(j k:Nat)(m:OA)(n o:Nat)(p:Int)(Q:aP)(w:World)
def af.B1:Prop:=
 Split (decide (p<(n:Int))) ((0<=p/\p<(n:Int))/\Is m fun q:Addr=>∃r:AV,(r.size=32/\Cells w (q.add (p.toNat*32)) r)/\let t:=w.alloc (.cells zH 24);(r.size=32/\(∀u∈r.toList,u.oneCell'=true)/\∀v,v<32->Wr t ((aR w.heap.size).add v))/\let x:=setCells t (aR w.heap.size) r.toList 0;let y:=x.drew;∃z:AV,(z.size=32/\Cells y (aR w.heap.size) z)/\∃a1:AV,(a1.size=32/\Cells y b a1)/\(dw .u8 32 z/\dw .u8 32 a1)/\Split (dU z a1) (Q .normal [(0,.pointer a),(4,.pointer (some b)),(6,.pointer (some c)),(7,.slice d e f),(8,.pointer (some g)),(9,.slice i j k),(10,.slice m n o),(11,.int .i64 (i64.wrap (p+(1:Int))))] y) (Is a fun b1:Addr=>∃c1:OA,y.cell? (b1.add 1)=some (.pointer c1)/\Is c1 fun d1:Addr=>∃e1:AV,(e1.size=32/\Cells y (aR w.heap.size) e1)/\∃f1:AV,(f1.size=32/\Cells y b f1)/\bz prog 28 #[.pointer (some (d1.add 0)),.agg e1,.agg f1] y fun g1 i1=>∃j1:Bool,g1=.bool j1/\Split j1 (Q .normal [(0,.pointer a),(4,.pointer (some b)),(6,.pointer (some c)),(7,.slice d e f),(8,.pointer (some g)),(9,.slice i j k),(10,.slice m n o),(11,.int .i64 (i64.wrap (p+(1:Int))))] i1) (∃k1:OA,∃m1 n1:Nat,i1.cell? (g.add 33)=some (.slice k1 m1 n1)/\Holds none [] prog 179 (.loop (lB (bB (sL (aQ (sR (bB (sL (sR (lB (bB (sR (sL (b9 (body f19))))))))))))))) (af.q2 Q) [(0,.pointer a),(4,.pointer (some b)),(6,.pointer (some c)),(7,.slice d e f),(8,.pointer (some g)),(9,.slice i j k),(10,.slice m n o),(11,.int .i64 p),(12,.pointer (some (aR w.heap.size))),(13,.int .i64 (m1:Int))] i1))) (Q (.exit 0) [(0,.pointer a),(4,.pointer (some b)),(6,.pointer (some c)),(7,.slice d e f),(8,.pointer (some g)),(9,.slice i j k),(10,.slice m n o),(11,.int .i64 p)] w)
theorem af.b1:(aX none [] prog 179 af.k (lB (bB (sR (sL (b9 (body f19)))))) af.u1 Q [(0,.pointer a),(4,.pointer (some b)),(6,.pointer (some c)),(7,.slice d e f),(8,.pointer (some g)),(9,.slice i j k),(10,.slice m n o),(11,.int .i64 p)] w)=af.B1 a b c d e f g i j k m n o p Q w:=by kernel_rfl
variable{a b c d e f g i j k m n o}
theorem af.cy(I:Int->World->Prop)(μ:Int->World->Nat)(s:Int){Q:aP}{w:World}(h0:I s w)
 (round:∀s w,I s w->af.B1 a b c d e f g i j k m n o s (bR (af.e1 a b c d e f g i j k m n o) I μ s w Q) w):Holds none [] prog 179 (.loop (lB (bB (sR (sL (b9 (body f19))))))) Q (af.e1 a b c d e f g i j k m n o s) w:=
 bp ng mix (af.e1 a b c d e f g i j k m n o) I μ af.k af.u1 s (fun s Q w=>af.B1 a b c d e f g i j k m n o s Q w) (fun s Q w=>af.b1 a b c d e f g i j k m n o s Q w) h0 round
end
section
def af.cV(a:OA)(b c:Addr)(d:OA)(e f:Nat)(g:Addr)(i:OA)(j k:Nat)(m:OA)(n o:Nat)(p:Int)(K:KT)(w:World):Prop:=
 Holds none [] prog 179 (.loop (lB (bB (sR (sL (b9 (sR (body f19)))))))) (af.q3 K) [(0,.pointer a),(6,.pointer (some c)),(7,.slice d e f),(8,.pointer (some g)),(9,.slice i j k),(15,.int .i64 0)] w
variable(a:OA)(b c:Addr)(d:OA)(e f:Nat)(g:Addr)(i:OA)(j k:Nat)(m:OA)(n o:Nat)(p:Int)(K:KT)(w:World)
theorem af.dq:(af.q1 K (.exit 0) [(0,.pointer a),(4,.pointer (some b)),(6,.pointer (some c)),(7,.slice d e f),(8,.pointer (some g)),(9,.slice i j k),(10,.slice m n o),(11,.int .i64 p)] w)=af.cV a b c d e f g i j k m n o p K w:=by kernel_rfl
end
section
variable(a:OA)(b c:Addr)(d:OA)(e f:Nat)(g:Addr)(i:OA)(j k:Nat)(m:OA)(n o:Nat)(p:Int)(q:Addr)(r:Int)(Q:aP)(w:World)
def af.B2:Prop:=
 let t:=w.drew;Split (decide (r>(0:Int))) (∃u:AV,(u.size=32/\Cells t q u)/\∃v:OA,∃x y:Nat,t.cell? (g.add 33)=some (.slice v x y)/\(0<=(i64.wrap (r-(1:Int)))/\(i64.wrap (r-(1:Int)))<(x:Int))/\Is v fun z:Addr=>∃a1:AV,(a1.size=32/\Cells t (z.add ((i64.wrap (r-(1:Int))).toNat*32)) a1)/\bz prog 59 #[.pointer a,.agg u,.agg a1] t fun b1 c1=>∃d1:Bool,b1=.bool d1/\Split d1 (Q .normal [(0,.pointer a),(4,.pointer (some b)),(6,.pointer (some c)),(7,.slice d e f),(8,.pointer (some g)),(9,.slice i j k),(10,.slice m n o),(11,.int .i64 p),(12,.pointer (some q)),(13,.int .i64 (i64.wrap (r-(1:Int))))] c1) (Q (.exit 2) [(0,.pointer a),(4,.pointer (some b)),(6,.pointer (some c)),(7,.slice d e f),(8,.pointer (some g)),(9,.slice i j k),(10,.slice m n o),(11,.int .i64 p),(12,.pointer (some q)),(13,.int .i64 r)] c1)) (Q (.exit 2) [(0,.pointer a),(4,.pointer (some b)),(6,.pointer (some c)),(7,.slice d e f),(8,.pointer (some g)),(9,.slice i j k),(10,.slice m n o),(11,.int .i64 p),(12,.pointer (some q)),(13,.int .i64 r)] t)
theorem af.b2:(aX none [] prog 179 af.k (lB (bB (sL (aQ (sR (bB (sL (sR (lB (bB (sR (sL (b9 (body f19)))))))))))))) af.u2 Q [(0,.pointer a),(4,.pointer (some b)),(6,.pointer (some c)),(7,.slice d e f),(8,.pointer (some g)),(9,.slice i j k),(10,.slice m n o),(11,.int .i64 p),(12,.pointer (some q)),(13,.int .i64 r)] w)=af.B2 a b c d e f g i j k m n o p q r Q w:=by kernel_rfl
variable{a b c d e f g i j k m n o p q}
theorem af.gS(I:Int->World->Prop)(μ:Int->World->Nat)(s:Int){Q:aP}{w:World}(h0:I s w)
 (round:∀s w,I s w->af.B2 a b c d e f g i j k m n o p q s (bR (af.e2 a b c d e f g i j k m n o p q) I μ s w Q) w):Holds none [] prog 179 (.loop (lB (bB (sL (aQ (sR (bB (sL (sR (lB (bB (sR (sL (b9 (body f19))))))))))))))) Q (af.e2 a b c d e f g i j k m n o p q s) w:=
 bp ng mix (af.e2 a b c d e f g i j k m n o p q) I μ af.k af.u2 s (fun s Q w=>af.B2 a b c d e f g i j k m n o p q s Q w) (fun s Q w=>af.b2 a b c d e f g i j k m n o p q s Q w) h0 round
end
section
variable(a:OA)(b c:Addr)(d:OA)(e f:Nat)(g:Addr)(i:OA)(j k:Nat)(m:OA)(n o:Nat)(p:Int)(q:Addr)(r:Int)(Q:aP)(w:World)
def af.iI:Prop:=
 ∃t:OA,∃u v:Nat,w.cell? (g.add 33)=some (.slice t u v)/\(0<=r/\r<=(v:Int))/\∃(x:OA) (y z:Nat) (a1:World),(Builtin.append_ #[33,33] 33 #[.slice none 0 0,.slice (if v=0 then t else t.map (·.add (0*32))) (r.toNat-0) (v-0)]).run prog w=.ok (.slice x y z) a1/\∃b1:AV,(b1.size=32/\Cells a1 q b1)/\b1.size=32/\let c1:=a1.alloc (.cells (b1.toList++ []).toArray 24);∃(d1:OA) (e1 f1:Nat) (g1:World),(Builtin.append_ #[33,33] 33 #[.slice x y z,.slice (some (aR a1.heap.size)) 1 1]).run prog c1=.ok (.slice d1 e1 f1) g1/\∃i1:OA,∃j1 k1:Nat,g1.cell? (g.add 33)=some (.slice i1 j1 k1)/\(0<=r/\r<=(j1:Int))/\∃(m1:OA) (n1 o1:Nat) (p1:World),(Builtin.append_ #[33,33] 33 #[.slice d1 e1 f1,.slice (if k1=r.toNat then i1 else i1.map (·.add (r.toNat*32))) (j1-r.toNat) (k1-r.toNat)]).run prog g1=.ok (.slice m1 n1 o1) p1/\Wr p1 (g.add 33)/\let q1:=p1.setCell (g.add 33) (.slice m1 n1 o1);Q .normal [(0,.pointer a),(4,.pointer (some b)),(6,.pointer (some c)),(7,.slice d e f),(8,.pointer (some g)),(9,.slice i j k),(10,.slice m n o),(11,.int .i64 (i64.wrap (p+(1:Int))))] q1
theorem af.jU:(af.q2 Q (.exit 2) [(0,.pointer a),(4,.pointer (some b)),(6,.pointer (some c)),(7,.slice d e f),(8,.pointer (some g)),(9,.slice i j k),(10,.slice m n o),(11,.int .i64 p),(12,.pointer (some q)),(13,.int .i64 r)] w)=af.iI a b c d e f g i j k m n o p q r Q w:=by kernel_rfl
end
section
variable(a:OA)(b:Addr)(c:OA)(d e:Nat)(f:Addr)(g:OA)(i j:Nat)(k:Int)(Q:aP)(w:World)
def af.B3:Prop:=
 ∃m:OA,∃n o:Nat,w.cell? (f.add 33)=some (.slice m n o)/\Split (decide (k<(n:Int))) (∃p:OA,∃q r:Nat,w.cell? (f.add 33)=some (.slice p q r)/\(0<=k/\k<(q:Int))/\Is p fun t:Addr=>∃u:AV,(u.size=32/\Cells w (t.add (k.toNat*32)) u)/\bz prog 61 #[.pointer a,.slice g i j,.agg u] w fun v x=>∃y:OA,∃z a1:Nat,v=.slice y z a1/\Is a fun b1:Addr=>∃c1:Int,x.cell? (b1.add 0)=some (.int .i64 c1)/\Holds none [] prog 179 (.loop (lB (bB (sR (sL (aQ (bB (sL (sR (lB (bB (sR (sL (b9 (sR (body f19)))))))))))))))) (af.q4 Q) [(0,.pointer a),(6,.pointer (some b)),(7,.slice c d e),(8,.pointer (some f)),(9,.slice g i j),(15,.int .i64 k),(16,.slice y z a1),(17,.bool (decide ((z:Int)<=c1))),(18,.int .i64 0)] x) (Q (.exit 4) [(0,.pointer a),(6,.pointer (some b)),(7,.slice c d e),(8,.pointer (some f)),(9,.slice g i j),(15,.int .i64 k)] w)
theorem af.b3:(aX none [] prog 179 af.k (lB (bB (sR (sL (b9 (sR (body f19))))))) af.u3 Q [(0,.pointer a),(6,.pointer (some b)),(7,.slice c d e),(8,.pointer (some f)),(9,.slice g i j),(15,.int .i64 k)] w)=af.B3 a b c d e f g i j k Q w:=by kernel_rfl
variable{a b c d e f}
theorem af.sk(I:(OA)×Nat×Nat×Int->World->Prop)(μ:(OA)×Nat×Nat×Int->World->Nat)(s:(OA)×Nat×Nat×Int){Q:aP}{w:World}(h0:I s w)
 (round:∀s w,I s w->af.B3 a b c d e f (s.1) (s.2.1) (s.2.2.1) (s.2.2.2) (bR (af.e3 a b c d e f) I μ s w Q) w):Holds none [] prog 179 (.loop (lB (bB (sR (sL (b9 (sR (body f19)))))))) Q (af.e3 a b c d e f s) w:=
 bp ng mix (af.e3 a b c d e f) I μ af.k af.u3 s (fun s Q w=>af.B3 a b c d e f (s.1) (s.2.1) (s.2.2.1) (s.2.2.2) Q w) (fun s Q w=>af.b3 a b c d e f (s.1) (s.2.1) (s.2.2.1) (s.2.2.2) Q w) h0 round
end
section
def af.sK(a:OA)(b:Addr)(c:OA)(d e:Nat)(f:Addr)(g:OA)(i j:Nat)(k:Int)(K:KT)(w:World):Prop:=
 ∃m:AV,(m.size=35/\Cells w f m)/\(m.size=35/\(∀n∈m.toList,n.oneCell'=true)/\∀o,o<35->Wr w (b.add o))/\let p:=setCells w b m.toList 0;∃q:AV,(q.size=35/\Cells p b q)/\K (.tuple #[.agg q,.slice g i j]) p
variable(a:OA)(b:Addr)(c:OA)(d e:Nat)(f:Addr)(g:OA)(i j:Nat)(k:Int)(K:KT)(w:World)
theorem af.yz:(af.q3 K (.exit 4) [(0,.pointer a),(6,.pointer (some b)),(7,.slice c d e),(8,.pointer (some f)),(9,.slice g i j),(15,.int .i64 k)] w)=af.sK a b c d e f g i j k K w:=by kernel_rfl
end
section
variable(a:OA)(b:Addr)(c:OA)(d e:Nat)(f:Addr)(g:OA)(i j:Nat)(k:Int)(m:OA)(n o:Nat)(p:Bool)(q:Int)(Q:aP)(w:World)
def af.B4:Prop:=
 Split (decide (q<(n:Int))) (Split p (let r:=w.drew;(0<=q/\q<(n:Int))/\Is m fun t:Addr=>∃u:AV,(u.size=32/\Cells r (t.add (q.toNat*32)) u)/\Is a fun v:Addr=>∃x:Int,r.cell? (v.add 0)=some (.int .i64 x)/\bz prog 61 #[.pointer a,.slice g i j,.agg u] r fun y z=>∃a1:OA,∃b1 c1:Nat,y=.slice a1 b1 c1/\z.cell? (v.add 0)=some (.int .i64 x)/\Q .normal [(0,.pointer a),(6,.pointer (some b)),(7,.slice c d e),(8,.pointer (some f)),(9,.slice g i j),(15,.int .i64 k),(16,.slice m n o),(17,.bool (decide ((b1:Int)<=(i64.wrap (x-(1:Int)))))),(18,.int .i64 (i64.wrap (q+(1:Int))))] z) (Q (.exit 6) [(0,.pointer a),(6,.pointer (some b)),(7,.slice c d e),(8,.pointer (some f)),(9,.slice g i j),(15,.int .i64 k),(16,.slice m n o),(17,.bool p),(18,.int .i64 q)] w)) (Q (.exit 6) [(0,.pointer a),(6,.pointer (some b)),(7,.slice c d e),(8,.pointer (some f)),(9,.slice g i j),(15,.int .i64 k),(16,.slice m n o),(17,.bool p),(18,.int .i64 q)] w)
theorem af.b4:(aX none [] prog 179 af.k (lB (bB (sR (sL (aQ (bB (sL (sR (lB (bB (sR (sL (b9 (sR (body f19))))))))))))))) af.u4 Q [(0,.pointer a),(6,.pointer (some b)),(7,.slice c d e),(8,.pointer (some f)),(9,.slice g i j),(15,.int .i64 k),(16,.slice m n o),(17,.bool p),(18,.int .i64 q)] w)=af.B4 a b c d e f g i j k m n o p q Q w:=by kernel_rfl
variable{a b c d e f g i j k m n o}
theorem af.Ih(I:Bool×Int->World->Prop)(μ:Bool×Int->World->Nat)(s:Bool×Int){Q:aP}{w:World}(h0:I s w)
 (round:∀s w,I s w->af.B4 a b c d e f g i j k m n o (s.1) (s.2) (bR (af.e4 a b c d e f g i j k m n o) I μ s w Q) w):Holds none [] prog 179 (.loop (lB (bB (sR (sL (aQ (bB (sL (sR (lB (bB (sR (sL (b9 (sR (body f19)))))))))))))))) Q (af.e4 a b c d e f g i j k m n o s) w:=
 bp ng mix (af.e4 a b c d e f g i j k m n o) I μ af.k af.u4 s (fun s Q w=>af.B4 a b c d e f g i j k m n o (s.1) (s.2) Q w) (fun s Q w=>af.b4 a b c d e f g i j k m n o (s.1) (s.2) Q w) h0 round
end
section
def af.DI(a:OA)(b:Addr)(c:OA)(d e:Nat)(f:Addr)(g:OA)(i j:Nat)(k:Int)(m:OA)(n o:Nat)(p:Bool)(q:Int)(Q:aP)(w:World):Prop:=
 ∃r:OA,∃t u:Nat,w.cell? (f.add 34)=some (.slice r t u)/\let v:=w.alloc (.cells #[.bool p] 4);∃(x:OA) (y z:Nat) (a1:World),(Builtin.append_ #[51,51] 51 #[.slice r t u,.slice (some (aR w.heap.size)) 1 1]).run prog v=.ok (.slice x y z) a1/\Wr a1 (f.add 34)/\let b1:=a1.setCell (f.add 34) (.slice x y z);Split p (∃c1:OA,∃d1 e1:Nat,b1.cell? (f.add 33)=some (.slice c1 d1 e1)/\(0<=k/\k<(d1:Int))/\Is c1 fun f1:Addr=>∃g1:AV,(g1.size=32/\Cells b1 (f1.add (k.toNat*32)) g1)/\g1.size=32/\let i1:=b1.alloc (.cells (g1.toList++ []).toArray 24);∃(j1:OA) (k1 m1:Nat) (n1:World),(Builtin.append_ #[33,33] 33 #[.slice g i j,.slice (some (aR b1.heap.size)) 1 1]).run prog i1=.ok (.slice j1 k1 m1) n1/\∃o1:Int,n1.cell? (f.add 32)=some (.int .u64 o1)/\Wr n1 (f.add 32)/\let p1:=n1.setCell (f.add 32) (.int .u64 (u64.wrap (o1+(1:Int))));Q .normal [(0,.pointer a),(6,.pointer (some b)),(7,.slice c d e),(8,.pointer (some f)),(9,.slice j1 k1 m1),(15,.int .i64 (i64.wrap (k+(1:Int))))] p1) (Q .normal [(0,.pointer a),(6,.pointer (some b)),(7,.slice c d e),(8,.pointer (some f)),(9,.slice g i j),(15,.int .i64 (i64.wrap (k+(1:Int))))] b1)
variable(a:OA)(b:Addr)(c:OA)(d e:Nat)(f:Addr)(g:OA)(i j:Nat)(k:Int)(m:OA)(n o:Nat)(p:Bool)(q:Int)(Q:aP)(w:World)
theorem af.Hp:(af.q4 Q (.exit 6) [(0,.pointer a),(6,.pointer (some b)),(7,.slice c d e),(8,.pointer (some f)),(9,.slice g i j),(15,.int .i64 k),(16,.slice m n o),(17,.bool p),(18,.int .i64 q)] w)=af.DI a b c d e f g i j k m n o p q Q w:=by kernel_rfl
end
def aW.k:List Nat:= []
def aW.q1(K:KT):aP:=(aO 0 (cr (b9 (body f33))++(aT f33)) (bZ (fun b7 w_=>match cutAt aW.k (b9 (body f33))with|true=>Holds none [] prog 49 (b9 (body f33)) (bT prog f33 K) b7 w_|false=>aX none [] prog 49 aW.k (b9 (body f33)) (aT f33) (bT prog f33 K) b7 w_) (bT prog f33 K)))
def aW.e1(a b:OA)(c d:Nat)(e:OA)(f g:Nat)(s:(OA)×Nat×Nat×Int):Env:= [(0,.pointer a),(4,.slice b c d),(5,.slice s.1 s.2.1 s.2.2.1),(6,.slice e f g),(7,.int .i64 s.2.2.2)]
def aW.u1:List Nat:= [0,4,5,6,7]
section
variable(a:OA)(b:AV)(K:KT)(w:World)
def aW.W:Prop:=
 let d:=w.alloc (.cells b 24);let e:=d.drew;Is a fun f:Addr=>∃g:OA,e.cell? (f.add 1)=some (.pointer g)/\∃i:AV,(i.size=32/\Cells e (aR w.heap.size) i)/\bz prog 29 #[.pointer g,.agg i] e fun j k=>∃m:OA,∃n o:Nat,j=.slice m n o/\Holds none [] prog 49 (.loop (lB (bB (sR (sL (aQ (sR (body f33)))))))) (aW.q1 K) [(0,.pointer a),(4,.slice none 0 0),(5,.slice none 0 0),(6,.slice m n o),(7,.int .i64 (i64.wrap ((n:Int)-(2:Int))))] k
variable{a b K w}
theorem aW.of(h:aW.W a b K w):bz prog 33 #[.pointer a,.agg b] w K:=
 rqq func33 (C:=aW.k) h
end
section
variable(a b:OA)(c d:Nat)(e:OA)(f g:Nat)(i:OA)(j k:Nat)(m:Int)(Q:aP)(w:World)
def aW.B1:Prop:=
 Split (decide (m>=(0:Int))) (let n:=w.drew;Is a fun o:Addr=>∃p:OA,∃q r:Nat,n.cell? (o.add 2)=some (.slice p q r)/\Is a fun t:Addr=>∃u:OA,n.cell? (t.add 1)=some (.pointer u)/\Is u fun v:Addr=>(0<=m/\m<(j:Int))/\Is i fun x:Addr=>∃y:AV,(y.size=32/\Cells n (x.add (m.toNat*32)) y)/\(bz prog 16 #[.pointer (some (v.add 0)),.agg y] n fun z a1=>∃b1:Int,z=.int .i64 b1/\a1.cell? (o.add 2)=some (.slice p q r)/\(0<=b1/\b1<(q:Int))/\Is p fun c1:Addr=>∃d1:AV,(d1.size=35/\Cells a1 (c1.add (b1.toNat*35)) d1)/\let e1:=a1.alloc (.cells zC 53);(∃cs:AV,(.agg d1:Value)=.agg cs/\cs.size=35/\Cells e1 (c1.add (b1.toNat*35)) cs)/\e1.cell? (o.add 2)=some (.slice p q r)/\(d1.size=35/\(∀f1∈d1.toList,f1.oneCell'=true)/\∀g1,g1<35->Wr e1 ((aR a1.heap.size).add g1))/\let i1:=setCells e1 (aR a1.heap.size) d1.toList 0;∃j1:AV,(j1.size=32/\Cells i1 ((aR a1.heap.size).add 0) j1)/\j1.size=32/\let k1:=i1.alloc (.cells (j1.toList++ []).toArray 24);∃(m1:OA) (n1 o1:Nat) (p1:World),(Builtin.append_ #[33,33] 33 #[.slice e f g,.slice (some (aR i1.heap.size)) 1 1]).run prog k1=.ok (.slice m1 n1 o1) p1/\∃q1:OA,∃r1 t1:Nat,p1.cell? ((aR a1.heap.size).add 33)=some (.slice q1 r1 t1)/\∃(u1:OA) (v1 x1:Nat) (y1:World),(Builtin.append_ #[33,33] 33 #[.slice m1 n1 o1,.slice q1 r1 t1]).run prog p1=.ok (.slice u1 v1 x1) y1/\Q .normal [(0,.pointer a),(4,.slice b c d),(5,.slice u1 v1 x1),(6,.slice i j k),(7,.int .i64 (i64.wrap (m-(1:Int))))] y1)/\(let z1:=n.alloc (.cells zC 53);(∃cs:AV,(.agg y:Value)=.agg cs/\cs.size=32/\Cells z1 (x.add (m.toNat*32)) cs)/\z1.cell? (t.add 1)=some (.pointer u)/\z1.cell? (o.add 2)=some (.slice p q r)/\bz prog 16 #[.pointer (some (v.add 0)),.agg y] z1 fun a2 b2=>∃c2:Int,a2=.int .i64 c2/\b2.cell? (o.add 2)=some (.slice p q r)/\(0<=c2/\c2<(q:Int))/\Is p fun d2:Addr=>∃e2:AV,(e2.size=35/\Cells b2 (d2.add (c2.toNat*35)) e2)/\(e2.size=35/\(∀f2∈e2.toList,f2.oneCell'=true)/\∀g2,g2<35->Wr b2 ((aR n.heap.size).add g2))/\let i2:=setCells b2 (aR n.heap.size) e2.toList 0;∃j2:AV,(j2.size=32/\Cells i2 ((aR n.heap.size).add 0) j2)/\j2.size=32/\let k2:=i2.alloc (.cells (j2.toList++ []).toArray 24);∃(m2:OA) (n2 o2:Nat) (p2:World),(Builtin.append_ #[33,33] 33 #[.slice e f g,.slice (some (aR i2.heap.size)) 1 1]).run prog k2=.ok (.slice m2 n2 o2) p2/\∃q2:OA,∃r2 t2:Nat,p2.cell? ((aR n.heap.size).add 33)=some (.slice q2 r2 t2)/\∃(u2:OA) (v2 x2:Nat) (y2:World),(Builtin.append_ #[33,33] 33 #[.slice m2 n2 o2,.slice q2 r2 t2]).run prog p2=.ok (.slice u2 v2 x2) y2/\Q .normal [(0,.pointer a),(4,.slice b c d),(5,.slice u2 v2 x2),(6,.slice i j k),(7,.int .i64 (i64.wrap (m-(1:Int))))] y2)) (Q (.exit 0) [(0,.pointer a),(4,.slice b c d),(5,.slice e f g),(6,.slice i j k),(7,.int .i64 m)] w)
theorem aW.b1:(aX none [] prog 49 aW.k (lB (bB (sR (sL (aQ (sR (body f33))))))) aW.u1 Q [(0,.pointer a),(4,.slice b c d),(5,.slice e f g),(6,.slice i j k),(7,.int .i64 m)] w)=aW.B1 a b c d e f g i j k m Q w:=by kernel_rfl
variable{a b c d i j k}
theorem aW.cy(I:(OA)×Nat×Nat×Int->World->Prop)(μ:(OA)×Nat×Nat×Int->World->Nat)(s:(OA)×Nat×Nat×Int){Q:aP}{w:World}(h0:I s w)
 (round:∀s w,I s w->aW.B1 a b c d (s.1) (s.2.1) (s.2.2.1) i j k (s.2.2.2) (bR (aW.e1 a b c d i j k) I μ s w Q) w):Holds none [] prog 49 (.loop (lB (bB (sR (sL (aQ (sR (body f33)))))))) Q (aW.e1 a b c d i j k s) w:=
 bp ng mix (aW.e1 a b c d i j k) I μ aW.k aW.u1 s (fun s Q w=>aW.B1 a b c d (s.1) (s.2.1) (s.2.2.1) i j k (s.2.2.2) Q w) (fun s Q w=>aW.b1 a b c d (s.1) (s.2.1) (s.2.2.1) i j k (s.2.2.2) Q w) h0 round
end
section
def aW.cV(a b:OA)(c d:Nat)(e:OA)(f g:Nat)(i:OA)(j k:Nat)(m:Int)(K:KT)(w:World):Prop:=
 K (.slice e f g) w
variable(a b:OA)(c d:Nat)(e:OA)(f g:Nat)(i:OA)(j k:Nat)(m:Int)(K:KT)(w:World)
theorem aW.dq:(aW.q1 K (.exit 0) [(0,.pointer a),(4,.slice b c d),(5,.slice e f g),(6,.slice i j k),(7,.int .i64 m)] w)=aW.cV a b c d e f g i j k m K w:=by kernel_rfl
end
def bu.k:List Nat:= []
def bu.q1(K:KT):aP:=(aO 0 (cr (aQ (sR (body f35)))++(aT f35)) (bZ (fun b7 w_=>match cutAt bu.k (aQ (sR (body f35)))with|true=>Holds none [] prog 27 (aQ (sR (body f35))) (bT prog f35 K) b7 w_|false=>aX none [] prog 27 bu.k (aQ (sR (body f35))) (aT f35) (bT prog f35 K) b7 w_) (bT prog f35 K)))
def bu.e1(a b:OA)(c d:Nat)(s:Int×Int):Env:= [(0,.pointer a),(1,.slice b c d),(4,.int .i64 s.1),(5,.int .i64 s.2)]
def bu.u1:List Nat:= [0,1,4,5]
section
variable(a b:OA)(d e:Nat)(K:KT)(w:World)
def bu.W:Prop:=
 Split ((d:Int)==(0:Int)) (K (.int .i64 9) w) (Holds none [] prog 27 (.loop (lB (bB (sR (sL (aQ (body f35))))))) (bu.q1 K) [(0,.pointer a),(1,.slice b d e),(4,.int .i64 0),(5,.int .i64 0)] w)
variable{a b d e K w}
theorem bu.of(h:bu.W a b d e K w):bz prog 35 #[.pointer a,.slice b d e] w K:=
 rqq func35 (C:=bu.k) h
end
section
variable(a b:OA)(c d:Nat)(e f:Int)(Q:aP)(w:World)
def bu.B1:Prop:=
 Split (decide (f<(c:Int))) (let g:=w.drew;Is a fun i:Addr=>∃j:OA,g.cell? (i.add 1)=some (.pointer j)/\Is j fun k:Addr=>(0<=f/\f<(c:Int))/\Is b fun m:Addr=>∃n:AV,(n.size=32/\Cells g (m.add (f.toNat*32)) n)/\bz prog 16 #[.pointer (some (k.add 0)),.agg n] g fun o p=>∃q:Int,o=.int .i64 q/\Split (decide (q<(0:Int))) (Q .ret [(0,.pointer a),(1,.slice b c d),(4,.int .i64 6),(5,.int .i64 f)] p) (Q .normal [(0,.pointer a),(1,.slice b c d),(4,.int .i64 e),(5,.int .i64 (i64.wrap (f+(1:Int))))] p)) (Q (.exit 0) [(0,.pointer a),(1,.slice b c d),(4,.int .i64 e),(5,.int .i64 f)] w)
theorem bu.b1:(aX none [] prog 27 bu.k (lB (bB (sR (sL (aQ (body f35)))))) bu.u1 Q [(0,.pointer a),(1,.slice b c d),(4,.int .i64 e),(5,.int .i64 f)] w)=bu.B1 a b c d e f Q w:=by kernel_rfl
variable{a b c d}
theorem bu.cy(I:Int×Int->World->Prop)(μ:Int×Int->World->Nat)(s:Int×Int){Q:aP}{w:World}(h0:I s w)
 (round:∀s w,I s w->bu.B1 a b c d (s.1) (s.2) (bR (bu.e1 a b c d) I μ s w Q) w):Holds none [] prog 27 (.loop (lB (bB (sR (sL (aQ (body f35))))))) Q (bu.e1 a b c d s) w:=
 bp ng mix (bu.e1 a b c d) I μ bu.k bu.u1 s (fun s Q w=>bu.B1 a b c d (s.1) (s.2) Q w) (fun s Q w=>bu.b1 a b c d (s.1) (s.2) Q w) h0 round
end
section
def bu.cV(a b:OA)(c d:Nat)(e f:Int)(K:KT)(w:World):Prop:=
 K (.int .i64 0) w
variable(a b:OA)(c d:Nat)(e f:Int)(K:KT)(w:World)
theorem bu.dq:(bu.q1 K (.exit 0) [(0,.pointer a),(1,.slice b c d),(4,.int .i64 e),(5,.int .i64 f)] w)=bu.cV a b c d e f K w:=by kernel_rfl
end
def kM.k:List Nat:= []
section
variable(a:Int)(b:AV)(K:KT)(w:World)
def kM.W:Prop:=
 let d:=w.alloc (.cells b 24);∃e:AV,(e.size=32/\Cells d (aR w.heap.size) e)/\bz prog 87 #[.agg e] d fun f g=>∃i:OA,f=.pointer i/\35=35/\let j:=g.alloc (.cells zC 53);let k:=j.alloc (.cells #[.slice none 0 0] 33);let m:=k.alloc (.cells (#[.int .i64 a,.pointer i,.slice (some (aR g.heap.size)) 1 1,.slice (some (aR j.heap.size)) 1 1]:AV) 47);K (.pointer (some (aR k.heap.size))) m
variable{a b K w}
theorem kM.of(h:kM.W a b K w):bz prog 43 #[.int .i64 a,.agg b] w K:=
 rqq func43 (C:=kM.k) h
end
def dM.k:List Nat:= []
section
variable(a:OA)(b:AV)(d:OA)(e f:Nat)(K:KT)(w:World)
def dM.W:Prop:=
 let g:=w.alloc (.cells b 24);let i:=g.alloc (.cells zC 53);Is a fun j:Addr=>∃k:OA,i.cell? (j.add 1)=some (.pointer k)/\Is k fun m:Addr=>∃n:AV,(n.size=1/\Cells i (m.add 0) n)/\let o:=i.alloc (.cells (#[.slice none 0 0]:AV) 40);(n.size=1/\(∀p∈n.toList,p.oneCell'=true)/\∀q,q<1->Wr o ((aR i.heap.size).add q))/\let r:=setCells o (aR i.heap.size) n.toList 0;∃t:AV,(t.size=32/\Cells r (aR w.heap.size) t)/\bz prog 88 #[.pointer (some (aR i.heap.size)),.agg t,.slice d e f] r fun u v=>∃x:Int,u=.int .i64 x/\Split (x != (0:Int)) ((zC.size=35/\(∀y∈zC.toList,y.oneCell'=true)/\∀z,z<35->Wr v ((aR g.heap.size).add z))/\let a1:=setCells v (aR g.heap.size) zC.toList 0;∃b1:AV,(b1.size=35/\Cells a1 (aR g.heap.size) b1)/\K (.tuple #[.agg b1,.int .i64 x]) a1) (bz prog 81 #[.pointer a,.slice d e f] v fun c1 d1=>∃e1:AV,c1=.agg e1/\let f1:=d1.alloc (.cells zH 24);(e1.size=32/\(∀g1∈e1.toList,g1.oneCell'=true)/\∀i1,i1<32->Wr f1 ((aR d1.heap.size).add i1))/\let j1:=setCells f1 (aR d1.heap.size) e1.toList 0;∃k1:AV,(k1.size=32/\Cells j1 (aR d1.heap.size) k1)/\bz prog 19 #[.pointer a,.agg k1,.slice d e f] j1 fun m1 n1=>∃o1:AV,∃p1:OA,∃q1 r1:Nat,m1=.tuple #[.agg o1,.slice p1 q1 r1]/\let t1:=n1.alloc (.cells zC 53);(o1.size=35/\(∀u1∈o1.toList,u1.oneCell'=true)/\∀v1,v1<35->Wr t1 ((aR n1.heap.size).add v1))/\let x1:=setCells t1 (aR n1.heap.size) o1.toList 0;let y1:=x1.drew;Is a fun z1:Addr=>∃a2:OA,y1.cell? (z1.add 1)=some (.pointer a2)/\∃b2:AV,(b2.size=32/\Cells y1 (aR w.heap.size) b2)/\∃c2:AV,(c2.size=32/\Cells y1 (aR d1.heap.size) c2)/\bz prog 89 #[.pointer a2,.agg b2,.agg c2,.slice d e f] y1 fun d2 e2=>∃f2:Int,d2=.int .i64 f2/\let g2:=e2.drew;Is a fun i2:Addr=>∃j2:OA,∃k2 m2:Nat,g2.cell? (i2.add 2)=some (.slice j2 k2 m2)/\∃n2:AV,(n2.size=35/\Cells g2 (aR n1.heap.size) n2)/\(∃(o2:OA) (p2 q2:Nat) (r2:World),(Builtin.append_ #[44,44] 44 #[.slice none 0 0,.slice j2 k2 m2]).run prog g2=.ok (.slice o2 p2 q2) r2/\(∃cs:AV,(.agg n2:Value)=.agg cs/\cs.size=35/\Cells r2 (aR n1.heap.size) cs)/\n2.size=35/\let t2:=r2.alloc (.cells (n2.toList++ []).toArray 53);∃(u2:OA) (v2 x2:Nat) (y2:World),(Builtin.append_ #[44,44] 44 #[.slice o2 p2 q2,.slice (some (aR r2.heap.size)) 1 1]).run prog t2=.ok (.slice u2 v2 x2) y2/\Is a fun z2:Addr=>Wr y2 (z2.add 2)/\let a3:=y2.setCell (z2.add 2) (.slice u2 v2 x2);Is a fun b3:Addr=>∃c3:OA,∃d3 e3:Nat,a3.cell? (b3.add 3)=some (.slice c3 d3 e3)/\∃(f3:OA) (g3 i3:Nat) (j3:World),(Builtin.append_ #[45,45] 45 #[.slice none 0 0,.slice c3 d3 e3]).run prog a3=.ok (.slice f3 g3 i3) j3/\let k3:=j3.alloc (.cells #[.slice p1 q1 r1] 33);∃(m3:OA) (n3 o3:Nat) (p3:World),(Builtin.append_ #[45,45] 45 #[.slice f3 g3 i3,.slice (some (aR j3.heap.size)) 1 1]).run prog k3=.ok (.slice m3 n3 o3) p3/\Is a fun q3:Addr=>Wr p3 (q3.add 3)/\let r3:=p3.setCell (q3.add 3) (.slice m3 n3 o3);∃t3:AV,(t3.size=35/\Cells r3 (aR n1.heap.size) t3)/\(t3.size=35/\(∀u3∈t3.toList,u3.oneCell'=true)/\∀v3,v3<35->Wr r3 ((aR g.heap.size).add v3))/\let x3:=setCells r3 (aR g.heap.size) t3.toList 0;∃y3:AV,(y3.size=35/\Cells x3 (aR g.heap.size) y3)/\K (.tuple #[.agg y3,.int .i64 0]) x3)/\(n2.size=35/\let z3:=g2.alloc (.cells (n2.toList++ []).toArray 53);z3.cell? (i2.add 2)=some (.slice j2 k2 m2)/\∃(a4:OA) (b4 c4:Nat) (d4:World),(Builtin.append_ #[44,44] 44 #[.slice none 0 0,.slice j2 k2 m2]).run prog z3=.ok (.slice a4 b4 c4) d4/\∃(e4:OA) (f4 g4:Nat) (i4:World),(Builtin.append_ #[44,44] 44 #[.slice a4 b4 c4,.slice (some (aR g2.heap.size)) 1 1]).run prog d4=.ok (.slice e4 f4 g4) i4/\Is a fun j4:Addr=>Wr i4 (j4.add 2)/\let k4:=i4.setCell (j4.add 2) (.slice e4 f4 g4);Is a fun m4:Addr=>∃n4:OA,∃o4 p4:Nat,k4.cell? (m4.add 3)=some (.slice n4 o4 p4)/\∃(q4:OA) (r4 t4:Nat) (u4:World),(Builtin.append_ #[45,45] 45 #[.slice none 0 0,.slice n4 o4 p4]).run prog k4=.ok (.slice q4 r4 t4) u4/\let v4:=u4.alloc (.cells #[.slice p1 q1 r1] 33);∃(x4:OA) (y4 z4:Nat) (a5:World),(Builtin.append_ #[45,45] 45 #[.slice q4 r4 t4,.slice (some (aR u4.heap.size)) 1 1]).run prog v4=.ok (.slice x4 y4 z4) a5/\Is a fun b5:Addr=>Wr a5 (b5.add 3)/\let c5:=a5.setCell (b5.add 3) (.slice x4 y4 z4);∃d5:AV,(d5.size=35/\Cells c5 (aR n1.heap.size) d5)/\(d5.size=35/\(∀e5∈d5.toList,e5.oneCell'=true)/\∀f5,f5<35->Wr c5 ((aR g.heap.size).add f5))/\let g5:=setCells c5 (aR g.heap.size) d5.toList 0;∃i5:AV,(i5.size=35/\Cells g5 (aR g.heap.size) i5)/\K (.tuple #[.agg i5,.int .i64 0]) g5))
variable{a b d e f K w}
theorem dM.of(h:dM.W a b d e f K w):bz prog 44 #[.pointer a,.agg b,.slice d e f] w K:=
 rqq func44 (C:=dM.k) h
end
def dV.k:List Nat:= []
section
variable(a:OA)(b d:AV)(K:KT)(w:World)
def dV.W:Prop:=
 let e:=w.alloc (.cells b 24);let f:=e.alloc (.cells d 24);let g:=f.drew;∃i:AV,(i.size=32/\Cells g (aR w.heap.size) i)/\∃j:AV,(j.size=32/\Cells g (aR e.heap.size) j)/\bz prog 60 #[.pointer a,.agg i] g fun k m=>∃n:Int,k=.int .u64 n/\(∃cs:AV,(.agg j:Value)=.agg cs/\cs.size=32/\Cells m (aR e.heap.size) cs)/\bz prog 60 #[.pointer a,.agg j] m fun o p=>∃q:Int,o=.int .u64 q/\Split (n != q) (K (.bool (decide (n<q))) p) (∃r:AV,(r.size=32/\Cells p (aR w.heap.size) r)/\∃t:AV,(t.size=32/\Cells p (aR e.heap.size) t)/\bz prog 75 #[.agg r,.agg t] p fun u v=>∃x:Int,u=.int .i64 x/\K (.bool (decide (x<(0:Int)))) v)
variable{a b d K w}
theorem dV.of(h:dV.W a b d K w):bz prog 59 #[.pointer a,.agg b,.agg d] w K:=
 rqq func59 (C:=dV.k) h
end
def dI.k:List Nat:= []
section
variable(a:OA)(b:AV)(K:KT)(w:World)
def dI.W:Prop:=
 let d:=w.alloc (.cells b 24);let e:=d.drew;Is a fun f:Addr=>∃g:OA,∃i j:Nat,e.cell? (f.add 2)=some (.slice g i j)/\Is a fun k:Addr=>∃m:OA,e.cell? (k.add 1)=some (.pointer m)/\Is m fun n:Addr=>∃o:AV,(o.size=32/\Cells e (aR w.heap.size) o)/\bz prog 16 #[.pointer (some (n.add 0)),.agg o] e fun p q=>∃r:Int,p=.int .i64 r/\q.cell? (f.add 2)=some (.slice g i j)/\(0<=r/\r<(i:Int))/\Is g fun t:Addr=>∃u:Int,q.cell? ((t.add (r.toNat*35)).add 32)=some (.int .u64 u)/\K (.int .u64 u) q
variable{a b K w}
theorem dI.of(h:dI.W a b K w):bz prog 60 #[.pointer a,.agg b] w K:=
 rqq func60 (C:=dI.k) h
end
def bf.k:List Nat:= []
def bf.q1(K:KT):aP:=(aO 0 (cr (aQ (sR (body f61)))++(aT f61)) (bZ (fun b7 w_=>match cutAt bf.k (aQ (sR (body f61)))with|true=>Holds none [] prog 35 (aQ (sR (body f61))) (bT prog f61 K) b7 w_|false=>aX none [] prog 35 bf.k (aQ (sR (body f61))) (aT f61) (bT prog f61 K) b7 w_) (bT prog f61 K)))
def bf.e1(a b:OA)(c d:Nat)(e:Addr)(f:OA)(g i:Nat)(s:(OA)×Nat×Nat×Int):Env:= [(0,.pointer a),(1,.slice b c d),(5,.pointer (some e)),(6,.slice f g i),(7,.slice s.1 s.2.1 s.2.2.1),(8,.int .i64 s.2.2.2)]
def bf.u1:List Nat:= [0,1,5,6,7,8]
section
variable(a b:OA)(d e:Nat)(f:AV)(K:KT)(w:World)
def bf.W:Prop:=
 let g:=w.alloc (.cells f 24);Holds none [] prog 35 (.loop (lB (bB (sR (sL (aQ (body f61))))))) (bf.q1 K) [(0,.pointer a),(1,.slice b d e),(5,.pointer (some (aR w.heap.size))),(6,.slice none 0 0),(7,.slice none 0 0),(8,.int .i64 0)] g
variable{a b d e f K w}
theorem bf.of(h:bf.W a b d e f K w):bz prog 61 #[.pointer a,.slice b d e,.agg f] w K:=
 rqq func61 (C:=bf.k) h
end
section
variable(a b:OA)(c d:Nat)(e:Addr)(f:OA)(g i:Nat)(j:OA)(k m:Nat)(n:Int)(Q:aP)(w:World)
def bf.B1:Prop:=
 Split (decide (n<(c:Int))) (let o:=w.drew;Is a fun p:Addr=>∃q:OA,o.cell? (p.add 1)=some (.pointer q)/\Is q fun r:Addr=>(0<=n/\n<(c:Int))/\Is b fun t:Addr=>∃u:AV,(u.size=32/\Cells o (t.add (n.toNat*32)) u)/\∃v:AV,(v.size=32/\Cells o e v)/\bz prog 104 #[.pointer (some (r.add 0)),.agg u,.agg v] o fun x y=>∃z:Bool,x=.bool z/\Split z ((0<=n/\n<(c:Int))/\Is b fun a1:Addr=>∃b1:AV,(b1.size=32/\Cells y (a1.add (n.toNat*32)) b1)/\b1.size=32/\let c1:=y.alloc (.cells (b1.toList++ []).toArray 24);∃(d1:OA) (e1 f1:Nat) (g1:World),(Builtin.append_ #[33,33] 33 #[.slice j k m,.slice (some (aR y.heap.size)) 1 1]).run prog c1=.ok (.slice d1 e1 f1) g1/\Q .normal [(0,.pointer a),(1,.slice b c d),(5,.pointer (some e)),(6,.slice f g i),(7,.slice d1 e1 f1),(8,.int .i64 (i64.wrap (n+(1:Int))))] g1) (Q .normal [(0,.pointer a),(1,.slice b c d),(5,.pointer (some e)),(6,.slice f g i),(7,.slice j k m),(8,.int .i64 (i64.wrap (n+(1:Int))))] y)) (Q (.exit 0) [(0,.pointer a),(1,.slice b c d),(5,.pointer (some e)),(6,.slice f g i),(7,.slice j k m),(8,.int .i64 n)] w)
theorem bf.b1:(aX none [] prog 35 bf.k (lB (bB (sR (sL (aQ (body f61)))))) bf.u1 Q [(0,.pointer a),(1,.slice b c d),(5,.pointer (some e)),(6,.slice f g i),(7,.slice j k m),(8,.int .i64 n)] w)=bf.B1 a b c d e f g i j k m n Q w:=by kernel_rfl
variable{a b c d e f g i}
theorem bf.cy(I:(OA)×Nat×Nat×Int->World->Prop)(μ:(OA)×Nat×Nat×Int->World->Nat)(s:(OA)×Nat×Nat×Int){Q:aP}{w:World}(h0:I s w)
 (round:∀s w,I s w->bf.B1 a b c d e f g i (s.1) (s.2.1) (s.2.2.1) (s.2.2.2) (bR (bf.e1 a b c d e f g i) I μ s w Q) w):Holds none [] prog 35 (.loop (lB (bB (sR (sL (aQ (body f61))))))) Q (bf.e1 a b c d e f g i s) w:=
 bp ng mix (bf.e1 a b c d e f g i) I μ bf.k bf.u1 s (fun s Q w=>bf.B1 a b c d e f g i (s.1) (s.2.1) (s.2.2.1) (s.2.2.2) Q w) (fun s Q w=>bf.b1 a b c d e f g i (s.1) (s.2.1) (s.2.2.1) (s.2.2.2) Q w) h0 round
end
section
def bf.cV(a b:OA)(c d:Nat)(e:Addr)(f:OA)(g i:Nat)(j:OA)(k m:Nat)(n:Int)(K:KT)(w:World):Prop:=
 K (.slice j k m) w
variable(a b:OA)(c d:Nat)(e:Addr)(f:OA)(g i:Nat)(j:OA)(k m:Nat)(n:Int)(K:KT)(w:World)
theorem bf.dq:(bf.q1 K (.exit 0) [(0,.pointer a),(1,.slice b c d),(5,.pointer (some e)),(6,.slice f g i),(7,.slice j k m),(8,.int .i64 n)] w)=bf.cV a b c d e f g i j k m n K w:=by kernel_rfl
end
def a7.k:List Nat:= []
def a7.q1(K:KT):aP:=(aO 0 (cr (aQ (sR (body f81)))++(aT f81)) (bZ (fun b7 w_=>match cutAt a7.k (aQ (sR (body f81)))with|true=>Holds none [] prog 28 (aQ (sR (body f81))) (bT prog f81 K) b7 w_|false=>aX none [] prog 28 a7.k (aQ (sR (body f81))) (aT f81) (bT prog f81 K) b7 w_) (bT prog f81 K)))
def a7.e1(a b:OA)(c d:Nat)(e f:Addr)(s:Int):Env:= [(0,.pointer a),(1,.slice b c d),(4,.pointer (some e)),(5,.pointer (some f)),(6,.int .i64 s)]
def a7.u1:List Nat:= [0,1,4,5,6]
section
variable(a b:OA)(d e:Nat)(K:KT)(w:World)
def a7.W:Prop:=
 let f:=w.alloc (.cells zH 24);(0<=(0:Int)/\(0:Int)<(d:Int))/\Is b fun g:Addr=>∃i:AV,(i.size=32/\Cells f (g.add ((0:Int).toNat*32)) i)/\let j:=f.alloc (.cells zH 24);(i.size=32/\(∀k∈i.toList,k.oneCell'=true)/\∀m,m<32->Wr j ((aR f.heap.size).add m))/\let n:=setCells j (aR f.heap.size) i.toList 0;Holds none [] prog 28 (.loop (lB (bB (sR (sL (aQ (body f81))))))) (a7.q1 K) [(0,.pointer a),(1,.slice b d e),(4,.pointer (some (aR w.heap.size))),(5,.pointer (some (aR f.heap.size))),(6,.int .i64 1)] n
variable{a b d e K w}
theorem a7.of(h:a7.W a b d e K w):bz prog 81 #[.pointer a,.slice b d e] w K:=
 rqq func81 (C:=a7.k) h
end
section
variable(a b:OA)(c d:Nat)(e f:Addr)(g:Int)(Q:aP)(w:World)
def a7.B1:Prop:=
 Split (decide (g<(c:Int))) (let i:=w.drew;∃j:AV,(j.size=32/\Cells i f j)/\(0<=g/\g<(c:Int))/\Is b fun k:Addr=>∃m:AV,(m.size=32/\Cells i (k.add (g.toNat*32)) m)/\bz prog 59 #[.pointer a,.agg j,.agg m] i fun n o=>∃p:Bool,n=.bool p/\Split p ((0<=g/\g<(c:Int))/\Is b fun q:Addr=>∃r:AV,(r.size=32/\Cells o (q.add (g.toNat*32)) r)/\(r.size=32/\(∀t∈r.toList,t.oneCell'=true)/\∀u,u<32->Wr o (f.add u))/\let v:=setCells o f r.toList 0;Q .normal [(0,.pointer a),(1,.slice b c d),(4,.pointer (some e)),(5,.pointer (some f)),(6,.int .i64 (i64.wrap (g+(1:Int))))] v) (Q .normal [(0,.pointer a),(1,.slice b c d),(4,.pointer (some e)),(5,.pointer (some f)),(6,.int .i64 (i64.wrap (g+(1:Int))))] o)) (Q (.exit 0) [(0,.pointer a),(1,.slice b c d),(4,.pointer (some e)),(5,.pointer (some f)),(6,.int .i64 g)] w)
theorem a7.b1:(aX none [] prog 28 a7.k (lB (bB (sR (sL (aQ (body f81)))))) a7.u1 Q [(0,.pointer a),(1,.slice b c d),(4,.pointer (some e)),(5,.pointer (some f)),(6,.int .i64 g)] w)=a7.B1 a b c d e f g Q w:=by kernel_rfl
variable{a b c d e f}
theorem a7.cy(I:Int->World->Prop)(μ:Int->World->Nat)(s:Int){Q:aP}{w:World}(h0:I s w)
 (round:∀s w,I s w->a7.B1 a b c d e f s (bR (a7.e1 a b c d e f) I μ s w Q) w):Holds none [] prog 28 (.loop (lB (bB (sR (sL (aQ (body f81))))))) Q (a7.e1 a b c d e f s) w:=
 bp ng mix (a7.e1 a b c d e f) I μ a7.k a7.u1 s (fun s Q w=>a7.B1 a b c d e f s Q w) (fun s Q w=>a7.b1 a b c d e f s Q w) h0 round
end
section
def a7.cV(a b:OA)(c d:Nat)(e f:Addr)(g:Int)(K:KT)(w:World):Prop:=
 ∃i:AV,(i.size=32/\Cells w f i)/\(i.size=32/\(∀j∈i.toList,j.oneCell'=true)/\∀k,k<32->Wr w (e.add k))/\let m:=setCells w e i.toList 0;∃n:AV,(n.size=32/\Cells m e n)/\K (.agg n) m
variable(a b:OA)(c d:Nat)(e f:Addr)(g:Int)(K:KT)(w:World)
theorem a7.dq:(a7.q1 K (.exit 0) [(0,.pointer a),(1,.slice b c d),(4,.pointer (some e)),(5,.pointer (some f)),(6,.int .i64 g)] w)=a7.cV a b c d e f g K w:=by kernel_rfl
end
def iP.k:List Nat:= []
section
variable(a:OA)(b:AV)(K:KT)(w:World)
def iP.W:Prop:=
 let d:=w.alloc (.cells b 24);∃e:AV,(e.size=32/\Cells d (aR w.heap.size) e)/\e.size=32/\let f:=d.alloc (.cells (e.toList++ []).toArray 24);bz prog 74 #[.pointer a,.slice (some (aR d.heap.size)) 1 1] f fun g i=>∃j:Int,g=.int .i64 j/\Split (j != (0:Int)) (K (.tuple #[.slice none 0 0,.int .i64 j]) i) (∃k:AV,(k.size=32/\Cells i (aR w.heap.size) k)/\bz prog 76 #[.pointer a,.agg k] i fun m n=>∃o:OA,∃p q:Nat,m=.slice o p q/\K (.tuple #[.slice o p q,.int .i64 0]) n)
variable{a b K w}
theorem iP.of(h:iP.W a b K w):bz prog 30 #[.pointer a,.agg b] w K:=
 rqq func30 (C:=iP.k) h
end
def iN.k:List Nat:= []
section
variable(a:OA)(b:AV)(K:KT)(w:World)
def iN.W:Prop:=
 let d:=w.alloc (.cells (#[.pointer a]:AV) 28);let e:=d.alloc (.cells b 24);K (.func (.func 77) #[] #[.pointer (some (aR w.heap.size)),.pointer (some (aR d.heap.size))]) e
variable{a b K w}
theorem iN.of(h:iN.W a b K w):bz prog 31 #[.pointer a,.agg b] w K:=
 rqq func31 (C:=iN.k) h
end
section
variable(a:OA)(b:AV)(d:OA)(e f:Nat)(K:KT)(w:World)
variable{a b d e f K w}
end
def iO.k:List Nat:= []
section
variable(a:OA)(b d:AV)(K:KT)(w:World)
def iO.W:Prop:=
 let e:=w.alloc (.cells b 24);let f:=e.alloc (.cells d 24);∃g:AV,(g.size=32/\Cells f (aR w.heap.size) g)/\∃i:AV,(i.size=32/\Cells f (aR e.heap.size) i)/\g.size=32/\i.size=32/\let j:=f.alloc (.cells (g.toList++(i.toList++([]))).toArray 24);bz prog 74 #[.pointer a,.slice (some (aR f.heap.size)) 2 2] j fun k m=>∃n:Int,k=.int .i64 n/\Split (n != (0:Int)) (K (.tuple #[.int .i64 0,.int .i64 n]) m) (∃o:AV,(o.size=32/\Cells m (aR e.heap.size) o)/\bz prog 25 #[.pointer a,.agg o] m fun p q=>∃r:OA,∃t u:Nat,∃v:Int,p=.tuple #[.slice r t u,.int .i64 v]/\∃x:AV,(x.size=32/\Cells q (aR w.heap.size) x)/\bz prog 79 #[.slice r t u,.agg x] q fun y z=>∃aa:Int,y=.int .i64 aa/\Split (decide (aa<(0:Int))) (K (.tuple #[.int .i64 0,.int .i64 6]) z) (K (.tuple #[.int .i64 aa,.int .i64 0]) z))
variable{a b d K w}
theorem iO.of(h:iO.W a b d K w):bz prog 36 #[.pointer a,.agg b,.agg d] w K:=
 rqq func36 (C:=iO.k) h
end
def cH.k:List Nat:= []
def cH.q1(K:KT):aP:=(aO 0 (cr (aQ (sR (body f74)))++(aT f74)) (bZ (fun b7 w_=>match cutAt cH.k (aQ (sR (body f74)))with|true=>Holds none [] prog 29 (aQ (sR (body f74))) (bT prog f74 K) b7 w_|false=>aX none [] prog 29 cH.k (aQ (sR (body f74))) (aT f74) (bT prog f74 K) b7 w_) (bT prog f74 K)))
def cH.e1(a b:OA)(c d:Nat)(e:Int)(s:Int×Int):Env:= [(0,.pointer a),(4,.int .i64 s.1),(13,.slice b c d),(14,.int .i64 e),(15,.int .i64 s.2)]
def cH.u1:List Nat:= [0,4,13,14,15]
section
variable(a b:OA)(d e:Nat)(K:KT)(w:World)
def cH.W:Prop:=
 bz prog 45 #[.pointer a] w fun f g=>∃i:OA,f=.pointer i/\bz prog 46 #[.pointer i] g fun j k=>∃m:OA,j=.pointer m/\Split ((m).isNone) (K (.int .i64 1) k) (Holds none [] prog 29 (.loop (lB (bB (sR (sL (aQ (body f74))))))) (cH.q1 K) [(0,.pointer a),(4,.int .i64 0),(13,.slice b d e),(14,.int .i64 (d:Int)),(15,.int .i64 0)] k)
variable{a b d e K w}
theorem cH.of(h:cH.W a b d e K w):bz prog 74 #[.pointer a,.slice b d e] w K:=
 rqq func74 (C:=cH.k) h
end
section
variable(a:OA)(b:Int)(c:OA)(d e:Nat)(f g:Int)(Q:aP)(w:World)
def cH.B1:Prop:=
 Split (decide (g<f)) ((0<=g/\g<(d:Int))/\Is c fun i:Addr=>∃j:AV,(j.size=32/\Cells w (i.add (g.toNat*32)) j)/\let k:=w.alloc (.cells zH 24);(j.size=32/\(∀m∈j.toList,m.oneCell'=true)/\∀n,n<32->Wr k ((aR w.heap.size).add n))/\let o:=setCells k (aR w.heap.size) j.toList 0;∃p:AV,(p.size=32/\Cells o (aR w.heap.size) p)/\bz prog 78 #[.pointer a,.agg p] o fun q r=>∃t:AV,∃u:Int,q=.tuple #[.agg t,.int .i64 u]/\let v:=r.alloc (.cells zC 53);(t.size=35/\(∀x∈t.toList,x.oneCell'=true)/\∀y,y<35->Wr v ((aR r.heap.size).add y))/\let z:=setCells v (aR r.heap.size) t.toList 0;Split (u != (0:Int)) (Q .ret [(0,.pointer a),(4,.int .i64 u),(13,.slice c d e),(14,.int .i64 f),(15,.int .i64 g)] z) (Q .normal [(0,.pointer a),(4,.int .i64 b),(13,.slice c d e),(14,.int .i64 f),(15,.int .i64 (i64.wrap (g+(1:Int))))] z)) (Q (.exit 0) [(0,.pointer a),(4,.int .i64 b),(13,.slice c d e),(14,.int .i64 f),(15,.int .i64 g)] w)
theorem cH.b1:(aX none [] prog 29 cH.k (lB (bB (sR (sL (aQ (body f74)))))) cH.u1 Q [(0,.pointer a),(4,.int .i64 b),(13,.slice c d e),(14,.int .i64 f),(15,.int .i64 g)] w)=cH.B1 a b c d e f g Q w:=by kernel_rfl
variable{a c d e f}
theorem cH.cy(I:Int×Int->World->Prop)(μ:Int×Int->World->Nat)(s:Int×Int){Q:aP}{w:World}(h0:I s w)
 (round:∀s w,I s w->cH.B1 a (s.1) c d e f (s.2) (bR (cH.e1 a c d e f) I μ s w Q) w):Holds none [] prog 29 (.loop (lB (bB (sR (sL (aQ (body f74))))))) Q (cH.e1 a c d e f s) w:=
 bp ng mix (cH.e1 a c d e f) I μ cH.k cH.u1 s (fun s Q w=>cH.B1 a (s.1) c d e f (s.2) Q w) (fun s Q w=>cH.b1 a (s.1) c d e f (s.2) Q w) h0 round
end
section
def cH.cV(a:OA)(b:Int)(c:OA)(d e:Nat)(f g:Int)(K:KT)(w:World):Prop:=
 K (.int .i64 0) w
variable(a:OA)(b:Int)(c:OA)(d e:Nat)(f g:Int)(K:KT)(w:World)
theorem cH.dq:(cH.q1 K (.exit 0) [(0,.pointer a),(4,.int .i64 b),(13,.slice c d e),(14,.int .i64 f),(15,.int .i64 g)] w)=cH.cV a b c d e f g K w:=by kernel_rfl
end
def iM.k:List Nat:= []
section
variable(a:OA)(b:AV)(K:KT)(w:World)
def iM.W:Prop:=
 let d:=w.alloc (.cells b 24);let e:=d.drew;∃f:AV,(f.size=32/\Cells e (aR w.heap.size) f)/\bz prog 45 #[.pointer a] e fun g i=>∃j:OA,g=.pointer j/\(∃cs:AV,(.agg f:Value)=.agg cs/\cs.size=32/\Cells i (aR w.heap.size) cs)/\bz prog 109 #[.pointer j,.agg f] i fun k m=>∃n:Value,k=n/\bz prog 108 #[n] m fun o p=>∃q:OA,∃r t:Nat,o=.slice q r t/\bz prog 110 #[.slice q r t] p fun u v=>u=.tuple #[]/\K (.slice q r t) v
variable{a b K w}
theorem iM.of(h:iM.W a b K w):bz prog 76 #[.pointer a,.agg b] w K:=
 rqq func76 (C:=iM.k) h
end
def aL.k:List Nat:= []
def aL.q1(K:KT):aP:=(aO 0 (aT f110) (bT prog f110 K))
def aL.e1(a:OA)(b c:Nat)(s:Int×Int):Env:= [(0,.slice a b c),(2,.int .i64 s.1),(3,.int .i64 s.2)]
def aL.u1:List Nat:= [0,2,3]
section
variable(a:OA)(b d:Nat)(K:KT)(w:World)
def aL.W:Prop:=
 Holds none [] prog 28 (.loop (lB (bB (sR (body f110))))) (aL.q1 K) [(0,.slice a b d),(2,.int .i64 0),(3,.int .i64 (i64.wrap ((b:Int)-(1:Int))))] w
variable{a b d K w}
theorem aL.of(h:aL.W a b d K w):bz prog 110 #[.slice a b d] w K:=
 rqq func110 (C:=aL.k) h
end
section
variable(a:OA)(b c:Nat)(d e:Int)(Q:aP)(w:World)
def aL.B1:Prop:=
 Split (decide (d<e)) (let f:=w.drew;(0<=e/\e<(b:Int))/\Is a fun g:Addr=>∃i:AV,(i.size=32/\Cells f (g.add (e.toNat*32)) i)/\(0<=d/\d<(b:Int))/\Is a fun j:Addr=>∃k:AV,(k.size=32/\Cells f (j.add (d.toNat*32)) k)/\(0<=d/\d<(b:Int))/\Is a fun m:Addr=>(i.size=32/\(∀n∈i.toList,n.oneCell'=true)/\∀o,o<32->Wr f ((m.add (d.toNat*32)).add o))/\let p:=setCells f (m.add (d.toNat*32)) i.toList 0;(0<=e/\e<(b:Int))/\Is a fun q:Addr=>(k.size=32/\(∀r∈k.toList,r.oneCell'=true)/\∀t,t<32->Wr p ((q.add (e.toNat*32)).add t))/\let u:=setCells p (q.add (e.toNat*32)) k.toList 0;Q .normal [(0,.slice a b c),(2,.int .i64 (i64.wrap (d+(1:Int)))),(3,.int .i64 (i64.wrap (e-(1:Int))))] u) (Q (.exit 0) [(0,.slice a b c),(2,.int .i64 d),(3,.int .i64 e)] w)
theorem aL.b1:(aX none [] prog 28 aL.k (lB (bB (sR (body f110)))) aL.u1 Q [(0,.slice a b c),(2,.int .i64 d),(3,.int .i64 e)] w)=aL.B1 a b c d e Q w:=by kernel_rfl
variable{a b c}
theorem aL.cy(I:Int×Int->World->Prop)(μ:Int×Int->World->Nat)(s:Int×Int){Q:aP}{w:World}(h0:I s w)
 (round:∀s w,I s w->aL.B1 a b c (s.1) (s.2) (bR (aL.e1 a b c) I μ s w Q) w):Holds none [] prog 28 (.loop (lB (bB (sR (body f110))))) Q (aL.e1 a b c s) w:=
 bp ng mix (aL.e1 a b c) I μ aL.k aL.u1 s (fun s Q w=>aL.B1 a b c (s.1) (s.2) Q w) (fun s Q w=>aL.b1 a b c (s.1) (s.2) Q w) h0 round
end
section
def aL.cV(a:OA)(b c:Nat)(d e:Int)(K:KT)(w:World):Prop:=
 K (.tuple #[]) w
variable(a:OA)(b c:Nat)(d e:Int)(K:KT)(w:World)
theorem aL.dq:(aL.q1 K (.exit 0) [(0,.slice a b c),(2,.int .i64 d),(3,.int .i64 e)] w)=aL.cV a b c d e K w:=by kernel_rfl
end
def bC.k:List Nat:= []
def bC.q1(K:KT):aP:=(aO 0 (aT f77) (bT prog f77 K))
def bC.e1(a:Nat)(b:Addr)(c:OA)(d e:Nat)(f s:Int):Env:= [(0,.func (.yield a) #[] #[]),(1,.pointer (some b)),(16,.slice c d e),(17,.int .i64 f),(18,.int .i64 s)]
def bC.u1:List Nat:= [0,1,16,17,18]
section
variable(a:Nat)(b d:Addr)(K:KT)(w:World)
def bC.W:Prop:=
 ∃e:OA,w.cell? b=some (.pointer e)/\∃f:AV,(f.size=32/\Cells w d f)/\f.size=32/\let g:=w.alloc (.cells (f.toList++ []).toArray 24);bz prog 74 #[.pointer e,.slice (some (aR w.heap.size)) 1 1] g fun i j=>∃k:Int,i=.int .i64 k/\Split (k != (0:Int)) (K (.tuple #[]) j) (∃m:OA,j.cell? b=some (.pointer m)/\∃n:AV,(n.size=32/\Cells j d n)/\bz prog 76 #[.pointer m,.agg n] j fun o p=>∃q:OA,∃r t:Nat,o=.slice q r t/\(0<=(1:Int)/\(1:Int)<=(r:Int))/\Holds none [] prog 39 (.loop (lB (bB (aQ (body f77))))) (bC.q1 K) [(0,.func (.yield a) #[] #[]),(1,.pointer (some b)),(16,.slice (if t=(1:Int).toNat then q else q.map (·.add (((1:Int).toNat)*32))) (r-((1:Int).toNat)) (t-((1:Int).toNat))),(17,.int .i64 ((r-((1:Int).toNat):Nat):Int)),(18,.int .i64 0)] p)
variable{a b d K w}
theorem bC.of(h:bC.W a b d K w):bz prog 77 #[.func (.yield a) #[] #[],.pointer (some b),.pointer (some d)] w K:=
 rqq func77 (C:=bC.k) h
end
section
variable(a:Nat)(b:Addr)(c:OA)(d e:Nat)(f g:Int)(Q:aP)(w:World)
def bC.B1:Prop:=
 Split (decide (g<f)) ((0<=g/\g<(d:Int))/\Is c fun i:Addr=>∃j:AV,(j.size=32/\Cells w (i.add (g.toNat*32)) j)/\let k:=w.alloc (.cells zH 24);(j.size=32/\(∀m∈j.toList,m.oneCell'=true)/\∀n,n<32->Wr k ((aR w.heap.size).add n))/\let o:=setCells k (aR w.heap.size) j.toList 0;∃p:OA,o.cell? b=some (.pointer p)/\∃q:AV,(q.size=32/\Cells o (aR w.heap.size) q)/\bz prog 78 #[.pointer p,.agg q] o fun r t=>∃u:AV,∃v:Int,r=.tuple #[.agg u,.int .i64 v]/\let x:=t.alloc (.cells zC 53);(u.size=35/\(∀y∈u.toList,y.oneCell'=true)/\∀z,z<35->Wr x ((aR t.heap.size).add z))/\let aa:=setCells x (aR t.heap.size) u.toList 0;let ba:=aa.drew;∃ca:AV,(ca.size=32/\Cells ba (aR w.heap.size) ca)/\∃da:AV,(da.size=32/\Cells ba ((aR t.heap.size).add 0) da)/\∃ea:OA,∃fa ga:Nat,ba.cell? ((aR t.heap.size).add 33)=some (.slice ea fa ga)/\da.size=32/\let ia:=ba.alloc (.cells (da.toList++ []).toArray 24);ia.cell? ((aR t.heap.size).add 33)=some (.slice ea fa ga)/\(∃cs:AV,(.agg ca:Value)=.agg cs/\cs.size=32/\Cells ia (aR w.heap.size) cs)/\∃(ja:OA) (ka ma:Nat) (na:World),(Builtin.append_ #[33,33] 33 #[.slice (some (aR ba.heap.size)) 1 1,.slice ea fa ga]).run prog ia=.ok (.slice ja ka ma) na/\(∃cs:AV,(.agg ca:Value)=.agg cs/\cs.size=32/\Cells na (aR w.heap.size) cs)/\jC prog a #[.agg ca,.slice ja ka ma] na fun oa pa=>Split (!oa) (Q .ret [(0,.func (.yield a) #[] #[]),(1,.pointer (some b)),(16,.slice c d e),(17,.int .i64 f),(18,.int .i64 g)] pa) (Q .normal [(0,.func (.yield a) #[] #[]),(1,.pointer (some b)),(16,.slice c d e),(17,.int .i64 f),(18,.int .i64 (i64.wrap (g+(1:Int))))] pa)) (Q (.exit 0) [(0,.func (.yield a) #[] #[]),(1,.pointer (some b)),(16,.slice c d e),(17,.int .i64 f),(18,.int .i64 g)] w)
theorem bC.b1:(aX none [] prog 39 bC.k (lB (bB (aQ (body f77)))) bC.u1 Q [(0,.func (.yield a) #[] #[]),(1,.pointer (some b)),(16,.slice c d e),(17,.int .i64 f),(18,.int .i64 g)] w)=bC.B1 a b c d e f g Q w:=by kernel_rfl
variable{a b c d e f}
theorem bC.cy(I:Int->World->Prop)(μ:Int->World->Nat)(s:Int){Q:aP}{w:World}(h0:I s w)
 (round:∀s w,I s w->bC.B1 a b c d e f s (bR (bC.e1 a b c d e f) I μ s w Q) w):Holds none [] prog 39 (.loop (lB (bB (aQ (body f77))))) Q (bC.e1 a b c d e f s) w:=
 bp ng mix (bC.e1 a b c d e f) I μ bC.k bC.u1 s (fun s Q w=>bC.B1 a b c d e f s Q w) (fun s Q w=>bC.b1 a b c d e f s Q w) h0 round
end
section
def bC.cV(a:Nat)(b:Addr)(c:OA)(d e:Nat)(f g:Int)(K:KT)(w:World):Prop:=
 K (.tuple #[]) w
variable(a:Nat)(b:Addr)(c:OA)(d e:Nat)(f g:Int)(K:KT)(w:World)
theorem bC.dq:(bC.q1 K (.exit 0) [(0,.func (.yield a) #[] #[]),(1,.pointer (some b)),(16,.slice c d e),(17,.int .i64 f),(18,.int .i64 g)] w)=bC.cV a b c d e f g K w:=by kernel_rfl
end
def dd.k:List Nat:= []
def dd.xM(K:KT):aP:=(aO 0 (cr (b9 (body Tryz.f25))++(aT Tryz.f25)) (bZ (fun b7 w_=>match cutAt dd.k (b9 (body Tryz.f25))with|true=>Holds none [] prog 26 (b9 (body Tryz.f25)) (bT prog Tryz.f25 K) b7 w_|false=>aX none [] prog 26 dd.k (b9 (body Tryz.f25)) (aT Tryz.f25) (bT prog Tryz.f25 K) b7 w_) (bT prog Tryz.f25 K)))
section
variable(a:OA)(b:AV)(K:KT)(w:World)
def dd.W:Prop:=
 let d:=w.alloc (.cells b 24);∃e:AV,(e.size=32/\Cells d (aR w.heap.size) e)/\e.size=32/\let f:=d.alloc (.cells (e.toList++ []).toArray 24);bz prog 74 #[.pointer a,.slice (some (aR d.heap.size)) 1 1] f fun g i=>∃j:Int,g=.int .i64 j/\Split (j != (0:Int)) (K (.tuple #[.slice none 0 0,.int .i64 j]) i) (let k:=i.alloc (.cells (#[.slice none 0 0]:AV) 33);∃m:AV,(m.size=32/\Cells k (aR w.heap.size) m)/\bz prog 31 #[.pointer a,.agg m] k fun n o=>∃p:Value,n=p/\Holds none [] prog 26 (bB (sR (sL (aQ (sR (body Tryz.f25)))))) (dd.xM K) [(4,.slice none 0 0),(5,.int .i64 0),(7,.pointer (some (aR i.heap.size))),(19,p)] o)
variable{a b K w}
theorem dd.of(h:dd.W a b K w):bz prog 25 #[.pointer a,.agg b] w K:=
 rqq func25 (C:=dd.k) h
end
section
def dd.A1(l:Nat)(a:OA)(b c:Nat)(d:Int)(e:Addr)(f:Value)(g:AV)(i:OA)(j k:Nat)(Q:aP)(w:World):Prop:=
 Q .normal [(7,.pointer (some e)),(9,.slice i j k)] w
variable(l:Nat)(a:OA)(b c:Nat)(d:Int)(e:Addr)(f:Value)(g:AV)(i:OA)(j k:Nat)(Q:aP)(w:World)
theorem dd.a1:(aX (some l) [] prog 26 dd.k (rA (bB (sR (sL (aQ (sR (body Tryz.f25))))))) (cr (rB (bB (sR (sL (aQ (sR (body Tryz.f25)))))))) Q [(4,.slice a b c),(5,.int .i64 d),(7,.pointer (some e)),(19,f),(20,.agg g),(21,.slice i j k)] w)=dd.A1 l a b c d e f g i j k Q w:=by kernel_rfl
end
section
def dd.Y1(l:Nat)(a:Addr)(b:OA)(c d:Nat)(Q:aP)(w:World):Prop:=
 ∃e:OA,∃f g:Nat,w.cell? a=some (.slice e f g)/\∃(i:OA) (j k:Nat) (m:World),(Builtin.append_ #[33,33] 33 #[.slice e f g,.slice b c d]).run prog w=.ok (.slice i j k) m/\Wr m a/\let n:=m.setCell a (.slice i j k);Q .normal [] n
variable(l:Nat)(a:Addr)(b:OA)(c d:Nat)(Q:aP)(w:World)
theorem dd.y1:(aX (some l) [] prog 26 dd.k (rB (bB (sR (sL (aQ (sR (body Tryz.f25))))))) [] Q [(7,.pointer (some a)),(9,.slice b c d)] w)=dd.Y1 l a b c d Q w:=by kernel_rfl
end
section
def dd.fT(a:OA)(b c:Nat)(d:Int)(e:Addr)(f:Value)(ms:AV)(K:KT)(w:World):Prop:=
 ∃g:OA,∃i j:Nat,w.cell? e=some (.slice g i j)/\jN (marksOf (.agg ms)) w/\K (.tuple #[.slice g i j,.int .i64 0]) (eK (marksOf (.agg ms)) w)
variable(a:OA)(b c:Nat)(d:Int)(e:Addr)(f:Value)(ms:AV)(K:KT)(w:World)
theorem dd.iF:(dd.xM K .normal [(4,.slice a b c),(5,.int .i64 d),(7,.pointer (some e)),(19,f),(4294967296,.agg ms)] w)=dd.fT a b c d e f ms K w:=by kernel_rfl
end
def cM.k:List Nat:= []
def cM.xM(K:KT):aP:=(aO 0 (cr (aQ (sR (body f37)))++(aT f37)) (bZ (fun b7 w_=>match cutAt cM.k (aQ (sR (body f37)))with|true=>Holds none [] prog 30 (aQ (sR (body f37))) (bT prog f37 K) b7 w_|false=>aX none [] prog 30 cM.k (aQ (sR (body f37))) (aT f37) (bT prog f37 K) b7 w_) (bT prog f37 K)))
section
variable(a:OA)(b d:AV)(K:KT)(w:World)
def cM.W:Prop:=
 let e:=w.alloc (.cells b 24);let f:=e.alloc (.cells d 24);let g:=f.alloc (.cells zH 24);let i:=g.alloc (.cells (#[.int .i64 0]:AV) 34);∃j:AV,(j.size=32/\Cells i (aR w.heap.size) j)/\∃k:AV,(k.size=32/\Cells i (aR e.heap.size) k)/\j.size=32/\k.size=32/\let m:=i.alloc (.cells (j.toList++(k.toList++([]))).toArray 24);bz prog 74 #[.pointer a,.slice (some (aR i.heap.size)) 2 2] m fun n o=>∃p:Int,n=.int .i64 p/\Split (p != (0:Int)) ((zH.size=32/\(∀q∈zH.toList,q.oneCell'=true)/\∀r,r<32->Wr o ((aR f.heap.size).add r))/\let t:=setCells o (aR f.heap.size) zH.toList 0;Wr t (aR g.heap.size)/\let u:=t.setCell (aR g.heap.size) (.int .i64 p);∃v:AV,(v.size=32/\Cells u (aR f.heap.size) v)/\∃x:Int,u.cell? (aR g.heap.size)=some (.int .i64 x)/\K (.tuple #[.agg v,.int .i64 x]) u) (∃y:AV,(y.size=32/\Cells o (aR e.heap.size) y)/\bz prog 31 #[.pointer a,.agg y] o fun z aa=>∃ba:Value,z=ba/\Holds none [] prog 30 (bB (sR (sL (aQ (body f37))))) (cM.xM K) [(4,.pointer (some (aR w.heap.size))),(6,.pointer (some (aR f.heap.size))),(7,.pointer (some (aR g.heap.size))),(22,ba)] aa)
variable{a b d K w}
theorem cM.of(h:cM.W a b d K w):bz prog 37 #[.pointer a,.agg b,.agg d] w K:=
 rqq func37 (C:=cM.k) h
end
section
def cM.A1(l:Nat)(a b c:Addr)(d:Value)(e:AV)(f:OA)(g i:Nat)(Q:aP)(w:World):Prop:=
 let j:=w.alloc (.cells zH 24);(e.size=32/\(∀k∈e.toList,k.oneCell'=true)/\∀m,m<32->Wr j ((aR w.heap.size).add m))/\let n:=setCells j (aR w.heap.size) e.toList 0;Q .normal [(4,.pointer (some a)),(6,.pointer (some b)),(7,.pointer (some c)),(9,.pointer (some (aR w.heap.size))),(10,.slice f g i)] n
variable(l:Nat)(a b c:Addr)(d:Value)(e:AV)(f:OA)(g i:Nat)(Q:aP)(w:World)
theorem cM.a1:(aX (some l) [] prog 30 cM.k (rA (bB (sR (sL (aQ (body f37)))))) (cr (rB (bB (sR (sL (aQ (body f37))))))) Q [(4,.pointer (some a)),(6,.pointer (some b)),(7,.pointer (some c)),(22,d),(23,.agg e),(24,.slice f g i)] w)=cM.A1 l a b c d e f g i Q w:=by kernel_rfl
end
section
def cM.Y1(l:Nat)(a b c d:Addr)(e:OA)(f g:Nat)(Q:aP)(w:World):Prop:=
 ∃i:AV,(i.size=32/\Cells w a i)/\bz prog 80 #[.slice e f g,.agg i] w fun j k=>∃m:Bool,j=.bool m/\Split m (∃n:AV,(n.size=32/\Cells k d n)/\(n.size=32/\(∀o∈n.toList,o.oneCell'=true)/\∀p,p<32->Wr k (b.add p))/\let q:=setCells k b n.toList 0;Wr q c/\let r:=q.setCell c (.int .i64 0);Q .ret [] r) (Q .normal [] k)
variable(l:Nat)(a b c d:Addr)(e:OA)(f g:Nat)(Q:aP)(w:World)
theorem cM.y1:(aX (some l) [] prog 30 cM.k (rB (bB (sR (sL (aQ (body f37)))))) [] Q [(4,.pointer (some a)),(6,.pointer (some b)),(7,.pointer (some c)),(9,.pointer (some d)),(10,.slice e f g)] w)=cM.Y1 l a b c d e f g Q w:=by kernel_rfl
end
section
def cM.fT(a b c:Addr)(d:Value)(ms:AV)(K:KT)(w:World):Prop:=
 (zH.size=32/\(∀e∈zH.toList,e.oneCell'=true)/\∀f,f<32->Wr w (b.add f))/\let g:=setCells w b zH.toList 0;Wr g c/\let i:=g.setCell c (.int .i64 6);jN (marksOf (.agg ms)) i/\∃j:AV,(j.size=32/\Cells (eK (marksOf (.agg ms)) i) b j)/\∃k:Int,(eK (marksOf (.agg ms)) i).cell? c=some (.int .i64 k)/\K (.tuple #[.agg j,.int .i64 k]) (eK (marksOf (.agg ms)) i)
variable(a b c:Addr)(d:Value)(ms:AV)(K:KT)(w:World)
theorem cM.iF:(cM.xM K .normal [(4,.pointer (some a)),(6,.pointer (some b)),(7,.pointer (some c)),(22,d),(4294967296,.agg ms)] w)=cM.fT a b c d ms K w:=by kernel_rfl
end
section
def cM.qm(a b c:Addr)(d:Value)(ms:AV)(K:KT)(w:World):Prop:=
 jN (marksOf (.agg ms)) w/\∃e:AV,(e.size=32/\Cells (eK (marksOf (.agg ms)) w) b e)/\∃f:Int,(eK (marksOf (.agg ms)) w).cell? c=some (.int .i64 f)/\K (.tuple #[.agg e,.int .i64 f]) (eK (marksOf (.agg ms)) w)
variable(a b c:Addr)(d:Value)(ms:AV)(K:KT)(w:World)
theorem cM.u7:(cM.xM K .ret [(4,.pointer (some a)),(6,.pointer (some b)),(7,.pointer (some c)),(22,d),(4294967296,.agg ms)] w)=cM.qm a b c d ms K w:=by kernel_rfl
end
def lI.k:List Nat:= []
def lI.q1(K:KT):aP:=(aO 0 (cr (b9 (body Tryz.f5))++(aT Tryz.f5)) (bZ (fun b7 w_=>match cutAt lI.k (b9 (body Tryz.f5))with|true=>Holds none [] prog 166 (b9 (body Tryz.f5)) (bT prog Tryz.f5 K) b7 w_|false=>aX none [] prog 166 lI.k (b9 (body Tryz.f5)) (aT Tryz.f5) (bT prog Tryz.f5 K) b7 w_) (bT prog Tryz.f5 K)))
section
variable(a:Int)(b:AV)(d:OA)(e f:Nat)(K:KT)(w:World)
variable{a b d e f K w}
end
section
variable(a:Bool)(b c:OA)(d:Int)(Q:aP)(w:World)
variable{b c}
end
section
variable(a:Bool)(b c:OA)(d:Int)(K:KT)(w:World)
end
section
variable(a:Bool)(b c:OA)(d:Int)(e:Addr)(f:OA)(g i:Nat)(j:Int)(Q:aP)(w:World)
variable{b c d e f g i}
end
section
variable(a:Bool)(b c:OA)(d:Int)(e:Addr)(f:OA)(g i:Nat)(j:Int)(Q:aP)(w:World)
end
section
variable(a:Bool)(b c:OA)(d:Int)(e:Addr)(f:OA)(g i:Nat)(j k:Int)(Q:aP)(w:World)
variable{b c d e f g i j}
end
section
variable(a:Bool)(b c:OA)(d:Int)(e:Addr)(f:OA)(g i:Nat)(j k:Int)(Q:aP)(w:World)
end
section
variable(a:Bool)(b c:OA)(d:Int)(e:OA)(f g:Nat)(i:OA)(j k:Nat)(m:Int)(Q:aP)(w:World)
variable{b c d e f g i j k}
end
section
variable(a:Bool)(b c:OA)(d:Int)(e:OA)(f g:Nat)(i:OA)(j k:Nat)(m:Int)(Q:aP)(w:World)
end
section
variable(a:Int)(b:AV)(d:OA)(e f:Nat)(g:AV)(i:OA)(j k:Nat)(K:KT)(w:World)
variable{a b d e f g i j k K w}
end
def al.k:List Nat:= []
def al.q1(K:KT):aP:=(aO 0 (cr (b9 (body f8))++(aT f8)) (bZ (fun b7 w_=>match cutAt al.k (b9 (body f8))with|true=>Holds none [] prog 180 (b9 (body f8)) (bT prog f8 K) b7 w_|false=>aX none [] prog 180 al.k (b9 (body f8)) (aT f8) (bT prog f8 K) b7 w_) (bT prog f8 K)))
def al.e1(a b:OA)(s:Bool×Int):Env:= [(6,.bool s.1),(7,.pointer a),(8,.pointer b),(11,.int .i64 s.2)]
def al.u1:List Nat:= [6,7,8,11]
def al.q2(Q:aP):aP:=(aO 2 (cr (aQ (lB (bB (sR (sL (aQ (sR (body f8))))))))++al.u1) (aO 1 (cr (aQ (lB (bB (sR (sL (aQ (sR (body f8))))))))++al.u1) (bZ (fun b7 w_=>match cutAt al.k (aQ (lB (bB (sR (sL (aQ (sR (body f8))))))))with|true=>Holds none [] prog 180 (aQ (lB (bB (sR (sL (aQ (sR (body f8)))))))) Q b7 w_|false=>aX none [] prog 180 al.k (aQ (lB (bB (sR (sL (aQ (sR (body f8)))))))) al.u1 Q b7 w_) Q)))
def al.e2(a b:OA)(c:Int)(d:Addr)(e:OA)(f g:Nat)(i:OA)(j k:Nat)(s:Bool×Int):Env:= [(6,.bool s.1),(7,.pointer a),(8,.pointer b),(11,.int .i64 c),(12,.pointer (some d)),(13,.slice e f g),(14,.slice i j k),(15,.int .i64 s.2)]
def al.u2:List Nat:= [6,7,8,11,12,13,14,15]
def al.q3(Q:aP):aP:=(aO 4 (cr (aQ (sR (bB (sL (sR (lB (bB (b9 (bB (sL (sR (lB (bB (sR (sL (aQ (sR (body f8))))))))))))))))))++(cr (aQ (lB (bB (b9 (bB (sL (sR (lB (bB (sR (sL (aQ (sR (body f8))))))))))))))++al.u2)) (bZ (fun b7 w_=>match cutAt al.k (aQ (sR (bB (sL (sR (lB (bB (b9 (bB (sL (sR (lB (bB (sR (sL (aQ (sR (body f8))))))))))))))))))with|true=>Holds none [] prog 180 (aQ (sR (bB (sL (sR (lB (bB (b9 (bB (sL (sR (lB (bB (sR (sL (aQ (sR (body f8)))))))))))))))))) (aO 3 (cr (aQ (lB (bB (b9 (bB (sL (sR (lB (bB (sR (sL (aQ (sR (body f8))))))))))))))++al.u2) (bZ (fun b7 w_=>match cutAt al.k (aQ (lB (bB (b9 (bB (sL (sR (lB (bB (sR (sL (aQ (sR (body f8))))))))))))))with|true=>Holds none [] prog 180 (aQ (lB (bB (b9 (bB (sL (sR (lB (bB (sR (sL (aQ (sR (body f8)))))))))))))) Q b7 w_|false=>aX none [] prog 180 al.k (aQ (lB (bB (b9 (bB (sL (sR (lB (bB (sR (sL (aQ (sR (body f8)))))))))))))) al.u2 Q b7 w_) Q)) b7 w_|false=>aX none [] prog 180 al.k (aQ (sR (bB (sL (sR (lB (bB (b9 (bB (sL (sR (lB (bB (sR (sL (aQ (sR (body f8)))))))))))))))))) (cr (aQ (lB (bB (b9 (bB (sL (sR (lB (bB (sR (sL (aQ (sR (body f8))))))))))))))++al.u2) (aO 3 (cr (aQ (lB (bB (b9 (bB (sL (sR (lB (bB (sR (sL (aQ (sR (body f8))))))))))))))++al.u2) (bZ (fun b7 w_=>match cutAt al.k (aQ (lB (bB (b9 (bB (sL (sR (lB (bB (sR (sL (aQ (sR (body f8))))))))))))))with|true=>Holds none [] prog 180 (aQ (lB (bB (b9 (bB (sL (sR (lB (bB (sR (sL (aQ (sR (body f8)))))))))))))) Q b7 w_|false=>aX none [] prog 180 al.k (aQ (lB (bB (b9 (bB (sL (sR (lB (bB (sR (sL (aQ (sR (body f8)))))))))))))) al.u2 Q b7 w_) Q)) b7 w_) (aO 3 (cr (aQ (lB (bB (b9 (bB (sL (sR (lB (bB (sR (sL (aQ (sR (body f8))))))))))))))++al.u2) (bZ (fun b7 w_=>match cutAt al.k (aQ (lB (bB (b9 (bB (sL (sR (lB (bB (sR (sL (aQ (sR (body f8))))))))))))))with|true=>Holds none [] prog 180 (aQ (lB (bB (b9 (bB (sL (sR (lB (bB (sR (sL (aQ (sR (body f8)))))))))))))) Q b7 w_|false=>aX none [] prog 180 al.k (aQ (lB (bB (b9 (bB (sL (sR (lB (bB (sR (sL (aQ (sR (body f8)))))))))))))) al.u2 Q b7 w_) Q))))
def al.e3(a:Bool)(b c:OA)(d:Int)(e:Addr)(f:OA)(g i:Nat)(j:OA)(k m:Nat)(n:Int)(o:Addr)(s:Int×Int):Env:= [(6,.bool a),(7,.pointer b),(8,.pointer c),(11,.int .i64 d),(12,.pointer (some e)),(13,.slice f g i),(14,.slice j k m),(15,.int .i64 n),(16,.pointer (some o)),(17,.int .i64 s.1),(18,.int .i64 s.2)]
def al.u3:List Nat:= [6,7,8,11,12,13,14,15,16,17,18]
section
variable(a:Int)(b:AV)(d:OA)(e f:Nat)(K:KT)(w:World)
def al.W:Prop:=
 let g:=w.alloc (.cells b 24);∃i:AV,(i.size=32/\Cells g (aR w.heap.size) i)/\bz prog 23 #[.int .i64 a,.agg i,.slice d e f] g fun j k=>∃m n:OA,∃o p:Bool,j=.tuple #[.pointer m,.pointer n,.bool o,.bool p]/\Split (!o) (Split p (bz prog 24 #[] k fun q r=>∃t:Bool,q=.bool t/\K (.bool t) r) (K (.bool false) k)) (Split (!p) (Split p (bz prog 24 #[] k fun u v=>∃x:Bool,u=.bool x/\K (.bool x) v) (K (.bool false) k)) (Holds none [] prog 180 (.loop (lB (bB (sR (sL (aQ (sR (body f8)))))))) (al.q1 K) [(6,.bool false),(7,.pointer m),(8,.pointer n),(11,.int .i64 0)] k))
variable{a b d e f K w}
theorem al.of(h:al.W a b d e f K w):bz prog 8 #[.int .i64 a,.agg b,.slice d e f] w K:=
 rqq func8 (C:=al.k) h
end
section
variable(a:Bool)(b c:OA)(d:Int)(Q:aP)(w:World)
def al.B1:Prop:=
 Is c fun e:Addr=>∃f:OA,w.cell? (e.add 1)=some (.pointer f)/\Is f fun g:Addr=>∃i:OA,∃j k:Nat,w.cell? ((g.add 0).add 0)=some (.slice i j k)/\Split (decide (d<(j:Int))) (Is c fun m:Addr=>∃n:OA,w.cell? (m.add 1)=some (.pointer n)/\Is n fun o:Addr=>∃p:OA,∃q r:Nat,w.cell? ((o.add 0).add 0)=some (.slice p q r)/\(0<=d/\d<(q:Int))/\Is p fun t:Addr=>∃u:AV,(u.size=32/\Cells w ((t.add (d.toNat*33)).add 0) u)/\let v:=w.alloc (.cells zH 24);(u.size=32/\(∀x∈u.toList,x.oneCell'=true)/\∀y,y<32->Wr v ((aR w.heap.size).add y))/\let z:=setCells v (aR w.heap.size) u.toList 0;∃aa:AV,(aa.size=32/\Cells z (aR w.heap.size) aa)/\bz prog 33 #[.pointer c,.agg aa] z fun ba ca=>∃da:OA,∃ea fa:Nat,ba=.slice da ea fa/\let ga:=ca.drew;Is c fun ia:Addr=>∃ja:OA,ga.cell? (ia.add 1)=some (.pointer ja)/\∃ka:AV,(ka.size=32/\Cells ga (aR w.heap.size) ka)/\bz prog 29 #[.pointer ja,.agg ka] ga fun ma na=>∃oa:OA,∃pa qa:Nat,ma=.slice oa pa qa/\Holds none [] prog 180 (.loop (lB (bB (b9 (bB (sL (sR (lB (bB (sR (sL (aQ (sR (body f8)))))))))))))) (al.q2 Q) [(6,.bool a),(7,.pointer b),(8,.pointer c),(11,.int .i64 d),(12,.pointer (some (aR w.heap.size))),(13,.slice da ea fa),(14,.slice oa pa qa),(15,.int .i64 0)] na) (Q (.exit 0) [(6,.bool a),(7,.pointer b),(8,.pointer c),(11,.int .i64 d)] w)
theorem al.b1:(aX none [] prog 180 al.k (lB (bB (sR (sL (aQ (sR (body f8))))))) al.u1 Q [(6,.bool a),(7,.pointer b),(8,.pointer c),(11,.int .i64 d)] w)=al.B1 a b c d Q w:=by kernel_rfl
variable{b c}
theorem al.cy(I:Bool×Int->World->Prop)(μ:Bool×Int->World->Nat)(s:Bool×Int){Q:aP}{w:World}(h0:I s w)
 (round:∀s w,I s w->al.B1 (s.1) b c (s.2) (bR (al.e1 b c) I μ s w Q) w):Holds none [] prog 180 (.loop (lB (bB (sR (sL (aQ (sR (body f8)))))))) Q (al.e1 b c s) w:=
 bp ng mix (al.e1 b c) I μ al.k al.u1 s (fun s Q w=>al.B1 (s.1) b c (s.2) Q w) (fun s Q w=>al.b1 (s.1) b c (s.2) Q w) h0 round
end
section
def al.cV(a:Bool)(b c:OA)(d:Int)(K:KT)(w:World):Prop:=
 bz prog 24 #[] w fun e f=>∃g:Bool,e=.bool g/\K (.bool g) f
variable(a:Bool)(b c:OA)(d:Int)(K:KT)(w:World)
theorem al.dq:(al.q1 K (.exit 0) [(6,.bool a),(7,.pointer b),(8,.pointer c),(11,.int .i64 d)] w)=al.cV a b c d K w:=by kernel_rfl
end
section
variable(a:Bool)(b c:OA)(d:Int)(e:Addr)(f:OA)(g i:Nat)(j:OA)(k m:Nat)(n:Int)(Q:aP)(w:World)
def al.B2:Prop:=
 Is c fun o:Addr=>∃p:OA,w.cell? (o.add 1)=some (.pointer p)/\Is p fun q:Addr=>∃r:OA,∃t u:Nat,w.cell? ((q.add 0).add 0)=some (.slice r t u)/\Split (decide (n<(t:Int))) (Is c fun v:Addr=>∃x:OA,w.cell? (v.add 1)=some (.pointer x)/\Is x fun y:Addr=>∃z:OA,∃aa ba:Nat,w.cell? ((y.add 0).add 0)=some (.slice z aa ba)/\(0<=n/\n<(aa:Int))/\Is z fun ca:Addr=>∃da:AV,(da.size=32/\Cells w ((ca.add (n.toNat*33)).add 0) da)/\let ea:=w.alloc (.cells zH 24);(da.size=32/\(∀fa∈da.toList,fa.oneCell'=true)/\∀ga,ga<32->Wr ea ((aR w.heap.size).add ga))/\let ia:=setCells ea (aR w.heap.size) da.toList 0;Holds none [] prog 180 (.loop (lB (bB (sR (sL (aQ (bB (sL (sR (lB (bB (b9 (bB (sL (sR (lB (bB (sR (sL (aQ (sR (body f8)))))))))))))))))))))) (al.q3 Q) [(6,.bool a),(7,.pointer b),(8,.pointer c),(11,.int .i64 d),(12,.pointer (some e)),(13,.slice f g i),(14,.slice j k m),(15,.int .i64 n),(16,.pointer (some (aR w.heap.size))),(17,.int .i64 (-1)),(18,.int .i64 0)] ia) (Q (.exit 2) [(6,.bool a),(7,.pointer b),(8,.pointer c),(11,.int .i64 d),(12,.pointer (some e)),(13,.slice f g i),(14,.slice j k m),(15,.int .i64 n)] w)
theorem al.b2:(aX none [] prog 180 al.k (lB (bB (b9 (bB (sL (sR (lB (bB (sR (sL (aQ (sR (body f8))))))))))))) al.u2 Q [(6,.bool a),(7,.pointer b),(8,.pointer c),(11,.int .i64 d),(12,.pointer (some e)),(13,.slice f g i),(14,.slice j k m),(15,.int .i64 n)] w)=al.B2 a b c d e f g i j k m n Q w:=by kernel_rfl
variable{b c d e f g i j k m}
theorem al.gS(I:Bool×Int->World->Prop)(μ:Bool×Int->World->Nat)(s:Bool×Int){Q:aP}{w:World}(h0:I s w)
 (round:∀s w,I s w->al.B2 (s.1) b c d e f g i j k m (s.2) (bR (al.e2 b c d e f g i j k m) I μ s w Q) w):Holds none [] prog 180 (.loop (lB (bB (b9 (bB (sL (sR (lB (bB (sR (sL (aQ (sR (body f8)))))))))))))) Q (al.e2 b c d e f g i j k m s) w:=
 bp ng mix (al.e2 b c d e f g i j k m) I μ al.k al.u2 s (fun s Q w=>al.B2 (s.1) b c d e f g i j k m (s.2) Q w) (fun s Q w=>al.b2 (s.1) b c d e f g i j k m (s.2) Q w) h0 round
end
section
def al.iI(a:Bool)(b c:OA)(d:Int)(e:Addr)(f:OA)(g i:Nat)(j:OA)(k m:Nat)(n:Int)(Q:aP)(w:World):Prop:=
 Q .normal [(6,.bool a),(7,.pointer b),(8,.pointer c),(11,.int .i64 (i64.wrap (d+(1:Int))))] w
variable(a:Bool)(b c:OA)(d:Int)(e:Addr)(f:OA)(g i:Nat)(j:OA)(k m:Nat)(n:Int)(Q:aP)(w:World)
theorem al.jU:(al.q2 Q (.exit 2) [(6,.bool a),(7,.pointer b),(8,.pointer c),(11,.int .i64 d),(12,.pointer (some e)),(13,.slice f g i),(14,.slice j k m),(15,.int .i64 n)] w)=al.iI a b c d e f g i j k m n Q w:=by kernel_rfl
end
section
variable(a:Bool)(b c:OA)(d:Int)(e:Addr)(f:OA)(g i:Nat)(j:OA)(k m:Nat)(n:Int)(o:Addr)(p q:Int)(Q:aP)(w:World)
def al.B3:Prop:=
 Split (decide (q<(g:Int))) (let r:=w.drew;(0<=q/\q<(g:Int))/\Is f fun t:Addr=>∃u:AV,(u.size=32/\Cells r (t.add (q.toNat*32)) u)/\∃v:AV,(v.size=32/\Cells r o v)/\(dw .u8 32 u/\dw .u8 32 v)/\Split (dU u v) (Q .normal [(6,.bool a),(7,.pointer b),(8,.pointer c),(11,.int .i64 d),(12,.pointer (some e)),(13,.slice f g i),(14,.slice j k m),(15,.int .i64 n),(16,.pointer (some o)),(17,.int .i64 q),(18,.int .i64 (i64.wrap (q+(1:Int))))] r) (Q .normal [(6,.bool a),(7,.pointer b),(8,.pointer c),(11,.int .i64 d),(12,.pointer (some e)),(13,.slice f g i),(14,.slice j k m),(15,.int .i64 n),(16,.pointer (some o)),(17,.int .i64 p),(18,.int .i64 (i64.wrap (q+(1:Int))))] r)) (Q (.exit 4) [(6,.bool a),(7,.pointer b),(8,.pointer c),(11,.int .i64 d),(12,.pointer (some e)),(13,.slice f g i),(14,.slice j k m),(15,.int .i64 n),(16,.pointer (some o)),(17,.int .i64 p),(18,.int .i64 q)] w)
theorem al.b3:(aX none [] prog 180 al.k (lB (bB (sR (sL (aQ (bB (sL (sR (lB (bB (b9 (bB (sL (sR (lB (bB (sR (sL (aQ (sR (body f8))))))))))))))))))))) al.u3 Q [(6,.bool a),(7,.pointer b),(8,.pointer c),(11,.int .i64 d),(12,.pointer (some e)),(13,.slice f g i),(14,.slice j k m),(15,.int .i64 n),(16,.pointer (some o)),(17,.int .i64 p),(18,.int .i64 q)] w)=al.B3 a b c d e f g i j k m n o p q Q w:=by kernel_rfl
variable{a b c d e f g i j k m n o}
theorem al.sk(I:Int×Int->World->Prop)(μ:Int×Int->World->Nat)(s:Int×Int){Q:aP}{w:World}(h0:I s w)
 (round:∀s w,I s w->al.B3 a b c d e f g i j k m n o (s.1) (s.2) (bR (al.e3 a b c d e f g i j k m n o) I μ s w Q) w):Holds none [] prog 180 (.loop (lB (bB (sR (sL (aQ (bB (sL (sR (lB (bB (b9 (bB (sL (sR (lB (bB (sR (sL (aQ (sR (body f8)))))))))))))))))))))) Q (al.e3 a b c d e f g i j k m n o s) w:=
 bp ng mix (al.e3 a b c d e f g i j k m n o) I μ al.k al.u3 s (fun s Q w=>al.B3 a b c d e f g i j k m n o (s.1) (s.2) Q w) (fun s Q w=>al.b3 a b c d e f g i j k m n o (s.1) (s.2) Q w) h0 round
end
section
def al.sK(a:Bool)(b c:OA)(d:Int)(e:Addr)(f:OA)(g i:Nat)(j:OA)(k m:Nat)(n:Int)(o:Addr)(p q:Int)(Q:aP)(w:World):Prop:=
 ∃r:AV,(r.size=32/\Cells w o r)/\∃t:AV,(t.size=32/\Cells w e t)/\bz prog 36 #[.pointer b,.agg r,.agg t] w fun u v=>∃x y:Int,u=.tuple #[.int .i64 x,.int .i64 y]/\∃z:AV,(z.size=32/\Cells v o z)/\∃aa:AV,(aa.size=32/\Cells v e aa)/\bz prog 37 #[.pointer b,.agg z,.agg aa] v fun ba ca=>∃da:AV,∃ea:Int,ba=.tuple #[.agg da,.int .i64 ea]/\let fa:=ca.alloc (.cells zH 24);(da.size=32/\(∀ga∈da.toList,ga.oneCell'=true)/\∀ia,ia<32->Wr fa ((aR ca.heap.size).add ia))/\let ja:=setCells fa (aR ca.heap.size) da.toList 0;Split (decide (p<(0:Int))) (Split (y != (6:Int)) (Q .ret [(6,.bool false),(7,.pointer b),(8,.pointer c),(11,.int .i64 d),(12,.pointer (some e)),(13,.slice f g i),(14,.slice j k m),(15,.int .i64 n),(16,.pointer (some o)),(17,.int .i64 p),(19,.int .i64 x),(20,.int .i64 y),(21,.pointer (some (aR ca.heap.size))),(22,.int .i64 ea)] ja) (Split (ea != (6:Int)) (Q .ret [(6,.bool false),(7,.pointer b),(8,.pointer c),(11,.int .i64 d),(12,.pointer (some e)),(13,.slice f g i),(14,.slice j k m),(15,.int .i64 n),(16,.pointer (some o)),(17,.int .i64 p),(19,.int .i64 x),(20,.int .i64 y),(21,.pointer (some (aR ca.heap.size))),(22,.int .i64 ea)] ja) (Q .normal [(6,.bool a),(7,.pointer b),(8,.pointer c),(11,.int .i64 d),(12,.pointer (some e)),(13,.slice f g i),(14,.slice j k m),(15,.int .i64 (i64.wrap (n+(1:Int))))] ja))) (Split (y != (0:Int)) (Q .ret [(6,.bool false),(7,.pointer b),(8,.pointer c),(11,.int .i64 d),(12,.pointer (some e)),(13,.slice f g i),(14,.slice j k m),(15,.int .i64 n),(16,.pointer (some o)),(21,.pointer (some (aR ca.heap.size)))] ja) (Split (ea != (0:Int)) (Q .ret [(6,.bool false),(7,.pointer b),(8,.pointer c),(11,.int .i64 d),(12,.pointer (some e)),(13,.slice f g i),(14,.slice j k m),(15,.int .i64 n),(16,.pointer (some o)),(21,.pointer (some (aR ca.heap.size)))] ja) (Split (x != p) (Q .ret [(6,.bool false),(7,.pointer b),(8,.pointer c),(11,.int .i64 d),(12,.pointer (some e)),(13,.slice f g i),(14,.slice j k m),(15,.int .i64 n),(16,.pointer (some o)),(21,.pointer (some (aR ca.heap.size)))] ja) (∃ka:AV,(ka.size=32/\Cells ja (aR ca.heap.size) ka)/\bz prog 38 #[.slice j k m,.agg ka] ja fun ma na=>∃oa:Bool,ma=.bool oa/\Split (!oa) (Q .ret [(6,.bool false),(7,.pointer b),(8,.pointer c),(11,.int .i64 d),(12,.pointer (some e)),(13,.slice f g i),(14,.slice j k m),(15,.int .i64 n),(16,.pointer (some o)),(21,.pointer (some (aR ca.heap.size)))] na) (let pa:=na.drew;Is c fun qa:Addr=>∃ra:OA,∃ta ua:Nat,pa.cell? (qa.add 2)=some (.slice ra ta ua)/\Is c fun va:Addr=>∃xa:OA,pa.cell? (va.add 1)=some (.pointer xa)/\Is xa fun ya:Addr=>∃za:AV,(za.size=32/\Cells pa (aR ca.heap.size) za)/\(bz prog 16 #[.pointer (some (ya.add 0)),.agg za] pa fun ae be=>∃ce:Int,ae=.int .i64 ce/\be.cell? (qa.add 2)=some (.slice ra ta ua)/\(0<=ce/\ce<(ta:Int))/\Is ra fun de:Addr=>∃ee:AV,(ee.size=35/\Cells be (de.add (ce.toNat*35)) ee)/\let fe:=be.alloc (.cells zC 53);(∃cs:AV,(.agg ee:Value)=.agg cs/\cs.size=35/\Cells fe (de.add (ce.toNat*35)) cs)/\fe.cell? (qa.add 2)=some (.slice ra ta ua)/\(ee.size=35/\(∀ge∈ee.toList,ge.oneCell'=true)/\∀ie,ie<35->Wr fe ((aR be.heap.size).add ie))/\let je:=setCells fe (aR be.heap.size) ee.toList 0;∃ke:AV,(ke.size=32/\Cells je ((aR be.heap.size).add 0) ke)/\∃me:AV,(me.size=32/\Cells je o me)/\(dw .u8 32 ke/\dw .u8 32 me)/\Split (!(dU ke me)) (∃ne:OA,∃oe pe:Nat,je.cell? ((aR be.heap.size).add 33)=some (.slice ne oe pe)/\∃qe:AV,(qe.size=32/\Cells je o qe)/\bz prog 38 #[.slice ne oe pe,.agg qe] je fun re te=>∃ue:Bool,re=.bool ue/\Split (!ue) (Q .ret [(6,.bool false),(7,.pointer b),(8,.pointer c),(11,.int .i64 d),(12,.pointer (some e)),(13,.slice f g i),(14,.slice j k m),(15,.int .i64 n)] te) (Q .normal [(6,.bool a),(7,.pointer b),(8,.pointer c),(11,.int .i64 d),(12,.pointer (some e)),(13,.slice f g i),(14,.slice j k m),(15,.int .i64 (i64.wrap (n+(1:Int))))] te)) (Q .normal [(6,.bool a),(7,.pointer b),(8,.pointer c),(11,.int .i64 d),(12,.pointer (some e)),(13,.slice f g i),(14,.slice j k m),(15,.int .i64 (i64.wrap (n+(1:Int))))] je))/\(let ve:=pa.alloc (.cells zC 53);(∃cs:AV,(.agg za:Value)=.agg cs/\cs.size=32/\Cells ve (aR ca.heap.size) cs)/\ve.cell? (va.add 1)=some (.pointer xa)/\ve.cell? (qa.add 2)=some (.slice ra ta ua)/\bz prog 16 #[.pointer (some (ya.add 0)),.agg za] ve fun xe ye=>∃ze:Int,xe=.int .i64 ze/\ye.cell? (qa.add 2)=some (.slice ra ta ua)/\(0<=ze/\ze<(ta:Int))/\Is ra fun aj:Addr=>∃bj:AV,(bj.size=35/\Cells ye (aj.add (ze.toNat*35)) bj)/\(bj.size=35/\(∀cj∈bj.toList,cj.oneCell'=true)/\∀dj,dj<35->Wr ye ((aR pa.heap.size).add dj))/\let ej:=setCells ye (aR pa.heap.size) bj.toList 0;∃fj:AV,(fj.size=32/\Cells ej ((aR pa.heap.size).add 0) fj)/\∃gj:AV,(gj.size=32/\Cells ej o gj)/\(dw .u8 32 fj/\dw .u8 32 gj)/\Split (!(dU fj gj)) (∃ij:OA,∃jj kj:Nat,ej.cell? ((aR pa.heap.size).add 33)=some (.slice ij jj kj)/\∃mj:AV,(mj.size=32/\Cells ej o mj)/\bz prog 38 #[.slice ij jj kj,.agg mj] ej fun nj oj=>∃pj:Bool,nj=.bool pj/\Split (!pj) (Q .ret [(6,.bool false),(7,.pointer b),(8,.pointer c),(11,.int .i64 d),(12,.pointer (some e)),(13,.slice f g i),(14,.slice j k m),(15,.int .i64 n)] oj) (Q .normal [(6,.bool a),(7,.pointer b),(8,.pointer c),(11,.int .i64 d),(12,.pointer (some e)),(13,.slice f g i),(14,.slice j k m),(15,.int .i64 (i64.wrap (n+(1:Int))))] oj)) (Q .normal [(6,.bool a),(7,.pointer b),(8,.pointer c),(11,.int .i64 d),(12,.pointer (some e)),(13,.slice f g i),(14,.slice j k m),(15,.int .i64 (i64.wrap (n+(1:Int))))] ej)))))))
variable(a:Bool)(b c:OA)(d:Int)(e:Addr)(f:OA)(g i:Nat)(j:OA)(k m:Nat)(n:Int)(o:Addr)(p q:Int)(Q:aP)(w:World)
theorem al.yz:(al.q3 Q (.exit 4) [(6,.bool a),(7,.pointer b),(8,.pointer c),(11,.int .i64 d),(12,.pointer (some e)),(13,.slice f g i),(14,.slice j k m),(15,.int .i64 n),(16,.pointer (some o)),(17,.int .i64 p),(18,.int .i64 q)] w)=al.sK a b c d e f g i j k m n o p q Q w:=by kernel_rfl
end
def aA.k:List Nat:= [16,17]
def aA.q1(K:KT):aP:=(aO 0 (cr (aQ (sR (body Tryz.f23)))++(aT Tryz.f23)) (bZ (fun b7 w_=>match cutAt aA.k (aQ (sR (body Tryz.f23)))with|true=>Holds none [] prog 99 (aQ (sR (body Tryz.f23))) (bT prog Tryz.f23 K) b7 w_|false=>aX none [] prog 99 aA.k (aQ (sR (body Tryz.f23))) (aT Tryz.f23) (bT prog Tryz.f23 K) b7 w_) (bT prog Tryz.f23 K)))
def aA.e1(a:Int)(b:OA)(c d:Nat)(e:Addr)(s:(OA)×(OA)×Bool×Bool×Int):Env:= [(0,.int .i64 a),(2,.slice b c d),(4,.pointer (some e)),(6,.pointer s.1),(7,.pointer s.2.1),(8,.bool s.2.2.1),(9,.bool s.2.2.2.1),(10,.int .i64 s.2.2.2.2)]
def aA.u1:List Nat:= [0,2,4,6,7,8,9,10]
def aA.q2(K:KT):aP:=(aO 2 (cr (b9 (aQ (sR (body Tryz.f23))))++(aT Tryz.f23)) (bZ (fun b7 w_=>match cutAt aA.k (b9 (aQ (sR (body Tryz.f23))))with|true=>Holds none [] prog 99 (b9 (aQ (sR (body Tryz.f23)))) (bT prog Tryz.f23 K) b7 w_|false=>aX none [] prog 99 aA.k (b9 (aQ (sR (body Tryz.f23)))) (aT Tryz.f23) (bT prog Tryz.f23 K) b7 w_) (bT prog Tryz.f23 K)))
def aA.e2(a:OA)(b c:Nat)(d e:OA)(s:(OA)×(OA)×Bool×Bool×Int):Env:= [(2,.slice a b c),(6,.pointer s.1),(7,.pointer s.2.1),(8,.bool s.2.2.1),(9,.bool s.2.2.2.1),(11,.pointer d),(13,.pointer e),(14,.int .i64 s.2.2.2.2)]
def aA.u2:List Nat:= [2,6,7,8,9,11,13,14]
section
variable(a:Int)(b:AV)(d:OA)(e f:Nat)(K:KT)(w:World)
def aA.W:Prop:=
 let g:=w.alloc (.cells b 24);Split (decide (a<(0:Int))) (K (.tuple #[.pointer none,.pointer none,.bool false,.bool true]) g) (Split (decide (a>(6:Int))) (K (.tuple #[.pointer none,.pointer none,.bool false,.bool true]) g) (Split (decide ((e:Int)>(18:Int))) (K (.tuple #[.pointer none,.pointer none,.bool false,.bool true]) g) (Holds none [] prog 99 (.loop (lB (bB (sR (sL (aQ (body Tryz.f23))))))) (aA.q1 K) [(0,.int .i64 a),(2,.slice d e f),(4,.pointer (some (aR w.heap.size))),(6,.pointer none),(7,.pointer none),(8,.bool false),(9,.bool false),(10,.int .i64 0)] g)))
variable{a b d e f K w}
theorem aA.of(h:aA.W a b d e f K w):bz prog 23 #[.int .i64 a,.agg b,.slice d e f] w K:=
 rqq func23 (C:=aA.k) h
end
section
variable(a:Int)(b:OA)(c d:Nat)(e:Addr)(f g:OA)(i j:Bool)(k:Int)(Q:aP)(w:World)
def aA.B1:Prop:=
 Split (decide (k<(c:Int))) ((0<=k/\k<(c:Int))/\Is b fun m:Addr=>∃n:OA,∃o p:Nat,w.cell? ((m.add (k.toNat*33)).add 32)=some (.slice n o p)/\Split (decide ((o:Int)>(6:Int))) (Q .ret [(0,.int .i64 a),(2,.slice b c d),(4,.pointer (some e)),(6,.pointer none),(7,.pointer none),(8,.bool false),(9,.bool true),(10,.int .i64 k)] w) (Q .normal [(0,.int .i64 a),(2,.slice b c d),(4,.pointer (some e)),(6,.pointer f),(7,.pointer g),(8,.bool i),(9,.bool j),(10,.int .i64 (i64.wrap (k+(1:Int))))] w)) (Q (.exit 0) [(0,.int .i64 a),(2,.slice b c d),(4,.pointer (some e)),(6,.pointer f),(7,.pointer g),(8,.bool i),(9,.bool j),(10,.int .i64 k)] w)
theorem aA.b1:(aX none [] prog 99 aA.k (lB (bB (sR (sL (aQ (body Tryz.f23)))))) aA.u1 Q [(0,.int .i64 a),(2,.slice b c d),(4,.pointer (some e)),(6,.pointer f),(7,.pointer g),(8,.bool i),(9,.bool j),(10,.int .i64 k)] w)=aA.B1 a b c d e f g i j k Q w:=by kernel_rfl
variable{a b c d e}
theorem aA.cy(I:(OA)×(OA)×Bool×Bool×Int->World->Prop)(μ:(OA)×(OA)×Bool×Bool×Int->World->Nat)(s:(OA)×(OA)×Bool×Bool×Int){Q:aP}{w:World}(h0:I s w)
 (round:∀s w,I s w->aA.B1 a b c d e (s.1) (s.2.1) (s.2.2.1) (s.2.2.2.1) (s.2.2.2.2) (bR (aA.e1 a b c d e) I μ s w Q) w):Holds none [] prog 99 (.loop (lB (bB (sR (sL (aQ (body Tryz.f23))))))) Q (aA.e1 a b c d e s) w:=
 bp ng mix (aA.e1 a b c d e) I μ aA.k aA.u1 s (fun s Q w=>aA.B1 a b c d e (s.1) (s.2.1) (s.2.2.1) (s.2.2.2.1) (s.2.2.2.2) Q w) (fun s Q w=>aA.b1 a b c d e (s.1) (s.2.1) (s.2.2.1) (s.2.2.2.1) (s.2.2.2.2) Q w) h0 round
end
section
def aA.cV(a:Int)(b:OA)(c d:Nat)(e:Addr)(f g:OA)(i j:Bool)(k:Int)(K:KT)(w:World):Prop:=
 ∃m:AV,(m.size=32/\Cells w e m)/\bz prog 42 #[.int .i64 a,.agg m] w fun n o=>∃p:OA,∃q:Int,n=.tuple #[.pointer p,.int .i64 q]/\Split (q != (0:Int)) (K (.tuple #[.pointer none,.pointer none,.bool true,.bool false]) o) (Split ((p).isNone) (K (.tuple #[.pointer none,.pointer none,.bool true,.bool false]) o) (∃r:AV,(r.size=32/\Cells o e r)/\bz prog 43 #[.int .i64 a,.agg r] o fun t u=>∃v:OA,t=.pointer v/\Holds none [] prog 99 (.loop (lB (bB (sR (sL (b9 (aQ (body Tryz.f23)))))))) (aA.q2 K) [(2,.slice b c d),(6,.pointer f),(7,.pointer g),(8,.bool i),(9,.bool j),(11,.pointer p),(13,.pointer v),(14,.int .i64 0)] u))
variable(a:Int)(b:OA)(c d:Nat)(e:Addr)(f g:OA)(i j:Bool)(k:Int)(K:KT)(w:World)
theorem aA.dq:(aA.q1 K (.exit 0) [(0,.int .i64 a),(2,.slice b c d),(4,.pointer (some e)),(6,.pointer f),(7,.pointer g),(8,.bool i),(9,.bool j),(10,.int .i64 k)] w)=aA.cV a b c d e f g i j k K w:=by kernel_rfl
end
section
variable(a:OA)(b c:Nat)(d e:OA)(f g:Bool)(i j:OA)(k:Int)(Q:aP)(w:World)
def aA.B2:Prop:=
 Split (decide (k<(b:Int))) (let m:=w.drew;(0<=k/\k<(b:Int))/\Is a fun n:Addr=>∃o:AV,(o.size=32/\Cells m ((n.add (k.toNat*33)).add 0) o)/\(0<=k/\k<(b:Int))/\Is a fun p:Addr=>∃q:OA,∃r t:Nat,m.cell? ((p.add (k.toNat*33)).add 32)=some (.slice q r t)/\(bz prog 41 #[.pointer i,.agg o,.slice q r t] m fun u v=>∃x:AV,∃y:Int,u=.tuple #[.agg x,.int .i64 y]/\let z:=v.alloc (.cells zC 53);(x.size=35/\(∀aa∈x.toList,aa.oneCell'=true)/\∀ba,ba<35->Wr z ((aR v.heap.size).add ba))/\let ca:=setCells z (aR v.heap.size) x.toList 0;Holds none [] prog 99 (sR (bB (sL (sR (lB (bB (sR (sL (b9 (aQ (body Tryz.f23))))))))))) (aO 3 (cr (aQ (lB (bB (sR (sL (b9 (aQ (body Tryz.f23))))))))++aA.u2) (bZ (fun b7 w_=>match cutAt aA.k (aQ (lB (bB (sR (sL (b9 (aQ (body Tryz.f23))))))))with|true=>Holds none [] prog 99 (aQ (lB (bB (sR (sL (b9 (aQ (body Tryz.f23)))))))) Q b7 w_|false=>aX none [] prog 99 aA.k (aQ (lB (bB (sR (sL (b9 (aQ (body Tryz.f23)))))))) aA.u2 Q b7 w_) Q)) [(2,.slice a b c),(6,.pointer d),(7,.pointer e),(8,.bool f),(9,.bool g),(11,.pointer i),(13,.pointer j),(14,.int .i64 k),(16,.int .i64 y)] ca)/\(let da:=m.alloc (.cells zC 53);da.cell? ((p.add (k.toNat*33)).add 32)=some (.slice q r t)/\(∃cs:AV,(.agg o:Value)=.agg cs/\cs.size=32/\Cells da ((n.add (k.toNat*33)).add 0) cs)/\bz prog 41 #[.pointer i,.agg o,.slice q r t] da fun ea fa=>∃ga:AV,∃ia:Int,ea=.tuple #[.agg ga,.int .i64 ia]/\(ga.size=35/\(∀ja∈ga.toList,ja.oneCell'=true)/\∀ka,ka<35->Wr fa ((aR m.heap.size).add ka))/\let ma:=setCells fa (aR m.heap.size) ga.toList 0;Holds none [] prog 99 (sR (bB (sL (sR (lB (bB (sR (sL (b9 (aQ (body Tryz.f23))))))))))) (aO 3 (cr (aQ (lB (bB (sR (sL (b9 (aQ (body Tryz.f23))))))))++aA.u2) (bZ (fun b7 w_=>match cutAt aA.k (aQ (lB (bB (sR (sL (b9 (aQ (body Tryz.f23))))))))with|true=>Holds none [] prog 99 (aQ (lB (bB (sR (sL (b9 (aQ (body Tryz.f23)))))))) Q b7 w_|false=>aX none [] prog 99 aA.k (aQ (lB (bB (sR (sL (b9 (aQ (body Tryz.f23)))))))) aA.u2 Q b7 w_) Q)) [(2,.slice a b c),(6,.pointer d),(7,.pointer e),(8,.bool f),(9,.bool g),(11,.pointer i),(13,.pointer j),(14,.int .i64 k),(16,.int .i64 ia)] ma)) (Q (.exit 2) [(2,.slice a b c),(6,.pointer d),(7,.pointer e),(8,.bool f),(9,.bool g),(11,.pointer i),(13,.pointer j),(14,.int .i64 k)] w)
theorem aA.b2:(aX none [] prog 99 aA.k (lB (bB (sR (sL (b9 (aQ (body Tryz.f23))))))) aA.u2 Q [(2,.slice a b c),(6,.pointer d),(7,.pointer e),(8,.bool f),(9,.bool g),(11,.pointer i),(13,.pointer j),(14,.int .i64 k)] w)=aA.B2 a b c d e f g i j k Q w:=by kernel_rfl
variable{a b c i j}
theorem aA.gS(I:(OA)×(OA)×Bool×Bool×Int->World->Prop)(μ:(OA)×(OA)×Bool×Bool×Int->World->Nat)(s:(OA)×(OA)×Bool×Bool×Int){Q:aP}{w:World}(h0:I s w)
 (round:∀s w,I s w->aA.B2 a b c (s.1) (s.2.1) (s.2.2.1) (s.2.2.2.1) i j (s.2.2.2.2) (bR (aA.e2 a b c i j) I μ s w Q) w):Holds none [] prog 99 (.loop (lB (bB (sR (sL (b9 (aQ (body Tryz.f23)))))))) Q (aA.e2 a b c i j s) w:=
 bp ng mix (aA.e2 a b c i j) I μ aA.k aA.u2 s (fun s Q w=>aA.B2 a b c (s.1) (s.2.1) (s.2.2.1) (s.2.2.2.1) i j (s.2.2.2.2) Q w) (fun s Q w=>aA.b2 a b c (s.1) (s.2.1) (s.2.2.1) (s.2.2.2.1) i j (s.2.2.2.2) Q w) h0 round
end
section
def aA.iI(a:OA)(b c:Nat)(d e:OA)(f g:Bool)(i j:OA)(k:Int)(K:KT)(w:World):Prop:=
 K (.tuple #[.pointer i,.pointer j,.bool true,.bool true]) w
variable(a:OA)(b c:Nat)(d e:OA)(f g:Bool)(i j:OA)(k:Int)(K:KT)(w:World)
theorem aA.jU:(aA.q2 K (.exit 2) [(2,.slice a b c),(6,.pointer d),(7,.pointer e),(8,.bool f),(9,.bool g),(11,.pointer i),(13,.pointer j),(14,.int .i64 k)] w)=aA.iI a b c d e f g i j k K w:=by kernel_rfl
end
section
variable(a:OA)(b c:Nat)(d e:OA)(f g:Bool)(i j:OA)(k m:Int)(Q:aP)(w:World)
def aA.J1:Prop:=
 let n:=w.drew;(0<=k/\k<(b:Int))/\Is a fun o:Addr=>∃p:AV,(p.size=32/\Cells n ((o.add (k.toNat*33)).add 0) p)/\(0<=k/\k<(b:Int))/\Is a fun q:Addr=>∃r:OA,∃t u:Nat,n.cell? ((q.add (k.toNat*33)).add 32)=some (.slice r t u)/\(bz prog 44 #[.pointer j,.agg p,.slice r t u] n fun v x=>∃y:AV,∃z:Int,v=.tuple #[.agg y,.int .i64 z]/\let aa:=x.alloc (.cells zC 53);(y.size=35/\(∀ba∈y.toList,ba.oneCell'=true)/\∀ca,ca<35->Wr aa ((aR x.heap.size).add ca))/\let da:=setCells aa (aR x.heap.size) y.toList 0;Holds none [] prog 99 (aQ (bB (sL (sR (lB (bB (sR (sL (b9 (aQ (body Tryz.f23))))))))))) (aO 3 (cr (aQ (lB (bB (sR (sL (b9 (aQ (body Tryz.f23))))))))++aA.u2) (bZ (fun b7 w_=>match cutAt aA.k (aQ (lB (bB (sR (sL (b9 (aQ (body Tryz.f23))))))))with|true=>Holds none [] prog 99 (aQ (lB (bB (sR (sL (b9 (aQ (body Tryz.f23)))))))) Q b7 w_|false=>aX none [] prog 99 aA.k (aQ (lB (bB (sR (sL (b9 (aQ (body Tryz.f23)))))))) aA.u2 Q b7 w_) Q)) [(2,.slice a b c),(6,.pointer d),(7,.pointer e),(8,.bool f),(9,.bool g),(11,.pointer i),(13,.pointer j),(14,.int .i64 k),(16,.int .i64 m),(18,.int .i64 z)] da)/\(let ea:=n.alloc (.cells zC 53);ea.cell? ((q.add (k.toNat*33)).add 32)=some (.slice r t u)/\(∃cs:AV,(.agg p:Value)=.agg cs/\cs.size=32/\Cells ea ((o.add (k.toNat*33)).add 0) cs)/\bz prog 44 #[.pointer j,.agg p,.slice r t u] ea fun fa ga=>∃ia:AV,∃ja:Int,fa=.tuple #[.agg ia,.int .i64 ja]/\(ia.size=35/\(∀ka∈ia.toList,ka.oneCell'=true)/\∀ma,ma<35->Wr ga ((aR n.heap.size).add ma))/\let na:=setCells ga (aR n.heap.size) ia.toList 0;Holds none [] prog 99 (aQ (bB (sL (sR (lB (bB (sR (sL (b9 (aQ (body Tryz.f23))))))))))) (aO 3 (cr (aQ (lB (bB (sR (sL (b9 (aQ (body Tryz.f23))))))))++aA.u2) (bZ (fun b7 w_=>match cutAt aA.k (aQ (lB (bB (sR (sL (b9 (aQ (body Tryz.f23))))))))with|true=>Holds none [] prog 99 (aQ (lB (bB (sR (sL (b9 (aQ (body Tryz.f23)))))))) Q b7 w_|false=>aX none [] prog 99 aA.k (aQ (lB (bB (sR (sL (b9 (aQ (body Tryz.f23)))))))) aA.u2 Q b7 w_) Q)) [(2,.slice a b c),(6,.pointer d),(7,.pointer e),(8,.bool f),(9,.bool g),(11,.pointer i),(13,.pointer j),(14,.int .i64 k),(16,.int .i64 m),(18,.int .i64 ja)] na)
theorem aA.j1:(aX none [] prog 99 aA.k (sR (bB (sL (sR (lB (bB (sR (sL (b9 (aQ (body Tryz.f23))))))))))) (cr (aQ (lB (bB (sR (sL (b9 (aQ (body Tryz.f23))))))))++aA.u2) (aO 3 (cr (aQ (lB (bB (sR (sL (b9 (aQ (body Tryz.f23))))))))++aA.u2) (bZ (fun b7 w_=>match cutAt aA.k (aQ (lB (bB (sR (sL (b9 (aQ (body Tryz.f23))))))))with|true=>Holds none [] prog 99 (aQ (lB (bB (sR (sL (b9 (aQ (body Tryz.f23)))))))) Q b7 w_|false=>aX none [] prog 99 aA.k (aQ (lB (bB (sR (sL (b9 (aQ (body Tryz.f23)))))))) aA.u2 Q b7 w_) Q)) [(2,.slice a b c),(6,.pointer d),(7,.pointer e),(8,.bool f),(9,.bool g),(11,.pointer i),(13,.pointer j),(14,.int .i64 k),(16,.int .i64 m)] w)=aA.J1 a b c d e f g i j k m Q w:=by kernel_rfl
variable{a b c d e f g i j k m Q w}
theorem aA.oX(h:aA.J1 a b c d e f g i j k m Q w):Holds none [] prog 99 (sR (bB (sL (sR (lB (bB (sR (sL (b9 (aQ (body Tryz.f23))))))))))) (aO 3 (cr (aQ (lB (bB (sR (sL (b9 (aQ (body Tryz.f23))))))))++aA.u2) (bZ (fun b7 w_=>match cutAt aA.k (aQ (lB (bB (sR (sL (b9 (aQ (body Tryz.f23))))))))with|true=>Holds none [] prog 99 (aQ (lB (bB (sR (sL (b9 (aQ (body Tryz.f23)))))))) Q b7 w_|false=>aX none [] prog 99 aA.k (aQ (lB (bB (sR (sL (b9 (aQ (body Tryz.f23)))))))) aA.u2 Q b7 w_) Q)) [(2,.slice a b c),(6,.pointer d),(7,.pointer e),(8,.bool f),(9,.bool g),(11,.pointer i),(13,.pointer j),(14,.int .i64 k),(16,.int .i64 m)] w:=
 c9 (C:=aA.k) ng mix (aA.j1 a b c d e f g i j k m Q w) h
end
section
variable(a:OA)(b c:Nat)(d e:OA)(f g:Bool)(i j:OA)(k m n:Int)(Q:aP)(w:World)
def aA.J2:Prop:=
 Split (m != n) (Q .ret [(2,.slice a b c),(6,.pointer none),(7,.pointer none),(8,.bool true),(9,.bool false),(11,.pointer i),(13,.pointer j),(14,.int .i64 k)] w) (Q .normal [(2,.slice a b c),(6,.pointer d),(7,.pointer e),(8,.bool f),(9,.bool g),(11,.pointer i),(13,.pointer j),(14,.int .i64 (i64.wrap (k+(1:Int))))] w)
theorem aA.j2:(aX none [] prog 99 aA.k (aQ (bB (sL (sR (lB (bB (sR (sL (b9 (aQ (body Tryz.f23))))))))))) (cr (aQ (lB (bB (sR (sL (b9 (aQ (body Tryz.f23))))))))++aA.u2) (aO 3 (cr (aQ (lB (bB (sR (sL (b9 (aQ (body Tryz.f23))))))))++aA.u2) (bZ (fun b7 w_=>match cutAt aA.k (aQ (lB (bB (sR (sL (b9 (aQ (body Tryz.f23))))))))with|true=>Holds none [] prog 99 (aQ (lB (bB (sR (sL (b9 (aQ (body Tryz.f23)))))))) Q b7 w_|false=>aX none [] prog 99 aA.k (aQ (lB (bB (sR (sL (b9 (aQ (body Tryz.f23)))))))) aA.u2 Q b7 w_) Q)) [(2,.slice a b c),(6,.pointer d),(7,.pointer e),(8,.bool f),(9,.bool g),(11,.pointer i),(13,.pointer j),(14,.int .i64 k),(16,.int .i64 m),(18,.int .i64 n)] w)=aA.J2 a b c d e f g i j k m n Q w:=by kernel_rfl
variable{a b c d e f g i j k m n Q w}
theorem aA.q9(h:aA.J2 a b c d e f g i j k m n Q w):Holds none [] prog 99 (aQ (bB (sL (sR (lB (bB (sR (sL (b9 (aQ (body Tryz.f23))))))))))) (aO 3 (cr (aQ (lB (bB (sR (sL (b9 (aQ (body Tryz.f23))))))))++aA.u2) (bZ (fun b7 w_=>match cutAt aA.k (aQ (lB (bB (sR (sL (b9 (aQ (body Tryz.f23))))))))with|true=>Holds none [] prog 99 (aQ (lB (bB (sR (sL (b9 (aQ (body Tryz.f23)))))))) Q b7 w_|false=>aX none [] prog 99 aA.k (aQ (lB (bB (sR (sL (b9 (aQ (body Tryz.f23)))))))) aA.u2 Q b7 w_) Q)) [(2,.slice a b c),(6,.pointer d),(7,.pointer e),(8,.bool f),(9,.bool g),(11,.pointer i),(13,.pointer j),(14,.int .i64 k),(16,.int .i64 m),(18,.int .i64 n)] w:=
 c9 (C:=aA.k) ng mix (aA.j2 a b c d e f g i j k m n Q w) h
end
def iq.k:List Nat:= []
section
variable(K:KT)(w:World)
def iq.W:Prop:=
 let a:=w.alloc (.cells zH 24);let b:=a.alloc (.cells zH 24);let d:=b.alloc (.cells zH 24);let e:=d.alloc (.cells zH 24);((zz 1).size=32/\(∀f∈(zz 1).toList,f.oneCell'=true)/\∀g,g<32->Wr e ((aR w.heap.size).add g))/\let i:=setCells e (aR w.heap.size) (zz 1).toList 0;((zz 3).size=32/\(∀j∈(zz 3).toList,j.oneCell'=true)/\∀k,k<32->Wr i ((aR a.heap.size).add k))/\let m:=setCells i (aR a.heap.size) (zz 3).toList 0;((zz 2).size=32/\(∀n∈(zz 2).toList,n.oneCell'=true)/\∀o,o<32->Wr m ((aR b.heap.size).add o))/\let p:=setCells m (aR b.heap.size) (zz 2).toList 0;((zz 4).size=32/\(∀q∈(zz 4).toList,q.oneCell'=true)/\∀r,r<32->Wr p ((aR d.heap.size).add r))/\let t:=setCells p (aR d.heap.size) (zz 4).toList 0;∃u:AV,(u.size=32/\Cells t (aR w.heap.size) u)/\bz prog 42 #[.int .i64 0,.agg u] t fun v x=>∃y:OA,∃z:Int,v=.tuple #[.pointer y,.int .i64 z]/\Split (z != (0:Int)) (K (.bool false) x) (Split ((y).isNone) (K (.bool false) x) (∃aa:AV,(aa.size=32/\Cells x (aR a.heap.size) aa)/\∃ba:AV,(ba.size=32/\Cells x (aR w.heap.size) ba)/\ba.size=32/\let ca:=x.alloc (.cells (ba.toList++ []).toArray 24);bz prog 41 #[.pointer y,.agg aa,.slice (some (aR x.heap.size)) 1 1] ca fun da ea=>∃fa:AV,∃ga:Int,da=.tuple #[.agg fa,.int .i64 ga]/\∃ia:AV,(ia.size=32/\Cells ea (aR b.heap.size) ia)/\∃ja:AV,(ja.size=32/\Cells ea (aR w.heap.size) ja)/\ja.size=32/\let ka:=ea.alloc (.cells (ja.toList++ []).toArray 24);bz prog 41 #[.pointer y,.agg ia,.slice (some (aR ea.heap.size)) 1 1] ka fun ma na=>∃oa:AV,∃pa:Int,ma=.tuple #[.agg oa,.int .i64 pa]/\∃qa:AV,(qa.size=32/\Cells na (aR d.heap.size) qa)/\∃ra:AV,(ra.size=32/\Cells na (aR a.heap.size) ra)/\∃ta:AV,(ta.size=32/\Cells na (aR b.heap.size) ta)/\ra.size=32/\ta.size=32/\let ua:=na.alloc (.cells (ra.toList++(ta.toList++([]))).toArray 24);bz prog 41 #[.pointer y,.agg qa,.slice (some (aR na.heap.size)) 2 2] ua fun va xa=>∃ya:AV,∃za:Int,va=.tuple #[.agg ya,.int .i64 za]/\∃ae:AV,(ae.size=32/\Cells xa (aR d.heap.size) ae)/\bz prog 25 #[.pointer y,.agg ae] xa fun be ce=>∃de:OA,∃ee fe:Nat,∃ge:Int,be=.tuple #[.slice de ee fe,.int .i64 ge]/\let ie:=ce.drew;Split (ge==(0:Int)) (Split ((ee:Int)==(3:Int)) ((0<=(0:Int)/\(0:Int)<(ee:Int))/\Is de fun je:Addr=>∃ke:AV,(ke.size=32/\Cells ie (je.add ((0:Int).toNat*32)) ke)/\∃me:AV,(me.size=32/\Cells ie (aR w.heap.size) me)/\(dw .u8 32 ke/\dw .u8 32 me)/\Split (dU ke me) ((0<=(1:Int)/\(1:Int)<(ee:Int))/\Is de fun ne:Addr=>∃oe:AV,(oe.size=32/\Cells ie (ne.add ((1:Int).toNat*32)) oe)/\∃pe:AV,(pe.size=32/\Cells ie (aR a.heap.size) pe)/\(dw .u8 32 oe/\dw .u8 32 pe)/\Split (dU oe pe) ((0<=(2:Int)/\(2:Int)<(ee:Int))/\Is de fun qe:Addr=>∃re:AV,(re.size=32/\Cells ie (qe.add ((2:Int).toNat*32)) re)/\∃te:AV,(te.size=32/\Cells ie (aR b.heap.size) te)/\(dw .u8 32 re/\dw .u8 32 te)/\K (.bool (dU re te)) ie) (K (.bool false) ie)) (K (.bool false) ie)) (K (.bool false) ie)) (K (.bool false) ie)))
variable{K w}
theorem iq.of(h:iq.W K w):bz prog 24 #[] w K:=
 rqq func24 (C:=iq.k) h
end
section
variable(a:OA)(b d:Nat)(K:KT)(w:World)
variable{a b d K w}
end
section
variable(a:OA)(b c:Nat)(d:OA)(e f:Nat)(g:OA)(i j:Nat)(k:Int)(Q:aP)(w:World)
variable{a b c d e f}
end
section
variable(a:OA)(b c:Nat)(d:OA)(e f:Nat)(g:OA)(i j:Nat)(k:Int)(K:KT)(w:World)
end
section
variable(a:Int)(b:AV)(d:OA)(e f:Nat)(g:AV)(K:KT)(w:World)
variable{a b d e f g K w}
end
section
variable(a:Addr)(b:OA)(c:Addr)(d:OA)(e f:Nat)(g:Int)(Q:aP)(w:World)
variable{a b c}
end
section
variable(a:Addr)(b:OA)(c:Addr)(d:OA)(e f:Nat)(g:Int)(K:KT)(w:World)
end
section
variable(a:Addr)(b:OA)(c:Addr)(d:OA)(e f:Nat)(g:Int)(i:AV)(Q:aP)(w:World)
variable{a b c d e f}
end
section
variable(a:Addr)(b:OA)(c:Addr)(d:OA)(e f:Nat)(g:Int)(i:AV)(K:KT)(w:World)
end
section
variable(a:Addr)(b:OA)(c:Addr)(d:OA)(e f:Nat)(g:Int)(i j:Addr)(k:AV)(Q:aP)(w:World)
variable{a b c d e f g i j k Q w}
end
section
variable(l:Nat)(a:Addr)(b:OA)(c:Addr)(d:OA)(e f:Nat)(g:Int)(i j:Addr)(k:OA)(m n:Nat)(o:Int)(p:OA)(q r:Nat)(t:Int)(u v:Addr)(x:Value)(y:AV)(z:OA)(aa ba:Nat)(Q:aP)(w:World)
end
section
variable(l:Nat)(a b c d e f:Addr)(g:OA)(i j:Nat)(Q:aP)(w:World)
end
section
variable(a:Addr)(b:OA)(c:Addr)(d:OA)(e f:Nat)(g:Int)(i j:Addr)(k:OA)(m n:Nat)(o:Int)(p:OA)(q r:Nat)(t:Int)(u v:Addr)(x:Value)(y ms:AV)(Q:aP)(w:World)
end
section
variable(a:Addr)(b:OA)(c:Addr)(d:OA)(e f:Nat)(g:Int)(i j:Addr)(k:OA)(m n:Nat)(o:Int)(p:OA)(q r:Nat)(t:Int)(u v:Addr)(x:Value)(y ms:AV)(Q:aP)(w:World)
end
section
variable(a:Int)(b:AV)(d:OA)(e f:Nat)(K:KT)(w:World)
variable{a b d e f K w}
end
section
variable(a:Int)(b:OA)(c d:Nat)(e:Addr)(f g:OA)(i j:Bool)(k:Int)(Q:aP)(w:World)
variable{a b c d e}
end
section
variable(a:Int)(b:OA)(c d:Nat)(e:Addr)(f g:OA)(i j:Bool)(k:Int)(K:KT)(w:World)
end
section
variable(a:OA)(b c:Nat)(d e:OA)(f g:Bool)(i j:OA)(k:Int)(Q:aP)(w:World)
variable{a b c i j}
end
section
variable(a:OA)(b c:Nat)(d e:OA)(f g:Bool)(i j:OA)(k:Int)(K:KT)(w:World)
end
section
variable(a:OA)(b c:Nat)(d e:OA)(f g:Bool)(i j:OA)(k m:Int)(Q:aP)(w:World)
variable{a b c d e f g i j k m Q w}
end
section
variable(a:OA)(b c:Nat)(d e:OA)(f g:Bool)(i j:OA)(k m n:Int)(Q:aP)(w:World)
variable{a b c d e f g i j k m n Q w}
end
section
variable(K:KT)(w:World)
variable{K w}
end
section
variable(a:AV)(K:KT)(w:World)
variable{a K w}
end
section
variable(a:AV)(b:OA)(d:AV)(K:KT)(w:World)
variable{a b d K w}
end
section
variable(a:Addr)(b:Int)(c:OA)(d e:Nat)(f g:Int)(Q:aP)(w:World)
variable{a c d e f}
end
section
variable(a:Addr)(b:Int)(c:OA)(d e:Nat)(f g:Int)(K:KT)(w:World)
end
section
variable(a:Addr)(b c:Int)(d:OA)(e f:Nat)(g i:Int)(Q:aP)(w:World)
variable{a b c d e f g i Q w}
end
section
variable(a:Addr)(b:Int)(c:OA)(d e:Nat)(f g:Int)(K:KT)(w:World)
end
section
variable(K:KT)(w:World)
variable{K w}
end
section
variable(a:AV)(b:OA)(d:AV)(K:KT)(w:World)
variable{a b d K w}
end
section
variable(a:OA)(b:Addr)(c:OA)(d e:Nat)(f:Int)(g:OA)(i j:Nat)(k:OA)(m n:Nat)(o:Int)(Q:aP)(w:World)
variable{a b c d e f g i j}
end
section
variable(a:OA)(b:Addr)(c:OA)(d e:Nat)(f:Int)(g:OA)(i j:Nat)(k:OA)(m n:Nat)(o:Int)(K:KT)(w:World)
end
section
variable(a:OA)(b:Addr)(c:OA)(d e:Nat)(f:Int)(g:OA)(i j:Nat)(k:Int)(Q:aP)(w:World)
variable{a b g i j}
end
section
variable(a:OA)(b:Addr)(c:OA)(d e:Nat)(f:Int)(g:OA)(i j:Nat)(k:Int)(K:KT)(w:World)
end
section
variable(a:OA)(b:Addr)(c:OA)(d e:Nat)(f:Int)(g:OA)(i j:Nat)(k m:Int)(Q:aP)(w:World)
variable{a b g i j k}
end
section
variable(a:OA)(b:Addr)(c:OA)(d e:Nat)(f:Int)(g:OA)(i j:Nat)(k m:Int)(Q:aP)(w:World)
end
section
variable(a:AV)(K:KT)(w:World)
variable{a K w}
end
section
variable(a:Addr)(b:Bool)(c:OA)(d e:Nat)(f g:Int)(Q:aP)(w:World)
variable{a c d e f}
end
section
variable(a:Addr)(b:Bool)(c:OA)(d e:Nat)(f g:Int)(K:KT)(w:World)
end
section
variable(a:Addr)(K:KT)(w:World)
variable{a K w}
end
section
variable(a:Addr)(K:KT)(w:World)
variable{a K w}
end
section
variable(a b:Addr)(K:KT)(w:World)
variable{a b K w}
end
section
variable(a:OA)(b d:Nat)(e:OA)(f g:Nat)(K:KT)(w:World)
variable{a b d e f g K w}
end
section
variable(a:OA)(b c:Nat)(d:OA)(e f:Nat)(g:Bool)(i j:Int)(Q:aP)(w:World)
variable{a b c d e f i}
end
section
variable(a:OA)(b c:Nat)(d:OA)(e f:Nat)(g:Bool)(i j:Int)(K:KT)(w:World)
end
section
variable(a b d:Addr)(K:KT)(w:World)
variable{a b d K w}
end
section
variable(a b:Addr)(c:Int)(d:OA)(e f:Nat)(g i:Int)(Q:aP)(w:World)
variable{a b c d e f g}
end
section
variable(a b:Addr)(c:Int)(d:OA)(e f:Nat)(g i:Int)(K:KT)(w:World)
end
section
variable(a b:Addr)(K:KT)(w:World)
variable{a b K w}
end
section
variable(a b:Addr)(c:Int)(d:OA)(e f:Nat)(g i:Int)(Q:aP)(w:World)
variable{a b d e f g}
end
section
variable(a b:Addr)(c:Int)(d:OA)(e f:Nat)(g i:Int)(K:KT)(w:World)
end
section
variable(a:AV)(b d:Addr)(K:KT)(w:World)
variable{a b d K w}
end
section
variable(a b d:Addr)(K:KT)(w:World)
variable{a b d K w}
end
section
variable(a:OA)(b d:Nat)(e f:Addr)(K:KT)(w:World)
variable{a b d e f K w}
end
section
variable(a:OA)(b d:Nat)(e f:Addr)(K:KT)(w:World)
variable{a b d e f K w}
end
section
variable(a:OA)(b c:Nat)(d e:Addr)(f g i:Int)(Q:aP)(w:World)
variable{a b c d e g}
end
section
variable(a:OA)(b c:Nat)(d e:Addr)(f g i:Int)(K:KT)(w:World)
end
section
variable(a:AV)(b:OA)(d:AV)(K:KT)(w:World)
variable{a b d K w}
end
section
variable(a b c:Addr)(d:OA)(e f:Nat)(g:Int)(i:OA)(j k:Nat)(m:OA)(n o:Nat)(p q:Int)(Q:aP)(w:World)
variable{a b c d e f g m n o p}
end
section
variable(a b c:Addr)(d:OA)(e f:Nat)(g:Int)(i:OA)(j k:Nat)(m:Addr)(n:OA)(o p:Nat)(q r:Int)(K:KT)(w:World)
end
section
variable(a b c:Addr)(d:OA)(e f:Nat)(g:Int)(i:OA)(j k:Nat)(m:OA)(n o:Nat)(p q:Int)(K:KT)(w:World)
end
section
variable(a:AV)(b:OA)(d:AV)(K:KT)(w:World)
variable{a b d K w}
end
section
variable(a:OA)(b c:Addr)(d:OA)(e f:Nat)(g:OA)(i j:Nat)(k:OA)(m n:Nat)(o:OA)(p q:Nat)(Q:aP)(w:World)
variable{a b c g i j}
end
section
variable(a:OA)(b c:Addr)(d:OA)(e f:Nat)(g:OA)(i j:Nat)(k:OA)(m n:Nat)(o:OA)(p q:Nat)(r t:Int)(Q:aP)(w:World)
variable{a b c d e f g i j k m n o p q}
end
section
variable(a:OA)(b c:Addr)(d:OA)(e f:Nat)(g:OA)(i j:Nat)(k:OA)(m n:Nat)(o:OA)(p q:Nat)(r t:Int)(Q:aP)(w:World)
end
section
variable(a:AV)(b d e:Addr)(K:KT)(w:World)
variable{a b d e K w}
end
section
variable(a b:AV)(d:Addr)(K:KT)(w:World)
variable{a b d K w}
end
section
variable(a:OA)(b d:Nat)(e f g:Addr)(K:KT)(w:World)
variable{a b d e f g K w}
end
section
variable(a:OA)(b c:Nat)(d e f:Addr)(g:OA)(i j:Nat)(k m:Int)(Q:aP)(w:World)
variable{a b c d e f g i j}
end
section
variable(a:OA)(b c:Nat)(d e f:Addr)(g:OA)(i j:Nat)(k m:Int)(K:KT)(w:World)
end
section
variable(a:OA)(b d:Nat)(e f g:Addr)(K:KT)(w:World)
variable{a b d e f g K w}
end
section
variable(a:OA)(b c:Nat)(d e f:Addr)(g i j:Int)(Q:aP)(w:World)
variable{a b c d e f i}
end
section
variable(a:OA)(b c:Nat)(d e f:Addr)(g i j:Int)(K:KT)(w:World)
end
section
variable(a b:AV)(d:OA)(e f:Nat)(g:AV)(K:KT)(w:World)
variable{a b d e f g K w}
end
section
variable(K:KT)(w:World)
variable{K w}
end
section
variable(a:Bool)(b:OA)(c d:Nat)(e:Int)(Q:aP)(w:World)
variable{b c d}
end
section
variable(a:Bool)(b:OA)(c d:Nat)(e:Int)(K:KT)(w:World)
end
section
variable(a b:AV)(d:OA)(e f:Nat)(g:OA)(i j:Nat)(K:KT)(w:World)
variable{a b d e f g i j K w}
end
section
variable(a:AV)(K:KT)(w:World)
variable{a K w}
end
section
variable(a b:AV)(d:OA)(e f:Nat)(g:OA)(i j:Nat)(k:OA)(m n:Nat)(K:KT)(w:World)
variable{a b d e f g i j k m n K w}
end
section
variable(a:OA)(b c:Nat)(d:OA)(e f:Nat)(g:Addr)(i:Bool)(j:OA)(k m:Int)(Q:aP)(w:World)
variable{a b c d e f g j k}
end
section
variable(a:OA)(b c:Nat)(d:OA)(e f:Nat)(g:Addr)(i:Bool)(j:OA)(k m:Int)(K:KT)(w:World)
end
end Go.Proofs.YtfleamccglihoaaGreatDoor
