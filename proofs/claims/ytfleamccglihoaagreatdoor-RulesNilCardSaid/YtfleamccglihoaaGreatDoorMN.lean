import Derived.Test.YtfleamccglihoaaGreatDoorProg
import Derived.Test.YtfleamccglihoaaGreatDoorMA
import Derived.Test.YtfleamccglihoaaGreatDoorMB
open Go.IntKind (i64 u64)
set_option linter.unusedVariables false
namespace Go.Proofs.YtfleamccglihoaaGreatDoor
open Go.Proofs.Tryz
open Go Go.bE
def cP.k:List Nat:= []
section
variable(a b:OA)(d e:Nat)(K:KT)(w:World)
def cP.W:Prop:=
 let f:=w.alloc (.cells zH 24);bf prog 71 #[.pointer a,.slice b d e] f fun g i=>∃j:Int,g=.int .i64 j/\Split (j != (0:Int)) ((zH.size=32/\(∀k∈zH.toList,k.oneCell'=true)/\∀m,m<32->Wr i ((aU w.heap.size).add m))/\let n:=setCells i (aU w.heap.size) zH.toList 0;∃o:AV,(o.size=32/\Cells n (aU w.heap.size) o)/\K (.tuple #[.agg o,.int .i64 j]) n) (bf prog 72 #[.slice b d e,.func (.func 73) #[.pointer a] #[]] i fun p q=>∃r:AV,p=.agg r/\(r.size=32/\(∀t∈r.toList,t.oneCell'=true)/\∀u,u<32->Wr q ((aU w.heap.size).add u))/\let v:=setCells q (aU w.heap.size) r.toList 0;∃x:AV,(x.size=32/\Cells v (aU w.heap.size) x)/\K (.tuple #[.agg x,.int .i64 0]) v)
variable{a b d e K w}
theorem cP.of(h:cP.W a b d e K w):bf prog 21 #[.pointer a,.slice b d e] w K:=
 rqq func21 (C:=cP.k) h
end
def cZ.k:List Nat:= []
section
variable(a:OA)(b:AV)(d:OA)(e f:Nat)(K:KT)(w:World)
def cZ.W:Prop:=
 let g:=w.alloc (.cells b 24);let i:=g.alloc (.cells zC 53);bf prog 82 #[.pointer a] i fun j k=>∃m:Bool,j=.bool m/\Split (!m) ((zC.size=35/\(∀n∈zC.toList,n.oneCell'=true)/\∀o,o<35->Wr k ((aU g.heap.size).add o))/\let p:=setCells k (aU g.heap.size) zC.toList 0;∃q:AV,(q.size=35/\Cells p (aU g.heap.size) q)/\K (.tuple #[.agg q,.int .i64 1]) p) (let r:=k.drew;Is a fun t:Addr=>∃u:Option Nat,r.cell? (t.add 2)=some (.map u)/\∃v:AV,(v.size=32/\Cells r (aU w.heap.size) v)/\∃x:OA,(Instr.lookup 63 (.map u) (.agg v) false).run prog r=.ok (.pointer x) r/\Split (!(x).isNone) ((zC.size=35/\(∀y∈zC.toList,y.oneCell'=true)/\∀z,z<35->Wr r ((aU g.heap.size).add z))/\let a1:=setCells r (aU g.heap.size) zC.toList 0;∃b1:AV,(b1.size=35/\Cells a1 (aU g.heap.size) b1)/\K (.tuple #[.agg b1,.int .i64 7]) a1) (Split ((e:Int)==(0:Int)) ((zC.size=35/\(∀c1∈zC.toList,c1.oneCell'=true)/\∀d1,d1<35->Wr r ((aU g.heap.size).add d1))/\let e1:=setCells r (aU g.heap.size) zC.toList 0;∃f1:AV,(f1.size=35/\Cells e1 (aU g.heap.size) f1)/\K (.tuple #[.agg f1,.int .i64 9]) e1) (bf prog 57 #[.slice d e f] r fun g1 i1=>∃j1:OA,∃k1 m1:Nat,g1=.slice j1 k1 m1/\Split ((k1:Int) != (e:Int)) ((zC.size=35/\(∀n1∈zC.toList,n1.oneCell'=true)/\∀o1,o1<35->Wr i1 ((aU g.heap.size).add o1))/\let p1:=setCells i1 (aU g.heap.size) zC.toList 0;∃q1:AV,(q1.size=35/\Cells p1 (aU g.heap.size) q1)/\K (.tuple #[.agg q1,.int .i64 9]) p1) (bf prog 21 #[.pointer a,.slice d e f] i1 fun r1 t1=>∃u1:AV,∃v1:Int,r1=.tuple #[.agg u1,.int .i64 v1]/\let x1:=t1.alloc (.cells zH 24);(u1.size=32/\(∀y1∈u1.toList,y1.oneCell'=true)/\∀z1,z1<32->Wr x1 ((aU t1.heap.size).add z1))/\let a2:=setCells x1 (aU t1.heap.size) u1.toList 0;Split (v1 != (0:Int)) ((zC.size=35/\(∀b2∈zC.toList,b2.oneCell'=true)/\∀c2,c2<35->Wr a2 ((aU g.heap.size).add c2))/\let d2:=setCells a2 (aU g.heap.size) zC.toList 0;∃e2:AV,(e2.size=35/\Cells d2 (aU g.heap.size) e2)/\K (.tuple #[.agg e2,.int .i64 v1]) d2) (∃f2:AV,(f2.size=32/\Cells a2 (aU t1.heap.size) f2)/\bf prog 83 #[.pointer a,.agg f2,.slice d e f] a2 fun g2 i2=>∃j2:OA,g2=.pointer j2/\let k2:=i2.drew;Is a fun m2:Addr=>∃n2:OA,k2.cell? (m2.add 1)=some (.pointer n2)/\∃o2:AV,(o2.size=32/\Cells k2 (aU w.heap.size) o2)/\∃p2:AV,(p2.size=32/\Cells k2 (aU t1.heap.size) p2)/\bf prog 84 #[.pointer n2,.agg o2,.agg p2,.slice d e f] k2 fun q2 r2=>∃t2:Int,q2=.int .i64 t2/\let u2:=r2.drew;Is a fun v2:Addr=>∃x2:Option Nat,u2.cell? (v2.add 2)=some (.map x2)/\∃y2:AV,(y2.size=32/\Cells u2 (aU w.heap.size) y2)/\∃z2:World,(Instr.mapUpdate 63 (.map x2) (.agg y2) (.pointer j2)).run prog u2=.ok () z2/\Is j2 fun a3:Addr=>∃b3:AV,(b3.size=35/\Cells z2 (a3.add 0) b3)/\bf prog 85 #[.agg b3] z2 fun c3 d3=>∃e3:AV,c3=.agg e3/\(e3.size=35/\(∀f3∈e3.toList,f3.oneCell'=true)/\∀g3,g3<35->Wr d3 ((aU g.heap.size).add g3))/\let i3:=setCells d3 (aU g.heap.size) e3.toList 0;∃j3:AV,(j3.size=35/\Cells i3 (aU g.heap.size) j3)/\K (.tuple #[.agg j3,.int .i64 0]) i3)))))
variable{a b d e f K w}
theorem cZ.of(h:cZ.W a b d e f K w):bf prog 41 #[.pointer a,.agg b,.slice d e f] w K:=
 rqq func41 (C:=cZ.k) h
end
def gN.k:List Nat:= []
section
variable(a:Int)(b:AV)(K:KT)(w:World)
def gN.W:Prop:=
 let d:=w.alloc (.cells b 24);Split (decide (a<(0:Int))) (K (.tuple #[.pointer none,.int .i64 2]) d) (Split (decide (a>(100:Int))) (K (.tuple #[.pointer none,.int .i64 2]) d) (let e:=d.drew;∃f:AV,(f.size=32/\Cells e (aU w.heap.size) f)/\∃g:AV,(g.size=32/\Cells e (aU w.heap.size) g)/\(bf prog 86 #[.agg f] e fun i j=>∃k:OA,i=.pointer k/\(∃cs:AV,(.agg g:Value)=.agg cs/\cs.size=32/\Cells j (aU w.heap.size) cs)/\(let m:=j.alloc (.map #[] 0);(∃cs:AV,(.agg g:Value)=.agg cs/\cs.size=32/\Cells m (aU w.heap.size) cs)/\let n:=m.alloc (.cells zS 129);(∃cs:AV,(.agg g:Value)=.agg cs/\cs.size=32/\Cells n (aU w.heap.size) cs)/\∃o:World,(Instr.mapUpdate 63 (.map (some j.heap.size)) (.agg g) (.pointer (some (aU m.heap.size)))).run prog n=.ok () o/\let p:=o.alloc (.cells (#[.int .i64 a,.pointer k,.map (some j.heap.size)]:AV) 65);K (.tuple #[.pointer (some (aU o.heap.size)),.int .i64 0]) p)/\(let q:=j.alloc (.cells zS 129);(∃cs:AV,(.agg g:Value)=.agg cs/\cs.size=32/\Cells q (aU w.heap.size) cs)/\let r:=q.alloc (.map #[] 0);(∃cs:AV,(.agg g:Value)=.agg cs/\cs.size=32/\Cells r (aU w.heap.size) cs)/\∃t:World,(Instr.mapUpdate 63 (.map (some q.heap.size)) (.agg g) (.pointer (some (aU j.heap.size)))).run prog r=.ok () t/\let u:=t.alloc (.cells (#[.int .i64 a,.pointer k,.map (some q.heap.size)]:AV) 65);K (.tuple #[.pointer (some (aU t.heap.size)),.int .i64 0]) u))/\(let v:=e.alloc (.map #[] 0);(∃cs:AV,(.agg g:Value)=.agg cs/\cs.size=32/\Cells v (aU w.heap.size) cs)/\(∃cs:AV,(.agg f:Value)=.agg cs/\cs.size=32/\Cells v (aU w.heap.size) cs)/\(bf prog 86 #[.agg f] v fun x y=>∃z:OA,x=.pointer z/\(∃cs:AV,(.agg g:Value)=.agg cs/\cs.size=32/\Cells y (aU w.heap.size) cs)/\let a1:=y.alloc (.cells zS 129);(∃cs:AV,(.agg g:Value)=.agg cs/\cs.size=32/\Cells a1 (aU w.heap.size) cs)/\∃b1:World,(Instr.mapUpdate 63 (.map (some e.heap.size)) (.agg g) (.pointer (some (aU y.heap.size)))).run prog a1=.ok () b1/\let c1:=b1.alloc (.cells (#[.int .i64 a,.pointer z,.map (some e.heap.size)]:AV) 65);K (.tuple #[.pointer (some (aU b1.heap.size)),.int .i64 0]) c1)/\(let d1:=v.alloc (.cells zS 129);(∃cs:AV,(.agg g:Value)=.agg cs/\cs.size=32/\Cells d1 (aU w.heap.size) cs)/\(∃cs:AV,(.agg f:Value)=.agg cs/\cs.size=32/\Cells d1 (aU w.heap.size) cs)/\(bf prog 86 #[.agg f] d1 fun e1 f1=>∃g1:OA,e1=.pointer g1/\(∃cs:AV,(.agg g:Value)=.agg cs/\cs.size=32/\Cells f1 (aU w.heap.size) cs)/\∃i1:World,(Instr.mapUpdate 63 (.map (some e.heap.size)) (.agg g) (.pointer (some (aU v.heap.size)))).run prog f1=.ok () i1/\let j1:=i1.alloc (.cells (#[.int .i64 a,.pointer g1,.map (some e.heap.size)]:AV) 65);K (.tuple #[.pointer (some (aU i1.heap.size)),.int .i64 0]) j1)/\(∃k1:World,(Instr.mapUpdate 63 (.map (some e.heap.size)) (.agg g) (.pointer (some (aU v.heap.size)))).run prog d1=.ok () k1/\(∃cs:AV,(.agg f:Value)=.agg cs/\cs.size=32/\Cells k1 (aU w.heap.size) cs)/\bf prog 86 #[.agg f] k1 fun m1 n1=>∃o1:OA,m1=.pointer o1/\let p1:=n1.alloc (.cells (#[.int .i64 a,.pointer o1,.map (some e.heap.size)]:AV) 65);K (.tuple #[.pointer (some (aU n1.heap.size)),.int .i64 0]) p1)))/\(let q1:=e.alloc (.cells zS 129);(∃cs:AV,(.agg g:Value)=.agg cs/\cs.size=32/\Cells q1 (aU w.heap.size) cs)/\(∃cs:AV,(.agg f:Value)=.agg cs/\cs.size=32/\Cells q1 (aU w.heap.size) cs)/\(bf prog 86 #[.agg f] q1 fun r1 t1=>∃u1:OA,r1=.pointer u1/\(∃cs:AV,(.agg g:Value)=.agg cs/\cs.size=32/\Cells t1 (aU w.heap.size) cs)/\let v1:=t1.alloc (.map #[] 0);(∃cs:AV,(.agg g:Value)=.agg cs/\cs.size=32/\Cells v1 (aU w.heap.size) cs)/\∃x1:World,(Instr.mapUpdate 63 (.map (some t1.heap.size)) (.agg g) (.pointer (some (aU e.heap.size)))).run prog v1=.ok () x1/\let y1:=x1.alloc (.cells (#[.int .i64 a,.pointer u1,.map (some t1.heap.size)]:AV) 65);K (.tuple #[.pointer (some (aU x1.heap.size)),.int .i64 0]) y1)/\(let z1:=q1.alloc (.map #[] 0);(∃cs:AV,(.agg g:Value)=.agg cs/\cs.size=32/\Cells z1 (aU w.heap.size) cs)/\(∃cs:AV,(.agg f:Value)=.agg cs/\cs.size=32/\Cells z1 (aU w.heap.size) cs)/\(bf prog 86 #[.agg f] z1 fun a2 b2=>∃c2:OA,a2=.pointer c2/\(∃cs:AV,(.agg g:Value)=.agg cs/\cs.size=32/\Cells b2 (aU w.heap.size) cs)/\∃d2:World,(Instr.mapUpdate 63 (.map (some q1.heap.size)) (.agg g) (.pointer (some (aU e.heap.size)))).run prog b2=.ok () d2/\let e2:=d2.alloc (.cells (#[.int .i64 a,.pointer c2,.map (some q1.heap.size)]:AV) 65);K (.tuple #[.pointer (some (aU d2.heap.size)),.int .i64 0]) e2)/\(∃f2:World,(Instr.mapUpdate 63 (.map (some q1.heap.size)) (.agg g) (.pointer (some (aU e.heap.size)))).run prog z1=.ok () f2/\(∃cs:AV,(.agg f:Value)=.agg cs/\cs.size=32/\Cells f2 (aU w.heap.size) cs)/\bf prog 86 #[.agg f] f2 fun g2 i2=>∃j2:OA,g2=.pointer j2/\let k2:=i2.alloc (.cells (#[.int .i64 a,.pointer j2,.map (some q1.heap.size)]:AV) 65);K (.tuple #[.pointer (some (aU i2.heap.size)),.int .i64 0]) k2)))))
variable{a b K w}
theorem gN.of(h:gN.W a b K w):bf prog 42 #[.int .i64 a,.agg b] w K:=
 rqq func42 (C:=gN.k) h
end
def cD.k:List Nat:= []
section
variable(a:OA)(K:KT)(w:World)
def cD.W:Prop:=
 Split ((a).isNone) (K (.pointer none) w) (Is a fun b:Addr=>∃d:OA,w.cell? (b.add 1)=some (.pointer d)/\K (.pointer d) w)
variable{a K w}
theorem cD.of(h:cD.W a K w):bf prog 45 #[.pointer a] w K:=
 rqq func45 (C:=cD.k) h
end
section
variable(a:OA)(b d:AV)(K:KT)(w:World)
variable{a b d K w}
end
def dd.k:List Nat:= []
section
variable(a:OA)(b:AV)(d:OA)(e f:Nat)(K:KT)(w:World)
def dd.W:Prop:=
 let g:=w.alloc (.cells b 24);let i:=g.alloc (.cells zC 53);∃j:AV,(j.size=32/\Cells i (aU w.heap.size) j)/\j.size=32/\let k:=i.alloc (.cells (j.toList++ []).toArray 24);∃(m:OA) (n o:Nat) (p:World),(Builtin.append_ #[33,33] 33 #[.slice (some (aU i.heap.size)) 1 1,.slice d e f]).run prog k=.ok (.slice m n o) p/\bf prog 71 #[.pointer a,.slice m n o] p fun q r=>∃t:Int,q=.int .i64 t/\Split (t != (0:Int)) ((zC.size=35/\(∀u∈zC.toList,u.oneCell'=true)/\∀v,v<35->Wr r ((aU g.heap.size).add v))/\let x:=setCells r (aU g.heap.size) zC.toList 0;∃y:AV,(y.size=35/\Cells x (aU g.heap.size) y)/\K (.tuple #[.agg y,.int .i64 t]) x) (∃z:AV,(z.size=32/\Cells r (aU w.heap.size) z)/\bf prog 83 #[.pointer a,.agg z,.slice d e f] r fun a1 b1=>∃c1:OA,a1=.pointer c1/\Is c1 fun d1:Addr=>∃e1:AV,(e1.size=35/\Cells b1 (d1.add 0) e1)/\(e1.size=35/\(∀f1∈e1.toList,f1.oneCell'=true)/\∀g1,g1<35->Wr b1 ((aU g.heap.size).add g1))/\let i1:=setCells b1 (aU g.heap.size) e1.toList 0;∃j1:AV,(j1.size=35/\Cells i1 (aU g.heap.size) j1)/\K (.tuple #[.agg j1,.int .i64 0]) i1)
variable{a b d e f K w}
theorem dd.of(h:dd.W a b d e f K w):bf prog 56 #[.pointer a,.agg b,.slice d e f] w K:=
 rqq func56 (C:=dd.k) h
end
def dt.k:List Nat:= []
section
variable(a b:OA)(d e:Nat)(K:KT)(w:World)
def dt.W:Prop:=
 let f:=w.alloc (.cells (#[.pointer a]:AV) 28);∃g:OA,f.cell? (aU w.heap.size)=some (.pointer g)/\bf prog 82 #[.pointer g] f fun i j=>∃k:Bool,i=.bool k/\Split (!k) (K (.int .i64 1) j) (Split ((d:Int)==(0:Int)) (K (.int .i64 9) j) (bf prog 68 #[.slice b d e,.func (.func 105) #[] #[.pointer (some (aU w.heap.size))]] j fun m n=>∃o:Bool,m=.bool o/\Split o (K (.int .i64 6) n) (K (.int .i64 0) n)))
variable{a b d e K w}
theorem dt.of(h:dt.W a b d e K w):bf prog 71 #[.pointer a,.slice b d e] w K:=
 rqq func71 (C:=dt.k) h
end
def cC.k:List Nat:= []
section
variable(a:OA)(b d:AV)(K:KT)(w:World)
def cC.W:Prop:=
 let e:=w.alloc (.cells b 24);let f:=e.alloc (.cells d 24);let g:=f.drew;Is a fun i:Addr=>∃j:Option Nat,g.cell? (i.add 2)=some (.map j)/\∃k:AV,(k.size=32/\Cells g (aU w.heap.size) k)/\∃m:OA,(Instr.lookup 63 (.map j) (.agg k) false).run prog g=.ok (.pointer m) g/\Is m fun n:Addr=>∃o:Int,g.cell? ((n.add 0).add 32)=some (.int .u64 o)/\Is a fun p:Addr=>∃q:Option Nat,g.cell? (p.add 2)=some (.map q)/\∃r:AV,(r.size=32/\Cells g (aU e.heap.size) r)/\∃t:OA,(Instr.lookup 63 (.map q) (.agg r) false).run prog g=.ok (.pointer t) g/\Is t fun u:Addr=>∃v:Int,g.cell? ((u.add 0).add 32)=some (.int .u64 v)/\∃x:AV,(x.size=32/\Cells g (aU w.heap.size) x)/\∃y:AV,(y.size=32/\Cells g (aU e.heap.size) y)/\bf prog 107 #[.int .u64 o,.int .u64 v] g fun z a1=>∃b1:Int,z=.int .i64 b1/\(∃cs:AV,(.agg y:Value)=.agg cs/\cs.size=32/\Cells a1 (aU e.heap.size) cs)/\(∃cs:AV,(.agg x:Value)=.agg cs/\cs.size=32/\Cells a1 (aU w.heap.size) cs)/\bf prog 102 #[.agg x,.agg y] a1 fun c1 d1=>∃e1:Int,c1=.int .i64 e1/\let f1:=d1.alloc (.cells #[.int .i64 b1,.int .i64 e1] 3);bf prog 106 #[.slice (some (aU d1.heap.size)) 2 2] f1 fun g1 i1=>∃j1:Int,g1=.int .i64 j1/\K (.int .i64 j1) i1
variable{a b d K w}
theorem cC.of(h:cC.W a b d K w):bf prog 73 #[.pointer a,.agg b,.agg d] w K:=
 rqq func73 (C:=cC.k) h
end
section
variable(a:OA)(b:AV)(K:KT)(w:World)
variable{a b K w}
end
def dm.k:List Nat:= []
section
variable(a:OA)(K:KT)(w:World)
def dm.W:Prop:=
 Split (!(a).isNone) (Is a fun b:Addr=>∃d:OA,w.cell? (b.add 1)=some (.pointer d)/\K (.bool (!(d).isNone)) w) (K (.bool false) w)
variable{a K w}
theorem dm.of(h:dm.W a K w):bf prog 82 #[.pointer a] w K:=
 rqq func82 (C:=dm.k) h
end
def ah.k:List Nat:= []
def ah.q1(K:KT):aM:=(aP 0 (ct (cS (body f83))++(aW f83)) (b6 (fun cf w_=>match cutAt ah.k (cS (body f83))with|true=>Holds none [] prog 153 (cS (body f83)) (bV prog f83 K) cf w_|false=>a8 none [] prog 153 ah.k (cS (body f83)) (aW f83) (bV prog f83 K) cf w_) (bV prog f83 K)))
def ah.e1(a b:Addr)(c:OA)(d:Addr)(e:OA)(f g:Nat)(i s:Int):Env:= [(3,.pointer (some a)),(4,.pointer (some b)),(6,.pointer c),(8,.pointer (some d)),(46,.slice e f g),(47,.int .i64 i),(48,.int .i64 s)]
def ah.u1:List Nat:= [3,4,6,8,46,47,48]
def ah.q2(K:KT):aM:=(aP 2 (ct (dW (sR (body f83)))++(aW f83)) (b6 (fun cf w_=>match cutAt ah.k (dW (sR (body f83)))with|true=>Holds none [] prog 153 (dW (sR (body f83))) (bV prog f83 K) cf w_|false=>a8 none [] prog 153 ah.k (dW (sR (body f83))) (aW f83) (bV prog f83 K) cf w_) (bV prog f83 K)))
def ah.e2(a:Addr)(b:OA)(c d e f g i:Addr)(j:OA)(k m:Nat)(n s:Int):Env:= [(3,.pointer (some a)),(6,.pointer b),(8,.pointer (some c)),(11,.pointer (some d)),(12,.func (.func 112) #[] #[.pointer (some e),.pointer (some f),.pointer (some g)]),(13,.pointer (some i)),(92,.slice j k m),(93,.int .i64 n),(94,.int .i64 s)]
def ah.u2:List Nat:= [3,6,8,11,12,13,92,93,94]
def ah.q3(Q:aM):aM:=(aP 4 (ct (dW (bB (sL (aZ (lB (bB (sR (sL (dW (body f83))))))))))++(ct (aZ (sR (lB (bB (sR (sL (dW (body f83))))))))++ah.u2)) (b6 (fun cf w_=>match cutAt ah.k (dW (bB (sL (aZ (lB (bB (sR (sL (dW (body f83))))))))))with|true=>Holds none [] prog 153 (dW (bB (sL (aZ (lB (bB (sR (sL (dW (body f83)))))))))) (aP 3 (ct (aZ (sR (lB (bB (sR (sL (dW (body f83))))))))++ah.u2) (b6 (fun cf w_=>match cutAt ah.k (aZ (sR (lB (bB (sR (sL (dW (body f83))))))))with|true=>Holds none [] prog 153 (aZ (sR (lB (bB (sR (sL (dW (body f83)))))))) Q cf w_|false=>a8 none [] prog 153 ah.k (aZ (sR (lB (bB (sR (sL (dW (body f83)))))))) ah.u2 Q cf w_) Q)) cf w_|false=>a8 none [] prog 153 ah.k (dW (bB (sL (aZ (lB (bB (sR (sL (dW (body f83)))))))))) (ct (aZ (sR (lB (bB (sR (sL (dW (body f83))))))))++ah.u2) (aP 3 (ct (aZ (sR (lB (bB (sR (sL (dW (body f83))))))))++ah.u2) (b6 (fun cf w_=>match cutAt ah.k (aZ (sR (lB (bB (sR (sL (dW (body f83))))))))with|true=>Holds none [] prog 153 (aZ (sR (lB (bB (sR (sL (dW (body f83)))))))) Q cf w_|false=>a8 none [] prog 153 ah.k (aZ (sR (lB (bB (sR (sL (dW (body f83)))))))) ah.u2 Q cf w_) Q)) cf w_) (aP 3 (ct (aZ (sR (lB (bB (sR (sL (dW (body f83))))))))++ah.u2) (b6 (fun cf w_=>match cutAt ah.k (aZ (sR (lB (bB (sR (sL (dW (body f83))))))))with|true=>Holds none [] prog 153 (aZ (sR (lB (bB (sR (sL (dW (body f83)))))))) Q cf w_|false=>a8 none [] prog 153 ah.k (aZ (sR (lB (bB (sR (sL (dW (body f83)))))))) ah.u2 Q cf w_) Q))))
def ah.e3(a:Addr)(b:OA)(c d e f g i j:Addr)(k:OA)(m n:Nat)(o p:Int)(q:OA)(s:Unit):Env:= [(3,.pointer (some a)),(6,.pointer b),(8,.pointer (some c)),(11,.pointer (some d)),(12,.func (.func 112) #[] #[.pointer (some e),.pointer (some f),.pointer (some g)]),(13,.pointer (some i)),(15,.pointer (some j)),(92,.slice k m n),(93,.int .i64 o),(94,.int .i64 p),(134,.pointer q)]
def ah.u3:List Nat:= [3,6,8,11,12,13,15,92,93,94,134]
section
variable(a:OA)(b:AV)(d:OA)(e f:Nat)(K:KT)(w:World)
def ah.W:Prop:=
 let g:=w.alloc (.cells (#[.pointer a]:AV) 28);let i:=g.alloc (.cells b 24);∃j:OA,i.cell? (aU w.heap.size)=some (.pointer j)/\Is j fun k:Addr=>∃m:OA,i.cell? (k.add 1)=some (.pointer m)/\bf prog 46 #[.pointer m] i fun n o=>∃p:OA,n=.pointer p/\let q:=o.drew;∃r:AV,(r.size=32/\Cells q (aU g.heap.size) r)/\∃t:OA,q.cell? (aU w.heap.size)=some (.pointer t)/\Is t fun u:Addr=>∃v:Option Nat,q.cell? (u.add 2)=some (.map v)/\∃x:AV,(x.size=32/\Cells q (aU g.heap.size) x)/\∃y:OA,(Instr.lookup 63 (.map v) (.agg x) false).run prog q=.ok (.pointer y) q/\Is y fun z:Addr=>∃a1:Int,q.cell? ((z.add 0).add 32)=some (.int .u64 a1)/\Is (prog.built 53 [(0,.agg r),(1,.int .u64 (u64.wrap (a1+(1:Int))))]) fun b1:AV=>(let c1:=q.alloc (.map #[] 0);c1.cell? ((z.add 0).add 32)=some (.int .u64 a1)/\(Instr.lookup 63 (.map v) (.agg x) false).run prog c1=.ok (.pointer y) c1/\(∃cs:AV,(.agg x:Value)=.agg cs/\cs.size=32/\Cells c1 (aU g.heap.size) cs)/\c1.cell? (u.add 2)=some (.map v)/\c1.cell? (aU w.heap.size)=some (.pointer t)/\(∃cs:AV,(.agg r:Value)=.agg cs/\cs.size=32/\Cells c1 (aU g.heap.size) cs)/\Is (prog.built 129 [(0,.agg b1),(1,.map (some q.heap.size))]) fun d1:AV=>(let e1:=c1.alloc (.cells d1 129);let f1:=e1.alloc (.cells (#[.pointer none]:AV) 123);Wr f1 (aU e1.heap.size)/\let g1:=f1.setCell (aU e1.heap.size) (.pointer (some (aU c1.heap.size)));bf prog 111 #[.pointer p,.slice d e f] g1 fun i1 j1=>∃k1:OA,∃m1 n1:Nat,i1=.slice k1 m1 n1/\∃(o1:OA) (p1 q1:Nat) (r1:World),(Builtin.append_ #[33,33] 33 #[.slice k1 m1 n1,.slice d e f]).run prog j1=.ok (.slice o1 p1 q1) r1/\bf prog 57 #[.slice o1 p1 q1] r1 fun t1 u1=>∃v1:OA,∃x1 y1:Nat,t1=.slice v1 x1 y1/\Holds none [] prog 153 (.loop (lB (bB (sR (sL (aZ (sR (body f83)))))))) (ah.q1 K) [(3,.pointer (some (aU w.heap.size))),(4,.pointer (some (aU g.heap.size))),(6,.pointer none),(8,.pointer (some (aU e1.heap.size))),(46,.slice v1 x1 y1),(47,.int .i64 (x1:Int)),(48,.int .i64 0)] u1)/\(let z1:=c1.alloc (.cells (#[.pointer none]:AV) 123);z1.cell? ((z.add 0).add 32)=some (.int .u64 a1)/\(Instr.lookup 63 (.map v) (.agg x) false).run prog z1=.ok (.pointer y) z1/\(∃cs:AV,(.agg x:Value)=.agg cs/\cs.size=32/\Cells z1 (aU g.heap.size) cs)/\z1.cell? (u.add 2)=some (.map v)/\z1.cell? (aU w.heap.size)=some (.pointer t)/\(∃cs:AV,(.agg r:Value)=.agg cs/\cs.size=32/\Cells z1 (aU g.heap.size) cs)/\let a2:=z1.alloc (.cells d1 129);Wr a2 (aU c1.heap.size)/\let b2:=a2.setCell (aU c1.heap.size) (.pointer (some (aU z1.heap.size)));bf prog 111 #[.pointer p,.slice d e f] b2 fun c2 d2=>∃e2:OA,∃f2 g2:Nat,c2=.slice e2 f2 g2/\∃(i2:OA) (j2 k2:Nat) (m2:World),(Builtin.append_ #[33,33] 33 #[.slice e2 f2 g2,.slice d e f]).run prog d2=.ok (.slice i2 j2 k2) m2/\bf prog 57 #[.slice i2 j2 k2] m2 fun n2 o2=>∃p2:OA,∃q2 r2:Nat,n2=.slice p2 q2 r2/\Holds none [] prog 153 (.loop (lB (bB (sR (sL (aZ (sR (body f83)))))))) (ah.q1 K) [(3,.pointer (some (aU w.heap.size))),(4,.pointer (some (aU g.heap.size))),(6,.pointer none),(8,.pointer (some (aU c1.heap.size))),(46,.slice p2 q2 r2),(47,.int .i64 (q2:Int)),(48,.int .i64 0)] o2))/\(let t2:=q.alloc (.cells (#[.pointer none]:AV) 123);t2.cell? ((z.add 0).add 32)=some (.int .u64 a1)/\(Instr.lookup 63 (.map v) (.agg x) false).run prog t2=.ok (.pointer y) t2/\(∃cs:AV,(.agg x:Value)=.agg cs/\cs.size=32/\Cells t2 (aU g.heap.size) cs)/\t2.cell? (u.add 2)=some (.map v)/\t2.cell? (aU w.heap.size)=some (.pointer t)/\(∃cs:AV,(.agg r:Value)=.agg cs/\cs.size=32/\Cells t2 (aU g.heap.size) cs)/\let u2:=t2.alloc (.map #[] 0);u2.cell? ((z.add 0).add 32)=some (.int .u64 a1)/\(Instr.lookup 63 (.map v) (.agg x) false).run prog u2=.ok (.pointer y) u2/\(∃cs:AV,(.agg x:Value)=.agg cs/\cs.size=32/\Cells u2 (aU g.heap.size) cs)/\u2.cell? (u.add 2)=some (.map v)/\u2.cell? (aU w.heap.size)=some (.pointer t)/\(∃cs:AV,(.agg r:Value)=.agg cs/\cs.size=32/\Cells u2 (aU g.heap.size) cs)/\Is (prog.built 129 [(0,.agg b1),(1,.map (some t2.heap.size))]) fun v2:AV=>let x2:=u2.alloc (.cells v2 129);Wr x2 (aU q.heap.size)/\let y2:=x2.setCell (aU q.heap.size) (.pointer (some (aU u2.heap.size)));bf prog 111 #[.pointer p,.slice d e f] y2 fun z2 a3=>∃b3:OA,∃c3 d3:Nat,z2=.slice b3 c3 d3/\∃(e3:OA) (f3 g3:Nat) (i3:World),(Builtin.append_ #[33,33] 33 #[.slice b3 c3 d3,.slice d e f]).run prog a3=.ok (.slice e3 f3 g3) i3/\bf prog 57 #[.slice e3 f3 g3] i3 fun j3 k3=>∃m3:OA,∃n3 o3:Nat,j3=.slice m3 n3 o3/\Holds none [] prog 153 (.loop (lB (bB (sR (sL (aZ (sR (body f83)))))))) (ah.q1 K) [(3,.pointer (some (aU w.heap.size))),(4,.pointer (some (aU g.heap.size))),(6,.pointer none),(8,.pointer (some (aU q.heap.size))),(46,.slice m3 n3 o3),(47,.int .i64 (n3:Int)),(48,.int .i64 0)] k3)
variable{a b d e f K w}
theorem ah.of(h:ah.W a b d e f K w):bf prog 83 #[.pointer a,.agg b,.slice d e f] w K:=
 rqq func83 (C:=ah.k) h
end
section
variable(a b:Addr)(c:OA)(d:Addr)(e:OA)(f g:Nat)(i j:Int)(Q:aM)(w:World)
def ah.B1:Prop:=
 Split (decide (j<i)) ((0<=j/\j<(f:Int))/\Is e fun k:Addr=>∃m:AV,(m.size=32/\Cells w (k.add (j.toNat*32)) m)/\let n:=w.alloc (.cells zH 24);(m.size=32/\(∀o∈m.toList,o.oneCell'=true)/\∀p,p<32->Wr n ((aU w.heap.size).add p))/\let q:=setCells n (aU w.heap.size) m.toList 0;let r:=q.drew;∃t:AV,(t.size=32/\Cells r (aU w.heap.size) t)/\∃u:AV,(u.size=32/\Cells r b u)/\(fT .u8 32 t/\fT .u8 32 u)/\Split (!(gh t u)) (∃v:OA,r.cell? a=some (.pointer v)/\Is v fun x:Addr=>∃y:OA,r.cell? (x.add 1)=some (.pointer y)/\∃z:AV,(z.size=32/\Cells r (aU w.heap.size) z)/\∃a1:AV,(a1.size=32/\Cells r b a1)/\bf prog 51 #[.pointer y,.agg z,.agg a1] r fun b1 c1=>∃d1:Bool,b1=.bool d1/\Split (!d1) (let e1:=c1.drew;∃f1:OA,e1.cell? d=some (.pointer f1)/\∃g1:OA,e1.cell? d=some (.pointer g1)/\Is g1 fun i1:Addr=>∃j1:OA,∃k1 m1:Nat,e1.cell? ((i1.add 0).add 33)=some (.slice j1 k1 m1)/\∃n1:AV,(n1.size=32/\Cells e1 (aU w.heap.size) n1)/\n1.size=32/\let o1:=e1.alloc (.cells (n1.toList++ []).toArray 24);o1.cell? ((i1.add 0).add 33)=some (.slice j1 k1 m1)/\o1.cell? d=some (.pointer g1)/\o1.cell? d=some (.pointer f1)/\∃(p1:OA) (q1 r1:Nat) (t1:World),(Builtin.append_ #[33,33] 33 #[.slice j1 k1 m1,.slice (some (aU e1.heap.size)) 1 1]).run prog o1=.ok (.slice p1 q1 r1) t1/\t1.cell? d=some (.pointer f1)/\Is f1 fun u1:Addr=>Wr t1 ((u1.add 0).add 33)/\let v1:=t1.setCell ((u1.add 0).add 33) (.slice p1 q1 r1);Q .normal [(3,.pointer (some a)),(4,.pointer (some b)),(6,.pointer c),(8,.pointer (some d)),(46,.slice e f g),(47,.int .i64 i),(48,.int .i64 (i64.wrap (j+(1:Int))))] v1) (Q .normal [(3,.pointer (some a)),(4,.pointer (some b)),(6,.pointer c),(8,.pointer (some d)),(46,.slice e f g),(47,.int .i64 i),(48,.int .i64 (i64.wrap (j+(1:Int))))] c1)) (Q .normal [(3,.pointer (some a)),(4,.pointer (some b)),(6,.pointer c),(8,.pointer (some d)),(46,.slice e f g),(47,.int .i64 i),(48,.int .i64 (i64.wrap (j+(1:Int))))] r)) (Q (.exit 0) [(3,.pointer (some a)),(4,.pointer (some b)),(6,.pointer c),(8,.pointer (some d)),(46,.slice e f g),(47,.int .i64 i),(48,.int .i64 j)] w)
theorem ah.b1:(a8 none [] prog 153 ah.k (lB (bB (sR (sL (aZ (sR (body f83))))))) ah.u1 Q [(3,.pointer (some a)),(4,.pointer (some b)),(6,.pointer c),(8,.pointer (some d)),(46,.slice e f g),(47,.int .i64 i),(48,.int .i64 j)] w)=ah.B1 a b c d e f g i j Q w:=by kernel_rfl
variable{a b c d e f g i}
theorem ah.b9(I:Int->World->Prop)(μ:Int->World->Nat)(s:Int){Q:aM}{w:World}(h0:I s w)
 (round:∀s w,I s w->ah.B1 a b c d e f g i s (bS (ah.e1 a b c d e f g i) I μ s w Q) w):Holds none [] prog 153 (.loop (lB (bB (sR (sL (aZ (sR (body f83)))))))) Q (ah.e1 a b c d e f g i s) w:=
 br ng mix (ah.e1 a b c d e f g i) I μ ah.k ah.u1 s (fun s Q w=>ah.B1 a b c d e f g i s Q w) (fun s Q w=>ah.b1 a b c d e f g i s Q w) h0 round
end
section
def ah.cU(a b:Addr)(c:OA)(d:Addr)(e:OA)(f g:Nat)(i j:Int)(K:KT)(w:World):Prop:=
 let k:=w.drew;∃m:OA,k.cell? d=some (.pointer m)/\Is m fun n:Addr=>∃o:OA,∃p q:Nat,k.cell? ((n.add 0).add 33)=some (.slice o p q)/\∃r:OA,k.cell? a=some (.pointer r)/\bf prog 53 #[.slice o p q,.func (.func 73) #[.pointer r] #[]] k fun t u=>t=.tuple #[]/\let v:=u.alloc (.cells (#[.slice none 0 0]:AV) 33);let x:=v.alloc (.cells (#[.nilFunc]:AV) 48);Wr x (aU v.heap.size)/\let y:=x.setCell (aU v.heap.size) (.func (.func 114) #[] #[.pointer (some d),.pointer (some a),.pointer (some b)]);∃z:OA,y.cell? d=some (.pointer z)/\Is z fun a1:Addr=>∃b1:OA,∃c1 d1:Nat,y.cell? ((a1.add 0).add 33)=some (.slice b1 c1 d1)/\Holds none [] prog 153 (.loop (lB (bB (sR (sL (dW (body f83))))))) (ah.q2 K) [(3,.pointer (some a)),(6,.pointer c),(8,.pointer (some d)),(11,.pointer (some (aU u.heap.size))),(12,.func (.func 112) #[] #[.pointer (some (aU u.heap.size)),.pointer (some a),.pointer (some b)]),(13,.pointer (some (aU v.heap.size))),(92,.slice b1 c1 d1),(93,.int .i64 (c1:Int)),(94,.int .i64 0)] y
variable(a b:Addr)(c:OA)(d:Addr)(e:OA)(f g:Nat)(i j:Int)(K:KT)(w:World)
theorem ah.dw:(ah.q1 K (.exit 0) [(3,.pointer (some a)),(4,.pointer (some b)),(6,.pointer c),(8,.pointer (some d)),(46,.slice e f g),(47,.int .i64 i),(48,.int .i64 j)] w)=ah.cU a b c d e f g i j K w:=by kernel_rfl
end
section
variable(a:Addr)(b:OA)(c d e f g i:Addr)(j:OA)(k m:Nat)(n o:Int)(Q:aM)(w:World)
def ah.B2:Prop:=
 Split (decide (o<n)) ((0<=o/\o<(k:Int))/\Is j fun p:Addr=>∃q:AV,(q.size=32/\Cells w (p.add (o.toNat*32)) q)/\let r:=w.alloc (.cells zH 24);(q.size=32/\(∀t∈q.toList,t.oneCell'=true)/\∀u,u<32->Wr r ((aU w.heap.size).add u))/\let v:=setCells r (aU w.heap.size) q.toList 0;let x:=v.alloc (.map #[] 0);let y:=x.alloc (.cells (#[.map none]:AV) 127);Wr y (aU x.heap.size)/\let z:=y.setCell (aU x.heap.size) (.map (some v.heap.size));∃a1:AV,(a1.size=32/\Cells z (aU w.heap.size) a1)/\bf prog 112 #[.agg a1,.func (.func 116) #[] #[.pointer (some i),.pointer (some (aU x.heap.size)),.pointer (some a)],.pointer (some e),.pointer (some f),.pointer (some g)] z fun b1 c1=>∃d1:Bool,b1=.bool d1/\let e1:=c1.drew;∃f1:OA,e1.cell? c=some (.pointer f1)/\∃g1:OA,e1.cell? c=some (.pointer g1)/\Is g1 fun i1:Addr=>∃j1:OA,∃k1 m1:Nat,e1.cell? ((i1.add 0).add 34)=some (.slice j1 k1 m1)/\let n1:=e1.alloc (.cells #[.bool d1] 4);n1.cell? ((i1.add 0).add 34)=some (.slice j1 k1 m1)/\n1.cell? c=some (.pointer g1)/\n1.cell? c=some (.pointer f1)/\∃(o1:OA) (p1 q1:Nat) (r1:World),(Builtin.append_ #[51,51] 51 #[.slice j1 k1 m1,.slice (some (aU e1.heap.size)) 1 1]).run prog n1=.ok (.slice o1 p1 q1) r1/\r1.cell? c=some (.pointer f1)/\Is f1 fun t1:Addr=>Wr r1 ((t1.add 0).add 34)/\let u1:=r1.setCell ((t1.add 0).add 34) (.slice o1 p1 q1);Split (!d1) (Q .normal [(3,.pointer (some a)),(6,.pointer b),(8,.pointer (some c)),(11,.pointer (some d)),(12,.func (.func 112) #[] #[.pointer (some e),.pointer (some f),.pointer (some g)]),(13,.pointer (some i)),(92,.slice j k m),(93,.int .i64 n),(94,.int .i64 (i64.wrap (o+(1:Int))))] u1) (∃v1:OA,u1.cell? c=some (.pointer v1)/\Is v1 fun x1:Addr=>∃y1:Int,u1.cell? ((x1.add 0).add 32)=some (.int .u64 y1)/\Is v1 fun z1:Addr=>Wr u1 ((z1.add 0).add 32)/\let a2:=u1.setCell ((z1.add 0).add 32) (.int .u64 (u64.wrap (y1+(1:Int))));let b2:=a2.drew;∃c2:OA,b2.cell? c=some (.pointer c2)/\Is c2 fun d2:Addr=>∃e2:Option Nat,b2.cell? (d2.add 35)=some (.map e2)/\∃f2:AV,(f2.size=32/\Cells b2 (aU w.heap.size) f2)/\∃g2:Option Nat,b2.cell? (aU x.heap.size)=some (.map g2)/\∃i2:Nat,(Builtin.len_ #[127] 3 #[.map g2]).run prog b2=.ok (.int .i64 (i2:Int)) b2/\∃j2:World,(Instr.mapUpdate 127 (.map e2) (.agg f2) (.int .i64 (i2:Int))).run prog b2=.ok () j2/\∃k2:Option Nat,j2.cell? (aU x.heap.size)=some (.map k2)/\∃(m2:OA) (n2:World),(Instr.range 127 (.map k2)).run prog j2=.ok (.pointer m2) n2/\Holds none [] prog 153 (.loop (lB (bB (sR (sL (cS (aZ (sR (bB (sL (aZ (lB (bB (sR (sL (dW (body f83))))))))))))))))) (ah.q3 Q) [(3,.pointer (some a)),(6,.pointer b),(8,.pointer (some c)),(11,.pointer (some d)),(12,.func (.func 112) #[] #[.pointer (some e),.pointer (some f),.pointer (some g)]),(13,.pointer (some i)),(15,.pointer (some (aU w.heap.size))),(92,.slice j k m),(93,.int .i64 n),(94,.int .i64 o),(134,.pointer m2)] n2)) (Q (.exit 2) [(3,.pointer (some a)),(6,.pointer b),(8,.pointer (some c)),(11,.pointer (some d)),(12,.func (.func 112) #[] #[.pointer (some e),.pointer (some f),.pointer (some g)]),(13,.pointer (some i)),(92,.slice j k m),(93,.int .i64 n),(94,.int .i64 o)] w)
theorem ah.b2:(a8 none [] prog 153 ah.k (lB (bB (sR (sL (dW (body f83)))))) ah.u2 Q [(3,.pointer (some a)),(6,.pointer b),(8,.pointer (some c)),(11,.pointer (some d)),(12,.func (.func 112) #[] #[.pointer (some e),.pointer (some f),.pointer (some g)]),(13,.pointer (some i)),(92,.slice j k m),(93,.int .i64 n),(94,.int .i64 o)] w)=ah.B2 a b c d e f g i j k m n o Q w:=by kernel_rfl
variable{a b c d e f g i j k m n}
theorem ah.iK(I:Int->World->Prop)(μ:Int->World->Nat)(s:Int){Q:aM}{w:World}(h0:I s w)
 (round:∀s w,I s w->ah.B2 a b c d e f g i j k m n s (bS (ah.e2 a b c d e f g i j k m n) I μ s w Q) w):Holds none [] prog 153 (.loop (lB (bB (sR (sL (dW (body f83))))))) Q (ah.e2 a b c d e f g i j k m n s) w:=
 br ng mix (ah.e2 a b c d e f g i j k m n) I μ ah.k ah.u2 s (fun s Q w=>ah.B2 a b c d e f g i j k m n s Q w) (fun s Q w=>ah.b2 a b c d e f g i j k m n s Q w) h0 round
end
section
def ah.jX(a:Addr)(b:OA)(c d e f g i:Addr)(j:OA)(k m:Nat)(n o:Int)(K:KT)(w:World):Prop:=
 ∃p:OA,w.cell? c=some (.pointer p)/\K (.pointer p) w
variable(a:Addr)(b:OA)(c d e f g i:Addr)(j:OA)(k m:Nat)(n o:Int)(K:KT)(w:World)
theorem ah.lI:(ah.q2 K (.exit 2) [(3,.pointer (some a)),(6,.pointer b),(8,.pointer (some c)),(11,.pointer (some d)),(12,.func (.func 112) #[] #[.pointer (some e),.pointer (some f),.pointer (some g)]),(13,.pointer (some i)),(92,.slice j k m),(93,.int .i64 n),(94,.int .i64 o)] w)=ah.jX a b c d e f g i j k m n o K w:=by kernel_rfl
end
section
variable(a:Addr)(b:OA)(c d e f g i j:Addr)(k:OA)(m n:Nat)(o p:Int)(q:OA)(Q:aM)(w:World)
def ah.B3:Prop:=
 (∃r:World,(Instr.next (.pointer q) false 0).run prog w=.ok (.tuple #[.bool false]) r/\Q (.exit 4) [(3,.pointer (some a)),(6,.pointer b),(8,.pointer (some c)),(11,.pointer (some d)),(12,.func (.func 112) #[] #[.pointer (some e),.pointer (some f),.pointer (some g)]),(13,.pointer (some i)),(15,.pointer (some j)),(92,.slice k m n),(93,.int .i64 o),(94,.int .i64 p),(134,.pointer q)] r)\/∃(t u:Value) (v:World),(Instr.next (.pointer q) false 0).run prog w=.ok (.tuple #[.bool true,t,u]) v/\∃x:AV,∃y:Int,(Instr.entry (.pointer q)).run prog v=.ok (.tuple #[.agg x,.int .i64 y]) v/\let z:=v.alloc (.cells zH 24);(x.size=32/\(∀a1∈x.toList,a1.oneCell'=true)/\∀b1,b1<32->Wr z ((aU v.heap.size).add b1))/\let c1:=setCells z (aU v.heap.size) x.toList 0;let d1:=c1.drew;∃e1:OA,d1.cell? c=some (.pointer e1)/\Is e1 fun f1:Addr=>∃g1:Option Nat,d1.cell? (f1.add 35)=some (.map g1)/\∃i1:AV,(i1.size=32/\Cells d1 (aU v.heap.size) i1)/\∃j1:World,(Instr.mapUpdate 127 (.map g1) (.agg i1) (.int .i64 (i64.wrap (y+(1:Int))))).run prog d1=.ok () j1/\Q .normal [(3,.pointer (some a)),(6,.pointer b),(8,.pointer (some c)),(11,.pointer (some d)),(12,.func (.func 112) #[] #[.pointer (some e),.pointer (some f),.pointer (some g)]),(13,.pointer (some i)),(15,.pointer (some j)),(92,.slice k m n),(93,.int .i64 o),(94,.int .i64 p),(134,.pointer q)] j1
theorem ah.b3:(a8 none [] prog 153 ah.k (lB (bB (sR (sL (cS (aZ (sR (bB (sL (aZ (lB (bB (sR (sL (dW (body f83)))))))))))))))) ah.u3 Q [(3,.pointer (some a)),(6,.pointer b),(8,.pointer (some c)),(11,.pointer (some d)),(12,.func (.func 112) #[] #[.pointer (some e),.pointer (some f),.pointer (some g)]),(13,.pointer (some i)),(15,.pointer (some j)),(92,.slice k m n),(93,.int .i64 o),(94,.int .i64 p),(134,.pointer q)] w)=ah.B3 a b c d e f g i j k m n o p q Q w:=by kernel_rfl
variable{a b c d e f g i j k m n o p q}
theorem ah.wP(I:Unit->World->Prop)(μ:Unit->World->Nat)(s:Unit){Q:aM}{w:World}(h0:I s w)
 (round:∀s w,I s w->ah.B3 a b c d e f g i j k m n o p q (bS (ah.e3 a b c d e f g i j k m n o p q) I μ s w Q) w):Holds none [] prog 153 (.loop (lB (bB (sR (sL (cS (aZ (sR (bB (sL (aZ (lB (bB (sR (sL (dW (body f83))))))))))))))))) Q (ah.e3 a b c d e f g i j k m n o p q s) w:=
 br ng mix (ah.e3 a b c d e f g i j k m n o p q) I μ ah.k ah.u3 s (fun s Q w=>ah.B3 a b c d e f g i j k m n o p q Q w) (fun s Q w=>ah.b3 a b c d e f g i j k m n o p q Q w) h0 round
end
section
def ah.zJ(a:Addr)(b:OA)(c d e f g i j:Addr)(k:OA)(m n:Nat)(o p:Int)(q:OA)(Q:aM)(w:World):Prop:=
 ∃r:OA,∃t u:Nat,w.cell? d=some (.slice r t u)/\∃v:AV,(v.size=32/\Cells w j v)/\v.size=32/\let x:=w.alloc (.cells (v.toList++ []).toArray 24);∃(y:OA) (z a1:Nat) (b1:World),(Builtin.append_ #[33,33] 33 #[.slice r t u,.slice (some (aU w.heap.size)) 1 1]).run prog x=.ok (.slice y z a1) b1/\Wr b1 d/\let c1:=b1.setCell d (.slice y z a1);Q .normal [(3,.pointer (some a)),(6,.pointer b),(8,.pointer (some c)),(11,.pointer (some d)),(12,.func (.func 112) #[] #[.pointer (some e),.pointer (some f),.pointer (some g)]),(13,.pointer (some i)),(92,.slice k m n),(93,.int .i64 o),(94,.int .i64 (i64.wrap (p+(1:Int))))] c1
variable(a:Addr)(b:OA)(c d e f g i j:Addr)(k:OA)(m n:Nat)(o p:Int)(q:OA)(Q:aM)(w:World)
theorem ah.Da:(ah.q3 Q (.exit 4) [(3,.pointer (some a)),(6,.pointer b),(8,.pointer (some c)),(11,.pointer (some d)),(12,.func (.func 112) #[] #[.pointer (some e),.pointer (some f),.pointer (some g)]),(13,.pointer (some i)),(15,.pointer (some j)),(92,.slice k m n),(93,.int .i64 o),(94,.int .i64 p),(134,.pointer q)] w)=ah.zJ a b c d e f g i j k m n o p q Q w:=by kernel_rfl
end
def fM.k:List Nat:= []
section
variable(a:AV)(K:KT)(w:World)
def fM.W:Prop:=
 let b:=w.alloc (.cells a 53);let d:=b.alloc (.cells zC 53);let e:=d.drew;∃f:OA,∃g i:Nat,e.cell? ((aU w.heap.size).add 33)=some (.slice f g i)/\∃j:OA,∃k m:Nat,e.cell? ((aU w.heap.size).add 34)=some (.slice j k m)/\bf prog 55 #[.slice f g i] e fun n o=>∃p:OA,∃q r:Nat,n=.slice p q r/\o.cell? ((aU w.heap.size).add 34)=some (.slice j k m)/\bf prog 121 #[.slice j k m] o fun t u=>∃v:OA,∃x y:Nat,t=.slice v x y/\Wr u ((aU w.heap.size).add 33)/\let z:=u.setCell ((aU w.heap.size).add 33) (.slice p q r);Wr z ((aU w.heap.size).add 34)/\let a1:=z.setCell ((aU w.heap.size).add 34) (.slice v x y);∃b1:AV,(b1.size=35/\Cells a1 (aU w.heap.size) b1)/\(b1.size=35/\(∀c1∈b1.toList,c1.oneCell'=true)/\∀d1,d1<35->Wr a1 ((aU b.heap.size).add d1))/\let e1:=setCells a1 (aU b.heap.size) b1.toList 0;∃f1:AV,(f1.size=35/\Cells e1 (aU b.heap.size) f1)/\K (.agg f1) e1
variable{a K w}
theorem fM.of(h:fM.W a K w):bf prog 85 #[.agg a] w K:=
 rqq func85 (C:=fM.k) h
end
def dv.k:List Nat:= []
section
variable(a:AV)(b:Addr)(K:KT)(w:World)
def dv.W:Prop:=
 let d:=w.alloc (.cells a 24);let e:=d.drew;∃f:OA,e.cell? b=some (.pointer f)/\Is f fun g:Addr=>∃i:Option Nat,e.cell? (g.add 2)=some (.map i)/\∃j:AV,(j.size=32/\Cells e (aU w.heap.size) j)/\∃k:OA,(Instr.lookup 63 (.map i) (.agg j) false).run prog e=.ok (.pointer k) e/\K (.bool ((k).isNone)) e
variable{a b K w}
theorem dv.of(h:dv.W a b K w):bf prog 105 #[.agg a,.pointer (some b)] w K:=
 rqq func105 (C:=dv.k) h
end
def bz.k:List Nat:= []
def bz.q1(K:KT):aM:=(aP 0 (ct (aZ (sR (body f106)))++(aW f106)) (b6 (fun cf w_=>match cutAt bz.k (aZ (sR (body f106)))with|true=>Holds none [] prog 18 (aZ (sR (body f106))) (bV prog f106 K) cf w_|false=>a8 none [] prog 18 bz.k (aZ (sR (body f106))) (aW f106) (bV prog f106 K) cf w_) (bV prog f106 K)))
def bz.e1(a:Int)(b:OA)(c d:Nat)(e:Int)(s:Int×Int):Env:= [(2,.int .i64 s.1),(3,.int .i64 a),(6,.slice b c d),(7,.int .i64 e),(8,.int .i64 s.2)]
def bz.u1:List Nat:= [2,3,6,7,8]
section
variable(a:OA)(b d:Nat)(K:KT)(w:World)
def bz.W:Prop:=
 Holds none [] prog 18 (.loop (lB (bB (sR (sL (aZ (body f106))))))) (bz.q1 K) [(2,.int .i64 0),(3,.int .i64 0),(6,.slice a b d),(7,.int .i64 (b:Int)),(8,.int .i64 0)] w
variable{a b d K w}
theorem bz.of(h:bz.W a b d K w):bf prog 106 #[.slice a b d] w K:=
 rqq func106 (C:=bz.k) h
end
section
variable(a b:Int)(c:OA)(d e:Nat)(f g:Int)(Q:aM)(w:World)
def bz.B1:Prop:=
 Split (decide (g<f)) ((0<=g/\g<(d:Int))/\Is c fun i:Addr=>∃j:Int,w.cell? (i.add (g.toNat*1))=some (.int .i64 j)/\Split (j != b) (Q .ret [(2,.int .i64 j),(3,.int .i64 b),(6,.slice c d e),(7,.int .i64 f),(8,.int .i64 g)] w) (Q .normal [(2,.int .i64 a),(3,.int .i64 b),(6,.slice c d e),(7,.int .i64 f),(8,.int .i64 (i64.wrap (g+(1:Int))))] w)) (Q (.exit 0) [(2,.int .i64 a),(3,.int .i64 b),(6,.slice c d e),(7,.int .i64 f),(8,.int .i64 g)] w)
theorem bz.b1:(a8 none [] prog 18 bz.k (lB (bB (sR (sL (aZ (body f106)))))) bz.u1 Q [(2,.int .i64 a),(3,.int .i64 b),(6,.slice c d e),(7,.int .i64 f),(8,.int .i64 g)] w)=bz.B1 a b c d e f g Q w:=by kernel_rfl
variable{b c d e f}
theorem bz.b9(I:Int×Int->World->Prop)(μ:Int×Int->World->Nat)(s:Int×Int){Q:aM}{w:World}(h0:I s w)
 (round:∀s w,I s w->bz.B1 (s.1) b c d e f (s.2) (bS (bz.e1 b c d e f) I μ s w Q) w):Holds none [] prog 18 (.loop (lB (bB (sR (sL (aZ (body f106))))))) Q (bz.e1 b c d e f s) w:=
 br ng mix (bz.e1 b c d e f) I μ bz.k bz.u1 s (fun s Q w=>bz.B1 (s.1) b c d e f (s.2) Q w) (fun s Q w=>bz.b1 (s.1) b c d e f (s.2) Q w) h0 round
end
section
def bz.cU(a b:Int)(c:OA)(d e:Nat)(f g:Int)(K:KT)(w:World):Prop:=
 K (.int .i64 b) w
variable(a b:Int)(c:OA)(d e:Nat)(f g:Int)(K:KT)(w:World)
theorem bz.dw:(bz.q1 K (.exit 0) [(2,.int .i64 a),(3,.int .i64 b),(6,.slice c d e),(7,.int .i64 f),(8,.int .i64 g)] w)=bz.cU a b c d e f g K w:=by kernel_rfl
end
def cY.k:List Nat:= []
section
variable(a b:Int)(K:KT)(w:World)
def cY.W:Prop:=
 bf prog 139 #[.int .u64 a] w fun d e=>∃f:Bool,d=.bool f/\bf prog 139 #[.int .u64 b] e fun g i=>∃j:Bool,g=.bool j/\Split f (Split j (K (.int .i64 0) i) (K (.int .i64 (-1)) i)) (Split j (K (.int .i64 1) i) (Split (decide (a<b)) (K (.int .i64 (-1)) i) (Split (decide (a>b)) (K (.int .i64 1) i) (K (.int .i64 0) i))))
variable{a b K w}
theorem cY.of(h:cY.W a b K w):bf prog 107 #[.int .u64 a,.int .u64 b] w K:=
 rqq func107 (C:=cY.k) h
end
def cK.k:List Nat:= []
section
variable(a:OA)(b d:AV)(K:KT)(w:World)
def cK.W:Prop:=
 let e:=w.alloc (.cells b 24);let f:=e.alloc (.cells d 24);let g:=f.drew;∃i:AV,(i.size=32/\Cells g (aU w.heap.size) i)/\∃j:AV,(j.size=32/\Cells g (aU e.heap.size) j)/\(fT .u8 32 i/\fT .u8 32 j)/\Split (!(gh i j)) (Is a fun k:Addr=>∃m:OA,g.cell? (k.add 1)=some (.pointer m)/\∃n:AV,(n.size=32/\Cells g (aU w.heap.size) n)/\∃o:AV,(o.size=32/\Cells g (aU e.heap.size) o)/\bf prog 51 #[.pointer m,.agg n,.agg o] g fun p q=>∃r:Bool,p=.bool r/\Split (!r) (Is a fun t:Addr=>∃u:OA,q.cell? (t.add 1)=some (.pointer u)/\∃v:AV,(v.size=32/\Cells q (aU e.heap.size) v)/\∃x:AV,(x.size=32/\Cells q (aU w.heap.size) x)/\bf prog 51 #[.pointer u,.agg v,.agg x] q fun y z=>∃a1:Bool,y=.bool a1/\K (.bool (!a1)) z) (K (.bool false) q)) (K (.bool false) g)
variable{a b d K w}
theorem cK.of(h:cK.W a b d K w):bf prog 113 #[.pointer a,.agg b,.agg d] w K:=
 rqq func113 (C:=cK.k) h
end
def bH.k:List Nat:= []
section
variable(a:AV)(b d e:Addr)(K:KT)(w:World)
def bH.W:Prop:=
 let f:=w.alloc (.cells a 24);let g:=f.drew;∃i:OA,g.cell? b=some (.pointer i)/\Is i fun j:Addr=>∃k:Option Nat,g.cell? (j.add 35)=some (.map k)/\∃m:AV,(m.size=32/\Cells g (aU w.heap.size) m)/\∃n:Int,∃o:Bool,(Instr.lookup 127 (.map k) (.agg m) true).run prog g=.ok (.tuple #[.int .i64 n,.bool o]) g/\Split o (K (.int .i64 n) g) (∃p:OA,g.cell? d=some (.pointer p)/\∃q:AV,(q.size=32/\Cells g e q)/\∃r:AV,(r.size=32/\Cells g (aU w.heap.size) r)/\bf prog 115 #[.pointer p,.agg q,.agg r] g fun t u=>∃v:Int,t=.int .i64 v/\K (.int .i64 v) u)
variable{a b d e K w}
theorem bH.of(h:bH.W a b d e K w):bf prog 114 #[.agg a,.pointer (some b),.pointer (some d),.pointer (some e)] w K:=
 rqq func114 (C:=bH.k) h
end
def bZ.k:List Nat:= []
section
variable(a:AV)(b d e:Addr)(K:KT)(w:World)
def bZ.W:Prop:=
 let f:=w.alloc (.cells a 24);let g:=f.drew;∃i:Option Nat,g.cell? d=some (.map i)/\∃j:AV,(j.size=32/\Cells g (aU w.heap.size) j)/\∃k:Value,g.cell? b=some (k)/\∃m:AV,(m.size=32/\Cells g (aU w.heap.size) m)/\∃(n:Nat) (o p:AV) (q:Func),(k:Value)=.func (.func n) o p/\prog.funcs[n]? =some q/\q.body.isSome=true/\bf prog n (o.toList++([.agg m]:List Value)++p.toList).toArray g fun r t=>∃u:Int,r=.int .i64 u/\(∃cs:AV,(.agg j:Value)=.agg cs/\cs.size=32/\Cells t (aU w.heap.size) cs)/\t.cell? d=some (.map i)/\∃v:World,(Instr.mapUpdate 127 (.map i) (.agg j) (.int .i64 u)).run prog t=.ok () v/\let x:=v.drew;∃y:Option Nat,x.cell? d=some (.map y)/\∃z:Nat,(Builtin.len_ #[127] 3 #[.map y]).run prog x=.ok (.int .i64 (z:Int)) x/\∃a1:OA,x.cell? e=some (.pointer a1)/\Is a1 fun b1:Addr=>∃c1:Int,x.cell? (b1.add 0)=some (.int .i64 c1)/\Split (decide ((z:Int)<=c1)) (∃d1:Option Nat,x.cell? d=some (.map d1)/\∃e1:AV,(e1.size=32/\Cells x (aU w.heap.size) e1)/\∃f1:Int,(Instr.lookup 127 (.map d1) (.agg e1) false).run prog x=.ok (.int .i64 f1) x/\∃g1:OA,x.cell? e=some (.pointer g1)/\Is g1 fun i1:Addr=>∃j1:Int,x.cell? (i1.add 0)=some (.int .i64 j1)/\K (.bool (decide (f1<j1))) x) (K (.bool false) x)
variable{a b d e K w}
theorem bZ.of(h:bZ.W a b d e K w):bf prog 116 #[.agg a,.pointer (some b),.pointer (some d),.pointer (some e)] w K:=
 rqq func116 (C:=bZ.k) h
end
def db.k:List Nat:= []
section
variable(a:OA)(b d:Nat)(K:KT)(w:World)
def db.W:Prop:=
 Split ((a).isNone) (K (.slice none 0 0) w) (let e:=w.alloc (.cells #[] 4);∃(f:OA) (g i:Nat) (j:World),(Builtin.append_ #[51,51] 51 #[.slice (some (aU w.heap.size)) 0 0,.slice a b d]).run prog e=.ok (.slice f g i) j/\K (.slice f g i) j)
variable{a b d K w}
theorem db.of(h:db.W a b d K w):bf prog 121 #[.slice a b d] w K:=
 rqq func121 (C:=db.k) h
end
def dQ.k:List Nat:= []
section
variable(a:Int)(K:KT)(w:World)
def dQ.W:Prop:=
 K (.bool (a != a)) w
variable{a K w}
theorem dQ.of(h:dQ.W a K w):bf prog 139 #[.int .u64 a] w K:=
 rqq func139 (C:=dQ.k) h
end
def aS.k:List Nat:= []
def aS.Bz(K:KT):aM:=(aP 0 (ct (aZ (body f115))++(aW f115)) (b6 (fun cf w_=>match cutAt aS.k (aZ (body f115))with|true=>Holds none [] prog 33 (aZ (body f115)) (bV prog f115 K) cf w_|false=>a8 none [] prog 33 aS.k (aZ (body f115)) (aW f115) (bV prog f115 K) cf w_) (bV prog f115 K)))
section
variable(a:OA)(b d:AV)(K:KT)(w:World)
def aS.W:Prop:=
 let e:=w.alloc (.cells (#[.pointer a]:AV) 28);let f:=e.alloc (.cells b 24);let g:=f.alloc (.cells d 24);let i:=g.alloc (.cells (#[.int .i64 0]:AV) 3);let j:=i.drew;∃k:OA,j.cell? (aU w.heap.size)=some (.pointer k)/\Is k fun m:Addr=>∃n:OA,j.cell? (m.add 1)=some (.pointer n)/\∃o:AV,(o.size=32/\Cells j (aU e.heap.size) o)/\bf prog 109 #[.pointer n,.agg o] j fun p q=>∃r:Value,p=r/\Holds none [] prog 33 (bB (sR (sL (sR (body f115))))) (aS.Bz K) [(3,.pointer (some (aU w.heap.size))),(5,.pointer (some (aU f.heap.size))),(6,.pointer (some (aU g.heap.size))),(15,r)] q
variable{a b d K w}
theorem aS.of(h:aS.W a b d K w):bf prog 115 #[.pointer a,.agg b,.agg d] w K:=
 rqq func115 (C:=aS.k) h
end
section
def aS.A1(l:Nat)(a b c:Addr)(d:Value)(e:AV)(Q:aM)(w:World):Prop:=
 let f:=w.alloc (.cells zH 24);(e.size=32/\(∀g∈e.toList,g.oneCell'=true)/\∀i,i<32->Wr f ((aU w.heap.size).add i))/\let j:=setCells f (aU w.heap.size) e.toList 0;Q .normal [(3,.pointer (some a)),(5,.pointer (some b)),(6,.pointer (some c)),(7,.pointer (some (aU w.heap.size)))] j
variable(l:Nat)(a b c:Addr)(d:Value)(e:AV)(Q:aM)(w:World)
theorem aS.a1:(a8 (some l) [] prog 33 aS.k (rA (bB (sR (sL (sR (body f115)))))) (ct (rB (bB (sR (sL (sR (body f115))))))) Q [(3,.pointer (some a)),(5,.pointer (some b)),(6,.pointer (some c)),(15,d),(16,.agg e)] w)=aS.A1 l a b c d e Q w:=by kernel_rfl
end
section
def aS.Y1(l:Nat)(a b c d:Addr)(Q:aM)(w:World):Prop:=
 let e:=w.drew;∃f:OA,e.cell? a=some (.pointer f)/\Is f fun g:Addr=>∃i:Option Nat,e.cell? (g.add 2)=some (.map i)/\∃j:AV,(j.size=32/\Cells e d j)/\∃k:OA,(Instr.lookup 63 (.map i) (.agg j) false).run prog e=.ok (.pointer k) e/\Is k fun m:Addr=>∃n:Option Nat,e.cell? (m.add 35)=some (.map n)/\∃o:AV,(o.size=32/\Cells e b o)/\∃p:Int,∃q:Bool,(Instr.lookup 127 (.map n) (.agg o) true).run prog e=.ok (.tuple #[.int .i64 p,.bool q]) e/\Split q (Wr e c/\let r:=e.setCell c (.int .i64 p);Q .ret [] r) (Q .normal [] e)
variable(l:Nat)(a b c d:Addr)(Q:aM)(w:World)
theorem aS.y1:(a8 (some l) [] prog 33 aS.k (rB (bB (sR (sL (sR (body f115)))))) [] Q [(3,.pointer (some a)),(5,.pointer (some b)),(6,.pointer (some c)),(7,.pointer (some d))] w)=aS.Y1 l a b c d Q w:=by kernel_rfl
end
section
def aS.iC(a b c:Addr)(d:Value)(ms:AV)(K:KT)(w:World):Prop:=
 Wr w c/\let e:=w.setCell c (.int .i64 0);jG (marksOf (.agg ms)) e/\∃f:Int,(fi (marksOf (.agg ms)) e).cell? c=some (.int .i64 f)/\K (.int .i64 f) (fi (marksOf (.agg ms)) e)
variable(a b c:Addr)(d:Value)(ms:AV)(K:KT)(w:World)
theorem aS.jw:(aS.Bz K .normal [(3,.pointer (some a)),(5,.pointer (some b)),(6,.pointer (some c)),(15,d),(4294967296,.agg ms)] w)=aS.iC a b c d ms K w:=by kernel_rfl
end
section
def aS.tw(a b c:Addr)(d:Value)(ms:AV)(K:KT)(w:World):Prop:=
 jG (marksOf (.agg ms)) w/\∃e:Int,(fi (marksOf (.agg ms)) w).cell? c=some (.int .i64 e)/\K (.int .i64 e) (fi (marksOf (.agg ms)) w)
variable(a b c:Addr)(d:Value)(ms:AV)(K:KT)(w:World)
theorem aS.x6:(aS.Bz K .ret [(3,.pointer (some a)),(5,.pointer (some b)),(6,.pointer (some c)),(15,d),(4294967296,.agg ms)] w)=aS.tw a b c d ms K w:=by kernel_rfl
end
def af.k:List Nat:= []
def af.q1(K:KT):aM:=(aP 0 (ct (aZ (body f112))++(aW f112)) (b6 (fun cf w_=>match cutAt af.k (aZ (body f112))with|true=>Holds none [] prog 90 (aZ (body f112)) (bV prog f112 K) cf w_|false=>a8 none [] prog 90 af.k (aZ (body f112)) (aW f112) (bV prog f112 K) cf w_) (bV prog f112 K)))
def af.e1(a b c d e:Addr)(f:OA)(g i:Nat)(j s:Int):Env:= [(3,.pointer (some a)),(4,.pointer (some b)),(5,.pointer (some c)),(6,.pointer (some d)),(7,.pointer (some e)),(14,.slice f g i),(15,.int .i64 j),(16,.int .i64 s)]
def af.u1:List Nat:= [3,4,5,6,7,14,15,16]
def af.Bz(K:KT):aM:=(aP 2 (ct (aZ (sR (body f112)))++(aW f112)) (b6 (fun cf w_=>match cutAt af.k (aZ (sR (body f112)))with|true=>Holds none [] prog 90 (aZ (sR (body f112))) (bV prog f112 K) cf w_|false=>a8 none [] prog 90 af.k (aZ (sR (body f112))) (aW f112) (bV prog f112 K) cf w_) (bV prog f112 K)))
def af.q2(l:Nat)(Q:aM):aM:=(aP 4 [] (aP 3 [] Q))
def af.e2(a b c d e:Addr)(f:OA)(g i:Nat)(j s:Int):Env:= [(3,.pointer (some a)),(5,.pointer (some b)),(6,.pointer (some c)),(7,.pointer (some d)),(11,.pointer (some e)),(65,.slice f g i),(66,.int .i64 j),(67,.int .i64 s)]
def af.u2:List Nat:= [3,5,6,7,11,65,66,67]
section
variable(a:AV)(b:Value)(d e f:Addr)(K:KT)(w:World)
def af.W:Prop:=
 let g:=w.alloc (.cells a 24);let i:=g.alloc (.cells b.cells 101);let j:=i.alloc (.cells (#[.bool false]:AV) 4);∃k:OA,∃m n:Nat,j.cell? d=some (.slice k m n)/\Holds none [] prog 90 (.loop (lB (bB (sR (sL (sR (body f112))))))) (af.q1 K) [(3,.pointer (some e)),(4,.pointer (some f)),(5,.pointer (some (aU w.heap.size))),(6,.pointer (some (aU g.heap.size))),(7,.pointer (some (aU i.heap.size))),(14,.slice k m n),(15,.int .i64 (m:Int)),(16,.int .i64 0)] j
variable{a b d e f K w}
theorem af.of(h:af.W a b d e f K w):bf prog 112 #[.agg a,b,.pointer (some d),.pointer (some e),.pointer (some f)] w K:=
 rqq func112 (C:=af.k) h
end
section
variable(a b c d e:Addr)(f:OA)(g i:Nat)(j k:Int)(Q:aM)(w:World)
def af.B1:Prop:=
 Split (decide (k<j)) ((0<=k/\k<(g:Int))/\Is f fun m:Addr=>∃n:AV,(n.size=32/\Cells w (m.add (k.toNat*32)) n)/\let o:=w.alloc (.cells zH 24);(n.size=32/\(∀p∈n.toList,p.oneCell'=true)/\∀q,q<32->Wr o ((aU w.heap.size).add q))/\let r:=setCells o (aU w.heap.size) n.toList 0;∃t:OA,r.cell? a=some (.pointer t)/\∃u:AV,(u.size=32/\Cells r (aU w.heap.size) u)/\∃v:AV,(v.size=32/\Cells r c v)/\bf prog 113 #[.pointer t,.agg u,.agg v] r fun x y=>∃z:Bool,x=.bool z/\Split z (∃a1:Value,y.cell? d=some (a1)/\∃b1:AV,(b1.size=32/\Cells y (aU w.heap.size) b1)/\∃(c1:Nat) (d1 e1:AV) (f1:Func),(a1:Value)=.func (.func c1) d1 e1/\prog.funcs[c1]? =some f1/\f1.body.isSome=true/\bf prog c1 (d1.toList++([.agg b1]:List Value)++e1.toList).toArray y fun g1 i1=>∃j1:Bool,g1=.bool j1/\Split (!j1) (Wr i1 e/\let k1:=i1.setCell e (.bool false);Q .ret [(3,.pointer (some a)),(4,.pointer (some b)),(5,.pointer (some c)),(6,.pointer (some d)),(7,.pointer (some e)),(14,.slice f g i),(15,.int .i64 j),(16,.int .i64 k)] k1) (Q .normal [(3,.pointer (some a)),(4,.pointer (some b)),(5,.pointer (some c)),(6,.pointer (some d)),(7,.pointer (some e)),(14,.slice f g i),(15,.int .i64 j),(16,.int .i64 (i64.wrap (k+(1:Int))))] i1)) (Q .normal [(3,.pointer (some a)),(4,.pointer (some b)),(5,.pointer (some c)),(6,.pointer (some d)),(7,.pointer (some e)),(14,.slice f g i),(15,.int .i64 j),(16,.int .i64 (i64.wrap (k+(1:Int))))] y)) (Q (.exit 0) [(3,.pointer (some a)),(4,.pointer (some b)),(5,.pointer (some c)),(6,.pointer (some d)),(7,.pointer (some e)),(14,.slice f g i),(15,.int .i64 j),(16,.int .i64 k)] w)
theorem af.b1:(a8 none [] prog 90 af.k (lB (bB (sR (sL (sR (body f112)))))) af.u1 Q [(3,.pointer (some a)),(4,.pointer (some b)),(5,.pointer (some c)),(6,.pointer (some d)),(7,.pointer (some e)),(14,.slice f g i),(15,.int .i64 j),(16,.int .i64 k)] w)=af.B1 a b c d e f g i j k Q w:=by kernel_rfl
variable{a b c d e f g i j}
theorem af.b9(I:Int->World->Prop)(μ:Int->World->Nat)(s:Int){Q:aM}{w:World}(h0:I s w)
 (round:∀s w,I s w->af.B1 a b c d e f g i j s (bS (af.e1 a b c d e f g i j) I μ s w Q) w):Holds none [] prog 90 (.loop (lB (bB (sR (sL (sR (body f112))))))) Q (af.e1 a b c d e f g i j s) w:=
 br ng mix (af.e1 a b c d e f g i j) I μ af.k af.u1 s (fun s Q w=>af.B1 a b c d e f g i j s Q w) (fun s Q w=>af.b1 a b c d e f g i j s Q w) h0 round
end
section
def af.cU(a b c d e:Addr)(f:OA)(g i:Nat)(j k:Int)(K:KT)(w:World):Prop:=
 let m:=w.drew;∃n:OA,m.cell? a=some (.pointer n)/\Is n fun o:Addr=>∃p:OA,m.cell? (o.add 1)=some (.pointer p)/\∃q:AV,(q.size=32/\Cells m b q)/\bf prog 109 #[.pointer p,.agg q] m fun r t=>∃u:Value,r=u/\Holds none [] prog 90 (bB (sR (sL (aZ (body f112))))) (af.Bz K) [(3,.pointer (some a)),(5,.pointer (some c)),(6,.pointer (some d)),(7,.pointer (some e)),(36,u)] t
variable(a b c d e:Addr)(f:OA)(g i:Nat)(j k:Int)(K:KT)(w:World)
theorem af.dw:(af.q1 K (.exit 0) [(3,.pointer (some a)),(4,.pointer (some b)),(5,.pointer (some c)),(6,.pointer (some d)),(7,.pointer (some e)),(14,.slice f g i),(15,.int .i64 j),(16,.int .i64 k)] w)=af.cU a b c d e f g i j k K w:=by kernel_rfl
end
section
def af.zK(a b c d e:Addr)(f:OA)(g i:Nat)(j k:Int)(K:KT)(w:World):Prop:=
 ∃m:Bool,w.cell? e=some (.bool m)/\K (.bool m) w
variable(a b c d e:Addr)(f:OA)(g i:Nat)(j k:Int)(K:KT)(w:World)
theorem af.u7:(af.q1 K .ret [(3,.pointer (some a)),(4,.pointer (some b)),(5,.pointer (some c)),(6,.pointer (some d)),(7,.pointer (some e)),(14,.slice f g i),(15,.int .i64 j),(16,.int .i64 k)] w)=af.zK a b c d e f g i j k K w:=by kernel_rfl
end
section
def af.A1(l:Nat)(a b c d:Addr)(e:Value)(f:AV)(Q:aM)(w:World):Prop:=
 let g:=w.alloc (.cells zH 24);(f.size=32/\(∀i∈f.toList,i.oneCell'=true)/\∀j,j<32->Wr g ((aU w.heap.size).add j))/\let k:=setCells g (aU w.heap.size) f.toList 0;Q .normal [(3,.pointer (some a)),(5,.pointer (some b)),(6,.pointer (some c)),(7,.pointer (some d)),(10,.pointer (some (aU w.heap.size)))] k
variable(l:Nat)(a b c d:Addr)(e:Value)(f:AV)(Q:aM)(w:World)
theorem af.a1:(a8 (some l) [] prog 90 af.k (rA (bB (sR (sL (aZ (body f112)))))) (ct (rB (bB (sR (sL (aZ (body f112))))))) Q [(3,.pointer (some a)),(5,.pointer (some b)),(6,.pointer (some c)),(7,.pointer (some d)),(36,e),(37,.agg f)] w)=af.A1 l a b c d e f Q w:=by kernel_rfl
end
section
variable(l:Nat)(a b c d e:Addr)(Q:aM)(w:World)
def af.Y1:Prop:=
 ∃f:OA,w.cell? a=some (.pointer f)/\∃g:AV,(g.size=32/\Cells w e g)/\∃i:AV,(i.size=32/\Cells w b i)/\bf prog 113 #[.pointer f,.agg g,.agg i] w fun j k=>∃m:Bool,j=.bool m/\Split m (∃n:Value,k.cell? c=some (n)/\∃o:AV,(o.size=32/\Cells k e o)/\∃(p:Nat) (q r:AV) (t:Func),(n:Value)=.func (.func p) q r/\prog.funcs[p]? =some t/\t.body.isSome=true/\bf prog p (q.toList++([.agg o]:List Value)++r.toList).toArray k fun u v=>∃x:Bool,u=.bool x/\Split (!x) (Wr v d/\let y:=v.setCell d (.bool false);Q .ret [(3,.pointer (some a)),(5,.pointer (some b)),(6,.pointer (some c)),(7,.pointer (some d)),(10,.pointer (some e))] y) (let z:=v.drew;∃a1:OA,z.cell? a=some (.pointer a1)/\Is a1 fun b1:Addr=>∃c1:OA,z.cell? (b1.add 1)=some (.pointer c1)/\∃d1:AV,(d1.size=32/\Cells z e d1)/\∃e1:AV,(e1.size=32/\Cells z b e1)/\bf prog 51 #[.pointer c1,.agg d1,.agg e1] z fun f1 g1=>∃i1:Bool,f1=.bool i1/\Split i1 (Wr g1 d/\let j1:=g1.setCell d (.bool true);Q .ret [(3,.pointer (some a)),(5,.pointer (some b)),(6,.pointer (some c)),(7,.pointer (some d)),(10,.pointer (some e))] j1) (let k1:=g1.drew;∃m1:OA,k1.cell? a=some (.pointer m1)/\Is m1 fun n1:Addr=>∃o1:Option Nat,k1.cell? (n1.add 2)=some (.map o1)/\∃p1:AV,(p1.size=32/\Cells k1 e p1)/\∃q1:OA,(Instr.lookup 63 (.map o1) (.agg p1) false).run prog k1=.ok (.pointer q1) k1/\Is q1 fun r1:Addr=>∃t1:AV,(t1.size=35/\Cells k1 (r1.add 0) t1)/\let u1:=k1.alloc (.cells zC 53);(∃cs:AV,(.agg t1:Value)=.agg cs/\cs.size=35/\Cells u1 (r1.add 0) cs)/\(Instr.lookup 63 (.map o1) (.agg p1) false).run prog u1=.ok (.pointer q1) u1/\(∃cs:AV,(.agg p1:Value)=.agg cs/\cs.size=32/\Cells u1 e cs)/\u1.cell? (n1.add 2)=some (.map o1)/\u1.cell? a=some (.pointer m1)/\(t1.size=35/\(∀v1∈t1.toList,v1.oneCell'=true)/\∀x1,x1<35->Wr u1 ((aU k1.heap.size).add x1))/\let y1:=setCells u1 (aU k1.heap.size) t1.toList 0;∃z1:OA,∃a2 b2:Nat,y1.cell? ((aU k1.heap.size).add 33)=some (.slice z1 a2 b2)/\Holds (some l) [] prog 90 (.loop (lB (bB (cS (bB (rB (bB (sR (sL (aZ (body f112))))))))))) (af.q2 l Q) [(3,.pointer (some a)),(5,.pointer (some b)),(6,.pointer (some c)),(7,.pointer (some d)),(11,.pointer (some (aU k1.heap.size))),(65,.slice z1 a2 b2),(66,.int .i64 (a2:Int)),(67,.int .i64 0)] y1))) (let c2:=k.drew;∃d2:OA,c2.cell? a=some (.pointer d2)/\Is d2 fun e2:Addr=>∃f2:OA,c2.cell? (e2.add 1)=some (.pointer f2)/\∃g2:AV,(g2.size=32/\Cells c2 e g2)/\∃i2:AV,(i2.size=32/\Cells c2 b i2)/\bf prog 51 #[.pointer f2,.agg g2,.agg i2] c2 fun j2 k2=>∃m2:Bool,j2=.bool m2/\Split m2 (Wr k2 d/\let n2:=k2.setCell d (.bool true);Q .ret [(3,.pointer (some a)),(5,.pointer (some b)),(6,.pointer (some c)),(7,.pointer (some d)),(10,.pointer (some e))] n2) (let o2:=k2.drew;∃p2:OA,o2.cell? a=some (.pointer p2)/\Is p2 fun q2:Addr=>∃r2:Option Nat,o2.cell? (q2.add 2)=some (.map r2)/\∃t2:AV,(t2.size=32/\Cells o2 e t2)/\∃u2:OA,(Instr.lookup 63 (.map r2) (.agg t2) false).run prog o2=.ok (.pointer u2) o2/\Is u2 fun v2:Addr=>∃x2:AV,(x2.size=35/\Cells o2 (v2.add 0) x2)/\let y2:=o2.alloc (.cells zC 53);(∃cs:AV,(.agg x2:Value)=.agg cs/\cs.size=35/\Cells y2 (v2.add 0) cs)/\(Instr.lookup 63 (.map r2) (.agg t2) false).run prog y2=.ok (.pointer u2) y2/\(∃cs:AV,(.agg t2:Value)=.agg cs/\cs.size=32/\Cells y2 e cs)/\y2.cell? (q2.add 2)=some (.map r2)/\y2.cell? a=some (.pointer p2)/\(x2.size=35/\(∀z2∈x2.toList,z2.oneCell'=true)/\∀a3,a3<35->Wr y2 ((aU o2.heap.size).add a3))/\let b3:=setCells y2 (aU o2.heap.size) x2.toList 0;∃c3:OA,∃d3 e3:Nat,b3.cell? ((aU o2.heap.size).add 33)=some (.slice c3 d3 e3)/\Holds (some l) [] prog 90 (.loop (lB (bB (cS (bB (rB (bB (sR (sL (aZ (body f112))))))))))) (af.q2 l Q) [(3,.pointer (some a)),(5,.pointer (some b)),(6,.pointer (some c)),(7,.pointer (some d)),(11,.pointer (some (aU o2.heap.size))),(65,.slice c3 d3 e3),(66,.int .i64 (d3:Int)),(67,.int .i64 0)] b3))
theorem af.y1:(a8 (some l) [] prog 90 af.k (rB (bB (sR (sL (aZ (body f112)))))) [] Q [(3,.pointer (some a)),(5,.pointer (some b)),(6,.pointer (some c)),(7,.pointer (some d)),(10,.pointer (some e))] w)=af.Y1 l a b c d e Q w:=by kernel_rfl
end
section
def af.iC(a b c d:Addr)(e:Value)(ms:AV)(K:KT)(w:World):Prop:=
 Wr w d/\let f:=w.setCell d (.bool true);jG (marksOf (.agg ms)) f/\∃g:Bool,(fi (marksOf (.agg ms)) f).cell? d=some (.bool g)/\K (.bool g) (fi (marksOf (.agg ms)) f)
variable(a b c d:Addr)(e:Value)(ms:AV)(K:KT)(w:World)
theorem af.jw:(af.Bz K .normal [(3,.pointer (some a)),(5,.pointer (some b)),(6,.pointer (some c)),(7,.pointer (some d)),(36,e),(4294967296,.agg ms)] w)=af.iC a b c d e ms K w:=by kernel_rfl
end
section
def af.tw(a b c d:Addr)(e:Value)(ms:AV)(K:KT)(w:World):Prop:=
 jG (marksOf (.agg ms)) w/\∃f:Bool,(fi (marksOf (.agg ms)) w).cell? d=some (.bool f)/\K (.bool f) (fi (marksOf (.agg ms)) w)
variable(a b c d:Addr)(e:Value)(ms:AV)(K:KT)(w:World)
theorem af.x6:(af.Bz K .ret [(3,.pointer (some a)),(5,.pointer (some b)),(6,.pointer (some c)),(7,.pointer (some d)),(36,e),(4294967296,.agg ms)] w)=af.tw a b c d e ms K w:=by kernel_rfl
end
section
def af.B2(l:Nat)(a b c d e:Addr)(f:OA)(g i:Nat)(j k:Int)(Q:aM)(w:World):Prop:=
 Split (decide (k<j)) ((0<=k/\k<(g:Int))/\Is f fun m:Addr=>∃n:AV,(n.size=32/\Cells w (m.add (k.toNat*32)) n)/\let o:=w.alloc (.cells zH 24);(n.size=32/\(∀p∈n.toList,p.oneCell'=true)/\∀q,q<32->Wr o ((aU w.heap.size).add q))/\let r:=setCells o (aU w.heap.size) n.toList 0;∃t:OA,∃u v:Nat,r.cell? (e.add 34)=some (.slice t u v)/\(0<=k/\k<(u:Int))/\Is t fun x:Addr=>∃y:Bool,r.cell? (x.add (k.toNat*1))=some (.bool y)/\Split y (∃z:OA,r.cell? a=some (.pointer z)/\∃a1:AV,(a1.size=32/\Cells r (aU w.heap.size) a1)/\∃b1:AV,(b1.size=32/\Cells r b b1)/\bf prog 113 #[.pointer z,.agg a1,.agg b1] r fun c1 d1=>∃e1:Bool,c1=.bool e1/\Split e1 (∃f1:Value,d1.cell? c=some (f1)/\∃g1:AV,(g1.size=32/\Cells d1 (aU w.heap.size) g1)/\∃(i1:Nat) (j1 k1:AV) (m1:Func),(f1:Value)=.func (.func i1) j1 k1/\prog.funcs[i1]? =some m1/\m1.body.isSome=true/\bf prog i1 (j1.toList++([.agg g1]:List Value)++k1.toList).toArray d1 fun n1 o1=>∃p1:Bool,n1=.bool p1/\Split (!p1) (Wr o1 d/\let q1:=o1.setCell d (.bool false);Q .ret [(3,.pointer (some a)),(5,.pointer (some b)),(6,.pointer (some c)),(7,.pointer (some d)),(11,.pointer (some e)),(65,.slice f g i),(66,.int .i64 j),(67,.int .i64 k)] q1) (Q .normal [(3,.pointer (some a)),(5,.pointer (some b)),(6,.pointer (some c)),(7,.pointer (some d)),(11,.pointer (some e)),(65,.slice f g i),(66,.int .i64 j),(67,.int .i64 (i64.wrap (k+(1:Int))))] o1)) (Q .normal [(3,.pointer (some a)),(5,.pointer (some b)),(6,.pointer (some c)),(7,.pointer (some d)),(11,.pointer (some e)),(65,.slice f g i),(66,.int .i64 j),(67,.int .i64 (i64.wrap (k+(1:Int))))] d1)) (Q .normal [(3,.pointer (some a)),(5,.pointer (some b)),(6,.pointer (some c)),(7,.pointer (some d)),(11,.pointer (some e)),(65,.slice f g i),(66,.int .i64 j),(67,.int .i64 (i64.wrap (k+(1:Int))))] r)) (Q (.exit 4) [(3,.pointer (some a)),(5,.pointer (some b)),(6,.pointer (some c)),(7,.pointer (some d)),(11,.pointer (some e)),(65,.slice f g i),(66,.int .i64 j),(67,.int .i64 k)] w)
variable(l:Nat)(a b c d e:Addr)(f:OA)(g i:Nat)(j k:Int)(Q:aM)(w:World)
theorem af.b2:(a8 (some l) [] prog 90 af.k (lB (bB (cS (bB (rB (bB (sR (sL (aZ (body f112)))))))))) af.u2 Q [(3,.pointer (some a)),(5,.pointer (some b)),(6,.pointer (some c)),(7,.pointer (some d)),(11,.pointer (some e)),(65,.slice f g i),(66,.int .i64 j),(67,.int .i64 k)] w)=af.B2 l a b c d e f g i j k Q w:=by kernel_rfl
variable{l a b c d e f g i j}
theorem af.iK(I:Int->World->Prop)(μ:Int->World->Nat)(s:Int){Q:aM}{w:World}(h0:I s w)
 (round:∀s w,I s w->af.B2 l a b c d e f g i j s (bS (af.e2 a b c d e f g i j) I μ s w Q) w):Holds (some l) [] prog 90 (.loop (lB (bB (cS (bB (rB (bB (sR (sL (aZ (body f112))))))))))) Q (af.e2 a b c d e f g i j s) w:=
 br ng mix (af.e2 a b c d e f g i j) I μ af.k af.u2 s (fun s Q w=>af.B2 l a b c d e f g i j s Q w) (fun s Q w=>af.b2 l a b c d e f g i j s Q w) h0 round
end
section
def af.Ra(l:Nat)(a b c d e:Addr)(f:OA)(g i:Nat)(j k:Int)(Q:aM)(w:World):Prop:=
 Q .normal [] w
variable(l:Nat)(a b c d e:Addr)(f:OA)(g i:Nat)(j k:Int)(Q:aM)(w:World)
theorem af.Sz:(af.q2 l Q (.exit 4) [(3,.pointer (some a)),(5,.pointer (some b)),(6,.pointer (some c)),(7,.pointer (some d)),(11,.pointer (some e)),(65,.slice f g i),(66,.int .i64 j),(67,.int .i64 k)] w)=af.Ra l a b c d e f g i j k Q w:=by kernel_rfl
end
def ao.k:List Nat:= []
def ao.q1(K:KT):aM:=(aP 0 (ct (cS (body f72))++(aW f72)) (b6 (fun cf w_=>match cutAt ao.k (cS (body f72))with|true=>Holds none [] prog 33 (cS (body f72)) (bV prog f72 K) cf w_|false=>a8 none [] prog 33 ao.k (cS (body f72)) (aW f72) (bV prog f72 K) cf w_) (bV prog f72 K)))
def ao.e1(a:OA)(b c:Nat)(d:OA)(e f:Addr)(s:Int):Env:= [(0,.slice a b c),(1,.func (.func 73) #[.pointer d] #[]),(4,.pointer (some e)),(5,.pointer (some f)),(6,.int .i64 s)]
def ao.u1:List Nat:= [0,1,4,5,6]
section
variable(a:OA)(b d:Nat)(e:OA)(K:KT)(w:World)
def ao.W:Prop:=
 let f:=w.alloc (.cells zH 24);Split (decide ((b:Int)<(1:Int))) (False) ((0<=(0:Int)/\(0:Int)<(b:Int))/\Is a fun g:Addr=>∃i:AV,(i.size=32/\Cells f (g.add ((0:Int).toNat*32)) i)/\let j:=f.alloc (.cells zH 24);(i.size=32/\(∀k∈i.toList,k.oneCell'=true)/\∀m,m<32->Wr j ((aU f.heap.size).add m))/\let n:=setCells j (aU f.heap.size) i.toList 0;Holds none [] prog 33 (.loop (lB (bB (sR (sL (aZ (sR (body f72)))))))) (ao.q1 K) [(0,.slice a b d),(1,.func (.func 73) #[.pointer e] #[]),(4,.pointer (some (aU w.heap.size))),(5,.pointer (some (aU f.heap.size))),(6,.int .i64 1)] n)
variable{a b d e K w}
theorem ao.of(h:ao.W a b d e K w):bf prog 72 #[.slice a b d,.func (.func 73) #[.pointer e] #[]] w K:=
 rqq func72 (C:=ao.k) h
end
section
variable(a:OA)(b c:Nat)(d:OA)(e f:Addr)(g:Int)(Q:aM)(w:World)
def ao.B1:Prop:=
 Split (decide (g<(b:Int))) (let i:=w.drew;(0<=g/\g<(b:Int))/\Is a fun j:Addr=>∃k:AV,(k.size=32/\Cells i (j.add (g.toNat*32)) k)/\∃m:AV,(m.size=32/\Cells i f m)/\bf prog 73 #[.pointer d,.agg k,.agg m] i fun n o=>∃p:Int,n=.int .i64 p/\Split (decide (p>(0:Int))) ((0<=g/\g<(b:Int))/\Is a fun q:Addr=>∃r:AV,(r.size=32/\Cells o (q.add (g.toNat*32)) r)/\(r.size=32/\(∀t∈r.toList,t.oneCell'=true)/\∀u,u<32->Wr o (f.add u))/\let v:=setCells o f r.toList 0;Q .normal [(0,.slice a b c),(1,.func (.func 73) #[.pointer d] #[]),(4,.pointer (some e)),(5,.pointer (some f)),(6,.int .i64 (i64.wrap (g+(1:Int))))] v) (Q .normal [(0,.slice a b c),(1,.func (.func 73) #[.pointer d] #[]),(4,.pointer (some e)),(5,.pointer (some f)),(6,.int .i64 (i64.wrap (g+(1:Int))))] o)) (Q (.exit 0) [(0,.slice a b c),(1,.func (.func 73) #[.pointer d] #[]),(4,.pointer (some e)),(5,.pointer (some f)),(6,.int .i64 g)] w)
theorem ao.b1:(a8 none [] prog 33 ao.k (lB (bB (sR (sL (aZ (sR (body f72))))))) ao.u1 Q [(0,.slice a b c),(1,.func (.func 73) #[.pointer d] #[]),(4,.pointer (some e)),(5,.pointer (some f)),(6,.int .i64 g)] w)=ao.B1 a b c d e f g Q w:=by kernel_rfl
variable{a b c d e f}
theorem ao.b9(I:Int->World->Prop)(μ:Int->World->Nat)(s:Int){Q:aM}{w:World}(h0:I s w)
 (round:∀s w,I s w->ao.B1 a b c d e f s (bS (ao.e1 a b c d e f) I μ s w Q) w):Holds none [] prog 33 (.loop (lB (bB (sR (sL (aZ (sR (body f72)))))))) Q (ao.e1 a b c d e f s) w:=
 br ng mix (ao.e1 a b c d e f) I μ ao.k ao.u1 s (fun s Q w=>ao.B1 a b c d e f s Q w) (fun s Q w=>ao.b1 a b c d e f s Q w) h0 round
end
section
def ao.cU(a:OA)(b c:Nat)(d:OA)(e f:Addr)(g:Int)(K:KT)(w:World):Prop:=
 ∃i:AV,(i.size=32/\Cells w f i)/\(i.size=32/\(∀j∈i.toList,j.oneCell'=true)/\∀k,k<32->Wr w (e.add k))/\let m:=setCells w e i.toList 0;∃n:AV,(n.size=32/\Cells m e n)/\K (.agg n) m
variable(a:OA)(b c:Nat)(d:OA)(e f:Addr)(g:Int)(K:KT)(w:World)
theorem ao.dw:(ao.q1 K (.exit 0) [(0,.slice a b c),(1,.func (.func 73) #[.pointer d] #[]),(4,.pointer (some e)),(5,.pointer (some f)),(6,.int .i64 g)] w)=ao.cU a b c d e f g K w:=by kernel_rfl
end
def bL.k:List Nat:= []
section
variable(a:OA)(b d:Nat)(e:Addr)(K:KT)(w:World)
def bL.W:Prop:=
 bf prog 91 #[.slice a b d,.func (.func 105) #[] #[.pointer (some e)]] w fun f g=>∃i:Int,f=.int .i64 i/\K (.bool (decide (i>=(0:Int)))) g
variable{a b d e K w}
theorem bL.of(h:bL.W a b d e K w):bf prog 68 #[.slice a b d,.func (.func 105) #[] #[.pointer (some e)]] w K:=
 rqq func68 (C:=bL.k) h
end
def an.k:List Nat:= []
def an.q1(K:KT):aM:=(aP 0 (ct (aZ (body f91))++(aW f91)) (b6 (fun cf w_=>match cutAt an.k (aZ (body f91))with|true=>Holds none [] prog 19 (aZ (body f91)) (bV prog f91 K) cf w_|false=>a8 none [] prog 19 an.k (aZ (body f91)) (aW f91) (bV prog f91 K) cf w_) (bV prog f91 K)))
def an.e1(a:OA)(b c:Nat)(d:Addr)(e:Int)(s:Int×Int):Env:= [(0,.slice a b c),(1,.func (.func 105) #[] #[.pointer (some d)]),(4,.int .i64 s.1),(7,.int .i64 e),(8,.int .i64 s.2)]
def an.u1:List Nat:= [0,1,4,7,8]
section
variable(a:OA)(b d:Nat)(e:Addr)(K:KT)(w:World)
def an.W:Prop:=
 Holds none [] prog 19 (.loop (lB (bB (sR (sL (sR (body f91))))))) (an.q1 K) [(0,.slice a b d),(1,.func (.func 105) #[] #[.pointer (some e)]),(4,.int .i64 0),(7,.int .i64 (b:Int)),(8,.int .i64 0)] w
variable{a b d e K w}
theorem an.of(h:an.W a b d e K w):bf prog 91 #[.slice a b d,.func (.func 105) #[] #[.pointer (some e)]] w K:=
 rqq func91 (C:=an.k) h
end
section
variable(a:OA)(b c:Nat)(d:Addr)(e f g:Int)(Q:aM)(w:World)
def an.B1:Prop:=
 Split (decide (g<f)) ((0<=g/\g<(b:Int))/\Is a fun i:Addr=>∃j:AV,(j.size=32/\Cells w (i.add (g.toNat*32)) j)/\bf prog 105 #[.agg j,.pointer (some d)] w fun k m=>∃n:Bool,k=.bool n/\Split n (Q .ret [(0,.slice a b c),(1,.func (.func 105) #[] #[.pointer (some d)]),(4,.int .i64 g),(7,.int .i64 f),(8,.int .i64 g)] m) (Q .normal [(0,.slice a b c),(1,.func (.func 105) #[] #[.pointer (some d)]),(4,.int .i64 e),(7,.int .i64 f),(8,.int .i64 (i64.wrap (g+(1:Int))))] m)) (Q (.exit 0) [(0,.slice a b c),(1,.func (.func 105) #[] #[.pointer (some d)]),(4,.int .i64 e),(7,.int .i64 f),(8,.int .i64 g)] w)
theorem an.b1:(a8 none [] prog 19 an.k (lB (bB (sR (sL (sR (body f91)))))) an.u1 Q [(0,.slice a b c),(1,.func (.func 105) #[] #[.pointer (some d)]),(4,.int .i64 e),(7,.int .i64 f),(8,.int .i64 g)] w)=an.B1 a b c d e f g Q w:=by kernel_rfl
variable{a b c d f}
theorem an.b9(I:Int×Int->World->Prop)(μ:Int×Int->World->Nat)(s:Int×Int){Q:aM}{w:World}(h0:I s w)
 (round:∀s w,I s w->an.B1 a b c d (s.1) f (s.2) (bS (an.e1 a b c d f) I μ s w Q) w):Holds none [] prog 19 (.loop (lB (bB (sR (sL (sR (body f91))))))) Q (an.e1 a b c d f s) w:=
 br ng mix (an.e1 a b c d f) I μ an.k an.u1 s (fun s Q w=>an.B1 a b c d (s.1) f (s.2) Q w) (fun s Q w=>an.b1 a b c d (s.1) f (s.2) Q w) h0 round
end
section
def an.cU(a:OA)(b c:Nat)(d:Addr)(e f g:Int)(K:KT)(w:World):Prop:=
 K (.int .i64 (-1)) w
variable(a:OA)(b c:Nat)(d:Addr)(e f g:Int)(K:KT)(w:World)
theorem an.dw:(an.q1 K (.exit 0) [(0,.slice a b c),(1,.func (.func 105) #[] #[.pointer (some d)]),(4,.int .i64 e),(7,.int .i64 f),(8,.int .i64 g)] w)=an.cU a b c d e f g K w:=by kernel_rfl
end
section
variable(a:OA)(b:AV)(d:OA)(e f:Nat)(K:KT)(w:World)
variable{a b d e f K w}
end
section
variable(a b:OA)(c d:Nat)(e f:Addr)(g:OA)(i j:Nat)(k:Addr)(K:KT)(w:World)
variable{a b c d e f g i j k K w}
end
section
variable(a b:OA)(c d:Nat)(e f:Addr)(g:OA)(i j:Nat)(k:Addr)(m:OA)(n o:Nat)(K:KT)(w:World)
variable{a b c d e f g i j k m n o K w}
end
section
variable(a:OA)(b c:Addr)(d:OA)(e f:Nat)(g:Addr)(i:OA)(j k:Nat)(m:OA)(n o:Nat)(p:Int)(Q:aM)(w:World)
variable{a b c d e f g i j k m n o}
end
section
variable(a:OA)(b c:Addr)(d:OA)(e f:Nat)(g:Addr)(i:OA)(j k:Nat)(m:OA)(n o:Nat)(p:Int)(K:KT)(w:World)
end
section
variable(a:OA)(b c:Addr)(d:OA)(e f:Nat)(g:Addr)(i:OA)(j k:Nat)(m:OA)(n o:Nat)(p:Int)(q:Addr)(r:Int)(Q:aM)(w:World)
variable{a b c d e f g i j k m n o p q}
end
section
variable(a:OA)(b c:Addr)(d:OA)(e f:Nat)(g:Addr)(i:OA)(j k:Nat)(m:OA)(n o:Nat)(p:Int)(q:Addr)(r:Int)(Q:aM)(w:World)
end
section
variable(a:OA)(b:Addr)(c:OA)(d e:Nat)(f:Addr)(g:OA)(i j:Nat)(k:Int)(Q:aM)(w:World)
variable{a b c d e f}
end
section
variable(a:OA)(b:Addr)(c:OA)(d e:Nat)(f:Addr)(g:OA)(i j:Nat)(k:Int)(K:KT)(w:World)
end
section
variable(a:OA)(b:Addr)(c:OA)(d e:Nat)(f:Addr)(g:OA)(i j:Nat)(k:Int)(m:OA)(n o:Nat)(p:Bool)(q:Int)(Q:aM)(w:World)
variable{a b c d e f g i j k m n o}
end
section
variable(a:OA)(b:Addr)(c:OA)(d e:Nat)(f:Addr)(g:OA)(i j:Nat)(k:Int)(m:OA)(n o:Nat)(p:Bool)(q:Int)(Q:aM)(w:World)
end
section
variable(a:OA)(b:AV)(K:KT)(w:World)
variable{a b K w}
end
section
variable(a b:OA)(c d:Nat)(e:OA)(f g:Nat)(i:OA)(j k:Nat)(m:Int)(Q:aM)(w:World)
variable{a b c d i j k}
end
section
variable(a b:OA)(c d:Nat)(e:OA)(f g:Nat)(i:OA)(j k:Nat)(m:Int)(K:KT)(w:World)
end
section
variable(a b:OA)(d e:Nat)(K:KT)(w:World)
variable{a b d e K w}
end
section
variable(a b:OA)(c d:Nat)(e f:Int)(Q:aM)(w:World)
variable{a b c d}
end
section
variable(a b:OA)(c d:Nat)(e f:Int)(K:KT)(w:World)
end
section
variable(a:Int)(b:AV)(K:KT)(w:World)
variable{a b K w}
end
section
variable(a:OA)(b:AV)(d:OA)(e f:Nat)(K:KT)(w:World)
variable{a b d e f K w}
end
section
variable(a:OA)(b d:AV)(K:KT)(w:World)
variable{a b d K w}
end
section
variable(a:OA)(b:AV)(K:KT)(w:World)
variable{a b K w}
end
section
variable(a b:OA)(d e:Nat)(f:AV)(K:KT)(w:World)
variable{a b d e f K w}
end
section
variable(a b:OA)(c d:Nat)(e:Addr)(f:OA)(g i:Nat)(j:OA)(k m:Nat)(n:Int)(Q:aM)(w:World)
variable{a b c d e f g i}
end
section
variable(a b:OA)(c d:Nat)(e:Addr)(f:OA)(g i:Nat)(j:OA)(k m:Nat)(n:Int)(K:KT)(w:World)
end
section
variable(a b:OA)(d e:Nat)(K:KT)(w:World)
variable{a b d e K w}
end
section
variable(a b:OA)(c d:Nat)(e f:Addr)(g:Int)(Q:aM)(w:World)
variable{a b c d e f}
end
section
variable(a b:OA)(c d:Nat)(e f:Addr)(g:Int)(K:KT)(w:World)
end
section
variable(a:OA)(b:AV)(K:KT)(w:World)
variable{a b K w}
end
section
variable(a:OA)(b:AV)(K:KT)(w:World)
variable{a b K w}
end
section
variable(a:OA)(b:AV)(d:OA)(e f:Nat)(K:KT)(w:World)
variable{a b d e f K w}
end
section
variable(a:OA)(b d:AV)(K:KT)(w:World)
variable{a b d K w}
end
section
variable(a b:OA)(d e:Nat)(K:KT)(w:World)
variable{a b d e K w}
end
section
variable(a:OA)(b:Int)(c:OA)(d e:Nat)(f g:Int)(Q:aM)(w:World)
variable{a c d e f}
end
section
variable(a:OA)(b:Int)(c:OA)(d e:Nat)(f g:Int)(K:KT)(w:World)
end
section
variable(a:OA)(b:AV)(K:KT)(w:World)
variable{a b K w}
end
section
variable(a:OA)(b d:Nat)(K:KT)(w:World)
variable{a b d K w}
end
section
variable(a:OA)(b c:Nat)(d e:Int)(Q:aM)(w:World)
variable{a b c}
end
section
variable(a:OA)(b c:Nat)(d e:Int)(K:KT)(w:World)
end
section
variable(a:Nat)(b d:Addr)(K:KT)(w:World)
variable{a b d K w}
end
section
variable(a:Nat)(b:Addr)(c:OA)(d e:Nat)(f g:Int)(Q:aM)(w:World)
variable{a b c d e f}
end
section
variable(a:Nat)(b:Addr)(c:OA)(d e:Nat)(f g:Int)(K:KT)(w:World)
end
section
variable(a:OA)(b:AV)(K:KT)(w:World)
variable{a b K w}
end
section
variable(l:Nat)(a:OA)(b c:Nat)(d:Int)(e:Addr)(f:Value)(g:AV)(i:OA)(j k:Nat)(Q:aM)(w:World)
end
section
variable(l:Nat)(a:Addr)(b:OA)(c d:Nat)(Q:aM)(w:World)
end
section
variable(a:OA)(b c:Nat)(d:Int)(e:Addr)(f:Value)(ms:AV)(K:KT)(w:World)
end
section
variable(a:OA)(b d:AV)(K:KT)(w:World)
variable{a b d K w}
end
section
variable(l:Nat)(a b c:Addr)(d:Value)(e:AV)(f:OA)(g i:Nat)(Q:aM)(w:World)
end
section
variable(l:Nat)(a b c d:Addr)(e:OA)(f g:Nat)(Q:aM)(w:World)
end
section
variable(a b c:Addr)(d:Value)(ms:AV)(K:KT)(w:World)
end
section
variable(a b c:Addr)(d:Value)(ms:AV)(K:KT)(w:World)
end
section
variable(a:Int)(b:AV)(d:OA)(e f:Nat)(K:KT)(w:World)
variable{a b d e f K w}
end
section
variable(a:Bool)(b c:OA)(d:Int)(Q:aM)(w:World)
variable{b c}
end
section
variable(a:Bool)(b c:OA)(d:Int)(K:KT)(w:World)
end
section
variable(a:Bool)(b c:OA)(d:Int)(e:Addr)(f:OA)(g i:Nat)(j:Int)(Q:aM)(w:World)
variable{b c d e f g i}
end
section
variable(a:Bool)(b c:OA)(d:Int)(e:Addr)(f:OA)(g i:Nat)(j:Int)(Q:aM)(w:World)
end
section
variable(a:Bool)(b c:OA)(d:Int)(e:Addr)(f:OA)(g i:Nat)(j k:Int)(Q:aM)(w:World)
variable{b c d e f g i j}
end
section
variable(a:Bool)(b c:OA)(d:Int)(e:Addr)(f:OA)(g i:Nat)(j k:Int)(Q:aM)(w:World)
end
section
variable(a:Bool)(b c:OA)(d:Int)(e:OA)(f g:Nat)(i:OA)(j k:Nat)(m:Int)(Q:aM)(w:World)
variable{b c d e f g i j k}
end
section
variable(a:Bool)(b c:OA)(d:Int)(e:OA)(f g:Nat)(i:OA)(j k:Nat)(m:Int)(Q:aM)(w:World)
end
section
variable(a:Int)(b:AV)(d:OA)(e f:Nat)(g:AV)(i:OA)(j k:Nat)(K:KT)(w:World)
variable{a b d e f g i j k K w}
end
section
variable(a:Int)(b:AV)(d:OA)(e f:Nat)(K:KT)(w:World)
variable{a b d e f K w}
end
section
variable(a:Bool)(b c:OA)(d:Int)(Q:aM)(w:World)
variable{b c}
end
section
variable(a:Bool)(b c:OA)(d:Int)(K:KT)(w:World)
end
section
variable(a:Bool)(b c:OA)(d:Int)(e:Addr)(f:OA)(g i:Nat)(j:OA)(k m:Nat)(n:Int)(Q:aM)(w:World)
variable{b c d e f g i j k m}
end
section
variable(a:Bool)(b c:OA)(d:Int)(e:Addr)(f:OA)(g i:Nat)(j:OA)(k m:Nat)(n:Int)(Q:aM)(w:World)
end
section
variable(a:Bool)(b c:OA)(d:Int)(e:Addr)(f:OA)(g i:Nat)(j:OA)(k m:Nat)(n:Int)(o:Addr)(p q:Int)(Q:aM)(w:World)
variable{a b c d e f g i j k m n o}
end
section
variable(a:Bool)(b c:OA)(d:Int)(e:Addr)(f:OA)(g i:Nat)(j:OA)(k m:Nat)(n:Int)(o:Addr)(p q:Int)(Q:aM)(w:World)
end
section
variable(a:Int)(b:AV)(d:OA)(e f:Nat)(K:KT)(w:World)
variable{a b d e f K w}
end
section
variable(a:Int)(b:OA)(c d:Nat)(e:Addr)(f g:OA)(i j:Bool)(k:Int)(Q:aM)(w:World)
variable{a b c d e}
end
section
variable(a:Int)(b:OA)(c d:Nat)(e:Addr)(f g:OA)(i j:Bool)(k:Int)(K:KT)(w:World)
end
section
variable(a:OA)(b c:Nat)(d e:OA)(f g:Bool)(i j:OA)(k:Int)(Q:aM)(w:World)
variable{a b c i j}
end
section
variable(a:OA)(b c:Nat)(d e:OA)(f g:Bool)(i j:OA)(k:Int)(K:KT)(w:World)
end
section
variable(a:OA)(b c:Nat)(d e:OA)(f g:Bool)(i j:OA)(k m:Int)(Q:aM)(w:World)
variable{a b c d e f g i j k m Q w}
end
section
variable(a:OA)(b c:Nat)(d e:OA)(f g:Bool)(i j:OA)(k m n:Int)(Q:aM)(w:World)
variable{a b c d e f g i j k m n Q w}
end
section
variable(K:KT)(w:World)
variable{K w}
end
section
variable(a:OA)(b d:Nat)(K:KT)(w:World)
variable{a b d K w}
end
section
variable(a:OA)(b c:Nat)(d:OA)(e f:Nat)(g:OA)(i j:Nat)(k:Int)(Q:aM)(w:World)
variable{a b c d e f}
end
section
variable(a:OA)(b c:Nat)(d:OA)(e f:Nat)(g:OA)(i j:Nat)(k:Int)(K:KT)(w:World)
end
section
variable(a:Int)(b:AV)(d:OA)(e f:Nat)(g:AV)(K:KT)(w:World)
variable{a b d e f g K w}
end
section
variable(a:Addr)(b:OA)(c:Addr)(d:OA)(e f:Nat)(g:Int)(Q:aM)(w:World)
variable{a b c}
end
section
variable(a:Addr)(b:OA)(c:Addr)(d:OA)(e f:Nat)(g:Int)(K:KT)(w:World)
end
section
variable(a:Addr)(b:OA)(c:Addr)(d:OA)(e f:Nat)(g:Int)(i:AV)(Q:aM)(w:World)
variable{a b c d e f}
end
section
variable(a:Addr)(b:OA)(c:Addr)(d:OA)(e f:Nat)(g:Int)(i:AV)(K:KT)(w:World)
end
section
variable(a:Addr)(b:OA)(c:Addr)(d:OA)(e f:Nat)(g:Int)(i j:Addr)(k:AV)(Q:aM)(w:World)
variable{a b c d e f g i j k Q w}
end
section
variable(l:Nat)(a:Addr)(b:OA)(c:Addr)(d:OA)(e f:Nat)(g:Int)(i j:Addr)(k:OA)(m n:Nat)(o:Int)(p:OA)(q r:Nat)(t:Int)(u v:Addr)(x:Value)(y:AV)(z:OA)(aa ba:Nat)(Q:aM)(w:World)
end
section
variable(l:Nat)(a b c d e f:Addr)(g:OA)(i j:Nat)(Q:aM)(w:World)
end
section
variable(a:Addr)(b:OA)(c:Addr)(d:OA)(e f:Nat)(g:Int)(i j:Addr)(k:OA)(m n:Nat)(o:Int)(p:OA)(q r:Nat)(t:Int)(u v:Addr)(x:Value)(y ms:AV)(Q:aM)(w:World)
end
section
variable(a:Addr)(b:OA)(c:Addr)(d:OA)(e f:Nat)(g:Int)(i j:Addr)(k:OA)(m n:Nat)(o:Int)(p:OA)(q r:Nat)(t:Int)(u v:Addr)(x:Value)(y ms:AV)(Q:aM)(w:World)
end
abbrev CN(v:Value):Array Value:= #[v,.int .u8 0,.int .u8 0,.int .u8 0,.int .u8 0,.int .u8 0,.int .u8 0,.int .u8 0,.int .u8 0,.int .u8 0,.int .u8 0,.int .u8 0,.int .u8 0,.int .u8 0,.int .u8 0,.int .u8 0,.int .u8 0,.int .u8 0,.int .u8 0,.int .u8 0,.int .u8 0,.int .u8 0,.int .u8 0,.int .u8 0,.int .u8 0,.int .u8 0,.int .u8 0,.int .u8 0,.int .u8 0,.int .u8 0,.int .u8 0,.int .u8 0,.int .u8 0,.int .u8 0,.int .u8 0,.int .u8 0,.int .u8 0,.int .u8 0,.int .u8 0,.int .u8 0,.int .u8 0,.int .u8 0,.int .u8 0,.int .u8 0,.int .u8 0,.int .u8 0,.int .u8 0,.int .u8 0,.int .u8 0,.int .u8 0,.int .u8 0,.int .u8 0,.int .u8 0,.int .u8 0,.int .u8 0,.int .u8 0,.int .u8 0,.int .u8 0,.int .u8 0,.int .u8 0,.int .u8 0,.int .u8 0,.int .u8 0,.int .u8 0,.int .u8 0,.int .u8 0,.int .u8 0,.int .u8 0,.int .u8 0,.int .u8 0,.int .u8 0,.int .u8 0,.int .u8 0,.int .u8 0,.int .u8 0,.int .u8 0,.int .u8 0,.int .u8 0,.int .u8 0,.int .u8 0,.int .u8 0,.int .u8 0,.int .u8 0,.int .u8 0,.int .u8 0,.int .u8 0,.int .u8 0,.int .u8 0,.int .u8 0,.int .u8 0,.int .u8 0,.int .u8 0,.int .u8 0,.int .u8 0,.int .u8 0,.int .u8 0,.int .u8 0,.int .u8 0,.int .u8 0,.int .u8 0,.int .u8 0,.int .u8 0,.int .u8 0,.int .u8 0,.int .u8 0,.int .u8 0,.int .u8 0,.int .u8 0,.int .u8 0,.int .u8 0,.int .u8 0,.int .u8 0,.int .u8 0,.int .u8 0,.int .u8 0,.int .u8 0,.int .u8 0,.int .u8 0,.int .u8 0,.int .u8 0,.int .u8 0,.int .u8 0,.int .u8 0,.int .u8 0,.int .u8 0,.int .u8 0,.int .u8 0,.int .u8 0,.int .u8 0,.int .u64 0]
def nJ.k:List Nat:= [16,17]
def nJ.q1(K:KT):aM:=(aP 0 (ct (aZ (sR (body f12)))++(aW f12)) (b6 (fun cf w_=>match cutAt nJ.k (aZ (sR (body f12)))with|true=>Holds none [] prog 99 (aZ (sR (body f12))) (bV prog f12 K) cf w_|false=>a8 none [] prog 99 nJ.k (aZ (sR (body f12))) (aW f12) (bV prog f12 K) cf w_) (bV prog f12 K)))
section
variable(a:Int)(b:AV)(d:OA)(e f:Nat)(K:KT)(w:World)
variable{a b d e f K w}
end
section
variable(a:Int)(b:OA)(c d:Nat)(e:Addr)(f g:OA)(i j:Bool)(k:Int)(Q:aM)(w:World)
variable{a b c d e}
end
section
variable(a:Int)(b:OA)(c d:Nat)(e:Addr)(f g:OA)(i j:Bool)(k:Int)(K:KT)(w:World)
end
section
variable(a:OA)(b c:Nat)(d e:OA)(f g:Bool)(i j:OA)(k:Int)(Q:aM)(w:World)
variable{a b c i j}
end
section
variable(a:OA)(b c:Nat)(d e:OA)(f g:Bool)(i j:OA)(k:Int)(K:KT)(w:World)
end
section
variable(a:OA)(b c:Nat)(d e:OA)(f g:Bool)(i j:OA)(k m:Int)(Q:aM)(w:World)
variable{a b c d e f g i j k m Q w}
end
section
variable(a:OA)(b c:Nat)(d e:OA)(f g:Bool)(i j:OA)(k m n:Int)(Q:aM)(w:World)
variable{a b c d e f g i j k m n Q w}
end
def gz.k:List Nat:= []
section
variable(K:KT)(w:World)
def gz.W:Prop:=
 let a:=w.alloc (.cells zH 24);let b:=a.alloc (.cells zH 24);let d:=b.alloc (.cells zH 24);((yM 1).size=32/\(∀e∈(yM 1).toList,e.oneCell'=true)/\∀f,f<32->Wr d ((aU w.heap.size).add f))/\let g:=setCells d (aU w.heap.size) (yM 1).toList 0;((yM 2).size=32/\(∀i∈(yM 2).toList,i.oneCell'=true)/\∀j,j<32->Wr g ((aU a.heap.size).add j))/\let k:=setCells g (aU a.heap.size) (yM 2).toList 0;((yM 3).size=32/\(∀m∈(yM 3).toList,m.oneCell'=true)/\∀n,n<32->Wr k ((aU b.heap.size).add n))/\let o:=setCells k (aU b.heap.size) (yM 3).toList 0;∃p:AV,(p.size=32/\Cells o (aU w.heap.size) p)/\bf prog 42 #[.int .i64 2,.agg p] o fun q r=>∃t:OA,∃u:Int,q=.tuple #[.pointer t,.int .i64 u]/\Split (u != (0:Int)) (K (.bool false) r) (Split ((t).isNone) (K (.bool false) r) (∃v:AV,(v.size=32/\Cells r (aU a.heap.size) v)/\∃x:AV,(x.size=32/\Cells r (aU w.heap.size) x)/\x.size=32/\let y:=r.alloc (.cells (x.toList++ []).toArray 24);bf prog 41 #[.pointer t,.agg v,.slice (some (aU r.heap.size)) 1 1] y fun z aa=>∃ba:AV,∃ca:Int,z=.tuple #[.agg ba,.int .i64 ca]/\∃da:AV,(da.size=32/\Cells aa (aU b.heap.size) da)/\∃ea:AV,(ea.size=32/\Cells aa (aU a.heap.size) ea)/\ea.size=32/\let fa:=aa.alloc (.cells (ea.toList++ []).toArray 24);bf prog 41 #[.pointer t,.agg da,.slice (some (aU aa.heap.size)) 1 1] fa fun ga ia=>∃ja:AV,∃ka:Int,ga=.tuple #[.agg ja,.int .i64 ka]/\let ma:=ia.drew;∃na:AV,(na.size=32/\Cells ma (aU a.heap.size) na)/\∃oa:AV,(oa.size=32/\Cells ma (aU b.heap.size) oa)/\(bf prog 22 #[] ma fun pa qa=>∃ra:AV,pa=.agg ra/\(∃cs:AV,(.agg oa:Value)=.agg cs/\cs.size=32/\Cells qa (aU b.heap.size) cs)/\(∃cs:AV,(.agg na:Value)=.agg cs/\cs.size=32/\Cells qa (aU a.heap.size) cs)/\na.size=32/\oa.size=32/\let ta:=qa.alloc (.cells (na.toList++(oa.toList++([]))).toArray 24);bf prog 20 #[.agg ra,.pointer t,.agg (CN (.slice (some (aU qa.heap.size)) 2 2))] ta fun ua va=>∃xa:OA,∃ya za:Nat,∃ae:Int,ua=.tuple #[.slice xa ya za,.int .i64 ae]/\let be:=va.drew;∃ce:AV,(ce.size=32/\Cells be (aU b.heap.size) ce)/\(bf prog 22 #[] be fun de ee=>∃fe:AV,de=.agg fe/\(∃cs:AV,(.agg ce:Value)=.agg cs/\cs.size=32/\Cells ee (aU b.heap.size) cs)/\ce.size=32/\let ge:=ee.alloc (.cells (ce.toList++ []).toArray 24);bf prog 20 #[.agg fe,.pointer t,.agg (CN (.slice (some (aU ee.heap.size)) 1 1))] ge fun ie je=>∃ke:OA,∃me ne:Nat,∃oe:Int,ie=.tuple #[.slice ke me ne,.int .i64 oe]/\Split (ae==(9:Int)) (Split (oe==(0:Int)) (bf prog 22 #[] je fun pe qe=>∃re:AV,pe=.agg re/\bf prog 40 #[.agg re] qe fun te ue=>∃ve:Bool,te=.bool ve/\K (.bool ve) ue) (K (.bool false) je)) (K (.bool false) je))/\(ce.size=32/\let xe:=be.alloc (.cells (ce.toList++ []).toArray 24);bf prog 22 #[] xe fun ye ze=>∃aj:AV,ye=.agg aj/\bf prog 20 #[.agg aj,.pointer t,.agg (CN (.slice (some (aU be.heap.size)) 1 1))] ze fun bj cj=>∃dj:OA,∃ej fj:Nat,∃gj:Int,bj=.tuple #[.slice dj ej fj,.int .i64 gj]/\Split (ae==(9:Int)) (Split (gj==(0:Int)) (bf prog 22 #[] cj fun ij jj=>∃kj:AV,ij=.agg kj/\bf prog 40 #[.agg kj] jj fun mj nj=>∃oj:Bool,mj=.bool oj/\K (.bool oj) nj) (K (.bool false) cj)) (K (.bool false) cj)))/\(na.size=32/\oa.size=32/\let pj:=ma.alloc (.cells (na.toList++(oa.toList++([]))).toArray 24);bf prog 22 #[] pj fun qj rj=>∃tj:AV,qj=.agg tj/\bf prog 20 #[.agg tj,.pointer t,.agg (CN (.slice (some (aU ma.heap.size)) 2 2))] rj fun uj vj=>∃xj:OA,∃yj zj:Nat,∃ak:Int,uj=.tuple #[.slice xj yj zj,.int .i64 ak]/\let bk:=vj.drew;∃ck:AV,(ck.size=32/\Cells bk (aU b.heap.size) ck)/\(bf prog 22 #[] bk fun dk ek=>∃fk:AV,dk=.agg fk/\(∃cs:AV,(.agg ck:Value)=.agg cs/\cs.size=32/\Cells ek (aU b.heap.size) cs)/\ck.size=32/\let gk:=ek.alloc (.cells (ck.toList++ []).toArray 24);bf prog 20 #[.agg fk,.pointer t,.agg (CN (.slice (some (aU ek.heap.size)) 1 1))] gk fun ik jk=>∃kk:OA,∃mk nk:Nat,∃ok:Int,ik=.tuple #[.slice kk mk nk,.int .i64 ok]/\Split (ak==(9:Int)) (Split (ok==(0:Int)) (bf prog 22 #[] jk fun pk qk=>∃rk:AV,pk=.agg rk/\bf prog 40 #[.agg rk] qk fun tk uk=>∃vk:Bool,tk=.bool vk/\K (.bool vk) uk) (K (.bool false) jk)) (K (.bool false) jk))/\(ck.size=32/\let xk:=bk.alloc (.cells (ck.toList++ []).toArray 24);bf prog 22 #[] xk fun yk zk=>∃aq:AV,yk=.agg aq/\bf prog 20 #[.agg aq,.pointer t,.agg (CN (.slice (some (aU bk.heap.size)) 1 1))] zk fun bq cq=>∃dq:OA,∃eq fq:Nat,∃gq:Int,bq=.tuple #[.slice dq eq fq,.int .i64 gq]/\Split (ak==(9:Int)) (Split (gq==(0:Int)) (bf prog 22 #[] cq fun iq jq=>∃kq:AV,iq=.agg kq/\bf prog 40 #[.agg kq] jq fun mq nq=>∃oq:Bool,mq=.bool oq/\K (.bool oq) nq) (K (.bool false) cq)) (K (.bool false) cq)))))
variable{K w}
theorem gz.of(h:gz.W K w):bf prog 13 #[] w K:=
 rqq func13 (C:=gz.k) h
end
def fL.k:List Nat:= []
section
variable(a:AV)(K:KT)(w:World)
def fL.W:Prop:=
 let b:=w.alloc (.cells a 26);∃d:Int,b.cell? ((aU w.heap.size).add 0)=some (.int .i64 d)/\Split (decide (d<(0:Int))) (K (.bool false) b) (∃e:Int,b.cell? ((aU w.heap.size).add 0)=some (.int .i64 e)/\Split (decide (e>(100:Int))) (K (.bool false) b) (∃f:Int,b.cell? ((aU w.heap.size).add 1)=some (.int .i64 f)/\Split (decide (f<(1:Int))) (K (.bool false) b) (∃g:Int,b.cell? ((aU w.heap.size).add 1)=some (.int .i64 g)/\Split (decide (g>(20:Int))) (K (.bool false) b) (∃i:Int,b.cell? ((aU w.heap.size).add 2)=some (.int .i64 i)/\Split (decide (i<(1:Int))) (K (.bool false) b) (∃j:Int,b.cell? ((aU w.heap.size).add 2)=some (.int .i64 j)/\Split (decide (j>(1000:Int))) (K (.bool false) b) (∃k:Int,b.cell? ((aU w.heap.size).add 3)=some (.int .i64 k)/\Split (decide (k<(0:Int))) (K (.bool false) b) (∃m:Int,b.cell? ((aU w.heap.size).add 3)=some (.int .i64 m)/\Split (decide (m>(2147483647:Int))) (K (.bool false) b) (∃n:Int,b.cell? ((aU w.heap.size).add 4)=some (.int .i64 n)/\Split (decide (n<(0:Int))) (K (.bool false) b) (∃o:Int,b.cell? ((aU w.heap.size).add 4)=some (.int .i64 o)/\Split (decide (o>(2147483647:Int))) (K (.bool false) b) (∃p:Int,b.cell? ((aU w.heap.size).add 5)=some (.int .i64 p)/\Split (decide (p<(0:Int))) (K (.bool false) b) (∃q:Int,b.cell? ((aU w.heap.size).add 5)=some (.int .i64 q)/\Split (decide (q>(2147483647:Int))) (K (.bool false) b) (∃r:Int,b.cell? ((aU w.heap.size).add 6)=some (.int .u64 r)/\Split (decide (r>(1099511627776:Int))) (K (.bool false) b) (∃t:Int,b.cell? ((aU w.heap.size).add 7)=some (.int .i64 t)/\Split (decide (t<(0:Int))) (K (.bool false) b) (∃u:Int,b.cell? ((aU w.heap.size).add 7)=some (.int .i64 u)/\Split (decide (u>(100000:Int))) (K (.bool false) b) (∃v:Int,b.cell? ((aU w.heap.size).add 8)=some (.int .i64 v)/\Split (decide (v<(0:Int))) (K (.bool false) b) (∃x:Int,b.cell? ((aU w.heap.size).add 8)=some (.int .i64 x)/\Split (decide (x>(100000:Int))) (K (.bool false) b) (∃y:Int,b.cell? ((aU w.heap.size).add 4)=some (.int .i64 y)/\Split (y==(0:Int)) (K (.bool true) b) (∃z:Int,b.cell? ((aU w.heap.size).add 3)=some (.int .i64 z)/\Split (decide (z>(0:Int))) (∃aa:Int,b.cell? ((aU w.heap.size).add 4)=some (.int .i64 aa)/\∃ba:Int,b.cell? ((aU w.heap.size).add 3)=some (.int .i64 ba)/\Split (decide (aa>ba)) (∃ca:Int,b.cell? ((aU w.heap.size).add 4)=some (.int .i64 ca)/\∃da:Int,b.cell? ((aU w.heap.size).add 2)=some (.int .i64 da)/\K (.bool (decide (ca>da))) b) (K (.bool false) b)) (K (.bool false) b)))))))))))))))))))
variable{a K w}
theorem fL.of(h:fL.W a K w):bf prog 15 #[.agg a] w K:=
 rqq func15 (C:=fL.k) h
end
def aC.k:List Nat:= [7]
def aC.q1(K:KT):aM:=(aP 0 (ct (cS (body Tryz.f20))++(aW Tryz.f20)) (b6 (fun cf w_=>match cutAt aC.k (cS (body Tryz.f20))with|true=>Holds none [] prog 36 (cS (body Tryz.f20)) (bV prog Tryz.f20 K) cf w_|false=>a8 none [] prog 36 aC.k (cS (body Tryz.f20)) (aW Tryz.f20) (bV prog Tryz.f20 K) cf w_) (bV prog Tryz.f20 K)))
def aC.e1(a:Addr)(b:OA)(c d:Nat)(e:Int)(s:Int×Int):Env:= [(6,.pointer (some a)),(7,.int .i64 s.1),(23,.slice b c d),(24,.int .i64 e),(25,.int .i64 s.2)]
def aC.u1:List Nat:= [6,7,23,24,25]
section
variable(a:AV)(b:OA)(d:AV)(K:KT)(w:World)
def aC.W:Prop:=
 let e:=w.alloc (.cells a 26);let f:=e.alloc (.cells (#[.pointer b]:AV) 28);let g:=f.alloc (.cells d 58);let i:=g.alloc (.cells (#[.slice none 0 0]:AV) 33);∃j:OA,i.cell? (aU e.heap.size)=some (.pointer j)/\bf prog 45 #[.pointer j] i fun k m=>∃n:OA,k=.pointer n/\bf prog 46 #[.pointer n] m fun o p=>∃q:OA,o=.pointer q/\let r:=p.alloc (.cells (#[.pointer none]:AV) 98);Wr r (aU p.heap.size)/\let t:=r.setCell (aU p.heap.size) (.pointer q);let u:=t.alloc (.cells #[.func (.func 62) #[] #[.pointer (some (aU p.heap.size))],.func (.func 63) #[] #[.pointer (some (aU w.heap.size))],.func (.func 64) #[] #[.pointer (some (aU f.heap.size)),.pointer (some (aU w.heap.size))],.func (.func 66) #[] #[.pointer (some (aU f.heap.size)),.pointer (some (aU p.heap.size)),.pointer (some (aU g.heap.size))],.func (.func 67) #[] #[.pointer (some (aU f.heap.size)),.pointer (some (aU e.heap.size))],.func (.func 70) #[] #[.pointer (some (aU e.heap.size)),.pointer (some (aU f.heap.size)),.pointer (some (aU w.heap.size))]] 110);Holds none [] prog 36 (.loop (lB (bB (sR (sL (aZ (sR (body Tryz.f20)))))))) (aC.q1 K) [(6,.pointer (some (aU g.heap.size))),(7,.int .i64 0),(23,.slice (some (aU t.heap.size)) 6 6),(24,.int .i64 (6:Int)),(25,.int .i64 0)] u
variable{a b d K w}
theorem aC.of(h:aC.W a b d K w):bf prog 20 #[.agg a,.pointer b,.agg d] w K:=
 rqq func20 (C:=aC.k) h
end
section
variable(a:Addr)(b:Int)(c:OA)(d e:Nat)(f g:Int)(Q:aM)(w:World)
def aC.B1:Prop:=
 Split (decide (g<f)) ((0<=g/\g<(d:Int))/\Is c fun i:Addr=>∃j:Value,w.cell? (i.add (g.toNat*1))=some (j)/\jO prog j [] w fun k m=>Holds none [] prog 36 (aZ (bB (sL (aZ (lB (bB (sR (sL (aZ (sR (body Tryz.f20))))))))))) (aP 1 (ct (aZ (sR (lB (bB (sR (sL (aZ (sR (body Tryz.f20)))))))))++aC.u1) (b6 (fun cf w_=>match cutAt aC.k (aZ (sR (lB (bB (sR (sL (aZ (sR (body Tryz.f20)))))))))with|true=>Holds none [] prog 36 (aZ (sR (lB (bB (sR (sL (aZ (sR (body Tryz.f20))))))))) Q cf w_|false=>a8 none [] prog 36 aC.k (aZ (sR (lB (bB (sR (sL (aZ (sR (body Tryz.f20))))))))) aC.u1 Q cf w_) Q)) [(6,.pointer (some a)),(7,.int .i64 b),(12,k),(23,.slice c d e),(24,.int .i64 f),(25,.int .i64 g)] m) (Q (.exit 0) [(6,.pointer (some a)),(7,.int .i64 b),(23,.slice c d e),(24,.int .i64 f),(25,.int .i64 g)] w)
theorem aC.b1:(a8 none [] prog 36 aC.k (lB (bB (sR (sL (aZ (sR (body Tryz.f20))))))) aC.u1 Q [(6,.pointer (some a)),(7,.int .i64 b),(23,.slice c d e),(24,.int .i64 f),(25,.int .i64 g)] w)=aC.B1 a b c d e f g Q w:=by kernel_rfl
variable{a c d e f}
theorem aC.b9(I:Int×Int->World->Prop)(μ:Int×Int->World->Nat)(s:Int×Int){Q:aM}{w:World}(h0:I s w)
 (round:∀s w,I s w->aC.B1 a (s.1) c d e f (s.2) (bS (aC.e1 a c d e f) I μ s w Q) w):Holds none [] prog 36 (.loop (lB (bB (sR (sL (aZ (sR (body Tryz.f20)))))))) Q (aC.e1 a c d e f s) w:=
 br ng mix (aC.e1 a c d e f) I μ aC.k aC.u1 s (fun s Q w=>aC.B1 a (s.1) c d e f (s.2) Q w) (fun s Q w=>aC.b1 a (s.1) c d e f (s.2) Q w) h0 round
end
section
def aC.cU(a:Addr)(b:Int)(c:OA)(d e:Nat)(f g:Int)(K:KT)(w:World):Prop:=
 Wr w a/\let i:=w.setCell a (.slice none 0 0);∃j:OA,∃k m:Nat,i.cell? a=some (.slice j k m)/\K (.tuple #[.slice j k m,.int .i64 0]) i
variable(a:Addr)(b:Int)(c:OA)(d e:Nat)(f g:Int)(K:KT)(w:World)
theorem aC.dw:(aC.q1 K (.exit 0) [(6,.pointer (some a)),(7,.int .i64 b),(23,.slice c d e),(24,.int .i64 f),(25,.int .i64 g)] w)=aC.cU a b c d e f g K w:=by kernel_rfl
end
section
variable(a:Addr)(b c:Int)(d:OA)(e f:Nat)(g i:Int)(Q:aM)(w:World)
def aC.J1:Prop:=
 Split (c != (0:Int)) (∃j:OA,∃k m:Nat,w.cell? a=some (.slice j k m)/\Wr w a/\let n:=w.setCell a (.slice j k m);Q .ret [(6,.pointer (some a)),(7,.int .i64 c),(23,.slice d e f),(24,.int .i64 g),(25,.int .i64 i)] n) (Q .normal [(6,.pointer (some a)),(7,.int .i64 b),(23,.slice d e f),(24,.int .i64 g),(25,.int .i64 (i64.wrap (i+(1:Int))))] w)
theorem aC.j1:(a8 none [] prog 36 aC.k (aZ (bB (sL (aZ (lB (bB (sR (sL (aZ (sR (body Tryz.f20))))))))))) (ct (aZ (sR (lB (bB (sR (sL (aZ (sR (body Tryz.f20)))))))))++aC.u1) (aP 1 (ct (aZ (sR (lB (bB (sR (sL (aZ (sR (body Tryz.f20)))))))))++aC.u1) (b6 (fun cf w_=>match cutAt aC.k (aZ (sR (lB (bB (sR (sL (aZ (sR (body Tryz.f20)))))))))with|true=>Holds none [] prog 36 (aZ (sR (lB (bB (sR (sL (aZ (sR (body Tryz.f20))))))))) Q cf w_|false=>a8 none [] prog 36 aC.k (aZ (sR (lB (bB (sR (sL (aZ (sR (body Tryz.f20))))))))) aC.u1 Q cf w_) Q)) [(6,.pointer (some a)),(7,.int .i64 b),(12,.int .i64 c),(23,.slice d e f),(24,.int .i64 g),(25,.int .i64 i)] w)=aC.J1 a b c d e f g i Q w:=by kernel_rfl
variable{a b c d e f g i Q w}
theorem aC.kN(h:aC.J1 a b c d e f g i Q w):Holds none [] prog 36 (aZ (bB (sL (aZ (lB (bB (sR (sL (aZ (sR (body Tryz.f20))))))))))) (aP 1 (ct (aZ (sR (lB (bB (sR (sL (aZ (sR (body Tryz.f20)))))))))++aC.u1) (b6 (fun cf w_=>match cutAt aC.k (aZ (sR (lB (bB (sR (sL (aZ (sR (body Tryz.f20)))))))))with|true=>Holds none [] prog 36 (aZ (sR (lB (bB (sR (sL (aZ (sR (body Tryz.f20))))))))) Q cf w_|false=>a8 none [] prog 36 aC.k (aZ (sR (lB (bB (sR (sL (aZ (sR (body Tryz.f20))))))))) aC.u1 Q cf w_) Q)) [(6,.pointer (some a)),(7,.int .i64 b),(12,.int .i64 c),(23,.slice d e f),(24,.int .i64 g),(25,.int .i64 i)] w:=
 cJ (C:=aC.k) ng mix (aC.j1 a b c d e f g i Q w) h
end
section
def aC.zK(a:Addr)(b:Int)(c:OA)(d e:Nat)(f g:Int)(K:KT)(w:World):Prop:=
 ∃i:OA,∃j k:Nat,w.cell? a=some (.slice i j k)/\K (.tuple #[.slice i j k,.int .i64 b]) w
variable(a:Addr)(b:Int)(c:OA)(d e:Nat)(f g:Int)(K:KT)(w:World)
theorem aC.u7:(aC.q1 K .ret [(6,.pointer (some a)),(7,.int .i64 b),(23,.slice c d e),(24,.int .i64 f),(25,.int .i64 g)] w)=aC.zK a b c d e f g K w:=by kernel_rfl
end
def dI.k:List Nat:= []
section
variable(K:KT)(w:World)
def dI.W:Prop:=
 let a:=w.alloc (.cells (#[.int .i64 0,.int .i64 0,.int .i64 0,.int .i64 0,.int .i64 0,.int .i64 0,.int .u64 0,.int .i64 0,.int .i64 0,.int .u8 0,.int .u8 0,.int .u8 0,.int .u8 0,.int .u8 0,.int .u8 0,.int .u8 0,.int .u8 0,.int .u8 0,.int .u8 0,.int .u8 0,.int .u8 0,.int .u8 0,.int .u8 0,.int .u8 0,.int .u8 0,.int .u8 0,.int .u8 0,.int .u8 0,.int .u8 0,.int .u8 0,.int .u8 0,.int .u8 0,.int .u8 0,.int .u8 0,.int .u8 0,.int .u8 0,.int .u8 0,.int .u8 0,.int .u8 0,.int .u8 0,.int .u8 0]:AV) 26);((#[.int .i64 2,.int .i64 5,.int .i64 10,.int .i64 0,.int .i64 0,.int .i64 0,.int .u64 0,.int .i64 10,.int .i64 10,.int .u8 0,.int .u8 0,.int .u8 0,.int .u8 0,.int .u8 0,.int .u8 0,.int .u8 0,.int .u8 0,.int .u8 0,.int .u8 0,.int .u8 0,.int .u8 0,.int .u8 0,.int .u8 0,.int .u8 0,.int .u8 0,.int .u8 0,.int .u8 0,.int .u8 0,.int .u8 0,.int .u8 0,.int .u8 0,.int .u8 0,.int .u8 0,.int .u8 0,.int .u8 0,.int .u8 0,.int .u8 0,.int .u8 0,.int .u8 0,.int .u8 0,.int .u8 0]:AV).size=41/\(∀b∈(#[.int .i64 2,.int .i64 5,.int .i64 10,.int .i64 0,.int .i64 0,.int .i64 0,.int .u64 0,.int .i64 10,.int .i64 10,.int .u8 0,.int .u8 0,.int .u8 0,.int .u8 0,.int .u8 0,.int .u8 0,.int .u8 0,.int .u8 0,.int .u8 0,.int .u8 0,.int .u8 0,.int .u8 0,.int .u8 0,.int .u8 0,.int .u8 0,.int .u8 0,.int .u8 0,.int .u8 0,.int .u8 0,.int .u8 0,.int .u8 0,.int .u8 0,.int .u8 0,.int .u8 0,.int .u8 0,.int .u8 0,.int .u8 0,.int .u8 0,.int .u8 0,.int .u8 0,.int .u8 0,.int .u8 0]:AV).toList,b.oneCell'=true)/\∀d,d<41->Wr a ((aU w.heap.size).add d))/\let e:=setCells a (aU w.heap.size) (#[.int .i64 2,.int .i64 5,.int .i64 10,.int .i64 0,.int .i64 0,.int .i64 0,.int .u64 0,.int .i64 10,.int .i64 10,.int .u8 0,.int .u8 0,.int .u8 0,.int .u8 0,.int .u8 0,.int .u8 0,.int .u8 0,.int .u8 0,.int .u8 0,.int .u8 0,.int .u8 0,.int .u8 0,.int .u8 0,.int .u8 0,.int .u8 0,.int .u8 0,.int .u8 0,.int .u8 0,.int .u8 0,.int .u8 0,.int .u8 0,.int .u8 0,.int .u8 0,.int .u8 0,.int .u8 0,.int .u8 0,.int .u8 0,.int .u8 0,.int .u8 0,.int .u8 0,.int .u8 0,.int .u8 0]:AV).toList 0;∃f:AV,(f.size=41/\Cells e (aU w.heap.size) f)/\K (.agg f) e
variable{K w}
theorem dI.of(h:dI.W K w):bf prog 22 #[] w K:=
 rqq func22 (C:=dI.k) h
end
section
variable(a:AV)(b:OA)(d:AV)(K:KT)(w:World)
variable{a b d K w}
end
section
variable(a:OA)(b:Addr)(c:OA)(d e:Nat)(f:Int)(g:OA)(i j:Nat)(k:OA)(m n:Nat)(o:Int)(Q:aM)(w:World)
variable{a b c d e f g i j}
end
section
variable(a:OA)(b:Addr)(c:OA)(d e:Nat)(f:Int)(g:OA)(i j:Nat)(k:OA)(m n:Nat)(o:Int)(K:KT)(w:World)
end
section
variable(a:OA)(b:Addr)(c:OA)(d e:Nat)(f:Int)(g:OA)(i j:Nat)(k:Int)(Q:aM)(w:World)
variable{a b g i j}
end
section
variable(a:OA)(b:Addr)(c:OA)(d e:Nat)(f:Int)(g:OA)(i j:Nat)(k:Int)(K:KT)(w:World)
end
section
variable(a:OA)(b:Addr)(c:OA)(d e:Nat)(f:Int)(g:OA)(i j:Nat)(k m:Int)(Q:aM)(w:World)
variable{a b g i j k}
end
section
variable(a:OA)(b:Addr)(c:OA)(d e:Nat)(f:Int)(g:OA)(i j:Nat)(k m:Int)(Q:aM)(w:World)
end
def bw.k:List Nat:= []
def bw.q1(K:KT):aM:=(aP 0 (ct (aZ (body f40))++(aW f40)) (b6 (fun cf w_=>match cutAt bw.k (aZ (body f40))with|true=>Holds none [] prog 75 (aZ (body f40)) (bV prog f40 K) cf w_|false=>a8 none [] prog 75 bw.k (aZ (body f40)) (aW f40) (bV prog f40 K) cf w_) (bV prog f40 K)))
def bw.e1(a:Addr)(b:OA)(c d:Nat)(e:Int)(s:Bool×Int):Env:= [(1,.pointer (some a)),(2,.bool s.1),(29,.slice b c d),(30,.int .i64 e),(31,.int .i64 s.2)]
def bw.u1:List Nat:= [1,2,29,30,31]
section
variable(a:AV)(K:KT)(w:World)
def bw.W:Prop:=
 let b:=w.alloc (.cells a 26);∃d:Int,b.cell? ((aU w.heap.size).add 0)=some (.int .i64 d)/\∃e:Int,b.cell? ((aU w.heap.size).add 1)=some (.int .i64 e)/\∃f:Int,b.cell? ((aU w.heap.size).add 2)=some (.int .i64 f)/\∃g:Int,b.cell? ((aU w.heap.size).add 3)=some (.int .i64 g)/\∃i:Int,b.cell? ((aU w.heap.size).add 4)=some (.int .i64 i)/\∃j:Int,b.cell? ((aU w.heap.size).add 5)=some (.int .i64 j)/\∃k:Int,b.cell? ((aU w.heap.size).add 7)=some (.int .i64 k)/\∃m:Int,b.cell? ((aU w.heap.size).add 8)=some (.int .i64 m)/\3=3/\3=3/\3=3/\3=3/\3=3/\3=3/\3=3/\3=3/\let n:=b.alloc (.cells #[.int .i64 d,.int .i64 0,.int .i64 100,.int .i64 e,.int .i64 1,.int .i64 20,.int .i64 f,.int .i64 1,.int .i64 1000,.int .i64 g,.int .i64 0,.int .i64 2147483647,.int .i64 i,.int .i64 0,.int .i64 2147483647,.int .i64 j,.int .i64 0,.int .i64 2147483647,.int .i64 k,.int .i64 0,.int .i64 100000,.int .i64 m,.int .i64 0,.int .i64 100000] 121);Holds none [] prog 75 (.loop (lB (bB (sR (sL (sR (body f40))))))) (bw.q1 K) [(1,.pointer (some (aU w.heap.size))),(2,.bool false),(29,.slice (some (aU b.heap.size)) 8 8),(30,.int .i64 (8:Int)),(31,.int .i64 0)] n
variable{a K w}
theorem bw.of(h:bw.W a K w):bf prog 40 #[.agg a] w K:=
 rqq func40 (C:=bw.k) h
end
section
variable(a:Addr)(b:Bool)(c:OA)(d e:Nat)(f g:Int)(Q:aM)(w:World)
def bw.B1:Prop:=
 Split (decide (g<f)) ((0<=g/\g<(d:Int))/\Is c fun i:Addr=>∃j:AV,(j.size=3/\Cells w (i.add (g.toNat*3)) j)/\let k:=w.alloc (.cells (#[.int .i64 0,.int .i64 0,.int .i64 0]:AV) 121);(j.size=3/\(∀m∈j.toList,m.oneCell'=true)/\∀n,n<3->Wr k ((aU w.heap.size).add n))/\let o:=setCells k (aU w.heap.size) j.toList 0;(0<=(0:Int)/\(0:Int)<(3:Int))/\∃p:Int,o.cell? ((aU w.heap.size).add ((0:Int).toNat*1))=some (.int .i64 p)/\(0<=(1:Int)/\(1:Int)<(3:Int))/\∃q:Int,o.cell? ((aU w.heap.size).add ((1:Int).toNat*1))=some (.int .i64 q)/\Split (decide (p<q)) (Q .ret [(1,.pointer (some a)),(2,.bool false),(29,.slice c d e),(30,.int .i64 f),(31,.int .i64 g)] o) ((0<=(0:Int)/\(0:Int)<(3:Int))/\∃r:Int,o.cell? ((aU w.heap.size).add ((0:Int).toNat*1))=some (.int .i64 r)/\(0<=(2:Int)/\(2:Int)<(3:Int))/\∃t:Int,o.cell? ((aU w.heap.size).add ((2:Int).toNat*1))=some (.int .i64 t)/\Split (decide (r>t)) (Q .ret [(1,.pointer (some a)),(2,.bool false),(29,.slice c d e),(30,.int .i64 f),(31,.int .i64 g)] o) (Q .normal [(1,.pointer (some a)),(2,.bool b),(29,.slice c d e),(30,.int .i64 f),(31,.int .i64 (i64.wrap (g+(1:Int))))] o))) (Q (.exit 0) [(1,.pointer (some a)),(2,.bool b),(29,.slice c d e),(30,.int .i64 f),(31,.int .i64 g)] w)
theorem bw.b1:(a8 none [] prog 75 bw.k (lB (bB (sR (sL (sR (body f40)))))) bw.u1 Q [(1,.pointer (some a)),(2,.bool b),(29,.slice c d e),(30,.int .i64 f),(31,.int .i64 g)] w)=bw.B1 a b c d e f g Q w:=by kernel_rfl
variable{a c d e f}
theorem bw.b9(I:Bool×Int->World->Prop)(μ:Bool×Int->World->Nat)(s:Bool×Int){Q:aM}{w:World}(h0:I s w)
 (round:∀s w,I s w->bw.B1 a (s.1) c d e f (s.2) (bS (bw.e1 a c d e f) I μ s w Q) w):Holds none [] prog 75 (.loop (lB (bB (sR (sL (sR (body f40))))))) Q (bw.e1 a c d e f s) w:=
 br ng mix (bw.e1 a c d e f) I μ bw.k bw.u1 s (fun s Q w=>bw.B1 a (s.1) c d e f (s.2) Q w) (fun s Q w=>bw.b1 a (s.1) c d e f (s.2) Q w) h0 round
end
section
def bw.cU(a:Addr)(b:Bool)(c:OA)(d e:Nat)(f g:Int)(K:KT)(w:World):Prop:=
 ∃i:Int,w.cell? (a.add 6)=some (.int .u64 i)/\Split (decide (i<=(1099511627776:Int))) (∃j:Int,w.cell? (a.add 4)=some (.int .i64 j)/\Split (j==(0:Int)) (K (.bool true) w) (∃k:Int,w.cell? (a.add 3)=some (.int .i64 k)/\Split (decide (k>(0:Int))) (∃m:Int,w.cell? (a.add 4)=some (.int .i64 m)/\∃n:Int,w.cell? (a.add 3)=some (.int .i64 n)/\Split (decide (m>n)) (∃o:Int,w.cell? (a.add 4)=some (.int .i64 o)/\∃p:Int,w.cell? (a.add 2)=some (.int .i64 p)/\K (.bool (decide (o>p))) w) (K (.bool false) w)) (K (.bool false) w))) (K (.bool false) w)
variable(a:Addr)(b:Bool)(c:OA)(d e:Nat)(f g:Int)(K:KT)(w:World)
theorem bw.dw:(bw.q1 K (.exit 0) [(1,.pointer (some a)),(2,.bool b),(29,.slice c d e),(30,.int .i64 f),(31,.int .i64 g)] w)=bw.cU a b c d e f g K w:=by kernel_rfl
end
def bD.k:List Nat:= []
section
variable(a:Addr)(K:KT)(w:World)
def bD.W:Prop:=
 ∃b:OA,w.cell? a=some (.pointer b)/\Split ((b).isNone) (K (.int .i64 1) w) (K (.int .i64 0) w)
variable{a K w}
theorem bD.of(h:bD.W a K w):bf prog 62 #[.pointer (some a)] w K:=
 rqq func62 (C:=bD.k) h
end
def bR.k:List Nat:= []
section
variable(a:Addr)(K:KT)(w:World)
def bR.W:Prop:=
 ∃b:AV,(b.size=41/\Cells w a b)/\bf prog 40 #[.agg b] w fun d e=>∃f:Bool,d=.bool f/\Split (!f) (K (.int .i64 2) e) (K (.int .i64 0) e)
variable{a K w}
theorem bR.of(h:bR.W a K w):bf prog 63 #[.pointer (some a)] w K:=
 rqq func63 (C:=bR.k) h
end
def bP.k:List Nat:= []
section
variable(a b:Addr)(K:KT)(w:World)
def bP.W:Prop:=
 ∃d:OA,∃e f:Nat,w.cell? (a.add 0)=some (.slice d e f)/\let g:=w.drew;Split (decide ((e:Int)<(1:Int))) (K (.int .i64 9) g) (∃i:Int,g.cell? (b.add 1)=some (.int .i64 i)/\Split (decide ((e:Int)>i)) (K (.int .i64 9) g) (∃j:OA,∃k m:Nat,g.cell? (a.add 0)=some (.slice j k m)/\∃n:OA,∃o p:Nat,g.cell? (a.add 0)=some (.slice n o p)/\bf prog 57 #[.slice j k m] g fun q r=>∃t:OA,∃u v:Nat,q=.slice t u v/\r.cell? (a.add 0)=some (.slice n o p)/\bf prog 65 #[.slice t u v,.slice n o p] r fun x y=>∃z:Bool,x=.bool z/\Split (!z) (K (.int .i64 9) y) (K (.int .i64 0) y)))
variable{a b K w}
theorem bP.of(h:bP.W a b K w):bf prog 64 #[.pointer (some a),.pointer (some b)] w K:=
 rqq func64 (C:=bP.k) h
end
def aH.k:List Nat:= []
def aH.q1(K:KT):aM:=(aP 0 (ct (aZ (sR (body f65)))++(aW f65)) (b6 (fun cf w_=>match cutAt aH.k (aZ (sR (body f65)))with|true=>Holds none [] prog 26 (aZ (sR (body f65))) (bV prog f65 K) cf w_|false=>a8 none [] prog 26 aH.k (aZ (sR (body f65))) (aW f65) (bV prog f65 K) cf w_) (bV prog f65 K)))
def aH.e1(a:OA)(b c:Nat)(d:OA)(e f:Nat)(g:Int)(s:Bool×Int):Env:= [(0,.slice a b c),(1,.slice d e f),(4,.bool s.1),(12,.int .i64 g),(13,.int .i64 s.2)]
def aH.u1:List Nat:= [0,1,4,12,13]
section
variable(a:OA)(b d:Nat)(e:OA)(f g:Nat)(K:KT)(w:World)
def aH.W:Prop:=
 Split ((b:Int) != (f:Int)) (K (.bool false) w) (Holds none [] prog 26 (.loop (lB (bB (sR (sL (aZ (body f65))))))) (aH.q1 K) [(0,.slice a b d),(1,.slice e f g),(4,.bool false),(12,.int .i64 (b:Int)),(13,.int .i64 0)] w)
variable{a b d e f g K w}
theorem aH.of(h:aH.W a b d e f g K w):bf prog 65 #[.slice a b d,.slice e f g] w K:=
 rqq func65 (C:=aH.k) h
end
section
variable(a:OA)(b c:Nat)(d:OA)(e f:Nat)(g:Bool)(i j:Int)(Q:aM)(w:World)
def aH.B1:Prop:=
 Split (decide (j<i)) (let k:=w.drew;(0<=j/\j<(b:Int))/\Is a fun m:Addr=>∃n:AV,(n.size=32/\Cells k (m.add (j.toNat*32)) n)/\(0<=j/\j<(e:Int))/\Is d fun o:Addr=>∃p:AV,(p.size=32/\Cells k (o.add (j.toNat*32)) p)/\(fT .u8 32 n/\fT .u8 32 p)/\Split (!(gh n p)) (Q .ret [(0,.slice a b c),(1,.slice d e f),(4,.bool false),(12,.int .i64 i),(13,.int .i64 j)] k) (Q .normal [(0,.slice a b c),(1,.slice d e f),(4,.bool g),(12,.int .i64 i),(13,.int .i64 (i64.wrap (j+(1:Int))))] k)) (Q (.exit 0) [(0,.slice a b c),(1,.slice d e f),(4,.bool g),(12,.int .i64 i),(13,.int .i64 j)] w)
theorem aH.b1:(a8 none [] prog 26 aH.k (lB (bB (sR (sL (aZ (body f65)))))) aH.u1 Q [(0,.slice a b c),(1,.slice d e f),(4,.bool g),(12,.int .i64 i),(13,.int .i64 j)] w)=aH.B1 a b c d e f g i j Q w:=by kernel_rfl
variable{a b c d e f i}
theorem aH.b9(I:Bool×Int->World->Prop)(μ:Bool×Int->World->Nat)(s:Bool×Int){Q:aM}{w:World}(h0:I s w)
 (round:∀s w,I s w->aH.B1 a b c d e f (s.1) i (s.2) (bS (aH.e1 a b c d e f i) I μ s w Q) w):Holds none [] prog 26 (.loop (lB (bB (sR (sL (aZ (body f65))))))) Q (aH.e1 a b c d e f i s) w:=
 br ng mix (aH.e1 a b c d e f i) I μ aH.k aH.u1 s (fun s Q w=>aH.B1 a b c d e f (s.1) i (s.2) Q w) (fun s Q w=>aH.b1 a b c d e f (s.1) i (s.2) Q w) h0 round
end
section
def aH.cU(a:OA)(b c:Nat)(d:OA)(e f:Nat)(g:Bool)(i j:Int)(K:KT)(w:World):Prop:=
 K (.bool true) w
variable(a:OA)(b c:Nat)(d:OA)(e f:Nat)(g:Bool)(i j:Int)(K:KT)(w:World)
theorem aH.dw:(aH.q1 K (.exit 0) [(0,.slice a b c),(1,.slice d e f),(4,.bool g),(12,.int .i64 i),(13,.int .i64 j)] w)=aH.cU a b c d e f g i j K w:=by kernel_rfl
end
def aL.k:List Nat:= []
def aL.q1(K:KT):aM:=(aP 0 (ct (aZ (body f66))++(aW f66)) (b6 (fun cf w_=>match cutAt aL.k (aZ (body f66))with|true=>Holds none [] prog 25 (aZ (body f66)) (bV prog f66 K) cf w_|false=>a8 none [] prog 25 aL.k (aZ (body f66)) (aW f66) (bV prog f66 K) cf w_) (bV prog f66 K)))
def aL.e1(a b:Addr)(c:Int)(d:OA)(e f:Nat)(g s:Int):Env:= [(1,.pointer (some a)),(2,.pointer (some b)),(3,.int .i64 c),(7,.slice d e f),(8,.int .i64 g),(9,.int .i64 s)]
def aL.u1:List Nat:= [1,2,3,7,8,9]
section
variable(a b d:Addr)(K:KT)(w:World)
def aL.W:Prop:=
 ∃e:OA,∃f g:Nat,w.cell? (a.add 0)=some (.slice e f g)/\Holds none [] prog 25 (.loop (lB (bB (sR (sL (sR (body f66))))))) (aL.q1 K) [(1,.pointer (some b)),(2,.pointer (some d)),(3,.int .i64 0),(7,.slice e f g),(8,.int .i64 (f:Int)),(9,.int .i64 0)] w
variable{a b d K w}
theorem aL.of(h:aL.W a b d K w):bf prog 66 #[.pointer (some a),.pointer (some b),.pointer (some d)] w K:=
 rqq func66 (C:=aL.k) h
end
section
variable(a b:Addr)(c:Int)(d:OA)(e f:Nat)(g i:Int)(Q:aM)(w:World)
def aL.B1:Prop:=
 Split (decide (i<g)) ((0<=i/\i<(e:Int))/\Is d fun j:Addr=>∃k:AV,(k.size=32/\Cells w (j.add (i.toNat*32)) k)/\let m:=w.alloc (.cells zH 24);(k.size=32/\(∀n∈k.toList,n.oneCell'=true)/\∀o,o<32->Wr m ((aU w.heap.size).add o))/\let p:=setCells m (aU w.heap.size) k.toList 0;∃q:OA,p.cell? a=some (.pointer q)/\∃r:AV,(r.size=32/\Cells p (aU w.heap.size) r)/\bf prog 47 #[.pointer q,.agg r] p fun t u=>∃v:Bool,t=.bool v/\Split (!v) (∃x:OA,∃y z:Nat,u.cell? b=some (.slice x y z)/\∃aa:AV,(aa.size=32/\Cells u (aU w.heap.size) aa)/\aa.size=32/\let ba:=u.alloc (.cells (aa.toList++ []).toArray 24);∃(ca:OA) (da ea:Nat) (fa:World),(Builtin.append_ #[33,33] 33 #[.slice x y z,.slice (some (aU u.heap.size)) 1 1]).run prog ba=.ok (.slice ca da ea) fa/\Wr fa b/\let ga:=fa.setCell b (.slice ca da ea);Q .normal [(1,.pointer (some a)),(2,.pointer (some b)),(3,.int .i64 c),(7,.slice d e f),(8,.int .i64 g),(9,.int .i64 (i64.wrap (i+(1:Int))))] ga) (Q .normal [(1,.pointer (some a)),(2,.pointer (some b)),(3,.int .i64 c),(7,.slice d e f),(8,.int .i64 g),(9,.int .i64 (i64.wrap (i+(1:Int))))] u)) (Q (.exit 0) [(1,.pointer (some a)),(2,.pointer (some b)),(3,.int .i64 c),(7,.slice d e f),(8,.int .i64 g),(9,.int .i64 i)] w)
theorem aL.b1:(a8 none [] prog 25 aL.k (lB (bB (sR (sL (sR (body f66)))))) aL.u1 Q [(1,.pointer (some a)),(2,.pointer (some b)),(3,.int .i64 c),(7,.slice d e f),(8,.int .i64 g),(9,.int .i64 i)] w)=aL.B1 a b c d e f g i Q w:=by kernel_rfl
variable{a b c d e f g}
theorem aL.b9(I:Int->World->Prop)(μ:Int->World->Nat)(s:Int){Q:aM}{w:World}(h0:I s w)
 (round:∀s w,I s w->aL.B1 a b c d e f g s (bS (aL.e1 a b c d e f g) I μ s w Q) w):Holds none [] prog 25 (.loop (lB (bB (sR (sL (sR (body f66))))))) Q (aL.e1 a b c d e f g s) w:=
 br ng mix (aL.e1 a b c d e f g) I μ aL.k aL.u1 s (fun s Q w=>aL.B1 a b c d e f g s Q w) (fun s Q w=>aL.b1 a b c d e f g s Q w) h0 round
end
section
def aL.cU(a b:Addr)(c:Int)(d:OA)(e f:Nat)(g i:Int)(K:KT)(w:World):Prop:=
 ∃j:OA,∃k m:Nat,w.cell? b=some (.slice j k m)/\Split (decide ((k:Int)>(0:Int))) (K (.int .i64 15) w) (K (.int .i64 0) w)
variable(a b:Addr)(c:Int)(d:OA)(e f:Nat)(g i:Int)(K:KT)(w:World)
theorem aL.dw:(aL.q1 K (.exit 0) [(1,.pointer (some a)),(2,.pointer (some b)),(3,.int .i64 c),(7,.slice d e f),(8,.int .i64 g),(9,.int .i64 i)] w)=aL.cU a b c d e f g i K w:=by kernel_rfl
end
def aO.k:List Nat:= []
def aO.q1(K:KT):aM:=(aP 0 (ct (aZ (body f67))++(aW f67)) (b6 (fun cf w_=>match cutAt aO.k (aZ (body f67))with|true=>Holds none [] prog 17 (aZ (body f67)) (bV prog f67 K) cf w_|false=>a8 none [] prog 17 aO.k (aZ (body f67)) (aW f67) (bV prog f67 K) cf w_) (bV prog f67 K)))
def aO.e1(a b:Addr)(c:OA)(d e:Nat)(f:Int)(s:Int×Int):Env:= [(0,.pointer (some a)),(1,.pointer (some b)),(2,.int .i64 s.1),(6,.slice c d e),(7,.int .i64 f),(8,.int .i64 s.2)]
def aO.u1:List Nat:= [0,1,2,6,7,8]
section
variable(a b:Addr)(K:KT)(w:World)
def aO.W:Prop:=
 ∃d:OA,∃e f:Nat,w.cell? (a.add 0)=some (.slice d e f)/\Holds none [] prog 17 (.loop (lB (bB (sR (sL (sR (body f67))))))) (aO.q1 K) [(0,.pointer (some a)),(1,.pointer (some b)),(2,.int .i64 0),(6,.slice d e f),(7,.int .i64 (e:Int)),(8,.int .i64 0)] w
variable{a b K w}
theorem aO.of(h:aO.W a b K w):bf prog 67 #[.pointer (some a),.pointer (some b)] w K:=
 rqq func67 (C:=aO.k) h
end
section
variable(a b:Addr)(c:Int)(d:OA)(e f:Nat)(g i:Int)(Q:aM)(w:World)
def aO.B1:Prop:=
 Split (decide (i<g)) ((0<=i/\i<(e:Int))/\Is d fun j:Addr=>∃k:AV,(k.size=32/\Cells w (j.add (i.toNat*32)) k)/\let m:=w.alloc (.cells zH 24);(k.size=32/\(∀n∈k.toList,n.oneCell'=true)/\∀o,o<32->Wr m ((aU w.heap.size).add o))/\let p:=setCells m (aU w.heap.size) k.toList 0;∃q:OA,∃r t:Nat,p.cell? (a.add 0)=some (.slice q r t)/\bf prog 68 #[.slice q r t,.func (.func 69) #[] #[.pointer (some b),.pointer (some (aU w.heap.size))]] p fun u v=>∃x:Bool,u=.bool x/\Split x (Q .ret [(0,.pointer (some a)),(1,.pointer (some b)),(2,.int .i64 9),(6,.slice d e f),(7,.int .i64 g),(8,.int .i64 i)] v) (Q .normal [(0,.pointer (some a)),(1,.pointer (some b)),(2,.int .i64 c),(6,.slice d e f),(7,.int .i64 g),(8,.int .i64 (i64.wrap (i+(1:Int))))] v)) (Q (.exit 0) [(0,.pointer (some a)),(1,.pointer (some b)),(2,.int .i64 c),(6,.slice d e f),(7,.int .i64 g),(8,.int .i64 i)] w)
theorem aO.b1:(a8 none [] prog 17 aO.k (lB (bB (sR (sL (sR (body f67)))))) aO.u1 Q [(0,.pointer (some a)),(1,.pointer (some b)),(2,.int .i64 c),(6,.slice d e f),(7,.int .i64 g),(8,.int .i64 i)] w)=aO.B1 a b c d e f g i Q w:=by kernel_rfl
variable{a b d e f g}
theorem aO.b9(I:Int×Int->World->Prop)(μ:Int×Int->World->Nat)(s:Int×Int){Q:aM}{w:World}(h0:I s w)
 (round:∀s w,I s w->aO.B1 a b (s.1) d e f g (s.2) (bS (aO.e1 a b d e f g) I μ s w Q) w):Holds none [] prog 17 (.loop (lB (bB (sR (sL (sR (body f67))))))) Q (aO.e1 a b d e f g s) w:=
 br ng mix (aO.e1 a b d e f g) I μ aO.k aO.u1 s (fun s Q w=>aO.B1 a b (s.1) d e f g (s.2) Q w) (fun s Q w=>aO.b1 a b (s.1) d e f g (s.2) Q w) h0 round
end
section
def aO.cU(a b:Addr)(c:Int)(d:OA)(e f:Nat)(g i:Int)(K:KT)(w:World):Prop:=
 K (.int .i64 0) w
variable(a b:Addr)(c:Int)(d:OA)(e f:Nat)(g i:Int)(K:KT)(w:World)
theorem aO.dw:(aO.q1 K (.exit 0) [(0,.pointer (some a)),(1,.pointer (some b)),(2,.int .i64 c),(6,.slice d e f),(7,.int .i64 g),(8,.int .i64 i)] w)=aO.cU a b c d e f g i K w:=by kernel_rfl
end
def cG.k:List Nat:= []
section
variable(a:AV)(b d:Addr)(K:KT)(w:World)
def cG.W:Prop:=
 let e:=w.alloc (.cells a 24);let f:=e.drew;∃g:OA,f.cell? b=some (.pointer g)/\∃i:AV,(i.size=32/\Cells f d i)/\∃j:AV,(j.size=32/\Cells f (aU w.heap.size) j)/\bf prog 45 #[.pointer g] f fun k m=>∃n:OA,k=.pointer n/\(∃cs:AV,(.agg j:Value)=.agg cs/\cs.size=32/\Cells m (aU w.heap.size) cs)/\(∃cs:AV,(.agg i:Value)=.agg cs/\cs.size=32/\Cells m d cs)/\bf prog 51 #[.pointer n,.agg i,.agg j] m fun o p=>∃q:Bool,o=.bool q/\K (.bool q) p
variable{a b d K w}
theorem cG.of(h:cG.W a b d K w):bf prog 69 #[.agg a,.pointer (some b),.pointer (some d)] w K:=
 rqq func69 (C:=cG.k) h
end
def bO.k:List Nat:= []
section
variable(a b d:Addr)(K:KT)(w:World)
def bO.W:Prop:=
 ∃e:OA,w.cell? a=some (.pointer e)/\∃f:OA,∃g i:Nat,w.cell? (b.add 0)=some (.slice f g i)/\bf prog 21 #[.pointer e,.slice f g i] w fun j k=>∃m:AV,∃n:Int,j=.tuple #[.agg m,.int .i64 n]/\let o:=k.alloc (.cells zH 24);(m.size=32/\(∀p∈m.toList,p.oneCell'=true)/\∀q,q<32->Wr o ((aU k.heap.size).add q))/\let r:=setCells o (aU k.heap.size) m.toList 0;∃t:OA,r.cell? a=some (.pointer t)/\∃u:AV,(u.size=32/\Cells r (aU k.heap.size) u)/\∃v:OA,∃x y:Nat,r.cell? (b.add 0)=some (.slice v x y)/\bf prog 56 #[.pointer t,.agg u,.slice v x y] r fun z aa=>∃ba:AV,∃ca:Int,z=.tuple #[.agg ba,.int .i64 ca]/\let da:=aa.alloc (.cells zC 53);(ba.size=35/\(∀ea∈ba.toList,ea.oneCell'=true)/\∀fa,fa<35->Wr da ((aU aa.heap.size).add fa))/\let ga:=setCells da (aU aa.heap.size) ba.toList 0;∃ia:OA,∃ja ka:Nat,ga.cell? ((aU aa.heap.size).add 33)=some (.slice ia ja ka)/\∃ma:Int,ga.cell? (d.add 2)=some (.int .i64 ma)/\Split (decide ((ja:Int)>ma)) (K (.int .i64 10) ga) (K (.int .i64 0) ga)
variable{a b d K w}
theorem bO.of(h:bO.W a b d K w):bf prog 70 #[.pointer (some a),.pointer (some b),.pointer (some d)] w K:=
 rqq func70 (C:=bO.k) h
end
def bC.k:List Nat:= []
section
variable(a:OA)(b d:Nat)(e f:Addr)(K:KT)(w:World)
def bC.W:Prop:=
 bf prog 91 #[.slice a b d,.func (.func 69) #[] #[.pointer (some e),.pointer (some f)]] w fun g i=>∃j:Int,g=.int .i64 j/\K (.bool (decide (j>=(0:Int)))) i
variable{a b d e f K w}
theorem bC.of(h:bC.W a b d e f K w):bf prog 68 #[.slice a b d,.func (.func 69) #[] #[.pointer (some e),.pointer (some f)]] w K:=
 rqq func68 (C:=bC.k) h
end
def ai.k:List Nat:= []
def ai.q1(K:KT):aM:=(aP 0 (ct (aZ (body f91))++(aW f91)) (b6 (fun cf w_=>match cutAt ai.k (aZ (body f91))with|true=>Holds none [] prog 19 (aZ (body f91)) (bV prog f91 K) cf w_|false=>a8 none [] prog 19 ai.k (aZ (body f91)) (aW f91) (bV prog f91 K) cf w_) (bV prog f91 K)))
def ai.e1(a:OA)(b c:Nat)(d e:Addr)(f:Int)(s:Int×Int):Env:= [(0,.slice a b c),(1,.func (.func 69) #[] #[.pointer (some d),.pointer (some e)]),(4,.int .i64 s.1),(7,.int .i64 f),(8,.int .i64 s.2)]
def ai.u1:List Nat:= [0,1,4,7,8]
section
variable(a:OA)(b d:Nat)(e f:Addr)(K:KT)(w:World)
def ai.W:Prop:=
 Holds none [] prog 19 (.loop (lB (bB (sR (sL (sR (body f91))))))) (ai.q1 K) [(0,.slice a b d),(1,.func (.func 69) #[] #[.pointer (some e),.pointer (some f)]),(4,.int .i64 0),(7,.int .i64 (b:Int)),(8,.int .i64 0)] w
variable{a b d e f K w}
theorem ai.of(h:ai.W a b d e f K w):bf prog 91 #[.slice a b d,.func (.func 69) #[] #[.pointer (some e),.pointer (some f)]] w K:=
 rqq func91 (C:=ai.k) h
end
section
variable(a:OA)(b c:Nat)(d e:Addr)(f g i:Int)(Q:aM)(w:World)
def ai.B1:Prop:=
 Split (decide (i<g)) ((0<=i/\i<(b:Int))/\Is a fun j:Addr=>∃k:AV,(k.size=32/\Cells w (j.add (i.toNat*32)) k)/\bf prog 69 #[.agg k,.pointer (some d),.pointer (some e)] w fun m n=>∃o:Bool,m=.bool o/\Split o (Q .ret [(0,.slice a b c),(1,.func (.func 69) #[] #[.pointer (some d),.pointer (some e)]),(4,.int .i64 i),(7,.int .i64 g),(8,.int .i64 i)] n) (Q .normal [(0,.slice a b c),(1,.func (.func 69) #[] #[.pointer (some d),.pointer (some e)]),(4,.int .i64 f),(7,.int .i64 g),(8,.int .i64 (i64.wrap (i+(1:Int))))] n)) (Q (.exit 0) [(0,.slice a b c),(1,.func (.func 69) #[] #[.pointer (some d),.pointer (some e)]),(4,.int .i64 f),(7,.int .i64 g),(8,.int .i64 i)] w)
theorem ai.b1:(a8 none [] prog 19 ai.k (lB (bB (sR (sL (sR (body f91)))))) ai.u1 Q [(0,.slice a b c),(1,.func (.func 69) #[] #[.pointer (some d),.pointer (some e)]),(4,.int .i64 f),(7,.int .i64 g),(8,.int .i64 i)] w)=ai.B1 a b c d e f g i Q w:=by kernel_rfl
variable{a b c d e g}
theorem ai.b9(I:Int×Int->World->Prop)(μ:Int×Int->World->Nat)(s:Int×Int){Q:aM}{w:World}(h0:I s w)
 (round:∀s w,I s w->ai.B1 a b c d e (s.1) g (s.2) (bS (ai.e1 a b c d e g) I μ s w Q) w):Holds none [] prog 19 (.loop (lB (bB (sR (sL (sR (body f91))))))) Q (ai.e1 a b c d e g s) w:=
 br ng mix (ai.e1 a b c d e g) I μ ai.k ai.u1 s (fun s Q w=>ai.B1 a b c d e (s.1) g (s.2) Q w) (fun s Q w=>ai.b1 a b c d e (s.1) g (s.2) Q w) h0 round
end
section
def ai.cU(a:OA)(b c:Nat)(d e:Addr)(f g i:Int)(K:KT)(w:World):Prop:=
 K (.int .i64 (-1)) w
variable(a:OA)(b c:Nat)(d e:Addr)(f g i:Int)(K:KT)(w:World)
theorem ai.dw:(ai.q1 K (.exit 0) [(0,.slice a b c),(1,.func (.func 69) #[] #[.pointer (some d),.pointer (some e)]),(4,.int .i64 f),(7,.int .i64 g),(8,.int .i64 i)] w)=ai.cU a b c d e f g i K w:=by kernel_rfl
end
def dg.k:List Nat:= []
def dg.q1(K:KT):aM:=(aP 1 (ct (dW (body Tryz.f14))++(aW Tryz.f14)) (b6 (fun cf w_=>match cutAt dg.k (dW (body Tryz.f14))with|true=>Holds none [] prog 76 (dW (body Tryz.f14)) (bV prog Tryz.f14 K) cf w_|false=>a8 none [] prog 76 dg.k (dW (body Tryz.f14)) (aW Tryz.f14) (bV prog Tryz.f14 K) cf w_) (bV prog Tryz.f14 K)))
section
variable(a:AV)(b:OA)(d:AV)(K:KT)(w:World)
def dg.W:Prop:=
 let e:=w.alloc (.cells a 26);let f:=e.alloc (.cells (#[.pointer b]:AV) 28);let g:=f.alloc (.cells d 24);∃i:OA,g.cell? (aU e.heap.size)=some (.pointer i)/\bf prog 45 #[.pointer i] g fun j k=>∃m:OA,j=.pointer m/\bf prog 46 #[.pointer m] k fun n o=>∃p:OA,n=.pointer p/\Split ((p).isNone) (K (.tuple #[.slice none 0 0,.int .i64 1]) o) (∃q:AV,(q.size=41/\Cells o (aU w.heap.size) q)/\bf prog 40 #[.agg q] o fun r t=>∃u:Bool,r=.bool u/\Split (!u) (K (.tuple #[.slice none 0 0,.int .i64 2]) t) (∃v:AV,(v.size=32/\Cells t (aU f.heap.size) v)/\bf prog 47 #[.pointer p,.agg v] t fun x y=>∃z:Bool,x=.bool z/\Split (!z) (K (.tuple #[.slice none 0 0,.int .i64 6]) y) (∃aa:OA,y.cell? (aU e.heap.size)=some (.pointer aa)/\bf prog 45 #[.pointer aa] y fun ba ca=>∃da:OA,ba=.pointer da/\let ea:=ca.alloc (.cells (#[.pointer none]:AV) 62);Wr ea (aU ca.heap.size)/\let fa:=ea.setCell (aU ca.heap.size) (.pointer da);bf prog 49 #[.pointer p] fa fun ga ia=>∃ja:OA,∃ka ma:Nat,ga=.slice ja ka ma/\bf prog 48 #[.slice ja ka ma,.func (.func 50) #[] #[.pointer (some (aU f.heap.size)),.pointer (some (aU ca.heap.size)),.pointer (some (aU e.heap.size))]] ia fun na oa=>∃pa:OA,∃qa ra:Nat,na=.slice pa qa ra/\bf prog 53 #[.slice pa qa ra,.func (.func 54) #[] #[.pointer (some (aU e.heap.size))]] oa fun ta ua=>ta=.tuple #[]/\∃va:AV,(va.size=32/\Cells ua (aU f.heap.size) va)/\va.size=32/\let xa:=ua.alloc (.cells (va.toList++ []).toArray 24);Holds none [] prog 76 (.loop (lB (bB (sR (sL (cS (aZ (sR (body Tryz.f14))))))))) (dg.q1 K) [(3,.pointer (some (aU w.heap.size))),(4,.pointer (some (aU e.heap.size))),(5,.pointer (some (aU f.heap.size))),(6,.slice none 0 0),(7,.int .i64 0),(11,.slice (some (aU ua.heap.size)) 1 1),(43,.slice pa qa ra),(44,.int .i64 (qa:Int)),(45,.int .i64 0)] xa)))
variable{a b d K w}
theorem dg.of(h:dg.W a b d K w):bf prog 14 #[.agg a,.pointer b,.agg d] w K:=
 rqq func14 (C:=dg.k) h
end
section
variable(a b c:Addr)(d:OA)(e f:Nat)(g:Int)(i:OA)(j k:Nat)(m:OA)(n o:Nat)(p q:Int)(Q:aM)(w:World)
variable{a b c d e f g m n o p}
end
section
variable(a b c:Addr)(d:OA)(e f:Nat)(g:Int)(i:OA)(j k:Nat)(m:Addr)(n:OA)(o p:Nat)(q r:Int)(K:KT)(w:World)
end
section
variable(a b c:Addr)(d:OA)(e f:Nat)(g:Int)(i:OA)(j k:Nat)(m:OA)(n o:Nat)(p q:Int)(K:KT)(w:World)
end
section
variable(a:AV)(b:OA)(d:AV)(K:KT)(w:World)
variable{a b d K w}
end
section
variable(a:OA)(b c:Addr)(d:OA)(e f:Nat)(g:OA)(i j:Nat)(k:OA)(m n:Nat)(o:OA)(p q:Nat)(Q:aM)(w:World)
variable{a b c g i j}
end
section
variable(a:OA)(b c:Addr)(d:OA)(e f:Nat)(g:OA)(i j:Nat)(k:OA)(m n:Nat)(o:OA)(p q:Nat)(r t:Int)(Q:aM)(w:World)
variable{a b c d e f g i j k m n o p q}
end
section
variable(a:OA)(b c:Addr)(d:OA)(e f:Nat)(g:OA)(i j:Nat)(k:OA)(m n:Nat)(o:OA)(p q:Nat)(r t:Int)(Q:aM)(w:World)
end
section
variable(a:AV)(b d e:Addr)(K:KT)(w:World)
variable{a b d e K w}
end
section
variable(a b:AV)(d:Addr)(K:KT)(w:World)
variable{a b d K w}
end
section
variable(a:OA)(b d:Nat)(e f g:Addr)(K:KT)(w:World)
variable{a b d e f g K w}
end
section
variable(a:OA)(b c:Nat)(d e f:Addr)(g:OA)(i j:Nat)(k m:Int)(Q:aM)(w:World)
variable{a b c d e f g i j}
end
section
variable(a:OA)(b c:Nat)(d e f:Addr)(g:OA)(i j:Nat)(k m:Int)(K:KT)(w:World)
end
section
variable(a:OA)(b d:Nat)(e f g:Addr)(K:KT)(w:World)
variable{a b d e f g K w}
end
section
variable(a:OA)(b c:Nat)(d e f:Addr)(g i j:Int)(Q:aM)(w:World)
variable{a b c d e f i}
end
section
variable(a:OA)(b c:Nat)(d e f:Addr)(g i j:Int)(K:KT)(w:World)
end
section
variable(a b:AV)(d:OA)(e f:Nat)(g:AV)(K:KT)(w:World)
variable{a b d e f g K w}
end
def bn.k:List Nat:= []
def bn.q1(K:KT):aM:=(aP 0 (ct (cS (body Tryz.f4))++(aW Tryz.f4)) (b6 (fun cf w_=>match cutAt bn.k (cS (body Tryz.f4))with|true=>Holds none [] prog 52 (cS (body Tryz.f4)) (bV prog Tryz.f4 K) cf w_|false=>a8 none [] prog 52 bn.k (cS (body Tryz.f4)) (aW Tryz.f4) (bV prog Tryz.f4 K) cf w_) (bV prog Tryz.f4 K)))
def bn.e1(a:OA)(b c:Nat)(s:Bool×Int):Env:= [(0,.bool s.1),(2,.slice a b c),(3,.int .i64 s.2)]
def bn.u1:List Nat:= [0,2,3]
section
variable(K:KT)(w:World)
def bn.W:Prop:=
 let a:=w.alloc (.cells (#[.int .i64 0,.pointer none,.map none]:AV) 65);let b:=a.alloc (.cells #[.pointer none,.pointer (some (aU w.heap.size))] 28);Holds none [] prog 52 (.loop (lB (bB (sR (sL (aZ (sR (body Tryz.f4)))))))) (bn.q1 K) [(0,.bool false),(2,.slice (some (aU a.heap.size)) 2 2),(3,.int .i64 0)] b
variable{K w}
theorem bn.of(h:bn.W K w):bf prog 4 #[] w K:=
 rqq func4 (C:=bn.k) h
end
section
variable(a:Bool)(b:OA)(c d:Nat)(e:Int)(Q:aM)(w:World)
def bn.B1:Prop:=
 Split (decide (e<(c:Int))) (let f:=w.drew;(0<=e/\e<(c:Int))/\Is b fun g:Addr=>∃i:OA,f.cell? (g.add (e.toNat*1))=some (.pointer i)/\bf prog 22 #[] f fun j k=>∃m:AV,j=.agg m/\k.cell? (g.add (e.toNat*1))=some (.pointer i)/\bf prog 20 #[.agg m,.pointer i,.agg (CN (.slice none 0 0))] k fun n o=>∃p:OA,∃q r:Nat,∃t:Int,n=.tuple #[.slice p q r,.int .i64 t]/\let u:=o.drew;(0<=e/\e<(c:Int))/\Is b fun v:Addr=>∃x:OA,u.cell? (v.add (e.toNat*1))=some (.pointer x)/\bf prog 22 #[] u fun y z=>∃aa:AV,y=.agg aa/\z.cell? (v.add (e.toNat*1))=some (.pointer x)/\bf prog 14 #[.agg aa,.pointer x,.agg zH] z fun ba ca=>∃da:OA,∃ea fa:Nat,∃ga:Int,ba=.tuple #[.slice da ea fa,.int .i64 ga]/\Split (t != (1:Int)) (Q .ret [(0,.bool false),(2,.slice b c d),(3,.int .i64 e)] ca) (Split (ga != (1:Int)) (Q .ret [(0,.bool false),(2,.slice b c d),(3,.int .i64 e)] ca) (Split (decide ((q:Int)>(0:Int))) (Q .ret [(0,.bool false),(2,.slice b c d),(3,.int .i64 e)] ca) (Split (decide ((ea:Int)>(0:Int))) (Q .ret [(0,.bool false),(2,.slice b c d),(3,.int .i64 e)] ca) (Q .normal [(0,.bool a),(2,.slice b c d),(3,.int .i64 (i64.wrap (e+(1:Int))))] ca))))) (Q (.exit 0) [(0,.bool a),(2,.slice b c d),(3,.int .i64 e)] w)
theorem bn.b1:(a8 none [] prog 52 bn.k (lB (bB (sR (sL (aZ (sR (body Tryz.f4))))))) bn.u1 Q [(0,.bool a),(2,.slice b c d),(3,.int .i64 e)] w)=bn.B1 a b c d e Q w:=by kernel_rfl
variable{b c d}
theorem bn.b9(I:Bool×Int->World->Prop)(μ:Bool×Int->World->Nat)(s:Bool×Int){Q:aM}{w:World}(h0:I s w)
 (round:∀s w,I s w->bn.B1 (s.1) b c d (s.2) (bS (bn.e1 b c d) I μ s w Q) w):Holds none [] prog 52 (.loop (lB (bB (sR (sL (aZ (sR (body Tryz.f4)))))))) Q (bn.e1 b c d s) w:=
 br ng mix (bn.e1 b c d) I μ bn.k bn.u1 s (fun s Q w=>bn.B1 (s.1) b c d (s.2) Q w) (fun s Q w=>bn.b1 (s.1) b c d (s.2) Q w) h0 round
end
section
def bn.cU(a:Bool)(b:OA)(c d:Nat)(e:Int)(K:KT)(w:World):Prop:=
 bf prog 13 #[] w fun f g=>∃i:Bool,f=.bool i/\K (.bool i) g
variable(a:Bool)(b:OA)(c d:Nat)(e:Int)(K:KT)(w:World)
theorem bn.dw:(bn.q1 K (.exit 0) [(0,.bool a),(2,.slice b c d),(3,.int .i64 e)] w)=bn.cU a b c d e K w:=by kernel_rfl
end
section
variable(a b:AV)(d:OA)(e f:Nat)(g:OA)(i j:Nat)(K:KT)(w:World)
variable{a b d e f g i j K w}
end
section
variable(a:AV)(K:KT)(w:World)
variable{a K w}
end
section
variable(a b:AV)(d:OA)(e f:Nat)(g:OA)(i j:Nat)(k:OA)(m n:Nat)(K:KT)(w:World)
variable{a b d e f g i j k m n K w}
end
section
variable(a:OA)(b c:Nat)(d:OA)(e f:Nat)(g:Addr)(i:Bool)(j:OA)(k m:Int)(Q:aM)(w:World)
variable{a b c d e f g j k}
end
section
variable(a:OA)(b c:Nat)(d:OA)(e f:Nat)(g:Addr)(i:Bool)(j:OA)(k m:Int)(K:KT)(w:World)
end
end Go.Proofs.YtfleamccglihoaaGreatDoor
