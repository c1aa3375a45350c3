import Derived.Test.YtfleamccglihoaaGreatDoorProg
import Derived.Test.YtfleamccglihoaaGreatDoorMA
import Derived.Test.YtfleamccglihoaaGreatDoorMB
open Go.IntKind (i64 u64)
set_option linter.unusedVariables false
namespace Go.Proofs.YtfleamccglihoaaGreatDoor
open Go.Proofs.Tryz
open Go Go.bW
def dB.k:List Nat:= []
section
variable(a b:OA)(d e:Nat)(K:KT)(w:World)
def dB.W:Prop:=
 let f:=w.alloc (.cells zH 24);bC prog 71 #[.pointer a,.slice b d e] f fun g i=>∃j:Int,g=.int .i64 j/\Split (j != (0:Int)) ((zH.size=32/\(∀k∈zH.toList,k.oneCell'=true)/\∀m,m<32->Wr i ((aP w.heap.size).add m))/\let n:=setCells i (aP w.heap.size) zH.toList 0;∃o:AV,(o.size=32/\Cells n (aP w.heap.size) o)/\K (.tuple #[.agg o,.int .i64 j]) n) (bC prog 72 #[.slice b d e,.func (.func 73) #[.pointer a] #[]] i fun p q=>∃r:AV,p=.agg r/\(r.size=32/\(∀t∈r.toList,t.oneCell'=true)/\∀u,u<32->Wr q ((aP w.heap.size).add u))/\let v:=setCells q (aP w.heap.size) r.toList 0;∃x:AV,(x.size=32/\Cells v (aP w.heap.size) x)/\K (.tuple #[.agg x,.int .i64 0]) v)
variable{a b d e K w}
theorem dB.of(h:dB.W a b d e K w):bC prog 21 #[.pointer a,.slice b d e] w K:=
 rqq func21 (C:=dB.k) h
end
def dP.k:List Nat:= []
section
variable(a:OA)(b:AV)(d:OA)(e f:Nat)(K:KT)(w:World)
def dP.W:Prop:=
 let g:=w.alloc (.cells b 24);let i:=g.alloc (.cells zC 53);bC prog 82 #[.pointer a] i fun j k=>∃m:Bool,j=.bool m/\Split (!m) ((zC.size=35/\(∀n∈zC.toList,n.oneCell'=true)/\∀o,o<35->Wr k ((aP g.heap.size).add o))/\let p:=setCells k (aP g.heap.size) zC.toList 0;∃q:AV,(q.size=35/\Cells p (aP g.heap.size) q)/\K (.tuple #[.agg q,.int .i64 1]) p) (let r:=k.drew;Is a fun t:Addr=>∃u:Option Nat,r.cell? (t.add 2)=some (.map u)/\∃v:AV,(v.size=32/\Cells r (aP w.heap.size) v)/\∃x:OA,(Instr.lookup 63 (.map u) (.agg v) false).run prog r=.ok (.pointer x) r/\Split (!(x).isNone) ((zC.size=35/\(∀y∈zC.toList,y.oneCell'=true)/\∀z,z<35->Wr r ((aP g.heap.size).add z))/\let a1:=setCells r (aP g.heap.size) zC.toList 0;∃b1:AV,(b1.size=35/\Cells a1 (aP g.heap.size) b1)/\K (.tuple #[.agg b1,.int .i64 7]) a1) (Split ((e:Int)==(0:Int)) ((zC.size=35/\(∀c1∈zC.toList,c1.oneCell'=true)/\∀d1,d1<35->Wr r ((aP g.heap.size).add d1))/\let e1:=setCells r (aP g.heap.size) zC.toList 0;∃f1:AV,(f1.size=35/\Cells e1 (aP g.heap.size) f1)/\K (.tuple #[.agg f1,.int .i64 9]) e1) (bC prog 57 #[.slice d e f] r fun g1 i1=>∃j1:OA,∃k1 m1:Nat,g1=.slice j1 k1 m1/\Split ((k1:Int) != (e:Int)) ((zC.size=35/\(∀n1∈zC.toList,n1.oneCell'=true)/\∀o1,o1<35->Wr i1 ((aP g.heap.size).add o1))/\let p1:=setCells i1 (aP g.heap.size) zC.toList 0;∃q1:AV,(q1.size=35/\Cells p1 (aP g.heap.size) q1)/\K (.tuple #[.agg q1,.int .i64 9]) p1) (bC prog 21 #[.pointer a,.slice d e f] i1 fun r1 t1=>∃u1:AV,∃v1:Int,r1=.tuple #[.agg u1,.int .i64 v1]/\let x1:=t1.alloc (.cells zH 24);(u1.size=32/\(∀y1∈u1.toList,y1.oneCell'=true)/\∀z1,z1<32->Wr x1 ((aP t1.heap.size).add z1))/\let a2:=setCells x1 (aP t1.heap.size) u1.toList 0;Split (v1 != (0:Int)) ((zC.size=35/\(∀b2∈zC.toList,b2.oneCell'=true)/\∀c2,c2<35->Wr a2 ((aP g.heap.size).add c2))/\let d2:=setCells a2 (aP g.heap.size) zC.toList 0;∃e2:AV,(e2.size=35/\Cells d2 (aP g.heap.size) e2)/\K (.tuple #[.agg e2,.int .i64 v1]) d2) (∃f2:AV,(f2.size=32/\Cells a2 (aP t1.heap.size) f2)/\bC prog 83 #[.pointer a,.agg f2,.slice d e f] a2 fun g2 i2=>∃j2:OA,g2=.pointer j2/\let k2:=i2.drew;Is a fun m2:Addr=>∃n2:OA,k2.cell? (m2.add 1)=some (.pointer n2)/\∃o2:AV,(o2.size=32/\Cells k2 (aP w.heap.size) o2)/\∃p2:AV,(p2.size=32/\Cells k2 (aP t1.heap.size) p2)/\bC prog 84 #[.pointer n2,.agg o2,.agg p2,.slice d e f] k2 fun q2 r2=>∃t2:Int,q2=.int .i64 t2/\let u2:=r2.drew;Is a fun v2:Addr=>∃x2:Option Nat,u2.cell? (v2.add 2)=some (.map x2)/\∃y2:AV,(y2.size=32/\Cells u2 (aP w.heap.size) y2)/\∃z2:World,(Instr.mapUpdate 63 (.map x2) (.agg y2) (.pointer j2)).run prog u2=.ok () z2/\Is j2 fun a3:Addr=>∃b3:AV,(b3.size=35/\Cells z2 (a3.add 0) b3)/\bC prog 85 #[.agg b3] z2 fun c3 d3=>∃e3:AV,c3=.agg e3/\(e3.size=35/\(∀f3∈e3.toList,f3.oneCell'=true)/\∀g3,g3<35->Wr d3 ((aP g.heap.size).add g3))/\let i3:=setCells d3 (aP g.heap.size) e3.toList 0;∃j3:AV,(j3.size=35/\Cells i3 (aP g.heap.size) j3)/\K (.tuple #[.agg j3,.int .i64 0]) i3)))))
variable{a b d e f K w}
theorem dP.of(h:dP.W a b d e f K w):bC prog 41 #[.pointer a,.agg b,.slice d e f] w K:=
 rqq func41 (C:=dP.k) h
end
def iM.k:List Nat:= []
section
variable(a:Int)(b:AV)(K:KT)(w:World)
def iM.W:Prop:=
 let d:=w.alloc (.cells b 24);Split (decide (a<(0:Int))) (K (.tuple #[.pointer none,.int .i64 2]) d) (Split (decide (a>(100:Int))) (K (.tuple #[.pointer none,.int .i64 2]) d) (let e:=d.drew;∃f:AV,(f.size=32/\Cells e (aP w.heap.size) f)/\∃g:AV,(g.size=32/\Cells e (aP w.heap.size) g)/\(bC prog 86 #[.agg f] e fun i j=>∃k:OA,i=.pointer k/\(∃cs:AV,(.agg g:Value)=.agg cs/\cs.size=32/\Cells j (aP w.heap.size) cs)/\(let m:=j.alloc (.map #[] 0);(∃cs:AV,(.agg g:Value)=.agg cs/\cs.size=32/\Cells m (aP w.heap.size) cs)/\let n:=m.alloc (.cells zS 129);(∃cs:AV,(.agg g:Value)=.agg cs/\cs.size=32/\Cells n (aP w.heap.size) cs)/\∃o:World,(Instr.mapUpdate 63 (.map (some j.heap.size)) (.agg g) (.pointer (some (aP m.heap.size)))).run prog n=.ok () o/\let p:=o.alloc (.cells (#[.int .i64 a,.pointer k,.map (some j.heap.size)]:AV) 65);K (.tuple #[.pointer (some (aP o.heap.size)),.int .i64 0]) p)/\(let q:=j.alloc (.cells zS 129);(∃cs:AV,(.agg g:Value)=.agg cs/\cs.size=32/\Cells q (aP w.heap.size) cs)/\let r:=q.alloc (.map #[] 0);(∃cs:AV,(.agg g:Value)=.agg cs/\cs.size=32/\Cells r (aP w.heap.size) cs)/\∃t:World,(Instr.mapUpdate 63 (.map (some q.heap.size)) (.agg g) (.pointer (some (aP j.heap.size)))).run prog r=.ok () t/\let u:=t.alloc (.cells (#[.int .i64 a,.pointer k,.map (some q.heap.size)]:AV) 65);K (.tuple #[.pointer (some (aP t.heap.size)),.int .i64 0]) u))/\(let v:=e.alloc (.map #[] 0);(∃cs:AV,(.agg g:Value)=.agg cs/\cs.size=32/\Cells v (aP w.heap.size) cs)/\(∃cs:AV,(.agg f:Value)=.agg cs/\cs.size=32/\Cells v (aP w.heap.size) cs)/\(bC prog 86 #[.agg f] v fun x y=>∃z:OA,x=.pointer z/\(∃cs:AV,(.agg g:Value)=.agg cs/\cs.size=32/\Cells y (aP w.heap.size) cs)/\let a1:=y.alloc (.cells zS 129);(∃cs:AV,(.agg g:Value)=.agg cs/\cs.size=32/\Cells a1 (aP w.heap.size) cs)/\∃b1:World,(Instr.mapUpdate 63 (.map (some e.heap.size)) (.agg g) (.pointer (some (aP y.heap.size)))).run prog a1=.ok () b1/\let c1:=b1.alloc (.cells (#[.int .i64 a,.pointer z,.map (some e.heap.size)]:AV) 65);K (.tuple #[.pointer (some (aP b1.heap.size)),.int .i64 0]) c1)/\(let d1:=v.alloc (.cells zS 129);(∃cs:AV,(.agg g:Value)=.agg cs/\cs.size=32/\Cells d1 (aP w.heap.size) cs)/\(∃cs:AV,(.agg f:Value)=.agg cs/\cs.size=32/\Cells d1 (aP w.heap.size) cs)/\(bC prog 86 #[.agg f] d1 fun e1 f1=>∃g1:OA,e1=.pointer g1/\(∃cs:AV,(.agg g:Value)=.agg cs/\cs.size=32/\Cells f1 (aP w.heap.size) cs)/\∃i1:World,(Instr.mapUpdate 63 (.map (some e.heap.size)) (.agg g) (.pointer (some (aP v.heap.size)))).run prog f1=.ok () i1/\let j1:=i1.alloc (.cells (#[.int .i64 a,.pointer g1,.map (some e.heap.size)]:AV) 65);K (.tuple #[.pointer (some (aP i1.heap.size)),.int .i64 0]) j1)/\(∃k1:World,(Instr.mapUpdate 63 (.map (some e.heap.size)) (.agg g) (.pointer (some (aP v.heap.size)))).run prog d1=.ok () k1/\(∃cs:AV,(.agg f:Value)=.agg cs/\cs.size=32/\Cells k1 (aP w.heap.size) cs)/\bC prog 86 #[.agg f] k1 fun m1 n1=>∃o1:OA,m1=.pointer o1/\let p1:=n1.alloc (.cells (#[.int .i64 a,.pointer o1,.map (some e.heap.size)]:AV) 65);K (.tuple #[.pointer (some (aP n1.heap.size)),.int .i64 0]) p1)))/\(let q1:=e.alloc (.cells zS 129);(∃cs:AV,(.agg g:Value)=.agg cs/\cs.size=32/\Cells q1 (aP w.heap.size) cs)/\(∃cs:AV,(.agg f:Value)=.agg cs/\cs.size=32/\Cells q1 (aP w.heap.size) cs)/\(bC prog 86 #[.agg f] q1 fun r1 t1=>∃u1:OA,r1=.pointer u1/\(∃cs:AV,(.agg g:Value)=.agg cs/\cs.size=32/\Cells t1 (aP w.heap.size) cs)/\let v1:=t1.alloc (.map #[] 0);(∃cs:AV,(.agg g:Value)=.agg cs/\cs.size=32/\Cells v1 (aP w.heap.size) cs)/\∃x1:World,(Instr.mapUpdate 63 (.map (some t1.heap.size)) (.agg g) (.pointer (some (aP e.heap.size)))).run prog v1=.ok () x1/\let y1:=x1.alloc (.cells (#[.int .i64 a,.pointer u1,.map (some t1.heap.size)]:AV) 65);K (.tuple #[.pointer (some (aP x1.heap.size)),.int .i64 0]) y1)/\(let z1:=q1.alloc (.map #[] 0);(∃cs:AV,(.agg g:Value)=.agg cs/\cs.size=32/\Cells z1 (aP w.heap.size) cs)/\(∃cs:AV,(.agg f:Value)=.agg cs/\cs.size=32/\Cells z1 (aP w.heap.size) cs)/\(bC prog 86 #[.agg f] z1 fun a2 b2=>∃c2:OA,a2=.pointer c2/\(∃cs:AV,(.agg g:Value)=.agg cs/\cs.size=32/\Cells b2 (aP w.heap.size) cs)/\∃d2:World,(Instr.mapUpdate 63 (.map (some q1.heap.size)) (.agg g) (.pointer (some (aP e.heap.size)))).run prog b2=.ok () d2/\let e2:=d2.alloc (.cells (#[.int .i64 a,.pointer c2,.map (some q1.heap.size)]:AV) 65);K (.tuple #[.pointer (some (aP d2.heap.size)),.int .i64 0]) e2)/\(∃f2:World,(Instr.mapUpdate 63 (.map (some q1.heap.size)) (.agg g) (.pointer (some (aP e.heap.size)))).run prog z1=.ok () f2/\(∃cs:AV,(.agg f:Value)=.agg cs/\cs.size=32/\Cells f2 (aP w.heap.size) cs)/\bC prog 86 #[.agg f] f2 fun g2 i2=>∃j2:OA,g2=.pointer j2/\let k2:=i2.alloc (.cells (#[.int .i64 a,.pointer j2,.map (some q1.heap.size)]:AV) 65);K (.tuple #[.pointer (some (aP i2.heap.size)),.int .i64 0]) k2)))))
variable{a b K w}
theorem iM.of(h:iM.W a b K w):bC prog 42 #[.int .i64 a,.agg b] w K:=
 rqq func42 (C:=iM.k) h
end
def eJ.k:List Nat:= []
section
variable(a:OA)(K:KT)(w:World)
def eJ.W:Prop:=
 Split ((a).isNone) (K (.pointer none) w) (Is a fun b:Addr=>∃d:OA,w.cell? (b.add 1)=some (.pointer d)/\K (.pointer d) w)
variable{a K w}
theorem eJ.of(h:eJ.W a K w):bC prog 45 #[.pointer a] w K:=
 rqq func45 (C:=eJ.k) h
end
section
variable(a:OA)(b d:AV)(K:KT)(w:World)
variable{a b d K w}
end
section
variable(a:OA)(b:AV)(d:OA)(e f:Nat)(K:KT)(w:World)
variable{a b d e f K w}
end
def eQ.k:List Nat:= []
section
variable(a b:OA)(d e:Nat)(K:KT)(w:World)
def eQ.W:Prop:=
 let f:=w.alloc (.cells (#[.pointer a]:AV) 28);∃g:OA,f.cell? (aP w.heap.size)=some (.pointer g)/\bC prog 82 #[.pointer g] f fun i j=>∃k:Bool,i=.bool k/\Split (!k) (K (.int .i64 1) j) (Split ((d:Int)==(0:Int)) (K (.int .i64 9) j) (bC prog 68 #[.slice b d e,.func (.func 105) #[] #[.pointer (some (aP w.heap.size))]] j fun m n=>∃o:Bool,m=.bool o/\Split o (K (.int .i64 6) n) (K (.int .i64 0) n)))
variable{a b d e K w}
theorem eQ.of(h:eQ.W a b d e K w):bC prog 71 #[.pointer a,.slice b d e] w K:=
 rqq func71 (C:=eQ.k) h
end
def bE.k:List Nat:= []
section
variable(a:OA)(b d:AV)(K:KT)(w:World)
def bE.W:Prop:=
 let e:=w.alloc (.cells b 24);let f:=e.alloc (.cells d 24);let g:=f.drew;Is a fun i:Addr=>∃j:Option Nat,g.cell? (i.add 2)=some (.map j)/\∃k:AV,(k.size=32/\Cells g (aP w.heap.size) k)/\∃m:OA,(Instr.lookup 63 (.map j) (.agg k) false).run prog g=.ok (.pointer m) g/\Is m fun n:Addr=>∃o:Int,g.cell? ((n.add 0).add 32)=some (.int .u64 o)/\Is a fun p:Addr=>∃q:Option Nat,g.cell? (p.add 2)=some (.map q)/\∃r:AV,(r.size=32/\Cells g (aP e.heap.size) r)/\∃t:OA,(Instr.lookup 63 (.map q) (.agg r) false).run prog g=.ok (.pointer t) g/\Is t fun u:Addr=>∃v:Int,g.cell? ((u.add 0).add 32)=some (.int .u64 v)/\∃x:AV,(x.size=32/\Cells g (aP w.heap.size) x)/\∃y:AV,(y.size=32/\Cells g (aP e.heap.size) y)/\bC prog 107 #[.int .u64 o,.int .u64 v] g fun z a1=>∃b1:Int,z=.int .i64 b1/\(∃cs:AV,(.agg y:Value)=.agg cs/\cs.size=32/\Cells a1 (aP e.heap.size) cs)/\(∃cs:AV,(.agg x:Value)=.agg cs/\cs.size=32/\Cells a1 (aP w.heap.size) cs)/\bC prog 102 #[.agg x,.agg y] a1 fun c1 d1=>∃e1:Int,c1=.int .i64 e1/\let f1:=d1.alloc (.cells #[.int .i64 b1,.int .i64 e1] 3);bC prog 106 #[.slice (some (aP d1.heap.size)) 2 2] f1 fun g1 i1=>∃j1:Int,g1=.int .i64 j1/\K (.int .i64 j1) i1
variable{a b d K w}
theorem bE.of(h:bE.W a b d K w):bC prog 73 #[.pointer a,.agg b,.agg d] w K:=
 rqq func73 (C:=bE.k) h
end
def di.k:List Nat:= []
section
variable(a:OA)(b:AV)(K:KT)(w:World)
def di.W:Prop:=
 let d:=w.alloc (.cells b 24);let e:=d.alloc (.cells zC 53);bC prog 82 #[.pointer a] e fun f g=>∃i:Bool,f=.bool i/\Split (!i) ((zC.size=35/\(∀j∈zC.toList,j.oneCell'=true)/\∀k,k<35->Wr g ((aP d.heap.size).add k))/\let m:=setCells g (aP d.heap.size) zC.toList 0;∃n:AV,(n.size=35/\Cells m (aP d.heap.size) n)/\K (.tuple #[.agg n,.int .i64 1]) m) (let o:=g.drew;Is a fun p:Addr=>∃q:Option Nat,o.cell? (p.add 2)=some (.map q)/\∃r:AV,(r.size=32/\Cells o (aP w.heap.size) r)/\∃t:OA,(Instr.lookup 63 (.map q) (.agg r) false).run prog o=.ok (.pointer t) o/\Split ((t).isNone) ((zC.size=35/\(∀u∈zC.toList,u.oneCell'=true)/\∀v,v<35->Wr o ((aP d.heap.size).add v))/\let x:=setCells o (aP d.heap.size) zC.toList 0;∃y:AV,(y.size=35/\Cells x (aP d.heap.size) y)/\K (.tuple #[.agg y,.int .i64 6]) x) (let z:=o.drew;Is a fun a1:Addr=>∃b1:Option Nat,z.cell? (a1.add 2)=some (.map b1)/\∃c1:AV,(c1.size=32/\Cells z (aP w.heap.size) c1)/\∃d1:OA,(Instr.lookup 63 (.map b1) (.agg c1) false).run prog z=.ok (.pointer d1) z/\Is d1 fun e1:Addr=>∃f1:AV,(f1.size=35/\Cells z (e1.add 0) f1)/\bC prog 85 #[.agg f1] z fun g1 i1=>∃j1:AV,g1=.agg j1/\(j1.size=35/\(∀k1∈j1.toList,k1.oneCell'=true)/\∀m1,m1<35->Wr i1 ((aP d.heap.size).add m1))/\let n1:=setCells i1 (aP d.heap.size) j1.toList 0;∃o1:AV,(o1.size=35/\Cells n1 (aP d.heap.size) o1)/\K (.tuple #[.agg o1,.int .i64 0]) n1))
variable{a b K w}
theorem di.of(h:di.W a b K w):bC prog 78 #[.pointer a,.agg b] w K:=
 rqq func78 (C:=di.k) h
end
def eI.k:List Nat:= []
section
variable(a:OA)(K:KT)(w:World)
def eI.W:Prop:=
 Split (!(a).isNone) (Is a fun b:Addr=>∃d:OA,w.cell? (b.add 1)=some (.pointer d)/\K (.bool (!(d).isNone)) w) (K (.bool false) w)
variable{a K w}
theorem eI.of(h:eI.W a K w):bC prog 82 #[.pointer a] w K:=
 rqq func82 (C:=eI.k) h
end
def ak.k:List Nat:= []
def ak.q1(K:KT):aO:=(aL 0 (ck (bU (body f83))++(aS f83)) (bV (fun b6 w_=>match cutAt ak.k (bU (body f83))with|true=>Holds none [] prog 153 (bU (body f83)) (bS prog f83 K) b6 w_|false=>aW none [] prog 153 ak.k (bU (body f83)) (aS f83) (bS prog f83 K) b6 w_) (bS prog f83 K)))
def ak.e1(a b:Addr)(c:OA)(d:Addr)(e:OA)(f g:Nat)(i s:Int):Env:= [(3,.pointer (some a)),(4,.pointer (some b)),(6,.pointer c),(8,.pointer (some d)),(46,.slice e f g),(47,.int .i64 i),(48,.int .i64 s)]
def ak.u1:List Nat:= [3,4,6,8,46,47,48]
def ak.q2(K:KT):aO:=(aL 2 (ck (fk (sR (body f83)))++(aS f83)) (bV (fun b6 w_=>match cutAt ak.k (fk (sR (body f83)))with|true=>Holds none [] prog 153 (fk (sR (body f83))) (bS prog f83 K) b6 w_|false=>aW none [] prog 153 ak.k (fk (sR (body f83))) (aS f83) (bS prog f83 K) b6 w_) (bS prog f83 K)))
def ak.e2(a:Addr)(b:OA)(c d e f g i:Addr)(j:OA)(k m:Nat)(n s:Int):Env:= [(3,.pointer (some a)),(6,.pointer b),(8,.pointer (some c)),(11,.pointer (some d)),(12,.func (.func 112) #[] #[.pointer (some e),.pointer (some f),.pointer (some g)]),(13,.pointer (some i)),(92,.slice j k m),(93,.int .i64 n),(94,.int .i64 s)]
def ak.u2:List Nat:= [3,6,8,11,12,13,92,93,94]
def ak.q3(Q:aO):aO:=(aL 4 (ck (fk (bB (sL (aQ (lB (bB (sR (sL (fk (body f83))))))))))++(ck (aQ (sR (lB (bB (sR (sL (fk (body f83))))))))++ak.u2)) (bV (fun b6 w_=>match cutAt ak.k (fk (bB (sL (aQ (lB (bB (sR (sL (fk (body f83))))))))))with|true=>Holds none [] prog 153 (fk (bB (sL (aQ (lB (bB (sR (sL (fk (body f83)))))))))) (aL 3 (ck (aQ (sR (lB (bB (sR (sL (fk (body f83))))))))++ak.u2) (bV (fun b6 w_=>match cutAt ak.k (aQ (sR (lB (bB (sR (sL (fk (body f83))))))))with|true=>Holds none [] prog 153 (aQ (sR (lB (bB (sR (sL (fk (body f83)))))))) Q b6 w_|false=>aW none [] prog 153 ak.k (aQ (sR (lB (bB (sR (sL (fk (body f83)))))))) ak.u2 Q b6 w_) Q)) b6 w_|false=>aW none [] prog 153 ak.k (fk (bB (sL (aQ (lB (bB (sR (sL (fk (body f83)))))))))) (ck (aQ (sR (lB (bB (sR (sL (fk (body f83))))))))++ak.u2) (aL 3 (ck (aQ (sR (lB (bB (sR (sL (fk (body f83))))))))++ak.u2) (bV (fun b6 w_=>match cutAt ak.k (aQ (sR (lB (bB (sR (sL (fk (body f83))))))))with|true=>Holds none [] prog 153 (aQ (sR (lB (bB (sR (sL (fk (body f83)))))))) Q b6 w_|false=>aW none [] prog 153 ak.k (aQ (sR (lB (bB (sR (sL (fk (body f83)))))))) ak.u2 Q b6 w_) Q)) b6 w_) (aL 3 (ck (aQ (sR (lB (bB (sR (sL (fk (body f83))))))))++ak.u2) (bV (fun b6 w_=>match cutAt ak.k (aQ (sR (lB (bB (sR (sL (fk (body f83))))))))with|true=>Holds none [] prog 153 (aQ (sR (lB (bB (sR (sL (fk (body f83)))))))) Q b6 w_|false=>aW none [] prog 153 ak.k (aQ (sR (lB (bB (sR (sL (fk (body f83)))))))) ak.u2 Q b6 w_) Q))))
def ak.e3(a:Addr)(b:OA)(c d e f g i j:Addr)(k:OA)(m n:Nat)(o p:Int)(q:OA)(s:Unit):Env:= [(3,.pointer (some a)),(6,.pointer b),(8,.pointer (some c)),(11,.pointer (some d)),(12,.func (.func 112) #[] #[.pointer (some e),.pointer (some f),.pointer (some g)]),(13,.pointer (some i)),(15,.pointer (some j)),(92,.slice k m n),(93,.int .i64 o),(94,.int .i64 p),(134,.pointer q)]
def ak.u3:List Nat:= [3,6,8,11,12,13,15,92,93,94,134]
section
variable(a:OA)(b:AV)(d:OA)(e f:Nat)(K:KT)(w:World)
def ak.W:Prop:=
 let g:=w.alloc (.cells (#[.pointer a]:AV) 28);let i:=g.alloc (.cells b 24);∃j:OA,i.cell? (aP w.heap.size)=some (.pointer j)/\Is j fun k:Addr=>∃m:OA,i.cell? (k.add 1)=some (.pointer m)/\bC prog 46 #[.pointer m] i fun n o=>∃p:OA,n=.pointer p/\let q:=o.drew;∃r:AV,(r.size=32/\Cells q (aP g.heap.size) r)/\∃t:OA,q.cell? (aP w.heap.size)=some (.pointer t)/\Is t fun u:Addr=>∃v:Option Nat,q.cell? (u.add 2)=some (.map v)/\∃x:AV,(x.size=32/\Cells q (aP g.heap.size) x)/\∃y:OA,(Instr.lookup 63 (.map v) (.agg x) false).run prog q=.ok (.pointer y) q/\Is y fun z:Addr=>∃a1:Int,q.cell? ((z.add 0).add 32)=some (.int .u64 a1)/\Is (prog.built 53 [(0,.agg r),(1,.int .u64 (u64.wrap (a1+(1:Int))))]) fun b1:AV=>(let c1:=q.alloc (.map #[] 0);c1.cell? ((z.add 0).add 32)=some (.int .u64 a1)/\(Instr.lookup 63 (.map v) (.agg x) false).run prog c1=.ok (.pointer y) c1/\(∃cs:AV,(.agg x:Value)=.agg cs/\cs.size=32/\Cells c1 (aP g.heap.size) cs)/\c1.cell? (u.add 2)=some (.map v)/\c1.cell? (aP w.heap.size)=some (.pointer t)/\(∃cs:AV,(.agg r:Value)=.agg cs/\cs.size=32/\Cells c1 (aP g.heap.size) cs)/\Is (prog.built 129 [(0,.agg b1),(1,.map (some q.heap.size))]) fun d1:AV=>(let e1:=c1.alloc (.cells d1 129);let f1:=e1.alloc (.cells (#[.pointer none]:AV) 123);Wr f1 (aP e1.heap.size)/\let g1:=f1.setCell (aP e1.heap.size) (.pointer (some (aP c1.heap.size)));bC prog 111 #[.pointer p,.slice d e f] g1 fun i1 j1=>∃k1:OA,∃m1 n1:Nat,i1=.slice k1 m1 n1/\∃(o1:OA) (p1 q1:Nat) (r1:World),(Builtin.append_ #[33,33] 33 #[.slice k1 m1 n1,.slice d e f]).run prog j1=.ok (.slice o1 p1 q1) r1/\bC prog 57 #[.slice o1 p1 q1] r1 fun t1 u1=>∃v1:OA,∃x1 y1:Nat,t1=.slice v1 x1 y1/\Holds none [] prog 153 (.loop (lB (bB (sR (sL (aQ (sR (body f83)))))))) (ak.q1 K) [(3,.pointer (some (aP w.heap.size))),(4,.pointer (some (aP g.heap.size))),(6,.pointer none),(8,.pointer (some (aP e1.heap.size))),(46,.slice v1 x1 y1),(47,.int .i64 (x1:Int)),(48,.int .i64 0)] u1)/\(let z1:=c1.alloc (.cells (#[.pointer none]:AV) 123);z1.cell? ((z.add 0).add 32)=some (.int .u64 a1)/\(Instr.lookup 63 (.map v) (.agg x) false).run prog z1=.ok (.pointer y) z1/\(∃cs:AV,(.agg x:Value)=.agg cs/\cs.size=32/\Cells z1 (aP g.heap.size) cs)/\z1.cell? (u.add 2)=some (.map v)/\z1.cell? (aP w.heap.size)=some (.pointer t)/\(∃cs:AV,(.agg r:Value)=.agg cs/\cs.size=32/\Cells z1 (aP g.heap.size) cs)/\let a2:=z1.alloc (.cells d1 129);Wr a2 (aP c1.heap.size)/\let b2:=a2.setCell (aP c1.heap.size) (.pointer (some (aP z1.heap.size)));bC prog 111 #[.pointer p,.slice d e f] b2 fun c2 d2=>∃e2:OA,∃f2 g2:Nat,c2=.slice e2 f2 g2/\∃(i2:OA) (j2 k2:Nat) (m2:World),(Builtin.append_ #[33,33] 33 #[.slice e2 f2 g2,.slice d e f]).run prog d2=.ok (.slice i2 j2 k2) m2/\bC prog 57 #[.slice i2 j2 k2] m2 fun n2 o2=>∃p2:OA,∃q2 r2:Nat,n2=.slice p2 q2 r2/\Holds none [] prog 153 (.loop (lB (bB (sR (sL (aQ (sR (body f83)))))))) (ak.q1 K) [(3,.pointer (some (aP w.heap.size))),(4,.pointer (some (aP g.heap.size))),(6,.pointer none),(8,.pointer (some (aP c1.heap.size))),(46,.slice p2 q2 r2),(47,.int .i64 (q2:Int)),(48,.int .i64 0)] o2))/\(let t2:=q.alloc (.cells (#[.pointer none]:AV) 123);t2.cell? ((z.add 0).add 32)=some (.int .u64 a1)/\(Instr.lookup 63 (.map v) (.agg x) false).run prog t2=.ok (.pointer y) t2/\(∃cs:AV,(.agg x:Value)=.agg cs/\cs.size=32/\Cells t2 (aP g.heap.size) cs)/\t2.cell? (u.add 2)=some (.map v)/\t2.cell? (aP w.heap.size)=some (.pointer t)/\(∃cs:AV,(.agg r:Value)=.agg cs/\cs.size=32/\Cells t2 (aP g.heap.size) cs)/\let u2:=t2.alloc (.map #[] 0);u2.cell? ((z.add 0).add 32)=some (.int .u64 a1)/\(Instr.lookup 63 (.map v) (.agg x) false).run prog u2=.ok (.pointer y) u2/\(∃cs:AV,(.agg x:Value)=.agg cs/\cs.size=32/\Cells u2 (aP g.heap.size) cs)/\u2.cell? (u.add 2)=some (.map v)/\u2.cell? (aP w.heap.size)=some (.pointer t)/\(∃cs:AV,(.agg r:Value)=.agg cs/\cs.size=32/\Cells u2 (aP g.heap.size) cs)/\Is (prog.built 129 [(0,.agg b1),(1,.map (some t2.heap.size))]) fun v2:AV=>let x2:=u2.alloc (.cells v2 129);Wr x2 (aP q.heap.size)/\let y2:=x2.setCell (aP q.heap.size) (.pointer (some (aP u2.heap.size)));bC prog 111 #[.pointer p,.slice d e f] y2 fun z2 a3=>∃b3:OA,∃c3 d3:Nat,z2=.slice b3 c3 d3/\∃(e3:OA) (f3 g3:Nat) (i3:World),(Builtin.append_ #[33,33] 33 #[.slice b3 c3 d3,.slice d e f]).run prog a3=.ok (.slice e3 f3 g3) i3/\bC prog 57 #[.slice e3 f3 g3] i3 fun j3 k3=>∃m3:OA,∃n3 o3:Nat,j3=.slice m3 n3 o3/\Holds none [] prog 153 (.loop (lB (bB (sR (sL (aQ (sR (body f83)))))))) (ak.q1 K) [(3,.pointer (some (aP w.heap.size))),(4,.pointer (some (aP g.heap.size))),(6,.pointer none),(8,.pointer (some (aP q.heap.size))),(46,.slice m3 n3 o3),(47,.int .i64 (n3:Int)),(48,.int .i64 0)] k3)
variable{a b d e f K w}
theorem ak.of(h:ak.W a b d e f K w):bC prog 83 #[.pointer a,.agg b,.slice d e f] w K:=
 rqq func83 (C:=ak.k) h
end
section
variable(a b:Addr)(c:OA)(d:Addr)(e:OA)(f g:Nat)(i j:Int)(Q:aO)(w:World)
def ak.B1:Prop:=
 Split (decide (j<i)) ((0<=j/\j<(f:Int))/\Is e fun k:Addr=>∃m:AV,(m.size=32/\Cells w (k.add (j.toNat*32)) m)/\let n:=w.alloc (.cells zH 24);(m.size=32/\(∀o∈m.toList,o.oneCell'=true)/\∀p,p<32->Wr n ((aP w.heap.size).add p))/\let q:=setCells n (aP w.heap.size) m.toList 0;let r:=q.drew;∃t:AV,(t.size=32/\Cells r (aP w.heap.size) t)/\∃u:AV,(u.size=32/\Cells r b u)/\(dJ .u8 32 t/\dJ .u8 32 u)/\Split (!(eU t u)) (∃v:OA,r.cell? a=some (.pointer v)/\Is v fun x:Addr=>∃y:OA,r.cell? (x.add 1)=some (.pointer y)/\∃z:AV,(z.size=32/\Cells r (aP w.heap.size) z)/\∃a1:AV,(a1.size=32/\Cells r b a1)/\bC prog 51 #[.pointer y,.agg z,.agg a1] r fun b1 c1=>∃d1:Bool,b1=.bool d1/\Split (!d1) (let e1:=c1.drew;∃f1:OA,e1.cell? d=some (.pointer f1)/\∃g1:OA,e1.cell? d=some (.pointer g1)/\Is g1 fun i1:Addr=>∃j1:OA,∃k1 m1:Nat,e1.cell? ((i1.add 0).add 33)=some (.slice j1 k1 m1)/\∃n1:AV,(n1.size=32/\Cells e1 (aP w.heap.size) n1)/\n1.size=32/\let o1:=e1.alloc (.cells (n1.toList++ []).toArray 24);o1.cell? ((i1.add 0).add 33)=some (.slice j1 k1 m1)/\o1.cell? d=some (.pointer g1)/\o1.cell? d=some (.pointer f1)/\∃(p1:OA) (q1 r1:Nat) (t1:World),(Builtin.append_ #[33,33] 33 #[.slice j1 k1 m1,.slice (some (aP e1.heap.size)) 1 1]).run prog o1=.ok (.slice p1 q1 r1) t1/\t1.cell? d=some (.pointer f1)/\Is f1 fun u1:Addr=>Wr t1 ((u1.add 0).add 33)/\let v1:=t1.setCell ((u1.add 0).add 33) (.slice p1 q1 r1);Q .normal [(3,.pointer (some a)),(4,.pointer (some b)),(6,.pointer c),(8,.pointer (some d)),(46,.slice e f g),(47,.int .i64 i),(48,.int .i64 (i64.wrap (j+(1:Int))))] v1) (Q .normal [(3,.pointer (some a)),(4,.pointer (some b)),(6,.pointer c),(8,.pointer (some d)),(46,.slice e f g),(47,.int .i64 i),(48,.int .i64 (i64.wrap (j+(1:Int))))] c1)) (Q .normal [(3,.pointer (some a)),(4,.pointer (some b)),(6,.pointer c),(8,.pointer (some d)),(46,.slice e f g),(47,.int .i64 i),(48,.int .i64 (i64.wrap (j+(1:Int))))] r)) (Q (.exit 0) [(3,.pointer (some a)),(4,.pointer (some b)),(6,.pointer c),(8,.pointer (some d)),(46,.slice e f g),(47,.int .i64 i),(48,.int .i64 j)] w)
theorem ak.b1:(aW none [] prog 153 ak.k (lB (bB (sR (sL (aQ (sR (body f83))))))) ak.u1 Q [(3,.pointer (some a)),(4,.pointer (some b)),(6,.pointer c),(8,.pointer (some d)),(46,.slice e f g),(47,.int .i64 i),(48,.int .i64 j)] w)=ak.B1 a b c d e f g i j Q w:=by kernel_rfl
variable{a b c d e f g i}
theorem ak.cC(I:Int->World->Prop)(μ:Int->World->Nat)(s:Int){Q:aO}{w:World}(h0:I s w)
 (round:∀s w,I s w->ak.B1 a b c d e f g i s (bR (ak.e1 a b c d e f g i) I μ s w Q) w):Holds none [] prog 153 (.loop (lB (bB (sR (sL (aQ (sR (body f83)))))))) Q (ak.e1 a b c d e f g i s) w:=
 bp ng mix (ak.e1 a b c d e f g i) I μ ak.k ak.u1 s (fun s Q w=>ak.B1 a b c d e f g i s Q w) (fun s Q w=>ak.b1 a b c d e f g i s Q w) h0 round
end
section
def ak.cU(a b:Addr)(c:OA)(d:Addr)(e:OA)(f g:Nat)(i j:Int)(K:KT)(w:World):Prop:=
 let k:=w.drew;∃m:OA,k.cell? d=some (.pointer m)/\Is m fun n:Addr=>∃o:OA,∃p q:Nat,k.cell? ((n.add 0).add 33)=some (.slice o p q)/\∃r:OA,k.cell? a=some (.pointer r)/\bC prog 53 #[.slice o p q,.func (.func 73) #[.pointer r] #[]] k fun t u=>t=.tuple #[]/\let v:=u.alloc (.cells (#[.slice none 0 0]:AV) 33);let x:=v.alloc (.cells (#[.nilFunc]:AV) 48);Wr x (aP v.heap.size)/\let y:=x.setCell (aP v.heap.size) (.func (.func 114) #[] #[.pointer (some d),.pointer (some a),.pointer (some b)]);∃z:OA,y.cell? d=some (.pointer z)/\Is z fun a1:Addr=>∃b1:OA,∃c1 d1:Nat,y.cell? ((a1.add 0).add 33)=some (.slice b1 c1 d1)/\Holds none [] prog 153 (.loop (lB (bB (sR (sL (fk (body f83))))))) (ak.q2 K) [(3,.pointer (some a)),(6,.pointer c),(8,.pointer (some d)),(11,.pointer (some (aP u.heap.size))),(12,.func (.func 112) #[] #[.pointer (some (aP u.heap.size)),.pointer (some a),.pointer (some b)]),(13,.pointer (some (aP v.heap.size))),(92,.slice b1 c1 d1),(93,.int .i64 (c1:Int)),(94,.int .i64 0)] y
variable(a b:Addr)(c:OA)(d:Addr)(e:OA)(f g:Nat)(i j:Int)(K:KT)(w:World)
theorem ak.df:(ak.q1 K (.exit 0) [(3,.pointer (some a)),(4,.pointer (some b)),(6,.pointer c),(8,.pointer (some d)),(46,.slice e f g),(47,.int .i64 i),(48,.int .i64 j)] w)=ak.cU a b c d e f g i j K w:=by kernel_rfl
end
section
variable(a:Addr)(b:OA)(c d e f g i:Addr)(j:OA)(k m:Nat)(n o:Int)(Q:aO)(w:World)
def ak.B2:Prop:=
 Split (decide (o<n)) ((0<=o/\o<(k:Int))/\Is j fun p:Addr=>∃q:AV,(q.size=32/\Cells w (p.add (o.toNat*32)) q)/\let r:=w.alloc (.cells zH 24);(q.size=32/\(∀t∈q.toList,t.oneCell'=true)/\∀u,u<32->Wr r ((aP w.heap.size).add u))/\let v:=setCells r (aP w.heap.size) q.toList 0;let x:=v.alloc (.map #[] 0);let y:=x.alloc (.cells (#[.map none]:AV) 127);Wr y (aP x.heap.size)/\let z:=y.setCell (aP x.heap.size) (.map (some v.heap.size));∃a1:AV,(a1.size=32/\Cells z (aP w.heap.size) a1)/\bC prog 112 #[.agg a1,.func (.func 116) #[] #[.pointer (some i),.pointer (some (aP x.heap.size)),.pointer (some a)],.pointer (some e),.pointer (some f),.pointer (some g)] z fun b1 c1=>∃d1:Bool,b1=.bool d1/\let e1:=c1.drew;∃f1:OA,e1.cell? c=some (.pointer f1)/\∃g1:OA,e1.cell? c=some (.pointer g1)/\Is g1 fun i1:Addr=>∃j1:OA,∃k1 m1:Nat,e1.cell? ((i1.add 0).add 34)=some (.slice j1 k1 m1)/\let n1:=e1.alloc (.cells #[.bool d1] 4);n1.cell? ((i1.add 0).add 34)=some (.slice j1 k1 m1)/\n1.cell? c=some (.pointer g1)/\n1.cell? c=some (.pointer f1)/\∃(o1:OA) (p1 q1:Nat) (r1:World),(Builtin.append_ #[51,51] 51 #[.slice j1 k1 m1,.slice (some (aP e1.heap.size)) 1 1]).run prog n1=.ok (.slice o1 p1 q1) r1/\r1.cell? c=some (.pointer f1)/\Is f1 fun t1:Addr=>Wr r1 ((t1.add 0).add 34)/\let u1:=r1.setCell ((t1.add 0).add 34) (.slice o1 p1 q1);Split (!d1) (Q .normal [(3,.pointer (some a)),(6,.pointer b),(8,.pointer (some c)),(11,.pointer (some d)),(12,.func (.func 112) #[] #[.pointer (some e),.pointer (some f),.pointer (some g)]),(13,.pointer (some i)),(92,.slice j k m),(93,.int .i64 n),(94,.int .i64 (i64.wrap (o+(1:Int))))] u1) (∃v1:OA,u1.cell? c=some (.pointer v1)/\Is v1 fun x1:Addr=>∃y1:Int,u1.cell? ((x1.add 0).add 32)=some (.int .u64 y1)/\Is v1 fun z1:Addr=>Wr u1 ((z1.add 0).add 32)/\let a2:=u1.setCell ((z1.add 0).add 32) (.int .u64 (u64.wrap (y1+(1:Int))));let b2:=a2.drew;∃c2:OA,b2.cell? c=some (.pointer c2)/\Is c2 fun d2:Addr=>∃e2:Option Nat,b2.cell? (d2.add 35)=some (.map e2)/\∃f2:AV,(f2.size=32/\Cells b2 (aP w.heap.size) f2)/\∃g2:Option Nat,b2.cell? (aP x.heap.size)=some (.map g2)/\∃i2:Nat,(Builtin.len_ #[127] 3 #[.map g2]).run prog b2=.ok (.int .i64 (i2:Int)) b2/\∃j2:World,(Instr.mapUpdate 127 (.map e2) (.agg f2) (.int .i64 (i2:Int))).run prog b2=.ok () j2/\∃k2:Option Nat,j2.cell? (aP x.heap.size)=some (.map k2)/\∃(m2:OA) (n2:World),(Instr.range 127 (.map k2)).run prog j2=.ok (.pointer m2) n2/\Holds none [] prog 153 (.loop (lB (bB (sR (sL (bU (aQ (sR (bB (sL (aQ (lB (bB (sR (sL (fk (body f83))))))))))))))))) (ak.q3 Q) [(3,.pointer (some a)),(6,.pointer b),(8,.pointer (some c)),(11,.pointer (some d)),(12,.func (.func 112) #[] #[.pointer (some e),.pointer (some f),.pointer (some g)]),(13,.pointer (some i)),(15,.pointer (some (aP w.heap.size))),(92,.slice j k m),(93,.int .i64 n),(94,.int .i64 o),(134,.pointer m2)] n2)) (Q (.exit 2) [(3,.pointer (some a)),(6,.pointer b),(8,.pointer (some c)),(11,.pointer (some d)),(12,.func (.func 112) #[] #[.pointer (some e),.pointer (some f),.pointer (some g)]),(13,.pointer (some i)),(92,.slice j k m),(93,.int .i64 n),(94,.int .i64 o)] w)
theorem ak.b2:(aW none [] prog 153 ak.k (lB (bB (sR (sL (fk (body f83)))))) ak.u2 Q [(3,.pointer (some a)),(6,.pointer b),(8,.pointer (some c)),(11,.pointer (some d)),(12,.func (.func 112) #[] #[.pointer (some e),.pointer (some f),.pointer (some g)]),(13,.pointer (some i)),(92,.slice j k m),(93,.int .i64 n),(94,.int .i64 o)] w)=ak.B2 a b c d e f g i j k m n o Q w:=by kernel_rfl
variable{a b c d e f g i j k m n}
theorem ak.gU(I:Int->World->Prop)(μ:Int->World->Nat)(s:Int){Q:aO}{w:World}(h0:I s w)
 (round:∀s w,I s w->ak.B2 a b c d e f g i j k m n s (bR (ak.e2 a b c d e f g i j k m n) I μ s w Q) w):Holds none [] prog 153 (.loop (lB (bB (sR (sL (fk (body f83))))))) Q (ak.e2 a b c d e f g i j k m n s) w:=
 bp ng mix (ak.e2 a b c d e f g i j k m n) I μ ak.k ak.u2 s (fun s Q w=>ak.B2 a b c d e f g i j k m n s Q w) (fun s Q w=>ak.b2 a b c d e f g i j k m n s Q w) h0 round
end
section
def ak.iN(a:Addr)(b:OA)(c d e f g i:Addr)(j:OA)(k m:Nat)(n o:Int)(K:KT)(w:World):Prop:=
 ∃p:OA,w.cell? c=some (.pointer p)/\K (.pointer p) w
variable(a:Addr)(b:OA)(c d e f g i:Addr)(j:OA)(k m:Nat)(n o:Int)(K:KT)(w:World)
theorem ak.jN:(ak.q2 K (.exit 2) [(3,.pointer (some a)),(6,.pointer b),(8,.pointer (some c)),(11,.pointer (some d)),(12,.func (.func 112) #[] #[.pointer (some e),.pointer (some f),.pointer (some g)]),(13,.pointer (some i)),(92,.slice j k m),(93,.int .i64 n),(94,.int .i64 o)] w)=ak.iN a b c d e f g i j k m n o K w:=by kernel_rfl
end
section
variable(a:Addr)(b:OA)(c d e f g i j:Addr)(k:OA)(m n:Nat)(o p:Int)(q:OA)(Q:aO)(w:World)
def ak.B3:Prop:=
 (∃r:World,(Instr.next (.pointer q) false 0).run prog w=.ok (.tuple #[.bool false]) r/\Q (.exit 4) [(3,.pointer (some a)),(6,.pointer b),(8,.pointer (some c)),(11,.pointer (some d)),(12,.func (.func 112) #[] #[.pointer (some e),.pointer (some f),.pointer (some g)]),(13,.pointer (some i)),(15,.pointer (some j)),(92,.slice k m n),(93,.int .i64 o),(94,.int .i64 p),(134,.pointer q)] r)\/∃(t u:Value) (v:World),(Instr.next (.pointer q) false 0).run prog w=.ok (.tuple #[.bool true,t,u]) v/\∃x:AV,∃y:Int,(Instr.entry (.pointer q)).run prog v=.ok (.tuple #[.agg x,.int .i64 y]) v/\let z:=v.alloc (.cells zH 24);(x.size=32/\(∀a1∈x.toList,a1.oneCell'=true)/\∀b1,b1<32->Wr z ((aP v.heap.size).add b1))/\let c1:=setCells z (aP v.heap.size) x.toList 0;let d1:=c1.drew;∃e1:OA,d1.cell? c=some (.pointer e1)/\Is e1 fun f1:Addr=>∃g1:Option Nat,d1.cell? (f1.add 35)=some (.map g1)/\∃i1:AV,(i1.size=32/\Cells d1 (aP v.heap.size) i1)/\∃j1:World,(Instr.mapUpdate 127 (.map g1) (.agg i1) (.int .i64 (i64.wrap (y+(1:Int))))).run prog d1=.ok () j1/\Q .normal [(3,.pointer (some a)),(6,.pointer b),(8,.pointer (some c)),(11,.pointer (some d)),(12,.func (.func 112) #[] #[.pointer (some e),.pointer (some f),.pointer (some g)]),(13,.pointer (some i)),(15,.pointer (some j)),(92,.slice k m n),(93,.int .i64 o),(94,.int .i64 p),(134,.pointer q)] j1
theorem ak.b3:(aW none [] prog 153 ak.k (lB (bB (sR (sL (bU (aQ (sR (bB (sL (aQ (lB (bB (sR (sL (fk (body f83)))))))))))))))) ak.u3 Q [(3,.pointer (some a)),(6,.pointer b),(8,.pointer (some c)),(11,.pointer (some d)),(12,.func (.func 112) #[] #[.pointer (some e),.pointer (some f),.pointer (some g)]),(13,.pointer (some i)),(15,.pointer (some j)),(92,.slice k m n),(93,.int .i64 o),(94,.int .i64 p),(134,.pointer q)] w)=ak.B3 a b c d e f g i j k m n o p q Q w:=by kernel_rfl
variable{a b c d e f g i j k m n o p q}
theorem ak.vM(I:Unit->World->Prop)(μ:Unit->World->Nat)(s:Unit){Q:aO}{w:World}(h0:I s w)
 (round:∀s w,I s w->ak.B3 a b c d e f g i j k m n o p q (bR (ak.e3 a b c d e f g i j k m n o p q) I μ s w Q) w):Holds none [] prog 153 (.loop (lB (bB (sR (sL (bU (aQ (sR (bB (sL (aQ (lB (bB (sR (sL (fk (body f83))))))))))))))))) Q (ak.e3 a b c d e f g i j k m n o p q s) w:=
 bp ng mix (ak.e3 a b c d e f g i j k m n o p q) I μ ak.k ak.u3 s (fun s Q w=>ak.B3 a b c d e f g i j k m n o p q Q w) (fun s Q w=>ak.b3 a b c d e f g i j k m n o p q Q w) h0 round
end
section
def ak.xu(a:Addr)(b:OA)(c d e f g i j:Addr)(k:OA)(m n:Nat)(o p:Int)(q:OA)(Q:aO)(w:World):Prop:=
 ∃r:OA,∃t u:Nat,w.cell? d=some (.slice r t u)/\∃v:AV,(v.size=32/\Cells w j v)/\v.size=32/\let x:=w.alloc (.cells (v.toList++ []).toArray 24);∃(y:OA) (z a1:Nat) (b1:World),(Builtin.append_ #[33,33] 33 #[.slice r t u,.slice (some (aP w.heap.size)) 1 1]).run prog x=.ok (.slice y z a1) b1/\Wr b1 d/\let c1:=b1.setCell d (.slice y z a1);Q .normal [(3,.pointer (some a)),(6,.pointer b),(8,.pointer (some c)),(11,.pointer (some d)),(12,.func (.func 112) #[] #[.pointer (some e),.pointer (some f),.pointer (some g)]),(13,.pointer (some i)),(92,.slice k m n),(93,.int .i64 o),(94,.int .i64 (i64.wrap (p+(1:Int))))] c1
variable(a:Addr)(b:OA)(c d e f g i j:Addr)(k:OA)(m n:Nat)(o p:Int)(q:OA)(Q:aO)(w:World)
theorem ak.Ca:(ak.q3 Q (.exit 4) [(3,.pointer (some a)),(6,.pointer b),(8,.pointer (some c)),(11,.pointer (some d)),(12,.func (.func 112) #[] #[.pointer (some e),.pointer (some f),.pointer (some g)]),(13,.pointer (some i)),(15,.pointer (some j)),(92,.slice k m n),(93,.int .i64 o),(94,.int .i64 p),(134,.pointer q)] w)=ak.xu a b c d e f g i j k m n o p q Q w:=by kernel_rfl
end
def iw.k:List Nat:= []
section
variable(a:AV)(K:KT)(w:World)
def iw.W:Prop:=
 let b:=w.alloc (.cells a 53);let d:=b.alloc (.cells zC 53);let e:=d.drew;∃f:OA,∃g i:Nat,e.cell? ((aP w.heap.size).add 33)=some (.slice f g i)/\∃j:OA,∃k m:Nat,e.cell? ((aP w.heap.size).add 34)=some (.slice j k m)/\bC prog 55 #[.slice f g i] e fun n o=>∃p:OA,∃q r:Nat,n=.slice p q r/\o.cell? ((aP w.heap.size).add 34)=some (.slice j k m)/\bC prog 121 #[.slice j k m] o fun t u=>∃v:OA,∃x y:Nat,t=.slice v x y/\Wr u ((aP w.heap.size).add 33)/\let z:=u.setCell ((aP w.heap.size).add 33) (.slice p q r);Wr z ((aP w.heap.size).add 34)/\let a1:=z.setCell ((aP w.heap.size).add 34) (.slice v x y);∃b1:AV,(b1.size=35/\Cells a1 (aP w.heap.size) b1)/\(b1.size=35/\(∀c1∈b1.toList,c1.oneCell'=true)/\∀d1,d1<35->Wr a1 ((aP b.heap.size).add d1))/\let e1:=setCells a1 (aP b.heap.size) b1.toList 0;∃f1:AV,(f1.size=35/\Cells e1 (aP b.heap.size) f1)/\K (.agg f1) e1
variable{a K w}
theorem iw.of(h:iw.W a K w):bC prog 85 #[.agg a] w K:=
 rqq func85 (C:=iw.k) h
end
def eT.k:List Nat:= []
section
variable(a:AV)(b:Addr)(K:KT)(w:World)
def eT.W:Prop:=
 let d:=w.alloc (.cells a 24);let e:=d.drew;∃f:OA,e.cell? b=some (.pointer f)/\Is f fun g:Addr=>∃i:Option Nat,e.cell? (g.add 2)=some (.map i)/\∃j:AV,(j.size=32/\Cells e (aP w.heap.size) j)/\∃k:OA,(Instr.lookup 63 (.map i) (.agg j) false).run prog e=.ok (.pointer k) e/\K (.bool ((k).isNone)) e
variable{a b K w}
theorem eT.of(h:eT.W a b K w):bC prog 105 #[.agg a,.pointer (some b)] w K:=
 rqq func105 (C:=eT.k) h
end
def bO.k:List Nat:= []
def bO.q1(K:KT):aO:=(aL 0 (ck (aQ (sR (body f106)))++(aS f106)) (bV (fun b6 w_=>match cutAt bO.k (aQ (sR (body f106)))with|true=>Holds none [] prog 18 (aQ (sR (body f106))) (bS prog f106 K) b6 w_|false=>aW none [] prog 18 bO.k (aQ (sR (body f106))) (aS f106) (bS prog f106 K) b6 w_) (bS prog f106 K)))
def bO.e1(a:Int)(b:OA)(c d:Nat)(e:Int)(s:Int×Int):Env:= [(2,.int .i64 s.1),(3,.int .i64 a),(6,.slice b c d),(7,.int .i64 e),(8,.int .i64 s.2)]
def bO.u1:List Nat:= [2,3,6,7,8]
section
variable(a:OA)(b d:Nat)(K:KT)(w:World)
def bO.W:Prop:=
 Holds none [] prog 18 (.loop (lB (bB (sR (sL (aQ (body f106))))))) (bO.q1 K) [(2,.int .i64 0),(3,.int .i64 0),(6,.slice a b d),(7,.int .i64 (b:Int)),(8,.int .i64 0)] w
variable{a b d K w}
theorem bO.of(h:bO.W a b d K w):bC prog 106 #[.slice a b d] w K:=
 rqq func106 (C:=bO.k) h
end
section
variable(a b:Int)(c:OA)(d e:Nat)(f g:Int)(Q:aO)(w:World)
def bO.B1:Prop:=
 Split (decide (g<f)) ((0<=g/\g<(d:Int))/\Is c fun i:Addr=>∃j:Int,w.cell? (i.add (g.toNat*1))=some (.int .i64 j)/\Split (j != b) (Q .ret [(2,.int .i64 j),(3,.int .i64 b),(6,.slice c d e),(7,.int .i64 f),(8,.int .i64 g)] w) (Q .normal [(2,.int .i64 a),(3,.int .i64 b),(6,.slice c d e),(7,.int .i64 f),(8,.int .i64 (i64.wrap (g+(1:Int))))] w)) (Q (.exit 0) [(2,.int .i64 a),(3,.int .i64 b),(6,.slice c d e),(7,.int .i64 f),(8,.int .i64 g)] w)
theorem bO.b1:(aW none [] prog 18 bO.k (lB (bB (sR (sL (aQ (body f106)))))) bO.u1 Q [(2,.int .i64 a),(3,.int .i64 b),(6,.slice c d e),(7,.int .i64 f),(8,.int .i64 g)] w)=bO.B1 a b c d e f g Q w:=by kernel_rfl
variable{b c d e f}
theorem bO.cC(I:Int×Int->World->Prop)(μ:Int×Int->World->Nat)(s:Int×Int){Q:aO}{w:World}(h0:I s w)
 (round:∀s w,I s w->bO.B1 (s.1) b c d e f (s.2) (bR (bO.e1 b c d e f) I μ s w Q) w):Holds none [] prog 18 (.loop (lB (bB (sR (sL (aQ (body f106))))))) Q (bO.e1 b c d e f s) w:=
 bp ng mix (bO.e1 b c d e f) I μ bO.k bO.u1 s (fun s Q w=>bO.B1 (s.1) b c d e f (s.2) Q w) (fun s Q w=>bO.b1 (s.1) b c d e f (s.2) Q w) h0 round
end
section
def bO.cU(a b:Int)(c:OA)(d e:Nat)(f g:Int)(K:KT)(w:World):Prop:=
 K (.int .i64 b) w
variable(a b:Int)(c:OA)(d e:Nat)(f g:Int)(K:KT)(w:World)
theorem bO.df:(bO.q1 K (.exit 0) [(2,.int .i64 a),(3,.int .i64 b),(6,.slice c d e),(7,.int .i64 f),(8,.int .i64 g)] w)=bO.cU a b c d e f g K w:=by kernel_rfl
end
def dK.k:List Nat:= []
section
variable(a b:Int)(K:KT)(w:World)
def dK.W:Prop:=
 bC prog 139 #[.int .u64 a] w fun d e=>∃f:Bool,d=.bool f/\bC prog 139 #[.int .u64 b] e fun g i=>∃j:Bool,g=.bool j/\Split f (Split j (K (.int .i64 0) i) (K (.int .i64 (-1)) i)) (Split j (K (.int .i64 1) i) (Split (decide (a<b)) (K (.int .i64 (-1)) i) (Split (decide (a>b)) (K (.int .i64 1) i) (K (.int .i64 0) i))))
variable{a b K w}
theorem dK.of(h:dK.W a b K w):bC prog 107 #[.int .u64 a,.int .u64 b] w K:=
 rqq func107 (C:=dK.k) h
end
def dv.k:List Nat:= []
section
variable(a:OA)(b d:AV)(K:KT)(w:World)
def dv.W:Prop:=
 let e:=w.alloc (.cells b 24);let f:=e.alloc (.cells d 24);let g:=f.drew;∃i:AV,(i.size=32/\Cells g (aP w.heap.size) i)/\∃j:AV,(j.size=32/\Cells g (aP e.heap.size) j)/\(dJ .u8 32 i/\dJ .u8 32 j)/\Split (!(eU i j)) (Is a fun k:Addr=>∃m:OA,g.cell? (k.add 1)=some (.pointer m)/\∃n:AV,(n.size=32/\Cells g (aP w.heap.size) n)/\∃o:AV,(o.size=32/\Cells g (aP e.heap.size) o)/\bC prog 51 #[.pointer m,.agg n,.agg o] g fun p q=>∃r:Bool,p=.bool r/\Split (!r) (Is a fun t:Addr=>∃u:OA,q.cell? (t.add 1)=some (.pointer u)/\∃v:AV,(v.size=32/\Cells q (aP e.heap.size) v)/\∃x:AV,(x.size=32/\Cells q (aP w.heap.size) x)/\bC prog 51 #[.pointer u,.agg v,.agg x] q fun y z=>∃a1:Bool,y=.bool a1/\K (.bool (!a1)) z) (K (.bool false) q)) (K (.bool false) g)
variable{a b d K w}
theorem dv.of(h:dv.W a b d K w):bC prog 113 #[.pointer a,.agg b,.agg d] w K:=
 rqq func113 (C:=dv.k) h
end
def b7.k:List Nat:= []
section
variable(a:AV)(b d e:Addr)(K:KT)(w:World)
def b7.W:Prop:=
 let f:=w.alloc (.cells a 24);let g:=f.drew;∃i:OA,g.cell? b=some (.pointer i)/\Is i fun j:Addr=>∃k:Option Nat,g.cell? (j.add 35)=some (.map k)/\∃m:AV,(m.size=32/\Cells g (aP w.heap.size) m)/\∃n:Int,∃o:Bool,(Instr.lookup 127 (.map k) (.agg m) true).run prog g=.ok (.tuple #[.int .i64 n,.bool o]) g/\Split o (K (.int .i64 n) g) (∃p:OA,g.cell? d=some (.pointer p)/\∃q:AV,(q.size=32/\Cells g e q)/\∃r:AV,(r.size=32/\Cells g (aP w.heap.size) r)/\bC prog 115 #[.pointer p,.agg q,.agg r] g fun t u=>∃v:Int,t=.int .i64 v/\K (.int .i64 v) u)
variable{a b d e K w}
theorem b7.of(h:b7.W a b d e K w):bC prog 114 #[.agg a,.pointer (some b),.pointer (some d),.pointer (some e)] w K:=
 rqq func114 (C:=b7.k) h
end
def cM.k:List Nat:= []
section
variable(a:AV)(b d e:Addr)(K:KT)(w:World)
def cM.W:Prop:=
 let f:=w.alloc (.cells a 24);let g:=f.drew;∃i:Option Nat,g.cell? d=some (.map i)/\∃j:AV,(j.size=32/\Cells g (aP w.heap.size) j)/\∃k:Value,g.cell? b=some (k)/\∃m:AV,(m.size=32/\Cells g (aP w.heap.size) m)/\∃(n:Nat) (o p:AV) (q:Func),(k:Value)=.func (.func n) o p/\prog.funcs[n]? =some q/\q.body.isSome=true/\bC prog n (o.toList++([.agg m]:List Value)++p.toList).toArray g fun r t=>∃u:Int,r=.int .i64 u/\(∃cs:AV,(.agg j:Value)=.agg cs/\cs.size=32/\Cells t (aP w.heap.size) cs)/\t.cell? d=some (.map i)/\∃v:World,(Instr.mapUpdate 127 (.map i) (.agg j) (.int .i64 u)).run prog t=.ok () v/\let x:=v.drew;∃y:Option Nat,x.cell? d=some (.map y)/\∃z:Nat,(Builtin.len_ #[127] 3 #[.map y]).run prog x=.ok (.int .i64 (z:Int)) x/\∃a1:OA,x.cell? e=some (.pointer a1)/\Is a1 fun b1:Addr=>∃c1:Int,x.cell? (b1.add 0)=some (.int .i64 c1)/\Split (decide ((z:Int)<=c1)) (∃d1:Option Nat,x.cell? d=some (.map d1)/\∃e1:AV,(e1.size=32/\Cells x (aP w.heap.size) e1)/\∃f1:Int,(Instr.lookup 127 (.map d1) (.agg e1) false).run prog x=.ok (.int .i64 f1) x/\∃g1:OA,x.cell? e=some (.pointer g1)/\Is g1 fun i1:Addr=>∃j1:Int,x.cell? (i1.add 0)=some (.int .i64 j1)/\K (.bool (decide (f1<j1))) x) (K (.bool false) x)
variable{a b d e K w}
theorem cM.of(h:cM.W a b d e K w):bC prog 116 #[.agg a,.pointer (some b),.pointer (some d),.pointer (some e)] w K:=
 rqq func116 (C:=cM.k) h
end
def dW.k:List Nat:= []
section
variable(a:OA)(b d:Nat)(K:KT)(w:World)
def dW.W:Prop:=
 Split ((a).isNone) (K (.slice none 0 0) w) (let e:=w.alloc (.cells #[] 4);∃(f:OA) (g i:Nat) (j:World),(Builtin.append_ #[51,51] 51 #[.slice (some (aP w.heap.size)) 0 0,.slice a b d]).run prog e=.ok (.slice f g i) j/\K (.slice f g i) j)
variable{a b d K w}
theorem dW.of(h:dW.W a b d K w):bC prog 121 #[.slice a b d] w K:=
 rqq func121 (C:=dW.k) h
end
def fC.k:List Nat:= []
section
variable(a:Int)(K:KT)(w:World)
def fC.W:Prop:=
 K (.bool (a != a)) w
variable{a K w}
theorem fC.of(h:fC.W a K w):bC prog 139 #[.int .u64 a] w K:=
 rqq func139 (C:=fC.k) h
end
def bg.k:List Nat:= []
def bg.uG(K:KT):aO:=(aL 0 (ck (aQ (body f115))++(aS f115)) (bV (fun b6 w_=>match cutAt bg.k (aQ (body f115))with|true=>Holds none [] prog 33 (aQ (body f115)) (bS prog f115 K) b6 w_|false=>aW none [] prog 33 bg.k (aQ (body f115)) (aS f115) (bS prog f115 K) b6 w_) (bS prog f115 K)))
section
variable(a:OA)(b d:AV)(K:KT)(w:World)
def bg.W:Prop:=
 let e:=w.alloc (.cells (#[.pointer a]:AV) 28);let f:=e.alloc (.cells b 24);let g:=f.alloc (.cells d 24);let i:=g.alloc (.cells (#[.int .i64 0]:AV) 3);let j:=i.drew;∃k:OA,j.cell? (aP w.heap.size)=some (.pointer k)/\Is k fun m:Addr=>∃n:OA,j.cell? (m.add 1)=some (.pointer n)/\∃o:AV,(o.size=32/\Cells j (aP e.heap.size) o)/\bC prog 109 #[.pointer n,.agg o] j fun p q=>∃r:Value,p=r/\Holds none [] prog 33 (bB (sR (sL (sR (body f115))))) (bg.uG K) [(3,.pointer (some (aP w.heap.size))),(5,.pointer (some (aP f.heap.size))),(6,.pointer (some (aP g.heap.size))),(15,r)] q
variable{a b d K w}
theorem bg.of(h:bg.W a b d K w):bC prog 115 #[.pointer a,.agg b,.agg d] w K:=
 rqq func115 (C:=bg.k) h
end
section
def bg.A1(l:Nat)(a b c:Addr)(d:Value)(e:AV)(Q:aO)(w:World):Prop:=
 let f:=w.alloc (.cells zH 24);(e.size=32/\(∀g∈e.toList,g.oneCell'=true)/\∀i,i<32->Wr f ((aP w.heap.size).add i))/\let j:=setCells f (aP w.heap.size) e.toList 0;Q .normal [(3,.pointer (some a)),(5,.pointer (some b)),(6,.pointer (some c)),(7,.pointer (some (aP w.heap.size)))] j
variable(l:Nat)(a b c:Addr)(d:Value)(e:AV)(Q:aO)(w:World)
theorem bg.a1:(aW (some l) [] prog 33 bg.k (rA (bB (sR (sL (sR (body f115)))))) (ck (rB (bB (sR (sL (sR (body f115))))))) Q [(3,.pointer (some a)),(5,.pointer (some b)),(6,.pointer (some c)),(15,d),(16,.agg e)] w)=bg.A1 l a b c d e Q w:=by kernel_rfl
end
section
def bg.Y1(l:Nat)(a b c d:Addr)(Q:aO)(w:World):Prop:=
 let e:=w.drew;∃f:OA,e.cell? a=some (.pointer f)/\Is f fun g:Addr=>∃i:Option Nat,e.cell? (g.add 2)=some (.map i)/\∃j:AV,(j.size=32/\Cells e d j)/\∃k:OA,(Instr.lookup 63 (.map i) (.agg j) false).run prog e=.ok (.pointer k) e/\Is k fun m:Addr=>∃n:Option Nat,e.cell? (m.add 35)=some (.map n)/\∃o:AV,(o.size=32/\Cells e b o)/\∃p:Int,∃q:Bool,(Instr.lookup 127 (.map n) (.agg o) true).run prog e=.ok (.tuple #[.int .i64 p,.bool q]) e/\Split q (Wr e c/\let r:=e.setCell c (.int .i64 p);Q .ret [] r) (Q .normal [] e)
variable(l:Nat)(a b c d:Addr)(Q:aO)(w:World)
theorem bg.y1:(aW (some l) [] prog 33 bg.k (rB (bB (sR (sL (sR (body f115)))))) [] Q [(3,.pointer (some a)),(5,.pointer (some b)),(6,.pointer (some c)),(7,.pointer (some d))] w)=bg.Y1 l a b c d Q w:=by kernel_rfl
end
section
def bg.fD(a b c:Addr)(d:Value)(ms:AV)(K:KT)(w:World):Prop:=
 Wr w c/\let e:=w.setCell c (.int .i64 0);jZ (marksOf (.agg ms)) e/\∃f:Int,(fL (marksOf (.agg ms)) e).cell? c=some (.int .i64 f)/\K (.int .i64 f) (fL (marksOf (.agg ms)) e)
variable(a b c:Addr)(d:Value)(ms:AV)(K:KT)(w:World)
theorem bg.iL:(bg.uG K .normal [(3,.pointer (some a)),(5,.pointer (some b)),(6,.pointer (some c)),(15,d),(4294967296,.agg ms)] w)=bg.fD a b c d ms K w:=by kernel_rfl
end
section
def bg.wI(a b c:Addr)(d:Value)(ms:AV)(K:KT)(w:World):Prop:=
 jZ (marksOf (.agg ms)) w/\∃e:Int,(fL (marksOf (.agg ms)) w).cell? c=some (.int .i64 e)/\K (.int .i64 e) (fL (marksOf (.agg ms)) w)
variable(a b c:Addr)(d:Value)(ms:AV)(K:KT)(w:World)
theorem bg.B8:(bg.uG K .ret [(3,.pointer (some a)),(5,.pointer (some b)),(6,.pointer (some c)),(15,d),(4294967296,.agg ms)] w)=bg.wI a b c d ms K w:=by kernel_rfl
end
def ah.k:List Nat:= []
def ah.q1(K:KT):aO:=(aL 0 (ck (aQ (body f112))++(aS f112)) (bV (fun b6 w_=>match cutAt ah.k (aQ (body f112))with|true=>Holds none [] prog 90 (aQ (body f112)) (bS prog f112 K) b6 w_|false=>aW none [] prog 90 ah.k (aQ (body f112)) (aS f112) (bS prog f112 K) b6 w_) (bS prog f112 K)))
def ah.e1(a b c d e:Addr)(f:OA)(g i:Nat)(j s:Int):Env:= [(3,.pointer (some a)),(4,.pointer (some b)),(5,.pointer (some c)),(6,.pointer (some d)),(7,.pointer (some e)),(14,.slice f g i),(15,.int .i64 j),(16,.int .i64 s)]
def ah.u1:List Nat:= [3,4,5,6,7,14,15,16]
def ah.uG(K:KT):aO:=(aL 2 (ck (aQ (sR (body f112)))++(aS f112)) (bV (fun b6 w_=>match cutAt ah.k (aQ (sR (body f112)))with|true=>Holds none [] prog 90 (aQ (sR (body f112))) (bS prog f112 K) b6 w_|false=>aW none [] prog 90 ah.k (aQ (sR (body f112))) (aS f112) (bS prog f112 K) b6 w_) (bS prog f112 K)))
def ah.q2(l:Nat)(Q:aO):aO:=(aL 4 [] (aL 3 [] Q))
def ah.e2(a b c d e:Addr)(f:OA)(g i:Nat)(j s:Int):Env:= [(3,.pointer (some a)),(5,.pointer (some b)),(6,.pointer (some c)),(7,.pointer (some d)),(11,.pointer (some e)),(65,.slice f g i),(66,.int .i64 j),(67,.int .i64 s)]
def ah.u2:List Nat:= [3,5,6,7,11,65,66,67]
section
variable(a:AV)(b:Value)(d e f:Addr)(K:KT)(w:World)
def ah.W:Prop:=
 let g:=w.alloc (.cells a 24);let i:=g.alloc (.cells b.cells 101);let j:=i.alloc (.cells (#[.bool false]:AV) 4);∃k:OA,∃m n:Nat,j.cell? d=some (.slice k m n)/\Holds none [] prog 90 (.loop (lB (bB (sR (sL (sR (body f112))))))) (ah.q1 K) [(3,.pointer (some e)),(4,.pointer (some f)),(5,.pointer (some (aP w.heap.size))),(6,.pointer (some (aP g.heap.size))),(7,.pointer (some (aP i.heap.size))),(14,.slice k m n),(15,.int .i64 (m:Int)),(16,.int .i64 0)] j
variable{a b d e f K w}
theorem ah.of(h:ah.W a b d e f K w):bC prog 112 #[.agg a,b,.pointer (some d),.pointer (some e),.pointer (some f)] w K:=
 rqq func112 (C:=ah.k) h
end
section
variable(a b c d e:Addr)(f:OA)(g i:Nat)(j k:Int)(Q:aO)(w:World)
def ah.B1:Prop:=
 Split (decide (k<j)) ((0<=k/\k<(g:Int))/\Is f fun m:Addr=>∃n:AV,(n.size=32/\Cells w (m.add (k.toNat*32)) n)/\let o:=w.alloc (.cells zH 24);(n.size=32/\(∀p∈n.toList,p.oneCell'=true)/\∀q,q<32->Wr o ((aP w.heap.size).add q))/\let r:=setCells o (aP w.heap.size) n.toList 0;∃t:OA,r.cell? a=some (.pointer t)/\∃u:AV,(u.size=32/\Cells r (aP w.heap.size) u)/\∃v:AV,(v.size=32/\Cells r c v)/\bC prog 113 #[.pointer t,.agg u,.agg v] r fun x y=>∃z:Bool,x=.bool z/\Split z (∃a1:Value,y.cell? d=some (a1)/\∃b1:AV,(b1.size=32/\Cells y (aP w.heap.size) b1)/\∃(c1:Nat) (d1 e1:AV) (f1:Func),(a1:Value)=.func (.func c1) d1 e1/\prog.funcs[c1]? =some f1/\f1.body.isSome=true/\bC prog c1 (d1.toList++([.agg b1]:List Value)++e1.toList).toArray y fun g1 i1=>∃j1:Bool,g1=.bool j1/\Split (!j1) (Wr i1 e/\let k1:=i1.setCell e (.bool false);Q .ret [(3,.pointer (some a)),(4,.pointer (some b)),(5,.pointer (some c)),(6,.pointer (some d)),(7,.pointer (some e)),(14,.slice f g i),(15,.int .i64 j),(16,.int .i64 k)] k1) (Q .normal [(3,.pointer (some a)),(4,.pointer (some b)),(5,.pointer (some c)),(6,.pointer (some d)),(7,.pointer (some e)),(14,.slice f g i),(15,.int .i64 j),(16,.int .i64 (i64.wrap (k+(1:Int))))] i1)) (Q .normal [(3,.pointer (some a)),(4,.pointer (some b)),(5,.pointer (some c)),(6,.pointer (some d)),(7,.pointer (some e)),(14,.slice f g i),(15,.int .i64 j),(16,.int .i64 (i64.wrap (k+(1:Int))))] y)) (Q (.exit 0) [(3,.pointer (some a)),(4,.pointer (some b)),(5,.pointer (some c)),(6,.pointer (some d)),(7,.pointer (some e)),(14,.slice f g i),(15,.int .i64 j),(16,.int .i64 k)] w)
theorem ah.b1:(aW none [] prog 90 ah.k (lB (bB (sR (sL (sR (body f112)))))) ah.u1 Q [(3,.pointer (some a)),(4,.pointer (some b)),(5,.pointer (some c)),(6,.pointer (some d)),(7,.pointer (some e)),(14,.slice f g i),(15,.int .i64 j),(16,.int .i64 k)] w)=ah.B1 a b c d e f g i j k Q w:=by kernel_rfl
variable{a b c d e f g i j}
theorem ah.cC(I:Int->World->Prop)(μ:Int->World->Nat)(s:Int){Q:aO}{w:World}(h0:I s w)
 (round:∀s w,I s w->ah.B1 a b c d e f g i j s (bR (ah.e1 a b c d e f g i j) I μ s w Q) w):Holds none [] prog 90 (.loop (lB (bB (sR (sL (sR (body f112))))))) Q (ah.e1 a b c d e f g i j s) w:=
 bp ng mix (ah.e1 a b c d e f g i j) I μ ah.k ah.u1 s (fun s Q w=>ah.B1 a b c d e f g i j s Q w) (fun s Q w=>ah.b1 a b c d e f g i j s Q w) h0 round
end
section
def ah.cU(a b c d e:Addr)(f:OA)(g i:Nat)(j k:Int)(K:KT)(w:World):Prop:=
 let m:=w.drew;∃n:OA,m.cell? a=some (.pointer n)/\Is n fun o:Addr=>∃p:OA,m.cell? (o.add 1)=some (.pointer p)/\∃q:AV,(q.size=32/\Cells m b q)/\bC prog 109 #[.pointer p,.agg q] m fun r t=>∃u:Value,r=u/\Holds none [] prog 90 (bB (sR (sL (aQ (body f112))))) (ah.uG K) [(3,.pointer (some a)),(5,.pointer (some c)),(6,.pointer (some d)),(7,.pointer (some e)),(36,u)] t
variable(a b c d e:Addr)(f:OA)(g i:Nat)(j k:Int)(K:KT)(w:World)
theorem ah.df:(ah.q1 K (.exit 0) [(3,.pointer (some a)),(4,.pointer (some b)),(5,.pointer (some c)),(6,.pointer (some d)),(7,.pointer (some e)),(14,.slice f g i),(15,.int .i64 j),(16,.int .i64 k)] w)=ah.cU a b c d e f g i j k K w:=by kernel_rfl
end
section
def ah.Ry(a b c d e:Addr)(f:OA)(g i:Nat)(j k:Int)(K:KT)(w:World):Prop:=
 ∃m:Bool,w.cell? e=some (.bool m)/\K (.bool m) w
variable(a b c d e:Addr)(f:OA)(g i:Nat)(j k:Int)(K:KT)(w:World)
theorem ah.OD:(ah.q1 K .ret [(3,.pointer (some a)),(4,.pointer (some b)),(5,.pointer (some c)),(6,.pointer (some d)),(7,.pointer (some e)),(14,.slice f g i),(15,.int .i64 j),(16,.int .i64 k)] w)=ah.Ry a b c d e f g i j k K w:=by kernel_rfl
end
section
def ah.A1(l:Nat)(a b c d:Addr)(e:Value)(f:AV)(Q:aO)(w:World):Prop:=
 let g:=w.alloc (.cells zH 24);(f.size=32/\(∀i∈f.toList,i.oneCell'=true)/\∀j,j<32->Wr g ((aP w.heap.size).add j))/\let k:=setCells g (aP w.heap.size) f.toList 0;Q .normal [(3,.pointer (some a)),(5,.pointer (some b)),(6,.pointer (some c)),(7,.pointer (some d)),(10,.pointer (some (aP w.heap.size)))] k
variable(l:Nat)(a b c d:Addr)(e:Value)(f:AV)(Q:aO)(w:World)
theorem ah.a1:(aW (some l) [] prog 90 ah.k (rA (bB (sR (sL (aQ (body f112)))))) (ck (rB (bB (sR (sL (aQ (body f112))))))) Q [(3,.pointer (some a)),(5,.pointer (some b)),(6,.pointer (some c)),(7,.pointer (some d)),(36,e),(37,.agg f)] w)=ah.A1 l a b c d e f Q w:=by kernel_rfl
end
section
variable(l:Nat)(a b c d e:Addr)(Q:aO)(w:World)
def ah.Y1:Prop:=
 ∃f:OA,w.cell? a=some (.pointer f)/\∃g:AV,(g.size=32/\Cells w e g)/\∃i:AV,(i.size=32/\Cells w b i)/\bC prog 113 #[.pointer f,.agg g,.agg i] w fun j k=>∃m:Bool,j=.bool m/\Split m (∃n:Value,k.cell? c=some (n)/\∃o:AV,(o.size=32/\Cells k e o)/\∃(p:Nat) (q r:AV) (t:Func),(n:Value)=.func (.func p) q r/\prog.funcs[p]? =some t/\t.body.isSome=true/\bC prog p (q.toList++([.agg o]:List Value)++r.toList).toArray k fun u v=>∃x:Bool,u=.bool x/\Split (!x) (Wr v d/\let y:=v.setCell d (.bool false);Q .ret [(3,.pointer (some a)),(5,.pointer (some b)),(6,.pointer (some c)),(7,.pointer (some d)),(10,.pointer (some e))] y) (let z:=v.drew;∃a1:OA,z.cell? a=some (.pointer a1)/\Is a1 fun b1:Addr=>∃c1:OA,z.cell? (b1.add 1)=some (.pointer c1)/\∃d1:AV,(d1.size=32/\Cells z e d1)/\∃e1:AV,(e1.size=32/\Cells z b e1)/\bC prog 51 #[.pointer c1,.agg d1,.agg e1] z fun f1 g1=>∃i1:Bool,f1=.bool i1/\Split i1 (Wr g1 d/\let j1:=g1.setCell d (.bool true);Q .ret [(3,.pointer (some a)),(5,.pointer (some b)),(6,.pointer (some c)),(7,.pointer (some d)),(10,.pointer (some e))] j1) (let k1:=g1.drew;∃m1:OA,k1.cell? a=some (.pointer m1)/\Is m1 fun n1:Addr=>∃o1:Option Nat,k1.cell? (n1.add 2)=some (.map o1)/\∃p1:AV,(p1.size=32/\Cells k1 e p1)/\∃q1:OA,(Instr.lookup 63 (.map o1) (.agg p1) false).run prog k1=.ok (.pointer q1) k1/\Is q1 fun r1:Addr=>∃t1:AV,(t1.size=35/\Cells k1 (r1.add 0) t1)/\let u1:=k1.alloc (.cells zC 53);(∃cs:AV,(.agg t1:Value)=.agg cs/\cs.size=35/\Cells u1 (r1.add 0) cs)/\(Instr.lookup 63 (.map o1) (.agg p1) false).run prog u1=.ok (.pointer q1) u1/\(∃cs:AV,(.agg p1:Value)=.agg cs/\cs.size=32/\Cells u1 e cs)/\u1.cell? (n1.add 2)=some (.map o1)/\u1.cell? a=some (.pointer m1)/\(t1.size=35/\(∀v1∈t1.toList,v1.oneCell'=true)/\∀x1,x1<35->Wr u1 ((aP k1.heap.size).add x1))/\let y1:=setCells u1 (aP k1.heap.size) t1.toList 0;∃z1:OA,∃a2 b2:Nat,y1.cell? ((aP k1.heap.size).add 33)=some (.slice z1 a2 b2)/\Holds (some l) [] prog 90 (.loop (lB (bB (bU (bB (rB (bB (sR (sL (aQ (body f112))))))))))) (ah.q2 l Q) [(3,.pointer (some a)),(5,.pointer (some b)),(6,.pointer (some c)),(7,.pointer (some d)),(11,.pointer (some (aP k1.heap.size))),(65,.slice z1 a2 b2),(66,.int .i64 (a2:Int)),(67,.int .i64 0)] y1))) (let c2:=k.drew;∃d2:OA,c2.cell? a=some (.pointer d2)/\Is d2 fun e2:Addr=>∃f2:OA,c2.cell? (e2.add 1)=some (.pointer f2)/\∃g2:AV,(g2.size=32/\Cells c2 e g2)/\∃i2:AV,(i2.size=32/\Cells c2 b i2)/\bC prog 51 #[.pointer f2,.agg g2,.agg i2] c2 fun j2 k2=>∃m2:Bool,j2=.bool m2/\Split m2 (Wr k2 d/\let n2:=k2.setCell d (.bool true);Q .ret [(3,.pointer (some a)),(5,.pointer (some b)),(6,.pointer (some c)),(7,.pointer (some d)),(10,.pointer (some e))] n2) (let o2:=k2.drew;∃p2:OA,o2.cell? a=some (.pointer p2)/\Is p2 fun q2:Addr=>∃r2:Option Nat,o2.cell? (q2.add 2)=some (.map r2)/\∃t2:AV,(t2.size=32/\Cells o2 e t2)/\∃u2:OA,(Instr.lookup 63 (.map r2) (.agg t2) false).run prog o2=.ok (.pointer u2) o2/\Is u2 fun v2:Addr=>∃x2:AV,(x2.size=35/\Cells o2 (v2.add 0) x2)/\let y2:=o2.alloc (.cells zC 53);(∃cs:AV,(.agg x2:Value)=.agg cs/\cs.size=35/\Cells y2 (v2.add 0) cs)/\(Instr.lookup 63 (.map r2) (.agg t2) false).run prog y2=.ok (.pointer u2) y2/\(∃cs:AV,(.agg t2:Value)=.agg cs/\cs.size=32/\Cells y2 e cs)/\y2.cell? (q2.add 2)=some (.map r2)/\y2.cell? a=some (.pointer p2)/\(x2.size=35/\(∀z2∈x2.toList,z2.oneCell'=true)/\∀a3,a3<35->Wr y2 ((aP o2.heap.size).add a3))/\let b3:=setCells y2 (aP o2.heap.size) x2.toList 0;∃c3:OA,∃d3 e3:Nat,b3.cell? ((aP o2.heap.size).add 33)=some (.slice c3 d3 e3)/\Holds (some l) [] prog 90 (.loop (lB (bB (bU (bB (rB (bB (sR (sL (aQ (body f112))))))))))) (ah.q2 l Q) [(3,.pointer (some a)),(5,.pointer (some b)),(6,.pointer (some c)),(7,.pointer (some d)),(11,.pointer (some (aP o2.heap.size))),(65,.slice c3 d3 e3),(66,.int .i64 (d3:Int)),(67,.int .i64 0)] b3))
theorem ah.y1:(aW (some l) [] prog 90 ah.k (rB (bB (sR (sL (aQ (body f112)))))) [] Q [(3,.pointer (some a)),(5,.pointer (some b)),(6,.pointer (some c)),(7,.pointer (some d)),(10,.pointer (some e))] w)=ah.Y1 l a b c d e Q w:=by kernel_rfl
end
section
def ah.fD(a b c d:Addr)(e:Value)(ms:AV)(K:KT)(w:World):Prop:=
 Wr w d/\let f:=w.setCell d (.bool true);jZ (marksOf (.agg ms)) f/\∃g:Bool,(fL (marksOf (.agg ms)) f).cell? d=some (.bool g)/\K (.bool g) (fL (marksOf (.agg ms)) f)
variable(a b c d:Addr)(e:Value)(ms:AV)(K:KT)(w:World)
theorem ah.iL:(ah.uG K .normal [(3,.pointer (some a)),(5,.pointer (some b)),(6,.pointer (some c)),(7,.pointer (some d)),(36,e),(4294967296,.agg ms)] w)=ah.fD a b c d e ms K w:=by kernel_rfl
end
section
def ah.wI(a b c d:Addr)(e:Value)(ms:AV)(K:KT)(w:World):Prop:=
 jZ (marksOf (.agg ms)) w/\∃f:Bool,(fL (marksOf (.agg ms)) w).cell? d=some (.bool f)/\K (.bool f) (fL (marksOf (.agg ms)) w)
variable(a b c d:Addr)(e:Value)(ms:AV)(K:KT)(w:World)
theorem ah.B8:(ah.uG K .ret [(3,.pointer (some a)),(5,.pointer (some b)),(6,.pointer (some c)),(7,.pointer (some d)),(36,e),(4294967296,.agg ms)] w)=ah.wI a b c d e ms K w:=by kernel_rfl
end
section
def ah.B2(l:Nat)(a b c d e:Addr)(f:OA)(g i:Nat)(j k:Int)(Q:aO)(w:World):Prop:=
 Split (decide (k<j)) ((0<=k/\k<(g:Int))/\Is f fun m:Addr=>∃n:AV,(n.size=32/\Cells w (m.add (k.toNat*32)) n)/\let o:=w.alloc (.cells zH 24);(n.size=32/\(∀p∈n.toList,p.oneCell'=true)/\∀q,q<32->Wr o ((aP w.heap.size).add q))/\let r:=setCells o (aP w.heap.size) n.toList 0;∃t:OA,∃u v:Nat,r.cell? (e.add 34)=some (.slice t u v)/\(0<=k/\k<(u:Int))/\Is t fun x:Addr=>∃y:Bool,r.cell? (x.add (k.toNat*1))=some (.bool y)/\Split y (∃z:OA,r.cell? a=some (.pointer z)/\∃a1:AV,(a1.size=32/\Cells r (aP w.heap.size) a1)/\∃b1:AV,(b1.size=32/\Cells r b b1)/\bC prog 113 #[.pointer z,.agg a1,.agg b1] r fun c1 d1=>∃e1:Bool,c1=.bool e1/\Split e1 (∃f1:Value,d1.cell? c=some (f1)/\∃g1:AV,(g1.size=32/\Cells d1 (aP w.heap.size) g1)/\∃(i1:Nat) (j1 k1:AV) (m1:Func),(f1:Value)=.func (.func i1) j1 k1/\prog.funcs[i1]? =some m1/\m1.body.isSome=true/\bC prog i1 (j1.toList++([.agg g1]:List Value)++k1.toList).toArray d1 fun n1 o1=>∃p1:Bool,n1=.bool p1/\Split (!p1) (Wr o1 d/\let q1:=o1.setCell d (.bool false);Q .ret [(3,.pointer (some a)),(5,.pointer (some b)),(6,.pointer (some c)),(7,.pointer (some d)),(11,.pointer (some e)),(65,.slice f g i),(66,.int .i64 j),(67,.int .i64 k)] q1) (Q .normal [(3,.pointer (some a)),(5,.pointer (some b)),(6,.pointer (some c)),(7,.pointer (some d)),(11,.pointer (some e)),(65,.slice f g i),(66,.int .i64 j),(67,.int .i64 (i64.wrap (k+(1:Int))))] o1)) (Q .normal [(3,.pointer (some a)),(5,.pointer (some b)),(6,.pointer (some c)),(7,.pointer (some d)),(11,.pointer (some e)),(65,.slice f g i),(66,.int .i64 j),(67,.int .i64 (i64.wrap (k+(1:Int))))] d1)) (Q .normal [(3,.pointer (some a)),(5,.pointer (some b)),(6,.pointer (some c)),(7,.pointer (some d)),(11,.pointer (some e)),(65,.slice f g i),(66,.int .i64 j),(67,.int .i64 (i64.wrap (k+(1:Int))))] r)) (Q (.exit 4) [(3,.pointer (some a)),(5,.pointer (some b)),(6,.pointer (some c)),(7,.pointer (some d)),(11,.pointer (some e)),(65,.slice f g i),(66,.int .i64 j),(67,.int .i64 k)] w)
variable(l:Nat)(a b c d e:Addr)(f:OA)(g i:Nat)(j k:Int)(Q:aO)(w:World)
theorem ah.b2:(aW (some l) [] prog 90 ah.k (lB (bB (bU (bB (rB (bB (sR (sL (aQ (body f112)))))))))) ah.u2 Q [(3,.pointer (some a)),(5,.pointer (some b)),(6,.pointer (some c)),(7,.pointer (some d)),(11,.pointer (some e)),(65,.slice f g i),(66,.int .i64 j),(67,.int .i64 k)] w)=ah.B2 l a b c d e f g i j k Q w:=by kernel_rfl
variable{l a b c d e f g i j}
theorem ah.gU(I:Int->World->Prop)(μ:Int->World->Nat)(s:Int){Q:aO}{w:World}(h0:I s w)
 (round:∀s w,I s w->ah.B2 l a b c d e f g i j s (bR (ah.e2 a b c d e f g i j) I μ s w Q) w):Holds (some l) [] prog 90 (.loop (lB (bB (bU (bB (rB (bB (sR (sL (aQ (body f112))))))))))) Q (ah.e2 a b c d e f g i j s) w:=
 bp ng mix (ah.e2 a b c d e f g i j) I μ ah.k ah.u2 s (fun s Q w=>ah.B2 l a b c d e f g i j s Q w) (fun s Q w=>ah.b2 l a b c d e f g i j s Q w) h0 round
end
section
def ah.XQ(l:Nat)(a b c d e:Addr)(f:OA)(g i:Nat)(j k:Int)(Q:aO)(w:World):Prop:=
 Q .normal [] w
variable(l:Nat)(a b c d e:Addr)(f:OA)(g i:Nat)(j k:Int)(Q:aO)(w:World)
theorem ah.Zt:(ah.q2 l Q (.exit 4) [(3,.pointer (some a)),(5,.pointer (some b)),(6,.pointer (some c)),(7,.pointer (some d)),(11,.pointer (some e)),(65,.slice f g i),(66,.int .i64 j),(67,.int .i64 k)] w)=ah.XQ l a b c d e f g i j k Q w:=by kernel_rfl
end
def aq.k:List Nat:= []
def aq.q1(K:KT):aO:=(aL 0 (ck (bU (body f72))++(aS f72)) (bV (fun b6 w_=>match cutAt aq.k (bU (body f72))with|true=>Holds none [] prog 33 (bU (body f72)) (bS prog f72 K) b6 w_|false=>aW none [] prog 33 aq.k (bU (body f72)) (aS f72) (bS prog f72 K) b6 w_) (bS prog f72 K)))
def aq.e1(a:OA)(b c:Nat)(d:OA)(e f:Addr)(s:Int):Env:= [(0,.slice a b c),(1,.func (.func 73) #[.pointer d] #[]),(4,.pointer (some e)),(5,.pointer (some f)),(6,.int .i64 s)]
def aq.u1:List Nat:= [0,1,4,5,6]
section
variable(a:OA)(b d:Nat)(e:OA)(K:KT)(w:World)
def aq.W:Prop:=
 let f:=w.alloc (.cells zH 24);Split (decide ((b:Int)<(1:Int))) (False) ((0<=(0:Int)/\(0:Int)<(b:Int))/\Is a fun g:Addr=>∃i:AV,(i.size=32/\Cells f (g.add ((0:Int).toNat*32)) i)/\let j:=f.alloc (.cells zH 24);(i.size=32/\(∀k∈i.toList,k.oneCell'=true)/\∀m,m<32->Wr j ((aP f.heap.size).add m))/\let n:=setCells j (aP f.heap.size) i.toList 0;Holds none [] prog 33 (.loop (lB (bB (sR (sL (aQ (sR (body f72)))))))) (aq.q1 K) [(0,.slice a b d),(1,.func (.func 73) #[.pointer e] #[]),(4,.pointer (some (aP w.heap.size))),(5,.pointer (some (aP f.heap.size))),(6,.int .i64 1)] n)
variable{a b d e K w}
theorem aq.of(h:aq.W a b d e K w):bC prog 72 #[.slice a b d,.func (.func 73) #[.pointer e] #[]] w K:=
 rqq func72 (C:=aq.k) h
end
section
variable(a:OA)(b c:Nat)(d:OA)(e f:Addr)(g:Int)(Q:aO)(w:World)
def aq.B1:Prop:=
 Split (decide (g<(b:Int))) (let i:=w.drew;(0<=g/\g<(b:Int))/\Is a fun j:Addr=>∃k:AV,(k.size=32/\Cells i (j.add (g.toNat*32)) k)/\∃m:AV,(m.size=32/\Cells i f m)/\bC prog 73 #[.pointer d,.agg k,.agg m] i fun n o=>∃p:Int,n=.int .i64 p/\Split (decide (p>(0:Int))) ((0<=g/\g<(b:Int))/\Is a fun q:Addr=>∃r:AV,(r.size=32/\Cells o (q.add (g.toNat*32)) r)/\(r.size=32/\(∀t∈r.toList,t.oneCell'=true)/\∀u,u<32->Wr o (f.add u))/\let v:=setCells o f r.toList 0;Q .normal [(0,.slice a b c),(1,.func (.func 73) #[.pointer d] #[]),(4,.pointer (some e)),(5,.pointer (some f)),(6,.int .i64 (i64.wrap (g+(1:Int))))] v) (Q .normal [(0,.slice a b c),(1,.func (.func 73) #[.pointer d] #[]),(4,.pointer (some e)),(5,.pointer (some f)),(6,.int .i64 (i64.wrap (g+(1:Int))))] o)) (Q (.exit 0) [(0,.slice a b c),(1,.func (.func 73) #[.pointer d] #[]),(4,.pointer (some e)),(5,.pointer (some f)),(6,.int .i64 g)] w)
theorem aq.b1:(aW none [] prog 33 aq.k (lB (bB (sR (sL (aQ (sR (body f72))))))) aq.u1 Q [(0,.slice a b c),(1,.func (.func 73) #[.pointer d] #[]),(4,.pointer (some e)),(5,.pointer (some f)),(6,.int .i64 g)] w)=aq.B1 a b c d e f g Q w:=by kernel_rfl
variable{a b c d e f}
theorem aq.cC(I:Int->World->Prop)(μ:Int->World->Nat)(s:Int){Q:aO}{w:World}(h0:I s w)
 (round:∀s w,I s w->aq.B1 a b c d e f s (bR (aq.e1 a b c d e f) I μ s w Q) w):Holds none [] prog 33 (.loop (lB (bB (sR (sL (aQ (sR (body f72)))))))) Q (aq.e1 a b c d e f s) w:=
 bp ng mix (aq.e1 a b c d e f) I μ aq.k aq.u1 s (fun s Q w=>aq.B1 a b c d e f s Q w) (fun s Q w=>aq.b1 a b c d e f s Q w) h0 round
end
section
def aq.cU(a:OA)(b c:Nat)(d:OA)(e f:Addr)(g:Int)(K:KT)(w:World):Prop:=
 ∃i:AV,(i.size=32/\Cells w f i)/\(i.size=32/\(∀j∈i.toList,j.oneCell'=true)/\∀k,k<32->Wr w (e.add k))/\let m:=setCells w e i.toList 0;∃n:AV,(n.size=32/\Cells m e n)/\K (.agg n) m
variable(a:OA)(b c:Nat)(d:OA)(e f:Addr)(g:Int)(K:KT)(w:World)
theorem aq.df:(aq.q1 K (.exit 0) [(0,.slice a b c),(1,.func (.func 73) #[.pointer d] #[]),(4,.pointer (some e)),(5,.pointer (some f)),(6,.int .i64 g)] w)=aq.cU a b c d e f g K w:=by kernel_rfl
end
def cg.k:List Nat:= []
section
variable(a:OA)(b d:Nat)(e:Addr)(K:KT)(w:World)
def cg.W:Prop:=
 bC prog 91 #[.slice a b d,.func (.func 105) #[] #[.pointer (some e)]] w fun f g=>∃i:Int,f=.int .i64 i/\K (.bool (decide (i>=(0:Int)))) g
variable{a b d e K w}
theorem cg.of(h:cg.W a b d e K w):bC prog 68 #[.slice a b d,.func (.func 105) #[] #[.pointer (some e)]] w K:=
 rqq func68 (C:=cg.k) h
end
def an.k:List Nat:= []
def an.q1(K:KT):aO:=(aL 0 (ck (aQ (body f91))++(aS f91)) (bV (fun b6 w_=>match cutAt an.k (aQ (body f91))with|true=>Holds none [] prog 19 (aQ (body f91)) (bS prog f91 K) b6 w_|false=>aW none [] prog 19 an.k (aQ (body f91)) (aS f91) (bS prog f91 K) b6 w_) (bS prog f91 K)))
def an.e1(a:OA)(b c:Nat)(d:Addr)(e:Int)(s:Int×Int):Env:= [(0,.slice a b c),(1,.func (.func 105) #[] #[.pointer (some d)]),(4,.int .i64 s.1),(7,.int .i64 e),(8,.int .i64 s.2)]
def an.u1:List Nat:= [0,1,4,7,8]
section
variable(a:OA)(b d:Nat)(e:Addr)(K:KT)(w:World)
def an.W:Prop:=
 Holds none [] prog 19 (.loop (lB (bB (sR (sL (sR (body f91))))))) (an.q1 K) [(0,.slice a b d),(1,.func (.func 105) #[] #[.pointer (some e)]),(4,.int .i64 0),(7,.int .i64 (b:Int)),(8,.int .i64 0)] w
variable{a b d e K w}
theorem an.of(h:an.W a b d e K w):bC prog 91 #[.slice a b d,.func (.func 105) #[] #[.pointer (some e)]] w K:=
 rqq func91 (C:=an.k) h
end
section
variable(a:OA)(b c:Nat)(d:Addr)(e f g:Int)(Q:aO)(w:World)
def an.B1:Prop:=
 Split (decide (g<f)) ((0<=g/\g<(b:Int))/\Is a fun i:Addr=>∃j:AV,(j.size=32/\Cells w (i.add (g.toNat*32)) j)/\bC prog 105 #[.agg j,.pointer (some d)] w fun k m=>∃n:Bool,k=.bool n/\Split n (Q .ret [(0,.slice a b c),(1,.func (.func 105) #[] #[.pointer (some d)]),(4,.int .i64 g),(7,.int .i64 f),(8,.int .i64 g)] m) (Q .normal [(0,.slice a b c),(1,.func (.func 105) #[] #[.pointer (some d)]),(4,.int .i64 e),(7,.int .i64 f),(8,.int .i64 (i64.wrap (g+(1:Int))))] m)) (Q (.exit 0) [(0,.slice a b c),(1,.func (.func 105) #[] #[.pointer (some d)]),(4,.int .i64 e),(7,.int .i64 f),(8,.int .i64 g)] w)
theorem an.b1:(aW none [] prog 19 an.k (lB (bB (sR (sL (sR (body f91)))))) an.u1 Q [(0,.slice a b c),(1,.func (.func 105) #[] #[.pointer (some d)]),(4,.int .i64 e),(7,.int .i64 f),(8,.int .i64 g)] w)=an.B1 a b c d e f g Q w:=by kernel_rfl
variable{a b c d f}
theorem an.cC(I:Int×Int->World->Prop)(μ:Int×Int->World->Nat)(s:Int×Int){Q:aO}{w:World}(h0:I s w)
 (round:∀s w,I s w->an.B1 a b c d (s.1) f (s.2) (bR (an.e1 a b c d f) I μ s w Q) w):Holds none [] prog 19 (.loop (lB (bB (sR (sL (sR (body f91))))))) Q (an.e1 a b c d f s) w:=
 bp ng mix (an.e1 a b c d f) I μ an.k an.u1 s (fun s Q w=>an.B1 a b c d (s.1) f (s.2) Q w) (fun s Q w=>an.b1 a b c d (s.1) f (s.2) Q w) h0 round
end
section
def an.cU(a:OA)(b c:Nat)(d:Addr)(e f g:Int)(K:KT)(w:World):Prop:=
 K (.int .i64 (-1)) w
variable(a:OA)(b c:Nat)(d:Addr)(e f g:Int)(K:KT)(w:World)
theorem an.df:(an.q1 K (.exit 0) [(0,.slice a b c),(1,.func (.func 105) #[] #[.pointer (some d)]),(4,.int .i64 e),(7,.int .i64 f),(8,.int .i64 g)] w)=an.cU a b c d e f g K w:=by kernel_rfl
end
def af.k:List Nat:= [2,3]
def af.q1(K:KT):aO:=(aL 0 (ck (bU (sR (body f19)))++(aS f19)) (bV (fun b6 w_=>match cutAt af.k (bU (sR (body f19)))with|true=>Holds none [] prog 179 (bU (sR (body f19))) (bS prog f19 K) b6 w_|false=>aW none [] prog 179 af.k (bU (sR (body f19))) (aS f19) (bS prog f19 K) b6 w_) (bS prog f19 K)))
def af.e1(a:OA)(b c:Addr)(d:OA)(e f:Nat)(g:Addr)(i:OA)(j k:Nat)(m:OA)(n o:Nat)(s:Int):Env:= [(0,.pointer a),(4,.pointer (some b)),(6,.pointer (some c)),(7,.slice d e f),(8,.pointer (some g)),(9,.slice i j k),(10,.slice m n o),(11,.int .i64 s)]
def af.u1:List Nat:= [0,4,6,7,8,9,10,11]
def af.q2(Q:aO):aO:=(aL 2 (ck (bU (bB (sL (sR (lB (bB (sR (sL (bU (body f19))))))))))++(ck (aQ (lB (bB (sR (sL (bU (body f19)))))))++af.u1)) (bV (fun b6 w_=>match cutAt af.k (bU (bB (sL (sR (lB (bB (sR (sL (bU (body f19))))))))))with|true=>Holds none [] prog 179 (bU (bB (sL (sR (lB (bB (sR (sL (bU (body f19)))))))))) (aL 1 (ck (aQ (lB (bB (sR (sL (bU (body f19)))))))++af.u1) (bV (fun b6 w_=>match cutAt af.k (aQ (lB (bB (sR (sL (bU (body f19)))))))with|true=>Holds none [] prog 179 (aQ (lB (bB (sR (sL (bU (body f19))))))) Q b6 w_|false=>aW none [] prog 179 af.k (aQ (lB (bB (sR (sL (bU (body f19))))))) af.u1 Q b6 w_) Q)) b6 w_|false=>aW none [] prog 179 af.k (bU (bB (sL (sR (lB (bB (sR (sL (bU (body f19)))))))))) (ck (aQ (lB (bB (sR (sL (bU (body f19)))))))++af.u1) (aL 1 (ck (aQ (lB (bB (sR (sL (bU (body f19)))))))++af.u1) (bV (fun b6 w_=>match cutAt af.k (aQ (lB (bB (sR (sL (bU (body f19)))))))with|true=>Holds none [] prog 179 (aQ (lB (bB (sR (sL (bU (body f19))))))) Q b6 w_|false=>aW none [] prog 179 af.k (aQ (lB (bB (sR (sL (bU (body f19))))))) af.u1 Q b6 w_) Q)) b6 w_) (aL 1 (ck (aQ (lB (bB (sR (sL (bU (body f19)))))))++af.u1) (bV (fun b6 w_=>match cutAt af.k (aQ (lB (bB (sR (sL (bU (body f19)))))))with|true=>Holds none [] prog 179 (aQ (lB (bB (sR (sL (bU (body f19))))))) Q b6 w_|false=>aW none [] prog 179 af.k (aQ (lB (bB (sR (sL (bU (body f19))))))) af.u1 Q b6 w_) Q))))
def af.e2(a:OA)(b c:Addr)(d:OA)(e f:Nat)(g:Addr)(i:OA)(j k:Nat)(m:OA)(n o:Nat)(p:Int)(q:Addr)(s:Int):Env:= [(0,.pointer a),(4,.pointer (some b)),(6,.pointer (some c)),(7,.slice d e f),(8,.pointer (some g)),(9,.slice i j k),(10,.slice m n o),(11,.int .i64 p),(12,.pointer (some q)),(13,.int .i64 s)]
def af.u2:List Nat:= [0,4,6,7,8,9,10,11,12,13]
def af.q3(K:KT):aO:=(aL 4 (ck (bU (aQ (body f19)))++(aS f19)) (bV (fun b6 w_=>match cutAt af.k (bU (aQ (body f19)))with|true=>Holds none [] prog 179 (bU (aQ (body f19))) (bS prog f19 K) b6 w_|false=>aW none [] prog 179 af.k (bU (aQ (body f19))) (aS f19) (bS prog f19 K) b6 w_) (bS prog f19 K)))
def af.e3(a:OA)(b:Addr)(c:OA)(d e:Nat)(f:Addr)(s:(OA)×Nat×Nat×Int):Env:= [(0,.pointer a),(6,.pointer (some b)),(7,.slice c d e),(8,.pointer (some f)),(9,.slice s.1 s.2.1 s.2.2.1),(15,.int .i64 s.2.2.2)]
def af.u3:List Nat:= [0,6,7,8,9,15]
def af.q4(Q:aO):aO:=(aL 6 (ck (aQ (sR (bB (sL (sR (lB (bB (sR (sL (bU (sR (body f19))))))))))))++(ck (aQ (lB (bB (sR (sL (bU (sR (body f19))))))))++af.u3)) (bV (fun b6 w_=>match cutAt af.k (aQ (sR (bB (sL (sR (lB (bB (sR (sL (bU (sR (body f19))))))))))))with|true=>Holds none [] prog 179 (aQ (sR (bB (sL (sR (lB (bB (sR (sL (bU (sR (body f19)))))))))))) (aL 5 (ck (aQ (lB (bB (sR (sL (bU (sR (body f19))))))))++af.u3) (bV (fun b6 w_=>match cutAt af.k (aQ (lB (bB (sR (sL (bU (sR (body f19))))))))with|true=>Holds none [] prog 179 (aQ (lB (bB (sR (sL (bU (sR (body f19)))))))) Q b6 w_|false=>aW none [] prog 179 af.k (aQ (lB (bB (sR (sL (bU (sR (body f19)))))))) af.u3 Q b6 w_) Q)) b6 w_|false=>aW none [] prog 179 af.k (aQ (sR (bB (sL (sR (lB (bB (sR (sL (bU (sR (body f19)))))))))))) (ck (aQ (lB (bB (sR (sL (bU (sR (body f19))))))))++af.u3) (aL 5 (ck (aQ (lB (bB (sR (sL (bU (sR (body f19))))))))++af.u3) (bV (fun b6 w_=>match cutAt af.k (aQ (lB (bB (sR (sL (bU (sR (body f19))))))))with|true=>Holds none [] prog 179 (aQ (lB (bB (sR (sL (bU (sR (body f19)))))))) Q b6 w_|false=>aW none [] prog 179 af.k (aQ (lB (bB (sR (sL (bU (sR (body f19)))))))) af.u3 Q b6 w_) Q)) b6 w_) (aL 5 (ck (aQ (lB (bB (sR (sL (bU (sR (body f19))))))))++af.u3) (bV (fun b6 w_=>match cutAt af.k (aQ (lB (bB (sR (sL (bU (sR (body f19))))))))with|true=>Holds none [] prog 179 (aQ (lB (bB (sR (sL (bU (sR (body f19)))))))) Q b6 w_|false=>aW none [] prog 179 af.k (aQ (lB (bB (sR (sL (bU (sR (body f19)))))))) af.u3 Q b6 w_) Q))))
def af.e4(a:OA)(b:Addr)(c:OA)(d e:Nat)(f:Addr)(g:OA)(i j:Nat)(k:Int)(m:OA)(n o:Nat)(s:Bool×Int):Env:= [(0,.pointer a),(6,.pointer (some b)),(7,.slice c d e),(8,.pointer (some f)),(9,.slice g i j),(15,.int .i64 k),(16,.slice m n o),(17,.bool s.1),(18,.int .i64 s.2)]
def af.u4:List Nat:= [0,6,7,8,9,15,16,17,18]
section
variable(a:OA)(b:AV)(d:OA)(e f:Nat)(K:KT)(w:World)
def af.W:Prop:=
 let g:=w.alloc (.cells b 24);let i:=g.alloc (.cells zC 53);let j:=i.drew;∃k:AV,(k.size=32/\Cells j (aP w.heap.size) k)/\∃m:AV,(m.size=32/\Cells j (aP w.heap.size) m)/\(bC prog 60 #[.pointer a,.agg m] j fun n o=>∃p:Int,n=.int .u64 p/\(∃cs:AV,(.agg k:Value)=.agg cs/\cs.size=32/\Cells o (aP w.heap.size) cs)/\Is (prog.built 53 [(0,.agg k),(1,.int .u64 (u64.wrap (p+(1:Int))))]) fun q:AV=>let r:=o.alloc (.cells zC 53);(∃cs:AV,(.agg k:Value)=.agg cs/\cs.size=32/\Cells r (aP w.heap.size) cs)/\(q.size=35/\(∀t∈q.toList,t.oneCell'=true)/\∀u,u<35->Wr r ((aP o.heap.size).add u))/\let v:=setCells r (aP o.heap.size) q.toList 0;Holds none [] prog 179 (aQ (body f19)) (bS prog f19 K) [(0,.pointer a),(2,.slice d e f),(4,.pointer (some (aP w.heap.size))),(6,.pointer (some (aP g.heap.size))),(7,.slice none 0 0),(8,.pointer (some (aP o.heap.size)))] v)/\(let x:=j.alloc (.cells zC 53);(∃cs:AV,(.agg m:Value)=.agg cs/\cs.size=32/\Cells x (aP w.heap.size) cs)/\(∃cs:AV,(.agg k:Value)=.agg cs/\cs.size=32/\Cells x (aP w.heap.size) cs)/\bC prog 60 #[.pointer a,.agg m] x fun y z=>∃a1:Int,y=.int .u64 a1/\(∃cs:AV,(.agg k:Value)=.agg cs/\cs.size=32/\Cells z (aP w.heap.size) cs)/\Is (prog.built 53 [(0,.agg k),(1,.int .u64 (u64.wrap (a1+(1:Int))))]) fun b1:AV=>(b1.size=35/\(∀c1∈b1.toList,c1.oneCell'=true)/\∀d1,d1<35->Wr z ((aP j.heap.size).add d1))/\let e1:=setCells z (aP j.heap.size) b1.toList 0;Holds none [] prog 179 (aQ (body f19)) (bS prog f19 K) [(0,.pointer a),(2,.slice d e f),(4,.pointer (some (aP w.heap.size))),(6,.pointer (some (aP g.heap.size))),(7,.slice none 0 0),(8,.pointer (some (aP j.heap.size)))] e1)
variable{a b d e f K w}
theorem af.of(h:af.W a b d e f K w):bC prog 19 #[.pointer a,.agg b,.slice d e f] w K:=
 rqq func19 (C:=af.k) h
end
section
variable(a b:OA)(c d:Nat)(e f:Addr)(g:OA)(i j:Nat)(k:Addr)(K:KT)(w:World)
def af.J1:Prop:=
 let m:=w.drew;Is a fun n:Addr=>∃o:OA,∃p q:Nat,m.cell? (n.add 3)=some (.slice o p q)/\Is a fun r:Addr=>∃t:OA,m.cell? (r.add 1)=some (.pointer t)/\Is t fun u:Addr=>∃v:AV,(v.size=32/\Cells m e v)/\∃x:AV,(x.size=32/\Cells m e x)/\(bC prog 16 #[.pointer (some (u.add 0)),.agg v] m fun y z=>∃a1:Int,y=.int .i64 a1/\(∃cs:AV,(.agg x:Value)=.agg cs/\cs.size=32/\Cells z e cs)/\z.cell? (n.add 3)=some (.slice o p q)/\(0<=a1/\a1<(p:Int))/\Is o fun b1:Addr=>∃c1:OA,∃d1 e1:Nat,z.cell? (b1.add (a1.toNat*1))=some (.slice c1 d1 e1)/\(∃(f1:OA) (g1 i1:Nat) (j1:World),(Builtin.append_ #[33,33] 33 #[.slice none 0 0,.slice c1 d1 e1]).run prog z=.ok (.slice f1 g1 i1) j1/\(∃cs:AV,(.agg x:Value)=.agg cs/\cs.size=32/\Cells j1 e cs)/\x.size=32/\let k1:=j1.alloc (.cells (x.toList++ []).toArray 24);∃(m1:OA) (n1 o1:Nat) (p1:World),(Builtin.append_ #[33,33] 33 #[.slice f1 g1 i1,.slice (some (aP j1.heap.size)) 1 1]).run prog k1=.ok (.slice m1 n1 o1) p1/\Holds none [] prog 179 (aQ (sR (body f19))) (bS prog f19 K) [(0,.pointer a),(2,.slice b c d),(4,.pointer (some e)),(6,.pointer (some f)),(7,.slice g i j),(8,.pointer (some k)),(9,.slice m1 n1 o1)] p1)/\(x.size=32/\let q1:=z.alloc (.cells (x.toList++ []).toArray 24);q1.cell? (b1.add (a1.toNat*1))=some (.slice c1 d1 e1)/\q1.cell? (n.add 3)=some (.slice o p q)/\∃(r1:OA) (t1 u1:Nat) (v1:World),(Builtin.append_ #[33,33] 33 #[.slice none 0 0,.slice c1 d1 e1]).run prog q1=.ok (.slice r1 t1 u1) v1/\∃(x1:OA) (y1 z1:Nat) (a2:World),(Builtin.append_ #[33,33] 33 #[.slice r1 t1 u1,.slice (some (aP z.heap.size)) 1 1]).run prog v1=.ok (.slice x1 y1 z1) a2/\Holds none [] prog 179 (aQ (sR (body f19))) (bS prog f19 K) [(0,.pointer a),(2,.slice b c d),(4,.pointer (some e)),(6,.pointer (some f)),(7,.slice g i j),(8,.pointer (some k)),(9,.slice x1 y1 z1)] a2))/\(x.size=32/\let b2:=m.alloc (.cells (x.toList++ []).toArray 24);(∃cs:AV,(.agg v:Value)=.agg cs/\cs.size=32/\Cells b2 e cs)/\b2.cell? (r.add 1)=some (.pointer t)/\b2.cell? (n.add 3)=some (.slice o p q)/\bC prog 16 #[.pointer (some (u.add 0)),.agg v] b2 fun c2 d2=>∃e2:Int,c2=.int .i64 e2/\d2.cell? (n.add 3)=some (.slice o p q)/\(0<=e2/\e2<(p:Int))/\Is o fun f2:Addr=>∃g2:OA,∃i2 j2:Nat,d2.cell? (f2.add (e2.toNat*1))=some (.slice g2 i2 j2)/\∃(k2:OA) (m2 n2:Nat) (o2:World),(Builtin.append_ #[33,33] 33 #[.slice none 0 0,.slice g2 i2 j2]).run prog d2=.ok (.slice k2 m2 n2) o2/\∃(p2:OA) (q2 r2:Nat) (t2:World),(Builtin.append_ #[33,33] 33 #[.slice k2 m2 n2,.slice (some (aP m.heap.size)) 1 1]).run prog o2=.ok (.slice p2 q2 r2) t2/\Holds none [] prog 179 (aQ (sR (body f19))) (bS prog f19 K) [(0,.pointer a),(2,.slice b c d),(4,.pointer (some e)),(6,.pointer (some f)),(7,.slice g i j),(8,.pointer (some k)),(9,.slice p2 q2 r2)] t2)
theorem af.j1:(aW none [] prog 179 af.k (aQ (body f19)) (aS f19) (bS prog f19 K) [(0,.pointer a),(2,.slice b c d),(4,.pointer (some e)),(6,.pointer (some f)),(7,.slice g i j),(8,.pointer (some k))] w)=af.J1 a b c d e f g i j k K w:=by kernel_rfl
variable{a b c d e f g i j k K w}
theorem af.mF(h:af.J1 a b c d e f g i j k K w):Holds none [] prog 179 (aQ (body f19)) (bS prog f19 K) [(0,.pointer a),(2,.slice b c d),(4,.pointer (some e)),(6,.pointer (some f)),(7,.slice g i j),(8,.pointer (some k))] w:=
 cZ (C:=af.k) ng mix (af.j1 a b c d e f g i j k K w) h
end
section
variable(a b:OA)(c d:Nat)(e f:Addr)(g:OA)(i j:Nat)(k:Addr)(m:OA)(n o:Nat)(K:KT)(w:World)
def af.J2:Prop:=
 Is a fun p:Addr=>∃q:OA,w.cell? (p.add 1)=some (.pointer q)/\Is q fun r:Addr=>bC prog 26 #[.pointer (some (r.add 0)),.slice b c d] w fun t u=>∃v:OA,∃x y:Nat,t=.slice v x y/\∃(z:OA) (a1 b1:Nat) (c1:World),(Builtin.append_ #[33,33] 33 #[.slice v x y,.slice b c d]).run prog u=.ok (.slice z a1 b1) c1/\bC prog 27 #[.slice z a1 b1] c1 fun d1 e1=>∃f1:OA,∃g1 i1:Nat,d1=.slice f1 g1 i1/\Holds none [] prog 179 (.loop (lB (bB (sR (sL (bU (body f19))))))) (af.q1 K) [(0,.pointer a),(4,.pointer (some e)),(6,.pointer (some f)),(7,.slice g i j),(8,.pointer (some k)),(9,.slice m n o),(10,.slice f1 g1 i1),(11,.int .i64 0)] e1
theorem af.j2:(aW none [] prog 179 af.k (aQ (sR (body f19))) (aS f19) (bS prog f19 K) [(0,.pointer a),(2,.slice b c d),(4,.pointer (some e)),(6,.pointer (some f)),(7,.slice g i j),(8,.pointer (some k)),(9,.slice m n o)] w)=af.J2 a b c d e f g i j k m n o K w:=by kernel_rfl
variable{a b c d e f g i j k m n o K w}
theorem af.qM(h:af.J2 a b c d e f g i j k m n o K w):Holds none [] prog 179 (aQ (sR (body f19))) (bS prog f19 K) [(0,.pointer a),(2,.slice b c d),(4,.pointer (some e)),(6,.pointer (some f)),(7,.slice g i j),(8,.pointer (some k)),(9,.slice m n o)] w:=
 cZ (C:=af.k) ng mix (af.j2 a b c d e f g i j k m n o K w) h
end
section
variable(a:OA)(b c:Addr)(d:OA)(e f:Nat)(g:Addr)(i:OA)(j k:Nat)(m:OA)(n o:Nat)(p:Int)(Q:aO)(w:World)
def af.B1:Prop:=
 Split (decide (p<(n:Int))) ((0<=p/\p<(n:Int))/\Is m fun q:Addr=>∃r:AV,(r.size=32/\Cells w (q.add (p.toNat*32)) r)/\let t:=w.alloc (.cells zH 24);(r.size=32/\(∀u∈r.toList,u.oneCell'=true)/\∀v,v<32->Wr t ((aP w.heap.size).add v))/\let x:=setCells t (aP w.heap.size) r.toList 0;let y:=x.drew;∃z:AV,(z.size=32/\Cells y (aP w.heap.size) z)/\∃a1:AV,(a1.size=32/\Cells y b a1)/\(dJ .u8 32 z/\dJ .u8 32 a1)/\Split (eU z a1) (Q .normal [(0,.pointer a),(4,.pointer (some b)),(6,.pointer (some c)),(7,.slice d e f),(8,.pointer (some g)),(9,.slice i j k),(10,.slice m n o),(11,.int .i64 (i64.wrap (p+(1:Int))))] y) (Is a fun b1:Addr=>∃c1:OA,y.cell? (b1.add 1)=some (.pointer c1)/\Is c1 fun d1:Addr=>∃e1:AV,(e1.size=32/\Cells y (aP w.heap.size) e1)/\∃f1:AV,(f1.size=32/\Cells y b f1)/\bC prog 28 #[.pointer (some (d1.add 0)),.agg e1,.agg f1] y fun g1 i1=>∃j1:Bool,g1=.bool j1/\Split j1 (Q .normal [(0,.pointer a),(4,.pointer (some b)),(6,.pointer (some c)),(7,.slice d e f),(8,.pointer (some g)),(9,.slice i j k),(10,.slice m n o),(11,.int .i64 (i64.wrap (p+(1:Int))))] i1) (∃k1:OA,∃m1 n1:Nat,i1.cell? (g.add 33)=some (.slice k1 m1 n1)/\Holds none [] prog 179 (.loop (lB (bB (sL (aQ (sR (bB (sL (sR (lB (bB (sR (sL (bU (body f19))))))))))))))) (af.q2 Q) [(0,.pointer a),(4,.pointer (some b)),(6,.pointer (some c)),(7,.slice d e f),(8,.pointer (some g)),(9,.slice i j k),(10,.slice m n o),(11,.int .i64 p),(12,.pointer (some (aP w.heap.size))),(13,.int .i64 (m1:Int))] i1))) (Q (.exit 0) [(0,.pointer a),(4,.pointer (some b)),(6,.pointer (some c)),(7,.slice d e f),(8,.pointer (some g)),(9,.slice i j k),(10,.slice m n o),(11,.int .i64 p)] w)
theorem af.b1:(aW none [] prog 179 af.k (lB (bB (sR (sL (bU (body f19)))))) af.u1 Q [(0,.pointer a),(4,.pointer (some b)),(6,.pointer (some c)),(7,.slice d e f),(8,.pointer (some g)),(9,.slice i j k),(10,.slice m n o),(11,.int .i64 p)] w)=af.B1 a b c d e f g i j k m n o p Q w:=by kernel_rfl
variable{a b c d e f g i j k m n o}
theorem af.cC(I:Int->World->Prop)(μ:Int->World->Nat)(s:Int){Q:aO}{w:World}(h0:I s w)
 (round:∀s w,I s w->af.B1 a b c d e f g i j k m n o s (bR (af.e1 a b c d e f g i j k m n o) I μ s w Q) w):Holds none [] prog 179 (.loop (lB (bB (sR (sL (bU (body f19))))))) Q (af.e1 a b c d e f g i j k m n o s) w:=
 bp ng mix (af.e1 a b c d e f g i j k m n o) I μ af.k af.u1 s (fun s Q w=>af.B1 a b c d e f g i j k m n o s Q w) (fun s Q w=>af.b1 a b c d e f g i j k m n o s Q w) h0 round
end
section
def af.cU(a:OA)(b c:Addr)(d:OA)(e f:Nat)(g:Addr)(i:OA)(j k:Nat)(m:OA)(n o:Nat)(p:Int)(K:KT)(w:World):Prop:=
 Holds none [] prog 179 (.loop (lB (bB (sR (sL (bU (sR (body f19)))))))) (af.q3 K) [(0,.pointer a),(6,.pointer (some c)),(7,.slice d e f),(8,.pointer (some g)),(9,.slice i j k),(15,.int .i64 0)] w
variable(a:OA)(b c:Addr)(d:OA)(e f:Nat)(g:Addr)(i:OA)(j k:Nat)(m:OA)(n o:Nat)(p:Int)(K:KT)(w:World)
theorem af.df:(af.q1 K (.exit 0) [(0,.pointer a),(4,.pointer (some b)),(6,.pointer (some c)),(7,.slice d e f),(8,.pointer (some g)),(9,.slice i j k),(10,.slice m n o),(11,.int .i64 p)] w)=af.cU a b c d e f g i j k m n o p K w:=by kernel_rfl
end
section
variable(a:OA)(b c:Addr)(d:OA)(e f:Nat)(g:Addr)(i:OA)(j k:Nat)(m:OA)(n o:Nat)(p:Int)(q:Addr)(r:Int)(Q:aO)(w:World)
def af.B2:Prop:=
 let t:=w.drew;Split (decide (r>(0:Int))) (∃u:AV,(u.size=32/\Cells t q u)/\∃v:OA,∃x y:Nat,t.cell? (g.add 33)=some (.slice v x y)/\(0<=(i64.wrap (r-(1:Int)))/\(i64.wrap (r-(1:Int)))<(x:Int))/\Is v fun z:Addr=>∃a1:AV,(a1.size=32/\Cells t (z.add ((i64.wrap (r-(1:Int))).toNat*32)) a1)/\bC prog 59 #[.pointer a,.agg u,.agg a1] t fun b1 c1=>∃d1:Bool,b1=.bool d1/\Split d1 (Q .normal [(0,.pointer a),(4,.pointer (some b)),(6,.pointer (some c)),(7,.slice d e f),(8,.pointer (some g)),(9,.slice i j k),(10,.slice m n o),(11,.int .i64 p),(12,.pointer (some q)),(13,.int .i64 (i64.wrap (r-(1:Int))))] c1) (Q (.exit 2) [(0,.pointer a),(4,.pointer (some b)),(6,.pointer (some c)),(7,.slice d e f),(8,.pointer (some g)),(9,.slice i j k),(10,.slice m n o),(11,.int .i64 p),(12,.pointer (some q)),(13,.int .i64 r)] c1)) (Q (.exit 2) [(0,.pointer a),(4,.pointer (some b)),(6,.pointer (some c)),(7,.slice d e f),(8,.pointer (some g)),(9,.slice i j k),(10,.slice m n o),(11,.int .i64 p),(12,.pointer (some q)),(13,.int .i64 r)] t)
theorem af.b2:(aW none [] prog 179 af.k (lB (bB (sL (aQ (sR (bB (sL (sR (lB (bB (sR (sL (bU (body f19)))))))))))))) af.u2 Q [(0,.pointer a),(4,.pointer (some b)),(6,.pointer (some c)),(7,.slice d e f),(8,.pointer (some g)),(9,.slice i j k),(10,.slice m n o),(11,.int .i64 p),(12,.pointer (some q)),(13,.int .i64 r)] w)=af.B2 a b c d e f g i j k m n o p q r Q w:=by kernel_rfl
variable{a b c d e f g i j k m n o p q}
theorem af.gU(I:Int->World->Prop)(μ:Int->World->Nat)(s:Int){Q:aO}{w:World}(h0:I s w)
 (round:∀s w,I s w->af.B2 a b c d e f g i j k m n o p q s (bR (af.e2 a b c d e f g i j k m n o p q) I μ s w Q) w):Holds none [] prog 179 (.loop (lB (bB (sL (aQ (sR (bB (sL (sR (lB (bB (sR (sL (bU (body f19))))))))))))))) Q (af.e2 a b c d e f g i j k m n o p q s) w:=
 bp ng mix (af.e2 a b c d e f g i j k m n o p q) I μ af.k af.u2 s (fun s Q w=>af.B2 a b c d e f g i j k m n o p q s Q w) (fun s Q w=>af.b2 a b c d e f g i j k m n o p q s Q w) h0 round
end
section
variable(a:OA)(b c:Addr)(d:OA)(e f:Nat)(g:Addr)(i:OA)(j k:Nat)(m:OA)(n o:Nat)(p:Int)(q:Addr)(r:Int)(Q:aO)(w:World)
def af.iN:Prop:=
 ∃t:OA,∃u v:Nat,w.cell? (g.add 33)=some (.slice t u v)/\(0<=r/\r<=(v:Int))/\∃(x:OA) (y z:Nat) (a1:World),(Builtin.append_ #[33,33] 33 #[.slice none 0 0,.slice (if v=0 then t else t.map (·.add (0*32))) (r.toNat-0) (v-0)]).run prog w=.ok (.slice x y z) a1/\∃b1:AV,(b1.size=32/\Cells a1 q b1)/\b1.size=32/\let c1:=a1.alloc (.cells (b1.toList++ []).toArray 24);∃(d1:OA) (e1 f1:Nat) (g1:World),(Builtin.append_ #[33,33] 33 #[.slice x y z,.slice (some (aP a1.heap.size)) 1 1]).run prog c1=.ok (.slice d1 e1 f1) g1/\∃i1:OA,∃j1 k1:Nat,g1.cell? (g.add 33)=some (.slice i1 j1 k1)/\(0<=r/\r<=(j1:Int))/\∃(m1:OA) (n1 o1:Nat) (p1:World),(Builtin.append_ #[33,33] 33 #[.slice d1 e1 f1,.slice (if k1=r.toNat then i1 else i1.map (·.add (r.toNat*32))) (j1-r.toNat) (k1-r.toNat)]).run prog g1=.ok (.slice m1 n1 o1) p1/\Wr p1 (g.add 33)/\let q1:=p1.setCell (g.add 33) (.slice m1 n1 o1);Q .normal [(0,.pointer a),(4,.pointer (some b)),(6,.pointer (some c)),(7,.slice d e f),(8,.pointer (some g)),(9,.slice i j k),(10,.slice m n o),(11,.int .i64 (i64.wrap (p+(1:Int))))] q1
theorem af.jN:(af.q2 Q (.exit 2) [(0,.pointer a),(4,.pointer (some b)),(6,.pointer (some c)),(7,.slice d e f),(8,.pointer (some g)),(9,.slice i j k),(10,.slice m n o),(11,.int .i64 p),(12,.pointer (some q)),(13,.int .i64 r)] w)=af.iN a b c d e f g i j k m n o p q r Q w:=by kernel_rfl
end
section
variable(a:OA)(b:Addr)(c:OA)(d e:Nat)(f:Addr)(g:OA)(i j:Nat)(k:Int)(Q:aO)(w:World)
def af.B3:Prop:=
 ∃m:OA,∃n o:Nat,w.cell? (f.add 33)=some (.slice m n o)/\Split (decide (k<(n:Int))) (∃p:OA,∃q r:Nat,w.cell? (f.add 33)=some (.slice p q r)/\(0<=k/\k<(q:Int))/\Is p fun t:Addr=>∃u:AV,(u.size=32/\Cells w (t.add (k.toNat*32)) u)/\bC prog 61 #[.pointer a,.slice g i j,.agg u] w fun v x=>∃y:OA,∃z a1:Nat,v=.slice y z a1/\Is a fun b1:Addr=>∃c1:Int,x.cell? (b1.add 0)=some (.int .i64 c1)/\Holds none [] prog 179 (.loop (lB (bB (sR (sL (aQ (bB (sL (sR (lB (bB (sR (sL (bU (sR (body f19)))))))))))))))) (af.q4 Q) [(0,.pointer a),(6,.pointer (some b)),(7,.slice c d e),(8,.pointer (some f)),(9,.slice g i j),(15,.int .i64 k),(16,.slice y z a1),(17,.bool (decide ((z:Int)<=c1))),(18,.int .i64 0)] x) (Q (.exit 4) [(0,.pointer a),(6,.pointer (some b)),(7,.slice c d e),(8,.pointer (some f)),(9,.slice g i j),(15,.int .i64 k)] w)
theorem af.b3:(aW none [] prog 179 af.k (lB (bB (sR (sL (bU (sR (body f19))))))) af.u3 Q [(0,.pointer a),(6,.pointer (some b)),(7,.slice c d e),(8,.pointer (some f)),(9,.slice g i j),(15,.int .i64 k)] w)=af.B3 a b c d e f g i j k Q w:=by kernel_rfl
variable{a b c d e f}
theorem af.vM(I:(OA)×Nat×Nat×Int->World->Prop)(μ:(OA)×Nat×Nat×Int->World->Nat)(s:(OA)×Nat×Nat×Int){Q:aO}{w:World}(h0:I s w)
 (round:∀s w,I s w->af.B3 a b c d e f (s.1) (s.2.1) (s.2.2.1) (s.2.2.2) (bR (af.e3 a b c d e f) I μ s w Q) w):Holds none [] prog 179 (.loop (lB (bB (sR (sL (bU (sR (body f19)))))))) Q (af.e3 a b c d e f s) w:=
 bp ng mix (af.e3 a b c d e f) I μ af.k af.u3 s (fun s Q w=>af.B3 a b c d e f (s.1) (s.2.1) (s.2.2.1) (s.2.2.2) Q w) (fun s Q w=>af.b3 a b c d e f (s.1) (s.2.1) (s.2.2.1) (s.2.2.2) Q w) h0 round
end
section
def af.xu(a:OA)(b:Addr)(c:OA)(d e:Nat)(f:Addr)(g:OA)(i j:Nat)(k:Int)(K:KT)(w:World):Prop:=
 ∃m:AV,(m.size=35/\Cells w f m)/\(m.size=35/\(∀n∈m.toList,n.oneCell'=true)/\∀o,o<35->Wr w (b.add o))/\let p:=setCells w b m.toList 0;∃q:AV,(q.size=35/\Cells p b q)/\K (.tuple #[.agg q,.slice g i j]) p
variable(a:OA)(b:Addr)(c:OA)(d e:Nat)(f:Addr)(g:OA)(i j:Nat)(k:Int)(K:KT)(w:World)
theorem af.Ca:(af.q3 K (.exit 4) [(0,.pointer a),(6,.pointer (some b)),(7,.slice c d e),(8,.pointer (some f)),(9,.slice g i j),(15,.int .i64 k)] w)=af.xu a b c d e f g i j k K w:=by kernel_rfl
end
section
variable(a:OA)(b:Addr)(c:OA)(d e:Nat)(f:Addr)(g:OA)(i j:Nat)(k:Int)(m:OA)(n o:Nat)(p:Bool)(q:Int)(Q:aO)(w:World)
def af.B4:Prop:=
 Split (decide (q<(n:Int))) (Split p (let r:=w.drew;(0<=q/\q<(n:Int))/\Is m fun t:Addr=>∃u:AV,(u.size=32/\Cells r (t.add (q.toNat*32)) u)/\Is a fun v:Addr=>∃x:Int,r.cell? (v.add 0)=some (.int .i64 x)/\bC prog 61 #[.pointer a,.slice g i j,.agg u] r fun y z=>∃a1:OA,∃b1 c1:Nat,y=.slice a1 b1 c1/\z.cell? (v.add 0)=some (.int .i64 x)/\Q .normal [(0,.pointer a),(6,.pointer (some b)),(7,.slice c d e),(8,.pointer (some f)),(9,.slice g i j),(15,.int .i64 k),(16,.slice m n o),(17,.bool (decide ((b1:Int)<=(i64.wrap (x-(1:Int)))))),(18,.int .i64 (i64.wrap (q+(1:Int))))] z) (Q (.exit 6) [(0,.pointer a),(6,.pointer (some b)),(7,.slice c d e),(8,.pointer (some f)),(9,.slice g i j),(15,.int .i64 k),(16,.slice m n o),(17,.bool p),(18,.int .i64 q)] w)) (Q (.exit 6) [(0,.pointer a),(6,.pointer (some b)),(7,.slice c d e),(8,.pointer (some f)),(9,.slice g i j),(15,.int .i64 k),(16,.slice m n o),(17,.bool p),(18,.int .i64 q)] w)
theorem af.b4:(aW none [] prog 179 af.k (lB (bB (sR (sL (aQ (bB (sL (sR (lB (bB (sR (sL (bU (sR (body f19))))))))))))))) af.u4 Q [(0,.pointer a),(6,.pointer (some b)),(7,.slice c d e),(8,.pointer (some f)),(9,.slice g i j),(15,.int .i64 k),(16,.slice m n o),(17,.bool p),(18,.int .i64 q)] w)=af.B4 a b c d e f g i j k m n o p q Q w:=by kernel_rfl
variable{a b c d e f g i j k m n o}
theorem af.Ie(I:Bool×Int->World->Prop)(μ:Bool×Int->World->Nat)(s:Bool×Int){Q:aO}{w:World}(h0:I s w)
 (round:∀s w,I s w->af.B4 a b c d e f g i j k m n o (s.1) (s.2) (bR (af.e4 a b c d e f g i j k m n o) I μ s w Q) w):Holds none [] prog 179 (.loop (lB (bB (sR (sL (aQ (bB (sL (sR (lB (bB (sR (sL (bU (sR (body f19)))))))))))))))) Q (af.e4 a b c d e f g i j k m n o s) w:=
 bp ng mix (af.e4 a b c d e f g i j k m n o) I μ af.k af.u4 s (fun s Q w=>af.B4 a b c d e f g i j k m n o (s.1) (s.2) Q w) (fun s Q w=>af.b4 a b c d e f g i j k m n o (s.1) (s.2) Q w) h0 round
end
section
def af.DB(a:OA)(b:Addr)(c:OA)(d e:Nat)(f:Addr)(g:OA)(i j:Nat)(k:Int)(m:OA)(n o:Nat)(p:Bool)(q:Int)(Q:aO)(w:World):Prop:=
 ∃r:OA,∃t u:Nat,w.cell? (f.add 34)=some (.slice r t u)/\let v:=w.alloc (.cells #[.bool p] 4);∃(x:OA) (y z:Nat) (a1:World),(Builtin.append_ #[51,51] 51 #[.slice r t u,.slice (some (aP w.heap.size)) 1 1]).run prog v=.ok (.slice x y z) a1/\Wr a1 (f.add 34)/\let b1:=a1.setCell (f.add 34) (.slice x y z);Split p (∃c1:OA,∃d1 e1:Nat,b1.cell? (f.add 33)=some (.slice c1 d1 e1)/\(0<=k/\k<(d1:Int))/\Is c1 fun f1:Addr=>∃g1:AV,(g1.size=32/\Cells b1 (f1.add (k.toNat*32)) g1)/\g1.size=32/\let i1:=b1.alloc (.cells (g1.toList++ []).toArray 24);∃(j1:OA) (k1 m1:Nat) (n1:World),(Builtin.append_ #[33,33] 33 #[.slice g i j,.slice (some (aP b1.heap.size)) 1 1]).run prog i1=.ok (.slice j1 k1 m1) n1/\∃o1:Int,n1.cell? (f.add 32)=some (.int .u64 o1)/\Wr n1 (f.add 32)/\let p1:=n1.setCell (f.add 32) (.int .u64 (u64.wrap (o1+(1:Int))));Q .normal [(0,.pointer a),(6,.pointer (some b)),(7,.slice c d e),(8,.pointer (some f)),(9,.slice j1 k1 m1),(15,.int .i64 (i64.wrap (k+(1:Int))))] p1) (Q .normal [(0,.pointer a),(6,.pointer (some b)),(7,.slice c d e),(8,.pointer (some f)),(9,.slice g i j),(15,.int .i64 (i64.wrap (k+(1:Int))))] b1)
variable(a:OA)(b:Addr)(c:OA)(d e:Nat)(f:Addr)(g:OA)(i j:Nat)(k:Int)(m:OA)(n o:Nat)(p:Bool)(q:Int)(Q:aO)(w:World)
theorem af.Hk:(af.q4 Q (.exit 6) [(0,.pointer a),(6,.pointer (some b)),(7,.slice c d e),(8,.pointer (some f)),(9,.slice g i j),(15,.int .i64 k),(16,.slice m n o),(17,.bool p),(18,.int .i64 q)] w)=af.DB a b c d e f g i j k m n o p q Q w:=by kernel_rfl
end
def aX.k:List Nat:= []
def aX.q1(K:KT):aO:=(aL 0 (ck (bU (body f33))++(aS f33)) (bV (fun b6 w_=>match cutAt aX.k (bU (body f33))with|true=>Holds none [] prog 49 (bU (body f33)) (bS prog f33 K) b6 w_|false=>aW none [] prog 49 aX.k (bU (body f33)) (aS f33) (bS prog f33 K) b6 w_) (bS prog f33 K)))
def aX.e1(a b:OA)(c d:Nat)(e:OA)(f g:Nat)(s:(OA)×Nat×Nat×Int):Env:= [(0,.pointer a),(4,.slice b c d),(5,.slice s.1 s.2.1 s.2.2.1),(6,.slice e f g),(7,.int .i64 s.2.2.2)]
def aX.u1:List Nat:= [0,4,5,6,7]
section
variable(a:OA)(b:AV)(K:KT)(w:World)
def aX.W:Prop:=
 let d:=w.alloc (.cells b 24);let e:=d.drew;Is a fun f:Addr=>∃g:OA,e.cell? (f.add 1)=some (.pointer g)/\∃i:AV,(i.size=32/\Cells e (aP w.heap.size) i)/\bC prog 29 #[.pointer g,.agg i] e fun j k=>∃m:OA,∃n o:Nat,j=.slice m n o/\Holds none [] prog 49 (.loop (lB (bB (sR (sL (aQ (sR (body f33)))))))) (aX.q1 K) [(0,.pointer a),(4,.slice none 0 0),(5,.slice none 0 0),(6,.slice m n o),(7,.int .i64 (i64.wrap ((n:Int)-(2:Int))))] k
variable{a b K w}
theorem aX.of(h:aX.W a b K w):bC prog 33 #[.pointer a,.agg b] w K:=
 rqq func33 (C:=aX.k) h
end
section
variable(a b:OA)(c d:Nat)(e:OA)(f g:Nat)(i:OA)(j k:Nat)(m:Int)(Q:aO)(w:World)
def aX.B1:Prop:=
 Split (decide (m>=(0:Int))) (let n:=w.drew;Is a fun o:Addr=>∃p:OA,∃q r:Nat,n.cell? (o.add 2)=some (.slice p q r)/\Is a fun t:Addr=>∃u:OA,n.cell? (t.add 1)=some (.pointer u)/\Is u fun v:Addr=>(0<=m/\m<(j:Int))/\Is i fun x:Addr=>∃y:AV,(y.size=32/\Cells n (x.add (m.toNat*32)) y)/\(bC prog 16 #[.pointer (some (v.add 0)),.agg y] n fun z a1=>∃b1:Int,z=.int .i64 b1/\a1.cell? (o.add 2)=some (.slice p q r)/\(0<=b1/\b1<(q:Int))/\Is p fun c1:Addr=>∃d1:AV,(d1.size=35/\Cells a1 (c1.add (b1.toNat*35)) d1)/\let e1:=a1.alloc (.cells zC 53);(∃cs:AV,(.agg d1:Value)=.agg cs/\cs.size=35/\Cells e1 (c1.add (b1.toNat*35)) cs)/\e1.cell? (o.add 2)=some (.slice p q r)/\(d1.size=35/\(∀f1∈d1.toList,f1.oneCell'=true)/\∀g1,g1<35->Wr e1 ((aP a1.heap.size).add g1))/\let i1:=setCells e1 (aP a1.heap.size) d1.toList 0;∃j1:AV,(j1.size=32/\Cells i1 ((aP a1.heap.size).add 0) j1)/\j1.size=32/\let k1:=i1.alloc (.cells (j1.toList++ []).toArray 24);∃(m1:OA) (n1 o1:Nat) (p1:World),(Builtin.append_ #[33,33] 33 #[.slice e f g,.slice (some (aP i1.heap.size)) 1 1]).run prog k1=.ok (.slice m1 n1 o1) p1/\∃q1:OA,∃r1 t1:Nat,p1.cell? ((aP a1.heap.size).add 33)=some (.slice q1 r1 t1)/\∃(u1:OA) (v1 x1:Nat) (y1:World),(Builtin.append_ #[33,33] 33 #[.slice m1 n1 o1,.slice q1 r1 t1]).run prog p1=.ok (.slice u1 v1 x1) y1/\Q .normal [(0,.pointer a),(4,.slice b c d),(5,.slice u1 v1 x1),(6,.slice i j k),(7,.int .i64 (i64.wrap (m-(1:Int))))] y1)/\(let z1:=n.alloc (.cells zC 53);(∃cs:AV,(.agg y:Value)=.agg cs/\cs.size=32/\Cells z1 (x.add (m.toNat*32)) cs)/\z1.cell? (t.add 1)=some (.pointer u)/\z1.cell? (o.add 2)=some (.slice p q r)/\bC prog 16 #[.pointer (some (v.add 0)),.agg y] z1 fun a2 b2=>∃c2:Int,a2=.int .i64 c2/\b2.cell? (o.add 2)=some (.slice p q r)/\(0<=c2/\c2<(q:Int))/\Is p fun d2:Addr=>∃e2:AV,(e2.size=35/\Cells b2 (d2.add (c2.toNat*35)) e2)/\(e2.size=35/\(∀f2∈e2.toList,f2.oneCell'=true)/\∀g2,g2<35->Wr b2 ((aP n.heap.size).add g2))/\let i2:=setCells b2 (aP n.heap.size) e2.toList 0;∃j2:AV,(j2.size=32/\Cells i2 ((aP n.heap.size).add 0) j2)/\j2.size=32/\let k2:=i2.alloc (.cells (j2.toList++ []).toArray 24);∃(m2:OA) (n2 o2:Nat) (p2:World),(Builtin.append_ #[33,33] 33 #[.slice e f g,.slice (some (aP i2.heap.size)) 1 1]).run prog k2=.ok (.slice m2 n2 o2) p2/\∃q2:OA,∃r2 t2:Nat,p2.cell? ((aP n.heap.size).add 33)=some (.slice q2 r2 t2)/\∃(u2:OA) (v2 x2:Nat) (y2:World),(Builtin.append_ #[33,33] 33 #[.slice m2 n2 o2,.slice q2 r2 t2]).run prog p2=.ok (.slice u2 v2 x2) y2/\Q .normal [(0,.pointer a),(4,.slice b c d),(5,.slice u2 v2 x2),(6,.slice i j k),(7,.int .i64 (i64.wrap (m-(1:Int))))] y2)) (Q (.exit 0) [(0,.pointer a),(4,.slice b c d),(5,.slice e f g),(6,.slice i j k),(7,.int .i64 m)] w)
theorem aX.b1:(aW none [] prog 49 aX.k (lB (bB (sR (sL (aQ (sR (body f33))))))) aX.u1 Q [(0,.pointer a),(4,.slice b c d),(5,.slice e f g),(6,.slice i j k),(7,.int .i64 m)] w)=aX.B1 a b c d e f g i j k m Q w:=by kernel_rfl
variable{a b c d i j k}
theorem aX.cC(I:(OA)×Nat×Nat×Int->World->Prop)(μ:(OA)×Nat×Nat×Int->World->Nat)(s:(OA)×Nat×Nat×Int){Q:aO}{w:World}(h0:I s w)
 (round:∀s w,I s w->aX.B1 a b c d (s.1) (s.2.1) (s.2.2.1) i j k (s.2.2.2) (bR (aX.e1 a b c d i j k) I μ s w Q) w):Holds none [] prog 49 (.loop (lB (bB (sR (sL (aQ (sR (body f33)))))))) Q (aX.e1 a b c d i j k s) w:=
 bp ng mix (aX.e1 a b c d i j k) I μ aX.k aX.u1 s (fun s Q w=>aX.B1 a b c d (s.1) (s.2.1) (s.2.2.1) i j k (s.2.2.2) Q w) (fun s Q w=>aX.b1 a b c d (s.1) (s.2.1) (s.2.2.1) i j k (s.2.2.2) Q w) h0 round
end
section
def aX.cU(a b:OA)(c d:Nat)(e:OA)(f g:Nat)(i:OA)(j k:Nat)(m:Int)(K:KT)(w:World):Prop:=
 K (.slice e f g) w
variable(a b:OA)(c d:Nat)(e:OA)(f g:Nat)(i:OA)(j k:Nat)(m:Int)(K:KT)(w:World)
theorem aX.df:(aX.q1 K (.exit 0) [(0,.pointer a),(4,.slice b c d),(5,.slice e f g),(6,.slice i j k),(7,.int .i64 m)] w)=aX.cU a b c d e f g i j k m K w:=by kernel_rfl
end
def bz.k:List Nat:= []
def bz.q1(K:KT):aO:=(aL 0 (ck (aQ (sR (body f35)))++(aS f35)) (bV (fun b6 w_=>match cutAt bz.k (aQ (sR (body f35)))with|true=>Holds none [] prog 27 (aQ (sR (body f35))) (bS prog f35 K) b6 w_|false=>aW none [] prog 27 bz.k (aQ (sR (body f35))) (aS f35) (bS prog f35 K) b6 w_) (bS prog f35 K)))
def bz.e1(a b:OA)(c d:Nat)(s:Int×Int):Env:= [(0,.pointer a),(1,.slice b c d),(4,.int .i64 s.1),(5,.int .i64 s.2)]
def bz.u1:List Nat:= [0,1,4,5]
section
variable(a b:OA)(d e:Nat)(K:KT)(w:World)
def bz.W:Prop:=
 Split ((d:Int)==(0:Int)) (K (.int .i64 9) w) (Holds none [] prog 27 (.loop (lB (bB (sR (sL (aQ (body f35))))))) (bz.q1 K) [(0,.pointer a),(1,.slice b d e),(4,.int .i64 0),(5,.int .i64 0)] w)
variable{a b d e K w}
theorem bz.of(h:bz.W a b d e K w):bC prog 35 #[.pointer a,.slice b d e] w K:=
 rqq func35 (C:=bz.k) h
end
section
variable(a b:OA)(c d:Nat)(e f:Int)(Q:aO)(w:World)
def bz.B1:Prop:=
 Split (decide (f<(c:Int))) (let g:=w.drew;Is a fun i:Addr=>∃j:OA,g.cell? (i.add 1)=some (.pointer j)/\Is j fun k:Addr=>(0<=f/\f<(c:Int))/\Is b fun m:Addr=>∃n:AV,(n.size=32/\Cells g (m.add (f.toNat*32)) n)/\bC prog 16 #[.pointer (some (k.add 0)),.agg n] g fun o p=>∃q:Int,o=.int .i64 q/\Split (decide (q<(0:Int))) (Q .ret [(0,.pointer a),(1,.slice b c d),(4,.int .i64 6),(5,.int .i64 f)] p) (Q .normal [(0,.pointer a),(1,.slice b c d),(4,.int .i64 e),(5,.int .i64 (i64.wrap (f+(1:Int))))] p)) (Q (.exit 0) [(0,.pointer a),(1,.slice b c d),(4,.int .i64 e),(5,.int .i64 f)] w)
theorem bz.b1:(aW none [] prog 27 bz.k (lB (bB (sR (sL (aQ (body f35)))))) bz.u1 Q [(0,.pointer a),(1,.slice b c d),(4,.int .i64 e),(5,.int .i64 f)] w)=bz.B1 a b c d e f Q w:=by kernel_rfl
variable{a b c d}
theorem bz.cC(I:Int×Int->World->Prop)(μ:Int×Int->World->Nat)(s:Int×Int){Q:aO}{w:World}(h0:I s w)
 (round:∀s w,I s w->bz.B1 a b c d (s.1) (s.2) (bR (bz.e1 a b c d) I μ s w Q) w):Holds none [] prog 27 (.loop (lB (bB (sR (sL (aQ (body f35))))))) Q (bz.e1 a b c d s) w:=
 bp ng mix (bz.e1 a b c d) I μ bz.k bz.u1 s (fun s Q w=>bz.B1 a b c d (s.1) (s.2) Q w) (fun s Q w=>bz.b1 a b c d (s.1) (s.2) Q w) h0 round
end
section
def bz.cU(a b:OA)(c d:Nat)(e f:Int)(K:KT)(w:World):Prop:=
 K (.int .i64 0) w
variable(a b:OA)(c d:Nat)(e f:Int)(K:KT)(w:World)
theorem bz.df:(bz.q1 K (.exit 0) [(0,.pointer a),(1,.slice b c d),(4,.int .i64 e),(5,.int .i64 f)] w)=bz.cU a b c d e f K w:=by kernel_rfl
end
def kH.k:List Nat:= []
section
variable(a:Int)(b:AV)(K:KT)(w:World)
def kH.W:Prop:=
 let d:=w.alloc (.cells b 24);∃e:AV,(e.size=32/\Cells d (aP w.heap.size) e)/\bC prog 87 #[.agg e] d fun f g=>∃i:OA,f=.pointer i/\35=35/\let j:=g.alloc (.cells zC 53);let k:=j.alloc (.cells #[.slice none 0 0] 33);let m:=k.alloc (.cells (#[.int .i64 a,.pointer i,.slice (some (aP g.heap.size)) 1 1,.slice (some (aP j.heap.size)) 1 1]:AV) 47);K (.pointer (some (aP k.heap.size))) m
variable{a b K w}
theorem kH.of(h:kH.W a b K w):bC prog 43 #[.int .i64 a,.agg b] w K:=
 rqq func43 (C:=kH.k) h
end
def dN.k:List Nat:= []
section
variable(a:OA)(b:AV)(d:OA)(e f:Nat)(K:KT)(w:World)
def dN.W:Prop:=
 let g:=w.alloc (.cells b 24);let i:=g.alloc (.cells zC 53);Is a fun j:Addr=>∃k:OA,i.cell? (j.add 1)=some (.pointer k)/\Is k fun m:Addr=>∃n:AV,(n.size=1/\Cells i (m.add 0) n)/\let o:=i.alloc (.cells (#[.slice none 0 0]:AV) 40);(n.size=1/\(∀p∈n.toList,p.oneCell'=true)/\∀q,q<1->Wr o ((aP i.heap.size).add q))/\let r:=setCells o (aP i.heap.size) n.toList 0;∃t:AV,(t.size=32/\Cells r (aP w.heap.size) t)/\bC prog 88 #[.pointer (some (aP i.heap.size)),.agg t,.slice d e f] r fun u v=>∃x:Int,u=.int .i64 x/\Split (x != (0:Int)) ((zC.size=35/\(∀y∈zC.toList,y.oneCell'=true)/\∀z,z<35->Wr v ((aP g.heap.size).add z))/\let a1:=setCells v (aP g.heap.size) zC.toList 0;∃b1:AV,(b1.size=35/\Cells a1 (aP g.heap.size) b1)/\K (.tuple #[.agg b1,.int .i64 x]) a1) (bC prog 81 #[.pointer a,.slice d e f] v fun c1 d1=>∃e1:AV,c1=.agg e1/\let f1:=d1.alloc (.cells zH 24);(e1.size=32/\(∀g1∈e1.toList,g1.oneCell'=true)/\∀i1,i1<32->Wr f1 ((aP d1.heap.size).add i1))/\let j1:=setCells f1 (aP d1.heap.size) e1.toList 0;∃k1:AV,(k1.size=32/\Cells j1 (aP d1.heap.size) k1)/\bC prog 19 #[.pointer a,.agg k1,.slice d e f] j1 fun m1 n1=>∃o1:AV,∃p1:OA,∃q1 r1:Nat,m1=.tuple #[.agg o1,.slice p1 q1 r1]/\let t1:=n1.alloc (.cells zC 53);(o1.size=35/\(∀u1∈o1.toList,u1.oneCell'=true)/\∀v1,v1<35->Wr t1 ((aP n1.heap.size).add v1))/\let x1:=setCells t1 (aP n1.heap.size) o1.toList 0;let y1:=x1.drew;Is a fun z1:Addr=>∃a2:OA,y1.cell? (z1.add 1)=some (.pointer a2)/\∃b2:AV,(b2.size=32/\Cells y1 (aP w.heap.size) b2)/\∃c2:AV,(c2.size=32/\Cells y1 (aP d1.heap.size) c2)/\bC prog 89 #[.pointer a2,.agg b2,.agg c2,.slice d e f] y1 fun d2 e2=>∃f2:Int,d2=.int .i64 f2/\let g2:=e2.drew;Is a fun i2:Addr=>∃j2:OA,∃k2 m2:Nat,g2.cell? (i2.add 2)=some (.slice j2 k2 m2)/\∃n2:AV,(n2.size=35/\Cells g2 (aP n1.heap.size) n2)/\(∃(o2:OA) (p2 q2:Nat) (r2:World),(Builtin.append_ #[44,44] 44 #[.slice none 0 0,.slice j2 k2 m2]).run prog g2=.ok (.slice o2 p2 q2) r2/\(∃cs:AV,(.agg n2:Value)=.agg cs/\cs.size=35/\Cells r2 (aP n1.heap.size) cs)/\n2.size=35/\let t2:=r2.alloc (.cells (n2.toList++ []).toArray 53);∃(u2:OA) (v2 x2:Nat) (y2:World),(Builtin.append_ #[44,44] 44 #[.slice o2 p2 q2,.slice (some (aP r2.heap.size)) 1 1]).run prog t2=.ok (.slice u2 v2 x2) y2/\Is a fun z2:Addr=>Wr y2 (z2.add 2)/\let a3:=y2.setCell (z2.add 2) (.slice u2 v2 x2);Is a fun b3:Addr=>∃c3:OA,∃d3 e3:Nat,a3.cell? (b3.add 3)=some (.slice c3 d3 e3)/\∃(f3:OA) (g3 i3:Nat) (j3:World),(Builtin.append_ #[45,45] 45 #[.slice none 0 0,.slice c3 d3 e3]).run prog a3=.ok (.slice f3 g3 i3) j3/\let k3:=j3.alloc (.cells #[.slice p1 q1 r1] 33);∃(m3:OA) (n3 o3:Nat) (p3:World),(Builtin.append_ #[45,45] 45 #[.slice f3 g3 i3,.slice (some (aP j3.heap.size)) 1 1]).run prog k3=.ok (.slice m3 n3 o3) p3/\Is a fun q3:Addr=>Wr p3 (q3.add 3)/\let r3:=p3.setCell (q3.add 3) (.slice m3 n3 o3);∃t3:AV,(t3.size=35/\Cells r3 (aP n1.heap.size) t3)/\(t3.size=35/\(∀u3∈t3.toList,u3.oneCell'=true)/\∀v3,v3<35->Wr r3 ((aP g.heap.size).add v3))/\let x3:=setCells r3 (aP g.heap.size) t3.toList 0;∃y3:AV,(y3.size=35/\Cells x3 (aP g.heap.size) y3)/\K (.tuple #[.agg y3,.int .i64 0]) x3)/\(n2.size=35/\let z3:=g2.alloc (.cells (n2.toList++ []).toArray 53);z3.cell? (i2.add 2)=some (.slice j2 k2 m2)/\∃(a4:OA) (b4 c4:Nat) (d4:World),(Builtin.append_ #[44,44] 44 #[.slice none 0 0,.slice j2 k2 m2]).run prog z3=.ok (.slice a4 b4 c4) d4/\∃(e4:OA) (f4 g4:Nat) (i4:World),(Builtin.append_ #[44,44] 44 #[.slice a4 b4 c4,.slice (some (aP g2.heap.size)) 1 1]).run prog d4=.ok (.slice e4 f4 g4) i4/\Is a fun j4:Addr=>Wr i4 (j4.add 2)/\let k4:=i4.setCell (j4.add 2) (.slice e4 f4 g4);Is a fun m4:Addr=>∃n4:OA,∃o4 p4:Nat,k4.cell? (m4.add 3)=some (.slice n4 o4 p4)/\∃(q4:OA) (r4 t4:Nat) (u4:World),(Builtin.append_ #[45,45] 45 #[.slice none 0 0,.slice n4 o4 p4]).run prog k4=.ok (.slice q4 r4 t4) u4/\let v4:=u4.alloc (.cells #[.slice p1 q1 r1] 33);∃(x4:OA) (y4 z4:Nat) (a5:World),(Builtin.append_ #[45,45] 45 #[.slice q4 r4 t4,.slice (some (aP u4.heap.size)) 1 1]).run prog v4=.ok (.slice x4 y4 z4) a5/\Is a fun b5:Addr=>Wr a5 (b5.add 3)/\let c5:=a5.setCell (b5.add 3) (.slice x4 y4 z4);∃d5:AV,(d5.size=35/\Cells c5 (aP n1.heap.size) d5)/\(d5.size=35/\(∀e5∈d5.toList,e5.oneCell'=true)/\∀f5,f5<35->Wr c5 ((aP g.heap.size).add f5))/\let g5:=setCells c5 (aP g.heap.size) d5.toList 0;∃i5:AV,(i5.size=35/\Cells g5 (aP g.heap.size) i5)/\K (.tuple #[.agg i5,.int .i64 0]) g5))
variable{a b d e f K w}
theorem dN.of(h:dN.W a b d e f K w):bC prog 44 #[.pointer a,.agg b,.slice d e f] w K:=
 rqq func44 (C:=dN.k) h
end
def dX.k:List Nat:= []
section
variable(a:OA)(b d:AV)(K:KT)(w:World)
def dX.W:Prop:=
 let e:=w.alloc (.cells b 24);let f:=e.alloc (.cells d 24);let g:=f.drew;∃i:AV,(i.size=32/\Cells g (aP w.heap.size) i)/\∃j:AV,(j.size=32/\Cells g (aP e.heap.size) j)/\bC prog 60 #[.pointer a,.agg i] g fun k m=>∃n:Int,k=.int .u64 n/\(∃cs:AV,(.agg j:Value)=.agg cs/\cs.size=32/\Cells m (aP e.heap.size) cs)/\bC prog 60 #[.pointer a,.agg j] m fun o p=>∃q:Int,o=.int .u64 q/\Split (n != q) (K (.bool (decide (n<q))) p) (∃r:AV,(r.size=32/\Cells p (aP w.heap.size) r)/\∃t:AV,(t.size=32/\Cells p (aP e.heap.size) t)/\bC prog 75 #[.agg r,.agg t] p fun u v=>∃x:Int,u=.int .i64 x/\K (.bool (decide (x<(0:Int)))) v)
variable{a b d K w}
theorem dX.of(h:dX.W a b d K w):bC prog 59 #[.pointer a,.agg b,.agg d] w K:=
 rqq func59 (C:=dX.k) h
end
def dG.k:List Nat:= []
section
variable(a:OA)(b:AV)(K:KT)(w:World)
def dG.W:Prop:=
 let d:=w.alloc (.cells b 24);let e:=d.drew;Is a fun f:Addr=>∃g:OA,∃i j:Nat,e.cell? (f.add 2)=some (.slice g i j)/\Is a fun k:Addr=>∃m:OA,e.cell? (k.add 1)=some (.pointer m)/\Is m fun n:Addr=>∃o:AV,(o.size=32/\Cells e (aP w.heap.size) o)/\bC prog 16 #[.pointer (some (n.add 0)),.agg o] e fun p q=>∃r:Int,p=.int .i64 r/\q.cell? (f.add 2)=some (.slice g i j)/\(0<=r/\r<(i:Int))/\Is g fun t:Addr=>∃u:Int,q.cell? ((t.add (r.toNat*35)).add 32)=some (.int .u64 u)/\K (.int .u64 u) q
variable{a b K w}
theorem dG.of(h:dG.W a b K w):bC prog 60 #[.pointer a,.agg b] w K:=
 rqq func60 (C:=dG.k) h
end
def bf.k:List Nat:= []
def bf.q1(K:KT):aO:=(aL 0 (ck (aQ (sR (body f61)))++(aS f61)) (bV (fun b6 w_=>match cutAt bf.k (aQ (sR (body f61)))with|true=>Holds none [] prog 35 (aQ (sR (body f61))) (bS prog f61 K) b6 w_|false=>aW none [] prog 35 bf.k (aQ (sR (body f61))) (aS f61) (bS prog f61 K) b6 w_) (bS prog f61 K)))
def bf.e1(a b:OA)(c d:Nat)(e:Addr)(f:OA)(g i:Nat)(s:(OA)×Nat×Nat×Int):Env:= [(0,.pointer a),(1,.slice b c d),(5,.pointer (some e)),(6,.slice f g i),(7,.slice s.1 s.2.1 s.2.2.1),(8,.int .i64 s.2.2.2)]
def bf.u1:List Nat:= [0,1,5,6,7,8]
section
variable(a b:OA)(d e:Nat)(f:AV)(K:KT)(w:World)
def bf.W:Prop:=
 let g:=w.alloc (.cells f 24);Holds none [] prog 35 (.loop (lB (bB (sR (sL (aQ (body f61))))))) (bf.q1 K) [(0,.pointer a),(1,.slice b d e),(5,.pointer (some (aP w.heap.size))),(6,.slice none 0 0),(7,.slice none 0 0),(8,.int .i64 0)] g
variable{a b d e f K w}
theorem bf.of(h:bf.W a b d e f K w):bC prog 61 #[.pointer a,.slice b d e,.agg f] w K:=
 rqq func61 (C:=bf.k) h
end
section
variable(a b:OA)(c d:Nat)(e:Addr)(f:OA)(g i:Nat)(j:OA)(k m:Nat)(n:Int)(Q:aO)(w:World)
def bf.B1:Prop:=
 Split (decide (n<(c:Int))) (let o:=w.drew;Is a fun p:Addr=>∃q:OA,o.cell? (p.add 1)=some (.pointer q)/\Is q fun r:Addr=>(0<=n/\n<(c:Int))/\Is b fun t:Addr=>∃u:AV,(u.size=32/\Cells o (t.add (n.toNat*32)) u)/\∃v:AV,(v.size=32/\Cells o e v)/\bC prog 104 #[.pointer (some (r.add 0)),.agg u,.agg v] o fun x y=>∃z:Bool,x=.bool z/\Split z ((0<=n/\n<(c:Int))/\Is b fun a1:Addr=>∃b1:AV,(b1.size=32/\Cells y (a1.add (n.toNat*32)) b1)/\b1.size=32/\let c1:=y.alloc (.cells (b1.toList++ []).toArray 24);∃(d1:OA) (e1 f1:Nat) (g1:World),(Builtin.append_ #[33,33] 33 #[.slice j k m,.slice (some (aP y.heap.size)) 1 1]).run prog c1=.ok (.slice d1 e1 f1) g1/\Q .normal [(0,.pointer a),(1,.slice b c d),(5,.pointer (some e)),(6,.slice f g i),(7,.slice d1 e1 f1),(8,.int .i64 (i64.wrap (n+(1:Int))))] g1) (Q .normal [(0,.pointer a),(1,.slice b c d),(5,.pointer (some e)),(6,.slice f g i),(7,.slice j k m),(8,.int .i64 (i64.wrap (n+(1:Int))))] y)) (Q (.exit 0) [(0,.pointer a),(1,.slice b c d),(5,.pointer (some e)),(6,.slice f g i),(7,.slice j k m),(8,.int .i64 n)] w)
theorem bf.b1:(aW none [] prog 35 bf.k (lB (bB (sR (sL (aQ (body f61)))))) bf.u1 Q [(0,.pointer a),(1,.slice b c d),(5,.pointer (some e)),(6,.slice f g i),(7,.slice j k m),(8,.int .i64 n)] w)=bf.B1 a b c d e f g i j k m n Q w:=by kernel_rfl
variable{a b c d e f g i}
theorem bf.cC(I:(OA)×Nat×Nat×Int->World->Prop)(μ:(OA)×Nat×Nat×Int->World->Nat)(s:(OA)×Nat×Nat×Int){Q:aO}{w:World}(h0:I s w)
 (round:∀s w,I s w->bf.B1 a b c d e f g i (s.1) (s.2.1) (s.2.2.1) (s.2.2.2) (bR (bf.e1 a b c d e f g i) I μ s w Q) w):Holds none [] prog 35 (.loop (lB (bB (sR (sL (aQ (body f61))))))) Q (bf.e1 a b c d e f g i s) w:=
 bp ng mix (bf.e1 a b c d e f g i) I μ bf.k bf.u1 s (fun s Q w=>bf.B1 a b c d e f g i (s.1) (s.2.1) (s.2.2.1) (s.2.2.2) Q w) (fun s Q w=>bf.b1 a b c d e f g i (s.1) (s.2.1) (s.2.2.1) (s.2.2.2) Q w) h0 round
end
section
def bf.cU(a b:OA)(c d:Nat)(e:Addr)(f:OA)(g i:Nat)(j:OA)(k m:Nat)(n:Int)(K:KT)(w:World):Prop:=
 K (.slice j k m) w
variable(a b:OA)(c d:Nat)(e:Addr)(f:OA)(g i:Nat)(j:OA)(k m:Nat)(n:Int)(K:KT)(w:World)
theorem bf.df:(bf.q1 K (.exit 0) [(0,.pointer a),(1,.slice b c d),(5,.pointer (some e)),(6,.slice f g i),(7,.slice j k m),(8,.int .i64 n)] w)=bf.cU a b c d e f g i j k m n K w:=by kernel_rfl
end
def a7.k:List Nat:= []
def a7.q1(K:KT):aO:=(aL 0 (ck (aQ (sR (body f81)))++(aS f81)) (bV (fun b6 w_=>match cutAt a7.k (aQ (sR (body f81)))with|true=>Holds none [] prog 28 (aQ (sR (body f81))) (bS prog f81 K) b6 w_|false=>aW none [] prog 28 a7.k (aQ (sR (body f81))) (aS f81) (bS prog f81 K) b6 w_) (bS prog f81 K)))
def a7.e1(a b:OA)(c d:Nat)(e f:Addr)(s:Int):Env:= [(0,.pointer a),(1,.slice b c d),(4,.pointer (some e)),(5,.pointer (some f)),(6,.int .i64 s)]
def a7.u1:List Nat:= [0,1,4,5,6]
section
variable(a b:OA)(d e:Nat)(K:KT)(w:World)
def a7.W:Prop:=
 let f:=w.alloc (.cells zH 24);(0<=(0:Int)/\(0:Int)<(d:Int))/\Is b fun g:Addr=>∃i:AV,(i.size=32/\Cells f (g.add ((0:Int).toNat*32)) i)/\let j:=f.alloc (.cells zH 24);(i.size=32/\(∀k∈i.toList,k.oneCell'=true)/\∀m,m<32->Wr j ((aP f.heap.size).add m))/\let n:=setCells j (aP f.heap.size) i.toList 0;Holds none [] prog 28 (.loop (lB (bB (sR (sL (aQ (body f81))))))) (a7.q1 K) [(0,.pointer a),(1,.slice b d e),(4,.pointer (some (aP w.heap.size))),(5,.pointer (some (aP f.heap.size))),(6,.int .i64 1)] n
variable{a b d e K w}
theorem a7.of(h:a7.W a b d e K w):bC prog 81 #[.pointer a,.slice b d e] w K:=
 rqq func81 (C:=a7.k) h
end
section
variable(a b:OA)(c d:Nat)(e f:Addr)(g:Int)(Q:aO)(w:World)
def a7.B1:Prop:=
 Split (decide (g<(c:Int))) (let i:=w.drew;∃j:AV,(j.size=32/\Cells i f j)/\(0<=g/\g<(c:Int))/\Is b fun k:Addr=>∃m:AV,(m.size=32/\Cells i (k.add (g.toNat*32)) m)/\bC prog 59 #[.pointer a,.agg j,.agg m] i fun n o=>∃p:Bool,n=.bool p/\Split p ((0<=g/\g<(c:Int))/\Is b fun q:Addr=>∃r:AV,(r.size=32/\Cells o (q.add (g.toNat*32)) r)/\(r.size=32/\(∀t∈r.toList,t.oneCell'=true)/\∀u,u<32->Wr o (f.add u))/\let v:=setCells o f r.toList 0;Q .normal [(0,.pointer a),(1,.slice b c d),(4,.pointer (some e)),(5,.pointer (some f)),(6,.int .i64 (i64.wrap (g+(1:Int))))] v) (Q .normal [(0,.pointer a),(1,.slice b c d),(4,.pointer (some e)),(5,.pointer (some f)),(6,.int .i64 (i64.wrap (g+(1:Int))))] o)) (Q (.exit 0) [(0,.pointer a),(1,.slice b c d),(4,.pointer (some e)),(5,.pointer (some f)),(6,.int .i64 g)] w)
theorem a7.b1:(aW none [] prog 28 a7.k (lB (bB (sR (sL (aQ (body f81)))))) a7.u1 Q [(0,.pointer a),(1,.slice b c d),(4,.pointer (some e)),(5,.pointer (some f)),(6,.int .i64 g)] w)=a7.B1 a b c d e f g Q w:=by kernel_rfl
variable{a b c d e f}
theorem a7.cC(I:Int->World->Prop)(μ:Int->World->Nat)(s:Int){Q:aO}{w:World}(h0:I s w)
 (round:∀s w,I s w->a7.B1 a b c d e f s (bR (a7.e1 a b c d e f) I μ s w Q) w):Holds none [] prog 28 (.loop (lB (bB (sR (sL (aQ (body f81))))))) Q (a7.e1 a b c d e f s) w:=
 bp ng mix (a7.e1 a b c d e f) I μ a7.k a7.u1 s (fun s Q w=>a7.B1 a b c d e f s Q w) (fun s Q w=>a7.b1 a b c d e f s Q w) h0 round
end
section
def a7.cU(a b:OA)(c d:Nat)(e f:Addr)(g:Int)(K:KT)(w:World):Prop:=
 ∃i:AV,(i.size=32/\Cells w f i)/\(i.size=32/\(∀j∈i.toList,j.oneCell'=true)/\∀k,k<32->Wr w (e.add k))/\let m:=setCells w e i.toList 0;∃n:AV,(n.size=32/\Cells m e n)/\K (.agg n) m
variable(a b:OA)(c d:Nat)(e f:Addr)(g:Int)(K:KT)(w:World)
theorem a7.df:(a7.q1 K (.exit 0) [(0,.pointer a),(1,.slice b c d),(4,.pointer (some e)),(5,.pointer (some f)),(6,.int .i64 g)] w)=a7.cU a b c d e f g K w:=by kernel_rfl
end
def ir.k:List Nat:= []
section
variable(a:OA)(b:AV)(K:KT)(w:World)
def ir.W:Prop:=
 let d:=w.alloc (.cells b 24);∃e:AV,(e.size=32/\Cells d (aP w.heap.size) e)/\e.size=32/\let f:=d.alloc (.cells (e.toList++ []).toArray 24);bC prog 74 #[.pointer a,.slice (some (aP d.heap.size)) 1 1] f fun g i=>∃j:Int,g=.int .i64 j/\Split (j != (0:Int)) (K (.tuple #[.slice none 0 0,.int .i64 j]) i) (∃k:AV,(k.size=32/\Cells i (aP w.heap.size) k)/\bC prog 76 #[.pointer a,.agg k] i fun m n=>∃o:OA,∃p q:Nat,m=.slice o p q/\K (.tuple #[.slice o p q,.int .i64 0]) n)
variable{a b K w}
theorem ir.of(h:ir.W a b K w):bC prog 30 #[.pointer a,.agg b] w K:=
 rqq func30 (C:=ir.k) h
end
def iQ.k:List Nat:= []
section
variable(a:OA)(b:AV)(K:KT)(w:World)
def iQ.W:Prop:=
 let d:=w.alloc (.cells (#[.pointer a]:AV) 28);let e:=d.alloc (.cells b 24);K (.func (.func 77) #[] #[.pointer (some (aP w.heap.size)),.pointer (some (aP d.heap.size))]) e
variable{a b K w}
theorem iQ.of(h:iQ.W a b K w):bC prog 31 #[.pointer a,.agg b] w K:=
 rqq func31 (C:=iQ.k) h
end
section
variable(a:OA)(b:AV)(d:OA)(e f:Nat)(K:KT)(w:World)
variable{a b d e f K w}
end
section
variable(a:OA)(b d:AV)(K:KT)(w:World)
variable{a b d K w}
end
def cJ.k:List Nat:= []
def cJ.q1(K:KT):aO:=(aL 0 (ck (aQ (sR (body f74)))++(aS f74)) (bV (fun b6 w_=>match cutAt cJ.k (aQ (sR (body f74)))with|true=>Holds none [] prog 29 (aQ (sR (body f74))) (bS prog f74 K) b6 w_|false=>aW none [] prog 29 cJ.k (aQ (sR (body f74))) (aS f74) (bS prog f74 K) b6 w_) (bS prog f74 K)))
def cJ.e1(a b:OA)(c d:Nat)(e:Int)(s:Int×Int):Env:= [(0,.pointer a),(4,.int .i64 s.1),(13,.slice b c d),(14,.int .i64 e),(15,.int .i64 s.2)]
def cJ.u1:List Nat:= [0,4,13,14,15]
section
variable(a b:OA)(d e:Nat)(K:KT)(w:World)
def cJ.W:Prop:=
 bC prog 45 #[.pointer a] w fun f g=>∃i:OA,f=.pointer i/\bC prog 46 #[.pointer i] g fun j k=>∃m:OA,j=.pointer m/\Split ((m).isNone) (K (.int .i64 1) k) (Holds none [] prog 29 (.loop (lB (bB (sR (sL (aQ (body f74))))))) (cJ.q1 K) [(0,.pointer a),(4,.int .i64 0),(13,.slice b d e),(14,.int .i64 (d:Int)),(15,.int .i64 0)] k)
variable{a b d e K w}
theorem cJ.of(h:cJ.W a b d e K w):bC prog 74 #[.pointer a,.slice b d e] w K:=
 rqq func74 (C:=cJ.k) h
end
section
variable(a:OA)(b:Int)(c:OA)(d e:Nat)(f g:Int)(Q:aO)(w:World)
def cJ.B1:Prop:=
 Split (decide (g<f)) ((0<=g/\g<(d:Int))/\Is c fun i:Addr=>∃j:AV,(j.size=32/\Cells w (i.add (g.toNat*32)) j)/\let k:=w.alloc (.cells zH 24);(j.size=32/\(∀m∈j.toList,m.oneCell'=true)/\∀n,n<32->Wr k ((aP w.heap.size).add n))/\let o:=setCells k (aP w.heap.size) j.toList 0;∃p:AV,(p.size=32/\Cells o (aP w.heap.size) p)/\bC prog 78 #[.pointer a,.agg p] o fun q r=>∃t:AV,∃u:Int,q=.tuple #[.agg t,.int .i64 u]/\let v:=r.alloc (.cells zC 53);(t.size=35/\(∀x∈t.toList,x.oneCell'=true)/\∀y,y<35->Wr v ((aP r.heap.size).add y))/\let z:=setCells v (aP r.heap.size) t.toList 0;Split (u != (0:Int)) (Q .ret [(0,.pointer a),(4,.int .i64 u),(13,.slice c d e),(14,.int .i64 f),(15,.int .i64 g)] z) (Q .normal [(0,.pointer a),(4,.int .i64 b),(13,.slice c d e),(14,.int .i64 f),(15,.int .i64 (i64.wrap (g+(1:Int))))] z)) (Q (.exit 0) [(0,.pointer a),(4,.int .i64 b),(13,.slice c d e),(14,.int .i64 f),(15,.int .i64 g)] w)
theorem cJ.b1:(aW none [] prog 29 cJ.k (lB (bB (sR (sL (aQ (body f74)))))) cJ.u1 Q [(0,.pointer a),(4,.int .i64 b),(13,.slice c d e),(14,.int .i64 f),(15,.int .i64 g)] w)=cJ.B1 a b c d e f g Q w:=by kernel_rfl
variable{a c d e f}
theorem cJ.cC(I:Int×Int->World->Prop)(μ:Int×Int->World->Nat)(s:Int×Int){Q:aO}{w:World}(h0:I s w)
 (round:∀s w,I s w->cJ.B1 a (s.1) c d e f (s.2) (bR (cJ.e1 a c d e f) I μ s w Q) w):Holds none [] prog 29 (.loop (lB (bB (sR (sL (aQ (body f74))))))) Q (cJ.e1 a c d e f s) w:=
 bp ng mix (cJ.e1 a c d e f) I μ cJ.k cJ.u1 s (fun s Q w=>cJ.B1 a (s.1) c d e f (s.2) Q w) (fun s Q w=>cJ.b1 a (s.1) c d e f (s.2) Q w) h0 round
end
section
def cJ.cU(a:OA)(b:Int)(c:OA)(d e:Nat)(f g:Int)(K:KT)(w:World):Prop:=
 K (.int .i64 0) w
variable(a:OA)(b:Int)(c:OA)(d e:Nat)(f g:Int)(K:KT)(w:World)
theorem cJ.df:(cJ.q1 K (.exit 0) [(0,.pointer a),(4,.int .i64 b),(13,.slice c d e),(14,.int .i64 f),(15,.int .i64 g)] w)=cJ.cU a b c d e f g K w:=by kernel_rfl
end
def iP.k:List Nat:= []
section
variable(a:OA)(b:AV)(K:KT)(w:World)
def iP.W:Prop:=
 let d:=w.alloc (.cells b 24);let e:=d.drew;∃f:AV,(f.size=32/\Cells e (aP w.heap.size) f)/\bC prog 45 #[.pointer a] e fun g i=>∃j:OA,g=.pointer j/\(∃cs:AV,(.agg f:Value)=.agg cs/\cs.size=32/\Cells i (aP w.heap.size) cs)/\bC prog 109 #[.pointer j,.agg f] i fun k m=>∃n:Value,k=n/\bC prog 108 #[n] m fun o p=>∃q:OA,∃r t:Nat,o=.slice q r t/\bC prog 110 #[.slice q r t] p fun u v=>u=.tuple #[]/\K (.slice q r t) v
variable{a b K w}
theorem iP.of(h:iP.W a b K w):bC prog 76 #[.pointer a,.agg b] w K:=
 rqq func76 (C:=iP.k) h
end
def aK.k:List Nat:= []
def aK.q1(K:KT):aO:=(aL 0 (aS f110) (bS prog f110 K))
def aK.e1(a:OA)(b c:Nat)(s:Int×Int):Env:= [(0,.slice a b c),(2,.int .i64 s.1),(3,.int .i64 s.2)]
def aK.u1:List Nat:= [0,2,3]
section
variable(a:OA)(b d:Nat)(K:KT)(w:World)
def aK.W:Prop:=
 Holds none [] prog 28 (.loop (lB (bB (sR (body f110))))) (aK.q1 K) [(0,.slice a b d),(2,.int .i64 0),(3,.int .i64 (i64.wrap ((b:Int)-(1:Int))))] w
variable{a b d K w}
theorem aK.of(h:aK.W a b d K w):bC prog 110 #[.slice a b d] w K:=
 rqq func110 (C:=aK.k) h
end
section
variable(a:OA)(b c:Nat)(d e:Int)(Q:aO)(w:World)
def aK.B1:Prop:=
 Split (decide (d<e)) (let f:=w.drew;(0<=e/\e<(b:Int))/\Is a fun g:Addr=>∃i:AV,(i.size=32/\Cells f (g.add (e.toNat*32)) i)/\(0<=d/\d<(b:Int))/\Is a fun j:Addr=>∃k:AV,(k.size=32/\Cells f (j.add (d.toNat*32)) k)/\(0<=d/\d<(b:Int))/\Is a fun m:Addr=>(i.size=32/\(∀n∈i.toList,n.oneCell'=true)/\∀o,o<32->Wr f ((m.add (d.toNat*32)).add o))/\let p:=setCells f (m.add (d.toNat*32)) i.toList 0;(0<=e/\e<(b:Int))/\Is a fun q:Addr=>(k.size=32/\(∀r∈k.toList,r.oneCell'=true)/\∀t,t<32->Wr p ((q.add (e.toNat*32)).add t))/\let u:=setCells p (q.add (e.toNat*32)) k.toList 0;Q .normal [(0,.slice a b c),(2,.int .i64 (i64.wrap (d+(1:Int)))),(3,.int .i64 (i64.wrap (e-(1:Int))))] u) (Q (.exit 0) [(0,.slice a b c),(2,.int .i64 d),(3,.int .i64 e)] w)
theorem aK.b1:(aW none [] prog 28 aK.k (lB (bB (sR (body f110)))) aK.u1 Q [(0,.slice a b c),(2,.int .i64 d),(3,.int .i64 e)] w)=aK.B1 a b c d e Q w:=by kernel_rfl
variable{a b c}
theorem aK.cC(I:Int×Int->World->Prop)(μ:Int×Int->World->Nat)(s:Int×Int){Q:aO}{w:World}(h0:I s w)
 (round:∀s w,I s w->aK.B1 a b c (s.1) (s.2) (bR (aK.e1 a b c) I μ s w Q) w):Holds none [] prog 28 (.loop (lB (bB (sR (body f110))))) Q (aK.e1 a b c s) w:=
 bp ng mix (aK.e1 a b c) I μ aK.k aK.u1 s (fun s Q w=>aK.B1 a b c (s.1) (s.2) Q w) (fun s Q w=>aK.b1 a b c (s.1) (s.2) Q w) h0 round
end
section
def aK.cU(a:OA)(b c:Nat)(d e:Int)(K:KT)(w:World):Prop:=
 K (.tuple #[]) w
variable(a:OA)(b c:Nat)(d e:Int)(K:KT)(w:World)
theorem aK.df:(aK.q1 K (.exit 0) [(0,.slice a b c),(2,.int .i64 d),(3,.int .i64 e)] w)=aK.cU a b c d e K w:=by kernel_rfl
end
def bu.k:List Nat:= []
def bu.q1(K:KT):aO:=(aL 0 (aS f77) (bS prog f77 K))
def bu.e1(a:Nat)(b:Addr)(c:OA)(d e:Nat)(f s:Int):Env:= [(0,.func (.yield a) #[] #[]),(1,.pointer (some b)),(16,.slice c d e),(17,.int .i64 f),(18,.int .i64 s)]
def bu.u1:List Nat:= [0,1,16,17,18]
section
variable(a:Nat)(b d:Addr)(K:KT)(w:World)
def bu.W:Prop:=
 ∃e:OA,w.cell? b=some (.pointer e)/\∃f:AV,(f.size=32/\Cells w d f)/\f.size=32/\let g:=w.alloc (.cells (f.toList++ []).toArray 24);bC prog 74 #[.pointer e,.slice (some (aP w.heap.size)) 1 1] g fun i j=>∃k:Int,i=.int .i64 k/\Split (k != (0:Int)) (K (.tuple #[]) j) (∃m:OA,j.cell? b=some (.pointer m)/\∃n:AV,(n.size=32/\Cells j d n)/\bC prog 76 #[.pointer m,.agg n] j fun o p=>∃q:OA,∃r t:Nat,o=.slice q r t/\(0<=(1:Int)/\(1:Int)<=(r:Int))/\Holds none [] prog 39 (.loop (lB (bB (aQ (body f77))))) (bu.q1 K) [(0,.func (.yield a) #[] #[]),(1,.pointer (some b)),(16,.slice (if t=(1:Int).toNat then q else q.map (·.add (((1:Int).toNat)*32))) (r-((1:Int).toNat)) (t-((1:Int).toNat))),(17,.int .i64 ((r-((1:Int).toNat):Nat):Int)),(18,.int .i64 0)] p)
variable{a b d K w}
theorem bu.of(h:bu.W a b d K w):bC prog 77 #[.func (.yield a) #[] #[],.pointer (some b),.pointer (some d)] w K:=
 rqq func77 (C:=bu.k) h
end
section
variable(a:Nat)(b:Addr)(c:OA)(d e:Nat)(f g:Int)(Q:aO)(w:World)
def bu.B1:Prop:=
 Split (decide (g<f)) ((0<=g/\g<(d:Int))/\Is c fun i:Addr=>∃j:AV,(j.size=32/\Cells w (i.add (g.toNat*32)) j)/\let k:=w.alloc (.cells zH 24);(j.size=32/\(∀m∈j.toList,m.oneCell'=true)/\∀n,n<32->Wr k ((aP w.heap.size).add n))/\let o:=setCells k (aP w.heap.size) j.toList 0;∃p:OA,o.cell? b=some (.pointer p)/\∃q:AV,(q.size=32/\Cells o (aP w.heap.size) q)/\bC prog 78 #[.pointer p,.agg q] o fun r t=>∃u:AV,∃v:Int,r=.tuple #[.agg u,.int .i64 v]/\let x:=t.alloc (.cells zC 53);(u.size=35/\(∀y∈u.toList,y.oneCell'=true)/\∀z,z<35->Wr x ((aP t.heap.size).add z))/\let aa:=setCells x (aP t.heap.size) u.toList 0;let ba:=aa.drew;∃ca:AV,(ca.size=32/\Cells ba (aP w.heap.size) ca)/\∃da:AV,(da.size=32/\Cells ba ((aP t.heap.size).add 0) da)/\∃ea:OA,∃fa ga:Nat,ba.cell? ((aP t.heap.size).add 33)=some (.slice ea fa ga)/\da.size=32/\let ia:=ba.alloc (.cells (da.toList++ []).toArray 24);ia.cell? ((aP t.heap.size).add 33)=some (.slice ea fa ga)/\(∃cs:AV,(.agg ca:Value)=.agg cs/\cs.size=32/\Cells ia (aP w.heap.size) cs)/\∃(ja:OA) (ka ma:Nat) (na:World),(Builtin.append_ #[33,33] 33 #[.slice (some (aP ba.heap.size)) 1 1,.slice ea fa ga]).run prog ia=.ok (.slice ja ka ma) na/\(∃cs:AV,(.agg ca:Value)=.agg cs/\cs.size=32/\Cells na (aP w.heap.size) cs)/\jz prog a #[.agg ca,.slice ja ka ma] na fun oa pa=>Split (!oa) (Q .ret [(0,.func (.yield a) #[] #[]),(1,.pointer (some b)),(16,.slice c d e),(17,.int .i64 f),(18,.int .i64 g)] pa) (Q .normal [(0,.func (.yield a) #[] #[]),(1,.pointer (some b)),(16,.slice c d e),(17,.int .i64 f),(18,.int .i64 (i64.wrap (g+(1:Int))))] pa)) (Q (.exit 0) [(0,.func (.yield a) #[] #[]),(1,.pointer (some b)),(16,.slice c d e),(17,.int .i64 f),(18,.int .i64 g)] w)
theorem bu.b1:(aW none [] prog 39 bu.k (lB (bB (aQ (body f77)))) bu.u1 Q [(0,.func (.yield a) #[] #[]),(1,.pointer (some b)),(16,.slice c d e),(17,.int .i64 f),(18,.int .i64 g)] w)=bu.B1 a b c d e f g Q w:=by kernel_rfl
variable{a b c d e f}
theorem bu.cC(I:Int->World->Prop)(μ:Int->World->Nat)(s:Int){Q:aO}{w:World}(h0:I s w)
 (round:∀s w,I s w->bu.B1 a b c d e f s (bR (bu.e1 a b c d e f) I μ s w Q) w):Holds none [] prog 39 (.loop (lB (bB (aQ (body f77))))) Q (bu.e1 a b c d e f s) w:=
 bp ng mix (bu.e1 a b c d e f) I μ bu.k bu.u1 s (fun s Q w=>bu.B1 a b c d e f s Q w) (fun s Q w=>bu.b1 a b c d e f s Q w) h0 round
end
section
def bu.cU(a:Nat)(b:Addr)(c:OA)(d e:Nat)(f g:Int)(K:KT)(w:World):Prop:=
 K (.tuple #[]) w
variable(a:Nat)(b:Addr)(c:OA)(d e:Nat)(f g:Int)(K:KT)(w:World)
theorem bu.df:(bu.q1 K (.exit 0) [(0,.func (.yield a) #[] #[]),(1,.pointer (some b)),(16,.slice c d e),(17,.int .i64 f),(18,.int .i64 g)] w)=bu.cU a b c d e f g K w:=by kernel_rfl
end
def dc.k:List Nat:= []
def dc.uG(K:KT):aO:=(aL 0 (ck (bU (body Tryz.f25))++(aS Tryz.f25)) (bV (fun b6 w_=>match cutAt dc.k (bU (body Tryz.f25))with|true=>Holds none [] prog 26 (bU (body Tryz.f25)) (bS prog Tryz.f25 K) b6 w_|false=>aW none [] prog 26 dc.k (bU (body Tryz.f25)) (aS Tryz.f25) (bS prog Tryz.f25 K) b6 w_) (bS prog Tryz.f25 K)))
section
variable(a:OA)(b:AV)(K:KT)(w:World)
def dc.W:Prop:=
 let d:=w.alloc (.cells b 24);∃e:AV,(e.size=32/\Cells d (aP w.heap.size) e)/\e.size=32/\let f:=d.alloc (.cells (e.toList++ []).toArray 24);bC prog 74 #[.pointer a,.slice (some (aP d.heap.size)) 1 1] f fun g i=>∃j:Int,g=.int .i64 j/\Split (j != (0:Int)) (K (.tuple #[.slice none 0 0,.int .i64 j]) i) (let k:=i.alloc (.cells (#[.slice none 0 0]:AV) 33);∃m:AV,(m.size=32/\Cells k (aP w.heap.size) m)/\bC prog 31 #[.pointer a,.agg m] k fun n o=>∃p:Value,n=p/\Holds none [] prog 26 (bB (sR (sL (aQ (sR (body Tryz.f25)))))) (dc.uG K) [(4,.slice none 0 0),(5,.int .i64 0),(7,.pointer (some (aP i.heap.size))),(19,p)] o)
variable{a b K w}
theorem dc.of(h:dc.W a b K w):bC prog 25 #[.pointer a,.agg b] w K:=
 rqq func25 (C:=dc.k) h
end
section
def dc.A1(l:Nat)(a:OA)(b c:Nat)(d:Int)(e:Addr)(f:Value)(g:AV)(i:OA)(j k:Nat)(Q:aO)(w:World):Prop:=
 Q .normal [(7,.pointer (some e)),(9,.slice i j k)] w
variable(l:Nat)(a:OA)(b c:Nat)(d:Int)(e:Addr)(f:Value)(g:AV)(i:OA)(j k:Nat)(Q:aO)(w:World)
theorem dc.a1:(aW (some l) [] prog 26 dc.k (rA (bB (sR (sL (aQ (sR (body Tryz.f25))))))) (ck (rB (bB (sR (sL (aQ (sR (body Tryz.f25)))))))) Q [(4,.slice a b c),(5,.int .i64 d),(7,.pointer (some e)),(19,f),(20,.agg g),(21,.slice i j k)] w)=dc.A1 l a b c d e f g i j k Q w:=by kernel_rfl
end
section
def dc.Y1(l:Nat)(a:Addr)(b:OA)(c d:Nat)(Q:aO)(w:World):Prop:=
 ∃e:OA,∃f g:Nat,w.cell? a=some (.slice e f g)/\∃(i:OA) (j k:Nat) (m:World),(Builtin.append_ #[33,33] 33 #[.slice e f g,.slice b c d]).run prog w=.ok (.slice i j k) m/\Wr m a/\let n:=m.setCell a (.slice i j k);Q .normal [] n
variable(l:Nat)(a:Addr)(b:OA)(c d:Nat)(Q:aO)(w:World)
theorem dc.y1:(aW (some l) [] prog 26 dc.k (rB (bB (sR (sL (aQ (sR (body Tryz.f25))))))) [] Q [(7,.pointer (some a)),(9,.slice b c d)] w)=dc.Y1 l a b c d Q w:=by kernel_rfl
end
section
def dc.fD(a:OA)(b c:Nat)(d:Int)(e:Addr)(f:Value)(ms:AV)(K:KT)(w:World):Prop:=
 ∃g:OA,∃i j:Nat,w.cell? e=some (.slice g i j)/\jZ (marksOf (.agg ms)) w/\K (.tuple #[.slice g i j,.int .i64 0]) (fL (marksOf (.agg ms)) w)
variable(a:OA)(b c:Nat)(d:Int)(e:Addr)(f:Value)(ms:AV)(K:KT)(w:World)
theorem dc.iL:(dc.uG K .normal [(4,.slice a b c),(5,.int .i64 d),(7,.pointer (some e)),(19,f),(4294967296,.agg ms)] w)=dc.fD a b c d e f ms K w:=by kernel_rfl
end
section
variable(a:OA)(b d:AV)(K:KT)(w:World)
variable{a b d K w}
end
section
variable(l:Nat)(a b c:Addr)(d:Value)(e:AV)(f:OA)(g i:Nat)(Q:aO)(w:World)
end
section
variable(l:Nat)(a b c d:Addr)(e:OA)(f g:Nat)(Q:aO)(w:World)
end
section
variable(a b c:Addr)(d:Value)(ms:AV)(K:KT)(w:World)
end
section
variable(a b c:Addr)(d:Value)(ms:AV)(K:KT)(w:World)
end
def lC.k:List Nat:= []
def lC.q1(K:KT):aO:=(aL 0 (ck (bU (body Tryz.f5))++(aS Tryz.f5)) (bV (fun b6 w_=>match cutAt lC.k (bU (body Tryz.f5))with|true=>Holds none [] prog 166 (bU (body Tryz.f5)) (bS prog Tryz.f5 K) b6 w_|false=>aW none [] prog 166 lC.k (bU (body Tryz.f5)) (aS Tryz.f5) (bS prog Tryz.f5 K) b6 w_) (bS prog Tryz.f5 K)))
section
variable(a:Int)(b:AV)(d:OA)(e f:Nat)(K:KT)(w:World)
variable{a b d e f K w}
end
section
variable(a:Bool)(b c:OA)(d:Int)(Q:aO)(w:World)
variable{b c}
end
section
variable(a:Bool)(b c:OA)(d:Int)(K:KT)(w:World)
end
section
variable(a:Bool)(b c:OA)(d:Int)(e:Addr)(f:OA)(g i:Nat)(j:Int)(Q:aO)(w:World)
variable{b c d e f g i}
end
section
variable(a:Bool)(b c:OA)(d:Int)(e:Addr)(f:OA)(g i:Nat)(j:Int)(Q:aO)(w:World)
end
section
variable(a:Bool)(b c:OA)(d:Int)(e:Addr)(f:OA)(g i:Nat)(j k:Int)(Q:aO)(w:World)
variable{b c d e f g i j}
end
section
variable(a:Bool)(b c:OA)(d:Int)(e:Addr)(f:OA)(g i:Nat)(j k:Int)(Q:aO)(w:World)
end
section
variable(a:Bool)(b c:OA)(d:Int)(e:OA)(f g:Nat)(i:OA)(j k:Nat)(m:Int)(Q:aO)(w:World)
variable{b c d e f g i j k}
end
section
variable(a:Bool)(b c:OA)(d:Int)(e:OA)(f g:Nat)(i:OA)(j k:Nat)(m:Int)(Q:aO)(w:World)
end
section
variable(a:Int)(b:AV)(d:OA)(e f:Nat)(g:AV)(i:OA)(j k:Nat)(K:KT)(w:World)
variable{a b d e f g i j k K w}
end
section
variable(a:Int)(b:AV)(d:OA)(e f:Nat)(K:KT)(w:World)
variable{a b d e f K w}
end
section
variable(a:Bool)(b c:OA)(d:Int)(Q:aO)(w:World)
variable{b c}
end
section
variable(a:Bool)(b c:OA)(d:Int)(K:KT)(w:World)
end
section
variable(a:Bool)(b c:OA)(d:Int)(e:Addr)(f:OA)(g i:Nat)(j:OA)(k m:Nat)(n:Int)(Q:aO)(w:World)
variable{b c d e f g i j k m}
end
section
variable(a:Bool)(b c:OA)(d:Int)(e:Addr)(f:OA)(g i:Nat)(j:OA)(k m:Nat)(n:Int)(Q:aO)(w:World)
end
section
variable(a:Bool)(b c:OA)(d:Int)(e:Addr)(f:OA)(g i:Nat)(j:OA)(k m:Nat)(n:Int)(o:Addr)(p q:Int)(Q:aO)(w:World)
variable{a b c d e f g i j k m n o}
end
section
variable(a:Bool)(b c:OA)(d:Int)(e:Addr)(f:OA)(g i:Nat)(j:OA)(k m:Nat)(n:Int)(o:Addr)(p q:Int)(Q:aO)(w:World)
end
def aA.k:List Nat:= [16,17]
def aA.q1(K:KT):aO:=(aL 0 (ck (aQ (sR (body Tryz.f23)))++(aS Tryz.f23)) (bV (fun b6 w_=>match cutAt aA.k (aQ (sR (body Tryz.f23)))with|true=>Holds none [] prog 99 (aQ (sR (body Tryz.f23))) (bS prog Tryz.f23 K) b6 w_|false=>aW none [] prog 99 aA.k (aQ (sR (body Tryz.f23))) (aS Tryz.f23) (bS prog Tryz.f23 K) b6 w_) (bS prog Tryz.f23 K)))
def aA.e1(a:Int)(b:OA)(c d:Nat)(e:Addr)(s:(OA)×(OA)×Bool×Bool×Int):Env:= [(0,.int .i64 a),(2,.slice b c d),(4,.pointer (some e)),(6,.pointer s.1),(7,.pointer s.2.1),(8,.bool s.2.2.1),(9,.bool s.2.2.2.1),(10,.int .i64 s.2.2.2.2)]
def aA.u1:List Nat:= [0,2,4,6,7,8,9,10]
def aA.q2(K:KT):aO:=(aL 2 (ck (bU (aQ (sR (body Tryz.f23))))++(aS Tryz.f23)) (bV (fun b6 w_=>match cutAt aA.k (bU (aQ (sR (body Tryz.f23))))with|true=>Holds none [] prog 99 (bU (aQ (sR (body Tryz.f23)))) (bS prog Tryz.f23 K) b6 w_|false=>aW none [] prog 99 aA.k (bU (aQ (sR (body Tryz.f23)))) (aS Tryz.f23) (bS prog Tryz.f23 K) b6 w_) (bS prog Tryz.f23 K)))
def aA.e2(a:OA)(b c:Nat)(d e:OA)(s:(OA)×(OA)×Bool×Bool×Int):Env:= [(2,.slice a b c),(6,.pointer s.1),(7,.pointer s.2.1),(8,.bool s.2.2.1),(9,.bool s.2.2.2.1),(11,.pointer d),(13,.pointer e),(14,.int .i64 s.2.2.2.2)]
def aA.u2:List Nat:= [2,6,7,8,9,11,13,14]
section
variable(a:Int)(b:AV)(d:OA)(e f:Nat)(K:KT)(w:World)
def aA.W:Prop:=
 let g:=w.alloc (.cells b 24);Split (decide (a<(0:Int))) (K (.tuple #[.pointer none,.pointer none,.bool false,.bool true]) g) (Split (decide (a>(6:Int))) (K (.tuple #[.pointer none,.pointer none,.bool false,.bool true]) g) (Split (decide ((e:Int)>(18:Int))) (K (.tuple #[.pointer none,.pointer none,.bool false,.bool true]) g) (Holds none [] prog 99 (.loop (lB (bB (sR (sL (aQ (body Tryz.f23))))))) (aA.q1 K) [(0,.int .i64 a),(2,.slice d e f),(4,.pointer (some (aP w.heap.size))),(6,.pointer none),(7,.pointer none),(8,.bool false),(9,.bool false),(10,.int .i64 0)] g)))
variable{a b d e f K w}
theorem aA.of(h:aA.W a b d e f K w):bC prog 23 #[.int .i64 a,.agg b,.slice d e f] w K:=
 rqq func23 (C:=aA.k) h
end
section
variable(a:Int)(b:OA)(c d:Nat)(e:Addr)(f g:OA)(i j:Bool)(k:Int)(Q:aO)(w:World)
def aA.B1:Prop:=
 Split (decide (k<(c:Int))) ((0<=k/\k<(c:Int))/\Is b fun m:Addr=>∃n:OA,∃o p:Nat,w.cell? ((m.add (k.toNat*33)).add 32)=some (.slice n o p)/\Split (decide ((o:Int)>(6:Int))) (Q .ret [(0,.int .i64 a),(2,.slice b c d),(4,.pointer (some e)),(6,.pointer none),(7,.pointer none),(8,.bool false),(9,.bool true),(10,.int .i64 k)] w) (Q .normal [(0,.int .i64 a),(2,.slice b c d),(4,.pointer (some e)),(6,.pointer f),(7,.pointer g),(8,.bool i),(9,.bool j),(10,.int .i64 (i64.wrap (k+(1:Int))))] w)) (Q (.exit 0) [(0,.int .i64 a),(2,.slice b c d),(4,.pointer (some e)),(6,.pointer f),(7,.pointer g),(8,.bool i),(9,.bool j),(10,.int .i64 k)] w)
theorem aA.b1:(aW none [] prog 99 aA.k (lB (bB (sR (sL (aQ (body Tryz.f23)))))) aA.u1 Q [(0,.int .i64 a),(2,.slice b c d),(4,.pointer (some e)),(6,.pointer f),(7,.pointer g),(8,.bool i),(9,.bool j),(10,.int .i64 k)] w)=aA.B1 a b c d e f g i j k Q w:=by kernel_rfl
variable{a b c d e}
theorem aA.cC(I:(OA)×(OA)×Bool×Bool×Int->World->Prop)(μ:(OA)×(OA)×Bool×Bool×Int->World->Nat)(s:(OA)×(OA)×Bool×Bool×Int){Q:aO}{w:World}(h0:I s w)
 (round:∀s w,I s w->aA.B1 a b c d e (s.1) (s.2.1) (s.2.2.1) (s.2.2.2.1) (s.2.2.2.2) (bR (aA.e1 a b c d e) I μ s w Q) w):Holds none [] prog 99 (.loop (lB (bB (sR (sL (aQ (body Tryz.f23))))))) Q (aA.e1 a b c d e s) w:=
 bp ng mix (aA.e1 a b c d e) I μ aA.k aA.u1 s (fun s Q w=>aA.B1 a b c d e (s.1) (s.2.1) (s.2.2.1) (s.2.2.2.1) (s.2.2.2.2) Q w) (fun s Q w=>aA.b1 a b c d e (s.1) (s.2.1) (s.2.2.1) (s.2.2.2.1) (s.2.2.2.2) Q w) h0 round
end
section
def aA.cU(a:Int)(b:OA)(c d:Nat)(e:Addr)(f g:OA)(i j:Bool)(k:Int)(K:KT)(w:World):Prop:=
 ∃m:AV,(m.size=32/\Cells w e m)/\bC prog 42 #[.int .i64 a,.agg m] w fun n o=>∃p:OA,∃q:Int,n=.tuple #[.pointer p,.int .i64 q]/\Split (q != (0:Int)) (K (.tuple #[.pointer none,.pointer none,.bool true,.bool false]) o) (Split ((p).isNone) (K (.tuple #[.pointer none,.pointer none,.bool true,.bool false]) o) (∃r:AV,(r.size=32/\Cells o e r)/\bC prog 43 #[.int .i64 a,.agg r] o fun t u=>∃v:OA,t=.pointer v/\Holds none [] prog 99 (.loop (lB (bB (sR (sL (bU (aQ (body Tryz.f23)))))))) (aA.q2 K) [(2,.slice b c d),(6,.pointer f),(7,.pointer g),(8,.bool i),(9,.bool j),(11,.pointer p),(13,.pointer v),(14,.int .i64 0)] u))
variable(a:Int)(b:OA)(c d:Nat)(e:Addr)(f g:OA)(i j:Bool)(k:Int)(K:KT)(w:World)
theorem aA.df:(aA.q1 K (.exit 0) [(0,.int .i64 a),(2,.slice b c d),(4,.pointer (some e)),(6,.pointer f),(7,.pointer g),(8,.bool i),(9,.bool j),(10,.int .i64 k)] w)=aA.cU a b c d e f g i j k K w:=by kernel_rfl
end
section
variable(a:OA)(b c:Nat)(d e:OA)(f g:Bool)(i j:OA)(k:Int)(Q:aO)(w:World)
def aA.B2:Prop:=
 Split (decide (k<(b:Int))) (let m:=w.drew;(0<=k/\k<(b:Int))/\Is a fun n:Addr=>∃o:AV,(o.size=32/\Cells m ((n.add (k.toNat*33)).add 0) o)/\(0<=k/\k<(b:Int))/\Is a fun p:Addr=>∃q:OA,∃r t:Nat,m.cell? ((p.add (k.toNat*33)).add 32)=some (.slice q r t)/\(bC prog 41 #[.pointer i,.agg o,.slice q r t] m fun u v=>∃x:AV,∃y:Int,u=.tuple #[.agg x,.int .i64 y]/\let z:=v.alloc (.cells zC 53);(x.size=35/\(∀aa∈x.toList,aa.oneCell'=true)/\∀ba,ba<35->Wr z ((aP v.heap.size).add ba))/\let ca:=setCells z (aP v.heap.size) x.toList 0;Holds none [] prog 99 (sR (bB (sL (sR (lB (bB (sR (sL (bU (aQ (body Tryz.f23))))))))))) (aL 3 (ck (aQ (lB (bB (sR (sL (bU (aQ (body Tryz.f23))))))))++aA.u2) (bV (fun b6 w_=>match cutAt aA.k (aQ (lB (bB (sR (sL (bU (aQ (body Tryz.f23))))))))with|true=>Holds none [] prog 99 (aQ (lB (bB (sR (sL (bU (aQ (body Tryz.f23)))))))) Q b6 w_|false=>aW none [] prog 99 aA.k (aQ (lB (bB (sR (sL (bU (aQ (body Tryz.f23)))))))) aA.u2 Q b6 w_) Q)) [(2,.slice a b c),(6,.pointer d),(7,.pointer e),(8,.bool f),(9,.bool g),(11,.pointer i),(13,.pointer j),(14,.int .i64 k),(16,.int .i64 y)] ca)/\(let da:=m.alloc (.cells zC 53);da.cell? ((p.add (k.toNat*33)).add 32)=some (.slice q r t)/\(∃cs:AV,(.agg o:Value)=.agg cs/\cs.size=32/\Cells da ((n.add (k.toNat*33)).add 0) cs)/\bC prog 41 #[.pointer i,.agg o,.slice q r t] da fun ea fa=>∃ga:AV,∃ia:Int,ea=.tuple #[.agg ga,.int .i64 ia]/\(ga.size=35/\(∀ja∈ga.toList,ja.oneCell'=true)/\∀ka,ka<35->Wr fa ((aP m.heap.size).add ka))/\let ma:=setCells fa (aP m.heap.size) ga.toList 0;Holds none [] prog 99 (sR (bB (sL (sR (lB (bB (sR (sL (bU (aQ (body Tryz.f23))))))))))) (aL 3 (ck (aQ (lB (bB (sR (sL (bU (aQ (body Tryz.f23))))))))++aA.u2) (bV (fun b6 w_=>match cutAt aA.k (aQ (lB (bB (sR (sL (bU (aQ (body Tryz.f23))))))))with|true=>Holds none [] prog 99 (aQ (lB (bB (sR (sL (bU (aQ (body Tryz.f23)))))))) Q b6 w_|false=>aW none [] prog 99 aA.k (aQ (lB (bB (sR (sL (bU (aQ (body Tryz.f23)))))))) aA.u2 Q b6 w_) Q)) [(2,.slice a b c),(6,.pointer d),(7,.pointer e),(8,.bool f),(9,.bool g),(11,.pointer i),(13,.pointer j),(14,.int .i64 k),(16,.int .i64 ia)] ma)) (Q (.exit 2) [(2,.slice a b c),(6,.pointer d),(7,.pointer e),(8,.bool f),(9,.bool g),(11,.pointer i),(13,.pointer j),(14,.int .i64 k)] w)
theorem aA.b2:(aW none [] prog 99 aA.k (lB (bB (sR (sL (bU (aQ (body Tryz.f23))))))) aA.u2 Q [(2,.slice a b c),(6,.pointer d),(7,.pointer e),(8,.bool f),(9,.bool g),(11,.pointer i),(13,.pointer j),(14,.int .i64 k)] w)=aA.B2 a b c d e f g i j k Q w:=by kernel_rfl
variable{a b c i j}
theorem aA.gU(I:(OA)×(OA)×Bool×Bool×Int->World->Prop)(μ:(OA)×(OA)×Bool×Bool×Int->World->Nat)(s:(OA)×(OA)×Bool×Bool×Int){Q:aO}{w:World}(h0:I s w)
 (round:∀s w,I s w->aA.B2 a b c (s.1) (s.2.1) (s.2.2.1) (s.2.2.2.1) i j (s.2.2.2.2) (bR (aA.e2 a b c i j) I μ s w Q) w):Holds none [] prog 99 (.loop (lB (bB (sR (sL (bU (aQ (body Tryz.f23)))))))) Q (aA.e2 a b c i j s) w:=
 bp ng mix (aA.e2 a b c i j) I μ aA.k aA.u2 s (fun s Q w=>aA.B2 a b c (s.1) (s.2.1) (s.2.2.1) (s.2.2.2.1) i j (s.2.2.2.2) Q w) (fun s Q w=>aA.b2 a b c (s.1) (s.2.1) (s.2.2.1) (s.2.2.2.1) i j (s.2.2.2.2) Q w) h0 round
end
section
def aA.iN(a:OA)(b c:Nat)(d e:OA)(f g:Bool)(i j:OA)(k:Int)(K:KT)(w:World):Prop:=
 K (.tuple #[.pointer i,.pointer j,.bool true,.bool true]) w
variable(a:OA)(b c:Nat)(d e:OA)(f g:Bool)(i j:OA)(k:Int)(K:KT)(w:World)
theorem aA.jN:(aA.q2 K (.exit 2) [(2,.slice a b c),(6,.pointer d),(7,.pointer e),(8,.bool f),(9,.bool g),(11,.pointer i),(13,.pointer j),(14,.int .i64 k)] w)=aA.iN a b c d e f g i j k K w:=by kernel_rfl
end
section
variable(a:OA)(b c:Nat)(d e:OA)(f g:Bool)(i j:OA)(k m:Int)(Q:aO)(w:World)
def aA.J1:Prop:=
 let n:=w.drew;(0<=k/\k<(b:Int))/\Is a fun o:Addr=>∃p:AV,(p.size=32/\Cells n ((o.add (k.toNat*33)).add 0) p)/\(0<=k/\k<(b:Int))/\Is a fun q:Addr=>∃r:OA,∃t u:Nat,n.cell? ((q.add (k.toNat*33)).add 32)=some (.slice r t u)/\(bC prog 44 #[.pointer j,.agg p,.slice r t u] n fun v x=>∃y:AV,∃z:Int,v=.tuple #[.agg y,.int .i64 z]/\let aa:=x.alloc (.cells zC 53);(y.size=35/\(∀ba∈y.toList,ba.oneCell'=true)/\∀ca,ca<35->Wr aa ((aP x.heap.size).add ca))/\let da:=setCells aa (aP x.heap.size) y.toList 0;Holds none [] prog 99 (aQ (bB (sL (sR (lB (bB (sR (sL (bU (aQ (body Tryz.f23))))))))))) (aL 3 (ck (aQ (lB (bB (sR (sL (bU (aQ (body Tryz.f23))))))))++aA.u2) (bV (fun b6 w_=>match cutAt aA.k (aQ (lB (bB (sR (sL (bU (aQ (body Tryz.f23))))))))with|true=>Holds none [] prog 99 (aQ (lB (bB (sR (sL (bU (aQ (body Tryz.f23)))))))) Q b6 w_|false=>aW none [] prog 99 aA.k (aQ (lB (bB (sR (sL (bU (aQ (body Tryz.f23)))))))) aA.u2 Q b6 w_) Q)) [(2,.slice a b c),(6,.pointer d),(7,.pointer e),(8,.bool f),(9,.bool g),(11,.pointer i),(13,.pointer j),(14,.int .i64 k),(16,.int .i64 m),(18,.int .i64 z)] da)/\(let ea:=n.alloc (.cells zC 53);ea.cell? ((q.add (k.toNat*33)).add 32)=some (.slice r t u)/\(∃cs:AV,(.agg p:Value)=.agg cs/\cs.size=32/\Cells ea ((o.add (k.toNat*33)).add 0) cs)/\bC prog 44 #[.pointer j,.agg p,.slice r t u] ea fun fa ga=>∃ia:AV,∃ja:Int,fa=.tuple #[.agg ia,.int .i64 ja]/\(ia.size=35/\(∀ka∈ia.toList,ka.oneCell'=true)/\∀ma,ma<35->Wr ga ((aP n.heap.size).add ma))/\let na:=setCells ga (aP n.heap.size) ia.toList 0;Holds none [] prog 99 (aQ (bB (sL (sR (lB (bB (sR (sL (bU (aQ (body Tryz.f23))))))))))) (aL 3 (ck (aQ (lB (bB (sR (sL (bU (aQ (body Tryz.f23))))))))++aA.u2) (bV (fun b6 w_=>match cutAt aA.k (aQ (lB (bB (sR (sL (bU (aQ (body Tryz.f23))))))))with|true=>Holds none [] prog 99 (aQ (lB (bB (sR (sL (bU (aQ (body Tryz.f23)))))))) Q b6 w_|false=>aW none [] prog 99 aA.k (aQ (lB (bB (sR (sL (bU (aQ (body Tryz.f23)))))))) aA.u2 Q b6 w_) Q)) [(2,.slice a b c),(6,.pointer d),(7,.pointer e),(8,.bool f),(9,.bool g),(11,.pointer i),(13,.pointer j),(14,.int .i64 k),(16,.int .i64 m),(18,.int .i64 ja)] na)
theorem aA.j1:(aW none [] prog 99 aA.k (sR (bB (sL (sR (lB (bB (sR (sL (bU (aQ (body Tryz.f23))))))))))) (ck (aQ (lB (bB (sR (sL (bU (aQ (body Tryz.f23))))))))++aA.u2) (aL 3 (ck (aQ (lB (bB (sR (sL (bU (aQ (body Tryz.f23))))))))++aA.u2) (bV (fun b6 w_=>match cutAt aA.k (aQ (lB (bB (sR (sL (bU (aQ (body Tryz.f23))))))))with|true=>Holds none [] prog 99 (aQ (lB (bB (sR (sL (bU (aQ (body Tryz.f23)))))))) Q b6 w_|false=>aW none [] prog 99 aA.k (aQ (lB (bB (sR (sL (bU (aQ (body Tryz.f23)))))))) aA.u2 Q b6 w_) Q)) [(2,.slice a b c),(6,.pointer d),(7,.pointer e),(8,.bool f),(9,.bool g),(11,.pointer i),(13,.pointer j),(14,.int .i64 k),(16,.int .i64 m)] w)=aA.J1 a b c d e f g i j k m Q w:=by kernel_rfl
variable{a b c d e f g i j k m Q w}
theorem aA.mF(h:aA.J1 a b c d e f g i j k m Q w):Holds none [] prog 99 (sR (bB (sL (sR (lB (bB (sR (sL (bU (aQ (body Tryz.f23))))))))))) (aL 3 (ck (aQ (lB (bB (sR (sL (bU (aQ (body Tryz.f23))))))))++aA.u2) (bV (fun b6 w_=>match cutAt aA.k (aQ (lB (bB (sR (sL (bU (aQ (body Tryz.f23))))))))with|true=>Holds none [] prog 99 (aQ (lB (bB (sR (sL (bU (aQ (body Tryz.f23)))))))) Q b6 w_|false=>aW none [] prog 99 aA.k (aQ (lB (bB (sR (sL (bU (aQ (body Tryz.f23)))))))) aA.u2 Q b6 w_) Q)) [(2,.slice a b c),(6,.pointer d),(7,.pointer e),(8,.bool f),(9,.bool g),(11,.pointer i),(13,.pointer j),(14,.int .i64 k),(16,.int .i64 m)] w:=
 cZ (C:=aA.k) ng mix (aA.j1 a b c d e f g i j k m Q w) h
end
section
variable(a:OA)(b c:Nat)(d e:OA)(f g:Bool)(i j:OA)(k m n:Int)(Q:aO)(w:World)
def aA.J2:Prop:=
 Split (m != n) (Q .ret [(2,.slice a b c),(6,.pointer none),(7,.pointer none),(8,.bool true),(9,.bool false),(11,.pointer i),(13,.pointer j),(14,.int .i64 k)] w) (Q .normal [(2,.slice a b c),(6,.pointer d),(7,.pointer e),(8,.bool f),(9,.bool g),(11,.pointer i),(13,.pointer j),(14,.int .i64 (i64.wrap (k+(1:Int))))] w)
theorem aA.j2:(aW none [] prog 99 aA.k (aQ (bB (sL (sR (lB (bB (sR (sL (bU (aQ (body Tryz.f23))))))))))) (ck (aQ (lB (bB (sR (sL (bU (aQ (body Tryz.f23))))))))++aA.u2) (aL 3 (ck (aQ (lB (bB (sR (sL (bU (aQ (body Tryz.f23))))))))++aA.u2) (bV (fun b6 w_=>match cutAt aA.k (aQ (lB (bB (sR (sL (bU (aQ (body Tryz.f23))))))))with|true=>Holds none [] prog 99 (aQ (lB (bB (sR (sL (bU (aQ (body Tryz.f23)))))))) Q b6 w_|false=>aW none [] prog 99 aA.k (aQ (lB (bB (sR (sL (bU (aQ (body Tryz.f23)))))))) aA.u2 Q b6 w_) Q)) [(2,.slice a b c),(6,.pointer d),(7,.pointer e),(8,.bool f),(9,.bool g),(11,.pointer i),(13,.pointer j),(14,.int .i64 k),(16,.int .i64 m),(18,.int .i64 n)] w)=aA.J2 a b c d e f g i j k m n Q w:=by kernel_rfl
variable{a b c d e f g i j k m n Q w}
theorem aA.qM(h:aA.J2 a b c d e f g i j k m n Q w):Holds none [] prog 99 (aQ (bB (sL (sR (lB (bB (sR (sL (bU (aQ (body Tryz.f23))))))))))) (aL 3 (ck (aQ (lB (bB (sR (sL (bU (aQ (body Tryz.f23))))))))++aA.u2) (bV (fun b6 w_=>match cutAt aA.k (aQ (lB (bB (sR (sL (bU (aQ (body Tryz.f23))))))))with|true=>Holds none [] prog 99 (aQ (lB (bB (sR (sL (bU (aQ (body Tryz.f23)))))))) Q b6 w_|false=>aW none [] prog 99 aA.k (aQ (lB (bB (sR (sL (bU (aQ (body Tryz.f23)))))))) aA.u2 Q b6 w_) Q)) [(2,.slice a b c),(6,.pointer d),(7,.pointer e),(8,.bool f),(9,.bool g),(11,.pointer i),(13,.pointer j),(14,.int .i64 k),(16,.int .i64 m),(18,.int .i64 n)] w:=
 cZ (C:=aA.k) ng mix (aA.j2 a b c d e f g i j k m n Q w) h
end
def iu.k:List Nat:= []
section
variable(K:KT)(w:World)
def iu.W:Prop:=
 let a:=w.alloc (.cells zH 24);let b:=a.alloc (.cells zH 24);let d:=b.alloc (.cells zH 24);let e:=d.alloc (.cells zH 24);((zx 1).size=32/\(∀f∈(zx 1).toList,f.oneCell'=true)/\∀g,g<32->Wr e ((aP w.heap.size).add g))/\let i:=setCells e (aP w.heap.size) (zx 1).toList 0;((zx 3).size=32/\(∀j∈(zx 3).toList,j.oneCell'=true)/\∀k,k<32->Wr i ((aP a.heap.size).add k))/\let m:=setCells i (aP a.heap.size) (zx 3).toList 0;((zx 2).size=32/\(∀n∈(zx 2).toList,n.oneCell'=true)/\∀o,o<32->Wr m ((aP b.heap.size).add o))/\let p:=setCells m (aP b.heap.size) (zx 2).toList 0;((zx 4).size=32/\(∀q∈(zx 4).toList,q.oneCell'=true)/\∀r,r<32->Wr p ((aP d.heap.size).add r))/\let t:=setCells p (aP d.heap.size) (zx 4).toList 0;∃u:AV,(u.size=32/\Cells t (aP w.heap.size) u)/\bC prog 42 #[.int .i64 0,.agg u] t fun v x=>∃y:OA,∃z:Int,v=.tuple #[.pointer y,.int .i64 z]/\Split (z != (0:Int)) (K (.bool false) x) (Split ((y).isNone) (K (.bool false) x) (∃aa:AV,(aa.size=32/\Cells x (aP a.heap.size) aa)/\∃ba:AV,(ba.size=32/\Cells x (aP w.heap.size) ba)/\ba.size=32/\let ca:=x.alloc (.cells (ba.toList++ []).toArray 24);bC prog 41 #[.pointer y,.agg aa,.slice (some (aP x.heap.size)) 1 1] ca fun da ea=>∃fa:AV,∃ga:Int,da=.tuple #[.agg fa,.int .i64 ga]/\∃ia:AV,(ia.size=32/\Cells ea (aP b.heap.size) ia)/\∃ja:AV,(ja.size=32/\Cells ea (aP w.heap.size) ja)/\ja.size=32/\let ka:=ea.alloc (.cells (ja.toList++ []).toArray 24);bC prog 41 #[.pointer y,.agg ia,.slice (some (aP ea.heap.size)) 1 1] ka fun ma na=>∃oa:AV,∃pa:Int,ma=.tuple #[.agg oa,.int .i64 pa]/\∃qa:AV,(qa.size=32/\Cells na (aP d.heap.size) qa)/\∃ra:AV,(ra.size=32/\Cells na (aP a.heap.size) ra)/\∃ta:AV,(ta.size=32/\Cells na (aP b.heap.size) ta)/\ra.size=32/\ta.size=32/\let ua:=na.alloc (.cells (ra.toList++(ta.toList++([]))).toArray 24);bC prog 41 #[.pointer y,.agg qa,.slice (some (aP na.heap.size)) 2 2] ua fun va xa=>∃ya:AV,∃za:Int,va=.tuple #[.agg ya,.int .i64 za]/\∃ae:AV,(ae.size=32/\Cells xa (aP d.heap.size) ae)/\bC prog 25 #[.pointer y,.agg ae] xa fun be ce=>∃de:OA,∃ee fe:Nat,∃ge:Int,be=.tuple #[.slice de ee fe,.int .i64 ge]/\let ie:=ce.drew;Split (ge==(0:Int)) (Split ((ee:Int)==(3:Int)) ((0<=(0:Int)/\(0:Int)<(ee:Int))/\Is de fun je:Addr=>∃ke:AV,(ke.size=32/\Cells ie (je.add ((0:Int).toNat*32)) ke)/\∃me:AV,(me.size=32/\Cells ie (aP w.heap.size) me)/\(dJ .u8 32 ke/\dJ .u8 32 me)/\Split (eU ke me) ((0<=(1:Int)/\(1:Int)<(ee:Int))/\Is de fun ne:Addr=>∃oe:AV,(oe.size=32/\Cells ie (ne.add ((1:Int).toNat*32)) oe)/\∃pe:AV,(pe.size=32/\Cells ie (aP a.heap.size) pe)/\(dJ .u8 32 oe/\dJ .u8 32 pe)/\Split (eU oe pe) ((0<=(2:Int)/\(2:Int)<(ee:Int))/\Is de fun qe:Addr=>∃re:AV,(re.size=32/\Cells ie (qe.add ((2:Int).toNat*32)) re)/\∃te:AV,(te.size=32/\Cells ie (aP b.heap.size) te)/\(dJ .u8 32 re/\dJ .u8 32 te)/\K (.bool (eU re te)) ie) (K (.bool false) ie)) (K (.bool false) ie)) (K (.bool false) ie)) (K (.bool false) ie)))
variable{K w}
theorem iu.of(h:iu.W K w):bC prog 24 #[] w K:=
 rqq func24 (C:=iu.k) h
end
def bQ.k:List Nat:= []
def bQ.q1(K:KT):aO:=(aL 0 (ck (aQ (sR (body f32)))++(aS f32)) (bV (fun b6 w_=>match cutAt bQ.k (aQ (sR (body f32)))with|true=>Holds none [] prog 20 (aQ (sR (body f32))) (bS prog f32 K) b6 w_|false=>aW none [] prog 20 bQ.k (aQ (sR (body f32))) (aS f32) (bS prog f32 K) b6 w_) (bS prog f32 K)))
def bQ.e1(a:OA)(b c:Nat)(d:OA)(e f:Nat)(s:(OA)×Nat×Nat×Int):Env:= [(0,.slice a b c),(2,.slice d e f),(3,.slice s.1 s.2.1 s.2.2.1),(4,.int .i64 s.2.2.2)]
def bQ.u1:List Nat:= [0,2,3,4]
section
variable(a:OA)(b d:Nat)(K:KT)(w:World)
def bQ.W:Prop:=
 Holds none [] prog 20 (.loop (lB (bB (sR (sL (aQ (body f32))))))) (bQ.q1 K) [(0,.slice a b d),(2,.slice none 0 0),(3,.slice none 0 0),(4,.int .i64 (i64.wrap ((b:Int)-(1:Int))))] w
variable{a b d K w}
theorem bQ.of(h:bQ.W a b d K w):bC prog 32 #[.slice a b d] w K:=
 rqq func32 (C:=bQ.k) h
end
section
variable(a:OA)(b c:Nat)(d:OA)(e f:Nat)(g:OA)(i j:Nat)(k:Int)(Q:aO)(w:World)
def bQ.B1:Prop:=
 Split (decide (k>=(0:Int))) ((0<=k/\k<(b:Int))/\Is a fun m:Addr=>∃n:AV,(n.size=32/\Cells w (m.add (k.toNat*32)) n)/\n.size=32/\let o:=w.alloc (.cells (n.toList++ []).toArray 24);∃(p:OA) (q r:Nat) (t:World),(Builtin.append_ #[33,33] 33 #[.slice g i j,.slice (some (aP w.heap.size)) 1 1]).run prog o=.ok (.slice p q r) t/\Q .normal [(0,.slice a b c),(2,.slice d e f),(3,.slice p q r),(4,.int .i64 (i64.wrap (k-(1:Int))))] t) (Q (.exit 0) [(0,.slice a b c),(2,.slice d e f),(3,.slice g i j),(4,.int .i64 k)] w)
theorem bQ.b1:(aW none [] prog 20 bQ.k (lB (bB (sR (sL (aQ (body f32)))))) bQ.u1 Q [(0,.slice a b c),(2,.slice d e f),(3,.slice g i j),(4,.int .i64 k)] w)=bQ.B1 a b c d e f g i j k Q w:=by kernel_rfl
variable{a b c d e f}
theorem bQ.cC(I:(OA)×Nat×Nat×Int->World->Prop)(μ:(OA)×Nat×Nat×Int->World->Nat)(s:(OA)×Nat×Nat×Int){Q:aO}{w:World}(h0:I s w)
 (round:∀s w,I s w->bQ.B1 a b c d e f (s.1) (s.2.1) (s.2.2.1) (s.2.2.2) (bR (bQ.e1 a b c d e f) I μ s w Q) w):Holds none [] prog 20 (.loop (lB (bB (sR (sL (aQ (body f32))))))) Q (bQ.e1 a b c d e f s) w:=
 bp ng mix (bQ.e1 a b c d e f) I μ bQ.k bQ.u1 s (fun s Q w=>bQ.B1 a b c d e f (s.1) (s.2.1) (s.2.2.1) (s.2.2.2) Q w) (fun s Q w=>bQ.b1 a b c d e f (s.1) (s.2.1) (s.2.2.1) (s.2.2.2) Q w) h0 round
end
section
def bQ.cU(a:OA)(b c:Nat)(d:OA)(e f:Nat)(g:OA)(i j:Nat)(k:Int)(K:KT)(w:World):Prop:=
 K (.slice g i j) w
variable(a:OA)(b c:Nat)(d:OA)(e f:Nat)(g:OA)(i j:Nat)(k:Int)(K:KT)(w:World)
theorem bQ.df:(bQ.q1 K (.exit 0) [(0,.slice a b c),(2,.slice d e f),(3,.slice g i j),(4,.int .i64 k)] w)=bQ.cU a b c d e f g i j k K w:=by kernel_rfl
end
def ao.k:List Nat:= [14]
def ao.q1(K:KT):aO:=(aL 0 (ck (bU (sR (body Tryz.f6)))++(aS Tryz.f6)) (bV (fun b6 w_=>match cutAt ao.k (bU (sR (body Tryz.f6)))with|true=>Holds none [] prog 198 (bU (sR (body Tryz.f6))) (bS prog Tryz.f6 K) b6 w_|false=>aW none [] prog 198 ao.k (bU (sR (body Tryz.f6))) (aS Tryz.f6) (bS prog Tryz.f6 K) b6 w_) (bS prog Tryz.f6 K)))
def ao.e1(a:Addr)(b:OA)(c:Addr)(s:(OA)×Nat×Nat×Int):Env:= [(8,.pointer (some a)),(9,.pointer b),(10,.pointer (some c)),(13,.slice s.1 s.2.1 s.2.2.1),(14,.int .i64 s.2.2.2)]
def ao.u1:List Nat:= [8,9,10,13,14]
def ao.q2(K:KT):aO:=(aL 2 (ck (bU (aQ (body Tryz.f6)))++(aS Tryz.f6)) (bV (fun b6 w_=>match cutAt ao.k (bU (aQ (body Tryz.f6)))with|true=>Holds none [] prog 198 (bU (aQ (body Tryz.f6))) (bS prog Tryz.f6 K) b6 w_|false=>aW none [] prog 198 ao.k (bU (aQ (body Tryz.f6))) (aS Tryz.f6) (bS prog Tryz.f6 K) b6 w_) (bS prog Tryz.f6 K)))
def ao.e2(a:Addr)(b:OA)(c:Addr)(d:OA)(e f:Nat)(s:Int×(AV)):Env:= [(8,.pointer (some a)),(9,.pointer b),(10,.pointer (some c)),(13,.slice d e f),(15,.int .i64 s.1),(4294967296,.agg s.2)]
def ao.u2:List Nat:= [8,9,10,13,15,4294967296]
def ao.uG(Q:aO):aO:=(aL 4 (ck (fk (sR (bB (sL (sR (lB (bB (sR (sL (bU (sR (body Tryz.f6))))))))))))++(ck (aQ (lB (bB (sR (sL (bU (sR (body Tryz.f6))))))))++ao.u2)) (bV (fun b6 w_=>match cutAt ao.k (fk (sR (bB (sL (sR (lB (bB (sR (sL (bU (sR (body Tryz.f6))))))))))))with|true=>Holds none [] prog 198 (fk (sR (bB (sL (sR (lB (bB (sR (sL (bU (sR (body Tryz.f6)))))))))))) (aL 3 (ck (aQ (lB (bB (sR (sL (bU (sR (body Tryz.f6))))))))++ao.u2) (bV (fun b6 w_=>match cutAt ao.k (aQ (lB (bB (sR (sL (bU (sR (body Tryz.f6))))))))with|true=>Holds none [] prog 198 (aQ (lB (bB (sR (sL (bU (sR (body Tryz.f6)))))))) Q b6 w_|false=>aW none [] prog 198 ao.k (aQ (lB (bB (sR (sL (bU (sR (body Tryz.f6)))))))) ao.u2 Q b6 w_) Q)) b6 w_|false=>aW none [] prog 198 ao.k (fk (sR (bB (sL (sR (lB (bB (sR (sL (bU (sR (body Tryz.f6)))))))))))) (ck (aQ (lB (bB (sR (sL (bU (sR (body Tryz.f6))))))))++ao.u2) (aL 3 (ck (aQ (lB (bB (sR (sL (bU (sR (body Tryz.f6))))))))++ao.u2) (bV (fun b6 w_=>match cutAt ao.k (aQ (lB (bB (sR (sL (bU (sR (body Tryz.f6))))))))with|true=>Holds none [] prog 198 (aQ (lB (bB (sR (sL (bU (sR (body Tryz.f6)))))))) Q b6 w_|false=>aW none [] prog 198 ao.k (aQ (lB (bB (sR (sL (bU (sR (body Tryz.f6)))))))) ao.u2 Q b6 w_) Q)) b6 w_) (aL 3 (ck (aQ (lB (bB (sR (sL (bU (sR (body Tryz.f6))))))))++ao.u2) (bV (fun b6 w_=>match cutAt ao.k (aQ (lB (bB (sR (sL (bU (sR (body Tryz.f6))))))))with|true=>Holds none [] prog 198 (aQ (lB (bB (sR (sL (bU (sR (body Tryz.f6)))))))) Q b6 w_|false=>aW none [] prog 198 ao.k (aQ (lB (bB (sR (sL (bU (sR (body Tryz.f6)))))))) ao.u2 Q b6 w_) Q))))
section
variable(a:Int)(b:AV)(d:OA)(e f:Nat)(g:AV)(K:KT)(w:World)
def ao.W:Prop:=
 let i:=w.alloc (.cells b 24);let j:=i.alloc (.cells g 24);let k:=j.alloc (.cells (#[.bool false]:AV) 4);∃m:AV,(m.size=32/\Cells k (aP w.heap.size) m)/\bC prog 23 #[.int .i64 a,.agg m,.slice d e f] k fun n o=>∃p q:OA,∃r t:Bool,n=.tuple #[.pointer p,.pointer q,.bool r,.bool t]/\let u:=o.alloc (.cells (#[.pointer none]:AV) 29);Wr u (aP o.heap.size)/\let v:=u.setCell (aP o.heap.size) (.pointer q);Split (!r) (Split t (bC prog 24 #[] v fun x y=>∃z:Bool,x=.bool z/\Wr y (aP j.heap.size)/\let aa:=y.setCell (aP j.heap.size) (.bool z);∃ba:Bool,aa.cell? (aP j.heap.size)=some (.bool ba)/\K (.bool ba) aa) (Wr v (aP j.heap.size)/\let ca:=v.setCell (aP j.heap.size) (.bool false);∃da:Bool,ca.cell? (aP j.heap.size)=some (.bool da)/\K (.bool da) ca)) (Split (!t) (Split t (bC prog 24 #[] v fun ea fa=>∃ga:Bool,ea=.bool ga/\Wr fa (aP j.heap.size)/\let ia:=fa.setCell (aP j.heap.size) (.bool ga);∃ja:Bool,ia.cell? (aP j.heap.size)=some (.bool ja)/\K (.bool ja) ia) (Wr v (aP j.heap.size)/\let ka:=v.setCell (aP j.heap.size) (.bool false);∃ma:Bool,ka.cell? (aP j.heap.size)=some (.bool ma)/\K (.bool ma) ka)) (∃na:AV,(na.size=32/\Cells v (aP i.heap.size) na)/\na.size=32/\let oa:=v.alloc (.cells (na.toList++ []).toArray 24);Holds none [] prog 198 (.loop (lB (bB (sR (sL (bU (body Tryz.f6))))))) (ao.q1 K) [(8,.pointer (some (aP j.heap.size))),(9,.pointer p),(10,.pointer (some (aP o.heap.size))),(13,.slice (some (aP v.heap.size)) 1 1),(14,.int .i64 0)] oa))
variable{a b d e f g K w}
theorem ao.of(h:ao.W a b d e f g K w):bC prog 6 #[.int .i64 a,.agg b,.slice d e f,.agg g] w K:=
 rqq func6 (C:=ao.k) h
end
section
variable(a:Addr)(b:OA)(c:Addr)(d:OA)(e f:Nat)(g:Int)(Q:aO)(w:World)
def ao.B1:Prop:=
 ∃i:OA,w.cell? c=some (.pointer i)/\Is i fun j:Addr=>∃k:OA,w.cell? (j.add 1)=some (.pointer k)/\Is k fun m:Addr=>∃n:OA,∃o p:Nat,w.cell? ((m.add 0).add 0)=some (.slice n o p)/\Split (decide (g<(o:Int))) (∃q:OA,w.cell? c=some (.pointer q)/\Is q fun r:Addr=>∃t:OA,w.cell? (r.add 1)=some (.pointer t)/\Is t fun u:Addr=>∃v:OA,∃x y:Nat,w.cell? ((u.add 0).add 0)=some (.slice v x y)/\(0<=g/\g<(x:Int))/\Is v fun z:Addr=>∃aa:AV,(aa.size=32/\Cells w ((z.add (g.toNat*33)).add 0) aa)/\aa.size=32/\let ba:=w.alloc (.cells (aa.toList++ []).toArray 24);∃(ca:OA) (da ea:Nat) (fa:World),(Builtin.append_ #[33,33] 33 #[.slice d e f,.slice (some (aP w.heap.size)) 1 1]).run prog ba=.ok (.slice ca da ea) fa/\Q .normal [(8,.pointer (some a)),(9,.pointer b),(10,.pointer (some c)),(13,.slice ca da ea),(14,.int .i64 (i64.wrap (g+(1:Int))))] fa) (Q (.exit 0) [(8,.pointer (some a)),(9,.pointer b),(10,.pointer (some c)),(13,.slice d e f),(14,.int .i64 g)] w)
theorem ao.b1:(aW none [] prog 198 ao.k (lB (bB (sR (sL (bU (body Tryz.f6)))))) ao.u1 Q [(8,.pointer (some a)),(9,.pointer b),(10,.pointer (some c)),(13,.slice d e f),(14,.int .i64 g)] w)=ao.B1 a b c d e f g Q w:=by kernel_rfl
variable{a b c}
theorem ao.cC(I:(OA)×Nat×Nat×Int->World->Prop)(μ:(OA)×Nat×Nat×Int->World->Nat)(s:(OA)×Nat×Nat×Int){Q:aO}{w:World}(h0:I s w)
 (round:∀s w,I s w->ao.B1 a b c (s.1) (s.2.1) (s.2.2.1) (s.2.2.2) (bR (ao.e1 a b c) I μ s w Q) w):Holds none [] prog 198 (.loop (lB (bB (sR (sL (bU (body Tryz.f6))))))) Q (ao.e1 a b c s) w:=
 bp ng mix (ao.e1 a b c) I μ ao.k ao.u1 s (fun s Q w=>ao.B1 a b c (s.1) (s.2.1) (s.2.2.1) (s.2.2.2) Q w) (fun s Q w=>ao.b1 a b c (s.1) (s.2.1) (s.2.2.1) (s.2.2.2) Q w) h0 round
end
section
def ao.cU(a:Addr)(b:OA)(c:Addr)(d:OA)(e f:Nat)(g:Int)(K:KT)(w:World):Prop:=
 Holds none [] prog 198 (.loop (lB (bB (sR (sL (bU (sR (body Tryz.f6)))))))) (ao.q2 K) [(8,.pointer (some a)),(9,.pointer b),(10,.pointer (some c)),(13,.slice d e f),(15,.int .i64 0)] w
variable(a:Addr)(b:OA)(c:Addr)(d:OA)(e f:Nat)(g:Int)(K:KT)(w:World)
theorem ao.df:(ao.q1 K (.exit 0) [(8,.pointer (some a)),(9,.pointer b),(10,.pointer (some c)),(13,.slice d e f),(14,.int .i64 g)] w)=ao.cU a b c d e f g K w:=by kernel_rfl
end
section
variable(a:Addr)(b:OA)(c:Addr)(d:OA)(e f:Nat)(g:Int)(i:AV)(Q:aO)(w:World)
def ao.B2:Prop:=
 Split (decide (g<(e:Int))) ((0<=g/\g<(e:Int))/\Is d fun j:Addr=>∃k:AV,(k.size=32/\Cells w (j.add (g.toNat*32)) k)/\let m:=w.alloc (.cells zH 24);(k.size=32/\(∀n∈k.toList,n.oneCell'=true)/\∀o,o<32->Wr m ((aP w.heap.size).add o))/\let p:=setCells m (aP w.heap.size) k.toList 0;let q:=p.drew;∃r:OA,q.cell? c=some (.pointer r)/\Is r fun t:Addr=>∃u:OA,q.cell? (t.add 1)=some (.pointer u)/\Is u fun v:Addr=>∃x:AV,(x.size=32/\Cells q (aP w.heap.size) x)/\(bC prog 16 #[.pointer (some (v.add 0)),.agg x] q fun y z=>∃aa:Int,y=.int .i64 aa/\let ba:=z.alloc (.cells (#[.int .i64 0]:AV) 3);Wr ba (aP z.heap.size)/\let ca:=ba.setCell (aP z.heap.size) (.int .i64 aa);Holds none [] prog 198 (aQ (bB (sL (sR (lB (bB (sR (sL (bU (sR (body Tryz.f6))))))))))) (aL 3 (ck (aQ (lB (bB (sR (sL (bU (sR (body Tryz.f6))))))))++ao.u2) (bV (fun b6 w_=>match cutAt ao.k (aQ (lB (bB (sR (sL (bU (sR (body Tryz.f6))))))))with|true=>Holds none [] prog 198 (aQ (lB (bB (sR (sL (bU (sR (body Tryz.f6)))))))) Q b6 w_|false=>aW none [] prog 198 ao.k (aQ (lB (bB (sR (sL (bU (sR (body Tryz.f6)))))))) ao.u2 Q b6 w_) Q)) [(8,.pointer (some a)),(9,.pointer b),(10,.pointer (some c)),(13,.slice d e f),(15,.int .i64 g),(16,.pointer (some (aP w.heap.size))),(17,.pointer (some (aP z.heap.size))),(4294967296,.agg i)] ca)/\(let da:=q.alloc (.cells (#[.int .i64 0]:AV) 3);(∃cs:AV,(.agg x:Value)=.agg cs/\cs.size=32/\Cells da (aP w.heap.size) cs)/\da.cell? (t.add 1)=some (.pointer u)/\da.cell? c=some (.pointer r)/\bC prog 16 #[.pointer (some (v.add 0)),.agg x] da fun ea fa=>∃ga:Int,ea=.int .i64 ga/\Wr fa (aP q.heap.size)/\let ia:=fa.setCell (aP q.heap.size) (.int .i64 ga);Holds none [] prog 198 (aQ (bB (sL (sR (lB (bB (sR (sL (bU (sR (body Tryz.f6))))))))))) (aL 3 (ck (aQ (lB (bB (sR (sL (bU (sR (body Tryz.f6))))))))++ao.u2) (bV (fun b6 w_=>match cutAt ao.k (aQ (lB (bB (sR (sL (bU (sR (body Tryz.f6))))))))with|true=>Holds none [] prog 198 (aQ (lB (bB (sR (sL (bU (sR (body Tryz.f6)))))))) Q b6 w_|false=>aW none [] prog 198 ao.k (aQ (lB (bB (sR (sL (bU (sR (body Tryz.f6)))))))) ao.u2 Q b6 w_) Q)) [(8,.pointer (some a)),(9,.pointer b),(10,.pointer (some c)),(13,.slice d e f),(15,.int .i64 g),(16,.pointer (some (aP w.heap.size))),(17,.pointer (some (aP q.heap.size))),(4294967296,.agg i)] ia)) (Q (.exit 2) [(8,.pointer (some a)),(9,.pointer b),(10,.pointer (some c)),(13,.slice d e f),(15,.int .i64 g),(4294967296,.agg i)] w)
theorem ao.b2:(aW none [] prog 198 ao.k (lB (bB (sR (sL (bU (sR (body Tryz.f6))))))) ao.u2 Q [(8,.pointer (some a)),(9,.pointer b),(10,.pointer (some c)),(13,.slice d e f),(15,.int .i64 g),(4294967296,.agg i)] w)=ao.B2 a b c d e f g i Q w:=by kernel_rfl
variable{a b c d e f}
theorem ao.gU(I:Int×(AV)->World->Prop)(μ:Int×(AV)->World->Nat)(s:Int×(AV)){Q:aO}{w:World}(h0:I s w)
 (round:∀s w,I s w->ao.B2 a b c d e f (s.1) (s.2) (bR (ao.e2 a b c d e f) I μ s w Q) w):Holds none [] prog 198 (.loop (lB (bB (sR (sL (bU (sR (body Tryz.f6)))))))) Q (ao.e2 a b c d e f s) w:=
 bp ng mix (ao.e2 a b c d e f) I μ ao.k ao.u2 s (fun s Q w=>ao.B2 a b c d e f (s.1) (s.2) Q w) (fun s Q w=>ao.b2 a b c d e f (s.1) (s.2) Q w) h0 round
end
section
def ao.iN(a:Addr)(b:OA)(c:Addr)(d:OA)(e f:Nat)(g:Int)(i:AV)(K:KT)(w:World):Prop:=
 bC prog 24 #[] w fun j k=>∃m:Bool,j=.bool m/\Wr k a/\let n:=k.setCell a (.bool m);jZ (marksOf (.agg i)) n/\∃o:Bool,(fL (marksOf (.agg i)) n).cell? a=some (.bool o)/\K (.bool o) (fL (marksOf (.agg i)) n)
variable(a:Addr)(b:OA)(c:Addr)(d:OA)(e f:Nat)(g:Int)(i:AV)(K:KT)(w:World)
theorem ao.jN:(ao.q2 K (.exit 2) [(8,.pointer (some a)),(9,.pointer b),(10,.pointer (some c)),(13,.slice d e f),(15,.int .i64 g),(4294967296,.agg i)] w)=ao.iN a b c d e f g i K w:=by kernel_rfl
end
section
variable(a:Addr)(b:OA)(c:Addr)(d:OA)(e f:Nat)(g:Int)(i j:Addr)(k:AV)(Q:aO)(w:World)
def ao.J1:Prop:=
 ∃m:AV,(m.size=32/\Cells w i m)/\bC prog 30 #[.pointer b,.agg m] w fun n o=>∃p:OA,∃q r:Nat,∃t:Int,n=.tuple #[.slice p q r,.int .i64 t]/\∃u:AV,(u.size=32/\Cells o i u)/\bC prog 25 #[.pointer b,.agg u] o fun v x=>∃y:OA,∃z aa:Nat,∃ba:Int,v=.tuple #[.slice y z aa,.int .i64 ba]/\∃ca:AV,(ca.size=32/\Cells x i ca)/\bC prog 31 #[.pointer b,.agg ca] x fun da ea=>∃fa:Value,da=fa/\LA fa/\Split (HZ fa) (Wr ea a/\let ga:=ea.setCell a (.bool false);Q .ret [(8,.pointer (some a)),(9,.pointer b),(10,.pointer (some c)),(13,.slice d e f),(15,.int .i64 g),(16,.pointer (some i)),(17,.pointer (some j)),(18,.slice p q r),(19,.int .i64 t),(20,.slice y z aa),(21,.int .i64 ba),(22,fa),(4294967296,.agg k)] ga) (let ia:=ea.drew;∃ja:OA,ia.cell? c=some (.pointer ja)/\Is ja fun ka:Addr=>∃ma:OA,ia.cell? (ka.add 1)=some (.pointer ma)/\∃na:AV,(na.size=32/\Cells ia i na)/\(bC prog 29 #[.pointer ma,.agg na] ia fun oa pa=>∃qa:OA,∃ra ta:Nat,oa=.slice qa ra ta/\(bC prog 32 #[.slice qa ra ta] pa fun ua va=>∃xa:OA,∃ya za:Nat,ua=.slice xa ya za/\let ae:=va.alloc (.cells (#[.slice none 0 0]:AV) 33);Wr ae (aP va.heap.size)/\let be:=ae.setCell (aP va.heap.size) (.slice xa ya za);let ce:=be.alloc (.cells (#[.int .i64 0]:AV) 3);Wr ce (aP be.heap.size)/\let de:=ce.setCell (aP be.heap.size) (.int .i64 1);Holds none [] prog 198 (bB (sR (sL (fk (bB (sL (sR (lB (bB (sR (sL (bU (sR (body Tryz.f6)))))))))))))) (ao.uG Q) [(8,.pointer (some a)),(9,.pointer b),(10,.pointer (some c)),(13,.slice d e f),(15,.int .i64 g),(16,.pointer (some i)),(17,.pointer (some j)),(18,.slice p q r),(19,.int .i64 t),(20,.slice y z aa),(21,.int .i64 ba),(23,.pointer (some (aP va.heap.size))),(24,.pointer (some (aP be.heap.size))),(119,fa),(4294967296,.agg k)] de)/\(let ee:=pa.alloc (.cells (#[.slice none 0 0]:AV) 33);bC prog 32 #[.slice qa ra ta] ee fun fe ge=>∃ie:OA,∃je ke:Nat,fe=.slice ie je ke/\Wr ge (aP pa.heap.size)/\let me:=ge.setCell (aP pa.heap.size) (.slice ie je ke);let ne:=me.alloc (.cells (#[.int .i64 0]:AV) 3);Wr ne (aP me.heap.size)/\let oe:=ne.setCell (aP me.heap.size) (.int .i64 1);Holds none [] prog 198 (bB (sR (sL (fk (bB (sL (sR (lB (bB (sR (sL (bU (sR (body Tryz.f6)))))))))))))) (ao.uG Q) [(8,.pointer (some a)),(9,.pointer b),(10,.pointer (some c)),(13,.slice d e f),(15,.int .i64 g),(16,.pointer (some i)),(17,.pointer (some j)),(18,.slice p q r),(19,.int .i64 t),(20,.slice y z aa),(21,.int .i64 ba),(23,.pointer (some (aP pa.heap.size))),(24,.pointer (some (aP me.heap.size))),(119,fa),(4294967296,.agg k)] oe))/\(let pe:=ia.alloc (.cells (#[.slice none 0 0]:AV) 33);(∃cs:AV,(.agg na:Value)=.agg cs/\cs.size=32/\Cells pe i cs)/\pe.cell? (ka.add 1)=some (.pointer ma)/\pe.cell? c=some (.pointer ja)/\bC prog 29 #[.pointer ma,.agg na] pe fun qe re=>∃te:OA,∃ue ve:Nat,qe=.slice te ue ve/\bC prog 32 #[.slice te ue ve] re fun xe ye=>∃ze:OA,∃aj bj:Nat,xe=.slice ze aj bj/\Wr ye (aP ia.heap.size)/\let cj:=ye.setCell (aP ia.heap.size) (.slice ze aj bj);let dj:=cj.alloc (.cells (#[.int .i64 0]:AV) 3);Wr dj (aP cj.heap.size)/\let ej:=dj.setCell (aP cj.heap.size) (.int .i64 1);Holds none [] prog 198 (bB (sR (sL (fk (bB (sL (sR (lB (bB (sR (sL (bU (sR (body Tryz.f6)))))))))))))) (ao.uG Q) [(8,.pointer (some a)),(9,.pointer b),(10,.pointer (some c)),(13,.slice d e f),(15,.int .i64 g),(16,.pointer (some i)),(17,.pointer (some j)),(18,.slice p q r),(19,.int .i64 t),(20,.slice y z aa),(21,.int .i64 ba),(23,.pointer (some (aP ia.heap.size))),(24,.pointer (some (aP cj.heap.size))),(119,fa),(4294967296,.agg k)] ej))
theorem ao.j1:(aW none [] prog 198 ao.k (aQ (bB (sL (sR (lB (bB (sR (sL (bU (sR (body Tryz.f6))))))))))) (ck (aQ (lB (bB (sR (sL (bU (sR (body Tryz.f6))))))))++ao.u2) (aL 3 (ck (aQ (lB (bB (sR (sL (bU (sR (body Tryz.f6))))))))++ao.u2) (bV (fun b6 w_=>match cutAt ao.k (aQ (lB (bB (sR (sL (bU (sR (body Tryz.f6))))))))with|true=>Holds none [] prog 198 (aQ (lB (bB (sR (sL (bU (sR (body Tryz.f6)))))))) Q b6 w_|false=>aW none [] prog 198 ao.k (aQ (lB (bB (sR (sL (bU (sR (body Tryz.f6)))))))) ao.u2 Q b6 w_) Q)) [(8,.pointer (some a)),(9,.pointer b),(10,.pointer (some c)),(13,.slice d e f),(15,.int .i64 g),(16,.pointer (some i)),(17,.pointer (some j)),(4294967296,.agg k)] w)=ao.J1 a b c d e f g i j k Q w:=by kernel_rfl
variable{a b c d e f g i j k Q w}
theorem ao.mF(h:ao.J1 a b c d e f g i j k Q w):Holds none [] prog 198 (aQ (bB (sL (sR (lB (bB (sR (sL (bU (sR (body Tryz.f6))))))))))) (aL 3 (ck (aQ (lB (bB (sR (sL (bU (sR (body Tryz.f6))))))))++ao.u2) (bV (fun b6 w_=>match cutAt ao.k (aQ (lB (bB (sR (sL (bU (sR (body Tryz.f6))))))))with|true=>Holds none [] prog 198 (aQ (lB (bB (sR (sL (bU (sR (body Tryz.f6)))))))) Q b6 w_|false=>aW none [] prog 198 ao.k (aQ (lB (bB (sR (sL (bU (sR (body Tryz.f6)))))))) ao.u2 Q b6 w_) Q)) [(8,.pointer (some a)),(9,.pointer b),(10,.pointer (some c)),(13,.slice d e f),(15,.int .i64 g),(16,.pointer (some i)),(17,.pointer (some j)),(4294967296,.agg k)] w:=
 cZ (C:=ao.k) ng mix (ao.j1 a b c d e f g i j k Q w) h
end
section
def ao.A1(l:Nat)(a:Addr)(b:OA)(c:Addr)(d:OA)(e f:Nat)(g:Int)(i j:Addr)(k:OA)(m n:Nat)(o:Int)(p:OA)(q r:Nat)(t:Int)(u v:Addr)(x:Value)(y:AV)(z:OA)(aa ba:Nat)(Q:aO)(w:World):Prop:=
 let ca:=w.alloc (.cells zH 24);(y.size=32/\(∀da∈y.toList,da.oneCell'=true)/\∀ea,ea<32->Wr ca ((aP w.heap.size).add ea))/\let fa:=setCells ca (aP w.heap.size) y.toList 0;Q .normal [(8,.pointer (some a)),(10,.pointer (some c)),(17,.pointer (some j)),(23,.pointer (some u)),(24,.pointer (some v)),(25,.pointer (some (aP w.heap.size))),(26,.slice z aa ba)] fa
variable(l:Nat)(a:Addr)(b:OA)(c:Addr)(d:OA)(e f:Nat)(g:Int)(i j:Addr)(k:OA)(m n:Nat)(o:Int)(p:OA)(q r:Nat)(t:Int)(u v:Addr)(x:Value)(y:AV)(z:OA)(aa ba:Nat)(Q:aO)(w:World)
theorem ao.a1:(aW (some l) [] prog 198 ao.k (rA (bB (sR (sL (fk (bB (sL (sR (lB (bB (sR (sL (bU (sR (body Tryz.f6))))))))))))))) (ck (rB (bB (sR (sL (fk (bB (sL (sR (lB (bB (sR (sL (bU (sR (body Tryz.f6)))))))))))))))) Q [(8,.pointer (some a)),(9,.pointer b),(10,.pointer (some c)),(13,.slice d e f),(15,.int .i64 g),(16,.pointer (some i)),(17,.pointer (some j)),(18,.slice k m n),(19,.int .i64 o),(20,.slice p q r),(21,.int .i64 t),(23,.pointer (some u)),(24,.pointer (some v)),(119,x),(120,.agg y),(121,.slice z aa ba)] w)=ao.A1 l a b c d e f g i j k m n o p q r t u v x y z aa ba Q w:=by kernel_rfl
end
section
def ao.Y1(l:Nat)(a b c d e f:Addr)(g:OA)(i j:Nat)(Q:aO)(w:World):Prop:=
 let k:=w.drew;∃m:Int,k.cell? c=some (.int .i64 m)/\Split (decide (m<(0:Int))) (Wr k a/\let n:=k.setCell a (.bool false);Q .ret [(8,.pointer (some a)),(10,.pointer (some b)),(24,.pointer (some e)),(25,.pointer (some f)),(26,.slice g i j)] n) (∃o:Int,k.cell? e=some (.int .i64 o)/\∃p:OA,∃q r:Nat,k.cell? d=some (.slice p q r)/\Split (decide (o>=(q:Int))) (Wr k a/\let t:=k.setCell a (.bool false);Q .ret [(8,.pointer (some a)),(10,.pointer (some b)),(24,.pointer (some e)),(25,.pointer (some f)),(26,.slice g i j)] t) (∃u:AV,(u.size=32/\Cells k f u)/\∃v:OA,∃x y:Nat,k.cell? d=some (.slice v x y)/\∃z:Int,k.cell? e=some (.int .i64 z)/\(0<=z/\z<(x:Int))/\Is v fun aa:Addr=>∃ba:AV,(ba.size=32/\Cells k (aa.add (z.toNat*32)) ba)/\(dJ .u8 32 u/\dJ .u8 32 ba)/\Split (!(eU u ba)) (Wr k a/\let ca:=k.setCell a (.bool false);Q .ret [(8,.pointer (some a)),(10,.pointer (some b)),(24,.pointer (some e)),(25,.pointer (some f)),(26,.slice g i j)] ca) (let da:=k.drew;∃ea:OA,da.cell? b=some (.pointer ea)/\Is ea fun fa:Addr=>∃ga:OA,∃ia ja:Nat,da.cell? (fa.add 2)=some (.slice ga ia ja)/\∃ka:OA,da.cell? b=some (.pointer ka)/\Is ka fun ma:Addr=>∃na:OA,da.cell? (ma.add 1)=some (.pointer na)/\Is na fun oa:Addr=>∃pa:AV,(pa.size=32/\Cells da f pa)/\(bC prog 16 #[.pointer (some (oa.add 0)),.agg pa] da fun qa ra=>∃ta:Int,qa=.int .i64 ta/\ra.cell? (fa.add 2)=some (.slice ga ia ja)/\ra.cell? b=some (.pointer ea)/\(0<=ta/\ta<(ia:Int))/\Is ga fun ua:Addr=>∃va:AV,(va.size=35/\Cells ra (ua.add (ta.toNat*35)) va)/\let xa:=ra.alloc (.cells zC 53);(∃cs:AV,(.agg va:Value)=.agg cs/\cs.size=35/\Cells xa (ua.add (ta.toNat*35)) cs)/\xa.cell? (fa.add 2)=some (.slice ga ia ja)/\xa.cell? b=some (.pointer ea)/\(va.size=35/\(∀ya∈va.toList,ya.oneCell'=true)/\∀za,za<35->Wr xa ((aP ra.heap.size).add za))/\let ae:=setCells xa (aP ra.heap.size) va.toList 0;∃be:AV,(be.size=32/\Cells ae ((aP ra.heap.size).add 0) be)/\be.size=32/\let ce:=ae.alloc (.cells (be.toList++ []).toArray 24);∃de:OA,∃ee fe:Nat,ce.cell? ((aP ra.heap.size).add 33)=some (.slice de ee fe)/\∃(ge:OA) (ie je:Nat) (ke:World),(Builtin.append_ #[33,33] 33 #[.slice (some (aP ae.heap.size)) 1 1,.slice de ee fe]).run prog ce=.ok (.slice ge ie je) ke/\bC prog 17 #[.slice g i j,.slice ge ie je] ke fun me ne=>∃oe:Bool,me=.bool oe/\Split (!oe) (Wr ne a/\let pe:=ne.setCell a (.bool false);Q .ret [(24,.pointer (some e))] pe) (∃qe:Int,ne.cell? e=some (.int .i64 qe)/\Wr ne e/\let re:=ne.setCell e (.int .i64 (i64.wrap (qe+(1:Int))));Q .normal [] re))/\(let te:=da.alloc (.cells zC 53);(∃cs:AV,(.agg pa:Value)=.agg cs/\cs.size=32/\Cells te f cs)/\te.cell? (ma.add 1)=some (.pointer na)/\te.cell? b=some (.pointer ka)/\te.cell? (fa.add 2)=some (.slice ga ia ja)/\te.cell? b=some (.pointer ea)/\bC prog 16 #[.pointer (some (oa.add 0)),.agg pa] te fun ue ve=>∃xe:Int,ue=.int .i64 xe/\ve.cell? (fa.add 2)=some (.slice ga ia ja)/\ve.cell? b=some (.pointer ea)/\(0<=xe/\xe<(ia:Int))/\Is ga fun ye:Addr=>∃ze:AV,(ze.size=35/\Cells ve (ye.add (xe.toNat*35)) ze)/\(ze.size=35/\(∀aj∈ze.toList,aj.oneCell'=true)/\∀bj,bj<35->Wr ve ((aP da.heap.size).add bj))/\let cj:=setCells ve (aP da.heap.size) ze.toList 0;∃dj:AV,(dj.size=32/\Cells cj ((aP da.heap.size).add 0) dj)/\dj.size=32/\let ej:=cj.alloc (.cells (dj.toList++ []).toArray 24);∃fj:OA,∃gj ij:Nat,ej.cell? ((aP da.heap.size).add 33)=some (.slice fj gj ij)/\∃(jj:OA) (kj mj:Nat) (nj:World),(Builtin.append_ #[33,33] 33 #[.slice (some (aP cj.heap.size)) 1 1,.slice fj gj ij]).run prog ej=.ok (.slice jj kj mj) nj/\bC prog 17 #[.slice g i j,.slice jj kj mj] nj fun oj pj=>∃qj:Bool,oj=.bool qj/\Split (!qj) (Wr pj a/\let rj:=pj.setCell a (.bool false);Q .ret [(24,.pointer (some e))] rj) (∃tj:Int,pj.cell? e=some (.int .i64 tj)/\Wr pj e/\let uj:=pj.setCell e (.int .i64 (i64.wrap (tj+(1:Int))));Q .normal [] uj)))))
variable(l:Nat)(a b c d e f:Addr)(g:OA)(i j:Nat)(Q:aO)(w:World)
theorem ao.y1:(aW (some l) [] prog 198 ao.k (rB (bB (sR (sL (fk (bB (sL (sR (lB (bB (sR (sL (bU (sR (body Tryz.f6))))))))))))))) [] Q [(8,.pointer (some a)),(10,.pointer (some b)),(17,.pointer (some c)),(23,.pointer (some d)),(24,.pointer (some e)),(25,.pointer (some f)),(26,.slice g i j)] w)=ao.Y1 l a b c d e f g i j Q w:=by kernel_rfl
end
section
def ao.fD(a:Addr)(b:OA)(c:Addr)(d:OA)(e f:Nat)(g:Int)(i j:Addr)(k:OA)(m n:Nat)(o:Int)(p:OA)(q r:Nat)(t:Int)(u v:Addr)(x:Value)(y ms:AV)(Q:aO)(w:World):Prop:=
 ∃z:Int,w.cell? j=some (.int .i64 z)/\Split (decide (z<(0:Int))) (Split (o != (6:Int)) (Wr w a/\let aa:=w.setCell a (.bool false);Q .ret [(8,.pointer (some a)),(9,.pointer b),(10,.pointer (some c)),(13,.slice d e f),(15,.int .i64 g),(16,.pointer (some i)),(18,.slice k m n),(19,.int .i64 o),(20,.slice p q r),(21,.int .i64 t),(23,.pointer (some u)),(24,.pointer (some v)),(4294967296,.agg ms)] aa) (Split (t != (6:Int)) (Wr w a/\let ba:=w.setCell a (.bool false);Q .ret [(8,.pointer (some a)),(9,.pointer b),(10,.pointer (some c)),(13,.slice d e f),(15,.int .i64 g),(16,.pointer (some i)),(18,.slice k m n),(19,.int .i64 o),(20,.slice p q r),(21,.int .i64 t),(23,.pointer (some u)),(24,.pointer (some v)),(4294967296,.agg ms)] ba) (Q .normal [(8,.pointer (some a)),(9,.pointer b),(10,.pointer (some c)),(13,.slice d e f),(15,.int .i64 (i64.wrap (g+(1:Int)))),(4294967296,.agg ms)] w))) (Split (o != (0:Int)) (Wr w a/\let ca:=w.setCell a (.bool false);Q .ret [(8,.pointer (some a)),(9,.pointer b),(10,.pointer (some c)),(13,.slice d e f),(15,.int .i64 g),(4294967296,.agg ms)] ca) (Split (t != (0:Int)) (Wr w a/\let da:=w.setCell a (.bool false);Q .ret [(8,.pointer (some a)),(9,.pointer b),(10,.pointer (some c)),(13,.slice d e f),(15,.int .i64 g),(4294967296,.agg ms)] da) (∃ea:Int,w.cell? v=some (.int .i64 ea)/\∃fa:OA,∃ga ia:Nat,w.cell? u=some (.slice fa ga ia)/\Split (ea != (ga:Int)) (Wr w a/\let ja:=w.setCell a (.bool false);Q .ret [(8,.pointer (some a)),(9,.pointer b),(10,.pointer (some c)),(13,.slice d e f),(15,.int .i64 g),(4294967296,.agg ms)] ja) (∃ka:OA,∃ma na:Nat,w.cell? u=some (.slice ka ma na)/\bC prog 17 #[.slice k m n,.slice ka ma na] w fun oa pa=>∃qa:Bool,oa=.bool qa/\Split (!qa) (Wr pa a/\let ra:=pa.setCell a (.bool false);Q .ret [(8,.pointer (some a)),(9,.pointer b),(10,.pointer (some c)),(13,.slice d e f),(15,.int .i64 g),(4294967296,.agg ms)] ra) (∃ta:OA,pa.cell? c=some (.pointer ta)/\∃ua:AV,(ua.size=32/\Cells pa i ua)/\bC prog 33 #[.pointer ta,.agg ua] pa fun va xa=>∃ya:OA,∃za ae:Nat,va=.slice ya za ae/\bC prog 17 #[.slice p q r,.slice ya za ae] xa fun be ce=>∃de:Bool,be=.bool de/\Split (!de) (Wr ce a/\let ee:=ce.setCell a (.bool false);Q .ret [(8,.pointer (some a)),(9,.pointer b),(10,.pointer (some c)),(13,.slice d e f),(15,.int .i64 g),(4294967296,.agg ms)] ee) (Q .normal [(8,.pointer (some a)),(9,.pointer b),(10,.pointer (some c)),(13,.slice d e f),(15,.int .i64 (i64.wrap (g+(1:Int)))),(4294967296,.agg ms)] ce))))))
variable(a:Addr)(b:OA)(c:Addr)(d:OA)(e f:Nat)(g:Int)(i j:Addr)(k:OA)(m n:Nat)(o:Int)(p:OA)(q r:Nat)(t:Int)(u v:Addr)(x:Value)(y ms:AV)(Q:aO)(w:World)
theorem ao.iL:(ao.uG Q .normal [(8,.pointer (some a)),(9,.pointer b),(10,.pointer (some c)),(13,.slice d e f),(15,.int .i64 g),(16,.pointer (some i)),(17,.pointer (some j)),(18,.slice k m n),(19,.int .i64 o),(20,.slice p q r),(21,.int .i64 t),(23,.pointer (some u)),(24,.pointer (some v)),(119,x),(4294967296,.agg ms)] w)=ao.fD a b c d e f g i j k m n o p q r t u v x y ms Q w:=by kernel_rfl
end
section
variable(a:Addr)(b:OA)(c:Addr)(d:OA)(e f:Nat)(g:Int)(i j:Addr)(k:OA)(m n:Nat)(o:Int)(p:OA)(q r:Nat)(t:Int)(u v:Addr)(x:Value)(y ms:AV)(Q:aO)(w:World)
end
section
variable(a:Int)(b:AV)(d:OA)(e f:Nat)(K:KT)(w:World)
variable{a b d e f K w}
end
section
variable(a:Int)(b:OA)(c d:Nat)(e:Addr)(f g:OA)(i j:Bool)(k:Int)(Q:aO)(w:World)
variable{a b c d e}
end
section
variable(a:Int)(b:OA)(c d:Nat)(e:Addr)(f g:OA)(i j:Bool)(k:Int)(K:KT)(w:World)
end
section
variable(a:OA)(b c:Nat)(d e:OA)(f g:Bool)(i j:OA)(k:Int)(Q:aO)(w:World)
variable{a b c i j}
end
section
variable(a:OA)(b c:Nat)(d e:OA)(f g:Bool)(i j:OA)(k:Int)(K:KT)(w:World)
end
section
variable(a:OA)(b c:Nat)(d e:OA)(f g:Bool)(i j:OA)(k m:Int)(Q:aO)(w:World)
variable{a b c d e f g i j k m Q w}
end
section
variable(a:OA)(b c:Nat)(d e:OA)(f g:Bool)(i j:OA)(k m n:Int)(Q:aO)(w:World)
variable{a b c d e f g i j k m n Q w}
end
section
variable(K:KT)(w:World)
variable{K w}
end
section
variable(a:AV)(K:KT)(w:World)
variable{a K w}
end
section
variable(a:AV)(b:OA)(d:AV)(K:KT)(w:World)
variable{a b d K w}
end
section
variable(a:Addr)(b:Int)(c:OA)(d e:Nat)(f g:Int)(Q:aO)(w:World)
variable{a c d e f}
end
section
variable(a:Addr)(b:Int)(c:OA)(d e:Nat)(f g:Int)(K:KT)(w:World)
end
section
variable(a:Addr)(b c:Int)(d:OA)(e f:Nat)(g i:Int)(Q:aO)(w:World)
variable{a b c d e f g i Q w}
end
section
variable(a:Addr)(b:Int)(c:OA)(d e:Nat)(f g:Int)(K:KT)(w:World)
end
section
variable(K:KT)(w:World)
variable{K w}
end
section
variable(a:AV)(b:OA)(d:AV)(K:KT)(w:World)
variable{a b d K w}
end
section
variable(a:OA)(b:Addr)(c:OA)(d e:Nat)(f:Int)(g:OA)(i j:Nat)(k:OA)(m n:Nat)(o:Int)(Q:aO)(w:World)
variable{a b c d e f g i j}
end
section
variable(a:OA)(b:Addr)(c:OA)(d e:Nat)(f:Int)(g:OA)(i j:Nat)(k:OA)(m n:Nat)(o:Int)(K:KT)(w:World)
end
section
variable(a:OA)(b:Addr)(c:OA)(d e:Nat)(f:Int)(g:OA)(i j:Nat)(k:Int)(Q:aO)(w:World)
variable{a b g i j}
end
section
variable(a:OA)(b:Addr)(c:OA)(d e:Nat)(f:Int)(g:OA)(i j:Nat)(k:Int)(K:KT)(w:World)
end
section
variable(a:OA)(b:Addr)(c:OA)(d e:Nat)(f:Int)(g:OA)(i j:Nat)(k m:Int)(Q:aO)(w:World)
variable{a b g i j k}
end
section
variable(a:OA)(b:Addr)(c:OA)(d e:Nat)(f:Int)(g:OA)(i j:Nat)(k m:Int)(Q:aO)(w:World)
end
section
variable(a:AV)(K:KT)(w:World)
variable{a K w}
end
section
variable(a:Addr)(b:Bool)(c:OA)(d e:Nat)(f g:Int)(Q:aO)(w:World)
variable{a c d e f}
end
section
variable(a:Addr)(b:Bool)(c:OA)(d e:Nat)(f g:Int)(K:KT)(w:World)
end
section
variable(a:Addr)(K:KT)(w:World)
variable{a K w}
end
section
variable(a:Addr)(K:KT)(w:World)
variable{a K w}
end
section
variable(a b:Addr)(K:KT)(w:World)
variable{a b K w}
end
section
variable(a:OA)(b d:Nat)(e:OA)(f g:Nat)(K:KT)(w:World)
variable{a b d e f g K w}
end
section
variable(a:OA)(b c:Nat)(d:OA)(e f:Nat)(g:Bool)(i j:Int)(Q:aO)(w:World)
variable{a b c d e f i}
end
section
variable(a:OA)(b c:Nat)(d:OA)(e f:Nat)(g:Bool)(i j:Int)(K:KT)(w:World)
end
section
variable(a b d:Addr)(K:KT)(w:World)
variable{a b d K w}
end
section
variable(a b:Addr)(c:Int)(d:OA)(e f:Nat)(g i:Int)(Q:aO)(w:World)
variable{a b c d e f g}
end
section
variable(a b:Addr)(c:Int)(d:OA)(e f:Nat)(g i:Int)(K:KT)(w:World)
end
section
variable(a b:Addr)(K:KT)(w:World)
variable{a b K w}
end
section
variable(a b:Addr)(c:Int)(d:OA)(e f:Nat)(g i:Int)(Q:aO)(w:World)
variable{a b d e f g}
end
section
variable(a b:Addr)(c:Int)(d:OA)(e f:Nat)(g i:Int)(K:KT)(w:World)
end
section
variable(a:AV)(b d:Addr)(K:KT)(w:World)
variable{a b d K w}
end
section
variable(a b d:Addr)(K:KT)(w:World)
variable{a b d K w}
end
section
variable(a:OA)(b d:Nat)(e f:Addr)(K:KT)(w:World)
variable{a b d e f K w}
end
section
variable(a:OA)(b d:Nat)(e f:Addr)(K:KT)(w:World)
variable{a b d e f K w}
end
section
variable(a:OA)(b c:Nat)(d e:Addr)(f g i:Int)(Q:aO)(w:World)
variable{a b c d e g}
end
section
variable(a:OA)(b c:Nat)(d e:Addr)(f g i:Int)(K:KT)(w:World)
end
section
variable(a:AV)(b:OA)(d:AV)(K:KT)(w:World)
variable{a b d K w}
end
section
variable(a b c:Addr)(d:OA)(e f:Nat)(g:Int)(i:OA)(j k:Nat)(m:OA)(n o:Nat)(p q:Int)(Q:aO)(w:World)
variable{a b c d e f g m n o p}
end
section
variable(a b c:Addr)(d:OA)(e f:Nat)(g:Int)(i:OA)(j k:Nat)(m:Addr)(n:OA)(o p:Nat)(q r:Int)(K:KT)(w:World)
end
section
variable(a b c:Addr)(d:OA)(e f:Nat)(g:Int)(i:OA)(j k:Nat)(m:OA)(n o:Nat)(p q:Int)(K:KT)(w:World)
end
section
variable(a:AV)(b:OA)(d:AV)(K:KT)(w:World)
variable{a b d K w}
end
section
variable(a:OA)(b c:Addr)(d:OA)(e f:Nat)(g:OA)(i j:Nat)(k:OA)(m n:Nat)(o:OA)(p q:Nat)(Q:aO)(w:World)
variable{a b c g i j}
end
section
variable(a:OA)(b c:Addr)(d:OA)(e f:Nat)(g:OA)(i j:Nat)(k:OA)(m n:Nat)(o:OA)(p q:Nat)(r t:Int)(Q:aO)(w:World)
variable{a b c d e f g i j k m n o p q}
end
section
variable(a:OA)(b c:Addr)(d:OA)(e f:Nat)(g:OA)(i j:Nat)(k:OA)(m n:Nat)(o:OA)(p q:Nat)(r t:Int)(Q:aO)(w:World)
end
section
variable(a:AV)(b d e:Addr)(K:KT)(w:World)
variable{a b d e K w}
end
section
variable(a b:AV)(d:Addr)(K:KT)(w:World)
variable{a b d K w}
end
section
variable(a:OA)(b d:Nat)(e f g:Addr)(K:KT)(w:World)
variable{a b d e f g K w}
end
section
variable(a:OA)(b c:Nat)(d e f:Addr)(g:OA)(i j:Nat)(k m:Int)(Q:aO)(w:World)
variable{a b c d e f g i j}
end
section
variable(a:OA)(b c:Nat)(d e f:Addr)(g:OA)(i j:Nat)(k m:Int)(K:KT)(w:World)
end
section
variable(a:OA)(b d:Nat)(e f g:Addr)(K:KT)(w:World)
variable{a b d e f g K w}
end
section
variable(a:OA)(b c:Nat)(d e f:Addr)(g i j:Int)(Q:aO)(w:World)
variable{a b c d e f i}
end
section
variable(a:OA)(b c:Nat)(d e f:Addr)(g i j:Int)(K:KT)(w:World)
end
section
variable(a b:AV)(d:OA)(e f:Nat)(g:AV)(K:KT)(w:World)
variable{a b d e f g K w}
end
section
variable(K:KT)(w:World)
variable{K w}
end
section
variable(a:Bool)(b:OA)(c d:Nat)(e:Int)(Q:aO)(w:World)
variable{b c d}
end
section
variable(a:Bool)(b:OA)(c d:Nat)(e:Int)(K:KT)(w:World)
end
section
variable(a b:AV)(d:OA)(e f:Nat)(g:OA)(i j:Nat)(K:KT)(w:World)
variable{a b d e f g i j K w}
end
section
variable(a:AV)(K:KT)(w:World)
variable{a K w}
end
section
variable(a b:AV)(d:OA)(e f:Nat)(g:OA)(i j:Nat)(k:OA)(m n:Nat)(K:KT)(w:World)
variable{a b d e f g i j k m n K w}
end
section
variable(a:OA)(b c:Nat)(d:OA)(e f:Nat)(g:Addr)(i:Bool)(j:OA)(k m:Int)(Q:aO)(w:World)
variable{a b c d e f g j k}
end
section
variable(a:OA)(b c:Nat)(d:OA)(e f:Nat)(g:Addr)(i:Bool)(j:OA)(k m:Int)(K:KT)(w:World)
end
end Go.Proofs.YtfleamccglihoaaGreatDoor
