import Derived.Test.YtnboahlopghcjaaGreatDoorProg
import Derived.Test.YtnboahlopghcjaaGreatDoorMA
import Derived.Test.YtnboahlopghcjaaGreatDoorMB
open Go.IntKind (i64 u64)
set_option linter.unusedVariables false
namespace Go.Proofs.YtnboahlopghcjaaGreatDoor
open Go.Proofs.Tryz
open Go Go.bT
def ij.k:List Nat:= []
section
variable(a:Int)(b:AV)(K:KT)(w:World)
def ij.W:Prop:=
 let d:=w.alloc (.cells b 23);Split (decide (a<(0:Int))) (K (.tuple #[.pointer none,.int .i64 2]) d) (Split (decide (a>(100:Int))) (K (.tuple #[.pointer none,.int .i64 2]) d) (let e:=d.drew;∃f:AV,(f.size=32/\Cells e (⟨w.heap.size,0,none⟩:Addr) f)/\∃g:AV,(g.size=32/\Cells e (⟨w.heap.size,0,none⟩:Addr) g)/\(bj prog 39 #[.agg f] e fun i j=>∃k:OA,i=.pointer k/\(∃cs:AV,(.agg g:Value)=.agg cs/\cs.size=32/\Cells j (⟨w.heap.size,0,none⟩:Addr) cs)/\(let m:=j.alloc (.map #[] 0);(∃cs:AV,(.agg g:Value)=.agg cs/\cs.size=32/\Cells m (⟨w.heap.size,0,none⟩:Addr) cs)/\let n:=m.alloc (.cells zS 91);(∃cs:AV,(.agg g:Value)=.agg cs/\cs.size=32/\Cells n (⟨w.heap.size,0,none⟩:Addr) cs)/\∃o:World,(Instr.mapUpdate 80 (.map (some j.heap.size)) (.agg g) (.pointer (some (⟨m.heap.size,0,none⟩:Addr)))).run prog n=.ok () o/\let p:=o.alloc (.cells (#[.int .i64 a,.pointer k,.map (some j.heap.size)]:AV) 82);K (.tuple #[.pointer (some (⟨o.heap.size,0,none⟩:Addr)),.int .i64 0]) p)/\(let q:=j.alloc (.cells zS 91);(∃cs:AV,(.agg g:Value)=.agg cs/\cs.size=32/\Cells q (⟨w.heap.size,0,none⟩:Addr) cs)/\let r:=q.alloc (.map #[] 0);(∃cs:AV,(.agg g:Value)=.agg cs/\cs.size=32/\Cells r (⟨w.heap.size,0,none⟩:Addr) cs)/\∃t:World,(Instr.mapUpdate 80 (.map (some q.heap.size)) (.agg g) (.pointer (some (⟨j.heap.size,0,none⟩:Addr)))).run prog r=.ok () t/\let u:=t.alloc (.cells (#[.int .i64 a,.pointer k,.map (some q.heap.size)]:AV) 82);K (.tuple #[.pointer (some (⟨t.heap.size,0,none⟩:Addr)),.int .i64 0]) u))/\(let v:=e.alloc (.map #[] 0);(∃cs:AV,(.agg g:Value)=.agg cs/\cs.size=32/\Cells v (⟨w.heap.size,0,none⟩:Addr) cs)/\(∃cs:AV,(.agg f:Value)=.agg cs/\cs.size=32/\Cells v (⟨w.heap.size,0,none⟩:Addr) cs)/\(bj prog 39 #[.agg f] v fun x y=>∃z:OA,x=.pointer z/\(∃cs:AV,(.agg g:Value)=.agg cs/\cs.size=32/\Cells y (⟨w.heap.size,0,none⟩:Addr) cs)/\let a1:=y.alloc (.cells zS 91);(∃cs:AV,(.agg g:Value)=.agg cs/\cs.size=32/\Cells a1 (⟨w.heap.size,0,none⟩:Addr) cs)/\∃b1:World,(Instr.mapUpdate 80 (.map (some e.heap.size)) (.agg g) (.pointer (some (⟨y.heap.size,0,none⟩:Addr)))).run prog a1=.ok () b1/\let c1:=b1.alloc (.cells (#[.int .i64 a,.pointer z,.map (some e.heap.size)]:AV) 82);K (.tuple #[.pointer (some (⟨b1.heap.size,0,none⟩:Addr)),.int .i64 0]) c1)/\(let d1:=v.alloc (.cells zS 91);(∃cs:AV,(.agg g:Value)=.agg cs/\cs.size=32/\Cells d1 (⟨w.heap.size,0,none⟩:Addr) cs)/\(∃cs:AV,(.agg f:Value)=.agg cs/\cs.size=32/\Cells d1 (⟨w.heap.size,0,none⟩:Addr) cs)/\(bj prog 39 #[.agg f] d1 fun e1 f1=>∃g1:OA,e1=.pointer g1/\(∃cs:AV,(.agg g:Value)=.agg cs/\cs.size=32/\Cells f1 (⟨w.heap.size,0,none⟩:Addr) cs)/\∃i1:World,(Instr.mapUpdate 80 (.map (some e.heap.size)) (.agg g) (.pointer (some (⟨v.heap.size,0,none⟩:Addr)))).run prog f1=.ok () i1/\let j1:=i1.alloc (.cells (#[.int .i64 a,.pointer g1,.map (some e.heap.size)]:AV) 82);K (.tuple #[.pointer (some (⟨i1.heap.size,0,none⟩:Addr)),.int .i64 0]) j1)/\(∃k1:World,(Instr.mapUpdate 80 (.map (some e.heap.size)) (.agg g) (.pointer (some (⟨v.heap.size,0,none⟩:Addr)))).run prog d1=.ok () k1/\(∃cs:AV,(.agg f:Value)=.agg cs/\cs.size=32/\Cells k1 (⟨w.heap.size,0,none⟩:Addr) cs)/\bj prog 39 #[.agg f] k1 fun m1 n1=>∃o1:OA,m1=.pointer o1/\let p1:=n1.alloc (.cells (#[.int .i64 a,.pointer o1,.map (some e.heap.size)]:AV) 82);K (.tuple #[.pointer (some (⟨n1.heap.size,0,none⟩:Addr)),.int .i64 0]) p1)))/\(let q1:=e.alloc (.cells zS 91);(∃cs:AV,(.agg g:Value)=.agg cs/\cs.size=32/\Cells q1 (⟨w.heap.size,0,none⟩:Addr) cs)/\(∃cs:AV,(.agg f:Value)=.agg cs/\cs.size=32/\Cells q1 (⟨w.heap.size,0,none⟩:Addr) cs)/\(bj prog 39 #[.agg f] q1 fun r1 t1=>∃u1:OA,r1=.pointer u1/\(∃cs:AV,(.agg g:Value)=.agg cs/\cs.size=32/\Cells t1 (⟨w.heap.size,0,none⟩:Addr) cs)/\let v1:=t1.alloc (.map #[] 0);(∃cs:AV,(.agg g:Value)=.agg cs/\cs.size=32/\Cells v1 (⟨w.heap.size,0,none⟩:Addr) cs)/\∃x1:World,(Instr.mapUpdate 80 (.map (some t1.heap.size)) (.agg g) (.pointer (some (⟨e.heap.size,0,none⟩:Addr)))).run prog v1=.ok () x1/\let y1:=x1.alloc (.cells (#[.int .i64 a,.pointer u1,.map (some t1.heap.size)]:AV) 82);K (.tuple #[.pointer (some (⟨x1.heap.size,0,none⟩:Addr)),.int .i64 0]) y1)/\(let z1:=q1.alloc (.map #[] 0);(∃cs:AV,(.agg g:Value)=.agg cs/\cs.size=32/\Cells z1 (⟨w.heap.size,0,none⟩:Addr) cs)/\(∃cs:AV,(.agg f:Value)=.agg cs/\cs.size=32/\Cells z1 (⟨w.heap.size,0,none⟩:Addr) cs)/\(bj prog 39 #[.agg f] z1 fun a2 b2=>∃c2:OA,a2=.pointer c2/\(∃cs:AV,(.agg g:Value)=.agg cs/\cs.size=32/\Cells b2 (⟨w.heap.size,0,none⟩:Addr) cs)/\∃d2:World,(Instr.mapUpdate 80 (.map (some q1.heap.size)) (.agg g) (.pointer (some (⟨e.heap.size,0,none⟩:Addr)))).run prog b2=.ok () d2/\let e2:=d2.alloc (.cells (#[.int .i64 a,.pointer c2,.map (some q1.heap.size)]:AV) 82);K (.tuple #[.pointer (some (⟨d2.heap.size,0,none⟩:Addr)),.int .i64 0]) e2)/\(∃f2:World,(Instr.mapUpdate 80 (.map (some q1.heap.size)) (.agg g) (.pointer (some (⟨e.heap.size,0,none⟩:Addr)))).run prog z1=.ok () f2/\(∃cs:AV,(.agg f:Value)=.agg cs/\cs.size=32/\Cells f2 (⟨w.heap.size,0,none⟩:Addr) cs)/\bj prog 39 #[.agg f] f2 fun g2 i2=>∃j2:OA,g2=.pointer j2/\let k2:=i2.alloc (.cells (#[.int .i64 a,.pointer j2,.map (some q1.heap.size)]:AV) 82);K (.tuple #[.pointer (some (⟨i2.heap.size,0,none⟩:Addr)),.int .i64 0]) k2)))))
variable{a b K w}
theorem ij.of(h:ij.W a b K w):bj prog 12 #[.int .i64 a,.agg b] w K:=
 rqq func12 (C:=ij.k) h
end
def di.k:List Nat:= []
section
variable(a:OA)(b:AV)(d:OA)(e f:Nat)(K:KT)(w:World)
def di.W:Prop:=
 let g:=w.alloc (.cells b 23);let i:=g.alloc (.cells zC 52);bj prog 40 #[.pointer a] i fun j k=>∃m:Bool,j=.bool m/\Split (!m) ((zC.size=35/\(∀n∈zC.toList,n.oneCell'=true)/\∀o,o<35->Wr k ((⟨g.heap.size,0,none⟩:Addr).add o))/\let p:=setCells k (⟨g.heap.size,0,none⟩:Addr) zC.toList 0;∃q:AV,(q.size=35/\Cells p (⟨g.heap.size,0,none⟩:Addr) q)/\K (.tuple #[.agg q,.int .i64 1]) p) (let r:=k.drew;Is a fun t:Addr=>∃u:Option Nat,r.cell? (t.add 2)=some (.map u)/\∃v:AV,(v.size=32/\Cells r (⟨w.heap.size,0,none⟩:Addr) v)/\∃x:OA,(Instr.lookup 80 (.map u) (.agg v) false).run prog r=.ok (.pointer x) r/\Split (!(x).isNone) ((zC.size=35/\(∀y∈zC.toList,y.oneCell'=true)/\∀z,z<35->Wr r ((⟨g.heap.size,0,none⟩:Addr).add z))/\let a1:=setCells r (⟨g.heap.size,0,none⟩:Addr) zC.toList 0;∃b1:AV,(b1.size=35/\Cells a1 (⟨g.heap.size,0,none⟩:Addr) b1)/\K (.tuple #[.agg b1,.int .i64 7]) a1) (Split ((e:Int)==(0:Int)) ((zC.size=35/\(∀c1∈zC.toList,c1.oneCell'=true)/\∀d1,d1<35->Wr r ((⟨g.heap.size,0,none⟩:Addr).add d1))/\let e1:=setCells r (⟨g.heap.size,0,none⟩:Addr) zC.toList 0;∃f1:AV,(f1.size=35/\Cells e1 (⟨g.heap.size,0,none⟩:Addr) f1)/\K (.tuple #[.agg f1,.int .i64 9]) e1) (bj prog 41 #[.slice d e f] r fun g1 i1=>∃j1:OA,∃k1 m1:Nat,g1=.slice j1 k1 m1/\Split ((k1:Int) != (e:Int)) ((zC.size=35/\(∀n1∈zC.toList,n1.oneCell'=true)/\∀o1,o1<35->Wr i1 ((⟨g.heap.size,0,none⟩:Addr).add o1))/\let p1:=setCells i1 (⟨g.heap.size,0,none⟩:Addr) zC.toList 0;∃q1:AV,(q1.size=35/\Cells p1 (⟨g.heap.size,0,none⟩:Addr) q1)/\K (.tuple #[.agg q1,.int .i64 9]) p1) (bj prog 18 #[.pointer a,.slice d e f] i1 fun r1 t1=>∃u1:AV,∃v1:Int,r1=.tuple #[.agg u1,.int .i64 v1]/\let x1:=t1.alloc (.cells zH 23);(u1.size=32/\(∀y1∈u1.toList,y1.oneCell'=true)/\∀z1,z1<32->Wr x1 ((⟨t1.heap.size,0,none⟩:Addr).add z1))/\let a2:=setCells x1 (⟨t1.heap.size,0,none⟩:Addr) u1.toList 0;Split (v1 != (0:Int)) ((zC.size=35/\(∀b2∈zC.toList,b2.oneCell'=true)/\∀c2,c2<35->Wr a2 ((⟨g.heap.size,0,none⟩:Addr).add c2))/\let d2:=setCells a2 (⟨g.heap.size,0,none⟩:Addr) zC.toList 0;∃e2:AV,(e2.size=35/\Cells d2 (⟨g.heap.size,0,none⟩:Addr) e2)/\K (.tuple #[.agg e2,.int .i64 v1]) d2) (∃f2:AV,(f2.size=32/\Cells a2 (⟨t1.heap.size,0,none⟩:Addr) f2)/\bj prog 42 #[.pointer a,.agg f2,.slice d e f] a2 fun g2 i2=>∃j2:OA,g2=.pointer j2/\let k2:=i2.drew;Is a fun m2:Addr=>∃n2:OA,k2.cell? (m2.add 1)=some (.pointer n2)/\∃o2:AV,(o2.size=32/\Cells k2 (⟨w.heap.size,0,none⟩:Addr) o2)/\∃p2:AV,(p2.size=32/\Cells k2 (⟨t1.heap.size,0,none⟩:Addr) p2)/\bj prog 43 #[.pointer n2,.agg o2,.agg p2,.slice d e f] k2 fun q2 r2=>∃t2:Int,q2=.int .i64 t2/\let u2:=r2.drew;Is a fun v2:Addr=>∃x2:Option Nat,u2.cell? (v2.add 2)=some (.map x2)/\∃y2:AV,(y2.size=32/\Cells u2 (⟨w.heap.size,0,none⟩:Addr) y2)/\∃z2:World,(Instr.mapUpdate 80 (.map x2) (.agg y2) (.pointer j2)).run prog u2=.ok () z2/\Is j2 fun a3:Addr=>∃b3:AV,(b3.size=35/\Cells z2 (a3.add 0) b3)/\bj prog 44 #[.agg b3] z2 fun c3 d3=>∃e3:AV,c3=.agg e3/\(e3.size=35/\(∀f3∈e3.toList,f3.oneCell'=true)/\∀g3,g3<35->Wr d3 ((⟨g.heap.size,0,none⟩:Addr).add g3))/\let i3:=setCells d3 (⟨g.heap.size,0,none⟩:Addr) e3.toList 0;∃j3:AV,(j3.size=35/\Cells i3 (⟨g.heap.size,0,none⟩:Addr) j3)/\K (.tuple #[.agg j3,.int .i64 0]) i3)))))
variable{a b d e f K w}
theorem di.of(h:di.W a b d e f K w):bj prog 14 #[.pointer a,.agg b,.slice d e f] w K:=
 rqq func14 (C:=di.k) h
end
def eE.k:List Nat:= []
section
variable(a:OA)(b:AV)(K:KT)(w:World)
def eE.W:Prop:=
 let d:=w.alloc (.cells b 23);let e:=d.alloc (.cells zC 52);bj prog 40 #[.pointer a] e fun f g=>∃i:Bool,f=.bool i/\Split (!i) ((zC.size=35/\(∀j∈zC.toList,j.oneCell'=true)/\∀k,k<35->Wr g ((⟨d.heap.size,0,none⟩:Addr).add k))/\let m:=setCells g (⟨d.heap.size,0,none⟩:Addr) zC.toList 0;∃n:AV,(n.size=35/\Cells m (⟨d.heap.size,0,none⟩:Addr) n)/\K (.tuple #[.agg n,.int .i64 1]) m) (let o:=g.drew;Is a fun p:Addr=>∃q:Option Nat,o.cell? (p.add 2)=some (.map q)/\∃r:AV,(r.size=32/\Cells o (⟨w.heap.size,0,none⟩:Addr) r)/\∃t:OA,(Instr.lookup 80 (.map q) (.agg r) false).run prog o=.ok (.pointer t) o/\Split ((t).isNone) ((zC.size=35/\(∀u∈zC.toList,u.oneCell'=true)/\∀v,v<35->Wr o ((⟨d.heap.size,0,none⟩:Addr).add v))/\let x:=setCells o (⟨d.heap.size,0,none⟩:Addr) zC.toList 0;∃y:AV,(y.size=35/\Cells x (⟨d.heap.size,0,none⟩:Addr) y)/\K (.tuple #[.agg y,.int .i64 6]) x) (let z:=o.drew;Is a fun a1:Addr=>∃b1:Option Nat,z.cell? (a1.add 2)=some (.map b1)/\∃c1:AV,(c1.size=32/\Cells z (⟨w.heap.size,0,none⟩:Addr) c1)/\∃d1:OA,(Instr.lookup 80 (.map b1) (.agg c1) false).run prog z=.ok (.pointer d1) z/\Is d1 fun e1:Addr=>∃f1:AV,(f1.size=35/\Cells z (e1.add 0) f1)/\bj prog 44 #[.agg f1] z fun g1 i1=>∃j1:AV,g1=.agg j1/\(j1.size=35/\(∀k1∈j1.toList,k1.oneCell'=true)/\∀m1,m1<35->Wr i1 ((⟨d.heap.size,0,none⟩:Addr).add m1))/\let n1:=setCells i1 (⟨d.heap.size,0,none⟩:Addr) j1.toList 0;∃o1:AV,(o1.size=35/\Cells n1 (⟨d.heap.size,0,none⟩:Addr) o1)/\K (.tuple #[.agg o1,.int .i64 0]) n1))
variable{a b K w}
theorem eE.of(h:eE.W a b K w):bj prog 15 #[.pointer a,.agg b] w K:=
 rqq func15 (C:=eE.k) h
end
section
variable(a:OA)(b:AV)(d:OA)(e f:Nat)(K:KT)(w:World)
variable{a b d e f K w}
end
def dp.k:List Nat:= []
section
variable(a b:OA)(d e:Nat)(K:KT)(w:World)
def dp.W:Prop:=
 let f:=w.alloc (.cells zH 23);bj prog 45 #[.pointer a,.slice b d e] f fun g i=>∃j:Int,g=.int .i64 j/\Split (j != (0:Int)) ((zH.size=32/\(∀k∈zH.toList,k.oneCell'=true)/\∀m,m<32->Wr i ((⟨w.heap.size,0,none⟩:Addr).add m))/\let n:=setCells i (⟨w.heap.size,0,none⟩:Addr) zH.toList 0;∃o:AV,(o.size=32/\Cells n (⟨w.heap.size,0,none⟩:Addr) o)/\K (.tuple #[.agg o,.int .i64 j]) n) (bj prog 46 #[.slice b d e,.func (.func 47) #[.pointer a] #[]] i fun p q=>∃r:AV,p=.agg r/\(r.size=32/\(∀t∈r.toList,t.oneCell'=true)/\∀u,u<32->Wr q ((⟨w.heap.size,0,none⟩:Addr).add u))/\let v:=setCells q (⟨w.heap.size,0,none⟩:Addr) r.toList 0;∃x:AV,(x.size=32/\Cells v (⟨w.heap.size,0,none⟩:Addr) x)/\K (.tuple #[.agg x,.int .i64 0]) v)
variable{a b d e K w}
theorem dp.of(h:dp.W a b d e K w):bj prog 18 #[.pointer a,.slice b d e] w K:=
 rqq func18 (C:=dp.k) h
end
section
variable(a:OA)(b d:AV)(K:KT)(w:World)
variable{a b d K w}
end
section
variable(a:OA)(K:KT)(w:World)
variable{a K w}
end
section
variable(a:OA)(b d:AV)(K:KT)(w:World)
variable{a b d K w}
end
def ee.k:List Nat:= []
section
variable(a:OA)(K:KT)(w:World)
def ee.W:Prop:=
 Split ((a).isNone) (K (.pointer none) w) (Is a fun b:Addr=>∃d:OA,w.cell? (b.add 1)=some (.pointer d)/\K (.pointer d) w)
variable{a K w}
theorem ee.of(h:ee.W a K w):bj prog 31 #[.pointer a] w K:=
 rqq func31 (C:=ee.k) h
end
def eQ.k:List Nat:= []
section
variable(a:OA)(K:KT)(w:World)
def eQ.W:Prop:=
 bj prog 40 #[.pointer a] w fun b d=>∃e:Bool,b=.bool e/\Split (!e) (K (.pointer none) d) (let f:=d.drew;Is a fun g:Addr=>∃i:Int,f.cell? (g.add 0)=some (.int .i64 i)/\Is a fun j:Addr=>∃k:OA,f.cell? (j.add 1)=some (.pointer k)/\Is a fun m:Addr=>∃n:Option Nat,f.cell? (m.add 2)=some (.map n)/\bj prog 58 #[.pointer k] f fun o p=>∃q:OA,o=.pointer q/\p.cell? (m.add 2)=some (.map n)/\p.cell? (g.add 0)=some (.int .i64 i)/\bj prog 59 #[.map n] p fun r t=>∃u:Option Nat,r=.map u/\t.cell? (g.add 0)=some (.int .i64 i)/\let v:=t.alloc (.cells (#[.int .i64 i,.pointer q,.map u]:AV) 82);K (.pointer (some (⟨t.heap.size,0,none⟩:Addr))) v)
variable{a K w}
theorem eQ.of(h:eQ.W a K w):bj prog 34 #[.pointer a] w K:=
 rqq func34 (C:=eQ.k) h
end
def dZ.k:List Nat:= []
section
variable(a:OA)(K:KT)(w:World)
def dZ.W:Prop:=
 Split (!(a).isNone) (Is a fun b:Addr=>∃d:OA,w.cell? (b.add 1)=some (.pointer d)/\K (.bool (!(d).isNone)) w) (K (.bool false) w)
variable{a K w}
theorem dZ.of(h:dZ.W a K w):bj prog 40 #[.pointer a] w K:=
 rqq func40 (C:=dZ.k) h
end
def ai.k:List Nat:= []
def ai.q1(K:KT):aM:=(aL 0 (b7 (sR (sR (sR (sR (body f42)))))++(aN f42)) (bQ (fun bV w_=>match cutAt ai.k (sR (sR (sR (sR (body f42)))))with|true=>Holds none [] prog 153 (sR (sR (sR (sR (body f42))))) (bI prog f42 K) bV w_|false=>aU none [] prog 153 ai.k (sR (sR (sR (sR (body f42))))) (aN f42) (bI prog f42 K) bV w_) (bI prog f42 K)))
def ai.e1(a b:Addr)(c:OA)(d:Addr)(e:OA)(f g:Nat)(i s:Int):Env:= [(3,.pointer (some a)),(4,.pointer (some b)),(6,.pointer c),(8,.pointer (some d)),(46,.slice e f g),(47,.int .i64 i),(48,.int .i64 s)]
def ai.u1:List Nat:= [3,4,6,8,46,47,48]
def ai.q2(K:KT):aM:=(aL 2 (b7 (sR (sR (sR (sR (sR (sR (sR (sR (sR (body f42))))))))))++(aN f42)) (bQ (fun bV w_=>match cutAt ai.k (sR (sR (sR (sR (sR (sR (sR (sR (sR (body f42))))))))))with|true=>Holds none [] prog 153 (sR (sR (sR (sR (sR (sR (sR (sR (sR (body f42)))))))))) (bI prog f42 K) bV w_|false=>aU none [] prog 153 ai.k (sR (sR (sR (sR (sR (sR (sR (sR (sR (body f42)))))))))) (aN f42) (bI prog f42 K) bV w_) (bI prog f42 K)))
def ai.e2(a:Addr)(b:OA)(c d e f g i:Addr)(j:OA)(k m:Nat)(n s:Int):Env:= [(3,.pointer (some a)),(6,.pointer b),(8,.pointer (some c)),(11,.pointer (some d)),(12,.func (.func 73) #[] #[.pointer (some e),.pointer (some f),.pointer (some g)]),(13,.pointer (some i)),(92,.slice j k m),(93,.int .i64 n),(94,.int .i64 s)]
def ai.u2:List Nat:= [3,6,8,11,12,13,92,93,94]
def ai.q3(Q:aM):aM:=(aL 4 (b7 (sR (sR (sR (sR (sR (sR (sR (sR (bB (sL (sR (sR (lB (bB (sR (sL (sR (sR (sR (sR (sR (sR (sR (sR (body f42)))))))))))))))))))))))))++(b7 (sR (sR (sR (lB (bB (sR (sL (sR (sR (sR (sR (sR (sR (sR (sR (body f42))))))))))))))))++ai.u2)) (bQ (fun bV w_=>match cutAt ai.k (sR (sR (sR (sR (sR (sR (sR (sR (bB (sL (sR (sR (lB (bB (sR (sL (sR (sR (sR (sR (sR (sR (sR (sR (body f42)))))))))))))))))))))))))with|true=>Holds none [] prog 153 (sR (sR (sR (sR (sR (sR (sR (sR (bB (sL (sR (sR (lB (bB (sR (sL (sR (sR (sR (sR (sR (sR (sR (sR (body f42))))))))))))))))))))))))) (aL 3 (b7 (sR (sR (sR (lB (bB (sR (sL (sR (sR (sR (sR (sR (sR (sR (sR (body f42))))))))))))))))++ai.u2) (bQ (fun bV w_=>match cutAt ai.k (sR (sR (sR (lB (bB (sR (sL (sR (sR (sR (sR (sR (sR (sR (sR (body f42))))))))))))))))with|true=>Holds none [] prog 153 (sR (sR (sR (lB (bB (sR (sL (sR (sR (sR (sR (sR (sR (sR (sR (body f42)))))))))))))))) Q bV w_|false=>aU none [] prog 153 ai.k (sR (sR (sR (lB (bB (sR (sL (sR (sR (sR (sR (sR (sR (sR (sR (body f42)))))))))))))))) ai.u2 Q bV w_) Q)) bV w_|false=>aU none [] prog 153 ai.k (sR (sR (sR (sR (sR (sR (sR (sR (bB (sL (sR (sR (lB (bB (sR (sL (sR (sR (sR (sR (sR (sR (sR (sR (body f42))))))))))))))))))))))))) (b7 (sR (sR (sR (lB (bB (sR (sL (sR (sR (sR (sR (sR (sR (sR (sR (body f42))))))))))))))))++ai.u2) (aL 3 (b7 (sR (sR (sR (lB (bB (sR (sL (sR (sR (sR (sR (sR (sR (sR (sR (body f42))))))))))))))))++ai.u2) (bQ (fun bV w_=>match cutAt ai.k (sR (sR (sR (lB (bB (sR (sL (sR (sR (sR (sR (sR (sR (sR (sR (body f42))))))))))))))))with|true=>Holds none [] prog 153 (sR (sR (sR (lB (bB (sR (sL (sR (sR (sR (sR (sR (sR (sR (sR (body f42)))))))))))))))) Q bV w_|false=>aU none [] prog 153 ai.k (sR (sR (sR (lB (bB (sR (sL (sR (sR (sR (sR (sR (sR (sR (sR (body f42)))))))))))))))) ai.u2 Q bV w_) Q)) bV w_) (aL 3 (b7 (sR (sR (sR (lB (bB (sR (sL (sR (sR (sR (sR (sR (sR (sR (sR (body f42))))))))))))))))++ai.u2) (bQ (fun bV w_=>match cutAt ai.k (sR (sR (sR (lB (bB (sR (sL (sR (sR (sR (sR (sR (sR (sR (sR (body f42))))))))))))))))with|true=>Holds none [] prog 153 (sR (sR (sR (lB (bB (sR (sL (sR (sR (sR (sR (sR (sR (sR (sR (body f42)))))))))))))))) Q bV w_|false=>aU none [] prog 153 ai.k (sR (sR (sR (lB (bB (sR (sL (sR (sR (sR (sR (sR (sR (sR (sR (body f42)))))))))))))))) ai.u2 Q bV w_) Q))))
def ai.e3(a:Addr)(b:OA)(c d e f g i j:Addr)(k:OA)(m n:Nat)(o p:Int)(q:OA)(s:Unit):Env:= [(3,.pointer (some a)),(6,.pointer b),(8,.pointer (some c)),(11,.pointer (some d)),(12,.func (.func 73) #[] #[.pointer (some e),.pointer (some f),.pointer (some g)]),(13,.pointer (some i)),(15,.pointer (some j)),(92,.slice k m n),(93,.int .i64 o),(94,.int .i64 p),(134,.pointer q)]
def ai.u3:List Nat:= [3,6,8,11,12,13,15,92,93,94,134]
section
variable(a:OA)(b:AV)(d:OA)(e f:Nat)(K:KT)(w:World)
def ai.W:Prop:=
 let g:=w.alloc (.cells (#[.pointer a]:AV) 28);let i:=g.alloc (.cells b 23);∃j:OA,i.cell? (⟨w.heap.size,0,none⟩:Addr)=some (.pointer j)/\Is j fun k:Addr=>∃m:OA,i.cell? (k.add 1)=some (.pointer m)/\bj prog 35 #[.pointer m] i fun n o=>∃p:OA,n=.pointer p/\let q:=o.drew;∃r:AV,(r.size=32/\Cells q (⟨g.heap.size,0,none⟩:Addr) r)/\∃t:OA,q.cell? (⟨w.heap.size,0,none⟩:Addr)=some (.pointer t)/\Is t fun u:Addr=>∃v:Option Nat,q.cell? (u.add 2)=some (.map v)/\∃x:AV,(x.size=32/\Cells q (⟨g.heap.size,0,none⟩:Addr) x)/\∃y:OA,(Instr.lookup 80 (.map v) (.agg x) false).run prog q=.ok (.pointer y) q/\Is y fun z:Addr=>∃a1:Int,q.cell? ((z.add 0).add 32)=some (.int .u64 a1)/\Is (prog.built 52 [(0,.agg r),(1,.int .u64 (u64.wrap (a1+(1:Int))))]) fun b1:AV=>(let c1:=q.alloc (.map #[] 0);c1.cell? ((z.add 0).add 32)=some (.int .u64 a1)/\(Instr.lookup 80 (.map v) (.agg x) false).run prog c1=.ok (.pointer y) c1/\(∃cs:AV,(.agg x:Value)=.agg cs/\cs.size=32/\Cells c1 (⟨g.heap.size,0,none⟩:Addr) cs)/\c1.cell? (u.add 2)=some (.map v)/\c1.cell? (⟨w.heap.size,0,none⟩:Addr)=some (.pointer t)/\(∃cs:AV,(.agg r:Value)=.agg cs/\cs.size=32/\Cells c1 (⟨g.heap.size,0,none⟩:Addr) cs)/\Is (prog.built 91 [(0,.agg b1),(1,.map (some q.heap.size))]) fun d1:AV=>(let e1:=c1.alloc (.cells d1 91);let f1:=e1.alloc (.cells (#[.pointer none]:AV) 88);Wr f1 (⟨e1.heap.size,0,none⟩:Addr)/\let g1:=f1.setCell (⟨e1.heap.size,0,none⟩:Addr) (.pointer (some (⟨c1.heap.size,0,none⟩:Addr)));bj prog 70 #[.pointer p,.slice d e f] g1 fun i1 j1=>∃k1:OA,∃m1 n1:Nat,i1=.slice k1 m1 n1/\∃(o1:OA) (p1 q1:Nat) (r1:World),(Builtin.append_ #[35,35] 35 #[.slice k1 m1 n1,.slice d e f]).run prog j1=.ok (.slice o1 p1 q1) r1/\bj prog 41 #[.slice o1 p1 q1] r1 fun t1 u1=>∃v1:OA,∃x1 y1:Nat,t1=.slice v1 x1 y1/\Holds none [] prog 153 (.loop (lB (bB (sR (sL (sR (sR (sR (body f42))))))))) (ai.q1 K) [(3,.pointer (some (⟨w.heap.size,0,none⟩:Addr))),(4,.pointer (some (⟨g.heap.size,0,none⟩:Addr))),(6,.pointer none),(8,.pointer (some (⟨e1.heap.size,0,none⟩:Addr))),(46,.slice v1 x1 y1),(47,.int .i64 (x1:Int)),(48,.int .i64 0)] u1)/\(let z1:=c1.alloc (.cells (#[.pointer none]:AV) 88);z1.cell? ((z.add 0).add 32)=some (.int .u64 a1)/\(Instr.lookup 80 (.map v) (.agg x) false).run prog z1=.ok (.pointer y) z1/\(∃cs:AV,(.agg x:Value)=.agg cs/\cs.size=32/\Cells z1 (⟨g.heap.size,0,none⟩:Addr) cs)/\z1.cell? (u.add 2)=some (.map v)/\z1.cell? (⟨w.heap.size,0,none⟩:Addr)=some (.pointer t)/\(∃cs:AV,(.agg r:Value)=.agg cs/\cs.size=32/\Cells z1 (⟨g.heap.size,0,none⟩:Addr) cs)/\let a2:=z1.alloc (.cells d1 91);Wr a2 (⟨c1.heap.size,0,none⟩:Addr)/\let b2:=a2.setCell (⟨c1.heap.size,0,none⟩:Addr) (.pointer (some (⟨z1.heap.size,0,none⟩:Addr)));bj prog 70 #[.pointer p,.slice d e f] b2 fun c2 d2=>∃e2:OA,∃f2 g2:Nat,c2=.slice e2 f2 g2/\∃(i2:OA) (j2 k2:Nat) (m2:World),(Builtin.append_ #[35,35] 35 #[.slice e2 f2 g2,.slice d e f]).run prog d2=.ok (.slice i2 j2 k2) m2/\bj prog 41 #[.slice i2 j2 k2] m2 fun n2 o2=>∃p2:OA,∃q2 r2:Nat,n2=.slice p2 q2 r2/\Holds none [] prog 153 (.loop (lB (bB (sR (sL (sR (sR (sR (body f42))))))))) (ai.q1 K) [(3,.pointer (some (⟨w.heap.size,0,none⟩:Addr))),(4,.pointer (some (⟨g.heap.size,0,none⟩:Addr))),(6,.pointer none),(8,.pointer (some (⟨c1.heap.size,0,none⟩:Addr))),(46,.slice p2 q2 r2),(47,.int .i64 (q2:Int)),(48,.int .i64 0)] o2))/\(let t2:=q.alloc (.cells (#[.pointer none]:AV) 88);t2.cell? ((z.add 0).add 32)=some (.int .u64 a1)/\(Instr.lookup 80 (.map v) (.agg x) false).run prog t2=.ok (.pointer y) t2/\(∃cs:AV,(.agg x:Value)=.agg cs/\cs.size=32/\Cells t2 (⟨g.heap.size,0,none⟩:Addr) cs)/\t2.cell? (u.add 2)=some (.map v)/\t2.cell? (⟨w.heap.size,0,none⟩:Addr)=some (.pointer t)/\(∃cs:AV,(.agg r:Value)=.agg cs/\cs.size=32/\Cells t2 (⟨g.heap.size,0,none⟩:Addr) cs)/\let u2:=t2.alloc (.map #[] 0);u2.cell? ((z.add 0).add 32)=some (.int .u64 a1)/\(Instr.lookup 80 (.map v) (.agg x) false).run prog u2=.ok (.pointer y) u2/\(∃cs:AV,(.agg x:Value)=.agg cs/\cs.size=32/\Cells u2 (⟨g.heap.size,0,none⟩:Addr) cs)/\u2.cell? (u.add 2)=some (.map v)/\u2.cell? (⟨w.heap.size,0,none⟩:Addr)=some (.pointer t)/\(∃cs:AV,(.agg r:Value)=.agg cs/\cs.size=32/\Cells u2 (⟨g.heap.size,0,none⟩:Addr) cs)/\Is (prog.built 91 [(0,.agg b1),(1,.map (some t2.heap.size))]) fun v2:AV=>let x2:=u2.alloc (.cells v2 91);Wr x2 (⟨q.heap.size,0,none⟩:Addr)/\let y2:=x2.setCell (⟨q.heap.size,0,none⟩:Addr) (.pointer (some (⟨u2.heap.size,0,none⟩:Addr)));bj prog 70 #[.pointer p,.slice d e f] y2 fun z2 a3=>∃b3:OA,∃c3 d3:Nat,z2=.slice b3 c3 d3/\∃(e3:OA) (f3 g3:Nat) (i3:World),(Builtin.append_ #[35,35] 35 #[.slice b3 c3 d3,.slice d e f]).run prog a3=.ok (.slice e3 f3 g3) i3/\bj prog 41 #[.slice e3 f3 g3] i3 fun j3 k3=>∃m3:OA,∃n3 o3:Nat,j3=.slice m3 n3 o3/\Holds none [] prog 153 (.loop (lB (bB (sR (sL (sR (sR (sR (body f42))))))))) (ai.q1 K) [(3,.pointer (some (⟨w.heap.size,0,none⟩:Addr))),(4,.pointer (some (⟨g.heap.size,0,none⟩:Addr))),(6,.pointer none),(8,.pointer (some (⟨q.heap.size,0,none⟩:Addr))),(46,.slice m3 n3 o3),(47,.int .i64 (n3:Int)),(48,.int .i64 0)] k3)
variable{a b d e f K w}
theorem ai.of(h:ai.W a b d e f K w):bj prog 42 #[.pointer a,.agg b,.slice d e f] w K:=
 rqq func42 (C:=ai.k) h
end
section
variable(a b:Addr)(c:OA)(d:Addr)(e:OA)(f g:Nat)(i j:Int)(Q:aM)(w:World)
def ai.B1:Prop:=
 Split (decide (j<i)) ((0<=j/\j<(f:Int))/\Is e fun k:Addr=>∃m:AV,(m.size=32/\Cells w (k.add (j.toNat*32)) m)/\let n:=w.alloc (.cells zH 23);(m.size=32/\(∀o∈m.toList,o.oneCell'=true)/\∀p,p<32->Wr n ((⟨w.heap.size,0,none⟩:Addr).add p))/\let q:=setCells n (⟨w.heap.size,0,none⟩:Addr) m.toList 0;let r:=q.drew;∃t:AV,(t.size=32/\Cells r (⟨w.heap.size,0,none⟩:Addr) t)/\∃u:AV,(u.size=32/\Cells r b u)/\(dP .u8 32 t/\dP .u8 32 u)/\Split (!(eT t u)) (∃v:OA,r.cell? a=some (.pointer v)/\Is v fun x:Addr=>∃y:OA,r.cell? (x.add 1)=some (.pointer y)/\∃z:AV,(z.size=32/\Cells r (⟨w.heap.size,0,none⟩:Addr) z)/\∃a1:AV,(a1.size=32/\Cells r b a1)/\bj prog 71 #[.pointer y,.agg z,.agg a1] r fun b1 c1=>∃d1:Bool,b1=.bool d1/\Split (!d1) (let e1:=c1.drew;∃f1:OA,e1.cell? d=some (.pointer f1)/\∃g1:OA,e1.cell? d=some (.pointer g1)/\Is g1 fun i1:Addr=>∃j1:OA,∃k1 m1:Nat,e1.cell? ((i1.add 0).add 33)=some (.slice j1 k1 m1)/\∃n1:AV,(n1.size=32/\Cells e1 (⟨w.heap.size,0,none⟩:Addr) n1)/\n1.size=32/\let o1:=e1.alloc (.cells (n1.toList++ []).toArray 23);o1.cell? ((i1.add 0).add 33)=some (.slice j1 k1 m1)/\o1.cell? d=some (.pointer g1)/\o1.cell? d=some (.pointer f1)/\∃(p1:OA) (q1 r1:Nat) (t1:World),(Builtin.append_ #[35,35] 35 #[.slice j1 k1 m1,.slice (some (⟨e1.heap.size,0,none⟩:Addr)) 1 1]).run prog o1=.ok (.slice p1 q1 r1) t1/\t1.cell? d=some (.pointer f1)/\Is f1 fun u1:Addr=>Wr t1 ((u1.add 0).add 33)/\let v1:=t1.setCell ((u1.add 0).add 33) (.slice p1 q1 r1);Q .normal [(3,.pointer (some a)),(4,.pointer (some b)),(6,.pointer c),(8,.pointer (some d)),(46,.slice e f g),(47,.int .i64 i),(48,.int .i64 (i64.wrap (j+(1:Int))))] v1) (Q .normal [(3,.pointer (some a)),(4,.pointer (some b)),(6,.pointer c),(8,.pointer (some d)),(46,.slice e f g),(47,.int .i64 i),(48,.int .i64 (i64.wrap (j+(1:Int))))] c1)) (Q .normal [(3,.pointer (some a)),(4,.pointer (some b)),(6,.pointer c),(8,.pointer (some d)),(46,.slice e f g),(47,.int .i64 i),(48,.int .i64 (i64.wrap (j+(1:Int))))] r)) (Q (.exit 0) [(3,.pointer (some a)),(4,.pointer (some b)),(6,.pointer c),(8,.pointer (some d)),(46,.slice e f g),(47,.int .i64 i),(48,.int .i64 j)] w)
theorem ai.b1:(aU none [] prog 153 ai.k (lB (bB (sR (sL (sR (sR (sR (body f42)))))))) ai.u1 Q [(3,.pointer (some a)),(4,.pointer (some b)),(6,.pointer c),(8,.pointer (some d)),(46,.slice e f g),(47,.int .i64 i),(48,.int .i64 j)] w)=ai.B1 a b c d e f g i j Q w:=by kernel_rfl
variable{a b c d e f g i}
theorem ai.b6(I:Int->World->Prop)(μ:Int->World->Nat)(s:Int){Q:aM}{w:World}(h0:I s w)
 (round:∀s w,I s w->ai.B1 a b c d e f g i s (bH (ai.e1 a b c d e f g i) I μ s w Q) w):Holds none [] prog 153 (.loop (lB (bB (sR (sL (sR (sR (sR (body f42))))))))) Q (ai.e1 a b c d e f g i s) w:=
 ba ng mix (ai.e1 a b c d e f g i) I μ ai.k ai.u1 s (fun s Q w=>ai.B1 a b c d e f g i s Q w) (fun s Q w=>ai.b1 a b c d e f g i s Q w) h0 round
end
section
def ai.cI(a b:Addr)(c:OA)(d:Addr)(e:OA)(f g:Nat)(i j:Int)(K:KT)(w:World):Prop:=
 let k:=w.drew;∃m:OA,k.cell? d=some (.pointer m)/\Is m fun n:Addr=>∃o:OA,∃p q:Nat,k.cell? ((n.add 0).add 33)=some (.slice o p q)/\∃r:OA,k.cell? a=some (.pointer r)/\bj prog 72 #[.slice o p q,.func (.func 47) #[.pointer r] #[]] k fun t u=>t=.tuple #[]/\let v:=u.alloc (.cells (#[.slice none 0 0]:AV) 35);let x:=v.alloc (.cells (#[.nilFunc]:AV) 98);Wr x (⟨v.heap.size,0,none⟩:Addr)/\let y:=x.setCell (⟨v.heap.size,0,none⟩:Addr) (.func (.func 75) #[] #[.pointer (some d),.pointer (some a),.pointer (some b)]);∃z:OA,y.cell? d=some (.pointer z)/\Is z fun a1:Addr=>∃b1:OA,∃c1 d1:Nat,y.cell? ((a1.add 0).add 33)=some (.slice b1 c1 d1)/\Holds none [] prog 153 (.loop (lB (bB (sR (sL (sR (sR (sR (sR (sR (sR (sR (sR (body f42)))))))))))))) (ai.q2 K) [(3,.pointer (some a)),(6,.pointer c),(8,.pointer (some d)),(11,.pointer (some (⟨u.heap.size,0,none⟩:Addr))),(12,.func (.func 73) #[] #[.pointer (some (⟨u.heap.size,0,none⟩:Addr)),.pointer (some a),.pointer (some b)]),(13,.pointer (some (⟨v.heap.size,0,none⟩:Addr))),(92,.slice b1 c1 d1),(93,.int .i64 (c1:Int)),(94,.int .i64 0)] y
variable(a b:Addr)(c:OA)(d:Addr)(e:OA)(f g:Nat)(i j:Int)(K:KT)(w:World)
theorem ai.cX:(ai.q1 K (.exit 0) [(3,.pointer (some a)),(4,.pointer (some b)),(6,.pointer c),(8,.pointer (some d)),(46,.slice e f g),(47,.int .i64 i),(48,.int .i64 j)] w)=ai.cI a b c d e f g i j K w:=by kernel_rfl
end
section
variable(a:Addr)(b:OA)(c d e f g i:Addr)(j:OA)(k m:Nat)(n o:Int)(Q:aM)(w:World)
def ai.B2:Prop:=
 Split (decide (o<n)) ((0<=o/\o<(k:Int))/\Is j fun p:Addr=>∃q:AV,(q.size=32/\Cells w (p.add (o.toNat*32)) q)/\let r:=w.alloc (.cells zH 23);(q.size=32/\(∀t∈q.toList,t.oneCell'=true)/\∀u,u<32->Wr r ((⟨w.heap.size,0,none⟩:Addr).add u))/\let v:=setCells r (⟨w.heap.size,0,none⟩:Addr) q.toList 0;let x:=v.alloc (.map #[] 0);let y:=x.alloc (.cells (#[.map none]:AV) 89);Wr y (⟨x.heap.size,0,none⟩:Addr)/\let z:=y.setCell (⟨x.heap.size,0,none⟩:Addr) (.map (some v.heap.size));∃a1:AV,(a1.size=32/\Cells z (⟨w.heap.size,0,none⟩:Addr) a1)/\bj prog 73 #[.agg a1,.func (.func 77) #[] #[.pointer (some i),.pointer (some (⟨x.heap.size,0,none⟩:Addr)),.pointer (some a)],.pointer (some e),.pointer (some f),.pointer (some g)] z fun b1 c1=>∃d1:Bool,b1=.bool d1/\let e1:=c1.drew;∃f1:OA,e1.cell? c=some (.pointer f1)/\∃g1:OA,e1.cell? c=some (.pointer g1)/\Is g1 fun i1:Addr=>∃j1:OA,∃k1 m1:Nat,e1.cell? ((i1.add 0).add 34)=some (.slice j1 k1 m1)/\let n1:=e1.alloc (.cells #[.bool d1] 4);n1.cell? ((i1.add 0).add 34)=some (.slice j1 k1 m1)/\n1.cell? c=some (.pointer g1)/\n1.cell? c=some (.pointer f1)/\∃(o1:OA) (p1 q1:Nat) (r1:World),(Builtin.append_ #[50,50] 50 #[.slice j1 k1 m1,.slice (some (⟨e1.heap.size,0,none⟩:Addr)) 1 1]).run prog n1=.ok (.slice o1 p1 q1) r1/\r1.cell? c=some (.pointer f1)/\Is f1 fun t1:Addr=>Wr r1 ((t1.add 0).add 34)/\let u1:=r1.setCell ((t1.add 0).add 34) (.slice o1 p1 q1);Split (!d1) (Q .normal [(3,.pointer (some a)),(6,.pointer b),(8,.pointer (some c)),(11,.pointer (some d)),(12,.func (.func 73) #[] #[.pointer (some e),.pointer (some f),.pointer (some g)]),(13,.pointer (some i)),(92,.slice j k m),(93,.int .i64 n),(94,.int .i64 (i64.wrap (o+(1:Int))))] u1) (∃v1:OA,u1.cell? c=some (.pointer v1)/\Is v1 fun x1:Addr=>∃y1:Int,u1.cell? ((x1.add 0).add 32)=some (.int .u64 y1)/\Is v1 fun z1:Addr=>Wr u1 ((z1.add 0).add 32)/\let a2:=u1.setCell ((z1.add 0).add 32) (.int .u64 (u64.wrap (y1+(1:Int))));let b2:=a2.drew;∃c2:OA,b2.cell? c=some (.pointer c2)/\Is c2 fun d2:Addr=>∃e2:Option Nat,b2.cell? (d2.add 35)=some (.map e2)/\∃f2:AV,(f2.size=32/\Cells b2 (⟨w.heap.size,0,none⟩:Addr) f2)/\∃g2:Option Nat,b2.cell? (⟨x.heap.size,0,none⟩:Addr)=some (.map g2)/\∃i2:Nat,(Builtin.len_ #[89] 3 #[.map g2]).run prog b2=.ok (.int .i64 (i2:Int)) b2/\∃j2:World,(Instr.mapUpdate 89 (.map e2) (.agg f2) (.int .i64 (i2:Int))).run prog b2=.ok () j2/\∃k2:Option Nat,j2.cell? (⟨x.heap.size,0,none⟩:Addr)=some (.map k2)/\∃(m2:OA) (n2:World),(Instr.range 89 (.map k2)).run prog j2=.ok (.pointer m2) n2/\Holds none [] prog 153 (.loop (lB (bB (sR (sL (sR (sR (sR (sR (sR (sR (sR (bB (sL (sR (sR (lB (bB (sR (sL (sR (sR (sR (sR (sR (sR (sR (sR (body f42))))))))))))))))))))))))))))) (ai.q3 Q) [(3,.pointer (some a)),(6,.pointer b),(8,.pointer (some c)),(11,.pointer (some d)),(12,.func (.func 73) #[] #[.pointer (some e),.pointer (some f),.pointer (some g)]),(13,.pointer (some i)),(15,.pointer (some (⟨w.heap.size,0,none⟩:Addr))),(92,.slice j k m),(93,.int .i64 n),(94,.int .i64 o),(134,.pointer m2)] n2)) (Q (.exit 2) [(3,.pointer (some a)),(6,.pointer b),(8,.pointer (some c)),(11,.pointer (some d)),(12,.func (.func 73) #[] #[.pointer (some e),.pointer (some f),.pointer (some g)]),(13,.pointer (some i)),(92,.slice j k m),(93,.int .i64 n),(94,.int .i64 o)] w)
theorem ai.b2:(aU none [] prog 153 ai.k (lB (bB (sR (sL (sR (sR (sR (sR (sR (sR (sR (sR (body f42))))))))))))) ai.u2 Q [(3,.pointer (some a)),(6,.pointer b),(8,.pointer (some c)),(11,.pointer (some d)),(12,.func (.func 73) #[] #[.pointer (some e),.pointer (some f),.pointer (some g)]),(13,.pointer (some i)),(92,.slice j k m),(93,.int .i64 n),(94,.int .i64 o)] w)=ai.B2 a b c d e f g i j k m n o Q w:=by kernel_rfl
variable{a b c d e f g i j k m n}
theorem ai.gI(I:Int->World->Prop)(μ:Int->World->Nat)(s:Int){Q:aM}{w:World}(h0:I s w)
 (round:∀s w,I s w->ai.B2 a b c d e f g i j k m n s (bH (ai.e2 a b c d e f g i j k m n) I μ s w Q) w):Holds none [] prog 153 (.loop (lB (bB (sR (sL (sR (sR (sR (sR (sR (sR (sR (sR (body f42)))))))))))))) Q (ai.e2 a b c d e f g i j k m n s) w:=
 ba ng mix (ai.e2 a b c d e f g i j k m n) I μ ai.k ai.u2 s (fun s Q w=>ai.B2 a b c d e f g i j k m n s Q w) (fun s Q w=>ai.b2 a b c d e f g i j k m n s Q w) h0 round
end
section
def ai.iE(a:Addr)(b:OA)(c d e f g i:Addr)(j:OA)(k m:Nat)(n o:Int)(K:KT)(w:World):Prop:=
 ∃p:OA,w.cell? c=some (.pointer p)/\K (.pointer p) w
variable(a:Addr)(b:OA)(c d e f g i:Addr)(j:OA)(k m:Nat)(n o:Int)(K:KT)(w:World)
theorem ai.jJ:(ai.q2 K (.exit 2) [(3,.pointer (some a)),(6,.pointer b),(8,.pointer (some c)),(11,.pointer (some d)),(12,.func (.func 73) #[] #[.pointer (some e),.pointer (some f),.pointer (some g)]),(13,.pointer (some i)),(92,.slice j k m),(93,.int .i64 n),(94,.int .i64 o)] w)=ai.iE a b c d e f g i j k m n o K w:=by kernel_rfl
end
section
variable(a:Addr)(b:OA)(c d e f g i j:Addr)(k:OA)(m n:Nat)(o p:Int)(q:OA)(Q:aM)(w:World)
def ai.B3:Prop:=
 (∃r:World,(Instr.next (.pointer q) false 0).run prog w=.ok (.tuple #[.bool false]) r/\Q (.exit 4) [(3,.pointer (some a)),(6,.pointer b),(8,.pointer (some c)),(11,.pointer (some d)),(12,.func (.func 73) #[] #[.pointer (some e),.pointer (some f),.pointer (some g)]),(13,.pointer (some i)),(15,.pointer (some j)),(92,.slice k m n),(93,.int .i64 o),(94,.int .i64 p),(134,.pointer q)] r)\/∃(t u:Value) (v:World),(Instr.next (.pointer q) false 0).run prog w=.ok (.tuple #[.bool true,t,u]) v/\∃x:AV,∃y:Int,(Instr.entry (.pointer q)).run prog v=.ok (.tuple #[.agg x,.int .i64 y]) v/\let z:=v.alloc (.cells zH 23);(x.size=32/\(∀a1∈x.toList,a1.oneCell'=true)/\∀b1,b1<32->Wr z ((⟨v.heap.size,0,none⟩:Addr).add b1))/\let c1:=setCells z (⟨v.heap.size,0,none⟩:Addr) x.toList 0;let d1:=c1.drew;∃e1:OA,d1.cell? c=some (.pointer e1)/\Is e1 fun f1:Addr=>∃g1:Option Nat,d1.cell? (f1.add 35)=some (.map g1)/\∃i1:AV,(i1.size=32/\Cells d1 (⟨v.heap.size,0,none⟩:Addr) i1)/\∃j1:World,(Instr.mapUpdate 89 (.map g1) (.agg i1) (.int .i64 (i64.wrap (y+(1:Int))))).run prog d1=.ok () j1/\Q .normal [(3,.pointer (some a)),(6,.pointer b),(8,.pointer (some c)),(11,.pointer (some d)),(12,.func (.func 73) #[] #[.pointer (some e),.pointer (some f),.pointer (some g)]),(13,.pointer (some i)),(15,.pointer (some j)),(92,.slice k m n),(93,.int .i64 o),(94,.int .i64 p),(134,.pointer q)] j1
theorem ai.b3:(aU none [] prog 153 ai.k (lB (bB (sR (sL (sR (sR (sR (sR (sR (sR (sR (bB (sL (sR (sR (lB (bB (sR (sL (sR (sR (sR (sR (sR (sR (sR (sR (body f42)))))))))))))))))))))))))))) ai.u3 Q [(3,.pointer (some a)),(6,.pointer b),(8,.pointer (some c)),(11,.pointer (some d)),(12,.func (.func 73) #[] #[.pointer (some e),.pointer (some f),.pointer (some g)]),(13,.pointer (some i)),(15,.pointer (some j)),(92,.slice k m n),(93,.int .i64 o),(94,.int .i64 p),(134,.pointer q)] w)=ai.B3 a b c d e f g i j k m n o p q Q w:=by kernel_rfl
variable{a b c d e f g i j k m n o p q}
theorem ai.rr(I:Unit->World->Prop)(μ:Unit->World->Nat)(s:Unit){Q:aM}{w:World}(h0:I s w)
 (round:∀s w,I s w->ai.B3 a b c d e f g i j k m n o p q (bH (ai.e3 a b c d e f g i j k m n o p q) I μ s w Q) w):Holds none [] prog 153 (.loop (lB (bB (sR (sL (sR (sR (sR (sR (sR (sR (sR (bB (sL (sR (sR (lB (bB (sR (sL (sR (sR (sR (sR (sR (sR (sR (sR (body f42))))))))))))))))))))))))))))) Q (ai.e3 a b c d e f g i j k m n o p q s) w:=
 ba ng mix (ai.e3 a b c d e f g i j k m n o p q) I μ ai.k ai.u3 s (fun s Q w=>ai.B3 a b c d e f g i j k m n o p q Q w) (fun s Q w=>ai.b3 a b c d e f g i j k m n o p q Q w) h0 round
end
section
def ai.rU(a:Addr)(b:OA)(c d e f g i j:Addr)(k:OA)(m n:Nat)(o p:Int)(q:OA)(Q:aM)(w:World):Prop:=
 ∃r:OA,∃t u:Nat,w.cell? d=some (.slice r t u)/\∃v:AV,(v.size=32/\Cells w j v)/\v.size=32/\let x:=w.alloc (.cells (v.toList++ []).toArray 23);∃(y:OA) (z a1:Nat) (b1:World),(Builtin.append_ #[35,35] 35 #[.slice r t u,.slice (some (⟨w.heap.size,0,none⟩:Addr)) 1 1]).run prog x=.ok (.slice y z a1) b1/\Wr b1 d/\let c1:=b1.setCell d (.slice y z a1);Q .normal [(3,.pointer (some a)),(6,.pointer b),(8,.pointer (some c)),(11,.pointer (some d)),(12,.func (.func 73) #[] #[.pointer (some e),.pointer (some f),.pointer (some g)]),(13,.pointer (some i)),(92,.slice k m n),(93,.int .i64 o),(94,.int .i64 (i64.wrap (p+(1:Int))))] c1
variable(a:Addr)(b:OA)(c d e f g i j:Addr)(k:OA)(m n:Nat)(o p:Int)(q:OA)(Q:aM)(w:World)
theorem ai.xD:(ai.q3 Q (.exit 4) [(3,.pointer (some a)),(6,.pointer b),(8,.pointer (some c)),(11,.pointer (some d)),(12,.func (.func 73) #[] #[.pointer (some e),.pointer (some f),.pointer (some g)]),(13,.pointer (some i)),(15,.pointer (some j)),(92,.slice k m n),(93,.int .i64 o),(94,.int .i64 p),(134,.pointer q)] w)=ai.rU a b c d e f g i j k m n o p q Q w:=by kernel_rfl
end
def gK.k:List Nat:= []
section
variable(a:AV)(K:KT)(w:World)
def gK.W:Prop:=
 let b:=w.alloc (.cells a 52);let d:=b.alloc (.cells zC 52);let e:=d.drew;∃f:OA,∃g i:Nat,e.cell? ((⟨w.heap.size,0,none⟩:Addr).add 33)=some (.slice f g i)/\∃j:OA,∃k m:Nat,e.cell? ((⟨w.heap.size,0,none⟩:Addr).add 34)=some (.slice j k m)/\bj prog 83 #[.slice f g i] e fun n o=>∃p:OA,∃q r:Nat,n=.slice p q r/\o.cell? ((⟨w.heap.size,0,none⟩:Addr).add 34)=some (.slice j k m)/\bj prog 84 #[.slice j k m] o fun t u=>∃v:OA,∃x y:Nat,t=.slice v x y/\Wr u ((⟨w.heap.size,0,none⟩:Addr).add 33)/\let z:=u.setCell ((⟨w.heap.size,0,none⟩:Addr).add 33) (.slice p q r);Wr z ((⟨w.heap.size,0,none⟩:Addr).add 34)/\let a1:=z.setCell ((⟨w.heap.size,0,none⟩:Addr).add 34) (.slice v x y);∃b1:AV,(b1.size=35/\Cells a1 (⟨w.heap.size,0,none⟩:Addr) b1)/\(b1.size=35/\(∀c1∈b1.toList,c1.oneCell'=true)/\∀d1,d1<35->Wr a1 ((⟨b.heap.size,0,none⟩:Addr).add d1))/\let e1:=setCells a1 (⟨b.heap.size,0,none⟩:Addr) b1.toList 0;∃f1:AV,(f1.size=35/\Cells e1 (⟨b.heap.size,0,none⟩:Addr) f1)/\K (.agg f1) e1
variable{a K w}
theorem gK.of(h:gK.W a K w):bj prog 44 #[.agg a] w K:=
 rqq func44 (C:=gK.k) h
end
def eB.k:List Nat:= []
section
variable(a b:OA)(d e:Nat)(K:KT)(w:World)
def eB.W:Prop:=
 let f:=w.alloc (.cells (#[.pointer a]:AV) 28);∃g:OA,f.cell? (⟨w.heap.size,0,none⟩:Addr)=some (.pointer g)/\bj prog 40 #[.pointer g] f fun i j=>∃k:Bool,i=.bool k/\Split (!k) (K (.int .i64 1) j) (Split ((d:Int)==(0:Int)) (K (.int .i64 9) j) (bj prog 85 #[.slice b d e,.func (.func 86) #[] #[.pointer (some (⟨w.heap.size,0,none⟩:Addr))]] j fun m n=>∃o:Bool,m=.bool o/\Split o (K (.int .i64 6) n) (K (.int .i64 0) n)))
variable{a b d e K w}
theorem eB.of(h:eB.W a b d e K w):bj prog 45 #[.pointer a,.slice b d e] w K:=
 rqq func45 (C:=eB.k) h
end
def bp.k:List Nat:= []
section
variable(a:OA)(b d:AV)(K:KT)(w:World)
def bp.W:Prop:=
 let e:=w.alloc (.cells b 23);let f:=e.alloc (.cells d 23);let g:=f.drew;Is a fun i:Addr=>∃j:Option Nat,g.cell? (i.add 2)=some (.map j)/\∃k:AV,(k.size=32/\Cells g (⟨w.heap.size,0,none⟩:Addr) k)/\∃m:OA,(Instr.lookup 80 (.map j) (.agg k) false).run prog g=.ok (.pointer m) g/\Is m fun n:Addr=>∃o:Int,g.cell? ((n.add 0).add 32)=some (.int .u64 o)/\Is a fun p:Addr=>∃q:Option Nat,g.cell? (p.add 2)=some (.map q)/\∃r:AV,(r.size=32/\Cells g (⟨e.heap.size,0,none⟩:Addr) r)/\∃t:OA,(Instr.lookup 80 (.map q) (.agg r) false).run prog g=.ok (.pointer t) g/\Is t fun u:Addr=>∃v:Int,g.cell? ((u.add 0).add 32)=some (.int .u64 v)/\∃x:AV,(x.size=32/\Cells g (⟨w.heap.size,0,none⟩:Addr) x)/\∃y:AV,(y.size=32/\Cells g (⟨e.heap.size,0,none⟩:Addr) y)/\bj prog 88 #[.int .u64 o,.int .u64 v] g fun z a1=>∃b1:Int,z=.int .i64 b1/\(∃cs:AV,(.agg y:Value)=.agg cs/\cs.size=32/\Cells a1 (⟨e.heap.size,0,none⟩:Addr) cs)/\(∃cs:AV,(.agg x:Value)=.agg cs/\cs.size=32/\Cells a1 (⟨w.heap.size,0,none⟩:Addr) cs)/\bj prog 69 #[.agg x,.agg y] a1 fun c1 d1=>∃e1:Int,c1=.int .i64 e1/\let f1:=d1.alloc (.cells #[.int .i64 b1,.int .i64 e1] 3);bj prog 87 #[.slice (some (⟨d1.heap.size,0,none⟩:Addr)) 2 2] f1 fun g1 i1=>∃j1:Int,g1=.int .i64 j1/\K (.int .i64 j1) i1
variable{a b d K w}
theorem bp.of(h:bp.W a b d K w):bj prog 47 #[.pointer a,.agg b,.agg d] w K:=
 rqq func47 (C:=bp.k) h
end
def c9.k:List Nat:= []
section
variable(a:OA)(b d:AV)(K:KT)(w:World)
def c9.W:Prop:=
 let e:=w.alloc (.cells b 23);let f:=e.alloc (.cells d 23);let g:=f.drew;∃i:AV,(i.size=32/\Cells g (⟨w.heap.size,0,none⟩:Addr) i)/\∃j:AV,(j.size=32/\Cells g (⟨e.heap.size,0,none⟩:Addr) j)/\(dP .u8 32 i/\dP .u8 32 j)/\Split (!(eT i j)) (Is a fun k:Addr=>∃m:OA,g.cell? (k.add 1)=some (.pointer m)/\∃n:AV,(n.size=32/\Cells g (⟨w.heap.size,0,none⟩:Addr) n)/\∃o:AV,(o.size=32/\Cells g (⟨e.heap.size,0,none⟩:Addr) o)/\bj prog 71 #[.pointer m,.agg n,.agg o] g fun p q=>∃r:Bool,p=.bool r/\Split (!r) (Is a fun t:Addr=>∃u:OA,q.cell? (t.add 1)=some (.pointer u)/\∃v:AV,(v.size=32/\Cells q (⟨e.heap.size,0,none⟩:Addr) v)/\∃x:AV,(x.size=32/\Cells q (⟨w.heap.size,0,none⟩:Addr) x)/\bj prog 71 #[.pointer u,.agg v,.agg x] q fun y z=>∃a1:Bool,y=.bool a1/\K (.bool (!a1)) z) (K (.bool false) q)) (K (.bool false) g)
variable{a b d K w}
theorem c9.of(h:c9.W a b d K w):bj prog 74 #[.pointer a,.agg b,.agg d] w K:=
 rqq func74 (C:=c9.k) h
end
def bR.k:List Nat:= []
section
variable(a:AV)(b d e:Addr)(K:KT)(w:World)
def bR.W:Prop:=
 let f:=w.alloc (.cells a 23);let g:=f.drew;∃i:OA,g.cell? b=some (.pointer i)/\Is i fun j:Addr=>∃k:Option Nat,g.cell? (j.add 35)=some (.map k)/\∃m:AV,(m.size=32/\Cells g (⟨w.heap.size,0,none⟩:Addr) m)/\∃n:Int,∃o:Bool,(Instr.lookup 89 (.map k) (.agg m) true).run prog g=.ok (.tuple #[.int .i64 n,.bool o]) g/\Split o (K (.int .i64 n) g) (∃p:OA,g.cell? d=some (.pointer p)/\∃q:AV,(q.size=32/\Cells g e q)/\∃r:AV,(r.size=32/\Cells g (⟨w.heap.size,0,none⟩:Addr) r)/\bj prog 76 #[.pointer p,.agg q,.agg r] g fun t u=>∃v:Int,t=.int .i64 v/\K (.int .i64 v) u)
variable{a b d e K w}
theorem bR.of(h:bR.W a b d e K w):bj prog 75 #[.agg a,.pointer (some b),.pointer (some d),.pointer (some e)] w K:=
 rqq func75 (C:=bR.k) h
end
def ck.k:List Nat:= []
section
variable(a:AV)(b d e:Addr)(K:KT)(w:World)
def ck.W:Prop:=
 let f:=w.alloc (.cells a 23);let g:=f.drew;∃i:Option Nat,g.cell? d=some (.map i)/\∃j:AV,(j.size=32/\Cells g (⟨w.heap.size,0,none⟩:Addr) j)/\∃k:Value,g.cell? b=some (k)/\∃m:AV,(m.size=32/\Cells g (⟨w.heap.size,0,none⟩:Addr) m)/\∃(n:Nat) (o p:AV) (q:Func),(k:Value)=.func (.func n) o p/\prog.funcs[n]? =some q/\q.body.isSome=true/\bj prog n (o.toList++([.agg m]:List Value)++p.toList).toArray g fun r t=>∃u:Int,r=.int .i64 u/\(∃cs:AV,(.agg j:Value)=.agg cs/\cs.size=32/\Cells t (⟨w.heap.size,0,none⟩:Addr) cs)/\t.cell? d=some (.map i)/\∃v:World,(Instr.mapUpdate 89 (.map i) (.agg j) (.int .i64 u)).run prog t=.ok () v/\let x:=v.drew;∃y:Option Nat,x.cell? d=some (.map y)/\∃z:Nat,(Builtin.len_ #[89] 3 #[.map y]).run prog x=.ok (.int .i64 (z:Int)) x/\∃a1:OA,x.cell? e=some (.pointer a1)/\Is a1 fun b1:Addr=>∃c1:Int,x.cell? (b1.add 0)=some (.int .i64 c1)/\Split (decide ((z:Int)<=c1)) (∃d1:Option Nat,x.cell? d=some (.map d1)/\∃e1:AV,(e1.size=32/\Cells x (⟨w.heap.size,0,none⟩:Addr) e1)/\∃f1:Int,(Instr.lookup 89 (.map d1) (.agg e1) false).run prog x=.ok (.int .i64 f1) x/\∃g1:OA,x.cell? e=some (.pointer g1)/\Is g1 fun i1:Addr=>∃j1:Int,x.cell? (i1.add 0)=some (.int .i64 j1)/\K (.bool (decide (f1<j1))) x) (K (.bool false) x)
variable{a b d e K w}
theorem ck.of(h:ck.W a b d e K w):bj prog 77 #[.agg a,.pointer (some b),.pointer (some d),.pointer (some e)] w K:=
 rqq func77 (C:=ck.k) h
end
def dK.k:List Nat:= []
section
variable(a:OA)(b d:Nat)(K:KT)(w:World)
def dK.W:Prop:=
 Split ((a).isNone) (K (.slice none 0 0) w) (let e:=w.alloc (.cells #[] 4);∃(f:OA) (g i:Nat) (j:World),(Builtin.append_ #[50,50] 50 #[.slice (some (⟨w.heap.size,0,none⟩:Addr)) 0 0,.slice a b d]).run prog e=.ok (.slice f g i) j/\K (.slice f g i) j)
variable{a b d K w}
theorem dK.of(h:dK.W a b d K w):bj prog 84 #[.slice a b d] w K:=
 rqq func84 (C:=dK.k) h
end
def eJ.k:List Nat:= []
section
variable(a:AV)(b:Addr)(K:KT)(w:World)
def eJ.W:Prop:=
 let d:=w.alloc (.cells a 23);let e:=d.drew;∃f:OA,e.cell? b=some (.pointer f)/\Is f fun g:Addr=>∃i:Option Nat,e.cell? (g.add 2)=some (.map i)/\∃j:AV,(j.size=32/\Cells e (⟨w.heap.size,0,none⟩:Addr) j)/\∃k:OA,(Instr.lookup 80 (.map i) (.agg j) false).run prog e=.ok (.pointer k) e/\K (.bool ((k).isNone)) e
variable{a b K w}
theorem eJ.of(h:eJ.W a b K w):bj prog 86 #[.agg a,.pointer (some b)] w K:=
 rqq func86 (C:=eJ.k) h
end
def bG.k:List Nat:= []
def bG.q1(K:KT):aM:=(aL 0 (b7 (sR (sR (sR (body f87))))++(aN f87)) (bQ (fun bV w_=>match cutAt bG.k (sR (sR (sR (body f87))))with|true=>Holds none [] prog 18 (sR (sR (sR (body f87)))) (bI prog f87 K) bV w_|false=>aU none [] prog 18 bG.k (sR (sR (sR (body f87)))) (aN f87) (bI prog f87 K) bV w_) (bI prog f87 K)))
def bG.e1(a:Int)(b:OA)(c d:Nat)(e:Int)(s:Int×Int):Env:= [(2,.int .i64 s.1),(3,.int .i64 a),(6,.slice b c d),(7,.int .i64 e),(8,.int .i64 s.2)]
def bG.u1:List Nat:= [2,3,6,7,8]
section
variable(a:OA)(b d:Nat)(K:KT)(w:World)
def bG.W:Prop:=
 Holds none [] prog 18 (.loop (lB (bB (sR (sL (sR (sR (body f87)))))))) (bG.q1 K) [(2,.int .i64 0),(3,.int .i64 0),(6,.slice a b d),(7,.int .i64 (b:Int)),(8,.int .i64 0)] w
variable{a b d K w}
theorem bG.of(h:bG.W a b d K w):bj prog 87 #[.slice a b d] w K:=
 rqq func87 (C:=bG.k) h
end
section
variable(a b:Int)(c:OA)(d e:Nat)(f g:Int)(Q:aM)(w:World)
def bG.B1:Prop:=
 Split (decide (g<f)) ((0<=g/\g<(d:Int))/\Is c fun i:Addr=>∃j:Int,w.cell? (i.add (g.toNat*1))=some (.int .i64 j)/\Split (j != b) (Q .ret [(2,.int .i64 j),(3,.int .i64 b),(6,.slice c d e),(7,.int .i64 f),(8,.int .i64 g)] w) (Q .normal [(2,.int .i64 a),(3,.int .i64 b),(6,.slice c d e),(7,.int .i64 f),(8,.int .i64 (i64.wrap (g+(1:Int))))] w)) (Q (.exit 0) [(2,.int .i64 a),(3,.int .i64 b),(6,.slice c d e),(7,.int .i64 f),(8,.int .i64 g)] w)
theorem bG.b1:(aU none [] prog 18 bG.k (lB (bB (sR (sL (sR (sR (body f87))))))) bG.u1 Q [(2,.int .i64 a),(3,.int .i64 b),(6,.slice c d e),(7,.int .i64 f),(8,.int .i64 g)] w)=bG.B1 a b c d e f g Q w:=by kernel_rfl
variable{b c d e f}
theorem bG.b6(I:Int×Int->World->Prop)(μ:Int×Int->World->Nat)(s:Int×Int){Q:aM}{w:World}(h0:I s w)
 (round:∀s w,I s w->bG.B1 (s.1) b c d e f (s.2) (bH (bG.e1 b c d e f) I μ s w Q) w):Holds none [] prog 18 (.loop (lB (bB (sR (sL (sR (sR (body f87)))))))) Q (bG.e1 b c d e f s) w:=
 ba ng mix (bG.e1 b c d e f) I μ bG.k bG.u1 s (fun s Q w=>bG.B1 (s.1) b c d e f (s.2) Q w) (fun s Q w=>bG.b1 (s.1) b c d e f (s.2) Q w) h0 round
end
section
def bG.cI(a b:Int)(c:OA)(d e:Nat)(f g:Int)(K:KT)(w:World):Prop:=
 K (.int .i64 b) w
variable(a b:Int)(c:OA)(d e:Nat)(f g:Int)(K:KT)(w:World)
theorem bG.cX:(bG.q1 K (.exit 0) [(2,.int .i64 a),(3,.int .i64 b),(6,.slice c d e),(7,.int .i64 f),(8,.int .i64 g)] w)=bG.cI a b c d e f g K w:=by kernel_rfl
end
def dC.k:List Nat:= []
section
variable(a b:Int)(K:KT)(w:World)
def dC.W:Prop:=
 bj prog 114 #[.int .u64 a] w fun d e=>∃f:Bool,d=.bool f/\bj prog 114 #[.int .u64 b] e fun g i=>∃j:Bool,g=.bool j/\Split f (Split j (K (.int .i64 0) i) (K (.int .i64 (-1)) i)) (Split j (K (.int .i64 1) i) (Split (decide (a<b)) (K (.int .i64 (-1)) i) (Split (decide (a>b)) (K (.int .i64 1) i) (K (.int .i64 0) i))))
variable{a b K w}
theorem dC.of(h:dC.W a b K w):bj prog 88 #[.int .u64 a,.int .u64 b] w K:=
 rqq func88 (C:=dC.k) h
end
def ft.k:List Nat:= []
section
variable(a:Int)(K:KT)(w:World)
def ft.W:Prop:=
 K (.bool (a != a)) w
variable{a K w}
theorem ft.of(h:ft.W a K w):bj prog 114 #[.int .u64 a] w K:=
 rqq func114 (C:=ft.k) h
end
section
variable(a:OA)(b:AV)(K:KT)(w:World)
variable{a b K w}
end
section
variable(l:Nat)(a b:Addr)(c:OA)(d e:Nat)(f:Int)(g:Addr)(i:Value)(j:AV)(Q:aM)(w:World)
end
section
variable(l:Nat)(a b c d:Addr)(Q:aM)(w:World)
end
section
variable(a b:Addr)(c:OA)(d e:Nat)(f:Int)(g:Addr)(i:Value)(ms:AV)(K:KT)(w:World)
end
section
variable(l:Nat)(a b:Addr)(c:OA)(d e:Nat)(f g:Int)(Q:aM)(w:World)
variable{l a b c d e f}
end
section
variable(l:Nat)(a b:Addr)(c:OA)(d e:Nat)(f g:Int)(Q:aM)(w:World)
end
def aZ.k:List Nat:= []
def aZ.E0(K:KT):aM:=(aL 0 (b7 (sR (sR (body f76)))++(aN f76)) (bQ (fun bV w_=>match cutAt aZ.k (sR (sR (body f76)))with|true=>Holds none [] prog 33 (sR (sR (body f76))) (bI prog f76 K) bV w_|false=>aU none [] prog 33 aZ.k (sR (sR (body f76))) (aN f76) (bI prog f76 K) bV w_) (bI prog f76 K)))
section
variable(a:OA)(b d:AV)(K:KT)(w:World)
def aZ.W:Prop:=
 let e:=w.alloc (.cells (#[.pointer a]:AV) 28);let f:=e.alloc (.cells b 23);let g:=f.alloc (.cells d 23);let i:=g.alloc (.cells (#[.int .i64 0]:AV) 3);let j:=i.drew;∃k:OA,j.cell? (⟨w.heap.size,0,none⟩:Addr)=some (.pointer k)/\Is k fun m:Addr=>∃n:OA,j.cell? (m.add 1)=some (.pointer n)/\∃o:AV,(o.size=32/\Cells j (⟨e.heap.size,0,none⟩:Addr) o)/\bj prog 53 #[.pointer n,.agg o] j fun p q=>∃r:Value,p=r/\Holds none [] prog 33 (bB (sR (sL (sR (body f76))))) (aZ.E0 K) [(3,.pointer (some (⟨w.heap.size,0,none⟩:Addr))),(5,.pointer (some (⟨f.heap.size,0,none⟩:Addr))),(6,.pointer (some (⟨g.heap.size,0,none⟩:Addr))),(15,r)] q
variable{a b d K w}
theorem aZ.of(h:aZ.W a b d K w):bj prog 76 #[.pointer a,.agg b,.agg d] w K:=
 rqq func76 (C:=aZ.k) h
end
section
def aZ.A1(l:Nat)(a b c:Addr)(d:Value)(e:AV)(Q:aM)(w:World):Prop:=
 let f:=w.alloc (.cells zH 23);(e.size=32/\(∀g∈e.toList,g.oneCell'=true)/\∀i,i<32->Wr f ((⟨w.heap.size,0,none⟩:Addr).add i))/\let j:=setCells f (⟨w.heap.size,0,none⟩:Addr) e.toList 0;Q .normal [(3,.pointer (some a)),(5,.pointer (some b)),(6,.pointer (some c)),(7,.pointer (some (⟨w.heap.size,0,none⟩:Addr)))] j
variable(l:Nat)(a b c:Addr)(d:Value)(e:AV)(Q:aM)(w:World)
theorem aZ.a1:(aU (some l) [] prog 33 aZ.k (rA (bB (sR (sL (sR (body f76)))))) (b7 (rB (bB (sR (sL (sR (body f76))))))) Q [(3,.pointer (some a)),(5,.pointer (some b)),(6,.pointer (some c)),(15,d),(16,.agg e)] w)=aZ.A1 l a b c d e Q w:=by kernel_rfl
end
section
def aZ.Y1(l:Nat)(a b c d:Addr)(Q:aM)(w:World):Prop:=
 let e:=w.drew;∃f:OA,e.cell? a=some (.pointer f)/\Is f fun g:Addr=>∃i:Option Nat,e.cell? (g.add 2)=some (.map i)/\∃j:AV,(j.size=32/\Cells e d j)/\∃k:OA,(Instr.lookup 80 (.map i) (.agg j) false).run prog e=.ok (.pointer k) e/\Is k fun m:Addr=>∃n:Option Nat,e.cell? (m.add 35)=some (.map n)/\∃o:AV,(o.size=32/\Cells e b o)/\∃p:Int,∃q:Bool,(Instr.lookup 89 (.map n) (.agg o) true).run prog e=.ok (.tuple #[.int .i64 p,.bool q]) e/\Split q (Wr e c/\let r:=e.setCell c (.int .i64 p);Q .ret [] r) (Q .normal [] e)
variable(l:Nat)(a b c d:Addr)(Q:aM)(w:World)
theorem aZ.y1:(aU (some l) [] prog 33 aZ.k (rB (bB (sR (sL (sR (body f76)))))) [] Q [(3,.pointer (some a)),(5,.pointer (some b)),(6,.pointer (some c)),(7,.pointer (some d))] w)=aZ.Y1 l a b c d Q w:=by kernel_rfl
end
section
def aZ.jf(a b c:Addr)(d:Value)(ms:AV)(K:KT)(w:World):Prop:=
 Wr w c/\let e:=w.setCell c (.int .i64 0);kL (marksOf (.agg ms)) e/\∃f:Int,(gm (marksOf (.agg ms)) e).cell? c=some (.int .i64 f)/\K (.int .i64 f) (gm (marksOf (.agg ms)) e)
variable(a b c:Addr)(d:Value)(ms:AV)(K:KT)(w:World)
theorem aZ.jZ:(aZ.E0 K .normal [(3,.pointer (some a)),(5,.pointer (some b)),(6,.pointer (some c)),(15,d),(4294967296,.agg ms)] w)=aZ.jf a b c d ms K w:=by kernel_rfl
end
section
def aZ.vC(a b c:Addr)(d:Value)(ms:AV)(K:KT)(w:World):Prop:=
 kL (marksOf (.agg ms)) w/\∃e:Int,(gm (marksOf (.agg ms)) w).cell? c=some (.int .i64 e)/\K (.int .i64 e) (gm (marksOf (.agg ms)) w)
variable(a b c:Addr)(d:Value)(ms:AV)(K:KT)(w:World)
theorem aZ.Bq:(aZ.E0 K .ret [(3,.pointer (some a)),(5,.pointer (some b)),(6,.pointer (some c)),(15,d),(4294967296,.agg ms)] w)=aZ.vC a b c d ms K w:=by kernel_rfl
end
def ag.k:List Nat:= []
def ag.q1(K:KT):aM:=(aL 0 (b7 (sR (sR (body f73)))++(aN f73)) (bQ (fun bV w_=>match cutAt ag.k (sR (sR (body f73)))with|true=>Holds none [] prog 90 (sR (sR (body f73))) (bI prog f73 K) bV w_|false=>aU none [] prog 90 ag.k (sR (sR (body f73))) (aN f73) (bI prog f73 K) bV w_) (bI prog f73 K)))
def ag.e1(a b c d e:Addr)(f:OA)(g i:Nat)(j s:Int):Env:= [(3,.pointer (some a)),(4,.pointer (some b)),(5,.pointer (some c)),(6,.pointer (some d)),(7,.pointer (some e)),(14,.slice f g i),(15,.int .i64 j),(16,.int .i64 s)]
def ag.u1:List Nat:= [3,4,5,6,7,14,15,16]
def ag.E0(K:KT):aM:=(aL 2 (b7 (sR (sR (sR (body f73))))++(aN f73)) (bQ (fun bV w_=>match cutAt ag.k (sR (sR (sR (body f73))))with|true=>Holds none [] prog 90 (sR (sR (sR (body f73)))) (bI prog f73 K) bV w_|false=>aU none [] prog 90 ag.k (sR (sR (sR (body f73)))) (aN f73) (bI prog f73 K) bV w_) (bI prog f73 K)))
def ag.q2(l:Nat)(Q:aM):aM:=(aL 4 [] (aL 3 [] Q))
def ag.e2(a b c d e:Addr)(f:OA)(g i:Nat)(j s:Int):Env:= [(3,.pointer (some a)),(5,.pointer (some b)),(6,.pointer (some c)),(7,.pointer (some d)),(11,.pointer (some e)),(65,.slice f g i),(66,.int .i64 j),(67,.int .i64 s)]
def ag.u2:List Nat:= [3,5,6,7,11,65,66,67]
section
variable(a:AV)(b:Value)(d e f:Addr)(K:KT)(w:World)
def ag.W:Prop:=
 let g:=w.alloc (.cells a 23);let i:=g.alloc (.cells b.cells 125);let j:=i.alloc (.cells (#[.bool false]:AV) 4);∃k:OA,∃m n:Nat,j.cell? d=some (.slice k m n)/\Holds none [] prog 90 (.loop (lB (bB (sR (sL (sR (body f73))))))) (ag.q1 K) [(3,.pointer (some e)),(4,.pointer (some f)),(5,.pointer (some (⟨w.heap.size,0,none⟩:Addr))),(6,.pointer (some (⟨g.heap.size,0,none⟩:Addr))),(7,.pointer (some (⟨i.heap.size,0,none⟩:Addr))),(14,.slice k m n),(15,.int .i64 (m:Int)),(16,.int .i64 0)] j
variable{a b d e f K w}
theorem ag.of(h:ag.W a b d e f K w):bj prog 73 #[.agg a,b,.pointer (some d),.pointer (some e),.pointer (some f)] w K:=
 rqq func73 (C:=ag.k) h
end
section
variable(a b c d e:Addr)(f:OA)(g i:Nat)(j k:Int)(Q:aM)(w:World)
def ag.B1:Prop:=
 Split (decide (k<j)) ((0<=k/\k<(g:Int))/\Is f fun m:Addr=>∃n:AV,(n.size=32/\Cells w (m.add (k.toNat*32)) n)/\let o:=w.alloc (.cells zH 23);(n.size=32/\(∀p∈n.toList,p.oneCell'=true)/\∀q,q<32->Wr o ((⟨w.heap.size,0,none⟩:Addr).add q))/\let r:=setCells o (⟨w.heap.size,0,none⟩:Addr) n.toList 0;∃t:OA,r.cell? a=some (.pointer t)/\∃u:AV,(u.size=32/\Cells r (⟨w.heap.size,0,none⟩:Addr) u)/\∃v:AV,(v.size=32/\Cells r c v)/\bj prog 74 #[.pointer t,.agg u,.agg v] r fun x y=>∃z:Bool,x=.bool z/\Split z (∃a1:Value,y.cell? d=some (a1)/\∃b1:AV,(b1.size=32/\Cells y (⟨w.heap.size,0,none⟩:Addr) b1)/\∃(c1:Nat) (d1 e1:AV) (f1:Func),(a1:Value)=.func (.func c1) d1 e1/\prog.funcs[c1]? =some f1/\f1.body.isSome=true/\bj prog c1 (d1.toList++([.agg b1]:List Value)++e1.toList).toArray y fun g1 i1=>∃j1:Bool,g1=.bool j1/\Split (!j1) (Wr i1 e/\let k1:=i1.setCell e (.bool false);Q .ret [(3,.pointer (some a)),(4,.pointer (some b)),(5,.pointer (some c)),(6,.pointer (some d)),(7,.pointer (some e)),(14,.slice f g i),(15,.int .i64 j),(16,.int .i64 k)] k1) (Q .normal [(3,.pointer (some a)),(4,.pointer (some b)),(5,.pointer (some c)),(6,.pointer (some d)),(7,.pointer (some e)),(14,.slice f g i),(15,.int .i64 j),(16,.int .i64 (i64.wrap (k+(1:Int))))] i1)) (Q .normal [(3,.pointer (some a)),(4,.pointer (some b)),(5,.pointer (some c)),(6,.pointer (some d)),(7,.pointer (some e)),(14,.slice f g i),(15,.int .i64 j),(16,.int .i64 (i64.wrap (k+(1:Int))))] y)) (Q (.exit 0) [(3,.pointer (some a)),(4,.pointer (some b)),(5,.pointer (some c)),(6,.pointer (some d)),(7,.pointer (some e)),(14,.slice f g i),(15,.int .i64 j),(16,.int .i64 k)] w)
theorem ag.b1:(aU none [] prog 90 ag.k (lB (bB (sR (sL (sR (body f73)))))) ag.u1 Q [(3,.pointer (some a)),(4,.pointer (some b)),(5,.pointer (some c)),(6,.pointer (some d)),(7,.pointer (some e)),(14,.slice f g i),(15,.int .i64 j),(16,.int .i64 k)] w)=ag.B1 a b c d e f g i j k Q w:=by kernel_rfl
variable{a b c d e f g i j}
theorem ag.b6(I:Int->World->Prop)(μ:Int->World->Nat)(s:Int){Q:aM}{w:World}(h0:I s w)
 (round:∀s w,I s w->ag.B1 a b c d e f g i j s (bH (ag.e1 a b c d e f g i j) I μ s w Q) w):Holds none [] prog 90 (.loop (lB (bB (sR (sL (sR (body f73))))))) Q (ag.e1 a b c d e f g i j s) w:=
 ba ng mix (ag.e1 a b c d e f g i j) I μ ag.k ag.u1 s (fun s Q w=>ag.B1 a b c d e f g i j s Q w) (fun s Q w=>ag.b1 a b c d e f g i j s Q w) h0 round
end
section
def ag.cI(a b c d e:Addr)(f:OA)(g i:Nat)(j k:Int)(K:KT)(w:World):Prop:=
 let m:=w.drew;∃n:OA,m.cell? a=some (.pointer n)/\Is n fun o:Addr=>∃p:OA,m.cell? (o.add 1)=some (.pointer p)/\∃q:AV,(q.size=32/\Cells m b q)/\bj prog 53 #[.pointer p,.agg q] m fun r t=>∃u:Value,r=u/\Holds none [] prog 90 (bB (sR (sL (sR (sR (body f73)))))) (ag.E0 K) [(3,.pointer (some a)),(5,.pointer (some c)),(6,.pointer (some d)),(7,.pointer (some e)),(36,u)] t
variable(a b c d e:Addr)(f:OA)(g i:Nat)(j k:Int)(K:KT)(w:World)
theorem ag.cX:(ag.q1 K (.exit 0) [(3,.pointer (some a)),(4,.pointer (some b)),(5,.pointer (some c)),(6,.pointer (some d)),(7,.pointer (some e)),(14,.slice f g i),(15,.int .i64 j),(16,.int .i64 k)] w)=ag.cI a b c d e f g i j k K w:=by kernel_rfl
end
section
def ag.Se(a b c d e:Addr)(f:OA)(g i:Nat)(j k:Int)(K:KT)(w:World):Prop:=
 ∃m:Bool,w.cell? e=some (.bool m)/\K (.bool m) w
variable(a b c d e:Addr)(f:OA)(g i:Nat)(j k:Int)(K:KT)(w:World)
theorem ag.Pf:(ag.q1 K .ret [(3,.pointer (some a)),(4,.pointer (some b)),(5,.pointer (some c)),(6,.pointer (some d)),(7,.pointer (some e)),(14,.slice f g i),(15,.int .i64 j),(16,.int .i64 k)] w)=ag.Se a b c d e f g i j k K w:=by kernel_rfl
end
section
def ag.A1(l:Nat)(a b c d:Addr)(e:Value)(f:AV)(Q:aM)(w:World):Prop:=
 let g:=w.alloc (.cells zH 23);(f.size=32/\(∀i∈f.toList,i.oneCell'=true)/\∀j,j<32->Wr g ((⟨w.heap.size,0,none⟩:Addr).add j))/\let k:=setCells g (⟨w.heap.size,0,none⟩:Addr) f.toList 0;Q .normal [(3,.pointer (some a)),(5,.pointer (some b)),(6,.pointer (some c)),(7,.pointer (some d)),(10,.pointer (some (⟨w.heap.size,0,none⟩:Addr)))] k
variable(l:Nat)(a b c d:Addr)(e:Value)(f:AV)(Q:aM)(w:World)
theorem ag.a1:(aU (some l) [] prog 90 ag.k (rA (bB (sR (sL (sR (sR (body f73))))))) (b7 (rB (bB (sR (sL (sR (sR (body f73)))))))) Q [(3,.pointer (some a)),(5,.pointer (some b)),(6,.pointer (some c)),(7,.pointer (some d)),(36,e),(37,.agg f)] w)=ag.A1 l a b c d e f Q w:=by kernel_rfl
end
section
variable(l:Nat)(a b c d e:Addr)(Q:aM)(w:World)
def ag.Y1:Prop:=
 ∃f:OA,w.cell? a=some (.pointer f)/\∃g:AV,(g.size=32/\Cells w e g)/\∃i:AV,(i.size=32/\Cells w b i)/\bj prog 74 #[.pointer f,.agg g,.agg i] w fun j k=>∃m:Bool,j=.bool m/\Split m (∃n:Value,k.cell? c=some (n)/\∃o:AV,(o.size=32/\Cells k e o)/\∃(p:Nat) (q r:AV) (t:Func),(n:Value)=.func (.func p) q r/\prog.funcs[p]? =some t/\t.body.isSome=true/\bj prog p (q.toList++([.agg o]:List Value)++r.toList).toArray k fun u v=>∃x:Bool,u=.bool x/\Split (!x) (Wr v d/\let y:=v.setCell d (.bool false);Q .ret [(3,.pointer (some a)),(5,.pointer (some b)),(6,.pointer (some c)),(7,.pointer (some d)),(10,.pointer (some e))] y) (let z:=v.drew;∃a1:OA,z.cell? a=some (.pointer a1)/\Is a1 fun b1:Addr=>∃c1:OA,z.cell? (b1.add 1)=some (.pointer c1)/\∃d1:AV,(d1.size=32/\Cells z e d1)/\∃e1:AV,(e1.size=32/\Cells z b e1)/\bj prog 71 #[.pointer c1,.agg d1,.agg e1] z fun f1 g1=>∃i1:Bool,f1=.bool i1/\Split i1 (Wr g1 d/\let j1:=g1.setCell d (.bool true);Q .ret [(3,.pointer (some a)),(5,.pointer (some b)),(6,.pointer (some c)),(7,.pointer (some d)),(10,.pointer (some e))] j1) (let k1:=g1.drew;∃m1:OA,k1.cell? a=some (.pointer m1)/\Is m1 fun n1:Addr=>∃o1:Option Nat,k1.cell? (n1.add 2)=some (.map o1)/\∃p1:AV,(p1.size=32/\Cells k1 e p1)/\∃q1:OA,(Instr.lookup 80 (.map o1) (.agg p1) false).run prog k1=.ok (.pointer q1) k1/\Is q1 fun r1:Addr=>∃t1:AV,(t1.size=35/\Cells k1 (r1.add 0) t1)/\let u1:=k1.alloc (.cells zC 52);(∃cs:AV,(.agg t1:Value)=.agg cs/\cs.size=35/\Cells u1 (r1.add 0) cs)/\(Instr.lookup 80 (.map o1) (.agg p1) false).run prog u1=.ok (.pointer q1) u1/\(∃cs:AV,(.agg p1:Value)=.agg cs/\cs.size=32/\Cells u1 e cs)/\u1.cell? (n1.add 2)=some (.map o1)/\u1.cell? a=some (.pointer m1)/\(t1.size=35/\(∀v1∈t1.toList,v1.oneCell'=true)/\∀x1,x1<35->Wr u1 ((⟨k1.heap.size,0,none⟩:Addr).add x1))/\let y1:=setCells u1 (⟨k1.heap.size,0,none⟩:Addr) t1.toList 0;∃z1:OA,∃a2 b2:Nat,y1.cell? ((⟨k1.heap.size,0,none⟩:Addr).add 33)=some (.slice z1 a2 b2)/\Holds (some l) [] prog 90 (.loop (lB (bB (sR (sR (sR (sR (bB (rB (bB (sR (sL (sR (sR (body f73))))))))))))))) (ag.q2 l Q) [(3,.pointer (some a)),(5,.pointer (some b)),(6,.pointer (some c)),(7,.pointer (some d)),(11,.pointer (some (⟨k1.heap.size,0,none⟩:Addr))),(65,.slice z1 a2 b2),(66,.int .i64 (a2:Int)),(67,.int .i64 0)] y1))) (let c2:=k.drew;∃d2:OA,c2.cell? a=some (.pointer d2)/\Is d2 fun e2:Addr=>∃f2:OA,c2.cell? (e2.add 1)=some (.pointer f2)/\∃g2:AV,(g2.size=32/\Cells c2 e g2)/\∃i2:AV,(i2.size=32/\Cells c2 b i2)/\bj prog 71 #[.pointer f2,.agg g2,.agg i2] c2 fun j2 k2=>∃m2:Bool,j2=.bool m2/\Split m2 (Wr k2 d/\let n2:=k2.setCell d (.bool true);Q .ret [(3,.pointer (some a)),(5,.pointer (some b)),(6,.pointer (some c)),(7,.pointer (some d)),(10,.pointer (some e))] n2) (let o2:=k2.drew;∃p2:OA,o2.cell? a=some (.pointer p2)/\Is p2 fun q2:Addr=>∃r2:Option Nat,o2.cell? (q2.add 2)=some (.map r2)/\∃t2:AV,(t2.size=32/\Cells o2 e t2)/\∃u2:OA,(Instr.lookup 80 (.map r2) (.agg t2) false).run prog o2=.ok (.pointer u2) o2/\Is u2 fun v2:Addr=>∃x2:AV,(x2.size=35/\Cells o2 (v2.add 0) x2)/\let y2:=o2.alloc (.cells zC 52);(∃cs:AV,(.agg x2:Value)=.agg cs/\cs.size=35/\Cells y2 (v2.add 0) cs)/\(Instr.lookup 80 (.map r2) (.agg t2) false).run prog y2=.ok (.pointer u2) y2/\(∃cs:AV,(.agg t2:Value)=.agg cs/\cs.size=32/\Cells y2 e cs)/\y2.cell? (q2.add 2)=some (.map r2)/\y2.cell? a=some (.pointer p2)/\(x2.size=35/\(∀z2∈x2.toList,z2.oneCell'=true)/\∀a3,a3<35->Wr y2 ((⟨o2.heap.size,0,none⟩:Addr).add a3))/\let b3:=setCells y2 (⟨o2.heap.size,0,none⟩:Addr) x2.toList 0;∃c3:OA,∃d3 e3:Nat,b3.cell? ((⟨o2.heap.size,0,none⟩:Addr).add 33)=some (.slice c3 d3 e3)/\Holds (some l) [] prog 90 (.loop (lB (bB (sR (sR (sR (sR (bB (rB (bB (sR (sL (sR (sR (body f73))))))))))))))) (ag.q2 l Q) [(3,.pointer (some a)),(5,.pointer (some b)),(6,.pointer (some c)),(7,.pointer (some d)),(11,.pointer (some (⟨o2.heap.size,0,none⟩:Addr))),(65,.slice c3 d3 e3),(66,.int .i64 (d3:Int)),(67,.int .i64 0)] b3))
theorem ag.y1:(aU (some l) [] prog 90 ag.k (rB (bB (sR (sL (sR (sR (body f73))))))) [] Q [(3,.pointer (some a)),(5,.pointer (some b)),(6,.pointer (some c)),(7,.pointer (some d)),(10,.pointer (some e))] w)=ag.Y1 l a b c d e Q w:=by kernel_rfl
end
section
def ag.jf(a b c d:Addr)(e:Value)(ms:AV)(K:KT)(w:World):Prop:=
 Wr w d/\let f:=w.setCell d (.bool true);kL (marksOf (.agg ms)) f/\∃g:Bool,(gm (marksOf (.agg ms)) f).cell? d=some (.bool g)/\K (.bool g) (gm (marksOf (.agg ms)) f)
variable(a b c d:Addr)(e:Value)(ms:AV)(K:KT)(w:World)
theorem ag.jZ:(ag.E0 K .normal [(3,.pointer (some a)),(5,.pointer (some b)),(6,.pointer (some c)),(7,.pointer (some d)),(36,e),(4294967296,.agg ms)] w)=ag.jf a b c d e ms K w:=by kernel_rfl
end
section
def ag.vC(a b c d:Addr)(e:Value)(ms:AV)(K:KT)(w:World):Prop:=
 kL (marksOf (.agg ms)) w/\∃f:Bool,(gm (marksOf (.agg ms)) w).cell? d=some (.bool f)/\K (.bool f) (gm (marksOf (.agg ms)) w)
variable(a b c d:Addr)(e:Value)(ms:AV)(K:KT)(w:World)
theorem ag.Bq:(ag.E0 K .ret [(3,.pointer (some a)),(5,.pointer (some b)),(6,.pointer (some c)),(7,.pointer (some d)),(36,e),(4294967296,.agg ms)] w)=ag.vC a b c d e ms K w:=by kernel_rfl
end
section
def ag.B2(l:Nat)(a b c d e:Addr)(f:OA)(g i:Nat)(j k:Int)(Q:aM)(w:World):Prop:=
 Split (decide (k<j)) ((0<=k/\k<(g:Int))/\Is f fun m:Addr=>∃n:AV,(n.size=32/\Cells w (m.add (k.toNat*32)) n)/\let o:=w.alloc (.cells zH 23);(n.size=32/\(∀p∈n.toList,p.oneCell'=true)/\∀q,q<32->Wr o ((⟨w.heap.size,0,none⟩:Addr).add q))/\let r:=setCells o (⟨w.heap.size,0,none⟩:Addr) n.toList 0;∃t:OA,∃u v:Nat,r.cell? (e.add 34)=some (.slice t u v)/\(0<=k/\k<(u:Int))/\Is t fun x:Addr=>∃y:Bool,r.cell? (x.add (k.toNat*1))=some (.bool y)/\Split y (∃z:OA,r.cell? a=some (.pointer z)/\∃a1:AV,(a1.size=32/\Cells r (⟨w.heap.size,0,none⟩:Addr) a1)/\∃b1:AV,(b1.size=32/\Cells r b b1)/\bj prog 74 #[.pointer z,.agg a1,.agg b1] r fun c1 d1=>∃e1:Bool,c1=.bool e1/\Split e1 (∃f1:Value,d1.cell? c=some (f1)/\∃g1:AV,(g1.size=32/\Cells d1 (⟨w.heap.size,0,none⟩:Addr) g1)/\∃(i1:Nat) (j1 k1:AV) (m1:Func),(f1:Value)=.func (.func i1) j1 k1/\prog.funcs[i1]? =some m1/\m1.body.isSome=true/\bj prog i1 (j1.toList++([.agg g1]:List Value)++k1.toList).toArray d1 fun n1 o1=>∃p1:Bool,n1=.bool p1/\Split (!p1) (Wr o1 d/\let q1:=o1.setCell d (.bool false);Q .ret [(3,.pointer (some a)),(5,.pointer (some b)),(6,.pointer (some c)),(7,.pointer (some d)),(11,.pointer (some e)),(65,.slice f g i),(66,.int .i64 j),(67,.int .i64 k)] q1) (Q .normal [(3,.pointer (some a)),(5,.pointer (some b)),(6,.pointer (some c)),(7,.pointer (some d)),(11,.pointer (some e)),(65,.slice f g i),(66,.int .i64 j),(67,.int .i64 (i64.wrap (k+(1:Int))))] o1)) (Q .normal [(3,.pointer (some a)),(5,.pointer (some b)),(6,.pointer (some c)),(7,.pointer (some d)),(11,.pointer (some e)),(65,.slice f g i),(66,.int .i64 j),(67,.int .i64 (i64.wrap (k+(1:Int))))] d1)) (Q .normal [(3,.pointer (some a)),(5,.pointer (some b)),(6,.pointer (some c)),(7,.pointer (some d)),(11,.pointer (some e)),(65,.slice f g i),(66,.int .i64 j),(67,.int .i64 (i64.wrap (k+(1:Int))))] r)) (Q (.exit 4) [(3,.pointer (some a)),(5,.pointer (some b)),(6,.pointer (some c)),(7,.pointer (some d)),(11,.pointer (some e)),(65,.slice f g i),(66,.int .i64 j),(67,.int .i64 k)] w)
variable(l:Nat)(a b c d e:Addr)(f:OA)(g i:Nat)(j k:Int)(Q:aM)(w:World)
theorem ag.b2:(aU (some l) [] prog 90 ag.k (lB (bB (sR (sR (sR (sR (bB (rB (bB (sR (sL (sR (sR (body f73)))))))))))))) ag.u2 Q [(3,.pointer (some a)),(5,.pointer (some b)),(6,.pointer (some c)),(7,.pointer (some d)),(11,.pointer (some e)),(65,.slice f g i),(66,.int .i64 j),(67,.int .i64 k)] w)=ag.B2 l a b c d e f g i j k Q w:=by kernel_rfl
variable{l a b c d e f g i j}
theorem ag.gI(I:Int->World->Prop)(μ:Int->World->Nat)(s:Int){Q:aM}{w:World}(h0:I s w)
 (round:∀s w,I s w->ag.B2 l a b c d e f g i j s (bH (ag.e2 a b c d e f g i j) I μ s w Q) w):Holds (some l) [] prog 90 (.loop (lB (bB (sR (sR (sR (sR (bB (rB (bB (sR (sL (sR (sR (body f73))))))))))))))) Q (ag.e2 a b c d e f g i j s) w:=
 ba ng mix (ag.e2 a b c d e f g i j) I μ ag.k ag.u2 s (fun s Q w=>ag.B2 l a b c d e f g i j s Q w) (fun s Q w=>ag.b2 l a b c d e f g i j s Q w) h0 round
end
section
def ag.YL(l:Nat)(a b c d e:Addr)(f:OA)(g i:Nat)(j k:Int)(Q:aM)(w:World):Prop:=
 Q .normal [] w
variable(l:Nat)(a b c d e:Addr)(f:OA)(g i:Nat)(j k:Int)(Q:aM)(w:World)
theorem ag.aam:(ag.q2 l Q (.exit 4) [(3,.pointer (some a)),(5,.pointer (some b)),(6,.pointer (some c)),(7,.pointer (some d)),(11,.pointer (some e)),(65,.slice f g i),(66,.int .i64 j),(67,.int .i64 k)] w)=ag.YL l a b c d e f g i j k Q w:=by kernel_rfl
end
def an.k:List Nat:= []
def an.q1(K:KT):aM:=(aL 0 (b7 (sR (sR (sR (sR (body Tryz.f46)))))++(aN Tryz.f46)) (bQ (fun bV w_=>match cutAt an.k (sR (sR (sR (sR (body Tryz.f46)))))with|true=>Holds none [] prog 33 (sR (sR (sR (sR (body Tryz.f46))))) (bI prog Tryz.f46 K) bV w_|false=>aU none [] prog 33 an.k (sR (sR (sR (sR (body Tryz.f46))))) (aN Tryz.f46) (bI prog Tryz.f46 K) bV w_) (bI prog Tryz.f46 K)))
def an.e1(a:OA)(b c:Nat)(d:OA)(e f:Addr)(s:Int):Env:= [(0,.slice a b c),(1,.func (.func 47) #[.pointer d] #[]),(4,.pointer (some e)),(5,.pointer (some f)),(6,.int .i64 s)]
def an.u1:List Nat:= [0,1,4,5,6]
section
variable(a:OA)(b d:Nat)(e:OA)(K:KT)(w:World)
def an.W:Prop:=
 let f:=w.alloc (.cells zH 23);Split (decide ((b:Int)<(1:Int))) (False) ((0<=(0:Int)/\(0:Int)<(b:Int))/\Is a fun g:Addr=>∃i:AV,(i.size=32/\Cells f (g.add ((0:Int).toNat*32)) i)/\let j:=f.alloc (.cells zH 23);(i.size=32/\(∀k∈i.toList,k.oneCell'=true)/\∀m,m<32->Wr j ((⟨f.heap.size,0,none⟩:Addr).add m))/\let n:=setCells j (⟨f.heap.size,0,none⟩:Addr) i.toList 0;Holds none [] prog 33 (.loop (lB (bB (sR (sL (sR (sR (sR (body Tryz.f46))))))))) (an.q1 K) [(0,.slice a b d),(1,.func (.func 47) #[.pointer e] #[]),(4,.pointer (some (⟨w.heap.size,0,none⟩:Addr))),(5,.pointer (some (⟨f.heap.size,0,none⟩:Addr))),(6,.int .i64 1)] n)
variable{a b d e K w}
theorem an.of(h:an.W a b d e K w):bj prog 46 #[.slice a b d,.func (.func 47) #[.pointer e] #[]] w K:=
 rqq func46 (C:=an.k) h
end
section
variable(a:OA)(b c:Nat)(d:OA)(e f:Addr)(g:Int)(Q:aM)(w:World)
def an.B1:Prop:=
 Split (decide (g<(b:Int))) (let i:=w.drew;(0<=g/\g<(b:Int))/\Is a fun j:Addr=>∃k:AV,(k.size=32/\Cells i (j.add (g.toNat*32)) k)/\∃m:AV,(m.size=32/\Cells i f m)/\bj prog 47 #[.pointer d,.agg k,.agg m] i fun n o=>∃p:Int,n=.int .i64 p/\Split (decide (p>(0:Int))) ((0<=g/\g<(b:Int))/\Is a fun q:Addr=>∃r:AV,(r.size=32/\Cells o (q.add (g.toNat*32)) r)/\(r.size=32/\(∀t∈r.toList,t.oneCell'=true)/\∀u,u<32->Wr o (f.add u))/\let v:=setCells o f r.toList 0;Q .normal [(0,.slice a b c),(1,.func (.func 47) #[.pointer d] #[]),(4,.pointer (some e)),(5,.pointer (some f)),(6,.int .i64 (i64.wrap (g+(1:Int))))] v) (Q .normal [(0,.slice a b c),(1,.func (.func 47) #[.pointer d] #[]),(4,.pointer (some e)),(5,.pointer (some f)),(6,.int .i64 (i64.wrap (g+(1:Int))))] o)) (Q (.exit 0) [(0,.slice a b c),(1,.func (.func 47) #[.pointer d] #[]),(4,.pointer (some e)),(5,.pointer (some f)),(6,.int .i64 g)] w)
theorem an.b1:(aU none [] prog 33 an.k (lB (bB (sR (sL (sR (sR (sR (body Tryz.f46)))))))) an.u1 Q [(0,.slice a b c),(1,.func (.func 47) #[.pointer d] #[]),(4,.pointer (some e)),(5,.pointer (some f)),(6,.int .i64 g)] w)=an.B1 a b c d e f g Q w:=by kernel_rfl
variable{a b c d e f}
theorem an.b6(I:Int->World->Prop)(μ:Int->World->Nat)(s:Int){Q:aM}{w:World}(h0:I s w)
 (round:∀s w,I s w->an.B1 a b c d e f s (bH (an.e1 a b c d e f) I μ s w Q) w):Holds none [] prog 33 (.loop (lB (bB (sR (sL (sR (sR (sR (body Tryz.f46))))))))) Q (an.e1 a b c d e f s) w:=
 ba ng mix (an.e1 a b c d e f) I μ an.k an.u1 s (fun s Q w=>an.B1 a b c d e f s Q w) (fun s Q w=>an.b1 a b c d e f s Q w) h0 round
end
section
def an.cI(a:OA)(b c:Nat)(d:OA)(e f:Addr)(g:Int)(K:KT)(w:World):Prop:=
 ∃i:AV,(i.size=32/\Cells w f i)/\(i.size=32/\(∀j∈i.toList,j.oneCell'=true)/\∀k,k<32->Wr w (e.add k))/\let m:=setCells w e i.toList 0;∃n:AV,(n.size=32/\Cells m e n)/\K (.agg n) m
variable(a:OA)(b c:Nat)(d:OA)(e f:Addr)(g:Int)(K:KT)(w:World)
theorem an.cX:(an.q1 K (.exit 0) [(0,.slice a b c),(1,.func (.func 47) #[.pointer d] #[]),(4,.pointer (some e)),(5,.pointer (some f)),(6,.int .i64 g)] w)=an.cI a b c d e f g K w:=by kernel_rfl
end
def bU.k:List Nat:= []
section
variable(a:OA)(b d:Nat)(e:Addr)(K:KT)(w:World)
def bU.W:Prop:=
 bj prog 113 #[.slice a b d,.func (.func 86) #[] #[.pointer (some e)]] w fun f g=>∃i:Int,f=.int .i64 i/\K (.bool (decide (i>=(0:Int)))) g
variable{a b d e K w}
theorem bU.of(h:bU.W a b d e K w):bj prog 85 #[.slice a b d,.func (.func 86) #[] #[.pointer (some e)]] w K:=
 rqq func85 (C:=bU.k) h
end
def al.k:List Nat:= []
def al.q1(K:KT):aM:=(aL 0 (b7 (sR (sR (body f113)))++(aN f113)) (bQ (fun bV w_=>match cutAt al.k (sR (sR (body f113)))with|true=>Holds none [] prog 19 (sR (sR (body f113))) (bI prog f113 K) bV w_|false=>aU none [] prog 19 al.k (sR (sR (body f113))) (aN f113) (bI prog f113 K) bV w_) (bI prog f113 K)))
def al.e1(a:OA)(b c:Nat)(d:Addr)(e:Int)(s:Int×Int):Env:= [(0,.slice a b c),(1,.func (.func 86) #[] #[.pointer (some d)]),(4,.int .i64 s.1),(7,.int .i64 e),(8,.int .i64 s.2)]
def al.u1:List Nat:= [0,1,4,7,8]
section
variable(a:OA)(b d:Nat)(e:Addr)(K:KT)(w:World)
def al.W:Prop:=
 Holds none [] prog 19 (.loop (lB (bB (sR (sL (sR (body f113))))))) (al.q1 K) [(0,.slice a b d),(1,.func (.func 86) #[] #[.pointer (some e)]),(4,.int .i64 0),(7,.int .i64 (b:Int)),(8,.int .i64 0)] w
variable{a b d e K w}
theorem al.of(h:al.W a b d e K w):bj prog 113 #[.slice a b d,.func (.func 86) #[] #[.pointer (some e)]] w K:=
 rqq func113 (C:=al.k) h
end
section
variable(a:OA)(b c:Nat)(d:Addr)(e f g:Int)(Q:aM)(w:World)
def al.B1:Prop:=
 Split (decide (g<f)) ((0<=g/\g<(b:Int))/\Is a fun i:Addr=>∃j:AV,(j.size=32/\Cells w (i.add (g.toNat*32)) j)/\bj prog 86 #[.agg j,.pointer (some d)] w fun k m=>∃n:Bool,k=.bool n/\Split n (Q .ret [(0,.slice a b c),(1,.func (.func 86) #[] #[.pointer (some d)]),(4,.int .i64 g),(7,.int .i64 f),(8,.int .i64 g)] m) (Q .normal [(0,.slice a b c),(1,.func (.func 86) #[] #[.pointer (some d)]),(4,.int .i64 e),(7,.int .i64 f),(8,.int .i64 (i64.wrap (g+(1:Int))))] m)) (Q (.exit 0) [(0,.slice a b c),(1,.func (.func 86) #[] #[.pointer (some d)]),(4,.int .i64 e),(7,.int .i64 f),(8,.int .i64 g)] w)
theorem al.b1:(aU none [] prog 19 al.k (lB (bB (sR (sL (sR (body f113)))))) al.u1 Q [(0,.slice a b c),(1,.func (.func 86) #[] #[.pointer (some d)]),(4,.int .i64 e),(7,.int .i64 f),(8,.int .i64 g)] w)=al.B1 a b c d e f g Q w:=by kernel_rfl
variable{a b c d f}
theorem al.b6(I:Int×Int->World->Prop)(μ:Int×Int->World->Nat)(s:Int×Int){Q:aM}{w:World}(h0:I s w)
 (round:∀s w,I s w->al.B1 a b c d (s.1) f (s.2) (bH (al.e1 a b c d f) I μ s w Q) w):Holds none [] prog 19 (.loop (lB (bB (sR (sL (sR (body f113))))))) Q (al.e1 a b c d f s) w:=
 ba ng mix (al.e1 a b c d f) I μ al.k al.u1 s (fun s Q w=>al.B1 a b c d (s.1) f (s.2) Q w) (fun s Q w=>al.b1 a b c d (s.1) f (s.2) Q w) h0 round
end
section
def al.cI(a:OA)(b c:Nat)(d:Addr)(e f g:Int)(K:KT)(w:World):Prop:=
 K (.int .i64 (-1)) w
variable(a:OA)(b c:Nat)(d:Addr)(e f g:Int)(K:KT)(w:World)
theorem al.cX:(al.q1 K (.exit 0) [(0,.slice a b c),(1,.func (.func 86) #[] #[.pointer (some d)]),(4,.int .i64 e),(7,.int .i64 f),(8,.int .i64 g)] w)=al.cI a b c d e f g K w:=by kernel_rfl
end
def b0.k:List Nat:= []
def b0.q1(K:KT):aM:=(aL 0 (b7 (sR (sR (sR (body f16))))++(aN f16)) (bQ (fun bV w_=>match cutAt b0.k (sR (sR (sR (body f16))))with|true=>Holds none [] prog 50 (sR (sR (sR (body f16)))) (bI prog f16 K) bV w_|false=>aU none [] prog 50 b0.k (sR (sR (sR (body f16)))) (aN f16) (bI prog f16 K) bV w_) (bI prog f16 K)))
def b0.e1(a b:Addr)(s:Bool×Int):Env:= [(2,.pointer (some a)),(3,.pointer (some b)),(4,.bool s.1),(5,.int .i64 s.2)]
def b0.u1:List Nat:= [2,3,4,5]
section
variable(a b:AV)(K:KT)(w:World)
def b0.W:Prop:=
 let d:=w.alloc (.cells a 52);let e:=d.alloc (.cells b 52);∃f:OA,∃g i:Nat,e.cell? ((⟨w.heap.size,0,none⟩:Addr).add 34)=some (.slice f g i)/\∃j:OA,∃k m:Nat,e.cell? ((⟨d.heap.size,0,none⟩:Addr).add 34)=some (.slice j k m)/\Split ((g:Int) != (k:Int)) (K (.bool false) e) (Holds none [] prog 50 (.loop (lB (bB (sR (sL (sR (sR (body f16)))))))) (b0.q1 K) [(2,.pointer (some (⟨w.heap.size,0,none⟩:Addr))),(3,.pointer (some (⟨d.heap.size,0,none⟩:Addr))),(4,.bool false),(5,.int .i64 0)] e)
variable{a b K w}
theorem b0.of(h:b0.W a b K w):bj prog 16 #[.agg a,.agg b] w K:=
 rqq func16 (C:=b0.k) h
end
section
variable(a b:Addr)(c:Bool)(d:Int)(Q:aM)(w:World)
def b0.B1:Prop:=
 ∃e:OA,∃f g:Nat,w.cell? (a.add 34)=some (.slice e f g)/\Split (decide (d<(f:Int))) (let i:=w.drew;∃j:OA,∃k m:Nat,i.cell? (a.add 34)=some (.slice j k m)/\(0<=d/\d<(k:Int))/\Is j fun n:Addr=>∃o:Bool,i.cell? (n.add (d.toNat*1))=some (.bool o)/\∃p:OA,∃q r:Nat,i.cell? (b.add 34)=some (.slice p q r)/\(0<=d/\d<(q:Int))/\Is p fun t:Addr=>∃u:Bool,i.cell? (t.add (d.toNat*1))=some (.bool u)/\Split (!(o==u)) (Q .ret [(2,.pointer (some a)),(3,.pointer (some b)),(4,.bool false),(5,.int .i64 d)] i) (Q .normal [(2,.pointer (some a)),(3,.pointer (some b)),(4,.bool c),(5,.int .i64 (i64.wrap (d+(1:Int))))] i)) (Q (.exit 0) [(2,.pointer (some a)),(3,.pointer (some b)),(4,.bool c),(5,.int .i64 d)] w)
theorem b0.b1:(aU none [] prog 50 b0.k (lB (bB (sR (sL (sR (sR (body f16))))))) b0.u1 Q [(2,.pointer (some a)),(3,.pointer (some b)),(4,.bool c),(5,.int .i64 d)] w)=b0.B1 a b c d Q w:=by kernel_rfl
variable{a b}
theorem b0.b6(I:Bool×Int->World->Prop)(μ:Bool×Int->World->Nat)(s:Bool×Int){Q:aM}{w:World}(h0:I s w)
 (round:∀s w,I s w->b0.B1 a b (s.1) (s.2) (bH (b0.e1 a b) I μ s w Q) w):Holds none [] prog 50 (.loop (lB (bB (sR (sL (sR (sR (body f16)))))))) Q (b0.e1 a b s) w:=
 ba ng mix (b0.e1 a b) I μ b0.k b0.u1 s (fun s Q w=>b0.B1 a b (s.1) (s.2) Q w) (fun s Q w=>b0.b1 a b (s.1) (s.2) Q w) h0 round
end
section
def b0.cI(a b:Addr)(c:Bool)(d:Int)(K:KT)(w:World):Prop:=
 ∃e:AV,(e.size=32/\Cells w (a.add 0) e)/\∃f:AV,(f.size=32/\Cells w (b.add 0) f)/\(dP .u8 32 e/\dP .u8 32 f)/\Split (eT e f) (∃g:Int,w.cell? (a.add 32)=some (.int .u64 g)/\∃i:Int,w.cell? (b.add 32)=some (.int .u64 i)/\Split (g==i) (∃j:OA,∃k m:Nat,w.cell? (a.add 33)=some (.slice j k m)/\∃n:OA,∃o p:Nat,w.cell? (b.add 33)=some (.slice n o p)/\bj prog 27 #[.slice j k m,.slice n o p] w fun q r=>∃t:Bool,q=.bool t/\K (.bool t) r) (K (.bool false) w)) (K (.bool false) w)
variable(a b:Addr)(c:Bool)(d:Int)(K:KT)(w:World)
theorem b0.cX:(b0.q1 K (.exit 0) [(2,.pointer (some a)),(3,.pointer (some b)),(4,.bool c),(5,.int .i64 d)] w)=b0.cI a b c d K w:=by kernel_rfl
end
def bk.k:List Nat:= []
def bk.q1(K:KT):aM:=(aL 0 (b7 (sR (sR (sR (body f19))))++(aN f19)) (bQ (fun bV w_=>match cutAt bk.k (sR (sR (sR (body f19))))with|true=>Holds none [] prog 27 (sR (sR (sR (body f19)))) (bI prog f19 K) bV w_|false=>aU none [] prog 27 bk.k (sR (sR (sR (body f19)))) (aN f19) (bI prog f19 K) bV w_) (bI prog f19 K)))
def bk.e1(a b:OA)(c d:Nat)(s:Int×Int):Env:= [(0,.pointer a),(1,.slice b c d),(4,.int .i64 s.1),(5,.int .i64 s.2)]
def bk.u1:List Nat:= [0,1,4,5]
section
variable(a b:OA)(d e:Nat)(K:KT)(w:World)
def bk.W:Prop:=
 Split ((d:Int)==(0:Int)) (K (.int .i64 9) w) (Holds none [] prog 27 (.loop (lB (bB (sR (sL (sR (sR (body f19)))))))) (bk.q1 K) [(0,.pointer a),(1,.slice b d e),(4,.int .i64 0),(5,.int .i64 0)] w)
variable{a b d e K w}
theorem bk.of(h:bk.W a b d e K w):bj prog 19 #[.pointer a,.slice b d e] w K:=
 rqq func19 (C:=bk.k) h
end
section
variable(a b:OA)(c d:Nat)(e f:Int)(Q:aM)(w:World)
def bk.B1:Prop:=
 Split (decide (f<(c:Int))) (let g:=w.drew;Is a fun i:Addr=>∃j:OA,g.cell? (i.add 1)=some (.pointer j)/\Is j fun k:Addr=>(0<=f/\f<(c:Int))/\Is b fun m:Addr=>∃n:AV,(n.size=32/\Cells g (m.add (f.toNat*32)) n)/\bj prog 48 #[.pointer (some (k.add 0)),.agg n] g fun o p=>∃q:Int,o=.int .i64 q/\Split (decide (q<(0:Int))) (Q .ret [(0,.pointer a),(1,.slice b c d),(4,.int .i64 6),(5,.int .i64 f)] p) (Q .normal [(0,.pointer a),(1,.slice b c d),(4,.int .i64 e),(5,.int .i64 (i64.wrap (f+(1:Int))))] p)) (Q (.exit 0) [(0,.pointer a),(1,.slice b c d),(4,.int .i64 e),(5,.int .i64 f)] w)
theorem bk.b1:(aU none [] prog 27 bk.k (lB (bB (sR (sL (sR (sR (body f19))))))) bk.u1 Q [(0,.pointer a),(1,.slice b c d),(4,.int .i64 e),(5,.int .i64 f)] w)=bk.B1 a b c d e f Q w:=by kernel_rfl
variable{a b c d}
theorem bk.b6(I:Int×Int->World->Prop)(μ:Int×Int->World->Nat)(s:Int×Int){Q:aM}{w:World}(h0:I s w)
 (round:∀s w,I s w->bk.B1 a b c d (s.1) (s.2) (bH (bk.e1 a b c d) I μ s w Q) w):Holds none [] prog 27 (.loop (lB (bB (sR (sL (sR (sR (body f19)))))))) Q (bk.e1 a b c d s) w:=
 ba ng mix (bk.e1 a b c d) I μ bk.k bk.u1 s (fun s Q w=>bk.B1 a b c d (s.1) (s.2) Q w) (fun s Q w=>bk.b1 a b c d (s.1) (s.2) Q w) h0 round
end
section
def bk.cI(a b:OA)(c d:Nat)(e f:Int)(K:KT)(w:World):Prop:=
 K (.int .i64 0) w
variable(a b:OA)(c d:Nat)(e f:Int)(K:KT)(w:World)
theorem bk.cX:(bk.q1 K (.exit 0) [(0,.pointer a),(1,.slice b c d),(4,.int .i64 e),(5,.int .i64 f)] w)=bk.cI a b c d e f K w:=by kernel_rfl
end
def aV.k:List Nat:= []
def aV.q1(K:KT):aM:=(aL 0 (b7 (sR (sR (sR (body Tryz.f20))))++(aN Tryz.f20)) (bQ (fun bV w_=>match cutAt aV.k (sR (sR (sR (body Tryz.f20))))with|true=>Holds none [] prog 28 (sR (sR (sR (body Tryz.f20)))) (bI prog Tryz.f20 K) bV w_|false=>aU none [] prog 28 aV.k (sR (sR (sR (body Tryz.f20)))) (aN Tryz.f20) (bI prog Tryz.f20 K) bV w_) (bI prog Tryz.f20 K)))
def aV.e1(a b:OA)(c d:Nat)(e f:Addr)(s:Int):Env:= [(0,.pointer a),(1,.slice b c d),(4,.pointer (some e)),(5,.pointer (some f)),(6,.int .i64 s)]
def aV.u1:List Nat:= [0,1,4,5,6]
section
variable(a b:OA)(d e:Nat)(K:KT)(w:World)
def aV.W:Prop:=
 let f:=w.alloc (.cells zH 23);(0<=(0:Int)/\(0:Int)<(d:Int))/\Is b fun g:Addr=>∃i:AV,(i.size=32/\Cells f (g.add ((0:Int).toNat*32)) i)/\let j:=f.alloc (.cells zH 23);(i.size=32/\(∀k∈i.toList,k.oneCell'=true)/\∀m,m<32->Wr j ((⟨f.heap.size,0,none⟩:Addr).add m))/\let n:=setCells j (⟨f.heap.size,0,none⟩:Addr) i.toList 0;Holds none [] prog 28 (.loop (lB (bB (sR (sL (sR (sR (body Tryz.f20)))))))) (aV.q1 K) [(0,.pointer a),(1,.slice b d e),(4,.pointer (some (⟨w.heap.size,0,none⟩:Addr))),(5,.pointer (some (⟨f.heap.size,0,none⟩:Addr))),(6,.int .i64 1)] n
variable{a b d e K w}
theorem aV.of(h:aV.W a b d e K w):bj prog 20 #[.pointer a,.slice b d e] w K:=
 rqq func20 (C:=aV.k) h
end
section
variable(a b:OA)(c d:Nat)(e f:Addr)(g:Int)(Q:aM)(w:World)
def aV.B1:Prop:=
 Split (decide (g<(c:Int))) (let i:=w.drew;∃j:AV,(j.size=32/\Cells i f j)/\(0<=g/\g<(c:Int))/\Is b fun k:Addr=>∃m:AV,(m.size=32/\Cells i (k.add (g.toNat*32)) m)/\bj prog 22 #[.pointer a,.agg j,.agg m] i fun n o=>∃p:Bool,n=.bool p/\Split p ((0<=g/\g<(c:Int))/\Is b fun q:Addr=>∃r:AV,(r.size=32/\Cells o (q.add (g.toNat*32)) r)/\(r.size=32/\(∀t∈r.toList,t.oneCell'=true)/\∀u,u<32->Wr o (f.add u))/\let v:=setCells o f r.toList 0;Q .normal [(0,.pointer a),(1,.slice b c d),(4,.pointer (some e)),(5,.pointer (some f)),(6,.int .i64 (i64.wrap (g+(1:Int))))] v) (Q .normal [(0,.pointer a),(1,.slice b c d),(4,.pointer (some e)),(5,.pointer (some f)),(6,.int .i64 (i64.wrap (g+(1:Int))))] o)) (Q (.exit 0) [(0,.pointer a),(1,.slice b c d),(4,.pointer (some e)),(5,.pointer (some f)),(6,.int .i64 g)] w)
theorem aV.b1:(aU none [] prog 28 aV.k (lB (bB (sR (sL (sR (sR (body Tryz.f20))))))) aV.u1 Q [(0,.pointer a),(1,.slice b c d),(4,.pointer (some e)),(5,.pointer (some f)),(6,.int .i64 g)] w)=aV.B1 a b c d e f g Q w:=by kernel_rfl
variable{a b c d e f}
theorem aV.b6(I:Int->World->Prop)(μ:Int->World->Nat)(s:Int){Q:aM}{w:World}(h0:I s w)
 (round:∀s w,I s w->aV.B1 a b c d e f s (bH (aV.e1 a b c d e f) I μ s w Q) w):Holds none [] prog 28 (.loop (lB (bB (sR (sL (sR (sR (body Tryz.f20)))))))) Q (aV.e1 a b c d e f s) w:=
 ba ng mix (aV.e1 a b c d e f) I μ aV.k aV.u1 s (fun s Q w=>aV.B1 a b c d e f s Q w) (fun s Q w=>aV.b1 a b c d e f s Q w) h0 round
end
section
def aV.cI(a b:OA)(c d:Nat)(e f:Addr)(g:Int)(K:KT)(w:World):Prop:=
 ∃i:AV,(i.size=32/\Cells w f i)/\(i.size=32/\(∀j∈i.toList,j.oneCell'=true)/\∀k,k<32->Wr w (e.add k))/\let m:=setCells w e i.toList 0;∃n:AV,(n.size=32/\Cells m e n)/\K (.agg n) m
variable(a b:OA)(c d:Nat)(e f:Addr)(g:Int)(K:KT)(w:World)
theorem aV.cX:(aV.q1 K (.exit 0) [(0,.pointer a),(1,.slice b c d),(4,.pointer (some e)),(5,.pointer (some f)),(6,.int .i64 g)] w)=aV.cI a b c d e f g K w:=by kernel_rfl
end
def ae.k:List Nat:= [2,3]
def ae.q1(K:KT):aM:=(aL 0 (b7 (sR (sR (sR (sR (sR (body Tryz.f21))))))++(aN Tryz.f21)) (bQ (fun bV w_=>match cutAt ae.k (sR (sR (sR (sR (sR (body Tryz.f21))))))with|true=>Holds none [] prog 179 (sR (sR (sR (sR (sR (body Tryz.f21)))))) (bI prog Tryz.f21 K) bV w_|false=>aU none [] prog 179 ae.k (sR (sR (sR (sR (sR (body Tryz.f21)))))) (aN Tryz.f21) (bI prog Tryz.f21 K) bV w_) (bI prog Tryz.f21 K)))
def ae.e1(a:OA)(b c:Addr)(d:OA)(e f:Nat)(g:Addr)(i:OA)(j k:Nat)(m:OA)(n o:Nat)(s:Int):Env:= [(0,.pointer a),(4,.pointer (some b)),(6,.pointer (some c)),(7,.slice d e f),(8,.pointer (some g)),(9,.slice i j k),(10,.slice m n o),(11,.int .i64 s)]
def ae.u1:List Nat:= [0,4,6,7,8,9,10,11]
def ae.q2(Q:aM):aM:=(aL 2 (b7 (sR (sR (sR (sR (bB (sL (sR (lB (bB (sR (sL (sR (sR (sR (sR (body Tryz.f21))))))))))))))))++(b7 (sR (sR (lB (bB (sR (sL (sR (sR (sR (sR (body Tryz.f21)))))))))))++ae.u1)) (bQ (fun bV w_=>match cutAt ae.k (sR (sR (sR (sR (bB (sL (sR (lB (bB (sR (sL (sR (sR (sR (sR (body Tryz.f21))))))))))))))))with|true=>Holds none [] prog 179 (sR (sR (sR (sR (bB (sL (sR (lB (bB (sR (sL (sR (sR (sR (sR (body Tryz.f21)))))))))))))))) (aL 1 (b7 (sR (sR (lB (bB (sR (sL (sR (sR (sR (sR (body Tryz.f21)))))))))))++ae.u1) (bQ (fun bV w_=>match cutAt ae.k (sR (sR (lB (bB (sR (sL (sR (sR (sR (sR (body Tryz.f21)))))))))))with|true=>Holds none [] prog 179 (sR (sR (lB (bB (sR (sL (sR (sR (sR (sR (body Tryz.f21))))))))))) Q bV w_|false=>aU none [] prog 179 ae.k (sR (sR (lB (bB (sR (sL (sR (sR (sR (sR (body Tryz.f21))))))))))) ae.u1 Q bV w_) Q)) bV w_|false=>aU none [] prog 179 ae.k (sR (sR (sR (sR (bB (sL (sR (lB (bB (sR (sL (sR (sR (sR (sR (body Tryz.f21)))))))))))))))) (b7 (sR (sR (lB (bB (sR (sL (sR (sR (sR (sR (body Tryz.f21)))))))))))++ae.u1) (aL 1 (b7 (sR (sR (lB (bB (sR (sL (sR (sR (sR (sR (body Tryz.f21)))))))))))++ae.u1) (bQ (fun bV w_=>match cutAt ae.k (sR (sR (lB (bB (sR (sL (sR (sR (sR (sR (body Tryz.f21)))))))))))with|true=>Holds none [] prog 179 (sR (sR (lB (bB (sR (sL (sR (sR (sR (sR (body Tryz.f21))))))))))) Q bV w_|false=>aU none [] prog 179 ae.k (sR (sR (lB (bB (sR (sL (sR (sR (sR (sR (body Tryz.f21))))))))))) ae.u1 Q bV w_) Q)) bV w_) (aL 1 (b7 (sR (sR (lB (bB (sR (sL (sR (sR (sR (sR (body Tryz.f21)))))))))))++ae.u1) (bQ (fun bV w_=>match cutAt ae.k (sR (sR (lB (bB (sR (sL (sR (sR (sR (sR (body Tryz.f21)))))))))))with|true=>Holds none [] prog 179 (sR (sR (lB (bB (sR (sL (sR (sR (sR (sR (body Tryz.f21))))))))))) Q bV w_|false=>aU none [] prog 179 ae.k (sR (sR (lB (bB (sR (sL (sR (sR (sR (sR (body Tryz.f21))))))))))) ae.u1 Q bV w_) Q))))
def ae.e2(a:OA)(b c:Addr)(d:OA)(e f:Nat)(g:Addr)(i:OA)(j k:Nat)(m:OA)(n o:Nat)(p:Int)(q:Addr)(s:Int):Env:= [(0,.pointer a),(4,.pointer (some b)),(6,.pointer (some c)),(7,.slice d e f),(8,.pointer (some g)),(9,.slice i j k),(10,.slice m n o),(11,.int .i64 p),(12,.pointer (some q)),(13,.int .i64 s)]
def ae.u2:List Nat:= [0,4,6,7,8,9,10,11,12,13]
def ae.q3(K:KT):aM:=(aL 4 (b7 (sR (sR (sR (sR (sR (sR (body Tryz.f21)))))))++(aN Tryz.f21)) (bQ (fun bV w_=>match cutAt ae.k (sR (sR (sR (sR (sR (sR (body Tryz.f21)))))))with|true=>Holds none [] prog 179 (sR (sR (sR (sR (sR (sR (body Tryz.f21))))))) (bI prog Tryz.f21 K) bV w_|false=>aU none [] prog 179 ae.k (sR (sR (sR (sR (sR (sR (body Tryz.f21))))))) (aN Tryz.f21) (bI prog Tryz.f21 K) bV w_) (bI prog Tryz.f21 K)))
def ae.e3(a:OA)(b:Addr)(c:OA)(d e:Nat)(f:Addr)(s:(OA)×Nat×Nat×Int):Env:= [(0,.pointer a),(6,.pointer (some b)),(7,.slice c d e),(8,.pointer (some f)),(9,.slice s.1 s.2.1 s.2.2.1),(15,.int .i64 s.2.2.2)]
def ae.u3:List Nat:= [0,6,7,8,9,15]
def ae.q4(Q:aM):aM:=(aL 6 (b7 (sR (sR (sR (bB (sL (sR (lB (bB (sR (sL (sR (sR (sR (sR (sR (body Tryz.f21))))))))))))))))++(b7 (sR (sR (lB (bB (sR (sL (sR (sR (sR (sR (sR (body Tryz.f21))))))))))))++ae.u3)) (bQ (fun bV w_=>match cutAt ae.k (sR (sR (sR (bB (sL (sR (lB (bB (sR (sL (sR (sR (sR (sR (sR (body Tryz.f21))))))))))))))))with|true=>Holds none [] prog 179 (sR (sR (sR (bB (sL (sR (lB (bB (sR (sL (sR (sR (sR (sR (sR (body Tryz.f21)))))))))))))))) (aL 5 (b7 (sR (sR (lB (bB (sR (sL (sR (sR (sR (sR (sR (body Tryz.f21))))))))))))++ae.u3) (bQ (fun bV w_=>match cutAt ae.k (sR (sR (lB (bB (sR (sL (sR (sR (sR (sR (sR (body Tryz.f21))))))))))))with|true=>Holds none [] prog 179 (sR (sR (lB (bB (sR (sL (sR (sR (sR (sR (sR (body Tryz.f21)))))))))))) Q bV w_|false=>aU none [] prog 179 ae.k (sR (sR (lB (bB (sR (sL (sR (sR (sR (sR (sR (body Tryz.f21)))))))))))) ae.u3 Q bV w_) Q)) bV w_|false=>aU none [] prog 179 ae.k (sR (sR (sR (bB (sL (sR (lB (bB (sR (sL (sR (sR (sR (sR (sR (body Tryz.f21)))))))))))))))) (b7 (sR (sR (lB (bB (sR (sL (sR (sR (sR (sR (sR (body Tryz.f21))))))))))))++ae.u3) (aL 5 (b7 (sR (sR (lB (bB (sR (sL (sR (sR (sR (sR (sR (body Tryz.f21))))))))))))++ae.u3) (bQ (fun bV w_=>match cutAt ae.k (sR (sR (lB (bB (sR (sL (sR (sR (sR (sR (sR (body Tryz.f21))))))))))))with|true=>Holds none [] prog 179 (sR (sR (lB (bB (sR (sL (sR (sR (sR (sR (sR (body Tryz.f21)))))))))))) Q bV w_|false=>aU none [] prog 179 ae.k (sR (sR (lB (bB (sR (sL (sR (sR (sR (sR (sR (body Tryz.f21)))))))))))) ae.u3 Q bV w_) Q)) bV w_) (aL 5 (b7 (sR (sR (lB (bB (sR (sL (sR (sR (sR (sR (sR (body Tryz.f21))))))))))))++ae.u3) (bQ (fun bV w_=>match cutAt ae.k (sR (sR (lB (bB (sR (sL (sR (sR (sR (sR (sR (body Tryz.f21))))))))))))with|true=>Holds none [] prog 179 (sR (sR (lB (bB (sR (sL (sR (sR (sR (sR (sR (body Tryz.f21)))))))))))) Q bV w_|false=>aU none [] prog 179 ae.k (sR (sR (lB (bB (sR (sL (sR (sR (sR (sR (sR (body Tryz.f21)))))))))))) ae.u3 Q bV w_) Q))))
def ae.e4(a:OA)(b:Addr)(c:OA)(d e:Nat)(f:Addr)(g:OA)(i j:Nat)(k:Int)(m:OA)(n o:Nat)(s:Bool×Int):Env:= [(0,.pointer a),(6,.pointer (some b)),(7,.slice c d e),(8,.pointer (some f)),(9,.slice g i j),(15,.int .i64 k),(16,.slice m n o),(17,.bool s.1),(18,.int .i64 s.2)]
def ae.u4:List Nat:= [0,6,7,8,9,15,16,17,18]
section
variable(a:OA)(b:AV)(d:OA)(e f:Nat)(K:KT)(w:World)
def ae.W:Prop:=
 let g:=w.alloc (.cells b 23);let i:=g.alloc (.cells zC 52);let j:=i.drew;∃k:AV,(k.size=32/\Cells j (⟨w.heap.size,0,none⟩:Addr) k)/\∃m:AV,(m.size=32/\Cells j (⟨w.heap.size,0,none⟩:Addr) m)/\(bj prog 49 #[.pointer a,.agg m] j fun n o=>∃p:Int,n=.int .u64 p/\(∃cs:AV,(.agg k:Value)=.agg cs/\cs.size=32/\Cells o (⟨w.heap.size,0,none⟩:Addr) cs)/\Is (prog.built 52 [(0,.agg k),(1,.int .u64 (u64.wrap (p+(1:Int))))]) fun q:AV=>let r:=o.alloc (.cells zC 52);(∃cs:AV,(.agg k:Value)=.agg cs/\cs.size=32/\Cells r (⟨w.heap.size,0,none⟩:Addr) cs)/\(q.size=35/\(∀t∈q.toList,t.oneCell'=true)/\∀u,u<35->Wr r ((⟨o.heap.size,0,none⟩:Addr).add u))/\let v:=setCells r (⟨o.heap.size,0,none⟩:Addr) q.toList 0;Holds none [] prog 179 (sR (sR (body Tryz.f21))) (bI prog Tryz.f21 K) [(0,.pointer a),(2,.slice d e f),(4,.pointer (some (⟨w.heap.size,0,none⟩:Addr))),(6,.pointer (some (⟨g.heap.size,0,none⟩:Addr))),(7,.slice none 0 0),(8,.pointer (some (⟨o.heap.size,0,none⟩:Addr)))] v)/\(let x:=j.alloc (.cells zC 52);(∃cs:AV,(.agg m:Value)=.agg cs/\cs.size=32/\Cells x (⟨w.heap.size,0,none⟩:Addr) cs)/\(∃cs:AV,(.agg k:Value)=.agg cs/\cs.size=32/\Cells x (⟨w.heap.size,0,none⟩:Addr) cs)/\bj prog 49 #[.pointer a,.agg m] x fun y z=>∃a1:Int,y=.int .u64 a1/\(∃cs:AV,(.agg k:Value)=.agg cs/\cs.size=32/\Cells z (⟨w.heap.size,0,none⟩:Addr) cs)/\Is (prog.built 52 [(0,.agg k),(1,.int .u64 (u64.wrap (a1+(1:Int))))]) fun b1:AV=>(b1.size=35/\(∀c1∈b1.toList,c1.oneCell'=true)/\∀d1,d1<35->Wr z ((⟨j.heap.size,0,none⟩:Addr).add d1))/\let e1:=setCells z (⟨j.heap.size,0,none⟩:Addr) b1.toList 0;Holds none [] prog 179 (sR (sR (body Tryz.f21))) (bI prog Tryz.f21 K) [(0,.pointer a),(2,.slice d e f),(4,.pointer (some (⟨w.heap.size,0,none⟩:Addr))),(6,.pointer (some (⟨g.heap.size,0,none⟩:Addr))),(7,.slice none 0 0),(8,.pointer (some (⟨j.heap.size,0,none⟩:Addr)))] e1)
variable{a b d e f K w}
theorem ae.of(h:ae.W a b d e f K w):bj prog 21 #[.pointer a,.agg b,.slice d e f] w K:=
 rqq func21 (C:=ae.k) h
end
section
variable(a b:OA)(c d:Nat)(e f:Addr)(g:OA)(i j:Nat)(k:Addr)(K:KT)(w:World)
def ae.J1:Prop:=
 let m:=w.drew;Is a fun n:Addr=>∃o:OA,∃p q:Nat,m.cell? (n.add 3)=some (.slice o p q)/\Is a fun r:Addr=>∃t:OA,m.cell? (r.add 1)=some (.pointer t)/\Is t fun u:Addr=>∃v:AV,(v.size=32/\Cells m e v)/\∃x:AV,(x.size=32/\Cells m e x)/\(bj prog 48 #[.pointer (some (u.add 0)),.agg v] m fun y z=>∃a1:Int,y=.int .i64 a1/\(∃cs:AV,(.agg x:Value)=.agg cs/\cs.size=32/\Cells z e cs)/\z.cell? (n.add 3)=some (.slice o p q)/\(0<=a1/\a1<(p:Int))/\Is o fun b1:Addr=>∃c1:OA,∃d1 e1:Nat,z.cell? (b1.add (a1.toNat*1))=some (.slice c1 d1 e1)/\(∃(f1:OA) (g1 i1:Nat) (j1:World),(Builtin.append_ #[35,35] 35 #[.slice none 0 0,.slice c1 d1 e1]).run prog z=.ok (.slice f1 g1 i1) j1/\(∃cs:AV,(.agg x:Value)=.agg cs/\cs.size=32/\Cells j1 e cs)/\x.size=32/\let k1:=j1.alloc (.cells (x.toList++ []).toArray 23);∃(m1:OA) (n1 o1:Nat) (p1:World),(Builtin.append_ #[35,35] 35 #[.slice f1 g1 i1,.slice (some (⟨j1.heap.size,0,none⟩:Addr)) 1 1]).run prog k1=.ok (.slice m1 n1 o1) p1/\Holds none [] prog 179 (sR (sR (sR (body Tryz.f21)))) (bI prog Tryz.f21 K) [(0,.pointer a),(2,.slice b c d),(4,.pointer (some e)),(6,.pointer (some f)),(7,.slice g i j),(8,.pointer (some k)),(9,.slice m1 n1 o1)] p1)/\(x.size=32/\let q1:=z.alloc (.cells (x.toList++ []).toArray 23);q1.cell? (b1.add (a1.toNat*1))=some (.slice c1 d1 e1)/\q1.cell? (n.add 3)=some (.slice o p q)/\∃(r1:OA) (t1 u1:Nat) (v1:World),(Builtin.append_ #[35,35] 35 #[.slice none 0 0,.slice c1 d1 e1]).run prog q1=.ok (.slice r1 t1 u1) v1/\∃(x1:OA) (y1 z1:Nat) (a2:World),(Builtin.append_ #[35,35] 35 #[.slice r1 t1 u1,.slice (some (⟨z.heap.size,0,none⟩:Addr)) 1 1]).run prog v1=.ok (.slice x1 y1 z1) a2/\Holds none [] prog 179 (sR (sR (sR (body Tryz.f21)))) (bI prog Tryz.f21 K) [(0,.pointer a),(2,.slice b c d),(4,.pointer (some e)),(6,.pointer (some f)),(7,.slice g i j),(8,.pointer (some k)),(9,.slice x1 y1 z1)] a2))/\(x.size=32/\let b2:=m.alloc (.cells (x.toList++ []).toArray 23);(∃cs:AV,(.agg v:Value)=.agg cs/\cs.size=32/\Cells b2 e cs)/\b2.cell? (r.add 1)=some (.pointer t)/\b2.cell? (n.add 3)=some (.slice o p q)/\bj prog 48 #[.pointer (some (u.add 0)),.agg v] b2 fun c2 d2=>∃e2:Int,c2=.int .i64 e2/\d2.cell? (n.add 3)=some (.slice o p q)/\(0<=e2/\e2<(p:Int))/\Is o fun f2:Addr=>∃g2:OA,∃i2 j2:Nat,d2.cell? (f2.add (e2.toNat*1))=some (.slice g2 i2 j2)/\∃(k2:OA) (m2 n2:Nat) (o2:World),(Builtin.append_ #[35,35] 35 #[.slice none 0 0,.slice g2 i2 j2]).run prog d2=.ok (.slice k2 m2 n2) o2/\∃(p2:OA) (q2 r2:Nat) (t2:World),(Builtin.append_ #[35,35] 35 #[.slice k2 m2 n2,.slice (some (⟨m.heap.size,0,none⟩:Addr)) 1 1]).run prog o2=.ok (.slice p2 q2 r2) t2/\Holds none [] prog 179 (sR (sR (sR (body Tryz.f21)))) (bI prog Tryz.f21 K) [(0,.pointer a),(2,.slice b c d),(4,.pointer (some e)),(6,.pointer (some f)),(7,.slice g i j),(8,.pointer (some k)),(9,.slice p2 q2 r2)] t2)
theorem ae.j1:(aU none [] prog 179 ae.k (sR (sR (body Tryz.f21))) (aN Tryz.f21) (bI prog Tryz.f21 K) [(0,.pointer a),(2,.slice b c d),(4,.pointer (some e)),(6,.pointer (some f)),(7,.slice g i j),(8,.pointer (some k))] w)=ae.J1 a b c d e f g i j k K w:=by kernel_rfl
variable{a b c d e f g i j k K w}
theorem ae.ox(h:ae.J1 a b c d e f g i j k K w):Holds none [] prog 179 (sR (sR (body Tryz.f21))) (bI prog Tryz.f21 K) [(0,.pointer a),(2,.slice b c d),(4,.pointer (some e)),(6,.pointer (some f)),(7,.slice g i j),(8,.pointer (some k))] w:=
 cK (C:=ae.k) ng mix (ae.j1 a b c d e f g i j k K w) h
end
section
variable(a b:OA)(c d:Nat)(e f:Addr)(g:OA)(i j:Nat)(k:Addr)(m:OA)(n o:Nat)(K:KT)(w:World)
def ae.J2:Prop:=
 Is a fun p:Addr=>∃q:OA,w.cell? (p.add 1)=some (.pointer q)/\Is q fun r:Addr=>bj prog 26 #[.pointer (some (r.add 0)),.slice b c d] w fun t u=>∃v:OA,∃x y:Nat,t=.slice v x y/\∃(z:OA) (a1 b1:Nat) (c1:World),(Builtin.append_ #[35,35] 35 #[.slice v x y,.slice b c d]).run prog u=.ok (.slice z a1 b1) c1/\bj prog 28 #[.slice z a1 b1] c1 fun d1 e1=>∃f1:OA,∃g1 i1:Nat,d1=.slice f1 g1 i1/\Holds none [] prog 179 (.loop (lB (bB (sR (sL (sR (sR (sR (sR (body Tryz.f21)))))))))) (ae.q1 K) [(0,.pointer a),(4,.pointer (some e)),(6,.pointer (some f)),(7,.slice g i j),(8,.pointer (some k)),(9,.slice m n o),(10,.slice f1 g1 i1),(11,.int .i64 0)] e1
theorem ae.j2:(aU none [] prog 179 ae.k (sR (sR (sR (body Tryz.f21)))) (aN Tryz.f21) (bI prog Tryz.f21 K) [(0,.pointer a),(2,.slice b c d),(4,.pointer (some e)),(6,.pointer (some f)),(7,.slice g i j),(8,.pointer (some k)),(9,.slice m n o)] w)=ae.J2 a b c d e f g i j k m n o K w:=by kernel_rfl
variable{a b c d e f g i j k m n o K w}
theorem ae.qj(h:ae.J2 a b c d e f g i j k m n o K w):Holds none [] prog 179 (sR (sR (sR (body Tryz.f21)))) (bI prog Tryz.f21 K) [(0,.pointer a),(2,.slice b c d),(4,.pointer (some e)),(6,.pointer (some f)),(7,.slice g i j),(8,.pointer (some k)),(9,.slice m n o)] w:=
 cK (C:=ae.k) ng mix (ae.j2 a b c d e f g i j k m n o K w) h
end
section
variable(a:OA)(b c:Addr)(d:OA)(e f:Nat)(g:Addr)(i:OA)(j k:Nat)(m:OA)(n o:Nat)(p:Int)(Q:aM)(w:World)
def ae.B1:Prop:=
 Split (decide (p<(n:Int))) ((0<=p/\p<(n:Int))/\Is m fun q:Addr=>∃r:AV,(r.size=32/\Cells w (q.add (p.toNat*32)) r)/\let t:=w.alloc (.cells zH 23);(r.size=32/\(∀u∈r.toList,u.oneCell'=true)/\∀v,v<32->Wr t ((⟨w.heap.size,0,none⟩:Addr).add v))/\let x:=setCells t (⟨w.heap.size,0,none⟩:Addr) r.toList 0;let y:=x.drew;∃z:AV,(z.size=32/\Cells y (⟨w.heap.size,0,none⟩:Addr) z)/\∃a1:AV,(a1.size=32/\Cells y b a1)/\(dP .u8 32 z/\dP .u8 32 a1)/\Split (eT z a1) (Q .normal [(0,.pointer a),(4,.pointer (some b)),(6,.pointer (some c)),(7,.slice d e f),(8,.pointer (some g)),(9,.slice i j k),(10,.slice m n o),(11,.int .i64 (i64.wrap (p+(1:Int))))] y) (Is a fun b1:Addr=>∃c1:OA,y.cell? (b1.add 1)=some (.pointer c1)/\Is c1 fun d1:Addr=>∃e1:AV,(e1.size=32/\Cells y (⟨w.heap.size,0,none⟩:Addr) e1)/\∃f1:AV,(f1.size=32/\Cells y b f1)/\bj prog 50 #[.pointer (some (d1.add 0)),.agg e1,.agg f1] y fun g1 i1=>∃j1:Bool,g1=.bool j1/\Split j1 (Q .normal [(0,.pointer a),(4,.pointer (some b)),(6,.pointer (some c)),(7,.slice d e f),(8,.pointer (some g)),(9,.slice i j k),(10,.slice m n o),(11,.int .i64 (i64.wrap (p+(1:Int))))] i1) (∃k1:OA,∃m1 n1:Nat,i1.cell? (g.add 33)=some (.slice k1 m1 n1)/\Holds none [] prog 179 (.loop (lB (bB (sL (sR (sR (sR (bB (sL (sR (lB (bB (sR (sL (sR (sR (sR (sR (body Tryz.f21))))))))))))))))))) (ae.q2 Q) [(0,.pointer a),(4,.pointer (some b)),(6,.pointer (some c)),(7,.slice d e f),(8,.pointer (some g)),(9,.slice i j k),(10,.slice m n o),(11,.int .i64 p),(12,.pointer (some (⟨w.heap.size,0,none⟩:Addr))),(13,.int .i64 (m1:Int))] i1))) (Q (.exit 0) [(0,.pointer a),(4,.pointer (some b)),(6,.pointer (some c)),(7,.slice d e f),(8,.pointer (some g)),(9,.slice i j k),(10,.slice m n o),(11,.int .i64 p)] w)
theorem ae.b1:(aU none [] prog 179 ae.k (lB (bB (sR (sL (sR (sR (sR (sR (body Tryz.f21))))))))) ae.u1 Q [(0,.pointer a),(4,.pointer (some b)),(6,.pointer (some c)),(7,.slice d e f),(8,.pointer (some g)),(9,.slice i j k),(10,.slice m n o),(11,.int .i64 p)] w)=ae.B1 a b c d e f g i j k m n o p Q w:=by kernel_rfl
variable{a b c d e f g i j k m n o}
theorem ae.b6(I:Int->World->Prop)(μ:Int->World->Nat)(s:Int){Q:aM}{w:World}(h0:I s w)
 (round:∀s w,I s w->ae.B1 a b c d e f g i j k m n o s (bH (ae.e1 a b c d e f g i j k m n o) I μ s w Q) w):Holds none [] prog 179 (.loop (lB (bB (sR (sL (sR (sR (sR (sR (body Tryz.f21)))))))))) Q (ae.e1 a b c d e f g i j k m n o s) w:=
 ba ng mix (ae.e1 a b c d e f g i j k m n o) I μ ae.k ae.u1 s (fun s Q w=>ae.B1 a b c d e f g i j k m n o s Q w) (fun s Q w=>ae.b1 a b c d e f g i j k m n o s Q w) h0 round
end
section
def ae.cI(a:OA)(b c:Addr)(d:OA)(e f:Nat)(g:Addr)(i:OA)(j k:Nat)(m:OA)(n o:Nat)(p:Int)(K:KT)(w:World):Prop:=
 Holds none [] prog 179 (.loop (lB (bB (sR (sL (sR (sR (sR (sR (sR (body Tryz.f21))))))))))) (ae.q3 K) [(0,.pointer a),(6,.pointer (some c)),(7,.slice d e f),(8,.pointer (some g)),(9,.slice i j k),(15,.int .i64 0)] w
variable(a:OA)(b c:Addr)(d:OA)(e f:Nat)(g:Addr)(i:OA)(j k:Nat)(m:OA)(n o:Nat)(p:Int)(K:KT)(w:World)
theorem ae.cX:(ae.q1 K (.exit 0) [(0,.pointer a),(4,.pointer (some b)),(6,.pointer (some c)),(7,.slice d e f),(8,.pointer (some g)),(9,.slice i j k),(10,.slice m n o),(11,.int .i64 p)] w)=ae.cI a b c d e f g i j k m n o p K w:=by kernel_rfl
end
section
variable(a:OA)(b c:Addr)(d:OA)(e f:Nat)(g:Addr)(i:OA)(j k:Nat)(m:OA)(n o:Nat)(p:Int)(q:Addr)(r:Int)(Q:aM)(w:World)
def ae.B2:Prop:=
 let t:=w.drew;Split (decide (r>(0:Int))) (∃u:AV,(u.size=32/\Cells t q u)/\∃v:OA,∃x y:Nat,t.cell? (g.add 33)=some (.slice v x y)/\(0<=(i64.wrap (r-(1:Int)))/\(i64.wrap (r-(1:Int)))<(x:Int))/\Is v fun z:Addr=>∃a1:AV,(a1.size=32/\Cells t (z.add ((i64.wrap (r-(1:Int))).toNat*32)) a1)/\bj prog 22 #[.pointer a,.agg u,.agg a1] t fun b1 c1=>∃d1:Bool,b1=.bool d1/\Split d1 (Q .normal [(0,.pointer a),(4,.pointer (some b)),(6,.pointer (some c)),(7,.slice d e f),(8,.pointer (some g)),(9,.slice i j k),(10,.slice m n o),(11,.int .i64 p),(12,.pointer (some q)),(13,.int .i64 (i64.wrap (r-(1:Int))))] c1) (Q (.exit 2) [(0,.pointer a),(4,.pointer (some b)),(6,.pointer (some c)),(7,.slice d e f),(8,.pointer (some g)),(9,.slice i j k),(10,.slice m n o),(11,.int .i64 p),(12,.pointer (some q)),(13,.int .i64 r)] c1)) (Q (.exit 2) [(0,.pointer a),(4,.pointer (some b)),(6,.pointer (some c)),(7,.slice d e f),(8,.pointer (some g)),(9,.slice i j k),(10,.slice m n o),(11,.int .i64 p),(12,.pointer (some q)),(13,.int .i64 r)] t)
theorem ae.b2:(aU none [] prog 179 ae.k (lB (bB (sL (sR (sR (sR (bB (sL (sR (lB (bB (sR (sL (sR (sR (sR (sR (body Tryz.f21)))))))))))))))))) ae.u2 Q [(0,.pointer a),(4,.pointer (some b)),(6,.pointer (some c)),(7,.slice d e f),(8,.pointer (some g)),(9,.slice i j k),(10,.slice m n o),(11,.int .i64 p),(12,.pointer (some q)),(13,.int .i64 r)] w)=ae.B2 a b c d e f g i j k m n o p q r Q w:=by kernel_rfl
variable{a b c d e f g i j k m n o p q}
theorem ae.gI(I:Int->World->Prop)(μ:Int->World->Nat)(s:Int){Q:aM}{w:World}(h0:I s w)
 (round:∀s w,I s w->ae.B2 a b c d e f g i j k m n o p q s (bH (ae.e2 a b c d e f g i j k m n o p q) I μ s w Q) w):Holds none [] prog 179 (.loop (lB (bB (sL (sR (sR (sR (bB (sL (sR (lB (bB (sR (sL (sR (sR (sR (sR (body Tryz.f21))))))))))))))))))) Q (ae.e2 a b c d e f g i j k m n o p q s) w:=
 ba ng mix (ae.e2 a b c d e f g i j k m n o p q) I μ ae.k ae.u2 s (fun s Q w=>ae.B2 a b c d e f g i j k m n o p q s Q w) (fun s Q w=>ae.b2 a b c d e f g i j k m n o p q s Q w) h0 round
end
section
variable(a:OA)(b c:Addr)(d:OA)(e f:Nat)(g:Addr)(i:OA)(j k:Nat)(m:OA)(n o:Nat)(p:Int)(q:Addr)(r:Int)(Q:aM)(w:World)
def ae.iE:Prop:=
 ∃t:OA,∃u v:Nat,w.cell? (g.add 33)=some (.slice t u v)/\(0<=r/\r<=(v:Int))/\∃(x:OA) (y z:Nat) (a1:World),(Builtin.append_ #[35,35] 35 #[.slice none 0 0,.slice (if v=0 then t else t.map (·.add (0*32))) (r.toNat-0) (v-0)]).run prog w=.ok (.slice x y z) a1/\∃b1:AV,(b1.size=32/\Cells a1 q b1)/\b1.size=32/\let c1:=a1.alloc (.cells (b1.toList++ []).toArray 23);∃(d1:OA) (e1 f1:Nat) (g1:World),(Builtin.append_ #[35,35] 35 #[.slice x y z,.slice (some (⟨a1.heap.size,0,none⟩:Addr)) 1 1]).run prog c1=.ok (.slice d1 e1 f1) g1/\∃i1:OA,∃j1 k1:Nat,g1.cell? (g.add 33)=some (.slice i1 j1 k1)/\(0<=r/\r<=(j1:Int))/\∃(m1:OA) (n1 o1:Nat) (p1:World),(Builtin.append_ #[35,35] 35 #[.slice d1 e1 f1,.slice (if k1=r.toNat then i1 else i1.map (·.add (r.toNat*32))) (j1-r.toNat) (k1-r.toNat)]).run prog g1=.ok (.slice m1 n1 o1) p1/\Wr p1 (g.add 33)/\let q1:=p1.setCell (g.add 33) (.slice m1 n1 o1);Q .normal [(0,.pointer a),(4,.pointer (some b)),(6,.pointer (some c)),(7,.slice d e f),(8,.pointer (some g)),(9,.slice i j k),(10,.slice m n o),(11,.int .i64 (i64.wrap (p+(1:Int))))] q1
theorem ae.jJ:(ae.q2 Q (.exit 2) [(0,.pointer a),(4,.pointer (some b)),(6,.pointer (some c)),(7,.slice d e f),(8,.pointer (some g)),(9,.slice i j k),(10,.slice m n o),(11,.int .i64 p),(12,.pointer (some q)),(13,.int .i64 r)] w)=ae.iE a b c d e f g i j k m n o p q r Q w:=by kernel_rfl
end
section
variable(a:OA)(b:Addr)(c:OA)(d e:Nat)(f:Addr)(g:OA)(i j:Nat)(k:Int)(Q:aM)(w:World)
def ae.B3:Prop:=
 ∃m:OA,∃n o:Nat,w.cell? (f.add 33)=some (.slice m n o)/\Split (decide (k<(n:Int))) (∃p:OA,∃q r:Nat,w.cell? (f.add 33)=some (.slice p q r)/\(0<=k/\k<(q:Int))/\Is p fun t:Addr=>∃u:AV,(u.size=32/\Cells w (t.add (k.toNat*32)) u)/\bj prog 51 #[.pointer a,.slice g i j,.agg u] w fun v x=>∃y:OA,∃z a1:Nat,v=.slice y z a1/\Is a fun b1:Addr=>∃c1:Int,x.cell? (b1.add 0)=some (.int .i64 c1)/\Holds none [] prog 179 (.loop (lB (bB (sR (sL (sR (sR (bB (sL (sR (lB (bB (sR (sL (sR (sR (sR (sR (sR (body Tryz.f21)))))))))))))))))))) (ae.q4 Q) [(0,.pointer a),(6,.pointer (some b)),(7,.slice c d e),(8,.pointer (some f)),(9,.slice g i j),(15,.int .i64 k),(16,.slice y z a1),(17,.bool (decide ((z:Int)<=c1))),(18,.int .i64 0)] x) (Q (.exit 4) [(0,.pointer a),(6,.pointer (some b)),(7,.slice c d e),(8,.pointer (some f)),(9,.slice g i j),(15,.int .i64 k)] w)
theorem ae.b3:(aU none [] prog 179 ae.k (lB (bB (sR (sL (sR (sR (sR (sR (sR (body Tryz.f21)))))))))) ae.u3 Q [(0,.pointer a),(6,.pointer (some b)),(7,.slice c d e),(8,.pointer (some f)),(9,.slice g i j),(15,.int .i64 k)] w)=ae.B3 a b c d e f g i j k Q w:=by kernel_rfl
variable{a b c d e f}
theorem ae.rr(I:(OA)×Nat×Nat×Int->World->Prop)(μ:(OA)×Nat×Nat×Int->World->Nat)(s:(OA)×Nat×Nat×Int){Q:aM}{w:World}(h0:I s w)
 (round:∀s w,I s w->ae.B3 a b c d e f (s.1) (s.2.1) (s.2.2.1) (s.2.2.2) (bH (ae.e3 a b c d e f) I μ s w Q) w):Holds none [] prog 179 (.loop (lB (bB (sR (sL (sR (sR (sR (sR (sR (body Tryz.f21))))))))))) Q (ae.e3 a b c d e f s) w:=
 ba ng mix (ae.e3 a b c d e f) I μ ae.k ae.u3 s (fun s Q w=>ae.B3 a b c d e f (s.1) (s.2.1) (s.2.2.1) (s.2.2.2) Q w) (fun s Q w=>ae.b3 a b c d e f (s.1) (s.2.1) (s.2.2.1) (s.2.2.2) Q w) h0 round
end
section
def ae.rU(a:OA)(b:Addr)(c:OA)(d e:Nat)(f:Addr)(g:OA)(i j:Nat)(k:Int)(K:KT)(w:World):Prop:=
 ∃m:AV,(m.size=35/\Cells w f m)/\(m.size=35/\(∀n∈m.toList,n.oneCell'=true)/\∀o,o<35->Wr w (b.add o))/\let p:=setCells w b m.toList 0;∃q:AV,(q.size=35/\Cells p b q)/\K (.tuple #[.agg q,.slice g i j]) p
variable(a:OA)(b:Addr)(c:OA)(d e:Nat)(f:Addr)(g:OA)(i j:Nat)(k:Int)(K:KT)(w:World)
theorem ae.xD:(ae.q3 K (.exit 4) [(0,.pointer a),(6,.pointer (some b)),(7,.slice c d e),(8,.pointer (some f)),(9,.slice g i j),(15,.int .i64 k)] w)=ae.rU a b c d e f g i j k K w:=by kernel_rfl
end
section
variable(a:OA)(b:Addr)(c:OA)(d e:Nat)(f:Addr)(g:OA)(i j:Nat)(k:Int)(m:OA)(n o:Nat)(p:Bool)(q:Int)(Q:aM)(w:World)
def ae.B4:Prop:=
 Split (decide (q<(n:Int))) (Split p (let r:=w.drew;(0<=q/\q<(n:Int))/\Is m fun t:Addr=>∃u:AV,(u.size=32/\Cells r (t.add (q.toNat*32)) u)/\Is a fun v:Addr=>∃x:Int,r.cell? (v.add 0)=some (.int .i64 x)/\bj prog 51 #[.pointer a,.slice g i j,.agg u] r fun y z=>∃a1:OA,∃b1 c1:Nat,y=.slice a1 b1 c1/\z.cell? (v.add 0)=some (.int .i64 x)/\Q .normal [(0,.pointer a),(6,.pointer (some b)),(7,.slice c d e),(8,.pointer (some f)),(9,.slice g i j),(15,.int .i64 k),(16,.slice m n o),(17,.bool (decide ((b1:Int)<=(i64.wrap (x-(1:Int)))))),(18,.int .i64 (i64.wrap (q+(1:Int))))] z) (Q (.exit 6) [(0,.pointer a),(6,.pointer (some b)),(7,.slice c d e),(8,.pointer (some f)),(9,.slice g i j),(15,.int .i64 k),(16,.slice m n o),(17,.bool p),(18,.int .i64 q)] w)) (Q (.exit 6) [(0,.pointer a),(6,.pointer (some b)),(7,.slice c d e),(8,.pointer (some f)),(9,.slice g i j),(15,.int .i64 k),(16,.slice m n o),(17,.bool p),(18,.int .i64 q)] w)
theorem ae.b4:(aU none [] prog 179 ae.k (lB (bB (sR (sL (sR (sR (bB (sL (sR (lB (bB (sR (sL (sR (sR (sR (sR (sR (body Tryz.f21))))))))))))))))))) ae.u4 Q [(0,.pointer a),(6,.pointer (some b)),(7,.slice c d e),(8,.pointer (some f)),(9,.slice g i j),(15,.int .i64 k),(16,.slice m n o),(17,.bool p),(18,.int .i64 q)] w)=ae.B4 a b c d e f g i j k m n o p q Q w:=by kernel_rfl
variable{a b c d e f g i j k m n o}
theorem ae.zz(I:Bool×Int->World->Prop)(μ:Bool×Int->World->Nat)(s:Bool×Int){Q:aM}{w:World}(h0:I s w)
 (round:∀s w,I s w->ae.B4 a b c d e f g i j k m n o (s.1) (s.2) (bH (ae.e4 a b c d e f g i j k m n o) I μ s w Q) w):Holds none [] prog 179 (.loop (lB (bB (sR (sL (sR (sR (bB (sL (sR (lB (bB (sR (sL (sR (sR (sR (sR (sR (body Tryz.f21)))))))))))))))))))) Q (ae.e4 a b c d e f g i j k m n o s) w:=
 ba ng mix (ae.e4 a b c d e f g i j k m n o) I μ ae.k ae.u4 s (fun s Q w=>ae.B4 a b c d e f g i j k m n o (s.1) (s.2) Q w) (fun s Q w=>ae.b4 a b c d e f g i j k m n o (s.1) (s.2) Q w) h0 round
end
section
def ae.vD(a:OA)(b:Addr)(c:OA)(d e:Nat)(f:Addr)(g:OA)(i j:Nat)(k:Int)(m:OA)(n o:Nat)(p:Bool)(q:Int)(Q:aM)(w:World):Prop:=
 ∃r:OA,∃t u:Nat,w.cell? (f.add 34)=some (.slice r t u)/\let v:=w.alloc (.cells #[.bool p] 4);∃(x:OA) (y z:Nat) (a1:World),(Builtin.append_ #[50,50] 50 #[.slice r t u,.slice (some (⟨w.heap.size,0,none⟩:Addr)) 1 1]).run prog v=.ok (.slice x y z) a1/\Wr a1 (f.add 34)/\let b1:=a1.setCell (f.add 34) (.slice x y z);Split p (∃c1:OA,∃d1 e1:Nat,b1.cell? (f.add 33)=some (.slice c1 d1 e1)/\(0<=k/\k<(d1:Int))/\Is c1 fun f1:Addr=>∃g1:AV,(g1.size=32/\Cells b1 (f1.add (k.toNat*32)) g1)/\g1.size=32/\let i1:=b1.alloc (.cells (g1.toList++ []).toArray 23);∃(j1:OA) (k1 m1:Nat) (n1:World),(Builtin.append_ #[35,35] 35 #[.slice g i j,.slice (some (⟨b1.heap.size,0,none⟩:Addr)) 1 1]).run prog i1=.ok (.slice j1 k1 m1) n1/\∃o1:Int,n1.cell? (f.add 32)=some (.int .u64 o1)/\Wr n1 (f.add 32)/\let p1:=n1.setCell (f.add 32) (.int .u64 (u64.wrap (o1+(1:Int))));Q .normal [(0,.pointer a),(6,.pointer (some b)),(7,.slice c d e),(8,.pointer (some f)),(9,.slice j1 k1 m1),(15,.int .i64 (i64.wrap (k+(1:Int))))] p1) (Q .normal [(0,.pointer a),(6,.pointer (some b)),(7,.slice c d e),(8,.pointer (some f)),(9,.slice g i j),(15,.int .i64 (i64.wrap (k+(1:Int))))] b1)
variable(a:OA)(b:Addr)(c:OA)(d e:Nat)(f:Addr)(g:OA)(i j:Nat)(k:Int)(m:OA)(n o:Nat)(p:Bool)(q:Int)(Q:aM)(w:World)
theorem ae.Br:(ae.q4 Q (.exit 6) [(0,.pointer a),(6,.pointer (some b)),(7,.slice c d e),(8,.pointer (some f)),(9,.slice g i j),(15,.int .i64 k),(16,.slice m n o),(17,.bool p),(18,.int .i64 q)] w)=ae.vD a b c d e f g i j k m n o p q Q w:=by kernel_rfl
end
def dM.k:List Nat:= []
section
variable(a:OA)(b d:AV)(K:KT)(w:World)
def dM.W:Prop:=
 let e:=w.alloc (.cells b 23);let f:=e.alloc (.cells d 23);let g:=f.drew;∃i:AV,(i.size=32/\Cells g (⟨w.heap.size,0,none⟩:Addr) i)/\∃j:AV,(j.size=32/\Cells g (⟨e.heap.size,0,none⟩:Addr) j)/\bj prog 49 #[.pointer a,.agg i] g fun k m=>∃n:Int,k=.int .u64 n/\(∃cs:AV,(.agg j:Value)=.agg cs/\cs.size=32/\Cells m (⟨e.heap.size,0,none⟩:Addr) cs)/\bj prog 49 #[.pointer a,.agg j] m fun o p=>∃q:Int,o=.int .u64 q/\Split (n != q) (K (.bool (decide (n<q))) p) (∃r:AV,(r.size=32/\Cells p (⟨w.heap.size,0,none⟩:Addr) r)/\∃t:AV,(t.size=32/\Cells p (⟨e.heap.size,0,none⟩:Addr) t)/\bj prog 52 #[.agg r,.agg t] p fun u v=>∃x:Int,u=.int .i64 x/\K (.bool (decide (x<(0:Int)))) v)
variable{a b d K w}
theorem dM.of(h:dM.W a b d K w):bj prog 22 #[.pointer a,.agg b,.agg d] w K:=
 rqq func22 (C:=dM.k) h
end
def jD.k:List Nat:= []
section
variable(a:Int)(b:AV)(K:KT)(w:World)
def jD.W:Prop:=
 let d:=w.alloc (.cells b 23);∃e:AV,(e.size=32/\Cells d (⟨w.heap.size,0,none⟩:Addr) e)/\bj prog 61 #[.agg e] d fun f g=>∃i:OA,f=.pointer i/\35=35/\let j:=g.alloc (.cells zC 52);let k:=j.alloc (.cells #[.slice none 0 0] 35);let m:=k.alloc (.cells (#[.int .i64 a,.pointer i,.slice (some (⟨g.heap.size,0,none⟩:Addr)) 1 1,.slice (some (⟨j.heap.size,0,none⟩:Addr)) 1 1]:AV) 45);K (.pointer (some (⟨k.heap.size,0,none⟩:Addr))) m
variable{a b K w}
theorem jD.of(h:jD.W a b K w):bj prog 37 #[.int .i64 a,.agg b] w K:=
 rqq func37 (C:=jD.k) h
end
def dE.k:List Nat:= []
section
variable(a:OA)(b:AV)(d:OA)(e f:Nat)(K:KT)(w:World)
def dE.W:Prop:=
 let g:=w.alloc (.cells b 23);let i:=g.alloc (.cells zC 52);Is a fun j:Addr=>∃k:OA,i.cell? (j.add 1)=some (.pointer k)/\Is k fun m:Addr=>∃n:AV,(n.size=1/\Cells i (m.add 0) n)/\let o:=i.alloc (.cells (#[.slice none 0 0]:AV) 38);(n.size=1/\(∀p∈n.toList,p.oneCell'=true)/\∀q,q<1->Wr o ((⟨i.heap.size,0,none⟩:Addr).add q))/\let r:=setCells o (⟨i.heap.size,0,none⟩:Addr) n.toList 0;∃t:AV,(t.size=32/\Cells r (⟨w.heap.size,0,none⟩:Addr) t)/\bj prog 62 #[.pointer (some (⟨i.heap.size,0,none⟩:Addr)),.agg t,.slice d e f] r fun u v=>∃x:Int,u=.int .i64 x/\Split (x != (0:Int)) ((zC.size=35/\(∀y∈zC.toList,y.oneCell'=true)/\∀z,z<35->Wr v ((⟨g.heap.size,0,none⟩:Addr).add z))/\let a1:=setCells v (⟨g.heap.size,0,none⟩:Addr) zC.toList 0;∃b1:AV,(b1.size=35/\Cells a1 (⟨g.heap.size,0,none⟩:Addr) b1)/\K (.tuple #[.agg b1,.int .i64 x]) a1) (bj prog 20 #[.pointer a,.slice d e f] v fun c1 d1=>∃e1:AV,c1=.agg e1/\let f1:=d1.alloc (.cells zH 23);(e1.size=32/\(∀g1∈e1.toList,g1.oneCell'=true)/\∀i1,i1<32->Wr f1 ((⟨d1.heap.size,0,none⟩:Addr).add i1))/\let j1:=setCells f1 (⟨d1.heap.size,0,none⟩:Addr) e1.toList 0;∃k1:AV,(k1.size=32/\Cells j1 (⟨d1.heap.size,0,none⟩:Addr) k1)/\bj prog 21 #[.pointer a,.agg k1,.slice d e f] j1 fun m1 n1=>∃o1:AV,∃p1:OA,∃q1 r1:Nat,m1=.tuple #[.agg o1,.slice p1 q1 r1]/\let t1:=n1.alloc (.cells zC 52);(o1.size=35/\(∀u1∈o1.toList,u1.oneCell'=true)/\∀v1,v1<35->Wr t1 ((⟨n1.heap.size,0,none⟩:Addr).add v1))/\let x1:=setCells t1 (⟨n1.heap.size,0,none⟩:Addr) o1.toList 0;let y1:=x1.drew;Is a fun z1:Addr=>∃a2:OA,y1.cell? (z1.add 1)=some (.pointer a2)/\∃b2:AV,(b2.size=32/\Cells y1 (⟨w.heap.size,0,none⟩:Addr) b2)/\∃c2:AV,(c2.size=32/\Cells y1 (⟨d1.heap.size,0,none⟩:Addr) c2)/\bj prog 63 #[.pointer a2,.agg b2,.agg c2,.slice d e f] y1 fun d2 e2=>∃f2:Int,d2=.int .i64 f2/\let g2:=e2.drew;Is a fun i2:Addr=>∃j2:OA,∃k2 m2:Nat,g2.cell? (i2.add 2)=some (.slice j2 k2 m2)/\∃n2:AV,(n2.size=35/\Cells g2 (⟨n1.heap.size,0,none⟩:Addr) n2)/\(∃(o2:OA) (p2 q2:Nat) (r2:World),(Builtin.append_ #[42,42] 42 #[.slice none 0 0,.slice j2 k2 m2]).run prog g2=.ok (.slice o2 p2 q2) r2/\(∃cs:AV,(.agg n2:Value)=.agg cs/\cs.size=35/\Cells r2 (⟨n1.heap.size,0,none⟩:Addr) cs)/\n2.size=35/\let t2:=r2.alloc (.cells (n2.toList++ []).toArray 52);∃(u2:OA) (v2 x2:Nat) (y2:World),(Builtin.append_ #[42,42] 42 #[.slice o2 p2 q2,.slice (some (⟨r2.heap.size,0,none⟩:Addr)) 1 1]).run prog t2=.ok (.slice u2 v2 x2) y2/\Is a fun z2:Addr=>Wr y2 (z2.add 2)/\let a3:=y2.setCell (z2.add 2) (.slice u2 v2 x2);Is a fun b3:Addr=>∃c3:OA,∃d3 e3:Nat,a3.cell? (b3.add 3)=some (.slice c3 d3 e3)/\∃(f3:OA) (g3 i3:Nat) (j3:World),(Builtin.append_ #[43,43] 43 #[.slice none 0 0,.slice c3 d3 e3]).run prog a3=.ok (.slice f3 g3 i3) j3/\let k3:=j3.alloc (.cells #[.slice p1 q1 r1] 35);∃(m3:OA) (n3 o3:Nat) (p3:World),(Builtin.append_ #[43,43] 43 #[.slice f3 g3 i3,.slice (some (⟨j3.heap.size,0,none⟩:Addr)) 1 1]).run prog k3=.ok (.slice m3 n3 o3) p3/\Is a fun q3:Addr=>Wr p3 (q3.add 3)/\let r3:=p3.setCell (q3.add 3) (.slice m3 n3 o3);∃t3:AV,(t3.size=35/\Cells r3 (⟨n1.heap.size,0,none⟩:Addr) t3)/\(t3.size=35/\(∀u3∈t3.toList,u3.oneCell'=true)/\∀v3,v3<35->Wr r3 ((⟨g.heap.size,0,none⟩:Addr).add v3))/\let x3:=setCells r3 (⟨g.heap.size,0,none⟩:Addr) t3.toList 0;∃y3:AV,(y3.size=35/\Cells x3 (⟨g.heap.size,0,none⟩:Addr) y3)/\K (.tuple #[.agg y3,.int .i64 0]) x3)/\(n2.size=35/\let z3:=g2.alloc (.cells (n2.toList++ []).toArray 52);z3.cell? (i2.add 2)=some (.slice j2 k2 m2)/\∃(a4:OA) (b4 c4:Nat) (d4:World),(Builtin.append_ #[42,42] 42 #[.slice none 0 0,.slice j2 k2 m2]).run prog z3=.ok (.slice a4 b4 c4) d4/\∃(e4:OA) (f4 g4:Nat) (i4:World),(Builtin.append_ #[42,42] 42 #[.slice a4 b4 c4,.slice (some (⟨g2.heap.size,0,none⟩:Addr)) 1 1]).run prog d4=.ok (.slice e4 f4 g4) i4/\Is a fun j4:Addr=>Wr i4 (j4.add 2)/\let k4:=i4.setCell (j4.add 2) (.slice e4 f4 g4);Is a fun m4:Addr=>∃n4:OA,∃o4 p4:Nat,k4.cell? (m4.add 3)=some (.slice n4 o4 p4)/\∃(q4:OA) (r4 t4:Nat) (u4:World),(Builtin.append_ #[43,43] 43 #[.slice none 0 0,.slice n4 o4 p4]).run prog k4=.ok (.slice q4 r4 t4) u4/\let v4:=u4.alloc (.cells #[.slice p1 q1 r1] 35);∃(x4:OA) (y4 z4:Nat) (a5:World),(Builtin.append_ #[43,43] 43 #[.slice q4 r4 t4,.slice (some (⟨u4.heap.size,0,none⟩:Addr)) 1 1]).run prog v4=.ok (.slice x4 y4 z4) a5/\Is a fun b5:Addr=>Wr a5 (b5.add 3)/\let c5:=a5.setCell (b5.add 3) (.slice x4 y4 z4);∃d5:AV,(d5.size=35/\Cells c5 (⟨n1.heap.size,0,none⟩:Addr) d5)/\(d5.size=35/\(∀e5∈d5.toList,e5.oneCell'=true)/\∀f5,f5<35->Wr c5 ((⟨g.heap.size,0,none⟩:Addr).add f5))/\let g5:=setCells c5 (⟨g.heap.size,0,none⟩:Addr) d5.toList 0;∃i5:AV,(i5.size=35/\Cells g5 (⟨g.heap.size,0,none⟩:Addr) i5)/\K (.tuple #[.agg i5,.int .i64 0]) g5))
variable{a b d e f K w}
theorem dE.of(h:dE.W a b d e f K w):bj prog 38 #[.pointer a,.agg b,.slice d e f] w K:=
 rqq func38 (C:=dE.k) h
end
def dz.k:List Nat:= []
section
variable(a:OA)(b:AV)(K:KT)(w:World)
def dz.W:Prop:=
 let d:=w.alloc (.cells b 23);let e:=d.drew;Is a fun f:Addr=>∃g:OA,∃i j:Nat,e.cell? (f.add 2)=some (.slice g i j)/\Is a fun k:Addr=>∃m:OA,e.cell? (k.add 1)=some (.pointer m)/\Is m fun n:Addr=>∃o:AV,(o.size=32/\Cells e (⟨w.heap.size,0,none⟩:Addr) o)/\bj prog 48 #[.pointer (some (n.add 0)),.agg o] e fun p q=>∃r:Int,p=.int .i64 r/\q.cell? (f.add 2)=some (.slice g i j)/\(0<=r/\r<(i:Int))/\Is g fun t:Addr=>∃u:Int,q.cell? ((t.add (r.toNat*35)).add 32)=some (.int .u64 u)/\K (.int .u64 u) q
variable{a b K w}
theorem dz.of(h:dz.W a b K w):bj prog 49 #[.pointer a,.agg b] w K:=
 rqq func49 (C:=dz.k) h
end
def aY.k:List Nat:= []
def aY.q1(K:KT):aM:=(aL 0 (b7 (sR (sR (sR (body f51))))++(aN f51)) (bQ (fun bV w_=>match cutAt aY.k (sR (sR (sR (body f51))))with|true=>Holds none [] prog 35 (sR (sR (sR (body f51)))) (bI prog f51 K) bV w_|false=>aU none [] prog 35 aY.k (sR (sR (sR (body f51)))) (aN f51) (bI prog f51 K) bV w_) (bI prog f51 K)))
def aY.e1(a b:OA)(c d:Nat)(e:Addr)(f:OA)(g i:Nat)(s:(OA)×Nat×Nat×Int):Env:= [(0,.pointer a),(1,.slice b c d),(5,.pointer (some e)),(6,.slice f g i),(7,.slice s.1 s.2.1 s.2.2.1),(8,.int .i64 s.2.2.2)]
def aY.u1:List Nat:= [0,1,5,6,7,8]
section
variable(a b:OA)(d e:Nat)(f:AV)(K:KT)(w:World)
def aY.W:Prop:=
 let g:=w.alloc (.cells f 23);Holds none [] prog 35 (.loop (lB (bB (sR (sL (sR (sR (body f51)))))))) (aY.q1 K) [(0,.pointer a),(1,.slice b d e),(5,.pointer (some (⟨w.heap.size,0,none⟩:Addr))),(6,.slice none 0 0),(7,.slice none 0 0),(8,.int .i64 0)] g
variable{a b d e f K w}
theorem aY.of(h:aY.W a b d e f K w):bj prog 51 #[.pointer a,.slice b d e,.agg f] w K:=
 rqq func51 (C:=aY.k) h
end
section
variable(a b:OA)(c d:Nat)(e:Addr)(f:OA)(g i:Nat)(j:OA)(k m:Nat)(n:Int)(Q:aM)(w:World)
def aY.B1:Prop:=
 Split (decide (n<(c:Int))) (let o:=w.drew;Is a fun p:Addr=>∃q:OA,o.cell? (p.add 1)=some (.pointer q)/\Is q fun r:Addr=>(0<=n/\n<(c:Int))/\Is b fun t:Addr=>∃u:AV,(u.size=32/\Cells o (t.add (n.toNat*32)) u)/\∃v:AV,(v.size=32/\Cells o e v)/\bj prog 25 #[.pointer (some (r.add 0)),.agg u,.agg v] o fun x y=>∃z:Bool,x=.bool z/\Split z ((0<=n/\n<(c:Int))/\Is b fun a1:Addr=>∃b1:AV,(b1.size=32/\Cells y (a1.add (n.toNat*32)) b1)/\b1.size=32/\let c1:=y.alloc (.cells (b1.toList++ []).toArray 23);∃(d1:OA) (e1 f1:Nat) (g1:World),(Builtin.append_ #[35,35] 35 #[.slice j k m,.slice (some (⟨y.heap.size,0,none⟩:Addr)) 1 1]).run prog c1=.ok (.slice d1 e1 f1) g1/\Q .normal [(0,.pointer a),(1,.slice b c d),(5,.pointer (some e)),(6,.slice f g i),(7,.slice d1 e1 f1),(8,.int .i64 (i64.wrap (n+(1:Int))))] g1) (Q .normal [(0,.pointer a),(1,.slice b c d),(5,.pointer (some e)),(6,.slice f g i),(7,.slice j k m),(8,.int .i64 (i64.wrap (n+(1:Int))))] y)) (Q (.exit 0) [(0,.pointer a),(1,.slice b c d),(5,.pointer (some e)),(6,.slice f g i),(7,.slice j k m),(8,.int .i64 n)] w)
theorem aY.b1:(aU none [] prog 35 aY.k (lB (bB (sR (sL (sR (sR (body f51))))))) aY.u1 Q [(0,.pointer a),(1,.slice b c d),(5,.pointer (some e)),(6,.slice f g i),(7,.slice j k m),(8,.int .i64 n)] w)=aY.B1 a b c d e f g i j k m n Q w:=by kernel_rfl
variable{a b c d e f g i}
theorem aY.b6(I:(OA)×Nat×Nat×Int->World->Prop)(μ:(OA)×Nat×Nat×Int->World->Nat)(s:(OA)×Nat×Nat×Int){Q:aM}{w:World}(h0:I s w)
 (round:∀s w,I s w->aY.B1 a b c d e f g i (s.1) (s.2.1) (s.2.2.1) (s.2.2.2) (bH (aY.e1 a b c d e f g i) I μ s w Q) w):Holds none [] prog 35 (.loop (lB (bB (sR (sL (sR (sR (body f51)))))))) Q (aY.e1 a b c d e f g i s) w:=
 ba ng mix (aY.e1 a b c d e f g i) I μ aY.k aY.u1 s (fun s Q w=>aY.B1 a b c d e f g i (s.1) (s.2.1) (s.2.2.1) (s.2.2.2) Q w) (fun s Q w=>aY.b1 a b c d e f g i (s.1) (s.2.1) (s.2.2.1) (s.2.2.2) Q w) h0 round
end
section
def aY.cI(a b:OA)(c d:Nat)(e:Addr)(f:OA)(g i:Nat)(j:OA)(k m:Nat)(n:Int)(K:KT)(w:World):Prop:=
 K (.slice j k m) w
variable(a b:OA)(c d:Nat)(e:Addr)(f:OA)(g i:Nat)(j:OA)(k m:Nat)(n:Int)(K:KT)(w:World)
theorem aY.cX:(aY.q1 K (.exit 0) [(0,.pointer a),(1,.slice b c d),(5,.pointer (some e)),(6,.slice f g i),(7,.slice j k m),(8,.int .i64 n)] w)=aY.cI a b c d e f g i j k m n K w:=by kernel_rfl
end
def ct.k:List Nat:= []
def ct.q1(K:KT):aM:=(aL 0 (b7 (sR (sR (body f9)))++(aN f9)) (bQ (fun bV w_=>match cutAt ct.k (sR (sR (body f9)))with|true=>Holds none [] prog 23 (sR (sR (body f9))) (bI prog f9 K) bV w_|false=>aU none [] prog 23 ct.k (sR (sR (body f9))) (aN f9) (bI prog f9 K) bV w_) (bI prog f9 K)))
def ct.e1(a:OA)(b c:Nat)(d:Int)(s:Bool×Int):Env:= [(0,.slice a b c),(1,.int .i64 d),(4,.bool s.1),(5,.int .i64 s.2)]
def ct.u1:List Nat:= [0,1,4,5]
section
variable(a:OA)(b d:Nat)(e:Int)(K:KT)(w:World)
def ct.W:Prop:=
 Holds none [] prog 23 (.loop (lB (bB (sR (sL (sR (body f9))))))) (ct.q1 K) [(0,.slice a b d),(1,.int .i64 e),(4,.bool false),(5,.int .i64 0)] w
variable{a b d e K w}
theorem ct.of(h:ct.W a b d e K w):bj prog 9 #[.slice a b d,.int .i64 e] w K:=
 rqq func9 (C:=ct.k) h
end
section
variable(a:OA)(b c:Nat)(d:Int)(e:Bool)(f:Int)(Q:aM)(w:World)
def ct.B1:Prop:=
 Split (decide (f<(b:Int))) ((0<=f/\f<(b:Int))/\Is a fun g:Addr=>∃i:OA,∃j k:Nat,w.cell? ((g.add (f.toNat*33)).add 32)=some (.slice i j k)/\Split (decide ((j:Int)>(6:Int))) (Q .ret [(0,.slice a b c),(1,.int .i64 d),(4,.bool false),(5,.int .i64 f)] w) (Q .normal [(0,.slice a b c),(1,.int .i64 d),(4,.bool e),(5,.int .i64 (i64.wrap (f+(1:Int))))] w)) (Q (.exit 0) [(0,.slice a b c),(1,.int .i64 d),(4,.bool e),(5,.int .i64 f)] w)
theorem ct.b1:(aU none [] prog 23 ct.k (lB (bB (sR (sL (sR (body f9)))))) ct.u1 Q [(0,.slice a b c),(1,.int .i64 d),(4,.bool e),(5,.int .i64 f)] w)=ct.B1 a b c d e f Q w:=by kernel_rfl
variable{a b c d}
theorem ct.b6(I:Bool×Int->World->Prop)(μ:Bool×Int->World->Nat)(s:Bool×Int){Q:aM}{w:World}(h0:I s w)
 (round:∀s w,I s w->ct.B1 a b c d (s.1) (s.2) (bH (ct.e1 a b c d) I μ s w Q) w):Holds none [] prog 23 (.loop (lB (bB (sR (sL (sR (body f9))))))) Q (ct.e1 a b c d s) w:=
 ba ng mix (ct.e1 a b c d) I μ ct.k ct.u1 s (fun s Q w=>ct.B1 a b c d (s.1) (s.2) Q w) (fun s Q w=>ct.b1 a b c d (s.1) (s.2) Q w) h0 round
end
section
def ct.cI(a:OA)(b c:Nat)(d:Int)(e:Bool)(f:Int)(K:KT)(w:World):Prop:=
 K (.bool (decide ((b:Int)<=d))) w
variable(a:OA)(b c:Nat)(d:Int)(e:Bool)(f:Int)(K:KT)(w:World)
theorem ct.cX:(ct.q1 K (.exit 0) [(0,.slice a b c),(1,.int .i64 d),(4,.bool e),(5,.int .i64 f)] w)=ct.cI a b c d e f K w:=by kernel_rfl
end
def gw.k:List Nat:= []
section
variable(K:KT)(w:World)
def gw.W:Prop:=
 let a:=w.alloc (.cells zH 23);let b:=a.alloc (.cells zH 23);let d:=b.alloc (.cells zH 23);let e:=d.alloc (.cells zH 23);((#[.int .u8 1,.int .u8 0,.int .u8 0,.int .u8 0,.int .u8 0,.int .u8 0,.int .u8 0,.int .u8 0,.int .u8 0,.int .u8 0,.int .u8 0,.int .u8 0,.int .u8 0,.int .u8 0,.int .u8 0,.int .u8 0,.int .u8 0,.int .u8 0,.int .u8 0,.int .u8 0,.int .u8 0,.int .u8 0,.int .u8 0,.int .u8 0,.int .u8 0,.int .u8 0,.int .u8 0,.int .u8 0,.int .u8 0,.int .u8 0,.int .u8 0,.int .u8 0]:AV).size=32/\(∀f∈(#[.int .u8 1,.int .u8 0,.int .u8 0,.int .u8 0,.int .u8 0,.int .u8 0,.int .u8 0,.int .u8 0,.int .u8 0,.int .u8 0,.int .u8 0,.int .u8 0,.int .u8 0,.int .u8 0,.int .u8 0,.int .u8 0,.int .u8 0,.int .u8 0,.int .u8 0,.int .u8 0,.int .u8 0,.int .u8 0,.int .u8 0,.int .u8 0,.int .u8 0,.int .u8 0,.int .u8 0,.int .u8 0,.int .u8 0,.int .u8 0,.int .u8 0,.int .u8 0]:AV).toList,f.oneCell'=true)/\∀g,g<32->Wr e ((⟨w.heap.size,0,none⟩:Addr).add g))/\let i:=setCells e (⟨w.heap.size,0,none⟩:Addr) (#[.int .u8 1,.int .u8 0,.int .u8 0,.int .u8 0,.int .u8 0,.int .u8 0,.int .u8 0,.int .u8 0,.int .u8 0,.int .u8 0,.int .u8 0,.int .u8 0,.int .u8 0,.int .u8 0,.int .u8 0,.int .u8 0,.int .u8 0,.int .u8 0,.int .u8 0,.int .u8 0,.int .u8 0,.int .u8 0,.int .u8 0,.int .u8 0,.int .u8 0,.int .u8 0,.int .u8 0,.int .u8 0,.int .u8 0,.int .u8 0,.int .u8 0,.int .u8 0]:AV).toList 0;((#[.int .u8 3,.int .u8 0,.int .u8 0,.int .u8 0,.int .u8 0,.int .u8 0,.int .u8 0,.int .u8 0,.int .u8 0,.int .u8 0,.int .u8 0,.int .u8 0,.int .u8 0,.int .u8 0,.int .u8 0,.int .u8 0,.int .u8 0,.int .u8 0,.int .u8 0,.int .u8 0,.int .u8 0,.int .u8 0,.int .u8 0,.int .u8 0,.int .u8 0,.int .u8 0,.int .u8 0,.int .u8 0,.int .u8 0,.int .u8 0,.int .u8 0,.int .u8 0]:AV).size=32/\(∀j∈(#[.int .u8 3,.int .u8 0,.int .u8 0,.int .u8 0,.int .u8 0,.int .u8 0,.int .u8 0,.int .u8 0,.int .u8 0,.int .u8 0,.int .u8 0,.int .u8 0,.int .u8 0,.int .u8 0,.int .u8 0,.int .u8 0,.int .u8 0,.int .u8 0,.int .u8 0,.int .u8 0,.int .u8 0,.int .u8 0,.int .u8 0,.int .u8 0,.int .u8 0,.int .u8 0,.int .u8 0,.int .u8 0,.int .u8 0,.int .u8 0,.int .u8 0,.int .u8 0]:AV).toList,j.oneCell'=true)/\∀k,k<32->Wr i ((⟨a.heap.size,0,none⟩:Addr).add k))/\let m:=setCells i (⟨a.heap.size,0,none⟩:Addr) (#[.int .u8 3,.int .u8 0,.int .u8 0,.int .u8 0,.int .u8 0,.int .u8 0,.int .u8 0,.int .u8 0,.int .u8 0,.int .u8 0,.int .u8 0,.int .u8 0,.int .u8 0,.int .u8 0,.int .u8 0,.int .u8 0,.int .u8 0,.int .u8 0,.int .u8 0,.int .u8 0,.int .u8 0,.int .u8 0,.int .u8 0,.int .u8 0,.int .u8 0,.int .u8 0,.int .u8 0,.int .u8 0,.int .u8 0,.int .u8 0,.int .u8 0,.int .u8 0]:AV).toList 0;((#[.int .u8 2,.int .u8 0,.int .u8 0,.int .u8 0,.int .u8 0,.int .u8 0,.int .u8 0,.int .u8 0,.int .u8 0,.int .u8 0,.int .u8 0,.int .u8 0,.int .u8 0,.int .u8 0,.int .u8 0,.int .u8 0,.int .u8 0,.int .u8 0,.int .u8 0,.int .u8 0,.int .u8 0,.int .u8 0,.int .u8 0,.int .u8 0,.int .u8 0,.int .u8 0,.int .u8 0,.int .u8 0,.int .u8 0,.int .u8 0,.int .u8 0,.int .u8 0]:AV).size=32/\(∀n∈(#[.int .u8 2,.int .u8 0,.int .u8 0,.int .u8 0,.int .u8 0,.int .u8 0,.int .u8 0,.int .u8 0,.int .u8 0,.int .u8 0,.int .u8 0,.int .u8 0,.int .u8 0,.int .u8 0,.int .u8 0,.int .u8 0,.int .u8 0,.int .u8 0,.int .u8 0,.int .u8 0,.int .u8 0,.int .u8 0,.int .u8 0,.int .u8 0,.int .u8 0,.int .u8 0,.int .u8 0,.int .u8 0,.int .u8 0,.int .u8 0,.int .u8 0,.int .u8 0]:AV).toList,n.oneCell'=true)/\∀o,o<32->Wr m ((⟨b.heap.size,0,none⟩:Addr).add o))/\let p:=setCells m (⟨b.heap.size,0,none⟩:Addr) (#[.int .u8 2,.int .u8 0,.int .u8 0,.int .u8 0,.int .u8 0,.int .u8 0,.int .u8 0,.int .u8 0,.int .u8 0,.int .u8 0,.int .u8 0,.int .u8 0,.int .u8 0,.int .u8 0,.int .u8 0,.int .u8 0,.int .u8 0,.int .u8 0,.int .u8 0,.int .u8 0,.int .u8 0,.int .u8 0,.int .u8 0,.int .u8 0,.int .u8 0,.int .u8 0,.int .u8 0,.int .u8 0,.int .u8 0,.int .u8 0,.int .u8 0,.int .u8 0]:AV).toList 0;((#[.int .u8 4,.int .u8 0,.int .u8 0,.int .u8 0,.int .u8 0,.int .u8 0,.int .u8 0,.int .u8 0,.int .u8 0,.int .u8 0,.int .u8 0,.int .u8 0,.int .u8 0,.int .u8 0,.int .u8 0,.int .u8 0,.int .u8 0,.int .u8 0,.int .u8 0,.int .u8 0,.int .u8 0,.int .u8 0,.int .u8 0,.int .u8 0,.int .u8 0,.int .u8 0,.int .u8 0,.int .u8 0,.int .u8 0,.int .u8 0,.int .u8 0,.int .u8 0]:AV).size=32/\(∀q∈(#[.int .u8 4,.int .u8 0,.int .u8 0,.int .u8 0,.int .u8 0,.int .u8 0,.int .u8 0,.int .u8 0,.int .u8 0,.int .u8 0,.int .u8 0,.int .u8 0,.int .u8 0,.int .u8 0,.int .u8 0,.int .u8 0,.int .u8 0,.int .u8 0,.int .u8 0,.int .u8 0,.int .u8 0,.int .u8 0,.int .u8 0,.int .u8 0,.int .u8 0,.int .u8 0,.int .u8 0,.int .u8 0,.int .u8 0,.int .u8 0,.int .u8 0,.int .u8 0]:AV).toList,q.oneCell'=true)/\∀r,r<32->Wr p ((⟨d.heap.size,0,none⟩:Addr).add r))/\let t:=setCells p (⟨d.heap.size,0,none⟩:Addr) (#[.int .u8 4,.int .u8 0,.int .u8 0,.int .u8 0,.int .u8 0,.int .u8 0,.int .u8 0,.int .u8 0,.int .u8 0,.int .u8 0,.int .u8 0,.int .u8 0,.int .u8 0,.int .u8 0,.int .u8 0,.int .u8 0,.int .u8 0,.int .u8 0,.int .u8 0,.int .u8 0,.int .u8 0,.int .u8 0,.int .u8 0,.int .u8 0,.int .u8 0,.int .u8 0,.int .u8 0,.int .u8 0,.int .u8 0,.int .u8 0,.int .u8 0,.int .u8 0]:AV).toList 0;∃u:AV,(u.size=32/\Cells t (⟨w.heap.size,0,none⟩:Addr) u)/\bj prog 12 #[.int .i64 0,.agg u] t fun v x=>∃y:OA,∃z:Int,v=.tuple #[.pointer y,.int .i64 z]/\Split (z != (0:Int)) (K (.bool false) x) (Split ((y).isNone) (K (.bool false) x) (∃a1:AV,(a1.size=32/\Cells x (⟨a.heap.size,0,none⟩:Addr) a1)/\∃b1:AV,(b1.size=32/\Cells x (⟨w.heap.size,0,none⟩:Addr) b1)/\b1.size=32/\let c1:=x.alloc (.cells (b1.toList++ []).toArray 23);bj prog 14 #[.pointer y,.agg a1,.slice (some (⟨x.heap.size,0,none⟩:Addr)) 1 1] c1 fun d1 e1=>∃f1:AV,∃g1:Int,d1=.tuple #[.agg f1,.int .i64 g1]/\∃i1:AV,(i1.size=32/\Cells e1 (⟨b.heap.size,0,none⟩:Addr) i1)/\∃j1:AV,(j1.size=32/\Cells e1 (⟨w.heap.size,0,none⟩:Addr) j1)/\j1.size=32/\let k1:=e1.alloc (.cells (j1.toList++ []).toArray 23);bj prog 14 #[.pointer y,.agg i1,.slice (some (⟨e1.heap.size,0,none⟩:Addr)) 1 1] k1 fun m1 n1=>∃o1:AV,∃p1:Int,m1=.tuple #[.agg o1,.int .i64 p1]/\∃q1:AV,(q1.size=32/\Cells n1 (⟨d.heap.size,0,none⟩:Addr) q1)/\∃r1:AV,(r1.size=32/\Cells n1 (⟨a.heap.size,0,none⟩:Addr) r1)/\∃t1:AV,(t1.size=32/\Cells n1 (⟨b.heap.size,0,none⟩:Addr) t1)/\r1.size=32/\t1.size=32/\let u1:=n1.alloc (.cells (r1.toList++(t1.toList++([]))).toArray 23);bj prog 14 #[.pointer y,.agg q1,.slice (some (⟨n1.heap.size,0,none⟩:Addr)) 2 2] u1 fun v1 x1=>∃y1:AV,∃z1:Int,v1=.tuple #[.agg y1,.int .i64 z1]/\let a2:=x1.alloc (.cells zC 52);(y1.size=35/\(∀b2∈y1.toList,b2.oneCell'=true)/\∀c2,c2<35->Wr a2 ((⟨x1.heap.size,0,none⟩:Addr).add c2))/\let d2:=setCells a2 (⟨x1.heap.size,0,none⟩:Addr) y1.toList 0;let e2:=d2.drew;Split (z1==(0:Int)) (∃f2:AV,(f2.size=32/\Cells e2 ((⟨x1.heap.size,0,none⟩:Addr).add 0) f2)/\∃g2:AV,(g2.size=32/\Cells e2 (⟨a.heap.size,0,none⟩:Addr) g2)/\(dP .u8 32 f2/\dP .u8 32 g2)/\Split (eT f2 g2) (∃i2:Int,e2.cell? ((⟨x1.heap.size,0,none⟩:Addr).add 32)=some (.int .u64 i2)/\Split (i2==(2:Int)) (∃j2:OA,∃k2 m2:Nat,e2.cell? ((⟨x1.heap.size,0,none⟩:Addr).add 33)=some (.slice j2 k2 m2)/\Split ((k2:Int)==(1:Int)) (∃n2:OA,∃o2 p2:Nat,e2.cell? ((⟨x1.heap.size,0,none⟩:Addr).add 33)=some (.slice n2 o2 p2)/\(0<=(0:Int)/\(0:Int)<(o2:Int))/\Is n2 fun q2:Addr=>∃r2:AV,(r2.size=32/\Cells e2 (q2.add ((0:Int).toNat*32)) r2)/\∃t2:AV,(t2.size=32/\Cells e2 (⟨b.heap.size,0,none⟩:Addr) t2)/\(dP .u8 32 r2/\dP .u8 32 t2)/\Split (eT r2 t2) (∃u2:OA,∃v2 x2:Nat,e2.cell? ((⟨x1.heap.size,0,none⟩:Addr).add 34)=some (.slice u2 v2 x2)/\Split ((v2:Int)==(1:Int)) (∃y2:OA,∃z2 a3:Nat,e2.cell? ((⟨x1.heap.size,0,none⟩:Addr).add 34)=some (.slice y2 z2 a3)/\(0<=(0:Int)/\(0:Int)<(z2:Int))/\Is y2 fun b3:Addr=>∃c3:Bool,e2.cell? (b3.add ((0:Int).toNat*1))=some (.bool c3)/\K (.bool (!c3)) e2) (K (.bool false) e2)) (K (.bool false) e2)) (K (.bool false) e2)) (K (.bool false) e2)) (K (.bool false) e2)) (K (.bool false) e2)))
variable{K w}
theorem gw.of(h:gw.W K w):bj prog 10 #[] w K:=
 rqq func10 (C:=gw.k) h
end
def aG.k:List Nat:= [9,10]
def aG.q1(K:KT):aM:=(aL 0 (b7 (sR (sR (sR (sR (sR (body f11))))))++(aN f11)) (bQ (fun bV w_=>match cutAt aG.k (sR (sR (sR (sR (sR (body f11))))))with|true=>Holds none [] prog 79 (sR (sR (sR (sR (sR (body f11)))))) (bI prog f11 K) bV w_|false=>aU none [] prog 79 aG.k (sR (sR (sR (sR (sR (body f11)))))) (aN f11) (bI prog f11 K) bV w_) (bI prog f11 K)))
def aG.e1(a:OA)(b c:Nat)(d e:OA)(s:(OA)×(OA)×Bool×Int):Env:= [(2,.slice a b c),(6,.pointer s.1),(7,.pointer s.2.1),(8,.bool s.2.2.1),(9,.pointer d),(11,.pointer e),(12,.int .i64 s.2.2.2)]
def aG.u1:List Nat:= [2,6,7,8,9,11,12]
section
variable(a:Int)(b:AV)(d:OA)(e f:Nat)(K:KT)(w:World)
def aG.W:Prop:=
 let g:=w.alloc (.cells b 23);∃i:AV,(i.size=32/\Cells g (⟨w.heap.size,0,none⟩:Addr) i)/\bj prog 12 #[.int .i64 a,.agg i] g fun j k=>∃m:OA,∃n:Int,j=.tuple #[.pointer m,.int .i64 n]/\Split (n != (0:Int)) (K (.tuple #[.pointer none,.pointer none,.bool false]) k) (Split ((m).isNone) (K (.tuple #[.pointer none,.pointer none,.bool false]) k) (∃o:AV,(o.size=32/\Cells k (⟨w.heap.size,0,none⟩:Addr) o)/\bj prog 37 #[.int .i64 a,.agg o] k fun p q=>∃r:OA,p=.pointer r/\Holds none [] prog 79 (.loop (lB (bB (sR (sL (sR (sR (sR (sR (body f11)))))))))) (aG.q1 K) [(2,.slice d e f),(6,.pointer none),(7,.pointer none),(8,.bool false),(9,.pointer m),(11,.pointer r),(12,.int .i64 0)] q))
variable{a b d e f K w}
theorem aG.of(h:aG.W a b d e f K w):bj prog 11 #[.int .i64 a,.agg b,.slice d e f] w K:=
 rqq func11 (C:=aG.k) h
end
section
variable(a:OA)(b c:Nat)(d e:OA)(f:Bool)(g i:OA)(j:Int)(Q:aM)(w:World)
def aG.B1:Prop:=
 Split (decide (j<(b:Int))) (let k:=w.drew;(0<=j/\j<(b:Int))/\Is a fun m:Addr=>∃n:AV,(n.size=32/\Cells k ((m.add (j.toNat*33)).add 0) n)/\(0<=j/\j<(b:Int))/\Is a fun o:Addr=>∃p:OA,∃q r:Nat,k.cell? ((o.add (j.toNat*33)).add 32)=some (.slice p q r)/\(bj prog 14 #[.pointer g,.agg n,.slice p q r] k fun t u=>∃v:AV,∃x:Int,t=.tuple #[.agg v,.int .i64 x]/\let y:=u.alloc (.cells zC 52);(v.size=35/\(∀z∈v.toList,z.oneCell'=true)/\∀a1,a1<35->Wr y ((⟨u.heap.size,0,none⟩:Addr).add a1))/\let b1:=setCells y (⟨u.heap.size,0,none⟩:Addr) v.toList 0;Holds none [] prog 79 (sR (bB (sL (sR (lB (bB (sR (sL (sR (sR (sR (sR (body f11))))))))))))) (aL 1 (b7 (sR (sR (lB (bB (sR (sL (sR (sR (sR (sR (body f11)))))))))))++aG.u1) (bQ (fun bV w_=>match cutAt aG.k (sR (sR (lB (bB (sR (sL (sR (sR (sR (sR (body f11)))))))))))with|true=>Holds none [] prog 79 (sR (sR (lB (bB (sR (sL (sR (sR (sR (sR (body f11))))))))))) Q bV w_|false=>aU none [] prog 79 aG.k (sR (sR (lB (bB (sR (sL (sR (sR (sR (sR (body f11))))))))))) aG.u1 Q bV w_) Q)) [(2,.slice a b c),(6,.pointer d),(7,.pointer e),(8,.bool f),(9,.pointer g),(11,.pointer i),(12,.int .i64 j),(13,.pointer (some (⟨u.heap.size,0,none⟩:Addr))),(14,.int .i64 x)] b1)/\(let c1:=k.alloc (.cells zC 52);c1.cell? ((o.add (j.toNat*33)).add 32)=some (.slice p q r)/\(∃cs:AV,(.agg n:Value)=.agg cs/\cs.size=32/\Cells c1 ((m.add (j.toNat*33)).add 0) cs)/\bj prog 14 #[.pointer g,.agg n,.slice p q r] c1 fun d1 e1=>∃f1:AV,∃g1:Int,d1=.tuple #[.agg f1,.int .i64 g1]/\(f1.size=35/\(∀i1∈f1.toList,i1.oneCell'=true)/\∀j1,j1<35->Wr e1 ((⟨k.heap.size,0,none⟩:Addr).add j1))/\let k1:=setCells e1 (⟨k.heap.size,0,none⟩:Addr) f1.toList 0;Holds none [] prog 79 (sR (bB (sL (sR (lB (bB (sR (sL (sR (sR (sR (sR (body f11))))))))))))) (aL 1 (b7 (sR (sR (lB (bB (sR (sL (sR (sR (sR (sR (body f11)))))))))))++aG.u1) (bQ (fun bV w_=>match cutAt aG.k (sR (sR (lB (bB (sR (sL (sR (sR (sR (sR (body f11)))))))))))with|true=>Holds none [] prog 79 (sR (sR (lB (bB (sR (sL (sR (sR (sR (sR (body f11))))))))))) Q bV w_|false=>aU none [] prog 79 aG.k (sR (sR (lB (bB (sR (sL (sR (sR (sR (sR (body f11))))))))))) aG.u1 Q bV w_) Q)) [(2,.slice a b c),(6,.pointer d),(7,.pointer e),(8,.bool f),(9,.pointer g),(11,.pointer i),(12,.int .i64 j),(13,.pointer (some (⟨k.heap.size,0,none⟩:Addr))),(14,.int .i64 g1)] k1)) (Q (.exit 0) [(2,.slice a b c),(6,.pointer d),(7,.pointer e),(8,.bool f),(9,.pointer g),(11,.pointer i),(12,.int .i64 j)] w)
theorem aG.b1:(aU none [] prog 79 aG.k (lB (bB (sR (sL (sR (sR (sR (sR (body f11))))))))) aG.u1 Q [(2,.slice a b c),(6,.pointer d),(7,.pointer e),(8,.bool f),(9,.pointer g),(11,.pointer i),(12,.int .i64 j)] w)=aG.B1 a b c d e f g i j Q w:=by kernel_rfl
variable{a b c g i}
theorem aG.b6(I:(OA)×(OA)×Bool×Int->World->Prop)(μ:(OA)×(OA)×Bool×Int->World->Nat)(s:(OA)×(OA)×Bool×Int){Q:aM}{w:World}(h0:I s w)
 (round:∀s w,I s w->aG.B1 a b c (s.1) (s.2.1) (s.2.2.1) g i (s.2.2.2) (bH (aG.e1 a b c g i) I μ s w Q) w):Holds none [] prog 79 (.loop (lB (bB (sR (sL (sR (sR (sR (sR (body f11)))))))))) Q (aG.e1 a b c g i s) w:=
 ba ng mix (aG.e1 a b c g i) I μ aG.k aG.u1 s (fun s Q w=>aG.B1 a b c (s.1) (s.2.1) (s.2.2.1) g i (s.2.2.2) Q w) (fun s Q w=>aG.b1 a b c (s.1) (s.2.1) (s.2.2.1) g i (s.2.2.2) Q w) h0 round
end
section
def aG.cI(a:OA)(b c:Nat)(d e:OA)(f:Bool)(g i:OA)(j:Int)(K:KT)(w:World):Prop:=
 K (.tuple #[.pointer g,.pointer i,.bool true]) w
variable(a:OA)(b c:Nat)(d e:OA)(f:Bool)(g i:OA)(j:Int)(K:KT)(w:World)
theorem aG.cX:(aG.q1 K (.exit 0) [(2,.slice a b c),(6,.pointer d),(7,.pointer e),(8,.bool f),(9,.pointer g),(11,.pointer i),(12,.int .i64 j)] w)=aG.cI a b c d e f g i j K w:=by kernel_rfl
end
section
variable(a:OA)(b c:Nat)(d e:OA)(f:Bool)(g i:OA)(j:Int)(k:Addr)(m:Int)(Q:aM)(w:World)
def aG.J1:Prop:=
 let n:=w.drew;(0<=j/\j<(b:Int))/\Is a fun o:Addr=>∃p:AV,(p.size=32/\Cells n ((o.add (j.toNat*33)).add 0) p)/\(0<=j/\j<(b:Int))/\Is a fun q:Addr=>∃r:OA,∃t u:Nat,n.cell? ((q.add (j.toNat*33)).add 32)=some (.slice r t u)/\(bj prog 38 #[.pointer i,.agg p,.slice r t u] n fun v x=>∃y:AV,∃z:Int,v=.tuple #[.agg y,.int .i64 z]/\let a1:=x.alloc (.cells zC 52);(y.size=35/\(∀b1∈y.toList,b1.oneCell'=true)/\∀c1,c1<35->Wr a1 ((⟨x.heap.size,0,none⟩:Addr).add c1))/\let d1:=setCells a1 (⟨x.heap.size,0,none⟩:Addr) y.toList 0;Holds none [] prog 79 (sR (sR (bB (sL (sR (lB (bB (sR (sL (sR (sR (sR (sR (body f11)))))))))))))) (aL 1 (b7 (sR (sR (lB (bB (sR (sL (sR (sR (sR (sR (body f11)))))))))))++aG.u1) (bQ (fun bV w_=>match cutAt aG.k (sR (sR (lB (bB (sR (sL (sR (sR (sR (sR (body f11)))))))))))with|true=>Holds none [] prog 79 (sR (sR (lB (bB (sR (sL (sR (sR (sR (sR (body f11))))))))))) Q bV w_|false=>aU none [] prog 79 aG.k (sR (sR (lB (bB (sR (sL (sR (sR (sR (sR (body f11))))))))))) aG.u1 Q bV w_) Q)) [(2,.slice a b c),(6,.pointer d),(7,.pointer e),(8,.bool f),(9,.pointer g),(11,.pointer i),(12,.int .i64 j),(13,.pointer (some k)),(14,.int .i64 m),(15,.pointer (some (⟨x.heap.size,0,none⟩:Addr))),(16,.int .i64 z)] d1)/\(let e1:=n.alloc (.cells zC 52);e1.cell? ((q.add (j.toNat*33)).add 32)=some (.slice r t u)/\(∃cs:AV,(.agg p:Value)=.agg cs/\cs.size=32/\Cells e1 ((o.add (j.toNat*33)).add 0) cs)/\bj prog 38 #[.pointer i,.agg p,.slice r t u] e1 fun f1 g1=>∃i1:AV,∃j1:Int,f1=.tuple #[.agg i1,.int .i64 j1]/\(i1.size=35/\(∀k1∈i1.toList,k1.oneCell'=true)/\∀m1,m1<35->Wr g1 ((⟨n.heap.size,0,none⟩:Addr).add m1))/\let n1:=setCells g1 (⟨n.heap.size,0,none⟩:Addr) i1.toList 0;Holds none [] prog 79 (sR (sR (bB (sL (sR (lB (bB (sR (sL (sR (sR (sR (sR (body f11)))))))))))))) (aL 1 (b7 (sR (sR (lB (bB (sR (sL (sR (sR (sR (sR (body f11)))))))))))++aG.u1) (bQ (fun bV w_=>match cutAt aG.k (sR (sR (lB (bB (sR (sL (sR (sR (sR (sR (body f11)))))))))))with|true=>Holds none [] prog 79 (sR (sR (lB (bB (sR (sL (sR (sR (sR (sR (body f11))))))))))) Q bV w_|false=>aU none [] prog 79 aG.k (sR (sR (lB (bB (sR (sL (sR (sR (sR (sR (body f11))))))))))) aG.u1 Q bV w_) Q)) [(2,.slice a b c),(6,.pointer d),(7,.pointer e),(8,.bool f),(9,.pointer g),(11,.pointer i),(12,.int .i64 j),(13,.pointer (some k)),(14,.int .i64 m),(15,.pointer (some (⟨n.heap.size,0,none⟩:Addr))),(16,.int .i64 j1)] n1)
theorem aG.j1:(aU none [] prog 79 aG.k (sR (bB (sL (sR (lB (bB (sR (sL (sR (sR (sR (sR (body f11))))))))))))) (b7 (sR (sR (lB (bB (sR (sL (sR (sR (sR (sR (body f11)))))))))))++aG.u1) (aL 1 (b7 (sR (sR (lB (bB (sR (sL (sR (sR (sR (sR (body f11)))))))))))++aG.u1) (bQ (fun bV w_=>match cutAt aG.k (sR (sR (lB (bB (sR (sL (sR (sR (sR (sR (body f11)))))))))))with|true=>Holds none [] prog 79 (sR (sR (lB (bB (sR (sL (sR (sR (sR (sR (body f11))))))))))) Q bV w_|false=>aU none [] prog 79 aG.k (sR (sR (lB (bB (sR (sL (sR (sR (sR (sR (body f11))))))))))) aG.u1 Q bV w_) Q)) [(2,.slice a b c),(6,.pointer d),(7,.pointer e),(8,.bool f),(9,.pointer g),(11,.pointer i),(12,.int .i64 j),(13,.pointer (some k)),(14,.int .i64 m)] w)=aG.J1 a b c d e f g i j k m Q w:=by kernel_rfl
variable{a b c d e f g i j k m Q w}
theorem aG.ox(h:aG.J1 a b c d e f g i j k m Q w):Holds none [] prog 79 (sR (bB (sL (sR (lB (bB (sR (sL (sR (sR (sR (sR (body f11))))))))))))) (aL 1 (b7 (sR (sR (lB (bB (sR (sL (sR (sR (sR (sR (body f11)))))))))))++aG.u1) (bQ (fun bV w_=>match cutAt aG.k (sR (sR (lB (bB (sR (sL (sR (sR (sR (sR (body f11)))))))))))with|true=>Holds none [] prog 79 (sR (sR (lB (bB (sR (sL (sR (sR (sR (sR (body f11))))))))))) Q bV w_|false=>aU none [] prog 79 aG.k (sR (sR (lB (bB (sR (sL (sR (sR (sR (sR (body f11))))))))))) aG.u1 Q bV w_) Q)) [(2,.slice a b c),(6,.pointer d),(7,.pointer e),(8,.bool f),(9,.pointer g),(11,.pointer i),(12,.int .i64 j),(13,.pointer (some k)),(14,.int .i64 m)] w:=
 cK (C:=aG.k) ng mix (aG.j1 a b c d e f g i j k m Q w) h
end
section
variable(a:OA)(b c:Nat)(d e:OA)(f:Bool)(g i:OA)(j:Int)(k:Addr)(m:Int)(n:Addr)(o:Int)(Q:aM)(w:World)
def aG.J2:Prop:=
 Split (m != o) (Q .ret [(2,.slice a b c),(6,.pointer none),(7,.pointer none),(8,.bool false),(9,.pointer g),(11,.pointer i),(12,.int .i64 j)] w) (∃p:AV,(p.size=35/\Cells w k p)/\∃q:AV,(q.size=35/\Cells w n q)/\bj prog 16 #[.agg p,.agg q] w fun r t=>∃u:Bool,r=.bool u/\Split (!u) (Q .ret [(2,.slice a b c),(6,.pointer none),(7,.pointer none),(8,.bool false),(9,.pointer g),(11,.pointer i),(12,.int .i64 j)] t) (Q .normal [(2,.slice a b c),(6,.pointer d),(7,.pointer e),(8,.bool f),(9,.pointer g),(11,.pointer i),(12,.int .i64 (i64.wrap (j+(1:Int))))] t))
theorem aG.j2:(aU none [] prog 79 aG.k (sR (sR (bB (sL (sR (lB (bB (sR (sL (sR (sR (sR (sR (body f11)))))))))))))) (b7 (sR (sR (lB (bB (sR (sL (sR (sR (sR (sR (body f11)))))))))))++aG.u1) (aL 1 (b7 (sR (sR (lB (bB (sR (sL (sR (sR (sR (sR (body f11)))))))))))++aG.u1) (bQ (fun bV w_=>match cutAt aG.k (sR (sR (lB (bB (sR (sL (sR (sR (sR (sR (body f11)))))))))))with|true=>Holds none [] prog 79 (sR (sR (lB (bB (sR (sL (sR (sR (sR (sR (body f11))))))))))) Q bV w_|false=>aU none [] prog 79 aG.k (sR (sR (lB (bB (sR (sL (sR (sR (sR (sR (body f11))))))))))) aG.u1 Q bV w_) Q)) [(2,.slice a b c),(6,.pointer d),(7,.pointer e),(8,.bool f),(9,.pointer g),(11,.pointer i),(12,.int .i64 j),(13,.pointer (some k)),(14,.int .i64 m),(15,.pointer (some n)),(16,.int .i64 o)] w)=aG.J2 a b c d e f g i j k m n o Q w:=by kernel_rfl
variable{a b c d e f g i j k m n o Q w}
theorem aG.qj(h:aG.J2 a b c d e f g i j k m n o Q w):Holds none [] prog 79 (sR (sR (bB (sL (sR (lB (bB (sR (sL (sR (sR (sR (sR (body f11)))))))))))))) (aL 1 (b7 (sR (sR (lB (bB (sR (sL (sR (sR (sR (sR (body f11)))))))))))++aG.u1) (bQ (fun bV w_=>match cutAt aG.k (sR (sR (lB (bB (sR (sL (sR (sR (sR (sR (body f11)))))))))))with|true=>Holds none [] prog 79 (sR (sR (lB (bB (sR (sL (sR (sR (sR (sR (body f11))))))))))) Q bV w_|false=>aU none [] prog 79 aG.k (sR (sR (lB (bB (sR (sL (sR (sR (sR (sR (body f11))))))))))) aG.u1 Q bV w_) Q)) [(2,.slice a b c),(6,.pointer d),(7,.pointer e),(8,.bool f),(9,.pointer g),(11,.pointer i),(12,.int .i64 j),(13,.pointer (some k)),(14,.int .i64 m),(15,.pointer (some n)),(16,.int .i64 o)] w:=
 cK (C:=aG.k) ng mix (aG.j2 a b c d e f g i j k m n o Q w) h
end
def ki.k:List Nat:= [28,29,30,31,32]
def ki.q1(K:KT):aM:=(aL 0 (b7 (sR (sR (sR (sR (sR (sR (sR (sR (body Tryz.f3)))))))))++(aN Tryz.f3)) (bQ (fun bV w_=>match cutAt ki.k (sR (sR (sR (sR (sR (sR (sR (sR (body Tryz.f3)))))))))with|true=>Holds none [] prog 215 (sR (sR (sR (sR (sR (sR (sR (sR (body Tryz.f3))))))))) (bI prog Tryz.f3 K) bV w_|false=>aU none [] prog 215 ki.k (sR (sR (sR (sR (sR (sR (sR (sR (body Tryz.f3))))))))) (aN Tryz.f3) (bI prog Tryz.f3 K) bV w_) (bI prog Tryz.f3 K)))
section
variable(a:Int)(b:AV)(d:OA)(e f:Nat)(g:OA)(i j:Nat)(K:KT)(w:World)
variable{a b d e f g i j K w}
end
section
variable(a:OA)(b c:Nat)(d:Bool)(e f g i:OA)(j k:Nat)(m:Int)(Q:aM)(w:World)
variable{a b c e f g}
end
section
variable(a:OA)(b c:Nat)(d:Bool)(e f g i:OA)(j k:Nat)(m:Int)(K:KT)(w:World)
end
section
variable(a:OA)(b c:Nat)(d:Bool)(e f g i:OA)(j k:Nat)(m:Int)(n:OA)(o p:Nat)(q:Int)(Q:aM)(w:World)
variable{a b c d e f g i j k m}
end
section
variable(a:OA)(b c:Nat)(d:Bool)(e f g i:OA)(j k:Nat)(m:Int)(n:OA)(o p:Nat)(q:Int)(Q:aM)(w:World)
end
section
variable(a:OA)(b c:Nat)(d:Bool)(e f g i:OA)(j k:Nat)(m:Int)(n:OA)(o p:Nat)(q:Int)(Q:aM)(w:World)
variable{a b c d e f g i j k m n o p q Q w}
end
section
variable(a:OA)(b c:Nat)(d:Bool)(e f g i:OA)(j k:Nat)(m n:Int)(Q:aM)(w:World)
variable{a b c d e f g i j k m n Q w}
end
section
variable(a:OA)(b c:Nat)(d:Bool)(e f g i:OA)(j k:Nat)(m n:Int)(o:Addr)(Q:aM)(w:World)
variable{a b c d e f g i j k m n o Q w}
end
section
variable(a:OA)(b c:Nat)(d:Bool)(e f g i:OA)(j k:Nat)(m:Int)(n o:Addr)(p:Int)(Q:aM)(w:World)
variable{a b c d e f g i j k m n o p Q w}
end
section
variable(a:OA)(b c:Nat)(d:Bool)(e f g i:OA)(j k:Nat)(m:Int)(n o:Addr)(p:Int)(q:Addr)(r:Int)(Q:aM)(w:World)
variable{a b c d e f g i j k m n o p q r Q w}
end
section
variable(a:OA)(b c:Nat)(d:Bool)(e f g i:OA)(j k:Nat)(m:Int)(n:OA)(o p:Nat)(q:Int)(r:Bool)(t:OA)(u v:Nat)(x:Int)(Q:aM)(w:World)
variable{a b c d e f g i j k m n o p q t u v}
end
section
variable(a:OA)(b c:Nat)(d:Bool)(e f g i:OA)(j k:Nat)(m:Int)(n:OA)(o p:Nat)(q:Int)(r:Bool)(t:OA)(u v:Nat)(x:Int)(Q:aM)(w:World)
end
section
variable(a:Int)(b:AV)(d:OA)(e f:Nat)(g:AV)(i:OA)(j k:Nat)(K:KT)(w:World)
variable{a b d e f g i j k K w}
end
section
variable(a:OA)(b c:Nat)(d:Addr)(e f:OA)(g:Addr)(i:Int)(K:KT)(w:World)
variable{a b c d e f g i K w}
end
section
variable(a:OA)(b c:Nat)(d:Addr)(e:Bool)(f g:OA)(i:Int)(Q:aM)(w:World)
variable{a b c d f g}
end
section
variable(a:OA)(b c:Nat)(d:Addr)(e:Bool)(f g:OA)(i:Int)(K:KT)(w:World)
end
section
variable(a:Int)(b:AV)(d:OA)(e f:Nat)(K:KT)(w:World)
variable{a b d e f K w}
end
section
variable(a:Int)(b:Bool)(c d:OA)(e:Int)(Q:aM)(w:World)
variable{a c d}
end
section
variable(a:Int)(b:Bool)(c d:OA)(e:Int)(K:KT)(w:World)
end
section
variable(a:Int)(b:Bool)(c d:OA)(e:Int)(f:Addr)(g:OA)(i j:Nat)(k:Addr)(m:Int)(Q:aM)(w:World)
variable{a c d e f g i j k}
end
section
variable(a:Int)(b:Bool)(c d:OA)(e:Int)(f:Addr)(g:OA)(i j:Nat)(k:Addr)(m:Int)(Q:aM)(w:World)
end
section
variable(a:Int)(b:Bool)(c d:OA)(e:Int)(f:Addr)(g:OA)(i j:Nat)(k:Addr)(m n o:Int)(Q:aM)(w:World)
variable{a b c d e f g i j k m}
end
section
variable(a:Int)(b:Bool)(c d:OA)(e:Int)(f:Addr)(g:OA)(i j:Nat)(k:Addr)(m n o:Int)(Q:aM)(w:World)
end
section
variable(a:Int)(b:Bool)(c d:OA)(e:Int)(f:Addr)(g:OA)(i j:Nat)(k:Int)(Q:aM)(w:World)
variable{a c d e f g i j}
end
section
variable(a:Int)(b:Bool)(c d:OA)(e:Int)(f:Addr)(g:OA)(i j:Nat)(k:Int)(Q:aM)(w:World)
end
section
variable(a:Int)(b:Bool)(c d:OA)(e:Int)(f:Addr)(g:Int)(Q:aM)(w:World)
variable{a c d e f}
end
section
variable(a:Int)(b:Bool)(c d:OA)(e:Int)(f:Addr)(g:Int)(Q:aM)(w:World)
end
section
variable(a:Int)(b:AV)(d:OA)(e f:Nat)(K:KT)(w:World)
variable{a b d e f K w}
end
section
variable(a:Bool)(b c:OA)(d:Int)(Q:aM)(w:World)
variable{b c}
end
section
variable(a:Bool)(b c:OA)(d:Int)(K:KT)(w:World)
end
section
variable(a:Bool)(b c:OA)(d:Int)(e:Addr)(f:OA)(g i:Nat)(j:Int)(Q:aM)(w:World)
variable{b c d e f g i}
end
section
variable(a:Bool)(b c:OA)(d:Int)(e:Addr)(f:OA)(g i:Nat)(j:Int)(Q:aM)(w:World)
end
def af.k:List Nat:= []
def af.q1(K:KT):aM:=(aL 0 (b7 (sR (sR (sR (sR (sR (sR (sR (sR (sR (body Tryz.f7))))))))))++(aN Tryz.f7)) (bQ (fun bV w_=>match cutAt af.k (sR (sR (sR (sR (sR (sR (sR (sR (sR (body Tryz.f7))))))))))with|true=>Holds none [] prog 294 (sR (sR (sR (sR (sR (sR (sR (sR (sR (body Tryz.f7)))))))))) (bI prog Tryz.f7 K) bV w_|false=>aU none [] prog 294 af.k (sR (sR (sR (sR (sR (sR (sR (sR (sR (body Tryz.f7)))))))))) (aN Tryz.f7) (bI prog Tryz.f7 K) bV w_) (bI prog Tryz.f7 K)))
def af.e1(a:OA)(b c:Nat)(d:OA)(e f:Nat)(g i j k m n:OA)(s:Int):Env:= [(3,.slice a b c),(4,.slice d e f),(10,.bool false),(11,.pointer g),(14,.pointer i),(15,.pointer j),(16,.pointer k),(18,.pointer m),(19,.pointer n),(21,.int .i64 s)]
def af.u1:List Nat:= [3,4,10,11,14,15,16,18,19,21]
def af.q2(Q:aM):aM:=(aL 2 (b7 (sR (sR (lB (bB (sR (sL (sR (sR (sR (sR (sR (sR (sR (sR (body Tryz.f7)))))))))))))))++af.u1) (aL 1 (b7 (sR (sR (lB (bB (sR (sL (sR (sR (sR (sR (sR (sR (sR (sR (body Tryz.f7)))))))))))))))++af.u1) (bQ (fun bV w_=>match cutAt af.k (sR (sR (lB (bB (sR (sL (sR (sR (sR (sR (sR (sR (sR (sR (body Tryz.f7)))))))))))))))with|true=>Holds none [] prog 294 (sR (sR (lB (bB (sR (sL (sR (sR (sR (sR (sR (sR (sR (sR (body Tryz.f7))))))))))))))) Q bV w_|false=>aU none [] prog 294 af.k (sR (sR (lB (bB (sR (sL (sR (sR (sR (sR (sR (sR (sR (sR (body Tryz.f7))))))))))))))) af.u1 Q bV w_) Q)))
def af.e2(a:OA)(b c:Nat)(d:OA)(e f:Nat)(g i j k m n:OA)(o:Int)(p:Addr)(s:Int):Env:= [(3,.slice a b c),(4,.slice d e f),(10,.bool false),(11,.pointer g),(14,.pointer i),(15,.pointer j),(16,.pointer k),(18,.pointer m),(19,.pointer n),(21,.int .i64 o),(22,.pointer (some p)),(24,.int .i64 s)]
def af.u2:List Nat:= [3,4,10,11,14,15,16,18,19,21,22,24]
def af.q3(K:KT):aM:=(aL 4 (b7 (sR (sR (sR (sR (sR (sR (sR (sR (sR (sR (body Tryz.f7)))))))))))++(aN Tryz.f7)) (bQ (fun bV w_=>match cutAt af.k (sR (sR (sR (sR (sR (sR (sR (sR (sR (sR (body Tryz.f7)))))))))))with|true=>Holds none [] prog 294 (sR (sR (sR (sR (sR (sR (sR (sR (sR (sR (body Tryz.f7))))))))))) (bI prog Tryz.f7 K) bV w_|false=>aU none [] prog 294 af.k (sR (sR (sR (sR (sR (sR (sR (sR (sR (sR (body Tryz.f7))))))))))) (aN Tryz.f7) (bI prog Tryz.f7 K) bV w_) (bI prog Tryz.f7 K)))
def af.e3(a:OA)(b c:Nat)(d e f g i j:OA)(s:Int):Env:= [(4,.slice a b c),(10,.bool false),(11,.pointer d),(14,.pointer e),(15,.pointer f),(16,.pointer g),(18,.pointer i),(19,.pointer j),(25,.int .i64 s)]
def af.u3:List Nat:= [4,10,11,14,15,16,18,19,25]
def af.q4(K:KT):aM:=(aL 6 (b7 (sR (sR (sR (sR (sR (sR (sR (sR (sR (sR (sR (body Tryz.f7))))))))))))++(aN Tryz.f7)) (bQ (fun bV w_=>match cutAt af.k (sR (sR (sR (sR (sR (sR (sR (sR (sR (sR (sR (body Tryz.f7))))))))))))with|true=>Holds none [] prog 294 (sR (sR (sR (sR (sR (sR (sR (sR (sR (sR (sR (body Tryz.f7)))))))))))) (bI prog Tryz.f7 K) bV w_|false=>aU none [] prog 294 af.k (sR (sR (sR (sR (sR (sR (sR (sR (sR (sR (sR (body Tryz.f7)))))))))))) (aN Tryz.f7) (bI prog Tryz.f7 K) bV w_) (bI prog Tryz.f7 K)))
def af.e4(a b c d e f:OA)(s:Bool×Int):Env:= [(10,.bool s.1),(11,.pointer a),(14,.pointer b),(15,.pointer c),(16,.pointer d),(18,.pointer e),(19,.pointer f),(26,.int .i64 s.2)]
def af.u4:List Nat:= [10,11,14,15,16,18,19,26]
def af.q5(K:KT):aM:=(aL 8 (b7 (sR (sR (sR (sR (sR (sR (sR (sR (sR (sR (sR (sR (body Tryz.f7)))))))))))))++(aN Tryz.f7)) (bQ (fun bV w_=>match cutAt af.k (sR (sR (sR (sR (sR (sR (sR (sR (sR (sR (sR (sR (body Tryz.f7)))))))))))))with|true=>Holds none [] prog 294 (sR (sR (sR (sR (sR (sR (sR (sR (sR (sR (sR (sR (body Tryz.f7))))))))))))) (bI prog Tryz.f7 K) bV w_|false=>aU none [] prog 294 af.k (sR (sR (sR (sR (sR (sR (sR (sR (sR (sR (sR (sR (body Tryz.f7))))))))))))) (aN Tryz.f7) (bI prog Tryz.f7 K) bV w_) (bI prog Tryz.f7 K)))
def af.e5(a b c d e:OA)(s:Bool×Int):Env:= [(10,.bool s.1),(11,.pointer a),(14,.pointer b),(16,.pointer c),(18,.pointer d),(19,.pointer e),(31,.int .i64 s.2)]
def af.u5:List Nat:= [10,11,14,16,18,19,31]
section
variable(a:Int)(b:AV)(d:OA)(e f:Nat)(g:OA)(i j:Nat)(k:OA)(m n:Nat)(K:KT)(w:World)
def af.W:Prop:=
 let o:=w.alloc (.cells b 23);Split (decide (a<(0:Int))) (bj prog 10 #[] o fun p q=>∃r:Bool,p=.bool r/\K (.bool r) q) (Split (decide (a>(6:Int))) (bj prog 10 #[] o fun t u=>∃v:Bool,t=.bool v/\K (.bool v) u) (bj prog 9 #[.slice d e f,.int .i64 12] o fun x y=>∃z:Bool,x=.bool z/\Split (!z) (bj prog 10 #[] y fun a1 b1=>∃c1:Bool,a1=.bool c1/\K (.bool c1) b1) (bj prog 9 #[.slice g i j,.int .i64 6] y fun d1 e1=>∃f1:Bool,d1=.bool f1/\Split (!f1) (bj prog 10 #[] e1 fun g1 i1=>∃j1:Bool,g1=.bool j1/\K (.bool j1) i1) (bj prog 9 #[.slice k m n,.int .i64 6] e1 fun k1 m1=>∃n1:Bool,k1=.bool n1/\Split (!n1) (bj prog 10 #[] m1 fun o1 p1=>∃q1:Bool,o1=.bool q1/\K (.bool q1) p1) (∃r1:AV,(r1.size=32/\Cells m1 (⟨w.heap.size,0,none⟩:Addr) r1)/\bj prog 11 #[.int .i64 a,.agg r1,.slice d e f] m1 fun t1 u1=>∃v1 x1:OA,∃y1:Bool,t1=.tuple #[.pointer v1,.pointer x1,.bool y1]/\Split (!y1) (K (.bool false) u1) (bj prog 34 #[.pointer v1] u1 fun z1 a2=>∃b2:OA,z1=.pointer b2/\let c2:=a2.drew;∃d2:AV,(d2.size=32/\Cells c2 (⟨w.heap.size,0,none⟩:Addr) d2)/\∃(e2:OA) (f2 g2:Nat) (i2:World),(Builtin.append_ #[24,24] 24 #[.slice none 0 0,.slice d e f]).run prog c2=.ok (.slice e2 f2 g2) i2/\(∃cs:AV,(.agg d2:Value)=.agg cs/\cs.size=32/\Cells i2 (⟨w.heap.size,0,none⟩:Addr) cs)/\∃(j2:OA) (k2 m2:Nat) (n2:World),(Builtin.append_ #[24,24] 24 #[.slice e2 f2 g2,.slice g i j]).run prog i2=.ok (.slice j2 k2 m2) n2/\(∃cs:AV,(.agg d2:Value)=.agg cs/\cs.size=32/\Cells n2 (⟨w.heap.size,0,none⟩:Addr) cs)/\bj prog 11 #[.int .i64 a,.agg d2,.slice j2 k2 m2] n2 fun o2 p2=>∃q2 r2:OA,∃t2:Bool,o2=.tuple #[.pointer q2,.pointer r2,.bool t2]/\let u2:=p2.drew;∃v2:AV,(v2.size=32/\Cells u2 (⟨w.heap.size,0,none⟩:Addr) v2)/\∃(x2:OA) (y2 z2:Nat) (a3:World),(Builtin.append_ #[24,24] 24 #[.slice none 0 0,.slice d e f]).run prog u2=.ok (.slice x2 y2 z2) a3/\(∃cs:AV,(.agg v2:Value)=.agg cs/\cs.size=32/\Cells a3 (⟨w.heap.size,0,none⟩:Addr) cs)/\∃(b3:OA) (c3 d3:Nat) (e3:World),(Builtin.append_ #[24,24] 24 #[.slice x2 y2 z2,.slice k m n]).run prog a3=.ok (.slice b3 c3 d3) e3/\(∃cs:AV,(.agg v2:Value)=.agg cs/\cs.size=32/\Cells e3 (⟨w.heap.size,0,none⟩:Addr) cs)/\bj prog 11 #[.int .i64 a,.agg v2,.slice b3 c3 d3] e3 fun f3 g3=>∃i3 j3:OA,∃k3:Bool,f3=.tuple #[.pointer i3,.pointer j3,.bool k3]/\Split (!t2) (K (.bool false) g3) (Split (!k3) (K (.bool false) g3) (Holds none [] prog 294 (.loop (lB (bB (sR (sL (sR (sR (sR (sR (sR (sR (sR (sR (body Tryz.f7)))))))))))))) (af.q1 K) [(3,.slice g i j),(4,.slice k m n),(10,.bool false),(11,.pointer v1),(14,.pointer b2),(15,.pointer q2),(16,.pointer r2),(18,.pointer i3),(19,.pointer j3),(21,.int .i64 0)] g3))))))))
variable{a b d e f g i j k m n K w}
theorem af.of(h:af.W a b d e f g i j k m n K w):bj prog 7 #[.int .i64 a,.agg b,.slice d e f,.slice g i j,.slice k m n] w K:=
 rqq func7 (C:=af.k) h
end
section
variable(a:OA)(b c:Nat)(d:OA)(e f:Nat)(g i j k m n:OA)(o:Int)(Q:aM)(w:World)
def af.B1:Prop:=
 Split (decide (o<(b:Int))) (let p:=w.drew;(0<=o/\o<(b:Int))/\Is a fun q:Addr=>∃r:AV,(r.size=32/\Cells p ((q.add (o.toNat*33)).add 0) r)/\(0<=o/\o<(b:Int))/\Is a fun t:Addr=>∃u:OA,∃v x:Nat,p.cell? ((t.add (o.toNat*33)).add 32)=some (.slice u v x)/\(bj prog 14 #[.pointer g,.agg r,.slice u v x] p fun y z=>∃a1:AV,∃b1:Int,y=.tuple #[.agg a1,.int .i64 b1]/\let c1:=z.alloc (.cells zC 52);(a1.size=35/\(∀d1∈a1.toList,d1.oneCell'=true)/\∀e1,e1<35->Wr c1 ((⟨z.heap.size,0,none⟩:Addr).add e1))/\let f1:=setCells c1 (⟨z.heap.size,0,none⟩:Addr) a1.toList 0;Holds none [] prog 294 (.loop (lB (bB (sR (sR (bB (sL (sR (lB (bB (sR (sL (sR (sR (sR (sR (sR (sR (sR (sR (body Tryz.f7))))))))))))))))))))) (af.q2 Q) [(3,.slice a b c),(4,.slice d e f),(10,.bool false),(11,.pointer g),(14,.pointer i),(15,.pointer j),(16,.pointer k),(18,.pointer m),(19,.pointer n),(21,.int .i64 o),(22,.pointer (some (⟨z.heap.size,0,none⟩:Addr))),(24,.int .i64 0)] f1)/\(let g1:=p.alloc (.cells zC 52);g1.cell? ((t.add (o.toNat*33)).add 32)=some (.slice u v x)/\(∃cs:AV,(.agg r:Value)=.agg cs/\cs.size=32/\Cells g1 ((q.add (o.toNat*33)).add 0) cs)/\bj prog 14 #[.pointer g,.agg r,.slice u v x] g1 fun i1 j1=>∃k1:AV,∃m1:Int,i1=.tuple #[.agg k1,.int .i64 m1]/\(k1.size=35/\(∀n1∈k1.toList,n1.oneCell'=true)/\∀o1,o1<35->Wr j1 ((⟨p.heap.size,0,none⟩:Addr).add o1))/\let p1:=setCells j1 (⟨p.heap.size,0,none⟩:Addr) k1.toList 0;Holds none [] prog 294 (.loop (lB (bB (sR (sR (bB (sL (sR (lB (bB (sR (sL (sR (sR (sR (sR (sR (sR (sR (sR (body Tryz.f7))))))))))))))))))))) (af.q2 Q) [(3,.slice a b c),(4,.slice d e f),(10,.bool false),(11,.pointer g),(14,.pointer i),(15,.pointer j),(16,.pointer k),(18,.pointer m),(19,.pointer n),(21,.int .i64 o),(22,.pointer (some (⟨p.heap.size,0,none⟩:Addr))),(24,.int .i64 0)] p1)) (Q (.exit 0) [(3,.slice a b c),(4,.slice d e f),(10,.bool false),(11,.pointer g),(14,.pointer i),(15,.pointer j),(16,.pointer k),(18,.pointer m),(19,.pointer n),(21,.int .i64 o)] w)
theorem af.b1:(aU none [] prog 294 af.k (lB (bB (sR (sL (sR (sR (sR (sR (sR (sR (sR (sR (body Tryz.f7))))))))))))) af.u1 Q [(3,.slice a b c),(4,.slice d e f),(10,.bool false),(11,.pointer g),(14,.pointer i),(15,.pointer j),(16,.pointer k),(18,.pointer m),(19,.pointer n),(21,.int .i64 o)] w)=af.B1 a b c d e f g i j k m n o Q w:=by kernel_rfl
variable{a b c d e f g i j k m n}
theorem af.b6(I:Int->World->Prop)(μ:Int->World->Nat)(s:Int){Q:aM}{w:World}(h0:I s w)
 (round:∀s w,I s w->af.B1 a b c d e f g i j k m n s (bH (af.e1 a b c d e f g i j k m n) I μ s w Q) w):Holds none [] prog 294 (.loop (lB (bB (sR (sL (sR (sR (sR (sR (sR (sR (sR (sR (body Tryz.f7)))))))))))))) Q (af.e1 a b c d e f g i j k m n s) w:=
 ba ng mix (af.e1 a b c d e f g i j k m n) I μ af.k af.u1 s (fun s Q w=>af.B1 a b c d e f g i j k m n s Q w) (fun s Q w=>af.b1 a b c d e f g i j k m n s Q w) h0 round
end
section
def af.cI(a:OA)(b c:Nat)(d:OA)(e f:Nat)(g i j k m n:OA)(o:Int)(K:KT)(w:World):Prop:=
 Holds none [] prog 294 (.loop (lB (bB (sR (sL (sR (sR (sR (sR (sR (sR (sR (sR (sR (body Tryz.f7))))))))))))))) (af.q3 K) [(4,.slice d e f),(10,.bool false),(11,.pointer g),(14,.pointer i),(15,.pointer j),(16,.pointer k),(18,.pointer m),(19,.pointer n),(25,.int .i64 0)] w
variable(a:OA)(b c:Nat)(d:OA)(e f:Nat)(g i j k m n:OA)(o:Int)(K:KT)(w:World)
theorem af.cX:(af.q1 K (.exit 0) [(3,.slice a b c),(4,.slice d e f),(10,.bool false),(11,.pointer g),(14,.pointer i),(15,.pointer j),(16,.pointer k),(18,.pointer m),(19,.pointer n),(21,.int .i64 o)] w)=af.cI a b c d e f g i j k m n o K w:=by kernel_rfl
end
section
variable(a:OA)(b c:Nat)(d:OA)(e f:Nat)(g i j k m n:OA)(o:Int)(p:Addr)(q:Int)(Q:aM)(w:World)
def af.B2:Prop:=
 ∃r:OA,∃t u:Nat,w.cell? (p.add 33)=some (.slice r t u)/\Split (decide (q<(t:Int))) (let v:=w.drew;∃x:OA,∃y z:Nat,v.cell? (p.add 33)=some (.slice x y z)/\∃a1:OA,∃b1 c1:Nat,v.cell? (p.add 34)=some (.slice a1 b1 c1)/\∃d1:OA,∃e1 f1:Nat,v.cell? (p.add 34)=some (.slice d1 e1 f1)/\(0<=q/\q<(e1:Int))/\Is d1 fun g1:Addr=>∃i1:Bool,v.cell? (g1.add (q.toNat*1))=some (.bool i1)/\(0<=q/\q<(y:Int))/\Is x fun j1:Addr=>(zH.size=32/\(∀k1∈zH.toList,k1.oneCell'=true)/\∀m1,m1<32->Wr v ((j1.add (q.toNat*32)).add m1))/\let n1:=setCells v (j1.add (q.toNat*32)) zH.toList 0;n1.cell? (p.add 34)=some (.slice a1 b1 c1)/\(0<=q/\q<(b1:Int))/\Is a1 fun o1:Addr=>Wr n1 (o1.add (q.toNat*1))/\let p1:=n1.setCell (o1.add (q.toNat*1)) (.bool (!i1));Q .normal [(3,.slice a b c),(4,.slice d e f),(10,.bool false),(11,.pointer g),(14,.pointer i),(15,.pointer j),(16,.pointer k),(18,.pointer m),(19,.pointer n),(21,.int .i64 o),(22,.pointer (some p)),(24,.int .i64 (i64.wrap (q+(1:Int))))] p1) (Q (.exit 2) [(3,.slice a b c),(4,.slice d e f),(10,.bool false),(11,.pointer g),(14,.pointer i),(15,.pointer j),(16,.pointer k),(18,.pointer m),(19,.pointer n),(21,.int .i64 o),(22,.pointer (some p)),(24,.int .i64 q)] w)
theorem af.b2:(aU none [] prog 294 af.k (lB (bB (sR (sR (bB (sL (sR (lB (bB (sR (sL (sR (sR (sR (sR (sR (sR (sR (sR (body Tryz.f7)))))))))))))))))))) af.u2 Q [(3,.slice a b c),(4,.slice d e f),(10,.bool false),(11,.pointer g),(14,.pointer i),(15,.pointer j),(16,.pointer k),(18,.pointer m),(19,.pointer n),(21,.int .i64 o),(22,.pointer (some p)),(24,.int .i64 q)] w)=af.B2 a b c d e f g i j k m n o p q Q w:=by kernel_rfl
variable{a b c d e f g i j k m n o p}
theorem af.gI(I:Int->World->Prop)(μ:Int->World->Nat)(s:Int){Q:aM}{w:World}(h0:I s w)
 (round:∀s w,I s w->af.B2 a b c d e f g i j k m n o p s (bH (af.e2 a b c d e f g i j k m n o p) I μ s w Q) w):Holds none [] prog 294 (.loop (lB (bB (sR (sR (bB (sL (sR (lB (bB (sR (sL (sR (sR (sR (sR (sR (sR (sR (sR (body Tryz.f7))))))))))))))))))))) Q (af.e2 a b c d e f g i j k m n o p s) w:=
 ba ng mix (af.e2 a b c d e f g i j k m n o p) I μ af.k af.u2 s (fun s Q w=>af.B2 a b c d e f g i j k m n o p s Q w) (fun s Q w=>af.b2 a b c d e f g i j k m n o p s Q w) h0 round
end
section
def af.iE(a:OA)(b c:Nat)(d:OA)(e f:Nat)(g i j k m n:OA)(o:Int)(p:Addr)(q:Int)(Q:aM)(w:World):Prop:=
 Q .normal [(3,.slice a b c),(4,.slice d e f),(10,.bool false),(11,.pointer g),(14,.pointer i),(15,.pointer j),(16,.pointer k),(18,.pointer m),(19,.pointer n),(21,.int .i64 (i64.wrap (o+(1:Int))))] w
variable(a:OA)(b c:Nat)(d:OA)(e f:Nat)(g i j k m n:OA)(o:Int)(p:Addr)(q:Int)(Q:aM)(w:World)
theorem af.jJ:(af.q2 Q (.exit 2) [(3,.slice a b c),(4,.slice d e f),(10,.bool false),(11,.pointer g),(14,.pointer i),(15,.pointer j),(16,.pointer k),(18,.pointer m),(19,.pointer n),(21,.int .i64 o),(22,.pointer (some p)),(24,.int .i64 q)] w)=af.iE a b c d e f g i j k m n o p q Q w:=by kernel_rfl
end
section
variable(a:OA)(b c:Nat)(d e f g i j:OA)(k:Int)(Q:aM)(w:World)
def af.B3:Prop:=
 Split (decide (k<(b:Int))) (let m:=w.drew;(0<=k/\k<(b:Int))/\Is a fun n:Addr=>∃o:AV,(o.size=32/\Cells m ((n.add (k.toNat*33)).add 0) o)/\(0<=k/\k<(b:Int))/\Is a fun p:Addr=>∃q:OA,∃r t:Nat,m.cell? ((p.add (k.toNat*33)).add 32)=some (.slice q r t)/\bj prog 14 #[.pointer e,.agg o,.slice q r t] m fun u v=>∃x:AV,∃y:Int,u=.tuple #[.agg x,.int .i64 y]/\Q .normal [(4,.slice a b c),(10,.bool false),(11,.pointer d),(14,.pointer e),(15,.pointer f),(16,.pointer g),(18,.pointer i),(19,.pointer j),(25,.int .i64 (i64.wrap (k+(1:Int))))] v) (Q (.exit 4) [(4,.slice a b c),(10,.bool false),(11,.pointer d),(14,.pointer e),(15,.pointer f),(16,.pointer g),(18,.pointer i),(19,.pointer j),(25,.int .i64 k)] w)
theorem af.b3:(aU none [] prog 294 af.k (lB (bB (sR (sL (sR (sR (sR (sR (sR (sR (sR (sR (sR (body Tryz.f7)))))))))))))) af.u3 Q [(4,.slice a b c),(10,.bool false),(11,.pointer d),(14,.pointer e),(15,.pointer f),(16,.pointer g),(18,.pointer i),(19,.pointer j),(25,.int .i64 k)] w)=af.B3 a b c d e f g i j k Q w:=by kernel_rfl
variable{a b c d e f g i j}
theorem af.rr(I:Int->World->Prop)(μ:Int->World->Nat)(s:Int){Q:aM}{w:World}(h0:I s w)
 (round:∀s w,I s w->af.B3 a b c d e f g i j s (bH (af.e3 a b c d e f g i j) I μ s w Q) w):Holds none [] prog 294 (.loop (lB (bB (sR (sL (sR (sR (sR (sR (sR (sR (sR (sR (sR (body Tryz.f7))))))))))))))) Q (af.e3 a b c d e f g i j s) w:=
 ba ng mix (af.e3 a b c d e f g i j) I μ af.k af.u3 s (fun s Q w=>af.B3 a b c d e f g i j s Q w) (fun s Q w=>af.b3 a b c d e f g i j s Q w) h0 round
end
section
def af.rU(a:OA)(b c:Nat)(d e f g i j:OA)(k:Int)(K:KT)(w:World):Prop:=
 Holds none [] prog 294 (.loop (lB (bB (sR (sL (sR (sR (sR (sR (sR (sR (sR (sR (sR (sR (body Tryz.f7)))))))))))))))) (af.q4 K) [(10,.bool false),(11,.pointer d),(14,.pointer e),(15,.pointer f),(16,.pointer g),(18,.pointer i),(19,.pointer j),(26,.int .i64 0)] w
variable(a:OA)(b c:Nat)(d e f g i j:OA)(k:Int)(K:KT)(w:World)
theorem af.xD:(af.q3 K (.exit 4) [(4,.slice a b c),(10,.bool false),(11,.pointer d),(14,.pointer e),(15,.pointer f),(16,.pointer g),(18,.pointer i),(19,.pointer j),(25,.int .i64 k)] w)=af.rU a b c d e f g i j k K w:=by kernel_rfl
end
section
variable(a:Bool)(b c d e f g:OA)(i:Int)(Q:aM)(w:World)
def af.B4:Prop:=
 Is e fun j:Addr=>∃k:OA,w.cell? (j.add 1)=some (.pointer k)/\Is k fun m:Addr=>∃n:OA,∃o p:Nat,w.cell? ((m.add 0).add 0)=some (.slice n o p)/\Split (decide (i<(o:Int))) (Is e fun q:Addr=>∃r:OA,w.cell? (q.add 1)=some (.pointer r)/\Is r fun t:Addr=>∃u:OA,∃v x:Nat,w.cell? ((t.add 0).add 0)=some (.slice u v x)/\(0<=i/\i<(v:Int))/\Is u fun y:Addr=>∃z:AV,(z.size=32/\Cells w ((y.add (i.toNat*33)).add 0) z)/\bj prog 15 #[.pointer b,.agg z] w fun a1 b1=>∃c1:AV,∃d1:Int,a1=.tuple #[.agg c1,.int .i64 d1]/\let e1:=b1.alloc (.cells zC 52);(c1.size=35/\(∀f1∈c1.toList,f1.oneCell'=true)/\∀g1,g1<35->Wr e1 ((⟨b1.heap.size,0,none⟩:Addr).add g1))/\let i1:=setCells e1 (⟨b1.heap.size,0,none⟩:Addr) c1.toList 0;Is e fun j1:Addr=>∃k1:OA,i1.cell? (j1.add 1)=some (.pointer k1)/\Is k1 fun m1:Addr=>∃n1:OA,∃o1 p1:Nat,i1.cell? ((m1.add 0).add 0)=some (.slice n1 o1 p1)/\(0<=i/\i<(o1:Int))/\Is n1 fun q1:Addr=>∃r1:AV,(r1.size=32/\Cells i1 ((q1.add (i.toNat*33)).add 0) r1)/\bj prog 15 #[.pointer d,.agg r1] i1 fun t1 u1=>∃v1:AV,∃x1:Int,t1=.tuple #[.agg v1,.int .i64 x1]/\let y1:=u1.alloc (.cells zC 52);(v1.size=35/\(∀z1∈v1.toList,z1.oneCell'=true)/\∀a2,a2<35->Wr y1 ((⟨u1.heap.size,0,none⟩:Addr).add a2))/\let b2:=setCells y1 (⟨u1.heap.size,0,none⟩:Addr) v1.toList 0;∃c2:AV,(c2.size=35/\Cells b2 (⟨b1.heap.size,0,none⟩:Addr) c2)/\∃d2:AV,(d2.size=35/\Cells b2 (⟨u1.heap.size,0,none⟩:Addr) d2)/\bj prog 16 #[.agg c2,.agg d2] b2 fun e2 f2=>∃g2:Bool,e2=.bool g2/\Split (!g2) (Q .ret [(10,.bool false),(11,.pointer b),(14,.pointer c),(15,.pointer d),(16,.pointer e),(18,.pointer f),(19,.pointer g),(26,.int .i64 i)] f2) (Q .normal [(10,.bool a),(11,.pointer b),(14,.pointer c),(15,.pointer d),(16,.pointer e),(18,.pointer f),(19,.pointer g),(26,.int .i64 (i64.wrap (i+(1:Int))))] f2)) (Q (.exit 6) [(10,.bool a),(11,.pointer b),(14,.pointer c),(15,.pointer d),(16,.pointer e),(18,.pointer f),(19,.pointer g),(26,.int .i64 i)] w)
theorem af.b4:(aU none [] prog 294 af.k (lB (bB (sR (sL (sR (sR (sR (sR (sR (sR (sR (sR (sR (sR (body Tryz.f7))))))))))))))) af.u4 Q [(10,.bool a),(11,.pointer b),(14,.pointer c),(15,.pointer d),(16,.pointer e),(18,.pointer f),(19,.pointer g),(26,.int .i64 i)] w)=af.B4 a b c d e f g i Q w:=by kernel_rfl
variable{b c d e f g}
theorem af.zz(I:Bool×Int->World->Prop)(μ:Bool×Int->World->Nat)(s:Bool×Int){Q:aM}{w:World}(h0:I s w)
 (round:∀s w,I s w->af.B4 (s.1) b c d e f g (s.2) (bH (af.e4 b c d e f g) I μ s w Q) w):Holds none [] prog 294 (.loop (lB (bB (sR (sL (sR (sR (sR (sR (sR (sR (sR (sR (sR (sR (body Tryz.f7)))))))))))))))) Q (af.e4 b c d e f g s) w:=
 ba ng mix (af.e4 b c d e f g) I μ af.k af.u4 s (fun s Q w=>af.B4 (s.1) b c d e f g (s.2) Q w) (fun s Q w=>af.b4 (s.1) b c d e f g (s.2) Q w) h0 round
end
section
def af.vD(a:Bool)(b c d e f g:OA)(i:Int)(K:KT)(w:World):Prop:=
 Holds none [] prog 294 (.loop (lB (bB (sR (sL (sR (sR (sR (sR (sR (sR (sR (sR (sR (sR (sR (body Tryz.f7))))))))))))))))) (af.q5 K) [(10,.bool a),(11,.pointer b),(14,.pointer c),(16,.pointer e),(18,.pointer f),(19,.pointer g),(31,.int .i64 0)] w
variable(a:Bool)(b c d e f g:OA)(i:Int)(K:KT)(w:World)
theorem af.Br:(af.q4 K (.exit 6) [(10,.bool a),(11,.pointer b),(14,.pointer c),(15,.pointer d),(16,.pointer e),(18,.pointer f),(19,.pointer g),(26,.int .i64 i)] w)=af.vD a b c d e f g i K w:=by kernel_rfl
end
section
variable(a:Bool)(b c d e f:OA)(g:Int)(Q:aM)(w:World)
def af.B5:Prop:=
 Is f fun i:Addr=>∃j:OA,w.cell? (i.add 1)=some (.pointer j)/\Is j fun k:Addr=>∃m:OA,∃n o:Nat,w.cell? ((k.add 0).add 0)=some (.slice m n o)/\Split (decide (g<(n:Int))) (Is f fun p:Addr=>∃q:OA,w.cell? (p.add 1)=some (.pointer q)/\Is q fun r:Addr=>∃t:OA,∃u v:Nat,w.cell? ((r.add 0).add 0)=some (.slice t u v)/\(0<=g/\g<(u:Int))/\Is t fun x:Addr=>∃y:AV,(y.size=32/\Cells w ((x.add (g.toNat*33)).add 0) y)/\bj prog 15 #[.pointer c,.agg y] w fun z a1=>∃b1:AV,∃c1:Int,z=.tuple #[.agg b1,.int .i64 c1]/\let d1:=a1.alloc (.cells zC 52);(b1.size=35/\(∀e1∈b1.toList,e1.oneCell'=true)/\∀f1,f1<35->Wr d1 ((⟨a1.heap.size,0,none⟩:Addr).add f1))/\let g1:=setCells d1 (⟨a1.heap.size,0,none⟩:Addr) b1.toList 0;Is f fun i1:Addr=>∃j1:OA,g1.cell? (i1.add 1)=some (.pointer j1)/\Is j1 fun k1:Addr=>∃m1:OA,∃n1 o1:Nat,g1.cell? ((k1.add 0).add 0)=some (.slice m1 n1 o1)/\(0<=g/\g<(n1:Int))/\Is m1 fun p1:Addr=>∃q1:AV,(q1.size=32/\Cells g1 ((p1.add (g.toNat*33)).add 0) q1)/\bj prog 15 #[.pointer e,.agg q1] g1 fun r1 t1=>∃u1:AV,∃v1:Int,r1=.tuple #[.agg u1,.int .i64 v1]/\let x1:=t1.alloc (.cells zC 52);(u1.size=35/\(∀y1∈u1.toList,y1.oneCell'=true)/\∀z1,z1<35->Wr x1 ((⟨t1.heap.size,0,none⟩:Addr).add z1))/\let a2:=setCells x1 (⟨t1.heap.size,0,none⟩:Addr) u1.toList 0;∃b2:AV,(b2.size=35/\Cells a2 (⟨a1.heap.size,0,none⟩:Addr) b2)/\∃c2:AV,(c2.size=35/\Cells a2 (⟨t1.heap.size,0,none⟩:Addr) c2)/\bj prog 16 #[.agg b2,.agg c2] a2 fun d2 e2=>∃f2:Bool,d2=.bool f2/\Split (!f2) (Q .ret [(10,.bool false),(11,.pointer b),(14,.pointer c),(16,.pointer d),(18,.pointer e),(19,.pointer f),(31,.int .i64 g)] e2) (Q .normal [(10,.bool a),(11,.pointer b),(14,.pointer c),(16,.pointer d),(18,.pointer e),(19,.pointer f),(31,.int .i64 (i64.wrap (g+(1:Int))))] e2)) (Q (.exit 8) [(10,.bool a),(11,.pointer b),(14,.pointer c),(16,.pointer d),(18,.pointer e),(19,.pointer f),(31,.int .i64 g)] w)
theorem af.b5:(aU none [] prog 294 af.k (lB (bB (sR (sL (sR (sR (sR (sR (sR (sR (sR (sR (sR (sR (sR (body Tryz.f7)))))))))))))))) af.u5 Q [(10,.bool a),(11,.pointer b),(14,.pointer c),(16,.pointer d),(18,.pointer e),(19,.pointer f),(31,.int .i64 g)] w)=af.B5 a b c d e f g Q w:=by kernel_rfl
variable{b c d e f}
theorem af.H7(I:Bool×Int->World->Prop)(μ:Bool×Int->World->Nat)(s:Bool×Int){Q:aM}{w:World}(h0:I s w)
 (round:∀s w,I s w->af.B5 (s.1) b c d e f (s.2) (bH (af.e5 b c d e f) I μ s w Q) w):Holds none [] prog 294 (.loop (lB (bB (sR (sL (sR (sR (sR (sR (sR (sR (sR (sR (sR (sR (sR (body Tryz.f7))))))))))))))))) Q (af.e5 b c d e f s) w:=
 ba ng mix (af.e5 b c d e f) I μ af.k af.u5 s (fun s Q w=>af.B5 (s.1) b c d e f (s.2) Q w) (fun s Q w=>af.b5 (s.1) b c d e f (s.2) Q w) h0 round
end
section
def af.AY(a:Bool)(b c d e f:OA)(g:Int)(K:KT)(w:World):Prop:=
 let i:=w.drew;Is d fun j:Addr=>∃k:OA,i.cell? (j.add 1)=some (.pointer k)/\Is k fun m:Addr=>∃n:OA,∃o p:Nat,i.cell? ((m.add 0).add 0)=some (.slice n o p)/\bj prog 31 #[.pointer b] i fun q r=>∃t:OA,q=.pointer t/\r.cell? ((m.add 0).add 0)=some (.slice n o p)/\r.cell? (j.add 1)=some (.pointer k)/\bj prog 35 #[.pointer t] r fun u v=>∃x:OA,u=.pointer x/\v.cell? ((m.add 0).add 0)=some (.slice n o p)/\v.cell? (j.add 1)=some (.pointer k)/\bj prog 36 #[.pointer x] v fun y z=>∃a1:Int,y=.int .i64 a1/\z.cell? ((m.add 0).add 0)=some (.slice n o p)/\z.cell? (j.add 1)=some (.pointer k)/\Split (a1==(o:Int)) (Is f fun b1:Addr=>∃c1:OA,z.cell? (b1.add 1)=some (.pointer c1)/\Is c1 fun d1:Addr=>∃e1:OA,∃f1 g1:Nat,z.cell? ((d1.add 0).add 0)=some (.slice e1 f1 g1)/\bj prog 31 #[.pointer c] z fun i1 j1=>∃k1:OA,i1=.pointer k1/\j1.cell? ((d1.add 0).add 0)=some (.slice e1 f1 g1)/\j1.cell? (b1.add 1)=some (.pointer c1)/\bj prog 35 #[.pointer k1] j1 fun m1 n1=>∃o1:OA,m1=.pointer o1/\n1.cell? ((d1.add 0).add 0)=some (.slice e1 f1 g1)/\n1.cell? (b1.add 1)=some (.pointer c1)/\bj prog 36 #[.pointer o1] n1 fun p1 q1=>∃r1:Int,p1=.int .i64 r1/\q1.cell? ((d1.add 0).add 0)=some (.slice e1 f1 g1)/\q1.cell? (b1.add 1)=some (.pointer c1)/\Split (r1==(f1:Int)) (bj prog 10 #[] q1 fun t1 u1=>∃v1:Bool,t1=.bool v1/\K (.bool v1) u1) (K (.bool false) q1)) (K (.bool false) z)
variable(a:Bool)(b c d e f:OA)(g:Int)(K:KT)(w:World)
theorem af.KU:(af.q5 K (.exit 8) [(10,.bool a),(11,.pointer b),(14,.pointer c),(16,.pointer d),(18,.pointer e),(19,.pointer f),(31,.int .i64 g)] w)=af.AY a b c d e f g K w:=by kernel_rfl
end
section
variable(K:KT)(w:World)
variable{K w}
end
section
variable(a:Bool)(b:OA)(c d:Nat)(e:Int)(Q:aM)(w:World)
variable{b c d}
end
section
variable(a:Bool)(b:OA)(c d:Nat)(e:Int)(K:KT)(w:World)
end
end Go.Proofs.YtnboahlopghcjaaGreatDoor
