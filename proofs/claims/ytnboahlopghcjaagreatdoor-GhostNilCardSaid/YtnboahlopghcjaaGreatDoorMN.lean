import Derived.Test.YtnboahlopghcjaaGreatDoorProg
import Derived.Test.YtnboahlopghcjaaGreatDoorMA
import Derived.Test.YtnboahlopghcjaaGreatDoorMB
set_option linter.unusedVariables false
namespace Go.Proofs.YtnboahlopghcjaaGreatDoor
open Go.Proofs.Tryz
open Go Go.bp
def dK.k:List Nat:= []
section
variable(a:Int)(b:AV)(K:KT)(w:World)
def dK.W:Prop:=
 let d:=w.alloc (.cells b 23);Split (decide (a<(0:Int))) (K (.tuple #[.pointer none,.int .i64 2]) d) (Split (decide (a>(100:Int))) (K (.tuple #[.pointer none,.int .i64 2]) d) (let e:=d.drew;∃f:AV,(f.size=32/\Cells e (⟨w.heap.size,0,none⟩:Addr) f)/\ ∃g:AV,(g.size=32/\Cells e (⟨w.heap.size,0,none⟩:Addr) g)/\(aY prog 39 #[.agg f] e fun i j=> ∃k:OA,i=.pointer k/\(∃cs:AV,(.agg g:Value)=.agg cs/\cs.size=32/\Cells j (⟨w.heap.size,0,none⟩:Addr) cs)/\(let m:=j.alloc (.map #[] 0);(∃cs:AV,(.agg g:Value)=.agg cs/\cs.size=32/\Cells m (⟨w.heap.size,0,none⟩:Addr) cs)/\let n:=m.alloc (.cells zS 91);(∃cs:AV,(.agg g:Value)=.agg cs/\cs.size=32/\Cells n (⟨w.heap.size,0,none⟩:Addr) cs)/\ ∃o:World,(Instr.mapUpdate 80 (.map (some j.heap.size)) (.agg g) (.pointer (some (⟨m.heap.size,0,none⟩:Addr)))).run prog n=.ok () o/\let p:=o.alloc (.cells (#[.int .i64 a,.pointer k,.map (some j.heap.size)]:AV) 82);K (.tuple #[.pointer (some (⟨o.heap.size,0,none⟩:Addr)),.int .i64 0]) p)/\(let q:=j.alloc (.cells zS 91);(∃cs:AV,(.agg g:Value)=.agg cs/\cs.size=32/\Cells q (⟨w.heap.size,0,none⟩:Addr) cs)/\let r:=q.alloc (.map #[] 0);(∃cs:AV,(.agg g:Value)=.agg cs/\cs.size=32/\Cells r (⟨w.heap.size,0,none⟩:Addr) cs)/\ ∃t:World,(Instr.mapUpdate 80 (.map (some q.heap.size)) (.agg g) (.pointer (some (⟨j.heap.size,0,none⟩:Addr)))).run prog r=.ok () t/\let u:=t.alloc (.cells (#[.int .i64 a,.pointer k,.map (some q.heap.size)]:AV) 82);K (.tuple #[.pointer (some (⟨t.heap.size,0,none⟩:Addr)),.int .i64 0]) u))/\(let v:=e.alloc (.map #[] 0);(∃cs:AV,(.agg g:Value)=.agg cs/\cs.size=32/\Cells v (⟨w.heap.size,0,none⟩:Addr) cs)/\(∃cs:AV,(.agg f:Value)=.agg cs/\cs.size=32/\Cells v (⟨w.heap.size,0,none⟩:Addr) cs)/\(aY prog 39 #[.agg f] v fun x y=> ∃z:OA,x=.pointer z/\(∃cs:AV,(.agg g:Value)=.agg cs/\cs.size=32/\Cells y (⟨w.heap.size,0,none⟩:Addr) cs)/\let a1:=y.alloc (.cells zS 91);(∃cs:AV,(.agg g:Value)=.agg cs/\cs.size=32/\Cells a1 (⟨w.heap.size,0,none⟩:Addr) cs)/\ ∃b1:World,(Instr.mapUpdate 80 (.map (some e.heap.size)) (.agg g) (.pointer (some (⟨y.heap.size,0,none⟩:Addr)))).run prog a1=.ok () b1/\let c1:=b1.alloc (.cells (#[.int .i64 a,.pointer z,.map (some e.heap.size)]:AV) 82);K (.tuple #[.pointer (some (⟨b1.heap.size,0,none⟩:Addr)),.int .i64 0]) c1)/\(let d1:=v.alloc (.cells zS 91);(∃cs:AV,(.agg g:Value)=.agg cs/\cs.size=32/\Cells d1 (⟨w.heap.size,0,none⟩:Addr) cs)/\(∃cs:AV,(.agg f:Value)=.agg cs/\cs.size=32/\Cells d1 (⟨w.heap.size,0,none⟩:Addr) cs)/\(aY prog 39 #[.agg f] d1 fun e1 f1=> ∃g1:OA,e1=.pointer g1/\(∃cs:AV,(.agg g:Value)=.agg cs/\cs.size=32/\Cells f1 (⟨w.heap.size,0,none⟩:Addr) cs)/\ ∃i1:World,(Instr.mapUpdate 80 (.map (some e.heap.size)) (.agg g) (.pointer (some (⟨v.heap.size,0,none⟩:Addr)))).run prog f1=.ok () i1/\let j1:=i1.alloc (.cells (#[.int .i64 a,.pointer g1,.map (some e.heap.size)]:AV) 82);K (.tuple #[.pointer (some (⟨i1.heap.size,0,none⟩:Addr)),.int .i64 0]) j1)/\(∃k1:World,(Instr.mapUpdate 80 (.map (some e.heap.size)) (.agg g) (.pointer (some (⟨v.heap.size,0,none⟩:Addr)))).run prog d1=.ok () k1/\(∃cs:AV,(.agg f:Value)=.agg cs/\cs.size=32/\Cells k1 (⟨w.heap.size,0,none⟩:Addr) cs)/\aY prog 39 #[.agg f] k1 fun m1 n1=> ∃o1:OA,m1=.pointer o1/\let p1:=n1.alloc (.cells (#[.int .i64 a,.pointer o1,.map (some e.heap.size)]:AV) 82);K (.tuple #[.pointer (some (⟨n1.heap.size,0,none⟩:Addr)),.int .i64 0]) p1)))/\(let q1:=e.alloc (.cells zS 91);(∃cs:AV,(.agg g:Value)=.agg cs/\cs.size=32/\Cells q1 (⟨w.heap.size,0,none⟩:Addr) cs)/\(∃cs:AV,(.agg f:Value)=.agg cs/\cs.size=32/\Cells q1 (⟨w.heap.size,0,none⟩:Addr) cs)/\(aY prog 39 #[.agg f] q1 fun r1 t1=> ∃u1:OA,r1=.pointer u1/\(∃cs:AV,(.agg g:Value)=.agg cs/\cs.size=32/\Cells t1 (⟨w.heap.size,0,none⟩:Addr) cs)/\let v1:=t1.alloc (.map #[] 0);(∃cs:AV,(.agg g:Value)=.agg cs/\cs.size=32/\Cells v1 (⟨w.heap.size,0,none⟩:Addr) cs)/\ ∃x1:World,(Instr.mapUpdate 80 (.map (some t1.heap.size)) (.agg g) (.pointer (some (⟨e.heap.size,0,none⟩:Addr)))).run prog v1=.ok () x1/\let y1:=x1.alloc (.cells (#[.int .i64 a,.pointer u1,.map (some t1.heap.size)]:AV) 82);K (.tuple #[.pointer (some (⟨x1.heap.size,0,none⟩:Addr)),.int .i64 0]) y1)/\(let z1:=q1.alloc (.map #[] 0);(∃cs:AV,(.agg g:Value)=.agg cs/\cs.size=32/\Cells z1 (⟨w.heap.size,0,none⟩:Addr) cs)/\(∃cs:AV,(.agg f:Value)=.agg cs/\cs.size=32/\Cells z1 (⟨w.heap.size,0,none⟩:Addr) cs)/\(aY prog 39 #[.agg f] z1 fun a2 b2=> ∃c2:OA,a2=.pointer c2/\(∃cs:AV,(.agg g:Value)=.agg cs/\cs.size=32/\Cells b2 (⟨w.heap.size,0,none⟩:Addr) cs)/\ ∃d2:World,(Instr.mapUpdate 80 (.map (some q1.heap.size)) (.agg g) (.pointer (some (⟨e.heap.size,0,none⟩:Addr)))).run prog b2=.ok () d2/\let e2:=d2.alloc (.cells (#[.int .i64 a,.pointer c2,.map (some q1.heap.size)]:AV) 82);K (.tuple #[.pointer (some (⟨d2.heap.size,0,none⟩:Addr)),.int .i64 0]) e2)/\(∃f2:World,(Instr.mapUpdate 80 (.map (some q1.heap.size)) (.agg g) (.pointer (some (⟨e.heap.size,0,none⟩:Addr)))).run prog z1=.ok () f2/\(∃cs:AV,(.agg f:Value)=.agg cs/\cs.size=32/\Cells f2 (⟨w.heap.size,0,none⟩:Addr) cs)/\aY prog 39 #[.agg f] f2 fun g2 i2=> ∃j2:OA,g2=.pointer j2/\let k2:=i2.alloc (.cells (#[.int .i64 a,.pointer j2,.map (some q1.heap.size)]:AV) 82);K (.tuple #[.pointer (some (⟨i2.heap.size,0,none⟩:Addr)),.int .i64 0]) k2)))))
variable{a b K w}
theorem dK.of(h:dK.W a b K w):aY prog 12 #[.int .i64 a,.agg b] w K:=
 aH (C:=dK.k) (c:=body f12) ng mix func12 (by kernel_rfl) (by kernel_rfl) (by kernel_rfl) h
end
def bP.k:List Nat:= []
section
variable(a:OA)(b:AV)(d:OA)(e:Nat)(f:Nat)(K:KT)(w:World)
def bP.W:Prop:=
 let g:=w.alloc (.cells b 23);let i:=g.alloc (.cells zC 52);aY prog 40 #[.pointer a] i fun j k=> ∃m:Bool,j=.bool m/\Split (!m) ((zC.size=35/\(∀n∈zC.toList,n.oneCell'=true)/\ ∀o,o<35->Wr k ((⟨g.heap.size,0,none⟩:Addr).add o))/\let p:=setCells k (⟨g.heap.size,0,none⟩:Addr) zC.toList 0;∃q:AV,(q.size=35/\Cells p (⟨g.heap.size,0,none⟩:Addr) q)/\K (.tuple #[.agg q,.int .i64 1]) p) (let r:=k.drew;Is a fun t:Addr=> ∃u:Option Nat,r.cell? (t.add 2)=some (.map u)/\ ∃v:AV,(v.size=32/\Cells r (⟨w.heap.size,0,none⟩:Addr) v)/\ ∃x:OA,(Instr.lookup 80 (.map u) (.agg v) false).run prog r=.ok (.pointer x) r/\Split (!(x).isNone) ((zC.size=35/\(∀y∈zC.toList,y.oneCell'=true)/\ ∀z,z<35->Wr r ((⟨g.heap.size,0,none⟩:Addr).add z))/\let a1:=setCells r (⟨g.heap.size,0,none⟩:Addr) zC.toList 0;∃b1:AV,(b1.size=35/\Cells a1 (⟨g.heap.size,0,none⟩:Addr) b1)/\K (.tuple #[.agg b1,.int .i64 7]) a1) (Split ((e:Int)==(0:Int)) ((zC.size=35/\(∀c1∈zC.toList,c1.oneCell'=true)/\ ∀d1,d1<35->Wr r ((⟨g.heap.size,0,none⟩:Addr).add d1))/\let e1:=setCells r (⟨g.heap.size,0,none⟩:Addr) zC.toList 0;∃f1:AV,(f1.size=35/\Cells e1 (⟨g.heap.size,0,none⟩:Addr) f1)/\K (.tuple #[.agg f1,.int .i64 9]) e1) (aY prog 41 #[.slice d e f] r fun g1 i1=> ∃j1:OA,∃k1:Nat,∃m1:Nat,g1=.slice j1 k1 m1/\Split ((k1:Int) != (e:Int)) ((zC.size=35/\(∀n1∈zC.toList,n1.oneCell'=true)/\ ∀o1,o1<35->Wr i1 ((⟨g.heap.size,0,none⟩:Addr).add o1))/\let p1:=setCells i1 (⟨g.heap.size,0,none⟩:Addr) zC.toList 0;∃q1:AV,(q1.size=35/\Cells p1 (⟨g.heap.size,0,none⟩:Addr) q1)/\K (.tuple #[.agg q1,.int .i64 9]) p1) (aY prog 18 #[.pointer a,.slice d e f] i1 fun r1 t1=> ∃u1:AV,∃v1:Int,r1=.tuple #[.agg u1,.int .i64 v1]/\let x1:=t1.alloc (.cells zH 23);(u1.size=32/\(∀y1∈u1.toList,y1.oneCell'=true)/\ ∀z1,z1<32->Wr x1 ((⟨t1.heap.size,0,none⟩:Addr).add z1))/\let a2:=setCells x1 (⟨t1.heap.size,0,none⟩:Addr) u1.toList 0;Split (v1 != (0:Int)) ((zC.size=35/\(∀b2∈zC.toList,b2.oneCell'=true)/\ ∀c2,c2<35->Wr a2 ((⟨g.heap.size,0,none⟩:Addr).add c2))/\let d2:=setCells a2 (⟨g.heap.size,0,none⟩:Addr) zC.toList 0;∃e2:AV,(e2.size=35/\Cells d2 (⟨g.heap.size,0,none⟩:Addr) e2)/\K (.tuple #[.agg e2,.int .i64 v1]) d2) (∃f2:AV,(f2.size=32/\Cells a2 (⟨t1.heap.size,0,none⟩:Addr) f2)/\aY prog 42 #[.pointer a,.agg f2,.slice d e f] a2 fun g2 i2=> ∃j2:OA,g2=.pointer j2/\let k2:=i2.drew;Is a fun m2:Addr=> ∃n2:OA,k2.cell? (m2.add 1)=some (.pointer n2)/\ ∃o2:AV,(o2.size=32/\Cells k2 (⟨w.heap.size,0,none⟩:Addr) o2)/\ ∃p2:AV,(p2.size=32/\Cells k2 (⟨t1.heap.size,0,none⟩:Addr) p2)/\aY prog 43 #[.pointer n2,.agg o2,.agg p2,.slice d e f] k2 fun q2 r2=> ∃t2:Int,q2=.int .i64 t2/\let u2:=r2.drew;Is a fun v2:Addr=> ∃x2:Option Nat,u2.cell? (v2.add 2)=some (.map x2)/\ ∃y2:AV,(y2.size=32/\Cells u2 (⟨w.heap.size,0,none⟩:Addr) y2)/\ ∃z2:World,(Instr.mapUpdate 80 (.map x2) (.agg y2) (.pointer j2)).run prog u2=.ok () z2/\Is j2 fun a3:Addr=> ∃b3:AV,(b3.size=35/\Cells z2 (a3.add 0) b3)/\aY prog 44 #[.agg b3] z2 fun c3 d3=> ∃e3:AV,c3=.agg e3/\(e3.size=35/\(∀f3∈e3.toList,f3.oneCell'=true)/\ ∀g3,g3<35->Wr d3 ((⟨g.heap.size,0,none⟩:Addr).add g3))/\let i3:=setCells d3 (⟨g.heap.size,0,none⟩:Addr) e3.toList 0;∃j3:AV,(j3.size=35/\Cells i3 (⟨g.heap.size,0,none⟩:Addr) j3)/\K (.tuple #[.agg j3,.int .i64 0]) i3)))))
variable{a b d e f K w}
theorem bP.of(h:bP.W a b d e f K w):aY prog 14 #[.pointer a,.agg b,.slice d e f] w K:=
 aH (C:=bP.k) (c:=body Tryz.f14) ng mix func14 (by kernel_rfl) (by kernel_rfl) (by kernel_rfl) h
end
def cK.k:List Nat:= []
section
variable(a:OA)(b:AV)(K:KT)(w:World)
def cK.W:Prop:=
 let d:=w.alloc (.cells b 23);let e:=d.alloc (.cells zC 52);aY prog 40 #[.pointer a] e fun f g=> ∃i:Bool,f=.bool i/\Split (!i) ((zC.size=35/\(∀j∈zC.toList,j.oneCell'=true)/\ ∀k,k<35->Wr g ((⟨d.heap.size,0,none⟩:Addr).add k))/\let m:=setCells g (⟨d.heap.size,0,none⟩:Addr) zC.toList 0;∃n:AV,(n.size=35/\Cells m (⟨d.heap.size,0,none⟩:Addr) n)/\K (.tuple #[.agg n,.int .i64 1]) m) (let o:=g.drew;Is a fun p:Addr=> ∃q:Option Nat,o.cell? (p.add 2)=some (.map q)/\ ∃r:AV,(r.size=32/\Cells o (⟨w.heap.size,0,none⟩:Addr) r)/\ ∃t:OA,(Instr.lookup 80 (.map q) (.agg r) false).run prog o=.ok (.pointer t) o/\Split ((t).isNone) ((zC.size=35/\(∀u∈zC.toList,u.oneCell'=true)/\ ∀v,v<35->Wr o ((⟨d.heap.size,0,none⟩:Addr).add v))/\let x:=setCells o (⟨d.heap.size,0,none⟩:Addr) zC.toList 0;∃y:AV,(y.size=35/\Cells x (⟨d.heap.size,0,none⟩:Addr) y)/\K (.tuple #[.agg y,.int .i64 6]) x) (let z:=o.drew;Is a fun a1:Addr=> ∃b1:Option Nat,z.cell? (a1.add 2)=some (.map b1)/\ ∃c1:AV,(c1.size=32/\Cells z (⟨w.heap.size,0,none⟩:Addr) c1)/\ ∃d1:OA,(Instr.lookup 80 (.map b1) (.agg c1) false).run prog z=.ok (.pointer d1) z/\Is d1 fun e1:Addr=> ∃f1:AV,(f1.size=35/\Cells z (e1.add 0) f1)/\aY prog 44 #[.agg f1] z fun g1 i1=> ∃j1:AV,g1=.agg j1/\(j1.size=35/\(∀k1∈j1.toList,k1.oneCell'=true)/\ ∀m1,m1<35->Wr i1 ((⟨d.heap.size,0,none⟩:Addr).add m1))/\let n1:=setCells i1 (⟨d.heap.size,0,none⟩:Addr) j1.toList 0;∃o1:AV,(o1.size=35/\Cells n1 (⟨d.heap.size,0,none⟩:Addr) o1)/\K (.tuple #[.agg o1,.int .i64 0]) n1))
variable{a b K w}
theorem cK.of(h:cK.W a b K w):aY prog 15 #[.pointer a,.agg b] w K:=
 aH (C:=cK.k) (c:=body Tryz.f15) ng mix func15 (by kernel_rfl) (by kernel_rfl) (by kernel_rfl) h
end
def cD.k:List Nat:= []
section
variable(a:OA)(b:AV)(d:OA)(e:Nat)(f:Nat)(K:KT)(w:World)
def cD.W:Prop:=
 let g:=w.alloc (.cells b 23);let i:=g.alloc (.cells zC 52);∃j:AV,(j.size=32/\Cells i (⟨w.heap.size,0,none⟩:Addr) j)/\j.size=32/\let k:=i.alloc (.cells (j.toList++ []).toArray 23);∃(m:OA) (n o:Nat) (p:World),(Builtin.append_ #[35,35] 35 #[.slice (some (⟨i.heap.size,0,none⟩:Addr)) 1 1,.slice d e f]).run prog k=.ok (.slice m n o) p/\aY prog 45 #[.pointer a,.slice m n o] p fun q r=> ∃t:Int,q=.int .i64 t/\Split (t != (0:Int)) ((zC.size=35/\(∀u∈zC.toList,u.oneCell'=true)/\ ∀v,v<35->Wr r ((⟨g.heap.size,0,none⟩:Addr).add v))/\let x:=setCells r (⟨g.heap.size,0,none⟩:Addr) zC.toList 0;∃y:AV,(y.size=35/\Cells x (⟨g.heap.size,0,none⟩:Addr) y)/\K (.tuple #[.agg y,.int .i64 t]) x) (∃z:AV,(z.size=32/\Cells r (⟨w.heap.size,0,none⟩:Addr) z)/\aY prog 42 #[.pointer a,.agg z,.slice d e f] r fun a1 b1=> ∃c1:OA,a1=.pointer c1/\Is c1 fun d1:Addr=> ∃e1:AV,(e1.size=35/\Cells b1 (d1.add 0) e1)/\(e1.size=35/\(∀f1∈e1.toList,f1.oneCell'=true)/\ ∀g1,g1<35->Wr b1 ((⟨g.heap.size,0,none⟩:Addr).add g1))/\let i1:=setCells b1 (⟨g.heap.size,0,none⟩:Addr) e1.toList 0;∃j1:AV,(j1.size=35/\Cells i1 (⟨g.heap.size,0,none⟩:Addr) j1)/\K (.tuple #[.agg j1,.int .i64 0]) i1)
variable{a b d e f K w}
theorem cD.of(h:cD.W a b d e f K w):aY prog 17 #[.pointer a,.agg b,.slice d e f] w K:=
 aH (C:=cD.k) (c:=body f17) ng mix func17 (by kernel_rfl) (by kernel_rfl) (by kernel_rfl) h
end
def bL.k:List Nat:= []
section
variable(a:OA)(b:OA)(d:Nat)(e:Nat)(K:KT)(w:World)
def bL.W:Prop:=
 let f:=w.alloc (.cells zH 23);aY prog 45 #[.pointer a,.slice b d e] f fun g i=> ∃j:Int,g=.int .i64 j/\Split (j != (0:Int)) ((zH.size=32/\(∀k∈zH.toList,k.oneCell'=true)/\ ∀m,m<32->Wr i ((⟨w.heap.size,0,none⟩:Addr).add m))/\let n:=setCells i (⟨w.heap.size,0,none⟩:Addr) zH.toList 0;∃o:AV,(o.size=32/\Cells n (⟨w.heap.size,0,none⟩:Addr) o)/\K (.tuple #[.agg o,.int .i64 j]) n) (aY prog 46 #[.slice b d e,.func (.func 47) #[.pointer a] #[]] i fun p q=> ∃r:AV,p=.agg r/\(r.size=32/\(∀t∈r.toList,t.oneCell'=true)/\ ∀u,u<32->Wr q ((⟨w.heap.size,0,none⟩:Addr).add u))/\let v:=setCells q (⟨w.heap.size,0,none⟩:Addr) r.toList 0;∃x:AV,(x.size=32/\Cells v (⟨w.heap.size,0,none⟩:Addr) x)/\K (.tuple #[.agg x,.int .i64 0]) v)
variable{a b d e K w}
theorem bL.of(h:bL.W a b d e K w):aY prog 18 #[.pointer a,.slice b d e] w K:=
 aH (C:=bL.k) (c:=body f18) ng mix func18 (by kernel_rfl) (by kernel_rfl) (by kernel_rfl) h
end
section
variable(a:OA)(b:AV)(d:AV)(K:KT)(w:World)
variable{a b d K w}
end
def dq.k:List Nat:= []
section
variable(a:OA)(K:KT)(w:World)
def dq.W:Prop:=
 Split ((a).isNone) (K (.int .i64 0) w) (Is a fun b:Addr=> ∃d:Int,w.cell? (b.add 0)=some (.int .i64 d)/\K (.int .i64 d) w)
variable{a K w}
theorem dq.of(h:dq.W a K w):aY prog 29 #[.pointer a] w K:=
 aH (C:=dq.k) (c:=body Tryz.f29) ng mix func29 (by kernel_rfl) (by kernel_rfl) (by kernel_rfl) h
end
def cG.k:List Nat:= []
section
variable(a:OA)(b:AV)(d:AV)(K:KT)(w:World)
def cG.W:Prop:=
 let e:=w.alloc (.cells b 23);let f:=e.alloc (.cells d 23);∃g:AV,(g.size=32/\Cells f (⟨e.heap.size,0,none⟩:Addr) g)/\aY prog 24 #[.pointer a,.agg g] f fun i j=> ∃k:OA,∃m:Nat,∃n:Nat,∃o:Int,i=.tuple #[.slice k m n,.int .i64 o]/\ ∃p:AV,(p.size=32/\Cells j (⟨w.heap.size,0,none⟩:Addr) p)/\aY prog 54 #[.slice k m n,.agg p] j fun q r=> ∃t:Bool,q=.bool t/\K (.bool t) r
variable{a b d K w}
theorem cG.of(h:cG.W a b d K w):aY prog 30 #[.pointer a,.agg b,.agg d] w K:=
 aH (C:=cG.k) (c:=body f30) ng mix func30 (by kernel_rfl) (by kernel_rfl) (by kernel_rfl) h
end
def cr.k:List Nat:= []
section
variable(a:OA)(K:KT)(w:World)
def cr.W:Prop:=
 Split ((a).isNone) (K (.pointer none) w) (Is a fun b:Addr=> ∃d:OA,w.cell? (b.add 1)=some (.pointer d)/\K (.pointer d) w)
variable{a K w}
theorem cr.of(h:cr.W a K w):aY prog 31 #[.pointer a] w K:=
 aH (C:=cr.k) (c:=body f31) ng mix func31 (by kernel_rfl) (by kernel_rfl) (by kernel_rfl) h
end
def cF.k:List Nat:= []
section
variable(a:OA)(K:KT)(w:World)
def cF.W:Prop:=
 aY prog 40 #[.pointer a] w fun b d=> ∃e:Bool,b=.bool e/\Split (!e) (K (.pointer none) d) (let f:=d.drew;Is a fun g:Addr=> ∃i:Int,f.cell? (g.add 0)=some (.int .i64 i)/\Is a fun j:Addr=> ∃k:OA,f.cell? (j.add 1)=some (.pointer k)/\Is a fun m:Addr=> ∃n:Option Nat,f.cell? (m.add 2)=some (.map n)/\aY prog 58 #[.pointer k] f fun o p=> ∃q:OA,o=.pointer q/\p.cell? (m.add 2)=some (.map n)/\p.cell? (g.add 0)=some (.int .i64 i)/\aY prog 59 #[.map n] p fun r t=> ∃u:Option Nat,r=.map u/\t.cell? (g.add 0)=some (.int .i64 i)/\let v:=t.alloc (.cells (#[.int .i64 i,.pointer q,.map u]:AV) 82);K (.pointer (some (⟨t.heap.size,0,none⟩:Addr))) v)
variable{a K w}
theorem cF.of(h:cF.W a K w):aY prog 34 #[.pointer a] w K:=
 aH (C:=cF.k) (c:=body f34) ng mix func34 (by kernel_rfl) (by kernel_rfl) (by kernel_rfl) h
end
def bT.k:List Nat:= []
section
variable(a:OA)(K:KT)(w:World)
def bT.W:Prop:=
 Split (!(a).isNone) (Is a fun b:Addr=> ∃d:OA,w.cell? (b.add 1)=some (.pointer d)/\K (.bool (!(d).isNone)) w) (K (.bool false) w)
variable{a K w}
theorem bT.of(h:bT.W a K w):aY prog 40 #[.pointer a] w K:=
 aH (C:=bT.k) (c:=body f40) ng mix func40 (by kernel_rfl) (by kernel_rfl) (by kernel_rfl) h
end
def ag.k:List Nat:= []
def ag.q1(K:KT):aJ:=(aK 0 (bY (sR (sR (sR (sR (body f42)))))++(aO f42)) (bN (fun bS w_=>match cutAt ag.k (sR (sR (sR (sR (body f42)))))with|true=>Holds none [] prog 153 (sR (sR (sR (sR (body f42))))) (bG prog f42 K) bS w_|false=>aT none [] prog 153 ag.k (sR (sR (sR (sR (body f42))))) (aO f42) (bG prog f42 K) bS w_) (bG prog f42 K)))
def ag.e1(a:Addr)(b:Addr)(c:OA)(d:Addr)(e:OA)(f:Nat)(g:Nat)(i:Int)(s:Int):Env:= [(3,.pointer (some a)),(4,.pointer (some b)),(6,.pointer c),(8,.pointer (some d)),(46,.slice e f g),(47,.int .i64 i),(48,.int .i64 s)]
def ag.u1:List Nat:= [3,4,6,8,46,47,48]
def ag.q2(K:KT):aJ:=(aK 2 (bY (sR (sR (sR (sR (sR (sR (sR (sR (sR (body f42))))))))))++(aO f42)) (bN (fun bS w_=>match cutAt ag.k (sR (sR (sR (sR (sR (sR (sR (sR (sR (body f42))))))))))with|true=>Holds none [] prog 153 (sR (sR (sR (sR (sR (sR (sR (sR (sR (body f42)))))))))) (bG prog f42 K) bS w_|false=>aT none [] prog 153 ag.k (sR (sR (sR (sR (sR (sR (sR (sR (sR (body f42)))))))))) (aO f42) (bG prog f42 K) bS w_) (bG prog f42 K)))
def ag.e2(a:Addr)(b:OA)(c:Addr)(d:Addr)(e:Addr)(f:Addr)(g:Addr)(i:Addr)(j:OA)(k:Nat)(m:Nat)(n:Int)(s:Int):Env:= [(3,.pointer (some a)),(6,.pointer b),(8,.pointer (some c)),(11,.pointer (some d)),(12,.func (.func 73) #[] #[.pointer (some e),.pointer (some f),.pointer (some g)]),(13,.pointer (some i)),(92,.slice j k m),(93,.int .i64 n),(94,.int .i64 s)]
def ag.u2:List Nat:= [3,6,8,11,12,13,92,93,94]
def ag.q3(Q:aJ):aJ:=(aK 4 (bY (sR (sR (sR (sR (sR (sR (sR (sR (bB (sL (sR (sR (lB (bB (sR (sL (sR (sR (sR (sR (sR (sR (sR (sR (body f42)))))))))))))))))))))))))++(bY (sR (sR (sR (lB (bB (sR (sL (sR (sR (sR (sR (sR (sR (sR (sR (body f42))))))))))))))))++ag.u2)) (bN (fun bS w_=>match cutAt ag.k (sR (sR (sR (sR (sR (sR (sR (sR (bB (sL (sR (sR (lB (bB (sR (sL (sR (sR (sR (sR (sR (sR (sR (sR (body f42)))))))))))))))))))))))))with|true=>Holds none [] prog 153 (sR (sR (sR (sR (sR (sR (sR (sR (bB (sL (sR (sR (lB (bB (sR (sL (sR (sR (sR (sR (sR (sR (sR (sR (body f42))))))))))))))))))))))))) (aK 3 (bY (sR (sR (sR (lB (bB (sR (sL (sR (sR (sR (sR (sR (sR (sR (sR (body f42))))))))))))))))++ag.u2) (bN (fun bS w_=>match cutAt ag.k (sR (sR (sR (lB (bB (sR (sL (sR (sR (sR (sR (sR (sR (sR (sR (body f42))))))))))))))))with|true=>Holds none [] prog 153 (sR (sR (sR (lB (bB (sR (sL (sR (sR (sR (sR (sR (sR (sR (sR (body f42)))))))))))))))) Q bS w_|false=>aT none [] prog 153 ag.k (sR (sR (sR (lB (bB (sR (sL (sR (sR (sR (sR (sR (sR (sR (sR (body f42)))))))))))))))) ag.u2 Q bS w_) Q)) bS w_|false=>aT none [] prog 153 ag.k (sR (sR (sR (sR (sR (sR (sR (sR (bB (sL (sR (sR (lB (bB (sR (sL (sR (sR (sR (sR (sR (sR (sR (sR (body f42))))))))))))))))))))))))) (bY (sR (sR (sR (lB (bB (sR (sL (sR (sR (sR (sR (sR (sR (sR (sR (body f42))))))))))))))))++ag.u2) (aK 3 (bY (sR (sR (sR (lB (bB (sR (sL (sR (sR (sR (sR (sR (sR (sR (sR (body f42))))))))))))))))++ag.u2) (bN (fun bS w_=>match cutAt ag.k (sR (sR (sR (lB (bB (sR (sL (sR (sR (sR (sR (sR (sR (sR (sR (body f42))))))))))))))))with|true=>Holds none [] prog 153 (sR (sR (sR (lB (bB (sR (sL (sR (sR (sR (sR (sR (sR (sR (sR (body f42)))))))))))))))) Q bS w_|false=>aT none [] prog 153 ag.k (sR (sR (sR (lB (bB (sR (sL (sR (sR (sR (sR (sR (sR (sR (sR (body f42)))))))))))))))) ag.u2 Q bS w_) Q)) bS w_) (aK 3 (bY (sR (sR (sR (lB (bB (sR (sL (sR (sR (sR (sR (sR (sR (sR (sR (body f42))))))))))))))))++ag.u2) (bN (fun bS w_=>match cutAt ag.k (sR (sR (sR (lB (bB (sR (sL (sR (sR (sR (sR (sR (sR (sR (sR (body f42))))))))))))))))with|true=>Holds none [] prog 153 (sR (sR (sR (lB (bB (sR (sL (sR (sR (sR (sR (sR (sR (sR (sR (body f42)))))))))))))))) Q bS w_|false=>aT none [] prog 153 ag.k (sR (sR (sR (lB (bB (sR (sL (sR (sR (sR (sR (sR (sR (sR (sR (body f42)))))))))))))))) ag.u2 Q bS w_) Q))))
def ag.e3(a:Addr)(b:OA)(c:Addr)(d:Addr)(e:Addr)(f:Addr)(g:Addr)(i:Addr)(j:Addr)(k:OA)(m:Nat)(n:Nat)(o:Int)(p:Int)(q:OA)(s:Unit):Env:= [(3,.pointer (some a)),(6,.pointer b),(8,.pointer (some c)),(11,.pointer (some d)),(12,.func (.func 73) #[] #[.pointer (some e),.pointer (some f),.pointer (some g)]),(13,.pointer (some i)),(15,.pointer (some j)),(92,.slice k m n),(93,.int .i64 o),(94,.int .i64 p),(134,.pointer q)]
def ag.u3:List Nat:= [3,6,8,11,12,13,15,92,93,94,134]
section
variable(a:OA)(b:AV)(d:OA)(e:Nat)(f:Nat)(K:KT)(w:World)
def ag.W:Prop:=
 let g:=w.alloc (.cells (#[.pointer a]:AV) 28);let i:=g.alloc (.cells b 23);∃j:OA,i.cell? (⟨w.heap.size,0,none⟩:Addr)=some (.pointer j)/\Is j fun k:Addr=> ∃m:OA,i.cell? (k.add 1)=some (.pointer m)/\aY prog 35 #[.pointer m] i fun n o=> ∃p:OA,n=.pointer p/\let q:=o.drew;∃r:AV,(r.size=32/\Cells q (⟨g.heap.size,0,none⟩:Addr) r)/\ ∃t:OA,q.cell? (⟨w.heap.size,0,none⟩:Addr)=some (.pointer t)/\Is t fun u:Addr=> ∃v:Option Nat,q.cell? (u.add 2)=some (.map v)/\ ∃x:AV,(x.size=32/\Cells q (⟨g.heap.size,0,none⟩:Addr) x)/\ ∃y:OA,(Instr.lookup 80 (.map v) (.agg x) false).run prog q=.ok (.pointer y) q/\Is y fun z:Addr=> ∃a1:Int,q.cell? ((z.add 0).add 32)=some (.int .u64 a1)/\Is (prog.built 52 [(0,.agg r),(1,.int .u64 (IntKind.u64.wrap (a1+(1:Int))))]) fun b1:AV=>(let c1:=q.alloc (.map #[] 0);c1.cell? ((z.add 0).add 32)=some (.int .u64 a1)/\(Instr.lookup 80 (.map v) (.agg x) false).run prog c1=.ok (.pointer y) c1/\(∃cs:AV,(.agg x:Value)=.agg cs/\cs.size=32/\Cells c1 (⟨g.heap.size,0,none⟩:Addr) cs)/\c1.cell? (u.add 2)=some (.map v)/\c1.cell? (⟨w.heap.size,0,none⟩:Addr)=some (.pointer t)/\(∃cs:AV,(.agg r:Value)=.agg cs/\cs.size=32/\Cells c1 (⟨g.heap.size,0,none⟩:Addr) cs)/\Is (prog.built 91 [(0,.agg b1),(1,.map (some q.heap.size))]) fun d1:AV=>(let e1:=c1.alloc (.cells d1 91);let f1:=e1.alloc (.cells (#[.pointer none]:AV) 88);Wr f1 (⟨e1.heap.size,0,none⟩:Addr)/\let g1:=f1.setCell (⟨e1.heap.size,0,none⟩:Addr) (.pointer (some (⟨c1.heap.size,0,none⟩:Addr)));aY prog 70 #[.pointer p,.slice d e f] g1 fun i1 j1=> ∃k1:OA,∃m1:Nat,∃n1:Nat,i1=.slice k1 m1 n1/\ ∃(o1:OA) (p1 q1:Nat) (r1:World),(Builtin.append_ #[35,35] 35 #[.slice k1 m1 n1,.slice d e f]).run prog j1=.ok (.slice o1 p1 q1) r1/\aY prog 41 #[.slice o1 p1 q1] r1 fun t1 u1=> ∃v1:OA,∃x1:Nat,∃y1:Nat,t1=.slice v1 x1 y1/\Holds none [] prog 153 (.loop (lB (bB (sR (sL (sR (sR (sR (body f42))))))))) (ag.q1 K) [(3,.pointer (some (⟨w.heap.size,0,none⟩:Addr))),(4,.pointer (some (⟨g.heap.size,0,none⟩:Addr))),(6,.pointer none),(8,.pointer (some (⟨e1.heap.size,0,none⟩:Addr))),(46,.slice v1 x1 y1),(47,.int .i64 (x1:Int)),(48,.int .i64 0)] u1)/\(let z1:=c1.alloc (.cells (#[.pointer none]:AV) 88);z1.cell? ((z.add 0).add 32)=some (.int .u64 a1)/\(Instr.lookup 80 (.map v) (.agg x) false).run prog z1=.ok (.pointer y) z1/\(∃cs:AV,(.agg x:Value)=.agg cs/\cs.size=32/\Cells z1 (⟨g.heap.size,0,none⟩:Addr) cs)/\z1.cell? (u.add 2)=some (.map v)/\z1.cell? (⟨w.heap.size,0,none⟩:Addr)=some (.pointer t)/\(∃cs:AV,(.agg r:Value)=.agg cs/\cs.size=32/\Cells z1 (⟨g.heap.size,0,none⟩:Addr) cs)/\let a2:=z1.alloc (.cells d1 91);Wr a2 (⟨c1.heap.size,0,none⟩:Addr)/\let b2:=a2.setCell (⟨c1.heap.size,0,none⟩:Addr) (.pointer (some (⟨z1.heap.size,0,none⟩:Addr)));aY prog 70 #[.pointer p,.slice d e f] b2 fun c2 d2=> ∃e2:OA,∃f2:Nat,∃g2:Nat,c2=.slice e2 f2 g2/\ ∃(i2:OA) (j2 k2:Nat) (m2:World),(Builtin.append_ #[35,35] 35 #[.slice e2 f2 g2,.slice d e f]).run prog d2=.ok (.slice i2 j2 k2) m2/\aY prog 41 #[.slice i2 j2 k2] m2 fun n2 o2=> ∃p2:OA,∃q2:Nat,∃r2:Nat,n2=.slice p2 q2 r2/\Holds none [] prog 153 (.loop (lB (bB (sR (sL (sR (sR (sR (body f42))))))))) (ag.q1 K) [(3,.pointer (some (⟨w.heap.size,0,none⟩:Addr))),(4,.pointer (some (⟨g.heap.size,0,none⟩:Addr))),(6,.pointer none),(8,.pointer (some (⟨c1.heap.size,0,none⟩:Addr))),(46,.slice p2 q2 r2),(47,.int .i64 (q2:Int)),(48,.int .i64 0)] o2))/\(let t2:=q.alloc (.cells (#[.pointer none]:AV) 88);t2.cell? ((z.add 0).add 32)=some (.int .u64 a1)/\(Instr.lookup 80 (.map v) (.agg x) false).run prog t2=.ok (.pointer y) t2/\(∃cs:AV,(.agg x:Value)=.agg cs/\cs.size=32/\Cells t2 (⟨g.heap.size,0,none⟩:Addr) cs)/\t2.cell? (u.add 2)=some (.map v)/\t2.cell? (⟨w.heap.size,0,none⟩:Addr)=some (.pointer t)/\(∃cs:AV,(.agg r:Value)=.agg cs/\cs.size=32/\Cells t2 (⟨g.heap.size,0,none⟩:Addr) cs)/\let u2:=t2.alloc (.map #[] 0);u2.cell? ((z.add 0).add 32)=some (.int .u64 a1)/\(Instr.lookup 80 (.map v) (.agg x) false).run prog u2=.ok (.pointer y) u2/\(∃cs:AV,(.agg x:Value)=.agg cs/\cs.size=32/\Cells u2 (⟨g.heap.size,0,none⟩:Addr) cs)/\u2.cell? (u.add 2)=some (.map v)/\u2.cell? (⟨w.heap.size,0,none⟩:Addr)=some (.pointer t)/\(∃cs:AV,(.agg r:Value)=.agg cs/\cs.size=32/\Cells u2 (⟨g.heap.size,0,none⟩:Addr) cs)/\Is (prog.built 91 [(0,.agg b1),(1,.map (some t2.heap.size))]) fun v2:AV=>let x2:=u2.alloc (.cells v2 91);Wr x2 (⟨q.heap.size,0,none⟩:Addr)/\let y2:=x2.setCell (⟨q.heap.size,0,none⟩:Addr) (.pointer (some (⟨u2.heap.size,0,none⟩:Addr)));aY prog 70 #[.pointer p,.slice d e f] y2 fun z2 a3=> ∃b3:OA,∃c3:Nat,∃d3:Nat,z2=.slice b3 c3 d3/\ ∃(e3:OA) (f3 g3:Nat) (i3:World),(Builtin.append_ #[35,35] 35 #[.slice b3 c3 d3,.slice d e f]).run prog a3=.ok (.slice e3 f3 g3) i3/\aY prog 41 #[.slice e3 f3 g3] i3 fun j3 k3=> ∃m3:OA,∃n3:Nat,∃o3:Nat,j3=.slice m3 n3 o3/\Holds none [] prog 153 (.loop (lB (bB (sR (sL (sR (sR (sR (body f42))))))))) (ag.q1 K) [(3,.pointer (some (⟨w.heap.size,0,none⟩:Addr))),(4,.pointer (some (⟨g.heap.size,0,none⟩:Addr))),(6,.pointer none),(8,.pointer (some (⟨q.heap.size,0,none⟩:Addr))),(46,.slice m3 n3 o3),(47,.int .i64 (n3:Int)),(48,.int .i64 0)] k3)
variable{a b d e f K w}
theorem ag.of(h:ag.W a b d e f K w):aY prog 42 #[.pointer a,.agg b,.slice d e f] w K:=
 aH (C:=ag.k) (c:=body f42) ng mix func42 (by kernel_rfl) (by kernel_rfl) (by kernel_rfl) h
end
section
variable(a:Addr)(b:Addr)(c:OA)(d:Addr)(e:OA)(f:Nat)(g:Nat)(i:Int)(j:Int)(Q:aJ)(w:World)
def ag.B1:Prop:=
 Split (decide (j<i)) ((0<=j/\j<(f:Int))/\Is e fun k:Addr=> ∃m:AV,(m.size=32/\Cells w (k.add (j.toNat*32)) m)/\let n:=w.alloc (.cells zH 23);(m.size=32/\(∀o∈m.toList,o.oneCell'=true)/\ ∀p,p<32->Wr n ((⟨w.heap.size,0,none⟩:Addr).add p))/\let q:=setCells n (⟨w.heap.size,0,none⟩:Addr) m.toList 0;let r:=q.drew;∃t:AV,(t.size=32/\Cells r (⟨w.heap.size,0,none⟩:Addr) t)/\ ∃u:AV,(u.size=32/\Cells r b u)/\(eh .u8 32 t/\eh .u8 32 u)/\Split (!(eK t u)) (∃v:OA,r.cell? a=some (.pointer v)/\Is v fun x:Addr=> ∃y:OA,r.cell? (x.add 1)=some (.pointer y)/\ ∃z:AV,(z.size=32/\Cells r (⟨w.heap.size,0,none⟩:Addr) z)/\ ∃a1:AV,(a1.size=32/\Cells r b a1)/\aY prog 71 #[.pointer y,.agg z,.agg a1] r fun b1 c1=> ∃d1:Bool,b1=.bool d1/\Split (!d1) (let e1:=c1.drew;∃f1:OA,e1.cell? d=some (.pointer f1)/\ ∃g1:OA,e1.cell? d=some (.pointer g1)/\Is g1 fun i1:Addr=> ∃j1:OA,∃k1:Nat,∃m1:Nat,e1.cell? ((i1.add 0).add 33)=some (.slice j1 k1 m1)/\ ∃n1:AV,(n1.size=32/\Cells e1 (⟨w.heap.size,0,none⟩:Addr) n1)/\n1.size=32/\let o1:=e1.alloc (.cells (n1.toList++ []).toArray 23);o1.cell? ((i1.add 0).add 33)=some (.slice j1 k1 m1)/\o1.cell? d=some (.pointer g1)/\o1.cell? d=some (.pointer f1)/\ ∃(p1:OA) (q1 r1:Nat) (t1:World),(Builtin.append_ #[35,35] 35 #[.slice j1 k1 m1,.slice (some (⟨e1.heap.size,0,none⟩:Addr)) 1 1]).run prog o1=.ok (.slice p1 q1 r1) t1/\t1.cell? d=some (.pointer f1)/\Is f1 fun u1:Addr=>Wr t1 ((u1.add 0).add 33)/\let v1:=t1.setCell ((u1.add 0).add 33) (.slice p1 q1 r1);Q .normal [(3,.pointer (some a)),(4,.pointer (some b)),(6,.pointer c),(8,.pointer (some d)),(46,.slice e f g),(47,.int .i64 i),(48,.int .i64 (IntKind.i64.wrap (j+(1:Int))))] v1) (Q .normal [(3,.pointer (some a)),(4,.pointer (some b)),(6,.pointer c),(8,.pointer (some d)),(46,.slice e f g),(47,.int .i64 i),(48,.int .i64 (IntKind.i64.wrap (j+(1:Int))))] c1)) (Q .normal [(3,.pointer (some a)),(4,.pointer (some b)),(6,.pointer c),(8,.pointer (some d)),(46,.slice e f g),(47,.int .i64 i),(48,.int .i64 (IntKind.i64.wrap (j+(1:Int))))] r)) (Q (.exit 0) [(3,.pointer (some a)),(4,.pointer (some b)),(6,.pointer c),(8,.pointer (some d)),(46,.slice e f g),(47,.int .i64 i),(48,.int .i64 j)] w)
theorem ag.b1:(aT none [] prog 153 ag.k (lB (bB (sR (sL (sR (sR (sR (body f42)))))))) ag.u1 Q [(3,.pointer (some a)),(4,.pointer (some b)),(6,.pointer c),(8,.pointer (some d)),(46,.slice e f g),(47,.int .i64 i),(48,.int .i64 j)] w)=ag.B1 a b c d e f g i j Q w:=by kernel_rfl
variable{a b c d e f g i}
theorem ag.bU(I:Int->World->Prop)(μ:Int->World->Nat)(s:Int){Q:aJ}{w:World}(h0:I s w)
 (round: ∀s w,I s w->ag.B1 a b c d e f g i s (bF (ag.e1 a b c d e f g i) I μ s w Q) w):Holds none [] prog 153 (.loop (lB (bB (sR (sL (sR (sR (sR (body f42))))))))) Q (ag.e1 a b c d e f g i s) w:=
 ba ng mix (ag.e1 a b c d e f g i) I μ ag.k ag.u1 s (fun s Q w=>ag.B1 a b c d e f g i s Q w) (fun s Q w=>ag.b1 a b c d e f g i s Q w) h0 round
end
section
def ag.cW(a:Addr)(b:Addr)(c:OA)(d:Addr)(e:OA)(f:Nat)(g:Nat)(i:Int)(j:Int)(K:KT)(w:World):Prop:=
 let k:=w.drew;∃m:OA,k.cell? d=some (.pointer m)/\Is m fun n:Addr=> ∃o:OA,∃p:Nat,∃q:Nat,k.cell? ((n.add 0).add 33)=some (.slice o p q)/\ ∃r:OA,k.cell? a=some (.pointer r)/\aY prog 72 #[.slice o p q,.func (.func 47) #[.pointer r] #[]] k fun t u=>t=.tuple #[]/\let v:=u.alloc (.cells (#[.slice none 0 0]:AV) 35);let x:=v.alloc (.cells (#[.nilFunc]:AV) 98);Wr x (⟨v.heap.size,0,none⟩:Addr)/\let y:=x.setCell (⟨v.heap.size,0,none⟩:Addr) (.func (.func 75) #[] #[.pointer (some d),.pointer (some a),.pointer (some b)]);∃z:OA,y.cell? d=some (.pointer z)/\Is z fun a1:Addr=> ∃b1:OA,∃c1:Nat,∃d1:Nat,y.cell? ((a1.add 0).add 33)=some (.slice b1 c1 d1)/\Holds none [] prog 153 (.loop (lB (bB (sR (sL (sR (sR (sR (sR (sR (sR (sR (sR (body f42)))))))))))))) (ag.q2 K) [(3,.pointer (some a)),(6,.pointer c),(8,.pointer (some d)),(11,.pointer (some (⟨u.heap.size,0,none⟩:Addr))),(12,.func (.func 73) #[] #[.pointer (some (⟨u.heap.size,0,none⟩:Addr)),.pointer (some a),.pointer (some b)]),(13,.pointer (some (⟨v.heap.size,0,none⟩:Addr))),(92,.slice b1 c1 d1),(93,.int .i64 (c1:Int)),(94,.int .i64 0)] y
variable(a:Addr)(b:Addr)(c:OA)(d:Addr)(e:OA)(f:Nat)(g:Nat)(i:Int)(j:Int)(K:KT)(w:World)
theorem ag.dD:(ag.q1 K (.exit 0) [(3,.pointer (some a)),(4,.pointer (some b)),(6,.pointer c),(8,.pointer (some d)),(46,.slice e f g),(47,.int .i64 i),(48,.int .i64 j)] w)=ag.cW a b c d e f g i j K w:=by kernel_rfl
end
section
variable(a:Addr)(b:OA)(c:Addr)(d:Addr)(e:Addr)(f:Addr)(g:Addr)(i:Addr)(j:OA)(k:Nat)(m:Nat)(n:Int)(o:Int)(Q:aJ)(w:World)
def ag.B2:Prop:=
 Split (decide (o<n)) ((0<=o/\o<(k:Int))/\Is j fun p:Addr=> ∃q:AV,(q.size=32/\Cells w (p.add (o.toNat*32)) q)/\let r:=w.alloc (.cells zH 23);(q.size=32/\(∀t∈q.toList,t.oneCell'=true)/\ ∀u,u<32->Wr r ((⟨w.heap.size,0,none⟩:Addr).add u))/\let v:=setCells r (⟨w.heap.size,0,none⟩:Addr) q.toList 0;let x:=v.alloc (.map #[] 0);let y:=x.alloc (.cells (#[.map none]:AV) 89);Wr y (⟨x.heap.size,0,none⟩:Addr)/\let z:=y.setCell (⟨x.heap.size,0,none⟩:Addr) (.map (some v.heap.size));∃a1:AV,(a1.size=32/\Cells z (⟨w.heap.size,0,none⟩:Addr) a1)/\aY prog 73 #[.agg a1,.func (.func 77) #[] #[.pointer (some i),.pointer (some (⟨x.heap.size,0,none⟩:Addr)),.pointer (some a)],.pointer (some e),.pointer (some f),.pointer (some g)] z fun b1 c1=> ∃d1:Bool,b1=.bool d1/\let e1:=c1.drew;∃f1:OA,e1.cell? c=some (.pointer f1)/\ ∃g1:OA,e1.cell? c=some (.pointer g1)/\Is g1 fun i1:Addr=> ∃j1:OA,∃k1:Nat,∃m1:Nat,e1.cell? ((i1.add 0).add 34)=some (.slice j1 k1 m1)/\let n1:=e1.alloc (.cells #[.bool d1] 4);n1.cell? ((i1.add 0).add 34)=some (.slice j1 k1 m1)/\n1.cell? c=some (.pointer g1)/\n1.cell? c=some (.pointer f1)/\ ∃(o1:OA) (p1 q1:Nat) (r1:World),(Builtin.append_ #[50,50] 50 #[.slice j1 k1 m1,.slice (some (⟨e1.heap.size,0,none⟩:Addr)) 1 1]).run prog n1=.ok (.slice o1 p1 q1) r1/\r1.cell? c=some (.pointer f1)/\Is f1 fun t1:Addr=>Wr r1 ((t1.add 0).add 34)/\let u1:=r1.setCell ((t1.add 0).add 34) (.slice o1 p1 q1);Split (!d1) (Q .normal [(3,.pointer (some a)),(6,.pointer b),(8,.pointer (some c)),(11,.pointer (some d)),(12,.func (.func 73) #[] #[.pointer (some e),.pointer (some f),.pointer (some g)]),(13,.pointer (some i)),(92,.slice j k m),(93,.int .i64 n),(94,.int .i64 (IntKind.i64.wrap (o+(1:Int))))] u1) (∃v1:OA,u1.cell? c=some (.pointer v1)/\Is v1 fun x1:Addr=> ∃y1:Int,u1.cell? ((x1.add 0).add 32)=some (.int .u64 y1)/\Is v1 fun z1:Addr=>Wr u1 ((z1.add 0).add 32)/\let a2:=u1.setCell ((z1.add 0).add 32) (.int .u64 (IntKind.u64.wrap (y1+(1:Int))));let b2:=a2.drew;∃c2:OA,b2.cell? c=some (.pointer c2)/\Is c2 fun d2:Addr=> ∃e2:Option Nat,b2.cell? (d2.add 35)=some (.map e2)/\ ∃f2:AV,(f2.size=32/\Cells b2 (⟨w.heap.size,0,none⟩:Addr) f2)/\ ∃g2:Option Nat,b2.cell? (⟨x.heap.size,0,none⟩:Addr)=some (.map g2)/\ ∃i2:Nat,(Builtin.len_ #[89] 3 #[.map g2]).run prog b2=.ok (.int .i64 (i2:Int)) b2/\ ∃j2:World,(Instr.mapUpdate 89 (.map e2) (.agg f2) (.int .i64 (i2:Int))).run prog b2=.ok () j2/\ ∃k2:Option Nat,j2.cell? (⟨x.heap.size,0,none⟩:Addr)=some (.map k2)/\ ∃(m2:OA) (n2:World),(Instr.range 89 (.map k2)).run prog j2=.ok (.pointer m2) n2/\Holds none [] prog 153 (.loop (lB (bB (sR (sL (sR (sR (sR (sR (sR (sR (sR (bB (sL (sR (sR (lB (bB (sR (sL (sR (sR (sR (sR (sR (sR (sR (sR (body f42))))))))))))))))))))))))))))) (ag.q3 Q) [(3,.pointer (some a)),(6,.pointer b),(8,.pointer (some c)),(11,.pointer (some d)),(12,.func (.func 73) #[] #[.pointer (some e),.pointer (some f),.pointer (some g)]),(13,.pointer (some i)),(15,.pointer (some (⟨w.heap.size,0,none⟩:Addr))),(92,.slice j k m),(93,.int .i64 n),(94,.int .i64 o),(134,.pointer m2)] n2)) (Q (.exit 2) [(3,.pointer (some a)),(6,.pointer b),(8,.pointer (some c)),(11,.pointer (some d)),(12,.func (.func 73) #[] #[.pointer (some e),.pointer (some f),.pointer (some g)]),(13,.pointer (some i)),(92,.slice j k m),(93,.int .i64 n),(94,.int .i64 o)] w)
theorem ag.b2:(aT none [] prog 153 ag.k (lB (bB (sR (sL (sR (sR (sR (sR (sR (sR (sR (sR (body f42))))))))))))) ag.u2 Q [(3,.pointer (some a)),(6,.pointer b),(8,.pointer (some c)),(11,.pointer (some d)),(12,.func (.func 73) #[] #[.pointer (some e),.pointer (some f),.pointer (some g)]),(13,.pointer (some i)),(92,.slice j k m),(93,.int .i64 n),(94,.int .i64 o)] w)=ag.B2 a b c d e f g i j k m n o Q w:=by kernel_rfl
variable{a b c d e f g i j k m n}
theorem ag.gz(I:Int->World->Prop)(μ:Int->World->Nat)(s:Int){Q:aJ}{w:World}(h0:I s w)
 (round: ∀s w,I s w->ag.B2 a b c d e f g i j k m n s (bF (ag.e2 a b c d e f g i j k m n) I μ s w Q) w):Holds none [] prog 153 (.loop (lB (bB (sR (sL (sR (sR (sR (sR (sR (sR (sR (sR (body f42)))))))))))))) Q (ag.e2 a b c d e f g i j k m n s) w:=
 ba ng mix (ag.e2 a b c d e f g i j k m n) I μ ag.k ag.u2 s (fun s Q w=>ag.B2 a b c d e f g i j k m n s Q w) (fun s Q w=>ag.b2 a b c d e f g i j k m n s Q w) h0 round
end
section
def ag.iS(a:Addr)(b:OA)(c:Addr)(d:Addr)(e:Addr)(f:Addr)(g:Addr)(i:Addr)(j:OA)(k:Nat)(m:Nat)(n:Int)(o:Int)(K:KT)(w:World):Prop:=
 ∃p:OA,w.cell? c=some (.pointer p)/\K (.pointer p) w
variable(a:Addr)(b:OA)(c:Addr)(d:Addr)(e:Addr)(f:Addr)(g:Addr)(i:Addr)(j:OA)(k:Nat)(m:Nat)(n:Int)(o:Int)(K:KT)(w:World)
theorem ag.jI:(ag.q2 K (.exit 2) [(3,.pointer (some a)),(6,.pointer b),(8,.pointer (some c)),(11,.pointer (some d)),(12,.func (.func 73) #[] #[.pointer (some e),.pointer (some f),.pointer (some g)]),(13,.pointer (some i)),(92,.slice j k m),(93,.int .i64 n),(94,.int .i64 o)] w)=ag.iS a b c d e f g i j k m n o K w:=by kernel_rfl
end
section
variable(a:Addr)(b:OA)(c:Addr)(d:Addr)(e:Addr)(f:Addr)(g:Addr)(i:Addr)(j:Addr)(k:OA)(m:Nat)(n:Nat)(o:Int)(p:Int)(q:OA)(Q:aJ)(w:World)
def ag.B3:Prop:=
 (∃r:World,(Instr.next (.pointer q) false 0).run prog w=.ok (.tuple #[.bool false]) r/\Q (.exit 4) [(3,.pointer (some a)),(6,.pointer b),(8,.pointer (some c)),(11,.pointer (some d)),(12,.func (.func 73) #[] #[.pointer (some e),.pointer (some f),.pointer (some g)]),(13,.pointer (some i)),(15,.pointer (some j)),(92,.slice k m n),(93,.int .i64 o),(94,.int .i64 p),(134,.pointer q)] r)\/ ∃(t u:Value) (v:World),(Instr.next (.pointer q) false 0).run prog w=.ok (.tuple #[.bool true,t,u]) v/\ ∃x:AV,∃y:Int,(Instr.entry (.pointer q)).run prog v=.ok (.tuple #[.agg x,.int .i64 y]) v/\let z:=v.alloc (.cells zH 23);(x.size=32/\(∀a1∈x.toList,a1.oneCell'=true)/\ ∀b1,b1<32->Wr z ((⟨v.heap.size,0,none⟩:Addr).add b1))/\let c1:=setCells z (⟨v.heap.size,0,none⟩:Addr) x.toList 0;let d1:=c1.drew;∃e1:OA,d1.cell? c=some (.pointer e1)/\Is e1 fun f1:Addr=> ∃g1:Option Nat,d1.cell? (f1.add 35)=some (.map g1)/\ ∃i1:AV,(i1.size=32/\Cells d1 (⟨v.heap.size,0,none⟩:Addr) i1)/\ ∃j1:World,(Instr.mapUpdate 89 (.map g1) (.agg i1) (.int .i64 (IntKind.i64.wrap (y+(1:Int))))).run prog d1=.ok () j1/\Q .normal [(3,.pointer (some a)),(6,.pointer b),(8,.pointer (some c)),(11,.pointer (some d)),(12,.func (.func 73) #[] #[.pointer (some e),.pointer (some f),.pointer (some g)]),(13,.pointer (some i)),(15,.pointer (some j)),(92,.slice k m n),(93,.int .i64 o),(94,.int .i64 p),(134,.pointer q)] j1
theorem ag.b3:(aT none [] prog 153 ag.k (lB (bB (sR (sL (sR (sR (sR (sR (sR (sR (sR (bB (sL (sR (sR (lB (bB (sR (sL (sR (sR (sR (sR (sR (sR (sR (sR (body f42)))))))))))))))))))))))))))) ag.u3 Q [(3,.pointer (some a)),(6,.pointer b),(8,.pointer (some c)),(11,.pointer (some d)),(12,.func (.func 73) #[] #[.pointer (some e),.pointer (some f),.pointer (some g)]),(13,.pointer (some i)),(15,.pointer (some j)),(92,.slice k m n),(93,.int .i64 o),(94,.int .i64 p),(134,.pointer q)] w)=ag.B3 a b c d e f g i j k m n o p q Q w:=by kernel_rfl
variable{a b c d e f g i j k m n o p q}
theorem ag.uU(I:Unit->World->Prop)(μ:Unit->World->Nat)(s:Unit){Q:aJ}{w:World}(h0:I s w)
 (round: ∀s w,I s w->ag.B3 a b c d e f g i j k m n o p q (bF (ag.e3 a b c d e f g i j k m n o p q) I μ s w Q) w):Holds none [] prog 153 (.loop (lB (bB (sR (sL (sR (sR (sR (sR (sR (sR (sR (bB (sL (sR (sR (lB (bB (sR (sL (sR (sR (sR (sR (sR (sR (sR (sR (body f42))))))))))))))))))))))))))))) Q (ag.e3 a b c d e f g i j k m n o p q s) w:=
 ba ng mix (ag.e3 a b c d e f g i j k m n o p q) I μ ag.k ag.u3 s (fun s Q w=>ag.B3 a b c d e f g i j k m n o p q Q w) (fun s Q w=>ag.b3 a b c d e f g i j k m n o p q Q w) h0 round
end
section
def ag.xz(a:Addr)(b:OA)(c:Addr)(d:Addr)(e:Addr)(f:Addr)(g:Addr)(i:Addr)(j:Addr)(k:OA)(m:Nat)(n:Nat)(o:Int)(p:Int)(q:OA)(Q:aJ)(w:World):Prop:=
 ∃r:OA,∃t:Nat,∃u:Nat,w.cell? d=some (.slice r t u)/\ ∃v:AV,(v.size=32/\Cells w j v)/\v.size=32/\let x:=w.alloc (.cells (v.toList++ []).toArray 23);∃(y:OA) (z a1:Nat) (b1:World),(Builtin.append_ #[35,35] 35 #[.slice r t u,.slice (some (⟨w.heap.size,0,none⟩:Addr)) 1 1]).run prog x=.ok (.slice y z a1) b1/\Wr b1 d/\let c1:=b1.setCell d (.slice y z a1);Q .normal [(3,.pointer (some a)),(6,.pointer b),(8,.pointer (some c)),(11,.pointer (some d)),(12,.func (.func 73) #[] #[.pointer (some e),.pointer (some f),.pointer (some g)]),(13,.pointer (some i)),(92,.slice k m n),(93,.int .i64 o),(94,.int .i64 (IntKind.i64.wrap (p+(1:Int))))] c1
variable(a:Addr)(b:OA)(c:Addr)(d:Addr)(e:Addr)(f:Addr)(g:Addr)(i:Addr)(j:Addr)(k:OA)(m:Nat)(n:Nat)(o:Int)(p:Int)(q:OA)(Q:aJ)(w:World)
theorem ag.Aw:(ag.q3 Q (.exit 4) [(3,.pointer (some a)),(6,.pointer b),(8,.pointer (some c)),(11,.pointer (some d)),(12,.func (.func 73) #[] #[.pointer (some e),.pointer (some f),.pointer (some g)]),(13,.pointer (some i)),(15,.pointer (some j)),(92,.slice k m n),(93,.int .i64 o),(94,.int .i64 p),(134,.pointer q)] w)=ag.xz a b c d e f g i j k m n o p q Q w:=by kernel_rfl
end
def eN.k:List Nat:= []
section
variable(a:AV)(K:KT)(w:World)
def eN.W:Prop:=
 let b:=w.alloc (.cells a 52);let d:=b.alloc (.cells zC 52);let e:=d.drew;∃f:OA,∃g:Nat,∃i:Nat,e.cell? ((⟨w.heap.size,0,none⟩:Addr).add 33)=some (.slice f g i)/\ ∃j:OA,∃k:Nat,∃m:Nat,e.cell? ((⟨w.heap.size,0,none⟩:Addr).add 34)=some (.slice j k m)/\aY prog 83 #[.slice f g i] e fun n o=> ∃p:OA,∃q:Nat,∃r:Nat,n=.slice p q r/\o.cell? ((⟨w.heap.size,0,none⟩:Addr).add 34)=some (.slice j k m)/\aY prog 84 #[.slice j k m] o fun t u=> ∃v:OA,∃x:Nat,∃y:Nat,t=.slice v x y/\Wr u ((⟨w.heap.size,0,none⟩:Addr).add 33)/\let z:=u.setCell ((⟨w.heap.size,0,none⟩:Addr).add 33) (.slice p q r);Wr z ((⟨w.heap.size,0,none⟩:Addr).add 34)/\let a1:=z.setCell ((⟨w.heap.size,0,none⟩:Addr).add 34) (.slice v x y);∃b1:AV,(b1.size=35/\Cells a1 (⟨w.heap.size,0,none⟩:Addr) b1)/\(b1.size=35/\(∀c1∈b1.toList,c1.oneCell'=true)/\ ∀d1,d1<35->Wr a1 ((⟨b.heap.size,0,none⟩:Addr).add d1))/\let e1:=setCells a1 (⟨b.heap.size,0,none⟩:Addr) b1.toList 0;∃f1:AV,(f1.size=35/\Cells e1 (⟨b.heap.size,0,none⟩:Addr) f1)/\K (.agg f1) e1
variable{a K w}
theorem eN.of(h:eN.W a K w):aY prog 44 #[.agg a] w K:=
 aH (C:=eN.k) (c:=body f44) ng mix func44 (by kernel_rfl) (by kernel_rfl) (by kernel_rfl) h
end
def bW.k:List Nat:= []
section
variable(a:OA)(b:OA)(d:Nat)(e:Nat)(K:KT)(w:World)
def bW.W:Prop:=
 let f:=w.alloc (.cells (#[.pointer a]:AV) 28);∃g:OA,f.cell? (⟨w.heap.size,0,none⟩:Addr)=some (.pointer g)/\aY prog 40 #[.pointer g] f fun i j=> ∃k:Bool,i=.bool k/\Split (!k) (K (.int .i64 1) j) (Split ((d:Int)==(0:Int)) (K (.int .i64 9) j) (aY prog 85 #[.slice b d e,.func (.func 86) #[] #[.pointer (some (⟨w.heap.size,0,none⟩:Addr))]] j fun m n=> ∃o:Bool,m=.bool o/\Split o (K (.int .i64 6) n) (K (.int .i64 0) n)))
variable{a b d e K w}
theorem bW.of(h:bW.W a b d e K w):aY prog 45 #[.pointer a,.slice b d e] w K:=
 aH (C:=bW.k) (c:=body f45) ng mix func45 (by kernel_rfl) (by kernel_rfl) (by kernel_rfl) h
end
def aS.k:List Nat:= []
section
variable(a:OA)(b:AV)(d:AV)(K:KT)(w:World)
def aS.W:Prop:=
 let e:=w.alloc (.cells b 23);let f:=e.alloc (.cells d 23);let g:=f.drew;Is a fun i:Addr=> ∃j:Option Nat,g.cell? (i.add 2)=some (.map j)/\ ∃k:AV,(k.size=32/\Cells g (⟨w.heap.size,0,none⟩:Addr) k)/\ ∃m:OA,(Instr.lookup 80 (.map j) (.agg k) false).run prog g=.ok (.pointer m) g/\Is m fun n:Addr=> ∃o:Int,g.cell? ((n.add 0).add 32)=some (.int .u64 o)/\Is a fun p:Addr=> ∃q:Option Nat,g.cell? (p.add 2)=some (.map q)/\ ∃r:AV,(r.size=32/\Cells g (⟨e.heap.size,0,none⟩:Addr) r)/\ ∃t:OA,(Instr.lookup 80 (.map q) (.agg r) false).run prog g=.ok (.pointer t) g/\Is t fun u:Addr=> ∃v:Int,g.cell? ((u.add 0).add 32)=some (.int .u64 v)/\ ∃x:AV,(x.size=32/\Cells g (⟨w.heap.size,0,none⟩:Addr) x)/\ ∃y:AV,(y.size=32/\Cells g (⟨e.heap.size,0,none⟩:Addr) y)/\aY prog 88 #[.int .u64 o,.int .u64 v] g fun z a1=> ∃b1:Int,z=.int .i64 b1/\(∃cs:AV,(.agg y:Value)=.agg cs/\cs.size=32/\Cells a1 (⟨e.heap.size,0,none⟩:Addr) cs)/\(∃cs:AV,(.agg x:Value)=.agg cs/\cs.size=32/\Cells a1 (⟨w.heap.size,0,none⟩:Addr) cs)/\aY prog 69 #[.agg x,.agg y] a1 fun c1 d1=> ∃e1:Int,c1=.int .i64 e1/\let f1:=d1.alloc (.cells #[.int .i64 b1,.int .i64 e1] 3);aY prog 87 #[.slice (some (⟨d1.heap.size,0,none⟩:Addr)) 2 2] f1 fun g1 i1=> ∃j1:Int,g1=.int .i64 j1/\K (.int .i64 j1) i1
variable{a b d K w}
theorem aS.of(h:aS.W a b d K w):aY prog 47 #[.pointer a,.agg b,.agg d] w K:=
 aH (C:=aS.k) (c:=body Tryz.f47) ng mix func47 (by kernel_rfl) (by kernel_rfl) (by kernel_rfl) h
end
def b0.k:List Nat:= []
section
variable(a:OA)(b:AV)(d:AV)(K:KT)(w:World)
def b0.W:Prop:=
 let e:=w.alloc (.cells b 23);let f:=e.alloc (.cells d 23);let g:=f.drew;∃i:AV,(i.size=32/\Cells g (⟨w.heap.size,0,none⟩:Addr) i)/\ ∃j:AV,(j.size=32/\Cells g (⟨e.heap.size,0,none⟩:Addr) j)/\(eh .u8 32 i/\eh .u8 32 j)/\Split (!(eK i j)) (Is a fun k:Addr=> ∃m:OA,g.cell? (k.add 1)=some (.pointer m)/\ ∃n:AV,(n.size=32/\Cells g (⟨w.heap.size,0,none⟩:Addr) n)/\ ∃o:AV,(o.size=32/\Cells g (⟨e.heap.size,0,none⟩:Addr) o)/\aY prog 71 #[.pointer m,.agg n,.agg o] g fun p q=> ∃r:Bool,p=.bool r/\Split (!r) (Is a fun t:Addr=> ∃u:OA,q.cell? (t.add 1)=some (.pointer u)/\ ∃v:AV,(v.size=32/\Cells q (⟨e.heap.size,0,none⟩:Addr) v)/\ ∃x:AV,(x.size=32/\Cells q (⟨w.heap.size,0,none⟩:Addr) x)/\aY prog 71 #[.pointer u,.agg v,.agg x] q fun y z=> ∃a1:Bool,y=.bool a1/\K (.bool (!a1)) z) (K (.bool false) q)) (K (.bool false) g)
variable{a b d K w}
theorem b0.of(h:b0.W a b d K w):aY prog 74 #[.pointer a,.agg b,.agg d] w K:=
 aH (C:=b0.k) (c:=body f74) ng mix func74 (by kernel_rfl) (by kernel_rfl) (by kernel_rfl) h
end
def bk.k:List Nat:= []
section
variable(a:AV)(b:Addr)(d:Addr)(e:Addr)(K:KT)(w:World)
def bk.W:Prop:=
 let f:=w.alloc (.cells a 23);let g:=f.drew;∃i:OA,g.cell? b=some (.pointer i)/\Is i fun j:Addr=> ∃k:Option Nat,g.cell? (j.add 35)=some (.map k)/\ ∃m:AV,(m.size=32/\Cells g (⟨w.heap.size,0,none⟩:Addr) m)/\ ∃n:Int,∃o:Bool,(Instr.lookup 89 (.map k) (.agg m) true).run prog g=.ok (.tuple #[.int .i64 n,.bool o]) g/\Split o (K (.int .i64 n) g) (∃p:OA,g.cell? d=some (.pointer p)/\ ∃q:AV,(q.size=32/\Cells g e q)/\ ∃r:AV,(r.size=32/\Cells g (⟨w.heap.size,0,none⟩:Addr) r)/\aY prog 76 #[.pointer p,.agg q,.agg r] g fun t u=> ∃v:Int,t=.int .i64 v/\K (.int .i64 v) u)
variable{a b d e K w}
theorem bk.of(h:bk.W a b d e K w):aY prog 75 #[.agg a,.pointer (some b),.pointer (some d),.pointer (some e)] w K:=
 aH (C:=bk.k) (c:=body f75) ng mix func75 (by kernel_rfl) (by kernel_rfl) (by kernel_rfl) h
end
def bD.k:List Nat:= []
section
variable(a:AV)(b:Addr)(d:Addr)(e:Addr)(K:KT)(w:World)
def bD.W:Prop:=
 let f:=w.alloc (.cells a 23);let g:=f.drew;∃i:Option Nat,g.cell? d=some (.map i)/\ ∃j:AV,(j.size=32/\Cells g (⟨w.heap.size,0,none⟩:Addr) j)/\ ∃k:Value,g.cell? b=some (k)/\ ∃m:AV,(m.size=32/\Cells g (⟨w.heap.size,0,none⟩:Addr) m)/\ ∃(n:Nat) (o p:AV) (q:Func),(k:Value)=.func (.func n) o p/\prog.funcs[n]? =some q/\q.body.isSome=true/\aY prog n (o.toList++([.agg m]:List Value)++p.toList).toArray g fun r t=> ∃u:Int,r=.int .i64 u/\(∃cs:AV,(.agg j:Value)=.agg cs/\cs.size=32/\Cells t (⟨w.heap.size,0,none⟩:Addr) cs)/\t.cell? d=some (.map i)/\ ∃v:World,(Instr.mapUpdate 89 (.map i) (.agg j) (.int .i64 u)).run prog t=.ok () v/\let x:=v.drew;∃y:Option Nat,x.cell? d=some (.map y)/\ ∃z:Nat,(Builtin.len_ #[89] 3 #[.map y]).run prog x=.ok (.int .i64 (z:Int)) x/\ ∃a1:OA,x.cell? e=some (.pointer a1)/\Is a1 fun b1:Addr=> ∃c1:Int,x.cell? (b1.add 0)=some (.int .i64 c1)/\Split (decide ((z:Int)<=c1)) (∃d1:Option Nat,x.cell? d=some (.map d1)/\ ∃e1:AV,(e1.size=32/\Cells x (⟨w.heap.size,0,none⟩:Addr) e1)/\ ∃f1:Int,(Instr.lookup 89 (.map d1) (.agg e1) false).run prog x=.ok (.int .i64 f1) x/\ ∃g1:OA,x.cell? e=some (.pointer g1)/\Is g1 fun i1:Addr=> ∃j1:Int,x.cell? (i1.add 0)=some (.int .i64 j1)/\K (.bool (decide (f1<j1))) x) (K (.bool false) x)
variable{a b d e K w}
theorem bD.of(h:bD.W a b d e K w):aY prog 77 #[.agg a,.pointer (some b),.pointer (some d),.pointer (some e)] w K:=
 aH (C:=bD.k) (c:=body f77) ng mix func77 (by kernel_rfl) (by kernel_rfl) (by kernel_rfl) h
end
def cB.k:List Nat:= []
section
variable(a:OA)(b:Nat)(d:Nat)(K:KT)(w:World)
def cB.W:Prop:=
 Split ((a).isNone) (K (.slice none 0 0) w) (let e:=w.alloc (.cells #[] 4);∃(f:OA) (g i:Nat) (j:World),(Builtin.append_ #[50,50] 50 #[.slice (some (⟨w.heap.size,0,none⟩:Addr)) 0 0,.slice a b d]).run prog e=.ok (.slice f g i) j/\K (.slice f g i) j)
variable{a b d K w}
theorem cB.of(h:cB.W a b d K w):aY prog 84 #[.slice a b d] w K:=
 aH (C:=cB.k) (c:=body f84) ng mix func84 (by kernel_rfl) (by kernel_rfl) (by kernel_rfl) h
end
def cO.k:List Nat:= []
section
variable(a:AV)(b:Addr)(K:KT)(w:World)
def cO.W:Prop:=
 let d:=w.alloc (.cells a 23);let e:=d.drew;∃f:OA,e.cell? b=some (.pointer f)/\Is f fun g:Addr=> ∃i:Option Nat,e.cell? (g.add 2)=some (.map i)/\ ∃j:AV,(j.size=32/\Cells e (⟨w.heap.size,0,none⟩:Addr) j)/\ ∃k:OA,(Instr.lookup 80 (.map i) (.agg j) false).run prog e=.ok (.pointer k) e/\K (.bool ((k).isNone)) e
variable{a b K w}
theorem cO.of(h:cO.W a b K w):aY prog 86 #[.agg a,.pointer (some b)] w K:=
 aH (C:=cO.k) (c:=body f86) ng mix func86 (by kernel_rfl) (by kernel_rfl) (by kernel_rfl) h
end
def a8.k:List Nat:= []
def a8.q1(K:KT):aJ:=(aK 0 (bY (sR (sR (sR (body f87))))++(aO f87)) (bN (fun bS w_=>match cutAt a8.k (sR (sR (sR (body f87))))with|true=>Holds none [] prog 18 (sR (sR (sR (body f87)))) (bG prog f87 K) bS w_|false=>aT none [] prog 18 a8.k (sR (sR (sR (body f87)))) (aO f87) (bG prog f87 K) bS w_) (bG prog f87 K)))
def a8.e1(a:Int)(b:OA)(c:Nat)(d:Nat)(e:Int)(s:Int×Int):Env:= [(2,.int .i64 s.1),(3,.int .i64 a),(6,.slice b c d),(7,.int .i64 e),(8,.int .i64 s.2)]
def a8.u1:List Nat:= [2,3,6,7,8]
section
variable(a:OA)(b:Nat)(d:Nat)(K:KT)(w:World)
def a8.W:Prop:=
 Holds none [] prog 18 (.loop (lB (bB (sR (sL (sR (sR (body f87)))))))) (a8.q1 K) [(2,.int .i64 0),(3,.int .i64 0),(6,.slice a b d),(7,.int .i64 (b:Int)),(8,.int .i64 0)] w
variable{a b d K w}
theorem a8.of(h:a8.W a b d K w):aY prog 87 #[.slice a b d] w K:=
 aH (C:=a8.k) (c:=body f87) ng mix func87 (by kernel_rfl) (by kernel_rfl) (by kernel_rfl) h
end
section
variable(a:Int)(b:Int)(c:OA)(d:Nat)(e:Nat)(f:Int)(g:Int)(Q:aJ)(w:World)
def a8.B1:Prop:=
 Split (decide (g<f)) ((0<=g/\g<(d:Int))/\Is c fun i:Addr=> ∃j:Int,w.cell? (i.add (g.toNat*1))=some (.int .i64 j)/\Split (j != b) (Q .ret [(2,.int .i64 j),(3,.int .i64 b),(6,.slice c d e),(7,.int .i64 f),(8,.int .i64 g)] w) (Q .normal [(2,.int .i64 a),(3,.int .i64 b),(6,.slice c d e),(7,.int .i64 f),(8,.int .i64 (IntKind.i64.wrap (g+(1:Int))))] w)) (Q (.exit 0) [(2,.int .i64 a),(3,.int .i64 b),(6,.slice c d e),(7,.int .i64 f),(8,.int .i64 g)] w)
theorem a8.b1:(aT none [] prog 18 a8.k (lB (bB (sR (sL (sR (sR (body f87))))))) a8.u1 Q [(2,.int .i64 a),(3,.int .i64 b),(6,.slice c d e),(7,.int .i64 f),(8,.int .i64 g)] w)=a8.B1 a b c d e f g Q w:=by kernel_rfl
variable{b c d e f}
theorem a8.bU(I:Int×Int->World->Prop)(μ:Int×Int->World->Nat)(s:Int×Int){Q:aJ}{w:World}(h0:I s w)
 (round: ∀s w,I s w->a8.B1 (s.1) b c d e f (s.2) (bF (a8.e1 b c d e f) I μ s w Q) w):Holds none [] prog 18 (.loop (lB (bB (sR (sL (sR (sR (body f87)))))))) Q (a8.e1 b c d e f s) w:=
 ba ng mix (a8.e1 b c d e f) I μ a8.k a8.u1 s (fun s Q w=>a8.B1 (s.1) b c d e f (s.2) Q w) (fun s Q w=>a8.b1 (s.1) b c d e f (s.2) Q w) h0 round
end
section
def a8.cW(a:Int)(b:Int)(c:OA)(d:Nat)(e:Nat)(f:Int)(g:Int)(K:KT)(w:World):Prop:=
 K (.int .i64 b) w
variable(a:Int)(b:Int)(c:OA)(d:Nat)(e:Nat)(f:Int)(g:Int)(K:KT)(w:World)
theorem a8.dD:(a8.q1 K (.exit 0) [(2,.int .i64 a),(3,.int .i64 b),(6,.slice c d e),(7,.int .i64 f),(8,.int .i64 g)] w)=a8.cW a b c d e f g K w:=by kernel_rfl
end
def cu.k:List Nat:= []
section
variable(a:Int)(b:Int)(K:KT)(w:World)
def cu.W:Prop:=
 aY prog 114 #[.int .u64 a] w fun d e=> ∃f:Bool,d=.bool f/\aY prog 114 #[.int .u64 b] e fun g i=> ∃j:Bool,g=.bool j/\Split f (Split j (K (.int .i64 0) i) (K (.int .i64 (-1)) i)) (Split j (K (.int .i64 1) i) (Split (decide (a<b)) (K (.int .i64 (-1)) i) (Split (decide (a>b)) (K (.int .i64 1) i) (K (.int .i64 0) i))))
variable{a b K w}
theorem cu.of(h:cu.W a b K w):aY prog 88 #[.int .u64 a,.int .u64 b] w K:=
 aH (C:=cu.k) (c:=body f88) ng mix func88 (by kernel_rfl) (by kernel_rfl) (by kernel_rfl) h
end
def dh.k:List Nat:= []
section
variable(a:Int)(K:KT)(w:World)
def dh.W:Prop:=
 K (.bool (a != a)) w
variable{a K w}
theorem dh.of(h:dh.W a K w):aY prog 114 #[.int .u64 a] w K:=
 aH (C:=dh.k) (c:=body f114) ng mix func114 (by kernel_rfl) (by kernel_rfl) (by kernel_rfl) h
end
def bK.k:List Nat:= []
def bK.wm(K:KT):aJ:=(aK 1 (bY (sR (sR (sR (sR (body Tryz.f24)))))++(aO Tryz.f24)) (bN (fun bS w_=>match cutAt bK.k (sR (sR (sR (sR (body Tryz.f24)))))with|true=>Holds none [] prog 66 (sR (sR (sR (sR (body Tryz.f24))))) (bG prog Tryz.f24 K) bS w_|false=>aT none [] prog 66 bK.k (sR (sR (sR (sR (body Tryz.f24))))) (aO Tryz.f24) (bG prog Tryz.f24 K) bS w_) (bG prog Tryz.f24 K)))
section
variable(a:OA)(b:AV)(K:KT)(w:World)
def bK.W:Prop:=
 let d:=w.alloc (.cells (#[.pointer a]:AV) 28);let e:=d.alloc (.cells b 23);∃f:OA,e.cell? (⟨w.heap.size,0,none⟩:Addr)=some (.pointer f)/\aY prog 40 #[.pointer f] e fun g i=> ∃j:Bool,g=.bool j/\Split (!j) (K (.tuple #[.slice none 0 0,.int .i64 1]) i) (let k:=i.drew;∃m:OA,k.cell? (⟨w.heap.size,0,none⟩:Addr)=some (.pointer m)/\Is m fun n:Addr=> ∃o:Option Nat,k.cell? (n.add 2)=some (.map o)/\ ∃p:AV,(p.size=32/\Cells k (⟨d.heap.size,0,none⟩:Addr) p)/\ ∃q:OA,(Instr.lookup 80 (.map o) (.agg p) false).run prog k=.ok (.pointer q) k/\Split ((q).isNone) (K (.tuple #[.slice none 0 0,.int .i64 6]) k) (let r:=k.alloc (.cells (#[.slice none 0 0]:AV) 35);let t:=r.drew;∃u:OA,t.cell? (⟨w.heap.size,0,none⟩:Addr)=some (.pointer u)/\Is u fun v:Addr=> ∃x:OA,t.cell? (v.add 1)=some (.pointer x)/\ ∃y:AV,(y.size=32/\Cells t (⟨d.heap.size,0,none⟩:Addr) y)/\aY prog 53 #[.pointer x,.agg y] t fun z a1=> ∃b1:Value,z=b1/\Holds none [] prog 66 (bB (sR (sL (sR (sR (sR (body Tryz.f24))))))) (bK.wm K) [(2,.pointer (some (⟨w.heap.size,0,none⟩:Addr))),(3,.pointer (some (⟨d.heap.size,0,none⟩:Addr))),(4,.slice none 0 0),(5,.int .i64 0),(6,.pointer (some (⟨k.heap.size,0,none⟩:Addr))),(28,b1)] a1))
variable{a b K w}
theorem bK.of(h:bK.W a b K w):aY prog 24 #[.pointer a,.agg b] w K:=
 aH (C:=bK.k) (c:=body Tryz.f24) ng mix func24 (by kernel_rfl) (by kernel_rfl) (by kernel_rfl) h
end
section
variable(l:Nat)(a:Addr)(b:Addr)(c:OA)(d:Nat)(e:Nat)(f:Int)(g:Addr)(i:Value)(j:AV)(Q:aJ)(w:World)
end
section
variable(l:Nat)(a:Addr)(b:Addr)(c:Addr)(d:Addr)(Q:aJ)(w:World)
end
section
variable(a:Addr)(b:Addr)(c:OA)(d:Nat)(e:Nat)(f:Int)(g:Addr)(i:Value)(ms:AV)(K:KT)(w:World)
end
section
variable(l:Nat)(a:Addr)(b:Addr)(c:OA)(d:Nat)(e:Nat)(f:Int)(g:Int)(Q:aJ)(w:World)
variable{l a b c d e f}
end
section
variable(l:Nat)(a:Addr)(b:Addr)(c:OA)(d:Nat)(e:Nat)(f:Int)(g:Int)(Q:aJ)(w:World)
end
def aL.k:List Nat:= []
def aL.wm(K:KT):aJ:=(aK 0 (bY (sR (sR (body f76)))++(aO f76)) (bN (fun bS w_=>match cutAt aL.k (sR (sR (body f76)))with|true=>Holds none [] prog 33 (sR (sR (body f76))) (bG prog f76 K) bS w_|false=>aT none [] prog 33 aL.k (sR (sR (body f76))) (aO f76) (bG prog f76 K) bS w_) (bG prog f76 K)))
section
variable(a:OA)(b:AV)(d:AV)(K:KT)(w:World)
def aL.W:Prop:=
 let e:=w.alloc (.cells (#[.pointer a]:AV) 28);let f:=e.alloc (.cells b 23);let g:=f.alloc (.cells d 23);let i:=g.alloc (.cells (#[.int .i64 0]:AV) 3);let j:=i.drew;∃k:OA,j.cell? (⟨w.heap.size,0,none⟩:Addr)=some (.pointer k)/\Is k fun m:Addr=> ∃n:OA,j.cell? (m.add 1)=some (.pointer n)/\ ∃o:AV,(o.size=32/\Cells j (⟨e.heap.size,0,none⟩:Addr) o)/\aY prog 53 #[.pointer n,.agg o] j fun p q=> ∃r:Value,p=r/\Holds none [] prog 33 (bB (sR (sL (sR (body f76))))) (aL.wm K) [(3,.pointer (some (⟨w.heap.size,0,none⟩:Addr))),(5,.pointer (some (⟨f.heap.size,0,none⟩:Addr))),(6,.pointer (some (⟨g.heap.size,0,none⟩:Addr))),(15,r)] q
variable{a b d K w}
theorem aL.of(h:aL.W a b d K w):aY prog 76 #[.pointer a,.agg b,.agg d] w K:=
 aH (C:=aL.k) (c:=body f76) ng mix func76 (by kernel_rfl) (by kernel_rfl) (by kernel_rfl) h
end
section
def aL.A1(l:Nat)(a:Addr)(b:Addr)(c:Addr)(d:Value)(e:AV)(Q:aJ)(w:World):Prop:=
 let f:=w.alloc (.cells zH 23);(e.size=32/\(∀g∈e.toList,g.oneCell'=true)/\ ∀i,i<32->Wr f ((⟨w.heap.size,0,none⟩:Addr).add i))/\let j:=setCells f (⟨w.heap.size,0,none⟩:Addr) e.toList 0;Q .normal [(3,.pointer (some a)),(5,.pointer (some b)),(6,.pointer (some c)),(7,.pointer (some (⟨w.heap.size,0,none⟩:Addr)))] j
variable(l:Nat)(a:Addr)(b:Addr)(c:Addr)(d:Value)(e:AV)(Q:aJ)(w:World)
theorem aL.a1:(aT (some l) [] prog 33 aL.k (rA (bB (sR (sL (sR (body f76)))))) (bY (rB (bB (sR (sL (sR (body f76))))))) Q [(3,.pointer (some a)),(5,.pointer (some b)),(6,.pointer (some c)),(15,d),(16,.agg e)] w)=aL.A1 l a b c d e Q w:=by kernel_rfl
end
section
def aL.Y1(l:Nat)(a:Addr)(b:Addr)(c:Addr)(d:Addr)(Q:aJ)(w:World):Prop:=
 let e:=w.drew;∃f:OA,e.cell? a=some (.pointer f)/\Is f fun g:Addr=> ∃i:Option Nat,e.cell? (g.add 2)=some (.map i)/\ ∃j:AV,(j.size=32/\Cells e d j)/\ ∃k:OA,(Instr.lookup 80 (.map i) (.agg j) false).run prog e=.ok (.pointer k) e/\Is k fun m:Addr=> ∃n:Option Nat,e.cell? (m.add 35)=some (.map n)/\ ∃o:AV,(o.size=32/\Cells e b o)/\ ∃p:Int,∃q:Bool,(Instr.lookup 89 (.map n) (.agg o) true).run prog e=.ok (.tuple #[.int .i64 p,.bool q]) e/\Split q (Wr e c/\let r:=e.setCell c (.int .i64 p);Q .ret [] r) (Q .normal [] e)
variable(l:Nat)(a:Addr)(b:Addr)(c:Addr)(d:Addr)(Q:aJ)(w:World)
theorem aL.y1:(aT (some l) [] prog 33 aL.k (rB (bB (sR (sL (sR (body f76)))))) [] Q [(3,.pointer (some a)),(5,.pointer (some b)),(6,.pointer (some c)),(7,.pointer (some d))] w)=aL.Y1 l a b c d Q w:=by kernel_rfl
end
section
def aL.gm(a:Addr)(b:Addr)(c:Addr)(d:Value)(ms:AV)(K:KT)(w:World):Prop:=
 Wr w c/\let e:=w.setCell c (.int .i64 0);iH (marksOf (.agg ms)) e/\ ∃f:Int,(dS (marksOf (.agg ms)) e).cell? c=some (.int .i64 f)/\K (.int .i64 f) (dS (marksOf (.agg ms)) e)
variable(a:Addr)(b:Addr)(c:Addr)(d:Value)(ms:AV)(K:KT)(w:World)
theorem aL.im:(aL.wm K .normal [(3,.pointer (some a)),(5,.pointer (some b)),(6,.pointer (some c)),(15,d),(4294967296,.agg ms)] w)=aL.gm a b c d ms K w:=by kernel_rfl
end
section
def aL.rz(a:Addr)(b:Addr)(c:Addr)(d:Value)(ms:AV)(K:KT)(w:World):Prop:=
 iH (marksOf (.agg ms)) w/\ ∃e:Int,(dS (marksOf (.agg ms)) w).cell? c=some (.int .i64 e)/\K (.int .i64 e) (dS (marksOf (.agg ms)) w)
variable(a:Addr)(b:Addr)(c:Addr)(d:Value)(ms:AV)(K:KT)(w:World)
theorem aL.vX:(aL.wm K .ret [(3,.pointer (some a)),(5,.pointer (some b)),(6,.pointer (some c)),(15,d),(4294967296,.agg ms)] w)=aL.rz a b c d ms K w:=by kernel_rfl
end
def ae.k:List Nat:= []
def ae.q1(K:KT):aJ:=(aK 0 (bY (sR (sR (body f73)))++(aO f73)) (bN (fun bS w_=>match cutAt ae.k (sR (sR (body f73)))with|true=>Holds none [] prog 90 (sR (sR (body f73))) (bG prog f73 K) bS w_|false=>aT none [] prog 90 ae.k (sR (sR (body f73))) (aO f73) (bG prog f73 K) bS w_) (bG prog f73 K)))
def ae.e1(a:Addr)(b:Addr)(c:Addr)(d:Addr)(e:Addr)(f:OA)(g:Nat)(i:Nat)(j:Int)(s:Int):Env:= [(3,.pointer (some a)),(4,.pointer (some b)),(5,.pointer (some c)),(6,.pointer (some d)),(7,.pointer (some e)),(14,.slice f g i),(15,.int .i64 j),(16,.int .i64 s)]
def ae.u1:List Nat:= [3,4,5,6,7,14,15,16]
def ae.wm(K:KT):aJ:=(aK 2 (bY (sR (sR (sR (body f73))))++(aO f73)) (bN (fun bS w_=>match cutAt ae.k (sR (sR (sR (body f73))))with|true=>Holds none [] prog 90 (sR (sR (sR (body f73)))) (bG prog f73 K) bS w_|false=>aT none [] prog 90 ae.k (sR (sR (sR (body f73)))) (aO f73) (bG prog f73 K) bS w_) (bG prog f73 K)))
def ae.q2(l:Nat)(Q:aJ):aJ:=(aK 4 [] (aK 3 [] Q))
def ae.e2(a:Addr)(b:Addr)(c:Addr)(d:Addr)(e:Addr)(f:OA)(g:Nat)(i:Nat)(j:Int)(s:Int):Env:= [(3,.pointer (some a)),(5,.pointer (some b)),(6,.pointer (some c)),(7,.pointer (some d)),(11,.pointer (some e)),(65,.slice f g i),(66,.int .i64 j),(67,.int .i64 s)]
def ae.u2:List Nat:= [3,5,6,7,11,65,66,67]
section
variable(a:AV)(b:Value)(d:Addr)(e:Addr)(f:Addr)(K:KT)(w:World)
def ae.W:Prop:=
 let g:=w.alloc (.cells a 23);let i:=g.alloc (.cells b.cells 125);let j:=i.alloc (.cells (#[.bool false]:AV) 4);∃k:OA,∃m:Nat,∃n:Nat,j.cell? d=some (.slice k m n)/\Holds none [] prog 90 (.loop (lB (bB (sR (sL (sR (body f73))))))) (ae.q1 K) [(3,.pointer (some e)),(4,.pointer (some f)),(5,.pointer (some (⟨w.heap.size,0,none⟩:Addr))),(6,.pointer (some (⟨g.heap.size,0,none⟩:Addr))),(7,.pointer (some (⟨i.heap.size,0,none⟩:Addr))),(14,.slice k m n),(15,.int .i64 (m:Int)),(16,.int .i64 0)] j
variable{a b d e f K w}
theorem ae.of(h:ae.W a b d e f K w):aY prog 73 #[.agg a,b,.pointer (some d),.pointer (some e),.pointer (some f)] w K:=
 aH (C:=ae.k) (c:=body f73) ng mix func73 (by kernel_rfl) (by kernel_rfl) (by kernel_rfl) h
end
section
variable(a:Addr)(b:Addr)(c:Addr)(d:Addr)(e:Addr)(f:OA)(g:Nat)(i:Nat)(j:Int)(k:Int)(Q:aJ)(w:World)
def ae.B1:Prop:=
 Split (decide (k<j)) ((0<=k/\k<(g:Int))/\Is f fun m:Addr=> ∃n:AV,(n.size=32/\Cells w (m.add (k.toNat*32)) n)/\let o:=w.alloc (.cells zH 23);(n.size=32/\(∀p∈n.toList,p.oneCell'=true)/\ ∀q,q<32->Wr o ((⟨w.heap.size,0,none⟩:Addr).add q))/\let r:=setCells o (⟨w.heap.size,0,none⟩:Addr) n.toList 0;∃t:OA,r.cell? a=some (.pointer t)/\ ∃u:AV,(u.size=32/\Cells r (⟨w.heap.size,0,none⟩:Addr) u)/\ ∃v:AV,(v.size=32/\Cells r c v)/\aY prog 74 #[.pointer t,.agg u,.agg v] r fun x y=> ∃z:Bool,x=.bool z/\Split z (∃a1:Value,y.cell? d=some (a1)/\ ∃b1:AV,(b1.size=32/\Cells y (⟨w.heap.size,0,none⟩:Addr) b1)/\ ∃(c1:Nat) (d1 e1:AV) (f1:Func),(a1:Value)=.func (.func c1) d1 e1/\prog.funcs[c1]? =some f1/\f1.body.isSome=true/\aY prog c1 (d1.toList++([.agg b1]:List Value)++e1.toList).toArray y fun g1 i1=> ∃j1:Bool,g1=.bool j1/\Split (!j1) (Wr i1 e/\let k1:=i1.setCell e (.bool false);Q .ret [(3,.pointer (some a)),(4,.pointer (some b)),(5,.pointer (some c)),(6,.pointer (some d)),(7,.pointer (some e)),(14,.slice f g i),(15,.int .i64 j),(16,.int .i64 k)] k1) (Q .normal [(3,.pointer (some a)),(4,.pointer (some b)),(5,.pointer (some c)),(6,.pointer (some d)),(7,.pointer (some e)),(14,.slice f g i),(15,.int .i64 j),(16,.int .i64 (IntKind.i64.wrap (k+(1:Int))))] i1)) (Q .normal [(3,.pointer (some a)),(4,.pointer (some b)),(5,.pointer (some c)),(6,.pointer (some d)),(7,.pointer (some e)),(14,.slice f g i),(15,.int .i64 j),(16,.int .i64 (IntKind.i64.wrap (k+(1:Int))))] y)) (Q (.exit 0) [(3,.pointer (some a)),(4,.pointer (some b)),(5,.pointer (some c)),(6,.pointer (some d)),(7,.pointer (some e)),(14,.slice f g i),(15,.int .i64 j),(16,.int .i64 k)] w)
theorem ae.b1:(aT none [] prog 90 ae.k (lB (bB (sR (sL (sR (body f73)))))) ae.u1 Q [(3,.pointer (some a)),(4,.pointer (some b)),(5,.pointer (some c)),(6,.pointer (some d)),(7,.pointer (some e)),(14,.slice f g i),(15,.int .i64 j),(16,.int .i64 k)] w)=ae.B1 a b c d e f g i j k Q w:=by kernel_rfl
variable{a b c d e f g i j}
theorem ae.bU(I:Int->World->Prop)(μ:Int->World->Nat)(s:Int){Q:aJ}{w:World}(h0:I s w)
 (round: ∀s w,I s w->ae.B1 a b c d e f g i j s (bF (ae.e1 a b c d e f g i j) I μ s w Q) w):Holds none [] prog 90 (.loop (lB (bB (sR (sL (sR (body f73))))))) Q (ae.e1 a b c d e f g i j s) w:=
 ba ng mix (ae.e1 a b c d e f g i j) I μ ae.k ae.u1 s (fun s Q w=>ae.B1 a b c d e f g i j s Q w) (fun s Q w=>ae.b1 a b c d e f g i j s Q w) h0 round
end
section
def ae.cW(a:Addr)(b:Addr)(c:Addr)(d:Addr)(e:Addr)(f:OA)(g:Nat)(i:Nat)(j:Int)(k:Int)(K:KT)(w:World):Prop:=
 let m:=w.drew;∃n:OA,m.cell? a=some (.pointer n)/\Is n fun o:Addr=> ∃p:OA,m.cell? (o.add 1)=some (.pointer p)/\ ∃q:AV,(q.size=32/\Cells m b q)/\aY prog 53 #[.pointer p,.agg q] m fun r t=> ∃u:Value,r=u/\Holds none [] prog 90 (bB (sR (sL (sR (sR (body f73)))))) (ae.wm K) [(3,.pointer (some a)),(5,.pointer (some c)),(6,.pointer (some d)),(7,.pointer (some e)),(36,u)] t
variable(a:Addr)(b:Addr)(c:Addr)(d:Addr)(e:Addr)(f:OA)(g:Nat)(i:Nat)(j:Int)(k:Int)(K:KT)(w:World)
theorem ae.dD:(ae.q1 K (.exit 0) [(3,.pointer (some a)),(4,.pointer (some b)),(5,.pointer (some c)),(6,.pointer (some d)),(7,.pointer (some e)),(14,.slice f g i),(15,.int .i64 j),(16,.int .i64 k)] w)=ae.cW a b c d e f g i j k K w:=by kernel_rfl
end
section
def ae.Jf(a:Addr)(b:Addr)(c:Addr)(d:Addr)(e:Addr)(f:OA)(g:Nat)(i:Nat)(j:Int)(k:Int)(K:KT)(w:World):Prop:=
 ∃m:Bool,w.cell? e=some (.bool m)/\K (.bool m) w
variable(a:Addr)(b:Addr)(c:Addr)(d:Addr)(e:Addr)(f:OA)(g:Nat)(i:Nat)(j:Int)(k:Int)(K:KT)(w:World)
theorem ae.GD:(ae.q1 K .ret [(3,.pointer (some a)),(4,.pointer (some b)),(5,.pointer (some c)),(6,.pointer (some d)),(7,.pointer (some e)),(14,.slice f g i),(15,.int .i64 j),(16,.int .i64 k)] w)=ae.Jf a b c d e f g i j k K w:=by kernel_rfl
end
section
def ae.A1(l:Nat)(a:Addr)(b:Addr)(c:Addr)(d:Addr)(e:Value)(f:AV)(Q:aJ)(w:World):Prop:=
 let g:=w.alloc (.cells zH 23);(f.size=32/\(∀i∈f.toList,i.oneCell'=true)/\ ∀j,j<32->Wr g ((⟨w.heap.size,0,none⟩:Addr).add j))/\let k:=setCells g (⟨w.heap.size,0,none⟩:Addr) f.toList 0;Q .normal [(3,.pointer (some a)),(5,.pointer (some b)),(6,.pointer (some c)),(7,.pointer (some d)),(10,.pointer (some (⟨w.heap.size,0,none⟩:Addr)))] k
variable(l:Nat)(a:Addr)(b:Addr)(c:Addr)(d:Addr)(e:Value)(f:AV)(Q:aJ)(w:World)
theorem ae.a1:(aT (some l) [] prog 90 ae.k (rA (bB (sR (sL (sR (sR (body f73))))))) (bY (rB (bB (sR (sL (sR (sR (body f73)))))))) Q [(3,.pointer (some a)),(5,.pointer (some b)),(6,.pointer (some c)),(7,.pointer (some d)),(36,e),(37,.agg f)] w)=ae.A1 l a b c d e f Q w:=by kernel_rfl
end
section
variable(l:Nat)(a:Addr)(b:Addr)(c:Addr)(d:Addr)(e:Addr)(Q:aJ)(w:World)
def ae.Y1:Prop:=
 ∃f:OA,w.cell? a=some (.pointer f)/\ ∃g:AV,(g.size=32/\Cells w e g)/\ ∃i:AV,(i.size=32/\Cells w b i)/\aY prog 74 #[.pointer f,.agg g,.agg i] w fun j k=> ∃m:Bool,j=.bool m/\Split m (∃n:Value,k.cell? c=some (n)/\ ∃o:AV,(o.size=32/\Cells k e o)/\ ∃(p:Nat) (q r:AV) (t:Func),(n:Value)=.func (.func p) q r/\prog.funcs[p]? =some t/\t.body.isSome=true/\aY prog p (q.toList++([.agg o]:List Value)++r.toList).toArray k fun u v=> ∃x:Bool,u=.bool x/\Split (!x) (Wr v d/\let y:=v.setCell d (.bool false);Q .ret [(3,.pointer (some a)),(5,.pointer (some b)),(6,.pointer (some c)),(7,.pointer (some d)),(10,.pointer (some e))] y) (let z:=v.drew;∃a1:OA,z.cell? a=some (.pointer a1)/\Is a1 fun b1:Addr=> ∃c1:OA,z.cell? (b1.add 1)=some (.pointer c1)/\ ∃d1:AV,(d1.size=32/\Cells z e d1)/\ ∃e1:AV,(e1.size=32/\Cells z b e1)/\aY prog 71 #[.pointer c1,.agg d1,.agg e1] z fun f1 g1=> ∃i1:Bool,f1=.bool i1/\Split i1 (Wr g1 d/\let j1:=g1.setCell d (.bool true);Q .ret [(3,.pointer (some a)),(5,.pointer (some b)),(6,.pointer (some c)),(7,.pointer (some d)),(10,.pointer (some e))] j1) (let k1:=g1.drew;∃m1:OA,k1.cell? a=some (.pointer m1)/\Is m1 fun n1:Addr=> ∃o1:Option Nat,k1.cell? (n1.add 2)=some (.map o1)/\ ∃p1:AV,(p1.size=32/\Cells k1 e p1)/\ ∃q1:OA,(Instr.lookup 80 (.map o1) (.agg p1) false).run prog k1=.ok (.pointer q1) k1/\Is q1 fun r1:Addr=> ∃t1:AV,(t1.size=35/\Cells k1 (r1.add 0) t1)/\let u1:=k1.alloc (.cells zC 52);(∃cs:AV,(.agg t1:Value)=.agg cs/\cs.size=35/\Cells u1 (r1.add 0) cs)/\(Instr.lookup 80 (.map o1) (.agg p1) false).run prog u1=.ok (.pointer q1) u1/\(∃cs:AV,(.agg p1:Value)=.agg cs/\cs.size=32/\Cells u1 e cs)/\u1.cell? (n1.add 2)=some (.map o1)/\u1.cell? a=some (.pointer m1)/\(t1.size=35/\(∀v1∈t1.toList,v1.oneCell'=true)/\ ∀x1,x1<35->Wr u1 ((⟨k1.heap.size,0,none⟩:Addr).add x1))/\let y1:=setCells u1 (⟨k1.heap.size,0,none⟩:Addr) t1.toList 0;∃z1:OA,∃a2:Nat,∃b2:Nat,y1.cell? ((⟨k1.heap.size,0,none⟩:Addr).add 33)=some (.slice z1 a2 b2)/\Holds (some l) [] prog 90 (.loop (lB (bB (sR (sR (sR (sR (bB (rB (bB (sR (sL (sR (sR (body f73))))))))))))))) (ae.q2 l Q) [(3,.pointer (some a)),(5,.pointer (some b)),(6,.pointer (some c)),(7,.pointer (some d)),(11,.pointer (some (⟨k1.heap.size,0,none⟩:Addr))),(65,.slice z1 a2 b2),(66,.int .i64 (a2:Int)),(67,.int .i64 0)] y1))) (let c2:=k.drew;∃d2:OA,c2.cell? a=some (.pointer d2)/\Is d2 fun e2:Addr=> ∃f2:OA,c2.cell? (e2.add 1)=some (.pointer f2)/\ ∃g2:AV,(g2.size=32/\Cells c2 e g2)/\ ∃i2:AV,(i2.size=32/\Cells c2 b i2)/\aY prog 71 #[.pointer f2,.agg g2,.agg i2] c2 fun j2 k2=> ∃m2:Bool,j2=.bool m2/\Split m2 (Wr k2 d/\let n2:=k2.setCell d (.bool true);Q .ret [(3,.pointer (some a)),(5,.pointer (some b)),(6,.pointer (some c)),(7,.pointer (some d)),(10,.pointer (some e))] n2) (let o2:=k2.drew;∃p2:OA,o2.cell? a=some (.pointer p2)/\Is p2 fun q2:Addr=> ∃r2:Option Nat,o2.cell? (q2.add 2)=some (.map r2)/\ ∃t2:AV,(t2.size=32/\Cells o2 e t2)/\ ∃u2:OA,(Instr.lookup 80 (.map r2) (.agg t2) false).run prog o2=.ok (.pointer u2) o2/\Is u2 fun v2:Addr=> ∃x2:AV,(x2.size=35/\Cells o2 (v2.add 0) x2)/\let y2:=o2.alloc (.cells zC 52);(∃cs:AV,(.agg x2:Value)=.agg cs/\cs.size=35/\Cells y2 (v2.add 0) cs)/\(Instr.lookup 80 (.map r2) (.agg t2) false).run prog y2=.ok (.pointer u2) y2/\(∃cs:AV,(.agg t2:Value)=.agg cs/\cs.size=32/\Cells y2 e cs)/\y2.cell? (q2.add 2)=some (.map r2)/\y2.cell? a=some (.pointer p2)/\(x2.size=35/\(∀z2∈x2.toList,z2.oneCell'=true)/\ ∀a3,a3<35->Wr y2 ((⟨o2.heap.size,0,none⟩:Addr).add a3))/\let b3:=setCells y2 (⟨o2.heap.size,0,none⟩:Addr) x2.toList 0;∃c3:OA,∃d3:Nat,∃e3:Nat,b3.cell? ((⟨o2.heap.size,0,none⟩:Addr).add 33)=some (.slice c3 d3 e3)/\Holds (some l) [] prog 90 (.loop (lB (bB (sR (sR (sR (sR (bB (rB (bB (sR (sL (sR (sR (body f73))))))))))))))) (ae.q2 l Q) [(3,.pointer (some a)),(5,.pointer (some b)),(6,.pointer (some c)),(7,.pointer (some d)),(11,.pointer (some (⟨o2.heap.size,0,none⟩:Addr))),(65,.slice c3 d3 e3),(66,.int .i64 (d3:Int)),(67,.int .i64 0)] b3))
theorem ae.y1:(aT (some l) [] prog 90 ae.k (rB (bB (sR (sL (sR (sR (body f73))))))) [] Q [(3,.pointer (some a)),(5,.pointer (some b)),(6,.pointer (some c)),(7,.pointer (some d)),(10,.pointer (some e))] w)=ae.Y1 l a b c d e Q w:=by kernel_rfl
end
section
def ae.gm(a:Addr)(b:Addr)(c:Addr)(d:Addr)(e:Value)(ms:AV)(K:KT)(w:World):Prop:=
 Wr w d/\let f:=w.setCell d (.bool true);iH (marksOf (.agg ms)) f/\ ∃g:Bool,(dS (marksOf (.agg ms)) f).cell? d=some (.bool g)/\K (.bool g) (dS (marksOf (.agg ms)) f)
variable(a:Addr)(b:Addr)(c:Addr)(d:Addr)(e:Value)(ms:AV)(K:KT)(w:World)
theorem ae.im:(ae.wm K .normal [(3,.pointer (some a)),(5,.pointer (some b)),(6,.pointer (some c)),(7,.pointer (some d)),(36,e),(4294967296,.agg ms)] w)=ae.gm a b c d e ms K w:=by kernel_rfl
end
section
def ae.rz(a:Addr)(b:Addr)(c:Addr)(d:Addr)(e:Value)(ms:AV)(K:KT)(w:World):Prop:=
 iH (marksOf (.agg ms)) w/\ ∃f:Bool,(dS (marksOf (.agg ms)) w).cell? d=some (.bool f)/\K (.bool f) (dS (marksOf (.agg ms)) w)
variable(a:Addr)(b:Addr)(c:Addr)(d:Addr)(e:Value)(ms:AV)(K:KT)(w:World)
theorem ae.vX:(ae.wm K .ret [(3,.pointer (some a)),(5,.pointer (some b)),(6,.pointer (some c)),(7,.pointer (some d)),(36,e),(4294967296,.agg ms)] w)=ae.rz a b c d e ms K w:=by kernel_rfl
end
section
def ae.B2(l:Nat)(a:Addr)(b:Addr)(c:Addr)(d:Addr)(e:Addr)(f:OA)(g:Nat)(i:Nat)(j:Int)(k:Int)(Q:aJ)(w:World):Prop:=
 Split (decide (k<j)) ((0<=k/\k<(g:Int))/\Is f fun m:Addr=> ∃n:AV,(n.size=32/\Cells w (m.add (k.toNat*32)) n)/\let o:=w.alloc (.cells zH 23);(n.size=32/\(∀p∈n.toList,p.oneCell'=true)/\ ∀q,q<32->Wr o ((⟨w.heap.size,0,none⟩:Addr).add q))/\let r:=setCells o (⟨w.heap.size,0,none⟩:Addr) n.toList 0;∃t:OA,∃u:Nat,∃v:Nat,r.cell? (e.add 34)=some (.slice t u v)/\(0<=k/\k<(u:Int))/\Is t fun x:Addr=> ∃y:Bool,r.cell? (x.add (k.toNat*1))=some (.bool y)/\Split y (∃z:OA,r.cell? a=some (.pointer z)/\ ∃a1:AV,(a1.size=32/\Cells r (⟨w.heap.size,0,none⟩:Addr) a1)/\ ∃b1:AV,(b1.size=32/\Cells r b b1)/\aY prog 74 #[.pointer z,.agg a1,.agg b1] r fun c1 d1=> ∃e1:Bool,c1=.bool e1/\Split e1 (∃f1:Value,d1.cell? c=some (f1)/\ ∃g1:AV,(g1.size=32/\Cells d1 (⟨w.heap.size,0,none⟩:Addr) g1)/\ ∃(i1:Nat) (j1 k1:AV) (m1:Func),(f1:Value)=.func (.func i1) j1 k1/\prog.funcs[i1]? =some m1/\m1.body.isSome=true/\aY prog i1 (j1.toList++([.agg g1]:List Value)++k1.toList).toArray d1 fun n1 o1=> ∃p1:Bool,n1=.bool p1/\Split (!p1) (Wr o1 d/\let q1:=o1.setCell d (.bool false);Q .ret [(3,.pointer (some a)),(5,.pointer (some b)),(6,.pointer (some c)),(7,.pointer (some d)),(11,.pointer (some e)),(65,.slice f g i),(66,.int .i64 j),(67,.int .i64 k)] q1) (Q .normal [(3,.pointer (some a)),(5,.pointer (some b)),(6,.pointer (some c)),(7,.pointer (some d)),(11,.pointer (some e)),(65,.slice f g i),(66,.int .i64 j),(67,.int .i64 (IntKind.i64.wrap (k+(1:Int))))] o1)) (Q .normal [(3,.pointer (some a)),(5,.pointer (some b)),(6,.pointer (some c)),(7,.pointer (some d)),(11,.pointer (some e)),(65,.slice f g i),(66,.int .i64 j),(67,.int .i64 (IntKind.i64.wrap (k+(1:Int))))] d1)) (Q .normal [(3,.pointer (some a)),(5,.pointer (some b)),(6,.pointer (some c)),(7,.pointer (some d)),(11,.pointer (some e)),(65,.slice f g i),(66,.int .i64 j),(67,.int .i64 (IntKind.i64.wrap (k+(1:Int))))] r)) (Q (.exit 4) [(3,.pointer (some a)),(5,.pointer (some b)),(6,.pointer (some c)),(7,.pointer (some d)),(11,.pointer (some e)),(65,.slice f g i),(66,.int .i64 j),(67,.int .i64 k)] w)
variable(l:Nat)(a:Addr)(b:Addr)(c:Addr)(d:Addr)(e:Addr)(f:OA)(g:Nat)(i:Nat)(j:Int)(k:Int)(Q:aJ)(w:World)
theorem ae.b2:(aT (some l) [] prog 90 ae.k (lB (bB (sR (sR (sR (sR (bB (rB (bB (sR (sL (sR (sR (body f73)))))))))))))) ae.u2 Q [(3,.pointer (some a)),(5,.pointer (some b)),(6,.pointer (some c)),(7,.pointer (some d)),(11,.pointer (some e)),(65,.slice f g i),(66,.int .i64 j),(67,.int .i64 k)] w)=ae.B2 l a b c d e f g i j k Q w:=by kernel_rfl
variable{l a b c d e f g i j}
theorem ae.gz(I:Int->World->Prop)(μ:Int->World->Nat)(s:Int){Q:aJ}{w:World}(h0:I s w)
 (round: ∀s w,I s w->ae.B2 l a b c d e f g i j s (bF (ae.e2 a b c d e f g i j) I μ s w Q) w):Holds (some l) [] prog 90 (.loop (lB (bB (sR (sR (sR (sR (bB (rB (bB (sR (sL (sR (sR (body f73))))))))))))))) Q (ae.e2 a b c d e f g i j s) w:=
 ba ng mix (ae.e2 a b c d e f g i j) I μ ae.k ae.u2 s (fun s Q w=>ae.B2 l a b c d e f g i j s Q w) (fun s Q w=>ae.b2 l a b c d e f g i j s Q w) h0 round
end
section
def ae.Ov(l:Nat)(a:Addr)(b:Addr)(c:Addr)(d:Addr)(e:Addr)(f:OA)(g:Nat)(i:Nat)(j:Int)(k:Int)(Q:aJ)(w:World):Prop:=
 Q .normal [] w
variable(l:Nat)(a:Addr)(b:Addr)(c:Addr)(d:Addr)(e:Addr)(f:OA)(g:Nat)(i:Nat)(j:Int)(k:Int)(Q:aJ)(w:World)
theorem ae.PR:(ae.q2 l Q (.exit 4) [(3,.pointer (some a)),(5,.pointer (some b)),(6,.pointer (some c)),(7,.pointer (some d)),(11,.pointer (some e)),(65,.slice f g i),(66,.int .i64 j),(67,.int .i64 k)] w)=ae.Ov l a b c d e f g i j k Q w:=by kernel_rfl
end
def aj.k:List Nat:= []
def aj.q1(K:KT):aJ:=(aK 0 (bY (sR (sR (sR (sR (body Tryz.f46)))))++(aO Tryz.f46)) (bN (fun bS w_=>match cutAt aj.k (sR (sR (sR (sR (body Tryz.f46)))))with|true=>Holds none [] prog 33 (sR (sR (sR (sR (body Tryz.f46))))) (bG prog Tryz.f46 K) bS w_|false=>aT none [] prog 33 aj.k (sR (sR (sR (sR (body Tryz.f46))))) (aO Tryz.f46) (bG prog Tryz.f46 K) bS w_) (bG prog Tryz.f46 K)))
def aj.e1(a:OA)(b:Nat)(c:Nat)(d:OA)(e:Addr)(f:Addr)(s:Int):Env:= [(0,.slice a b c),(1,.func (.func 47) #[.pointer d] #[]),(4,.pointer (some e)),(5,.pointer (some f)),(6,.int .i64 s)]
def aj.u1:List Nat:= [0,1,4,5,6]
section
variable(a:OA)(b:Nat)(d:Nat)(e:OA)(K:KT)(w:World)
def aj.W:Prop:=
 let f:=w.alloc (.cells zH 23);Split (decide ((b:Int)<(1:Int))) (False) ((0<=(0:Int)/\(0:Int)<(b:Int))/\Is a fun g:Addr=> ∃i:AV,(i.size=32/\Cells f (g.add ((0:Int).toNat*32)) i)/\let j:=f.alloc (.cells zH 23);(i.size=32/\(∀k∈i.toList,k.oneCell'=true)/\ ∀m,m<32->Wr j ((⟨f.heap.size,0,none⟩:Addr).add m))/\let n:=setCells j (⟨f.heap.size,0,none⟩:Addr) i.toList 0;Holds none [] prog 33 (.loop (lB (bB (sR (sL (sR (sR (sR (body Tryz.f46))))))))) (aj.q1 K) [(0,.slice a b d),(1,.func (.func 47) #[.pointer e] #[]),(4,.pointer (some (⟨w.heap.size,0,none⟩:Addr))),(5,.pointer (some (⟨f.heap.size,0,none⟩:Addr))),(6,.int .i64 1)] n)
variable{a b d e K w}
theorem aj.of(h:aj.W a b d e K w):aY prog 46 #[.slice a b d,.func (.func 47) #[.pointer e] #[]] w K:=
 aH (C:=aj.k) (c:=body Tryz.f46) ng mix func46 (by kernel_rfl) (by kernel_rfl) (by kernel_rfl) h
end
section
variable(a:OA)(b:Nat)(c:Nat)(d:OA)(e:Addr)(f:Addr)(g:Int)(Q:aJ)(w:World)
def aj.B1:Prop:=
 Split (decide (g<(b:Int))) (let i:=w.drew;(0<=g/\g<(b:Int))/\Is a fun j:Addr=> ∃k:AV,(k.size=32/\Cells i (j.add (g.toNat*32)) k)/\ ∃m:AV,(m.size=32/\Cells i f m)/\aY prog 47 #[.pointer d,.agg k,.agg m] i fun n o=> ∃p:Int,n=.int .i64 p/\Split (decide (p>(0:Int))) ((0<=g/\g<(b:Int))/\Is a fun q:Addr=> ∃r:AV,(r.size=32/\Cells o (q.add (g.toNat*32)) r)/\(r.size=32/\(∀t∈r.toList,t.oneCell'=true)/\ ∀u,u<32->Wr o (f.add u))/\let v:=setCells o f r.toList 0;Q .normal [(0,.slice a b c),(1,.func (.func 47) #[.pointer d] #[]),(4,.pointer (some e)),(5,.pointer (some f)),(6,.int .i64 (IntKind.i64.wrap (g+(1:Int))))] v) (Q .normal [(0,.slice a b c),(1,.func (.func 47) #[.pointer d] #[]),(4,.pointer (some e)),(5,.pointer (some f)),(6,.int .i64 (IntKind.i64.wrap (g+(1:Int))))] o)) (Q (.exit 0) [(0,.slice a b c),(1,.func (.func 47) #[.pointer d] #[]),(4,.pointer (some e)),(5,.pointer (some f)),(6,.int .i64 g)] w)
theorem aj.b1:(aT none [] prog 33 aj.k (lB (bB (sR (sL (sR (sR (sR (body Tryz.f46)))))))) aj.u1 Q [(0,.slice a b c),(1,.func (.func 47) #[.pointer d] #[]),(4,.pointer (some e)),(5,.pointer (some f)),(6,.int .i64 g)] w)=aj.B1 a b c d e f g Q w:=by kernel_rfl
variable{a b c d e f}
theorem aj.bU(I:Int->World->Prop)(μ:Int->World->Nat)(s:Int){Q:aJ}{w:World}(h0:I s w)
 (round: ∀s w,I s w->aj.B1 a b c d e f s (bF (aj.e1 a b c d e f) I μ s w Q) w):Holds none [] prog 33 (.loop (lB (bB (sR (sL (sR (sR (sR (body Tryz.f46))))))))) Q (aj.e1 a b c d e f s) w:=
 ba ng mix (aj.e1 a b c d e f) I μ aj.k aj.u1 s (fun s Q w=>aj.B1 a b c d e f s Q w) (fun s Q w=>aj.b1 a b c d e f s Q w) h0 round
end
section
def aj.cW(a:OA)(b:Nat)(c:Nat)(d:OA)(e:Addr)(f:Addr)(g:Int)(K:KT)(w:World):Prop:=
 ∃i:AV,(i.size=32/\Cells w f i)/\(i.size=32/\(∀j∈i.toList,j.oneCell'=true)/\ ∀k,k<32->Wr w (e.add k))/\let m:=setCells w e i.toList 0;∃n:AV,(n.size=32/\Cells m e n)/\K (.agg n) m
variable(a:OA)(b:Nat)(c:Nat)(d:OA)(e:Addr)(f:Addr)(g:Int)(K:KT)(w:World)
theorem aj.dD:(aj.q1 K (.exit 0) [(0,.slice a b c),(1,.func (.func 47) #[.pointer d] #[]),(4,.pointer (some e)),(5,.pointer (some f)),(6,.int .i64 g)] w)=aj.cW a b c d e f g K w:=by kernel_rfl
end
def bn.k:List Nat:= []
section
variable(a:OA)(b:Nat)(d:Nat)(e:Addr)(K:KT)(w:World)
def bn.W:Prop:=
 aY prog 113 #[.slice a b d,.func (.func 86) #[] #[.pointer (some e)]] w fun f g=> ∃i:Int,f=.int .i64 i/\K (.bool (decide (i>=(0:Int)))) g
variable{a b d e K w}
theorem bn.of(h:bn.W a b d e K w):aY prog 85 #[.slice a b d,.func (.func 86) #[] #[.pointer (some e)]] w K:=
 aH (C:=bn.k) (c:=body f85) ng mix func85 (by kernel_rfl) (by kernel_rfl) (by kernel_rfl) h
end
def ai.k:List Nat:= []
def ai.q1(K:KT):aJ:=(aK 0 (bY (sR (sR (body f113)))++(aO f113)) (bN (fun bS w_=>match cutAt ai.k (sR (sR (body f113)))with|true=>Holds none [] prog 19 (sR (sR (body f113))) (bG prog f113 K) bS w_|false=>aT none [] prog 19 ai.k (sR (sR (body f113))) (aO f113) (bG prog f113 K) bS w_) (bG prog f113 K)))
def ai.e1(a:OA)(b:Nat)(c:Nat)(d:Addr)(e:Int)(s:Int×Int):Env:= [(0,.slice a b c),(1,.func (.func 86) #[] #[.pointer (some d)]),(4,.int .i64 s.1),(7,.int .i64 e),(8,.int .i64 s.2)]
def ai.u1:List Nat:= [0,1,4,7,8]
section
variable(a:OA)(b:Nat)(d:Nat)(e:Addr)(K:KT)(w:World)
def ai.W:Prop:=
 Holds none [] prog 19 (.loop (lB (bB (sR (sL (sR (body f113))))))) (ai.q1 K) [(0,.slice a b d),(1,.func (.func 86) #[] #[.pointer (some e)]),(4,.int .i64 0),(7,.int .i64 (b:Int)),(8,.int .i64 0)] w
variable{a b d e K w}
theorem ai.of(h:ai.W a b d e K w):aY prog 113 #[.slice a b d,.func (.func 86) #[] #[.pointer (some e)]] w K:=
 aH (C:=ai.k) (c:=body f113) ng mix func113 (by kernel_rfl) (by kernel_rfl) (by kernel_rfl) h
end
section
variable(a:OA)(b:Nat)(c:Nat)(d:Addr)(e:Int)(f:Int)(g:Int)(Q:aJ)(w:World)
def ai.B1:Prop:=
 Split (decide (g<f)) ((0<=g/\g<(b:Int))/\Is a fun i:Addr=> ∃j:AV,(j.size=32/\Cells w (i.add (g.toNat*32)) j)/\aY prog 86 #[.agg j,.pointer (some d)] w fun k m=> ∃n:Bool,k=.bool n/\Split n (Q .ret [(0,.slice a b c),(1,.func (.func 86) #[] #[.pointer (some d)]),(4,.int .i64 g),(7,.int .i64 f),(8,.int .i64 g)] m) (Q .normal [(0,.slice a b c),(1,.func (.func 86) #[] #[.pointer (some d)]),(4,.int .i64 e),(7,.int .i64 f),(8,.int .i64 (IntKind.i64.wrap (g+(1:Int))))] m)) (Q (.exit 0) [(0,.slice a b c),(1,.func (.func 86) #[] #[.pointer (some d)]),(4,.int .i64 e),(7,.int .i64 f),(8,.int .i64 g)] w)
theorem ai.b1:(aT none [] prog 19 ai.k (lB (bB (sR (sL (sR (body f113)))))) ai.u1 Q [(0,.slice a b c),(1,.func (.func 86) #[] #[.pointer (some d)]),(4,.int .i64 e),(7,.int .i64 f),(8,.int .i64 g)] w)=ai.B1 a b c d e f g Q w:=by kernel_rfl
variable{a b c d f}
theorem ai.bU(I:Int×Int->World->Prop)(μ:Int×Int->World->Nat)(s:Int×Int){Q:aJ}{w:World}(h0:I s w)
 (round: ∀s w,I s w->ai.B1 a b c d (s.1) f (s.2) (bF (ai.e1 a b c d f) I μ s w Q) w):Holds none [] prog 19 (.loop (lB (bB (sR (sL (sR (body f113))))))) Q (ai.e1 a b c d f s) w:=
 ba ng mix (ai.e1 a b c d f) I μ ai.k ai.u1 s (fun s Q w=>ai.B1 a b c d (s.1) f (s.2) Q w) (fun s Q w=>ai.b1 a b c d (s.1) f (s.2) Q w) h0 round
end
section
def ai.cW(a:OA)(b:Nat)(c:Nat)(d:Addr)(e:Int)(f:Int)(g:Int)(K:KT)(w:World):Prop:=
 K (.int .i64 (-1)) w
variable(a:OA)(b:Nat)(c:Nat)(d:Addr)(e:Int)(f:Int)(g:Int)(K:KT)(w:World)
theorem ai.dD:(ai.q1 K (.exit 0) [(0,.slice a b c),(1,.func (.func 86) #[] #[.pointer (some d)]),(4,.int .i64 e),(7,.int .i64 f),(8,.int .i64 g)] w)=ai.cW a b c d e f g K w:=by kernel_rfl
end
end Go.Proofs.YtnboahlopghcjaaGreatDoor
namespace Go.Proofs.YtnboahlopghcjaaGreatDoor
open Go.Proofs.Tryz
open Go Go.bp
section
variable(a:AV)(b:AV)(K:KT)(w:World)
variable{a b K w}
end
section
variable(a:Addr)(b:Addr)(c:Bool)(d:Int)(Q:aJ)(w:World)
variable{a b}
end
section
variable(a:Addr)(b:Addr)(c:Bool)(d:Int)(K:KT)(w:World)
end
section
variable(a:OA)(b:OA)(d:Nat)(e:Nat)(K:KT)(w:World)
variable{a b d e K w}
end
section
variable(a:OA)(b:OA)(c:Nat)(d:Nat)(e:Int)(f:Int)(Q:aJ)(w:World)
variable{a b c d}
end
section
variable(a:OA)(b:OA)(c:Nat)(d:Nat)(e:Int)(f:Int)(K:KT)(w:World)
end
section
variable(a:OA)(b:OA)(d:Nat)(e:Nat)(K:KT)(w:World)
variable{a b d e K w}
end
section
variable(a:OA)(b:OA)(c:Nat)(d:Nat)(e:Addr)(f:Addr)(g:Int)(Q:aJ)(w:World)
variable{a b c d e f}
end
section
variable(a:OA)(b:OA)(c:Nat)(d:Nat)(e:Addr)(f:Addr)(g:Int)(K:KT)(w:World)
end
section
variable(a:OA)(b:AV)(d:OA)(e:Nat)(f:Nat)(K:KT)(w:World)
variable{a b d e f K w}
end
section
variable(a:OA)(b:OA)(c:Nat)(d:Nat)(e:Addr)(f:Addr)(g:OA)(i:Nat)(j:Nat)(k:Addr)(K:KT)(w:World)
variable{a b c d e f g i j k K w}
end
section
variable(a:OA)(b:OA)(c:Nat)(d:Nat)(e:Addr)(f:Addr)(g:OA)(i:Nat)(j:Nat)(k:Addr)(m:OA)(n:Nat)(o:Nat)(K:KT)(w:World)
variable{a b c d e f g i j k m n o K w}
end
section
variable(a:OA)(b:Addr)(c:Addr)(d:OA)(e:Nat)(f:Nat)(g:Addr)(i:OA)(j:Nat)(k:Nat)(m:OA)(n:Nat)(o:Nat)(p:Int)(Q:aJ)(w:World)
variable{a b c d e f g i j k m n o}
end
section
variable(a:OA)(b:Addr)(c:Addr)(d:OA)(e:Nat)(f:Nat)(g:Addr)(i:OA)(j:Nat)(k:Nat)(m:OA)(n:Nat)(o:Nat)(p:Int)(K:KT)(w:World)
end
section
variable(a:OA)(b:Addr)(c:Addr)(d:OA)(e:Nat)(f:Nat)(g:Addr)(i:OA)(j:Nat)(k:Nat)(m:OA)(n:Nat)(o:Nat)(p:Int)(q:Addr)(r:Int)(Q:aJ)(w:World)
variable{a b c d e f g i j k m n o p q}
end
section
variable(a:OA)(b:Addr)(c:Addr)(d:OA)(e:Nat)(f:Nat)(g:Addr)(i:OA)(j:Nat)(k:Nat)(m:OA)(n:Nat)(o:Nat)(p:Int)(q:Addr)(r:Int)(Q:aJ)(w:World)
end
section
variable(a:OA)(b:Addr)(c:OA)(d:Nat)(e:Nat)(f:Addr)(g:OA)(i:Nat)(j:Nat)(k:Int)(Q:aJ)(w:World)
variable{a b c d e f}
end
section
variable(a:OA)(b:Addr)(c:OA)(d:Nat)(e:Nat)(f:Addr)(g:OA)(i:Nat)(j:Nat)(k:Int)(K:KT)(w:World)
end
section
variable(a:OA)(b:Addr)(c:OA)(d:Nat)(e:Nat)(f:Addr)(g:OA)(i:Nat)(j:Nat)(k:Int)(m:OA)(n:Nat)(o:Nat)(p:Bool)(q:Int)(Q:aJ)(w:World)
variable{a b c d e f g i j k m n o}
end
section
variable(a:OA)(b:Addr)(c:OA)(d:Nat)(e:Nat)(f:Addr)(g:OA)(i:Nat)(j:Nat)(k:Int)(m:OA)(n:Nat)(o:Nat)(p:Bool)(q:Int)(Q:aJ)(w:World)
end
section
variable(a:OA)(b:AV)(d:AV)(K:KT)(w:World)
variable{a b d K w}
end
section
variable(a:Int)(b:AV)(K:KT)(w:World)
variable{a b K w}
end
section
variable(a:OA)(b:AV)(d:OA)(e:Nat)(f:Nat)(K:KT)(w:World)
variable{a b d e f K w}
end
section
variable(a:OA)(b:AV)(K:KT)(w:World)
variable{a b K w}
end
section
variable(a:OA)(b:OA)(d:Nat)(e:Nat)(f:AV)(K:KT)(w:World)
variable{a b d e f K w}
end
section
variable(a:OA)(b:OA)(c:Nat)(d:Nat)(e:Addr)(f:OA)(g:Nat)(i:Nat)(j:OA)(k:Nat)(m:Nat)(n:Int)(Q:aJ)(w:World)
variable{a b c d e f g i}
end
section
variable(a:OA)(b:OA)(c:Nat)(d:Nat)(e:Addr)(f:OA)(g:Nat)(i:Nat)(j:OA)(k:Nat)(m:Nat)(n:Int)(K:KT)(w:World)
end
end Go.Proofs.YtnboahlopghcjaaGreatDoor
namespace Go.Proofs.YtnboahlopghcjaaGreatDoor
open Go.Proofs.Tryz
open Go Go.bp
section
variable(a:OA)(b:Nat)(d:Nat)(e:Int)(K:KT)(w:World)
variable{a b d e K w}
end
section
variable(a:OA)(b:Nat)(c:Nat)(d:Int)(e:Bool)(f:Int)(Q:aJ)(w:World)
variable{a b c d}
end
section
variable(a:OA)(b:Nat)(c:Nat)(d:Int)(e:Bool)(f:Int)(K:KT)(w:World)
end
def fj.k:List Nat:= []
section
variable(K:KT)(w:World)
def fj.W:Prop:=
 let a:=w.alloc (.cells zH 23);let b:=a.alloc (.cells zH 23);let d:=b.alloc (.cells zH 23);let e:=d.alloc (.cells zH 23);((#[.int .u8 1,.int .u8 0,.int .u8 0,.int .u8 0,.int .u8 0,.int .u8 0,.int .u8 0,.int .u8 0,.int .u8 0,.int .u8 0,.int .u8 0,.int .u8 0,.int .u8 0,.int .u8 0,.int .u8 0,.int .u8 0,.int .u8 0,.int .u8 0,.int .u8 0,.int .u8 0,.int .u8 0,.int .u8 0,.int .u8 0,.int .u8 0,.int .u8 0,.int .u8 0,.int .u8 0,.int .u8 0,.int .u8 0,.int .u8 0,.int .u8 0,.int .u8 0]:AV).size=32/\(∀f∈(#[.int .u8 1,.int .u8 0,.int .u8 0,.int .u8 0,.int .u8 0,.int .u8 0,.int .u8 0,.int .u8 0,.int .u8 0,.int .u8 0,.int .u8 0,.int .u8 0,.int .u8 0,.int .u8 0,.int .u8 0,.int .u8 0,.int .u8 0,.int .u8 0,.int .u8 0,.int .u8 0,.int .u8 0,.int .u8 0,.int .u8 0,.int .u8 0,.int .u8 0,.int .u8 0,.int .u8 0,.int .u8 0,.int .u8 0,.int .u8 0,.int .u8 0,.int .u8 0]:AV).toList,f.oneCell'=true)/\ ∀g,g<32->Wr e ((⟨w.heap.size,0,none⟩:Addr).add g))/\let i:=setCells e (⟨w.heap.size,0,none⟩:Addr) (#[.int .u8 1,.int .u8 0,.int .u8 0,.int .u8 0,.int .u8 0,.int .u8 0,.int .u8 0,.int .u8 0,.int .u8 0,.int .u8 0,.int .u8 0,.int .u8 0,.int .u8 0,.int .u8 0,.int .u8 0,.int .u8 0,.int .u8 0,.int .u8 0,.int .u8 0,.int .u8 0,.int .u8 0,.int .u8 0,.int .u8 0,.int .u8 0,.int .u8 0,.int .u8 0,.int .u8 0,.int .u8 0,.int .u8 0,.int .u8 0,.int .u8 0,.int .u8 0]:AV).toList 0;((#[.int .u8 3,.int .u8 0,.int .u8 0,.int .u8 0,.int .u8 0,.int .u8 0,.int .u8 0,.int .u8 0,.int .u8 0,.int .u8 0,.int .u8 0,.int .u8 0,.int .u8 0,.int .u8 0,.int .u8 0,.int .u8 0,.int .u8 0,.int .u8 0,.int .u8 0,.int .u8 0,.int .u8 0,.int .u8 0,.int .u8 0,.int .u8 0,.int .u8 0,.int .u8 0,.int .u8 0,.int .u8 0,.int .u8 0,.int .u8 0,.int .u8 0,.int .u8 0]:AV).size=32/\(∀j∈(#[.int .u8 3,.int .u8 0,.int .u8 0,.int .u8 0,.int .u8 0,.int .u8 0,.int .u8 0,.int .u8 0,.int .u8 0,.int .u8 0,.int .u8 0,.int .u8 0,.int .u8 0,.int .u8 0,.int .u8 0,.int .u8 0,.int .u8 0,.int .u8 0,.int .u8 0,.int .u8 0,.int .u8 0,.int .u8 0,.int .u8 0,.int .u8 0,.int .u8 0,.int .u8 0,.int .u8 0,.int .u8 0,.int .u8 0,.int .u8 0,.int .u8 0,.int .u8 0]:AV).toList,j.oneCell'=true)/\ ∀k,k<32->Wr i ((⟨a.heap.size,0,none⟩:Addr).add k))/\let m:=setCells i (⟨a.heap.size,0,none⟩:Addr) (#[.int .u8 3,.int .u8 0,.int .u8 0,.int .u8 0,.int .u8 0,.int .u8 0,.int .u8 0,.int .u8 0,.int .u8 0,.int .u8 0,.int .u8 0,.int .u8 0,.int .u8 0,.int .u8 0,.int .u8 0,.int .u8 0,.int .u8 0,.int .u8 0,.int .u8 0,.int .u8 0,.int .u8 0,.int .u8 0,.int .u8 0,.int .u8 0,.int .u8 0,.int .u8 0,.int .u8 0,.int .u8 0,.int .u8 0,.int .u8 0,.int .u8 0,.int .u8 0]:AV).toList 0;((#[.int .u8 2,.int .u8 0,.int .u8 0,.int .u8 0,.int .u8 0,.int .u8 0,.int .u8 0,.int .u8 0,.int .u8 0,.int .u8 0,.int .u8 0,.int .u8 0,.int .u8 0,.int .u8 0,.int .u8 0,.int .u8 0,.int .u8 0,.int .u8 0,.int .u8 0,.int .u8 0,.int .u8 0,.int .u8 0,.int .u8 0,.int .u8 0,.int .u8 0,.int .u8 0,.int .u8 0,.int .u8 0,.int .u8 0,.int .u8 0,.int .u8 0,.int .u8 0]:AV).size=32/\(∀n∈(#[.int .u8 2,.int .u8 0,.int .u8 0,.int .u8 0,.int .u8 0,.int .u8 0,.int .u8 0,.int .u8 0,.int .u8 0,.int .u8 0,.int .u8 0,.int .u8 0,.int .u8 0,.int .u8 0,.int .u8 0,.int .u8 0,.int .u8 0,.int .u8 0,.int .u8 0,.int .u8 0,.int .u8 0,.int .u8 0,.int .u8 0,.int .u8 0,.int .u8 0,.int .u8 0,.int .u8 0,.int .u8 0,.int .u8 0,.int .u8 0,.int .u8 0,.int .u8 0]:AV).toList,n.oneCell'=true)/\ ∀o,o<32->Wr m ((⟨b.heap.size,0,none⟩:Addr).add o))/\let p:=setCells m (⟨b.heap.size,0,none⟩:Addr) (#[.int .u8 2,.int .u8 0,.int .u8 0,.int .u8 0,.int .u8 0,.int .u8 0,.int .u8 0,.int .u8 0,.int .u8 0,.int .u8 0,.int .u8 0,.int .u8 0,.int .u8 0,.int .u8 0,.int .u8 0,.int .u8 0,.int .u8 0,.int .u8 0,.int .u8 0,.int .u8 0,.int .u8 0,.int .u8 0,.int .u8 0,.int .u8 0,.int .u8 0,.int .u8 0,.int .u8 0,.int .u8 0,.int .u8 0,.int .u8 0,.int .u8 0,.int .u8 0]:AV).toList 0;((#[.int .u8 4,.int .u8 0,.int .u8 0,.int .u8 0,.int .u8 0,.int .u8 0,.int .u8 0,.int .u8 0,.int .u8 0,.int .u8 0,.int .u8 0,.int .u8 0,.int .u8 0,.int .u8 0,.int .u8 0,.int .u8 0,.int .u8 0,.int .u8 0,.int .u8 0,.int .u8 0,.int .u8 0,.int .u8 0,.int .u8 0,.int .u8 0,.int .u8 0,.int .u8 0,.int .u8 0,.int .u8 0,.int .u8 0,.int .u8 0,.int .u8 0,.int .u8 0]:AV).size=32/\(∀q∈(#[.int .u8 4,.int .u8 0,.int .u8 0,.int .u8 0,.int .u8 0,.int .u8 0,.int .u8 0,.int .u8 0,.int .u8 0,.int .u8 0,.int .u8 0,.int .u8 0,.int .u8 0,.int .u8 0,.int .u8 0,.int .u8 0,.int .u8 0,.int .u8 0,.int .u8 0,.int .u8 0,.int .u8 0,.int .u8 0,.int .u8 0,.int .u8 0,.int .u8 0,.int .u8 0,.int .u8 0,.int .u8 0,.int .u8 0,.int .u8 0,.int .u8 0,.int .u8 0]:AV).toList,q.oneCell'=true)/\ ∀r,r<32->Wr p ((⟨d.heap.size,0,none⟩:Addr).add r))/\let t:=setCells p (⟨d.heap.size,0,none⟩:Addr) (#[.int .u8 4,.int .u8 0,.int .u8 0,.int .u8 0,.int .u8 0,.int .u8 0,.int .u8 0,.int .u8 0,.int .u8 0,.int .u8 0,.int .u8 0,.int .u8 0,.int .u8 0,.int .u8 0,.int .u8 0,.int .u8 0,.int .u8 0,.int .u8 0,.int .u8 0,.int .u8 0,.int .u8 0,.int .u8 0,.int .u8 0,.int .u8 0,.int .u8 0,.int .u8 0,.int .u8 0,.int .u8 0,.int .u8 0,.int .u8 0,.int .u8 0,.int .u8 0]:AV).toList 0;∃u:AV,(u.size=32/\Cells t (⟨w.heap.size,0,none⟩:Addr) u)/\aY prog 12 #[.int .i64 0,.agg u] t fun v x=> ∃y:OA,∃z:Int,v=.tuple #[.pointer y,.int .i64 z]/\Split (z != (0:Int)) (K (.bool false) x) (Split ((y).isNone) (K (.bool false) x) (∃a1:AV,(a1.size=32/\Cells x (⟨a.heap.size,0,none⟩:Addr) a1)/\ ∃b1:AV,(b1.size=32/\Cells x (⟨w.heap.size,0,none⟩:Addr) b1)/\b1.size=32/\let c1:=x.alloc (.cells (b1.toList++ []).toArray 23);aY prog 14 #[.pointer y,.agg a1,.slice (some (⟨x.heap.size,0,none⟩:Addr)) 1 1] c1 fun d1 e1=> ∃f1:AV,∃g1:Int,d1=.tuple #[.agg f1,.int .i64 g1]/\ ∃i1:AV,(i1.size=32/\Cells e1 (⟨b.heap.size,0,none⟩:Addr) i1)/\ ∃j1:AV,(j1.size=32/\Cells e1 (⟨w.heap.size,0,none⟩:Addr) j1)/\j1.size=32/\let k1:=e1.alloc (.cells (j1.toList++ []).toArray 23);aY prog 14 #[.pointer y,.agg i1,.slice (some (⟨e1.heap.size,0,none⟩:Addr)) 1 1] k1 fun m1 n1=> ∃o1:AV,∃p1:Int,m1=.tuple #[.agg o1,.int .i64 p1]/\ ∃q1:AV,(q1.size=32/\Cells n1 (⟨d.heap.size,0,none⟩:Addr) q1)/\ ∃r1:AV,(r1.size=32/\Cells n1 (⟨a.heap.size,0,none⟩:Addr) r1)/\ ∃t1:AV,(t1.size=32/\Cells n1 (⟨b.heap.size,0,none⟩:Addr) t1)/\r1.size=32/\t1.size=32/\let u1:=n1.alloc (.cells (r1.toList++(t1.toList++([]))).toArray 23);aY prog 14 #[.pointer y,.agg q1,.slice (some (⟨n1.heap.size,0,none⟩:Addr)) 2 2] u1 fun v1 x1=> ∃y1:AV,∃z1:Int,v1=.tuple #[.agg y1,.int .i64 z1]/\let a2:=x1.alloc (.cells zC 52);(y1.size=35/\(∀b2∈y1.toList,b2.oneCell'=true)/\ ∀c2,c2<35->Wr a2 ((⟨x1.heap.size,0,none⟩:Addr).add c2))/\let d2:=setCells a2 (⟨x1.heap.size,0,none⟩:Addr) y1.toList 0;let e2:=d2.drew;Split (z1==(0:Int)) (∃f2:AV,(f2.size=32/\Cells e2 ((⟨x1.heap.size,0,none⟩:Addr).add 0) f2)/\ ∃g2:AV,(g2.size=32/\Cells e2 (⟨a.heap.size,0,none⟩:Addr) g2)/\(eh .u8 32 f2/\eh .u8 32 g2)/\Split (eK f2 g2) (∃i2:Int,e2.cell? ((⟨x1.heap.size,0,none⟩:Addr).add 32)=some (.int .u64 i2)/\Split (i2==(2:Int)) (∃j2:OA,∃k2:Nat,∃m2:Nat,e2.cell? ((⟨x1.heap.size,0,none⟩:Addr).add 33)=some (.slice j2 k2 m2)/\Split ((k2:Int)==(1:Int)) (∃n2:OA,∃o2:Nat,∃p2:Nat,e2.cell? ((⟨x1.heap.size,0,none⟩:Addr).add 33)=some (.slice n2 o2 p2)/\(0<=(0:Int)/\(0:Int)<(o2:Int))/\Is n2 fun q2:Addr=> ∃r2:AV,(r2.size=32/\Cells e2 (q2.add ((0:Int).toNat*32)) r2)/\ ∃t2:AV,(t2.size=32/\Cells e2 (⟨b.heap.size,0,none⟩:Addr) t2)/\(eh .u8 32 r2/\eh .u8 32 t2)/\Split (eK r2 t2) (∃u2:OA,∃v2:Nat,∃x2:Nat,e2.cell? ((⟨x1.heap.size,0,none⟩:Addr).add 34)=some (.slice u2 v2 x2)/\Split ((v2:Int)==(1:Int)) (∃y2:OA,∃z2:Nat,∃a3:Nat,e2.cell? ((⟨x1.heap.size,0,none⟩:Addr).add 34)=some (.slice y2 z2 a3)/\(0<=(0:Int)/\(0:Int)<(z2:Int))/\Is y2 fun b3:Addr=> ∃c3:Bool,e2.cell? (b3.add ((0:Int).toNat*1))=some (.bool c3)/\K (.bool (!c3)) e2) (K (.bool false) e2)) (K (.bool false) e2)) (K (.bool false) e2)) (K (.bool false) e2)) (K (.bool false) e2)) (K (.bool false) e2)))
variable{K w}
theorem fj.of(h:fj.W K w):aY prog 10 #[] w K:=
 aH (C:=fj.k) (c:=body f10) ng mix func10 (by kernel_rfl) (by kernel_rfl) (by kernel_rfl) h
end
section
variable(a:Int)(b:AV)(d:OA)(e:Nat)(f:Nat)(K:KT)(w:World)
variable{a b d e f K w}
end
section
variable(a:OA)(b:Nat)(c:Nat)(d:OA)(e:OA)(f:Bool)(g:OA)(i:OA)(j:Int)(Q:aJ)(w:World)
variable{a b c g i}
end
section
variable(a:OA)(b:Nat)(c:Nat)(d:OA)(e:OA)(f:Bool)(g:OA)(i:OA)(j:Int)(K:KT)(w:World)
end
section
variable(a:OA)(b:Nat)(c:Nat)(d:OA)(e:OA)(f:Bool)(g:OA)(i:OA)(j:Int)(k:Addr)(m:Int)(Q:aJ)(w:World)
variable{a b c d e f g i j k m Q w}
end
section
variable(a:OA)(b:Nat)(c:Nat)(d:OA)(e:OA)(f:Bool)(g:OA)(i:OA)(j:Int)(k:Addr)(m:Int)(n:Addr)(o:Int)(Q:aJ)(w:World)
variable{a b c d e f g i j k m n o Q w}
end
end Go.Proofs.YtnboahlopghcjaaGreatDoor
namespace Go.Proofs.YtnboahlopghcjaaGreatDoor
open Go.Proofs.Tryz
open Go Go.bp
def iu.k:List Nat:= [28,29,30,31,32]
def iu.q1(K:KT):aJ:=(aK 0 (bY (sR (sR (sR (sR (sR (sR (sR (sR (body Tryz.f3)))))))))++(aO Tryz.f3)) (bN (fun bS w_=>match cutAt iu.k (sR (sR (sR (sR (sR (sR (sR (sR (body Tryz.f3)))))))))with|true=>Holds none [] prog 215 (sR (sR (sR (sR (sR (sR (sR (sR (body Tryz.f3))))))))) (bG prog Tryz.f3 K) bS w_|false=>aT none [] prog 215 iu.k (sR (sR (sR (sR (sR (sR (sR (sR (body Tryz.f3))))))))) (aO Tryz.f3) (bG prog Tryz.f3 K) bS w_) (bG prog Tryz.f3 K)))
section
variable(a:Int)(b:AV)(d:OA)(e:Nat)(f:Nat)(g:OA)(i:Nat)(j:Nat)(K:KT)(w:World)
variable{a b d e f g i j K w}
end
section
variable(a:OA)(b:Nat)(c:Nat)(d:Bool)(e:OA)(f:OA)(g:OA)(i:OA)(j:Nat)(k:Nat)(m:Int)(Q:aJ)(w:World)
variable{a b c e f g}
end
section
variable(a:OA)(b:Nat)(c:Nat)(d:Bool)(e:OA)(f:OA)(g:OA)(i:OA)(j:Nat)(k:Nat)(m:Int)(K:KT)(w:World)
end
section
variable(a:OA)(b:Nat)(c:Nat)(d:Bool)(e:OA)(f:OA)(g:OA)(i:OA)(j:Nat)(k:Nat)(m:Int)(n:OA)(o:Nat)(p:Nat)(q:Int)(Q:aJ)(w:World)
variable{a b c d e f g i j k m}
end
section
variable(a:OA)(b:Nat)(c:Nat)(d:Bool)(e:OA)(f:OA)(g:OA)(i:OA)(j:Nat)(k:Nat)(m:Int)(n:OA)(o:Nat)(p:Nat)(q:Int)(Q:aJ)(w:World)
end
section
variable(a:OA)(b:Nat)(c:Nat)(d:Bool)(e:OA)(f:OA)(g:OA)(i:OA)(j:Nat)(k:Nat)(m:Int)(n:OA)(o:Nat)(p:Nat)(q:Int)(Q:aJ)(w:World)
variable{a b c d e f g i j k m n o p q Q w}
end
section
variable(a:OA)(b:Nat)(c:Nat)(d:Bool)(e:OA)(f:OA)(g:OA)(i:OA)(j:Nat)(k:Nat)(m:Int)(n:Int)(Q:aJ)(w:World)
variable{a b c d e f g i j k m n Q w}
end
section
variable(a:OA)(b:Nat)(c:Nat)(d:Bool)(e:OA)(f:OA)(g:OA)(i:OA)(j:Nat)(k:Nat)(m:Int)(n:Int)(o:Addr)(Q:aJ)(w:World)
variable{a b c d e f g i j k m n o Q w}
end
section
variable(a:OA)(b:Nat)(c:Nat)(d:Bool)(e:OA)(f:OA)(g:OA)(i:OA)(j:Nat)(k:Nat)(m:Int)(n:Addr)(o:Addr)(p:Int)(Q:aJ)(w:World)
variable{a b c d e f g i j k m n o p Q w}
end
section
variable(a:OA)(b:Nat)(c:Nat)(d:Bool)(e:OA)(f:OA)(g:OA)(i:OA)(j:Nat)(k:Nat)(m:Int)(n:Addr)(o:Addr)(p:Int)(q:Addr)(r:Int)(Q:aJ)(w:World)
variable{a b c d e f g i j k m n o p q r Q w}
end
section
variable(a:OA)(b:Nat)(c:Nat)(d:Bool)(e:OA)(f:OA)(g:OA)(i:OA)(j:Nat)(k:Nat)(m:Int)(n:OA)(o:Nat)(p:Nat)(q:Int)(r:Bool)(t:OA)(u:Nat)(v:Nat)(x:Int)(Q:aJ)(w:World)
variable{a b c d e f g i j k m n o p q t u v}
end
section
variable(a:OA)(b:Nat)(c:Nat)(d:Bool)(e:OA)(f:OA)(g:OA)(i:OA)(j:Nat)(k:Nat)(m:Int)(n:OA)(o:Nat)(p:Nat)(q:Int)(r:Bool)(t:OA)(u:Nat)(v:Nat)(x:Int)(Q:aJ)(w:World)
end
section
variable(a:Int)(b:AV)(d:OA)(e:Nat)(f:Nat)(g:AV)(i:OA)(j:Nat)(k:Nat)(K:KT)(w:World)
variable{a b d e f g i j k K w}
end
section
variable(a:OA)(b:Nat)(c:Nat)(d:Addr)(e:OA)(f:OA)(g:Addr)(i:Int)(K:KT)(w:World)
variable{a b c d e f g i K w}
end
section
variable(a:OA)(b:Nat)(c:Nat)(d:Addr)(e:Bool)(f:OA)(g:OA)(i:Int)(Q:aJ)(w:World)
variable{a b c d f g}
end
section
variable(a:OA)(b:Nat)(c:Nat)(d:Addr)(e:Bool)(f:OA)(g:OA)(i:Int)(K:KT)(w:World)
end
section
variable(a:Int)(b:AV)(d:OA)(e:Nat)(f:Nat)(K:KT)(w:World)
variable{a b d e f K w}
end
section
variable(a:Int)(b:Bool)(c:OA)(d:OA)(e:Int)(Q:aJ)(w:World)
variable{a c d}
end
section
variable(a:Int)(b:Bool)(c:OA)(d:OA)(e:Int)(K:KT)(w:World)
end
section
variable(a:Int)(b:Bool)(c:OA)(d:OA)(e:Int)(f:Addr)(g:OA)(i:Nat)(j:Nat)(k:Addr)(m:Int)(Q:aJ)(w:World)
variable{a c d e f g i j k}
end
section
variable(a:Int)(b:Bool)(c:OA)(d:OA)(e:Int)(f:Addr)(g:OA)(i:Nat)(j:Nat)(k:Addr)(m:Int)(Q:aJ)(w:World)
end
section
variable(a:Int)(b:Bool)(c:OA)(d:OA)(e:Int)(f:Addr)(g:OA)(i:Nat)(j:Nat)(k:Addr)(m:Int)(n:Int)(o:Int)(Q:aJ)(w:World)
variable{a b c d e f g i j k m}
end
section
variable(a:Int)(b:Bool)(c:OA)(d:OA)(e:Int)(f:Addr)(g:OA)(i:Nat)(j:Nat)(k:Addr)(m:Int)(n:Int)(o:Int)(Q:aJ)(w:World)
end
section
variable(a:Int)(b:Bool)(c:OA)(d:OA)(e:Int)(f:Addr)(g:OA)(i:Nat)(j:Nat)(k:Int)(Q:aJ)(w:World)
variable{a c d e f g i j}
end
section
variable(a:Int)(b:Bool)(c:OA)(d:OA)(e:Int)(f:Addr)(g:OA)(i:Nat)(j:Nat)(k:Int)(Q:aJ)(w:World)
end
section
variable(a:Int)(b:Bool)(c:OA)(d:OA)(e:Int)(f:Addr)(g:Int)(Q:aJ)(w:World)
variable{a c d e f}
end
section
variable(a:Int)(b:Bool)(c:OA)(d:OA)(e:Int)(f:Addr)(g:Int)(Q:aJ)(w:World)
end
section
variable(a:Int)(b:AV)(d:OA)(e:Nat)(f:Nat)(K:KT)(w:World)
variable{a b d e f K w}
end
section
variable(a:Bool)(b:OA)(c:OA)(d:Int)(Q:aJ)(w:World)
variable{b c}
end
section
variable(a:Bool)(b:OA)(c:OA)(d:Int)(K:KT)(w:World)
end
section
variable(a:Bool)(b:OA)(c:OA)(d:Int)(e:Addr)(f:OA)(g:Nat)(i:Nat)(j:Int)(Q:aJ)(w:World)
variable{b c d e f g i}
end
section
variable(a:Bool)(b:OA)(c:OA)(d:Int)(e:Addr)(f:OA)(g:Nat)(i:Nat)(j:Int)(Q:aJ)(w:World)
end
section
variable(a:Int)(b:AV)(d:OA)(e:Nat)(f:Nat)(g:OA)(i:Nat)(j:Nat)(k:OA)(m:Nat)(n:Nat)(K:KT)(w:World)
variable{a b d e f g i j k m n K w}
end
section
variable(a:OA)(b:Nat)(c:Nat)(d:OA)(e:Nat)(f:Nat)(g:OA)(i:OA)(j:OA)(k:OA)(m:OA)(n:OA)(o:Int)(Q:aJ)(w:World)
variable{a b c d e f g i j k m n}
end
section
variable(a:OA)(b:Nat)(c:Nat)(d:OA)(e:Nat)(f:Nat)(g:OA)(i:OA)(j:OA)(k:OA)(m:OA)(n:OA)(o:Int)(K:KT)(w:World)
end
section
variable(a:OA)(b:Nat)(c:Nat)(d:OA)(e:Nat)(f:Nat)(g:OA)(i:OA)(j:OA)(k:OA)(m:OA)(n:OA)(o:Int)(p:Addr)(q:Int)(Q:aJ)(w:World)
variable{a b c d e f g i j k m n o p}
end
section
variable(a:OA)(b:Nat)(c:Nat)(d:OA)(e:Nat)(f:Nat)(g:OA)(i:OA)(j:OA)(k:OA)(m:OA)(n:OA)(o:Int)(p:Addr)(q:Int)(Q:aJ)(w:World)
end
section
variable(a:OA)(b:Nat)(c:Nat)(d:OA)(e:OA)(f:OA)(g:OA)(i:OA)(j:OA)(k:Int)(Q:aJ)(w:World)
variable{a b c d e f g i j}
end
section
variable(a:OA)(b:Nat)(c:Nat)(d:OA)(e:OA)(f:OA)(g:OA)(i:OA)(j:OA)(k:Int)(K:KT)(w:World)
end
section
variable(a:Bool)(b:OA)(c:OA)(d:OA)(e:OA)(f:OA)(g:OA)(i:Int)(Q:aJ)(w:World)
variable{b c d e f g}
end
section
variable(a:Bool)(b:OA)(c:OA)(d:OA)(e:OA)(f:OA)(g:OA)(i:Int)(K:KT)(w:World)
end
section
variable(a:Bool)(b:OA)(c:OA)(d:OA)(e:OA)(f:OA)(g:Int)(Q:aJ)(w:World)
variable{b c d e f}
end
section
variable(a:Bool)(b:OA)(c:OA)(d:OA)(e:OA)(f:OA)(g:Int)(K:KT)(w:World)
end
def aU.k:List Nat:= []
def aU.q1(K:KT):aJ:=(aK 0 (bY (sR (sR (sR (sR (body f8)))))++(aO f8)) (bN (fun bS w_=>match cutAt aU.k (sR (sR (sR (sR (body f8)))))with|true=>Holds none [] prog 138 (sR (sR (sR (sR (body f8))))) (bG prog f8 K) bS w_|false=>aT none [] prog 138 aU.k (sR (sR (sR (sR (body f8))))) (aO f8) (bG prog f8 K) bS w_) (bG prog f8 K)))
def aU.e1(a:OA)(b:Nat)(c:Nat)(s:Bool×Int):Env:= [(0,.bool s.1),(2,.slice a b c),(3,.int .i64 s.2)]
def aU.u1:List Nat:= [0,2,3]
section
variable(K:KT)(w:World)
def aU.W:Prop:=
 let a:=w.alloc (.cells (#[.int .i64 0,.pointer none,.map none]:AV) 82);let b:=a.alloc (.cells #[.pointer none,.pointer (some (⟨w.heap.size,0,none⟩:Addr))] 28);Holds none [] prog 138 (.loop (lB (bB (sR (sL (sR (sR (sR (body f8))))))))) (aU.q1 K) [(0,.bool false),(2,.slice (some (⟨a.heap.size,0,none⟩:Addr)) 2 2),(3,.int .i64 0)] b
variable{K w}
theorem aU.of(h:aU.W K w):aY prog 8 #[] w K:=
 aH (C:=aU.k) (c:=body f8) ng mix func8 (by kernel_rfl) (by kernel_rfl) (by kernel_rfl) h
end
section
variable(a:Bool)(b:OA)(c:Nat)(d:Nat)(e:Int)(Q:aJ)(w:World)
def aU.B1:Prop:=
 Split (decide (e<(c:Int))) ((0<=e/\e<(c:Int))/\Is b fun f:Addr=> ∃g:OA,w.cell? (f.add (e.toNat*1))=some (.pointer g)/\let i:=w.alloc (.cells zH 23);(zH.size=32/\(∀j∈zH.toList,j.oneCell'=true)/\ ∀k,k<32->Wr i ((⟨w.heap.size,0,none⟩:Addr).add k))/\let m:=setCells i (⟨w.heap.size,0,none⟩:Addr) zH.toList 0;∃n:AV,(n.size=32/\Cells m (⟨w.heap.size,0,none⟩:Addr) n)/\ ∃o:AV,(o.size=32/\Cells m (⟨w.heap.size,0,none⟩:Addr) o)/\o.size=32/\let p:=m.alloc (.cells (o.toList++ []).toArray 23);aY prog 14 #[.pointer g,.agg n,.slice (some (⟨m.heap.size,0,none⟩:Addr)) 1 1] p fun q r=> ∃t:AV,∃u:Int,q=.tuple #[.agg t,.int .i64 u]/\let v:=r.alloc (.cells zC 52);(t.size=35/\(∀x∈t.toList,x.oneCell'=true)/\ ∀y,y<35->Wr v ((⟨r.heap.size,0,none⟩:Addr).add y))/\let z:=setCells v (⟨r.heap.size,0,none⟩:Addr) t.toList 0;∃a1:AV,(a1.size=32/\Cells z (⟨w.heap.size,0,none⟩:Addr) a1)/\aY prog 15 #[.pointer g,.agg a1] z fun b1 c1=> ∃d1:AV,∃e1:Int,b1=.tuple #[.agg d1,.int .i64 e1]/\let f1:=c1.alloc (.cells zC 52);(d1.size=35/\(∀g1∈d1.toList,g1.oneCell'=true)/\ ∀i1,i1<35->Wr f1 ((⟨c1.heap.size,0,none⟩:Addr).add i1))/\let j1:=setCells f1 (⟨c1.heap.size,0,none⟩:Addr) d1.toList 0;∃k1:AV,(k1.size=32/\Cells j1 (⟨w.heap.size,0,none⟩:Addr) k1)/\k1.size=32/\let m1:=j1.alloc (.cells (k1.toList++ []).toArray 23);aY prog 18 #[.pointer g,.slice (some (⟨j1.heap.size,0,none⟩:Addr)) 1 1] m1 fun n1 o1=> ∃p1:AV,∃q1:Int,n1=.tuple #[.agg p1,.int .i64 q1]/\let r1:=o1.alloc (.cells zH 23);(p1.size=32/\(∀t1∈p1.toList,t1.oneCell'=true)/\ ∀u1,u1<32->Wr r1 ((⟨o1.heap.size,0,none⟩:Addr).add u1))/\let v1:=setCells r1 (⟨o1.heap.size,0,none⟩:Addr) p1.toList 0;∃x1:AV,(x1.size=32/\Cells v1 (⟨w.heap.size,0,none⟩:Addr) x1)/\aY prog 17 #[.pointer g,.agg x1,.slice none 0 0] v1 fun y1 z1=> ∃a2:AV,∃b2:Int,y1=.tuple #[.agg a2,.int .i64 b2]/\let c2:=z1.alloc (.cells zC 52);(a2.size=35/\(∀d2∈a2.toList,d2.oneCell'=true)/\ ∀e2,e2<35->Wr c2 ((⟨z1.heap.size,0,none⟩:Addr).add e2))/\let f2:=setCells c2 (⟨z1.heap.size,0,none⟩:Addr) a2.toList 0;∃g2:AV,(g2.size=32/\Cells f2 (⟨w.heap.size,0,none⟩:Addr) g2)/\aY prog 24 #[.pointer g,.agg g2] f2 fun i2 j2=> ∃k2:OA,∃m2:Nat,∃n2:Nat,∃o2:Int,i2=.tuple #[.slice k2 m2 n2,.int .i64 o2]/\Split (u != (1:Int)) (Q .ret [(0,.bool false),(2,.slice b c d),(3,.int .i64 e)] j2) (Split (e1 != (1:Int)) (Q .ret [(0,.bool false),(2,.slice b c d),(3,.int .i64 e)] j2) (Split (q1 != (1:Int)) (Q .ret [(0,.bool false),(2,.slice b c d),(3,.int .i64 e)] j2) (Split (b2 != (1:Int)) (Q .ret [(0,.bool false),(2,.slice b c d),(3,.int .i64 e)] j2) (Split (o2 != (1:Int)) (Q .ret [(0,.bool false),(2,.slice b c d),(3,.int .i64 e)] j2) (∃p2:AV,(p2.size=32/\Cells j2 (⟨w.heap.size,0,none⟩:Addr) p2)/\ ∃q2:AV,(q2.size=32/\Cells j2 (⟨w.heap.size,0,none⟩:Addr) q2)/\aY prog 30 #[.pointer g,.agg p2,.agg q2] j2 fun r2 t2=> ∃u2:Bool,r2=.bool u2/\Split u2 (Q .ret [(0,.bool false),(2,.slice b c d),(3,.int .i64 e)] t2) (aY prog 31 #[.pointer g] t2 fun v2 x2=> ∃y2:OA,v2=.pointer y2/\Split (!(y2).isNone) (Q .ret [(0,.bool false),(2,.slice b c d),(3,.int .i64 e)] x2) (aY prog 29 #[.pointer g] x2 fun z2 a3=> ∃b3:Int,z2=.int .i64 b3/\Split (b3 != (0:Int)) (Q .ret [(0,.bool false),(2,.slice b c d),(3,.int .i64 e)] a3) (aY prog 34 #[.pointer g] a3 fun c3 d3=> ∃e3:OA,c3=.pointer e3/\Split (!(e3).isNone) (Q .ret [(0,.bool false),(2,.slice b c d),(3,.int .i64 e)] d3) (Q .normal [(0,.bool a),(2,.slice b c d),(3,.int .i64 (IntKind.i64.wrap (e+(1:Int))))] d3)))))))))) (Q (.exit 0) [(0,.bool a),(2,.slice b c d),(3,.int .i64 e)] w)
theorem aU.b1:(aT none [] prog 138 aU.k (lB (bB (sR (sL (sR (sR (sR (body f8)))))))) aU.u1 Q [(0,.bool a),(2,.slice b c d),(3,.int .i64 e)] w)=aU.B1 a b c d e Q w:=by kernel_rfl
variable{b c d}
theorem aU.bU(I:Bool×Int->World->Prop)(μ:Bool×Int->World->Nat)(s:Bool×Int){Q:aJ}{w:World}(h0:I s w)
 (round: ∀s w,I s w->aU.B1 (s.1) b c d (s.2) (bF (aU.e1 b c d) I μ s w Q) w):Holds none [] prog 138 (.loop (lB (bB (sR (sL (sR (sR (sR (body f8))))))))) Q (aU.e1 b c d s) w:=
 ba ng mix (aU.e1 b c d) I μ aU.k aU.u1 s (fun s Q w=>aU.B1 (s.1) b c d (s.2) Q w) (fun s Q w=>aU.b1 (s.1) b c d (s.2) Q w) h0 round
end
section
def aU.cW(a:Bool)(b:OA)(c:Nat)(d:Nat)(e:Int)(K:KT)(w:World):Prop:=
 aY prog 12 #[.int .i64 (-1),.agg zH] w fun f g=> ∃i:OA,∃j:Int,f=.tuple #[.pointer i,.int .i64 j]/\aY prog 12 #[.int .i64 101,.agg zH] g fun k m=> ∃n:OA,∃o:Int,k=.tuple #[.pointer n,.int .i64 o]/\aY prog 12 #[.int .i64 100,.agg zH] m fun p q=> ∃r:OA,∃t:Int,p=.tuple #[.pointer r,.int .i64 t]/\Split (j==(2:Int)) (Split (o==(2:Int)) (Split (t==(0:Int)) (Split (!(r).isNone) (aY prog 10 #[] q fun u v=> ∃x:Bool,u=.bool x/\K (.bool x) v) (K (.bool false) q)) (K (.bool false) q)) (K (.bool false) q)) (K (.bool false) q)
variable(a:Bool)(b:OA)(c:Nat)(d:Nat)(e:Int)(K:KT)(w:World)
theorem aU.dD:(aU.q1 K (.exit 0) [(0,.bool a),(2,.slice b c d),(3,.int .i64 e)] w)=aU.cW a b c d e K w:=by kernel_rfl
end
end Go.Proofs.YtnboahlopghcjaaGreatDoor
