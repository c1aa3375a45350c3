import Derived.Test.YtfleamccglihoaaGreatDoorProg
import Derived.Test.YtfleamccglihoaaGreatDoorMA
import Derived.Test.YtfleamccglihoaaGreatDoorMB
open Go.IntKind (i64 u64)
set_option linter.unusedVariables false
namespace Go.Proofs.YtfleamccglihoaaGreatDoor
open Go.Proofs.Tryz
open Go Go.cF
def eB.k:List Nat:= []
section
variable(a b:OA)(d e:Nat)(K:KT)(w:World)
def eB.W:Prop:=
 let f:=w.alloc (.cells zH 24);bJ prog 71 #[au a,ao b d e] f λg i=>∃j:Int,g=ag j/\Split (j != (0:Int)) ((zH.size=32/\(∀k∈zH.toList,k.oneCell'=true)/\∀m,m<32->Wr i ((aU w.heap.size).add m))/\let n:=setCells i (aU w.heap.size) zH.toList 0;∃o:AV,cS n (aU w.heap.size) o/\K (.tuple #[.agg o,ag j]) n) (bJ prog 72 #[ao b d e,.func (.func 73) #[au a] #[]] i λp q=>∃r:AV,p=.agg r/\(r.size=32/\(∀t∈r.toList,t.oneCell'=true)/\∀u,u<32->Wr q ((aU w.heap.size).add u))/\let v:=setCells q (aU w.heap.size) r.toList 0;∃x:AV,cS v (aU w.heap.size) x/\K (.tuple #[.agg x,ag 0]) v)
variable{a b d e K w}
theorem eB.of(h:eB.W a b d e K w):bJ prog 21 #[au a,ao b d e] w K:=
 rqq func21 (C:=eB.k) h
end
def eW.k:List Nat:= []
section
variable(a:OA)(b:AV)(d:OA)(e f:Nat)(K:KT)(w:World)
def eW.W:Prop:=
 let g:=w.alloc (.cells b 24);let i:=g.alloc (.cells zC 53);bJ prog 82 #[au a] i λj k=>∃m:Bool,j=.bool m/\Split (!m) ((zC.size=35/\(∀n∈zC.toList,n.oneCell'=true)/\∀o,o<35->Wr k ((aU g.heap.size).add o))/\let p:=setCells k (aU g.heap.size) zC.toList 0;∃q:AV,(q.size=35/\Cells p (aU g.heap.size) q)/\K (.tuple #[.agg q,ag 1]) p) (let r:=k.drew;Is a λt:Addr=>∃u:Option Nat,r.cell? (t.add 2)=some (.map u)/\∃v:AV,cS r (aU w.heap.size) v/\∃x:OA,(Instr.lookup 63 (.map u) (.agg v) false).run prog r=.ok (au x) r/\Split (!(x).isNone) ((zC.size=35/\(∀y∈zC.toList,y.oneCell'=true)/\∀z,z<35->Wr r ((aU g.heap.size).add z))/\let a1:=setCells r (aU g.heap.size) zC.toList 0;∃b1:AV,(b1.size=35/\Cells a1 (aU g.heap.size) b1)/\K (.tuple #[.agg b1,ag 7]) a1) (Split ((e:Int)==(0:Int)) ((zC.size=35/\(∀c1∈zC.toList,c1.oneCell'=true)/\∀d1,d1<35->Wr r ((aU g.heap.size).add d1))/\let e1:=setCells r (aU g.heap.size) zC.toList 0;∃f1:AV,(f1.size=35/\Cells e1 (aU g.heap.size) f1)/\K (.tuple #[.agg f1,ag 9]) e1) (bJ prog 57 #[ao d e f] r λg1 i1=>∃j1:OA,∃k1 m1:Nat,g1=ao j1 k1 m1/\Split ((k1:Int) != (e:Int)) ((zC.size=35/\(∀n1∈zC.toList,n1.oneCell'=true)/\∀o1,o1<35->Wr i1 ((aU g.heap.size).add o1))/\let p1:=setCells i1 (aU g.heap.size) zC.toList 0;∃q1:AV,(q1.size=35/\Cells p1 (aU g.heap.size) q1)/\K (.tuple #[.agg q1,ag 9]) p1) (bJ prog 21 #[au a,ao d e f] i1 λr1 t1=>∃u1:AV,∃v1:Int,r1=.tuple #[.agg u1,ag v1]/\let x1:=t1.alloc (.cells zH 24);(u1.size=32/\(∀y1∈u1.toList,y1.oneCell'=true)/\∀z1,z1<32->Wr x1 ((aU t1.heap.size).add z1))/\let a2:=setCells x1 (aU t1.heap.size) u1.toList 0;Split (v1 != (0:Int)) ((zC.size=35/\(∀b2∈zC.toList,b2.oneCell'=true)/\∀c2,c2<35->Wr a2 ((aU g.heap.size).add c2))/\let d2:=setCells a2 (aU g.heap.size) zC.toList 0;∃e2:AV,(e2.size=35/\Cells d2 (aU g.heap.size) e2)/\K (.tuple #[.agg e2,ag v1]) d2) (∃f2:AV,cS a2 (aU t1.heap.size) f2/\bJ prog 83 #[au a,.agg f2,ao d e f] a2 λg2 i2=>∃j2:OA,g2=au j2/\let k2:=i2.drew;Is a λm2:Addr=>∃n2:OA,k2.cell? (m2.add 1)=some (au n2)/\∃o2:AV,cS k2 (aU w.heap.size) o2/\∃p2:AV,cS k2 (aU t1.heap.size) p2/\bJ prog 84 #[au n2,.agg o2,.agg p2,ao d e f] k2 λq2 r2=>∃t2:Int,q2=ag t2/\let u2:=r2.drew;Is a λv2:Addr=>∃x2:Option Nat,u2.cell? (v2.add 2)=some (.map x2)/\∃y2:AV,cS u2 (aU w.heap.size) y2/\∃z2:World,(Instr.mapUpdate 63 (.map x2) (.agg y2) (au j2)).run prog u2=.ok () z2/\Is j2 λa3:Addr=>∃b3:AV,(b3.size=35/\Cells z2 (a3.add 0) b3)/\bJ prog 85 #[.agg b3] z2 λc3 d3=>∃e3:AV,c3=.agg e3/\(e3.size=35/\(∀f3∈e3.toList,f3.oneCell'=true)/\∀g3,g3<35->Wr d3 ((aU g.heap.size).add g3))/\let i3:=setCells d3 (aU g.heap.size) e3.toList 0;∃j3:AV,(j3.size=35/\Cells i3 (aU g.heap.size) j3)/\K (.tuple #[.agg j3,ag 0]) i3)))))
variable{a b d e f K w}
theorem eW.of(h:eW.W a b d e f K w):bJ prog 41 #[au a,.agg b,ao d e f] w K:=
 rqq func41 (C:=eW.k) h
end
def jI.k:List Nat:= []
section
variable(a:Int)(b:AV)(K:KT)(w:World)
def jI.W:Prop:=
 let d:=w.alloc (.cells b 24);Split (decide (a<(0:Int))) (K (.tuple #[au none,ag 2]) d) (Split (decide (a>(100:Int))) (K (.tuple #[au none,ag 2]) d) (let e:=d.drew;∃f:AV,cS e (aU w.heap.size) f/\∃g:AV,cS e (aU w.heap.size) g/\(bJ prog 86 #[.agg f] e λi j=>∃k:OA,i=au k/\(∃cs:AV,(.agg g:Value)=.agg cs/\cs.size=32/\Cells j (aU w.heap.size) cs)/\(let m:=j.alloc (.map #[] 0);(∃cs:AV,(.agg g:Value)=.agg cs/\cs.size=32/\Cells m (aU w.heap.size) cs)/\let n:=m.alloc (.cells zS 129);(∃cs:AV,(.agg g:Value)=.agg cs/\cs.size=32/\Cells n (aU w.heap.size) cs)/\∃o:World,(Instr.mapUpdate 63 (.map (some j.heap.size)) (.agg g) (au (some (aU m.heap.size)))).run prog n=.ok () o/\let p:=o.alloc (.cells (#[ag a,au k,.map (some j.heap.size)]:AV) 65);K (.tuple #[au (some (aU o.heap.size)),ag 0]) p)/\(let q:=j.alloc (.cells zS 129);(∃cs:AV,(.agg g:Value)=.agg cs/\cs.size=32/\Cells q (aU w.heap.size) cs)/\let r:=q.alloc (.map #[] 0);(∃cs:AV,(.agg g:Value)=.agg cs/\cs.size=32/\Cells r (aU w.heap.size) cs)/\∃t:World,(Instr.mapUpdate 63 (.map (some q.heap.size)) (.agg g) (au (some (aU j.heap.size)))).run prog r=.ok () t/\let u:=t.alloc (.cells (#[ag a,au k,.map (some q.heap.size)]:AV) 65);K (.tuple #[au (some (aU t.heap.size)),ag 0]) u))/\(let v:=e.alloc (.map #[] 0);(∃cs:AV,(.agg g:Value)=.agg cs/\cs.size=32/\Cells v (aU w.heap.size) cs)/\(∃cs:AV,(.agg f:Value)=.agg cs/\cs.size=32/\Cells v (aU w.heap.size) cs)/\(bJ prog 86 #[.agg f] v λx y=>∃z:OA,x=au z/\(∃cs:AV,(.agg g:Value)=.agg cs/\cs.size=32/\Cells y (aU w.heap.size) cs)/\let a1:=y.alloc (.cells zS 129);(∃cs:AV,(.agg g:Value)=.agg cs/\cs.size=32/\Cells a1 (aU w.heap.size) cs)/\∃b1:World,(Instr.mapUpdate 63 (.map (some e.heap.size)) (.agg g) (au (some (aU y.heap.size)))).run prog a1=.ok () b1/\let c1:=b1.alloc (.cells (#[ag a,au z,.map (some e.heap.size)]:AV) 65);K (.tuple #[au (some (aU b1.heap.size)),ag 0]) c1)/\(let d1:=v.alloc (.cells zS 129);(∃cs:AV,(.agg g:Value)=.agg cs/\cs.size=32/\Cells d1 (aU w.heap.size) cs)/\(∃cs:AV,(.agg f:Value)=.agg cs/\cs.size=32/\Cells d1 (aU w.heap.size) cs)/\(bJ prog 86 #[.agg f] d1 λe1 f1=>∃g1:OA,e1=au g1/\(∃cs:AV,(.agg g:Value)=.agg cs/\cs.size=32/\Cells f1 (aU w.heap.size) cs)/\∃i1:World,(Instr.mapUpdate 63 (.map (some e.heap.size)) (.agg g) (au (some (aU v.heap.size)))).run prog f1=.ok () i1/\let j1:=i1.alloc (.cells (#[ag a,au g1,.map (some e.heap.size)]:AV) 65);K (.tuple #[au (some (aU i1.heap.size)),ag 0]) j1)/\(∃k1:World,(Instr.mapUpdate 63 (.map (some e.heap.size)) (.agg g) (au (some (aU v.heap.size)))).run prog d1=.ok () k1/\(∃cs:AV,(.agg f:Value)=.agg cs/\cs.size=32/\Cells k1 (aU w.heap.size) cs)/\bJ prog 86 #[.agg f] k1 λm1 n1=>∃o1:OA,m1=au o1/\let p1:=n1.alloc (.cells (#[ag a,au o1,.map (some e.heap.size)]:AV) 65);K (.tuple #[au (some (aU n1.heap.size)),ag 0]) p1)))/\(let q1:=e.alloc (.cells zS 129);(∃cs:AV,(.agg g:Value)=.agg cs/\cs.size=32/\Cells q1 (aU w.heap.size) cs)/\(∃cs:AV,(.agg f:Value)=.agg cs/\cs.size=32/\Cells q1 (aU w.heap.size) cs)/\(bJ prog 86 #[.agg f] q1 λr1 t1=>∃u1:OA,r1=au u1/\(∃cs:AV,(.agg g:Value)=.agg cs/\cs.size=32/\Cells t1 (aU w.heap.size) cs)/\let v1:=t1.alloc (.map #[] 0);(∃cs:AV,(.agg g:Value)=.agg cs/\cs.size=32/\Cells v1 (aU w.heap.size) cs)/\∃x1:World,(Instr.mapUpdate 63 (.map (some t1.heap.size)) (.agg g) (au (some (aU e.heap.size)))).run prog v1=.ok () x1/\let y1:=x1.alloc (.cells (#[ag a,au u1,.map (some t1.heap.size)]:AV) 65);K (.tuple #[au (some (aU x1.heap.size)),ag 0]) y1)/\(let z1:=q1.alloc (.map #[] 0);(∃cs:AV,(.agg g:Value)=.agg cs/\cs.size=32/\Cells z1 (aU w.heap.size) cs)/\(∃cs:AV,(.agg f:Value)=.agg cs/\cs.size=32/\Cells z1 (aU w.heap.size) cs)/\(bJ prog 86 #[.agg f] z1 λa2 b2=>∃c2:OA,a2=au c2/\(∃cs:AV,(.agg g:Value)=.agg cs/\cs.size=32/\Cells b2 (aU w.heap.size) cs)/\∃d2:World,(Instr.mapUpdate 63 (.map (some q1.heap.size)) (.agg g) (au (some (aU e.heap.size)))).run prog b2=.ok () d2/\let e2:=d2.alloc (.cells (#[ag a,au c2,.map (some q1.heap.size)]:AV) 65);K (.tuple #[au (some (aU d2.heap.size)),ag 0]) e2)/\(∃f2:World,(Instr.mapUpdate 63 (.map (some q1.heap.size)) (.agg g) (au (some (aU e.heap.size)))).run prog z1=.ok () f2/\(∃cs:AV,(.agg f:Value)=.agg cs/\cs.size=32/\Cells f2 (aU w.heap.size) cs)/\bJ prog 86 #[.agg f] f2 λg2 i2=>∃j2:OA,g2=au j2/\let k2:=i2.alloc (.cells (#[ag a,au j2,.map (some q1.heap.size)]:AV) 65);K (.tuple #[au (some (aU i2.heap.size)),ag 0]) k2)))))
variable{a b K w}
theorem jI.of(h:jI.W a b K w):bJ prog 42 #[ag a,.agg b] w K:=
 rqq func42 (C:=jI.k) h
end
def fK.k:List Nat:= []
section
variable(a:OA)(K:KT)(w:World)
def fK.W:Prop:=
 Split ((a).isNone) (K (au none) w) (Is a λb:Addr=>∃d:OA,w.cell? (b.add 1)=some (au d)/\K (au d) w)
variable{a K w}
theorem fK.of(h:fK.W a K w):bJ prog 45 #[au a] w K:=
 rqq func45 (C:=fK.k) h
end
def fy.k:List Nat:= []
section
variable(a:OA)(b d:AV)(K:KT)(w:World)
def fy.W:Prop:=
 let e:=w.alloc (.cells b 24);let f:=e.alloc (.cells d 24);let g:=f.alloc (.cells zH 24);let i:=g.drew;bJ prog 82 #[au a] i λj k=>∃m:Bool,j=.bool m/\Split (!m) (∃n:AV,cS k (aU w.heap.size) n/\(n.size=32/\(∀o∈n.toList,o.oneCell'=true)/\∀p,p<32->Wr k ((aU f.heap.size).add p))/\let q:=setCells k (aU f.heap.size) n.toList 0;∃r:AV,cS q (aU f.heap.size) r/\K (.agg r) q) (Is a λt:Addr=>∃u:Option Nat,k.cell? (t.add 2)=some (.map u)/\∃v:AV,cS k (aU e.heap.size) v/\∃x:OA,(Instr.lookup 63 (.map u) (.agg v) false).run prog k=.ok (au x) k/\Split ((x).isNone) (∃y:AV,cS k (aU w.heap.size) y/\(y.size=32/\(∀z∈y.toList,z.oneCell'=true)/\∀a1,a1<32->Wr k ((aU f.heap.size).add a1))/\let b1:=setCells k (aU f.heap.size) y.toList 0;∃c1:AV,cS b1 (aU f.heap.size) c1/\K (.agg c1) b1) (let d1:=k.drew;Is a λe1:Addr=>∃f1:Option Nat,d1.cell? (e1.add 2)=some (.map f1)/\∃g1:AV,cS d1 (aU w.heap.size) g1/\∃i1:OA,(Instr.lookup 63 (.map f1) (.agg g1) false).run prog d1=.ok (au i1) d1/\Split ((i1).isNone) (∃j1:AV,cS d1 (aU e.heap.size) j1/\(j1.size=32/\(∀k1∈j1.toList,k1.oneCell'=true)/\∀m1,m1<32->Wr d1 ((aU f.heap.size).add m1))/\let n1:=setCells d1 (aU f.heap.size) j1.toList 0;∃o1:AV,cS n1 (aU f.heap.size) o1/\K (.agg o1) n1) (∃p1:AV,cS d1 (aU w.heap.size) p1/\∃q1:AV,cS d1 (aU e.heap.size) q1/\bJ prog 73 #[au a,.agg p1,.agg q1] d1 λr1 t1=>∃u1:Int,r1=ag u1/\Split (decide (u1<(0:Int))) (∃v1:AV,cS t1 (aU e.heap.size) v1/\(v1.size=32/\(∀x1∈v1.toList,x1.oneCell'=true)/\∀y1,y1<32->Wr t1 ((aU f.heap.size).add y1))/\let z1:=setCells t1 (aU f.heap.size) v1.toList 0;∃a2:AV,cS z1 (aU f.heap.size) a2/\K (.agg a2) z1) (∃b2:AV,cS t1 (aU w.heap.size) b2/\(b2.size=32/\(∀c2∈b2.toList,c2.oneCell'=true)/\∀d2,d2<32->Wr t1 ((aU f.heap.size).add d2))/\let e2:=setCells t1 (aU f.heap.size) b2.toList 0;∃f2:AV,cS e2 (aU f.heap.size) f2/\K (.agg f2) e2))))
variable{a b d K w}
theorem fy.of(h:fy.W a b d K w):bJ prog 52 #[au a,.agg b,.agg d] w K:=
 rqq func52 (C:=fy.k) h
end
def eF.k:List Nat:= []
section
variable(a:OA)(b:AV)(d:OA)(e f:Nat)(K:KT)(w:World)
def eF.W:Prop:=
 let g:=w.alloc (.cells b 24);let i:=g.alloc (.cells zC 53);∃j:AV,cS i (aU w.heap.size) j/\j.size=32/\let k:=i.alloc (.cells (j.toList++ []).toArray 24);∃(m:OA) (n o:Nat) (p:World),(Builtin.append_ #[33,33] 33 #[ao (some (aU i.heap.size)) 1 1,ao d e f]).run prog k=.ok (ao m n o) p/\bJ prog 71 #[au a,ao m n o] p λq r=>∃t:Int,q=ag t/\Split (t != (0:Int)) ((zC.size=35/\(∀u∈zC.toList,u.oneCell'=true)/\∀v,v<35->Wr r ((aU g.heap.size).add v))/\let x:=setCells r (aU g.heap.size) zC.toList 0;∃y:AV,(y.size=35/\Cells x (aU g.heap.size) y)/\K (.tuple #[.agg y,ag t]) x) (∃z:AV,cS r (aU w.heap.size) z/\bJ prog 83 #[au a,.agg z,ao d e f] r λa1 b1=>∃c1:OA,a1=au c1/\Is c1 λd1:Addr=>∃e1:AV,(e1.size=35/\Cells b1 (d1.add 0) e1)/\(e1.size=35/\(∀f1∈e1.toList,f1.oneCell'=true)/\∀g1,g1<35->Wr b1 ((aU g.heap.size).add g1))/\let i1:=setCells b1 (aU g.heap.size) e1.toList 0;∃j1:AV,(j1.size=35/\Cells i1 (aU g.heap.size) j1)/\K (.tuple #[.agg j1,ag 0]) i1)
variable{a b d e f K w}
theorem eF.of(h:eF.W a b d e f K w):bJ prog 56 #[au a,.agg b,ao d e f] w K:=
 rqq func56 (C:=eF.k) h
end
def fN.k:List Nat:= []
section
variable(a b:OA)(d e:Nat)(K:KT)(w:World)
def fN.W:Prop:=
 let f:=w.alloc (.cells (#[au a]:AV) 28);∃g:OA,f.cell? (aU w.heap.size)=some (au g)/\bJ prog 82 #[au g] f λi j=>∃k:Bool,i=.bool k/\Split (!k) (K (ag 1) j) (Split ((d:Int)==(0:Int)) (K (ag 9) j) (bJ prog 68 #[ao b d e,.func (.func 105) #[] #[au (some (aU w.heap.size))]] j λm n=>∃o:Bool,m=.bool o/\Split o (K (ag 6) n) (K (ag 0) n)))
variable{a b d e K w}
theorem fN.of(h:fN.W a b d e K w):bJ prog 71 #[au a,ao b d e] w K:=
 rqq func71 (C:=fN.k) h
end
def dN.k:List Nat:= []
section
variable(a:OA)(b d:AV)(K:KT)(w:World)
def dN.W:Prop:=
 let e:=w.alloc (.cells b 24);let f:=e.alloc (.cells d 24);let g:=f.drew;Is a λi:Addr=>∃j:Option Nat,g.cell? (i.add 2)=some (.map j)/\∃k:AV,cS g (aU w.heap.size) k/\∃m:OA,(Instr.lookup 63 (.map j) (.agg k) false).run prog g=.ok (au m) g/\Is m λn:Addr=>∃o:Int,g.cell? ((n.add 0).add 32)=some (.int .u64 o)/\Is a λp:Addr=>∃q:Option Nat,g.cell? (p.add 2)=some (.map q)/\∃r:AV,cS g (aU e.heap.size) r/\∃t:OA,(Instr.lookup 63 (.map q) (.agg r) false).run prog g=.ok (au t) g/\Is t λu:Addr=>∃v:Int,g.cell? ((u.add 0).add 32)=some (.int .u64 v)/\∃x:AV,cS g (aU w.heap.size) x/\∃y:AV,cS g (aU e.heap.size) y/\bJ prog 107 #[.int .u64 o,.int .u64 v] g λz a1=>∃b1:Int,z=ag b1/\(∃cs:AV,(.agg y:Value)=.agg cs/\cs.size=32/\Cells a1 (aU e.heap.size) cs)/\(∃cs:AV,(.agg x:Value)=.agg cs/\cs.size=32/\Cells a1 (aU w.heap.size) cs)/\bJ prog 102 #[.agg x,.agg y] a1 λc1 d1=>∃e1:Int,c1=ag e1/\let f1:=d1.alloc (.cells #[ag b1,ag e1] 3);bJ prog 106 #[ao (some (aU d1.heap.size)) 2 2] f1 λg1 i1=>∃j1:Int,g1=ag j1/\K (ag j1) i1
variable{a b d K w}
theorem dN.of(h:dN.W a b d K w):bJ prog 73 #[au a,.agg b,.agg d] w K:=
 rqq func73 (C:=dN.k) h
end
section
variable(a:OA)(b:AV)(K:KT)(w:World)
variable{a b K w}
end
def fJ.k:List Nat:= []
section
variable(a:OA)(K:KT)(w:World)
def fJ.W:Prop:=
 Split (!(a).isNone) (Is a λb:Addr=>∃d:OA,w.cell? (b.add 1)=some (au d)/\K (.bool (!(d).isNone)) w) (K (.bool false) w)
variable{a K w}
theorem fJ.of(h:fJ.W a K w):bJ prog 82 #[au a] w K:=
 rqq func82 (C:=fJ.k) h
end
def an.k:List Nat:= []
def an.q1(K:KT):aZ:=(aW 0 (dd (dc (body f83))++(bn f83)) (cH (λcM w_=>match cutAt an.k (dc (body f83))with|true=>cO 153 (dc (body f83)) (cy prog f83 K) cM w_|false=>bz none [] prog 153 an.k (dc (body f83)) (bn f83) (cy prog f83 K) cM w_) (cy prog f83 K)))
def an.e1(a b:Addr)(c:OA)(d:Addr)(e:OA)(f g:Nat)(i s:Int):Env:= [(3,au (some a)),(4,au (some b)),(6,au c),(8,au (some d)),(46,ao e f g),(47,ag i),(48,ag s)]
def an.u1:List Nat:= [3,4,6,8,46,47,48]
def an.q2(K:KT):aZ:=(aW 2 (dd (gR (sR (body f83)))++(bn f83)) (cH (λcM w_=>match cutAt an.k (gR (sR (body f83)))with|true=>cO 153 (gR (sR (body f83))) (cy prog f83 K) cM w_|false=>bz none [] prog 153 an.k (gR (sR (body f83))) (bn f83) (cy prog f83 K) cM w_) (cy prog f83 K)))
def an.e2(a:Addr)(b:OA)(c d e f g i:Addr)(j:OA)(k m:Nat)(n s:Int):Env:= [(3,au (some a)),(6,au b),(8,au (some c)),(11,au (some d)),(12,.func (.func 112) #[] #[au (some e),au (some f),au (some g)]),(13,au (some i)),(92,ao j k m),(93,ag n),(94,ag s)]
def an.u2:List Nat:= [3,6,8,11,12,13,92,93,94]
def an.q3(Q:aZ):aZ:=(aW 4 (dd (gR (bB (sL (bf (lB (bB (sR (sL (gR (body f83))))))))))++(dd (bf (sR (lB (bB (sR (sL (gR (body f83))))))))++an.u2)) (cH (λcM w_=>match cutAt an.k (gR (bB (sL (bf (lB (bB (sR (sL (gR (body f83))))))))))with|true=>cO 153 (gR (bB (sL (bf (lB (bB (sR (sL (gR (body f83)))))))))) (aW 3 (dd (bf (sR (lB (bB (sR (sL (gR (body f83))))))))++an.u2) (cH (λcM w_=>match cutAt an.k (bf (sR (lB (bB (sR (sL (gR (body f83))))))))with|true=>cO 153 (bf (sR (lB (bB (sR (sL (gR (body f83)))))))) Q cM w_|false=>bz none [] prog 153 an.k (bf (sR (lB (bB (sR (sL (gR (body f83)))))))) an.u2 Q cM w_) Q)) cM w_|false=>bz none [] prog 153 an.k (gR (bB (sL (bf (lB (bB (sR (sL (gR (body f83)))))))))) (dd (bf (sR (lB (bB (sR (sL (gR (body f83))))))))++an.u2) (aW 3 (dd (bf (sR (lB (bB (sR (sL (gR (body f83))))))))++an.u2) (cH (λcM w_=>match cutAt an.k (bf (sR (lB (bB (sR (sL (gR (body f83))))))))with|true=>cO 153 (bf (sR (lB (bB (sR (sL (gR (body f83)))))))) Q cM w_|false=>bz none [] prog 153 an.k (bf (sR (lB (bB (sR (sL (gR (body f83)))))))) an.u2 Q cM w_) Q)) cM w_) (aW 3 (dd (bf (sR (lB (bB (sR (sL (gR (body f83))))))))++an.u2) (cH (λcM w_=>match cutAt an.k (bf (sR (lB (bB (sR (sL (gR (body f83))))))))with|true=>cO 153 (bf (sR (lB (bB (sR (sL (gR (body f83)))))))) Q cM w_|false=>bz none [] prog 153 an.k (bf (sR (lB (bB (sR (sL (gR (body f83)))))))) an.u2 Q cM w_) Q))))
def an.e3(a:Addr)(b:OA)(c d e f g i j:Addr)(k:OA)(m n:Nat)(o p:Int)(q:OA)(s:Unit):Env:= [(3,au (some a)),(6,au b),(8,au (some c)),(11,au (some d)),(12,.func (.func 112) #[] #[au (some e),au (some f),au (some g)]),(13,au (some i)),(15,au (some j)),(92,ao k m n),(93,ag o),(94,ag p),(134,au q)]
def an.u3:List Nat:= [3,6,8,11,12,13,15,92,93,94,134]
section
variable(a:OA)(b:AV)(d:OA)(e f:Nat)(K:KT)(w:World)
def an.W:Prop:=
 let g:=w.alloc (.cells (#[au a]:AV) 28);let i:=g.alloc (.cells b 24);∃j:OA,i.cell? (aU w.heap.size)=some (au j)/\Is j λk:Addr=>∃m:OA,i.cell? (k.add 1)=some (au m)/\bJ prog 46 #[au m] i λn o=>∃p:OA,n=au p/\let q:=o.drew;∃r:AV,cS q (aU g.heap.size) r/\∃t:OA,q.cell? (aU w.heap.size)=some (au t)/\Is t λu:Addr=>∃v:Option Nat,q.cell? (u.add 2)=some (.map v)/\∃x:AV,cS q (aU g.heap.size) x/\∃y:OA,(Instr.lookup 63 (.map v) (.agg x) false).run prog q=.ok (au y) q/\Is y λz:Addr=>∃a1:Int,q.cell? ((z.add 0).add 32)=some (.int .u64 a1)/\Is (prog.built 53 [(0,.agg r),(1,.int .u64 (u64.wrap (a1+(1:Int))))]) λb1:AV=>(let c1:=q.alloc (.map #[] 0);c1.cell? ((z.add 0).add 32)=some (.int .u64 a1)/\(Instr.lookup 63 (.map v) (.agg x) false).run prog c1=.ok (au y) c1/\(∃cs:AV,(.agg x:Value)=.agg cs/\cs.size=32/\Cells c1 (aU g.heap.size) cs)/\c1.cell? (u.add 2)=some (.map v)/\c1.cell? (aU w.heap.size)=some (au t)/\(∃cs:AV,(.agg r:Value)=.agg cs/\cs.size=32/\Cells c1 (aU g.heap.size) cs)/\Is (prog.built 129 [(0,.agg b1),(1,.map (some q.heap.size))]) λd1:AV=>(let e1:=c1.alloc (.cells d1 129);let f1:=e1.alloc (.cells (#[au none]:AV) 123);Wr f1 (aU e1.heap.size)/\let g1:=f1.setCell (aU e1.heap.size) (au (some (aU c1.heap.size)));bJ prog 111 #[au p,ao d e f] g1 λi1 j1=>∃k1:OA,∃m1 n1:Nat,i1=ao k1 m1 n1/\∃(o1:OA) (p1 q1:Nat) (r1:World),(Builtin.append_ #[33,33] 33 #[ao k1 m1 n1,ao d e f]).run prog j1=.ok (ao o1 p1 q1) r1/\bJ prog 57 #[ao o1 p1 q1] r1 λt1 u1=>∃v1:OA,∃x1 y1:Nat,t1=ao v1 x1 y1/\cO 153 (.loop (lB (bB (sR (sL (bf (sR (body f83)))))))) (an.q1 K) [(3,au (some (aU w.heap.size))),(4,au (some (aU g.heap.size))),(6,au none),(8,au (some (aU e1.heap.size))),(46,ao v1 x1 y1),(47,ag (x1:Int)),(48,ag 0)] u1)/\(let z1:=c1.alloc (.cells (#[au none]:AV) 123);z1.cell? ((z.add 0).add 32)=some (.int .u64 a1)/\(Instr.lookup 63 (.map v) (.agg x) false).run prog z1=.ok (au y) z1/\(∃cs:AV,(.agg x:Value)=.agg cs/\cs.size=32/\Cells z1 (aU g.heap.size) cs)/\z1.cell? (u.add 2)=some (.map v)/\z1.cell? (aU w.heap.size)=some (au t)/\(∃cs:AV,(.agg r:Value)=.agg cs/\cs.size=32/\Cells z1 (aU g.heap.size) cs)/\let a2:=z1.alloc (.cells d1 129);Wr a2 (aU c1.heap.size)/\let b2:=a2.setCell (aU c1.heap.size) (au (some (aU z1.heap.size)));bJ prog 111 #[au p,ao d e f] b2 λc2 d2=>∃e2:OA,∃f2 g2:Nat,c2=ao e2 f2 g2/\∃(i2:OA) (j2 k2:Nat) (m2:World),(Builtin.append_ #[33,33] 33 #[ao e2 f2 g2,ao d e f]).run prog d2=.ok (ao i2 j2 k2) m2/\bJ prog 57 #[ao i2 j2 k2] m2 λn2 o2=>∃p2:OA,∃q2 r2:Nat,n2=ao p2 q2 r2/\cO 153 (.loop (lB (bB (sR (sL (bf (sR (body f83)))))))) (an.q1 K) [(3,au (some (aU w.heap.size))),(4,au (some (aU g.heap.size))),(6,au none),(8,au (some (aU c1.heap.size))),(46,ao p2 q2 r2),(47,ag (q2:Int)),(48,ag 0)] o2))/\(let t2:=q.alloc (.cells (#[au none]:AV) 123);t2.cell? ((z.add 0).add 32)=some (.int .u64 a1)/\(Instr.lookup 63 (.map v) (.agg x) false).run prog t2=.ok (au y) t2/\(∃cs:AV,(.agg x:Value)=.agg cs/\cs.size=32/\Cells t2 (aU g.heap.size) cs)/\t2.cell? (u.add 2)=some (.map v)/\t2.cell? (aU w.heap.size)=some (au t)/\(∃cs:AV,(.agg r:Value)=.agg cs/\cs.size=32/\Cells t2 (aU g.heap.size) cs)/\let u2:=t2.alloc (.map #[] 0);u2.cell? ((z.add 0).add 32)=some (.int .u64 a1)/\(Instr.lookup 63 (.map v) (.agg x) false).run prog u2=.ok (au y) u2/\(∃cs:AV,(.agg x:Value)=.agg cs/\cs.size=32/\Cells u2 (aU g.heap.size) cs)/\u2.cell? (u.add 2)=some (.map v)/\u2.cell? (aU w.heap.size)=some (au t)/\(∃cs:AV,(.agg r:Value)=.agg cs/\cs.size=32/\Cells u2 (aU g.heap.size) cs)/\Is (prog.built 129 [(0,.agg b1),(1,.map (some t2.heap.size))]) λv2:AV=>let x2:=u2.alloc (.cells v2 129);Wr x2 (aU q.heap.size)/\let y2:=x2.setCell (aU q.heap.size) (au (some (aU u2.heap.size)));bJ prog 111 #[au p,ao d e f] y2 λz2 a3=>∃b3:OA,∃c3 d3:Nat,z2=ao b3 c3 d3/\∃(e3:OA) (f3 g3:Nat) (i3:World),(Builtin.append_ #[33,33] 33 #[ao b3 c3 d3,ao d e f]).run prog a3=.ok (ao e3 f3 g3) i3/\bJ prog 57 #[ao e3 f3 g3] i3 λj3 k3=>∃m3:OA,∃n3 o3:Nat,j3=ao m3 n3 o3/\cO 153 (.loop (lB (bB (sR (sL (bf (sR (body f83)))))))) (an.q1 K) [(3,au (some (aU w.heap.size))),(4,au (some (aU g.heap.size))),(6,au none),(8,au (some (aU q.heap.size))),(46,ao m3 n3 o3),(47,ag (n3:Int)),(48,ag 0)] k3)
variable{a b d e f K w}
theorem an.of(h:an.W a b d e f K w):bJ prog 83 #[au a,.agg b,ao d e f] w K:=
 rqq func83 (C:=an.k) h
end
section
variable(a b:Addr)(c:OA)(d:Addr)(e:OA)(f g:Nat)(i j:Int)(Q:aZ)(w:World)
def an.B1:Prop:=
 Split (decide (j<i)) ((0<=j/\j<(f:Int))/\Is e λk:Addr=>∃m:AV,cS w (k.add (j.toNat*32)) m/\let n:=w.alloc (.cells zH 24);(m.size=32/\(∀o∈m.toList,o.oneCell'=true)/\∀p,p<32->Wr n ((aU w.heap.size).add p))/\let q:=setCells n (aU w.heap.size) m.toList 0;let r:=q.drew;∃t:AV,cS r (aU w.heap.size) t/\∃u:AV,cS r b u/\(dT .u8 32 t/\dT .u8 32 u)/\Split (!(eR t u)) (∃v:OA,r.cell? a=some (au v)/\Is v λx:Addr=>∃y:OA,r.cell? (x.add 1)=some (au y)/\∃z:AV,cS r (aU w.heap.size) z/\∃a1:AV,cS r b a1/\bJ prog 51 #[au y,.agg z,.agg a1] r λb1 c1=>∃d1:Bool,b1=.bool d1/\Split (!d1) (let e1:=c1.drew;∃f1:OA,e1.cell? d=some (au f1)/\∃g1:OA,e1.cell? d=some (au g1)/\Is g1 λi1:Addr=>∃j1:OA,∃k1 m1:Nat,e1.cell? ((i1.add 0).add 33)=some (ao j1 k1 m1)/\∃n1:AV,cS e1 (aU w.heap.size) n1/\n1.size=32/\let o1:=e1.alloc (.cells (n1.toList++ []).toArray 24);o1.cell? ((i1.add 0).add 33)=some (ao j1 k1 m1)/\o1.cell? d=some (au g1)/\o1.cell? d=some (au f1)/\∃(p1:OA) (q1 r1:Nat) (t1:World),(Builtin.append_ #[33,33] 33 #[ao j1 k1 m1,ao (some (aU e1.heap.size)) 1 1]).run prog o1=.ok (ao p1 q1 r1) t1/\t1.cell? d=some (au f1)/\Is f1 λu1:Addr=>Wr t1 ((u1.add 0).add 33)/\let v1:=t1.setCell ((u1.add 0).add 33) (ao p1 q1 r1);Q .normal [(3,au (some a)),(4,au (some b)),(6,au c),(8,au (some d)),(46,ao e f g),(47,ag i),(48,ag (i64.wrap (j+(1:Int))))] v1) (Q .normal [(3,au (some a)),(4,au (some b)),(6,au c),(8,au (some d)),(46,ao e f g),(47,ag i),(48,ag (i64.wrap (j+(1:Int))))] c1)) (Q .normal [(3,au (some a)),(4,au (some b)),(6,au c),(8,au (some d)),(46,ao e f g),(47,ag i),(48,ag (i64.wrap (j+(1:Int))))] r)) (Q (.exit 0) [(3,au (some a)),(4,au (some b)),(6,au c),(8,au (some d)),(46,ao e f g),(47,ag i),(48,ag j)] w)
theorem an.b1:(bz none [] prog 153 an.k (lB (bB (sR (sL (bf (sR (body f83))))))) an.u1 Q [(3,au (some a)),(4,au (some b)),(6,au c),(8,au (some d)),(46,ao e f g),(47,ag i),(48,ag j)] w)=an.B1 a b c d e f g i j Q w:=by kernel_rfl
variable{a b c d e f g i}
theorem an.cP(I:Int->World->Prop)(μ:Int->World->Nat)(s:Int){Q:aZ}{w:World}(h0:I s w)
 (round:∀s w,I s w->an.B1 a b c d e f g i s (b7 (an.e1 a b c d e f g i) I μ s w Q) w):cO 153 (.loop (lB (bB (sR (sL (bf (sR (body f83)))))))) Q (an.e1 a b c d e f g i s) w:=
 bI ng mix (an.e1 a b c d e f g i) I μ an.k an.u1 s (λs Q w=>an.B1 a b c d e f g i s Q w) (λs Q w=>an.b1 a b c d e f g i s Q w) h0 round
end
section
def an.dA(a b:Addr)(c:OA)(d:Addr)(e:OA)(f g:Nat)(i j:Int)(K:KT)(w:World):Prop:=
 let k:=w.drew;∃m:OA,k.cell? d=some (au m)/\Is m λn:Addr=>∃o:OA,∃p q:Nat,k.cell? ((n.add 0).add 33)=some (ao o p q)/\∃r:OA,k.cell? a=some (au r)/\bJ prog 53 #[ao o p q,.func (.func 73) #[au r] #[]] k λt u=>t=.tuple #[]/\let v:=u.alloc (.cells (#[ao none 0 0]:AV) 33);let x:=v.alloc (.cells (#[.nilFunc]:AV) 48);Wr x (aU v.heap.size)/\let y:=x.setCell (aU v.heap.size) (.func (.func 114) #[] #[au (some d),au (some a),au (some b)]);∃z:OA,y.cell? d=some (au z)/\Is z λa1:Addr=>∃b1:OA,∃c1 d1:Nat,y.cell? ((a1.add 0).add 33)=some (ao b1 c1 d1)/\cO 153 (.loop (lB (bB (sR (sL (gR (body f83))))))) (an.q2 K) [(3,au (some a)),(6,au c),(8,au (some d)),(11,au (some (aU u.heap.size))),(12,.func (.func 112) #[] #[au (some (aU u.heap.size)),au (some a),au (some b)]),(13,au (some (aU v.heap.size))),(92,ao b1 c1 d1),(93,ag (c1:Int)),(94,ag 0)] y
variable(a b:Addr)(c:OA)(d:Addr)(e:OA)(f g:Nat)(i j:Int)(K:KT)(w:World)
theorem an.dJ:(an.q1 K (.exit 0) [(3,au (some a)),(4,au (some b)),(6,au c),(8,au (some d)),(46,ao e f g),(47,ag i),(48,ag j)] w)=an.dA a b c d e f g i j K w:=by kernel_rfl
end
section
variable(a:Addr)(b:OA)(c d e f g i:Addr)(j:OA)(k m:Nat)(n o:Int)(Q:aZ)(w:World)
def an.B2:Prop:=
 Split (decide (o<n)) ((0<=o/\o<(k:Int))/\Is j λp:Addr=>∃q:AV,cS w (p.add (o.toNat*32)) q/\let r:=w.alloc (.cells zH 24);(q.size=32/\(∀t∈q.toList,t.oneCell'=true)/\∀u,u<32->Wr r ((aU w.heap.size).add u))/\let v:=setCells r (aU w.heap.size) q.toList 0;let x:=v.alloc (.map #[] 0);let y:=x.alloc (.cells (#[.map none]:AV) 127);Wr y (aU x.heap.size)/\let z:=y.setCell (aU x.heap.size) (.map (some v.heap.size));∃a1:AV,cS z (aU w.heap.size) a1/\bJ prog 112 #[.agg a1,.func (.func 116) #[] #[au (some i),au (some (aU x.heap.size)),au (some a)],au (some e),au (some f),au (some g)] z λb1 c1=>∃d1:Bool,b1=.bool d1/\let e1:=c1.drew;∃f1:OA,e1.cell? c=some (au f1)/\∃g1:OA,e1.cell? c=some (au g1)/\Is g1 λi1:Addr=>∃j1:OA,∃k1 m1:Nat,e1.cell? ((i1.add 0).add 34)=some (ao j1 k1 m1)/\let n1:=e1.alloc (.cells #[.bool d1] 4);n1.cell? ((i1.add 0).add 34)=some (ao j1 k1 m1)/\n1.cell? c=some (au g1)/\n1.cell? c=some (au f1)/\∃(o1:OA) (p1 q1:Nat) (r1:World),(Builtin.append_ #[51,51] 51 #[ao j1 k1 m1,ao (some (aU e1.heap.size)) 1 1]).run prog n1=.ok (ao o1 p1 q1) r1/\r1.cell? c=some (au f1)/\Is f1 λt1:Addr=>Wr r1 ((t1.add 0).add 34)/\let u1:=r1.setCell ((t1.add 0).add 34) (ao o1 p1 q1);Split (!d1) (Q .normal [(3,au (some a)),(6,au b),(8,au (some c)),(11,au (some d)),(12,.func (.func 112) #[] #[au (some e),au (some f),au (some g)]),(13,au (some i)),(92,ao j k m),(93,ag n),(94,ag (i64.wrap (o+(1:Int))))] u1) (∃v1:OA,u1.cell? c=some (au v1)/\Is v1 λx1:Addr=>∃y1:Int,u1.cell? ((x1.add 0).add 32)=some (.int .u64 y1)/\Is v1 λz1:Addr=>Wr u1 ((z1.add 0).add 32)/\let a2:=u1.setCell ((z1.add 0).add 32) (.int .u64 (u64.wrap (y1+(1:Int))));let b2:=a2.drew;∃c2:OA,b2.cell? c=some (au c2)/\Is c2 λd2:Addr=>∃e2:Option Nat,b2.cell? (d2.add 35)=some (.map e2)/\∃f2:AV,cS b2 (aU w.heap.size) f2/\∃g2:Option Nat,b2.cell? (aU x.heap.size)=some (.map g2)/\∃i2:Nat,(Builtin.len_ #[127] 3 #[.map g2]).run prog b2=.ok (ag (i2:Int)) b2/\∃j2:World,(Instr.mapUpdate 127 (.map e2) (.agg f2) (ag (i2:Int))).run prog b2=.ok () j2/\∃k2:Option Nat,j2.cell? (aU x.heap.size)=some (.map k2)/\∃(m2:OA) (n2:World),(Instr.range 127 (.map k2)).run prog j2=.ok (au m2) n2/\cO 153 (.loop (lB (bB (sR (sL (dc (bf (sR (bB (sL (bf (lB (bB (sR (sL (gR (body f83))))))))))))))))) (an.q3 Q) [(3,au (some a)),(6,au b),(8,au (some c)),(11,au (some d)),(12,.func (.func 112) #[] #[au (some e),au (some f),au (some g)]),(13,au (some i)),(15,au (some (aU w.heap.size))),(92,ao j k m),(93,ag n),(94,ag o),(134,au m2)] n2)) (Q (.exit 2) [(3,au (some a)),(6,au b),(8,au (some c)),(11,au (some d)),(12,.func (.func 112) #[] #[au (some e),au (some f),au (some g)]),(13,au (some i)),(92,ao j k m),(93,ag n),(94,ag o)] w)
theorem an.b2:(bz none [] prog 153 an.k (lB (bB (sR (sL (gR (body f83)))))) an.u2 Q [(3,au (some a)),(6,au b),(8,au (some c)),(11,au (some d)),(12,.func (.func 112) #[] #[au (some e),au (some f),au (some g)]),(13,au (some i)),(92,ao j k m),(93,ag n),(94,ag o)] w)=an.B2 a b c d e f g i j k m n o Q w:=by kernel_rfl
variable{a b c d e f g i j k m n}
theorem an.iY(I:Int->World->Prop)(μ:Int->World->Nat)(s:Int){Q:aZ}{w:World}(h0:I s w)
 (round:∀s w,I s w->an.B2 a b c d e f g i j k m n s (b7 (an.e2 a b c d e f g i j k m n) I μ s w Q) w):cO 153 (.loop (lB (bB (sR (sL (gR (body f83))))))) Q (an.e2 a b c d e f g i j k m n s) w:=
 bI ng mix (an.e2 a b c d e f g i j k m n) I μ an.k an.u2 s (λs Q w=>an.B2 a b c d e f g i j k m n s Q w) (λs Q w=>an.b2 a b c d e f g i j k m n s Q w) h0 round
end
section
def an.jJ(a:Addr)(b:OA)(c d e f g i:Addr)(j:OA)(k m:Nat)(n o:Int)(K:KT)(w:World):Prop:=
 ∃p:OA,w.cell? c=some (au p)/\K (au p) w
variable(a:Addr)(b:OA)(c d e f g i:Addr)(j:OA)(k m:Nat)(n o:Int)(K:KT)(w:World)
theorem an.lA:(an.q2 K (.exit 2) [(3,au (some a)),(6,au b),(8,au (some c)),(11,au (some d)),(12,.func (.func 112) #[] #[au (some e),au (some f),au (some g)]),(13,au (some i)),(92,ao j k m),(93,ag n),(94,ag o)] w)=an.jJ a b c d e f g i j k m n o K w:=by kernel_rfl
end
section
variable(a:Addr)(b:OA)(c d e f g i j:Addr)(k:OA)(m n:Nat)(o p:Int)(q:OA)(Q:aZ)(w:World)
def an.B3:Prop:=
 (∃r:World,(Instr.next (au q) false 0).run prog w=.ok (.tuple #[.bool false]) r/\Q (.exit 4) [(3,au (some a)),(6,au b),(8,au (some c)),(11,au (some d)),(12,.func (.func 112) #[] #[au (some e),au (some f),au (some g)]),(13,au (some i)),(15,au (some j)),(92,ao k m n),(93,ag o),(94,ag p),(134,au q)] r)\/∃(t u:Value) (v:World),(Instr.next (au q) false 0).run prog w=.ok (.tuple #[.bool true,t,u]) v/\∃x:AV,∃y:Int,(Instr.entry (au q)).run prog v=.ok (.tuple #[.agg x,ag y]) v/\let z:=v.alloc (.cells zH 24);(x.size=32/\(∀a1∈x.toList,a1.oneCell'=true)/\∀b1,b1<32->Wr z ((aU v.heap.size).add b1))/\let c1:=setCells z (aU v.heap.size) x.toList 0;let d1:=c1.drew;∃e1:OA,d1.cell? c=some (au e1)/\Is e1 λf1:Addr=>∃g1:Option Nat,d1.cell? (f1.add 35)=some (.map g1)/\∃i1:AV,cS d1 (aU v.heap.size) i1/\∃j1:World,(Instr.mapUpdate 127 (.map g1) (.agg i1) (ag (i64.wrap (y+(1:Int))))).run prog d1=.ok () j1/\Q .normal [(3,au (some a)),(6,au b),(8,au (some c)),(11,au (some d)),(12,.func (.func 112) #[] #[au (some e),au (some f),au (some g)]),(13,au (some i)),(15,au (some j)),(92,ao k m n),(93,ag o),(94,ag p),(134,au q)] j1
theorem an.b3:(bz none [] prog 153 an.k (lB (bB (sR (sL (dc (bf (sR (bB (sL (bf (lB (bB (sR (sL (gR (body f83)))))))))))))))) an.u3 Q [(3,au (some a)),(6,au b),(8,au (some c)),(11,au (some d)),(12,.func (.func 112) #[] #[au (some e),au (some f),au (some g)]),(13,au (some i)),(15,au (some j)),(92,ao k m n),(93,ag o),(94,ag p),(134,au q)] w)=an.B3 a b c d e f g i j k m n o p q Q w:=by kernel_rfl
variable{a b c d e f g i j k m n o p q}
theorem an.xg(I:Unit->World->Prop)(μ:Unit->World->Nat)(s:Unit){Q:aZ}{w:World}(h0:I s w)
 (round:∀s w,I s w->an.B3 a b c d e f g i j k m n o p q (b7 (an.e3 a b c d e f g i j k m n o p q) I μ s w Q) w):cO 153 (.loop (lB (bB (sR (sL (dc (bf (sR (bB (sL (bf (lB (bB (sR (sL (gR (body f83))))))))))))))))) Q (an.e3 a b c d e f g i j k m n o p q s) w:=
 bI ng mix (an.e3 a b c d e f g i j k m n o p q) I μ an.k an.u3 s (λs Q w=>an.B3 a b c d e f g i j k m n o p q Q w) (λs Q w=>an.b3 a b c d e f g i j k m n o p q Q w) h0 round
end
section
def an.yV(a:Addr)(b:OA)(c d e f g i j:Addr)(k:OA)(m n:Nat)(o p:Int)(q:OA)(Q:aZ)(w:World):Prop:=
 ∃r:OA,∃t u:Nat,w.cell? d=some (ao r t u)/\∃v:AV,cS w j v/\v.size=32/\let x:=w.alloc (.cells (v.toList++ []).toArray 24);∃(y:OA) (z a1:Nat) (b1:World),(Builtin.append_ #[33,33] 33 #[ao r t u,ao (some (aU w.heap.size)) 1 1]).run prog x=.ok (ao y z a1) b1/\Wr b1 d/\let c1:=b1.setCell d (ao y z a1);Q .normal [(3,au (some a)),(6,au b),(8,au (some c)),(11,au (some d)),(12,.func (.func 112) #[] #[au (some e),au (some f),au (some g)]),(13,au (some i)),(92,ao k m n),(93,ag o),(94,ag (i64.wrap (p+(1:Int))))] c1
variable(a:Addr)(b:OA)(c d e f g i j:Addr)(k:OA)(m n:Nat)(o p:Int)(q:OA)(Q:aZ)(w:World)
theorem an.DF:(an.q3 Q (.exit 4) [(3,au (some a)),(6,au b),(8,au (some c)),(11,au (some d)),(12,.func (.func 112) #[] #[au (some e),au (some f),au (some g)]),(13,au (some i)),(15,au (some j)),(92,ao k m n),(93,ag o),(94,ag p),(134,au q)] w)=an.yV a b c d e f g i j k m n o p q Q w:=by kernel_rfl
end
def jr.k:List Nat:= []
section
variable(a:AV)(K:KT)(w:World)
def jr.W:Prop:=
 let b:=w.alloc (.cells a 53);let d:=b.alloc (.cells zC 53);let e:=d.drew;∃f:OA,∃g i:Nat,e.cell? ((aU w.heap.size).add 33)=some (ao f g i)/\∃j:OA,∃k m:Nat,e.cell? ((aU w.heap.size).add 34)=some (ao j k m)/\bJ prog 55 #[ao f g i] e λn o=>∃p:OA,∃q r:Nat,n=ao p q r/\o.cell? ((aU w.heap.size).add 34)=some (ao j k m)/\bJ prog 121 #[ao j k m] o λt u=>∃v:OA,∃x y:Nat,t=ao v x y/\Wr u ((aU w.heap.size).add 33)/\let z:=u.setCell ((aU w.heap.size).add 33) (ao p q r);Wr z ((aU w.heap.size).add 34)/\let a1:=z.setCell ((aU w.heap.size).add 34) (ao v x y);∃b1:AV,(b1.size=35/\Cells a1 (aU w.heap.size) b1)/\(b1.size=35/\(∀c1∈b1.toList,c1.oneCell'=true)/\∀d1,d1<35->Wr a1 ((aU b.heap.size).add d1))/\let e1:=setCells a1 (aU b.heap.size) b1.toList 0;∃f1:AV,(f1.size=35/\Cells e1 (aU b.heap.size) f1)/\K (.agg f1) e1
variable{a K w}
theorem jr.of(h:jr.W a K w):bJ prog 85 #[.agg a] w K:=
 rqq func85 (C:=jr.k) h
end
def fP.k:List Nat:= []
section
variable(a:AV)(b:Addr)(K:KT)(w:World)
def fP.W:Prop:=
 let d:=w.alloc (.cells a 24);let e:=d.drew;∃f:OA,e.cell? b=some (au f)/\Is f λg:Addr=>∃i:Option Nat,e.cell? (g.add 2)=some (.map i)/\∃j:AV,cS e (aU w.heap.size) j/\∃k:OA,(Instr.lookup 63 (.map i) (.agg j) false).run prog e=.ok (au k) e/\K (.bool ((k).isNone)) e
variable{a b K w}
theorem fP.of(h:fP.W a b K w):bJ prog 105 #[.agg a,au (some b)] w K:=
 rqq func105 (C:=fP.k) h
end
def cu.k:List Nat:= []
def cu.q1(K:KT):aZ:=(aW 0 (dd (bf (sR (body f106)))++(bn f106)) (cH (λcM w_=>match cutAt cu.k (bf (sR (body f106)))with|true=>cO 18 (bf (sR (body f106))) (cy prog f106 K) cM w_|false=>bz none [] prog 18 cu.k (bf (sR (body f106))) (bn f106) (cy prog f106 K) cM w_) (cy prog f106 K)))
def cu.e1(a:Int)(b:OA)(c d:Nat)(e:Int)(s:Int×Int):Env:= [(2,ag s.1),(3,ag a),(6,ao b c d),(7,ag e),(8,ag s.2)]
def cu.u1:List Nat:= [2,3,6,7,8]
section
variable(a:OA)(b d:Nat)(K:KT)(w:World)
def cu.W:Prop:=
 cO 18 (.loop (lB (bB (sR (sL (bf (body f106))))))) (cu.q1 K) [(2,ag 0),(3,ag 0),(6,ao a b d),(7,ag (b:Int)),(8,ag 0)] w
variable{a b d K w}
theorem cu.of(h:cu.W a b d K w):bJ prog 106 #[ao a b d] w K:=
 rqq func106 (C:=cu.k) h
end
section
variable(a b:Int)(c:OA)(d e:Nat)(f g:Int)(Q:aZ)(w:World)
def cu.B1:Prop:=
 Split (decide (g<f)) ((0<=g/\g<(d:Int))/\Is c λi:Addr=>∃j:Int,w.cell? (i.add (g.toNat*1))=some (ag j)/\Split (j != b) (Q .ret [(2,ag j),(3,ag b),(6,ao c d e),(7,ag f),(8,ag g)] w) (Q .normal [(2,ag a),(3,ag b),(6,ao c d e),(7,ag f),(8,ag (i64.wrap (g+(1:Int))))] w)) (Q (.exit 0) [(2,ag a),(3,ag b),(6,ao c d e),(7,ag f),(8,ag g)] w)
theorem cu.b1:(bz none [] prog 18 cu.k (lB (bB (sR (sL (bf (body f106)))))) cu.u1 Q [(2,ag a),(3,ag b),(6,ao c d e),(7,ag f),(8,ag g)] w)=cu.B1 a b c d e f g Q w:=by kernel_rfl
variable{b c d e f}
theorem cu.cP(I:Int×Int->World->Prop)(μ:Int×Int->World->Nat)(s:Int×Int){Q:aZ}{w:World}(h0:I s w)
 (round:∀s w,I s w->cu.B1 (s.1) b c d e f (s.2) (b7 (cu.e1 b c d e f) I μ s w Q) w):cO 18 (.loop (lB (bB (sR (sL (bf (body f106))))))) Q (cu.e1 b c d e f s) w:=
 bI ng mix (cu.e1 b c d e f) I μ cu.k cu.u1 s (λs Q w=>cu.B1 (s.1) b c d e f (s.2) Q w) (λs Q w=>cu.b1 (s.1) b c d e f (s.2) Q w) h0 round
end
section
def cu.dA(a b:Int)(c:OA)(d e:Nat)(f g:Int)(K:KT)(w:World):Prop:=
 K (ag b) w
variable(a b:Int)(c:OA)(d e:Nat)(f g:Int)(K:KT)(w:World)
theorem cu.dJ:(cu.q1 K (.exit 0) [(2,ag a),(3,ag b),(6,ao c d e),(7,ag f),(8,ag g)] w)=cu.dA a b c d e f g K w:=by kernel_rfl
end
def eQ.k:List Nat:= []
section
variable(a b:Int)(K:KT)(w:World)
def eQ.W:Prop:=
 bJ prog 139 #[.int .u64 a] w λd e=>∃f:Bool,d=.bool f/\bJ prog 139 #[.int .u64 b] e λg i=>∃j:Bool,g=.bool j/\Split f (Split j (K (ag 0) i) (K (ag (-1)) i)) (Split j (K (ag 1) i) (Split (decide (a<b)) (K (ag (-1)) i) (Split (decide (a>b)) (K (ag 1) i) (K (ag 0) i))))
variable{a b K w}
theorem eQ.of(h:eQ.W a b K w):bJ prog 107 #[.int .u64 a,.int .u64 b] w K:=
 rqq func107 (C:=eQ.k) h
end
def dV.k:List Nat:= []
section
variable(a:OA)(b d:AV)(K:KT)(w:World)
def dV.W:Prop:=
 let e:=w.alloc (.cells b 24);let f:=e.alloc (.cells d 24);let g:=f.drew;∃i:AV,cS g (aU w.heap.size) i/\∃j:AV,cS g (aU e.heap.size) j/\(dT .u8 32 i/\dT .u8 32 j)/\Split (!(eR i j)) (Is a λk:Addr=>∃m:OA,g.cell? (k.add 1)=some (au m)/\∃n:AV,cS g (aU w.heap.size) n/\∃o:AV,cS g (aU e.heap.size) o/\bJ prog 51 #[au m,.agg n,.agg o] g λp q=>∃r:Bool,p=.bool r/\Split (!r) (Is a λt:Addr=>∃u:OA,q.cell? (t.add 1)=some (au u)/\∃v:AV,cS q (aU e.heap.size) v/\∃x:AV,cS q (aU w.heap.size) x/\bJ prog 51 #[au u,.agg v,.agg x] q λy z=>∃a1:Bool,y=.bool a1/\K (.bool (!a1)) z) (K (.bool false) q)) (K (.bool false) g)
variable{a b d K w}
theorem dV.of(h:dV.W a b d K w):bJ prog 113 #[au a,.agg b,.agg d] w K:=
 rqq func113 (C:=dV.k) h
end
def cQ.k:List Nat:= []
section
variable(a:AV)(b d e:Addr)(K:KT)(w:World)
def cQ.W:Prop:=
 let f:=w.alloc (.cells a 24);let g:=f.drew;∃i:OA,g.cell? b=some (au i)/\Is i λj:Addr=>∃k:Option Nat,g.cell? (j.add 35)=some (.map k)/\∃m:AV,cS g (aU w.heap.size) m/\∃n:Int,∃o:Bool,(Instr.lookup 127 (.map k) (.agg m) true).run prog g=.ok (.tuple #[ag n,.bool o]) g/\Split o (K (ag n) g) (∃p:OA,g.cell? d=some (au p)/\∃q:AV,cS g e q/\∃r:AV,cS g (aU w.heap.size) r/\bJ prog 115 #[au p,.agg q,.agg r] g λt u=>∃v:Int,t=ag v/\K (ag v) u)
variable{a b d e K w}
theorem cQ.of(h:cQ.W a b d e K w):bJ prog 114 #[.agg a,au (some b),au (some d),au (some e)] w K:=
 rqq func114 (C:=cQ.k) h
end
def du.k:List Nat:= []
section
variable(a:AV)(b d e:Addr)(K:KT)(w:World)
def du.W:Prop:=
 let f:=w.alloc (.cells a 24);let g:=f.drew;∃i:Option Nat,g.cell? d=some (.map i)/\∃j:AV,cS g (aU w.heap.size) j/\∃k:Value,g.cell? b=some (k)/\∃m:AV,cS g (aU w.heap.size) m/\∃(n:Nat) (o p:AV) (q:Func),(k:Value)=.func (.func n) o p/\prog.funcs[n]? =some q/\q.body.isSome=true/\bJ prog n (o.toList++([.agg m]:List Value)++p.toList).toArray g λr t=>∃u:Int,r=ag u/\(∃cs:AV,(.agg j:Value)=.agg cs/\cs.size=32/\Cells t (aU w.heap.size) cs)/\t.cell? d=some (.map i)/\∃v:World,(Instr.mapUpdate 127 (.map i) (.agg j) (ag u)).run prog t=.ok () v/\let x:=v.drew;∃y:Option Nat,x.cell? d=some (.map y)/\∃z:Nat,(Builtin.len_ #[127] 3 #[.map y]).run prog x=.ok (ag (z:Int)) x/\∃a1:OA,x.cell? e=some (au a1)/\Is a1 λb1:Addr=>∃c1:Int,x.cell? (b1.add 0)=some (ag c1)/\Split (decide ((z:Int)<=c1)) (∃d1:Option Nat,x.cell? d=some (.map d1)/\∃e1:AV,cS x (aU w.heap.size) e1/\∃f1:Int,(Instr.lookup 127 (.map d1) (.agg e1) false).run prog x=.ok (ag f1) x/\∃g1:OA,x.cell? e=some (au g1)/\Is g1 λi1:Addr=>∃j1:Int,x.cell? (i1.add 0)=some (ag j1)/\K (.bool (decide (f1<j1))) x) (K (.bool false) x)
variable{a b d e K w}
theorem du.of(h:du.W a b d e K w):bJ prog 116 #[.agg a,au (some b),au (some d),au (some e)] w K:=
 rqq func116 (C:=du.k) h
end
def fi.k:List Nat:= []
section
variable(a:OA)(b d:Nat)(K:KT)(w:World)
def fi.W:Prop:=
 Split ((a).isNone) (K (ao none 0 0) w) (let e:=w.alloc (.cells #[] 4);∃(f:OA) (g i:Nat) (j:World),(Builtin.append_ #[51,51] 51 #[ao (some (aU w.heap.size)) 0 0,ao a b d]).run prog e=.ok (ao f g i) j/\K (ao f g i) j)
variable{a b d K w}
theorem fi.of(h:fi.W a b d K w):bJ prog 121 #[ao a b d] w K:=
 rqq func121 (C:=fi.k) h
end
def gJ.k:List Nat:= []
section
variable(a:Int)(K:KT)(w:World)
def gJ.W:Prop:=
 K (.bool (a != a)) w
variable{a K w}
theorem gJ.of(h:gJ.W a K w):bJ prog 139 #[.int .u64 a] w K:=
 rqq func139 (C:=gJ.k) h
end
def bM.k:List Nat:= []
def bM.Hx(K:KT):aZ:=(aW 0 (dd (bf (body f115))++(bn f115)) (cH (λcM w_=>match cutAt bM.k (bf (body f115))with|true=>cO 33 (bf (body f115)) (cy prog f115 K) cM w_|false=>bz none [] prog 33 bM.k (bf (body f115)) (bn f115) (cy prog f115 K) cM w_) (cy prog f115 K)))
section
variable(a:OA)(b d:AV)(K:KT)(w:World)
def bM.W:Prop:=
 let e:=w.alloc (.cells (#[au a]:AV) 28);let f:=e.alloc (.cells b 24);let g:=f.alloc (.cells d 24);let i:=g.alloc (.cells (#[ag 0]:AV) 3);let j:=i.drew;∃k:OA,j.cell? (aU w.heap.size)=some (au k)/\Is k λm:Addr=>∃n:OA,j.cell? (m.add 1)=some (au n)/\∃o:AV,cS j (aU e.heap.size) o/\bJ prog 109 #[au n,.agg o] j λp q=>∃r:Value,p=r/\cO 33 (bB (sR (sL (sR (body f115))))) (bM.Hx K) [(3,au (some (aU w.heap.size))),(5,au (some (aU f.heap.size))),(6,au (some (aU g.heap.size))),(15,r)] q
variable{a b d K w}
theorem bM.of(h:bM.W a b d K w):bJ prog 115 #[au a,.agg b,.agg d] w K:=
 rqq func115 (C:=bM.k) h
end
section
def bM.A1(l:Nat)(a b c:Addr)(d:Value)(e:AV)(Q:aZ)(w:World):Prop:=
 let f:=w.alloc (.cells zH 24);(e.size=32/\(∀g∈e.toList,g.oneCell'=true)/\∀i,i<32->Wr f ((aU w.heap.size).add i))/\let j:=setCells f (aU w.heap.size) e.toList 0;Q .normal [(3,au (some a)),(5,au (some b)),(6,au (some c)),(7,au (some (aU w.heap.size)))] j
variable(l:Nat)(a b c:Addr)(d:Value)(e:AV)(Q:aZ)(w:World)
theorem bM.a1:(bz (some l) [] prog 33 bM.k (rA (bB (sR (sL (sR (body f115)))))) (dd (rB (bB (sR (sL (sR (body f115))))))) Q [(3,au (some a)),(5,au (some b)),(6,au (some c)),(15,d),(16,.agg e)] w)=bM.A1 l a b c d e Q w:=by kernel_rfl
end
section
def bM.Y1(l:Nat)(a b c d:Addr)(Q:aZ)(w:World):Prop:=
 let e:=w.drew;∃f:OA,e.cell? a=some (au f)/\Is f λg:Addr=>∃i:Option Nat,e.cell? (g.add 2)=some (.map i)/\∃j:AV,cS e d j/\∃k:OA,(Instr.lookup 63 (.map i) (.agg j) false).run prog e=.ok (au k) e/\Is k λm:Addr=>∃n:Option Nat,e.cell? (m.add 35)=some (.map n)/\∃o:AV,cS e b o/\∃p:Int,∃q:Bool,(Instr.lookup 127 (.map n) (.agg o) true).run prog e=.ok (.tuple #[ag p,.bool q]) e/\Split q (Wr e c/\let r:=e.setCell c (ag p);Q .ret [] r) (Q .normal [] e)
variable(l:Nat)(a b c d:Addr)(Q:aZ)(w:World)
theorem bM.y1:(bz (some l) [] prog 33 bM.k (rB (bB (sR (sL (sR (body f115)))))) [] Q [(3,au (some a)),(5,au (some b)),(6,au (some c)),(7,au (some d))] w)=bM.Y1 l a b c d Q w:=by kernel_rfl
end
section
def bM.kZ(a b c:Addr)(d:Value)(ms:AV)(K:KT)(w:World):Prop:=
 Wr w c/\let e:=w.setCell c (ag 0);mL (marksOf (.agg ms)) e/\∃f:Int,(iK (marksOf (.agg ms)) e).cell? c=some (ag f)/\K (ag f) (iK (marksOf (.agg ms)) e)
variable(a b c:Addr)(d:Value)(ms:AV)(K:KT)(w:World)
theorem bM.mz:(bM.Hx K .normal [(3,au (some a)),(5,au (some b)),(6,au (some c)),(15,d),(4294967296,.agg ms)] w)=bM.kZ a b c d ms K w:=by kernel_rfl
end
section
def bM.x8(a b c:Addr)(d:Value)(ms:AV)(K:KT)(w:World):Prop:=
 mL (marksOf (.agg ms)) w/\∃e:Int,(iK (marksOf (.agg ms)) w).cell? c=some (ag e)/\K (ag e) (iK (marksOf (.agg ms)) w)
variable(a b c:Addr)(d:Value)(ms:AV)(K:KT)(w:World)
theorem bM.DE:(bM.Hx K .ret [(3,au (some a)),(5,au (some b)),(6,au (some c)),(15,d),(4294967296,.agg ms)] w)=bM.x8 a b c d ms K w:=by kernel_rfl
end
def ah.k:List Nat:= []
def ah.q1(K:KT):aZ:=(aW 0 (dd (bf (body f112))++(bn f112)) (cH (λcM w_=>match cutAt ah.k (bf (body f112))with|true=>cO 90 (bf (body f112)) (cy prog f112 K) cM w_|false=>bz none [] prog 90 ah.k (bf (body f112)) (bn f112) (cy prog f112 K) cM w_) (cy prog f112 K)))
def ah.e1(a b c d e:Addr)(f:OA)(g i:Nat)(j s:Int):Env:= [(3,au (some a)),(4,au (some b)),(5,au (some c)),(6,au (some d)),(7,au (some e)),(14,ao f g i),(15,ag j),(16,ag s)]
def ah.u1:List Nat:= [3,4,5,6,7,14,15,16]
def ah.Hx(K:KT):aZ:=(aW 2 (dd (bf (sR (body f112)))++(bn f112)) (cH (λcM w_=>match cutAt ah.k (bf (sR (body f112)))with|true=>cO 90 (bf (sR (body f112))) (cy prog f112 K) cM w_|false=>bz none [] prog 90 ah.k (bf (sR (body f112))) (bn f112) (cy prog f112 K) cM w_) (cy prog f112 K)))
def ah.q2(l:Nat)(Q:aZ):aZ:=(aW 4 [] (aW 3 [] Q))
def ah.e2(a b c d e:Addr)(f:OA)(g i:Nat)(j s:Int):Env:= [(3,au (some a)),(5,au (some b)),(6,au (some c)),(7,au (some d)),(11,au (some e)),(65,ao f g i),(66,ag j),(67,ag s)]
def ah.u2:List Nat:= [3,5,6,7,11,65,66,67]
section
variable(a:AV)(b:Value)(d e f:Addr)(K:KT)(w:World)
def ah.W:Prop:=
 let g:=w.alloc (.cells a 24);let i:=g.alloc (.cells b.cells 101);let j:=i.alloc (.cells (#[.bool false]:AV) 4);∃k:OA,∃m n:Nat,j.cell? d=some (ao k m n)/\cO 90 (.loop (lB (bB (sR (sL (sR (body f112))))))) (ah.q1 K) [(3,au (some e)),(4,au (some f)),(5,au (some (aU w.heap.size))),(6,au (some (aU g.heap.size))),(7,au (some (aU i.heap.size))),(14,ao k m n),(15,ag (m:Int)),(16,ag 0)] j
variable{a b d e f K w}
theorem ah.of(h:ah.W a b d e f K w):bJ prog 112 #[.agg a,b,au (some d),au (some e),au (some f)] w K:=
 rqq func112 (C:=ah.k) h
end
section
variable(a b c d e:Addr)(f:OA)(g i:Nat)(j k:Int)(Q:aZ)(w:World)
def ah.B1:Prop:=
 Split (decide (k<j)) ((0<=k/\k<(g:Int))/\Is f λm:Addr=>∃n:AV,cS w (m.add (k.toNat*32)) n/\let o:=w.alloc (.cells zH 24);(n.size=32/\(∀p∈n.toList,p.oneCell'=true)/\∀q,q<32->Wr o ((aU w.heap.size).add q))/\let r:=setCells o (aU w.heap.size) n.toList 0;∃t:OA,r.cell? a=some (au t)/\∃u:AV,cS r (aU w.heap.size) u/\∃v:AV,cS r c v/\bJ prog 113 #[au t,.agg u,.agg v] r λx y=>∃z:Bool,x=.bool z/\Split z (∃a1:Value,y.cell? d=some (a1)/\∃b1:AV,cS y (aU w.heap.size) b1/\∃(c1:Nat) (d1 e1:AV) (f1:Func),(a1:Value)=.func (.func c1) d1 e1/\prog.funcs[c1]? =some f1/\f1.body.isSome=true/\bJ prog c1 (d1.toList++([.agg b1]:List Value)++e1.toList).toArray y λg1 i1=>∃j1:Bool,g1=.bool j1/\Split (!j1) (Wr i1 e/\let k1:=i1.setCell e (.bool false);Q .ret [(3,au (some a)),(4,au (some b)),(5,au (some c)),(6,au (some d)),(7,au (some e)),(14,ao f g i),(15,ag j),(16,ag k)] k1) (Q .normal [(3,au (some a)),(4,au (some b)),(5,au (some c)),(6,au (some d)),(7,au (some e)),(14,ao f g i),(15,ag j),(16,ag (i64.wrap (k+(1:Int))))] i1)) (Q .normal [(3,au (some a)),(4,au (some b)),(5,au (some c)),(6,au (some d)),(7,au (some e)),(14,ao f g i),(15,ag j),(16,ag (i64.wrap (k+(1:Int))))] y)) (Q (.exit 0) [(3,au (some a)),(4,au (some b)),(5,au (some c)),(6,au (some d)),(7,au (some e)),(14,ao f g i),(15,ag j),(16,ag k)] w)
theorem ah.b1:(bz none [] prog 90 ah.k (lB (bB (sR (sL (sR (body f112)))))) ah.u1 Q [(3,au (some a)),(4,au (some b)),(5,au (some c)),(6,au (some d)),(7,au (some e)),(14,ao f g i),(15,ag j),(16,ag k)] w)=ah.B1 a b c d e f g i j k Q w:=by kernel_rfl
variable{a b c d e f g i j}
theorem ah.cP(I:Int->World->Prop)(μ:Int->World->Nat)(s:Int){Q:aZ}{w:World}(h0:I s w)
 (round:∀s w,I s w->ah.B1 a b c d e f g i j s (b7 (ah.e1 a b c d e f g i j) I μ s w Q) w):cO 90 (.loop (lB (bB (sR (sL (sR (body f112))))))) Q (ah.e1 a b c d e f g i j s) w:=
 bI ng mix (ah.e1 a b c d e f g i j) I μ ah.k ah.u1 s (λs Q w=>ah.B1 a b c d e f g i j s Q w) (λs Q w=>ah.b1 a b c d e f g i j s Q w) h0 round
end
section
def ah.dA(a b c d e:Addr)(f:OA)(g i:Nat)(j k:Int)(K:KT)(w:World):Prop:=
 let m:=w.drew;∃n:OA,m.cell? a=some (au n)/\Is n λo:Addr=>∃p:OA,m.cell? (o.add 1)=some (au p)/\∃q:AV,cS m b q/\bJ prog 109 #[au p,.agg q] m λr t=>∃u:Value,r=u/\cO 90 (bB (sR (sL (bf (body f112))))) (ah.Hx K) [(3,au (some a)),(5,au (some c)),(6,au (some d)),(7,au (some e)),(36,u)] t
variable(a b c d e:Addr)(f:OA)(g i:Nat)(j k:Int)(K:KT)(w:World)
theorem ah.dJ:(ah.q1 K (.exit 0) [(3,au (some a)),(4,au (some b)),(5,au (some c)),(6,au (some d)),(7,au (some e)),(14,ao f g i),(15,ag j),(16,ag k)] w)=ah.dA a b c d e f g i j k K w:=by kernel_rfl
end
section
def ah.FD(a b c d e:Addr)(f:OA)(g i:Nat)(j k:Int)(K:KT)(w:World):Prop:=
 ∃m:Bool,w.cell? e=some (.bool m)/\K (.bool m) w
variable(a b c d e:Addr)(f:OA)(g i:Nat)(j k:Int)(K:KT)(w:World)
theorem ah.DH:(ah.q1 K .ret [(3,au (some a)),(4,au (some b)),(5,au (some c)),(6,au (some d)),(7,au (some e)),(14,ao f g i),(15,ag j),(16,ag k)] w)=ah.FD a b c d e f g i j k K w:=by kernel_rfl
end
section
def ah.A1(l:Nat)(a b c d:Addr)(e:Value)(f:AV)(Q:aZ)(w:World):Prop:=
 let g:=w.alloc (.cells zH 24);(f.size=32/\(∀i∈f.toList,i.oneCell'=true)/\∀j,j<32->Wr g ((aU w.heap.size).add j))/\let k:=setCells g (aU w.heap.size) f.toList 0;Q .normal [(3,au (some a)),(5,au (some b)),(6,au (some c)),(7,au (some d)),(10,au (some (aU w.heap.size)))] k
variable(l:Nat)(a b c d:Addr)(e:Value)(f:AV)(Q:aZ)(w:World)
theorem ah.a1:(bz (some l) [] prog 90 ah.k (rA (bB (sR (sL (bf (body f112)))))) (dd (rB (bB (sR (sL (bf (body f112))))))) Q [(3,au (some a)),(5,au (some b)),(6,au (some c)),(7,au (some d)),(36,e),(37,.agg f)] w)=ah.A1 l a b c d e f Q w:=by kernel_rfl
end
section
variable(l:Nat)(a b c d e:Addr)(Q:aZ)(w:World)
def ah.Y1:Prop:=
 ∃f:OA,w.cell? a=some (au f)/\∃g:AV,cS w e g/\∃i:AV,cS w b i/\bJ prog 113 #[au f,.agg g,.agg i] w λj k=>∃m:Bool,j=.bool m/\Split m (∃n:Value,k.cell? c=some (n)/\∃o:AV,cS k e o/\∃(p:Nat) (q r:AV) (t:Func),(n:Value)=.func (.func p) q r/\prog.funcs[p]? =some t/\t.body.isSome=true/\bJ prog p (q.toList++([.agg o]:List Value)++r.toList).toArray k λu v=>∃x:Bool,u=.bool x/\Split (!x) (Wr v d/\let y:=v.setCell d (.bool false);Q .ret [(3,au (some a)),(5,au (some b)),(6,au (some c)),(7,au (some d)),(10,au (some e))] y) (let z:=v.drew;∃a1:OA,z.cell? a=some (au a1)/\Is a1 λb1:Addr=>∃c1:OA,z.cell? (b1.add 1)=some (au c1)/\∃d1:AV,cS z e d1/\∃e1:AV,cS z b e1/\bJ prog 51 #[au c1,.agg d1,.agg e1] z λf1 g1=>∃i1:Bool,f1=.bool i1/\Split i1 (Wr g1 d/\let j1:=g1.setCell d (.bool true);Q .ret [(3,au (some a)),(5,au (some b)),(6,au (some c)),(7,au (some d)),(10,au (some e))] j1) (let k1:=g1.drew;∃m1:OA,k1.cell? a=some (au m1)/\Is m1 λn1:Addr=>∃o1:Option Nat,k1.cell? (n1.add 2)=some (.map o1)/\∃p1:AV,cS k1 e p1/\∃q1:OA,(Instr.lookup 63 (.map o1) (.agg p1) false).run prog k1=.ok (au q1) k1/\Is q1 λr1:Addr=>∃t1:AV,(t1.size=35/\Cells k1 (r1.add 0) t1)/\let u1:=k1.alloc (.cells zC 53);(∃cs:AV,(.agg t1:Value)=.agg cs/\cs.size=35/\Cells u1 (r1.add 0) cs)/\(Instr.lookup 63 (.map o1) (.agg p1) false).run prog u1=.ok (au q1) u1/\(∃cs:AV,(.agg p1:Value)=.agg cs/\cs.size=32/\Cells u1 e cs)/\u1.cell? (n1.add 2)=some (.map o1)/\u1.cell? a=some (au m1)/\(t1.size=35/\(∀v1∈t1.toList,v1.oneCell'=true)/\∀x1,x1<35->Wr u1 ((aU k1.heap.size).add x1))/\let y1:=setCells u1 (aU k1.heap.size) t1.toList 0;∃z1:OA,∃a2 b2:Nat,y1.cell? ((aU k1.heap.size).add 33)=some (ao z1 a2 b2)/\Holds (some l) [] prog 90 (.loop (lB (bB (dc (bB (rB (bB (sR (sL (bf (body f112))))))))))) (ah.q2 l Q) [(3,au (some a)),(5,au (some b)),(6,au (some c)),(7,au (some d)),(11,au (some (aU k1.heap.size))),(65,ao z1 a2 b2),(66,ag (a2:Int)),(67,ag 0)] y1))) (let c2:=k.drew;∃d2:OA,c2.cell? a=some (au d2)/\Is d2 λe2:Addr=>∃f2:OA,c2.cell? (e2.add 1)=some (au f2)/\∃g2:AV,cS c2 e g2/\∃i2:AV,cS c2 b i2/\bJ prog 51 #[au f2,.agg g2,.agg i2] c2 λj2 k2=>∃m2:Bool,j2=.bool m2/\Split m2 (Wr k2 d/\let n2:=k2.setCell d (.bool true);Q .ret [(3,au (some a)),(5,au (some b)),(6,au (some c)),(7,au (some d)),(10,au (some e))] n2) (let o2:=k2.drew;∃p2:OA,o2.cell? a=some (au p2)/\Is p2 λq2:Addr=>∃r2:Option Nat,o2.cell? (q2.add 2)=some (.map r2)/\∃t2:AV,cS o2 e t2/\∃u2:OA,(Instr.lookup 63 (.map r2) (.agg t2) false).run prog o2=.ok (au u2) o2/\Is u2 λv2:Addr=>∃x2:AV,(x2.size=35/\Cells o2 (v2.add 0) x2)/\let y2:=o2.alloc (.cells zC 53);(∃cs:AV,(.agg x2:Value)=.agg cs/\cs.size=35/\Cells y2 (v2.add 0) cs)/\(Instr.lookup 63 (.map r2) (.agg t2) false).run prog y2=.ok (au u2) y2/\(∃cs:AV,(.agg t2:Value)=.agg cs/\cs.size=32/\Cells y2 e cs)/\y2.cell? (q2.add 2)=some (.map r2)/\y2.cell? a=some (au p2)/\(x2.size=35/\(∀z2∈x2.toList,z2.oneCell'=true)/\∀a3,a3<35->Wr y2 ((aU o2.heap.size).add a3))/\let b3:=setCells y2 (aU o2.heap.size) x2.toList 0;∃c3:OA,∃d3 e3:Nat,b3.cell? ((aU o2.heap.size).add 33)=some (ao c3 d3 e3)/\Holds (some l) [] prog 90 (.loop (lB (bB (dc (bB (rB (bB (sR (sL (bf (body f112))))))))))) (ah.q2 l Q) [(3,au (some a)),(5,au (some b)),(6,au (some c)),(7,au (some d)),(11,au (some (aU o2.heap.size))),(65,ao c3 d3 e3),(66,ag (d3:Int)),(67,ag 0)] b3))
theorem ah.y1:(bz (some l) [] prog 90 ah.k (rB (bB (sR (sL (bf (body f112)))))) [] Q [(3,au (some a)),(5,au (some b)),(6,au (some c)),(7,au (some d)),(10,au (some e))] w)=ah.Y1 l a b c d e Q w:=by kernel_rfl
end
section
def ah.kZ(a b c d:Addr)(e:Value)(ms:AV)(K:KT)(w:World):Prop:=
 Wr w d/\let f:=w.setCell d (.bool true);mL (marksOf (.agg ms)) f/\∃g:Bool,(iK (marksOf (.agg ms)) f).cell? d=some (.bool g)/\K (.bool g) (iK (marksOf (.agg ms)) f)
variable(a b c d:Addr)(e:Value)(ms:AV)(K:KT)(w:World)
theorem ah.mz:(ah.Hx K .normal [(3,au (some a)),(5,au (some b)),(6,au (some c)),(7,au (some d)),(36,e),(4294967296,.agg ms)] w)=ah.kZ a b c d e ms K w:=by kernel_rfl
end
section
def ah.x8(a b c d:Addr)(e:Value)(ms:AV)(K:KT)(w:World):Prop:=
 mL (marksOf (.agg ms)) w/\∃f:Bool,(iK (marksOf (.agg ms)) w).cell? d=some (.bool f)/\K (.bool f) (iK (marksOf (.agg ms)) w)
variable(a b c d:Addr)(e:Value)(ms:AV)(K:KT)(w:World)
theorem ah.DE:(ah.Hx K .ret [(3,au (some a)),(5,au (some b)),(6,au (some c)),(7,au (some d)),(36,e),(4294967296,.agg ms)] w)=ah.x8 a b c d e ms K w:=by kernel_rfl
end
section
def ah.B2(l:Nat)(a b c d e:Addr)(f:OA)(g i:Nat)(j k:Int)(Q:aZ)(w:World):Prop:=
 Split (decide (k<j)) ((0<=k/\k<(g:Int))/\Is f λm:Addr=>∃n:AV,cS w (m.add (k.toNat*32)) n/\let o:=w.alloc (.cells zH 24);(n.size=32/\(∀p∈n.toList,p.oneCell'=true)/\∀q,q<32->Wr o ((aU w.heap.size).add q))/\let r:=setCells o (aU w.heap.size) n.toList 0;∃t:OA,∃u v:Nat,r.cell? (e.add 34)=some (ao t u v)/\(0<=k/\k<(u:Int))/\Is t λx:Addr=>∃y:Bool,r.cell? (x.add (k.toNat*1))=some (.bool y)/\Split y (∃z:OA,r.cell? a=some (au z)/\∃a1:AV,cS r (aU w.heap.size) a1/\∃b1:AV,cS r b b1/\bJ prog 113 #[au z,.agg a1,.agg b1] r λc1 d1=>∃e1:Bool,c1=.bool e1/\Split e1 (∃f1:Value,d1.cell? c=some (f1)/\∃g1:AV,cS d1 (aU w.heap.size) g1/\∃(i1:Nat) (j1 k1:AV) (m1:Func),(f1:Value)=.func (.func i1) j1 k1/\prog.funcs[i1]? =some m1/\m1.body.isSome=true/\bJ prog i1 (j1.toList++([.agg g1]:List Value)++k1.toList).toArray d1 λn1 o1=>∃p1:Bool,n1=.bool p1/\Split (!p1) (Wr o1 d/\let q1:=o1.setCell d (.bool false);Q .ret [(3,au (some a)),(5,au (some b)),(6,au (some c)),(7,au (some d)),(11,au (some e)),(65,ao f g i),(66,ag j),(67,ag k)] q1) (Q .normal [(3,au (some a)),(5,au (some b)),(6,au (some c)),(7,au (some d)),(11,au (some e)),(65,ao f g i),(66,ag j),(67,ag (i64.wrap (k+(1:Int))))] o1)) (Q .normal [(3,au (some a)),(5,au (some b)),(6,au (some c)),(7,au (some d)),(11,au (some e)),(65,ao f g i),(66,ag j),(67,ag (i64.wrap (k+(1:Int))))] d1)) (Q .normal [(3,au (some a)),(5,au (some b)),(6,au (some c)),(7,au (some d)),(11,au (some e)),(65,ao f g i),(66,ag j),(67,ag (i64.wrap (k+(1:Int))))] r)) (Q (.exit 4) [(3,au (some a)),(5,au (some b)),(6,au (some c)),(7,au (some d)),(11,au (some e)),(65,ao f g i),(66,ag j),(67,ag k)] w)
variable(l:Nat)(a b c d e:Addr)(f:OA)(g i:Nat)(j k:Int)(Q:aZ)(w:World)
theorem ah.b2:(bz (some l) [] prog 90 ah.k (lB (bB (dc (bB (rB (bB (sR (sL (bf (body f112)))))))))) ah.u2 Q [(3,au (some a)),(5,au (some b)),(6,au (some c)),(7,au (some d)),(11,au (some e)),(65,ao f g i),(66,ag j),(67,ag k)] w)=ah.B2 l a b c d e f g i j k Q w:=by kernel_rfl
variable{l a b c d e f g i j}
theorem ah.iY(I:Int->World->Prop)(μ:Int->World->Nat)(s:Int){Q:aZ}{w:World}(h0:I s w)
 (round:∀s w,I s w->ah.B2 l a b c d e f g i j s (b7 (ah.e2 a b c d e f g i j) I μ s w Q) w):Holds (some l) [] prog 90 (.loop (lB (bB (dc (bB (rB (bB (sR (sL (bf (body f112))))))))))) Q (ah.e2 a b c d e f g i j s) w:=
 bI ng mix (ah.e2 a b c d e f g i j) I μ ah.k ah.u2 s (λs Q w=>ah.B2 l a b c d e f g i j s Q w) (λs Q w=>ah.b2 l a b c d e f g i j s Q w) h0 round
end
section
def ah.aao(l:Nat)(a b c d e:Addr)(f:OA)(g i:Nat)(j k:Int)(Q:aZ)(w:World):Prop:=
 Q .normal [] w
variable(l:Nat)(a b c d e:Addr)(f:OA)(g i:Nat)(j k:Int)(Q:aZ)(w:World)
theorem ah.abW:(ah.q2 l Q (.exit 4) [(3,au (some a)),(5,au (some b)),(6,au (some c)),(7,au (some d)),(11,au (some e)),(65,ao f g i),(66,ag j),(67,ag k)] w)=ah.aao l a b c d e f g i j k Q w:=by kernel_rfl
end
def aC.k:List Nat:= []
def aC.q1(K:KT):aZ:=(aW 0 (dd (dc (body f72))++(bn f72)) (cH (λcM w_=>match cutAt aC.k (dc (body f72))with|true=>cO 33 (dc (body f72)) (cy prog f72 K) cM w_|false=>bz none [] prog 33 aC.k (dc (body f72)) (bn f72) (cy prog f72 K) cM w_) (cy prog f72 K)))
def aC.e1(a:OA)(b c:Nat)(d:OA)(e f:Addr)(s:Int):Env:= [(0,ao a b c),(1,.func (.func 73) #[au d] #[]),(4,au (some e)),(5,au (some f)),(6,ag s)]
def aC.u1:List Nat:= [0,1,4,5,6]
section
variable(a:OA)(b d:Nat)(e:OA)(K:KT)(w:World)
def aC.W:Prop:=
 let f:=w.alloc (.cells zH 24);Split (decide ((b:Int)<(1:Int))) (False) ((0<=(0:Int)/\(0:Int)<(b:Int))/\Is a λg:Addr=>∃i:AV,cS f (g.add ((0:Int).toNat*32)) i/\let j:=f.alloc (.cells zH 24);(i.size=32/\(∀k∈i.toList,k.oneCell'=true)/\∀m,m<32->Wr j ((aU f.heap.size).add m))/\let n:=setCells j (aU f.heap.size) i.toList 0;cO 33 (.loop (lB (bB (sR (sL (bf (sR (body f72)))))))) (aC.q1 K) [(0,ao a b d),(1,.func (.func 73) #[au e] #[]),(4,au (some (aU w.heap.size))),(5,au (some (aU f.heap.size))),(6,ag 1)] n)
variable{a b d e K w}
theorem aC.of(h:aC.W a b d e K w):bJ prog 72 #[ao a b d,.func (.func 73) #[au e] #[]] w K:=
 rqq func72 (C:=aC.k) h
end
section
variable(a:OA)(b c:Nat)(d:OA)(e f:Addr)(g:Int)(Q:aZ)(w:World)
def aC.B1:Prop:=
 Split (decide (g<(b:Int))) (let i:=w.drew;(0<=g/\g<(b:Int))/\Is a λj:Addr=>∃k:AV,cS i (j.add (g.toNat*32)) k/\∃m:AV,cS i f m/\bJ prog 73 #[au d,.agg k,.agg m] i λn o=>∃p:Int,n=ag p/\Split (decide (p>(0:Int))) ((0<=g/\g<(b:Int))/\Is a λq:Addr=>∃r:AV,cS o (q.add (g.toNat*32)) r/\(r.size=32/\(∀t∈r.toList,t.oneCell'=true)/\∀u,u<32->Wr o (f.add u))/\let v:=setCells o f r.toList 0;Q .normal [(0,ao a b c),(1,.func (.func 73) #[au d] #[]),(4,au (some e)),(5,au (some f)),(6,ag (i64.wrap (g+(1:Int))))] v) (Q .normal [(0,ao a b c),(1,.func (.func 73) #[au d] #[]),(4,au (some e)),(5,au (some f)),(6,ag (i64.wrap (g+(1:Int))))] o)) (Q (.exit 0) [(0,ao a b c),(1,.func (.func 73) #[au d] #[]),(4,au (some e)),(5,au (some f)),(6,ag g)] w)
theorem aC.b1:(bz none [] prog 33 aC.k (lB (bB (sR (sL (bf (sR (body f72))))))) aC.u1 Q [(0,ao a b c),(1,.func (.func 73) #[au d] #[]),(4,au (some e)),(5,au (some f)),(6,ag g)] w)=aC.B1 a b c d e f g Q w:=by kernel_rfl
variable{a b c d e f}
theorem aC.cP(I:Int->World->Prop)(μ:Int->World->Nat)(s:Int){Q:aZ}{w:World}(h0:I s w)
 (round:∀s w,I s w->aC.B1 a b c d e f s (b7 (aC.e1 a b c d e f) I μ s w Q) w):cO 33 (.loop (lB (bB (sR (sL (bf (sR (body f72)))))))) Q (aC.e1 a b c d e f s) w:=
 bI ng mix (aC.e1 a b c d e f) I μ aC.k aC.u1 s (λs Q w=>aC.B1 a b c d e f s Q w) (λs Q w=>aC.b1 a b c d e f s Q w) h0 round
end
section
def aC.dA(a:OA)(b c:Nat)(d:OA)(e f:Addr)(g:Int)(K:KT)(w:World):Prop:=
 ∃i:AV,cS w f i/\(i.size=32/\(∀j∈i.toList,j.oneCell'=true)/\∀k,k<32->Wr w (e.add k))/\let m:=setCells w e i.toList 0;∃n:AV,cS m e n/\K (.agg n) m
variable(a:OA)(b c:Nat)(d:OA)(e f:Addr)(g:Int)(K:KT)(w:World)
theorem aC.dJ:(aC.q1 K (.exit 0) [(0,ao a b c),(1,.func (.func 73) #[au d] #[]),(4,au (some e)),(5,au (some f)),(6,ag g)] w)=aC.dA a b c d e f g K w:=by kernel_rfl
end
def cU.k:List Nat:= []
section
variable(a:OA)(b d:Nat)(e:Addr)(K:KT)(w:World)
def cU.W:Prop:=
 bJ prog 91 #[ao a b d,.func (.func 105) #[] #[au (some e)]] w λf g=>∃i:Int,f=ag i/\K (.bool (decide (i>=(0:Int)))) g
variable{a b d e K w}
theorem cU.of(h:cU.W a b d e K w):bJ prog 68 #[ao a b d,.func (.func 105) #[] #[au (some e)]] w K:=
 rqq func68 (C:=cU.k) h
end
def aA.k:List Nat:= []
def aA.q1(K:KT):aZ:=(aW 0 (dd (bf (body f91))++(bn f91)) (cH (λcM w_=>match cutAt aA.k (bf (body f91))with|true=>cO 19 (bf (body f91)) (cy prog f91 K) cM w_|false=>bz none [] prog 19 aA.k (bf (body f91)) (bn f91) (cy prog f91 K) cM w_) (cy prog f91 K)))
def aA.e1(a:OA)(b c:Nat)(d:Addr)(e:Int)(s:Int×Int):Env:= [(0,ao a b c),(1,.func (.func 105) #[] #[au (some d)]),(4,ag s.1),(7,ag e),(8,ag s.2)]
def aA.u1:List Nat:= [0,1,4,7,8]
section
variable(a:OA)(b d:Nat)(e:Addr)(K:KT)(w:World)
def aA.W:Prop:=
 cO 19 (.loop (lB (bB (sR (sL (sR (body f91))))))) (aA.q1 K) [(0,ao a b d),(1,.func (.func 105) #[] #[au (some e)]),(4,ag 0),(7,ag (b:Int)),(8,ag 0)] w
variable{a b d e K w}
theorem aA.of(h:aA.W a b d e K w):bJ prog 91 #[ao a b d,.func (.func 105) #[] #[au (some e)]] w K:=
 rqq func91 (C:=aA.k) h
end
section
variable(a:OA)(b c:Nat)(d:Addr)(e f g:Int)(Q:aZ)(w:World)
def aA.B1:Prop:=
 Split (decide (g<f)) ((0<=g/\g<(b:Int))/\Is a λi:Addr=>∃j:AV,cS w (i.add (g.toNat*32)) j/\bJ prog 105 #[.agg j,au (some d)] w λk m=>∃n:Bool,k=.bool n/\Split n (Q .ret [(0,ao a b c),(1,.func (.func 105) #[] #[au (some d)]),(4,ag g),(7,ag f),(8,ag g)] m) (Q .normal [(0,ao a b c),(1,.func (.func 105) #[] #[au (some d)]),(4,ag e),(7,ag f),(8,ag (i64.wrap (g+(1:Int))))] m)) (Q (.exit 0) [(0,ao a b c),(1,.func (.func 105) #[] #[au (some d)]),(4,ag e),(7,ag f),(8,ag g)] w)
theorem aA.b1:(bz none [] prog 19 aA.k (lB (bB (sR (sL (sR (body f91)))))) aA.u1 Q [(0,ao a b c),(1,.func (.func 105) #[] #[au (some d)]),(4,ag e),(7,ag f),(8,ag g)] w)=aA.B1 a b c d e f g Q w:=by kernel_rfl
variable{a b c d f}
theorem aA.cP(I:Int×Int->World->Prop)(μ:Int×Int->World->Nat)(s:Int×Int){Q:aZ}{w:World}(h0:I s w)
 (round:∀s w,I s w->aA.B1 a b c d (s.1) f (s.2) (b7 (aA.e1 a b c d f) I μ s w Q) w):cO 19 (.loop (lB (bB (sR (sL (sR (body f91))))))) Q (aA.e1 a b c d f s) w:=
 bI ng mix (aA.e1 a b c d f) I μ aA.k aA.u1 s (λs Q w=>aA.B1 a b c d (s.1) f (s.2) Q w) (λs Q w=>aA.b1 a b c d (s.1) f (s.2) Q w) h0 round
end
section
def aA.dA(a:OA)(b c:Nat)(d:Addr)(e f g:Int)(K:KT)(w:World):Prop:=
 K (ag (-1)) w
variable(a:OA)(b c:Nat)(d:Addr)(e f g:Int)(K:KT)(w:World)
theorem aA.dJ:(aA.q1 K (.exit 0) [(0,ao a b c),(1,.func (.func 105) #[] #[au (some d)]),(4,ag e),(7,ag f),(8,ag g)] w)=aA.dA a b c d e f g K w:=by kernel_rfl
end
def af.k:List Nat:= [2,3]
def af.q1(K:KT):aZ:=(aW 0 (dd (dc (sR (body f19)))++(bn f19)) (cH (λcM w_=>match cutAt af.k (dc (sR (body f19)))with|true=>cO 179 (dc (sR (body f19))) (cy prog f19 K) cM w_|false=>bz none [] prog 179 af.k (dc (sR (body f19))) (bn f19) (cy prog f19 K) cM w_) (cy prog f19 K)))
def af.e1(a:OA)(b c:Addr)(d:OA)(e f:Nat)(g:Addr)(i:OA)(j k:Nat)(m:OA)(n o:Nat)(s:Int):Env:= [(0,au a),(4,au (some b)),(6,au (some c)),(7,ao d e f),(8,au (some g)),(9,ao i j k),(10,ao m n o),(11,ag s)]
def af.u1:List Nat:= [0,4,6,7,8,9,10,11]
def af.q2(Q:aZ):aZ:=(aW 2 (dd (dc (bB (sL (sR (lB (bB (sR (sL (dc (body f19))))))))))++(dd (bf (lB (bB (sR (sL (dc (body f19)))))))++af.u1)) (cH (λcM w_=>match cutAt af.k (dc (bB (sL (sR (lB (bB (sR (sL (dc (body f19))))))))))with|true=>cO 179 (dc (bB (sL (sR (lB (bB (sR (sL (dc (body f19)))))))))) (aW 1 (dd (bf (lB (bB (sR (sL (dc (body f19)))))))++af.u1) (cH (λcM w_=>match cutAt af.k (bf (lB (bB (sR (sL (dc (body f19)))))))with|true=>cO 179 (bf (lB (bB (sR (sL (dc (body f19))))))) Q cM w_|false=>bz none [] prog 179 af.k (bf (lB (bB (sR (sL (dc (body f19))))))) af.u1 Q cM w_) Q)) cM w_|false=>bz none [] prog 179 af.k (dc (bB (sL (sR (lB (bB (sR (sL (dc (body f19)))))))))) (dd (bf (lB (bB (sR (sL (dc (body f19)))))))++af.u1) (aW 1 (dd (bf (lB (bB (sR (sL (dc (body f19)))))))++af.u1) (cH (λcM w_=>match cutAt af.k (bf (lB (bB (sR (sL (dc (body f19)))))))with|true=>cO 179 (bf (lB (bB (sR (sL (dc (body f19))))))) Q cM w_|false=>bz none [] prog 179 af.k (bf (lB (bB (sR (sL (dc (body f19))))))) af.u1 Q cM w_) Q)) cM w_) (aW 1 (dd (bf (lB (bB (sR (sL (dc (body f19)))))))++af.u1) (cH (λcM w_=>match cutAt af.k (bf (lB (bB (sR (sL (dc (body f19)))))))with|true=>cO 179 (bf (lB (bB (sR (sL (dc (body f19))))))) Q cM w_|false=>bz none [] prog 179 af.k (bf (lB (bB (sR (sL (dc (body f19))))))) af.u1 Q cM w_) Q))))
def af.e2(a:OA)(b c:Addr)(d:OA)(e f:Nat)(g:Addr)(i:OA)(j k:Nat)(m:OA)(n o:Nat)(p:Int)(q:Addr)(s:Int):Env:= [(0,au a),(4,au (some b)),(6,au (some c)),(7,ao d e f),(8,au (some g)),(9,ao i j k),(10,ao m n o),(11,ag p),(12,au (some q)),(13,ag s)]
def af.u2:List Nat:= [0,4,6,7,8,9,10,11,12,13]
def af.q3(K:KT):aZ:=(aW 4 (dd (dc (bf (body f19)))++(bn f19)) (cH (λcM w_=>match cutAt af.k (dc (bf (body f19)))with|true=>cO 179 (dc (bf (body f19))) (cy prog f19 K) cM w_|false=>bz none [] prog 179 af.k (dc (bf (body f19))) (bn f19) (cy prog f19 K) cM w_) (cy prog f19 K)))
def af.e3(a:OA)(b:Addr)(c:OA)(d e:Nat)(f:Addr)(s:(OA)×Nat×Nat×Int):Env:= [(0,au a),(6,au (some b)),(7,ao c d e),(8,au (some f)),(9,ao s.1 s.2.1 s.2.2.1),(15,ag s.2.2.2)]
def af.u3:List Nat:= [0,6,7,8,9,15]
def af.q4(Q:aZ):aZ:=(aW 6 (dd (bf (sR (bB (sL (sR (lB (bB (sR (sL (dc (sR (body f19))))))))))))++(dd (bf (lB (bB (sR (sL (dc (sR (body f19))))))))++af.u3)) (cH (λcM w_=>match cutAt af.k (bf (sR (bB (sL (sR (lB (bB (sR (sL (dc (sR (body f19))))))))))))with|true=>cO 179 (bf (sR (bB (sL (sR (lB (bB (sR (sL (dc (sR (body f19)))))))))))) (aW 5 (dd (bf (lB (bB (sR (sL (dc (sR (body f19))))))))++af.u3) (cH (λcM w_=>match cutAt af.k (bf (lB (bB (sR (sL (dc (sR (body f19))))))))with|true=>cO 179 (bf (lB (bB (sR (sL (dc (sR (body f19)))))))) Q cM w_|false=>bz none [] prog 179 af.k (bf (lB (bB (sR (sL (dc (sR (body f19)))))))) af.u3 Q cM w_) Q)) cM w_|false=>bz none [] prog 179 af.k (bf (sR (bB (sL (sR (lB (bB (sR (sL (dc (sR (body f19)))))))))))) (dd (bf (lB (bB (sR (sL (dc (sR (body f19))))))))++af.u3) (aW 5 (dd (bf (lB (bB (sR (sL (dc (sR (body f19))))))))++af.u3) (cH (λcM w_=>match cutAt af.k (bf (lB (bB (sR (sL (dc (sR (body f19))))))))with|true=>cO 179 (bf (lB (bB (sR (sL (dc (sR (body f19)))))))) Q cM w_|false=>bz none [] prog 179 af.k (bf (lB (bB (sR (sL (dc (sR (body f19)))))))) af.u3 Q cM w_) Q)) cM w_) (aW 5 (dd (bf (lB (bB (sR (sL (dc (sR (body f19))))))))++af.u3) (cH (λcM w_=>match cutAt af.k (bf (lB (bB (sR (sL (dc (sR (body f19))))))))with|true=>cO 179 (bf (lB (bB (sR (sL (dc (sR (body f19)))))))) Q cM w_|false=>bz none [] prog 179 af.k (bf (lB (bB (sR (sL (dc (sR (body f19)))))))) af.u3 Q cM w_) Q))))
def af.e4(a:OA)(b:Addr)(c:OA)(d e:Nat)(f:Addr)(g:OA)(i j:Nat)(k:Int)(m:OA)(n o:Nat)(s:Bool×Int):Env:= [(0,au a),(6,au (some b)),(7,ao c d e),(8,au (some f)),(9,ao g i j),(15,ag k),(16,ao m n o),(17,.bool s.1),(18,ag s.2)]
def af.u4:List Nat:= [0,6,7,8,9,15,16,17,18]
section
variable(a:OA)(b:AV)(d:OA)(e f:Nat)(K:KT)(w:World)
def af.W:Prop:=
 let g:=w.alloc (.cells b 24);let i:=g.alloc (.cells zC 53);let j:=i.drew;∃k:AV,cS j (aU w.heap.size) k/\∃m:AV,cS j (aU w.heap.size) m/\(bJ prog 60 #[au a,.agg m] j λn o=>∃p:Int,n=.int .u64 p/\(∃cs:AV,(.agg k:Value)=.agg cs/\cs.size=32/\Cells o (aU w.heap.size) cs)/\Is (prog.built 53 [(0,.agg k),(1,.int .u64 (u64.wrap (p+(1:Int))))]) λq:AV=>let r:=o.alloc (.cells zC 53);(∃cs:AV,(.agg k:Value)=.agg cs/\cs.size=32/\Cells r (aU w.heap.size) cs)/\(q.size=35/\(∀t∈q.toList,t.oneCell'=true)/\∀u,u<35->Wr r ((aU o.heap.size).add u))/\let v:=setCells r (aU o.heap.size) q.toList 0;cO 179 (bf (body f19)) (cy prog f19 K) [(0,au a),(2,ao d e f),(4,au (some (aU w.heap.size))),(6,au (some (aU g.heap.size))),(7,ao none 0 0),(8,au (some (aU o.heap.size)))] v)/\(let x:=j.alloc (.cells zC 53);(∃cs:AV,(.agg m:Value)=.agg cs/\cs.size=32/\Cells x (aU w.heap.size) cs)/\(∃cs:AV,(.agg k:Value)=.agg cs/\cs.size=32/\Cells x (aU w.heap.size) cs)/\bJ prog 60 #[au a,.agg m] x λy z=>∃a1:Int,y=.int .u64 a1/\(∃cs:AV,(.agg k:Value)=.agg cs/\cs.size=32/\Cells z (aU w.heap.size) cs)/\Is (prog.built 53 [(0,.agg k),(1,.int .u64 (u64.wrap (a1+(1:Int))))]) λb1:AV=>(b1.size=35/\(∀c1∈b1.toList,c1.oneCell'=true)/\∀d1,d1<35->Wr z ((aU j.heap.size).add d1))/\let e1:=setCells z (aU j.heap.size) b1.toList 0;cO 179 (bf (body f19)) (cy prog f19 K) [(0,au a),(2,ao d e f),(4,au (some (aU w.heap.size))),(6,au (some (aU g.heap.size))),(7,ao none 0 0),(8,au (some (aU j.heap.size)))] e1)
variable{a b d e f K w}
theorem af.of(h:af.W a b d e f K w):bJ prog 19 #[au a,.agg b,ao d e f] w K:=
 rqq func19 (C:=af.k) h
end
section
variable(a b:OA)(c d:Nat)(e f:Addr)(g:OA)(i j:Nat)(k:Addr)(K:KT)(w:World)
def af.J1:Prop:=
 let m:=w.drew;Is a λn:Addr=>∃o:OA,∃p q:Nat,m.cell? (n.add 3)=some (ao o p q)/\Is a λr:Addr=>∃t:OA,m.cell? (r.add 1)=some (au t)/\Is t λu:Addr=>∃v:AV,cS m e v/\∃x:AV,cS m e x/\(bJ prog 16 #[au (some (u.add 0)),.agg v] m λy z=>∃a1:Int,y=ag a1/\(∃cs:AV,(.agg x:Value)=.agg cs/\cs.size=32/\Cells z e cs)/\z.cell? (n.add 3)=some (ao o p q)/\(0<=a1/\a1<(p:Int))/\Is o λb1:Addr=>∃c1:OA,∃d1 e1:Nat,z.cell? (b1.add (a1.toNat*1))=some (ao c1 d1 e1)/\(∃(f1:OA) (g1 i1:Nat) (j1:World),(Builtin.append_ #[33,33] 33 #[ao none 0 0,ao c1 d1 e1]).run prog z=.ok (ao f1 g1 i1) j1/\(∃cs:AV,(.agg x:Value)=.agg cs/\cs.size=32/\Cells j1 e cs)/\x.size=32/\let k1:=j1.alloc (.cells (x.toList++ []).toArray 24);∃(m1:OA) (n1 o1:Nat) (p1:World),(Builtin.append_ #[33,33] 33 #[ao f1 g1 i1,ao (some (aU j1.heap.size)) 1 1]).run prog k1=.ok (ao m1 n1 o1) p1/\cO 179 (bf (sR (body f19))) (cy prog f19 K) [(0,au a),(2,ao b c d),(4,au (some e)),(6,au (some f)),(7,ao g i j),(8,au (some k)),(9,ao m1 n1 o1)] p1)/\(x.size=32/\let q1:=z.alloc (.cells (x.toList++ []).toArray 24);q1.cell? (b1.add (a1.toNat*1))=some (ao c1 d1 e1)/\q1.cell? (n.add 3)=some (ao o p q)/\∃(r1:OA) (t1 u1:Nat) (v1:World),(Builtin.append_ #[33,33] 33 #[ao none 0 0,ao c1 d1 e1]).run prog q1=.ok (ao r1 t1 u1) v1/\∃(x1:OA) (y1 z1:Nat) (a2:World),(Builtin.append_ #[33,33] 33 #[ao r1 t1 u1,ao (some (aU z.heap.size)) 1 1]).run prog v1=.ok (ao x1 y1 z1) a2/\cO 179 (bf (sR (body f19))) (cy prog f19 K) [(0,au a),(2,ao b c d),(4,au (some e)),(6,au (some f)),(7,ao g i j),(8,au (some k)),(9,ao x1 y1 z1)] a2))/\(x.size=32/\let b2:=m.alloc (.cells (x.toList++ []).toArray 24);(∃cs:AV,(.agg v:Value)=.agg cs/\cs.size=32/\Cells b2 e cs)/\b2.cell? (r.add 1)=some (au t)/\b2.cell? (n.add 3)=some (ao o p q)/\bJ prog 16 #[au (some (u.add 0)),.agg v] b2 λc2 d2=>∃e2:Int,c2=ag e2/\d2.cell? (n.add 3)=some (ao o p q)/\(0<=e2/\e2<(p:Int))/\Is o λf2:Addr=>∃g2:OA,∃i2 j2:Nat,d2.cell? (f2.add (e2.toNat*1))=some (ao g2 i2 j2)/\∃(k2:OA) (m2 n2:Nat) (o2:World),(Builtin.append_ #[33,33] 33 #[ao none 0 0,ao g2 i2 j2]).run prog d2=.ok (ao k2 m2 n2) o2/\∃(p2:OA) (q2 r2:Nat) (t2:World),(Builtin.append_ #[33,33] 33 #[ao k2 m2 n2,ao (some (aU m.heap.size)) 1 1]).run prog o2=.ok (ao p2 q2 r2) t2/\cO 179 (bf (sR (body f19))) (cy prog f19 K) [(0,au a),(2,ao b c d),(4,au (some e)),(6,au (some f)),(7,ao g i j),(8,au (some k)),(9,ao p2 q2 r2)] t2)
theorem af.j1:(bz none [] prog 179 af.k (bf (body f19)) (bn f19) (cy prog f19 K) [(0,au a),(2,ao b c d),(4,au (some e)),(6,au (some f)),(7,ao g i j),(8,au (some k))] w)=af.J1 a b c d e f g i j k K w:=by kernel_rfl
variable{a b c d e f g i j k K w}
theorem af.lR(h:af.J1 a b c d e f g i j k K w):cO 179 (bf (body f19)) (cy prog f19 K) [(0,au a),(2,ao b c d),(4,au (some e)),(6,au (some f)),(7,ao g i j),(8,au (some k))] w:=
 dG (C:=af.k) ng mix (af.j1 a b c d e f g i j k K w) h
end
section
variable(a b:OA)(c d:Nat)(e f:Addr)(g:OA)(i j:Nat)(k:Addr)(m:OA)(n o:Nat)(K:KT)(w:World)
def af.J2:Prop:=
 Is a λp:Addr=>∃q:OA,w.cell? (p.add 1)=some (au q)/\Is q λr:Addr=>bJ prog 26 #[au (some (r.add 0)),ao b c d] w λt u=>∃v:OA,∃x y:Nat,t=ao v x y/\∃(z:OA) (a1 b1:Nat) (c1:World),(Builtin.append_ #[33,33] 33 #[ao v x y,ao b c d]).run prog u=.ok (ao z a1 b1) c1/\bJ prog 27 #[ao z a1 b1] c1 λd1 e1=>∃f1:OA,∃g1 i1:Nat,d1=ao f1 g1 i1/\cO 179 (.loop (lB (bB (sR (sL (dc (body f19))))))) (af.q1 K) [(0,au a),(4,au (some e)),(6,au (some f)),(7,ao g i j),(8,au (some k)),(9,ao m n o),(10,ao f1 g1 i1),(11,ag 0)] e1
theorem af.j2:(bz none [] prog 179 af.k (bf (sR (body f19))) (bn f19) (cy prog f19 K) [(0,au a),(2,ao b c d),(4,au (some e)),(6,au (some f)),(7,ao g i j),(8,au (some k)),(9,ao m n o)] w)=af.J2 a b c d e f g i j k m n o K w:=by kernel_rfl
variable{a b c d e f g i j k m n o K w}
theorem af.sG(h:af.J2 a b c d e f g i j k m n o K w):cO 179 (bf (sR (body f19))) (cy prog f19 K) [(0,au a),(2,ao b c d),(4,au (some e)),(6,au (some f)),(7,ao g i j),(8,au (some k)),(9,ao m n o)] w:=
 dG (C:=af.k) ng mix (af.j2 a b c d e f g i j k m n o K w) h
end
section
variable(a:OA)(b c:Addr)(d:OA)(e f:Nat)(g:Addr)(i:OA)(j k:Nat)(m:OA)(n o:Nat)(p:Int)(Q:aZ)(w:World)
def af.B1:Prop:=
 Split (decide (p<(n:Int))) ((0<=p/\p<(n:Int))/\Is m λq:Addr=>∃r:AV,cS w (q.add (p.toNat*32)) r/\let t:=w.alloc (.cells zH 24);(r.size=32/\(∀u∈r.toList,u.oneCell'=true)/\∀v,v<32->Wr t ((aU w.heap.size).add v))/\let x:=setCells t (aU w.heap.size) r.toList 0;let y:=x.drew;∃z:AV,cS y (aU w.heap.size) z/\∃a1:AV,cS y b a1/\(dT .u8 32 z/\dT .u8 32 a1)/\Split (eR z a1) (Q .normal [(0,au a),(4,au (some b)),(6,au (some c)),(7,ao d e f),(8,au (some g)),(9,ao i j k),(10,ao m n o),(11,ag (i64.wrap (p+(1:Int))))] y) (Is a λb1:Addr=>∃c1:OA,y.cell? (b1.add 1)=some (au c1)/\Is c1 λd1:Addr=>∃e1:AV,cS y (aU w.heap.size) e1/\∃f1:AV,cS y b f1/\bJ prog 28 #[au (some (d1.add 0)),.agg e1,.agg f1] y λg1 i1=>∃j1:Bool,g1=.bool j1/\Split j1 (Q .normal [(0,au a),(4,au (some b)),(6,au (some c)),(7,ao d e f),(8,au (some g)),(9,ao i j k),(10,ao m n o),(11,ag (i64.wrap (p+(1:Int))))] i1) (∃k1:OA,∃m1 n1:Nat,i1.cell? (g.add 33)=some (ao k1 m1 n1)/\cO 179 (.loop (lB (bB (sL (bf (sR (bB (sL (sR (lB (bB (sR (sL (dc (body f19))))))))))))))) (af.q2 Q) [(0,au a),(4,au (some b)),(6,au (some c)),(7,ao d e f),(8,au (some g)),(9,ao i j k),(10,ao m n o),(11,ag p),(12,au (some (aU w.heap.size))),(13,ag (m1:Int))] i1))) (Q (.exit 0) [(0,au a),(4,au (some b)),(6,au (some c)),(7,ao d e f),(8,au (some g)),(9,ao i j k),(10,ao m n o),(11,ag p)] w)
theorem af.b1:(bz none [] prog 179 af.k (lB (bB (sR (sL (dc (body f19)))))) af.u1 Q [(0,au a),(4,au (some b)),(6,au (some c)),(7,ao d e f),(8,au (some g)),(9,ao i j k),(10,ao m n o),(11,ag p)] w)=af.B1 a b c d e f g i j k m n o p Q w:=by kernel_rfl
variable{a b c d e f g i j k m n o}
theorem af.cP(I:Int->World->Prop)(μ:Int->World->Nat)(s:Int){Q:aZ}{w:World}(h0:I s w)
 (round:∀s w,I s w->af.B1 a b c d e f g i j k m n o s (b7 (af.e1 a b c d e f g i j k m n o) I μ s w Q) w):cO 179 (.loop (lB (bB (sR (sL (dc (body f19))))))) Q (af.e1 a b c d e f g i j k m n o s) w:=
 bI ng mix (af.e1 a b c d e f g i j k m n o) I μ af.k af.u1 s (λs Q w=>af.B1 a b c d e f g i j k m n o s Q w) (λs Q w=>af.b1 a b c d e f g i j k m n o s Q w) h0 round
end
section
def af.dA(a:OA)(b c:Addr)(d:OA)(e f:Nat)(g:Addr)(i:OA)(j k:Nat)(m:OA)(n o:Nat)(p:Int)(K:KT)(w:World):Prop:=
 cO 179 (.loop (lB (bB (sR (sL (dc (sR (body f19)))))))) (af.q3 K) [(0,au a),(6,au (some c)),(7,ao d e f),(8,au (some g)),(9,ao i j k),(15,ag 0)] w
variable(a:OA)(b c:Addr)(d:OA)(e f:Nat)(g:Addr)(i:OA)(j k:Nat)(m:OA)(n o:Nat)(p:Int)(K:KT)(w:World)
theorem af.dJ:(af.q1 K (.exit 0) [(0,au a),(4,au (some b)),(6,au (some c)),(7,ao d e f),(8,au (some g)),(9,ao i j k),(10,ao m n o),(11,ag p)] w)=af.dA a b c d e f g i j k m n o p K w:=by kernel_rfl
end
section
variable(a:OA)(b c:Addr)(d:OA)(e f:Nat)(g:Addr)(i:OA)(j k:Nat)(m:OA)(n o:Nat)(p:Int)(q:Addr)(r:Int)(Q:aZ)(w:World)
def af.B2:Prop:=
 let t:=w.drew;Split (decide (r>(0:Int))) (∃u:AV,cS t q u/\∃v:OA,∃x y:Nat,t.cell? (g.add 33)=some (ao v x y)/\(0<=(i64.wrap (r-(1:Int)))/\(i64.wrap (r-(1:Int)))<(x:Int))/\Is v λz:Addr=>∃a1:AV,(a1.size=32/\Cells t (z.add ((i64.wrap (r-(1:Int))).toNat*32)) a1)/\bJ prog 59 #[au a,.agg u,.agg a1] t λb1 c1=>∃d1:Bool,b1=.bool d1/\Split d1 (Q .normal [(0,au a),(4,au (some b)),(6,au (some c)),(7,ao d e f),(8,au (some g)),(9,ao i j k),(10,ao m n o),(11,ag p),(12,au (some q)),(13,ag (i64.wrap (r-(1:Int))))] c1) (Q (.exit 2) [(0,au a),(4,au (some b)),(6,au (some c)),(7,ao d e f),(8,au (some g)),(9,ao i j k),(10,ao m n o),(11,ag p),(12,au (some q)),(13,ag r)] c1)) (Q (.exit 2) [(0,au a),(4,au (some b)),(6,au (some c)),(7,ao d e f),(8,au (some g)),(9,ao i j k),(10,ao m n o),(11,ag p),(12,au (some q)),(13,ag r)] t)
theorem af.b2:(bz none [] prog 179 af.k (lB (bB (sL (bf (sR (bB (sL (sR (lB (bB (sR (sL (dc (body f19)))))))))))))) af.u2 Q [(0,au a),(4,au (some b)),(6,au (some c)),(7,ao d e f),(8,au (some g)),(9,ao i j k),(10,ao m n o),(11,ag p),(12,au (some q)),(13,ag r)] w)=af.B2 a b c d e f g i j k m n o p q r Q w:=by kernel_rfl
variable{a b c d e f g i j k m n o p q}
theorem af.iY(I:Int->World->Prop)(μ:Int->World->Nat)(s:Int){Q:aZ}{w:World}(h0:I s w)
 (round:∀s w,I s w->af.B2 a b c d e f g i j k m n o p q s (b7 (af.e2 a b c d e f g i j k m n o p q) I μ s w Q) w):cO 179 (.loop (lB (bB (sL (bf (sR (bB (sL (sR (lB (bB (sR (sL (dc (body f19))))))))))))))) Q (af.e2 a b c d e f g i j k m n o p q s) w:=
 bI ng mix (af.e2 a b c d e f g i j k m n o p q) I μ af.k af.u2 s (λs Q w=>af.B2 a b c d e f g i j k m n o p q s Q w) (λs Q w=>af.b2 a b c d e f g i j k m n o p q s Q w) h0 round
end
section
variable(a:OA)(b c:Addr)(d:OA)(e f:Nat)(g:Addr)(i:OA)(j k:Nat)(m:OA)(n o:Nat)(p:Int)(q:Addr)(r:Int)(Q:aZ)(w:World)
def af.jJ:Prop:=
 ∃t:OA,∃u v:Nat,w.cell? (g.add 33)=some (ao t u v)/\(0<=r/\r<=(v:Int))/\∃(x:OA) (y z:Nat) (a1:World),(Builtin.append_ #[33,33] 33 #[ao none 0 0,ao (if v=0 then t else t.map (·.add (0*32))) (r.toNat-0) (v-0)]).run prog w=.ok (ao x y z) a1/\∃b1:AV,cS a1 q b1/\b1.size=32/\let c1:=a1.alloc (.cells (b1.toList++ []).toArray 24);∃(d1:OA) (e1 f1:Nat) (g1:World),(Builtin.append_ #[33,33] 33 #[ao x y z,ao (some (aU a1.heap.size)) 1 1]).run prog c1=.ok (ao d1 e1 f1) g1/\∃i1:OA,∃j1 k1:Nat,g1.cell? (g.add 33)=some (ao i1 j1 k1)/\(0<=r/\r<=(j1:Int))/\∃(m1:OA) (n1 o1:Nat) (p1:World),(Builtin.append_ #[33,33] 33 #[ao d1 e1 f1,ao (if k1=r.toNat then i1 else i1.map (·.add (r.toNat*32))) (j1-r.toNat) (k1-r.toNat)]).run prog g1=.ok (ao m1 n1 o1) p1/\Wr p1 (g.add 33)/\let q1:=p1.setCell (g.add 33) (ao m1 n1 o1);Q .normal [(0,au a),(4,au (some b)),(6,au (some c)),(7,ao d e f),(8,au (some g)),(9,ao i j k),(10,ao m n o),(11,ag (i64.wrap (p+(1:Int))))] q1
theorem af.lA:(af.q2 Q (.exit 2) [(0,au a),(4,au (some b)),(6,au (some c)),(7,ao d e f),(8,au (some g)),(9,ao i j k),(10,ao m n o),(11,ag p),(12,au (some q)),(13,ag r)] w)=af.jJ a b c d e f g i j k m n o p q r Q w:=by kernel_rfl
end
section
variable(a:OA)(b:Addr)(c:OA)(d e:Nat)(f:Addr)(g:OA)(i j:Nat)(k:Int)(Q:aZ)(w:World)
def af.B3:Prop:=
 ∃m:OA,∃n o:Nat,w.cell? (f.add 33)=some (ao m n o)/\Split (decide (k<(n:Int))) (∃p:OA,∃q r:Nat,w.cell? (f.add 33)=some (ao p q r)/\(0<=k/\k<(q:Int))/\Is p λt:Addr=>∃u:AV,cS w (t.add (k.toNat*32)) u/\bJ prog 61 #[au a,ao g i j,.agg u] w λv x=>∃y:OA,∃z a1:Nat,v=ao y z a1/\Is a λb1:Addr=>∃c1:Int,x.cell? (b1.add 0)=some (ag c1)/\cO 179 (.loop (lB (bB (sR (sL (bf (bB (sL (sR (lB (bB (sR (sL (dc (sR (body f19)))))))))))))))) (af.q4 Q) [(0,au a),(6,au (some b)),(7,ao c d e),(8,au (some f)),(9,ao g i j),(15,ag k),(16,ao y z a1),(17,.bool (decide ((z:Int)<=c1))),(18,ag 0)] x) (Q (.exit 4) [(0,au a),(6,au (some b)),(7,ao c d e),(8,au (some f)),(9,ao g i j),(15,ag k)] w)
theorem af.b3:(bz none [] prog 179 af.k (lB (bB (sR (sL (dc (sR (body f19))))))) af.u3 Q [(0,au a),(6,au (some b)),(7,ao c d e),(8,au (some f)),(9,ao g i j),(15,ag k)] w)=af.B3 a b c d e f g i j k Q w:=by kernel_rfl
variable{a b c d e f}
theorem af.xg(I:(OA)×Nat×Nat×Int->World->Prop)(μ:(OA)×Nat×Nat×Int->World->Nat)(s:(OA)×Nat×Nat×Int){Q:aZ}{w:World}(h0:I s w)
 (round:∀s w,I s w->af.B3 a b c d e f (s.1) (s.2.1) (s.2.2.1) (s.2.2.2) (b7 (af.e3 a b c d e f) I μ s w Q) w):cO 179 (.loop (lB (bB (sR (sL (dc (sR (body f19)))))))) Q (af.e3 a b c d e f s) w:=
 bI ng mix (af.e3 a b c d e f) I μ af.k af.u3 s (λs Q w=>af.B3 a b c d e f (s.1) (s.2.1) (s.2.2.1) (s.2.2.2) Q w) (λs Q w=>af.b3 a b c d e f (s.1) (s.2.1) (s.2.2.1) (s.2.2.2) Q w) h0 round
end
section
def af.yV(a:OA)(b:Addr)(c:OA)(d e:Nat)(f:Addr)(g:OA)(i j:Nat)(k:Int)(K:KT)(w:World):Prop:=
 ∃m:AV,(m.size=35/\Cells w f m)/\(m.size=35/\(∀n∈m.toList,n.oneCell'=true)/\∀o,o<35->Wr w (b.add o))/\let p:=setCells w b m.toList 0;∃q:AV,(q.size=35/\Cells p b q)/\K (.tuple #[.agg q,ao g i j]) p
variable(a:OA)(b:Addr)(c:OA)(d e:Nat)(f:Addr)(g:OA)(i j:Nat)(k:Int)(K:KT)(w:World)
theorem af.DF:(af.q3 K (.exit 4) [(0,au a),(6,au (some b)),(7,ao c d e),(8,au (some f)),(9,ao g i j),(15,ag k)] w)=af.yV a b c d e f g i j k K w:=by kernel_rfl
end
section
variable(a:OA)(b:Addr)(c:OA)(d e:Nat)(f:Addr)(g:OA)(i j:Nat)(k:Int)(m:OA)(n o:Nat)(p:Bool)(q:Int)(Q:aZ)(w:World)
def af.B4:Prop:=
 Split (decide (q<(n:Int))) (Split p (let r:=w.drew;(0<=q/\q<(n:Int))/\Is m λt:Addr=>∃u:AV,cS r (t.add (q.toNat*32)) u/\Is a λv:Addr=>∃x:Int,r.cell? (v.add 0)=some (ag x)/\bJ prog 61 #[au a,ao g i j,.agg u] r λy z=>∃a1:OA,∃b1 c1:Nat,y=ao a1 b1 c1/\z.cell? (v.add 0)=some (ag x)/\Q .normal [(0,au a),(6,au (some b)),(7,ao c d e),(8,au (some f)),(9,ao g i j),(15,ag k),(16,ao m n o),(17,.bool (decide ((b1:Int)<=(i64.wrap (x-(1:Int)))))),(18,ag (i64.wrap (q+(1:Int))))] z) (Q (.exit 6) [(0,au a),(6,au (some b)),(7,ao c d e),(8,au (some f)),(9,ao g i j),(15,ag k),(16,ao m n o),(17,.bool p),(18,ag q)] w)) (Q (.exit 6) [(0,au a),(6,au (some b)),(7,ao c d e),(8,au (some f)),(9,ao g i j),(15,ag k),(16,ao m n o),(17,.bool p),(18,ag q)] w)
theorem af.b4:(bz none [] prog 179 af.k (lB (bB (sR (sL (bf (bB (sL (sR (lB (bB (sR (sL (dc (sR (body f19))))))))))))))) af.u4 Q [(0,au a),(6,au (some b)),(7,ao c d e),(8,au (some f)),(9,ao g i j),(15,ag k),(16,ao m n o),(17,.bool p),(18,ag q)] w)=af.B4 a b c d e f g i j k m n o p q Q w:=by kernel_rfl
variable{a b c d e f g i j k m n o}
theorem af.Ka(I:Bool×Int->World->Prop)(μ:Bool×Int->World->Nat)(s:Bool×Int){Q:aZ}{w:World}(h0:I s w)
 (round:∀s w,I s w->af.B4 a b c d e f g i j k m n o (s.1) (s.2) (b7 (af.e4 a b c d e f g i j k m n o) I μ s w Q) w):cO 179 (.loop (lB (bB (sR (sL (bf (bB (sL (sR (lB (bB (sR (sL (dc (sR (body f19)))))))))))))))) Q (af.e4 a b c d e f g i j k m n o s) w:=
 bI ng mix (af.e4 a b c d e f g i j k m n o) I μ af.k af.u4 s (λs Q w=>af.B4 a b c d e f g i j k m n o (s.1) (s.2) Q w) (λs Q w=>af.b4 a b c d e f g i j k m n o (s.1) (s.2) Q w) h0 round
end
section
def af.FC(a:OA)(b:Addr)(c:OA)(d e:Nat)(f:Addr)(g:OA)(i j:Nat)(k:Int)(m:OA)(n o:Nat)(p:Bool)(q:Int)(Q:aZ)(w:World):Prop:=
 ∃r:OA,∃t u:Nat,w.cell? (f.add 34)=some (ao r t u)/\let v:=w.alloc (.cells #[.bool p] 4);∃(x:OA) (y z:Nat) (a1:World),(Builtin.append_ #[51,51] 51 #[ao r t u,ao (some (aU w.heap.size)) 1 1]).run prog v=.ok (ao x y z) a1/\Wr a1 (f.add 34)/\let b1:=a1.setCell (f.add 34) (ao x y z);Split p (∃c1:OA,∃d1 e1:Nat,b1.cell? (f.add 33)=some (ao c1 d1 e1)/\(0<=k/\k<(d1:Int))/\Is c1 λf1:Addr=>∃g1:AV,cS b1 (f1.add (k.toNat*32)) g1/\g1.size=32/\let i1:=b1.alloc (.cells (g1.toList++ []).toArray 24);∃(j1:OA) (k1 m1:Nat) (n1:World),(Builtin.append_ #[33,33] 33 #[ao g i j,ao (some (aU b1.heap.size)) 1 1]).run prog i1=.ok (ao j1 k1 m1) n1/\∃o1:Int,n1.cell? (f.add 32)=some (.int .u64 o1)/\Wr n1 (f.add 32)/\let p1:=n1.setCell (f.add 32) (.int .u64 (u64.wrap (o1+(1:Int))));Q .normal [(0,au a),(6,au (some b)),(7,ao c d e),(8,au (some f)),(9,ao j1 k1 m1),(15,ag (i64.wrap (k+(1:Int))))] p1) (Q .normal [(0,au a),(6,au (some b)),(7,ao c d e),(8,au (some f)),(9,ao g i j),(15,ag (i64.wrap (k+(1:Int))))] b1)
variable(a:OA)(b:Addr)(c:OA)(d e:Nat)(f:Addr)(g:OA)(i j:Nat)(k:Int)(m:OA)(n o:Nat)(p:Bool)(q:Int)(Q:aZ)(w:World)
theorem af.Jl:(af.q4 Q (.exit 6) [(0,au a),(6,au (some b)),(7,ao c d e),(8,au (some f)),(9,ao g i j),(15,ag k),(16,ao m n o),(17,.bool p),(18,ag q)] w)=af.FC a b c d e f g i j k m n o p q Q w:=by kernel_rfl
end
section
variable(a:OA)(b:AV)(K:KT)(w:World)
variable{a b K w}
end
section
variable(a b:OA)(c d:Nat)(e:OA)(f g:Nat)(i:OA)(j k:Nat)(m:Int)(Q:aZ)(w:World)
variable{a b c d i j k}
end
section
variable(a b:OA)(c d:Nat)(e:OA)(f g:Nat)(i:OA)(j k:Nat)(m:Int)(K:KT)(w:World)
end
def bQ.k:List Nat:= []
def bQ.q1(K:KT):aZ:=(aW 0 (dd (bf (sR (body f35)))++(bn f35)) (cH (λcM w_=>match cutAt bQ.k (bf (sR (body f35)))with|true=>cO 27 (bf (sR (body f35))) (cy prog f35 K) cM w_|false=>bz none [] prog 27 bQ.k (bf (sR (body f35))) (bn f35) (cy prog f35 K) cM w_) (cy prog f35 K)))
def bQ.e1(a b:OA)(c d:Nat)(s:Int×Int):Env:= [(0,au a),(1,ao b c d),(4,ag s.1),(5,ag s.2)]
def bQ.u1:List Nat:= [0,1,4,5]
section
variable(a b:OA)(d e:Nat)(K:KT)(w:World)
def bQ.W:Prop:=
 Split ((d:Int)==(0:Int)) (K (ag 9) w) (cO 27 (.loop (lB (bB (sR (sL (bf (body f35))))))) (bQ.q1 K) [(0,au a),(1,ao b d e),(4,ag 0),(5,ag 0)] w)
variable{a b d e K w}
theorem bQ.of(h:bQ.W a b d e K w):bJ prog 35 #[au a,ao b d e] w K:=
 rqq func35 (C:=bQ.k) h
end
section
variable(a b:OA)(c d:Nat)(e f:Int)(Q:aZ)(w:World)
def bQ.B1:Prop:=
 Split (decide (f<(c:Int))) (let g:=w.drew;Is a λi:Addr=>∃j:OA,g.cell? (i.add 1)=some (au j)/\Is j λk:Addr=>(0<=f/\f<(c:Int))/\Is b λm:Addr=>∃n:AV,cS g (m.add (f.toNat*32)) n/\bJ prog 16 #[au (some (k.add 0)),.agg n] g λo p=>∃q:Int,o=ag q/\Split (decide (q<(0:Int))) (Q .ret [(0,au a),(1,ao b c d),(4,ag 6),(5,ag f)] p) (Q .normal [(0,au a),(1,ao b c d),(4,ag e),(5,ag (i64.wrap (f+(1:Int))))] p)) (Q (.exit 0) [(0,au a),(1,ao b c d),(4,ag e),(5,ag f)] w)
theorem bQ.b1:(bz none [] prog 27 bQ.k (lB (bB (sR (sL (bf (body f35)))))) bQ.u1 Q [(0,au a),(1,ao b c d),(4,ag e),(5,ag f)] w)=bQ.B1 a b c d e f Q w:=by kernel_rfl
variable{a b c d}
theorem bQ.cP(I:Int×Int->World->Prop)(μ:Int×Int->World->Nat)(s:Int×Int){Q:aZ}{w:World}(h0:I s w)
 (round:∀s w,I s w->bQ.B1 a b c d (s.1) (s.2) (b7 (bQ.e1 a b c d) I μ s w Q) w):cO 27 (.loop (lB (bB (sR (sL (bf (body f35))))))) Q (bQ.e1 a b c d s) w:=
 bI ng mix (bQ.e1 a b c d) I μ bQ.k bQ.u1 s (λs Q w=>bQ.B1 a b c d (s.1) (s.2) Q w) (λs Q w=>bQ.b1 a b c d (s.1) (s.2) Q w) h0 round
end
section
def bQ.dA(a b:OA)(c d:Nat)(e f:Int)(K:KT)(w:World):Prop:=
 K (ag 0) w
variable(a b:OA)(c d:Nat)(e f:Int)(K:KT)(w:World)
theorem bQ.dJ:(bQ.q1 K (.exit 0) [(0,au a),(1,ao b c d),(4,ag e),(5,ag f)] w)=bQ.dA a b c d e f K w:=by kernel_rfl
end
def lO.k:List Nat:= []
section
variable(a:Int)(b:AV)(K:KT)(w:World)
def lO.W:Prop:=
 let d:=w.alloc (.cells b 24);∃e:AV,cS d (aU w.heap.size) e/\bJ prog 87 #[.agg e] d λf g=>∃i:OA,f=au i/\35=35/\let j:=g.alloc (.cells zC 53);let k:=j.alloc (.cells #[ao none 0 0] 33);let m:=k.alloc (.cells (#[ag a,au i,ao (some (aU g.heap.size)) 1 1,ao (some (aU j.heap.size)) 1 1]:AV) 47);K (au (some (aU k.heap.size))) m
variable{a b K w}
theorem lO.of(h:lO.W a b K w):bJ prog 43 #[ag a,.agg b] w K:=
 rqq func43 (C:=lO.k) h
end
def eU.k:List Nat:= []
section
variable(a:OA)(b:AV)(d:OA)(e f:Nat)(K:KT)(w:World)
def eU.W:Prop:=
 let g:=w.alloc (.cells b 24);let i:=g.alloc (.cells zC 53);Is a λj:Addr=>∃k:OA,i.cell? (j.add 1)=some (au k)/\Is k λm:Addr=>∃n:AV,(n.size=1/\Cells i (m.add 0) n)/\let o:=i.alloc (.cells (#[ao none 0 0]:AV) 40);(n.size=1/\(∀p∈n.toList,p.oneCell'=true)/\∀q,q<1->Wr o ((aU i.heap.size).add q))/\let r:=setCells o (aU i.heap.size) n.toList 0;∃t:AV,cS r (aU w.heap.size) t/\bJ prog 88 #[au (some (aU i.heap.size)),.agg t,ao d e f] r λu v=>∃x:Int,u=ag x/\Split (x != (0:Int)) ((zC.size=35/\(∀y∈zC.toList,y.oneCell'=true)/\∀z,z<35->Wr v ((aU g.heap.size).add z))/\let a1:=setCells v (aU g.heap.size) zC.toList 0;∃b1:AV,(b1.size=35/\Cells a1 (aU g.heap.size) b1)/\K (.tuple #[.agg b1,ag x]) a1) (bJ prog 81 #[au a,ao d e f] v λc1 d1=>∃e1:AV,c1=.agg e1/\let f1:=d1.alloc (.cells zH 24);(e1.size=32/\(∀g1∈e1.toList,g1.oneCell'=true)/\∀i1,i1<32->Wr f1 ((aU d1.heap.size).add i1))/\let j1:=setCells f1 (aU d1.heap.size) e1.toList 0;∃k1:AV,cS j1 (aU d1.heap.size) k1/\bJ prog 19 #[au a,.agg k1,ao d e f] j1 λm1 n1=>∃o1:AV,∃p1:OA,∃q1 r1:Nat,m1=.tuple #[.agg o1,ao p1 q1 r1]/\let t1:=n1.alloc (.cells zC 53);(o1.size=35/\(∀u1∈o1.toList,u1.oneCell'=true)/\∀v1,v1<35->Wr t1 ((aU n1.heap.size).add v1))/\let x1:=setCells t1 (aU n1.heap.size) o1.toList 0;let y1:=x1.drew;Is a λz1:Addr=>∃a2:OA,y1.cell? (z1.add 1)=some (au a2)/\∃b2:AV,cS y1 (aU w.heap.size) b2/\∃c2:AV,cS y1 (aU d1.heap.size) c2/\bJ prog 89 #[au a2,.agg b2,.agg c2,ao d e f] y1 λd2 e2=>∃f2:Int,d2=ag f2/\let g2:=e2.drew;Is a λi2:Addr=>∃j2:OA,∃k2 m2:Nat,g2.cell? (i2.add 2)=some (ao j2 k2 m2)/\∃n2:AV,(n2.size=35/\Cells g2 (aU n1.heap.size) n2)/\(∃(o2:OA) (p2 q2:Nat) (r2:World),(Builtin.append_ #[44,44] 44 #[ao none 0 0,ao j2 k2 m2]).run prog g2=.ok (ao o2 p2 q2) r2/\(∃cs:AV,(.agg n2:Value)=.agg cs/\cs.size=35/\Cells r2 (aU n1.heap.size) cs)/\n2.size=35/\let t2:=r2.alloc (.cells (n2.toList++ []).toArray 53);∃(u2:OA) (v2 x2:Nat) (y2:World),(Builtin.append_ #[44,44] 44 #[ao o2 p2 q2,ao (some (aU r2.heap.size)) 1 1]).run prog t2=.ok (ao u2 v2 x2) y2/\Is a λz2:Addr=>Wr y2 (z2.add 2)/\let a3:=y2.setCell (z2.add 2) (ao u2 v2 x2);Is a λb3:Addr=>∃c3:OA,∃d3 e3:Nat,a3.cell? (b3.add 3)=some (ao c3 d3 e3)/\∃(f3:OA) (g3 i3:Nat) (j3:World),(Builtin.append_ #[45,45] 45 #[ao none 0 0,ao c3 d3 e3]).run prog a3=.ok (ao f3 g3 i3) j3/\let k3:=j3.alloc (.cells #[ao p1 q1 r1] 33);∃(m3:OA) (n3 o3:Nat) (p3:World),(Builtin.append_ #[45,45] 45 #[ao f3 g3 i3,ao (some (aU j3.heap.size)) 1 1]).run prog k3=.ok (ao m3 n3 o3) p3/\Is a λq3:Addr=>Wr p3 (q3.add 3)/\let r3:=p3.setCell (q3.add 3) (ao m3 n3 o3);∃t3:AV,(t3.size=35/\Cells r3 (aU n1.heap.size) t3)/\(t3.size=35/\(∀u3∈t3.toList,u3.oneCell'=true)/\∀v3,v3<35->Wr r3 ((aU g.heap.size).add v3))/\let x3:=setCells r3 (aU g.heap.size) t3.toList 0;∃y3:AV,(y3.size=35/\Cells x3 (aU g.heap.size) y3)/\K (.tuple #[.agg y3,ag 0]) x3)/\(n2.size=35/\let z3:=g2.alloc (.cells (n2.toList++ []).toArray 53);z3.cell? (i2.add 2)=some (ao j2 k2 m2)/\∃(a4:OA) (b4 c4:Nat) (d4:World),(Builtin.append_ #[44,44] 44 #[ao none 0 0,ao j2 k2 m2]).run prog z3=.ok (ao a4 b4 c4) d4/\∃(e4:OA) (f4 g4:Nat) (i4:World),(Builtin.append_ #[44,44] 44 #[ao a4 b4 c4,ao (some (aU g2.heap.size)) 1 1]).run prog d4=.ok (ao e4 f4 g4) i4/\Is a λj4:Addr=>Wr i4 (j4.add 2)/\let k4:=i4.setCell (j4.add 2) (ao e4 f4 g4);Is a λm4:Addr=>∃n4:OA,∃o4 p4:Nat,k4.cell? (m4.add 3)=some (ao n4 o4 p4)/\∃(q4:OA) (r4 t4:Nat) (u4:World),(Builtin.append_ #[45,45] 45 #[ao none 0 0,ao n4 o4 p4]).run prog k4=.ok (ao q4 r4 t4) u4/\let v4:=u4.alloc (.cells #[ao p1 q1 r1] 33);∃(x4:OA) (y4 z4:Nat) (a5:World),(Builtin.append_ #[45,45] 45 #[ao q4 r4 t4,ao (some (aU u4.heap.size)) 1 1]).run prog v4=.ok (ao x4 y4 z4) a5/\Is a λb5:Addr=>Wr a5 (b5.add 3)/\let c5:=a5.setCell (b5.add 3) (ao x4 y4 z4);∃d5:AV,(d5.size=35/\Cells c5 (aU n1.heap.size) d5)/\(d5.size=35/\(∀e5∈d5.toList,e5.oneCell'=true)/\∀f5,f5<35->Wr c5 ((aU g.heap.size).add f5))/\let g5:=setCells c5 (aU g.heap.size) d5.toList 0;∃i5:AV,(i5.size=35/\Cells g5 (aU g.heap.size) i5)/\K (.tuple #[.agg i5,ag 0]) g5))
variable{a b d e f K w}
theorem eU.of(h:eU.W a b d e f K w):bJ prog 44 #[au a,.agg b,ao d e f] w K:=
 rqq func44 (C:=eU.k) h
end
def fp.k:List Nat:= []
section
variable(a:OA)(b d:AV)(K:KT)(w:World)
def fp.W:Prop:=
 let e:=w.alloc (.cells b 24);let f:=e.alloc (.cells d 24);let g:=f.drew;∃i:AV,cS g (aU w.heap.size) i/\∃j:AV,cS g (aU e.heap.size) j/\bJ prog 60 #[au a,.agg i] g λk m=>∃n:Int,k=.int .u64 n/\(∃cs:AV,(.agg j:Value)=.agg cs/\cs.size=32/\Cells m (aU e.heap.size) cs)/\bJ prog 60 #[au a,.agg j] m λo p=>∃q:Int,o=.int .u64 q/\Split (n != q) (K (.bool (decide (n<q))) p) (∃r:AV,cS p (aU w.heap.size) r/\∃t:AV,cS p (aU e.heap.size) t/\bJ prog 75 #[.agg r,.agg t] p λu v=>∃x:Int,u=ag x/\K (.bool (decide (x<(0:Int)))) v)
variable{a b d K w}
theorem fp.of(h:fp.W a b d K w):bJ prog 59 #[au a,.agg b,.agg d] w K:=
 rqq func59 (C:=fp.k) h
end
def eK.k:List Nat:= []
section
variable(a:OA)(b:AV)(K:KT)(w:World)
def eK.W:Prop:=
 let d:=w.alloc (.cells b 24);let e:=d.drew;Is a λf:Addr=>∃g:OA,∃i j:Nat,e.cell? (f.add 2)=some (ao g i j)/\Is a λk:Addr=>∃m:OA,e.cell? (k.add 1)=some (au m)/\Is m λn:Addr=>∃o:AV,cS e (aU w.heap.size) o/\bJ prog 16 #[au (some (n.add 0)),.agg o] e λp q=>∃r:Int,p=ag r/\q.cell? (f.add 2)=some (ao g i j)/\(0<=r/\r<(i:Int))/\Is g λt:Addr=>∃u:Int,q.cell? ((t.add (r.toNat*35)).add 32)=some (.int .u64 u)/\K (.int .u64 u) q
variable{a b K w}
theorem eK.of(h:eK.W a b K w):bJ prog 60 #[au a,.agg b] w K:=
 rqq func60 (C:=eK.k) h
end
def bK.k:List Nat:= []
def bK.q1(K:KT):aZ:=(aW 0 (dd (bf (sR (body f61)))++(bn f61)) (cH (λcM w_=>match cutAt bK.k (bf (sR (body f61)))with|true=>cO 35 (bf (sR (body f61))) (cy prog f61 K) cM w_|false=>bz none [] prog 35 bK.k (bf (sR (body f61))) (bn f61) (cy prog f61 K) cM w_) (cy prog f61 K)))
def bK.e1(a b:OA)(c d:Nat)(e:Addr)(f:OA)(g i:Nat)(s:(OA)×Nat×Nat×Int):Env:= [(0,au a),(1,ao b c d),(5,au (some e)),(6,ao f g i),(7,ao s.1 s.2.1 s.2.2.1),(8,ag s.2.2.2)]
def bK.u1:List Nat:= [0,1,5,6,7,8]
section
variable(a b:OA)(d e:Nat)(f:AV)(K:KT)(w:World)
def bK.W:Prop:=
 let g:=w.alloc (.cells f 24);cO 35 (.loop (lB (bB (sR (sL (bf (body f61))))))) (bK.q1 K) [(0,au a),(1,ao b d e),(5,au (some (aU w.heap.size))),(6,ao none 0 0),(7,ao none 0 0),(8,ag 0)] g
variable{a b d e f K w}
theorem bK.of(h:bK.W a b d e f K w):bJ prog 61 #[au a,ao b d e,.agg f] w K:=
 rqq func61 (C:=bK.k) h
end
section
variable(a b:OA)(c d:Nat)(e:Addr)(f:OA)(g i:Nat)(j:OA)(k m:Nat)(n:Int)(Q:aZ)(w:World)
def bK.B1:Prop:=
 Split (decide (n<(c:Int))) (let o:=w.drew;Is a λp:Addr=>∃q:OA,o.cell? (p.add 1)=some (au q)/\Is q λr:Addr=>(0<=n/\n<(c:Int))/\Is b λt:Addr=>∃u:AV,cS o (t.add (n.toNat*32)) u/\∃v:AV,cS o e v/\bJ prog 104 #[au (some (r.add 0)),.agg u,.agg v] o λx y=>∃z:Bool,x=.bool z/\Split z ((0<=n/\n<(c:Int))/\Is b λa1:Addr=>∃b1:AV,cS y (a1.add (n.toNat*32)) b1/\b1.size=32/\let c1:=y.alloc (.cells (b1.toList++ []).toArray 24);∃(d1:OA) (e1 f1:Nat) (g1:World),(Builtin.append_ #[33,33] 33 #[ao j k m,ao (some (aU y.heap.size)) 1 1]).run prog c1=.ok (ao d1 e1 f1) g1/\Q .normal [(0,au a),(1,ao b c d),(5,au (some e)),(6,ao f g i),(7,ao d1 e1 f1),(8,ag (i64.wrap (n+(1:Int))))] g1) (Q .normal [(0,au a),(1,ao b c d),(5,au (some e)),(6,ao f g i),(7,ao j k m),(8,ag (i64.wrap (n+(1:Int))))] y)) (Q (.exit 0) [(0,au a),(1,ao b c d),(5,au (some e)),(6,ao f g i),(7,ao j k m),(8,ag n)] w)
theorem bK.b1:(bz none [] prog 35 bK.k (lB (bB (sR (sL (bf (body f61)))))) bK.u1 Q [(0,au a),(1,ao b c d),(5,au (some e)),(6,ao f g i),(7,ao j k m),(8,ag n)] w)=bK.B1 a b c d e f g i j k m n Q w:=by kernel_rfl
variable{a b c d e f g i}
theorem bK.cP(I:(OA)×Nat×Nat×Int->World->Prop)(μ:(OA)×Nat×Nat×Int->World->Nat)(s:(OA)×Nat×Nat×Int){Q:aZ}{w:World}(h0:I s w)
 (round:∀s w,I s w->bK.B1 a b c d e f g i (s.1) (s.2.1) (s.2.2.1) (s.2.2.2) (b7 (bK.e1 a b c d e f g i) I μ s w Q) w):cO 35 (.loop (lB (bB (sR (sL (bf (body f61))))))) Q (bK.e1 a b c d e f g i s) w:=
 bI ng mix (bK.e1 a b c d e f g i) I μ bK.k bK.u1 s (λs Q w=>bK.B1 a b c d e f g i (s.1) (s.2.1) (s.2.2.1) (s.2.2.2) Q w) (λs Q w=>bK.b1 a b c d e f g i (s.1) (s.2.1) (s.2.2.1) (s.2.2.2) Q w) h0 round
end
section
def bK.dA(a b:OA)(c d:Nat)(e:Addr)(f:OA)(g i:Nat)(j:OA)(k m:Nat)(n:Int)(K:KT)(w:World):Prop:=
 K (ao j k m) w
variable(a b:OA)(c d:Nat)(e:Addr)(f:OA)(g i:Nat)(j:OA)(k m:Nat)(n:Int)(K:KT)(w:World)
theorem bK.dJ:(bK.q1 K (.exit 0) [(0,au a),(1,ao b c d),(5,au (some e)),(6,ao f g i),(7,ao j k m),(8,ag n)] w)=bK.dA a b c d e f g i j k m n K w:=by kernel_rfl
end
def bD.k:List Nat:= []
def bD.q1(K:KT):aZ:=(aW 0 (dd (bf (sR (body f81)))++(bn f81)) (cH (λcM w_=>match cutAt bD.k (bf (sR (body f81)))with|true=>cO 28 (bf (sR (body f81))) (cy prog f81 K) cM w_|false=>bz none [] prog 28 bD.k (bf (sR (body f81))) (bn f81) (cy prog f81 K) cM w_) (cy prog f81 K)))
def bD.e1(a b:OA)(c d:Nat)(e f:Addr)(s:Int):Env:= [(0,au a),(1,ao b c d),(4,au (some e)),(5,au (some f)),(6,ag s)]
def bD.u1:List Nat:= [0,1,4,5,6]
section
variable(a b:OA)(d e:Nat)(K:KT)(w:World)
def bD.W:Prop:=
 let f:=w.alloc (.cells zH 24);(0<=(0:Int)/\(0:Int)<(d:Int))/\Is b λg:Addr=>∃i:AV,cS f (g.add ((0:Int).toNat*32)) i/\let j:=f.alloc (.cells zH 24);(i.size=32/\(∀k∈i.toList,k.oneCell'=true)/\∀m,m<32->Wr j ((aU f.heap.size).add m))/\let n:=setCells j (aU f.heap.size) i.toList 0;cO 28 (.loop (lB (bB (sR (sL (bf (body f81))))))) (bD.q1 K) [(0,au a),(1,ao b d e),(4,au (some (aU w.heap.size))),(5,au (some (aU f.heap.size))),(6,ag 1)] n
variable{a b d e K w}
theorem bD.of(h:bD.W a b d e K w):bJ prog 81 #[au a,ao b d e] w K:=
 rqq func81 (C:=bD.k) h
end
section
variable(a b:OA)(c d:Nat)(e f:Addr)(g:Int)(Q:aZ)(w:World)
def bD.B1:Prop:=
 Split (decide (g<(c:Int))) (let i:=w.drew;∃j:AV,cS i f j/\(0<=g/\g<(c:Int))/\Is b λk:Addr=>∃m:AV,cS i (k.add (g.toNat*32)) m/\bJ prog 59 #[au a,.agg j,.agg m] i λn o=>∃p:Bool,n=.bool p/\Split p ((0<=g/\g<(c:Int))/\Is b λq:Addr=>∃r:AV,cS o (q.add (g.toNat*32)) r/\(r.size=32/\(∀t∈r.toList,t.oneCell'=true)/\∀u,u<32->Wr o (f.add u))/\let v:=setCells o f r.toList 0;Q .normal [(0,au a),(1,ao b c d),(4,au (some e)),(5,au (some f)),(6,ag (i64.wrap (g+(1:Int))))] v) (Q .normal [(0,au a),(1,ao b c d),(4,au (some e)),(5,au (some f)),(6,ag (i64.wrap (g+(1:Int))))] o)) (Q (.exit 0) [(0,au a),(1,ao b c d),(4,au (some e)),(5,au (some f)),(6,ag g)] w)
theorem bD.b1:(bz none [] prog 28 bD.k (lB (bB (sR (sL (bf (body f81)))))) bD.u1 Q [(0,au a),(1,ao b c d),(4,au (some e)),(5,au (some f)),(6,ag g)] w)=bD.B1 a b c d e f g Q w:=by kernel_rfl
variable{a b c d e f}
theorem bD.cP(I:Int->World->Prop)(μ:Int->World->Nat)(s:Int){Q:aZ}{w:World}(h0:I s w)
 (round:∀s w,I s w->bD.B1 a b c d e f s (b7 (bD.e1 a b c d e f) I μ s w Q) w):cO 28 (.loop (lB (bB (sR (sL (bf (body f81))))))) Q (bD.e1 a b c d e f s) w:=
 bI ng mix (bD.e1 a b c d e f) I μ bD.k bD.u1 s (λs Q w=>bD.B1 a b c d e f s Q w) (λs Q w=>bD.b1 a b c d e f s Q w) h0 round
end
section
def bD.dA(a b:OA)(c d:Nat)(e f:Addr)(g:Int)(K:KT)(w:World):Prop:=
 ∃i:AV,cS w f i/\(i.size=32/\(∀j∈i.toList,j.oneCell'=true)/\∀k,k<32->Wr w (e.add k))/\let m:=setCells w e i.toList 0;∃n:AV,cS m e n/\K (.agg n) m
variable(a b:OA)(c d:Nat)(e f:Addr)(g:Int)(K:KT)(w:World)
theorem bD.dJ:(bD.q1 K (.exit 0) [(0,au a),(1,ao b c d),(4,au (some e)),(5,au (some f)),(6,ag g)] w)=bD.dA a b c d e f g K w:=by kernel_rfl
end
section
variable(a:OA)(b:AV)(K:KT)(w:World)
variable{a b K w}
end
section
variable(a:OA)(b:AV)(K:KT)(w:World)
variable{a b K w}
end
section
variable(a:OA)(b:AV)(d:OA)(e f:Nat)(K:KT)(w:World)
variable{a b d e f K w}
end
section
variable(a:OA)(b d:AV)(K:KT)(w:World)
variable{a b d K w}
end
section
variable(a b:OA)(d e:Nat)(K:KT)(w:World)
variable{a b d e K w}
end
section
variable(a:OA)(b:Int)(c:OA)(d e:Nat)(f g:Int)(Q:aZ)(w:World)
variable{a c d e f}
end
section
variable(a:OA)(b:Int)(c:OA)(d e:Nat)(f g:Int)(K:KT)(w:World)
end
section
variable(a:OA)(b:AV)(K:KT)(w:World)
variable{a b K w}
end
section
variable(a:OA)(b d:Nat)(K:KT)(w:World)
variable{a b d K w}
end
section
variable(a:OA)(b c:Nat)(d e:Int)(Q:aZ)(w:World)
variable{a b c}
end
section
variable(a:OA)(b c:Nat)(d e:Int)(K:KT)(w:World)
end
section
variable(a:Nat)(b d:Addr)(K:KT)(w:World)
variable{a b d K w}
end
section
variable(a:Nat)(b:Addr)(c:OA)(d e:Nat)(f g:Int)(Q:aZ)(w:World)
variable{a b c d e f}
end
section
variable(a:Nat)(b:Addr)(c:OA)(d e:Nat)(f g:Int)(K:KT)(w:World)
end
section
variable(a:OA)(b:AV)(K:KT)(w:World)
variable{a b K w}
end
section
variable(l:Nat)(a:OA)(b c:Nat)(d:Int)(e:Addr)(f:Value)(g:AV)(i:OA)(j k:Nat)(Q:aZ)(w:World)
end
section
variable(l:Nat)(a:Addr)(b:OA)(c d:Nat)(Q:aZ)(w:World)
end
section
variable(a:OA)(b c:Nat)(d:Int)(e:Addr)(f:Value)(ms:AV)(K:KT)(w:World)
end
section
variable(a:OA)(b d:AV)(K:KT)(w:World)
variable{a b d K w}
end
section
variable(l:Nat)(a b c:Addr)(d:Value)(e:AV)(f:OA)(g i:Nat)(Q:aZ)(w:World)
end
section
variable(l:Nat)(a b c d:Addr)(e:OA)(f g:Nat)(Q:aZ)(w:World)
end
section
variable(a b c:Addr)(d:Value)(ms:AV)(K:KT)(w:World)
end
section
variable(a b c:Addr)(d:Value)(ms:AV)(K:KT)(w:World)
end
section
variable(a:Int)(b:AV)(d:OA)(e f:Nat)(K:KT)(w:World)
variable{a b d e f K w}
end
section
variable(a:Bool)(b c:OA)(d:Int)(Q:aZ)(w:World)
variable{b c}
end
section
variable(a:Bool)(b c:OA)(d:Int)(K:KT)(w:World)
end
section
variable(a:Bool)(b c:OA)(d:Int)(e:Addr)(f:OA)(g i:Nat)(j:Int)(Q:aZ)(w:World)
variable{b c d e f g i}
end
section
variable(a:Bool)(b c:OA)(d:Int)(e:Addr)(f:OA)(g i:Nat)(j:Int)(Q:aZ)(w:World)
end
section
variable(a:Bool)(b c:OA)(d:Int)(e:Addr)(f:OA)(g i:Nat)(j k:Int)(Q:aZ)(w:World)
variable{b c d e f g i j}
end
section
variable(a:Bool)(b c:OA)(d:Int)(e:Addr)(f:OA)(g i:Nat)(j k:Int)(Q:aZ)(w:World)
end
section
variable(a:Bool)(b c:OA)(d:Int)(e:OA)(f g:Nat)(i:OA)(j k:Nat)(m:Int)(Q:aZ)(w:World)
variable{b c d e f g i j k}
end
section
variable(a:Bool)(b c:OA)(d:Int)(e:OA)(f g:Nat)(i:OA)(j k:Nat)(m:Int)(Q:aZ)(w:World)
end
section
variable(a:Int)(b:AV)(d:OA)(e f:Nat)(g:AV)(i:OA)(j k:Nat)(K:KT)(w:World)
variable{a b d e f g i j k K w}
end
section
variable(a:Int)(b:AV)(d:OA)(e f:Nat)(K:KT)(w:World)
variable{a b d e f K w}
end
section
variable(a:Bool)(b c:OA)(d:Int)(Q:aZ)(w:World)
variable{b c}
end
section
variable(a:Bool)(b c:OA)(d:Int)(K:KT)(w:World)
end
section
variable(a:Bool)(b c:OA)(d:Int)(e:Addr)(f:OA)(g i:Nat)(j:OA)(k m:Nat)(n:Int)(Q:aZ)(w:World)
variable{b c d e f g i j k m}
end
section
variable(a:Bool)(b c:OA)(d:Int)(e:Addr)(f:OA)(g i:Nat)(j:OA)(k m:Nat)(n:Int)(Q:aZ)(w:World)
end
section
variable(a:Bool)(b c:OA)(d:Int)(e:Addr)(f:OA)(g i:Nat)(j:OA)(k m:Nat)(n:Int)(o:Addr)(p q:Int)(Q:aZ)(w:World)
variable{a b c d e f g i j k m n o}
end
section
variable(a:Bool)(b c:OA)(d:Int)(e:Addr)(f:OA)(g i:Nat)(j:OA)(k m:Nat)(n:Int)(o:Addr)(p q:Int)(Q:aZ)(w:World)
end
section
variable(a:Int)(b:AV)(d:OA)(e f:Nat)(K:KT)(w:World)
variable{a b d e f K w}
end
section
variable(a:Int)(b:OA)(c d:Nat)(e:Addr)(f g:OA)(i j:Bool)(k:Int)(Q:aZ)(w:World)
variable{a b c d e}
end
section
variable(a:Int)(b:OA)(c d:Nat)(e:Addr)(f g:OA)(i j:Bool)(k:Int)(K:KT)(w:World)
end
section
variable(a:OA)(b c:Nat)(d e:OA)(f g:Bool)(i j:OA)(k:Int)(Q:aZ)(w:World)
variable{a b c i j}
end
section
variable(a:OA)(b c:Nat)(d e:OA)(f g:Bool)(i j:OA)(k:Int)(K:KT)(w:World)
end
section
variable(a:OA)(b c:Nat)(d e:OA)(f g:Bool)(i j:OA)(k m:Int)(Q:aZ)(w:World)
variable{a b c d e f g i j k m Q w}
end
section
variable(a:OA)(b c:Nat)(d e:OA)(f g:Bool)(i j:OA)(k m n:Int)(Q:aZ)(w:World)
variable{a b c d e f g i j k m n Q w}
end
section
variable(K:KT)(w:World)
variable{K w}
end
section
variable(a:OA)(b d:Nat)(K:KT)(w:World)
variable{a b d K w}
end
section
variable(a:OA)(b c:Nat)(d:OA)(e f:Nat)(g:OA)(i j:Nat)(k:Int)(Q:aZ)(w:World)
variable{a b c d e f}
end
section
variable(a:OA)(b c:Nat)(d:OA)(e f:Nat)(g:OA)(i j:Nat)(k:Int)(K:KT)(w:World)
end
section
variable(a:Int)(b:AV)(d:OA)(e f:Nat)(g:AV)(K:KT)(w:World)
variable{a b d e f g K w}
end
section
variable(a:Addr)(b:OA)(c:Addr)(d:OA)(e f:Nat)(g:Int)(Q:aZ)(w:World)
variable{a b c}
end
section
variable(a:Addr)(b:OA)(c:Addr)(d:OA)(e f:Nat)(g:Int)(K:KT)(w:World)
end
section
variable(a:Addr)(b:OA)(c:Addr)(d:OA)(e f:Nat)(g:Int)(i:AV)(Q:aZ)(w:World)
variable{a b c d e f}
end
section
variable(a:Addr)(b:OA)(c:Addr)(d:OA)(e f:Nat)(g:Int)(i:AV)(K:KT)(w:World)
end
section
variable(a:Addr)(b:OA)(c:Addr)(d:OA)(e f:Nat)(g:Int)(i j:Addr)(k:AV)(Q:aZ)(w:World)
variable{a b c d e f g i j k Q w}
end
section
variable(l:Nat)(a:Addr)(b:OA)(c:Addr)(d:OA)(e f:Nat)(g:Int)(i j:Addr)(k:OA)(m n:Nat)(o:Int)(p:OA)(q r:Nat)(t:Int)(u v:Addr)(x:Value)(y:AV)(z:OA)(aa ba:Nat)(Q:aZ)(w:World)
end
section
variable(l:Nat)(a b c d e f:Addr)(g:OA)(i j:Nat)(Q:aZ)(w:World)
end
section
variable(a:Addr)(b:OA)(c:Addr)(d:OA)(e f:Nat)(g:Int)(i j:Addr)(k:OA)(m n:Nat)(o:Int)(p:OA)(q r:Nat)(t:Int)(u v:Addr)(x:Value)(y ms:AV)(Q:aZ)(w:World)
end
section
variable(a:Addr)(b:OA)(c:Addr)(d:OA)(e f:Nat)(g:Int)(i j:Addr)(k:OA)(m n:Nat)(o:Int)(p:OA)(q r:Nat)(t:Int)(u v:Addr)(x:Value)(y ms:AV)(Q:aZ)(w:World)
end
abbrev I3(v:Value):Array Value:= #[v,.int .u8 0,.int .u8 0,.int .u8 0,.int .u8 0,.int .u8 0,.int .u8 0,.int .u8 0,.int .u8 0,.int .u8 0,.int .u8 0,.int .u8 0,.int .u8 0,.int .u8 0,.int .u8 0,.int .u8 0,.int .u8 0,.int .u8 0,.int .u8 0,.int .u8 0,.int .u8 0,.int .u8 0,.int .u8 0,.int .u8 0,.int .u8 0,.int .u8 0,.int .u8 0,.int .u8 0,.int .u8 0,.int .u8 0,.int .u8 0,.int .u8 0,.int .u8 0,.int .u8 0,.int .u8 0,.int .u8 0,.int .u8 0,.int .u8 0,.int .u8 0,.int .u8 0,.int .u8 0,.int .u8 0,.int .u8 0,.int .u8 0,.int .u8 0,.int .u8 0,.int .u8 0,.int .u8 0,.int .u8 0,.int .u8 0,.int .u8 0,.int .u8 0,.int .u8 0,.int .u8 0,.int .u8 0,.int .u8 0,.int .u8 0,.int .u8 0,.int .u8 0,.int .u8 0,.int .u8 0,.int .u8 0,.int .u8 0,.int .u8 0,.int .u8 0,.int .u8 0,.int .u8 0,.int .u8 0,.int .u8 0,.int .u8 0,.int .u8 0,.int .u8 0,.int .u8 0,.int .u8 0,.int .u8 0,.int .u8 0,.int .u8 0,.int .u8 0,.int .u8 0,.int .u8 0,.int .u8 0,.int .u8 0,.int .u8 0,.int .u8 0,.int .u8 0,.int .u8 0,.int .u8 0,.int .u8 0,.int .u8 0,.int .u8 0,.int .u8 0,.int .u8 0,.int .u8 0,.int .u8 0,.int .u8 0,.int .u8 0,.int .u8 0,.int .u8 0,.int .u8 0,.int .u8 0,.int .u8 0,.int .u8 0,.int .u8 0,.int .u8 0,.int .u8 0,.int .u8 0,.int .u8 0,.int .u8 0,.int .u8 0,.int .u8 0,.int .u8 0,.int .u8 0,.int .u8 0,.int .u8 0,.int .u8 0,.int .u8 0,.int .u8 0,.int .u8 0,.int .u8 0,.int .u8 0,.int .u8 0,.int .u8 0,.int .u8 0,.int .u8 0,.int .u8 0,.int .u8 0,.int .u8 0,.int .u8 0,.int .u8 0,.int .u64 0]
def aK.k:List Nat:= [16,17]
def aK.q1(K:KT):aZ:=(aW 0 (dd (bf (sR (body f12)))++(bn f12)) (cH (λcM w_=>match cutAt aK.k (bf (sR (body f12)))with|true=>cO 99 (bf (sR (body f12))) (cy prog f12 K) cM w_|false=>bz none [] prog 99 aK.k (bf (sR (body f12))) (bn f12) (cy prog f12 K) cM w_) (cy prog f12 K)))
def aK.e1(a:Int)(b:OA)(c d:Nat)(e:Addr)(s:(OA)×(OA)×Bool×Bool×Int):Env:= [(0,ag a),(2,ao b c d),(4,au (some e)),(6,au s.1),(7,au s.2.1),(8,.bool s.2.2.1),(9,.bool s.2.2.2.1),(10,ag s.2.2.2.2)]
def aK.u1:List Nat:= [0,2,4,6,7,8,9,10]
def aK.q2(K:KT):aZ:=(aW 2 (dd (dc (bf (sR (body f12))))++(bn f12)) (cH (λcM w_=>match cutAt aK.k (dc (bf (sR (body f12))))with|true=>cO 99 (dc (bf (sR (body f12)))) (cy prog f12 K) cM w_|false=>bz none [] prog 99 aK.k (dc (bf (sR (body f12)))) (bn f12) (cy prog f12 K) cM w_) (cy prog f12 K)))
def aK.e2(a:OA)(b c:Nat)(d e:OA)(s:(OA)×(OA)×Bool×Bool×Int):Env:= [(2,ao a b c),(6,au s.1),(7,au s.2.1),(8,.bool s.2.2.1),(9,.bool s.2.2.2.1),(11,au d),(13,au e),(14,ag s.2.2.2.2)]
def aK.u2:List Nat:= [2,6,7,8,9,11,13,14]
section
variable(a:Int)(b:AV)(d:OA)(e f:Nat)(K:KT)(w:World)
def aK.W:Prop:=
 let g:=w.alloc (.cells b 24);Split (decide (a<(0:Int))) (K (.tuple #[au none,au none,.bool false,.bool true]) g) (Split (decide (a>(6:Int))) (K (.tuple #[au none,au none,.bool false,.bool true]) g) (Split (decide ((e:Int)>(18:Int))) (K (.tuple #[au none,au none,.bool false,.bool true]) g) (cO 99 (.loop (lB (bB (sR (sL (bf (body f12))))))) (aK.q1 K) [(0,ag a),(2,ao d e f),(4,au (some (aU w.heap.size))),(6,au none),(7,au none),(8,.bool false),(9,.bool false),(10,ag 0)] g)))
variable{a b d e f K w}
theorem aK.of(h:aK.W a b d e f K w):bJ prog 12 #[ag a,.agg b,ao d e f] w K:=
 rqq func12 (C:=aK.k) h
end
section
variable(a:Int)(b:OA)(c d:Nat)(e:Addr)(f g:OA)(i j:Bool)(k:Int)(Q:aZ)(w:World)
def aK.B1:Prop:=
 Split (decide (k<(c:Int))) ((0<=k/\k<(c:Int))/\Is b λm:Addr=>∃n:OA,∃o p:Nat,w.cell? ((m.add (k.toNat*33)).add 32)=some (ao n o p)/\Split (decide ((o:Int)>(6:Int))) (Q .ret [(0,ag a),(2,ao b c d),(4,au (some e)),(6,au none),(7,au none),(8,.bool false),(9,.bool true),(10,ag k)] w) (Q .normal [(0,ag a),(2,ao b c d),(4,au (some e)),(6,au f),(7,au g),(8,.bool i),(9,.bool j),(10,ag (i64.wrap (k+(1:Int))))] w)) (Q (.exit 0) [(0,ag a),(2,ao b c d),(4,au (some e)),(6,au f),(7,au g),(8,.bool i),(9,.bool j),(10,ag k)] w)
theorem aK.b1:(bz none [] prog 99 aK.k (lB (bB (sR (sL (bf (body f12)))))) aK.u1 Q [(0,ag a),(2,ao b c d),(4,au (some e)),(6,au f),(7,au g),(8,.bool i),(9,.bool j),(10,ag k)] w)=aK.B1 a b c d e f g i j k Q w:=by kernel_rfl
variable{a b c d e}
theorem aK.cP(I:(OA)×(OA)×Bool×Bool×Int->World->Prop)(μ:(OA)×(OA)×Bool×Bool×Int->World->Nat)(s:(OA)×(OA)×Bool×Bool×Int){Q:aZ}{w:World}(h0:I s w)
 (round:∀s w,I s w->aK.B1 a b c d e (s.1) (s.2.1) (s.2.2.1) (s.2.2.2.1) (s.2.2.2.2) (b7 (aK.e1 a b c d e) I μ s w Q) w):cO 99 (.loop (lB (bB (sR (sL (bf (body f12))))))) Q (aK.e1 a b c d e s) w:=
 bI ng mix (aK.e1 a b c d e) I μ aK.k aK.u1 s (λs Q w=>aK.B1 a b c d e (s.1) (s.2.1) (s.2.2.1) (s.2.2.2.1) (s.2.2.2.2) Q w) (λs Q w=>aK.b1 a b c d e (s.1) (s.2.1) (s.2.2.1) (s.2.2.2.1) (s.2.2.2.2) Q w) h0 round
end
section
def aK.dA(a:Int)(b:OA)(c d:Nat)(e:Addr)(f g:OA)(i j:Bool)(k:Int)(K:KT)(w:World):Prop:=
 ∃m:AV,cS w e m/\bJ prog 42 #[ag a,.agg m] w λn o=>∃p:OA,∃q:Int,n=.tuple #[au p,ag q]/\Split (q != (0:Int)) (K (.tuple #[au none,au none,.bool true,.bool false]) o) (Split ((p).isNone) (K (.tuple #[au none,au none,.bool true,.bool false]) o) (∃r:AV,cS o e r/\bJ prog 43 #[ag a,.agg r] o λt u=>∃v:OA,t=au v/\cO 99 (.loop (lB (bB (sR (sL (dc (bf (body f12)))))))) (aK.q2 K) [(2,ao b c d),(6,au f),(7,au g),(8,.bool i),(9,.bool j),(11,au p),(13,au v),(14,ag 0)] u))
variable(a:Int)(b:OA)(c d:Nat)(e:Addr)(f g:OA)(i j:Bool)(k:Int)(K:KT)(w:World)
theorem aK.dJ:(aK.q1 K (.exit 0) [(0,ag a),(2,ao b c d),(4,au (some e)),(6,au f),(7,au g),(8,.bool i),(9,.bool j),(10,ag k)] w)=aK.dA a b c d e f g i j k K w:=by kernel_rfl
end
section
variable(a:OA)(b c:Nat)(d e:OA)(f g:Bool)(i j:OA)(k:Int)(Q:aZ)(w:World)
def aK.B2:Prop:=
 Split (decide (k<(b:Int))) (let m:=w.drew;(0<=k/\k<(b:Int))/\Is a λn:Addr=>∃o:AV,cS m ((n.add (k.toNat*33)).add 0) o/\(0<=k/\k<(b:Int))/\Is a λp:Addr=>∃q:OA,∃r t:Nat,m.cell? ((p.add (k.toNat*33)).add 32)=some (ao q r t)/\(bJ prog 41 #[au i,.agg o,ao q r t] m λu v=>∃x:AV,∃y:Int,u=.tuple #[.agg x,ag y]/\let z:=v.alloc (.cells zC 53);(x.size=35/\(∀aa∈x.toList,aa.oneCell'=true)/\∀ba,ba<35->Wr z ((aU v.heap.size).add ba))/\let ca:=setCells z (aU v.heap.size) x.toList 0;cO 99 (sR (bB (sL (sR (lB (bB (sR (sL (dc (bf (body f12))))))))))) (aW 3 (dd (bf (lB (bB (sR (sL (dc (bf (body f12))))))))++aK.u2) (cH (λcM w_=>match cutAt aK.k (bf (lB (bB (sR (sL (dc (bf (body f12))))))))with|true=>cO 99 (bf (lB (bB (sR (sL (dc (bf (body f12)))))))) Q cM w_|false=>bz none [] prog 99 aK.k (bf (lB (bB (sR (sL (dc (bf (body f12)))))))) aK.u2 Q cM w_) Q)) [(2,ao a b c),(6,au d),(7,au e),(8,.bool f),(9,.bool g),(11,au i),(13,au j),(14,ag k),(16,ag y)] ca)/\(let da:=m.alloc (.cells zC 53);da.cell? ((p.add (k.toNat*33)).add 32)=some (ao q r t)/\(∃cs:AV,(.agg o:Value)=.agg cs/\cs.size=32/\Cells da ((n.add (k.toNat*33)).add 0) cs)/\bJ prog 41 #[au i,.agg o,ao q r t] da λea fa=>∃ga:AV,∃ia:Int,ea=.tuple #[.agg ga,ag ia]/\(ga.size=35/\(∀ja∈ga.toList,ja.oneCell'=true)/\∀ka,ka<35->Wr fa ((aU m.heap.size).add ka))/\let ma:=setCells fa (aU m.heap.size) ga.toList 0;cO 99 (sR (bB (sL (sR (lB (bB (sR (sL (dc (bf (body f12))))))))))) (aW 3 (dd (bf (lB (bB (sR (sL (dc (bf (body f12))))))))++aK.u2) (cH (λcM w_=>match cutAt aK.k (bf (lB (bB (sR (sL (dc (bf (body f12))))))))with|true=>cO 99 (bf (lB (bB (sR (sL (dc (bf (body f12)))))))) Q cM w_|false=>bz none [] prog 99 aK.k (bf (lB (bB (sR (sL (dc (bf (body f12)))))))) aK.u2 Q cM w_) Q)) [(2,ao a b c),(6,au d),(7,au e),(8,.bool f),(9,.bool g),(11,au i),(13,au j),(14,ag k),(16,ag ia)] ma)) (Q (.exit 2) [(2,ao a b c),(6,au d),(7,au e),(8,.bool f),(9,.bool g),(11,au i),(13,au j),(14,ag k)] w)
theorem aK.b2:(bz none [] prog 99 aK.k (lB (bB (sR (sL (dc (bf (body f12))))))) aK.u2 Q [(2,ao a b c),(6,au d),(7,au e),(8,.bool f),(9,.bool g),(11,au i),(13,au j),(14,ag k)] w)=aK.B2 a b c d e f g i j k Q w:=by kernel_rfl
variable{a b c i j}
theorem aK.iY(I:(OA)×(OA)×Bool×Bool×Int->World->Prop)(μ:(OA)×(OA)×Bool×Bool×Int->World->Nat)(s:(OA)×(OA)×Bool×Bool×Int){Q:aZ}{w:World}(h0:I s w)
 (round:∀s w,I s w->aK.B2 a b c (s.1) (s.2.1) (s.2.2.1) (s.2.2.2.1) i j (s.2.2.2.2) (b7 (aK.e2 a b c i j) I μ s w Q) w):cO 99 (.loop (lB (bB (sR (sL (dc (bf (body f12)))))))) Q (aK.e2 a b c i j s) w:=
 bI ng mix (aK.e2 a b c i j) I μ aK.k aK.u2 s (λs Q w=>aK.B2 a b c (s.1) (s.2.1) (s.2.2.1) (s.2.2.2.1) i j (s.2.2.2.2) Q w) (λs Q w=>aK.b2 a b c (s.1) (s.2.1) (s.2.2.1) (s.2.2.2.1) i j (s.2.2.2.2) Q w) h0 round
end
section
def aK.jJ(a:OA)(b c:Nat)(d e:OA)(f g:Bool)(i j:OA)(k:Int)(K:KT)(w:World):Prop:=
 K (.tuple #[au i,au j,.bool true,.bool true]) w
variable(a:OA)(b c:Nat)(d e:OA)(f g:Bool)(i j:OA)(k:Int)(K:KT)(w:World)
theorem aK.lA:(aK.q2 K (.exit 2) [(2,ao a b c),(6,au d),(7,au e),(8,.bool f),(9,.bool g),(11,au i),(13,au j),(14,ag k)] w)=aK.jJ a b c d e f g i j k K w:=by kernel_rfl
end
section
variable(a:OA)(b c:Nat)(d e:OA)(f g:Bool)(i j:OA)(k m:Int)(Q:aZ)(w:World)
def aK.J1:Prop:=
 let n:=w.drew;(0<=k/\k<(b:Int))/\Is a λo:Addr=>∃p:AV,cS n ((o.add (k.toNat*33)).add 0) p/\(0<=k/\k<(b:Int))/\Is a λq:Addr=>∃r:OA,∃t u:Nat,n.cell? ((q.add (k.toNat*33)).add 32)=some (ao r t u)/\(bJ prog 44 #[au j,.agg p,ao r t u] n λv x=>∃y:AV,∃z:Int,v=.tuple #[.agg y,ag z]/\let aa:=x.alloc (.cells zC 53);(y.size=35/\(∀ba∈y.toList,ba.oneCell'=true)/\∀ca,ca<35->Wr aa ((aU x.heap.size).add ca))/\let da:=setCells aa (aU x.heap.size) y.toList 0;cO 99 (bf (bB (sL (sR (lB (bB (sR (sL (dc (bf (body f12))))))))))) (aW 3 (dd (bf (lB (bB (sR (sL (dc (bf (body f12))))))))++aK.u2) (cH (λcM w_=>match cutAt aK.k (bf (lB (bB (sR (sL (dc (bf (body f12))))))))with|true=>cO 99 (bf (lB (bB (sR (sL (dc (bf (body f12)))))))) Q cM w_|false=>bz none [] prog 99 aK.k (bf (lB (bB (sR (sL (dc (bf (body f12)))))))) aK.u2 Q cM w_) Q)) [(2,ao a b c),(6,au d),(7,au e),(8,.bool f),(9,.bool g),(11,au i),(13,au j),(14,ag k),(16,ag m),(18,ag z)] da)/\(let ea:=n.alloc (.cells zC 53);ea.cell? ((q.add (k.toNat*33)).add 32)=some (ao r t u)/\(∃cs:AV,(.agg p:Value)=.agg cs/\cs.size=32/\Cells ea ((o.add (k.toNat*33)).add 0) cs)/\bJ prog 44 #[au j,.agg p,ao r t u] ea λfa ga=>∃ia:AV,∃ja:Int,fa=.tuple #[.agg ia,ag ja]/\(ia.size=35/\(∀ka∈ia.toList,ka.oneCell'=true)/\∀ma,ma<35->Wr ga ((aU n.heap.size).add ma))/\let na:=setCells ga (aU n.heap.size) ia.toList 0;cO 99 (bf (bB (sL (sR (lB (bB (sR (sL (dc (bf (body f12))))))))))) (aW 3 (dd (bf (lB (bB (sR (sL (dc (bf (body f12))))))))++aK.u2) (cH (λcM w_=>match cutAt aK.k (bf (lB (bB (sR (sL (dc (bf (body f12))))))))with|true=>cO 99 (bf (lB (bB (sR (sL (dc (bf (body f12)))))))) Q cM w_|false=>bz none [] prog 99 aK.k (bf (lB (bB (sR (sL (dc (bf (body f12)))))))) aK.u2 Q cM w_) Q)) [(2,ao a b c),(6,au d),(7,au e),(8,.bool f),(9,.bool g),(11,au i),(13,au j),(14,ag k),(16,ag m),(18,ag ja)] na)
theorem aK.j1:(bz none [] prog 99 aK.k (sR (bB (sL (sR (lB (bB (sR (sL (dc (bf (body f12))))))))))) (dd (bf (lB (bB (sR (sL (dc (bf (body f12))))))))++aK.u2) (aW 3 (dd (bf (lB (bB (sR (sL (dc (bf (body f12))))))))++aK.u2) (cH (λcM w_=>match cutAt aK.k (bf (lB (bB (sR (sL (dc (bf (body f12))))))))with|true=>cO 99 (bf (lB (bB (sR (sL (dc (bf (body f12)))))))) Q cM w_|false=>bz none [] prog 99 aK.k (bf (lB (bB (sR (sL (dc (bf (body f12)))))))) aK.u2 Q cM w_) Q)) [(2,ao a b c),(6,au d),(7,au e),(8,.bool f),(9,.bool g),(11,au i),(13,au j),(14,ag k),(16,ag m)] w)=aK.J1 a b c d e f g i j k m Q w:=by kernel_rfl
variable{a b c d e f g i j k m Q w}
theorem aK.lR(h:aK.J1 a b c d e f g i j k m Q w):cO 99 (sR (bB (sL (sR (lB (bB (sR (sL (dc (bf (body f12))))))))))) (aW 3 (dd (bf (lB (bB (sR (sL (dc (bf (body f12))))))))++aK.u2) (cH (λcM w_=>match cutAt aK.k (bf (lB (bB (sR (sL (dc (bf (body f12))))))))with|true=>cO 99 (bf (lB (bB (sR (sL (dc (bf (body f12)))))))) Q cM w_|false=>bz none [] prog 99 aK.k (bf (lB (bB (sR (sL (dc (bf (body f12)))))))) aK.u2 Q cM w_) Q)) [(2,ao a b c),(6,au d),(7,au e),(8,.bool f),(9,.bool g),(11,au i),(13,au j),(14,ag k),(16,ag m)] w:=
 dG (C:=aK.k) ng mix (aK.j1 a b c d e f g i j k m Q w) h
end
section
variable(a:OA)(b c:Nat)(d e:OA)(f g:Bool)(i j:OA)(k m n:Int)(Q:aZ)(w:World)
def aK.J2:Prop:=
 Split (m != n) (Q .ret [(2,ao a b c),(6,au none),(7,au none),(8,.bool true),(9,.bool false),(11,au i),(13,au j),(14,ag k)] w) (Q .normal [(2,ao a b c),(6,au d),(7,au e),(8,.bool f),(9,.bool g),(11,au i),(13,au j),(14,ag (i64.wrap (k+(1:Int))))] w)
theorem aK.j2:(bz none [] prog 99 aK.k (bf (bB (sL (sR (lB (bB (sR (sL (dc (bf (body f12))))))))))) (dd (bf (lB (bB (sR (sL (dc (bf (body f12))))))))++aK.u2) (aW 3 (dd (bf (lB (bB (sR (sL (dc (bf (body f12))))))))++aK.u2) (cH (λcM w_=>match cutAt aK.k (bf (lB (bB (sR (sL (dc (bf (body f12))))))))with|true=>cO 99 (bf (lB (bB (sR (sL (dc (bf (body f12)))))))) Q cM w_|false=>bz none [] prog 99 aK.k (bf (lB (bB (sR (sL (dc (bf (body f12)))))))) aK.u2 Q cM w_) Q)) [(2,ao a b c),(6,au d),(7,au e),(8,.bool f),(9,.bool g),(11,au i),(13,au j),(14,ag k),(16,ag m),(18,ag n)] w)=aK.J2 a b c d e f g i j k m n Q w:=by kernel_rfl
variable{a b c d e f g i j k m n Q w}
theorem aK.sG(h:aK.J2 a b c d e f g i j k m n Q w):cO 99 (bf (bB (sL (sR (lB (bB (sR (sL (dc (bf (body f12))))))))))) (aW 3 (dd (bf (lB (bB (sR (sL (dc (bf (body f12))))))))++aK.u2) (cH (λcM w_=>match cutAt aK.k (bf (lB (bB (sR (sL (dc (bf (body f12))))))))with|true=>cO 99 (bf (lB (bB (sR (sL (dc (bf (body f12)))))))) Q cM w_|false=>bz none [] prog 99 aK.k (bf (lB (bB (sR (sL (dc (bf (body f12)))))))) aK.u2 Q cM w_) Q)) [(2,ao a b c),(6,au d),(7,au e),(8,.bool f),(9,.bool g),(11,au i),(13,au j),(14,ag k),(16,ag m),(18,ag n)] w:=
 dG (C:=aK.k) ng mix (aK.j2 a b c d e f g i j k m n Q w) h
end
def jo.k:List Nat:= []
section
variable(K:KT)(w:World)
def jo.W:Prop:=
 let a:=w.alloc (.cells zH 24);let b:=a.alloc (.cells zH 24);let d:=b.alloc (.cells zH 24);((Et 1).size=32/\(∀e∈(Et 1).toList,e.oneCell'=true)/\∀f,f<32->Wr d ((aU w.heap.size).add f))/\let g:=setCells d (aU w.heap.size) (Et 1).toList 0;((Et 2).size=32/\(∀i∈(Et 2).toList,i.oneCell'=true)/\∀j,j<32->Wr g ((aU a.heap.size).add j))/\let k:=setCells g (aU a.heap.size) (Et 2).toList 0;((Et 3).size=32/\(∀m∈(Et 3).toList,m.oneCell'=true)/\∀n,n<32->Wr k ((aU b.heap.size).add n))/\let o:=setCells k (aU b.heap.size) (Et 3).toList 0;∃p:AV,cS o (aU w.heap.size) p/\bJ prog 42 #[ag 2,.agg p] o λq r=>∃t:OA,∃u:Int,q=.tuple #[au t,ag u]/\Split (u != (0:Int)) (K (.bool false) r) (Split ((t).isNone) (K (.bool false) r) (∃v:AV,cS r (aU a.heap.size) v/\∃x:AV,cS r (aU w.heap.size) x/\x.size=32/\let y:=r.alloc (.cells (x.toList++ []).toArray 24);bJ prog 41 #[au t,.agg v,ao (some (aU r.heap.size)) 1 1] y λz aa=>∃ba:AV,∃ca:Int,z=.tuple #[.agg ba,ag ca]/\∃da:AV,cS aa (aU b.heap.size) da/\∃ea:AV,cS aa (aU a.heap.size) ea/\ea.size=32/\let fa:=aa.alloc (.cells (ea.toList++ []).toArray 24);bJ prog 41 #[au t,.agg da,ao (some (aU aa.heap.size)) 1 1] fa λga ia=>∃ja:AV,∃ka:Int,ga=.tuple #[.agg ja,ag ka]/\let ma:=ia.drew;∃na:AV,cS ma (aU a.heap.size) na/\∃oa:AV,cS ma (aU b.heap.size) oa/\(bJ prog 22 #[] ma λpa qa=>∃ra:AV,pa=.agg ra/\(∃cs:AV,(.agg oa:Value)=.agg cs/\cs.size=32/\Cells qa (aU b.heap.size) cs)/\(∃cs:AV,(.agg na:Value)=.agg cs/\cs.size=32/\Cells qa (aU a.heap.size) cs)/\na.size=32/\oa.size=32/\let ta:=qa.alloc (.cells (na.toList++(oa.toList++([]))).toArray 24);bJ prog 20 #[.agg ra,au t,.agg (I3 (ao (some (aU qa.heap.size)) 2 2))] ta λua va=>∃xa:OA,∃ya za:Nat,∃ae:Int,ua=.tuple #[ao xa ya za,ag ae]/\let be:=va.drew;∃ce:AV,cS be (aU b.heap.size) ce/\(bJ prog 22 #[] be λde ee=>∃fe:AV,de=.agg fe/\(∃cs:AV,(.agg ce:Value)=.agg cs/\cs.size=32/\Cells ee (aU b.heap.size) cs)/\ce.size=32/\let ge:=ee.alloc (.cells (ce.toList++ []).toArray 24);bJ prog 20 #[.agg fe,au t,.agg (I3 (ao (some (aU ee.heap.size)) 1 1))] ge λie je=>∃ke:OA,∃me ne:Nat,∃oe:Int,ie=.tuple #[ao ke me ne,ag oe]/\Split (ae==(9:Int)) (Split (oe==(0:Int)) (bJ prog 22 #[] je λpe qe=>∃re:AV,pe=.agg re/\bJ prog 40 #[.agg re] qe λte ue=>∃ve:Bool,te=.bool ve/\K (.bool ve) ue) (K (.bool false) je)) (K (.bool false) je))/\(ce.size=32/\let xe:=be.alloc (.cells (ce.toList++ []).toArray 24);bJ prog 22 #[] xe λye ze=>∃aj:AV,ye=.agg aj/\bJ prog 20 #[.agg aj,au t,.agg (I3 (ao (some (aU be.heap.size)) 1 1))] ze λbj cj=>∃dj:OA,∃ej fj:Nat,∃gj:Int,bj=.tuple #[ao dj ej fj,ag gj]/\Split (ae==(9:Int)) (Split (gj==(0:Int)) (bJ prog 22 #[] cj λij jj=>∃kj:AV,ij=.agg kj/\bJ prog 40 #[.agg kj] jj λmj nj=>∃oj:Bool,mj=.bool oj/\K (.bool oj) nj) (K (.bool false) cj)) (K (.bool false) cj)))/\(na.size=32/\oa.size=32/\let pj:=ma.alloc (.cells (na.toList++(oa.toList++([]))).toArray 24);bJ prog 22 #[] pj λqj rj=>∃tj:AV,qj=.agg tj/\bJ prog 20 #[.agg tj,au t,.agg (I3 (ao (some (aU ma.heap.size)) 2 2))] rj λuj vj=>∃xj:OA,∃yj zj:Nat,∃ak:Int,uj=.tuple #[ao xj yj zj,ag ak]/\let bk:=vj.drew;∃ck:AV,cS bk (aU b.heap.size) ck/\(bJ prog 22 #[] bk λdk ek=>∃fk:AV,dk=.agg fk/\(∃cs:AV,(.agg ck:Value)=.agg cs/\cs.size=32/\Cells ek (aU b.heap.size) cs)/\ck.size=32/\let gk:=ek.alloc (.cells (ck.toList++ []).toArray 24);bJ prog 20 #[.agg fk,au t,.agg (I3 (ao (some (aU ek.heap.size)) 1 1))] gk λik jk=>∃kk:OA,∃mk nk:Nat,∃ok:Int,ik=.tuple #[ao kk mk nk,ag ok]/\Split (ak==(9:Int)) (Split (ok==(0:Int)) (bJ prog 22 #[] jk λpk qk=>∃rk:AV,pk=.agg rk/\bJ prog 40 #[.agg rk] qk λtk uk=>∃vk:Bool,tk=.bool vk/\K (.bool vk) uk) (K (.bool false) jk)) (K (.bool false) jk))/\(ck.size=32/\let xk:=bk.alloc (.cells (ck.toList++ []).toArray 24);bJ prog 22 #[] xk λyk zk=>∃aq:AV,yk=.agg aq/\bJ prog 20 #[.agg aq,au t,.agg (I3 (ao (some (aU bk.heap.size)) 1 1))] zk λbq cq=>∃dq:OA,∃eq fq:Nat,∃gq:Int,bq=.tuple #[ao dq eq fq,ag gq]/\Split (ak==(9:Int)) (Split (gq==(0:Int)) (bJ prog 22 #[] cq λiq jq=>∃kq:AV,iq=.agg kq/\bJ prog 40 #[.agg kq] jq λmq nq=>∃oq:Bool,mq=.bool oq/\K (.bool oq) nq) (K (.bool false) cq)) (K (.bool false) cq)))))
variable{K w}
theorem jo.of(h:jo.W K w):bJ prog 13 #[] w K:=
 rqq func13 (C:=jo.k) h
end
def jn.k:List Nat:= []
section
variable(a:AV)(K:KT)(w:World)
def jn.W:Prop:=
 let b:=w.alloc (.cells a 26);∃d:Int,b.cell? ((aU w.heap.size).add 0)=some (ag d)/\Split (decide (d<(0:Int))) (K (.bool false) b) (∃e:Int,b.cell? ((aU w.heap.size).add 0)=some (ag e)/\Split (decide (e>(100:Int))) (K (.bool false) b) (∃f:Int,b.cell? ((aU w.heap.size).add 1)=some (ag f)/\Split (decide (f<(1:Int))) (K (.bool false) b) (∃g:Int,b.cell? ((aU w.heap.size).add 1)=some (ag g)/\Split (decide (g>(20:Int))) (K (.bool false) b) (∃i:Int,b.cell? ((aU w.heap.size).add 2)=some (ag i)/\Split (decide (i<(1:Int))) (K (.bool false) b) (∃j:Int,b.cell? ((aU w.heap.size).add 2)=some (ag j)/\Split (decide (j>(1000:Int))) (K (.bool false) b) (∃k:Int,b.cell? ((aU w.heap.size).add 3)=some (ag k)/\Split (decide (k<(0:Int))) (K (.bool false) b) (∃m:Int,b.cell? ((aU w.heap.size).add 3)=some (ag m)/\Split (decide (m>(2147483647:Int))) (K (.bool false) b) (∃n:Int,b.cell? ((aU w.heap.size).add 4)=some (ag n)/\Split (decide (n<(0:Int))) (K (.bool false) b) (∃o:Int,b.cell? ((aU w.heap.size).add 4)=some (ag o)/\Split (decide (o>(2147483647:Int))) (K (.bool false) b) (∃p:Int,b.cell? ((aU w.heap.size).add 5)=some (ag p)/\Split (decide (p<(0:Int))) (K (.bool false) b) (∃q:Int,b.cell? ((aU w.heap.size).add 5)=some (ag q)/\Split (decide (q>(2147483647:Int))) (K (.bool false) b) (∃r:Int,b.cell? ((aU w.heap.size).add 6)=some (.int .u64 r)/\Split (decide (r>(1099511627776:Int))) (K (.bool false) b) (∃t:Int,b.cell? ((aU w.heap.size).add 7)=some (ag t)/\Split (decide (t<(0:Int))) (K (.bool false) b) (∃u:Int,b.cell? ((aU w.heap.size).add 7)=some (ag u)/\Split (decide (u>(100000:Int))) (K (.bool false) b) (∃v:Int,b.cell? ((aU w.heap.size).add 8)=some (ag v)/\Split (decide (v<(0:Int))) (K (.bool false) b) (∃x:Int,b.cell? ((aU w.heap.size).add 8)=some (ag x)/\Split (decide (x>(100000:Int))) (K (.bool false) b) (∃y:Int,b.cell? ((aU w.heap.size).add 4)=some (ag y)/\Split (y==(0:Int)) (K (.bool true) b) (∃z:Int,b.cell? ((aU w.heap.size).add 3)=some (ag z)/\Split (decide (z>(0:Int))) (∃aa:Int,b.cell? ((aU w.heap.size).add 4)=some (ag aa)/\∃ba:Int,b.cell? ((aU w.heap.size).add 3)=some (ag ba)/\Split (decide (aa>ba)) (∃ca:Int,b.cell? ((aU w.heap.size).add 4)=some (ag ca)/\∃da:Int,b.cell? ((aU w.heap.size).add 2)=some (ag da)/\K (.bool (decide (ca>da))) b) (K (.bool false) b)) (K (.bool false) b)))))))))))))))))))
variable{a K w}
theorem jn.of(h:jn.W a K w):bJ prog 15 #[.agg a] w K:=
 rqq func15 (C:=jn.k) h
end
def aT.k:List Nat:= [7]
def aT.q1(K:KT):aZ:=(aW 0 (dd (dc (body Tryz.f20))++(bn Tryz.f20)) (cH (λcM w_=>match cutAt aT.k (dc (body Tryz.f20))with|true=>cO 36 (dc (body Tryz.f20)) (cy prog Tryz.f20 K) cM w_|false=>bz none [] prog 36 aT.k (dc (body Tryz.f20)) (bn Tryz.f20) (cy prog Tryz.f20 K) cM w_) (cy prog Tryz.f20 K)))
def aT.e1(a:Addr)(b:OA)(c d:Nat)(e:Int)(s:Int×Int):Env:= [(6,au (some a)),(7,ag s.1),(23,ao b c d),(24,ag e),(25,ag s.2)]
def aT.u1:List Nat:= [6,7,23,24,25]
section
variable(a:AV)(b:OA)(d:AV)(K:KT)(w:World)
def aT.W:Prop:=
 let e:=w.alloc (.cells a 26);let f:=e.alloc (.cells (#[au b]:AV) 28);let g:=f.alloc (.cells d 58);let i:=g.alloc (.cells (#[ao none 0 0]:AV) 33);∃j:OA,i.cell? (aU e.heap.size)=some (au j)/\bJ prog 45 #[au j] i λk m=>∃n:OA,k=au n/\bJ prog 46 #[au n] m λo p=>∃q:OA,o=au q/\let r:=p.alloc (.cells (#[au none]:AV) 98);Wr r (aU p.heap.size)/\let t:=r.setCell (aU p.heap.size) (au q);let u:=t.alloc (.cells #[.func (.func 62) #[] #[au (some (aU p.heap.size))],.func (.func 63) #[] #[au (some (aU w.heap.size))],.func (.func 64) #[] #[au (some (aU f.heap.size)),au (some (aU w.heap.size))],.func (.func 66) #[] #[au (some (aU f.heap.size)),au (some (aU p.heap.size)),au (some (aU g.heap.size))],.func (.func 67) #[] #[au (some (aU f.heap.size)),au (some (aU e.heap.size))],.func (.func 70) #[] #[au (some (aU e.heap.size)),au (some (aU f.heap.size)),au (some (aU w.heap.size))]] 110);cO 36 (.loop (lB (bB (sR (sL (bf (sR (body Tryz.f20)))))))) (aT.q1 K) [(6,au (some (aU g.heap.size))),(7,ag 0),(23,ao (some (aU t.heap.size)) 6 6),(24,ag (6:Int)),(25,ag 0)] u
variable{a b d K w}
theorem aT.of(h:aT.W a b d K w):bJ prog 20 #[.agg a,au b,.agg d] w K:=
 rqq func20 (C:=aT.k) h
end
section
variable(a:Addr)(b:Int)(c:OA)(d e:Nat)(f g:Int)(Q:aZ)(w:World)
def aT.B1:Prop:=
 Split (decide (g<f)) ((0<=g/\g<(d:Int))/\Is c λi:Addr=>∃j:Value,w.cell? (i.add (g.toNat*1))=some (j)/\mY prog j [] w λk m=>cO 36 (bf (bB (sL (bf (lB (bB (sR (sL (bf (sR (body Tryz.f20))))))))))) (aW 1 (dd (bf (sR (lB (bB (sR (sL (bf (sR (body Tryz.f20)))))))))++aT.u1) (cH (λcM w_=>match cutAt aT.k (bf (sR (lB (bB (sR (sL (bf (sR (body Tryz.f20)))))))))with|true=>cO 36 (bf (sR (lB (bB (sR (sL (bf (sR (body Tryz.f20))))))))) Q cM w_|false=>bz none [] prog 36 aT.k (bf (sR (lB (bB (sR (sL (bf (sR (body Tryz.f20))))))))) aT.u1 Q cM w_) Q)) [(6,au (some a)),(7,ag b),(12,k),(23,ao c d e),(24,ag f),(25,ag g)] m) (Q (.exit 0) [(6,au (some a)),(7,ag b),(23,ao c d e),(24,ag f),(25,ag g)] w)
theorem aT.b1:(bz none [] prog 36 aT.k (lB (bB (sR (sL (bf (sR (body Tryz.f20))))))) aT.u1 Q [(6,au (some a)),(7,ag b),(23,ao c d e),(24,ag f),(25,ag g)] w)=aT.B1 a b c d e f g Q w:=by kernel_rfl
variable{a c d e f}
theorem aT.cP(I:Int×Int->World->Prop)(μ:Int×Int->World->Nat)(s:Int×Int){Q:aZ}{w:World}(h0:I s w)
 (round:∀s w,I s w->aT.B1 a (s.1) c d e f (s.2) (b7 (aT.e1 a c d e f) I μ s w Q) w):cO 36 (.loop (lB (bB (sR (sL (bf (sR (body Tryz.f20)))))))) Q (aT.e1 a c d e f s) w:=
 bI ng mix (aT.e1 a c d e f) I μ aT.k aT.u1 s (λs Q w=>aT.B1 a (s.1) c d e f (s.2) Q w) (λs Q w=>aT.b1 a (s.1) c d e f (s.2) Q w) h0 round
end
section
def aT.dA(a:Addr)(b:Int)(c:OA)(d e:Nat)(f g:Int)(K:KT)(w:World):Prop:=
 Wr w a/\let i:=w.setCell a (ao none 0 0);∃j:OA,∃k m:Nat,i.cell? a=some (ao j k m)/\K (.tuple #[ao j k m,ag 0]) i
variable(a:Addr)(b:Int)(c:OA)(d e:Nat)(f g:Int)(K:KT)(w:World)
theorem aT.dJ:(aT.q1 K (.exit 0) [(6,au (some a)),(7,ag b),(23,ao c d e),(24,ag f),(25,ag g)] w)=aT.dA a b c d e f g K w:=by kernel_rfl
end
section
variable(a:Addr)(b c:Int)(d:OA)(e f:Nat)(g i:Int)(Q:aZ)(w:World)
def aT.J1:Prop:=
 Split (c != (0:Int)) (∃j:OA,∃k m:Nat,w.cell? a=some (ao j k m)/\Wr w a/\let n:=w.setCell a (ao j k m);Q .ret [(6,au (some a)),(7,ag c),(23,ao d e f),(24,ag g),(25,ag i)] n) (Q .normal [(6,au (some a)),(7,ag b),(23,ao d e f),(24,ag g),(25,ag (i64.wrap (i+(1:Int))))] w)
theorem aT.j1:(bz none [] prog 36 aT.k (bf (bB (sL (bf (lB (bB (sR (sL (bf (sR (body Tryz.f20))))))))))) (dd (bf (sR (lB (bB (sR (sL (bf (sR (body Tryz.f20)))))))))++aT.u1) (aW 1 (dd (bf (sR (lB (bB (sR (sL (bf (sR (body Tryz.f20)))))))))++aT.u1) (cH (λcM w_=>match cutAt aT.k (bf (sR (lB (bB (sR (sL (bf (sR (body Tryz.f20)))))))))with|true=>cO 36 (bf (sR (lB (bB (sR (sL (bf (sR (body Tryz.f20))))))))) Q cM w_|false=>bz none [] prog 36 aT.k (bf (sR (lB (bB (sR (sL (bf (sR (body Tryz.f20))))))))) aT.u1 Q cM w_) Q)) [(6,au (some a)),(7,ag b),(12,ag c),(23,ao d e f),(24,ag g),(25,ag i)] w)=aT.J1 a b c d e f g i Q w:=by kernel_rfl
variable{a b c d e f g i Q w}
theorem aT.lR(h:aT.J1 a b c d e f g i Q w):cO 36 (bf (bB (sL (bf (lB (bB (sR (sL (bf (sR (body Tryz.f20))))))))))) (aW 1 (dd (bf (sR (lB (bB (sR (sL (bf (sR (body Tryz.f20)))))))))++aT.u1) (cH (λcM w_=>match cutAt aT.k (bf (sR (lB (bB (sR (sL (bf (sR (body Tryz.f20)))))))))with|true=>cO 36 (bf (sR (lB (bB (sR (sL (bf (sR (body Tryz.f20))))))))) Q cM w_|false=>bz none [] prog 36 aT.k (bf (sR (lB (bB (sR (sL (bf (sR (body Tryz.f20))))))))) aT.u1 Q cM w_) Q)) [(6,au (some a)),(7,ag b),(12,ag c),(23,ao d e f),(24,ag g),(25,ag i)] w:=
 dG (C:=aT.k) ng mix (aT.j1 a b c d e f g i Q w) h
end
section
def aT.FD(a:Addr)(b:Int)(c:OA)(d e:Nat)(f g:Int)(K:KT)(w:World):Prop:=
 ∃i:OA,∃j k:Nat,w.cell? a=some (ao i j k)/\K (.tuple #[ao i j k,ag b]) w
variable(a:Addr)(b:Int)(c:OA)(d e:Nat)(f g:Int)(K:KT)(w:World)
theorem aT.DH:(aT.q1 K .ret [(6,au (some a)),(7,ag b),(23,ao c d e),(24,ag f),(25,ag g)] w)=aT.FD a b c d e f g K w:=by kernel_rfl
end
def gm.k:List Nat:= []
section
variable(K:KT)(w:World)
def gm.W:Prop:=
 let a:=w.alloc (.cells (#[ag 0,ag 0,ag 0,ag 0,ag 0,ag 0,.int .u64 0,ag 0,ag 0,.int .u8 0,.int .u8 0,.int .u8 0,.int .u8 0,.int .u8 0,.int .u8 0,.int .u8 0,.int .u8 0,.int .u8 0,.int .u8 0,.int .u8 0,.int .u8 0,.int .u8 0,.int .u8 0,.int .u8 0,.int .u8 0,.int .u8 0,.int .u8 0,.int .u8 0,.int .u8 0,.int .u8 0,.int .u8 0,.int .u8 0,.int .u8 0,.int .u8 0,.int .u8 0,.int .u8 0,.int .u8 0,.int .u8 0,.int .u8 0,.int .u8 0,.int .u8 0]:AV) 26);((#[ag 2,ag 5,ag 10,ag 0,ag 0,ag 0,.int .u64 0,ag 10,ag 10,.int .u8 0,.int .u8 0,.int .u8 0,.int .u8 0,.int .u8 0,.int .u8 0,.int .u8 0,.int .u8 0,.int .u8 0,.int .u8 0,.int .u8 0,.int .u8 0,.int .u8 0,.int .u8 0,.int .u8 0,.int .u8 0,.int .u8 0,.int .u8 0,.int .u8 0,.int .u8 0,.int .u8 0,.int .u8 0,.int .u8 0,.int .u8 0,.int .u8 0,.int .u8 0,.int .u8 0,.int .u8 0,.int .u8 0,.int .u8 0,.int .u8 0,.int .u8 0]:AV).size=41/\(∀b∈(#[ag 2,ag 5,ag 10,ag 0,ag 0,ag 0,.int .u64 0,ag 10,ag 10,.int .u8 0,.int .u8 0,.int .u8 0,.int .u8 0,.int .u8 0,.int .u8 0,.int .u8 0,.int .u8 0,.int .u8 0,.int .u8 0,.int .u8 0,.int .u8 0,.int .u8 0,.int .u8 0,.int .u8 0,.int .u8 0,.int .u8 0,.int .u8 0,.int .u8 0,.int .u8 0,.int .u8 0,.int .u8 0,.int .u8 0,.int .u8 0,.int .u8 0,.int .u8 0,.int .u8 0,.int .u8 0,.int .u8 0,.int .u8 0,.int .u8 0,.int .u8 0]:AV).toList,b.oneCell'=true)/\∀d,d<41->Wr a ((aU w.heap.size).add d))/\let e:=setCells a (aU w.heap.size) (#[ag 2,ag 5,ag 10,ag 0,ag 0,ag 0,.int .u64 0,ag 10,ag 10,.int .u8 0,.int .u8 0,.int .u8 0,.int .u8 0,.int .u8 0,.int .u8 0,.int .u8 0,.int .u8 0,.int .u8 0,.int .u8 0,.int .u8 0,.int .u8 0,.int .u8 0,.int .u8 0,.int .u8 0,.int .u8 0,.int .u8 0,.int .u8 0,.int .u8 0,.int .u8 0,.int .u8 0,.int .u8 0,.int .u8 0,.int .u8 0,.int .u8 0,.int .u8 0,.int .u8 0,.int .u8 0,.int .u8 0,.int .u8 0,.int .u8 0,.int .u8 0]:AV).toList 0;∃f:AV,(f.size=41/\Cells e (aU w.heap.size) f)/\K (.agg f) e
variable{K w}
theorem gm.of(h:gm.W K w):bJ prog 22 #[] w K:=
 rqq func22 (C:=gm.k) h
end
section
variable(a:AV)(b:OA)(d:AV)(K:KT)(w:World)
variable{a b d K w}
end
section
variable(a:OA)(b:Addr)(c:OA)(d e:Nat)(f:Int)(g:OA)(i j:Nat)(k:OA)(m n:Nat)(o:Int)(Q:aZ)(w:World)
variable{a b c d e f g i j}
end
section
variable(a:OA)(b:Addr)(c:OA)(d e:Nat)(f:Int)(g:OA)(i j:Nat)(k:OA)(m n:Nat)(o:Int)(K:KT)(w:World)
end
section
variable(a:OA)(b:Addr)(c:OA)(d e:Nat)(f:Int)(g:OA)(i j:Nat)(k:Int)(Q:aZ)(w:World)
variable{a b g i j}
end
section
variable(a:OA)(b:Addr)(c:OA)(d e:Nat)(f:Int)(g:OA)(i j:Nat)(k:Int)(K:KT)(w:World)
end
section
variable(a:OA)(b:Addr)(c:OA)(d e:Nat)(f:Int)(g:OA)(i j:Nat)(k m:Int)(Q:aZ)(w:World)
variable{a b g i j k}
end
section
variable(a:OA)(b:Addr)(c:OA)(d e:Nat)(f:Int)(g:OA)(i j:Nat)(k m:Int)(Q:aZ)(w:World)
end
def cg.k:List Nat:= []
def cg.q1(K:KT):aZ:=(aW 0 (dd (bf (body f40))++(bn f40)) (cH (λcM w_=>match cutAt cg.k (bf (body f40))with|true=>cO 75 (bf (body f40)) (cy prog f40 K) cM w_|false=>bz none [] prog 75 cg.k (bf (body f40)) (bn f40) (cy prog f40 K) cM w_) (cy prog f40 K)))
def cg.e1(a:Addr)(b:OA)(c d:Nat)(e:Int)(s:Bool×Int):Env:= [(1,au (some a)),(2,.bool s.1),(29,ao b c d),(30,ag e),(31,ag s.2)]
def cg.u1:List Nat:= [1,2,29,30,31]
section
variable(a:AV)(K:KT)(w:World)
def cg.W:Prop:=
 let b:=w.alloc (.cells a 26);∃d:Int,b.cell? ((aU w.heap.size).add 0)=some (ag d)/\∃e:Int,b.cell? ((aU w.heap.size).add 1)=some (ag e)/\∃f:Int,b.cell? ((aU w.heap.size).add 2)=some (ag f)/\∃g:Int,b.cell? ((aU w.heap.size).add 3)=some (ag g)/\∃i:Int,b.cell? ((aU w.heap.size).add 4)=some (ag i)/\∃j:Int,b.cell? ((aU w.heap.size).add 5)=some (ag j)/\∃k:Int,b.cell? ((aU w.heap.size).add 7)=some (ag k)/\∃m:Int,b.cell? ((aU w.heap.size).add 8)=some (ag m)/\3=3/\3=3/\3=3/\3=3/\3=3/\3=3/\3=3/\3=3/\let n:=b.alloc (.cells #[ag d,ag 0,ag 100,ag e,ag 1,ag 20,ag f,ag 1,ag 1000,ag g,ag 0,ag 2147483647,ag i,ag 0,ag 2147483647,ag j,ag 0,ag 2147483647,ag k,ag 0,ag 100000,ag m,ag 0,ag 100000] 121);cO 75 (.loop (lB (bB (sR (sL (sR (body f40))))))) (cg.q1 K) [(1,au (some (aU w.heap.size))),(2,.bool false),(29,ao (some (aU b.heap.size)) 8 8),(30,ag (8:Int)),(31,ag 0)] n
variable{a K w}
theorem cg.of(h:cg.W a K w):bJ prog 40 #[.agg a] w K:=
 rqq func40 (C:=cg.k) h
end
section
variable(a:Addr)(b:Bool)(c:OA)(d e:Nat)(f g:Int)(Q:aZ)(w:World)
def cg.B1:Prop:=
 Split (decide (g<f)) ((0<=g/\g<(d:Int))/\Is c λi:Addr=>∃j:AV,(j.size=3/\Cells w (i.add (g.toNat*3)) j)/\let k:=w.alloc (.cells (#[ag 0,ag 0,ag 0]:AV) 121);(j.size=3/\(∀m∈j.toList,m.oneCell'=true)/\∀n,n<3->Wr k ((aU w.heap.size).add n))/\let o:=setCells k (aU w.heap.size) j.toList 0;(0<=(0:Int)/\(0:Int)<(3:Int))/\∃p:Int,o.cell? ((aU w.heap.size).add ((0:Int).toNat*1))=some (ag p)/\(0<=(1:Int)/\(1:Int)<(3:Int))/\∃q:Int,o.cell? ((aU w.heap.size).add ((1:Int).toNat*1))=some (ag q)/\Split (decide (p<q)) (Q .ret [(1,au (some a)),(2,.bool false),(29,ao c d e),(30,ag f),(31,ag g)] o) ((0<=(0:Int)/\(0:Int)<(3:Int))/\∃r:Int,o.cell? ((aU w.heap.size).add ((0:Int).toNat*1))=some (ag r)/\(0<=(2:Int)/\(2:Int)<(3:Int))/\∃t:Int,o.cell? ((aU w.heap.size).add ((2:Int).toNat*1))=some (ag t)/\Split (decide (r>t)) (Q .ret [(1,au (some a)),(2,.bool false),(29,ao c d e),(30,ag f),(31,ag g)] o) (Q .normal [(1,au (some a)),(2,.bool b),(29,ao c d e),(30,ag f),(31,ag (i64.wrap (g+(1:Int))))] o))) (Q (.exit 0) [(1,au (some a)),(2,.bool b),(29,ao c d e),(30,ag f),(31,ag g)] w)
theorem cg.b1:(bz none [] prog 75 cg.k (lB (bB (sR (sL (sR (body f40)))))) cg.u1 Q [(1,au (some a)),(2,.bool b),(29,ao c d e),(30,ag f),(31,ag g)] w)=cg.B1 a b c d e f g Q w:=by kernel_rfl
variable{a c d e f}
theorem cg.cP(I:Bool×Int->World->Prop)(μ:Bool×Int->World->Nat)(s:Bool×Int){Q:aZ}{w:World}(h0:I s w)
 (round:∀s w,I s w->cg.B1 a (s.1) c d e f (s.2) (b7 (cg.e1 a c d e f) I μ s w Q) w):cO 75 (.loop (lB (bB (sR (sL (sR (body f40))))))) Q (cg.e1 a c d e f s) w:=
 bI ng mix (cg.e1 a c d e f) I μ cg.k cg.u1 s (λs Q w=>cg.B1 a (s.1) c d e f (s.2) Q w) (λs Q w=>cg.b1 a (s.1) c d e f (s.2) Q w) h0 round
end
section
def cg.dA(a:Addr)(b:Bool)(c:OA)(d e:Nat)(f g:Int)(K:KT)(w:World):Prop:=
 ∃i:Int,w.cell? (a.add 6)=some (.int .u64 i)/\Split (decide (i<=(1099511627776:Int))) (∃j:Int,w.cell? (a.add 4)=some (ag j)/\Split (j==(0:Int)) (K (.bool true) w) (∃k:Int,w.cell? (a.add 3)=some (ag k)/\Split (decide (k>(0:Int))) (∃m:Int,w.cell? (a.add 4)=some (ag m)/\∃n:Int,w.cell? (a.add 3)=some (ag n)/\Split (decide (m>n)) (∃o:Int,w.cell? (a.add 4)=some (ag o)/\∃p:Int,w.cell? (a.add 2)=some (ag p)/\K (.bool (decide (o>p))) w) (K (.bool false) w)) (K (.bool false) w))) (K (.bool false) w)
variable(a:Addr)(b:Bool)(c:OA)(d e:Nat)(f g:Int)(K:KT)(w:World)
theorem cg.dJ:(cg.q1 K (.exit 0) [(1,au (some a)),(2,.bool b),(29,ao c d e),(30,ag f),(31,ag g)] w)=cg.dA a b c d e f g K w:=by kernel_rfl
end
def dz.k:List Nat:= []
section
variable(a:Addr)(K:KT)(w:World)
def dz.W:Prop:=
 ∃b:OA,w.cell? a=some (au b)/\Split ((b).isNone) (K (ag 1) w) (K (ag 0) w)
variable{a K w}
theorem dz.of(h:dz.W a K w):bJ prog 62 #[au (some a)] w K:=
 rqq func62 (C:=dz.k) h
end
def dt.k:List Nat:= []
section
variable(a:Addr)(K:KT)(w:World)
def dt.W:Prop:=
 ∃b:AV,(b.size=41/\Cells w a b)/\bJ prog 40 #[.agg b] w λd e=>∃f:Bool,d=.bool f/\Split (!f) (K (ag 2) e) (K (ag 0) e)
variable{a K w}
theorem dt.of(h:dt.W a K w):bJ prog 63 #[au (some a)] w K:=
 rqq func63 (C:=dt.k) h
end
def dm.k:List Nat:= []
section
variable(a b:Addr)(K:KT)(w:World)
def dm.W:Prop:=
 ∃d:OA,∃e f:Nat,w.cell? (a.add 0)=some (ao d e f)/\let g:=w.drew;Split (decide ((e:Int)<(1:Int))) (K (ag 9) g) (∃i:Int,g.cell? (b.add 1)=some (ag i)/\Split (decide ((e:Int)>i)) (K (ag 9) g) (∃j:OA,∃k m:Nat,g.cell? (a.add 0)=some (ao j k m)/\∃n:OA,∃o p:Nat,g.cell? (a.add 0)=some (ao n o p)/\bJ prog 57 #[ao j k m] g λq r=>∃t:OA,∃u v:Nat,q=ao t u v/\r.cell? (a.add 0)=some (ao n o p)/\bJ prog 65 #[ao t u v,ao n o p] r λx y=>∃z:Bool,x=.bool z/\Split (!z) (K (ag 9) y) (K (ag 0) y)))
variable{a b K w}
theorem dm.of(h:dm.W a b K w):bJ prog 64 #[au (some a),au (some b)] w K:=
 rqq func64 (C:=dm.k) h
end
def aY.k:List Nat:= []
def aY.q1(K:KT):aZ:=(aW 0 (dd (bf (sR (body f65)))++(bn f65)) (cH (λcM w_=>match cutAt aY.k (bf (sR (body f65)))with|true=>cO 26 (bf (sR (body f65))) (cy prog f65 K) cM w_|false=>bz none [] prog 26 aY.k (bf (sR (body f65))) (bn f65) (cy prog f65 K) cM w_) (cy prog f65 K)))
def aY.e1(a:OA)(b c:Nat)(d:OA)(e f:Nat)(g:Int)(s:Bool×Int):Env:= [(0,ao a b c),(1,ao d e f),(4,.bool s.1),(12,ag g),(13,ag s.2)]
def aY.u1:List Nat:= [0,1,4,12,13]
section
variable(a:OA)(b d:Nat)(e:OA)(f g:Nat)(K:KT)(w:World)
def aY.W:Prop:=
 Split ((b:Int) != (f:Int)) (K (.bool false) w) (cO 26 (.loop (lB (bB (sR (sL (bf (body f65))))))) (aY.q1 K) [(0,ao a b d),(1,ao e f g),(4,.bool false),(12,ag (b:Int)),(13,ag 0)] w)
variable{a b d e f g K w}
theorem aY.of(h:aY.W a b d e f g K w):bJ prog 65 #[ao a b d,ao e f g] w K:=
 rqq func65 (C:=aY.k) h
end
section
variable(a:OA)(b c:Nat)(d:OA)(e f:Nat)(g:Bool)(i j:Int)(Q:aZ)(w:World)
def aY.B1:Prop:=
 Split (decide (j<i)) (let k:=w.drew;(0<=j/\j<(b:Int))/\Is a λm:Addr=>∃n:AV,cS k (m.add (j.toNat*32)) n/\(0<=j/\j<(e:Int))/\Is d λo:Addr=>∃p:AV,cS k (o.add (j.toNat*32)) p/\(dT .u8 32 n/\dT .u8 32 p)/\Split (!(eR n p)) (Q .ret [(0,ao a b c),(1,ao d e f),(4,.bool false),(12,ag i),(13,ag j)] k) (Q .normal [(0,ao a b c),(1,ao d e f),(4,.bool g),(12,ag i),(13,ag (i64.wrap (j+(1:Int))))] k)) (Q (.exit 0) [(0,ao a b c),(1,ao d e f),(4,.bool g),(12,ag i),(13,ag j)] w)
theorem aY.b1:(bz none [] prog 26 aY.k (lB (bB (sR (sL (bf (body f65)))))) aY.u1 Q [(0,ao a b c),(1,ao d e f),(4,.bool g),(12,ag i),(13,ag j)] w)=aY.B1 a b c d e f g i j Q w:=by kernel_rfl
variable{a b c d e f i}
theorem aY.cP(I:Bool×Int->World->Prop)(μ:Bool×Int->World->Nat)(s:Bool×Int){Q:aZ}{w:World}(h0:I s w)
 (round:∀s w,I s w->aY.B1 a b c d e f (s.1) i (s.2) (b7 (aY.e1 a b c d e f i) I μ s w Q) w):cO 26 (.loop (lB (bB (sR (sL (bf (body f65))))))) Q (aY.e1 a b c d e f i s) w:=
 bI ng mix (aY.e1 a b c d e f i) I μ aY.k aY.u1 s (λs Q w=>aY.B1 a b c d e f (s.1) i (s.2) Q w) (λs Q w=>aY.b1 a b c d e f (s.1) i (s.2) Q w) h0 round
end
section
def aY.dA(a:OA)(b c:Nat)(d:OA)(e f:Nat)(g:Bool)(i j:Int)(K:KT)(w:World):Prop:=
 K (.bool true) w
variable(a:OA)(b c:Nat)(d:OA)(e f:Nat)(g:Bool)(i j:Int)(K:KT)(w:World)
theorem aY.dJ:(aY.q1 K (.exit 0) [(0,ao a b c),(1,ao d e f),(4,.bool g),(12,ag i),(13,ag j)] w)=aY.dA a b c d e f g i j K w:=by kernel_rfl
end
def bC.k:List Nat:= []
def bC.q1(K:KT):aZ:=(aW 0 (dd (bf (body f66))++(bn f66)) (cH (λcM w_=>match cutAt bC.k (bf (body f66))with|true=>cO 25 (bf (body f66)) (cy prog f66 K) cM w_|false=>bz none [] prog 25 bC.k (bf (body f66)) (bn f66) (cy prog f66 K) cM w_) (cy prog f66 K)))
def bC.e1(a b:Addr)(c:Int)(d:OA)(e f:Nat)(g s:Int):Env:= [(1,au (some a)),(2,au (some b)),(3,ag c),(7,ao d e f),(8,ag g),(9,ag s)]
def bC.u1:List Nat:= [1,2,3,7,8,9]
section
variable(a b d:Addr)(K:KT)(w:World)
def bC.W:Prop:=
 ∃e:OA,∃f g:Nat,w.cell? (a.add 0)=some (ao e f g)/\cO 25 (.loop (lB (bB (sR (sL (sR (body f66))))))) (bC.q1 K) [(1,au (some b)),(2,au (some d)),(3,ag 0),(7,ao e f g),(8,ag (f:Int)),(9,ag 0)] w
variable{a b d K w}
theorem bC.of(h:bC.W a b d K w):bJ prog 66 #[au (some a),au (some b),au (some d)] w K:=
 rqq func66 (C:=bC.k) h
end
section
variable(a b:Addr)(c:Int)(d:OA)(e f:Nat)(g i:Int)(Q:aZ)(w:World)
def bC.B1:Prop:=
 Split (decide (i<g)) ((0<=i/\i<(e:Int))/\Is d λj:Addr=>∃k:AV,cS w (j.add (i.toNat*32)) k/\let m:=w.alloc (.cells zH 24);(k.size=32/\(∀n∈k.toList,n.oneCell'=true)/\∀o,o<32->Wr m ((aU w.heap.size).add o))/\let p:=setCells m (aU w.heap.size) k.toList 0;∃q:OA,p.cell? a=some (au q)/\∃r:AV,cS p (aU w.heap.size) r/\bJ prog 47 #[au q,.agg r] p λt u=>∃v:Bool,t=.bool v/\Split (!v) (∃x:OA,∃y z:Nat,u.cell? b=some (ao x y z)/\∃aa:AV,cS u (aU w.heap.size) aa/\aa.size=32/\let ba:=u.alloc (.cells (aa.toList++ []).toArray 24);∃(ca:OA) (da ea:Nat) (fa:World),(Builtin.append_ #[33,33] 33 #[ao x y z,ao (some (aU u.heap.size)) 1 1]).run prog ba=.ok (ao ca da ea) fa/\Wr fa b/\let ga:=fa.setCell b (ao ca da ea);Q .normal [(1,au (some a)),(2,au (some b)),(3,ag c),(7,ao d e f),(8,ag g),(9,ag (i64.wrap (i+(1:Int))))] ga) (Q .normal [(1,au (some a)),(2,au (some b)),(3,ag c),(7,ao d e f),(8,ag g),(9,ag (i64.wrap (i+(1:Int))))] u)) (Q (.exit 0) [(1,au (some a)),(2,au (some b)),(3,ag c),(7,ao d e f),(8,ag g),(9,ag i)] w)
theorem bC.b1:(bz none [] prog 25 bC.k (lB (bB (sR (sL (sR (body f66)))))) bC.u1 Q [(1,au (some a)),(2,au (some b)),(3,ag c),(7,ao d e f),(8,ag g),(9,ag i)] w)=bC.B1 a b c d e f g i Q w:=by kernel_rfl
variable{a b c d e f g}
theorem bC.cP(I:Int->World->Prop)(μ:Int->World->Nat)(s:Int){Q:aZ}{w:World}(h0:I s w)
 (round:∀s w,I s w->bC.B1 a b c d e f g s (b7 (bC.e1 a b c d e f g) I μ s w Q) w):cO 25 (.loop (lB (bB (sR (sL (sR (body f66))))))) Q (bC.e1 a b c d e f g s) w:=
 bI ng mix (bC.e1 a b c d e f g) I μ bC.k bC.u1 s (λs Q w=>bC.B1 a b c d e f g s Q w) (λs Q w=>bC.b1 a b c d e f g s Q w) h0 round
end
section
def bC.dA(a b:Addr)(c:Int)(d:OA)(e f:Nat)(g i:Int)(K:KT)(w:World):Prop:=
 ∃j:OA,∃k m:Nat,w.cell? b=some (ao j k m)/\Split (decide ((k:Int)>(0:Int))) (K (ag 15) w) (K (ag 0) w)
variable(a b:Addr)(c:Int)(d:OA)(e f:Nat)(g i:Int)(K:KT)(w:World)
theorem bC.dJ:(bC.q1 K (.exit 0) [(1,au (some a)),(2,au (some b)),(3,ag c),(7,ao d e f),(8,ag g),(9,ag i)] w)=bC.dA a b c d e f g i K w:=by kernel_rfl
end
def bE.k:List Nat:= []
def bE.q1(K:KT):aZ:=(aW 0 (dd (bf (body f67))++(bn f67)) (cH (λcM w_=>match cutAt bE.k (bf (body f67))with|true=>cO 17 (bf (body f67)) (cy prog f67 K) cM w_|false=>bz none [] prog 17 bE.k (bf (body f67)) (bn f67) (cy prog f67 K) cM w_) (cy prog f67 K)))
def bE.e1(a b:Addr)(c:OA)(d e:Nat)(f:Int)(s:Int×Int):Env:= [(0,au (some a)),(1,au (some b)),(2,ag s.1),(6,ao c d e),(7,ag f),(8,ag s.2)]
def bE.u1:List Nat:= [0,1,2,6,7,8]
section
variable(a b:Addr)(K:KT)(w:World)
def bE.W:Prop:=
 ∃d:OA,∃e f:Nat,w.cell? (a.add 0)=some (ao d e f)/\cO 17 (.loop (lB (bB (sR (sL (sR (body f67))))))) (bE.q1 K) [(0,au (some a)),(1,au (some b)),(2,ag 0),(6,ao d e f),(7,ag (e:Int)),(8,ag 0)] w
variable{a b K w}
theorem bE.of(h:bE.W a b K w):bJ prog 67 #[au (some a),au (some b)] w K:=
 rqq func67 (C:=bE.k) h
end
section
variable(a b:Addr)(c:Int)(d:OA)(e f:Nat)(g i:Int)(Q:aZ)(w:World)
def bE.B1:Prop:=
 Split (decide (i<g)) ((0<=i/\i<(e:Int))/\Is d λj:Addr=>∃k:AV,cS w (j.add (i.toNat*32)) k/\let m:=w.alloc (.cells zH 24);(k.size=32/\(∀n∈k.toList,n.oneCell'=true)/\∀o,o<32->Wr m ((aU w.heap.size).add o))/\let p:=setCells m (aU w.heap.size) k.toList 0;∃q:OA,∃r t:Nat,p.cell? (a.add 0)=some (ao q r t)/\bJ prog 68 #[ao q r t,.func (.func 69) #[] #[au (some b),au (some (aU w.heap.size))]] p λu v=>∃x:Bool,u=.bool x/\Split x (Q .ret [(0,au (some a)),(1,au (some b)),(2,ag 9),(6,ao d e f),(7,ag g),(8,ag i)] v) (Q .normal [(0,au (some a)),(1,au (some b)),(2,ag c),(6,ao d e f),(7,ag g),(8,ag (i64.wrap (i+(1:Int))))] v)) (Q (.exit 0) [(0,au (some a)),(1,au (some b)),(2,ag c),(6,ao d e f),(7,ag g),(8,ag i)] w)
theorem bE.b1:(bz none [] prog 17 bE.k (lB (bB (sR (sL (sR (body f67)))))) bE.u1 Q [(0,au (some a)),(1,au (some b)),(2,ag c),(6,ao d e f),(7,ag g),(8,ag i)] w)=bE.B1 a b c d e f g i Q w:=by kernel_rfl
variable{a b d e f g}
theorem bE.cP(I:Int×Int->World->Prop)(μ:Int×Int->World->Nat)(s:Int×Int){Q:aZ}{w:World}(h0:I s w)
 (round:∀s w,I s w->bE.B1 a b (s.1) d e f g (s.2) (b7 (bE.e1 a b d e f g) I μ s w Q) w):cO 17 (.loop (lB (bB (sR (sL (sR (body f67))))))) Q (bE.e1 a b d e f g s) w:=
 bI ng mix (bE.e1 a b d e f g) I μ bE.k bE.u1 s (λs Q w=>bE.B1 a b (s.1) d e f g (s.2) Q w) (λs Q w=>bE.b1 a b (s.1) d e f g (s.2) Q w) h0 round
end
section
def bE.dA(a b:Addr)(c:Int)(d:OA)(e f:Nat)(g i:Int)(K:KT)(w:World):Prop:=
 K (ag 0) w
variable(a b:Addr)(c:Int)(d:OA)(e f:Nat)(g i:Int)(K:KT)(w:World)
theorem bE.dJ:(bE.q1 K (.exit 0) [(0,au (some a)),(1,au (some b)),(2,ag c),(6,ao d e f),(7,ag g),(8,ag i)] w)=bE.dA a b c d e f g i K w:=by kernel_rfl
end
def dR.k:List Nat:= []
section
variable(a:AV)(b d:Addr)(K:KT)(w:World)
def dR.W:Prop:=
 let e:=w.alloc (.cells a 24);let f:=e.drew;∃g:OA,f.cell? b=some (au g)/\∃i:AV,cS f d i/\∃j:AV,cS f (aU w.heap.size) j/\bJ prog 45 #[au g] f λk m=>∃n:OA,k=au n/\(∃cs:AV,(.agg j:Value)=.agg cs/\cs.size=32/\Cells m (aU w.heap.size) cs)/\(∃cs:AV,(.agg i:Value)=.agg cs/\cs.size=32/\Cells m d cs)/\bJ prog 51 #[au n,.agg i,.agg j] m λo p=>∃q:Bool,o=.bool q/\K (.bool q) p
variable{a b d K w}
theorem dR.of(h:dR.W a b d K w):bJ prog 69 #[.agg a,au (some b),au (some d)] w K:=
 rqq func69 (C:=dR.k) h
end
def di.k:List Nat:= []
section
variable(a b d:Addr)(K:KT)(w:World)
def di.W:Prop:=
 ∃e:OA,w.cell? a=some (au e)/\∃f:OA,∃g i:Nat,w.cell? (b.add 0)=some (ao f g i)/\bJ prog 21 #[au e,ao f g i] w λj k=>∃m:AV,∃n:Int,j=.tuple #[.agg m,ag n]/\let o:=k.alloc (.cells zH 24);(m.size=32/\(∀p∈m.toList,p.oneCell'=true)/\∀q,q<32->Wr o ((aU k.heap.size).add q))/\let r:=setCells o (aU k.heap.size) m.toList 0;∃t:OA,r.cell? a=some (au t)/\∃u:AV,cS r (aU k.heap.size) u/\∃v:OA,∃x y:Nat,r.cell? (b.add 0)=some (ao v x y)/\bJ prog 56 #[au t,.agg u,ao v x y] r λz aa=>∃ba:AV,∃ca:Int,z=.tuple #[.agg ba,ag ca]/\let da:=aa.alloc (.cells zC 53);(ba.size=35/\(∀ea∈ba.toList,ea.oneCell'=true)/\∀fa,fa<35->Wr da ((aU aa.heap.size).add fa))/\let ga:=setCells da (aU aa.heap.size) ba.toList 0;∃ia:OA,∃ja ka:Nat,ga.cell? ((aU aa.heap.size).add 33)=some (ao ia ja ka)/\∃ma:Int,ga.cell? (d.add 2)=some (ag ma)/\Split (decide ((ja:Int)>ma)) (K (ag 10) ga) (K (ag 0) ga)
variable{a b d K w}
theorem di.of(h:di.W a b d K w):bJ prog 70 #[au (some a),au (some b),au (some d)] w K:=
 rqq func70 (C:=di.k) h
end
def cD.k:List Nat:= []
section
variable(a:OA)(b d:Nat)(e f:Addr)(K:KT)(w:World)
def cD.W:Prop:=
 bJ prog 91 #[ao a b d,.func (.func 69) #[] #[au (some e),au (some f)]] w λg i=>∃j:Int,g=ag j/\K (.bool (decide (j>=(0:Int)))) i
variable{a b d e f K w}
theorem cD.of(h:cD.W a b d e f K w):bJ prog 68 #[ao a b d,.func (.func 69) #[] #[au (some e),au (some f)]] w K:=
 rqq func68 (C:=cD.k) h
end
def aw.k:List Nat:= []
def aw.q1(K:KT):aZ:=(aW 0 (dd (bf (body f91))++(bn f91)) (cH (λcM w_=>match cutAt aw.k (bf (body f91))with|true=>cO 19 (bf (body f91)) (cy prog f91 K) cM w_|false=>bz none [] prog 19 aw.k (bf (body f91)) (bn f91) (cy prog f91 K) cM w_) (cy prog f91 K)))
def aw.e1(a:OA)(b c:Nat)(d e:Addr)(f:Int)(s:Int×Int):Env:= [(0,ao a b c),(1,.func (.func 69) #[] #[au (some d),au (some e)]),(4,ag s.1),(7,ag f),(8,ag s.2)]
def aw.u1:List Nat:= [0,1,4,7,8]
section
variable(a:OA)(b d:Nat)(e f:Addr)(K:KT)(w:World)
def aw.W:Prop:=
 cO 19 (.loop (lB (bB (sR (sL (sR (body f91))))))) (aw.q1 K) [(0,ao a b d),(1,.func (.func 69) #[] #[au (some e),au (some f)]),(4,ag 0),(7,ag (b:Int)),(8,ag 0)] w
variable{a b d e f K w}
theorem aw.of(h:aw.W a b d e f K w):bJ prog 91 #[ao a b d,.func (.func 69) #[] #[au (some e),au (some f)]] w K:=
 rqq func91 (C:=aw.k) h
end
section
variable(a:OA)(b c:Nat)(d e:Addr)(f g i:Int)(Q:aZ)(w:World)
def aw.B1:Prop:=
 Split (decide (i<g)) ((0<=i/\i<(b:Int))/\Is a λj:Addr=>∃k:AV,cS w (j.add (i.toNat*32)) k/\bJ prog 69 #[.agg k,au (some d),au (some e)] w λm n=>∃o:Bool,m=.bool o/\Split o (Q .ret [(0,ao a b c),(1,.func (.func 69) #[] #[au (some d),au (some e)]),(4,ag i),(7,ag g),(8,ag i)] n) (Q .normal [(0,ao a b c),(1,.func (.func 69) #[] #[au (some d),au (some e)]),(4,ag f),(7,ag g),(8,ag (i64.wrap (i+(1:Int))))] n)) (Q (.exit 0) [(0,ao a b c),(1,.func (.func 69) #[] #[au (some d),au (some e)]),(4,ag f),(7,ag g),(8,ag i)] w)
theorem aw.b1:(bz none [] prog 19 aw.k (lB (bB (sR (sL (sR (body f91)))))) aw.u1 Q [(0,ao a b c),(1,.func (.func 69) #[] #[au (some d),au (some e)]),(4,ag f),(7,ag g),(8,ag i)] w)=aw.B1 a b c d e f g i Q w:=by kernel_rfl
variable{a b c d e g}
theorem aw.cP(I:Int×Int->World->Prop)(μ:Int×Int->World->Nat)(s:Int×Int){Q:aZ}{w:World}(h0:I s w)
 (round:∀s w,I s w->aw.B1 a b c d e (s.1) g (s.2) (b7 (aw.e1 a b c d e g) I μ s w Q) w):cO 19 (.loop (lB (bB (sR (sL (sR (body f91))))))) Q (aw.e1 a b c d e g s) w:=
 bI ng mix (aw.e1 a b c d e g) I μ aw.k aw.u1 s (λs Q w=>aw.B1 a b c d e (s.1) g (s.2) Q w) (λs Q w=>aw.b1 a b c d e (s.1) g (s.2) Q w) h0 round
end
section
def aw.dA(a:OA)(b c:Nat)(d e:Addr)(f g i:Int)(K:KT)(w:World):Prop:=
 K (ag (-1)) w
variable(a:OA)(b c:Nat)(d e:Addr)(f g i:Int)(K:KT)(w:World)
theorem aw.dJ:(aw.q1 K (.exit 0) [(0,ao a b c),(1,.func (.func 69) #[] #[au (some d),au (some e)]),(4,ag f),(7,ag g),(8,ag i)] w)=aw.dA a b c d e f g i K w:=by kernel_rfl
end
def bS.k:List Nat:= []
def bS.q1(K:KT):aZ:=(aW 1 (dd (gR (body Tryz.f14))++(bn Tryz.f14)) (cH (λcM w_=>match cutAt bS.k (gR (body Tryz.f14))with|true=>cO 76 (gR (body Tryz.f14)) (cy prog Tryz.f14 K) cM w_|false=>bz none [] prog 76 bS.k (gR (body Tryz.f14)) (bn Tryz.f14) (cy prog Tryz.f14 K) cM w_) (cy prog Tryz.f14 K)))
def bS.e1(a b c:Addr)(d:OA)(e f:Nat)(g:Int)(i:OA)(j k:Nat)(m:Int)(s:(OA)×Nat×Nat×Int):Env:= [(3,au (some a)),(4,au (some b)),(5,au (some c)),(6,ao d e f),(7,ag g),(11,ao s.1 s.2.1 s.2.2.1),(43,ao i j k),(44,ag m),(45,ag s.2.2.2)]
def bS.u1:List Nat:= [3,4,5,6,7,11,43,44,45]
section
variable(a:AV)(b:OA)(d:AV)(K:KT)(w:World)
def bS.W:Prop:=
 let e:=w.alloc (.cells a 26);let f:=e.alloc (.cells (#[au b]:AV) 28);let g:=f.alloc (.cells d 24);∃i:OA,g.cell? (aU e.heap.size)=some (au i)/\bJ prog 45 #[au i] g λj k=>∃m:OA,j=au m/\bJ prog 46 #[au m] k λn o=>∃p:OA,n=au p/\Split ((p).isNone) (K (.tuple #[ao none 0 0,ag 1]) o) (∃q:AV,(q.size=41/\Cells o (aU w.heap.size) q)/\bJ prog 40 #[.agg q] o λr t=>∃u:Bool,r=.bool u/\Split (!u) (K (.tuple #[ao none 0 0,ag 2]) t) (∃v:AV,cS t (aU f.heap.size) v/\bJ prog 47 #[au p,.agg v] t λx y=>∃z:Bool,x=.bool z/\Split (!z) (K (.tuple #[ao none 0 0,ag 6]) y) (∃aa:OA,y.cell? (aU e.heap.size)=some (au aa)/\bJ prog 45 #[au aa] y λba ca=>∃da:OA,ba=au da/\let ea:=ca.alloc (.cells (#[au none]:AV) 62);Wr ea (aU ca.heap.size)/\let fa:=ea.setCell (aU ca.heap.size) (au da);bJ prog 49 #[au p] fa λga ia=>∃ja:OA,∃ka ma:Nat,ga=ao ja ka ma/\bJ prog 48 #[ao ja ka ma,.func (.func 50) #[] #[au (some (aU f.heap.size)),au (some (aU ca.heap.size)),au (some (aU e.heap.size))]] ia λna oa=>∃pa:OA,∃qa ra:Nat,na=ao pa qa ra/\bJ prog 53 #[ao pa qa ra,.func (.func 54) #[] #[au (some (aU e.heap.size))]] oa λta ua=>ta=.tuple #[]/\∃va:AV,cS ua (aU f.heap.size) va/\va.size=32/\let xa:=ua.alloc (.cells (va.toList++ []).toArray 24);cO 76 (.loop (lB (bB (sR (sL (dc (bf (sR (body Tryz.f14))))))))) (bS.q1 K) [(3,au (some (aU w.heap.size))),(4,au (some (aU e.heap.size))),(5,au (some (aU f.heap.size))),(6,ao none 0 0),(7,ag 0),(11,ao (some (aU ua.heap.size)) 1 1),(43,ao pa qa ra),(44,ag (qa:Int)),(45,ag 0)] xa)))
variable{a b d K w}
theorem bS.of(h:bS.W a b d K w):bJ prog 14 #[.agg a,au b,.agg d] w K:=
 rqq func14 (C:=bS.k) h
end
section
variable(a b c:Addr)(d:OA)(e f:Nat)(g:Int)(i:OA)(j k:Nat)(m:OA)(n o:Nat)(p q:Int)(Q:aZ)(w:World)
def bS.B1:Prop:=
 Split (decide (q<p)) ((0<=q/\q<(n:Int))/\Is m λr:Addr=>∃t:AV,cS w (r.add (q.toNat*32)) t/\let u:=w.alloc (.cells zH 24);(t.size=32/\(∀v∈t.toList,v.oneCell'=true)/\∀x,x<32->Wr u ((aU w.heap.size).add x))/\let y:=setCells u (aU w.heap.size) t.toList 0;∃z:Int,y.cell? (a.add 1)=some (ag z)/\Split ((j:Int)==z) (Q (.exit 1) [(3,au (some a)),(4,au (some b)),(5,au (some c)),(6,ao d e f),(7,ag g),(11,ao i j k),(13,au (some (aU w.heap.size))),(43,ao m n o),(44,ag p),(45,ag q)] y) (let aa:=y.drew;∃ba:AV,cS aa (aU w.heap.size) ba/\(bJ prog 55 #[ao i j k] aa λca da=>∃ea:OA,∃fa ga:Nat,ca=ao ea fa ga/\(∃cs:AV,(.agg ba:Value)=.agg cs/\cs.size=32/\Cells da (aU w.heap.size) cs)/\ba.size=32/\let ia:=da.alloc (.cells (ba.toList++ []).toArray 24);∃(ja:OA) (ka ma:Nat) (na:World),(Builtin.append_ #[33,33] 33 #[ao ea fa ga,ao (some (aU da.heap.size)) 1 1]).run prog ia=.ok (ao ja ka ma) na/\∃oa:OA,na.cell? b=some (au oa)/\∃pa:AV,cS na c pa/\bJ prog 56 #[au oa,.agg pa,ao ja ka ma] na λqa ra=>∃ta:AV,∃ua:Int,qa=.tuple #[.agg ta,ag ua]/\let va:=ra.alloc (.cells zC 53);(ta.size=35/\(∀xa∈ta.toList,xa.oneCell'=true)/\∀ya,ya<35->Wr va ((aU ra.heap.size).add ya))/\let za:=setCells va (aU ra.heap.size) ta.toList 0;∃ae:OA,∃be ce:Nat,za.cell? ((aU ra.heap.size).add 33)=some (ao ae be ce)/\∃de:Int,za.cell? (a.add 2)=some (ag de)/\Split (decide ((be:Int)<=de)) (Q .normal [(3,au (some a)),(4,au (some b)),(5,au (some c)),(6,ao d e f),(7,ag g),(11,ao ja ka ma),(43,ao m n o),(44,ag p),(45,ag (i64.wrap (q+(1:Int))))] za) (Q .normal [(3,au (some a)),(4,au (some b)),(5,au (some c)),(6,ao d e f),(7,ag g),(11,ao i j k),(43,ao m n o),(44,ag p),(45,ag (i64.wrap (q+(1:Int))))] za))/\(ba.size=32/\let ee:=aa.alloc (.cells (ba.toList++ []).toArray 24);bJ prog 55 #[ao i j k] ee λfe ge=>∃ie:OA,∃je ke:Nat,fe=ao ie je ke/\∃(me:OA) (ne oe:Nat) (pe:World),(Builtin.append_ #[33,33] 33 #[ao ie je ke,ao (some (aU aa.heap.size)) 1 1]).run prog ge=.ok (ao me ne oe) pe/\∃qe:OA,pe.cell? b=some (au qe)/\∃re:AV,cS pe c re/\bJ prog 56 #[au qe,.agg re,ao me ne oe] pe λte ue=>∃ve:AV,∃xe:Int,te=.tuple #[.agg ve,ag xe]/\let ye:=ue.alloc (.cells zC 53);(ve.size=35/\(∀ze∈ve.toList,ze.oneCell'=true)/\∀aj,aj<35->Wr ye ((aU ue.heap.size).add aj))/\let bj:=setCells ye (aU ue.heap.size) ve.toList 0;∃cj:OA,∃dj ej:Nat,bj.cell? ((aU ue.heap.size).add 33)=some (ao cj dj ej)/\∃fj:Int,bj.cell? (a.add 2)=some (ag fj)/\Split (decide ((dj:Int)<=fj)) (Q .normal [(3,au (some a)),(4,au (some b)),(5,au (some c)),(6,ao d e f),(7,ag g),(11,ao me ne oe),(43,ao m n o),(44,ag p),(45,ag (i64.wrap (q+(1:Int))))] bj) (Q .normal [(3,au (some a)),(4,au (some b)),(5,au (some c)),(6,ao d e f),(7,ag g),(11,ao i j k),(43,ao m n o),(44,ag p),(45,ag (i64.wrap (q+(1:Int))))] bj)))) (Q (.exit 1) [(3,au (some a)),(4,au (some b)),(5,au (some c)),(6,ao d e f),(7,ag g),(11,ao i j k),(43,ao m n o),(44,ag p),(45,ag q)] w)
theorem bS.b1:(bz none [] prog 76 bS.k (lB (bB (sR (sL (dc (bf (sR (body Tryz.f14)))))))) bS.u1 Q [(3,au (some a)),(4,au (some b)),(5,au (some c)),(6,ao d e f),(7,ag g),(11,ao i j k),(43,ao m n o),(44,ag p),(45,ag q)] w)=bS.B1 a b c d e f g i j k m n o p q Q w:=by kernel_rfl
variable{a b c d e f g m n o p}
theorem bS.cP(I:(OA)×Nat×Nat×Int->World->Prop)(μ:(OA)×Nat×Nat×Int->World->Nat)(s:(OA)×Nat×Nat×Int){Q:aZ}{w:World}(h0:I s w)
 (round:∀s w,I s w->bS.B1 a b c d e f g (s.1) (s.2.1) (s.2.2.1) m n o p (s.2.2.2) (b7 (bS.e1 a b c d e f g m n o p) I μ s w Q) w):cO 76 (.loop (lB (bB (sR (sL (dc (bf (sR (body Tryz.f14))))))))) Q (bS.e1 a b c d e f g m n o p s) w:=
 bI ng mix (bS.e1 a b c d e f g m n o p) I μ bS.k bS.u1 s (λs Q w=>bS.B1 a b c d e f g (s.1) (s.2.1) (s.2.2.1) m n o p (s.2.2.2) Q w) (λs Q w=>bS.b1 a b c d e f g (s.1) (s.2.1) (s.2.2.1) m n o p (s.2.2.2) Q w) h0 round
end
section
def bS.Bg(a b c:Addr)(d:OA)(e f:Nat)(g:Int)(i:OA)(j k:Nat)(m:Addr)(n:OA)(o p:Nat)(q r:Int)(K:KT)(w:World):Prop:=
 bJ prog 57 #[ao i j k] w λt u=>∃v:OA,∃x y:Nat,t=ao v x y/\K (.tuple #[ao v x y,ag 0]) u
variable(a b c:Addr)(d:OA)(e f:Nat)(g:Int)(i:OA)(j k:Nat)(m:Addr)(n:OA)(o p:Nat)(q r:Int)(K:KT)(w:World)
theorem bS.Jm:(bS.q1 K (.exit 1) [(3,au (some a)),(4,au (some b)),(5,au (some c)),(6,ao d e f),(7,ag g),(11,ao i j k),(13,au (some m)),(43,ao n o p),(44,ag q),(45,ag r)] w)=bS.Bg a b c d e f g i j k m n o p q r K w:=by kernel_rfl
end
section
def bS.QI(a b c:Addr)(d:OA)(e f:Nat)(g:Int)(i:OA)(j k:Nat)(m:OA)(n o:Nat)(p q:Int)(K:KT)(w:World):Prop:=
 bJ prog 57 #[ao i j k] w λr t=>∃u:OA,∃v x:Nat,r=ao u v x/\K (.tuple #[ao u v x,ag 0]) t
variable(a b c:Addr)(d:OA)(e f:Nat)(g:Int)(i:OA)(j k:Nat)(m:OA)(n o:Nat)(p q:Int)(K:KT)(w:World)
theorem bS.Vl:(bS.q1 K (.exit 1) [(3,au (some a)),(4,au (some b)),(5,au (some c)),(6,ao d e f),(7,ag g),(11,ao i j k),(43,ao m n o),(44,ag p),(45,ag q)] w)=bS.QI a b c d e f g i j k m n o p q K w:=by kernel_rfl
end
def bp.k:List Nat:= []
def bp.q1(K:KT):aZ:=(aW 0 (bn f18) (cy prog f18 K))
def bp.e1(a:OA)(b c:Addr)(d:OA)(e f:Nat)(s:(OA)×Nat×Nat×(OA)×Nat×Nat×(OA)×Nat×Nat):Env:= [(1,au a),(3,au (some b)),(5,au (some c)),(6,ao s.1 s.2.1 s.2.2.1),(7,ao d e f),(8,ao s.2.2.2.1 s.2.2.2.2.1 s.2.2.2.2.2.1),(9,ao s.2.2.2.2.2.2.1 s.2.2.2.2.2.2.2.1 s.2.2.2.2.2.2.2.2)]
def bp.u1:List Nat:= [1,3,5,6,7,8,9]
def bp.q2(Q:aZ):aZ:=(aW 2 (dd (bf (bB (lB (bB (dc (body f18))))))++bp.u1) (cH (λcM w_=>match cutAt bp.k (bf (bB (lB (bB (dc (body f18))))))with|true=>cO 113 (bf (bB (lB (bB (dc (body f18)))))) (aW 1 bp.u1 Q) cM w_|false=>bz none [] prog 113 bp.k (bf (bB (lB (bB (dc (body f18)))))) bp.u1 (aW 1 bp.u1 Q) cM w_) (aW 1 bp.u1 Q)))
def bp.e2(a:OA)(b c:Addr)(d:OA)(e f:Nat)(g:OA)(i j:Nat)(k:OA)(m n:Nat)(o:OA)(p q:Nat)(s:Int×Int):Env:= [(1,au a),(3,au (some b)),(5,au (some c)),(6,ao d e f),(7,ao g i j),(8,ao k m n),(9,ao o p q),(10,ag s.1),(11,ag s.2)]
def bp.u2:List Nat:= [1,3,5,6,7,8,9,10,11]
section
variable(a:AV)(b:OA)(d:AV)(K:KT)(w:World)
def bp.W:Prop:=
 let e:=w.alloc (.cells a 26);let f:=e.alloc (.cells d 24);Is b λg:Addr=>∃i:OA,f.cell? (g.add 1)=some (au i)/\Is i λj:Addr=>bJ prog 58 #[au (some (j.add 0))] f λk m=>∃n:OA,∃o p:Nat,k=ao n o p/\∃q:AV,cS m (aU e.heap.size) q/\q.size=32/\let r:=m.alloc (.cells (q.toList++ []).toArray 24);cO 113 (.loop (lB (bB (dc (body f18))))) (bp.q1 K) [(1,au b),(3,au (some (aU w.heap.size))),(5,au (some (aU e.heap.size))),(6,ao none 0 0),(7,ao n o p),(8,ao (some (aU m.heap.size)) 1 1),(9,ao none 0 0)] r
variable{a b d K w}
theorem bp.of(h:bp.W a b d K w):bJ prog 18 #[.agg a,au b,.agg d] w K:=
 rqq func18 (C:=bp.k) h
end
section
variable(a:OA)(b c:Addr)(d:OA)(e f:Nat)(g:OA)(i j:Nat)(k:OA)(m n:Nat)(o:OA)(p q:Nat)(Q:aZ)(w:World)
def bp.B1:Prop:=
 cO 113 (.loop (lB (bB (sR (sL (sR (bB (lB (bB (dc (body f18))))))))))) (bp.q2 Q) [(1,au a),(3,au (some b)),(5,au (some c)),(6,ao d e f),(7,ao g i j),(8,ao k m n),(9,ao o p q),(10,ag (-1)),(11,ag 0)] w
theorem bp.b1:(bz none [] prog 113 bp.k (lB (bB (dc (body f18)))) bp.u1 Q [(1,au a),(3,au (some b)),(5,au (some c)),(6,ao d e f),(7,ao g i j),(8,ao k m n),(9,ao o p q)] w)=bp.B1 a b c d e f g i j k m n o p q Q w:=by kernel_rfl
variable{a b c g i j}
theorem bp.cP(I:(OA)×Nat×Nat×(OA)×Nat×Nat×(OA)×Nat×Nat->World->Prop)(μ:(OA)×Nat×Nat×(OA)×Nat×Nat×(OA)×Nat×Nat->World->Nat)(s:(OA)×Nat×Nat×(OA)×Nat×Nat×(OA)×Nat×Nat){Q:aZ}{w:World}(h0:I s w)
 (round:∀s w,I s w->bp.B1 a b c (s.1) (s.2.1) (s.2.2.1) g i j (s.2.2.2.1) (s.2.2.2.2.1) (s.2.2.2.2.2.1) (s.2.2.2.2.2.2.1) (s.2.2.2.2.2.2.2.1) (s.2.2.2.2.2.2.2.2) (b7 (bp.e1 a b c g i j) I μ s w Q) w):cO 113 (.loop (lB (bB (dc (body f18))))) Q (bp.e1 a b c g i j s) w:=
 bI ng mix (bp.e1 a b c g i j) I μ bp.k bp.u1 s (λs Q w=>bp.B1 a b c (s.1) (s.2.1) (s.2.2.1) g i j (s.2.2.2.1) (s.2.2.2.2.1) (s.2.2.2.2.2.1) (s.2.2.2.2.2.2.1) (s.2.2.2.2.2.2.2.1) (s.2.2.2.2.2.2.2.2) Q w) (λs Q w=>bp.b1 a b c (s.1) (s.2.1) (s.2.2.1) g i j (s.2.2.2.1) (s.2.2.2.2.1) (s.2.2.2.2.2.1) (s.2.2.2.2.2.2.1) (s.2.2.2.2.2.2.2.1) (s.2.2.2.2.2.2.2.2) Q w) h0 round
end
section
variable(a:OA)(b c:Addr)(d:OA)(e f:Nat)(g:OA)(i j:Nat)(k:OA)(m n:Nat)(o:OA)(p q:Nat)(r t:Int)(Q:aZ)(w:World)
def bp.B2:Prop:=
 Split (decide (t<(i:Int))) ((0<=t/\t<(i:Int))/\Is g λu:Addr=>∃v:AV,cS w (u.add (t.toNat*32)) v/\let x:=w.alloc (.cells zH 24);(v.size=32/\(∀y∈v.toList,y.oneCell'=true)/\∀z,z<32->Wr x ((aU w.heap.size).add z))/\let aa:=setCells x (aU w.heap.size) v.toList 0;let ba:=aa.drew;∃ca:AV,cS ba (aU w.heap.size) ca/\∃da:AV,cS ba c da/\(dT .u8 32 ca/\dT .u8 32 da)/\Split (eR ca da) (Q .normal [(1,au a),(3,au (some b)),(5,au (some c)),(6,ao d e f),(7,ao g i j),(8,ao k m n),(9,ao o p q),(10,ag r),(11,ag (i64.wrap (t+(1:Int))))] ba) (∃ea:AV,cS ba (aU w.heap.size) ea/\bJ prog 38 #[ao o p q,.agg ea] ba λfa ga=>∃ia:Bool,fa=.bool ia/\Split ia (Q .normal [(1,au a),(3,au (some b)),(5,au (some c)),(6,ao d e f),(7,ao g i j),(8,ao k m n),(9,ao o p q),(10,ag r),(11,ag (i64.wrap (t+(1:Int))))] ga) (Is a λja:Addr=>∃ka:OA,ga.cell? (ja.add 1)=some (au ka)/\Is ka λma:Addr=>∃na:AV,cS ga (aU w.heap.size) na/\∃oa:AV,cS ga c oa/\bJ prog 28 #[au (some (ma.add 0)),.agg na,.agg oa] ga λpa qa=>∃ra:Bool,pa=.bool ra/\Split ra (Q .normal [(1,au a),(3,au (some b)),(5,au (some c)),(6,ao d e f),(7,ao g i j),(8,ao k m n),(9,ao o p q),(10,ag r),(11,ag (i64.wrap (t+(1:Int))))] qa) (∃ta:AV,cS qa (aU w.heap.size) ta/\∃ua:AV,cS qa c ua/\bJ prog 59 #[au a,.agg ta,.agg ua] qa λva xa=>∃ya:Bool,va=.bool ya/\Split (!ya) (Q .normal [(1,au a),(3,au (some b)),(5,au (some c)),(6,ao d e f),(7,ao g i j),(8,ao k m n),(9,ao o p q),(10,ag r),(11,ag (i64.wrap (t+(1:Int))))] xa) (let za:=xa.drew;Split (decide (r<(0:Int))) (Q .normal [(1,au a),(3,au (some b)),(5,au (some c)),(6,ao d e f),(7,ao g i j),(8,ao k m n),(9,ao o p q),(10,ag t),(11,ag (i64.wrap (t+(1:Int))))] za) ((0<=r/\r<(i:Int))/\Is g λae:Addr=>∃be:AV,cS za (ae.add (r.toNat*32)) be/\∃ce:AV,cS za (aU w.heap.size) ce/\bJ prog 59 #[au a,.agg be,.agg ce] za λde ee=>∃fe:Bool,de=.bool fe/\Split fe (Q .normal [(1,au a),(3,au (some b)),(5,au (some c)),(6,ao d e f),(7,ao g i j),(8,ao k m n),(9,ao o p q),(10,ag t),(11,ag (i64.wrap (t+(1:Int))))] ee) (Q .normal [(1,au a),(3,au (some b)),(5,au (some c)),(6,ao d e f),(7,ao g i j),(8,ao k m n),(9,ao o p q),(10,ag r),(11,ag (i64.wrap (t+(1:Int))))] ee))))))) (Q (.exit 2) [(1,au a),(3,au (some b)),(5,au (some c)),(6,ao d e f),(7,ao g i j),(8,ao k m n),(9,ao o p q),(10,ag r),(11,ag t)] w)
theorem bp.b2:(bz none [] prog 113 bp.k (lB (bB (sR (sL (sR (bB (lB (bB (dc (body f18)))))))))) bp.u2 Q [(1,au a),(3,au (some b)),(5,au (some c)),(6,ao d e f),(7,ao g i j),(8,ao k m n),(9,ao o p q),(10,ag r),(11,ag t)] w)=bp.B2 a b c d e f g i j k m n o p q r t Q w:=by kernel_rfl
variable{a b c d e f g i j k m n o p q}
theorem bp.iY(I:Int×Int->World->Prop)(μ:Int×Int->World->Nat)(s:Int×Int){Q:aZ}{w:World}(h0:I s w)
 (round:∀s w,I s w->bp.B2 a b c d e f g i j k m n o p q (s.1) (s.2) (b7 (bp.e2 a b c d e f g i j k m n o p q) I μ s w Q) w):cO 113 (.loop (lB (bB (sR (sL (sR (bB (lB (bB (dc (body f18))))))))))) Q (bp.e2 a b c d e f g i j k m n o p q s) w:=
 bI ng mix (bp.e2 a b c d e f g i j k m n o p q) I μ bp.k bp.u2 s (λs Q w=>bp.B2 a b c d e f g i j k m n o p q (s.1) (s.2) Q w) (λs Q w=>bp.b2 a b c d e f g i j k m n o p q (s.1) (s.2) Q w) h0 round
end
section
def bp.jJ(a:OA)(b c:Addr)(d:OA)(e f:Nat)(g:OA)(i j:Nat)(k:OA)(m n:Nat)(o:OA)(p q:Nat)(r t:Int)(Q:aZ)(w:World):Prop:=
 Split (decide (r<(0:Int))) (bJ prog 27 #[ao k m n] w λu v=>∃x:OA,∃y z:Nat,u=ao x y z/\Q .ret [(1,au a),(3,au (some b)),(5,au (some c)),(6,ao x y z),(7,ao g i j),(8,ao k m n),(9,ao o p q),(10,ag r)] v) (∃aa:Int,w.cell? (b.add 1)=some (ag aa)/\Split ((m:Int)==aa) (bJ prog 27 #[ao k m n] w λba ca=>∃da:OA,∃ea fa:Nat,ba=ao da ea fa/\Q .ret [(1,au a),(3,au (some b)),(5,au (some c)),(6,ao da ea fa),(7,ao g i j),(8,ao k m n),(9,ao o p q),(10,ag r)] ca) ((0<=r/\r<(i:Int))/\Is g λga:Addr=>∃ia:AV,cS w (ga.add (r.toNat*32)) ia/\ia.size=32/\let ja:=w.alloc (.cells (ia.toList++ []).toArray 24);∃(ka:OA) (ma na:Nat) (oa:World),(Builtin.append_ #[33,33] 33 #[ao o p q,ao (some (aU w.heap.size)) 1 1]).run prog ja=.ok (ao ka ma na) oa/\let pa:=oa.drew;(0<=r/\r<(i:Int))/\Is g λqa:Addr=>∃ra:AV,cS pa (qa.add (r.toNat*32)) ra/\(∃(ta:OA) (ua va:Nat) (xa:World),(Builtin.append_ #[33,33] 33 #[ao none 0 0,ao k m n]).run prog pa=.ok (ao ta ua va) xa/\(∃cs:AV,(.agg ra:Value)=.agg cs/\cs.size=32/\Cells xa (qa.add (r.toNat*32)) cs)/\ra.size=32/\let ya:=xa.alloc (.cells (ra.toList++ []).toArray 24);∃(za:OA) (ae be:Nat) (ce:World),(Builtin.append_ #[33,33] 33 #[ao ta ua va,ao (some (aU xa.heap.size)) 1 1]).run prog ya=.ok (ao za ae be) ce/\∃de:AV,cS ce c de/\bJ prog 19 #[au a,.agg de,ao za ae be] ce λee fe=>∃ge:AV,∃ie:OA,∃je ke:Nat,ee=.tuple #[.agg ge,ao ie je ke]/\let me:=fe.alloc (.cells zC 53);(ge.size=35/\(∀ne∈ge.toList,ne.oneCell'=true)/\∀oe,oe<35->Wr me ((aU fe.heap.size).add oe))/\let pe:=setCells me (aU fe.heap.size) ge.toList 0;∃qe:OA,∃re te:Nat,pe.cell? ((aU fe.heap.size).add 33)=some (ao qe re te)/\∃ue:Int,pe.cell? (b.add 2)=some (ag ue)/\Split (decide ((re:Int)<=ue)) (Q .normal [(1,au a),(3,au (some b)),(5,au (some c)),(6,ao d e f),(7,ao g i j),(8,ao za ae be),(9,ao ka ma na)] pe) (Q .normal [(1,au a),(3,au (some b)),(5,au (some c)),(6,ao d e f),(7,ao g i j),(8,ao k m n),(9,ao ka ma na)] pe))/\(ra.size=32/\let ve:=pa.alloc (.cells (ra.toList++ []).toArray 24);∃(xe:OA) (ye ze:Nat) (aj:World),(Builtin.append_ #[33,33] 33 #[ao none 0 0,ao k m n]).run prog ve=.ok (ao xe ye ze) aj/\∃(bj:OA) (cj dj:Nat) (ej:World),(Builtin.append_ #[33,33] 33 #[ao xe ye ze,ao (some (aU pa.heap.size)) 1 1]).run prog aj=.ok (ao bj cj dj) ej/\∃fj:AV,cS ej c fj/\bJ prog 19 #[au a,.agg fj,ao bj cj dj] ej λgj ij=>∃jj:AV,∃kj:OA,∃mj nj:Nat,gj=.tuple #[.agg jj,ao kj mj nj]/\let oj:=ij.alloc (.cells zC 53);(jj.size=35/\(∀pj∈jj.toList,pj.oneCell'=true)/\∀qj,qj<35->Wr oj ((aU ij.heap.size).add qj))/\let rj:=setCells oj (aU ij.heap.size) jj.toList 0;∃tj:OA,∃uj vj:Nat,rj.cell? ((aU ij.heap.size).add 33)=some (ao tj uj vj)/\∃xj:Int,rj.cell? (b.add 2)=some (ag xj)/\Split (decide ((uj:Int)<=xj)) (Q .normal [(1,au a),(3,au (some b)),(5,au (some c)),(6,ao d e f),(7,ao g i j),(8,ao bj cj dj),(9,ao ka ma na)] rj) (Q .normal [(1,au a),(3,au (some b)),(5,au (some c)),(6,ao d e f),(7,ao g i j),(8,ao k m n),(9,ao ka ma na)] rj))))
variable(a:OA)(b c:Addr)(d:OA)(e f:Nat)(g:OA)(i j:Nat)(k:OA)(m n:Nat)(o:OA)(p q:Nat)(r t:Int)(Q:aZ)(w:World)
theorem bp.lA:(bp.q2 Q (.exit 2) [(1,au a),(3,au (some b)),(5,au (some c)),(6,ao d e f),(7,ao g i j),(8,ao k m n),(9,ao o p q),(10,ag r),(11,ag t)] w)=bp.jJ a b c d e f g i j k m n o p q r t Q w:=by kernel_rfl
end
def dX.k:List Nat:= []
section
variable(a:AV)(b d e:Addr)(K:KT)(w:World)
def dX.W:Prop:=
 let f:=w.alloc (.cells a 24);let g:=f.drew;∃i:AV,cS g (aU w.heap.size) i/\∃j:AV,cS g b j/\(dT .u8 32 i/\dT .u8 32 j)/\Split (eR i j) (K (.bool true) g) (∃k:OA,g.cell? d=some (au k)/\∃m:AV,cS g (aU w.heap.size) m/\∃n:AV,cS g b n/\bJ prog 51 #[au k,.agg m,.agg n] g λo p=>∃q:Bool,o=.bool q/\Split q (K (.bool true) p) (∃r:OA,p.cell? e=some (au r)/\∃t:AV,cS p (aU w.heap.size) t/\∃u:AV,cS p b u/\∃v:AV,cS p (aU w.heap.size) v/\bJ prog 52 #[au r,.agg t,.agg u] p λx y=>∃z:AV,x=.agg z/\(∃cs:AV,(.agg v:Value)=.agg cs/\cs.size=32/\Cells y (aU w.heap.size) cs)/\(dT .u8 32 z/\dT .u8 32 v)/\K (.bool (eR z v)) y))
variable{a b d e K w}
theorem dX.of(h:dX.W a b d e K w):bJ prog 50 #[.agg a,au (some b),au (some d),au (some e)] w K:=
 rqq func50 (C:=dX.k) h
end
def eT.k:List Nat:= []
section
variable(a b:AV)(d:Addr)(K:KT)(w:World)
def eT.W:Prop:=
 let e:=w.alloc (.cells a 24);let f:=e.alloc (.cells b 24);∃g:AV,cS f (aU w.heap.size) g/\∃i:AV,cS f (aU e.heap.size) i/\(dT .u8 32 g/\dT .u8 32 i)/\Split (eR g i) (K (ag 0) f) (let j:=f.drew;∃k:OA,j.cell? d=some (au k)/\∃m:AV,cS j (aU w.heap.size) m/\∃n:AV,cS j (aU e.heap.size) n/\∃o:AV,cS j (aU w.heap.size) o/\bJ prog 52 #[au k,.agg m,.agg n] j λp q=>∃r:AV,p=.agg r/\(∃cs:AV,(.agg o:Value)=.agg cs/\cs.size=32/\Cells q (aU w.heap.size) cs)/\(dT .u8 32 r/\dT .u8 32 o)/\Split (eR r o) (K (ag (-1)) q) (K (ag 1) q))
variable{a b d K w}
theorem eT.of(h:eT.W a b d K w):bJ prog 54 #[.agg a,.agg b,au (some d)] w K:=
 rqq func54 (C:=eT.k) h
end
def ax.k:List Nat:= []
def ax.q1(K:KT):aZ:=(aW 0 (dd (dc (body Tryz.f48))++(bn Tryz.f48)) (cH (λcM w_=>match cutAt ax.k (dc (body Tryz.f48))with|true=>cO 42 (dc (body Tryz.f48)) (cy prog Tryz.f48 K) cM w_|false=>bz none [] prog 42 ax.k (dc (body Tryz.f48)) (bn Tryz.f48) (cy prog Tryz.f48 K) cM w_) (cy prog Tryz.f48 K)))
def ax.e1(a:OA)(b c:Nat)(d e f:Addr)(g:OA)(i j:Nat)(s:Int×Int):Env:= [(0,ao a b c),(1,.func (.func 50) #[] #[au (some d),au (some e),au (some f)]),(4,ao g i j),(5,ag s.1),(6,ag s.2)]
def ax.u1:List Nat:= [0,1,4,5,6]
section
variable(a:OA)(b d:Nat)(e f g:Addr)(K:KT)(w:World)
def ax.W:Prop:=
 bJ prog 91 #[ao a b d,.func (.func 50) #[] #[au (some e),au (some f),au (some g)]] w λi j=>∃k:Int,i=ag k/\Split (k==(-1:Int)) (K (ao a b d) j) (cO 42 (.loop (lB (bB (sR (sL (bf (sR (body Tryz.f48)))))))) (ax.q1 K) [(0,ao a b d),(1,.func (.func 50) #[] #[au (some e),au (some f),au (some g)]),(4,ao none 0 0),(5,ag k),(6,ag (i64.wrap (k+(1:Int))))] j)
variable{a b d e f g K w}
theorem ax.of(h:ax.W a b d e f g K w):bJ prog 48 #[ao a b d,.func (.func 50) #[] #[au (some e),au (some f),au (some g)]] w K:=
 rqq func48 (C:=ax.k) h
end
section
variable(a:OA)(b c:Nat)(d e f:Addr)(g:OA)(i j:Nat)(k m:Int)(Q:aZ)(w:World)
def ax.B1:Prop:=
 Split (decide (m<(b:Int))) ((0<=m/\m<(b:Int))/\Is a λn:Addr=>∃o:AV,cS w (n.add (m.toNat*32)) o/\let p:=w.alloc (.cells zH 24);(o.size=32/\(∀q∈o.toList,q.oneCell'=true)/\∀r,r<32->Wr p ((aU w.heap.size).add r))/\let t:=setCells p (aU w.heap.size) o.toList 0;∃u:AV,cS t (aU w.heap.size) u/\bJ prog 50 #[.agg u,au (some d),au (some e),au (some f)] t λv x=>∃y:Bool,v=.bool y/\Split (!y) (∃z:AV,cS x (aU w.heap.size) z/\(0<=k/\k<(b:Int))/\Is a λaa:Addr=>(z.size=32/\(∀ba∈z.toList,ba.oneCell'=true)/\∀ca,ca<32->Wr x ((aa.add (k.toNat*32)).add ca))/\let da:=setCells x (aa.add (k.toNat*32)) z.toList 0;Q .normal [(0,ao a b c),(1,.func (.func 50) #[] #[au (some d),au (some e),au (some f)]),(4,ao g i j),(5,ag (i64.wrap (k+(1:Int)))),(6,ag (i64.wrap (m+(1:Int))))] da) (Q .normal [(0,ao a b c),(1,.func (.func 50) #[] #[au (some d),au (some e),au (some f)]),(4,ao g i j),(5,ag k),(6,ag (i64.wrap (m+(1:Int))))] x)) (Q (.exit 0) [(0,ao a b c),(1,.func (.func 50) #[] #[au (some d),au (some e),au (some f)]),(4,ao g i j),(5,ag k),(6,ag m)] w)
theorem ax.b1:(bz none [] prog 42 ax.k (lB (bB (sR (sL (bf (sR (body Tryz.f48))))))) ax.u1 Q [(0,ao a b c),(1,.func (.func 50) #[] #[au (some d),au (some e),au (some f)]),(4,ao g i j),(5,ag k),(6,ag m)] w)=ax.B1 a b c d e f g i j k m Q w:=by kernel_rfl
variable{a b c d e f g i j}
theorem ax.cP(I:Int×Int->World->Prop)(μ:Int×Int->World->Nat)(s:Int×Int){Q:aZ}{w:World}(h0:I s w)
 (round:∀s w,I s w->ax.B1 a b c d e f g i j (s.1) (s.2) (b7 (ax.e1 a b c d e f g i j) I μ s w Q) w):cO 42 (.loop (lB (bB (sR (sL (bf (sR (body Tryz.f48)))))))) Q (ax.e1 a b c d e f g i j s) w:=
 bI ng mix (ax.e1 a b c d e f g i j) I μ ax.k ax.u1 s (λs Q w=>ax.B1 a b c d e f g i j (s.1) (s.2) Q w) (λs Q w=>ax.b1 a b c d e f g i j (s.1) (s.2) Q w) h0 round
end
section
def ax.dA(a:OA)(b c:Nat)(d e f:Addr)(g:OA)(i j:Nat)(k m:Int)(K:KT)(w:World):Prop:=
 (0<=k/\k<=(b:Int))/\∃(n:Value) (o:World),(Builtin.clear_ #[33] 0 #[ao (if c=k.toNat then a else a.map (·.add (k.toNat*32))) (b-k.toNat) (c-k.toNat)]).run prog w=.ok n o/\(0<=k/\k<=(c:Int))/\K (ao (if c=0 then a else a.map (·.add (0*32))) (k.toNat-0) (c-0)) o
variable(a:OA)(b c:Nat)(d e f:Addr)(g:OA)(i j:Nat)(k m:Int)(K:KT)(w:World)
theorem ax.dJ:(ax.q1 K (.exit 0) [(0,ao a b c),(1,.func (.func 50) #[] #[au (some d),au (some e),au (some f)]),(4,ao g i j),(5,ag k),(6,ag m)] w)=ax.dA a b c d e f g i j k m K w:=by kernel_rfl
end
def aD.k:List Nat:= []
def aD.q1(K:KT):aZ:=(aW 0 (dd (bf (body f91))++(bn f91)) (cH (λcM w_=>match cutAt aD.k (bf (body f91))with|true=>cO 19 (bf (body f91)) (cy prog f91 K) cM w_|false=>bz none [] prog 19 aD.k (bf (body f91)) (bn f91) (cy prog f91 K) cM w_) (cy prog f91 K)))
def aD.e1(a:OA)(b c:Nat)(d e f:Addr)(g:Int)(s:Int×Int):Env:= [(0,ao a b c),(1,.func (.func 50) #[] #[au (some d),au (some e),au (some f)]),(4,ag s.1),(7,ag g),(8,ag s.2)]
def aD.u1:List Nat:= [0,1,4,7,8]
section
variable(a:OA)(b d:Nat)(e f g:Addr)(K:KT)(w:World)
def aD.W:Prop:=
 cO 19 (.loop (lB (bB (sR (sL (sR (body f91))))))) (aD.q1 K) [(0,ao a b d),(1,.func (.func 50) #[] #[au (some e),au (some f),au (some g)]),(4,ag 0),(7,ag (b:Int)),(8,ag 0)] w
variable{a b d e f g K w}
theorem aD.of(h:aD.W a b d e f g K w):bJ prog 91 #[ao a b d,.func (.func 50) #[] #[au (some e),au (some f),au (some g)]] w K:=
 rqq func91 (C:=aD.k) h
end
section
variable(a:OA)(b c:Nat)(d e f:Addr)(g i j:Int)(Q:aZ)(w:World)
def aD.B1:Prop:=
 Split (decide (j<i)) ((0<=j/\j<(b:Int))/\Is a λk:Addr=>∃m:AV,cS w (k.add (j.toNat*32)) m/\bJ prog 50 #[.agg m,au (some d),au (some e),au (some f)] w λn o=>∃p:Bool,n=.bool p/\Split p (Q .ret [(0,ao a b c),(1,.func (.func 50) #[] #[au (some d),au (some e),au (some f)]),(4,ag j),(7,ag i),(8,ag j)] o) (Q .normal [(0,ao a b c),(1,.func (.func 50) #[] #[au (some d),au (some e),au (some f)]),(4,ag g),(7,ag i),(8,ag (i64.wrap (j+(1:Int))))] o)) (Q (.exit 0) [(0,ao a b c),(1,.func (.func 50) #[] #[au (some d),au (some e),au (some f)]),(4,ag g),(7,ag i),(8,ag j)] w)
theorem aD.b1:(bz none [] prog 19 aD.k (lB (bB (sR (sL (sR (body f91)))))) aD.u1 Q [(0,ao a b c),(1,.func (.func 50) #[] #[au (some d),au (some e),au (some f)]),(4,ag g),(7,ag i),(8,ag j)] w)=aD.B1 a b c d e f g i j Q w:=by kernel_rfl
variable{a b c d e f i}
theorem aD.cP(I:Int×Int->World->Prop)(μ:Int×Int->World->Nat)(s:Int×Int){Q:aZ}{w:World}(h0:I s w)
 (round:∀s w,I s w->aD.B1 a b c d e f (s.1) i (s.2) (b7 (aD.e1 a b c d e f i) I μ s w Q) w):cO 19 (.loop (lB (bB (sR (sL (sR (body f91))))))) Q (aD.e1 a b c d e f i s) w:=
 bI ng mix (aD.e1 a b c d e f i) I μ aD.k aD.u1 s (λs Q w=>aD.B1 a b c d e f (s.1) i (s.2) Q w) (λs Q w=>aD.b1 a b c d e f (s.1) i (s.2) Q w) h0 round
end
section
def aD.dA(a:OA)(b c:Nat)(d e f:Addr)(g i j:Int)(K:KT)(w:World):Prop:=
 K (ag (-1)) w
variable(a:OA)(b c:Nat)(d e f:Addr)(g i j:Int)(K:KT)(w:World)
theorem aD.dJ:(aD.q1 K (.exit 0) [(0,ao a b c),(1,.func (.func 50) #[] #[au (some d),au (some e),au (some f)]),(4,ag g),(7,ag i),(8,ag j)] w)=aD.dA a b c d e f g i j K w:=by kernel_rfl
end
def fw.k:List Nat:= []
section
variable(a b:AV)(d:OA)(e f:Nat)(g:AV)(K:KT)(w:World)
def fw.W:Prop:=
 let i:=w.alloc (.cells a 26);let j:=i.alloc (.cells b 24);let k:=j.alloc (.cells g 24);∃m:Int,k.cell? ((aU w.heap.size).add 0)=some (ag m)/\∃n:AV,cS k (aU i.heap.size) n/\bJ prog 12 #[ag m,.agg n,ao d e f] k λo p=>∃q r:OA,∃t u:Bool,o=.tuple #[au q,au r,.bool t,.bool u]/\Split (!t) (Split u (bJ prog 13 #[] p λv x=>∃y:Bool,v=.bool y/\K (.bool y) x) (K (.bool false) p)) (Split (!u) (Split u (bJ prog 13 #[] p λz aa=>∃ba:Bool,z=.bool ba/\K (.bool ba) aa) (K (.bool false) p)) (∃ca:AV,(ca.size=41/\Cells p (aU w.heap.size) ca)/\∃da:AV,cS p (aU j.heap.size) da/\bJ prog 14 #[.agg ca,au q,.agg da] p λea fa=>∃ga:OA,∃ia ja:Nat,∃ka:Int,ea=.tuple #[ao ga ia ja,ag ka]/\∃ma:AV,(ma.size=41/\Cells fa (aU w.heap.size) ma)/\bJ prog 15 #[.agg ma] fa λna oa=>∃pa:Bool,na=.bool pa/\Split (!pa) (Split (ka==(2:Int)) (Split ((ia:Int)==(0:Int)) (bJ prog 13 #[] oa λqa ra=>∃ta:Bool,qa=.bool ta/\K (.bool ta) ra) (K (.bool false) oa)) (K (.bool false) oa)) (let ua:=oa.drew;Is r λva:Addr=>∃xa:OA,ua.cell? (va.add 1)=some (au xa)/\Is xa λya:Addr=>∃za:AV,cS ua (aU j.heap.size) za/\bJ prog 16 #[au (some (ya.add 0)),.agg za] ua λae be=>∃ce:Int,ae=ag ce/\Split (decide (ce<(0:Int))) (Split (ka==(6:Int)) (Split ((ia:Int)==(0:Int)) (bJ prog 13 #[] be λde ee=>∃fe:Bool,de=.bool fe/\K (.bool fe) ee) (K (.bool false) be)) (K (.bool false) be)) (Split (ka != (0:Int)) (K (.bool false) be) (∃ge:AV,(ge.size=41/\Cells be (aU w.heap.size) ge)/\∃ie:AV,cS be (aU j.heap.size) ie/\bJ prog 18 #[.agg ge,au r,.agg ie] be λje ke=>∃me:OA,∃ne oe:Nat,je=ao me ne oe/\bJ prog 17 #[ao ga ia ja,ao me ne oe] ke λpe qe=>∃re:Bool,pe=.bool re/\Split (!re) (K (.bool false) qe) (∃te:AV,cS qe (aU j.heap.size) te/\bJ prog 19 #[au r,.agg te,ao ga ia ja] qe λue ve=>∃xe:AV,∃ye:OA,∃ze aj:Nat,ue=.tuple #[.agg xe,ao ye ze aj]/\let bj:=ve.alloc (.cells zC 53);(xe.size=35/\(∀cj∈xe.toList,cj.oneCell'=true)/\∀dj,dj<35->Wr bj ((aU ve.heap.size).add dj))/\let ej:=setCells bj (aU ve.heap.size) xe.toList 0;∃fj:OA,∃gj ij:Nat,ej.cell? ((aU ve.heap.size).add 33)=some (ao fj gj ij)/\∃jj:Int,ej.cell? ((aU w.heap.size).add 2)=some (ag jj)/\Split (decide ((gj:Int)>jj)) (K (.bool false) ej) (∃kj:AV,(kj.size=41/\Cells ej (aU w.heap.size) kj)/\bJ prog 20 #[.agg kj,au q,.agg (I3 (ao ga ia ja))] ej λmj nj=>∃oj:OA,∃pj qj:Nat,∃rj:Int,mj=.tuple #[ao oj pj qj,ag rj]/\bJ prog 21 #[au q,ao ga ia ja] nj λtj uj=>∃vj:AV,∃xj:Int,tj=.tuple #[.agg vj,ag xj]/\let yj:=uj.alloc (.cells zH 24);(vj.size=32/\(∀zj∈vj.toList,zj.oneCell'=true)/\∀ak,ak<32->Wr yj ((aU uj.heap.size).add ak))/\let bk:=setCells yj (aU uj.heap.size) vj.toList 0;Split (rj==(0:Int)) (Split (xj==(0:Int)) (∃ck:AV,cS bk (aU uj.heap.size) ck/\∃dk:AV,cS bk (aU j.heap.size) dk/\(dT .u8 32 ck/\dT .u8 32 dk)/\Split (eR ck dk) (bJ prog 13 #[] bk λek fk=>∃gk:Bool,ek=.bool gk/\K (.bool gk) fk) (K (.bool false) bk)) (K (.bool false) bk)) (K (.bool false) bk))))))))
variable{a b d e f g K w}
theorem fw.of(h:fw.W a b d e f g K w):bJ prog 3 #[.agg a,.agg b,ao d e f,.agg g] w K:=
 rqq func3 (C:=fw.k) h
end
section
variable(K:KT)(w:World)
variable{K w}
end
section
variable(a:Bool)(b:OA)(c d:Nat)(e:Int)(Q:aZ)(w:World)
variable{b c d}
end
section
variable(a:Bool)(b:OA)(c d:Nat)(e:Int)(K:KT)(w:World)
end
section
variable(a b:AV)(d:OA)(e f:Nat)(g:OA)(i j:Nat)(K:KT)(w:World)
variable{a b d e f g i j K w}
end
section
variable(a:AV)(K:KT)(w:World)
variable{a K w}
end
section
variable(a b:AV)(d:OA)(e f:Nat)(g:OA)(i j:Nat)(k:OA)(m n:Nat)(K:KT)(w:World)
variable{a b d e f g i j k m n K w}
end
section
variable(a:OA)(b c:Nat)(d:OA)(e f:Nat)(g:Addr)(i:Bool)(j:OA)(k m:Int)(Q:aZ)(w:World)
variable{a b c d e f g j k}
end
section
variable(a:OA)(b c:Nat)(d:OA)(e f:Nat)(g:Addr)(i:Bool)(j:OA)(k m:Int)(K:KT)(w:World)
end
end Go.Proofs.YtfleamccglihoaaGreatDoor
