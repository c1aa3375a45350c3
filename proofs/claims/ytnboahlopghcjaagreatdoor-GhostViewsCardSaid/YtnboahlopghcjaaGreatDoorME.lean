import Derived.Test.YtnboahlopghcjaaGreatDoorProg
import Derived.Test.YtnboahlopghcjaaGreatDoorMA
import Derived.Test.YtnboahlopghcjaaGreatDoorMB
set_option linter.unusedVariables false
namespace Go.Proofs.YtnboahlopghcjaaGreatDoor
open Go.Proofs.Tryz
open Go Go.bS
def dS.k:List Nat:= []
section
variable(a:OA)(b:AV)(d:AV)(K:KT)(w:World)
def dS.W:Prop:=
 let e:=w.alloc (.cells b 23);let f:=e.alloc (.cells d 23);let g:=f.drew;∃i:AV,(i.size=32/\Cells g (⟨w.heap.size,0,none⟩:Addr) i)/\ ∃j:AV,(j.size=32/\Cells g (⟨e.heap.size,0,none⟩:Addr) j)/\i.size=32/\j.size=32/\let k:=g.alloc (.cells (i.toList++(j.toList++([]))).toArray 23);bk prog 55 #[.pointer a,.slice (some (⟨g.heap.size,0,none⟩:Addr)) 2 2] k fun m n=> ∃o:Bool,m=.bool o/\Split o (Is a fun p:Addr=> ∃q:OA,n.cell? (p.add 1)=some (.pointer q)/\Is a fun r:Addr=> ∃t:Option Nat,n.cell? (r.add 2)=some (.map t)/\ ∃u:AV,(u.size=32/\Cells n (⟨e.heap.size,0,none⟩:Addr) u)/\ ∃v:Int,(Instr.lookup 89 (.map t) (.agg u) false).run prog n=.ok (.int .i64 v) n/\Is a fun x:Addr=> ∃y:Option Nat,n.cell? (x.add 2)=some (.map y)/\ ∃z:AV,(z.size=32/\Cells n (⟨w.heap.size,0,none⟩:Addr) z)/\ ∃a1:Int,(Instr.lookup 89 (.map y) (.agg z) false).run prog n=.ok (.int .i64 a1) n/\bk prog 56 #[.pointer q,.int .i64 v,.int .i64 a1] n fun b1 c1=> ∃d1:Bool,b1=.bool d1/\K (.bool d1) c1) (K (.bool false) n)
variable{a b d K w}
theorem dS.of(h:dS.W a b d K w):bk prog 32 #[.pointer a,.agg b,.agg d] w K:=
 aK (C:=dS.k) (c:=body f32) ng mix func32 (by kernel_rfl) (by kernel_rfl) (by kernel_rfl) h
end
def gh.k:List Nat:= []
section
variable(a:OA)(K:KT)(w:World)
def gh.W:Prop:=
 Split ((a).isNone) (K (.pointer none) w) (Is a fun b:Addr=> ∃d:OA,w.cell? (b.add 0)=some (.pointer d)/\K (.pointer d) w)
variable{a K w}
theorem gh.of(h:gh.W a K w):bk prog 35 #[.pointer a] w K:=
 aK (C:=gh.k) (c:=body f35) ng mix func35 (by kernel_rfl) (by kernel_rfl) (by kernel_rfl) h
end
def aq.k:List Nat:= []
def aq.N1(a:OA)(b:OA)(c:World)(d:World)(e:World)(K:KT)(f:World):Prop:=
 let g:=f.alloc (.cells (#[.pointer a,.pointer b,.map (some c.heap.size),.slice (some (⟨d.heap.size,0,none⟩:Addr)) 1 1,.map (some e.heap.size)]:AV) 109);K (.pointer (some (⟨f.heap.size,0,none⟩:Addr))) g
def aq.N2(a:OA)(b:OA)(c:World)(d:World)(K:KT)(e:World):Prop:=
 let f:=e.alloc (.map #[] 0);aq.N1 a b c d e K f
def aq.N3(a:AV)(b:OA)(c:OA)(d:World)(e:World)(K:KT)(f:World):Prop:=
 a.size=32/\let g:=f.alloc (.cells (a.toList++ []).toArray 23);aq.N1 b c d f e K g
def aq.N4(a:AV)(b:OA)(c:OA)(d:World)(w:World)(K:KT)(e:World):Prop:=
 (a.size=32/\let f:=e.alloc (.cells (a.toList++ []).toArray 23);aq.N2 b c d e K f)/\(let g:=e.alloc (.map #[] 0);(∃cs:AV,(.agg a:Value)=.agg cs/\cs.size=32/\Cells g (⟨w.heap.size,0,none⟩:Addr) cs)/\aq.N3 a b c d e K g)
def aq.N5(a:World)(b:AV)(c:OA)(d:OA)(e:World)(f:World)(K:KT)(g:World):Prop:=
 ∃i:World,(Instr.mapUpdate 89 (.map (some a.heap.size)) (.agg b) (.int .i64 0)).run prog g=.ok () i/\aq.N1 c d a e f K i
def aq.N6(a:World)(b:AV)(c:OA)(d:OA)(e:World)(w:World)(K:KT)(f:World):Prop:=
 (∃g:World,(Instr.mapUpdate 89 (.map (some a.heap.size)) (.agg b) (.int .i64 0)).run prog f=.ok () g/\aq.N2 c d a e K g)/\(let i:=f.alloc (.map #[] 0);(∃cs:AV,(.agg b:Value)=.agg cs/\cs.size=32/\Cells i (⟨w.heap.size,0,none⟩:Addr) cs)/\aq.N5 a b c d e f K i)
def aq.N7(a:World)(b:AV)(c:AV)(w:World)(d:OA)(e:OA)(f:World)(K:KT)(g:World):Prop:=
 (∃i:World,(Instr.mapUpdate 89 (.map (some a.heap.size)) (.agg b) (.int .i64 0)).run prog g=.ok () i/\(∃cs:AV,(.agg c:Value)=.agg cs/\cs.size=32/\Cells i (⟨w.heap.size,0,none⟩:Addr) cs)/\aq.N3 c d e a f K i)/\(c.size=32/\let j:=g.alloc (.cells (c.toList++ []).toArray 23);(∃cs:AV,(.agg b:Value)=.agg cs/\cs.size=32/\Cells j (⟨w.heap.size,0,none⟩:Addr) cs)/\aq.N5 a b d e g f K j)
def aq.N8(a:World)(b:AV)(c:AV)(w:World)(d:OA)(e:OA)(K:KT)(f:World):Prop:=
 (∃g:World,(Instr.mapUpdate 89 (.map (some a.heap.size)) (.agg b) (.int .i64 0)).run prog f=.ok () g/\(∃cs:AV,(.agg c:Value)=.agg cs/\cs.size=32/\Cells g (⟨w.heap.size,0,none⟩:Addr) cs)/\aq.N4 c d e a w K g)/\(c.size=32/\let i:=f.alloc (.cells (c.toList++ []).toArray 23);(∃cs:AV,(.agg b:Value)=.agg cs/\cs.size=32/\Cells i (⟨w.heap.size,0,none⟩:Addr) cs)/\aq.N6 a b d e f w K i)/\(let j:=f.alloc (.map #[] 0);(∃cs:AV,(.agg c:Value)=.agg cs/\cs.size=32/\Cells j (⟨w.heap.size,0,none⟩:Addr) cs)/\(∃cs:AV,(.agg b:Value)=.agg cs/\cs.size=32/\Cells j (⟨w.heap.size,0,none⟩:Addr) cs)/\aq.N7 a b c w d e f K j)
def aq.N9(a:AV)(w:World)(b:OA)(c:OA)(d:World)(e:World)(K:KT)(f:World):Prop:=
 let g:=f.alloc (.map #[] 0);(∃cs:AV,(.agg a:Value)=.agg cs/\cs.size=32/\Cells g (⟨w.heap.size,0,none⟩:Addr) cs)/\aq.N5 f a b c d e K g
def aq.PJ(a:AV)(w:World)(b:OA)(c:OA)(d:World)(K:KT)(e:World):Prop:=
 (let f:=e.alloc (.map #[] 0);(∃cs:AV,(.agg a:Value)=.agg cs/\cs.size=32/\Cells f (⟨w.heap.size,0,none⟩:Addr) cs)/\aq.N6 e a b c d w K f)/\(let g:=e.alloc (.map #[] 0);(∃cs:AV,(.agg a:Value)=.agg cs/\cs.size=32/\Cells g (⟨w.heap.size,0,none⟩:Addr) cs)/\aq.N9 a w b c d e K g)
def aq.VY(a:AV)(w:World)(b:AV)(c:OA)(d:OA)(e:World)(K:KT)(f:World):Prop:=
 (let g:=f.alloc (.map #[] 0);(∃cs:AV,(.agg a:Value)=.agg cs/\cs.size=32/\Cells g (⟨w.heap.size,0,none⟩:Addr) cs)/\(∃cs:AV,(.agg b:Value)=.agg cs/\cs.size=32/\Cells g (⟨w.heap.size,0,none⟩:Addr) cs)/\aq.N7 f b a w c d e K g)/\(a.size=32/\let i:=f.alloc (.cells (a.toList++ []).toArray 23);(∃cs:AV,(.agg b:Value)=.agg cs/\cs.size=32/\Cells i (⟨w.heap.size,0,none⟩:Addr) cs)/\aq.N9 b w c d f e K i)
def aq.ON(a:AV)(w:World)(b:AV)(c:OA)(d:OA)(K:KT)(e:World):Prop:=
 (let f:=e.alloc (.map #[] 0);(∃cs:AV,(.agg a:Value)=.agg cs/\cs.size=32/\Cells f (⟨w.heap.size,0,none⟩:Addr) cs)/\(∃cs:AV,(.agg b:Value)=.agg cs/\cs.size=32/\Cells f (⟨w.heap.size,0,none⟩:Addr) cs)/\aq.N8 e b a w c d K f)/\(a.size=32/\let g:=e.alloc (.cells (a.toList++ []).toArray 23);(∃cs:AV,(.agg b:Value)=.agg cs/\cs.size=32/\Cells g (⟨w.heap.size,0,none⟩:Addr) cs)/\aq.PJ b w c d e K g)/\(let i:=e.alloc (.map #[] 0);(∃cs:AV,(.agg a:Value)=.agg cs/\cs.size=32/\Cells i (⟨w.heap.size,0,none⟩:Addr) cs)/\(∃cs:AV,(.agg b:Value)=.agg cs/\cs.size=32/\Cells i (⟨w.heap.size,0,none⟩:Addr) cs)/\aq.VY a w b c d e K i)
def aq.JT(a:OA)(b:World)(c:World)(d:World)(K:KT)(e:World):Prop:=
 bk prog 65 #[] e fun f g=> ∃i:OA,f=.pointer i/\aq.N1 a i b c d K g
def aq.OM(a:OA)(b:World)(c:World)(K:KT)(d:World):Prop:=
 (bk prog 65 #[] d fun e f=> ∃g:OA,e=.pointer g/\aq.N2 a g b c K f)/\(let i:=d.alloc (.map #[] 0);aq.JT a b c d K i)
def aq.UD(a:AV)(w:World)(b:OA)(c:World)(d:World)(K:KT)(e:World):Prop:=
 (bk prog 65 #[] e fun f g=> ∃i:OA,f=.pointer i/\(∃cs:AV,(.agg a:Value)=.agg cs/\cs.size=32/\Cells g (⟨w.heap.size,0,none⟩:Addr) cs)/\aq.N3 a b i c d K g)/\(a.size=32/\let j:=e.alloc (.cells (a.toList++ []).toArray 23);aq.JT b c e d K j)
def aq.PI(a:AV)(w:World)(b:OA)(c:World)(K:KT)(d:World):Prop:=
 (bk prog 65 #[] d fun e f=> ∃g:OA,e=.pointer g/\(∃cs:AV,(.agg a:Value)=.agg cs/\cs.size=32/\Cells f (⟨w.heap.size,0,none⟩:Addr) cs)/\aq.N4 a b g c w K f)/\(a.size=32/\let i:=d.alloc (.cells (a.toList++ []).toArray 23);aq.OM b c d K i)/\(let j:=d.alloc (.map #[] 0);(∃cs:AV,(.agg a:Value)=.agg cs/\cs.size=32/\Cells j (⟨w.heap.size,0,none⟩:Addr) cs)/\aq.UD a w b c d K j)
def aq.PH(a:AV)(w:World)(b:World)(c:OA)(d:World)(e:World)(K:KT)(f:World):Prop:=
 (bk prog 65 #[] f fun g i=> ∃j:OA,g=.pointer j/\(∃cs:AV,(.agg a:Value)=.agg cs/\cs.size=32/\Cells i (⟨w.heap.size,0,none⟩:Addr) cs)/\aq.N5 b a c j d e K i)/\(∃k:World,(Instr.mapUpdate 89 (.map (some b.heap.size)) (.agg a) (.int .i64 0)).run prog f=.ok () k/\aq.JT c b d e K k)
def aq.UC(a:AV)(w:World)(b:World)(c:OA)(d:World)(K:KT)(e:World):Prop:=
 (bk prog 65 #[] e fun f g=> ∃i:OA,f=.pointer i/\(∃cs:AV,(.agg a:Value)=.agg cs/\cs.size=32/\Cells g (⟨w.heap.size,0,none⟩:Addr) cs)/\aq.N6 b a c i d w K g)/\(∃j:World,(Instr.mapUpdate 89 (.map (some b.heap.size)) (.agg a) (.int .i64 0)).run prog e=.ok () j/\aq.OM c b d K j)/\(let k:=e.alloc (.map #[] 0);(∃cs:AV,(.agg a:Value)=.agg cs/\cs.size=32/\Cells k (⟨w.heap.size,0,none⟩:Addr) cs)/\aq.PH a w b c d e K k)
def aq.H4(a:AV)(w:World)(b:AV)(c:World)(d:OA)(e:World)(K:KT)(f:World):Prop:=
 (bk prog 65 #[] f fun g i=> ∃j:OA,g=.pointer j/\(∃cs:AV,(.agg a:Value)=.agg cs/\cs.size=32/\Cells i (⟨w.heap.size,0,none⟩:Addr) cs)/\(∃cs:AV,(.agg b:Value)=.agg cs/\cs.size=32/\Cells i (⟨w.heap.size,0,none⟩:Addr) cs)/\aq.N7 c b a w d j e K i)/\(∃k:World,(Instr.mapUpdate 89 (.map (some c.heap.size)) (.agg b) (.int .i64 0)).run prog f=.ok () k/\(∃cs:AV,(.agg a:Value)=.agg cs/\cs.size=32/\Cells k (⟨w.heap.size,0,none⟩:Addr) cs)/\aq.UD a w d c e K k)/\(a.size=32/\let m:=f.alloc (.cells (a.toList++ []).toArray 23);(∃cs:AV,(.agg b:Value)=.agg cs/\cs.size=32/\Cells m (⟨w.heap.size,0,none⟩:Addr) cs)/\aq.PH b w c d f e K m)
def aq.Ly(a:AV)(w:World)(b:AV)(c:World)(d:OA)(K:KT)(e:World):Prop:=
 (bk prog 65 #[] e fun f g=> ∃i:OA,f=.pointer i/\(∃cs:AV,(.agg a:Value)=.agg cs/\cs.size=32/\Cells g (⟨w.heap.size,0,none⟩:Addr) cs)/\(∃cs:AV,(.agg b:Value)=.agg cs/\cs.size=32/\Cells g (⟨w.heap.size,0,none⟩:Addr) cs)/\aq.N8 c b a w d i K g)/\(∃j:World,(Instr.mapUpdate 89 (.map (some c.heap.size)) (.agg b) (.int .i64 0)).run prog e=.ok () j/\(∃cs:AV,(.agg a:Value)=.agg cs/\cs.size=32/\Cells j (⟨w.heap.size,0,none⟩:Addr) cs)/\aq.PI a w d c K j)/\(a.size=32/\let k:=e.alloc (.cells (a.toList++ []).toArray 23);(∃cs:AV,(.agg b:Value)=.agg cs/\cs.size=32/\Cells k (⟨w.heap.size,0,none⟩:Addr) cs)/\aq.UC b w c d e K k)/\(let m:=e.alloc (.map #[] 0);(∃cs:AV,(.agg a:Value)=.agg cs/\cs.size=32/\Cells m (⟨w.heap.size,0,none⟩:Addr) cs)/\(∃cs:AV,(.agg b:Value)=.agg cs/\cs.size=32/\Cells m (⟨w.heap.size,0,none⟩:Addr) cs)/\aq.H4 a w b c d e K m)
def aq.Lx(a:AV)(w:World)(b:OA)(c:World)(d:World)(K:KT)(e:World):Prop:=
 (bk prog 65 #[] e fun f g=> ∃i:OA,f=.pointer i/\(∃cs:AV,(.agg a:Value)=.agg cs/\cs.size=32/\Cells g (⟨w.heap.size,0,none⟩:Addr) cs)/\aq.N9 a w b i c d K g)/\(let j:=e.alloc (.map #[] 0);(∃cs:AV,(.agg a:Value)=.agg cs/\cs.size=32/\Cells j (⟨w.heap.size,0,none⟩:Addr) cs)/\aq.PH a w e b c d K j)
def aq.PF(a:AV)(w:World)(b:OA)(c:World)(K:KT)(d:World):Prop:=
 (bk prog 65 #[] d fun e f=> ∃g:OA,e=.pointer g/\(∃cs:AV,(.agg a:Value)=.agg cs/\cs.size=32/\Cells f (⟨w.heap.size,0,none⟩:Addr) cs)/\aq.PJ a w b g c K f)/\(let i:=d.alloc (.map #[] 0);(∃cs:AV,(.agg a:Value)=.agg cs/\cs.size=32/\Cells i (⟨w.heap.size,0,none⟩:Addr) cs)/\aq.UC a w d b c K i)/\(let j:=d.alloc (.map #[] 0);(∃cs:AV,(.agg a:Value)=.agg cs/\cs.size=32/\Cells j (⟨w.heap.size,0,none⟩:Addr) cs)/\aq.Lx a w b c d K j)
def aq.VX(a:AV)(w:World)(b:AV)(c:OA)(d:World)(K:KT)(e:World):Prop:=
 (bk prog 65 #[] e fun f g=> ∃i:OA,f=.pointer i/\(∃cs:AV,(.agg a:Value)=.agg cs/\cs.size=32/\Cells g (⟨w.heap.size,0,none⟩:Addr) cs)/\(∃cs:AV,(.agg b:Value)=.agg cs/\cs.size=32/\Cells g (⟨w.heap.size,0,none⟩:Addr) cs)/\aq.VY a w b c i d K g)/\(let j:=e.alloc (.map #[] 0);(∃cs:AV,(.agg a:Value)=.agg cs/\cs.size=32/\Cells j (⟨w.heap.size,0,none⟩:Addr) cs)/\(∃cs:AV,(.agg b:Value)=.agg cs/\cs.size=32/\Cells j (⟨w.heap.size,0,none⟩:Addr) cs)/\aq.H4 a w b e c d K j)/\(a.size=32/\let k:=e.alloc (.cells (a.toList++ []).toArray 23);(∃cs:AV,(.agg b:Value)=.agg cs/\cs.size=32/\Cells k (⟨w.heap.size,0,none⟩:Addr) cs)/\aq.Lx b w c e d K k)
def aq.UB(a:AV)(w:World)(b:AV)(c:OA)(K:KT)(d:World):Prop:=
 (bk prog 65 #[] d fun e f=> ∃g:OA,e=.pointer g/\(∃cs:AV,(.agg a:Value)=.agg cs/\cs.size=32/\Cells f (⟨w.heap.size,0,none⟩:Addr) cs)/\(∃cs:AV,(.agg b:Value)=.agg cs/\cs.size=32/\Cells f (⟨w.heap.size,0,none⟩:Addr) cs)/\aq.ON a w b c g K f)/\(let i:=d.alloc (.map #[] 0);(∃cs:AV,(.agg a:Value)=.agg cs/\cs.size=32/\Cells i (⟨w.heap.size,0,none⟩:Addr) cs)/\(∃cs:AV,(.agg b:Value)=.agg cs/\cs.size=32/\Cells i (⟨w.heap.size,0,none⟩:Addr) cs)/\aq.Ly a w b d c K i)/\(a.size=32/\let j:=d.alloc (.cells (a.toList++ []).toArray 23);(∃cs:AV,(.agg b:Value)=.agg cs/\cs.size=32/\Cells j (⟨w.heap.size,0,none⟩:Addr) cs)/\aq.PF b w c d K j)/\(let k:=d.alloc (.map #[] 0);(∃cs:AV,(.agg a:Value)=.agg cs/\cs.size=32/\Cells k (⟨w.heap.size,0,none⟩:Addr) cs)/\(∃cs:AV,(.agg b:Value)=.agg cs/\cs.size=32/\Cells k (⟨w.heap.size,0,none⟩:Addr) cs)/\aq.VX a w b c d K k)
def aq.UA(a:AV)(b:World)(c:World)(d:World)(K:KT)(e:World):Prop:=
 bk prog 64 #[.agg a] e fun f g=> ∃i:OA,f=.pointer i/\aq.JT i b c d K g
def aq.VW(a:AV)(b:World)(c:World)(w:World)(K:KT)(d:World):Prop:=
 (bk prog 64 #[.agg a] d fun e f=> ∃g:OA,e=.pointer g/\aq.OM g b c K f)/\(let i:=d.alloc (.map #[] 0);(∃cs:AV,(.agg a:Value)=.agg cs/\cs.size=32/\Cells i (⟨w.heap.size,0,none⟩:Addr) cs)/\aq.UA a b c d K i)
def aq.OL(a:AV)(b:AV)(w:World)(c:World)(d:World)(K:KT)(e:World):Prop:=
 (bk prog 64 #[.agg a] e fun f g=> ∃i:OA,f=.pointer i/\(∃cs:AV,(.agg b:Value)=.agg cs/\cs.size=32/\Cells g (⟨w.heap.size,0,none⟩:Addr) cs)/\aq.UD b w i c d K g)/\(b.size=32/\let j:=e.alloc (.cells (b.toList++ []).toArray 23);(∃cs:AV,(.agg a:Value)=.agg cs/\cs.size=32/\Cells j (⟨w.heap.size,0,none⟩:Addr) cs)/\aq.UA a c e d K j)
def aq.N28(a:AV)(b:AV)(w:World)(c:World)(K:KT)(d:World):Prop:=
 (bk prog 64 #[.agg a] d fun e f=> ∃g:OA,e=.pointer g/\(∃cs:AV,(.agg b:Value)=.agg cs/\cs.size=32/\Cells f (⟨w.heap.size,0,none⟩:Addr) cs)/\aq.PI b w g c K f)/\(b.size=32/\let i:=d.alloc (.cells (b.toList++ []).toArray 23);(∃cs:AV,(.agg a:Value)=.agg cs/\cs.size=32/\Cells i (⟨w.heap.size,0,none⟩:Addr) cs)/\aq.VW a c d w K i)/\(let j:=d.alloc (.map #[] 0);(∃cs:AV,(.agg b:Value)=.agg cs/\cs.size=32/\Cells j (⟨w.heap.size,0,none⟩:Addr) cs)/\(∃cs:AV,(.agg a:Value)=.agg cs/\cs.size=32/\Cells j (⟨w.heap.size,0,none⟩:Addr) cs)/\aq.OL a b w c d K j)
def aq.Uz(a:AV)(b:AV)(w:World)(c:World)(d:World)(e:World)(K:KT)(f:World):Prop:=
 (bk prog 64 #[.agg a] f fun g i=> ∃j:OA,g=.pointer j/\(∃cs:AV,(.agg b:Value)=.agg cs/\cs.size=32/\Cells i (⟨w.heap.size,0,none⟩:Addr) cs)/\aq.PH b w c j d e K i)/\(∃k:World,(Instr.mapUpdate 89 (.map (some c.heap.size)) (.agg b) (.int .i64 0)).run prog f=.ok () k/\(∃cs:AV,(.agg a:Value)=.agg cs/\cs.size=32/\Cells k (⟨w.heap.size,0,none⟩:Addr) cs)/\aq.UA a c d e K k)
def aq.VV(a:AV)(b:AV)(w:World)(c:World)(d:World)(K:KT)(e:World):Prop:=
 (bk prog 64 #[.agg a] e fun f g=> ∃i:OA,f=.pointer i/\(∃cs:AV,(.agg b:Value)=.agg cs/\cs.size=32/\Cells g (⟨w.heap.size,0,none⟩:Addr) cs)/\aq.UC b w c i d K g)/\(∃j:World,(Instr.mapUpdate 89 (.map (some c.heap.size)) (.agg b) (.int .i64 0)).run prog e=.ok () j/\(∃cs:AV,(.agg a:Value)=.agg cs/\cs.size=32/\Cells j (⟨w.heap.size,0,none⟩:Addr) cs)/\aq.VW a c d w K j)/\(let k:=e.alloc (.map #[] 0);(∃cs:AV,(.agg b:Value)=.agg cs/\cs.size=32/\Cells k (⟨w.heap.size,0,none⟩:Addr) cs)/\(∃cs:AV,(.agg a:Value)=.agg cs/\cs.size=32/\Cells k (⟨w.heap.size,0,none⟩:Addr) cs)/\aq.Uz a b w c d e K k)
def aq.VU(a:AV)(b:AV)(w:World)(c:AV)(d:World)(e:World)(K:KT)(f:World):Prop:=
 (bk prog 64 #[.agg a] f fun g i=> ∃j:OA,g=.pointer j/\(∃cs:AV,(.agg b:Value)=.agg cs/\cs.size=32/\Cells i (⟨w.heap.size,0,none⟩:Addr) cs)/\(∃cs:AV,(.agg c:Value)=.agg cs/\cs.size=32/\Cells i (⟨w.heap.size,0,none⟩:Addr) cs)/\aq.H4 b w c d j e K i)/\(∃k:World,(Instr.mapUpdate 89 (.map (some d.heap.size)) (.agg c) (.int .i64 0)).run prog f=.ok () k/\(∃cs:AV,(.agg b:Value)=.agg cs/\cs.size=32/\Cells k (⟨w.heap.size,0,none⟩:Addr) cs)/\(∃cs:AV,(.agg a:Value)=.agg cs/\cs.size=32/\Cells k (⟨w.heap.size,0,none⟩:Addr) cs)/\aq.OL a b w d e K k)/\(b.size=32/\let m:=f.alloc (.cells (b.toList++ []).toArray 23);(∃cs:AV,(.agg c:Value)=.agg cs/\cs.size=32/\Cells m (⟨w.heap.size,0,none⟩:Addr) cs)/\(∃cs:AV,(.agg a:Value)=.agg cs/\cs.size=32/\Cells m (⟨w.heap.size,0,none⟩:Addr) cs)/\aq.Uz a c w d f e K m)
def aq.N32(a:AV)(b:AV)(w:World)(c:AV)(d:World)(K:KT)(e:World):Prop:=
 (bk prog 64 #[.agg a] e fun f g=> ∃i:OA,f=.pointer i/\(∃cs:AV,(.agg b:Value)=.agg cs/\cs.size=32/\Cells g (⟨w.heap.size,0,none⟩:Addr) cs)/\(∃cs:AV,(.agg c:Value)=.agg cs/\cs.size=32/\Cells g (⟨w.heap.size,0,none⟩:Addr) cs)/\aq.Ly b w c d i K g)/\(∃j:World,(Instr.mapUpdate 89 (.map (some d.heap.size)) (.agg c) (.int .i64 0)).run prog e=.ok () j/\(∃cs:AV,(.agg b:Value)=.agg cs/\cs.size=32/\Cells j (⟨w.heap.size,0,none⟩:Addr) cs)/\(∃cs:AV,(.agg a:Value)=.agg cs/\cs.size=32/\Cells j (⟨w.heap.size,0,none⟩:Addr) cs)/\aq.N28 a b w d K j)/\(b.size=32/\let k:=e.alloc (.cells (b.toList++ []).toArray 23);(∃cs:AV,(.agg c:Value)=.agg cs/\cs.size=32/\Cells k (⟨w.heap.size,0,none⟩:Addr) cs)/\(∃cs:AV,(.agg a:Value)=.agg cs/\cs.size=32/\Cells k (⟨w.heap.size,0,none⟩:Addr) cs)/\aq.VV a c w d e K k)/\(let m:=e.alloc (.map #[] 0);(∃cs:AV,(.agg b:Value)=.agg cs/\cs.size=32/\Cells m (⟨w.heap.size,0,none⟩:Addr) cs)/\(∃cs:AV,(.agg c:Value)=.agg cs/\cs.size=32/\Cells m (⟨w.heap.size,0,none⟩:Addr) cs)/\(∃cs:AV,(.agg a:Value)=.agg cs/\cs.size=32/\Cells m (⟨w.heap.size,0,none⟩:Addr) cs)/\aq.VU a b w c d e K m)
def aq.VT(a:AV)(b:AV)(w:World)(c:World)(d:World)(K:KT)(e:World):Prop:=
 (bk prog 64 #[.agg a] e fun f g=> ∃i:OA,f=.pointer i/\(∃cs:AV,(.agg b:Value)=.agg cs/\cs.size=32/\Cells g (⟨w.heap.size,0,none⟩:Addr) cs)/\aq.Lx b w i c d K g)/\(let j:=e.alloc (.map #[] 0);(∃cs:AV,(.agg b:Value)=.agg cs/\cs.size=32/\Cells j (⟨w.heap.size,0,none⟩:Addr) cs)/\(∃cs:AV,(.agg a:Value)=.agg cs/\cs.size=32/\Cells j (⟨w.heap.size,0,none⟩:Addr) cs)/\aq.Uz a b w e c d K j)
def aq.N34(a:AV)(b:AV)(w:World)(c:World)(K:KT)(d:World):Prop:=
 (bk prog 64 #[.agg a] d fun e f=> ∃g:OA,e=.pointer g/\(∃cs:AV,(.agg b:Value)=.agg cs/\cs.size=32/\Cells f (⟨w.heap.size,0,none⟩:Addr) cs)/\aq.PF b w g c K f)/\(let i:=d.alloc (.map #[] 0);(∃cs:AV,(.agg b:Value)=.agg cs/\cs.size=32/\Cells i (⟨w.heap.size,0,none⟩:Addr) cs)/\(∃cs:AV,(.agg a:Value)=.agg cs/\cs.size=32/\Cells i (⟨w.heap.size,0,none⟩:Addr) cs)/\aq.VV a b w d c K i)/\(let j:=d.alloc (.map #[] 0);(∃cs:AV,(.agg b:Value)=.agg cs/\cs.size=32/\Cells j (⟨w.heap.size,0,none⟩:Addr) cs)/\(∃cs:AV,(.agg a:Value)=.agg cs/\cs.size=32/\Cells j (⟨w.heap.size,0,none⟩:Addr) cs)/\aq.VT a b w c d K j)
def aq.N35(a:AV)(b:AV)(w:World)(c:AV)(d:World)(K:KT)(e:World):Prop:=
 (bk prog 64 #[.agg a] e fun f g=> ∃i:OA,f=.pointer i/\(∃cs:AV,(.agg b:Value)=.agg cs/\cs.size=32/\Cells g (⟨w.heap.size,0,none⟩:Addr) cs)/\(∃cs:AV,(.agg c:Value)=.agg cs/\cs.size=32/\Cells g (⟨w.heap.size,0,none⟩:Addr) cs)/\aq.VX b w c i d K g)/\(let j:=e.alloc (.map #[] 0);(∃cs:AV,(.agg b:Value)=.agg cs/\cs.size=32/\Cells j (⟨w.heap.size,0,none⟩:Addr) cs)/\(∃cs:AV,(.agg c:Value)=.agg cs/\cs.size=32/\Cells j (⟨w.heap.size,0,none⟩:Addr) cs)/\(∃cs:AV,(.agg a:Value)=.agg cs/\cs.size=32/\Cells j (⟨w.heap.size,0,none⟩:Addr) cs)/\aq.VU a b w c e d K j)/\(b.size=32/\let k:=e.alloc (.cells (b.toList++ []).toArray 23);(∃cs:AV,(.agg c:Value)=.agg cs/\cs.size=32/\Cells k (⟨w.heap.size,0,none⟩:Addr) cs)/\(∃cs:AV,(.agg a:Value)=.agg cs/\cs.size=32/\Cells k (⟨w.heap.size,0,none⟩:Addr) cs)/\aq.VT a c w e d K k)
def aq.N36(a:AV)(b:AV)(w:World)(c:AV)(K:KT)(d:World):Prop:=
 (bk prog 64 #[.agg a] d fun e f=> ∃g:OA,e=.pointer g/\(∃cs:AV,(.agg b:Value)=.agg cs/\cs.size=32/\Cells f (⟨w.heap.size,0,none⟩:Addr) cs)/\(∃cs:AV,(.agg c:Value)=.agg cs/\cs.size=32/\Cells f (⟨w.heap.size,0,none⟩:Addr) cs)/\aq.UB b w c g K f)/\(let i:=d.alloc (.map #[] 0);(∃cs:AV,(.agg b:Value)=.agg cs/\cs.size=32/\Cells i (⟨w.heap.size,0,none⟩:Addr) cs)/\(∃cs:AV,(.agg c:Value)=.agg cs/\cs.size=32/\Cells i (⟨w.heap.size,0,none⟩:Addr) cs)/\(∃cs:AV,(.agg a:Value)=.agg cs/\cs.size=32/\Cells i (⟨w.heap.size,0,none⟩:Addr) cs)/\aq.N32 a b w c d K i)/\(b.size=32/\let j:=d.alloc (.cells (b.toList++ []).toArray 23);(∃cs:AV,(.agg c:Value)=.agg cs/\cs.size=32/\Cells j (⟨w.heap.size,0,none⟩:Addr) cs)/\(∃cs:AV,(.agg a:Value)=.agg cs/\cs.size=32/\Cells j (⟨w.heap.size,0,none⟩:Addr) cs)/\aq.N34 a c w d K j)/\(let k:=d.alloc (.map #[] 0);(∃cs:AV,(.agg b:Value)=.agg cs/\cs.size=32/\Cells k (⟨w.heap.size,0,none⟩:Addr) cs)/\(∃cs:AV,(.agg c:Value)=.agg cs/\cs.size=32/\Cells k (⟨w.heap.size,0,none⟩:Addr) cs)/\(∃cs:AV,(.agg a:Value)=.agg cs/\cs.size=32/\Cells k (⟨w.heap.size,0,none⟩:Addr) cs)/\aq.N35 a b w c d K k)
section
variable(a:AV)(K:KT)(w:World)
def aq.W:Prop:=
 let b:=w.alloc (.cells a 23);let d:=b.drew;∃e:AV,(e.size=32/\Cells d (⟨w.heap.size,0,none⟩:Addr) e)/\ ∃f:AV,(f.size=32/\Cells d (⟨w.heap.size,0,none⟩:Addr) f)/\ ∃g:AV,(g.size=32/\Cells d (⟨w.heap.size,0,none⟩:Addr) g)/\aq.N36 e g w f K d
variable{a K w}
theorem aq.of(h:aq.W a K w):bk prog 39 #[.agg a] w K:=
 aK (C:=aq.k) (c:=body f39) ng mix func39 (by kernel_rfl) (by kernel_rfl) (by kernel_rfl) h
end
def az.k:List Nat:= []
def az.q1(K:KT):aN:=(aL 1 (b7 (sR (sR (sR (sR (sR (sR (body f43)))))))++(aR f43)) (bT (fun bW w_=>match cutAt az.k (sR (sR (sR (sR (sR (sR (body f43)))))))with|true=>Holds none [] prog 131 (sR (sR (sR (sR (sR (sR (body f43))))))) (bH prog f43 K) bW w_|false=>aW none [] prog 131 az.k (sR (sR (sR (sR (sR (sR (body f43))))))) (aR f43) (bH prog f43 K) bW w_) (bH prog f43 K)))
def az.e1(a:OA)(b:OA)(c:Nat)(d:Nat)(e:Addr)(f:Addr)(g:Int)(i:OA)(j:Option Nat)(k:OA)(m:Nat)(n:Nat)(o:Int)(s:Int):Env:= [(0,.pointer a),(3,.slice b c d),(5,.pointer (some e)),(6,.pointer (some f)),(8,.int .i64 g),(9,.pointer i),(10,.map j),(57,.slice k m n),(58,.int .i64 o),(59,.int .i64 s)]
def az.u1:List Nat:= [0,3,5,6,8,9,10,57,58,59]
def az.q2(K:KT):aN:=(aL 3 (b7 (sR (sR (sR (sR (sR (sR (sR (sR (body f43)))))))))++(aR f43)) (bT (fun bW w_=>match cutAt az.k (sR (sR (sR (sR (sR (sR (sR (sR (body f43)))))))))with|true=>Holds none [] prog 131 (sR (sR (sR (sR (sR (sR (sR (sR (body f43))))))))) (bH prog f43 K) bW w_|false=>aW none [] prog 131 az.k (sR (sR (sR (sR (sR (sR (sR (sR (body f43))))))))) (aR f43) (bH prog f43 K) bW w_) (bH prog f43 K)))
def az.e2(a:OA)(b:Addr)(c:Addr)(d:Int)(e:Option Nat)(f:OA)(g:Nat)(i:Nat)(j:Int)(s:Int):Env:= [(0,.pointer a),(5,.pointer (some b)),(6,.pointer (some c)),(8,.int .i64 d),(10,.map e),(74,.slice f g i),(75,.int .i64 j),(76,.int .i64 s)]
def az.u2:List Nat:= [0,5,6,8,10,74,75,76]
section
variable(a:OA)(b:AV)(d:AV)(e:OA)(f:Nat)(g:Nat)(K:KT)(w:World)
def az.W:Prop:=
 let i:=w.alloc (.cells b 23);let j:=i.alloc (.cells d 23);bk prog 78 #[.pointer a] j fun k m=> ∃n:Bool,k=.bool n/\Split (!n) (K (.int .i64 1) m) (Is a fun o:Addr=> ∃p:OA,m.cell? (o.add 0)=some (.pointer p)/\ ∃q:AV,(q.size=32/\Cells m (⟨w.heap.size,0,none⟩:Addr) q)/\bk prog 79 #[.pointer p,.agg q] m fun r t=> ∃u:Bool,r=.bool u/\Split u (K (.int .i64 7) t) (Split ((f:Int)==(0:Int)) (K (.int .i64 9) t) (bk prog 41 #[.slice e f g] t fun v x=> ∃y:OA,∃z:Nat,∃a1:Nat,v=.slice y z a1/\Split ((z:Int) != (f:Int)) (K (.int .i64 9) x) (bk prog 55 #[.pointer a,.slice e f g] x fun b1 c1=> ∃d1:Bool,b1=.bool d1/\Split (!d1) (K (.int .i64 6) c1) (∃e1:AV,(e1.size=32/\Cells c1 (⟨i.heap.size,0,none⟩:Addr) e1)/\bk prog 54 #[.slice e f g,.agg e1] c1 fun f1 g1=> ∃i1:Bool,f1=.bool i1/\Split (!i1) (K (.int .i64 2) g1) (let j1:=g1.alloc (.map #[] 0);∃k1:AV,(k1.size=32/\Cells j1 (⟨i.heap.size,0,none⟩:Addr) k1)/\ ∃m1:World,(Instr.mapUpdate 129 (.map (some g1.heap.size)) (.agg k1) (.agg #[.bool true])).run prog j1=.ok () m1/\ ∃n1:AV,(n1.size=32/\Cells m1 (⟨i.heap.size,0,none⟩:Addr) n1)/\n1.size=32/\let o1:=m1.alloc (.cells (n1.toList++ []).toArray 23);bk prog 70 #[.pointer p,.slice (some (⟨m1.heap.size,0,none⟩:Addr)) 1 1] o1 fun p1 q1=> ∃r1:OA,∃t1:Nat,∃u1:Nat,p1=.slice r1 t1 u1/\Holds none [] prog 131 (.loop (lB (bB (sR (sL (sR (sR (sR (sR (sR (body f43))))))))))) (az.q1 K) [(0,.pointer a),(3,.slice e f g),(5,.pointer (some (⟨w.heap.size,0,none⟩:Addr))),(6,.pointer (some (⟨i.heap.size,0,none⟩:Addr))),(8,.int .i64 0),(9,.pointer p),(10,.map (some g1.heap.size)),(57,.slice r1 t1 u1),(58,.int .i64 (t1:Int)),(59,.int .i64 0)] q1))))))
variable{a b d e f g K w}
theorem az.of(h:az.W a b d e f g K w):bk prog 43 #[.pointer a,.agg b,.agg d,.slice e f g] w K:=
 aK (C:=az.k) (c:=body f43) ng mix func43 (by kernel_rfl) (by kernel_rfl) (by kernel_rfl) h
end
section
variable(a:OA)(b:OA)(c:Nat)(d:Nat)(e:Addr)(f:Addr)(g:Int)(i:OA)(j:Option Nat)(k:OA)(m:Nat)(n:Nat)(o:Int)(p:Int)(Q:aN)(w:World)
def az.B1:Prop:=
 Split (decide (p<o)) ((0<=p/\p<(m:Int))/\Is k fun q:Addr=> ∃r:AV,(r.size=32/\Cells w (q.add (p.toNat*32)) r)/\let t:=w.alloc (.cells zH 23);(r.size=32/\(∀u∈r.toList,u.oneCell'=true)/\ ∀v,v<32->Wr t ((⟨w.heap.size,0,none⟩:Addr).add v))/\let x:=setCells t (⟨w.heap.size,0,none⟩:Addr) r.toList 0;∃y:AV,(y.size=32/\Cells x (⟨w.heap.size,0,none⟩:Addr) y)/\ ∃z:World,(Instr.mapUpdate 129 (.map j) (.agg y) (.agg #[.bool true])).run prog x=.ok () z/\Q .normal [(0,.pointer a),(3,.slice b c d),(5,.pointer (some e)),(6,.pointer (some f)),(8,.int .i64 g),(9,.pointer i),(10,.map j),(57,.slice k m n),(58,.int .i64 o),(59,.int .i64 (IntKind.i64.wrap (p+(1:Int))))] z) (Q (.exit 1) [(0,.pointer a),(3,.slice b c d),(5,.pointer (some e)),(6,.pointer (some f)),(8,.int .i64 g),(9,.pointer i),(10,.map j),(57,.slice k m n),(58,.int .i64 o),(59,.int .i64 p)] w)
theorem az.b1:(aW none [] prog 131 az.k (lB (bB (sR (sL (sR (sR (sR (sR (sR (body f43)))))))))) az.u1 Q [(0,.pointer a),(3,.slice b c d),(5,.pointer (some e)),(6,.pointer (some f)),(8,.int .i64 g),(9,.pointer i),(10,.map j),(57,.slice k m n),(58,.int .i64 o),(59,.int .i64 p)] w)=az.B1 a b c d e f g i j k m n o p Q w:=by kernel_rfl
variable{a b c d e f g i j k m n o}
theorem az.b9(I:Int->World->Prop)(μ:Int->World->Nat)(s:Int){Q:aN}{w:World}(h0:I s w)
 (round: ∀s w,I s w->az.B1 a b c d e f g i j k m n o s (bK (az.e1 a b c d e f g i j k m n o) I μ s w Q) w):Holds none [] prog 131 (.loop (lB (bB (sR (sL (sR (sR (sR (sR (sR (body f43))))))))))) Q (az.e1 a b c d e f g i j k m n o s) w:=
 bf ng mix (az.e1 a b c d e f g i j k m n o) I μ az.k az.u1 s (fun s Q w=>az.B1 a b c d e f g i j k m n o s Q w) (fun s Q w=>az.b1 a b c d e f g i j k m n o s Q w) h0 round
end
section
def az.Et(a:OA)(b:OA)(c:Nat)(d:Nat)(e:Addr)(f:Addr)(g:Int)(i:OA)(j:Option Nat)(k:OA)(m:Nat)(n:Nat)(o:Int)(p:Int)(K:KT)(w:World):Prop:=
 ∃q:AV,(q.size=32/\Cells w e q)/\bk prog 80 #[.pointer i,.agg q,.slice b c d] w fun r t=> ∃u:Int,r=.int .i64 u/\ ∃v:AV,(v.size=32/\Cells t e v)/\v.size=32/\let x:=t.alloc (.cells (v.toList++ []).toArray 23);bk prog 70 #[.pointer i,.slice (some (⟨t.heap.size,0,none⟩:Addr)) 1 1] x fun y z=> ∃a1:OA,∃b1:Nat,∃c1:Nat,y=.slice a1 b1 c1/\Holds none [] prog 131 (.loop (lB (bB (sR (sL (sR (sR (sR (sR (sR (sR (sR (body f43))))))))))))) (az.q2 K) [(0,.pointer a),(5,.pointer (some e)),(6,.pointer (some f)),(8,.int .i64 g),(10,.map j),(74,.slice a1 b1 c1),(75,.int .i64 (b1:Int)),(76,.int .i64 0)] z
variable(a:OA)(b:OA)(c:Nat)(d:Nat)(e:Addr)(f:Addr)(g:Int)(i:OA)(j:Option Nat)(k:OA)(m:Nat)(n:Nat)(o:Int)(p:Int)(K:KT)(w:World)
theorem az.LC:(az.q1 K (.exit 1) [(0,.pointer a),(3,.slice b c d),(5,.pointer (some e)),(6,.pointer (some f)),(8,.int .i64 g),(9,.pointer i),(10,.map j),(57,.slice k m n),(58,.int .i64 o),(59,.int .i64 p)] w)=az.Et a b c d e f g i j k m n o p K w:=by kernel_rfl
end
section
variable(a:OA)(b:Addr)(c:Addr)(d:Int)(e:Option Nat)(f:OA)(g:Nat)(i:Nat)(j:Int)(k:Int)(Q:aN)(w:World)
def az.B2:Prop:=
 Split (decide (k<j)) ((0<=k/\k<(g:Int))/\Is f fun m:Addr=> ∃n:AV,(n.size=32/\Cells w (m.add (k.toNat*32)) n)/\let o:=w.alloc (.cells zH 23);(n.size=32/\(∀p∈n.toList,p.oneCell'=true)/\ ∀q,q<32->Wr o ((⟨w.heap.size,0,none⟩:Addr).add q))/\let r:=setCells o (⟨w.heap.size,0,none⟩:Addr) n.toList 0;∃t:AV,(t.size=32/\Cells r (⟨w.heap.size,0,none⟩:Addr) t)/\ ∃u:AV,(Instr.lookup 129 (.map e) (.agg t) false).run prog r=.ok (.agg u) r/\ ∃v:Bool,u[0]? =some (.bool v)/\Split (!v) (let x:=r.drew;Is a fun y:Addr=> ∃z:Option Nat,x.cell? (y.add 4)=some (.map z)/\ ∃a1:AV,(a1.size=32/\Cells x (⟨w.heap.size,0,none⟩:Addr) a1)/\Is a fun b1:Addr=> ∃c1:Option Nat,x.cell? (b1.add 4)=some (.map c1)/\ ∃d1:AV,(d1.size=32/\Cells x (⟨w.heap.size,0,none⟩:Addr) d1)/\ ∃e1:OA,∃f1:Nat,∃g1:Nat,(Instr.lookup 107 (.map c1) (.agg d1) false).run prog x=.ok (.slice e1 f1 g1) x/\ ∃i1:AV,(i1.size=32/\Cells x b i1)/\(bk prog 81 #[.slice e1 f1 g1] x fun j1 k1=> ∃m1:OA,∃n1:Nat,∃o1:Nat,j1=.slice m1 n1 o1/\(∃cs:AV,(.agg i1:Value)=.agg cs/\cs.size=32/\Cells k1 b cs)/\(∃cs:AV,(.agg a1:Value)=.agg cs/\cs.size=32/\Cells k1 (⟨w.heap.size,0,none⟩:Addr) cs)/\k1.cell? (y.add 4)=some (.map z)/\i1.size=32/\let p1:=k1.alloc (.cells (i1.toList++ []).toArray 23);(∃cs:AV,(.agg a1:Value)=.agg cs/\cs.size=32/\Cells p1 (⟨w.heap.size,0,none⟩:Addr) cs)/\p1.cell? (y.add 4)=some (.map z)/\ ∃(q1:OA) (r1 t1:Nat) (u1:World),(Builtin.append_ #[35,35] 35 #[.slice m1 n1 o1,.slice (some (⟨k1.heap.size,0,none⟩:Addr)) 1 1]).run prog p1=.ok (.slice q1 r1 t1) u1/\(∃cs:AV,(.agg a1:Value)=.agg cs/\cs.size=32/\Cells u1 (⟨w.heap.size,0,none⟩:Addr) cs)/\u1.cell? (y.add 4)=some (.map z)/\ ∃v1:World,(Instr.mapUpdate 107 (.map z) (.agg a1) (.slice q1 r1 t1)).run prog u1=.ok () v1/\Q .normal [(0,.pointer a),(5,.pointer (some b)),(6,.pointer (some c)),(8,.int .i64 d),(10,.map e),(74,.slice f g i),(75,.int .i64 j),(76,.int .i64 (IntKind.i64.wrap (k+(1:Int))))] v1)/\(i1.size=32/\let x1:=x.alloc (.cells (i1.toList++ []).toArray 23);(Instr.lookup 107 (.map c1) (.agg d1) false).run prog x1=.ok (.slice e1 f1 g1) x1/\(∃cs:AV,(.agg d1:Value)=.agg cs/\cs.size=32/\Cells x1 (⟨w.heap.size,0,none⟩:Addr) cs)/\x1.cell? (b1.add 4)=some (.map c1)/\(∃cs:AV,(.agg a1:Value)=.agg cs/\cs.size=32/\Cells x1 (⟨w.heap.size,0,none⟩:Addr) cs)/\x1.cell? (y.add 4)=some (.map z)/\bk prog 81 #[.slice e1 f1 g1] x1 fun y1 z1=> ∃a2:OA,∃b2:Nat,∃c2:Nat,y1=.slice a2 b2 c2/\(∃cs:AV,(.agg a1:Value)=.agg cs/\cs.size=32/\Cells z1 (⟨w.heap.size,0,none⟩:Addr) cs)/\z1.cell? (y.add 4)=some (.map z)/\ ∃(d2:OA) (e2 f2:Nat) (g2:World),(Builtin.append_ #[35,35] 35 #[.slice a2 b2 c2,.slice (some (⟨x.heap.size,0,none⟩:Addr)) 1 1]).run prog z1=.ok (.slice d2 e2 f2) g2/\(∃cs:AV,(.agg a1:Value)=.agg cs/\cs.size=32/\Cells g2 (⟨w.heap.size,0,none⟩:Addr) cs)/\g2.cell? (y.add 4)=some (.map z)/\ ∃i2:World,(Instr.mapUpdate 107 (.map z) (.agg a1) (.slice d2 e2 f2)).run prog g2=.ok () i2/\Q .normal [(0,.pointer a),(5,.pointer (some b)),(6,.pointer (some c)),(8,.int .i64 d),(10,.map e),(74,.slice f g i),(75,.int .i64 j),(76,.int .i64 (IntKind.i64.wrap (k+(1:Int))))] i2)) (Q .normal [(0,.pointer a),(5,.pointer (some b)),(6,.pointer (some c)),(8,.int .i64 d),(10,.map e),(74,.slice f g i),(75,.int .i64 j),(76,.int .i64 (IntKind.i64.wrap (k+(1:Int))))] r)) (Q (.exit 3) [(0,.pointer a),(5,.pointer (some b)),(6,.pointer (some c)),(8,.int .i64 d),(10,.map e),(74,.slice f g i),(75,.int .i64 j),(76,.int .i64 k)] w)
theorem az.b2:(aW none [] prog 131 az.k (lB (bB (sR (sL (sR (sR (sR (sR (sR (sR (sR (body f43)))))))))))) az.u2 Q [(0,.pointer a),(5,.pointer (some b)),(6,.pointer (some c)),(8,.int .i64 d),(10,.map e),(74,.slice f g i),(75,.int .i64 j),(76,.int .i64 k)] w)=az.B2 a b c d e f g i j k Q w:=by kernel_rfl
variable{a b c d e f g i j}
theorem az.gI(I:Int->World->Prop)(μ:Int->World->Nat)(s:Int){Q:aN}{w:World}(h0:I s w)
 (round: ∀s w,I s w->az.B2 a b c d e f g i j s (bK (az.e2 a b c d e f g i j) I μ s w Q) w):Holds none [] prog 131 (.loop (lB (bB (sR (sL (sR (sR (sR (sR (sR (sR (sR (body f43))))))))))))) Q (az.e2 a b c d e f g i j s) w:=
 bf ng mix (az.e2 a b c d e f g i j) I μ az.k az.u2 s (fun s Q w=>az.B2 a b c d e f g i j s Q w) (fun s Q w=>az.b2 a b c d e f g i j s Q w) h0 round
end
section
def az.OH(a:OA)(b:Addr)(c:Addr)(d:Int)(e:Option Nat)(f:OA)(g:Nat)(i:Nat)(j:Int)(k:Int)(K:KT)(w:World):Prop:=
 let m:=w.drew;Is a fun n:Addr=> ∃o:OA,m.cell? (n.add 1)=some (.pointer o)/\Is a fun p:Addr=> ∃q:Option Nat,m.cell? (p.add 2)=some (.map q)/\ ∃r:AV,(r.size=32/\Cells m c r)/\ ∃t:Int,(Instr.lookup 89 (.map q) (.agg r) false).run prog m=.ok (.int .i64 t) m/\bk prog 82 #[.pointer o,.int .i64 t] m fun u v=> ∃x:Int,∃y:Int,u=.tuple #[.int .i64 x,.int .i64 y]/\let z:=v.drew;Is a fun a1:Addr=> ∃b1:Option Nat,z.cell? (a1.add 2)=some (.map b1)/\ ∃c1:AV,(c1.size=32/\Cells z b c1)/\ ∃d1:World,(Instr.mapUpdate 89 (.map b1) (.agg c1) (.int .i64 x)).run prog z=.ok () d1/\let e1:=d1.drew;Is a fun f1:Addr=> ∃g1:OA,∃i1:Nat,∃j1:Nat,e1.cell? (f1.add 3)=some (.slice g1 i1 j1)/\ ∃k1:AV,(k1.size=32/\Cells e1 b k1)/\k1.size=32/\let m1:=e1.alloc (.cells (k1.toList++ []).toArray 23);m1.cell? (f1.add 3)=some (.slice g1 i1 j1)/\ ∃(n1:OA) (o1 p1:Nat) (q1:World),(Builtin.append_ #[35,35] 35 #[.slice g1 i1 j1,.slice (some (⟨e1.heap.size,0,none⟩:Addr)) 1 1]).run prog m1=.ok (.slice n1 o1 p1) q1/\Is a fun r1:Addr=>Wr q1 (r1.add 3)/\let t1:=q1.setCell (r1.add 3) (.slice n1 o1 p1);K (.int .i64 0) t1
variable(a:OA)(b:Addr)(c:Addr)(d:Int)(e:Option Nat)(f:OA)(g:Nat)(i:Nat)(j:Int)(k:Int)(K:KT)(w:World)
theorem az.Wa:(az.q2 K (.exit 3) [(0,.pointer a),(5,.pointer (some b)),(6,.pointer (some c)),(8,.int .i64 d),(10,.map e),(74,.slice f g i),(75,.int .i64 j),(76,.int .i64 k)] w)=az.OH a b c d e f g i j k K w:=by kernel_rfl
end
def fk.k:List Nat:= []
section
variable(a:OA)(b:AV)(K:KT)(w:World)
def fk.W:Prop:=
 let d:=w.alloc (.cells (#[.pointer a]:AV) 73);let e:=d.alloc (.cells b 23);K (.func (.func 89) #[] #[.pointer (some (⟨w.heap.size,0,none⟩:Addr)),.pointer (some (⟨d.heap.size,0,none⟩:Addr))]) e
variable{a b K w}
theorem fk.of(h:fk.W a b K w):bk prog 53 #[.pointer a,.agg b] w K:=
 aK (C:=fk.k) (c:=body f53) ng mix func53 (by kernel_rfl) (by kernel_rfl) (by kernel_rfl) h
end
def cr.k:List Nat:= []
section
variable(a:OA)(b:Nat)(d:Nat)(e:AV)(K:KT)(w:World)
def cr.W:Prop:=
 let f:=w.alloc (.cells e 23);∃g:AV,(g.size=32/\Cells f (⟨w.heap.size,0,none⟩:Addr) g)/\bk prog 91 #[.slice a b d,.agg g] f fun i j=> ∃k:Int,i=.int .i64 k/\K (.bool (decide (k>=(0:Int)))) j
variable{a b d e K w}
theorem cr.of(h:cr.W a b d e K w):bk prog 54 #[.slice a b d,.agg e] w K:=
 aK (C:=cr.k) (c:=body f54) ng mix func54 (by kernel_rfl) (by kernel_rfl) (by kernel_rfl) h
end
def eR.k:List Nat:= []
section
variable(a:OA)(b:OA)(d:Nat)(e:Nat)(K:KT)(w:World)
def eR.W:Prop:=
 let f:=w.alloc (.cells (#[.pointer a]:AV) 73);∃g:OA,f.cell? (⟨w.heap.size,0,none⟩:Addr)=some (.pointer g)/\bk prog 78 #[.pointer g] f fun i j=> ∃k:Bool,i=.bool k/\Split k (bk prog 85 #[.slice b d e,.func (.func 92) #[] #[.pointer (some (⟨w.heap.size,0,none⟩:Addr))]] j fun m n=> ∃o:Bool,m=.bool o/\K (.bool (!o)) n) (K (.bool false) j)
variable{a b d e K w}
theorem eR.of(h:eR.W a b d e K w):bk prog 55 #[.pointer a,.slice b d e] w K:=
 aK (C:=eR.k) (c:=body f55) ng mix func55 (by kernel_rfl) (by kernel_rfl) (by kernel_rfl) h
end
section
variable(a:OA)(K:KT)(w:World)
variable{a K w}
end
section
variable(a:OA)(b:Addr)(c:OA)(Q:aN)(w:World)
variable{a b c}
end
section
variable(a:OA)(b:Addr)(c:OA)(K:KT)(w:World)
end
def dD.k:List Nat:= []
section
variable(a:OA)(b:AV)(d:AV)(K:KT)(w:World)
def dD.W:Prop:=
 let e:=w.alloc (.cells (#[.pointer a]:AV) 73);let f:=e.alloc (.cells b 23);let g:=f.alloc (.cells d 23);∃i:OA,g.cell? (⟨w.heap.size,0,none⟩:Addr)=some (.pointer i)/\ ∃j:AV,(j.size=32/\Cells g (⟨e.heap.size,0,none⟩:Addr) j)/\ ∃k:AV,(k.size=32/\Cells g (⟨f.heap.size,0,none⟩:Addr) k)/\j.size=32/\k.size=32/\let m:=g.alloc (.cells (j.toList++(k.toList++([]))).toArray 23);bk prog 55 #[.pointer i,.slice (some (⟨g.heap.size,0,none⟩:Addr)) 2 2] m fun n o=> ∃p:Bool,n=.bool p/\Split (!p) (K (.bool false) o) (∃q:AV,(q.size=32/\Cells o (⟨e.heap.size,0,none⟩:Addr) q)/\ ∃r:AV,(r.size=32/\Cells o (⟨f.heap.size,0,none⟩:Addr) r)/\(cX .u8 32 q/\cX .u8 32 r)/\Split (dA q r) (K (.bool false) o) (let t:=o.drew;∃u:OA,t.cell? (⟨w.heap.size,0,none⟩:Addr)=some (.pointer u)/\ ∃v:AV,(v.size=32/\Cells t (⟨e.heap.size,0,none⟩:Addr) v)/\ ∃x:AV,(x.size=32/\Cells t (⟨f.heap.size,0,none⟩:Addr) x)/\bk prog 32 #[.pointer u,.agg v,.agg x] t fun y z=> ∃a1:Bool,y=.bool a1/\Split a1 (K (.bool true) z) (∃b1:OA,z.cell? (⟨w.heap.size,0,none⟩:Addr)=some (.pointer b1)/\Is b1 fun c1:Addr=> ∃d1:Option Nat,z.cell? (c1.add 4)=some (.map d1)/\ ∃e1:AV,(e1.size=32/\Cells z (⟨e.heap.size,0,none⟩:Addr) e1)/\ ∃f1:OA,∃g1:Nat,∃i1:Nat,(Instr.lookup 107 (.map d1) (.agg e1) false).run prog z=.ok (.slice f1 g1 i1) z/\bk prog 85 #[.slice f1 g1 i1,.func (.func 104) #[] #[.pointer (some (⟨w.heap.size,0,none⟩:Addr)),.pointer (some (⟨f.heap.size,0,none⟩:Addr))]] z fun j1 k1=> ∃m1:Bool,j1=.bool m1/\K (.bool m1) k1)))
variable{a b d K w}
theorem dD.of(h:dD.W a b d K w):bk prog 71 #[.pointer a,.agg b,.agg d] w K:=
 aK (C:=dD.k) (c:=body f71) ng mix func71 (by kernel_rfl) (by kernel_rfl) (by kernel_rfl) h
end
def eB.k:List Nat:= []
section
variable(a:OA)(K:KT)(w:World)
def eB.W:Prop:=
 Split (!(a).isNone) (Is a fun b:Addr=> ∃d:OA,w.cell? (b.add 0)=some (.pointer d)/\K (.bool (!(d).isNone)) w) (K (.bool false) w)
variable{a K w}
theorem eB.of(h:eB.W a K w):bk prog 78 #[.pointer a] w K:=
 aK (C:=eB.k) (c:=body f78) ng mix func78 (by kernel_rfl) (by kernel_rfl) (by kernel_rfl) h
end
def cU.k:List Nat:= []
section
variable(a:OA)(b:Nat)(d:Nat)(K:KT)(w:World)
def cU.W:Prop:=
 (0<=(b:Int)/\(b:Int)<=(d:Int))/\(0<=(b:Int)/\(b:Int)<=((b:Int).toNat:Int))/\K (.slice (if(b:Int).toNat=0 then a else a.map (·.add (0*32))) ((b:Int).toNat -0) ((b:Int).toNat -0)) w
variable{a b d K w}
theorem cU.of(h:cU.W a b d K w):bk prog 81 #[.slice a b d] w K:=
 aK (C:=cU.k) (c:=body f81) ng mix func81 (by kernel_rfl) (by kernel_rfl) (by kernel_rfl) h
end
def aM.k:List Nat:= []
def aM.q1(K:KT):aN:=(aL 0 (b7 (sR (sR (body f91)))++(aR f91)) (bT (fun bW w_=>match cutAt aM.k (sR (sR (body f91)))with|true=>Holds none [] prog 19 (sR (sR (body f91))) (bH prog f91 K) bW w_|false=>aW none [] prog 19 aM.k (sR (sR (body f91))) (aR f91) (bH prog f91 K) bW w_) (bH prog f91 K)))
def aM.e1(a:OA)(b:Nat)(c:Nat)(d:Addr)(e:Int)(s:Int×Int):Env:= [(0,.slice a b c),(3,.pointer (some d)),(4,.int .i64 s.1),(7,.int .i64 e),(8,.int .i64 s.2)]
def aM.u1:List Nat:= [0,3,4,7,8]
section
variable(a:OA)(b:Nat)(d:Nat)(e:AV)(K:KT)(w:World)
def aM.W:Prop:=
 let f:=w.alloc (.cells e 23);Holds none [] prog 19 (.loop (lB (bB (sR (sL (sR (body f91))))))) (aM.q1 K) [(0,.slice a b d),(3,.pointer (some (⟨w.heap.size,0,none⟩:Addr))),(4,.int .i64 0),(7,.int .i64 (b:Int)),(8,.int .i64 0)] f
variable{a b d e K w}
theorem aM.of(h:aM.W a b d e K w):bk prog 91 #[.slice a b d,.agg e] w K:=
 aK (C:=aM.k) (c:=body f91) ng mix func91 (by kernel_rfl) (by kernel_rfl) (by kernel_rfl) h
end
section
variable(a:OA)(b:Nat)(c:Nat)(d:Addr)(e:Int)(f:Int)(g:Int)(Q:aN)(w:World)
def aM.B1:Prop:=
 Split (decide (g<f)) (let i:=w.drew;∃j:AV,(j.size=32/\Cells i d j)/\(0<=g/\g<(b:Int))/\Is a fun k:Addr=> ∃m:AV,(m.size=32/\Cells i (k.add (g.toNat*32)) m)/\(cX .u8 32 j/\cX .u8 32 m)/\Split (dA j m) (Q .ret [(0,.slice a b c),(3,.pointer (some d)),(4,.int .i64 g),(7,.int .i64 f),(8,.int .i64 g)] i) (Q .normal [(0,.slice a b c),(3,.pointer (some d)),(4,.int .i64 e),(7,.int .i64 f),(8,.int .i64 (IntKind.i64.wrap (g+(1:Int))))] i)) (Q (.exit 0) [(0,.slice a b c),(3,.pointer (some d)),(4,.int .i64 e),(7,.int .i64 f),(8,.int .i64 g)] w)
theorem aM.b1:(aW none [] prog 19 aM.k (lB (bB (sR (sL (sR (body f91)))))) aM.u1 Q [(0,.slice a b c),(3,.pointer (some d)),(4,.int .i64 e),(7,.int .i64 f),(8,.int .i64 g)] w)=aM.B1 a b c d e f g Q w:=by kernel_rfl
variable{a b c d f}
theorem aM.b9(I:Int×Int->World->Prop)(μ:Int×Int->World->Nat)(s:Int×Int){Q:aN}{w:World}(h0:I s w)
 (round: ∀s w,I s w->aM.B1 a b c d (s.1) f (s.2) (bK (aM.e1 a b c d f) I μ s w Q) w):Holds none [] prog 19 (.loop (lB (bB (sR (sL (sR (body f91))))))) Q (aM.e1 a b c d f s) w:=
 bf ng mix (aM.e1 a b c d f) I μ aM.k aM.u1 s (fun s Q w=>aM.B1 a b c d (s.1) f (s.2) Q w) (fun s Q w=>aM.b1 a b c d (s.1) f (s.2) Q w) h0 round
end
section
def aM.cK(a:OA)(b:Nat)(c:Nat)(d:Addr)(e:Int)(f:Int)(g:Int)(K:KT)(w:World):Prop:=
 K (.int .i64 (-1)) w
variable(a:OA)(b:Nat)(c:Nat)(d:Addr)(e:Int)(f:Int)(g:Int)(K:KT)(w:World)
theorem aM.cZ:(aM.q1 K (.exit 0) [(0,.slice a b c),(3,.pointer (some d)),(4,.int .i64 e),(7,.int .i64 f),(8,.int .i64 g)] w)=aM.cK a b c d e f g K w:=by kernel_rfl
end
def di.k:List Nat:= []
section
variable(a:AV)(b:Addr)(K:KT)(w:World)
def di.W:Prop:=
 let d:=w.alloc (.cells a 23);let e:=d.drew;∃f:OA,e.cell? b=some (.pointer f)/\Is f fun g:Addr=> ∃i:OA,e.cell? (g.add 0)=some (.pointer i)/\ ∃j:AV,(j.size=32/\Cells e (⟨w.heap.size,0,none⟩:Addr) j)/\bk prog 79 #[.pointer i,.agg j] e fun k m=> ∃n:Bool,k=.bool n/\K (.bool (!n)) m
variable{a b K w}
theorem di.of(h:di.W a b K w):bk prog 92 #[.agg a,.pointer (some b)] w K:=
 aK (C:=di.k) (c:=body f92) ng mix func92 (by kernel_rfl) (by kernel_rfl) (by kernel_rfl) h
end
def cG.k:List Nat:= []
section
variable(a:AV)(b:Addr)(d:Addr)(K:KT)(w:World)
def cG.W:Prop:=
 let e:=w.alloc (.cells a 23);∃f:OA,e.cell? b=some (.pointer f)/\ ∃g:AV,(g.size=32/\Cells e (⟨w.heap.size,0,none⟩:Addr) g)/\ ∃i:AV,(i.size=32/\Cells e d i)/\bk prog 32 #[.pointer f,.agg g,.agg i] e fun j k=> ∃m:Bool,j=.bool m/\K (.bool m) k
variable{a b d K w}
theorem cG.of(h:cG.W a b d K w):bk prog 104 #[.agg a,.pointer (some b),.pointer (some d)] w K:=
 aK (C:=cG.k) (c:=body f104) ng mix func104 (by kernel_rfl) (by kernel_rfl) (by kernel_rfl) h
end
def bV.k:List Nat:= []
section
variable(a:OA)(b:Nat)(d:Nat)(e:Addr)(K:KT)(w:World)
def bV.W:Prop:=
 bk prog 113 #[.slice a b d,.func (.func 92) #[] #[.pointer (some e)]] w fun f g=> ∃i:Int,f=.int .i64 i/\K (.bool (decide (i>=(0:Int)))) g
variable{a b d e K w}
theorem bV.of(h:bV.W a b d e K w):bk prog 85 #[.slice a b d,.func (.func 92) #[] #[.pointer (some e)]] w K:=
 aK (C:=bV.k) (c:=body f85) ng mix func85 (by kernel_rfl) (by kernel_rfl) (by kernel_rfl) h
end
def bO.k:List Nat:= []
section
variable(a:OA)(b:Nat)(d:Nat)(e:Addr)(f:Addr)(K:KT)(w:World)
def bO.W:Prop:=
 bk prog 113 #[.slice a b d,.func (.func 104) #[] #[.pointer (some e),.pointer (some f)]] w fun g i=> ∃j:Int,g=.int .i64 j/\K (.bool (decide (j>=(0:Int)))) i
variable{a b d e f K w}
theorem bO.of(h:bO.W a b d e f K w):bk prog 85 #[.slice a b d,.func (.func 104) #[] #[.pointer (some e),.pointer (some f)]] w K:=
 aK (C:=bO.k) (c:=body f85) ng mix func85 (by kernel_rfl) (by kernel_rfl) (by kernel_rfl) h
end
def an.k:List Nat:= []
def an.q1(K:KT):aN:=(aL 0 (b7 (sR (sR (body f113)))++(aR f113)) (bT (fun bW w_=>match cutAt an.k (sR (sR (body f113)))with|true=>Holds none [] prog 19 (sR (sR (body f113))) (bH prog f113 K) bW w_|false=>aW none [] prog 19 an.k (sR (sR (body f113))) (aR f113) (bH prog f113 K) bW w_) (bH prog f113 K)))
def an.e1(a:OA)(b:Nat)(c:Nat)(d:Addr)(e:Int)(s:Int×Int):Env:= [(0,.slice a b c),(1,.func (.func 92) #[] #[.pointer (some d)]),(4,.int .i64 s.1),(7,.int .i64 e),(8,.int .i64 s.2)]
def an.u1:List Nat:= [0,1,4,7,8]
section
variable(a:OA)(b:Nat)(d:Nat)(e:Addr)(K:KT)(w:World)
def an.W:Prop:=
 Holds none [] prog 19 (.loop (lB (bB (sR (sL (sR (body f113))))))) (an.q1 K) [(0,.slice a b d),(1,.func (.func 92) #[] #[.pointer (some e)]),(4,.int .i64 0),(7,.int .i64 (b:Int)),(8,.int .i64 0)] w
variable{a b d e K w}
theorem an.of(h:an.W a b d e K w):bk prog 113 #[.slice a b d,.func (.func 92) #[] #[.pointer (some e)]] w K:=
 aK (C:=an.k) (c:=body f113) ng mix func113 (by kernel_rfl) (by kernel_rfl) (by kernel_rfl) h
end
section
variable(a:OA)(b:Nat)(c:Nat)(d:Addr)(e:Int)(f:Int)(g:Int)(Q:aN)(w:World)
def an.B1:Prop:=
 Split (decide (g<f)) ((0<=g/\g<(b:Int))/\Is a fun i:Addr=> ∃j:AV,(j.size=32/\Cells w (i.add (g.toNat*32)) j)/\bk prog 92 #[.agg j,.pointer (some d)] w fun k m=> ∃n:Bool,k=.bool n/\Split n (Q .ret [(0,.slice a b c),(1,.func (.func 92) #[] #[.pointer (some d)]),(4,.int .i64 g),(7,.int .i64 f),(8,.int .i64 g)] m) (Q .normal [(0,.slice a b c),(1,.func (.func 92) #[] #[.pointer (some d)]),(4,.int .i64 e),(7,.int .i64 f),(8,.int .i64 (IntKind.i64.wrap (g+(1:Int))))] m)) (Q (.exit 0) [(0,.slice a b c),(1,.func (.func 92) #[] #[.pointer (some d)]),(4,.int .i64 e),(7,.int .i64 f),(8,.int .i64 g)] w)
theorem an.b1:(aW none [] prog 19 an.k (lB (bB (sR (sL (sR (body f113)))))) an.u1 Q [(0,.slice a b c),(1,.func (.func 92) #[] #[.pointer (some d)]),(4,.int .i64 e),(7,.int .i64 f),(8,.int .i64 g)] w)=an.B1 a b c d e f g Q w:=by kernel_rfl
variable{a b c d f}
theorem an.b9(I:Int×Int->World->Prop)(μ:Int×Int->World->Nat)(s:Int×Int){Q:aN}{w:World}(h0:I s w)
 (round: ∀s w,I s w->an.B1 a b c d (s.1) f (s.2) (bK (an.e1 a b c d f) I μ s w Q) w):Holds none [] prog 19 (.loop (lB (bB (sR (sL (sR (body f113))))))) Q (an.e1 a b c d f s) w:=
 bf ng mix (an.e1 a b c d f) I μ an.k an.u1 s (fun s Q w=>an.B1 a b c d (s.1) f (s.2) Q w) (fun s Q w=>an.b1 a b c d (s.1) f (s.2) Q w) h0 round
end
section
def an.cK(a:OA)(b:Nat)(c:Nat)(d:Addr)(e:Int)(f:Int)(g:Int)(K:KT)(w:World):Prop:=
 K (.int .i64 (-1)) w
variable(a:OA)(b:Nat)(c:Nat)(d:Addr)(e:Int)(f:Int)(g:Int)(K:KT)(w:World)
theorem an.cZ:(an.q1 K (.exit 0) [(0,.slice a b c),(1,.func (.func 92) #[] #[.pointer (some d)]),(4,.int .i64 e),(7,.int .i64 f),(8,.int .i64 g)] w)=an.cK a b c d e f g K w:=by kernel_rfl
end
def aj.k:List Nat:= []
def aj.q1(K:KT):aN:=(aL 0 (b7 (sR (sR (body f113)))++(aR f113)) (bT (fun bW w_=>match cutAt aj.k (sR (sR (body f113)))with|true=>Holds none [] prog 19 (sR (sR (body f113))) (bH prog f113 K) bW w_|false=>aW none [] prog 19 aj.k (sR (sR (body f113))) (aR f113) (bH prog f113 K) bW w_) (bH prog f113 K)))
def aj.e1(a:OA)(b:Nat)(c:Nat)(d:Addr)(e:Addr)(f:Int)(s:Int×Int):Env:= [(0,.slice a b c),(1,.func (.func 104) #[] #[.pointer (some d),.pointer (some e)]),(4,.int .i64 s.1),(7,.int .i64 f),(8,.int .i64 s.2)]
def aj.u1:List Nat:= [0,1,4,7,8]
section
variable(a:OA)(b:Nat)(d:Nat)(e:Addr)(f:Addr)(K:KT)(w:World)
def aj.W:Prop:=
 Holds none [] prog 19 (.loop (lB (bB (sR (sL (sR (body f113))))))) (aj.q1 K) [(0,.slice a b d),(1,.func (.func 104) #[] #[.pointer (some e),.pointer (some f)]),(4,.int .i64 0),(7,.int .i64 (b:Int)),(8,.int .i64 0)] w
variable{a b d e f K w}
theorem aj.of(h:aj.W a b d e f K w):bk prog 113 #[.slice a b d,.func (.func 104) #[] #[.pointer (some e),.pointer (some f)]] w K:=
 aK (C:=aj.k) (c:=body f113) ng mix func113 (by kernel_rfl) (by kernel_rfl) (by kernel_rfl) h
end
section
variable(a:OA)(b:Nat)(c:Nat)(d:Addr)(e:Addr)(f:Int)(g:Int)(i:Int)(Q:aN)(w:World)
def aj.B1:Prop:=
 Split (decide (i<g)) ((0<=i/\i<(b:Int))/\Is a fun j:Addr=> ∃k:AV,(k.size=32/\Cells w (j.add (i.toNat*32)) k)/\bk prog 104 #[.agg k,.pointer (some d),.pointer (some e)] w fun m n=> ∃o:Bool,m=.bool o/\Split o (Q .ret [(0,.slice a b c),(1,.func (.func 104) #[] #[.pointer (some d),.pointer (some e)]),(4,.int .i64 i),(7,.int .i64 g),(8,.int .i64 i)] n) (Q .normal [(0,.slice a b c),(1,.func (.func 104) #[] #[.pointer (some d),.pointer (some e)]),(4,.int .i64 f),(7,.int .i64 g),(8,.int .i64 (IntKind.i64.wrap (i+(1:Int))))] n)) (Q (.exit 0) [(0,.slice a b c),(1,.func (.func 104) #[] #[.pointer (some d),.pointer (some e)]),(4,.int .i64 f),(7,.int .i64 g),(8,.int .i64 i)] w)
theorem aj.b1:(aW none [] prog 19 aj.k (lB (bB (sR (sL (sR (body f113)))))) aj.u1 Q [(0,.slice a b c),(1,.func (.func 104) #[] #[.pointer (some d),.pointer (some e)]),(4,.int .i64 f),(7,.int .i64 g),(8,.int .i64 i)] w)=aj.B1 a b c d e f g i Q w:=by kernel_rfl
variable{a b c d e g}
theorem aj.b9(I:Int×Int->World->Prop)(μ:Int×Int->World->Nat)(s:Int×Int){Q:aN}{w:World}(h0:I s w)
 (round: ∀s w,I s w->aj.B1 a b c d e (s.1) g (s.2) (bK (aj.e1 a b c d e g) I μ s w Q) w):Holds none [] prog 19 (.loop (lB (bB (sR (sL (sR (body f113))))))) Q (aj.e1 a b c d e g s) w:=
 bf ng mix (aj.e1 a b c d e g) I μ aj.k aj.u1 s (fun s Q w=>aj.B1 a b c d e (s.1) g (s.2) Q w) (fun s Q w=>aj.b1 a b c d e (s.1) g (s.2) Q w) h0 round
end
section
def aj.cK(a:OA)(b:Nat)(c:Nat)(d:Addr)(e:Addr)(f:Int)(g:Int)(i:Int)(K:KT)(w:World):Prop:=
 K (.int .i64 (-1)) w
variable(a:OA)(b:Nat)(c:Nat)(d:Addr)(e:Addr)(f:Int)(g:Int)(i:Int)(K:KT)(w:World)
theorem aj.cZ:(aj.q1 K (.exit 0) [(0,.slice a b c),(1,.func (.func 104) #[] #[.pointer (some d),.pointer (some e)]),(4,.int .i64 f),(7,.int .i64 g),(8,.int .i64 i)] w)=aj.cK a b c d e f g i K w:=by kernel_rfl
end
def aV.k:List Nat:= []
def aV.q1(K:KT):aN:=(aL 0 (aR f89) (bH prog f89 K))
def aV.e1(a:Nat)(b:Addr)(s:Int):Env:= [(0,.func (.yield a) #[] #[]),(1,.pointer (some b)),(4,.int .i64 s)]
def aV.u1:List Nat:= [0,1,4]
section
variable(a:Nat)(b:Addr)(d:Addr)(K:KT)(w:World)
def aV.W:Prop:=
 ∃e:OA,w.cell? b=some (.pointer e)/\ ∃f:AV,(f.size=32/\Cells w d f)/\f.size=32/\let g:=w.alloc (.cells (f.toList++ []).toArray 23);bk prog 55 #[.pointer e,.slice (some (⟨w.heap.size,0,none⟩:Addr)) 1 1] g fun i j=> ∃k:Bool,i=.bool k/\Split (!k) (K (.tuple #[]) j) (let m:=j.drew;∃n:OA,m.cell? b=some (.pointer n)/\Is n fun o:Addr=> ∃p:Option Nat,m.cell? (o.add 2)=some (.map p)/\ ∃q:AV,(q.size=32/\Cells m d q)/\ ∃r:Int,(Instr.lookup 89 (.map p) (.agg q) false).run prog m=.ok (.int .i64 r) m/\Holds none [] prog 38 (.loop (lB (bB (sR (sR (body f89)))))) (aV.q1 K) [(0,.func (.yield a) #[] #[]),(1,.pointer (some b)),(4,.int .i64 r)] m)
variable{a b d K w}
theorem aV.of(h:aV.W a b d K w):bk prog 89 #[.func (.yield a) #[] #[],.pointer (some b),.pointer (some d)] w K:=
 aK (C:=aV.k) (c:=body f89) ng mix func89 (by kernel_rfl) (by kernel_rfl) (by kernel_rfl) h
end
section
variable(a:Nat)(b:Addr)(c:Int)(Q:aN)(w:World)
def aV.B1:Prop:=
 ∃d:OA,w.cell? b=some (.pointer d)/\Is d fun e:Addr=> ∃f:OA,∃g:Nat,∃i:Nat,w.cell? (e.add 3)=some (.slice f g i)/\(0<=c/\c<(g:Int))/\Is f fun j:Addr=> ∃k:AV,(k.size=32/\Cells w (j.add (c.toNat*32)) k)/\jD prog a #[.agg k] w fun m n=>Split m (Split (decide (c>(0:Int))) (∃o:OA,n.cell? b=some (.pointer o)/\Is o fun p:Addr=> ∃q:OA,n.cell? (p.add 1)=some (.pointer q)/\bk prog 90 #[.pointer q,.int .i64 c] n fun r t=> ∃u:Int,∃v:Int,r=.tuple #[.int .i64 u,.int .i64 v]/\Q .normal [(0,.func (.yield a) #[] #[]),(1,.pointer (some b)),(4,.int .i64 u)] t) (Q (.exit 0) [(0,.func (.yield a) #[] #[]),(1,.pointer (some b)),(4,.int .i64 c)] n)) (Q (.exit 0) [(0,.func (.yield a) #[] #[]),(1,.pointer (some b)),(4,.int .i64 c)] n)
theorem aV.b1:(aW none [] prog 38 aV.k (lB (bB (sR (sR (body f89))))) aV.u1 Q [(0,.func (.yield a) #[] #[]),(1,.pointer (some b)),(4,.int .i64 c)] w)=aV.B1 a b c Q w:=by kernel_rfl
variable{a b}
theorem aV.b9(I:Int->World->Prop)(μ:Int->World->Nat)(s:Int){Q:aN}{w:World}(h0:I s w)
 (round: ∀s w,I s w->aV.B1 a b s (bK (aV.e1 a b) I μ s w Q) w):Holds none [] prog 38 (.loop (lB (bB (sR (sR (body f89)))))) Q (aV.e1 a b s) w:=
 bf ng mix (aV.e1 a b) I μ aV.k aV.u1 s (fun s Q w=>aV.B1 a b s Q w) (fun s Q w=>aV.b1 a b s Q w) h0 round
end
section
def aV.cK(a:Nat)(b:Addr)(c:Int)(K:KT)(w:World):Prop:=
 K (.tuple #[]) w
variable(a:Nat)(b:Addr)(c:Int)(K:KT)(w:World)
theorem aV.cZ:(aV.q1 K (.exit 0) [(0,.func (.yield a) #[] #[]),(1,.pointer (some b)),(4,.int .i64 c)] w)=aV.cK a b c K w:=by kernel_rfl
end
end Go.Proofs.YtnboahlopghcjaaGreatDoor
