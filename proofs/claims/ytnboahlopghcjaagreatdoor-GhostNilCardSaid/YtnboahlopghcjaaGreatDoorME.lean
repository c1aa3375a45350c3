import Derived.Test.YtnboahlopghcjaaGreatDoorProg
import Derived.Test.YtnboahlopghcjaaGreatDoorMA
import Derived.Test.YtnboahlopghcjaaGreatDoorMB
set_option linter.unusedVariables false
namespace Go.Proofs.YtnboahlopghcjaaGreatDoor
open Go.Proofs.Tryz
open Go Go.bp
def cJ.k:List Nat:= []
section
variable(a:OA)(b:AV)(d:AV)(K:KT)(w:World)
def cJ.W:Prop:=
 let e:=w.alloc (.cells b 23);let f:=e.alloc (.cells d 23);let g:=f.drew;∃i:AV,(i.size=32/\Cells g (⟨w.heap.size,0,none⟩:Addr) i)/\ ∃j:AV,(j.size=32/\Cells g (⟨e.heap.size,0,none⟩:Addr) j)/\i.size=32/\j.size=32/\let k:=g.alloc (.cells (i.toList++(j.toList++([]))).toArray 23);aY prog 55 #[.pointer a,.slice (some (⟨g.heap.size,0,none⟩:Addr)) 2 2] k fun m n=> ∃o:Bool,m=.bool o/\Split o (Is a fun p:Addr=> ∃q:OA,n.cell? (p.add 1)=some (.pointer q)/\Is a fun r:Addr=> ∃t:Option Nat,n.cell? (r.add 2)=some (.map t)/\ ∃u:AV,(u.size=32/\Cells n (⟨e.heap.size,0,none⟩:Addr) u)/\ ∃v:Int,(Instr.lookup 89 (.map t) (.agg u) false).run prog n=.ok (.int .i64 v) n/\Is a fun x:Addr=> ∃y:Option Nat,n.cell? (x.add 2)=some (.map y)/\ ∃z:AV,(z.size=32/\Cells n (⟨w.heap.size,0,none⟩:Addr) z)/\ ∃a1:Int,(Instr.lookup 89 (.map y) (.agg z) false).run prog n=.ok (.int .i64 a1) n/\aY prog 56 #[.pointer q,.int .i64 v,.int .i64 a1] n fun b1 c1=> ∃d1:Bool,b1=.bool d1/\K (.bool d1) c1) (K (.bool false) n)
variable{a b d K w}
theorem cJ.of(h:cJ.W a b d K w):aY prog 32 #[.pointer a,.agg b,.agg d] w K:=
 aH (C:=cJ.k) (c:=body f32) ng mix func32 (by kernel_rfl) (by kernel_rfl) (by kernel_rfl) h
end
def eM.k:List Nat:= []
section
variable(a:OA)(K:KT)(w:World)
def eM.W:Prop:=
 Split ((a).isNone) (K (.pointer none) w) (Is a fun b:Addr=> ∃d:OA,w.cell? (b.add 0)=some (.pointer d)/\K (.pointer d) w)
variable{a K w}
theorem eM.of(h:eM.W a K w):aY prog 35 #[.pointer a] w K:=
 aH (C:=eM.k) (c:=body f35) ng mix func35 (by kernel_rfl) (by kernel_rfl) (by kernel_rfl) h
end
def an.k:List Nat:= []
def an.N1(a:OA)(b:OA)(c:World)(d:World)(e:World)(K:KT)(f:World):Prop:=
 let g:=f.alloc (.cells (#[.pointer a,.pointer b,.map (some c.heap.size),.slice (some (⟨d.heap.size,0,none⟩:Addr)) 1 1,.map (some e.heap.size)]:AV) 109);K (.pointer (some (⟨f.heap.size,0,none⟩:Addr))) g
def an.N2(a:OA)(b:OA)(c:World)(d:World)(K:KT)(e:World):Prop:=
 let f:=e.alloc (.map #[] 0);an.N1 a b c d e K f
def an.N3(a:AV)(b:OA)(c:OA)(d:World)(e:World)(K:KT)(f:World):Prop:=
 a.size=32/\let g:=f.alloc (.cells (a.toList++ []).toArray 23);an.N1 b c d f e K g
def an.N4(a:AV)(b:OA)(c:OA)(d:World)(w:World)(K:KT)(e:World):Prop:=
 (a.size=32/\let f:=e.alloc (.cells (a.toList++ []).toArray 23);an.N2 b c d e K f)/\(let g:=e.alloc (.map #[] 0);(∃cs:AV,(.agg a:Value)=.agg cs/\cs.size=32/\Cells g (⟨w.heap.size,0,none⟩:Addr) cs)/\an.N3 a b c d e K g)
def an.N5(a:World)(b:AV)(c:OA)(d:OA)(e:World)(f:World)(K:KT)(g:World):Prop:=
 ∃i:World,(Instr.mapUpdate 89 (.map (some a.heap.size)) (.agg b) (.int .i64 0)).run prog g=.ok () i/\an.N1 c d a e f K i
def an.N6(a:World)(b:AV)(c:OA)(d:OA)(e:World)(w:World)(K:KT)(f:World):Prop:=
 (∃g:World,(Instr.mapUpdate 89 (.map (some a.heap.size)) (.agg b) (.int .i64 0)).run prog f=.ok () g/\an.N2 c d a e K g)/\(let i:=f.alloc (.map #[] 0);(∃cs:AV,(.agg b:Value)=.agg cs/\cs.size=32/\Cells i (⟨w.heap.size,0,none⟩:Addr) cs)/\an.N5 a b c d e f K i)
def an.N7(a:World)(b:AV)(c:AV)(w:World)(d:OA)(e:OA)(f:World)(K:KT)(g:World):Prop:=
 (∃i:World,(Instr.mapUpdate 89 (.map (some a.heap.size)) (.agg b) (.int .i64 0)).run prog g=.ok () i/\(∃cs:AV,(.agg c:Value)=.agg cs/\cs.size=32/\Cells i (⟨w.heap.size,0,none⟩:Addr) cs)/\an.N3 c d e a f K i)/\(c.size=32/\let j:=g.alloc (.cells (c.toList++ []).toArray 23);(∃cs:AV,(.agg b:Value)=.agg cs/\cs.size=32/\Cells j (⟨w.heap.size,0,none⟩:Addr) cs)/\an.N5 a b d e g f K j)
def an.N8(a:World)(b:AV)(c:AV)(w:World)(d:OA)(e:OA)(K:KT)(f:World):Prop:=
 (∃g:World,(Instr.mapUpdate 89 (.map (some a.heap.size)) (.agg b) (.int .i64 0)).run prog f=.ok () g/\(∃cs:AV,(.agg c:Value)=.agg cs/\cs.size=32/\Cells g (⟨w.heap.size,0,none⟩:Addr) cs)/\an.N4 c d e a w K g)/\(c.size=32/\let i:=f.alloc (.cells (c.toList++ []).toArray 23);(∃cs:AV,(.agg b:Value)=.agg cs/\cs.size=32/\Cells i (⟨w.heap.size,0,none⟩:Addr) cs)/\an.N6 a b d e f w K i)/\(let j:=f.alloc (.map #[] 0);(∃cs:AV,(.agg c:Value)=.agg cs/\cs.size=32/\Cells j (⟨w.heap.size,0,none⟩:Addr) cs)/\(∃cs:AV,(.agg b:Value)=.agg cs/\cs.size=32/\Cells j (⟨w.heap.size,0,none⟩:Addr) cs)/\an.N7 a b c w d e f K j)
def an.N9(a:AV)(w:World)(b:OA)(c:OA)(d:World)(e:World)(K:KT)(f:World):Prop:=
 let g:=f.alloc (.map #[] 0);(∃cs:AV,(.agg a:Value)=.agg cs/\cs.size=32/\Cells g (⟨w.heap.size,0,none⟩:Addr) cs)/\an.N5 f a b c d e K g
def an.Kl(a:AV)(w:World)(b:OA)(c:OA)(d:World)(K:KT)(e:World):Prop:=
 (let f:=e.alloc (.map #[] 0);(∃cs:AV,(.agg a:Value)=.agg cs/\cs.size=32/\Cells f (⟨w.heap.size,0,none⟩:Addr) cs)/\an.N6 e a b c d w K f)/\(let g:=e.alloc (.map #[] 0);(∃cs:AV,(.agg a:Value)=.agg cs/\cs.size=32/\Cells g (⟨w.heap.size,0,none⟩:Addr) cs)/\an.N9 a w b c d e K g)
def an.PK(a:AV)(w:World)(b:AV)(c:OA)(d:OA)(e:World)(K:KT)(f:World):Prop:=
 (let g:=f.alloc (.map #[] 0);(∃cs:AV,(.agg a:Value)=.agg cs/\cs.size=32/\Cells g (⟨w.heap.size,0,none⟩:Addr) cs)/\(∃cs:AV,(.agg b:Value)=.agg cs/\cs.size=32/\Cells g (⟨w.heap.size,0,none⟩:Addr) cs)/\an.N7 f b a w c d e K g)/\(a.size=32/\let i:=f.alloc (.cells (a.toList++ []).toArray 23);(∃cs:AV,(.agg b:Value)=.agg cs/\cs.size=32/\Cells i (⟨w.heap.size,0,none⟩:Addr) cs)/\an.N9 b w c d f e K i)
def an.Jj(a:AV)(w:World)(b:AV)(c:OA)(d:OA)(K:KT)(e:World):Prop:=
 (let f:=e.alloc (.map #[] 0);(∃cs:AV,(.agg a:Value)=.agg cs/\cs.size=32/\Cells f (⟨w.heap.size,0,none⟩:Addr) cs)/\(∃cs:AV,(.agg b:Value)=.agg cs/\cs.size=32/\Cells f (⟨w.heap.size,0,none⟩:Addr) cs)/\an.N8 e b a w c d K f)/\(a.size=32/\let g:=e.alloc (.cells (a.toList++ []).toArray 23);(∃cs:AV,(.agg b:Value)=.agg cs/\cs.size=32/\Cells g (⟨w.heap.size,0,none⟩:Addr) cs)/\an.Kl b w c d e K g)/\(let i:=e.alloc (.map #[] 0);(∃cs:AV,(.agg a:Value)=.agg cs/\cs.size=32/\Cells i (⟨w.heap.size,0,none⟩:Addr) cs)/\(∃cs:AV,(.agg b:Value)=.agg cs/\cs.size=32/\Cells i (⟨w.heap.size,0,none⟩:Addr) cs)/\an.PK a w b c d e K i)
def an.E5(a:OA)(b:World)(c:World)(d:World)(K:KT)(e:World):Prop:=
 aY prog 65 #[] e fun f g=> ∃i:OA,f=.pointer i/\an.N1 a i b c d K g
def an.Ji(a:OA)(b:World)(c:World)(K:KT)(d:World):Prop:=
 (aY prog 65 #[] d fun e f=> ∃g:OA,e=.pointer g/\an.N2 a g b c K f)/\(let i:=d.alloc (.map #[] 0);an.E5 a b c d K i)
def an.OE(a:AV)(w:World)(b:OA)(c:World)(d:World)(K:KT)(e:World):Prop:=
 (aY prog 65 #[] e fun f g=> ∃i:OA,f=.pointer i/\(∃cs:AV,(.agg a:Value)=.agg cs/\cs.size=32/\Cells g (⟨w.heap.size,0,none⟩:Addr) cs)/\an.N3 a b i c d K g)/\(a.size=32/\let j:=e.alloc (.cells (a.toList++ []).toArray 23);an.E5 b c e d K j)
def an.Kk(a:AV)(w:World)(b:OA)(c:World)(K:KT)(d:World):Prop:=
 (aY prog 65 #[] d fun e f=> ∃g:OA,e=.pointer g/\(∃cs:AV,(.agg a:Value)=.agg cs/\cs.size=32/\Cells f (⟨w.heap.size,0,none⟩:Addr) cs)/\an.N4 a b g c w K f)/\(a.size=32/\let i:=d.alloc (.cells (a.toList++ []).toArray 23);an.Ji b c d K i)/\(let j:=d.alloc (.map #[] 0);(∃cs:AV,(.agg a:Value)=.agg cs/\cs.size=32/\Cells j (⟨w.heap.size,0,none⟩:Addr) cs)/\an.OE a w b c d K j)
def an.Kj(a:AV)(w:World)(b:World)(c:OA)(d:World)(e:World)(K:KT)(f:World):Prop:=
 (aY prog 65 #[] f fun g i=> ∃j:OA,g=.pointer j/\(∃cs:AV,(.agg a:Value)=.agg cs/\cs.size=32/\Cells i (⟨w.heap.size,0,none⟩:Addr) cs)/\an.N5 b a c j d e K i)/\(∃k:World,(Instr.mapUpdate 89 (.map (some b.heap.size)) (.agg a) (.int .i64 0)).run prog f=.ok () k/\an.E5 c b d e K k)
def an.OD(a:AV)(w:World)(b:World)(c:OA)(d:World)(K:KT)(e:World):Prop:=
 (aY prog 65 #[] e fun f g=> ∃i:OA,f=.pointer i/\(∃cs:AV,(.agg a:Value)=.agg cs/\cs.size=32/\Cells g (⟨w.heap.size,0,none⟩:Addr) cs)/\an.N6 b a c i d w K g)/\(∃j:World,(Instr.mapUpdate 89 (.map (some b.heap.size)) (.agg a) (.int .i64 0)).run prog e=.ok () j/\an.Ji c b d K j)/\(let k:=e.alloc (.map #[] 0);(∃cs:AV,(.agg a:Value)=.agg cs/\cs.size=32/\Cells k (⟨w.heap.size,0,none⟩:Addr) cs)/\an.Kj a w b c d e K k)
def an.Dq(a:AV)(w:World)(b:AV)(c:World)(d:OA)(e:World)(K:KT)(f:World):Prop:=
 (aY prog 65 #[] f fun g i=> ∃j:OA,g=.pointer j/\(∃cs:AV,(.agg a:Value)=.agg cs/\cs.size=32/\Cells i (⟨w.heap.size,0,none⟩:Addr) cs)/\(∃cs:AV,(.agg b:Value)=.agg cs/\cs.size=32/\Cells i (⟨w.heap.size,0,none⟩:Addr) cs)/\an.N7 c b a w d j e K i)/\(∃k:World,(Instr.mapUpdate 89 (.map (some c.heap.size)) (.agg b) (.int .i64 0)).run prog f=.ok () k/\(∃cs:AV,(.agg a:Value)=.agg cs/\cs.size=32/\Cells k (⟨w.heap.size,0,none⟩:Addr) cs)/\an.OE a w d c e K k)/\(a.size=32/\let m:=f.alloc (.cells (a.toList++ []).toArray 23);(∃cs:AV,(.agg b:Value)=.agg cs/\cs.size=32/\Cells m (⟨w.heap.size,0,none⟩:Addr) cs)/\an.Kj b w c d f e K m)
def an.GA(a:AV)(w:World)(b:AV)(c:World)(d:OA)(K:KT)(e:World):Prop:=
 (aY prog 65 #[] e fun f g=> ∃i:OA,f=.pointer i/\(∃cs:AV,(.agg a:Value)=.agg cs/\cs.size=32/\Cells g (⟨w.heap.size,0,none⟩:Addr) cs)/\(∃cs:AV,(.agg b:Value)=.agg cs/\cs.size=32/\Cells g (⟨w.heap.size,0,none⟩:Addr) cs)/\an.N8 c b a w d i K g)/\(∃j:World,(Instr.mapUpdate 89 (.map (some c.heap.size)) (.agg b) (.int .i64 0)).run prog e=.ok () j/\(∃cs:AV,(.agg a:Value)=.agg cs/\cs.size=32/\Cells j (⟨w.heap.size,0,none⟩:Addr) cs)/\an.Kk a w d c K j)/\(a.size=32/\let k:=e.alloc (.cells (a.toList++ []).toArray 23);(∃cs:AV,(.agg b:Value)=.agg cs/\cs.size=32/\Cells k (⟨w.heap.size,0,none⟩:Addr) cs)/\an.OD b w c d e K k)/\(let m:=e.alloc (.map #[] 0);(∃cs:AV,(.agg a:Value)=.agg cs/\cs.size=32/\Cells m (⟨w.heap.size,0,none⟩:Addr) cs)/\(∃cs:AV,(.agg b:Value)=.agg cs/\cs.size=32/\Cells m (⟨w.heap.size,0,none⟩:Addr) cs)/\an.Dq a w b c d e K m)
def an.Gz(a:AV)(w:World)(b:OA)(c:World)(d:World)(K:KT)(e:World):Prop:=
 (aY prog 65 #[] e fun f g=> ∃i:OA,f=.pointer i/\(∃cs:AV,(.agg a:Value)=.agg cs/\cs.size=32/\Cells g (⟨w.heap.size,0,none⟩:Addr) cs)/\an.N9 a w b i c d K g)/\(let j:=e.alloc (.map #[] 0);(∃cs:AV,(.agg a:Value)=.agg cs/\cs.size=32/\Cells j (⟨w.heap.size,0,none⟩:Addr) cs)/\an.Kj a w e b c d K j)
def an.Ki(a:AV)(w:World)(b:OA)(c:World)(K:KT)(d:World):Prop:=
 (aY prog 65 #[] d fun e f=> ∃g:OA,e=.pointer g/\(∃cs:AV,(.agg a:Value)=.agg cs/\cs.size=32/\Cells f (⟨w.heap.size,0,none⟩:Addr) cs)/\an.Kl a w b g c K f)/\(let i:=d.alloc (.map #[] 0);(∃cs:AV,(.agg a:Value)=.agg cs/\cs.size=32/\Cells i (⟨w.heap.size,0,none⟩:Addr) cs)/\an.OD a w d b c K i)/\(let j:=d.alloc (.map #[] 0);(∃cs:AV,(.agg a:Value)=.agg cs/\cs.size=32/\Cells j (⟨w.heap.size,0,none⟩:Addr) cs)/\an.Gz a w b c d K j)
def an.PJ(a:AV)(w:World)(b:AV)(c:OA)(d:World)(K:KT)(e:World):Prop:=
 (aY prog 65 #[] e fun f g=> ∃i:OA,f=.pointer i/\(∃cs:AV,(.agg a:Value)=.agg cs/\cs.size=32/\Cells g (⟨w.heap.size,0,none⟩:Addr) cs)/\(∃cs:AV,(.agg b:Value)=.agg cs/\cs.size=32/\Cells g (⟨w.heap.size,0,none⟩:Addr) cs)/\an.PK a w b c i d K g)/\(let j:=e.alloc (.map #[] 0);(∃cs:AV,(.agg a:Value)=.agg cs/\cs.size=32/\Cells j (⟨w.heap.size,0,none⟩:Addr) cs)/\(∃cs:AV,(.agg b:Value)=.agg cs/\cs.size=32/\Cells j (⟨w.heap.size,0,none⟩:Addr) cs)/\an.Dq a w b e c d K j)/\(a.size=32/\let k:=e.alloc (.cells (a.toList++ []).toArray 23);(∃cs:AV,(.agg b:Value)=.agg cs/\cs.size=32/\Cells k (⟨w.heap.size,0,none⟩:Addr) cs)/\an.Gz b w c e d K k)
def an.OC(a:AV)(w:World)(b:AV)(c:OA)(K:KT)(d:World):Prop:=
 (aY prog 65 #[] d fun e f=> ∃g:OA,e=.pointer g/\(∃cs:AV,(.agg a:Value)=.agg cs/\cs.size=32/\Cells f (⟨w.heap.size,0,none⟩:Addr) cs)/\(∃cs:AV,(.agg b:Value)=.agg cs/\cs.size=32/\Cells f (⟨w.heap.size,0,none⟩:Addr) cs)/\an.Jj a w b c g K f)/\(let i:=d.alloc (.map #[] 0);(∃cs:AV,(.agg a:Value)=.agg cs/\cs.size=32/\Cells i (⟨w.heap.size,0,none⟩:Addr) cs)/\(∃cs:AV,(.agg b:Value)=.agg cs/\cs.size=32/\Cells i (⟨w.heap.size,0,none⟩:Addr) cs)/\an.GA a w b d c K i)/\(a.size=32/\let j:=d.alloc (.cells (a.toList++ []).toArray 23);(∃cs:AV,(.agg b:Value)=.agg cs/\cs.size=32/\Cells j (⟨w.heap.size,0,none⟩:Addr) cs)/\an.Ki b w c d K j)/\(let k:=d.alloc (.map #[] 0);(∃cs:AV,(.agg a:Value)=.agg cs/\cs.size=32/\Cells k (⟨w.heap.size,0,none⟩:Addr) cs)/\(∃cs:AV,(.agg b:Value)=.agg cs/\cs.size=32/\Cells k (⟨w.heap.size,0,none⟩:Addr) cs)/\an.PJ a w b c d K k)
def an.OB(a:AV)(b:World)(c:World)(d:World)(K:KT)(e:World):Prop:=
 aY prog 64 #[.agg a] e fun f g=> ∃i:OA,f=.pointer i/\an.E5 i b c d K g
def an.PI(a:AV)(b:World)(c:World)(w:World)(K:KT)(d:World):Prop:=
 (aY prog 64 #[.agg a] d fun e f=> ∃g:OA,e=.pointer g/\an.Ji g b c K f)/\(let i:=d.alloc (.map #[] 0);(∃cs:AV,(.agg a:Value)=.agg cs/\cs.size=32/\Cells i (⟨w.heap.size,0,none⟩:Addr) cs)/\an.OB a b c d K i)
def an.Jh(a:AV)(b:AV)(w:World)(c:World)(d:World)(K:KT)(e:World):Prop:=
 (aY prog 64 #[.agg a] e fun f g=> ∃i:OA,f=.pointer i/\(∃cs:AV,(.agg b:Value)=.agg cs/\cs.size=32/\Cells g (⟨w.heap.size,0,none⟩:Addr) cs)/\an.OE b w i c d K g)/\(b.size=32/\let j:=e.alloc (.cells (b.toList++ []).toArray 23);(∃cs:AV,(.agg a:Value)=.agg cs/\cs.size=32/\Cells j (⟨w.heap.size,0,none⟩:Addr) cs)/\an.OB a c e d K j)
def an.Uo(a:AV)(b:AV)(w:World)(c:World)(K:KT)(d:World):Prop:=
 (aY prog 64 #[.agg a] d fun e f=> ∃g:OA,e=.pointer g/\(∃cs:AV,(.agg b:Value)=.agg cs/\cs.size=32/\Cells f (⟨w.heap.size,0,none⟩:Addr) cs)/\an.Kk b w g c K f)/\(b.size=32/\let i:=d.alloc (.cells (b.toList++ []).toArray 23);(∃cs:AV,(.agg a:Value)=.agg cs/\cs.size=32/\Cells i (⟨w.heap.size,0,none⟩:Addr) cs)/\an.PI a c d w K i)/\(let j:=d.alloc (.map #[] 0);(∃cs:AV,(.agg b:Value)=.agg cs/\cs.size=32/\Cells j (⟨w.heap.size,0,none⟩:Addr) cs)/\(∃cs:AV,(.agg a:Value)=.agg cs/\cs.size=32/\Cells j (⟨w.heap.size,0,none⟩:Addr) cs)/\an.Jh a b w c d K j)
def an.Oz(a:AV)(b:AV)(w:World)(c:World)(d:World)(e:World)(K:KT)(f:World):Prop:=
 (aY prog 64 #[.agg a] f fun g i=> ∃j:OA,g=.pointer j/\(∃cs:AV,(.agg b:Value)=.agg cs/\cs.size=32/\Cells i (⟨w.heap.size,0,none⟩:Addr) cs)/\an.Kj b w c j d e K i)/\(∃k:World,(Instr.mapUpdate 89 (.map (some c.heap.size)) (.agg b) (.int .i64 0)).run prog f=.ok () k/\(∃cs:AV,(.agg a:Value)=.agg cs/\cs.size=32/\Cells k (⟨w.heap.size,0,none⟩:Addr) cs)/\an.OB a c d e K k)
def an.PH(a:AV)(b:AV)(w:World)(c:World)(d:World)(K:KT)(e:World):Prop:=
 (aY prog 64 #[.agg a] e fun f g=> ∃i:OA,f=.pointer i/\(∃cs:AV,(.agg b:Value)=.agg cs/\cs.size=32/\Cells g (⟨w.heap.size,0,none⟩:Addr) cs)/\an.OD b w c i d K g)/\(∃j:World,(Instr.mapUpdate 89 (.map (some c.heap.size)) (.agg b) (.int .i64 0)).run prog e=.ok () j/\(∃cs:AV,(.agg a:Value)=.agg cs/\cs.size=32/\Cells j (⟨w.heap.size,0,none⟩:Addr) cs)/\an.PI a c d w K j)/\(let k:=e.alloc (.map #[] 0);(∃cs:AV,(.agg b:Value)=.agg cs/\cs.size=32/\Cells k (⟨w.heap.size,0,none⟩:Addr) cs)/\(∃cs:AV,(.agg a:Value)=.agg cs/\cs.size=32/\Cells k (⟨w.heap.size,0,none⟩:Addr) cs)/\an.Oz a b w c d e K k)
def an.PF(a:AV)(b:AV)(w:World)(c:AV)(d:World)(e:World)(K:KT)(f:World):Prop:=
 (aY prog 64 #[.agg a] f fun g i=> ∃j:OA,g=.pointer j/\(∃cs:AV,(.agg b:Value)=.agg cs/\cs.size=32/\Cells i (⟨w.heap.size,0,none⟩:Addr) cs)/\(∃cs:AV,(.agg c:Value)=.agg cs/\cs.size=32/\Cells i (⟨w.heap.size,0,none⟩:Addr) cs)/\an.Dq b w c d j e K i)/\(∃k:World,(Instr.mapUpdate 89 (.map (some d.heap.size)) (.agg c) (.int .i64 0)).run prog f=.ok () k/\(∃cs:AV,(.agg b:Value)=.agg cs/\cs.size=32/\Cells k (⟨w.heap.size,0,none⟩:Addr) cs)/\(∃cs:AV,(.agg a:Value)=.agg cs/\cs.size=32/\Cells k (⟨w.heap.size,0,none⟩:Addr) cs)/\an.Jh a b w d e K k)/\(b.size=32/\let m:=f.alloc (.cells (b.toList++ []).toArray 23);(∃cs:AV,(.agg c:Value)=.agg cs/\cs.size=32/\Cells m (⟨w.heap.size,0,none⟩:Addr) cs)/\(∃cs:AV,(.agg a:Value)=.agg cs/\cs.size=32/\Cells m (⟨w.heap.size,0,none⟩:Addr) cs)/\an.Oz a c w d f e K m)
def an.Un(a:AV)(b:AV)(w:World)(c:AV)(d:World)(K:KT)(e:World):Prop:=
 (aY prog 64 #[.agg a] e fun f g=> ∃i:OA,f=.pointer i/\(∃cs:AV,(.agg b:Value)=.agg cs/\cs.size=32/\Cells g (⟨w.heap.size,0,none⟩:Addr) cs)/\(∃cs:AV,(.agg c:Value)=.agg cs/\cs.size=32/\Cells g (⟨w.heap.size,0,none⟩:Addr) cs)/\an.GA b w c d i K g)/\(∃j:World,(Instr.mapUpdate 89 (.map (some d.heap.size)) (.agg c) (.int .i64 0)).run prog e=.ok () j/\(∃cs:AV,(.agg b:Value)=.agg cs/\cs.size=32/\Cells j (⟨w.heap.size,0,none⟩:Addr) cs)/\(∃cs:AV,(.agg a:Value)=.agg cs/\cs.size=32/\Cells j (⟨w.heap.size,0,none⟩:Addr) cs)/\an.Uo a b w d K j)/\(b.size=32/\let k:=e.alloc (.cells (b.toList++ []).toArray 23);(∃cs:AV,(.agg c:Value)=.agg cs/\cs.size=32/\Cells k (⟨w.heap.size,0,none⟩:Addr) cs)/\(∃cs:AV,(.agg a:Value)=.agg cs/\cs.size=32/\Cells k (⟨w.heap.size,0,none⟩:Addr) cs)/\an.PH a c w d e K k)/\(let m:=e.alloc (.map #[] 0);(∃cs:AV,(.agg b:Value)=.agg cs/\cs.size=32/\Cells m (⟨w.heap.size,0,none⟩:Addr) cs)/\(∃cs:AV,(.agg c:Value)=.agg cs/\cs.size=32/\Cells m (⟨w.heap.size,0,none⟩:Addr) cs)/\(∃cs:AV,(.agg a:Value)=.agg cs/\cs.size=32/\Cells m (⟨w.heap.size,0,none⟩:Addr) cs)/\an.PF a b w c d e K m)
def an.PE(a:AV)(b:AV)(w:World)(c:World)(d:World)(K:KT)(e:World):Prop:=
 (aY prog 64 #[.agg a] e fun f g=> ∃i:OA,f=.pointer i/\(∃cs:AV,(.agg b:Value)=.agg cs/\cs.size=32/\Cells g (⟨w.heap.size,0,none⟩:Addr) cs)/\an.Gz b w i c d K g)/\(let j:=e.alloc (.map #[] 0);(∃cs:AV,(.agg b:Value)=.agg cs/\cs.size=32/\Cells j (⟨w.heap.size,0,none⟩:Addr) cs)/\(∃cs:AV,(.agg a:Value)=.agg cs/\cs.size=32/\Cells j (⟨w.heap.size,0,none⟩:Addr) cs)/\an.Oz a b w e c d K j)
def an.Um(a:AV)(b:AV)(w:World)(c:World)(K:KT)(d:World):Prop:=
 (aY prog 64 #[.agg a] d fun e f=> ∃g:OA,e=.pointer g/\(∃cs:AV,(.agg b:Value)=.agg cs/\cs.size=32/\Cells f (⟨w.heap.size,0,none⟩:Addr) cs)/\an.Ki b w g c K f)/\(let i:=d.alloc (.map #[] 0);(∃cs:AV,(.agg b:Value)=.agg cs/\cs.size=32/\Cells i (⟨w.heap.size,0,none⟩:Addr) cs)/\(∃cs:AV,(.agg a:Value)=.agg cs/\cs.size=32/\Cells i (⟨w.heap.size,0,none⟩:Addr) cs)/\an.PH a b w d c K i)/\(let j:=d.alloc (.map #[] 0);(∃cs:AV,(.agg b:Value)=.agg cs/\cs.size=32/\Cells j (⟨w.heap.size,0,none⟩:Addr) cs)/\(∃cs:AV,(.agg a:Value)=.agg cs/\cs.size=32/\Cells j (⟨w.heap.size,0,none⟩:Addr) cs)/\an.PE a b w c d K j)
def an.Ul(a:AV)(b:AV)(w:World)(c:AV)(d:World)(K:KT)(e:World):Prop:=
 (aY prog 64 #[.agg a] e fun f g=> ∃i:OA,f=.pointer i/\(∃cs:AV,(.agg b:Value)=.agg cs/\cs.size=32/\Cells g (⟨w.heap.size,0,none⟩:Addr) cs)/\(∃cs:AV,(.agg c:Value)=.agg cs/\cs.size=32/\Cells g (⟨w.heap.size,0,none⟩:Addr) cs)/\an.PJ b w c i d K g)/\(let j:=e.alloc (.map #[] 0);(∃cs:AV,(.agg b:Value)=.agg cs/\cs.size=32/\Cells j (⟨w.heap.size,0,none⟩:Addr) cs)/\(∃cs:AV,(.agg c:Value)=.agg cs/\cs.size=32/\Cells j (⟨w.heap.size,0,none⟩:Addr) cs)/\(∃cs:AV,(.agg a:Value)=.agg cs/\cs.size=32/\Cells j (⟨w.heap.size,0,none⟩:Addr) cs)/\an.PF a b w c e d K j)/\(b.size=32/\let k:=e.alloc (.cells (b.toList++ []).toArray 23);(∃cs:AV,(.agg c:Value)=.agg cs/\cs.size=32/\Cells k (⟨w.heap.size,0,none⟩:Addr) cs)/\(∃cs:AV,(.agg a:Value)=.agg cs/\cs.size=32/\Cells k (⟨w.heap.size,0,none⟩:Addr) cs)/\an.PE a c w e d K k)
def an.Uk(a:AV)(b:AV)(w:World)(c:AV)(K:KT)(d:World):Prop:=
 (aY prog 64 #[.agg a] d fun e f=> ∃g:OA,e=.pointer g/\(∃cs:AV,(.agg b:Value)=.agg cs/\cs.size=32/\Cells f (⟨w.heap.size,0,none⟩:Addr) cs)/\(∃cs:AV,(.agg c:Value)=.agg cs/\cs.size=32/\Cells f (⟨w.heap.size,0,none⟩:Addr) cs)/\an.OC b w c g K f)/\(let i:=d.alloc (.map #[] 0);(∃cs:AV,(.agg b:Value)=.agg cs/\cs.size=32/\Cells i (⟨w.heap.size,0,none⟩:Addr) cs)/\(∃cs:AV,(.agg c:Value)=.agg cs/\cs.size=32/\Cells i (⟨w.heap.size,0,none⟩:Addr) cs)/\(∃cs:AV,(.agg a:Value)=.agg cs/\cs.size=32/\Cells i (⟨w.heap.size,0,none⟩:Addr) cs)/\an.Un a b w c d K i)/\(b.size=32/\let j:=d.alloc (.cells (b.toList++ []).toArray 23);(∃cs:AV,(.agg c:Value)=.agg cs/\cs.size=32/\Cells j (⟨w.heap.size,0,none⟩:Addr) cs)/\(∃cs:AV,(.agg a:Value)=.agg cs/\cs.size=32/\Cells j (⟨w.heap.size,0,none⟩:Addr) cs)/\an.Um a c w d K j)/\(let k:=d.alloc (.map #[] 0);(∃cs:AV,(.agg b:Value)=.agg cs/\cs.size=32/\Cells k (⟨w.heap.size,0,none⟩:Addr) cs)/\(∃cs:AV,(.agg c:Value)=.agg cs/\cs.size=32/\Cells k (⟨w.heap.size,0,none⟩:Addr) cs)/\(∃cs:AV,(.agg a:Value)=.agg cs/\cs.size=32/\Cells k (⟨w.heap.size,0,none⟩:Addr) cs)/\an.Ul a b w c d K k)
section
variable(a:AV)(K:KT)(w:World)
def an.W:Prop:=
 let b:=w.alloc (.cells a 23);let d:=b.drew;∃e:AV,(e.size=32/\Cells d (⟨w.heap.size,0,none⟩:Addr) e)/\ ∃f:AV,(f.size=32/\Cells d (⟨w.heap.size,0,none⟩:Addr) f)/\ ∃g:AV,(g.size=32/\Cells d (⟨w.heap.size,0,none⟩:Addr) g)/\an.Uk e g w f K d
variable{a K w}
theorem an.of(h:an.W a K w):aY prog 39 #[.agg a] w K:=
 aH (C:=an.k) (c:=body f39) ng mix func39 (by kernel_rfl) (by kernel_rfl) (by kernel_rfl) h
end
def aw.k:List Nat:= []
def aw.q1(K:KT):aJ:=(aK 1 (bY (sR (sR (sR (sR (sR (sR (body f43)))))))++(aO f43)) (bN (fun bS w_=>match cutAt aw.k (sR (sR (sR (sR (sR (sR (body f43)))))))with|true=>Holds none [] prog 131 (sR (sR (sR (sR (sR (sR (body f43))))))) (bG prog f43 K) bS w_|false=>aT none [] prog 131 aw.k (sR (sR (sR (sR (sR (sR (body f43))))))) (aO f43) (bG prog f43 K) bS w_) (bG prog f43 K)))
def aw.e1(a:OA)(b:OA)(c:Nat)(d:Nat)(e:Addr)(f:Addr)(g:Int)(i:OA)(j:Option Nat)(k:OA)(m:Nat)(n:Nat)(o:Int)(s:Int):Env:= [(0,.pointer a),(3,.slice b c d),(5,.pointer (some e)),(6,.pointer (some f)),(8,.int .i64 g),(9,.pointer i),(10,.map j),(57,.slice k m n),(58,.int .i64 o),(59,.int .i64 s)]
def aw.u1:List Nat:= [0,3,5,6,8,9,10,57,58,59]
def aw.q2(K:KT):aJ:=(aK 3 (bY (sR (sR (sR (sR (sR (sR (sR (sR (body f43)))))))))++(aO f43)) (bN (fun bS w_=>match cutAt aw.k (sR (sR (sR (sR (sR (sR (sR (sR (body f43)))))))))with|true=>Holds none [] prog 131 (sR (sR (sR (sR (sR (sR (sR (sR (body f43))))))))) (bG prog f43 K) bS w_|false=>aT none [] prog 131 aw.k (sR (sR (sR (sR (sR (sR (sR (sR (body f43))))))))) (aO f43) (bG prog f43 K) bS w_) (bG prog f43 K)))
def aw.e2(a:OA)(b:Addr)(c:Addr)(d:Int)(e:Option Nat)(f:OA)(g:Nat)(i:Nat)(j:Int)(s:Int):Env:= [(0,.pointer a),(5,.pointer (some b)),(6,.pointer (some c)),(8,.int .i64 d),(10,.map e),(74,.slice f g i),(75,.int .i64 j),(76,.int .i64 s)]
def aw.u2:List Nat:= [0,5,6,8,10,74,75,76]
section
variable(a:OA)(b:AV)(d:AV)(e:OA)(f:Nat)(g:Nat)(K:KT)(w:World)
def aw.W:Prop:=
 let i:=w.alloc (.cells b 23);let j:=i.alloc (.cells d 23);aY prog 78 #[.pointer a] j fun k m=> ∃n:Bool,k=.bool n/\Split (!n) (K (.int .i64 1) m) (Is a fun o:Addr=> ∃p:OA,m.cell? (o.add 0)=some (.pointer p)/\ ∃q:AV,(q.size=32/\Cells m (⟨w.heap.size,0,none⟩:Addr) q)/\aY prog 79 #[.pointer p,.agg q] m fun r t=> ∃u:Bool,r=.bool u/\Split u (K (.int .i64 7) t) (Split ((f:Int)==(0:Int)) (K (.int .i64 9) t) (aY prog 41 #[.slice e f g] t fun v x=> ∃y:OA,∃z:Nat,∃a1:Nat,v=.slice y z a1/\Split ((z:Int) != (f:Int)) (K (.int .i64 9) x) (aY prog 55 #[.pointer a,.slice e f g] x fun b1 c1=> ∃d1:Bool,b1=.bool d1/\Split (!d1) (K (.int .i64 6) c1) (∃e1:AV,(e1.size=32/\Cells c1 (⟨i.heap.size,0,none⟩:Addr) e1)/\aY prog 54 #[.slice e f g,.agg e1] c1 fun f1 g1=> ∃i1:Bool,f1=.bool i1/\Split (!i1) (K (.int .i64 2) g1) (let j1:=g1.alloc (.map #[] 0);∃k1:AV,(k1.size=32/\Cells j1 (⟨i.heap.size,0,none⟩:Addr) k1)/\ ∃m1:World,(Instr.mapUpdate 129 (.map (some g1.heap.size)) (.agg k1) (.agg #[.bool true])).run prog j1=.ok () m1/\ ∃n1:AV,(n1.size=32/\Cells m1 (⟨i.heap.size,0,none⟩:Addr) n1)/\n1.size=32/\let o1:=m1.alloc (.cells (n1.toList++ []).toArray 23);aY prog 70 #[.pointer p,.slice (some (⟨m1.heap.size,0,none⟩:Addr)) 1 1] o1 fun p1 q1=> ∃r1:OA,∃t1:Nat,∃u1:Nat,p1=.slice r1 t1 u1/\Holds none [] prog 131 (.loop (lB (bB (sR (sL (sR (sR (sR (sR (sR (body f43))))))))))) (aw.q1 K) [(0,.pointer a),(3,.slice e f g),(5,.pointer (some (⟨w.heap.size,0,none⟩:Addr))),(6,.pointer (some (⟨i.heap.size,0,none⟩:Addr))),(8,.int .i64 0),(9,.pointer p),(10,.map (some g1.heap.size)),(57,.slice r1 t1 u1),(58,.int .i64 (t1:Int)),(59,.int .i64 0)] q1))))))
variable{a b d e f g K w}
theorem aw.of(h:aw.W a b d e f g K w):aY prog 43 #[.pointer a,.agg b,.agg d,.slice e f g] w K:=
 aH (C:=aw.k) (c:=body f43) ng mix func43 (by kernel_rfl) (by kernel_rfl) (by kernel_rfl) h
end
section
variable(a:OA)(b:OA)(c:Nat)(d:Nat)(e:Addr)(f:Addr)(g:Int)(i:OA)(j:Option Nat)(k:OA)(m:Nat)(n:Nat)(o:Int)(p:Int)(Q:aJ)(w:World)
def aw.B1:Prop:=
 Split (decide (p<o)) ((0<=p/\p<(m:Int))/\Is k fun q:Addr=> ∃r:AV,(r.size=32/\Cells w (q.add (p.toNat*32)) r)/\let t:=w.alloc (.cells zH 23);(r.size=32/\(∀u∈r.toList,u.oneCell'=true)/\ ∀v,v<32->Wr t ((⟨w.heap.size,0,none⟩:Addr).add v))/\let x:=setCells t (⟨w.heap.size,0,none⟩:Addr) r.toList 0;∃y:AV,(y.size=32/\Cells x (⟨w.heap.size,0,none⟩:Addr) y)/\ ∃z:World,(Instr.mapUpdate 129 (.map j) (.agg y) (.agg #[.bool true])).run prog x=.ok () z/\Q .normal [(0,.pointer a),(3,.slice b c d),(5,.pointer (some e)),(6,.pointer (some f)),(8,.int .i64 g),(9,.pointer i),(10,.map j),(57,.slice k m n),(58,.int .i64 o),(59,.int .i64 (IntKind.i64.wrap (p+(1:Int))))] z) (Q (.exit 1) [(0,.pointer a),(3,.slice b c d),(5,.pointer (some e)),(6,.pointer (some f)),(8,.int .i64 g),(9,.pointer i),(10,.map j),(57,.slice k m n),(58,.int .i64 o),(59,.int .i64 p)] w)
theorem aw.b1:(aT none [] prog 131 aw.k (lB (bB (sR (sL (sR (sR (sR (sR (sR (body f43)))))))))) aw.u1 Q [(0,.pointer a),(3,.slice b c d),(5,.pointer (some e)),(6,.pointer (some f)),(8,.int .i64 g),(9,.pointer i),(10,.map j),(57,.slice k m n),(58,.int .i64 o),(59,.int .i64 p)] w)=aw.B1 a b c d e f g i j k m n o p Q w:=by kernel_rfl
variable{a b c d e f g i j k m n o}
theorem aw.bU(I:Int->World->Prop)(μ:Int->World->Nat)(s:Int){Q:aJ}{w:World}(h0:I s w)
 (round: ∀s w,I s w->aw.B1 a b c d e f g i j k m n o s (bF (aw.e1 a b c d e f g i j k m n o) I μ s w Q) w):Holds none [] prog 131 (.loop (lB (bB (sR (sL (sR (sR (sR (sR (sR (body f43))))))))))) Q (aw.e1 a b c d e f g i j k m n o s) w:=
 ba ng mix (aw.e1 a b c d e f g i j k m n o) I μ aw.k aw.u1 s (fun s Q w=>aw.B1 a b c d e f g i j k m n o s Q w) (fun s Q w=>aw.b1 a b c d e f g i j k m n o s Q w) h0 round
end
section
def aw.z8(a:OA)(b:OA)(c:Nat)(d:Nat)(e:Addr)(f:Addr)(g:Int)(i:OA)(j:Option Nat)(k:OA)(m:Nat)(n:Nat)(o:Int)(p:Int)(K:KT)(w:World):Prop:=
 ∃q:AV,(q.size=32/\Cells w e q)/\aY prog 80 #[.pointer i,.agg q,.slice b c d] w fun r t=> ∃u:Int,r=.int .i64 u/\ ∃v:AV,(v.size=32/\Cells t e v)/\v.size=32/\let x:=t.alloc (.cells (v.toList++ []).toArray 23);aY prog 70 #[.pointer i,.slice (some (⟨t.heap.size,0,none⟩:Addr)) 1 1] x fun y z=> ∃a1:OA,∃b1:Nat,∃c1:Nat,y=.slice a1 b1 c1/\Holds none [] prog 131 (.loop (lB (bB (sR (sL (sR (sR (sR (sR (sR (sR (sR (body f43))))))))))))) (aw.q2 K) [(0,.pointer a),(5,.pointer (some e)),(6,.pointer (some f)),(8,.int .i64 g),(10,.map j),(74,.slice a1 b1 c1),(75,.int .i64 (b1:Int)),(76,.int .i64 0)] z
variable(a:OA)(b:OA)(c:Nat)(d:Nat)(e:Addr)(f:Addr)(g:Int)(i:OA)(j:Option Nat)(k:OA)(m:Nat)(n:Nat)(o:Int)(p:Int)(K:KT)(w:World)
theorem aw.GF:(aw.q1 K (.exit 1) [(0,.pointer a),(3,.slice b c d),(5,.pointer (some e)),(6,.pointer (some f)),(8,.int .i64 g),(9,.pointer i),(10,.map j),(57,.slice k m n),(58,.int .i64 o),(59,.int .i64 p)] w)=aw.z8 a b c d e f g i j k m n o p K w:=by kernel_rfl
end
section
variable(a:OA)(b:Addr)(c:Addr)(d:Int)(e:Option Nat)(f:OA)(g:Nat)(i:Nat)(j:Int)(k:Int)(Q:aJ)(w:World)
def aw.B2:Prop:=
 Split (decide (k<j)) ((0<=k/\k<(g:Int))/\Is f fun m:Addr=> ∃n:AV,(n.size=32/\Cells w (m.add (k.toNat*32)) n)/\let o:=w.alloc (.cells zH 23);(n.size=32/\(∀p∈n.toList,p.oneCell'=true)/\ ∀q,q<32->Wr o ((⟨w.heap.size,0,none⟩:Addr).add q))/\let r:=setCells o (⟨w.heap.size,0,none⟩:Addr) n.toList 0;∃t:AV,(t.size=32/\Cells r (⟨w.heap.size,0,none⟩:Addr) t)/\ ∃u:AV,(Instr.lookup 129 (.map e) (.agg t) false).run prog r=.ok (.agg u) r/\ ∃v:Bool,u[0]? =some (.bool v)/\Split (!v) (let x:=r.drew;Is a fun y:Addr=> ∃z:Option Nat,x.cell? (y.add 4)=some (.map z)/\ ∃a1:AV,(a1.size=32/\Cells x (⟨w.heap.size,0,none⟩:Addr) a1)/\Is a fun b1:Addr=> ∃c1:Option Nat,x.cell? (b1.add 4)=some (.map c1)/\ ∃d1:AV,(d1.size=32/\Cells x (⟨w.heap.size,0,none⟩:Addr) d1)/\ ∃e1:OA,∃f1:Nat,∃g1:Nat,(Instr.lookup 107 (.map c1) (.agg d1) false).run prog x=.ok (.slice e1 f1 g1) x/\ ∃i1:AV,(i1.size=32/\Cells x b i1)/\(aY prog 81 #[.slice e1 f1 g1] x fun j1 k1=> ∃m1:OA,∃n1:Nat,∃o1:Nat,j1=.slice m1 n1 o1/\(∃cs:AV,(.agg i1:Value)=.agg cs/\cs.size=32/\Cells k1 b cs)/\(∃cs:AV,(.agg a1:Value)=.agg cs/\cs.size=32/\Cells k1 (⟨w.heap.size,0,none⟩:Addr) cs)/\k1.cell? (y.add 4)=some (.map z)/\i1.size=32/\let p1:=k1.alloc (.cells (i1.toList++ []).toArray 23);(∃cs:AV,(.agg a1:Value)=.agg cs/\cs.size=32/\Cells p1 (⟨w.heap.size,0,none⟩:Addr) cs)/\p1.cell? (y.add 4)=some (.map z)/\ ∃(q1:OA) (r1 t1:Nat) (u1:World),(Builtin.append_ #[35,35] 35 #[.slice m1 n1 o1,.slice (some (⟨k1.heap.size,0,none⟩:Addr)) 1 1]).run prog p1=.ok (.slice q1 r1 t1) u1/\(∃cs:AV,(.agg a1:Value)=.agg cs/\cs.size=32/\Cells u1 (⟨w.heap.size,0,none⟩:Addr) cs)/\u1.cell? (y.add 4)=some (.map z)/\ ∃v1:World,(Instr.mapUpdate 107 (.map z) (.agg a1) (.slice q1 r1 t1)).run prog u1=.ok () v1/\Q .normal [(0,.pointer a),(5,.pointer (some b)),(6,.pointer (some c)),(8,.int .i64 d),(10,.map e),(74,.slice f g i),(75,.int .i64 j),(76,.int .i64 (IntKind.i64.wrap (k+(1:Int))))] v1)/\(i1.size=32/\let x1:=x.alloc (.cells (i1.toList++ []).toArray 23);(Instr.lookup 107 (.map c1) (.agg d1) false).run prog x1=.ok (.slice e1 f1 g1) x1/\(∃cs:AV,(.agg d1:Value)=.agg cs/\cs.size=32/\Cells x1 (⟨w.heap.size,0,none⟩:Addr) cs)/\x1.cell? (b1.add 4)=some (.map c1)/\(∃cs:AV,(.agg a1:Value)=.agg cs/\cs.size=32/\Cells x1 (⟨w.heap.size,0,none⟩:Addr) cs)/\x1.cell? (y.add 4)=some (.map z)/\aY prog 81 #[.slice e1 f1 g1] x1 fun y1 z1=> ∃a2:OA,∃b2:Nat,∃c2:Nat,y1=.slice a2 b2 c2/\(∃cs:AV,(.agg a1:Value)=.agg cs/\cs.size=32/\Cells z1 (⟨w.heap.size,0,none⟩:Addr) cs)/\z1.cell? (y.add 4)=some (.map z)/\ ∃(d2:OA) (e2 f2:Nat) (g2:World),(Builtin.append_ #[35,35] 35 #[.slice a2 b2 c2,.slice (some (⟨x.heap.size,0,none⟩:Addr)) 1 1]).run prog z1=.ok (.slice d2 e2 f2) g2/\(∃cs:AV,(.agg a1:Value)=.agg cs/\cs.size=32/\Cells g2 (⟨w.heap.size,0,none⟩:Addr) cs)/\g2.cell? (y.add 4)=some (.map z)/\ ∃i2:World,(Instr.mapUpdate 107 (.map z) (.agg a1) (.slice d2 e2 f2)).run prog g2=.ok () i2/\Q .normal [(0,.pointer a),(5,.pointer (some b)),(6,.pointer (some c)),(8,.int .i64 d),(10,.map e),(74,.slice f g i),(75,.int .i64 j),(76,.int .i64 (IntKind.i64.wrap (k+(1:Int))))] i2)) (Q .normal [(0,.pointer a),(5,.pointer (some b)),(6,.pointer (some c)),(8,.int .i64 d),(10,.map e),(74,.slice f g i),(75,.int .i64 j),(76,.int .i64 (IntKind.i64.wrap (k+(1:Int))))] r)) (Q (.exit 3) [(0,.pointer a),(5,.pointer (some b)),(6,.pointer (some c)),(8,.int .i64 d),(10,.map e),(74,.slice f g i),(75,.int .i64 j),(76,.int .i64 k)] w)
theorem aw.b2:(aT none [] prog 131 aw.k (lB (bB (sR (sL (sR (sR (sR (sR (sR (sR (sR (body f43)))))))))))) aw.u2 Q [(0,.pointer a),(5,.pointer (some b)),(6,.pointer (some c)),(8,.int .i64 d),(10,.map e),(74,.slice f g i),(75,.int .i64 j),(76,.int .i64 k)] w)=aw.B2 a b c d e f g i j k Q w:=by kernel_rfl
variable{a b c d e f g i j}
theorem aw.gz(I:Int->World->Prop)(μ:Int->World->Nat)(s:Int){Q:aJ}{w:World}(h0:I s w)
 (round: ∀s w,I s w->aw.B2 a b c d e f g i j s (bF (aw.e2 a b c d e f g i j) I μ s w Q) w):Holds none [] prog 131 (.loop (lB (bB (sR (sL (sR (sR (sR (sR (sR (sR (sR (body f43))))))))))))) Q (aw.e2 a b c d e f g i j s) w:=
 ba ng mix (aw.e2 a b c d e f g i j) I μ aw.k aw.u2 s (fun s Q w=>aw.B2 a b c d e f g i j s Q w) (fun s Q w=>aw.b2 a b c d e f g i j s Q w) h0 round
end
section
def aw.Je(a:OA)(b:Addr)(c:Addr)(d:Int)(e:Option Nat)(f:OA)(g:Nat)(i:Nat)(j:Int)(k:Int)(K:KT)(w:World):Prop:=
 let m:=w.drew;Is a fun n:Addr=> ∃o:OA,m.cell? (n.add 1)=some (.pointer o)/\Is a fun p:Addr=> ∃q:Option Nat,m.cell? (p.add 2)=some (.map q)/\ ∃r:AV,(r.size=32/\Cells m c r)/\ ∃t:Int,(Instr.lookup 89 (.map q) (.agg r) false).run prog m=.ok (.int .i64 t) m/\aY prog 82 #[.pointer o,.int .i64 t] m fun u v=> ∃x:Int,∃y:Int,u=.tuple #[.int .i64 x,.int .i64 y]/\let z:=v.drew;Is a fun a1:Addr=> ∃b1:Option Nat,z.cell? (a1.add 2)=some (.map b1)/\ ∃c1:AV,(c1.size=32/\Cells z b c1)/\ ∃d1:World,(Instr.mapUpdate 89 (.map b1) (.agg c1) (.int .i64 x)).run prog z=.ok () d1/\let e1:=d1.drew;Is a fun f1:Addr=> ∃g1:OA,∃i1:Nat,∃j1:Nat,e1.cell? (f1.add 3)=some (.slice g1 i1 j1)/\ ∃k1:AV,(k1.size=32/\Cells e1 b k1)/\k1.size=32/\let m1:=e1.alloc (.cells (k1.toList++ []).toArray 23);m1.cell? (f1.add 3)=some (.slice g1 i1 j1)/\ ∃(n1:OA) (o1 p1:Nat) (q1:World),(Builtin.append_ #[35,35] 35 #[.slice g1 i1 j1,.slice (some (⟨e1.heap.size,0,none⟩:Addr)) 1 1]).run prog m1=.ok (.slice n1 o1 p1) q1/\Is a fun r1:Addr=>Wr q1 (r1.add 3)/\let t1:=q1.setCell (r1.add 3) (.slice n1 o1 p1);K (.int .i64 0) t1
variable(a:OA)(b:Addr)(c:Addr)(d:Int)(e:Option Nat)(f:OA)(g:Nat)(i:Nat)(j:Int)(k:Int)(K:KT)(w:World)
theorem aw.PS:(aw.q2 K (.exit 3) [(0,.pointer a),(5,.pointer (some b)),(6,.pointer (some c)),(8,.int .i64 d),(10,.map e),(74,.slice f g i),(75,.int .i64 j),(76,.int .i64 k)] w)=aw.Je a b c d e f g i j k K w:=by kernel_rfl
end
def dH.k:List Nat:= []
section
variable(a:OA)(b:AV)(K:KT)(w:World)
def dH.W:Prop:=
 let d:=w.alloc (.cells (#[.pointer a]:AV) 73);let e:=d.alloc (.cells b 23);K (.func (.func 89) #[] #[.pointer (some (⟨w.heap.size,0,none⟩:Addr)),.pointer (some (⟨d.heap.size,0,none⟩:Addr))]) e
variable{a b K w}
theorem dH.of(h:dH.W a b K w):aY prog 53 #[.pointer a,.agg b] w K:=
 aH (C:=dH.k) (c:=body f53) ng mix func53 (by kernel_rfl) (by kernel_rfl) (by kernel_rfl) h
end
def bJ.k:List Nat:= []
section
variable(a:OA)(b:Nat)(d:Nat)(e:AV)(K:KT)(w:World)
def bJ.W:Prop:=
 let f:=w.alloc (.cells e 23);∃g:AV,(g.size=32/\Cells f (⟨w.heap.size,0,none⟩:Addr) g)/\aY prog 91 #[.slice a b d,.agg g] f fun i j=> ∃k:Int,i=.int .i64 k/\K (.bool (decide (k>=(0:Int)))) j
variable{a b d e K w}
theorem bJ.of(h:bJ.W a b d e K w):aY prog 54 #[.slice a b d,.agg e] w K:=
 aH (C:=bJ.k) (c:=body f54) ng mix func54 (by kernel_rfl) (by kernel_rfl) (by kernel_rfl) h
end
def dp.k:List Nat:= []
section
variable(a:OA)(b:OA)(d:Nat)(e:Nat)(K:KT)(w:World)
def dp.W:Prop:=
 let f:=w.alloc (.cells (#[.pointer a]:AV) 73);∃g:OA,f.cell? (⟨w.heap.size,0,none⟩:Addr)=some (.pointer g)/\aY prog 78 #[.pointer g] f fun i j=> ∃k:Bool,i=.bool k/\Split k (aY prog 85 #[.slice b d e,.func (.func 92) #[] #[.pointer (some (⟨w.heap.size,0,none⟩:Addr))]] j fun m n=> ∃o:Bool,m=.bool o/\K (.bool (!o)) n) (K (.bool false) j)
variable{a b d e K w}
theorem dp.of(h:dp.W a b d e K w):aY prog 55 #[.pointer a,.slice b d e] w K:=
 aH (C:=dp.k) (c:=body f55) ng mix func55 (by kernel_rfl) (by kernel_rfl) (by kernel_rfl) h
end
section
variable(a:OA)(K:KT)(w:World)
variable{a K w}
end
section
variable(a:OA)(b:Addr)(c:OA)(Q:aJ)(w:World)
variable{a b c}
end
section
variable(a:OA)(b:Addr)(c:OA)(K:KT)(w:World)
end
def cC.k:List Nat:= []
section
variable(a:OA)(b:AV)(d:AV)(K:KT)(w:World)
def cC.W:Prop:=
 let e:=w.alloc (.cells (#[.pointer a]:AV) 73);let f:=e.alloc (.cells b 23);let g:=f.alloc (.cells d 23);∃i:OA,g.cell? (⟨w.heap.size,0,none⟩:Addr)=some (.pointer i)/\ ∃j:AV,(j.size=32/\Cells g (⟨e.heap.size,0,none⟩:Addr) j)/\ ∃k:AV,(k.size=32/\Cells g (⟨f.heap.size,0,none⟩:Addr) k)/\j.size=32/\k.size=32/\let m:=g.alloc (.cells (j.toList++(k.toList++([]))).toArray 23);aY prog 55 #[.pointer i,.slice (some (⟨g.heap.size,0,none⟩:Addr)) 2 2] m fun n o=> ∃p:Bool,n=.bool p/\Split (!p) (K (.bool false) o) (∃q:AV,(q.size=32/\Cells o (⟨e.heap.size,0,none⟩:Addr) q)/\ ∃r:AV,(r.size=32/\Cells o (⟨f.heap.size,0,none⟩:Addr) r)/\(eh .u8 32 q/\eh .u8 32 r)/\Split (eK q r) (K (.bool false) o) (let t:=o.drew;∃u:OA,t.cell? (⟨w.heap.size,0,none⟩:Addr)=some (.pointer u)/\ ∃v:AV,(v.size=32/\Cells t (⟨e.heap.size,0,none⟩:Addr) v)/\ ∃x:AV,(x.size=32/\Cells t (⟨f.heap.size,0,none⟩:Addr) x)/\aY prog 32 #[.pointer u,.agg v,.agg x] t fun y z=> ∃a1:Bool,y=.bool a1/\Split a1 (K (.bool true) z) (∃b1:OA,z.cell? (⟨w.heap.size,0,none⟩:Addr)=some (.pointer b1)/\Is b1 fun c1:Addr=> ∃d1:Option Nat,z.cell? (c1.add 4)=some (.map d1)/\ ∃e1:AV,(e1.size=32/\Cells z (⟨e.heap.size,0,none⟩:Addr) e1)/\ ∃f1:OA,∃g1:Nat,∃i1:Nat,(Instr.lookup 107 (.map d1) (.agg e1) false).run prog z=.ok (.slice f1 g1 i1) z/\aY prog 85 #[.slice f1 g1 i1,.func (.func 104) #[] #[.pointer (some (⟨w.heap.size,0,none⟩:Addr)),.pointer (some (⟨f.heap.size,0,none⟩:Addr))]] z fun j1 k1=> ∃m1:Bool,j1=.bool m1/\K (.bool m1) k1)))
variable{a b d K w}
theorem cC.of(h:cC.W a b d K w):aY prog 71 #[.pointer a,.agg b,.agg d] w K:=
 aH (C:=cC.k) (c:=body f71) ng mix func71 (by kernel_rfl) (by kernel_rfl) (by kernel_rfl) h
end
def dd.k:List Nat:= []
section
variable(a:OA)(K:KT)(w:World)
def dd.W:Prop:=
 Split (!(a).isNone) (Is a fun b:Addr=> ∃d:OA,w.cell? (b.add 0)=some (.pointer d)/\K (.bool (!(d).isNone)) w) (K (.bool false) w)
variable{a K w}
theorem dd.of(h:dd.W a K w):aY prog 78 #[.pointer a] w K:=
 aH (C:=dd.k) (c:=body f78) ng mix func78 (by kernel_rfl) (by kernel_rfl) (by kernel_rfl) h
end
def b6.k:List Nat:= []
section
variable(a:OA)(b:Nat)(d:Nat)(K:KT)(w:World)
def b6.W:Prop:=
 (0<=(b:Int)/\(b:Int)<=(d:Int))/\(0<=(b:Int)/\(b:Int)<=((b:Int).toNat:Int))/\K (.slice (if(b:Int).toNat=0 then a else a.map (·.add (0*32))) ((b:Int).toNat -0) ((b:Int).toNat -0)) w
variable{a b d K w}
theorem b6.of(h:b6.W a b d K w):aY prog 81 #[.slice a b d] w K:=
 aH (C:=b6.k) (c:=body f81) ng mix func81 (by kernel_rfl) (by kernel_rfl) (by kernel_rfl) h
end
def aC.k:List Nat:= []
def aC.q1(K:KT):aJ:=(aK 0 (bY (sR (sR (body f91)))++(aO f91)) (bN (fun bS w_=>match cutAt aC.k (sR (sR (body f91)))with|true=>Holds none [] prog 19 (sR (sR (body f91))) (bG prog f91 K) bS w_|false=>aT none [] prog 19 aC.k (sR (sR (body f91))) (aO f91) (bG prog f91 K) bS w_) (bG prog f91 K)))
def aC.e1(a:OA)(b:Nat)(c:Nat)(d:Addr)(e:Int)(s:Int×Int):Env:= [(0,.slice a b c),(3,.pointer (some d)),(4,.int .i64 s.1),(7,.int .i64 e),(8,.int .i64 s.2)]
def aC.u1:List Nat:= [0,3,4,7,8]
section
variable(a:OA)(b:Nat)(d:Nat)(e:AV)(K:KT)(w:World)
def aC.W:Prop:=
 let f:=w.alloc (.cells e 23);Holds none [] prog 19 (.loop (lB (bB (sR (sL (sR (body f91))))))) (aC.q1 K) [(0,.slice a b d),(3,.pointer (some (⟨w.heap.size,0,none⟩:Addr))),(4,.int .i64 0),(7,.int .i64 (b:Int)),(8,.int .i64 0)] f
variable{a b d e K w}
theorem aC.of(h:aC.W a b d e K w):aY prog 91 #[.slice a b d,.agg e] w K:=
 aH (C:=aC.k) (c:=body f91) ng mix func91 (by kernel_rfl) (by kernel_rfl) (by kernel_rfl) h
end
section
variable(a:OA)(b:Nat)(c:Nat)(d:Addr)(e:Int)(f:Int)(g:Int)(Q:aJ)(w:World)
def aC.B1:Prop:=
 Split (decide (g<f)) (let i:=w.drew;∃j:AV,(j.size=32/\Cells i d j)/\(0<=g/\g<(b:Int))/\Is a fun k:Addr=> ∃m:AV,(m.size=32/\Cells i (k.add (g.toNat*32)) m)/\(eh .u8 32 j/\eh .u8 32 m)/\Split (eK j m) (Q .ret [(0,.slice a b c),(3,.pointer (some d)),(4,.int .i64 g),(7,.int .i64 f),(8,.int .i64 g)] i) (Q .normal [(0,.slice a b c),(3,.pointer (some d)),(4,.int .i64 e),(7,.int .i64 f),(8,.int .i64 (IntKind.i64.wrap (g+(1:Int))))] i)) (Q (.exit 0) [(0,.slice a b c),(3,.pointer (some d)),(4,.int .i64 e),(7,.int .i64 f),(8,.int .i64 g)] w)
theorem aC.b1:(aT none [] prog 19 aC.k (lB (bB (sR (sL (sR (body f91)))))) aC.u1 Q [(0,.slice a b c),(3,.pointer (some d)),(4,.int .i64 e),(7,.int .i64 f),(8,.int .i64 g)] w)=aC.B1 a b c d e f g Q w:=by kernel_rfl
variable{a b c d f}
theorem aC.bU(I:Int×Int->World->Prop)(μ:Int×Int->World->Nat)(s:Int×Int){Q:aJ}{w:World}(h0:I s w)
 (round: ∀s w,I s w->aC.B1 a b c d (s.1) f (s.2) (bF (aC.e1 a b c d f) I μ s w Q) w):Holds none [] prog 19 (.loop (lB (bB (sR (sL (sR (body f91))))))) Q (aC.e1 a b c d f s) w:=
 ba ng mix (aC.e1 a b c d f) I μ aC.k aC.u1 s (fun s Q w=>aC.B1 a b c d (s.1) f (s.2) Q w) (fun s Q w=>aC.b1 a b c d (s.1) f (s.2) Q w) h0 round
end
section
def aC.cW(a:OA)(b:Nat)(c:Nat)(d:Addr)(e:Int)(f:Int)(g:Int)(K:KT)(w:World):Prop:=
 K (.int .i64 (-1)) w
variable(a:OA)(b:Nat)(c:Nat)(d:Addr)(e:Int)(f:Int)(g:Int)(K:KT)(w:World)
theorem aC.dD:(aC.q1 K (.exit 0) [(0,.slice a b c),(3,.pointer (some d)),(4,.int .i64 e),(7,.int .i64 f),(8,.int .i64 g)] w)=aC.cW a b c d e f g K w:=by kernel_rfl
end
def cm.k:List Nat:= []
section
variable(a:AV)(b:Addr)(K:KT)(w:World)
def cm.W:Prop:=
 let d:=w.alloc (.cells a 23);let e:=d.drew;∃f:OA,e.cell? b=some (.pointer f)/\Is f fun g:Addr=> ∃i:OA,e.cell? (g.add 0)=some (.pointer i)/\ ∃j:AV,(j.size=32/\Cells e (⟨w.heap.size,0,none⟩:Addr) j)/\aY prog 79 #[.pointer i,.agg j] e fun k m=> ∃n:Bool,k=.bool n/\K (.bool (!n)) m
variable{a b K w}
theorem cm.of(h:cm.W a b K w):aY prog 92 #[.agg a,.pointer (some b)] w K:=
 aH (C:=cm.k) (c:=body f92) ng mix func92 (by kernel_rfl) (by kernel_rfl) (by kernel_rfl) h
end
def bO.k:List Nat:= []
section
variable(a:AV)(b:Addr)(d:Addr)(K:KT)(w:World)
def bO.W:Prop:=
 let e:=w.alloc (.cells a 23);∃f:OA,e.cell? b=some (.pointer f)/\ ∃g:AV,(g.size=32/\Cells e (⟨w.heap.size,0,none⟩:Addr) g)/\ ∃i:AV,(i.size=32/\Cells e d i)/\aY prog 32 #[.pointer f,.agg g,.agg i] e fun j k=> ∃m:Bool,j=.bool m/\K (.bool m) k
variable{a b d K w}
theorem bO.of(h:bO.W a b d K w):aY prog 104 #[.agg a,.pointer (some b),.pointer (some d)] w K:=
 aH (C:=bO.k) (c:=body f104) ng mix func104 (by kernel_rfl) (by kernel_rfl) (by kernel_rfl) h
end
def br.k:List Nat:= []
section
variable(a:OA)(b:Nat)(d:Nat)(e:Addr)(K:KT)(w:World)
def br.W:Prop:=
 aY prog 113 #[.slice a b d,.func (.func 92) #[] #[.pointer (some e)]] w fun f g=> ∃i:Int,f=.int .i64 i/\K (.bool (decide (i>=(0:Int)))) g
variable{a b d e K w}
theorem br.of(h:br.W a b d e K w):aY prog 85 #[.slice a b d,.func (.func 92) #[] #[.pointer (some e)]] w K:=
 aH (C:=br.k) (c:=body f85) ng mix func85 (by kernel_rfl) (by kernel_rfl) (by kernel_rfl) h
end
def bm.k:List Nat:= []
section
variable(a:OA)(b:Nat)(d:Nat)(e:Addr)(f:Addr)(K:KT)(w:World)
def bm.W:Prop:=
 aY prog 113 #[.slice a b d,.func (.func 104) #[] #[.pointer (some e),.pointer (some f)]] w fun g i=> ∃j:Int,g=.int .i64 j/\K (.bool (decide (j>=(0:Int)))) i
variable{a b d e f K w}
theorem bm.of(h:bm.W a b d e f K w):aY prog 85 #[.slice a b d,.func (.func 104) #[] #[.pointer (some e),.pointer (some f)]] w K:=
 aH (C:=bm.k) (c:=body f85) ng mix func85 (by kernel_rfl) (by kernel_rfl) (by kernel_rfl) h
end
def ak.k:List Nat:= []
def ak.q1(K:KT):aJ:=(aK 0 (bY (sR (sR (body f113)))++(aO f113)) (bN (fun bS w_=>match cutAt ak.k (sR (sR (body f113)))with|true=>Holds none [] prog 19 (sR (sR (body f113))) (bG prog f113 K) bS w_|false=>aT none [] prog 19 ak.k (sR (sR (body f113))) (aO f113) (bG prog f113 K) bS w_) (bG prog f113 K)))
def ak.e1(a:OA)(b:Nat)(c:Nat)(d:Addr)(e:Int)(s:Int×Int):Env:= [(0,.slice a b c),(1,.func (.func 92) #[] #[.pointer (some d)]),(4,.int .i64 s.1),(7,.int .i64 e),(8,.int .i64 s.2)]
def ak.u1:List Nat:= [0,1,4,7,8]
section
variable(a:OA)(b:Nat)(d:Nat)(e:Addr)(K:KT)(w:World)
def ak.W:Prop:=
 Holds none [] prog 19 (.loop (lB (bB (sR (sL (sR (body f113))))))) (ak.q1 K) [(0,.slice a b d),(1,.func (.func 92) #[] #[.pointer (some e)]),(4,.int .i64 0),(7,.int .i64 (b:Int)),(8,.int .i64 0)] w
variable{a b d e K w}
theorem ak.of(h:ak.W a b d e K w):aY prog 113 #[.slice a b d,.func (.func 92) #[] #[.pointer (some e)]] w K:=
 aH (C:=ak.k) (c:=body f113) ng mix func113 (by kernel_rfl) (by kernel_rfl) (by kernel_rfl) h
end
section
variable(a:OA)(b:Nat)(c:Nat)(d:Addr)(e:Int)(f:Int)(g:Int)(Q:aJ)(w:World)
def ak.B1:Prop:=
 Split (decide (g<f)) ((0<=g/\g<(b:Int))/\Is a fun i:Addr=> ∃j:AV,(j.size=32/\Cells w (i.add (g.toNat*32)) j)/\aY prog 92 #[.agg j,.pointer (some d)] w fun k m=> ∃n:Bool,k=.bool n/\Split n (Q .ret [(0,.slice a b c),(1,.func (.func 92) #[] #[.pointer (some d)]),(4,.int .i64 g),(7,.int .i64 f),(8,.int .i64 g)] m) (Q .normal [(0,.slice a b c),(1,.func (.func 92) #[] #[.pointer (some d)]),(4,.int .i64 e),(7,.int .i64 f),(8,.int .i64 (IntKind.i64.wrap (g+(1:Int))))] m)) (Q (.exit 0) [(0,.slice a b c),(1,.func (.func 92) #[] #[.pointer (some d)]),(4,.int .i64 e),(7,.int .i64 f),(8,.int .i64 g)] w)
theorem ak.b1:(aT none [] prog 19 ak.k (lB (bB (sR (sL (sR (body f113)))))) ak.u1 Q [(0,.slice a b c),(1,.func (.func 92) #[] #[.pointer (some d)]),(4,.int .i64 e),(7,.int .i64 f),(8,.int .i64 g)] w)=ak.B1 a b c d e f g Q w:=by kernel_rfl
variable{a b c d f}
theorem ak.bU(I:Int×Int->World->Prop)(μ:Int×Int->World->Nat)(s:Int×Int){Q:aJ}{w:World}(h0:I s w)
 (round: ∀s w,I s w->ak.B1 a b c d (s.1) f (s.2) (bF (ak.e1 a b c d f) I μ s w Q) w):Holds none [] prog 19 (.loop (lB (bB (sR (sL (sR (body f113))))))) Q (ak.e1 a b c d f s) w:=
 ba ng mix (ak.e1 a b c d f) I μ ak.k ak.u1 s (fun s Q w=>ak.B1 a b c d (s.1) f (s.2) Q w) (fun s Q w=>ak.b1 a b c d (s.1) f (s.2) Q w) h0 round
end
section
def ak.cW(a:OA)(b:Nat)(c:Nat)(d:Addr)(e:Int)(f:Int)(g:Int)(K:KT)(w:World):Prop:=
 K (.int .i64 (-1)) w
variable(a:OA)(b:Nat)(c:Nat)(d:Addr)(e:Int)(f:Int)(g:Int)(K:KT)(w:World)
theorem ak.dD:(ak.q1 K (.exit 0) [(0,.slice a b c),(1,.func (.func 92) #[] #[.pointer (some d)]),(4,.int .i64 e),(7,.int .i64 f),(8,.int .i64 g)] w)=ak.cW a b c d e f g K w:=by kernel_rfl
end
def ah.k:List Nat:= []
def ah.q1(K:KT):aJ:=(aK 0 (bY (sR (sR (body f113)))++(aO f113)) (bN (fun bS w_=>match cutAt ah.k (sR (sR (body f113)))with|true=>Holds none [] prog 19 (sR (sR (body f113))) (bG prog f113 K) bS w_|false=>aT none [] prog 19 ah.k (sR (sR (body f113))) (aO f113) (bG prog f113 K) bS w_) (bG prog f113 K)))
def ah.e1(a:OA)(b:Nat)(c:Nat)(d:Addr)(e:Addr)(f:Int)(s:Int×Int):Env:= [(0,.slice a b c),(1,.func (.func 104) #[] #[.pointer (some d),.pointer (some e)]),(4,.int .i64 s.1),(7,.int .i64 f),(8,.int .i64 s.2)]
def ah.u1:List Nat:= [0,1,4,7,8]
section
variable(a:OA)(b:Nat)(d:Nat)(e:Addr)(f:Addr)(K:KT)(w:World)
def ah.W:Prop:=
 Holds none [] prog 19 (.loop (lB (bB (sR (sL (sR (body f113))))))) (ah.q1 K) [(0,.slice a b d),(1,.func (.func 104) #[] #[.pointer (some e),.pointer (some f)]),(4,.int .i64 0),(7,.int .i64 (b:Int)),(8,.int .i64 0)] w
variable{a b d e f K w}
theorem ah.of(h:ah.W a b d e f K w):aY prog 113 #[.slice a b d,.func (.func 104) #[] #[.pointer (some e),.pointer (some f)]] w K:=
 aH (C:=ah.k) (c:=body f113) ng mix func113 (by kernel_rfl) (by kernel_rfl) (by kernel_rfl) h
end
section
variable(a:OA)(b:Nat)(c:Nat)(d:Addr)(e:Addr)(f:Int)(g:Int)(i:Int)(Q:aJ)(w:World)
def ah.B1:Prop:=
 Split (decide (i<g)) ((0<=i/\i<(b:Int))/\Is a fun j:Addr=> ∃k:AV,(k.size=32/\Cells w (j.add (i.toNat*32)) k)/\aY prog 104 #[.agg k,.pointer (some d),.pointer (some e)] w fun m n=> ∃o:Bool,m=.bool o/\Split o (Q .ret [(0,.slice a b c),(1,.func (.func 104) #[] #[.pointer (some d),.pointer (some e)]),(4,.int .i64 i),(7,.int .i64 g),(8,.int .i64 i)] n) (Q .normal [(0,.slice a b c),(1,.func (.func 104) #[] #[.pointer (some d),.pointer (some e)]),(4,.int .i64 f),(7,.int .i64 g),(8,.int .i64 (IntKind.i64.wrap (i+(1:Int))))] n)) (Q (.exit 0) [(0,.slice a b c),(1,.func (.func 104) #[] #[.pointer (some d),.pointer (some e)]),(4,.int .i64 f),(7,.int .i64 g),(8,.int .i64 i)] w)
theorem ah.b1:(aT none [] prog 19 ah.k (lB (bB (sR (sL (sR (body f113)))))) ah.u1 Q [(0,.slice a b c),(1,.func (.func 104) #[] #[.pointer (some d),.pointer (some e)]),(4,.int .i64 f),(7,.int .i64 g),(8,.int .i64 i)] w)=ah.B1 a b c d e f g i Q w:=by kernel_rfl
variable{a b c d e g}
theorem ah.bU(I:Int×Int->World->Prop)(μ:Int×Int->World->Nat)(s:Int×Int){Q:aJ}{w:World}(h0:I s w)
 (round: ∀s w,I s w->ah.B1 a b c d e (s.1) g (s.2) (bF (ah.e1 a b c d e g) I μ s w Q) w):Holds none [] prog 19 (.loop (lB (bB (sR (sL (sR (body f113))))))) Q (ah.e1 a b c d e g s) w:=
 ba ng mix (ah.e1 a b c d e g) I μ ah.k ah.u1 s (fun s Q w=>ah.B1 a b c d e (s.1) g (s.2) Q w) (fun s Q w=>ah.b1 a b c d e (s.1) g (s.2) Q w) h0 round
end
section
def ah.cW(a:OA)(b:Nat)(c:Nat)(d:Addr)(e:Addr)(f:Int)(g:Int)(i:Int)(K:KT)(w:World):Prop:=
 K (.int .i64 (-1)) w
variable(a:OA)(b:Nat)(c:Nat)(d:Addr)(e:Addr)(f:Int)(g:Int)(i:Int)(K:KT)(w:World)
theorem ah.dD:(ah.q1 K (.exit 0) [(0,.slice a b c),(1,.func (.func 104) #[] #[.pointer (some d),.pointer (some e)]),(4,.int .i64 f),(7,.int .i64 g),(8,.int .i64 i)] w)=ah.cW a b c d e f g i K w:=by kernel_rfl
end
def aI.k:List Nat:= []
def aI.q1(K:KT):aJ:=(aK 0 (aO f89) (bG prog f89 K))
def aI.e1(a:Nat)(b:Addr)(s:Int):Env:= [(0,.func (.yield a) #[] #[]),(1,.pointer (some b)),(4,.int .i64 s)]
def aI.u1:List Nat:= [0,1,4]
section
variable(a:Nat)(b:Addr)(d:Addr)(K:KT)(w:World)
def aI.W:Prop:=
 ∃e:OA,w.cell? b=some (.pointer e)/\ ∃f:AV,(f.size=32/\Cells w d f)/\f.size=32/\let g:=w.alloc (.cells (f.toList++ []).toArray 23);aY prog 55 #[.pointer e,.slice (some (⟨w.heap.size,0,none⟩:Addr)) 1 1] g fun i j=> ∃k:Bool,i=.bool k/\Split (!k) (K (.tuple #[]) j) (let m:=j.drew;∃n:OA,m.cell? b=some (.pointer n)/\Is n fun o:Addr=> ∃p:Option Nat,m.cell? (o.add 2)=some (.map p)/\ ∃q:AV,(q.size=32/\Cells m d q)/\ ∃r:Int,(Instr.lookup 89 (.map p) (.agg q) false).run prog m=.ok (.int .i64 r) m/\Holds none [] prog 38 (.loop (lB (bB (sR (sR (body f89)))))) (aI.q1 K) [(0,.func (.yield a) #[] #[]),(1,.pointer (some b)),(4,.int .i64 r)] m)
variable{a b d K w}
theorem aI.of(h:aI.W a b d K w):aY prog 89 #[.func (.yield a) #[] #[],.pointer (some b),.pointer (some d)] w K:=
 aH (C:=aI.k) (c:=body f89) ng mix func89 (by kernel_rfl) (by kernel_rfl) (by kernel_rfl) h
end
section
variable(a:Nat)(b:Addr)(c:Int)(Q:aJ)(w:World)
def aI.B1:Prop:=
 ∃d:OA,w.cell? b=some (.pointer d)/\Is d fun e:Addr=> ∃f:OA,∃g:Nat,∃i:Nat,w.cell? (e.add 3)=some (.slice f g i)/\(0<=c/\c<(g:Int))/\Is f fun j:Addr=> ∃k:AV,(k.size=32/\Cells w (j.add (c.toNat*32)) k)/\ie prog a #[.agg k] w fun m n=>Split m (Split (decide (c>(0:Int))) (∃o:OA,n.cell? b=some (.pointer o)/\Is o fun p:Addr=> ∃q:OA,n.cell? (p.add 1)=some (.pointer q)/\aY prog 90 #[.pointer q,.int .i64 c] n fun r t=> ∃u:Int,∃v:Int,r=.tuple #[.int .i64 u,.int .i64 v]/\Q .normal [(0,.func (.yield a) #[] #[]),(1,.pointer (some b)),(4,.int .i64 u)] t) (Q (.exit 0) [(0,.func (.yield a) #[] #[]),(1,.pointer (some b)),(4,.int .i64 c)] n)) (Q (.exit 0) [(0,.func (.yield a) #[] #[]),(1,.pointer (some b)),(4,.int .i64 c)] n)
theorem aI.b1:(aT none [] prog 38 aI.k (lB (bB (sR (sR (body f89))))) aI.u1 Q [(0,.func (.yield a) #[] #[]),(1,.pointer (some b)),(4,.int .i64 c)] w)=aI.B1 a b c Q w:=by kernel_rfl
variable{a b}
theorem aI.bU(I:Int->World->Prop)(μ:Int->World->Nat)(s:Int){Q:aJ}{w:World}(h0:I s w)
 (round: ∀s w,I s w->aI.B1 a b s (bF (aI.e1 a b) I μ s w Q) w):Holds none [] prog 38 (.loop (lB (bB (sR (sR (body f89)))))) Q (aI.e1 a b s) w:=
 ba ng mix (aI.e1 a b) I μ aI.k aI.u1 s (fun s Q w=>aI.B1 a b s Q w) (fun s Q w=>aI.b1 a b s Q w) h0 round
end
section
def aI.cW(a:Nat)(b:Addr)(c:Int)(K:KT)(w:World):Prop:=
 K (.tuple #[]) w
variable(a:Nat)(b:Addr)(c:Int)(K:KT)(w:World)
theorem aI.dD:(aI.q1 K (.exit 0) [(0,.func (.yield a) #[] #[]),(1,.pointer (some b)),(4,.int .i64 c)] w)=aI.cW a b c K w:=by kernel_rfl
end
end Go.Proofs.YtnboahlopghcjaaGreatDoor
