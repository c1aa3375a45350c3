import Derived.Test.YtnboahlopghcjaaGreatDoorProg
import Derived.Test.YtnboahlopghcjaaGreatDoorMA
import Derived.Test.YtnboahlopghcjaaGreatDoorMB
open Go.IntKind (i64 u64)
set_option linter.unusedVariables false
namespace Go.Proofs.YtnboahlopghcjaaGreatDoor
open Go.Proofs.Tryz
open Go Go.bP
def dP.k:List Nat:= []
section
variable(a:OA)(b d:AV)(K:KT)(w:World)
def dP.W:Prop:=
 let e:=w.alloc (.cells b 23);let f:=e.alloc (.cells d 23);let g:=f.drew;∃i:AV,(i.size=32/\Cells g (⟨w.heap.size,0,none⟩:Addr) i)/\∃j:AV,(j.size=32/\Cells g (⟨e.heap.size,0,none⟩:Addr) j)/\i.size=32/\j.size=32/\let k:=g.alloc (.cells (i.toList++(j.toList++([]))).toArray 23);bj prog 55 #[.pointer a,.slice (some (⟨g.heap.size,0,none⟩:Addr)) 2 2] k fun m n=>∃o:Bool,m=.bool o/\Split o (Is a fun p:Addr=>∃q:OA,n.cell? (p.add 1)=some (.pointer q)/\Is a fun r:Addr=>∃t:Option Nat,n.cell? (r.add 2)=some (.map t)/\∃u:AV,(u.size=32/\Cells n (⟨e.heap.size,0,none⟩:Addr) u)/\∃v:Int,(Instr.lookup 89 (.map t) (.agg u) false).run prog n=.ok (.int .i64 v) n/\Is a fun x:Addr=>∃y:Option Nat,n.cell? (x.add 2)=some (.map y)/\∃z:AV,(z.size=32/\Cells n (⟨w.heap.size,0,none⟩:Addr) z)/\∃a1:Int,(Instr.lookup 89 (.map y) (.agg z) false).run prog n=.ok (.int .i64 a1) n/\bj prog 56 #[.pointer q,.int .i64 v,.int .i64 a1] n fun b1 c1=>∃d1:Bool,b1=.bool d1/\K (.bool d1) c1) (K (.bool false) n)
variable{a b d K w}
theorem dP.of(h:dP.W a b d K w):bj prog 32 #[.pointer a,.agg b,.agg d] w K:=
 rqq func32 (C:=dP.k) h
end
def gv.k:List Nat:= []
section
variable(a:OA)(K:KT)(w:World)
def gv.W:Prop:=
 Split ((a).isNone) (K (.pointer none) w) (Is a fun b:Addr=>∃d:OA,w.cell? (b.add 0)=some (.pointer d)/\K (.pointer d) w)
variable{a K w}
theorem gv.of(h:gv.W a K w):bj prog 35 #[.pointer a] w K:=
 rqq func35 (C:=gv.k) h
end
def au.k:List Nat:= []
def au.N1(a b:OA)(c d e:World)(K:KT)(f:World):Prop:=
 let g:=f.alloc (.cells (#[.pointer a,.pointer b,.map (some c.heap.size),.slice (some (⟨d.heap.size,0,none⟩:Addr)) 1 1,.map (some e.heap.size)]:AV) 109);K (.pointer (some (⟨f.heap.size,0,none⟩:Addr))) g
def au.N2(a b:OA)(c d:World)(K:KT)(e:World):Prop:=
 let f:=e.alloc (.map #[] 0);au.N1 a b c d e K f
def au.N3(a:AV)(b c:OA)(d e:World)(K:KT)(f:World):Prop:=
 a.size=32/\let g:=f.alloc (.cells (a.toList++ []).toArray 23);au.N1 b c d f e K g
def au.N4(a:AV)(b c:OA)(d w:World)(K:KT)(e:World):Prop:=
 (a.size=32/\let f:=e.alloc (.cells (a.toList++ []).toArray 23);au.N2 b c d e K f)/\(let g:=e.alloc (.map #[] 0);(∃cs:AV,(.agg a:Value)=.agg cs/\cs.size=32/\Cells g (⟨w.heap.size,0,none⟩:Addr) cs)/\au.N3 a b c d e K g)
def au.N5(a:World)(b:AV)(c d:OA)(e f:World)(K:KT)(g:World):Prop:=
 ∃i:World,(Instr.mapUpdate 89 (.map (some a.heap.size)) (.agg b) (.int .i64 0)).run prog g=.ok () i/\au.N1 c d a e f K i
def au.N6(a:World)(b:AV)(c d:OA)(e w:World)(K:KT)(f:World):Prop:=
 (∃g:World,(Instr.mapUpdate 89 (.map (some a.heap.size)) (.agg b) (.int .i64 0)).run prog f=.ok () g/\au.N2 c d a e K g)/\(let i:=f.alloc (.map #[] 0);(∃cs:AV,(.agg b:Value)=.agg cs/\cs.size=32/\Cells i (⟨w.heap.size,0,none⟩:Addr) cs)/\au.N5 a b c d e f K i)
def au.N7(a:World)(b c:AV)(w:World)(d e:OA)(f:World)(K:KT)(g:World):Prop:=
 (∃i:World,(Instr.mapUpdate 89 (.map (some a.heap.size)) (.agg b) (.int .i64 0)).run prog g=.ok () i/\(∃cs:AV,(.agg c:Value)=.agg cs/\cs.size=32/\Cells i (⟨w.heap.size,0,none⟩:Addr) cs)/\au.N3 c d e a f K i)/\(c.size=32/\let j:=g.alloc (.cells (c.toList++ []).toArray 23);(∃cs:AV,(.agg b:Value)=.agg cs/\cs.size=32/\Cells j (⟨w.heap.size,0,none⟩:Addr) cs)/\au.N5 a b d e g f K j)
def au.N8(a:World)(b c:AV)(w:World)(d e:OA)(K:KT)(f:World):Prop:=
 (∃g:World,(Instr.mapUpdate 89 (.map (some a.heap.size)) (.agg b) (.int .i64 0)).run prog f=.ok () g/\(∃cs:AV,(.agg c:Value)=.agg cs/\cs.size=32/\Cells g (⟨w.heap.size,0,none⟩:Addr) cs)/\au.N4 c d e a w K g)/\(c.size=32/\let i:=f.alloc (.cells (c.toList++ []).toArray 23);(∃cs:AV,(.agg b:Value)=.agg cs/\cs.size=32/\Cells i (⟨w.heap.size,0,none⟩:Addr) cs)/\au.N6 a b d e f w K i)/\(let j:=f.alloc (.map #[] 0);(∃cs:AV,(.agg c:Value)=.agg cs/\cs.size=32/\Cells j (⟨w.heap.size,0,none⟩:Addr) cs)/\(∃cs:AV,(.agg b:Value)=.agg cs/\cs.size=32/\Cells j (⟨w.heap.size,0,none⟩:Addr) cs)/\au.N7 a b c w d e f K j)
def au.N9(a:AV)(w:World)(b c:OA)(d e:World)(K:KT)(f:World):Prop:=
 let g:=f.alloc (.map #[] 0);(∃cs:AV,(.agg a:Value)=.agg cs/\cs.size=32/\Cells g (⟨w.heap.size,0,none⟩:Addr) cs)/\au.N5 f a b c d e K g
def au.QK(a:AV)(w:World)(b c:OA)(d:World)(K:KT)(e:World):Prop:=
 (let f:=e.alloc (.map #[] 0);(∃cs:AV,(.agg a:Value)=.agg cs/\cs.size=32/\Cells f (⟨w.heap.size,0,none⟩:Addr) cs)/\au.N6 e a b c d w K f)/\(let g:=e.alloc (.map #[] 0);(∃cs:AV,(.agg a:Value)=.agg cs/\cs.size=32/\Cells g (⟨w.heap.size,0,none⟩:Addr) cs)/\au.N9 a w b c d e K g)
def au.Xe(a:AV)(w:World)(b:AV)(c d:OA)(e:World)(K:KT)(f:World):Prop:=
 (let g:=f.alloc (.map #[] 0);(∃cs:AV,(.agg a:Value)=.agg cs/\cs.size=32/\Cells g (⟨w.heap.size,0,none⟩:Addr) cs)/\(∃cs:AV,(.agg b:Value)=.agg cs/\cs.size=32/\Cells g (⟨w.heap.size,0,none⟩:Addr) cs)/\au.N7 f b a w c d e K g)/\(a.size=32/\let i:=f.alloc (.cells (a.toList++ []).toArray 23);(∃cs:AV,(.agg b:Value)=.agg cs/\cs.size=32/\Cells i (⟨w.heap.size,0,none⟩:Addr) cs)/\au.N9 b w c d f e K i)
def au.PK(a:AV)(w:World)(b:AV)(c d:OA)(K:KT)(e:World):Prop:=
 (let f:=e.alloc (.map #[] 0);(∃cs:AV,(.agg a:Value)=.agg cs/\cs.size=32/\Cells f (⟨w.heap.size,0,none⟩:Addr) cs)/\(∃cs:AV,(.agg b:Value)=.agg cs/\cs.size=32/\Cells f (⟨w.heap.size,0,none⟩:Addr) cs)/\au.N8 e b a w c d K f)/\(a.size=32/\let g:=e.alloc (.cells (a.toList++ []).toArray 23);(∃cs:AV,(.agg b:Value)=.agg cs/\cs.size=32/\Cells g (⟨w.heap.size,0,none⟩:Addr) cs)/\au.QK b w c d e K g)/\(let i:=e.alloc (.map #[] 0);(∃cs:AV,(.agg a:Value)=.agg cs/\cs.size=32/\Cells i (⟨w.heap.size,0,none⟩:Addr) cs)/\(∃cs:AV,(.agg b:Value)=.agg cs/\cs.size=32/\Cells i (⟨w.heap.size,0,none⟩:Addr) cs)/\au.Xe a w b c d e K i)
def au.KO(a:OA)(b c d:World)(K:KT)(e:World):Prop:=
 bj prog 65 #[] e fun f g=>∃i:OA,f=.pointer i/\au.N1 a i b c d K g
def au.PJ(a:OA)(b c:World)(K:KT)(d:World):Prop:=
 (bj prog 65 #[] d fun e f=>∃g:OA,e=.pointer g/\au.N2 a g b c K f)/\(let i:=d.alloc (.map #[] 0);au.KO a b c d K i)
def au.VO(a:AV)(w:World)(b:OA)(c d:World)(K:KT)(e:World):Prop:=
 (bj prog 65 #[] e fun f g=>∃i:OA,f=.pointer i/\(∃cs:AV,(.agg a:Value)=.agg cs/\cs.size=32/\Cells g (⟨w.heap.size,0,none⟩:Addr) cs)/\au.N3 a b i c d K g)/\(a.size=32/\let j:=e.alloc (.cells (a.toList++ []).toArray 23);au.KO b c e d K j)
def au.QJ(a:AV)(w:World)(b:OA)(c:World)(K:KT)(d:World):Prop:=
 (bj prog 65 #[] d fun e f=>∃g:OA,e=.pointer g/\(∃cs:AV,(.agg a:Value)=.agg cs/\cs.size=32/\Cells f (⟨w.heap.size,0,none⟩:Addr) cs)/\au.N4 a b g c w K f)/\(a.size=32/\let i:=d.alloc (.cells (a.toList++ []).toArray 23);au.PJ b c d K i)/\(let j:=d.alloc (.map #[] 0);(∃cs:AV,(.agg a:Value)=.agg cs/\cs.size=32/\Cells j (⟨w.heap.size,0,none⟩:Addr) cs)/\au.VO a w b c d K j)
def au.QI(a:AV)(w b:World)(c:OA)(d e:World)(K:KT)(f:World):Prop:=
 (bj prog 65 #[] f fun g i=>∃j:OA,g=.pointer j/\(∃cs:AV,(.agg a:Value)=.agg cs/\cs.size=32/\Cells i (⟨w.heap.size,0,none⟩:Addr) cs)/\au.N5 b a c j d e K i)/\(∃k:World,(Instr.mapUpdate 89 (.map (some b.heap.size)) (.agg a) (.int .i64 0)).run prog f=.ok () k/\au.KO c b d e K k)
def au.VN(a:AV)(w b:World)(c:OA)(d:World)(K:KT)(e:World):Prop:=
 (bj prog 65 #[] e fun f g=>∃i:OA,f=.pointer i/\(∃cs:AV,(.agg a:Value)=.agg cs/\cs.size=32/\Cells g (⟨w.heap.size,0,none⟩:Addr) cs)/\au.N6 b a c i d w K g)/\(∃j:World,(Instr.mapUpdate 89 (.map (some b.heap.size)) (.agg a) (.int .i64 0)).run prog e=.ok () j/\au.PJ c b d K j)/\(let k:=e.alloc (.map #[] 0);(∃cs:AV,(.agg a:Value)=.agg cs/\cs.size=32/\Cells k (⟨w.heap.size,0,none⟩:Addr) cs)/\au.QI a w b c d e K k)
def au.IT(a:AV)(w:World)(b:AV)(c:World)(d:OA)(e:World)(K:KT)(f:World):Prop:=
 (bj prog 65 #[] f fun g i=>∃j:OA,g=.pointer j/\(∃cs:AV,(.agg a:Value)=.agg cs/\cs.size=32/\Cells i (⟨w.heap.size,0,none⟩:Addr) cs)/\(∃cs:AV,(.agg b:Value)=.agg cs/\cs.size=32/\Cells i (⟨w.heap.size,0,none⟩:Addr) cs)/\au.N7 c b a w d j e K i)/\(∃k:World,(Instr.mapUpdate 89 (.map (some c.heap.size)) (.agg b) (.int .i64 0)).run prog f=.ok () k/\(∃cs:AV,(.agg a:Value)=.agg cs/\cs.size=32/\Cells k (⟨w.heap.size,0,none⟩:Addr) cs)/\au.VO a w d c e K k)/\(a.size=32/\let m:=f.alloc (.cells (a.toList++ []).toArray 23);(∃cs:AV,(.agg b:Value)=.agg cs/\cs.size=32/\Cells m (⟨w.heap.size,0,none⟩:Addr) cs)/\au.QI b w c d f e K m)
def au.Mn(a:AV)(w:World)(b:AV)(c:World)(d:OA)(K:KT)(e:World):Prop:=
 (bj prog 65 #[] e fun f g=>∃i:OA,f=.pointer i/\(∃cs:AV,(.agg a:Value)=.agg cs/\cs.size=32/\Cells g (⟨w.heap.size,0,none⟩:Addr) cs)/\(∃cs:AV,(.agg b:Value)=.agg cs/\cs.size=32/\Cells g (⟨w.heap.size,0,none⟩:Addr) cs)/\au.N8 c b a w d i K g)/\(∃j:World,(Instr.mapUpdate 89 (.map (some c.heap.size)) (.agg b) (.int .i64 0)).run prog e=.ok () j/\(∃cs:AV,(.agg a:Value)=.agg cs/\cs.size=32/\Cells j (⟨w.heap.size,0,none⟩:Addr) cs)/\au.QJ a w d c K j)/\(a.size=32/\let k:=e.alloc (.cells (a.toList++ []).toArray 23);(∃cs:AV,(.agg b:Value)=.agg cs/\cs.size=32/\Cells k (⟨w.heap.size,0,none⟩:Addr) cs)/\au.VN b w c d e K k)/\(let m:=e.alloc (.map #[] 0);(∃cs:AV,(.agg a:Value)=.agg cs/\cs.size=32/\Cells m (⟨w.heap.size,0,none⟩:Addr) cs)/\(∃cs:AV,(.agg b:Value)=.agg cs/\cs.size=32/\Cells m (⟨w.heap.size,0,none⟩:Addr) cs)/\au.IT a w b c d e K m)
def au.Mm(a:AV)(w:World)(b:OA)(c d:World)(K:KT)(e:World):Prop:=
 (bj prog 65 #[] e fun f g=>∃i:OA,f=.pointer i/\(∃cs:AV,(.agg a:Value)=.agg cs/\cs.size=32/\Cells g (⟨w.heap.size,0,none⟩:Addr) cs)/\au.N9 a w b i c d K g)/\(let j:=e.alloc (.map #[] 0);(∃cs:AV,(.agg a:Value)=.agg cs/\cs.size=32/\Cells j (⟨w.heap.size,0,none⟩:Addr) cs)/\au.QI a w e b c d K j)
def au.QH(a:AV)(w:World)(b:OA)(c:World)(K:KT)(d:World):Prop:=
 (bj prog 65 #[] d fun e f=>∃g:OA,e=.pointer g/\(∃cs:AV,(.agg a:Value)=.agg cs/\cs.size=32/\Cells f (⟨w.heap.size,0,none⟩:Addr) cs)/\au.QK a w b g c K f)/\(let i:=d.alloc (.map #[] 0);(∃cs:AV,(.agg a:Value)=.agg cs/\cs.size=32/\Cells i (⟨w.heap.size,0,none⟩:Addr) cs)/\au.VN a w d b c K i)/\(let j:=d.alloc (.map #[] 0);(∃cs:AV,(.agg a:Value)=.agg cs/\cs.size=32/\Cells j (⟨w.heap.size,0,none⟩:Addr) cs)/\au.Mm a w b c d K j)
def au.Xd(a:AV)(w:World)(b:AV)(c:OA)(d:World)(K:KT)(e:World):Prop:=
 (bj prog 65 #[] e fun f g=>∃i:OA,f=.pointer i/\(∃cs:AV,(.agg a:Value)=.agg cs/\cs.size=32/\Cells g (⟨w.heap.size,0,none⟩:Addr) cs)/\(∃cs:AV,(.agg b:Value)=.agg cs/\cs.size=32/\Cells g (⟨w.heap.size,0,none⟩:Addr) cs)/\au.Xe a w b c i d K g)/\(let j:=e.alloc (.map #[] 0);(∃cs:AV,(.agg a:Value)=.agg cs/\cs.size=32/\Cells j (⟨w.heap.size,0,none⟩:Addr) cs)/\(∃cs:AV,(.agg b:Value)=.agg cs/\cs.size=32/\Cells j (⟨w.heap.size,0,none⟩:Addr) cs)/\au.IT a w b e c d K j)/\(a.size=32/\let k:=e.alloc (.cells (a.toList++ []).toArray 23);(∃cs:AV,(.agg b:Value)=.agg cs/\cs.size=32/\Cells k (⟨w.heap.size,0,none⟩:Addr) cs)/\au.Mm b w c e d K k)
def au.VM(a:AV)(w:World)(b:AV)(c:OA)(K:KT)(d:World):Prop:=
 (bj prog 65 #[] d fun e f=>∃g:OA,e=.pointer g/\(∃cs:AV,(.agg a:Value)=.agg cs/\cs.size=32/\Cells f (⟨w.heap.size,0,none⟩:Addr) cs)/\(∃cs:AV,(.agg b:Value)=.agg cs/\cs.size=32/\Cells f (⟨w.heap.size,0,none⟩:Addr) cs)/\au.PK a w b c g K f)/\(let i:=d.alloc (.map #[] 0);(∃cs:AV,(.agg a:Value)=.agg cs/\cs.size=32/\Cells i (⟨w.heap.size,0,none⟩:Addr) cs)/\(∃cs:AV,(.agg b:Value)=.agg cs/\cs.size=32/\Cells i (⟨w.heap.size,0,none⟩:Addr) cs)/\au.Mn a w b d c K i)/\(a.size=32/\let j:=d.alloc (.cells (a.toList++ []).toArray 23);(∃cs:AV,(.agg b:Value)=.agg cs/\cs.size=32/\Cells j (⟨w.heap.size,0,none⟩:Addr) cs)/\au.QH b w c d K j)/\(let k:=d.alloc (.map #[] 0);(∃cs:AV,(.agg a:Value)=.agg cs/\cs.size=32/\Cells k (⟨w.heap.size,0,none⟩:Addr) cs)/\(∃cs:AV,(.agg b:Value)=.agg cs/\cs.size=32/\Cells k (⟨w.heap.size,0,none⟩:Addr) cs)/\au.Xd a w b c d K k)
def au.VL(a:AV)(b c d:World)(K:KT)(e:World):Prop:=
 bj prog 64 #[.agg a] e fun f g=>∃i:OA,f=.pointer i/\au.KO i b c d K g
def au.Xc(a:AV)(b c w:World)(K:KT)(d:World):Prop:=
 (bj prog 64 #[.agg a] d fun e f=>∃g:OA,e=.pointer g/\au.PJ g b c K f)/\(let i:=d.alloc (.map #[] 0);(∃cs:AV,(.agg a:Value)=.agg cs/\cs.size=32/\Cells i (⟨w.heap.size,0,none⟩:Addr) cs)/\au.VL a b c d K i)
def au.PI(a b:AV)(w c d:World)(K:KT)(e:World):Prop:=
 (bj prog 64 #[.agg a] e fun f g=>∃i:OA,f=.pointer i/\(∃cs:AV,(.agg b:Value)=.agg cs/\cs.size=32/\Cells g (⟨w.heap.size,0,none⟩:Addr) cs)/\au.VO b w i c d K g)/\(b.size=32/\let j:=e.alloc (.cells (b.toList++ []).toArray 23);(∃cs:AV,(.agg a:Value)=.agg cs/\cs.size=32/\Cells j (⟨w.heap.size,0,none⟩:Addr) cs)/\au.VL a c e d K j)
def au.N28(a b:AV)(w c:World)(K:KT)(d:World):Prop:=
 (bj prog 64 #[.agg a] d fun e f=>∃g:OA,e=.pointer g/\(∃cs:AV,(.agg b:Value)=.agg cs/\cs.size=32/\Cells f (⟨w.heap.size,0,none⟩:Addr) cs)/\au.QJ b w g c K f)/\(b.size=32/\let i:=d.alloc (.cells (b.toList++ []).toArray 23);(∃cs:AV,(.agg a:Value)=.agg cs/\cs.size=32/\Cells i (⟨w.heap.size,0,none⟩:Addr) cs)/\au.Xc a c d w K i)/\(let j:=d.alloc (.map #[] 0);(∃cs:AV,(.agg b:Value)=.agg cs/\cs.size=32/\Cells j (⟨w.heap.size,0,none⟩:Addr) cs)/\(∃cs:AV,(.agg a:Value)=.agg cs/\cs.size=32/\Cells j (⟨w.heap.size,0,none⟩:Addr) cs)/\au.PI a b w c d K j)
def au.VK(a b:AV)(w c d e:World)(K:KT)(f:World):Prop:=
 (bj prog 64 #[.agg a] f fun g i=>∃j:OA,g=.pointer j/\(∃cs:AV,(.agg b:Value)=.agg cs/\cs.size=32/\Cells i (⟨w.heap.size,0,none⟩:Addr) cs)/\au.QI b w c j d e K i)/\(∃k:World,(Instr.mapUpdate 89 (.map (some c.heap.size)) (.agg b) (.int .i64 0)).run prog f=.ok () k/\(∃cs:AV,(.agg a:Value)=.agg cs/\cs.size=32/\Cells k (⟨w.heap.size,0,none⟩:Addr) cs)/\au.VL a c d e K k)
def au.Xb(a b:AV)(w c d:World)(K:KT)(e:World):Prop:=
 (bj prog 64 #[.agg a] e fun f g=>∃i:OA,f=.pointer i/\(∃cs:AV,(.agg b:Value)=.agg cs/\cs.size=32/\Cells g (⟨w.heap.size,0,none⟩:Addr) cs)/\au.VN b w c i d K g)/\(∃j:World,(Instr.mapUpdate 89 (.map (some c.heap.size)) (.agg b) (.int .i64 0)).run prog e=.ok () j/\(∃cs:AV,(.agg a:Value)=.agg cs/\cs.size=32/\Cells j (⟨w.heap.size,0,none⟩:Addr) cs)/\au.Xc a c d w K j)/\(let k:=e.alloc (.map #[] 0);(∃cs:AV,(.agg b:Value)=.agg cs/\cs.size=32/\Cells k (⟨w.heap.size,0,none⟩:Addr) cs)/\(∃cs:AV,(.agg a:Value)=.agg cs/\cs.size=32/\Cells k (⟨w.heap.size,0,none⟩:Addr) cs)/\au.VK a b w c d e K k)
def au.Xa(a b:AV)(w:World)(c:AV)(d e:World)(K:KT)(f:World):Prop:=
 (bj prog 64 #[.agg a] f fun g i=>∃j:OA,g=.pointer j/\(∃cs:AV,(.agg b:Value)=.agg cs/\cs.size=32/\Cells i (⟨w.heap.size,0,none⟩:Addr) cs)/\(∃cs:AV,(.agg c:Value)=.agg cs/\cs.size=32/\Cells i (⟨w.heap.size,0,none⟩:Addr) cs)/\au.IT b w c d j e K i)/\(∃k:World,(Instr.mapUpdate 89 (.map (some d.heap.size)) (.agg c) (.int .i64 0)).run prog f=.ok () k/\(∃cs:AV,(.agg b:Value)=.agg cs/\cs.size=32/\Cells k (⟨w.heap.size,0,none⟩:Addr) cs)/\(∃cs:AV,(.agg a:Value)=.agg cs/\cs.size=32/\Cells k (⟨w.heap.size,0,none⟩:Addr) cs)/\au.PI a b w d e K k)/\(b.size=32/\let m:=f.alloc (.cells (b.toList++ []).toArray 23);(∃cs:AV,(.agg c:Value)=.agg cs/\cs.size=32/\Cells m (⟨w.heap.size,0,none⟩:Addr) cs)/\(∃cs:AV,(.agg a:Value)=.agg cs/\cs.size=32/\Cells m (⟨w.heap.size,0,none⟩:Addr) cs)/\au.VK a c w d f e K m)
def au.N32(a b:AV)(w:World)(c:AV)(d:World)(K:KT)(e:World):Prop:=
 (bj prog 64 #[.agg a] e fun f g=>∃i:OA,f=.pointer i/\(∃cs:AV,(.agg b:Value)=.agg cs/\cs.size=32/\Cells g (⟨w.heap.size,0,none⟩:Addr) cs)/\(∃cs:AV,(.agg c:Value)=.agg cs/\cs.size=32/\Cells g (⟨w.heap.size,0,none⟩:Addr) cs)/\au.Mn b w c d i K g)/\(∃j:World,(Instr.mapUpdate 89 (.map (some d.heap.size)) (.agg c) (.int .i64 0)).run prog e=.ok () j/\(∃cs:AV,(.agg b:Value)=.agg cs/\cs.size=32/\Cells j (⟨w.heap.size,0,none⟩:Addr) cs)/\(∃cs:AV,(.agg a:Value)=.agg cs/\cs.size=32/\Cells j (⟨w.heap.size,0,none⟩:Addr) cs)/\au.N28 a b w d K j)/\(b.size=32/\let k:=e.alloc (.cells (b.toList++ []).toArray 23);(∃cs:AV,(.agg c:Value)=.agg cs/\cs.size=32/\Cells k (⟨w.heap.size,0,none⟩:Addr) cs)/\(∃cs:AV,(.agg a:Value)=.agg cs/\cs.size=32/\Cells k (⟨w.heap.size,0,none⟩:Addr) cs)/\au.Xb a c w d e K k)/\(let m:=e.alloc (.map #[] 0);(∃cs:AV,(.agg b:Value)=.agg cs/\cs.size=32/\Cells m (⟨w.heap.size,0,none⟩:Addr) cs)/\(∃cs:AV,(.agg c:Value)=.agg cs/\cs.size=32/\Cells m (⟨w.heap.size,0,none⟩:Addr) cs)/\(∃cs:AV,(.agg a:Value)=.agg cs/\cs.size=32/\Cells m (⟨w.heap.size,0,none⟩:Addr) cs)/\au.Xa a b w c d e K m)
def au.W9(a b:AV)(w c d:World)(K:KT)(e:World):Prop:=
 (bj prog 64 #[.agg a] e fun f g=>∃i:OA,f=.pointer i/\(∃cs:AV,(.agg b:Value)=.agg cs/\cs.size=32/\Cells g (⟨w.heap.size,0,none⟩:Addr) cs)/\au.Mm b w i c d K g)/\(let j:=e.alloc (.map #[] 0);(∃cs:AV,(.agg b:Value)=.agg cs/\cs.size=32/\Cells j (⟨w.heap.size,0,none⟩:Addr) cs)/\(∃cs:AV,(.agg a:Value)=.agg cs/\cs.size=32/\Cells j (⟨w.heap.size,0,none⟩:Addr) cs)/\au.VK a b w e c d K j)
def au.N34(a b:AV)(w c:World)(K:KT)(d:World):Prop:=
 (bj prog 64 #[.agg a] d fun e f=>∃g:OA,e=.pointer g/\(∃cs:AV,(.agg b:Value)=.agg cs/\cs.size=32/\Cells f (⟨w.heap.size,0,none⟩:Addr) cs)/\au.QH b w g c K f)/\(let i:=d.alloc (.map #[] 0);(∃cs:AV,(.agg b:Value)=.agg cs/\cs.size=32/\Cells i (⟨w.heap.size,0,none⟩:Addr) cs)/\(∃cs:AV,(.agg a:Value)=.agg cs/\cs.size=32/\Cells i (⟨w.heap.size,0,none⟩:Addr) cs)/\au.Xb a b w d c K i)/\(let j:=d.alloc (.map #[] 0);(∃cs:AV,(.agg b:Value)=.agg cs/\cs.size=32/\Cells j (⟨w.heap.size,0,none⟩:Addr) cs)/\(∃cs:AV,(.agg a:Value)=.agg cs/\cs.size=32/\Cells j (⟨w.heap.size,0,none⟩:Addr) cs)/\au.W9 a b w c d K j)
def au.N35(a b:AV)(w:World)(c:AV)(d:World)(K:KT)(e:World):Prop:=
 (bj prog 64 #[.agg a] e fun f g=>∃i:OA,f=.pointer i/\(∃cs:AV,(.agg b:Value)=.agg cs/\cs.size=32/\Cells g (⟨w.heap.size,0,none⟩:Addr) cs)/\(∃cs:AV,(.agg c:Value)=.agg cs/\cs.size=32/\Cells g (⟨w.heap.size,0,none⟩:Addr) cs)/\au.Xd b w c i d K g)/\(let j:=e.alloc (.map #[] 0);(∃cs:AV,(.agg b:Value)=.agg cs/\cs.size=32/\Cells j (⟨w.heap.size,0,none⟩:Addr) cs)/\(∃cs:AV,(.agg c:Value)=.agg cs/\cs.size=32/\Cells j (⟨w.heap.size,0,none⟩:Addr) cs)/\(∃cs:AV,(.agg a:Value)=.agg cs/\cs.size=32/\Cells j (⟨w.heap.size,0,none⟩:Addr) cs)/\au.Xa a b w c e d K j)/\(b.size=32/\let k:=e.alloc (.cells (b.toList++ []).toArray 23);(∃cs:AV,(.agg c:Value)=.agg cs/\cs.size=32/\Cells k (⟨w.heap.size,0,none⟩:Addr) cs)/\(∃cs:AV,(.agg a:Value)=.agg cs/\cs.size=32/\Cells k (⟨w.heap.size,0,none⟩:Addr) cs)/\au.W9 a c w e d K k)
def au.N36(a b:AV)(w:World)(c:AV)(K:KT)(d:World):Prop:=
 (bj prog 64 #[.agg a] d fun e f=>∃g:OA,e=.pointer g/\(∃cs:AV,(.agg b:Value)=.agg cs/\cs.size=32/\Cells f (⟨w.heap.size,0,none⟩:Addr) cs)/\(∃cs:AV,(.agg c:Value)=.agg cs/\cs.size=32/\Cells f (⟨w.heap.size,0,none⟩:Addr) cs)/\au.VM b w c g K f)/\(let i:=d.alloc (.map #[] 0);(∃cs:AV,(.agg b:Value)=.agg cs/\cs.size=32/\Cells i (⟨w.heap.size,0,none⟩:Addr) cs)/\(∃cs:AV,(.agg c:Value)=.agg cs/\cs.size=32/\Cells i (⟨w.heap.size,0,none⟩:Addr) cs)/\(∃cs:AV,(.agg a:Value)=.agg cs/\cs.size=32/\Cells i (⟨w.heap.size,0,none⟩:Addr) cs)/\au.N32 a b w c d K i)/\(b.size=32/\let j:=d.alloc (.cells (b.toList++ []).toArray 23);(∃cs:AV,(.agg c:Value)=.agg cs/\cs.size=32/\Cells j (⟨w.heap.size,0,none⟩:Addr) cs)/\(∃cs:AV,(.agg a:Value)=.agg cs/\cs.size=32/\Cells j (⟨w.heap.size,0,none⟩:Addr) cs)/\au.N34 a c w d K j)/\(let k:=d.alloc (.map #[] 0);(∃cs:AV,(.agg b:Value)=.agg cs/\cs.size=32/\Cells k (⟨w.heap.size,0,none⟩:Addr) cs)/\(∃cs:AV,(.agg c:Value)=.agg cs/\cs.size=32/\Cells k (⟨w.heap.size,0,none⟩:Addr) cs)/\(∃cs:AV,(.agg a:Value)=.agg cs/\cs.size=32/\Cells k (⟨w.heap.size,0,none⟩:Addr) cs)/\au.N35 a b w c d K k)
section
variable(a:AV)(K:KT)(w:World)
def au.W:Prop:=
 let b:=w.alloc (.cells a 23);let d:=b.drew;∃e:AV,(e.size=32/\Cells d (⟨w.heap.size,0,none⟩:Addr) e)/\∃f:AV,(f.size=32/\Cells d (⟨w.heap.size,0,none⟩:Addr) f)/\∃g:AV,(g.size=32/\Cells d (⟨w.heap.size,0,none⟩:Addr) g)/\au.N36 e g w f K d
variable{a K w}
theorem au.of(h:au.W a K w):bj prog 39 #[.agg a] w K:=
 rqq func39 (C:=au.k) h
end
def aA.k:List Nat:= []
def aA.q1(K:KT):aM:=(aI 1 (bM (sR (sR (sR (sR (sR (sR (body f43)))))))++(aT f43)) (bD (fun bE w_=>match cutAt aA.k (sR (sR (sR (sR (sR (sR (body f43)))))))with|true=>Holds none [] prog 131 (sR (sR (sR (sR (sR (sR (body f43))))))) (bO prog f43 K) bE w_|false=>aO none [] prog 131 aA.k (sR (sR (sR (sR (sR (sR (body f43))))))) (aT f43) (bO prog f43 K) bE w_) (bO prog f43 K)))
def aA.e1(a b:OA)(c d:Nat)(e f:Addr)(g:Int)(i:OA)(j:Option Nat)(k:OA)(m n:Nat)(o s:Int):Env:= [(0,.pointer a),(3,.slice b c d),(5,.pointer (some e)),(6,.pointer (some f)),(8,.int .i64 g),(9,.pointer i),(10,.map j),(57,.slice k m n),(58,.int .i64 o),(59,.int .i64 s)]
def aA.u1:List Nat:= [0,3,5,6,8,9,10,57,58,59]
def aA.q2(K:KT):aM:=(aI 3 (bM (sR (sR (sR (sR (sR (sR (sR (sR (body f43)))))))))++(aT f43)) (bD (fun bE w_=>match cutAt aA.k (sR (sR (sR (sR (sR (sR (sR (sR (body f43)))))))))with|true=>Holds none [] prog 131 (sR (sR (sR (sR (sR (sR (sR (sR (body f43))))))))) (bO prog f43 K) bE w_|false=>aO none [] prog 131 aA.k (sR (sR (sR (sR (sR (sR (sR (sR (body f43))))))))) (aT f43) (bO prog f43 K) bE w_) (bO prog f43 K)))
def aA.e2(a:OA)(b c:Addr)(d:Int)(e:Option Nat)(f:OA)(g i:Nat)(j s:Int):Env:= [(0,.pointer a),(5,.pointer (some b)),(6,.pointer (some c)),(8,.int .i64 d),(10,.map e),(74,.slice f g i),(75,.int .i64 j),(76,.int .i64 s)]
def aA.u2:List Nat:= [0,5,6,8,10,74,75,76]
section
variable(a:OA)(b d:AV)(e:OA)(f g:Nat)(K:KT)(w:World)
def aA.W:Prop:=
 let i:=w.alloc (.cells b 23);let j:=i.alloc (.cells d 23);bj prog 78 #[.pointer a] j fun k m=>∃n:Bool,k=.bool n/\Split (!n) (K (.int .i64 1) m) (Is a fun o:Addr=>∃p:OA,m.cell? (o.add 0)=some (.pointer p)/\∃q:AV,(q.size=32/\Cells m (⟨w.heap.size,0,none⟩:Addr) q)/\bj prog 79 #[.pointer p,.agg q] m fun r t=>∃u:Bool,r=.bool u/\Split u (K (.int .i64 7) t) (Split ((f:Int)==(0:Int)) (K (.int .i64 9) t) (bj prog 41 #[.slice e f g] t fun v x=>∃y:OA,∃z a1:Nat,v=.slice y z a1/\Split ((z:Int) != (f:Int)) (K (.int .i64 9) x) (bj prog 55 #[.pointer a,.slice e f g] x fun b1 c1=>∃d1:Bool,b1=.bool d1/\Split (!d1) (K (.int .i64 6) c1) (∃e1:AV,(e1.size=32/\Cells c1 (⟨i.heap.size,0,none⟩:Addr) e1)/\bj prog 54 #[.slice e f g,.agg e1] c1 fun f1 g1=>∃i1:Bool,f1=.bool i1/\Split (!i1) (K (.int .i64 2) g1) (let j1:=g1.alloc (.map #[] 0);∃k1:AV,(k1.size=32/\Cells j1 (⟨i.heap.size,0,none⟩:Addr) k1)/\∃m1:World,(Instr.mapUpdate 129 (.map (some g1.heap.size)) (.agg k1) (.agg #[.bool true])).run prog j1=.ok () m1/\∃n1:AV,(n1.size=32/\Cells m1 (⟨i.heap.size,0,none⟩:Addr) n1)/\n1.size=32/\let o1:=m1.alloc (.cells (n1.toList++ []).toArray 23);bj prog 70 #[.pointer p,.slice (some (⟨m1.heap.size,0,none⟩:Addr)) 1 1] o1 fun p1 q1=>∃r1:OA,∃t1 u1:Nat,p1=.slice r1 t1 u1/\Holds none [] prog 131 (.loop (lB (bB (sR (sL (sR (sR (sR (sR (sR (body f43))))))))))) (aA.q1 K) [(0,.pointer a),(3,.slice e f g),(5,.pointer (some (⟨w.heap.size,0,none⟩:Addr))),(6,.pointer (some (⟨i.heap.size,0,none⟩:Addr))),(8,.int .i64 0),(9,.pointer p),(10,.map (some g1.heap.size)),(57,.slice r1 t1 u1),(58,.int .i64 (t1:Int)),(59,.int .i64 0)] q1))))))
variable{a b d e f g K w}
theorem aA.of(h:aA.W a b d e f g K w):bj prog 43 #[.pointer a,.agg b,.agg d,.slice e f g] w K:=
 rqq func43 (C:=aA.k) h
end
section
variable(a b:OA)(c d:Nat)(e f:Addr)(g:Int)(i:OA)(j:Option Nat)(k:OA)(m n:Nat)(o p:Int)(Q:aM)(w:World)
def aA.B1:Prop:=
 Split (decide (p<o)) ((0<=p/\p<(m:Int))/\Is k fun q:Addr=>∃r:AV,(r.size=32/\Cells w (q.add (p.toNat*32)) r)/\let t:=w.alloc (.cells zH 23);(r.size=32/\(∀u∈r.toList,u.oneCell'=true)/\∀v,v<32->Wr t ((⟨w.heap.size,0,none⟩:Addr).add v))/\let x:=setCells t (⟨w.heap.size,0,none⟩:Addr) r.toList 0;∃y:AV,(y.size=32/\Cells x (⟨w.heap.size,0,none⟩:Addr) y)/\∃z:World,(Instr.mapUpdate 129 (.map j) (.agg y) (.agg #[.bool true])).run prog x=.ok () z/\Q .normal [(0,.pointer a),(3,.slice b c d),(5,.pointer (some e)),(6,.pointer (some f)),(8,.int .i64 g),(9,.pointer i),(10,.map j),(57,.slice k m n),(58,.int .i64 o),(59,.int .i64 (i64.wrap (p+(1:Int))))] z) (Q (.exit 1) [(0,.pointer a),(3,.slice b c d),(5,.pointer (some e)),(6,.pointer (some f)),(8,.int .i64 g),(9,.pointer i),(10,.map j),(57,.slice k m n),(58,.int .i64 o),(59,.int .i64 p)] w)
theorem aA.b1:(aO none [] prog 131 aA.k (lB (bB (sR (sL (sR (sR (sR (sR (sR (body f43)))))))))) aA.u1 Q [(0,.pointer a),(3,.slice b c d),(5,.pointer (some e)),(6,.pointer (some f)),(8,.int .i64 g),(9,.pointer i),(10,.map j),(57,.slice k m n),(58,.int .i64 o),(59,.int .i64 p)] w)=aA.B1 a b c d e f g i j k m n o p Q w:=by kernel_rfl
variable{a b c d e f g i j k m n o}
theorem aA.b7(I:Int->World->Prop)(μ:Int->World->Nat)(s:Int){Q:aM}{w:World}(h0:I s w)
 (round:∀s w,I s w->aA.B1 a b c d e f g i j k m n o s (bI (aA.e1 a b c d e f g i j k m n o) I μ s w Q) w):Holds none [] prog 131 (.loop (lB (bB (sR (sL (sR (sR (sR (sR (sR (body f43))))))))))) Q (aA.e1 a b c d e f g i j k m n o s) w:=
 ba ng mix (aA.e1 a b c d e f g i j k m n o) I μ aA.k aA.u1 s (fun s Q w=>aA.B1 a b c d e f g i j k m n o s Q w) (fun s Q w=>aA.b1 a b c d e f g i j k m n o s Q w) h0 round
end
section
def aA.EU(a b:OA)(c d:Nat)(e f:Addr)(g:Int)(i:OA)(j:Option Nat)(k:OA)(m n:Nat)(o p:Int)(K:KT)(w:World):Prop:=
 ∃q:AV,(q.size=32/\Cells w e q)/\bj prog 80 #[.pointer i,.agg q,.slice b c d] w fun r t=>∃u:Int,r=.int .i64 u/\∃v:AV,(v.size=32/\Cells t e v)/\v.size=32/\let x:=t.alloc (.cells (v.toList++ []).toArray 23);bj prog 70 #[.pointer i,.slice (some (⟨t.heap.size,0,none⟩:Addr)) 1 1] x fun y z=>∃a1:OA,∃b1 c1:Nat,y=.slice a1 b1 c1/\Holds none [] prog 131 (.loop (lB (bB (sR (sL (sR (sR (sR (sR (sR (sR (sR (body f43))))))))))))) (aA.q2 K) [(0,.pointer a),(5,.pointer (some e)),(6,.pointer (some f)),(8,.int .i64 g),(10,.map j),(74,.slice a1 b1 c1),(75,.int .i64 (b1:Int)),(76,.int .i64 0)] z
variable(a b:OA)(c d:Nat)(e f:Addr)(g:Int)(i:OA)(j:Option Nat)(k:OA)(m n:Nat)(o p:Int)(K:KT)(w:World)
theorem aA.Mr:(aA.q1 K (.exit 1) [(0,.pointer a),(3,.slice b c d),(5,.pointer (some e)),(6,.pointer (some f)),(8,.int .i64 g),(9,.pointer i),(10,.map j),(57,.slice k m n),(58,.int .i64 o),(59,.int .i64 p)] w)=aA.EU a b c d e f g i j k m n o p K w:=by kernel_rfl
end
section
variable(a:OA)(b c:Addr)(d:Int)(e:Option Nat)(f:OA)(g i:Nat)(j k:Int)(Q:aM)(w:World)
def aA.B2:Prop:=
 Split (decide (k<j)) ((0<=k/\k<(g:Int))/\Is f fun m:Addr=>∃n:AV,(n.size=32/\Cells w (m.add (k.toNat*32)) n)/\let o:=w.alloc (.cells zH 23);(n.size=32/\(∀p∈n.toList,p.oneCell'=true)/\∀q,q<32->Wr o ((⟨w.heap.size,0,none⟩:Addr).add q))/\let r:=setCells o (⟨w.heap.size,0,none⟩:Addr) n.toList 0;∃t:AV,(t.size=32/\Cells r (⟨w.heap.size,0,none⟩:Addr) t)/\∃u:AV,(Instr.lookup 129 (.map e) (.agg t) false).run prog r=.ok (.agg u) r/\∃v:Bool,u[0]? =some (.bool v)/\Split (!v) (let x:=r.drew;Is a fun y:Addr=>∃z:Option Nat,x.cell? (y.add 4)=some (.map z)/\∃a1:AV,(a1.size=32/\Cells x (⟨w.heap.size,0,none⟩:Addr) a1)/\Is a fun b1:Addr=>∃c1:Option Nat,x.cell? (b1.add 4)=some (.map c1)/\∃d1:AV,(d1.size=32/\Cells x (⟨w.heap.size,0,none⟩:Addr) d1)/\∃e1:OA,∃f1 g1:Nat,(Instr.lookup 107 (.map c1) (.agg d1) false).run prog x=.ok (.slice e1 f1 g1) x/\∃i1:AV,(i1.size=32/\Cells x b i1)/\(bj prog 81 #[.slice e1 f1 g1] x fun j1 k1=>∃m1:OA,∃n1 o1:Nat,j1=.slice m1 n1 o1/\(∃cs:AV,(.agg i1:Value)=.agg cs/\cs.size=32/\Cells k1 b cs)/\(∃cs:AV,(.agg a1:Value)=.agg cs/\cs.size=32/\Cells k1 (⟨w.heap.size,0,none⟩:Addr) cs)/\k1.cell? (y.add 4)=some (.map z)/\i1.size=32/\let p1:=k1.alloc (.cells (i1.toList++ []).toArray 23);(∃cs:AV,(.agg a1:Value)=.agg cs/\cs.size=32/\Cells p1 (⟨w.heap.size,0,none⟩:Addr) cs)/\p1.cell? (y.add 4)=some (.map z)/\∃(q1:OA) (r1 t1:Nat) (u1:World),(Builtin.append_ #[35,35] 35 #[.slice m1 n1 o1,.slice (some (⟨k1.heap.size,0,none⟩:Addr)) 1 1]).run prog p1=.ok (.slice q1 r1 t1) u1/\(∃cs:AV,(.agg a1:Value)=.agg cs/\cs.size=32/\Cells u1 (⟨w.heap.size,0,none⟩:Addr) cs)/\u1.cell? (y.add 4)=some (.map z)/\∃v1:World,(Instr.mapUpdate 107 (.map z) (.agg a1) (.slice q1 r1 t1)).run prog u1=.ok () v1/\Q .normal [(0,.pointer a),(5,.pointer (some b)),(6,.pointer (some c)),(8,.int .i64 d),(10,.map e),(74,.slice f g i),(75,.int .i64 j),(76,.int .i64 (i64.wrap (k+(1:Int))))] v1)/\(i1.size=32/\let x1:=x.alloc (.cells (i1.toList++ []).toArray 23);(Instr.lookup 107 (.map c1) (.agg d1) false).run prog x1=.ok (.slice e1 f1 g1) x1/\(∃cs:AV,(.agg d1:Value)=.agg cs/\cs.size=32/\Cells x1 (⟨w.heap.size,0,none⟩:Addr) cs)/\x1.cell? (b1.add 4)=some (.map c1)/\(∃cs:AV,(.agg a1:Value)=.agg cs/\cs.size=32/\Cells x1 (⟨w.heap.size,0,none⟩:Addr) cs)/\x1.cell? (y.add 4)=some (.map z)/\bj prog 81 #[.slice e1 f1 g1] x1 fun y1 z1=>∃a2:OA,∃b2 c2:Nat,y1=.slice a2 b2 c2/\(∃cs:AV,(.agg a1:Value)=.agg cs/\cs.size=32/\Cells z1 (⟨w.heap.size,0,none⟩:Addr) cs)/\z1.cell? (y.add 4)=some (.map z)/\∃(d2:OA) (e2 f2:Nat) (g2:World),(Builtin.append_ #[35,35] 35 #[.slice a2 b2 c2,.slice (some (⟨x.heap.size,0,none⟩:Addr)) 1 1]).run prog z1=.ok (.slice d2 e2 f2) g2/\(∃cs:AV,(.agg a1:Value)=.agg cs/\cs.size=32/\Cells g2 (⟨w.heap.size,0,none⟩:Addr) cs)/\g2.cell? (y.add 4)=some (.map z)/\∃i2:World,(Instr.mapUpdate 107 (.map z) (.agg a1) (.slice d2 e2 f2)).run prog g2=.ok () i2/\Q .normal [(0,.pointer a),(5,.pointer (some b)),(6,.pointer (some c)),(8,.int .i64 d),(10,.map e),(74,.slice f g i),(75,.int .i64 j),(76,.int .i64 (i64.wrap (k+(1:Int))))] i2)) (Q .normal [(0,.pointer a),(5,.pointer (some b)),(6,.pointer (some c)),(8,.int .i64 d),(10,.map e),(74,.slice f g i),(75,.int .i64 j),(76,.int .i64 (i64.wrap (k+(1:Int))))] r)) (Q (.exit 3) [(0,.pointer a),(5,.pointer (some b)),(6,.pointer (some c)),(8,.int .i64 d),(10,.map e),(74,.slice f g i),(75,.int .i64 j),(76,.int .i64 k)] w)
theorem aA.b2:(aO none [] prog 131 aA.k (lB (bB (sR (sL (sR (sR (sR (sR (sR (sR (sR (body f43)))))))))))) aA.u2 Q [(0,.pointer a),(5,.pointer (some b)),(6,.pointer (some c)),(8,.int .i64 d),(10,.map e),(74,.slice f g i),(75,.int .i64 j),(76,.int .i64 k)] w)=aA.B2 a b c d e f g i j k Q w:=by kernel_rfl
variable{a b c d e f g i j}
theorem aA.gw(I:Int->World->Prop)(μ:Int->World->Nat)(s:Int){Q:aM}{w:World}(h0:I s w)
 (round:∀s w,I s w->aA.B2 a b c d e f g i j s (bI (aA.e2 a b c d e f g i j) I μ s w Q) w):Holds none [] prog 131 (.loop (lB (bB (sR (sL (sR (sR (sR (sR (sR (sR (sR (body f43))))))))))))) Q (aA.e2 a b c d e f g i j s) w:=
 ba ng mix (aA.e2 a b c d e f g i j) I μ aA.k aA.u2 s (fun s Q w=>aA.B2 a b c d e f g i j s Q w) (fun s Q w=>aA.b2 a b c d e f g i j s Q w) h0 round
end
section
def aA.PD(a:OA)(b c:Addr)(d:Int)(e:Option Nat)(f:OA)(g i:Nat)(j k:Int)(K:KT)(w:World):Prop:=
 let m:=w.drew;Is a fun n:Addr=>∃o:OA,m.cell? (n.add 1)=some (.pointer o)/\Is a fun p:Addr=>∃q:Option Nat,m.cell? (p.add 2)=some (.map q)/\∃r:AV,(r.size=32/\Cells m c r)/\∃t:Int,(Instr.lookup 89 (.map q) (.agg r) false).run prog m=.ok (.int .i64 t) m/\bj prog 82 #[.pointer o,.int .i64 t] m fun u v=>∃x y:Int,u=.tuple #[.int .i64 x,.int .i64 y]/\let z:=v.drew;Is a fun a1:Addr=>∃b1:Option Nat,z.cell? (a1.add 2)=some (.map b1)/\∃c1:AV,(c1.size=32/\Cells z b c1)/\∃d1:World,(Instr.mapUpdate 89 (.map b1) (.agg c1) (.int .i64 x)).run prog z=.ok () d1/\let e1:=d1.drew;Is a fun f1:Addr=>∃g1:OA,∃i1 j1:Nat,e1.cell? (f1.add 3)=some (.slice g1 i1 j1)/\∃k1:AV,(k1.size=32/\Cells e1 b k1)/\k1.size=32/\let m1:=e1.alloc (.cells (k1.toList++ []).toArray 23);m1.cell? (f1.add 3)=some (.slice g1 i1 j1)/\∃(n1:OA) (o1 p1:Nat) (q1:World),(Builtin.append_ #[35,35] 35 #[.slice g1 i1 j1,.slice (some (⟨e1.heap.size,0,none⟩:Addr)) 1 1]).run prog m1=.ok (.slice n1 o1 p1) q1/\Is a fun r1:Addr=>Wr q1 (r1.add 3)/\let t1:=q1.setCell (r1.add 3) (.slice n1 o1 p1);K (.int .i64 0) t1
variable(a:OA)(b c:Addr)(d:Int)(e:Option Nat)(f:OA)(g i:Nat)(j k:Int)(K:KT)(w:World)
theorem aA.Xl:(aA.q2 K (.exit 3) [(0,.pointer a),(5,.pointer (some b)),(6,.pointer (some c)),(8,.int .i64 d),(10,.map e),(74,.slice f g i),(75,.int .i64 j),(76,.int .i64 k)] w)=aA.PD a b c d e f g i j k K w:=by kernel_rfl
end
def fy.k:List Nat:= []
section
variable(a:OA)(b:AV)(K:KT)(w:World)
def fy.W:Prop:=
 let d:=w.alloc (.cells (#[.pointer a]:AV) 73);let e:=d.alloc (.cells b 23);K (.func (.func 89) #[] #[.pointer (some (⟨w.heap.size,0,none⟩:Addr)),.pointer (some (⟨d.heap.size,0,none⟩:Addr))]) e
variable{a b K w}
theorem fy.of(h:fy.W a b K w):bj prog 53 #[.pointer a,.agg b] w K:=
 rqq func53 (C:=fy.k) h
end
def cu.k:List Nat:= []
section
variable(a:OA)(b d:Nat)(e:AV)(K:KT)(w:World)
def cu.W:Prop:=
 let f:=w.alloc (.cells e 23);∃g:AV,(g.size=32/\Cells f (⟨w.heap.size,0,none⟩:Addr) g)/\bj prog 91 #[.slice a b d,.agg g] f fun i j=>∃k:Int,i=.int .i64 k/\K (.bool (decide (k>=(0:Int)))) j
variable{a b d e K w}
theorem cu.of(h:cu.W a b d e K w):bj prog 54 #[.slice a b d,.agg e] w K:=
 rqq func54 (C:=cu.k) h
end
def e9.k:List Nat:= []
section
variable(a b:OA)(d e:Nat)(K:KT)(w:World)
def e9.W:Prop:=
 let f:=w.alloc (.cells (#[.pointer a]:AV) 73);∃g:OA,f.cell? (⟨w.heap.size,0,none⟩:Addr)=some (.pointer g)/\bj prog 78 #[.pointer g] f fun i j=>∃k:Bool,i=.bool k/\Split k (bj prog 85 #[.slice b d e,.func (.func 92) #[] #[.pointer (some (⟨w.heap.size,0,none⟩:Addr))]] j fun m n=>∃o:Bool,m=.bool o/\K (.bool (!o)) n) (K (.bool false) j)
variable{a b d e K w}
theorem e9.of(h:e9.W a b d e K w):bj prog 55 #[.pointer a,.slice b d e] w K:=
 rqq func55 (C:=e9.k) h
end
section
variable(a:OA)(K:KT)(w:World)
variable{a K w}
end
section
variable(a:OA)(b:Addr)(c:OA)(Q:aM)(w:World)
variable{a b c}
end
section
variable(a:OA)(b:Addr)(c:OA)(K:KT)(w:World)
end
def dC.k:List Nat:= []
section
variable(a:OA)(b d:AV)(K:KT)(w:World)
def dC.W:Prop:=
 let e:=w.alloc (.cells (#[.pointer a]:AV) 73);let f:=e.alloc (.cells b 23);let g:=f.alloc (.cells d 23);∃i:OA,g.cell? (⟨w.heap.size,0,none⟩:Addr)=some (.pointer i)/\∃j:AV,(j.size=32/\Cells g (⟨e.heap.size,0,none⟩:Addr) j)/\∃k:AV,(k.size=32/\Cells g (⟨f.heap.size,0,none⟩:Addr) k)/\j.size=32/\k.size=32/\let m:=g.alloc (.cells (j.toList++(k.toList++([]))).toArray 23);bj prog 55 #[.pointer i,.slice (some (⟨g.heap.size,0,none⟩:Addr)) 2 2] m fun n o=>∃p:Bool,n=.bool p/\Split (!p) (K (.bool false) o) (∃q:AV,(q.size=32/\Cells o (⟨e.heap.size,0,none⟩:Addr) q)/\∃r:AV,(r.size=32/\Cells o (⟨f.heap.size,0,none⟩:Addr) r)/\(dD .u8 32 q/\dD .u8 32 r)/\Split (ek q r) (K (.bool false) o) (let t:=o.drew;∃u:OA,t.cell? (⟨w.heap.size,0,none⟩:Addr)=some (.pointer u)/\∃v:AV,(v.size=32/\Cells t (⟨e.heap.size,0,none⟩:Addr) v)/\∃x:AV,(x.size=32/\Cells t (⟨f.heap.size,0,none⟩:Addr) x)/\bj prog 32 #[.pointer u,.agg v,.agg x] t fun y z=>∃a1:Bool,y=.bool a1/\Split a1 (K (.bool true) z) (∃b1:OA,z.cell? (⟨w.heap.size,0,none⟩:Addr)=some (.pointer b1)/\Is b1 fun c1:Addr=>∃d1:Option Nat,z.cell? (c1.add 4)=some (.map d1)/\∃e1:AV,(e1.size=32/\Cells z (⟨e.heap.size,0,none⟩:Addr) e1)/\∃f1:OA,∃g1 i1:Nat,(Instr.lookup 107 (.map d1) (.agg e1) false).run prog z=.ok (.slice f1 g1 i1) z/\bj prog 85 #[.slice f1 g1 i1,.func (.func 104) #[] #[.pointer (some (⟨w.heap.size,0,none⟩:Addr)),.pointer (some (⟨f.heap.size,0,none⟩:Addr))]] z fun j1 k1=>∃m1:Bool,j1=.bool m1/\K (.bool m1) k1)))
variable{a b d K w}
theorem dC.of(h:dC.W a b d K w):bj prog 71 #[.pointer a,.agg b,.agg d] w K:=
 rqq func71 (C:=dC.k) h
end
def eJ.k:List Nat:= []
section
variable(a:OA)(K:KT)(w:World)
def eJ.W:Prop:=
 Split (!(a).isNone) (Is a fun b:Addr=>∃d:OA,w.cell? (b.add 0)=some (.pointer d)/\K (.bool (!(d).isNone)) w) (K (.bool false) w)
variable{a K w}
theorem eJ.of(h:eJ.W a K w):bj prog 78 #[.pointer a] w K:=
 rqq func78 (C:=eJ.k) h
end
def cX.k:List Nat:= []
section
variable(a:OA)(b d:Nat)(K:KT)(w:World)
def cX.W:Prop:=
 (0<=(b:Int)/\(b:Int)<=(d:Int))/\(0<=(b:Int)/\(b:Int)<=((b:Int).toNat:Int))/\K (.slice (if(b:Int).toNat=0 then a else a.map (·.add (0*32))) ((b:Int).toNat -0) ((b:Int).toNat -0)) w
variable{a b d K w}
theorem cX.of(h:cX.W a b d K w):bj prog 81 #[.slice a b d] w K:=
 rqq func81 (C:=cX.k) h
end
def aN.k:List Nat:= []
def aN.q1(K:KT):aM:=(aI 0 (bM (sR (sR (body f91)))++(aT f91)) (bD (fun bE w_=>match cutAt aN.k (sR (sR (body f91)))with|true=>Holds none [] prog 19 (sR (sR (body f91))) (bO prog f91 K) bE w_|false=>aO none [] prog 19 aN.k (sR (sR (body f91))) (aT f91) (bO prog f91 K) bE w_) (bO prog f91 K)))
def aN.e1(a:OA)(b c:Nat)(d:Addr)(e:Int)(s:Int×Int):Env:= [(0,.slice a b c),(3,.pointer (some d)),(4,.int .i64 s.1),(7,.int .i64 e),(8,.int .i64 s.2)]
def aN.u1:List Nat:= [0,3,4,7,8]
section
variable(a:OA)(b d:Nat)(e:AV)(K:KT)(w:World)
def aN.W:Prop:=
 let f:=w.alloc (.cells e 23);Holds none [] prog 19 (.loop (lB (bB (sR (sL (sR (body f91))))))) (aN.q1 K) [(0,.slice a b d),(3,.pointer (some (⟨w.heap.size,0,none⟩:Addr))),(4,.int .i64 0),(7,.int .i64 (b:Int)),(8,.int .i64 0)] f
variable{a b d e K w}
theorem aN.of(h:aN.W a b d e K w):bj prog 91 #[.slice a b d,.agg e] w K:=
 rqq func91 (C:=aN.k) h
end
section
variable(a:OA)(b c:Nat)(d:Addr)(e f g:Int)(Q:aM)(w:World)
def aN.B1:Prop:=
 Split (decide (g<f)) (let i:=w.drew;∃j:AV,(j.size=32/\Cells i d j)/\(0<=g/\g<(b:Int))/\Is a fun k:Addr=>∃m:AV,(m.size=32/\Cells i (k.add (g.toNat*32)) m)/\(dD .u8 32 j/\dD .u8 32 m)/\Split (ek j m) (Q .ret [(0,.slice a b c),(3,.pointer (some d)),(4,.int .i64 g),(7,.int .i64 f),(8,.int .i64 g)] i) (Q .normal [(0,.slice a b c),(3,.pointer (some d)),(4,.int .i64 e),(7,.int .i64 f),(8,.int .i64 (i64.wrap (g+(1:Int))))] i)) (Q (.exit 0) [(0,.slice a b c),(3,.pointer (some d)),(4,.int .i64 e),(7,.int .i64 f),(8,.int .i64 g)] w)
theorem aN.b1:(aO none [] prog 19 aN.k (lB (bB (sR (sL (sR (body f91)))))) aN.u1 Q [(0,.slice a b c),(3,.pointer (some d)),(4,.int .i64 e),(7,.int .i64 f),(8,.int .i64 g)] w)=aN.B1 a b c d e f g Q w:=by kernel_rfl
variable{a b c d f}
theorem aN.b7(I:Int×Int->World->Prop)(μ:Int×Int->World->Nat)(s:Int×Int){Q:aM}{w:World}(h0:I s w)
 (round:∀s w,I s w->aN.B1 a b c d (s.1) f (s.2) (bI (aN.e1 a b c d f) I μ s w Q) w):Holds none [] prog 19 (.loop (lB (bB (sR (sL (sR (body f91))))))) Q (aN.e1 a b c d f s) w:=
 ba ng mix (aN.e1 a b c d f) I μ aN.k aN.u1 s (fun s Q w=>aN.B1 a b c d (s.1) f (s.2) Q w) (fun s Q w=>aN.b1 a b c d (s.1) f (s.2) Q w) h0 round
end
section
def aN.cK(a:OA)(b c:Nat)(d:Addr)(e f g:Int)(K:KT)(w:World):Prop:=
 K (.int .i64 (-1)) w
variable(a:OA)(b c:Nat)(d:Addr)(e f g:Int)(K:KT)(w:World)
theorem aN.c8:(aN.q1 K (.exit 0) [(0,.slice a b c),(3,.pointer (some d)),(4,.int .i64 e),(7,.int .i64 f),(8,.int .i64 g)] w)=aN.cK a b c d e f g K w:=by kernel_rfl
end
def dm.k:List Nat:= []
section
variable(a:AV)(b:Addr)(K:KT)(w:World)
def dm.W:Prop:=
 let d:=w.alloc (.cells a 23);let e:=d.drew;∃f:OA,e.cell? b=some (.pointer f)/\Is f fun g:Addr=>∃i:OA,e.cell? (g.add 0)=some (.pointer i)/\∃j:AV,(j.size=32/\Cells e (⟨w.heap.size,0,none⟩:Addr) j)/\bj prog 79 #[.pointer i,.agg j] e fun k m=>∃n:Bool,k=.bool n/\K (.bool (!n)) m
variable{a b K w}
theorem dm.of(h:dm.W a b K w):bj prog 92 #[.agg a,.pointer (some b)] w K:=
 rqq func92 (C:=dm.k) h
end
def cH.k:List Nat:= []
section
variable(a:AV)(b d:Addr)(K:KT)(w:World)
def cH.W:Prop:=
 let e:=w.alloc (.cells a 23);∃f:OA,e.cell? b=some (.pointer f)/\∃g:AV,(g.size=32/\Cells e (⟨w.heap.size,0,none⟩:Addr) g)/\∃i:AV,(i.size=32/\Cells e d i)/\bj prog 32 #[.pointer f,.agg g,.agg i] e fun j k=>∃m:Bool,j=.bool m/\K (.bool m) k
variable{a b d K w}
theorem cH.of(h:cH.W a b d K w):bj prog 104 #[.agg a,.pointer (some b),.pointer (some d)] w K:=
 rqq func104 (C:=cH.k) h
end
def bX.k:List Nat:= []
section
variable(a:OA)(b d:Nat)(e:Addr)(K:KT)(w:World)
def bX.W:Prop:=
 bj prog 113 #[.slice a b d,.func (.func 92) #[] #[.pointer (some e)]] w fun f g=>∃i:Int,f=.int .i64 i/\K (.bool (decide (i>=(0:Int)))) g
variable{a b d e K w}
theorem bX.of(h:bX.W a b d e K w):bj prog 85 #[.slice a b d,.func (.func 92) #[] #[.pointer (some e)]] w K:=
 rqq func85 (C:=bX.k) h
end
def bT.k:List Nat:= []
section
variable(a:OA)(b d:Nat)(e f:Addr)(K:KT)(w:World)
def bT.W:Prop:=
 bj prog 113 #[.slice a b d,.func (.func 104) #[] #[.pointer (some e),.pointer (some f)]] w fun g i=>∃j:Int,g=.int .i64 j/\K (.bool (decide (j>=(0:Int)))) i
variable{a b d e f K w}
theorem bT.of(h:bT.W a b d e f K w):bj prog 85 #[.slice a b d,.func (.func 104) #[] #[.pointer (some e),.pointer (some f)]] w K:=
 rqq func85 (C:=bT.k) h
end
def ao.k:List Nat:= []
def ao.q1(K:KT):aM:=(aI 0 (bM (sR (sR (body f113)))++(aT f113)) (bD (fun bE w_=>match cutAt ao.k (sR (sR (body f113)))with|true=>Holds none [] prog 19 (sR (sR (body f113))) (bO prog f113 K) bE w_|false=>aO none [] prog 19 ao.k (sR (sR (body f113))) (aT f113) (bO prog f113 K) bE w_) (bO prog f113 K)))
def ao.e1(a:OA)(b c:Nat)(d:Addr)(e:Int)(s:Int×Int):Env:= [(0,.slice a b c),(1,.func (.func 92) #[] #[.pointer (some d)]),(4,.int .i64 s.1),(7,.int .i64 e),(8,.int .i64 s.2)]
def ao.u1:List Nat:= [0,1,4,7,8]
section
variable(a:OA)(b d:Nat)(e:Addr)(K:KT)(w:World)
def ao.W:Prop:=
 Holds none [] prog 19 (.loop (lB (bB (sR (sL (sR (body f113))))))) (ao.q1 K) [(0,.slice a b d),(1,.func (.func 92) #[] #[.pointer (some e)]),(4,.int .i64 0),(7,.int .i64 (b:Int)),(8,.int .i64 0)] w
variable{a b d e K w}
theorem ao.of(h:ao.W a b d e K w):bj prog 113 #[.slice a b d,.func (.func 92) #[] #[.pointer (some e)]] w K:=
 rqq func113 (C:=ao.k) h
end
section
variable(a:OA)(b c:Nat)(d:Addr)(e f g:Int)(Q:aM)(w:World)
def ao.B1:Prop:=
 Split (decide (g<f)) ((0<=g/\g<(b:Int))/\Is a fun i:Addr=>∃j:AV,(j.size=32/\Cells w (i.add (g.toNat*32)) j)/\bj prog 92 #[.agg j,.pointer (some d)] w fun k m=>∃n:Bool,k=.bool n/\Split n (Q .ret [(0,.slice a b c),(1,.func (.func 92) #[] #[.pointer (some d)]),(4,.int .i64 g),(7,.int .i64 f),(8,.int .i64 g)] m) (Q .normal [(0,.slice a b c),(1,.func (.func 92) #[] #[.pointer (some d)]),(4,.int .i64 e),(7,.int .i64 f),(8,.int .i64 (i64.wrap (g+(1:Int))))] m)) (Q (.exit 0) [(0,.slice a b c),(1,.func (.func 92) #[] #[.pointer (some d)]),(4,.int .i64 e),(7,.int .i64 f),(8,.int .i64 g)] w)
theorem ao.b1:(aO none [] prog 19 ao.k (lB (bB (sR (sL (sR (body f113)))))) ao.u1 Q [(0,.slice a b c),(1,.func (.func 92) #[] #[.pointer (some d)]),(4,.int .i64 e),(7,.int .i64 f),(8,.int .i64 g)] w)=ao.B1 a b c d e f g Q w:=by kernel_rfl
variable{a b c d f}
theorem ao.b7(I:Int×Int->World->Prop)(μ:Int×Int->World->Nat)(s:Int×Int){Q:aM}{w:World}(h0:I s w)
 (round:∀s w,I s w->ao.B1 a b c d (s.1) f (s.2) (bI (ao.e1 a b c d f) I μ s w Q) w):Holds none [] prog 19 (.loop (lB (bB (sR (sL (sR (body f113))))))) Q (ao.e1 a b c d f s) w:=
 ba ng mix (ao.e1 a b c d f) I μ ao.k ao.u1 s (fun s Q w=>ao.B1 a b c d (s.1) f (s.2) Q w) (fun s Q w=>ao.b1 a b c d (s.1) f (s.2) Q w) h0 round
end
section
def ao.cK(a:OA)(b c:Nat)(d:Addr)(e f g:Int)(K:KT)(w:World):Prop:=
 K (.int .i64 (-1)) w
variable(a:OA)(b c:Nat)(d:Addr)(e f g:Int)(K:KT)(w:World)
theorem ao.c8:(ao.q1 K (.exit 0) [(0,.slice a b c),(1,.func (.func 92) #[] #[.pointer (some d)]),(4,.int .i64 e),(7,.int .i64 f),(8,.int .i64 g)] w)=ao.cK a b c d e f g K w:=by kernel_rfl
end
def ak.k:List Nat:= []
def ak.q1(K:KT):aM:=(aI 0 (bM (sR (sR (body f113)))++(aT f113)) (bD (fun bE w_=>match cutAt ak.k (sR (sR (body f113)))with|true=>Holds none [] prog 19 (sR (sR (body f113))) (bO prog f113 K) bE w_|false=>aO none [] prog 19 ak.k (sR (sR (body f113))) (aT f113) (bO prog f113 K) bE w_) (bO prog f113 K)))
def ak.e1(a:OA)(b c:Nat)(d e:Addr)(f:Int)(s:Int×Int):Env:= [(0,.slice a b c),(1,.func (.func 104) #[] #[.pointer (some d),.pointer (some e)]),(4,.int .i64 s.1),(7,.int .i64 f),(8,.int .i64 s.2)]
def ak.u1:List Nat:= [0,1,4,7,8]
section
variable(a:OA)(b d:Nat)(e f:Addr)(K:KT)(w:World)
def ak.W:Prop:=
 Holds none [] prog 19 (.loop (lB (bB (sR (sL (sR (body f113))))))) (ak.q1 K) [(0,.slice a b d),(1,.func (.func 104) #[] #[.pointer (some e),.pointer (some f)]),(4,.int .i64 0),(7,.int .i64 (b:Int)),(8,.int .i64 0)] w
variable{a b d e f K w}
theorem ak.of(h:ak.W a b d e f K w):bj prog 113 #[.slice a b d,.func (.func 104) #[] #[.pointer (some e),.pointer (some f)]] w K:=
 rqq func113 (C:=ak.k) h
end
section
variable(a:OA)(b c:Nat)(d e:Addr)(f g i:Int)(Q:aM)(w:World)
def ak.B1:Prop:=
 Split (decide (i<g)) ((0<=i/\i<(b:Int))/\Is a fun j:Addr=>∃k:AV,(k.size=32/\Cells w (j.add (i.toNat*32)) k)/\bj prog 104 #[.agg k,.pointer (some d),.pointer (some e)] w fun m n=>∃o:Bool,m=.bool o/\Split o (Q .ret [(0,.slice a b c),(1,.func (.func 104) #[] #[.pointer (some d),.pointer (some e)]),(4,.int .i64 i),(7,.int .i64 g),(8,.int .i64 i)] n) (Q .normal [(0,.slice a b c),(1,.func (.func 104) #[] #[.pointer (some d),.pointer (some e)]),(4,.int .i64 f),(7,.int .i64 g),(8,.int .i64 (i64.wrap (i+(1:Int))))] n)) (Q (.exit 0) [(0,.slice a b c),(1,.func (.func 104) #[] #[.pointer (some d),.pointer (some e)]),(4,.int .i64 f),(7,.int .i64 g),(8,.int .i64 i)] w)
theorem ak.b1:(aO none [] prog 19 ak.k (lB (bB (sR (sL (sR (body f113)))))) ak.u1 Q [(0,.slice a b c),(1,.func (.func 104) #[] #[.pointer (some d),.pointer (some e)]),(4,.int .i64 f),(7,.int .i64 g),(8,.int .i64 i)] w)=ak.B1 a b c d e f g i Q w:=by kernel_rfl
variable{a b c d e g}
theorem ak.b7(I:Int×Int->World->Prop)(μ:Int×Int->World->Nat)(s:Int×Int){Q:aM}{w:World}(h0:I s w)
 (round:∀s w,I s w->ak.B1 a b c d e (s.1) g (s.2) (bI (ak.e1 a b c d e g) I μ s w Q) w):Holds none [] prog 19 (.loop (lB (bB (sR (sL (sR (body f113))))))) Q (ak.e1 a b c d e g s) w:=
 ba ng mix (ak.e1 a b c d e g) I μ ak.k ak.u1 s (fun s Q w=>ak.B1 a b c d e (s.1) g (s.2) Q w) (fun s Q w=>ak.b1 a b c d e (s.1) g (s.2) Q w) h0 round
end
section
def ak.cK(a:OA)(b c:Nat)(d e:Addr)(f g i:Int)(K:KT)(w:World):Prop:=
 K (.int .i64 (-1)) w
variable(a:OA)(b c:Nat)(d e:Addr)(f g i:Int)(K:KT)(w:World)
theorem ak.c8:(ak.q1 K (.exit 0) [(0,.slice a b c),(1,.func (.func 104) #[] #[.pointer (some d),.pointer (some e)]),(4,.int .i64 f),(7,.int .i64 g),(8,.int .i64 i)] w)=ak.cK a b c d e f g i K w:=by kernel_rfl
end
def aV.k:List Nat:= []
def aV.q1(K:KT):aM:=(aI 0 (aT f89) (bO prog f89 K))
def aV.e1(a:Nat)(b:Addr)(s:Int):Env:= [(0,.func (.yield a) #[] #[]),(1,.pointer (some b)),(4,.int .i64 s)]
def aV.u1:List Nat:= [0,1,4]
section
variable(a:Nat)(b d:Addr)(K:KT)(w:World)
def aV.W:Prop:=
 ∃e:OA,w.cell? b=some (.pointer e)/\∃f:AV,(f.size=32/\Cells w d f)/\f.size=32/\let g:=w.alloc (.cells (f.toList++ []).toArray 23);bj prog 55 #[.pointer e,.slice (some (⟨w.heap.size,0,none⟩:Addr)) 1 1] g fun i j=>∃k:Bool,i=.bool k/\Split (!k) (K (.tuple #[]) j) (let m:=j.drew;∃n:OA,m.cell? b=some (.pointer n)/\Is n fun o:Addr=>∃p:Option Nat,m.cell? (o.add 2)=some (.map p)/\∃q:AV,(q.size=32/\Cells m d q)/\∃r:Int,(Instr.lookup 89 (.map p) (.agg q) false).run prog m=.ok (.int .i64 r) m/\Holds none [] prog 38 (.loop (lB (bB (sR (sR (body f89)))))) (aV.q1 K) [(0,.func (.yield a) #[] #[]),(1,.pointer (some b)),(4,.int .i64 r)] m)
variable{a b d K w}
theorem aV.of(h:aV.W a b d K w):bj prog 89 #[.func (.yield a) #[] #[],.pointer (some b),.pointer (some d)] w K:=
 rqq func89 (C:=aV.k) h
end
section
variable(a:Nat)(b:Addr)(c:Int)(Q:aM)(w:World)
def aV.B1:Prop:=
 ∃d:OA,w.cell? b=some (.pointer d)/\Is d fun e:Addr=>∃f:OA,∃g i:Nat,w.cell? (e.add 3)=some (.slice f g i)/\(0<=c/\c<(g:Int))/\Is f fun j:Addr=>∃k:AV,(k.size=32/\Cells w (j.add (c.toNat*32)) k)/\jO prog a #[.agg k] w fun m n=>Split m (Split (decide (c>(0:Int))) (∃o:OA,n.cell? b=some (.pointer o)/\Is o fun p:Addr=>∃q:OA,n.cell? (p.add 1)=some (.pointer q)/\bj prog 90 #[.pointer q,.int .i64 c] n fun r t=>∃u v:Int,r=.tuple #[.int .i64 u,.int .i64 v]/\Q .normal [(0,.func (.yield a) #[] #[]),(1,.pointer (some b)),(4,.int .i64 u)] t) (Q (.exit 0) [(0,.func (.yield a) #[] #[]),(1,.pointer (some b)),(4,.int .i64 c)] n)) (Q (.exit 0) [(0,.func (.yield a) #[] #[]),(1,.pointer (some b)),(4,.int .i64 c)] n)
theorem aV.b1:(aO none [] prog 38 aV.k (lB (bB (sR (sR (body f89))))) aV.u1 Q [(0,.func (.yield a) #[] #[]),(1,.pointer (some b)),(4,.int .i64 c)] w)=aV.B1 a b c Q w:=by kernel_rfl
variable{a b}
theorem aV.b7(I:Int->World->Prop)(μ:Int->World->Nat)(s:Int){Q:aM}{w:World}(h0:I s w)
 (round:∀s w,I s w->aV.B1 a b s (bI (aV.e1 a b) I μ s w Q) w):Holds none [] prog 38 (.loop (lB (bB (sR (sR (body f89)))))) Q (aV.e1 a b s) w:=
 ba ng mix (aV.e1 a b) I μ aV.k aV.u1 s (fun s Q w=>aV.B1 a b s Q w) (fun s Q w=>aV.b1 a b s Q w) h0 round
end
section
def aV.cK(a:Nat)(b:Addr)(c:Int)(K:KT)(w:World):Prop:=
 K (.tuple #[]) w
variable(a:Nat)(b:Addr)(c:Int)(K:KT)(w:World)
theorem aV.c8:(aV.q1 K (.exit 0) [(0,.func (.yield a) #[] #[]),(1,.pointer (some b)),(4,.int .i64 c)] w)=aV.cK a b c K w:=by kernel_rfl
end
end Go.Proofs.YtnboahlopghcjaaGreatDoor
