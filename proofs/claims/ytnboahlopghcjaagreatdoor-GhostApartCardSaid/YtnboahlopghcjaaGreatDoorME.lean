import Derived.Test.YtnboahlopghcjaaGreatDoorProg
import Derived.Test.YtnboahlopghcjaaGreatDoorMA
import Derived.Test.YtnboahlopghcjaaGreatDoorMB
open Go.IntKind (i64 u64)
set_option linter.unusedVariables false
namespace Go.Proofs.YtnboahlopghcjaaGreatDoor
open Go.Proofs.Tryz
open Go Go.bT
def eo.k:List Nat:= []
section
variable(a:OA)(b d:AV)(K:KT)(w:World)
def eo.W:Prop:=
 let e:=w.alloc (.cells b 23);let f:=e.alloc (.cells d 23);let g:=f.drew;∃i:AV,(i.size=32/\Cells g (⟨w.heap.size,0,none⟩:Addr) i)/\∃j:AV,(j.size=32/\Cells g (⟨e.heap.size,0,none⟩:Addr) j)/\i.size=32/\j.size=32/\let k:=g.alloc (.cells (i.toList++(j.toList++([]))).toArray 23);bj prog 55 #[.pointer a,.slice (some (⟨g.heap.size,0,none⟩:Addr)) 2 2] k fun m n=>∃o:Bool,m=.bool o/\Split o (Is a fun p:Addr=>∃q:OA,n.cell? (p.add 1)=some (.pointer q)/\Is a fun r:Addr=>∃t:Option Nat,n.cell? (r.add 2)=some (.map t)/\∃u:AV,(u.size=32/\Cells n (⟨e.heap.size,0,none⟩:Addr) u)/\∃v:Int,(Instr.lookup 89 (.map t) (.agg u) false).run prog n=.ok (.int .i64 v) n/\Is a fun x:Addr=>∃y:Option Nat,n.cell? (x.add 2)=some (.map y)/\∃z:AV,(z.size=32/\Cells n (⟨w.heap.size,0,none⟩:Addr) z)/\∃a1:Int,(Instr.lookup 89 (.map y) (.agg z) false).run prog n=.ok (.int .i64 a1) n/\bj prog 56 #[.pointer q,.int .i64 v,.int .i64 a1] n fun b1 c1=>∃d1:Bool,b1=.bool d1/\K (.bool d1) c1) (K (.bool false) n)
variable{a b d K w}
theorem eo.of(h:eo.W a b d K w):bj prog 32 #[.pointer a,.agg b,.agg d] w K:=
 rqq func32 (C:=eo.k) h
end
def ek.k:List Nat:= []
section
variable(a:OA)(K:KT)(w:World)
def ek.W:Prop:=
 Split ((a).isNone) (K (.pointer none) w) (Is a fun b:Addr=>∃d:OA,w.cell? (b.add 0)=some (.pointer d)/\K (.pointer d) w)
variable{a K w}
theorem ek.of(h:ek.W a K w):bj prog 35 #[.pointer a] w K:=
 rqq func35 (C:=ek.k) h
end
def au.k:List Nat:= []
def au.N1(a b:OA)(c d e:World)(K:KT)(f:World):Prop:=
 let g:=f.alloc (.cells (#[.pointer a,.pointer b,.map (some c.heap.size),.slice (some (⟨d.heap.size,0,none⟩:Addr)) 1 1,.map (some e.heap.size)]:AV) 109);K (.pointer (some (⟨f.heap.size,0,none⟩:Addr))) g
def au.N2(a b:OA)(c d:World)(K:KT)(e:World):Prop:=
 let f:=e.alloc (.map #[] 0);au.N1 a b c d e K f
def au.N3(a:AV)(b c:OA)(d e:World)(K:KT)(f:World):Prop:=
 a.size=32/\let g:=f.alloc (.cells (a.toList++ []).toArray 23);au.N1 b c d f e K g
def au.N4(a:AV)(b c:OA)(d w:World)(K:KT)(e:World):Prop:=
 (a.size=32/\let f:=e.alloc (.cells (a.toList++ []).toArray 23);au.N2 b c d e K f)/\(let g:=e.alloc (.map #[] 0);(∃cs:AV,(.agg a:Value)=.agg cs/\cs.size=32/\Cells g (⟨w.heap.size,0,none⟩:Addr) cs)/\au.N3 a b c d e K g)
def au.N5(a:World)(b:AV)(c d:OA)(e f:World)(K:KT)(g:World):Prop:=
 ∃i:World,(Instr.mapUpdate 89 (.map (some a.heap.size)) (.agg b) (.int .i64 0)).run prog g=.ok () i/\au.N1 c d a e f K i
def au.N6(a:World)(b:AV)(c d:OA)(e w:World)(K:KT)(f:World):Prop:=
 (∃g:World,(Instr.mapUpdate 89 (.map (some a.heap.size)) (.agg b) (.int .i64 0)).run prog f=.ok () g/\au.N2 c d a e K g)/\(let i:=f.alloc (.map #[] 0);(∃cs:AV,(.agg b:Value)=.agg cs/\cs.size=32/\Cells i (⟨w.heap.size,0,none⟩:Addr) cs)/\au.N5 a b c d e f K i)
def au.N7(a:World)(b c:AV)(w:World)(d e:OA)(f:World)(K:KT)(g:World):Prop:=
 (∃i:World,(Instr.mapUpdate 89 (.map (some a.heap.size)) (.agg b) (.int .i64 0)).run prog g=.ok () i/\(∃cs:AV,(.agg c:Value)=.agg cs/\cs.size=32/\Cells i (⟨w.heap.size,0,none⟩:Addr) cs)/\au.N3 c d e a f K i)/\(c.size=32/\let j:=g.alloc (.cells (c.toList++ []).toArray 23);(∃cs:AV,(.agg b:Value)=.agg cs/\cs.size=32/\Cells j (⟨w.heap.size,0,none⟩:Addr) cs)/\au.N5 a b d e g f K j)
def au.N8(a:World)(b c:AV)(w:World)(d e:OA)(K:KT)(f:World):Prop:=
 (∃g:World,(Instr.mapUpdate 89 (.map (some a.heap.size)) (.agg b) (.int .i64 0)).run prog f=.ok () g/\(∃cs:AV,(.agg c:Value)=.agg cs/\cs.size=32/\Cells g (⟨w.heap.size,0,none⟩:Addr) cs)/\au.N4 c d e a w K g)/\(c.size=32/\let i:=f.alloc (.cells (c.toList++ []).toArray 23);(∃cs:AV,(.agg b:Value)=.agg cs/\cs.size=32/\Cells i (⟨w.heap.size,0,none⟩:Addr) cs)/\au.N6 a b d e f w K i)/\(let j:=f.alloc (.map #[] 0);(∃cs:AV,(.agg c:Value)=.agg cs/\cs.size=32/\Cells j (⟨w.heap.size,0,none⟩:Addr) cs)/\(∃cs:AV,(.agg b:Value)=.agg cs/\cs.size=32/\Cells j (⟨w.heap.size,0,none⟩:Addr) cs)/\au.N7 a b c w d e f K j)
def au.N9(a:AV)(w:World)(b c:OA)(d e:World)(K:KT)(f:World):Prop:=
 let g:=f.alloc (.map #[] 0);(∃cs:AV,(.agg a:Value)=.agg cs/\cs.size=32/\Cells g (⟨w.heap.size,0,none⟩:Addr) cs)/\au.N5 f a b c d e K g
def au.Tx(a:AV)(w:World)(b c:OA)(d:World)(K:KT)(e:World):Prop:=
 (let f:=e.alloc (.map #[] 0);(∃cs:AV,(.agg a:Value)=.agg cs/\cs.size=32/\Cells f (⟨w.heap.size,0,none⟩:Addr) cs)/\au.N6 e a b c d w K f)/\(let g:=e.alloc (.map #[] 0);(∃cs:AV,(.agg a:Value)=.agg cs/\cs.size=32/\Cells g (⟨w.heap.size,0,none⟩:Addr) cs)/\au.N9 a w b c d e K g)
def au.N11(a:AV)(w:World)(b:AV)(c d:OA)(e:World)(K:KT)(f:World):Prop:=
 (let g:=f.alloc (.map #[] 0);(∃cs:AV,(.agg a:Value)=.agg cs/\cs.size=32/\Cells g (⟨w.heap.size,0,none⟩:Addr) cs)/\(∃cs:AV,(.agg b:Value)=.agg cs/\cs.size=32/\Cells g (⟨w.heap.size,0,none⟩:Addr) cs)/\au.N7 f b a w c d e K g)/\(a.size=32/\let i:=f.alloc (.cells (a.toList++ []).toArray 23);(∃cs:AV,(.agg b:Value)=.agg cs/\cs.size=32/\Cells i (⟨w.heap.size,0,none⟩:Addr) cs)/\au.N9 b w c d f e K i)
def au.Sk(a:AV)(w:World)(b:AV)(c d:OA)(K:KT)(e:World):Prop:=
 (let f:=e.alloc (.map #[] 0);(∃cs:AV,(.agg a:Value)=.agg cs/\cs.size=32/\Cells f (⟨w.heap.size,0,none⟩:Addr) cs)/\(∃cs:AV,(.agg b:Value)=.agg cs/\cs.size=32/\Cells f (⟨w.heap.size,0,none⟩:Addr) cs)/\au.N8 e b a w c d K f)/\(a.size=32/\let g:=e.alloc (.cells (a.toList++ []).toArray 23);(∃cs:AV,(.agg b:Value)=.agg cs/\cs.size=32/\Cells g (⟨w.heap.size,0,none⟩:Addr) cs)/\au.Tx b w c d e K g)/\(let i:=e.alloc (.map #[] 0);(∃cs:AV,(.agg a:Value)=.agg cs/\cs.size=32/\Cells i (⟨w.heap.size,0,none⟩:Addr) cs)/\(∃cs:AV,(.agg b:Value)=.agg cs/\cs.size=32/\Cells i (⟨w.heap.size,0,none⟩:Addr) cs)/\au.N11 a w b c d e K i)
def au.M9(a:OA)(b c d:World)(K:KT)(e:World):Prop:=
 bj prog 65 #[] e fun f g=>∃i:OA,f=.pointer i/\au.N1 a i b c d K g
def au.Sj(a:OA)(b c:World)(K:KT)(d:World):Prop:=
 (bj prog 65 #[] d fun e f=>∃g:OA,e=.pointer g/\au.N2 a g b c K f)/\(let i:=d.alloc (.map #[] 0);au.M9 a b c d K i)
def au.YU(a:AV)(w:World)(b:OA)(c d:World)(K:KT)(e:World):Prop:=
 (bj prog 65 #[] e fun f g=>∃i:OA,f=.pointer i/\(∃cs:AV,(.agg a:Value)=.agg cs/\cs.size=32/\Cells g (⟨w.heap.size,0,none⟩:Addr) cs)/\au.N3 a b i c d K g)/\(a.size=32/\let j:=e.alloc (.cells (a.toList++ []).toArray 23);au.M9 b c e d K j)
def au.Tw(a:AV)(w:World)(b:OA)(c:World)(K:KT)(d:World):Prop:=
 (bj prog 65 #[] d fun e f=>∃g:OA,e=.pointer g/\(∃cs:AV,(.agg a:Value)=.agg cs/\cs.size=32/\Cells f (⟨w.heap.size,0,none⟩:Addr) cs)/\au.N4 a b g c w K f)/\(a.size=32/\let i:=d.alloc (.cells (a.toList++ []).toArray 23);au.Sj b c d K i)/\(let j:=d.alloc (.map #[] 0);(∃cs:AV,(.agg a:Value)=.agg cs/\cs.size=32/\Cells j (⟨w.heap.size,0,none⟩:Addr) cs)/\au.YU a w b c d K j)
def au.Tv(a:AV)(w b:World)(c:OA)(d e:World)(K:KT)(f:World):Prop:=
 (bj prog 65 #[] f fun g i=>∃j:OA,g=.pointer j/\(∃cs:AV,(.agg a:Value)=.agg cs/\cs.size=32/\Cells i (⟨w.heap.size,0,none⟩:Addr) cs)/\au.N5 b a c j d e K i)/\(∃k:World,(Instr.mapUpdate 89 (.map (some b.heap.size)) (.agg a) (.int .i64 0)).run prog f=.ok () k/\au.M9 c b d e K k)
def au.YT(a:AV)(w b:World)(c:OA)(d:World)(K:KT)(e:World):Prop:=
 (bj prog 65 #[] e fun f g=>∃i:OA,f=.pointer i/\(∃cs:AV,(.agg a:Value)=.agg cs/\cs.size=32/\Cells g (⟨w.heap.size,0,none⟩:Addr) cs)/\au.N6 b a c i d w K g)/\(∃j:World,(Instr.mapUpdate 89 (.map (some b.heap.size)) (.agg a) (.int .i64 0)).run prog e=.ok () j/\au.Sj c b d K j)/\(let k:=e.alloc (.map #[] 0);(∃cs:AV,(.agg a:Value)=.agg cs/\cs.size=32/\Cells k (⟨w.heap.size,0,none⟩:Addr) cs)/\au.Tv a w b c d e K k)
def au.KQ(a:AV)(w:World)(b:AV)(c:World)(d:OA)(e:World)(K:KT)(f:World):Prop:=
 (bj prog 65 #[] f fun g i=>∃j:OA,g=.pointer j/\(∃cs:AV,(.agg a:Value)=.agg cs/\cs.size=32/\Cells i (⟨w.heap.size,0,none⟩:Addr) cs)/\(∃cs:AV,(.agg b:Value)=.agg cs/\cs.size=32/\Cells i (⟨w.heap.size,0,none⟩:Addr) cs)/\au.N7 c b a w d j e K i)/\(∃k:World,(Instr.mapUpdate 89 (.map (some c.heap.size)) (.agg b) (.int .i64 0)).run prog f=.ok () k/\(∃cs:AV,(.agg a:Value)=.agg cs/\cs.size=32/\Cells k (⟨w.heap.size,0,none⟩:Addr) cs)/\au.YU a w d c e K k)/\(a.size=32/\let m:=f.alloc (.cells (a.toList++ []).toArray 23);(∃cs:AV,(.agg b:Value)=.agg cs/\cs.size=32/\Cells m (⟨w.heap.size,0,none⟩:Addr) cs)/\au.Tv b w c d f e K m)
def au.Pd(a:AV)(w:World)(b:AV)(c:World)(d:OA)(K:KT)(e:World):Prop:=
 (bj prog 65 #[] e fun f g=>∃i:OA,f=.pointer i/\(∃cs:AV,(.agg a:Value)=.agg cs/\cs.size=32/\Cells g (⟨w.heap.size,0,none⟩:Addr) cs)/\(∃cs:AV,(.agg b:Value)=.agg cs/\cs.size=32/\Cells g (⟨w.heap.size,0,none⟩:Addr) cs)/\au.N8 c b a w d i K g)/\(∃j:World,(Instr.mapUpdate 89 (.map (some c.heap.size)) (.agg b) (.int .i64 0)).run prog e=.ok () j/\(∃cs:AV,(.agg a:Value)=.agg cs/\cs.size=32/\Cells j (⟨w.heap.size,0,none⟩:Addr) cs)/\au.Tw a w d c K j)/\(a.size=32/\let k:=e.alloc (.cells (a.toList++ []).toArray 23);(∃cs:AV,(.agg b:Value)=.agg cs/\cs.size=32/\Cells k (⟨w.heap.size,0,none⟩:Addr) cs)/\au.YT b w c d e K k)/\(let m:=e.alloc (.map #[] 0);(∃cs:AV,(.agg a:Value)=.agg cs/\cs.size=32/\Cells m (⟨w.heap.size,0,none⟩:Addr) cs)/\(∃cs:AV,(.agg b:Value)=.agg cs/\cs.size=32/\Cells m (⟨w.heap.size,0,none⟩:Addr) cs)/\au.KQ a w b c d e K m)
def au.Pc(a:AV)(w:World)(b:OA)(c d:World)(K:KT)(e:World):Prop:=
 (bj prog 65 #[] e fun f g=>∃i:OA,f=.pointer i/\(∃cs:AV,(.agg a:Value)=.agg cs/\cs.size=32/\Cells g (⟨w.heap.size,0,none⟩:Addr) cs)/\au.N9 a w b i c d K g)/\(let j:=e.alloc (.map #[] 0);(∃cs:AV,(.agg a:Value)=.agg cs/\cs.size=32/\Cells j (⟨w.heap.size,0,none⟩:Addr) cs)/\au.Tv a w e b c d K j)
def au.Tu(a:AV)(w:World)(b:OA)(c:World)(K:KT)(d:World):Prop:=
 (bj prog 65 #[] d fun e f=>∃g:OA,e=.pointer g/\(∃cs:AV,(.agg a:Value)=.agg cs/\cs.size=32/\Cells f (⟨w.heap.size,0,none⟩:Addr) cs)/\au.Tx a w b g c K f)/\(let i:=d.alloc (.map #[] 0);(∃cs:AV,(.agg a:Value)=.agg cs/\cs.size=32/\Cells i (⟨w.heap.size,0,none⟩:Addr) cs)/\au.YT a w d b c K i)/\(let j:=d.alloc (.map #[] 0);(∃cs:AV,(.agg a:Value)=.agg cs/\cs.size=32/\Cells j (⟨w.heap.size,0,none⟩:Addr) cs)/\au.Pc a w b c d K j)
def au.N23(a:AV)(w:World)(b:AV)(c:OA)(d:World)(K:KT)(e:World):Prop:=
 (bj prog 65 #[] e fun f g=>∃i:OA,f=.pointer i/\(∃cs:AV,(.agg a:Value)=.agg cs/\cs.size=32/\Cells g (⟨w.heap.size,0,none⟩:Addr) cs)/\(∃cs:AV,(.agg b:Value)=.agg cs/\cs.size=32/\Cells g (⟨w.heap.size,0,none⟩:Addr) cs)/\au.N11 a w b c i d K g)/\(let j:=e.alloc (.map #[] 0);(∃cs:AV,(.agg a:Value)=.agg cs/\cs.size=32/\Cells j (⟨w.heap.size,0,none⟩:Addr) cs)/\(∃cs:AV,(.agg b:Value)=.agg cs/\cs.size=32/\Cells j (⟨w.heap.size,0,none⟩:Addr) cs)/\au.KQ a w b e c d K j)/\(a.size=32/\let k:=e.alloc (.cells (a.toList++ []).toArray 23);(∃cs:AV,(.agg b:Value)=.agg cs/\cs.size=32/\Cells k (⟨w.heap.size,0,none⟩:Addr) cs)/\au.Pc b w c e d K k)
def au.YR(a:AV)(w:World)(b:AV)(c:OA)(K:KT)(d:World):Prop:=
 (bj prog 65 #[] d fun e f=>∃g:OA,e=.pointer g/\(∃cs:AV,(.agg a:Value)=.agg cs/\cs.size=32/\Cells f (⟨w.heap.size,0,none⟩:Addr) cs)/\(∃cs:AV,(.agg b:Value)=.agg cs/\cs.size=32/\Cells f (⟨w.heap.size,0,none⟩:Addr) cs)/\au.Sk a w b c g K f)/\(let i:=d.alloc (.map #[] 0);(∃cs:AV,(.agg a:Value)=.agg cs/\cs.size=32/\Cells i (⟨w.heap.size,0,none⟩:Addr) cs)/\(∃cs:AV,(.agg b:Value)=.agg cs/\cs.size=32/\Cells i (⟨w.heap.size,0,none⟩:Addr) cs)/\au.Pd a w b d c K i)/\(a.size=32/\let j:=d.alloc (.cells (a.toList++ []).toArray 23);(∃cs:AV,(.agg b:Value)=.agg cs/\cs.size=32/\Cells j (⟨w.heap.size,0,none⟩:Addr) cs)/\au.Tu b w c d K j)/\(let k:=d.alloc (.map #[] 0);(∃cs:AV,(.agg a:Value)=.agg cs/\cs.size=32/\Cells k (⟨w.heap.size,0,none⟩:Addr) cs)/\(∃cs:AV,(.agg b:Value)=.agg cs/\cs.size=32/\Cells k (⟨w.heap.size,0,none⟩:Addr) cs)/\au.N23 a w b c d K k)
def au.M8(a:AV)(b c d:World)(K:KT)(e:World):Prop:=
 bj prog 64 #[.agg a] e fun f g=>∃i:OA,f=.pointer i/\au.M9 i b c d K g
def au.N26(a:AV)(b c w:World)(K:KT)(d:World):Prop:=
 (bj prog 64 #[.agg a] d fun e f=>∃g:OA,e=.pointer g/\au.Sj g b c K f)/\(let i:=d.alloc (.map #[] 0);(∃cs:AV,(.agg a:Value)=.agg cs/\cs.size=32/\Cells i (⟨w.heap.size,0,none⟩:Addr) cs)/\au.M8 a b c d K i)
def au.Si(a b:AV)(w c d:World)(K:KT)(e:World):Prop:=
 (bj prog 64 #[.agg a] e fun f g=>∃i:OA,f=.pointer i/\(∃cs:AV,(.agg b:Value)=.agg cs/\cs.size=32/\Cells g (⟨w.heap.size,0,none⟩:Addr) cs)/\au.YU b w i c d K g)/\(b.size=32/\let j:=e.alloc (.cells (b.toList++ []).toArray 23);(∃cs:AV,(.agg a:Value)=.agg cs/\cs.size=32/\Cells j (⟨w.heap.size,0,none⟩:Addr) cs)/\au.M8 a c e d K j)
def au.N28(a b:AV)(w c:World)(K:KT)(d:World):Prop:=
 (bj prog 64 #[.agg a] d fun e f=>∃g:OA,e=.pointer g/\(∃cs:AV,(.agg b:Value)=.agg cs/\cs.size=32/\Cells f (⟨w.heap.size,0,none⟩:Addr) cs)/\au.Tw b w g c K f)/\(b.size=32/\let i:=d.alloc (.cells (b.toList++ []).toArray 23);(∃cs:AV,(.agg a:Value)=.agg cs/\cs.size=32/\Cells i (⟨w.heap.size,0,none⟩:Addr) cs)/\au.N26 a c d w K i)/\(let j:=d.alloc (.map #[] 0);(∃cs:AV,(.agg b:Value)=.agg cs/\cs.size=32/\Cells j (⟨w.heap.size,0,none⟩:Addr) cs)/\(∃cs:AV,(.agg a:Value)=.agg cs/\cs.size=32/\Cells j (⟨w.heap.size,0,none⟩:Addr) cs)/\au.Si a b w c d K j)
def au.YQ(a b:AV)(w c d e:World)(K:KT)(f:World):Prop:=
 (bj prog 64 #[.agg a] f fun g i=>∃j:OA,g=.pointer j/\(∃cs:AV,(.agg b:Value)=.agg cs/\cs.size=32/\Cells i (⟨w.heap.size,0,none⟩:Addr) cs)/\au.Tv b w c j d e K i)/\(∃k:World,(Instr.mapUpdate 89 (.map (some c.heap.size)) (.agg b) (.int .i64 0)).run prog f=.ok () k/\(∃cs:AV,(.agg a:Value)=.agg cs/\cs.size=32/\Cells k (⟨w.heap.size,0,none⟩:Addr) cs)/\au.M8 a c d e K k)
def au.N30(a b:AV)(w c d:World)(K:KT)(e:World):Prop:=
 (bj prog 64 #[.agg a] e fun f g=>∃i:OA,f=.pointer i/\(∃cs:AV,(.agg b:Value)=.agg cs/\cs.size=32/\Cells g (⟨w.heap.size,0,none⟩:Addr) cs)/\au.YT b w c i d K g)/\(∃j:World,(Instr.mapUpdate 89 (.map (some c.heap.size)) (.agg b) (.int .i64 0)).run prog e=.ok () j/\(∃cs:AV,(.agg a:Value)=.agg cs/\cs.size=32/\Cells j (⟨w.heap.size,0,none⟩:Addr) cs)/\au.N26 a c d w K j)/\(let k:=e.alloc (.map #[] 0);(∃cs:AV,(.agg b:Value)=.agg cs/\cs.size=32/\Cells k (⟨w.heap.size,0,none⟩:Addr) cs)/\(∃cs:AV,(.agg a:Value)=.agg cs/\cs.size=32/\Cells k (⟨w.heap.size,0,none⟩:Addr) cs)/\au.YQ a b w c d e K k)
def au.N31(a b:AV)(w:World)(c:AV)(d e:World)(K:KT)(f:World):Prop:=
 (bj prog 64 #[.agg a] f fun g i=>∃j:OA,g=.pointer j/\(∃cs:AV,(.agg b:Value)=.agg cs/\cs.size=32/\Cells i (⟨w.heap.size,0,none⟩:Addr) cs)/\(∃cs:AV,(.agg c:Value)=.agg cs/\cs.size=32/\Cells i (⟨w.heap.size,0,none⟩:Addr) cs)/\au.KQ b w c d j e K i)/\(∃k:World,(Instr.mapUpdate 89 (.map (some d.heap.size)) (.agg c) (.int .i64 0)).run prog f=.ok () k/\(∃cs:AV,(.agg b:Value)=.agg cs/\cs.size=32/\Cells k (⟨w.heap.size,0,none⟩:Addr) cs)/\(∃cs:AV,(.agg a:Value)=.agg cs/\cs.size=32/\Cells k (⟨w.heap.size,0,none⟩:Addr) cs)/\au.Si a b w d e K k)/\(b.size=32/\let m:=f.alloc (.cells (b.toList++ []).toArray 23);(∃cs:AV,(.agg c:Value)=.agg cs/\cs.size=32/\Cells m (⟨w.heap.size,0,none⟩:Addr) cs)/\(∃cs:AV,(.agg a:Value)=.agg cs/\cs.size=32/\Cells m (⟨w.heap.size,0,none⟩:Addr) cs)/\au.YQ a c w d f e K m)
def au.N32(a b:AV)(w:World)(c:AV)(d:World)(K:KT)(e:World):Prop:=
 (bj prog 64 #[.agg a] e fun f g=>∃i:OA,f=.pointer i/\(∃cs:AV,(.agg b:Value)=.agg cs/\cs.size=32/\Cells g (⟨w.heap.size,0,none⟩:Addr) cs)/\(∃cs:AV,(.agg c:Value)=.agg cs/\cs.size=32/\Cells g (⟨w.heap.size,0,none⟩:Addr) cs)/\au.Pd b w c d i K g)/\(∃j:World,(Instr.mapUpdate 89 (.map (some d.heap.size)) (.agg c) (.int .i64 0)).run prog e=.ok () j/\(∃cs:AV,(.agg b:Value)=.agg cs/\cs.size=32/\Cells j (⟨w.heap.size,0,none⟩:Addr) cs)/\(∃cs:AV,(.agg a:Value)=.agg cs/\cs.size=32/\Cells j (⟨w.heap.size,0,none⟩:Addr) cs)/\au.N28 a b w d K j)/\(b.size=32/\let k:=e.alloc (.cells (b.toList++ []).toArray 23);(∃cs:AV,(.agg c:Value)=.agg cs/\cs.size=32/\Cells k (⟨w.heap.size,0,none⟩:Addr) cs)/\(∃cs:AV,(.agg a:Value)=.agg cs/\cs.size=32/\Cells k (⟨w.heap.size,0,none⟩:Addr) cs)/\au.N30 a c w d e K k)/\(let m:=e.alloc (.map #[] 0);(∃cs:AV,(.agg b:Value)=.agg cs/\cs.size=32/\Cells m (⟨w.heap.size,0,none⟩:Addr) cs)/\(∃cs:AV,(.agg c:Value)=.agg cs/\cs.size=32/\Cells m (⟨w.heap.size,0,none⟩:Addr) cs)/\(∃cs:AV,(.agg a:Value)=.agg cs/\cs.size=32/\Cells m (⟨w.heap.size,0,none⟩:Addr) cs)/\au.N31 a b w c d e K m)
def au.N33(a b:AV)(w c d:World)(K:KT)(e:World):Prop:=
 (bj prog 64 #[.agg a] e fun f g=>∃i:OA,f=.pointer i/\(∃cs:AV,(.agg b:Value)=.agg cs/\cs.size=32/\Cells g (⟨w.heap.size,0,none⟩:Addr) cs)/\au.Pc b w i c d K g)/\(let j:=e.alloc (.map #[] 0);(∃cs:AV,(.agg b:Value)=.agg cs/\cs.size=32/\Cells j (⟨w.heap.size,0,none⟩:Addr) cs)/\(∃cs:AV,(.agg a:Value)=.agg cs/\cs.size=32/\Cells j (⟨w.heap.size,0,none⟩:Addr) cs)/\au.YQ a b w e c d K j)
def au.N34(a b:AV)(w c:World)(K:KT)(d:World):Prop:=
 (bj prog 64 #[.agg a] d fun e f=>∃g:OA,e=.pointer g/\(∃cs:AV,(.agg b:Value)=.agg cs/\cs.size=32/\Cells f (⟨w.heap.size,0,none⟩:Addr) cs)/\au.Tu b w g c K f)/\(let i:=d.alloc (.map #[] 0);(∃cs:AV,(.agg b:Value)=.agg cs/\cs.size=32/\Cells i (⟨w.heap.size,0,none⟩:Addr) cs)/\(∃cs:AV,(.agg a:Value)=.agg cs/\cs.size=32/\Cells i (⟨w.heap.size,0,none⟩:Addr) cs)/\au.N30 a b w d c K i)/\(let j:=d.alloc (.map #[] 0);(∃cs:AV,(.agg b:Value)=.agg cs/\cs.size=32/\Cells j (⟨w.heap.size,0,none⟩:Addr) cs)/\(∃cs:AV,(.agg a:Value)=.agg cs/\cs.size=32/\Cells j (⟨w.heap.size,0,none⟩:Addr) cs)/\au.N33 a b w c d K j)
def au.N35(a b:AV)(w:World)(c:AV)(d:World)(K:KT)(e:World):Prop:=
 (bj prog 64 #[.agg a] e fun f g=>∃i:OA,f=.pointer i/\(∃cs:AV,(.agg b:Value)=.agg cs/\cs.size=32/\Cells g (⟨w.heap.size,0,none⟩:Addr) cs)/\(∃cs:AV,(.agg c:Value)=.agg cs/\cs.size=32/\Cells g (⟨w.heap.size,0,none⟩:Addr) cs)/\au.N23 b w c i d K g)/\(let j:=e.alloc (.map #[] 0);(∃cs:AV,(.agg b:Value)=.agg cs/\cs.size=32/\Cells j (⟨w.heap.size,0,none⟩:Addr) cs)/\(∃cs:AV,(.agg c:Value)=.agg cs/\cs.size=32/\Cells j (⟨w.heap.size,0,none⟩:Addr) cs)/\(∃cs:AV,(.agg a:Value)=.agg cs/\cs.size=32/\Cells j (⟨w.heap.size,0,none⟩:Addr) cs)/\au.N31 a b w c e d K j)/\(b.size=32/\let k:=e.alloc (.cells (b.toList++ []).toArray 23);(∃cs:AV,(.agg c:Value)=.agg cs/\cs.size=32/\Cells k (⟨w.heap.size,0,none⟩:Addr) cs)/\(∃cs:AV,(.agg a:Value)=.agg cs/\cs.size=32/\Cells k (⟨w.heap.size,0,none⟩:Addr) cs)/\au.N33 a c w e d K k)
def au.N36(a b:AV)(w:World)(c:AV)(K:KT)(d:World):Prop:=
 (bj prog 64 #[.agg a] d fun e f=>∃g:OA,e=.pointer g/\(∃cs:AV,(.agg b:Value)=.agg cs/\cs.size=32/\Cells f (⟨w.heap.size,0,none⟩:Addr) cs)/\(∃cs:AV,(.agg c:Value)=.agg cs/\cs.size=32/\Cells f (⟨w.heap.size,0,none⟩:Addr) cs)/\au.YR b w c g K f)/\(let i:=d.alloc (.map #[] 0);(∃cs:AV,(.agg b:Value)=.agg cs/\cs.size=32/\Cells i (⟨w.heap.size,0,none⟩:Addr) cs)/\(∃cs:AV,(.agg c:Value)=.agg cs/\cs.size=32/\Cells i (⟨w.heap.size,0,none⟩:Addr) cs)/\(∃cs:AV,(.agg a:Value)=.agg cs/\cs.size=32/\Cells i (⟨w.heap.size,0,none⟩:Addr) cs)/\au.N32 a b w c d K i)/\(b.size=32/\let j:=d.alloc (.cells (b.toList++ []).toArray 23);(∃cs:AV,(.agg c:Value)=.agg cs/\cs.size=32/\Cells j (⟨w.heap.size,0,none⟩:Addr) cs)/\(∃cs:AV,(.agg a:Value)=.agg cs/\cs.size=32/\Cells j (⟨w.heap.size,0,none⟩:Addr) cs)/\au.N34 a c w d K j)/\(let k:=d.alloc (.map #[] 0);(∃cs:AV,(.agg b:Value)=.agg cs/\cs.size=32/\Cells k (⟨w.heap.size,0,none⟩:Addr) cs)/\(∃cs:AV,(.agg c:Value)=.agg cs/\cs.size=32/\Cells k (⟨w.heap.size,0,none⟩:Addr) cs)/\(∃cs:AV,(.agg a:Value)=.agg cs/\cs.size=32/\Cells k (⟨w.heap.size,0,none⟩:Addr) cs)/\au.N35 a b w c d K k)
section
variable(a:AV)(K:KT)(w:World)
def au.W:Prop:=
 let b:=w.alloc (.cells a 23);let d:=b.drew;∃e:AV,(e.size=32/\Cells d (⟨w.heap.size,0,none⟩:Addr) e)/\∃f:AV,(f.size=32/\Cells d (⟨w.heap.size,0,none⟩:Addr) f)/\∃g:AV,(g.size=32/\Cells d (⟨w.heap.size,0,none⟩:Addr) g)/\au.N36 e g w f K d
variable{a K w}
theorem au.of(h:au.W a K w):bj prog 39 #[.agg a] w K:=
 rqq func39 (C:=au.k) h
end
def aC.k:List Nat:= []
def aC.q1(K:KT):aM:=(aL 1 (b7 (sR (sR (sR (sR (sR (sR (body f43)))))))++(aN f43)) (bQ (fun bV w_=>match cutAt aC.k (sR (sR (sR (sR (sR (sR (body f43)))))))with|true=>Holds none [] prog 131 (sR (sR (sR (sR (sR (sR (body f43))))))) (bI prog f43 K) bV w_|false=>aU none [] prog 131 aC.k (sR (sR (sR (sR (sR (sR (body f43))))))) (aN f43) (bI prog f43 K) bV w_) (bI prog f43 K)))
def aC.e1(a b:OA)(c d:Nat)(e f:Addr)(g:Int)(i:OA)(j:Option Nat)(k:OA)(m n:Nat)(o s:Int):Env:= [(0,.pointer a),(3,.slice b c d),(5,.pointer (some e)),(6,.pointer (some f)),(8,.int .i64 g),(9,.pointer i),(10,.map j),(57,.slice k m n),(58,.int .i64 o),(59,.int .i64 s)]
def aC.u1:List Nat:= [0,3,5,6,8,9,10,57,58,59]
def aC.q2(K:KT):aM:=(aL 3 (b7 (sR (sR (sR (sR (sR (sR (sR (sR (body f43)))))))))++(aN f43)) (bQ (fun bV w_=>match cutAt aC.k (sR (sR (sR (sR (sR (sR (sR (sR (body f43)))))))))with|true=>Holds none [] prog 131 (sR (sR (sR (sR (sR (sR (sR (sR (body f43))))))))) (bI prog f43 K) bV w_|false=>aU none [] prog 131 aC.k (sR (sR (sR (sR (sR (sR (sR (sR (body f43))))))))) (aN f43) (bI prog f43 K) bV w_) (bI prog f43 K)))
def aC.e2(a:OA)(b c:Addr)(d:Int)(e:Option Nat)(f:OA)(g i:Nat)(j s:Int):Env:= [(0,.pointer a),(5,.pointer (some b)),(6,.pointer (some c)),(8,.int .i64 d),(10,.map e),(74,.slice f g i),(75,.int .i64 j),(76,.int .i64 s)]
def aC.u2:List Nat:= [0,5,6,8,10,74,75,76]
section
variable(a:OA)(b d:AV)(e:OA)(f g:Nat)(K:KT)(w:World)
def aC.W:Prop:=
 let i:=w.alloc (.cells b 23);let j:=i.alloc (.cells d 23);bj prog 78 #[.pointer a] j fun k m=>∃n:Bool,k=.bool n/\Split (!n) (K (.int .i64 1) m) (Is a fun o:Addr=>∃p:OA,m.cell? (o.add 0)=some (.pointer p)/\∃q:AV,(q.size=32/\Cells m (⟨w.heap.size,0,none⟩:Addr) q)/\bj prog 79 #[.pointer p,.agg q] m fun r t=>∃u:Bool,r=.bool u/\Split u (K (.int .i64 7) t) (Split ((f:Int)==(0:Int)) (K (.int .i64 9) t) (bj prog 41 #[.slice e f g] t fun v x=>∃y:OA,∃z a1:Nat,v=.slice y z a1/\Split ((z:Int) != (f:Int)) (K (.int .i64 9) x) (bj prog 55 #[.pointer a,.slice e f g] x fun b1 c1=>∃d1:Bool,b1=.bool d1/\Split (!d1) (K (.int .i64 6) c1) (∃e1:AV,(e1.size=32/\Cells c1 (⟨i.heap.size,0,none⟩:Addr) e1)/\bj prog 54 #[.slice e f g,.agg e1] c1 fun f1 g1=>∃i1:Bool,f1=.bool i1/\Split (!i1) (K (.int .i64 2) g1) (let j1:=g1.alloc (.map #[] 0);∃k1:AV,(k1.size=32/\Cells j1 (⟨i.heap.size,0,none⟩:Addr) k1)/\∃m1:World,(Instr.mapUpdate 129 (.map (some g1.heap.size)) (.agg k1) (.agg #[.bool true])).run prog j1=.ok () m1/\∃n1:AV,(n1.size=32/\Cells m1 (⟨i.heap.size,0,none⟩:Addr) n1)/\n1.size=32/\let o1:=m1.alloc (.cells (n1.toList++ []).toArray 23);bj prog 70 #[.pointer p,.slice (some (⟨m1.heap.size,0,none⟩:Addr)) 1 1] o1 fun p1 q1=>∃r1:OA,∃t1 u1:Nat,p1=.slice r1 t1 u1/\Holds none [] prog 131 (.loop (lB (bB (sR (sL (sR (sR (sR (sR (sR (body f43))))))))))) (aC.q1 K) [(0,.pointer a),(3,.slice e f g),(5,.pointer (some (⟨w.heap.size,0,none⟩:Addr))),(6,.pointer (some (⟨i.heap.size,0,none⟩:Addr))),(8,.int .i64 0),(9,.pointer p),(10,.map (some g1.heap.size)),(57,.slice r1 t1 u1),(58,.int .i64 (t1:Int)),(59,.int .i64 0)] q1))))))
variable{a b d e f g K w}
theorem aC.of(h:aC.W a b d e f g K w):bj prog 43 #[.pointer a,.agg b,.agg d,.slice e f g] w K:=
 rqq func43 (C:=aC.k) h
end
section
variable(a b:OA)(c d:Nat)(e f:Addr)(g:Int)(i:OA)(j:Option Nat)(k:OA)(m n:Nat)(o p:Int)(Q:aM)(w:World)
def aC.B1:Prop:=
 Split (decide (p<o)) ((0<=p/\p<(m:Int))/\Is k fun q:Addr=>∃r:AV,(r.size=32/\Cells w (q.add (p.toNat*32)) r)/\let t:=w.alloc (.cells zH 23);(r.size=32/\(∀u∈r.toList,u.oneCell'=true)/\∀v,v<32->Wr t ((⟨w.heap.size,0,none⟩:Addr).add v))/\let x:=setCells t (⟨w.heap.size,0,none⟩:Addr) r.toList 0;∃y:AV,(y.size=32/\Cells x (⟨w.heap.size,0,none⟩:Addr) y)/\∃z:World,(Instr.mapUpdate 129 (.map j) (.agg y) (.agg #[.bool true])).run prog x=.ok () z/\Q .normal [(0,.pointer a),(3,.slice b c d),(5,.pointer (some e)),(6,.pointer (some f)),(8,.int .i64 g),(9,.pointer i),(10,.map j),(57,.slice k m n),(58,.int .i64 o),(59,.int .i64 (i64.wrap (p+(1:Int))))] z) (Q (.exit 1) [(0,.pointer a),(3,.slice b c d),(5,.pointer (some e)),(6,.pointer (some f)),(8,.int .i64 g),(9,.pointer i),(10,.map j),(57,.slice k m n),(58,.int .i64 o),(59,.int .i64 p)] w)
theorem aC.b1:(aU none [] prog 131 aC.k (lB (bB (sR (sL (sR (sR (sR (sR (sR (body f43)))))))))) aC.u1 Q [(0,.pointer a),(3,.slice b c d),(5,.pointer (some e)),(6,.pointer (some f)),(8,.int .i64 g),(9,.pointer i),(10,.map j),(57,.slice k m n),(58,.int .i64 o),(59,.int .i64 p)] w)=aC.B1 a b c d e f g i j k m n o p Q w:=by kernel_rfl
variable{a b c d e f g i j k m n o}
theorem aC.b6(I:Int->World->Prop)(μ:Int->World->Nat)(s:Int){Q:aM}{w:World}(h0:I s w)
 (round:∀s w,I s w->aC.B1 a b c d e f g i j k m n o s (bH (aC.e1 a b c d e f g i j k m n o) I μ s w Q) w):Holds none [] prog 131 (.loop (lB (bB (sR (sL (sR (sR (sR (sR (sR (body f43))))))))))) Q (aC.e1 a b c d e f g i j k m n o s) w:=
 ba ng mix (aC.e1 a b c d e f g i j k m n o) I μ aC.k aC.u1 s (fun s Q w=>aC.B1 a b c d e f g i j k m n o s Q w) (fun s Q w=>aC.b1 a b c d e f g i j k m n o s Q w) h0 round
end
section
def aC.GH(a b:OA)(c d:Nat)(e f:Addr)(g:Int)(i:OA)(j:Option Nat)(k:OA)(m n:Nat)(o p:Int)(K:KT)(w:World):Prop:=
 ∃q:AV,(q.size=32/\Cells w e q)/\bj prog 80 #[.pointer i,.agg q,.slice b c d] w fun r t=>∃u:Int,r=.int .i64 u/\∃v:AV,(v.size=32/\Cells t e v)/\v.size=32/\let x:=t.alloc (.cells (v.toList++ []).toArray 23);bj prog 70 #[.pointer i,.slice (some (⟨t.heap.size,0,none⟩:Addr)) 1 1] x fun y z=>∃a1:OA,∃b1 c1:Nat,y=.slice a1 b1 c1/\Holds none [] prog 131 (.loop (lB (bB (sR (sL (sR (sR (sR (sR (sR (sR (sR (body f43))))))))))))) (aC.q2 K) [(0,.pointer a),(5,.pointer (some e)),(6,.pointer (some f)),(8,.int .i64 g),(10,.map j),(74,.slice a1 b1 c1),(75,.int .i64 (b1:Int)),(76,.int .i64 0)] z
variable(a b:OA)(c d:Nat)(e f:Addr)(g:Int)(i:OA)(j:Option Nat)(k:OA)(m n:Nat)(o p:Int)(K:KT)(w:World)
theorem aC.Pg:(aC.q1 K (.exit 1) [(0,.pointer a),(3,.slice b c d),(5,.pointer (some e)),(6,.pointer (some f)),(8,.int .i64 g),(9,.pointer i),(10,.map j),(57,.slice k m n),(58,.int .i64 o),(59,.int .i64 p)] w)=aC.GH a b c d e f g i j k m n o p K w:=by kernel_rfl
end
section
variable(a:OA)(b c:Addr)(d:Int)(e:Option Nat)(f:OA)(g i:Nat)(j k:Int)(Q:aM)(w:World)
def aC.B2:Prop:=
 Split (decide (k<j)) ((0<=k/\k<(g:Int))/\Is f fun m:Addr=>∃n:AV,(n.size=32/\Cells w (m.add (k.toNat*32)) n)/\let o:=w.alloc (.cells zH 23);(n.size=32/\(∀p∈n.toList,p.oneCell'=true)/\∀q,q<32->Wr o ((⟨w.heap.size,0,none⟩:Addr).add q))/\let r:=setCells o (⟨w.heap.size,0,none⟩:Addr) n.toList 0;∃t:AV,(t.size=32/\Cells r (⟨w.heap.size,0,none⟩:Addr) t)/\∃u:AV,(Instr.lookup 129 (.map e) (.agg t) false).run prog r=.ok (.agg u) r/\∃v:Bool,u[0]? =some (.bool v)/\Split (!v) (let x:=r.drew;Is a fun y:Addr=>∃z:Option Nat,x.cell? (y.add 4)=some (.map z)/\∃a1:AV,(a1.size=32/\Cells x (⟨w.heap.size,0,none⟩:Addr) a1)/\Is a fun b1:Addr=>∃c1:Option Nat,x.cell? (b1.add 4)=some (.map c1)/\∃d1:AV,(d1.size=32/\Cells x (⟨w.heap.size,0,none⟩:Addr) d1)/\∃e1:OA,∃f1 g1:Nat,(Instr.lookup 107 (.map c1) (.agg d1) false).run prog x=.ok (.slice e1 f1 g1) x/\∃i1:AV,(i1.size=32/\Cells x b i1)/\(bj prog 81 #[.slice e1 f1 g1] x fun j1 k1=>∃m1:OA,∃n1 o1:Nat,j1=.slice m1 n1 o1/\(∃cs:AV,(.agg i1:Value)=.agg cs/\cs.size=32/\Cells k1 b cs)/\(∃cs:AV,(.agg a1:Value)=.agg cs/\cs.size=32/\Cells k1 (⟨w.heap.size,0,none⟩:Addr) cs)/\k1.cell? (y.add 4)=some (.map z)/\i1.size=32/\let p1:=k1.alloc (.cells (i1.toList++ []).toArray 23);(∃cs:AV,(.agg a1:Value)=.agg cs/\cs.size=32/\Cells p1 (⟨w.heap.size,0,none⟩:Addr) cs)/\p1.cell? (y.add 4)=some (.map z)/\∃(q1:OA) (r1 t1:Nat) (u1:World),(Builtin.append_ #[35,35] 35 #[.slice m1 n1 o1,.slice (some (⟨k1.heap.size,0,none⟩:Addr)) 1 1]).run prog p1=.ok (.slice q1 r1 t1) u1/\(∃cs:AV,(.agg a1:Value)=.agg cs/\cs.size=32/\Cells u1 (⟨w.heap.size,0,none⟩:Addr) cs)/\u1.cell? (y.add 4)=some (.map z)/\∃v1:World,(Instr.mapUpdate 107 (.map z) (.agg a1) (.slice q1 r1 t1)).run prog u1=.ok () v1/\Q .normal [(0,.pointer a),(5,.pointer (some b)),(6,.pointer (some c)),(8,.int .i64 d),(10,.map e),(74,.slice f g i),(75,.int .i64 j),(76,.int .i64 (i64.wrap (k+(1:Int))))] v1)/\(i1.size=32/\let x1:=x.alloc (.cells (i1.toList++ []).toArray 23);(Instr.lookup 107 (.map c1) (.agg d1) false).run prog x1=.ok (.slice e1 f1 g1) x1/\(∃cs:AV,(.agg d1:Value)=.agg cs/\cs.size=32/\Cells x1 (⟨w.heap.size,0,none⟩:Addr) cs)/\x1.cell? (b1.add 4)=some (.map c1)/\(∃cs:AV,(.agg a1:Value)=.agg cs/\cs.size=32/\Cells x1 (⟨w.heap.size,0,none⟩:Addr) cs)/\x1.cell? (y.add 4)=some (.map z)/\bj prog 81 #[.slice e1 f1 g1] x1 fun y1 z1=>∃a2:OA,∃b2 c2:Nat,y1=.slice a2 b2 c2/\(∃cs:AV,(.agg a1:Value)=.agg cs/\cs.size=32/\Cells z1 (⟨w.heap.size,0,none⟩:Addr) cs)/\z1.cell? (y.add 4)=some (.map z)/\∃(d2:OA) (e2 f2:Nat) (g2:World),(Builtin.append_ #[35,35] 35 #[.slice a2 b2 c2,.slice (some (⟨x.heap.size,0,none⟩:Addr)) 1 1]).run prog z1=.ok (.slice d2 e2 f2) g2/\(∃cs:AV,(.agg a1:Value)=.agg cs/\cs.size=32/\Cells g2 (⟨w.heap.size,0,none⟩:Addr) cs)/\g2.cell? (y.add 4)=some (.map z)/\∃i2:World,(Instr.mapUpdate 107 (.map z) (.agg a1) (.slice d2 e2 f2)).run prog g2=.ok () i2/\Q .normal [(0,.pointer a),(5,.pointer (some b)),(6,.pointer (some c)),(8,.int .i64 d),(10,.map e),(74,.slice f g i),(75,.int .i64 j),(76,.int .i64 (i64.wrap (k+(1:Int))))] i2)) (Q .normal [(0,.pointer a),(5,.pointer (some b)),(6,.pointer (some c)),(8,.int .i64 d),(10,.map e),(74,.slice f g i),(75,.int .i64 j),(76,.int .i64 (i64.wrap (k+(1:Int))))] r)) (Q (.exit 3) [(0,.pointer a),(5,.pointer (some b)),(6,.pointer (some c)),(8,.int .i64 d),(10,.map e),(74,.slice f g i),(75,.int .i64 j),(76,.int .i64 k)] w)
theorem aC.b2:(aU none [] prog 131 aC.k (lB (bB (sR (sL (sR (sR (sR (sR (sR (sR (sR (body f43)))))))))))) aC.u2 Q [(0,.pointer a),(5,.pointer (some b)),(6,.pointer (some c)),(8,.int .i64 d),(10,.map e),(74,.slice f g i),(75,.int .i64 j),(76,.int .i64 k)] w)=aC.B2 a b c d e f g i j k Q w:=by kernel_rfl
variable{a b c d e f g i j}
theorem aC.gI(I:Int->World->Prop)(μ:Int->World->Nat)(s:Int){Q:aM}{w:World}(h0:I s w)
 (round:∀s w,I s w->aC.B2 a b c d e f g i j s (bH (aC.e2 a b c d e f g i j) I μ s w Q) w):Holds none [] prog 131 (.loop (lB (bB (sR (sL (sR (sR (sR (sR (sR (sR (sR (body f43))))))))))))) Q (aC.e2 a b c d e f g i j s) w:=
 ba ng mix (aC.e2 a b c d e f g i j) I μ aC.k aC.u2 s (fun s Q w=>aC.B2 a b c d e f g i j s Q w) (fun s Q w=>aC.b2 a b c d e f g i j s Q w) h0 round
end
section
def aC.Sd(a:OA)(b c:Addr)(d:Int)(e:Option Nat)(f:OA)(g i:Nat)(j k:Int)(K:KT)(w:World):Prop:=
 let m:=w.drew;Is a fun n:Addr=>∃o:OA,m.cell? (n.add 1)=some (.pointer o)/\Is a fun p:Addr=>∃q:Option Nat,m.cell? (p.add 2)=some (.map q)/\∃r:AV,(r.size=32/\Cells m c r)/\∃t:Int,(Instr.lookup 89 (.map q) (.agg r) false).run prog m=.ok (.int .i64 t) m/\bj prog 82 #[.pointer o,.int .i64 t] m fun u v=>∃x y:Int,u=.tuple #[.int .i64 x,.int .i64 y]/\let z:=v.drew;Is a fun a1:Addr=>∃b1:Option Nat,z.cell? (a1.add 2)=some (.map b1)/\∃c1:AV,(c1.size=32/\Cells z b c1)/\∃d1:World,(Instr.mapUpdate 89 (.map b1) (.agg c1) (.int .i64 x)).run prog z=.ok () d1/\let e1:=d1.drew;Is a fun f1:Addr=>∃g1:OA,∃i1 j1:Nat,e1.cell? (f1.add 3)=some (.slice g1 i1 j1)/\∃k1:AV,(k1.size=32/\Cells e1 b k1)/\k1.size=32/\let m1:=e1.alloc (.cells (k1.toList++ []).toArray 23);m1.cell? (f1.add 3)=some (.slice g1 i1 j1)/\∃(n1:OA) (o1 p1:Nat) (q1:World),(Builtin.append_ #[35,35] 35 #[.slice g1 i1 j1,.slice (some (⟨e1.heap.size,0,none⟩:Addr)) 1 1]).run prog m1=.ok (.slice n1 o1 p1) q1/\Is a fun r1:Addr=>Wr q1 (r1.add 3)/\let t1:=q1.setCell (r1.add 3) (.slice n1 o1 p1);K (.int .i64 0) t1
variable(a:OA)(b c:Addr)(d:Int)(e:Option Nat)(f:OA)(g i:Nat)(j k:Int)(K:KT)(w:World)
theorem aC.aan:(aC.q2 K (.exit 3) [(0,.pointer a),(5,.pointer (some b)),(6,.pointer (some c)),(8,.int .i64 d),(10,.map e),(74,.slice f g i),(75,.int .i64 j),(76,.int .i64 k)] w)=aC.Sd a b c d e f g i j k K w:=by kernel_rfl
end
def fQ.k:List Nat:= []
section
variable(a:OA)(b:AV)(K:KT)(w:World)
def fQ.W:Prop:=
 let d:=w.alloc (.cells (#[.pointer a]:AV) 73);let e:=d.alloc (.cells b 23);K (.func (.func 89) #[] #[.pointer (some (⟨w.heap.size,0,none⟩:Addr)),.pointer (some (⟨d.heap.size,0,none⟩:Addr))]) e
variable{a b K w}
theorem fQ.of(h:fQ.W a b K w):bj prog 53 #[.pointer a,.agg b] w K:=
 rqq func53 (C:=fQ.k) h
end
def cC.k:List Nat:= []
section
variable(a:OA)(b d:Nat)(e:AV)(K:KT)(w:World)
def cC.W:Prop:=
 let f:=w.alloc (.cells e 23);∃g:AV,(g.size=32/\Cells f (⟨w.heap.size,0,none⟩:Addr) g)/\bj prog 91 #[.slice a b d,.agg g] f fun i j=>∃k:Int,i=.int .i64 k/\K (.bool (decide (k>=(0:Int)))) j
variable{a b d e K w}
theorem cC.of(h:cC.W a b d e K w):bj prog 54 #[.slice a b d,.agg e] w K:=
 rqq func54 (C:=cC.k) h
end
def fz.k:List Nat:= []
section
variable(a b:OA)(d e:Nat)(K:KT)(w:World)
def fz.W:Prop:=
 let f:=w.alloc (.cells (#[.pointer a]:AV) 73);∃g:OA,f.cell? (⟨w.heap.size,0,none⟩:Addr)=some (.pointer g)/\bj prog 78 #[.pointer g] f fun i j=>∃k:Bool,i=.bool k/\Split k (bj prog 85 #[.slice b d e,.func (.func 92) #[] #[.pointer (some (⟨w.heap.size,0,none⟩:Addr))]] j fun m n=>∃o:Bool,m=.bool o/\K (.bool (!o)) n) (K (.bool false) j)
variable{a b d e K w}
theorem fz.of(h:fz.W a b d e K w):bj prog 55 #[.pointer a,.slice b d e] w K:=
 rqq func55 (C:=fz.k) h
end
def bf.k:List Nat:= []
def bf.q1(K:KT):aM:=(aL 0 (b7 (sR (sR (sR (sR (body f58)))))++(aN f58)) (bQ (fun bV w_=>match cutAt bf.k (sR (sR (sR (sR (body f58)))))with|true=>Holds none [] prog 50 (sR (sR (sR (sR (body f58))))) (bI prog f58 K) bV w_|false=>aU none [] prog 50 bf.k (sR (sR (sR (sR (body f58))))) (aN f58) (bI prog f58 K) bV w_) (bI prog f58 K)))
def bf.e1(a:OA)(b:Addr)(c:OA)(s:Unit):Env:= [(2,.pointer a),(3,.pointer (some b)),(36,.pointer c)]
def bf.u1:List Nat:= [2,3,36]
section
variable(a:OA)(K:KT)(w:World)
def bf.W:Prop:=
 bj prog 78 #[.pointer a] w fun b d=>∃e:Bool,b=.bool e/\Split (!e) (K (.pointer none) d) (let f:=d.drew;Is a fun g:Addr=>∃i:OA,f.cell? (g.add 0)=some (.pointer i)/\Is a fun j:Addr=>∃k:OA,f.cell? (j.add 1)=some (.pointer k)/\Is a fun m:Addr=>∃n:Option Nat,f.cell? (m.add 2)=some (.map n)/\Is a fun o:Addr=>∃p:OA,∃q r:Nat,f.cell? (o.add 3)=some (.slice p q r)/\(bj prog 94 #[.pointer i] f fun t u=>∃v:OA,t=.pointer v/\u.cell? (o.add 3)=some (.slice p q r)/\u.cell? (m.add 2)=some (.map n)/\u.cell? (j.add 1)=some (.pointer k)/\(bj prog 95 #[.pointer k] u fun x y=>∃z:OA,x=.pointer z/\y.cell? (o.add 3)=some (.slice p q r)/\y.cell? (m.add 2)=some (.map n)/\(bj prog 96 #[.map n] y fun a1 b1=>∃c1:Option Nat,a1=.map c1/\b1.cell? (o.add 3)=some (.slice p q r)/\(bj prog 83 #[.slice p q r] b1 fun d1 e1=>∃f1:OA,∃g1 i1:Nat,d1=.slice f1 g1 i1/\let j1:=e1.alloc (.map #[] 0);let k1:=j1.alloc (.cells (#[.pointer v,.pointer z,.map c1,.slice f1 g1 i1,.map (some e1.heap.size)]:AV) 109);Is a fun m1:Addr=>∃n1:Option Nat,k1.cell? (m1.add 4)=some (.map n1)/\∃(o1:OA) (p1:World),(Instr.range 107 (.map n1)).run prog k1=.ok (.pointer o1) p1/\Holds none [] prog 50 (.loop (lB (bB (sR (sL (sR (sR (sR (body f58))))))))) (bf.q1 K) [(2,.pointer none),(3,.pointer (some (⟨j1.heap.size,0,none⟩:Addr))),(36,.pointer o1)] p1)/\(let q1:=b1.alloc (.map #[] 0);q1.cell? (o.add 3)=some (.slice p q r)/\bj prog 83 #[.slice p q r] q1 fun r1 t1=>∃u1:OA,∃v1 x1:Nat,r1=.slice u1 v1 x1/\let y1:=t1.alloc (.cells (#[.pointer v,.pointer z,.map c1,.slice u1 v1 x1,.map (some b1.heap.size)]:AV) 109);Is a fun z1:Addr=>∃a2:Option Nat,y1.cell? (z1.add 4)=some (.map a2)/\∃(b2:OA) (c2:World),(Instr.range 107 (.map a2)).run prog y1=.ok (.pointer b2) c2/\Holds none [] prog 50 (.loop (lB (bB (sR (sL (sR (sR (sR (body f58))))))))) (bf.q1 K) [(2,.pointer none),(3,.pointer (some (⟨t1.heap.size,0,none⟩:Addr))),(36,.pointer b2)] c2))/\(let d2:=y.alloc (.map #[] 0);d2.cell? (o.add 3)=some (.slice p q r)/\d2.cell? (m.add 2)=some (.map n)/\bj prog 96 #[.map n] d2 fun e2 f2=>∃g2:Option Nat,e2=.map g2/\f2.cell? (o.add 3)=some (.slice p q r)/\bj prog 83 #[.slice p q r] f2 fun i2 j2=>∃k2:OA,∃m2 n2:Nat,i2=.slice k2 m2 n2/\let o2:=j2.alloc (.cells (#[.pointer v,.pointer z,.map g2,.slice k2 m2 n2,.map (some y.heap.size)]:AV) 109);Is a fun p2:Addr=>∃q2:Option Nat,o2.cell? (p2.add 4)=some (.map q2)/\∃(r2:OA) (t2:World),(Instr.range 107 (.map q2)).run prog o2=.ok (.pointer r2) t2/\Holds none [] prog 50 (.loop (lB (bB (sR (sL (sR (sR (sR (body f58))))))))) (bf.q1 K) [(2,.pointer none),(3,.pointer (some (⟨j2.heap.size,0,none⟩:Addr))),(36,.pointer r2)] t2))/\(let u2:=u.alloc (.map #[] 0);u2.cell? (o.add 3)=some (.slice p q r)/\u2.cell? (m.add 2)=some (.map n)/\u2.cell? (j.add 1)=some (.pointer k)/\bj prog 95 #[.pointer k] u2 fun v2 x2=>∃y2:OA,v2=.pointer y2/\x2.cell? (o.add 3)=some (.slice p q r)/\x2.cell? (m.add 2)=some (.map n)/\bj prog 96 #[.map n] x2 fun z2 a3=>∃b3:Option Nat,z2=.map b3/\a3.cell? (o.add 3)=some (.slice p q r)/\bj prog 83 #[.slice p q r] a3 fun c3 d3=>∃e3:OA,∃f3 g3:Nat,c3=.slice e3 f3 g3/\let i3:=d3.alloc (.cells (#[.pointer v,.pointer y2,.map b3,.slice e3 f3 g3,.map (some u.heap.size)]:AV) 109);Is a fun j3:Addr=>∃k3:Option Nat,i3.cell? (j3.add 4)=some (.map k3)/\∃(m3:OA) (n3:World),(Instr.range 107 (.map k3)).run prog i3=.ok (.pointer m3) n3/\Holds none [] prog 50 (.loop (lB (bB (sR (sL (sR (sR (sR (body f58))))))))) (bf.q1 K) [(2,.pointer none),(3,.pointer (some (⟨d3.heap.size,0,none⟩:Addr))),(36,.pointer m3)] n3))/\(let o3:=f.alloc (.map #[] 0);o3.cell? (o.add 3)=some (.slice p q r)/\o3.cell? (m.add 2)=some (.map n)/\o3.cell? (j.add 1)=some (.pointer k)/\o3.cell? (g.add 0)=some (.pointer i)/\bj prog 94 #[.pointer i] o3 fun p3 q3=>∃r3:OA,p3=.pointer r3/\q3.cell? (o.add 3)=some (.slice p q r)/\q3.cell? (m.add 2)=some (.map n)/\q3.cell? (j.add 1)=some (.pointer k)/\bj prog 95 #[.pointer k] q3 fun t3 u3=>∃v3:OA,t3=.pointer v3/\u3.cell? (o.add 3)=some (.slice p q r)/\u3.cell? (m.add 2)=some (.map n)/\bj prog 96 #[.map n] u3 fun x3 y3=>∃z3:Option Nat,x3=.map z3/\y3.cell? (o.add 3)=some (.slice p q r)/\bj prog 83 #[.slice p q r] y3 fun a4 b4=>∃c4:OA,∃d4 e4:Nat,a4=.slice c4 d4 e4/\let f4:=b4.alloc (.cells (#[.pointer r3,.pointer v3,.map z3,.slice c4 d4 e4,.map (some f.heap.size)]:AV) 109);Is a fun g4:Addr=>∃i4:Option Nat,f4.cell? (g4.add 4)=some (.map i4)/\∃(j4:OA) (k4:World),(Instr.range 107 (.map i4)).run prog f4=.ok (.pointer j4) k4/\Holds none [] prog 50 (.loop (lB (bB (sR (sL (sR (sR (sR (body f58))))))))) (bf.q1 K) [(2,.pointer none),(3,.pointer (some (⟨b4.heap.size,0,none⟩:Addr))),(36,.pointer j4)] k4))
variable{a K w}
theorem bf.of(h:bf.W a K w):bj prog 58 #[.pointer a] w K:=
 rqq func58 (C:=bf.k) h
end
section
variable(a:OA)(b:Addr)(c:OA)(Q:aM)(w:World)
def bf.B1:Prop:=
 (∃d:World,(Instr.next (.pointer c) false 0).run prog w=.ok (.tuple #[.bool false]) d/\Q (.exit 0) [(2,.pointer a),(3,.pointer (some b)),(36,.pointer c)] d)\/∃(e f:Value) (g:World),(Instr.next (.pointer c) false 0).run prog w=.ok (.tuple #[.bool true,e,f]) g/\∃i:AV,∃j:OA,∃k m:Nat,(Instr.entry (.pointer c)).run prog g=.ok (.tuple #[.agg i,.slice j k m]) g/\let n:=g.alloc (.cells zH 23);(i.size=32/\(∀o∈i.toList,o.oneCell'=true)/\∀p,p<32->Wr n ((⟨g.heap.size,0,none⟩:Addr).add p))/\let q:=setCells n (⟨g.heap.size,0,none⟩:Addr) i.toList 0;let r:=q.drew;∃t:Option Nat,r.cell? (b.add 4)=some (.map t)/\∃u:AV,(u.size=32/\Cells r (⟨g.heap.size,0,none⟩:Addr) u)/\bj prog 83 #[.slice j k m] r fun v x=>∃y:OA,∃z a1:Nat,v=.slice y z a1/\(∃cs:AV,(.agg u:Value)=.agg cs/\cs.size=32/\Cells x (⟨g.heap.size,0,none⟩:Addr) cs)/\x.cell? (b.add 4)=some (.map t)/\∃b1:World,(Instr.mapUpdate 107 (.map t) (.agg u) (.slice y z a1)).run prog x=.ok () b1/\Q .normal [(2,.pointer a),(3,.pointer (some b)),(36,.pointer c)] b1
theorem bf.b1:(aU none [] prog 50 bf.k (lB (bB (sR (sL (sR (sR (sR (body f58)))))))) bf.u1 Q [(2,.pointer a),(3,.pointer (some b)),(36,.pointer c)] w)=bf.B1 a b c Q w:=by kernel_rfl
variable{a b c}
theorem bf.b6(I:Unit->World->Prop)(μ:Unit->World->Nat)(s:Unit){Q:aM}{w:World}(h0:I s w)
 (round:∀s w,I s w->bf.B1 a b c (bH (bf.e1 a b c) I μ s w Q) w):Holds none [] prog 50 (.loop (lB (bB (sR (sL (sR (sR (sR (body f58))))))))) Q (bf.e1 a b c s) w:=
 ba ng mix (bf.e1 a b c) I μ bf.k bf.u1 s (fun s Q w=>bf.B1 a b c Q w) (fun s Q w=>bf.b1 a b c Q w) h0 round
end
section
def bf.cI(a:OA)(b:Addr)(c:OA)(K:KT)(w:World):Prop:=
 K (.pointer (some b)) w
variable(a:OA)(b:Addr)(c:OA)(K:KT)(w:World)
theorem bf.cX:(bf.q1 K (.exit 0) [(2,.pointer a),(3,.pointer (some b)),(36,.pointer c)] w)=bf.cI a b c K w:=by kernel_rfl
end
def dO.k:List Nat:= []
section
variable(a:OA)(b d:AV)(K:KT)(w:World)
def dO.W:Prop:=
 let e:=w.alloc (.cells (#[.pointer a]:AV) 73);let f:=e.alloc (.cells b 23);let g:=f.alloc (.cells d 23);∃i:OA,g.cell? (⟨w.heap.size,0,none⟩:Addr)=some (.pointer i)/\∃j:AV,(j.size=32/\Cells g (⟨e.heap.size,0,none⟩:Addr) j)/\∃k:AV,(k.size=32/\Cells g (⟨f.heap.size,0,none⟩:Addr) k)/\j.size=32/\k.size=32/\let m:=g.alloc (.cells (j.toList++(k.toList++([]))).toArray 23);bj prog 55 #[.pointer i,.slice (some (⟨g.heap.size,0,none⟩:Addr)) 2 2] m fun n o=>∃p:Bool,n=.bool p/\Split (!p) (K (.bool false) o) (∃q:AV,(q.size=32/\Cells o (⟨e.heap.size,0,none⟩:Addr) q)/\∃r:AV,(r.size=32/\Cells o (⟨f.heap.size,0,none⟩:Addr) r)/\(dP .u8 32 q/\dP .u8 32 r)/\Split (eT q r) (K (.bool false) o) (let t:=o.drew;∃u:OA,t.cell? (⟨w.heap.size,0,none⟩:Addr)=some (.pointer u)/\∃v:AV,(v.size=32/\Cells t (⟨e.heap.size,0,none⟩:Addr) v)/\∃x:AV,(x.size=32/\Cells t (⟨f.heap.size,0,none⟩:Addr) x)/\bj prog 32 #[.pointer u,.agg v,.agg x] t fun y z=>∃a1:Bool,y=.bool a1/\Split a1 (K (.bool true) z) (∃b1:OA,z.cell? (⟨w.heap.size,0,none⟩:Addr)=some (.pointer b1)/\Is b1 fun c1:Addr=>∃d1:Option Nat,z.cell? (c1.add 4)=some (.map d1)/\∃e1:AV,(e1.size=32/\Cells z (⟨e.heap.size,0,none⟩:Addr) e1)/\∃f1:OA,∃g1 i1:Nat,(Instr.lookup 107 (.map d1) (.agg e1) false).run prog z=.ok (.slice f1 g1 i1) z/\bj prog 85 #[.slice f1 g1 i1,.func (.func 104) #[] #[.pointer (some (⟨w.heap.size,0,none⟩:Addr)),.pointer (some (⟨f.heap.size,0,none⟩:Addr))]] z fun j1 k1=>∃m1:Bool,j1=.bool m1/\K (.bool m1) k1)))
variable{a b d K w}
theorem dO.of(h:dO.W a b d K w):bj prog 71 #[.pointer a,.agg b,.agg d] w K:=
 rqq func71 (C:=dO.k) h
end
def fg.k:List Nat:= []
section
variable(a:OA)(K:KT)(w:World)
def fg.W:Prop:=
 Split (!(a).isNone) (Is a fun b:Addr=>∃d:OA,w.cell? (b.add 0)=some (.pointer d)/\K (.bool (!(d).isNone)) w) (K (.bool false) w)
variable{a K w}
theorem fg.of(h:fg.W a K w):bj prog 78 #[.pointer a] w K:=
 rqq func78 (C:=fg.k) h
end
def dd.k:List Nat:= []
section
variable(a:OA)(b d:Nat)(K:KT)(w:World)
def dd.W:Prop:=
 (0<=(b:Int)/\(b:Int)<=(d:Int))/\(0<=(b:Int)/\(b:Int)<=((b:Int).toNat:Int))/\K (.slice (if(b:Int).toNat=0 then a else a.map (·.add (0*32))) ((b:Int).toNat -0) ((b:Int).toNat -0)) w
variable{a b d K w}
theorem dd.of(h:dd.W a b d K w):bj prog 81 #[.slice a b d] w K:=
 rqq func81 (C:=dd.k) h
end
def aQ.k:List Nat:= []
def aQ.q1(K:KT):aM:=(aL 0 (b7 (sR (sR (body f91)))++(aN f91)) (bQ (fun bV w_=>match cutAt aQ.k (sR (sR (body f91)))with|true=>Holds none [] prog 19 (sR (sR (body f91))) (bI prog f91 K) bV w_|false=>aU none [] prog 19 aQ.k (sR (sR (body f91))) (aN f91) (bI prog f91 K) bV w_) (bI prog f91 K)))
def aQ.e1(a:OA)(b c:Nat)(d:Addr)(e:Int)(s:Int×Int):Env:= [(0,.slice a b c),(3,.pointer (some d)),(4,.int .i64 s.1),(7,.int .i64 e),(8,.int .i64 s.2)]
def aQ.u1:List Nat:= [0,3,4,7,8]
section
variable(a:OA)(b d:Nat)(e:AV)(K:KT)(w:World)
def aQ.W:Prop:=
 let f:=w.alloc (.cells e 23);Holds none [] prog 19 (.loop (lB (bB (sR (sL (sR (body f91))))))) (aQ.q1 K) [(0,.slice a b d),(3,.pointer (some (⟨w.heap.size,0,none⟩:Addr))),(4,.int .i64 0),(7,.int .i64 (b:Int)),(8,.int .i64 0)] f
variable{a b d e K w}
theorem aQ.of(h:aQ.W a b d e K w):bj prog 91 #[.slice a b d,.agg e] w K:=
 rqq func91 (C:=aQ.k) h
end
section
variable(a:OA)(b c:Nat)(d:Addr)(e f g:Int)(Q:aM)(w:World)
def aQ.B1:Prop:=
 Split (decide (g<f)) (let i:=w.drew;∃j:AV,(j.size=32/\Cells i d j)/\(0<=g/\g<(b:Int))/\Is a fun k:Addr=>∃m:AV,(m.size=32/\Cells i (k.add (g.toNat*32)) m)/\(dP .u8 32 j/\dP .u8 32 m)/\Split (eT j m) (Q .ret [(0,.slice a b c),(3,.pointer (some d)),(4,.int .i64 g),(7,.int .i64 f),(8,.int .i64 g)] i) (Q .normal [(0,.slice a b c),(3,.pointer (some d)),(4,.int .i64 e),(7,.int .i64 f),(8,.int .i64 (i64.wrap (g+(1:Int))))] i)) (Q (.exit 0) [(0,.slice a b c),(3,.pointer (some d)),(4,.int .i64 e),(7,.int .i64 f),(8,.int .i64 g)] w)
theorem aQ.b1:(aU none [] prog 19 aQ.k (lB (bB (sR (sL (sR (body f91)))))) aQ.u1 Q [(0,.slice a b c),(3,.pointer (some d)),(4,.int .i64 e),(7,.int .i64 f),(8,.int .i64 g)] w)=aQ.B1 a b c d e f g Q w:=by kernel_rfl
variable{a b c d f}
theorem aQ.b6(I:Int×Int->World->Prop)(μ:Int×Int->World->Nat)(s:Int×Int){Q:aM}{w:World}(h0:I s w)
 (round:∀s w,I s w->aQ.B1 a b c d (s.1) f (s.2) (bH (aQ.e1 a b c d f) I μ s w Q) w):Holds none [] prog 19 (.loop (lB (bB (sR (sL (sR (body f91))))))) Q (aQ.e1 a b c d f s) w:=
 ba ng mix (aQ.e1 a b c d f) I μ aQ.k aQ.u1 s (fun s Q w=>aQ.B1 a b c d (s.1) f (s.2) Q w) (fun s Q w=>aQ.b1 a b c d (s.1) f (s.2) Q w) h0 round
end
section
def aQ.cI(a:OA)(b c:Nat)(d:Addr)(e f g:Int)(K:KT)(w:World):Prop:=
 K (.int .i64 (-1)) w
variable(a:OA)(b c:Nat)(d:Addr)(e f g:Int)(K:KT)(w:World)
theorem aQ.cX:(aQ.q1 K (.exit 0) [(0,.slice a b c),(3,.pointer (some d)),(4,.int .i64 e),(7,.int .i64 f),(8,.int .i64 g)] w)=aQ.cI a b c d e f g K w:=by kernel_rfl
end
def dA.k:List Nat:= []
section
variable(a:AV)(b:Addr)(K:KT)(w:World)
def dA.W:Prop:=
 let d:=w.alloc (.cells a 23);let e:=d.drew;∃f:OA,e.cell? b=some (.pointer f)/\Is f fun g:Addr=>∃i:OA,e.cell? (g.add 0)=some (.pointer i)/\∃j:AV,(j.size=32/\Cells e (⟨w.heap.size,0,none⟩:Addr) j)/\bj prog 79 #[.pointer i,.agg j] e fun k m=>∃n:Bool,k=.bool n/\K (.bool (!n)) m
variable{a b K w}
theorem dA.of(h:dA.W a b K w):bj prog 92 #[.agg a,.pointer (some b)] w K:=
 rqq func92 (C:=dA.k) h
end
def cJ.k:List Nat:= []
section
variable(a:AV)(b d:Addr)(K:KT)(w:World)
def cJ.W:Prop:=
 let e:=w.alloc (.cells a 23);∃f:OA,e.cell? b=some (.pointer f)/\∃g:AV,(g.size=32/\Cells e (⟨w.heap.size,0,none⟩:Addr) g)/\∃i:AV,(i.size=32/\Cells e d i)/\bj prog 32 #[.pointer f,.agg g,.agg i] e fun j k=>∃m:Bool,j=.bool m/\K (.bool m) k
variable{a b d K w}
theorem cJ.of(h:cJ.W a b d K w):bj prog 104 #[.agg a,.pointer (some b),.pointer (some d)] w K:=
 rqq func104 (C:=cJ.k) h
end
def bY.k:List Nat:= []
section
variable(a:OA)(b d:Nat)(e:Addr)(K:KT)(w:World)
def bY.W:Prop:=
 bj prog 113 #[.slice a b d,.func (.func 92) #[] #[.pointer (some e)]] w fun f g=>∃i:Int,f=.int .i64 i/\K (.bool (decide (i>=(0:Int)))) g
variable{a b d e K w}
theorem bY.of(h:bY.W a b d e K w):bj prog 85 #[.slice a b d,.func (.func 92) #[] #[.pointer (some e)]] w K:=
 rqq func85 (C:=bY.k) h
end
def bS.k:List Nat:= []
section
variable(a:OA)(b d:Nat)(e f:Addr)(K:KT)(w:World)
def bS.W:Prop:=
 bj prog 113 #[.slice a b d,.func (.func 104) #[] #[.pointer (some e),.pointer (some f)]] w fun g i=>∃j:Int,g=.int .i64 j/\K (.bool (decide (j>=(0:Int)))) i
variable{a b d e f K w}
theorem bS.of(h:bS.W a b d e f K w):bj prog 85 #[.slice a b d,.func (.func 104) #[] #[.pointer (some e),.pointer (some f)]] w K:=
 rqq func85 (C:=bS.k) h
end
def ao.k:List Nat:= []
def ao.q1(K:KT):aM:=(aL 0 (b7 (sR (sR (body f113)))++(aN f113)) (bQ (fun bV w_=>match cutAt ao.k (sR (sR (body f113)))with|true=>Holds none [] prog 19 (sR (sR (body f113))) (bI prog f113 K) bV w_|false=>aU none [] prog 19 ao.k (sR (sR (body f113))) (aN f113) (bI prog f113 K) bV w_) (bI prog f113 K)))
def ao.e1(a:OA)(b c:Nat)(d:Addr)(e:Int)(s:Int×Int):Env:= [(0,.slice a b c),(1,.func (.func 92) #[] #[.pointer (some d)]),(4,.int .i64 s.1),(7,.int .i64 e),(8,.int .i64 s.2)]
def ao.u1:List Nat:= [0,1,4,7,8]
section
variable(a:OA)(b d:Nat)(e:Addr)(K:KT)(w:World)
def ao.W:Prop:=
 Holds none [] prog 19 (.loop (lB (bB (sR (sL (sR (body f113))))))) (ao.q1 K) [(0,.slice a b d),(1,.func (.func 92) #[] #[.pointer (some e)]),(4,.int .i64 0),(7,.int .i64 (b:Int)),(8,.int .i64 0)] w
variable{a b d e K w}
theorem ao.of(h:ao.W a b d e K w):bj prog 113 #[.slice a b d,.func (.func 92) #[] #[.pointer (some e)]] w K:=
 rqq func113 (C:=ao.k) h
end
section
variable(a:OA)(b c:Nat)(d:Addr)(e f g:Int)(Q:aM)(w:World)
def ao.B1:Prop:=
 Split (decide (g<f)) ((0<=g/\g<(b:Int))/\Is a fun i:Addr=>∃j:AV,(j.size=32/\Cells w (i.add (g.toNat*32)) j)/\bj prog 92 #[.agg j,.pointer (some d)] w fun k m=>∃n:Bool,k=.bool n/\Split n (Q .ret [(0,.slice a b c),(1,.func (.func 92) #[] #[.pointer (some d)]),(4,.int .i64 g),(7,.int .i64 f),(8,.int .i64 g)] m) (Q .normal [(0,.slice a b c),(1,.func (.func 92) #[] #[.pointer (some d)]),(4,.int .i64 e),(7,.int .i64 f),(8,.int .i64 (i64.wrap (g+(1:Int))))] m)) (Q (.exit 0) [(0,.slice a b c),(1,.func (.func 92) #[] #[.pointer (some d)]),(4,.int .i64 e),(7,.int .i64 f),(8,.int .i64 g)] w)
theorem ao.b1:(aU none [] prog 19 ao.k (lB (bB (sR (sL (sR (body f113)))))) ao.u1 Q [(0,.slice a b c),(1,.func (.func 92) #[] #[.pointer (some d)]),(4,.int .i64 e),(7,.int .i64 f),(8,.int .i64 g)] w)=ao.B1 a b c d e f g Q w:=by kernel_rfl
variable{a b c d f}
theorem ao.b6(I:Int×Int->World->Prop)(μ:Int×Int->World->Nat)(s:Int×Int){Q:aM}{w:World}(h0:I s w)
 (round:∀s w,I s w->ao.B1 a b c d (s.1) f (s.2) (bH (ao.e1 a b c d f) I μ s w Q) w):Holds none [] prog 19 (.loop (lB (bB (sR (sL (sR (body f113))))))) Q (ao.e1 a b c d f s) w:=
 ba ng mix (ao.e1 a b c d f) I μ ao.k ao.u1 s (fun s Q w=>ao.B1 a b c d (s.1) f (s.2) Q w) (fun s Q w=>ao.b1 a b c d (s.1) f (s.2) Q w) h0 round
end
section
def ao.cI(a:OA)(b c:Nat)(d:Addr)(e f g:Int)(K:KT)(w:World):Prop:=
 K (.int .i64 (-1)) w
variable(a:OA)(b c:Nat)(d:Addr)(e f g:Int)(K:KT)(w:World)
theorem ao.cX:(ao.q1 K (.exit 0) [(0,.slice a b c),(1,.func (.func 92) #[] #[.pointer (some d)]),(4,.int .i64 e),(7,.int .i64 f),(8,.int .i64 g)] w)=ao.cI a b c d e f g K w:=by kernel_rfl
end
def ak.k:List Nat:= []
def ak.q1(K:KT):aM:=(aL 0 (b7 (sR (sR (body f113)))++(aN f113)) (bQ (fun bV w_=>match cutAt ak.k (sR (sR (body f113)))with|true=>Holds none [] prog 19 (sR (sR (body f113))) (bI prog f113 K) bV w_|false=>aU none [] prog 19 ak.k (sR (sR (body f113))) (aN f113) (bI prog f113 K) bV w_) (bI prog f113 K)))
def ak.e1(a:OA)(b c:Nat)(d e:Addr)(f:Int)(s:Int×Int):Env:= [(0,.slice a b c),(1,.func (.func 104) #[] #[.pointer (some d),.pointer (some e)]),(4,.int .i64 s.1),(7,.int .i64 f),(8,.int .i64 s.2)]
def ak.u1:List Nat:= [0,1,4,7,8]
section
variable(a:OA)(b d:Nat)(e f:Addr)(K:KT)(w:World)
def ak.W:Prop:=
 Holds none [] prog 19 (.loop (lB (bB (sR (sL (sR (body f113))))))) (ak.q1 K) [(0,.slice a b d),(1,.func (.func 104) #[] #[.pointer (some e),.pointer (some f)]),(4,.int .i64 0),(7,.int .i64 (b:Int)),(8,.int .i64 0)] w
variable{a b d e f K w}
theorem ak.of(h:ak.W a b d e f K w):bj prog 113 #[.slice a b d,.func (.func 104) #[] #[.pointer (some e),.pointer (some f)]] w K:=
 rqq func113 (C:=ak.k) h
end
section
variable(a:OA)(b c:Nat)(d e:Addr)(f g i:Int)(Q:aM)(w:World)
def ak.B1:Prop:=
 Split (decide (i<g)) ((0<=i/\i<(b:Int))/\Is a fun j:Addr=>∃k:AV,(k.size=32/\Cells w (j.add (i.toNat*32)) k)/\bj prog 104 #[.agg k,.pointer (some d),.pointer (some e)] w fun m n=>∃o:Bool,m=.bool o/\Split o (Q .ret [(0,.slice a b c),(1,.func (.func 104) #[] #[.pointer (some d),.pointer (some e)]),(4,.int .i64 i),(7,.int .i64 g),(8,.int .i64 i)] n) (Q .normal [(0,.slice a b c),(1,.func (.func 104) #[] #[.pointer (some d),.pointer (some e)]),(4,.int .i64 f),(7,.int .i64 g),(8,.int .i64 (i64.wrap (i+(1:Int))))] n)) (Q (.exit 0) [(0,.slice a b c),(1,.func (.func 104) #[] #[.pointer (some d),.pointer (some e)]),(4,.int .i64 f),(7,.int .i64 g),(8,.int .i64 i)] w)
theorem ak.b1:(aU none [] prog 19 ak.k (lB (bB (sR (sL (sR (body f113)))))) ak.u1 Q [(0,.slice a b c),(1,.func (.func 104) #[] #[.pointer (some d),.pointer (some e)]),(4,.int .i64 f),(7,.int .i64 g),(8,.int .i64 i)] w)=ak.B1 a b c d e f g i Q w:=by kernel_rfl
variable{a b c d e g}
theorem ak.b6(I:Int×Int->World->Prop)(μ:Int×Int->World->Nat)(s:Int×Int){Q:aM}{w:World}(h0:I s w)
 (round:∀s w,I s w->ak.B1 a b c d e (s.1) g (s.2) (bH (ak.e1 a b c d e g) I μ s w Q) w):Holds none [] prog 19 (.loop (lB (bB (sR (sL (sR (body f113))))))) Q (ak.e1 a b c d e g s) w:=
 ba ng mix (ak.e1 a b c d e g) I μ ak.k ak.u1 s (fun s Q w=>ak.B1 a b c d e (s.1) g (s.2) Q w) (fun s Q w=>ak.b1 a b c d e (s.1) g (s.2) Q w) h0 round
end
section
def ak.cI(a:OA)(b c:Nat)(d e:Addr)(f g i:Int)(K:KT)(w:World):Prop:=
 K (.int .i64 (-1)) w
variable(a:OA)(b c:Nat)(d e:Addr)(f g i:Int)(K:KT)(w:World)
theorem ak.cX:(ak.q1 K (.exit 0) [(0,.slice a b c),(1,.func (.func 104) #[] #[.pointer (some d),.pointer (some e)]),(4,.int .i64 f),(7,.int .i64 g),(8,.int .i64 i)] w)=ak.cI a b c d e f g i K w:=by kernel_rfl
end
def aX.k:List Nat:= []
def aX.q1(K:KT):aM:=(aL 0 (aN f89) (bI prog f89 K))
def aX.e1(a:Nat)(b:Addr)(s:Int):Env:= [(0,.func (.yield a) #[] #[]),(1,.pointer (some b)),(4,.int .i64 s)]
def aX.u1:List Nat:= [0,1,4]
section
variable(a:Nat)(b d:Addr)(K:KT)(w:World)
def aX.W:Prop:=
 ∃e:OA,w.cell? b=some (.pointer e)/\∃f:AV,(f.size=32/\Cells w d f)/\f.size=32/\let g:=w.alloc (.cells (f.toList++ []).toArray 23);bj prog 55 #[.pointer e,.slice (some (⟨w.heap.size,0,none⟩:Addr)) 1 1] g fun i j=>∃k:Bool,i=.bool k/\Split (!k) (K (.tuple #[]) j) (let m:=j.drew;∃n:OA,m.cell? b=some (.pointer n)/\Is n fun o:Addr=>∃p:Option Nat,m.cell? (o.add 2)=some (.map p)/\∃q:AV,(q.size=32/\Cells m d q)/\∃r:Int,(Instr.lookup 89 (.map p) (.agg q) false).run prog m=.ok (.int .i64 r) m/\Holds none [] prog 38 (.loop (lB (bB (sR (sR (body f89)))))) (aX.q1 K) [(0,.func (.yield a) #[] #[]),(1,.pointer (some b)),(4,.int .i64 r)] m)
variable{a b d K w}
theorem aX.of(h:aX.W a b d K w):bj prog 89 #[.func (.yield a) #[] #[],.pointer (some b),.pointer (some d)] w K:=
 rqq func89 (C:=aX.k) h
end
section
variable(a:Nat)(b:Addr)(c:Int)(Q:aM)(w:World)
def aX.B1:Prop:=
 ∃d:OA,w.cell? b=some (.pointer d)/\Is d fun e:Addr=>∃f:OA,∃g i:Nat,w.cell? (e.add 3)=some (.slice f g i)/\(0<=c/\c<(g:Int))/\Is f fun j:Addr=>∃k:AV,(k.size=32/\Cells w (j.add (c.toNat*32)) k)/\jW prog a #[.agg k] w fun m n=>Split m (Split (decide (c>(0:Int))) (∃o:OA,n.cell? b=some (.pointer o)/\Is o fun p:Addr=>∃q:OA,n.cell? (p.add 1)=some (.pointer q)/\bj prog 90 #[.pointer q,.int .i64 c] n fun r t=>∃u v:Int,r=.tuple #[.int .i64 u,.int .i64 v]/\Q .normal [(0,.func (.yield a) #[] #[]),(1,.pointer (some b)),(4,.int .i64 u)] t) (Q (.exit 0) [(0,.func (.yield a) #[] #[]),(1,.pointer (some b)),(4,.int .i64 c)] n)) (Q (.exit 0) [(0,.func (.yield a) #[] #[]),(1,.pointer (some b)),(4,.int .i64 c)] n)
theorem aX.b1:(aU none [] prog 38 aX.k (lB (bB (sR (sR (body f89))))) aX.u1 Q [(0,.func (.yield a) #[] #[]),(1,.pointer (some b)),(4,.int .i64 c)] w)=aX.B1 a b c Q w:=by kernel_rfl
variable{a b}
theorem aX.b6(I:Int->World->Prop)(μ:Int->World->Nat)(s:Int){Q:aM}{w:World}(h0:I s w)
 (round:∀s w,I s w->aX.B1 a b s (bH (aX.e1 a b) I μ s w Q) w):Holds none [] prog 38 (.loop (lB (bB (sR (sR (body f89)))))) Q (aX.e1 a b s) w:=
 ba ng mix (aX.e1 a b) I μ aX.k aX.u1 s (fun s Q w=>aX.B1 a b s Q w) (fun s Q w=>aX.b1 a b s Q w) h0 round
end
section
def aX.cI(a:Nat)(b:Addr)(c:Int)(K:KT)(w:World):Prop:=
 K (.tuple #[]) w
variable(a:Nat)(b:Addr)(c:Int)(K:KT)(w:World)
theorem aX.cX:(aX.q1 K (.exit 0) [(0,.func (.yield a) #[] #[]),(1,.pointer (some b)),(4,.int .i64 c)] w)=aX.cI a b c K w:=by kernel_rfl
end
end Go.Proofs.YtnboahlopghcjaaGreatDoor
