import Derived.Test.YtnboahlopghcjaaGreatDoorProg
import Derived.Test.YtnboahlopghcjaaGreatDoorMA
set_option linter.unusedVariables false
namespace Go.Proofs.YtnboahlopghcjaaGreatDoor
open Go.Proofs.Tryz
open Go Go.bV
abbrev OA:=Option Addr
abbrev AV:=Array Value
abbrev KT:=Value->World->Prop
abbrev zH:Array Value:= #[.int .u8 0,.int .u8 0,.int .u8 0,.int .u8 0,.int .u8 0,.int .u8 0,.int .u8 0,.int .u8 0,.int .u8 0,.int .u8 0,.int .u8 0,.int .u8 0,.int .u8 0,.int .u8 0,.int .u8 0,.int .u8 0,.int .u8 0,.int .u8 0,.int .u8 0,.int .u8 0,.int .u8 0,.int .u8 0,.int .u8 0,.int .u8 0,.int .u8 0,.int .u8 0,.int .u8 0,.int .u8 0,.int .u8 0,.int .u8 0,.int .u8 0,.int .u8 0]
abbrev zC:Array Value:= #[.int .u8 0,.int .u8 0,.int .u8 0,.int .u8 0,.int .u8 0,.int .u8 0,.int .u8 0,.int .u8 0,.int .u8 0,.int .u8 0,.int .u8 0,.int .u8 0,.int .u8 0,.int .u8 0,.int .u8 0,.int .u8 0,.int .u8 0,.int .u8 0,.int .u8 0,.int .u8 0,.int .u8 0,.int .u8 0,.int .u8 0,.int .u8 0,.int .u8 0,.int .u8 0,.int .u8 0,.int .u8 0,.int .u8 0,.int .u8 0,.int .u8 0,.int .u8 0,.int .u64 0,.slice none 0 0,.slice none 0 0]
abbrev zS:Array Value:= #[.int .u8 0,.int .u8 0,.int .u8 0,.int .u8 0,.int .u8 0,.int .u8 0,.int .u8 0,.int .u8 0,.int .u8 0,.int .u8 0,.int .u8 0,.int .u8 0,.int .u8 0,.int .u8 0,.int .u8 0,.int .u8 0,.int .u8 0,.int .u8 0,.int .u8 0,.int .u8 0,.int .u8 0,.int .u8 0,.int .u8 0,.int .u8 0,.int .u8 0,.int .u8 0,.int .u8 0,.int .u8 0,.int .u8 0,.int .u8 0,.int .u8 0,.int .u8 0,.int .u64 0,.slice none 0 0,.slice none 0 0,.map none]
abbrev jl:Nat:=3
abbrev gQ:Nat:=4
abbrev iw:Nat:=5
abbrev ag:Nat:=23
abbrev iR:Nat:=25
abbrev fI:Nat:=28
abbrev az:Nat:=35
abbrev ct:Nat:=36
abbrev gX:Nat:=38
abbrev jg:Nat:=40
abbrev th:Nat:=42
abbrev fj:Nat:=43
abbrev gq:Nat:=45
abbrev bL:Nat:=48
abbrev iy:Nat:=49
abbrev fZ:Nat:=50
abbrev bk:Nat:=52
abbrev fM:Nat:=73
abbrev lR:Nat:=76
abbrev ke:Nat:=77
abbrev cV:Nat:=80
abbrev gB:Nat:=82
abbrev eT:Nat:=88
abbrev ck:Nat:=89
abbrev dN:Nat:=91
abbrev eW:Nat:=98
abbrev gm:Nat:=107
abbrev eo:Nat:=109
abbrev kP:Nat:=113
abbrev gJ:Nat:=115
abbrev sd:Nat:=128
abbrev kI:Nat:=129
abbrev iQ:Nat:=140
abbrev hZ:Nat:=141
abbrev sN:Nat:=143
abbrev eU:Nat:=146
abbrev zF:Nat:=147
abbrev j0:Nat:=148
abbrev dK:Nat:=150
abbrev vK:Nat:=187
abbrev aA.id:Nat:=6
abbrev cr.id:Nat:=9
abbrev gE.id:Nat:=10
abbrev aH.id:Nat:=11
abbrev hU.id:Nat:=12
abbrev cC.id:Nat:=13
abbrev dC.id:Nat:=14
abbrev dY.id:Nat:=15
abbrev b0.id:Nat:=16
abbrev dh.id:Nat:=18
abbrev bj.id:Nat:=19
abbrev aW.id:Nat:=20
abbrev ae.id:Nat:=21
abbrev dG.id:Nat:=22
abbrev ay.id:Nat:=24
abbrev dV.id:Nat:=25
abbrev aG.id:Nat:=26
abbrev bU.id:Nat:=27
abbrev aM.id:Nat:=28
abbrev fJ.id:Nat:=29
abbrev dJ.id:Nat:=30
abbrev dS.id:Nat:=31
abbrev dW.id:Nat:=32
abbrev dU.id:Nat:=33
abbrev jx.id:Nat:=37
abbrev dA.id:Nat:=38
abbrev aq.id:Nat:=39
abbrev dR.id:Nat:=40
abbrev iO.id:Nat:=41
abbrev ai.id:Nat:=42
abbrev aD.id:Nat:=43
abbrev gF.id:Nat:=44
abbrev dX.id:Nat:=45
abbrev lA.id:Nat:=46
abbrev br.id:Nat:=47
abbrev bA.id:Nat:=48
abbrev dr.id:Nat:=49
abbrev dH.id:Nat:=50
abbrev aZ.id:Nat:=51
abbrev bE.id:Nat:=52
abbrev fC.id:Nat:=53
abbrev cu.id:Nat:=54
abbrev fe.id:Nat:=55
abbrev e9.id:Nat:=56
abbrev bt.id:Nat:=57
abbrev fL.id:Nat:=60
abbrev jy.id:Nat:=61
abbrev bp.id:Nat:=62
abbrev fc.id:Nat:=63
abbrev mf.id:Nat:=64
abbrev eJ.id:Nat:=65
abbrev ah.id:Nat:=66
abbrev du.id:Nat:=69
abbrev aR.id:Nat:=70
abbrev dI.id:Nat:=71
abbrev iE.id:Nat:=72
abbrev af.id:Nat:=73
abbrev cY.id:Nat:=74
abbrev bQ.id:Nat:=75
abbrev a7.id:Nat:=76
abbrev cj.id:Nat:=77
abbrev eQ.id:Nat:=78
abbrev fX.id:Nat:=79
abbrev bz.id:Nat:=80
abbrev cZ.id:Nat:=81
abbrev fV.id:Nat:=82
abbrev cQ.id:Nat:=83
abbrev dF.id:Nat:=84
abbrev dD.id:Nat:=85
abbrev bG.id:Nat:=87
abbrev dw.id:Nat:=88
abbrev aV.id:Nat:=89
abbrev fg.id:Nat:=90
abbrev dt.id:Nat:=92
abbrev ig.id:Nat:=93
abbrev cK.id:Nat:=98
abbrev aF.id:Nat:=99
abbrev gP.id:Nat:=100
abbrev fD.id:Nat:=101
abbrev cf.id:Nat:=102
abbrev cG.id:Nat:=104
abbrev gv.id:Nat:=105
abbrev bits_Len.id:Nat:=106
abbrev dZ.id:Nat:=107
abbrev bI.id:Nat:=108
abbrev fU.id:Nat:=109
abbrev fy.id:Nat:=110
abbrev fz.id:Nat:=111
abbrev au.id:Nat:=112
abbrev aL.id:Nat:=118
abbrev aI.id:Nat:=120
abbrev bits_TrailingZeros64.id:Nat:=121
abbrev iG.id:Nat:=122
abbrev js.id:Nat:=123
abbrev iH.id:Nat:=124
abbrev iV.id:Nat:=125
abbrev iK.id:Nat:=126
abbrev gK.id:Nat:=127
abbrev jh.id:Nat:=129
abbrev bits_Len64.id:Nat:=131
abbrev bu.id:Nat:=132
abbrev bits_Mul64.id:Nat:=133
abbrev a8.id:Nat:=134
abbrev jr.id:Nat:=135
abbrev ox.id:Nat:=137
abbrev jH.id:Nat:=139
abbrev bits_LeadingZeros64.id:Nat:=140
abbrev jG.id:Nat:=141
noncomputable abbrev ae.fn:Func:=Tryz.f21
noncomputable abbrev ay.fn:Func:=Tryz.f24
noncomputable abbrev ai.fn:Func:=f42
noncomputable abbrev au.fn:Func:=f112
noncomputable abbrev a8.fn:Func:=f134
theorem du.at_:prog.funcs[(69:Nat)]? =some f69:=func69
theorem bQ.at_:prog.funcs[(75:Nat)]? =some f75:=func75
theorem cj.at_:prog.funcs[(77:Nat)]? =some f77:=func77
theorem aV.at_:prog.funcs[(89:Nat)]? =some f89:=func89
theorem aF.at_:prog.funcs[(99:Nat)]? =some f99:=func99
theorem sZ.at_:prog.funcs[(119:Nat)]? =some f119:=func119
theorem aI.at_:prog.funcs[(120:Nat)]? =some f120:=func120
theorem ng:NG prog:=by
 have h:(prog.funcs.toList.all fun f=> !(f.name== "runtime.NumGoroutine"))=true:=by kernel_rfl
 intro g fn hf;rw [List.all_eq_true]at h;have:=h fn (by simpa using Array.mem_of_getElem? hf);simpa using this
theorem mix:prog.follows .mixedOrders=true:=by kernel_rfl
def cC.k:List Nat:= []
def cC.q1(K:KT):aO:=(aN 0 (b9 (sR (sR (body f13)))++(aT f13)) (bS (fun bW w_=>match cutAt cC.k (sR (sR (body f13)))with|true=>Holds none [] prog 18 (sR (sR (body f13))) (bK prog f13 K) bW w_|false=>aX none [] prog 18 cC.k (sR (sR (body f13))) (aT f13) (bK prog f13 K) bW w_) (bK prog f13 K)))
def cC.e1(a:OA)(b:Nat)(c:Nat)(d:Addr)(s:Bool×Int):Env:= [(0,.slice a b c),(3,.pointer (some d)),(4,.bool s.1),(5,.int .i64 s.2)]
def cC.u1:List Nat:= [0,3,4,5]
section
variable(a:OA)(b:Nat)(d:Nat)(e:AV)(K:KT)(w:World)
def cC.W:Prop:=
 let f:=w.alloc (.cells e 23);Holds none [] prog 18 (.loop (lB (bB (sR (sL (sR (body f13))))))) (cC.q1 K) [(0,.slice a b d),(3,.pointer (some (⟨w.heap.size,0,none⟩:Addr))),(4,.bool false),(5,.int .i64 0)] f
variable{a b d e K w}
theorem cC.of(h:cC.W a b d e K w):bn prog 13 #[.slice a b d,.agg e] w K:=
 aK (C:=cC.k) (c:=body f13) ng mix func13 (by kernel_rfl) (by kernel_rfl) (by kernel_rfl) h
end
section
variable(a:OA)(b:Nat)(c:Nat)(d:Addr)(e:Bool)(f:Int)(Q:aO)(w:World)
def cC.B1:Prop:=
 Split (decide (f<(b:Int))) (let g:=w.drew;(0<=f/\f<(b:Int))/\Is a fun i:Addr=> ∃j:AV,(j.size=32/\Cells g (i.add (f.toNat*32)) j)/\ ∃k:AV,(k.size=32/\Cells g d k)/\(dv .u8 32 j/\dv .u8 32 k)/\Split (eh j k) (Q .ret [(0,.slice a b c),(3,.pointer (some d)),(4,.bool true),(5,.int .i64 f)] g) (Q .normal [(0,.slice a b c),(3,.pointer (some d)),(4,.bool e),(5,.int .i64 (IntKind.i64.wrap (f+(1:Int))))] g)) (Q (.exit 0) [(0,.slice a b c),(3,.pointer (some d)),(4,.bool e),(5,.int .i64 f)] w)
theorem cC.b1:(aX none [] prog 18 cC.k (lB (bB (sR (sL (sR (body f13)))))) cC.u1 Q [(0,.slice a b c),(3,.pointer (some d)),(4,.bool e),(5,.int .i64 f)] w)=cC.B1 a b c d e f Q w:=by kernel_rfl
variable{a b c d}
theorem cC.b6(I:Bool×Int->World->Prop)(μ:Bool×Int->World->Nat)(s:Bool×Int){Q:aO}{w:World}(h0:I s w)
 (round: ∀s w,I s w->cC.B1 a b c d (s.1) (s.2) (bJ (cC.e1 a b c d) I μ s w Q) w):Holds none [] prog 18 (.loop (lB (bB (sR (sL (sR (body f13))))))) Q (cC.e1 a b c d s) w:=
 bf ng mix (cC.e1 a b c d) I μ cC.k cC.u1 s (fun s Q w=>cC.B1 a b c d (s.1) (s.2) Q w) (fun s Q w=>cC.b1 a b c d (s.1) (s.2) Q w) h0 round
end
section
def cC.cJ(a:OA)(b:Nat)(c:Nat)(d:Addr)(e:Bool)(f:Int)(K:KT)(w:World):Prop:=
 K (.bool false) w
variable(a:OA)(b:Nat)(c:Nat)(d:Addr)(e:Bool)(f:Int)(K:KT)(w:World)
theorem cC.cX:(cC.q1 K (.exit 0) [(0,.slice a b c),(3,.pointer (some d)),(4,.bool e),(5,.int .i64 f)] w)=cC.cJ a b c d e f K w:=by kernel_rfl
end
def bU.k:List Nat:= []
def bU.q1(K:KT):aO:=(aN 0 (b9 (sR (sR (sR (body Tryz.f27))))++(aT Tryz.f27)) (bS (fun bW w_=>match cutAt bU.k (sR (sR (sR (body Tryz.f27))))with|true=>Holds none [] prog 26 (sR (sR (sR (body Tryz.f27)))) (bK prog Tryz.f27 K) bW w_|false=>aX none [] prog 26 bU.k (sR (sR (sR (body Tryz.f27)))) (aT Tryz.f27) (bK prog Tryz.f27 K) bW w_) (bK prog Tryz.f27 K)))
def bU.e1(a:OA)(b:Nat)(c:Nat)(d:OA)(e:Nat)(f:Nat)(s:Bool×Int):Env:= [(0,.slice a b c),(1,.slice d e f),(4,.bool s.1),(5,.int .i64 s.2)]
def bU.u1:List Nat:= [0,1,4,5]
section
variable(a:OA)(b:Nat)(d:Nat)(e:OA)(f:Nat)(g:Nat)(K:KT)(w:World)
def bU.W:Prop:=
 Split ((b:Int) != (f:Int)) (K (.bool false) w) (Holds none [] prog 26 (.loop (lB (bB (sR (sL (sR (sR (body Tryz.f27)))))))) (bU.q1 K) [(0,.slice a b d),(1,.slice e f g),(4,.bool false),(5,.int .i64 0)] w)
variable{a b d e f g K w}
theorem bU.of(h:bU.W a b d e f g K w):bn prog 27 #[.slice a b d,.slice e f g] w K:=
 aK (C:=bU.k) (c:=body Tryz.f27) ng mix func27 (by kernel_rfl) (by kernel_rfl) (by kernel_rfl) h
end
section
variable(a:OA)(b:Nat)(c:Nat)(d:OA)(e:Nat)(f:Nat)(g:Bool)(i:Int)(Q:aO)(w:World)
def bU.B1:Prop:=
 Split (decide (i<(b:Int))) (let j:=w.drew;(0<=i/\i<(b:Int))/\Is a fun k:Addr=> ∃m:AV,(m.size=32/\Cells j (k.add (i.toNat*32)) m)/\(0<=i/\i<(e:Int))/\Is d fun n:Addr=> ∃o:AV,(o.size=32/\Cells j (n.add (i.toNat*32)) o)/\(dv .u8 32 m/\dv .u8 32 o)/\Split (!(eh m o)) (Q .ret [(0,.slice a b c),(1,.slice d e f),(4,.bool false),(5,.int .i64 i)] j) (Q .normal [(0,.slice a b c),(1,.slice d e f),(4,.bool g),(5,.int .i64 (IntKind.i64.wrap (i+(1:Int))))] j)) (Q (.exit 0) [(0,.slice a b c),(1,.slice d e f),(4,.bool g),(5,.int .i64 i)] w)
theorem bU.b1:(aX none [] prog 26 bU.k (lB (bB (sR (sL (sR (sR (body Tryz.f27))))))) bU.u1 Q [(0,.slice a b c),(1,.slice d e f),(4,.bool g),(5,.int .i64 i)] w)=bU.B1 a b c d e f g i Q w:=by kernel_rfl
variable{a b c d e f}
theorem bU.b6(I:Bool×Int->World->Prop)(μ:Bool×Int->World->Nat)(s:Bool×Int){Q:aO}{w:World}(h0:I s w)
 (round: ∀s w,I s w->bU.B1 a b c d e f (s.1) (s.2) (bJ (bU.e1 a b c d e f) I μ s w Q) w):Holds none [] prog 26 (.loop (lB (bB (sR (sL (sR (sR (body Tryz.f27)))))))) Q (bU.e1 a b c d e f s) w:=
 bf ng mix (bU.e1 a b c d e f) I μ bU.k bU.u1 s (fun s Q w=>bU.B1 a b c d e f (s.1) (s.2) Q w) (fun s Q w=>bU.b1 a b c d e f (s.1) (s.2) Q w) h0 round
end
section
def bU.cJ(a:OA)(b:Nat)(c:Nat)(d:OA)(e:Nat)(f:Nat)(g:Bool)(i:Int)(K:KT)(w:World):Prop:=
 K (.bool true) w
variable(a:OA)(b:Nat)(c:Nat)(d:OA)(e:Nat)(f:Nat)(g:Bool)(i:Int)(K:KT)(w:World)
theorem bU.cX:(bU.q1 K (.exit 0) [(0,.slice a b c),(1,.slice d e f),(4,.bool g),(5,.int .i64 i)] w)=bU.cJ a b c d e f g i K w:=by kernel_rfl
end
def aM.k:List Nat:= []
def aM.q1(K:KT):aO:=(aN 0 (b9 (sR (sR (sR (body Tryz.f28))))++(aT Tryz.f28)) (bS (fun bW w_=>match cutAt aM.k (sR (sR (sR (body Tryz.f28))))with|true=>Holds none [] prog 56 (sR (sR (sR (body Tryz.f28)))) (bK prog Tryz.f28 K) bW w_|false=>aX none [] prog 56 aM.k (sR (sR (sR (body Tryz.f28)))) (aT Tryz.f28) (bK prog Tryz.f28 K) bW w_) (bK prog Tryz.f28 K)))
def aM.e1(a:OA)(b:Nat)(c:Nat)(d:OA)(e:Nat)(f:Nat)(s:(OA)×Nat×Nat×Int):Env:= [(0,.slice a b c),(2,.slice d e f),(3,.slice s.1 s.2.1 s.2.2.1),(4,.int .i64 s.2.2.2)]
def aM.u1:List Nat:= [0,2,3,4]
def aM.q2(Q:aO):aO:=(aN 2 (b9 (sR (sR (sR (bB (sL (sR (lB (bB (sR (sL (sR (sR (body Tryz.f28)))))))))))))++(b9 (sR (sR (lB (bB (sR (sL (sR (sR (body Tryz.f28)))))))))++aM.u1)) (bS (fun bW w_=>match cutAt aM.k (sR (sR (sR (bB (sL (sR (lB (bB (sR (sL (sR (sR (body Tryz.f28)))))))))))))with|true=>Holds none [] prog 56 (sR (sR (sR (bB (sL (sR (lB (bB (sR (sL (sR (sR (body Tryz.f28))))))))))))) (aN 1 (b9 (sR (sR (lB (bB (sR (sL (sR (sR (body Tryz.f28)))))))))++aM.u1) (bS (fun bW w_=>match cutAt aM.k (sR (sR (lB (bB (sR (sL (sR (sR (body Tryz.f28)))))))))with|true=>Holds none [] prog 56 (sR (sR (lB (bB (sR (sL (sR (sR (body Tryz.f28))))))))) Q bW w_|false=>aX none [] prog 56 aM.k (sR (sR (lB (bB (sR (sL (sR (sR (body Tryz.f28))))))))) aM.u1 Q bW w_) Q)) bW w_|false=>aX none [] prog 56 aM.k (sR (sR (sR (bB (sL (sR (lB (bB (sR (sL (sR (sR (body Tryz.f28))))))))))))) (b9 (sR (sR (lB (bB (sR (sL (sR (sR (body Tryz.f28)))))))))++aM.u1) (aN 1 (b9 (sR (sR (lB (bB (sR (sL (sR (sR (body Tryz.f28)))))))))++aM.u1) (bS (fun bW w_=>match cutAt aM.k (sR (sR (lB (bB (sR (sL (sR (sR (body Tryz.f28)))))))))with|true=>Holds none [] prog 56 (sR (sR (lB (bB (sR (sL (sR (sR (body Tryz.f28))))))))) Q bW w_|false=>aX none [] prog 56 aM.k (sR (sR (lB (bB (sR (sL (sR (sR (body Tryz.f28))))))))) aM.u1 Q bW w_) Q)) bW w_) (aN 1 (b9 (sR (sR (lB (bB (sR (sL (sR (sR (body Tryz.f28)))))))))++aM.u1) (bS (fun bW w_=>match cutAt aM.k (sR (sR (lB (bB (sR (sL (sR (sR (body Tryz.f28)))))))))with|true=>Holds none [] prog 56 (sR (sR (lB (bB (sR (sL (sR (sR (body Tryz.f28))))))))) Q bW w_|false=>aX none [] prog 56 aM.k (sR (sR (lB (bB (sR (sL (sR (sR (body Tryz.f28))))))))) aM.u1 Q bW w_) Q))))
def aM.e2(a:OA)(b:Nat)(c:Nat)(d:OA)(e:Nat)(f:Nat)(g:OA)(i:Nat)(j:Nat)(k:Int)(s:Int):Env:= [(0,.slice a b c),(2,.slice d e f),(3,.slice g i j),(4,.int .i64 k),(5,.int .i64 s)]
def aM.u2:List Nat:= [0,2,3,4,5]
section
variable(a:OA)(b:Nat)(d:Nat)(K:KT)(w:World)
def aM.W:Prop:=
 Holds none [] prog 56 (.loop (lB (bB (sR (sL (sR (sR (body Tryz.f28)))))))) (aM.q1 K) [(0,.slice a b d),(2,.slice none 0 0),(3,.slice none 0 0),(4,.int .i64 0)] w
variable{a b d K w}
theorem aM.of(h:aM.W a b d K w):bn prog 28 #[.slice a b d] w K:=
 aK (C:=aM.k) (c:=body Tryz.f28) ng mix func28 (by kernel_rfl) (by kernel_rfl) (by kernel_rfl) h
end
section
variable(a:OA)(b:Nat)(c:Nat)(d:OA)(e:Nat)(f:Nat)(g:OA)(i:Nat)(j:Nat)(k:Int)(Q:aO)(w:World)
def aM.B1:Prop:=
 Split (decide (k<(b:Int))) ((0<=k/\k<(b:Int))/\Is a fun m:Addr=> ∃n:AV,(n.size=32/\Cells w (m.add (k.toNat*32)) n)/\bn prog 13 #[.slice g i j,.agg n] w fun o p=> ∃q:Bool,o=.bool q/\Split q (Q .normal [(0,.slice a b c),(2,.slice d e f),(3,.slice g i j),(4,.int .i64 (IntKind.i64.wrap (k+(1:Int))))] p) (Holds none [] prog 56 (.loop (lB (bB (sL (sR (sR (bB (sL (sR (lB (bB (sR (sL (sR (sR (body Tryz.f28)))))))))))))))) (aM.q2 Q) [(0,.slice a b c),(2,.slice d e f),(3,.slice g i j),(4,.int .i64 k),(5,.int .i64 (i:Int))] p)) (Q (.exit 0) [(0,.slice a b c),(2,.slice d e f),(3,.slice g i j),(4,.int .i64 k)] w)
theorem aM.b1:(aX none [] prog 56 aM.k (lB (bB (sR (sL (sR (sR (body Tryz.f28))))))) aM.u1 Q [(0,.slice a b c),(2,.slice d e f),(3,.slice g i j),(4,.int .i64 k)] w)=aM.B1 a b c d e f g i j k Q w:=by kernel_rfl
variable{a b c d e f}
theorem aM.b6(I:(OA)×Nat×Nat×Int->World->Prop)(μ:(OA)×Nat×Nat×Int->World->Nat)(s:(OA)×Nat×Nat×Int){Q:aO}{w:World}(h0:I s w)
 (round: ∀s w,I s w->aM.B1 a b c d e f (s.1) (s.2.1) (s.2.2.1) (s.2.2.2) (bJ (aM.e1 a b c d e f) I μ s w Q) w):Holds none [] prog 56 (.loop (lB (bB (sR (sL (sR (sR (body Tryz.f28)))))))) Q (aM.e1 a b c d e f s) w:=
 bf ng mix (aM.e1 a b c d e f) I μ aM.k aM.u1 s (fun s Q w=>aM.B1 a b c d e f (s.1) (s.2.1) (s.2.2.1) (s.2.2.2) Q w) (fun s Q w=>aM.b1 a b c d e f (s.1) (s.2.1) (s.2.2.1) (s.2.2.2) Q w) h0 round
end
section
def aM.cJ(a:OA)(b:Nat)(c:Nat)(d:OA)(e:Nat)(f:Nat)(g:OA)(i:Nat)(j:Nat)(k:Int)(K:KT)(w:World):Prop:=
 K (.slice g i j) w
variable(a:OA)(b:Nat)(c:Nat)(d:OA)(e:Nat)(f:Nat)(g:OA)(i:Nat)(j:Nat)(k:Int)(K:KT)(w:World)
theorem aM.cX:(aM.q1 K (.exit 0) [(0,.slice a b c),(2,.slice d e f),(3,.slice g i j),(4,.int .i64 k)] w)=aM.cJ a b c d e f g i j k K w:=by kernel_rfl
end
section
variable(a:OA)(b:Nat)(c:Nat)(d:OA)(e:Nat)(f:Nat)(g:OA)(i:Nat)(j:Nat)(k:Int)(m:Int)(Q:aO)(w:World)
def aM.B2:Prop:=
 let n:=w.drew;Split (decide (m>(0:Int))) ((0<=k/\k<(b:Int))/\Is a fun o:Addr=> ∃p:AV,(p.size=32/\Cells n (o.add (k.toNat*32)) p)/\(0<=(IntKind.i64.wrap (m-(1:Int)))/\(IntKind.i64.wrap (m-(1:Int)))<(i:Int))/\Is g fun q:Addr=> ∃r:AV,(r.size=32/\Cells n (q.add ((IntKind.i64.wrap (m-(1:Int))).toNat*32)) r)/\bn prog 52 #[.agg p,.agg r] n fun t u=> ∃v:Int,t=.int .i64 v/\Split (decide (v<(0:Int))) (Q .normal [(0,.slice a b c),(2,.slice d e f),(3,.slice g i j),(4,.int .i64 k),(5,.int .i64 (IntKind.i64.wrap (m-(1:Int))))] u) (Q (.exit 2) [(0,.slice a b c),(2,.slice d e f),(3,.slice g i j),(4,.int .i64 k),(5,.int .i64 m)] u)) (Q (.exit 2) [(0,.slice a b c),(2,.slice d e f),(3,.slice g i j),(4,.int .i64 k),(5,.int .i64 m)] n)
theorem aM.b2:(aX none [] prog 56 aM.k (lB (bB (sL (sR (sR (bB (sL (sR (lB (bB (sR (sL (sR (sR (body Tryz.f28))))))))))))))) aM.u2 Q [(0,.slice a b c),(2,.slice d e f),(3,.slice g i j),(4,.int .i64 k),(5,.int .i64 m)] w)=aM.B2 a b c d e f g i j k m Q w:=by kernel_rfl
variable{a b c d e f g i j k}
theorem aM.gD(I:Int->World->Prop)(μ:Int->World->Nat)(s:Int){Q:aO}{w:World}(h0:I s w)
 (round: ∀s w,I s w->aM.B2 a b c d e f g i j k s (bJ (aM.e2 a b c d e f g i j k) I μ s w Q) w):Holds none [] prog 56 (.loop (lB (bB (sL (sR (sR (bB (sL (sR (lB (bB (sR (sL (sR (sR (body Tryz.f28)))))))))))))))) Q (aM.e2 a b c d e f g i j k s) w:=
 bf ng mix (aM.e2 a b c d e f g i j k) I μ aM.k aM.u2 s (fun s Q w=>aM.B2 a b c d e f g i j k s Q w) (fun s Q w=>aM.b2 a b c d e f g i j k s Q w) h0 round
end
section
variable(a:OA)(b:Nat)(c:Nat)(d:OA)(e:Nat)(f:Nat)(g:OA)(i:Nat)(j:Nat)(k:Int)(m:Int)(Q:aO)(w:World)
def aM.iu:Prop:=
 (0<=m/\m<=(j:Int))/\ ∃(n:OA) (o p:Nat) (q:World),(Builtin.append_ #[35,35] 35 #[.slice none 0 0,.slice (if j=0 then g else g.map (·.add (0*32))) (m.toNat-0) (j-0)]).run prog w=.ok (.slice n o p) q/\(0<=k/\k<(b:Int))/\Is a fun r:Addr=> ∃t:AV,(t.size=32/\Cells q (r.add (k.toNat*32)) t)/\t.size=32/\let u:=q.alloc (.cells (t.toList++ []).toArray 23);∃(v:OA) (x y:Nat) (z:World),(Builtin.append_ #[35,35] 35 #[.slice n o p,.slice (some (⟨q.heap.size,0,none⟩:Addr)) 1 1]).run prog u=.ok (.slice v x y) z/\(0<=m/\m<=(i:Int))/\ ∃(a1:OA) (b1 c1:Nat) (d1:World),(Builtin.append_ #[35,35] 35 #[.slice v x y,.slice (if j=m.toNat then g else g.map (·.add (m.toNat*32))) (i-m.toNat) (j-m.toNat)]).run prog z=.ok (.slice a1 b1 c1) d1/\Q .normal [(0,.slice a b c),(2,.slice d e f),(3,.slice a1 b1 c1),(4,.int .i64 (IntKind.i64.wrap (k+(1:Int))))] d1
theorem aM.jC:(aM.q2 Q (.exit 2) [(0,.slice a b c),(2,.slice d e f),(3,.slice g i j),(4,.int .i64 k),(5,.int .i64 m)] w)=aM.iu a b c d e f g i j k m Q w:=by kernel_rfl
end
def bE.k:List Nat:= []
def bE.q1(K:KT):aO:=(aN 0 (b9 (sR (sR (body f52)))++(aT f52)) (bS (fun bW w_=>match cutAt bE.k (sR (sR (body f52)))with|true=>Holds none [] prog 24 (sR (sR (body f52))) (bK prog f52 K) bW w_|false=>aX none [] prog 24 bE.k (sR (sR (body f52))) (aT f52) (bK prog f52 K) bW w_) (bK prog f52 K)))
def bE.e1(a:Addr)(b:Addr)(s:Int×Int):Env:= [(2,.pointer (some a)),(3,.pointer (some b)),(4,.int .i64 s.1),(5,.int .i64 s.2)]
def bE.u1:List Nat:= [2,3,4,5]
section
variable(a:AV)(b:AV)(K:KT)(w:World)
def bE.W:Prop:=
 let d:=w.alloc (.cells a 23);let e:=d.alloc (.cells b 23);Holds none [] prog 24 (.loop (lB (bB (sR (sL (sR (body f52))))))) (bE.q1 K) [(2,.pointer (some (⟨w.heap.size,0,none⟩:Addr))),(3,.pointer (some (⟨d.heap.size,0,none⟩:Addr))),(4,.int .i64 0),(5,.int .i64 0)] e
variable{a b K w}
theorem bE.of(h:bE.W a b K w):bn prog 52 #[.agg a,.agg b] w K:=
 aK (C:=bE.k) (c:=body f52) ng mix func52 (by kernel_rfl) (by kernel_rfl) (by kernel_rfl) h
end
section
variable(a:Addr)(b:Addr)(c:Int)(d:Int)(Q:aO)(w:World)
def bE.B1:Prop:=
 Split (decide (d<(32:Int))) (let e:=w.drew;(0<=d/\d<(32:Int))/\ ∃f:Int,e.cell? (a.add (d.toNat*1))=some (.int .u8 f)/\(0<=d/\d<(32:Int))/\ ∃g:Int,e.cell? (b.add (d.toNat*1))=some (.int .u8 g)/\Split (decide (f<g)) (Q .ret [(2,.pointer (some a)),(3,.pointer (some b)),(4,.int .i64 (-1)),(5,.int .i64 d)] e) (let i:=e.drew;(0<=d/\d<(32:Int))/\ ∃j:Int,i.cell? (a.add (d.toNat*1))=some (.int .u8 j)/\(0<=d/\d<(32:Int))/\ ∃k:Int,i.cell? (b.add (d.toNat*1))=some (.int .u8 k)/\Split (decide (j>k)) (Q .ret [(2,.pointer (some a)),(3,.pointer (some b)),(4,.int .i64 1),(5,.int .i64 d)] i) (Q .normal [(2,.pointer (some a)),(3,.pointer (some b)),(4,.int .i64 c),(5,.int .i64 (IntKind.i64.wrap (d+(1:Int))))] i))) (Q (.exit 0) [(2,.pointer (some a)),(3,.pointer (some b)),(4,.int .i64 c),(5,.int .i64 d)] w)
theorem bE.b1:(aX none [] prog 24 bE.k (lB (bB (sR (sL (sR (body f52)))))) bE.u1 Q [(2,.pointer (some a)),(3,.pointer (some b)),(4,.int .i64 c),(5,.int .i64 d)] w)=bE.B1 a b c d Q w:=by kernel_rfl
variable{a b}
theorem bE.b6(I:Int×Int->World->Prop)(μ:Int×Int->World->Nat)(s:Int×Int){Q:aO}{w:World}(h0:I s w)
 (round: ∀s w,I s w->bE.B1 a b (s.1) (s.2) (bJ (bE.e1 a b) I μ s w Q) w):Holds none [] prog 24 (.loop (lB (bB (sR (sL (sR (body f52))))))) Q (bE.e1 a b s) w:=
 bf ng mix (bE.e1 a b) I μ bE.k bE.u1 s (fun s Q w=>bE.B1 a b (s.1) (s.2) Q w) (fun s Q w=>bE.b1 a b (s.1) (s.2) Q w) h0 round
end
section
def bE.cJ(a:Addr)(b:Addr)(c:Int)(d:Int)(K:KT)(w:World):Prop:=
 K (.int .i64 0) w
variable(a:Addr)(b:Addr)(c:Int)(d:Int)(K:KT)(w:World)
theorem bE.cX:(bE.q1 K (.exit 0) [(2,.pointer (some a)),(3,.pointer (some b)),(4,.int .i64 c),(5,.int .i64 d)] w)=bE.cJ a b c d K w:=by kernel_rfl
end
def fL.k:List Nat:= []
section
variable(a:OA)(K:KT)(w:World)
def fL.W:Prop:=
 Split (!(a).isNone) (Is a fun b:Addr=> ∃d:Option Nat,w.cell? (b.add 1)=some (.map d)/\K (.bool (!(d).isNone)) w) (K (.bool false) w)
variable{a K w}
theorem fL.of(h:fL.W a K w):bn prog 60 #[.pointer a] w K:=
 aK (C:=fL.k) (c:=body f60) ng mix func60 (by kernel_rfl) (by kernel_rfl) (by kernel_rfl) h
end
def ah.k:List Nat:= []
def ah.q1(K:KT):aO:=(aN 0 (b9 (sR (sR (sR (body f66))))++(aT f66)) (bS (fun bW w_=>match cutAt ah.k (sR (sR (sR (body f66))))with|true=>Holds none [] prog 61 (sR (sR (sR (body f66)))) (bK prog f66 K) bW w_|false=>aX none [] prog 61 ah.k (sR (sR (sR (body f66)))) (aT f66) (bK prog f66 K) bW w_) (bK prog f66 K)))
def ah.e1(a:OA)(b:Nat)(c:Nat)(s:(OA)×Nat×Nat×Int):Env:= [(0,.slice a b c),(2,.slice s.1 s.2.1 s.2.2.1),(3,.int .i64 s.2.2.2)]
def ah.u1:List Nat:= [0,2,3]
def ah.q2(Q:aO):aO:=(aN 2 (b9 (sR (sR (cT (sR (bB (sL (sR (lB (bB (sR (sL (sR (sR (body f66))))))))))))))++(b9 (sR (sR (lB (bB (sR (sL (sR (sR (body f66)))))))))++ah.u1)) (bS (fun bW w_=>match cutAt ah.k (sR (sR (cT (sR (bB (sL (sR (lB (bB (sR (sL (sR (sR (body f66))))))))))))))with|true=>Holds none [] prog 61 (sR (sR (cT (sR (bB (sL (sR (lB (bB (sR (sL (sR (sR (body f66)))))))))))))) (aN 1 (b9 (sR (sR (lB (bB (sR (sL (sR (sR (body f66)))))))))++ah.u1) (bS (fun bW w_=>match cutAt ah.k (sR (sR (lB (bB (sR (sL (sR (sR (body f66)))))))))with|true=>Holds none [] prog 61 (sR (sR (lB (bB (sR (sL (sR (sR (body f66))))))))) Q bW w_|false=>aX none [] prog 61 ah.k (sR (sR (lB (bB (sR (sL (sR (sR (body f66))))))))) ah.u1 Q bW w_) Q)) bW w_|false=>aX none [] prog 61 ah.k (sR (sR (cT (sR (bB (sL (sR (lB (bB (sR (sL (sR (sR (body f66)))))))))))))) (b9 (sR (sR (lB (bB (sR (sL (sR (sR (body f66)))))))))++ah.u1) (aN 1 (b9 (sR (sR (lB (bB (sR (sL (sR (sR (body f66)))))))))++ah.u1) (bS (fun bW w_=>match cutAt ah.k (sR (sR (lB (bB (sR (sL (sR (sR (body f66)))))))))with|true=>Holds none [] prog 61 (sR (sR (lB (bB (sR (sL (sR (sR (body f66))))))))) Q bW w_|false=>aX none [] prog 61 ah.k (sR (sR (lB (bB (sR (sL (sR (sR (body f66))))))))) ah.u1 Q bW w_) Q)) bW w_) (aN 1 (b9 (sR (sR (lB (bB (sR (sL (sR (sR (body f66)))))))))++ah.u1) (bS (fun bW w_=>match cutAt ah.k (sR (sR (lB (bB (sR (sL (sR (sR (body f66)))))))))with|true=>Holds none [] prog 61 (sR (sR (lB (bB (sR (sL (sR (sR (body f66))))))))) Q bW w_|false=>aX none [] prog 61 ah.k (sR (sR (lB (bB (sR (sL (sR (sR (body f66))))))))) ah.u1 Q bW w_) Q))))
def ah.e2(a:OA)(b:Nat)(c:Nat)(d:OA)(e:Nat)(f:Nat)(g:OA)(i:Nat)(j:Nat)(s:Int×Int):Env:= [(0,.slice a b c),(2,.slice d e f),(3,.int .i64 s.1),(4,.slice g i j),(5,.int .i64 s.2)]
def ah.u2:List Nat:= [0,2,3,4,5]
section
variable(a:OA)(b:Nat)(d:Nat)(K:KT)(w:World)
def ah.W:Prop:=
 Split (decide ((b:Int)<(2:Int))) (K (.slice a b d) w) (Holds none [] prog 61 (.loop (lB (bB (sR (sL (sR (sR (body f66)))))))) (ah.q1 K) [(0,.slice a b d),(2,.slice none 0 0),(3,.int .i64 1)] w)
variable{a b d K w}
theorem ah.of(h:ah.W a b d K w):bn prog 66 #[.slice a b d] w K:=
 aK (C:=ah.k) (c:=body f66) ng mix func66 (by kernel_rfl) (by kernel_rfl) (by kernel_rfl) h
end
section
variable(a:OA)(b:Nat)(c:Nat)(d:OA)(e:Nat)(f:Nat)(g:Int)(Q:aO)(w:World)
def ah.B1:Prop:=
 Split (decide (g<(b:Int))) (let i:=w.drew;(0<=g/\g<(b:Int))/\Is a fun j:Addr=> ∃k:AV,(k.size=32/\Cells i (j.add (g.toNat*32)) k)/\(0<=(IntKind.i64.wrap (g-(1:Int)))/\(IntKind.i64.wrap (g-(1:Int)))<(b:Int))/\Is a fun m:Addr=> ∃n:AV,(n.size=32/\Cells i (m.add ((IntKind.i64.wrap (g-(1:Int))).toNat*32)) n)/\(dv .u8 32 k/\dv .u8 32 n)/\Split (eh k n) ((0<=g/\g<=(b:Int))/\Holds none [] prog 61 (.loop (lB (bB (sR (sL (sR (cT (sR (bB (sL (sR (lB (bB (sR (sL (sR (sR (body f66)))))))))))))))))) (ah.q2 Q) [(0,.slice a b c),(2,.slice d e f),(3,.int .i64 g),(4,.slice (if c=g.toNat then a else a.map (·.add (g.toNat*32))) (b-g.toNat) (c-g.toNat)),(5,.int .i64 1)] i) (Q .normal [(0,.slice a b c),(2,.slice d e f),(3,.int .i64 (IntKind.i64.wrap (g+(1:Int))))] i)) (Q (.exit 0) [(0,.slice a b c),(2,.slice d e f),(3,.int .i64 g)] w)
theorem ah.b1:(aX none [] prog 61 ah.k (lB (bB (sR (sL (sR (sR (body f66))))))) ah.u1 Q [(0,.slice a b c),(2,.slice d e f),(3,.int .i64 g)] w)=ah.B1 a b c d e f g Q w:=by kernel_rfl
variable{a b c}
theorem ah.b6(I:(OA)×Nat×Nat×Int->World->Prop)(μ:(OA)×Nat×Nat×Int->World->Nat)(s:(OA)×Nat×Nat×Int){Q:aO}{w:World}(h0:I s w)
 (round: ∀s w,I s w->ah.B1 a b c (s.1) (s.2.1) (s.2.2.1) (s.2.2.2) (bJ (ah.e1 a b c) I μ s w Q) w):Holds none [] prog 61 (.loop (lB (bB (sR (sL (sR (sR (body f66)))))))) Q (ah.e1 a b c s) w:=
 bf ng mix (ah.e1 a b c) I μ ah.k ah.u1 s (fun s Q w=>ah.B1 a b c (s.1) (s.2.1) (s.2.2.1) (s.2.2.2) Q w) (fun s Q w=>ah.b1 a b c (s.1) (s.2.1) (s.2.2.1) (s.2.2.2) Q w) h0 round
end
section
def ah.cJ(a:OA)(b:Nat)(c:Nat)(d:OA)(e:Nat)(f:Nat)(g:Int)(K:KT)(w:World):Prop:=
 K (.slice a b c) w
variable(a:OA)(b:Nat)(c:Nat)(d:OA)(e:Nat)(f:Nat)(g:Int)(K:KT)(w:World)
theorem ah.cX:(ah.q1 K (.exit 0) [(0,.slice a b c),(2,.slice d e f),(3,.int .i64 g)] w)=ah.cJ a b c d e f g K w:=by kernel_rfl
end
section
variable(a:OA)(b:Nat)(c:Nat)(d:OA)(e:Nat)(f:Nat)(g:Int)(i:OA)(j:Nat)(k:Nat)(m:Int)(Q:aO)(w:World)
def ah.B2:Prop:=
 Split (decide (m<(j:Int))) (let n:=w.drew;(0<=m/\m<(j:Int))/\Is i fun o:Addr=> ∃p:AV,(p.size=32/\Cells n (o.add (m.toNat*32)) p)/\(0<=(IntKind.i64.wrap (m-(1:Int)))/\(IntKind.i64.wrap (m-(1:Int)))<(j:Int))/\Is i fun q:Addr=> ∃r:AV,(r.size=32/\Cells n (q.add ((IntKind.i64.wrap (m-(1:Int))).toNat*32)) r)/\(dv .u8 32 p/\dv .u8 32 r)/\Split (!(eh p r)) ((0<=m/\m<(j:Int))/\Is i fun t:Addr=> ∃u:AV,(u.size=32/\Cells n (t.add (m.toNat*32)) u)/\(0<=g/\g<(b:Int))/\Is a fun v:Addr=>(u.size=32/\(∀x∈u.toList,x.oneCell'=true)/\ ∀y,y<32->Wr n ((v.add (g.toNat*32)).add y))/\let z:=setCells n (v.add (g.toNat*32)) u.toList 0;Q .normal [(0,.slice a b c),(2,.slice d e f),(3,.int .i64 (IntKind.i64.wrap (g+(1:Int)))),(4,.slice i j k),(5,.int .i64 (IntKind.i64.wrap (m+(1:Int))))] z) (Q .normal [(0,.slice a b c),(2,.slice d e f),(3,.int .i64 g),(4,.slice i j k),(5,.int .i64 (IntKind.i64.wrap (m+(1:Int))))] n)) (Q (.exit 2) [(0,.slice a b c),(2,.slice d e f),(3,.int .i64 g),(4,.slice i j k),(5,.int .i64 m)] w)
theorem ah.b2:(aX none [] prog 61 ah.k (lB (bB (sR (sL (sR (cT (sR (bB (sL (sR (lB (bB (sR (sL (sR (sR (body f66))))))))))))))))) ah.u2 Q [(0,.slice a b c),(2,.slice d e f),(3,.int .i64 g),(4,.slice i j k),(5,.int .i64 m)] w)=ah.B2 a b c d e f g i j k m Q w:=by kernel_rfl
variable{a b c d e f i j k}
theorem ah.gD(I:Int×Int->World->Prop)(μ:Int×Int->World->Nat)(s:Int×Int){Q:aO}{w:World}(h0:I s w)
 (round: ∀s w,I s w->ah.B2 a b c d e f (s.1) i j k (s.2) (bJ (ah.e2 a b c d e f i j k) I μ s w Q) w):Holds none [] prog 61 (.loop (lB (bB (sR (sL (sR (cT (sR (bB (sL (sR (lB (bB (sR (sL (sR (sR (body f66)))))))))))))))))) Q (ah.e2 a b c d e f i j k s) w:=
 bf ng mix (ah.e2 a b c d e f i j k) I μ ah.k ah.u2 s (fun s Q w=>ah.B2 a b c d e f (s.1) i j k (s.2) Q w) (fun s Q w=>ah.b2 a b c d e f (s.1) i j k (s.2) Q w) h0 round
end
section
def ah.iu(a:OA)(b:Nat)(c:Nat)(d:OA)(e:Nat)(f:Nat)(g:Int)(i:OA)(j:Nat)(k:Nat)(m:Int)(Q:aO)(w:World):Prop:=
 (0<=g/\g<=(b:Int))/\ ∃(n:Value) (o:World),(Builtin.clear_ #[35] 0 #[.slice (if c=g.toNat then a else a.map (·.add (g.toNat*32))) (b-g.toNat) (c-g.toNat)]).run prog w=.ok n o/\(0<=g/\g<=(c:Int))/\Q .ret [(0,.slice a b c),(2,.slice (if c=0 then a else a.map (·.add (0*32))) (g.toNat-0) (c-0)),(3,.int .i64 g)] o
variable(a:OA)(b:Nat)(c:Nat)(d:OA)(e:Nat)(f:Nat)(g:Int)(i:OA)(j:Nat)(k:Nat)(m:Int)(Q:aO)(w:World)
theorem ah.jC:(ah.q2 Q (.exit 2) [(0,.slice a b c),(2,.slice d e f),(3,.int .i64 g),(4,.slice i j k),(5,.int .i64 m)] w)=ah.iu a b c d e f g i j k m Q w:=by kernel_rfl
end
def du.k:List Nat:= []
section
variable(a:AV)(b:AV)(K:KT)(w:World)
def du.W:Prop:=
 let d:=w.alloc (.cells a 23);let e:=d.alloc (.cells b 23);let f:=e.drew;bn prog 100 #[.slice (some (if 32=0 then(⟨w.heap.size,0,none⟩:Addr)else(⟨w.heap.size,0,none⟩:Addr).add (0*1))) (32-0) (32-0),.slice (some (if 32=0 then(⟨d.heap.size,0,none⟩:Addr)else(⟨d.heap.size,0,none⟩:Addr).add (0*1))) (32-0) (32-0)] f fun g i=> ∃j:Int,g=.int .i64 j/\K (.int .i64 j) i
variable{a b K w}
theorem du.of(h:du.W a b K w):bn prog 69 #[.agg a,.agg b] w K:=
 aK (C:=du.k) (c:=body f69) ng mix func69 (by kernel_rfl) (by kernel_rfl) (by kernel_rfl) h
end
def fX.k:List Nat:= []
section
variable(a:OA)(b:AV)(K:KT)(w:World)
def fX.W:Prop:=
 let d:=w.alloc (.cells b 23);∃e:AV,(e.size=32/\Cells d (⟨w.heap.size,0,none⟩:Addr) e)/\bn prog 101 #[.pointer a,.agg e] d fun f g=> ∃i:OA,f=.pointer i/\K (.bool (!(i).isNone)) g
variable{a b K w}
theorem fX.of(h:fX.W a b K w):bn prog 79 #[.pointer a,.agg b] w K:=
 aK (C:=fX.k) (c:=body f79) ng mix func79 (by kernel_rfl) (by kernel_rfl) (by kernel_rfl) h
end
def gP.k:List Nat:= []
section
variable(a:OA)(b:Nat)(d:Nat)(e:OA)(f:Nat)(g:Nat)(K:KT)(w:World)
def gP.W:Prop:=
 Dg prog 119 #[.slice a b d,.slice e f g] w fun i j=> ∃k:Int,i=.int .i64 k/\K (.int .i64 k) j
variable{a b d e f g K w}
theorem gP.of(h:gP.W a b d e f g K w):bn prog 100 #[.slice a b d,.slice e f g] w K:=
 aK (C:=gP.k) (c:=body f100) ng mix func100 (by kernel_rfl) (by kernel_rfl) (by kernel_rfl) h
end
def fD.k:List Nat:= []
section
variable(a:OA)(b:AV)(K:KT)(w:World)
def fD.W:Prop:=
 let d:=w.alloc (.cells b 23);bn prog 60 #[.pointer a] d fun e f=> ∃g:Bool,e=.bool g/\Split g (let i:=f.drew;Is a fun j:Addr=> ∃k:Option Nat,i.cell? (j.add 1)=some (.map k)/\ ∃m:AV,(m.size=32/\Cells i (⟨w.heap.size,0,none⟩:Addr) m)/\ ∃n:Int,∃o:Bool,(Instr.lookup 89 (.map k) (.agg m) true).run prog i=.ok (.tuple #[.int .i64 n,.bool o]) i/\Split o (Is a fun p:Addr=> ∃q:OA,∃r:Nat,∃t:Nat,i.cell? (p.add 0)=some (.slice q r t)/\(0<=n/\n<(r:Int))/\Is q fun u:Addr=> ∃v:OA,i.cell? (u.add (n.toNat*1))=some (.pointer v)/\K (.pointer v) i) (K (.pointer none) i)) (K (.pointer none) f)
variable{a b K w}
theorem fD.of(h:fD.W a b K w):bn prog 101 #[.pointer a,.agg b] w K:=
 aK (C:=fD.k) (c:=body f101) ng mix func101 (by kernel_rfl) (by kernel_rfl) (by kernel_rfl) h
end
def cf.k:List Nat:= []
def cf.q1(K:KT):aO:=(aN 0 (b9 (sR (sR (body f102)))++(aT f102)) (bS (fun bW w_=>match cutAt cf.k (sR (sR (body f102)))with|true=>Holds none [] prog 30 (sR (sR (body f102))) (bK prog f102 K) bW w_|false=>aX none [] prog 30 cf.k (sR (sR (body f102))) (aT f102) (bK prog f102 K) bW w_) (bK prog f102 K)))
def cf.e1(a:OA)(b:Nat)(c:Nat)(d:OA)(e:Nat)(f:Nat)(g:Int)(s:(OA)×Nat×Nat×Int):Env:= [(0,.slice s.1 s.2.1 s.2.2.1),(4,.slice a b c),(7,.slice d e f),(8,.int .i64 g),(9,.int .i64 s.2.2.2)]
def cf.u1:List Nat:= [0,4,7,8,9]
section
variable(a:OA)(b:Nat)(d:Nat)(e:OA)(f:Nat)(g:Nat)(K:KT)(w:World)
def cf.W:Prop:=
 Holds none [] prog 30 (.loop (lB (bB (sR (sL (sR (body f102))))))) (cf.q1 K) [(0,.slice a b d),(4,.slice none 0 0),(7,.slice e f g),(8,.int .i64 (f:Int)),(9,.int .i64 0)] w
variable{a b d e f g K w}
theorem cf.of(h:cf.W a b d e f g K w):bn prog 102 #[.slice a b d,.slice e f g] w K:=
 aK (C:=cf.k) (c:=body f102) ng mix func102 (by kernel_rfl) (by kernel_rfl) (by kernel_rfl) h
end
section
variable(a:OA)(b:Nat)(c:Nat)(d:OA)(e:Nat)(f:Nat)(g:OA)(i:Nat)(j:Nat)(k:Int)(m:Int)(Q:aO)(w:World)
def cf.B1:Prop:=
 Split (decide (m<k)) ((0<=m/\m<(i:Int))/\Is g fun n:Addr=> ∃o:Int,w.cell? (n.add (m.toNat*1))=some (.int .u64 o)/\Split (m==(b:Int)) (let p:=w.alloc (.cells #[.int .u64 0] 49);∃(q:OA) (r t:Nat) (u:World),(Builtin.append_ #[148,148] 148 #[.slice a b c,.slice (some (⟨w.heap.size,0,none⟩:Addr)) 1 1]).run prog p=.ok (.slice q r t) u/\(0<=m/\m<(r:Int))/\Is q fun v:Addr=> ∃x:Int,u.cell? (v.add (m.toNat*1))=some (.int .u64 x)/\(0<=m/\m<(r:Int))/\Is q fun y:Addr=>Wr u (y.add (m.toNat*1))/\let z:=u.setCell (y.add (m.toNat*1)) (.int .u64 (IntKind.u64.wrap ((BitVec.ofInt 64 x|||BitVec.ofInt 64 o).toNat)));Q .normal [(0,.slice q r t),(4,.slice d e f),(7,.slice g i j),(8,.int .i64 k),(9,.int .i64 (IntKind.i64.wrap (m+(1:Int))))] z) ((0<=m/\m<(b:Int))/\Is a fun a1:Addr=> ∃b1:Int,w.cell? (a1.add (m.toNat*1))=some (.int .u64 b1)/\(0<=m/\m<(b:Int))/\Is a fun c1:Addr=>Wr w (c1.add (m.toNat*1))/\let d1:=w.setCell (c1.add (m.toNat*1)) (.int .u64 (IntKind.u64.wrap ((BitVec.ofInt 64 b1|||BitVec.ofInt 64 o).toNat)));Q .normal [(0,.slice a b c),(4,.slice d e f),(7,.slice g i j),(8,.int .i64 k),(9,.int .i64 (IntKind.i64.wrap (m+(1:Int))))] d1)) (Q (.exit 0) [(0,.slice a b c),(4,.slice d e f),(7,.slice g i j),(8,.int .i64 k),(9,.int .i64 m)] w)
theorem cf.b1:(aX none [] prog 30 cf.k (lB (bB (sR (sL (sR (body f102)))))) cf.u1 Q [(0,.slice a b c),(4,.slice d e f),(7,.slice g i j),(8,.int .i64 k),(9,.int .i64 m)] w)=cf.B1 a b c d e f g i j k m Q w:=by kernel_rfl
variable{d e f g i j k}
theorem cf.b6(I:(OA)×Nat×Nat×Int->World->Prop)(μ:(OA)×Nat×Nat×Int->World->Nat)(s:(OA)×Nat×Nat×Int){Q:aO}{w:World}(h0:I s w)
 (round: ∀s w,I s w->cf.B1 (s.1) (s.2.1) (s.2.2.1) d e f g i j k (s.2.2.2) (bJ (cf.e1 d e f g i j k) I μ s w Q) w):Holds none [] prog 30 (.loop (lB (bB (sR (sL (sR (body f102))))))) Q (cf.e1 d e f g i j k s) w:=
 bf ng mix (cf.e1 d e f g i j k) I μ cf.k cf.u1 s (fun s Q w=>cf.B1 (s.1) (s.2.1) (s.2.2.1) d e f g i j k (s.2.2.2) Q w) (fun s Q w=>cf.b1 (s.1) (s.2.1) (s.2.2.1) d e f g i j k (s.2.2.2) Q w) h0 round
end
section
def cf.cJ(a:OA)(b:Nat)(c:Nat)(d:OA)(e:Nat)(f:Nat)(g:OA)(i:Nat)(j:Nat)(k:Int)(m:Int)(K:KT)(w:World):Prop:=
 K (.slice a b c) w
variable(a:OA)(b:Nat)(c:Nat)(d:OA)(e:Nat)(f:Nat)(g:OA)(i:Nat)(j:Nat)(k:Int)(m:Int)(K:KT)(w:World)
theorem cf.cX:(cf.q1 K (.exit 0) [(0,.slice a b c),(4,.slice d e f),(7,.slice g i j),(8,.int .i64 k),(9,.int .i64 m)] w)=cf.cJ a b c d e f g i j k m K w:=by kernel_rfl
end
def dZ.k:List Nat:= []
section
variable(a:AV)(b:Addr)(K:KT)(w:World)
def dZ.W:Prop:=
 let d:=w.alloc (.cells a 23);∃e:OA,d.cell? b=some (.pointer e)/\ ∃f:AV,(f.size=32/\Cells d (⟨w.heap.size,0,none⟩:Addr) f)/\bn prog 79 #[.pointer e,.agg f] d fun g i=> ∃j:Bool,g=.bool j/\K (.bool (!j)) i
variable{a b K w}
theorem dZ.of(h:dZ.W a b K w):bn prog 107 #[.agg a,.pointer (some b)] w K:=
 aK (C:=dZ.k) (c:=body f107) ng mix func107 (by kernel_rfl) (by kernel_rfl) (by kernel_rfl) h
end
def bI.k:List Nat:= []
def bI.q1(K:KT):aO:=(aN 0 (b9 (sR (sR (body f108)))++(aT f108)) (bS (fun bW w_=>match cutAt bI.k (sR (sR (body f108)))with|true=>Holds none [] prog 24 (sR (sR (body f108))) (bK prog f108 K) bW w_|false=>aX none [] prog 24 bI.k (sR (sR (body f108))) (aT f108) (bK prog f108 K) bW w_) (bK prog f108 K)))
def bI.e1(a:Int)(b:OA)(c:Nat)(d:Nat)(s:(OA)×Nat×Nat):Env:= [(0,.slice s.1 s.2.1 s.2.2),(1,.int .i64 a),(4,.slice b c d)]
def bI.u1:List Nat:= [0,1,4]
section
variable(a:OA)(b:Nat)(d:Nat)(e:Int)(K:KT)(w:World)
def bI.W:Prop:=
 Holds none [] prog 24 (.loop (lB (bB (sL (sR (body f108)))))) (bI.q1 K) [(0,.slice a b d),(1,.int .i64 e),(4,.slice none 0 0)] w
variable{a b d e K w}
theorem bI.of(h:bI.W a b d e K w):bn prog 108 #[.slice a b d,.int .i64 e] w K:=
 aK (C:=bI.k) (c:=body f108) ng mix func108 (by kernel_rfl) (by kernel_rfl) (by kernel_rfl) h
end
section
variable(a:OA)(b:Nat)(c:Nat)(d:Int)(e:OA)(f:Nat)(g:Nat)(Q:aO)(w:World)
def bI.B1:Prop:=
 (64:Int)≠0/\Split (decide ((b:Int)<=(IntKind.i64.wrap (d.tdiv (64:Int))))) (let i:=w.alloc (.cells #[.int .u64 0] 49);∃(j:OA) (k m:Nat) (n:World),(Builtin.append_ #[148,148] 148 #[.slice a b c,.slice (some (⟨w.heap.size,0,none⟩:Addr)) 1 1]).run prog i=.ok (.slice j k m) n/\Q .normal [(0,.slice j k m),(1,.int .i64 d),(4,.slice e f g)] n) (Q (.exit 0) [(0,.slice a b c),(1,.int .i64 d),(4,.slice e f g)] w)
theorem bI.b1:(aX none [] prog 24 bI.k (lB (bB (sL (sR (body f108))))) bI.u1 Q [(0,.slice a b c),(1,.int .i64 d),(4,.slice e f g)] w)=bI.B1 a b c d e f g Q w:=by kernel_rfl
variable{d e f g}
theorem bI.b6(I:(OA)×Nat×Nat->World->Prop)(μ:(OA)×Nat×Nat->World->Nat)(s:(OA)×Nat×Nat){Q:aO}{w:World}(h0:I s w)
 (round: ∀s w,I s w->bI.B1 (s.1) (s.2.1) (s.2.2) d e f g (bJ (bI.e1 d e f g) I μ s w Q) w):Holds none [] prog 24 (.loop (lB (bB (sL (sR (body f108)))))) Q (bI.e1 d e f g s) w:=
 bf ng mix (bI.e1 d e f g) I μ bI.k bI.u1 s (fun s Q w=>bI.B1 (s.1) (s.2.1) (s.2.2) d e f g Q w) (fun s Q w=>bI.b1 (s.1) (s.2.1) (s.2.2) d e f g Q w) h0 round
end
section
def bI.cJ(a:OA)(b:Nat)(c:Nat)(d:Int)(e:OA)(f:Nat)(g:Nat)(K:KT)(w:World):Prop:=
 let i:=w.drew;(64:Int)≠0/\(0<=(IntKind.i64.wrap (d.tdiv (64:Int)))/\(IntKind.i64.wrap (d.tdiv (64:Int)))<(b:Int))/\Is a fun j:Addr=> ∃k:Int,i.cell? (j.add ((IntKind.i64.wrap (d.tdiv (64:Int))).toNat*1))=some (.int .u64 k)/\(64:Int)≠0/\0<=(d.tmod (64:Int))/\(0<=(IntKind.i64.wrap (d.tdiv (64:Int)))/\(IntKind.i64.wrap (d.tdiv (64:Int)))<(b:Int))/\Is a fun m:Addr=>Wr i (m.add ((IntKind.i64.wrap (d.tdiv (64:Int))).toNat*1))/\let n:=i.setCell (m.add ((IntKind.i64.wrap (d.tdiv (64:Int))).toNat*1)) (.int .u64 (IntKind.u64.wrap ((BitVec.ofInt 64 k|||BitVec.ofInt 64 (IntKind.u64.wrap ((1:Int)*2 ^ (min (d.tmod (64:Int)).toNat 64)))).toNat)));K (.slice a b c) n
variable(a:OA)(b:Nat)(c:Nat)(d:Int)(e:OA)(f:Nat)(g:Nat)(K:KT)(w:World)
theorem bI.cX:(bI.q1 K (.exit 0) [(0,.slice a b c),(1,.int .i64 d),(4,.slice e f g)] w)=bI.cJ a b c d e f g K w:=by kernel_rfl
end
def ao.k:List Nat:= []
def ao.q1(K:KT):aO:=(aN 0 (b9 (sR (sR (body f113)))++(aT f113)) (bS (fun bW w_=>match cutAt ao.k (sR (sR (body f113)))with|true=>Holds none [] prog 19 (sR (sR (body f113))) (bK prog f113 K) bW w_|false=>aX none [] prog 19 ao.k (sR (sR (body f113))) (aT f113) (bK prog f113 K) bW w_) (bK prog f113 K)))
def ao.e1(a:OA)(b:Nat)(c:Nat)(d:Addr)(e:Int)(s:Int×Int):Env:= [(0,.slice a b c),(1,.func (.func 107) #[] #[.pointer (some d)]),(4,.int .i64 s.1),(7,.int .i64 e),(8,.int .i64 s.2)]
def ao.u1:List Nat:= [0,1,4,7,8]
section
variable(a:OA)(b:Nat)(d:Nat)(e:Addr)(K:KT)(w:World)
def ao.W:Prop:=
 Holds none [] prog 19 (.loop (lB (bB (sR (sL (sR (body f113))))))) (ao.q1 K) [(0,.slice a b d),(1,.func (.func 107) #[] #[.pointer (some e)]),(4,.int .i64 0),(7,.int .i64 (b:Int)),(8,.int .i64 0)] w
variable{a b d e K w}
theorem ao.of(h:ao.W a b d e K w):bn prog 113 #[.slice a b d,.func (.func 107) #[] #[.pointer (some e)]] w K:=
 aK (C:=ao.k) (c:=body f113) ng mix func113 (by kernel_rfl) (by kernel_rfl) (by kernel_rfl) h
end
section
variable(a:OA)(b:Nat)(c:Nat)(d:Addr)(e:Int)(f:Int)(g:Int)(Q:aO)(w:World)
def ao.B1:Prop:=
 Split (decide (g<f)) ((0<=g/\g<(b:Int))/\Is a fun i:Addr=> ∃j:AV,(j.size=32/\Cells w (i.add (g.toNat*32)) j)/\bn prog 107 #[.agg j,.pointer (some d)] w fun k m=> ∃n:Bool,k=.bool n/\Split n (Q .ret [(0,.slice a b c),(1,.func (.func 107) #[] #[.pointer (some d)]),(4,.int .i64 g),(7,.int .i64 f),(8,.int .i64 g)] m) (Q .normal [(0,.slice a b c),(1,.func (.func 107) #[] #[.pointer (some d)]),(4,.int .i64 e),(7,.int .i64 f),(8,.int .i64 (IntKind.i64.wrap (g+(1:Int))))] m)) (Q (.exit 0) [(0,.slice a b c),(1,.func (.func 107) #[] #[.pointer (some d)]),(4,.int .i64 e),(7,.int .i64 f),(8,.int .i64 g)] w)
theorem ao.b1:(aX none [] prog 19 ao.k (lB (bB (sR (sL (sR (body f113)))))) ao.u1 Q [(0,.slice a b c),(1,.func (.func 107) #[] #[.pointer (some d)]),(4,.int .i64 e),(7,.int .i64 f),(8,.int .i64 g)] w)=ao.B1 a b c d e f g Q w:=by kernel_rfl
variable{a b c d f}
theorem ao.b6(I:Int×Int->World->Prop)(μ:Int×Int->World->Nat)(s:Int×Int){Q:aO}{w:World}(h0:I s w)
 (round: ∀s w,I s w->ao.B1 a b c d (s.1) f (s.2) (bJ (ao.e1 a b c d f) I μ s w Q) w):Holds none [] prog 19 (.loop (lB (bB (sR (sL (sR (body f113))))))) Q (ao.e1 a b c d f s) w:=
 bf ng mix (ao.e1 a b c d f) I μ ao.k ao.u1 s (fun s Q w=>ao.B1 a b c d (s.1) f (s.2) Q w) (fun s Q w=>ao.b1 a b c d (s.1) f (s.2) Q w) h0 round
end
section
def ao.cJ(a:OA)(b:Nat)(c:Nat)(d:Addr)(e:Int)(f:Int)(g:Int)(K:KT)(w:World):Prop:=
 K (.int .i64 (-1)) w
variable(a:OA)(b:Nat)(c:Nat)(d:Addr)(e:Int)(f:Int)(g:Int)(K:KT)(w:World)
theorem ao.cX:(ao.q1 K (.exit 0) [(0,.slice a b c),(1,.func (.func 107) #[] #[.pointer (some d)]),(4,.int .i64 e),(7,.int .i64 f),(8,.int .i64 g)] w)=ao.cJ a b c d e f g K w:=by kernel_rfl
end
def bZ.k:List Nat:= []
section
variable(a:OA)(b:Nat)(d:Nat)(e:Addr)(K:KT)(w:World)
def bZ.W:Prop:=
 bn prog 113 #[.slice a b d,.func (.func 107) #[] #[.pointer (some e)]] w fun f g=> ∃i:Int,f=.int .i64 i/\K (.bool (decide (i>=(0:Int)))) g
variable{a b d e K w}
theorem bZ.of(h:bZ.W a b d e K w):bn prog 85 #[.slice a b d,.func (.func 107) #[] #[.pointer (some e)]] w K:=
 aK (C:=bZ.k) (c:=body f85) ng mix func85 (by kernel_rfl) (by kernel_rfl) (by kernel_rfl) h
end
def aI.k:List Nat:= []
def aI.q1(K:KT):aO:=(aN 0 (aT f120) (bK prog f120 K))
def aI.e1(a:Nat)(b:OA)(c:Nat)(d:Nat)(e:Int)(s:Int):Env:= [(0,.func (.yield a) #[] #[]),(5,.slice b c d),(6,.int .i64 e),(7,.int .i64 s)]
def aI.u1:List Nat:= [0,5,6,7]
def aI.q2(Q:aO):aO:=(aN 2 (b9 (sR (sR (sR (lB (bB (sR (body f120)))))))++aI.u1) (aN 1 (b9 (sR (sR (sR (lB (bB (sR (body f120)))))))++aI.u1) (bS (fun bW w_=>match cutAt aI.k (sR (sR (sR (lB (bB (sR (body f120)))))))with|true=>Holds none [] prog 27 (sR (sR (sR (lB (bB (sR (body f120))))))) Q bW w_|false=>aX none [] prog 27 aI.k (sR (sR (sR (lB (bB (sR (body f120))))))) aI.u1 Q bW w_) Q)))
def aI.e2(a:Nat)(b:Int)(c:OA)(d:Nat)(e:Nat)(f:Int)(g:Int)(s:Int):Env:= [(0,.func (.yield a) #[] #[]),(3,.int .i64 b),(4,.int .u64 s),(5,.slice c d e),(6,.int .i64 f),(7,.int .i64 g)]
def aI.u2:List Nat:= [0,3,4,5,6,7]
section
variable(a:Nat)(b:Addr)(K:KT)(w:World)
def aI.W:Prop:=
 ∃d:OA,∃e:Nat,∃f:Nat,w.cell? b=some (.slice d e f)/\Holds none [] prog 27 (.loop (lB (bB (sR (body f120))))) (aI.q1 K) [(0,.func (.yield a) #[] #[]),(5,.slice d e f),(6,.int .i64 (e:Int)),(7,.int .i64 0)] w
variable{a b K w}
theorem aI.of(h:aI.W a b K w):bn prog 120 #[.func (.yield a) #[] #[],.pointer (some b)] w K:=
 aK (C:=aI.k) (c:=body f120) ng mix func120 (by kernel_rfl) (by kernel_rfl) (by kernel_rfl) h
end
section
variable(a:Nat)(b:OA)(c:Nat)(d:Nat)(e:Int)(f:Int)(Q:aO)(w:World)
def aI.B1:Prop:=
 Split (decide (f<e)) ((0<=f/\f<(c:Int))/\Is b fun g:Addr=> ∃i:Int,w.cell? (g.add (f.toNat*1))=some (.int .u64 i)/\Holds none [] prog 27 (.loop (lB (bB (sR (bB (sL (sR (sR (lB (bB (sR (body f120)))))))))))) (aI.q2 Q) [(0,.func (.yield a) #[] #[]),(3,.int .i64 f),(4,.int .u64 i),(5,.slice b c d),(6,.int .i64 e),(7,.int .i64 f)] w) (Q (.exit 0) [(0,.func (.yield a) #[] #[]),(5,.slice b c d),(6,.int .i64 e),(7,.int .i64 f)] w)
theorem aI.b1:(aX none [] prog 27 aI.k (lB (bB (sR (body f120)))) aI.u1 Q [(0,.func (.yield a) #[] #[]),(5,.slice b c d),(6,.int .i64 e),(7,.int .i64 f)] w)=aI.B1 a b c d e f Q w:=by kernel_rfl
variable{a b c d e}
theorem aI.b6(I:Int->World->Prop)(μ:Int->World->Nat)(s:Int){Q:aO}{w:World}(h0:I s w)
 (round: ∀s w,I s w->aI.B1 a b c d e s (bJ (aI.e1 a b c d e) I μ s w Q) w):Holds none [] prog 27 (.loop (lB (bB (sR (body f120))))) Q (aI.e1 a b c d e s) w:=
 bf ng mix (aI.e1 a b c d e) I μ aI.k aI.u1 s (fun s Q w=>aI.B1 a b c d e s Q w) (fun s Q w=>aI.b1 a b c d e s Q w) h0 round
end
section
def aI.cJ(a:Nat)(b:OA)(c:Nat)(d:Nat)(e:Int)(f:Int)(K:KT)(w:World):Prop:=
 K (.tuple #[]) w
variable(a:Nat)(b:OA)(c:Nat)(d:Nat)(e:Int)(f:Int)(K:KT)(w:World)
theorem aI.cX:(aI.q1 K (.exit 0) [(0,.func (.yield a) #[] #[]),(5,.slice b c d),(6,.int .i64 e),(7,.int .i64 f)] w)=aI.cJ a b c d e f K w:=by kernel_rfl
end
section
variable(a:Nat)(b:Int)(c:Int)(d:OA)(e:Nat)(f:Nat)(g:Int)(i:Int)(Q:aO)(w:World)
def aI.B2:Prop:=
 Split (c != (0:Int)) (bn prog 121 #[.int .u64 c] w fun j k=> ∃m:Int,j=.int .i64 m/\jO prog a #[.int .i64 (IntKind.i64.wrap ((IntKind.i64.wrap ((64:Int)*b))+m))] k fun n o=>Split (!n) (Q .ret [(0,.func (.yield a) #[] #[]),(3,.int .i64 b),(4,.int .u64 c),(5,.slice d e f),(6,.int .i64 g),(7,.int .i64 i)] o) (Q .normal [(0,.func (.yield a) #[] #[]),(3,.int .i64 b),(4,.int .u64 (IntKind.u64.wrap ((BitVec.ofInt 64 c&&& BitVec.ofInt 64 (IntKind.u64.wrap (c-(1:Int)))).toNat))),(5,.slice d e f),(6,.int .i64 g),(7,.int .i64 i)] o)) (Q (.exit 2) [(0,.func (.yield a) #[] #[]),(3,.int .i64 b),(4,.int .u64 c),(5,.slice d e f),(6,.int .i64 g),(7,.int .i64 i)] w)
theorem aI.b2:(aX none [] prog 27 aI.k (lB (bB (sR (bB (sL (sR (sR (lB (bB (sR (body f120))))))))))) aI.u2 Q [(0,.func (.yield a) #[] #[]),(3,.int .i64 b),(4,.int .u64 c),(5,.slice d e f),(6,.int .i64 g),(7,.int .i64 i)] w)=aI.B2 a b c d e f g i Q w:=by kernel_rfl
variable{a b d e f g i}
theorem aI.gD(I:Int->World->Prop)(μ:Int->World->Nat)(s:Int){Q:aO}{w:World}(h0:I s w)
 (round: ∀s w,I s w->aI.B2 a b s d e f g i (bJ (aI.e2 a b d e f g i) I μ s w Q) w):Holds none [] prog 27 (.loop (lB (bB (sR (bB (sL (sR (sR (lB (bB (sR (body f120)))))))))))) Q (aI.e2 a b d e f g i s) w:=
 bf ng mix (aI.e2 a b d e f g i) I μ aI.k aI.u2 s (fun s Q w=>aI.B2 a b s d e f g i Q w) (fun s Q w=>aI.b2 a b s d e f g i Q w) h0 round
end
section
def aI.iu(a:Nat)(b:Int)(c:Int)(d:OA)(e:Nat)(f:Nat)(g:Int)(i:Int)(Q:aO)(w:World):Prop:=
 Q .normal [(0,.func (.yield a) #[] #[]),(5,.slice d e f),(6,.int .i64 g),(7,.int .i64 (IntKind.i64.wrap (i+(1:Int))))] w
variable(a:Nat)(b:Int)(c:Int)(d:OA)(e:Nat)(f:Nat)(g:Int)(i:Int)(Q:aO)(w:World)
theorem aI.jC:(aI.q2 Q (.exit 2) [(0,.func (.yield a) #[] #[]),(3,.int .i64 b),(4,.int .u64 c),(5,.slice d e f),(6,.int .i64 g),(7,.int .i64 i)] w)=aI.iu a b c d e f g i Q w:=by kernel_rfl
end
def aF.k:List Nat:= []
def aF.q1(K:KT):aO:=(aN 0 (aT f99) (bK prog f99 K))
def aF.e1(a:Nat)(b:OA)(c:Nat)(d:Nat)(e:Int)(s:Int):Env:= [(0,.func (.yield a) #[] #[]),(5,.slice b c d),(6,.int .i64 e),(7,.int .i64 s)]
def aF.u1:List Nat:= [0,5,6,7]
section
variable(a:Nat)(b:Addr)(K:KT)(w:World)
def aF.W:Prop:=
 ∃d:OA,∃e:Nat,∃f:Nat,w.cell? b=some (.slice d e f)/\Holds none [] prog 16 (.loop (lB (bB (sR (body f99))))) (aF.q1 K) [(0,.func (.yield a) #[] #[]),(5,.slice d e f),(6,.int .i64 (e:Int)),(7,.int .i64 0)] w
variable{a b K w}
theorem aF.of(h:aF.W a b K w):bn prog 99 #[.func (.yield a) #[] #[],.pointer (some b)] w K:=
 aK (C:=aF.k) (c:=body f99) ng mix func99 (by kernel_rfl) (by kernel_rfl) (by kernel_rfl) h
end
section
variable(a:Nat)(b:OA)(c:Nat)(d:Nat)(e:Int)(f:Int)(Q:aO)(w:World)
def aF.B1:Prop:=
 Split (decide (f<e)) ((0<=f/\f<(c:Int))/\Is b fun g:Addr=> ∃i:AV,(i.size=32/\Cells w (g.add (f.toNat*32)) i)/\let j:=w.alloc (.cells zH 23);(i.size=32/\(∀k∈i.toList,k.oneCell'=true)/\ ∀m,m<32->Wr j ((⟨w.heap.size,0,none⟩:Addr).add m))/\let n:=setCells j (⟨w.heap.size,0,none⟩:Addr) i.toList 0;∃o:AV,(o.size=32/\Cells n (⟨w.heap.size,0,none⟩:Addr) o)/\jO prog a #[.agg o] n fun p q=>Split (!p) (Q .ret [(0,.func (.yield a) #[] #[]),(5,.slice b c d),(6,.int .i64 e),(7,.int .i64 f)] q) (Q .normal [(0,.func (.yield a) #[] #[]),(5,.slice b c d),(6,.int .i64 e),(7,.int .i64 (IntKind.i64.wrap (f+(1:Int))))] q)) (Q (.exit 0) [(0,.func (.yield a) #[] #[]),(5,.slice b c d),(6,.int .i64 e),(7,.int .i64 f)] w)
theorem aF.b1:(aX none [] prog 16 aF.k (lB (bB (sR (body f99)))) aF.u1 Q [(0,.func (.yield a) #[] #[]),(5,.slice b c d),(6,.int .i64 e),(7,.int .i64 f)] w)=aF.B1 a b c d e f Q w:=by kernel_rfl
variable{a b c d e}
theorem aF.b6(I:Int->World->Prop)(μ:Int->World->Nat)(s:Int){Q:aO}{w:World}(h0:I s w)
 (round: ∀s w,I s w->aF.B1 a b c d e s (bJ (aF.e1 a b c d e) I μ s w Q) w):Holds none [] prog 16 (.loop (lB (bB (sR (body f99))))) Q (aF.e1 a b c d e s) w:=
 bf ng mix (aF.e1 a b c d e) I μ aF.k aF.u1 s (fun s Q w=>aF.B1 a b c d e s Q w) (fun s Q w=>aF.b1 a b c d e s Q w) h0 round
end
section
def aF.cJ(a:Nat)(b:OA)(c:Nat)(d:Nat)(e:Int)(f:Int)(K:KT)(w:World):Prop:=
 K (.tuple #[]) w
variable(a:Nat)(b:OA)(c:Nat)(d:Nat)(e:Int)(f:Int)(K:KT)(w:World)
theorem aF.cX:(aF.q1 K (.exit 0) [(0,.func (.yield a) #[] #[]),(5,.slice b c d),(6,.int .i64 e),(7,.int .i64 f)] w)=aF.cJ a b c d e f K w:=by kernel_rfl
end
end Go.Proofs.YtnboahlopghcjaaGreatDoor
