import Derived.Test.YtnboahlopghcjaaGreatDoorProg
import Derived.Test.YtnboahlopghcjaaGreatDoorMA
set_option linter.unusedVariables false
namespace Go.Proofs.YtnboahlopghcjaaGreatDoor
open Go.Proofs.Tryz
open Go Go.bS
abbrev OA:=Option Addr
abbrev AV:=Array Value
abbrev KT:=Value->World->Prop
abbrev zH:Array Value:= #[.int .u8 0,.int .u8 0,.int .u8 0,.int .u8 0,.int .u8 0,.int .u8 0,.int .u8 0,.int .u8 0,.int .u8 0,.int .u8 0,.int .u8 0,.int .u8 0,.int .u8 0,.int .u8 0,.int .u8 0,.int .u8 0,.int .u8 0,.int .u8 0,.int .u8 0,.int .u8 0,.int .u8 0,.int .u8 0,.int .u8 0,.int .u8 0,.int .u8 0,.int .u8 0,.int .u8 0,.int .u8 0,.int .u8 0,.int .u8 0,.int .u8 0,.int .u8 0]
abbrev zC:Array Value:= #[.int .u8 0,.int .u8 0,.int .u8 0,.int .u8 0,.int .u8 0,.int .u8 0,.int .u8 0,.int .u8 0,.int .u8 0,.int .u8 0,.int .u8 0,.int .u8 0,.int .u8 0,.int .u8 0,.int .u8 0,.int .u8 0,.int .u8 0,.int .u8 0,.int .u8 0,.int .u8 0,.int .u8 0,.int .u8 0,.int .u8 0,.int .u8 0,.int .u8 0,.int .u8 0,.int .u8 0,.int .u8 0,.int .u8 0,.int .u8 0,.int .u8 0,.int .u8 0,.int .u64 0,.slice none 0 0,.slice none 0 0]
abbrev zS:Array Value:= #[.int .u8 0,.int .u8 0,.int .u8 0,.int .u8 0,.int .u8 0,.int .u8 0,.int .u8 0,.int .u8 0,.int .u8 0,.int .u8 0,.int .u8 0,.int .u8 0,.int .u8 0,.int .u8 0,.int .u8 0,.int .u8 0,.int .u8 0,.int .u8 0,.int .u8 0,.int .u8 0,.int .u8 0,.int .u8 0,.int .u8 0,.int .u8 0,.int .u8 0,.int .u8 0,.int .u8 0,.int .u8 0,.int .u8 0,.int .u8 0,.int .u8 0,.int .u8 0,.int .u64 0,.slice none 0 0,.slice none 0 0,.map none]
abbrev iX:Nat:=3
abbrev gM:Nat:=4
abbrev gX:Nat:=5
abbrev ai:Nat:=23
abbrev iG:Nat:=25
abbrev gu:Nat:=28
abbrev ay:Nat:=35
abbrev ck:Nat:=36
abbrev gF:Nat:=38
abbrev iQ:Nat:=40
abbrev sM:Nat:=42
abbrev e9:Nat:=43
abbrev fW:Nat:=45
abbrev bI:Nat:=48
abbrev gZ:Nat:=49
abbrev fP:Nat:=50
abbrev bj:Nat:=52
abbrev fD:Nat:=73
abbrev lD:Nat:=76
abbrev jR:Nat:=77
abbrev eA:Nat:=80
abbrev gg:Nat:=82
abbrev eF:Nat:=88
abbrev cg:Nat:=89
abbrev dK:Nat:=91
abbrev eK:Nat:=98
abbrev fU:Nat:=107
abbrev dW:Nat:=109
abbrev ko:Nat:=113
abbrev gv:Nat:=115
abbrev rJ:Nat:=128
abbrev kh:Nat:=129
abbrev iF:Nat:=140
abbrev gL:Nat:=141
abbrev sk:Nat:=143
abbrev eI:Nat:=146
abbrev zk:Nat:=147
abbrev jN:Nat:=148
abbrev dF:Nat:=150
abbrev vy:Nat:=187
abbrev aP.id:Nat:=4
abbrev cj.id:Nat:=9
abbrev fp.id:Nat:=10
abbrev aF.id:Nat:=11
abbrev gK.id:Nat:=12
abbrev cy.id:Nat:=13
abbrev dt.id:Nat:=14
abbrev bY.id:Nat:=16
abbrev dd.id:Nat:=17
abbrev c9.id:Nat:=18
abbrev ba.id:Nat:=19
abbrev aU.id:Nat:=20
abbrev ae.id:Nat:=21
abbrev dB.id:Nat:=22
abbrev dE.id:Nat:=23
abbrev dR.id:Nat:=25
abbrev aC.id:Nat:=26
abbrev bR.id:Nat:=27
abbrev aJ.id:Nat:=28
abbrev dS.id:Nat:=32
abbrev jk.id:Nat:=37
abbrev dr.id:Nat:=38
abbrev aq.id:Nat:=39
abbrev dQ.id:Nat:=40
abbrev iD.id:Nat:=41
abbrev ah.id:Nat:=42
abbrev az.id:Nat:=43
abbrev gk.id:Nat:=44
abbrev dT.id:Nat:=45
abbrev kY.id:Nat:=46
abbrev bp.id:Nat:=47
abbrev bu.id:Nat:=48
abbrev dh.id:Nat:=49
abbrev dC.id:Nat:=50
abbrev aX.id:Nat:=51
abbrev bC.id:Nat:=52
abbrev fk.id:Nat:=53
abbrev cr.id:Nat:=54
abbrev eR.id:Nat:=55
abbrev eN.id:Nat:=56
abbrev fC.id:Nat:=60
abbrev jl.id:Nat:=61
abbrev bn.id:Nat:=62
abbrev eQ.id:Nat:=63
abbrev lN.id:Nat:=64
abbrev eh.id:Nat:=65
abbrev ag.id:Nat:=66
abbrev dm.id:Nat:=69
abbrev aO.id:Nat:=70
abbrev dD.id:Nat:=71
abbrev ij.id:Nat:=72
abbrev af.id:Nat:=73
abbrev cS.id:Nat:=74
abbrev bN.id:Nat:=75
abbrev aY.id:Nat:=76
abbrev cf.id:Nat:=77
abbrev eB.id:Nat:=78
abbrev fM.id:Nat:=79
abbrev bt.id:Nat:=80
abbrev cU.id:Nat:=81
abbrev fK.id:Nat:=82
abbrev cM.id:Nat:=83
abbrev dz.id:Nat:=84
abbrev du.id:Nat:=85
abbrev bD.id:Nat:=87
abbrev dp.id:Nat:=88
abbrev aV.id:Nat:=89
abbrev eW.id:Nat:=90
abbrev di.id:Nat:=92
abbrev gP.id:Nat:=93
abbrev cI.id:Nat:=98
abbrev aA.id:Nat:=99
abbrev gB.id:Nat:=100
abbrev ft.id:Nat:=101
abbrev b0.id:Nat:=102
abbrev cG.id:Nat:=104
abbrev fY.id:Nat:=105
abbrev bits_Len.id:Nat:=106
abbrev dU.id:Nat:=107
abbrev bG.id:Nat:=108
abbrev fJ.id:Nat:=109
abbrev fi.id:Nat:=110
abbrev fj.id:Nat:=111
abbrev au.id:Nat:=112
abbrev aI.id:Nat:=118
abbrev aG.id:Nat:=120
abbrev bits_TrailingZeros64.id:Nat:=121
abbrev iq.id:Nat:=122
abbrev jg.id:Nat:=123
abbrev ir.id:Nat:=124
abbrev iH.id:Nat:=125
abbrev iy.id:Nat:=126
abbrev gw.id:Nat:=127
abbrev iR.id:Nat:=129
abbrev bits_Len64.id:Nat:=131
abbrev br.id:Nat:=132
abbrev bits_Mul64.id:Nat:=133
abbrev aZ.id:Nat:=134
abbrev jf.id:Nat:=135
abbrev nR.id:Nat:=137
abbrev jx.id:Nat:=139
abbrev bits_LeadingZeros64.id:Nat:=140
abbrev jw.id:Nat:=141
noncomputable abbrev ae.fn:Func:=Tryz.f21
noncomputable abbrev ah.fn:Func:=f42
noncomputable abbrev au.fn:Func:=f112
noncomputable abbrev aZ.fn:Func:=f134
theorem dm.at_:prog.funcs[(69:Nat)]? =some f69:=func69
theorem bN.at_:prog.funcs[(75:Nat)]? =some f75:=func75
theorem cf.at_:prog.funcs[(77:Nat)]? =some f77:=func77
theorem aV.at_:prog.funcs[(89:Nat)]? =some f89:=func89
theorem aA.at_:prog.funcs[(99:Nat)]? =some f99:=func99
theorem sI.at_:prog.funcs[(119:Nat)]? =some f119:=func119
theorem aG.at_:prog.funcs[(120:Nat)]? =some f120:=func120
theorem ng:NG prog:=by
 have h:(prog.funcs.toList.all fun f=> !(f.name== "runtime.NumGoroutine"))=true:=by kernel_rfl
 intro g fn hf;rw [List.all_eq_true]at h;have:=h fn (by simpa using Array.mem_of_getElem? hf);simpa using this
theorem mix:prog.follows .mixedOrders=true:=by kernel_rfl
def cy.k:List Nat:= []
def cy.q1(K:KT):aN:=(aL 0 (b7 (sR (sR (body f13)))++(aR f13)) (bT (fun bW w_=>match cutAt cy.k (sR (sR (body f13)))with|true=>Holds none [] prog 18 (sR (sR (body f13))) (bH prog f13 K) bW w_|false=>aW none [] prog 18 cy.k (sR (sR (body f13))) (aR f13) (bH prog f13 K) bW w_) (bH prog f13 K)))
def cy.e1(a:OA)(b:Nat)(c:Nat)(d:Addr)(s:Bool×Int):Env:= [(0,.slice a b c),(3,.pointer (some d)),(4,.bool s.1),(5,.int .i64 s.2)]
def cy.u1:List Nat:= [0,3,4,5]
section
variable(a:OA)(b:Nat)(d:Nat)(e:AV)(K:KT)(w:World)
def cy.W:Prop:=
 let f:=w.alloc (.cells e 23);Holds none [] prog 18 (.loop (lB (bB (sR (sL (sR (body f13))))))) (cy.q1 K) [(0,.slice a b d),(3,.pointer (some (⟨w.heap.size,0,none⟩:Addr))),(4,.bool false),(5,.int .i64 0)] f
variable{a b d e K w}
theorem cy.of(h:cy.W a b d e K w):bk prog 13 #[.slice a b d,.agg e] w K:=
 aK (C:=cy.k) (c:=body f13) ng mix func13 (by kernel_rfl) (by kernel_rfl) (by kernel_rfl) h
end
section
variable(a:OA)(b:Nat)(c:Nat)(d:Addr)(e:Bool)(f:Int)(Q:aN)(w:World)
def cy.B1:Prop:=
 Split (decide (f<(b:Int))) (let g:=w.drew;(0<=f/\f<(b:Int))/\Is a fun i:Addr=> ∃j:AV,(j.size=32/\Cells g (i.add (f.toNat*32)) j)/\ ∃k:AV,(k.size=32/\Cells g d k)/\(cX .u8 32 j/\cX .u8 32 k)/\Split (dA j k) (Q .ret [(0,.slice a b c),(3,.pointer (some d)),(4,.bool true),(5,.int .i64 f)] g) (Q .normal [(0,.slice a b c),(3,.pointer (some d)),(4,.bool e),(5,.int .i64 (IntKind.i64.wrap (f+(1:Int))))] g)) (Q (.exit 0) [(0,.slice a b c),(3,.pointer (some d)),(4,.bool e),(5,.int .i64 f)] w)
theorem cy.b1:(aW none [] prog 18 cy.k (lB (bB (sR (sL (sR (body f13)))))) cy.u1 Q [(0,.slice a b c),(3,.pointer (some d)),(4,.bool e),(5,.int .i64 f)] w)=cy.B1 a b c d e f Q w:=by kernel_rfl
variable{a b c d}
theorem cy.b9(I:Bool×Int->World->Prop)(μ:Bool×Int->World->Nat)(s:Bool×Int){Q:aN}{w:World}(h0:I s w)
 (round: ∀s w,I s w->cy.B1 a b c d (s.1) (s.2) (bK (cy.e1 a b c d) I μ s w Q) w):Holds none [] prog 18 (.loop (lB (bB (sR (sL (sR (body f13))))))) Q (cy.e1 a b c d s) w:=
 bf ng mix (cy.e1 a b c d) I μ cy.k cy.u1 s (fun s Q w=>cy.B1 a b c d (s.1) (s.2) Q w) (fun s Q w=>cy.b1 a b c d (s.1) (s.2) Q w) h0 round
end
section
def cy.cK(a:OA)(b:Nat)(c:Nat)(d:Addr)(e:Bool)(f:Int)(K:KT)(w:World):Prop:=
 K (.bool false) w
variable(a:OA)(b:Nat)(c:Nat)(d:Addr)(e:Bool)(f:Int)(K:KT)(w:World)
theorem cy.cZ:(cy.q1 K (.exit 0) [(0,.slice a b c),(3,.pointer (some d)),(4,.bool e),(5,.int .i64 f)] w)=cy.cK a b c d e f K w:=by kernel_rfl
end
def bR.k:List Nat:= []
def bR.q1(K:KT):aN:=(aL 0 (b7 (sR (sR (sR (body Tryz.f27))))++(aR Tryz.f27)) (bT (fun bW w_=>match cutAt bR.k (sR (sR (sR (body Tryz.f27))))with|true=>Holds none [] prog 26 (sR (sR (sR (body Tryz.f27)))) (bH prog Tryz.f27 K) bW w_|false=>aW none [] prog 26 bR.k (sR (sR (sR (body Tryz.f27)))) (aR Tryz.f27) (bH prog Tryz.f27 K) bW w_) (bH prog Tryz.f27 K)))
def bR.e1(a:OA)(b:Nat)(c:Nat)(d:OA)(e:Nat)(f:Nat)(s:Bool×Int):Env:= [(0,.slice a b c),(1,.slice d e f),(4,.bool s.1),(5,.int .i64 s.2)]
def bR.u1:List Nat:= [0,1,4,5]
section
variable(a:OA)(b:Nat)(d:Nat)(e:OA)(f:Nat)(g:Nat)(K:KT)(w:World)
def bR.W:Prop:=
 Split ((b:Int) != (f:Int)) (K (.bool false) w) (Holds none [] prog 26 (.loop (lB (bB (sR (sL (sR (sR (body Tryz.f27)))))))) (bR.q1 K) [(0,.slice a b d),(1,.slice e f g),(4,.bool false),(5,.int .i64 0)] w)
variable{a b d e f g K w}
theorem bR.of(h:bR.W a b d e f g K w):bk prog 27 #[.slice a b d,.slice e f g] w K:=
 aK (C:=bR.k) (c:=body Tryz.f27) ng mix func27 (by kernel_rfl) (by kernel_rfl) (by kernel_rfl) h
end
section
variable(a:OA)(b:Nat)(c:Nat)(d:OA)(e:Nat)(f:Nat)(g:Bool)(i:Int)(Q:aN)(w:World)
def bR.B1:Prop:=
 Split (decide (i<(b:Int))) (let j:=w.drew;(0<=i/\i<(b:Int))/\Is a fun k:Addr=> ∃m:AV,(m.size=32/\Cells j (k.add (i.toNat*32)) m)/\(0<=i/\i<(e:Int))/\Is d fun n:Addr=> ∃o:AV,(o.size=32/\Cells j (n.add (i.toNat*32)) o)/\(cX .u8 32 m/\cX .u8 32 o)/\Split (!(dA m o)) (Q .ret [(0,.slice a b c),(1,.slice d e f),(4,.bool false),(5,.int .i64 i)] j) (Q .normal [(0,.slice a b c),(1,.slice d e f),(4,.bool g),(5,.int .i64 (IntKind.i64.wrap (i+(1:Int))))] j)) (Q (.exit 0) [(0,.slice a b c),(1,.slice d e f),(4,.bool g),(5,.int .i64 i)] w)
theorem bR.b1:(aW none [] prog 26 bR.k (lB (bB (sR (sL (sR (sR (body Tryz.f27))))))) bR.u1 Q [(0,.slice a b c),(1,.slice d e f),(4,.bool g),(5,.int .i64 i)] w)=bR.B1 a b c d e f g i Q w:=by kernel_rfl
variable{a b c d e f}
theorem bR.b9(I:Bool×Int->World->Prop)(μ:Bool×Int->World->Nat)(s:Bool×Int){Q:aN}{w:World}(h0:I s w)
 (round: ∀s w,I s w->bR.B1 a b c d e f (s.1) (s.2) (bK (bR.e1 a b c d e f) I μ s w Q) w):Holds none [] prog 26 (.loop (lB (bB (sR (sL (sR (sR (body Tryz.f27)))))))) Q (bR.e1 a b c d e f s) w:=
 bf ng mix (bR.e1 a b c d e f) I μ bR.k bR.u1 s (fun s Q w=>bR.B1 a b c d e f (s.1) (s.2) Q w) (fun s Q w=>bR.b1 a b c d e f (s.1) (s.2) Q w) h0 round
end
section
def bR.cK(a:OA)(b:Nat)(c:Nat)(d:OA)(e:Nat)(f:Nat)(g:Bool)(i:Int)(K:KT)(w:World):Prop:=
 K (.bool true) w
variable(a:OA)(b:Nat)(c:Nat)(d:OA)(e:Nat)(f:Nat)(g:Bool)(i:Int)(K:KT)(w:World)
theorem bR.cZ:(bR.q1 K (.exit 0) [(0,.slice a b c),(1,.slice d e f),(4,.bool g),(5,.int .i64 i)] w)=bR.cK a b c d e f g i K w:=by kernel_rfl
end
def aJ.k:List Nat:= []
def aJ.q1(K:KT):aN:=(aL 0 (b7 (sR (sR (sR (body Tryz.f28))))++(aR Tryz.f28)) (bT (fun bW w_=>match cutAt aJ.k (sR (sR (sR (body Tryz.f28))))with|true=>Holds none [] prog 56 (sR (sR (sR (body Tryz.f28)))) (bH prog Tryz.f28 K) bW w_|false=>aW none [] prog 56 aJ.k (sR (sR (sR (body Tryz.f28)))) (aR Tryz.f28) (bH prog Tryz.f28 K) bW w_) (bH prog Tryz.f28 K)))
def aJ.e1(a:OA)(b:Nat)(c:Nat)(d:OA)(e:Nat)(f:Nat)(s:(OA)×Nat×Nat×Int):Env:= [(0,.slice a b c),(2,.slice d e f),(3,.slice s.1 s.2.1 s.2.2.1),(4,.int .i64 s.2.2.2)]
def aJ.u1:List Nat:= [0,2,3,4]
def aJ.q2(Q:aN):aN:=(aL 2 (b7 (sR (sR (sR (bB (sL (sR (lB (bB (sR (sL (sR (sR (body Tryz.f28)))))))))))))++(b7 (sR (sR (lB (bB (sR (sL (sR (sR (body Tryz.f28)))))))))++aJ.u1)) (bT (fun bW w_=>match cutAt aJ.k (sR (sR (sR (bB (sL (sR (lB (bB (sR (sL (sR (sR (body Tryz.f28)))))))))))))with|true=>Holds none [] prog 56 (sR (sR (sR (bB (sL (sR (lB (bB (sR (sL (sR (sR (body Tryz.f28))))))))))))) (aL 1 (b7 (sR (sR (lB (bB (sR (sL (sR (sR (body Tryz.f28)))))))))++aJ.u1) (bT (fun bW w_=>match cutAt aJ.k (sR (sR (lB (bB (sR (sL (sR (sR (body Tryz.f28)))))))))with|true=>Holds none [] prog 56 (sR (sR (lB (bB (sR (sL (sR (sR (body Tryz.f28))))))))) Q bW w_|false=>aW none [] prog 56 aJ.k (sR (sR (lB (bB (sR (sL (sR (sR (body Tryz.f28))))))))) aJ.u1 Q bW w_) Q)) bW w_|false=>aW none [] prog 56 aJ.k (sR (sR (sR (bB (sL (sR (lB (bB (sR (sL (sR (sR (body Tryz.f28))))))))))))) (b7 (sR (sR (lB (bB (sR (sL (sR (sR (body Tryz.f28)))))))))++aJ.u1) (aL 1 (b7 (sR (sR (lB (bB (sR (sL (sR (sR (body Tryz.f28)))))))))++aJ.u1) (bT (fun bW w_=>match cutAt aJ.k (sR (sR (lB (bB (sR (sL (sR (sR (body Tryz.f28)))))))))with|true=>Holds none [] prog 56 (sR (sR (lB (bB (sR (sL (sR (sR (body Tryz.f28))))))))) Q bW w_|false=>aW none [] prog 56 aJ.k (sR (sR (lB (bB (sR (sL (sR (sR (body Tryz.f28))))))))) aJ.u1 Q bW w_) Q)) bW w_) (aL 1 (b7 (sR (sR (lB (bB (sR (sL (sR (sR (body Tryz.f28)))))))))++aJ.u1) (bT (fun bW w_=>match cutAt aJ.k (sR (sR (lB (bB (sR (sL (sR (sR (body Tryz.f28)))))))))with|true=>Holds none [] prog 56 (sR (sR (lB (bB (sR (sL (sR (sR (body Tryz.f28))))))))) Q bW w_|false=>aW none [] prog 56 aJ.k (sR (sR (lB (bB (sR (sL (sR (sR (body Tryz.f28))))))))) aJ.u1 Q bW w_) Q))))
def aJ.e2(a:OA)(b:Nat)(c:Nat)(d:OA)(e:Nat)(f:Nat)(g:OA)(i:Nat)(j:Nat)(k:Int)(s:Int):Env:= [(0,.slice a b c),(2,.slice d e f),(3,.slice g i j),(4,.int .i64 k),(5,.int .i64 s)]
def aJ.u2:List Nat:= [0,2,3,4,5]
section
variable(a:OA)(b:Nat)(d:Nat)(K:KT)(w:World)
def aJ.W:Prop:=
 Holds none [] prog 56 (.loop (lB (bB (sR (sL (sR (sR (body Tryz.f28)))))))) (aJ.q1 K) [(0,.slice a b d),(2,.slice none 0 0),(3,.slice none 0 0),(4,.int .i64 0)] w
variable{a b d K w}
theorem aJ.of(h:aJ.W a b d K w):bk prog 28 #[.slice a b d] w K:=
 aK (C:=aJ.k) (c:=body Tryz.f28) ng mix func28 (by kernel_rfl) (by kernel_rfl) (by kernel_rfl) h
end
section
variable(a:OA)(b:Nat)(c:Nat)(d:OA)(e:Nat)(f:Nat)(g:OA)(i:Nat)(j:Nat)(k:Int)(Q:aN)(w:World)
def aJ.B1:Prop:=
 Split (decide (k<(b:Int))) ((0<=k/\k<(b:Int))/\Is a fun m:Addr=> ∃n:AV,(n.size=32/\Cells w (m.add (k.toNat*32)) n)/\bk prog 13 #[.slice g i j,.agg n] w fun o p=> ∃q:Bool,o=.bool q/\Split q (Q .normal [(0,.slice a b c),(2,.slice d e f),(3,.slice g i j),(4,.int .i64 (IntKind.i64.wrap (k+(1:Int))))] p) (Holds none [] prog 56 (.loop (lB (bB (sL (sR (sR (bB (sL (sR (lB (bB (sR (sL (sR (sR (body Tryz.f28)))))))))))))))) (aJ.q2 Q) [(0,.slice a b c),(2,.slice d e f),(3,.slice g i j),(4,.int .i64 k),(5,.int .i64 (i:Int))] p)) (Q (.exit 0) [(0,.slice a b c),(2,.slice d e f),(3,.slice g i j),(4,.int .i64 k)] w)
theorem aJ.b1:(aW none [] prog 56 aJ.k (lB (bB (sR (sL (sR (sR (body Tryz.f28))))))) aJ.u1 Q [(0,.slice a b c),(2,.slice d e f),(3,.slice g i j),(4,.int .i64 k)] w)=aJ.B1 a b c d e f g i j k Q w:=by kernel_rfl
variable{a b c d e f}
theorem aJ.b9(I:(OA)×Nat×Nat×Int->World->Prop)(μ:(OA)×Nat×Nat×Int->World->Nat)(s:(OA)×Nat×Nat×Int){Q:aN}{w:World}(h0:I s w)
 (round: ∀s w,I s w->aJ.B1 a b c d e f (s.1) (s.2.1) (s.2.2.1) (s.2.2.2) (bK (aJ.e1 a b c d e f) I μ s w Q) w):Holds none [] prog 56 (.loop (lB (bB (sR (sL (sR (sR (body Tryz.f28)))))))) Q (aJ.e1 a b c d e f s) w:=
 bf ng mix (aJ.e1 a b c d e f) I μ aJ.k aJ.u1 s (fun s Q w=>aJ.B1 a b c d e f (s.1) (s.2.1) (s.2.2.1) (s.2.2.2) Q w) (fun s Q w=>aJ.b1 a b c d e f (s.1) (s.2.1) (s.2.2.1) (s.2.2.2) Q w) h0 round
end
section
def aJ.cK(a:OA)(b:Nat)(c:Nat)(d:OA)(e:Nat)(f:Nat)(g:OA)(i:Nat)(j:Nat)(k:Int)(K:KT)(w:World):Prop:=
 K (.slice g i j) w
variable(a:OA)(b:Nat)(c:Nat)(d:OA)(e:Nat)(f:Nat)(g:OA)(i:Nat)(j:Nat)(k:Int)(K:KT)(w:World)
theorem aJ.cZ:(aJ.q1 K (.exit 0) [(0,.slice a b c),(2,.slice d e f),(3,.slice g i j),(4,.int .i64 k)] w)=aJ.cK a b c d e f g i j k K w:=by kernel_rfl
end
section
variable(a:OA)(b:Nat)(c:Nat)(d:OA)(e:Nat)(f:Nat)(g:OA)(i:Nat)(j:Nat)(k:Int)(m:Int)(Q:aN)(w:World)
def aJ.B2:Prop:=
 let n:=w.drew;Split (decide (m>(0:Int))) ((0<=k/\k<(b:Int))/\Is a fun o:Addr=> ∃p:AV,(p.size=32/\Cells n (o.add (k.toNat*32)) p)/\(0<=(IntKind.i64.wrap (m-(1:Int)))/\(IntKind.i64.wrap (m-(1:Int)))<(i:Int))/\Is g fun q:Addr=> ∃r:AV,(r.size=32/\Cells n (q.add ((IntKind.i64.wrap (m-(1:Int))).toNat*32)) r)/\bk prog 52 #[.agg p,.agg r] n fun t u=> ∃v:Int,t=.int .i64 v/\Split (decide (v<(0:Int))) (Q .normal [(0,.slice a b c),(2,.slice d e f),(3,.slice g i j),(4,.int .i64 k),(5,.int .i64 (IntKind.i64.wrap (m-(1:Int))))] u) (Q (.exit 2) [(0,.slice a b c),(2,.slice d e f),(3,.slice g i j),(4,.int .i64 k),(5,.int .i64 m)] u)) (Q (.exit 2) [(0,.slice a b c),(2,.slice d e f),(3,.slice g i j),(4,.int .i64 k),(5,.int .i64 m)] n)
theorem aJ.b2:(aW none [] prog 56 aJ.k (lB (bB (sL (sR (sR (bB (sL (sR (lB (bB (sR (sL (sR (sR (body Tryz.f28))))))))))))))) aJ.u2 Q [(0,.slice a b c),(2,.slice d e f),(3,.slice g i j),(4,.int .i64 k),(5,.int .i64 m)] w)=aJ.B2 a b c d e f g i j k m Q w:=by kernel_rfl
variable{a b c d e f g i j k}
theorem aJ.gI(I:Int->World->Prop)(μ:Int->World->Nat)(s:Int){Q:aN}{w:World}(h0:I s w)
 (round: ∀s w,I s w->aJ.B2 a b c d e f g i j k s (bK (aJ.e2 a b c d e f g i j k) I μ s w Q) w):Holds none [] prog 56 (.loop (lB (bB (sL (sR (sR (bB (sL (sR (lB (bB (sR (sL (sR (sR (body Tryz.f28)))))))))))))))) Q (aJ.e2 a b c d e f g i j k s) w:=
 bf ng mix (aJ.e2 a b c d e f g i j k) I μ aJ.k aJ.u2 s (fun s Q w=>aJ.B2 a b c d e f g i j k s Q w) (fun s Q w=>aJ.b2 a b c d e f g i j k s Q w) h0 round
end
section
variable(a:OA)(b:Nat)(c:Nat)(d:OA)(e:Nat)(f:Nat)(g:OA)(i:Nat)(j:Nat)(k:Int)(m:Int)(Q:aN)(w:World)
def aJ.iu:Prop:=
 (0<=m/\m<=(j:Int))/\ ∃(n:OA) (o p:Nat) (q:World),(Builtin.append_ #[35,35] 35 #[.slice none 0 0,.slice (if j=0 then g else g.map (·.add (0*32))) (m.toNat-0) (j-0)]).run prog w=.ok (.slice n o p) q/\(0<=k/\k<(b:Int))/\Is a fun r:Addr=> ∃t:AV,(t.size=32/\Cells q (r.add (k.toNat*32)) t)/\t.size=32/\let u:=q.alloc (.cells (t.toList++ []).toArray 23);∃(v:OA) (x y:Nat) (z:World),(Builtin.append_ #[35,35] 35 #[.slice n o p,.slice (some (⟨q.heap.size,0,none⟩:Addr)) 1 1]).run prog u=.ok (.slice v x y) z/\(0<=m/\m<=(i:Int))/\ ∃(a1:OA) (b1 c1:Nat) (d1:World),(Builtin.append_ #[35,35] 35 #[.slice v x y,.slice (if j=m.toNat then g else g.map (·.add (m.toNat*32))) (i-m.toNat) (j-m.toNat)]).run prog z=.ok (.slice a1 b1 c1) d1/\Q .normal [(0,.slice a b c),(2,.slice d e f),(3,.slice a1 b1 c1),(4,.int .i64 (IntKind.i64.wrap (k+(1:Int))))] d1
theorem aJ.jF:(aJ.q2 Q (.exit 2) [(0,.slice a b c),(2,.slice d e f),(3,.slice g i j),(4,.int .i64 k),(5,.int .i64 m)] w)=aJ.iu a b c d e f g i j k m Q w:=by kernel_rfl
end
def bC.k:List Nat:= []
def bC.q1(K:KT):aN:=(aL 0 (b7 (sR (sR (body f52)))++(aR f52)) (bT (fun bW w_=>match cutAt bC.k (sR (sR (body f52)))with|true=>Holds none [] prog 24 (sR (sR (body f52))) (bH prog f52 K) bW w_|false=>aW none [] prog 24 bC.k (sR (sR (body f52))) (aR f52) (bH prog f52 K) bW w_) (bH prog f52 K)))
def bC.e1(a:Addr)(b:Addr)(s:Int×Int):Env:= [(2,.pointer (some a)),(3,.pointer (some b)),(4,.int .i64 s.1),(5,.int .i64 s.2)]
def bC.u1:List Nat:= [2,3,4,5]
section
variable(a:AV)(b:AV)(K:KT)(w:World)
def bC.W:Prop:=
 let d:=w.alloc (.cells a 23);let e:=d.alloc (.cells b 23);Holds none [] prog 24 (.loop (lB (bB (sR (sL (sR (body f52))))))) (bC.q1 K) [(2,.pointer (some (⟨w.heap.size,0,none⟩:Addr))),(3,.pointer (some (⟨d.heap.size,0,none⟩:Addr))),(4,.int .i64 0),(5,.int .i64 0)] e
variable{a b K w}
theorem bC.of(h:bC.W a b K w):bk prog 52 #[.agg a,.agg b] w K:=
 aK (C:=bC.k) (c:=body f52) ng mix func52 (by kernel_rfl) (by kernel_rfl) (by kernel_rfl) h
end
section
variable(a:Addr)(b:Addr)(c:Int)(d:Int)(Q:aN)(w:World)
def bC.B1:Prop:=
 Split (decide (d<(32:Int))) (let e:=w.drew;(0<=d/\d<(32:Int))/\ ∃f:Int,e.cell? (a.add (d.toNat*1))=some (.int .u8 f)/\(0<=d/\d<(32:Int))/\ ∃g:Int,e.cell? (b.add (d.toNat*1))=some (.int .u8 g)/\Split (decide (f<g)) (Q .ret [(2,.pointer (some a)),(3,.pointer (some b)),(4,.int .i64 (-1)),(5,.int .i64 d)] e) (let i:=e.drew;(0<=d/\d<(32:Int))/\ ∃j:Int,i.cell? (a.add (d.toNat*1))=some (.int .u8 j)/\(0<=d/\d<(32:Int))/\ ∃k:Int,i.cell? (b.add (d.toNat*1))=some (.int .u8 k)/\Split (decide (j>k)) (Q .ret [(2,.pointer (some a)),(3,.pointer (some b)),(4,.int .i64 1),(5,.int .i64 d)] i) (Q .normal [(2,.pointer (some a)),(3,.pointer (some b)),(4,.int .i64 c),(5,.int .i64 (IntKind.i64.wrap (d+(1:Int))))] i))) (Q (.exit 0) [(2,.pointer (some a)),(3,.pointer (some b)),(4,.int .i64 c),(5,.int .i64 d)] w)
theorem bC.b1:(aW none [] prog 24 bC.k (lB (bB (sR (sL (sR (body f52)))))) bC.u1 Q [(2,.pointer (some a)),(3,.pointer (some b)),(4,.int .i64 c),(5,.int .i64 d)] w)=bC.B1 a b c d Q w:=by kernel_rfl
variable{a b}
theorem bC.b9(I:Int×Int->World->Prop)(μ:Int×Int->World->Nat)(s:Int×Int){Q:aN}{w:World}(h0:I s w)
 (round: ∀s w,I s w->bC.B1 a b (s.1) (s.2) (bK (bC.e1 a b) I μ s w Q) w):Holds none [] prog 24 (.loop (lB (bB (sR (sL (sR (body f52))))))) Q (bC.e1 a b s) w:=
 bf ng mix (bC.e1 a b) I μ bC.k bC.u1 s (fun s Q w=>bC.B1 a b (s.1) (s.2) Q w) (fun s Q w=>bC.b1 a b (s.1) (s.2) Q w) h0 round
end
section
def bC.cK(a:Addr)(b:Addr)(c:Int)(d:Int)(K:KT)(w:World):Prop:=
 K (.int .i64 0) w
variable(a:Addr)(b:Addr)(c:Int)(d:Int)(K:KT)(w:World)
theorem bC.cZ:(bC.q1 K (.exit 0) [(2,.pointer (some a)),(3,.pointer (some b)),(4,.int .i64 c),(5,.int .i64 d)] w)=bC.cK a b c d K w:=by kernel_rfl
end
def fC.k:List Nat:= []
section
variable(a:OA)(K:KT)(w:World)
def fC.W:Prop:=
 Split (!(a).isNone) (Is a fun b:Addr=> ∃d:Option Nat,w.cell? (b.add 1)=some (.map d)/\K (.bool (!(d).isNone)) w) (K (.bool false) w)
variable{a K w}
theorem fC.of(h:fC.W a K w):bk prog 60 #[.pointer a] w K:=
 aK (C:=fC.k) (c:=body f60) ng mix func60 (by kernel_rfl) (by kernel_rfl) (by kernel_rfl) h
end
def ag.k:List Nat:= []
def ag.q1(K:KT):aN:=(aL 0 (b7 (sR (sR (sR (body f66))))++(aR f66)) (bT (fun bW w_=>match cutAt ag.k (sR (sR (sR (body f66))))with|true=>Holds none [] prog 61 (sR (sR (sR (body f66)))) (bH prog f66 K) bW w_|false=>aW none [] prog 61 ag.k (sR (sR (sR (body f66)))) (aR f66) (bH prog f66 K) bW w_) (bH prog f66 K)))
def ag.e1(a:OA)(b:Nat)(c:Nat)(s:(OA)×Nat×Nat×Int):Env:= [(0,.slice a b c),(2,.slice s.1 s.2.1 s.2.2.1),(3,.int .i64 s.2.2.2)]
def ag.u1:List Nat:= [0,2,3]
def ag.q2(Q:aN):aN:=(aL 2 (b7 (sR (sR (cT (sR (bB (sL (sR (lB (bB (sR (sL (sR (sR (body f66))))))))))))))++(b7 (sR (sR (lB (bB (sR (sL (sR (sR (body f66)))))))))++ag.u1)) (bT (fun bW w_=>match cutAt ag.k (sR (sR (cT (sR (bB (sL (sR (lB (bB (sR (sL (sR (sR (body f66))))))))))))))with|true=>Holds none [] prog 61 (sR (sR (cT (sR (bB (sL (sR (lB (bB (sR (sL (sR (sR (body f66)))))))))))))) (aL 1 (b7 (sR (sR (lB (bB (sR (sL (sR (sR (body f66)))))))))++ag.u1) (bT (fun bW w_=>match cutAt ag.k (sR (sR (lB (bB (sR (sL (sR (sR (body f66)))))))))with|true=>Holds none [] prog 61 (sR (sR (lB (bB (sR (sL (sR (sR (body f66))))))))) Q bW w_|false=>aW none [] prog 61 ag.k (sR (sR (lB (bB (sR (sL (sR (sR (body f66))))))))) ag.u1 Q bW w_) Q)) bW w_|false=>aW none [] prog 61 ag.k (sR (sR (cT (sR (bB (sL (sR (lB (bB (sR (sL (sR (sR (body f66)))))))))))))) (b7 (sR (sR (lB (bB (sR (sL (sR (sR (body f66)))))))))++ag.u1) (aL 1 (b7 (sR (sR (lB (bB (sR (sL (sR (sR (body f66)))))))))++ag.u1) (bT (fun bW w_=>match cutAt ag.k (sR (sR (lB (bB (sR (sL (sR (sR (body f66)))))))))with|true=>Holds none [] prog 61 (sR (sR (lB (bB (sR (sL (sR (sR (body f66))))))))) Q bW w_|false=>aW none [] prog 61 ag.k (sR (sR (lB (bB (sR (sL (sR (sR (body f66))))))))) ag.u1 Q bW w_) Q)) bW w_) (aL 1 (b7 (sR (sR (lB (bB (sR (sL (sR (sR (body f66)))))))))++ag.u1) (bT (fun bW w_=>match cutAt ag.k (sR (sR (lB (bB (sR (sL (sR (sR (body f66)))))))))with|true=>Holds none [] prog 61 (sR (sR (lB (bB (sR (sL (sR (sR (body f66))))))))) Q bW w_|false=>aW none [] prog 61 ag.k (sR (sR (lB (bB (sR (sL (sR (sR (body f66))))))))) ag.u1 Q bW w_) Q))))
def ag.e2(a:OA)(b:Nat)(c:Nat)(d:OA)(e:Nat)(f:Nat)(g:OA)(i:Nat)(j:Nat)(s:Int×Int):Env:= [(0,.slice a b c),(2,.slice d e f),(3,.int .i64 s.1),(4,.slice g i j),(5,.int .i64 s.2)]
def ag.u2:List Nat:= [0,2,3,4,5]
section
variable(a:OA)(b:Nat)(d:Nat)(K:KT)(w:World)
def ag.W:Prop:=
 Split (decide ((b:Int)<(2:Int))) (K (.slice a b d) w) (Holds none [] prog 61 (.loop (lB (bB (sR (sL (sR (sR (body f66)))))))) (ag.q1 K) [(0,.slice a b d),(2,.slice none 0 0),(3,.int .i64 1)] w)
variable{a b d K w}
theorem ag.of(h:ag.W a b d K w):bk prog 66 #[.slice a b d] w K:=
 aK (C:=ag.k) (c:=body f66) ng mix func66 (by kernel_rfl) (by kernel_rfl) (by kernel_rfl) h
end
section
variable(a:OA)(b:Nat)(c:Nat)(d:OA)(e:Nat)(f:Nat)(g:Int)(Q:aN)(w:World)
def ag.B1:Prop:=
 Split (decide (g<(b:Int))) (let i:=w.drew;(0<=g/\g<(b:Int))/\Is a fun j:Addr=> ∃k:AV,(k.size=32/\Cells i (j.add (g.toNat*32)) k)/\(0<=(IntKind.i64.wrap (g-(1:Int)))/\(IntKind.i64.wrap (g-(1:Int)))<(b:Int))/\Is a fun m:Addr=> ∃n:AV,(n.size=32/\Cells i (m.add ((IntKind.i64.wrap (g-(1:Int))).toNat*32)) n)/\(cX .u8 32 k/\cX .u8 32 n)/\Split (dA k n) ((0<=g/\g<=(b:Int))/\Holds none [] prog 61 (.loop (lB (bB (sR (sL (sR (cT (sR (bB (sL (sR (lB (bB (sR (sL (sR (sR (body f66)))))))))))))))))) (ag.q2 Q) [(0,.slice a b c),(2,.slice d e f),(3,.int .i64 g),(4,.slice (if c=g.toNat then a else a.map (·.add (g.toNat*32))) (b-g.toNat) (c-g.toNat)),(5,.int .i64 1)] i) (Q .normal [(0,.slice a b c),(2,.slice d e f),(3,.int .i64 (IntKind.i64.wrap (g+(1:Int))))] i)) (Q (.exit 0) [(0,.slice a b c),(2,.slice d e f),(3,.int .i64 g)] w)
theorem ag.b1:(aW none [] prog 61 ag.k (lB (bB (sR (sL (sR (sR (body f66))))))) ag.u1 Q [(0,.slice a b c),(2,.slice d e f),(3,.int .i64 g)] w)=ag.B1 a b c d e f g Q w:=by kernel_rfl
variable{a b c}
theorem ag.b9(I:(OA)×Nat×Nat×Int->World->Prop)(μ:(OA)×Nat×Nat×Int->World->Nat)(s:(OA)×Nat×Nat×Int){Q:aN}{w:World}(h0:I s w)
 (round: ∀s w,I s w->ag.B1 a b c (s.1) (s.2.1) (s.2.2.1) (s.2.2.2) (bK (ag.e1 a b c) I μ s w Q) w):Holds none [] prog 61 (.loop (lB (bB (sR (sL (sR (sR (body f66)))))))) Q (ag.e1 a b c s) w:=
 bf ng mix (ag.e1 a b c) I μ ag.k ag.u1 s (fun s Q w=>ag.B1 a b c (s.1) (s.2.1) (s.2.2.1) (s.2.2.2) Q w) (fun s Q w=>ag.b1 a b c (s.1) (s.2.1) (s.2.2.1) (s.2.2.2) Q w) h0 round
end
section
def ag.cK(a:OA)(b:Nat)(c:Nat)(d:OA)(e:Nat)(f:Nat)(g:Int)(K:KT)(w:World):Prop:=
 K (.slice a b c) w
variable(a:OA)(b:Nat)(c:Nat)(d:OA)(e:Nat)(f:Nat)(g:Int)(K:KT)(w:World)
theorem ag.cZ:(ag.q1 K (.exit 0) [(0,.slice a b c),(2,.slice d e f),(3,.int .i64 g)] w)=ag.cK a b c d e f g K w:=by kernel_rfl
end
section
variable(a:OA)(b:Nat)(c:Nat)(d:OA)(e:Nat)(f:Nat)(g:Int)(i:OA)(j:Nat)(k:Nat)(m:Int)(Q:aN)(w:World)
def ag.B2:Prop:=
 Split (decide (m<(j:Int))) (let n:=w.drew;(0<=m/\m<(j:Int))/\Is i fun o:Addr=> ∃p:AV,(p.size=32/\Cells n (o.add (m.toNat*32)) p)/\(0<=(IntKind.i64.wrap (m-(1:Int)))/\(IntKind.i64.wrap (m-(1:Int)))<(j:Int))/\Is i fun q:Addr=> ∃r:AV,(r.size=32/\Cells n (q.add ((IntKind.i64.wrap (m-(1:Int))).toNat*32)) r)/\(cX .u8 32 p/\cX .u8 32 r)/\Split (!(dA p r)) ((0<=m/\m<(j:Int))/\Is i fun t:Addr=> ∃u:AV,(u.size=32/\Cells n (t.add (m.toNat*32)) u)/\(0<=g/\g<(b:Int))/\Is a fun v:Addr=>(u.size=32/\(∀x∈u.toList,x.oneCell'=true)/\ ∀y,y<32->Wr n ((v.add (g.toNat*32)).add y))/\let z:=setCells n (v.add (g.toNat*32)) u.toList 0;Q .normal [(0,.slice a b c),(2,.slice d e f),(3,.int .i64 (IntKind.i64.wrap (g+(1:Int)))),(4,.slice i j k),(5,.int .i64 (IntKind.i64.wrap (m+(1:Int))))] z) (Q .normal [(0,.slice a b c),(2,.slice d e f),(3,.int .i64 g),(4,.slice i j k),(5,.int .i64 (IntKind.i64.wrap (m+(1:Int))))] n)) (Q (.exit 2) [(0,.slice a b c),(2,.slice d e f),(3,.int .i64 g),(4,.slice i j k),(5,.int .i64 m)] w)
theorem ag.b2:(aW none [] prog 61 ag.k (lB (bB (sR (sL (sR (cT (sR (bB (sL (sR (lB (bB (sR (sL (sR (sR (body f66))))))))))))))))) ag.u2 Q [(0,.slice a b c),(2,.slice d e f),(3,.int .i64 g),(4,.slice i j k),(5,.int .i64 m)] w)=ag.B2 a b c d e f g i j k m Q w:=by kernel_rfl
variable{a b c d e f i j k}
theorem ag.gI(I:Int×Int->World->Prop)(μ:Int×Int->World->Nat)(s:Int×Int){Q:aN}{w:World}(h0:I s w)
 (round: ∀s w,I s w->ag.B2 a b c d e f (s.1) i j k (s.2) (bK (ag.e2 a b c d e f i j k) I μ s w Q) w):Holds none [] prog 61 (.loop (lB (bB (sR (sL (sR (cT (sR (bB (sL (sR (lB (bB (sR (sL (sR (sR (body f66)))))))))))))))))) Q (ag.e2 a b c d e f i j k s) w:=
 bf ng mix (ag.e2 a b c d e f i j k) I μ ag.k ag.u2 s (fun s Q w=>ag.B2 a b c d e f (s.1) i j k (s.2) Q w) (fun s Q w=>ag.b2 a b c d e f (s.1) i j k (s.2) Q w) h0 round
end
section
def ag.iu(a:OA)(b:Nat)(c:Nat)(d:OA)(e:Nat)(f:Nat)(g:Int)(i:OA)(j:Nat)(k:Nat)(m:Int)(Q:aN)(w:World):Prop:=
 (0<=g/\g<=(b:Int))/\ ∃(n:Value) (o:World),(Builtin.clear_ #[35] 0 #[.slice (if c=g.toNat then a else a.map (·.add (g.toNat*32))) (b-g.toNat) (c-g.toNat)]).run prog w=.ok n o/\(0<=g/\g<=(c:Int))/\Q .ret [(0,.slice a b c),(2,.slice (if c=0 then a else a.map (·.add (0*32))) (g.toNat-0) (c-0)),(3,.int .i64 g)] o
variable(a:OA)(b:Nat)(c:Nat)(d:OA)(e:Nat)(f:Nat)(g:Int)(i:OA)(j:Nat)(k:Nat)(m:Int)(Q:aN)(w:World)
theorem ag.jF:(ag.q2 Q (.exit 2) [(0,.slice a b c),(2,.slice d e f),(3,.int .i64 g),(4,.slice i j k),(5,.int .i64 m)] w)=ag.iu a b c d e f g i j k m Q w:=by kernel_rfl
end
def dm.k:List Nat:= []
section
variable(a:AV)(b:AV)(K:KT)(w:World)
def dm.W:Prop:=
 let d:=w.alloc (.cells a 23);let e:=d.alloc (.cells b 23);let f:=e.drew;bk prog 100 #[.slice (some (if 32=0 then(⟨w.heap.size,0,none⟩:Addr)else(⟨w.heap.size,0,none⟩:Addr).add (0*1))) (32-0) (32-0),.slice (some (if 32=0 then(⟨d.heap.size,0,none⟩:Addr)else(⟨d.heap.size,0,none⟩:Addr).add (0*1))) (32-0) (32-0)] f fun g i=> ∃j:Int,g=.int .i64 j/\K (.int .i64 j) i
variable{a b K w}
theorem dm.of(h:dm.W a b K w):bk prog 69 #[.agg a,.agg b] w K:=
 aK (C:=dm.k) (c:=body f69) ng mix func69 (by kernel_rfl) (by kernel_rfl) (by kernel_rfl) h
end
def fM.k:List Nat:= []
section
variable(a:OA)(b:AV)(K:KT)(w:World)
def fM.W:Prop:=
 let d:=w.alloc (.cells b 23);∃e:AV,(e.size=32/\Cells d (⟨w.heap.size,0,none⟩:Addr) e)/\bk prog 101 #[.pointer a,.agg e] d fun f g=> ∃i:OA,f=.pointer i/\K (.bool (!(i).isNone)) g
variable{a b K w}
theorem fM.of(h:fM.W a b K w):bk prog 79 #[.pointer a,.agg b] w K:=
 aK (C:=fM.k) (c:=body f79) ng mix func79 (by kernel_rfl) (by kernel_rfl) (by kernel_rfl) h
end
def gB.k:List Nat:= []
section
variable(a:OA)(b:Nat)(d:Nat)(e:OA)(f:Nat)(g:Nat)(K:KT)(w:World)
def gB.W:Prop:=
 CL prog 119 #[.slice a b d,.slice e f g] w fun i j=> ∃k:Int,i=.int .i64 k/\K (.int .i64 k) j
variable{a b d e f g K w}
theorem gB.of(h:gB.W a b d e f g K w):bk prog 100 #[.slice a b d,.slice e f g] w K:=
 aK (C:=gB.k) (c:=body f100) ng mix func100 (by kernel_rfl) (by kernel_rfl) (by kernel_rfl) h
end
def ft.k:List Nat:= []
section
variable(a:OA)(b:AV)(K:KT)(w:World)
def ft.W:Prop:=
 let d:=w.alloc (.cells b 23);bk prog 60 #[.pointer a] d fun e f=> ∃g:Bool,e=.bool g/\Split g (let i:=f.drew;Is a fun j:Addr=> ∃k:Option Nat,i.cell? (j.add 1)=some (.map k)/\ ∃m:AV,(m.size=32/\Cells i (⟨w.heap.size,0,none⟩:Addr) m)/\ ∃n:Int,∃o:Bool,(Instr.lookup 89 (.map k) (.agg m) true).run prog i=.ok (.tuple #[.int .i64 n,.bool o]) i/\Split o (Is a fun p:Addr=> ∃q:OA,∃r:Nat,∃t:Nat,i.cell? (p.add 0)=some (.slice q r t)/\(0<=n/\n<(r:Int))/\Is q fun u:Addr=> ∃v:OA,i.cell? (u.add (n.toNat*1))=some (.pointer v)/\K (.pointer v) i) (K (.pointer none) i)) (K (.pointer none) f)
variable{a b K w}
theorem ft.of(h:ft.W a b K w):bk prog 101 #[.pointer a,.agg b] w K:=
 aK (C:=ft.k) (c:=body f101) ng mix func101 (by kernel_rfl) (by kernel_rfl) (by kernel_rfl) h
end
def b0.k:List Nat:= []
def b0.q1(K:KT):aN:=(aL 0 (b7 (sR (sR (body f102)))++(aR f102)) (bT (fun bW w_=>match cutAt b0.k (sR (sR (body f102)))with|true=>Holds none [] prog 30 (sR (sR (body f102))) (bH prog f102 K) bW w_|false=>aW none [] prog 30 b0.k (sR (sR (body f102))) (aR f102) (bH prog f102 K) bW w_) (bH prog f102 K)))
def b0.e1(a:OA)(b:Nat)(c:Nat)(d:OA)(e:Nat)(f:Nat)(g:Int)(s:(OA)×Nat×Nat×Int):Env:= [(0,.slice s.1 s.2.1 s.2.2.1),(4,.slice a b c),(7,.slice d e f),(8,.int .i64 g),(9,.int .i64 s.2.2.2)]
def b0.u1:List Nat:= [0,4,7,8,9]
section
variable(a:OA)(b:Nat)(d:Nat)(e:OA)(f:Nat)(g:Nat)(K:KT)(w:World)
def b0.W:Prop:=
 Holds none [] prog 30 (.loop (lB (bB (sR (sL (sR (body f102))))))) (b0.q1 K) [(0,.slice a b d),(4,.slice none 0 0),(7,.slice e f g),(8,.int .i64 (f:Int)),(9,.int .i64 0)] w
variable{a b d e f g K w}
theorem b0.of(h:b0.W a b d e f g K w):bk prog 102 #[.slice a b d,.slice e f g] w K:=
 aK (C:=b0.k) (c:=body f102) ng mix func102 (by kernel_rfl) (by kernel_rfl) (by kernel_rfl) h
end
section
variable(a:OA)(b:Nat)(c:Nat)(d:OA)(e:Nat)(f:Nat)(g:OA)(i:Nat)(j:Nat)(k:Int)(m:Int)(Q:aN)(w:World)
def b0.B1:Prop:=
 Split (decide (m<k)) ((0<=m/\m<(i:Int))/\Is g fun n:Addr=> ∃o:Int,w.cell? (n.add (m.toNat*1))=some (.int .u64 o)/\Split (m==(b:Int)) (let p:=w.alloc (.cells #[.int .u64 0] 49);∃(q:OA) (r t:Nat) (u:World),(Builtin.append_ #[148,148] 148 #[.slice a b c,.slice (some (⟨w.heap.size,0,none⟩:Addr)) 1 1]).run prog p=.ok (.slice q r t) u/\(0<=m/\m<(r:Int))/\Is q fun v:Addr=> ∃x:Int,u.cell? (v.add (m.toNat*1))=some (.int .u64 x)/\(0<=m/\m<(r:Int))/\Is q fun y:Addr=>Wr u (y.add (m.toNat*1))/\let z:=u.setCell (y.add (m.toNat*1)) (.int .u64 (IntKind.u64.wrap ((BitVec.ofInt 64 x|||BitVec.ofInt 64 o).toNat)));Q .normal [(0,.slice q r t),(4,.slice d e f),(7,.slice g i j),(8,.int .i64 k),(9,.int .i64 (IntKind.i64.wrap (m+(1:Int))))] z) ((0<=m/\m<(b:Int))/\Is a fun a1:Addr=> ∃b1:Int,w.cell? (a1.add (m.toNat*1))=some (.int .u64 b1)/\(0<=m/\m<(b:Int))/\Is a fun c1:Addr=>Wr w (c1.add (m.toNat*1))/\let d1:=w.setCell (c1.add (m.toNat*1)) (.int .u64 (IntKind.u64.wrap ((BitVec.ofInt 64 b1|||BitVec.ofInt 64 o).toNat)));Q .normal [(0,.slice a b c),(4,.slice d e f),(7,.slice g i j),(8,.int .i64 k),(9,.int .i64 (IntKind.i64.wrap (m+(1:Int))))] d1)) (Q (.exit 0) [(0,.slice a b c),(4,.slice d e f),(7,.slice g i j),(8,.int .i64 k),(9,.int .i64 m)] w)
theorem b0.b1:(aW none [] prog 30 b0.k (lB (bB (sR (sL (sR (body f102)))))) b0.u1 Q [(0,.slice a b c),(4,.slice d e f),(7,.slice g i j),(8,.int .i64 k),(9,.int .i64 m)] w)=b0.B1 a b c d e f g i j k m Q w:=by kernel_rfl
variable{d e f g i j k}
theorem b0.b9(I:(OA)×Nat×Nat×Int->World->Prop)(μ:(OA)×Nat×Nat×Int->World->Nat)(s:(OA)×Nat×Nat×Int){Q:aN}{w:World}(h0:I s w)
 (round: ∀s w,I s w->b0.B1 (s.1) (s.2.1) (s.2.2.1) d e f g i j k (s.2.2.2) (bK (b0.e1 d e f g i j k) I μ s w Q) w):Holds none [] prog 30 (.loop (lB (bB (sR (sL (sR (body f102))))))) Q (b0.e1 d e f g i j k s) w:=
 bf ng mix (b0.e1 d e f g i j k) I μ b0.k b0.u1 s (fun s Q w=>b0.B1 (s.1) (s.2.1) (s.2.2.1) d e f g i j k (s.2.2.2) Q w) (fun s Q w=>b0.b1 (s.1) (s.2.1) (s.2.2.1) d e f g i j k (s.2.2.2) Q w) h0 round
end
section
def b0.cK(a:OA)(b:Nat)(c:Nat)(d:OA)(e:Nat)(f:Nat)(g:OA)(i:Nat)(j:Nat)(k:Int)(m:Int)(K:KT)(w:World):Prop:=
 K (.slice a b c) w
variable(a:OA)(b:Nat)(c:Nat)(d:OA)(e:Nat)(f:Nat)(g:OA)(i:Nat)(j:Nat)(k:Int)(m:Int)(K:KT)(w:World)
theorem b0.cZ:(b0.q1 K (.exit 0) [(0,.slice a b c),(4,.slice d e f),(7,.slice g i j),(8,.int .i64 k),(9,.int .i64 m)] w)=b0.cK a b c d e f g i j k m K w:=by kernel_rfl
end
def dU.k:List Nat:= []
section
variable(a:AV)(b:Addr)(K:KT)(w:World)
def dU.W:Prop:=
 let d:=w.alloc (.cells a 23);∃e:OA,d.cell? b=some (.pointer e)/\ ∃f:AV,(f.size=32/\Cells d (⟨w.heap.size,0,none⟩:Addr) f)/\bk prog 79 #[.pointer e,.agg f] d fun g i=> ∃j:Bool,g=.bool j/\K (.bool (!j)) i
variable{a b K w}
theorem dU.of(h:dU.W a b K w):bk prog 107 #[.agg a,.pointer (some b)] w K:=
 aK (C:=dU.k) (c:=body f107) ng mix func107 (by kernel_rfl) (by kernel_rfl) (by kernel_rfl) h
end
def bG.k:List Nat:= []
def bG.q1(K:KT):aN:=(aL 0 (b7 (sR (sR (body f108)))++(aR f108)) (bT (fun bW w_=>match cutAt bG.k (sR (sR (body f108)))with|true=>Holds none [] prog 24 (sR (sR (body f108))) (bH prog f108 K) bW w_|false=>aW none [] prog 24 bG.k (sR (sR (body f108))) (aR f108) (bH prog f108 K) bW w_) (bH prog f108 K)))
def bG.e1(a:Int)(b:OA)(c:Nat)(d:Nat)(s:(OA)×Nat×Nat):Env:= [(0,.slice s.1 s.2.1 s.2.2),(1,.int .i64 a),(4,.slice b c d)]
def bG.u1:List Nat:= [0,1,4]
section
variable(a:OA)(b:Nat)(d:Nat)(e:Int)(K:KT)(w:World)
def bG.W:Prop:=
 Holds none [] prog 24 (.loop (lB (bB (sL (sR (body f108)))))) (bG.q1 K) [(0,.slice a b d),(1,.int .i64 e),(4,.slice none 0 0)] w
variable{a b d e K w}
theorem bG.of(h:bG.W a b d e K w):bk prog 108 #[.slice a b d,.int .i64 e] w K:=
 aK (C:=bG.k) (c:=body f108) ng mix func108 (by kernel_rfl) (by kernel_rfl) (by kernel_rfl) h
end
section
variable(a:OA)(b:Nat)(c:Nat)(d:Int)(e:OA)(f:Nat)(g:Nat)(Q:aN)(w:World)
def bG.B1:Prop:=
 (64:Int)≠0/\Split (decide ((b:Int)<=(IntKind.i64.wrap (d.tdiv (64:Int))))) (let i:=w.alloc (.cells #[.int .u64 0] 49);∃(j:OA) (k m:Nat) (n:World),(Builtin.append_ #[148,148] 148 #[.slice a b c,.slice (some (⟨w.heap.size,0,none⟩:Addr)) 1 1]).run prog i=.ok (.slice j k m) n/\Q .normal [(0,.slice j k m),(1,.int .i64 d),(4,.slice e f g)] n) (Q (.exit 0) [(0,.slice a b c),(1,.int .i64 d),(4,.slice e f g)] w)
theorem bG.b1:(aW none [] prog 24 bG.k (lB (bB (sL (sR (body f108))))) bG.u1 Q [(0,.slice a b c),(1,.int .i64 d),(4,.slice e f g)] w)=bG.B1 a b c d e f g Q w:=by kernel_rfl
variable{d e f g}
theorem bG.b9(I:(OA)×Nat×Nat->World->Prop)(μ:(OA)×Nat×Nat->World->Nat)(s:(OA)×Nat×Nat){Q:aN}{w:World}(h0:I s w)
 (round: ∀s w,I s w->bG.B1 (s.1) (s.2.1) (s.2.2) d e f g (bK (bG.e1 d e f g) I μ s w Q) w):Holds none [] prog 24 (.loop (lB (bB (sL (sR (body f108)))))) Q (bG.e1 d e f g s) w:=
 bf ng mix (bG.e1 d e f g) I μ bG.k bG.u1 s (fun s Q w=>bG.B1 (s.1) (s.2.1) (s.2.2) d e f g Q w) (fun s Q w=>bG.b1 (s.1) (s.2.1) (s.2.2) d e f g Q w) h0 round
end
section
def bG.cK(a:OA)(b:Nat)(c:Nat)(d:Int)(e:OA)(f:Nat)(g:Nat)(K:KT)(w:World):Prop:=
 let i:=w.drew;(64:Int)≠0/\(0<=(IntKind.i64.wrap (d.tdiv (64:Int)))/\(IntKind.i64.wrap (d.tdiv (64:Int)))<(b:Int))/\Is a fun j:Addr=> ∃k:Int,i.cell? (j.add ((IntKind.i64.wrap (d.tdiv (64:Int))).toNat*1))=some (.int .u64 k)/\(64:Int)≠0/\0<=(d.tmod (64:Int))/\(0<=(IntKind.i64.wrap (d.tdiv (64:Int)))/\(IntKind.i64.wrap (d.tdiv (64:Int)))<(b:Int))/\Is a fun m:Addr=>Wr i (m.add ((IntKind.i64.wrap (d.tdiv (64:Int))).toNat*1))/\let n:=i.setCell (m.add ((IntKind.i64.wrap (d.tdiv (64:Int))).toNat*1)) (.int .u64 (IntKind.u64.wrap ((BitVec.ofInt 64 k|||BitVec.ofInt 64 (IntKind.u64.wrap ((1:Int)*2 ^ (min (d.tmod (64:Int)).toNat 64)))).toNat)));K (.slice a b c) n
variable(a:OA)(b:Nat)(c:Nat)(d:Int)(e:OA)(f:Nat)(g:Nat)(K:KT)(w:World)
theorem bG.cZ:(bG.q1 K (.exit 0) [(0,.slice a b c),(1,.int .i64 d),(4,.slice e f g)] w)=bG.cK a b c d e f g K w:=by kernel_rfl
end
def ao.k:List Nat:= []
def ao.q1(K:KT):aN:=(aL 0 (b7 (sR (sR (body f113)))++(aR f113)) (bT (fun bW w_=>match cutAt ao.k (sR (sR (body f113)))with|true=>Holds none [] prog 19 (sR (sR (body f113))) (bH prog f113 K) bW w_|false=>aW none [] prog 19 ao.k (sR (sR (body f113))) (aR f113) (bH prog f113 K) bW w_) (bH prog f113 K)))
def ao.e1(a:OA)(b:Nat)(c:Nat)(d:Addr)(e:Int)(s:Int×Int):Env:= [(0,.slice a b c),(1,.func (.func 107) #[] #[.pointer (some d)]),(4,.int .i64 s.1),(7,.int .i64 e),(8,.int .i64 s.2)]
def ao.u1:List Nat:= [0,1,4,7,8]
section
variable(a:OA)(b:Nat)(d:Nat)(e:Addr)(K:KT)(w:World)
def ao.W:Prop:=
 Holds none [] prog 19 (.loop (lB (bB (sR (sL (sR (body f113))))))) (ao.q1 K) [(0,.slice a b d),(1,.func (.func 107) #[] #[.pointer (some e)]),(4,.int .i64 0),(7,.int .i64 (b:Int)),(8,.int .i64 0)] w
variable{a b d e K w}
theorem ao.of(h:ao.W a b d e K w):bk prog 113 #[.slice a b d,.func (.func 107) #[] #[.pointer (some e)]] w K:=
 aK (C:=ao.k) (c:=body f113) ng mix func113 (by kernel_rfl) (by kernel_rfl) (by kernel_rfl) h
end
section
variable(a:OA)(b:Nat)(c:Nat)(d:Addr)(e:Int)(f:Int)(g:Int)(Q:aN)(w:World)
def ao.B1:Prop:=
 Split (decide (g<f)) ((0<=g/\g<(b:Int))/\Is a fun i:Addr=> ∃j:AV,(j.size=32/\Cells w (i.add (g.toNat*32)) j)/\bk prog 107 #[.agg j,.pointer (some d)] w fun k m=> ∃n:Bool,k=.bool n/\Split n (Q .ret [(0,.slice a b c),(1,.func (.func 107) #[] #[.pointer (some d)]),(4,.int .i64 g),(7,.int .i64 f),(8,.int .i64 g)] m) (Q .normal [(0,.slice a b c),(1,.func (.func 107) #[] #[.pointer (some d)]),(4,.int .i64 e),(7,.int .i64 f),(8,.int .i64 (IntKind.i64.wrap (g+(1:Int))))] m)) (Q (.exit 0) [(0,.slice a b c),(1,.func (.func 107) #[] #[.pointer (some d)]),(4,.int .i64 e),(7,.int .i64 f),(8,.int .i64 g)] w)
theorem ao.b1:(aW none [] prog 19 ao.k (lB (bB (sR (sL (sR (body f113)))))) ao.u1 Q [(0,.slice a b c),(1,.func (.func 107) #[] #[.pointer (some d)]),(4,.int .i64 e),(7,.int .i64 f),(8,.int .i64 g)] w)=ao.B1 a b c d e f g Q w:=by kernel_rfl
variable{a b c d f}
theorem ao.b9(I:Int×Int->World->Prop)(μ:Int×Int->World->Nat)(s:Int×Int){Q:aN}{w:World}(h0:I s w)
 (round: ∀s w,I s w->ao.B1 a b c d (s.1) f (s.2) (bK (ao.e1 a b c d f) I μ s w Q) w):Holds none [] prog 19 (.loop (lB (bB (sR (sL (sR (body f113))))))) Q (ao.e1 a b c d f s) w:=
 bf ng mix (ao.e1 a b c d f) I μ ao.k ao.u1 s (fun s Q w=>ao.B1 a b c d (s.1) f (s.2) Q w) (fun s Q w=>ao.b1 a b c d (s.1) f (s.2) Q w) h0 round
end
section
def ao.cK(a:OA)(b:Nat)(c:Nat)(d:Addr)(e:Int)(f:Int)(g:Int)(K:KT)(w:World):Prop:=
 K (.int .i64 (-1)) w
variable(a:OA)(b:Nat)(c:Nat)(d:Addr)(e:Int)(f:Int)(g:Int)(K:KT)(w:World)
theorem ao.cZ:(ao.q1 K (.exit 0) [(0,.slice a b c),(1,.func (.func 107) #[] #[.pointer (some d)]),(4,.int .i64 e),(7,.int .i64 f),(8,.int .i64 g)] w)=ao.cK a b c d e f g K w:=by kernel_rfl
end
def bX.k:List Nat:= []
section
variable(a:OA)(b:Nat)(d:Nat)(e:Addr)(K:KT)(w:World)
def bX.W:Prop:=
 bk prog 113 #[.slice a b d,.func (.func 107) #[] #[.pointer (some e)]] w fun f g=> ∃i:Int,f=.int .i64 i/\K (.bool (decide (i>=(0:Int)))) g
variable{a b d e K w}
theorem bX.of(h:bX.W a b d e K w):bk prog 85 #[.slice a b d,.func (.func 107) #[] #[.pointer (some e)]] w K:=
 aK (C:=bX.k) (c:=body f85) ng mix func85 (by kernel_rfl) (by kernel_rfl) (by kernel_rfl) h
end
def aG.k:List Nat:= []
def aG.q1(K:KT):aN:=(aL 0 (aR f120) (bH prog f120 K))
def aG.e1(a:Nat)(b:OA)(c:Nat)(d:Nat)(e:Int)(s:Int):Env:= [(0,.func (.yield a) #[] #[]),(5,.slice b c d),(6,.int .i64 e),(7,.int .i64 s)]
def aG.u1:List Nat:= [0,5,6,7]
def aG.q2(Q:aN):aN:=(aL 2 (b7 (sR (sR (sR (lB (bB (sR (body f120)))))))++aG.u1) (aL 1 (b7 (sR (sR (sR (lB (bB (sR (body f120)))))))++aG.u1) (bT (fun bW w_=>match cutAt aG.k (sR (sR (sR (lB (bB (sR (body f120)))))))with|true=>Holds none [] prog 27 (sR (sR (sR (lB (bB (sR (body f120))))))) Q bW w_|false=>aW none [] prog 27 aG.k (sR (sR (sR (lB (bB (sR (body f120))))))) aG.u1 Q bW w_) Q)))
def aG.e2(a:Nat)(b:Int)(c:OA)(d:Nat)(e:Nat)(f:Int)(g:Int)(s:Int):Env:= [(0,.func (.yield a) #[] #[]),(3,.int .i64 b),(4,.int .u64 s),(5,.slice c d e),(6,.int .i64 f),(7,.int .i64 g)]
def aG.u2:List Nat:= [0,3,4,5,6,7]
section
variable(a:Nat)(b:Addr)(K:KT)(w:World)
def aG.W:Prop:=
 ∃d:OA,∃e:Nat,∃f:Nat,w.cell? b=some (.slice d e f)/\Holds none [] prog 27 (.loop (lB (bB (sR (body f120))))) (aG.q1 K) [(0,.func (.yield a) #[] #[]),(5,.slice d e f),(6,.int .i64 (e:Int)),(7,.int .i64 0)] w
variable{a b K w}
theorem aG.of(h:aG.W a b K w):bk prog 120 #[.func (.yield a) #[] #[],.pointer (some b)] w K:=
 aK (C:=aG.k) (c:=body f120) ng mix func120 (by kernel_rfl) (by kernel_rfl) (by kernel_rfl) h
end
section
variable(a:Nat)(b:OA)(c:Nat)(d:Nat)(e:Int)(f:Int)(Q:aN)(w:World)
def aG.B1:Prop:=
 Split (decide (f<e)) ((0<=f/\f<(c:Int))/\Is b fun g:Addr=> ∃i:Int,w.cell? (g.add (f.toNat*1))=some (.int .u64 i)/\Holds none [] prog 27 (.loop (lB (bB (sR (bB (sL (sR (sR (lB (bB (sR (body f120)))))))))))) (aG.q2 Q) [(0,.func (.yield a) #[] #[]),(3,.int .i64 f),(4,.int .u64 i),(5,.slice b c d),(6,.int .i64 e),(7,.int .i64 f)] w) (Q (.exit 0) [(0,.func (.yield a) #[] #[]),(5,.slice b c d),(6,.int .i64 e),(7,.int .i64 f)] w)
theorem aG.b1:(aW none [] prog 27 aG.k (lB (bB (sR (body f120)))) aG.u1 Q [(0,.func (.yield a) #[] #[]),(5,.slice b c d),(6,.int .i64 e),(7,.int .i64 f)] w)=aG.B1 a b c d e f Q w:=by kernel_rfl
variable{a b c d e}
theorem aG.b9(I:Int->World->Prop)(μ:Int->World->Nat)(s:Int){Q:aN}{w:World}(h0:I s w)
 (round: ∀s w,I s w->aG.B1 a b c d e s (bK (aG.e1 a b c d e) I μ s w Q) w):Holds none [] prog 27 (.loop (lB (bB (sR (body f120))))) Q (aG.e1 a b c d e s) w:=
 bf ng mix (aG.e1 a b c d e) I μ aG.k aG.u1 s (fun s Q w=>aG.B1 a b c d e s Q w) (fun s Q w=>aG.b1 a b c d e s Q w) h0 round
end
section
def aG.cK(a:Nat)(b:OA)(c:Nat)(d:Nat)(e:Int)(f:Int)(K:KT)(w:World):Prop:=
 K (.tuple #[]) w
variable(a:Nat)(b:OA)(c:Nat)(d:Nat)(e:Int)(f:Int)(K:KT)(w:World)
theorem aG.cZ:(aG.q1 K (.exit 0) [(0,.func (.yield a) #[] #[]),(5,.slice b c d),(6,.int .i64 e),(7,.int .i64 f)] w)=aG.cK a b c d e f K w:=by kernel_rfl
end
section
variable(a:Nat)(b:Int)(c:Int)(d:OA)(e:Nat)(f:Nat)(g:Int)(i:Int)(Q:aN)(w:World)
def aG.B2:Prop:=
 Split (c != (0:Int)) (bk prog 121 #[.int .u64 c] w fun j k=> ∃m:Int,j=.int .i64 m/\jD prog a #[.int .i64 (IntKind.i64.wrap ((IntKind.i64.wrap ((64:Int)*b))+m))] k fun n o=>Split (!n) (Q .ret [(0,.func (.yield a) #[] #[]),(3,.int .i64 b),(4,.int .u64 c),(5,.slice d e f),(6,.int .i64 g),(7,.int .i64 i)] o) (Q .normal [(0,.func (.yield a) #[] #[]),(3,.int .i64 b),(4,.int .u64 (IntKind.u64.wrap ((BitVec.ofInt 64 c&&& BitVec.ofInt 64 (IntKind.u64.wrap (c-(1:Int)))).toNat))),(5,.slice d e f),(6,.int .i64 g),(7,.int .i64 i)] o)) (Q (.exit 2) [(0,.func (.yield a) #[] #[]),(3,.int .i64 b),(4,.int .u64 c),(5,.slice d e f),(6,.int .i64 g),(7,.int .i64 i)] w)
theorem aG.b2:(aW none [] prog 27 aG.k (lB (bB (sR (bB (sL (sR (sR (lB (bB (sR (body f120))))))))))) aG.u2 Q [(0,.func (.yield a) #[] #[]),(3,.int .i64 b),(4,.int .u64 c),(5,.slice d e f),(6,.int .i64 g),(7,.int .i64 i)] w)=aG.B2 a b c d e f g i Q w:=by kernel_rfl
variable{a b d e f g i}
theorem aG.gI(I:Int->World->Prop)(μ:Int->World->Nat)(s:Int){Q:aN}{w:World}(h0:I s w)
 (round: ∀s w,I s w->aG.B2 a b s d e f g i (bK (aG.e2 a b d e f g i) I μ s w Q) w):Holds none [] prog 27 (.loop (lB (bB (sR (bB (sL (sR (sR (lB (bB (sR (body f120)))))))))))) Q (aG.e2 a b d e f g i s) w:=
 bf ng mix (aG.e2 a b d e f g i) I μ aG.k aG.u2 s (fun s Q w=>aG.B2 a b s d e f g i Q w) (fun s Q w=>aG.b2 a b s d e f g i Q w) h0 round
end
section
def aG.iu(a:Nat)(b:Int)(c:Int)(d:OA)(e:Nat)(f:Nat)(g:Int)(i:Int)(Q:aN)(w:World):Prop:=
 Q .normal [(0,.func (.yield a) #[] #[]),(5,.slice d e f),(6,.int .i64 g),(7,.int .i64 (IntKind.i64.wrap (i+(1:Int))))] w
variable(a:Nat)(b:Int)(c:Int)(d:OA)(e:Nat)(f:Nat)(g:Int)(i:Int)(Q:aN)(w:World)
theorem aG.jF:(aG.q2 Q (.exit 2) [(0,.func (.yield a) #[] #[]),(3,.int .i64 b),(4,.int .u64 c),(5,.slice d e f),(6,.int .i64 g),(7,.int .i64 i)] w)=aG.iu a b c d e f g i Q w:=by kernel_rfl
end
def aA.k:List Nat:= []
def aA.q1(K:KT):aN:=(aL 0 (aR f99) (bH prog f99 K))
def aA.e1(a:Nat)(b:OA)(c:Nat)(d:Nat)(e:Int)(s:Int):Env:= [(0,.func (.yield a) #[] #[]),(5,.slice b c d),(6,.int .i64 e),(7,.int .i64 s)]
def aA.u1:List Nat:= [0,5,6,7]
section
variable(a:Nat)(b:Addr)(K:KT)(w:World)
def aA.W:Prop:=
 ∃d:OA,∃e:Nat,∃f:Nat,w.cell? b=some (.slice d e f)/\Holds none [] prog 16 (.loop (lB (bB (sR (body f99))))) (aA.q1 K) [(0,.func (.yield a) #[] #[]),(5,.slice d e f),(6,.int .i64 (e:Int)),(7,.int .i64 0)] w
variable{a b K w}
theorem aA.of(h:aA.W a b K w):bk prog 99 #[.func (.yield a) #[] #[],.pointer (some b)] w K:=
 aK (C:=aA.k) (c:=body f99) ng mix func99 (by kernel_rfl) (by kernel_rfl) (by kernel_rfl) h
end
section
variable(a:Nat)(b:OA)(c:Nat)(d:Nat)(e:Int)(f:Int)(Q:aN)(w:World)
def aA.B1:Prop:=
 Split (decide (f<e)) ((0<=f/\f<(c:Int))/\Is b fun g:Addr=> ∃i:AV,(i.size=32/\Cells w (g.add (f.toNat*32)) i)/\let j:=w.alloc (.cells zH 23);(i.size=32/\(∀k∈i.toList,k.oneCell'=true)/\ ∀m,m<32->Wr j ((⟨w.heap.size,0,none⟩:Addr).add m))/\let n:=setCells j (⟨w.heap.size,0,none⟩:Addr) i.toList 0;∃o:AV,(o.size=32/\Cells n (⟨w.heap.size,0,none⟩:Addr) o)/\jD prog a #[.agg o] n fun p q=>Split (!p) (Q .ret [(0,.func (.yield a) #[] #[]),(5,.slice b c d),(6,.int .i64 e),(7,.int .i64 f)] q) (Q .normal [(0,.func (.yield a) #[] #[]),(5,.slice b c d),(6,.int .i64 e),(7,.int .i64 (IntKind.i64.wrap (f+(1:Int))))] q)) (Q (.exit 0) [(0,.func (.yield a) #[] #[]),(5,.slice b c d),(6,.int .i64 e),(7,.int .i64 f)] w)
theorem aA.b1:(aW none [] prog 16 aA.k (lB (bB (sR (body f99)))) aA.u1 Q [(0,.func (.yield a) #[] #[]),(5,.slice b c d),(6,.int .i64 e),(7,.int .i64 f)] w)=aA.B1 a b c d e f Q w:=by kernel_rfl
variable{a b c d e}
theorem aA.b9(I:Int->World->Prop)(μ:Int->World->Nat)(s:Int){Q:aN}{w:World}(h0:I s w)
 (round: ∀s w,I s w->aA.B1 a b c d e s (bK (aA.e1 a b c d e) I μ s w Q) w):Holds none [] prog 16 (.loop (lB (bB (sR (body f99))))) Q (aA.e1 a b c d e s) w:=
 bf ng mix (aA.e1 a b c d e) I μ aA.k aA.u1 s (fun s Q w=>aA.B1 a b c d e s Q w) (fun s Q w=>aA.b1 a b c d e s Q w) h0 round
end
section
def aA.cK(a:Nat)(b:OA)(c:Nat)(d:Nat)(e:Int)(f:Int)(K:KT)(w:World):Prop:=
 K (.tuple #[]) w
variable(a:Nat)(b:OA)(c:Nat)(d:Nat)(e:Int)(f:Int)(K:KT)(w:World)
theorem aA.cZ:(aA.q1 K (.exit 0) [(0,.func (.yield a) #[] #[]),(5,.slice b c d),(6,.int .i64 e),(7,.int .i64 f)] w)=aA.cK a b c d e f K w:=by kernel_rfl
end
end Go.Proofs.YtnboahlopghcjaaGreatDoor
