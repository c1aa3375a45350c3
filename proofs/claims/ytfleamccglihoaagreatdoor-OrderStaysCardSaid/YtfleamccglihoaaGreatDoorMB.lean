import Derived.Test.YtfleamccglihoaaGreatDoorProg
import Derived.Test.YtfleamccglihoaaGreatDoorMA
open Go.IntKind (i64 u64)
set_option linter.unusedVariables false
namespace Go.Proofs.YtfleamccglihoaaGreatDoor
open Go.Proofs.Tryz
open Go Go.bR
abbrev OA:=Option Addr
abbrev AV:=Array Value
abbrev KT:=Value->World->Prop
abbrev zH:Array Value:= #[.int .u8 0,.int .u8 0,.int .u8 0,.int .u8 0,.int .u8 0,.int .u8 0,.int .u8 0,.int .u8 0,.int .u8 0,.int .u8 0,.int .u8 0,.int .u8 0,.int .u8 0,.int .u8 0,.int .u8 0,.int .u8 0,.int .u8 0,.int .u8 0,.int .u8 0,.int .u8 0,.int .u8 0,.int .u8 0,.int .u8 0,.int .u8 0,.int .u8 0,.int .u8 0,.int .u8 0,.int .u8 0,.int .u8 0,.int .u8 0,.int .u8 0,.int .u8 0]
abbrev zC:Array Value:= #[.int .u8 0,.int .u8 0,.int .u8 0,.int .u8 0,.int .u8 0,.int .u8 0,.int .u8 0,.int .u8 0,.int .u8 0,.int .u8 0,.int .u8 0,.int .u8 0,.int .u8 0,.int .u8 0,.int .u8 0,.int .u8 0,.int .u8 0,.int .u8 0,.int .u8 0,.int .u8 0,.int .u8 0,.int .u8 0,.int .u8 0,.int .u8 0,.int .u8 0,.int .u8 0,.int .u8 0,.int .u8 0,.int .u8 0,.int .u8 0,.int .u8 0,.int .u8 0,.int .u64 0,.slice none 0 0,.slice none 0 0]
abbrev zS:Array Value:= #[.int .u8 0,.int .u8 0,.int .u8 0,.int .u8 0,.int .u8 0,.int .u8 0,.int .u8 0,.int .u8 0,.int .u8 0,.int .u8 0,.int .u8 0,.int .u8 0,.int .u8 0,.int .u8 0,.int .u8 0,.int .u8 0,.int .u8 0,.int .u8 0,.int .u8 0,.int .u8 0,.int .u8 0,.int .u8 0,.int .u8 0,.int .u8 0,.int .u8 0,.int .u8 0,.int .u8 0,.int .u8 0,.int .u8 0,.int .u8 0,.int .u8 0,.int .u8 0,.int .u64 0,.slice none 0 0,.slice none 0 0,.map none]
abbrev jI:Nat:=3
abbrev iq:Nat:=4
abbrev iK:Nat:=5
abbrev iL:Nat:=22
abbrev ai:Nat:=24
abbrev eB:Nat:=28
abbrev aC:Nat:=33
abbrev cy:Nat:=38
abbrev hZ:Nat:=40
abbrev jy:Nat:=42
abbrev tU:Nat:=44
abbrev fF:Nat:=45
abbrev gH:Nat:=47
abbrev fj:Nat:=48
abbrev gA:Nat:=51
abbrev bn:Nat:=53
abbrev fV:Nat:=62
abbrev dD:Nat:=63
abbrev gM:Nat:=65
abbrev bP:Nat:=69
abbrev mC:Nat:=89
abbrev kX:Nat:=98
abbrev fg:Nat:=123
abbrev cu:Nat:=127
abbrev dR:Nat:=129
abbrev gF:Nat:=135
abbrev eJ:Nat:=137
abbrev fh:Nat:=138
abbrev AY:Nat:=142
abbrev kW:Nat:=143
abbrev dM:Nat:=145
abbrev sQ:Nat:=163
abbrev lv:Nat:=164
abbrev lD:Nat:=170
abbrev gS:Nat:=172
abbrev jl:Nat:=186
abbrev im:Nat:=195
abbrev tC:Nat:=197
abbrev jk:Nat:=199
abbrev wG:Nat:=218
abbrev ag.id:Nat:=5
abbrev bC.id:Nat:=16
abbrev bY.id:Nat:=17
abbrev af.id:Nat:=19
abbrev dp.id:Nat:=21
abbrev ay.id:Nat:=23
abbrev gP.id:Nat:=24
abbrev cR.id:Nat:=25
abbrev aF.id:Nat:=26
abbrev aL.id:Nat:=27
abbrev dJ.id:Nat:=28
abbrev bu.id:Nat:=29
abbrev iA.id:Nat:=30
abbrev iz.id:Nat:=31
abbrev bj.id:Nat:=35
abbrev cF.id:Nat:=38
abbrev dC.id:Nat:=41
abbrev ig.id:Nat:=42
abbrev jT.id:Nat:=43
abbrev dB.id:Nat:=44
abbrev dV.id:Nat:=45
abbrev gv.id:Nat:=47
abbrev dK.id:Nat:=51
abbrev iP.id:Nat:=53
abbrev cZ.id:Nat:=55
abbrev jg.id:Nat:=57
abbrev dI.id:Nat:=59
abbrev dv.id:Nat:=60
abbrev aX.id:Nat:=61
abbrev dF.id:Nat:=68
abbrev ek.id:Nat:=71
abbrev lY.id:Nat:=72
abbrev bt.id:Nat:=73
abbrev ck.id:Nat:=74
abbrev bG.id:Nat:=75
abbrev iy.id:Nat:=76
abbrev bp.id:Nat:=77
abbrev cY.id:Nat:=78
abbrev cC.id:Nat:=80
abbrev aW.id:Nat:=81
abbrev dU.id:Nat:=82
abbrev ak.id:Nat:=83
abbrev aD.id:Nat:=84
abbrev gQ.id:Nat:=85
abbrev aw.id:Nat:=86
abbrev jU.id:Nat:=87
abbrev br.id:Nat:=88
abbrev ft.id:Nat:=89
abbrev fM.id:Nat:=90
abbrev fu.id:Nat:=94
abbrev dY.id:Nat:=95
abbrev cK.id:Nat:=96
abbrev gI.id:Nat:=97
abbrev bits_Len.id:Nat:=98
abbrev aj.id:Nat:=99
abbrev dz.id:Nat:=102
abbrev dX.id:Nat:=104
abbrev bH.id:Nat:=106
abbrev dA.id:Nat:=107
abbrev cQ.id:Nat:=108
abbrev fL.id:Nat:=109
abbrev aJ.id:Nat:=110
abbrev aQ.id:Nat:=111
abbrev ah.id:Nat:=112
abbrev dg.id:Nat:=113
abbrev bU.id:Nat:=114
abbrev aY.id:Nat:=115
abbrev ct.id:Nat:=116
abbrev e8.id:Nat:=117
abbrev bA.id:Nat:=118
abbrev dh.id:Nat:=119
abbrev gm.id:Nat:=120
abbrev dG.id:Nat:=121
abbrev mP.id:Nat:=122
abbrev eT.id:Nat:=123
abbrev fU.id:Nat:=124
abbrev dw.id:Nat:=125
abbrev fp.id:Nat:=126
abbrev iT.id:Nat:=127
abbrev jQ.id:Nat:=128
abbrev iU.id:Nat:=129
abbrev jr.id:Nat:=130
abbrev iW.id:Nat:=131
abbrev gU.id:Nat:=132
abbrev jC.id:Nat:=134
abbrev bits_Len64.id:Nat:=136
abbrev aE.id:Nat:=137
abbrev gX.id:Nat:=138
abbrev aK.id:Nat:=140
abbrev aV.id:Nat:=141
abbrev fD.id:Nat:=142
abbrev cf.id:Nat:=143
abbrev eA.id:Nat:=145
abbrev bK.id:Nat:=146
abbrev gk.id:Nat:=147
abbrev fJ.id:Nat:=148
abbrev fK.id:Nat:=149
abbrev ax.id:Nat:=150
abbrev iB.id:Nat:=151
abbrev jP.id:Nat:=152
abbrev oX.id:Nat:=154
abbrev ki.id:Nat:=156
abbrev aH.id:Nat:=158
abbrev bits_TrailingZeros64.id:Nat:=159
abbrev bz.id:Nat:=160
abbrev bits_Mul64.id:Nat:=161
abbrev aZ.id:Nat:=162
abbrev kh.id:Nat:=163
abbrev bits_LeadingZeros64.id:Nat:=164
noncomputable abbrev af.fn:Func:=f19
noncomputable abbrev ak.fn:Func:=f83
noncomputable abbrev ax.fn:Func:=f150
noncomputable abbrev aZ.fn:Func:=f162
theorem bp.at_:prog.funcs[(77:Nat)]? =some f77:=func77
theorem dz.at_:prog.funcs[(102:Nat)]? =some f102:=func102
theorem bU.at_:prog.funcs[(114:Nat)]? =some f114:=func114
theorem ct.at_:prog.funcs[(116:Nat)]? =some f116:=func116
theorem aE.at_:prog.funcs[(137:Nat)]? =some f137:=func137
theorem aV.at_:prog.funcs[(141:Nat)]? =some f141:=func141
theorem tP.at_:prog.funcs[(157:Nat)]? =some f157:=func157
theorem aH.at_:prog.funcs[(158:Nat)]? =some f158:=func158
theorem ng:NG prog:=by
 have h:(prog.funcs.toList.all fun f=> !(f.name== "runtime.NumGoroutine"))=true:=by kernel_rfl
 intro g fn hf;rw [List.all_eq_true]at h;have:=h fn (by simpa using Array.mem_of_getElem? hf);simpa using this
theorem mix:prog.follows .mixedOrders=true:=by kernel_rfl
theorem rqq{C:List Nat}{f:FuncId}{fn:Func}{args:List Value}{w:World}{K:Value->World->Prop}{W:Prop}(hf:prog.funcs[f]? =some fn)(h:W)(hb:fn.body=some (body fn):=by kernel_rfl)(hn:(Nat.ble args.length fn.ntmps&&Nat.ble fn.ntmps gz)=true:=by kernel_rfl)(hs:aU none [] prog fn.ntmps C (body fn) (aR fn) (bO prog fn K) (ou args 0) w=W:=by kernel_rfl):bk prog f args.toArray w K:=ER ng mix hf hb hn hs h
def bY.k:List Nat:= []
def bY.q1(K:KT):aN:=(aM 0 (b6 (sR (sR (sR (body f17))))++(aR f17)) (bT (fun bX w_=>match cutAt bY.k (sR (sR (sR (body f17))))with|true=>Holds none [] prog 26 (sR (sR (sR (body f17)))) (bO prog f17 K) bX w_|false=>aU none [] prog 26 bY.k (sR (sR (sR (body f17)))) (aR f17) (bO prog f17 K) bX w_) (bO prog f17 K)))
def bY.e1(a:OA)(b c:Nat)(d:OA)(e f:Nat)(s:Bool×Int):Env:= [(0,.slice a b c),(1,.slice d e f),(4,.bool s.1),(5,.int .i64 s.2)]
def bY.u1:List Nat:= [0,1,4,5]
section
variable(a:OA)(b d:Nat)(e:OA)(f g:Nat)(K:KT)(w:World)
def bY.W:Prop:=
 Split ((b:Int) != (f:Int)) (K (.bool false) w) (Holds none [] prog 26 (.loop (lB (bB (sR (sL (sR (sR (body f17)))))))) (bY.q1 K) [(0,.slice a b d),(1,.slice e f g),(4,.bool false),(5,.int .i64 0)] w)
variable{a b d e f g K w}
theorem bY.of(h:bY.W a b d e f g K w):bk prog 17 #[.slice a b d,.slice e f g] w K:=
 rqq func17 (C:=bY.k) h
end
section
variable(a:OA)(b c:Nat)(d:OA)(e f:Nat)(g:Bool)(i:Int)(Q:aN)(w:World)
def bY.B1:Prop:=
 Split (decide (i<(b:Int))) (let j:=w.drew;(0<=i/\i<(b:Int))/\Is a fun k:Addr=>∃m:AV,(m.size=32/\Cells j (k.add (i.toNat*32)) m)/\(0<=i/\i<(e:Int))/\Is d fun n:Addr=>∃o:AV,(o.size=32/\Cells j (n.add (i.toNat*32)) o)/\(dL .u8 32 m/\dL .u8 32 o)/\Split (!(eU m o)) (Q .ret [(0,.slice a b c),(1,.slice d e f),(4,.bool false),(5,.int .i64 i)] j) (Q .normal [(0,.slice a b c),(1,.slice d e f),(4,.bool g),(5,.int .i64 (i64.wrap (i+(1:Int))))] j)) (Q (.exit 0) [(0,.slice a b c),(1,.slice d e f),(4,.bool g),(5,.int .i64 i)] w)
theorem bY.b1:(aU none [] prog 26 bY.k (lB (bB (sR (sL (sR (sR (body f17))))))) bY.u1 Q [(0,.slice a b c),(1,.slice d e f),(4,.bool g),(5,.int .i64 i)] w)=bY.B1 a b c d e f g i Q w:=by kernel_rfl
variable{a b c d e f}
theorem bY.b9(I:Bool×Int->World->Prop)(μ:Bool×Int->World->Nat)(s:Bool×Int){Q:aN}{w:World}(h0:I s w)
 (round:∀s w,I s w->bY.B1 a b c d e f (s.1) (s.2) (bL (bY.e1 a b c d e f) I μ s w Q) w):Holds none [] prog 26 (.loop (lB (bB (sR (sL (sR (sR (body f17)))))))) Q (bY.e1 a b c d e f s) w:=
 a7 ng mix (bY.e1 a b c d e f) I μ bY.k bY.u1 s (fun s Q w=>bY.B1 a b c d e f (s.1) (s.2) Q w) (fun s Q w=>bY.b1 a b c d e f (s.1) (s.2) Q w) h0 round
end
section
def bY.cH(a:OA)(b c:Nat)(d:OA)(e f:Nat)(g:Bool)(i:Int)(K:KT)(w:World):Prop:=
 K (.bool true) w
variable(a:OA)(b c:Nat)(d:OA)(e f:Nat)(g:Bool)(i:Int)(K:KT)(w:World)
theorem bY.df:(bY.q1 K (.exit 0) [(0,.slice a b c),(1,.slice d e f),(4,.bool g),(5,.int .i64 i)] w)=bY.cH a b c d e f g i K w:=by kernel_rfl
end
def aL.k:List Nat:= []
def aL.q1(K:KT):aN:=(aM 0 (b6 (sR (sR (sR (body Tryz.f27))))++(aR Tryz.f27)) (bT (fun bX w_=>match cutAt aL.k (sR (sR (sR (body Tryz.f27))))with|true=>Holds none [] prog 56 (sR (sR (sR (body Tryz.f27)))) (bO prog Tryz.f27 K) bX w_|false=>aU none [] prog 56 aL.k (sR (sR (sR (body Tryz.f27)))) (aR Tryz.f27) (bO prog Tryz.f27 K) bX w_) (bO prog Tryz.f27 K)))
def aL.e1(a:OA)(b c:Nat)(d:OA)(e f:Nat)(s:(OA)×Nat×Nat×Int):Env:= [(0,.slice a b c),(2,.slice d e f),(3,.slice s.1 s.2.1 s.2.2.1),(4,.int .i64 s.2.2.2)]
def aL.u1:List Nat:= [0,2,3,4]
def aL.q2(Q:aN):aN:=(aM 2 (b6 (sR (sR (sR (bB (sL (sR (lB (bB (sR (sL (sR (sR (body Tryz.f27)))))))))))))++(b6 (sR (sR (lB (bB (sR (sL (sR (sR (body Tryz.f27)))))))))++aL.u1)) (bT (fun bX w_=>match cutAt aL.k (sR (sR (sR (bB (sL (sR (lB (bB (sR (sL (sR (sR (body Tryz.f27)))))))))))))with|true=>Holds none [] prog 56 (sR (sR (sR (bB (sL (sR (lB (bB (sR (sL (sR (sR (body Tryz.f27))))))))))))) (aM 1 (b6 (sR (sR (lB (bB (sR (sL (sR (sR (body Tryz.f27)))))))))++aL.u1) (bT (fun bX w_=>match cutAt aL.k (sR (sR (lB (bB (sR (sL (sR (sR (body Tryz.f27)))))))))with|true=>Holds none [] prog 56 (sR (sR (lB (bB (sR (sL (sR (sR (body Tryz.f27))))))))) Q bX w_|false=>aU none [] prog 56 aL.k (sR (sR (lB (bB (sR (sL (sR (sR (body Tryz.f27))))))))) aL.u1 Q bX w_) Q)) bX w_|false=>aU none [] prog 56 aL.k (sR (sR (sR (bB (sL (sR (lB (bB (sR (sL (sR (sR (body Tryz.f27))))))))))))) (b6 (sR (sR (lB (bB (sR (sL (sR (sR (body Tryz.f27)))))))))++aL.u1) (aM 1 (b6 (sR (sR (lB (bB (sR (sL (sR (sR (body Tryz.f27)))))))))++aL.u1) (bT (fun bX w_=>match cutAt aL.k (sR (sR (lB (bB (sR (sL (sR (sR (body Tryz.f27)))))))))with|true=>Holds none [] prog 56 (sR (sR (lB (bB (sR (sL (sR (sR (body Tryz.f27))))))))) Q bX w_|false=>aU none [] prog 56 aL.k (sR (sR (lB (bB (sR (sL (sR (sR (body Tryz.f27))))))))) aL.u1 Q bX w_) Q)) bX w_) (aM 1 (b6 (sR (sR (lB (bB (sR (sL (sR (sR (body Tryz.f27)))))))))++aL.u1) (bT (fun bX w_=>match cutAt aL.k (sR (sR (lB (bB (sR (sL (sR (sR (body Tryz.f27)))))))))with|true=>Holds none [] prog 56 (sR (sR (lB (bB (sR (sL (sR (sR (body Tryz.f27))))))))) Q bX w_|false=>aU none [] prog 56 aL.k (sR (sR (lB (bB (sR (sL (sR (sR (body Tryz.f27))))))))) aL.u1 Q bX w_) Q))))
def aL.e2(a:OA)(b c:Nat)(d:OA)(e f:Nat)(g:OA)(i j:Nat)(k s:Int):Env:= [(0,.slice a b c),(2,.slice d e f),(3,.slice g i j),(4,.int .i64 k),(5,.int .i64 s)]
def aL.u2:List Nat:= [0,2,3,4,5]
section
variable(a:OA)(b d:Nat)(K:KT)(w:World)
def aL.W:Prop:=
 Holds none [] prog 56 (.loop (lB (bB (sR (sL (sR (sR (body Tryz.f27)))))))) (aL.q1 K) [(0,.slice a b d),(2,.slice none 0 0),(3,.slice none 0 0),(4,.int .i64 0)] w
variable{a b d K w}
theorem aL.of(h:aL.W a b d K w):bk prog 27 #[.slice a b d] w K:=
 rqq func27 (C:=aL.k) h
end
section
variable(a:OA)(b c:Nat)(d:OA)(e f:Nat)(g:OA)(i j:Nat)(k:Int)(Q:aN)(w:World)
def aL.B1:Prop:=
 Split (decide (k<(b:Int))) ((0<=k/\k<(b:Int))/\Is a fun m:Addr=>∃n:AV,(n.size=32/\Cells w (m.add (k.toNat*32)) n)/\bk prog 38 #[.slice g i j,.agg n] w fun o p=>∃q:Bool,o=.bool q/\Split q (Q .normal [(0,.slice a b c),(2,.slice d e f),(3,.slice g i j),(4,.int .i64 (i64.wrap (k+(1:Int))))] p) (Holds none [] prog 56 (.loop (lB (bB (sL (sR (sR (bB (sL (sR (lB (bB (sR (sL (sR (sR (body Tryz.f27)))))))))))))))) (aL.q2 Q) [(0,.slice a b c),(2,.slice d e f),(3,.slice g i j),(4,.int .i64 k),(5,.int .i64 (i:Int))] p)) (Q (.exit 0) [(0,.slice a b c),(2,.slice d e f),(3,.slice g i j),(4,.int .i64 k)] w)
theorem aL.b1:(aU none [] prog 56 aL.k (lB (bB (sR (sL (sR (sR (body Tryz.f27))))))) aL.u1 Q [(0,.slice a b c),(2,.slice d e f),(3,.slice g i j),(4,.int .i64 k)] w)=aL.B1 a b c d e f g i j k Q w:=by kernel_rfl
variable{a b c d e f}
theorem aL.b9(I:(OA)×Nat×Nat×Int->World->Prop)(μ:(OA)×Nat×Nat×Int->World->Nat)(s:(OA)×Nat×Nat×Int){Q:aN}{w:World}(h0:I s w)
 (round:∀s w,I s w->aL.B1 a b c d e f (s.1) (s.2.1) (s.2.2.1) (s.2.2.2) (bL (aL.e1 a b c d e f) I μ s w Q) w):Holds none [] prog 56 (.loop (lB (bB (sR (sL (sR (sR (body Tryz.f27)))))))) Q (aL.e1 a b c d e f s) w:=
 a7 ng mix (aL.e1 a b c d e f) I μ aL.k aL.u1 s (fun s Q w=>aL.B1 a b c d e f (s.1) (s.2.1) (s.2.2.1) (s.2.2.2) Q w) (fun s Q w=>aL.b1 a b c d e f (s.1) (s.2.1) (s.2.2.1) (s.2.2.2) Q w) h0 round
end
section
def aL.cH(a:OA)(b c:Nat)(d:OA)(e f:Nat)(g:OA)(i j:Nat)(k:Int)(K:KT)(w:World):Prop:=
 K (.slice g i j) w
variable(a:OA)(b c:Nat)(d:OA)(e f:Nat)(g:OA)(i j:Nat)(k:Int)(K:KT)(w:World)
theorem aL.df:(aL.q1 K (.exit 0) [(0,.slice a b c),(2,.slice d e f),(3,.slice g i j),(4,.int .i64 k)] w)=aL.cH a b c d e f g i j k K w:=by kernel_rfl
end
section
variable(a:OA)(b c:Nat)(d:OA)(e f:Nat)(g:OA)(i j:Nat)(k m:Int)(Q:aN)(w:World)
def aL.B2:Prop:=
 let n:=w.drew;Split (decide (m>(0:Int))) ((0<=k/\k<(b:Int))/\Is a fun o:Addr=>∃p:AV,(p.size=32/\Cells n (o.add (k.toNat*32)) p)/\(0<=(i64.wrap (m-(1:Int)))/\(i64.wrap (m-(1:Int)))<(i:Int))/\Is g fun q:Addr=>∃r:AV,(r.size=32/\Cells n (q.add ((i64.wrap (m-(1:Int))).toNat*32)) r)/\bk prog 75 #[.agg p,.agg r] n fun t u=>∃v:Int,t=.int .i64 v/\Split (decide (v<(0:Int))) (Q .normal [(0,.slice a b c),(2,.slice d e f),(3,.slice g i j),(4,.int .i64 k),(5,.int .i64 (i64.wrap (m-(1:Int))))] u) (Q (.exit 2) [(0,.slice a b c),(2,.slice d e f),(3,.slice g i j),(4,.int .i64 k),(5,.int .i64 m)] u)) (Q (.exit 2) [(0,.slice a b c),(2,.slice d e f),(3,.slice g i j),(4,.int .i64 k),(5,.int .i64 m)] n)
theorem aL.b2:(aU none [] prog 56 aL.k (lB (bB (sL (sR (sR (bB (sL (sR (lB (bB (sR (sL (sR (sR (body Tryz.f27))))))))))))))) aL.u2 Q [(0,.slice a b c),(2,.slice d e f),(3,.slice g i j),(4,.int .i64 k),(5,.int .i64 m)] w)=aL.B2 a b c d e f g i j k m Q w:=by kernel_rfl
variable{a b c d e f g i j k}
theorem aL.gC(I:Int->World->Prop)(μ:Int->World->Nat)(s:Int){Q:aN}{w:World}(h0:I s w)
 (round:∀s w,I s w->aL.B2 a b c d e f g i j k s (bL (aL.e2 a b c d e f g i j k) I μ s w Q) w):Holds none [] prog 56 (.loop (lB (bB (sL (sR (sR (bB (sL (sR (lB (bB (sR (sL (sR (sR (body Tryz.f27)))))))))))))))) Q (aL.e2 a b c d e f g i j k s) w:=
 a7 ng mix (aL.e2 a b c d e f g i j k) I μ aL.k aL.u2 s (fun s Q w=>aL.B2 a b c d e f g i j k s Q w) (fun s Q w=>aL.b2 a b c d e f g i j k s Q w) h0 round
end
section
variable(a:OA)(b c:Nat)(d:OA)(e f:Nat)(g:OA)(i j:Nat)(k m:Int)(Q:aN)(w:World)
def aL.ik:Prop:=
 (0<=m/\m<=(j:Int))/\∃(n:OA) (o p:Nat) (q:World),(Builtin.append_ #[33,33] 33 #[.slice none 0 0,.slice (if j=0 then g else g.map (·.add (0*32))) (m.toNat-0) (j-0)]).run prog w=.ok (.slice n o p) q/\(0<=k/\k<(b:Int))/\Is a fun r:Addr=>∃t:AV,(t.size=32/\Cells q (r.add (k.toNat*32)) t)/\t.size=32/\let u:=q.alloc (.cells (t.toList++ []).toArray 24);∃(v:OA) (x y:Nat) (z:World),(Builtin.append_ #[33,33] 33 #[.slice n o p,.slice (some (⟨q.heap.size,0,none⟩:Addr)) 1 1]).run prog u=.ok (.slice v x y) z/\(0<=m/\m<=(i:Int))/\∃(a1:OA) (b1 c1:Nat) (d1:World),(Builtin.append_ #[33,33] 33 #[.slice v x y,.slice (if j=m.toNat then g else g.map (·.add (m.toNat*32))) (i-m.toNat) (j-m.toNat)]).run prog z=.ok (.slice a1 b1 c1) d1/\Q .normal [(0,.slice a b c),(2,.slice d e f),(3,.slice a1 b1 c1),(4,.int .i64 (i64.wrap (k+(1:Int))))] d1
theorem aL.jA:(aL.q2 Q (.exit 2) [(0,.slice a b c),(2,.slice d e f),(3,.slice g i j),(4,.int .i64 k),(5,.int .i64 m)] w)=aL.ik a b c d e f g i j k m Q w:=by kernel_rfl
end
def cF.k:List Nat:= []
def cF.q1(K:KT):aN:=(aM 0 (b6 (sR (sR (body f38)))++(aR f38)) (bT (fun bX w_=>match cutAt cF.k (sR (sR (body f38)))with|true=>Holds none [] prog 18 (sR (sR (body f38))) (bO prog f38 K) bX w_|false=>aU none [] prog 18 cF.k (sR (sR (body f38))) (aR f38) (bO prog f38 K) bX w_) (bO prog f38 K)))
def cF.e1(a:OA)(b c:Nat)(d:Addr)(s:Bool×Int):Env:= [(0,.slice a b c),(3,.pointer (some d)),(4,.bool s.1),(5,.int .i64 s.2)]
def cF.u1:List Nat:= [0,3,4,5]
section
variable(a:OA)(b d:Nat)(e:AV)(K:KT)(w:World)
def cF.W:Prop:=
 let f:=w.alloc (.cells e 24);Holds none [] prog 18 (.loop (lB (bB (sR (sL (sR (body f38))))))) (cF.q1 K) [(0,.slice a b d),(3,.pointer (some (⟨w.heap.size,0,none⟩:Addr))),(4,.bool false),(5,.int .i64 0)] f
variable{a b d e K w}
theorem cF.of(h:cF.W a b d e K w):bk prog 38 #[.slice a b d,.agg e] w K:=
 rqq func38 (C:=cF.k) h
end
section
variable(a:OA)(b c:Nat)(d:Addr)(e:Bool)(f:Int)(Q:aN)(w:World)
def cF.B1:Prop:=
 Split (decide (f<(b:Int))) (let g:=w.drew;(0<=f/\f<(b:Int))/\Is a fun i:Addr=>∃j:AV,(j.size=32/\Cells g (i.add (f.toNat*32)) j)/\∃k:AV,(k.size=32/\Cells g d k)/\(dL .u8 32 j/\dL .u8 32 k)/\Split (eU j k) (Q .ret [(0,.slice a b c),(3,.pointer (some d)),(4,.bool true),(5,.int .i64 f)] g) (Q .normal [(0,.slice a b c),(3,.pointer (some d)),(4,.bool e),(5,.int .i64 (i64.wrap (f+(1:Int))))] g)) (Q (.exit 0) [(0,.slice a b c),(3,.pointer (some d)),(4,.bool e),(5,.int .i64 f)] w)
theorem cF.b1:(aU none [] prog 18 cF.k (lB (bB (sR (sL (sR (body f38)))))) cF.u1 Q [(0,.slice a b c),(3,.pointer (some d)),(4,.bool e),(5,.int .i64 f)] w)=cF.B1 a b c d e f Q w:=by kernel_rfl
variable{a b c d}
theorem cF.b9(I:Bool×Int->World->Prop)(μ:Bool×Int->World->Nat)(s:Bool×Int){Q:aN}{w:World}(h0:I s w)
 (round:∀s w,I s w->cF.B1 a b c d (s.1) (s.2) (bL (cF.e1 a b c d) I μ s w Q) w):Holds none [] prog 18 (.loop (lB (bB (sR (sL (sR (body f38))))))) Q (cF.e1 a b c d s) w:=
 a7 ng mix (cF.e1 a b c d) I μ cF.k cF.u1 s (fun s Q w=>cF.B1 a b c d (s.1) (s.2) Q w) (fun s Q w=>cF.b1 a b c d (s.1) (s.2) Q w) h0 round
end
section
def cF.cH(a:OA)(b c:Nat)(d:Addr)(e:Bool)(f:Int)(K:KT)(w:World):Prop:=
 K (.bool false) w
variable(a:OA)(b c:Nat)(d:Addr)(e:Bool)(f:Int)(K:KT)(w:World)
theorem cF.df:(cF.q1 K (.exit 0) [(0,.slice a b c),(3,.pointer (some d)),(4,.bool e),(5,.int .i64 f)] w)=cF.cH a b c d e f K w:=by kernel_rfl
end
def gv.k:List Nat:= []
section
variable(a:OA)(b:AV)(K:KT)(w:World)
def gv.W:Prop:=
 let d:=w.alloc (.cells b 24);∃e:AV,(e.size=32/\Cells d (⟨w.heap.size,0,none⟩:Addr) e)/\bk prog 90 #[.pointer a,.agg e] d fun f g=>∃i:OA,f=.pointer i/\K (.bool (!(i).isNone)) g
variable{a b K w}
theorem gv.of(h:gv.W a b K w):bk prog 47 #[.pointer a,.agg b] w K:=
 rqq func47 (C:=gv.k) h
end
def bG.k:List Nat:= []
def bG.q1(K:KT):aN:=(aM 0 (b6 (sR (sR (body f75)))++(aR f75)) (bT (fun bX w_=>match cutAt bG.k (sR (sR (body f75)))with|true=>Holds none [] prog 24 (sR (sR (body f75))) (bO prog f75 K) bX w_|false=>aU none [] prog 24 bG.k (sR (sR (body f75))) (aR f75) (bO prog f75 K) bX w_) (bO prog f75 K)))
def bG.e1(a b:Addr)(s:Int×Int):Env:= [(2,.pointer (some a)),(3,.pointer (some b)),(4,.int .i64 s.1),(5,.int .i64 s.2)]
def bG.u1:List Nat:= [2,3,4,5]
section
variable(a b:AV)(K:KT)(w:World)
def bG.W:Prop:=
 let d:=w.alloc (.cells a 24);let e:=d.alloc (.cells b 24);Holds none [] prog 24 (.loop (lB (bB (sR (sL (sR (body f75))))))) (bG.q1 K) [(2,.pointer (some (⟨w.heap.size,0,none⟩:Addr))),(3,.pointer (some (⟨d.heap.size,0,none⟩:Addr))),(4,.int .i64 0),(5,.int .i64 0)] e
variable{a b K w}
theorem bG.of(h:bG.W a b K w):bk prog 75 #[.agg a,.agg b] w K:=
 rqq func75 (C:=bG.k) h
end
section
variable(a b:Addr)(c d:Int)(Q:aN)(w:World)
def bG.B1:Prop:=
 Split (decide (d<(32:Int))) (let e:=w.drew;(0<=d/\d<(32:Int))/\∃f:Int,e.cell? (a.add (d.toNat*1))=some (.int .u8 f)/\(0<=d/\d<(32:Int))/\∃g:Int,e.cell? (b.add (d.toNat*1))=some (.int .u8 g)/\Split (decide (f<g)) (Q .ret [(2,.pointer (some a)),(3,.pointer (some b)),(4,.int .i64 (-1)),(5,.int .i64 d)] e) (let i:=e.drew;(0<=d/\d<(32:Int))/\∃j:Int,i.cell? (a.add (d.toNat*1))=some (.int .u8 j)/\(0<=d/\d<(32:Int))/\∃k:Int,i.cell? (b.add (d.toNat*1))=some (.int .u8 k)/\Split (decide (j>k)) (Q .ret [(2,.pointer (some a)),(3,.pointer (some b)),(4,.int .i64 1),(5,.int .i64 d)] i) (Q .normal [(2,.pointer (some a)),(3,.pointer (some b)),(4,.int .i64 c),(5,.int .i64 (i64.wrap (d+(1:Int))))] i))) (Q (.exit 0) [(2,.pointer (some a)),(3,.pointer (some b)),(4,.int .i64 c),(5,.int .i64 d)] w)
theorem bG.b1:(aU none [] prog 24 bG.k (lB (bB (sR (sL (sR (body f75)))))) bG.u1 Q [(2,.pointer (some a)),(3,.pointer (some b)),(4,.int .i64 c),(5,.int .i64 d)] w)=bG.B1 a b c d Q w:=by kernel_rfl
variable{a b}
theorem bG.b9(I:Int×Int->World->Prop)(μ:Int×Int->World->Nat)(s:Int×Int){Q:aN}{w:World}(h0:I s w)
 (round:∀s w,I s w->bG.B1 a b (s.1) (s.2) (bL (bG.e1 a b) I μ s w Q) w):Holds none [] prog 24 (.loop (lB (bB (sR (sL (sR (body f75))))))) Q (bG.e1 a b s) w:=
 a7 ng mix (bG.e1 a b) I μ bG.k bG.u1 s (fun s Q w=>bG.B1 a b (s.1) (s.2) Q w) (fun s Q w=>bG.b1 a b (s.1) (s.2) Q w) h0 round
end
section
def bG.cH(a b:Addr)(c d:Int)(K:KT)(w:World):Prop:=
 K (.int .i64 0) w
variable(a b:Addr)(c d:Int)(K:KT)(w:World)
theorem bG.df:(bG.q1 K (.exit 0) [(2,.pointer (some a)),(3,.pointer (some b)),(4,.int .i64 c),(5,.int .i64 d)] w)=bG.cH a b c d K w:=by kernel_rfl
end
def fM.k:List Nat:= []
section
variable(a:OA)(b:AV)(K:KT)(w:World)
def fM.W:Prop:=
 let d:=w.alloc (.cells b 24);bk prog 124 #[.pointer a] d fun e f=>∃g:Bool,e=.bool g/\Split g (let i:=f.drew;Is a fun j:Addr=>∃k:Option Nat,i.cell? (j.add 1)=some (.map k)/\∃m:AV,(m.size=32/\Cells i (⟨w.heap.size,0,none⟩:Addr) m)/\∃n:Int,∃o:Bool,(Instr.lookup 127 (.map k) (.agg m) true).run prog i=.ok (.tuple #[.int .i64 n,.bool o]) i/\Split o (Is a fun p:Addr=>∃q:OA,∃r t:Nat,i.cell? (p.add 0)=some (.slice q r t)/\(0<=n/\n<(r:Int))/\Is q fun u:Addr=>∃v:OA,i.cell? (u.add (n.toNat*1))=some (.pointer v)/\K (.pointer v) i) (K (.pointer none) i)) (K (.pointer none) f)
variable{a b K w}
theorem fM.of(h:fM.W a b K w):bk prog 90 #[.pointer a,.agg b] w K:=
 rqq func90 (C:=fM.k) h
end
section
variable(a:Int)(b:OA)(K:KT)(w:World)
variable{a b K w}
end
def aj.k:List Nat:= []
def aj.q1(K:KT):aN:=(aM 0 (b6 (sR (sR (sR (body f99))))++(aR f99)) (bT (fun bX w_=>match cutAt aj.k (sR (sR (sR (body f99))))with|true=>Holds none [] prog 61 (sR (sR (sR (body f99)))) (bO prog f99 K) bX w_|false=>aU none [] prog 61 aj.k (sR (sR (sR (body f99)))) (aR f99) (bO prog f99 K) bX w_) (bO prog f99 K)))
def aj.e1(a:OA)(b c:Nat)(s:(OA)×Nat×Nat×Int):Env:= [(0,.slice a b c),(2,.slice s.1 s.2.1 s.2.2.1),(3,.int .i64 s.2.2.2)]
def aj.u1:List Nat:= [0,2,3]
def aj.q2(Q:aN):aN:=(aM 2 (b6 (sR (sR (cT (sR (bB (sL (sR (lB (bB (sR (sL (sR (sR (body f99))))))))))))))++(b6 (sR (sR (lB (bB (sR (sL (sR (sR (body f99)))))))))++aj.u1)) (bT (fun bX w_=>match cutAt aj.k (sR (sR (cT (sR (bB (sL (sR (lB (bB (sR (sL (sR (sR (body f99))))))))))))))with|true=>Holds none [] prog 61 (sR (sR (cT (sR (bB (sL (sR (lB (bB (sR (sL (sR (sR (body f99)))))))))))))) (aM 1 (b6 (sR (sR (lB (bB (sR (sL (sR (sR (body f99)))))))))++aj.u1) (bT (fun bX w_=>match cutAt aj.k (sR (sR (lB (bB (sR (sL (sR (sR (body f99)))))))))with|true=>Holds none [] prog 61 (sR (sR (lB (bB (sR (sL (sR (sR (body f99))))))))) Q bX w_|false=>aU none [] prog 61 aj.k (sR (sR (lB (bB (sR (sL (sR (sR (body f99))))))))) aj.u1 Q bX w_) Q)) bX w_|false=>aU none [] prog 61 aj.k (sR (sR (cT (sR (bB (sL (sR (lB (bB (sR (sL (sR (sR (body f99)))))))))))))) (b6 (sR (sR (lB (bB (sR (sL (sR (sR (body f99)))))))))++aj.u1) (aM 1 (b6 (sR (sR (lB (bB (sR (sL (sR (sR (body f99)))))))))++aj.u1) (bT (fun bX w_=>match cutAt aj.k (sR (sR (lB (bB (sR (sL (sR (sR (body f99)))))))))with|true=>Holds none [] prog 61 (sR (sR (lB (bB (sR (sL (sR (sR (body f99))))))))) Q bX w_|false=>aU none [] prog 61 aj.k (sR (sR (lB (bB (sR (sL (sR (sR (body f99))))))))) aj.u1 Q bX w_) Q)) bX w_) (aM 1 (b6 (sR (sR (lB (bB (sR (sL (sR (sR (body f99)))))))))++aj.u1) (bT (fun bX w_=>match cutAt aj.k (sR (sR (lB (bB (sR (sL (sR (sR (body f99)))))))))with|true=>Holds none [] prog 61 (sR (sR (lB (bB (sR (sL (sR (sR (body f99))))))))) Q bX w_|false=>aU none [] prog 61 aj.k (sR (sR (lB (bB (sR (sL (sR (sR (body f99))))))))) aj.u1 Q bX w_) Q))))
def aj.e2(a:OA)(b c:Nat)(d:OA)(e f:Nat)(g:OA)(i j:Nat)(s:Int×Int):Env:= [(0,.slice a b c),(2,.slice d e f),(3,.int .i64 s.1),(4,.slice g i j),(5,.int .i64 s.2)]
def aj.u2:List Nat:= [0,2,3,4,5]
section
variable(a:OA)(b d:Nat)(K:KT)(w:World)
def aj.W:Prop:=
 Split (decide ((b:Int)<(2:Int))) (K (.slice a b d) w) (Holds none [] prog 61 (.loop (lB (bB (sR (sL (sR (sR (body f99)))))))) (aj.q1 K) [(0,.slice a b d),(2,.slice none 0 0),(3,.int .i64 1)] w)
variable{a b d K w}
theorem aj.of(h:aj.W a b d K w):bk prog 99 #[.slice a b d] w K:=
 rqq func99 (C:=aj.k) h
end
section
variable(a:OA)(b c:Nat)(d:OA)(e f:Nat)(g:Int)(Q:aN)(w:World)
def aj.B1:Prop:=
 Split (decide (g<(b:Int))) (let i:=w.drew;(0<=g/\g<(b:Int))/\Is a fun j:Addr=>∃k:AV,(k.size=32/\Cells i (j.add (g.toNat*32)) k)/\(0<=(i64.wrap (g-(1:Int)))/\(i64.wrap (g-(1:Int)))<(b:Int))/\Is a fun m:Addr=>∃n:AV,(n.size=32/\Cells i (m.add ((i64.wrap (g-(1:Int))).toNat*32)) n)/\(dL .u8 32 k/\dL .u8 32 n)/\Split (eU k n) ((0<=g/\g<=(b:Int))/\Holds none [] prog 61 (.loop (lB (bB (sR (sL (sR (cT (sR (bB (sL (sR (lB (bB (sR (sL (sR (sR (body f99)))))))))))))))))) (aj.q2 Q) [(0,.slice a b c),(2,.slice d e f),(3,.int .i64 g),(4,.slice (if c=g.toNat then a else a.map (·.add (g.toNat*32))) (b-g.toNat) (c-g.toNat)),(5,.int .i64 1)] i) (Q .normal [(0,.slice a b c),(2,.slice d e f),(3,.int .i64 (i64.wrap (g+(1:Int))))] i)) (Q (.exit 0) [(0,.slice a b c),(2,.slice d e f),(3,.int .i64 g)] w)
theorem aj.b1:(aU none [] prog 61 aj.k (lB (bB (sR (sL (sR (sR (body f99))))))) aj.u1 Q [(0,.slice a b c),(2,.slice d e f),(3,.int .i64 g)] w)=aj.B1 a b c d e f g Q w:=by kernel_rfl
variable{a b c}
theorem aj.b9(I:(OA)×Nat×Nat×Int->World->Prop)(μ:(OA)×Nat×Nat×Int->World->Nat)(s:(OA)×Nat×Nat×Int){Q:aN}{w:World}(h0:I s w)
 (round:∀s w,I s w->aj.B1 a b c (s.1) (s.2.1) (s.2.2.1) (s.2.2.2) (bL (aj.e1 a b c) I μ s w Q) w):Holds none [] prog 61 (.loop (lB (bB (sR (sL (sR (sR (body f99)))))))) Q (aj.e1 a b c s) w:=
 a7 ng mix (aj.e1 a b c) I μ aj.k aj.u1 s (fun s Q w=>aj.B1 a b c (s.1) (s.2.1) (s.2.2.1) (s.2.2.2) Q w) (fun s Q w=>aj.b1 a b c (s.1) (s.2.1) (s.2.2.1) (s.2.2.2) Q w) h0 round
end
section
def aj.cH(a:OA)(b c:Nat)(d:OA)(e f:Nat)(g:Int)(K:KT)(w:World):Prop:=
 K (.slice a b c) w
variable(a:OA)(b c:Nat)(d:OA)(e f:Nat)(g:Int)(K:KT)(w:World)
theorem aj.df:(aj.q1 K (.exit 0) [(0,.slice a b c),(2,.slice d e f),(3,.int .i64 g)] w)=aj.cH a b c d e f g K w:=by kernel_rfl
end
section
variable(a:OA)(b c:Nat)(d:OA)(e f:Nat)(g:Int)(i:OA)(j k:Nat)(m:Int)(Q:aN)(w:World)
def aj.B2:Prop:=
 Split (decide (m<(j:Int))) (let n:=w.drew;(0<=m/\m<(j:Int))/\Is i fun o:Addr=>∃p:AV,(p.size=32/\Cells n (o.add (m.toNat*32)) p)/\(0<=(i64.wrap (m-(1:Int)))/\(i64.wrap (m-(1:Int)))<(j:Int))/\Is i fun q:Addr=>∃r:AV,(r.size=32/\Cells n (q.add ((i64.wrap (m-(1:Int))).toNat*32)) r)/\(dL .u8 32 p/\dL .u8 32 r)/\Split (!(eU p r)) ((0<=m/\m<(j:Int))/\Is i fun t:Addr=>∃u:AV,(u.size=32/\Cells n (t.add (m.toNat*32)) u)/\(0<=g/\g<(b:Int))/\Is a fun v:Addr=>(u.size=32/\(∀x∈u.toList,x.oneCell'=true)/\∀y,y<32->Wr n ((v.add (g.toNat*32)).add y))/\let z:=setCells n (v.add (g.toNat*32)) u.toList 0;Q .normal [(0,.slice a b c),(2,.slice d e f),(3,.int .i64 (i64.wrap (g+(1:Int)))),(4,.slice i j k),(5,.int .i64 (i64.wrap (m+(1:Int))))] z) (Q .normal [(0,.slice a b c),(2,.slice d e f),(3,.int .i64 g),(4,.slice i j k),(5,.int .i64 (i64.wrap (m+(1:Int))))] n)) (Q (.exit 2) [(0,.slice a b c),(2,.slice d e f),(3,.int .i64 g),(4,.slice i j k),(5,.int .i64 m)] w)
theorem aj.b2:(aU none [] prog 61 aj.k (lB (bB (sR (sL (sR (cT (sR (bB (sL (sR (lB (bB (sR (sL (sR (sR (body f99))))))))))))))))) aj.u2 Q [(0,.slice a b c),(2,.slice d e f),(3,.int .i64 g),(4,.slice i j k),(5,.int .i64 m)] w)=aj.B2 a b c d e f g i j k m Q w:=by kernel_rfl
variable{a b c d e f i j k}
theorem aj.gC(I:Int×Int->World->Prop)(μ:Int×Int->World->Nat)(s:Int×Int){Q:aN}{w:World}(h0:I s w)
 (round:∀s w,I s w->aj.B2 a b c d e f (s.1) i j k (s.2) (bL (aj.e2 a b c d e f i j k) I μ s w Q) w):Holds none [] prog 61 (.loop (lB (bB (sR (sL (sR (cT (sR (bB (sL (sR (lB (bB (sR (sL (sR (sR (body f99)))))))))))))))))) Q (aj.e2 a b c d e f i j k s) w:=
 a7 ng mix (aj.e2 a b c d e f i j k) I μ aj.k aj.u2 s (fun s Q w=>aj.B2 a b c d e f (s.1) i j k (s.2) Q w) (fun s Q w=>aj.b2 a b c d e f (s.1) i j k (s.2) Q w) h0 round
end
section
def aj.ik(a:OA)(b c:Nat)(d:OA)(e f:Nat)(g:Int)(i:OA)(j k:Nat)(m:Int)(Q:aN)(w:World):Prop:=
 (0<=g/\g<=(b:Int))/\∃(n:Value) (o:World),(Builtin.clear_ #[33] 0 #[.slice (if c=g.toNat then a else a.map (·.add (g.toNat*32))) (b-g.toNat) (c-g.toNat)]).run prog w=.ok n o/\(0<=g/\g<=(c:Int))/\Q .ret [(0,.slice a b c),(2,.slice (if c=0 then a else a.map (·.add (0*32))) (g.toNat-0) (c-0)),(3,.int .i64 g)] o
variable(a:OA)(b c:Nat)(d:OA)(e f:Nat)(g:Int)(i:OA)(j k:Nat)(m:Int)(Q:aN)(w:World)
theorem aj.jA:(aj.q2 Q (.exit 2) [(0,.slice a b c),(2,.slice d e f),(3,.int .i64 g),(4,.slice i j k),(5,.int .i64 m)] w)=aj.ik a b c d e f g i j k m Q w:=by kernel_rfl
end
def dz.k:List Nat:= []
section
variable(a b:AV)(K:KT)(w:World)
def dz.W:Prop:=
 let d:=w.alloc (.cells a 24);let e:=d.alloc (.cells b 24);let f:=e.drew;bk prog 138 #[.slice (some (if 32=0 then(⟨w.heap.size,0,none⟩:Addr)else(⟨w.heap.size,0,none⟩:Addr).add (0*1))) (32-0) (32-0),.slice (some (if 32=0 then(⟨d.heap.size,0,none⟩:Addr)else(⟨d.heap.size,0,none⟩:Addr).add (0*1))) (32-0) (32-0)] f fun g i=>∃j:Int,g=.int .i64 j/\K (.int .i64 j) i
variable{a b K w}
theorem dz.of(h:dz.W a b K w):bk prog 102 #[.agg a,.agg b] w K:=
 rqq func102 (C:=dz.k) h
end
def fU.k:List Nat:= []
section
variable(a:OA)(K:KT)(w:World)
def fU.W:Prop:=
 Split (!(a).isNone) (Is a fun b:Addr=>∃d:Option Nat,w.cell? (b.add 1)=some (.map d)/\K (.bool (!(d).isNone)) w) (K (.bool false) w)
variable{a K w}
theorem fU.of(h:fU.W a K w):bk prog 124 #[.pointer a] w K:=
 rqq func124 (C:=fU.k) h
end
def gX.k:List Nat:= []
section
variable(a:OA)(b d:Nat)(e:OA)(f g:Nat)(K:KT)(w:World)
def gX.W:Prop:=
 Eh prog 157 #[.slice a b d,.slice e f g] w fun i j=>∃k:Int,i=.int .i64 k/\K (.int .i64 k) j
variable{a b d e f g K w}
theorem gX.of(h:gX.W a b d e f g K w):bk prog 138 #[.slice a b d,.slice e f g] w K:=
 rqq func138 (C:=gX.k) h
end
def cf.k:List Nat:= []
def cf.q1(K:KT):aN:=(aM 0 (b6 (sR (sR (body f143)))++(aR f143)) (bT (fun bX w_=>match cutAt cf.k (sR (sR (body f143)))with|true=>Holds none [] prog 30 (sR (sR (body f143))) (bO prog f143 K) bX w_|false=>aU none [] prog 30 cf.k (sR (sR (body f143))) (aR f143) (bO prog f143 K) bX w_) (bO prog f143 K)))
def cf.e1(a:OA)(b c:Nat)(d:OA)(e f:Nat)(g:Int)(s:(OA)×Nat×Nat×Int):Env:= [(0,.slice s.1 s.2.1 s.2.2.1),(4,.slice a b c),(7,.slice d e f),(8,.int .i64 g),(9,.int .i64 s.2.2.2)]
def cf.u1:List Nat:= [0,4,7,8,9]
section
variable(a:OA)(b d:Nat)(e:OA)(f g:Nat)(K:KT)(w:World)
def cf.W:Prop:=
 Holds none [] prog 30 (.loop (lB (bB (sR (sL (sR (body f143))))))) (cf.q1 K) [(0,.slice a b d),(4,.slice none 0 0),(7,.slice e f g),(8,.int .i64 (f:Int)),(9,.int .i64 0)] w
variable{a b d e f g K w}
theorem cf.of(h:cf.W a b d e f g K w):bk prog 143 #[.slice a b d,.slice e f g] w K:=
 rqq func143 (C:=cf.k) h
end
section
variable(a:OA)(b c:Nat)(d:OA)(e f:Nat)(g:OA)(i j:Nat)(k m:Int)(Q:aN)(w:World)
def cf.B1:Prop:=
 Split (decide (m<k)) ((0<=m/\m<(i:Int))/\Is g fun n:Addr=>∃o:Int,w.cell? (n.add (m.toNat*1))=some (.int .u64 o)/\Split (m==(b:Int)) (let p:=w.alloc (.cells #[.int .u64 0] 22);∃(q:OA) (r t:Nat) (u:World),(Builtin.append_ #[143,143] 143 #[.slice a b c,.slice (some (⟨w.heap.size,0,none⟩:Addr)) 1 1]).run prog p=.ok (.slice q r t) u/\(0<=m/\m<(r:Int))/\Is q fun v:Addr=>∃x:Int,u.cell? (v.add (m.toNat*1))=some (.int .u64 x)/\(0<=m/\m<(r:Int))/\Is q fun y:Addr=>Wr u (y.add (m.toNat*1))/\let z:=u.setCell (y.add (m.toNat*1)) (.int .u64 (u64.wrap ((BitVec.ofInt 64 x|||BitVec.ofInt 64 o).toNat)));Q .normal [(0,.slice q r t),(4,.slice d e f),(7,.slice g i j),(8,.int .i64 k),(9,.int .i64 (i64.wrap (m+(1:Int))))] z) ((0<=m/\m<(b:Int))/\Is a fun a1:Addr=>∃b1:Int,w.cell? (a1.add (m.toNat*1))=some (.int .u64 b1)/\(0<=m/\m<(b:Int))/\Is a fun c1:Addr=>Wr w (c1.add (m.toNat*1))/\let d1:=w.setCell (c1.add (m.toNat*1)) (.int .u64 (u64.wrap ((BitVec.ofInt 64 b1|||BitVec.ofInt 64 o).toNat)));Q .normal [(0,.slice a b c),(4,.slice d e f),(7,.slice g i j),(8,.int .i64 k),(9,.int .i64 (i64.wrap (m+(1:Int))))] d1)) (Q (.exit 0) [(0,.slice a b c),(4,.slice d e f),(7,.slice g i j),(8,.int .i64 k),(9,.int .i64 m)] w)
theorem cf.b1:(aU none [] prog 30 cf.k (lB (bB (sR (sL (sR (body f143)))))) cf.u1 Q [(0,.slice a b c),(4,.slice d e f),(7,.slice g i j),(8,.int .i64 k),(9,.int .i64 m)] w)=cf.B1 a b c d e f g i j k m Q w:=by kernel_rfl
variable{d e f g i j k}
theorem cf.b9(I:(OA)×Nat×Nat×Int->World->Prop)(μ:(OA)×Nat×Nat×Int->World->Nat)(s:(OA)×Nat×Nat×Int){Q:aN}{w:World}(h0:I s w)
 (round:∀s w,I s w->cf.B1 (s.1) (s.2.1) (s.2.2.1) d e f g i j k (s.2.2.2) (bL (cf.e1 d e f g i j k) I μ s w Q) w):Holds none [] prog 30 (.loop (lB (bB (sR (sL (sR (body f143))))))) Q (cf.e1 d e f g i j k s) w:=
 a7 ng mix (cf.e1 d e f g i j k) I μ cf.k cf.u1 s (fun s Q w=>cf.B1 (s.1) (s.2.1) (s.2.2.1) d e f g i j k (s.2.2.2) Q w) (fun s Q w=>cf.b1 (s.1) (s.2.1) (s.2.2.1) d e f g i j k (s.2.2.2) Q w) h0 round
end
section
def cf.cH(a:OA)(b c:Nat)(d:OA)(e f:Nat)(g:OA)(i j:Nat)(k m:Int)(K:KT)(w:World):Prop:=
 K (.slice a b c) w
variable(a:OA)(b c:Nat)(d:OA)(e f:Nat)(g:OA)(i j:Nat)(k m:Int)(K:KT)(w:World)
theorem cf.df:(cf.q1 K (.exit 0) [(0,.slice a b c),(4,.slice d e f),(7,.slice g i j),(8,.int .i64 k),(9,.int .i64 m)] w)=cf.cH a b c d e f g i j k m K w:=by kernel_rfl
end
def eA.k:List Nat:= []
section
variable(a:AV)(b:Addr)(K:KT)(w:World)
def eA.W:Prop:=
 let d:=w.alloc (.cells a 24);∃e:OA,d.cell? b=some (.pointer e)/\∃f:AV,(f.size=32/\Cells d (⟨w.heap.size,0,none⟩:Addr) f)/\bk prog 47 #[.pointer e,.agg f] d fun g i=>∃j:Bool,g=.bool j/\K (.bool (!j)) i
variable{a b K w}
theorem eA.of(h:eA.W a b K w):bk prog 145 #[.agg a,.pointer (some b)] w K:=
 rqq func145 (C:=eA.k) h
end
def bK.k:List Nat:= []
def bK.q1(K:KT):aN:=(aM 0 (b6 (sR (sR (body f146)))++(aR f146)) (bT (fun bX w_=>match cutAt bK.k (sR (sR (body f146)))with|true=>Holds none [] prog 24 (sR (sR (body f146))) (bO prog f146 K) bX w_|false=>aU none [] prog 24 bK.k (sR (sR (body f146))) (aR f146) (bO prog f146 K) bX w_) (bO prog f146 K)))
def bK.e1(a:Int)(b:OA)(c d:Nat)(s:(OA)×Nat×Nat):Env:= [(0,.slice s.1 s.2.1 s.2.2),(1,.int .i64 a),(4,.slice b c d)]
def bK.u1:List Nat:= [0,1,4]
section
variable(a:OA)(b d:Nat)(e:Int)(K:KT)(w:World)
def bK.W:Prop:=
 Holds none [] prog 24 (.loop (lB (bB (sL (sR (body f146)))))) (bK.q1 K) [(0,.slice a b d),(1,.int .i64 e),(4,.slice none 0 0)] w
variable{a b d e K w}
theorem bK.of(h:bK.W a b d e K w):bk prog 146 #[.slice a b d,.int .i64 e] w K:=
 rqq func146 (C:=bK.k) h
end
section
variable(a:OA)(b c:Nat)(d:Int)(e:OA)(f g:Nat)(Q:aN)(w:World)
def bK.B1:Prop:=
 (64:Int)≠0/\Split (decide ((b:Int)<=(i64.wrap (d.tdiv (64:Int))))) (let i:=w.alloc (.cells #[.int .u64 0] 22);∃(j:OA) (k m:Nat) (n:World),(Builtin.append_ #[143,143] 143 #[.slice a b c,.slice (some (⟨w.heap.size,0,none⟩:Addr)) 1 1]).run prog i=.ok (.slice j k m) n/\Q .normal [(0,.slice j k m),(1,.int .i64 d),(4,.slice e f g)] n) (Q (.exit 0) [(0,.slice a b c),(1,.int .i64 d),(4,.slice e f g)] w)
theorem bK.b1:(aU none [] prog 24 bK.k (lB (bB (sL (sR (body f146))))) bK.u1 Q [(0,.slice a b c),(1,.int .i64 d),(4,.slice e f g)] w)=bK.B1 a b c d e f g Q w:=by kernel_rfl
variable{d e f g}
theorem bK.b9(I:(OA)×Nat×Nat->World->Prop)(μ:(OA)×Nat×Nat->World->Nat)(s:(OA)×Nat×Nat){Q:aN}{w:World}(h0:I s w)
 (round:∀s w,I s w->bK.B1 (s.1) (s.2.1) (s.2.2) d e f g (bL (bK.e1 d e f g) I μ s w Q) w):Holds none [] prog 24 (.loop (lB (bB (sL (sR (body f146)))))) Q (bK.e1 d e f g s) w:=
 a7 ng mix (bK.e1 d e f g) I μ bK.k bK.u1 s (fun s Q w=>bK.B1 (s.1) (s.2.1) (s.2.2) d e f g Q w) (fun s Q w=>bK.b1 (s.1) (s.2.1) (s.2.2) d e f g Q w) h0 round
end
section
def bK.cH(a:OA)(b c:Nat)(d:Int)(e:OA)(f g:Nat)(K:KT)(w:World):Prop:=
 let i:=w.drew;(64:Int)≠0/\(0<=(i64.wrap (d.tdiv (64:Int)))/\(i64.wrap (d.tdiv (64:Int)))<(b:Int))/\Is a fun j:Addr=>∃k:Int,i.cell? (j.add ((i64.wrap (d.tdiv (64:Int))).toNat*1))=some (.int .u64 k)/\(64:Int)≠0/\0<=(d.tmod (64:Int))/\(0<=(i64.wrap (d.tdiv (64:Int)))/\(i64.wrap (d.tdiv (64:Int)))<(b:Int))/\Is a fun m:Addr=>Wr i (m.add ((i64.wrap (d.tdiv (64:Int))).toNat*1))/\let n:=i.setCell (m.add ((i64.wrap (d.tdiv (64:Int))).toNat*1)) (.int .u64 (u64.wrap ((BitVec.ofInt 64 k|||BitVec.ofInt 64 (u64.wrap ((1:Int)*2 ^ (min (d.tmod (64:Int)).toNat 64)))).toNat)));K (.slice a b c) n
variable(a:OA)(b c:Nat)(d:Int)(e:OA)(f g:Nat)(K:KT)(w:World)
theorem bK.df:(bK.q1 K (.exit 0) [(0,.slice a b c),(1,.int .i64 d),(4,.slice e f g)] w)=bK.cH a b c d e f g K w:=by kernel_rfl
end
section
variable(a:OA)(K:KT)(w:World)
variable{a K w}
end
section
variable(a:OA)(b c:Nat)(d:OA)(e f:Nat)(g:OA)(i j:Nat)(k m:Int)(Q:aN)(w:World)
variable{a b c g i j k}
end
section
variable(a:OA)(b c:Nat)(d:OA)(e f:Nat)(g:OA)(i j:Nat)(k m:Int)(K:KT)(w:World)
end
def au.k:List Nat:= []
def au.q1(K:KT):aN:=(aM 0 (b6 (sR (sR (body f91)))++(aR f91)) (bT (fun bX w_=>match cutAt au.k (sR (sR (body f91)))with|true=>Holds none [] prog 19 (sR (sR (body f91))) (bO prog f91 K) bX w_|false=>aU none [] prog 19 au.k (sR (sR (body f91))) (aR f91) (bO prog f91 K) bX w_) (bO prog f91 K)))
def au.e1(a:OA)(b c:Nat)(d:Addr)(e:Int)(s:Int×Int):Env:= [(0,.slice a b c),(1,.func (.func 145) #[] #[.pointer (some d)]),(4,.int .i64 s.1),(7,.int .i64 e),(8,.int .i64 s.2)]
def au.u1:List Nat:= [0,1,4,7,8]
section
variable(a:OA)(b d:Nat)(e:Addr)(K:KT)(w:World)
def au.W:Prop:=
 Holds none [] prog 19 (.loop (lB (bB (sR (sL (sR (body f91))))))) (au.q1 K) [(0,.slice a b d),(1,.func (.func 145) #[] #[.pointer (some e)]),(4,.int .i64 0),(7,.int .i64 (b:Int)),(8,.int .i64 0)] w
variable{a b d e K w}
theorem au.of(h:au.W a b d e K w):bk prog 91 #[.slice a b d,.func (.func 145) #[] #[.pointer (some e)]] w K:=
 rqq func91 (C:=au.k) h
end
section
variable(a:OA)(b c:Nat)(d:Addr)(e f g:Int)(Q:aN)(w:World)
def au.B1:Prop:=
 Split (decide (g<f)) ((0<=g/\g<(b:Int))/\Is a fun i:Addr=>∃j:AV,(j.size=32/\Cells w (i.add (g.toNat*32)) j)/\bk prog 145 #[.agg j,.pointer (some d)] w fun k m=>∃n:Bool,k=.bool n/\Split n (Q .ret [(0,.slice a b c),(1,.func (.func 145) #[] #[.pointer (some d)]),(4,.int .i64 g),(7,.int .i64 f),(8,.int .i64 g)] m) (Q .normal [(0,.slice a b c),(1,.func (.func 145) #[] #[.pointer (some d)]),(4,.int .i64 e),(7,.int .i64 f),(8,.int .i64 (i64.wrap (g+(1:Int))))] m)) (Q (.exit 0) [(0,.slice a b c),(1,.func (.func 145) #[] #[.pointer (some d)]),(4,.int .i64 e),(7,.int .i64 f),(8,.int .i64 g)] w)
theorem au.b1:(aU none [] prog 19 au.k (lB (bB (sR (sL (sR (body f91)))))) au.u1 Q [(0,.slice a b c),(1,.func (.func 145) #[] #[.pointer (some d)]),(4,.int .i64 e),(7,.int .i64 f),(8,.int .i64 g)] w)=au.B1 a b c d e f g Q w:=by kernel_rfl
variable{a b c d f}
theorem au.b9(I:Int×Int->World->Prop)(μ:Int×Int->World->Nat)(s:Int×Int){Q:aN}{w:World}(h0:I s w)
 (round:∀s w,I s w->au.B1 a b c d (s.1) f (s.2) (bL (au.e1 a b c d f) I μ s w Q) w):Holds none [] prog 19 (.loop (lB (bB (sR (sL (sR (body f91))))))) Q (au.e1 a b c d f s) w:=
 a7 ng mix (au.e1 a b c d f) I μ au.k au.u1 s (fun s Q w=>au.B1 a b c d (s.1) f (s.2) Q w) (fun s Q w=>au.b1 a b c d (s.1) f (s.2) Q w) h0 round
end
section
def au.cH(a:OA)(b c:Nat)(d:Addr)(e f g:Int)(K:KT)(w:World):Prop:=
 K (.int .i64 (-1)) w
variable(a:OA)(b c:Nat)(d:Addr)(e f g:Int)(K:KT)(w:World)
theorem au.df:(au.q1 K (.exit 0) [(0,.slice a b c),(1,.func (.func 145) #[] #[.pointer (some d)]),(4,.int .i64 e),(7,.int .i64 f),(8,.int .i64 g)] w)=au.cH a b c d e f g K w:=by kernel_rfl
end
def b7.k:List Nat:= []
section
variable(a:OA)(b d:Nat)(e:Addr)(K:KT)(w:World)
def b7.W:Prop:=
 bk prog 91 #[.slice a b d,.func (.func 145) #[] #[.pointer (some e)]] w fun f g=>∃i:Int,f=.int .i64 i/\K (.bool (decide (i>=(0:Int)))) g
variable{a b d e K w}
theorem b7.of(h:b7.W a b d e K w):bk prog 68 #[.slice a b d,.func (.func 145) #[] #[.pointer (some e)]] w K:=
 rqq func68 (C:=b7.k) h
end
def aH.k:List Nat:= []
def aH.q1(K:KT):aN:=(aM 0 (aR f158) (bO prog f158 K))
def aH.e1(a:Nat)(b:OA)(c d:Nat)(e s:Int):Env:= [(0,.func (.yield a) #[] #[]),(5,.slice b c d),(6,.int .i64 e),(7,.int .i64 s)]
def aH.u1:List Nat:= [0,5,6,7]
def aH.q2(Q:aN):aN:=(aM 2 (b6 (sR (sR (sR (lB (bB (sR (body f158)))))))++aH.u1) (aM 1 (b6 (sR (sR (sR (lB (bB (sR (body f158)))))))++aH.u1) (bT (fun bX w_=>match cutAt aH.k (sR (sR (sR (lB (bB (sR (body f158)))))))with|true=>Holds none [] prog 27 (sR (sR (sR (lB (bB (sR (body f158))))))) Q bX w_|false=>aU none [] prog 27 aH.k (sR (sR (sR (lB (bB (sR (body f158))))))) aH.u1 Q bX w_) Q)))
def aH.e2(a:Nat)(b:Int)(c:OA)(d e:Nat)(f g s:Int):Env:= [(0,.func (.yield a) #[] #[]),(3,.int .i64 b),(4,.int .u64 s),(5,.slice c d e),(6,.int .i64 f),(7,.int .i64 g)]
def aH.u2:List Nat:= [0,3,4,5,6,7]
section
variable(a:Nat)(b:Addr)(K:KT)(w:World)
def aH.W:Prop:=
 ∃d:OA,∃e f:Nat,w.cell? b=some (.slice d e f)/\Holds none [] prog 27 (.loop (lB (bB (sR (body f158))))) (aH.q1 K) [(0,.func (.yield a) #[] #[]),(5,.slice d e f),(6,.int .i64 (e:Int)),(7,.int .i64 0)] w
variable{a b K w}
theorem aH.of(h:aH.W a b K w):bk prog 158 #[.func (.yield a) #[] #[],.pointer (some b)] w K:=
 rqq func158 (C:=aH.k) h
end
section
variable(a:Nat)(b:OA)(c d:Nat)(e f:Int)(Q:aN)(w:World)
def aH.B1:Prop:=
 Split (decide (f<e)) ((0<=f/\f<(c:Int))/\Is b fun g:Addr=>∃i:Int,w.cell? (g.add (f.toNat*1))=some (.int .u64 i)/\Holds none [] prog 27 (.loop (lB (bB (sR (bB (sL (sR (sR (lB (bB (sR (body f158)))))))))))) (aH.q2 Q) [(0,.func (.yield a) #[] #[]),(3,.int .i64 f),(4,.int .u64 i),(5,.slice b c d),(6,.int .i64 e),(7,.int .i64 f)] w) (Q (.exit 0) [(0,.func (.yield a) #[] #[]),(5,.slice b c d),(6,.int .i64 e),(7,.int .i64 f)] w)
theorem aH.b1:(aU none [] prog 27 aH.k (lB (bB (sR (body f158)))) aH.u1 Q [(0,.func (.yield a) #[] #[]),(5,.slice b c d),(6,.int .i64 e),(7,.int .i64 f)] w)=aH.B1 a b c d e f Q w:=by kernel_rfl
variable{a b c d e}
theorem aH.b9(I:Int->World->Prop)(μ:Int->World->Nat)(s:Int){Q:aN}{w:World}(h0:I s w)
 (round:∀s w,I s w->aH.B1 a b c d e s (bL (aH.e1 a b c d e) I μ s w Q) w):Holds none [] prog 27 (.loop (lB (bB (sR (body f158))))) Q (aH.e1 a b c d e s) w:=
 a7 ng mix (aH.e1 a b c d e) I μ aH.k aH.u1 s (fun s Q w=>aH.B1 a b c d e s Q w) (fun s Q w=>aH.b1 a b c d e s Q w) h0 round
end
section
def aH.cH(a:Nat)(b:OA)(c d:Nat)(e f:Int)(K:KT)(w:World):Prop:=
 K (.tuple #[]) w
variable(a:Nat)(b:OA)(c d:Nat)(e f:Int)(K:KT)(w:World)
theorem aH.df:(aH.q1 K (.exit 0) [(0,.func (.yield a) #[] #[]),(5,.slice b c d),(6,.int .i64 e),(7,.int .i64 f)] w)=aH.cH a b c d e f K w:=by kernel_rfl
end
section
variable(a:Nat)(b c:Int)(d:OA)(e f:Nat)(g i:Int)(Q:aN)(w:World)
def aH.B2:Prop:=
 Split (c != (0:Int)) (bk prog 159 #[.int .u64 c] w fun j k=>∃m:Int,j=.int .i64 m/\ji prog a #[.int .i64 (i64.wrap ((i64.wrap ((64:Int)*b))+m))] k fun n o=>Split (!n) (Q .ret [(0,.func (.yield a) #[] #[]),(3,.int .i64 b),(4,.int .u64 c),(5,.slice d e f),(6,.int .i64 g),(7,.int .i64 i)] o) (Q .normal [(0,.func (.yield a) #[] #[]),(3,.int .i64 b),(4,.int .u64 (u64.wrap ((BitVec.ofInt 64 c&&& BitVec.ofInt 64 (u64.wrap (c-(1:Int)))).toNat))),(5,.slice d e f),(6,.int .i64 g),(7,.int .i64 i)] o)) (Q (.exit 2) [(0,.func (.yield a) #[] #[]),(3,.int .i64 b),(4,.int .u64 c),(5,.slice d e f),(6,.int .i64 g),(7,.int .i64 i)] w)
theorem aH.b2:(aU none [] prog 27 aH.k (lB (bB (sR (bB (sL (sR (sR (lB (bB (sR (body f158))))))))))) aH.u2 Q [(0,.func (.yield a) #[] #[]),(3,.int .i64 b),(4,.int .u64 c),(5,.slice d e f),(6,.int .i64 g),(7,.int .i64 i)] w)=aH.B2 a b c d e f g i Q w:=by kernel_rfl
variable{a b d e f g i}
theorem aH.gC(I:Int->World->Prop)(μ:Int->World->Nat)(s:Int){Q:aN}{w:World}(h0:I s w)
 (round:∀s w,I s w->aH.B2 a b s d e f g i (bL (aH.e2 a b d e f g i) I μ s w Q) w):Holds none [] prog 27 (.loop (lB (bB (sR (bB (sL (sR (sR (lB (bB (sR (body f158)))))))))))) Q (aH.e2 a b d e f g i s) w:=
 a7 ng mix (aH.e2 a b d e f g i) I μ aH.k aH.u2 s (fun s Q w=>aH.B2 a b s d e f g i Q w) (fun s Q w=>aH.b2 a b s d e f g i Q w) h0 round
end
section
def aH.ik(a:Nat)(b c:Int)(d:OA)(e f:Nat)(g i:Int)(Q:aN)(w:World):Prop:=
 Q .normal [(0,.func (.yield a) #[] #[]),(5,.slice d e f),(6,.int .i64 g),(7,.int .i64 (i64.wrap (i+(1:Int))))] w
variable(a:Nat)(b c:Int)(d:OA)(e f:Nat)(g i:Int)(Q:aN)(w:World)
theorem aH.jA:(aH.q2 Q (.exit 2) [(0,.func (.yield a) #[] #[]),(3,.int .i64 b),(4,.int .u64 c),(5,.slice d e f),(6,.int .i64 g),(7,.int .i64 i)] w)=aH.ik a b c d e f g i Q w:=by kernel_rfl
end
def aE.k:List Nat:= []
def aE.q1(K:KT):aN:=(aM 0 (aR f137) (bO prog f137 K))
def aE.e1(a:Nat)(b:OA)(c d:Nat)(e s:Int):Env:= [(0,.func (.yield a) #[] #[]),(5,.slice b c d),(6,.int .i64 e),(7,.int .i64 s)]
def aE.u1:List Nat:= [0,5,6,7]
section
variable(a:Nat)(b:Addr)(K:KT)(w:World)
def aE.W:Prop:=
 ∃d:OA,∃e f:Nat,w.cell? b=some (.slice d e f)/\Holds none [] prog 16 (.loop (lB (bB (sR (body f137))))) (aE.q1 K) [(0,.func (.yield a) #[] #[]),(5,.slice d e f),(6,.int .i64 (e:Int)),(7,.int .i64 0)] w
variable{a b K w}
theorem aE.of(h:aE.W a b K w):bk prog 137 #[.func (.yield a) #[] #[],.pointer (some b)] w K:=
 rqq func137 (C:=aE.k) h
end
section
variable(a:Nat)(b:OA)(c d:Nat)(e f:Int)(Q:aN)(w:World)
def aE.B1:Prop:=
 Split (decide (f<e)) ((0<=f/\f<(c:Int))/\Is b fun g:Addr=>∃i:AV,(i.size=32/\Cells w (g.add (f.toNat*32)) i)/\let j:=w.alloc (.cells zH 24);(i.size=32/\(∀k∈i.toList,k.oneCell'=true)/\∀m,m<32->Wr j ((⟨w.heap.size,0,none⟩:Addr).add m))/\let n:=setCells j (⟨w.heap.size,0,none⟩:Addr) i.toList 0;∃o:AV,(o.size=32/\Cells n (⟨w.heap.size,0,none⟩:Addr) o)/\ji prog a #[.agg o] n fun p q=>Split (!p) (Q .ret [(0,.func (.yield a) #[] #[]),(5,.slice b c d),(6,.int .i64 e),(7,.int .i64 f)] q) (Q .normal [(0,.func (.yield a) #[] #[]),(5,.slice b c d),(6,.int .i64 e),(7,.int .i64 (i64.wrap (f+(1:Int))))] q)) (Q (.exit 0) [(0,.func (.yield a) #[] #[]),(5,.slice b c d),(6,.int .i64 e),(7,.int .i64 f)] w)
theorem aE.b1:(aU none [] prog 16 aE.k (lB (bB (sR (body f137)))) aE.u1 Q [(0,.func (.yield a) #[] #[]),(5,.slice b c d),(6,.int .i64 e),(7,.int .i64 f)] w)=aE.B1 a b c d e f Q w:=by kernel_rfl
variable{a b c d e}
theorem aE.b9(I:Int->World->Prop)(μ:Int->World->Nat)(s:Int){Q:aN}{w:World}(h0:I s w)
 (round:∀s w,I s w->aE.B1 a b c d e s (bL (aE.e1 a b c d e) I μ s w Q) w):Holds none [] prog 16 (.loop (lB (bB (sR (body f137))))) Q (aE.e1 a b c d e s) w:=
 a7 ng mix (aE.e1 a b c d e) I μ aE.k aE.u1 s (fun s Q w=>aE.B1 a b c d e s Q w) (fun s Q w=>aE.b1 a b c d e s Q w) h0 round
end
section
def aE.cH(a:Nat)(b:OA)(c d:Nat)(e f:Int)(K:KT)(w:World):Prop:=
 K (.tuple #[]) w
variable(a:Nat)(b:OA)(c d:Nat)(e f:Int)(K:KT)(w:World)
theorem aE.df:(aE.q1 K (.exit 0) [(0,.func (.yield a) #[] #[]),(5,.slice b c d),(6,.int .i64 e),(7,.int .i64 f)] w)=aE.cH a b c d e f K w:=by kernel_rfl
end
end Go.Proofs.YtfleamccglihoaaGreatDoor
