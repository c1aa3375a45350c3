import Derived.Test.YtfleamccglihoaaGreatDoorProg
import Derived.Test.YtfleamccglihoaaGreatDoorMA
open Go.IntKind (i64 u64)
set_option linter.unusedVariables false
namespace Go.Proofs.YtfleamccglihoaaGreatDoor
open Go.Proofs.Tryz
open Go Go.bT
abbrev OA:=Option Addr
abbrev AV:=Array Value
abbrev KT:=Value->World->Prop
abbrev zH:Array Value:= #[.int .u8 0,.int .u8 0,.int .u8 0,.int .u8 0,.int .u8 0,.int .u8 0,.int .u8 0,.int .u8 0,.int .u8 0,.int .u8 0,.int .u8 0,.int .u8 0,.int .u8 0,.int .u8 0,.int .u8 0,.int .u8 0,.int .u8 0,.int .u8 0,.int .u8 0,.int .u8 0,.int .u8 0,.int .u8 0,.int .u8 0,.int .u8 0,.int .u8 0,.int .u8 0,.int .u8 0,.int .u8 0,.int .u8 0,.int .u8 0,.int .u8 0,.int .u8 0]
abbrev zC:Array Value:= #[.int .u8 0,.int .u8 0,.int .u8 0,.int .u8 0,.int .u8 0,.int .u8 0,.int .u8 0,.int .u8 0,.int .u8 0,.int .u8 0,.int .u8 0,.int .u8 0,.int .u8 0,.int .u8 0,.int .u8 0,.int .u8 0,.int .u8 0,.int .u8 0,.int .u8 0,.int .u8 0,.int .u8 0,.int .u8 0,.int .u8 0,.int .u8 0,.int .u8 0,.int .u8 0,.int .u8 0,.int .u8 0,.int .u8 0,.int .u8 0,.int .u8 0,.int .u8 0,.int .u64 0,.slice none 0 0,.slice none 0 0]
abbrev zS:Array Value:= #[.int .u8 0,.int .u8 0,.int .u8 0,.int .u8 0,.int .u8 0,.int .u8 0,.int .u8 0,.int .u8 0,.int .u8 0,.int .u8 0,.int .u8 0,.int .u8 0,.int .u8 0,.int .u8 0,.int .u8 0,.int .u8 0,.int .u8 0,.int .u8 0,.int .u8 0,.int .u8 0,.int .u8 0,.int .u8 0,.int .u8 0,.int .u8 0,.int .u8 0,.int .u8 0,.int .u8 0,.int .u8 0,.int .u8 0,.int .u8 0,.int .u8 0,.int .u8 0,.int .u64 0,.slice none 0 0,.slice none 0 0,.map none]
abbrev jV:Nat:=3
abbrev iK:Nat:=4
abbrev iX:Nat:=5
abbrev jb:Nat:=22
abbrev ah:Nat:=24
abbrev eN:Nat:=28
abbrev ay:Nat:=33
abbrev cM:Nat:=38
abbrev iF:Nat:=40
abbrev jO:Nat:=42
abbrev uI:Nat:=44
abbrev fQ:Nat:=45
abbrev gX:Nat:=47
abbrev fC:Nat:=48
abbrev gP:Nat:=51
abbrev bn:Nat:=53
abbrev gA:Nat:=62
abbrev dK:Nat:=63
abbrev im:Nat:=65
abbrev bS:Nat:=69
abbrev mS:Nat:=89
abbrev lK:Nat:=98
abbrev fu:Nat:=123
abbrev cK:Nat:=127
abbrev eh:Nat:=129
abbrev gV:Nat:=135
abbrev eR:Nat:=137
abbrev fw:Nat:=138
abbrev BR:Nat:=142
abbrev lF:Nat:=143
abbrev dU:Nat:=145
abbrev tK:Nat:=163
abbrev lX:Nat:=164
abbrev mf:Nat:=170
abbrev iw:Nat:=172
abbrev jE:Nat:=186
abbrev iJ:Nat:=195
abbrev uu:Nat:=197
abbrev jD:Nat:=199
abbrev xx:Nat:=218
abbrev fc.id:Nat:=7
abbrev bJ.id:Nat:=16
abbrev bZ.id:Nat:=17
abbrev af.id:Nat:=19
abbrev du.id:Nat:=21
abbrev aA.id:Nat:=23
abbrev gL.id:Nat:=24
abbrev c8.id:Nat:=25
abbrev aH.id:Nat:=26
abbrev aM.id:Nat:=27
abbrev dQ.id:Nat:=28
abbrev bE.id:Nat:=29
abbrev iO.id:Nat:=30
abbrev iN.id:Nat:=31
abbrev aU.id:Nat:=33
abbrev jv.id:Nat:=34
abbrev bt.id:Nat:=35
abbrev cS.id:Nat:=38
abbrev dI.id:Nat:=41
abbrev iI.id:Nat:=42
abbrev kr.id:Nat:=43
abbrev dH.id:Nat:=44
abbrev eF.id:Nat:=45
abbrev gM.id:Nat:=47
abbrev dR.id:Nat:=51
abbrev ji.id:Nat:=53
abbrev dg.id:Nat:=55
abbrev dT.id:Nat:=56
abbrev jA.id:Nat:=57
abbrev dP.id:Nat:=59
abbrev dB.id:Nat:=60
abbrev a7.id:Nat:=61
abbrev dL.id:Nat:=68
abbrev eK.id:Nat:=71
abbrev mD.id:Nat:=72
abbrev bD.id:Nat:=73
abbrev cH.id:Nat:=74
abbrev bM.id:Nat:=75
abbrev iM.id:Nat:=76
abbrev bz.id:Nat:=77
abbrev dd.id:Nat:=78
abbrev cO.id:Nat:=80
abbrev aX.id:Nat:=81
abbrev eE.id:Nat:=82
abbrev al.id:Nat:=83
abbrev aE.id:Nat:=84
abbrev ir.id:Nat:=85
abbrev ax.id:Nat:=86
abbrev kz.id:Nat:=87
abbrev bC.id:Nat:=88
abbrev fG.id:Nat:=89
abbrev fZ.id:Nat:=90
abbrev fH.id:Nat:=94
abbrev eJ.id:Nat:=95
abbrev cX.id:Nat:=96
abbrev gY.id:Nat:=97
abbrev bits_Len.id:Nat:=98
abbrev ai.id:Nat:=99
abbrev dD.id:Nat:=102
abbrev eI.id:Nat:=104
abbrev bN.id:Nat:=106
abbrev dE.id:Nat:=107
abbrev cZ.id:Nat:=108
abbrev fY.id:Nat:=109
abbrev aK.id:Nat:=110
abbrev aS.id:Nat:=111
abbrev ag.id:Nat:=112
abbrev dq.id:Nat:=113
abbrev bX.id:Nat:=114
abbrev bf.id:Nat:=115
abbrev cJ.id:Nat:=116
abbrev fp.id:Nat:=117
abbrev bH.id:Nat:=118
abbrev dr.id:Nat:=119
abbrev gK.id:Nat:=120
abbrev dN.id:Nat:=121
abbrev nn.id:Nat:=122
abbrev eZ.id:Nat:=123
abbrev gz.id:Nat:=124
abbrev dC.id:Nat:=125
abbrev fF.id:Nat:=126
abbrev jo.id:Nat:=127
abbrev kl.id:Nat:=128
abbrev jq.id:Nat:=129
abbrev jI.id:Nat:=130
abbrev jt.id:Nat:=131
abbrev iy.id:Nat:=132
abbrev jQ.id:Nat:=134
abbrev bits_Len64.id:Nat:=136
abbrev aG.id:Nat:=137
abbrev iA.id:Nat:=138
abbrev aL.id:Nat:=140
abbrev aW.id:Nat:=141
abbrev fM.id:Nat:=142
abbrev cD.id:Nat:=143
abbrev eM.id:Nat:=145
abbrev bP.id:Nat:=146
abbrev gJ.id:Nat:=147
abbrev fW.id:Nat:=148
abbrev fX.id:Nat:=149
abbrev az.id:Nat:=150
abbrev iQ.id:Nat:=151
abbrev ki.id:Nat:=152
abbrev pv.id:Nat:=154
abbrev kQ.id:Nat:=156
abbrev aJ.id:Nat:=158
abbrev bits_TrailingZeros64.id:Nat:=159
abbrev bG.id:Nat:=160
abbrev bits_Mul64.id:Nat:=161
abbrev bg.id:Nat:=162
abbrev kP.id:Nat:=163
abbrev bits_LeadingZeros64.id:Nat:=164
noncomputable abbrev af.fn:Func:=f19
noncomputable abbrev al.fn:Func:=f83
noncomputable abbrev az.fn:Func:=f150
noncomputable abbrev bg.fn:Func:=f162
theorem bz.at_:prog.funcs[(77:Nat)]? =some f77:=func77
theorem dD.at_:prog.funcs[(102:Nat)]? =some f102:=func102
theorem bX.at_:prog.funcs[(114:Nat)]? =some f114:=func114
theorem cJ.at_:prog.funcs[(116:Nat)]? =some f116:=func116
theorem aG.at_:prog.funcs[(137:Nat)]? =some f137:=func137
theorem aW.at_:prog.funcs[(141:Nat)]? =some f141:=func141
theorem uF.at_:prog.funcs[(157:Nat)]? =some f157:=func157
theorem aJ.at_:prog.funcs[(158:Nat)]? =some f158:=func158
theorem ng:NG prog:=by
 have h:(prog.funcs.toList.all fun f=> !(f.name== "runtime.NumGoroutine"))=true:=by kernel_rfl
 intro g fn hf;rw [List.all_eq_true]at h;have:=h fn (by simpa using Array.mem_of_getElem? hf);simpa using this
theorem mix:prog.follows .mixedOrders=true:=by kernel_rfl
theorem rqq{C:List Nat}{f:FuncId}{fn:Func}{args:List Value}{w:World}{K:Value->World->Prop}{W:Prop}(hf:prog.funcs[f]? =some fn)(h:W)(hb:fn.body=some (body fn):=by kernel_rfl)(hn:(Nat.ble args.length fn.ntmps&&Nat.ble fn.ntmps gN)=true:=by kernel_rfl)(hs:aY none [] prog fn.ntmps C (body fn) (aT fn) (bR prog fn K) (oK args 0) w=W:=by kernel_rfl):bu prog f args.toArray w K:=FD ng mix hf hb hn hs h
def bZ.k:List Nat:= []
def bZ.q1(K:KT):aO:=(aN 0 (cF (sR (sR (sR (body f17))))++(aT f17)) (b7 (fun cg w_=>match cutAt bZ.k (sR (sR (sR (body f17))))with|true=>Holds none [] prog 26 (sR (sR (sR (body f17)))) (bR prog f17 K) cg w_|false=>aY none [] prog 26 bZ.k (sR (sR (sR (body f17)))) (aT f17) (bR prog f17 K) cg w_) (bR prog f17 K)))
def bZ.e1(a:OA)(b c:Nat)(d:OA)(e f:Nat)(s:Bool×Int):Env:= [(0,.slice a b c),(1,.slice d e f),(4,.bool s.1),(5,.int .i64 s.2)]
def bZ.u1:List Nat:= [0,1,4,5]
section
variable(a:OA)(b d:Nat)(e:OA)(f g:Nat)(K:KT)(w:World)
def bZ.W:Prop:=
 Split ((b:Int) != (f:Int)) (K (.bool false) w) (Holds none [] prog 26 (.loop (lB (bB (sR (sL (sR (sR (body f17)))))))) (bZ.q1 K) [(0,.slice a b d),(1,.slice e f g),(4,.bool false),(5,.int .i64 0)] w)
variable{a b d e f g K w}
theorem bZ.of(h:bZ.W a b d e f g K w):bu prog 17 #[.slice a b d,.slice e f g] w K:=
 rqq func17 (C:=bZ.k) h
end
section
variable(a:OA)(b c:Nat)(d:OA)(e f:Nat)(g:Bool)(i:Int)(Q:aO)(w:World)
def bZ.B1:Prop:=
 Split (decide (i<(b:Int))) (let j:=w.drew;(0<=i/\i<(b:Int))/\Is a fun k:Addr=>∃m:AV,(m.size=32/\Cells j (k.add (i.toNat*32)) m)/\(0<=i/\i<(e:Int))/\Is d fun n:Addr=>∃o:AV,(o.size=32/\Cells j (n.add (i.toNat*32)) o)/\(dS .u8 32 m/\dS .u8 32 o)/\Split (!(e8 m o)) (Q .ret [(0,.slice a b c),(1,.slice d e f),(4,.bool false),(5,.int .i64 i)] j) (Q .normal [(0,.slice a b c),(1,.slice d e f),(4,.bool g),(5,.int .i64 (i64.wrap (i+(1:Int))))] j)) (Q (.exit 0) [(0,.slice a b c),(1,.slice d e f),(4,.bool g),(5,.int .i64 i)] w)
theorem bZ.b1:(aY none [] prog 26 bZ.k (lB (bB (sR (sL (sR (sR (body f17))))))) bZ.u1 Q [(0,.slice a b c),(1,.slice d e f),(4,.bool g),(5,.int .i64 i)] w)=bZ.B1 a b c d e f g i Q w:=by kernel_rfl
variable{a b c d e f}
theorem bZ.cy(I:Bool×Int->World->Prop)(μ:Bool×Int->World->Nat)(s:Bool×Int){Q:aO}{w:World}(h0:I s w)
 (round:∀s w,I s w->bZ.B1 a b c d e f (s.1) (s.2) (bQ (bZ.e1 a b c d e f) I μ s w Q) w):Holds none [] prog 26 (.loop (lB (bB (sR (sL (sR (sR (body f17)))))))) Q (bZ.e1 a b c d e f s) w:=
 bp ng mix (bZ.e1 a b c d e f) I μ bZ.k bZ.u1 s (fun s Q w=>bZ.B1 a b c d e f (s.1) (s.2) Q w) (fun s Q w=>bZ.b1 a b c d e f (s.1) (s.2) Q w) h0 round
end
section
def bZ.cV(a:OA)(b c:Nat)(d:OA)(e f:Nat)(g:Bool)(i:Int)(K:KT)(w:World):Prop:=
 K (.bool true) w
variable(a:OA)(b c:Nat)(d:OA)(e f:Nat)(g:Bool)(i:Int)(K:KT)(w:World)
theorem bZ.df:(bZ.q1 K (.exit 0) [(0,.slice a b c),(1,.slice d e f),(4,.bool g),(5,.int .i64 i)] w)=bZ.cV a b c d e f g i K w:=by kernel_rfl
end
def aM.k:List Nat:= []
def aM.q1(K:KT):aO:=(aN 0 (cF (sR (sR (sR (body Tryz.f27))))++(aT Tryz.f27)) (b7 (fun cg w_=>match cutAt aM.k (sR (sR (sR (body Tryz.f27))))with|true=>Holds none [] prog 56 (sR (sR (sR (body Tryz.f27)))) (bR prog Tryz.f27 K) cg w_|false=>aY none [] prog 56 aM.k (sR (sR (sR (body Tryz.f27)))) (aT Tryz.f27) (bR prog Tryz.f27 K) cg w_) (bR prog Tryz.f27 K)))
def aM.e1(a:OA)(b c:Nat)(d:OA)(e f:Nat)(s:(OA)×Nat×Nat×Int):Env:= [(0,.slice a b c),(2,.slice d e f),(3,.slice s.1 s.2.1 s.2.2.1),(4,.int .i64 s.2.2.2)]
def aM.u1:List Nat:= [0,2,3,4]
def aM.q2(Q:aO):aO:=(aN 2 (cF (sR (sR (sR (bB (sL (sR (lB (bB (sR (sL (sR (sR (body Tryz.f27)))))))))))))++(cF (sR (sR (lB (bB (sR (sL (sR (sR (body Tryz.f27)))))))))++aM.u1)) (b7 (fun cg w_=>match cutAt aM.k (sR (sR (sR (bB (sL (sR (lB (bB (sR (sL (sR (sR (body Tryz.f27)))))))))))))with|true=>Holds none [] prog 56 (sR (sR (sR (bB (sL (sR (lB (bB (sR (sL (sR (sR (body Tryz.f27))))))))))))) (aN 1 (cF (sR (sR (lB (bB (sR (sL (sR (sR (body Tryz.f27)))))))))++aM.u1) (b7 (fun cg w_=>match cutAt aM.k (sR (sR (lB (bB (sR (sL (sR (sR (body Tryz.f27)))))))))with|true=>Holds none [] prog 56 (sR (sR (lB (bB (sR (sL (sR (sR (body Tryz.f27))))))))) Q cg w_|false=>aY none [] prog 56 aM.k (sR (sR (lB (bB (sR (sL (sR (sR (body Tryz.f27))))))))) aM.u1 Q cg w_) Q)) cg w_|false=>aY none [] prog 56 aM.k (sR (sR (sR (bB (sL (sR (lB (bB (sR (sL (sR (sR (body Tryz.f27))))))))))))) (cF (sR (sR (lB (bB (sR (sL (sR (sR (body Tryz.f27)))))))))++aM.u1) (aN 1 (cF (sR (sR (lB (bB (sR (sL (sR (sR (body Tryz.f27)))))))))++aM.u1) (b7 (fun cg w_=>match cutAt aM.k (sR (sR (lB (bB (sR (sL (sR (sR (body Tryz.f27)))))))))with|true=>Holds none [] prog 56 (sR (sR (lB (bB (sR (sL (sR (sR (body Tryz.f27))))))))) Q cg w_|false=>aY none [] prog 56 aM.k (sR (sR (lB (bB (sR (sL (sR (sR (body Tryz.f27))))))))) aM.u1 Q cg w_) Q)) cg w_) (aN 1 (cF (sR (sR (lB (bB (sR (sL (sR (sR (body Tryz.f27)))))))))++aM.u1) (b7 (fun cg w_=>match cutAt aM.k (sR (sR (lB (bB (sR (sL (sR (sR (body Tryz.f27)))))))))with|true=>Holds none [] prog 56 (sR (sR (lB (bB (sR (sL (sR (sR (body Tryz.f27))))))))) Q cg w_|false=>aY none [] prog 56 aM.k (sR (sR (lB (bB (sR (sL (sR (sR (body Tryz.f27))))))))) aM.u1 Q cg w_) Q))))
def aM.e2(a:OA)(b c:Nat)(d:OA)(e f:Nat)(g:OA)(i j:Nat)(k s:Int):Env:= [(0,.slice a b c),(2,.slice d e f),(3,.slice g i j),(4,.int .i64 k),(5,.int .i64 s)]
def aM.u2:List Nat:= [0,2,3,4,5]
section
variable(a:OA)(b d:Nat)(K:KT)(w:World)
def aM.W:Prop:=
 Holds none [] prog 56 (.loop (lB (bB (sR (sL (sR (sR (body Tryz.f27)))))))) (aM.q1 K) [(0,.slice a b d),(2,.slice none 0 0),(3,.slice none 0 0),(4,.int .i64 0)] w
variable{a b d K w}
theorem aM.of(h:aM.W a b d K w):bu prog 27 #[.slice a b d] w K:=
 rqq func27 (C:=aM.k) h
end
section
variable(a:OA)(b c:Nat)(d:OA)(e f:Nat)(g:OA)(i j:Nat)(k:Int)(Q:aO)(w:World)
def aM.B1:Prop:=
 Split (decide (k<(b:Int))) ((0<=k/\k<(b:Int))/\Is a fun m:Addr=>∃n:AV,(n.size=32/\Cells w (m.add (k.toNat*32)) n)/\bu prog 38 #[.slice g i j,.agg n] w fun o p=>∃q:Bool,o=.bool q/\Split q (Q .normal [(0,.slice a b c),(2,.slice d e f),(3,.slice g i j),(4,.int .i64 (i64.wrap (k+(1:Int))))] p) (Holds none [] prog 56 (.loop (lB (bB (sL (sR (sR (bB (sL (sR (lB (bB (sR (sL (sR (sR (body Tryz.f27)))))))))))))))) (aM.q2 Q) [(0,.slice a b c),(2,.slice d e f),(3,.slice g i j),(4,.int .i64 k),(5,.int .i64 (i:Int))] p)) (Q (.exit 0) [(0,.slice a b c),(2,.slice d e f),(3,.slice g i j),(4,.int .i64 k)] w)
theorem aM.b1:(aY none [] prog 56 aM.k (lB (bB (sR (sL (sR (sR (body Tryz.f27))))))) aM.u1 Q [(0,.slice a b c),(2,.slice d e f),(3,.slice g i j),(4,.int .i64 k)] w)=aM.B1 a b c d e f g i j k Q w:=by kernel_rfl
variable{a b c d e f}
theorem aM.cy(I:(OA)×Nat×Nat×Int->World->Prop)(μ:(OA)×Nat×Nat×Int->World->Nat)(s:(OA)×Nat×Nat×Int){Q:aO}{w:World}(h0:I s w)
 (round:∀s w,I s w->aM.B1 a b c d e f (s.1) (s.2.1) (s.2.2.1) (s.2.2.2) (bQ (aM.e1 a b c d e f) I μ s w Q) w):Holds none [] prog 56 (.loop (lB (bB (sR (sL (sR (sR (body Tryz.f27)))))))) Q (aM.e1 a b c d e f s) w:=
 bp ng mix (aM.e1 a b c d e f) I μ aM.k aM.u1 s (fun s Q w=>aM.B1 a b c d e f (s.1) (s.2.1) (s.2.2.1) (s.2.2.2) Q w) (fun s Q w=>aM.b1 a b c d e f (s.1) (s.2.1) (s.2.2.1) (s.2.2.2) Q w) h0 round
end
section
def aM.cV(a:OA)(b c:Nat)(d:OA)(e f:Nat)(g:OA)(i j:Nat)(k:Int)(K:KT)(w:World):Prop:=
 K (.slice g i j) w
variable(a:OA)(b c:Nat)(d:OA)(e f:Nat)(g:OA)(i j:Nat)(k:Int)(K:KT)(w:World)
theorem aM.df:(aM.q1 K (.exit 0) [(0,.slice a b c),(2,.slice d e f),(3,.slice g i j),(4,.int .i64 k)] w)=aM.cV a b c d e f g i j k K w:=by kernel_rfl
end
section
variable(a:OA)(b c:Nat)(d:OA)(e f:Nat)(g:OA)(i j:Nat)(k m:Int)(Q:aO)(w:World)
def aM.B2:Prop:=
 let n:=w.drew;Split (decide (m>(0:Int))) ((0<=k/\k<(b:Int))/\Is a fun o:Addr=>∃p:AV,(p.size=32/\Cells n (o.add (k.toNat*32)) p)/\(0<=(i64.wrap (m-(1:Int)))/\(i64.wrap (m-(1:Int)))<(i:Int))/\Is g fun q:Addr=>∃r:AV,(r.size=32/\Cells n (q.add ((i64.wrap (m-(1:Int))).toNat*32)) r)/\bu prog 75 #[.agg p,.agg r] n fun t u=>∃v:Int,t=.int .i64 v/\Split (decide (v<(0:Int))) (Q .normal [(0,.slice a b c),(2,.slice d e f),(3,.slice g i j),(4,.int .i64 k),(5,.int .i64 (i64.wrap (m-(1:Int))))] u) (Q (.exit 2) [(0,.slice a b c),(2,.slice d e f),(3,.slice g i j),(4,.int .i64 k),(5,.int .i64 m)] u)) (Q (.exit 2) [(0,.slice a b c),(2,.slice d e f),(3,.slice g i j),(4,.int .i64 k),(5,.int .i64 m)] n)
theorem aM.b2:(aY none [] prog 56 aM.k (lB (bB (sL (sR (sR (bB (sL (sR (lB (bB (sR (sL (sR (sR (body Tryz.f27))))))))))))))) aM.u2 Q [(0,.slice a b c),(2,.slice d e f),(3,.slice g i j),(4,.int .i64 k),(5,.int .i64 m)] w)=aM.B2 a b c d e f g i j k m Q w:=by kernel_rfl
variable{a b c d e f g i j k}
theorem aM.iq(I:Int->World->Prop)(μ:Int->World->Nat)(s:Int){Q:aO}{w:World}(h0:I s w)
 (round:∀s w,I s w->aM.B2 a b c d e f g i j k s (bQ (aM.e2 a b c d e f g i j k) I μ s w Q) w):Holds none [] prog 56 (.loop (lB (bB (sL (sR (sR (bB (sL (sR (lB (bB (sR (sL (sR (sR (body Tryz.f27)))))))))))))))) Q (aM.e2 a b c d e f g i j k s) w:=
 bp ng mix (aM.e2 a b c d e f g i j k) I μ aM.k aM.u2 s (fun s Q w=>aM.B2 a b c d e f g i j k s Q w) (fun s Q w=>aM.b2 a b c d e f g i j k s Q w) h0 round
end
section
variable(a:OA)(b c:Nat)(d:OA)(e f:Nat)(g:OA)(i j:Nat)(k m:Int)(Q:aO)(w:World)
def aM.iZ:Prop:=
 (0<=m/\m<=(j:Int))/\∃(n:OA) (o p:Nat) (q:World),(Builtin.append_ #[33,33] 33 #[.slice none 0 0,.slice (if j=0 then g else g.map (·.add (0*32))) (m.toNat-0) (j-0)]).run prog w=.ok (.slice n o p) q/\(0<=k/\k<(b:Int))/\Is a fun r:Addr=>∃t:AV,(t.size=32/\Cells q (r.add (k.toNat*32)) t)/\t.size=32/\let u:=q.alloc (.cells (t.toList++ []).toArray 24);∃(v:OA) (x y:Nat) (z:World),(Builtin.append_ #[33,33] 33 #[.slice n o p,.slice (some (⟨q.heap.size,0,none⟩:Addr)) 1 1]).run prog u=.ok (.slice v x y) z/\(0<=m/\m<=(i:Int))/\∃(a1:OA) (b1 c1:Nat) (d1:World),(Builtin.append_ #[33,33] 33 #[.slice v x y,.slice (if j=m.toNat then g else g.map (·.add (m.toNat*32))) (i-m.toNat) (j-m.toNat)]).run prog z=.ok (.slice a1 b1 c1) d1/\Q .normal [(0,.slice a b c),(2,.slice d e f),(3,.slice a1 b1 c1),(4,.int .i64 (i64.wrap (k+(1:Int))))] d1
theorem aM.kL:(aM.q2 Q (.exit 2) [(0,.slice a b c),(2,.slice d e f),(3,.slice g i j),(4,.int .i64 k),(5,.int .i64 m)] w)=aM.iZ a b c d e f g i j k m Q w:=by kernel_rfl
end
def cS.k:List Nat:= []
def cS.q1(K:KT):aO:=(aN 0 (cF (sR (sR (body f38)))++(aT f38)) (b7 (fun cg w_=>match cutAt cS.k (sR (sR (body f38)))with|true=>Holds none [] prog 18 (sR (sR (body f38))) (bR prog f38 K) cg w_|false=>aY none [] prog 18 cS.k (sR (sR (body f38))) (aT f38) (bR prog f38 K) cg w_) (bR prog f38 K)))
def cS.e1(a:OA)(b c:Nat)(d:Addr)(s:Bool×Int):Env:= [(0,.slice a b c),(3,.pointer (some d)),(4,.bool s.1),(5,.int .i64 s.2)]
def cS.u1:List Nat:= [0,3,4,5]
section
variable(a:OA)(b d:Nat)(e:AV)(K:KT)(w:World)
def cS.W:Prop:=
 let f:=w.alloc (.cells e 24);Holds none [] prog 18 (.loop (lB (bB (sR (sL (sR (body f38))))))) (cS.q1 K) [(0,.slice a b d),(3,.pointer (some (⟨w.heap.size,0,none⟩:Addr))),(4,.bool false),(5,.int .i64 0)] f
variable{a b d e K w}
theorem cS.of(h:cS.W a b d e K w):bu prog 38 #[.slice a b d,.agg e] w K:=
 rqq func38 (C:=cS.k) h
end
section
variable(a:OA)(b c:Nat)(d:Addr)(e:Bool)(f:Int)(Q:aO)(w:World)
def cS.B1:Prop:=
 Split (decide (f<(b:Int))) (let g:=w.drew;(0<=f/\f<(b:Int))/\Is a fun i:Addr=>∃j:AV,(j.size=32/\Cells g (i.add (f.toNat*32)) j)/\∃k:AV,(k.size=32/\Cells g d k)/\(dS .u8 32 j/\dS .u8 32 k)/\Split (e8 j k) (Q .ret [(0,.slice a b c),(3,.pointer (some d)),(4,.bool true),(5,.int .i64 f)] g) (Q .normal [(0,.slice a b c),(3,.pointer (some d)),(4,.bool e),(5,.int .i64 (i64.wrap (f+(1:Int))))] g)) (Q (.exit 0) [(0,.slice a b c),(3,.pointer (some d)),(4,.bool e),(5,.int .i64 f)] w)
theorem cS.b1:(aY none [] prog 18 cS.k (lB (bB (sR (sL (sR (body f38)))))) cS.u1 Q [(0,.slice a b c),(3,.pointer (some d)),(4,.bool e),(5,.int .i64 f)] w)=cS.B1 a b c d e f Q w:=by kernel_rfl
variable{a b c d}
theorem cS.cy(I:Bool×Int->World->Prop)(μ:Bool×Int->World->Nat)(s:Bool×Int){Q:aO}{w:World}(h0:I s w)
 (round:∀s w,I s w->cS.B1 a b c d (s.1) (s.2) (bQ (cS.e1 a b c d) I μ s w Q) w):Holds none [] prog 18 (.loop (lB (bB (sR (sL (sR (body f38))))))) Q (cS.e1 a b c d s) w:=
 bp ng mix (cS.e1 a b c d) I μ cS.k cS.u1 s (fun s Q w=>cS.B1 a b c d (s.1) (s.2) Q w) (fun s Q w=>cS.b1 a b c d (s.1) (s.2) Q w) h0 round
end
section
def cS.cV(a:OA)(b c:Nat)(d:Addr)(e:Bool)(f:Int)(K:KT)(w:World):Prop:=
 K (.bool false) w
variable(a:OA)(b c:Nat)(d:Addr)(e:Bool)(f:Int)(K:KT)(w:World)
theorem cS.df:(cS.q1 K (.exit 0) [(0,.slice a b c),(3,.pointer (some d)),(4,.bool e),(5,.int .i64 f)] w)=cS.cV a b c d e f K w:=by kernel_rfl
end
def gM.k:List Nat:= []
section
variable(a:OA)(b:AV)(K:KT)(w:World)
def gM.W:Prop:=
 let d:=w.alloc (.cells b 24);∃e:AV,(e.size=32/\Cells d (⟨w.heap.size,0,none⟩:Addr) e)/\bu prog 90 #[.pointer a,.agg e] d fun f g=>∃i:OA,f=.pointer i/\K (.bool (!(i).isNone)) g
variable{a b K w}
theorem gM.of(h:gM.W a b K w):bu prog 47 #[.pointer a,.agg b] w K:=
 rqq func47 (C:=gM.k) h
end
def bM.k:List Nat:= []
def bM.q1(K:KT):aO:=(aN 0 (cF (sR (sR (body f75)))++(aT f75)) (b7 (fun cg w_=>match cutAt bM.k (sR (sR (body f75)))with|true=>Holds none [] prog 24 (sR (sR (body f75))) (bR prog f75 K) cg w_|false=>aY none [] prog 24 bM.k (sR (sR (body f75))) (aT f75) (bR prog f75 K) cg w_) (bR prog f75 K)))
def bM.e1(a b:Addr)(s:Int×Int):Env:= [(2,.pointer (some a)),(3,.pointer (some b)),(4,.int .i64 s.1),(5,.int .i64 s.2)]
def bM.u1:List Nat:= [2,3,4,5]
section
variable(a b:AV)(K:KT)(w:World)
def bM.W:Prop:=
 let d:=w.alloc (.cells a 24);let e:=d.alloc (.cells b 24);Holds none [] prog 24 (.loop (lB (bB (sR (sL (sR (body f75))))))) (bM.q1 K) [(2,.pointer (some (⟨w.heap.size,0,none⟩:Addr))),(3,.pointer (some (⟨d.heap.size,0,none⟩:Addr))),(4,.int .i64 0),(5,.int .i64 0)] e
variable{a b K w}
theorem bM.of(h:bM.W a b K w):bu prog 75 #[.agg a,.agg b] w K:=
 rqq func75 (C:=bM.k) h
end
section
variable(a b:Addr)(c d:Int)(Q:aO)(w:World)
def bM.B1:Prop:=
 Split (decide (d<(32:Int))) (let e:=w.drew;(0<=d/\d<(32:Int))/\∃f:Int,e.cell? (a.add (d.toNat*1))=some (.int .u8 f)/\(0<=d/\d<(32:Int))/\∃g:Int,e.cell? (b.add (d.toNat*1))=some (.int .u8 g)/\Split (decide (f<g)) (Q .ret [(2,.pointer (some a)),(3,.pointer (some b)),(4,.int .i64 (-1)),(5,.int .i64 d)] e) (let i:=e.drew;(0<=d/\d<(32:Int))/\∃j:Int,i.cell? (a.add (d.toNat*1))=some (.int .u8 j)/\(0<=d/\d<(32:Int))/\∃k:Int,i.cell? (b.add (d.toNat*1))=some (.int .u8 k)/\Split (decide (j>k)) (Q .ret [(2,.pointer (some a)),(3,.pointer (some b)),(4,.int .i64 1),(5,.int .i64 d)] i) (Q .normal [(2,.pointer (some a)),(3,.pointer (some b)),(4,.int .i64 c),(5,.int .i64 (i64.wrap (d+(1:Int))))] i))) (Q (.exit 0) [(2,.pointer (some a)),(3,.pointer (some b)),(4,.int .i64 c),(5,.int .i64 d)] w)
theorem bM.b1:(aY none [] prog 24 bM.k (lB (bB (sR (sL (sR (body f75)))))) bM.u1 Q [(2,.pointer (some a)),(3,.pointer (some b)),(4,.int .i64 c),(5,.int .i64 d)] w)=bM.B1 a b c d Q w:=by kernel_rfl
variable{a b}
theorem bM.cy(I:Int×Int->World->Prop)(μ:Int×Int->World->Nat)(s:Int×Int){Q:aO}{w:World}(h0:I s w)
 (round:∀s w,I s w->bM.B1 a b (s.1) (s.2) (bQ (bM.e1 a b) I μ s w Q) w):Holds none [] prog 24 (.loop (lB (bB (sR (sL (sR (body f75))))))) Q (bM.e1 a b s) w:=
 bp ng mix (bM.e1 a b) I μ bM.k bM.u1 s (fun s Q w=>bM.B1 a b (s.1) (s.2) Q w) (fun s Q w=>bM.b1 a b (s.1) (s.2) Q w) h0 round
end
section
def bM.cV(a b:Addr)(c d:Int)(K:KT)(w:World):Prop:=
 K (.int .i64 0) w
variable(a b:Addr)(c d:Int)(K:KT)(w:World)
theorem bM.df:(bM.q1 K (.exit 0) [(2,.pointer (some a)),(3,.pointer (some b)),(4,.int .i64 c),(5,.int .i64 d)] w)=bM.cV a b c d K w:=by kernel_rfl
end
def fZ.k:List Nat:= []
section
variable(a:OA)(b:AV)(K:KT)(w:World)
def fZ.W:Prop:=
 let d:=w.alloc (.cells b 24);bu prog 124 #[.pointer a] d fun e f=>∃g:Bool,e=.bool g/\Split g (let i:=f.drew;Is a fun j:Addr=>∃k:Option Nat,i.cell? (j.add 1)=some (.map k)/\∃m:AV,(m.size=32/\Cells i (⟨w.heap.size,0,none⟩:Addr) m)/\∃n:Int,∃o:Bool,(Instr.lookup 127 (.map k) (.agg m) true).run prog i=.ok (.tuple #[.int .i64 n,.bool o]) i/\Split o (Is a fun p:Addr=>∃q:OA,∃r t:Nat,i.cell? (p.add 0)=some (.slice q r t)/\(0<=n/\n<(r:Int))/\Is q fun u:Addr=>∃v:OA,i.cell? (u.add (n.toNat*1))=some (.pointer v)/\K (.pointer v) i) (K (.pointer none) i)) (K (.pointer none) f)
variable{a b K w}
theorem fZ.of(h:fZ.W a b K w):bu prog 90 #[.pointer a,.agg b] w K:=
 rqq func90 (C:=fZ.k) h
end
section
variable(a:Int)(b:OA)(K:KT)(w:World)
variable{a b K w}
end
def ai.k:List Nat:= []
def ai.q1(K:KT):aO:=(aN 0 (cF (sR (sR (sR (body f99))))++(aT f99)) (b7 (fun cg w_=>match cutAt ai.k (sR (sR (sR (body f99))))with|true=>Holds none [] prog 61 (sR (sR (sR (body f99)))) (bR prog f99 K) cg w_|false=>aY none [] prog 61 ai.k (sR (sR (sR (body f99)))) (aT f99) (bR prog f99 K) cg w_) (bR prog f99 K)))
def ai.e1(a:OA)(b c:Nat)(s:(OA)×Nat×Nat×Int):Env:= [(0,.slice a b c),(2,.slice s.1 s.2.1 s.2.2.1),(3,.int .i64 s.2.2.2)]
def ai.u1:List Nat:= [0,2,3]
def ai.q2(Q:aO):aO:=(aN 2 (cF (sR (sR (cT (sR (bB (sL (sR (lB (bB (sR (sL (sR (sR (body f99))))))))))))))++(cF (sR (sR (lB (bB (sR (sL (sR (sR (body f99)))))))))++ai.u1)) (b7 (fun cg w_=>match cutAt ai.k (sR (sR (cT (sR (bB (sL (sR (lB (bB (sR (sL (sR (sR (body f99))))))))))))))with|true=>Holds none [] prog 61 (sR (sR (cT (sR (bB (sL (sR (lB (bB (sR (sL (sR (sR (body f99)))))))))))))) (aN 1 (cF (sR (sR (lB (bB (sR (sL (sR (sR (body f99)))))))))++ai.u1) (b7 (fun cg w_=>match cutAt ai.k (sR (sR (lB (bB (sR (sL (sR (sR (body f99)))))))))with|true=>Holds none [] prog 61 (sR (sR (lB (bB (sR (sL (sR (sR (body f99))))))))) Q cg w_|false=>aY none [] prog 61 ai.k (sR (sR (lB (bB (sR (sL (sR (sR (body f99))))))))) ai.u1 Q cg w_) Q)) cg w_|false=>aY none [] prog 61 ai.k (sR (sR (cT (sR (bB (sL (sR (lB (bB (sR (sL (sR (sR (body f99)))))))))))))) (cF (sR (sR (lB (bB (sR (sL (sR (sR (body f99)))))))))++ai.u1) (aN 1 (cF (sR (sR (lB (bB (sR (sL (sR (sR (body f99)))))))))++ai.u1) (b7 (fun cg w_=>match cutAt ai.k (sR (sR (lB (bB (sR (sL (sR (sR (body f99)))))))))with|true=>Holds none [] prog 61 (sR (sR (lB (bB (sR (sL (sR (sR (body f99))))))))) Q cg w_|false=>aY none [] prog 61 ai.k (sR (sR (lB (bB (sR (sL (sR (sR (body f99))))))))) ai.u1 Q cg w_) Q)) cg w_) (aN 1 (cF (sR (sR (lB (bB (sR (sL (sR (sR (body f99)))))))))++ai.u1) (b7 (fun cg w_=>match cutAt ai.k (sR (sR (lB (bB (sR (sL (sR (sR (body f99)))))))))with|true=>Holds none [] prog 61 (sR (sR (lB (bB (sR (sL (sR (sR (body f99))))))))) Q cg w_|false=>aY none [] prog 61 ai.k (sR (sR (lB (bB (sR (sL (sR (sR (body f99))))))))) ai.u1 Q cg w_) Q))))
def ai.e2(a:OA)(b c:Nat)(d:OA)(e f:Nat)(g:OA)(i j:Nat)(s:Int×Int):Env:= [(0,.slice a b c),(2,.slice d e f),(3,.int .i64 s.1),(4,.slice g i j),(5,.int .i64 s.2)]
def ai.u2:List Nat:= [0,2,3,4,5]
section
variable(a:OA)(b d:Nat)(K:KT)(w:World)
def ai.W:Prop:=
 Split (decide ((b:Int)<(2:Int))) (K (.slice a b d) w) (Holds none [] prog 61 (.loop (lB (bB (sR (sL (sR (sR (body f99)))))))) (ai.q1 K) [(0,.slice a b d),(2,.slice none 0 0),(3,.int .i64 1)] w)
variable{a b d K w}
theorem ai.of(h:ai.W a b d K w):bu prog 99 #[.slice a b d] w K:=
 rqq func99 (C:=ai.k) h
end
section
variable(a:OA)(b c:Nat)(d:OA)(e f:Nat)(g:Int)(Q:aO)(w:World)
def ai.B1:Prop:=
 Split (decide (g<(b:Int))) (let i:=w.drew;(0<=g/\g<(b:Int))/\Is a fun j:Addr=>∃k:AV,(k.size=32/\Cells i (j.add (g.toNat*32)) k)/\(0<=(i64.wrap (g-(1:Int)))/\(i64.wrap (g-(1:Int)))<(b:Int))/\Is a fun m:Addr=>∃n:AV,(n.size=32/\Cells i (m.add ((i64.wrap (g-(1:Int))).toNat*32)) n)/\(dS .u8 32 k/\dS .u8 32 n)/\Split (e8 k n) ((0<=g/\g<=(b:Int))/\Holds none [] prog 61 (.loop (lB (bB (sR (sL (sR (cT (sR (bB (sL (sR (lB (bB (sR (sL (sR (sR (body f99)))))))))))))))))) (ai.q2 Q) [(0,.slice a b c),(2,.slice d e f),(3,.int .i64 g),(4,.slice (if c=g.toNat then a else a.map (·.add (g.toNat*32))) (b-g.toNat) (c-g.toNat)),(5,.int .i64 1)] i) (Q .normal [(0,.slice a b c),(2,.slice d e f),(3,.int .i64 (i64.wrap (g+(1:Int))))] i)) (Q (.exit 0) [(0,.slice a b c),(2,.slice d e f),(3,.int .i64 g)] w)
theorem ai.b1:(aY none [] prog 61 ai.k (lB (bB (sR (sL (sR (sR (body f99))))))) ai.u1 Q [(0,.slice a b c),(2,.slice d e f),(3,.int .i64 g)] w)=ai.B1 a b c d e f g Q w:=by kernel_rfl
variable{a b c}
theorem ai.cy(I:(OA)×Nat×Nat×Int->World->Prop)(μ:(OA)×Nat×Nat×Int->World->Nat)(s:(OA)×Nat×Nat×Int){Q:aO}{w:World}(h0:I s w)
 (round:∀s w,I s w->ai.B1 a b c (s.1) (s.2.1) (s.2.2.1) (s.2.2.2) (bQ (ai.e1 a b c) I μ s w Q) w):Holds none [] prog 61 (.loop (lB (bB (sR (sL (sR (sR (body f99)))))))) Q (ai.e1 a b c s) w:=
 bp ng mix (ai.e1 a b c) I μ ai.k ai.u1 s (fun s Q w=>ai.B1 a b c (s.1) (s.2.1) (s.2.2.1) (s.2.2.2) Q w) (fun s Q w=>ai.b1 a b c (s.1) (s.2.1) (s.2.2.1) (s.2.2.2) Q w) h0 round
end
section
def ai.cV(a:OA)(b c:Nat)(d:OA)(e f:Nat)(g:Int)(K:KT)(w:World):Prop:=
 K (.slice a b c) w
variable(a:OA)(b c:Nat)(d:OA)(e f:Nat)(g:Int)(K:KT)(w:World)
theorem ai.df:(ai.q1 K (.exit 0) [(0,.slice a b c),(2,.slice d e f),(3,.int .i64 g)] w)=ai.cV a b c d e f g K w:=by kernel_rfl
end
section
variable(a:OA)(b c:Nat)(d:OA)(e f:Nat)(g:Int)(i:OA)(j k:Nat)(m:Int)(Q:aO)(w:World)
def ai.B2:Prop:=
 Split (decide (m<(j:Int))) (let n:=w.drew;(0<=m/\m<(j:Int))/\Is i fun o:Addr=>∃p:AV,(p.size=32/\Cells n (o.add (m.toNat*32)) p)/\(0<=(i64.wrap (m-(1:Int)))/\(i64.wrap (m-(1:Int)))<(j:Int))/\Is i fun q:Addr=>∃r:AV,(r.size=32/\Cells n (q.add ((i64.wrap (m-(1:Int))).toNat*32)) r)/\(dS .u8 32 p/\dS .u8 32 r)/\Split (!(e8 p r)) ((0<=m/\m<(j:Int))/\Is i fun t:Addr=>∃u:AV,(u.size=32/\Cells n (t.add (m.toNat*32)) u)/\(0<=g/\g<(b:Int))/\Is a fun v:Addr=>(u.size=32/\(∀x∈u.toList,x.oneCell'=true)/\∀y,y<32->Wr n ((v.add (g.toNat*32)).add y))/\let z:=setCells n (v.add (g.toNat*32)) u.toList 0;Q .normal [(0,.slice a b c),(2,.slice d e f),(3,.int .i64 (i64.wrap (g+(1:Int)))),(4,.slice i j k),(5,.int .i64 (i64.wrap (m+(1:Int))))] z) (Q .normal [(0,.slice a b c),(2,.slice d e f),(3,.int .i64 g),(4,.slice i j k),(5,.int .i64 (i64.wrap (m+(1:Int))))] n)) (Q (.exit 2) [(0,.slice a b c),(2,.slice d e f),(3,.int .i64 g),(4,.slice i j k),(5,.int .i64 m)] w)
theorem ai.b2:(aY none [] prog 61 ai.k (lB (bB (sR (sL (sR (cT (sR (bB (sL (sR (lB (bB (sR (sL (sR (sR (body f99))))))))))))))))) ai.u2 Q [(0,.slice a b c),(2,.slice d e f),(3,.int .i64 g),(4,.slice i j k),(5,.int .i64 m)] w)=ai.B2 a b c d e f g i j k m Q w:=by kernel_rfl
variable{a b c d e f i j k}
theorem ai.iq(I:Int×Int->World->Prop)(μ:Int×Int->World->Nat)(s:Int×Int){Q:aO}{w:World}(h0:I s w)
 (round:∀s w,I s w->ai.B2 a b c d e f (s.1) i j k (s.2) (bQ (ai.e2 a b c d e f i j k) I μ s w Q) w):Holds none [] prog 61 (.loop (lB (bB (sR (sL (sR (cT (sR (bB (sL (sR (lB (bB (sR (sL (sR (sR (body f99)))))))))))))))))) Q (ai.e2 a b c d e f i j k s) w:=
 bp ng mix (ai.e2 a b c d e f i j k) I μ ai.k ai.u2 s (fun s Q w=>ai.B2 a b c d e f (s.1) i j k (s.2) Q w) (fun s Q w=>ai.b2 a b c d e f (s.1) i j k (s.2) Q w) h0 round
end
section
def ai.iZ(a:OA)(b c:Nat)(d:OA)(e f:Nat)(g:Int)(i:OA)(j k:Nat)(m:Int)(Q:aO)(w:World):Prop:=
 (0<=g/\g<=(b:Int))/\∃(n:Value) (o:World),(Builtin.clear_ #[33] 0 #[.slice (if c=g.toNat then a else a.map (·.add (g.toNat*32))) (b-g.toNat) (c-g.toNat)]).run prog w=.ok n o/\(0<=g/\g<=(c:Int))/\Q .ret [(0,.slice a b c),(2,.slice (if c=0 then a else a.map (·.add (0*32))) (g.toNat-0) (c-0)),(3,.int .i64 g)] o
variable(a:OA)(b c:Nat)(d:OA)(e f:Nat)(g:Int)(i:OA)(j k:Nat)(m:Int)(Q:aO)(w:World)
theorem ai.kL:(ai.q2 Q (.exit 2) [(0,.slice a b c),(2,.slice d e f),(3,.int .i64 g),(4,.slice i j k),(5,.int .i64 m)] w)=ai.iZ a b c d e f g i j k m Q w:=by kernel_rfl
end
def dD.k:List Nat:= []
section
variable(a b:AV)(K:KT)(w:World)
def dD.W:Prop:=
 let d:=w.alloc (.cells a 24);let e:=d.alloc (.cells b 24);let f:=e.drew;bu prog 138 #[.slice (some (if 32=0 then(⟨w.heap.size,0,none⟩:Addr)else(⟨w.heap.size,0,none⟩:Addr).add (0*1))) (32-0) (32-0),.slice (some (if 32=0 then(⟨d.heap.size,0,none⟩:Addr)else(⟨d.heap.size,0,none⟩:Addr).add (0*1))) (32-0) (32-0)] f fun g i=>∃j:Int,g=.int .i64 j/\K (.int .i64 j) i
variable{a b K w}
theorem dD.of(h:dD.W a b K w):bu prog 102 #[.agg a,.agg b] w K:=
 rqq func102 (C:=dD.k) h
end
def gz.k:List Nat:= []
section
variable(a:OA)(K:KT)(w:World)
def gz.W:Prop:=
 Split (!(a).isNone) (Is a fun b:Addr=>∃d:Option Nat,w.cell? (b.add 1)=some (.map d)/\K (.bool (!(d).isNone)) w) (K (.bool false) w)
variable{a K w}
theorem gz.of(h:gz.W a K w):bu prog 124 #[.pointer a] w K:=
 rqq func124 (C:=gz.k) h
end
def iA.k:List Nat:= []
section
variable(a:OA)(b d:Nat)(e:OA)(f g:Nat)(K:KT)(w:World)
def iA.W:Prop:=
 EY prog 157 #[.slice a b d,.slice e f g] w fun i j=>∃k:Int,i=.int .i64 k/\K (.int .i64 k) j
variable{a b d e f g K w}
theorem iA.of(h:iA.W a b d e f g K w):bu prog 138 #[.slice a b d,.slice e f g] w K:=
 rqq func138 (C:=iA.k) h
end
def cD.k:List Nat:= []
def cD.q1(K:KT):aO:=(aN 0 (cF (sR (sR (body f143)))++(aT f143)) (b7 (fun cg w_=>match cutAt cD.k (sR (sR (body f143)))with|true=>Holds none [] prog 30 (sR (sR (body f143))) (bR prog f143 K) cg w_|false=>aY none [] prog 30 cD.k (sR (sR (body f143))) (aT f143) (bR prog f143 K) cg w_) (bR prog f143 K)))
def cD.e1(a:OA)(b c:Nat)(d:OA)(e f:Nat)(g:Int)(s:(OA)×Nat×Nat×Int):Env:= [(0,.slice s.1 s.2.1 s.2.2.1),(4,.slice a b c),(7,.slice d e f),(8,.int .i64 g),(9,.int .i64 s.2.2.2)]
def cD.u1:List Nat:= [0,4,7,8,9]
section
variable(a:OA)(b d:Nat)(e:OA)(f g:Nat)(K:KT)(w:World)
def cD.W:Prop:=
 Holds none [] prog 30 (.loop (lB (bB (sR (sL (sR (body f143))))))) (cD.q1 K) [(0,.slice a b d),(4,.slice none 0 0),(7,.slice e f g),(8,.int .i64 (f:Int)),(9,.int .i64 0)] w
variable{a b d e f g K w}
theorem cD.of(h:cD.W a b d e f g K w):bu prog 143 #[.slice a b d,.slice e f g] w K:=
 rqq func143 (C:=cD.k) h
end
section
variable(a:OA)(b c:Nat)(d:OA)(e f:Nat)(g:OA)(i j:Nat)(k m:Int)(Q:aO)(w:World)
def cD.B1:Prop:=
 Split (decide (m<k)) ((0<=m/\m<(i:Int))/\Is g fun n:Addr=>∃o:Int,w.cell? (n.add (m.toNat*1))=some (.int .u64 o)/\Split (m==(b:Int)) (let p:=w.alloc (.cells #[.int .u64 0] 22);∃(q:OA) (r t:Nat) (u:World),(Builtin.append_ #[143,143] 143 #[.slice a b c,.slice (some (⟨w.heap.size,0,none⟩:Addr)) 1 1]).run prog p=.ok (.slice q r t) u/\(0<=m/\m<(r:Int))/\Is q fun v:Addr=>∃x:Int,u.cell? (v.add (m.toNat*1))=some (.int .u64 x)/\(0<=m/\m<(r:Int))/\Is q fun y:Addr=>Wr u (y.add (m.toNat*1))/\let z:=u.setCell (y.add (m.toNat*1)) (.int .u64 (u64.wrap ((BitVec.ofInt 64 x|||BitVec.ofInt 64 o).toNat)));Q .normal [(0,.slice q r t),(4,.slice d e f),(7,.slice g i j),(8,.int .i64 k),(9,.int .i64 (i64.wrap (m+(1:Int))))] z) ((0<=m/\m<(b:Int))/\Is a fun a1:Addr=>∃b1:Int,w.cell? (a1.add (m.toNat*1))=some (.int .u64 b1)/\(0<=m/\m<(b:Int))/\Is a fun c1:Addr=>Wr w (c1.add (m.toNat*1))/\let d1:=w.setCell (c1.add (m.toNat*1)) (.int .u64 (u64.wrap ((BitVec.ofInt 64 b1|||BitVec.ofInt 64 o).toNat)));Q .normal [(0,.slice a b c),(4,.slice d e f),(7,.slice g i j),(8,.int .i64 k),(9,.int .i64 (i64.wrap (m+(1:Int))))] d1)) (Q (.exit 0) [(0,.slice a b c),(4,.slice d e f),(7,.slice g i j),(8,.int .i64 k),(9,.int .i64 m)] w)
theorem cD.b1:(aY none [] prog 30 cD.k (lB (bB (sR (sL (sR (body f143)))))) cD.u1 Q [(0,.slice a b c),(4,.slice d e f),(7,.slice g i j),(8,.int .i64 k),(9,.int .i64 m)] w)=cD.B1 a b c d e f g i j k m Q w:=by kernel_rfl
variable{d e f g i j k}
theorem cD.cy(I:(OA)×Nat×Nat×Int->World->Prop)(μ:(OA)×Nat×Nat×Int->World->Nat)(s:(OA)×Nat×Nat×Int){Q:aO}{w:World}(h0:I s w)
 (round:∀s w,I s w->cD.B1 (s.1) (s.2.1) (s.2.2.1) d e f g i j k (s.2.2.2) (bQ (cD.e1 d e f g i j k) I μ s w Q) w):Holds none [] prog 30 (.loop (lB (bB (sR (sL (sR (body f143))))))) Q (cD.e1 d e f g i j k s) w:=
 bp ng mix (cD.e1 d e f g i j k) I μ cD.k cD.u1 s (fun s Q w=>cD.B1 (s.1) (s.2.1) (s.2.2.1) d e f g i j k (s.2.2.2) Q w) (fun s Q w=>cD.b1 (s.1) (s.2.1) (s.2.2.1) d e f g i j k (s.2.2.2) Q w) h0 round
end
section
def cD.cV(a:OA)(b c:Nat)(d:OA)(e f:Nat)(g:OA)(i j:Nat)(k m:Int)(K:KT)(w:World):Prop:=
 K (.slice a b c) w
variable(a:OA)(b c:Nat)(d:OA)(e f:Nat)(g:OA)(i j:Nat)(k m:Int)(K:KT)(w:World)
theorem cD.df:(cD.q1 K (.exit 0) [(0,.slice a b c),(4,.slice d e f),(7,.slice g i j),(8,.int .i64 k),(9,.int .i64 m)] w)=cD.cV a b c d e f g i j k m K w:=by kernel_rfl
end
def eM.k:List Nat:= []
section
variable(a:AV)(b:Addr)(K:KT)(w:World)
def eM.W:Prop:=
 let d:=w.alloc (.cells a 24);∃e:OA,d.cell? b=some (.pointer e)/\∃f:AV,(f.size=32/\Cells d (⟨w.heap.size,0,none⟩:Addr) f)/\bu prog 47 #[.pointer e,.agg f] d fun g i=>∃j:Bool,g=.bool j/\K (.bool (!j)) i
variable{a b K w}
theorem eM.of(h:eM.W a b K w):bu prog 145 #[.agg a,.pointer (some b)] w K:=
 rqq func145 (C:=eM.k) h
end
def bP.k:List Nat:= []
def bP.q1(K:KT):aO:=(aN 0 (cF (sR (sR (body f146)))++(aT f146)) (b7 (fun cg w_=>match cutAt bP.k (sR (sR (body f146)))with|true=>Holds none [] prog 24 (sR (sR (body f146))) (bR prog f146 K) cg w_|false=>aY none [] prog 24 bP.k (sR (sR (body f146))) (aT f146) (bR prog f146 K) cg w_) (bR prog f146 K)))
def bP.e1(a:Int)(b:OA)(c d:Nat)(s:(OA)×Nat×Nat):Env:= [(0,.slice s.1 s.2.1 s.2.2),(1,.int .i64 a),(4,.slice b c d)]
def bP.u1:List Nat:= [0,1,4]
section
variable(a:OA)(b d:Nat)(e:Int)(K:KT)(w:World)
def bP.W:Prop:=
 Holds none [] prog 24 (.loop (lB (bB (sL (sR (body f146)))))) (bP.q1 K) [(0,.slice a b d),(1,.int .i64 e),(4,.slice none 0 0)] w
variable{a b d e K w}
theorem bP.of(h:bP.W a b d e K w):bu prog 146 #[.slice a b d,.int .i64 e] w K:=
 rqq func146 (C:=bP.k) h
end
section
variable(a:OA)(b c:Nat)(d:Int)(e:OA)(f g:Nat)(Q:aO)(w:World)
def bP.B1:Prop:=
 (64:Int)≠0/\Split (decide ((b:Int)<=(i64.wrap (d.tdiv (64:Int))))) (let i:=w.alloc (.cells #[.int .u64 0] 22);∃(j:OA) (k m:Nat) (n:World),(Builtin.append_ #[143,143] 143 #[.slice a b c,.slice (some (⟨w.heap.size,0,none⟩:Addr)) 1 1]).run prog i=.ok (.slice j k m) n/\Q .normal [(0,.slice j k m),(1,.int .i64 d),(4,.slice e f g)] n) (Q (.exit 0) [(0,.slice a b c),(1,.int .i64 d),(4,.slice e f g)] w)
theorem bP.b1:(aY none [] prog 24 bP.k (lB (bB (sL (sR (body f146))))) bP.u1 Q [(0,.slice a b c),(1,.int .i64 d),(4,.slice e f g)] w)=bP.B1 a b c d e f g Q w:=by kernel_rfl
variable{d e f g}
theorem bP.cy(I:(OA)×Nat×Nat->World->Prop)(μ:(OA)×Nat×Nat->World->Nat)(s:(OA)×Nat×Nat){Q:aO}{w:World}(h0:I s w)
 (round:∀s w,I s w->bP.B1 (s.1) (s.2.1) (s.2.2) d e f g (bQ (bP.e1 d e f g) I μ s w Q) w):Holds none [] prog 24 (.loop (lB (bB (sL (sR (body f146)))))) Q (bP.e1 d e f g s) w:=
 bp ng mix (bP.e1 d e f g) I μ bP.k bP.u1 s (fun s Q w=>bP.B1 (s.1) (s.2.1) (s.2.2) d e f g Q w) (fun s Q w=>bP.b1 (s.1) (s.2.1) (s.2.2) d e f g Q w) h0 round
end
section
def bP.cV(a:OA)(b c:Nat)(d:Int)(e:OA)(f g:Nat)(K:KT)(w:World):Prop:=
 let i:=w.drew;(64:Int)≠0/\(0<=(i64.wrap (d.tdiv (64:Int)))/\(i64.wrap (d.tdiv (64:Int)))<(b:Int))/\Is a fun j:Addr=>∃k:Int,i.cell? (j.add ((i64.wrap (d.tdiv (64:Int))).toNat*1))=some (.int .u64 k)/\(64:Int)≠0/\0<=(d.tmod (64:Int))/\(0<=(i64.wrap (d.tdiv (64:Int)))/\(i64.wrap (d.tdiv (64:Int)))<(b:Int))/\Is a fun m:Addr=>Wr i (m.add ((i64.wrap (d.tdiv (64:Int))).toNat*1))/\let n:=i.setCell (m.add ((i64.wrap (d.tdiv (64:Int))).toNat*1)) (.int .u64 (u64.wrap ((BitVec.ofInt 64 k|||BitVec.ofInt 64 (u64.wrap ((1:Int)*2 ^ (min (d.tmod (64:Int)).toNat 64)))).toNat)));K (.slice a b c) n
variable(a:OA)(b c:Nat)(d:Int)(e:OA)(f g:Nat)(K:KT)(w:World)
theorem bP.df:(bP.q1 K (.exit 0) [(0,.slice a b c),(1,.int .i64 d),(4,.slice e f g)] w)=bP.cV a b c d e f g K w:=by kernel_rfl
end
section
variable(a:OA)(K:KT)(w:World)
variable{a K w}
end
section
variable(a:OA)(b c:Nat)(d:OA)(e f:Nat)(g:OA)(i j:Nat)(k m:Int)(Q:aO)(w:World)
variable{a b c g i j k}
end
section
variable(a:OA)(b c:Nat)(d:OA)(e f:Nat)(g:OA)(i j:Nat)(k m:Int)(K:KT)(w:World)
end
def aw.k:List Nat:= []
def aw.q1(K:KT):aO:=(aN 0 (cF (sR (sR (body f91)))++(aT f91)) (b7 (fun cg w_=>match cutAt aw.k (sR (sR (body f91)))with|true=>Holds none [] prog 19 (sR (sR (body f91))) (bR prog f91 K) cg w_|false=>aY none [] prog 19 aw.k (sR (sR (body f91))) (aT f91) (bR prog f91 K) cg w_) (bR prog f91 K)))
def aw.e1(a:OA)(b c:Nat)(d:Addr)(e:Int)(s:Int×Int):Env:= [(0,.slice a b c),(1,.func (.func 145) #[] #[.pointer (some d)]),(4,.int .i64 s.1),(7,.int .i64 e),(8,.int .i64 s.2)]
def aw.u1:List Nat:= [0,1,4,7,8]
section
variable(a:OA)(b d:Nat)(e:Addr)(K:KT)(w:World)
def aw.W:Prop:=
 Holds none [] prog 19 (.loop (lB (bB (sR (sL (sR (body f91))))))) (aw.q1 K) [(0,.slice a b d),(1,.func (.func 145) #[] #[.pointer (some e)]),(4,.int .i64 0),(7,.int .i64 (b:Int)),(8,.int .i64 0)] w
variable{a b d e K w}
theorem aw.of(h:aw.W a b d e K w):bu prog 91 #[.slice a b d,.func (.func 145) #[] #[.pointer (some e)]] w K:=
 rqq func91 (C:=aw.k) h
end
section
variable(a:OA)(b c:Nat)(d:Addr)(e f g:Int)(Q:aO)(w:World)
def aw.B1:Prop:=
 Split (decide (g<f)) ((0<=g/\g<(b:Int))/\Is a fun i:Addr=>∃j:AV,(j.size=32/\Cells w (i.add (g.toNat*32)) j)/\bu prog 145 #[.agg j,.pointer (some d)] w fun k m=>∃n:Bool,k=.bool n/\Split n (Q .ret [(0,.slice a b c),(1,.func (.func 145) #[] #[.pointer (some d)]),(4,.int .i64 g),(7,.int .i64 f),(8,.int .i64 g)] m) (Q .normal [(0,.slice a b c),(1,.func (.func 145) #[] #[.pointer (some d)]),(4,.int .i64 e),(7,.int .i64 f),(8,.int .i64 (i64.wrap (g+(1:Int))))] m)) (Q (.exit 0) [(0,.slice a b c),(1,.func (.func 145) #[] #[.pointer (some d)]),(4,.int .i64 e),(7,.int .i64 f),(8,.int .i64 g)] w)
theorem aw.b1:(aY none [] prog 19 aw.k (lB (bB (sR (sL (sR (body f91)))))) aw.u1 Q [(0,.slice a b c),(1,.func (.func 145) #[] #[.pointer (some d)]),(4,.int .i64 e),(7,.int .i64 f),(8,.int .i64 g)] w)=aw.B1 a b c d e f g Q w:=by kernel_rfl
variable{a b c d f}
theorem aw.cy(I:Int×Int->World->Prop)(μ:Int×Int->World->Nat)(s:Int×Int){Q:aO}{w:World}(h0:I s w)
 (round:∀s w,I s w->aw.B1 a b c d (s.1) f (s.2) (bQ (aw.e1 a b c d f) I μ s w Q) w):Holds none [] prog 19 (.loop (lB (bB (sR (sL (sR (body f91))))))) Q (aw.e1 a b c d f s) w:=
 bp ng mix (aw.e1 a b c d f) I μ aw.k aw.u1 s (fun s Q w=>aw.B1 a b c d (s.1) f (s.2) Q w) (fun s Q w=>aw.b1 a b c d (s.1) f (s.2) Q w) h0 round
end
section
def aw.cV(a:OA)(b c:Nat)(d:Addr)(e f g:Int)(K:KT)(w:World):Prop:=
 K (.int .i64 (-1)) w
variable(a:OA)(b c:Nat)(d:Addr)(e f g:Int)(K:KT)(w:World)
theorem aw.df:(aw.q1 K (.exit 0) [(0,.slice a b c),(1,.func (.func 145) #[] #[.pointer (some d)]),(4,.int .i64 e),(7,.int .i64 f),(8,.int .i64 g)] w)=aw.cV a b c d e f g K w:=by kernel_rfl
end
def cr.k:List Nat:= []
section
variable(a:OA)(b d:Nat)(e:Addr)(K:KT)(w:World)
def cr.W:Prop:=
 bu prog 91 #[.slice a b d,.func (.func 145) #[] #[.pointer (some e)]] w fun f g=>∃i:Int,f=.int .i64 i/\K (.bool (decide (i>=(0:Int)))) g
variable{a b d e K w}
theorem cr.of(h:cr.W a b d e K w):bu prog 68 #[.slice a b d,.func (.func 145) #[] #[.pointer (some e)]] w K:=
 rqq func68 (C:=cr.k) h
end
def aJ.k:List Nat:= []
def aJ.q1(K:KT):aO:=(aN 0 (aT f158) (bR prog f158 K))
def aJ.e1(a:Nat)(b:OA)(c d:Nat)(e s:Int):Env:= [(0,.func (.yield a) #[] #[]),(5,.slice b c d),(6,.int .i64 e),(7,.int .i64 s)]
def aJ.u1:List Nat:= [0,5,6,7]
def aJ.q2(Q:aO):aO:=(aN 2 (cF (sR (sR (sR (lB (bB (sR (body f158)))))))++aJ.u1) (aN 1 (cF (sR (sR (sR (lB (bB (sR (body f158)))))))++aJ.u1) (b7 (fun cg w_=>match cutAt aJ.k (sR (sR (sR (lB (bB (sR (body f158)))))))with|true=>Holds none [] prog 27 (sR (sR (sR (lB (bB (sR (body f158))))))) Q cg w_|false=>aY none [] prog 27 aJ.k (sR (sR (sR (lB (bB (sR (body f158))))))) aJ.u1 Q cg w_) Q)))
def aJ.e2(a:Nat)(b:Int)(c:OA)(d e:Nat)(f g s:Int):Env:= [(0,.func (.yield a) #[] #[]),(3,.int .i64 b),(4,.int .u64 s),(5,.slice c d e),(6,.int .i64 f),(7,.int .i64 g)]
def aJ.u2:List Nat:= [0,3,4,5,6,7]
section
variable(a:Nat)(b:Addr)(K:KT)(w:World)
def aJ.W:Prop:=
 ∃d:OA,∃e f:Nat,w.cell? b=some (.slice d e f)/\Holds none [] prog 27 (.loop (lB (bB (sR (body f158))))) (aJ.q1 K) [(0,.func (.yield a) #[] #[]),(5,.slice d e f),(6,.int .i64 (e:Int)),(7,.int .i64 0)] w
variable{a b K w}
theorem aJ.of(h:aJ.W a b K w):bu prog 158 #[.func (.yield a) #[] #[],.pointer (some b)] w K:=
 rqq func158 (C:=aJ.k) h
end
section
variable(a:Nat)(b:OA)(c d:Nat)(e f:Int)(Q:aO)(w:World)
def aJ.B1:Prop:=
 Split (decide (f<e)) ((0<=f/\f<(c:Int))/\Is b fun g:Addr=>∃i:Int,w.cell? (g.add (f.toNat*1))=some (.int .u64 i)/\Holds none [] prog 27 (.loop (lB (bB (sR (bB (sL (sR (sR (lB (bB (sR (body f158)))))))))))) (aJ.q2 Q) [(0,.func (.yield a) #[] #[]),(3,.int .i64 f),(4,.int .u64 i),(5,.slice b c d),(6,.int .i64 e),(7,.int .i64 f)] w) (Q (.exit 0) [(0,.func (.yield a) #[] #[]),(5,.slice b c d),(6,.int .i64 e),(7,.int .i64 f)] w)
theorem aJ.b1:(aY none [] prog 27 aJ.k (lB (bB (sR (body f158)))) aJ.u1 Q [(0,.func (.yield a) #[] #[]),(5,.slice b c d),(6,.int .i64 e),(7,.int .i64 f)] w)=aJ.B1 a b c d e f Q w:=by kernel_rfl
variable{a b c d e}
theorem aJ.cy(I:Int->World->Prop)(μ:Int->World->Nat)(s:Int){Q:aO}{w:World}(h0:I s w)
 (round:∀s w,I s w->aJ.B1 a b c d e s (bQ (aJ.e1 a b c d e) I μ s w Q) w):Holds none [] prog 27 (.loop (lB (bB (sR (body f158))))) Q (aJ.e1 a b c d e s) w:=
 bp ng mix (aJ.e1 a b c d e) I μ aJ.k aJ.u1 s (fun s Q w=>aJ.B1 a b c d e s Q w) (fun s Q w=>aJ.b1 a b c d e s Q w) h0 round
end
section
def aJ.cV(a:Nat)(b:OA)(c d:Nat)(e f:Int)(K:KT)(w:World):Prop:=
 K (.tuple #[]) w
variable(a:Nat)(b:OA)(c d:Nat)(e f:Int)(K:KT)(w:World)
theorem aJ.df:(aJ.q1 K (.exit 0) [(0,.func (.yield a) #[] #[]),(5,.slice b c d),(6,.int .i64 e),(7,.int .i64 f)] w)=aJ.cV a b c d e f K w:=by kernel_rfl
end
section
variable(a:Nat)(b c:Int)(d:OA)(e f:Nat)(g i:Int)(Q:aO)(w:World)
def aJ.B2:Prop:=
 Split (c != (0:Int)) (bu prog 159 #[.int .u64 c] w fun j k=>∃m:Int,j=.int .i64 m/\jC prog a #[.int .i64 (i64.wrap ((i64.wrap ((64:Int)*b))+m))] k fun n o=>Split (!n) (Q .ret [(0,.func (.yield a) #[] #[]),(3,.int .i64 b),(4,.int .u64 c),(5,.slice d e f),(6,.int .i64 g),(7,.int .i64 i)] o) (Q .normal [(0,.func (.yield a) #[] #[]),(3,.int .i64 b),(4,.int .u64 (u64.wrap ((BitVec.ofInt 64 c&&& BitVec.ofInt 64 (u64.wrap (c-(1:Int)))).toNat))),(5,.slice d e f),(6,.int .i64 g),(7,.int .i64 i)] o)) (Q (.exit 2) [(0,.func (.yield a) #[] #[]),(3,.int .i64 b),(4,.int .u64 c),(5,.slice d e f),(6,.int .i64 g),(7,.int .i64 i)] w)
theorem aJ.b2:(aY none [] prog 27 aJ.k (lB (bB (sR (bB (sL (sR (sR (lB (bB (sR (body f158))))))))))) aJ.u2 Q [(0,.func (.yield a) #[] #[]),(3,.int .i64 b),(4,.int .u64 c),(5,.slice d e f),(6,.int .i64 g),(7,.int .i64 i)] w)=aJ.B2 a b c d e f g i Q w:=by kernel_rfl
variable{a b d e f g i}
theorem aJ.iq(I:Int->World->Prop)(μ:Int->World->Nat)(s:Int){Q:aO}{w:World}(h0:I s w)
 (round:∀s w,I s w->aJ.B2 a b s d e f g i (bQ (aJ.e2 a b d e f g i) I μ s w Q) w):Holds none [] prog 27 (.loop (lB (bB (sR (bB (sL (sR (sR (lB (bB (sR (body f158)))))))))))) Q (aJ.e2 a b d e f g i s) w:=
 bp ng mix (aJ.e2 a b d e f g i) I μ aJ.k aJ.u2 s (fun s Q w=>aJ.B2 a b s d e f g i Q w) (fun s Q w=>aJ.b2 a b s d e f g i Q w) h0 round
end
section
def aJ.iZ(a:Nat)(b c:Int)(d:OA)(e f:Nat)(g i:Int)(Q:aO)(w:World):Prop:=
 Q .normal [(0,.func (.yield a) #[] #[]),(5,.slice d e f),(6,.int .i64 g),(7,.int .i64 (i64.wrap (i+(1:Int))))] w
variable(a:Nat)(b c:Int)(d:OA)(e f:Nat)(g i:Int)(Q:aO)(w:World)
theorem aJ.kL:(aJ.q2 Q (.exit 2) [(0,.func (.yield a) #[] #[]),(3,.int .i64 b),(4,.int .u64 c),(5,.slice d e f),(6,.int .i64 g),(7,.int .i64 i)] w)=aJ.iZ a b c d e f g i Q w:=by kernel_rfl
end
def aG.k:List Nat:= []
def aG.q1(K:KT):aO:=(aN 0 (aT f137) (bR prog f137 K))
def aG.e1(a:Nat)(b:OA)(c d:Nat)(e s:Int):Env:= [(0,.func (.yield a) #[] #[]),(5,.slice b c d),(6,.int .i64 e),(7,.int .i64 s)]
def aG.u1:List Nat:= [0,5,6,7]
section
variable(a:Nat)(b:Addr)(K:KT)(w:World)
def aG.W:Prop:=
 ∃d:OA,∃e f:Nat,w.cell? b=some (.slice d e f)/\Holds none [] prog 16 (.loop (lB (bB (sR (body f137))))) (aG.q1 K) [(0,.func (.yield a) #[] #[]),(5,.slice d e f),(6,.int .i64 (e:Int)),(7,.int .i64 0)] w
variable{a b K w}
theorem aG.of(h:aG.W a b K w):bu prog 137 #[.func (.yield a) #[] #[],.pointer (some b)] w K:=
 rqq func137 (C:=aG.k) h
end
section
variable(a:Nat)(b:OA)(c d:Nat)(e f:Int)(Q:aO)(w:World)
def aG.B1:Prop:=
 Split (decide (f<e)) ((0<=f/\f<(c:Int))/\Is b fun g:Addr=>∃i:AV,(i.size=32/\Cells w (g.add (f.toNat*32)) i)/\let j:=w.alloc (.cells zH 24);(i.size=32/\(∀k∈i.toList,k.oneCell'=true)/\∀m,m<32->Wr j ((⟨w.heap.size,0,none⟩:Addr).add m))/\let n:=setCells j (⟨w.heap.size,0,none⟩:Addr) i.toList 0;∃o:AV,(o.size=32/\Cells n (⟨w.heap.size,0,none⟩:Addr) o)/\jC prog a #[.agg o] n fun p q=>Split (!p) (Q .ret [(0,.func (.yield a) #[] #[]),(5,.slice b c d),(6,.int .i64 e),(7,.int .i64 f)] q) (Q .normal [(0,.func (.yield a) #[] #[]),(5,.slice b c d),(6,.int .i64 e),(7,.int .i64 (i64.wrap (f+(1:Int))))] q)) (Q (.exit 0) [(0,.func (.yield a) #[] #[]),(5,.slice b c d),(6,.int .i64 e),(7,.int .i64 f)] w)
theorem aG.b1:(aY none [] prog 16 aG.k (lB (bB (sR (body f137)))) aG.u1 Q [(0,.func (.yield a) #[] #[]),(5,.slice b c d),(6,.int .i64 e),(7,.int .i64 f)] w)=aG.B1 a b c d e f Q w:=by kernel_rfl
variable{a b c d e}
theorem aG.cy(I:Int->World->Prop)(μ:Int->World->Nat)(s:Int){Q:aO}{w:World}(h0:I s w)
 (round:∀s w,I s w->aG.B1 a b c d e s (bQ (aG.e1 a b c d e) I μ s w Q) w):Holds none [] prog 16 (.loop (lB (bB (sR (body f137))))) Q (aG.e1 a b c d e s) w:=
 bp ng mix (aG.e1 a b c d e) I μ aG.k aG.u1 s (fun s Q w=>aG.B1 a b c d e s Q w) (fun s Q w=>aG.b1 a b c d e s Q w) h0 round
end
section
def aG.cV(a:Nat)(b:OA)(c d:Nat)(e f:Int)(K:KT)(w:World):Prop:=
 K (.tuple #[]) w
variable(a:Nat)(b:OA)(c d:Nat)(e f:Int)(K:KT)(w:World)
theorem aG.df:(aG.q1 K (.exit 0) [(0,.func (.yield a) #[] #[]),(5,.slice b c d),(6,.int .i64 e),(7,.int .i64 f)] w)=aG.cV a b c d e f K w:=by kernel_rfl
end
end Go.Proofs.YtfleamccglihoaaGreatDoor
