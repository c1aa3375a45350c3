import Derived.Test.YtfleamccglihoaaGreatDoorProg
import Derived.Test.YtfleamccglihoaaGreatDoorMA
open Go.IntKind (i64 u64)
set_option linter.unusedVariables false
namespace Go.Proofs.YtfleamccglihoaaGreatDoor
open Go.Proofs.Tryz
open Go Go.b0
abbrev OA:=Option Addr
abbrev AV:=Array Value
abbrev KT:=Value->World->Prop
abbrev zH:Array Value:= #[.int .u8 0,.int .u8 0,.int .u8 0,.int .u8 0,.int .u8 0,.int .u8 0,.int .u8 0,.int .u8 0,.int .u8 0,.int .u8 0,.int .u8 0,.int .u8 0,.int .u8 0,.int .u8 0,.int .u8 0,.int .u8 0,.int .u8 0,.int .u8 0,.int .u8 0,.int .u8 0,.int .u8 0,.int .u8 0,.int .u8 0,.int .u8 0,.int .u8 0,.int .u8 0,.int .u8 0,.int .u8 0,.int .u8 0,.int .u8 0,.int .u8 0,.int .u8 0]
abbrev zC:Array Value:= #[.int .u8 0,.int .u8 0,.int .u8 0,.int .u8 0,.int .u8 0,.int .u8 0,.int .u8 0,.int .u8 0,.int .u8 0,.int .u8 0,.int .u8 0,.int .u8 0,.int .u8 0,.int .u8 0,.int .u8 0,.int .u8 0,.int .u8 0,.int .u8 0,.int .u8 0,.int .u8 0,.int .u8 0,.int .u8 0,.int .u8 0,.int .u8 0,.int .u8 0,.int .u8 0,.int .u8 0,.int .u8 0,.int .u8 0,.int .u8 0,.int .u8 0,.int .u8 0,.int .u64 0,.slice none 0 0,.slice none 0 0]
abbrev zS:Array Value:= #[.int .u8 0,.int .u8 0,.int .u8 0,.int .u8 0,.int .u8 0,.int .u8 0,.int .u8 0,.int .u8 0,.int .u8 0,.int .u8 0,.int .u8 0,.int .u8 0,.int .u8 0,.int .u8 0,.int .u8 0,.int .u8 0,.int .u8 0,.int .u8 0,.int .u8 0,.int .u8 0,.int .u8 0,.int .u8 0,.int .u8 0,.int .u8 0,.int .u8 0,.int .u8 0,.int .u8 0,.int .u8 0,.int .u8 0,.int .u8 0,.int .u8 0,.int .u8 0,.int .u64 0,.slice none 0 0,.slice none 0 0,.map none]
abbrev iu:Nat:=3
abbrev jv:Nat:=4
abbrev ju:Nat:=5
abbrev gF:Nat:=22
abbrev al:Nat:=24
abbrev eM:Nat:=26
abbrev dG:Nat:=28
abbrev aF:Nat:=33
abbrev jQ:Nat:=34
abbrev cZ:Nat:=38
abbrev iZ:Nat:=40
abbrev j0:Nat:=42
abbrev uO:Nat:=44
abbrev gg:Nat:=45
abbrev iF:Nat:=47
abbrev fO:Nat:=48
abbrev iy:Nat:=51
abbrev bL:Nat:=53
abbrev jw:Nat:=58
abbrev gP:Nat:=62
abbrev fG:Nat:=63
abbrev iJ:Nat:=65
abbrev b6:Nat:=69
abbrev mY:Nat:=89
abbrev iV:Nat:=98
abbrev wJ:Nat:=121
abbrev fL:Nat:=123
abbrev cV:Nat:=127
abbrev eK:Nat:=129
abbrev iE:Nat:=135
abbrev fg:Nat:=137
abbrev fM:Nat:=138
abbrev BK:Nat:=142
abbrev lN:Nat:=143
abbrev eF:Nat:=145
abbrev tN:Nat:=163
abbrev l9:Nat:=164
abbrev mr:Nat:=170
abbrev iQ:Nat:=172
abbrev jP:Nat:=186
abbrev ji:Nat:=195
abbrev uA:Nat:=197
abbrev jO:Nat:=199
abbrev xz:Nat:=218
abbrev eB.id:Nat:=9
abbrev aC.id:Nat:=12
abbrev iL.id:Nat:=13
abbrev iK.id:Nat:=15
abbrev bO.id:Nat:=16
abbrev cD.id:Nat:=17
abbrev af.id:Nat:=19
abbrev aN.id:Nat:=20
abbrev dJ.id:Nat:=21
abbrev fE.id:Nat:=22
abbrev aJ.id:Nat:=26
abbrev aP.id:Nat:=27
abbrev eo.id:Nat:=28
abbrev bH.id:Nat:=35
abbrev dg.id:Nat:=38
abbrev aG.id:Nat:=39
abbrev bR.id:Nat:=40
abbrev dT.id:Nat:=41
abbrev jg.id:Nat:=42
abbrev kQ.id:Nat:=43
abbrev dS.id:Nat:=44
abbrev eR.id:Nat:=45
abbrev im.id:Nat:=47
abbrev eA.id:Nat:=51
abbrev gY.id:Nat:=53
abbrev dB.id:Nat:=55
abbrev eE.id:Nat:=56
abbrev jM.id:Nat:=57
abbrev eh.id:Nat:=59
abbrev dM.id:Nat:=60
abbrev bu.id:Nat:=61
abbrev cX.id:Nat:=62
abbrev cS.id:Nat:=63
abbrev cQ.id:Nat:=64
abbrev aQ.id:Nat:=65
abbrev bn.id:Nat:=66
abbrev br.id:Nat:=67
abbrev dV.id:Nat:=68
abbrev dA.id:Nat:=69
abbrev cP.id:Nat:=70
abbrev eV.id:Nat:=71
abbrev mL.id:Nat:=72
abbrev dv.id:Nat:=73
abbrev bT.id:Nat:=75
abbrev dc.id:Nat:=80
abbrev bp.id:Nat:=81
abbrev eQ.id:Nat:=82
abbrev ai.id:Nat:=83
abbrev aH.id:Nat:=84
abbrev iN.id:Nat:=85
abbrev az.id:Nat:=86
abbrev kR.id:Nat:=87
abbrev bK.id:Nat:=88
abbrev fR.id:Nat:=89
abbrev gE.id:Nat:=90
abbrev mi.id:Nat:=91
abbrev fT.id:Nat:=94
abbrev eU.id:Nat:=95
abbrev dm.id:Nat:=96
abbrev iG.id:Nat:=97
abbrev bits_Len.id:Nat:=98
abbrev ah.id:Nat:=99
abbrev dP.id:Nat:=102
abbrev eT.id:Nat:=104
abbrev bU.id:Nat:=106
abbrev dR.id:Nat:=107
abbrev dt.id:Nat:=108
abbrev gC.id:Nat:=109
abbrev aY.id:Nat:=111
abbrev ag.id:Nat:=112
abbrev dD.id:Nat:=113
abbrev ct.id:Nat:=114
abbrev bz.id:Nat:=115
abbrev cU.id:Nat:=116
abbrev fJ.id:Nat:=117
abbrev bN.id:Nat:=118
abbrev dE.id:Nat:=119
abbrev hZ.id:Nat:=120
abbrev dZ.id:Nat:=121
abbrev nJ.id:Nat:=122
abbrev fy.id:Nat:=123
abbrev gN.id:Nat:=124
abbrev dN.id:Nat:=125
abbrev fQ.id:Nat:=126
abbrev jC.id:Nat:=127
abbrev kM.id:Nat:=128
abbrev jD.id:Nat:=129
abbrev jR.id:Nat:=130
abbrev jH.id:Nat:=131
abbrev iR.id:Nat:=132
abbrev kl.id:Nat:=134
abbrev bits_Len64.id:Nat:=136
abbrev aI.id:Nat:=137
abbrev iU.id:Nat:=138
abbrev aO.id:Nat:=140
abbrev bt.id:Nat:=141
abbrev fY.id:Nat:=142
abbrev cM.id:Nat:=143
abbrev eW.id:Nat:=145
abbrev bX.id:Nat:=146
abbrev hU.id:Nat:=147
abbrev gA.id:Nat:=148
abbrev gB.id:Nat:=149
abbrev aA.id:Nat:=150
abbrev jm.id:Nat:=151
abbrev kL.id:Nat:=152
abbrev pK.id:Nat:=154
abbrev lj.id:Nat:=156
abbrev aL.id:Nat:=158
abbrev bits_TrailingZeros64.id:Nat:=159
abbrev bM.id:Nat:=160
abbrev bits_Mul64.id:Nat:=161
abbrev bA.id:Nat:=162
abbrev lh.id:Nat:=163
abbrev bits_LeadingZeros64.id:Nat:=164
noncomputable abbrev af.fn:Func:=f19
noncomputable abbrev cX.fn:Func:=f62
noncomputable abbrev cS.fn:Func:=f63
noncomputable abbrev cQ.fn:Func:=f64
noncomputable abbrev bn.fn:Func:=f66
noncomputable abbrev br.fn:Func:=f67
noncomputable abbrev cP.fn:Func:=f70
noncomputable abbrev ai.fn:Func:=f83
noncomputable abbrev aA.fn:Func:=f150
noncomputable abbrev bA.fn:Func:=f162
theorem cX.at_:prog.funcs[(62:Nat)]? =some f62:=func62
theorem cS.at_:prog.funcs[(63:Nat)]? =some f63:=func63
theorem cQ.at_:prog.funcs[(64:Nat)]? =some f64:=func64
theorem bn.at_:prog.funcs[(66:Nat)]? =some f66:=func66
theorem br.at_:prog.funcs[(67:Nat)]? =some f67:=func67
theorem cP.at_:prog.funcs[(70:Nat)]? =some f70:=func70
theorem dP.at_:prog.funcs[(102:Nat)]? =some f102:=func102
theorem ct.at_:prog.funcs[(114:Nat)]? =some f114:=func114
theorem cU.at_:prog.funcs[(116:Nat)]? =some f116:=func116
theorem aI.at_:prog.funcs[(137:Nat)]? =some f137:=func137
theorem bt.at_:prog.funcs[(141:Nat)]? =some f141:=func141
theorem uL.at_:prog.funcs[(157:Nat)]? =some f157:=func157
theorem aL.at_:prog.funcs[(158:Nat)]? =some f158:=func158
theorem ng:NG prog:=by
 have h:(prog.funcs.toList.all fun f=> !(f.name== "runtime.NumGoroutine"))=true:=by kernel_rfl
 intro g fn hf;rw [List.all_eq_true]at h;have:=h fn (by simpa using Array.mem_of_getElem? hf);simpa using this
theorem mix:prog.follows .mixedOrders=true:=by kernel_rfl
theorem rqq{C:List Nat}{f:FuncId}{fn:Func}{args:List Value}{w:World}{K:Value->World->Prop}{W:Prop}(hf:prog.funcs[f]? =some fn)(h:W)(hb:fn.body=some (body fn):=by kernel_rfl)(hn:(Nat.ble args.length fn.ntmps&&Nat.ble fn.ntmps iO)=true:=by kernel_rfl)(hs:bg none [] prog fn.ntmps C (body fn) (aX fn) (bY prog fn K) (oV args 0) w=W:=by kernel_rfl):bG prog f args.toArray w K:=FH ng mix hf hb hn hs h
def cD.k:List Nat:= []
def cD.q1(K:KT):aT:=(aR 0 (cK (aS (sR (body f17)))++(aX f17)) (cg (fun cy w_=>match cutAt cD.k (aS (sR (body f17)))with|true=>Holds none [] prog 26 (aS (sR (body f17))) (bY prog f17 K) cy w_|false=>bg none [] prog 26 cD.k (aS (sR (body f17))) (aX f17) (bY prog f17 K) cy w_) (bY prog f17 K)))
def cD.e1(a:OA)(b c:Nat)(d:OA)(e f:Nat)(s:Bool×Int):Env:= [(0,.slice a b c),(1,.slice d e f),(4,.bool s.1),(5,.int .i64 s.2)]
def cD.u1:List Nat:= [0,1,4,5]
section
variable(a:OA)(b d:Nat)(e:OA)(f g:Nat)(K:KT)(w:World)
def cD.W:Prop:=
 Split ((b:Int) != (f:Int)) (K (.bool false) w) (Holds none [] prog 26 (.loop (lB (bB (sR (sL (aS (body f17))))))) (cD.q1 K) [(0,.slice a b d),(1,.slice e f g),(4,.bool false),(5,.int .i64 0)] w)
variable{a b d e f g K w}
theorem cD.of(h:cD.W a b d e f g K w):bG prog 17 #[.slice a b d,.slice e f g] w K:=
 rqq func17 (C:=cD.k) h
end
section
variable(a:OA)(b c:Nat)(d:OA)(e f:Nat)(g:Bool)(i:Int)(Q:aT)(w:World)
def cD.B1:Prop:=
 Split (decide (i<(b:Int))) (let j:=w.drew;(0<=i/\i<(b:Int))/\Is a fun k:Addr=>∃m:AV,(m.size=32/\Cells j (k.add (i.toNat*32)) m)/\(0<=i/\i<(e:Int))/\Is d fun n:Addr=>∃o:AV,(o.size=32/\Cells j (n.add (i.toNat*32)) o)/\(ft .u8 32 m/\ft .u8 32 o)/\Split (!(fV m o)) (Q .ret [(0,.slice a b c),(1,.slice d e f),(4,.bool false),(5,.int .i64 i)] j) (Q .normal [(0,.slice a b c),(1,.slice d e f),(4,.bool g),(5,.int .i64 (i64.wrap (i+(1:Int))))] j)) (Q (.exit 0) [(0,.slice a b c),(1,.slice d e f),(4,.bool g),(5,.int .i64 i)] w)
theorem cD.b1:(bg none [] prog 26 cD.k (lB (bB (sR (sL (aS (body f17)))))) cD.u1 Q [(0,.slice a b c),(1,.slice d e f),(4,.bool g),(5,.int .i64 i)] w)=cD.B1 a b c d e f g i Q w:=by kernel_rfl
variable{a b c d e f}
theorem cD.cJ(I:Bool×Int->World->Prop)(μ:Bool×Int->World->Nat)(s:Bool×Int){Q:aT}{w:World}(h0:I s w)
 (round:∀s w,I s w->cD.B1 a b c d e f (s.1) (s.2) (bW (cD.e1 a b c d e f) I μ s w Q) w):Holds none [] prog 26 (.loop (lB (bB (sR (sL (aS (body f17))))))) Q (cD.e1 a b c d e f s) w:=
 bC ng mix (cD.e1 a b c d e f) I μ cD.k cD.u1 s (fun s Q w=>cD.B1 a b c d e f (s.1) (s.2) Q w) (fun s Q w=>cD.b1 a b c d e f (s.1) (s.2) Q w) h0 round
end
section
def cD.df(a:OA)(b c:Nat)(d:OA)(e f:Nat)(g:Bool)(i:Int)(K:KT)(w:World):Prop:=
 K (.bool true) w
variable(a:OA)(b c:Nat)(d:OA)(e f:Nat)(g:Bool)(i:Int)(K:KT)(w:World)
theorem cD.dz:(cD.q1 K (.exit 0) [(0,.slice a b c),(1,.slice d e f),(4,.bool g),(5,.int .i64 i)] w)=cD.df a b c d e f g i K w:=by kernel_rfl
end
def aP.k:List Nat:= []
def aP.q1(K:KT):aT:=(aR 0 (cK (aS (sR (body Tryz.f27)))++(aX Tryz.f27)) (cg (fun cy w_=>match cutAt aP.k (aS (sR (body Tryz.f27)))with|true=>Holds none [] prog 56 (aS (sR (body Tryz.f27))) (bY prog Tryz.f27 K) cy w_|false=>bg none [] prog 56 aP.k (aS (sR (body Tryz.f27))) (aX Tryz.f27) (bY prog Tryz.f27 K) cy w_) (bY prog Tryz.f27 K)))
def aP.e1(a:OA)(b c:Nat)(d:OA)(e f:Nat)(s:(OA)×Nat×Nat×Int):Env:= [(0,.slice a b c),(2,.slice d e f),(3,.slice s.1 s.2.1 s.2.2.1),(4,.int .i64 s.2.2.2)]
def aP.u1:List Nat:= [0,2,3,4]
def aP.q2(Q:aT):aT:=(aR 2 (cK (aS (sR (bB (sL (sR (lB (bB (sR (sL (aS (body Tryz.f27)))))))))))++(cK (aS (lB (bB (sR (sL (aS (body Tryz.f27)))))))++aP.u1)) (cg (fun cy w_=>match cutAt aP.k (aS (sR (bB (sL (sR (lB (bB (sR (sL (aS (body Tryz.f27)))))))))))with|true=>Holds none [] prog 56 (aS (sR (bB (sL (sR (lB (bB (sR (sL (aS (body Tryz.f27))))))))))) (aR 1 (cK (aS (lB (bB (sR (sL (aS (body Tryz.f27)))))))++aP.u1) (cg (fun cy w_=>match cutAt aP.k (aS (lB (bB (sR (sL (aS (body Tryz.f27)))))))with|true=>Holds none [] prog 56 (aS (lB (bB (sR (sL (aS (body Tryz.f27))))))) Q cy w_|false=>bg none [] prog 56 aP.k (aS (lB (bB (sR (sL (aS (body Tryz.f27))))))) aP.u1 Q cy w_) Q)) cy w_|false=>bg none [] prog 56 aP.k (aS (sR (bB (sL (sR (lB (bB (sR (sL (aS (body Tryz.f27))))))))))) (cK (aS (lB (bB (sR (sL (aS (body Tryz.f27)))))))++aP.u1) (aR 1 (cK (aS (lB (bB (sR (sL (aS (body Tryz.f27)))))))++aP.u1) (cg (fun cy w_=>match cutAt aP.k (aS (lB (bB (sR (sL (aS (body Tryz.f27)))))))with|true=>Holds none [] prog 56 (aS (lB (bB (sR (sL (aS (body Tryz.f27))))))) Q cy w_|false=>bg none [] prog 56 aP.k (aS (lB (bB (sR (sL (aS (body Tryz.f27))))))) aP.u1 Q cy w_) Q)) cy w_) (aR 1 (cK (aS (lB (bB (sR (sL (aS (body Tryz.f27)))))))++aP.u1) (cg (fun cy w_=>match cutAt aP.k (aS (lB (bB (sR (sL (aS (body Tryz.f27)))))))with|true=>Holds none [] prog 56 (aS (lB (bB (sR (sL (aS (body Tryz.f27))))))) Q cy w_|false=>bg none [] prog 56 aP.k (aS (lB (bB (sR (sL (aS (body Tryz.f27))))))) aP.u1 Q cy w_) Q))))
def aP.e2(a:OA)(b c:Nat)(d:OA)(e f:Nat)(g:OA)(i j:Nat)(k s:Int):Env:= [(0,.slice a b c),(2,.slice d e f),(3,.slice g i j),(4,.int .i64 k),(5,.int .i64 s)]
def aP.u2:List Nat:= [0,2,3,4,5]
section
variable(a:OA)(b d:Nat)(K:KT)(w:World)
def aP.W:Prop:=
 Holds none [] prog 56 (.loop (lB (bB (sR (sL (aS (body Tryz.f27))))))) (aP.q1 K) [(0,.slice a b d),(2,.slice none 0 0),(3,.slice none 0 0),(4,.int .i64 0)] w
variable{a b d K w}
theorem aP.of(h:aP.W a b d K w):bG prog 27 #[.slice a b d] w K:=
 rqq func27 (C:=aP.k) h
end
section
variable(a:OA)(b c:Nat)(d:OA)(e f:Nat)(g:OA)(i j:Nat)(k:Int)(Q:aT)(w:World)
def aP.B1:Prop:=
 Split (decide (k<(b:Int))) ((0<=k/\k<(b:Int))/\Is a fun m:Addr=>∃n:AV,(n.size=32/\Cells w (m.add (k.toNat*32)) n)/\bG prog 38 #[.slice g i j,.agg n] w fun o p=>∃q:Bool,o=.bool q/\Split q (Q .normal [(0,.slice a b c),(2,.slice d e f),(3,.slice g i j),(4,.int .i64 (i64.wrap (k+(1:Int))))] p) (Holds none [] prog 56 (.loop (lB (bB (sL (aS (bB (sL (sR (lB (bB (sR (sL (aS (body Tryz.f27)))))))))))))) (aP.q2 Q) [(0,.slice a b c),(2,.slice d e f),(3,.slice g i j),(4,.int .i64 k),(5,.int .i64 (i:Int))] p)) (Q (.exit 0) [(0,.slice a b c),(2,.slice d e f),(3,.slice g i j),(4,.int .i64 k)] w)
theorem aP.b1:(bg none [] prog 56 aP.k (lB (bB (sR (sL (aS (body Tryz.f27)))))) aP.u1 Q [(0,.slice a b c),(2,.slice d e f),(3,.slice g i j),(4,.int .i64 k)] w)=aP.B1 a b c d e f g i j k Q w:=by kernel_rfl
variable{a b c d e f}
theorem aP.cJ(I:(OA)×Nat×Nat×Int->World->Prop)(μ:(OA)×Nat×Nat×Int->World->Nat)(s:(OA)×Nat×Nat×Int){Q:aT}{w:World}(h0:I s w)
 (round:∀s w,I s w->aP.B1 a b c d e f (s.1) (s.2.1) (s.2.2.1) (s.2.2.2) (bW (aP.e1 a b c d e f) I μ s w Q) w):Holds none [] prog 56 (.loop (lB (bB (sR (sL (aS (body Tryz.f27))))))) Q (aP.e1 a b c d e f s) w:=
 bC ng mix (aP.e1 a b c d e f) I μ aP.k aP.u1 s (fun s Q w=>aP.B1 a b c d e f (s.1) (s.2.1) (s.2.2.1) (s.2.2.2) Q w) (fun s Q w=>aP.b1 a b c d e f (s.1) (s.2.1) (s.2.2.1) (s.2.2.2) Q w) h0 round
end
section
def aP.df(a:OA)(b c:Nat)(d:OA)(e f:Nat)(g:OA)(i j:Nat)(k:Int)(K:KT)(w:World):Prop:=
 K (.slice g i j) w
variable(a:OA)(b c:Nat)(d:OA)(e f:Nat)(g:OA)(i j:Nat)(k:Int)(K:KT)(w:World)
theorem aP.dz:(aP.q1 K (.exit 0) [(0,.slice a b c),(2,.slice d e f),(3,.slice g i j),(4,.int .i64 k)] w)=aP.df a b c d e f g i j k K w:=by kernel_rfl
end
section
variable(a:OA)(b c:Nat)(d:OA)(e f:Nat)(g:OA)(i j:Nat)(k m:Int)(Q:aT)(w:World)
def aP.B2:Prop:=
 let n:=w.drew;Split (decide (m>(0:Int))) ((0<=k/\k<(b:Int))/\Is a fun o:Addr=>∃p:AV,(p.size=32/\Cells n (o.add (k.toNat*32)) p)/\(0<=(i64.wrap (m-(1:Int)))/\(i64.wrap (m-(1:Int)))<(i:Int))/\Is g fun q:Addr=>∃r:AV,(r.size=32/\Cells n (q.add ((i64.wrap (m-(1:Int))).toNat*32)) r)/\bG prog 75 #[.agg p,.agg r] n fun t u=>∃v:Int,t=.int .i64 v/\Split (decide (v<(0:Int))) (Q .normal [(0,.slice a b c),(2,.slice d e f),(3,.slice g i j),(4,.int .i64 k),(5,.int .i64 (i64.wrap (m-(1:Int))))] u) (Q (.exit 2) [(0,.slice a b c),(2,.slice d e f),(3,.slice g i j),(4,.int .i64 k),(5,.int .i64 m)] u)) (Q (.exit 2) [(0,.slice a b c),(2,.slice d e f),(3,.slice g i j),(4,.int .i64 k),(5,.int .i64 m)] n)
theorem aP.b2:(bg none [] prog 56 aP.k (lB (bB (sL (aS (bB (sL (sR (lB (bB (sR (sL (aS (body Tryz.f27))))))))))))) aP.u2 Q [(0,.slice a b c),(2,.slice d e f),(3,.slice g i j),(4,.int .i64 k),(5,.int .i64 m)] w)=aP.B2 a b c d e f g i j k m Q w:=by kernel_rfl
variable{a b c d e f g i j k}
theorem aP.iB(I:Int->World->Prop)(μ:Int->World->Nat)(s:Int){Q:aT}{w:World}(h0:I s w)
 (round:∀s w,I s w->aP.B2 a b c d e f g i j k s (bW (aP.e2 a b c d e f g i j k) I μ s w Q) w):Holds none [] prog 56 (.loop (lB (bB (sL (aS (bB (sL (sR (lB (bB (sR (sL (aS (body Tryz.f27)))))))))))))) Q (aP.e2 a b c d e f g i j k s) w:=
 bC ng mix (aP.e2 a b c d e f g i j k) I μ aP.k aP.u2 s (fun s Q w=>aP.B2 a b c d e f g i j k s Q w) (fun s Q w=>aP.b2 a b c d e f g i j k s Q w) h0 round
end
section
variable(a:OA)(b c:Nat)(d:OA)(e f:Nat)(g:OA)(i j:Nat)(k m:Int)(Q:aT)(w:World)
def aP.jh:Prop:=
 (0<=m/\m<=(j:Int))/\∃(n:OA) (o p:Nat) (q:World),(Builtin.append_ #[33,33] 33 #[.slice none 0 0,.slice (if j=0 then g else g.map (·.add (0*32))) (m.toNat-0) (j-0)]).run prog w=.ok (.slice n o p) q/\(0<=k/\k<(b:Int))/\Is a fun r:Addr=>∃t:AV,(t.size=32/\Cells q (r.add (k.toNat*32)) t)/\t.size=32/\let u:=q.alloc (.cells (t.toList++ []).toArray 24);∃(v:OA) (x y:Nat) (z:World),(Builtin.append_ #[33,33] 33 #[.slice n o p,.slice (some (aV q.heap.size)) 1 1]).run prog u=.ok (.slice v x y) z/\(0<=m/\m<=(i:Int))/\∃(a1:OA) (b1 c1:Nat) (d1:World),(Builtin.append_ #[33,33] 33 #[.slice v x y,.slice (if j=m.toNat then g else g.map (·.add (m.toNat*32))) (i-m.toNat) (j-m.toNat)]).run prog z=.ok (.slice a1 b1 c1) d1/\Q .normal [(0,.slice a b c),(2,.slice d e f),(3,.slice a1 b1 c1),(4,.int .i64 (i64.wrap (k+(1:Int))))] d1
theorem aP.ki:(aP.q2 Q (.exit 2) [(0,.slice a b c),(2,.slice d e f),(3,.slice g i j),(4,.int .i64 k),(5,.int .i64 m)] w)=aP.jh a b c d e f g i j k m Q w:=by kernel_rfl
end
def dg.k:List Nat:= []
def dg.q1(K:KT):aT:=(aR 0 (cK (aS (body f38))++(aX f38)) (cg (fun cy w_=>match cutAt dg.k (aS (body f38))with|true=>Holds none [] prog 18 (aS (body f38)) (bY prog f38 K) cy w_|false=>bg none [] prog 18 dg.k (aS (body f38)) (aX f38) (bY prog f38 K) cy w_) (bY prog f38 K)))
def dg.e1(a:OA)(b c:Nat)(d:Addr)(s:Bool×Int):Env:= [(0,.slice a b c),(3,.pointer (some d)),(4,.bool s.1),(5,.int .i64 s.2)]
def dg.u1:List Nat:= [0,3,4,5]
section
variable(a:OA)(b d:Nat)(e:AV)(K:KT)(w:World)
def dg.W:Prop:=
 let f:=w.alloc (.cells e 24);Holds none [] prog 18 (.loop (lB (bB (sR (sL (sR (body f38))))))) (dg.q1 K) [(0,.slice a b d),(3,.pointer (some (aV w.heap.size))),(4,.bool false),(5,.int .i64 0)] f
variable{a b d e K w}
theorem dg.of(h:dg.W a b d e K w):bG prog 38 #[.slice a b d,.agg e] w K:=
 rqq func38 (C:=dg.k) h
end
section
variable(a:OA)(b c:Nat)(d:Addr)(e:Bool)(f:Int)(Q:aT)(w:World)
def dg.B1:Prop:=
 Split (decide (f<(b:Int))) (let g:=w.drew;(0<=f/\f<(b:Int))/\Is a fun i:Addr=>∃j:AV,(j.size=32/\Cells g (i.add (f.toNat*32)) j)/\∃k:AV,(k.size=32/\Cells g d k)/\(ft .u8 32 j/\ft .u8 32 k)/\Split (fV j k) (Q .ret [(0,.slice a b c),(3,.pointer (some d)),(4,.bool true),(5,.int .i64 f)] g) (Q .normal [(0,.slice a b c),(3,.pointer (some d)),(4,.bool e),(5,.int .i64 (i64.wrap (f+(1:Int))))] g)) (Q (.exit 0) [(0,.slice a b c),(3,.pointer (some d)),(4,.bool e),(5,.int .i64 f)] w)
theorem dg.b1:(bg none [] prog 18 dg.k (lB (bB (sR (sL (sR (body f38)))))) dg.u1 Q [(0,.slice a b c),(3,.pointer (some d)),(4,.bool e),(5,.int .i64 f)] w)=dg.B1 a b c d e f Q w:=by kernel_rfl
variable{a b c d}
theorem dg.cJ(I:Bool×Int->World->Prop)(μ:Bool×Int->World->Nat)(s:Bool×Int){Q:aT}{w:World}(h0:I s w)
 (round:∀s w,I s w->dg.B1 a b c d (s.1) (s.2) (bW (dg.e1 a b c d) I μ s w Q) w):Holds none [] prog 18 (.loop (lB (bB (sR (sL (sR (body f38))))))) Q (dg.e1 a b c d s) w:=
 bC ng mix (dg.e1 a b c d) I μ dg.k dg.u1 s (fun s Q w=>dg.B1 a b c d (s.1) (s.2) Q w) (fun s Q w=>dg.b1 a b c d (s.1) (s.2) Q w) h0 round
end
section
def dg.df(a:OA)(b c:Nat)(d:Addr)(e:Bool)(f:Int)(K:KT)(w:World):Prop:=
 K (.bool false) w
variable(a:OA)(b c:Nat)(d:Addr)(e:Bool)(f:Int)(K:KT)(w:World)
theorem dg.dz:(dg.q1 K (.exit 0) [(0,.slice a b c),(3,.pointer (some d)),(4,.bool e),(5,.int .i64 f)] w)=dg.df a b c d e f K w:=by kernel_rfl
end
def im.k:List Nat:= []
section
variable(a:OA)(b:AV)(K:KT)(w:World)
def im.W:Prop:=
 let d:=w.alloc (.cells b 24);∃e:AV,(e.size=32/\Cells d (aV w.heap.size) e)/\bG prog 90 #[.pointer a,.agg e] d fun f g=>∃i:OA,f=.pointer i/\K (.bool (!(i).isNone)) g
variable{a b K w}
theorem im.of(h:im.W a b K w):bG prog 47 #[.pointer a,.agg b] w K:=
 rqq func47 (C:=im.k) h
end
def bT.k:List Nat:= []
def bT.q1(K:KT):aT:=(aR 0 (cK (aS (body f75))++(aX f75)) (cg (fun cy w_=>match cutAt bT.k (aS (body f75))with|true=>Holds none [] prog 24 (aS (body f75)) (bY prog f75 K) cy w_|false=>bg none [] prog 24 bT.k (aS (body f75)) (aX f75) (bY prog f75 K) cy w_) (bY prog f75 K)))
def bT.e1(a b:Addr)(s:Int×Int):Env:= [(2,.pointer (some a)),(3,.pointer (some b)),(4,.int .i64 s.1),(5,.int .i64 s.2)]
def bT.u1:List Nat:= [2,3,4,5]
section
variable(a b:AV)(K:KT)(w:World)
def bT.W:Prop:=
 let d:=w.alloc (.cells a 24);let e:=d.alloc (.cells b 24);Holds none [] prog 24 (.loop (lB (bB (sR (sL (sR (body f75))))))) (bT.q1 K) [(2,.pointer (some (aV w.heap.size))),(3,.pointer (some (aV d.heap.size))),(4,.int .i64 0),(5,.int .i64 0)] e
variable{a b K w}
theorem bT.of(h:bT.W a b K w):bG prog 75 #[.agg a,.agg b] w K:=
 rqq func75 (C:=bT.k) h
end
section
variable(a b:Addr)(c d:Int)(Q:aT)(w:World)
def bT.B1:Prop:=
 Split (decide (d<(32:Int))) (let e:=w.drew;(0<=d/\d<(32:Int))/\∃f:Int,e.cell? (a.add (d.toNat*1))=some (.int .u8 f)/\(0<=d/\d<(32:Int))/\∃g:Int,e.cell? (b.add (d.toNat*1))=some (.int .u8 g)/\Split (decide (f<g)) (Q .ret [(2,.pointer (some a)),(3,.pointer (some b)),(4,.int .i64 (-1)),(5,.int .i64 d)] e) (let i:=e.drew;(0<=d/\d<(32:Int))/\∃j:Int,i.cell? (a.add (d.toNat*1))=some (.int .u8 j)/\(0<=d/\d<(32:Int))/\∃k:Int,i.cell? (b.add (d.toNat*1))=some (.int .u8 k)/\Split (decide (j>k)) (Q .ret [(2,.pointer (some a)),(3,.pointer (some b)),(4,.int .i64 1),(5,.int .i64 d)] i) (Q .normal [(2,.pointer (some a)),(3,.pointer (some b)),(4,.int .i64 c),(5,.int .i64 (i64.wrap (d+(1:Int))))] i))) (Q (.exit 0) [(2,.pointer (some a)),(3,.pointer (some b)),(4,.int .i64 c),(5,.int .i64 d)] w)
theorem bT.b1:(bg none [] prog 24 bT.k (lB (bB (sR (sL (sR (body f75)))))) bT.u1 Q [(2,.pointer (some a)),(3,.pointer (some b)),(4,.int .i64 c),(5,.int .i64 d)] w)=bT.B1 a b c d Q w:=by kernel_rfl
variable{a b}
theorem bT.cJ(I:Int×Int->World->Prop)(μ:Int×Int->World->Nat)(s:Int×Int){Q:aT}{w:World}(h0:I s w)
 (round:∀s w,I s w->bT.B1 a b (s.1) (s.2) (bW (bT.e1 a b) I μ s w Q) w):Holds none [] prog 24 (.loop (lB (bB (sR (sL (sR (body f75))))))) Q (bT.e1 a b s) w:=
 bC ng mix (bT.e1 a b) I μ bT.k bT.u1 s (fun s Q w=>bT.B1 a b (s.1) (s.2) Q w) (fun s Q w=>bT.b1 a b (s.1) (s.2) Q w) h0 round
end
section
def bT.df(a b:Addr)(c d:Int)(K:KT)(w:World):Prop:=
 K (.int .i64 0) w
variable(a b:Addr)(c d:Int)(K:KT)(w:World)
theorem bT.dz:(bT.q1 K (.exit 0) [(2,.pointer (some a)),(3,.pointer (some b)),(4,.int .i64 c),(5,.int .i64 d)] w)=bT.df a b c d K w:=by kernel_rfl
end
def gE.k:List Nat:= []
section
variable(a:OA)(b:AV)(K:KT)(w:World)
def gE.W:Prop:=
 let d:=w.alloc (.cells b 24);bG prog 124 #[.pointer a] d fun e f=>∃g:Bool,e=.bool g/\Split g (let i:=f.drew;Is a fun j:Addr=>∃k:Option Nat,i.cell? (j.add 1)=some (.map k)/\∃m:AV,(m.size=32/\Cells i (aV w.heap.size) m)/\∃n:Int,∃o:Bool,(Instr.lookup 127 (.map k) (.agg m) true).run prog i=.ok (.tuple #[.int .i64 n,.bool o]) i/\Split o (Is a fun p:Addr=>∃q:OA,∃r t:Nat,i.cell? (p.add 0)=some (.slice q r t)/\(0<=n/\n<(r:Int))/\Is q fun u:Addr=>∃v:OA,i.cell? (u.add (n.toNat*1))=some (.pointer v)/\K (.pointer v) i) (K (.pointer none) i)) (K (.pointer none) f)
variable{a b K w}
theorem gE.of(h:gE.W a b K w):bG prog 90 #[.pointer a,.agg b] w K:=
 rqq func90 (C:=gE.k) h
end
section
variable(a:Int)(b:OA)(K:KT)(w:World)
variable{a b K w}
end
def ah.k:List Nat:= []
def ah.q1(K:KT):aT:=(aR 0 (cK (aS (sR (body f99)))++(aX f99)) (cg (fun cy w_=>match cutAt ah.k (aS (sR (body f99)))with|true=>Holds none [] prog 61 (aS (sR (body f99))) (bY prog f99 K) cy w_|false=>bg none [] prog 61 ah.k (aS (sR (body f99))) (aX f99) (bY prog f99 K) cy w_) (bY prog f99 K)))
def ah.e1(a:OA)(b c:Nat)(s:(OA)×Nat×Nat×Int):Env:= [(0,.slice a b c),(2,.slice s.1 s.2.1 s.2.2.1),(3,.int .i64 s.2.2.2)]
def ah.u1:List Nat:= [0,2,3]
def ah.q2(Q:aT):aT:=(aR 2 (cK (aS (cT (sR (bB (sL (sR (lB (bB (sR (sL (aS (body f99))))))))))))++(cK (aS (lB (bB (sR (sL (aS (body f99)))))))++ah.u1)) (cg (fun cy w_=>match cutAt ah.k (aS (cT (sR (bB (sL (sR (lB (bB (sR (sL (aS (body f99))))))))))))with|true=>Holds none [] prog 61 (aS (cT (sR (bB (sL (sR (lB (bB (sR (sL (aS (body f99)))))))))))) (aR 1 (cK (aS (lB (bB (sR (sL (aS (body f99)))))))++ah.u1) (cg (fun cy w_=>match cutAt ah.k (aS (lB (bB (sR (sL (aS (body f99)))))))with|true=>Holds none [] prog 61 (aS (lB (bB (sR (sL (aS (body f99))))))) Q cy w_|false=>bg none [] prog 61 ah.k (aS (lB (bB (sR (sL (aS (body f99))))))) ah.u1 Q cy w_) Q)) cy w_|false=>bg none [] prog 61 ah.k (aS (cT (sR (bB (sL (sR (lB (bB (sR (sL (aS (body f99)))))))))))) (cK (aS (lB (bB (sR (sL (aS (body f99)))))))++ah.u1) (aR 1 (cK (aS (lB (bB (sR (sL (aS (body f99)))))))++ah.u1) (cg (fun cy w_=>match cutAt ah.k (aS (lB (bB (sR (sL (aS (body f99)))))))with|true=>Holds none [] prog 61 (aS (lB (bB (sR (sL (aS (body f99))))))) Q cy w_|false=>bg none [] prog 61 ah.k (aS (lB (bB (sR (sL (aS (body f99))))))) ah.u1 Q cy w_) Q)) cy w_) (aR 1 (cK (aS (lB (bB (sR (sL (aS (body f99)))))))++ah.u1) (cg (fun cy w_=>match cutAt ah.k (aS (lB (bB (sR (sL (aS (body f99)))))))with|true=>Holds none [] prog 61 (aS (lB (bB (sR (sL (aS (body f99))))))) Q cy w_|false=>bg none [] prog 61 ah.k (aS (lB (bB (sR (sL (aS (body f99))))))) ah.u1 Q cy w_) Q))))
def ah.e2(a:OA)(b c:Nat)(d:OA)(e f:Nat)(g:OA)(i j:Nat)(s:Int×Int):Env:= [(0,.slice a b c),(2,.slice d e f),(3,.int .i64 s.1),(4,.slice g i j),(5,.int .i64 s.2)]
def ah.u2:List Nat:= [0,2,3,4,5]
section
variable(a:OA)(b d:Nat)(K:KT)(w:World)
def ah.W:Prop:=
 Split (decide ((b:Int)<(2:Int))) (K (.slice a b d) w) (Holds none [] prog 61 (.loop (lB (bB (sR (sL (aS (body f99))))))) (ah.q1 K) [(0,.slice a b d),(2,.slice none 0 0),(3,.int .i64 1)] w)
variable{a b d K w}
theorem ah.of(h:ah.W a b d K w):bG prog 99 #[.slice a b d] w K:=
 rqq func99 (C:=ah.k) h
end
section
variable(a:OA)(b c:Nat)(d:OA)(e f:Nat)(g:Int)(Q:aT)(w:World)
def ah.B1:Prop:=
 Split (decide (g<(b:Int))) (let i:=w.drew;(0<=g/\g<(b:Int))/\Is a fun j:Addr=>∃k:AV,(k.size=32/\Cells i (j.add (g.toNat*32)) k)/\(0<=(i64.wrap (g-(1:Int)))/\(i64.wrap (g-(1:Int)))<(b:Int))/\Is a fun m:Addr=>∃n:AV,(n.size=32/\Cells i (m.add ((i64.wrap (g-(1:Int))).toNat*32)) n)/\(ft .u8 32 k/\ft .u8 32 n)/\Split (fV k n) ((0<=g/\g<=(b:Int))/\Holds none [] prog 61 (.loop (lB (bB (sR (sL (sR (cT (sR (bB (sL (sR (lB (bB (sR (sL (aS (body f99))))))))))))))))) (ah.q2 Q) [(0,.slice a b c),(2,.slice d e f),(3,.int .i64 g),(4,.slice (if c=g.toNat then a else a.map (·.add (g.toNat*32))) (b-g.toNat) (c-g.toNat)),(5,.int .i64 1)] i) (Q .normal [(0,.slice a b c),(2,.slice d e f),(3,.int .i64 (i64.wrap (g+(1:Int))))] i)) (Q (.exit 0) [(0,.slice a b c),(2,.slice d e f),(3,.int .i64 g)] w)
theorem ah.b1:(bg none [] prog 61 ah.k (lB (bB (sR (sL (aS (body f99)))))) ah.u1 Q [(0,.slice a b c),(2,.slice d e f),(3,.int .i64 g)] w)=ah.B1 a b c d e f g Q w:=by kernel_rfl
variable{a b c}
theorem ah.cJ(I:(OA)×Nat×Nat×Int->World->Prop)(μ:(OA)×Nat×Nat×Int->World->Nat)(s:(OA)×Nat×Nat×Int){Q:aT}{w:World}(h0:I s w)
 (round:∀s w,I s w->ah.B1 a b c (s.1) (s.2.1) (s.2.2.1) (s.2.2.2) (bW (ah.e1 a b c) I μ s w Q) w):Holds none [] prog 61 (.loop (lB (bB (sR (sL (aS (body f99))))))) Q (ah.e1 a b c s) w:=
 bC ng mix (ah.e1 a b c) I μ ah.k ah.u1 s (fun s Q w=>ah.B1 a b c (s.1) (s.2.1) (s.2.2.1) (s.2.2.2) Q w) (fun s Q w=>ah.b1 a b c (s.1) (s.2.1) (s.2.2.1) (s.2.2.2) Q w) h0 round
end
section
def ah.df(a:OA)(b c:Nat)(d:OA)(e f:Nat)(g:Int)(K:KT)(w:World):Prop:=
 K (.slice a b c) w
variable(a:OA)(b c:Nat)(d:OA)(e f:Nat)(g:Int)(K:KT)(w:World)
theorem ah.dz:(ah.q1 K (.exit 0) [(0,.slice a b c),(2,.slice d e f),(3,.int .i64 g)] w)=ah.df a b c d e f g K w:=by kernel_rfl
end
section
variable(a:OA)(b c:Nat)(d:OA)(e f:Nat)(g:Int)(i:OA)(j k:Nat)(m:Int)(Q:aT)(w:World)
def ah.B2:Prop:=
 Split (decide (m<(j:Int))) (let n:=w.drew;(0<=m/\m<(j:Int))/\Is i fun o:Addr=>∃p:AV,(p.size=32/\Cells n (o.add (m.toNat*32)) p)/\(0<=(i64.wrap (m-(1:Int)))/\(i64.wrap (m-(1:Int)))<(j:Int))/\Is i fun q:Addr=>∃r:AV,(r.size=32/\Cells n (q.add ((i64.wrap (m-(1:Int))).toNat*32)) r)/\(ft .u8 32 p/\ft .u8 32 r)/\Split (!(fV p r)) ((0<=m/\m<(j:Int))/\Is i fun t:Addr=>∃u:AV,(u.size=32/\Cells n (t.add (m.toNat*32)) u)/\(0<=g/\g<(b:Int))/\Is a fun v:Addr=>(u.size=32/\(∀x∈u.toList,x.oneCell'=true)/\∀y,y<32->Wr n ((v.add (g.toNat*32)).add y))/\let z:=setCells n (v.add (g.toNat*32)) u.toList 0;Q .normal [(0,.slice a b c),(2,.slice d e f),(3,.int .i64 (i64.wrap (g+(1:Int)))),(4,.slice i j k),(5,.int .i64 (i64.wrap (m+(1:Int))))] z) (Q .normal [(0,.slice a b c),(2,.slice d e f),(3,.int .i64 g),(4,.slice i j k),(5,.int .i64 (i64.wrap (m+(1:Int))))] n)) (Q (.exit 2) [(0,.slice a b c),(2,.slice d e f),(3,.int .i64 g),(4,.slice i j k),(5,.int .i64 m)] w)
theorem ah.b2:(bg none [] prog 61 ah.k (lB (bB (sR (sL (sR (cT (sR (bB (sL (sR (lB (bB (sR (sL (aS (body f99)))))))))))))))) ah.u2 Q [(0,.slice a b c),(2,.slice d e f),(3,.int .i64 g),(4,.slice i j k),(5,.int .i64 m)] w)=ah.B2 a b c d e f g i j k m Q w:=by kernel_rfl
variable{a b c d e f i j k}
theorem ah.iB(I:Int×Int->World->Prop)(μ:Int×Int->World->Nat)(s:Int×Int){Q:aT}{w:World}(h0:I s w)
 (round:∀s w,I s w->ah.B2 a b c d e f (s.1) i j k (s.2) (bW (ah.e2 a b c d e f i j k) I μ s w Q) w):Holds none [] prog 61 (.loop (lB (bB (sR (sL (sR (cT (sR (bB (sL (sR (lB (bB (sR (sL (aS (body f99))))))))))))))))) Q (ah.e2 a b c d e f i j k s) w:=
 bC ng mix (ah.e2 a b c d e f i j k) I μ ah.k ah.u2 s (fun s Q w=>ah.B2 a b c d e f (s.1) i j k (s.2) Q w) (fun s Q w=>ah.b2 a b c d e f (s.1) i j k (s.2) Q w) h0 round
end
section
def ah.jh(a:OA)(b c:Nat)(d:OA)(e f:Nat)(g:Int)(i:OA)(j k:Nat)(m:Int)(Q:aT)(w:World):Prop:=
 (0<=g/\g<=(b:Int))/\∃(n:Value) (o:World),(Builtin.clear_ #[33] 0 #[.slice (if c=g.toNat then a else a.map (·.add (g.toNat*32))) (b-g.toNat) (c-g.toNat)]).run prog w=.ok n o/\(0<=g/\g<=(c:Int))/\Q .ret [(0,.slice a b c),(2,.slice (if c=0 then a else a.map (·.add (0*32))) (g.toNat-0) (c-0)),(3,.int .i64 g)] o
variable(a:OA)(b c:Nat)(d:OA)(e f:Nat)(g:Int)(i:OA)(j k:Nat)(m:Int)(Q:aT)(w:World)
theorem ah.ki:(ah.q2 Q (.exit 2) [(0,.slice a b c),(2,.slice d e f),(3,.int .i64 g),(4,.slice i j k),(5,.int .i64 m)] w)=ah.jh a b c d e f g i j k m Q w:=by kernel_rfl
end
def dP.k:List Nat:= []
section
variable(a b:AV)(K:KT)(w:World)
def dP.W:Prop:=
 let d:=w.alloc (.cells a 24);let e:=d.alloc (.cells b 24);let f:=e.drew;bG prog 138 #[.slice (some (if 32=0 then(aV w.heap.size)else(aV w.heap.size).add (0*1))) (32-0) (32-0),.slice (some (if 32=0 then(aV d.heap.size)else(aV d.heap.size).add (0*1))) (32-0) (32-0)] f fun g i=>∃j:Int,g=.int .i64 j/\K (.int .i64 j) i
variable{a b K w}
theorem dP.of(h:dP.W a b K w):bG prog 102 #[.agg a,.agg b] w K:=
 rqq func102 (C:=dP.k) h
end
def gN.k:List Nat:= []
section
variable(a:OA)(K:KT)(w:World)
def gN.W:Prop:=
 Split (!(a).isNone) (Is a fun b:Addr=>∃d:Option Nat,w.cell? (b.add 1)=some (.map d)/\K (.bool (!(d).isNone)) w) (K (.bool false) w)
variable{a K w}
theorem gN.of(h:gN.W a K w):bG prog 124 #[.pointer a] w K:=
 rqq func124 (C:=gN.k) h
end
def iU.k:List Nat:= []
section
variable(a:OA)(b d:Nat)(e:OA)(f g:Nat)(K:KT)(w:World)
def iU.W:Prop:=
 E9 prog 157 #[.slice a b d,.slice e f g] w fun i j=>∃k:Int,i=.int .i64 k/\K (.int .i64 k) j
variable{a b d e f g K w}
theorem iU.of(h:iU.W a b d e f g K w):bG prog 138 #[.slice a b d,.slice e f g] w K:=
 rqq func138 (C:=iU.k) h
end
def cM.k:List Nat:= []
def cM.q1(K:KT):aT:=(aR 0 (cK (aS (body f143))++(aX f143)) (cg (fun cy w_=>match cutAt cM.k (aS (body f143))with|true=>Holds none [] prog 30 (aS (body f143)) (bY prog f143 K) cy w_|false=>bg none [] prog 30 cM.k (aS (body f143)) (aX f143) (bY prog f143 K) cy w_) (bY prog f143 K)))
def cM.e1(a:OA)(b c:Nat)(d:OA)(e f:Nat)(g:Int)(s:(OA)×Nat×Nat×Int):Env:= [(0,.slice s.1 s.2.1 s.2.2.1),(4,.slice a b c),(7,.slice d e f),(8,.int .i64 g),(9,.int .i64 s.2.2.2)]
def cM.u1:List Nat:= [0,4,7,8,9]
section
variable(a:OA)(b d:Nat)(e:OA)(f g:Nat)(K:KT)(w:World)
def cM.W:Prop:=
 Holds none [] prog 30 (.loop (lB (bB (sR (sL (sR (body f143))))))) (cM.q1 K) [(0,.slice a b d),(4,.slice none 0 0),(7,.slice e f g),(8,.int .i64 (f:Int)),(9,.int .i64 0)] w
variable{a b d e f g K w}
theorem cM.of(h:cM.W a b d e f g K w):bG prog 143 #[.slice a b d,.slice e f g] w K:=
 rqq func143 (C:=cM.k) h
end
section
variable(a:OA)(b c:Nat)(d:OA)(e f:Nat)(g:OA)(i j:Nat)(k m:Int)(Q:aT)(w:World)
def cM.B1:Prop:=
 Split (decide (m<k)) ((0<=m/\m<(i:Int))/\Is g fun n:Addr=>∃o:Int,w.cell? (n.add (m.toNat*1))=some (.int .u64 o)/\Split (m==(b:Int)) (let p:=w.alloc (.cells #[.int .u64 0] 22);∃(q:OA) (r t:Nat) (u:World),(Builtin.append_ #[143,143] 143 #[.slice a b c,.slice (some (aV w.heap.size)) 1 1]).run prog p=.ok (.slice q r t) u/\(0<=m/\m<(r:Int))/\Is q fun v:Addr=>∃x:Int,u.cell? (v.add (m.toNat*1))=some (.int .u64 x)/\(0<=m/\m<(r:Int))/\Is q fun y:Addr=>Wr u (y.add (m.toNat*1))/\let z:=u.setCell (y.add (m.toNat*1)) (.int .u64 (u64.wrap ((BitVec.ofInt 64 x|||BitVec.ofInt 64 o).toNat)));Q .normal [(0,.slice q r t),(4,.slice d e f),(7,.slice g i j),(8,.int .i64 k),(9,.int .i64 (i64.wrap (m+(1:Int))))] z) ((0<=m/\m<(b:Int))/\Is a fun a1:Addr=>∃b1:Int,w.cell? (a1.add (m.toNat*1))=some (.int .u64 b1)/\(0<=m/\m<(b:Int))/\Is a fun c1:Addr=>Wr w (c1.add (m.toNat*1))/\let d1:=w.setCell (c1.add (m.toNat*1)) (.int .u64 (u64.wrap ((BitVec.ofInt 64 b1|||BitVec.ofInt 64 o).toNat)));Q .normal [(0,.slice a b c),(4,.slice d e f),(7,.slice g i j),(8,.int .i64 k),(9,.int .i64 (i64.wrap (m+(1:Int))))] d1)) (Q (.exit 0) [(0,.slice a b c),(4,.slice d e f),(7,.slice g i j),(8,.int .i64 k),(9,.int .i64 m)] w)
theorem cM.b1:(bg none [] prog 30 cM.k (lB (bB (sR (sL (sR (body f143)))))) cM.u1 Q [(0,.slice a b c),(4,.slice d e f),(7,.slice g i j),(8,.int .i64 k),(9,.int .i64 m)] w)=cM.B1 a b c d e f g i j k m Q w:=by kernel_rfl
variable{d e f g i j k}
theorem cM.cJ(I:(OA)×Nat×Nat×Int->World->Prop)(μ:(OA)×Nat×Nat×Int->World->Nat)(s:(OA)×Nat×Nat×Int){Q:aT}{w:World}(h0:I s w)
 (round:∀s w,I s w->cM.B1 (s.1) (s.2.1) (s.2.2.1) d e f g i j k (s.2.2.2) (bW (cM.e1 d e f g i j k) I μ s w Q) w):Holds none [] prog 30 (.loop (lB (bB (sR (sL (sR (body f143))))))) Q (cM.e1 d e f g i j k s) w:=
 bC ng mix (cM.e1 d e f g i j k) I μ cM.k cM.u1 s (fun s Q w=>cM.B1 (s.1) (s.2.1) (s.2.2.1) d e f g i j k (s.2.2.2) Q w) (fun s Q w=>cM.b1 (s.1) (s.2.1) (s.2.2.1) d e f g i j k (s.2.2.2) Q w) h0 round
end
section
def cM.df(a:OA)(b c:Nat)(d:OA)(e f:Nat)(g:OA)(i j:Nat)(k m:Int)(K:KT)(w:World):Prop:=
 K (.slice a b c) w
variable(a:OA)(b c:Nat)(d:OA)(e f:Nat)(g:OA)(i j:Nat)(k m:Int)(K:KT)(w:World)
theorem cM.dz:(cM.q1 K (.exit 0) [(0,.slice a b c),(4,.slice d e f),(7,.slice g i j),(8,.int .i64 k),(9,.int .i64 m)] w)=cM.df a b c d e f g i j k m K w:=by kernel_rfl
end
def eW.k:List Nat:= []
section
variable(a:AV)(b:Addr)(K:KT)(w:World)
def eW.W:Prop:=
 let d:=w.alloc (.cells a 24);∃e:OA,d.cell? b=some (.pointer e)/\∃f:AV,(f.size=32/\Cells d (aV w.heap.size) f)/\bG prog 47 #[.pointer e,.agg f] d fun g i=>∃j:Bool,g=.bool j/\K (.bool (!j)) i
variable{a b K w}
theorem eW.of(h:eW.W a b K w):bG prog 145 #[.agg a,.pointer (some b)] w K:=
 rqq func145 (C:=eW.k) h
end
def bX.k:List Nat:= []
def bX.q1(K:KT):aT:=(aR 0 (cK (aS (body f146))++(aX f146)) (cg (fun cy w_=>match cutAt bX.k (aS (body f146))with|true=>Holds none [] prog 24 (aS (body f146)) (bY prog f146 K) cy w_|false=>bg none [] prog 24 bX.k (aS (body f146)) (aX f146) (bY prog f146 K) cy w_) (bY prog f146 K)))
def bX.e1(a:Int)(b:OA)(c d:Nat)(s:(OA)×Nat×Nat):Env:= [(0,.slice s.1 s.2.1 s.2.2),(1,.int .i64 a),(4,.slice b c d)]
def bX.u1:List Nat:= [0,1,4]
section
variable(a:OA)(b d:Nat)(e:Int)(K:KT)(w:World)
def bX.W:Prop:=
 Holds none [] prog 24 (.loop (lB (bB (sL (sR (body f146)))))) (bX.q1 K) [(0,.slice a b d),(1,.int .i64 e),(4,.slice none 0 0)] w
variable{a b d e K w}
theorem bX.of(h:bX.W a b d e K w):bG prog 146 #[.slice a b d,.int .i64 e] w K:=
 rqq func146 (C:=bX.k) h
end
section
variable(a:OA)(b c:Nat)(d:Int)(e:OA)(f g:Nat)(Q:aT)(w:World)
def bX.B1:Prop:=
 (64:Int)≠0/\Split (decide ((b:Int)<=(i64.wrap (d.tdiv (64:Int))))) (let i:=w.alloc (.cells #[.int .u64 0] 22);∃(j:OA) (k m:Nat) (n:World),(Builtin.append_ #[143,143] 143 #[.slice a b c,.slice (some (aV w.heap.size)) 1 1]).run prog i=.ok (.slice j k m) n/\Q .normal [(0,.slice j k m),(1,.int .i64 d),(4,.slice e f g)] n) (Q (.exit 0) [(0,.slice a b c),(1,.int .i64 d),(4,.slice e f g)] w)
theorem bX.b1:(bg none [] prog 24 bX.k (lB (bB (sL (sR (body f146))))) bX.u1 Q [(0,.slice a b c),(1,.int .i64 d),(4,.slice e f g)] w)=bX.B1 a b c d e f g Q w:=by kernel_rfl
variable{d e f g}
theorem bX.cJ(I:(OA)×Nat×Nat->World->Prop)(μ:(OA)×Nat×Nat->World->Nat)(s:(OA)×Nat×Nat){Q:aT}{w:World}(h0:I s w)
 (round:∀s w,I s w->bX.B1 (s.1) (s.2.1) (s.2.2) d e f g (bW (bX.e1 d e f g) I μ s w Q) w):Holds none [] prog 24 (.loop (lB (bB (sL (sR (body f146)))))) Q (bX.e1 d e f g s) w:=
 bC ng mix (bX.e1 d e f g) I μ bX.k bX.u1 s (fun s Q w=>bX.B1 (s.1) (s.2.1) (s.2.2) d e f g Q w) (fun s Q w=>bX.b1 (s.1) (s.2.1) (s.2.2) d e f g Q w) h0 round
end
section
def bX.df(a:OA)(b c:Nat)(d:Int)(e:OA)(f g:Nat)(K:KT)(w:World):Prop:=
 let i:=w.drew;(64:Int)≠0/\(0<=(i64.wrap (d.tdiv (64:Int)))/\(i64.wrap (d.tdiv (64:Int)))<(b:Int))/\Is a fun j:Addr=>∃k:Int,i.cell? (j.add ((i64.wrap (d.tdiv (64:Int))).toNat*1))=some (.int .u64 k)/\(64:Int)≠0/\0<=(d.tmod (64:Int))/\(0<=(i64.wrap (d.tdiv (64:Int)))/\(i64.wrap (d.tdiv (64:Int)))<(b:Int))/\Is a fun m:Addr=>Wr i (m.add ((i64.wrap (d.tdiv (64:Int))).toNat*1))/\let n:=i.setCell (m.add ((i64.wrap (d.tdiv (64:Int))).toNat*1)) (.int .u64 (u64.wrap ((BitVec.ofInt 64 k|||BitVec.ofInt 64 (u64.wrap ((1:Int)*2 ^ (min (d.tmod (64:Int)).toNat 64)))).toNat)));K (.slice a b c) n
variable(a:OA)(b c:Nat)(d:Int)(e:OA)(f g:Nat)(K:KT)(w:World)
theorem bX.dz:(bX.q1 K (.exit 0) [(0,.slice a b c),(1,.int .i64 d),(4,.slice e f g)] w)=bX.df a b c d e f g K w:=by kernel_rfl
end
section
variable(a:OA)(K:KT)(w:World)
variable{a K w}
end
section
variable(a:OA)(b c:Nat)(d:OA)(e f:Nat)(g:OA)(i j:Nat)(k m:Int)(Q:aT)(w:World)
variable{a b c g i j k}
end
section
variable(a:OA)(b c:Nat)(d:OA)(e f:Nat)(g:OA)(i j:Nat)(k m:Int)(K:KT)(w:World)
end
def ay.k:List Nat:= []
def ay.q1(K:KT):aT:=(aR 0 (cK (aS (body f91))++(aX f91)) (cg (fun cy w_=>match cutAt ay.k (aS (body f91))with|true=>Holds none [] prog 19 (aS (body f91)) (bY prog f91 K) cy w_|false=>bg none [] prog 19 ay.k (aS (body f91)) (aX f91) (bY prog f91 K) cy w_) (bY prog f91 K)))
def ay.e1(a:OA)(b c:Nat)(d:Addr)(e:Int)(s:Int×Int):Env:= [(0,.slice a b c),(1,.func (.func 145) #[] #[.pointer (some d)]),(4,.int .i64 s.1),(7,.int .i64 e),(8,.int .i64 s.2)]
def ay.u1:List Nat:= [0,1,4,7,8]
section
variable(a:OA)(b d:Nat)(e:Addr)(K:KT)(w:World)
def ay.W:Prop:=
 Holds none [] prog 19 (.loop (lB (bB (sR (sL (sR (body f91))))))) (ay.q1 K) [(0,.slice a b d),(1,.func (.func 145) #[] #[.pointer (some e)]),(4,.int .i64 0),(7,.int .i64 (b:Int)),(8,.int .i64 0)] w
variable{a b d e K w}
theorem ay.of(h:ay.W a b d e K w):bG prog 91 #[.slice a b d,.func (.func 145) #[] #[.pointer (some e)]] w K:=
 rqq func91 (C:=ay.k) h
end
section
variable(a:OA)(b c:Nat)(d:Addr)(e f g:Int)(Q:aT)(w:World)
def ay.B1:Prop:=
 Split (decide (g<f)) ((0<=g/\g<(b:Int))/\Is a fun i:Addr=>∃j:AV,(j.size=32/\Cells w (i.add (g.toNat*32)) j)/\bG prog 145 #[.agg j,.pointer (some d)] w fun k m=>∃n:Bool,k=.bool n/\Split n (Q .ret [(0,.slice a b c),(1,.func (.func 145) #[] #[.pointer (some d)]),(4,.int .i64 g),(7,.int .i64 f),(8,.int .i64 g)] m) (Q .normal [(0,.slice a b c),(1,.func (.func 145) #[] #[.pointer (some d)]),(4,.int .i64 e),(7,.int .i64 f),(8,.int .i64 (i64.wrap (g+(1:Int))))] m)) (Q (.exit 0) [(0,.slice a b c),(1,.func (.func 145) #[] #[.pointer (some d)]),(4,.int .i64 e),(7,.int .i64 f),(8,.int .i64 g)] w)
theorem ay.b1:(bg none [] prog 19 ay.k (lB (bB (sR (sL (sR (body f91)))))) ay.u1 Q [(0,.slice a b c),(1,.func (.func 145) #[] #[.pointer (some d)]),(4,.int .i64 e),(7,.int .i64 f),(8,.int .i64 g)] w)=ay.B1 a b c d e f g Q w:=by kernel_rfl
variable{a b c d f}
theorem ay.cJ(I:Int×Int->World->Prop)(μ:Int×Int->World->Nat)(s:Int×Int){Q:aT}{w:World}(h0:I s w)
 (round:∀s w,I s w->ay.B1 a b c d (s.1) f (s.2) (bW (ay.e1 a b c d f) I μ s w Q) w):Holds none [] prog 19 (.loop (lB (bB (sR (sL (sR (body f91))))))) Q (ay.e1 a b c d f s) w:=
 bC ng mix (ay.e1 a b c d f) I μ ay.k ay.u1 s (fun s Q w=>ay.B1 a b c d (s.1) f (s.2) Q w) (fun s Q w=>ay.b1 a b c d (s.1) f (s.2) Q w) h0 round
end
section
def ay.df(a:OA)(b c:Nat)(d:Addr)(e f g:Int)(K:KT)(w:World):Prop:=
 K (.int .i64 (-1)) w
variable(a:OA)(b c:Nat)(d:Addr)(e f g:Int)(K:KT)(w:World)
theorem ay.dz:(ay.q1 K (.exit 0) [(0,.slice a b c),(1,.func (.func 145) #[] #[.pointer (some d)]),(4,.int .i64 e),(7,.int .i64 f),(8,.int .i64 g)] w)=ay.df a b c d e f g K w:=by kernel_rfl
end
def cI.k:List Nat:= []
section
variable(a:OA)(b d:Nat)(e:Addr)(K:KT)(w:World)
def cI.W:Prop:=
 bG prog 91 #[.slice a b d,.func (.func 145) #[] #[.pointer (some e)]] w fun f g=>∃i:Int,f=.int .i64 i/\K (.bool (decide (i>=(0:Int)))) g
variable{a b d e K w}
theorem cI.of(h:cI.W a b d e K w):bG prog 68 #[.slice a b d,.func (.func 145) #[] #[.pointer (some e)]] w K:=
 rqq func68 (C:=cI.k) h
end
def aL.k:List Nat:= []
def aL.q1(K:KT):aT:=(aR 0 (aX f158) (bY prog f158 K))
def aL.e1(a:Nat)(b:OA)(c d:Nat)(e s:Int):Env:= [(0,.func (.yield a) #[] #[]),(5,.slice b c d),(6,.int .i64 e),(7,.int .i64 s)]
def aL.u1:List Nat:= [0,5,6,7]
def aL.q2(Q:aT):aT:=(aR 2 (cK (aS (sR (lB (bB (sR (body f158))))))++aL.u1) (aR 1 (cK (aS (sR (lB (bB (sR (body f158))))))++aL.u1) (cg (fun cy w_=>match cutAt aL.k (aS (sR (lB (bB (sR (body f158))))))with|true=>Holds none [] prog 27 (aS (sR (lB (bB (sR (body f158)))))) Q cy w_|false=>bg none [] prog 27 aL.k (aS (sR (lB (bB (sR (body f158)))))) aL.u1 Q cy w_) Q)))
def aL.e2(a:Nat)(b:Int)(c:OA)(d e:Nat)(f g s:Int):Env:= [(0,.func (.yield a) #[] #[]),(3,.int .i64 b),(4,.int .u64 s),(5,.slice c d e),(6,.int .i64 f),(7,.int .i64 g)]
def aL.u2:List Nat:= [0,3,4,5,6,7]
section
variable(a:Nat)(b:Addr)(K:KT)(w:World)
def aL.W:Prop:=
 ∃d:OA,∃e f:Nat,w.cell? b=some (.slice d e f)/\Holds none [] prog 27 (.loop (lB (bB (sR (body f158))))) (aL.q1 K) [(0,.func (.yield a) #[] #[]),(5,.slice d e f),(6,.int .i64 (e:Int)),(7,.int .i64 0)] w
variable{a b K w}
theorem aL.of(h:aL.W a b K w):bG prog 158 #[.func (.yield a) #[] #[],.pointer (some b)] w K:=
 rqq func158 (C:=aL.k) h
end
section
variable(a:Nat)(b:OA)(c d:Nat)(e f:Int)(Q:aT)(w:World)
def aL.B1:Prop:=
 Split (decide (f<e)) ((0<=f/\f<(c:Int))/\Is b fun g:Addr=>∃i:Int,w.cell? (g.add (f.toNat*1))=some (.int .u64 i)/\Holds none [] prog 27 (.loop (lB (bB (sR (bB (sL (aS (lB (bB (sR (body f158))))))))))) (aL.q2 Q) [(0,.func (.yield a) #[] #[]),(3,.int .i64 f),(4,.int .u64 i),(5,.slice b c d),(6,.int .i64 e),(7,.int .i64 f)] w) (Q (.exit 0) [(0,.func (.yield a) #[] #[]),(5,.slice b c d),(6,.int .i64 e),(7,.int .i64 f)] w)
theorem aL.b1:(bg none [] prog 27 aL.k (lB (bB (sR (body f158)))) aL.u1 Q [(0,.func (.yield a) #[] #[]),(5,.slice b c d),(6,.int .i64 e),(7,.int .i64 f)] w)=aL.B1 a b c d e f Q w:=by kernel_rfl
variable{a b c d e}
theorem aL.cJ(I:Int->World->Prop)(μ:Int->World->Nat)(s:Int){Q:aT}{w:World}(h0:I s w)
 (round:∀s w,I s w->aL.B1 a b c d e s (bW (aL.e1 a b c d e) I μ s w Q) w):Holds none [] prog 27 (.loop (lB (bB (sR (body f158))))) Q (aL.e1 a b c d e s) w:=
 bC ng mix (aL.e1 a b c d e) I μ aL.k aL.u1 s (fun s Q w=>aL.B1 a b c d e s Q w) (fun s Q w=>aL.b1 a b c d e s Q w) h0 round
end
section
def aL.df(a:Nat)(b:OA)(c d:Nat)(e f:Int)(K:KT)(w:World):Prop:=
 K (.tuple #[]) w
variable(a:Nat)(b:OA)(c d:Nat)(e f:Int)(K:KT)(w:World)
theorem aL.dz:(aL.q1 K (.exit 0) [(0,.func (.yield a) #[] #[]),(5,.slice b c d),(6,.int .i64 e),(7,.int .i64 f)] w)=aL.df a b c d e f K w:=by kernel_rfl
end
section
variable(a:Nat)(b c:Int)(d:OA)(e f:Nat)(g i:Int)(Q:aT)(w:World)
def aL.B2:Prop:=
 Split (c != (0:Int)) (bG prog 159 #[.int .u64 c] w fun j k=>∃m:Int,j=.int .i64 m/\lC prog a #[.int .i64 (i64.wrap ((i64.wrap ((64:Int)*b))+m))] k fun n o=>Split (!n) (Q .ret [(0,.func (.yield a) #[] #[]),(3,.int .i64 b),(4,.int .u64 c),(5,.slice d e f),(6,.int .i64 g),(7,.int .i64 i)] o) (Q .normal [(0,.func (.yield a) #[] #[]),(3,.int .i64 b),(4,.int .u64 (u64.wrap ((BitVec.ofInt 64 c&&& BitVec.ofInt 64 (u64.wrap (c-(1:Int)))).toNat))),(5,.slice d e f),(6,.int .i64 g),(7,.int .i64 i)] o)) (Q (.exit 2) [(0,.func (.yield a) #[] #[]),(3,.int .i64 b),(4,.int .u64 c),(5,.slice d e f),(6,.int .i64 g),(7,.int .i64 i)] w)
theorem aL.b2:(bg none [] prog 27 aL.k (lB (bB (sR (bB (sL (aS (lB (bB (sR (body f158)))))))))) aL.u2 Q [(0,.func (.yield a) #[] #[]),(3,.int .i64 b),(4,.int .u64 c),(5,.slice d e f),(6,.int .i64 g),(7,.int .i64 i)] w)=aL.B2 a b c d e f g i Q w:=by kernel_rfl
variable{a b d e f g i}
theorem aL.iB(I:Int->World->Prop)(μ:Int->World->Nat)(s:Int){Q:aT}{w:World}(h0:I s w)
 (round:∀s w,I s w->aL.B2 a b s d e f g i (bW (aL.e2 a b d e f g i) I μ s w Q) w):Holds none [] prog 27 (.loop (lB (bB (sR (bB (sL (aS (lB (bB (sR (body f158))))))))))) Q (aL.e2 a b d e f g i s) w:=
 bC ng mix (aL.e2 a b d e f g i) I μ aL.k aL.u2 s (fun s Q w=>aL.B2 a b s d e f g i Q w) (fun s Q w=>aL.b2 a b s d e f g i Q w) h0 round
end
section
def aL.jh(a:Nat)(b c:Int)(d:OA)(e f:Nat)(g i:Int)(Q:aT)(w:World):Prop:=
 Q .normal [(0,.func (.yield a) #[] #[]),(5,.slice d e f),(6,.int .i64 g),(7,.int .i64 (i64.wrap (i+(1:Int))))] w
variable(a:Nat)(b c:Int)(d:OA)(e f:Nat)(g i:Int)(Q:aT)(w:World)
theorem aL.ki:(aL.q2 Q (.exit 2) [(0,.func (.yield a) #[] #[]),(3,.int .i64 b),(4,.int .u64 c),(5,.slice d e f),(6,.int .i64 g),(7,.int .i64 i)] w)=aL.jh a b c d e f g i Q w:=by kernel_rfl
end
def aI.k:List Nat:= []
def aI.q1(K:KT):aT:=(aR 0 (aX f137) (bY prog f137 K))
def aI.e1(a:Nat)(b:OA)(c d:Nat)(e s:Int):Env:= [(0,.func (.yield a) #[] #[]),(5,.slice b c d),(6,.int .i64 e),(7,.int .i64 s)]
def aI.u1:List Nat:= [0,5,6,7]
section
variable(a:Nat)(b:Addr)(K:KT)(w:World)
def aI.W:Prop:=
 ∃d:OA,∃e f:Nat,w.cell? b=some (.slice d e f)/\Holds none [] prog 16 (.loop (lB (bB (sR (body f137))))) (aI.q1 K) [(0,.func (.yield a) #[] #[]),(5,.slice d e f),(6,.int .i64 (e:Int)),(7,.int .i64 0)] w
variable{a b K w}
theorem aI.of(h:aI.W a b K w):bG prog 137 #[.func (.yield a) #[] #[],.pointer (some b)] w K:=
 rqq func137 (C:=aI.k) h
end
section
variable(a:Nat)(b:OA)(c d:Nat)(e f:Int)(Q:aT)(w:World)
def aI.B1:Prop:=
 Split (decide (f<e)) ((0<=f/\f<(c:Int))/\Is b fun g:Addr=>∃i:AV,(i.size=32/\Cells w (g.add (f.toNat*32)) i)/\let j:=w.alloc (.cells zH 24);(i.size=32/\(∀k∈i.toList,k.oneCell'=true)/\∀m,m<32->Wr j ((aV w.heap.size).add m))/\let n:=setCells j (aV w.heap.size) i.toList 0;∃o:AV,(o.size=32/\Cells n (aV w.heap.size) o)/\lC prog a #[.agg o] n fun p q=>Split (!p) (Q .ret [(0,.func (.yield a) #[] #[]),(5,.slice b c d),(6,.int .i64 e),(7,.int .i64 f)] q) (Q .normal [(0,.func (.yield a) #[] #[]),(5,.slice b c d),(6,.int .i64 e),(7,.int .i64 (i64.wrap (f+(1:Int))))] q)) (Q (.exit 0) [(0,.func (.yield a) #[] #[]),(5,.slice b c d),(6,.int .i64 e),(7,.int .i64 f)] w)
theorem aI.b1:(bg none [] prog 16 aI.k (lB (bB (sR (body f137)))) aI.u1 Q [(0,.func (.yield a) #[] #[]),(5,.slice b c d),(6,.int .i64 e),(7,.int .i64 f)] w)=aI.B1 a b c d e f Q w:=by kernel_rfl
variable{a b c d e}
theorem aI.cJ(I:Int->World->Prop)(μ:Int->World->Nat)(s:Int){Q:aT}{w:World}(h0:I s w)
 (round:∀s w,I s w->aI.B1 a b c d e s (bW (aI.e1 a b c d e) I μ s w Q) w):Holds none [] prog 16 (.loop (lB (bB (sR (body f137))))) Q (aI.e1 a b c d e s) w:=
 bC ng mix (aI.e1 a b c d e) I μ aI.k aI.u1 s (fun s Q w=>aI.B1 a b c d e s Q w) (fun s Q w=>aI.b1 a b c d e s Q w) h0 round
end
section
def aI.df(a:Nat)(b:OA)(c d:Nat)(e f:Int)(K:KT)(w:World):Prop:=
 K (.tuple #[]) w
variable(a:Nat)(b:OA)(c d:Nat)(e f:Int)(K:KT)(w:World)
theorem aI.dz:(aI.q1 K (.exit 0) [(0,.func (.yield a) #[] #[]),(5,.slice b c d),(6,.int .i64 e),(7,.int .i64 f)] w)=aI.df a b c d e f K w:=by kernel_rfl
end
end Go.Proofs.YtfleamccglihoaaGreatDoor
