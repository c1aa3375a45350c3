import Derived.Test.YtfleamccglihoaaGreatDoorProg
import Derived.Test.YtfleamccglihoaaGreatDoorMA
open Go.IntKind (i64 u64)
set_option linter.unusedVariables false
namespace Go.Proofs.YtfleamccglihoaaGreatDoor
open Go.Proofs.Tryz
open Go Go.b0
abbrev OA:=Option Addr
abbrev AV:=Array Value
abbrev KT:=Value->World->Prop
abbrev zH:Array Value:= #[.int .u8 0,.int .u8 0,.int .u8 0,.int .u8 0,.int .u8 0,.int .u8 0,.int .u8 0,.int .u8 0,.int .u8 0,.int .u8 0,.int .u8 0,.int .u8 0,.int .u8 0,.int .u8 0,.int .u8 0,.int .u8 0,.int .u8 0,.int .u8 0,.int .u8 0,.int .u8 0,.int .u8 0,.int .u8 0,.int .u8 0,.int .u8 0,.int .u8 0,.int .u8 0,.int .u8 0,.int .u8 0,.int .u8 0,.int .u8 0,.int .u8 0,.int .u8 0]
abbrev zC:Array Value:= #[.int .u8 0,.int .u8 0,.int .u8 0,.int .u8 0,.int .u8 0,.int .u8 0,.int .u8 0,.int .u8 0,.int .u8 0,.int .u8 0,.int .u8 0,.int .u8 0,.int .u8 0,.int .u8 0,.int .u8 0,.int .u8 0,.int .u8 0,.int .u8 0,.int .u8 0,.int .u8 0,.int .u8 0,.int .u8 0,.int .u8 0,.int .u8 0,.int .u8 0,.int .u8 0,.int .u8 0,.int .u8 0,.int .u8 0,.int .u8 0,.int .u8 0,.int .u8 0,.int .u64 0,.slice none 0 0,.slice none 0 0]
abbrev zS:Array Value:= #[.int .u8 0,.int .u8 0,.int .u8 0,.int .u8 0,.int .u8 0,.int .u8 0,.int .u8 0,.int .u8 0,.int .u8 0,.int .u8 0,.int .u8 0,.int .u8 0,.int .u8 0,.int .u8 0,.int .u8 0,.int .u8 0,.int .u8 0,.int .u8 0,.int .u8 0,.int .u8 0,.int .u8 0,.int .u8 0,.int .u8 0,.int .u8 0,.int .u8 0,.int .u8 0,.int .u8 0,.int .u8 0,.int .u8 0,.int .u8 0,.int .u8 0,.int .u8 0,.int .u64 0,.slice none 0 0,.slice none 0 0,.map none]
abbrev gZ:Nat:=3
abbrev jo:Nat:=4
abbrev jn:Nat:=5
abbrev gz:Nat:=22
abbrev al:Nat:=24
abbrev eU:Nat:=26
abbrev dC:Nat:=28
abbrev aF:Nat:=33
abbrev jL:Nat:=34
abbrev cX:Nat:=38
abbrev iV:Nat:=40
abbrev jY:Nat:=42
abbrev uF:Nat:=44
abbrev fT:Nat:=45
abbrev iy:Nat:=47
abbrev fI:Nat:=48
abbrev ig:Nat:=51
abbrev bL:Nat:=53
abbrev jS:Nat:=58
abbrev gJ:Nat:=62
abbrev fy:Nat:=63
abbrev iD:Nat:=65
abbrev b6:Nat:=69
abbrev kN:Nat:=89
abbrev iR:Nat:=98
abbrev wC:Nat:=121
abbrev fF:Nat:=123
abbrev cU:Nat:=127
abbrev eE:Nat:=129
abbrev iw:Nat:=135
abbrev eT:Nat:=137
abbrev fG:Nat:=138
abbrev BG:Nat:=142
abbrev lL:Nat:=143
abbrev dZ:Nat:=145
abbrev tI:Nat:=163
abbrev l9:Nat:=164
abbrev mr:Nat:=170
abbrev iM:Nat:=172
abbrev jK:Nat:=186
abbrev iY:Nat:=195
abbrev uv:Nat:=197
abbrev jJ:Nat:=199
abbrev xw:Nat:=218
abbrev bI.id:Nat:=11
abbrev aC.id:Nat:=12
abbrev iH.id:Nat:=13
abbrev iF.id:Nat:=15
abbrev bO.id:Nat:=16
abbrev af.id:Nat:=19
abbrev aL.id:Nat:=20
abbrev dF.id:Nat:=21
abbrev ft.id:Nat:=22
abbrev aI.id:Nat:=26
abbrev aO.id:Nat:=27
abbrev dW.id:Nat:=28
abbrev bE.id:Nat:=35
abbrev c9.id:Nat:=38
abbrev bR.id:Nat:=40
abbrev dQ.id:Nat:=41
abbrev iX.id:Nat:=42
abbrev kO.id:Nat:=43
abbrev dP.id:Nat:=44
abbrev eJ.id:Nat:=45
abbrev gX.id:Nat:=47
abbrev dX.id:Nat:=51
abbrev jv.id:Nat:=53
abbrev dw.id:Nat:=55
abbrev dY.id:Nat:=56
abbrev jH.id:Nat:=57
abbrev dV.id:Nat:=59
abbrev dK.id:Nat:=60
abbrev bt.id:Nat:=61
abbrev cV.id:Nat:=62
abbrev cR.id:Nat:=63
abbrev cQ.id:Nat:=64
abbrev aP.id:Nat:=65
abbrev bf.id:Nat:=66
abbrev bp.id:Nat:=67
abbrev dS.id:Nat:=68
abbrev du.id:Nat:=69
abbrev cP.id:Nat:=70
abbrev eN.id:Nat:=71
abbrev mK.id:Nat:=72
abbrev bK.id:Nat:=73
abbrev bS.id:Nat:=75
abbrev cY.id:Nat:=80
abbrev bn.id:Nat:=81
abbrev eI.id:Nat:=82
abbrev ai.id:Nat:=83
abbrev aG.id:Nat:=84
abbrev iJ.id:Nat:=85
abbrev az.id:Nat:=86
abbrev kP.id:Nat:=87
abbrev bJ.id:Nat:=88
abbrev fM.id:Nat:=89
abbrev gw.id:Nat:=90
abbrev mh.id:Nat:=91
abbrev fN.id:Nat:=94
abbrev eM.id:Nat:=95
abbrev dh.id:Nat:=96
abbrev iz.id:Nat:=97
abbrev bits_Len.id:Nat:=98
abbrev ah.id:Nat:=99
abbrev dM.id:Nat:=102
abbrev eK.id:Nat:=104
abbrev bU.id:Nat:=106
abbrev dO.id:Nat:=107
abbrev dm.id:Nat:=108
abbrev gv.id:Nat:=109
abbrev aW.id:Nat:=111
abbrev ag.id:Nat:=112
abbrev dz.id:Nat:=113
abbrev cr.id:Nat:=114
abbrev bu.id:Nat:=115
abbrev cS.id:Nat:=116
abbrev fC.id:Nat:=117
abbrev bN.id:Nat:=118
abbrev dA.id:Nat:=119
abbrev gU.id:Nat:=120
abbrev dU.id:Nat:=121
abbrev nD.id:Nat:=122
abbrev fh.id:Nat:=123
abbrev gI.id:Nat:=124
abbrev dL.id:Nat:=125
abbrev fK.id:Nat:=126
abbrev jy.id:Nat:=127
abbrev kK.id:Nat:=128
abbrev jz.id:Nat:=129
abbrev jM.id:Nat:=130
abbrev jB.id:Nat:=131
abbrev iN.id:Nat:=132
abbrev kh.id:Nat:=134
abbrev bits_Len64.id:Nat:=136
abbrev aH.id:Nat:=137
abbrev iQ.id:Nat:=138
abbrev aN.id:Nat:=140
abbrev br.id:Nat:=141
abbrev fQ.id:Nat:=142
abbrev cM.id:Nat:=143
abbrev eQ.id:Nat:=145
abbrev bX.id:Nat:=146
abbrev gS.id:Nat:=147
abbrev gh.id:Nat:=148
abbrev gm.id:Nat:=149
abbrev aA.id:Nat:=150
abbrev jc.id:Nat:=151
abbrev kI.id:Nat:=152
abbrev pH.id:Nat:=154
abbrev lh.id:Nat:=156
abbrev aK.id:Nat:=158
abbrev bits_TrailingZeros64.id:Nat:=159
abbrev bM.id:Nat:=160
abbrev bits_Mul64.id:Nat:=161
abbrev bz.id:Nat:=162
abbrev lg.id:Nat:=163
abbrev bits_LeadingZeros64.id:Nat:=164
noncomputable abbrev af.fn:Func:=f19
noncomputable abbrev cV.fn:Func:=f62
noncomputable abbrev cR.fn:Func:=f63
noncomputable abbrev cQ.fn:Func:=f64
noncomputable abbrev bf.fn:Func:=f66
noncomputable abbrev bp.fn:Func:=f67
noncomputable abbrev cP.fn:Func:=f70
noncomputable abbrev ai.fn:Func:=f83
noncomputable abbrev aA.fn:Func:=f150
noncomputable abbrev bz.fn:Func:=f162
theorem cV.at_:prog.funcs[(62:Nat)]? =some f62:=func62
theorem cR.at_:prog.funcs[(63:Nat)]? =some f63:=func63
theorem cQ.at_:prog.funcs[(64:Nat)]? =some f64:=func64
theorem bf.at_:prog.funcs[(66:Nat)]? =some f66:=func66
theorem bp.at_:prog.funcs[(67:Nat)]? =some f67:=func67
theorem cP.at_:prog.funcs[(70:Nat)]? =some f70:=func70
theorem dM.at_:prog.funcs[(102:Nat)]? =some f102:=func102
theorem cr.at_:prog.funcs[(114:Nat)]? =some f114:=func114
theorem cS.at_:prog.funcs[(116:Nat)]? =some f116:=func116
theorem aH.at_:prog.funcs[(137:Nat)]? =some f137:=func137
theorem br.at_:prog.funcs[(141:Nat)]? =some f141:=func141
theorem uC.at_:prog.funcs[(157:Nat)]? =some f157:=func157
theorem aK.at_:prog.funcs[(158:Nat)]? =some f158:=func158
theorem ng:NG prog:=by
 have h:(prog.funcs.toList.all fun f=> !(f.name== "runtime.NumGoroutine"))=true:=by kernel_rfl
 intro g fn hf;rw [List.all_eq_true]at h;have:=h fn (by simpa using Array.mem_of_getElem? hf);simpa using this
theorem mix:prog.follows .mixedOrders=true:=by kernel_rfl
theorem rqq{C:List Nat}{f:FuncId}{fn:Func}{args:List Value}{w:World}{K:Value->World->Prop}{W:Prop}(hf:prog.funcs[f]? =some fn)(h:W)(hb:fn.body=some (body fn):=by kernel_rfl)(hn:(Nat.ble args.length fn.ntmps&&Nat.ble fn.ntmps iK)=true:=by kernel_rfl)(hs:bg none [] prog fn.ntmps C (body fn) (aV fn) (bY prog fn K) (oR args 0) w=W:=by kernel_rfl):bD prog f args.toArray w K:=FA ng mix hf hb hn hs h
def pP.k:List Nat:= []
def pP.q1(K:KT):aR:=(aQ 0 (cK (aS (sR (body f17)))++(aV f17)) (cf (fun cu w_=>match cutAt pP.k (aS (sR (body f17)))with|true=>Holds none [] prog 26 (aS (sR (body f17))) (bY prog f17 K) cu w_|false=>bg none [] prog 26 pP.k (aS (sR (body f17))) (aV f17) (bY prog f17 K) cu w_) (bY prog f17 K)))
section
variable(a:OA)(b d:Nat)(e:OA)(f g:Nat)(K:KT)(w:World)
variable{a b d e f g K w}
end
section
variable(a:OA)(b c:Nat)(d:OA)(e f:Nat)(g:Bool)(i:Int)(Q:aR)(w:World)
variable{a b c d e f}
end
section
variable(a:OA)(b c:Nat)(d:OA)(e f:Nat)(g:Bool)(i:Int)(K:KT)(w:World)
end
def aO.k:List Nat:= []
def aO.q1(K:KT):aR:=(aQ 0 (cK (aS (sR (body Tryz.f27)))++(aV Tryz.f27)) (cf (fun cu w_=>match cutAt aO.k (aS (sR (body Tryz.f27)))with|true=>Holds none [] prog 56 (aS (sR (body Tryz.f27))) (bY prog Tryz.f27 K) cu w_|false=>bg none [] prog 56 aO.k (aS (sR (body Tryz.f27))) (aV Tryz.f27) (bY prog Tryz.f27 K) cu w_) (bY prog Tryz.f27 K)))
def aO.e1(a:OA)(b c:Nat)(d:OA)(e f:Nat)(s:(OA)×Nat×Nat×Int):Env:= [(0,.slice a b c),(2,.slice d e f),(3,.slice s.1 s.2.1 s.2.2.1),(4,.int .i64 s.2.2.2)]
def aO.u1:List Nat:= [0,2,3,4]
def aO.q2(Q:aR):aR:=(aQ 2 (cK (aS (sR (bB (sL (sR (lB (bB (sR (sL (aS (body Tryz.f27)))))))))))++(cK (aS (lB (bB (sR (sL (aS (body Tryz.f27)))))))++aO.u1)) (cf (fun cu w_=>match cutAt aO.k (aS (sR (bB (sL (sR (lB (bB (sR (sL (aS (body Tryz.f27)))))))))))with|true=>Holds none [] prog 56 (aS (sR (bB (sL (sR (lB (bB (sR (sL (aS (body Tryz.f27))))))))))) (aQ 1 (cK (aS (lB (bB (sR (sL (aS (body Tryz.f27)))))))++aO.u1) (cf (fun cu w_=>match cutAt aO.k (aS (lB (bB (sR (sL (aS (body Tryz.f27)))))))with|true=>Holds none [] prog 56 (aS (lB (bB (sR (sL (aS (body Tryz.f27))))))) Q cu w_|false=>bg none [] prog 56 aO.k (aS (lB (bB (sR (sL (aS (body Tryz.f27))))))) aO.u1 Q cu w_) Q)) cu w_|false=>bg none [] prog 56 aO.k (aS (sR (bB (sL (sR (lB (bB (sR (sL (aS (body Tryz.f27))))))))))) (cK (aS (lB (bB (sR (sL (aS (body Tryz.f27)))))))++aO.u1) (aQ 1 (cK (aS (lB (bB (sR (sL (aS (body Tryz.f27)))))))++aO.u1) (cf (fun cu w_=>match cutAt aO.k (aS (lB (bB (sR (sL (aS (body Tryz.f27)))))))with|true=>Holds none [] prog 56 (aS (lB (bB (sR (sL (aS (body Tryz.f27))))))) Q cu w_|false=>bg none [] prog 56 aO.k (aS (lB (bB (sR (sL (aS (body Tryz.f27))))))) aO.u1 Q cu w_) Q)) cu w_) (aQ 1 (cK (aS (lB (bB (sR (sL (aS (body Tryz.f27)))))))++aO.u1) (cf (fun cu w_=>match cutAt aO.k (aS (lB (bB (sR (sL (aS (body Tryz.f27)))))))with|true=>Holds none [] prog 56 (aS (lB (bB (sR (sL (aS (body Tryz.f27))))))) Q cu w_|false=>bg none [] prog 56 aO.k (aS (lB (bB (sR (sL (aS (body Tryz.f27))))))) aO.u1 Q cu w_) Q))))
def aO.e2(a:OA)(b c:Nat)(d:OA)(e f:Nat)(g:OA)(i j:Nat)(k s:Int):Env:= [(0,.slice a b c),(2,.slice d e f),(3,.slice g i j),(4,.int .i64 k),(5,.int .i64 s)]
def aO.u2:List Nat:= [0,2,3,4,5]
section
variable(a:OA)(b d:Nat)(K:KT)(w:World)
def aO.W:Prop:=
 Holds none [] prog 56 (.loop (lB (bB (sR (sL (aS (body Tryz.f27))))))) (aO.q1 K) [(0,.slice a b d),(2,.slice none 0 0),(3,.slice none 0 0),(4,.int .i64 0)] w
variable{a b d K w}
theorem aO.of(h:aO.W a b d K w):bD prog 27 #[.slice a b d] w K:=
 rqq func27 (C:=aO.k) h
end
section
variable(a:OA)(b c:Nat)(d:OA)(e f:Nat)(g:OA)(i j:Nat)(k:Int)(Q:aR)(w:World)
def aO.B1:Prop:=
 Split (decide (k<(b:Int))) ((0<=k/\k<(b:Int))/\Is a fun m:Addr=>∃n:AV,(n.size=32/\Cells w (m.add (k.toNat*32)) n)/\bD prog 38 #[.slice g i j,.agg n] w fun o p=>∃q:Bool,o=.bool q/\Split q (Q .normal [(0,.slice a b c),(2,.slice d e f),(3,.slice g i j),(4,.int .i64 (i64.wrap (k+(1:Int))))] p) (Holds none [] prog 56 (.loop (lB (bB (sL (aS (bB (sL (sR (lB (bB (sR (sL (aS (body Tryz.f27)))))))))))))) (aO.q2 Q) [(0,.slice a b c),(2,.slice d e f),(3,.slice g i j),(4,.int .i64 k),(5,.int .i64 (i:Int))] p)) (Q (.exit 0) [(0,.slice a b c),(2,.slice d e f),(3,.slice g i j),(4,.int .i64 k)] w)
theorem aO.b1:(bg none [] prog 56 aO.k (lB (bB (sR (sL (aS (body Tryz.f27)))))) aO.u1 Q [(0,.slice a b c),(2,.slice d e f),(3,.slice g i j),(4,.int .i64 k)] w)=aO.B1 a b c d e f g i j k Q w:=by kernel_rfl
variable{a b c d e f}
theorem aO.cJ(I:(OA)×Nat×Nat×Int->World->Prop)(μ:(OA)×Nat×Nat×Int->World->Nat)(s:(OA)×Nat×Nat×Int){Q:aR}{w:World}(h0:I s w)
 (round:∀s w,I s w->aO.B1 a b c d e f (s.1) (s.2.1) (s.2.2.1) (s.2.2.2) (bW (aO.e1 a b c d e f) I μ s w Q) w):Holds none [] prog 56 (.loop (lB (bB (sR (sL (aS (body Tryz.f27))))))) Q (aO.e1 a b c d e f s) w:=
 bA ng mix (aO.e1 a b c d e f) I μ aO.k aO.u1 s (fun s Q w=>aO.B1 a b c d e f (s.1) (s.2.1) (s.2.2.1) (s.2.2.2) Q w) (fun s Q w=>aO.b1 a b c d e f (s.1) (s.2.1) (s.2.2.1) (s.2.2.2) Q w) h0 round
end
section
def aO.dd(a:OA)(b c:Nat)(d:OA)(e f:Nat)(g:OA)(i j:Nat)(k:Int)(K:KT)(w:World):Prop:=
 K (.slice g i j) w
variable(a:OA)(b c:Nat)(d:OA)(e f:Nat)(g:OA)(i j:Nat)(k:Int)(K:KT)(w:World)
theorem aO.dv:(aO.q1 K (.exit 0) [(0,.slice a b c),(2,.slice d e f),(3,.slice g i j),(4,.int .i64 k)] w)=aO.dd a b c d e f g i j k K w:=by kernel_rfl
end
section
variable(a:OA)(b c:Nat)(d:OA)(e f:Nat)(g:OA)(i j:Nat)(k m:Int)(Q:aR)(w:World)
def aO.B2:Prop:=
 let n:=w.drew;Split (decide (m>(0:Int))) ((0<=k/\k<(b:Int))/\Is a fun o:Addr=>∃p:AV,(p.size=32/\Cells n (o.add (k.toNat*32)) p)/\(0<=(i64.wrap (m-(1:Int)))/\(i64.wrap (m-(1:Int)))<(i:Int))/\Is g fun q:Addr=>∃r:AV,(r.size=32/\Cells n (q.add ((i64.wrap (m-(1:Int))).toNat*32)) r)/\bD prog 75 #[.agg p,.agg r] n fun t u=>∃v:Int,t=.int .i64 v/\Split (decide (v<(0:Int))) (Q .normal [(0,.slice a b c),(2,.slice d e f),(3,.slice g i j),(4,.int .i64 k),(5,.int .i64 (i64.wrap (m-(1:Int))))] u) (Q (.exit 2) [(0,.slice a b c),(2,.slice d e f),(3,.slice g i j),(4,.int .i64 k),(5,.int .i64 m)] u)) (Q (.exit 2) [(0,.slice a b c),(2,.slice d e f),(3,.slice g i j),(4,.int .i64 k),(5,.int .i64 m)] n)
theorem aO.b2:(bg none [] prog 56 aO.k (lB (bB (sL (aS (bB (sL (sR (lB (bB (sR (sL (aS (body Tryz.f27))))))))))))) aO.u2 Q [(0,.slice a b c),(2,.slice d e f),(3,.slice g i j),(4,.int .i64 k),(5,.int .i64 m)] w)=aO.B2 a b c d e f g i j k m Q w:=by kernel_rfl
variable{a b c d e f g i j k}
theorem aO.iG(I:Int->World->Prop)(μ:Int->World->Nat)(s:Int){Q:aR}{w:World}(h0:I s w)
 (round:∀s w,I s w->aO.B2 a b c d e f g i j k s (bW (aO.e2 a b c d e f g i j k) I μ s w Q) w):Holds none [] prog 56 (.loop (lB (bB (sL (aS (bB (sL (sR (lB (bB (sR (sL (aS (body Tryz.f27)))))))))))))) Q (aO.e2 a b c d e f g i j k s) w:=
 bA ng mix (aO.e2 a b c d e f g i j k) I μ aO.k aO.u2 s (fun s Q w=>aO.B2 a b c d e f g i j k s Q w) (fun s Q w=>aO.b2 a b c d e f g i j k s Q w) h0 round
end
section
variable(a:OA)(b c:Nat)(d:OA)(e f:Nat)(g:OA)(i j:Nat)(k m:Int)(Q:aR)(w:World)
def aO.jr:Prop:=
 (0<=m/\m<=(j:Int))/\∃(n:OA) (o p:Nat) (q:World),(Builtin.append_ #[33,33] 33 #[.slice none 0 0,.slice (if j=0 then g else g.map (·.add (0*32))) (m.toNat-0) (j-0)]).run prog w=.ok (.slice n o p) q/\(0<=k/\k<(b:Int))/\Is a fun r:Addr=>∃t:AV,(t.size=32/\Cells q (r.add (k.toNat*32)) t)/\t.size=32/\let u:=q.alloc (.cells (t.toList++ []).toArray 24);∃(v:OA) (x y:Nat) (z:World),(Builtin.append_ #[33,33] 33 #[.slice n o p,.slice (some (aU q.heap.size)) 1 1]).run prog u=.ok (.slice v x y) z/\(0<=m/\m<=(i:Int))/\∃(a1:OA) (b1 c1:Nat) (d1:World),(Builtin.append_ #[33,33] 33 #[.slice v x y,.slice (if j=m.toNat then g else g.map (·.add (m.toNat*32))) (i-m.toNat) (j-m.toNat)]).run prog z=.ok (.slice a1 b1 c1) d1/\Q .normal [(0,.slice a b c),(2,.slice d e f),(3,.slice a1 b1 c1),(4,.int .i64 (i64.wrap (k+(1:Int))))] d1
theorem aO.kW:(aO.q2 Q (.exit 2) [(0,.slice a b c),(2,.slice d e f),(3,.slice g i j),(4,.int .i64 k),(5,.int .i64 m)] w)=aO.jr a b c d e f g i j k m Q w:=by kernel_rfl
end
def c9.k:List Nat:= []
def c9.q1(K:KT):aR:=(aQ 0 (cK (aS (body f38))++(aV f38)) (cf (fun cu w_=>match cutAt c9.k (aS (body f38))with|true=>Holds none [] prog 18 (aS (body f38)) (bY prog f38 K) cu w_|false=>bg none [] prog 18 c9.k (aS (body f38)) (aV f38) (bY prog f38 K) cu w_) (bY prog f38 K)))
def c9.e1(a:OA)(b c:Nat)(d:Addr)(s:Bool×Int):Env:= [(0,.slice a b c),(3,.pointer (some d)),(4,.bool s.1),(5,.int .i64 s.2)]
def c9.u1:List Nat:= [0,3,4,5]
section
variable(a:OA)(b d:Nat)(e:AV)(K:KT)(w:World)
def c9.W:Prop:=
 let f:=w.alloc (.cells e 24);Holds none [] prog 18 (.loop (lB (bB (sR (sL (sR (body f38))))))) (c9.q1 K) [(0,.slice a b d),(3,.pointer (some (aU w.heap.size))),(4,.bool false),(5,.int .i64 0)] f
variable{a b d e K w}
theorem c9.of(h:c9.W a b d e K w):bD prog 38 #[.slice a b d,.agg e] w K:=
 rqq func38 (C:=c9.k) h
end
section
variable(a:OA)(b c:Nat)(d:Addr)(e:Bool)(f:Int)(Q:aR)(w:World)
def c9.B1:Prop:=
 Split (decide (f<(b:Int))) (let g:=w.drew;(0<=f/\f<(b:Int))/\Is a fun i:Addr=>∃j:AV,(j.size=32/\Cells g (i.add (f.toNat*32)) j)/\∃k:AV,(k.size=32/\Cells g d k)/\(fD .u8 32 j/\fD .u8 32 k)/\Split (gu j k) (Q .ret [(0,.slice a b c),(3,.pointer (some d)),(4,.bool true),(5,.int .i64 f)] g) (Q .normal [(0,.slice a b c),(3,.pointer (some d)),(4,.bool e),(5,.int .i64 (i64.wrap (f+(1:Int))))] g)) (Q (.exit 0) [(0,.slice a b c),(3,.pointer (some d)),(4,.bool e),(5,.int .i64 f)] w)
theorem c9.b1:(bg none [] prog 18 c9.k (lB (bB (sR (sL (sR (body f38)))))) c9.u1 Q [(0,.slice a b c),(3,.pointer (some d)),(4,.bool e),(5,.int .i64 f)] w)=c9.B1 a b c d e f Q w:=by kernel_rfl
variable{a b c d}
theorem c9.cJ(I:Bool×Int->World->Prop)(μ:Bool×Int->World->Nat)(s:Bool×Int){Q:aR}{w:World}(h0:I s w)
 (round:∀s w,I s w->c9.B1 a b c d (s.1) (s.2) (bW (c9.e1 a b c d) I μ s w Q) w):Holds none [] prog 18 (.loop (lB (bB (sR (sL (sR (body f38))))))) Q (c9.e1 a b c d s) w:=
 bA ng mix (c9.e1 a b c d) I μ c9.k c9.u1 s (fun s Q w=>c9.B1 a b c d (s.1) (s.2) Q w) (fun s Q w=>c9.b1 a b c d (s.1) (s.2) Q w) h0 round
end
section
def c9.dd(a:OA)(b c:Nat)(d:Addr)(e:Bool)(f:Int)(K:KT)(w:World):Prop:=
 K (.bool false) w
variable(a:OA)(b c:Nat)(d:Addr)(e:Bool)(f:Int)(K:KT)(w:World)
theorem c9.dv:(c9.q1 K (.exit 0) [(0,.slice a b c),(3,.pointer (some d)),(4,.bool e),(5,.int .i64 f)] w)=c9.dd a b c d e f K w:=by kernel_rfl
end
def gX.k:List Nat:= []
section
variable(a:OA)(b:AV)(K:KT)(w:World)
def gX.W:Prop:=
 let d:=w.alloc (.cells b 24);∃e:AV,(e.size=32/\Cells d (aU w.heap.size) e)/\bD prog 90 #[.pointer a,.agg e] d fun f g=>∃i:OA,f=.pointer i/\K (.bool (!(i).isNone)) g
variable{a b K w}
theorem gX.of(h:gX.W a b K w):bD prog 47 #[.pointer a,.agg b] w K:=
 rqq func47 (C:=gX.k) h
end
def bS.k:List Nat:= []
def bS.q1(K:KT):aR:=(aQ 0 (cK (aS (body f75))++(aV f75)) (cf (fun cu w_=>match cutAt bS.k (aS (body f75))with|true=>Holds none [] prog 24 (aS (body f75)) (bY prog f75 K) cu w_|false=>bg none [] prog 24 bS.k (aS (body f75)) (aV f75) (bY prog f75 K) cu w_) (bY prog f75 K)))
def bS.e1(a b:Addr)(s:Int×Int):Env:= [(2,.pointer (some a)),(3,.pointer (some b)),(4,.int .i64 s.1),(5,.int .i64 s.2)]
def bS.u1:List Nat:= [2,3,4,5]
section
variable(a b:AV)(K:KT)(w:World)
def bS.W:Prop:=
 let d:=w.alloc (.cells a 24);let e:=d.alloc (.cells b 24);Holds none [] prog 24 (.loop (lB (bB (sR (sL (sR (body f75))))))) (bS.q1 K) [(2,.pointer (some (aU w.heap.size))),(3,.pointer (some (aU d.heap.size))),(4,.int .i64 0),(5,.int .i64 0)] e
variable{a b K w}
theorem bS.of(h:bS.W a b K w):bD prog 75 #[.agg a,.agg b] w K:=
 rqq func75 (C:=bS.k) h
end
section
variable(a b:Addr)(c d:Int)(Q:aR)(w:World)
def bS.B1:Prop:=
 Split (decide (d<(32:Int))) (let e:=w.drew;(0<=d/\d<(32:Int))/\∃f:Int,e.cell? (a.add (d.toNat*1))=some (.int .u8 f)/\(0<=d/\d<(32:Int))/\∃g:Int,e.cell? (b.add (d.toNat*1))=some (.int .u8 g)/\Split (decide (f<g)) (Q .ret [(2,.pointer (some a)),(3,.pointer (some b)),(4,.int .i64 (-1)),(5,.int .i64 d)] e) (let i:=e.drew;(0<=d/\d<(32:Int))/\∃j:Int,i.cell? (a.add (d.toNat*1))=some (.int .u8 j)/\(0<=d/\d<(32:Int))/\∃k:Int,i.cell? (b.add (d.toNat*1))=some (.int .u8 k)/\Split (decide (j>k)) (Q .ret [(2,.pointer (some a)),(3,.pointer (some b)),(4,.int .i64 1),(5,.int .i64 d)] i) (Q .normal [(2,.pointer (some a)),(3,.pointer (some b)),(4,.int .i64 c),(5,.int .i64 (i64.wrap (d+(1:Int))))] i))) (Q (.exit 0) [(2,.pointer (some a)),(3,.pointer (some b)),(4,.int .i64 c),(5,.int .i64 d)] w)
theorem bS.b1:(bg none [] prog 24 bS.k (lB (bB (sR (sL (sR (body f75)))))) bS.u1 Q [(2,.pointer (some a)),(3,.pointer (some b)),(4,.int .i64 c),(5,.int .i64 d)] w)=bS.B1 a b c d Q w:=by kernel_rfl
variable{a b}
theorem bS.cJ(I:Int×Int->World->Prop)(μ:Int×Int->World->Nat)(s:Int×Int){Q:aR}{w:World}(h0:I s w)
 (round:∀s w,I s w->bS.B1 a b (s.1) (s.2) (bW (bS.e1 a b) I μ s w Q) w):Holds none [] prog 24 (.loop (lB (bB (sR (sL (sR (body f75))))))) Q (bS.e1 a b s) w:=
 bA ng mix (bS.e1 a b) I μ bS.k bS.u1 s (fun s Q w=>bS.B1 a b (s.1) (s.2) Q w) (fun s Q w=>bS.b1 a b (s.1) (s.2) Q w) h0 round
end
section
def bS.dd(a b:Addr)(c d:Int)(K:KT)(w:World):Prop:=
 K (.int .i64 0) w
variable(a b:Addr)(c d:Int)(K:KT)(w:World)
theorem bS.dv:(bS.q1 K (.exit 0) [(2,.pointer (some a)),(3,.pointer (some b)),(4,.int .i64 c),(5,.int .i64 d)] w)=bS.dd a b c d K w:=by kernel_rfl
end
def gw.k:List Nat:= []
section
variable(a:OA)(b:AV)(K:KT)(w:World)
def gw.W:Prop:=
 let d:=w.alloc (.cells b 24);bD prog 124 #[.pointer a] d fun e f=>∃g:Bool,e=.bool g/\Split g (let i:=f.drew;Is a fun j:Addr=>∃k:Option Nat,i.cell? (j.add 1)=some (.map k)/\∃m:AV,(m.size=32/\Cells i (aU w.heap.size) m)/\∃n:Int,∃o:Bool,(Instr.lookup 127 (.map k) (.agg m) true).run prog i=.ok (.tuple #[.int .i64 n,.bool o]) i/\Split o (Is a fun p:Addr=>∃q:OA,∃r t:Nat,i.cell? (p.add 0)=some (.slice q r t)/\(0<=n/\n<(r:Int))/\Is q fun u:Addr=>∃v:OA,i.cell? (u.add (n.toNat*1))=some (.pointer v)/\K (.pointer v) i) (K (.pointer none) i)) (K (.pointer none) f)
variable{a b K w}
theorem gw.of(h:gw.W a b K w):bD prog 90 #[.pointer a,.agg b] w K:=
 rqq func90 (C:=gw.k) h
end
section
variable(a:Int)(b:OA)(K:KT)(w:World)
variable{a b K w}
end
def ah.k:List Nat:= []
def ah.q1(K:KT):aR:=(aQ 0 (cK (aS (sR (body f99)))++(aV f99)) (cf (fun cu w_=>match cutAt ah.k (aS (sR (body f99)))with|true=>Holds none [] prog 61 (aS (sR (body f99))) (bY prog f99 K) cu w_|false=>bg none [] prog 61 ah.k (aS (sR (body f99))) (aV f99) (bY prog f99 K) cu w_) (bY prog f99 K)))
def ah.e1(a:OA)(b c:Nat)(s:(OA)×Nat×Nat×Int):Env:= [(0,.slice a b c),(2,.slice s.1 s.2.1 s.2.2.1),(3,.int .i64 s.2.2.2)]
def ah.u1:List Nat:= [0,2,3]
def ah.q2(Q:aR):aR:=(aQ 2 (cK (aS (cT (sR (bB (sL (sR (lB (bB (sR (sL (aS (body f99))))))))))))++(cK (aS (lB (bB (sR (sL (aS (body f99)))))))++ah.u1)) (cf (fun cu w_=>match cutAt ah.k (aS (cT (sR (bB (sL (sR (lB (bB (sR (sL (aS (body f99))))))))))))with|true=>Holds none [] prog 61 (aS (cT (sR (bB (sL (sR (lB (bB (sR (sL (aS (body f99)))))))))))) (aQ 1 (cK (aS (lB (bB (sR (sL (aS (body f99)))))))++ah.u1) (cf (fun cu w_=>match cutAt ah.k (aS (lB (bB (sR (sL (aS (body f99)))))))with|true=>Holds none [] prog 61 (aS (lB (bB (sR (sL (aS (body f99))))))) Q cu w_|false=>bg none [] prog 61 ah.k (aS (lB (bB (sR (sL (aS (body f99))))))) ah.u1 Q cu w_) Q)) cu w_|false=>bg none [] prog 61 ah.k (aS (cT (sR (bB (sL (sR (lB (bB (sR (sL (aS (body f99)))))))))))) (cK (aS (lB (bB (sR (sL (aS (body f99)))))))++ah.u1) (aQ 1 (cK (aS (lB (bB (sR (sL (aS (body f99)))))))++ah.u1) (cf (fun cu w_=>match cutAt ah.k (aS (lB (bB (sR (sL (aS (body f99)))))))with|true=>Holds none [] prog 61 (aS (lB (bB (sR (sL (aS (body f99))))))) Q cu w_|false=>bg none [] prog 61 ah.k (aS (lB (bB (sR (sL (aS (body f99))))))) ah.u1 Q cu w_) Q)) cu w_) (aQ 1 (cK (aS (lB (bB (sR (sL (aS (body f99)))))))++ah.u1) (cf (fun cu w_=>match cutAt ah.k (aS (lB (bB (sR (sL (aS (body f99)))))))with|true=>Holds none [] prog 61 (aS (lB (bB (sR (sL (aS (body f99))))))) Q cu w_|false=>bg none [] prog 61 ah.k (aS (lB (bB (sR (sL (aS (body f99))))))) ah.u1 Q cu w_) Q))))
def ah.e2(a:OA)(b c:Nat)(d:OA)(e f:Nat)(g:OA)(i j:Nat)(s:Int×Int):Env:= [(0,.slice a b c),(2,.slice d e f),(3,.int .i64 s.1),(4,.slice g i j),(5,.int .i64 s.2)]
def ah.u2:List Nat:= [0,2,3,4,5]
section
variable(a:OA)(b d:Nat)(K:KT)(w:World)
def ah.W:Prop:=
 Split (decide ((b:Int)<(2:Int))) (K (.slice a b d) w) (Holds none [] prog 61 (.loop (lB (bB (sR (sL (aS (body f99))))))) (ah.q1 K) [(0,.slice a b d),(2,.slice none 0 0),(3,.int .i64 1)] w)
variable{a b d K w}
theorem ah.of(h:ah.W a b d K w):bD prog 99 #[.slice a b d] w K:=
 rqq func99 (C:=ah.k) h
end
section
variable(a:OA)(b c:Nat)(d:OA)(e f:Nat)(g:Int)(Q:aR)(w:World)
def ah.B1:Prop:=
 Split (decide (g<(b:Int))) (let i:=w.drew;(0<=g/\g<(b:Int))/\Is a fun j:Addr=>∃k:AV,(k.size=32/\Cells i (j.add (g.toNat*32)) k)/\(0<=(i64.wrap (g-(1:Int)))/\(i64.wrap (g-(1:Int)))<(b:Int))/\Is a fun m:Addr=>∃n:AV,(n.size=32/\Cells i (m.add ((i64.wrap (g-(1:Int))).toNat*32)) n)/\(fD .u8 32 k/\fD .u8 32 n)/\Split (gu k n) ((0<=g/\g<=(b:Int))/\Holds none [] prog 61 (.loop (lB (bB (sR (sL (sR (cT (sR (bB (sL (sR (lB (bB (sR (sL (aS (body f99))))))))))))))))) (ah.q2 Q) [(0,.slice a b c),(2,.slice d e f),(3,.int .i64 g),(4,.slice (if c=g.toNat then a else a.map (·.add (g.toNat*32))) (b-g.toNat) (c-g.toNat)),(5,.int .i64 1)] i) (Q .normal [(0,.slice a b c),(2,.slice d e f),(3,.int .i64 (i64.wrap (g+(1:Int))))] i)) (Q (.exit 0) [(0,.slice a b c),(2,.slice d e f),(3,.int .i64 g)] w)
theorem ah.b1:(bg none [] prog 61 ah.k (lB (bB (sR (sL (aS (body f99)))))) ah.u1 Q [(0,.slice a b c),(2,.slice d e f),(3,.int .i64 g)] w)=ah.B1 a b c d e f g Q w:=by kernel_rfl
variable{a b c}
theorem ah.cJ(I:(OA)×Nat×Nat×Int->World->Prop)(μ:(OA)×Nat×Nat×Int->World->Nat)(s:(OA)×Nat×Nat×Int){Q:aR}{w:World}(h0:I s w)
 (round:∀s w,I s w->ah.B1 a b c (s.1) (s.2.1) (s.2.2.1) (s.2.2.2) (bW (ah.e1 a b c) I μ s w Q) w):Holds none [] prog 61 (.loop (lB (bB (sR (sL (aS (body f99))))))) Q (ah.e1 a b c s) w:=
 bA ng mix (ah.e1 a b c) I μ ah.k ah.u1 s (fun s Q w=>ah.B1 a b c (s.1) (s.2.1) (s.2.2.1) (s.2.2.2) Q w) (fun s Q w=>ah.b1 a b c (s.1) (s.2.1) (s.2.2.1) (s.2.2.2) Q w) h0 round
end
section
def ah.dd(a:OA)(b c:Nat)(d:OA)(e f:Nat)(g:Int)(K:KT)(w:World):Prop:=
 K (.slice a b c) w
variable(a:OA)(b c:Nat)(d:OA)(e f:Nat)(g:Int)(K:KT)(w:World)
theorem ah.dv:(ah.q1 K (.exit 0) [(0,.slice a b c),(2,.slice d e f),(3,.int .i64 g)] w)=ah.dd a b c d e f g K w:=by kernel_rfl
end
section
variable(a:OA)(b c:Nat)(d:OA)(e f:Nat)(g:Int)(i:OA)(j k:Nat)(m:Int)(Q:aR)(w:World)
def ah.B2:Prop:=
 Split (decide (m<(j:Int))) (let n:=w.drew;(0<=m/\m<(j:Int))/\Is i fun o:Addr=>∃p:AV,(p.size=32/\Cells n (o.add (m.toNat*32)) p)/\(0<=(i64.wrap (m-(1:Int)))/\(i64.wrap (m-(1:Int)))<(j:Int))/\Is i fun q:Addr=>∃r:AV,(r.size=32/\Cells n (q.add ((i64.wrap (m-(1:Int))).toNat*32)) r)/\(fD .u8 32 p/\fD .u8 32 r)/\Split (!(gu p r)) ((0<=m/\m<(j:Int))/\Is i fun t:Addr=>∃u:AV,(u.size=32/\Cells n (t.add (m.toNat*32)) u)/\(0<=g/\g<(b:Int))/\Is a fun v:Addr=>(u.size=32/\(∀x∈u.toList,x.oneCell'=true)/\∀y,y<32->Wr n ((v.add (g.toNat*32)).add y))/\let z:=setCells n (v.add (g.toNat*32)) u.toList 0;Q .normal [(0,.slice a b c),(2,.slice d e f),(3,.int .i64 (i64.wrap (g+(1:Int)))),(4,.slice i j k),(5,.int .i64 (i64.wrap (m+(1:Int))))] z) (Q .normal [(0,.slice a b c),(2,.slice d e f),(3,.int .i64 g),(4,.slice i j k),(5,.int .i64 (i64.wrap (m+(1:Int))))] n)) (Q (.exit 2) [(0,.slice a b c),(2,.slice d e f),(3,.int .i64 g),(4,.slice i j k),(5,.int .i64 m)] w)
theorem ah.b2:(bg none [] prog 61 ah.k (lB (bB (sR (sL (sR (cT (sR (bB (sL (sR (lB (bB (sR (sL (aS (body f99)))))))))))))))) ah.u2 Q [(0,.slice a b c),(2,.slice d e f),(3,.int .i64 g),(4,.slice i j k),(5,.int .i64 m)] w)=ah.B2 a b c d e f g i j k m Q w:=by kernel_rfl
variable{a b c d e f i j k}
theorem ah.iG(I:Int×Int->World->Prop)(μ:Int×Int->World->Nat)(s:Int×Int){Q:aR}{w:World}(h0:I s w)
 (round:∀s w,I s w->ah.B2 a b c d e f (s.1) i j k (s.2) (bW (ah.e2 a b c d e f i j k) I μ s w Q) w):Holds none [] prog 61 (.loop (lB (bB (sR (sL (sR (cT (sR (bB (sL (sR (lB (bB (sR (sL (aS (body f99))))))))))))))))) Q (ah.e2 a b c d e f i j k s) w:=
 bA ng mix (ah.e2 a b c d e f i j k) I μ ah.k ah.u2 s (fun s Q w=>ah.B2 a b c d e f (s.1) i j k (s.2) Q w) (fun s Q w=>ah.b2 a b c d e f (s.1) i j k (s.2) Q w) h0 round
end
section
def ah.jr(a:OA)(b c:Nat)(d:OA)(e f:Nat)(g:Int)(i:OA)(j k:Nat)(m:Int)(Q:aR)(w:World):Prop:=
 (0<=g/\g<=(b:Int))/\∃(n:Value) (o:World),(Builtin.clear_ #[33] 0 #[.slice (if c=g.toNat then a else a.map (·.add (g.toNat*32))) (b-g.toNat) (c-g.toNat)]).run prog w=.ok n o/\(0<=g/\g<=(c:Int))/\Q .ret [(0,.slice a b c),(2,.slice (if c=0 then a else a.map (·.add (0*32))) (g.toNat-0) (c-0)),(3,.int .i64 g)] o
variable(a:OA)(b c:Nat)(d:OA)(e f:Nat)(g:Int)(i:OA)(j k:Nat)(m:Int)(Q:aR)(w:World)
theorem ah.kW:(ah.q2 Q (.exit 2) [(0,.slice a b c),(2,.slice d e f),(3,.int .i64 g),(4,.slice i j k),(5,.int .i64 m)] w)=ah.jr a b c d e f g i j k m Q w:=by kernel_rfl
end
def dM.k:List Nat:= []
section
variable(a b:AV)(K:KT)(w:World)
def dM.W:Prop:=
 let d:=w.alloc (.cells a 24);let e:=d.alloc (.cells b 24);let f:=e.drew;bD prog 138 #[.slice (some (if 32=0 then(aU w.heap.size)else(aU w.heap.size).add (0*1))) (32-0) (32-0),.slice (some (if 32=0 then(aU d.heap.size)else(aU d.heap.size).add (0*1))) (32-0) (32-0)] f fun g i=>∃j:Int,g=.int .i64 j/\K (.int .i64 j) i
variable{a b K w}
theorem dM.of(h:dM.W a b K w):bD prog 102 #[.agg a,.agg b] w K:=
 rqq func102 (C:=dM.k) h
end
def gI.k:List Nat:= []
section
variable(a:OA)(K:KT)(w:World)
def gI.W:Prop:=
 Split (!(a).isNone) (Is a fun b:Addr=>∃d:Option Nat,w.cell? (b.add 1)=some (.map d)/\K (.bool (!(d).isNone)) w) (K (.bool false) w)
variable{a K w}
theorem gI.of(h:gI.W a K w):bD prog 124 #[.pointer a] w K:=
 rqq func124 (C:=gI.k) h
end
def iQ.k:List Nat:= []
section
variable(a:OA)(b d:Nat)(e:OA)(f g:Nat)(K:KT)(w:World)
def iQ.W:Prop:=
 EV prog 157 #[.slice a b d,.slice e f g] w fun i j=>∃k:Int,i=.int .i64 k/\K (.int .i64 k) j
variable{a b d e f g K w}
theorem iQ.of(h:iQ.W a b d e f g K w):bD prog 138 #[.slice a b d,.slice e f g] w K:=
 rqq func138 (C:=iQ.k) h
end
def cM.k:List Nat:= []
def cM.q1(K:KT):aR:=(aQ 0 (cK (aS (body f143))++(aV f143)) (cf (fun cu w_=>match cutAt cM.k (aS (body f143))with|true=>Holds none [] prog 30 (aS (body f143)) (bY prog f143 K) cu w_|false=>bg none [] prog 30 cM.k (aS (body f143)) (aV f143) (bY prog f143 K) cu w_) (bY prog f143 K)))
def cM.e1(a:OA)(b c:Nat)(d:OA)(e f:Nat)(g:Int)(s:(OA)×Nat×Nat×Int):Env:= [(0,.slice s.1 s.2.1 s.2.2.1),(4,.slice a b c),(7,.slice d e f),(8,.int .i64 g),(9,.int .i64 s.2.2.2)]
def cM.u1:List Nat:= [0,4,7,8,9]
section
variable(a:OA)(b d:Nat)(e:OA)(f g:Nat)(K:KT)(w:World)
def cM.W:Prop:=
 Holds none [] prog 30 (.loop (lB (bB (sR (sL (sR (body f143))))))) (cM.q1 K) [(0,.slice a b d),(4,.slice none 0 0),(7,.slice e f g),(8,.int .i64 (f:Int)),(9,.int .i64 0)] w
variable{a b d e f g K w}
theorem cM.of(h:cM.W a b d e f g K w):bD prog 143 #[.slice a b d,.slice e f g] w K:=
 rqq func143 (C:=cM.k) h
end
section
variable(a:OA)(b c:Nat)(d:OA)(e f:Nat)(g:OA)(i j:Nat)(k m:Int)(Q:aR)(w:World)
def cM.B1:Prop:=
 Split (decide (m<k)) ((0<=m/\m<(i:Int))/\Is g fun n:Addr=>∃o:Int,w.cell? (n.add (m.toNat*1))=some (.int .u64 o)/\Split (m==(b:Int)) (let p:=w.alloc (.cells #[.int .u64 0] 22);∃(q:OA) (r t:Nat) (u:World),(Builtin.append_ #[143,143] 143 #[.slice a b c,.slice (some (aU w.heap.size)) 1 1]).run prog p=.ok (.slice q r t) u/\(0<=m/\m<(r:Int))/\Is q fun v:Addr=>∃x:Int,u.cell? (v.add (m.toNat*1))=some (.int .u64 x)/\(0<=m/\m<(r:Int))/\Is q fun y:Addr=>Wr u (y.add (m.toNat*1))/\let z:=u.setCell (y.add (m.toNat*1)) (.int .u64 (u64.wrap ((BitVec.ofInt 64 x|||BitVec.ofInt 64 o).toNat)));Q .normal [(0,.slice q r t),(4,.slice d e f),(7,.slice g i j),(8,.int .i64 k),(9,.int .i64 (i64.wrap (m+(1:Int))))] z) ((0<=m/\m<(b:Int))/\Is a fun a1:Addr=>∃b1:Int,w.cell? (a1.add (m.toNat*1))=some (.int .u64 b1)/\(0<=m/\m<(b:Int))/\Is a fun c1:Addr=>Wr w (c1.add (m.toNat*1))/\let d1:=w.setCell (c1.add (m.toNat*1)) (.int .u64 (u64.wrap ((BitVec.ofInt 64 b1|||BitVec.ofInt 64 o).toNat)));Q .normal [(0,.slice a b c),(4,.slice d e f),(7,.slice g i j),(8,.int .i64 k),(9,.int .i64 (i64.wrap (m+(1:Int))))] d1)) (Q (.exit 0) [(0,.slice a b c),(4,.slice d e f),(7,.slice g i j),(8,.int .i64 k),(9,.int .i64 m)] w)
theorem cM.b1:(bg none [] prog 30 cM.k (lB (bB (sR (sL (sR (body f143)))))) cM.u1 Q [(0,.slice a b c),(4,.slice d e f),(7,.slice g i j),(8,.int .i64 k),(9,.int .i64 m)] w)=cM.B1 a b c d e f g i j k m Q w:=by kernel_rfl
variable{d e f g i j k}
theorem cM.cJ(I:(OA)×Nat×Nat×Int->World->Prop)(μ:(OA)×Nat×Nat×Int->World->Nat)(s:(OA)×Nat×Nat×Int){Q:aR}{w:World}(h0:I s w)
 (round:∀s w,I s w->cM.B1 (s.1) (s.2.1) (s.2.2.1) d e f g i j k (s.2.2.2) (bW (cM.e1 d e f g i j k) I μ s w Q) w):Holds none [] prog 30 (.loop (lB (bB (sR (sL (sR (body f143))))))) Q (cM.e1 d e f g i j k s) w:=
 bA ng mix (cM.e1 d e f g i j k) I μ cM.k cM.u1 s (fun s Q w=>cM.B1 (s.1) (s.2.1) (s.2.2.1) d e f g i j k (s.2.2.2) Q w) (fun s Q w=>cM.b1 (s.1) (s.2.1) (s.2.2.1) d e f g i j k (s.2.2.2) Q w) h0 round
end
section
def cM.dd(a:OA)(b c:Nat)(d:OA)(e f:Nat)(g:OA)(i j:Nat)(k m:Int)(K:KT)(w:World):Prop:=
 K (.slice a b c) w
variable(a:OA)(b c:Nat)(d:OA)(e f:Nat)(g:OA)(i j:Nat)(k m:Int)(K:KT)(w:World)
theorem cM.dv:(cM.q1 K (.exit 0) [(0,.slice a b c),(4,.slice d e f),(7,.slice g i j),(8,.int .i64 k),(9,.int .i64 m)] w)=cM.dd a b c d e f g i j k m K w:=by kernel_rfl
end
def eQ.k:List Nat:= []
section
variable(a:AV)(b:Addr)(K:KT)(w:World)
def eQ.W:Prop:=
 let d:=w.alloc (.cells a 24);∃e:OA,d.cell? b=some (.pointer e)/\∃f:AV,(f.size=32/\Cells d (aU w.heap.size) f)/\bD prog 47 #[.pointer e,.agg f] d fun g i=>∃j:Bool,g=.bool j/\K (.bool (!j)) i
variable{a b K w}
theorem eQ.of(h:eQ.W a b K w):bD prog 145 #[.agg a,.pointer (some b)] w K:=
 rqq func145 (C:=eQ.k) h
end
def bX.k:List Nat:= []
def bX.q1(K:KT):aR:=(aQ 0 (cK (aS (body f146))++(aV f146)) (cf (fun cu w_=>match cutAt bX.k (aS (body f146))with|true=>Holds none [] prog 24 (aS (body f146)) (bY prog f146 K) cu w_|false=>bg none [] prog 24 bX.k (aS (body f146)) (aV f146) (bY prog f146 K) cu w_) (bY prog f146 K)))
def bX.e1(a:Int)(b:OA)(c d:Nat)(s:(OA)×Nat×Nat):Env:= [(0,.slice s.1 s.2.1 s.2.2),(1,.int .i64 a),(4,.slice b c d)]
def bX.u1:List Nat:= [0,1,4]
section
variable(a:OA)(b d:Nat)(e:Int)(K:KT)(w:World)
def bX.W:Prop:=
 Holds none [] prog 24 (.loop (lB (bB (sL (sR (body f146)))))) (bX.q1 K) [(0,.slice a b d),(1,.int .i64 e),(4,.slice none 0 0)] w
variable{a b d e K w}
theorem bX.of(h:bX.W a b d e K w):bD prog 146 #[.slice a b d,.int .i64 e] w K:=
 rqq func146 (C:=bX.k) h
end
section
variable(a:OA)(b c:Nat)(d:Int)(e:OA)(f g:Nat)(Q:aR)(w:World)
def bX.B1:Prop:=
 (64:Int)≠0/\Split (decide ((b:Int)<=(i64.wrap (d.tdiv (64:Int))))) (let i:=w.alloc (.cells #[.int .u64 0] 22);∃(j:OA) (k m:Nat) (n:World),(Builtin.append_ #[143,143] 143 #[.slice a b c,.slice (some (aU w.heap.size)) 1 1]).run prog i=.ok (.slice j k m) n/\Q .normal [(0,.slice j k m),(1,.int .i64 d),(4,.slice e f g)] n) (Q (.exit 0) [(0,.slice a b c),(1,.int .i64 d),(4,.slice e f g)] w)
theorem bX.b1:(bg none [] prog 24 bX.k (lB (bB (sL (sR (body f146))))) bX.u1 Q [(0,.slice a b c),(1,.int .i64 d),(4,.slice e f g)] w)=bX.B1 a b c d e f g Q w:=by kernel_rfl
variable{d e f g}
theorem bX.cJ(I:(OA)×Nat×Nat->World->Prop)(μ:(OA)×Nat×Nat->World->Nat)(s:(OA)×Nat×Nat){Q:aR}{w:World}(h0:I s w)
 (round:∀s w,I s w->bX.B1 (s.1) (s.2.1) (s.2.2) d e f g (bW (bX.e1 d e f g) I μ s w Q) w):Holds none [] prog 24 (.loop (lB (bB (sL (sR (body f146)))))) Q (bX.e1 d e f g s) w:=
 bA ng mix (bX.e1 d e f g) I μ bX.k bX.u1 s (fun s Q w=>bX.B1 (s.1) (s.2.1) (s.2.2) d e f g Q w) (fun s Q w=>bX.b1 (s.1) (s.2.1) (s.2.2) d e f g Q w) h0 round
end
section
def bX.dd(a:OA)(b c:Nat)(d:Int)(e:OA)(f g:Nat)(K:KT)(w:World):Prop:=
 let i:=w.drew;(64:Int)≠0/\(0<=(i64.wrap (d.tdiv (64:Int)))/\(i64.wrap (d.tdiv (64:Int)))<(b:Int))/\Is a fun j:Addr=>∃k:Int,i.cell? (j.add ((i64.wrap (d.tdiv (64:Int))).toNat*1))=some (.int .u64 k)/\(64:Int)≠0/\0<=(d.tmod (64:Int))/\(0<=(i64.wrap (d.tdiv (64:Int)))/\(i64.wrap (d.tdiv (64:Int)))<(b:Int))/\Is a fun m:Addr=>Wr i (m.add ((i64.wrap (d.tdiv (64:Int))).toNat*1))/\let n:=i.setCell (m.add ((i64.wrap (d.tdiv (64:Int))).toNat*1)) (.int .u64 (u64.wrap ((BitVec.ofInt 64 k|||BitVec.ofInt 64 (u64.wrap ((1:Int)*2 ^ (min (d.tmod (64:Int)).toNat 64)))).toNat)));K (.slice a b c) n
variable(a:OA)(b c:Nat)(d:Int)(e:OA)(f g:Nat)(K:KT)(w:World)
theorem bX.dv:(bX.q1 K (.exit 0) [(0,.slice a b c),(1,.int .i64 d),(4,.slice e f g)] w)=bX.dd a b c d e f g K w:=by kernel_rfl
end
section
variable(a:OA)(K:KT)(w:World)
variable{a K w}
end
section
variable(a:OA)(b c:Nat)(d:OA)(e f:Nat)(g:OA)(i j:Nat)(k m:Int)(Q:aR)(w:World)
variable{a b c g i j k}
end
section
variable(a:OA)(b c:Nat)(d:OA)(e f:Nat)(g:OA)(i j:Nat)(k m:Int)(K:KT)(w:World)
end
def ay.k:List Nat:= []
def ay.q1(K:KT):aR:=(aQ 0 (cK (aS (body f91))++(aV f91)) (cf (fun cu w_=>match cutAt ay.k (aS (body f91))with|true=>Holds none [] prog 19 (aS (body f91)) (bY prog f91 K) cu w_|false=>bg none [] prog 19 ay.k (aS (body f91)) (aV f91) (bY prog f91 K) cu w_) (bY prog f91 K)))
def ay.e1(a:OA)(b c:Nat)(d:Addr)(e:Int)(s:Int×Int):Env:= [(0,.slice a b c),(1,.func (.func 145) #[] #[.pointer (some d)]),(4,.int .i64 s.1),(7,.int .i64 e),(8,.int .i64 s.2)]
def ay.u1:List Nat:= [0,1,4,7,8]
section
variable(a:OA)(b d:Nat)(e:Addr)(K:KT)(w:World)
def ay.W:Prop:=
 Holds none [] prog 19 (.loop (lB (bB (sR (sL (sR (body f91))))))) (ay.q1 K) [(0,.slice a b d),(1,.func (.func 145) #[] #[.pointer (some e)]),(4,.int .i64 0),(7,.int .i64 (b:Int)),(8,.int .i64 0)] w
variable{a b d e K w}
theorem ay.of(h:ay.W a b d e K w):bD prog 91 #[.slice a b d,.func (.func 145) #[] #[.pointer (some e)]] w K:=
 rqq func91 (C:=ay.k) h
end
section
variable(a:OA)(b c:Nat)(d:Addr)(e f g:Int)(Q:aR)(w:World)
def ay.B1:Prop:=
 Split (decide (g<f)) ((0<=g/\g<(b:Int))/\Is a fun i:Addr=>∃j:AV,(j.size=32/\Cells w (i.add (g.toNat*32)) j)/\bD prog 145 #[.agg j,.pointer (some d)] w fun k m=>∃n:Bool,k=.bool n/\Split n (Q .ret [(0,.slice a b c),(1,.func (.func 145) #[] #[.pointer (some d)]),(4,.int .i64 g),(7,.int .i64 f),(8,.int .i64 g)] m) (Q .normal [(0,.slice a b c),(1,.func (.func 145) #[] #[.pointer (some d)]),(4,.int .i64 e),(7,.int .i64 f),(8,.int .i64 (i64.wrap (g+(1:Int))))] m)) (Q (.exit 0) [(0,.slice a b c),(1,.func (.func 145) #[] #[.pointer (some d)]),(4,.int .i64 e),(7,.int .i64 f),(8,.int .i64 g)] w)
theorem ay.b1:(bg none [] prog 19 ay.k (lB (bB (sR (sL (sR (body f91)))))) ay.u1 Q [(0,.slice a b c),(1,.func (.func 145) #[] #[.pointer (some d)]),(4,.int .i64 e),(7,.int .i64 f),(8,.int .i64 g)] w)=ay.B1 a b c d e f g Q w:=by kernel_rfl
variable{a b c d f}
theorem ay.cJ(I:Int×Int->World->Prop)(μ:Int×Int->World->Nat)(s:Int×Int){Q:aR}{w:World}(h0:I s w)
 (round:∀s w,I s w->ay.B1 a b c d (s.1) f (s.2) (bW (ay.e1 a b c d f) I μ s w Q) w):Holds none [] prog 19 (.loop (lB (bB (sR (sL (sR (body f91))))))) Q (ay.e1 a b c d f s) w:=
 bA ng mix (ay.e1 a b c d f) I μ ay.k ay.u1 s (fun s Q w=>ay.B1 a b c d (s.1) f (s.2) Q w) (fun s Q w=>ay.b1 a b c d (s.1) f (s.2) Q w) h0 round
end
section
def ay.dd(a:OA)(b c:Nat)(d:Addr)(e f g:Int)(K:KT)(w:World):Prop:=
 K (.int .i64 (-1)) w
variable(a:OA)(b c:Nat)(d:Addr)(e f g:Int)(K:KT)(w:World)
theorem ay.dv:(ay.q1 K (.exit 0) [(0,.slice a b c),(1,.func (.func 145) #[] #[.pointer (some d)]),(4,.int .i64 e),(7,.int .i64 f),(8,.int .i64 g)] w)=ay.dd a b c d e f g K w:=by kernel_rfl
end
def cH.k:List Nat:= []
section
variable(a:OA)(b d:Nat)(e:Addr)(K:KT)(w:World)
def cH.W:Prop:=
 bD prog 91 #[.slice a b d,.func (.func 145) #[] #[.pointer (some e)]] w fun f g=>∃i:Int,f=.int .i64 i/\K (.bool (decide (i>=(0:Int)))) g
variable{a b d e K w}
theorem cH.of(h:cH.W a b d e K w):bD prog 68 #[.slice a b d,.func (.func 145) #[] #[.pointer (some e)]] w K:=
 rqq func68 (C:=cH.k) h
end
def aK.k:List Nat:= []
def aK.q1(K:KT):aR:=(aQ 0 (aV f158) (bY prog f158 K))
def aK.e1(a:Nat)(b:OA)(c d:Nat)(e s:Int):Env:= [(0,.func (.yield a) #[] #[]),(5,.slice b c d),(6,.int .i64 e),(7,.int .i64 s)]
def aK.u1:List Nat:= [0,5,6,7]
def aK.q2(Q:aR):aR:=(aQ 2 (cK (aS (sR (lB (bB (sR (body f158))))))++aK.u1) (aQ 1 (cK (aS (sR (lB (bB (sR (body f158))))))++aK.u1) (cf (fun cu w_=>match cutAt aK.k (aS (sR (lB (bB (sR (body f158))))))with|true=>Holds none [] prog 27 (aS (sR (lB (bB (sR (body f158)))))) Q cu w_|false=>bg none [] prog 27 aK.k (aS (sR (lB (bB (sR (body f158)))))) aK.u1 Q cu w_) Q)))
def aK.e2(a:Nat)(b:Int)(c:OA)(d e:Nat)(f g s:Int):Env:= [(0,.func (.yield a) #[] #[]),(3,.int .i64 b),(4,.int .u64 s),(5,.slice c d e),(6,.int .i64 f),(7,.int .i64 g)]
def aK.u2:List Nat:= [0,3,4,5,6,7]
section
variable(a:Nat)(b:Addr)(K:KT)(w:World)
def aK.W:Prop:=
 ∃d:OA,∃e f:Nat,w.cell? b=some (.slice d e f)/\Holds none [] prog 27 (.loop (lB (bB (sR (body f158))))) (aK.q1 K) [(0,.func (.yield a) #[] #[]),(5,.slice d e f),(6,.int .i64 (e:Int)),(7,.int .i64 0)] w
variable{a b K w}
theorem aK.of(h:aK.W a b K w):bD prog 158 #[.func (.yield a) #[] #[],.pointer (some b)] w K:=
 rqq func158 (C:=aK.k) h
end
section
variable(a:Nat)(b:OA)(c d:Nat)(e f:Int)(Q:aR)(w:World)
def aK.B1:Prop:=
 Split (decide (f<e)) ((0<=f/\f<(c:Int))/\Is b fun g:Addr=>∃i:Int,w.cell? (g.add (f.toNat*1))=some (.int .u64 i)/\Holds none [] prog 27 (.loop (lB (bB (sR (bB (sL (aS (lB (bB (sR (body f158))))))))))) (aK.q2 Q) [(0,.func (.yield a) #[] #[]),(3,.int .i64 f),(4,.int .u64 i),(5,.slice b c d),(6,.int .i64 e),(7,.int .i64 f)] w) (Q (.exit 0) [(0,.func (.yield a) #[] #[]),(5,.slice b c d),(6,.int .i64 e),(7,.int .i64 f)] w)
theorem aK.b1:(bg none [] prog 27 aK.k (lB (bB (sR (body f158)))) aK.u1 Q [(0,.func (.yield a) #[] #[]),(5,.slice b c d),(6,.int .i64 e),(7,.int .i64 f)] w)=aK.B1 a b c d e f Q w:=by kernel_rfl
variable{a b c d e}
theorem aK.cJ(I:Int->World->Prop)(μ:Int->World->Nat)(s:Int){Q:aR}{w:World}(h0:I s w)
 (round:∀s w,I s w->aK.B1 a b c d e s (bW (aK.e1 a b c d e) I μ s w Q) w):Holds none [] prog 27 (.loop (lB (bB (sR (body f158))))) Q (aK.e1 a b c d e s) w:=
 bA ng mix (aK.e1 a b c d e) I μ aK.k aK.u1 s (fun s Q w=>aK.B1 a b c d e s Q w) (fun s Q w=>aK.b1 a b c d e s Q w) h0 round
end
section
def aK.dd(a:Nat)(b:OA)(c d:Nat)(e f:Int)(K:KT)(w:World):Prop:=
 K (.tuple #[]) w
variable(a:Nat)(b:OA)(c d:Nat)(e f:Int)(K:KT)(w:World)
theorem aK.dv:(aK.q1 K (.exit 0) [(0,.func (.yield a) #[] #[]),(5,.slice b c d),(6,.int .i64 e),(7,.int .i64 f)] w)=aK.dd a b c d e f K w:=by kernel_rfl
end
section
variable(a:Nat)(b c:Int)(d:OA)(e f:Nat)(g i:Int)(Q:aR)(w:World)
def aK.B2:Prop:=
 Split (c != (0:Int)) (bD prog 159 #[.int .u64 c] w fun j k=>∃m:Int,j=.int .i64 m/\lA prog a #[.int .i64 (i64.wrap ((i64.wrap ((64:Int)*b))+m))] k fun n o=>Split (!n) (Q .ret [(0,.func (.yield a) #[] #[]),(3,.int .i64 b),(4,.int .u64 c),(5,.slice d e f),(6,.int .i64 g),(7,.int .i64 i)] o) (Q .normal [(0,.func (.yield a) #[] #[]),(3,.int .i64 b),(4,.int .u64 (u64.wrap ((BitVec.ofInt 64 c&&& BitVec.ofInt 64 (u64.wrap (c-(1:Int)))).toNat))),(5,.slice d e f),(6,.int .i64 g),(7,.int .i64 i)] o)) (Q (.exit 2) [(0,.func (.yield a) #[] #[]),(3,.int .i64 b),(4,.int .u64 c),(5,.slice d e f),(6,.int .i64 g),(7,.int .i64 i)] w)
theorem aK.b2:(bg none [] prog 27 aK.k (lB (bB (sR (bB (sL (aS (lB (bB (sR (body f158)))))))))) aK.u2 Q [(0,.func (.yield a) #[] #[]),(3,.int .i64 b),(4,.int .u64 c),(5,.slice d e f),(6,.int .i64 g),(7,.int .i64 i)] w)=aK.B2 a b c d e f g i Q w:=by kernel_rfl
variable{a b d e f g i}
theorem aK.iG(I:Int->World->Prop)(μ:Int->World->Nat)(s:Int){Q:aR}{w:World}(h0:I s w)
 (round:∀s w,I s w->aK.B2 a b s d e f g i (bW (aK.e2 a b d e f g i) I μ s w Q) w):Holds none [] prog 27 (.loop (lB (bB (sR (bB (sL (aS (lB (bB (sR (body f158))))))))))) Q (aK.e2 a b d e f g i s) w:=
 bA ng mix (aK.e2 a b d e f g i) I μ aK.k aK.u2 s (fun s Q w=>aK.B2 a b s d e f g i Q w) (fun s Q w=>aK.b2 a b s d e f g i Q w) h0 round
end
section
def aK.jr(a:Nat)(b c:Int)(d:OA)(e f:Nat)(g i:Int)(Q:aR)(w:World):Prop:=
 Q .normal [(0,.func (.yield a) #[] #[]),(5,.slice d e f),(6,.int .i64 g),(7,.int .i64 (i64.wrap (i+(1:Int))))] w
variable(a:Nat)(b c:Int)(d:OA)(e f:Nat)(g i:Int)(Q:aR)(w:World)
theorem aK.kW:(aK.q2 Q (.exit 2) [(0,.func (.yield a) #[] #[]),(3,.int .i64 b),(4,.int .u64 c),(5,.slice d e f),(6,.int .i64 g),(7,.int .i64 i)] w)=aK.jr a b c d e f g i Q w:=by kernel_rfl
end
def aH.k:List Nat:= []
def aH.q1(K:KT):aR:=(aQ 0 (aV f137) (bY prog f137 K))
def aH.e1(a:Nat)(b:OA)(c d:Nat)(e s:Int):Env:= [(0,.func (.yield a) #[] #[]),(5,.slice b c d),(6,.int .i64 e),(7,.int .i64 s)]
def aH.u1:List Nat:= [0,5,6,7]
section
variable(a:Nat)(b:Addr)(K:KT)(w:World)
def aH.W:Prop:=
 ∃d:OA,∃e f:Nat,w.cell? b=some (.slice d e f)/\Holds none [] prog 16 (.loop (lB (bB (sR (body f137))))) (aH.q1 K) [(0,.func (.yield a) #[] #[]),(5,.slice d e f),(6,.int .i64 (e:Int)),(7,.int .i64 0)] w
variable{a b K w}
theorem aH.of(h:aH.W a b K w):bD prog 137 #[.func (.yield a) #[] #[],.pointer (some b)] w K:=
 rqq func137 (C:=aH.k) h
end
section
variable(a:Nat)(b:OA)(c d:Nat)(e f:Int)(Q:aR)(w:World)
def aH.B1:Prop:=
 Split (decide (f<e)) ((0<=f/\f<(c:Int))/\Is b fun g:Addr=>∃i:AV,(i.size=32/\Cells w (g.add (f.toNat*32)) i)/\let j:=w.alloc (.cells zH 24);(i.size=32/\(∀k∈i.toList,k.oneCell'=true)/\∀m,m<32->Wr j ((aU w.heap.size).add m))/\let n:=setCells j (aU w.heap.size) i.toList 0;∃o:AV,(o.size=32/\Cells n (aU w.heap.size) o)/\lA prog a #[.agg o] n fun p q=>Split (!p) (Q .ret [(0,.func (.yield a) #[] #[]),(5,.slice b c d),(6,.int .i64 e),(7,.int .i64 f)] q) (Q .normal [(0,.func (.yield a) #[] #[]),(5,.slice b c d),(6,.int .i64 e),(7,.int .i64 (i64.wrap (f+(1:Int))))] q)) (Q (.exit 0) [(0,.func (.yield a) #[] #[]),(5,.slice b c d),(6,.int .i64 e),(7,.int .i64 f)] w)
theorem aH.b1:(bg none [] prog 16 aH.k (lB (bB (sR (body f137)))) aH.u1 Q [(0,.func (.yield a) #[] #[]),(5,.slice b c d),(6,.int .i64 e),(7,.int .i64 f)] w)=aH.B1 a b c d e f Q w:=by kernel_rfl
variable{a b c d e}
theorem aH.cJ(I:Int->World->Prop)(μ:Int->World->Nat)(s:Int){Q:aR}{w:World}(h0:I s w)
 (round:∀s w,I s w->aH.B1 a b c d e s (bW (aH.e1 a b c d e) I μ s w Q) w):Holds none [] prog 16 (.loop (lB (bB (sR (body f137))))) Q (aH.e1 a b c d e s) w:=
 bA ng mix (aH.e1 a b c d e) I μ aH.k aH.u1 s (fun s Q w=>aH.B1 a b c d e s Q w) (fun s Q w=>aH.b1 a b c d e s Q w) h0 round
end
section
def aH.dd(a:Nat)(b:OA)(c d:Nat)(e f:Int)(K:KT)(w:World):Prop:=
 K (.tuple #[]) w
variable(a:Nat)(b:OA)(c d:Nat)(e f:Int)(K:KT)(w:World)
theorem aH.dv:(aH.q1 K (.exit 0) [(0,.func (.yield a) #[] #[]),(5,.slice b c d),(6,.int .i64 e),(7,.int .i64 f)] w)=aH.dd a b c d e f K w:=by kernel_rfl
end
end Go.Proofs.YtfleamccglihoaaGreatDoor
