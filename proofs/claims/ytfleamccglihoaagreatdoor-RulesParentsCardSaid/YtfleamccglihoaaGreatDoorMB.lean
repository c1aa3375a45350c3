import Derived.Test.YtfleamccglihoaaGreatDoorProg
import Derived.Test.YtfleamccglihoaaGreatDoorMA
open Go.IntKind (i64 u64)
set_option linter.unusedVariables false
namespace Go.Proofs.YtfleamccglihoaaGreatDoor
open Go.Proofs.Tryz
open Go Go.cF
abbrev OA:=Option Addr
abbrev AV:=Array Value
abbrev ag(n:Int):Value:=.int .i64 n
abbrev ao(a:OA)(n c:Nat):Value:=.slice a n c
abbrev au(a:OA):Value:=.pointer a
abbrev cO:=Holds none [] prog
abbrev cS(w:World)(a:Addr)(m:AV):Prop:=m.size=32/\Cells w a m
abbrev KT:=Value->World->Prop
abbrev zH:Array Value:= #[.int .u8 0,.int .u8 0,.int .u8 0,.int .u8 0,.int .u8 0,.int .u8 0,.int .u8 0,.int .u8 0,.int .u8 0,.int .u8 0,.int .u8 0,.int .u8 0,.int .u8 0,.int .u8 0,.int .u8 0,.int .u8 0,.int .u8 0,.int .u8 0,.int .u8 0,.int .u8 0,.int .u8 0,.int .u8 0,.int .u8 0,.int .u8 0,.int .u8 0,.int .u8 0,.int .u8 0,.int .u8 0,.int .u8 0,.int .u8 0,.int .u8 0,.int .u8 0]
abbrev zC:Array Value:= #[.int .u8 0,.int .u8 0,.int .u8 0,.int .u8 0,.int .u8 0,.int .u8 0,.int .u8 0,.int .u8 0,.int .u8 0,.int .u8 0,.int .u8 0,.int .u8 0,.int .u8 0,.int .u8 0,.int .u8 0,.int .u8 0,.int .u8 0,.int .u8 0,.int .u8 0,.int .u8 0,.int .u8 0,.int .u8 0,.int .u8 0,.int .u8 0,.int .u8 0,.int .u8 0,.int .u8 0,.int .u8 0,.int .u8 0,.int .u8 0,.int .u8 0,.int .u8 0,.int .u64 0,ao none 0 0,ao none 0 0]
abbrev zS:Array Value:= #[.int .u8 0,.int .u8 0,.int .u8 0,.int .u8 0,.int .u8 0,.int .u8 0,.int .u8 0,.int .u8 0,.int .u8 0,.int .u8 0,.int .u8 0,.int .u8 0,.int .u8 0,.int .u8 0,.int .u8 0,.int .u8 0,.int .u8 0,.int .u8 0,.int .u8 0,.int .u8 0,.int .u8 0,.int .u8 0,.int .u8 0,.int .u8 0,.int .u8 0,.int .u8 0,.int .u8 0,.int .u8 0,.int .u8 0,.int .u8 0,.int .u8 0,.int .u8 0,.int .u64 0,ao none 0 0,ao none 0 0,.map none]
abbrev iT:Nat:=3
abbrev jW:Nat:=4
abbrev jV:Nat:=5
abbrev iA:Nat:=22
abbrev ai:Nat:=24
abbrev fc:Nat:=26
abbrev dv:Nat:=28
abbrev aH:Nat:=33
abbrev kO:Nat:=34
abbrev dB:Nat:=38
abbrev jF:Nat:=40
abbrev lu:Nat:=42
abbrev vX:Nat:=44
abbrev gV:Nat:=45
abbrev jf:Nat:=47
abbrev gK:Nat:=48
abbrev iV:Nat:=51
abbrev bT:Nat:=53
abbrev la:Nat:=58
abbrev fD:Nat:=62
abbrev gz:Nat:=63
abbrev jm:Nat:=65
abbrev cI:Nat:=69
abbrev oA:Nat:=89
abbrev jB:Nat:=98
abbrev x9:Nat:=121
abbrev gH:Nat:=123
abbrev dw:Nat:=127
abbrev fG:Nat:=129
abbrev jc:Nat:=135
abbrev fT:Nat:=137
abbrev gI:Nat:=138
abbrev Dm:Nat:=142
abbrev mG:Nat:=143
abbrev fC:Nat:=145
abbrev vd:Nat:=163
abbrev nh:Nat:=164
abbrev nD:Nat:=170
abbrev ju:Nat:=172
abbrev kN:Nat:=186
abbrev jK:Nat:=195
abbrev vJ:Nat:=197
abbrev kM:Nat:=199
abbrev yW:Nat:=218
abbrev fw.id:Nat:=3
abbrev aK.id:Nat:=12
abbrev jo.id:Nat:=13
abbrev bS.id:Nat:=14
abbrev jn.id:Nat:=15
abbrev b0.id:Nat:=16
abbrev cV.id:Nat:=17
abbrev bp.id:Nat:=18
abbrev af.id:Nat:=19
abbrev aT.id:Nat:=20
abbrev eB.id:Nat:=21
abbrev gm.id:Nat:=22
abbrev aR.id:Nat:=26
abbrev aV.id:Nat:=27
abbrev ft.id:Nat:=28
abbrev bQ.id:Nat:=35
abbrev dF.id:Nat:=38
abbrev cg.id:Nat:=40
abbrev eW.id:Nat:=41
abbrev jI.id:Nat:=42
abbrev lO.id:Nat:=43
abbrev eU.id:Nat:=44
abbrev fK.id:Nat:=45
abbrev iR.id:Nat:=47
abbrev mO.id:Nat:=48
abbrev jb.id:Nat:=49
abbrev dX.id:Nat:=50
abbrev fu.id:Nat:=51
abbrev fy.id:Nat:=52
abbrev gw.id:Nat:=53
abbrev eT.id:Nat:=54
abbrev dS.id:Nat:=55
abbrev eF.id:Nat:=56
abbrev jz.id:Nat:=57
abbrev bU.id:Nat:=58
abbrev fp.id:Nat:=59
abbrev eK.id:Nat:=60
abbrev bK.id:Nat:=61
abbrev dz.id:Nat:=62
abbrev dt.id:Nat:=63
abbrev dm.id:Nat:=64
abbrev aY.id:Nat:=65
abbrev bC.id:Nat:=66
abbrev bE.id:Nat:=67
abbrev fh.id:Nat:=68
abbrev dR.id:Nat:=69
abbrev di.id:Nat:=70
abbrev fN.id:Nat:=71
abbrev nW.id:Nat:=72
abbrev dN.id:Nat:=73
abbrev cr.id:Nat:=75
abbrev dC.id:Nat:=80
abbrev bD.id:Nat:=81
abbrev fJ.id:Nat:=82
abbrev an.id:Nat:=83
abbrev aP.id:Nat:=84
abbrev jr.id:Nat:=85
abbrev aG.id:Nat:=86
abbrev lP.id:Nat:=87
abbrev bW.id:Nat:=88
abbrev gN.id:Nat:=89
abbrev iz.id:Nat:=90
abbrev jX.id:Nat:=91
abbrev xR.id:Nat:=92
abbrev fz.id:Nat:=93
abbrev gP.id:Nat:=94
abbrev fM.id:Nat:=95
abbrev dH.id:Nat:=96
abbrev jh.id:Nat:=97
abbrev bits_Len.id:Nat:=98
abbrev al.id:Nat:=99
abbrev eN.id:Nat:=102
abbrev bH.id:Nat:=103
abbrev fL.id:Nat:=104
abbrev cu.id:Nat:=106
abbrev eQ.id:Nat:=107
abbrev dM.id:Nat:=108
abbrev iw.id:Nat:=109
abbrev bu.id:Nat:=111
abbrev ah.id:Nat:=112
abbrev dV.id:Nat:=113
abbrev cQ.id:Nat:=114
abbrev bM.id:Nat:=115
abbrev du.id:Nat:=116
abbrev gA.id:Nat:=117
abbrev b6.id:Nat:=118
abbrev dW.id:Nat:=119
abbrev iQ.id:Nat:=120
abbrev fi.id:Nat:=121
abbrev oQ.id:Nat:=122
abbrev fZ.id:Nat:=123
abbrev iF.id:Nat:=124
abbrev eM.id:Nat:=125
abbrev gM.id:Nat:=126
abbrev km.id:Nat:=127
abbrev lL.id:Nat:=128
abbrev ko.id:Nat:=129
abbrev kP.id:Nat:=130
abbrev kz.id:Nat:=131
abbrev jw.id:Nat:=132
abbrev lC.id:Nat:=134
abbrev bits_Len64.id:Nat:=136
abbrev aQ.id:Nat:=137
abbrev jA.id:Nat:=138
abbrev aX.id:Nat:=140
abbrev bG.id:Nat:=141
abbrev gS.id:Nat:=142
abbrev dg.id:Nat:=143
abbrev fO.id:Nat:=145
abbrev cC.id:Nat:=146
abbrev iP.id:Nat:=147
abbrev ir.id:Nat:=148
abbrev iu.id:Nat:=149
abbrev aJ.id:Nat:=150
abbrev jN.id:Nat:=151
abbrev lK.id:Nat:=152
abbrev qO.id:Nat:=154
abbrev l9.id:Nat:=156
abbrev aS.id:Nat:=158
abbrev bits_TrailingZeros64.id:Nat:=159
abbrev bZ.id:Nat:=160
abbrev bits_Mul64.id:Nat:=161
abbrev bN.id:Nat:=162
abbrev lZ.id:Nat:=163
abbrev bits_LeadingZeros64.id:Nat:=164
noncomputable abbrev af.fn:Func:=f19
noncomputable abbrev dz.fn:Func:=f62
noncomputable abbrev dt.fn:Func:=f63
noncomputable abbrev dm.fn:Func:=f64
noncomputable abbrev bC.fn:Func:=f66
noncomputable abbrev bE.fn:Func:=f67
noncomputable abbrev di.fn:Func:=f70
noncomputable abbrev an.fn:Func:=f83
noncomputable abbrev aJ.fn:Func:=f150
noncomputable abbrev bN.fn:Func:=f162
theorem dz.at_:prog.funcs[(62:Nat)]? =some f62:=func62
theorem dt.at_:prog.funcs[(63:Nat)]? =some f63:=func63
theorem dm.at_:prog.funcs[(64:Nat)]? =some f64:=func64
theorem bC.at_:prog.funcs[(66:Nat)]? =some f66:=func66
theorem bE.at_:prog.funcs[(67:Nat)]? =some f67:=func67
theorem di.at_:prog.funcs[(70:Nat)]? =some f70:=func70
theorem eN.at_:prog.funcs[(102:Nat)]? =some f102:=func102
theorem cQ.at_:prog.funcs[(114:Nat)]? =some f114:=func114
theorem du.at_:prog.funcs[(116:Nat)]? =some f116:=func116
theorem aQ.at_:prog.funcs[(137:Nat)]? =some f137:=func137
theorem bG.at_:prog.funcs[(141:Nat)]? =some f141:=func141
theorem vU.at_:prog.funcs[(157:Nat)]? =some f157:=func157
theorem aS.at_:prog.funcs[(158:Nat)]? =some f158:=func158
theorem ng:NG prog:=by
 have h:(prog.funcs.toList.all λf=> !(f.name== "runtime.NumGoroutine"))=true:=by kernel_rfl
 intro g fn hf;rw [List.all_eq_true]at h;have:=h fn (by simpa using Array.mem_of_getElem? hf);simpa using this
theorem mix:prog.follows .mixedOrders=true:=by kernel_rfl
theorem rqq{C:List Nat}{f:FuncId}{fn:Func}{args:List Value}{w:World}{K:Value->World->Prop}{W:Prop}(hf:prog.funcs[f]? =some fn)(h:W)(hb:fn.body=some (body fn):=by kernel_rfl)(hn:(Nat.ble args.length fn.ntmps&&Nat.ble fn.ntmps js)=true:=by kernel_rfl)(hs:bz none [] prog fn.ntmps C (body fn) (bn fn) (cy prog fn K) (qf args 0) w=W:=by kernel_rfl):bJ prog f args.toArray w K:=HB ng mix hf hb hn hs h
def cV.k:List Nat:= []
def cV.q1(K:KT):aZ:=(aW 0 (dd (bf (sR (body f17)))++(bn f17)) (cH (λcM w_=>match cutAt cV.k (bf (sR (body f17)))with|true=>cO 26 (bf (sR (body f17))) (cy prog f17 K) cM w_|false=>bz none [] prog 26 cV.k (bf (sR (body f17))) (bn f17) (cy prog f17 K) cM w_) (cy prog f17 K)))
def cV.e1(a:OA)(b c:Nat)(d:OA)(e f:Nat)(s:Bool×Int):Env:= [(0,ao a b c),(1,ao d e f),(4,.bool s.1),(5,ag s.2)]
def cV.u1:List Nat:= [0,1,4,5]
section
variable(a:OA)(b d:Nat)(e:OA)(f g:Nat)(K:KT)(w:World)
def cV.W:Prop:=
 Split ((b:Int) != (f:Int)) (K (.bool false) w) (cO 26 (.loop (lB (bB (sR (sL (bf (body f17))))))) (cV.q1 K) [(0,ao a b d),(1,ao e f g),(4,.bool false),(5,ag 0)] w)
variable{a b d e f g K w}
theorem cV.of(h:cV.W a b d e f g K w):bJ prog 17 #[ao a b d,ao e f g] w K:=
 rqq func17 (C:=cV.k) h
end
section
variable(a:OA)(b c:Nat)(d:OA)(e f:Nat)(g:Bool)(i:Int)(Q:aZ)(w:World)
def cV.B1:Prop:=
 Split (decide (i<(b:Int))) (let j:=w.drew;(0<=i/\i<(b:Int))/\Is a λk:Addr=>∃m:AV,cS j (k.add (i.toNat*32)) m/\(0<=i/\i<(e:Int))/\Is d λn:Addr=>∃o:AV,cS j (n.add (i.toNat*32)) o/\(dT .u8 32 m/\dT .u8 32 o)/\Split (!(eR m o)) (Q .ret [(0,ao a b c),(1,ao d e f),(4,.bool false),(5,ag i)] j) (Q .normal [(0,ao a b c),(1,ao d e f),(4,.bool g),(5,ag (i64.wrap (i+(1:Int))))] j)) (Q (.exit 0) [(0,ao a b c),(1,ao d e f),(4,.bool g),(5,ag i)] w)
theorem cV.b1:(bz none [] prog 26 cV.k (lB (bB (sR (sL (bf (body f17)))))) cV.u1 Q [(0,ao a b c),(1,ao d e f),(4,.bool g),(5,ag i)] w)=cV.B1 a b c d e f g i Q w:=by kernel_rfl
variable{a b c d e f}
theorem cV.cP(I:Bool×Int->World->Prop)(μ:Bool×Int->World->Nat)(s:Bool×Int){Q:aZ}{w:World}(h0:I s w)
 (round:∀s w,I s w->cV.B1 a b c d e f (s.1) (s.2) (b7 (cV.e1 a b c d e f) I μ s w Q) w):cO 26 (.loop (lB (bB (sR (sL (bf (body f17))))))) Q (cV.e1 a b c d e f s) w:=
 bI ng mix (cV.e1 a b c d e f) I μ cV.k cV.u1 s (λs Q w=>cV.B1 a b c d e f (s.1) (s.2) Q w) (λs Q w=>cV.b1 a b c d e f (s.1) (s.2) Q w) h0 round
end
section
def cV.dA(a:OA)(b c:Nat)(d:OA)(e f:Nat)(g:Bool)(i:Int)(K:KT)(w:World):Prop:=
 K (.bool true) w
variable(a:OA)(b c:Nat)(d:OA)(e f:Nat)(g:Bool)(i:Int)(K:KT)(w:World)
theorem cV.dJ:(cV.q1 K (.exit 0) [(0,ao a b c),(1,ao d e f),(4,.bool g),(5,ag i)] w)=cV.dA a b c d e f g i K w:=by kernel_rfl
end
def aV.k:List Nat:= []
def aV.q1(K:KT):aZ:=(aW 0 (dd (bf (sR (body Tryz.f27)))++(bn Tryz.f27)) (cH (λcM w_=>match cutAt aV.k (bf (sR (body Tryz.f27)))with|true=>cO 56 (bf (sR (body Tryz.f27))) (cy prog Tryz.f27 K) cM w_|false=>bz none [] prog 56 aV.k (bf (sR (body Tryz.f27))) (bn Tryz.f27) (cy prog Tryz.f27 K) cM w_) (cy prog Tryz.f27 K)))
def aV.e1(a:OA)(b c:Nat)(d:OA)(e f:Nat)(s:(OA)×Nat×Nat×Int):Env:= [(0,ao a b c),(2,ao d e f),(3,ao s.1 s.2.1 s.2.2.1),(4,ag s.2.2.2)]
def aV.u1:List Nat:= [0,2,3,4]
def aV.q2(Q:aZ):aZ:=(aW 2 (dd (bf (sR (bB (sL (sR (lB (bB (sR (sL (bf (body Tryz.f27)))))))))))++(dd (bf (lB (bB (sR (sL (bf (body Tryz.f27)))))))++aV.u1)) (cH (λcM w_=>match cutAt aV.k (bf (sR (bB (sL (sR (lB (bB (sR (sL (bf (body Tryz.f27)))))))))))with|true=>cO 56 (bf (sR (bB (sL (sR (lB (bB (sR (sL (bf (body Tryz.f27))))))))))) (aW 1 (dd (bf (lB (bB (sR (sL (bf (body Tryz.f27)))))))++aV.u1) (cH (λcM w_=>match cutAt aV.k (bf (lB (bB (sR (sL (bf (body Tryz.f27)))))))with|true=>cO 56 (bf (lB (bB (sR (sL (bf (body Tryz.f27))))))) Q cM w_|false=>bz none [] prog 56 aV.k (bf (lB (bB (sR (sL (bf (body Tryz.f27))))))) aV.u1 Q cM w_) Q)) cM w_|false=>bz none [] prog 56 aV.k (bf (sR (bB (sL (sR (lB (bB (sR (sL (bf (body Tryz.f27))))))))))) (dd (bf (lB (bB (sR (sL (bf (body Tryz.f27)))))))++aV.u1) (aW 1 (dd (bf (lB (bB (sR (sL (bf (body Tryz.f27)))))))++aV.u1) (cH (λcM w_=>match cutAt aV.k (bf (lB (bB (sR (sL (bf (body Tryz.f27)))))))with|true=>cO 56 (bf (lB (bB (sR (sL (bf (body Tryz.f27))))))) Q cM w_|false=>bz none [] prog 56 aV.k (bf (lB (bB (sR (sL (bf (body Tryz.f27))))))) aV.u1 Q cM w_) Q)) cM w_) (aW 1 (dd (bf (lB (bB (sR (sL (bf (body Tryz.f27)))))))++aV.u1) (cH (λcM w_=>match cutAt aV.k (bf (lB (bB (sR (sL (bf (body Tryz.f27)))))))with|true=>cO 56 (bf (lB (bB (sR (sL (bf (body Tryz.f27))))))) Q cM w_|false=>bz none [] prog 56 aV.k (bf (lB (bB (sR (sL (bf (body Tryz.f27))))))) aV.u1 Q cM w_) Q))))
def aV.e2(a:OA)(b c:Nat)(d:OA)(e f:Nat)(g:OA)(i j:Nat)(k s:Int):Env:= [(0,ao a b c),(2,ao d e f),(3,ao g i j),(4,ag k),(5,ag s)]
def aV.u2:List Nat:= [0,2,3,4,5]
section
variable(a:OA)(b d:Nat)(K:KT)(w:World)
def aV.W:Prop:=
 cO 56 (.loop (lB (bB (sR (sL (bf (body Tryz.f27))))))) (aV.q1 K) [(0,ao a b d),(2,ao none 0 0),(3,ao none 0 0),(4,ag 0)] w
variable{a b d K w}
theorem aV.of(h:aV.W a b d K w):bJ prog 27 #[ao a b d] w K:=
 rqq func27 (C:=aV.k) h
end
section
variable(a:OA)(b c:Nat)(d:OA)(e f:Nat)(g:OA)(i j:Nat)(k:Int)(Q:aZ)(w:World)
def aV.B1:Prop:=
 Split (decide (k<(b:Int))) ((0<=k/\k<(b:Int))/\Is a λm:Addr=>∃n:AV,cS w (m.add (k.toNat*32)) n/\bJ prog 38 #[ao g i j,.agg n] w λo p=>∃q:Bool,o=.bool q/\Split q (Q .normal [(0,ao a b c),(2,ao d e f),(3,ao g i j),(4,ag (i64.wrap (k+(1:Int))))] p) (cO 56 (.loop (lB (bB (sL (bf (bB (sL (sR (lB (bB (sR (sL (bf (body Tryz.f27)))))))))))))) (aV.q2 Q) [(0,ao a b c),(2,ao d e f),(3,ao g i j),(4,ag k),(5,ag (i:Int))] p)) (Q (.exit 0) [(0,ao a b c),(2,ao d e f),(3,ao g i j),(4,ag k)] w)
theorem aV.b1:(bz none [] prog 56 aV.k (lB (bB (sR (sL (bf (body Tryz.f27)))))) aV.u1 Q [(0,ao a b c),(2,ao d e f),(3,ao g i j),(4,ag k)] w)=aV.B1 a b c d e f g i j k Q w:=by kernel_rfl
variable{a b c d e f}
theorem aV.cP(I:(OA)×Nat×Nat×Int->World->Prop)(μ:(OA)×Nat×Nat×Int->World->Nat)(s:(OA)×Nat×Nat×Int){Q:aZ}{w:World}(h0:I s w)
 (round:∀s w,I s w->aV.B1 a b c d e f (s.1) (s.2.1) (s.2.2.1) (s.2.2.2) (b7 (aV.e1 a b c d e f) I μ s w Q) w):cO 56 (.loop (lB (bB (sR (sL (bf (body Tryz.f27))))))) Q (aV.e1 a b c d e f s) w:=
 bI ng mix (aV.e1 a b c d e f) I μ aV.k aV.u1 s (λs Q w=>aV.B1 a b c d e f (s.1) (s.2.1) (s.2.2.1) (s.2.2.2) Q w) (λs Q w=>aV.b1 a b c d e f (s.1) (s.2.1) (s.2.2.1) (s.2.2.2) Q w) h0 round
end
section
def aV.dA(a:OA)(b c:Nat)(d:OA)(e f:Nat)(g:OA)(i j:Nat)(k:Int)(K:KT)(w:World):Prop:=
 K (ao g i j) w
variable(a:OA)(b c:Nat)(d:OA)(e f:Nat)(g:OA)(i j:Nat)(k:Int)(K:KT)(w:World)
theorem aV.dJ:(aV.q1 K (.exit 0) [(0,ao a b c),(2,ao d e f),(3,ao g i j),(4,ag k)] w)=aV.dA a b c d e f g i j k K w:=by kernel_rfl
end
section
variable(a:OA)(b c:Nat)(d:OA)(e f:Nat)(g:OA)(i j:Nat)(k m:Int)(Q:aZ)(w:World)
def aV.B2:Prop:=
 let n:=w.drew;Split (decide (m>(0:Int))) ((0<=k/\k<(b:Int))/\Is a λo:Addr=>∃p:AV,cS n (o.add (k.toNat*32)) p/\(0<=(i64.wrap (m-(1:Int)))/\(i64.wrap (m-(1:Int)))<(i:Int))/\Is g λq:Addr=>∃r:AV,(r.size=32/\Cells n (q.add ((i64.wrap (m-(1:Int))).toNat*32)) r)/\bJ prog 75 #[.agg p,.agg r] n λt u=>∃v:Int,t=ag v/\Split (decide (v<(0:Int))) (Q .normal [(0,ao a b c),(2,ao d e f),(3,ao g i j),(4,ag k),(5,ag (i64.wrap (m-(1:Int))))] u) (Q (.exit 2) [(0,ao a b c),(2,ao d e f),(3,ao g i j),(4,ag k),(5,ag m)] u)) (Q (.exit 2) [(0,ao a b c),(2,ao d e f),(3,ao g i j),(4,ag k),(5,ag m)] n)
theorem aV.b2:(bz none [] prog 56 aV.k (lB (bB (sL (bf (bB (sL (sR (lB (bB (sR (sL (bf (body Tryz.f27))))))))))))) aV.u2 Q [(0,ao a b c),(2,ao d e f),(3,ao g i j),(4,ag k),(5,ag m)] w)=aV.B2 a b c d e f g i j k m Q w:=by kernel_rfl
variable{a b c d e f g i j k}
theorem aV.iY(I:Int->World->Prop)(μ:Int->World->Nat)(s:Int){Q:aZ}{w:World}(h0:I s w)
 (round:∀s w,I s w->aV.B2 a b c d e f g i j k s (b7 (aV.e2 a b c d e f g i j k) I μ s w Q) w):cO 56 (.loop (lB (bB (sL (bf (bB (sL (sR (lB (bB (sR (sL (bf (body Tryz.f27)))))))))))))) Q (aV.e2 a b c d e f g i j k s) w:=
 bI ng mix (aV.e2 a b c d e f g i j k) I μ aV.k aV.u2 s (λs Q w=>aV.B2 a b c d e f g i j k s Q w) (λs Q w=>aV.b2 a b c d e f g i j k s Q w) h0 round
end
section
variable(a:OA)(b c:Nat)(d:OA)(e f:Nat)(g:OA)(i j:Nat)(k m:Int)(Q:aZ)(w:World)
def aV.jJ:Prop:=
 (0<=m/\m<=(j:Int))/\∃(n:OA) (o p:Nat) (q:World),(Builtin.append_ #[33,33] 33 #[ao none 0 0,ao (if j=0 then g else g.map (·.add (0*32))) (m.toNat-0) (j-0)]).run prog w=.ok (ao n o p) q/\(0<=k/\k<(b:Int))/\Is a λr:Addr=>∃t:AV,cS q (r.add (k.toNat*32)) t/\t.size=32/\let u:=q.alloc (.cells (t.toList++ []).toArray 24);∃(v:OA) (x y:Nat) (z:World),(Builtin.append_ #[33,33] 33 #[ao n o p,ao (some (aU q.heap.size)) 1 1]).run prog u=.ok (ao v x y) z/\(0<=m/\m<=(i:Int))/\∃(a1:OA) (b1 c1:Nat) (d1:World),(Builtin.append_ #[33,33] 33 #[ao v x y,ao (if j=m.toNat then g else g.map (·.add (m.toNat*32))) (i-m.toNat) (j-m.toNat)]).run prog z=.ok (ao a1 b1 c1) d1/\Q .normal [(0,ao a b c),(2,ao d e f),(3,ao a1 b1 c1),(4,ag (i64.wrap (k+(1:Int))))] d1
theorem aV.lA:(aV.q2 Q (.exit 2) [(0,ao a b c),(2,ao d e f),(3,ao g i j),(4,ag k),(5,ag m)] w)=aV.jJ a b c d e f g i j k m Q w:=by kernel_rfl
end
def dF.k:List Nat:= []
def dF.q1(K:KT):aZ:=(aW 0 (dd (bf (body f38))++(bn f38)) (cH (λcM w_=>match cutAt dF.k (bf (body f38))with|true=>cO 18 (bf (body f38)) (cy prog f38 K) cM w_|false=>bz none [] prog 18 dF.k (bf (body f38)) (bn f38) (cy prog f38 K) cM w_) (cy prog f38 K)))
def dF.e1(a:OA)(b c:Nat)(d:Addr)(s:Bool×Int):Env:= [(0,ao a b c),(3,au (some d)),(4,.bool s.1),(5,ag s.2)]
def dF.u1:List Nat:= [0,3,4,5]
section
variable(a:OA)(b d:Nat)(e:AV)(K:KT)(w:World)
def dF.W:Prop:=
 let f:=w.alloc (.cells e 24);cO 18 (.loop (lB (bB (sR (sL (sR (body f38))))))) (dF.q1 K) [(0,ao a b d),(3,au (some (aU w.heap.size))),(4,.bool false),(5,ag 0)] f
variable{a b d e K w}
theorem dF.of(h:dF.W a b d e K w):bJ prog 38 #[ao a b d,.agg e] w K:=
 rqq func38 (C:=dF.k) h
end
section
variable(a:OA)(b c:Nat)(d:Addr)(e:Bool)(f:Int)(Q:aZ)(w:World)
def dF.B1:Prop:=
 Split (decide (f<(b:Int))) (let g:=w.drew;(0<=f/\f<(b:Int))/\Is a λi:Addr=>∃j:AV,cS g (i.add (f.toNat*32)) j/\∃k:AV,cS g d k/\(dT .u8 32 j/\dT .u8 32 k)/\Split (eR j k) (Q .ret [(0,ao a b c),(3,au (some d)),(4,.bool true),(5,ag f)] g) (Q .normal [(0,ao a b c),(3,au (some d)),(4,.bool e),(5,ag (i64.wrap (f+(1:Int))))] g)) (Q (.exit 0) [(0,ao a b c),(3,au (some d)),(4,.bool e),(5,ag f)] w)
theorem dF.b1:(bz none [] prog 18 dF.k (lB (bB (sR (sL (sR (body f38)))))) dF.u1 Q [(0,ao a b c),(3,au (some d)),(4,.bool e),(5,ag f)] w)=dF.B1 a b c d e f Q w:=by kernel_rfl
variable{a b c d}
theorem dF.cP(I:Bool×Int->World->Prop)(μ:Bool×Int->World->Nat)(s:Bool×Int){Q:aZ}{w:World}(h0:I s w)
 (round:∀s w,I s w->dF.B1 a b c d (s.1) (s.2) (b7 (dF.e1 a b c d) I μ s w Q) w):cO 18 (.loop (lB (bB (sR (sL (sR (body f38))))))) Q (dF.e1 a b c d s) w:=
 bI ng mix (dF.e1 a b c d) I μ dF.k dF.u1 s (λs Q w=>dF.B1 a b c d (s.1) (s.2) Q w) (λs Q w=>dF.b1 a b c d (s.1) (s.2) Q w) h0 round
end
section
def dF.dA(a:OA)(b c:Nat)(d:Addr)(e:Bool)(f:Int)(K:KT)(w:World):Prop:=
 K (.bool false) w
variable(a:OA)(b c:Nat)(d:Addr)(e:Bool)(f:Int)(K:KT)(w:World)
theorem dF.dJ:(dF.q1 K (.exit 0) [(0,ao a b c),(3,au (some d)),(4,.bool e),(5,ag f)] w)=dF.dA a b c d e f K w:=by kernel_rfl
end
def iR.k:List Nat:= []
section
variable(a:OA)(b:AV)(K:KT)(w:World)
def iR.W:Prop:=
 let d:=w.alloc (.cells b 24);∃e:AV,cS d (aU w.heap.size) e/\bJ prog 90 #[au a,.agg e] d λf g=>∃i:OA,f=au i/\K (.bool (!(i).isNone)) g
variable{a b K w}
theorem iR.of(h:iR.W a b K w):bJ prog 47 #[au a,.agg b] w K:=
 rqq func47 (C:=iR.k) h
end
def cr.k:List Nat:= []
def cr.q1(K:KT):aZ:=(aW 0 (dd (bf (body f75))++(bn f75)) (cH (λcM w_=>match cutAt cr.k (bf (body f75))with|true=>cO 24 (bf (body f75)) (cy prog f75 K) cM w_|false=>bz none [] prog 24 cr.k (bf (body f75)) (bn f75) (cy prog f75 K) cM w_) (cy prog f75 K)))
def cr.e1(a b:Addr)(s:Int×Int):Env:= [(2,au (some a)),(3,au (some b)),(4,ag s.1),(5,ag s.2)]
def cr.u1:List Nat:= [2,3,4,5]
section
variable(a b:AV)(K:KT)(w:World)
def cr.W:Prop:=
 let d:=w.alloc (.cells a 24);let e:=d.alloc (.cells b 24);cO 24 (.loop (lB (bB (sR (sL (sR (body f75))))))) (cr.q1 K) [(2,au (some (aU w.heap.size))),(3,au (some (aU d.heap.size))),(4,ag 0),(5,ag 0)] e
variable{a b K w}
theorem cr.of(h:cr.W a b K w):bJ prog 75 #[.agg a,.agg b] w K:=
 rqq func75 (C:=cr.k) h
end
section
variable(a b:Addr)(c d:Int)(Q:aZ)(w:World)
def cr.B1:Prop:=
 Split (decide (d<(32:Int))) (let e:=w.drew;(0<=d/\d<(32:Int))/\∃f:Int,e.cell? (a.add (d.toNat*1))=some (.int .u8 f)/\(0<=d/\d<(32:Int))/\∃g:Int,e.cell? (b.add (d.toNat*1))=some (.int .u8 g)/\Split (decide (f<g)) (Q .ret [(2,au (some a)),(3,au (some b)),(4,ag (-1)),(5,ag d)] e) (let i:=e.drew;(0<=d/\d<(32:Int))/\∃j:Int,i.cell? (a.add (d.toNat*1))=some (.int .u8 j)/\(0<=d/\d<(32:Int))/\∃k:Int,i.cell? (b.add (d.toNat*1))=some (.int .u8 k)/\Split (decide (j>k)) (Q .ret [(2,au (some a)),(3,au (some b)),(4,ag 1),(5,ag d)] i) (Q .normal [(2,au (some a)),(3,au (some b)),(4,ag c),(5,ag (i64.wrap (d+(1:Int))))] i))) (Q (.exit 0) [(2,au (some a)),(3,au (some b)),(4,ag c),(5,ag d)] w)
theorem cr.b1:(bz none [] prog 24 cr.k (lB (bB (sR (sL (sR (body f75)))))) cr.u1 Q [(2,au (some a)),(3,au (some b)),(4,ag c),(5,ag d)] w)=cr.B1 a b c d Q w:=by kernel_rfl
variable{a b}
theorem cr.cP(I:Int×Int->World->Prop)(μ:Int×Int->World->Nat)(s:Int×Int){Q:aZ}{w:World}(h0:I s w)
 (round:∀s w,I s w->cr.B1 a b (s.1) (s.2) (b7 (cr.e1 a b) I μ s w Q) w):cO 24 (.loop (lB (bB (sR (sL (sR (body f75))))))) Q (cr.e1 a b s) w:=
 bI ng mix (cr.e1 a b) I μ cr.k cr.u1 s (λs Q w=>cr.B1 a b (s.1) (s.2) Q w) (λs Q w=>cr.b1 a b (s.1) (s.2) Q w) h0 round
end
section
def cr.dA(a b:Addr)(c d:Int)(K:KT)(w:World):Prop:=
 K (ag 0) w
variable(a b:Addr)(c d:Int)(K:KT)(w:World)
theorem cr.dJ:(cr.q1 K (.exit 0) [(2,au (some a)),(3,au (some b)),(4,ag c),(5,ag d)] w)=cr.dA a b c d K w:=by kernel_rfl
end
def iz.k:List Nat:= []
section
variable(a:OA)(b:AV)(K:KT)(w:World)
def iz.W:Prop:=
 let d:=w.alloc (.cells b 24);bJ prog 124 #[au a] d λe f=>∃g:Bool,e=.bool g/\Split g (let i:=f.drew;Is a λj:Addr=>∃k:Option Nat,i.cell? (j.add 1)=some (.map k)/\∃m:AV,cS i (aU w.heap.size) m/\∃n:Int,∃o:Bool,(Instr.lookup 127 (.map k) (.agg m) true).run prog i=.ok (.tuple #[ag n,.bool o]) i/\Split o (Is a λp:Addr=>∃q:OA,∃r t:Nat,i.cell? (p.add 0)=some (ao q r t)/\(0<=n/\n<(r:Int))/\Is q λu:Addr=>∃v:OA,i.cell? (u.add (n.toNat*1))=some (au v)/\K (au v) i) (K (au none) i)) (K (au none) f)
variable{a b K w}
theorem iz.of(h:iz.W a b K w):bJ prog 90 #[au a,.agg b] w K:=
 rqq func90 (C:=iz.k) h
end
def fz.k:List Nat:= []
section
def fz.W(a:Int)(b:OA)(K:KT)(w:World):Prop:=
 Is b λd:Addr=>∃e:OA,∃f g:Nat,w.cell? (d.add 33)=some (ao e f g)/\K (.bool ((f:Int)==(0:Int))) w
variable(a:Int)(b:OA)(K:KT)(w:World)
variable{a b K w}
theorem fz.of(h:fz.W a b K w):bJ prog 93 #[ag a,au b] w K:=
 rqq func93 (C:=fz.k) h
end
def al.k:List Nat:= []
def al.q1(K:KT):aZ:=(aW 0 (dd (bf (sR (body f99)))++(bn f99)) (cH (λcM w_=>match cutAt al.k (bf (sR (body f99)))with|true=>cO 61 (bf (sR (body f99))) (cy prog f99 K) cM w_|false=>bz none [] prog 61 al.k (bf (sR (body f99))) (bn f99) (cy prog f99 K) cM w_) (cy prog f99 K)))
def al.e1(a:OA)(b c:Nat)(s:(OA)×Nat×Nat×Int):Env:= [(0,ao a b c),(2,ao s.1 s.2.1 s.2.2.1),(3,ag s.2.2.2)]
def al.u1:List Nat:= [0,2,3]
def al.q2(Q:aZ):aZ:=(aW 2 (dd (bf (cT (sR (bB (sL (sR (lB (bB (sR (sL (bf (body f99))))))))))))++(dd (bf (lB (bB (sR (sL (bf (body f99)))))))++al.u1)) (cH (λcM w_=>match cutAt al.k (bf (cT (sR (bB (sL (sR (lB (bB (sR (sL (bf (body f99))))))))))))with|true=>cO 61 (bf (cT (sR (bB (sL (sR (lB (bB (sR (sL (bf (body f99)))))))))))) (aW 1 (dd (bf (lB (bB (sR (sL (bf (body f99)))))))++al.u1) (cH (λcM w_=>match cutAt al.k (bf (lB (bB (sR (sL (bf (body f99)))))))with|true=>cO 61 (bf (lB (bB (sR (sL (bf (body f99))))))) Q cM w_|false=>bz none [] prog 61 al.k (bf (lB (bB (sR (sL (bf (body f99))))))) al.u1 Q cM w_) Q)) cM w_|false=>bz none [] prog 61 al.k (bf (cT (sR (bB (sL (sR (lB (bB (sR (sL (bf (body f99)))))))))))) (dd (bf (lB (bB (sR (sL (bf (body f99)))))))++al.u1) (aW 1 (dd (bf (lB (bB (sR (sL (bf (body f99)))))))++al.u1) (cH (λcM w_=>match cutAt al.k (bf (lB (bB (sR (sL (bf (body f99)))))))with|true=>cO 61 (bf (lB (bB (sR (sL (bf (body f99))))))) Q cM w_|false=>bz none [] prog 61 al.k (bf (lB (bB (sR (sL (bf (body f99))))))) al.u1 Q cM w_) Q)) cM w_) (aW 1 (dd (bf (lB (bB (sR (sL (bf (body f99)))))))++al.u1) (cH (λcM w_=>match cutAt al.k (bf (lB (bB (sR (sL (bf (body f99)))))))with|true=>cO 61 (bf (lB (bB (sR (sL (bf (body f99))))))) Q cM w_|false=>bz none [] prog 61 al.k (bf (lB (bB (sR (sL (bf (body f99))))))) al.u1 Q cM w_) Q))))
def al.e2(a:OA)(b c:Nat)(d:OA)(e f:Nat)(g:OA)(i j:Nat)(s:Int×Int):Env:= [(0,ao a b c),(2,ao d e f),(3,ag s.1),(4,ao g i j),(5,ag s.2)]
def al.u2:List Nat:= [0,2,3,4,5]
section
variable(a:OA)(b d:Nat)(K:KT)(w:World)
def al.W:Prop:=
 Split (decide ((b:Int)<(2:Int))) (K (ao a b d) w) (cO 61 (.loop (lB (bB (sR (sL (bf (body f99))))))) (al.q1 K) [(0,ao a b d),(2,ao none 0 0),(3,ag 1)] w)
variable{a b d K w}
theorem al.of(h:al.W a b d K w):bJ prog 99 #[ao a b d] w K:=
 rqq func99 (C:=al.k) h
end
section
variable(a:OA)(b c:Nat)(d:OA)(e f:Nat)(g:Int)(Q:aZ)(w:World)
def al.B1:Prop:=
 Split (decide (g<(b:Int))) (let i:=w.drew;(0<=g/\g<(b:Int))/\Is a λj:Addr=>∃k:AV,cS i (j.add (g.toNat*32)) k/\(0<=(i64.wrap (g-(1:Int)))/\(i64.wrap (g-(1:Int)))<(b:Int))/\Is a λm:Addr=>∃n:AV,(n.size=32/\Cells i (m.add ((i64.wrap (g-(1:Int))).toNat*32)) n)/\(dT .u8 32 k/\dT .u8 32 n)/\Split (eR k n) ((0<=g/\g<=(b:Int))/\cO 61 (.loop (lB (bB (sR (sL (sR (cT (sR (bB (sL (sR (lB (bB (sR (sL (bf (body f99))))))))))))))))) (al.q2 Q) [(0,ao a b c),(2,ao d e f),(3,ag g),(4,ao (if c=g.toNat then a else a.map (·.add (g.toNat*32))) (b-g.toNat) (c-g.toNat)),(5,ag 1)] i) (Q .normal [(0,ao a b c),(2,ao d e f),(3,ag (i64.wrap (g+(1:Int))))] i)) (Q (.exit 0) [(0,ao a b c),(2,ao d e f),(3,ag g)] w)
theorem al.b1:(bz none [] prog 61 al.k (lB (bB (sR (sL (bf (body f99)))))) al.u1 Q [(0,ao a b c),(2,ao d e f),(3,ag g)] w)=al.B1 a b c d e f g Q w:=by kernel_rfl
variable{a b c}
theorem al.cP(I:(OA)×Nat×Nat×Int->World->Prop)(μ:(OA)×Nat×Nat×Int->World->Nat)(s:(OA)×Nat×Nat×Int){Q:aZ}{w:World}(h0:I s w)
 (round:∀s w,I s w->al.B1 a b c (s.1) (s.2.1) (s.2.2.1) (s.2.2.2) (b7 (al.e1 a b c) I μ s w Q) w):cO 61 (.loop (lB (bB (sR (sL (bf (body f99))))))) Q (al.e1 a b c s) w:=
 bI ng mix (al.e1 a b c) I μ al.k al.u1 s (λs Q w=>al.B1 a b c (s.1) (s.2.1) (s.2.2.1) (s.2.2.2) Q w) (λs Q w=>al.b1 a b c (s.1) (s.2.1) (s.2.2.1) (s.2.2.2) Q w) h0 round
end
section
def al.dA(a:OA)(b c:Nat)(d:OA)(e f:Nat)(g:Int)(K:KT)(w:World):Prop:=
 K (ao a b c) w
variable(a:OA)(b c:Nat)(d:OA)(e f:Nat)(g:Int)(K:KT)(w:World)
theorem al.dJ:(al.q1 K (.exit 0) [(0,ao a b c),(2,ao d e f),(3,ag g)] w)=al.dA a b c d e f g K w:=by kernel_rfl
end
section
variable(a:OA)(b c:Nat)(d:OA)(e f:Nat)(g:Int)(i:OA)(j k:Nat)(m:Int)(Q:aZ)(w:World)
def al.B2:Prop:=
 Split (decide (m<(j:Int))) (let n:=w.drew;(0<=m/\m<(j:Int))/\Is i λo:Addr=>∃p:AV,cS n (o.add (m.toNat*32)) p/\(0<=(i64.wrap (m-(1:Int)))/\(i64.wrap (m-(1:Int)))<(j:Int))/\Is i λq:Addr=>∃r:AV,(r.size=32/\Cells n (q.add ((i64.wrap (m-(1:Int))).toNat*32)) r)/\(dT .u8 32 p/\dT .u8 32 r)/\Split (!(eR p r)) ((0<=m/\m<(j:Int))/\Is i λt:Addr=>∃u:AV,cS n (t.add (m.toNat*32)) u/\(0<=g/\g<(b:Int))/\Is a λv:Addr=>(u.size=32/\(∀x∈u.toList,x.oneCell'=true)/\∀y,y<32->Wr n ((v.add (g.toNat*32)).add y))/\let z:=setCells n (v.add (g.toNat*32)) u.toList 0;Q .normal [(0,ao a b c),(2,ao d e f),(3,ag (i64.wrap (g+(1:Int)))),(4,ao i j k),(5,ag (i64.wrap (m+(1:Int))))] z) (Q .normal [(0,ao a b c),(2,ao d e f),(3,ag g),(4,ao i j k),(5,ag (i64.wrap (m+(1:Int))))] n)) (Q (.exit 2) [(0,ao a b c),(2,ao d e f),(3,ag g),(4,ao i j k),(5,ag m)] w)
theorem al.b2:(bz none [] prog 61 al.k (lB (bB (sR (sL (sR (cT (sR (bB (sL (sR (lB (bB (sR (sL (bf (body f99)))))))))))))))) al.u2 Q [(0,ao a b c),(2,ao d e f),(3,ag g),(4,ao i j k),(5,ag m)] w)=al.B2 a b c d e f g i j k m Q w:=by kernel_rfl
variable{a b c d e f i j k}
theorem al.iY(I:Int×Int->World->Prop)(μ:Int×Int->World->Nat)(s:Int×Int){Q:aZ}{w:World}(h0:I s w)
 (round:∀s w,I s w->al.B2 a b c d e f (s.1) i j k (s.2) (b7 (al.e2 a b c d e f i j k) I μ s w Q) w):cO 61 (.loop (lB (bB (sR (sL (sR (cT (sR (bB (sL (sR (lB (bB (sR (sL (bf (body f99))))))))))))))))) Q (al.e2 a b c d e f i j k s) w:=
 bI ng mix (al.e2 a b c d e f i j k) I μ al.k al.u2 s (λs Q w=>al.B2 a b c d e f (s.1) i j k (s.2) Q w) (λs Q w=>al.b2 a b c d e f (s.1) i j k (s.2) Q w) h0 round
end
section
def al.jJ(a:OA)(b c:Nat)(d:OA)(e f:Nat)(g:Int)(i:OA)(j k:Nat)(m:Int)(Q:aZ)(w:World):Prop:=
 (0<=g/\g<=(b:Int))/\∃(n:Value) (o:World),(Builtin.clear_ #[33] 0 #[ao (if c=g.toNat then a else a.map (·.add (g.toNat*32))) (b-g.toNat) (c-g.toNat)]).run prog w=.ok n o/\(0<=g/\g<=(c:Int))/\Q .ret [(0,ao a b c),(2,ao (if c=0 then a else a.map (·.add (0*32))) (g.toNat-0) (c-0)),(3,ag g)] o
variable(a:OA)(b c:Nat)(d:OA)(e f:Nat)(g:Int)(i:OA)(j k:Nat)(m:Int)(Q:aZ)(w:World)
theorem al.lA:(al.q2 Q (.exit 2) [(0,ao a b c),(2,ao d e f),(3,ag g),(4,ao i j k),(5,ag m)] w)=al.jJ a b c d e f g i j k m Q w:=by kernel_rfl
end
def eN.k:List Nat:= []
section
variable(a b:AV)(K:KT)(w:World)
def eN.W:Prop:=
 let d:=w.alloc (.cells a 24);let e:=d.alloc (.cells b 24);let f:=e.drew;bJ prog 138 #[ao (some (if 32=0 then(aU w.heap.size)else(aU w.heap.size).add (0*1))) (32-0) (32-0),ao (some (if 32=0 then(aU d.heap.size)else(aU d.heap.size).add (0*1))) (32-0) (32-0)] f λg i=>∃j:Int,g=ag j/\K (ag j) i
variable{a b K w}
theorem eN.of(h:eN.W a b K w):bJ prog 102 #[.agg a,.agg b] w K:=
 rqq func102 (C:=eN.k) h
end
def iF.k:List Nat:= []
section
variable(a:OA)(K:KT)(w:World)
def iF.W:Prop:=
 Split (!(a).isNone) (Is a λb:Addr=>∃d:Option Nat,w.cell? (b.add 1)=some (.map d)/\K (.bool (!(d).isNone)) w) (K (.bool false) w)
variable{a K w}
theorem iF.of(h:iF.W a K w):bJ prog 124 #[au a] w K:=
 rqq func124 (C:=iF.k) h
end
def jA.k:List Nat:= []
section
variable(a:OA)(b d:Nat)(e:OA)(f g:Nat)(K:KT)(w:World)
def jA.W:Prop:=
 G6 prog 157 #[ao a b d,ao e f g] w λi j=>∃k:Int,i=ag k/\K (ag k) j
variable{a b d e f g K w}
theorem jA.of(h:jA.W a b d e f g K w):bJ prog 138 #[ao a b d,ao e f g] w K:=
 rqq func138 (C:=jA.k) h
end
def dg.k:List Nat:= []
def dg.q1(K:KT):aZ:=(aW 0 (dd (bf (body f143))++(bn f143)) (cH (λcM w_=>match cutAt dg.k (bf (body f143))with|true=>cO 30 (bf (body f143)) (cy prog f143 K) cM w_|false=>bz none [] prog 30 dg.k (bf (body f143)) (bn f143) (cy prog f143 K) cM w_) (cy prog f143 K)))
def dg.e1(a:OA)(b c:Nat)(d:OA)(e f:Nat)(g:Int)(s:(OA)×Nat×Nat×Int):Env:= [(0,ao s.1 s.2.1 s.2.2.1),(4,ao a b c),(7,ao d e f),(8,ag g),(9,ag s.2.2.2)]
def dg.u1:List Nat:= [0,4,7,8,9]
section
variable(a:OA)(b d:Nat)(e:OA)(f g:Nat)(K:KT)(w:World)
def dg.W:Prop:=
 cO 30 (.loop (lB (bB (sR (sL (sR (body f143))))))) (dg.q1 K) [(0,ao a b d),(4,ao none 0 0),(7,ao e f g),(8,ag (f:Int)),(9,ag 0)] w
variable{a b d e f g K w}
theorem dg.of(h:dg.W a b d e f g K w):bJ prog 143 #[ao a b d,ao e f g] w K:=
 rqq func143 (C:=dg.k) h
end
section
variable(a:OA)(b c:Nat)(d:OA)(e f:Nat)(g:OA)(i j:Nat)(k m:Int)(Q:aZ)(w:World)
def dg.B1:Prop:=
 Split (decide (m<k)) ((0<=m/\m<(i:Int))/\Is g λn:Addr=>∃o:Int,w.cell? (n.add (m.toNat*1))=some (.int .u64 o)/\Split (m==(b:Int)) (let p:=w.alloc (.cells #[.int .u64 0] 22);∃(q:OA) (r t:Nat) (u:World),(Builtin.append_ #[143,143] 143 #[ao a b c,ao (some (aU w.heap.size)) 1 1]).run prog p=.ok (ao q r t) u/\(0<=m/\m<(r:Int))/\Is q λv:Addr=>∃x:Int,u.cell? (v.add (m.toNat*1))=some (.int .u64 x)/\(0<=m/\m<(r:Int))/\Is q λy:Addr=>Wr u (y.add (m.toNat*1))/\let z:=u.setCell (y.add (m.toNat*1)) (.int .u64 (u64.wrap ((BitVec.ofInt 64 x|||BitVec.ofInt 64 o).toNat)));Q .normal [(0,ao q r t),(4,ao d e f),(7,ao g i j),(8,ag k),(9,ag (i64.wrap (m+(1:Int))))] z) ((0<=m/\m<(b:Int))/\Is a λa1:Addr=>∃b1:Int,w.cell? (a1.add (m.toNat*1))=some (.int .u64 b1)/\(0<=m/\m<(b:Int))/\Is a λc1:Addr=>Wr w (c1.add (m.toNat*1))/\let d1:=w.setCell (c1.add (m.toNat*1)) (.int .u64 (u64.wrap ((BitVec.ofInt 64 b1|||BitVec.ofInt 64 o).toNat)));Q .normal [(0,ao a b c),(4,ao d e f),(7,ao g i j),(8,ag k),(9,ag (i64.wrap (m+(1:Int))))] d1)) (Q (.exit 0) [(0,ao a b c),(4,ao d e f),(7,ao g i j),(8,ag k),(9,ag m)] w)
theorem dg.b1:(bz none [] prog 30 dg.k (lB (bB (sR (sL (sR (body f143)))))) dg.u1 Q [(0,ao a b c),(4,ao d e f),(7,ao g i j),(8,ag k),(9,ag m)] w)=dg.B1 a b c d e f g i j k m Q w:=by kernel_rfl
variable{d e f g i j k}
theorem dg.cP(I:(OA)×Nat×Nat×Int->World->Prop)(μ:(OA)×Nat×Nat×Int->World->Nat)(s:(OA)×Nat×Nat×Int){Q:aZ}{w:World}(h0:I s w)
 (round:∀s w,I s w->dg.B1 (s.1) (s.2.1) (s.2.2.1) d e f g i j k (s.2.2.2) (b7 (dg.e1 d e f g i j k) I μ s w Q) w):cO 30 (.loop (lB (bB (sR (sL (sR (body f143))))))) Q (dg.e1 d e f g i j k s) w:=
 bI ng mix (dg.e1 d e f g i j k) I μ dg.k dg.u1 s (λs Q w=>dg.B1 (s.1) (s.2.1) (s.2.2.1) d e f g i j k (s.2.2.2) Q w) (λs Q w=>dg.b1 (s.1) (s.2.1) (s.2.2.1) d e f g i j k (s.2.2.2) Q w) h0 round
end
section
def dg.dA(a:OA)(b c:Nat)(d:OA)(e f:Nat)(g:OA)(i j:Nat)(k m:Int)(K:KT)(w:World):Prop:=
 K (ao a b c) w
variable(a:OA)(b c:Nat)(d:OA)(e f:Nat)(g:OA)(i j:Nat)(k m:Int)(K:KT)(w:World)
theorem dg.dJ:(dg.q1 K (.exit 0) [(0,ao a b c),(4,ao d e f),(7,ao g i j),(8,ag k),(9,ag m)] w)=dg.dA a b c d e f g i j k m K w:=by kernel_rfl
end
def fO.k:List Nat:= []
section
variable(a:AV)(b:Addr)(K:KT)(w:World)
def fO.W:Prop:=
 let d:=w.alloc (.cells a 24);∃e:OA,d.cell? b=some (au e)/\∃f:AV,cS d (aU w.heap.size) f/\bJ prog 47 #[au e,.agg f] d λg i=>∃j:Bool,g=.bool j/\K (.bool (!j)) i
variable{a b K w}
theorem fO.of(h:fO.W a b K w):bJ prog 145 #[.agg a,au (some b)] w K:=
 rqq func145 (C:=fO.k) h
end
def cC.k:List Nat:= []
def cC.q1(K:KT):aZ:=(aW 0 (dd (bf (body f146))++(bn f146)) (cH (λcM w_=>match cutAt cC.k (bf (body f146))with|true=>cO 24 (bf (body f146)) (cy prog f146 K) cM w_|false=>bz none [] prog 24 cC.k (bf (body f146)) (bn f146) (cy prog f146 K) cM w_) (cy prog f146 K)))
def cC.e1(a:Int)(b:OA)(c d:Nat)(s:(OA)×Nat×Nat):Env:= [(0,ao s.1 s.2.1 s.2.2),(1,ag a),(4,ao b c d)]
def cC.u1:List Nat:= [0,1,4]
section
variable(a:OA)(b d:Nat)(e:Int)(K:KT)(w:World)
def cC.W:Prop:=
 cO 24 (.loop (lB (bB (sL (sR (body f146)))))) (cC.q1 K) [(0,ao a b d),(1,ag e),(4,ao none 0 0)] w
variable{a b d e K w}
theorem cC.of(h:cC.W a b d e K w):bJ prog 146 #[ao a b d,ag e] w K:=
 rqq func146 (C:=cC.k) h
end
section
variable(a:OA)(b c:Nat)(d:Int)(e:OA)(f g:Nat)(Q:aZ)(w:World)
def cC.B1:Prop:=
 (64:Int)≠0/\Split (decide ((b:Int)<=(i64.wrap (d.tdiv (64:Int))))) (let i:=w.alloc (.cells #[.int .u64 0] 22);∃(j:OA) (k m:Nat) (n:World),(Builtin.append_ #[143,143] 143 #[ao a b c,ao (some (aU w.heap.size)) 1 1]).run prog i=.ok (ao j k m) n/\Q .normal [(0,ao j k m),(1,ag d),(4,ao e f g)] n) (Q (.exit 0) [(0,ao a b c),(1,ag d),(4,ao e f g)] w)
theorem cC.b1:(bz none [] prog 24 cC.k (lB (bB (sL (sR (body f146))))) cC.u1 Q [(0,ao a b c),(1,ag d),(4,ao e f g)] w)=cC.B1 a b c d e f g Q w:=by kernel_rfl
variable{d e f g}
theorem cC.cP(I:(OA)×Nat×Nat->World->Prop)(μ:(OA)×Nat×Nat->World->Nat)(s:(OA)×Nat×Nat){Q:aZ}{w:World}(h0:I s w)
 (round:∀s w,I s w->cC.B1 (s.1) (s.2.1) (s.2.2) d e f g (b7 (cC.e1 d e f g) I μ s w Q) w):cO 24 (.loop (lB (bB (sL (sR (body f146)))))) Q (cC.e1 d e f g s) w:=
 bI ng mix (cC.e1 d e f g) I μ cC.k cC.u1 s (λs Q w=>cC.B1 (s.1) (s.2.1) (s.2.2) d e f g Q w) (λs Q w=>cC.b1 (s.1) (s.2.1) (s.2.2) d e f g Q w) h0 round
end
section
def cC.dA(a:OA)(b c:Nat)(d:Int)(e:OA)(f g:Nat)(K:KT)(w:World):Prop:=
 let i:=w.drew;(64:Int)≠0/\(0<=(i64.wrap (d.tdiv (64:Int)))/\(i64.wrap (d.tdiv (64:Int)))<(b:Int))/\Is a λj:Addr=>∃k:Int,i.cell? (j.add ((i64.wrap (d.tdiv (64:Int))).toNat*1))=some (.int .u64 k)/\(64:Int)≠0/\0<=(d.tmod (64:Int))/\(0<=(i64.wrap (d.tdiv (64:Int)))/\(i64.wrap (d.tdiv (64:Int)))<(b:Int))/\Is a λm:Addr=>Wr i (m.add ((i64.wrap (d.tdiv (64:Int))).toNat*1))/\let n:=i.setCell (m.add ((i64.wrap (d.tdiv (64:Int))).toNat*1)) (.int .u64 (u64.wrap ((BitVec.ofInt 64 k|||BitVec.ofInt 64 (u64.wrap ((1:Int)*2 ^ (min (d.tmod (64:Int)).toNat 64)))).toNat)));K (ao a b c) n
variable(a:OA)(b c:Nat)(d:Int)(e:OA)(f g:Nat)(K:KT)(w:World)
theorem cC.dJ:(cC.q1 K (.exit 0) [(0,ao a b c),(1,ag d),(4,ao e f g)] w)=cC.dA a b c d e f g K w:=by kernel_rfl
end
def aM.k:List Nat:= []
def aM.q1(K:KT):aZ:=(aW 0 (dd (bf (sR (body f92)))++(bn f92)) (cH (λcM w_=>match cutAt aM.k (bf (sR (body f92)))with|true=>cO 34 (bf (sR (body f92))) (cy prog f92 K) cM w_|false=>bz none [] prog 34 aM.k (bf (sR (body f92))) (bn f92) (cy prog f92 K) cM w_) (cy prog f92 K)))
def aM.e1(a:OA)(b c:Nat)(d:OA)(e f:Nat)(g:Int)(s:(OA)×Nat×Nat×Int):Env:= [(1,.func (.func 93) #[] #[]),(4,ao a b c),(5,ao s.1 s.2.1 s.2.2.1),(13,ao d e f),(14,ag g),(15,ag s.2.2.2)]
def aM.u1:List Nat:= [1,4,5,13,14,15]
section
variable(a:OA)(K:KT)(w:World)
def aM.W:Prop:=
 bJ prog 124 #[au a] w λb d=>∃e:Bool,b=.bool e/\Split e (Is a λf:Addr=>∃g:OA,∃i j:Nat,d.cell? (f.add 0)=some (ao g i j)/\cO 34 (.loop (lB (bB (sR (cT (sR (sL (bf (body f92))))))))) (aM.q1 K) [(1,.func (.func 93) #[] #[]),(4,ao none 0 0),(5,ao none 0 0),(13,ao g i j),(14,ag (i:Int)),(15,ag 0)] d) (bJ prog 57 #[ao none 0 0] d λk m=>∃n:OA,∃o p:Nat,k=ao n o p/\K (ao n o p) m)
variable{a K w}
theorem aM.of(h:aM.W a K w):bJ prog 92 #[au a,.func (.func 93) #[] #[]] w K:=
 rqq func92 (C:=aM.k) h
end
section
variable(a:OA)(b c:Nat)(d:OA)(e f:Nat)(g:OA)(i j:Nat)(k m:Int)(Q:aZ)(w:World)
def aM.B1:Prop:=
 Split (decide (m<k)) ((0<=m/\m<(i:Int))/\Is g λn:Addr=>∃o:OA,w.cell? (n.add (m.toNat*1))=some (au o)/\bJ prog 93 #[ag m,au o] w λp q=>∃r:Bool,p=.bool r/\Split r (Is o λt:Addr=>∃u:AV,cS q (t.add 0) u/\u.size=32/\let v:=q.alloc (.cells (u.toList++ []).toArray 24);∃(x:OA) (y z:Nat) (a1:World),(Builtin.append_ #[33,33] 33 #[ao d e f,ao (some (aU q.heap.size)) 1 1]).run prog v=.ok (ao x y z) a1/\Q .normal [(1,.func (.func 93) #[] #[]),(4,ao a b c),(5,ao x y z),(13,ao g i j),(14,ag k),(15,ag (i64.wrap (m+(1:Int))))] a1) (Q .normal [(1,.func (.func 93) #[] #[]),(4,ao a b c),(5,ao d e f),(13,ao g i j),(14,ag k),(15,ag (i64.wrap (m+(1:Int))))] q)) (Q (.exit 0) [(1,.func (.func 93) #[] #[]),(4,ao a b c),(5,ao d e f),(13,ao g i j),(14,ag k),(15,ag m)] w)
theorem aM.b1:(bz none [] prog 34 aM.k (lB (bB (sR (cT (sR (sL (bf (body f92)))))))) aM.u1 Q [(1,.func (.func 93) #[] #[]),(4,ao a b c),(5,ao d e f),(13,ao g i j),(14,ag k),(15,ag m)] w)=aM.B1 a b c d e f g i j k m Q w:=by kernel_rfl
variable{a b c g i j k}
theorem aM.cP(I:(OA)×Nat×Nat×Int->World->Prop)(μ:(OA)×Nat×Nat×Int->World->Nat)(s:(OA)×Nat×Nat×Int){Q:aZ}{w:World}(h0:I s w)
 (round:∀s w,I s w->aM.B1 a b c (s.1) (s.2.1) (s.2.2.1) g i j k (s.2.2.2) (b7 (aM.e1 a b c g i j k) I μ s w Q) w):cO 34 (.loop (lB (bB (sR (cT (sR (sL (bf (body f92))))))))) Q (aM.e1 a b c g i j k s) w:=
 bI ng mix (aM.e1 a b c g i j k) I μ aM.k aM.u1 s (λs Q w=>aM.B1 a b c (s.1) (s.2.1) (s.2.2.1) g i j k (s.2.2.2) Q w) (λs Q w=>aM.b1 a b c (s.1) (s.2.1) (s.2.2.1) g i j k (s.2.2.2) Q w) h0 round
end
section
def aM.dA(a:OA)(b c:Nat)(d:OA)(e f:Nat)(g:OA)(i j:Nat)(k m:Int)(K:KT)(w:World):Prop:=
 bJ prog 57 #[ao d e f] w λn o=>∃p:OA,∃q r:Nat,n=ao p q r/\K (ao p q r) o
variable(a:OA)(b c:Nat)(d:OA)(e f:Nat)(g:OA)(i j:Nat)(k m:Int)(K:KT)(w:World)
theorem aM.dJ:(aM.q1 K (.exit 0) [(1,.func (.func 93) #[] #[]),(4,ao a b c),(5,ao d e f),(13,ao g i j),(14,ag k),(15,ag m)] w)=aM.dA a b c d e f g i j k m K w:=by kernel_rfl
end
def aF.k:List Nat:= []
def aF.q1(K:KT):aZ:=(aW 0 (dd (bf (body f91))++(bn f91)) (cH (λcM w_=>match cutAt aF.k (bf (body f91))with|true=>cO 19 (bf (body f91)) (cy prog f91 K) cM w_|false=>bz none [] prog 19 aF.k (bf (body f91)) (bn f91) (cy prog f91 K) cM w_) (cy prog f91 K)))
def aF.e1(a:OA)(b c:Nat)(d:Addr)(e:Int)(s:Int×Int):Env:= [(0,ao a b c),(1,.func (.func 145) #[] #[au (some d)]),(4,ag s.1),(7,ag e),(8,ag s.2)]
def aF.u1:List Nat:= [0,1,4,7,8]
section
variable(a:OA)(b d:Nat)(e:Addr)(K:KT)(w:World)
def aF.W:Prop:=
 cO 19 (.loop (lB (bB (sR (sL (sR (body f91))))))) (aF.q1 K) [(0,ao a b d),(1,.func (.func 145) #[] #[au (some e)]),(4,ag 0),(7,ag (b:Int)),(8,ag 0)] w
variable{a b d e K w}
theorem aF.of(h:aF.W a b d e K w):bJ prog 91 #[ao a b d,.func (.func 145) #[] #[au (some e)]] w K:=
 rqq func91 (C:=aF.k) h
end
section
variable(a:OA)(b c:Nat)(d:Addr)(e f g:Int)(Q:aZ)(w:World)
def aF.B1:Prop:=
 Split (decide (g<f)) ((0<=g/\g<(b:Int))/\Is a λi:Addr=>∃j:AV,cS w (i.add (g.toNat*32)) j/\bJ prog 145 #[.agg j,au (some d)] w λk m=>∃n:Bool,k=.bool n/\Split n (Q .ret [(0,ao a b c),(1,.func (.func 145) #[] #[au (some d)]),(4,ag g),(7,ag f),(8,ag g)] m) (Q .normal [(0,ao a b c),(1,.func (.func 145) #[] #[au (some d)]),(4,ag e),(7,ag f),(8,ag (i64.wrap (g+(1:Int))))] m)) (Q (.exit 0) [(0,ao a b c),(1,.func (.func 145) #[] #[au (some d)]),(4,ag e),(7,ag f),(8,ag g)] w)
theorem aF.b1:(bz none [] prog 19 aF.k (lB (bB (sR (sL (sR (body f91)))))) aF.u1 Q [(0,ao a b c),(1,.func (.func 145) #[] #[au (some d)]),(4,ag e),(7,ag f),(8,ag g)] w)=aF.B1 a b c d e f g Q w:=by kernel_rfl
variable{a b c d f}
theorem aF.cP(I:Int×Int->World->Prop)(μ:Int×Int->World->Nat)(s:Int×Int){Q:aZ}{w:World}(h0:I s w)
 (round:∀s w,I s w->aF.B1 a b c d (s.1) f (s.2) (b7 (aF.e1 a b c d f) I μ s w Q) w):cO 19 (.loop (lB (bB (sR (sL (sR (body f91))))))) Q (aF.e1 a b c d f s) w:=
 bI ng mix (aF.e1 a b c d f) I μ aF.k aF.u1 s (λs Q w=>aF.B1 a b c d (s.1) f (s.2) Q w) (λs Q w=>aF.b1 a b c d (s.1) f (s.2) Q w) h0 round
end
section
def aF.dA(a:OA)(b c:Nat)(d:Addr)(e f g:Int)(K:KT)(w:World):Prop:=
 K (ag (-1)) w
variable(a:OA)(b c:Nat)(d:Addr)(e f g:Int)(K:KT)(w:World)
theorem aF.dJ:(aF.q1 K (.exit 0) [(0,ao a b c),(1,.func (.func 145) #[] #[au (some d)]),(4,ag e),(7,ag f),(8,ag g)] w)=aF.dA a b c d e f g K w:=by kernel_rfl
end
def df.k:List Nat:= []
section
variable(a:OA)(b d:Nat)(e:Addr)(K:KT)(w:World)
def df.W:Prop:=
 bJ prog 91 #[ao a b d,.func (.func 145) #[] #[au (some e)]] w λf g=>∃i:Int,f=ag i/\K (.bool (decide (i>=(0:Int)))) g
variable{a b d e K w}
theorem df.of(h:df.W a b d e K w):bJ prog 68 #[ao a b d,.func (.func 145) #[] #[au (some e)]] w K:=
 rqq func68 (C:=df.k) h
end
def aS.k:List Nat:= []
def aS.q1(K:KT):aZ:=(aW 0 (bn f158) (cy prog f158 K))
def aS.e1(a:Nat)(b:OA)(c d:Nat)(e s:Int):Env:= [(0,.func (.yield a) #[] #[]),(5,ao b c d),(6,ag e),(7,ag s)]
def aS.u1:List Nat:= [0,5,6,7]
def aS.q2(Q:aZ):aZ:=(aW 2 (dd (bf (sR (lB (bB (sR (body f158))))))++aS.u1) (aW 1 (dd (bf (sR (lB (bB (sR (body f158))))))++aS.u1) (cH (λcM w_=>match cutAt aS.k (bf (sR (lB (bB (sR (body f158))))))with|true=>cO 27 (bf (sR (lB (bB (sR (body f158)))))) Q cM w_|false=>bz none [] prog 27 aS.k (bf (sR (lB (bB (sR (body f158)))))) aS.u1 Q cM w_) Q)))
def aS.e2(a:Nat)(b:Int)(c:OA)(d e:Nat)(f g s:Int):Env:= [(0,.func (.yield a) #[] #[]),(3,ag b),(4,.int .u64 s),(5,ao c d e),(6,ag f),(7,ag g)]
def aS.u2:List Nat:= [0,3,4,5,6,7]
section
variable(a:Nat)(b:Addr)(K:KT)(w:World)
def aS.W:Prop:=
 ∃d:OA,∃e f:Nat,w.cell? b=some (ao d e f)/\cO 27 (.loop (lB (bB (sR (body f158))))) (aS.q1 K) [(0,.func (.yield a) #[] #[]),(5,ao d e f),(6,ag (e:Int)),(7,ag 0)] w
variable{a b K w}
theorem aS.of(h:aS.W a b K w):bJ prog 158 #[.func (.yield a) #[] #[],au (some b)] w K:=
 rqq func158 (C:=aS.k) h
end
section
variable(a:Nat)(b:OA)(c d:Nat)(e f:Int)(Q:aZ)(w:World)
def aS.B1:Prop:=
 Split (decide (f<e)) ((0<=f/\f<(c:Int))/\Is b λg:Addr=>∃i:Int,w.cell? (g.add (f.toNat*1))=some (.int .u64 i)/\cO 27 (.loop (lB (bB (sR (bB (sL (bf (lB (bB (sR (body f158))))))))))) (aS.q2 Q) [(0,.func (.yield a) #[] #[]),(3,ag f),(4,.int .u64 i),(5,ao b c d),(6,ag e),(7,ag f)] w) (Q (.exit 0) [(0,.func (.yield a) #[] #[]),(5,ao b c d),(6,ag e),(7,ag f)] w)
theorem aS.b1:(bz none [] prog 27 aS.k (lB (bB (sR (body f158)))) aS.u1 Q [(0,.func (.yield a) #[] #[]),(5,ao b c d),(6,ag e),(7,ag f)] w)=aS.B1 a b c d e f Q w:=by kernel_rfl
variable{a b c d e}
theorem aS.cP(I:Int->World->Prop)(μ:Int->World->Nat)(s:Int){Q:aZ}{w:World}(h0:I s w)
 (round:∀s w,I s w->aS.B1 a b c d e s (b7 (aS.e1 a b c d e) I μ s w Q) w):cO 27 (.loop (lB (bB (sR (body f158))))) Q (aS.e1 a b c d e s) w:=
 bI ng mix (aS.e1 a b c d e) I μ aS.k aS.u1 s (λs Q w=>aS.B1 a b c d e s Q w) (λs Q w=>aS.b1 a b c d e s Q w) h0 round
end
section
def aS.dA(a:Nat)(b:OA)(c d:Nat)(e f:Int)(K:KT)(w:World):Prop:=
 K (.tuple #[]) w
variable(a:Nat)(b:OA)(c d:Nat)(e f:Int)(K:KT)(w:World)
theorem aS.dJ:(aS.q1 K (.exit 0) [(0,.func (.yield a) #[] #[]),(5,ao b c d),(6,ag e),(7,ag f)] w)=aS.dA a b c d e f K w:=by kernel_rfl
end
section
variable(a:Nat)(b c:Int)(d:OA)(e f:Nat)(g i:Int)(Q:aZ)(w:World)
def aS.B2:Prop:=
 Split (c != (0:Int)) (bJ prog 159 #[.int .u64 c] w λj k=>∃m:Int,j=ag m/\mr prog a #[ag (i64.wrap ((i64.wrap ((64:Int)*b))+m))] k λn o=>Split (!n) (Q .ret [(0,.func (.yield a) #[] #[]),(3,ag b),(4,.int .u64 c),(5,ao d e f),(6,ag g),(7,ag i)] o) (Q .normal [(0,.func (.yield a) #[] #[]),(3,ag b),(4,.int .u64 (u64.wrap ((BitVec.ofInt 64 c&&& BitVec.ofInt 64 (u64.wrap (c-(1:Int)))).toNat))),(5,ao d e f),(6,ag g),(7,ag i)] o)) (Q (.exit 2) [(0,.func (.yield a) #[] #[]),(3,ag b),(4,.int .u64 c),(5,ao d e f),(6,ag g),(7,ag i)] w)
theorem aS.b2:(bz none [] prog 27 aS.k (lB (bB (sR (bB (sL (bf (lB (bB (sR (body f158)))))))))) aS.u2 Q [(0,.func (.yield a) #[] #[]),(3,ag b),(4,.int .u64 c),(5,ao d e f),(6,ag g),(7,ag i)] w)=aS.B2 a b c d e f g i Q w:=by kernel_rfl
variable{a b d e f g i}
theorem aS.iY(I:Int->World->Prop)(μ:Int->World->Nat)(s:Int){Q:aZ}{w:World}(h0:I s w)
 (round:∀s w,I s w->aS.B2 a b s d e f g i (b7 (aS.e2 a b d e f g i) I μ s w Q) w):cO 27 (.loop (lB (bB (sR (bB (sL (bf (lB (bB (sR (body f158))))))))))) Q (aS.e2 a b d e f g i s) w:=
 bI ng mix (aS.e2 a b d e f g i) I μ aS.k aS.u2 s (λs Q w=>aS.B2 a b s d e f g i Q w) (λs Q w=>aS.b2 a b s d e f g i Q w) h0 round
end
section
def aS.jJ(a:Nat)(b c:Int)(d:OA)(e f:Nat)(g i:Int)(Q:aZ)(w:World):Prop:=
 Q .normal [(0,.func (.yield a) #[] #[]),(5,ao d e f),(6,ag g),(7,ag (i64.wrap (i+(1:Int))))] w
variable(a:Nat)(b c:Int)(d:OA)(e f:Nat)(g i:Int)(Q:aZ)(w:World)
theorem aS.lA:(aS.q2 Q (.exit 2) [(0,.func (.yield a) #[] #[]),(3,ag b),(4,.int .u64 c),(5,ao d e f),(6,ag g),(7,ag i)] w)=aS.jJ a b c d e f g i Q w:=by kernel_rfl
end
def aQ.k:List Nat:= []
def aQ.q1(K:KT):aZ:=(aW 0 (bn f137) (cy prog f137 K))
def aQ.e1(a:Nat)(b:OA)(c d:Nat)(e s:Int):Env:= [(0,.func (.yield a) #[] #[]),(5,ao b c d),(6,ag e),(7,ag s)]
def aQ.u1:List Nat:= [0,5,6,7]
section
variable(a:Nat)(b:Addr)(K:KT)(w:World)
def aQ.W:Prop:=
 ∃d:OA,∃e f:Nat,w.cell? b=some (ao d e f)/\cO 16 (.loop (lB (bB (sR (body f137))))) (aQ.q1 K) [(0,.func (.yield a) #[] #[]),(5,ao d e f),(6,ag (e:Int)),(7,ag 0)] w
variable{a b K w}
theorem aQ.of(h:aQ.W a b K w):bJ prog 137 #[.func (.yield a) #[] #[],au (some b)] w K:=
 rqq func137 (C:=aQ.k) h
end
section
variable(a:Nat)(b:OA)(c d:Nat)(e f:Int)(Q:aZ)(w:World)
def aQ.B1:Prop:=
 Split (decide (f<e)) ((0<=f/\f<(c:Int))/\Is b λg:Addr=>∃i:AV,cS w (g.add (f.toNat*32)) i/\let j:=w.alloc (.cells zH 24);(i.size=32/\(∀k∈i.toList,k.oneCell'=true)/\∀m,m<32->Wr j ((aU w.heap.size).add m))/\let n:=setCells j (aU w.heap.size) i.toList 0;∃o:AV,cS n (aU w.heap.size) o/\mr prog a #[.agg o] n λp q=>Split (!p) (Q .ret [(0,.func (.yield a) #[] #[]),(5,ao b c d),(6,ag e),(7,ag f)] q) (Q .normal [(0,.func (.yield a) #[] #[]),(5,ao b c d),(6,ag e),(7,ag (i64.wrap (f+(1:Int))))] q)) (Q (.exit 0) [(0,.func (.yield a) #[] #[]),(5,ao b c d),(6,ag e),(7,ag f)] w)
theorem aQ.b1:(bz none [] prog 16 aQ.k (lB (bB (sR (body f137)))) aQ.u1 Q [(0,.func (.yield a) #[] #[]),(5,ao b c d),(6,ag e),(7,ag f)] w)=aQ.B1 a b c d e f Q w:=by kernel_rfl
variable{a b c d e}
theorem aQ.cP(I:Int->World->Prop)(μ:Int->World->Nat)(s:Int){Q:aZ}{w:World}(h0:I s w)
 (round:∀s w,I s w->aQ.B1 a b c d e s (b7 (aQ.e1 a b c d e) I μ s w Q) w):cO 16 (.loop (lB (bB (sR (body f137))))) Q (aQ.e1 a b c d e s) w:=
 bI ng mix (aQ.e1 a b c d e) I μ aQ.k aQ.u1 s (λs Q w=>aQ.B1 a b c d e s Q w) (λs Q w=>aQ.b1 a b c d e s Q w) h0 round
end
section
def aQ.dA(a:Nat)(b:OA)(c d:Nat)(e f:Int)(K:KT)(w:World):Prop:=
 K (.tuple #[]) w
variable(a:Nat)(b:OA)(c d:Nat)(e f:Int)(K:KT)(w:World)
theorem aQ.dJ:(aQ.q1 K (.exit 0) [(0,.func (.yield a) #[] #[]),(5,ao b c d),(6,ag e),(7,ag f)] w)=aQ.dA a b c d e f K w:=by kernel_rfl
end
end Go.Proofs.YtfleamccglihoaaGreatDoor
