import Derived.Test.YtfleamccglihoaaGreatDoorProg
import Derived.Test.YtfleamccglihoaaGreatDoorMA
open Go.IntKind (i64 u64)
set_option linter.unusedVariables false
namespace Go.Proofs.YtfleamccglihoaaGreatDoor
open Go.Proofs.Tryz
open Go Go.bW
abbrev OA:=Option Addr
abbrev AV:=Array Value
abbrev KT:=Value->World->Prop
abbrev zH:Array Value:= #[.int .u8 0,.int .u8 0,.int .u8 0,.int .u8 0,.int .u8 0,.int .u8 0,.int .u8 0,.int .u8 0,.int .u8 0,.int .u8 0,.int .u8 0,.int .u8 0,.int .u8 0,.int .u8 0,.int .u8 0,.int .u8 0,.int .u8 0,.int .u8 0,.int .u8 0,.int .u8 0,.int .u8 0,.int .u8 0,.int .u8 0,.int .u8 0,.int .u8 0,.int .u8 0,.int .u8 0,.int .u8 0,.int .u8 0,.int .u8 0,.int .u8 0,.int .u8 0]
abbrev zC:Array Value:= #[.int .u8 0,.int .u8 0,.int .u8 0,.int .u8 0,.int .u8 0,.int .u8 0,.int .u8 0,.int .u8 0,.int .u8 0,.int .u8 0,.int .u8 0,.int .u8 0,.int .u8 0,.int .u8 0,.int .u8 0,.int .u8 0,.int .u8 0,.int .u8 0,.int .u8 0,.int .u8 0,.int .u8 0,.int .u8 0,.int .u8 0,.int .u8 0,.int .u8 0,.int .u8 0,.int .u8 0,.int .u8 0,.int .u8 0,.int .u8 0,.int .u8 0,.int .u8 0,.int .u64 0,.slice none 0 0,.slice none 0 0]
abbrev zS:Array Value:= #[.int .u8 0,.int .u8 0,.int .u8 0,.int .u8 0,.int .u8 0,.int .u8 0,.int .u8 0,.int .u8 0,.int .u8 0,.int .u8 0,.int .u8 0,.int .u8 0,.int .u8 0,.int .u8 0,.int .u8 0,.int .u8 0,.int .u8 0,.int .u8 0,.int .u8 0,.int .u8 0,.int .u8 0,.int .u8 0,.int .u8 0,.int .u8 0,.int .u8 0,.int .u8 0,.int .u8 0,.int .u8 0,.int .u8 0,.int .u8 0,.int .u8 0,.int .u8 0,.int .u64 0,.slice none 0 0,.slice none 0 0,.map none]
abbrev eW:Nat:=3
abbrev gZ:Nat:=4
abbrev jb:Nat:=5
abbrev jg:Nat:=22
abbrev ag:Nat:=24
abbrev dQ:Nat:=28
abbrev dz:Nat:=29
abbrev ay:Nat:=33
abbrev cP:Nat:=38
abbrev iK:Nat:=40
abbrev jL:Nat:=42
abbrev uB:Nat:=44
abbrev fQ:Nat:=45
abbrev hU:Nat:=47
abbrev fE:Nat:=48
abbrev gQ:Nat:=51
abbrev br:Nat:=53
abbrev gE:Nat:=62
abbrev dR:Nat:=63
abbrev iq:Nat:=65
abbrev bX:Nat:=69
abbrev mR:Nat:=89
abbrev lJ:Nat:=98
abbrev fw:Nat:=123
abbrev cO:Nat:=127
abbrev eB:Nat:=129
abbrev gY:Nat:=135
abbrev eV:Nat:=137
abbrev fy:Nat:=138
abbrev BM:Nat:=142
abbrev lG:Nat:=143
abbrev ek:Nat:=145
abbrev tz:Nat:=163
abbrev lV:Nat:=164
abbrev lZ:Nat:=170
abbrev iz:Nat:=172
abbrev jB:Nat:=186
abbrev iO:Nat:=195
abbrev uf:Nat:=197
abbrev jA:Nat:=199
abbrev xw:Nat:=218
abbrev ao.id:Nat:=6
abbrev bK.id:Nat:=16
abbrev cf.id:Nat:=17
abbrev af.id:Nat:=19
abbrev dB.id:Nat:=21
abbrev aA.id:Nat:=23
abbrev iu.id:Nat:=24
abbrev dc.id:Nat:=25
abbrev aI.id:Nat:=26
abbrev aN.id:Nat:=27
abbrev dY.id:Nat:=28
abbrev bG.id:Nat:=29
abbrev ir.id:Nat:=30
abbrev iQ.id:Nat:=31
abbrev bQ.id:Nat:=32
abbrev aX.id:Nat:=33
abbrev bz.id:Nat:=35
abbrev cX.id:Nat:=38
abbrev dP.id:Nat:=41
abbrev iM.id:Nat:=42
abbrev kH.id:Nat:=43
abbrev dN.id:Nat:=44
abbrev eJ.id:Nat:=45
abbrev gP.id:Nat:=47
abbrev dZ.id:Nat:=51
abbrev jm.id:Nat:=53
abbrev dp.id:Nat:=55
abbrev jx.id:Nat:=57
abbrev dX.id:Nat:=59
abbrev dG.id:Nat:=60
abbrev bf.id:Nat:=61
abbrev dT.id:Nat:=68
abbrev eQ.id:Nat:=71
abbrev mw.id:Nat:=72
abbrev bE.id:Nat:=73
abbrev cJ.id:Nat:=74
abbrev bN.id:Nat:=75
abbrev iP.id:Nat:=76
abbrev bu.id:Nat:=77
abbrev di.id:Nat:=78
abbrev cQ.id:Nat:=80
abbrev a7.id:Nat:=81
abbrev eI.id:Nat:=82
abbrev ak.id:Nat:=83
abbrev aE.id:Nat:=84
abbrev iw.id:Nat:=85
abbrev ax.id:Nat:=86
abbrev kK.id:Nat:=87
abbrev bD.id:Nat:=88
abbrev fH.id:Nat:=89
abbrev gq.id:Nat:=90
abbrev fI.id:Nat:=94
abbrev eM.id:Nat:=95
abbrev c9.id:Nat:=96
abbrev ig.id:Nat:=97
abbrev bits_Len.id:Nat:=98
abbrev ai.id:Nat:=99
abbrev dI.id:Nat:=102
abbrev eK.id:Nat:=104
abbrev bO.id:Nat:=106
abbrev dK.id:Nat:=107
abbrev dd.id:Nat:=108
abbrev gk.id:Nat:=109
abbrev aK.id:Nat:=110
abbrev aV.id:Nat:=111
abbrev ah.id:Nat:=112
abbrev dv.id:Nat:=113
abbrev b7.id:Nat:=114
abbrev bg.id:Nat:=115
abbrev cM.id:Nat:=116
abbrev ft.id:Nat:=117
abbrev bJ.id:Nat:=118
abbrev dw.id:Nat:=119
abbrev gN.id:Nat:=120
abbrev dW.id:Nat:=121
abbrev np.id:Nat:=122
abbrev fh.id:Nat:=123
abbrev gD.id:Nat:=124
abbrev dH.id:Nat:=125
abbrev fG.id:Nat:=126
abbrev jq.id:Nat:=127
abbrev ki.id:Nat:=128
abbrev jr.id:Nat:=129
abbrev jC.id:Nat:=130
abbrev js.id:Nat:=131
abbrev iB.id:Nat:=132
abbrev jP.id:Nat:=134
abbrev bits_Len64.id:Nat:=136
abbrev aG.id:Nat:=137
abbrev iE.id:Nat:=138
abbrev aM.id:Nat:=140
abbrev aZ.id:Nat:=141
abbrev fN.id:Nat:=142
abbrev cG.id:Nat:=143
abbrev eR.id:Nat:=145
abbrev bT.id:Nat:=146
abbrev gM.id:Nat:=147
abbrev gg.id:Nat:=148
abbrev gh.id:Nat:=149
abbrev az.id:Nat:=150
abbrev iS.id:Nat:=151
abbrev kh.id:Nat:=152
abbrev pz.id:Nat:=154
abbrev kY.id:Nat:=156
abbrev aJ.id:Nat:=158
abbrev bits_TrailingZeros64.id:Nat:=159
abbrev bH.id:Nat:=160
abbrev bits_Mul64.id:Nat:=161
abbrev bk.id:Nat:=162
abbrev kX.id:Nat:=163
abbrev bits_LeadingZeros64.id:Nat:=164
noncomputable abbrev af.fn:Func:=f19
noncomputable abbrev ak.fn:Func:=f83
noncomputable abbrev az.fn:Func:=f150
noncomputable abbrev bk.fn:Func:=f162
theorem bu.at_:prog.funcs[(77:Nat)]? =some f77:=func77
theorem dI.at_:prog.funcs[(102:Nat)]? =some f102:=func102
theorem b7.at_:prog.funcs[(114:Nat)]? =some f114:=func114
theorem cM.at_:prog.funcs[(116:Nat)]? =some f116:=func116
theorem aG.at_:prog.funcs[(137:Nat)]? =some f137:=func137
theorem aZ.at_:prog.funcs[(141:Nat)]? =some f141:=func141
theorem ux.at_:prog.funcs[(157:Nat)]? =some f157:=func157
theorem aJ.at_:prog.funcs[(158:Nat)]? =some f158:=func158
theorem ng:NG prog:=by
 have h:(prog.funcs.toList.all fun f=> !(f.name== "runtime.NumGoroutine"))=true:=by kernel_rfl
 intro g fn hf;rw [List.all_eq_true]at h;have:=h fn (by simpa using Array.mem_of_getElem? hf);simpa using this
theorem mix:prog.follows .mixedOrders=true:=by kernel_rfl
theorem rqq{C:List Nat}{f:FuncId}{fn:Func}{args:List Value}{w:World}{K:Value->World->Prop}{W:Prop}(hf:prog.funcs[f]? =some fn)(h:W)(hb:fn.body=some (body fn):=by kernel_rfl)(hn:(Nat.ble args.length fn.ntmps&&Nat.ble fn.ntmps gm)=true:=by kernel_rfl)(hs:aW none [] prog fn.ntmps C (body fn) (aS fn) (bS prog fn K) (oN args 0) w=W:=by kernel_rfl):bC prog f args.toArray w K:=FB ng mix hf hb hn hs h
def cf.k:List Nat:= []
def cf.q1(K:KT):aO:=(aL 0 (ck (aQ (sR (body f17)))++(aS f17)) (bV (fun b6 w_=>match cutAt cf.k (aQ (sR (body f17)))with|true=>Holds none [] prog 26 (aQ (sR (body f17))) (bS prog f17 K) b6 w_|false=>aW none [] prog 26 cf.k (aQ (sR (body f17))) (aS f17) (bS prog f17 K) b6 w_) (bS prog f17 K)))
def cf.e1(a:OA)(b c:Nat)(d:OA)(e f:Nat)(s:Bool×Int):Env:= [(0,.slice a b c),(1,.slice d e f),(4,.bool s.1),(5,.int .i64 s.2)]
def cf.u1:List Nat:= [0,1,4,5]
section
variable(a:OA)(b d:Nat)(e:OA)(f g:Nat)(K:KT)(w:World)
def cf.W:Prop:=
 Split ((b:Int) != (f:Int)) (K (.bool false) w) (Holds none [] prog 26 (.loop (lB (bB (sR (sL (aQ (body f17))))))) (cf.q1 K) [(0,.slice a b d),(1,.slice e f g),(4,.bool false),(5,.int .i64 0)] w)
variable{a b d e f g K w}
theorem cf.of(h:cf.W a b d e f g K w):bC prog 17 #[.slice a b d,.slice e f g] w K:=
 rqq func17 (C:=cf.k) h
end
section
variable(a:OA)(b c:Nat)(d:OA)(e f:Nat)(g:Bool)(i:Int)(Q:aO)(w:World)
def cf.B1:Prop:=
 Split (decide (i<(b:Int))) (let j:=w.drew;(0<=i/\i<(b:Int))/\Is a fun k:Addr=>∃m:AV,(m.size=32/\Cells j (k.add (i.toNat*32)) m)/\(0<=i/\i<(e:Int))/\Is d fun n:Addr=>∃o:AV,(o.size=32/\Cells j (n.add (i.toNat*32)) o)/\(dJ .u8 32 m/\dJ .u8 32 o)/\Split (!(eU m o)) (Q .ret [(0,.slice a b c),(1,.slice d e f),(4,.bool false),(5,.int .i64 i)] j) (Q .normal [(0,.slice a b c),(1,.slice d e f),(4,.bool g),(5,.int .i64 (i64.wrap (i+(1:Int))))] j)) (Q (.exit 0) [(0,.slice a b c),(1,.slice d e f),(4,.bool g),(5,.int .i64 i)] w)
theorem cf.b1:(aW none [] prog 26 cf.k (lB (bB (sR (sL (aQ (body f17)))))) cf.u1 Q [(0,.slice a b c),(1,.slice d e f),(4,.bool g),(5,.int .i64 i)] w)=cf.B1 a b c d e f g i Q w:=by kernel_rfl
variable{a b c d e f}
theorem cf.cC(I:Bool×Int->World->Prop)(μ:Bool×Int->World->Nat)(s:Bool×Int){Q:aO}{w:World}(h0:I s w)
 (round:∀s w,I s w->cf.B1 a b c d e f (s.1) (s.2) (bR (cf.e1 a b c d e f) I μ s w Q) w):Holds none [] prog 26 (.loop (lB (bB (sR (sL (aQ (body f17))))))) Q (cf.e1 a b c d e f s) w:=
 bp ng mix (cf.e1 a b c d e f) I μ cf.k cf.u1 s (fun s Q w=>cf.B1 a b c d e f (s.1) (s.2) Q w) (fun s Q w=>cf.b1 a b c d e f (s.1) (s.2) Q w) h0 round
end
section
def cf.cU(a:OA)(b c:Nat)(d:OA)(e f:Nat)(g:Bool)(i:Int)(K:KT)(w:World):Prop:=
 K (.bool true) w
variable(a:OA)(b c:Nat)(d:OA)(e f:Nat)(g:Bool)(i:Int)(K:KT)(w:World)
theorem cf.df:(cf.q1 K (.exit 0) [(0,.slice a b c),(1,.slice d e f),(4,.bool g),(5,.int .i64 i)] w)=cf.cU a b c d e f g i K w:=by kernel_rfl
end
def aN.k:List Nat:= []
def aN.q1(K:KT):aO:=(aL 0 (ck (aQ (sR (body Tryz.f27)))++(aS Tryz.f27)) (bV (fun b6 w_=>match cutAt aN.k (aQ (sR (body Tryz.f27)))with|true=>Holds none [] prog 56 (aQ (sR (body Tryz.f27))) (bS prog Tryz.f27 K) b6 w_|false=>aW none [] prog 56 aN.k (aQ (sR (body Tryz.f27))) (aS Tryz.f27) (bS prog Tryz.f27 K) b6 w_) (bS prog Tryz.f27 K)))
def aN.e1(a:OA)(b c:Nat)(d:OA)(e f:Nat)(s:(OA)×Nat×Nat×Int):Env:= [(0,.slice a b c),(2,.slice d e f),(3,.slice s.1 s.2.1 s.2.2.1),(4,.int .i64 s.2.2.2)]
def aN.u1:List Nat:= [0,2,3,4]
def aN.q2(Q:aO):aO:=(aL 2 (ck (aQ (sR (bB (sL (sR (lB (bB (sR (sL (aQ (body Tryz.f27)))))))))))++(ck (aQ (lB (bB (sR (sL (aQ (body Tryz.f27)))))))++aN.u1)) (bV (fun b6 w_=>match cutAt aN.k (aQ (sR (bB (sL (sR (lB (bB (sR (sL (aQ (body Tryz.f27)))))))))))with|true=>Holds none [] prog 56 (aQ (sR (bB (sL (sR (lB (bB (sR (sL (aQ (body Tryz.f27))))))))))) (aL 1 (ck (aQ (lB (bB (sR (sL (aQ (body Tryz.f27)))))))++aN.u1) (bV (fun b6 w_=>match cutAt aN.k (aQ (lB (bB (sR (sL (aQ (body Tryz.f27)))))))with|true=>Holds none [] prog 56 (aQ (lB (bB (sR (sL (aQ (body Tryz.f27))))))) Q b6 w_|false=>aW none [] prog 56 aN.k (aQ (lB (bB (sR (sL (aQ (body Tryz.f27))))))) aN.u1 Q b6 w_) Q)) b6 w_|false=>aW none [] prog 56 aN.k (aQ (sR (bB (sL (sR (lB (bB (sR (sL (aQ (body Tryz.f27))))))))))) (ck (aQ (lB (bB (sR (sL (aQ (body Tryz.f27)))))))++aN.u1) (aL 1 (ck (aQ (lB (bB (sR (sL (aQ (body Tryz.f27)))))))++aN.u1) (bV (fun b6 w_=>match cutAt aN.k (aQ (lB (bB (sR (sL (aQ (body Tryz.f27)))))))with|true=>Holds none [] prog 56 (aQ (lB (bB (sR (sL (aQ (body Tryz.f27))))))) Q b6 w_|false=>aW none [] prog 56 aN.k (aQ (lB (bB (sR (sL (aQ (body Tryz.f27))))))) aN.u1 Q b6 w_) Q)) b6 w_) (aL 1 (ck (aQ (lB (bB (sR (sL (aQ (body Tryz.f27)))))))++aN.u1) (bV (fun b6 w_=>match cutAt aN.k (aQ (lB (bB (sR (sL (aQ (body Tryz.f27)))))))with|true=>Holds none [] prog 56 (aQ (lB (bB (sR (sL (aQ (body Tryz.f27))))))) Q b6 w_|false=>aW none [] prog 56 aN.k (aQ (lB (bB (sR (sL (aQ (body Tryz.f27))))))) aN.u1 Q b6 w_) Q))))
def aN.e2(a:OA)(b c:Nat)(d:OA)(e f:Nat)(g:OA)(i j:Nat)(k s:Int):Env:= [(0,.slice a b c),(2,.slice d e f),(3,.slice g i j),(4,.int .i64 k),(5,.int .i64 s)]
def aN.u2:List Nat:= [0,2,3,4,5]
section
variable(a:OA)(b d:Nat)(K:KT)(w:World)
def aN.W:Prop:=
 Holds none [] prog 56 (.loop (lB (bB (sR (sL (aQ (body Tryz.f27))))))) (aN.q1 K) [(0,.slice a b d),(2,.slice none 0 0),(3,.slice none 0 0),(4,.int .i64 0)] w
variable{a b d K w}
theorem aN.of(h:aN.W a b d K w):bC prog 27 #[.slice a b d] w K:=
 rqq func27 (C:=aN.k) h
end
section
variable(a:OA)(b c:Nat)(d:OA)(e f:Nat)(g:OA)(i j:Nat)(k:Int)(Q:aO)(w:World)
def aN.B1:Prop:=
 Split (decide (k<(b:Int))) ((0<=k/\k<(b:Int))/\Is a fun m:Addr=>∃n:AV,(n.size=32/\Cells w (m.add (k.toNat*32)) n)/\bC prog 38 #[.slice g i j,.agg n] w fun o p=>∃q:Bool,o=.bool q/\Split q (Q .normal [(0,.slice a b c),(2,.slice d e f),(3,.slice g i j),(4,.int .i64 (i64.wrap (k+(1:Int))))] p) (Holds none [] prog 56 (.loop (lB (bB (sL (aQ (bB (sL (sR (lB (bB (sR (sL (aQ (body Tryz.f27)))))))))))))) (aN.q2 Q) [(0,.slice a b c),(2,.slice d e f),(3,.slice g i j),(4,.int .i64 k),(5,.int .i64 (i:Int))] p)) (Q (.exit 0) [(0,.slice a b c),(2,.slice d e f),(3,.slice g i j),(4,.int .i64 k)] w)
theorem aN.b1:(aW none [] prog 56 aN.k (lB (bB (sR (sL (aQ (body Tryz.f27)))))) aN.u1 Q [(0,.slice a b c),(2,.slice d e f),(3,.slice g i j),(4,.int .i64 k)] w)=aN.B1 a b c d e f g i j k Q w:=by kernel_rfl
variable{a b c d e f}
theorem aN.cC(I:(OA)×Nat×Nat×Int->World->Prop)(μ:(OA)×Nat×Nat×Int->World->Nat)(s:(OA)×Nat×Nat×Int){Q:aO}{w:World}(h0:I s w)
 (round:∀s w,I s w->aN.B1 a b c d e f (s.1) (s.2.1) (s.2.2.1) (s.2.2.2) (bR (aN.e1 a b c d e f) I μ s w Q) w):Holds none [] prog 56 (.loop (lB (bB (sR (sL (aQ (body Tryz.f27))))))) Q (aN.e1 a b c d e f s) w:=
 bp ng mix (aN.e1 a b c d e f) I μ aN.k aN.u1 s (fun s Q w=>aN.B1 a b c d e f (s.1) (s.2.1) (s.2.2.1) (s.2.2.2) Q w) (fun s Q w=>aN.b1 a b c d e f (s.1) (s.2.1) (s.2.2.1) (s.2.2.2) Q w) h0 round
end
section
def aN.cU(a:OA)(b c:Nat)(d:OA)(e f:Nat)(g:OA)(i j:Nat)(k:Int)(K:KT)(w:World):Prop:=
 K (.slice g i j) w
variable(a:OA)(b c:Nat)(d:OA)(e f:Nat)(g:OA)(i j:Nat)(k:Int)(K:KT)(w:World)
theorem aN.df:(aN.q1 K (.exit 0) [(0,.slice a b c),(2,.slice d e f),(3,.slice g i j),(4,.int .i64 k)] w)=aN.cU a b c d e f g i j k K w:=by kernel_rfl
end
section
variable(a:OA)(b c:Nat)(d:OA)(e f:Nat)(g:OA)(i j:Nat)(k m:Int)(Q:aO)(w:World)
def aN.B2:Prop:=
 let n:=w.drew;Split (decide (m>(0:Int))) ((0<=k/\k<(b:Int))/\Is a fun o:Addr=>∃p:AV,(p.size=32/\Cells n (o.add (k.toNat*32)) p)/\(0<=(i64.wrap (m-(1:Int)))/\(i64.wrap (m-(1:Int)))<(i:Int))/\Is g fun q:Addr=>∃r:AV,(r.size=32/\Cells n (q.add ((i64.wrap (m-(1:Int))).toNat*32)) r)/\bC prog 75 #[.agg p,.agg r] n fun t u=>∃v:Int,t=.int .i64 v/\Split (decide (v<(0:Int))) (Q .normal [(0,.slice a b c),(2,.slice d e f),(3,.slice g i j),(4,.int .i64 k),(5,.int .i64 (i64.wrap (m-(1:Int))))] u) (Q (.exit 2) [(0,.slice a b c),(2,.slice d e f),(3,.slice g i j),(4,.int .i64 k),(5,.int .i64 m)] u)) (Q (.exit 2) [(0,.slice a b c),(2,.slice d e f),(3,.slice g i j),(4,.int .i64 k),(5,.int .i64 m)] n)
theorem aN.b2:(aW none [] prog 56 aN.k (lB (bB (sL (aQ (bB (sL (sR (lB (bB (sR (sL (aQ (body Tryz.f27))))))))))))) aN.u2 Q [(0,.slice a b c),(2,.slice d e f),(3,.slice g i j),(4,.int .i64 k),(5,.int .i64 m)] w)=aN.B2 a b c d e f g i j k m Q w:=by kernel_rfl
variable{a b c d e f g i j k}
theorem aN.gU(I:Int->World->Prop)(μ:Int->World->Nat)(s:Int){Q:aO}{w:World}(h0:I s w)
 (round:∀s w,I s w->aN.B2 a b c d e f g i j k s (bR (aN.e2 a b c d e f g i j k) I μ s w Q) w):Holds none [] prog 56 (.loop (lB (bB (sL (aQ (bB (sL (sR (lB (bB (sR (sL (aQ (body Tryz.f27)))))))))))))) Q (aN.e2 a b c d e f g i j k s) w:=
 bp ng mix (aN.e2 a b c d e f g i j k) I μ aN.k aN.u2 s (fun s Q w=>aN.B2 a b c d e f g i j k s Q w) (fun s Q w=>aN.b2 a b c d e f g i j k s Q w) h0 round
end
section
variable(a:OA)(b c:Nat)(d:OA)(e f:Nat)(g:OA)(i j:Nat)(k m:Int)(Q:aO)(w:World)
def aN.iN:Prop:=
 (0<=m/\m<=(j:Int))/\∃(n:OA) (o p:Nat) (q:World),(Builtin.append_ #[33,33] 33 #[.slice none 0 0,.slice (if j=0 then g else g.map (·.add (0*32))) (m.toNat-0) (j-0)]).run prog w=.ok (.slice n o p) q/\(0<=k/\k<(b:Int))/\Is a fun r:Addr=>∃t:AV,(t.size=32/\Cells q (r.add (k.toNat*32)) t)/\t.size=32/\let u:=q.alloc (.cells (t.toList++ []).toArray 24);∃(v:OA) (x y:Nat) (z:World),(Builtin.append_ #[33,33] 33 #[.slice n o p,.slice (some (aP q.heap.size)) 1 1]).run prog u=.ok (.slice v x y) z/\(0<=m/\m<=(i:Int))/\∃(a1:OA) (b1 c1:Nat) (d1:World),(Builtin.append_ #[33,33] 33 #[.slice v x y,.slice (if j=m.toNat then g else g.map (·.add (m.toNat*32))) (i-m.toNat) (j-m.toNat)]).run prog z=.ok (.slice a1 b1 c1) d1/\Q .normal [(0,.slice a b c),(2,.slice d e f),(3,.slice a1 b1 c1),(4,.int .i64 (i64.wrap (k+(1:Int))))] d1
theorem aN.jN:(aN.q2 Q (.exit 2) [(0,.slice a b c),(2,.slice d e f),(3,.slice g i j),(4,.int .i64 k),(5,.int .i64 m)] w)=aN.iN a b c d e f g i j k m Q w:=by kernel_rfl
end
def cX.k:List Nat:= []
def cX.q1(K:KT):aO:=(aL 0 (ck (aQ (body f38))++(aS f38)) (bV (fun b6 w_=>match cutAt cX.k (aQ (body f38))with|true=>Holds none [] prog 18 (aQ (body f38)) (bS prog f38 K) b6 w_|false=>aW none [] prog 18 cX.k (aQ (body f38)) (aS f38) (bS prog f38 K) b6 w_) (bS prog f38 K)))
def cX.e1(a:OA)(b c:Nat)(d:Addr)(s:Bool×Int):Env:= [(0,.slice a b c),(3,.pointer (some d)),(4,.bool s.1),(5,.int .i64 s.2)]
def cX.u1:List Nat:= [0,3,4,5]
section
variable(a:OA)(b d:Nat)(e:AV)(K:KT)(w:World)
def cX.W:Prop:=
 let f:=w.alloc (.cells e 24);Holds none [] prog 18 (.loop (lB (bB (sR (sL (sR (body f38))))))) (cX.q1 K) [(0,.slice a b d),(3,.pointer (some (aP w.heap.size))),(4,.bool false),(5,.int .i64 0)] f
variable{a b d e K w}
theorem cX.of(h:cX.W a b d e K w):bC prog 38 #[.slice a b d,.agg e] w K:=
 rqq func38 (C:=cX.k) h
end
section
variable(a:OA)(b c:Nat)(d:Addr)(e:Bool)(f:Int)(Q:aO)(w:World)
def cX.B1:Prop:=
 Split (decide (f<(b:Int))) (let g:=w.drew;(0<=f/\f<(b:Int))/\Is a fun i:Addr=>∃j:AV,(j.size=32/\Cells g (i.add (f.toNat*32)) j)/\∃k:AV,(k.size=32/\Cells g d k)/\(dJ .u8 32 j/\dJ .u8 32 k)/\Split (eU j k) (Q .ret [(0,.slice a b c),(3,.pointer (some d)),(4,.bool true),(5,.int .i64 f)] g) (Q .normal [(0,.slice a b c),(3,.pointer (some d)),(4,.bool e),(5,.int .i64 (i64.wrap (f+(1:Int))))] g)) (Q (.exit 0) [(0,.slice a b c),(3,.pointer (some d)),(4,.bool e),(5,.int .i64 f)] w)
theorem cX.b1:(aW none [] prog 18 cX.k (lB (bB (sR (sL (sR (body f38)))))) cX.u1 Q [(0,.slice a b c),(3,.pointer (some d)),(4,.bool e),(5,.int .i64 f)] w)=cX.B1 a b c d e f Q w:=by kernel_rfl
variable{a b c d}
theorem cX.cC(I:Bool×Int->World->Prop)(μ:Bool×Int->World->Nat)(s:Bool×Int){Q:aO}{w:World}(h0:I s w)
 (round:∀s w,I s w->cX.B1 a b c d (s.1) (s.2) (bR (cX.e1 a b c d) I μ s w Q) w):Holds none [] prog 18 (.loop (lB (bB (sR (sL (sR (body f38))))))) Q (cX.e1 a b c d s) w:=
 bp ng mix (cX.e1 a b c d) I μ cX.k cX.u1 s (fun s Q w=>cX.B1 a b c d (s.1) (s.2) Q w) (fun s Q w=>cX.b1 a b c d (s.1) (s.2) Q w) h0 round
end
section
def cX.cU(a:OA)(b c:Nat)(d:Addr)(e:Bool)(f:Int)(K:KT)(w:World):Prop:=
 K (.bool false) w
variable(a:OA)(b c:Nat)(d:Addr)(e:Bool)(f:Int)(K:KT)(w:World)
theorem cX.df:(cX.q1 K (.exit 0) [(0,.slice a b c),(3,.pointer (some d)),(4,.bool e),(5,.int .i64 f)] w)=cX.cU a b c d e f K w:=by kernel_rfl
end
def gP.k:List Nat:= []
section
variable(a:OA)(b:AV)(K:KT)(w:World)
def gP.W:Prop:=
 let d:=w.alloc (.cells b 24);∃e:AV,(e.size=32/\Cells d (aP w.heap.size) e)/\bC prog 90 #[.pointer a,.agg e] d fun f g=>∃i:OA,f=.pointer i/\K (.bool (!(i).isNone)) g
variable{a b K w}
theorem gP.of(h:gP.W a b K w):bC prog 47 #[.pointer a,.agg b] w K:=
 rqq func47 (C:=gP.k) h
end
def bN.k:List Nat:= []
def bN.q1(K:KT):aO:=(aL 0 (ck (aQ (body f75))++(aS f75)) (bV (fun b6 w_=>match cutAt bN.k (aQ (body f75))with|true=>Holds none [] prog 24 (aQ (body f75)) (bS prog f75 K) b6 w_|false=>aW none [] prog 24 bN.k (aQ (body f75)) (aS f75) (bS prog f75 K) b6 w_) (bS prog f75 K)))
def bN.e1(a b:Addr)(s:Int×Int):Env:= [(2,.pointer (some a)),(3,.pointer (some b)),(4,.int .i64 s.1),(5,.int .i64 s.2)]
def bN.u1:List Nat:= [2,3,4,5]
section
variable(a b:AV)(K:KT)(w:World)
def bN.W:Prop:=
 let d:=w.alloc (.cells a 24);let e:=d.alloc (.cells b 24);Holds none [] prog 24 (.loop (lB (bB (sR (sL (sR (body f75))))))) (bN.q1 K) [(2,.pointer (some (aP w.heap.size))),(3,.pointer (some (aP d.heap.size))),(4,.int .i64 0),(5,.int .i64 0)] e
variable{a b K w}
theorem bN.of(h:bN.W a b K w):bC prog 75 #[.agg a,.agg b] w K:=
 rqq func75 (C:=bN.k) h
end
section
variable(a b:Addr)(c d:Int)(Q:aO)(w:World)
def bN.B1:Prop:=
 Split (decide (d<(32:Int))) (let e:=w.drew;(0<=d/\d<(32:Int))/\∃f:Int,e.cell? (a.add (d.toNat*1))=some (.int .u8 f)/\(0<=d/\d<(32:Int))/\∃g:Int,e.cell? (b.add (d.toNat*1))=some (.int .u8 g)/\Split (decide (f<g)) (Q .ret [(2,.pointer (some a)),(3,.pointer (some b)),(4,.int .i64 (-1)),(5,.int .i64 d)] e) (let i:=e.drew;(0<=d/\d<(32:Int))/\∃j:Int,i.cell? (a.add (d.toNat*1))=some (.int .u8 j)/\(0<=d/\d<(32:Int))/\∃k:Int,i.cell? (b.add (d.toNat*1))=some (.int .u8 k)/\Split (decide (j>k)) (Q .ret [(2,.pointer (some a)),(3,.pointer (some b)),(4,.int .i64 1),(5,.int .i64 d)] i) (Q .normal [(2,.pointer (some a)),(3,.pointer (some b)),(4,.int .i64 c),(5,.int .i64 (i64.wrap (d+(1:Int))))] i))) (Q (.exit 0) [(2,.pointer (some a)),(3,.pointer (some b)),(4,.int .i64 c),(5,.int .i64 d)] w)
theorem bN.b1:(aW none [] prog 24 bN.k (lB (bB (sR (sL (sR (body f75)))))) bN.u1 Q [(2,.pointer (some a)),(3,.pointer (some b)),(4,.int .i64 c),(5,.int .i64 d)] w)=bN.B1 a b c d Q w:=by kernel_rfl
variable{a b}
theorem bN.cC(I:Int×Int->World->Prop)(μ:Int×Int->World->Nat)(s:Int×Int){Q:aO}{w:World}(h0:I s w)
 (round:∀s w,I s w->bN.B1 a b (s.1) (s.2) (bR (bN.e1 a b) I μ s w Q) w):Holds none [] prog 24 (.loop (lB (bB (sR (sL (sR (body f75))))))) Q (bN.e1 a b s) w:=
 bp ng mix (bN.e1 a b) I μ bN.k bN.u1 s (fun s Q w=>bN.B1 a b (s.1) (s.2) Q w) (fun s Q w=>bN.b1 a b (s.1) (s.2) Q w) h0 round
end
section
def bN.cU(a b:Addr)(c d:Int)(K:KT)(w:World):Prop:=
 K (.int .i64 0) w
variable(a b:Addr)(c d:Int)(K:KT)(w:World)
theorem bN.df:(bN.q1 K (.exit 0) [(2,.pointer (some a)),(3,.pointer (some b)),(4,.int .i64 c),(5,.int .i64 d)] w)=bN.cU a b c d K w:=by kernel_rfl
end
def gq.k:List Nat:= []
section
variable(a:OA)(b:AV)(K:KT)(w:World)
def gq.W:Prop:=
 let d:=w.alloc (.cells b 24);bC prog 124 #[.pointer a] d fun e f=>∃g:Bool,e=.bool g/\Split g (let i:=f.drew;Is a fun j:Addr=>∃k:Option Nat,i.cell? (j.add 1)=some (.map k)/\∃m:AV,(m.size=32/\Cells i (aP w.heap.size) m)/\∃n:Int,∃o:Bool,(Instr.lookup 127 (.map k) (.agg m) true).run prog i=.ok (.tuple #[.int .i64 n,.bool o]) i/\Split o (Is a fun p:Addr=>∃q:OA,∃r t:Nat,i.cell? (p.add 0)=some (.slice q r t)/\(0<=n/\n<(r:Int))/\Is q fun u:Addr=>∃v:OA,i.cell? (u.add (n.toNat*1))=some (.pointer v)/\K (.pointer v) i) (K (.pointer none) i)) (K (.pointer none) f)
variable{a b K w}
theorem gq.of(h:gq.W a b K w):bC prog 90 #[.pointer a,.agg b] w K:=
 rqq func90 (C:=gq.k) h
end
section
variable(a:Int)(b:OA)(K:KT)(w:World)
variable{a b K w}
end
def ai.k:List Nat:= []
def ai.q1(K:KT):aO:=(aL 0 (ck (aQ (sR (body f99)))++(aS f99)) (bV (fun b6 w_=>match cutAt ai.k (aQ (sR (body f99)))with|true=>Holds none [] prog 61 (aQ (sR (body f99))) (bS prog f99 K) b6 w_|false=>aW none [] prog 61 ai.k (aQ (sR (body f99))) (aS f99) (bS prog f99 K) b6 w_) (bS prog f99 K)))
def ai.e1(a:OA)(b c:Nat)(s:(OA)×Nat×Nat×Int):Env:= [(0,.slice a b c),(2,.slice s.1 s.2.1 s.2.2.1),(3,.int .i64 s.2.2.2)]
def ai.u1:List Nat:= [0,2,3]
def ai.q2(Q:aO):aO:=(aL 2 (ck (aQ (cT (sR (bB (sL (sR (lB (bB (sR (sL (aQ (body f99))))))))))))++(ck (aQ (lB (bB (sR (sL (aQ (body f99)))))))++ai.u1)) (bV (fun b6 w_=>match cutAt ai.k (aQ (cT (sR (bB (sL (sR (lB (bB (sR (sL (aQ (body f99))))))))))))with|true=>Holds none [] prog 61 (aQ (cT (sR (bB (sL (sR (lB (bB (sR (sL (aQ (body f99)))))))))))) (aL 1 (ck (aQ (lB (bB (sR (sL (aQ (body f99)))))))++ai.u1) (bV (fun b6 w_=>match cutAt ai.k (aQ (lB (bB (sR (sL (aQ (body f99)))))))with|true=>Holds none [] prog 61 (aQ (lB (bB (sR (sL (aQ (body f99))))))) Q b6 w_|false=>aW none [] prog 61 ai.k (aQ (lB (bB (sR (sL (aQ (body f99))))))) ai.u1 Q b6 w_) Q)) b6 w_|false=>aW none [] prog 61 ai.k (aQ (cT (sR (bB (sL (sR (lB (bB (sR (sL (aQ (body f99)))))))))))) (ck (aQ (lB (bB (sR (sL (aQ (body f99)))))))++ai.u1) (aL 1 (ck (aQ (lB (bB (sR (sL (aQ (body f99)))))))++ai.u1) (bV (fun b6 w_=>match cutAt ai.k (aQ (lB (bB (sR (sL (aQ (body f99)))))))with|true=>Holds none [] prog 61 (aQ (lB (bB (sR (sL (aQ (body f99))))))) Q b6 w_|false=>aW none [] prog 61 ai.k (aQ (lB (bB (sR (sL (aQ (body f99))))))) ai.u1 Q b6 w_) Q)) b6 w_) (aL 1 (ck (aQ (lB (bB (sR (sL (aQ (body f99)))))))++ai.u1) (bV (fun b6 w_=>match cutAt ai.k (aQ (lB (bB (sR (sL (aQ (body f99)))))))with|true=>Holds none [] prog 61 (aQ (lB (bB (sR (sL (aQ (body f99))))))) Q b6 w_|false=>aW none [] prog 61 ai.k (aQ (lB (bB (sR (sL (aQ (body f99))))))) ai.u1 Q b6 w_) Q))))
def ai.e2(a:OA)(b c:Nat)(d:OA)(e f:Nat)(g:OA)(i j:Nat)(s:Int×Int):Env:= [(0,.slice a b c),(2,.slice d e f),(3,.int .i64 s.1),(4,.slice g i j),(5,.int .i64 s.2)]
def ai.u2:List Nat:= [0,2,3,4,5]
section
variable(a:OA)(b d:Nat)(K:KT)(w:World)
def ai.W:Prop:=
 Split (decide ((b:Int)<(2:Int))) (K (.slice a b d) w) (Holds none [] prog 61 (.loop (lB (bB (sR (sL (aQ (body f99))))))) (ai.q1 K) [(0,.slice a b d),(2,.slice none 0 0),(3,.int .i64 1)] w)
variable{a b d K w}
theorem ai.of(h:ai.W a b d K w):bC prog 99 #[.slice a b d] w K:=
 rqq func99 (C:=ai.k) h
end
section
variable(a:OA)(b c:Nat)(d:OA)(e f:Nat)(g:Int)(Q:aO)(w:World)
def ai.B1:Prop:=
 Split (decide (g<(b:Int))) (let i:=w.drew;(0<=g/\g<(b:Int))/\Is a fun j:Addr=>∃k:AV,(k.size=32/\Cells i (j.add (g.toNat*32)) k)/\(0<=(i64.wrap (g-(1:Int)))/\(i64.wrap (g-(1:Int)))<(b:Int))/\Is a fun m:Addr=>∃n:AV,(n.size=32/\Cells i (m.add ((i64.wrap (g-(1:Int))).toNat*32)) n)/\(dJ .u8 32 k/\dJ .u8 32 n)/\Split (eU k n) ((0<=g/\g<=(b:Int))/\Holds none [] prog 61 (.loop (lB (bB (sR (sL (sR (cT (sR (bB (sL (sR (lB (bB (sR (sL (aQ (body f99))))))))))))))))) (ai.q2 Q) [(0,.slice a b c),(2,.slice d e f),(3,.int .i64 g),(4,.slice (if c=g.toNat then a else a.map (·.add (g.toNat*32))) (b-g.toNat) (c-g.toNat)),(5,.int .i64 1)] i) (Q .normal [(0,.slice a b c),(2,.slice d e f),(3,.int .i64 (i64.wrap (g+(1:Int))))] i)) (Q (.exit 0) [(0,.slice a b c),(2,.slice d e f),(3,.int .i64 g)] w)
theorem ai.b1:(aW none [] prog 61 ai.k (lB (bB (sR (sL (aQ (body f99)))))) ai.u1 Q [(0,.slice a b c),(2,.slice d e f),(3,.int .i64 g)] w)=ai.B1 a b c d e f g Q w:=by kernel_rfl
variable{a b c}
theorem ai.cC(I:(OA)×Nat×Nat×Int->World->Prop)(μ:(OA)×Nat×Nat×Int->World->Nat)(s:(OA)×Nat×Nat×Int){Q:aO}{w:World}(h0:I s w)
 (round:∀s w,I s w->ai.B1 a b c (s.1) (s.2.1) (s.2.2.1) (s.2.2.2) (bR (ai.e1 a b c) I μ s w Q) w):Holds none [] prog 61 (.loop (lB (bB (sR (sL (aQ (body f99))))))) Q (ai.e1 a b c s) w:=
 bp ng mix (ai.e1 a b c) I μ ai.k ai.u1 s (fun s Q w=>ai.B1 a b c (s.1) (s.2.1) (s.2.2.1) (s.2.2.2) Q w) (fun s Q w=>ai.b1 a b c (s.1) (s.2.1) (s.2.2.1) (s.2.2.2) Q w) h0 round
end
section
def ai.cU(a:OA)(b c:Nat)(d:OA)(e f:Nat)(g:Int)(K:KT)(w:World):Prop:=
 K (.slice a b c) w
variable(a:OA)(b c:Nat)(d:OA)(e f:Nat)(g:Int)(K:KT)(w:World)
theorem ai.df:(ai.q1 K (.exit 0) [(0,.slice a b c),(2,.slice d e f),(3,.int .i64 g)] w)=ai.cU a b c d e f g K w:=by kernel_rfl
end
section
variable(a:OA)(b c:Nat)(d:OA)(e f:Nat)(g:Int)(i:OA)(j k:Nat)(m:Int)(Q:aO)(w:World)
def ai.B2:Prop:=
 Split (decide (m<(j:Int))) (let n:=w.drew;(0<=m/\m<(j:Int))/\Is i fun o:Addr=>∃p:AV,(p.size=32/\Cells n (o.add (m.toNat*32)) p)/\(0<=(i64.wrap (m-(1:Int)))/\(i64.wrap (m-(1:Int)))<(j:Int))/\Is i fun q:Addr=>∃r:AV,(r.size=32/\Cells n (q.add ((i64.wrap (m-(1:Int))).toNat*32)) r)/\(dJ .u8 32 p/\dJ .u8 32 r)/\Split (!(eU p r)) ((0<=m/\m<(j:Int))/\Is i fun t:Addr=>∃u:AV,(u.size=32/\Cells n (t.add (m.toNat*32)) u)/\(0<=g/\g<(b:Int))/\Is a fun v:Addr=>(u.size=32/\(∀x∈u.toList,x.oneCell'=true)/\∀y,y<32->Wr n ((v.add (g.toNat*32)).add y))/\let z:=setCells n (v.add (g.toNat*32)) u.toList 0;Q .normal [(0,.slice a b c),(2,.slice d e f),(3,.int .i64 (i64.wrap (g+(1:Int)))),(4,.slice i j k),(5,.int .i64 (i64.wrap (m+(1:Int))))] z) (Q .normal [(0,.slice a b c),(2,.slice d e f),(3,.int .i64 g),(4,.slice i j k),(5,.int .i64 (i64.wrap (m+(1:Int))))] n)) (Q (.exit 2) [(0,.slice a b c),(2,.slice d e f),(3,.int .i64 g),(4,.slice i j k),(5,.int .i64 m)] w)
theorem ai.b2:(aW none [] prog 61 ai.k (lB (bB (sR (sL (sR (cT (sR (bB (sL (sR (lB (bB (sR (sL (aQ (body f99)))))))))))))))) ai.u2 Q [(0,.slice a b c),(2,.slice d e f),(3,.int .i64 g),(4,.slice i j k),(5,.int .i64 m)] w)=ai.B2 a b c d e f g i j k m Q w:=by kernel_rfl
variable{a b c d e f i j k}
theorem ai.gU(I:Int×Int->World->Prop)(μ:Int×Int->World->Nat)(s:Int×Int){Q:aO}{w:World}(h0:I s w)
 (round:∀s w,I s w->ai.B2 a b c d e f (s.1) i j k (s.2) (bR (ai.e2 a b c d e f i j k) I μ s w Q) w):Holds none [] prog 61 (.loop (lB (bB (sR (sL (sR (cT (sR (bB (sL (sR (lB (bB (sR (sL (aQ (body f99))))))))))))))))) Q (ai.e2 a b c d e f i j k s) w:=
 bp ng mix (ai.e2 a b c d e f i j k) I μ ai.k ai.u2 s (fun s Q w=>ai.B2 a b c d e f (s.1) i j k (s.2) Q w) (fun s Q w=>ai.b2 a b c d e f (s.1) i j k (s.2) Q w) h0 round
end
section
def ai.iN(a:OA)(b c:Nat)(d:OA)(e f:Nat)(g:Int)(i:OA)(j k:Nat)(m:Int)(Q:aO)(w:World):Prop:=
 (0<=g/\g<=(b:Int))/\∃(n:Value) (o:World),(Builtin.clear_ #[33] 0 #[.slice (if c=g.toNat then a else a.map (·.add (g.toNat*32))) (b-g.toNat) (c-g.toNat)]).run prog w=.ok n o/\(0<=g/\g<=(c:Int))/\Q .ret [(0,.slice a b c),(2,.slice (if c=0 then a else a.map (·.add (0*32))) (g.toNat-0) (c-0)),(3,.int .i64 g)] o
variable(a:OA)(b c:Nat)(d:OA)(e f:Nat)(g:Int)(i:OA)(j k:Nat)(m:Int)(Q:aO)(w:World)
theorem ai.jN:(ai.q2 Q (.exit 2) [(0,.slice a b c),(2,.slice d e f),(3,.int .i64 g),(4,.slice i j k),(5,.int .i64 m)] w)=ai.iN a b c d e f g i j k m Q w:=by kernel_rfl
end
def dI.k:List Nat:= []
section
variable(a b:AV)(K:KT)(w:World)
def dI.W:Prop:=
 let d:=w.alloc (.cells a 24);let e:=d.alloc (.cells b 24);let f:=e.drew;bC prog 138 #[.slice (some (if 32=0 then(aP w.heap.size)else(aP w.heap.size).add (0*1))) (32-0) (32-0),.slice (some (if 32=0 then(aP d.heap.size)else(aP d.heap.size).add (0*1))) (32-0) (32-0)] f fun g i=>∃j:Int,g=.int .i64 j/\K (.int .i64 j) i
variable{a b K w}
theorem dI.of(h:dI.W a b K w):bC prog 102 #[.agg a,.agg b] w K:=
 rqq func102 (C:=dI.k) h
end
def gD.k:List Nat:= []
section
variable(a:OA)(K:KT)(w:World)
def gD.W:Prop:=
 Split (!(a).isNone) (Is a fun b:Addr=>∃d:Option Nat,w.cell? (b.add 1)=some (.map d)/\K (.bool (!(d).isNone)) w) (K (.bool false) w)
variable{a K w}
theorem gD.of(h:gD.W a K w):bC prog 124 #[.pointer a] w K:=
 rqq func124 (C:=gD.k) h
end
def iE.k:List Nat:= []
section
variable(a:OA)(b d:Nat)(e:OA)(f g:Nat)(K:KT)(w:World)
def iE.W:Prop:=
 EX prog 157 #[.slice a b d,.slice e f g] w fun i j=>∃k:Int,i=.int .i64 k/\K (.int .i64 k) j
variable{a b d e f g K w}
theorem iE.of(h:iE.W a b d e f g K w):bC prog 138 #[.slice a b d,.slice e f g] w K:=
 rqq func138 (C:=iE.k) h
end
def cG.k:List Nat:= []
def cG.q1(K:KT):aO:=(aL 0 (ck (aQ (body f143))++(aS f143)) (bV (fun b6 w_=>match cutAt cG.k (aQ (body f143))with|true=>Holds none [] prog 30 (aQ (body f143)) (bS prog f143 K) b6 w_|false=>aW none [] prog 30 cG.k (aQ (body f143)) (aS f143) (bS prog f143 K) b6 w_) (bS prog f143 K)))
def cG.e1(a:OA)(b c:Nat)(d:OA)(e f:Nat)(g:Int)(s:(OA)×Nat×Nat×Int):Env:= [(0,.slice s.1 s.2.1 s.2.2.1),(4,.slice a b c),(7,.slice d e f),(8,.int .i64 g),(9,.int .i64 s.2.2.2)]
def cG.u1:List Nat:= [0,4,7,8,9]
section
variable(a:OA)(b d:Nat)(e:OA)(f g:Nat)(K:KT)(w:World)
def cG.W:Prop:=
 Holds none [] prog 30 (.loop (lB (bB (sR (sL (sR (body f143))))))) (cG.q1 K) [(0,.slice a b d),(4,.slice none 0 0),(7,.slice e f g),(8,.int .i64 (f:Int)),(9,.int .i64 0)] w
variable{a b d e f g K w}
theorem cG.of(h:cG.W a b d e f g K w):bC prog 143 #[.slice a b d,.slice e f g] w K:=
 rqq func143 (C:=cG.k) h
end
section
variable(a:OA)(b c:Nat)(d:OA)(e f:Nat)(g:OA)(i j:Nat)(k m:Int)(Q:aO)(w:World)
def cG.B1:Prop:=
 Split (decide (m<k)) ((0<=m/\m<(i:Int))/\Is g fun n:Addr=>∃o:Int,w.cell? (n.add (m.toNat*1))=some (.int .u64 o)/\Split (m==(b:Int)) (let p:=w.alloc (.cells #[.int .u64 0] 22);∃(q:OA) (r t:Nat) (u:World),(Builtin.append_ #[143,143] 143 #[.slice a b c,.slice (some (aP w.heap.size)) 1 1]).run prog p=.ok (.slice q r t) u/\(0<=m/\m<(r:Int))/\Is q fun v:Addr=>∃x:Int,u.cell? (v.add (m.toNat*1))=some (.int .u64 x)/\(0<=m/\m<(r:Int))/\Is q fun y:Addr=>Wr u (y.add (m.toNat*1))/\let z:=u.setCell (y.add (m.toNat*1)) (.int .u64 (u64.wrap ((BitVec.ofInt 64 x|||BitVec.ofInt 64 o).toNat)));Q .normal [(0,.slice q r t),(4,.slice d e f),(7,.slice g i j),(8,.int .i64 k),(9,.int .i64 (i64.wrap (m+(1:Int))))] z) ((0<=m/\m<(b:Int))/\Is a fun a1:Addr=>∃b1:Int,w.cell? (a1.add (m.toNat*1))=some (.int .u64 b1)/\(0<=m/\m<(b:Int))/\Is a fun c1:Addr=>Wr w (c1.add (m.toNat*1))/\let d1:=w.setCell (c1.add (m.toNat*1)) (.int .u64 (u64.wrap ((BitVec.ofInt 64 b1|||BitVec.ofInt 64 o).toNat)));Q .normal [(0,.slice a b c),(4,.slice d e f),(7,.slice g i j),(8,.int .i64 k),(9,.int .i64 (i64.wrap (m+(1:Int))))] d1)) (Q (.exit 0) [(0,.slice a b c),(4,.slice d e f),(7,.slice g i j),(8,.int .i64 k),(9,.int .i64 m)] w)
theorem cG.b1:(aW none [] prog 30 cG.k (lB (bB (sR (sL (sR (body f143)))))) cG.u1 Q [(0,.slice a b c),(4,.slice d e f),(7,.slice g i j),(8,.int .i64 k),(9,.int .i64 m)] w)=cG.B1 a b c d e f g i j k m Q w:=by kernel_rfl
variable{d e f g i j k}
theorem cG.cC(I:(OA)×Nat×Nat×Int->World->Prop)(μ:(OA)×Nat×Nat×Int->World->Nat)(s:(OA)×Nat×Nat×Int){Q:aO}{w:World}(h0:I s w)
 (round:∀s w,I s w->cG.B1 (s.1) (s.2.1) (s.2.2.1) d e f g i j k (s.2.2.2) (bR (cG.e1 d e f g i j k) I μ s w Q) w):Holds none [] prog 30 (.loop (lB (bB (sR (sL (sR (body f143))))))) Q (cG.e1 d e f g i j k s) w:=
 bp ng mix (cG.e1 d e f g i j k) I μ cG.k cG.u1 s (fun s Q w=>cG.B1 (s.1) (s.2.1) (s.2.2.1) d e f g i j k (s.2.2.2) Q w) (fun s Q w=>cG.b1 (s.1) (s.2.1) (s.2.2.1) d e f g i j k (s.2.2.2) Q w) h0 round
end
section
def cG.cU(a:OA)(b c:Nat)(d:OA)(e f:Nat)(g:OA)(i j:Nat)(k m:Int)(K:KT)(w:World):Prop:=
 K (.slice a b c) w
variable(a:OA)(b c:Nat)(d:OA)(e f:Nat)(g:OA)(i j:Nat)(k m:Int)(K:KT)(w:World)
theorem cG.df:(cG.q1 K (.exit 0) [(0,.slice a b c),(4,.slice d e f),(7,.slice g i j),(8,.int .i64 k),(9,.int .i64 m)] w)=cG.cU a b c d e f g i j k m K w:=by kernel_rfl
end
def eR.k:List Nat:= []
section
variable(a:AV)(b:Addr)(K:KT)(w:World)
def eR.W:Prop:=
 let d:=w.alloc (.cells a 24);∃e:OA,d.cell? b=some (.pointer e)/\∃f:AV,(f.size=32/\Cells d (aP w.heap.size) f)/\bC prog 47 #[.pointer e,.agg f] d fun g i=>∃j:Bool,g=.bool j/\K (.bool (!j)) i
variable{a b K w}
theorem eR.of(h:eR.W a b K w):bC prog 145 #[.agg a,.pointer (some b)] w K:=
 rqq func145 (C:=eR.k) h
end
def bT.k:List Nat:= []
def bT.q1(K:KT):aO:=(aL 0 (ck (aQ (body f146))++(aS f146)) (bV (fun b6 w_=>match cutAt bT.k (aQ (body f146))with|true=>Holds none [] prog 24 (aQ (body f146)) (bS prog f146 K) b6 w_|false=>aW none [] prog 24 bT.k (aQ (body f146)) (aS f146) (bS prog f146 K) b6 w_) (bS prog f146 K)))
def bT.e1(a:Int)(b:OA)(c d:Nat)(s:(OA)×Nat×Nat):Env:= [(0,.slice s.1 s.2.1 s.2.2),(1,.int .i64 a),(4,.slice b c d)]
def bT.u1:List Nat:= [0,1,4]
section
variable(a:OA)(b d:Nat)(e:Int)(K:KT)(w:World)
def bT.W:Prop:=
 Holds none [] prog 24 (.loop (lB (bB (sL (sR (body f146)))))) (bT.q1 K) [(0,.slice a b d),(1,.int .i64 e),(4,.slice none 0 0)] w
variable{a b d e K w}
theorem bT.of(h:bT.W a b d e K w):bC prog 146 #[.slice a b d,.int .i64 e] w K:=
 rqq func146 (C:=bT.k) h
end
section
variable(a:OA)(b c:Nat)(d:Int)(e:OA)(f g:Nat)(Q:aO)(w:World)
def bT.B1:Prop:=
 (64:Int)≠0/\Split (decide ((b:Int)<=(i64.wrap (d.tdiv (64:Int))))) (let i:=w.alloc (.cells #[.int .u64 0] 22);∃(j:OA) (k m:Nat) (n:World),(Builtin.append_ #[143,143] 143 #[.slice a b c,.slice (some (aP w.heap.size)) 1 1]).run prog i=.ok (.slice j k m) n/\Q .normal [(0,.slice j k m),(1,.int .i64 d),(4,.slice e f g)] n) (Q (.exit 0) [(0,.slice a b c),(1,.int .i64 d),(4,.slice e f g)] w)
theorem bT.b1:(aW none [] prog 24 bT.k (lB (bB (sL (sR (body f146))))) bT.u1 Q [(0,.slice a b c),(1,.int .i64 d),(4,.slice e f g)] w)=bT.B1 a b c d e f g Q w:=by kernel_rfl
variable{d e f g}
theorem bT.cC(I:(OA)×Nat×Nat->World->Prop)(μ:(OA)×Nat×Nat->World->Nat)(s:(OA)×Nat×Nat){Q:aO}{w:World}(h0:I s w)
 (round:∀s w,I s w->bT.B1 (s.1) (s.2.1) (s.2.2) d e f g (bR (bT.e1 d e f g) I μ s w Q) w):Holds none [] prog 24 (.loop (lB (bB (sL (sR (body f146)))))) Q (bT.e1 d e f g s) w:=
 bp ng mix (bT.e1 d e f g) I μ bT.k bT.u1 s (fun s Q w=>bT.B1 (s.1) (s.2.1) (s.2.2) d e f g Q w) (fun s Q w=>bT.b1 (s.1) (s.2.1) (s.2.2) d e f g Q w) h0 round
end
section
def bT.cU(a:OA)(b c:Nat)(d:Int)(e:OA)(f g:Nat)(K:KT)(w:World):Prop:=
 let i:=w.drew;(64:Int)≠0/\(0<=(i64.wrap (d.tdiv (64:Int)))/\(i64.wrap (d.tdiv (64:Int)))<(b:Int))/\Is a fun j:Addr=>∃k:Int,i.cell? (j.add ((i64.wrap (d.tdiv (64:Int))).toNat*1))=some (.int .u64 k)/\(64:Int)≠0/\0<=(d.tmod (64:Int))/\(0<=(i64.wrap (d.tdiv (64:Int)))/\(i64.wrap (d.tdiv (64:Int)))<(b:Int))/\Is a fun m:Addr=>Wr i (m.add ((i64.wrap (d.tdiv (64:Int))).toNat*1))/\let n:=i.setCell (m.add ((i64.wrap (d.tdiv (64:Int))).toNat*1)) (.int .u64 (u64.wrap ((BitVec.ofInt 64 k|||BitVec.ofInt 64 (u64.wrap ((1:Int)*2 ^ (min (d.tmod (64:Int)).toNat 64)))).toNat)));K (.slice a b c) n
variable(a:OA)(b c:Nat)(d:Int)(e:OA)(f g:Nat)(K:KT)(w:World)
theorem bT.df:(bT.q1 K (.exit 0) [(0,.slice a b c),(1,.int .i64 d),(4,.slice e f g)] w)=bT.cU a b c d e f g K w:=by kernel_rfl
end
section
variable(a:OA)(K:KT)(w:World)
variable{a K w}
end
section
variable(a:OA)(b c:Nat)(d:OA)(e f:Nat)(g:OA)(i j:Nat)(k m:Int)(Q:aO)(w:World)
variable{a b c g i j k}
end
section
variable(a:OA)(b c:Nat)(d:OA)(e f:Nat)(g:OA)(i j:Nat)(k m:Int)(K:KT)(w:World)
end
def aw.k:List Nat:= []
def aw.q1(K:KT):aO:=(aL 0 (ck (aQ (body f91))++(aS f91)) (bV (fun b6 w_=>match cutAt aw.k (aQ (body f91))with|true=>Holds none [] prog 19 (aQ (body f91)) (bS prog f91 K) b6 w_|false=>aW none [] prog 19 aw.k (aQ (body f91)) (aS f91) (bS prog f91 K) b6 w_) (bS prog f91 K)))
def aw.e1(a:OA)(b c:Nat)(d:Addr)(e:Int)(s:Int×Int):Env:= [(0,.slice a b c),(1,.func (.func 145) #[] #[.pointer (some d)]),(4,.int .i64 s.1),(7,.int .i64 e),(8,.int .i64 s.2)]
def aw.u1:List Nat:= [0,1,4,7,8]
section
variable(a:OA)(b d:Nat)(e:Addr)(K:KT)(w:World)
def aw.W:Prop:=
 Holds none [] prog 19 (.loop (lB (bB (sR (sL (sR (body f91))))))) (aw.q1 K) [(0,.slice a b d),(1,.func (.func 145) #[] #[.pointer (some e)]),(4,.int .i64 0),(7,.int .i64 (b:Int)),(8,.int .i64 0)] w
variable{a b d e K w}
theorem aw.of(h:aw.W a b d e K w):bC prog 91 #[.slice a b d,.func (.func 145) #[] #[.pointer (some e)]] w K:=
 rqq func91 (C:=aw.k) h
end
section
variable(a:OA)(b c:Nat)(d:Addr)(e f g:Int)(Q:aO)(w:World)
def aw.B1:Prop:=
 Split (decide (g<f)) ((0<=g/\g<(b:Int))/\Is a fun i:Addr=>∃j:AV,(j.size=32/\Cells w (i.add (g.toNat*32)) j)/\bC prog 145 #[.agg j,.pointer (some d)] w fun k m=>∃n:Bool,k=.bool n/\Split n (Q .ret [(0,.slice a b c),(1,.func (.func 145) #[] #[.pointer (some d)]),(4,.int .i64 g),(7,.int .i64 f),(8,.int .i64 g)] m) (Q .normal [(0,.slice a b c),(1,.func (.func 145) #[] #[.pointer (some d)]),(4,.int .i64 e),(7,.int .i64 f),(8,.int .i64 (i64.wrap (g+(1:Int))))] m)) (Q (.exit 0) [(0,.slice a b c),(1,.func (.func 145) #[] #[.pointer (some d)]),(4,.int .i64 e),(7,.int .i64 f),(8,.int .i64 g)] w)
theorem aw.b1:(aW none [] prog 19 aw.k (lB (bB (sR (sL (sR (body f91)))))) aw.u1 Q [(0,.slice a b c),(1,.func (.func 145) #[] #[.pointer (some d)]),(4,.int .i64 e),(7,.int .i64 f),(8,.int .i64 g)] w)=aw.B1 a b c d e f g Q w:=by kernel_rfl
variable{a b c d f}
theorem aw.cC(I:Int×Int->World->Prop)(μ:Int×Int->World->Nat)(s:Int×Int){Q:aO}{w:World}(h0:I s w)
 (round:∀s w,I s w->aw.B1 a b c d (s.1) f (s.2) (bR (aw.e1 a b c d f) I μ s w Q) w):Holds none [] prog 19 (.loop (lB (bB (sR (sL (sR (body f91))))))) Q (aw.e1 a b c d f s) w:=
 bp ng mix (aw.e1 a b c d f) I μ aw.k aw.u1 s (fun s Q w=>aw.B1 a b c d (s.1) f (s.2) Q w) (fun s Q w=>aw.b1 a b c d (s.1) f (s.2) Q w) h0 round
end
section
def aw.cU(a:OA)(b c:Nat)(d:Addr)(e f g:Int)(K:KT)(w:World):Prop:=
 K (.int .i64 (-1)) w
variable(a:OA)(b c:Nat)(d:Addr)(e f g:Int)(K:KT)(w:World)
theorem aw.df:(aw.q1 K (.exit 0) [(0,.slice a b c),(1,.func (.func 145) #[] #[.pointer (some d)]),(4,.int .i64 e),(7,.int .i64 f),(8,.int .i64 g)] w)=aw.cU a b c d e f g K w:=by kernel_rfl
end
def cD.k:List Nat:= []
section
variable(a:OA)(b d:Nat)(e:Addr)(K:KT)(w:World)
def cD.W:Prop:=
 bC prog 91 #[.slice a b d,.func (.func 145) #[] #[.pointer (some e)]] w fun f g=>∃i:Int,f=.int .i64 i/\K (.bool (decide (i>=(0:Int)))) g
variable{a b d e K w}
theorem cD.of(h:cD.W a b d e K w):bC prog 68 #[.slice a b d,.func (.func 145) #[] #[.pointer (some e)]] w K:=
 rqq func68 (C:=cD.k) h
end
def aJ.k:List Nat:= []
def aJ.q1(K:KT):aO:=(aL 0 (aS f158) (bS prog f158 K))
def aJ.e1(a:Nat)(b:OA)(c d:Nat)(e s:Int):Env:= [(0,.func (.yield a) #[] #[]),(5,.slice b c d),(6,.int .i64 e),(7,.int .i64 s)]
def aJ.u1:List Nat:= [0,5,6,7]
def aJ.q2(Q:aO):aO:=(aL 2 (ck (aQ (sR (lB (bB (sR (body f158))))))++aJ.u1) (aL 1 (ck (aQ (sR (lB (bB (sR (body f158))))))++aJ.u1) (bV (fun b6 w_=>match cutAt aJ.k (aQ (sR (lB (bB (sR (body f158))))))with|true=>Holds none [] prog 27 (aQ (sR (lB (bB (sR (body f158)))))) Q b6 w_|false=>aW none [] prog 27 aJ.k (aQ (sR (lB (bB (sR (body f158)))))) aJ.u1 Q b6 w_) Q)))
def aJ.e2(a:Nat)(b:Int)(c:OA)(d e:Nat)(f g s:Int):Env:= [(0,.func (.yield a) #[] #[]),(3,.int .i64 b),(4,.int .u64 s),(5,.slice c d e),(6,.int .i64 f),(7,.int .i64 g)]
def aJ.u2:List Nat:= [0,3,4,5,6,7]
section
variable(a:Nat)(b:Addr)(K:KT)(w:World)
def aJ.W:Prop:=
 ∃d:OA,∃e f:Nat,w.cell? b=some (.slice d e f)/\Holds none [] prog 27 (.loop (lB (bB (sR (body f158))))) (aJ.q1 K) [(0,.func (.yield a) #[] #[]),(5,.slice d e f),(6,.int .i64 (e:Int)),(7,.int .i64 0)] w
variable{a b K w}
theorem aJ.of(h:aJ.W a b K w):bC prog 158 #[.func (.yield a) #[] #[],.pointer (some b)] w K:=
 rqq func158 (C:=aJ.k) h
end
section
variable(a:Nat)(b:OA)(c d:Nat)(e f:Int)(Q:aO)(w:World)
def aJ.B1:Prop:=
 Split (decide (f<e)) ((0<=f/\f<(c:Int))/\Is b fun g:Addr=>∃i:Int,w.cell? (g.add (f.toNat*1))=some (.int .u64 i)/\Holds none [] prog 27 (.loop (lB (bB (sR (bB (sL (aQ (lB (bB (sR (body f158))))))))))) (aJ.q2 Q) [(0,.func (.yield a) #[] #[]),(3,.int .i64 f),(4,.int .u64 i),(5,.slice b c d),(6,.int .i64 e),(7,.int .i64 f)] w) (Q (.exit 0) [(0,.func (.yield a) #[] #[]),(5,.slice b c d),(6,.int .i64 e),(7,.int .i64 f)] w)
theorem aJ.b1:(aW none [] prog 27 aJ.k (lB (bB (sR (body f158)))) aJ.u1 Q [(0,.func (.yield a) #[] #[]),(5,.slice b c d),(6,.int .i64 e),(7,.int .i64 f)] w)=aJ.B1 a b c d e f Q w:=by kernel_rfl
variable{a b c d e}
theorem aJ.cC(I:Int->World->Prop)(μ:Int->World->Nat)(s:Int){Q:aO}{w:World}(h0:I s w)
 (round:∀s w,I s w->aJ.B1 a b c d e s (bR (aJ.e1 a b c d e) I μ s w Q) w):Holds none [] prog 27 (.loop (lB (bB (sR (body f158))))) Q (aJ.e1 a b c d e s) w:=
 bp ng mix (aJ.e1 a b c d e) I μ aJ.k aJ.u1 s (fun s Q w=>aJ.B1 a b c d e s Q w) (fun s Q w=>aJ.b1 a b c d e s Q w) h0 round
end
section
def aJ.cU(a:Nat)(b:OA)(c d:Nat)(e f:Int)(K:KT)(w:World):Prop:=
 K (.tuple #[]) w
variable(a:Nat)(b:OA)(c d:Nat)(e f:Int)(K:KT)(w:World)
theorem aJ.df:(aJ.q1 K (.exit 0) [(0,.func (.yield a) #[] #[]),(5,.slice b c d),(6,.int .i64 e),(7,.int .i64 f)] w)=aJ.cU a b c d e f K w:=by kernel_rfl
end
section
variable(a:Nat)(b c:Int)(d:OA)(e f:Nat)(g i:Int)(Q:aO)(w:World)
def aJ.B2:Prop:=
 Split (c != (0:Int)) (bC prog 159 #[.int .u64 c] w fun j k=>∃m:Int,j=.int .i64 m/\jz prog a #[.int .i64 (i64.wrap ((i64.wrap ((64:Int)*b))+m))] k fun n o=>Split (!n) (Q .ret [(0,.func (.yield a) #[] #[]),(3,.int .i64 b),(4,.int .u64 c),(5,.slice d e f),(6,.int .i64 g),(7,.int .i64 i)] o) (Q .normal [(0,.func (.yield a) #[] #[]),(3,.int .i64 b),(4,.int .u64 (u64.wrap ((BitVec.ofInt 64 c&&& BitVec.ofInt 64 (u64.wrap (c-(1:Int)))).toNat))),(5,.slice d e f),(6,.int .i64 g),(7,.int .i64 i)] o)) (Q (.exit 2) [(0,.func (.yield a) #[] #[]),(3,.int .i64 b),(4,.int .u64 c),(5,.slice d e f),(6,.int .i64 g),(7,.int .i64 i)] w)
theorem aJ.b2:(aW none [] prog 27 aJ.k (lB (bB (sR (bB (sL (aQ (lB (bB (sR (body f158)))))))))) aJ.u2 Q [(0,.func (.yield a) #[] #[]),(3,.int .i64 b),(4,.int .u64 c),(5,.slice d e f),(6,.int .i64 g),(7,.int .i64 i)] w)=aJ.B2 a b c d e f g i Q w:=by kernel_rfl
variable{a b d e f g i}
theorem aJ.gU(I:Int->World->Prop)(μ:Int->World->Nat)(s:Int){Q:aO}{w:World}(h0:I s w)
 (round:∀s w,I s w->aJ.B2 a b s d e f g i (bR (aJ.e2 a b d e f g i) I μ s w Q) w):Holds none [] prog 27 (.loop (lB (bB (sR (bB (sL (aQ (lB (bB (sR (body f158))))))))))) Q (aJ.e2 a b d e f g i s) w:=
 bp ng mix (aJ.e2 a b d e f g i) I μ aJ.k aJ.u2 s (fun s Q w=>aJ.B2 a b s d e f g i Q w) (fun s Q w=>aJ.b2 a b s d e f g i Q w) h0 round
end
section
def aJ.iN(a:Nat)(b c:Int)(d:OA)(e f:Nat)(g i:Int)(Q:aO)(w:World):Prop:=
 Q .normal [(0,.func (.yield a) #[] #[]),(5,.slice d e f),(6,.int .i64 g),(7,.int .i64 (i64.wrap (i+(1:Int))))] w
variable(a:Nat)(b c:Int)(d:OA)(e f:Nat)(g i:Int)(Q:aO)(w:World)
theorem aJ.jN:(aJ.q2 Q (.exit 2) [(0,.func (.yield a) #[] #[]),(3,.int .i64 b),(4,.int .u64 c),(5,.slice d e f),(6,.int .i64 g),(7,.int .i64 i)] w)=aJ.iN a b c d e f g i Q w:=by kernel_rfl
end
def aG.k:List Nat:= []
def aG.q1(K:KT):aO:=(aL 0 (aS f137) (bS prog f137 K))
def aG.e1(a:Nat)(b:OA)(c d:Nat)(e s:Int):Env:= [(0,.func (.yield a) #[] #[]),(5,.slice b c d),(6,.int .i64 e),(7,.int .i64 s)]
def aG.u1:List Nat:= [0,5,6,7]
section
variable(a:Nat)(b:Addr)(K:KT)(w:World)
def aG.W:Prop:=
 ∃d:OA,∃e f:Nat,w.cell? b=some (.slice d e f)/\Holds none [] prog 16 (.loop (lB (bB (sR (body f137))))) (aG.q1 K) [(0,.func (.yield a) #[] #[]),(5,.slice d e f),(6,.int .i64 (e:Int)),(7,.int .i64 0)] w
variable{a b K w}
theorem aG.of(h:aG.W a b K w):bC prog 137 #[.func (.yield a) #[] #[],.pointer (some b)] w K:=
 rqq func137 (C:=aG.k) h
end
section
variable(a:Nat)(b:OA)(c d:Nat)(e f:Int)(Q:aO)(w:World)
def aG.B1:Prop:=
 Split (decide (f<e)) ((0<=f/\f<(c:Int))/\Is b fun g:Addr=>∃i:AV,(i.size=32/\Cells w (g.add (f.toNat*32)) i)/\let j:=w.alloc (.cells zH 24);(i.size=32/\(∀k∈i.toList,k.oneCell'=true)/\∀m,m<32->Wr j ((aP w.heap.size).add m))/\let n:=setCells j (aP w.heap.size) i.toList 0;∃o:AV,(o.size=32/\Cells n (aP w.heap.size) o)/\jz prog a #[.agg o] n fun p q=>Split (!p) (Q .ret [(0,.func (.yield a) #[] #[]),(5,.slice b c d),(6,.int .i64 e),(7,.int .i64 f)] q) (Q .normal [(0,.func (.yield a) #[] #[]),(5,.slice b c d),(6,.int .i64 e),(7,.int .i64 (i64.wrap (f+(1:Int))))] q)) (Q (.exit 0) [(0,.func (.yield a) #[] #[]),(5,.slice b c d),(6,.int .i64 e),(7,.int .i64 f)] w)
theorem aG.b1:(aW none [] prog 16 aG.k (lB (bB (sR (body f137)))) aG.u1 Q [(0,.func (.yield a) #[] #[]),(5,.slice b c d),(6,.int .i64 e),(7,.int .i64 f)] w)=aG.B1 a b c d e f Q w:=by kernel_rfl
variable{a b c d e}
theorem aG.cC(I:Int->World->Prop)(μ:Int->World->Nat)(s:Int){Q:aO}{w:World}(h0:I s w)
 (round:∀s w,I s w->aG.B1 a b c d e s (bR (aG.e1 a b c d e) I μ s w Q) w):Holds none [] prog 16 (.loop (lB (bB (sR (body f137))))) Q (aG.e1 a b c d e s) w:=
 bp ng mix (aG.e1 a b c d e) I μ aG.k aG.u1 s (fun s Q w=>aG.B1 a b c d e s Q w) (fun s Q w=>aG.b1 a b c d e s Q w) h0 round
end
section
def aG.cU(a:Nat)(b:OA)(c d:Nat)(e f:Int)(K:KT)(w:World):Prop:=
 K (.tuple #[]) w
variable(a:Nat)(b:OA)(c d:Nat)(e f:Int)(K:KT)(w:World)
theorem aG.df:(aG.q1 K (.exit 0) [(0,.func (.yield a) #[] #[]),(5,.slice b c d),(6,.int .i64 e),(7,.int .i64 f)] w)=aG.cU a b c d e f K w:=by kernel_rfl
end
end Go.Proofs.YtfleamccglihoaaGreatDoor
