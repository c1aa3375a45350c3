import Derived.Test.YtnboahlopghcjaaGreatDoorProg
import Derived.Test.YtnboahlopghcjaaGreatDoorMA
open Go.IntKind (i64 u64)
set_option linter.unusedVariables false
namespace Go.Proofs.YtnboahlopghcjaaGreatDoor
open Go.Proofs.Tryz
open Go Go.bT
abbrev OA:=Option Addr
abbrev AV:=Array Value
abbrev KT:=Value->World->Prop
abbrev zH:Array Value:= #[.int .u8 0,.int .u8 0,.int .u8 0,.int .u8 0,.int .u8 0,.int .u8 0,.int .u8 0,.int .u8 0,.int .u8 0,.int .u8 0,.int .u8 0,.int .u8 0,.int .u8 0,.int .u8 0,.int .u8 0,.int .u8 0,.int .u8 0,.int .u8 0,.int .u8 0,.int .u8 0,.int .u8 0,.int .u8 0,.int .u8 0,.int .u8 0,.int .u8 0,.int .u8 0,.int .u8 0,.int .u8 0,.int .u8 0,.int .u8 0,.int .u8 0,.int .u8 0]
abbrev zC:Array Value:= #[.int .u8 0,.int .u8 0,.int .u8 0,.int .u8 0,.int .u8 0,.int .u8 0,.int .u8 0,.int .u8 0,.int .u8 0,.int .u8 0,.int .u8 0,.int .u8 0,.int .u8 0,.int .u8 0,.int .u8 0,.int .u8 0,.int .u8 0,.int .u8 0,.int .u8 0,.int .u8 0,.int .u8 0,.int .u8 0,.int .u8 0,.int .u8 0,.int .u8 0,.int .u8 0,.int .u8 0,.int .u8 0,.int .u8 0,.int .u8 0,.int .u8 0,.int .u8 0,.int .u64 0,.slice none 0 0,.slice none 0 0]
abbrev zS:Array Value:= #[.int .u8 0,.int .u8 0,.int .u8 0,.int .u8 0,.int .u8 0,.int .u8 0,.int .u8 0,.int .u8 0,.int .u8 0,.int .u8 0,.int .u8 0,.int .u8 0,.int .u8 0,.int .u8 0,.int .u8 0,.int .u8 0,.int .u8 0,.int .u8 0,.int .u8 0,.int .u8 0,.int .u8 0,.int .u8 0,.int .u8 0,.int .u8 0,.int .u8 0,.int .u8 0,.int .u8 0,.int .u8 0,.int .u8 0,.int .u8 0,.int .u8 0,.int .u8 0,.int .u64 0,.slice none 0 0,.slice none 0 0,.map none]
abbrev iO:Nat:=3
abbrev gh:Nat:=4
abbrev iD:Nat:=5
abbrev aj:Nat:=23
abbrev cj:Nat:=24
abbrev im:Nat:=25
abbrev gQ:Nat:=28
abbrev aA:Nat:=35
abbrev cu:Nat:=36
abbrev ie:Nat:=38
abbrev jl:Nat:=40
abbrev tR:Nat:=42
abbrev fK:Nat:=43
abbrev gD:Nat:=45
abbrev bM:Nat:=48
abbrev iF:Nat:=49
abbrev gB:Nat:=50
abbrev bg:Nat:=52
abbrev ga:Nat:=73
abbrev dr:Nat:=76
abbrev kK:Nat:=77
abbrev e9:Nat:=80
abbrev gg:Nat:=82
abbrev fj:Nat:=88
abbrev cr:Nat:=89
abbrev dV:Nat:=91
abbrev fu:Nat:=98
abbrev fk:Nat:=107
abbrev cM:Nat:=109
abbrev iG:Nat:=113
abbrev eZ:Nat:=115
abbrev sY:Nat:=128
abbrev kX:Nat:=129
abbrev fU:Nat:=140
abbrev fV:Nat:=141
abbrev mB:Nat:=143
abbrev dc:Nat:=146
abbrev AZ:Nat:=147
abbrev ko:Nat:=148
abbrev dg:Nat:=150
abbrev wq:Nat:=187
abbrev af.id:Nat:=7
abbrev ct.id:Nat:=9
abbrev gw.id:Nat:=10
abbrev aG.id:Nat:=11
abbrev ij.id:Nat:=12
abbrev cG.id:Nat:=13
abbrev di.id:Nat:=14
abbrev eE.id:Nat:=15
abbrev b0.id:Nat:=16
abbrev dp.id:Nat:=18
abbrev bk.id:Nat:=19
abbrev aV.id:Nat:=20
abbrev ae.id:Nat:=21
abbrev dM.id:Nat:=22
abbrev eh.id:Nat:=25
abbrev aF.id:Nat:=26
abbrev bW.id:Nat:=27
abbrev aK.id:Nat:=28
abbrev ee.id:Nat:=31
abbrev eo.id:Nat:=32
abbrev eQ.id:Nat:=34
abbrev ek.id:Nat:=35
abbrev gX.id:Nat:=36
abbrev jD.id:Nat:=37
abbrev dE.id:Nat:=38
abbrev au.id:Nat:=39
abbrev dZ.id:Nat:=40
abbrev iX.id:Nat:=41
abbrev ai.id:Nat:=42
abbrev aC.id:Nat:=43
abbrev gK.id:Nat:=44
abbrev eB.id:Nat:=45
abbrev lP.id:Nat:=46
abbrev bp.id:Nat:=47
abbrev bu.id:Nat:=48
abbrev dz.id:Nat:=49
abbrev dN.id:Nat:=50
abbrev aY.id:Nat:=51
abbrev bE.id:Nat:=52
abbrev fQ.id:Nat:=53
abbrev cC.id:Nat:=54
abbrev fz.id:Nat:=55
abbrev fw.id:Nat:=56
abbrev bf.id:Nat:=58
abbrev mf.id:Nat:=59
abbrev fZ.id:Nat:=60
abbrev jE.id:Nat:=61
abbrev bn.id:Nat:=62
abbrev fy.id:Nat:=63
abbrev mz.id:Nat:=64
abbrev eR.id:Nat:=65
abbrev ah.id:Nat:=66
abbrev dB.id:Nat:=69
abbrev aR.id:Nat:=70
abbrev dO.id:Nat:=71
abbrev iL.id:Nat:=72
abbrev ag.id:Nat:=73
abbrev c9.id:Nat:=74
abbrev bR.id:Nat:=75
abbrev aZ.id:Nat:=76
abbrev ck.id:Nat:=77
abbrev fg.id:Nat:=78
abbrev gz.id:Nat:=79
abbrev bt.id:Nat:=80
abbrev dd.id:Nat:=81
abbrev gv.id:Nat:=82
abbrev cY.id:Nat:=83
abbrev dK.id:Nat:=84
abbrev dH.id:Nat:=85
abbrev bG.id:Nat:=87
abbrev dC.id:Nat:=88
abbrev aX.id:Nat:=89
abbrev fH.id:Nat:=90
abbrev dA.id:Nat:=92
abbrev iu.id:Nat:=93
abbrev bC.id:Nat:=94
abbrev bA.id:Nat:=95
abbrev rp.id:Nat:=96
abbrev cP.id:Nat:=98
abbrev aD.id:Nat:=99
abbrev gY.id:Nat:=100
abbrev fT.id:Nat:=101
abbrev cf.id:Nat:=102
abbrev cJ.id:Nat:=104
abbrev gE.id:Nat:=105
abbrev bits_Len.id:Nat:=106
abbrev eF.id:Nat:=107
abbrev bK.id:Nat:=108
abbrev gu.id:Nat:=109
abbrev fO.id:Nat:=110
abbrev fP.id:Nat:=111
abbrev aw.id:Nat:=112
abbrev gS.id:Nat:=115
abbrev cS.id:Nat:=116
abbrev dX.id:Nat:=117
abbrev aJ.id:Nat:=118
abbrev aI.id:Nat:=120
abbrev bits_TrailingZeros64.id:Nat:=121
abbrev iQ.id:Nat:=122
abbrev jz.id:Nat:=123
abbrev iR.id:Nat:=124
abbrev ja.id:Nat:=125
abbrev iT.id:Nat:=126
abbrev gU.id:Nat:=127
abbrev jm.id:Nat:=129
abbrev bits_Len64.id:Nat:=131
abbrev br.id:Nat:=132
abbrev bits_Mul64.id:Nat:=133
abbrev a7.id:Nat:=134
abbrev jy.id:Nat:=135
abbrev oN.id:Nat:=137
abbrev jO.id:Nat:=139
abbrev bits_LeadingZeros64.id:Nat:=140
abbrev jN.id:Nat:=141
noncomputable abbrev ae.fn:Func:=Tryz.f21
noncomputable abbrev ai.fn:Func:=f42
noncomputable abbrev aw.fn:Func:=f112
noncomputable abbrev a7.fn:Func:=f134
theorem dB.at_:prog.funcs[(69:Nat)]? =some f69:=func69
theorem bR.at_:prog.funcs[(75:Nat)]? =some f75:=func75
theorem ck.at_:prog.funcs[(77:Nat)]? =some f77:=func77
theorem aX.at_:prog.funcs[(89:Nat)]? =some f89:=func89
theorem aD.at_:prog.funcs[(99:Nat)]? =some f99:=func99
theorem tQ.at_:prog.funcs[(119:Nat)]? =some f119:=func119
theorem aI.at_:prog.funcs[(120:Nat)]? =some f120:=func120
theorem ng:NG prog:=by
 have h:(prog.funcs.toList.all fun f=> !(f.name== "runtime.NumGoroutine"))=true:=by kernel_rfl
 intro g fn hf;rw [List.all_eq_true]at h;have:=h fn (by simpa using Array.mem_of_getElem? hf);simpa using this
theorem mix:prog.follows .mixedOrders=true:=by kernel_rfl
theorem rqq{C:List Nat}{f:FuncId}{fn:Func}{args:List Value}{w:World}{K:Value->World->Prop}{W:Prop}(hf:prog.funcs[f]? =some fn)(h:W)(hb:fn.body=some (body fn):=by kernel_rfl)(hn:(Nat.ble args.length fn.ntmps&&Nat.ble fn.ntmps gM)=true:=by kernel_rfl)(hs:aU none [] prog fn.ntmps C (body fn) (aN fn) (bI prog fn K) (oh args 0) w=W:=by kernel_rfl):bj prog f args.toArray w K:=Fb ng mix hf hb hn hs h
def cG.k:List Nat:= []
def cG.q1(K:KT):aM:=(aL 0 (b7 (sR (sR (body f13)))++(aN f13)) (bQ (fun bV w_=>match cutAt cG.k (sR (sR (body f13)))with|true=>Holds none [] prog 18 (sR (sR (body f13))) (bI prog f13 K) bV w_|false=>aU none [] prog 18 cG.k (sR (sR (body f13))) (aN f13) (bI prog f13 K) bV w_) (bI prog f13 K)))
def cG.e1(a:OA)(b c:Nat)(d:Addr)(s:Bool×Int):Env:= [(0,.slice a b c),(3,.pointer (some d)),(4,.bool s.1),(5,.int .i64 s.2)]
def cG.u1:List Nat:= [0,3,4,5]
section
variable(a:OA)(b d:Nat)(e:AV)(K:KT)(w:World)
def cG.W:Prop:=
 let f:=w.alloc (.cells e 23);Holds none [] prog 18 (.loop (lB (bB (sR (sL (sR (body f13))))))) (cG.q1 K) [(0,.slice a b d),(3,.pointer (some (⟨w.heap.size,0,none⟩:Addr))),(4,.bool false),(5,.int .i64 0)] f
variable{a b d e K w}
theorem cG.of(h:cG.W a b d e K w):bj prog 13 #[.slice a b d,.agg e] w K:=
 rqq func13 (C:=cG.k) h
end
section
variable(a:OA)(b c:Nat)(d:Addr)(e:Bool)(f:Int)(Q:aM)(w:World)
def cG.B1:Prop:=
 Split (decide (f<(b:Int))) (let g:=w.drew;(0<=f/\f<(b:Int))/\Is a fun i:Addr=>∃j:AV,(j.size=32/\Cells g (i.add (f.toNat*32)) j)/\∃k:AV,(k.size=32/\Cells g d k)/\(dP .u8 32 j/\dP .u8 32 k)/\Split (eT j k) (Q .ret [(0,.slice a b c),(3,.pointer (some d)),(4,.bool true),(5,.int .i64 f)] g) (Q .normal [(0,.slice a b c),(3,.pointer (some d)),(4,.bool e),(5,.int .i64 (i64.wrap (f+(1:Int))))] g)) (Q (.exit 0) [(0,.slice a b c),(3,.pointer (some d)),(4,.bool e),(5,.int .i64 f)] w)
theorem cG.b1:(aU none [] prog 18 cG.k (lB (bB (sR (sL (sR (body f13)))))) cG.u1 Q [(0,.slice a b c),(3,.pointer (some d)),(4,.bool e),(5,.int .i64 f)] w)=cG.B1 a b c d e f Q w:=by kernel_rfl
variable{a b c d}
theorem cG.b6(I:Bool×Int->World->Prop)(μ:Bool×Int->World->Nat)(s:Bool×Int){Q:aM}{w:World}(h0:I s w)
 (round:∀s w,I s w->cG.B1 a b c d (s.1) (s.2) (bH (cG.e1 a b c d) I μ s w Q) w):Holds none [] prog 18 (.loop (lB (bB (sR (sL (sR (body f13))))))) Q (cG.e1 a b c d s) w:=
 ba ng mix (cG.e1 a b c d) I μ cG.k cG.u1 s (fun s Q w=>cG.B1 a b c d (s.1) (s.2) Q w) (fun s Q w=>cG.b1 a b c d (s.1) (s.2) Q w) h0 round
end
section
def cG.cI(a:OA)(b c:Nat)(d:Addr)(e:Bool)(f:Int)(K:KT)(w:World):Prop:=
 K (.bool false) w
variable(a:OA)(b c:Nat)(d:Addr)(e:Bool)(f:Int)(K:KT)(w:World)
theorem cG.cX:(cG.q1 K (.exit 0) [(0,.slice a b c),(3,.pointer (some d)),(4,.bool e),(5,.int .i64 f)] w)=cG.cI a b c d e f K w:=by kernel_rfl
end
def bW.k:List Nat:= []
def bW.q1(K:KT):aM:=(aL 0 (b7 (sR (sR (sR (body Tryz.f27))))++(aN Tryz.f27)) (bQ (fun bV w_=>match cutAt bW.k (sR (sR (sR (body Tryz.f27))))with|true=>Holds none [] prog 26 (sR (sR (sR (body Tryz.f27)))) (bI prog Tryz.f27 K) bV w_|false=>aU none [] prog 26 bW.k (sR (sR (sR (body Tryz.f27)))) (aN Tryz.f27) (bI prog Tryz.f27 K) bV w_) (bI prog Tryz.f27 K)))
def bW.e1(a:OA)(b c:Nat)(d:OA)(e f:Nat)(s:Bool×Int):Env:= [(0,.slice a b c),(1,.slice d e f),(4,.bool s.1),(5,.int .i64 s.2)]
def bW.u1:List Nat:= [0,1,4,5]
section
variable(a:OA)(b d:Nat)(e:OA)(f g:Nat)(K:KT)(w:World)
def bW.W:Prop:=
 Split ((b:Int) != (f:Int)) (K (.bool false) w) (Holds none [] prog 26 (.loop (lB (bB (sR (sL (sR (sR (body Tryz.f27)))))))) (bW.q1 K) [(0,.slice a b d),(1,.slice e f g),(4,.bool false),(5,.int .i64 0)] w)
variable{a b d e f g K w}
theorem bW.of(h:bW.W a b d e f g K w):bj prog 27 #[.slice a b d,.slice e f g] w K:=
 rqq func27 (C:=bW.k) h
end
section
variable(a:OA)(b c:Nat)(d:OA)(e f:Nat)(g:Bool)(i:Int)(Q:aM)(w:World)
def bW.B1:Prop:=
 Split (decide (i<(b:Int))) (let j:=w.drew;(0<=i/\i<(b:Int))/\Is a fun k:Addr=>∃m:AV,(m.size=32/\Cells j (k.add (i.toNat*32)) m)/\(0<=i/\i<(e:Int))/\Is d fun n:Addr=>∃o:AV,(o.size=32/\Cells j (n.add (i.toNat*32)) o)/\(dP .u8 32 m/\dP .u8 32 o)/\Split (!(eT m o)) (Q .ret [(0,.slice a b c),(1,.slice d e f),(4,.bool false),(5,.int .i64 i)] j) (Q .normal [(0,.slice a b c),(1,.slice d e f),(4,.bool g),(5,.int .i64 (i64.wrap (i+(1:Int))))] j)) (Q (.exit 0) [(0,.slice a b c),(1,.slice d e f),(4,.bool g),(5,.int .i64 i)] w)
theorem bW.b1:(aU none [] prog 26 bW.k (lB (bB (sR (sL (sR (sR (body Tryz.f27))))))) bW.u1 Q [(0,.slice a b c),(1,.slice d e f),(4,.bool g),(5,.int .i64 i)] w)=bW.B1 a b c d e f g i Q w:=by kernel_rfl
variable{a b c d e f}
theorem bW.b6(I:Bool×Int->World->Prop)(μ:Bool×Int->World->Nat)(s:Bool×Int){Q:aM}{w:World}(h0:I s w)
 (round:∀s w,I s w->bW.B1 a b c d e f (s.1) (s.2) (bH (bW.e1 a b c d e f) I μ s w Q) w):Holds none [] prog 26 (.loop (lB (bB (sR (sL (sR (sR (body Tryz.f27)))))))) Q (bW.e1 a b c d e f s) w:=
 ba ng mix (bW.e1 a b c d e f) I μ bW.k bW.u1 s (fun s Q w=>bW.B1 a b c d e f (s.1) (s.2) Q w) (fun s Q w=>bW.b1 a b c d e f (s.1) (s.2) Q w) h0 round
end
section
def bW.cI(a:OA)(b c:Nat)(d:OA)(e f:Nat)(g:Bool)(i:Int)(K:KT)(w:World):Prop:=
 K (.bool true) w
variable(a:OA)(b c:Nat)(d:OA)(e f:Nat)(g:Bool)(i:Int)(K:KT)(w:World)
theorem bW.cX:(bW.q1 K (.exit 0) [(0,.slice a b c),(1,.slice d e f),(4,.bool g),(5,.int .i64 i)] w)=bW.cI a b c d e f g i K w:=by kernel_rfl
end
def aK.k:List Nat:= []
def aK.q1(K:KT):aM:=(aL 0 (b7 (sR (sR (sR (body Tryz.f28))))++(aN Tryz.f28)) (bQ (fun bV w_=>match cutAt aK.k (sR (sR (sR (body Tryz.f28))))with|true=>Holds none [] prog 56 (sR (sR (sR (body Tryz.f28)))) (bI prog Tryz.f28 K) bV w_|false=>aU none [] prog 56 aK.k (sR (sR (sR (body Tryz.f28)))) (aN Tryz.f28) (bI prog Tryz.f28 K) bV w_) (bI prog Tryz.f28 K)))
def aK.e1(a:OA)(b c:Nat)(d:OA)(e f:Nat)(s:(OA)×Nat×Nat×Int):Env:= [(0,.slice a b c),(2,.slice d e f),(3,.slice s.1 s.2.1 s.2.2.1),(4,.int .i64 s.2.2.2)]
def aK.u1:List Nat:= [0,2,3,4]
def aK.q2(Q:aM):aM:=(aL 2 (b7 (sR (sR (sR (bB (sL (sR (lB (bB (sR (sL (sR (sR (body Tryz.f28)))))))))))))++(b7 (sR (sR (lB (bB (sR (sL (sR (sR (body Tryz.f28)))))))))++aK.u1)) (bQ (fun bV w_=>match cutAt aK.k (sR (sR (sR (bB (sL (sR (lB (bB (sR (sL (sR (sR (body Tryz.f28)))))))))))))with|true=>Holds none [] prog 56 (sR (sR (sR (bB (sL (sR (lB (bB (sR (sL (sR (sR (body Tryz.f28))))))))))))) (aL 1 (b7 (sR (sR (lB (bB (sR (sL (sR (sR (body Tryz.f28)))))))))++aK.u1) (bQ (fun bV w_=>match cutAt aK.k (sR (sR (lB (bB (sR (sL (sR (sR (body Tryz.f28)))))))))with|true=>Holds none [] prog 56 (sR (sR (lB (bB (sR (sL (sR (sR (body Tryz.f28))))))))) Q bV w_|false=>aU none [] prog 56 aK.k (sR (sR (lB (bB (sR (sL (sR (sR (body Tryz.f28))))))))) aK.u1 Q bV w_) Q)) bV w_|false=>aU none [] prog 56 aK.k (sR (sR (sR (bB (sL (sR (lB (bB (sR (sL (sR (sR (body Tryz.f28))))))))))))) (b7 (sR (sR (lB (bB (sR (sL (sR (sR (body Tryz.f28)))))))))++aK.u1) (aL 1 (b7 (sR (sR (lB (bB (sR (sL (sR (sR (body Tryz.f28)))))))))++aK.u1) (bQ (fun bV w_=>match cutAt aK.k (sR (sR (lB (bB (sR (sL (sR (sR (body Tryz.f28)))))))))with|true=>Holds none [] prog 56 (sR (sR (lB (bB (sR (sL (sR (sR (body Tryz.f28))))))))) Q bV w_|false=>aU none [] prog 56 aK.k (sR (sR (lB (bB (sR (sL (sR (sR (body Tryz.f28))))))))) aK.u1 Q bV w_) Q)) bV w_) (aL 1 (b7 (sR (sR (lB (bB (sR (sL (sR (sR (body Tryz.f28)))))))))++aK.u1) (bQ (fun bV w_=>match cutAt aK.k (sR (sR (lB (bB (sR (sL (sR (sR (body Tryz.f28)))))))))with|true=>Holds none [] prog 56 (sR (sR (lB (bB (sR (sL (sR (sR (body Tryz.f28))))))))) Q bV w_|false=>aU none [] prog 56 aK.k (sR (sR (lB (bB (sR (sL (sR (sR (body Tryz.f28))))))))) aK.u1 Q bV w_) Q))))
def aK.e2(a:OA)(b c:Nat)(d:OA)(e f:Nat)(g:OA)(i j:Nat)(k s:Int):Env:= [(0,.slice a b c),(2,.slice d e f),(3,.slice g i j),(4,.int .i64 k),(5,.int .i64 s)]
def aK.u2:List Nat:= [0,2,3,4,5]
section
variable(a:OA)(b d:Nat)(K:KT)(w:World)
def aK.W:Prop:=
 Holds none [] prog 56 (.loop (lB (bB (sR (sL (sR (sR (body Tryz.f28)))))))) (aK.q1 K) [(0,.slice a b d),(2,.slice none 0 0),(3,.slice none 0 0),(4,.int .i64 0)] w
variable{a b d K w}
theorem aK.of(h:aK.W a b d K w):bj prog 28 #[.slice a b d] w K:=
 rqq func28 (C:=aK.k) h
end
section
variable(a:OA)(b c:Nat)(d:OA)(e f:Nat)(g:OA)(i j:Nat)(k:Int)(Q:aM)(w:World)
def aK.B1:Prop:=
 Split (decide (k<(b:Int))) ((0<=k/\k<(b:Int))/\Is a fun m:Addr=>∃n:AV,(n.size=32/\Cells w (m.add (k.toNat*32)) n)/\bj prog 13 #[.slice g i j,.agg n] w fun o p=>∃q:Bool,o=.bool q/\Split q (Q .normal [(0,.slice a b c),(2,.slice d e f),(3,.slice g i j),(4,.int .i64 (i64.wrap (k+(1:Int))))] p) (Holds none [] prog 56 (.loop (lB (bB (sL (sR (sR (bB (sL (sR (lB (bB (sR (sL (sR (sR (body Tryz.f28)))))))))))))))) (aK.q2 Q) [(0,.slice a b c),(2,.slice d e f),(3,.slice g i j),(4,.int .i64 k),(5,.int .i64 (i:Int))] p)) (Q (.exit 0) [(0,.slice a b c),(2,.slice d e f),(3,.slice g i j),(4,.int .i64 k)] w)
theorem aK.b1:(aU none [] prog 56 aK.k (lB (bB (sR (sL (sR (sR (body Tryz.f28))))))) aK.u1 Q [(0,.slice a b c),(2,.slice d e f),(3,.slice g i j),(4,.int .i64 k)] w)=aK.B1 a b c d e f g i j k Q w:=by kernel_rfl
variable{a b c d e f}
theorem aK.b6(I:(OA)×Nat×Nat×Int->World->Prop)(μ:(OA)×Nat×Nat×Int->World->Nat)(s:(OA)×Nat×Nat×Int){Q:aM}{w:World}(h0:I s w)
 (round:∀s w,I s w->aK.B1 a b c d e f (s.1) (s.2.1) (s.2.2.1) (s.2.2.2) (bH (aK.e1 a b c d e f) I μ s w Q) w):Holds none [] prog 56 (.loop (lB (bB (sR (sL (sR (sR (body Tryz.f28)))))))) Q (aK.e1 a b c d e f s) w:=
 ba ng mix (aK.e1 a b c d e f) I μ aK.k aK.u1 s (fun s Q w=>aK.B1 a b c d e f (s.1) (s.2.1) (s.2.2.1) (s.2.2.2) Q w) (fun s Q w=>aK.b1 a b c d e f (s.1) (s.2.1) (s.2.2.1) (s.2.2.2) Q w) h0 round
end
section
def aK.cI(a:OA)(b c:Nat)(d:OA)(e f:Nat)(g:OA)(i j:Nat)(k:Int)(K:KT)(w:World):Prop:=
 K (.slice g i j) w
variable(a:OA)(b c:Nat)(d:OA)(e f:Nat)(g:OA)(i j:Nat)(k:Int)(K:KT)(w:World)
theorem aK.cX:(aK.q1 K (.exit 0) [(0,.slice a b c),(2,.slice d e f),(3,.slice g i j),(4,.int .i64 k)] w)=aK.cI a b c d e f g i j k K w:=by kernel_rfl
end
section
variable(a:OA)(b c:Nat)(d:OA)(e f:Nat)(g:OA)(i j:Nat)(k m:Int)(Q:aM)(w:World)
def aK.B2:Prop:=
 let n:=w.drew;Split (decide (m>(0:Int))) ((0<=k/\k<(b:Int))/\Is a fun o:Addr=>∃p:AV,(p.size=32/\Cells n (o.add (k.toNat*32)) p)/\(0<=(i64.wrap (m-(1:Int)))/\(i64.wrap (m-(1:Int)))<(i:Int))/\Is g fun q:Addr=>∃r:AV,(r.size=32/\Cells n (q.add ((i64.wrap (m-(1:Int))).toNat*32)) r)/\bj prog 52 #[.agg p,.agg r] n fun t u=>∃v:Int,t=.int .i64 v/\Split (decide (v<(0:Int))) (Q .normal [(0,.slice a b c),(2,.slice d e f),(3,.slice g i j),(4,.int .i64 k),(5,.int .i64 (i64.wrap (m-(1:Int))))] u) (Q (.exit 2) [(0,.slice a b c),(2,.slice d e f),(3,.slice g i j),(4,.int .i64 k),(5,.int .i64 m)] u)) (Q (.exit 2) [(0,.slice a b c),(2,.slice d e f),(3,.slice g i j),(4,.int .i64 k),(5,.int .i64 m)] n)
theorem aK.b2:(aU none [] prog 56 aK.k (lB (bB (sL (sR (sR (bB (sL (sR (lB (bB (sR (sL (sR (sR (body Tryz.f28))))))))))))))) aK.u2 Q [(0,.slice a b c),(2,.slice d e f),(3,.slice g i j),(4,.int .i64 k),(5,.int .i64 m)] w)=aK.B2 a b c d e f g i j k m Q w:=by kernel_rfl
variable{a b c d e f g i j k}
theorem aK.gI(I:Int->World->Prop)(μ:Int->World->Nat)(s:Int){Q:aM}{w:World}(h0:I s w)
 (round:∀s w,I s w->aK.B2 a b c d e f g i j k s (bH (aK.e2 a b c d e f g i j k) I μ s w Q) w):Holds none [] prog 56 (.loop (lB (bB (sL (sR (sR (bB (sL (sR (lB (bB (sR (sL (sR (sR (body Tryz.f28)))))))))))))))) Q (aK.e2 a b c d e f g i j k s) w:=
 ba ng mix (aK.e2 a b c d e f g i j k) I μ aK.k aK.u2 s (fun s Q w=>aK.B2 a b c d e f g i j k s Q w) (fun s Q w=>aK.b2 a b c d e f g i j k s Q w) h0 round
end
section
variable(a:OA)(b c:Nat)(d:OA)(e f:Nat)(g:OA)(i j:Nat)(k m:Int)(Q:aM)(w:World)
def aK.iE:Prop:=
 (0<=m/\m<=(j:Int))/\∃(n:OA) (o p:Nat) (q:World),(Builtin.append_ #[35,35] 35 #[.slice none 0 0,.slice (if j=0 then g else g.map (·.add (0*32))) (m.toNat-0) (j-0)]).run prog w=.ok (.slice n o p) q/\(0<=k/\k<(b:Int))/\Is a fun r:Addr=>∃t:AV,(t.size=32/\Cells q (r.add (k.toNat*32)) t)/\t.size=32/\let u:=q.alloc (.cells (t.toList++ []).toArray 23);∃(v:OA) (x y:Nat) (z:World),(Builtin.append_ #[35,35] 35 #[.slice n o p,.slice (some (⟨q.heap.size,0,none⟩:Addr)) 1 1]).run prog u=.ok (.slice v x y) z/\(0<=m/\m<=(i:Int))/\∃(a1:OA) (b1 c1:Nat) (d1:World),(Builtin.append_ #[35,35] 35 #[.slice v x y,.slice (if j=m.toNat then g else g.map (·.add (m.toNat*32))) (i-m.toNat) (j-m.toNat)]).run prog z=.ok (.slice a1 b1 c1) d1/\Q .normal [(0,.slice a b c),(2,.slice d e f),(3,.slice a1 b1 c1),(4,.int .i64 (i64.wrap (k+(1:Int))))] d1
theorem aK.jJ:(aK.q2 Q (.exit 2) [(0,.slice a b c),(2,.slice d e f),(3,.slice g i j),(4,.int .i64 k),(5,.int .i64 m)] w)=aK.iE a b c d e f g i j k m Q w:=by kernel_rfl
end
def bE.k:List Nat:= []
def bE.q1(K:KT):aM:=(aL 0 (b7 (sR (sR (body f52)))++(aN f52)) (bQ (fun bV w_=>match cutAt bE.k (sR (sR (body f52)))with|true=>Holds none [] prog 24 (sR (sR (body f52))) (bI prog f52 K) bV w_|false=>aU none [] prog 24 bE.k (sR (sR (body f52))) (aN f52) (bI prog f52 K) bV w_) (bI prog f52 K)))
def bE.e1(a b:Addr)(s:Int×Int):Env:= [(2,.pointer (some a)),(3,.pointer (some b)),(4,.int .i64 s.1),(5,.int .i64 s.2)]
def bE.u1:List Nat:= [2,3,4,5]
section
variable(a b:AV)(K:KT)(w:World)
def bE.W:Prop:=
 let d:=w.alloc (.cells a 23);let e:=d.alloc (.cells b 23);Holds none [] prog 24 (.loop (lB (bB (sR (sL (sR (body f52))))))) (bE.q1 K) [(2,.pointer (some (⟨w.heap.size,0,none⟩:Addr))),(3,.pointer (some (⟨d.heap.size,0,none⟩:Addr))),(4,.int .i64 0),(5,.int .i64 0)] e
variable{a b K w}
theorem bE.of(h:bE.W a b K w):bj prog 52 #[.agg a,.agg b] w K:=
 rqq func52 (C:=bE.k) h
end
section
variable(a b:Addr)(c d:Int)(Q:aM)(w:World)
def bE.B1:Prop:=
 Split (decide (d<(32:Int))) (let e:=w.drew;(0<=d/\d<(32:Int))/\∃f:Int,e.cell? (a.add (d.toNat*1))=some (.int .u8 f)/\(0<=d/\d<(32:Int))/\∃g:Int,e.cell? (b.add (d.toNat*1))=some (.int .u8 g)/\Split (decide (f<g)) (Q .ret [(2,.pointer (some a)),(3,.pointer (some b)),(4,.int .i64 (-1)),(5,.int .i64 d)] e) (let i:=e.drew;(0<=d/\d<(32:Int))/\∃j:Int,i.cell? (a.add (d.toNat*1))=some (.int .u8 j)/\(0<=d/\d<(32:Int))/\∃k:Int,i.cell? (b.add (d.toNat*1))=some (.int .u8 k)/\Split (decide (j>k)) (Q .ret [(2,.pointer (some a)),(3,.pointer (some b)),(4,.int .i64 1),(5,.int .i64 d)] i) (Q .normal [(2,.pointer (some a)),(3,.pointer (some b)),(4,.int .i64 c),(5,.int .i64 (i64.wrap (d+(1:Int))))] i))) (Q (.exit 0) [(2,.pointer (some a)),(3,.pointer (some b)),(4,.int .i64 c),(5,.int .i64 d)] w)
theorem bE.b1:(aU none [] prog 24 bE.k (lB (bB (sR (sL (sR (body f52)))))) bE.u1 Q [(2,.pointer (some a)),(3,.pointer (some b)),(4,.int .i64 c),(5,.int .i64 d)] w)=bE.B1 a b c d Q w:=by kernel_rfl
variable{a b}
theorem bE.b6(I:Int×Int->World->Prop)(μ:Int×Int->World->Nat)(s:Int×Int){Q:aM}{w:World}(h0:I s w)
 (round:∀s w,I s w->bE.B1 a b (s.1) (s.2) (bH (bE.e1 a b) I μ s w Q) w):Holds none [] prog 24 (.loop (lB (bB (sR (sL (sR (body f52))))))) Q (bE.e1 a b s) w:=
 ba ng mix (bE.e1 a b) I μ bE.k bE.u1 s (fun s Q w=>bE.B1 a b (s.1) (s.2) Q w) (fun s Q w=>bE.b1 a b (s.1) (s.2) Q w) h0 round
end
section
def bE.cI(a b:Addr)(c d:Int)(K:KT)(w:World):Prop:=
 K (.int .i64 0) w
variable(a b:Addr)(c d:Int)(K:KT)(w:World)
theorem bE.cX:(bE.q1 K (.exit 0) [(2,.pointer (some a)),(3,.pointer (some b)),(4,.int .i64 c),(5,.int .i64 d)] w)=bE.cI a b c d K w:=by kernel_rfl
end
def fZ.k:List Nat:= []
section
variable(a:OA)(K:KT)(w:World)
def fZ.W:Prop:=
 Split (!(a).isNone) (Is a fun b:Addr=>∃d:Option Nat,w.cell? (b.add 1)=some (.map d)/\K (.bool (!(d).isNone)) w) (K (.bool false) w)
variable{a K w}
theorem fZ.of(h:fZ.W a K w):bj prog 60 #[.pointer a] w K:=
 rqq func60 (C:=fZ.k) h
end
def ah.k:List Nat:= []
def ah.q1(K:KT):aM:=(aL 0 (b7 (sR (sR (sR (body f66))))++(aN f66)) (bQ (fun bV w_=>match cutAt ah.k (sR (sR (sR (body f66))))with|true=>Holds none [] prog 61 (sR (sR (sR (body f66)))) (bI prog f66 K) bV w_|false=>aU none [] prog 61 ah.k (sR (sR (sR (body f66)))) (aN f66) (bI prog f66 K) bV w_) (bI prog f66 K)))
def ah.e1(a:OA)(b c:Nat)(s:(OA)×Nat×Nat×Int):Env:= [(0,.slice a b c),(2,.slice s.1 s.2.1 s.2.2.1),(3,.int .i64 s.2.2.2)]
def ah.u1:List Nat:= [0,2,3]
def ah.q2(Q:aM):aM:=(aL 2 (b7 (sR (sR (cT (sR (bB (sL (sR (lB (bB (sR (sL (sR (sR (body f66))))))))))))))++(b7 (sR (sR (lB (bB (sR (sL (sR (sR (body f66)))))))))++ah.u1)) (bQ (fun bV w_=>match cutAt ah.k (sR (sR (cT (sR (bB (sL (sR (lB (bB (sR (sL (sR (sR (body f66))))))))))))))with|true=>Holds none [] prog 61 (sR (sR (cT (sR (bB (sL (sR (lB (bB (sR (sL (sR (sR (body f66)))))))))))))) (aL 1 (b7 (sR (sR (lB (bB (sR (sL (sR (sR (body f66)))))))))++ah.u1) (bQ (fun bV w_=>match cutAt ah.k (sR (sR (lB (bB (sR (sL (sR (sR (body f66)))))))))with|true=>Holds none [] prog 61 (sR (sR (lB (bB (sR (sL (sR (sR (body f66))))))))) Q bV w_|false=>aU none [] prog 61 ah.k (sR (sR (lB (bB (sR (sL (sR (sR (body f66))))))))) ah.u1 Q bV w_) Q)) bV w_|false=>aU none [] prog 61 ah.k (sR (sR (cT (sR (bB (sL (sR (lB (bB (sR (sL (sR (sR (body f66)))))))))))))) (b7 (sR (sR (lB (bB (sR (sL (sR (sR (body f66)))))))))++ah.u1) (aL 1 (b7 (sR (sR (lB (bB (sR (sL (sR (sR (body f66)))))))))++ah.u1) (bQ (fun bV w_=>match cutAt ah.k (sR (sR (lB (bB (sR (sL (sR (sR (body f66)))))))))with|true=>Holds none [] prog 61 (sR (sR (lB (bB (sR (sL (sR (sR (body f66))))))))) Q bV w_|false=>aU none [] prog 61 ah.k (sR (sR (lB (bB (sR (sL (sR (sR (body f66))))))))) ah.u1 Q bV w_) Q)) bV w_) (aL 1 (b7 (sR (sR (lB (bB (sR (sL (sR (sR (body f66)))))))))++ah.u1) (bQ (fun bV w_=>match cutAt ah.k (sR (sR (lB (bB (sR (sL (sR (sR (body f66)))))))))with|true=>Holds none [] prog 61 (sR (sR (lB (bB (sR (sL (sR (sR (body f66))))))))) Q bV w_|false=>aU none [] prog 61 ah.k (sR (sR (lB (bB (sR (sL (sR (sR (body f66))))))))) ah.u1 Q bV w_) Q))))
def ah.e2(a:OA)(b c:Nat)(d:OA)(e f:Nat)(g:OA)(i j:Nat)(s:Int×Int):Env:= [(0,.slice a b c),(2,.slice d e f),(3,.int .i64 s.1),(4,.slice g i j),(5,.int .i64 s.2)]
def ah.u2:List Nat:= [0,2,3,4,5]
section
variable(a:OA)(b d:Nat)(K:KT)(w:World)
def ah.W:Prop:=
 Split (decide ((b:Int)<(2:Int))) (K (.slice a b d) w) (Holds none [] prog 61 (.loop (lB (bB (sR (sL (sR (sR (body f66)))))))) (ah.q1 K) [(0,.slice a b d),(2,.slice none 0 0),(3,.int .i64 1)] w)
variable{a b d K w}
theorem ah.of(h:ah.W a b d K w):bj prog 66 #[.slice a b d] w K:=
 rqq func66 (C:=ah.k) h
end
section
variable(a:OA)(b c:Nat)(d:OA)(e f:Nat)(g:Int)(Q:aM)(w:World)
def ah.B1:Prop:=
 Split (decide (g<(b:Int))) (let i:=w.drew;(0<=g/\g<(b:Int))/\Is a fun j:Addr=>∃k:AV,(k.size=32/\Cells i (j.add (g.toNat*32)) k)/\(0<=(i64.wrap (g-(1:Int)))/\(i64.wrap (g-(1:Int)))<(b:Int))/\Is a fun m:Addr=>∃n:AV,(n.size=32/\Cells i (m.add ((i64.wrap (g-(1:Int))).toNat*32)) n)/\(dP .u8 32 k/\dP .u8 32 n)/\Split (eT k n) ((0<=g/\g<=(b:Int))/\Holds none [] prog 61 (.loop (lB (bB (sR (sL (sR (cT (sR (bB (sL (sR (lB (bB (sR (sL (sR (sR (body f66)))))))))))))))))) (ah.q2 Q) [(0,.slice a b c),(2,.slice d e f),(3,.int .i64 g),(4,.slice (if c=g.toNat then a else a.map (·.add (g.toNat*32))) (b-g.toNat) (c-g.toNat)),(5,.int .i64 1)] i) (Q .normal [(0,.slice a b c),(2,.slice d e f),(3,.int .i64 (i64.wrap (g+(1:Int))))] i)) (Q (.exit 0) [(0,.slice a b c),(2,.slice d e f),(3,.int .i64 g)] w)
theorem ah.b1:(aU none [] prog 61 ah.k (lB (bB (sR (sL (sR (sR (body f66))))))) ah.u1 Q [(0,.slice a b c),(2,.slice d e f),(3,.int .i64 g)] w)=ah.B1 a b c d e f g Q w:=by kernel_rfl
variable{a b c}
theorem ah.b6(I:(OA)×Nat×Nat×Int->World->Prop)(μ:(OA)×Nat×Nat×Int->World->Nat)(s:(OA)×Nat×Nat×Int){Q:aM}{w:World}(h0:I s w)
 (round:∀s w,I s w->ah.B1 a b c (s.1) (s.2.1) (s.2.2.1) (s.2.2.2) (bH (ah.e1 a b c) I μ s w Q) w):Holds none [] prog 61 (.loop (lB (bB (sR (sL (sR (sR (body f66)))))))) Q (ah.e1 a b c s) w:=
 ba ng mix (ah.e1 a b c) I μ ah.k ah.u1 s (fun s Q w=>ah.B1 a b c (s.1) (s.2.1) (s.2.2.1) (s.2.2.2) Q w) (fun s Q w=>ah.b1 a b c (s.1) (s.2.1) (s.2.2.1) (s.2.2.2) Q w) h0 round
end
section
def ah.cI(a:OA)(b c:Nat)(d:OA)(e f:Nat)(g:Int)(K:KT)(w:World):Prop:=
 K (.slice a b c) w
variable(a:OA)(b c:Nat)(d:OA)(e f:Nat)(g:Int)(K:KT)(w:World)
theorem ah.cX:(ah.q1 K (.exit 0) [(0,.slice a b c),(2,.slice d e f),(3,.int .i64 g)] w)=ah.cI a b c d e f g K w:=by kernel_rfl
end
section
variable(a:OA)(b c:Nat)(d:OA)(e f:Nat)(g:Int)(i:OA)(j k:Nat)(m:Int)(Q:aM)(w:World)
def ah.B2:Prop:=
 Split (decide (m<(j:Int))) (let n:=w.drew;(0<=m/\m<(j:Int))/\Is i fun o:Addr=>∃p:AV,(p.size=32/\Cells n (o.add (m.toNat*32)) p)/\(0<=(i64.wrap (m-(1:Int)))/\(i64.wrap (m-(1:Int)))<(j:Int))/\Is i fun q:Addr=>∃r:AV,(r.size=32/\Cells n (q.add ((i64.wrap (m-(1:Int))).toNat*32)) r)/\(dP .u8 32 p/\dP .u8 32 r)/\Split (!(eT p r)) ((0<=m/\m<(j:Int))/\Is i fun t:Addr=>∃u:AV,(u.size=32/\Cells n (t.add (m.toNat*32)) u)/\(0<=g/\g<(b:Int))/\Is a fun v:Addr=>(u.size=32/\(∀x∈u.toList,x.oneCell'=true)/\∀y,y<32->Wr n ((v.add (g.toNat*32)).add y))/\let z:=setCells n (v.add (g.toNat*32)) u.toList 0;Q .normal [(0,.slice a b c),(2,.slice d e f),(3,.int .i64 (i64.wrap (g+(1:Int)))),(4,.slice i j k),(5,.int .i64 (i64.wrap (m+(1:Int))))] z) (Q .normal [(0,.slice a b c),(2,.slice d e f),(3,.int .i64 g),(4,.slice i j k),(5,.int .i64 (i64.wrap (m+(1:Int))))] n)) (Q (.exit 2) [(0,.slice a b c),(2,.slice d e f),(3,.int .i64 g),(4,.slice i j k),(5,.int .i64 m)] w)
theorem ah.b2:(aU none [] prog 61 ah.k (lB (bB (sR (sL (sR (cT (sR (bB (sL (sR (lB (bB (sR (sL (sR (sR (body f66))))))))))))))))) ah.u2 Q [(0,.slice a b c),(2,.slice d e f),(3,.int .i64 g),(4,.slice i j k),(5,.int .i64 m)] w)=ah.B2 a b c d e f g i j k m Q w:=by kernel_rfl
variable{a b c d e f i j k}
theorem ah.gI(I:Int×Int->World->Prop)(μ:Int×Int->World->Nat)(s:Int×Int){Q:aM}{w:World}(h0:I s w)
 (round:∀s w,I s w->ah.B2 a b c d e f (s.1) i j k (s.2) (bH (ah.e2 a b c d e f i j k) I μ s w Q) w):Holds none [] prog 61 (.loop (lB (bB (sR (sL (sR (cT (sR (bB (sL (sR (lB (bB (sR (sL (sR (sR (body f66)))))))))))))))))) Q (ah.e2 a b c d e f i j k s) w:=
 ba ng mix (ah.e2 a b c d e f i j k) I μ ah.k ah.u2 s (fun s Q w=>ah.B2 a b c d e f (s.1) i j k (s.2) Q w) (fun s Q w=>ah.b2 a b c d e f (s.1) i j k (s.2) Q w) h0 round
end
section
def ah.iE(a:OA)(b c:Nat)(d:OA)(e f:Nat)(g:Int)(i:OA)(j k:Nat)(m:Int)(Q:aM)(w:World):Prop:=
 (0<=g/\g<=(b:Int))/\∃(n:Value) (o:World),(Builtin.clear_ #[35] 0 #[.slice (if c=g.toNat then a else a.map (·.add (g.toNat*32))) (b-g.toNat) (c-g.toNat)]).run prog w=.ok n o/\(0<=g/\g<=(c:Int))/\Q .ret [(0,.slice a b c),(2,.slice (if c=0 then a else a.map (·.add (0*32))) (g.toNat-0) (c-0)),(3,.int .i64 g)] o
variable(a:OA)(b c:Nat)(d:OA)(e f:Nat)(g:Int)(i:OA)(j k:Nat)(m:Int)(Q:aM)(w:World)
theorem ah.jJ:(ah.q2 Q (.exit 2) [(0,.slice a b c),(2,.slice d e f),(3,.int .i64 g),(4,.slice i j k),(5,.int .i64 m)] w)=ah.iE a b c d e f g i j k m Q w:=by kernel_rfl
end
def dB.k:List Nat:= []
section
variable(a b:AV)(K:KT)(w:World)
def dB.W:Prop:=
 let d:=w.alloc (.cells a 23);let e:=d.alloc (.cells b 23);let f:=e.drew;bj prog 100 #[.slice (some (if 32=0 then(⟨w.heap.size,0,none⟩:Addr)else(⟨w.heap.size,0,none⟩:Addr).add (0*1))) (32-0) (32-0),.slice (some (if 32=0 then(⟨d.heap.size,0,none⟩:Addr)else(⟨d.heap.size,0,none⟩:Addr).add (0*1))) (32-0) (32-0)] f fun g i=>∃j:Int,g=.int .i64 j/\K (.int .i64 j) i
variable{a b K w}
theorem dB.of(h:dB.W a b K w):bj prog 69 #[.agg a,.agg b] w K:=
 rqq func69 (C:=dB.k) h
end
def gz.k:List Nat:= []
section
variable(a:OA)(b:AV)(K:KT)(w:World)
def gz.W:Prop:=
 let d:=w.alloc (.cells b 23);∃e:AV,(e.size=32/\Cells d (⟨w.heap.size,0,none⟩:Addr) e)/\bj prog 101 #[.pointer a,.agg e] d fun f g=>∃i:OA,f=.pointer i/\K (.bool (!(i).isNone)) g
variable{a b K w}
theorem gz.of(h:gz.W a b K w):bj prog 79 #[.pointer a,.agg b] w K:=
 rqq func79 (C:=gz.k) h
end
def gY.k:List Nat:= []
section
variable(a:OA)(b d:Nat)(e:OA)(f g:Nat)(K:KT)(w:World)
def gY.W:Prop:=
 Ex prog 119 #[.slice a b d,.slice e f g] w fun i j=>∃k:Int,i=.int .i64 k/\K (.int .i64 k) j
variable{a b d e f g K w}
theorem gY.of(h:gY.W a b d e f g K w):bj prog 100 #[.slice a b d,.slice e f g] w K:=
 rqq func100 (C:=gY.k) h
end
def fT.k:List Nat:= []
section
variable(a:OA)(b:AV)(K:KT)(w:World)
def fT.W:Prop:=
 let d:=w.alloc (.cells b 23);bj prog 60 #[.pointer a] d fun e f=>∃g:Bool,e=.bool g/\Split g (let i:=f.drew;Is a fun j:Addr=>∃k:Option Nat,i.cell? (j.add 1)=some (.map k)/\∃m:AV,(m.size=32/\Cells i (⟨w.heap.size,0,none⟩:Addr) m)/\∃n:Int,∃o:Bool,(Instr.lookup 89 (.map k) (.agg m) true).run prog i=.ok (.tuple #[.int .i64 n,.bool o]) i/\Split o (Is a fun p:Addr=>∃q:OA,∃r t:Nat,i.cell? (p.add 0)=some (.slice q r t)/\(0<=n/\n<(r:Int))/\Is q fun u:Addr=>∃v:OA,i.cell? (u.add (n.toNat*1))=some (.pointer v)/\K (.pointer v) i) (K (.pointer none) i)) (K (.pointer none) f)
variable{a b K w}
theorem fT.of(h:fT.W a b K w):bj prog 101 #[.pointer a,.agg b] w K:=
 rqq func101 (C:=fT.k) h
end
def cf.k:List Nat:= []
def cf.q1(K:KT):aM:=(aL 0 (b7 (sR (sR (body f102)))++(aN f102)) (bQ (fun bV w_=>match cutAt cf.k (sR (sR (body f102)))with|true=>Holds none [] prog 30 (sR (sR (body f102))) (bI prog f102 K) bV w_|false=>aU none [] prog 30 cf.k (sR (sR (body f102))) (aN f102) (bI prog f102 K) bV w_) (bI prog f102 K)))
def cf.e1(a:OA)(b c:Nat)(d:OA)(e f:Nat)(g:Int)(s:(OA)×Nat×Nat×Int):Env:= [(0,.slice s.1 s.2.1 s.2.2.1),(4,.slice a b c),(7,.slice d e f),(8,.int .i64 g),(9,.int .i64 s.2.2.2)]
def cf.u1:List Nat:= [0,4,7,8,9]
section
variable(a:OA)(b d:Nat)(e:OA)(f g:Nat)(K:KT)(w:World)
def cf.W:Prop:=
 Holds none [] prog 30 (.loop (lB (bB (sR (sL (sR (body f102))))))) (cf.q1 K) [(0,.slice a b d),(4,.slice none 0 0),(7,.slice e f g),(8,.int .i64 (f:Int)),(9,.int .i64 0)] w
variable{a b d e f g K w}
theorem cf.of(h:cf.W a b d e f g K w):bj prog 102 #[.slice a b d,.slice e f g] w K:=
 rqq func102 (C:=cf.k) h
end
section
variable(a:OA)(b c:Nat)(d:OA)(e f:Nat)(g:OA)(i j:Nat)(k m:Int)(Q:aM)(w:World)
def cf.B1:Prop:=
 Split (decide (m<k)) ((0<=m/\m<(i:Int))/\Is g fun n:Addr=>∃o:Int,w.cell? (n.add (m.toNat*1))=some (.int .u64 o)/\Split (m==(b:Int)) (let p:=w.alloc (.cells #[.int .u64 0] 49);∃(q:OA) (r t:Nat) (u:World),(Builtin.append_ #[148,148] 148 #[.slice a b c,.slice (some (⟨w.heap.size,0,none⟩:Addr)) 1 1]).run prog p=.ok (.slice q r t) u/\(0<=m/\m<(r:Int))/\Is q fun v:Addr=>∃x:Int,u.cell? (v.add (m.toNat*1))=some (.int .u64 x)/\(0<=m/\m<(r:Int))/\Is q fun y:Addr=>Wr u (y.add (m.toNat*1))/\let z:=u.setCell (y.add (m.toNat*1)) (.int .u64 (u64.wrap ((BitVec.ofInt 64 x|||BitVec.ofInt 64 o).toNat)));Q .normal [(0,.slice q r t),(4,.slice d e f),(7,.slice g i j),(8,.int .i64 k),(9,.int .i64 (i64.wrap (m+(1:Int))))] z) ((0<=m/\m<(b:Int))/\Is a fun a1:Addr=>∃b1:Int,w.cell? (a1.add (m.toNat*1))=some (.int .u64 b1)/\(0<=m/\m<(b:Int))/\Is a fun c1:Addr=>Wr w (c1.add (m.toNat*1))/\let d1:=w.setCell (c1.add (m.toNat*1)) (.int .u64 (u64.wrap ((BitVec.ofInt 64 b1|||BitVec.ofInt 64 o).toNat)));Q .normal [(0,.slice a b c),(4,.slice d e f),(7,.slice g i j),(8,.int .i64 k),(9,.int .i64 (i64.wrap (m+(1:Int))))] d1)) (Q (.exit 0) [(0,.slice a b c),(4,.slice d e f),(7,.slice g i j),(8,.int .i64 k),(9,.int .i64 m)] w)
theorem cf.b1:(aU none [] prog 30 cf.k (lB (bB (sR (sL (sR (body f102)))))) cf.u1 Q [(0,.slice a b c),(4,.slice d e f),(7,.slice g i j),(8,.int .i64 k),(9,.int .i64 m)] w)=cf.B1 a b c d e f g i j k m Q w:=by kernel_rfl
variable{d e f g i j k}
theorem cf.b6(I:(OA)×Nat×Nat×Int->World->Prop)(μ:(OA)×Nat×Nat×Int->World->Nat)(s:(OA)×Nat×Nat×Int){Q:aM}{w:World}(h0:I s w)
 (round:∀s w,I s w->cf.B1 (s.1) (s.2.1) (s.2.2.1) d e f g i j k (s.2.2.2) (bH (cf.e1 d e f g i j k) I μ s w Q) w):Holds none [] prog 30 (.loop (lB (bB (sR (sL (sR (body f102))))))) Q (cf.e1 d e f g i j k s) w:=
 ba ng mix (cf.e1 d e f g i j k) I μ cf.k cf.u1 s (fun s Q w=>cf.B1 (s.1) (s.2.1) (s.2.2.1) d e f g i j k (s.2.2.2) Q w) (fun s Q w=>cf.b1 (s.1) (s.2.1) (s.2.2.1) d e f g i j k (s.2.2.2) Q w) h0 round
end
section
def cf.cI(a:OA)(b c:Nat)(d:OA)(e f:Nat)(g:OA)(i j:Nat)(k m:Int)(K:KT)(w:World):Prop:=
 K (.slice a b c) w
variable(a:OA)(b c:Nat)(d:OA)(e f:Nat)(g:OA)(i j:Nat)(k m:Int)(K:KT)(w:World)
theorem cf.cX:(cf.q1 K (.exit 0) [(0,.slice a b c),(4,.slice d e f),(7,.slice g i j),(8,.int .i64 k),(9,.int .i64 m)] w)=cf.cI a b c d e f g i j k m K w:=by kernel_rfl
end
def eF.k:List Nat:= []
section
variable(a:AV)(b:Addr)(K:KT)(w:World)
def eF.W:Prop:=
 let d:=w.alloc (.cells a 23);∃e:OA,d.cell? b=some (.pointer e)/\∃f:AV,(f.size=32/\Cells d (⟨w.heap.size,0,none⟩:Addr) f)/\bj prog 79 #[.pointer e,.agg f] d fun g i=>∃j:Bool,g=.bool j/\K (.bool (!j)) i
variable{a b K w}
theorem eF.of(h:eF.W a b K w):bj prog 107 #[.agg a,.pointer (some b)] w K:=
 rqq func107 (C:=eF.k) h
end
def bK.k:List Nat:= []
def bK.q1(K:KT):aM:=(aL 0 (b7 (sR (sR (body f108)))++(aN f108)) (bQ (fun bV w_=>match cutAt bK.k (sR (sR (body f108)))with|true=>Holds none [] prog 24 (sR (sR (body f108))) (bI prog f108 K) bV w_|false=>aU none [] prog 24 bK.k (sR (sR (body f108))) (aN f108) (bI prog f108 K) bV w_) (bI prog f108 K)))
def bK.e1(a:Int)(b:OA)(c d:Nat)(s:(OA)×Nat×Nat):Env:= [(0,.slice s.1 s.2.1 s.2.2),(1,.int .i64 a),(4,.slice b c d)]
def bK.u1:List Nat:= [0,1,4]
section
variable(a:OA)(b d:Nat)(e:Int)(K:KT)(w:World)
def bK.W:Prop:=
 Holds none [] prog 24 (.loop (lB (bB (sL (sR (body f108)))))) (bK.q1 K) [(0,.slice a b d),(1,.int .i64 e),(4,.slice none 0 0)] w
variable{a b d e K w}
theorem bK.of(h:bK.W a b d e K w):bj prog 108 #[.slice a b d,.int .i64 e] w K:=
 rqq func108 (C:=bK.k) h
end
section
variable(a:OA)(b c:Nat)(d:Int)(e:OA)(f g:Nat)(Q:aM)(w:World)
def bK.B1:Prop:=
 (64:Int)≠0/\Split (decide ((b:Int)<=(i64.wrap (d.tdiv (64:Int))))) (let i:=w.alloc (.cells #[.int .u64 0] 49);∃(j:OA) (k m:Nat) (n:World),(Builtin.append_ #[148,148] 148 #[.slice a b c,.slice (some (⟨w.heap.size,0,none⟩:Addr)) 1 1]).run prog i=.ok (.slice j k m) n/\Q .normal [(0,.slice j k m),(1,.int .i64 d),(4,.slice e f g)] n) (Q (.exit 0) [(0,.slice a b c),(1,.int .i64 d),(4,.slice e f g)] w)
theorem bK.b1:(aU none [] prog 24 bK.k (lB (bB (sL (sR (body f108))))) bK.u1 Q [(0,.slice a b c),(1,.int .i64 d),(4,.slice e f g)] w)=bK.B1 a b c d e f g Q w:=by kernel_rfl
variable{d e f g}
theorem bK.b6(I:(OA)×Nat×Nat->World->Prop)(μ:(OA)×Nat×Nat->World->Nat)(s:(OA)×Nat×Nat){Q:aM}{w:World}(h0:I s w)
 (round:∀s w,I s w->bK.B1 (s.1) (s.2.1) (s.2.2) d e f g (bH (bK.e1 d e f g) I μ s w Q) w):Holds none [] prog 24 (.loop (lB (bB (sL (sR (body f108)))))) Q (bK.e1 d e f g s) w:=
 ba ng mix (bK.e1 d e f g) I μ bK.k bK.u1 s (fun s Q w=>bK.B1 (s.1) (s.2.1) (s.2.2) d e f g Q w) (fun s Q w=>bK.b1 (s.1) (s.2.1) (s.2.2) d e f g Q w) h0 round
end
section
def bK.cI(a:OA)(b c:Nat)(d:Int)(e:OA)(f g:Nat)(K:KT)(w:World):Prop:=
 let i:=w.drew;(64:Int)≠0/\(0<=(i64.wrap (d.tdiv (64:Int)))/\(i64.wrap (d.tdiv (64:Int)))<(b:Int))/\Is a fun j:Addr=>∃k:Int,i.cell? (j.add ((i64.wrap (d.tdiv (64:Int))).toNat*1))=some (.int .u64 k)/\(64:Int)≠0/\0<=(d.tmod (64:Int))/\(0<=(i64.wrap (d.tdiv (64:Int)))/\(i64.wrap (d.tdiv (64:Int)))<(b:Int))/\Is a fun m:Addr=>Wr i (m.add ((i64.wrap (d.tdiv (64:Int))).toNat*1))/\let n:=i.setCell (m.add ((i64.wrap (d.tdiv (64:Int))).toNat*1)) (.int .u64 (u64.wrap ((BitVec.ofInt 64 k|||BitVec.ofInt 64 (u64.wrap ((1:Int)*2 ^ (min (d.tmod (64:Int)).toNat 64)))).toNat)));K (.slice a b c) n
variable(a:OA)(b c:Nat)(d:Int)(e:OA)(f g:Nat)(K:KT)(w:World)
theorem bK.cX:(bK.q1 K (.exit 0) [(0,.slice a b c),(1,.int .i64 d),(4,.slice e f g)] w)=bK.cI a b c d e f g K w:=by kernel_rfl
end
def aq.k:List Nat:= []
def aq.q1(K:KT):aM:=(aL 0 (b7 (sR (sR (body f113)))++(aN f113)) (bQ (fun bV w_=>match cutAt aq.k (sR (sR (body f113)))with|true=>Holds none [] prog 19 (sR (sR (body f113))) (bI prog f113 K) bV w_|false=>aU none [] prog 19 aq.k (sR (sR (body f113))) (aN f113) (bI prog f113 K) bV w_) (bI prog f113 K)))
def aq.e1(a:OA)(b c:Nat)(d:Addr)(e:Int)(s:Int×Int):Env:= [(0,.slice a b c),(1,.func (.func 107) #[] #[.pointer (some d)]),(4,.int .i64 s.1),(7,.int .i64 e),(8,.int .i64 s.2)]
def aq.u1:List Nat:= [0,1,4,7,8]
section
variable(a:OA)(b d:Nat)(e:Addr)(K:KT)(w:World)
def aq.W:Prop:=
 Holds none [] prog 19 (.loop (lB (bB (sR (sL (sR (body f113))))))) (aq.q1 K) [(0,.slice a b d),(1,.func (.func 107) #[] #[.pointer (some e)]),(4,.int .i64 0),(7,.int .i64 (b:Int)),(8,.int .i64 0)] w
variable{a b d e K w}
theorem aq.of(h:aq.W a b d e K w):bj prog 113 #[.slice a b d,.func (.func 107) #[] #[.pointer (some e)]] w K:=
 rqq func113 (C:=aq.k) h
end
section
variable(a:OA)(b c:Nat)(d:Addr)(e f g:Int)(Q:aM)(w:World)
def aq.B1:Prop:=
 Split (decide (g<f)) ((0<=g/\g<(b:Int))/\Is a fun i:Addr=>∃j:AV,(j.size=32/\Cells w (i.add (g.toNat*32)) j)/\bj prog 107 #[.agg j,.pointer (some d)] w fun k m=>∃n:Bool,k=.bool n/\Split n (Q .ret [(0,.slice a b c),(1,.func (.func 107) #[] #[.pointer (some d)]),(4,.int .i64 g),(7,.int .i64 f),(8,.int .i64 g)] m) (Q .normal [(0,.slice a b c),(1,.func (.func 107) #[] #[.pointer (some d)]),(4,.int .i64 e),(7,.int .i64 f),(8,.int .i64 (i64.wrap (g+(1:Int))))] m)) (Q (.exit 0) [(0,.slice a b c),(1,.func (.func 107) #[] #[.pointer (some d)]),(4,.int .i64 e),(7,.int .i64 f),(8,.int .i64 g)] w)
theorem aq.b1:(aU none [] prog 19 aq.k (lB (bB (sR (sL (sR (body f113)))))) aq.u1 Q [(0,.slice a b c),(1,.func (.func 107) #[] #[.pointer (some d)]),(4,.int .i64 e),(7,.int .i64 f),(8,.int .i64 g)] w)=aq.B1 a b c d e f g Q w:=by kernel_rfl
variable{a b c d f}
theorem aq.b6(I:Int×Int->World->Prop)(μ:Int×Int->World->Nat)(s:Int×Int){Q:aM}{w:World}(h0:I s w)
 (round:∀s w,I s w->aq.B1 a b c d (s.1) f (s.2) (bH (aq.e1 a b c d f) I μ s w Q) w):Holds none [] prog 19 (.loop (lB (bB (sR (sL (sR (body f113))))))) Q (aq.e1 a b c d f s) w:=
 ba ng mix (aq.e1 a b c d f) I μ aq.k aq.u1 s (fun s Q w=>aq.B1 a b c d (s.1) f (s.2) Q w) (fun s Q w=>aq.b1 a b c d (s.1) f (s.2) Q w) h0 round
end
section
def aq.cI(a:OA)(b c:Nat)(d:Addr)(e f g:Int)(K:KT)(w:World):Prop:=
 K (.int .i64 (-1)) w
variable(a:OA)(b c:Nat)(d:Addr)(e f g:Int)(K:KT)(w:World)
theorem aq.cX:(aq.q1 K (.exit 0) [(0,.slice a b c),(1,.func (.func 107) #[] #[.pointer (some d)]),(4,.int .i64 e),(7,.int .i64 f),(8,.int .i64 g)] w)=aq.cI a b c d e f g K w:=by kernel_rfl
end
def bZ.k:List Nat:= []
section
variable(a:OA)(b d:Nat)(e:Addr)(K:KT)(w:World)
def bZ.W:Prop:=
 bj prog 113 #[.slice a b d,.func (.func 107) #[] #[.pointer (some e)]] w fun f g=>∃i:Int,f=.int .i64 i/\K (.bool (decide (i>=(0:Int)))) g
variable{a b d e K w}
theorem bZ.of(h:bZ.W a b d e K w):bj prog 85 #[.slice a b d,.func (.func 107) #[] #[.pointer (some e)]] w K:=
 rqq func85 (C:=bZ.k) h
end
def aI.k:List Nat:= []
def aI.q1(K:KT):aM:=(aL 0 (aN f120) (bI prog f120 K))
def aI.e1(a:Nat)(b:OA)(c d:Nat)(e s:Int):Env:= [(0,.func (.yield a) #[] #[]),(5,.slice b c d),(6,.int .i64 e),(7,.int .i64 s)]
def aI.u1:List Nat:= [0,5,6,7]
def aI.q2(Q:aM):aM:=(aL 2 (b7 (sR (sR (sR (lB (bB (sR (body f120)))))))++aI.u1) (aL 1 (b7 (sR (sR (sR (lB (bB (sR (body f120)))))))++aI.u1) (bQ (fun bV w_=>match cutAt aI.k (sR (sR (sR (lB (bB (sR (body f120)))))))with|true=>Holds none [] prog 27 (sR (sR (sR (lB (bB (sR (body f120))))))) Q bV w_|false=>aU none [] prog 27 aI.k (sR (sR (sR (lB (bB (sR (body f120))))))) aI.u1 Q bV w_) Q)))
def aI.e2(a:Nat)(b:Int)(c:OA)(d e:Nat)(f g s:Int):Env:= [(0,.func (.yield a) #[] #[]),(3,.int .i64 b),(4,.int .u64 s),(5,.slice c d e),(6,.int .i64 f),(7,.int .i64 g)]
def aI.u2:List Nat:= [0,3,4,5,6,7]
section
variable(a:Nat)(b:Addr)(K:KT)(w:World)
def aI.W:Prop:=
 ∃d:OA,∃e f:Nat,w.cell? b=some (.slice d e f)/\Holds none [] prog 27 (.loop (lB (bB (sR (body f120))))) (aI.q1 K) [(0,.func (.yield a) #[] #[]),(5,.slice d e f),(6,.int .i64 (e:Int)),(7,.int .i64 0)] w
variable{a b K w}
theorem aI.of(h:aI.W a b K w):bj prog 120 #[.func (.yield a) #[] #[],.pointer (some b)] w K:=
 rqq func120 (C:=aI.k) h
end
section
variable(a:Nat)(b:OA)(c d:Nat)(e f:Int)(Q:aM)(w:World)
def aI.B1:Prop:=
 Split (decide (f<e)) ((0<=f/\f<(c:Int))/\Is b fun g:Addr=>∃i:Int,w.cell? (g.add (f.toNat*1))=some (.int .u64 i)/\Holds none [] prog 27 (.loop (lB (bB (sR (bB (sL (sR (sR (lB (bB (sR (body f120)))))))))))) (aI.q2 Q) [(0,.func (.yield a) #[] #[]),(3,.int .i64 f),(4,.int .u64 i),(5,.slice b c d),(6,.int .i64 e),(7,.int .i64 f)] w) (Q (.exit 0) [(0,.func (.yield a) #[] #[]),(5,.slice b c d),(6,.int .i64 e),(7,.int .i64 f)] w)
theorem aI.b1:(aU none [] prog 27 aI.k (lB (bB (sR (body f120)))) aI.u1 Q [(0,.func (.yield a) #[] #[]),(5,.slice b c d),(6,.int .i64 e),(7,.int .i64 f)] w)=aI.B1 a b c d e f Q w:=by kernel_rfl
variable{a b c d e}
theorem aI.b6(I:Int->World->Prop)(μ:Int->World->Nat)(s:Int){Q:aM}{w:World}(h0:I s w)
 (round:∀s w,I s w->aI.B1 a b c d e s (bH (aI.e1 a b c d e) I μ s w Q) w):Holds none [] prog 27 (.loop (lB (bB (sR (body f120))))) Q (aI.e1 a b c d e s) w:=
 ba ng mix (aI.e1 a b c d e) I μ aI.k aI.u1 s (fun s Q w=>aI.B1 a b c d e s Q w) (fun s Q w=>aI.b1 a b c d e s Q w) h0 round
end
section
def aI.cI(a:Nat)(b:OA)(c d:Nat)(e f:Int)(K:KT)(w:World):Prop:=
 K (.tuple #[]) w
variable(a:Nat)(b:OA)(c d:Nat)(e f:Int)(K:KT)(w:World)
theorem aI.cX:(aI.q1 K (.exit 0) [(0,.func (.yield a) #[] #[]),(5,.slice b c d),(6,.int .i64 e),(7,.int .i64 f)] w)=aI.cI a b c d e f K w:=by kernel_rfl
end
section
variable(a:Nat)(b c:Int)(d:OA)(e f:Nat)(g i:Int)(Q:aM)(w:World)
def aI.B2:Prop:=
 Split (c != (0:Int)) (bj prog 121 #[.int .u64 c] w fun j k=>∃m:Int,j=.int .i64 m/\jW prog a #[.int .i64 (i64.wrap ((i64.wrap ((64:Int)*b))+m))] k fun n o=>Split (!n) (Q .ret [(0,.func (.yield a) #[] #[]),(3,.int .i64 b),(4,.int .u64 c),(5,.slice d e f),(6,.int .i64 g),(7,.int .i64 i)] o) (Q .normal [(0,.func (.yield a) #[] #[]),(3,.int .i64 b),(4,.int .u64 (u64.wrap ((BitVec.ofInt 64 c&&& BitVec.ofInt 64 (u64.wrap (c-(1:Int)))).toNat))),(5,.slice d e f),(6,.int .i64 g),(7,.int .i64 i)] o)) (Q (.exit 2) [(0,.func (.yield a) #[] #[]),(3,.int .i64 b),(4,.int .u64 c),(5,.slice d e f),(6,.int .i64 g),(7,.int .i64 i)] w)
theorem aI.b2:(aU none [] prog 27 aI.k (lB (bB (sR (bB (sL (sR (sR (lB (bB (sR (body f120))))))))))) aI.u2 Q [(0,.func (.yield a) #[] #[]),(3,.int .i64 b),(4,.int .u64 c),(5,.slice d e f),(6,.int .i64 g),(7,.int .i64 i)] w)=aI.B2 a b c d e f g i Q w:=by kernel_rfl
variable{a b d e f g i}
theorem aI.gI(I:Int->World->Prop)(μ:Int->World->Nat)(s:Int){Q:aM}{w:World}(h0:I s w)
 (round:∀s w,I s w->aI.B2 a b s d e f g i (bH (aI.e2 a b d e f g i) I μ s w Q) w):Holds none [] prog 27 (.loop (lB (bB (sR (bB (sL (sR (sR (lB (bB (sR (body f120)))))))))))) Q (aI.e2 a b d e f g i s) w:=
 ba ng mix (aI.e2 a b d e f g i) I μ aI.k aI.u2 s (fun s Q w=>aI.B2 a b s d e f g i Q w) (fun s Q w=>aI.b2 a b s d e f g i Q w) h0 round
end
section
def aI.iE(a:Nat)(b c:Int)(d:OA)(e f:Nat)(g i:Int)(Q:aM)(w:World):Prop:=
 Q .normal [(0,.func (.yield a) #[] #[]),(5,.slice d e f),(6,.int .i64 g),(7,.int .i64 (i64.wrap (i+(1:Int))))] w
variable(a:Nat)(b c:Int)(d:OA)(e f:Nat)(g i:Int)(Q:aM)(w:World)
theorem aI.jJ:(aI.q2 Q (.exit 2) [(0,.func (.yield a) #[] #[]),(3,.int .i64 b),(4,.int .u64 c),(5,.slice d e f),(6,.int .i64 g),(7,.int .i64 i)] w)=aI.iE a b c d e f g i Q w:=by kernel_rfl
end
def aD.k:List Nat:= []
def aD.q1(K:KT):aM:=(aL 0 (aN f99) (bI prog f99 K))
def aD.e1(a:Nat)(b:OA)(c d:Nat)(e s:Int):Env:= [(0,.func (.yield a) #[] #[]),(5,.slice b c d),(6,.int .i64 e),(7,.int .i64 s)]
def aD.u1:List Nat:= [0,5,6,7]
section
variable(a:Nat)(b:Addr)(K:KT)(w:World)
def aD.W:Prop:=
 ∃d:OA,∃e f:Nat,w.cell? b=some (.slice d e f)/\Holds none [] prog 16 (.loop (lB (bB (sR (body f99))))) (aD.q1 K) [(0,.func (.yield a) #[] #[]),(5,.slice d e f),(6,.int .i64 (e:Int)),(7,.int .i64 0)] w
variable{a b K w}
theorem aD.of(h:aD.W a b K w):bj prog 99 #[.func (.yield a) #[] #[],.pointer (some b)] w K:=
 rqq func99 (C:=aD.k) h
end
section
variable(a:Nat)(b:OA)(c d:Nat)(e f:Int)(Q:aM)(w:World)
def aD.B1:Prop:=
 Split (decide (f<e)) ((0<=f/\f<(c:Int))/\Is b fun g:Addr=>∃i:AV,(i.size=32/\Cells w (g.add (f.toNat*32)) i)/\let j:=w.alloc (.cells zH 23);(i.size=32/\(∀k∈i.toList,k.oneCell'=true)/\∀m,m<32->Wr j ((⟨w.heap.size,0,none⟩:Addr).add m))/\let n:=setCells j (⟨w.heap.size,0,none⟩:Addr) i.toList 0;∃o:AV,(o.size=32/\Cells n (⟨w.heap.size,0,none⟩:Addr) o)/\jW prog a #[.agg o] n fun p q=>Split (!p) (Q .ret [(0,.func (.yield a) #[] #[]),(5,.slice b c d),(6,.int .i64 e),(7,.int .i64 f)] q) (Q .normal [(0,.func (.yield a) #[] #[]),(5,.slice b c d),(6,.int .i64 e),(7,.int .i64 (i64.wrap (f+(1:Int))))] q)) (Q (.exit 0) [(0,.func (.yield a) #[] #[]),(5,.slice b c d),(6,.int .i64 e),(7,.int .i64 f)] w)
theorem aD.b1:(aU none [] prog 16 aD.k (lB (bB (sR (body f99)))) aD.u1 Q [(0,.func (.yield a) #[] #[]),(5,.slice b c d),(6,.int .i64 e),(7,.int .i64 f)] w)=aD.B1 a b c d e f Q w:=by kernel_rfl
variable{a b c d e}
theorem aD.b6(I:Int->World->Prop)(μ:Int->World->Nat)(s:Int){Q:aM}{w:World}(h0:I s w)
 (round:∀s w,I s w->aD.B1 a b c d e s (bH (aD.e1 a b c d e) I μ s w Q) w):Holds none [] prog 16 (.loop (lB (bB (sR (body f99))))) Q (aD.e1 a b c d e s) w:=
 ba ng mix (aD.e1 a b c d e) I μ aD.k aD.u1 s (fun s Q w=>aD.B1 a b c d e s Q w) (fun s Q w=>aD.b1 a b c d e s Q w) h0 round
end
section
def aD.cI(a:Nat)(b:OA)(c d:Nat)(e f:Int)(K:KT)(w:World):Prop:=
 K (.tuple #[]) w
variable(a:Nat)(b:OA)(c d:Nat)(e f:Int)(K:KT)(w:World)
theorem aD.cX:(aD.q1 K (.exit 0) [(0,.func (.yield a) #[] #[]),(5,.slice b c d),(6,.int .i64 e),(7,.int .i64 f)] w)=aD.cI a b c d e f K w:=by kernel_rfl
end
end Go.Proofs.YtnboahlopghcjaaGreatDoor
