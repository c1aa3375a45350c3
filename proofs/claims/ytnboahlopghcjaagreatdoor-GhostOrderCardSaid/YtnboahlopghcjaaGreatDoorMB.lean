import Derived.Test.YtnboahlopghcjaaGreatDoorProg
import Derived.Test.YtnboahlopghcjaaGreatDoorMA
open Go.IntKind (i64 u64)
set_option linter.unusedVariables false
namespace Go.Proofs.YtnboahlopghcjaaGreatDoor
open Go.Proofs.Tryz
open Go Go.bP
abbrev OA:=Option Addr
abbrev AV:=Array Value
abbrev KT:=Value->World->Prop
abbrev zH:Array Value:= #[.int .u8 0,.int .u8 0,.int .u8 0,.int .u8 0,.int .u8 0,.int .u8 0,.int .u8 0,.int .u8 0,.int .u8 0,.int .u8 0,.int .u8 0,.int .u8 0,.int .u8 0,.int .u8 0,.int .u8 0,.int .u8 0,.int .u8 0,.int .u8 0,.int .u8 0,.int .u8 0,.int .u8 0,.int .u8 0,.int .u8 0,.int .u8 0,.int .u8 0,.int .u8 0,.int .u8 0,.int .u8 0,.int .u8 0,.int .u8 0,.int .u8 0,.int .u8 0]
abbrev zC:Array Value:= #[.int .u8 0,.int .u8 0,.int .u8 0,.int .u8 0,.int .u8 0,.int .u8 0,.int .u8 0,.int .u8 0,.int .u8 0,.int .u8 0,.int .u8 0,.int .u8 0,.int .u8 0,.int .u8 0,.int .u8 0,.int .u8 0,.int .u8 0,.int .u8 0,.int .u8 0,.int .u8 0,.int .u8 0,.int .u8 0,.int .u8 0,.int .u8 0,.int .u8 0,.int .u8 0,.int .u8 0,.int .u8 0,.int .u8 0,.int .u8 0,.int .u8 0,.int .u8 0,.int .u64 0,.slice none 0 0,.slice none 0 0]
abbrev zS:Array Value:= #[.int .u8 0,.int .u8 0,.int .u8 0,.int .u8 0,.int .u8 0,.int .u8 0,.int .u8 0,.int .u8 0,.int .u8 0,.int .u8 0,.int .u8 0,.int .u8 0,.int .u8 0,.int .u8 0,.int .u8 0,.int .u8 0,.int .u8 0,.int .u8 0,.int .u8 0,.int .u8 0,.int .u8 0,.int .u8 0,.int .u8 0,.int .u8 0,.int .u8 0,.int .u8 0,.int .u8 0,.int .u8 0,.int .u8 0,.int .u8 0,.int .u8 0,.int .u8 0,.int .u64 0,.slice none 0 0,.slice none 0 0,.map none]
abbrev fR:Nat:=3
abbrev gJ:Nat:=4
abbrev ik:Nat:=5
abbrev aj:Nat:=23
abbrev eR:Nat:=25
abbrev gD:Nat:=28
abbrev az:Nat:=35
abbrev ct:Nat:=36
abbrev gP:Nat:=38
abbrev iW:Nat:=40
abbrev sV:Nat:=42
abbrev fi:Nat:=43
abbrev fZ:Nat:=45
abbrev bK:Nat:=48
abbrev ir:Nat:=49
abbrev fT:Nat:=50
abbrev bg:Nat:=52
abbrev fH:Nat:=73
abbrev lL:Nat:=76
abbrev jY:Nat:=77
abbrev eB:Nat:=80
abbrev gu:Nat:=82
abbrev eT:Nat:=88
abbrev ck:Nat:=89
abbrev dH:Nat:=91
abbrev eW:Nat:=98
abbrev fY:Nat:=107
abbrev dV:Nat:=109
abbrev kL:Nat:=113
abbrev gE:Nat:=115
abbrev rR:Nat:=128
abbrev kz:Nat:=129
abbrev iM:Nat:=140
abbrev gS:Nat:=141
abbrev sC:Nat:=143
abbrev eU:Nat:=146
abbrev zw:Nat:=147
abbrev jW:Nat:=148
abbrev dE:Nat:=150
abbrev vE:Nat:=187
abbrev ae.id:Nat:=3
abbrev cr.id:Nat:=9
abbrev gz.id:Nat:=10
abbrev aG.id:Nat:=11
abbrev gq.id:Nat:=12
abbrev cC.id:Nat:=13
abbrev dt.id:Nat:=14
abbrev dR.id:Nat:=15
abbrev bZ.id:Nat:=16
abbrev df.id:Nat:=18
abbrev bf.id:Nat:=19
abbrev aU.id:Nat:=20
abbrev af.id:Nat:=21
abbrev dA.id:Nat:=22
abbrev dO.id:Nat:=25
abbrev aF.id:Nat:=26
abbrev bV.id:Nat:=27
abbrev aL.id:Nat:=28
abbrev dP.id:Nat:=32
abbrev ju.id:Nat:=37
abbrev dr.id:Nat:=38
abbrev au.id:Nat:=39
abbrev dM.id:Nat:=40
abbrev iJ.id:Nat:=41
abbrev ai.id:Nat:=42
abbrev aA.id:Nat:=43
abbrev gA.id:Nat:=44
abbrev dQ.id:Nat:=45
abbrev lh.id:Nat:=46
abbrev bn.id:Nat:=47
abbrev bt.id:Nat:=48
abbrev di.id:Nat:=49
abbrev dB.id:Nat:=50
abbrev aX.id:Nat:=51
abbrev bz.id:Nat:=52
abbrev fy.id:Nat:=53
abbrev cu.id:Nat:=54
abbrev e9.id:Nat:=55
abbrev eZ.id:Nat:=56
abbrev fG.id:Nat:=60
abbrev jv.id:Nat:=61
abbrev bk.id:Nat:=62
abbrev e8.id:Nat:=63
abbrev lU.id:Nat:=64
abbrev eh.id:Nat:=65
abbrev ah.id:Nat:=66
abbrev dp.id:Nat:=69
abbrev aP.id:Nat:=70
abbrev dC.id:Nat:=71
abbrev iA.id:Nat:=72
abbrev ag.id:Nat:=73
abbrev cV.id:Nat:=74
abbrev bS.id:Nat:=75
abbrev aY.id:Nat:=76
abbrev cj.id:Nat:=77
abbrev eJ.id:Nat:=78
abbrev fP.id:Nat:=79
abbrev br.id:Nat:=80
abbrev cX.id:Nat:=81
abbrev fN.id:Nat:=82
abbrev cQ.id:Nat:=83
abbrev dw.id:Nat:=84
abbrev du.id:Nat:=85
abbrev bA.id:Nat:=87
abbrev dq.id:Nat:=88
abbrev aV.id:Nat:=89
abbrev fh.id:Nat:=90
abbrev dm.id:Nat:=92
abbrev gY.id:Nat:=93
abbrev cJ.id:Nat:=98
abbrev aC.id:Nat:=99
abbrev gI.id:Nat:=100
abbrev fC.id:Nat:=101
abbrev b0.id:Nat:=102
abbrev cH.id:Nat:=104
abbrev gg.id:Nat:=105
abbrev bits_Len.id:Nat:=106
abbrev dS.id:Nat:=107
abbrev bH.id:Nat:=108
abbrev fM.id:Nat:=109
abbrev ft.id:Nat:=110
abbrev fu.id:Nat:=111
abbrev aw.id:Nat:=112
abbrev aK.id:Nat:=118
abbrev aH.id:Nat:=120
abbrev bits_TrailingZeros64.id:Nat:=121
abbrev iD.id:Nat:=122
abbrev jm.id:Nat:=123
abbrev iE.id:Nat:=124
abbrev iN.id:Nat:=125
abbrev iF.id:Nat:=126
abbrev gF.id:Nat:=127
abbrev iX.id:Nat:=129
abbrev bits_Len64.id:Nat:=131
abbrev bp.id:Nat:=132
abbrev bits_Mul64.id:Nat:=133
abbrev aZ.id:Nat:=134
abbrev jl.id:Nat:=135
abbrev oh.id:Nat:=137
abbrev jH.id:Nat:=139
abbrev bits_LeadingZeros64.id:Nat:=140
abbrev jG.id:Nat:=141
noncomputable abbrev af.fn:Func:=Tryz.f21
noncomputable abbrev ai.fn:Func:=f42
noncomputable abbrev aw.fn:Func:=f112
noncomputable abbrev aZ.fn:Func:=f134
theorem dp.at_:prog.funcs[(69:Nat)]? =some f69:=func69
theorem bS.at_:prog.funcs[(75:Nat)]? =some f75:=func75
theorem cj.at_:prog.funcs[(77:Nat)]? =some f77:=func77
theorem aV.at_:prog.funcs[(89:Nat)]? =some f89:=func89
theorem aC.at_:prog.funcs[(99:Nat)]? =some f99:=func99
theorem sS.at_:prog.funcs[(119:Nat)]? =some f119:=func119
theorem aH.at_:prog.funcs[(120:Nat)]? =some f120:=func120
theorem ng:NG prog:=by
 have h:(prog.funcs.toList.all fun f=> !(f.name== "runtime.NumGoroutine"))=true:=by kernel_rfl
 intro g fn hf;rw [List.all_eq_true]at h;have:=h fn (by simpa using Array.mem_of_getElem? hf);simpa using this
theorem mix:prog.follows .mixedOrders=true:=by kernel_rfl
theorem rqq{C:List Nat}{f:FuncId}{fn:Func}{args:List Value}{w:World}{K:Value->World->Prop}{W:Prop}(hf:prog.funcs[f]? =some fn)(h:W)(hb:fn.body=some (body fn):=by kernel_rfl)(hn:(Nat.ble args.length fn.ntmps&&Nat.ble fn.ntmps gB)=true:=by kernel_rfl)(hs:aO none [] prog fn.ntmps C (body fn) (aT fn) (bO prog fn K) (ns args 0) w=W:=by kernel_rfl):bj prog f args.toArray w K:=DE ng mix hf hb hn hs h
def cC.k:List Nat:= []
def cC.q1(K:KT):aM:=(aI 0 (bM (sR (sR (body f13)))++(aT f13)) (bD (fun bE w_=>match cutAt cC.k (sR (sR (body f13)))with|true=>Holds none [] prog 18 (sR (sR (body f13))) (bO prog f13 K) bE w_|false=>aO none [] prog 18 cC.k (sR (sR (body f13))) (aT f13) (bO prog f13 K) bE w_) (bO prog f13 K)))
def cC.e1(a:OA)(b c:Nat)(d:Addr)(s:Bool×Int):Env:= [(0,.slice a b c),(3,.pointer (some d)),(4,.bool s.1),(5,.int .i64 s.2)]
def cC.u1:List Nat:= [0,3,4,5]
section
variable(a:OA)(b d:Nat)(e:AV)(K:KT)(w:World)
def cC.W:Prop:=
 let f:=w.alloc (.cells e 23);Holds none [] prog 18 (.loop (lB (bB (sR (sL (sR (body f13))))))) (cC.q1 K) [(0,.slice a b d),(3,.pointer (some (⟨w.heap.size,0,none⟩:Addr))),(4,.bool false),(5,.int .i64 0)] f
variable{a b d e K w}
theorem cC.of(h:cC.W a b d e K w):bj prog 13 #[.slice a b d,.agg e] w K:=
 rqq func13 (C:=cC.k) h
end
section
variable(a:OA)(b c:Nat)(d:Addr)(e:Bool)(f:Int)(Q:aM)(w:World)
def cC.B1:Prop:=
 Split (decide (f<(b:Int))) (let g:=w.drew;(0<=f/\f<(b:Int))/\Is a fun i:Addr=>∃j:AV,(j.size=32/\Cells g (i.add (f.toNat*32)) j)/\∃k:AV,(k.size=32/\Cells g d k)/\(dD .u8 32 j/\dD .u8 32 k)/\Split (ek j k) (Q .ret [(0,.slice a b c),(3,.pointer (some d)),(4,.bool true),(5,.int .i64 f)] g) (Q .normal [(0,.slice a b c),(3,.pointer (some d)),(4,.bool e),(5,.int .i64 (i64.wrap (f+(1:Int))))] g)) (Q (.exit 0) [(0,.slice a b c),(3,.pointer (some d)),(4,.bool e),(5,.int .i64 f)] w)
theorem cC.b1:(aO none [] prog 18 cC.k (lB (bB (sR (sL (sR (body f13)))))) cC.u1 Q [(0,.slice a b c),(3,.pointer (some d)),(4,.bool e),(5,.int .i64 f)] w)=cC.B1 a b c d e f Q w:=by kernel_rfl
variable{a b c d}
theorem cC.b7(I:Bool×Int->World->Prop)(μ:Bool×Int->World->Nat)(s:Bool×Int){Q:aM}{w:World}(h0:I s w)
 (round:∀s w,I s w->cC.B1 a b c d (s.1) (s.2) (bI (cC.e1 a b c d) I μ s w Q) w):Holds none [] prog 18 (.loop (lB (bB (sR (sL (sR (body f13))))))) Q (cC.e1 a b c d s) w:=
 ba ng mix (cC.e1 a b c d) I μ cC.k cC.u1 s (fun s Q w=>cC.B1 a b c d (s.1) (s.2) Q w) (fun s Q w=>cC.b1 a b c d (s.1) (s.2) Q w) h0 round
end
section
def cC.cK(a:OA)(b c:Nat)(d:Addr)(e:Bool)(f:Int)(K:KT)(w:World):Prop:=
 K (.bool false) w
variable(a:OA)(b c:Nat)(d:Addr)(e:Bool)(f:Int)(K:KT)(w:World)
theorem cC.c8:(cC.q1 K (.exit 0) [(0,.slice a b c),(3,.pointer (some d)),(4,.bool e),(5,.int .i64 f)] w)=cC.cK a b c d e f K w:=by kernel_rfl
end
def bV.k:List Nat:= []
def bV.q1(K:KT):aM:=(aI 0 (bM (sR (sR (sR (body Tryz.f27))))++(aT Tryz.f27)) (bD (fun bE w_=>match cutAt bV.k (sR (sR (sR (body Tryz.f27))))with|true=>Holds none [] prog 26 (sR (sR (sR (body Tryz.f27)))) (bO prog Tryz.f27 K) bE w_|false=>aO none [] prog 26 bV.k (sR (sR (sR (body Tryz.f27)))) (aT Tryz.f27) (bO prog Tryz.f27 K) bE w_) (bO prog Tryz.f27 K)))
def bV.e1(a:OA)(b c:Nat)(d:OA)(e f:Nat)(s:Bool×Int):Env:= [(0,.slice a b c),(1,.slice d e f),(4,.bool s.1),(5,.int .i64 s.2)]
def bV.u1:List Nat:= [0,1,4,5]
section
variable(a:OA)(b d:Nat)(e:OA)(f g:Nat)(K:KT)(w:World)
def bV.W:Prop:=
 Split ((b:Int) != (f:Int)) (K (.bool false) w) (Holds none [] prog 26 (.loop (lB (bB (sR (sL (sR (sR (body Tryz.f27)))))))) (bV.q1 K) [(0,.slice a b d),(1,.slice e f g),(4,.bool false),(5,.int .i64 0)] w)
variable{a b d e f g K w}
theorem bV.of(h:bV.W a b d e f g K w):bj prog 27 #[.slice a b d,.slice e f g] w K:=
 rqq func27 (C:=bV.k) h
end
section
variable(a:OA)(b c:Nat)(d:OA)(e f:Nat)(g:Bool)(i:Int)(Q:aM)(w:World)
def bV.B1:Prop:=
 Split (decide (i<(b:Int))) (let j:=w.drew;(0<=i/\i<(b:Int))/\Is a fun k:Addr=>∃m:AV,(m.size=32/\Cells j (k.add (i.toNat*32)) m)/\(0<=i/\i<(e:Int))/\Is d fun n:Addr=>∃o:AV,(o.size=32/\Cells j (n.add (i.toNat*32)) o)/\(dD .u8 32 m/\dD .u8 32 o)/\Split (!(ek m o)) (Q .ret [(0,.slice a b c),(1,.slice d e f),(4,.bool false),(5,.int .i64 i)] j) (Q .normal [(0,.slice a b c),(1,.slice d e f),(4,.bool g),(5,.int .i64 (i64.wrap (i+(1:Int))))] j)) (Q (.exit 0) [(0,.slice a b c),(1,.slice d e f),(4,.bool g),(5,.int .i64 i)] w)
theorem bV.b1:(aO none [] prog 26 bV.k (lB (bB (sR (sL (sR (sR (body Tryz.f27))))))) bV.u1 Q [(0,.slice a b c),(1,.slice d e f),(4,.bool g),(5,.int .i64 i)] w)=bV.B1 a b c d e f g i Q w:=by kernel_rfl
variable{a b c d e f}
theorem bV.b7(I:Bool×Int->World->Prop)(μ:Bool×Int->World->Nat)(s:Bool×Int){Q:aM}{w:World}(h0:I s w)
 (round:∀s w,I s w->bV.B1 a b c d e f (s.1) (s.2) (bI (bV.e1 a b c d e f) I μ s w Q) w):Holds none [] prog 26 (.loop (lB (bB (sR (sL (sR (sR (body Tryz.f27)))))))) Q (bV.e1 a b c d e f s) w:=
 ba ng mix (bV.e1 a b c d e f) I μ bV.k bV.u1 s (fun s Q w=>bV.B1 a b c d e f (s.1) (s.2) Q w) (fun s Q w=>bV.b1 a b c d e f (s.1) (s.2) Q w) h0 round
end
section
def bV.cK(a:OA)(b c:Nat)(d:OA)(e f:Nat)(g:Bool)(i:Int)(K:KT)(w:World):Prop:=
 K (.bool true) w
variable(a:OA)(b c:Nat)(d:OA)(e f:Nat)(g:Bool)(i:Int)(K:KT)(w:World)
theorem bV.c8:(bV.q1 K (.exit 0) [(0,.slice a b c),(1,.slice d e f),(4,.bool g),(5,.int .i64 i)] w)=bV.cK a b c d e f g i K w:=by kernel_rfl
end
def aL.k:List Nat:= []
def aL.q1(K:KT):aM:=(aI 0 (bM (sR (sR (sR (body Tryz.f28))))++(aT Tryz.f28)) (bD (fun bE w_=>match cutAt aL.k (sR (sR (sR (body Tryz.f28))))with|true=>Holds none [] prog 56 (sR (sR (sR (body Tryz.f28)))) (bO prog Tryz.f28 K) bE w_|false=>aO none [] prog 56 aL.k (sR (sR (sR (body Tryz.f28)))) (aT Tryz.f28) (bO prog Tryz.f28 K) bE w_) (bO prog Tryz.f28 K)))
def aL.e1(a:OA)(b c:Nat)(d:OA)(e f:Nat)(s:(OA)×Nat×Nat×Int):Env:= [(0,.slice a b c),(2,.slice d e f),(3,.slice s.1 s.2.1 s.2.2.1),(4,.int .i64 s.2.2.2)]
def aL.u1:List Nat:= [0,2,3,4]
def aL.q2(Q:aM):aM:=(aI 2 (bM (sR (sR (sR (bB (sL (sR (lB (bB (sR (sL (sR (sR (body Tryz.f28)))))))))))))++(bM (sR (sR (lB (bB (sR (sL (sR (sR (body Tryz.f28)))))))))++aL.u1)) (bD (fun bE w_=>match cutAt aL.k (sR (sR (sR (bB (sL (sR (lB (bB (sR (sL (sR (sR (body Tryz.f28)))))))))))))with|true=>Holds none [] prog 56 (sR (sR (sR (bB (sL (sR (lB (bB (sR (sL (sR (sR (body Tryz.f28))))))))))))) (aI 1 (bM (sR (sR (lB (bB (sR (sL (sR (sR (body Tryz.f28)))))))))++aL.u1) (bD (fun bE w_=>match cutAt aL.k (sR (sR (lB (bB (sR (sL (sR (sR (body Tryz.f28)))))))))with|true=>Holds none [] prog 56 (sR (sR (lB (bB (sR (sL (sR (sR (body Tryz.f28))))))))) Q bE w_|false=>aO none [] prog 56 aL.k (sR (sR (lB (bB (sR (sL (sR (sR (body Tryz.f28))))))))) aL.u1 Q bE w_) Q)) bE w_|false=>aO none [] prog 56 aL.k (sR (sR (sR (bB (sL (sR (lB (bB (sR (sL (sR (sR (body Tryz.f28))))))))))))) (bM (sR (sR (lB (bB (sR (sL (sR (sR (body Tryz.f28)))))))))++aL.u1) (aI 1 (bM (sR (sR (lB (bB (sR (sL (sR (sR (body Tryz.f28)))))))))++aL.u1) (bD (fun bE w_=>match cutAt aL.k (sR (sR (lB (bB (sR (sL (sR (sR (body Tryz.f28)))))))))with|true=>Holds none [] prog 56 (sR (sR (lB (bB (sR (sL (sR (sR (body Tryz.f28))))))))) Q bE w_|false=>aO none [] prog 56 aL.k (sR (sR (lB (bB (sR (sL (sR (sR (body Tryz.f28))))))))) aL.u1 Q bE w_) Q)) bE w_) (aI 1 (bM (sR (sR (lB (bB (sR (sL (sR (sR (body Tryz.f28)))))))))++aL.u1) (bD (fun bE w_=>match cutAt aL.k (sR (sR (lB (bB (sR (sL (sR (sR (body Tryz.f28)))))))))with|true=>Holds none [] prog 56 (sR (sR (lB (bB (sR (sL (sR (sR (body Tryz.f28))))))))) Q bE w_|false=>aO none [] prog 56 aL.k (sR (sR (lB (bB (sR (sL (sR (sR (body Tryz.f28))))))))) aL.u1 Q bE w_) Q))))
def aL.e2(a:OA)(b c:Nat)(d:OA)(e f:Nat)(g:OA)(i j:Nat)(k s:Int):Env:= [(0,.slice a b c),(2,.slice d e f),(3,.slice g i j),(4,.int .i64 k),(5,.int .i64 s)]
def aL.u2:List Nat:= [0,2,3,4,5]
section
variable(a:OA)(b d:Nat)(K:KT)(w:World)
def aL.W:Prop:=
 Holds none [] prog 56 (.loop (lB (bB (sR (sL (sR (sR (body Tryz.f28)))))))) (aL.q1 K) [(0,.slice a b d),(2,.slice none 0 0),(3,.slice none 0 0),(4,.int .i64 0)] w
variable{a b d K w}
theorem aL.of(h:aL.W a b d K w):bj prog 28 #[.slice a b d] w K:=
 rqq func28 (C:=aL.k) h
end
section
variable(a:OA)(b c:Nat)(d:OA)(e f:Nat)(g:OA)(i j:Nat)(k:Int)(Q:aM)(w:World)
def aL.B1:Prop:=
 Split (decide (k<(b:Int))) ((0<=k/\k<(b:Int))/\Is a fun m:Addr=>∃n:AV,(n.size=32/\Cells w (m.add (k.toNat*32)) n)/\bj prog 13 #[.slice g i j,.agg n] w fun o p=>∃q:Bool,o=.bool q/\Split q (Q .normal [(0,.slice a b c),(2,.slice d e f),(3,.slice g i j),(4,.int .i64 (i64.wrap (k+(1:Int))))] p) (Holds none [] prog 56 (.loop (lB (bB (sL (sR (sR (bB (sL (sR (lB (bB (sR (sL (sR (sR (body Tryz.f28)))))))))))))))) (aL.q2 Q) [(0,.slice a b c),(2,.slice d e f),(3,.slice g i j),(4,.int .i64 k),(5,.int .i64 (i:Int))] p)) (Q (.exit 0) [(0,.slice a b c),(2,.slice d e f),(3,.slice g i j),(4,.int .i64 k)] w)
theorem aL.b1:(aO none [] prog 56 aL.k (lB (bB (sR (sL (sR (sR (body Tryz.f28))))))) aL.u1 Q [(0,.slice a b c),(2,.slice d e f),(3,.slice g i j),(4,.int .i64 k)] w)=aL.B1 a b c d e f g i j k Q w:=by kernel_rfl
variable{a b c d e f}
theorem aL.b7(I:(OA)×Nat×Nat×Int->World->Prop)(μ:(OA)×Nat×Nat×Int->World->Nat)(s:(OA)×Nat×Nat×Int){Q:aM}{w:World}(h0:I s w)
 (round:∀s w,I s w->aL.B1 a b c d e f (s.1) (s.2.1) (s.2.2.1) (s.2.2.2) (bI (aL.e1 a b c d e f) I μ s w Q) w):Holds none [] prog 56 (.loop (lB (bB (sR (sL (sR (sR (body Tryz.f28)))))))) Q (aL.e1 a b c d e f s) w:=
 ba ng mix (aL.e1 a b c d e f) I μ aL.k aL.u1 s (fun s Q w=>aL.B1 a b c d e f (s.1) (s.2.1) (s.2.2.1) (s.2.2.2) Q w) (fun s Q w=>aL.b1 a b c d e f (s.1) (s.2.1) (s.2.2.1) (s.2.2.2) Q w) h0 round
end
section
def aL.cK(a:OA)(b c:Nat)(d:OA)(e f:Nat)(g:OA)(i j:Nat)(k:Int)(K:KT)(w:World):Prop:=
 K (.slice g i j) w
variable(a:OA)(b c:Nat)(d:OA)(e f:Nat)(g:OA)(i j:Nat)(k:Int)(K:KT)(w:World)
theorem aL.c8:(aL.q1 K (.exit 0) [(0,.slice a b c),(2,.slice d e f),(3,.slice g i j),(4,.int .i64 k)] w)=aL.cK a b c d e f g i j k K w:=by kernel_rfl
end
section
variable(a:OA)(b c:Nat)(d:OA)(e f:Nat)(g:OA)(i j:Nat)(k m:Int)(Q:aM)(w:World)
def aL.B2:Prop:=
 let n:=w.drew;Split (decide (m>(0:Int))) ((0<=k/\k<(b:Int))/\Is a fun o:Addr=>∃p:AV,(p.size=32/\Cells n (o.add (k.toNat*32)) p)/\(0<=(i64.wrap (m-(1:Int)))/\(i64.wrap (m-(1:Int)))<(i:Int))/\Is g fun q:Addr=>∃r:AV,(r.size=32/\Cells n (q.add ((i64.wrap (m-(1:Int))).toNat*32)) r)/\bj prog 52 #[.agg p,.agg r] n fun t u=>∃v:Int,t=.int .i64 v/\Split (decide (v<(0:Int))) (Q .normal [(0,.slice a b c),(2,.slice d e f),(3,.slice g i j),(4,.int .i64 k),(5,.int .i64 (i64.wrap (m-(1:Int))))] u) (Q (.exit 2) [(0,.slice a b c),(2,.slice d e f),(3,.slice g i j),(4,.int .i64 k),(5,.int .i64 m)] u)) (Q (.exit 2) [(0,.slice a b c),(2,.slice d e f),(3,.slice g i j),(4,.int .i64 k),(5,.int .i64 m)] n)
theorem aL.b2:(aO none [] prog 56 aL.k (lB (bB (sL (sR (sR (bB (sL (sR (lB (bB (sR (sL (sR (sR (body Tryz.f28))))))))))))))) aL.u2 Q [(0,.slice a b c),(2,.slice d e f),(3,.slice g i j),(4,.int .i64 k),(5,.int .i64 m)] w)=aL.B2 a b c d e f g i j k m Q w:=by kernel_rfl
variable{a b c d e f g i j k}
theorem aL.gw(I:Int->World->Prop)(μ:Int->World->Nat)(s:Int){Q:aM}{w:World}(h0:I s w)
 (round:∀s w,I s w->aL.B2 a b c d e f g i j k s (bI (aL.e2 a b c d e f g i j k) I μ s w Q) w):Holds none [] prog 56 (.loop (lB (bB (sL (sR (sR (bB (sL (sR (lB (bB (sR (sL (sR (sR (body Tryz.f28)))))))))))))))) Q (aL.e2 a b c d e f g i j k s) w:=
 ba ng mix (aL.e2 a b c d e f g i j k) I μ aL.k aL.u2 s (fun s Q w=>aL.B2 a b c d e f g i j k s Q w) (fun s Q w=>aL.b2 a b c d e f g i j k s Q w) h0 round
end
section
variable(a:OA)(b c:Nat)(d:OA)(e f:Nat)(g:OA)(i j:Nat)(k m:Int)(Q:aM)(w:World)
def aL.gU:Prop:=
 (0<=m/\m<=(j:Int))/\∃(n:OA) (o p:Nat) (q:World),(Builtin.append_ #[35,35] 35 #[.slice none 0 0,.slice (if j=0 then g else g.map (·.add (0*32))) (m.toNat-0) (j-0)]).run prog w=.ok (.slice n o p) q/\(0<=k/\k<(b:Int))/\Is a fun r:Addr=>∃t:AV,(t.size=32/\Cells q (r.add (k.toNat*32)) t)/\t.size=32/\let u:=q.alloc (.cells (t.toList++ []).toArray 23);∃(v:OA) (x y:Nat) (z:World),(Builtin.append_ #[35,35] 35 #[.slice n o p,.slice (some (⟨q.heap.size,0,none⟩:Addr)) 1 1]).run prog u=.ok (.slice v x y) z/\(0<=m/\m<=(i:Int))/\∃(a1:OA) (b1 c1:Nat) (d1:World),(Builtin.append_ #[35,35] 35 #[.slice v x y,.slice (if j=m.toNat then g else g.map (·.add (m.toNat*32))) (i-m.toNat) (j-m.toNat)]).run prog z=.ok (.slice a1 b1 c1) d1/\Q .normal [(0,.slice a b c),(2,.slice d e f),(3,.slice a1 b1 c1),(4,.int .i64 (i64.wrap (k+(1:Int))))] d1
theorem aL.jA:(aL.q2 Q (.exit 2) [(0,.slice a b c),(2,.slice d e f),(3,.slice g i j),(4,.int .i64 k),(5,.int .i64 m)] w)=aL.gU a b c d e f g i j k m Q w:=by kernel_rfl
end
def bz.k:List Nat:= []
def bz.q1(K:KT):aM:=(aI 0 (bM (sR (sR (body f52)))++(aT f52)) (bD (fun bE w_=>match cutAt bz.k (sR (sR (body f52)))with|true=>Holds none [] prog 24 (sR (sR (body f52))) (bO prog f52 K) bE w_|false=>aO none [] prog 24 bz.k (sR (sR (body f52))) (aT f52) (bO prog f52 K) bE w_) (bO prog f52 K)))
def bz.e1(a b:Addr)(s:Int×Int):Env:= [(2,.pointer (some a)),(3,.pointer (some b)),(4,.int .i64 s.1),(5,.int .i64 s.2)]
def bz.u1:List Nat:= [2,3,4,5]
section
variable(a b:AV)(K:KT)(w:World)
def bz.W:Prop:=
 let d:=w.alloc (.cells a 23);let e:=d.alloc (.cells b 23);Holds none [] prog 24 (.loop (lB (bB (sR (sL (sR (body f52))))))) (bz.q1 K) [(2,.pointer (some (⟨w.heap.size,0,none⟩:Addr))),(3,.pointer (some (⟨d.heap.size,0,none⟩:Addr))),(4,.int .i64 0),(5,.int .i64 0)] e
variable{a b K w}
theorem bz.of(h:bz.W a b K w):bj prog 52 #[.agg a,.agg b] w K:=
 rqq func52 (C:=bz.k) h
end
section
variable(a b:Addr)(c d:Int)(Q:aM)(w:World)
def bz.B1:Prop:=
 Split (decide (d<(32:Int))) (let e:=w.drew;(0<=d/\d<(32:Int))/\∃f:Int,e.cell? (a.add (d.toNat*1))=some (.int .u8 f)/\(0<=d/\d<(32:Int))/\∃g:Int,e.cell? (b.add (d.toNat*1))=some (.int .u8 g)/\Split (decide (f<g)) (Q .ret [(2,.pointer (some a)),(3,.pointer (some b)),(4,.int .i64 (-1)),(5,.int .i64 d)] e) (let i:=e.drew;(0<=d/\d<(32:Int))/\∃j:Int,i.cell? (a.add (d.toNat*1))=some (.int .u8 j)/\(0<=d/\d<(32:Int))/\∃k:Int,i.cell? (b.add (d.toNat*1))=some (.int .u8 k)/\Split (decide (j>k)) (Q .ret [(2,.pointer (some a)),(3,.pointer (some b)),(4,.int .i64 1),(5,.int .i64 d)] i) (Q .normal [(2,.pointer (some a)),(3,.pointer (some b)),(4,.int .i64 c),(5,.int .i64 (i64.wrap (d+(1:Int))))] i))) (Q (.exit 0) [(2,.pointer (some a)),(3,.pointer (some b)),(4,.int .i64 c),(5,.int .i64 d)] w)
theorem bz.b1:(aO none [] prog 24 bz.k (lB (bB (sR (sL (sR (body f52)))))) bz.u1 Q [(2,.pointer (some a)),(3,.pointer (some b)),(4,.int .i64 c),(5,.int .i64 d)] w)=bz.B1 a b c d Q w:=by kernel_rfl
variable{a b}
theorem bz.b7(I:Int×Int->World->Prop)(μ:Int×Int->World->Nat)(s:Int×Int){Q:aM}{w:World}(h0:I s w)
 (round:∀s w,I s w->bz.B1 a b (s.1) (s.2) (bI (bz.e1 a b) I μ s w Q) w):Holds none [] prog 24 (.loop (lB (bB (sR (sL (sR (body f52))))))) Q (bz.e1 a b s) w:=
 ba ng mix (bz.e1 a b) I μ bz.k bz.u1 s (fun s Q w=>bz.B1 a b (s.1) (s.2) Q w) (fun s Q w=>bz.b1 a b (s.1) (s.2) Q w) h0 round
end
section
def bz.cK(a b:Addr)(c d:Int)(K:KT)(w:World):Prop:=
 K (.int .i64 0) w
variable(a b:Addr)(c d:Int)(K:KT)(w:World)
theorem bz.c8:(bz.q1 K (.exit 0) [(2,.pointer (some a)),(3,.pointer (some b)),(4,.int .i64 c),(5,.int .i64 d)] w)=bz.cK a b c d K w:=by kernel_rfl
end
def fG.k:List Nat:= []
section
variable(a:OA)(K:KT)(w:World)
def fG.W:Prop:=
 Split (!(a).isNone) (Is a fun b:Addr=>∃d:Option Nat,w.cell? (b.add 1)=some (.map d)/\K (.bool (!(d).isNone)) w) (K (.bool false) w)
variable{a K w}
theorem fG.of(h:fG.W a K w):bj prog 60 #[.pointer a] w K:=
 rqq func60 (C:=fG.k) h
end
def ah.k:List Nat:= []
def ah.q1(K:KT):aM:=(aI 0 (bM (sR (sR (sR (body f66))))++(aT f66)) (bD (fun bE w_=>match cutAt ah.k (sR (sR (sR (body f66))))with|true=>Holds none [] prog 61 (sR (sR (sR (body f66)))) (bO prog f66 K) bE w_|false=>aO none [] prog 61 ah.k (sR (sR (sR (body f66)))) (aT f66) (bO prog f66 K) bE w_) (bO prog f66 K)))
def ah.e1(a:OA)(b c:Nat)(s:(OA)×Nat×Nat×Int):Env:= [(0,.slice a b c),(2,.slice s.1 s.2.1 s.2.2.1),(3,.int .i64 s.2.2.2)]
def ah.u1:List Nat:= [0,2,3]
def ah.q2(Q:aM):aM:=(aI 2 (bM (sR (sR (cT (sR (bB (sL (sR (lB (bB (sR (sL (sR (sR (body f66))))))))))))))++(bM (sR (sR (lB (bB (sR (sL (sR (sR (body f66)))))))))++ah.u1)) (bD (fun bE w_=>match cutAt ah.k (sR (sR (cT (sR (bB (sL (sR (lB (bB (sR (sL (sR (sR (body f66))))))))))))))with|true=>Holds none [] prog 61 (sR (sR (cT (sR (bB (sL (sR (lB (bB (sR (sL (sR (sR (body f66)))))))))))))) (aI 1 (bM (sR (sR (lB (bB (sR (sL (sR (sR (body f66)))))))))++ah.u1) (bD (fun bE w_=>match cutAt ah.k (sR (sR (lB (bB (sR (sL (sR (sR (body f66)))))))))with|true=>Holds none [] prog 61 (sR (sR (lB (bB (sR (sL (sR (sR (body f66))))))))) Q bE w_|false=>aO none [] prog 61 ah.k (sR (sR (lB (bB (sR (sL (sR (sR (body f66))))))))) ah.u1 Q bE w_) Q)) bE w_|false=>aO none [] prog 61 ah.k (sR (sR (cT (sR (bB (sL (sR (lB (bB (sR (sL (sR (sR (body f66)))))))))))))) (bM (sR (sR (lB (bB (sR (sL (sR (sR (body f66)))))))))++ah.u1) (aI 1 (bM (sR (sR (lB (bB (sR (sL (sR (sR (body f66)))))))))++ah.u1) (bD (fun bE w_=>match cutAt ah.k (sR (sR (lB (bB (sR (sL (sR (sR (body f66)))))))))with|true=>Holds none [] prog 61 (sR (sR (lB (bB (sR (sL (sR (sR (body f66))))))))) Q bE w_|false=>aO none [] prog 61 ah.k (sR (sR (lB (bB (sR (sL (sR (sR (body f66))))))))) ah.u1 Q bE w_) Q)) bE w_) (aI 1 (bM (sR (sR (lB (bB (sR (sL (sR (sR (body f66)))))))))++ah.u1) (bD (fun bE w_=>match cutAt ah.k (sR (sR (lB (bB (sR (sL (sR (sR (body f66)))))))))with|true=>Holds none [] prog 61 (sR (sR (lB (bB (sR (sL (sR (sR (body f66))))))))) Q bE w_|false=>aO none [] prog 61 ah.k (sR (sR (lB (bB (sR (sL (sR (sR (body f66))))))))) ah.u1 Q bE w_) Q))))
def ah.e2(a:OA)(b c:Nat)(d:OA)(e f:Nat)(g:OA)(i j:Nat)(s:Int×Int):Env:= [(0,.slice a b c),(2,.slice d e f),(3,.int .i64 s.1),(4,.slice g i j),(5,.int .i64 s.2)]
def ah.u2:List Nat:= [0,2,3,4,5]
section
variable(a:OA)(b d:Nat)(K:KT)(w:World)
def ah.W:Prop:=
 Split (decide ((b:Int)<(2:Int))) (K (.slice a b d) w) (Holds none [] prog 61 (.loop (lB (bB (sR (sL (sR (sR (body f66)))))))) (ah.q1 K) [(0,.slice a b d),(2,.slice none 0 0),(3,.int .i64 1)] w)
variable{a b d K w}
theorem ah.of(h:ah.W a b d K w):bj prog 66 #[.slice a b d] w K:=
 rqq func66 (C:=ah.k) h
end
section
variable(a:OA)(b c:Nat)(d:OA)(e f:Nat)(g:Int)(Q:aM)(w:World)
def ah.B1:Prop:=
 Split (decide (g<(b:Int))) (let i:=w.drew;(0<=g/\g<(b:Int))/\Is a fun j:Addr=>∃k:AV,(k.size=32/\Cells i (j.add (g.toNat*32)) k)/\(0<=(i64.wrap (g-(1:Int)))/\(i64.wrap (g-(1:Int)))<(b:Int))/\Is a fun m:Addr=>∃n:AV,(n.size=32/\Cells i (m.add ((i64.wrap (g-(1:Int))).toNat*32)) n)/\(dD .u8 32 k/\dD .u8 32 n)/\Split (ek k n) ((0<=g/\g<=(b:Int))/\Holds none [] prog 61 (.loop (lB (bB (sR (sL (sR (cT (sR (bB (sL (sR (lB (bB (sR (sL (sR (sR (body f66)))))))))))))))))) (ah.q2 Q) [(0,.slice a b c),(2,.slice d e f),(3,.int .i64 g),(4,.slice (if c=g.toNat then a else a.map (·.add (g.toNat*32))) (b-g.toNat) (c-g.toNat)),(5,.int .i64 1)] i) (Q .normal [(0,.slice a b c),(2,.slice d e f),(3,.int .i64 (i64.wrap (g+(1:Int))))] i)) (Q (.exit 0) [(0,.slice a b c),(2,.slice d e f),(3,.int .i64 g)] w)
theorem ah.b1:(aO none [] prog 61 ah.k (lB (bB (sR (sL (sR (sR (body f66))))))) ah.u1 Q [(0,.slice a b c),(2,.slice d e f),(3,.int .i64 g)] w)=ah.B1 a b c d e f g Q w:=by kernel_rfl
variable{a b c}
theorem ah.b7(I:(OA)×Nat×Nat×Int->World->Prop)(μ:(OA)×Nat×Nat×Int->World->Nat)(s:(OA)×Nat×Nat×Int){Q:aM}{w:World}(h0:I s w)
 (round:∀s w,I s w->ah.B1 a b c (s.1) (s.2.1) (s.2.2.1) (s.2.2.2) (bI (ah.e1 a b c) I μ s w Q) w):Holds none [] prog 61 (.loop (lB (bB (sR (sL (sR (sR (body f66)))))))) Q (ah.e1 a b c s) w:=
 ba ng mix (ah.e1 a b c) I μ ah.k ah.u1 s (fun s Q w=>ah.B1 a b c (s.1) (s.2.1) (s.2.2.1) (s.2.2.2) Q w) (fun s Q w=>ah.b1 a b c (s.1) (s.2.1) (s.2.2.1) (s.2.2.2) Q w) h0 round
end
section
def ah.cK(a:OA)(b c:Nat)(d:OA)(e f:Nat)(g:Int)(K:KT)(w:World):Prop:=
 K (.slice a b c) w
variable(a:OA)(b c:Nat)(d:OA)(e f:Nat)(g:Int)(K:KT)(w:World)
theorem ah.c8:(ah.q1 K (.exit 0) [(0,.slice a b c),(2,.slice d e f),(3,.int .i64 g)] w)=ah.cK a b c d e f g K w:=by kernel_rfl
end
section
variable(a:OA)(b c:Nat)(d:OA)(e f:Nat)(g:Int)(i:OA)(j k:Nat)(m:Int)(Q:aM)(w:World)
def ah.B2:Prop:=
 Split (decide (m<(j:Int))) (let n:=w.drew;(0<=m/\m<(j:Int))/\Is i fun o:Addr=>∃p:AV,(p.size=32/\Cells n (o.add (m.toNat*32)) p)/\(0<=(i64.wrap (m-(1:Int)))/\(i64.wrap (m-(1:Int)))<(j:Int))/\Is i fun q:Addr=>∃r:AV,(r.size=32/\Cells n (q.add ((i64.wrap (m-(1:Int))).toNat*32)) r)/\(dD .u8 32 p/\dD .u8 32 r)/\Split (!(ek p r)) ((0<=m/\m<(j:Int))/\Is i fun t:Addr=>∃u:AV,(u.size=32/\Cells n (t.add (m.toNat*32)) u)/\(0<=g/\g<(b:Int))/\Is a fun v:Addr=>(u.size=32/\(∀x∈u.toList,x.oneCell'=true)/\∀y,y<32->Wr n ((v.add (g.toNat*32)).add y))/\let z:=setCells n (v.add (g.toNat*32)) u.toList 0;Q .normal [(0,.slice a b c),(2,.slice d e f),(3,.int .i64 (i64.wrap (g+(1:Int)))),(4,.slice i j k),(5,.int .i64 (i64.wrap (m+(1:Int))))] z) (Q .normal [(0,.slice a b c),(2,.slice d e f),(3,.int .i64 g),(4,.slice i j k),(5,.int .i64 (i64.wrap (m+(1:Int))))] n)) (Q (.exit 2) [(0,.slice a b c),(2,.slice d e f),(3,.int .i64 g),(4,.slice i j k),(5,.int .i64 m)] w)
theorem ah.b2:(aO none [] prog 61 ah.k (lB (bB (sR (sL (sR (cT (sR (bB (sL (sR (lB (bB (sR (sL (sR (sR (body f66))))))))))))))))) ah.u2 Q [(0,.slice a b c),(2,.slice d e f),(3,.int .i64 g),(4,.slice i j k),(5,.int .i64 m)] w)=ah.B2 a b c d e f g i j k m Q w:=by kernel_rfl
variable{a b c d e f i j k}
theorem ah.gw(I:Int×Int->World->Prop)(μ:Int×Int->World->Nat)(s:Int×Int){Q:aM}{w:World}(h0:I s w)
 (round:∀s w,I s w->ah.B2 a b c d e f (s.1) i j k (s.2) (bI (ah.e2 a b c d e f i j k) I μ s w Q) w):Holds none [] prog 61 (.loop (lB (bB (sR (sL (sR (cT (sR (bB (sL (sR (lB (bB (sR (sL (sR (sR (body f66)))))))))))))))))) Q (ah.e2 a b c d e f i j k s) w:=
 ba ng mix (ah.e2 a b c d e f i j k) I μ ah.k ah.u2 s (fun s Q w=>ah.B2 a b c d e f (s.1) i j k (s.2) Q w) (fun s Q w=>ah.b2 a b c d e f (s.1) i j k (s.2) Q w) h0 round
end
section
def ah.gU(a:OA)(b c:Nat)(d:OA)(e f:Nat)(g:Int)(i:OA)(j k:Nat)(m:Int)(Q:aM)(w:World):Prop:=
 (0<=g/\g<=(b:Int))/\∃(n:Value) (o:World),(Builtin.clear_ #[35] 0 #[.slice (if c=g.toNat then a else a.map (·.add (g.toNat*32))) (b-g.toNat) (c-g.toNat)]).run prog w=.ok n o/\(0<=g/\g<=(c:Int))/\Q .ret [(0,.slice a b c),(2,.slice (if c=0 then a else a.map (·.add (0*32))) (g.toNat-0) (c-0)),(3,.int .i64 g)] o
variable(a:OA)(b c:Nat)(d:OA)(e f:Nat)(g:Int)(i:OA)(j k:Nat)(m:Int)(Q:aM)(w:World)
theorem ah.jA:(ah.q2 Q (.exit 2) [(0,.slice a b c),(2,.slice d e f),(3,.int .i64 g),(4,.slice i j k),(5,.int .i64 m)] w)=ah.gU a b c d e f g i j k m Q w:=by kernel_rfl
end
def dp.k:List Nat:= []
section
variable(a b:AV)(K:KT)(w:World)
def dp.W:Prop:=
 let d:=w.alloc (.cells a 23);let e:=d.alloc (.cells b 23);let f:=e.drew;bj prog 100 #[.slice (some (if 32=0 then(⟨w.heap.size,0,none⟩:Addr)else(⟨w.heap.size,0,none⟩:Addr).add (0*1))) (32-0) (32-0),.slice (some (if 32=0 then(⟨d.heap.size,0,none⟩:Addr)else(⟨d.heap.size,0,none⟩:Addr).add (0*1))) (32-0) (32-0)] f fun g i=>∃j:Int,g=.int .i64 j/\K (.int .i64 j) i
variable{a b K w}
theorem dp.of(h:dp.W a b K w):bj prog 69 #[.agg a,.agg b] w K:=
 rqq func69 (C:=dp.k) h
end
def fP.k:List Nat:= []
section
variable(a:OA)(b:AV)(K:KT)(w:World)
def fP.W:Prop:=
 let d:=w.alloc (.cells b 23);∃e:AV,(e.size=32/\Cells d (⟨w.heap.size,0,none⟩:Addr) e)/\bj prog 101 #[.pointer a,.agg e] d fun f g=>∃i:OA,f=.pointer i/\K (.bool (!(i).isNone)) g
variable{a b K w}
theorem fP.of(h:fP.W a b K w):bj prog 79 #[.pointer a,.agg b] w K:=
 rqq func79 (C:=fP.k) h
end
def gI.k:List Nat:= []
section
variable(a:OA)(b d:Nat)(e:OA)(f g:Nat)(K:KT)(w:World)
def gI.W:Prop:=
 C8 prog 119 #[.slice a b d,.slice e f g] w fun i j=>∃k:Int,i=.int .i64 k/\K (.int .i64 k) j
variable{a b d e f g K w}
theorem gI.of(h:gI.W a b d e f g K w):bj prog 100 #[.slice a b d,.slice e f g] w K:=
 rqq func100 (C:=gI.k) h
end
def fC.k:List Nat:= []
section
variable(a:OA)(b:AV)(K:KT)(w:World)
def fC.W:Prop:=
 let d:=w.alloc (.cells b 23);bj prog 60 #[.pointer a] d fun e f=>∃g:Bool,e=.bool g/\Split g (let i:=f.drew;Is a fun j:Addr=>∃k:Option Nat,i.cell? (j.add 1)=some (.map k)/\∃m:AV,(m.size=32/\Cells i (⟨w.heap.size,0,none⟩:Addr) m)/\∃n:Int,∃o:Bool,(Instr.lookup 89 (.map k) (.agg m) true).run prog i=.ok (.tuple #[.int .i64 n,.bool o]) i/\Split o (Is a fun p:Addr=>∃q:OA,∃r t:Nat,i.cell? (p.add 0)=some (.slice q r t)/\(0<=n/\n<(r:Int))/\Is q fun u:Addr=>∃v:OA,i.cell? (u.add (n.toNat*1))=some (.pointer v)/\K (.pointer v) i) (K (.pointer none) i)) (K (.pointer none) f)
variable{a b K w}
theorem fC.of(h:fC.W a b K w):bj prog 101 #[.pointer a,.agg b] w K:=
 rqq func101 (C:=fC.k) h
end
def b0.k:List Nat:= []
def b0.q1(K:KT):aM:=(aI 0 (bM (sR (sR (body f102)))++(aT f102)) (bD (fun bE w_=>match cutAt b0.k (sR (sR (body f102)))with|true=>Holds none [] prog 30 (sR (sR (body f102))) (bO prog f102 K) bE w_|false=>aO none [] prog 30 b0.k (sR (sR (body f102))) (aT f102) (bO prog f102 K) bE w_) (bO prog f102 K)))
def b0.e1(a:OA)(b c:Nat)(d:OA)(e f:Nat)(g:Int)(s:(OA)×Nat×Nat×Int):Env:= [(0,.slice s.1 s.2.1 s.2.2.1),(4,.slice a b c),(7,.slice d e f),(8,.int .i64 g),(9,.int .i64 s.2.2.2)]
def b0.u1:List Nat:= [0,4,7,8,9]
section
variable(a:OA)(b d:Nat)(e:OA)(f g:Nat)(K:KT)(w:World)
def b0.W:Prop:=
 Holds none [] prog 30 (.loop (lB (bB (sR (sL (sR (body f102))))))) (b0.q1 K) [(0,.slice a b d),(4,.slice none 0 0),(7,.slice e f g),(8,.int .i64 (f:Int)),(9,.int .i64 0)] w
variable{a b d e f g K w}
theorem b0.of(h:b0.W a b d e f g K w):bj prog 102 #[.slice a b d,.slice e f g] w K:=
 rqq func102 (C:=b0.k) h
end
section
variable(a:OA)(b c:Nat)(d:OA)(e f:Nat)(g:OA)(i j:Nat)(k m:Int)(Q:aM)(w:World)
def b0.B1:Prop:=
 Split (decide (m<k)) ((0<=m/\m<(i:Int))/\Is g fun n:Addr=>∃o:Int,w.cell? (n.add (m.toNat*1))=some (.int .u64 o)/\Split (m==(b:Int)) (let p:=w.alloc (.cells #[.int .u64 0] 49);∃(q:OA) (r t:Nat) (u:World),(Builtin.append_ #[148,148] 148 #[.slice a b c,.slice (some (⟨w.heap.size,0,none⟩:Addr)) 1 1]).run prog p=.ok (.slice q r t) u/\(0<=m/\m<(r:Int))/\Is q fun v:Addr=>∃x:Int,u.cell? (v.add (m.toNat*1))=some (.int .u64 x)/\(0<=m/\m<(r:Int))/\Is q fun y:Addr=>Wr u (y.add (m.toNat*1))/\let z:=u.setCell (y.add (m.toNat*1)) (.int .u64 (u64.wrap ((BitVec.ofInt 64 x|||BitVec.ofInt 64 o).toNat)));Q .normal [(0,.slice q r t),(4,.slice d e f),(7,.slice g i j),(8,.int .i64 k),(9,.int .i64 (i64.wrap (m+(1:Int))))] z) ((0<=m/\m<(b:Int))/\Is a fun a1:Addr=>∃b1:Int,w.cell? (a1.add (m.toNat*1))=some (.int .u64 b1)/\(0<=m/\m<(b:Int))/\Is a fun c1:Addr=>Wr w (c1.add (m.toNat*1))/\let d1:=w.setCell (c1.add (m.toNat*1)) (.int .u64 (u64.wrap ((BitVec.ofInt 64 b1|||BitVec.ofInt 64 o).toNat)));Q .normal [(0,.slice a b c),(4,.slice d e f),(7,.slice g i j),(8,.int .i64 k),(9,.int .i64 (i64.wrap (m+(1:Int))))] d1)) (Q (.exit 0) [(0,.slice a b c),(4,.slice d e f),(7,.slice g i j),(8,.int .i64 k),(9,.int .i64 m)] w)
theorem b0.b1:(aO none [] prog 30 b0.k (lB (bB (sR (sL (sR (body f102)))))) b0.u1 Q [(0,.slice a b c),(4,.slice d e f),(7,.slice g i j),(8,.int .i64 k),(9,.int .i64 m)] w)=b0.B1 a b c d e f g i j k m Q w:=by kernel_rfl
variable{d e f g i j k}
theorem b0.b7(I:(OA)×Nat×Nat×Int->World->Prop)(μ:(OA)×Nat×Nat×Int->World->Nat)(s:(OA)×Nat×Nat×Int){Q:aM}{w:World}(h0:I s w)
 (round:∀s w,I s w->b0.B1 (s.1) (s.2.1) (s.2.2.1) d e f g i j k (s.2.2.2) (bI (b0.e1 d e f g i j k) I μ s w Q) w):Holds none [] prog 30 (.loop (lB (bB (sR (sL (sR (body f102))))))) Q (b0.e1 d e f g i j k s) w:=
 ba ng mix (b0.e1 d e f g i j k) I μ b0.k b0.u1 s (fun s Q w=>b0.B1 (s.1) (s.2.1) (s.2.2.1) d e f g i j k (s.2.2.2) Q w) (fun s Q w=>b0.b1 (s.1) (s.2.1) (s.2.2.1) d e f g i j k (s.2.2.2) Q w) h0 round
end
section
def b0.cK(a:OA)(b c:Nat)(d:OA)(e f:Nat)(g:OA)(i j:Nat)(k m:Int)(K:KT)(w:World):Prop:=
 K (.slice a b c) w
variable(a:OA)(b c:Nat)(d:OA)(e f:Nat)(g:OA)(i j:Nat)(k m:Int)(K:KT)(w:World)
theorem b0.c8:(b0.q1 K (.exit 0) [(0,.slice a b c),(4,.slice d e f),(7,.slice g i j),(8,.int .i64 k),(9,.int .i64 m)] w)=b0.cK a b c d e f g i j k m K w:=by kernel_rfl
end
def dS.k:List Nat:= []
section
variable(a:AV)(b:Addr)(K:KT)(w:World)
def dS.W:Prop:=
 let d:=w.alloc (.cells a 23);∃e:OA,d.cell? b=some (.pointer e)/\∃f:AV,(f.size=32/\Cells d (⟨w.heap.size,0,none⟩:Addr) f)/\bj prog 79 #[.pointer e,.agg f] d fun g i=>∃j:Bool,g=.bool j/\K (.bool (!j)) i
variable{a b K w}
theorem dS.of(h:dS.W a b K w):bj prog 107 #[.agg a,.pointer (some b)] w K:=
 rqq func107 (C:=dS.k) h
end
def bH.k:List Nat:= []
def bH.q1(K:KT):aM:=(aI 0 (bM (sR (sR (body f108)))++(aT f108)) (bD (fun bE w_=>match cutAt bH.k (sR (sR (body f108)))with|true=>Holds none [] prog 24 (sR (sR (body f108))) (bO prog f108 K) bE w_|false=>aO none [] prog 24 bH.k (sR (sR (body f108))) (aT f108) (bO prog f108 K) bE w_) (bO prog f108 K)))
def bH.e1(a:Int)(b:OA)(c d:Nat)(s:(OA)×Nat×Nat):Env:= [(0,.slice s.1 s.2.1 s.2.2),(1,.int .i64 a),(4,.slice b c d)]
def bH.u1:List Nat:= [0,1,4]
section
variable(a:OA)(b d:Nat)(e:Int)(K:KT)(w:World)
def bH.W:Prop:=
 Holds none [] prog 24 (.loop (lB (bB (sL (sR (body f108)))))) (bH.q1 K) [(0,.slice a b d),(1,.int .i64 e),(4,.slice none 0 0)] w
variable{a b d e K w}
theorem bH.of(h:bH.W a b d e K w):bj prog 108 #[.slice a b d,.int .i64 e] w K:=
 rqq func108 (C:=bH.k) h
end
section
variable(a:OA)(b c:Nat)(d:Int)(e:OA)(f g:Nat)(Q:aM)(w:World)
def bH.B1:Prop:=
 (64:Int)≠0/\Split (decide ((b:Int)<=(i64.wrap (d.tdiv (64:Int))))) (let i:=w.alloc (.cells #[.int .u64 0] 49);∃(j:OA) (k m:Nat) (n:World),(Builtin.append_ #[148,148] 148 #[.slice a b c,.slice (some (⟨w.heap.size,0,none⟩:Addr)) 1 1]).run prog i=.ok (.slice j k m) n/\Q .normal [(0,.slice j k m),(1,.int .i64 d),(4,.slice e f g)] n) (Q (.exit 0) [(0,.slice a b c),(1,.int .i64 d),(4,.slice e f g)] w)
theorem bH.b1:(aO none [] prog 24 bH.k (lB (bB (sL (sR (body f108))))) bH.u1 Q [(0,.slice a b c),(1,.int .i64 d),(4,.slice e f g)] w)=bH.B1 a b c d e f g Q w:=by kernel_rfl
variable{d e f g}
theorem bH.b7(I:(OA)×Nat×Nat->World->Prop)(μ:(OA)×Nat×Nat->World->Nat)(s:(OA)×Nat×Nat){Q:aM}{w:World}(h0:I s w)
 (round:∀s w,I s w->bH.B1 (s.1) (s.2.1) (s.2.2) d e f g (bI (bH.e1 d e f g) I μ s w Q) w):Holds none [] prog 24 (.loop (lB (bB (sL (sR (body f108)))))) Q (bH.e1 d e f g s) w:=
 ba ng mix (bH.e1 d e f g) I μ bH.k bH.u1 s (fun s Q w=>bH.B1 (s.1) (s.2.1) (s.2.2) d e f g Q w) (fun s Q w=>bH.b1 (s.1) (s.2.1) (s.2.2) d e f g Q w) h0 round
end
section
def bH.cK(a:OA)(b c:Nat)(d:Int)(e:OA)(f g:Nat)(K:KT)(w:World):Prop:=
 let i:=w.drew;(64:Int)≠0/\(0<=(i64.wrap (d.tdiv (64:Int)))/\(i64.wrap (d.tdiv (64:Int)))<(b:Int))/\Is a fun j:Addr=>∃k:Int,i.cell? (j.add ((i64.wrap (d.tdiv (64:Int))).toNat*1))=some (.int .u64 k)/\(64:Int)≠0/\0<=(d.tmod (64:Int))/\(0<=(i64.wrap (d.tdiv (64:Int)))/\(i64.wrap (d.tdiv (64:Int)))<(b:Int))/\Is a fun m:Addr=>Wr i (m.add ((i64.wrap (d.tdiv (64:Int))).toNat*1))/\let n:=i.setCell (m.add ((i64.wrap (d.tdiv (64:Int))).toNat*1)) (.int .u64 (u64.wrap ((BitVec.ofInt 64 k|||BitVec.ofInt 64 (u64.wrap ((1:Int)*2 ^ (min (d.tmod (64:Int)).toNat 64)))).toNat)));K (.slice a b c) n
variable(a:OA)(b c:Nat)(d:Int)(e:OA)(f g:Nat)(K:KT)(w:World)
theorem bH.c8:(bH.q1 K (.exit 0) [(0,.slice a b c),(1,.int .i64 d),(4,.slice e f g)] w)=bH.cK a b c d e f g K w:=by kernel_rfl
end
def aq.k:List Nat:= []
def aq.q1(K:KT):aM:=(aI 0 (bM (sR (sR (body f113)))++(aT f113)) (bD (fun bE w_=>match cutAt aq.k (sR (sR (body f113)))with|true=>Holds none [] prog 19 (sR (sR (body f113))) (bO prog f113 K) bE w_|false=>aO none [] prog 19 aq.k (sR (sR (body f113))) (aT f113) (bO prog f113 K) bE w_) (bO prog f113 K)))
def aq.e1(a:OA)(b c:Nat)(d:Addr)(e:Int)(s:Int×Int):Env:= [(0,.slice a b c),(1,.func (.func 107) #[] #[.pointer (some d)]),(4,.int .i64 s.1),(7,.int .i64 e),(8,.int .i64 s.2)]
def aq.u1:List Nat:= [0,1,4,7,8]
section
variable(a:OA)(b d:Nat)(e:Addr)(K:KT)(w:World)
def aq.W:Prop:=
 Holds none [] prog 19 (.loop (lB (bB (sR (sL (sR (body f113))))))) (aq.q1 K) [(0,.slice a b d),(1,.func (.func 107) #[] #[.pointer (some e)]),(4,.int .i64 0),(7,.int .i64 (b:Int)),(8,.int .i64 0)] w
variable{a b d e K w}
theorem aq.of(h:aq.W a b d e K w):bj prog 113 #[.slice a b d,.func (.func 107) #[] #[.pointer (some e)]] w K:=
 rqq func113 (C:=aq.k) h
end
section
variable(a:OA)(b c:Nat)(d:Addr)(e f g:Int)(Q:aM)(w:World)
def aq.B1:Prop:=
 Split (decide (g<f)) ((0<=g/\g<(b:Int))/\Is a fun i:Addr=>∃j:AV,(j.size=32/\Cells w (i.add (g.toNat*32)) j)/\bj prog 107 #[.agg j,.pointer (some d)] w fun k m=>∃n:Bool,k=.bool n/\Split n (Q .ret [(0,.slice a b c),(1,.func (.func 107) #[] #[.pointer (some d)]),(4,.int .i64 g),(7,.int .i64 f),(8,.int .i64 g)] m) (Q .normal [(0,.slice a b c),(1,.func (.func 107) #[] #[.pointer (some d)]),(4,.int .i64 e),(7,.int .i64 f),(8,.int .i64 (i64.wrap (g+(1:Int))))] m)) (Q (.exit 0) [(0,.slice a b c),(1,.func (.func 107) #[] #[.pointer (some d)]),(4,.int .i64 e),(7,.int .i64 f),(8,.int .i64 g)] w)
theorem aq.b1:(aO none [] prog 19 aq.k (lB (bB (sR (sL (sR (body f113)))))) aq.u1 Q [(0,.slice a b c),(1,.func (.func 107) #[] #[.pointer (some d)]),(4,.int .i64 e),(7,.int .i64 f),(8,.int .i64 g)] w)=aq.B1 a b c d e f g Q w:=by kernel_rfl
variable{a b c d f}
theorem aq.b7(I:Int×Int->World->Prop)(μ:Int×Int->World->Nat)(s:Int×Int){Q:aM}{w:World}(h0:I s w)
 (round:∀s w,I s w->aq.B1 a b c d (s.1) f (s.2) (bI (aq.e1 a b c d f) I μ s w Q) w):Holds none [] prog 19 (.loop (lB (bB (sR (sL (sR (body f113))))))) Q (aq.e1 a b c d f s) w:=
 ba ng mix (aq.e1 a b c d f) I μ aq.k aq.u1 s (fun s Q w=>aq.B1 a b c d (s.1) f (s.2) Q w) (fun s Q w=>aq.b1 a b c d (s.1) f (s.2) Q w) h0 round
end
section
def aq.cK(a:OA)(b c:Nat)(d:Addr)(e f g:Int)(K:KT)(w:World):Prop:=
 K (.int .i64 (-1)) w
variable(a:OA)(b c:Nat)(d:Addr)(e f g:Int)(K:KT)(w:World)
theorem aq.c8:(aq.q1 K (.exit 0) [(0,.slice a b c),(1,.func (.func 107) #[] #[.pointer (some d)]),(4,.int .i64 e),(7,.int .i64 f),(8,.int .i64 g)] w)=aq.cK a b c d e f g K w:=by kernel_rfl
end
def bY.k:List Nat:= []
section
variable(a:OA)(b d:Nat)(e:Addr)(K:KT)(w:World)
def bY.W:Prop:=
 bj prog 113 #[.slice a b d,.func (.func 107) #[] #[.pointer (some e)]] w fun f g=>∃i:Int,f=.int .i64 i/\K (.bool (decide (i>=(0:Int)))) g
variable{a b d e K w}
theorem bY.of(h:bY.W a b d e K w):bj prog 85 #[.slice a b d,.func (.func 107) #[] #[.pointer (some e)]] w K:=
 rqq func85 (C:=bY.k) h
end
def aH.k:List Nat:= []
def aH.q1(K:KT):aM:=(aI 0 (aT f120) (bO prog f120 K))
def aH.e1(a:Nat)(b:OA)(c d:Nat)(e s:Int):Env:= [(0,.func (.yield a) #[] #[]),(5,.slice b c d),(6,.int .i64 e),(7,.int .i64 s)]
def aH.u1:List Nat:= [0,5,6,7]
def aH.q2(Q:aM):aM:=(aI 2 (bM (sR (sR (sR (lB (bB (sR (body f120)))))))++aH.u1) (aI 1 (bM (sR (sR (sR (lB (bB (sR (body f120)))))))++aH.u1) (bD (fun bE w_=>match cutAt aH.k (sR (sR (sR (lB (bB (sR (body f120)))))))with|true=>Holds none [] prog 27 (sR (sR (sR (lB (bB (sR (body f120))))))) Q bE w_|false=>aO none [] prog 27 aH.k (sR (sR (sR (lB (bB (sR (body f120))))))) aH.u1 Q bE w_) Q)))
def aH.e2(a:Nat)(b:Int)(c:OA)(d e:Nat)(f g s:Int):Env:= [(0,.func (.yield a) #[] #[]),(3,.int .i64 b),(4,.int .u64 s),(5,.slice c d e),(6,.int .i64 f),(7,.int .i64 g)]
def aH.u2:List Nat:= [0,3,4,5,6,7]
section
variable(a:Nat)(b:Addr)(K:KT)(w:World)
def aH.W:Prop:=
 ∃d:OA,∃e f:Nat,w.cell? b=some (.slice d e f)/\Holds none [] prog 27 (.loop (lB (bB (sR (body f120))))) (aH.q1 K) [(0,.func (.yield a) #[] #[]),(5,.slice d e f),(6,.int .i64 (e:Int)),(7,.int .i64 0)] w
variable{a b K w}
theorem aH.of(h:aH.W a b K w):bj prog 120 #[.func (.yield a) #[] #[],.pointer (some b)] w K:=
 rqq func120 (C:=aH.k) h
end
section
variable(a:Nat)(b:OA)(c d:Nat)(e f:Int)(Q:aM)(w:World)
def aH.B1:Prop:=
 Split (decide (f<e)) ((0<=f/\f<(c:Int))/\Is b fun g:Addr=>∃i:Int,w.cell? (g.add (f.toNat*1))=some (.int .u64 i)/\Holds none [] prog 27 (.loop (lB (bB (sR (bB (sL (sR (sR (lB (bB (sR (body f120)))))))))))) (aH.q2 Q) [(0,.func (.yield a) #[] #[]),(3,.int .i64 f),(4,.int .u64 i),(5,.slice b c d),(6,.int .i64 e),(7,.int .i64 f)] w) (Q (.exit 0) [(0,.func (.yield a) #[] #[]),(5,.slice b c d),(6,.int .i64 e),(7,.int .i64 f)] w)
theorem aH.b1:(aO none [] prog 27 aH.k (lB (bB (sR (body f120)))) aH.u1 Q [(0,.func (.yield a) #[] #[]),(5,.slice b c d),(6,.int .i64 e),(7,.int .i64 f)] w)=aH.B1 a b c d e f Q w:=by kernel_rfl
variable{a b c d e}
theorem aH.b7(I:Int->World->Prop)(μ:Int->World->Nat)(s:Int){Q:aM}{w:World}(h0:I s w)
 (round:∀s w,I s w->aH.B1 a b c d e s (bI (aH.e1 a b c d e) I μ s w Q) w):Holds none [] prog 27 (.loop (lB (bB (sR (body f120))))) Q (aH.e1 a b c d e s) w:=
 ba ng mix (aH.e1 a b c d e) I μ aH.k aH.u1 s (fun s Q w=>aH.B1 a b c d e s Q w) (fun s Q w=>aH.b1 a b c d e s Q w) h0 round
end
section
def aH.cK(a:Nat)(b:OA)(c d:Nat)(e f:Int)(K:KT)(w:World):Prop:=
 K (.tuple #[]) w
variable(a:Nat)(b:OA)(c d:Nat)(e f:Int)(K:KT)(w:World)
theorem aH.c8:(aH.q1 K (.exit 0) [(0,.func (.yield a) #[] #[]),(5,.slice b c d),(6,.int .i64 e),(7,.int .i64 f)] w)=aH.cK a b c d e f K w:=by kernel_rfl
end
section
variable(a:Nat)(b c:Int)(d:OA)(e f:Nat)(g i:Int)(Q:aM)(w:World)
def aH.B2:Prop:=
 Split (c != (0:Int)) (bj prog 121 #[.int .u64 c] w fun j k=>∃m:Int,j=.int .i64 m/\jO prog a #[.int .i64 (i64.wrap ((i64.wrap ((64:Int)*b))+m))] k fun n o=>Split (!n) (Q .ret [(0,.func (.yield a) #[] #[]),(3,.int .i64 b),(4,.int .u64 c),(5,.slice d e f),(6,.int .i64 g),(7,.int .i64 i)] o) (Q .normal [(0,.func (.yield a) #[] #[]),(3,.int .i64 b),(4,.int .u64 (u64.wrap ((BitVec.ofInt 64 c&&& BitVec.ofInt 64 (u64.wrap (c-(1:Int)))).toNat))),(5,.slice d e f),(6,.int .i64 g),(7,.int .i64 i)] o)) (Q (.exit 2) [(0,.func (.yield a) #[] #[]),(3,.int .i64 b),(4,.int .u64 c),(5,.slice d e f),(6,.int .i64 g),(7,.int .i64 i)] w)
theorem aH.b2:(aO none [] prog 27 aH.k (lB (bB (sR (bB (sL (sR (sR (lB (bB (sR (body f120))))))))))) aH.u2 Q [(0,.func (.yield a) #[] #[]),(3,.int .i64 b),(4,.int .u64 c),(5,.slice d e f),(6,.int .i64 g),(7,.int .i64 i)] w)=aH.B2 a b c d e f g i Q w:=by kernel_rfl
variable{a b d e f g i}
theorem aH.gw(I:Int->World->Prop)(μ:Int->World->Nat)(s:Int){Q:aM}{w:World}(h0:I s w)
 (round:∀s w,I s w->aH.B2 a b s d e f g i (bI (aH.e2 a b d e f g i) I μ s w Q) w):Holds none [] prog 27 (.loop (lB (bB (sR (bB (sL (sR (sR (lB (bB (sR (body f120)))))))))))) Q (aH.e2 a b d e f g i s) w:=
 ba ng mix (aH.e2 a b d e f g i) I μ aH.k aH.u2 s (fun s Q w=>aH.B2 a b s d e f g i Q w) (fun s Q w=>aH.b2 a b s d e f g i Q w) h0 round
end
section
def aH.gU(a:Nat)(b c:Int)(d:OA)(e f:Nat)(g i:Int)(Q:aM)(w:World):Prop:=
 Q .normal [(0,.func (.yield a) #[] #[]),(5,.slice d e f),(6,.int .i64 g),(7,.int .i64 (i64.wrap (i+(1:Int))))] w
variable(a:Nat)(b c:Int)(d:OA)(e f:Nat)(g i:Int)(Q:aM)(w:World)
theorem aH.jA:(aH.q2 Q (.exit 2) [(0,.func (.yield a) #[] #[]),(3,.int .i64 b),(4,.int .u64 c),(5,.slice d e f),(6,.int .i64 g),(7,.int .i64 i)] w)=aH.gU a b c d e f g i Q w:=by kernel_rfl
end
def aC.k:List Nat:= []
def aC.q1(K:KT):aM:=(aI 0 (aT f99) (bO prog f99 K))
def aC.e1(a:Nat)(b:OA)(c d:Nat)(e s:Int):Env:= [(0,.func (.yield a) #[] #[]),(5,.slice b c d),(6,.int .i64 e),(7,.int .i64 s)]
def aC.u1:List Nat:= [0,5,6,7]
section
variable(a:Nat)(b:Addr)(K:KT)(w:World)
def aC.W:Prop:=
 ∃d:OA,∃e f:Nat,w.cell? b=some (.slice d e f)/\Holds none [] prog 16 (.loop (lB (bB (sR (body f99))))) (aC.q1 K) [(0,.func (.yield a) #[] #[]),(5,.slice d e f),(6,.int .i64 (e:Int)),(7,.int .i64 0)] w
variable{a b K w}
theorem aC.of(h:aC.W a b K w):bj prog 99 #[.func (.yield a) #[] #[],.pointer (some b)] w K:=
 rqq func99 (C:=aC.k) h
end
section
variable(a:Nat)(b:OA)(c d:Nat)(e f:Int)(Q:aM)(w:World)
def aC.B1:Prop:=
 Split (decide (f<e)) ((0<=f/\f<(c:Int))/\Is b fun g:Addr=>∃i:AV,(i.size=32/\Cells w (g.add (f.toNat*32)) i)/\let j:=w.alloc (.cells zH 23);(i.size=32/\(∀k∈i.toList,k.oneCell'=true)/\∀m,m<32->Wr j ((⟨w.heap.size,0,none⟩:Addr).add m))/\let n:=setCells j (⟨w.heap.size,0,none⟩:Addr) i.toList 0;∃o:AV,(o.size=32/\Cells n (⟨w.heap.size,0,none⟩:Addr) o)/\jO prog a #[.agg o] n fun p q=>Split (!p) (Q .ret [(0,.func (.yield a) #[] #[]),(5,.slice b c d),(6,.int .i64 e),(7,.int .i64 f)] q) (Q .normal [(0,.func (.yield a) #[] #[]),(5,.slice b c d),(6,.int .i64 e),(7,.int .i64 (i64.wrap (f+(1:Int))))] q)) (Q (.exit 0) [(0,.func (.yield a) #[] #[]),(5,.slice b c d),(6,.int .i64 e),(7,.int .i64 f)] w)
theorem aC.b1:(aO none [] prog 16 aC.k (lB (bB (sR (body f99)))) aC.u1 Q [(0,.func (.yield a) #[] #[]),(5,.slice b c d),(6,.int .i64 e),(7,.int .i64 f)] w)=aC.B1 a b c d e f Q w:=by kernel_rfl
variable{a b c d e}
theorem aC.b7(I:Int->World->Prop)(μ:Int->World->Nat)(s:Int){Q:aM}{w:World}(h0:I s w)
 (round:∀s w,I s w->aC.B1 a b c d e s (bI (aC.e1 a b c d e) I μ s w Q) w):Holds none [] prog 16 (.loop (lB (bB (sR (body f99))))) Q (aC.e1 a b c d e s) w:=
 ba ng mix (aC.e1 a b c d e) I μ aC.k aC.u1 s (fun s Q w=>aC.B1 a b c d e s Q w) (fun s Q w=>aC.b1 a b c d e s Q w) h0 round
end
section
def aC.cK(a:Nat)(b:OA)(c d:Nat)(e f:Int)(K:KT)(w:World):Prop:=
 K (.tuple #[]) w
variable(a:Nat)(b:OA)(c d:Nat)(e f:Int)(K:KT)(w:World)
theorem aC.c8:(aC.q1 K (.exit 0) [(0,.func (.yield a) #[] #[]),(5,.slice b c d),(6,.int .i64 e),(7,.int .i64 f)] w)=aC.cK a b c d e f K w:=by kernel_rfl
end
end Go.Proofs.YtnboahlopghcjaaGreatDoor
