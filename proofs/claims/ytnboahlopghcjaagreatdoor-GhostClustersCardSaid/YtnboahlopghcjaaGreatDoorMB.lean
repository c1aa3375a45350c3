import Derived.Test.YtnboahlopghcjaaGreatDoorProg
import Derived.Test.YtnboahlopghcjaaGreatDoorMA
open Go.IntKind (i64 u64)
set_option linter.unusedVariables false
namespace Go.Proofs.YtnboahlopghcjaaGreatDoor
open Go.Proofs.Tryz
open Go Go.bU
abbrev OA:=Option Addr
abbrev AV:=Array Value
abbrev KT:=Value->World->Prop
abbrev zH:Array Value:= #[.int .u8 0,.int .u8 0,.int .u8 0,.int .u8 0,.int .u8 0,.int .u8 0,.int .u8 0,.int .u8 0,.int .u8 0,.int .u8 0,.int .u8 0,.int .u8 0,.int .u8 0,.int .u8 0,.int .u8 0,.int .u8 0,.int .u8 0,.int .u8 0,.int .u8 0,.int .u8 0,.int .u8 0,.int .u8 0,.int .u8 0,.int .u8 0,.int .u8 0,.int .u8 0,.int .u8 0,.int .u8 0,.int .u8 0,.int .u8 0,.int .u8 0,.int .u8 0]
abbrev zC:Array Value:= #[.int .u8 0,.int .u8 0,.int .u8 0,.int .u8 0,.int .u8 0,.int .u8 0,.int .u8 0,.int .u8 0,.int .u8 0,.int .u8 0,.int .u8 0,.int .u8 0,.int .u8 0,.int .u8 0,.int .u8 0,.int .u8 0,.int .u8 0,.int .u8 0,.int .u8 0,.int .u8 0,.int .u8 0,.int .u8 0,.int .u8 0,.int .u8 0,.int .u8 0,.int .u8 0,.int .u8 0,.int .u8 0,.int .u8 0,.int .u8 0,.int .u8 0,.int .u8 0,.int .u64 0,.slice none 0 0,.slice none 0 0]
abbrev zS:Array Value:= #[.int .u8 0,.int .u8 0,.int .u8 0,.int .u8 0,.int .u8 0,.int .u8 0,.int .u8 0,.int .u8 0,.int .u8 0,.int .u8 0,.int .u8 0,.int .u8 0,.int .u8 0,.int .u8 0,.int .u8 0,.int .u8 0,.int .u8 0,.int .u8 0,.int .u8 0,.int .u8 0,.int .u8 0,.int .u8 0,.int .u8 0,.int .u8 0,.int .u8 0,.int .u8 0,.int .u8 0,.int .u8 0,.int .u8 0,.int .u8 0,.int .u8 0,.int .u8 0,.int .u64 0,.slice none 0 0,.slice none 0 0,.map none]
abbrev jh:Nat:=3
abbrev gM:Nat:=4
abbrev iu:Nat:=5
abbrev aj:Nat:=23
abbrev iP:Nat:=25
abbrev fH:Nat:=28
abbrev az:Nat:=35
abbrev ct:Nat:=36
abbrev gS:Nat:=38
abbrev jc:Nat:=40
abbrev tf:Nat:=42
abbrev fj:Nat:=43
abbrev gh:Nat:=45
abbrev bM:Nat:=48
abbrev iy:Nat:=49
abbrev fU:Nat:=50
abbrev bf:Nat:=52
abbrev fK:Nat:=73
abbrev lT:Nat:=76
abbrev kh:Nat:=77
abbrev cX:Nat:=80
abbrev gv:Nat:=82
abbrev eU:Nat:=88
abbrev ck:Nat:=89
abbrev dN:Nat:=91
abbrev eZ:Nat:=98
abbrev fZ:Nat:=107
abbrev eA:Nat:=109
abbrev kP:Nat:=113
abbrev gH:Nat:=115
abbrev sg:Nat:=128
abbrev kM:Nat:=129
abbrev iO:Nat:=140
abbrev gZ:Nat:=141
abbrev sO:Nat:=143
abbrev eV:Nat:=146
abbrev zO:Nat:=147
abbrev ke:Nat:=148
abbrev dK:Nat:=150
abbrev vL:Nat:=187
abbrev ae.id:Nat:=5
abbrev cr.id:Nat:=9
abbrev gA.id:Nat:=10
abbrev aH.id:Nat:=11
abbrev gX.id:Nat:=12
abbrev cG.id:Nat:=13
abbrev dD.id:Nat:=14
abbrev dX.id:Nat:=15
abbrev b7.id:Nat:=16
abbrev dm.id:Nat:=18
abbrev bj.id:Nat:=19
abbrev aW.id:Nat:=20
abbrev af.id:Nat:=21
abbrev dG.id:Nat:=22
abbrev aA.id:Nat:=24
abbrev dU.id:Nat:=25
abbrev aG.id:Nat:=26
abbrev bW.id:Nat:=27
abbrev aM.id:Nat:=28
abbrev dV.id:Nat:=32
abbrev jw.id:Nat:=37
abbrev dC.id:Nat:=38
abbrev au.id:Nat:=39
abbrev dS.id:Nat:=40
abbrev iM.id:Nat:=41
abbrev ai.id:Nat:=42
abbrev aD.id:Nat:=43
abbrev gC.id:Nat:=44
abbrev dW.id:Nat:=45
abbrev lE.id:Nat:=46
abbrev bp.id:Nat:=47
abbrev bu.id:Nat:=48
abbrev dv.id:Nat:=49
abbrev dH.id:Nat:=50
abbrev aY.id:Nat:=51
abbrev bD.id:Nat:=52
abbrev fw.id:Nat:=53
abbrev cu.id:Nat:=54
abbrev fe.id:Nat:=55
abbrev e9.id:Nat:=56
abbrev fJ.id:Nat:=60
abbrev jx.id:Nat:=61
abbrev bn.id:Nat:=62
abbrev fc.id:Nat:=63
abbrev mo.id:Nat:=64
abbrev eM.id:Nat:=65
abbrev ah.id:Nat:=66
abbrev dz.id:Nat:=69
abbrev aR.id:Nat:=70
abbrev dI.id:Nat:=71
abbrev iC.id:Nat:=72
abbrev ag.id:Nat:=73
abbrev cZ.id:Nat:=74
abbrev bR.id:Nat:=75
abbrev aZ.id:Nat:=76
abbrev cj.id:Nat:=77
abbrev eR.id:Nat:=78
abbrev fR.id:Nat:=79
abbrev bt.id:Nat:=80
abbrev c9.id:Nat:=81
abbrev fP.id:Nat:=82
abbrev cU.id:Nat:=83
abbrev dF.id:Nat:=84
abbrev dE.id:Nat:=85
abbrev bE.id:Nat:=87
abbrev dB.id:Nat:=88
abbrev aV.id:Nat:=89
abbrev fh.id:Nat:=90
abbrev dw.id:Nat:=92
abbrev hZ.id:Nat:=93
abbrev cM.id:Nat:=98
abbrev aF.id:Nat:=99
abbrev gL.id:Nat:=100
abbrev fy.id:Nat:=101
abbrev b9.id:Nat:=102
abbrev cI.id:Nat:=104
abbrev gk.id:Nat:=105
abbrev bits_Len.id:Nat:=106
abbrev dY.id:Nat:=107
abbrev bH.id:Nat:=108
abbrev fO.id:Nat:=109
abbrev ft.id:Nat:=110
abbrev fu.id:Nat:=111
abbrev aw.id:Nat:=112
abbrev aL.id:Nat:=118
abbrev aI.id:Nat:=120
abbrev bits_TrailingZeros64.id:Nat:=121
abbrev iF.id:Nat:=122
abbrev jq.id:Nat:=123
abbrev iG.id:Nat:=124
abbrev iS.id:Nat:=125
abbrev iI.id:Nat:=126
abbrev gI.id:Nat:=127
abbrev je.id:Nat:=129
abbrev bits_Len64.id:Nat:=131
abbrev br.id:Nat:=132
abbrev bits_Mul64.id:Nat:=133
abbrev a7.id:Nat:=134
abbrev jo.id:Nat:=135
abbrev ou.id:Nat:=137
abbrev jG.id:Nat:=139
abbrev bits_LeadingZeros64.id:Nat:=140
abbrev jF.id:Nat:=141
noncomputable abbrev af.fn:Func:=Tryz.f21
noncomputable abbrev aA.fn:Func:=Tryz.f24
noncomputable abbrev ai.fn:Func:=f42
noncomputable abbrev aw.fn:Func:=f112
noncomputable abbrev a7.fn:Func:=f134
theorem dz.at_:prog.funcs[(69:Nat)]? =some f69:=func69
theorem bR.at_:prog.funcs[(75:Nat)]? =some f75:=func75
theorem cj.at_:prog.funcs[(77:Nat)]? =some f77:=func77
theorem aV.at_:prog.funcs[(89:Nat)]? =some f89:=func89
theorem aF.at_:prog.funcs[(99:Nat)]? =some f99:=func99
theorem sX.at_:prog.funcs[(119:Nat)]? =some f119:=func119
theorem aI.at_:prog.funcs[(120:Nat)]? =some f120:=func120
theorem ng:NG prog:=by
 have h:(prog.funcs.toList.all fun f=> !(f.name== "runtime.NumGoroutine"))=true:=by kernel_rfl
 intro g fn hf;rw [List.all_eq_true]at h;have:=h fn (by simpa using Array.mem_of_getElem? hf);simpa using this
theorem mix:prog.follows .mixedOrders=true:=by kernel_rfl
theorem rqq{C:List Nat}{f:FuncId}{fn:Func}{args:List Value}{w:World}{K:Value->World->Prop}{W:Prop}(hf:prog.funcs[f]? =some fn)(h:W)(hb:fn.body=some (body fn):=by kernel_rfl)(hn:(Nat.ble args.length fn.ntmps&&Nat.ble fn.ntmps gD)=true:=by kernel_rfl)(hs:aT none [] prog fn.ntmps C (body fn) (aS fn) (bL prog fn K) (nE args 0) w=W:=by kernel_rfl):bk prog f args.toArray w K:=DU ng mix hf hb hn hs h
def cG.k:List Nat:= []
def cG.q1(K:KT):aN:=(aK 0 (bV (sR (sR (body f13)))++(aS f13)) (bK (fun bO w_=>match cutAt cG.k (sR (sR (body f13)))with|true=>Holds none [] prog 18 (sR (sR (body f13))) (bL prog f13 K) bO w_|false=>aT none [] prog 18 cG.k (sR (sR (body f13))) (aS f13) (bL prog f13 K) bO w_) (bL prog f13 K)))
def cG.e1(a:OA)(b c:Nat)(d:Addr)(s:Bool×Int):Env:= [(0,.slice a b c),(3,.pointer (some d)),(4,.bool s.1),(5,.int .i64 s.2)]
def cG.u1:List Nat:= [0,3,4,5]
section
variable(a:OA)(b d:Nat)(e:AV)(K:KT)(w:World)
def cG.W:Prop:=
 let f:=w.alloc (.cells e 23);Holds none [] prog 18 (.loop (lB (bB (sR (sL (sR (body f13))))))) (cG.q1 K) [(0,.slice a b d),(3,.pointer (some (⟨w.heap.size,0,none⟩:Addr))),(4,.bool false),(5,.int .i64 0)] f
variable{a b d e K w}
theorem cG.of(h:cG.W a b d e K w):bk prog 13 #[.slice a b d,.agg e] w K:=
 rqq func13 (C:=cG.k) h
end
section
variable(a:OA)(b c:Nat)(d:Addr)(e:Bool)(f:Int)(Q:aN)(w:World)
def cG.B1:Prop:=
 Split (decide (f<(b:Int))) (let g:=w.drew;(0<=f/\f<(b:Int))/\Is a fun i:Addr=>∃j:AV,(j.size=32/\Cells g (i.add (f.toNat*32)) j)/\∃k:AV,(k.size=32/\Cells g d k)/\(dA .u8 32 j/\dA .u8 32 k)/\Split (ee j k) (Q .ret [(0,.slice a b c),(3,.pointer (some d)),(4,.bool true),(5,.int .i64 f)] g) (Q .normal [(0,.slice a b c),(3,.pointer (some d)),(4,.bool e),(5,.int .i64 (i64.wrap (f+(1:Int))))] g)) (Q (.exit 0) [(0,.slice a b c),(3,.pointer (some d)),(4,.bool e),(5,.int .i64 f)] w)
theorem cG.b1:(aT none [] prog 18 cG.k (lB (bB (sR (sL (sR (body f13)))))) cG.u1 Q [(0,.slice a b c),(3,.pointer (some d)),(4,.bool e),(5,.int .i64 f)] w)=cG.B1 a b c d e f Q w:=by kernel_rfl
variable{a b c d}
theorem cG.cf(I:Bool×Int->World->Prop)(μ:Bool×Int->World->Nat)(s:Bool×Int){Q:aN}{w:World}(h0:I s w)
 (round:∀s w,I s w->cG.B1 a b c d (s.1) (s.2) (bI (cG.e1 a b c d) I μ s w Q) w):Holds none [] prog 18 (.loop (lB (bB (sR (sL (sR (body f13))))))) Q (cG.e1 a b c d s) w:=
 ba ng mix (cG.e1 a b c d) I μ cG.k cG.u1 s (fun s Q w=>cG.B1 a b c d (s.1) (s.2) Q w) (fun s Q w=>cG.b1 a b c d (s.1) (s.2) Q w) h0 round
end
section
def cG.cO(a:OA)(b c:Nat)(d:Addr)(e:Bool)(f:Int)(K:KT)(w:World):Prop:=
 K (.bool false) w
variable(a:OA)(b c:Nat)(d:Addr)(e:Bool)(f:Int)(K:KT)(w:World)
theorem cG.dh:(cG.q1 K (.exit 0) [(0,.slice a b c),(3,.pointer (some d)),(4,.bool e),(5,.int .i64 f)] w)=cG.cO a b c d e f K w:=by kernel_rfl
end
def bW.k:List Nat:= []
def bW.q1(K:KT):aN:=(aK 0 (bV (sR (sR (sR (body Tryz.f27))))++(aS Tryz.f27)) (bK (fun bO w_=>match cutAt bW.k (sR (sR (sR (body Tryz.f27))))with|true=>Holds none [] prog 26 (sR (sR (sR (body Tryz.f27)))) (bL prog Tryz.f27 K) bO w_|false=>aT none [] prog 26 bW.k (sR (sR (sR (body Tryz.f27)))) (aS Tryz.f27) (bL prog Tryz.f27 K) bO w_) (bL prog Tryz.f27 K)))
def bW.e1(a:OA)(b c:Nat)(d:OA)(e f:Nat)(s:Bool×Int):Env:= [(0,.slice a b c),(1,.slice d e f),(4,.bool s.1),(5,.int .i64 s.2)]
def bW.u1:List Nat:= [0,1,4,5]
section
variable(a:OA)(b d:Nat)(e:OA)(f g:Nat)(K:KT)(w:World)
def bW.W:Prop:=
 Split ((b:Int) != (f:Int)) (K (.bool false) w) (Holds none [] prog 26 (.loop (lB (bB (sR (sL (sR (sR (body Tryz.f27)))))))) (bW.q1 K) [(0,.slice a b d),(1,.slice e f g),(4,.bool false),(5,.int .i64 0)] w)
variable{a b d e f g K w}
theorem bW.of(h:bW.W a b d e f g K w):bk prog 27 #[.slice a b d,.slice e f g] w K:=
 rqq func27 (C:=bW.k) h
end
section
variable(a:OA)(b c:Nat)(d:OA)(e f:Nat)(g:Bool)(i:Int)(Q:aN)(w:World)
def bW.B1:Prop:=
 Split (decide (i<(b:Int))) (let j:=w.drew;(0<=i/\i<(b:Int))/\Is a fun k:Addr=>∃m:AV,(m.size=32/\Cells j (k.add (i.toNat*32)) m)/\(0<=i/\i<(e:Int))/\Is d fun n:Addr=>∃o:AV,(o.size=32/\Cells j (n.add (i.toNat*32)) o)/\(dA .u8 32 m/\dA .u8 32 o)/\Split (!(ee m o)) (Q .ret [(0,.slice a b c),(1,.slice d e f),(4,.bool false),(5,.int .i64 i)] j) (Q .normal [(0,.slice a b c),(1,.slice d e f),(4,.bool g),(5,.int .i64 (i64.wrap (i+(1:Int))))] j)) (Q (.exit 0) [(0,.slice a b c),(1,.slice d e f),(4,.bool g),(5,.int .i64 i)] w)
theorem bW.b1:(aT none [] prog 26 bW.k (lB (bB (sR (sL (sR (sR (body Tryz.f27))))))) bW.u1 Q [(0,.slice a b c),(1,.slice d e f),(4,.bool g),(5,.int .i64 i)] w)=bW.B1 a b c d e f g i Q w:=by kernel_rfl
variable{a b c d e f}
theorem bW.cf(I:Bool×Int->World->Prop)(μ:Bool×Int->World->Nat)(s:Bool×Int){Q:aN}{w:World}(h0:I s w)
 (round:∀s w,I s w->bW.B1 a b c d e f (s.1) (s.2) (bI (bW.e1 a b c d e f) I μ s w Q) w):Holds none [] prog 26 (.loop (lB (bB (sR (sL (sR (sR (body Tryz.f27)))))))) Q (bW.e1 a b c d e f s) w:=
 ba ng mix (bW.e1 a b c d e f) I μ bW.k bW.u1 s (fun s Q w=>bW.B1 a b c d e f (s.1) (s.2) Q w) (fun s Q w=>bW.b1 a b c d e f (s.1) (s.2) Q w) h0 round
end
section
def bW.cO(a:OA)(b c:Nat)(d:OA)(e f:Nat)(g:Bool)(i:Int)(K:KT)(w:World):Prop:=
 K (.bool true) w
variable(a:OA)(b c:Nat)(d:OA)(e f:Nat)(g:Bool)(i:Int)(K:KT)(w:World)
theorem bW.dh:(bW.q1 K (.exit 0) [(0,.slice a b c),(1,.slice d e f),(4,.bool g),(5,.int .i64 i)] w)=bW.cO a b c d e f g i K w:=by kernel_rfl
end
def aM.k:List Nat:= []
def aM.q1(K:KT):aN:=(aK 0 (bV (sR (sR (sR (body Tryz.f28))))++(aS Tryz.f28)) (bK (fun bO w_=>match cutAt aM.k (sR (sR (sR (body Tryz.f28))))with|true=>Holds none [] prog 56 (sR (sR (sR (body Tryz.f28)))) (bL prog Tryz.f28 K) bO w_|false=>aT none [] prog 56 aM.k (sR (sR (sR (body Tryz.f28)))) (aS Tryz.f28) (bL prog Tryz.f28 K) bO w_) (bL prog Tryz.f28 K)))
def aM.e1(a:OA)(b c:Nat)(d:OA)(e f:Nat)(s:(OA)×Nat×Nat×Int):Env:= [(0,.slice a b c),(2,.slice d e f),(3,.slice s.1 s.2.1 s.2.2.1),(4,.int .i64 s.2.2.2)]
def aM.u1:List Nat:= [0,2,3,4]
def aM.q2(Q:aN):aN:=(aK 2 (bV (sR (sR (sR (bB (sL (sR (lB (bB (sR (sL (sR (sR (body Tryz.f28)))))))))))))++(bV (sR (sR (lB (bB (sR (sL (sR (sR (body Tryz.f28)))))))))++aM.u1)) (bK (fun bO w_=>match cutAt aM.k (sR (sR (sR (bB (sL (sR (lB (bB (sR (sL (sR (sR (body Tryz.f28)))))))))))))with|true=>Holds none [] prog 56 (sR (sR (sR (bB (sL (sR (lB (bB (sR (sL (sR (sR (body Tryz.f28))))))))))))) (aK 1 (bV (sR (sR (lB (bB (sR (sL (sR (sR (body Tryz.f28)))))))))++aM.u1) (bK (fun bO w_=>match cutAt aM.k (sR (sR (lB (bB (sR (sL (sR (sR (body Tryz.f28)))))))))with|true=>Holds none [] prog 56 (sR (sR (lB (bB (sR (sL (sR (sR (body Tryz.f28))))))))) Q bO w_|false=>aT none [] prog 56 aM.k (sR (sR (lB (bB (sR (sL (sR (sR (body Tryz.f28))))))))) aM.u1 Q bO w_) Q)) bO w_|false=>aT none [] prog 56 aM.k (sR (sR (sR (bB (sL (sR (lB (bB (sR (sL (sR (sR (body Tryz.f28))))))))))))) (bV (sR (sR (lB (bB (sR (sL (sR (sR (body Tryz.f28)))))))))++aM.u1) (aK 1 (bV (sR (sR (lB (bB (sR (sL (sR (sR (body Tryz.f28)))))))))++aM.u1) (bK (fun bO w_=>match cutAt aM.k (sR (sR (lB (bB (sR (sL (sR (sR (body Tryz.f28)))))))))with|true=>Holds none [] prog 56 (sR (sR (lB (bB (sR (sL (sR (sR (body Tryz.f28))))))))) Q bO w_|false=>aT none [] prog 56 aM.k (sR (sR (lB (bB (sR (sL (sR (sR (body Tryz.f28))))))))) aM.u1 Q bO w_) Q)) bO w_) (aK 1 (bV (sR (sR (lB (bB (sR (sL (sR (sR (body Tryz.f28)))))))))++aM.u1) (bK (fun bO w_=>match cutAt aM.k (sR (sR (lB (bB (sR (sL (sR (sR (body Tryz.f28)))))))))with|true=>Holds none [] prog 56 (sR (sR (lB (bB (sR (sL (sR (sR (body Tryz.f28))))))))) Q bO w_|false=>aT none [] prog 56 aM.k (sR (sR (lB (bB (sR (sL (sR (sR (body Tryz.f28))))))))) aM.u1 Q bO w_) Q))))
def aM.e2(a:OA)(b c:Nat)(d:OA)(e f:Nat)(g:OA)(i j:Nat)(k s:Int):Env:= [(0,.slice a b c),(2,.slice d e f),(3,.slice g i j),(4,.int .i64 k),(5,.int .i64 s)]
def aM.u2:List Nat:= [0,2,3,4,5]
section
variable(a:OA)(b d:Nat)(K:KT)(w:World)
def aM.W:Prop:=
 Holds none [] prog 56 (.loop (lB (bB (sR (sL (sR (sR (body Tryz.f28)))))))) (aM.q1 K) [(0,.slice a b d),(2,.slice none 0 0),(3,.slice none 0 0),(4,.int .i64 0)] w
variable{a b d K w}
theorem aM.of(h:aM.W a b d K w):bk prog 28 #[.slice a b d] w K:=
 rqq func28 (C:=aM.k) h
end
section
variable(a:OA)(b c:Nat)(d:OA)(e f:Nat)(g:OA)(i j:Nat)(k:Int)(Q:aN)(w:World)
def aM.B1:Prop:=
 Split (decide (k<(b:Int))) ((0<=k/\k<(b:Int))/\Is a fun m:Addr=>∃n:AV,(n.size=32/\Cells w (m.add (k.toNat*32)) n)/\bk prog 13 #[.slice g i j,.agg n] w fun o p=>∃q:Bool,o=.bool q/\Split q (Q .normal [(0,.slice a b c),(2,.slice d e f),(3,.slice g i j),(4,.int .i64 (i64.wrap (k+(1:Int))))] p) (Holds none [] prog 56 (.loop (lB (bB (sL (sR (sR (bB (sL (sR (lB (bB (sR (sL (sR (sR (body Tryz.f28)))))))))))))))) (aM.q2 Q) [(0,.slice a b c),(2,.slice d e f),(3,.slice g i j),(4,.int .i64 k),(5,.int .i64 (i:Int))] p)) (Q (.exit 0) [(0,.slice a b c),(2,.slice d e f),(3,.slice g i j),(4,.int .i64 k)] w)
theorem aM.b1:(aT none [] prog 56 aM.k (lB (bB (sR (sL (sR (sR (body Tryz.f28))))))) aM.u1 Q [(0,.slice a b c),(2,.slice d e f),(3,.slice g i j),(4,.int .i64 k)] w)=aM.B1 a b c d e f g i j k Q w:=by kernel_rfl
variable{a b c d e f}
theorem aM.cf(I:(OA)×Nat×Nat×Int->World->Prop)(μ:(OA)×Nat×Nat×Int->World->Nat)(s:(OA)×Nat×Nat×Int){Q:aN}{w:World}(h0:I s w)
 (round:∀s w,I s w->aM.B1 a b c d e f (s.1) (s.2.1) (s.2.2.1) (s.2.2.2) (bI (aM.e1 a b c d e f) I μ s w Q) w):Holds none [] prog 56 (.loop (lB (bB (sR (sL (sR (sR (body Tryz.f28)))))))) Q (aM.e1 a b c d e f s) w:=
 ba ng mix (aM.e1 a b c d e f) I μ aM.k aM.u1 s (fun s Q w=>aM.B1 a b c d e f (s.1) (s.2.1) (s.2.2.1) (s.2.2.2) Q w) (fun s Q w=>aM.b1 a b c d e f (s.1) (s.2.1) (s.2.2.1) (s.2.2.2) Q w) h0 round
end
section
def aM.cO(a:OA)(b c:Nat)(d:OA)(e f:Nat)(g:OA)(i j:Nat)(k:Int)(K:KT)(w:World):Prop:=
 K (.slice g i j) w
variable(a:OA)(b c:Nat)(d:OA)(e f:Nat)(g:OA)(i j:Nat)(k:Int)(K:KT)(w:World)
theorem aM.dh:(aM.q1 K (.exit 0) [(0,.slice a b c),(2,.slice d e f),(3,.slice g i j),(4,.int .i64 k)] w)=aM.cO a b c d e f g i j k K w:=by kernel_rfl
end
section
variable(a:OA)(b c:Nat)(d:OA)(e f:Nat)(g:OA)(i j:Nat)(k m:Int)(Q:aN)(w:World)
def aM.B2:Prop:=
 let n:=w.drew;Split (decide (m>(0:Int))) ((0<=k/\k<(b:Int))/\Is a fun o:Addr=>∃p:AV,(p.size=32/\Cells n (o.add (k.toNat*32)) p)/\(0<=(i64.wrap (m-(1:Int)))/\(i64.wrap (m-(1:Int)))<(i:Int))/\Is g fun q:Addr=>∃r:AV,(r.size=32/\Cells n (q.add ((i64.wrap (m-(1:Int))).toNat*32)) r)/\bk prog 52 #[.agg p,.agg r] n fun t u=>∃v:Int,t=.int .i64 v/\Split (decide (v<(0:Int))) (Q .normal [(0,.slice a b c),(2,.slice d e f),(3,.slice g i j),(4,.int .i64 k),(5,.int .i64 (i64.wrap (m-(1:Int))))] u) (Q (.exit 2) [(0,.slice a b c),(2,.slice d e f),(3,.slice g i j),(4,.int .i64 k),(5,.int .i64 m)] u)) (Q (.exit 2) [(0,.slice a b c),(2,.slice d e f),(3,.slice g i j),(4,.int .i64 k),(5,.int .i64 m)] n)
theorem aM.b2:(aT none [] prog 56 aM.k (lB (bB (sL (sR (sR (bB (sL (sR (lB (bB (sR (sL (sR (sR (body Tryz.f28))))))))))))))) aM.u2 Q [(0,.slice a b c),(2,.slice d e f),(3,.slice g i j),(4,.int .i64 k),(5,.int .i64 m)] w)=aM.B2 a b c d e f g i j k m Q w:=by kernel_rfl
variable{a b c d e f g i j k}
theorem aM.gz(I:Int->World->Prop)(μ:Int->World->Nat)(s:Int){Q:aN}{w:World}(h0:I s w)
 (round:∀s w,I s w->aM.B2 a b c d e f g i j k s (bI (aM.e2 a b c d e f g i j k) I μ s w Q) w):Holds none [] prog 56 (.loop (lB (bB (sL (sR (sR (bB (sL (sR (lB (bB (sR (sL (sR (sR (body Tryz.f28)))))))))))))))) Q (aM.e2 a b c d e f g i j k s) w:=
 ba ng mix (aM.e2 a b c d e f g i j k) I μ aM.k aM.u2 s (fun s Q w=>aM.B2 a b c d e f g i j k s Q w) (fun s Q w=>aM.b2 a b c d e f g i j k s Q w) h0 round
end
section
variable(a:OA)(b c:Nat)(d:OA)(e f:Nat)(g:OA)(i j:Nat)(k m:Int)(Q:aN)(w:World)
def aM.gY:Prop:=
 (0<=m/\m<=(j:Int))/\∃(n:OA) (o p:Nat) (q:World),(Builtin.append_ #[35,35] 35 #[.slice none 0 0,.slice (if j=0 then g else g.map (·.add (0*32))) (m.toNat-0) (j-0)]).run prog w=.ok (.slice n o p) q/\(0<=k/\k<(b:Int))/\Is a fun r:Addr=>∃t:AV,(t.size=32/\Cells q (r.add (k.toNat*32)) t)/\t.size=32/\let u:=q.alloc (.cells (t.toList++ []).toArray 23);∃(v:OA) (x y:Nat) (z:World),(Builtin.append_ #[35,35] 35 #[.slice n o p,.slice (some (⟨q.heap.size,0,none⟩:Addr)) 1 1]).run prog u=.ok (.slice v x y) z/\(0<=m/\m<=(i:Int))/\∃(a1:OA) (b1 c1:Nat) (d1:World),(Builtin.append_ #[35,35] 35 #[.slice v x y,.slice (if j=m.toNat then g else g.map (·.add (m.toNat*32))) (i-m.toNat) (j-m.toNat)]).run prog z=.ok (.slice a1 b1 c1) d1/\Q .normal [(0,.slice a b c),(2,.slice d e f),(3,.slice a1 b1 c1),(4,.int .i64 (i64.wrap (k+(1:Int))))] d1
theorem aM.jB:(aM.q2 Q (.exit 2) [(0,.slice a b c),(2,.slice d e f),(3,.slice g i j),(4,.int .i64 k),(5,.int .i64 m)] w)=aM.gY a b c d e f g i j k m Q w:=by kernel_rfl
end
def bD.k:List Nat:= []
def bD.q1(K:KT):aN:=(aK 0 (bV (sR (sR (body f52)))++(aS f52)) (bK (fun bO w_=>match cutAt bD.k (sR (sR (body f52)))with|true=>Holds none [] prog 24 (sR (sR (body f52))) (bL prog f52 K) bO w_|false=>aT none [] prog 24 bD.k (sR (sR (body f52))) (aS f52) (bL prog f52 K) bO w_) (bL prog f52 K)))
def bD.e1(a b:Addr)(s:Int×Int):Env:= [(2,.pointer (some a)),(3,.pointer (some b)),(4,.int .i64 s.1),(5,.int .i64 s.2)]
def bD.u1:List Nat:= [2,3,4,5]
section
variable(a b:AV)(K:KT)(w:World)
def bD.W:Prop:=
 let d:=w.alloc (.cells a 23);let e:=d.alloc (.cells b 23);Holds none [] prog 24 (.loop (lB (bB (sR (sL (sR (body f52))))))) (bD.q1 K) [(2,.pointer (some (⟨w.heap.size,0,none⟩:Addr))),(3,.pointer (some (⟨d.heap.size,0,none⟩:Addr))),(4,.int .i64 0),(5,.int .i64 0)] e
variable{a b K w}
theorem bD.of(h:bD.W a b K w):bk prog 52 #[.agg a,.agg b] w K:=
 rqq func52 (C:=bD.k) h
end
section
variable(a b:Addr)(c d:Int)(Q:aN)(w:World)
def bD.B1:Prop:=
 Split (decide (d<(32:Int))) (let e:=w.drew;(0<=d/\d<(32:Int))/\∃f:Int,e.cell? (a.add (d.toNat*1))=some (.int .u8 f)/\(0<=d/\d<(32:Int))/\∃g:Int,e.cell? (b.add (d.toNat*1))=some (.int .u8 g)/\Split (decide (f<g)) (Q .ret [(2,.pointer (some a)),(3,.pointer (some b)),(4,.int .i64 (-1)),(5,.int .i64 d)] e) (let i:=e.drew;(0<=d/\d<(32:Int))/\∃j:Int,i.cell? (a.add (d.toNat*1))=some (.int .u8 j)/\(0<=d/\d<(32:Int))/\∃k:Int,i.cell? (b.add (d.toNat*1))=some (.int .u8 k)/\Split (decide (j>k)) (Q .ret [(2,.pointer (some a)),(3,.pointer (some b)),(4,.int .i64 1),(5,.int .i64 d)] i) (Q .normal [(2,.pointer (some a)),(3,.pointer (some b)),(4,.int .i64 c),(5,.int .i64 (i64.wrap (d+(1:Int))))] i))) (Q (.exit 0) [(2,.pointer (some a)),(3,.pointer (some b)),(4,.int .i64 c),(5,.int .i64 d)] w)
theorem bD.b1:(aT none [] prog 24 bD.k (lB (bB (sR (sL (sR (body f52)))))) bD.u1 Q [(2,.pointer (some a)),(3,.pointer (some b)),(4,.int .i64 c),(5,.int .i64 d)] w)=bD.B1 a b c d Q w:=by kernel_rfl
variable{a b}
theorem bD.cf(I:Int×Int->World->Prop)(μ:Int×Int->World->Nat)(s:Int×Int){Q:aN}{w:World}(h0:I s w)
 (round:∀s w,I s w->bD.B1 a b (s.1) (s.2) (bI (bD.e1 a b) I μ s w Q) w):Holds none [] prog 24 (.loop (lB (bB (sR (sL (sR (body f52))))))) Q (bD.e1 a b s) w:=
 ba ng mix (bD.e1 a b) I μ bD.k bD.u1 s (fun s Q w=>bD.B1 a b (s.1) (s.2) Q w) (fun s Q w=>bD.b1 a b (s.1) (s.2) Q w) h0 round
end
section
def bD.cO(a b:Addr)(c d:Int)(K:KT)(w:World):Prop:=
 K (.int .i64 0) w
variable(a b:Addr)(c d:Int)(K:KT)(w:World)
theorem bD.dh:(bD.q1 K (.exit 0) [(2,.pointer (some a)),(3,.pointer (some b)),(4,.int .i64 c),(5,.int .i64 d)] w)=bD.cO a b c d K w:=by kernel_rfl
end
def fJ.k:List Nat:= []
section
variable(a:OA)(K:KT)(w:World)
def fJ.W:Prop:=
 Split (!(a).isNone) (Is a fun b:Addr=>∃d:Option Nat,w.cell? (b.add 1)=some (.map d)/\K (.bool (!(d).isNone)) w) (K (.bool false) w)
variable{a K w}
theorem fJ.of(h:fJ.W a K w):bk prog 60 #[.pointer a] w K:=
 rqq func60 (C:=fJ.k) h
end
def ah.k:List Nat:= []
def ah.q1(K:KT):aN:=(aK 0 (bV (sR (sR (sR (body f66))))++(aS f66)) (bK (fun bO w_=>match cutAt ah.k (sR (sR (sR (body f66))))with|true=>Holds none [] prog 61 (sR (sR (sR (body f66)))) (bL prog f66 K) bO w_|false=>aT none [] prog 61 ah.k (sR (sR (sR (body f66)))) (aS f66) (bL prog f66 K) bO w_) (bL prog f66 K)))
def ah.e1(a:OA)(b c:Nat)(s:(OA)×Nat×Nat×Int):Env:= [(0,.slice a b c),(2,.slice s.1 s.2.1 s.2.2.1),(3,.int .i64 s.2.2.2)]
def ah.u1:List Nat:= [0,2,3]
def ah.q2(Q:aN):aN:=(aK 2 (bV (sR (sR (cT (sR (bB (sL (sR (lB (bB (sR (sL (sR (sR (body f66))))))))))))))++(bV (sR (sR (lB (bB (sR (sL (sR (sR (body f66)))))))))++ah.u1)) (bK (fun bO w_=>match cutAt ah.k (sR (sR (cT (sR (bB (sL (sR (lB (bB (sR (sL (sR (sR (body f66))))))))))))))with|true=>Holds none [] prog 61 (sR (sR (cT (sR (bB (sL (sR (lB (bB (sR (sL (sR (sR (body f66)))))))))))))) (aK 1 (bV (sR (sR (lB (bB (sR (sL (sR (sR (body f66)))))))))++ah.u1) (bK (fun bO w_=>match cutAt ah.k (sR (sR (lB (bB (sR (sL (sR (sR (body f66)))))))))with|true=>Holds none [] prog 61 (sR (sR (lB (bB (sR (sL (sR (sR (body f66))))))))) Q bO w_|false=>aT none [] prog 61 ah.k (sR (sR (lB (bB (sR (sL (sR (sR (body f66))))))))) ah.u1 Q bO w_) Q)) bO w_|false=>aT none [] prog 61 ah.k (sR (sR (cT (sR (bB (sL (sR (lB (bB (sR (sL (sR (sR (body f66)))))))))))))) (bV (sR (sR (lB (bB (sR (sL (sR (sR (body f66)))))))))++ah.u1) (aK 1 (bV (sR (sR (lB (bB (sR (sL (sR (sR (body f66)))))))))++ah.u1) (bK (fun bO w_=>match cutAt ah.k (sR (sR (lB (bB (sR (sL (sR (sR (body f66)))))))))with|true=>Holds none [] prog 61 (sR (sR (lB (bB (sR (sL (sR (sR (body f66))))))))) Q bO w_|false=>aT none [] prog 61 ah.k (sR (sR (lB (bB (sR (sL (sR (sR (body f66))))))))) ah.u1 Q bO w_) Q)) bO w_) (aK 1 (bV (sR (sR (lB (bB (sR (sL (sR (sR (body f66)))))))))++ah.u1) (bK (fun bO w_=>match cutAt ah.k (sR (sR (lB (bB (sR (sL (sR (sR (body f66)))))))))with|true=>Holds none [] prog 61 (sR (sR (lB (bB (sR (sL (sR (sR (body f66))))))))) Q bO w_|false=>aT none [] prog 61 ah.k (sR (sR (lB (bB (sR (sL (sR (sR (body f66))))))))) ah.u1 Q bO w_) Q))))
def ah.e2(a:OA)(b c:Nat)(d:OA)(e f:Nat)(g:OA)(i j:Nat)(s:Int×Int):Env:= [(0,.slice a b c),(2,.slice d e f),(3,.int .i64 s.1),(4,.slice g i j),(5,.int .i64 s.2)]
def ah.u2:List Nat:= [0,2,3,4,5]
section
variable(a:OA)(b d:Nat)(K:KT)(w:World)
def ah.W:Prop:=
 Split (decide ((b:Int)<(2:Int))) (K (.slice a b d) w) (Holds none [] prog 61 (.loop (lB (bB (sR (sL (sR (sR (body f66)))))))) (ah.q1 K) [(0,.slice a b d),(2,.slice none 0 0),(3,.int .i64 1)] w)
variable{a b d K w}
theorem ah.of(h:ah.W a b d K w):bk prog 66 #[.slice a b d] w K:=
 rqq func66 (C:=ah.k) h
end
section
variable(a:OA)(b c:Nat)(d:OA)(e f:Nat)(g:Int)(Q:aN)(w:World)
def ah.B1:Prop:=
 Split (decide (g<(b:Int))) (let i:=w.drew;(0<=g/\g<(b:Int))/\Is a fun j:Addr=>∃k:AV,(k.size=32/\Cells i (j.add (g.toNat*32)) k)/\(0<=(i64.wrap (g-(1:Int)))/\(i64.wrap (g-(1:Int)))<(b:Int))/\Is a fun m:Addr=>∃n:AV,(n.size=32/\Cells i (m.add ((i64.wrap (g-(1:Int))).toNat*32)) n)/\(dA .u8 32 k/\dA .u8 32 n)/\Split (ee k n) ((0<=g/\g<=(b:Int))/\Holds none [] prog 61 (.loop (lB (bB (sR (sL (sR (cT (sR (bB (sL (sR (lB (bB (sR (sL (sR (sR (body f66)))))))))))))))))) (ah.q2 Q) [(0,.slice a b c),(2,.slice d e f),(3,.int .i64 g),(4,.slice (if c=g.toNat then a else a.map (·.add (g.toNat*32))) (b-g.toNat) (c-g.toNat)),(5,.int .i64 1)] i) (Q .normal [(0,.slice a b c),(2,.slice d e f),(3,.int .i64 (i64.wrap (g+(1:Int))))] i)) (Q (.exit 0) [(0,.slice a b c),(2,.slice d e f),(3,.int .i64 g)] w)
theorem ah.b1:(aT none [] prog 61 ah.k (lB (bB (sR (sL (sR (sR (body f66))))))) ah.u1 Q [(0,.slice a b c),(2,.slice d e f),(3,.int .i64 g)] w)=ah.B1 a b c d e f g Q w:=by kernel_rfl
variable{a b c}
theorem ah.cf(I:(OA)×Nat×Nat×Int->World->Prop)(μ:(OA)×Nat×Nat×Int->World->Nat)(s:(OA)×Nat×Nat×Int){Q:aN}{w:World}(h0:I s w)
 (round:∀s w,I s w->ah.B1 a b c (s.1) (s.2.1) (s.2.2.1) (s.2.2.2) (bI (ah.e1 a b c) I μ s w Q) w):Holds none [] prog 61 (.loop (lB (bB (sR (sL (sR (sR (body f66)))))))) Q (ah.e1 a b c s) w:=
 ba ng mix (ah.e1 a b c) I μ ah.k ah.u1 s (fun s Q w=>ah.B1 a b c (s.1) (s.2.1) (s.2.2.1) (s.2.2.2) Q w) (fun s Q w=>ah.b1 a b c (s.1) (s.2.1) (s.2.2.1) (s.2.2.2) Q w) h0 round
end
section
def ah.cO(a:OA)(b c:Nat)(d:OA)(e f:Nat)(g:Int)(K:KT)(w:World):Prop:=
 K (.slice a b c) w
variable(a:OA)(b c:Nat)(d:OA)(e f:Nat)(g:Int)(K:KT)(w:World)
theorem ah.dh:(ah.q1 K (.exit 0) [(0,.slice a b c),(2,.slice d e f),(3,.int .i64 g)] w)=ah.cO a b c d e f g K w:=by kernel_rfl
end
section
variable(a:OA)(b c:Nat)(d:OA)(e f:Nat)(g:Int)(i:OA)(j k:Nat)(m:Int)(Q:aN)(w:World)
def ah.B2:Prop:=
 Split (decide (m<(j:Int))) (let n:=w.drew;(0<=m/\m<(j:Int))/\Is i fun o:Addr=>∃p:AV,(p.size=32/\Cells n (o.add (m.toNat*32)) p)/\(0<=(i64.wrap (m-(1:Int)))/\(i64.wrap (m-(1:Int)))<(j:Int))/\Is i fun q:Addr=>∃r:AV,(r.size=32/\Cells n (q.add ((i64.wrap (m-(1:Int))).toNat*32)) r)/\(dA .u8 32 p/\dA .u8 32 r)/\Split (!(ee p r)) ((0<=m/\m<(j:Int))/\Is i fun t:Addr=>∃u:AV,(u.size=32/\Cells n (t.add (m.toNat*32)) u)/\(0<=g/\g<(b:Int))/\Is a fun v:Addr=>(u.size=32/\(∀x∈u.toList,x.oneCell'=true)/\∀y,y<32->Wr n ((v.add (g.toNat*32)).add y))/\let z:=setCells n (v.add (g.toNat*32)) u.toList 0;Q .normal [(0,.slice a b c),(2,.slice d e f),(3,.int .i64 (i64.wrap (g+(1:Int)))),(4,.slice i j k),(5,.int .i64 (i64.wrap (m+(1:Int))))] z) (Q .normal [(0,.slice a b c),(2,.slice d e f),(3,.int .i64 g),(4,.slice i j k),(5,.int .i64 (i64.wrap (m+(1:Int))))] n)) (Q (.exit 2) [(0,.slice a b c),(2,.slice d e f),(3,.int .i64 g),(4,.slice i j k),(5,.int .i64 m)] w)
theorem ah.b2:(aT none [] prog 61 ah.k (lB (bB (sR (sL (sR (cT (sR (bB (sL (sR (lB (bB (sR (sL (sR (sR (body f66))))))))))))))))) ah.u2 Q [(0,.slice a b c),(2,.slice d e f),(3,.int .i64 g),(4,.slice i j k),(5,.int .i64 m)] w)=ah.B2 a b c d e f g i j k m Q w:=by kernel_rfl
variable{a b c d e f i j k}
theorem ah.gz(I:Int×Int->World->Prop)(μ:Int×Int->World->Nat)(s:Int×Int){Q:aN}{w:World}(h0:I s w)
 (round:∀s w,I s w->ah.B2 a b c d e f (s.1) i j k (s.2) (bI (ah.e2 a b c d e f i j k) I μ s w Q) w):Holds none [] prog 61 (.loop (lB (bB (sR (sL (sR (cT (sR (bB (sL (sR (lB (bB (sR (sL (sR (sR (body f66)))))))))))))))))) Q (ah.e2 a b c d e f i j k s) w:=
 ba ng mix (ah.e2 a b c d e f i j k) I μ ah.k ah.u2 s (fun s Q w=>ah.B2 a b c d e f (s.1) i j k (s.2) Q w) (fun s Q w=>ah.b2 a b c d e f (s.1) i j k (s.2) Q w) h0 round
end
section
def ah.gY(a:OA)(b c:Nat)(d:OA)(e f:Nat)(g:Int)(i:OA)(j k:Nat)(m:Int)(Q:aN)(w:World):Prop:=
 (0<=g/\g<=(b:Int))/\∃(n:Value) (o:World),(Builtin.clear_ #[35] 0 #[.slice (if c=g.toNat then a else a.map (·.add (g.toNat*32))) (b-g.toNat) (c-g.toNat)]).run prog w=.ok n o/\(0<=g/\g<=(c:Int))/\Q .ret [(0,.slice a b c),(2,.slice (if c=0 then a else a.map (·.add (0*32))) (g.toNat-0) (c-0)),(3,.int .i64 g)] o
variable(a:OA)(b c:Nat)(d:OA)(e f:Nat)(g:Int)(i:OA)(j k:Nat)(m:Int)(Q:aN)(w:World)
theorem ah.jB:(ah.q2 Q (.exit 2) [(0,.slice a b c),(2,.slice d e f),(3,.int .i64 g),(4,.slice i j k),(5,.int .i64 m)] w)=ah.gY a b c d e f g i j k m Q w:=by kernel_rfl
end
def dz.k:List Nat:= []
section
variable(a b:AV)(K:KT)(w:World)
def dz.W:Prop:=
 let d:=w.alloc (.cells a 23);let e:=d.alloc (.cells b 23);let f:=e.drew;bk prog 100 #[.slice (some (if 32=0 then(⟨w.heap.size,0,none⟩:Addr)else(⟨w.heap.size,0,none⟩:Addr).add (0*1))) (32-0) (32-0),.slice (some (if 32=0 then(⟨d.heap.size,0,none⟩:Addr)else(⟨d.heap.size,0,none⟩:Addr).add (0*1))) (32-0) (32-0)] f fun g i=>∃j:Int,g=.int .i64 j/\K (.int .i64 j) i
variable{a b K w}
theorem dz.of(h:dz.W a b K w):bk prog 69 #[.agg a,.agg b] w K:=
 rqq func69 (C:=dz.k) h
end
def fR.k:List Nat:= []
section
variable(a:OA)(b:AV)(K:KT)(w:World)
def fR.W:Prop:=
 let d:=w.alloc (.cells b 23);∃e:AV,(e.size=32/\Cells d (⟨w.heap.size,0,none⟩:Addr) e)/\bk prog 101 #[.pointer a,.agg e] d fun f g=>∃i:OA,f=.pointer i/\K (.bool (!(i).isNone)) g
variable{a b K w}
theorem fR.of(h:fR.W a b K w):bk prog 79 #[.pointer a,.agg b] w K:=
 rqq func79 (C:=fR.k) h
end
def gL.k:List Nat:= []
section
variable(a:OA)(b d:Nat)(e:OA)(f g:Nat)(K:KT)(w:World)
def gL.W:Prop:=
 Dm prog 119 #[.slice a b d,.slice e f g] w fun i j=>∃k:Int,i=.int .i64 k/\K (.int .i64 k) j
variable{a b d e f g K w}
theorem gL.of(h:gL.W a b d e f g K w):bk prog 100 #[.slice a b d,.slice e f g] w K:=
 rqq func100 (C:=gL.k) h
end
def fy.k:List Nat:= []
section
variable(a:OA)(b:AV)(K:KT)(w:World)
def fy.W:Prop:=
 let d:=w.alloc (.cells b 23);bk prog 60 #[.pointer a] d fun e f=>∃g:Bool,e=.bool g/\Split g (let i:=f.drew;Is a fun j:Addr=>∃k:Option Nat,i.cell? (j.add 1)=some (.map k)/\∃m:AV,(m.size=32/\Cells i (⟨w.heap.size,0,none⟩:Addr) m)/\∃n:Int,∃o:Bool,(Instr.lookup 89 (.map k) (.agg m) true).run prog i=.ok (.tuple #[.int .i64 n,.bool o]) i/\Split o (Is a fun p:Addr=>∃q:OA,∃r t:Nat,i.cell? (p.add 0)=some (.slice q r t)/\(0<=n/\n<(r:Int))/\Is q fun u:Addr=>∃v:OA,i.cell? (u.add (n.toNat*1))=some (.pointer v)/\K (.pointer v) i) (K (.pointer none) i)) (K (.pointer none) f)
variable{a b K w}
theorem fy.of(h:fy.W a b K w):bk prog 101 #[.pointer a,.agg b] w K:=
 rqq func101 (C:=fy.k) h
end
def b9.k:List Nat:= []
def b9.q1(K:KT):aN:=(aK 0 (bV (sR (sR (body f102)))++(aS f102)) (bK (fun bO w_=>match cutAt b9.k (sR (sR (body f102)))with|true=>Holds none [] prog 30 (sR (sR (body f102))) (bL prog f102 K) bO w_|false=>aT none [] prog 30 b9.k (sR (sR (body f102))) (aS f102) (bL prog f102 K) bO w_) (bL prog f102 K)))
def b9.e1(a:OA)(b c:Nat)(d:OA)(e f:Nat)(g:Int)(s:(OA)×Nat×Nat×Int):Env:= [(0,.slice s.1 s.2.1 s.2.2.1),(4,.slice a b c),(7,.slice d e f),(8,.int .i64 g),(9,.int .i64 s.2.2.2)]
def b9.u1:List Nat:= [0,4,7,8,9]
section
variable(a:OA)(b d:Nat)(e:OA)(f g:Nat)(K:KT)(w:World)
def b9.W:Prop:=
 Holds none [] prog 30 (.loop (lB (bB (sR (sL (sR (body f102))))))) (b9.q1 K) [(0,.slice a b d),(4,.slice none 0 0),(7,.slice e f g),(8,.int .i64 (f:Int)),(9,.int .i64 0)] w
variable{a b d e f g K w}
theorem b9.of(h:b9.W a b d e f g K w):bk prog 102 #[.slice a b d,.slice e f g] w K:=
 rqq func102 (C:=b9.k) h
end
section
variable(a:OA)(b c:Nat)(d:OA)(e f:Nat)(g:OA)(i j:Nat)(k m:Int)(Q:aN)(w:World)
def b9.B1:Prop:=
 Split (decide (m<k)) ((0<=m/\m<(i:Int))/\Is g fun n:Addr=>∃o:Int,w.cell? (n.add (m.toNat*1))=some (.int .u64 o)/\Split (m==(b:Int)) (let p:=w.alloc (.cells #[.int .u64 0] 49);∃(q:OA) (r t:Nat) (u:World),(Builtin.append_ #[148,148] 148 #[.slice a b c,.slice (some (⟨w.heap.size,0,none⟩:Addr)) 1 1]).run prog p=.ok (.slice q r t) u/\(0<=m/\m<(r:Int))/\Is q fun v:Addr=>∃x:Int,u.cell? (v.add (m.toNat*1))=some (.int .u64 x)/\(0<=m/\m<(r:Int))/\Is q fun y:Addr=>Wr u (y.add (m.toNat*1))/\let z:=u.setCell (y.add (m.toNat*1)) (.int .u64 (u64.wrap ((BitVec.ofInt 64 x|||BitVec.ofInt 64 o).toNat)));Q .normal [(0,.slice q r t),(4,.slice d e f),(7,.slice g i j),(8,.int .i64 k),(9,.int .i64 (i64.wrap (m+(1:Int))))] z) ((0<=m/\m<(b:Int))/\Is a fun a1:Addr=>∃b1:Int,w.cell? (a1.add (m.toNat*1))=some (.int .u64 b1)/\(0<=m/\m<(b:Int))/\Is a fun c1:Addr=>Wr w (c1.add (m.toNat*1))/\let d1:=w.setCell (c1.add (m.toNat*1)) (.int .u64 (u64.wrap ((BitVec.ofInt 64 b1|||BitVec.ofInt 64 o).toNat)));Q .normal [(0,.slice a b c),(4,.slice d e f),(7,.slice g i j),(8,.int .i64 k),(9,.int .i64 (i64.wrap (m+(1:Int))))] d1)) (Q (.exit 0) [(0,.slice a b c),(4,.slice d e f),(7,.slice g i j),(8,.int .i64 k),(9,.int .i64 m)] w)
theorem b9.b1:(aT none [] prog 30 b9.k (lB (bB (sR (sL (sR (body f102)))))) b9.u1 Q [(0,.slice a b c),(4,.slice d e f),(7,.slice g i j),(8,.int .i64 k),(9,.int .i64 m)] w)=b9.B1 a b c d e f g i j k m Q w:=by kernel_rfl
variable{d e f g i j k}
theorem b9.cf(I:(OA)×Nat×Nat×Int->World->Prop)(μ:(OA)×Nat×Nat×Int->World->Nat)(s:(OA)×Nat×Nat×Int){Q:aN}{w:World}(h0:I s w)
 (round:∀s w,I s w->b9.B1 (s.1) (s.2.1) (s.2.2.1) d e f g i j k (s.2.2.2) (bI (b9.e1 d e f g i j k) I μ s w Q) w):Holds none [] prog 30 (.loop (lB (bB (sR (sL (sR (body f102))))))) Q (b9.e1 d e f g i j k s) w:=
 ba ng mix (b9.e1 d e f g i j k) I μ b9.k b9.u1 s (fun s Q w=>b9.B1 (s.1) (s.2.1) (s.2.2.1) d e f g i j k (s.2.2.2) Q w) (fun s Q w=>b9.b1 (s.1) (s.2.1) (s.2.2.1) d e f g i j k (s.2.2.2) Q w) h0 round
end
section
def b9.cO(a:OA)(b c:Nat)(d:OA)(e f:Nat)(g:OA)(i j:Nat)(k m:Int)(K:KT)(w:World):Prop:=
 K (.slice a b c) w
variable(a:OA)(b c:Nat)(d:OA)(e f:Nat)(g:OA)(i j:Nat)(k m:Int)(K:KT)(w:World)
theorem b9.dh:(b9.q1 K (.exit 0) [(0,.slice a b c),(4,.slice d e f),(7,.slice g i j),(8,.int .i64 k),(9,.int .i64 m)] w)=b9.cO a b c d e f g i j k m K w:=by kernel_rfl
end
def dY.k:List Nat:= []
section
variable(a:AV)(b:Addr)(K:KT)(w:World)
def dY.W:Prop:=
 let d:=w.alloc (.cells a 23);∃e:OA,d.cell? b=some (.pointer e)/\∃f:AV,(f.size=32/\Cells d (⟨w.heap.size,0,none⟩:Addr) f)/\bk prog 79 #[.pointer e,.agg f] d fun g i=>∃j:Bool,g=.bool j/\K (.bool (!j)) i
variable{a b K w}
theorem dY.of(h:dY.W a b K w):bk prog 107 #[.agg a,.pointer (some b)] w K:=
 rqq func107 (C:=dY.k) h
end
def bH.k:List Nat:= []
def bH.q1(K:KT):aN:=(aK 0 (bV (sR (sR (body f108)))++(aS f108)) (bK (fun bO w_=>match cutAt bH.k (sR (sR (body f108)))with|true=>Holds none [] prog 24 (sR (sR (body f108))) (bL prog f108 K) bO w_|false=>aT none [] prog 24 bH.k (sR (sR (body f108))) (aS f108) (bL prog f108 K) bO w_) (bL prog f108 K)))
def bH.e1(a:Int)(b:OA)(c d:Nat)(s:(OA)×Nat×Nat):Env:= [(0,.slice s.1 s.2.1 s.2.2),(1,.int .i64 a),(4,.slice b c d)]
def bH.u1:List Nat:= [0,1,4]
section
variable(a:OA)(b d:Nat)(e:Int)(K:KT)(w:World)
def bH.W:Prop:=
 Holds none [] prog 24 (.loop (lB (bB (sL (sR (body f108)))))) (bH.q1 K) [(0,.slice a b d),(1,.int .i64 e),(4,.slice none 0 0)] w
variable{a b d e K w}
theorem bH.of(h:bH.W a b d e K w):bk prog 108 #[.slice a b d,.int .i64 e] w K:=
 rqq func108 (C:=bH.k) h
end
section
variable(a:OA)(b c:Nat)(d:Int)(e:OA)(f g:Nat)(Q:aN)(w:World)
def bH.B1:Prop:=
 (64:Int)≠0/\Split (decide ((b:Int)<=(i64.wrap (d.tdiv (64:Int))))) (let i:=w.alloc (.cells #[.int .u64 0] 49);∃(j:OA) (k m:Nat) (n:World),(Builtin.append_ #[148,148] 148 #[.slice a b c,.slice (some (⟨w.heap.size,0,none⟩:Addr)) 1 1]).run prog i=.ok (.slice j k m) n/\Q .normal [(0,.slice j k m),(1,.int .i64 d),(4,.slice e f g)] n) (Q (.exit 0) [(0,.slice a b c),(1,.int .i64 d),(4,.slice e f g)] w)
theorem bH.b1:(aT none [] prog 24 bH.k (lB (bB (sL (sR (body f108))))) bH.u1 Q [(0,.slice a b c),(1,.int .i64 d),(4,.slice e f g)] w)=bH.B1 a b c d e f g Q w:=by kernel_rfl
variable{d e f g}
theorem bH.cf(I:(OA)×Nat×Nat->World->Prop)(μ:(OA)×Nat×Nat->World->Nat)(s:(OA)×Nat×Nat){Q:aN}{w:World}(h0:I s w)
 (round:∀s w,I s w->bH.B1 (s.1) (s.2.1) (s.2.2) d e f g (bI (bH.e1 d e f g) I μ s w Q) w):Holds none [] prog 24 (.loop (lB (bB (sL (sR (body f108)))))) Q (bH.e1 d e f g s) w:=
 ba ng mix (bH.e1 d e f g) I μ bH.k bH.u1 s (fun s Q w=>bH.B1 (s.1) (s.2.1) (s.2.2) d e f g Q w) (fun s Q w=>bH.b1 (s.1) (s.2.1) (s.2.2) d e f g Q w) h0 round
end
section
def bH.cO(a:OA)(b c:Nat)(d:Int)(e:OA)(f g:Nat)(K:KT)(w:World):Prop:=
 let i:=w.drew;(64:Int)≠0/\(0<=(i64.wrap (d.tdiv (64:Int)))/\(i64.wrap (d.tdiv (64:Int)))<(b:Int))/\Is a fun j:Addr=>∃k:Int,i.cell? (j.add ((i64.wrap (d.tdiv (64:Int))).toNat*1))=some (.int .u64 k)/\(64:Int)≠0/\0<=(d.tmod (64:Int))/\(0<=(i64.wrap (d.tdiv (64:Int)))/\(i64.wrap (d.tdiv (64:Int)))<(b:Int))/\Is a fun m:Addr=>Wr i (m.add ((i64.wrap (d.tdiv (64:Int))).toNat*1))/\let n:=i.setCell (m.add ((i64.wrap (d.tdiv (64:Int))).toNat*1)) (.int .u64 (u64.wrap ((BitVec.ofInt 64 k|||BitVec.ofInt 64 (u64.wrap ((1:Int)*2 ^ (min (d.tmod (64:Int)).toNat 64)))).toNat)));K (.slice a b c) n
variable(a:OA)(b c:Nat)(d:Int)(e:OA)(f g:Nat)(K:KT)(w:World)
theorem bH.dh:(bH.q1 K (.exit 0) [(0,.slice a b c),(1,.int .i64 d),(4,.slice e f g)] w)=bH.cO a b c d e f g K w:=by kernel_rfl
end
def aq.k:List Nat:= []
def aq.q1(K:KT):aN:=(aK 0 (bV (sR (sR (body f113)))++(aS f113)) (bK (fun bO w_=>match cutAt aq.k (sR (sR (body f113)))with|true=>Holds none [] prog 19 (sR (sR (body f113))) (bL prog f113 K) bO w_|false=>aT none [] prog 19 aq.k (sR (sR (body f113))) (aS f113) (bL prog f113 K) bO w_) (bL prog f113 K)))
def aq.e1(a:OA)(b c:Nat)(d:Addr)(e:Int)(s:Int×Int):Env:= [(0,.slice a b c),(1,.func (.func 107) #[] #[.pointer (some d)]),(4,.int .i64 s.1),(7,.int .i64 e),(8,.int .i64 s.2)]
def aq.u1:List Nat:= [0,1,4,7,8]
section
variable(a:OA)(b d:Nat)(e:Addr)(K:KT)(w:World)
def aq.W:Prop:=
 Holds none [] prog 19 (.loop (lB (bB (sR (sL (sR (body f113))))))) (aq.q1 K) [(0,.slice a b d),(1,.func (.func 107) #[] #[.pointer (some e)]),(4,.int .i64 0),(7,.int .i64 (b:Int)),(8,.int .i64 0)] w
variable{a b d e K w}
theorem aq.of(h:aq.W a b d e K w):bk prog 113 #[.slice a b d,.func (.func 107) #[] #[.pointer (some e)]] w K:=
 rqq func113 (C:=aq.k) h
end
section
variable(a:OA)(b c:Nat)(d:Addr)(e f g:Int)(Q:aN)(w:World)
def aq.B1:Prop:=
 Split (decide (g<f)) ((0<=g/\g<(b:Int))/\Is a fun i:Addr=>∃j:AV,(j.size=32/\Cells w (i.add (g.toNat*32)) j)/\bk prog 107 #[.agg j,.pointer (some d)] w fun k m=>∃n:Bool,k=.bool n/\Split n (Q .ret [(0,.slice a b c),(1,.func (.func 107) #[] #[.pointer (some d)]),(4,.int .i64 g),(7,.int .i64 f),(8,.int .i64 g)] m) (Q .normal [(0,.slice a b c),(1,.func (.func 107) #[] #[.pointer (some d)]),(4,.int .i64 e),(7,.int .i64 f),(8,.int .i64 (i64.wrap (g+(1:Int))))] m)) (Q (.exit 0) [(0,.slice a b c),(1,.func (.func 107) #[] #[.pointer (some d)]),(4,.int .i64 e),(7,.int .i64 f),(8,.int .i64 g)] w)
theorem aq.b1:(aT none [] prog 19 aq.k (lB (bB (sR (sL (sR (body f113)))))) aq.u1 Q [(0,.slice a b c),(1,.func (.func 107) #[] #[.pointer (some d)]),(4,.int .i64 e),(7,.int .i64 f),(8,.int .i64 g)] w)=aq.B1 a b c d e f g Q w:=by kernel_rfl
variable{a b c d f}
theorem aq.cf(I:Int×Int->World->Prop)(μ:Int×Int->World->Nat)(s:Int×Int){Q:aN}{w:World}(h0:I s w)
 (round:∀s w,I s w->aq.B1 a b c d (s.1) f (s.2) (bI (aq.e1 a b c d f) I μ s w Q) w):Holds none [] prog 19 (.loop (lB (bB (sR (sL (sR (body f113))))))) Q (aq.e1 a b c d f s) w:=
 ba ng mix (aq.e1 a b c d f) I μ aq.k aq.u1 s (fun s Q w=>aq.B1 a b c d (s.1) f (s.2) Q w) (fun s Q w=>aq.b1 a b c d (s.1) f (s.2) Q w) h0 round
end
section
def aq.cO(a:OA)(b c:Nat)(d:Addr)(e f g:Int)(K:KT)(w:World):Prop:=
 K (.int .i64 (-1)) w
variable(a:OA)(b c:Nat)(d:Addr)(e f g:Int)(K:KT)(w:World)
theorem aq.dh:(aq.q1 K (.exit 0) [(0,.slice a b c),(1,.func (.func 107) #[] #[.pointer (some d)]),(4,.int .i64 e),(7,.int .i64 f),(8,.int .i64 g)] w)=aq.cO a b c d e f g K w:=by kernel_rfl
end
def b0.k:List Nat:= []
section
variable(a:OA)(b d:Nat)(e:Addr)(K:KT)(w:World)
def b0.W:Prop:=
 bk prog 113 #[.slice a b d,.func (.func 107) #[] #[.pointer (some e)]] w fun f g=>∃i:Int,f=.int .i64 i/\K (.bool (decide (i>=(0:Int)))) g
variable{a b d e K w}
theorem b0.of(h:b0.W a b d e K w):bk prog 85 #[.slice a b d,.func (.func 107) #[] #[.pointer (some e)]] w K:=
 rqq func85 (C:=b0.k) h
end
def aI.k:List Nat:= []
def aI.q1(K:KT):aN:=(aK 0 (aS f120) (bL prog f120 K))
def aI.e1(a:Nat)(b:OA)(c d:Nat)(e s:Int):Env:= [(0,.func (.yield a) #[] #[]),(5,.slice b c d),(6,.int .i64 e),(7,.int .i64 s)]
def aI.u1:List Nat:= [0,5,6,7]
def aI.q2(Q:aN):aN:=(aK 2 (bV (sR (sR (sR (lB (bB (sR (body f120)))))))++aI.u1) (aK 1 (bV (sR (sR (sR (lB (bB (sR (body f120)))))))++aI.u1) (bK (fun bO w_=>match cutAt aI.k (sR (sR (sR (lB (bB (sR (body f120)))))))with|true=>Holds none [] prog 27 (sR (sR (sR (lB (bB (sR (body f120))))))) Q bO w_|false=>aT none [] prog 27 aI.k (sR (sR (sR (lB (bB (sR (body f120))))))) aI.u1 Q bO w_) Q)))
def aI.e2(a:Nat)(b:Int)(c:OA)(d e:Nat)(f g s:Int):Env:= [(0,.func (.yield a) #[] #[]),(3,.int .i64 b),(4,.int .u64 s),(5,.slice c d e),(6,.int .i64 f),(7,.int .i64 g)]
def aI.u2:List Nat:= [0,3,4,5,6,7]
section
variable(a:Nat)(b:Addr)(K:KT)(w:World)
def aI.W:Prop:=
 ∃d:OA,∃e f:Nat,w.cell? b=some (.slice d e f)/\Holds none [] prog 27 (.loop (lB (bB (sR (body f120))))) (aI.q1 K) [(0,.func (.yield a) #[] #[]),(5,.slice d e f),(6,.int .i64 (e:Int)),(7,.int .i64 0)] w
variable{a b K w}
theorem aI.of(h:aI.W a b K w):bk prog 120 #[.func (.yield a) #[] #[],.pointer (some b)] w K:=
 rqq func120 (C:=aI.k) h
end
section
variable(a:Nat)(b:OA)(c d:Nat)(e f:Int)(Q:aN)(w:World)
def aI.B1:Prop:=
 Split (decide (f<e)) ((0<=f/\f<(c:Int))/\Is b fun g:Addr=>∃i:Int,w.cell? (g.add (f.toNat*1))=some (.int .u64 i)/\Holds none [] prog 27 (.loop (lB (bB (sR (bB (sL (sR (sR (lB (bB (sR (body f120)))))))))))) (aI.q2 Q) [(0,.func (.yield a) #[] #[]),(3,.int .i64 f),(4,.int .u64 i),(5,.slice b c d),(6,.int .i64 e),(7,.int .i64 f)] w) (Q (.exit 0) [(0,.func (.yield a) #[] #[]),(5,.slice b c d),(6,.int .i64 e),(7,.int .i64 f)] w)
theorem aI.b1:(aT none [] prog 27 aI.k (lB (bB (sR (body f120)))) aI.u1 Q [(0,.func (.yield a) #[] #[]),(5,.slice b c d),(6,.int .i64 e),(7,.int .i64 f)] w)=aI.B1 a b c d e f Q w:=by kernel_rfl
variable{a b c d e}
theorem aI.cf(I:Int->World->Prop)(μ:Int->World->Nat)(s:Int){Q:aN}{w:World}(h0:I s w)
 (round:∀s w,I s w->aI.B1 a b c d e s (bI (aI.e1 a b c d e) I μ s w Q) w):Holds none [] prog 27 (.loop (lB (bB (sR (body f120))))) Q (aI.e1 a b c d e s) w:=
 ba ng mix (aI.e1 a b c d e) I μ aI.k aI.u1 s (fun s Q w=>aI.B1 a b c d e s Q w) (fun s Q w=>aI.b1 a b c d e s Q w) h0 round
end
section
def aI.cO(a:Nat)(b:OA)(c d:Nat)(e f:Int)(K:KT)(w:World):Prop:=
 K (.tuple #[]) w
variable(a:Nat)(b:OA)(c d:Nat)(e f:Int)(K:KT)(w:World)
theorem aI.dh:(aI.q1 K (.exit 0) [(0,.func (.yield a) #[] #[]),(5,.slice b c d),(6,.int .i64 e),(7,.int .i64 f)] w)=aI.cO a b c d e f K w:=by kernel_rfl
end
section
variable(a:Nat)(b c:Int)(d:OA)(e f:Nat)(g i:Int)(Q:aN)(w:World)
def aI.B2:Prop:=
 Split (c != (0:Int)) (bk prog 121 #[.int .u64 c] w fun j k=>∃m:Int,j=.int .i64 m/\jQ prog a #[.int .i64 (i64.wrap ((i64.wrap ((64:Int)*b))+m))] k fun n o=>Split (!n) (Q .ret [(0,.func (.yield a) #[] #[]),(3,.int .i64 b),(4,.int .u64 c),(5,.slice d e f),(6,.int .i64 g),(7,.int .i64 i)] o) (Q .normal [(0,.func (.yield a) #[] #[]),(3,.int .i64 b),(4,.int .u64 (u64.wrap ((BitVec.ofInt 64 c&&& BitVec.ofInt 64 (u64.wrap (c-(1:Int)))).toNat))),(5,.slice d e f),(6,.int .i64 g),(7,.int .i64 i)] o)) (Q (.exit 2) [(0,.func (.yield a) #[] #[]),(3,.int .i64 b),(4,.int .u64 c),(5,.slice d e f),(6,.int .i64 g),(7,.int .i64 i)] w)
theorem aI.b2:(aT none [] prog 27 aI.k (lB (bB (sR (bB (sL (sR (sR (lB (bB (sR (body f120))))))))))) aI.u2 Q [(0,.func (.yield a) #[] #[]),(3,.int .i64 b),(4,.int .u64 c),(5,.slice d e f),(6,.int .i64 g),(7,.int .i64 i)] w)=aI.B2 a b c d e f g i Q w:=by kernel_rfl
variable{a b d e f g i}
theorem aI.gz(I:Int->World->Prop)(μ:Int->World->Nat)(s:Int){Q:aN}{w:World}(h0:I s w)
 (round:∀s w,I s w->aI.B2 a b s d e f g i (bI (aI.e2 a b d e f g i) I μ s w Q) w):Holds none [] prog 27 (.loop (lB (bB (sR (bB (sL (sR (sR (lB (bB (sR (body f120)))))))))))) Q (aI.e2 a b d e f g i s) w:=
 ba ng mix (aI.e2 a b d e f g i) I μ aI.k aI.u2 s (fun s Q w=>aI.B2 a b s d e f g i Q w) (fun s Q w=>aI.b2 a b s d e f g i Q w) h0 round
end
section
def aI.gY(a:Nat)(b c:Int)(d:OA)(e f:Nat)(g i:Int)(Q:aN)(w:World):Prop:=
 Q .normal [(0,.func (.yield a) #[] #[]),(5,.slice d e f),(6,.int .i64 g),(7,.int .i64 (i64.wrap (i+(1:Int))))] w
variable(a:Nat)(b c:Int)(d:OA)(e f:Nat)(g i:Int)(Q:aN)(w:World)
theorem aI.jB:(aI.q2 Q (.exit 2) [(0,.func (.yield a) #[] #[]),(3,.int .i64 b),(4,.int .u64 c),(5,.slice d e f),(6,.int .i64 g),(7,.int .i64 i)] w)=aI.gY a b c d e f g i Q w:=by kernel_rfl
end
def aF.k:List Nat:= []
def aF.q1(K:KT):aN:=(aK 0 (aS f99) (bL prog f99 K))
def aF.e1(a:Nat)(b:OA)(c d:Nat)(e s:Int):Env:= [(0,.func (.yield a) #[] #[]),(5,.slice b c d),(6,.int .i64 e),(7,.int .i64 s)]
def aF.u1:List Nat:= [0,5,6,7]
section
variable(a:Nat)(b:Addr)(K:KT)(w:World)
def aF.W:Prop:=
 ∃d:OA,∃e f:Nat,w.cell? b=some (.slice d e f)/\Holds none [] prog 16 (.loop (lB (bB (sR (body f99))))) (aF.q1 K) [(0,.func (.yield a) #[] #[]),(5,.slice d e f),(6,.int .i64 (e:Int)),(7,.int .i64 0)] w
variable{a b K w}
theorem aF.of(h:aF.W a b K w):bk prog 99 #[.func (.yield a) #[] #[],.pointer (some b)] w K:=
 rqq func99 (C:=aF.k) h
end
section
variable(a:Nat)(b:OA)(c d:Nat)(e f:Int)(Q:aN)(w:World)
def aF.B1:Prop:=
 Split (decide (f<e)) ((0<=f/\f<(c:Int))/\Is b fun g:Addr=>∃i:AV,(i.size=32/\Cells w (g.add (f.toNat*32)) i)/\let j:=w.alloc (.cells zH 23);(i.size=32/\(∀k∈i.toList,k.oneCell'=true)/\∀m,m<32->Wr j ((⟨w.heap.size,0,none⟩:Addr).add m))/\let n:=setCells j (⟨w.heap.size,0,none⟩:Addr) i.toList 0;∃o:AV,(o.size=32/\Cells n (⟨w.heap.size,0,none⟩:Addr) o)/\jQ prog a #[.agg o] n fun p q=>Split (!p) (Q .ret [(0,.func (.yield a) #[] #[]),(5,.slice b c d),(6,.int .i64 e),(7,.int .i64 f)] q) (Q .normal [(0,.func (.yield a) #[] #[]),(5,.slice b c d),(6,.int .i64 e),(7,.int .i64 (i64.wrap (f+(1:Int))))] q)) (Q (.exit 0) [(0,.func (.yield a) #[] #[]),(5,.slice b c d),(6,.int .i64 e),(7,.int .i64 f)] w)
theorem aF.b1:(aT none [] prog 16 aF.k (lB (bB (sR (body f99)))) aF.u1 Q [(0,.func (.yield a) #[] #[]),(5,.slice b c d),(6,.int .i64 e),(7,.int .i64 f)] w)=aF.B1 a b c d e f Q w:=by kernel_rfl
variable{a b c d e}
theorem aF.cf(I:Int->World->Prop)(μ:Int->World->Nat)(s:Int){Q:aN}{w:World}(h0:I s w)
 (round:∀s w,I s w->aF.B1 a b c d e s (bI (aF.e1 a b c d e) I μ s w Q) w):Holds none [] prog 16 (.loop (lB (bB (sR (body f99))))) Q (aF.e1 a b c d e s) w:=
 ba ng mix (aF.e1 a b c d e) I μ aF.k aF.u1 s (fun s Q w=>aF.B1 a b c d e s Q w) (fun s Q w=>aF.b1 a b c d e s Q w) h0 round
end
section
def aF.cO(a:Nat)(b:OA)(c d:Nat)(e f:Int)(K:KT)(w:World):Prop:=
 K (.tuple #[]) w
variable(a:Nat)(b:OA)(c d:Nat)(e f:Int)(K:KT)(w:World)
theorem aF.dh:(aF.q1 K (.exit 0) [(0,.func (.yield a) #[] #[]),(5,.slice b c d),(6,.int .i64 e),(7,.int .i64 f)] w)=aF.cO a b c d e f K w:=by kernel_rfl
end
end Go.Proofs.YtnboahlopghcjaaGreatDoor
