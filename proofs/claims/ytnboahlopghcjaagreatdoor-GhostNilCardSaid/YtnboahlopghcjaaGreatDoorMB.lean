import Derived.Test.YtnboahlopghcjaaGreatDoorProg
import Derived.Test.YtnboahlopghcjaaGreatDoorMA
set_option linter.unusedVariables false
namespace Go.Proofs.YtnboahlopghcjaaGreatDoor
open Go.Proofs.Tryz
open Go Go.bp
abbrev OA:=Option Addr
abbrev AV:=Array Value
abbrev KT:=Value->World->Prop
abbrev zH:Array Value:= #[.int .u8 0,.int .u8 0,.int .u8 0,.int .u8 0,.int .u8 0,.int .u8 0,.int .u8 0,.int .u8 0,.int .u8 0,.int .u8 0,.int .u8 0,.int .u8 0,.int .u8 0,.int .u8 0,.int .u8 0,.int .u8 0,.int .u8 0,.int .u8 0,.int .u8 0,.int .u8 0,.int .u8 0,.int .u8 0,.int .u8 0,.int .u8 0,.int .u8 0,.int .u8 0,.int .u8 0,.int .u8 0,.int .u8 0,.int .u8 0,.int .u8 0,.int .u8 0]
abbrev zC:Array Value:= #[.int .u8 0,.int .u8 0,.int .u8 0,.int .u8 0,.int .u8 0,.int .u8 0,.int .u8 0,.int .u8 0,.int .u8 0,.int .u8 0,.int .u8 0,.int .u8 0,.int .u8 0,.int .u8 0,.int .u8 0,.int .u8 0,.int .u8 0,.int .u8 0,.int .u8 0,.int .u8 0,.int .u8 0,.int .u8 0,.int .u8 0,.int .u8 0,.int .u8 0,.int .u8 0,.int .u8 0,.int .u8 0,.int .u8 0,.int .u8 0,.int .u8 0,.int .u8 0,.int .u64 0,.slice none 0 0,.slice none 0 0]
abbrev zS:Array Value:= #[.int .u8 0,.int .u8 0,.int .u8 0,.int .u8 0,.int .u8 0,.int .u8 0,.int .u8 0,.int .u8 0,.int .u8 0,.int .u8 0,.int .u8 0,.int .u8 0,.int .u8 0,.int .u8 0,.int .u8 0,.int .u8 0,.int .u8 0,.int .u8 0,.int .u8 0,.int .u8 0,.int .u8 0,.int .u8 0,.int .u8 0,.int .u8 0,.int .u8 0,.int .u8 0,.int .u8 0,.int .u8 0,.int .u8 0,.int .u8 0,.int .u8 0,.int .u8 0,.int .u64 0,.slice none 0 0,.slice none 0 0,.map none]
abbrev gC:Nat:=3
abbrev gP:Nat:=4
abbrev gq:Nat:=5
abbrev ao:Nat:=23
abbrev fX:Nat:=25
abbrev cN:Nat:=28
abbrev aR:Nat:=35
abbrev la:Nat:=36
abbrev nz:Nat:=48
abbrev fC:Nat:=49
abbrev gS:Nat:=50
abbrev bX:Nat:=52
abbrev dP:Nat:=73
abbrev iG:Nat:=77
abbrev da:Nat:=80
abbrev dr:Nat:=82
abbrev df:Nat:=88
abbrev bE:Nat:=89
abbrev cI:Nat:=91
abbrev di:Nat:=98
abbrev eA:Nat:=107
abbrev cP:Nat:=109
abbrev iU:Nat:=113
abbrev eR:Nat:=115
abbrev oZ:Nat:=128
abbrev iO:Nat:=129
abbrev fW:Nat:=140
abbrev fi:Nat:=141
abbrev pF:Nat:=143
abbrev dg:Nat:=146
abbrev vL:Nat:=147
abbrev iB:Nat:=148
abbrev cH:Nat:=150
abbrev sk:Nat:=187
abbrev aU.id:Nat:=8
abbrev fj.id:Nat:=10
abbrev dK.id:Nat:=12
abbrev bP.id:Nat:=14
abbrev cK.id:Nat:=15
abbrev cD.id:Nat:=17
abbrev bL.id:Nat:=18
abbrev bK.id:Nat:=24
abbrev dq.id:Nat:=29
abbrev cG.id:Nat:=30
abbrev cr.id:Nat:=31
abbrev cJ.id:Nat:=32
abbrev cF.id:Nat:=34
abbrev an.id:Nat:=39
abbrev bT.id:Nat:=40
abbrev fR.id:Nat:=41
abbrev ag.id:Nat:=42
abbrev aw.id:Nat:=43
abbrev eN.id:Nat:=44
abbrev bW.id:Nat:=45
abbrev jh.id:Nat:=46
abbrev aS.id:Nat:=47
abbrev dH.id:Nat:=53
abbrev bJ.id:Nat:=54
abbrev dp.id:Nat:=55
abbrev dm.id:Nat:=56
abbrev dO.id:Nat:=60
abbrev jy.id:Nat:=64
abbrev cY.id:Nat:=65
abbrev af.id:Nat:=66
abbrev ct.id:Nat:=69
abbrev aD.id:Nat:=70
abbrev cC.id:Nat:=71
abbrev fH.id:Nat:=72
abbrev ae.id:Nat:=73
abbrev b0.id:Nat:=74
abbrev bk.id:Nat:=75
abbrev aL.id:Nat:=76
abbrev bD.id:Nat:=77
abbrev dd.id:Nat:=78
abbrev dY.id:Nat:=79
abbrev aW.id:Nat:=80
abbrev b6.id:Nat:=81
abbrev dW.id:Nat:=82
abbrev bZ.id:Nat:=83
abbrev cB.id:Nat:=84
abbrev cy.id:Nat:=85
abbrev a8.id:Nat:=87
abbrev cu.id:Nat:=88
abbrev aI.id:Nat:=89
abbrev du.id:Nat:=90
abbrev cm.id:Nat:=92
abbrev fk.id:Nat:=93
abbrev bR.id:Nat:=98
abbrev ax.id:Nat:=99
abbrev eZ.id:Nat:=100
abbrev dI.id:Nat:=101
abbrev bw.id:Nat:=102
abbrev bO.id:Nat:=104
abbrev eF.id:Nat:=105
abbrev bits_Len.id:Nat:=106
abbrev cM.id:Nat:=107
abbrev bf.id:Nat:=108
abbrev dV.id:Nat:=109
abbrev dF.id:Nat:=110
abbrev dG.id:Nat:=111
abbrev aq.id:Nat:=112
abbrev aA.id:Nat:=118
abbrev ay.id:Nat:=120
abbrev bits_TrailingZeros64.id:Nat:=121
abbrev fL.id:Nat:=122
abbrev gK.id:Nat:=123
abbrev fM.id:Nat:=124
abbrev fZ.id:Nat:=125
abbrev fN.id:Nat:=126
abbrev eT.id:Nat:=127
abbrev gw.id:Nat:=129
abbrev bits_Len64.id:Nat:=131
abbrev aV.id:Nat:=132
abbrev bits_Mul64.id:Nat:=133
abbrev aM.id:Nat:=134
abbrev gJ.id:Nat:=135
abbrev lx.id:Nat:=137
abbrev gY.id:Nat:=139
abbrev bits_LeadingZeros64.id:Nat:=140
abbrev gX.id:Nat:=141
noncomputable abbrev ag.fn:Func:=f42
noncomputable abbrev aq.fn:Func:=f112
noncomputable abbrev aM.fn:Func:=f134
theorem ct.at_:prog.funcs[(69:Nat)]? =some f69:=func69
theorem bk.at_:prog.funcs[(75:Nat)]? =some f75:=func75
theorem bD.at_:prog.funcs[(77:Nat)]? =some f77:=func77
theorem aI.at_:prog.funcs[(89:Nat)]? =some f89:=func89
theorem ax.at_:prog.funcs[(99:Nat)]? =some f99:=func99
theorem pN.at_:prog.funcs[(119:Nat)]? =some f119:=func119
theorem ay.at_:prog.funcs[(120:Nat)]? =some f120:=func120
theorem ng:NG prog:=by
 have h:(prog.funcs.toList.all fun f=> !(f.name== "runtime.NumGoroutine"))=true:=by kernel_rfl
 intro g fn hf;rw [List.all_eq_true]at h;have:=h fn (by simpa using Array.mem_of_getElem? hf);simpa using this
theorem mix:prog.follows .mixedOrders=true:=by kernel_rfl
def qo.k:List Nat:= []
def qo.q1(K:KT):aJ:=(aK 0 (bY (sR (sR (body f13)))++(aO f13)) (bN (fun bS w_=>match cutAt qo.k (sR (sR (body f13)))with|true=>Holds none [] prog 18 (sR (sR (body f13))) (bG prog f13 K) bS w_|false=>aT none [] prog 18 qo.k (sR (sR (body f13))) (aO f13) (bG prog f13 K) bS w_) (bG prog f13 K)))
section
variable(a:OA)(b:Nat)(d:Nat)(e:AV)(K:KT)(w:World)
variable{a b d e K w}
end
section
variable(a:OA)(b:Nat)(c:Nat)(d:Addr)(e:Bool)(f:Int)(Q:aJ)(w:World)
variable{a b c d}
end
section
variable(a:OA)(b:Nat)(c:Nat)(d:Addr)(e:Bool)(f:Int)(K:KT)(w:World)
end
section
variable(a:OA)(b:Nat)(d:Nat)(e:OA)(f:Nat)(g:Nat)(K:KT)(w:World)
variable{a b d e f g K w}
end
section
variable(a:OA)(b:Nat)(c:Nat)(d:OA)(e:Nat)(f:Nat)(g:Bool)(i:Int)(Q:aJ)(w:World)
variable{a b c d e f}
end
section
variable(a:OA)(b:Nat)(c:Nat)(d:OA)(e:Nat)(f:Nat)(g:Bool)(i:Int)(K:KT)(w:World)
end
section
variable(a:OA)(b:Nat)(d:Nat)(K:KT)(w:World)
variable{a b d K w}
end
section
variable(a:OA)(b:Nat)(c:Nat)(d:OA)(e:Nat)(f:Nat)(g:OA)(i:Nat)(j:Nat)(k:Int)(Q:aJ)(w:World)
variable{a b c d e f}
end
section
variable(a:OA)(b:Nat)(c:Nat)(d:OA)(e:Nat)(f:Nat)(g:OA)(i:Nat)(j:Nat)(k:Int)(K:KT)(w:World)
end
section
variable(a:OA)(b:Nat)(c:Nat)(d:OA)(e:Nat)(f:Nat)(g:OA)(i:Nat)(j:Nat)(k:Int)(m:Int)(Q:aJ)(w:World)
variable{a b c d e f g i j k}
end
section
variable(a:OA)(b:Nat)(c:Nat)(d:OA)(e:Nat)(f:Nat)(g:OA)(i:Nat)(j:Nat)(k:Int)(m:Int)(Q:aJ)(w:World)
end
section
variable(a:AV)(b:AV)(K:KT)(w:World)
variable{a b K w}
end
section
variable(a:Addr)(b:Addr)(c:Int)(d:Int)(Q:aJ)(w:World)
variable{a b}
end
section
variable(a:Addr)(b:Addr)(c:Int)(d:Int)(K:KT)(w:World)
end
def dO.k:List Nat:= []
section
variable(a:OA)(K:KT)(w:World)
def dO.W:Prop:=
 Split (!(a).isNone) (Is a fun b:Addr=> ∃d:Option Nat,w.cell? (b.add 1)=some (.map d)/\K (.bool (!(d).isNone)) w) (K (.bool false) w)
variable{a K w}
theorem dO.of(h:dO.W a K w):aY prog 60 #[.pointer a] w K:=
 aH (C:=dO.k) (c:=body f60) ng mix func60 (by kernel_rfl) (by kernel_rfl) (by kernel_rfl) h
end
def af.k:List Nat:= []
def af.q1(K:KT):aJ:=(aK 0 (bY (sR (sR (sR (body f66))))++(aO f66)) (bN (fun bS w_=>match cutAt af.k (sR (sR (sR (body f66))))with|true=>Holds none [] prog 61 (sR (sR (sR (body f66)))) (bG prog f66 K) bS w_|false=>aT none [] prog 61 af.k (sR (sR (sR (body f66)))) (aO f66) (bG prog f66 K) bS w_) (bG prog f66 K)))
def af.e1(a:OA)(b:Nat)(c:Nat)(s:(OA)×Nat×Nat×Int):Env:= [(0,.slice a b c),(2,.slice s.1 s.2.1 s.2.2.1),(3,.int .i64 s.2.2.2)]
def af.u1:List Nat:= [0,2,3]
def af.q2(Q:aJ):aJ:=(aK 2 (bY (sR (sR (cT (sR (bB (sL (sR (lB (bB (sR (sL (sR (sR (body f66))))))))))))))++(bY (sR (sR (lB (bB (sR (sL (sR (sR (body f66)))))))))++af.u1)) (bN (fun bS w_=>match cutAt af.k (sR (sR (cT (sR (bB (sL (sR (lB (bB (sR (sL (sR (sR (body f66))))))))))))))with|true=>Holds none [] prog 61 (sR (sR (cT (sR (bB (sL (sR (lB (bB (sR (sL (sR (sR (body f66)))))))))))))) (aK 1 (bY (sR (sR (lB (bB (sR (sL (sR (sR (body f66)))))))))++af.u1) (bN (fun bS w_=>match cutAt af.k (sR (sR (lB (bB (sR (sL (sR (sR (body f66)))))))))with|true=>Holds none [] prog 61 (sR (sR (lB (bB (sR (sL (sR (sR (body f66))))))))) Q bS w_|false=>aT none [] prog 61 af.k (sR (sR (lB (bB (sR (sL (sR (sR (body f66))))))))) af.u1 Q bS w_) Q)) bS w_|false=>aT none [] prog 61 af.k (sR (sR (cT (sR (bB (sL (sR (lB (bB (sR (sL (sR (sR (body f66)))))))))))))) (bY (sR (sR (lB (bB (sR (sL (sR (sR (body f66)))))))))++af.u1) (aK 1 (bY (sR (sR (lB (bB (sR (sL (sR (sR (body f66)))))))))++af.u1) (bN (fun bS w_=>match cutAt af.k (sR (sR (lB (bB (sR (sL (sR (sR (body f66)))))))))with|true=>Holds none [] prog 61 (sR (sR (lB (bB (sR (sL (sR (sR (body f66))))))))) Q bS w_|false=>aT none [] prog 61 af.k (sR (sR (lB (bB (sR (sL (sR (sR (body f66))))))))) af.u1 Q bS w_) Q)) bS w_) (aK 1 (bY (sR (sR (lB (bB (sR (sL (sR (sR (body f66)))))))))++af.u1) (bN (fun bS w_=>match cutAt af.k (sR (sR (lB (bB (sR (sL (sR (sR (body f66)))))))))with|true=>Holds none [] prog 61 (sR (sR (lB (bB (sR (sL (sR (sR (body f66))))))))) Q bS w_|false=>aT none [] prog 61 af.k (sR (sR (lB (bB (sR (sL (sR (sR (body f66))))))))) af.u1 Q bS w_) Q))))
def af.e2(a:OA)(b:Nat)(c:Nat)(d:OA)(e:Nat)(f:Nat)(g:OA)(i:Nat)(j:Nat)(s:Int×Int):Env:= [(0,.slice a b c),(2,.slice d e f),(3,.int .i64 s.1),(4,.slice g i j),(5,.int .i64 s.2)]
def af.u2:List Nat:= [0,2,3,4,5]
section
variable(a:OA)(b:Nat)(d:Nat)(K:KT)(w:World)
def af.W:Prop:=
 Split (decide ((b:Int)<(2:Int))) (K (.slice a b d) w) (Holds none [] prog 61 (.loop (lB (bB (sR (sL (sR (sR (body f66)))))))) (af.q1 K) [(0,.slice a b d),(2,.slice none 0 0),(3,.int .i64 1)] w)
variable{a b d K w}
theorem af.of(h:af.W a b d K w):aY prog 66 #[.slice a b d] w K:=
 aH (C:=af.k) (c:=body f66) ng mix func66 (by kernel_rfl) (by kernel_rfl) (by kernel_rfl) h
end
section
variable(a:OA)(b:Nat)(c:Nat)(d:OA)(e:Nat)(f:Nat)(g:Int)(Q:aJ)(w:World)
def af.B1:Prop:=
 Split (decide (g<(b:Int))) (let i:=w.drew;(0<=g/\g<(b:Int))/\Is a fun j:Addr=> ∃k:AV,(k.size=32/\Cells i (j.add (g.toNat*32)) k)/\(0<=(IntKind.i64.wrap (g-(1:Int)))/\(IntKind.i64.wrap (g-(1:Int)))<(b:Int))/\Is a fun m:Addr=> ∃n:AV,(n.size=32/\Cells i (m.add ((IntKind.i64.wrap (g-(1:Int))).toNat*32)) n)/\(eh .u8 32 k/\eh .u8 32 n)/\Split (eK k n) ((0<=g/\g<=(b:Int))/\Holds none [] prog 61 (.loop (lB (bB (sR (sL (sR (cT (sR (bB (sL (sR (lB (bB (sR (sL (sR (sR (body f66)))))))))))))))))) (af.q2 Q) [(0,.slice a b c),(2,.slice d e f),(3,.int .i64 g),(4,.slice (if c=g.toNat then a else a.map (·.add (g.toNat*32))) (b-g.toNat) (c-g.toNat)),(5,.int .i64 1)] i) (Q .normal [(0,.slice a b c),(2,.slice d e f),(3,.int .i64 (IntKind.i64.wrap (g+(1:Int))))] i)) (Q (.exit 0) [(0,.slice a b c),(2,.slice d e f),(3,.int .i64 g)] w)
theorem af.b1:(aT none [] prog 61 af.k (lB (bB (sR (sL (sR (sR (body f66))))))) af.u1 Q [(0,.slice a b c),(2,.slice d e f),(3,.int .i64 g)] w)=af.B1 a b c d e f g Q w:=by kernel_rfl
variable{a b c}
theorem af.bU(I:(OA)×Nat×Nat×Int->World->Prop)(μ:(OA)×Nat×Nat×Int->World->Nat)(s:(OA)×Nat×Nat×Int){Q:aJ}{w:World}(h0:I s w)
 (round: ∀s w,I s w->af.B1 a b c (s.1) (s.2.1) (s.2.2.1) (s.2.2.2) (bF (af.e1 a b c) I μ s w Q) w):Holds none [] prog 61 (.loop (lB (bB (sR (sL (sR (sR (body f66)))))))) Q (af.e1 a b c s) w:=
 ba ng mix (af.e1 a b c) I μ af.k af.u1 s (fun s Q w=>af.B1 a b c (s.1) (s.2.1) (s.2.2.1) (s.2.2.2) Q w) (fun s Q w=>af.b1 a b c (s.1) (s.2.1) (s.2.2.1) (s.2.2.2) Q w) h0 round
end
section
def af.cW(a:OA)(b:Nat)(c:Nat)(d:OA)(e:Nat)(f:Nat)(g:Int)(K:KT)(w:World):Prop:=
 K (.slice a b c) w
variable(a:OA)(b:Nat)(c:Nat)(d:OA)(e:Nat)(f:Nat)(g:Int)(K:KT)(w:World)
theorem af.dD:(af.q1 K (.exit 0) [(0,.slice a b c),(2,.slice d e f),(3,.int .i64 g)] w)=af.cW a b c d e f g K w:=by kernel_rfl
end
section
variable(a:OA)(b:Nat)(c:Nat)(d:OA)(e:Nat)(f:Nat)(g:Int)(i:OA)(j:Nat)(k:Nat)(m:Int)(Q:aJ)(w:World)
def af.B2:Prop:=
 Split (decide (m<(j:Int))) (let n:=w.drew;(0<=m/\m<(j:Int))/\Is i fun o:Addr=> ∃p:AV,(p.size=32/\Cells n (o.add (m.toNat*32)) p)/\(0<=(IntKind.i64.wrap (m-(1:Int)))/\(IntKind.i64.wrap (m-(1:Int)))<(j:Int))/\Is i fun q:Addr=> ∃r:AV,(r.size=32/\Cells n (q.add ((IntKind.i64.wrap (m-(1:Int))).toNat*32)) r)/\(eh .u8 32 p/\eh .u8 32 r)/\Split (!(eK p r)) ((0<=m/\m<(j:Int))/\Is i fun t:Addr=> ∃u:AV,(u.size=32/\Cells n (t.add (m.toNat*32)) u)/\(0<=g/\g<(b:Int))/\Is a fun v:Addr=>(u.size=32/\(∀x∈u.toList,x.oneCell'=true)/\ ∀y,y<32->Wr n ((v.add (g.toNat*32)).add y))/\let z:=setCells n (v.add (g.toNat*32)) u.toList 0;Q .normal [(0,.slice a b c),(2,.slice d e f),(3,.int .i64 (IntKind.i64.wrap (g+(1:Int)))),(4,.slice i j k),(5,.int .i64 (IntKind.i64.wrap (m+(1:Int))))] z) (Q .normal [(0,.slice a b c),(2,.slice d e f),(3,.int .i64 g),(4,.slice i j k),(5,.int .i64 (IntKind.i64.wrap (m+(1:Int))))] n)) (Q (.exit 2) [(0,.slice a b c),(2,.slice d e f),(3,.int .i64 g),(4,.slice i j k),(5,.int .i64 m)] w)
theorem af.b2:(aT none [] prog 61 af.k (lB (bB (sR (sL (sR (cT (sR (bB (sL (sR (lB (bB (sR (sL (sR (sR (body f66))))))))))))))))) af.u2 Q [(0,.slice a b c),(2,.slice d e f),(3,.int .i64 g),(4,.slice i j k),(5,.int .i64 m)] w)=af.B2 a b c d e f g i j k m Q w:=by kernel_rfl
variable{a b c d e f i j k}
theorem af.gz(I:Int×Int->World->Prop)(μ:Int×Int->World->Nat)(s:Int×Int){Q:aJ}{w:World}(h0:I s w)
 (round: ∀s w,I s w->af.B2 a b c d e f (s.1) i j k (s.2) (bF (af.e2 a b c d e f i j k) I μ s w Q) w):Holds none [] prog 61 (.loop (lB (bB (sR (sL (sR (cT (sR (bB (sL (sR (lB (bB (sR (sL (sR (sR (body f66)))))))))))))))))) Q (af.e2 a b c d e f i j k s) w:=
 ba ng mix (af.e2 a b c d e f i j k) I μ af.k af.u2 s (fun s Q w=>af.B2 a b c d e f (s.1) i j k (s.2) Q w) (fun s Q w=>af.b2 a b c d e f (s.1) i j k (s.2) Q w) h0 round
end
section
def af.iS(a:OA)(b:Nat)(c:Nat)(d:OA)(e:Nat)(f:Nat)(g:Int)(i:OA)(j:Nat)(k:Nat)(m:Int)(Q:aJ)(w:World):Prop:=
 (0<=g/\g<=(b:Int))/\ ∃(n:Value) (o:World),(Builtin.clear_ #[35] 0 #[.slice (if c=g.toNat then a else a.map (·.add (g.toNat*32))) (b-g.toNat) (c-g.toNat)]).run prog w=.ok n o/\(0<=g/\g<=(c:Int))/\Q .ret [(0,.slice a b c),(2,.slice (if c=0 then a else a.map (·.add (0*32))) (g.toNat-0) (c-0)),(3,.int .i64 g)] o
variable(a:OA)(b:Nat)(c:Nat)(d:OA)(e:Nat)(f:Nat)(g:Int)(i:OA)(j:Nat)(k:Nat)(m:Int)(Q:aJ)(w:World)
theorem af.jI:(af.q2 Q (.exit 2) [(0,.slice a b c),(2,.slice d e f),(3,.int .i64 g),(4,.slice i j k),(5,.int .i64 m)] w)=af.iS a b c d e f g i j k m Q w:=by kernel_rfl
end
def ct.k:List Nat:= []
section
variable(a:AV)(b:AV)(K:KT)(w:World)
def ct.W:Prop:=
 let d:=w.alloc (.cells a 23);let e:=d.alloc (.cells b 23);let f:=e.drew;aY prog 100 #[.slice (some (if 32=0 then(⟨w.heap.size,0,none⟩:Addr)else(⟨w.heap.size,0,none⟩:Addr).add (0*1))) (32-0) (32-0),.slice (some (if 32=0 then(⟨d.heap.size,0,none⟩:Addr)else(⟨d.heap.size,0,none⟩:Addr).add (0*1))) (32-0) (32-0)] f fun g i=> ∃j:Int,g=.int .i64 j/\K (.int .i64 j) i
variable{a b K w}
theorem ct.of(h:ct.W a b K w):aY prog 69 #[.agg a,.agg b] w K:=
 aH (C:=ct.k) (c:=body f69) ng mix func69 (by kernel_rfl) (by kernel_rfl) (by kernel_rfl) h
end
def dY.k:List Nat:= []
section
variable(a:OA)(b:AV)(K:KT)(w:World)
def dY.W:Prop:=
 let d:=w.alloc (.cells b 23);∃e:AV,(e.size=32/\Cells d (⟨w.heap.size,0,none⟩:Addr) e)/\aY prog 101 #[.pointer a,.agg e] d fun f g=> ∃i:OA,f=.pointer i/\K (.bool (!(i).isNone)) g
variable{a b K w}
theorem dY.of(h:dY.W a b K w):aY prog 79 #[.pointer a,.agg b] w K:=
 aH (C:=dY.k) (c:=body f79) ng mix func79 (by kernel_rfl) (by kernel_rfl) (by kernel_rfl) h
end
def eZ.k:List Nat:= []
section
variable(a:OA)(b:Nat)(d:Nat)(e:OA)(f:Nat)(g:Nat)(K:KT)(w:World)
def eZ.W:Prop:=
 yA prog 119 #[.slice a b d,.slice e f g] w fun i j=> ∃k:Int,i=.int .i64 k/\K (.int .i64 k) j
variable{a b d e f g K w}
theorem eZ.of(h:eZ.W a b d e f g K w):aY prog 100 #[.slice a b d,.slice e f g] w K:=
 aH (C:=eZ.k) (c:=body f100) ng mix func100 (by kernel_rfl) (by kernel_rfl) (by kernel_rfl) h
end
def dI.k:List Nat:= []
section
variable(a:OA)(b:AV)(K:KT)(w:World)
def dI.W:Prop:=
 let d:=w.alloc (.cells b 23);aY prog 60 #[.pointer a] d fun e f=> ∃g:Bool,e=.bool g/\Split g (let i:=f.drew;Is a fun j:Addr=> ∃k:Option Nat,i.cell? (j.add 1)=some (.map k)/\ ∃m:AV,(m.size=32/\Cells i (⟨w.heap.size,0,none⟩:Addr) m)/\ ∃n:Int,∃o:Bool,(Instr.lookup 89 (.map k) (.agg m) true).run prog i=.ok (.tuple #[.int .i64 n,.bool o]) i/\Split o (Is a fun p:Addr=> ∃q:OA,∃r:Nat,∃t:Nat,i.cell? (p.add 0)=some (.slice q r t)/\(0<=n/\n<(r:Int))/\Is q fun u:Addr=> ∃v:OA,i.cell? (u.add (n.toNat*1))=some (.pointer v)/\K (.pointer v) i) (K (.pointer none) i)) (K (.pointer none) f)
variable{a b K w}
theorem dI.of(h:dI.W a b K w):aY prog 101 #[.pointer a,.agg b] w K:=
 aH (C:=dI.k) (c:=body f101) ng mix func101 (by kernel_rfl) (by kernel_rfl) (by kernel_rfl) h
end
def bw.k:List Nat:= []
def bw.q1(K:KT):aJ:=(aK 0 (bY (sR (sR (body f102)))++(aO f102)) (bN (fun bS w_=>match cutAt bw.k (sR (sR (body f102)))with|true=>Holds none [] prog 30 (sR (sR (body f102))) (bG prog f102 K) bS w_|false=>aT none [] prog 30 bw.k (sR (sR (body f102))) (aO f102) (bG prog f102 K) bS w_) (bG prog f102 K)))
def bw.e1(a:OA)(b:Nat)(c:Nat)(d:OA)(e:Nat)(f:Nat)(g:Int)(s:(OA)×Nat×Nat×Int):Env:= [(0,.slice s.1 s.2.1 s.2.2.1),(4,.slice a b c),(7,.slice d e f),(8,.int .i64 g),(9,.int .i64 s.2.2.2)]
def bw.u1:List Nat:= [0,4,7,8,9]
section
variable(a:OA)(b:Nat)(d:Nat)(e:OA)(f:Nat)(g:Nat)(K:KT)(w:World)
def bw.W:Prop:=
 Holds none [] prog 30 (.loop (lB (bB (sR (sL (sR (body f102))))))) (bw.q1 K) [(0,.slice a b d),(4,.slice none 0 0),(7,.slice e f g),(8,.int .i64 (f:Int)),(9,.int .i64 0)] w
variable{a b d e f g K w}
theorem bw.of(h:bw.W a b d e f g K w):aY prog 102 #[.slice a b d,.slice e f g] w K:=
 aH (C:=bw.k) (c:=body f102) ng mix func102 (by kernel_rfl) (by kernel_rfl) (by kernel_rfl) h
end
section
variable(a:OA)(b:Nat)(c:Nat)(d:OA)(e:Nat)(f:Nat)(g:OA)(i:Nat)(j:Nat)(k:Int)(m:Int)(Q:aJ)(w:World)
def bw.B1:Prop:=
 Split (decide (m<k)) ((0<=m/\m<(i:Int))/\Is g fun n:Addr=> ∃o:Int,w.cell? (n.add (m.toNat*1))=some (.int .u64 o)/\Split (m==(b:Int)) (let p:=w.alloc (.cells #[.int .u64 0] 49);∃(q:OA) (r t:Nat) (u:World),(Builtin.append_ #[148,148] 148 #[.slice a b c,.slice (some (⟨w.heap.size,0,none⟩:Addr)) 1 1]).run prog p=.ok (.slice q r t) u/\(0<=m/\m<(r:Int))/\Is q fun v:Addr=> ∃x:Int,u.cell? (v.add (m.toNat*1))=some (.int .u64 x)/\(0<=m/\m<(r:Int))/\Is q fun y:Addr=>Wr u (y.add (m.toNat*1))/\let z:=u.setCell (y.add (m.toNat*1)) (.int .u64 (IntKind.u64.wrap ((BitVec.ofInt 64 x|||BitVec.ofInt 64 o).toNat)));Q .normal [(0,.slice q r t),(4,.slice d e f),(7,.slice g i j),(8,.int .i64 k),(9,.int .i64 (IntKind.i64.wrap (m+(1:Int))))] z) ((0<=m/\m<(b:Int))/\Is a fun a1:Addr=> ∃b1:Int,w.cell? (a1.add (m.toNat*1))=some (.int .u64 b1)/\(0<=m/\m<(b:Int))/\Is a fun c1:Addr=>Wr w (c1.add (m.toNat*1))/\let d1:=w.setCell (c1.add (m.toNat*1)) (.int .u64 (IntKind.u64.wrap ((BitVec.ofInt 64 b1|||BitVec.ofInt 64 o).toNat)));Q .normal [(0,.slice a b c),(4,.slice d e f),(7,.slice g i j),(8,.int .i64 k),(9,.int .i64 (IntKind.i64.wrap (m+(1:Int))))] d1)) (Q (.exit 0) [(0,.slice a b c),(4,.slice d e f),(7,.slice g i j),(8,.int .i64 k),(9,.int .i64 m)] w)
theorem bw.b1:(aT none [] prog 30 bw.k (lB (bB (sR (sL (sR (body f102)))))) bw.u1 Q [(0,.slice a b c),(4,.slice d e f),(7,.slice g i j),(8,.int .i64 k),(9,.int .i64 m)] w)=bw.B1 a b c d e f g i j k m Q w:=by kernel_rfl
variable{d e f g i j k}
theorem bw.bU(I:(OA)×Nat×Nat×Int->World->Prop)(μ:(OA)×Nat×Nat×Int->World->Nat)(s:(OA)×Nat×Nat×Int){Q:aJ}{w:World}(h0:I s w)
 (round: ∀s w,I s w->bw.B1 (s.1) (s.2.1) (s.2.2.1) d e f g i j k (s.2.2.2) (bF (bw.e1 d e f g i j k) I μ s w Q) w):Holds none [] prog 30 (.loop (lB (bB (sR (sL (sR (body f102))))))) Q (bw.e1 d e f g i j k s) w:=
 ba ng mix (bw.e1 d e f g i j k) I μ bw.k bw.u1 s (fun s Q w=>bw.B1 (s.1) (s.2.1) (s.2.2.1) d e f g i j k (s.2.2.2) Q w) (fun s Q w=>bw.b1 (s.1) (s.2.1) (s.2.2.1) d e f g i j k (s.2.2.2) Q w) h0 round
end
section
def bw.cW(a:OA)(b:Nat)(c:Nat)(d:OA)(e:Nat)(f:Nat)(g:OA)(i:Nat)(j:Nat)(k:Int)(m:Int)(K:KT)(w:World):Prop:=
 K (.slice a b c) w
variable(a:OA)(b:Nat)(c:Nat)(d:OA)(e:Nat)(f:Nat)(g:OA)(i:Nat)(j:Nat)(k:Int)(m:Int)(K:KT)(w:World)
theorem bw.dD:(bw.q1 K (.exit 0) [(0,.slice a b c),(4,.slice d e f),(7,.slice g i j),(8,.int .i64 k),(9,.int .i64 m)] w)=bw.cW a b c d e f g i j k m K w:=by kernel_rfl
end
def cM.k:List Nat:= []
section
variable(a:AV)(b:Addr)(K:KT)(w:World)
def cM.W:Prop:=
 let d:=w.alloc (.cells a 23);∃e:OA,d.cell? b=some (.pointer e)/\ ∃f:AV,(f.size=32/\Cells d (⟨w.heap.size,0,none⟩:Addr) f)/\aY prog 79 #[.pointer e,.agg f] d fun g i=> ∃j:Bool,g=.bool j/\K (.bool (!j)) i
variable{a b K w}
theorem cM.of(h:cM.W a b K w):aY prog 107 #[.agg a,.pointer (some b)] w K:=
 aH (C:=cM.k) (c:=body f107) ng mix func107 (by kernel_rfl) (by kernel_rfl) (by kernel_rfl) h
end
def bf.k:List Nat:= []
def bf.q1(K:KT):aJ:=(aK 0 (bY (sR (sR (body f108)))++(aO f108)) (bN (fun bS w_=>match cutAt bf.k (sR (sR (body f108)))with|true=>Holds none [] prog 24 (sR (sR (body f108))) (bG prog f108 K) bS w_|false=>aT none [] prog 24 bf.k (sR (sR (body f108))) (aO f108) (bG prog f108 K) bS w_) (bG prog f108 K)))
def bf.e1(a:Int)(b:OA)(c:Nat)(d:Nat)(s:(OA)×Nat×Nat):Env:= [(0,.slice s.1 s.2.1 s.2.2),(1,.int .i64 a),(4,.slice b c d)]
def bf.u1:List Nat:= [0,1,4]
section
variable(a:OA)(b:Nat)(d:Nat)(e:Int)(K:KT)(w:World)
def bf.W:Prop:=
 Holds none [] prog 24 (.loop (lB (bB (sL (sR (body f108)))))) (bf.q1 K) [(0,.slice a b d),(1,.int .i64 e),(4,.slice none 0 0)] w
variable{a b d e K w}
theorem bf.of(h:bf.W a b d e K w):aY prog 108 #[.slice a b d,.int .i64 e] w K:=
 aH (C:=bf.k) (c:=body f108) ng mix func108 (by kernel_rfl) (by kernel_rfl) (by kernel_rfl) h
end
section
variable(a:OA)(b:Nat)(c:Nat)(d:Int)(e:OA)(f:Nat)(g:Nat)(Q:aJ)(w:World)
def bf.B1:Prop:=
 (64:Int)≠0/\Split (decide ((b:Int)<=(IntKind.i64.wrap (d.tdiv (64:Int))))) (let i:=w.alloc (.cells #[.int .u64 0] 49);∃(j:OA) (k m:Nat) (n:World),(Builtin.append_ #[148,148] 148 #[.slice a b c,.slice (some (⟨w.heap.size,0,none⟩:Addr)) 1 1]).run prog i=.ok (.slice j k m) n/\Q .normal [(0,.slice j k m),(1,.int .i64 d),(4,.slice e f g)] n) (Q (.exit 0) [(0,.slice a b c),(1,.int .i64 d),(4,.slice e f g)] w)
theorem bf.b1:(aT none [] prog 24 bf.k (lB (bB (sL (sR (body f108))))) bf.u1 Q [(0,.slice a b c),(1,.int .i64 d),(4,.slice e f g)] w)=bf.B1 a b c d e f g Q w:=by kernel_rfl
variable{d e f g}
theorem bf.bU(I:(OA)×Nat×Nat->World->Prop)(μ:(OA)×Nat×Nat->World->Nat)(s:(OA)×Nat×Nat){Q:aJ}{w:World}(h0:I s w)
 (round: ∀s w,I s w->bf.B1 (s.1) (s.2.1) (s.2.2) d e f g (bF (bf.e1 d e f g) I μ s w Q) w):Holds none [] prog 24 (.loop (lB (bB (sL (sR (body f108)))))) Q (bf.e1 d e f g s) w:=
 ba ng mix (bf.e1 d e f g) I μ bf.k bf.u1 s (fun s Q w=>bf.B1 (s.1) (s.2.1) (s.2.2) d e f g Q w) (fun s Q w=>bf.b1 (s.1) (s.2.1) (s.2.2) d e f g Q w) h0 round
end
section
def bf.cW(a:OA)(b:Nat)(c:Nat)(d:Int)(e:OA)(f:Nat)(g:Nat)(K:KT)(w:World):Prop:=
 let i:=w.drew;(64:Int)≠0/\(0<=(IntKind.i64.wrap (d.tdiv (64:Int)))/\(IntKind.i64.wrap (d.tdiv (64:Int)))<(b:Int))/\Is a fun j:Addr=> ∃k:Int,i.cell? (j.add ((IntKind.i64.wrap (d.tdiv (64:Int))).toNat*1))=some (.int .u64 k)/\(64:Int)≠0/\0<=(d.tmod (64:Int))/\(0<=(IntKind.i64.wrap (d.tdiv (64:Int)))/\(IntKind.i64.wrap (d.tdiv (64:Int)))<(b:Int))/\Is a fun m:Addr=>Wr i (m.add ((IntKind.i64.wrap (d.tdiv (64:Int))).toNat*1))/\let n:=i.setCell (m.add ((IntKind.i64.wrap (d.tdiv (64:Int))).toNat*1)) (.int .u64 (IntKind.u64.wrap ((BitVec.ofInt 64 k|||BitVec.ofInt 64 (IntKind.u64.wrap ((1:Int)*2 ^ (min (d.tmod (64:Int)).toNat 64)))).toNat)));K (.slice a b c) n
variable(a:OA)(b:Nat)(c:Nat)(d:Int)(e:OA)(f:Nat)(g:Nat)(K:KT)(w:World)
theorem bf.dD:(bf.q1 K (.exit 0) [(0,.slice a b c),(1,.int .i64 d),(4,.slice e f g)] w)=bf.cW a b c d e f g K w:=by kernel_rfl
end
def al.k:List Nat:= []
def al.q1(K:KT):aJ:=(aK 0 (bY (sR (sR (body f113)))++(aO f113)) (bN (fun bS w_=>match cutAt al.k (sR (sR (body f113)))with|true=>Holds none [] prog 19 (sR (sR (body f113))) (bG prog f113 K) bS w_|false=>aT none [] prog 19 al.k (sR (sR (body f113))) (aO f113) (bG prog f113 K) bS w_) (bG prog f113 K)))
def al.e1(a:OA)(b:Nat)(c:Nat)(d:Addr)(e:Int)(s:Int×Int):Env:= [(0,.slice a b c),(1,.func (.func 107) #[] #[.pointer (some d)]),(4,.int .i64 s.1),(7,.int .i64 e),(8,.int .i64 s.2)]
def al.u1:List Nat:= [0,1,4,7,8]
section
variable(a:OA)(b:Nat)(d:Nat)(e:Addr)(K:KT)(w:World)
def al.W:Prop:=
 Holds none [] prog 19 (.loop (lB (bB (sR (sL (sR (body f113))))))) (al.q1 K) [(0,.slice a b d),(1,.func (.func 107) #[] #[.pointer (some e)]),(4,.int .i64 0),(7,.int .i64 (b:Int)),(8,.int .i64 0)] w
variable{a b d e K w}
theorem al.of(h:al.W a b d e K w):aY prog 113 #[.slice a b d,.func (.func 107) #[] #[.pointer (some e)]] w K:=
 aH (C:=al.k) (c:=body f113) ng mix func113 (by kernel_rfl) (by kernel_rfl) (by kernel_rfl) h
end
section
variable(a:OA)(b:Nat)(c:Nat)(d:Addr)(e:Int)(f:Int)(g:Int)(Q:aJ)(w:World)
def al.B1:Prop:=
 Split (decide (g<f)) ((0<=g/\g<(b:Int))/\Is a fun i:Addr=> ∃j:AV,(j.size=32/\Cells w (i.add (g.toNat*32)) j)/\aY prog 107 #[.agg j,.pointer (some d)] w fun k m=> ∃n:Bool,k=.bool n/\Split n (Q .ret [(0,.slice a b c),(1,.func (.func 107) #[] #[.pointer (some d)]),(4,.int .i64 g),(7,.int .i64 f),(8,.int .i64 g)] m) (Q .normal [(0,.slice a b c),(1,.func (.func 107) #[] #[.pointer (some d)]),(4,.int .i64 e),(7,.int .i64 f),(8,.int .i64 (IntKind.i64.wrap (g+(1:Int))))] m)) (Q (.exit 0) [(0,.slice a b c),(1,.func (.func 107) #[] #[.pointer (some d)]),(4,.int .i64 e),(7,.int .i64 f),(8,.int .i64 g)] w)
theorem al.b1:(aT none [] prog 19 al.k (lB (bB (sR (sL (sR (body f113)))))) al.u1 Q [(0,.slice a b c),(1,.func (.func 107) #[] #[.pointer (some d)]),(4,.int .i64 e),(7,.int .i64 f),(8,.int .i64 g)] w)=al.B1 a b c d e f g Q w:=by kernel_rfl
variable{a b c d f}
theorem al.bU(I:Int×Int->World->Prop)(μ:Int×Int->World->Nat)(s:Int×Int){Q:aJ}{w:World}(h0:I s w)
 (round: ∀s w,I s w->al.B1 a b c d (s.1) f (s.2) (bF (al.e1 a b c d f) I μ s w Q) w):Holds none [] prog 19 (.loop (lB (bB (sR (sL (sR (body f113))))))) Q (al.e1 a b c d f s) w:=
 ba ng mix (al.e1 a b c d f) I μ al.k al.u1 s (fun s Q w=>al.B1 a b c d (s.1) f (s.2) Q w) (fun s Q w=>al.b1 a b c d (s.1) f (s.2) Q w) h0 round
end
section
def al.cW(a:OA)(b:Nat)(c:Nat)(d:Addr)(e:Int)(f:Int)(g:Int)(K:KT)(w:World):Prop:=
 K (.int .i64 (-1)) w
variable(a:OA)(b:Nat)(c:Nat)(d:Addr)(e:Int)(f:Int)(g:Int)(K:KT)(w:World)
theorem al.dD:(al.q1 K (.exit 0) [(0,.slice a b c),(1,.func (.func 107) #[] #[.pointer (some d)]),(4,.int .i64 e),(7,.int .i64 f),(8,.int .i64 g)] w)=al.cW a b c d e f g K w:=by kernel_rfl
end
def bu.k:List Nat:= []
section
variable(a:OA)(b:Nat)(d:Nat)(e:Addr)(K:KT)(w:World)
def bu.W:Prop:=
 aY prog 113 #[.slice a b d,.func (.func 107) #[] #[.pointer (some e)]] w fun f g=> ∃i:Int,f=.int .i64 i/\K (.bool (decide (i>=(0:Int)))) g
variable{a b d e K w}
theorem bu.of(h:bu.W a b d e K w):aY prog 85 #[.slice a b d,.func (.func 107) #[] #[.pointer (some e)]] w K:=
 aH (C:=bu.k) (c:=body f85) ng mix func85 (by kernel_rfl) (by kernel_rfl) (by kernel_rfl) h
end
def ay.k:List Nat:= []
def ay.q1(K:KT):aJ:=(aK 0 (aO f120) (bG prog f120 K))
def ay.e1(a:Nat)(b:OA)(c:Nat)(d:Nat)(e:Int)(s:Int):Env:= [(0,.func (.yield a) #[] #[]),(5,.slice b c d),(6,.int .i64 e),(7,.int .i64 s)]
def ay.u1:List Nat:= [0,5,6,7]
def ay.q2(Q:aJ):aJ:=(aK 2 (bY (sR (sR (sR (lB (bB (sR (body f120)))))))++ay.u1) (aK 1 (bY (sR (sR (sR (lB (bB (sR (body f120)))))))++ay.u1) (bN (fun bS w_=>match cutAt ay.k (sR (sR (sR (lB (bB (sR (body f120)))))))with|true=>Holds none [] prog 27 (sR (sR (sR (lB (bB (sR (body f120))))))) Q bS w_|false=>aT none [] prog 27 ay.k (sR (sR (sR (lB (bB (sR (body f120))))))) ay.u1 Q bS w_) Q)))
def ay.e2(a:Nat)(b:Int)(c:OA)(d:Nat)(e:Nat)(f:Int)(g:Int)(s:Int):Env:= [(0,.func (.yield a) #[] #[]),(3,.int .i64 b),(4,.int .u64 s),(5,.slice c d e),(6,.int .i64 f),(7,.int .i64 g)]
def ay.u2:List Nat:= [0,3,4,5,6,7]
section
variable(a:Nat)(b:Addr)(K:KT)(w:World)
def ay.W:Prop:=
 ∃d:OA,∃e:Nat,∃f:Nat,w.cell? b=some (.slice d e f)/\Holds none [] prog 27 (.loop (lB (bB (sR (body f120))))) (ay.q1 K) [(0,.func (.yield a) #[] #[]),(5,.slice d e f),(6,.int .i64 (e:Int)),(7,.int .i64 0)] w
variable{a b K w}
theorem ay.of(h:ay.W a b K w):aY prog 120 #[.func (.yield a) #[] #[],.pointer (some b)] w K:=
 aH (C:=ay.k) (c:=body f120) ng mix func120 (by kernel_rfl) (by kernel_rfl) (by kernel_rfl) h
end
section
variable(a:Nat)(b:OA)(c:Nat)(d:Nat)(e:Int)(f:Int)(Q:aJ)(w:World)
def ay.B1:Prop:=
 Split (decide (f<e)) ((0<=f/\f<(c:Int))/\Is b fun g:Addr=> ∃i:Int,w.cell? (g.add (f.toNat*1))=some (.int .u64 i)/\Holds none [] prog 27 (.loop (lB (bB (sR (bB (sL (sR (sR (lB (bB (sR (body f120)))))))))))) (ay.q2 Q) [(0,.func (.yield a) #[] #[]),(3,.int .i64 f),(4,.int .u64 i),(5,.slice b c d),(6,.int .i64 e),(7,.int .i64 f)] w) (Q (.exit 0) [(0,.func (.yield a) #[] #[]),(5,.slice b c d),(6,.int .i64 e),(7,.int .i64 f)] w)
theorem ay.b1:(aT none [] prog 27 ay.k (lB (bB (sR (body f120)))) ay.u1 Q [(0,.func (.yield a) #[] #[]),(5,.slice b c d),(6,.int .i64 e),(7,.int .i64 f)] w)=ay.B1 a b c d e f Q w:=by kernel_rfl
variable{a b c d e}
theorem ay.bU(I:Int->World->Prop)(μ:Int->World->Nat)(s:Int){Q:aJ}{w:World}(h0:I s w)
 (round: ∀s w,I s w->ay.B1 a b c d e s (bF (ay.e1 a b c d e) I μ s w Q) w):Holds none [] prog 27 (.loop (lB (bB (sR (body f120))))) Q (ay.e1 a b c d e s) w:=
 ba ng mix (ay.e1 a b c d e) I μ ay.k ay.u1 s (fun s Q w=>ay.B1 a b c d e s Q w) (fun s Q w=>ay.b1 a b c d e s Q w) h0 round
end
section
def ay.cW(a:Nat)(b:OA)(c:Nat)(d:Nat)(e:Int)(f:Int)(K:KT)(w:World):Prop:=
 K (.tuple #[]) w
variable(a:Nat)(b:OA)(c:Nat)(d:Nat)(e:Int)(f:Int)(K:KT)(w:World)
theorem ay.dD:(ay.q1 K (.exit 0) [(0,.func (.yield a) #[] #[]),(5,.slice b c d),(6,.int .i64 e),(7,.int .i64 f)] w)=ay.cW a b c d e f K w:=by kernel_rfl
end
section
variable(a:Nat)(b:Int)(c:Int)(d:OA)(e:Nat)(f:Nat)(g:Int)(i:Int)(Q:aJ)(w:World)
def ay.B2:Prop:=
 Split (c != (0:Int)) (aY prog 121 #[.int .u64 c] w fun j k=> ∃m:Int,j=.int .i64 m/\ie prog a #[.int .i64 (IntKind.i64.wrap ((IntKind.i64.wrap ((64:Int)*b))+m))] k fun n o=>Split (!n) (Q .ret [(0,.func (.yield a) #[] #[]),(3,.int .i64 b),(4,.int .u64 c),(5,.slice d e f),(6,.int .i64 g),(7,.int .i64 i)] o) (Q .normal [(0,.func (.yield a) #[] #[]),(3,.int .i64 b),(4,.int .u64 (IntKind.u64.wrap ((BitVec.ofInt 64 c&&& BitVec.ofInt 64 (IntKind.u64.wrap (c-(1:Int)))).toNat))),(5,.slice d e f),(6,.int .i64 g),(7,.int .i64 i)] o)) (Q (.exit 2) [(0,.func (.yield a) #[] #[]),(3,.int .i64 b),(4,.int .u64 c),(5,.slice d e f),(6,.int .i64 g),(7,.int .i64 i)] w)
theorem ay.b2:(aT none [] prog 27 ay.k (lB (bB (sR (bB (sL (sR (sR (lB (bB (sR (body f120))))))))))) ay.u2 Q [(0,.func (.yield a) #[] #[]),(3,.int .i64 b),(4,.int .u64 c),(5,.slice d e f),(6,.int .i64 g),(7,.int .i64 i)] w)=ay.B2 a b c d e f g i Q w:=by kernel_rfl
variable{a b d e f g i}
theorem ay.gz(I:Int->World->Prop)(μ:Int->World->Nat)(s:Int){Q:aJ}{w:World}(h0:I s w)
 (round: ∀s w,I s w->ay.B2 a b s d e f g i (bF (ay.e2 a b d e f g i) I μ s w Q) w):Holds none [] prog 27 (.loop (lB (bB (sR (bB (sL (sR (sR (lB (bB (sR (body f120)))))))))))) Q (ay.e2 a b d e f g i s) w:=
 ba ng mix (ay.e2 a b d e f g i) I μ ay.k ay.u2 s (fun s Q w=>ay.B2 a b s d e f g i Q w) (fun s Q w=>ay.b2 a b s d e f g i Q w) h0 round
end
section
def ay.iS(a:Nat)(b:Int)(c:Int)(d:OA)(e:Nat)(f:Nat)(g:Int)(i:Int)(Q:aJ)(w:World):Prop:=
 Q .normal [(0,.func (.yield a) #[] #[]),(5,.slice d e f),(6,.int .i64 g),(7,.int .i64 (IntKind.i64.wrap (i+(1:Int))))] w
variable(a:Nat)(b:Int)(c:Int)(d:OA)(e:Nat)(f:Nat)(g:Int)(i:Int)(Q:aJ)(w:World)
theorem ay.jI:(ay.q2 Q (.exit 2) [(0,.func (.yield a) #[] #[]),(3,.int .i64 b),(4,.int .u64 c),(5,.slice d e f),(6,.int .i64 g),(7,.int .i64 i)] w)=ay.iS a b c d e f g i Q w:=by kernel_rfl
end
def ax.k:List Nat:= []
def ax.q1(K:KT):aJ:=(aK 0 (aO f99) (bG prog f99 K))
def ax.e1(a:Nat)(b:OA)(c:Nat)(d:Nat)(e:Int)(s:Int):Env:= [(0,.func (.yield a) #[] #[]),(5,.slice b c d),(6,.int .i64 e),(7,.int .i64 s)]
def ax.u1:List Nat:= [0,5,6,7]
section
variable(a:Nat)(b:Addr)(K:KT)(w:World)
def ax.W:Prop:=
 ∃d:OA,∃e:Nat,∃f:Nat,w.cell? b=some (.slice d e f)/\Holds none [] prog 16 (.loop (lB (bB (sR (body f99))))) (ax.q1 K) [(0,.func (.yield a) #[] #[]),(5,.slice d e f),(6,.int .i64 (e:Int)),(7,.int .i64 0)] w
variable{a b K w}
theorem ax.of(h:ax.W a b K w):aY prog 99 #[.func (.yield a) #[] #[],.pointer (some b)] w K:=
 aH (C:=ax.k) (c:=body f99) ng mix func99 (by kernel_rfl) (by kernel_rfl) (by kernel_rfl) h
end
section
variable(a:Nat)(b:OA)(c:Nat)(d:Nat)(e:Int)(f:Int)(Q:aJ)(w:World)
def ax.B1:Prop:=
 Split (decide (f<e)) ((0<=f/\f<(c:Int))/\Is b fun g:Addr=> ∃i:AV,(i.size=32/\Cells w (g.add (f.toNat*32)) i)/\let j:=w.alloc (.cells zH 23);(i.size=32/\(∀k∈i.toList,k.oneCell'=true)/\ ∀m,m<32->Wr j ((⟨w.heap.size,0,none⟩:Addr).add m))/\let n:=setCells j (⟨w.heap.size,0,none⟩:Addr) i.toList 0;∃o:AV,(o.size=32/\Cells n (⟨w.heap.size,0,none⟩:Addr) o)/\ie prog a #[.agg o] n fun p q=>Split (!p) (Q .ret [(0,.func (.yield a) #[] #[]),(5,.slice b c d),(6,.int .i64 e),(7,.int .i64 f)] q) (Q .normal [(0,.func (.yield a) #[] #[]),(5,.slice b c d),(6,.int .i64 e),(7,.int .i64 (IntKind.i64.wrap (f+(1:Int))))] q)) (Q (.exit 0) [(0,.func (.yield a) #[] #[]),(5,.slice b c d),(6,.int .i64 e),(7,.int .i64 f)] w)
theorem ax.b1:(aT none [] prog 16 ax.k (lB (bB (sR (body f99)))) ax.u1 Q [(0,.func (.yield a) #[] #[]),(5,.slice b c d),(6,.int .i64 e),(7,.int .i64 f)] w)=ax.B1 a b c d e f Q w:=by kernel_rfl
variable{a b c d e}
theorem ax.bU(I:Int->World->Prop)(μ:Int->World->Nat)(s:Int){Q:aJ}{w:World}(h0:I s w)
 (round: ∀s w,I s w->ax.B1 a b c d e s (bF (ax.e1 a b c d e) I μ s w Q) w):Holds none [] prog 16 (.loop (lB (bB (sR (body f99))))) Q (ax.e1 a b c d e s) w:=
 ba ng mix (ax.e1 a b c d e) I μ ax.k ax.u1 s (fun s Q w=>ax.B1 a b c d e s Q w) (fun s Q w=>ax.b1 a b c d e s Q w) h0 round
end
section
def ax.cW(a:Nat)(b:OA)(c:Nat)(d:Nat)(e:Int)(f:Int)(K:KT)(w:World):Prop:=
 K (.tuple #[]) w
variable(a:Nat)(b:OA)(c:Nat)(d:Nat)(e:Int)(f:Int)(K:KT)(w:World)
theorem ax.dD:(ax.q1 K (.exit 0) [(0,.func (.yield a) #[] #[]),(5,.slice b c d),(6,.int .i64 e),(7,.int .i64 f)] w)=ax.cW a b c d e f K w:=by kernel_rfl
end
end Go.Proofs.YtnboahlopghcjaaGreatDoor
