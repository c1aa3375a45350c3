import Derived.Test.YtfleamccglihoaaGreatDoorProg
import Derived.Test.YtfleamccglihoaaGreatDoorMA
open Go.IntKind (i64 u64)
set_option linter.unusedVariables false
namespace Go.Proofs.YtfleamccglihoaaGreatDoor
open Go.Proofs.Tryz
open Go Go.bE
abbrev OA:=Option Addr
abbrev AV:=Array Value
abbrev KT:=Value->World->Prop
abbrev zH:Array Value:= #[.int .u8 0,.int .u8 0,.int .u8 0,.int .u8 0,.int .u8 0,.int .u8 0,.int .u8 0,.int .u8 0,.int .u8 0,.int .u8 0,.int .u8 0,.int .u8 0,.int .u8 0,.int .u8 0,.int .u8 0,.int .u8 0,.int .u8 0,.int .u8 0,.int .u8 0,.int .u8 0,.int .u8 0,.int .u8 0,.int .u8 0,.int .u8 0,.int .u8 0,.int .u8 0,.int .u8 0,.int .u8 0,.int .u8 0,.int .u8 0,.int .u8 0,.int .u8 0]
abbrev zC:Array Value:= #[.int .u8 0,.int .u8 0,.int .u8 0,.int .u8 0,.int .u8 0,.int .u8 0,.int .u8 0,.int .u8 0,.int .u8 0,.int .u8 0,.int .u8 0,.int .u8 0,.int .u8 0,.int .u8 0,.int .u8 0,.int .u8 0,.int .u8 0,.int .u8 0,.int .u8 0,.int .u8 0,.int .u8 0,.int .u8 0,.int .u8 0,.int .u8 0,.int .u8 0,.int .u8 0,.int .u8 0,.int .u8 0,.int .u8 0,.int .u8 0,.int .u8 0,.int .u8 0,.int .u64 0,.slice none 0 0,.slice none 0 0]
abbrev zS:Array Value:= #[.int .u8 0,.int .u8 0,.int .u8 0,.int .u8 0,.int .u8 0,.int .u8 0,.int .u8 0,.int .u8 0,.int .u8 0,.int .u8 0,.int .u8 0,.int .u8 0,.int .u8 0,.int .u8 0,.int .u8 0,.int .u8 0,.int .u8 0,.int .u8 0,.int .u8 0,.int .u8 0,.int .u8 0,.int .u8 0,.int .u8 0,.int .u8 0,.int .u8 0,.int .u8 0,.int .u8 0,.int .u8 0,.int .u8 0,.int .u8 0,.int .u8 0,.int .u8 0,.int .u64 0,.slice none 0 0,.slice none 0 0,.map none]
abbrev fE:Nat:=3
abbrev iW:Nat:=4
abbrev gU:Nat:=5
abbrev eJ:Nat:=22
abbrev ax:Nat:=24
abbrev dA:Nat:=26
abbrev cM:Nat:=28
abbrev aW:Nat:=33
abbrev iB:Nat:=34
abbrev mX:Nat:=38
abbrev dS:Nat:=48
abbrev jb:Nat:=51
abbrev cB:Nat:=53
abbrev iH:Nat:=58
abbrev eZ:Nat:=62
abbrev dK:Nat:=63
abbrev fN:Nat:=65
abbrev o7:Nat:=69
abbrev fZ:Nat:=98
abbrev tI:Nat:=121
abbrev dP:Nat:=123
abbrev b0:Nat:=127
abbrev dg:Nat:=129
abbrev fL:Nat:=135
abbrev dw:Nat:=137
abbrev dQ:Nat:=138
abbrev xT:Nat:=142
abbrev jC:Nat:=143
abbrev df:Nat:=145
abbrev qF:Nat:=163
abbrev jQ:Nat:=164
abbrev j0:Nat:=170
abbrev fS:Nat:=172
abbrev iA:Nat:=186
abbrev gA:Nat:=195
abbrev ri:Nat:=197
abbrev iz:Nat:=199
abbrev uq:Nat:=218
abbrev dr.id:Nat:=10
abbrev gC.id:Nat:=13
abbrev fP.id:Nat:=15
abbrev aF.id:Nat:=20
abbrev cQ.id:Nat:=21
abbrev dI.id:Nat:=22
abbrev bz.id:Nat:=40
abbrev cZ.id:Nat:=41
abbrev gP.id:Nat:=42
abbrev dm.id:Nat:=45
abbrev fC.id:Nat:=47
abbrev dc.id:Nat:=51
abbrev ft.id:Nat:=53
abbrev cG.id:Nat:=55
abbrev dd.id:Nat:=56
abbrev ir.id:Nat:=57
abbrev b6.id:Nat:=62
abbrev bW.id:Nat:=63
abbrev bU.id:Nat:=64
abbrev aH.id:Nat:=65
abbrev aN.id:Nat:=66
abbrev aO.id:Nat:=67
abbrev c9.id:Nat:=68
abbrev cF.id:Nat:=69
abbrev bT.id:Nat:=70
abbrev dt.id:Nat:=71
abbrev kK.id:Nat:=72
abbrev cC.id:Nat:=73
abbrev b7.id:Nat:=80
abbrev di.id:Nat:=82
abbrev ah.id:Nat:=83
abbrev aA.id:Nat:=84
abbrev fQ.id:Nat:=85
abbrev aw.id:Nat:=86
abbrev eI.id:Nat:=90
abbrev jT.id:Nat:=91
abbrev dV.id:Nat:=94
abbrev dp.id:Nat:=95
abbrev cr.id:Nat:=96
abbrev fM.id:Nat:=97
abbrev bits_Len.id:Nat:=98
abbrev ag.id:Nat:=99
abbrev cV.id:Nat:=102
abbrev bA.id:Nat:=106
abbrev cW.id:Nat:=107
abbrev cy.id:Nat:=108
abbrev eF.id:Nat:=109
abbrev aJ.id:Nat:=111
abbrev af.id:Nat:=112
abbrev cI.id:Nat:=113
abbrev bH.id:Nat:=114
abbrev aS.id:Nat:=115
abbrev bZ.id:Nat:=116
abbrev dN.id:Nat:=117
abbrev br.id:Nat:=118
abbrev cJ.id:Nat:=119
abbrev fy.id:Nat:=120
abbrev db.id:Nat:=121
abbrev lA.id:Nat:=122
abbrev dF.id:Nat:=123
abbrev eW.id:Nat:=124
abbrev cU.id:Nat:=125
abbrev dU.id:Nat:=126
abbrev gW.id:Nat:=127
abbrev iT.id:Nat:=128
abbrev gX.id:Nat:=129
abbrev iC.id:Nat:=130
abbrev gZ.id:Nat:=131
abbrev fT.id:Nat:=132
abbrev iM.id:Nat:=134
abbrev bits_Len64.id:Nat:=136
abbrev aC.id:Nat:=137
abbrev fY.id:Nat:=138
abbrev aG.id:Nat:=140
abbrev aP.id:Nat:=141
abbrev dW.id:Nat:=142
abbrev bP.id:Nat:=143
abbrev du.id:Nat:=145
abbrev bC.id:Nat:=146
abbrev fw.id:Nat:=147
abbrev eB.id:Nat:=148
abbrev eE.id:Nat:=149
abbrev ay.id:Nat:=150
abbrev gD.id:Nat:=151
abbrev iS.id:Nat:=152
abbrev nu.id:Nat:=154
abbrev jm.id:Nat:=156
abbrev aE.id:Nat:=158
abbrev bits_TrailingZeros64.id:Nat:=159
abbrev bn.id:Nat:=160
abbrev bits_Mul64.id:Nat:=161
abbrev aT.id:Nat:=162
abbrev jl.id:Nat:=163
abbrev bits_LeadingZeros64.id:Nat:=164
noncomputable abbrev b6.fn:Func:=f62
noncomputable abbrev bW.fn:Func:=f63
noncomputable abbrev bU.fn:Func:=f64
noncomputable abbrev aN.fn:Func:=f66
noncomputable abbrev aO.fn:Func:=f67
noncomputable abbrev bT.fn:Func:=f70
noncomputable abbrev ah.fn:Func:=f83
noncomputable abbrev ay.fn:Func:=f150
noncomputable abbrev aT.fn:Func:=f162
theorem b6.at_:prog.funcs[(62:Nat)]? =some f62:=func62
theorem bW.at_:prog.funcs[(63:Nat)]? =some f63:=func63
theorem bU.at_:prog.funcs[(64:Nat)]? =some f64:=func64
theorem aN.at_:prog.funcs[(66:Nat)]? =some f66:=func66
theorem aO.at_:prog.funcs[(67:Nat)]? =some f67:=func67
theorem bT.at_:prog.funcs[(70:Nat)]? =some f70:=func70
theorem cV.at_:prog.funcs[(102:Nat)]? =some f102:=func102
theorem bH.at_:prog.funcs[(114:Nat)]? =some f114:=func114
theorem bZ.at_:prog.funcs[(116:Nat)]? =some f116:=func116
theorem aC.at_:prog.funcs[(137:Nat)]? =some f137:=func137
theorem aP.at_:prog.funcs[(141:Nat)]? =some f141:=func141
theorem rF.at_:prog.funcs[(157:Nat)]? =some f157:=func157
theorem aE.at_:prog.funcs[(158:Nat)]? =some f158:=func158
theorem ng:NG prog:=by
 have h:(prog.funcs.toList.all fun f=> !(f.name== "runtime.NumGoroutine"))=true:=by kernel_rfl
 intro g fn hf;rw [List.all_eq_true]at h;have:=h fn (by simpa using Array.mem_of_getElem? hf);simpa using this
theorem mix:prog.follows .mixedOrders=true:=by kernel_rfl
theorem rqq{C:List Nat}{f:FuncId}{fn:Func}{args:List Value}{w:World}{K:Value->World->Prop}{W:Prop}(hf:prog.funcs[f]? =some fn)(h:W)(hb:fn.body=some (body fn):=by kernel_rfl)(hn:(Nat.ble args.length fn.ntmps&&Nat.ble fn.ntmps fR)=true:=by kernel_rfl)(hs:bg none [] prog fn.ntmps C (body fn) (aX fn) (bV prog fn K) (mD args 0) w=W:=by kernel_rfl):bm prog f args.toArray w K:=BK ng mix hf hb hn hs h
def nA.k:List Nat:= []
def nA.q1(K:KT):aM:=(aQ 0 (cu (aZ (sR (body f17)))++(aX f17)) (b9 (fun cm w_=>match cutAt nA.k (aZ (sR (body f17)))with|true=>Holds none [] prog 26 (aZ (sR (body f17))) (bV prog f17 K) cm w_|false=>bg none [] prog 26 nA.k (aZ (sR (body f17))) (aX f17) (bV prog f17 K) cm w_) (bV prog f17 K)))
section
variable(a:OA)(b d:Nat)(e:OA)(f g:Nat)(K:KT)(w:World)
variable{a b d e f g K w}
end
section
variable(a:OA)(b c:Nat)(d:OA)(e f:Nat)(g:Bool)(i:Int)(Q:aM)(w:World)
variable{a b c d e f}
end
section
variable(a:OA)(b c:Nat)(d:OA)(e f:Nat)(g:Bool)(i:Int)(K:KT)(w:World)
end
section
variable(a:OA)(b d:Nat)(K:KT)(w:World)
variable{a b d K w}
end
section
variable(a:OA)(b c:Nat)(d:OA)(e f:Nat)(g:OA)(i j:Nat)(k:Int)(Q:aM)(w:World)
variable{a b c d e f}
end
section
variable(a:OA)(b c:Nat)(d:OA)(e f:Nat)(g:OA)(i j:Nat)(k:Int)(K:KT)(w:World)
end
section
variable(a:OA)(b c:Nat)(d:OA)(e f:Nat)(g:OA)(i j:Nat)(k m:Int)(Q:aM)(w:World)
variable{a b c d e f g i j k}
end
section
variable(a:OA)(b c:Nat)(d:OA)(e f:Nat)(g:OA)(i j:Nat)(k m:Int)(Q:aM)(w:World)
end
section
variable(a:OA)(b d:Nat)(e:AV)(K:KT)(w:World)
variable{a b d e K w}
end
section
variable(a:OA)(b c:Nat)(d:Addr)(e:Bool)(f:Int)(Q:aM)(w:World)
variable{a b c d}
end
section
variable(a:OA)(b c:Nat)(d:Addr)(e:Bool)(f:Int)(K:KT)(w:World)
end
def fC.k:List Nat:= []
section
variable(a:OA)(b:AV)(K:KT)(w:World)
def fC.W:Prop:=
 let d:=w.alloc (.cells b 24);∃e:AV,(e.size=32/\Cells d (aU w.heap.size) e)/\bm prog 90 #[.pointer a,.agg e] d fun f g=>∃i:OA,f=.pointer i/\K (.bool (!(i).isNone)) g
variable{a b K w}
theorem fC.of(h:fC.W a b K w):bm prog 47 #[.pointer a,.agg b] w K:=
 rqq func47 (C:=fC.k) h
end
section
variable(a b:AV)(K:KT)(w:World)
variable{a b K w}
end
section
variable(a b:Addr)(c d:Int)(Q:aM)(w:World)
variable{a b}
end
section
variable(a b:Addr)(c d:Int)(K:KT)(w:World)
end
def eI.k:List Nat:= []
section
variable(a:OA)(b:AV)(K:KT)(w:World)
def eI.W:Prop:=
 let d:=w.alloc (.cells b 24);bm prog 124 #[.pointer a] d fun e f=>∃g:Bool,e=.bool g/\Split g (let i:=f.drew;Is a fun j:Addr=>∃k:Option Nat,i.cell? (j.add 1)=some (.map k)/\∃m:AV,(m.size=32/\Cells i (aU w.heap.size) m)/\∃n:Int,∃o:Bool,(Instr.lookup 127 (.map k) (.agg m) true).run prog i=.ok (.tuple #[.int .i64 n,.bool o]) i/\Split o (Is a fun p:Addr=>∃q:OA,∃r t:Nat,i.cell? (p.add 0)=some (.slice q r t)/\(0<=n/\n<(r:Int))/\Is q fun u:Addr=>∃v:OA,i.cell? (u.add (n.toNat*1))=some (.pointer v)/\K (.pointer v) i) (K (.pointer none) i)) (K (.pointer none) f)
variable{a b K w}
theorem eI.of(h:eI.W a b K w):bm prog 90 #[.pointer a,.agg b] w K:=
 rqq func90 (C:=eI.k) h
end
section
variable(a:Int)(b:OA)(K:KT)(w:World)
variable{a b K w}
end
def ag.k:List Nat:= []
def ag.q1(K:KT):aM:=(aQ 0 (cu (aZ (sR (body f99)))++(aX f99)) (b9 (fun cm w_=>match cutAt ag.k (aZ (sR (body f99)))with|true=>Holds none [] prog 61 (aZ (sR (body f99))) (bV prog f99 K) cm w_|false=>bg none [] prog 61 ag.k (aZ (sR (body f99))) (aX f99) (bV prog f99 K) cm w_) (bV prog f99 K)))
def ag.e1(a:OA)(b c:Nat)(s:(OA)×Nat×Nat×Int):Env:= [(0,.slice a b c),(2,.slice s.1 s.2.1 s.2.2.1),(3,.int .i64 s.2.2.2)]
def ag.u1:List Nat:= [0,2,3]
def ag.q2(Q:aM):aM:=(aQ 2 (cu (aZ (cT (sR (bB (sL (sR (lB (bB (sR (sL (aZ (body f99))))))))))))++(cu (aZ (lB (bB (sR (sL (aZ (body f99)))))))++ag.u1)) (b9 (fun cm w_=>match cutAt ag.k (aZ (cT (sR (bB (sL (sR (lB (bB (sR (sL (aZ (body f99))))))))))))with|true=>Holds none [] prog 61 (aZ (cT (sR (bB (sL (sR (lB (bB (sR (sL (aZ (body f99)))))))))))) (aQ 1 (cu (aZ (lB (bB (sR (sL (aZ (body f99)))))))++ag.u1) (b9 (fun cm w_=>match cutAt ag.k (aZ (lB (bB (sR (sL (aZ (body f99)))))))with|true=>Holds none [] prog 61 (aZ (lB (bB (sR (sL (aZ (body f99))))))) Q cm w_|false=>bg none [] prog 61 ag.k (aZ (lB (bB (sR (sL (aZ (body f99))))))) ag.u1 Q cm w_) Q)) cm w_|false=>bg none [] prog 61 ag.k (aZ (cT (sR (bB (sL (sR (lB (bB (sR (sL (aZ (body f99)))))))))))) (cu (aZ (lB (bB (sR (sL (aZ (body f99)))))))++ag.u1) (aQ 1 (cu (aZ (lB (bB (sR (sL (aZ (body f99)))))))++ag.u1) (b9 (fun cm w_=>match cutAt ag.k (aZ (lB (bB (sR (sL (aZ (body f99)))))))with|true=>Holds none [] prog 61 (aZ (lB (bB (sR (sL (aZ (body f99))))))) Q cm w_|false=>bg none [] prog 61 ag.k (aZ (lB (bB (sR (sL (aZ (body f99))))))) ag.u1 Q cm w_) Q)) cm w_) (aQ 1 (cu (aZ (lB (bB (sR (sL (aZ (body f99)))))))++ag.u1) (b9 (fun cm w_=>match cutAt ag.k (aZ (lB (bB (sR (sL (aZ (body f99)))))))with|true=>Holds none [] prog 61 (aZ (lB (bB (sR (sL (aZ (body f99))))))) Q cm w_|false=>bg none [] prog 61 ag.k (aZ (lB (bB (sR (sL (aZ (body f99))))))) ag.u1 Q cm w_) Q))))
def ag.e2(a:OA)(b c:Nat)(d:OA)(e f:Nat)(g:OA)(i j:Nat)(s:Int×Int):Env:= [(0,.slice a b c),(2,.slice d e f),(3,.int .i64 s.1),(4,.slice g i j),(5,.int .i64 s.2)]
def ag.u2:List Nat:= [0,2,3,4,5]
section
variable(a:OA)(b d:Nat)(K:KT)(w:World)
def ag.W:Prop:=
 Split (decide ((b:Int)<(2:Int))) (K (.slice a b d) w) (Holds none [] prog 61 (.loop (lB (bB (sR (sL (aZ (body f99))))))) (ag.q1 K) [(0,.slice a b d),(2,.slice none 0 0),(3,.int .i64 1)] w)
variable{a b d K w}
theorem ag.of(h:ag.W a b d K w):bm prog 99 #[.slice a b d] w K:=
 rqq func99 (C:=ag.k) h
end
section
variable(a:OA)(b c:Nat)(d:OA)(e f:Nat)(g:Int)(Q:aM)(w:World)
def ag.B1:Prop:=
 Split (decide (g<(b:Int))) (let i:=w.drew;(0<=g/\g<(b:Int))/\Is a fun j:Addr=>∃k:AV,(k.size=32/\Cells i (j.add (g.toNat*32)) k)/\(0<=(i64.wrap (g-(1:Int)))/\(i64.wrap (g-(1:Int)))<(b:Int))/\Is a fun m:Addr=>∃n:AV,(n.size=32/\Cells i (m.add ((i64.wrap (g-(1:Int))).toNat*32)) n)/\(fV .u8 32 k/\fV .u8 32 n)/\Split (gv k n) ((0<=g/\g<=(b:Int))/\Holds none [] prog 61 (.loop (lB (bB (sR (sL (sR (cT (sR (bB (sL (sR (lB (bB (sR (sL (aZ (body f99))))))))))))))))) (ag.q2 Q) [(0,.slice a b c),(2,.slice d e f),(3,.int .i64 g),(4,.slice (if c=g.toNat then a else a.map (·.add (g.toNat*32))) (b-g.toNat) (c-g.toNat)),(5,.int .i64 1)] i) (Q .normal [(0,.slice a b c),(2,.slice d e f),(3,.int .i64 (i64.wrap (g+(1:Int))))] i)) (Q (.exit 0) [(0,.slice a b c),(2,.slice d e f),(3,.int .i64 g)] w)
theorem ag.b1:(bg none [] prog 61 ag.k (lB (bB (sR (sL (aZ (body f99)))))) ag.u1 Q [(0,.slice a b c),(2,.slice d e f),(3,.int .i64 g)] w)=ag.B1 a b c d e f g Q w:=by kernel_rfl
variable{a b c}
theorem ag.cf(I:(OA)×Nat×Nat×Int->World->Prop)(μ:(OA)×Nat×Nat×Int->World->Nat)(s:(OA)×Nat×Nat×Int){Q:aM}{w:World}(h0:I s w)
 (round:∀s w,I s w->ag.B1 a b c (s.1) (s.2.1) (s.2.2.1) (s.2.2.2) (bR (ag.e1 a b c) I μ s w Q) w):Holds none [] prog 61 (.loop (lB (bB (sR (sL (aZ (body f99))))))) Q (ag.e1 a b c s) w:=
 bt ng mix (ag.e1 a b c) I μ ag.k ag.u1 s (fun s Q w=>ag.B1 a b c (s.1) (s.2.1) (s.2.2.1) (s.2.2.2) Q w) (fun s Q w=>ag.b1 a b c (s.1) (s.2.1) (s.2.2.1) (s.2.2.2) Q w) h0 round
end
section
def ag.cX(a:OA)(b c:Nat)(d:OA)(e f:Nat)(g:Int)(K:KT)(w:World):Prop:=
 K (.slice a b c) w
variable(a:OA)(b c:Nat)(d:OA)(e f:Nat)(g:Int)(K:KT)(w:World)
theorem ag.dB:(ag.q1 K (.exit 0) [(0,.slice a b c),(2,.slice d e f),(3,.int .i64 g)] w)=ag.cX a b c d e f g K w:=by kernel_rfl
end
section
variable(a:OA)(b c:Nat)(d:OA)(e f:Nat)(g:Int)(i:OA)(j k:Nat)(m:Int)(Q:aM)(w:World)
def ag.B2:Prop:=
 Split (decide (m<(j:Int))) (let n:=w.drew;(0<=m/\m<(j:Int))/\Is i fun o:Addr=>∃p:AV,(p.size=32/\Cells n (o.add (m.toNat*32)) p)/\(0<=(i64.wrap (m-(1:Int)))/\(i64.wrap (m-(1:Int)))<(j:Int))/\Is i fun q:Addr=>∃r:AV,(r.size=32/\Cells n (q.add ((i64.wrap (m-(1:Int))).toNat*32)) r)/\(fV .u8 32 p/\fV .u8 32 r)/\Split (!(gv p r)) ((0<=m/\m<(j:Int))/\Is i fun t:Addr=>∃u:AV,(u.size=32/\Cells n (t.add (m.toNat*32)) u)/\(0<=g/\g<(b:Int))/\Is a fun v:Addr=>(u.size=32/\(∀x∈u.toList,x.oneCell'=true)/\∀y,y<32->Wr n ((v.add (g.toNat*32)).add y))/\let z:=setCells n (v.add (g.toNat*32)) u.toList 0;Q .normal [(0,.slice a b c),(2,.slice d e f),(3,.int .i64 (i64.wrap (g+(1:Int)))),(4,.slice i j k),(5,.int .i64 (i64.wrap (m+(1:Int))))] z) (Q .normal [(0,.slice a b c),(2,.slice d e f),(3,.int .i64 g),(4,.slice i j k),(5,.int .i64 (i64.wrap (m+(1:Int))))] n)) (Q (.exit 2) [(0,.slice a b c),(2,.slice d e f),(3,.int .i64 g),(4,.slice i j k),(5,.int .i64 m)] w)
theorem ag.b2:(bg none [] prog 61 ag.k (lB (bB (sR (sL (sR (cT (sR (bB (sL (sR (lB (bB (sR (sL (aZ (body f99)))))))))))))))) ag.u2 Q [(0,.slice a b c),(2,.slice d e f),(3,.int .i64 g),(4,.slice i j k),(5,.int .i64 m)] w)=ag.B2 a b c d e f g i j k m Q w:=by kernel_rfl
variable{a b c d e f i j k}
theorem ag.iN(I:Int×Int->World->Prop)(μ:Int×Int->World->Nat)(s:Int×Int){Q:aM}{w:World}(h0:I s w)
 (round:∀s w,I s w->ag.B2 a b c d e f (s.1) i j k (s.2) (bR (ag.e2 a b c d e f i j k) I μ s w Q) w):Holds none [] prog 61 (.loop (lB (bB (sR (sL (sR (cT (sR (bB (sL (sR (lB (bB (sR (sL (aZ (body f99))))))))))))))))) Q (ag.e2 a b c d e f i j k s) w:=
 bt ng mix (ag.e2 a b c d e f i j k) I μ ag.k ag.u2 s (fun s Q w=>ag.B2 a b c d e f (s.1) i j k (s.2) Q w) (fun s Q w=>ag.b2 a b c d e f (s.1) i j k (s.2) Q w) h0 round
end
section
def ag.jY(a:OA)(b c:Nat)(d:OA)(e f:Nat)(g:Int)(i:OA)(j k:Nat)(m:Int)(Q:aM)(w:World):Prop:=
 (0<=g/\g<=(b:Int))/\∃(n:Value) (o:World),(Builtin.clear_ #[33] 0 #[.slice (if c=g.toNat then a else a.map (·.add (g.toNat*32))) (b-g.toNat) (c-g.toNat)]).run prog w=.ok n o/\(0<=g/\g<=(c:Int))/\Q .ret [(0,.slice a b c),(2,.slice (if c=0 then a else a.map (·.add (0*32))) (g.toNat-0) (c-0)),(3,.int .i64 g)] o
variable(a:OA)(b c:Nat)(d:OA)(e f:Nat)(g:Int)(i:OA)(j k:Nat)(m:Int)(Q:aM)(w:World)
theorem ag.lL:(ag.q2 Q (.exit 2) [(0,.slice a b c),(2,.slice d e f),(3,.int .i64 g),(4,.slice i j k),(5,.int .i64 m)] w)=ag.jY a b c d e f g i j k m Q w:=by kernel_rfl
end
def cV.k:List Nat:= []
section
variable(a b:AV)(K:KT)(w:World)
def cV.W:Prop:=
 let d:=w.alloc (.cells a 24);let e:=d.alloc (.cells b 24);let f:=e.drew;bm prog 138 #[.slice (some (if 32=0 then(aU w.heap.size)else(aU w.heap.size).add (0*1))) (32-0) (32-0),.slice (some (if 32=0 then(aU d.heap.size)else(aU d.heap.size).add (0*1))) (32-0) (32-0)] f fun g i=>∃j:Int,g=.int .i64 j/\K (.int .i64 j) i
variable{a b K w}
theorem cV.of(h:cV.W a b K w):bm prog 102 #[.agg a,.agg b] w K:=
 rqq func102 (C:=cV.k) h
end
def eW.k:List Nat:= []
section
variable(a:OA)(K:KT)(w:World)
def eW.W:Prop:=
 Split (!(a).isNone) (Is a fun b:Addr=>∃d:Option Nat,w.cell? (b.add 1)=some (.map d)/\K (.bool (!(d).isNone)) w) (K (.bool false) w)
variable{a K w}
theorem eW.of(h:eW.W a K w):bm prog 124 #[.pointer a] w K:=
 rqq func124 (C:=eW.k) h
end
def fY.k:List Nat:= []
section
variable(a:OA)(b d:Nat)(e:OA)(f g:Nat)(K:KT)(w:World)
def fY.W:Prop:=
 Bb prog 157 #[.slice a b d,.slice e f g] w fun i j=>∃k:Int,i=.int .i64 k/\K (.int .i64 k) j
variable{a b d e f g K w}
theorem fY.of(h:fY.W a b d e f g K w):bm prog 138 #[.slice a b d,.slice e f g] w K:=
 rqq func138 (C:=fY.k) h
end
def bP.k:List Nat:= []
def bP.q1(K:KT):aM:=(aQ 0 (cu (aZ (body f143))++(aX f143)) (b9 (fun cm w_=>match cutAt bP.k (aZ (body f143))with|true=>Holds none [] prog 30 (aZ (body f143)) (bV prog f143 K) cm w_|false=>bg none [] prog 30 bP.k (aZ (body f143)) (aX f143) (bV prog f143 K) cm w_) (bV prog f143 K)))
def bP.e1(a:OA)(b c:Nat)(d:OA)(e f:Nat)(g:Int)(s:(OA)×Nat×Nat×Int):Env:= [(0,.slice s.1 s.2.1 s.2.2.1),(4,.slice a b c),(7,.slice d e f),(8,.int .i64 g),(9,.int .i64 s.2.2.2)]
def bP.u1:List Nat:= [0,4,7,8,9]
section
variable(a:OA)(b d:Nat)(e:OA)(f g:Nat)(K:KT)(w:World)
def bP.W:Prop:=
 Holds none [] prog 30 (.loop (lB (bB (sR (sL (sR (body f143))))))) (bP.q1 K) [(0,.slice a b d),(4,.slice none 0 0),(7,.slice e f g),(8,.int .i64 (f:Int)),(9,.int .i64 0)] w
variable{a b d e f g K w}
theorem bP.of(h:bP.W a b d e f g K w):bm prog 143 #[.slice a b d,.slice e f g] w K:=
 rqq func143 (C:=bP.k) h
end
section
variable(a:OA)(b c:Nat)(d:OA)(e f:Nat)(g:OA)(i j:Nat)(k m:Int)(Q:aM)(w:World)
def bP.B1:Prop:=
 Split (decide (m<k)) ((0<=m/\m<(i:Int))/\Is g fun n:Addr=>∃o:Int,w.cell? (n.add (m.toNat*1))=some (.int .u64 o)/\Split (m==(b:Int)) (let p:=w.alloc (.cells #[.int .u64 0] 22);∃(q:OA) (r t:Nat) (u:World),(Builtin.append_ #[143,143] 143 #[.slice a b c,.slice (some (aU w.heap.size)) 1 1]).run prog p=.ok (.slice q r t) u/\(0<=m/\m<(r:Int))/\Is q fun v:Addr=>∃x:Int,u.cell? (v.add (m.toNat*1))=some (.int .u64 x)/\(0<=m/\m<(r:Int))/\Is q fun y:Addr=>Wr u (y.add (m.toNat*1))/\let z:=u.setCell (y.add (m.toNat*1)) (.int .u64 (u64.wrap ((BitVec.ofInt 64 x|||BitVec.ofInt 64 o).toNat)));Q .normal [(0,.slice q r t),(4,.slice d e f),(7,.slice g i j),(8,.int .i64 k),(9,.int .i64 (i64.wrap (m+(1:Int))))] z) ((0<=m/\m<(b:Int))/\Is a fun a1:Addr=>∃b1:Int,w.cell? (a1.add (m.toNat*1))=some (.int .u64 b1)/\(0<=m/\m<(b:Int))/\Is a fun c1:Addr=>Wr w (c1.add (m.toNat*1))/\let d1:=w.setCell (c1.add (m.toNat*1)) (.int .u64 (u64.wrap ((BitVec.ofInt 64 b1|||BitVec.ofInt 64 o).toNat)));Q .normal [(0,.slice a b c),(4,.slice d e f),(7,.slice g i j),(8,.int .i64 k),(9,.int .i64 (i64.wrap (m+(1:Int))))] d1)) (Q (.exit 0) [(0,.slice a b c),(4,.slice d e f),(7,.slice g i j),(8,.int .i64 k),(9,.int .i64 m)] w)
theorem bP.b1:(bg none [] prog 30 bP.k (lB (bB (sR (sL (sR (body f143)))))) bP.u1 Q [(0,.slice a b c),(4,.slice d e f),(7,.slice g i j),(8,.int .i64 k),(9,.int .i64 m)] w)=bP.B1 a b c d e f g i j k m Q w:=by kernel_rfl
variable{d e f g i j k}
theorem bP.cf(I:(OA)×Nat×Nat×Int->World->Prop)(μ:(OA)×Nat×Nat×Int->World->Nat)(s:(OA)×Nat×Nat×Int){Q:aM}{w:World}(h0:I s w)
 (round:∀s w,I s w->bP.B1 (s.1) (s.2.1) (s.2.2.1) d e f g i j k (s.2.2.2) (bR (bP.e1 d e f g i j k) I μ s w Q) w):Holds none [] prog 30 (.loop (lB (bB (sR (sL (sR (body f143))))))) Q (bP.e1 d e f g i j k s) w:=
 bt ng mix (bP.e1 d e f g i j k) I μ bP.k bP.u1 s (fun s Q w=>bP.B1 (s.1) (s.2.1) (s.2.2.1) d e f g i j k (s.2.2.2) Q w) (fun s Q w=>bP.b1 (s.1) (s.2.1) (s.2.2.1) d e f g i j k (s.2.2.2) Q w) h0 round
end
section
def bP.cX(a:OA)(b c:Nat)(d:OA)(e f:Nat)(g:OA)(i j:Nat)(k m:Int)(K:KT)(w:World):Prop:=
 K (.slice a b c) w
variable(a:OA)(b c:Nat)(d:OA)(e f:Nat)(g:OA)(i j:Nat)(k m:Int)(K:KT)(w:World)
theorem bP.dB:(bP.q1 K (.exit 0) [(0,.slice a b c),(4,.slice d e f),(7,.slice g i j),(8,.int .i64 k),(9,.int .i64 m)] w)=bP.cX a b c d e f g i j k m K w:=by kernel_rfl
end
def du.k:List Nat:= []
section
variable(a:AV)(b:Addr)(K:KT)(w:World)
def du.W:Prop:=
 let d:=w.alloc (.cells a 24);∃e:OA,d.cell? b=some (.pointer e)/\∃f:AV,(f.size=32/\Cells d (aU w.heap.size) f)/\bm prog 47 #[.pointer e,.agg f] d fun g i=>∃j:Bool,g=.bool j/\K (.bool (!j)) i
variable{a b K w}
theorem du.of(h:du.W a b K w):bm prog 145 #[.agg a,.pointer (some b)] w K:=
 rqq func145 (C:=du.k) h
end
def bC.k:List Nat:= []
def bC.q1(K:KT):aM:=(aQ 0 (cu (aZ (body f146))++(aX f146)) (b9 (fun cm w_=>match cutAt bC.k (aZ (body f146))with|true=>Holds none [] prog 24 (aZ (body f146)) (bV prog f146 K) cm w_|false=>bg none [] prog 24 bC.k (aZ (body f146)) (aX f146) (bV prog f146 K) cm w_) (bV prog f146 K)))
def bC.e1(a:Int)(b:OA)(c d:Nat)(s:(OA)×Nat×Nat):Env:= [(0,.slice s.1 s.2.1 s.2.2),(1,.int .i64 a),(4,.slice b c d)]
def bC.u1:List Nat:= [0,1,4]
section
variable(a:OA)(b d:Nat)(e:Int)(K:KT)(w:World)
def bC.W:Prop:=
 Holds none [] prog 24 (.loop (lB (bB (sL (sR (body f146)))))) (bC.q1 K) [(0,.slice a b d),(1,.int .i64 e),(4,.slice none 0 0)] w
variable{a b d e K w}
theorem bC.of(h:bC.W a b d e K w):bm prog 146 #[.slice a b d,.int .i64 e] w K:=
 rqq func146 (C:=bC.k) h
end
section
variable(a:OA)(b c:Nat)(d:Int)(e:OA)(f g:Nat)(Q:aM)(w:World)
def bC.B1:Prop:=
 (64:Int)≠0/\Split (decide ((b:Int)<=(i64.wrap (d.tdiv (64:Int))))) (let i:=w.alloc (.cells #[.int .u64 0] 22);∃(j:OA) (k m:Nat) (n:World),(Builtin.append_ #[143,143] 143 #[.slice a b c,.slice (some (aU w.heap.size)) 1 1]).run prog i=.ok (.slice j k m) n/\Q .normal [(0,.slice j k m),(1,.int .i64 d),(4,.slice e f g)] n) (Q (.exit 0) [(0,.slice a b c),(1,.int .i64 d),(4,.slice e f g)] w)
theorem bC.b1:(bg none [] prog 24 bC.k (lB (bB (sL (sR (body f146))))) bC.u1 Q [(0,.slice a b c),(1,.int .i64 d),(4,.slice e f g)] w)=bC.B1 a b c d e f g Q w:=by kernel_rfl
variable{d e f g}
theorem bC.cf(I:(OA)×Nat×Nat->World->Prop)(μ:(OA)×Nat×Nat->World->Nat)(s:(OA)×Nat×Nat){Q:aM}{w:World}(h0:I s w)
 (round:∀s w,I s w->bC.B1 (s.1) (s.2.1) (s.2.2) d e f g (bR (bC.e1 d e f g) I μ s w Q) w):Holds none [] prog 24 (.loop (lB (bB (sL (sR (body f146)))))) Q (bC.e1 d e f g s) w:=
 bt ng mix (bC.e1 d e f g) I μ bC.k bC.u1 s (fun s Q w=>bC.B1 (s.1) (s.2.1) (s.2.2) d e f g Q w) (fun s Q w=>bC.b1 (s.1) (s.2.1) (s.2.2) d e f g Q w) h0 round
end
section
def bC.cX(a:OA)(b c:Nat)(d:Int)(e:OA)(f g:Nat)(K:KT)(w:World):Prop:=
 let i:=w.drew;(64:Int)≠0/\(0<=(i64.wrap (d.tdiv (64:Int)))/\(i64.wrap (d.tdiv (64:Int)))<(b:Int))/\Is a fun j:Addr=>∃k:Int,i.cell? (j.add ((i64.wrap (d.tdiv (64:Int))).toNat*1))=some (.int .u64 k)/\(64:Int)≠0/\0<=(d.tmod (64:Int))/\(0<=(i64.wrap (d.tdiv (64:Int)))/\(i64.wrap (d.tdiv (64:Int)))<(b:Int))/\Is a fun m:Addr=>Wr i (m.add ((i64.wrap (d.tdiv (64:Int))).toNat*1))/\let n:=i.setCell (m.add ((i64.wrap (d.tdiv (64:Int))).toNat*1)) (.int .u64 (u64.wrap ((BitVec.ofInt 64 k|||BitVec.ofInt 64 (u64.wrap ((1:Int)*2 ^ (min (d.tmod (64:Int)).toNat 64)))).toNat)));K (.slice a b c) n
variable(a:OA)(b c:Nat)(d:Int)(e:OA)(f g:Nat)(K:KT)(w:World)
theorem bC.dB:(bC.q1 K (.exit 0) [(0,.slice a b c),(1,.int .i64 d),(4,.slice e f g)] w)=bC.cX a b c d e f g K w:=by kernel_rfl
end
section
variable(a:OA)(K:KT)(w:World)
variable{a K w}
end
section
variable(a:OA)(b c:Nat)(d:OA)(e f:Nat)(g:OA)(i j:Nat)(k m:Int)(Q:aM)(w:World)
variable{a b c g i j k}
end
section
variable(a:OA)(b c:Nat)(d:OA)(e f:Nat)(g:OA)(i j:Nat)(k m:Int)(K:KT)(w:World)
end
def au.k:List Nat:= []
def au.q1(K:KT):aM:=(aQ 0 (cu (aZ (body f91))++(aX f91)) (b9 (fun cm w_=>match cutAt au.k (aZ (body f91))with|true=>Holds none [] prog 19 (aZ (body f91)) (bV prog f91 K) cm w_|false=>bg none [] prog 19 au.k (aZ (body f91)) (aX f91) (bV prog f91 K) cm w_) (bV prog f91 K)))
def au.e1(a:OA)(b c:Nat)(d:Addr)(e:Int)(s:Int×Int):Env:= [(0,.slice a b c),(1,.func (.func 145) #[] #[.pointer (some d)]),(4,.int .i64 s.1),(7,.int .i64 e),(8,.int .i64 s.2)]
def au.u1:List Nat:= [0,1,4,7,8]
section
variable(a:OA)(b d:Nat)(e:Addr)(K:KT)(w:World)
def au.W:Prop:=
 Holds none [] prog 19 (.loop (lB (bB (sR (sL (sR (body f91))))))) (au.q1 K) [(0,.slice a b d),(1,.func (.func 145) #[] #[.pointer (some e)]),(4,.int .i64 0),(7,.int .i64 (b:Int)),(8,.int .i64 0)] w
variable{a b d e K w}
theorem au.of(h:au.W a b d e K w):bm prog 91 #[.slice a b d,.func (.func 145) #[] #[.pointer (some e)]] w K:=
 rqq func91 (C:=au.k) h
end
section
variable(a:OA)(b c:Nat)(d:Addr)(e f g:Int)(Q:aM)(w:World)
def au.B1:Prop:=
 Split (decide (g<f)) ((0<=g/\g<(b:Int))/\Is a fun i:Addr=>∃j:AV,(j.size=32/\Cells w (i.add (g.toNat*32)) j)/\bm prog 145 #[.agg j,.pointer (some d)] w fun k m=>∃n:Bool,k=.bool n/\Split n (Q .ret [(0,.slice a b c),(1,.func (.func 145) #[] #[.pointer (some d)]),(4,.int .i64 g),(7,.int .i64 f),(8,.int .i64 g)] m) (Q .normal [(0,.slice a b c),(1,.func (.func 145) #[] #[.pointer (some d)]),(4,.int .i64 e),(7,.int .i64 f),(8,.int .i64 (i64.wrap (g+(1:Int))))] m)) (Q (.exit 0) [(0,.slice a b c),(1,.func (.func 145) #[] #[.pointer (some d)]),(4,.int .i64 e),(7,.int .i64 f),(8,.int .i64 g)] w)
theorem au.b1:(bg none [] prog 19 au.k (lB (bB (sR (sL (sR (body f91)))))) au.u1 Q [(0,.slice a b c),(1,.func (.func 145) #[] #[.pointer (some d)]),(4,.int .i64 e),(7,.int .i64 f),(8,.int .i64 g)] w)=au.B1 a b c d e f g Q w:=by kernel_rfl
variable{a b c d f}
theorem au.cf(I:Int×Int->World->Prop)(μ:Int×Int->World->Nat)(s:Int×Int){Q:aM}{w:World}(h0:I s w)
 (round:∀s w,I s w->au.B1 a b c d (s.1) f (s.2) (bR (au.e1 a b c d f) I μ s w Q) w):Holds none [] prog 19 (.loop (lB (bB (sR (sL (sR (body f91))))))) Q (au.e1 a b c d f s) w:=
 bt ng mix (au.e1 a b c d f) I μ au.k au.u1 s (fun s Q w=>au.B1 a b c d (s.1) f (s.2) Q w) (fun s Q w=>au.b1 a b c d (s.1) f (s.2) Q w) h0 round
end
section
def au.cX(a:OA)(b c:Nat)(d:Addr)(e f g:Int)(K:KT)(w:World):Prop:=
 K (.int .i64 (-1)) w
variable(a:OA)(b c:Nat)(d:Addr)(e f g:Int)(K:KT)(w:World)
theorem au.dB:(au.q1 K (.exit 0) [(0,.slice a b c),(1,.func (.func 145) #[] #[.pointer (some d)]),(4,.int .i64 e),(7,.int .i64 f),(8,.int .i64 g)] w)=au.cX a b c d e f g K w:=by kernel_rfl
end
def bO.k:List Nat:= []
section
variable(a:OA)(b d:Nat)(e:Addr)(K:KT)(w:World)
def bO.W:Prop:=
 bm prog 91 #[.slice a b d,.func (.func 145) #[] #[.pointer (some e)]] w fun f g=>∃i:Int,f=.int .i64 i/\K (.bool (decide (i>=(0:Int)))) g
variable{a b d e K w}
theorem bO.of(h:bO.W a b d e K w):bm prog 68 #[.slice a b d,.func (.func 145) #[] #[.pointer (some e)]] w K:=
 rqq func68 (C:=bO.k) h
end
def aE.k:List Nat:= []
def aE.q1(K:KT):aM:=(aQ 0 (aX f158) (bV prog f158 K))
def aE.e1(a:Nat)(b:OA)(c d:Nat)(e s:Int):Env:= [(0,.func (.yield a) #[] #[]),(5,.slice b c d),(6,.int .i64 e),(7,.int .i64 s)]
def aE.u1:List Nat:= [0,5,6,7]
def aE.q2(Q:aM):aM:=(aQ 2 (cu (aZ (sR (lB (bB (sR (body f158))))))++aE.u1) (aQ 1 (cu (aZ (sR (lB (bB (sR (body f158))))))++aE.u1) (b9 (fun cm w_=>match cutAt aE.k (aZ (sR (lB (bB (sR (body f158))))))with|true=>Holds none [] prog 27 (aZ (sR (lB (bB (sR (body f158)))))) Q cm w_|false=>bg none [] prog 27 aE.k (aZ (sR (lB (bB (sR (body f158)))))) aE.u1 Q cm w_) Q)))
def aE.e2(a:Nat)(b:Int)(c:OA)(d e:Nat)(f g s:Int):Env:= [(0,.func (.yield a) #[] #[]),(3,.int .i64 b),(4,.int .u64 s),(5,.slice c d e),(6,.int .i64 f),(7,.int .i64 g)]
def aE.u2:List Nat:= [0,3,4,5,6,7]
section
variable(a:Nat)(b:Addr)(K:KT)(w:World)
def aE.W:Prop:=
 ∃d:OA,∃e f:Nat,w.cell? b=some (.slice d e f)/\Holds none [] prog 27 (.loop (lB (bB (sR (body f158))))) (aE.q1 K) [(0,.func (.yield a) #[] #[]),(5,.slice d e f),(6,.int .i64 (e:Int)),(7,.int .i64 0)] w
variable{a b K w}
theorem aE.of(h:aE.W a b K w):bm prog 158 #[.func (.yield a) #[] #[],.pointer (some b)] w K:=
 rqq func158 (C:=aE.k) h
end
section
variable(a:Nat)(b:OA)(c d:Nat)(e f:Int)(Q:aM)(w:World)
def aE.B1:Prop:=
 Split (decide (f<e)) ((0<=f/\f<(c:Int))/\Is b fun g:Addr=>∃i:Int,w.cell? (g.add (f.toNat*1))=some (.int .u64 i)/\Holds none [] prog 27 (.loop (lB (bB (sR (bB (sL (aZ (lB (bB (sR (body f158))))))))))) (aE.q2 Q) [(0,.func (.yield a) #[] #[]),(3,.int .i64 f),(4,.int .u64 i),(5,.slice b c d),(6,.int .i64 e),(7,.int .i64 f)] w) (Q (.exit 0) [(0,.func (.yield a) #[] #[]),(5,.slice b c d),(6,.int .i64 e),(7,.int .i64 f)] w)
theorem aE.b1:(bg none [] prog 27 aE.k (lB (bB (sR (body f158)))) aE.u1 Q [(0,.func (.yield a) #[] #[]),(5,.slice b c d),(6,.int .i64 e),(7,.int .i64 f)] w)=aE.B1 a b c d e f Q w:=by kernel_rfl
variable{a b c d e}
theorem aE.cf(I:Int->World->Prop)(μ:Int->World->Nat)(s:Int){Q:aM}{w:World}(h0:I s w)
 (round:∀s w,I s w->aE.B1 a b c d e s (bR (aE.e1 a b c d e) I μ s w Q) w):Holds none [] prog 27 (.loop (lB (bB (sR (body f158))))) Q (aE.e1 a b c d e s) w:=
 bt ng mix (aE.e1 a b c d e) I μ aE.k aE.u1 s (fun s Q w=>aE.B1 a b c d e s Q w) (fun s Q w=>aE.b1 a b c d e s Q w) h0 round
end
section
def aE.cX(a:Nat)(b:OA)(c d:Nat)(e f:Int)(K:KT)(w:World):Prop:=
 K (.tuple #[]) w
variable(a:Nat)(b:OA)(c d:Nat)(e f:Int)(K:KT)(w:World)
theorem aE.dB:(aE.q1 K (.exit 0) [(0,.func (.yield a) #[] #[]),(5,.slice b c d),(6,.int .i64 e),(7,.int .i64 f)] w)=aE.cX a b c d e f K w:=by kernel_rfl
end
section
variable(a:Nat)(b c:Int)(d:OA)(e f:Nat)(g i:Int)(Q:aM)(w:World)
def aE.B2:Prop:=
 Split (c != (0:Int)) (bm prog 159 #[.int .u64 c] w fun j k=>∃m:Int,j=.int .i64 m/\ju prog a #[.int .i64 (i64.wrap ((i64.wrap ((64:Int)*b))+m))] k fun n o=>Split (!n) (Q .ret [(0,.func (.yield a) #[] #[]),(3,.int .i64 b),(4,.int .u64 c),(5,.slice d e f),(6,.int .i64 g),(7,.int .i64 i)] o) (Q .normal [(0,.func (.yield a) #[] #[]),(3,.int .i64 b),(4,.int .u64 (u64.wrap ((BitVec.ofInt 64 c&&& BitVec.ofInt 64 (u64.wrap (c-(1:Int)))).toNat))),(5,.slice d e f),(6,.int .i64 g),(7,.int .i64 i)] o)) (Q (.exit 2) [(0,.func (.yield a) #[] #[]),(3,.int .i64 b),(4,.int .u64 c),(5,.slice d e f),(6,.int .i64 g),(7,.int .i64 i)] w)
theorem aE.b2:(bg none [] prog 27 aE.k (lB (bB (sR (bB (sL (aZ (lB (bB (sR (body f158)))))))))) aE.u2 Q [(0,.func (.yield a) #[] #[]),(3,.int .i64 b),(4,.int .u64 c),(5,.slice d e f),(6,.int .i64 g),(7,.int .i64 i)] w)=aE.B2 a b c d e f g i Q w:=by kernel_rfl
variable{a b d e f g i}
theorem aE.iN(I:Int->World->Prop)(μ:Int->World->Nat)(s:Int){Q:aM}{w:World}(h0:I s w)
 (round:∀s w,I s w->aE.B2 a b s d e f g i (bR (aE.e2 a b d e f g i) I μ s w Q) w):Holds none [] prog 27 (.loop (lB (bB (sR (bB (sL (aZ (lB (bB (sR (body f158))))))))))) Q (aE.e2 a b d e f g i s) w:=
 bt ng mix (aE.e2 a b d e f g i) I μ aE.k aE.u2 s (fun s Q w=>aE.B2 a b s d e f g i Q w) (fun s Q w=>aE.b2 a b s d e f g i Q w) h0 round
end
section
def aE.jY(a:Nat)(b c:Int)(d:OA)(e f:Nat)(g i:Int)(Q:aM)(w:World):Prop:=
 Q .normal [(0,.func (.yield a) #[] #[]),(5,.slice d e f),(6,.int .i64 g),(7,.int .i64 (i64.wrap (i+(1:Int))))] w
variable(a:Nat)(b c:Int)(d:OA)(e f:Nat)(g i:Int)(Q:aM)(w:World)
theorem aE.lL:(aE.q2 Q (.exit 2) [(0,.func (.yield a) #[] #[]),(3,.int .i64 b),(4,.int .u64 c),(5,.slice d e f),(6,.int .i64 g),(7,.int .i64 i)] w)=aE.jY a b c d e f g i Q w:=by kernel_rfl
end
def aC.k:List Nat:= []
def aC.q1(K:KT):aM:=(aQ 0 (aX f137) (bV prog f137 K))
def aC.e1(a:Nat)(b:OA)(c d:Nat)(e s:Int):Env:= [(0,.func (.yield a) #[] #[]),(5,.slice b c d),(6,.int .i64 e),(7,.int .i64 s)]
def aC.u1:List Nat:= [0,5,6,7]
section
variable(a:Nat)(b:Addr)(K:KT)(w:World)
def aC.W:Prop:=
 ∃d:OA,∃e f:Nat,w.cell? b=some (.slice d e f)/\Holds none [] prog 16 (.loop (lB (bB (sR (body f137))))) (aC.q1 K) [(0,.func (.yield a) #[] #[]),(5,.slice d e f),(6,.int .i64 (e:Int)),(7,.int .i64 0)] w
variable{a b K w}
theorem aC.of(h:aC.W a b K w):bm prog 137 #[.func (.yield a) #[] #[],.pointer (some b)] w K:=
 rqq func137 (C:=aC.k) h
end
section
variable(a:Nat)(b:OA)(c d:Nat)(e f:Int)(Q:aM)(w:World)
def aC.B1:Prop:=
 Split (decide (f<e)) ((0<=f/\f<(c:Int))/\Is b fun g:Addr=>∃i:AV,(i.size=32/\Cells w (g.add (f.toNat*32)) i)/\let j:=w.alloc (.cells zH 24);(i.size=32/\(∀k∈i.toList,k.oneCell'=true)/\∀m,m<32->Wr j ((aU w.heap.size).add m))/\let n:=setCells j (aU w.heap.size) i.toList 0;∃o:AV,(o.size=32/\Cells n (aU w.heap.size) o)/\ju prog a #[.agg o] n fun p q=>Split (!p) (Q .ret [(0,.func (.yield a) #[] #[]),(5,.slice b c d),(6,.int .i64 e),(7,.int .i64 f)] q) (Q .normal [(0,.func (.yield a) #[] #[]),(5,.slice b c d),(6,.int .i64 e),(7,.int .i64 (i64.wrap (f+(1:Int))))] q)) (Q (.exit 0) [(0,.func (.yield a) #[] #[]),(5,.slice b c d),(6,.int .i64 e),(7,.int .i64 f)] w)
theorem aC.b1:(bg none [] prog 16 aC.k (lB (bB (sR (body f137)))) aC.u1 Q [(0,.func (.yield a) #[] #[]),(5,.slice b c d),(6,.int .i64 e),(7,.int .i64 f)] w)=aC.B1 a b c d e f Q w:=by kernel_rfl
variable{a b c d e}
theorem aC.cf(I:Int->World->Prop)(μ:Int->World->Nat)(s:Int){Q:aM}{w:World}(h0:I s w)
 (round:∀s w,I s w->aC.B1 a b c d e s (bR (aC.e1 a b c d e) I μ s w Q) w):Holds none [] prog 16 (.loop (lB (bB (sR (body f137))))) Q (aC.e1 a b c d e s) w:=
 bt ng mix (aC.e1 a b c d e) I μ aC.k aC.u1 s (fun s Q w=>aC.B1 a b c d e s Q w) (fun s Q w=>aC.b1 a b c d e s Q w) h0 round
end
section
def aC.cX(a:Nat)(b:OA)(c d:Nat)(e f:Int)(K:KT)(w:World):Prop:=
 K (.tuple #[]) w
variable(a:Nat)(b:OA)(c d:Nat)(e f:Int)(K:KT)(w:World)
theorem aC.dB:(aC.q1 K (.exit 0) [(0,.func (.yield a) #[] #[]),(5,.slice b c d),(6,.int .i64 e),(7,.int .i64 f)] w)=aC.cX a b c d e f K w:=by kernel_rfl
end
end Go.Proofs.YtfleamccglihoaaGreatDoor
