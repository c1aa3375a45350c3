import Derived.Test.YtfleamccglihoaaGreatDoorProg
import Derived.Test.YtfleamccglihoaaGreatDoorMA
open Go.IntKind (i64 u64)
set_option linter.unusedVariables false
namespace Go.Proofs.YtfleamccglihoaaGreatDoor
open Go.Proofs.Tryz
open Go Go.bE
abbrev OA:=Option Addr
abbrev AV:=Array Value
abbrev KT:=Value->World->Prop
abbrev zH:Array Value:= #[.int .u8 0,.int .u8 0,.int .u8 0,.int .u8 0,.int .u8 0,.int .u8 0,.int .u8 0,.int .u8 0,.int .u8 0,.int .u8 0,.int .u8 0,.int .u8 0,.int .u8 0,.int .u8 0,.int .u8 0,.int .u8 0,.int .u8 0,.int .u8 0,.int .u8 0,.int .u8 0,.int .u8 0,.int .u8 0,.int .u8 0,.int .u8 0,.int .u8 0,.int .u8 0,.int .u8 0,.int .u8 0,.int .u8 0,.int .u8 0,.int .u8 0,.int .u8 0]
abbrev zC:Array Value:= #[.int .u8 0,.int .u8 0,.int .u8 0,.int .u8 0,.int .u8 0,.int .u8 0,.int .u8 0,.int .u8 0,.int .u8 0,.int .u8 0,.int .u8 0,.int .u8 0,.int .u8 0,.int .u8 0,.int .u8 0,.int .u8 0,.int .u8 0,.int .u8 0,.int .u8 0,.int .u8 0,.int .u8 0,.int .u8 0,.int .u8 0,.int .u8 0,.int .u8 0,.int .u8 0,.int .u8 0,.int .u8 0,.int .u8 0,.int .u8 0,.int .u8 0,.int .u8 0,.int .u64 0,.slice none 0 0,.slice none 0 0]
abbrev zS:Array Value:= #[.int .u8 0,.int .u8 0,.int .u8 0,.int .u8 0,.int .u8 0,.int .u8 0,.int .u8 0,.int .u8 0,.int .u8 0,.int .u8 0,.int .u8 0,.int .u8 0,.int .u8 0,.int .u8 0,.int .u8 0,.int .u8 0,.int .u8 0,.int .u8 0,.int .u8 0,.int .u8 0,.int .u8 0,.int .u8 0,.int .u8 0,.int .u8 0,.int .u8 0,.int .u8 0,.int .u8 0,.int .u8 0,.int .u8 0,.int .u8 0,.int .u8 0,.int .u8 0,.int .u64 0,.slice none 0 0,.slice none 0 0,.map none]
abbrev iN:Nat:=3
abbrev iV:Nat:=4
abbrev iD:Nat:=5
abbrev gM:Nat:=22
abbrev ax:Nat:=24
abbrev gH:Nat:=26
abbrev cg:Nat:=28
abbrev aV:Nat:=33
abbrev fP:Nat:=34
abbrev mV:Nat:=38
abbrev dR:Nat:=48
abbrev iZ:Nat:=51
abbrev cB:Nat:=53
abbrev iE:Nat:=58
abbrev e9:Nat:=62
abbrev dK:Nat:=63
abbrev dV:Nat:=65
abbrev oZ:Nat:=69
abbrev eE:Nat:=98
abbrev tz:Nat:=121
abbrev dO:Nat:=123
abbrev b0:Nat:=127
abbrev dh:Nat:=129
abbrev fI:Nat:=135
abbrev dA:Nat:=137
abbrev dP:Nat:=138
abbrev xQ:Nat:=142
abbrev jB:Nat:=143
abbrev df:Nat:=145
abbrev qy:Nat:=163
abbrev jP:Nat:=164
abbrev jZ:Nat:=170
abbrev fO:Nat:=172
abbrev iy:Nat:=186
abbrev gv:Nat:=195
abbrev q6:Nat:=197
abbrev iw:Nat:=199
abbrev um:Nat:=218
abbrev bn.id:Nat:=4
abbrev gz.id:Nat:=13
abbrev dg.id:Nat:=14
abbrev fL.id:Nat:=15
abbrev aC.id:Nat:=20
abbrev cP.id:Nat:=21
abbrev dI.id:Nat:=22
abbrev bw.id:Nat:=40
abbrev cZ.id:Nat:=41
abbrev gN.id:Nat:=42
abbrev cD.id:Nat:=45
abbrev fz.id:Nat:=47
abbrev dc.id:Nat:=51
abbrev fp.id:Nat:=53
abbrev cH.id:Nat:=55
abbrev dd.id:Nat:=56
abbrev ig.id:Nat:=57
abbrev bD.id:Nat:=62
abbrev bR.id:Nat:=63
abbrev bP.id:Nat:=64
abbrev aH.id:Nat:=65
abbrev aL.id:Nat:=66
abbrev aO.id:Nat:=67
abbrev c9.id:Nat:=68
abbrev cG.id:Nat:=69
abbrev bO.id:Nat:=70
abbrev dt.id:Nat:=71
abbrev kH.id:Nat:=72
abbrev cC.id:Nat:=73
abbrev b7.id:Nat:=80
abbrev dm.id:Nat:=82
abbrev ah.id:Nat:=83
abbrev aD.id:Nat:=84
abbrev fM.id:Nat:=85
abbrev aw.id:Nat:=86
abbrev eM.id:Nat:=90
abbrev jT.id:Nat:=91
abbrev dU.id:Nat:=94
abbrev dr.id:Nat:=95
abbrev cr.id:Nat:=96
abbrev fJ.id:Nat:=97
abbrev bits_Len.id:Nat:=98
abbrev ag.id:Nat:=99
abbrev cX.id:Nat:=102
abbrev bz.id:Nat:=106
abbrev cY.id:Nat:=107
abbrev cy.id:Nat:=108
abbrev eK.id:Nat:=109
abbrev aJ.id:Nat:=111
abbrev af.id:Nat:=112
abbrev cK.id:Nat:=113
abbrev bH.id:Nat:=114
abbrev aS.id:Nat:=115
abbrev bZ.id:Nat:=116
abbrev dM.id:Nat:=117
abbrev bp.id:Nat:=118
abbrev cM.id:Nat:=119
abbrev fu.id:Nat:=120
abbrev db.id:Nat:=121
abbrev lx.id:Nat:=122
abbrev dF.id:Nat:=123
abbrev eZ.id:Nat:=124
abbrev cW.id:Nat:=125
abbrev dT.id:Nat:=126
abbrev gU.id:Nat:=127
abbrev iR.id:Nat:=128
abbrev gV.id:Nat:=129
abbrev iz.id:Nat:=130
abbrev gX.id:Nat:=131
abbrev fQ.id:Nat:=132
abbrev iJ.id:Nat:=134
abbrev bits_Len64.id:Nat:=136
abbrev aE.id:Nat:=137
abbrev fW.id:Nat:=138
abbrev aG.id:Nat:=140
abbrev aQ.id:Nat:=141
abbrev dX.id:Nat:=142
abbrev bT.id:Nat:=143
abbrev du.id:Nat:=145
abbrev bA.id:Nat:=146
abbrev ft.id:Nat:=147
abbrev eI.id:Nat:=148
abbrev eJ.id:Nat:=149
abbrev ay.id:Nat:=150
abbrev gA.id:Nat:=151
abbrev iQ.id:Nat:=152
abbrev ns.id:Nat:=154
abbrev jl.id:Nat:=156
abbrev aF.id:Nat:=158
abbrev bits_TrailingZeros64.id:Nat:=159
abbrev bg.id:Nat:=160
abbrev bits_Mul64.id:Nat:=161
abbrev aT.id:Nat:=162
abbrev ji.id:Nat:=163
abbrev bits_LeadingZeros64.id:Nat:=164
noncomputable abbrev bD.fn:Func:=f62
noncomputable abbrev bR.fn:Func:=f63
noncomputable abbrev bP.fn:Func:=f64
noncomputable abbrev aL.fn:Func:=f66
noncomputable abbrev aO.fn:Func:=f67
noncomputable abbrev bO.fn:Func:=f70
noncomputable abbrev ah.fn:Func:=f83
noncomputable abbrev ay.fn:Func:=f150
noncomputable abbrev aT.fn:Func:=f162
theorem bD.at_:prog.funcs[(62:Nat)]? =some f62:=func62
theorem bR.at_:prog.funcs[(63:Nat)]? =some f63:=func63
theorem bP.at_:prog.funcs[(64:Nat)]? =some f64:=func64
theorem aL.at_:prog.funcs[(66:Nat)]? =some f66:=func66
theorem aO.at_:prog.funcs[(67:Nat)]? =some f67:=func67
theorem bO.at_:prog.funcs[(70:Nat)]? =some f70:=func70
theorem cX.at_:prog.funcs[(102:Nat)]? =some f102:=func102
theorem bH.at_:prog.funcs[(114:Nat)]? =some f114:=func114
theorem bZ.at_:prog.funcs[(116:Nat)]? =some f116:=func116
theorem aE.at_:prog.funcs[(137:Nat)]? =some f137:=func137
theorem aQ.at_:prog.funcs[(141:Nat)]? =some f141:=func141
theorem ru.at_:prog.funcs[(157:Nat)]? =some f157:=func157
theorem aF.at_:prog.funcs[(158:Nat)]? =some f158:=func158
theorem ng:NG prog:=by
 have h:(prog.funcs.toList.all fun f=> !(f.name== "runtime.NumGoroutine"))=true:=by kernel_rfl
 intro g fn hf;rw [List.all_eq_true]at h;have:=h fn (by simpa using Array.mem_of_getElem? hf);simpa using this
theorem mix:prog.follows .mixedOrders=true:=by kernel_rfl
theorem rqq{C:List Nat}{f:FuncId}{fn:Func}{args:List Value}{w:World}{K:Value->World->Prop}{W:Prop}(hf:prog.funcs[f]? =some fn)(h:W)(hb:fn.body=some (body fn):=by kernel_rfl)(hn:(Nat.ble args.length fn.ntmps&&Nat.ble fn.ntmps fN)=true:=by kernel_rfl)(hs:a8 none [] prog fn.ntmps C (body fn) (aW fn) (bV prog fn K) (mz args 0) w=W:=by kernel_rfl):bf prog f args.toArray w K:=BF ng mix hf hb hn hs h
def ny.k:List Nat:= []
def ny.q1(K:KT):aM:=(aP 0 (ct (aZ (sR (body f17)))++(aW f17)) (b6 (fun cf w_=>match cutAt ny.k (aZ (sR (body f17)))with|true=>Holds none [] prog 26 (aZ (sR (body f17))) (bV prog f17 K) cf w_|false=>a8 none [] prog 26 ny.k (aZ (sR (body f17))) (aW f17) (bV prog f17 K) cf w_) (bV prog f17 K)))
section
variable(a:OA)(b d:Nat)(e:OA)(f g:Nat)(K:KT)(w:World)
variable{a b d e f g K w}
end
section
variable(a:OA)(b c:Nat)(d:OA)(e f:Nat)(g:Bool)(i:Int)(Q:aM)(w:World)
variable{a b c d e f}
end
section
variable(a:OA)(b c:Nat)(d:OA)(e f:Nat)(g:Bool)(i:Int)(K:KT)(w:World)
end
section
variable(a:OA)(b d:Nat)(K:KT)(w:World)
variable{a b d K w}
end
section
variable(a:OA)(b c:Nat)(d:OA)(e f:Nat)(g:OA)(i j:Nat)(k:Int)(Q:aM)(w:World)
variable{a b c d e f}
end
section
variable(a:OA)(b c:Nat)(d:OA)(e f:Nat)(g:OA)(i j:Nat)(k:Int)(K:KT)(w:World)
end
section
variable(a:OA)(b c:Nat)(d:OA)(e f:Nat)(g:OA)(i j:Nat)(k m:Int)(Q:aM)(w:World)
variable{a b c d e f g i j k}
end
section
variable(a:OA)(b c:Nat)(d:OA)(e f:Nat)(g:OA)(i j:Nat)(k m:Int)(Q:aM)(w:World)
end
section
variable(a:OA)(b d:Nat)(e:AV)(K:KT)(w:World)
variable{a b d e K w}
end
section
variable(a:OA)(b c:Nat)(d:Addr)(e:Bool)(f:Int)(Q:aM)(w:World)
variable{a b c d}
end
section
variable(a:OA)(b c:Nat)(d:Addr)(e:Bool)(f:Int)(K:KT)(w:World)
end
def fz.k:List Nat:= []
section
variable(a:OA)(b:AV)(K:KT)(w:World)
def fz.W:Prop:=
 let d:=w.alloc (.cells b 24);∃e:AV,(e.size=32/\Cells d (aU w.heap.size) e)/\bf prog 90 #[.pointer a,.agg e] d fun f g=>∃i:OA,f=.pointer i/\K (.bool (!(i).isNone)) g
variable{a b K w}
theorem fz.of(h:fz.W a b K w):bf prog 47 #[.pointer a,.agg b] w K:=
 rqq func47 (C:=fz.k) h
end
section
variable(a b:AV)(K:KT)(w:World)
variable{a b K w}
end
section
variable(a b:Addr)(c d:Int)(Q:aM)(w:World)
variable{a b}
end
section
variable(a b:Addr)(c d:Int)(K:KT)(w:World)
end
def eM.k:List Nat:= []
section
variable(a:OA)(b:AV)(K:KT)(w:World)
def eM.W:Prop:=
 let d:=w.alloc (.cells b 24);bf prog 124 #[.pointer a] d fun e f=>∃g:Bool,e=.bool g/\Split g (let i:=f.drew;Is a fun j:Addr=>∃k:Option Nat,i.cell? (j.add 1)=some (.map k)/\∃m:AV,(m.size=32/\Cells i (aU w.heap.size) m)/\∃n:Int,∃o:Bool,(Instr.lookup 127 (.map k) (.agg m) true).run prog i=.ok (.tuple #[.int .i64 n,.bool o]) i/\Split o (Is a fun p:Addr=>∃q:OA,∃r t:Nat,i.cell? (p.add 0)=some (.slice q r t)/\(0<=n/\n<(r:Int))/\Is q fun u:Addr=>∃v:OA,i.cell? (u.add (n.toNat*1))=some (.pointer v)/\K (.pointer v) i) (K (.pointer none) i)) (K (.pointer none) f)
variable{a b K w}
theorem eM.of(h:eM.W a b K w):bf prog 90 #[.pointer a,.agg b] w K:=
 rqq func90 (C:=eM.k) h
end
section
variable(a:Int)(b:OA)(K:KT)(w:World)
variable{a b K w}
end
def ag.k:List Nat:= []
def ag.q1(K:KT):aM:=(aP 0 (ct (aZ (sR (body f99)))++(aW f99)) (b6 (fun cf w_=>match cutAt ag.k (aZ (sR (body f99)))with|true=>Holds none [] prog 61 (aZ (sR (body f99))) (bV prog f99 K) cf w_|false=>a8 none [] prog 61 ag.k (aZ (sR (body f99))) (aW f99) (bV prog f99 K) cf w_) (bV prog f99 K)))
def ag.e1(a:OA)(b c:Nat)(s:(OA)×Nat×Nat×Int):Env:= [(0,.slice a b c),(2,.slice s.1 s.2.1 s.2.2.1),(3,.int .i64 s.2.2.2)]
def ag.u1:List Nat:= [0,2,3]
def ag.q2(Q:aM):aM:=(aP 2 (ct (aZ (cT (sR (bB (sL (sR (lB (bB (sR (sL (aZ (body f99))))))))))))++(ct (aZ (lB (bB (sR (sL (aZ (body f99)))))))++ag.u1)) (b6 (fun cf w_=>match cutAt ag.k (aZ (cT (sR (bB (sL (sR (lB (bB (sR (sL (aZ (body f99))))))))))))with|true=>Holds none [] prog 61 (aZ (cT (sR (bB (sL (sR (lB (bB (sR (sL (aZ (body f99)))))))))))) (aP 1 (ct (aZ (lB (bB (sR (sL (aZ (body f99)))))))++ag.u1) (b6 (fun cf w_=>match cutAt ag.k (aZ (lB (bB (sR (sL (aZ (body f99)))))))with|true=>Holds none [] prog 61 (aZ (lB (bB (sR (sL (aZ (body f99))))))) Q cf w_|false=>a8 none [] prog 61 ag.k (aZ (lB (bB (sR (sL (aZ (body f99))))))) ag.u1 Q cf w_) Q)) cf w_|false=>a8 none [] prog 61 ag.k (aZ (cT (sR (bB (sL (sR (lB (bB (sR (sL (aZ (body f99)))))))))))) (ct (aZ (lB (bB (sR (sL (aZ (body f99)))))))++ag.u1) (aP 1 (ct (aZ (lB (bB (sR (sL (aZ (body f99)))))))++ag.u1) (b6 (fun cf w_=>match cutAt ag.k (aZ (lB (bB (sR (sL (aZ (body f99)))))))with|true=>Holds none [] prog 61 (aZ (lB (bB (sR (sL (aZ (body f99))))))) Q cf w_|false=>a8 none [] prog 61 ag.k (aZ (lB (bB (sR (sL (aZ (body f99))))))) ag.u1 Q cf w_) Q)) cf w_) (aP 1 (ct (aZ (lB (bB (sR (sL (aZ (body f99)))))))++ag.u1) (b6 (fun cf w_=>match cutAt ag.k (aZ (lB (bB (sR (sL (aZ (body f99)))))))with|true=>Holds none [] prog 61 (aZ (lB (bB (sR (sL (aZ (body f99))))))) Q cf w_|false=>a8 none [] prog 61 ag.k (aZ (lB (bB (sR (sL (aZ (body f99))))))) ag.u1 Q cf w_) Q))))
def ag.e2(a:OA)(b c:Nat)(d:OA)(e f:Nat)(g:OA)(i j:Nat)(s:Int×Int):Env:= [(0,.slice a b c),(2,.slice d e f),(3,.int .i64 s.1),(4,.slice g i j),(5,.int .i64 s.2)]
def ag.u2:List Nat:= [0,2,3,4,5]
section
variable(a:OA)(b d:Nat)(K:KT)(w:World)
def ag.W:Prop:=
 Split (decide ((b:Int)<(2:Int))) (K (.slice a b d) w) (Holds none [] prog 61 (.loop (lB (bB (sR (sL (aZ (body f99))))))) (ag.q1 K) [(0,.slice a b d),(2,.slice none 0 0),(3,.int .i64 1)] w)
variable{a b d K w}
theorem ag.of(h:ag.W a b d K w):bf prog 99 #[.slice a b d] w K:=
 rqq func99 (C:=ag.k) h
end
section
variable(a:OA)(b c:Nat)(d:OA)(e f:Nat)(g:Int)(Q:aM)(w:World)
def ag.B1:Prop:=
 Split (decide (g<(b:Int))) (let i:=w.drew;(0<=g/\g<(b:Int))/\Is a fun j:Addr=>∃k:AV,(k.size=32/\Cells i (j.add (g.toNat*32)) k)/\(0<=(i64.wrap (g-(1:Int)))/\(i64.wrap (g-(1:Int)))<(b:Int))/\Is a fun m:Addr=>∃n:AV,(n.size=32/\Cells i (m.add ((i64.wrap (g-(1:Int))).toNat*32)) n)/\(fT .u8 32 k/\fT .u8 32 n)/\Split (gh k n) ((0<=g/\g<=(b:Int))/\Holds none [] prog 61 (.loop (lB (bB (sR (sL (sR (cT (sR (bB (sL (sR (lB (bB (sR (sL (aZ (body f99))))))))))))))))) (ag.q2 Q) [(0,.slice a b c),(2,.slice d e f),(3,.int .i64 g),(4,.slice (if c=g.toNat then a else a.map (·.add (g.toNat*32))) (b-g.toNat) (c-g.toNat)),(5,.int .i64 1)] i) (Q .normal [(0,.slice a b c),(2,.slice d e f),(3,.int .i64 (i64.wrap (g+(1:Int))))] i)) (Q (.exit 0) [(0,.slice a b c),(2,.slice d e f),(3,.int .i64 g)] w)
theorem ag.b1:(a8 none [] prog 61 ag.k (lB (bB (sR (sL (aZ (body f99)))))) ag.u1 Q [(0,.slice a b c),(2,.slice d e f),(3,.int .i64 g)] w)=ag.B1 a b c d e f g Q w:=by kernel_rfl
variable{a b c}
theorem ag.b9(I:(OA)×Nat×Nat×Int->World->Prop)(μ:(OA)×Nat×Nat×Int->World->Nat)(s:(OA)×Nat×Nat×Int){Q:aM}{w:World}(h0:I s w)
 (round:∀s w,I s w->ag.B1 a b c (s.1) (s.2.1) (s.2.2.1) (s.2.2.2) (bS (ag.e1 a b c) I μ s w Q) w):Holds none [] prog 61 (.loop (lB (bB (sR (sL (aZ (body f99))))))) Q (ag.e1 a b c s) w:=
 br ng mix (ag.e1 a b c) I μ ag.k ag.u1 s (fun s Q w=>ag.B1 a b c (s.1) (s.2.1) (s.2.2.1) (s.2.2.2) Q w) (fun s Q w=>ag.b1 a b c (s.1) (s.2.1) (s.2.2.1) (s.2.2.2) Q w) h0 round
end
section
def ag.cU(a:OA)(b c:Nat)(d:OA)(e f:Nat)(g:Int)(K:KT)(w:World):Prop:=
 K (.slice a b c) w
variable(a:OA)(b c:Nat)(d:OA)(e f:Nat)(g:Int)(K:KT)(w:World)
theorem ag.dw:(ag.q1 K (.exit 0) [(0,.slice a b c),(2,.slice d e f),(3,.int .i64 g)] w)=ag.cU a b c d e f g K w:=by kernel_rfl
end
section
variable(a:OA)(b c:Nat)(d:OA)(e f:Nat)(g:Int)(i:OA)(j k:Nat)(m:Int)(Q:aM)(w:World)
def ag.B2:Prop:=
 Split (decide (m<(j:Int))) (let n:=w.drew;(0<=m/\m<(j:Int))/\Is i fun o:Addr=>∃p:AV,(p.size=32/\Cells n (o.add (m.toNat*32)) p)/\(0<=(i64.wrap (m-(1:Int)))/\(i64.wrap (m-(1:Int)))<(j:Int))/\Is i fun q:Addr=>∃r:AV,(r.size=32/\Cells n (q.add ((i64.wrap (m-(1:Int))).toNat*32)) r)/\(fT .u8 32 p/\fT .u8 32 r)/\Split (!(gh p r)) ((0<=m/\m<(j:Int))/\Is i fun t:Addr=>∃u:AV,(u.size=32/\Cells n (t.add (m.toNat*32)) u)/\(0<=g/\g<(b:Int))/\Is a fun v:Addr=>(u.size=32/\(∀x∈u.toList,x.oneCell'=true)/\∀y,y<32->Wr n ((v.add (g.toNat*32)).add y))/\let z:=setCells n (v.add (g.toNat*32)) u.toList 0;Q .normal [(0,.slice a b c),(2,.slice d e f),(3,.int .i64 (i64.wrap (g+(1:Int)))),(4,.slice i j k),(5,.int .i64 (i64.wrap (m+(1:Int))))] z) (Q .normal [(0,.slice a b c),(2,.slice d e f),(3,.int .i64 g),(4,.slice i j k),(5,.int .i64 (i64.wrap (m+(1:Int))))] n)) (Q (.exit 2) [(0,.slice a b c),(2,.slice d e f),(3,.int .i64 g),(4,.slice i j k),(5,.int .i64 m)] w)
theorem ag.b2:(a8 none [] prog 61 ag.k (lB (bB (sR (sL (sR (cT (sR (bB (sL (sR (lB (bB (sR (sL (aZ (body f99)))))))))))))))) ag.u2 Q [(0,.slice a b c),(2,.slice d e f),(3,.int .i64 g),(4,.slice i j k),(5,.int .i64 m)] w)=ag.B2 a b c d e f g i j k m Q w:=by kernel_rfl
variable{a b c d e f i j k}
theorem ag.iK(I:Int×Int->World->Prop)(μ:Int×Int->World->Nat)(s:Int×Int){Q:aM}{w:World}(h0:I s w)
 (round:∀s w,I s w->ag.B2 a b c d e f (s.1) i j k (s.2) (bS (ag.e2 a b c d e f i j k) I μ s w Q) w):Holds none [] prog 61 (.loop (lB (bB (sR (sL (sR (cT (sR (bB (sL (sR (lB (bB (sR (sL (aZ (body f99))))))))))))))))) Q (ag.e2 a b c d e f i j k s) w:=
 br ng mix (ag.e2 a b c d e f i j k) I μ ag.k ag.u2 s (fun s Q w=>ag.B2 a b c d e f (s.1) i j k (s.2) Q w) (fun s Q w=>ag.b2 a b c d e f (s.1) i j k (s.2) Q w) h0 round
end
section
def ag.jX(a:OA)(b c:Nat)(d:OA)(e f:Nat)(g:Int)(i:OA)(j k:Nat)(m:Int)(Q:aM)(w:World):Prop:=
 (0<=g/\g<=(b:Int))/\∃(n:Value) (o:World),(Builtin.clear_ #[33] 0 #[.slice (if c=g.toNat then a else a.map (·.add (g.toNat*32))) (b-g.toNat) (c-g.toNat)]).run prog w=.ok n o/\(0<=g/\g<=(c:Int))/\Q .ret [(0,.slice a b c),(2,.slice (if c=0 then a else a.map (·.add (0*32))) (g.toNat-0) (c-0)),(3,.int .i64 g)] o
variable(a:OA)(b c:Nat)(d:OA)(e f:Nat)(g:Int)(i:OA)(j k:Nat)(m:Int)(Q:aM)(w:World)
theorem ag.lI:(ag.q2 Q (.exit 2) [(0,.slice a b c),(2,.slice d e f),(3,.int .i64 g),(4,.slice i j k),(5,.int .i64 m)] w)=ag.jX a b c d e f g i j k m Q w:=by kernel_rfl
end
def cX.k:List Nat:= []
section
variable(a b:AV)(K:KT)(w:World)
def cX.W:Prop:=
 let d:=w.alloc (.cells a 24);let e:=d.alloc (.cells b 24);let f:=e.drew;bf prog 138 #[.slice (some (if 32=0 then(aU w.heap.size)else(aU w.heap.size).add (0*1))) (32-0) (32-0),.slice (some (if 32=0 then(aU d.heap.size)else(aU d.heap.size).add (0*1))) (32-0) (32-0)] f fun g i=>∃j:Int,g=.int .i64 j/\K (.int .i64 j) i
variable{a b K w}
theorem cX.of(h:cX.W a b K w):bf prog 102 #[.agg a,.agg b] w K:=
 rqq func102 (C:=cX.k) h
end
def eZ.k:List Nat:= []
section
variable(a:OA)(K:KT)(w:World)
def eZ.W:Prop:=
 Split (!(a).isNone) (Is a fun b:Addr=>∃d:Option Nat,w.cell? (b.add 1)=some (.map d)/\K (.bool (!(d).isNone)) w) (K (.bool false) w)
variable{a K w}
theorem eZ.of(h:eZ.W a K w):bf prog 124 #[.pointer a] w K:=
 rqq func124 (C:=eZ.k) h
end
def fW.k:List Nat:= []
section
variable(a:OA)(b d:Nat)(e:OA)(f g:Nat)(K:KT)(w:World)
def fW.W:Prop:=
 AY prog 157 #[.slice a b d,.slice e f g] w fun i j=>∃k:Int,i=.int .i64 k/\K (.int .i64 k) j
variable{a b d e f g K w}
theorem fW.of(h:fW.W a b d e f g K w):bf prog 138 #[.slice a b d,.slice e f g] w K:=
 rqq func138 (C:=fW.k) h
end
def bT.k:List Nat:= []
def bT.q1(K:KT):aM:=(aP 0 (ct (aZ (body f143))++(aW f143)) (b6 (fun cf w_=>match cutAt bT.k (aZ (body f143))with|true=>Holds none [] prog 30 (aZ (body f143)) (bV prog f143 K) cf w_|false=>a8 none [] prog 30 bT.k (aZ (body f143)) (aW f143) (bV prog f143 K) cf w_) (bV prog f143 K)))
def bT.e1(a:OA)(b c:Nat)(d:OA)(e f:Nat)(g:Int)(s:(OA)×Nat×Nat×Int):Env:= [(0,.slice s.1 s.2.1 s.2.2.1),(4,.slice a b c),(7,.slice d e f),(8,.int .i64 g),(9,.int .i64 s.2.2.2)]
def bT.u1:List Nat:= [0,4,7,8,9]
section
variable(a:OA)(b d:Nat)(e:OA)(f g:Nat)(K:KT)(w:World)
def bT.W:Prop:=
 Holds none [] prog 30 (.loop (lB (bB (sR (sL (sR (body f143))))))) (bT.q1 K) [(0,.slice a b d),(4,.slice none 0 0),(7,.slice e f g),(8,.int .i64 (f:Int)),(9,.int .i64 0)] w
variable{a b d e f g K w}
theorem bT.of(h:bT.W a b d e f g K w):bf prog 143 #[.slice a b d,.slice e f g] w K:=
 rqq func143 (C:=bT.k) h
end
section
variable(a:OA)(b c:Nat)(d:OA)(e f:Nat)(g:OA)(i j:Nat)(k m:Int)(Q:aM)(w:World)
def bT.B1:Prop:=
 Split (decide (m<k)) ((0<=m/\m<(i:Int))/\Is g fun n:Addr=>∃o:Int,w.cell? (n.add (m.toNat*1))=some (.int .u64 o)/\Split (m==(b:Int)) (let p:=w.alloc (.cells #[.int .u64 0] 22);∃(q:OA) (r t:Nat) (u:World),(Builtin.append_ #[143,143] 143 #[.slice a b c,.slice (some (aU w.heap.size)) 1 1]).run prog p=.ok (.slice q r t) u/\(0<=m/\m<(r:Int))/\Is q fun v:Addr=>∃x:Int,u.cell? (v.add (m.toNat*1))=some (.int .u64 x)/\(0<=m/\m<(r:Int))/\Is q fun y:Addr=>Wr u (y.add (m.toNat*1))/\let z:=u.setCell (y.add (m.toNat*1)) (.int .u64 (u64.wrap ((BitVec.ofInt 64 x|||BitVec.ofInt 64 o).toNat)));Q .normal [(0,.slice q r t),(4,.slice d e f),(7,.slice g i j),(8,.int .i64 k),(9,.int .i64 (i64.wrap (m+(1:Int))))] z) ((0<=m/\m<(b:Int))/\Is a fun a1:Addr=>∃b1:Int,w.cell? (a1.add (m.toNat*1))=some (.int .u64 b1)/\(0<=m/\m<(b:Int))/\Is a fun c1:Addr=>Wr w (c1.add (m.toNat*1))/\let d1:=w.setCell (c1.add (m.toNat*1)) (.int .u64 (u64.wrap ((BitVec.ofInt 64 b1|||BitVec.ofInt 64 o).toNat)));Q .normal [(0,.slice a b c),(4,.slice d e f),(7,.slice g i j),(8,.int .i64 k),(9,.int .i64 (i64.wrap (m+(1:Int))))] d1)) (Q (.exit 0) [(0,.slice a b c),(4,.slice d e f),(7,.slice g i j),(8,.int .i64 k),(9,.int .i64 m)] w)
theorem bT.b1:(a8 none [] prog 30 bT.k (lB (bB (sR (sL (sR (body f143)))))) bT.u1 Q [(0,.slice a b c),(4,.slice d e f),(7,.slice g i j),(8,.int .i64 k),(9,.int .i64 m)] w)=bT.B1 a b c d e f g i j k m Q w:=by kernel_rfl
variable{d e f g i j k}
theorem bT.b9(I:(OA)×Nat×Nat×Int->World->Prop)(μ:(OA)×Nat×Nat×Int->World->Nat)(s:(OA)×Nat×Nat×Int){Q:aM}{w:World}(h0:I s w)
 (round:∀s w,I s w->bT.B1 (s.1) (s.2.1) (s.2.2.1) d e f g i j k (s.2.2.2) (bS (bT.e1 d e f g i j k) I μ s w Q) w):Holds none [] prog 30 (.loop (lB (bB (sR (sL (sR (body f143))))))) Q (bT.e1 d e f g i j k s) w:=
 br ng mix (bT.e1 d e f g i j k) I μ bT.k bT.u1 s (fun s Q w=>bT.B1 (s.1) (s.2.1) (s.2.2.1) d e f g i j k (s.2.2.2) Q w) (fun s Q w=>bT.b1 (s.1) (s.2.1) (s.2.2.1) d e f g i j k (s.2.2.2) Q w) h0 round
end
section
def bT.cU(a:OA)(b c:Nat)(d:OA)(e f:Nat)(g:OA)(i j:Nat)(k m:Int)(K:KT)(w:World):Prop:=
 K (.slice a b c) w
variable(a:OA)(b c:Nat)(d:OA)(e f:Nat)(g:OA)(i j:Nat)(k m:Int)(K:KT)(w:World)
theorem bT.dw:(bT.q1 K (.exit 0) [(0,.slice a b c),(4,.slice d e f),(7,.slice g i j),(8,.int .i64 k),(9,.int .i64 m)] w)=bT.cU a b c d e f g i j k m K w:=by kernel_rfl
end
def du.k:List Nat:= []
section
variable(a:AV)(b:Addr)(K:KT)(w:World)
def du.W:Prop:=
 let d:=w.alloc (.cells a 24);∃e:OA,d.cell? b=some (.pointer e)/\∃f:AV,(f.size=32/\Cells d (aU w.heap.size) f)/\bf prog 47 #[.pointer e,.agg f] d fun g i=>∃j:Bool,g=.bool j/\K (.bool (!j)) i
variable{a b K w}
theorem du.of(h:du.W a b K w):bf prog 145 #[.agg a,.pointer (some b)] w K:=
 rqq func145 (C:=du.k) h
end
def bA.k:List Nat:= []
def bA.q1(K:KT):aM:=(aP 0 (ct (aZ (body f146))++(aW f146)) (b6 (fun cf w_=>match cutAt bA.k (aZ (body f146))with|true=>Holds none [] prog 24 (aZ (body f146)) (bV prog f146 K) cf w_|false=>a8 none [] prog 24 bA.k (aZ (body f146)) (aW f146) (bV prog f146 K) cf w_) (bV prog f146 K)))
def bA.e1(a:Int)(b:OA)(c d:Nat)(s:(OA)×Nat×Nat):Env:= [(0,.slice s.1 s.2.1 s.2.2),(1,.int .i64 a),(4,.slice b c d)]
def bA.u1:List Nat:= [0,1,4]
section
variable(a:OA)(b d:Nat)(e:Int)(K:KT)(w:World)
def bA.W:Prop:=
 Holds none [] prog 24 (.loop (lB (bB (sL (sR (body f146)))))) (bA.q1 K) [(0,.slice a b d),(1,.int .i64 e),(4,.slice none 0 0)] w
variable{a b d e K w}
theorem bA.of(h:bA.W a b d e K w):bf prog 146 #[.slice a b d,.int .i64 e] w K:=
 rqq func146 (C:=bA.k) h
end
section
variable(a:OA)(b c:Nat)(d:Int)(e:OA)(f g:Nat)(Q:aM)(w:World)
def bA.B1:Prop:=
 (64:Int)≠0/\Split (decide ((b:Int)<=(i64.wrap (d.tdiv (64:Int))))) (let i:=w.alloc (.cells #[.int .u64 0] 22);∃(j:OA) (k m:Nat) (n:World),(Builtin.append_ #[143,143] 143 #[.slice a b c,.slice (some (aU w.heap.size)) 1 1]).run prog i=.ok (.slice j k m) n/\Q .normal [(0,.slice j k m),(1,.int .i64 d),(4,.slice e f g)] n) (Q (.exit 0) [(0,.slice a b c),(1,.int .i64 d),(4,.slice e f g)] w)
theorem bA.b1:(a8 none [] prog 24 bA.k (lB (bB (sL (sR (body f146))))) bA.u1 Q [(0,.slice a b c),(1,.int .i64 d),(4,.slice e f g)] w)=bA.B1 a b c d e f g Q w:=by kernel_rfl
variable{d e f g}
theorem bA.b9(I:(OA)×Nat×Nat->World->Prop)(μ:(OA)×Nat×Nat->World->Nat)(s:(OA)×Nat×Nat){Q:aM}{w:World}(h0:I s w)
 (round:∀s w,I s w->bA.B1 (s.1) (s.2.1) (s.2.2) d e f g (bS (bA.e1 d e f g) I μ s w Q) w):Holds none [] prog 24 (.loop (lB (bB (sL (sR (body f146)))))) Q (bA.e1 d e f g s) w:=
 br ng mix (bA.e1 d e f g) I μ bA.k bA.u1 s (fun s Q w=>bA.B1 (s.1) (s.2.1) (s.2.2) d e f g Q w) (fun s Q w=>bA.b1 (s.1) (s.2.1) (s.2.2) d e f g Q w) h0 round
end
section
def bA.cU(a:OA)(b c:Nat)(d:Int)(e:OA)(f g:Nat)(K:KT)(w:World):Prop:=
 let i:=w.drew;(64:Int)≠0/\(0<=(i64.wrap (d.tdiv (64:Int)))/\(i64.wrap (d.tdiv (64:Int)))<(b:Int))/\Is a fun j:Addr=>∃k:Int,i.cell? (j.add ((i64.wrap (d.tdiv (64:Int))).toNat*1))=some (.int .u64 k)/\(64:Int)≠0/\0<=(d.tmod (64:Int))/\(0<=(i64.wrap (d.tdiv (64:Int)))/\(i64.wrap (d.tdiv (64:Int)))<(b:Int))/\Is a fun m:Addr=>Wr i (m.add ((i64.wrap (d.tdiv (64:Int))).toNat*1))/\let n:=i.setCell (m.add ((i64.wrap (d.tdiv (64:Int))).toNat*1)) (.int .u64 (u64.wrap ((BitVec.ofInt 64 k|||BitVec.ofInt 64 (u64.wrap ((1:Int)*2 ^ (min (d.tmod (64:Int)).toNat 64)))).toNat)));K (.slice a b c) n
variable(a:OA)(b c:Nat)(d:Int)(e:OA)(f g:Nat)(K:KT)(w:World)
theorem bA.dw:(bA.q1 K (.exit 0) [(0,.slice a b c),(1,.int .i64 d),(4,.slice e f g)] w)=bA.cU a b c d e f g K w:=by kernel_rfl
end
section
variable(a:OA)(K:KT)(w:World)
variable{a K w}
end
section
variable(a:OA)(b c:Nat)(d:OA)(e f:Nat)(g:OA)(i j:Nat)(k m:Int)(Q:aM)(w:World)
variable{a b c g i j k}
end
section
variable(a:OA)(b c:Nat)(d:OA)(e f:Nat)(g:OA)(i j:Nat)(k m:Int)(K:KT)(w:World)
end
def au.k:List Nat:= []
def au.q1(K:KT):aM:=(aP 0 (ct (aZ (body f91))++(aW f91)) (b6 (fun cf w_=>match cutAt au.k (aZ (body f91))with|true=>Holds none [] prog 19 (aZ (body f91)) (bV prog f91 K) cf w_|false=>a8 none [] prog 19 au.k (aZ (body f91)) (aW f91) (bV prog f91 K) cf w_) (bV prog f91 K)))
def au.e1(a:OA)(b c:Nat)(d:Addr)(e:Int)(s:Int×Int):Env:= [(0,.slice a b c),(1,.func (.func 145) #[] #[.pointer (some d)]),(4,.int .i64 s.1),(7,.int .i64 e),(8,.int .i64 s.2)]
def au.u1:List Nat:= [0,1,4,7,8]
section
variable(a:OA)(b d:Nat)(e:Addr)(K:KT)(w:World)
def au.W:Prop:=
 Holds none [] prog 19 (.loop (lB (bB (sR (sL (sR (body f91))))))) (au.q1 K) [(0,.slice a b d),(1,.func (.func 145) #[] #[.pointer (some e)]),(4,.int .i64 0),(7,.int .i64 (b:Int)),(8,.int .i64 0)] w
variable{a b d e K w}
theorem au.of(h:au.W a b d e K w):bf prog 91 #[.slice a b d,.func (.func 145) #[] #[.pointer (some e)]] w K:=
 rqq func91 (C:=au.k) h
end
section
variable(a:OA)(b c:Nat)(d:Addr)(e f g:Int)(Q:aM)(w:World)
def au.B1:Prop:=
 Split (decide (g<f)) ((0<=g/\g<(b:Int))/\Is a fun i:Addr=>∃j:AV,(j.size=32/\Cells w (i.add (g.toNat*32)) j)/\bf prog 145 #[.agg j,.pointer (some d)] w fun k m=>∃n:Bool,k=.bool n/\Split n (Q .ret [(0,.slice a b c),(1,.func (.func 145) #[] #[.pointer (some d)]),(4,.int .i64 g),(7,.int .i64 f),(8,.int .i64 g)] m) (Q .normal [(0,.slice a b c),(1,.func (.func 145) #[] #[.pointer (some d)]),(4,.int .i64 e),(7,.int .i64 f),(8,.int .i64 (i64.wrap (g+(1:Int))))] m)) (Q (.exit 0) [(0,.slice a b c),(1,.func (.func 145) #[] #[.pointer (some d)]),(4,.int .i64 e),(7,.int .i64 f),(8,.int .i64 g)] w)
theorem au.b1:(a8 none [] prog 19 au.k (lB (bB (sR (sL (sR (body f91)))))) au.u1 Q [(0,.slice a b c),(1,.func (.func 145) #[] #[.pointer (some d)]),(4,.int .i64 e),(7,.int .i64 f),(8,.int .i64 g)] w)=au.B1 a b c d e f g Q w:=by kernel_rfl
variable{a b c d f}
theorem au.b9(I:Int×Int->World->Prop)(μ:Int×Int->World->Nat)(s:Int×Int){Q:aM}{w:World}(h0:I s w)
 (round:∀s w,I s w->au.B1 a b c d (s.1) f (s.2) (bS (au.e1 a b c d f) I μ s w Q) w):Holds none [] prog 19 (.loop (lB (bB (sR (sL (sR (body f91))))))) Q (au.e1 a b c d f s) w:=
 br ng mix (au.e1 a b c d f) I μ au.k au.u1 s (fun s Q w=>au.B1 a b c d (s.1) f (s.2) Q w) (fun s Q w=>au.b1 a b c d (s.1) f (s.2) Q w) h0 round
end
section
def au.cU(a:OA)(b c:Nat)(d:Addr)(e f g:Int)(K:KT)(w:World):Prop:=
 K (.int .i64 (-1)) w
variable(a:OA)(b c:Nat)(d:Addr)(e f g:Int)(K:KT)(w:World)
theorem au.dw:(au.q1 K (.exit 0) [(0,.slice a b c),(1,.func (.func 145) #[] #[.pointer (some d)]),(4,.int .i64 e),(7,.int .i64 f),(8,.int .i64 g)] w)=au.cU a b c d e f g K w:=by kernel_rfl
end
def bQ.k:List Nat:= []
section
variable(a:OA)(b d:Nat)(e:Addr)(K:KT)(w:World)
def bQ.W:Prop:=
 bf prog 91 #[.slice a b d,.func (.func 145) #[] #[.pointer (some e)]] w fun f g=>∃i:Int,f=.int .i64 i/\K (.bool (decide (i>=(0:Int)))) g
variable{a b d e K w}
theorem bQ.of(h:bQ.W a b d e K w):bf prog 68 #[.slice a b d,.func (.func 145) #[] #[.pointer (some e)]] w K:=
 rqq func68 (C:=bQ.k) h
end
def aF.k:List Nat:= []
def aF.q1(K:KT):aM:=(aP 0 (aW f158) (bV prog f158 K))
def aF.e1(a:Nat)(b:OA)(c d:Nat)(e s:Int):Env:= [(0,.func (.yield a) #[] #[]),(5,.slice b c d),(6,.int .i64 e),(7,.int .i64 s)]
def aF.u1:List Nat:= [0,5,6,7]
def aF.q2(Q:aM):aM:=(aP 2 (ct (aZ (sR (lB (bB (sR (body f158))))))++aF.u1) (aP 1 (ct (aZ (sR (lB (bB (sR (body f158))))))++aF.u1) (b6 (fun cf w_=>match cutAt aF.k (aZ (sR (lB (bB (sR (body f158))))))with|true=>Holds none [] prog 27 (aZ (sR (lB (bB (sR (body f158)))))) Q cf w_|false=>a8 none [] prog 27 aF.k (aZ (sR (lB (bB (sR (body f158)))))) aF.u1 Q cf w_) Q)))
def aF.e2(a:Nat)(b:Int)(c:OA)(d e:Nat)(f g s:Int):Env:= [(0,.func (.yield a) #[] #[]),(3,.int .i64 b),(4,.int .u64 s),(5,.slice c d e),(6,.int .i64 f),(7,.int .i64 g)]
def aF.u2:List Nat:= [0,3,4,5,6,7]
section
variable(a:Nat)(b:Addr)(K:KT)(w:World)
def aF.W:Prop:=
 ∃d:OA,∃e f:Nat,w.cell? b=some (.slice d e f)/\Holds none [] prog 27 (.loop (lB (bB (sR (body f158))))) (aF.q1 K) [(0,.func (.yield a) #[] #[]),(5,.slice d e f),(6,.int .i64 (e:Int)),(7,.int .i64 0)] w
variable{a b K w}
theorem aF.of(h:aF.W a b K w):bf prog 158 #[.func (.yield a) #[] #[],.pointer (some b)] w K:=
 rqq func158 (C:=aF.k) h
end
section
variable(a:Nat)(b:OA)(c d:Nat)(e f:Int)(Q:aM)(w:World)
def aF.B1:Prop:=
 Split (decide (f<e)) ((0<=f/\f<(c:Int))/\Is b fun g:Addr=>∃i:Int,w.cell? (g.add (f.toNat*1))=some (.int .u64 i)/\Holds none [] prog 27 (.loop (lB (bB (sR (bB (sL (aZ (lB (bB (sR (body f158))))))))))) (aF.q2 Q) [(0,.func (.yield a) #[] #[]),(3,.int .i64 f),(4,.int .u64 i),(5,.slice b c d),(6,.int .i64 e),(7,.int .i64 f)] w) (Q (.exit 0) [(0,.func (.yield a) #[] #[]),(5,.slice b c d),(6,.int .i64 e),(7,.int .i64 f)] w)
theorem aF.b1:(a8 none [] prog 27 aF.k (lB (bB (sR (body f158)))) aF.u1 Q [(0,.func (.yield a) #[] #[]),(5,.slice b c d),(6,.int .i64 e),(7,.int .i64 f)] w)=aF.B1 a b c d e f Q w:=by kernel_rfl
variable{a b c d e}
theorem aF.b9(I:Int->World->Prop)(μ:Int->World->Nat)(s:Int){Q:aM}{w:World}(h0:I s w)
 (round:∀s w,I s w->aF.B1 a b c d e s (bS (aF.e1 a b c d e) I μ s w Q) w):Holds none [] prog 27 (.loop (lB (bB (sR (body f158))))) Q (aF.e1 a b c d e s) w:=
 br ng mix (aF.e1 a b c d e) I μ aF.k aF.u1 s (fun s Q w=>aF.B1 a b c d e s Q w) (fun s Q w=>aF.b1 a b c d e s Q w) h0 round
end
section
def aF.cU(a:Nat)(b:OA)(c d:Nat)(e f:Int)(K:KT)(w:World):Prop:=
 K (.tuple #[]) w
variable(a:Nat)(b:OA)(c d:Nat)(e f:Int)(K:KT)(w:World)
theorem aF.dw:(aF.q1 K (.exit 0) [(0,.func (.yield a) #[] #[]),(5,.slice b c d),(6,.int .i64 e),(7,.int .i64 f)] w)=aF.cU a b c d e f K w:=by kernel_rfl
end
section
variable(a:Nat)(b c:Int)(d:OA)(e f:Nat)(g i:Int)(Q:aM)(w:World)
def aF.B2:Prop:=
 Split (c != (0:Int)) (bf prog 159 #[.int .u64 c] w fun j k=>∃m:Int,j=.int .i64 m/\jt prog a #[.int .i64 (i64.wrap ((i64.wrap ((64:Int)*b))+m))] k fun n o=>Split (!n) (Q .ret [(0,.func (.yield a) #[] #[]),(3,.int .i64 b),(4,.int .u64 c),(5,.slice d e f),(6,.int .i64 g),(7,.int .i64 i)] o) (Q .normal [(0,.func (.yield a) #[] #[]),(3,.int .i64 b),(4,.int .u64 (u64.wrap ((BitVec.ofInt 64 c&&& BitVec.ofInt 64 (u64.wrap (c-(1:Int)))).toNat))),(5,.slice d e f),(6,.int .i64 g),(7,.int .i64 i)] o)) (Q (.exit 2) [(0,.func (.yield a) #[] #[]),(3,.int .i64 b),(4,.int .u64 c),(5,.slice d e f),(6,.int .i64 g),(7,.int .i64 i)] w)
theorem aF.b2:(a8 none [] prog 27 aF.k (lB (bB (sR (bB (sL (aZ (lB (bB (sR (body f158)))))))))) aF.u2 Q [(0,.func (.yield a) #[] #[]),(3,.int .i64 b),(4,.int .u64 c),(5,.slice d e f),(6,.int .i64 g),(7,.int .i64 i)] w)=aF.B2 a b c d e f g i Q w:=by kernel_rfl
variable{a b d e f g i}
theorem aF.iK(I:Int->World->Prop)(μ:Int->World->Nat)(s:Int){Q:aM}{w:World}(h0:I s w)
 (round:∀s w,I s w->aF.B2 a b s d e f g i (bS (aF.e2 a b d e f g i) I μ s w Q) w):Holds none [] prog 27 (.loop (lB (bB (sR (bB (sL (aZ (lB (bB (sR (body f158))))))))))) Q (aF.e2 a b d e f g i s) w:=
 br ng mix (aF.e2 a b d e f g i) I μ aF.k aF.u2 s (fun s Q w=>aF.B2 a b s d e f g i Q w) (fun s Q w=>aF.b2 a b s d e f g i Q w) h0 round
end
section
def aF.jX(a:Nat)(b c:Int)(d:OA)(e f:Nat)(g i:Int)(Q:aM)(w:World):Prop:=
 Q .normal [(0,.func (.yield a) #[] #[]),(5,.slice d e f),(6,.int .i64 g),(7,.int .i64 (i64.wrap (i+(1:Int))))] w
variable(a:Nat)(b c:Int)(d:OA)(e f:Nat)(g i:Int)(Q:aM)(w:World)
theorem aF.lI:(aF.q2 Q (.exit 2) [(0,.func (.yield a) #[] #[]),(3,.int .i64 b),(4,.int .u64 c),(5,.slice d e f),(6,.int .i64 g),(7,.int .i64 i)] w)=aF.jX a b c d e f g i Q w:=by kernel_rfl
end
def aE.k:List Nat:= []
def aE.q1(K:KT):aM:=(aP 0 (aW f137) (bV prog f137 K))
def aE.e1(a:Nat)(b:OA)(c d:Nat)(e s:Int):Env:= [(0,.func (.yield a) #[] #[]),(5,.slice b c d),(6,.int .i64 e),(7,.int .i64 s)]
def aE.u1:List Nat:= [0,5,6,7]
section
variable(a:Nat)(b:Addr)(K:KT)(w:World)
def aE.W:Prop:=
 ∃d:OA,∃e f:Nat,w.cell? b=some (.slice d e f)/\Holds none [] prog 16 (.loop (lB (bB (sR (body f137))))) (aE.q1 K) [(0,.func (.yield a) #[] #[]),(5,.slice d e f),(6,.int .i64 (e:Int)),(7,.int .i64 0)] w
variable{a b K w}
theorem aE.of(h:aE.W a b K w):bf prog 137 #[.func (.yield a) #[] #[],.pointer (some b)] w K:=
 rqq func137 (C:=aE.k) h
end
section
variable(a:Nat)(b:OA)(c d:Nat)(e f:Int)(Q:aM)(w:World)
def aE.B1:Prop:=
 Split (decide (f<e)) ((0<=f/\f<(c:Int))/\Is b fun g:Addr=>∃i:AV,(i.size=32/\Cells w (g.add (f.toNat*32)) i)/\let j:=w.alloc (.cells zH 24);(i.size=32/\(∀k∈i.toList,k.oneCell'=true)/\∀m,m<32->Wr j ((aU w.heap.size).add m))/\let n:=setCells j (aU w.heap.size) i.toList 0;∃o:AV,(o.size=32/\Cells n (aU w.heap.size) o)/\jt prog a #[.agg o] n fun p q=>Split (!p) (Q .ret [(0,.func (.yield a) #[] #[]),(5,.slice b c d),(6,.int .i64 e),(7,.int .i64 f)] q) (Q .normal [(0,.func (.yield a) #[] #[]),(5,.slice b c d),(6,.int .i64 e),(7,.int .i64 (i64.wrap (f+(1:Int))))] q)) (Q (.exit 0) [(0,.func (.yield a) #[] #[]),(5,.slice b c d),(6,.int .i64 e),(7,.int .i64 f)] w)
theorem aE.b1:(a8 none [] prog 16 aE.k (lB (bB (sR (body f137)))) aE.u1 Q [(0,.func (.yield a) #[] #[]),(5,.slice b c d),(6,.int .i64 e),(7,.int .i64 f)] w)=aE.B1 a b c d e f Q w:=by kernel_rfl
variable{a b c d e}
theorem aE.b9(I:Int->World->Prop)(μ:Int->World->Nat)(s:Int){Q:aM}{w:World}(h0:I s w)
 (round:∀s w,I s w->aE.B1 a b c d e s (bS (aE.e1 a b c d e) I μ s w Q) w):Holds none [] prog 16 (.loop (lB (bB (sR (body f137))))) Q (aE.e1 a b c d e s) w:=
 br ng mix (aE.e1 a b c d e) I μ aE.k aE.u1 s (fun s Q w=>aE.B1 a b c d e s Q w) (fun s Q w=>aE.b1 a b c d e s Q w) h0 round
end
section
def aE.cU(a:Nat)(b:OA)(c d:Nat)(e f:Int)(K:KT)(w:World):Prop:=
 K (.tuple #[]) w
variable(a:Nat)(b:OA)(c d:Nat)(e f:Int)(K:KT)(w:World)
theorem aE.dw:(aE.q1 K (.exit 0) [(0,.func (.yield a) #[] #[]),(5,.slice b c d),(6,.int .i64 e),(7,.int .i64 f)] w)=aE.cU a b c d e f K w:=by kernel_rfl
end
end Go.Proofs.YtfleamccglihoaaGreatDoor
