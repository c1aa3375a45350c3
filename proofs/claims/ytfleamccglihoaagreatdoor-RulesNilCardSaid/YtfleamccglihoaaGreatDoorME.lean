import Derived.Test.YtfleamccglihoaaGreatDoorProg
import Derived.Test.YtfleamccglihoaaGreatDoorMA
import Derived.Test.YtfleamccglihoaaGreatDoorMB
open Go.IntKind (i64 u64)
set_option linter.unusedVariables false
namespace Go.Proofs.YtfleamccglihoaaGreatDoor
open Go.Proofs.Tryz
open Go Go.bE
def dp.k:List Nat:= []
section
variable(a:OA)(K:KT)(w:World)
def dp.W:Prop:=
 Split ((a).isNone) (K (.pointer none) w) (Is a fun b:Addr=>∃d:OA,w.cell? (b.add 0)=some (.pointer d)/\K (.pointer d) w)
variable{a K w}
theorem dp.of(h:dp.W a K w):bf prog 46 #[.pointer a] w K:=
 rqq func46 (C:=dp.k) h
end
def dc.k:List Nat:= []
section
variable(a:OA)(b d:AV)(K:KT)(w:World)
def dc.W:Prop:=
 let e:=w.alloc (.cells (#[.pointer a]:AV) 62);let f:=e.alloc (.cells b 24);let g:=f.alloc (.cells d 24);∃i:OA,g.cell? (aU w.heap.size)=some (.pointer i)/\∃j:AV,(j.size=32/\Cells g (aU e.heap.size) j)/\∃k:AV,(k.size=32/\Cells g (aU f.heap.size) k)/\j.size=32/\k.size=32/\let m:=g.alloc (.cells (j.toList++(k.toList++([]))).toArray 24);bf prog 94 #[.pointer i,.slice (some (aU g.heap.size)) 2 2] m fun n o=>∃p:Bool,n=.bool p/\Split (!p) (K (.bool false) o) (∃q:AV,(q.size=32/\Cells o (aU e.heap.size) q)/\∃r:AV,(r.size=32/\Cells o (aU f.heap.size) r)/\(fT .u8 32 q/\fT .u8 32 r)/\Split (gh q r) (K (.bool false) o) (let t:=o.drew;∃u:OA,t.cell? (aU w.heap.size)=some (.pointer u)/\∃v:AV,(v.size=32/\Cells t (aU e.heap.size) v)/\∃x:AV,(x.size=32/\Cells t (aU f.heap.size) x)/\bf prog 95 #[.pointer u,.agg v,.agg x] t fun y z=>∃a1:Bool,y=.bool a1/\Split a1 (K (.bool true) z) (∃b1:OA,z.cell? (aU w.heap.size)=some (.pointer b1)/\Is b1 fun c1:Addr=>∃d1:Option Nat,z.cell? (c1.add 4)=some (.map d1)/\∃e1:AV,(e1.size=32/\Cells z (aU e.heap.size) e1)/\∃f1:OA,∃g1 i1:Nat,(Instr.lookup 135 (.map d1) (.agg e1) false).run prog z=.ok (.slice f1 g1 i1) z/\bf prog 68 #[.slice f1 g1 i1,.func (.func 96) #[] #[.pointer (some (aU w.heap.size)),.pointer (some (aU f.heap.size))]] z fun j1 k1=>∃m1:Bool,j1=.bool m1/\K (.bool m1) k1)))
variable{a b d K w}
theorem dc.of(h:dc.W a b d K w):bf prog 51 #[.pointer a,.agg b,.agg d] w K:=
 rqq func51 (C:=dc.k) h
end
def aI.k:List Nat:= []
def aI.q1(K:KT):aM:=(aP 0 (ct (aZ (body f79))++(aW f79)) (b6 (fun cf w_=>match cutAt aI.k (aZ (body f79))with|true=>Holds none [] prog 19 (aZ (body f79)) (bV prog f79 K) cf w_|false=>a8 none [] prog 19 aI.k (aZ (body f79)) (aW f79) (bV prog f79 K) cf w_) (bV prog f79 K)))
def aI.e1(a:OA)(b c:Nat)(d:Addr)(e:Int)(s:Int×Int):Env:= [(0,.slice a b c),(3,.pointer (some d)),(4,.int .i64 s.1),(7,.int .i64 e),(8,.int .i64 s.2)]
def aI.u1:List Nat:= [0,3,4,7,8]
section
variable(a:OA)(b d:Nat)(e:AV)(K:KT)(w:World)
def aI.W:Prop:=
 let f:=w.alloc (.cells e 24);Holds none [] prog 19 (.loop (lB (bB (sR (sL (sR (body f79))))))) (aI.q1 K) [(0,.slice a b d),(3,.pointer (some (aU w.heap.size))),(4,.int .i64 0),(7,.int .i64 (b:Int)),(8,.int .i64 0)] f
variable{a b d e K w}
theorem aI.of(h:aI.W a b d e K w):bf prog 79 #[.slice a b d,.agg e] w K:=
 rqq func79 (C:=aI.k) h
end
section
variable(a:OA)(b c:Nat)(d:Addr)(e f g:Int)(Q:aM)(w:World)
def aI.B1:Prop:=
 Split (decide (g<f)) (let i:=w.drew;∃j:AV,(j.size=32/\Cells i d j)/\(0<=g/\g<(b:Int))/\Is a fun k:Addr=>∃m:AV,(m.size=32/\Cells i (k.add (g.toNat*32)) m)/\(fT .u8 32 j/\fT .u8 32 m)/\Split (gh j m) (Q .ret [(0,.slice a b c),(3,.pointer (some d)),(4,.int .i64 g),(7,.int .i64 f),(8,.int .i64 g)] i) (Q .normal [(0,.slice a b c),(3,.pointer (some d)),(4,.int .i64 e),(7,.int .i64 f),(8,.int .i64 (i64.wrap (g+(1:Int))))] i)) (Q (.exit 0) [(0,.slice a b c),(3,.pointer (some d)),(4,.int .i64 e),(7,.int .i64 f),(8,.int .i64 g)] w)
theorem aI.b1:(a8 none [] prog 19 aI.k (lB (bB (sR (sL (sR (body f79)))))) aI.u1 Q [(0,.slice a b c),(3,.pointer (some d)),(4,.int .i64 e),(7,.int .i64 f),(8,.int .i64 g)] w)=aI.B1 a b c d e f g Q w:=by kernel_rfl
variable{a b c d f}
theorem aI.b9(I:Int×Int->World->Prop)(μ:Int×Int->World->Nat)(s:Int×Int){Q:aM}{w:World}(h0:I s w)
 (round:∀s w,I s w->aI.B1 a b c d (s.1) f (s.2) (bS (aI.e1 a b c d f) I μ s w Q) w):Holds none [] prog 19 (.loop (lB (bB (sR (sL (sR (body f79))))))) Q (aI.e1 a b c d f s) w:=
 br ng mix (aI.e1 a b c d f) I μ aI.k aI.u1 s (fun s Q w=>aI.B1 a b c d (s.1) f (s.2) Q w) (fun s Q w=>aI.b1 a b c d (s.1) f (s.2) Q w) h0 round
end
section
def aI.cU(a:OA)(b c:Nat)(d:Addr)(e f g:Int)(K:KT)(w:World):Prop:=
 K (.int .i64 (-1)) w
variable(a:OA)(b c:Nat)(d:Addr)(e f g:Int)(K:KT)(w:World)
theorem aI.dw:(aI.q1 K (.exit 0) [(0,.slice a b c),(3,.pointer (some d)),(4,.int .i64 e),(7,.int .i64 f),(8,.int .i64 g)] w)=aI.cU a b c d e f g K w:=by kernel_rfl
end
def b7.k:List Nat:= []
section
variable(a:OA)(b d:Nat)(e:AV)(K:KT)(w:World)
def b7.W:Prop:=
 let f:=w.alloc (.cells e 24);∃g:AV,(g.size=32/\Cells f (aU w.heap.size) g)/\bf prog 79 #[.slice a b d,.agg g] f fun i j=>∃k:Int,i=.int .i64 k/\K (.bool (decide (k>=(0:Int)))) j
variable{a b d e K w}
theorem b7.of(h:b7.W a b d e K w):bf prog 80 #[.slice a b d,.agg e] w K:=
 rqq func80 (C:=b7.k) h
end
def aD.k:List Nat:= []
def aD.q1(K:KT):aM:=(aP 1 (ct (cS (aZ (body f84)))++(aW f84)) (b6 (fun cf w_=>match cutAt aD.k (cS (aZ (body f84)))with|true=>Holds none [] prog 131 (cS (aZ (body f84))) (bV prog f84 K) cf w_|false=>a8 none [] prog 131 aD.k (cS (aZ (body f84))) (aW f84) (bV prog f84 K) cf w_) (bV prog f84 K)))
def aD.e1(a b:OA)(c d:Nat)(e f:Addr)(g:Int)(i:OA)(j:Option Nat)(k:OA)(m n:Nat)(o s:Int):Env:= [(0,.pointer a),(3,.slice b c d),(5,.pointer (some e)),(6,.pointer (some f)),(8,.int .i64 g),(9,.pointer i),(10,.map j),(57,.slice k m n),(58,.int .i64 o),(59,.int .i64 s)]
def aD.u1:List Nat:= [0,3,5,6,8,9,10,57,58,59]
def aD.q2(K:KT):aM:=(aP 3 (ct (dW (body f84))++(aW f84)) (b6 (fun cf w_=>match cutAt aD.k (dW (body f84))with|true=>Holds none [] prog 131 (dW (body f84)) (bV prog f84 K) cf w_|false=>a8 none [] prog 131 aD.k (dW (body f84)) (aW f84) (bV prog f84 K) cf w_) (bV prog f84 K)))
def aD.e2(a:OA)(b c:Addr)(d:Int)(e:Option Nat)(f:OA)(g i:Nat)(j s:Int):Env:= [(0,.pointer a),(5,.pointer (some b)),(6,.pointer (some c)),(8,.int .i64 d),(10,.map e),(74,.slice f g i),(75,.int .i64 j),(76,.int .i64 s)]
def aD.u2:List Nat:= [0,5,6,8,10,74,75,76]
section
variable(a:OA)(b d:AV)(e:OA)(f g:Nat)(K:KT)(w:World)
def aD.W:Prop:=
 let i:=w.alloc (.cells b 24);let j:=i.alloc (.cells d 24);bf prog 117 #[.pointer a] j fun k m=>∃n:Bool,k=.bool n/\Split (!n) (K (.int .i64 1) m) (Is a fun o:Addr=>∃p:OA,m.cell? (o.add 0)=some (.pointer p)/\∃q:AV,(q.size=32/\Cells m (aU w.heap.size) q)/\bf prog 47 #[.pointer p,.agg q] m fun r t=>∃u:Bool,r=.bool u/\Split u (K (.int .i64 7) t) (Split ((f:Int)==(0:Int)) (K (.int .i64 9) t) (bf prog 57 #[.slice e f g] t fun v x=>∃y:OA,∃z a1:Nat,v=.slice y z a1/\Split ((z:Int) != (f:Int)) (K (.int .i64 9) x) (bf prog 94 #[.pointer a,.slice e f g] x fun b1 c1=>∃d1:Bool,b1=.bool d1/\Split (!d1) (K (.int .i64 6) c1) (∃e1:AV,(e1.size=32/\Cells c1 (aU i.heap.size) e1)/\bf prog 80 #[.slice e f g,.agg e1] c1 fun f1 g1=>∃i1:Bool,f1=.bool i1/\Split (!i1) (K (.int .i64 2) g1) (let j1:=g1.alloc (.map #[] 0);∃k1:AV,(k1.size=32/\Cells j1 (aU i.heap.size) k1)/\∃m1:World,(Instr.mapUpdate 164 (.map (some g1.heap.size)) (.agg k1) (.agg #[.bool true])).run prog j1=.ok () m1/\∃n1:AV,(n1.size=32/\Cells m1 (aU i.heap.size) n1)/\n1.size=32/\let o1:=m1.alloc (.cells (n1.toList++ []).toArray 24);bf prog 111 #[.pointer p,.slice (some (aU m1.heap.size)) 1 1] o1 fun p1 q1=>∃r1:OA,∃t1 u1:Nat,p1=.slice r1 t1 u1/\Holds none [] prog 131 (.loop (lB (bB (sR (sL (cS (sR (body f84)))))))) (aD.q1 K) [(0,.pointer a),(3,.slice e f g),(5,.pointer (some (aU w.heap.size))),(6,.pointer (some (aU i.heap.size))),(8,.int .i64 0),(9,.pointer p),(10,.map (some g1.heap.size)),(57,.slice r1 t1 u1),(58,.int .i64 (t1:Int)),(59,.int .i64 0)] q1))))))
variable{a b d e f g K w}
theorem aD.of(h:aD.W a b d e f g K w):bf prog 84 #[.pointer a,.agg b,.agg d,.slice e f g] w K:=
 rqq func84 (C:=aD.k) h
end
section
variable(a b:OA)(c d:Nat)(e f:Addr)(g:Int)(i:OA)(j:Option Nat)(k:OA)(m n:Nat)(o p:Int)(Q:aM)(w:World)
def aD.B1:Prop:=
 Split (decide (p<o)) ((0<=p/\p<(m:Int))/\Is k fun q:Addr=>∃r:AV,(r.size=32/\Cells w (q.add (p.toNat*32)) r)/\let t:=w.alloc (.cells zH 24);(r.size=32/\(∀u∈r.toList,u.oneCell'=true)/\∀v,v<32->Wr t ((aU w.heap.size).add v))/\let x:=setCells t (aU w.heap.size) r.toList 0;∃y:AV,(y.size=32/\Cells x (aU w.heap.size) y)/\∃z:World,(Instr.mapUpdate 164 (.map j) (.agg y) (.agg #[.bool true])).run prog x=.ok () z/\Q .normal [(0,.pointer a),(3,.slice b c d),(5,.pointer (some e)),(6,.pointer (some f)),(8,.int .i64 g),(9,.pointer i),(10,.map j),(57,.slice k m n),(58,.int .i64 o),(59,.int .i64 (i64.wrap (p+(1:Int))))] z) (Q (.exit 1) [(0,.pointer a),(3,.slice b c d),(5,.pointer (some e)),(6,.pointer (some f)),(8,.int .i64 g),(9,.pointer i),(10,.map j),(57,.slice k m n),(58,.int .i64 o),(59,.int .i64 p)] w)
theorem aD.b1:(a8 none [] prog 131 aD.k (lB (bB (sR (sL (cS (sR (body f84))))))) aD.u1 Q [(0,.pointer a),(3,.slice b c d),(5,.pointer (some e)),(6,.pointer (some f)),(8,.int .i64 g),(9,.pointer i),(10,.map j),(57,.slice k m n),(58,.int .i64 o),(59,.int .i64 p)] w)=aD.B1 a b c d e f g i j k m n o p Q w:=by kernel_rfl
variable{a b c d e f g i j k m n o}
theorem aD.b9(I:Int->World->Prop)(μ:Int->World->Nat)(s:Int){Q:aM}{w:World}(h0:I s w)
 (round:∀s w,I s w->aD.B1 a b c d e f g i j k m n o s (bS (aD.e1 a b c d e f g i j k m n o) I μ s w Q) w):Holds none [] prog 131 (.loop (lB (bB (sR (sL (cS (sR (body f84)))))))) Q (aD.e1 a b c d e f g i j k m n o s) w:=
 br ng mix (aD.e1 a b c d e f g i j k m n o) I μ aD.k aD.u1 s (fun s Q w=>aD.B1 a b c d e f g i j k m n o s Q w) (fun s Q w=>aD.b1 a b c d e f g i j k m n o s Q w) h0 round
end
section
def aD.CI(a b:OA)(c d:Nat)(e f:Addr)(g:Int)(i:OA)(j:Option Nat)(k:OA)(m n:Nat)(o p:Int)(K:KT)(w:World):Prop:=
 ∃q:AV,(q.size=32/\Cells w e q)/\bf prog 118 #[.pointer i,.agg q,.slice b c d] w fun r t=>∃u:Int,r=.int .i64 u/\∃v:AV,(v.size=32/\Cells t e v)/\v.size=32/\let x:=t.alloc (.cells (v.toList++ []).toArray 24);bf prog 111 #[.pointer i,.slice (some (aU t.heap.size)) 1 1] x fun y z=>∃a1:OA,∃b1 c1:Nat,y=.slice a1 b1 c1/\Holds none [] prog 131 (.loop (lB (bB (sR (sL (cS (aZ (sR (body f84))))))))) (aD.q2 K) [(0,.pointer a),(5,.pointer (some e)),(6,.pointer (some f)),(8,.int .i64 g),(10,.map j),(74,.slice a1 b1 c1),(75,.int .i64 (b1:Int)),(76,.int .i64 0)] z
variable(a b:OA)(c d:Nat)(e f:Addr)(g:Int)(i:OA)(j:Option Nat)(k:OA)(m n:Nat)(o p:Int)(K:KT)(w:World)
theorem aD.Jk:(aD.q1 K (.exit 1) [(0,.pointer a),(3,.slice b c d),(5,.pointer (some e)),(6,.pointer (some f)),(8,.int .i64 g),(9,.pointer i),(10,.map j),(57,.slice k m n),(58,.int .i64 o),(59,.int .i64 p)] w)=aD.CI a b c d e f g i j k m n o p K w:=by kernel_rfl
end
section
variable(a:OA)(b c:Addr)(d:Int)(e:Option Nat)(f:OA)(g i:Nat)(j k:Int)(Q:aM)(w:World)
def aD.B2:Prop:=
 Split (decide (k<j)) ((0<=k/\k<(g:Int))/\Is f fun m:Addr=>∃n:AV,(n.size=32/\Cells w (m.add (k.toNat*32)) n)/\let o:=w.alloc (.cells zH 24);(n.size=32/\(∀p∈n.toList,p.oneCell'=true)/\∀q,q<32->Wr o ((aU w.heap.size).add q))/\let r:=setCells o (aU w.heap.size) n.toList 0;∃t:AV,(t.size=32/\Cells r (aU w.heap.size) t)/\∃u:AV,(Instr.lookup 164 (.map e) (.agg t) false).run prog r=.ok (.agg u) r/\∃v:Bool,u[0]? =some (.bool v)/\Split (!v) (let x:=r.drew;Is a fun y:Addr=>∃z:Option Nat,x.cell? (y.add 4)=some (.map z)/\∃a1:AV,(a1.size=32/\Cells x (aU w.heap.size) a1)/\Is a fun b1:Addr=>∃c1:Option Nat,x.cell? (b1.add 4)=some (.map c1)/\∃d1:AV,(d1.size=32/\Cells x (aU w.heap.size) d1)/\∃e1:OA,∃f1 g1:Nat,(Instr.lookup 135 (.map c1) (.agg d1) false).run prog x=.ok (.slice e1 f1 g1) x/\∃i1:AV,(i1.size=32/\Cells x b i1)/\(bf prog 119 #[.slice e1 f1 g1] x fun j1 k1=>∃m1:OA,∃n1 o1:Nat,j1=.slice m1 n1 o1/\(∃cs:AV,(.agg i1:Value)=.agg cs/\cs.size=32/\Cells k1 b cs)/\(∃cs:AV,(.agg a1:Value)=.agg cs/\cs.size=32/\Cells k1 (aU w.heap.size) cs)/\k1.cell? (y.add 4)=some (.map z)/\i1.size=32/\let p1:=k1.alloc (.cells (i1.toList++ []).toArray 24);(∃cs:AV,(.agg a1:Value)=.agg cs/\cs.size=32/\Cells p1 (aU w.heap.size) cs)/\p1.cell? (y.add 4)=some (.map z)/\∃(q1:OA) (r1 t1:Nat) (u1:World),(Builtin.append_ #[33,33] 33 #[.slice m1 n1 o1,.slice (some (aU k1.heap.size)) 1 1]).run prog p1=.ok (.slice q1 r1 t1) u1/\(∃cs:AV,(.agg a1:Value)=.agg cs/\cs.size=32/\Cells u1 (aU w.heap.size) cs)/\u1.cell? (y.add 4)=some (.map z)/\∃v1:World,(Instr.mapUpdate 135 (.map z) (.agg a1) (.slice q1 r1 t1)).run prog u1=.ok () v1/\Q .normal [(0,.pointer a),(5,.pointer (some b)),(6,.pointer (some c)),(8,.int .i64 d),(10,.map e),(74,.slice f g i),(75,.int .i64 j),(76,.int .i64 (i64.wrap (k+(1:Int))))] v1)/\(i1.size=32/\let x1:=x.alloc (.cells (i1.toList++ []).toArray 24);(Instr.lookup 135 (.map c1) (.agg d1) false).run prog x1=.ok (.slice e1 f1 g1) x1/\(∃cs:AV,(.agg d1:Value)=.agg cs/\cs.size=32/\Cells x1 (aU w.heap.size) cs)/\x1.cell? (b1.add 4)=some (.map c1)/\(∃cs:AV,(.agg a1:Value)=.agg cs/\cs.size=32/\Cells x1 (aU w.heap.size) cs)/\x1.cell? (y.add 4)=some (.map z)/\bf prog 119 #[.slice e1 f1 g1] x1 fun y1 z1=>∃a2:OA,∃b2 c2:Nat,y1=.slice a2 b2 c2/\(∃cs:AV,(.agg a1:Value)=.agg cs/\cs.size=32/\Cells z1 (aU w.heap.size) cs)/\z1.cell? (y.add 4)=some (.map z)/\∃(d2:OA) (e2 f2:Nat) (g2:World),(Builtin.append_ #[33,33] 33 #[.slice a2 b2 c2,.slice (some (aU x.heap.size)) 1 1]).run prog z1=.ok (.slice d2 e2 f2) g2/\(∃cs:AV,(.agg a1:Value)=.agg cs/\cs.size=32/\Cells g2 (aU w.heap.size) cs)/\g2.cell? (y.add 4)=some (.map z)/\∃i2:World,(Instr.mapUpdate 135 (.map z) (.agg a1) (.slice d2 e2 f2)).run prog g2=.ok () i2/\Q .normal [(0,.pointer a),(5,.pointer (some b)),(6,.pointer (some c)),(8,.int .i64 d),(10,.map e),(74,.slice f g i),(75,.int .i64 j),(76,.int .i64 (i64.wrap (k+(1:Int))))] i2)) (Q .normal [(0,.pointer a),(5,.pointer (some b)),(6,.pointer (some c)),(8,.int .i64 d),(10,.map e),(74,.slice f g i),(75,.int .i64 j),(76,.int .i64 (i64.wrap (k+(1:Int))))] r)) (Q (.exit 3) [(0,.pointer a),(5,.pointer (some b)),(6,.pointer (some c)),(8,.int .i64 d),(10,.map e),(74,.slice f g i),(75,.int .i64 j),(76,.int .i64 k)] w)
theorem aD.b2:(a8 none [] prog 131 aD.k (lB (bB (sR (sL (cS (aZ (sR (body f84)))))))) aD.u2 Q [(0,.pointer a),(5,.pointer (some b)),(6,.pointer (some c)),(8,.int .i64 d),(10,.map e),(74,.slice f g i),(75,.int .i64 j),(76,.int .i64 k)] w)=aD.B2 a b c d e f g i j k Q w:=by kernel_rfl
variable{a b c d e f g i j}
theorem aD.iK(I:Int->World->Prop)(μ:Int->World->Nat)(s:Int){Q:aM}{w:World}(h0:I s w)
 (round:∀s w,I s w->aD.B2 a b c d e f g i j s (bS (aD.e2 a b c d e f g i j) I μ s w Q) w):Holds none [] prog 131 (.loop (lB (bB (sR (sL (cS (aZ (sR (body f84))))))))) Q (aD.e2 a b c d e f g i j s) w:=
 br ng mix (aD.e2 a b c d e f g i j) I μ aD.k aD.u2 s (fun s Q w=>aD.B2 a b c d e f g i j s Q w) (fun s Q w=>aD.b2 a b c d e f g i j s Q w) h0 round
end
section
def aD.LN(a:OA)(b c:Addr)(d:Int)(e:Option Nat)(f:OA)(g i:Nat)(j k:Int)(K:KT)(w:World):Prop:=
 let m:=w.drew;Is a fun n:Addr=>∃o:OA,m.cell? (n.add 1)=some (.pointer o)/\Is a fun p:Addr=>∃q:Option Nat,m.cell? (p.add 2)=some (.map q)/\∃r:AV,(r.size=32/\Cells m c r)/\∃t:Int,(Instr.lookup 127 (.map q) (.agg r) false).run prog m=.ok (.int .i64 t) m/\bf prog 120 #[.pointer o,.int .i64 t] m fun u v=>∃x y:Int,u=.tuple #[.int .i64 x,.int .i64 y]/\let z:=v.drew;Is a fun a1:Addr=>∃b1:Option Nat,z.cell? (a1.add 2)=some (.map b1)/\∃c1:AV,(c1.size=32/\Cells z b c1)/\∃d1:World,(Instr.mapUpdate 127 (.map b1) (.agg c1) (.int .i64 x)).run prog z=.ok () d1/\let e1:=d1.drew;Is a fun f1:Addr=>∃g1:OA,∃i1 j1:Nat,e1.cell? (f1.add 3)=some (.slice g1 i1 j1)/\∃k1:AV,(k1.size=32/\Cells e1 b k1)/\k1.size=32/\let m1:=e1.alloc (.cells (k1.toList++ []).toArray 24);m1.cell? (f1.add 3)=some (.slice g1 i1 j1)/\∃(n1:OA) (o1 p1:Nat) (q1:World),(Builtin.append_ #[33,33] 33 #[.slice g1 i1 j1,.slice (some (aU e1.heap.size)) 1 1]).run prog m1=.ok (.slice n1 o1 p1) q1/\Is a fun r1:Addr=>Wr q1 (r1.add 3)/\let t1:=q1.setCell (r1.add 3) (.slice n1 o1 p1);K (.int .i64 0) t1
variable(a:OA)(b c:Addr)(d:Int)(e:Option Nat)(f:OA)(g i:Nat)(j k:Int)(K:KT)(w:World)
theorem aD.SA:(aD.q2 K (.exit 3) [(0,.pointer a),(5,.pointer (some b)),(6,.pointer (some c)),(8,.int .i64 d),(10,.map e),(74,.slice f g i),(75,.int .i64 j),(76,.int .i64 k)] w)=aD.LN a b c d e f g i j k K w:=by kernel_rfl
end
def aw.k:List Nat:= []
def aw.N1(a b:OA)(c d e:World)(K:KT)(f:World):Prop:=
 let g:=f.alloc (.cells (#[.pointer a,.pointer b,.map (some c.heap.size),.slice (some (aU d.heap.size)) 1 1,.map (some e.heap.size)]:AV) 137);K (.pointer (some (aU f.heap.size))) g
def aw.N2(a b:OA)(c d:World)(K:KT)(e:World):Prop:=
 let f:=e.alloc (.map #[] 0);aw.N1 a b c d e K f
def aw.N3(a:AV)(b c:OA)(d e:World)(K:KT)(f:World):Prop:=
 a.size=32/\let g:=f.alloc (.cells (a.toList++ []).toArray 24);aw.N1 b c d f e K g
def aw.N4(a:AV)(b c:OA)(d w:World)(K:KT)(e:World):Prop:=
 (a.size=32/\let f:=e.alloc (.cells (a.toList++ []).toArray 24);aw.N2 b c d e K f)/\(let g:=e.alloc (.map #[] 0);(∃cs:AV,(.agg a:Value)=.agg cs/\cs.size=32/\Cells g (aU w.heap.size) cs)/\aw.N3 a b c d e K g)
def aw.N5(a:World)(b:AV)(c d:OA)(e f:World)(K:KT)(g:World):Prop:=
 ∃i:World,(Instr.mapUpdate 127 (.map (some a.heap.size)) (.agg b) (.int .i64 0)).run prog g=.ok () i/\aw.N1 c d a e f K i
def aw.N6(a:World)(b:AV)(c d:OA)(e w:World)(K:KT)(f:World):Prop:=
 (∃g:World,(Instr.mapUpdate 127 (.map (some a.heap.size)) (.agg b) (.int .i64 0)).run prog f=.ok () g/\aw.N2 c d a e K g)/\(let i:=f.alloc (.map #[] 0);(∃cs:AV,(.agg b:Value)=.agg cs/\cs.size=32/\Cells i (aU w.heap.size) cs)/\aw.N5 a b c d e f K i)
def aw.N7(a:World)(b c:AV)(w:World)(d e:OA)(f:World)(K:KT)(g:World):Prop:=
 (∃i:World,(Instr.mapUpdate 127 (.map (some a.heap.size)) (.agg b) (.int .i64 0)).run prog g=.ok () i/\(∃cs:AV,(.agg c:Value)=.agg cs/\cs.size=32/\Cells i (aU w.heap.size) cs)/\aw.N3 c d e a f K i)/\(c.size=32/\let j:=g.alloc (.cells (c.toList++ []).toArray 24);(∃cs:AV,(.agg b:Value)=.agg cs/\cs.size=32/\Cells j (aU w.heap.size) cs)/\aw.N5 a b d e g f K j)
def aw.N8(a:World)(b c:AV)(w:World)(d e:OA)(K:KT)(f:World):Prop:=
 (∃g:World,(Instr.mapUpdate 127 (.map (some a.heap.size)) (.agg b) (.int .i64 0)).run prog f=.ok () g/\(∃cs:AV,(.agg c:Value)=.agg cs/\cs.size=32/\Cells g (aU w.heap.size) cs)/\aw.N4 c d e a w K g)/\(c.size=32/\let i:=f.alloc (.cells (c.toList++ []).toArray 24);(∃cs:AV,(.agg b:Value)=.agg cs/\cs.size=32/\Cells i (aU w.heap.size) cs)/\aw.N6 a b d e f w K i)/\(let j:=f.alloc (.map #[] 0);(∃cs:AV,(.agg c:Value)=.agg cs/\cs.size=32/\Cells j (aU w.heap.size) cs)/\(∃cs:AV,(.agg b:Value)=.agg cs/\cs.size=32/\Cells j (aU w.heap.size) cs)/\aw.N7 a b c w d e f K j)
def aw.N9(a:AV)(w:World)(b c:OA)(d e:World)(K:KT)(f:World):Prop:=
 let g:=f.alloc (.map #[] 0);(∃cs:AV,(.agg a:Value)=.agg cs/\cs.size=32/\Cells g (aU w.heap.size) cs)/\aw.N5 f a b c d e K g
def aw.MP(a:AV)(w:World)(b c:OA)(d:World)(K:KT)(e:World):Prop:=
 (let f:=e.alloc (.map #[] 0);(∃cs:AV,(.agg a:Value)=.agg cs/\cs.size=32/\Cells f (aU w.heap.size) cs)/\aw.N6 e a b c d w K f)/\(let g:=e.alloc (.map #[] 0);(∃cs:AV,(.agg a:Value)=.agg cs/\cs.size=32/\Cells g (aU w.heap.size) cs)/\aw.N9 a w b c d e K g)
def aw.Su(a:AV)(w:World)(b:AV)(c d:OA)(e:World)(K:KT)(f:World):Prop:=
 (let g:=f.alloc (.map #[] 0);(∃cs:AV,(.agg a:Value)=.agg cs/\cs.size=32/\Cells g (aU w.heap.size) cs)/\(∃cs:AV,(.agg b:Value)=.agg cs/\cs.size=32/\Cells g (aU w.heap.size) cs)/\aw.N7 f b a w c d e K g)/\(a.size=32/\let i:=f.alloc (.cells (a.toList++ []).toArray 24);(∃cs:AV,(.agg b:Value)=.agg cs/\cs.size=32/\Cells i (aU w.heap.size) cs)/\aw.N9 b w c d f e K i)
def aw.LU(a:AV)(w:World)(b:AV)(c d:OA)(K:KT)(e:World):Prop:=
 (let f:=e.alloc (.map #[] 0);(∃cs:AV,(.agg a:Value)=.agg cs/\cs.size=32/\Cells f (aU w.heap.size) cs)/\(∃cs:AV,(.agg b:Value)=.agg cs/\cs.size=32/\Cells f (aU w.heap.size) cs)/\aw.N8 e b a w c d K f)/\(a.size=32/\let g:=e.alloc (.cells (a.toList++ []).toArray 24);(∃cs:AV,(.agg b:Value)=.agg cs/\cs.size=32/\Cells g (aU w.heap.size) cs)/\aw.MP b w c d e K g)/\(let i:=e.alloc (.map #[] 0);(∃cs:AV,(.agg a:Value)=.agg cs/\cs.size=32/\Cells i (aU w.heap.size) cs)/\(∃cs:AV,(.agg b:Value)=.agg cs/\cs.size=32/\Cells i (aU w.heap.size) cs)/\aw.Su a w b c d e K i)
def aw.HV(a:OA)(b c d:World)(K:KT)(e:World):Prop:=
 bf prog 123 #[] e fun f g=>∃i:OA,f=.pointer i/\aw.N1 a i b c d K g
def aw.LS(a:OA)(b c:World)(K:KT)(d:World):Prop:=
 (bf prog 123 #[] d fun e f=>∃g:OA,e=.pointer g/\aw.N2 a g b c K f)/\(let i:=d.alloc (.map #[] 0);aw.HV a b c d K i)
def aw.Ri(a:AV)(w:World)(b:OA)(c d:World)(K:KT)(e:World):Prop:=
 (bf prog 123 #[] e fun f g=>∃i:OA,f=.pointer i/\(∃cs:AV,(.agg a:Value)=.agg cs/\cs.size=32/\Cells g (aU w.heap.size) cs)/\aw.N3 a b i c d K g)/\(a.size=32/\let j:=e.alloc (.cells (a.toList++ []).toArray 24);aw.HV b c e d K j)
def aw.MO(a:AV)(w:World)(b:OA)(c:World)(K:KT)(d:World):Prop:=
 (bf prog 123 #[] d fun e f=>∃g:OA,e=.pointer g/\(∃cs:AV,(.agg a:Value)=.agg cs/\cs.size=32/\Cells f (aU w.heap.size) cs)/\aw.N4 a b g c w K f)/\(a.size=32/\let i:=d.alloc (.cells (a.toList++ []).toArray 24);aw.LS b c d K i)/\(let j:=d.alloc (.map #[] 0);(∃cs:AV,(.agg a:Value)=.agg cs/\cs.size=32/\Cells j (aU w.heap.size) cs)/\aw.Ri a w b c d K j)
def aw.MN(a:AV)(w b:World)(c:OA)(d e:World)(K:KT)(f:World):Prop:=
 (bf prog 123 #[] f fun g i=>∃j:OA,g=.pointer j/\(∃cs:AV,(.agg a:Value)=.agg cs/\cs.size=32/\Cells i (aU w.heap.size) cs)/\aw.N5 b a c j d e K i)/\(∃k:World,(Instr.mapUpdate 127 (.map (some b.heap.size)) (.agg a) (.int .i64 0)).run prog f=.ok () k/\aw.HV c b d e K k)
def aw.Rh(a:AV)(w b:World)(c:OA)(d:World)(K:KT)(e:World):Prop:=
 (bf prog 123 #[] e fun f g=>∃i:OA,f=.pointer i/\(∃cs:AV,(.agg a:Value)=.agg cs/\cs.size=32/\Cells g (aU w.heap.size) cs)/\aw.N6 b a c i d w K g)/\(∃j:World,(Instr.mapUpdate 127 (.map (some b.heap.size)) (.agg a) (.int .i64 0)).run prog e=.ok () j/\aw.LS c b d K j)/\(let k:=e.alloc (.map #[] 0);(∃cs:AV,(.agg a:Value)=.agg cs/\cs.size=32/\Cells k (aU w.heap.size) cs)/\aw.MN a w b c d e K k)
def aw.F6(a:AV)(w:World)(b:AV)(c:World)(d:OA)(e:World)(K:KT)(f:World):Prop:=
 (bf prog 123 #[] f fun g i=>∃j:OA,g=.pointer j/\(∃cs:AV,(.agg a:Value)=.agg cs/\cs.size=32/\Cells i (aU w.heap.size) cs)/\(∃cs:AV,(.agg b:Value)=.agg cs/\cs.size=32/\Cells i (aU w.heap.size) cs)/\aw.N7 c b a w d j e K i)/\(∃k:World,(Instr.mapUpdate 127 (.map (some c.heap.size)) (.agg b) (.int .i64 0)).run prog f=.ok () k/\(∃cs:AV,(.agg a:Value)=.agg cs/\cs.size=32/\Cells k (aU w.heap.size) cs)/\aw.Ri a w d c e K k)/\(a.size=32/\let m:=f.alloc (.cells (a.toList++ []).toArray 24);(∃cs:AV,(.agg b:Value)=.agg cs/\cs.size=32/\Cells m (aU w.heap.size) cs)/\aw.MN b w c d f e K m)
def aw.Jh(a:AV)(w:World)(b:AV)(c:World)(d:OA)(K:KT)(e:World):Prop:=
 (bf prog 123 #[] e fun f g=>∃i:OA,f=.pointer i/\(∃cs:AV,(.agg a:Value)=.agg cs/\cs.size=32/\Cells g (aU w.heap.size) cs)/\(∃cs:AV,(.agg b:Value)=.agg cs/\cs.size=32/\Cells g (aU w.heap.size) cs)/\aw.N8 c b a w d i K g)/\(∃j:World,(Instr.mapUpdate 127 (.map (some c.heap.size)) (.agg b) (.int .i64 0)).run prog e=.ok () j/\(∃cs:AV,(.agg a:Value)=.agg cs/\cs.size=32/\Cells j (aU w.heap.size) cs)/\aw.MO a w d c K j)/\(a.size=32/\let k:=e.alloc (.cells (a.toList++ []).toArray 24);(∃cs:AV,(.agg b:Value)=.agg cs/\cs.size=32/\Cells k (aU w.heap.size) cs)/\aw.Rh b w c d e K k)/\(let m:=e.alloc (.map #[] 0);(∃cs:AV,(.agg a:Value)=.agg cs/\cs.size=32/\Cells m (aU w.heap.size) cs)/\(∃cs:AV,(.agg b:Value)=.agg cs/\cs.size=32/\Cells m (aU w.heap.size) cs)/\aw.F6 a w b c d e K m)
def aw.Jg(a:AV)(w:World)(b:OA)(c d:World)(K:KT)(e:World):Prop:=
 (bf prog 123 #[] e fun f g=>∃i:OA,f=.pointer i/\(∃cs:AV,(.agg a:Value)=.agg cs/\cs.size=32/\Cells g (aU w.heap.size) cs)/\aw.N9 a w b i c d K g)/\(let j:=e.alloc (.map #[] 0);(∃cs:AV,(.agg a:Value)=.agg cs/\cs.size=32/\Cells j (aU w.heap.size) cs)/\aw.MN a w e b c d K j)
def aw.MM(a:AV)(w:World)(b:OA)(c:World)(K:KT)(d:World):Prop:=
 (bf prog 123 #[] d fun e f=>∃g:OA,e=.pointer g/\(∃cs:AV,(.agg a:Value)=.agg cs/\cs.size=32/\Cells f (aU w.heap.size) cs)/\aw.MP a w b g c K f)/\(let i:=d.alloc (.map #[] 0);(∃cs:AV,(.agg a:Value)=.agg cs/\cs.size=32/\Cells i (aU w.heap.size) cs)/\aw.Rh a w d b c K i)/\(let j:=d.alloc (.map #[] 0);(∃cs:AV,(.agg a:Value)=.agg cs/\cs.size=32/\Cells j (aU w.heap.size) cs)/\aw.Jg a w b c d K j)
def aw.St(a:AV)(w:World)(b:AV)(c:OA)(d:World)(K:KT)(e:World):Prop:=
 (bf prog 123 #[] e fun f g=>∃i:OA,f=.pointer i/\(∃cs:AV,(.agg a:Value)=.agg cs/\cs.size=32/\Cells g (aU w.heap.size) cs)/\(∃cs:AV,(.agg b:Value)=.agg cs/\cs.size=32/\Cells g (aU w.heap.size) cs)/\aw.Su a w b c i d K g)/\(let j:=e.alloc (.map #[] 0);(∃cs:AV,(.agg a:Value)=.agg cs/\cs.size=32/\Cells j (aU w.heap.size) cs)/\(∃cs:AV,(.agg b:Value)=.agg cs/\cs.size=32/\Cells j (aU w.heap.size) cs)/\aw.F6 a w b e c d K j)/\(a.size=32/\let k:=e.alloc (.cells (a.toList++ []).toArray 24);(∃cs:AV,(.agg b:Value)=.agg cs/\cs.size=32/\Cells k (aU w.heap.size) cs)/\aw.Jg b w c e d K k)
def aw.Rg(a:AV)(w:World)(b:AV)(c:OA)(K:KT)(d:World):Prop:=
 (bf prog 123 #[] d fun e f=>∃g:OA,e=.pointer g/\(∃cs:AV,(.agg a:Value)=.agg cs/\cs.size=32/\Cells f (aU w.heap.size) cs)/\(∃cs:AV,(.agg b:Value)=.agg cs/\cs.size=32/\Cells f (aU w.heap.size) cs)/\aw.LU a w b c g K f)/\(let i:=d.alloc (.map #[] 0);(∃cs:AV,(.agg a:Value)=.agg cs/\cs.size=32/\Cells i (aU w.heap.size) cs)/\(∃cs:AV,(.agg b:Value)=.agg cs/\cs.size=32/\Cells i (aU w.heap.size) cs)/\aw.Jh a w b d c K i)/\(a.size=32/\let j:=d.alloc (.cells (a.toList++ []).toArray 24);(∃cs:AV,(.agg b:Value)=.agg cs/\cs.size=32/\Cells j (aU w.heap.size) cs)/\aw.MM b w c d K j)/\(let k:=d.alloc (.map #[] 0);(∃cs:AV,(.agg a:Value)=.agg cs/\cs.size=32/\Cells k (aU w.heap.size) cs)/\(∃cs:AV,(.agg b:Value)=.agg cs/\cs.size=32/\Cells k (aU w.heap.size) cs)/\aw.St a w b c d K k)
def aw.Rf(a:AV)(b c d:World)(K:KT)(e:World):Prop:=
 bf prog 122 #[.agg a] e fun f g=>∃i:OA,f=.pointer i/\aw.HV i b c d K g
def aw.Ss(a:AV)(b c w:World)(K:KT)(d:World):Prop:=
 (bf prog 122 #[.agg a] d fun e f=>∃g:OA,e=.pointer g/\aw.LS g b c K f)/\(let i:=d.alloc (.map #[] 0);(∃cs:AV,(.agg a:Value)=.agg cs/\cs.size=32/\Cells i (aU w.heap.size) cs)/\aw.Rf a b c d K i)
def aw.LR(a b:AV)(w c d:World)(K:KT)(e:World):Prop:=
 (bf prog 122 #[.agg a] e fun f g=>∃i:OA,f=.pointer i/\(∃cs:AV,(.agg b:Value)=.agg cs/\cs.size=32/\Cells g (aU w.heap.size) cs)/\aw.Ri b w i c d K g)/\(b.size=32/\let j:=e.alloc (.cells (b.toList++ []).toArray 24);(∃cs:AV,(.agg a:Value)=.agg cs/\cs.size=32/\Cells j (aU w.heap.size) cs)/\aw.Rf a c e d K j)
def aw.W8(a b:AV)(w c:World)(K:KT)(d:World):Prop:=
 (bf prog 122 #[.agg a] d fun e f=>∃g:OA,e=.pointer g/\(∃cs:AV,(.agg b:Value)=.agg cs/\cs.size=32/\Cells f (aU w.heap.size) cs)/\aw.MO b w g c K f)/\(b.size=32/\let i:=d.alloc (.cells (b.toList++ []).toArray 24);(∃cs:AV,(.agg a:Value)=.agg cs/\cs.size=32/\Cells i (aU w.heap.size) cs)/\aw.Ss a c d w K i)/\(let j:=d.alloc (.map #[] 0);(∃cs:AV,(.agg b:Value)=.agg cs/\cs.size=32/\Cells j (aU w.heap.size) cs)/\(∃cs:AV,(.agg a:Value)=.agg cs/\cs.size=32/\Cells j (aU w.heap.size) cs)/\aw.LR a b w c d K j)
def aw.Re(a b:AV)(w c d e:World)(K:KT)(f:World):Prop:=
 (bf prog 122 #[.agg a] f fun g i=>∃j:OA,g=.pointer j/\(∃cs:AV,(.agg b:Value)=.agg cs/\cs.size=32/\Cells i (aU w.heap.size) cs)/\aw.MN b w c j d e K i)/\(∃k:World,(Instr.mapUpdate 127 (.map (some c.heap.size)) (.agg b) (.int .i64 0)).run prog f=.ok () k/\(∃cs:AV,(.agg a:Value)=.agg cs/\cs.size=32/\Cells k (aU w.heap.size) cs)/\aw.Rf a c d e K k)
def aw.Sr(a b:AV)(w c d:World)(K:KT)(e:World):Prop:=
 (bf prog 122 #[.agg a] e fun f g=>∃i:OA,f=.pointer i/\(∃cs:AV,(.agg b:Value)=.agg cs/\cs.size=32/\Cells g (aU w.heap.size) cs)/\aw.Rh b w c i d K g)/\(∃j:World,(Instr.mapUpdate 127 (.map (some c.heap.size)) (.agg b) (.int .i64 0)).run prog e=.ok () j/\(∃cs:AV,(.agg a:Value)=.agg cs/\cs.size=32/\Cells j (aU w.heap.size) cs)/\aw.Ss a c d w K j)/\(let k:=e.alloc (.map #[] 0);(∃cs:AV,(.agg b:Value)=.agg cs/\cs.size=32/\Cells k (aU w.heap.size) cs)/\(∃cs:AV,(.agg a:Value)=.agg cs/\cs.size=32/\Cells k (aU w.heap.size) cs)/\aw.Re a b w c d e K k)
def aw.Sq(a b:AV)(w:World)(c:AV)(d e:World)(K:KT)(f:World):Prop:=
 (bf prog 122 #[.agg a] f fun g i=>∃j:OA,g=.pointer j/\(∃cs:AV,(.agg b:Value)=.agg cs/\cs.size=32/\Cells i (aU w.heap.size) cs)/\(∃cs:AV,(.agg c:Value)=.agg cs/\cs.size=32/\Cells i (aU w.heap.size) cs)/\aw.F6 b w c d j e K i)/\(∃k:World,(Instr.mapUpdate 127 (.map (some d.heap.size)) (.agg c) (.int .i64 0)).run prog f=.ok () k/\(∃cs:AV,(.agg b:Value)=.agg cs/\cs.size=32/\Cells k (aU w.heap.size) cs)/\(∃cs:AV,(.agg a:Value)=.agg cs/\cs.size=32/\Cells k (aU w.heap.size) cs)/\aw.LR a b w d e K k)/\(b.size=32/\let m:=f.alloc (.cells (b.toList++ []).toArray 24);(∃cs:AV,(.agg c:Value)=.agg cs/\cs.size=32/\Cells m (aU w.heap.size) cs)/\(∃cs:AV,(.agg a:Value)=.agg cs/\cs.size=32/\Cells m (aU w.heap.size) cs)/\aw.Re a c w d f e K m)
def aw.W7(a b:AV)(w:World)(c:AV)(d:World)(K:KT)(e:World):Prop:=
 (bf prog 122 #[.agg a] e fun f g=>∃i:OA,f=.pointer i/\(∃cs:AV,(.agg b:Value)=.agg cs/\cs.size=32/\Cells g (aU w.heap.size) cs)/\(∃cs:AV,(.agg c:Value)=.agg cs/\cs.size=32/\Cells g (aU w.heap.size) cs)/\aw.Jh b w c d i K g)/\(∃j:World,(Instr.mapUpdate 127 (.map (some d.heap.size)) (.agg c) (.int .i64 0)).run prog e=.ok () j/\(∃cs:AV,(.agg b:Value)=.agg cs/\cs.size=32/\Cells j (aU w.heap.size) cs)/\(∃cs:AV,(.agg a:Value)=.agg cs/\cs.size=32/\Cells j (aU w.heap.size) cs)/\aw.W8 a b w d K j)/\(b.size=32/\let k:=e.alloc (.cells (b.toList++ []).toArray 24);(∃cs:AV,(.agg c:Value)=.agg cs/\cs.size=32/\Cells k (aU w.heap.size) cs)/\(∃cs:AV,(.agg a:Value)=.agg cs/\cs.size=32/\Cells k (aU w.heap.size) cs)/\aw.Sr a c w d e K k)/\(let m:=e.alloc (.map #[] 0);(∃cs:AV,(.agg b:Value)=.agg cs/\cs.size=32/\Cells m (aU w.heap.size) cs)/\(∃cs:AV,(.agg c:Value)=.agg cs/\cs.size=32/\Cells m (aU w.heap.size) cs)/\(∃cs:AV,(.agg a:Value)=.agg cs/\cs.size=32/\Cells m (aU w.heap.size) cs)/\aw.Sq a b w c d e K m)
def aw.Sp(a b:AV)(w c d:World)(K:KT)(e:World):Prop:=
 (bf prog 122 #[.agg a] e fun f g=>∃i:OA,f=.pointer i/\(∃cs:AV,(.agg b:Value)=.agg cs/\cs.size=32/\Cells g (aU w.heap.size) cs)/\aw.Jg b w i c d K g)/\(let j:=e.alloc (.map #[] 0);(∃cs:AV,(.agg b:Value)=.agg cs/\cs.size=32/\Cells j (aU w.heap.size) cs)/\(∃cs:AV,(.agg a:Value)=.agg cs/\cs.size=32/\Cells j (aU w.heap.size) cs)/\aw.Re a b w e c d K j)
def aw.W6(a b:AV)(w c:World)(K:KT)(d:World):Prop:=
 (bf prog 122 #[.agg a] d fun e f=>∃g:OA,e=.pointer g/\(∃cs:AV,(.agg b:Value)=.agg cs/\cs.size=32/\Cells f (aU w.heap.size) cs)/\aw.MM b w g c K f)/\(let i:=d.alloc (.map #[] 0);(∃cs:AV,(.agg b:Value)=.agg cs/\cs.size=32/\Cells i (aU w.heap.size) cs)/\(∃cs:AV,(.agg a:Value)=.agg cs/\cs.size=32/\Cells i (aU w.heap.size) cs)/\aw.Sr a b w d c K i)/\(let j:=d.alloc (.map #[] 0);(∃cs:AV,(.agg b:Value)=.agg cs/\cs.size=32/\Cells j (aU w.heap.size) cs)/\(∃cs:AV,(.agg a:Value)=.agg cs/\cs.size=32/\Cells j (aU w.heap.size) cs)/\aw.Sp a b w c d K j)
def aw.W5(a b:AV)(w:World)(c:AV)(d:World)(K:KT)(e:World):Prop:=
 (bf prog 122 #[.agg a] e fun f g=>∃i:OA,f=.pointer i/\(∃cs:AV,(.agg b:Value)=.agg cs/\cs.size=32/\Cells g (aU w.heap.size) cs)/\(∃cs:AV,(.agg c:Value)=.agg cs/\cs.size=32/\Cells g (aU w.heap.size) cs)/\aw.St b w c i d K g)/\(let j:=e.alloc (.map #[] 0);(∃cs:AV,(.agg b:Value)=.agg cs/\cs.size=32/\Cells j (aU w.heap.size) cs)/\(∃cs:AV,(.agg c:Value)=.agg cs/\cs.size=32/\Cells j (aU w.heap.size) cs)/\(∃cs:AV,(.agg a:Value)=.agg cs/\cs.size=32/\Cells j (aU w.heap.size) cs)/\aw.Sq a b w c e d K j)/\(b.size=32/\let k:=e.alloc (.cells (b.toList++ []).toArray 24);(∃cs:AV,(.agg c:Value)=.agg cs/\cs.size=32/\Cells k (aU w.heap.size) cs)/\(∃cs:AV,(.agg a:Value)=.agg cs/\cs.size=32/\Cells k (aU w.heap.size) cs)/\aw.Sp a c w e d K k)
def aw.W4(a b:AV)(w:World)(c:AV)(K:KT)(d:World):Prop:=
 (bf prog 122 #[.agg a] d fun e f=>∃g:OA,e=.pointer g/\(∃cs:AV,(.agg b:Value)=.agg cs/\cs.size=32/\Cells f (aU w.heap.size) cs)/\(∃cs:AV,(.agg c:Value)=.agg cs/\cs.size=32/\Cells f (aU w.heap.size) cs)/\aw.Rg b w c g K f)/\(let i:=d.alloc (.map #[] 0);(∃cs:AV,(.agg b:Value)=.agg cs/\cs.size=32/\Cells i (aU w.heap.size) cs)/\(∃cs:AV,(.agg c:Value)=.agg cs/\cs.size=32/\Cells i (aU w.heap.size) cs)/\(∃cs:AV,(.agg a:Value)=.agg cs/\cs.size=32/\Cells i (aU w.heap.size) cs)/\aw.W7 a b w c d K i)/\(b.size=32/\let j:=d.alloc (.cells (b.toList++ []).toArray 24);(∃cs:AV,(.agg c:Value)=.agg cs/\cs.size=32/\Cells j (aU w.heap.size) cs)/\(∃cs:AV,(.agg a:Value)=.agg cs/\cs.size=32/\Cells j (aU w.heap.size) cs)/\aw.W6 a c w d K j)/\(let k:=d.alloc (.map #[] 0);(∃cs:AV,(.agg b:Value)=.agg cs/\cs.size=32/\Cells k (aU w.heap.size) cs)/\(∃cs:AV,(.agg c:Value)=.agg cs/\cs.size=32/\Cells k (aU w.heap.size) cs)/\(∃cs:AV,(.agg a:Value)=.agg cs/\cs.size=32/\Cells k (aU w.heap.size) cs)/\aw.W5 a b w c d K k)
section
variable(a:AV)(K:KT)(w:World)
def aw.W:Prop:=
 let b:=w.alloc (.cells a 24);let d:=b.drew;∃e:AV,(e.size=32/\Cells d (aU w.heap.size) e)/\∃f:AV,(f.size=32/\Cells d (aU w.heap.size) f)/\∃g:AV,(g.size=32/\Cells d (aU w.heap.size) g)/\aw.W4 e g w f K d
variable{a K w}
theorem aw.of(h:aw.W a K w):bf prog 86 #[.agg a] w K:=
 rqq func86 (C:=aw.k) h
end
def dU.k:List Nat:= []
section
variable(a b:OA)(d e:Nat)(K:KT)(w:World)
def dU.W:Prop:=
 let f:=w.alloc (.cells (#[.pointer a]:AV) 62);∃g:OA,f.cell? (aU w.heap.size)=some (.pointer g)/\bf prog 117 #[.pointer g] f fun i j=>∃k:Bool,i=.bool k/\Split k (bf prog 68 #[.slice b d e,.func (.func 125) #[] #[.pointer (some (aU w.heap.size))]] j fun m n=>∃o:Bool,m=.bool o/\K (.bool (!o)) n) (K (.bool false) j)
variable{a b d e K w}
theorem dU.of(h:dU.W a b d e K w):bf prog 94 #[.pointer a,.slice b d e] w K:=
 rqq func94 (C:=dU.k) h
end
def dr.k:List Nat:= []
section
variable(a:OA)(b d:AV)(K:KT)(w:World)
def dr.W:Prop:=
 let e:=w.alloc (.cells b 24);let f:=e.alloc (.cells d 24);let g:=f.drew;∃i:AV,(i.size=32/\Cells g (aU w.heap.size) i)/\∃j:AV,(j.size=32/\Cells g (aU e.heap.size) j)/\i.size=32/\j.size=32/\let k:=g.alloc (.cells (i.toList++(j.toList++([]))).toArray 24);bf prog 94 #[.pointer a,.slice (some (aU g.heap.size)) 2 2] k fun m n=>∃o:Bool,m=.bool o/\Split o (Is a fun p:Addr=>∃q:OA,n.cell? (p.add 1)=some (.pointer q)/\Is a fun r:Addr=>∃t:Option Nat,n.cell? (r.add 2)=some (.map t)/\∃u:AV,(u.size=32/\Cells n (aU e.heap.size) u)/\∃v:Int,(Instr.lookup 127 (.map t) (.agg u) false).run prog n=.ok (.int .i64 v) n/\Is a fun x:Addr=>∃y:Option Nat,n.cell? (x.add 2)=some (.map y)/\∃z:AV,(z.size=32/\Cells n (aU w.heap.size) z)/\∃a1:Int,(Instr.lookup 127 (.map y) (.agg z) false).run prog n=.ok (.int .i64 a1) n/\bf prog 126 #[.pointer q,.int .i64 v,.int .i64 a1] n fun b1 c1=>∃d1:Bool,b1=.bool d1/\K (.bool d1) c1) (K (.bool false) n)
variable{a b d K w}
theorem dr.of(h:dr.W a b d K w):bf prog 95 #[.pointer a,.agg b,.agg d] w K:=
 rqq func95 (C:=dr.k) h
end
def cr.k:List Nat:= []
section
variable(a:AV)(b d:Addr)(K:KT)(w:World)
def cr.W:Prop:=
 let e:=w.alloc (.cells a 24);∃f:OA,e.cell? b=some (.pointer f)/\∃g:AV,(g.size=32/\Cells e (aU w.heap.size) g)/\∃i:AV,(i.size=32/\Cells e d i)/\bf prog 95 #[.pointer f,.agg g,.agg i] e fun j k=>∃m:Bool,j=.bool m/\K (.bool m) k
variable{a b d K w}
theorem cr.of(h:cr.W a b d K w):bf prog 96 #[.agg a,.pointer (some b),.pointer (some d)] w K:=
 rqq func96 (C:=cr.k) h
end
def eK.k:List Nat:= []
section
variable(a:OA)(b:AV)(K:KT)(w:World)
def eK.W:Prop:=
 let d:=w.alloc (.cells (#[.pointer a]:AV) 62);let e:=d.alloc (.cells b 24);K (.func (.func 141) #[] #[.pointer (some (aU w.heap.size)),.pointer (some (aU d.heap.size))]) e
variable{a b K w}
theorem eK.of(h:eK.W a b K w):bf prog 109 #[.pointer a,.agg b] w K:=
 rqq func109 (C:=eK.k) h
end
def dM.k:List Nat:= []
section
variable(a:OA)(K:KT)(w:World)
def dM.W:Prop:=
 Split (!(a).isNone) (Is a fun b:Addr=>∃d:OA,w.cell? (b.add 0)=some (.pointer d)/\K (.bool (!(d).isNone)) w) (K (.bool false) w)
variable{a K w}
theorem dM.of(h:dM.W a K w):bf prog 117 #[.pointer a] w K:=
 rqq func117 (C:=dM.k) h
end
def cM.k:List Nat:= []
section
variable(a:OA)(b d:Nat)(K:KT)(w:World)
def cM.W:Prop:=
 (0<=(b:Int)/\(b:Int)<=(d:Int))/\(0<=(b:Int)/\(b:Int)<=((b:Int).toNat:Int))/\K (.slice (if(b:Int).toNat=0 then a else a.map (·.add (0*32))) ((b:Int).toNat -0) ((b:Int).toNat -0)) w
variable{a b d K w}
theorem cM.of(h:cM.W a b d K w):bf prog 119 #[.slice a b d] w K:=
 rqq func119 (C:=cM.k) h
end
def cW.k:List Nat:= []
section
variable(a:AV)(b:Addr)(K:KT)(w:World)
def cW.W:Prop:=
 let d:=w.alloc (.cells a 24);let e:=d.drew;∃f:OA,e.cell? b=some (.pointer f)/\Is f fun g:Addr=>∃i:OA,e.cell? (g.add 0)=some (.pointer i)/\∃j:AV,(j.size=32/\Cells e (aU w.heap.size) j)/\bf prog 47 #[.pointer i,.agg j] e fun k m=>∃n:Bool,k=.bool n/\K (.bool (!n)) m
variable{a b K w}
theorem cW.of(h:cW.W a b K w):bf prog 125 #[.agg a,.pointer (some b)] w K:=
 rqq func125 (C:=cW.k) h
end
def bN.k:List Nat:= []
section
variable(a:OA)(b d:Nat)(e:Addr)(K:KT)(w:World)
def bN.W:Prop:=
 bf prog 91 #[.slice a b d,.func (.func 125) #[] #[.pointer (some e)]] w fun f g=>∃i:Int,f=.int .i64 i/\K (.bool (decide (i>=(0:Int)))) g
variable{a b d e K w}
theorem bN.of(h:bN.W a b d e K w):bf prog 68 #[.slice a b d,.func (.func 125) #[] #[.pointer (some e)]] w K:=
 rqq func68 (C:=bN.k) h
end
def bJ.k:List Nat:= []
section
variable(a:OA)(b d:Nat)(e f:Addr)(K:KT)(w:World)
def bJ.W:Prop:=
 bf prog 91 #[.slice a b d,.func (.func 96) #[] #[.pointer (some e),.pointer (some f)]] w fun g i=>∃j:Int,g=.int .i64 j/\K (.bool (decide (j>=(0:Int)))) i
variable{a b d e f K w}
theorem bJ.of(h:bJ.W a b d e f K w):bf prog 68 #[.slice a b d,.func (.func 96) #[] #[.pointer (some e),.pointer (some f)]] w K:=
 rqq func68 (C:=bJ.k) h
end
def ar.k:List Nat:= []
def ar.q1(K:KT):aM:=(aP 0 (ct (aZ (body f91))++(aW f91)) (b6 (fun cf w_=>match cutAt ar.k (aZ (body f91))with|true=>Holds none [] prog 19 (aZ (body f91)) (bV prog f91 K) cf w_|false=>a8 none [] prog 19 ar.k (aZ (body f91)) (aW f91) (bV prog f91 K) cf w_) (bV prog f91 K)))
def ar.e1(a:OA)(b c:Nat)(d:Addr)(e:Int)(s:Int×Int):Env:= [(0,.slice a b c),(1,.func (.func 125) #[] #[.pointer (some d)]),(4,.int .i64 s.1),(7,.int .i64 e),(8,.int .i64 s.2)]
def ar.u1:List Nat:= [0,1,4,7,8]
section
variable(a:OA)(b d:Nat)(e:Addr)(K:KT)(w:World)
def ar.W:Prop:=
 Holds none [] prog 19 (.loop (lB (bB (sR (sL (sR (body f91))))))) (ar.q1 K) [(0,.slice a b d),(1,.func (.func 125) #[] #[.pointer (some e)]),(4,.int .i64 0),(7,.int .i64 (b:Int)),(8,.int .i64 0)] w
variable{a b d e K w}
theorem ar.of(h:ar.W a b d e K w):bf prog 91 #[.slice a b d,.func (.func 125) #[] #[.pointer (some e)]] w K:=
 rqq func91 (C:=ar.k) h
end
section
variable(a:OA)(b c:Nat)(d:Addr)(e f g:Int)(Q:aM)(w:World)
def ar.B1:Prop:=
 Split (decide (g<f)) ((0<=g/\g<(b:Int))/\Is a fun i:Addr=>∃j:AV,(j.size=32/\Cells w (i.add (g.toNat*32)) j)/\bf prog 125 #[.agg j,.pointer (some d)] w fun k m=>∃n:Bool,k=.bool n/\Split n (Q .ret [(0,.slice a b c),(1,.func (.func 125) #[] #[.pointer (some d)]),(4,.int .i64 g),(7,.int .i64 f),(8,.int .i64 g)] m) (Q .normal [(0,.slice a b c),(1,.func (.func 125) #[] #[.pointer (some d)]),(4,.int .i64 e),(7,.int .i64 f),(8,.int .i64 (i64.wrap (g+(1:Int))))] m)) (Q (.exit 0) [(0,.slice a b c),(1,.func (.func 125) #[] #[.pointer (some d)]),(4,.int .i64 e),(7,.int .i64 f),(8,.int .i64 g)] w)
theorem ar.b1:(a8 none [] prog 19 ar.k (lB (bB (sR (sL (sR (body f91)))))) ar.u1 Q [(0,.slice a b c),(1,.func (.func 125) #[] #[.pointer (some d)]),(4,.int .i64 e),(7,.int .i64 f),(8,.int .i64 g)] w)=ar.B1 a b c d e f g Q w:=by kernel_rfl
variable{a b c d f}
theorem ar.b9(I:Int×Int->World->Prop)(μ:Int×Int->World->Nat)(s:Int×Int){Q:aM}{w:World}(h0:I s w)
 (round:∀s w,I s w->ar.B1 a b c d (s.1) f (s.2) (bS (ar.e1 a b c d f) I μ s w Q) w):Holds none [] prog 19 (.loop (lB (bB (sR (sL (sR (body f91))))))) Q (ar.e1 a b c d f s) w:=
 br ng mix (ar.e1 a b c d f) I μ ar.k ar.u1 s (fun s Q w=>ar.B1 a b c d (s.1) f (s.2) Q w) (fun s Q w=>ar.b1 a b c d (s.1) f (s.2) Q w) h0 round
end
section
def ar.cU(a:OA)(b c:Nat)(d:Addr)(e f g:Int)(K:KT)(w:World):Prop:=
 K (.int .i64 (-1)) w
variable(a:OA)(b c:Nat)(d:Addr)(e f g:Int)(K:KT)(w:World)
theorem ar.dw:(ar.q1 K (.exit 0) [(0,.slice a b c),(1,.func (.func 125) #[] #[.pointer (some d)]),(4,.int .i64 e),(7,.int .i64 f),(8,.int .i64 g)] w)=ar.cU a b c d e f g K w:=by kernel_rfl
end
def al.k:List Nat:= []
def al.q1(K:KT):aM:=(aP 0 (ct (aZ (body f91))++(aW f91)) (b6 (fun cf w_=>match cutAt al.k (aZ (body f91))with|true=>Holds none [] prog 19 (aZ (body f91)) (bV prog f91 K) cf w_|false=>a8 none [] prog 19 al.k (aZ (body f91)) (aW f91) (bV prog f91 K) cf w_) (bV prog f91 K)))
def al.e1(a:OA)(b c:Nat)(d e:Addr)(f:Int)(s:Int×Int):Env:= [(0,.slice a b c),(1,.func (.func 96) #[] #[.pointer (some d),.pointer (some e)]),(4,.int .i64 s.1),(7,.int .i64 f),(8,.int .i64 s.2)]
def al.u1:List Nat:= [0,1,4,7,8]
section
variable(a:OA)(b d:Nat)(e f:Addr)(K:KT)(w:World)
def al.W:Prop:=
 Holds none [] prog 19 (.loop (lB (bB (sR (sL (sR (body f91))))))) (al.q1 K) [(0,.slice a b d),(1,.func (.func 96) #[] #[.pointer (some e),.pointer (some f)]),(4,.int .i64 0),(7,.int .i64 (b:Int)),(8,.int .i64 0)] w
variable{a b d e f K w}
theorem al.of(h:al.W a b d e f K w):bf prog 91 #[.slice a b d,.func (.func 96) #[] #[.pointer (some e),.pointer (some f)]] w K:=
 rqq func91 (C:=al.k) h
end
section
variable(a:OA)(b c:Nat)(d e:Addr)(f g i:Int)(Q:aM)(w:World)
def al.B1:Prop:=
 Split (decide (i<g)) ((0<=i/\i<(b:Int))/\Is a fun j:Addr=>∃k:AV,(k.size=32/\Cells w (j.add (i.toNat*32)) k)/\bf prog 96 #[.agg k,.pointer (some d),.pointer (some e)] w fun m n=>∃o:Bool,m=.bool o/\Split o (Q .ret [(0,.slice a b c),(1,.func (.func 96) #[] #[.pointer (some d),.pointer (some e)]),(4,.int .i64 i),(7,.int .i64 g),(8,.int .i64 i)] n) (Q .normal [(0,.slice a b c),(1,.func (.func 96) #[] #[.pointer (some d),.pointer (some e)]),(4,.int .i64 f),(7,.int .i64 g),(8,.int .i64 (i64.wrap (i+(1:Int))))] n)) (Q (.exit 0) [(0,.slice a b c),(1,.func (.func 96) #[] #[.pointer (some d),.pointer (some e)]),(4,.int .i64 f),(7,.int .i64 g),(8,.int .i64 i)] w)
theorem al.b1:(a8 none [] prog 19 al.k (lB (bB (sR (sL (sR (body f91)))))) al.u1 Q [(0,.slice a b c),(1,.func (.func 96) #[] #[.pointer (some d),.pointer (some e)]),(4,.int .i64 f),(7,.int .i64 g),(8,.int .i64 i)] w)=al.B1 a b c d e f g i Q w:=by kernel_rfl
variable{a b c d e g}
theorem al.b9(I:Int×Int->World->Prop)(μ:Int×Int->World->Nat)(s:Int×Int){Q:aM}{w:World}(h0:I s w)
 (round:∀s w,I s w->al.B1 a b c d e (s.1) g (s.2) (bS (al.e1 a b c d e g) I μ s w Q) w):Holds none [] prog 19 (.loop (lB (bB (sR (sL (sR (body f91))))))) Q (al.e1 a b c d e g s) w:=
 br ng mix (al.e1 a b c d e g) I μ al.k al.u1 s (fun s Q w=>al.B1 a b c d e (s.1) g (s.2) Q w) (fun s Q w=>al.b1 a b c d e (s.1) g (s.2) Q w) h0 round
end
section
def al.cU(a:OA)(b c:Nat)(d e:Addr)(f g i:Int)(K:KT)(w:World):Prop:=
 K (.int .i64 (-1)) w
variable(a:OA)(b c:Nat)(d e:Addr)(f g i:Int)(K:KT)(w:World)
theorem al.dw:(al.q1 K (.exit 0) [(0,.slice a b c),(1,.func (.func 96) #[] #[.pointer (some d),.pointer (some e)]),(4,.int .i64 f),(7,.int .i64 g),(8,.int .i64 i)] w)=al.cU a b c d e f g i K w:=by kernel_rfl
end
def aQ.k:List Nat:= []
def aQ.q1(K:KT):aM:=(aP 0 (aW f141) (bV prog f141 K))
def aQ.e1(a:Nat)(b:Addr)(s:Int):Env:= [(0,.func (.yield a) #[] #[]),(1,.pointer (some b)),(4,.int .i64 s)]
def aQ.u1:List Nat:= [0,1,4]
section
variable(a:Nat)(b d:Addr)(K:KT)(w:World)
def aQ.W:Prop:=
 ∃e:OA,w.cell? b=some (.pointer e)/\∃f:AV,(f.size=32/\Cells w d f)/\f.size=32/\let g:=w.alloc (.cells (f.toList++ []).toArray 24);bf prog 94 #[.pointer e,.slice (some (aU w.heap.size)) 1 1] g fun i j=>∃k:Bool,i=.bool k/\Split (!k) (K (.tuple #[]) j) (let m:=j.drew;∃n:OA,m.cell? b=some (.pointer n)/\Is n fun o:Addr=>∃p:Option Nat,m.cell? (o.add 2)=some (.map p)/\∃q:AV,(q.size=32/\Cells m d q)/\∃r:Int,(Instr.lookup 127 (.map p) (.agg q) false).run prog m=.ok (.int .i64 r) m/\Holds none [] prog 38 (.loop (lB (bB (aZ (body f141))))) (aQ.q1 K) [(0,.func (.yield a) #[] #[]),(1,.pointer (some b)),(4,.int .i64 r)] m)
variable{a b d K w}
theorem aQ.of(h:aQ.W a b d K w):bf prog 141 #[.func (.yield a) #[] #[],.pointer (some b),.pointer (some d)] w K:=
 rqq func141 (C:=aQ.k) h
end
section
variable(a:Nat)(b:Addr)(c:Int)(Q:aM)(w:World)
def aQ.B1:Prop:=
 ∃d:OA,w.cell? b=some (.pointer d)/\Is d fun e:Addr=>∃f:OA,∃g i:Nat,w.cell? (e.add 3)=some (.slice f g i)/\(0<=c/\c<(g:Int))/\Is f fun j:Addr=>∃k:AV,(k.size=32/\Cells w (j.add (c.toNat*32)) k)/\jt prog a #[.agg k] w fun m n=>Split m (Split (decide (c>(0:Int))) (∃o:OA,n.cell? b=some (.pointer o)/\Is o fun p:Addr=>∃q:OA,n.cell? (p.add 1)=some (.pointer q)/\bf prog 142 #[.pointer q,.int .i64 c] n fun r t=>∃u v:Int,r=.tuple #[.int .i64 u,.int .i64 v]/\Q .normal [(0,.func (.yield a) #[] #[]),(1,.pointer (some b)),(4,.int .i64 u)] t) (Q (.exit 0) [(0,.func (.yield a) #[] #[]),(1,.pointer (some b)),(4,.int .i64 c)] n)) (Q (.exit 0) [(0,.func (.yield a) #[] #[]),(1,.pointer (some b)),(4,.int .i64 c)] n)
theorem aQ.b1:(a8 none [] prog 38 aQ.k (lB (bB (aZ (body f141)))) aQ.u1 Q [(0,.func (.yield a) #[] #[]),(1,.pointer (some b)),(4,.int .i64 c)] w)=aQ.B1 a b c Q w:=by kernel_rfl
variable{a b}
theorem aQ.b9(I:Int->World->Prop)(μ:Int->World->Nat)(s:Int){Q:aM}{w:World}(h0:I s w)
 (round:∀s w,I s w->aQ.B1 a b s (bS (aQ.e1 a b) I μ s w Q) w):Holds none [] prog 38 (.loop (lB (bB (aZ (body f141))))) Q (aQ.e1 a b s) w:=
 br ng mix (aQ.e1 a b) I μ aQ.k aQ.u1 s (fun s Q w=>aQ.B1 a b s Q w) (fun s Q w=>aQ.b1 a b s Q w) h0 round
end
section
def aQ.cU(a:Nat)(b:Addr)(c:Int)(K:KT)(w:World):Prop:=
 K (.tuple #[]) w
variable(a:Nat)(b:Addr)(c:Int)(K:KT)(w:World)
theorem aQ.dw:(aQ.q1 K (.exit 0) [(0,.func (.yield a) #[] #[]),(1,.pointer (some b)),(4,.int .i64 c)] w)=aQ.cU a b c K w:=by kernel_rfl
end
end Go.Proofs.YtfleamccglihoaaGreatDoor
