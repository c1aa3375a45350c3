import Derived.Test.YtfleamccglihoaaGreatDoorProg
import Derived.Test.YtfleamccglihoaaGreatDoorMA
import Derived.Test.YtfleamccglihoaaGreatDoorMB
open Go.IntKind (i64 u64)
set_option linter.unusedVariables false
namespace Go.Proofs.YtfleamccglihoaaGreatDoor
open Go.Proofs.Tryz
open Go Go.cF
def gB.k:List Nat:= []
section
variable(a:OA)(K:KT)(w:World)
def gB.W:Prop:=
 Split ((a).isNone) (K (au none) w) (Is a λb:Addr=>∃d:OA,w.cell? (b.add 0)=some (au d)/\K (au d) w)
variable{a K w}
theorem gB.of(h:gB.W a K w):bJ prog 46 #[au a] w K:=
 rqq func46 (C:=gB.k) h
end
def fu.k:List Nat:= []
section
variable(a:OA)(b d:AV)(K:KT)(w:World)
def fu.W:Prop:=
 let e:=w.alloc (.cells (#[au a]:AV) 62);let f:=e.alloc (.cells b 24);let g:=f.alloc (.cells d 24);∃i:OA,g.cell? (aU w.heap.size)=some (au i)/\∃j:AV,cS g (aU e.heap.size) j/\∃k:AV,cS g (aU f.heap.size) k/\j.size=32/\k.size=32/\let m:=g.alloc (.cells (j.toList++(k.toList++([]))).toArray 24);bJ prog 94 #[au i,ao (some (aU g.heap.size)) 2 2] m λn o=>∃p:Bool,n=.bool p/\Split (!p) (K (.bool false) o) (∃q:AV,cS o (aU e.heap.size) q/\∃r:AV,cS o (aU f.heap.size) r/\(dT .u8 32 q/\dT .u8 32 r)/\Split (eR q r) (K (.bool false) o) (let t:=o.drew;∃u:OA,t.cell? (aU w.heap.size)=some (au u)/\∃v:AV,cS t (aU e.heap.size) v/\∃x:AV,cS t (aU f.heap.size) x/\bJ prog 95 #[au u,.agg v,.agg x] t λy z=>∃a1:Bool,y=.bool a1/\Split a1 (K (.bool true) z) (∃b1:OA,z.cell? (aU w.heap.size)=some (au b1)/\Is b1 λc1:Addr=>∃d1:Option Nat,z.cell? (c1.add 4)=some (.map d1)/\∃e1:AV,cS z (aU e.heap.size) e1/\∃f1:OA,∃g1 i1:Nat,(Instr.lookup 135 (.map d1) (.agg e1) false).run prog z=.ok (ao f1 g1 i1) z/\bJ prog 68 #[ao f1 g1 i1,.func (.func 96) #[] #[au (some (aU w.heap.size)),au (some (aU f.heap.size))]] z λj1 k1=>∃m1:Bool,j1=.bool m1/\K (.bool m1) k1)))
variable{a b d K w}
theorem fu.of(h:fu.W a b d K w):bJ prog 51 #[au a,.agg b,.agg d] w K:=
 rqq func51 (C:=fu.k) h
end
def br.k:List Nat:= []
def br.q1(K:KT):aZ:=(aW 0 (dd (bf (body f79))++(bn f79)) (cH (λcM w_=>match cutAt br.k (bf (body f79))with|true=>cO 19 (bf (body f79)) (cy prog f79 K) cM w_|false=>bz none [] prog 19 br.k (bf (body f79)) (bn f79) (cy prog f79 K) cM w_) (cy prog f79 K)))
def br.e1(a:OA)(b c:Nat)(d:Addr)(e:Int)(s:Int×Int):Env:= [(0,ao a b c),(3,au (some d)),(4,ag s.1),(7,ag e),(8,ag s.2)]
def br.u1:List Nat:= [0,3,4,7,8]
section
variable(a:OA)(b d:Nat)(e:AV)(K:KT)(w:World)
def br.W:Prop:=
 let f:=w.alloc (.cells e 24);cO 19 (.loop (lB (bB (sR (sL (sR (body f79))))))) (br.q1 K) [(0,ao a b d),(3,au (some (aU w.heap.size))),(4,ag 0),(7,ag (b:Int)),(8,ag 0)] f
variable{a b d e K w}
theorem br.of(h:br.W a b d e K w):bJ prog 79 #[ao a b d,.agg e] w K:=
 rqq func79 (C:=br.k) h
end
section
variable(a:OA)(b c:Nat)(d:Addr)(e f g:Int)(Q:aZ)(w:World)
def br.B1:Prop:=
 Split (decide (g<f)) (let i:=w.drew;∃j:AV,cS i d j/\(0<=g/\g<(b:Int))/\Is a λk:Addr=>∃m:AV,cS i (k.add (g.toNat*32)) m/\(dT .u8 32 j/\dT .u8 32 m)/\Split (eR j m) (Q .ret [(0,ao a b c),(3,au (some d)),(4,ag g),(7,ag f),(8,ag g)] i) (Q .normal [(0,ao a b c),(3,au (some d)),(4,ag e),(7,ag f),(8,ag (i64.wrap (g+(1:Int))))] i)) (Q (.exit 0) [(0,ao a b c),(3,au (some d)),(4,ag e),(7,ag f),(8,ag g)] w)
theorem br.b1:(bz none [] prog 19 br.k (lB (bB (sR (sL (sR (body f79)))))) br.u1 Q [(0,ao a b c),(3,au (some d)),(4,ag e),(7,ag f),(8,ag g)] w)=br.B1 a b c d e f g Q w:=by kernel_rfl
variable{a b c d f}
theorem br.cP(I:Int×Int->World->Prop)(μ:Int×Int->World->Nat)(s:Int×Int){Q:aZ}{w:World}(h0:I s w)
 (round:∀s w,I s w->br.B1 a b c d (s.1) f (s.2) (b7 (br.e1 a b c d f) I μ s w Q) w):cO 19 (.loop (lB (bB (sR (sL (sR (body f79))))))) Q (br.e1 a b c d f s) w:=
 bI ng mix (br.e1 a b c d f) I μ br.k br.u1 s (λs Q w=>br.B1 a b c d (s.1) f (s.2) Q w) (λs Q w=>br.b1 a b c d (s.1) f (s.2) Q w) h0 round
end
section
def br.dA(a:OA)(b c:Nat)(d:Addr)(e f g:Int)(K:KT)(w:World):Prop:=
 K (ag (-1)) w
variable(a:OA)(b c:Nat)(d:Addr)(e f g:Int)(K:KT)(w:World)
theorem br.dJ:(br.q1 K (.exit 0) [(0,ao a b c),(3,au (some d)),(4,ag e),(7,ag f),(8,ag g)] w)=br.dA a b c d e f g K w:=by kernel_rfl
end
def dC.k:List Nat:= []
section
variable(a:OA)(b d:Nat)(e:AV)(K:KT)(w:World)
def dC.W:Prop:=
 let f:=w.alloc (.cells e 24);∃g:AV,cS f (aU w.heap.size) g/\bJ prog 79 #[ao a b d,.agg g] f λi j=>∃k:Int,i=ag k/\K (.bool (decide (k>=(0:Int)))) j
variable{a b d e K w}
theorem dC.of(h:dC.W a b d e K w):bJ prog 80 #[ao a b d,.agg e] w K:=
 rqq func80 (C:=dC.k) h
end
def aP.k:List Nat:= []
def aP.q1(K:KT):aZ:=(aW 1 (dd (dc (bf (body f84)))++(bn f84)) (cH (λcM w_=>match cutAt aP.k (dc (bf (body f84)))with|true=>cO 131 (dc (bf (body f84))) (cy prog f84 K) cM w_|false=>bz none [] prog 131 aP.k (dc (bf (body f84))) (bn f84) (cy prog f84 K) cM w_) (cy prog f84 K)))
def aP.e1(a b:OA)(c d:Nat)(e f:Addr)(g:Int)(i:OA)(j:Option Nat)(k:OA)(m n:Nat)(o s:Int):Env:= [(0,au a),(3,ao b c d),(5,au (some e)),(6,au (some f)),(8,ag g),(9,au i),(10,.map j),(57,ao k m n),(58,ag o),(59,ag s)]
def aP.u1:List Nat:= [0,3,5,6,8,9,10,57,58,59]
def aP.q2(K:KT):aZ:=(aW 3 (dd (gR (body f84))++(bn f84)) (cH (λcM w_=>match cutAt aP.k (gR (body f84))with|true=>cO 131 (gR (body f84)) (cy prog f84 K) cM w_|false=>bz none [] prog 131 aP.k (gR (body f84)) (bn f84) (cy prog f84 K) cM w_) (cy prog f84 K)))
def aP.e2(a:OA)(b c:Addr)(d:Int)(e:Option Nat)(f:OA)(g i:Nat)(j s:Int):Env:= [(0,au a),(5,au (some b)),(6,au (some c)),(8,ag d),(10,.map e),(74,ao f g i),(75,ag j),(76,ag s)]
def aP.u2:List Nat:= [0,5,6,8,10,74,75,76]
section
variable(a:OA)(b d:AV)(e:OA)(f g:Nat)(K:KT)(w:World)
def aP.W:Prop:=
 let i:=w.alloc (.cells b 24);let j:=i.alloc (.cells d 24);bJ prog 117 #[au a] j λk m=>∃n:Bool,k=.bool n/\Split (!n) (K (ag 1) m) (Is a λo:Addr=>∃p:OA,m.cell? (o.add 0)=some (au p)/\∃q:AV,cS m (aU w.heap.size) q/\bJ prog 47 #[au p,.agg q] m λr t=>∃u:Bool,r=.bool u/\Split u (K (ag 7) t) (Split ((f:Int)==(0:Int)) (K (ag 9) t) (bJ prog 57 #[ao e f g] t λv x=>∃y:OA,∃z a1:Nat,v=ao y z a1/\Split ((z:Int) != (f:Int)) (K (ag 9) x) (bJ prog 94 #[au a,ao e f g] x λb1 c1=>∃d1:Bool,b1=.bool d1/\Split (!d1) (K (ag 6) c1) (∃e1:AV,cS c1 (aU i.heap.size) e1/\bJ prog 80 #[ao e f g,.agg e1] c1 λf1 g1=>∃i1:Bool,f1=.bool i1/\Split (!i1) (K (ag 2) g1) (let j1:=g1.alloc (.map #[] 0);∃k1:AV,cS j1 (aU i.heap.size) k1/\∃m1:World,(Instr.mapUpdate 164 (.map (some g1.heap.size)) (.agg k1) (.agg #[.bool true])).run prog j1=.ok () m1/\∃n1:AV,cS m1 (aU i.heap.size) n1/\n1.size=32/\let o1:=m1.alloc (.cells (n1.toList++ []).toArray 24);bJ prog 111 #[au p,ao (some (aU m1.heap.size)) 1 1] o1 λp1 q1=>∃r1:OA,∃t1 u1:Nat,p1=ao r1 t1 u1/\cO 131 (.loop (lB (bB (sR (sL (dc (sR (body f84)))))))) (aP.q1 K) [(0,au a),(3,ao e f g),(5,au (some (aU w.heap.size))),(6,au (some (aU i.heap.size))),(8,ag 0),(9,au p),(10,.map (some g1.heap.size)),(57,ao r1 t1 u1),(58,ag (t1:Int)),(59,ag 0)] q1))))))
variable{a b d e f g K w}
theorem aP.of(h:aP.W a b d e f g K w):bJ prog 84 #[au a,.agg b,.agg d,ao e f g] w K:=
 rqq func84 (C:=aP.k) h
end
section
variable(a b:OA)(c d:Nat)(e f:Addr)(g:Int)(i:OA)(j:Option Nat)(k:OA)(m n:Nat)(o p:Int)(Q:aZ)(w:World)
def aP.B1:Prop:=
 Split (decide (p<o)) ((0<=p/\p<(m:Int))/\Is k λq:Addr=>∃r:AV,cS w (q.add (p.toNat*32)) r/\let t:=w.alloc (.cells zH 24);(r.size=32/\(∀u∈r.toList,u.oneCell'=true)/\∀v,v<32->Wr t ((aU w.heap.size).add v))/\let x:=setCells t (aU w.heap.size) r.toList 0;∃y:AV,cS x (aU w.heap.size) y/\∃z:World,(Instr.mapUpdate 164 (.map j) (.agg y) (.agg #[.bool true])).run prog x=.ok () z/\Q .normal [(0,au a),(3,ao b c d),(5,au (some e)),(6,au (some f)),(8,ag g),(9,au i),(10,.map j),(57,ao k m n),(58,ag o),(59,ag (i64.wrap (p+(1:Int))))] z) (Q (.exit 1) [(0,au a),(3,ao b c d),(5,au (some e)),(6,au (some f)),(8,ag g),(9,au i),(10,.map j),(57,ao k m n),(58,ag o),(59,ag p)] w)
theorem aP.b1:(bz none [] prog 131 aP.k (lB (bB (sR (sL (dc (sR (body f84))))))) aP.u1 Q [(0,au a),(3,ao b c d),(5,au (some e)),(6,au (some f)),(8,ag g),(9,au i),(10,.map j),(57,ao k m n),(58,ag o),(59,ag p)] w)=aP.B1 a b c d e f g i j k m n o p Q w:=by kernel_rfl
variable{a b c d e f g i j k m n o}
theorem aP.cP(I:Int->World->Prop)(μ:Int->World->Nat)(s:Int){Q:aZ}{w:World}(h0:I s w)
 (round:∀s w,I s w->aP.B1 a b c d e f g i j k m n o s (b7 (aP.e1 a b c d e f g i j k m n o) I μ s w Q) w):cO 131 (.loop (lB (bB (sR (sL (dc (sR (body f84)))))))) Q (aP.e1 a b c d e f g i j k m n o s) w:=
 bI ng mix (aP.e1 a b c d e f g i j k m n o) I μ aP.k aP.u1 s (λs Q w=>aP.B1 a b c d e f g i j k m n o s Q w) (λs Q w=>aP.b1 a b c d e f g i j k m n o s Q w) h0 round
end
section
def aP.Bg(a b:OA)(c d:Nat)(e f:Addr)(g:Int)(i:OA)(j:Option Nat)(k:OA)(m n:Nat)(o p:Int)(K:KT)(w:World):Prop:=
 ∃q:AV,cS w e q/\bJ prog 118 #[au i,.agg q,ao b c d] w λr t=>∃u:Int,r=ag u/\∃v:AV,cS t e v/\v.size=32/\let x:=t.alloc (.cells (v.toList++ []).toArray 24);bJ prog 111 #[au i,ao (some (aU t.heap.size)) 1 1] x λy z=>∃a1:OA,∃b1 c1:Nat,y=ao a1 b1 c1/\cO 131 (.loop (lB (bB (sR (sL (dc (bf (sR (body f84))))))))) (aP.q2 K) [(0,au a),(5,au (some e)),(6,au (some f)),(8,ag g),(10,.map j),(74,ao a1 b1 c1),(75,ag (b1:Int)),(76,ag 0)] z
variable(a b:OA)(c d:Nat)(e f:Addr)(g:Int)(i:OA)(j:Option Nat)(k:OA)(m n:Nat)(o p:Int)(K:KT)(w:World)
theorem aP.Jm:(aP.q1 K (.exit 1) [(0,au a),(3,ao b c d),(5,au (some e)),(6,au (some f)),(8,ag g),(9,au i),(10,.map j),(57,ao k m n),(58,ag o),(59,ag p)] w)=aP.Bg a b c d e f g i j k m n o p K w:=by kernel_rfl
end
section
variable(a:OA)(b c:Addr)(d:Int)(e:Option Nat)(f:OA)(g i:Nat)(j k:Int)(Q:aZ)(w:World)
def aP.B2:Prop:=
 Split (decide (k<j)) ((0<=k/\k<(g:Int))/\Is f λm:Addr=>∃n:AV,cS w (m.add (k.toNat*32)) n/\let o:=w.alloc (.cells zH 24);(n.size=32/\(∀p∈n.toList,p.oneCell'=true)/\∀q,q<32->Wr o ((aU w.heap.size).add q))/\let r:=setCells o (aU w.heap.size) n.toList 0;∃t:AV,cS r (aU w.heap.size) t/\∃u:AV,(Instr.lookup 164 (.map e) (.agg t) false).run prog r=.ok (.agg u) r/\∃v:Bool,u[0]? =some (.bool v)/\Split (!v) (let x:=r.drew;Is a λy:Addr=>∃z:Option Nat,x.cell? (y.add 4)=some (.map z)/\∃a1:AV,cS x (aU w.heap.size) a1/\Is a λb1:Addr=>∃c1:Option Nat,x.cell? (b1.add 4)=some (.map c1)/\∃d1:AV,cS x (aU w.heap.size) d1/\∃e1:OA,∃f1 g1:Nat,(Instr.lookup 135 (.map c1) (.agg d1) false).run prog x=.ok (ao e1 f1 g1) x/\∃i1:AV,cS x b i1/\(bJ prog 119 #[ao e1 f1 g1] x λj1 k1=>∃m1:OA,∃n1 o1:Nat,j1=ao m1 n1 o1/\(∃cs:AV,(.agg i1:Value)=.agg cs/\cs.size=32/\Cells k1 b cs)/\(∃cs:AV,(.agg a1:Value)=.agg cs/\cs.size=32/\Cells k1 (aU w.heap.size) cs)/\k1.cell? (y.add 4)=some (.map z)/\i1.size=32/\let p1:=k1.alloc (.cells (i1.toList++ []).toArray 24);(∃cs:AV,(.agg a1:Value)=.agg cs/\cs.size=32/\Cells p1 (aU w.heap.size) cs)/\p1.cell? (y.add 4)=some (.map z)/\∃(q1:OA) (r1 t1:Nat) (u1:World),(Builtin.append_ #[33,33] 33 #[ao m1 n1 o1,ao (some (aU k1.heap.size)) 1 1]).run prog p1=.ok (ao q1 r1 t1) u1/\(∃cs:AV,(.agg a1:Value)=.agg cs/\cs.size=32/\Cells u1 (aU w.heap.size) cs)/\u1.cell? (y.add 4)=some (.map z)/\∃v1:World,(Instr.mapUpdate 135 (.map z) (.agg a1) (ao q1 r1 t1)).run prog u1=.ok () v1/\Q .normal [(0,au a),(5,au (some b)),(6,au (some c)),(8,ag d),(10,.map e),(74,ao f g i),(75,ag j),(76,ag (i64.wrap (k+(1:Int))))] v1)/\(i1.size=32/\let x1:=x.alloc (.cells (i1.toList++ []).toArray 24);(Instr.lookup 135 (.map c1) (.agg d1) false).run prog x1=.ok (ao e1 f1 g1) x1/\(∃cs:AV,(.agg d1:Value)=.agg cs/\cs.size=32/\Cells x1 (aU w.heap.size) cs)/\x1.cell? (b1.add 4)=some (.map c1)/\(∃cs:AV,(.agg a1:Value)=.agg cs/\cs.size=32/\Cells x1 (aU w.heap.size) cs)/\x1.cell? (y.add 4)=some (.map z)/\bJ prog 119 #[ao e1 f1 g1] x1 λy1 z1=>∃a2:OA,∃b2 c2:Nat,y1=ao a2 b2 c2/\(∃cs:AV,(.agg a1:Value)=.agg cs/\cs.size=32/\Cells z1 (aU w.heap.size) cs)/\z1.cell? (y.add 4)=some (.map z)/\∃(d2:OA) (e2 f2:Nat) (g2:World),(Builtin.append_ #[33,33] 33 #[ao a2 b2 c2,ao (some (aU x.heap.size)) 1 1]).run prog z1=.ok (ao d2 e2 f2) g2/\(∃cs:AV,(.agg a1:Value)=.agg cs/\cs.size=32/\Cells g2 (aU w.heap.size) cs)/\g2.cell? (y.add 4)=some (.map z)/\∃i2:World,(Instr.mapUpdate 135 (.map z) (.agg a1) (ao d2 e2 f2)).run prog g2=.ok () i2/\Q .normal [(0,au a),(5,au (some b)),(6,au (some c)),(8,ag d),(10,.map e),(74,ao f g i),(75,ag j),(76,ag (i64.wrap (k+(1:Int))))] i2)) (Q .normal [(0,au a),(5,au (some b)),(6,au (some c)),(8,ag d),(10,.map e),(74,ao f g i),(75,ag j),(76,ag (i64.wrap (k+(1:Int))))] r)) (Q (.exit 3) [(0,au a),(5,au (some b)),(6,au (some c)),(8,ag d),(10,.map e),(74,ao f g i),(75,ag j),(76,ag k)] w)
theorem aP.b2:(bz none [] prog 131 aP.k (lB (bB (sR (sL (dc (bf (sR (body f84)))))))) aP.u2 Q [(0,au a),(5,au (some b)),(6,au (some c)),(8,ag d),(10,.map e),(74,ao f g i),(75,ag j),(76,ag k)] w)=aP.B2 a b c d e f g i j k Q w:=by kernel_rfl
variable{a b c d e f g i j}
theorem aP.iY(I:Int->World->Prop)(μ:Int->World->Nat)(s:Int){Q:aZ}{w:World}(h0:I s w)
 (round:∀s w,I s w->aP.B2 a b c d e f g i j s (b7 (aP.e2 a b c d e f g i j) I μ s w Q) w):cO 131 (.loop (lB (bB (sR (sL (dc (bf (sR (body f84))))))))) Q (aP.e2 a b c d e f g i j s) w:=
 bI ng mix (aP.e2 a b c d e f g i j) I μ aP.k aP.u2 s (λs Q w=>aP.B2 a b c d e f g i j s Q w) (λs Q w=>aP.b2 a b c d e f g i j s Q w) h0 round
end
section
def aP.T9(a:OA)(b c:Addr)(d:Int)(e:Option Nat)(f:OA)(g i:Nat)(j k:Int)(K:KT)(w:World):Prop:=
 let m:=w.drew;Is a λn:Addr=>∃o:OA,m.cell? (n.add 1)=some (au o)/\Is a λp:Addr=>∃q:Option Nat,m.cell? (p.add 2)=some (.map q)/\∃r:AV,cS m c r/\∃t:Int,(Instr.lookup 127 (.map q) (.agg r) false).run prog m=.ok (ag t) m/\bJ prog 120 #[au o,ag t] m λu v=>∃x y:Int,u=.tuple #[ag x,ag y]/\let z:=v.drew;Is a λa1:Addr=>∃b1:Option Nat,z.cell? (a1.add 2)=some (.map b1)/\∃c1:AV,cS z b c1/\∃d1:World,(Instr.mapUpdate 127 (.map b1) (.agg c1) (ag x)).run prog z=.ok () d1/\let e1:=d1.drew;Is a λf1:Addr=>∃g1:OA,∃i1 j1:Nat,e1.cell? (f1.add 3)=some (ao g1 i1 j1)/\∃k1:AV,cS e1 b k1/\k1.size=32/\let m1:=e1.alloc (.cells (k1.toList++ []).toArray 24);m1.cell? (f1.add 3)=some (ao g1 i1 j1)/\∃(n1:OA) (o1 p1:Nat) (q1:World),(Builtin.append_ #[33,33] 33 #[ao g1 i1 j1,ao (some (aU e1.heap.size)) 1 1]).run prog m1=.ok (ao n1 o1 p1) q1/\Is a λr1:Addr=>Wr q1 (r1.add 3)/\let t1:=q1.setCell (r1.add 3) (ao n1 o1 p1);K (ag 0) t1
variable(a:OA)(b c:Addr)(d:Int)(e:Option Nat)(f:OA)(g i:Nat)(j k:Int)(K:KT)(w:World)
theorem aP.abX:(aP.q2 K (.exit 3) [(0,au a),(5,au (some b)),(6,au (some c)),(8,ag d),(10,.map e),(74,ao f g i),(75,ag j),(76,ag k)] w)=aP.T9 a b c d e f g i j k K w:=by kernel_rfl
end
def aG.k:List Nat:= []
def aG.N1(a b:OA)(c d e:World)(K:KT)(f:World):Prop:=
 let g:=f.alloc (.cells (#[au a,au b,.map (some c.heap.size),ao (some (aU d.heap.size)) 1 1,.map (some e.heap.size)]:AV) 137);K (au (some (aU f.heap.size))) g
def aG.N2(a b:OA)(c d:World)(K:KT)(e:World):Prop:=
 let f:=e.alloc (.map #[] 0);aG.N1 a b c d e K f
def aG.N3(a:AV)(b c:OA)(d e:World)(K:KT)(f:World):Prop:=
 a.size=32/\let g:=f.alloc (.cells (a.toList++ []).toArray 24);aG.N1 b c d f e K g
def aG.N4(a:AV)(b c:OA)(d w:World)(K:KT)(e:World):Prop:=
 (a.size=32/\let f:=e.alloc (.cells (a.toList++ []).toArray 24);aG.N2 b c d e K f)/\(let g:=e.alloc (.map #[] 0);(∃cs:AV,(.agg a:Value)=.agg cs/\cs.size=32/\Cells g (aU w.heap.size) cs)/\aG.N3 a b c d e K g)
def aG.N5(a:World)(b:AV)(c d:OA)(e f:World)(K:KT)(g:World):Prop:=
 ∃i:World,(Instr.mapUpdate 127 (.map (some a.heap.size)) (.agg b) (ag 0)).run prog g=.ok () i/\aG.N1 c d a e f K i
def aG.N6(a:World)(b:AV)(c d:OA)(e w:World)(K:KT)(f:World):Prop:=
 (∃g:World,(Instr.mapUpdate 127 (.map (some a.heap.size)) (.agg b) (ag 0)).run prog f=.ok () g/\aG.N2 c d a e K g)/\(let i:=f.alloc (.map #[] 0);(∃cs:AV,(.agg b:Value)=.agg cs/\cs.size=32/\Cells i (aU w.heap.size) cs)/\aG.N5 a b c d e f K i)
def aG.N7(a:World)(b c:AV)(w:World)(d e:OA)(f:World)(K:KT)(g:World):Prop:=
 (∃i:World,(Instr.mapUpdate 127 (.map (some a.heap.size)) (.agg b) (ag 0)).run prog g=.ok () i/\(∃cs:AV,(.agg c:Value)=.agg cs/\cs.size=32/\Cells i (aU w.heap.size) cs)/\aG.N3 c d e a f K i)/\(c.size=32/\let j:=g.alloc (.cells (c.toList++ []).toArray 24);(∃cs:AV,(.agg b:Value)=.agg cs/\cs.size=32/\Cells j (aU w.heap.size) cs)/\aG.N5 a b d e g f K j)
def aG.N8(a:World)(b c:AV)(w:World)(d e:OA)(K:KT)(f:World):Prop:=
 (∃g:World,(Instr.mapUpdate 127 (.map (some a.heap.size)) (.agg b) (ag 0)).run prog f=.ok () g/\(∃cs:AV,(.agg c:Value)=.agg cs/\cs.size=32/\Cells g (aU w.heap.size) cs)/\aG.N4 c d e a w K g)/\(c.size=32/\let i:=f.alloc (.cells (c.toList++ []).toArray 24);(∃cs:AV,(.agg b:Value)=.agg cs/\cs.size=32/\Cells i (aU w.heap.size) cs)/\aG.N6 a b d e f w K i)/\(let j:=f.alloc (.map #[] 0);(∃cs:AV,(.agg c:Value)=.agg cs/\cs.size=32/\Cells j (aU w.heap.size) cs)/\(∃cs:AV,(.agg b:Value)=.agg cs/\cs.size=32/\Cells j (aU w.heap.size) cs)/\aG.N7 a b c w d e f K j)
def aG.N9(a:AV)(w:World)(b c:OA)(d e:World)(K:KT)(f:World):Prop:=
 let g:=f.alloc (.map #[] 0);(∃cs:AV,(.agg a:Value)=.agg cs/\cs.size=32/\Cells g (aU w.heap.size) cs)/\aG.N5 f a b c d e K g
def aG.Vg(a:AV)(w:World)(b c:OA)(d:World)(K:KT)(e:World):Prop:=
 (let f:=e.alloc (.map #[] 0);(∃cs:AV,(.agg a:Value)=.agg cs/\cs.size=32/\Cells f (aU w.heap.size) cs)/\aG.N6 e a b c d w K f)/\(let g:=e.alloc (.map #[] 0);(∃cs:AV,(.agg a:Value)=.agg cs/\cs.size=32/\Cells g (aU w.heap.size) cs)/\aG.N9 a w b c d e K g)
def aG.N11(a:AV)(w:World)(b:AV)(c d:OA)(e:World)(K:KT)(f:World):Prop:=
 (let g:=f.alloc (.map #[] 0);(∃cs:AV,(.agg a:Value)=.agg cs/\cs.size=32/\Cells g (aU w.heap.size) cs)/\(∃cs:AV,(.agg b:Value)=.agg cs/\cs.size=32/\Cells g (aU w.heap.size) cs)/\aG.N7 f b a w c d e K g)/\(a.size=32/\let i:=f.alloc (.cells (a.toList++ []).toArray 24);(∃cs:AV,(.agg b:Value)=.agg cs/\cs.size=32/\Cells i (aU w.heap.size) cs)/\aG.N9 b w c d f e K i)
def aG.Uf(a:AV)(w:World)(b:AV)(c d:OA)(K:KT)(e:World):Prop:=
 (let f:=e.alloc (.map #[] 0);(∃cs:AV,(.agg a:Value)=.agg cs/\cs.size=32/\Cells f (aU w.heap.size) cs)/\(∃cs:AV,(.agg b:Value)=.agg cs/\cs.size=32/\Cells f (aU w.heap.size) cs)/\aG.N8 e b a w c d K f)/\(a.size=32/\let g:=e.alloc (.cells (a.toList++ []).toArray 24);(∃cs:AV,(.agg b:Value)=.agg cs/\cs.size=32/\Cells g (aU w.heap.size) cs)/\aG.Vg b w c d e K g)/\(let i:=e.alloc (.map #[] 0);(∃cs:AV,(.agg a:Value)=.agg cs/\cs.size=32/\Cells i (aU w.heap.size) cs)/\(∃cs:AV,(.agg b:Value)=.agg cs/\cs.size=32/\Cells i (aU w.heap.size) cs)/\aG.N11 a w b c d e K i)
def aG.O0(a:OA)(b c d:World)(K:KT)(e:World):Prop:=
 bJ prog 123 #[] e λf g=>∃i:OA,f=au i/\aG.N1 a i b c d K g
def aG.Ue(a:OA)(b c:World)(K:KT)(d:World):Prop:=
 (bJ prog 123 #[] d λe f=>∃g:OA,e=au g/\aG.N2 a g b c K f)/\(let i:=d.alloc (.map #[] 0);aG.O0 a b c d K i)
def aG.N15(a:AV)(w:World)(b:OA)(c d:World)(K:KT)(e:World):Prop:=
 (bJ prog 123 #[] e λf g=>∃i:OA,f=au i/\(∃cs:AV,(.agg a:Value)=.agg cs/\cs.size=32/\Cells g (aU w.heap.size) cs)/\aG.N3 a b i c d K g)/\(a.size=32/\let j:=e.alloc (.cells (a.toList++ []).toArray 24);aG.O0 b c e d K j)
def aG.Ve(a:AV)(w:World)(b:OA)(c:World)(K:KT)(d:World):Prop:=
 (bJ prog 123 #[] d λe f=>∃g:OA,e=au g/\(∃cs:AV,(.agg a:Value)=.agg cs/\cs.size=32/\Cells f (aU w.heap.size) cs)/\aG.N4 a b g c w K f)/\(a.size=32/\let i:=d.alloc (.cells (a.toList++ []).toArray 24);aG.Ue b c d K i)/\(let j:=d.alloc (.map #[] 0);(∃cs:AV,(.agg a:Value)=.agg cs/\cs.size=32/\Cells j (aU w.heap.size) cs)/\aG.N15 a w b c d K j)
def aG.Vd(a:AV)(w b:World)(c:OA)(d e:World)(K:KT)(f:World):Prop:=
 (bJ prog 123 #[] f λg i=>∃j:OA,g=au j/\(∃cs:AV,(.agg a:Value)=.agg cs/\cs.size=32/\Cells i (aU w.heap.size) cs)/\aG.N5 b a c j d e K i)/\(∃k:World,(Instr.mapUpdate 127 (.map (some b.heap.size)) (.agg a) (ag 0)).run prog f=.ok () k/\aG.O0 c b d e K k)
def aG.N18(a:AV)(w b:World)(c:OA)(d:World)(K:KT)(e:World):Prop:=
 (bJ prog 123 #[] e λf g=>∃i:OA,f=au i/\(∃cs:AV,(.agg a:Value)=.agg cs/\cs.size=32/\Cells g (aU w.heap.size) cs)/\aG.N6 b a c i d w K g)/\(∃j:World,(Instr.mapUpdate 127 (.map (some b.heap.size)) (.agg a) (ag 0)).run prog e=.ok () j/\aG.Ue c b d K j)/\(let k:=e.alloc (.map #[] 0);(∃cs:AV,(.agg a:Value)=.agg cs/\cs.size=32/\Cells k (aU w.heap.size) cs)/\aG.Vd a w b c d e K k)
def aG.ME(a:AV)(w:World)(b:AV)(c:World)(d:OA)(e:World)(K:KT)(f:World):Prop:=
 (bJ prog 123 #[] f λg i=>∃j:OA,g=au j/\(∃cs:AV,(.agg a:Value)=.agg cs/\cs.size=32/\Cells i (aU w.heap.size) cs)/\(∃cs:AV,(.agg b:Value)=.agg cs/\cs.size=32/\Cells i (aU w.heap.size) cs)/\aG.N7 c b a w d j e K i)/\(∃k:World,(Instr.mapUpdate 127 (.map (some c.heap.size)) (.agg b) (ag 0)).run prog f=.ok () k/\(∃cs:AV,(.agg a:Value)=.agg cs/\cs.size=32/\Cells k (aU w.heap.size) cs)/\aG.N15 a w d c e K k)/\(a.size=32/\let m:=f.alloc (.cells (a.toList++ []).toArray 24);(∃cs:AV,(.agg b:Value)=.agg cs/\cs.size=32/\Cells m (aU w.heap.size) cs)/\aG.Vd b w c d f e K m)
def aG.QK(a:AV)(w:World)(b:AV)(c:World)(d:OA)(K:KT)(e:World):Prop:=
 (bJ prog 123 #[] e λf g=>∃i:OA,f=au i/\(∃cs:AV,(.agg a:Value)=.agg cs/\cs.size=32/\Cells g (aU w.heap.size) cs)/\(∃cs:AV,(.agg b:Value)=.agg cs/\cs.size=32/\Cells g (aU w.heap.size) cs)/\aG.N8 c b a w d i K g)/\(∃j:World,(Instr.mapUpdate 127 (.map (some c.heap.size)) (.agg b) (ag 0)).run prog e=.ok () j/\(∃cs:AV,(.agg a:Value)=.agg cs/\cs.size=32/\Cells j (aU w.heap.size) cs)/\aG.Ve a w d c K j)/\(a.size=32/\let k:=e.alloc (.cells (a.toList++ []).toArray 24);(∃cs:AV,(.agg b:Value)=.agg cs/\cs.size=32/\Cells k (aU w.heap.size) cs)/\aG.N18 b w c d e K k)/\(let m:=e.alloc (.map #[] 0);(∃cs:AV,(.agg a:Value)=.agg cs/\cs.size=32/\Cells m (aU w.heap.size) cs)/\(∃cs:AV,(.agg b:Value)=.agg cs/\cs.size=32/\Cells m (aU w.heap.size) cs)/\aG.ME a w b c d e K m)
def aG.QJ(a:AV)(w:World)(b:OA)(c d:World)(K:KT)(e:World):Prop:=
 (bJ prog 123 #[] e λf g=>∃i:OA,f=au i/\(∃cs:AV,(.agg a:Value)=.agg cs/\cs.size=32/\Cells g (aU w.heap.size) cs)/\aG.N9 a w b i c d K g)/\(let j:=e.alloc (.map #[] 0);(∃cs:AV,(.agg a:Value)=.agg cs/\cs.size=32/\Cells j (aU w.heap.size) cs)/\aG.Vd a w e b c d K j)
def aG.Vc(a:AV)(w:World)(b:OA)(c:World)(K:KT)(d:World):Prop:=
 (bJ prog 123 #[] d λe f=>∃g:OA,e=au g/\(∃cs:AV,(.agg a:Value)=.agg cs/\cs.size=32/\Cells f (aU w.heap.size) cs)/\aG.Vg a w b g c K f)/\(let i:=d.alloc (.map #[] 0);(∃cs:AV,(.agg a:Value)=.agg cs/\cs.size=32/\Cells i (aU w.heap.size) cs)/\aG.N18 a w d b c K i)/\(let j:=d.alloc (.map #[] 0);(∃cs:AV,(.agg a:Value)=.agg cs/\cs.size=32/\Cells j (aU w.heap.size) cs)/\aG.QJ a w b c d K j)
def aG.N23(a:AV)(w:World)(b:AV)(c:OA)(d:World)(K:KT)(e:World):Prop:=
 (bJ prog 123 #[] e λf g=>∃i:OA,f=au i/\(∃cs:AV,(.agg a:Value)=.agg cs/\cs.size=32/\Cells g (aU w.heap.size) cs)/\(∃cs:AV,(.agg b:Value)=.agg cs/\cs.size=32/\Cells g (aU w.heap.size) cs)/\aG.N11 a w b c i d K g)/\(let j:=e.alloc (.map #[] 0);(∃cs:AV,(.agg a:Value)=.agg cs/\cs.size=32/\Cells j (aU w.heap.size) cs)/\(∃cs:AV,(.agg b:Value)=.agg cs/\cs.size=32/\Cells j (aU w.heap.size) cs)/\aG.ME a w b e c d K j)/\(a.size=32/\let k:=e.alloc (.cells (a.toList++ []).toArray 24);(∃cs:AV,(.agg b:Value)=.agg cs/\cs.size=32/\Cells k (aU w.heap.size) cs)/\aG.QJ b w c e d K k)
def aG.N24(a:AV)(w:World)(b:AV)(c:OA)(K:KT)(d:World):Prop:=
 (bJ prog 123 #[] d λe f=>∃g:OA,e=au g/\(∃cs:AV,(.agg a:Value)=.agg cs/\cs.size=32/\Cells f (aU w.heap.size) cs)/\(∃cs:AV,(.agg b:Value)=.agg cs/\cs.size=32/\Cells f (aU w.heap.size) cs)/\aG.Uf a w b c g K f)/\(let i:=d.alloc (.map #[] 0);(∃cs:AV,(.agg a:Value)=.agg cs/\cs.size=32/\Cells i (aU w.heap.size) cs)/\(∃cs:AV,(.agg b:Value)=.agg cs/\cs.size=32/\Cells i (aU w.heap.size) cs)/\aG.QK a w b d c K i)/\(a.size=32/\let j:=d.alloc (.cells (a.toList++ []).toArray 24);(∃cs:AV,(.agg b:Value)=.agg cs/\cs.size=32/\Cells j (aU w.heap.size) cs)/\aG.Vc b w c d K j)/\(let k:=d.alloc (.map #[] 0);(∃cs:AV,(.agg a:Value)=.agg cs/\cs.size=32/\Cells k (aU w.heap.size) cs)/\(∃cs:AV,(.agg b:Value)=.agg cs/\cs.size=32/\Cells k (aU w.heap.size) cs)/\aG.N23 a w b c d K k)
def aG.N25(a:AV)(b c d:World)(K:KT)(e:World):Prop:=
 bJ prog 122 #[.agg a] e λf g=>∃i:OA,f=au i/\aG.O0 i b c d K g
def aG.N26(a:AV)(b c w:World)(K:KT)(d:World):Prop:=
 (bJ prog 122 #[.agg a] d λe f=>∃g:OA,e=au g/\aG.Ue g b c K f)/\(let i:=d.alloc (.map #[] 0);(∃cs:AV,(.agg a:Value)=.agg cs/\cs.size=32/\Cells i (aU w.heap.size) cs)/\aG.N25 a b c d K i)
def aG.Ud(a b:AV)(w c d:World)(K:KT)(e:World):Prop:=
 (bJ prog 122 #[.agg a] e λf g=>∃i:OA,f=au i/\(∃cs:AV,(.agg b:Value)=.agg cs/\cs.size=32/\Cells g (aU w.heap.size) cs)/\aG.N15 b w i c d K g)/\(b.size=32/\let j:=e.alloc (.cells (b.toList++ []).toArray 24);(∃cs:AV,(.agg a:Value)=.agg cs/\cs.size=32/\Cells j (aU w.heap.size) cs)/\aG.N25 a c e d K j)
def aG.N28(a b:AV)(w c:World)(K:KT)(d:World):Prop:=
 (bJ prog 122 #[.agg a] d λe f=>∃g:OA,e=au g/\(∃cs:AV,(.agg b:Value)=.agg cs/\cs.size=32/\Cells f (aU w.heap.size) cs)/\aG.Ve b w g c K f)/\(b.size=32/\let i:=d.alloc (.cells (b.toList++ []).toArray 24);(∃cs:AV,(.agg a:Value)=.agg cs/\cs.size=32/\Cells i (aU w.heap.size) cs)/\aG.N26 a c d w K i)/\(let j:=d.alloc (.map #[] 0);(∃cs:AV,(.agg b:Value)=.agg cs/\cs.size=32/\Cells j (aU w.heap.size) cs)/\(∃cs:AV,(.agg a:Value)=.agg cs/\cs.size=32/\Cells j (aU w.heap.size) cs)/\aG.Ud a b w c d K j)
def aG.N29(a b:AV)(w c d e:World)(K:KT)(f:World):Prop:=
 (bJ prog 122 #[.agg a] f λg i=>∃j:OA,g=au j/\(∃cs:AV,(.agg b:Value)=.agg cs/\cs.size=32/\Cells i (aU w.heap.size) cs)/\aG.Vd b w c j d e K i)/\(∃k:World,(Instr.mapUpdate 127 (.map (some c.heap.size)) (.agg b) (ag 0)).run prog f=.ok () k/\(∃cs:AV,(.agg a:Value)=.agg cs/\cs.size=32/\Cells k (aU w.heap.size) cs)/\aG.N25 a c d e K k)
def aG.N30(a b:AV)(w c d:World)(K:KT)(e:World):Prop:=
 (bJ prog 122 #[.agg a] e λf g=>∃i:OA,f=au i/\(∃cs:AV,(.agg b:Value)=.agg cs/\cs.size=32/\Cells g (aU w.heap.size) cs)/\aG.N18 b w c i d K g)/\(∃j:World,(Instr.mapUpdate 127 (.map (some c.heap.size)) (.agg b) (ag 0)).run prog e=.ok () j/\(∃cs:AV,(.agg a:Value)=.agg cs/\cs.size=32/\Cells j (aU w.heap.size) cs)/\aG.N26 a c d w K j)/\(let k:=e.alloc (.map #[] 0);(∃cs:AV,(.agg b:Value)=.agg cs/\cs.size=32/\Cells k (aU w.heap.size) cs)/\(∃cs:AV,(.agg a:Value)=.agg cs/\cs.size=32/\Cells k (aU w.heap.size) cs)/\aG.N29 a b w c d e K k)
def aG.N31(a b:AV)(w:World)(c:AV)(d e:World)(K:KT)(f:World):Prop:=
 (bJ prog 122 #[.agg a] f λg i=>∃j:OA,g=au j/\(∃cs:AV,(.agg b:Value)=.agg cs/\cs.size=32/\Cells i (aU w.heap.size) cs)/\(∃cs:AV,(.agg c:Value)=.agg cs/\cs.size=32/\Cells i (aU w.heap.size) cs)/\aG.ME b w c d j e K i)/\(∃k:World,(Instr.mapUpdate 127 (.map (some d.heap.size)) (.agg c) (ag 0)).run prog f=.ok () k/\(∃cs:AV,(.agg b:Value)=.agg cs/\cs.size=32/\Cells k (aU w.heap.size) cs)/\(∃cs:AV,(.agg a:Value)=.agg cs/\cs.size=32/\Cells k (aU w.heap.size) cs)/\aG.Ud a b w d e K k)/\(b.size=32/\let m:=f.alloc (.cells (b.toList++ []).toArray 24);(∃cs:AV,(.agg c:Value)=.agg cs/\cs.size=32/\Cells m (aU w.heap.size) cs)/\(∃cs:AV,(.agg a:Value)=.agg cs/\cs.size=32/\Cells m (aU w.heap.size) cs)/\aG.N29 a c w d f e K m)
def aG.N32(a b:AV)(w:World)(c:AV)(d:World)(K:KT)(e:World):Prop:=
 (bJ prog 122 #[.agg a] e λf g=>∃i:OA,f=au i/\(∃cs:AV,(.agg b:Value)=.agg cs/\cs.size=32/\Cells g (aU w.heap.size) cs)/\(∃cs:AV,(.agg c:Value)=.agg cs/\cs.size=32/\Cells g (aU w.heap.size) cs)/\aG.QK b w c d i K g)/\(∃j:World,(Instr.mapUpdate 127 (.map (some d.heap.size)) (.agg c) (ag 0)).run prog e=.ok () j/\(∃cs:AV,(.agg b:Value)=.agg cs/\cs.size=32/\Cells j (aU w.heap.size) cs)/\(∃cs:AV,(.agg a:Value)=.agg cs/\cs.size=32/\Cells j (aU w.heap.size) cs)/\aG.N28 a b w d K j)/\(b.size=32/\let k:=e.alloc (.cells (b.toList++ []).toArray 24);(∃cs:AV,(.agg c:Value)=.agg cs/\cs.size=32/\Cells k (aU w.heap.size) cs)/\(∃cs:AV,(.agg a:Value)=.agg cs/\cs.size=32/\Cells k (aU w.heap.size) cs)/\aG.N30 a c w d e K k)/\(let m:=e.alloc (.map #[] 0);(∃cs:AV,(.agg b:Value)=.agg cs/\cs.size=32/\Cells m (aU w.heap.size) cs)/\(∃cs:AV,(.agg c:Value)=.agg cs/\cs.size=32/\Cells m (aU w.heap.size) cs)/\(∃cs:AV,(.agg a:Value)=.agg cs/\cs.size=32/\Cells m (aU w.heap.size) cs)/\aG.N31 a b w c d e K m)
def aG.N33(a b:AV)(w c d:World)(K:KT)(e:World):Prop:=
 (bJ prog 122 #[.agg a] e λf g=>∃i:OA,f=au i/\(∃cs:AV,(.agg b:Value)=.agg cs/\cs.size=32/\Cells g (aU w.heap.size) cs)/\aG.QJ b w i c d K g)/\(let j:=e.alloc (.map #[] 0);(∃cs:AV,(.agg b:Value)=.agg cs/\cs.size=32/\Cells j (aU w.heap.size) cs)/\(∃cs:AV,(.agg a:Value)=.agg cs/\cs.size=32/\Cells j (aU w.heap.size) cs)/\aG.N29 a b w e c d K j)
def aG.N34(a b:AV)(w c:World)(K:KT)(d:World):Prop:=
 (bJ prog 122 #[.agg a] d λe f=>∃g:OA,e=au g/\(∃cs:AV,(.agg b:Value)=.agg cs/\cs.size=32/\Cells f (aU w.heap.size) cs)/\aG.Vc b w g c K f)/\(let i:=d.alloc (.map #[] 0);(∃cs:AV,(.agg b:Value)=.agg cs/\cs.size=32/\Cells i (aU w.heap.size) cs)/\(∃cs:AV,(.agg a:Value)=.agg cs/\cs.size=32/\Cells i (aU w.heap.size) cs)/\aG.N30 a b w d c K i)/\(let j:=d.alloc (.map #[] 0);(∃cs:AV,(.agg b:Value)=.agg cs/\cs.size=32/\Cells j (aU w.heap.size) cs)/\(∃cs:AV,(.agg a:Value)=.agg cs/\cs.size=32/\Cells j (aU w.heap.size) cs)/\aG.N33 a b w c d K j)
def aG.N35(a b:AV)(w:World)(c:AV)(d:World)(K:KT)(e:World):Prop:=
 (bJ prog 122 #[.agg a] e λf g=>∃i:OA,f=au i/\(∃cs:AV,(.agg b:Value)=.agg cs/\cs.size=32/\Cells g (aU w.heap.size) cs)/\(∃cs:AV,(.agg c:Value)=.agg cs/\cs.size=32/\Cells g (aU w.heap.size) cs)/\aG.N23 b w c i d K g)/\(let j:=e.alloc (.map #[] 0);(∃cs:AV,(.agg b:Value)=.agg cs/\cs.size=32/\Cells j (aU w.heap.size) cs)/\(∃cs:AV,(.agg c:Value)=.agg cs/\cs.size=32/\Cells j (aU w.heap.size) cs)/\(∃cs:AV,(.agg a:Value)=.agg cs/\cs.size=32/\Cells j (aU w.heap.size) cs)/\aG.N31 a b w c e d K j)/\(b.size=32/\let k:=e.alloc (.cells (b.toList++ []).toArray 24);(∃cs:AV,(.agg c:Value)=.agg cs/\cs.size=32/\Cells k (aU w.heap.size) cs)/\(∃cs:AV,(.agg a:Value)=.agg cs/\cs.size=32/\Cells k (aU w.heap.size) cs)/\aG.N33 a c w e d K k)
def aG.N36(a b:AV)(w:World)(c:AV)(K:KT)(d:World):Prop:=
 (bJ prog 122 #[.agg a] d λe f=>∃g:OA,e=au g/\(∃cs:AV,(.agg b:Value)=.agg cs/\cs.size=32/\Cells f (aU w.heap.size) cs)/\(∃cs:AV,(.agg c:Value)=.agg cs/\cs.size=32/\Cells f (aU w.heap.size) cs)/\aG.N24 b w c g K f)/\(let i:=d.alloc (.map #[] 0);(∃cs:AV,(.agg b:Value)=.agg cs/\cs.size=32/\Cells i (aU w.heap.size) cs)/\(∃cs:AV,(.agg c:Value)=.agg cs/\cs.size=32/\Cells i (aU w.heap.size) cs)/\(∃cs:AV,(.agg a:Value)=.agg cs/\cs.size=32/\Cells i (aU w.heap.size) cs)/\aG.N32 a b w c d K i)/\(b.size=32/\let j:=d.alloc (.cells (b.toList++ []).toArray 24);(∃cs:AV,(.agg c:Value)=.agg cs/\cs.size=32/\Cells j (aU w.heap.size) cs)/\(∃cs:AV,(.agg a:Value)=.agg cs/\cs.size=32/\Cells j (aU w.heap.size) cs)/\aG.N34 a c w d K j)/\(let k:=d.alloc (.map #[] 0);(∃cs:AV,(.agg b:Value)=.agg cs/\cs.size=32/\Cells k (aU w.heap.size) cs)/\(∃cs:AV,(.agg c:Value)=.agg cs/\cs.size=32/\Cells k (aU w.heap.size) cs)/\(∃cs:AV,(.agg a:Value)=.agg cs/\cs.size=32/\Cells k (aU w.heap.size) cs)/\aG.N35 a b w c d K k)
section
variable(a:AV)(K:KT)(w:World)
def aG.W:Prop:=
 let b:=w.alloc (.cells a 24);let d:=b.drew;∃e:AV,cS d (aU w.heap.size) e/\∃f:AV,cS d (aU w.heap.size) f/\∃g:AV,cS d (aU w.heap.size) g/\aG.N36 e g w f K d
variable{a K w}
theorem aG.of(h:aG.W a K w):bJ prog 86 #[.agg a] w K:=
 rqq func86 (C:=aG.k) h
end
def gP.k:List Nat:= []
section
variable(a b:OA)(d e:Nat)(K:KT)(w:World)
def gP.W:Prop:=
 let f:=w.alloc (.cells (#[au a]:AV) 62);∃g:OA,f.cell? (aU w.heap.size)=some (au g)/\bJ prog 117 #[au g] f λi j=>∃k:Bool,i=.bool k/\Split k (bJ prog 68 #[ao b d e,.func (.func 125) #[] #[au (some (aU w.heap.size))]] j λm n=>∃o:Bool,m=.bool o/\K (.bool (!o)) n) (K (.bool false) j)
variable{a b d e K w}
theorem gP.of(h:gP.W a b d e K w):bJ prog 94 #[au a,ao b d e] w K:=
 rqq func94 (C:=gP.k) h
end
def fM.k:List Nat:= []
section
variable(a:OA)(b d:AV)(K:KT)(w:World)
def fM.W:Prop:=
 let e:=w.alloc (.cells b 24);let f:=e.alloc (.cells d 24);let g:=f.drew;∃i:AV,cS g (aU w.heap.size) i/\∃j:AV,cS g (aU e.heap.size) j/\i.size=32/\j.size=32/\let k:=g.alloc (.cells (i.toList++(j.toList++([]))).toArray 24);bJ prog 94 #[au a,ao (some (aU g.heap.size)) 2 2] k λm n=>∃o:Bool,m=.bool o/\Split o (Is a λp:Addr=>∃q:OA,n.cell? (p.add 1)=some (au q)/\Is a λr:Addr=>∃t:Option Nat,n.cell? (r.add 2)=some (.map t)/\∃u:AV,cS n (aU e.heap.size) u/\∃v:Int,(Instr.lookup 127 (.map t) (.agg u) false).run prog n=.ok (ag v) n/\Is a λx:Addr=>∃y:Option Nat,n.cell? (x.add 2)=some (.map y)/\∃z:AV,cS n (aU w.heap.size) z/\∃a1:Int,(Instr.lookup 127 (.map y) (.agg z) false).run prog n=.ok (ag a1) n/\bJ prog 126 #[au q,ag v,ag a1] n λb1 c1=>∃d1:Bool,b1=.bool d1/\K (.bool d1) c1) (K (.bool false) n)
variable{a b d K w}
theorem fM.of(h:fM.W a b d K w):bJ prog 95 #[au a,.agg b,.agg d] w K:=
 rqq func95 (C:=fM.k) h
end
def dH.k:List Nat:= []
section
variable(a:AV)(b d:Addr)(K:KT)(w:World)
def dH.W:Prop:=
 let e:=w.alloc (.cells a 24);∃f:OA,e.cell? b=some (au f)/\∃g:AV,cS e (aU w.heap.size) g/\∃i:AV,cS e d i/\bJ prog 95 #[au f,.agg g,.agg i] e λj k=>∃m:Bool,j=.bool m/\K (.bool m) k
variable{a b d K w}
theorem dH.of(h:dH.W a b d K w):bJ prog 96 #[.agg a,au (some b),au (some d)] w K:=
 rqq func96 (C:=dH.k) h
end
def iw.k:List Nat:= []
section
variable(a:OA)(b:AV)(K:KT)(w:World)
def iw.W:Prop:=
 let d:=w.alloc (.cells (#[au a]:AV) 62);let e:=d.alloc (.cells b 24);K (.func (.func 141) #[] #[au (some (aU w.heap.size)),au (some (aU d.heap.size))]) e
variable{a b K w}
theorem iw.of(h:iw.W a b K w):bJ prog 109 #[au a,.agg b] w K:=
 rqq func109 (C:=iw.k) h
end
def gA.k:List Nat:= []
section
variable(a:OA)(K:KT)(w:World)
def gA.W:Prop:=
 Split (!(a).isNone) (Is a λb:Addr=>∃d:OA,w.cell? (b.add 0)=some (au d)/\K (.bool (!(d).isNone)) w) (K (.bool false) w)
variable{a K w}
theorem gA.of(h:gA.W a K w):bJ prog 117 #[au a] w K:=
 rqq func117 (C:=gA.k) h
end
def dW.k:List Nat:= []
section
variable(a:OA)(b d:Nat)(K:KT)(w:World)
def dW.W:Prop:=
 (0<=(b:Int)/\(b:Int)<=(d:Int))/\(0<=(b:Int)/\(b:Int)<=((b:Int).toNat:Int))/\K (ao (if(b:Int).toNat=0 then a else a.map (·.add (0*32))) ((b:Int).toNat -0) ((b:Int).toNat -0)) w
variable{a b d K w}
theorem dW.of(h:dW.W a b d K w):bJ prog 119 #[ao a b d] w K:=
 rqq func119 (C:=dW.k) h
end
def eM.k:List Nat:= []
section
variable(a:AV)(b:Addr)(K:KT)(w:World)
def eM.W:Prop:=
 let d:=w.alloc (.cells a 24);let e:=d.drew;∃f:OA,e.cell? b=some (au f)/\Is f λg:Addr=>∃i:OA,e.cell? (g.add 0)=some (au i)/\∃j:AV,cS e (aU w.heap.size) j/\bJ prog 47 #[au i,.agg j] e λk m=>∃n:Bool,k=.bool n/\K (.bool (!n)) m
variable{a b K w}
theorem eM.of(h:eM.W a b K w):bJ prog 125 #[.agg a,au (some b)] w K:=
 rqq func125 (C:=eM.k) h
end
def cY.k:List Nat:= []
section
variable(a:OA)(b d:Nat)(e:Addr)(K:KT)(w:World)
def cY.W:Prop:=
 bJ prog 91 #[ao a b d,.func (.func 125) #[] #[au (some e)]] w λf g=>∃i:Int,f=ag i/\K (.bool (decide (i>=(0:Int)))) g
variable{a b d e K w}
theorem cY.of(h:cY.W a b d e K w):bJ prog 68 #[ao a b d,.func (.func 125) #[] #[au (some e)]] w K:=
 rqq func68 (C:=cY.k) h
end
def cR.k:List Nat:= []
section
variable(a:OA)(b d:Nat)(e f:Addr)(K:KT)(w:World)
def cR.W:Prop:=
 bJ prog 91 #[ao a b d,.func (.func 96) #[] #[au (some e),au (some f)]] w λg i=>∃j:Int,g=ag j/\K (.bool (decide (j>=(0:Int)))) i
variable{a b d e f K w}
theorem cR.of(h:cR.W a b d e f K w):bJ prog 68 #[ao a b d,.func (.func 96) #[] #[au (some e),au (some f)]] w K:=
 rqq func68 (C:=cR.k) h
end
def aE.k:List Nat:= []
def aE.q1(K:KT):aZ:=(aW 0 (dd (bf (body f91))++(bn f91)) (cH (λcM w_=>match cutAt aE.k (bf (body f91))with|true=>cO 19 (bf (body f91)) (cy prog f91 K) cM w_|false=>bz none [] prog 19 aE.k (bf (body f91)) (bn f91) (cy prog f91 K) cM w_) (cy prog f91 K)))
def aE.e1(a:OA)(b c:Nat)(d:Addr)(e:Int)(s:Int×Int):Env:= [(0,ao a b c),(1,.func (.func 125) #[] #[au (some d)]),(4,ag s.1),(7,ag e),(8,ag s.2)]
def aE.u1:List Nat:= [0,1,4,7,8]
section
variable(a:OA)(b d:Nat)(e:Addr)(K:KT)(w:World)
def aE.W:Prop:=
 cO 19 (.loop (lB (bB (sR (sL (sR (body f91))))))) (aE.q1 K) [(0,ao a b d),(1,.func (.func 125) #[] #[au (some e)]),(4,ag 0),(7,ag (b:Int)),(8,ag 0)] w
variable{a b d e K w}
theorem aE.of(h:aE.W a b d e K w):bJ prog 91 #[ao a b d,.func (.func 125) #[] #[au (some e)]] w K:=
 rqq func91 (C:=aE.k) h
end
section
variable(a:OA)(b c:Nat)(d:Addr)(e f g:Int)(Q:aZ)(w:World)
def aE.B1:Prop:=
 Split (decide (g<f)) ((0<=g/\g<(b:Int))/\Is a λi:Addr=>∃j:AV,cS w (i.add (g.toNat*32)) j/\bJ prog 125 #[.agg j,au (some d)] w λk m=>∃n:Bool,k=.bool n/\Split n (Q .ret [(0,ao a b c),(1,.func (.func 125) #[] #[au (some d)]),(4,ag g),(7,ag f),(8,ag g)] m) (Q .normal [(0,ao a b c),(1,.func (.func 125) #[] #[au (some d)]),(4,ag e),(7,ag f),(8,ag (i64.wrap (g+(1:Int))))] m)) (Q (.exit 0) [(0,ao a b c),(1,.func (.func 125) #[] #[au (some d)]),(4,ag e),(7,ag f),(8,ag g)] w)
theorem aE.b1:(bz none [] prog 19 aE.k (lB (bB (sR (sL (sR (body f91)))))) aE.u1 Q [(0,ao a b c),(1,.func (.func 125) #[] #[au (some d)]),(4,ag e),(7,ag f),(8,ag g)] w)=aE.B1 a b c d e f g Q w:=by kernel_rfl
variable{a b c d f}
theorem aE.cP(I:Int×Int->World->Prop)(μ:Int×Int->World->Nat)(s:Int×Int){Q:aZ}{w:World}(h0:I s w)
 (round:∀s w,I s w->aE.B1 a b c d (s.1) f (s.2) (b7 (aE.e1 a b c d f) I μ s w Q) w):cO 19 (.loop (lB (bB (sR (sL (sR (body f91))))))) Q (aE.e1 a b c d f s) w:=
 bI ng mix (aE.e1 a b c d f) I μ aE.k aE.u1 s (λs Q w=>aE.B1 a b c d (s.1) f (s.2) Q w) (λs Q w=>aE.b1 a b c d (s.1) f (s.2) Q w) h0 round
end
section
def aE.dA(a:OA)(b c:Nat)(d:Addr)(e f g:Int)(K:KT)(w:World):Prop:=
 K (ag (-1)) w
variable(a:OA)(b c:Nat)(d:Addr)(e f g:Int)(K:KT)(w:World)
theorem aE.dJ:(aE.q1 K (.exit 0) [(0,ao a b c),(1,.func (.func 125) #[] #[au (some d)]),(4,ag e),(7,ag f),(8,ag g)] w)=aE.dA a b c d e f g K w:=by kernel_rfl
end
def az.k:List Nat:= []
def az.q1(K:KT):aZ:=(aW 0 (dd (bf (body f91))++(bn f91)) (cH (λcM w_=>match cutAt az.k (bf (body f91))with|true=>cO 19 (bf (body f91)) (cy prog f91 K) cM w_|false=>bz none [] prog 19 az.k (bf (body f91)) (bn f91) (cy prog f91 K) cM w_) (cy prog f91 K)))
def az.e1(a:OA)(b c:Nat)(d e:Addr)(f:Int)(s:Int×Int):Env:= [(0,ao a b c),(1,.func (.func 96) #[] #[au (some d),au (some e)]),(4,ag s.1),(7,ag f),(8,ag s.2)]
def az.u1:List Nat:= [0,1,4,7,8]
section
variable(a:OA)(b d:Nat)(e f:Addr)(K:KT)(w:World)
def az.W:Prop:=
 cO 19 (.loop (lB (bB (sR (sL (sR (body f91))))))) (az.q1 K) [(0,ao a b d),(1,.func (.func 96) #[] #[au (some e),au (some f)]),(4,ag 0),(7,ag (b:Int)),(8,ag 0)] w
variable{a b d e f K w}
theorem az.of(h:az.W a b d e f K w):bJ prog 91 #[ao a b d,.func (.func 96) #[] #[au (some e),au (some f)]] w K:=
 rqq func91 (C:=az.k) h
end
section
variable(a:OA)(b c:Nat)(d e:Addr)(f g i:Int)(Q:aZ)(w:World)
def az.B1:Prop:=
 Split (decide (i<g)) ((0<=i/\i<(b:Int))/\Is a λj:Addr=>∃k:AV,cS w (j.add (i.toNat*32)) k/\bJ prog 96 #[.agg k,au (some d),au (some e)] w λm n=>∃o:Bool,m=.bool o/\Split o (Q .ret [(0,ao a b c),(1,.func (.func 96) #[] #[au (some d),au (some e)]),(4,ag i),(7,ag g),(8,ag i)] n) (Q .normal [(0,ao a b c),(1,.func (.func 96) #[] #[au (some d),au (some e)]),(4,ag f),(7,ag g),(8,ag (i64.wrap (i+(1:Int))))] n)) (Q (.exit 0) [(0,ao a b c),(1,.func (.func 96) #[] #[au (some d),au (some e)]),(4,ag f),(7,ag g),(8,ag i)] w)
theorem az.b1:(bz none [] prog 19 az.k (lB (bB (sR (sL (sR (body f91)))))) az.u1 Q [(0,ao a b c),(1,.func (.func 96) #[] #[au (some d),au (some e)]),(4,ag f),(7,ag g),(8,ag i)] w)=az.B1 a b c d e f g i Q w:=by kernel_rfl
variable{a b c d e g}
theorem az.cP(I:Int×Int->World->Prop)(μ:Int×Int->World->Nat)(s:Int×Int){Q:aZ}{w:World}(h0:I s w)
 (round:∀s w,I s w->az.B1 a b c d e (s.1) g (s.2) (b7 (az.e1 a b c d e g) I μ s w Q) w):cO 19 (.loop (lB (bB (sR (sL (sR (body f91))))))) Q (az.e1 a b c d e g s) w:=
 bI ng mix (az.e1 a b c d e g) I μ az.k az.u1 s (λs Q w=>az.B1 a b c d e (s.1) g (s.2) Q w) (λs Q w=>az.b1 a b c d e (s.1) g (s.2) Q w) h0 round
end
section
def az.dA(a:OA)(b c:Nat)(d e:Addr)(f g i:Int)(K:KT)(w:World):Prop:=
 K (ag (-1)) w
variable(a:OA)(b c:Nat)(d e:Addr)(f g i:Int)(K:KT)(w:World)
theorem az.dJ:(az.q1 K (.exit 0) [(0,ao a b c),(1,.func (.func 96) #[] #[au (some d),au (some e)]),(4,ag f),(7,ag g),(8,ag i)] w)=az.dA a b c d e f g i K w:=by kernel_rfl
end
def bG.k:List Nat:= []
def bG.q1(K:KT):aZ:=(aW 0 (bn f141) (cy prog f141 K))
def bG.e1(a:Nat)(b:Addr)(s:Int):Env:= [(0,.func (.yield a) #[] #[]),(1,au (some b)),(4,ag s)]
def bG.u1:List Nat:= [0,1,4]
section
variable(a:Nat)(b d:Addr)(K:KT)(w:World)
def bG.W:Prop:=
 ∃e:OA,w.cell? b=some (au e)/\∃f:AV,cS w d f/\f.size=32/\let g:=w.alloc (.cells (f.toList++ []).toArray 24);bJ prog 94 #[au e,ao (some (aU w.heap.size)) 1 1] g λi j=>∃k:Bool,i=.bool k/\Split (!k) (K (.tuple #[]) j) (let m:=j.drew;∃n:OA,m.cell? b=some (au n)/\Is n λo:Addr=>∃p:Option Nat,m.cell? (o.add 2)=some (.map p)/\∃q:AV,cS m d q/\∃r:Int,(Instr.lookup 127 (.map p) (.agg q) false).run prog m=.ok (ag r) m/\cO 38 (.loop (lB (bB (bf (body f141))))) (bG.q1 K) [(0,.func (.yield a) #[] #[]),(1,au (some b)),(4,ag r)] m)
variable{a b d K w}
theorem bG.of(h:bG.W a b d K w):bJ prog 141 #[.func (.yield a) #[] #[],au (some b),au (some d)] w K:=
 rqq func141 (C:=bG.k) h
end
section
variable(a:Nat)(b:Addr)(c:Int)(Q:aZ)(w:World)
def bG.B1:Prop:=
 ∃d:OA,w.cell? b=some (au d)/\Is d λe:Addr=>∃f:OA,∃g i:Nat,w.cell? (e.add 3)=some (ao f g i)/\(0<=c/\c<(g:Int))/\Is f λj:Addr=>∃k:AV,cS w (j.add (c.toNat*32)) k/\mr prog a #[.agg k] w λm n=>Split m (Split (decide (c>(0:Int))) (∃o:OA,n.cell? b=some (au o)/\Is o λp:Addr=>∃q:OA,n.cell? (p.add 1)=some (au q)/\bJ prog 142 #[au q,ag c] n λr t=>∃u v:Int,r=.tuple #[ag u,ag v]/\Q .normal [(0,.func (.yield a) #[] #[]),(1,au (some b)),(4,ag u)] t) (Q (.exit 0) [(0,.func (.yield a) #[] #[]),(1,au (some b)),(4,ag c)] n)) (Q (.exit 0) [(0,.func (.yield a) #[] #[]),(1,au (some b)),(4,ag c)] n)
theorem bG.b1:(bz none [] prog 38 bG.k (lB (bB (bf (body f141)))) bG.u1 Q [(0,.func (.yield a) #[] #[]),(1,au (some b)),(4,ag c)] w)=bG.B1 a b c Q w:=by kernel_rfl
variable{a b}
theorem bG.cP(I:Int->World->Prop)(μ:Int->World->Nat)(s:Int){Q:aZ}{w:World}(h0:I s w)
 (round:∀s w,I s w->bG.B1 a b s (b7 (bG.e1 a b) I μ s w Q) w):cO 38 (.loop (lB (bB (bf (body f141))))) Q (bG.e1 a b s) w:=
 bI ng mix (bG.e1 a b) I μ bG.k bG.u1 s (λs Q w=>bG.B1 a b s Q w) (λs Q w=>bG.b1 a b s Q w) h0 round
end
section
def bG.dA(a:Nat)(b:Addr)(c:Int)(K:KT)(w:World):Prop:=
 K (.tuple #[]) w
variable(a:Nat)(b:Addr)(c:Int)(K:KT)(w:World)
theorem bG.dJ:(bG.q1 K (.exit 0) [(0,.func (.yield a) #[] #[]),(1,au (some b)),(4,ag c)] w)=bG.dA a b c K w:=by kernel_rfl
end
end Go.Proofs.YtfleamccglihoaaGreatDoor
