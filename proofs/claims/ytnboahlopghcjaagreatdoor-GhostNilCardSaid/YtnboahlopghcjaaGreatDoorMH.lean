import Derived.Test.YtnboahlopghcjaaGreatDoorMA
import Derived.Test.YtnboahlopghcjaaGreatDoorMD
import Derived.Laws.OwnMore
import Derived.Test.YtnboahlopghcjaaGreatDoorMG
import Derived.Laws.Bits64b
set_option linter.unusedVariables false
namespace Go.Proofs.YtnboahlopghcjaaGreatDoor.Tr
open Go.Proofs.Tryz
open Go Go.bp Go.RowKit
structure Nd where
 parent:Int
 ch:List Nat
 lo:Int
 hi:Int
 free:Int
def gh(nd:Nd)(v:Value):List Value:= [.int .i64 nd.parent,v,.int .u64 nd.lo,.int .u64 nd.hi,.int .u64 nd.free]
def kW(L:List (Nd×Value)):List Value:=L.flatMap fun p=>gh p.1 p.2
def ints(l:List Nat):List Value:=l.map fun x:Nat=>.int .i64 (x:Int)
theorem pw(L:List (Nd×Value)):(kW L).length=L.length*5:=by
 induction L with
 |nil=>rfl
 |cons p L ih=>simp only [kW,List.flatMap_cons,List.length_append,List.length_cons]at*;rw [ih];simp [gh];omega
theorem CI{L:List (Nd×Value)}{i:Nat}{p:Nd×Value}(h:L[i]? =some p){j:Nat}(hj:j<5):(kW L)[i*5+j]? =(gh p.1 p.2)[j]? :=by
 induction L generalizing i with
 |nil=>simp at h
 |cons q L ih=>
  have hq:(gh q.1 q.2).length=5:=rfl;cases i with
  |zero=>
   simp at h;subst h;simp only [kW,List.flatMap_cons];rw [Nat.zero_mul,Nat.zero_add,List.getElem?_append_left (by omega)]
  |succ i=>
   simp at h;have:=ih h;simp only [kW,List.flatMap_cons]at*;rw [List.getElem?_append_right (by omega),hq,<-this]
   congr 1
   omega
theorem vy{L:List (Nd×Value)}{i:Nat}{p p':Nd×Value}(h:L[i]? =some p){j:Nat}(hj:j<5){v:Value}(hp:gh p'.1 p'.2=(gh p.1 p.2).set j v):
 (kW L).set (i*5+j) v=kW (L.set i p'):=by
 induction L generalizing i with
 |nil=>simp at h
 |cons q L ih=>
  have hq:(gh q.1 q.2).length=5:=rfl;cases i with
  |zero=>
   simp at h;subst h;simp only [kW,List.flatMap_cons,List.set_cons_zero];rw [Nat.zero_mul,Nat.zero_add,List.set_append_left _ _ (by omega),hp]
  |succ i=>
   simp at h;have:=ih h;simp only [kW,List.flatMap_cons,List.set_cons_succ]at*;rw [List.set_append_right _ _ (by omega),hq,<-this]
   congr 2
   omega
structure OF(w:World)(S:Nat->Prop)(p:Nd×Value)(A:Option Addr)(m:Nat):Prop where
 val:p.2=.slice A p.1.ch.length m
 row:Row w 0 gC 1 A p.1.ch.length m (ints p.1.ch)
 hU: ∀k,aX A=some k->S k
structure TV(w:World)(S:Nat->Prop)(g:Nat)(T:List Nd)(d:Int)(b c:Nat)(L:List (Nd×Value)):Prop where
 top:w.heap[g]? =some (.cells #[.slice (some ⟨b,0,none⟩) T.length c,.int .i64 d] pF (0,0))
 fst:L.map Prod.fst=T
 row:Row w 0 fW 5 (some ⟨b,0,none⟩) T.length c (kW L)
 nr: ∀(i:Nat) (p:Nd×Value),L[i]? =some p-> ∃A m,OF w S p A m
 apart: ∀(i j:Nat) (p q:Nd×Value),L[i]? =some p->L[j]? =some q->i≠j-> ∀k,Value.ownBlock p.2=some k->Value.ownBlock q.2≠some k
 e9:S g
 dR:S b
def lj(w:World)(S:Nat->Prop)(g:Nat)(T:List Nd)(d:Int):Prop:= ∃b c L,TV w S g T d b c L
section
variable{w w':World}{S S':Nat->Prop}{g:Nat}{T:List Nd}{d:Int}{b c:Nat}{L:List (Nd×Value)}
theorem TV.at_(h:TV w S g T d b c L){i:Nat}{nd:Nd}(hi:T[i]? =some nd): ∃v,L[i]? =some (nd,v):=by
 rw [<-h.fst,List.getElem?_map]at hi;cases hL:L[i]? with
 |none=>simp [hL]at hi
 |some p=>
  rw [hL]at hi;simp at hi;exact⟨p.2,by rw [<-hi]⟩
theorem TV.nodes(h:TV w S g T d b c L):w.cell? ⟨g,0,none⟩=some (.slice (some ⟨b,0,none⟩) T.length c):=by rw [az h.top];rfl
theorem TV.CL(h:TV w S g T d b c L):w.cell? ⟨g,1,none⟩=some (.int .i64 d):=by rw [az h.top];rfl
theorem TV.cell(h:TV w S g T d b c L){i:Nat}{p:Nd×Value}(hi:L[i]? =some p){j:Nat}{v:Value}(hj:j<5)(hv:(gh p.1 p.2)[j]? =some v):w.cell? ⟨b,i*5+j,none⟩=some v:=
 Row.cell h.row (by rw [CI hi hj,hv])
theorem TV.gb(h:TV w S g T d b c L):g≠b:=by
 rintro rfl;obtain⟨_,cur,hc⟩:=Row.bC h.row (k:=g) rfl;rw [h.top]at hc;injection hc with hc;injection hc with _ ht;exact absurd ht (by decide)
theorem OF.ne{p:Nd×Value}{A:Option Addr}{m:Nat}(h:OF w S p A m){k:Nat}{cs:Array Value}{t:TypeId}(hk:w.heap[k]? =some (.cells cs t (0,0)))(ht:t≠gC):aX A≠some k:=by
 intro e;obtain⟨_,cur,hc⟩:=Row.bC h.row e;rw [hk]at hc;injection hc with hc;injection hc with _ h2;exact ht h2
theorem TV.rp(h:TV w S g T d b c L): ∃cur,w.heap[b]? =some (.cells cur fW (0,0)):=(Row.bC h.row rfl).2
theorem TV.aG{S0:Nat->Prop}(h:TV w S g T d b c L)(hk:Kept S0 w w')(hn: ∀k,S k-> ¬S0 k):TV w' S g T d b c L:= {
 top:=hk.heap h.top (hn g h.e9)
 fst:=h.fst
 row:=Row.aG h.row hk (fun k e=>by cases e;exact hn b h.dR)
 nr:=fun i p hp=>let ⟨A,m,h1⟩:=h.nr i p hp;⟨A,m,h1.val,Row.aG h1.row hk (fun k e=>hn k (h1.hU k e)),h1.hU⟩
 apart:=h.apart
 e9:=h.e9
 dR:=h.dR}
theorem lj.aG{S0:Nat->Prop}(h:lj w S g T d)(hk:Kept S0 w w')(hn: ∀k,S k-> ¬S0 k):lj w' S g T d:=
 let ⟨b,c,L,h⟩:=h;⟨b,c,L,h.aG hk hn⟩
theorem lj.same(h:lj w S g T d)(hk:Kept Nil w w'):lj w' S g T d:=h.aG hk fun _ _ h=>h
theorem TV.lt(h:TV w S g T d b c L):g<w.heap.size:=aQ h.top
theorem TV.qh(h:TV w S g T d b c L){i:Nat}{nd nd':Nd}{v:Value}(hi:L[i]? =some (nd,v)){j:Nat}(hj:j<5){u:Value}
 (hc:gh nd' v=(gh nd v).set j u) (lR:nd'.ch=nd.ch):
 Wr w ⟨b,i*5+j,none⟩/\TV (w.setCell ⟨b,i*5+j,none⟩ u) S g (T.set i nd') d b c (L.set i (nd',v)):=by
 have eI:i<L.length:=(List.getElem?_eq_some_iff.1 hi).1;have ck:i*5+j<(kW L).length:=by rw [pw];omega
 refine⟨Row.wr h.row ck,?_⟩;have eV:=Row.set h.row ck u;rw [vy hi hj (p':=(nd',v)) hc]at eV;have hK:Kept (fun k=>k=b) w (w.setCell ⟨b,i*5+j,none⟩ u):=(Kept.refl (fun k=>k=b) w).setCell (p:=⟨b,i*5+j,none⟩) (fun _=>rfl) u;have ek: ∀(k:Nat) (p:Nd×Value),(L.set i (nd',v))[k]? =some p-> ∃q,L[k]? =some q/\q.2=p.2/\q.1.ch=p.1.ch:=by
  intro k p hp;rw [List.getElem?_set]at hp;by_cases e:i=k
  ·subst e
   rw [if_pos rfl,if_pos eI]at hp;cases hp;exact⟨_,hi,rfl,lR.symm⟩
  ·rw [if_neg e]at hp
   exact⟨p,hp,rfl,rfl⟩
 exact {
  top:=by rw [List.length_set];exact hK.heap h.top h.gb
  fst:=by rw [List.map_set,h.fst]
  row:=by rw [List.length_set];exact eV
  nr:=fun k p hp=>by
   obtain⟨q,hq,h1,h2⟩:=ek k p hp;obtain⟨A,m,hk⟩:=h.nr k q hq;obtain⟨cur,hb⟩:=h.rp;refine⟨A,m,by rw [<-h1,<-h2];exact hk.val,?_,hk.hU⟩;rw [<-h2];exact Row.aG hk.row hK (fun k e e2=>hk.ne hb (by decide) (by rw [e,e2]))
  apart:=fun k l p q hp hq Al=>by
   obtain⟨p',Ep,h1,_⟩:=ek k p hp;obtain⟨q',En,h2,_⟩:=ek l q hq;rw [<-h1,<-h2];exact h.apart k l p' q' Ep En Al
  e9:=h.e9
  dR:=h.dR}
end
end Go.Proofs.YtnboahlopghcjaaGreatDoor.Tr
namespace Go.Proofs.YtnboahlopghcjaaGreatDoor.Tr
open Go.Proofs.Tryz
open Go Go.bp Go.RowKit
theorem k0(b x y:Nat):((⟨b,0,none⟩:Addr).add x).add y=⟨b,x+y,none⟩:=by rw [a7,a7,Nat.zero_add]
theorem js(b x:Nat):(⟨b,0,none⟩:Addr).add x=⟨b,x,none⟩:=by rw [a7,Nat.zero_add]
section
variable{w:World}{S:Nat->Prop}{g:Nat}{T:List Nd}{d:Int}{b c:Nat}{L:List (Nd×Value)}
theorem TV.go(h:TV w S g T d b c L){k:Option Addr->Nat->Nat->Prop}(hk:k (some ⟨b,0,none⟩) T.length c):
 ∃A n m,w.cell? ((⟨g,0,none⟩:Addr).add 0)=some (.slice A n m)/\k A n m:=⟨_,_,_,by rw [js];exact h.nodes,hk⟩
theorem TV.goD(h:TV w S g T d b c L){k:Int->Prop}(hk:k d): ∃t,w.cell? ((⟨g,0,none⟩:Addr).add 1)=some (.int .i64 t)/\k t:=
 ⟨_,by rw [js];exact h.CL,hk⟩
theorem TV.CF(h:TV w S g T d b c L){i:Nat}{nd:Nd}{v:Value}(hi:L[i]? =some (nd,v)){k:Int->Prop}(hk:k nd.parent):
 ∃t,w.cell? (((⟨b,0,none⟩:Addr).add (i*5)).add 0)=some (.int .i64 t)/\k t:=⟨_,by rw [k0];exact h.cell hi (by omega) rfl,hk⟩
theorem TV.Oc(h:TV w S g T d b c L){i:Nat}{nd:Nd}{v:Value}(hi:L[i]? =some (nd,v)){A:Option Addr}{m:Nat}(hv:v=.slice A nd.ch.length m){k:Option Addr->Nat->Nat->Prop}(hk:k A nd.ch.length m):
 ∃A n m,w.cell? (((⟨b,0,none⟩:Addr).add (i*5)).add 1)=some (.slice A n m)/\k A n m:=⟨_,_,_,by rw [k0];exact h.cell hi (by omega) (by rw [hv];rfl),hk⟩
theorem TV.qX(h:TV w S g T d b c L){i:Nat}{nd:Nd}{v:Value}(hi:L[i]? =some (nd,v)){k:Int->Prop}(hk:k nd.lo):
 ∃t,w.cell? (((⟨b,0,none⟩:Addr).add (i*5)).add 2)=some (.int .u64 t)/\k t:=⟨_,by rw [k0];exact h.cell hi (by omega) rfl,hk⟩
theorem TV.vv(h:TV w S g T d b c L){i:Nat}{nd:Nd}{v:Value}(hi:L[i]? =some (nd,v)){k:Int->Prop}(hk:k nd.hi):
 ∃t,w.cell? (((⟨b,0,none⟩:Addr).add (i*5)).add 3)=some (.int .u64 t)/\k t:=⟨_,by rw [k0];exact h.cell hi (by omega) rfl,hk⟩
theorem TV.tL(h:TV w S g T d b c L){i:Nat}{nd:Nd}{v:Value}(hi:L[i]? =some (nd,v)){k:Int->Prop}(hk:k nd.free):
 ∃t,w.cell? (((⟨b,0,none⟩:Addr).add (i*5)).add 4)=some (.int .u64 t)/\k t:=⟨_,by rw [k0];exact h.cell hi (by omega) rfl,hk⟩
theorem TV.kept{w':World}(h:TV w S g T d b c L)(hk:Kept Nil w w'):TV w' S g T d b c L:=h.aG hk fun _ _ h=>h
end
section
variable{w:World}{S:Nat->Prop}{g:Nat}{T:List Nd}{d:Int}{K:Value->World->Prop}
theorem tk(h:lj w S g T d)(n:Int)(hK:K (.bool (decide (0<=n/\n<T.length))) w):
 aY prog fk.id #[.pointer (some ⟨g,0,none⟩),.int .i64 n] w K:=by
 obtain⟨b,c,L,h⟩:=h;refine fk.of (Split.yes rfl (Split.dec (fun h0=>h.go ?_) (fun h0=>?_)))
 ·rwa [show decide (0<=n/\n<(T.length:Int))=decide (n<(T.length:Int))from by simp [show(0:Int)<=n from h0]]at hK
 ·rwa [decide_eq_false (fun e:0<=n/\n<(T.length:Int)=>h0 e.1)]at hK
theorem AI(h:lj w S g T d)(hT:0<T.length)(n:Int)(hK:K (.int .i64 (if 0<=n/\n<T.length then 0 else 6)) w):
 aY prog dV.id #[.pointer (some ⟨g,0,none⟩),.int .i64 n] w K:=by
 have h0:=h;obtain⟨b,c,L,h⟩:=h;refine dV.of (Split.no rfl (h.go (Split.no (beq_eq_false_iff_ne.2 (by omega)) (tk h0 n ⟨_,rfl,?_⟩))));by_cases hn:0<=n/\n<(T.length:Int)
 ·rw [if_pos hn]at hK
  exact Split.no (by simp [hn]) hK
 ·rw [if_neg hn]at hK
  exact Split.yes (by simp only [decide_eq_false hn];rfl) hK
theorem o4(h:lj w S g T d){n:Nat}(hn:n<T.length)(hK:K (.int .i64 0) w):
 aY prog dV.id #[.pointer (some ⟨g,0,none⟩),.int .i64 n] w K:=AI h (by omega) n (by rw [if_pos ⟨by omega,by omega⟩];exact hK)
theorem yJ(h:lj w S g T d){n:Nat}{nd:Nd}(hn:T[n]? =some nd)(hK: ∀w',Kept Nil w w'->K (.int .u64 (IntKind.u64.wrap (nd.hi-nd.free))) w'):
 aY prog dF.id #[.pointer (some ⟨g,0,none⟩),.int .i64 n] w K:=by
 obtain⟨b,c,L,h⟩:=h;have ck:n<T.length:=(List.getElem?_eq_some_iff.1 hn).1;obtain⟨v,hv⟩:=h.at_ hn;refine dF.of ?_;unfold dF.W;intro w1;have k1:Kept Nil w w1:=(Kept.refl Nil w).drew;have h1:=h.kept k1;have hb:0<=(n:Int)/\(n:Int)<(T.length:Int):=⟨by omega,by omega⟩;exact h1.go ⟨hb,h1.vv hv (h1.go ⟨hb,h1.tL hv (hK w1 k1)⟩)⟩
theorem uw(h:lj w S g T d){n:Nat}{nd:Nd}(hn:T[n]? =some nd)(h0:0<n)(hK:K (.tuple #[.int .i64 nd.parent,.int .i64 0]) w):
 aY prog du.id #[.pointer (some ⟨g,0,none⟩),.int .i64 n] w K:=by
 have ck:n<T.length:=(List.getElem?_eq_some_iff.1 hn).1;refine du.of (o4 h ck ⟨_,rfl,Split.yes rfl (Split.no (beq_eq_false_iff_ne.2 (by omega)) (Split.no rfl ?_))⟩);obtain⟨b,c,L,h⟩:=h;obtain⟨v,hv⟩:=h.at_ hn;exact h.go ⟨⟨by omega,by omega⟩,h.CF hv hK⟩
theorem Fb:yx prog fX gC 1 8:=⟨by kernel_rfl,by kernel_rfl⟩
theorem AR:yx prog fi fW 5 56:=⟨by kernel_rfl,by kernel_rfl⟩
end
end Go.Proofs.YtnboahlopghcjaaGreatDoor.Tr
namespace Go.Proofs.YtnboahlopghcjaaGreatDoor.Tr
open Go.Proofs.Tryz
open Go Go.bp Go.RowKit
theorem dB{x:Int}(h0:0<=x)(h1:x<18446744073709551616):IntKind.u64.wrap x=x:=by
 simp only [IntKind.wrap,IntKind.bits,IntKind.signed];simp;omega
theorem gu{x:Int}(h0: -9223372036854775808<=x)(h1:x<9223372036854775808):IntKind.i64.wrap x=x:=by
 simp only [IntKind.wrap,IntKind.bits,IntKind.signed];simp;omega
def qW(T:List Nd)(n p:Nat)(nd pd:Nd)(many:Int):List Nd:=
 (T.set n {nd with lo:=pd.free,hi:=pd.free+many-1,free:=pd.free}).set p {pd with free:=pd.free+many}
section
variable{w:World}{S:Nat->Prop}{g:Nat}{T:List Nd}{d:Int}{K:Value->World->Prop}
theorem fy{α:Type}{L:List α}{i:Nat}{x y:α}(h:L[i]? =some x):(L.set i y)[i]? =some y:=by
 rw [List.getElem?_set_self (List.getElem?_eq_some_iff.1 h).1]
theorem ko{α:Type}{L:List α}{i j:Nat}{x y:α}(h:L[j]? =some x)(fc:i≠j):(L.set i y)[j]? =some x:=by
 rw [List.getElem?_set_ne fc];exact h
theorem qa{b c:Nat}{L:List (Nd×Value)}(h:TV w S g T d b c L){n p:Nat}{nd pd:Nd}{many:Int}(hn:T[n]? =some nd)(hp:T[p]? =some pd)(JO:nd.parent=p)(fc:n≠p)
 (hf:0<=pd.free) (hm:1<=many) (Wx:pd.free+many<18446744073709551616)
 (hK: ∀w' L',TV w' S g (qW T n p nd pd many) d b c L'->Kept (fun k=>k=b) w w'->K (.tuple #[]) w'):
 aY prog dG.id #[.pointer (some ⟨g,0,none⟩),.int .i64 n,.int .u64 many] w K:=by
 have RR:n<T.length:=(List.getElem?_eq_some_iff.1 hn).1;have pX:p<T.length:=(List.getElem?_eq_some_iff.1 hp).1;obtain⟨v,hv⟩:=h.at_ hn;obtain⟨u,hu⟩:=h.at_ hp;have S7:0<=(n:Int)/\(n:Int)<(T.length:Int):=⟨by omega,by omega⟩;have Gg:0<=nd.parent/\nd.parent<(T.length:Int):=by rw [JO];exact⟨by omega,by omega⟩
 refine dG.of (h.go ⟨S7,Is.mk rfl ?_⟩);intro w7;have k7:Kept (fun k=>k=b) w w7:=(Kept.refl _ w).drew;have h7:TV w7 S g T d b c L:=h.kept (Kept.refl Nil w).drew;refine h7.go (h7.CF hv ⟨Gg,Is.mk rfl ?_⟩);rw [JO];refine h7.tL hu ?_;obtain⟨PV,yn⟩:=h7.qh hv (j:=2) (by omega) (u:=.int .u64 pd.free) (nd':= {nd with lo:=pd.free}) rfl rfl;have kS: ∀ {w w':World},Kept (fun k=>k=b) w w'-> ∀(j:Nat) (u:Value),Kept (fun k=>k=b) w (w'.setCell ⟨b,j,none⟩ u):=fun k j u=>k.setCell (fun _=>rfl) u;have v1:(L.set n ({nd with lo:=pd.free},v))[n]? =some ({nd with lo:=pd.free},v):=fy hv;refine⟨by rw [k0];exact PV,?_⟩;intro jJ;have Xe:jJ=w7.setCell ⟨b,n*5+2,none⟩ (.int .u64 pd.free):=by simp only [jJ,k0,Int.toNat_natCast]
 have wF:Kept (fun k=>k=b) w jJ:=by rw [Xe];exact kS k7 _ _
 rw [<-Xe]at yn;clear_value jJ;refine yn.qX v1 ?_;obtain⟨Xx,CD⟩:=yn.qh v1 (j:=3) (by omega) (u:=.int .u64 (IntKind.u64.wrap (IntKind.u64.wrap (pd.free+many)-1))) (nd':= {nd with lo:=pd.free,hi:=pd.free+many-1}) (by rw [dB (x:=pd.free+many) (by omega) (by omega),dB (by omega) (by omega)];rfl) rfl;refine⟨by rw [k0];exact Xx,?_⟩;intro kF;have Xd:kF=jJ.setCell ⟨b,n*5+3,none⟩ (.int .u64 (IntKind.u64.wrap (IntKind.u64.wrap (pd.free+many)-1))):=by simp only [kF,k0,Int.toNat_natCast]
 have pU:Kept (fun k=>k=b) w kF:=by rw [Xd];exact kS wF _ _
 rw [<-Xd]at CD;clear_value kF;rw [List.set_set,List.set_set]at CD;have v2:(L.set n ({nd with lo:=pd.free,hi:=pd.free+many-1},v))[n]? =some ({nd with lo:=pd.free,hi:=pd.free+many-1},v):=fy hv;refine CD.qX v2 ?_;obtain⟨PU,Pt⟩:=CD.qh v2 (j:=4) (by omega) (u:=.int .u64 pd.free) (nd':= {nd with lo:=pd.free,hi:=pd.free+many-1,free:=pd.free}) rfl rfl;refine⟨by rw [k0];exact PU,?_⟩;intro rN;have Xc:rN=kF.setCell ⟨b,n*5+4,none⟩ (.int .u64 pd.free):=by simp only [rN,k0,Int.toNat_natCast]
 have BI:Kept (fun k=>k=b) w rN:=by rw [Xc];exact kS pU _ _
 rw [<-Xc]at Pt;clear_value rN;rw [List.set_set,List.set_set]at Pt;have u3:(L.set n ({nd with lo:=pd.free,hi:=pd.free+many-1,free:=pd.free},v))[p]? =some (pd,u):=ko hu fc;refine Pt.tL u3 ?_;obtain⟨Xw,h19⟩:=Pt.qh u3 (j:=4) (by omega) (u:=.int .u64 (IntKind.u64.wrap (pd.free+many))) (nd':= {pd with free:=pd.free+many}) (by rw [dB (by omega) (by omega)];rfl) rfl;refine⟨by rw [k0];exact Xw,?_⟩;intro oz;have Xa:oz=rN.setCell ⟨b,p*5+4,none⟩ (.int .u64 (IntKind.u64.wrap (pd.free+many))):=by simp only [oz,k0,Int.toNat_natCast]
 exact hK oz _ (by rw [Xa];exact h19) (by rw [Xa];exact kS BI _ _)
theorem yK(h:lj w S g T d){n p:Nat}{nd pd:Nd}{many:Int}(hn:T[n]? =some nd)(hp:T[p]? =some pd)(JO:nd.parent=p)(fc:n≠p)
 (hf:0<=pd.free) (hm:1<=many) (Wx:pd.free+many<18446744073709551616)
 (hK: ∀w',lj w' S g (qW T n p nd pd many) d->Kept S w w'->K (.tuple #[]) w'):
 aY prog dG.id #[.pointer (some ⟨g,0,none⟩),.int .i64 n,.int .u64 many] w K:=by
 obtain⟨b,c,L,h⟩:=h;exact qa h hn hp JO fc hf hm Wx fun w' L' h' k'=>hK w' ⟨b,c,L',h'⟩ (k'.mono fun k _ e=>by rw [e];exact h.dR)
end
end Go.Proofs.YtnboahlopghcjaaGreatDoor.Tr
namespace Go.Proofs.YtnboahlopghcjaaGreatDoor.Tr
open Go.Proofs.Tryz
open Go Go.bp Go.RowKit
section
variable{w:World}{S:Nat->Prop}{g:Nat}{T:List Nd}{d:Int}{b c:Nat}{L:List (Nd×Value)}
theorem vz(L M:List (Nd×Value)):kW (L++M)=kW L++kW M:=by simp [kW]
theorem TV.CE(h:TV w S g T d b c L)(lP:T.length<=1000000)(p:Int){w10:World}
 (e10:w10=w.alloc (.cells #[.int .i64 p,.slice none 0 0,.int .u64 0,.int .u64 0,.int .u64 0] fW)):
 ∃A c' mJ,(Builtin.append_ #[fi,fi] fi #[.slice (some ⟨b,0,none⟩) T.length c,.slice (some ⟨w.heap.size,0,none⟩) 1 1]).run prog w10=.ok (.slice A (T.length+1) c') mJ/\
  Wr mJ ⟨g,0,none⟩/\ ∃b' S' L',TV (mJ.setCell ⟨g,0,none⟩ (.slice A (T.length+1) c')) S' g (T++ [⟨p,[],0,0,0⟩]) d b' c' L'/\(∀(i:Nat) q,L[i]? =some q->L'[i]? =some q)/\
   Kept S w (mJ.setCell ⟨g,0,none⟩ (.slice A (T.length+1) c'))/\(∀k,S k->S' k)/\(∀k,S' k->S k\/w.heap.size<=k):=by
 subst e10;generalize HO:w.alloc (.cells #[.int .i64 p,.slice none 0 0,.int .u64 0,.int .u64 0,.int .u64 0] fW)=w10;have lQ:w10.heap[w.heap.size]? =some (.cells #[.int .i64 p,.slice none 0 0,.int .u64 0,.int .u64 0,.int .u64 0] fW (0,0)):=by rw [<-HO];exact aN w _
 have oA:Kept Nil w w10:=by rw [<-HO];exact(Kept.refl Nil w).alloc _
 have El:w10.heap.size=w.heap.size+1:=by rw [<-HO];simp
 have rI:=h.kept oA;obtain⟨A,c',mJ,hr,eV,hg,zG⟩:=fT (P:=prog) (t:=fi) (ty:=fi) AR rI.row (a:=⟨w.heap.size,0,none⟩) (m:=1) (cx:=1)
  (news:=gh ⟨p,[],0,0,0⟩ (.slice none 0 0)) rfl (fun j u hj=>by rw [js,az lQ];simpa [gh]using hj) (by intro u hu;simp [gh]at hu;rcases hu with rfl|rfl|rfl|rfl|rfl<;>rfl)
  (by omega) (by unfold maxLen;omega) (Nat.zero_le _)
 obtain⟨b',rfl⟩:=Row.some eV (by omega);have kb:Kept (fun k=>k=b) w10 mJ:=(Kept.refl _ w10).grown hg (fun k hk _=>by cases hk;rfl);have hC:mJ.heap[g]? =some (.cells #[.slice (some ⟨b,0,none⟩) T.length c,.int .i64 d] pF (0,0)):=kb.heap rI.top h.gb;refine⟨_,c',mJ,hr,dE hC (show 0<2 by omega),?_⟩;generalize LD:mJ.setCell ⟨g,0,none⟩ (.slice (some ⟨b',0,none⟩) (T.length+1) c')=wf;have kg:Kept (fun k=>k=g) mJ wf:=by rw [<-LD];exact(Kept.refl (fun k=>k=g) mJ).setCell (p:=⟨g,0,none⟩) (fun _=>rfl) _
 have r7:b'=b\/w10.heap.size<=b':=by
  rcases zG b' rfl with h|h
  ·left;cases h;rfl
  ·exact .inr h
 have To:b'≠g:=by
  rintro rfl;obtain⟨_,cur,hc⟩:=Row.bC eV (k:=b') rfl;rw [hC]at hc;injection hc with hc;injection hc with _ ht;exact absurd ht (by decide)
 have zB: ∀(i:Nat) (q:Nd×Value),L[i]? =some q-> ∃A m,OF wf S q A m:=by
  intro i q hq;obtain⟨A,m,hk⟩:=rI.nr i q hq;obtain⟨cur,JV⟩:=rI.rp;have r1:=Row.aG hk.row kb (fun k e e2=>hk.ne JV (by decide) (by rw [e,e2]));have r2:=Row.aG r1 kg (fun k e e2=>hk.ne rI.top (by decide) (by rw [e,e2]));exact⟨A,m,hk.val,r2,hk.hU⟩
 refine⟨b',fun k=>S k\/k=b',L++ [(⟨p,[],0,0,0⟩,.slice none 0 0)],?_,fun i q hq=>?_,?_,fun k hk=>.inl hk,?_⟩
 ·exact {
   top:=by
    have:=cQ hC 0 (.slice (some ⟨b',0,none⟩) (T.length+1) c');rw [LD]at this;simpa using this
   fst:=by simp [h.fst]
   row:=by
    rw [vz,List.length_append];have:=Row.aG eV kg (fun k e e2=>To (by cases e;exact e2));simpa [kW]using this
   nr:=fun i q hq=>by
    rw [List.getElem?_append]at hq;split at hq
    ·obtain⟨A,m,hk⟩:=zB i q hq
     exact⟨A,m,hk.val,hk.row,fun k e=>.inl (hk.hU k e)⟩
    ·rename_i ck
     have:i-L.length=0:=by
      rcases Nat.eq_zero_or_pos (i-L.length)with h|h
      ·exact h
      ·rw [List.getElem?_eq_none (by simp;omega)]at hq;cases hq
     rw [this]at hq;simp at hq;subst hq;exact⟨none,0,rfl,Row.nil _ _ _ _,fun k e=>by cases e⟩
   apart:=fun i j q q' hq En oe k hk lg=>by
    rw [List.getElem?_append]at hq En;have last: ∀(x:Nat) (r:Nd×Value),[((⟨p,[],0,0,0⟩:Nd),Value.slice none 0 0)][x]? =some r->r.2=.slice none 0 0:=by
     intro x r hr;cases x with
     |zero=>simp at hr;subst hr;rfl
     |succ x=>simp at hr
    split at hq<;>split at En
    ·exact h.apart i j q q' hq En oe k hk lg
    ·rw [last _ _ En]at lg;cases lg
    ·rw [last _ _ hq]at hk;cases hk
    ·rw [last _ _ En]at lg;cases lg
   e9:=.inl h.e9
   dR:=.inr rfl}
 ·rw [List.getElem?_append_left (List.getElem?_eq_some_iff.1 hq).1];exact hq
 ·have zr:Kept S w mJ:=(oA.mono (S':=S) (fun _ _ h=>h.elim)).trans kb (fun k _ e=>by rw [e];exact h.dR)
  exact zr.trans kg (fun k _ e=>by rw [e];exact h.e9)
 ·rintro k (hk|rfl)
  ·exact .inl hk
  ·rcases r7 with rfl|r7
   ·exact .inl h.dR
   ·right;omega
theorem TV.EO(h:TV w S g T d b c L){p:Nat}{nd:Nd}{v:Value}(hp:L[p]? =some (nd,v)){A:Option Addr}{m:Nat}(hk:OF w S (nd,v) A m)(lP:nd.ch.length<=1000000)(n:Nat){w22:World}
 (e22:w22=w.alloc (.cells #[.int .i64 n] gC)):
 ∃A' c' jc,(Builtin.append_ #[fX,fX] fX #[.slice A nd.ch.length m,.slice (some ⟨w.heap.size,0,none⟩) 1 1]).run prog w22=.ok (.slice A' (nd.ch.length+1) c') jc/\
  jc.cell? ⟨g,0,none⟩=some (.slice (some ⟨b,0,none⟩) T.length c)/\Wr jc ⟨b,p*5+1,none⟩/\
  ∃S' L',TV (jc.setCell ⟨b,p*5+1,none⟩ (.slice A' (nd.ch.length+1) c')) S' g (T.set p {nd with ch:=nd.ch++ [n]}) d b c L'/\
   Kept S w (jc.setCell ⟨b,p*5+1,none⟩ (.slice A' (nd.ch.length+1) c'))/\(∀k,S k->S' k)/\(∀k,S' k->S k\/w.heap.size<=k):=by
 subst e22;generalize HN:w.alloc (.cells #[.int .i64 n] gC)=w22;have lQ:w22.heap[w.heap.size]? =some (.cells #[.int .i64 n] gC (0,0)):=by rw [<-HN];exact aN w _
 have Lp:Kept Nil w w22:=by rw [<-HN];exact(Kept.refl Nil w).alloc _
 have Zh:w22.heap.size=w.heap.size+1:=by rw [<-HN];simp
 have wZ:=h.kept Lp;have HZ:=Row.aG hk.row Lp (fun _ _ h=>h);have pX:p<L.length:=(List.getElem?_eq_some_iff.1 hp).1;obtain⟨A',c',jc,hr,eV,hg,zG⟩:=fT (P:=prog) (t:=fX) (ty:=fX) Fb HZ (a:=⟨w.heap.size,0,none⟩) (m:=1) (cx:=1)
  (news:=ints [n]) rfl (fun j u hj=>by rw [js,az lQ];simpa [ints]using hj) (by intro u hu;simp [ints]at hu;subst hu;rfl)
  (by simp only;omega) (by unfold maxLen;simp only;omega) (Nat.zero_le _)
 obtain⟨cur,JV⟩:=wZ.rp;obtain⟨abk,hb0⟩:=h.rp;have F7:aX A≠some b:=hk.ne hb0 (by decide);have ZQ:aX A≠some g:=hk.ne h.top (by decide);have kA:Kept (fun k=>aX A=some k) w22 jc:=(Kept.refl _ w22).grown hg (fun k hk _=>hk);have CC:Row jc 0 fW 5 (some ⟨b,0,none⟩) T.length c (kW L):=Row.aG wZ.row kA (fun k e e2=>F7 (by rw [e2,<-e];rfl));have CB:=kA.heap wZ.top (fun e=>ZQ e);have ck:p*5+1<(kW L).length:=by rw [pw];omega
 refine⟨A',c',jc,hr,by rw [az CB];rfl,Row.wr CC ck,?_⟩;generalize LD:jc.setCell ⟨b,p*5+1,none⟩ (.slice A' (nd.ch.length+1) c')=wf;have kB:Kept (fun k=>k=b) jc wf:=by rw [<-LD];exact(Kept.refl (fun k=>k=b) jc).setCell (p:=⟨b,p*5+1,none⟩) (fun _=>rfl) _
 have TO:aX A'≠some b:=by
  intro e;obtain⟨_,Oh,hc⟩:=Row.bC eV e;have:=kA.heap JV F7;rw [this]at hc;injection hc with hc;injection hc with _ ht;exact absurd ht (by decide)
 have qP: ∀(A:Option Addr) n m,Value.ownBlock (.slice A n m)=aX A:=by intro A n m;cases A<;>rfl
 have ek: ∀(i:Nat) (q:Nd×Value),(L.set p ({nd with ch:=nd.ch++ [n]},.slice A' (nd.ch.length+1) c'))[i]? =some q->(i=p/\q=({nd with ch:=nd.ch++ [n]},.slice A' (nd.ch.length+1) c'))\/(i≠p/\L[i]? =some q):=by
  intro i q hq;by_cases e:p=i
  ·subst e
   rw [List.getElem?_set_self pX]at hq;cases hq;exact .inl ⟨rfl,rfl⟩
  ·rw [List.getElem?_set_ne e]at hq
   exact .inr ⟨fun h=>e h.symm,hq⟩
 have FY: ∀k,aX A'=some k-> ∀(i:Nat) (q:Nd×Value),i≠p->L[i]? =some q->Value.ownBlock q.2≠some k:=by
  intro k lg i q hi hq Rx;rcases zG k lg with e|e
  ·exact h.apart p i _ _ hp hq (fun e=>hi e.symm) k (by rw [hk.val,qP];exact e) Rx
  ·obtain⟨A2,m2,kQ⟩:=h.nr i q hq
   rw [kQ.val,qP]at Rx;obtain⟨_,abj,Gd⟩:=Row.bC kQ.row Rx;have:=aQ Gd;omega
 refine⟨fun k=>S k\/aX A'=some k,L.set p ({nd with ch:=nd.ch++ [n]},.slice A' (nd.ch.length+1) c'),?_,?_,fun k hk=>.inl hk,?_⟩
 ·exact {
   top:=by rw [List.length_set];exact kB.heap CB h.gb
   fst:=by rw [List.map_set,h.fst]
   row:=by
    rw [List.length_set];have:=Row.set CC ck (.slice A' (nd.ch.length+1) c');rw [LD,vy hp (j:=1) (by omega) (p':=({nd with ch:=nd.ch++ [n]},.slice A' (nd.ch.length+1) c')) rfl]at this;exact this
   nr:=fun i q hq=>by
    rcases ek i q hq with⟨rfl,rfl⟩|⟨hi,hq⟩
    ·refine⟨A',c',by simp,?_,fun k e=>.inr e⟩
     have:=Row.aG eV kB (fun k e e2=>TO (by rw [e,e2]));simpa [ints]using this
    ·obtain⟨A2,m2,kQ⟩:=wZ.nr i q hq
     have r1:=Row.aG kQ.row kA (fun k e e2=>h.apart p i _ _ hp hq (fun e=>hi e.symm) k (by rw [hk.val,qP];exact e2) (by rw [kQ.val,qP];exact e));have r2:=Row.aG r1 kB (fun k e e2=>kQ.ne JV (by decide) (by rw [e,e2]));exact⟨A2,m2,kQ.val,r2,fun k e=>.inl (kQ.hU k e)⟩
   apart:=fun i j q q' hq En oe k Ew kQ=>by
    rcases ek i q hq with⟨e1,e2⟩|⟨hi,FO⟩<;>rcases ek j q' En with⟨e3,e4⟩|⟨hj,JL⟩
    ·exact oe (e1.trans e3.symm)
    ·rw [e2,qP]at Ew;exact FY k Ew j q' hj JL kQ
    ·rw [e4,qP]at kQ;exact FY k kQ i q hi FO Ew
    ·exact h.apart i j q q' FO JL oe k Ew kQ
   e9:=.inl h.e9
   dR:=.inl h.dR}
 ·have pH:Kept S w jc:=(Lp.mono (S':=S) (fun _ _ h=>h.elim)).trans kA (fun k _ e=>hk.hU k e)
  exact pH.trans kB (fun k _ e=>by rw [e];exact h.dR)
 ·rintro k (lg|lg)
  ·exact .inl lg
  ·rcases zG k lg with e|e
   ·exact .inl (hk.hU k e)
   ·right;omega
end
end Go.Proofs.YtnboahlopghcjaaGreatDoor.Tr
namespace Go.Proofs.YtnboahlopghcjaaGreatDoor.Tr
open Go.Proofs.Tryz
open Go Go.bp Go.RowKit
def grown(T:List Nd)(p:Nat)(pd:Nd):List Nd:=(T++ [(⟨p,[],0,0,0⟩:Nd)]).set p {pd with ch:=pd.ch++ [T.length]}
def fQ(pd:Nd):Int:=(pd.hi-pd.free+1)/2
def added(T:List Nd)(p:Nat)(pd:Nd):List Nd:=qW (grown T p pd) T.length p ⟨p,[],0,0,0⟩ {pd with ch:=pd.ch++ [T.length]} (fQ pd)
section
variable{w:World}{S:Nat->Prop}{g:Nat}{T:List Nd}{d:Int}{K:Value->World->Prop}
theorem qc(h:lj w S g T d){p:Nat}{pd:Nd}(hp:T[p]? =some pd)(lP:T.length<=1000000)(lR:pd.ch.length<=1000000)
 (hf:0<=pd.free) (hfh:pd.free<=pd.hi) (hh:pd.hi<=4611686018427387904)
 (hK1:pd.free<pd.hi-> ∀w' S',lj w' S' g (added T p pd) d->Kept S w w'->(∀k,S' k->S k\/w.heap.size<=k)->K (.tuple #[.int .i64 T.length,.int .i64 0]) w')
 (hK2:pd.free=pd.hi-> ∀w' S',lj w' S' g (grown T p pd) d->Kept S w w'->(∀k,S' k->S k\/w.heap.size<=k)->
   aY prog aq.id #[.pointer (some ⟨g,0,none⟩),.int .i64 p] w' fun v jB=>v=.tuple #[]/\K (.tuple #[.int .i64 T.length,.int .i64 0]) jB):
 aY prog dW.id #[.pointer (some ⟨g,0,none⟩),.int .i64 p] w K:=by
 have ck:p<T.length:=(List.getElem?_eq_some_iff.1 hp).1;refine dW.of (o4 h ck ⟨_,rfl,Split.no rfl ?_⟩);obtain⟨b,c,L,h⟩:=h;obtain⟨v,hv⟩:=h.at_ hp;refine h.go (h.go ⟨rfl,?_⟩);intro w10;obtain⟨A1,c1,mJ,oR,PV,b1,S1,L1,W1,hL1,JD,hS1,NQ⟩:=h.CE lP (p:Int) (w10:=w10) rfl;refine⟨A1,_,c1,mJ,oR,by rw [js];exact PV,?_⟩;intro iW;have e14:iW=mJ.setCell ⟨g,0,none⟩ (.slice A1 (T.length+1) c1):=by simp only [iW,js]
 rw [<-e14]at W1 JD;clear_value iW;intro kF;have pU:Kept Nil iW kF:=(Kept.refl Nil iW).drew;have CD:=W1.kept pU;have De:=hL1 _ _ hv;have hlen:(T++ [(⟨p,[],0,0,0⟩:Nd)]).length=T.length+1:=by simp
 have Gk:0<=(p:Int)/\(p:Int)<((T++ [(⟨p,[],0,0,0⟩:Nd)]).length:Int):=by rw [hlen];exact⟨by omega,by omega⟩
 obtain⟨A2,m2,hk⟩:=CD.nr _ _ De;refine CD.go (CD.go ⟨Gk,CD.Oc De hk.val ?_⟩);intro w22;have Lp:Kept Nil kF w22:=(Kept.refl Nil kF).alloc _;have wZ:=CD.kept Lp;obtain⟨A3,c3,jc,H7,Mr,PU,S3,L3,Ps,Hp,hS3,TA⟩:=CD.EO De hk lR T.length (w22:=w22) rfl;have vm:=wZ.cell De (j:=1) (by omega) (v:=v) rfl;have YO:v=.slice A2 pd.ch.length m2:=hk.val;rw [YO]at vm;refine⟨by rw [k0];exact vm,by rw [js];exact wZ.nodes,by rw [js];exact wZ.nodes,A3,_,c3,jc,H7,by rw [js];exact Mr,Gk,by rw [k0];exact PU,?_⟩;intro yD;have e26:yD=jc.setCell ⟨b1,p*5+1,none⟩ (.slice A3 (pd.ch.length+1) c3):=by simp only [yD,k0,Int.toNat_natCast]
 rw [<-e26]at Ps Hp;clear_value yD;have Ej:(T++ [(⟨p,[],0,0,0⟩:Nd)]).set p {pd with ch:=pd.ch++ [T.length]}=grown T p pd:=rfl;rw [Ej]at Ps;have Wu:(grown T p pd)[p]? =some {pd with ch:=pd.ch++ [T.length]}:=by
  unfold grown;rw [List.getElem?_set_self (by simp;omega)]
 have Z6:(grown T p pd)[T.length]? =some ⟨p,[],0,0,0⟩:=by
  unfold grown;rw [List.getElem?_set_ne (by omega)];simp
 have kw:Kept S w yD:=(JD.trans (pU.mono (S':=S) (fun _ _ h=>h.elim)) (fun _ _ h=>h)).trans Hp (fun k hk h=>by
  rcases NQ k h with h|h
  ·exact h
  ·omega)
 have IW: ∀k,S3 k->S k\/w.heap.size<=k:=fun k h=>by
  rcases TA k h with h|h
  ·exact NQ k h
  ·right
   have:=JD.size;have:=pU.size;omega
 refine yJ ⟨_,_,_,Ps⟩ Wu fun Ae Hn=>⟨_,rfl,?_⟩;have WZ:=Ps.kept Hn;have K4:Kept S w Ae:=kw.trans Hn (fun _ _ h=>h.elim);simp only [];rw [dB (x:=pd.hi-pd.free) (by omega) (by omega)];refine Split.dec (fun ja=>⟨by decide,?_⟩) (fun ja=>?_)
 ·have yj:IntKind.u64.wrap ((IntKind.u64.wrap (pd.hi-pd.free+1)).tdiv 2)=fQ pd:=by
   rw [dB (x:=pd.hi-pd.free+1) (by omega) (by omega),Int.tdiv_eq_ediv_of_nonneg (by omega),dB (by omega) (by omega)];rfl
  rw [yj];refine yK ⟨_,_,_,WZ⟩ Z6 Wu rfl (by omega) hf (by unfold fQ;omega) (by unfold fQ;simp only;omega) fun Kv h31 OY=>⟨rfl,?_⟩;refine hK1 (by omega) Kv S3 h31 (K4.trans OY fun k hk h=>?_) IW;rcases IW k h with h|h
  ·exact h
  ·omega
 ·exact hK2 (by omega) Ae S3 ⟨_,_,_,WZ⟩ K4 IW
end
end Go.Proofs.YtnboahlopghcjaaGreatDoor.Tr
namespace Go.Proofs.YtnboahlopghcjaaGreatDoor.Tr
open Go.Proofs.Tryz
open Go Go.bp Go.RowKit
section
variable{w:World}{S:Nat->Prop}{g:Nat}{T:List Nd}{d:Int}{K:Value->World->Prop}
def mM:List Nd:= [⟨-1,[],1,4611686018427387904,1⟩]
theorem cY(hK: ∀w' g,lj w' (fun k=>w.heap.size<=k) g mM 0->Kept Nil w w'->K (.pointer (some ⟨g,0,none⟩)) w'):aY prog cY.id #[] w K:=by
 refine cY.of ⟨rfl,?_⟩;intro w1 w2;have k1:Kept Nil w w1:=(Kept.refl Nil w).alloc _;have k2:Kept Nil w w2:=k1.alloc _;refine hK w2 w1.heap.size ⟨w.heap.size,1,[(⟨-1,[],1,4611686018427387904,1⟩,.slice none 0 0)],?_⟩ k2;exact {
  top:=aN w1 _
  fst:=rfl
  row:=Row.made (n:=1) (cur:= #[.int .i64 (-1),.slice none 0 0,.int .u64 1,.int .u64 4611686018427387904,.int .u64 1]) (iD (aN w _) _) (Nat.zero_le _) rfl (by decide)
  nr:=fun i p hp=>by
   cases i with
   |zero=>simp at hp;subst hp;exact⟨none,0,rfl,Row.nil _ _ _ _,fun k e=>by cases e⟩
   |succ i=>simp at hp
  apart:=fun i j p q hp hq oe=>by
   cases i<;>cases j<;>simp at hp hq
   exact absurd rfl oe
  e9:=k1.size
  dR:=Nat.le_refl _}
theorem we(h:lj w S g T d){a b:Nat}{ad bd:Nd}(ha:T[a]? =some ad)(hb:T[b]? =some bd)(hK: ∀w',Kept Nil w w'->K (.bool (decide (bd.lo<=ad.lo/\ad.hi<=bd.hi))) w'):
 aY prog dm.id #[.pointer (some ⟨g,0,none⟩),.int .i64 a,.int .i64 b] w K:=by
 have hal:a<T.length:=(List.getElem?_eq_some_iff.1 ha).1;have zG:b<T.length:=(List.getElem?_eq_some_iff.1 hb).1;have Tc:0<=(a:Int)/\(a:Int)<(T.length:Int):=⟨by omega,by omega⟩;have zI:0<=(b:Int)/\(b:Int)<(T.length:Int):=⟨by omega,by omega⟩;refine dm.of ?_;unfold dm.W;intro w4;have k4:Kept Nil w w4:=(Kept.refl Nil w).drew;have h4:=h.same k4;have hk:=hK w4 k4;refine tk h4 a ⟨_,rfl,Split.yes (decide_eq_true Tc) ?_⟩;refine tk h4 b ⟨_,rfl,Split.yes (decide_eq_true zI) ?_⟩;obtain⟨p,c,L,h4⟩:=h4;obtain⟨va,VK⟩:=h4.at_ ha;obtain⟨vb,VJ⟩:=h4.at_ hb;refine h4.go ⟨zI,h4.qX VJ (h4.go ⟨Tc,h4.qX VK ?_⟩)⟩;refine Split.dec (fun h1=>h4.go ⟨Tc,h4.vv VK (h4.go ⟨zI,h4.vv VJ ?_⟩)⟩) (fun h1=>?_)
 ·rwa [show decide (bd.lo<=ad.lo/\ad.hi<=bd.hi)=decide (ad.hi<=bd.hi)from by simp [h1]]at hk
 ·rwa [decide_eq_false (fun e:bd.lo<=ad.lo/\ad.hi<=bd.hi=>h1 e.1)]at hk
end
section
variable{w:World}{t:Option Addr}{K:Value->World->Prop}
end
end Go.Proofs.YtnboahlopghcjaaGreatDoor.Tr
namespace Go.Proofs.YtnboahlopghcjaaGreatDoor.Tr
open Go.Proofs.Tryz
def bj(T:List Nd):List Int:=T.map (·.parent)
structure lh(P:List Int):Prop where
 root:P[0]? =some (-1)
 up: ∀(i:Nat) (p:Int),0<i->P[i]? =some p-> ∃j:Nat,j<i/\p=j
def kids(P:List Int)(i:Nat):List Nat:=(List.range P.length).filter fun j=>P[j]? ==some (i:Int)
theorem c8{P:List Int}{i j:Nat}:j∈kids P i↔P[j]? =some (i:Int):=by
 simp only [kids,List.mem_filter,List.mem_range,beq_iff_eq];exact⟨fun h=>h.2,fun h=>⟨(List.getElem?_eq_some_iff.1 h).1,h⟩⟩
theorem fI{P:List Int}(hP:lh P){i j:Nat}(h:j∈kids P i):i<j/\j<P.length:=by
 rw [c8]at h;refine⟨?_,(List.getElem?_eq_some_iff.1 h).1⟩;rcases Nat.eq_zero_or_pos j with rfl|hj
 ·rw [hP.root]at h;have:=Option.some.inj h;omega
 ·obtain⟨k,hk,e⟩:=hP.up j _ hj h
  omega
theorem pg(P:List Int)(i:Nat):(kids P i).Pairwise (· < ·):=List.Pairwise.filter _ (List.pairwise_lt_range)
theorem u6(P:List Int)(i:Nat):(kids P i).length<=P.length:=by
 unfold kids;exact Nat.le_trans (List.length_filter_le _ _) (by simp)
inductive gU (P:List Int):Nat->Nat->Prop
 |refl {i:Nat}:i<P.length->gU P i i
 |step {i j k:Nat}:P[i]? =some (j:Int)->gU P j k->gU P i k
theorem gU.lt{P:List Int}{i k:Nat}(h:gU P i k):i<P.length:=by
 cases h with
 |refl h=>exact h
 |step h _=>exact(List.getElem?_eq_some_iff.1 h).1
theorem gU.ON{P:List Int}{i k:Nat}(h:gU P i k):k<P.length:=by
 induction h with
 |refl h=>exact h
 |step _ _ ih=>exact ih
theorem gU.le{P:List Int}(hP:lh P){i k:Nat}(h:gU P i k):k<=i:=by
 induction h with
 |refl=>omega
 |step h _ ih=>have:=(fI hP (c8.2 h)).1;omega
theorem gU.trans{P:List Int}{i j k:Nat}(h:gU P i j)(h':gU P j k):gU P i k:=by
 induction h with
 |refl=>exact h'
 |step h _ ih=>exact .step h (ih h')
theorem gU.inv{P:List Int}{i j k:Nat}(h:gU P i k)(fc:i≠k)(hj:P[i]? =some (j:Int)):gU P j k:=by
 cases h with
 |refl=>exact absurd rfl fc
 | @step _ j' _ h h'=>
   rw [hj]at h;have e:j=j':=by have:=Option.some.inj h;omega
   rw [e];exact h'
theorem gU.child{P:List Int}{i k:Nat}(h:gU P i k)(fc:i≠k): ∃c,c∈kids P k/\gU P i c:=by
 induction h with
 |refl=>exact absurd rfl fc
 | @step i j k h h' ih=>
   by_cases e:j=k
   ·subst e
    exact⟨i,c8.2 h,.refl (List.getElem?_eq_some_iff.1 h).1⟩
   ·obtain⟨c,hc,hu⟩:=ih e
    exact⟨c,hc,.step h hu⟩
structure Iv(nd:Nd):Prop where
 Qn:1<=nd.lo
 le:nd.lo<=nd.hi
 top:nd.hi<=4611686018427387904
structure Loc(T:List Nd)(nd:Nd):Prop where
 Ar:nd.lo<=nd.free
 xg:nd.free<=nd.hi
 sub: ∀c cd,c∈nd.ch->T[c]? =some cd->nd.lo<=cd.lo/\cd.hi<nd.free
 ord: ∀(c c':Nat) cd rk,c∈nd.ch->c'∈nd.ch->c<c'->T[c]? =some cd->T[c']? =some rk->cd.hi<rk.lo
structure Shape(T:List Nd):Prop where
 par:lh (bj T)
 ch: ∀(i:Nat) nd,T[i]? =some nd->nd.ch=kids (bj T) i
structure Good(T:List Nd):Prop extends Shape T where
 iv: ∀(i:Nat) nd,T[i]? =some nd->Iv nd
 loc: ∀(i:Nat) nd,T[i]? =some nd->Loc T nd
theorem iJ{T:List Nd}{i:Nat}{nd:Nd}(h:T[i]? =some nd):(bj T)[i]? =some nd.parent:=by simp [bj,h]
theorem cZ(T:List Nd):(bj T).length=T.length:=by simp [bj]
theorem Shape.pos{T:List Nd}(h:Shape T):0<T.length:=by
 have:=(List.getElem?_eq_some_iff.1 h.par.root).1
 rwa [cZ]at this
theorem Good.nr{T:List Nd}(h:Good T){c k:Nat}{cd kd:Nd}(hc:c∈kids (bj T) k)(gE:T[c]? =some cd)(MM:T[k]? =some kd):
 kd.lo<=cd.lo/\cd.hi<kd.free:=(h.loc k kd MM).sub c cd (by rw [h.ch k kd MM];exact hc) gE
theorem dL{T:List Nd}{i:Nat}(h:i<T.length): ∃nd,T[i]? =some nd:=⟨_,List.getElem?_eq_getElem h⟩
theorem Good.lf{T:List Nd}(h:Good T){a b:Nat}{ad bd:Nd}(ha:T[a]? =some ad)(hb:T[b]? =some bd)(hu:gU (bj T) a b):bd.lo<=ad.lo/\ad.hi<=bd.hi:=by
 induction hu generalizing ad with
 |refl=>rw [ha]at hb;cases hb;omega
 | @step i j k hp h' ih=>
   have rH:j<T.length:=by have:=h'.lt;rwa [cZ]at this
   obtain⟨jd,hj⟩:=dL rH;have h1:=ih hj hb;have h2:=h.nr (c8.2 hp) ha hj;have h3:=(h.loc j jd hj).xg;omega
theorem Good.apart{T:List Nd}(h:Good T): ∀(m a b:Nat),a+b<=m-> ∀ad bd,T[a]? =some ad->T[b]? =some bd-> ¬gU (bj T) a b-> ¬gU (bj T) b a->ad.hi<bd.lo\/bd.hi<ad.lo:=by
 intro m
 induction m with
 |zero=>
  intro a b hm ad bd ha hb h1 _;have:a=b:=by omega
  subst this;exact absurd (.refl (by rw [cZ];exact(List.getElem?_eq_some_iff.1 ha).1)) h1
 |succ m ih=>
  have key: ∀(a b:Nat),a+b<=m+1->b<a-> ∀ad bd,T[a]? =some ad->T[b]? =some bd-> ¬gU (bj T) a b-> ¬gU (bj T) b a->ad.hi<bd.lo\/bd.hi<ad.lo:=by
   intro a b hm ck ad bd ha hb h1 h2;have hal:=(List.getElem?_eq_some_iff.1 ha).1;obtain⟨p,hp,e⟩:=h.par.up a _ (by omega) (iJ ha);have Pb:(bj T)[a]? =some (p:Int):=by rw [iJ ha,e]
   obtain⟨pd,tD⟩:=dL (T:=T) (i:=p) (by omega);have fY:=h.nr (c8.2 Pb) ha tD;have pX:=h.loc p pd tD;have Pa: ¬gU (bj T) p b:=fun hu=>h1 (.step Pb hu);by_cases Gg:gU (bj T) b p
   ·have fc:b≠p:=fun e=>Pa (by subst e;exact .refl Gg.lt)
    obtain⟨c,hc,FG⟩:=Gg.child fc;have hca:c≠a:=fun e=>h2 (e▸FG);have tH:c<T.length:=by have:=(fI h.par hc).2;rwa [cZ]at this
    obtain⟨cd,gE⟩:=dL tH;have Cs:=h.lf hb gE FG;have lR:=h.ch p pd tD;rcases Nat.lt_or_ge c a with ck|iy
    ·have:=pX.ord c a cd ad (by rw [lR];exact hc) (by rw [lR];exact c8.2 Pb) ck gE ha
     omega
    ·have:=pX.ord a c ad cd (by rw [lR];exact c8.2 Pb) (by rw [lR];exact hc) (by omega) ha gE
     omega
   ·have:=ih p b (by omega) pd bd tD hb Pa Gg
    have:=pX.xg;omega
  intro a b hm ad bd ha hb h1 h2;rcases Nat.lt_trichotomy a b with ck|rfl|ck
  ·have:=key b a (by omega) ck bd ad hb ha h2 h1
   omega
  ·exact absurd (.refl (by rw [cZ];exact(List.getElem?_eq_some_iff.1 ha).1)) h1
  ·exact key a b hm ck ad bd ha hb h1 h2
theorem Good.under{T:List Nd}(h:Good T){a b:Nat}{ad bd:Nd}(ha:T[a]? =some ad)(hb:T[b]? =some bd):(bd.lo<=ad.lo/\ad.hi<=bd.hi)↔gU (bj T) a b:=by
 refine⟨fun hi=>?_,fun hu=>h.lf ha hb hu⟩;by_cases hu:gU (bj T) a b
 ·exact hu
 ·exfalso
  have ia:=h.iv a ad ha;have ib:=h.iv b bd hb;by_cases hv:gU (bj T) b a
  ·have fc:b≠a:=fun e=>hu (by subst e;exact .refl hv.lt)
   obtain⟨c,hc,FG⟩:=hv.child fc;have tH:c<T.length:=by have:=(fI h.par hc).2;rwa [cZ]at this
   obtain⟨cd,gE⟩:=dL tH;have h1:=h.lf hb gE FG;have h2:=h.nr hc gE ha;have h3:=(h.loc a ad ha).xg;omega
  ·have:=h.apart (a+b) a b (Nat.le_refl _) ad bd ha hb hu hv
   have:=ia.le;have:=ib.le;omega
theorem sW(T:List Nd)(p:Nat)(pd:Nd):(grown T p pd).length=T.length+1:=by simp [grown]
theorem gk{T:List Nd}{p:Nat}{pd:Nd}(hp:T[p]? =some pd)(i:Nat):(grown T p pd)[i]? =if i=p then some {pd with ch:=pd.ch++ [T.length]}else if i=T.length then some ⟨p,[],0,0,0⟩else T[i]? :=by
 have ck:=(List.getElem?_eq_some_iff.1 hp).1;unfold grown;by_cases e:i=p
 ·subst e
  rw [if_pos rfl,List.getElem?_set_self (by simp;omega)]
 ·rw [if_neg e,List.getElem?_set_ne (fun h=>e h.symm)]
  by_cases e2:i=T.length
  ·subst e2;simp
  ·rw [if_neg e2]
   rcases Nat.lt_or_ge i T.length with h|h
   ·rw [List.getElem?_append_left h]
   ·rw [List.getElem?_eq_none (by simp;omega),List.getElem?_eq_none h]
theorem jo{T:List Nd}{p:Nat}{pd:Nd}(hp:T[p]? =some pd):bj (grown T p pd)=bj T++ [(p:Int)]:=by
 apply List.ext_getElem?;intro i;have ck:=(List.getElem?_eq_some_iff.1 hp).1;simp only [bj,List.getElem?_map,gk hp];by_cases e:i=p
 ·subst e
  rw [if_pos rfl,List.getElem?_append_left (by simpa using ck)];simp [hp]
 ·rw [if_neg e]
  by_cases e2:i=T.length
  ·subst e2;simp
  ·rw [if_neg e2]
   rcases Nat.lt_or_ge i T.length with h|h
   ·rw [List.getElem?_append_left (by simpa using h)];simp
   ·rw [List.getElem?_eq_none h,List.getElem?_eq_none (by simp;omega)];rfl
theorem u7(P:List Int)(p i:Nat):kids (P++ [(p:Int)]) i=kids P i++if i=p then [P.length]else []:=by
 unfold kids;rw [List.length_append,List.length_singleton,List.range_succ,List.filter_append]
 congr 1
 ·apply List.filter_congr
  intro x hx;rw [List.getElem?_append_left (by simpa using hx)]
 ·by_cases e:i=p
  ·subst e;simp
  ·have: ¬((p:Int)=(i:Int)):=by omega
   simp [e,this]
theorem lh.snoc{P:List Int}(h:lh P){p:Nat}(hp:p<P.length):lh (P++ [(p:Int)]):=by
 refine⟨by rw [List.getElem?_append_left (by omega)];exact h.root,fun i q hi hq=>?_⟩;rcases Nat.lt_or_ge i P.length with hl|hl
 ·rw [List.getElem?_append_left hl]at hq
  exact h.up i q hi hq
 ·have:i=P.length:=by
   rcases Nat.eq_or_lt_of_le hl with e|e
   ·exact e.symm
   ·rw [List.getElem?_eq_none (by simp;omega)]at hq;cases hq
  subst this;simp at hq;exact⟨p,hp,hq.symm⟩
theorem Shape.grown{T:List Nd}(h:Shape T){p:Nat}{pd:Nd}(hp:T[p]? =some pd):Shape (grown T p pd):=by
 have ck:=(List.getElem?_eq_some_iff.1 hp).1;refine⟨by rw [jo hp];exact h.par.snoc (by rw [cZ];exact ck),fun i nd hi=>?_⟩;rw [jo hp,u7,cZ];rw [gk hp]at hi;by_cases e:i=p
 ·subst e
  rw [if_pos rfl]at hi⊢;cases hi;simp [h.ch i pd hp]
 ·rw [if_neg e]at hi⊢
  rw [List.append_nil];by_cases e2:i=T.length
  ·subst e2
   rw [if_pos rfl]at hi;cases hi
   symm
   apply List.eq_nil_iff_forall_not_mem.2;intro c hc;have:=fI h.par hc;rw [cZ]at this;omega
  ·rw [if_neg e2]at hi
   exact h.ch i nd hi
def fK(f:Nat->Nat):Nat->Nat
 |0=>0
 |n+1=>fK f n+f n
theorem iq{f g:Nat->Nat}{n:Nat}(h: ∀i,i<n->f i=g i):fK f n=fK g n:=by
 induction n with
 |zero=>rfl
 |succ n ih=>
  simp only [fK];rw [ih (fun i hi=>h i (by omega)),h n (by omega)]
theorem uy(f g:Nat->Nat)(n:Nat):fK (fun i=>f i+g i) n=fK f n+fK g n:=by
 induction n with
 |zero=>rfl
 |succ n ih=>simp only [fK];omega
theorem je{f:Nat->Nat}{n:Nat}(h: ∀i,i<n->f i=0):fK f n=0:=by
 induction n with
 |zero=>rfl
 |succ n ih=>
  simp only [fK];rw [ih (fun i hi=>h i (by omega)),h n (by omega)]
theorem yM(h:Nat->Nat->Nat)(n m:Nat):fK (fun i=>fK (fun j=>h i j) m) n=fK (fun j=>fK (fun i=>h i j) n) m:=by
 induction n with
 |zero=>simp only [fK];exact(je fun _ _=>rfl).symm
 |succ n ih=>
  simp only [fK];rw [ih,uy]
theorem ux{n k:Nat}(hk:k<n){f:Nat->Nat}(h: ∀i,i<n->i≠k->f i=0):fK f n=f k:=by
 induction n with
 |zero=>omega
 |succ n ih=>
  simp only [fK];rcases Nat.lt_or_ge k n with ck|iy
  ·rw [ih ck (fun i hi=>h i (by omega)),h n (by omega) (by omega),Nat.add_zero]
  ·have:k=n:=by omega
   subst this;rw [je (fun i hi=>h i (by omega) (by omega)),Nat.zero_add]
theorem DA{f:Nat->Nat}{n b:Nat}(h: ∀i,i<n->f i<=b):fK f n<=n*b:=by
 induction n with
 |zero=>simp [fK]
 |succ n ih=>
  simp only [fK];have:=ih (fun i hi=>h i (by omega));have:=h n (by omega);rw [Nat.succ_mul];omega
theorem AP{f f':Nat->Nat}{n k:Nat}(hk:k<n){v:Nat}(h: ∀i,i<n->i≠k->f' i=f i)(hv:f' k=f k+v):fK f' n=fK f n+v:=by
 induction n with
 |zero=>omega
 |succ n ih=>
  simp only [fK];rcases Nat.lt_or_ge k n with ck|iy
  ·rw [ih ck (fun i hi=>h i (by omega)),h n (by omega) (by omega)]
   omega
  ·have:k=n:=by omega
   subst this;rw [iq (fun i hi=>h i (by omega) (by omega)),hv];omega
theorem oE(q:Nat->Bool)(f:Nat->Nat)(n:Nat):(((List.range n).filter q).map f).sum=fK (fun c=>if q c=true then f c else 0) n:=by
 induction n with
 |zero=>rfl
 |succ n ih=>
  rw [List.range_succ,List.filter_append,List.map_append,List.sum_append,ih];simp only [fK]
  congr 1
  by_cases h:q n=true
  ·simp [h]
  ·simp [h]
section
variable{P:List Int}
theorem gU.cmp{i a b:Nat}(h:gU P i a)(h':gU P i b):gU P a b\/gU P b a:=by
 induction h with
 |refl=>exact .inl h'
 | @step i j k hp h2 ih=>
   by_cases e:i=b
   ·subst e;exact .inr (.step hp h2)
   ·exact ih (h'.inv e hp)
theorem gU.one(hP:lh P){i n c c':Nat}(hc:P[c]? =some (n:Int))(qS:P[c']? =some (n:Int))(h:gU P i c)(h':gU P i c'):c=c':=by
 have key: ∀(c c':Nat),P[c]? =some (n:Int)->P[c']? =some (n:Int)->gU P c c'->c=c':=by
  intro c c' hc qS h;by_cases e:c=c'
  ·exact e
  ·have:=(h.inv e hc).le hP
   have:=(fI hP (c8.2 qS)).1;omega
 rcases h.cmp h' with h|h
 ·exact key c c' hc qS h
 ·exact(key c' c qS hc h).symm
open Classical in
noncomputable def ind(p:Prop):Nat:=if p then 1 else 0
theorem oa{p:Prop}(h:p):ind p=1:=by unfold ind;rw [if_pos h]
theorem oO{p:Prop}(h: ¬p):ind p=0:=by unfold ind;rw [if_neg h]
theorem HG(p:Prop):ind p<=1:=by unfold ind;split<;>omega
noncomputable def sz(P:List Int)(n:Nat):Nat:=fK (fun i=>ind (gU P i n)) P.length
theorem wg(hP:lh P){n:Nat}(hn:n<P.length):sz P n=1+fK (fun c=>if P[c]? =some (n:Int)then sz P c else 0) P.length:=by
 have e1: ∀i,i<P.length->ind (gU P i n)=ind (i=n)+fK (fun c=>if P[c]? =some (n:Int)then ind (gU P i c)else 0) P.length:=by
  intro i hi;by_cases e:i=n
  ·subst e
   rw [oa (.refl hi),oa rfl,je];intro c hc;split
   ·rename_i hp
    apply oO;intro hu;have:=hu.le hP;have:=(fI hP (c8.2 hp)).1;omega
   ·rfl
  ·rw [oO e,Nat.zero_add]
   by_cases hu:gU P i n
   ·obtain⟨c,hc,FG⟩:=hu.child e
    rw [oa hu,ux (k:=c) FG.ON]
    ·rw [if_pos (c8.1 hc),oa FG]
    ·intro c' _ fc
     split
     ·rename_i hp
      exact oO fun h=>fc (gU.one hP hp (c8.1 hc) h FG)
     ·rfl
   ·rw [oO hu,je]
    intro c hc;split
    ·rename_i hp
     exact oO fun h=>hu (h.trans (.step hp (.refl hn)))
    ·rfl
 have e2:sz P n=fK (fun i=>ind (i=n)+fK (fun c=>if P[c]? =some (n:Int)then ind (gU P i c)else 0) P.length) P.length:=by
  unfold sz;exact iq e1
 rw [e2,uy,ux (k:=n) hn (fun i _ h=>oO h),oa rfl,yM]
 congr 1
 apply iq;intro c _;split
 ·rfl
 ·exact je fun _ _=>rfl
theorem qd(hP:lh P){n:Nat}(hn:n<P.length):1<=sz P n:=by rw [wg hP hn];omega
theorem sx(n:Nat):sz P n<=P.length:=by
 have:=DA (n:=P.length) (b:=1) (f:=fun i=>ind (gU P i n)) (fun i _=>HG _);unfold sz;omega
theorem xJ(hP:lh P){n:Nat}(hn:n<P.length):((kids P n).map (sz P)).sum+1=sz P n:=by
 unfold kids;rw [oE,wg hP hn,Nat.add_comm]
 congr 1
 apply iq;intro c _;by_cases h:P[c]? =some (n:Int)
 ·simp [h]
 ·simp [h]
noncomputable def part(P:List Int)(m j:Nat):Nat:=fK (fun c=>if P[c]? =some (j:Int)/\m<=c then sz P c else 0) P.length
theorem y9(j:Nat):part P P.length j=0:=je fun c hc=>if_neg fun h=>by omega
theorem qu(hP:lh P){m j:Nat}(hj:j<P.length)(hm:m<=j+1):part P m j+1=sz P j:=by
 rw [wg hP hj,Nat.add_comm]
 congr 1
 apply iq;intro c hc;by_cases h:P[c]? =some (j:Int)
 ·have:=(fI hP (c8.2 h)).1
  rw [if_pos ⟨h,by omega⟩,if_pos h]
 ·rw [if_neg (fun e=>h e.1),if_neg h]
theorem Bb{n p:Nat}(h:P[n]? =some (p:Int)):part P n p=part P (n+1) p+sz P n:=by
 unfold part;apply AP (k:=n) (List.getElem?_eq_some_iff.1 h).1
 ·intro i _ fc
  by_cases hi:P[i]? =some (p:Int)
  ·by_cases h2:n<=i
   ·rw [if_pos ⟨hi,h2⟩,if_pos ⟨hi,by omega⟩]
   ·rw [if_neg (fun e=>h2 e.2),if_neg (fun e=>by omega)]
  ·rw [if_neg (fun e=>hi e.1),if_neg (fun e=>hi e.1)]
 ·rw [if_pos ⟨h,Nat.le_refl _⟩,if_neg (fun e=>by omega),Nat.zero_add]
theorem wz{n j:Nat}(h:P[n]? ≠some (j:Int)):part P n j=part P (n+1) j:=by
 unfold part;apply iq;intro i _;by_cases hi:P[i]? =some (j:Int)
 ·have:i≠n:=fun e=>h (e▸hi)
  by_cases h2:n<=i
  ·rw [if_pos ⟨hi,h2⟩,if_pos ⟨hi,by omega⟩]
  ·rw [if_neg (fun e=>h2 e.2),if_neg (fun e=>by omega)]
 ·rw [if_neg (fun e=>hi e.1),if_neg (fun e=>hi e.1)]
noncomputable def ft(P:List Int)(m j:Nat):Nat:=if m<=j then sz P j else part P m j
theorem wo(j:Nat)(hj:j<P.length):ft P P.length j=0:=by
 unfold ft;rw [if_neg (by omega),y9]
theorem uE(j:Nat):ft P 0 j=sz P j:=by unfold ft;rw [if_pos (Nat.zero_le _)]
theorem yZ(hP:lh P){n:Nat}(hn:n<P.length):ft P (n+1) n+1=sz P n:=by
 unfold ft;rw [if_neg (by omega),qu hP hn (Nat.le_refl _)]
theorem yY(hP:lh P){n p:Nat}(h:P[n]? =some (p:Int))(j:Nat):ft P n j=if j=p then ft P (n+1) p+sz P n else if j=n then sz P n else ft P (n+1) j:=by
 have hp:=(fI hP (c8.2 h)).1;unfold ft;by_cases e:j=p
 ·subst e
  rw [if_neg (by omega),if_pos rfl,if_neg (by omega),Bb h]
 ·rw [if_neg e]
  by_cases e2:j=n
  ·subst e2;rw [if_pos (Nat.le_refl _),if_pos rfl]
  ·rw [if_neg e2]
   by_cases h2:n<=j
   ·rw [if_pos h2,if_pos (by omega)]
   ·rw [if_neg h2,if_neg (by omega)]
    exact wz (fun h'=>e (by rw [h]at h';have:=Option.some.inj h';omega))
theorem y0(j:Nat):ft P 0 j=if j=0 then sz P 0 else ft P 1 j:=by
 rw [uE];unfold ft;by_cases e:j=0
 ·subst e;rw [if_pos rfl]
 ·rw [if_neg e,if_pos (by omega)]
theorem xL(hP:lh P)(m j:Nat)(hj:j<P.length):ft P m j<=P.length:=by
 have h1:=sx (P:=P) j;unfold ft;split
 ·exact h1
 ·rename_i h
  have:=qu hP (m:=m) hj;by_cases h2:m<=j+1
  ·have:=this h2;omega
  ·
   have h3:part P m j<=part P 0 j:=by
    unfold part;have: ∀(f g:Nat->Nat) (n:Nat),(∀i,i<n->f i<=g i)->fK f n<=fK g n:=by
     intro f g n h
     induction n with
     |zero=>simp [fK]
     |succ n ih=>
      simp only [fK];have:=ih (fun i hi=>h i (by omega));have:=h n (by omega);omega
    apply this;intro i _;split
    ·rename_i h4;rw [if_pos ⟨h4.1,Nat.zero_le _⟩];exact Nat.le_refl _
    ·exact Nat.zero_le _
   have:=qu hP (m:=0) hj (by omega);omega
end
theorem rP{α:Type}(f g:Nat->α){n k:Nat}{v:α}(hk:k<n)(h: ∀i,i<n->g i=if i=k then v else f i):((List.range n).map f).set k v=(List.range n).map g:=by
 apply List.ext_getElem?;intro i;rw [List.getElem?_set];by_cases e:k=i
 ·subst e
  rw [if_pos rfl,if_pos (by simpa using hk)];simp [hk,h k hk]
 ·rw [if_neg e]
  rcases Nat.lt_or_ge i n with hi|hi
  ·have:=h i hi
   rw [if_neg (fun x=>e x.symm)]at this;simp [hi,this]
  ·rw [List.getElem?_eq_none (by simpa using hi),List.getElem?_eq_none (by simpa using hi)]
end Go.Proofs.YtnboahlopghcjaaGreatDoor.Tr
namespace Go.bp
open Go.RowKit
theorem aP{σ:Type}(e:σ->Env)(I:σ->World->Prop)(μ:σ->World->Nat)(s:σ)(w:World)(Q:aJ)(l:Nat)(ρ:Env)(w':World):bF e I μ s w Q (.exit l) ρ w'=Q (.exit l) ρ w':=rfl
def zeroOf(P:Program)(e:TypeId):Option (Array Value):=
 match P.info? e with
 |some i=>match i.zero with
  |some z=>some z.cells
  |none=>none
 |none=>none
theorem Bn{P:Program}{t e:TypeId}{bytes:Nat}(T:yx P t e 1 bytes){z:Value}(hz:zeroOf P e=some #[z]){n:Nat}(hn:n<=maxLen)(hb:bytes*n<=281474976710656)(w:World):
 ∃w',(Instr.makeSlice t (.int .i64 (n:Int)) (.int .i64 (n:Int))).run P w=.ok (.slice (some ⟨w.heap.size,0,none⟩) n n) w'/\
  Row w' w.heap.size e 1 (some ⟨w.heap.size,0,none⟩) n n (List.replicate n z)/\Kept Nil w w':=by
 obtain⟨i,z',hi,Vw,hs,Dj,Db⟩:=T.inf;have hc:z'.cells= #[z]:=by
  unfold zeroOf at hz;simp only [hi,Vw]at hz;exact Option.some.inj hz
 obtain⟨w',hr,eV,hg⟩:=run_make_full (P:=P) (w:=w) w.heap.size t e i z' 1 T.lf hi Vw hs .i64 .i64 n (by rw [Dj];exact hb) hn (Nat.le_refl _);rw [hc,Nat.mul_one,toList_madeCells_one]at eV;exact⟨w',hr,eV,(Kept.refl Nil w).grown hg (fun k hk=>by cases hk)⟩
end Go.bp
namespace Go.Proofs.YtnboahlopghcjaaGreatDoor.Tr
open Go.Proofs.Tryz
open Go Go.bp Go.RowKit
section
variable{w w':World}{S:Nat->Prop}{g:Nat}{T:List Nd}{d:Int}{K:Value->World->Prop}
theorem TV.bound{b c:Nat}{L:List (Nd×Value)}(h:TV w S g T d b c L):TV w (fun k=>S k/\k<w.heap.size) g T d b c L:= {
 top:=h.top
 fst:=h.fst
 row:=h.row
 nr:=fun i p hp=>let ⟨A,m,h1⟩:=h.nr i p hp;⟨A,m,h1.val,h1.row,fun k e=>⟨h1.hU k e,let ⟨_,_,hc⟩:=Row.bC h1.row e;aQ hc⟩⟩
 apart:=h.apart
 e9:=⟨h.e9,aQ h.top⟩
 dR:=⟨h.dR,let ⟨_,hc⟩:=h.rp;aQ hc⟩}
theorem TV.mono{S':Nat->Prop}{b c:Nat}{L:List (Nd×Value)}(h:TV w S g T d b c L)(hs: ∀k,S k->S' k):TV w S' g T d b c L:= {
 top:=h.top
 fst:=h.fst
 row:=h.row
 nr:=fun i p hp=>let ⟨A,m,h1⟩:=h.nr i p hp;⟨A,m,h1.val,h1.row,fun k e=>hs k (h1.hU k e)⟩
 apart:=h.apart
 e9:=hs _ h.e9
 dR:=hs _ h.dR}
theorem lj.bound(h:lj w S g T d):lj w (fun k=>S k/\k<w.heap.size) g T d:=let ⟨b,c,L,h⟩:=h;⟨b,c,L,h.bound⟩
theorem lj.mono{S':Nat->Prop}(h:lj w S g T d)(hs: ∀k,S k->S' k):lj w S' g T d:=let ⟨b,c,L,h⟩:=h;⟨b,c,L,h.mono hs⟩
def us(f:Nat->Nat)(n:Nat):List Value:=(List.range n).map fun j=>.int .u64 (f j:Int)
theorem lu(f:Nat->Nat){n j:Nat}(hj:j<n):(us f n)[j]? =some (.int .u64 (f j:Int)):=by simp [us,hj]
theorem lr(f:Nat->Nat)(n:Nat):(us f n).length=n:=by simp [us]
theorem tj{f f':Nat->Nat}{n k:Nat}(hk:k<n)(h: ∀i,i<n->i≠k->f' i=f i):(us f n).set k (.int .u64 (f' k:Int))=us f' n:=by
 unfold us;apply rP _ _ hk;intro i hi;by_cases e:i=k
 ·subst e;rw [if_pos rfl]
 ·rw [if_neg e,h i hi e]
theorem KB:yx prog vL fC 1 8:=⟨by kernel_rfl,by kernel_rfl⟩
set_option maxRecDepth 100000 in
theorem wc(h:lj w S g T d)(hP:lh (bj T))(hlen:T.length<=1000000)
 (hK: ∀w' A,Row w' w.heap.size fC 1 A T.length T.length (us (sz (bj T)) T.length)->Kept Nil w w'->K (.slice A T.length T.length) w'):
 aY prog aV.id #[.pointer (some ⟨g,0,none⟩)] w K:=by
 obtain⟨b,c,L,h0⟩:=h;have pX:=cZ T;obtain⟨w5,JJ,rR,k5⟩:=Bn KB (z:=.int .u64 0) (by kernel_rfl) (n:=T.length) (by unfold maxLen;omega) (by omega) w;refine aV.of (h0.go ⟨_,_,_,w5,JJ,?_⟩);have h5:=h0.kept k5;refine h5.go ?_;generalize hA:(⟨w.heap.size,0,none⟩:Addr)=A at*;refine aV.bU (e:=some A) (i:=T.length) (I:=fun i w'=> ∃m:Nat,i=(T.length:Int)-m/\m<=T.length/\Row w' w.heap.size fC 1 (some A) T.length T.length (us (ft (bj T) m) T.length)/\Kept Nil w w')
  (μ:=fun i _=>((T.length:Int)-i).toNat) (s:=0) ⟨T.length,by omega,Nat.le_refl _,?_,k5⟩ ?_
 ·have:List.replicate T.length (Value.int .u64 0)=us (ft (bj T) T.length) T.length:=by
   apply List.ext_getElem?;intro j;rcases Nat.lt_or_ge j T.length with hj|hj
   ·rw [lu _ hj,<-pX,wo j (by omega)]
    simp [pX,hj]
   ·rw [List.getElem?_eq_none (by simpa using hj),List.getElem?_eq_none (by rw [lr];exact hj)]
  rw [<-this];exact rR
 ·rintro i w' ⟨m,rfl,hm,row,kw⟩
  have h':=h0.kept kw;refine Split.dec (fun ck=>?_) (fun iy=>?_)
  ·
   obtain⟨n,rfl⟩: ∃n,m=n+1:=⟨m-1,by omega⟩;have hn:n<T.length:=by omega
   refine h'.go ?_;have ew:IntKind.i64.wrap (IntKind.i64.wrap ((T.length:Int)-1)-((T.length:Int)-((n+1:Nat):Int)))=(n:Int):=by
    rw [gu (x:=(T.length:Int)-1) (by omega) (by omega),gu (by omega) (by omega)];omega
   rw [ew];have hb:0<=(n:Int)/\(n:Int)<(T.length:Int):=⟨by omega,by omega⟩;subst hA;have ME:n<(us (ft (bj T) (n+1)) T.length).length:=by rw [lr];exact hn
   refine⟨hb,_,by rw [js,Int.toNat_natCast,Nat.mul_one];exact Row.cell row (lu _ hn),hb,by rw [js,Int.toNat_natCast,Nat.mul_one];exact Row.wr row ME,?_⟩;intro rM;have Xb:rM=w'.setCell ⟨w.heap.size,n,none⟩ (.int .u64 (IntKind.u64.wrap ((ft (bj T) (n+1) n:Int)+1))):=by simp only [rM,js,Int.toNat_natCast,Nat.mul_one]
   have VT:=yZ hP (n:=n) (by omega);have hle:ft (bj T) (n+1) n<=(bj T).length:=xL hP _ _ (by omega);have jL:=Row.set row ME (.int .u64 (IntKind.u64.wrap ((ft (bj T) (n+1) n:Int)+1)));rw [<-Xb]at jL;have Af:Kept Nil w rM:=by rw [Xb];exact kw.setCell (fun hh=>absurd hh (Nat.lt_irrefl _)) _
   clear_value rM;rw [dB (x:=(ft (bj T) (n+1) n:Int)+1) (by omega) (by omega)]at jL;rw [show(ft (bj T) (n+1) n:Int)+1=((if n=n then sz (bj T) n else ft (bj T) (n+1) n:Nat):Int)from by rw [if_pos rfl];omega,
    tj (f':=fun j=>if j=n then sz (bj T) n else ft (bj T) (n+1) j) hn (fun i _ fc=>by rw [if_neg fc])]at jL
   have TS:=h0.kept Af;obtain⟨nd,fG⟩:=dL hn;obtain⟨v,hv⟩:=TS.at_ fG;refine TS.go ⟨hb,TS.CF hv ?_⟩;have mG:=iJ fG;refine Split.dec (fun hp=>?_) (fun hp=>?_)
   ·
    have zA:0<n:=by
     rcases Nat.eq_zero_or_pos n with rfl|h
     ·rw [hP.root]at mG;have:=Option.some.inj mG;omega
     ·exact h
    obtain⟨p,O9,ep⟩:=hP.up n _ zA mG;rw [ep]at hp⊢;have Zr:(bj T)[n]? =some (p:Int):=by rw [mG,ep]
    intro C8;have Hq:Kept Nil w C8:=Af.drew;have xN:Row C8 w.heap.size fC 1 (some ⟨w.heap.size,0,none⟩) T.length T.length (us (fun j=>if j=n then sz (bj T) n else ft (bj T) (n+1) j) T.length):=jL;clear_value C8;have Gg:0<=(p:Int)/\(p:Int)<(T.length:Int):=⟨by omega,by omega⟩;have MD:p<(us (fun j=>if j=n then sz (bj T) n else ft (bj T) (n+1) j) T.length).length:=by rw [lr];omega
    have gp:=lu (fun j=>if j=n then sz (bj T) n else ft (bj T) (n+1) j) (n:=T.length) (j:=p) (by omega);have gn:=lu (fun j=>if j=n then sz (bj T) n else ft (bj T) (n+1) j) (n:=T.length) (j:=n) (by omega);simp only [if_neg (show p≠n by omega)]at gp;simp only [if_pos]at gn;refine⟨Gg,_,by rw [js,Int.toNat_natCast,Nat.mul_one];exact Row.cell xN gp,hb,_,by rw [js,Int.toNat_natCast,Nat.mul_one];exact Row.cell xN gn,Gg,by rw [js,Int.toNat_natCast,Nat.mul_one];exact Row.wr xN MD,?_⟩;intro rL;have W9:rL=C8.setCell ⟨w.heap.size,p,none⟩ (.int .u64 (IntKind.u64.wrap ((ft (bj T) (n+1) p:Int)+(sz (bj T) n:Int)))):=by simp only [rL,js,Int.toNat_natCast,Nat.mul_one]
    have A9:=Row.set xN MD (.int .u64 (IntKind.u64.wrap ((ft (bj T) (n+1) p:Int)+(sz (bj T) n:Int))));rw [<-W9]at A9;have JC:Kept Nil w rL:=by rw [W9];exact Hq.setCell (fun hh=>absurd hh (Nat.lt_irrefl _)) _
    clear_value rL;have ZM:ft (bj T) (n+1) p<=(bj T).length:=xL hP _ _ (by omega);have ZL:sz (bj T) n<=(bj T).length:=sx _;have pI:=yY hP Zr;have Ag:=pI p;rw [if_pos rfl]at Ag;rw [dB (x:=(ft (bj T) (n+1) p:Int)+(sz (bj T) n:Int)) (by omega) (by omega),
     show(ft (bj T) (n+1) p:Int)+(sz (bj T) n:Int)=(ft (bj T) n p:Int)from by omega,
     tj (f':=ft (bj T) n) (by omega) (fun i _ fc=>by rw [pI i,if_neg fc])]at A9
    rw [gu (x:=(T.length:Int)-((n+1:Nat):Int)+1) (by omega) (by omega)];exact⟨_,rfl,⟨n,by omega,by omega,A9,JC⟩,by simp only;omega⟩
   ·
    have zA:n=0:=by
     rcases Nat.eq_zero_or_pos n with h|h
     ·exact h
     ·obtain⟨p,_,ep⟩:=hP.up n _ h mG
      omega
    subst zA;have:us (fun j=>if j=0 then sz (bj T) 0 else ft (bj T) (0+1) j) T.length=us (ft (bj T) 0) T.length:=by
     congr 1
     funext j
     rw [y0]
    rw [this]at jL;rw [gu (x:=(T.length:Int)-((0+1:Nat):Int)+1) (by omega) (by omega)];exact⟨_,rfl,⟨0,by omega,by omega,jL,Af⟩,by simp only;omega⟩
  ·have:m=0:=by omega
   subst this;rw [aP,aV.dD];refine hK w' (some A) ?_ kw;have e:ft (bj T) 0=sz (bj T):=funext uE;rw [e]at row;exact row
end
end Go.Proofs.YtnboahlopghcjaaGreatDoor.Tr
namespace Go.Proofs.YtnboahlopghcjaaGreatDoor.Tr
open Go.Proofs.Tryz
open Go Go.bp Go.RowKit
section
variable{w:World}{K:Value->World->Prop}
theorem aY.uN{f:FuncId}{args:Array Value}{v:Value}(h:Calls prog f args w fun e w'=>e=.returned v/\w'=w)(hK:K v w):aY prog f args w K:=
 h.mono fun e w' ⟨he,hw⟩=>⟨v,he,by rw [hw];exact hK⟩
theorem sd(x y:Nat)(hx:x<18446744073709551616)(hy:y<18446744073709551616)
 (hK:K (.tuple #[.int .u64 ((x*y/18446744073709551616:Nat):Int),.int .u64 ((x*y%18446744073709551616:Nat):Int)]) w):
 aY prog bits_Mul64.id #[.int .u64 x,.int .u64 y] w K:=aY.uN (Any.bits_Mul64 Tryz.DU x y hx hy w) hK
theorem se(x:Nat)(hx:x<18446744073709551616)(hK:K (.int .i64 (Lib.bitLen x)) w):aY prog bits_Len64.id #[.int .u64 x] w K:=
 aY.uN (Any.bits_Len64 Tryz.DV x w (by omega) (by omega)) hK
end
theorem lX: ∀(f x:Nat),x<2 ^ f->x<2 ^ (Lib.bitLenAux f x)/\(x≠0->2 ^ (Lib.bitLenAux f x)<=2*x)
 |0,x,h=>by simp at h;subst h;simp [Lib.bitLenAux]
 |f+1,x,h=>by
  unfold Lib.bitLenAux;by_cases e:x=0
  ·simp [e]
  ·rw [if_neg e]
   have ih:=lX f (x/2) (by rw [Nat.pow_succ]at h;omega);rw [Nat.pow_add,Nat.pow_one];refine⟨by omega,fun _=>?_⟩;by_cases e2:x/2=0
   ·have:x=1:=by omega
    subst this;cases f<;>simp [Lib.bitLenAux]
   ·have:=ih.2 e2
    omega
theorem bitLen_spec{y:Nat}(h0:y≠0)(hy:y<18446744073709551616):1<=Lib.bitLen y/\Lib.bitLen y<=64/\9223372036854775808<=y*2 ^ (64-Lib.bitLen y)/\y*2 ^ (64-Lib.bitLen y)<18446744073709551616:=by
 have hs:=lX 64 y (by omega);have hle:=Lib.bitLenAux_le 64 y 64 (by omega)
 change Lib.bitLen y<=64 at hle
 change y<2 ^ (Lib.bitLen y)/\(y≠0->2 ^ (Lib.bitLen y)<=2*y)at hs
 have x8:=hs.2 h0;have hp:2 ^ Lib.bitLen y*2 ^ (64-Lib.bitLen y)=18446744073709551616:=by
  rw [<-Nat.pow_add,show Lib.bitLen y+(64-Lib.bitLen y)=64 by omega]
 have ja:0<2 ^ (64-Lib.bitLen y):=Nat.pow_pos (by omega);refine⟨?_,hle,?_,?_⟩
 ·rcases Nat.eq_zero_or_pos (Lib.bitLen y)with e|e
  ·rw [e]at hs;simp at hs;omega
  ·exact e
 ·have:=Nat.mul_le_mul_right (2 ^ (64-Lib.bitLen y)) x8
  rw [hp,Nat.mul_assoc]at this;omega
 ·rw [<-hp]
  exact Nat.mul_lt_mul_of_pos_right hs.1 ja
section
variable{Y n1 n0 u u1 q r:Nat}
theorem CK(hY:Y=n1*4294967296+n0):q*Y=q*n1*4294967296+q*n0:=by rw [hY,Nat.mul_add,Nat.mul_assoc]
theorem Xh(hY:Y=n1*4294967296+n0)(hq:q*n1+r=u)(h:q*n0<=4294967296*r+u1):q*Y<=u*4294967296+u1:=by rw [CK hY];omega
theorem Xg(hY:Y=n1*4294967296+n0)(hq:q*n1+r=u)(h:4294967296*r+u1<q*n0):u*4294967296+u1<q*Y:=by rw [CK hY];omega
theorem Ub(hu:u<Y)(Df:u1<4294967296)(h:4294967296<=q):u*4294967296+u1<q*Y:=by
 have:=Nat.mul_le_mul_right Y h;omega
theorem Xf(hY:Y=n1*4294967296+n0)(zA:n0<4294967296)(hu:u<Y)(hq:q*n1+r=u)(hr:4294967296<=r):q*Y<=u*4294967296+u1:=by
 have h1:q*n1<4294967296*n1:=by omega
 have h2:q<4294967296:=Nat.lt_of_mul_lt_mul_right h1;have h3:q*n0<=4294967296*4294967296:=Nat.mul_le_mul (by omega) (by omega);rw [CK hY];omega
theorem Gw(hu:u<Y)(Df:u1<4294967296)(h:q*Y<=u*4294967296+u1):q<4294967296:=by
 rcases Nat.lt_or_ge q 4294967296 with h'|h'
 ·exact h'
 ·have:=Ub hu Df h';omega
theorem vB(F0:2147483648<=n1)(hu:u<18446744073709551616)(hq:q*n1+r=u):q<8589934592:=by
 rcases Nat.lt_or_ge q 8589934592 with h|h
 ·exact h
 ·have:=Nat.mul_le_mul h F0
  omega
end
end Go.Proofs.YtnboahlopghcjaaGreatDoor.Tr
namespace Go.Proofs.YtnboahlopghcjaaGreatDoor.Tr
open Go.Proofs.Tryz
open Go Go.bp Go.RowKit
theorem zP{Y n1 n0 u u1:Nat}{quo rem s AG Kw:Int}{Q:aJ}{w:World}(hY:Y=n1*4294967296+n0)(zA:n0<4294967296)(F0:2147483648<=n1)(Et:n1<4294967296)(hu:u<Y)(hY':Y<18446744073709551616)(Df:u1<4294967296)
 (hex: ∀q r:Nat,q*Y<=u*4294967296+u1->u*4294967296+u1<(q+1)*Y->Q (.exit 0) (aM.e1 (Y:Int) quo rem s n1 n0 AG u1 Kw ((q:Int),(r:Int))) w)
 (q0 r0:Nat) (h0:q0*n1+r0=u) (Tw:u*4294967296+u1<(q0+1)*Y) (oS:r0<4294967296):
 Holds none [] prog 135 (.loop (lB (bB (sL (sR (sR (sR (sR (sR (sR (sR (sR (sR (sR (sR (sR (sR (sR (body aM.fn))))))))))))))))))) Q (aM.e1 (Y:Int) quo rem s n1 n0 AG u1 Kw ((q0:Int),(r0:Int))) w:=by
 refine aM.bU (I:=fun s w'=>w'=w/\ ∃q r:Nat,s=((q:Int),(r:Int))/\q*n1+r=u/\u*4294967296+u1<(q+1)*Y/\r<4294967296)
  (μ:=fun s _=>s.1.toNat) (s:=((q0:Int),(r0:Int))) ⟨rfl,q0,r0,rfl,h0,Tw,oS⟩ ?_
 rintro s w' ⟨hw,q,r,rfl,hq,hX,hr⟩;subst hw;have RA:=vB F0 (by omega) hq;have down:u*4294967296+u1<q*Y-> ∃q' r':Nat,IntKind.u64.wrap ((q:Int)-1)=(q':Int)/\IntKind.u64.wrap ((r:Int)+(n1:Int))=(r':Int)/\q'*n1+r'=u/\u*4294967296+u1<(q'+1)*Y/\q'<q:=by
  intro h;have FO:1<=q:=by
   rcases Nat.eq_zero_or_pos q with e|e
   ·rw [e]at h;omega
   ·exact e
  refine⟨q-1,r+n1,?_,?_,?_,?_,by omega⟩
  ·rw [dB (by omega) (by omega)];omega
  ·rw [dB (by omega) (by omega)];omega
  ·have:q*n1=(q-1)*n1+n1:=by
    obtain⟨k,rfl⟩: ∃k,q=k+1:=⟨q-1,by omega⟩;rw [Nat.succ_mul];rfl
   omega
  ·rwa [show q-1+1=q by omega]
 have step: ∀q' r':Nat,q'*n1+r'=u->u*4294967296+u1<(q'+1)*Y->q'<q-> ∀b:Bool,b=decide ((r':Int)>=4294967296)->
  Split b (Q (.exit 0) (aM.e1 (Y:Int) quo rem s n1 n0 AG u1 Kw ((q':Int),(r':Int))) w') (bF (aM.e1 (Y:Int) quo rem s n1 n0 AG u1 Kw) (fun s jB=>jB=w'/\ ∃q r:Nat,s=((q:Int),(r:Int))/\q*n1+r=u/\u*4294967296+u1<(q+1)*Y/\r<4294967296) (fun s _=>s.1.toNat) ((q:Int),(r:Int)) w' Q .normal (aM.e1 (Y:Int) quo rem s n1 n0 AG u1 Kw ((q':Int),(r':Int))) w'):=by
  intro q' r' h1 h2 h3 b hb;subst hb;refine Split.dec (fun iy=>?_) (fun ck=>?_)
  ·exact hex q' r' (Xf hY zA hu h1 (by omega)) h2
  ·exact⟨_,rfl,⟨rfl,q',r',rfl,h1,h2,by omega⟩,by simp only;omega⟩
 refine Split.dec (fun iy=>?_) (fun ck=>?_)
 ·obtain⟨q',r',eq,er,h1,h2,h3⟩:=down (Ub hu Df (by simp only at iy;omega))
  simp only [eq,er];exact step q' r' h1 h2 h3 _ rfl
 ·simp only at ck
  have Zm:q*n0<18446744073709551616:=by
   have:q*n0<=4294967295*4294967295:=Nat.mul_le_mul (by omega) (by omega);omega
  have e1:IntKind.u64.wrap ((q:Int)*(n0:Int))=((q*n0:Nat):Int):=by rw [<-Int.natCast_mul,dB (by omega) (by omega)]
  have e2:IntKind.u64.wrap (IntKind.u64.wrap (4294967296*(r:Int))+(u1:Int))=((4294967296*r+u1:Nat):Int):=by
   rw [dB (x:=4294967296*(r:Int)) (by omega) (by omega),dB (by omega) (by omega)];omega
  simp only [e1,e2];refine Split.dec (fun vk=>?_) (fun hle=>?_)
  ·obtain⟨q',r',eq,er,h1,h2,h3⟩:=down (Xg hY hq (by omega))
   simp only [eq,er];exact step q' r' h1 h2 h3 _ rfl
  ·exact hex q r (Xh hY hq (by omega)) hX
theorem zO{Y n1 n0 u u1:Nat}{quo rem s q1 AH:Int}{Q:aJ}{w:World}(hY:Y=n1*4294967296+n0)(zA:n0<4294967296)(F0:2147483648<=n1)(Et:n1<4294967296)(hu:u<Y)(hY':Y<18446744073709551616)(Df:u1<4294967296)
 (hex: ∀q r:Nat,q*Y<=u*4294967296+u1->u*4294967296+u1<(q+1)*Y->Q (.exit 2) (aM.e2 (Y:Int) quo rem s n1 n0 u1 q1 AH ((r:Int),(q:Int))) w)
 (q0 r0:Nat) (h0:q0*n1+r0=u) (Tw:u*4294967296+u1<(q0+1)*Y) (oS:r0<4294967296):
 Holds none [] prog 135 (.loop (lB (bB (sL (sR (sR (sR (sR (sR (sR (sR (sR (sR (sR (sR (sR (sR (sR (sR (sR (sR (sR (body aM.fn))))))))))))))))))))))) Q (aM.e2 (Y:Int) quo rem s n1 n0 u1 q1 AH ((r0:Int),(q0:Int))) w:=by
 refine aM.gz (I:=fun s w'=>w'=w/\ ∃q r:Nat,s=((r:Int),(q:Int))/\q*n1+r=u/\u*4294967296+u1<(q+1)*Y/\r<4294967296)
  (μ:=fun s _=>s.2.toNat) (s:=((r0:Int),(q0:Int))) ⟨rfl,q0,r0,rfl,h0,Tw,oS⟩ ?_
 rintro s w' ⟨hw,q,r,rfl,hq,hX,hr⟩;subst hw;have RA:=vB F0 (by omega) hq;have down:u*4294967296+u1<q*Y-> ∃q' r':Nat,IntKind.u64.wrap ((q:Int)-1)=(q':Int)/\IntKind.u64.wrap ((r:Int)+(n1:Int))=(r':Int)/\q'*n1+r'=u/\u*4294967296+u1<(q'+1)*Y/\q'<q:=by
  intro h;have FO:1<=q:=by
   rcases Nat.eq_zero_or_pos q with e|e
   ·rw [e]at h;omega
   ·exact e
  refine⟨q-1,r+n1,?_,?_,?_,?_,by omega⟩
  ·rw [dB (by omega) (by omega)];omega
  ·rw [dB (by omega) (by omega)];omega
  ·have:q*n1=(q-1)*n1+n1:=by
    obtain⟨k,rfl⟩: ∃k,q=k+1:=⟨q-1,by omega⟩;rw [Nat.succ_mul];rfl
   omega
  ·rwa [show q-1+1=q by omega]
 have step: ∀q' r':Nat,q'*n1+r'=u->u*4294967296+u1<(q'+1)*Y->q'<q-> ∀b:Bool,b=decide ((r':Int)>=4294967296)->
  Split b (Q (.exit 2) (aM.e2 (Y:Int) quo rem s n1 n0 u1 q1 AH ((r':Int),(q':Int))) w') (bF (aM.e2 (Y:Int) quo rem s n1 n0 u1 q1 AH) (fun s jB=>jB=w'/\ ∃q r:Nat,s=((r:Int),(q:Int))/\q*n1+r=u/\u*4294967296+u1<(q+1)*Y/\r<4294967296) (fun s _=>s.2.toNat) ((r:Int),(q:Int)) w' Q .normal (aM.e2 (Y:Int) quo rem s n1 n0 u1 q1 AH ((r':Int),(q':Int))) w'):=by
  intro q' r' h1 h2 h3 b hb;subst hb;refine Split.dec (fun iy=>?_) (fun ck=>?_)
  ·exact hex q' r' (Xf hY zA hu h1 (by omega)) h2
  ·exact⟨_,rfl,⟨rfl,q',r',rfl,h1,h2,by omega⟩,by simp only;omega⟩
 refine Split.dec (fun iy=>?_) (fun ck=>?_)
 ·obtain⟨q',r',eq,er,h1,h2,h3⟩:=down (Ub hu Df (by simp only at iy;omega))
  simp only [eq,er];exact step q' r' h1 h2 h3 _ rfl
 ·simp only at ck
  have Zm:q*n0<18446744073709551616:=by
   have:q*n0<=4294967295*4294967295:=Nat.mul_le_mul (by omega) (by omega);omega
  have e1:IntKind.u64.wrap ((q:Int)*(n0:Int))=((q*n0:Nat):Int):=by rw [<-Int.natCast_mul,dB (by omega) (by omega)]
  have e2:IntKind.u64.wrap (IntKind.u64.wrap (4294967296*(r:Int))+(u1:Int))=((4294967296*r+u1:Nat):Int):=by
   rw [dB (x:=4294967296*(r:Int)) (by omega) (by omega),dB (by omega) (by omega)];omega
  simp only [e1,e2];refine Split.dec (fun vk=>?_) (fun hle=>?_)
  ·obtain⟨q',r',eq,er,h1,h2,h3⟩:=down (Xg hY hq (by omega))
   simp only [eq,er];exact step q' r' h1 h2 h3 _ rfl
  ·exact hex q r (Xh hY hq (by omega)) hX
end Go.Proofs.YtnboahlopghcjaaGreatDoor.Tr
namespace Go.Proofs.YtnboahlopghcjaaGreatDoor.Tr
open Go.Proofs.Tryz
open Go Go.bp Go.RowKit
theorem Oo(a:Nat)(ha:a<18446744073709551616):IntKind.u64.wrap ((BitVec.ofInt 64 (a:Int)&&& BitVec.ofInt 64 (4294967295:Int)).toNat:Int)=((a%4294967296:Nat):Int):=by
 have h:=bits_and_u64_nat a 4294967295 ha (by omega);have e:a&&& 4294967295=a%4294967296:=Nat.and_two_pow_sub_one_eq_mod a 32;rw [e]at h;exact h
theorem X1(a b s:Nat)(ha:a*2 ^ s<18446744073709551616)(hb:b<2 ^ s)(r7:b<18446744073709551616):
 IntKind.u64.wrap ((BitVec.ofInt 64 ((a*2 ^ s:Nat):Int)|||BitVec.ofInt 64 (b:Int)).toNat:Int)=((a*2 ^ s+b:Nat):Int):=by
 have h:=bits_or_u64_nat (a*2 ^ s) b ha r7;rw [Nat.mul_comm,<-Nat.two_pow_add_eq_or_of_lt hb,Nat.mul_comm]at h;exact h
theorem KD(a k:Nat):Int.fdiv (a:Int) (2 ^ k)=((a/2 ^ k:Nat):Int):=by
 rw [Int.fdiv_eq_ediv_of_nonneg _ (by exact Int.le_of_lt (Int.pow_pos (by omega)))];rw [Int.natCast_ediv,Int.natCast_pow];rfl
theorem P4(a k:Nat):(a:Int)*2 ^ k=((a*2 ^ k:Nat):Int):=by rw [Int.natCast_mul,Int.natCast_pow];rfl
theorem TY{N u L u1 u0 v a b:Nat}(hN:N=u*18446744073709551616+L)(hL:L=u1*4294967296+u0)(hv:u*4294967296+u1-a=v)(ha:a<=u*4294967296+u1)(hb:b<=v*4294967296+u0):a*4294967296+b<=N:=by omega
theorem TX{N u L u1 u0 v a b:Nat}(hN:N=u*18446744073709551616+L)(hL:L=u1*4294967296+u0)(hv:u*4294967296+u1-a=v)(ha:a<=u*4294967296+u1)(hb:v*4294967296+u0<b):N<a*4294967296+b:=by omega
section
variable{w:World}{K:Value->World->Prop}
theorem kz(x:Nat)(hx:x<18446744073709551616)(hK:K (.int .i64 ((64-Lib.bitLen x:Nat):Int)) w):aY prog bits_LeadingZeros64.id #[.int .u64 x] w K:=by
 refine bits_LeadingZeros64.of (se x hx ⟨_,rfl,?_⟩);have hle:=Lib.bitLen_le x 64 (by omega) (by omega)
 rwa [gu (by omega) (by omega),show(64:Int)-(Lib.bitLen x:Int)=((64-Lib.bitLen x:Nat):Int)by omega]
theorem sf(hi lo y:Nat)(Pd:lo<18446744073709551616)(hy:y<18446744073709551616)(Ws:hi<y)
 (hK: ∀r w',Kept Nil w w'->K (.tuple #[.int .u64 (((hi*18446744073709551616+lo)/y:Nat):Int),.int .u64 r]) w'):
 aY prog aM.id #[.int .u64 hi,.int .u64 lo,.int .u64 y] w K:=by
 refine aM.of (Split.no (beq_eq_false_iff_ne.2 (by omega)) (Split.no (decide_eq_false (by omega)) ?_));by_cases h0:hi=0
 ·subst h0
  refine Split.yes rfl ?_;intro w6;refine⟨by omega,by omega,?_⟩;have e:IntKind.u64.wrap ((lo:Int).tdiv (y:Int))=(((0*18446744073709551616+lo)/y:Nat):Int):=by
   rw [Int.tdiv_eq_ediv_of_nonneg (by omega),Nat.zero_mul,Nat.zero_add,<-Int.natCast_ediv];have:=Nat.div_le_self lo y;generalize lo/y=z at*;exact dB (by omega) (by omega)
  rw [e];exact hK _ w6 (Kept.refl Nil w).drew
 ·refine Split.no (beq_eq_false_iff_ne.2 (by omega)) (kz y hy ⟨_,rfl,?_⟩)
  obtain⟨JX,Tg,hY1,hY2⟩:=bitLen_spec (y:=y) (by omega) hy;have hs:64-Lib.bitLen y<64:=by omega
  generalize 64-Lib.bitLen y=s at*;have eS:IntKind.u64.wrap (s:Int)=(s:Int):=dB (by omega) (by omega);have eS2:IntKind.u64.wrap ((64:Int)-(s:Int))=((64-s:Nat):Int):=by rw [dB (by omega) (by omega)];omega
  have em1:min s 64=s:=by omega
  have em2:min (64-s) 64=64-s:=by omega
  have em3:min (32:Int).toNat 64=32:=rfl;have JM:2 ^ (64-s)*2 ^ s=18446744073709551616:=by rw [<-Nat.pow_add,show 64-s+s=64 by omega]
  have ja:0<2 ^ s:=Nat.pow_pos (by omega);have L5:0<2 ^ (64-s):=Nat.pow_pos (by omega);simp only [eS,eS2,Int.toNat_natCast,em1,em2,em3,P4];generalize WL:y*2 ^ s=Y at*;have Z2:hi*2 ^ s<18446744073709551616:=by
   have:hi*2 ^ s<y*2 ^ s:=Nat.mul_lt_mul_of_pos_right Ws ja;omega
  have ZK:lo/2 ^ (64-s)<2 ^ s:=by
   rw [Nat.div_lt_iff_lt_mul L5,Nat.mul_comm,JM];exact Pd
  have R9:lo/2 ^ (64-s)<18446744073709551616:=Nat.lt_of_le_of_lt (Nat.div_le_self _ _) Pd;have eY:IntKind.u64.wrap (Y:Int)=(Y:Int):=dB (by omega) (by omega);have eH:IntKind.u64.wrap ((hi*2 ^ s:Nat):Int)=((hi*2 ^ s:Nat):Int):=dB (by omega) (by omega);have eL:IntKind.u64.wrap ((lo*2 ^ s:Nat):Int)=((lo*2 ^ s%18446744073709551616:Nat):Int):=by rw [IntKind.wrap_u64];omega
  have Ua: ∀a:Nat,Int.fdiv (a:Int) (2 ^ 32)=((a/4294967296:Nat):Int):=fun a=>KD a 32;simp only [eY,eH,eL,Ua,KD lo,X1 hi _ s Z2 ZK R9,Oo Y (by omega),Oo _ (Nat.mod_lt (lo*2 ^ s) (by omega:18446744073709551616>0))];have hN:(hi*18446744073709551616+lo)*2 ^ s=(hi*2 ^ s+lo/2 ^ (64-s))*18446744073709551616+lo*2 ^ s%18446744073709551616:=by
   have h1:lo*2 ^ s/18446744073709551616=lo/2 ^ (64-s):=by
    rw [<-JM,Nat.mul_div_mul_right _ _ ja]
   have h2:=Nat.div_add_mod (lo*2 ^ s) 18446744073709551616;rw [h1]at h2;rw [Nat.add_mul,Nat.mul_right_comm];omega
  have aaF:(hi*18446744073709551616+lo)*2 ^ s<Y*18446744073709551616:=by
   have h1:hi*18446744073709551616+lo<y*18446744073709551616:=by omega
   have:=Nat.mul_lt_mul_of_pos_right h1 ja;rw [Nat.mul_right_comm,WL]at this;exact this
  have FN:(hi*18446744073709551616+lo)*2 ^ s/Y=(hi*18446744073709551616+lo)/y:=by rw [<-WL,Nat.mul_div_mul_right _ _ ja]
  rw [<-FN]at hK;clear FN;generalize (hi*18446744073709551616+lo)*2 ^ s=N at*;have hL:lo*2 ^ s%18446744073709551616<18446744073709551616:=Nat.mod_lt _ (by omega);generalize lo*2 ^ s%18446744073709551616=L at*;generalize hi*2 ^ s+lo/2 ^ (64-s)=u at*;have hu:u<Y:=by omega
  have F0:2147483648<=Y/4294967296:=by omega
  have Et:Y/4294967296<4294967296:=by omega
  have zA:Y%4294967296<4294967296:=by omega
  have Tv:Y=Y/4294967296*4294967296+Y%4294967296:=by omega
  have Df:L/4294967296<4294967296:=by omega
  have Q7:L%4294967296<4294967296:=by omega
  have WS:L=L/4294967296*4294967296+L%4294967296:=by omega
  generalize Y/4294967296=n1 at*;generalize Y%4294967296=n0 at*;generalize L/4294967296=u1 at*;generalize L%4294967296=u0 at*;have Gu: ∀v:Nat,v<18446744073709551616->IntKind.u64.wrap ((v:Int).tdiv (n1:Int))=((v/n1:Nat):Int)/\IntKind.u64.wrap ((v:Int)-IntKind.u64.wrap (((v/n1:Nat):Int)*(n1:Int)))=((v%n1:Nat):Int)/\v/n1*n1+v%n1=v/\v%n1<n1:=by
   intro v hv;have h1:=Nat.div_le_self v n1;have h2:=Nat.div_add_mod' v n1;refine⟨?_,?_,h2,Nat.mod_lt _ (by omega)⟩
   ·rw [Int.tdiv_eq_ediv_of_nonneg (by omega),<-Int.natCast_ediv]
    generalize v/n1=z at*;exact dB (by omega) (by omega)
   ·rw [<-Int.natCast_mul,dB (x:=((v/n1*n1:Nat):Int)) (by omega) (by omega),dB (by omega) (by omega)]
    omega
  have first: ∀v d:Nat,v<Y->d<4294967296->v*4294967296+d<(v/n1+1)*Y:=by
   intro v d hv hd;have h2:=Nat.div_add_mod' v n1;have h3:=Nat.mod_lt v (show 0<n1 by omega);have h4:v+1<=(v/n1+1)*n1:=by rw [Nat.succ_mul];omega
   have h5:(v+1)*4294967296<=(v/n1+1)*n1*4294967296:=Nat.mul_le_mul_right _ h4;have h6:(v/n1+1)*n1*4294967296<=(v/n1+1)*Y:=by
    have h7:n1*4294967296<=Y:=Nat.le_trans (Nat.le_add_right _ n0) (Nat.le_of_eq Tv.symm);rw [Nat.mul_assoc];exact Nat.mul_le_mul_left _ h7
   omega
  obtain⟨g1,g2,g3,g4⟩:=Gu u (by omega);simp only [g1,g2];refine⟨by omega,by omega,by omega,by omega,by omega,by omega,by omega,?_⟩;refine zP Tv zA F0 Et hu (by omega) Df ?_ (u/n1) (u%n1) g3 (first u u1 hu Df) (by omega);intro q r FO JL;rw [show aM.e1 (Y:Int) 0 0 (s:Int) (n1:Int) (n0:Int) (u:Int) (u1:Int) (u0:Int) ((q:Int),(r:Int))= [(2,.int .u64 (Y:Int)),(6,.int .u64 0),(7,.int .u64 0),(8,.int .u64 (s:Int)),(9,.int .u64 (n1:Int)),(10,.int .u64 (n0:Int)),(11,.int .u64 (u:Int)),(13,.int .u64 (u1:Int)),(14,.int .u64 (u0:Int)),(15,.int .u64 (q:Int)),(16,.int .u64 (r:Int))]from rfl];rw [aM.dD];have hqB:=Gw hu Df FO;rw [Nat.succ_mul]at JL;have hp:IntKind.u64.wrap (IntKind.u64.wrap (IntKind.u64.wrap ((u:Int)*4294967296)+(u1:Int))-IntKind.u64.wrap ((q:Int)*(Y:Int)))=((u*4294967296+u1-q*Y:Nat):Int):=by
   rw [<-Int.natCast_mul q Y];simp only [IntKind.wrap_u64];generalize q*Y=p at*;omega
  unfold aM.cW;simp only [hp];have hv:u*4294967296+u1-q*Y<Y:=by omega
  generalize VI:u*4294967296+u1-q*Y=v at*;obtain⟨g1',g2',g3',g4'⟩:=Gu v (by omega);simp only [g1',g2'];refine⟨by omega,?_⟩;refine zO Tv zA F0 Et hv (by omega) Q7 ?_ (v/n1) (v%n1) g3' (first v u0 hv Q7) (by omega);intro q' r' L4 RB;rw [show aM.e2 (Y:Int) 0 0 (s:Int) (n1:Int) (n0:Int) (u0:Int) (q:Int) (v:Int) ((r':Int),(q':Int))= [(2,.int .u64 (Y:Int)),(6,.int .u64 0),(7,.int .u64 0),(8,.int .u64 (s:Int)),(9,.int .u64 (n1:Int)),(10,.int .u64 (n0:Int)),(14,.int .u64 (u0:Int)),(15,.int .u64 (q:Int)),(16,.int .u64 (r':Int)),(17,.int .u64 (v:Int)),(18,.int .u64 (q':Int))]from rfl];rw [aM.jI];have Zo:=Gw hv Q7 L4;refine⟨by omega,?_⟩;have Rj:IntKind.u64.wrap (IntKind.u64.wrap ((q:Int)*4294967296)+(q':Int))=((N/Y:Nat):Int):=by
   rw [dB (x:=(q:Int)*4294967296) (by omega) (by omega),dB (by omega) (by omega)];have:N/Y=q*4294967296+q':=by
    apply Nat.div_eq_of_lt_le
    ·rw [Nat.add_mul,Nat.mul_right_comm]
     exact TY hN WS VI FO L4
    ·rw [Nat.add_assoc,Nat.add_mul,Nat.mul_right_comm]
     exact TX hN WS VI FO RB
   rw [this];omega
  rw [Rj];exact hK _ w (Kept.refl Nil w)
end
end Go.Proofs.YtnboahlopghcjaaGreatDoor.Tr
namespace Go.Proofs.YtnboahlopghcjaaGreatDoor.Tr
open Go.Proofs.Tryz
structure iP(T T':List Nd):Prop where
 len:T'.length=T.length
 at_: ∀(i:Nat) nd,T[i]? =some nd-> ∃nd',T'[i]? =some nd'/\nd'.parent=nd.parent/\nd'.ch=nd.ch
theorem iP.refl(T:List Nd):iP T T:=⟨rfl,fun _ nd h=>⟨nd,h,rfl,rfl⟩⟩
theorem iP.trans{T T' yv:List Nd}(h:iP T T')(h':iP T' yv):iP T yv:=⟨h'.len.trans h.len,fun i nd hi=>by
 obtain⟨nd',h1,h2,h3⟩:=h.at_ i nd hi;obtain⟨Qk,g1,g2,g3⟩:=h'.at_ i nd' h1;exact⟨Qk,g1,g2.trans h2,g3.trans h3⟩⟩
theorem iP.back{T T':List Nd}(h:iP T T'){i:Nat}{nd':Nd}(hi:T'[i]? =some nd'): ∃nd,T[i]? =some nd/\nd'.parent=nd.parent/\nd'.ch=nd.ch:=by
 have ck:=(List.getElem?_eq_some_iff.1 hi).1;obtain⟨nd,fG⟩:=dL (T:=T) (i:=i) (by rw [<-h.len];exact ck);obtain⟨x,h1,h2,h3⟩:=h.at_ i nd fG;rw [hi]at h1;cases h1;exact⟨nd,fG,h2,h3⟩
theorem iP.bj{T T':List Nd}(h:iP T T'):bj T'=bj T:=by
 apply List.ext_getElem?;intro i;rcases Nat.lt_or_ge i T.length with hi|hi
 ·obtain⟨nd,fG⟩:=dL hi
  obtain⟨nd',h1,h2,_⟩:=h.at_ i nd fG;rw [iJ fG,iJ h1,h2]
 ·rw [List.getElem?_eq_none (by rw [cZ,h.len];exact hi),List.getElem?_eq_none (by rw [cZ];exact hi)]
theorem iP.shape{T T':List Nd}(h:iP T T')(hS:Shape T):Shape T':=⟨by rw [h.bj];exact hS.par,fun i nd' hi=>by
 obtain⟨nd,fG,_,h3⟩:=h.back hi;rw [h.bj,h3,hS.ch i nd fG]⟩
theorem iP.set{T:List Nd}{i:Nat}{nd nd':Nd}(hi:T[i]? =some nd)(h1:nd'.parent=nd.parent)(h2:nd'.ch=nd.ch):iP T (T.set i nd'):=
 ⟨by simp,fun j x hj=>by
   by_cases e:i=j
   ·subst e
    rw [hi]at hj;cases hj;exact⟨nd',fy hi,h1,h2⟩
   ·exact⟨x,ko hj e,rfl,rfl⟩⟩
theorem sX{T:List Nd}{n p:Nat}{nd pd:Nd}{many:Int}(hn:T[n]? =some nd)(hp:T[p]? =some pd)(fc:n≠p)(i:Nat):
 (qW T n p nd pd many)[i]? =if i=p then some {pd with free:=pd.free+many}else if i=n then some {nd with lo:=pd.free,hi:=pd.free+many-1,free:=pd.free}else T[i]? :=by
 unfold qW;by_cases e:i=p
 ·subst e
  rw [if_pos rfl];exact fy (ko hp fc)
 ·rw [if_neg e,List.getElem?_set_ne (fun h=>e h.symm)]
  by_cases e2:i=n
  ·subst e2
   rw [if_pos rfl];exact fy hn
  ·rw [if_neg e2,List.getElem?_set_ne (fun h=>e2 h.symm)]
theorem qV{T:List Nd}{n p:Nat}{nd pd:Nd}(many:Int)(hn:T[n]? =some nd)(hp:T[p]? =some pd)(fc:n≠p):iP T (qW T n p nd pd many):=
 (iP.set (nd':= {nd with lo:=pd.free,hi:=pd.free+many-1,free:=pd.free}) hn rfl rfl).trans (iP.set (nd:=pd) (nd':= {pd with free:=pd.free+many}) (ko hp fc) rfl rfl)
theorem uz{l:List Nat}(hs:l.Pairwise (· < ·)){k c:Nat}(hc:l[k]? =some c): ∀y,y∈l.take k->y<c:=by
 intro y hy;obtain⟨j,hj⟩:=List.mem_iff_getElem?.1 hy;rw [List.getElem?_take]at hj;split at hj
 ·rename_i ck
  obtain⟨h1,e1⟩:=List.getElem?_eq_some_iff.1 hj;obtain⟨h2,e2⟩:=List.getElem?_eq_some_iff.1 hc;rw [<-e1,<-e2];exact List.pairwise_iff_getElem.1 hs j k h1 h2 ck
 ·cases hj
theorem j0{l:List Nat}{k c:Nat}(hc:l[k]? =some c):l.take (k+1)=l.take k++ [c]:=by
 rw [List.take_add_one,hc];rfl
structure mc(P:List Int)(T1:List Nd)(x:Nat)(xd:Nd)(half:Int)(k:Nat)(T':List Nd)(f:Int):Prop where
 ke:iP T1 T'
 here:T'[x]? =some {xd with free:=f}
 rest: ∀y,y≠x->y∉xd.ch.take k->T'[y]? =T1[y]?
 lo:xd.lo+(((xd.ch.take k).map (sz P)).sum:Nat)<=f
 up:(f-xd.lo-(((xd.ch.take k).map (sz P)).sum:Nat))*(sz P x:Int)<=half*(((xd.ch.take k).map (sz P)).sum:Nat)
 nr: ∀c cd,c∈xd.ch.take k->T'[c]? =some cd->xd.lo<=cd.lo/\cd.hi<f/\(sz P c:Int)<=cd.hi-cd.lo+1
 ord: ∀c c' cd rk,c∈xd.ch.take k->c'∈xd.ch.take k->c<c'->T'[c]? =some cd->T'[c']? =some rk->cd.hi<rk.lo
section
variable{P:List Int}{T1 T':List Nd}{x:Nat}{xd:Nd}{half f:Int}{k:Nat}
theorem mc.start(hx:T1[x]? =some xd)(hf:xd.free=xd.lo):mc P T1 x xd half 0 T1 xd.lo:= {
 ke:=iP.refl _
 here:=by obtain⟨a,b,c,d,e⟩:=xd;simp only at hf;subst hf;exact hx
 rest:=fun _ _ _=>rfl
 lo:=by simp
 up:=by simp
 nr:=fun c cd hc=>by simp at hc
 ord:=fun c c' cd rk hc=>by simp at hc}
theorem mc.bound(h:mc P T1 x xd half k T' f)(hh:0<=half)(VQ:1<=sz P x)(BU:((xd.ch.take k).map (sz P)).sum<=sz P x):f<=xd.lo+(((xd.ch.take k).map (sz P)).sum:Nat)+half:=by
 have h1:half*(((xd.ch.take k).map (sz P)).sum:Nat)<=half*(sz P x:Int):=Int.mul_le_mul_of_nonneg_left (by omega) hh;have h2:=Int.le_trans h.up h1;have h3:=Int.le_of_mul_le_mul_right h2 (by omega);omega
theorem mc.step(h:mc P T1 x xd half k T' f)(hs:xd.ch.Pairwise (· < ·)){c:Nat}(hx: ∀y,y∈xd.ch->x<y)(hc:xd.ch[k]? =some c){cd:Nd}(gE:T'[c]? =some cd)
 {more:Int} (JR:0<=more) (hm:more*(sz P x:Int)<=half*(sz P c:Int)) (Ah:1<=sz P c):
 mc P T1 x xd half (k+1) (qW T' c x cd {xd with free:=f} ((sz P c:Int)+more)) (f+((sz P c:Int)+more)):=by
 have ck:=uz hs hc;have YF:x<c:=hx c (List.mem_of_getElem? hc);have Mh:c∉xd.ch.take k:=fun hh=>Nat.lt_irrefl _ (ck c hh);have ek:=sX (many:=(sz P c:Int)+more) gE h.here (by omega);have BU:((xd.ch.take (k+1)).map (sz P)).sum=((xd.ch.take k).map (sz P)).sum+sz P c:=by rw [j0 hc];simp
 have jm: ∀y,y∈xd.ch.take (k+1)↔y∈xd.ch.take k\/y=c:=by intro y;rw [j0 hc];simp
 exact {
  ke:=h.ke.trans (qV _ gE h.here (by omega))
  here:=by rw [ek,if_pos rfl]
  rest:=fun y hy hn=>by
   rw [ek,if_neg hy,if_neg (fun e=>hn ((jm y).2 (.inr e)))];exact h.rest y hy (fun hh=>hn ((jm y).2 (.inl hh)))
  lo:=by rw [BU];have:=h.lo;omega
  up:=by
   rw [BU];have h1:=h.up;have e1:(f+((sz P c:Int)+more)-xd.lo-((((xd.ch.take k).map (sz P)).sum+sz P c:Nat):Int))*(sz P x:Int)=(f-xd.lo-((((xd.ch.take k).map (sz P)).sum:Nat):Int))*(sz P x:Int)+more*(sz P x:Int):=by
    rw [<-Int.add_mul];congr 1;omega
   have e2:half*((((xd.ch.take k).map (sz P)).sum+sz P c:Nat):Int)=half*((((xd.ch.take k).map (sz P)).sum:Nat):Int)+half*(sz P c:Int):=by
    rw [<-Int.mul_add];congr 1
   rw [e1,e2];omega
  nr:=fun y yd hy wK=>by
   have Pd:=h.lo;rw [ek]at wK;rcases(jm y).1 hy with hh|rfl
   ·have h1:=ck y hh
    have h2:=hx y (List.mem_of_mem_take hh);rw [if_neg (by omega),if_neg (by omega)]at wK;have:=h.nr y yd hh wK;exact⟨this.1,by omega,this.2.2⟩
   ·rw [if_neg (by omega),if_pos rfl]at wK
    cases wK;refine⟨?_,?_,?_⟩<;>simp only<;>omega
  ord:=fun a b ad bd ha hb jZ Gq Gk=>by
   rw [ek]at Gq Gk;rcases(jm b).1 hb with r7|rfl
   ·have h1:=ck b r7
    rcases(jm a).1 ha with Ao|rfl
    ·have h2:=hx a (List.mem_of_mem_take Ao)
     rw [if_neg (by omega),if_neg (by omega)]at Gq Gk;exact h.ord a b ad bd Ao r7 jZ Gq Gk
    ·omega
   ·rcases(jm a).1 ha with Ao|rfl
    ·have h1:=ck a Ao
     have h2:=hx a (List.mem_of_mem_take Ao);rw [if_neg (by omega),if_neg (by omega)]at Gq;rw [if_neg (by omega),if_pos rfl]at Gk;cases Gk;exact(h.nr a ad Ao Gq).2.1
    ·omega}
end
structure jX(P:List Int)(T0:List Nd)(m:Nat)(T':List Nd)(q:List Nat)(i:Nat):Prop where
 ke:iP T0 T'
 nodup:q.Nodup
 lf: ∀y,y∈q->gU P y m
 fst:m∈q
 src: ∀y,y∈q->y=m\/ ∃z:Nat,z∈q.take i/\P[y]? =some (z:Int)
 PB: ∀z,z∈q.take i-> ∀c,c∈kids P z->c∈q
 rest: ∀y,y∉q->T'[y]? =T0[y]?
 top: ∀md KV,T0[m]? =some md->T'[m]? =some KV->KV.lo=md.lo/\KV.hi=md.hi
 room: ∀y yd,y∈q->T'[y]? =some yd->1<=yd.lo/\yd.hi<=4611686018427387904/\(sz P y:Int)<=yd.hi-yd.lo+1
 loc: ∀z zd,z∈q.take i->T'[z]? =some zd->Loc T' zd
theorem jX.start{P:List Int}{T0:List Nd}{m:Nat}{md:Nd}(hm:m<P.length)(yc:T0[m]? =some md)(h1:1<=md.lo)(h2:md.hi<=4611686018427387904)(h3:(sz P m:Int)<=md.hi-md.lo+1):
 jX P T0 m T0 [m] 0:= {
 ke:=iP.refl _
 nodup:=by simp
 lf:=fun y hy=>by simp at hy;subst hy;exact .refl hm
 fst:=by simp
 src:=fun y hy=>by simp at hy;exact .inl hy
 PB:=fun z hz=>by simp at hz
 rest:=fun _ _=>rfl
 top:=fun a b ha hb=>by rw [ha]at hb;cases hb;exact⟨rfl,rfl⟩
 room:=fun y yd hy wK=>by
  simp at hy;subst hy;rw [yc]at wK;cases wK;exact⟨h1,h2,h3⟩
 loc:=fun z zd hz=>by simp at hz}
section
variable{T0 T' yv:List Nd}{m x i:Nat}{q:List Nat}{xd:Nd}{f half:Int}
theorem jX.step(hS:Shape T0)(h:jX (bj T0) T0 m T' q i)(hq:q[i]? =some x)(Dc:T'[x]? =some xd)
 (yj:0<=half) (Sl:half*2<=xd.hi-xd.lo-((sz (bj T0) x:Int)-1))
 (fY:mc (bj T0) (T'.set x {xd with free:=xd.lo}) x {xd with free:=xd.lo} half xd.ch.length yv f):
 jX (bj T0) T0 m yv (q++xd.ch) (i+1):=by
 have Po:=h.ke.shape hS;have RG:=h.ke.bj;have hP:=hS.par;have lR:xd.ch=kids (bj T0) x:=by rw [Po.ch x xd Dc,RG]
 have eI:i<q.length:=(List.getElem?_eq_some_iff.1 hq).1;have FD:x∈q:=List.mem_of_getElem? hq;have r4:x<(bj T0).length:=(h.lf x FD).lt;have wM:q.take (i+1)=q.take i++ [x]:=j0 hq;have HU:(q++xd.ch).take (i+1)=q.take i++ [x]:=by rw [List.take_append_of_le_length (by omega),wM]
 have FE:x∉q.take i:=by
  intro hh;have hn:(q.take i++ [x]).Nodup:=by rw [<-wM];exact h.nodup.sublist (List.take_sublist _ _)
  rw [List.nodup_append]at hn;exact hn.2.2 x hh x (by simp) rfl
 have zB: ∀c,c∈xd.ch->(bj T0)[c]? =some (x:Int):=fun c hc=>c8.1 (lR▸hc);have vk: ∀c,c∈xd.ch->x<c:=fun c hc=>(fI hP (lR▸hc)).1;have lQ: ∀c,c∈xd.ch->c∉q:=by
  intro c hc Pj;rcases h.src c Pj with rfl|⟨z,hz,O8⟩
  ·have:=(h.lf x FD).le hP
   have:=vk _ hc;omega
  ·rw [zB c hc]at O8
   have:z=x:=by have:=Option.some.inj O8;omega
   exact FE (this▸hz)
 have YE:x∉xd.ch:=fun hh=>Nat.lt_irrefl _ (vk x hh);have dw: ∀c,c∈(({xd with free:=xd.lo}:Nd).ch.take xd.ch.length)↔c∈xd.ch:=by intro c;simp
 have BU:(xd.ch.map (sz (bj T0))).sum+1=sz (bj T0) x:=by
  rw [lR];exact xJ hP r4
 have ja:=qd hP r4;have JT:=fY.bound yj ja (by simp only [List.take_length];omega);have Sx:=fY.lo;simp only [List.take_length]at JT Sx;have Sy:f<=xd.hi:=by omega
 have hT1: ∀y,y≠x->(T'.set x {xd with free:=xd.lo})[y]? =T'[y]? :=fun y hy=>List.getElem?_set_ne (fun e=>hy e.symm);have B8: ∀y,y≠x->y∉xd.ch->yv[y]? =T'[y]? :=fun y hy hn=>by
  rw [fY.rest y hy (fun hh=>hn ((dw y).1 hh)),hT1 y hy]
 have Gb:yv[x]? =some {xd with free:=f}:=fY.here;have hxr:=h.room x xd FD Dc;have hlh:xd.lo<=xd.hi:=by omega
 have hold: ∀y uj,y∉xd.ch->yv[y]? =some uj-> ∃yd,T'[y]? =some yd/\yd.lo=uj.lo/\yd.hi=uj.hi:=by
  intro y uj hn hy;by_cases e:y=x
  ·subst e
   rw [Gb]at hy;cases hy;exact⟨xd,Dc,rfl,rfl⟩
  ·rw [B8 y e hn]at hy
   exact⟨uj,hy,rfl,rfl⟩
 exact {
  ke:=(h.ke.trans (iP.set (nd':= {xd with free:=xd.lo}) Dc rfl rfl)).trans fY.ke
  nodup:=by
   rw [List.nodup_append];refine⟨h.nodup,?_,fun a ha b hb e=>lQ b hb (e▸ha)⟩;rw [lR];exact(pg _ _).imp (fun h=>by omega)
  lf:=fun y hy=>by
   rcases List.mem_append.1 hy with hy|hy
   ·exact h.lf y hy
   ·exact .step (zB y hy) (h.lf x FD)
  fst:=List.mem_append.2 (.inl h.fst)
  src:=fun y hy=>by
   rw [HU];rcases List.mem_append.1 hy with hy|hy
   ·rcases h.src y hy with e|⟨z,hz,O8⟩
    ·exact .inl e
    ·exact .inr ⟨z,List.mem_append.2 (.inl hz),O8⟩
   ·exact .inr ⟨x,by simp,zB y hy⟩
  PB:=fun z hz c hc=>by
   rw [HU]at hz;rcases List.mem_append.1 hz with hz|hz
   ·exact List.mem_append.2 (.inl (h.PB z hz c hc))
   ·simp at hz
    subst hz;exact List.mem_append.2 (.inr (lR▸hc))
  rest:=fun y hy=>by
   have h1:y∉q:=fun hh=>hy (List.mem_append.2 (.inl hh));have h2:y∉xd.ch:=fun hh=>hy (List.mem_append.2 (.inr hh));rw [B8 y (fun e=>h1 (e▸FD)) h2,h.rest y h1]
  top:=fun md Qm yc Mu=>by
   obtain⟨KV,h1,h2,h3⟩:=hold m Qm (fun hh=>lQ m hh h.fst) Mu;have:=h.top md KV yc h1;omega
  room:=fun y uj hy FC=>by
   rcases List.mem_append.1 hy with hy|hy
   ·obtain⟨yd,h1,h2,h3⟩:=hold y uj (fun hh=>lQ y hh hy) FC
    have:=h.room y yd hy h1;omega
   ·have:=fY.nr y uj ((dw y).2 hy) FC
    simp only at this;omega
  loc:=fun z zd hz QR=>by
   rw [HU]at hz;rcases List.mem_append.1 hz with hz|hz
   ·have Yw:z∈q:=List.mem_of_mem_take hz
    have LA:z≠x:=fun e=>FE (e▸hz);have HI:=QR;rw [B8 z LA (fun hh=>lQ z hh Yw)]at HI;have hl:=h.loc z zd hz HI;have QS:zd.ch=kids (bj T0) z:=by rw [Po.ch z zd HI,RG]
    have Pk: ∀c,c∈zd.ch->c∉xd.ch:=by
     intro c hc Gd;have h1:=zB c Gd;rw [c8.1 (QS▸hc:c∈kids (bj T0) z)]at h1;have:=Option.some.inj h1;omega
    exact {
     Ar:=hl.Ar
     xg:=hl.xg
     sub:=fun c cd hc gE=>by
      obtain⟨rk,h1,h2,h3⟩:=hold c cd (Pk c hc) gE;have:=hl.sub c rk hc h1;omega
     ord:=fun c c' cd rk hc qS vn gE nv=>by
      obtain⟨ed,h1,h2,h3⟩:=hold c cd (Pk c hc) gE;obtain⟨I3,po,qT,ym⟩:=hold c' rk (Pk c' qS) nv;have:=hl.ord c c' ed I3 hc qS vn h1 po;omega}
   ·simp at hz
    subst hz;rw [Gb]at QR;cases QR;exact {
     Ar:=by simp only;omega
     xg:=Sy
     sub:=fun c cd hc gE=>by
      have:=fY.nr c cd ((dw c).2 hc) gE;simp only at this⊢;omega
     ord:=fun c c' cd rk hc qS vn gE nv=>fY.ord c c' cd rk ((dw c).2 hc) ((dw c').2 qS) vn gE nv}}
theorem jX.fin(hS:Shape T0)(h:jX (bj T0) T0 m T' q i)(hi:q.length<=i)
 (Mb: ∀y nd,T0[y]? =some nd-> ¬gU (bj T0) y m->Iv nd/\Loc T0 nd):Good T':=by
 have Po:=h.ke.shape hS;have RG:=h.ke.bj;have hP:=hS.par;have wM:q.take i=q:=List.take_of_length_le hi;have tH: ∀y,gU (bj T0) y m->y∈q:=by
  have: ∀y k,gU (bj T0) y k->k=m->y∈q:=by
   intro y k hu
   induction hu with
   |refl=>intro e;subst e;exact h.fst
   | @step a b c hp h' ih=>intro e;exact h.PB b (by rw [wM];exact ih e) a (c8.2 hp)
  exact fun y hu=>this y m hu rfl
 have hq: ∀y,y∈q↔gU (bj T0) y m:=fun y=>⟨h.lf y,tH y⟩;refine⟨Po,fun y yd wK=>?_,fun y yd wK=>?_⟩
 ·by_cases hy:y∈q
  ·have hr:=h.room y yd hy wK
   have:=qd hP (h.lf y hy).lt;exact⟨hr.1,by omega,hr.2.1⟩
  ·rw [h.rest y hy]at wK
   exact(Mb y yd wK (fun hu=>hy (tH y hu))).1
 ·by_cases hy:y∈q
  ·exact h.loc y yd (by rw [wM];exact hy) wK
  ·have HK:=wK
   rw [h.rest y hy]at HK;have hl:=(Mb y yd HK (fun hu=>hy (tH y hu))).2;have lR:=hS.ch y yd HK;have hold: ∀c cd,c∈yd.ch->T'[c]? =some cd-> ∃ed,T0[c]? =some ed/\ed.lo=cd.lo/\ed.hi=cd.hi:=by
    intro c cd hc gE;by_cases Pj:c∈q
    ·have Zs:=c8.1 (lR▸hc:c∈kids (bj T0) y)
     have kK:c=m:=by
      by_cases e:c=m
      ·exact e
      ·exact absurd (tH y ((h.lf c Pj).inv e Zs)) hy
     subst kK;obtain⟨ed,Wz,_⟩:=h.ke.back gE;have:=h.top ed cd Wz gE;exact⟨ed,Wz,by omega,by omega⟩
    ·rw [h.rest c Pj]at gE
     exact⟨cd,gE,rfl,rfl⟩
   exact {
    Ar:=hl.Ar
    xg:=hl.xg
    sub:=fun c cd hc gE=>by
     obtain⟨ed,h1,h2,h3⟩:=hold c cd hc gE;have:=hl.sub c ed hc h1;omega
    ord:=fun c c' cd rk hc qS vn gE nv=>by
     obtain⟨ed,h1,h2,h3⟩:=hold c cd hc gE;obtain⟨I3,po,qT,ym⟩:=hold c' rk qS nv;have:=hl.ord c c' ed I3 hc qS vn h1 po;omega}
end
open Go Go.bp Go.RowKit
theorem Hf{l:List Nat}{a:Nat}(h:a∈l):a<=l.sum:=by
 induction l with
 |nil=>simp at h
 |cons b l ih=>
  rw [List.sum_cons];rcases List.mem_cons.1 h with rfl|h
  ·omega
  ·have:=ih h;omega
theorem vg{l:List Nat}{j x:Nat}(h:l[j]? =some x):(ints l)[j]? =some (.int .i64 (x:Int)):=by simp [ints,h]
theorem BR(l:List Nat):(ints l).length=l.length:=by simp [ints]
theorem BQ(l:List Nat): ∀u∈ints l,u.oneCell'=true:=by
 intro u hu;simp only [ints,List.mem_map]at hu;obtain⟨x,_,rfl⟩:=hu;rfl
structure Dl(w0:World)(S:Nat->Prop)(g b c B0 B1 len:Nat)(P:List Int)(d:Int)(As:Option Addr)(w:World)(T':List Nd)(L:List (Nd×Value))(Aq:Option Addr)(nq cq:Nat)(q:List Nat):Prop where
 tv:TV w S g T' d b c L
 rs:Row w B0 fC 1 As len len (us (sz P) len)
 sb: ∀k,aX As=some k->k<B1
 rq:Row w B1 gC 1 Aq nq cq (ints q)
 kp:Kept S w0 w
 hS: ∀k,S k->k<B0
 hB:B0<=B1
 Cz:B1<=w.heap.size
 h0:w0.heap.size<=B0
section
variable{w0 w w':World}{S:Nat->Prop}{g b c B0 B1 len:Nat}{P:List Int}{d:Int}{As:Option Addr}{T' yv:List Nd}{L L':List (Nd×Value)}{Aq:Option Addr}{nq cq:Nat}{q:List Nat}
theorem Dl.DH(h:Dl w0 S g b c B0 B1 len P d As w T' L Aq nq cq q):nq=q.length:=by
 have:=Row.len h.rq;rw [BR]at this;omega
theorem Dl.quiet(h:Dl w0 S g b c B0 B1 len P d As w T' L Aq nq cq q)(hk:Kept Nil w w'):Dl w0 S g b c B0 B1 len P d As w' T' L Aq nq cq q:= {
 tv:=h.tv.kept hk
 rs:=Row.aG h.rs hk (fun _ _ h=>h)
 sb:=h.sb
 rq:=Row.aG h.rq hk (fun _ _ h=>h)
 kp:=h.kp.trans hk (fun _ _ h=>h.elim)
 hS:=h.hS
 hB:=h.hB
 Cz:=Nat.le_trans h.Cz hk.size
 h0:=h.h0}
theorem Dl.wrote(h:Dl w0 S g b c B0 B1 len P d As w T' L Aq nq cq q)(hk:Kept (fun k=>k=b) w w')(ht:TV w' S g yv d b c L'):Dl w0 S g b c B0 B1 len P d As w' yv L' Aq nq cq q:= {
 tv:=ht
 rs:=Row.aG h.rs hk (fun k e e2=>by have:=(Row.bC h.rs e).1;have:=h.hS b h.tv.dR;omega)
 sb:=h.sb
 rq:=Row.aG h.rq hk (fun k e e2=>by have:=(Row.bC h.rq e).1;have:=h.hS b h.tv.dR;have:=h.hB;omega)
 kp:=h.kp.trans hk (fun k _ e=>by rw [e];exact h.tv.dR)
 hS:=h.hS
 hB:=h.hB
 Cz:=Nat.le_trans h.Cz hk.size
 h0:=h.h0}
theorem Dl.xP(h:Dl w0 S g b c B0 B1 len P d As w T' L Aq nq cq q){j:Nat}(hj:j<len){k:Int->Prop}(hk:k (sz P j)):
 Is As fun a=> ∃t,w.cell? (a.add (j*1))=some (.int .u64 t)/\k t:=by
 have hr:=h.rs;obtain⟨b',rfl⟩:=Row.some hr (by omega);exact⟨_,by rw [js,Nat.mul_one];exact Row.cell hr (lu _ hj),hk⟩
theorem Dl.KM(h:Dl w0 S g b c B0 B1 len P d As w T' L Aq nq cq q){j x:Nat}(hj:q[j]? =some x){k:Int->Prop}(hk:k x):
 Is Aq fun a=> ∃t,w.cell? (a.add (j*1))=some (.int .i64 t)/\k t:=by
 have hr:=h.rq;have ck:=(List.getElem?_eq_some_iff.1 hj).1;obtain⟨b',rfl⟩:=Row.some hr (by rw [h.DH];omega);exact⟨_,by rw [js,Nat.mul_one];exact Row.cell hr (vg hj),hk⟩
theorem Dl.push(h:Dl w0 S g b c B0 B1 len P d As w T' L Aq nq cq q)(zv:q.length<=4000000)(x:Nat){w1:World}(e1:w1=w.alloc (.cells #[.int .i64 (x:Int)] gC)):
 ∃Ds Dn w2,(Builtin.append_ #[fX,fX] fX #[.slice Aq nq cq,.slice (some ⟨w.heap.size,0,none⟩) 1 1]).run prog w1=.ok (.slice Ds (nq+1) Dn) w2/\
  Dl w0 S g b c B0 B1 len P d As w2 T' L Ds (nq+1) Dn (q++ [x])/\(∀S0:Nat->Prop,(∀k,aX Aq=some k->S0 k)->Kept S0 w w2):=by
 subst e1;generalize Dd:w.alloc (.cells #[.int .i64 (x:Int)] gC)=w1;have lQ:w1.heap[w.heap.size]? =some (.cells #[.int .i64 (x:Int)] gC (0,0)):=by rw [<-Dd];exact aN w _
 have k1:Kept Nil w w1:=by rw [<-Dd];exact(Kept.refl Nil w).alloc _
 have h1:=h.quiet k1;have JK:=h.DH;obtain⟨A',c',w2,hr,eV,hg,zG⟩:=fT (P:=prog) (t:=fX) (ty:=fX) Fb h1.rq (a:=⟨w.heap.size,0,none⟩) (m:=1) (cx:=1)
  (news:=ints [x]) rfl (fun j u hj=>by rw [js,az lQ];simpa [ints]using hj) (BQ _) (by omega) (by unfold maxLen;omega) h1.Cz
 have kA:Kept (fun k=>aX Aq=some k) w1 w2:=(Kept.refl _ w1).grown hg (fun k hk _=>hk);have iy: ∀k,aX Aq=some k->B1<=k:=fun k e=>(Row.bC h.rq e).1;refine⟨A',c',w2,hr,?_,fun S0 h0=>(k1.mono (S':=S0) (fun _ _ h=>h.elim)).trans kA (fun k _ e=>h0 k e)⟩;exact {
  tv:=h1.tv.aG kA (fun k hk e=>by have:=h.hS k hk;have:=iy k e;have:=h.hB;omega)
  rs:=Row.aG h1.rs kA (fun k e e2=>by have:=h.sb k e;have:=iy k e2;omega)
  sb:=h.sb
  rq:=by simpa [ints]using eV
  kp:=(h.kp.trans k1 (fun _ _ h=>h.elim)).trans kA (fun k hk e=>absurd (iy k e) (by have:=h.hB;have:=h.h0;omega))
  hS:=h.hS
  hB:=h.hB
  Cz:=Nat.le_trans h1.Cz kA.size
  h0:=h.h0}
theorem xi{T0 T1:List Nd}{x:Nat}{xd:Nd}{half:Nat}{spare i:Int}{OI:Option Addr}{OM:Nat}{Qo:aJ}
 (D:Dl w0 S g b c B0 B1 T0.length (bj T0) d As w T1 L Aq nq cq q) (hS:Shape T0) (O5:iP T0 T1) (hlen:T0.length<=1000000) (JK:q.length<=1000000)
 (hx:T1[x]? =some xd) (vl:xd.free=xd.lo) (Pd:0<=xd.lo) (Ws:xd.hi<=4611686018427387904) (yj:(half:Int)*2<=xd.hi-xd.lo-((sz (bj T0) x:Int)-1))
 (Ag:IntKind.u64.wrap (spare.tdiv 2)=(half:Int)) (SM:Row w 0 gC 1 OI xd.ch.length OM (ints xd.ch)) (Nl: ∀k,aX OI=some k->S k/\k≠b)
 (hex: ∀w' yv f L' Ds Dn,Dl w0 S g b c B0 B1 T0.length (bj T0) d As w' yv L' Ds (nq+xd.ch.length) Dn (q++xd.ch)->mc (bj T0) T1 x xd half xd.ch.length yv f->
   Qo .normal [(0,.pointer (some ⟨g,0,none⟩)),(4,.slice As T0.length T0.length),(5,.slice Ds (nq+xd.ch.length) Dn),(6,.int .i64 (IntKind.i64.wrap (i+1)))] w'):
 Holds none [] prog 164 (.loop (lB (bB (sR (sR (sR (sR (bB (sL (sR (lB (bB (sR (sR (sR (sR (sR (body aq.fn)))))))))))))))))) (aq.q3 Qo) (aq.e3 (some ⟨g,0,none⟩) As T0.length T0.length i x spare OI xd.ch.length OM xd.ch.length (Aq,nq,cq,0)) w:=by
 have hP:=hS.par;have pX:=cZ T0;have lR:xd.ch=kids (bj T0) x:=by
  have:=(O5.shape hS).ch x xd hx
  rwa [O5.bj]at this
 have r4:x<T0.length:=by rw [<-O5.len];exact(List.getElem?_eq_some_iff.1 hx).1
 have Eh:xd.ch.Pairwise (· < ·):=by rw [lR];exact pg _ _
 have vk: ∀y,y∈xd.ch->x<y:=fun y hy=>(fI hP (lR▸hy)).1;have Nk:xd.ch.length<=1000000:=by rw [lR];exact Nat.le_trans (u6 _ _) (by omega)
 have BU:(xd.ch.map (sz (bj T0))).sum+1=sz (bj T0) x:=by rw [lR];exact xJ hP (by omega)
 have ja:=qd hP (n:=x) (by omega);have Ra:=sx (P:=bj T0) x;have Zv:=D.DH;refine aq.uU (I:=fun s w'=> ∃(k:Nat) (T':List Nd) (f:Int) (L':List (Nd×Value)) (Ds:Option Addr) (Dn:Nat),s=(Ds,nq+k,Dn,(k:Int))/\k<=xd.ch.length/\
  Dl w0 S g b c B0 B1 T0.length (bj T0) d As w' T' L' Ds (nq+k) Dn (q++xd.ch.take k)/\mc (bj T0) T1 x xd half k T' f/\Row w' 0 gC 1 OI xd.ch.length OM (ints xd.ch))
  (μ:=fun s _=>((xd.ch.length:Int)-s.2.2.2).toNat) (s:=(Aq,nq,cq,0)) ⟨0,T1,xd.lo,L,Aq,cq,rfl,Nat.zero_le _,by simpa using D,mc.start hx vl,SM⟩ ?_
 rintro s w' ⟨k,T',f,L',Ds,Dn,rfl,hk,D',fY,hr⟩;refine Split.dec (fun ck=>?_) (fun iy=>?_)
 ·simp only at ck
  have Al:k<xd.ch.length:=by omega
  obtain⟨ci,Pl⟩: ∃ci,xd.ch[k]? =some ci:=⟨_,List.getElem?_eq_getElem Al⟩;have kK:ci∈xd.ch:=List.mem_of_getElem? Pl;have WC:ci∈kids (bj T0) x:=lR▸kK;have tH:ci<T0.length:=by have:=(fI hP WC).2;omega
  have YF:=vk ci kK;have Ah:=qd hP (n:=ci) (by omega);have Y3:=sx (P:=bj T0) ci;have LM:=O5.trans fY.ke;obtain⟨cd,gE⟩:=dL (T:=T') (i:=ci) (by rw [LM.len];exact tH);have Nj:cd.parent=x:=by
   have h1:=iJ gE;rw [LM.bj,c8.1 WC]at h1;exact(Option.some.inj h1).symm
  have Re:sz (bj T0) ci<=sz (bj T0) x:=by
   have:=Hf (l:=xd.ch.map (sz (bj T0))) (a:=sz (bj T0) ci) (List.mem_map.2 ⟨ci,kK,rfl⟩);omega
  have Nt:0<=(ci:Int)/\(ci:Int)<(T0.length:Int):=⟨by omega,by omega⟩;have ij:0<=(x:Int)/\(x:Int)<(T0.length:Int):=⟨by omega,by omega⟩;have Sk:half<4611686018427387904:=by omega
  obtain⟨bch,Ta⟩:=Row.some hr (by omega);subst Ta;refine⟨⟨by simp only;omega,by simp only;omega⟩,_,by simp only [js,Int.toNat_natCast,Nat.mul_one];exact Row.cell hr (vg Pl),by decide,Nt,D'.xP tH ?_⟩;rw [Ag];refine sd half (sz (bj T0) ci) (by omega) (by omega) ⟨_,_,rfl,ij,D'.xP r4 ?_⟩;have Ms:(half*sz (bj T0) ci/18446744073709551616)*18446744073709551616+half*sz (bj T0) ci%18446744073709551616=half*sz (bj T0) ci:=Nat.div_add_mod' _ _;have Sj:half*sz (bj T0) ci/18446744073709551616<sz (bj T0) x:=by
   have:half*sz (bj T0) ci<18446744073709551616*sz (bj T0) ci:=Nat.mul_lt_mul_of_pos_right (by omega) Ah;have:half*sz (bj T0) ci/18446744073709551616<sz (bj T0) ci:=Nat.div_lt_of_lt_mul this;omega
  refine sf _ _ (sz (bj T0) x) (Nat.mod_lt _ (by omega)) (by omega) Sj fun r w90 Vk=>?_;rw [Ms];generalize hm:half*sz (bj T0) ci/sz (bj T0) x=more;have Wa:more*sz (bj T0) x<=half*sz (bj T0) ci:=by rw [<-hm];exact Nat.div_mul_le_self _ _
  have ZG:more<=half:=by
   rw [<-hm];apply Nat.div_le_of_le_mul;rw [Nat.mul_comm];exact Nat.mul_le_mul_right _ Re
  have UA:=D'.quiet Vk;have Ro:=Row.aG hr Vk (fun _ _ h=>h);refine⟨_,_,rfl,Nt,UA.xP tH ?_⟩;rw [dB (x:=(sz (bj T0) ci:Int)+(more:Int)) (by omega) (by omega)];have JX:=fY.bound (by omega) ja (by
   have h1:(((xd.ch.take k).map (sz (bj T0))).sum)<=(xd.ch.map (sz (bj T0))).sum:=by
    conv=>rhs;rw [<-List.take_append_drop k xd.ch,List.map_append,List.sum_append]
    omega
   omega)
  have oB:=fY.lo;have h1:(((xd.ch.take k).map (sz (bj T0))).sum)<=(xd.ch.map (sz (bj T0))).sum:=by
   conv=>rhs;rw [<-List.take_append_drop k xd.ch,List.map_append,List.sum_append]
   omega
  refine qa UA.tv gE fY.here Nj (by omega) (by simp only;omega) (by omega) (by simp only;omega) fun w96 L96 h96 Vj=>⟨rfl,?_⟩;have Xr:=UA.wrote Vj h96;have Rm:=Row.aG Ro Vj (fun k e e2=>(Nl k e).2 e2);intro Xy;have Q9:(xd.ch.take k).length<=1000000:=by rw [List.length_take];omega
  obtain⟨Kn,Kb,Jl,Ri,D99,OS⟩:=Xr.push (by rw [List.length_append];omega) ci (w1:=Xy) rfl;have Rl:=Row.aG Rm (OS (fun k=>B1<=k) (fun k e=>(Row.bC Xr.rq e).1)) (fun k e e2=>by have:=D.hS k (Nl k e).1;have:=D.hB;omega);refine⟨Kn,_,Kb,Jl,Ri,?_⟩;rw [gu (x:=(k:Int)+1) (by omega) (by omega)];refine⟨(Kn,nq+(k+1),Kb,((k+1:Nat):Int)),rfl,⟨k+1,_,_,L96,Kn,Kb,rfl,Al,?_,fY.step (more:=(more:Int)) Eh vk Pl gE (by omega) ?_ Ah,Rl⟩,by simp only;omega⟩
  ·rw [j0 Pl,<-List.append_assoc]
   exact D99
  ·have:((more*sz (bj T0) x:Nat):Int)<=((half*sz (bj T0) ci:Nat):Int):=by omega
   rwa [Int.natCast_mul,Int.natCast_mul]at this
 ·simp only at iy
  have:k=xd.ch.length:=by omega
  subst this;rw [aP,aq.Aw];rw [List.take_length]at D';exact hex w' T' f L' Ds Dn D' fY
end
end Go.Proofs.YtnboahlopghcjaaGreatDoor.Tr
namespace Go.Proofs.YtnboahlopghcjaaGreatDoor.Tr
open Go.Proofs.Tryz
open Go Go.bp Go.RowKit
theorem Bd: ∀(n:Nat) (q:List Nat),q.Nodup->(∀y,y∈q->y<n)->q.length<=n:=by
 intro n
 induction n with
 |zero=>
  intro q _ h;cases q with
  |nil=>simp
  |cons a q=>exact absurd (h a (by simp)) (by omega)
 |succ n ih=>
  intro q hn h;by_cases hm:n∈q
  ·have h1:=List.length_erase_of_mem hm
   have h2:=ih (q.erase n) (hn.erase n) (fun y hy=>by
    have:=(List.Nodup.mem_erase_iff hn).1 hy;have:=h y this.2;omega)
   omega
  ·have:=ih q hn (fun y hy=>by
    have:=h y hy;have:y≠n:=fun e=>hm (e▸hy);omega)
   omega
section
variable{w0 w:World}{S:Nat->Prop}{g b c B0:Nat}{d:Int}{As:Option Addr}{L:List (Nd×Value)}{T:List Nd}{K:Value->World->Prop}
theorem xh{T0:List Nd}{m:Nat}{md:Nd}
 (YW:TV w S g T0 d b c L) (VW:Row w B0 fC 1 As T0.length T0.length (us (sz (bj T0)) T0.length)) (MK:Kept S w0 w) (hSB: ∀k,S k->k<B0) (LG:w0.heap.size<=B0) (hBw:B0<=w.heap.size)
 (hS:Shape T0) (hlen:T0.length<=1000000) (yc:T0[m]? =some md) (h1:1<=md.lo) (h2:md.hi<=4611686018427387904) (h3:(sz (bj T0) m:Int)<=md.hi-md.lo+1)
 (hK: ∀w' T' q i,lj w' S g T' d->jX (bj T0) T0 m T' q i->q.length<=i->Kept S w0 w'->K (.tuple #[]) w'):
 aq.cW (some ⟨g,0,none⟩) m As T0.length T0.length K w:=by
 have hP:=hS.par;have pX:=cZ T0;have F5:m<T0.length:=(List.getElem?_eq_some_iff.1 yc).1;unfold aq.cW;intro gI;have lO:Kept Nil w gI:=(Kept.refl Nil w).alloc _;have lQ:gI.heap[w.heap.size]? =some (.cells #[.int .i64 (m:Int)] gC (0,0)):=aN w _;have D35:Dl w0 S g b c B0 w.heap.size T0.length (bj T0) d As gI T0 L (some ⟨w.heap.size,0,none⟩) 1 1 [m]:= {
  tv:=YW.kept lO
  rs:=Row.aG VW lO (fun _ _ h=>h)
  sb:=fun k e=>by obtain⟨_,_,hc⟩:=Row.bC VW e;exact aQ hc
  rq:=Row.made (n:=1) (cur:= #[.int .i64 (m:Int)]) lQ (Nat.le_refl _) rfl (by decide)
  kp:=MK.trans lO (fun _ _ h=>h.elim)
  hS:=hSB
  hB:=hBw
  Cz:=lO.size
  h0:=LG}
 clear_value gI;generalize Cz:w.heap.size=B1 at*;refine aq.gz (I:=fun s w'=> ∃(i:Nat) (T':List Nd) (L':List (Nd×Value)) (Aq:Option Addr) (nq cq:Nat) (q:List Nat),s=(Aq,nq,cq,(i:Int))/\i<=q.length/\
  Dl w0 S g b c B0 B1 T0.length (bj T0) d As w' T' L' Aq nq cq q/\jX (bj T0) T0 m T' q i)
  (μ:=fun s _=>((T0.length:Int)-s.2.2.2).toNat) (s:=(some ⟨B1,0,none⟩,1,1,0)) ⟨0,T0,L,_,1,1,[m],rfl,Nat.zero_le _,D35,jX.start (by omega) yc h1 h2 h3⟩ ?_
 rintro s w' ⟨i,T',L',Aq,nq,cq,q,rfl,hi,D,hO⟩;have Zv:=D.DH;have JK:q.length<=T0.length:=Bd _ _ hO.nodup (fun y hy=>by have:=(hO.lf y hy).lt;omega);refine Split.dec (fun ck=>?_) (fun iy=>?_)
 ·simp only at ck
  have eI:i<q.length:=by omega
  obtain⟨x,Rv⟩: ∃x,q[i]? =some x:=⟨_,List.getElem?_eq_getElem eI⟩;have FD:x∈q:=List.mem_of_getElem? Rv;have r4:x<T0.length:=by have:=(hO.lf x FD).lt;omega
  obtain⟨xd,Dc⟩:=dL (T:=T') (i:=x) (by rw [hO.ke.len];exact r4);have pk:=hO.room x xd FD Dc;have ja:=qd hP (n:=x) (by omega);have Ra:=sx (P:=bj T0) x;have hlT:T'.length=T0.length:=hO.ke.len;have ij:0<=(x:Int)/\(x:Int)<(T'.length:Int):=⟨by omega,by omega⟩;refine⟨⟨by simp only;omega,by simp only;omega⟩,D.KM Rv ?_⟩;intro vP;have Km:=D.quiet (w':=vP) (Kept.refl Nil w').drew;clear_value vP;obtain⟨v,hv⟩:=Km.tv.at_ Dc;obtain⟨wr,WY⟩:=Km.tv.qh hv (j:=4) (by omega) (u:=.int .u64 xd.lo) (nd':= {xd with free:=xd.lo}) rfl rfl;refine Km.tv.go (Km.tv.go ⟨ij,Km.tv.qX hv ⟨ij,by rw [k0];exact wr,?_⟩⟩);intro C7 Az;have W6:C7=vP.setCell ⟨b,x*5+4,none⟩ (.int .u64 xd.lo):=by simp only [C7,k0,Int.toNat_natCast]
  rw [<-W6]at WY;have Jz:Kept (fun k=>k=b) vP C7:=by rw [W6];exact(Kept.refl (fun k=>k=b) vP).setCell (p:=⟨b,x*5+4,none⟩) (fun _=>rfl) _
  have Dr:=(Km.wrote Jz WY).quiet (w':=Az) (Kept.refl Nil C7).drew;clear_value Az;have v1:(L'.set x ({xd with free:=xd.lo},v))[x]? =some ({xd with free:=xd.lo},v):=fy hv;obtain⟨OI,OM,hk⟩:=Dr.tv.nr _ _ v1;have ud:(T'.set x {xd with free:=xd.lo}).length=T'.length:=by simp
  have IE:0<=(x:Int)/\(x:Int)<((T'.set x {xd with free:=xd.lo}).length:Int):=by rw [ud];exact ij
  have Pn:0<=(x:Int)/\(x:Int)<(T0.length:Int):=⟨by omega,by omega⟩;refine Dr.tv.go ⟨IE,Dr.tv.vv v1 (Dr.tv.go ⟨IE,Dr.tv.qX v1 ⟨Pn,Dr.xP r4 (Dr.tv.go ⟨IE,Dr.tv.Oc v1 hk.val ?_⟩)⟩⟩)⟩;have Rc:iP T0 (T'.set x {xd with free:=xd.lo}):=hO.ke.trans (iP.set (nd':= {xd with free:=xd.lo}) Dc rfl rfl);simp only;obtain⟨cur,JV⟩:=Dr.tv.rp;generalize hhf:((xd.hi-xd.lo-((sz (bj T0) x:Int)-1)).toNat /2)=half;refine xi (half:=half) (xd:= {xd with free:=xd.lo}) Dr hS Rc hlen (by omega) (fy Dc) rfl (by simp only;omega) (by simp only;omega) (by simp only;omega) ?_ hk.row (fun k e=>⟨hk.hU k e,fun e2=>hk.ne JV (by decide) (by rw [e,e2])⟩) ?_
  ·rw [dB (x:=xd.hi-xd.lo) (by omega) (by omega),dB (x:=(sz (bj T0) x:Int)-1) (by omega) (by omega),dB (x:=xd.hi-xd.lo-((sz (bj T0) x:Int)-1)) (by omega) (by omega),
    Int.tdiv_eq_ediv_of_nonneg (by omega),dB (by omega) (by omega)]
   omega
  ·intro w2 T2 f L2 Kn Kb D2 fY
   rw [gu (x:=(i:Int)+1) (by omega) (by omega)];refine⟨(Kn,nq+xd.ch.length,Kb,((i+1:Nat):Int)),rfl,⟨i+1,T2,L2,Kn,_,Kb,q++xd.ch,rfl,by rw [List.length_append];omega,D2,hO.step hS Rv Dc (by omega) (by omega) fY⟩,by simp only;omega⟩
 ·simp only at iy
  rw [aP,aq.jI];exact hK w' T' q i ⟨_,_,_,D.tv⟩ hO (by omega) D.kp
theorem TV.P6(h:TV w S g T d b c L)(d':Int):Wr w ⟨g,1,none⟩/\TV (w.setCell ⟨g,1,none⟩ (.int .i64 d')) S g T d' b c L:=by
 have kG:Kept (fun k=>k=g) w (w.setCell ⟨g,1,none⟩ (.int .i64 d')):=(Kept.refl (fun k=>k=g) w).setCell (p:=⟨g,1,none⟩) (fun _=>rfl) _;refine⟨dE h.top (show 1<2 by omega),?_⟩;exact {
  top:=by
   have:=cQ h.top 1 (.int .i64 d');simpa using this
  fst:=h.fst
  row:=Row.aG h.row kG (fun k e e2=>h.gb (by cases e;exact e2.symm))
  nr:=fun i p hp=>by
   obtain⟨A,m,hk⟩:=h.nr i p hp;exact⟨A,m,hk.val,Row.aG hk.row kG (fun k e e2=>hk.ne h.top (by decide) (by rw [e,e2])),hk.hU⟩
  apart:=h.apart
  e9:=h.e9
  dR:=h.dR}
set_option maxRecDepth 100000 in
theorem yL(h:lj w S g T d)(hS:Shape T)(hlen:T.length<=1000000){p:Nat}(hp:p<T.length)(hd:0<=d/\d<=1000000)
 (LR: ∀nd,T[0]? =some nd->nd.lo=1/\nd.hi=4611686018427387904)
 (Pf: ∀y nd,T[y]? =some nd->gU (bj T) p y->Iv nd)
 (hK: ∀w' T' m q i,lj w' S g T' (d+1)->gU (bj T) p m->jX (bj T) T m T' q i->q.length<=i->Kept S w w'->K (.tuple #[]) w'):
 aY prog aq.id #[.pointer (some ⟨g,0,none⟩),.int .i64 p] w K:=by
 have hP:=hS.par;have pX:=cZ T;obtain⟨b,c,L,h⟩:=h;have hb:=h.bound;obtain⟨wr,h6⟩:=hb.P6 (d+1);refine aq.of (h.goD ⟨by rw [js];exact wr,?_⟩);intro w6;have e6:w6=w.setCell ⟨g,1,none⟩ (.int .i64 (d+1)):=by simp only [w6,js,gu (x:=d+1) (by omega) (by omega)]
 rw [<-e6]at h6;have k6:Kept (fun k=>S k/\k<w.heap.size) w w6:=by rw [e6];exact(Kept.refl _ w).setCell (p:=⟨g,1,none⟩) (fun _=>hb.e9) _
 have JI:w.heap.size=w6.heap.size:=by rw [e6];simp
 clear_value w6;refine wc ⟨_,_,_,h6⟩ hP hlen fun w8 As Qd k8=>⟨_,_,_,rfl,?_⟩;have h8:=h6.kept k8;refine aq.bU (I:=fun s w'=> ∃m:Nat,s=(m:Int)/\gU (bj T) p m/\Kept Nil w8 w') (μ:=fun s _=>s.toNat) (s:=(p:Int)) ⟨p,rfl,.refl (by omega),Kept.refl _ _⟩ ?_;rintro s w' ⟨m,rfl,hu,kw⟩;have F5:m<T.length:=by have:=hu.ON;omega
 obtain⟨md,yc⟩:=dL F5;have hm:=Pf m md yc hu;have F6:=hm.Qn;have Wf:=hm.le;have R3:=hm.top;unfold aq.B1;intro jJ;have wF:Kept Nil w8 jJ:=kw.drew;have yn:=h8.kept wF;have xO:=Row.aG Qd wF (fun _ _ h=>h);have mG:=iJ yc;have YY:=sx (P:=bj T) m;have tJ:0<=(m:Int)/\(m:Int)<(T.length:Int):=⟨by omega,by omega⟩;obtain⟨v,hv⟩:=yn.at_ yc;have done:(sz (bj T) m:Int)<=md.hi-md.lo+1->aq.q1 K (.exit 0) [(0,.pointer (some ⟨g,0,none⟩)),(1,.int .i64 m),(4,.slice As T.length T.length)] jJ:=by
  intro pk;rw [aq.dD];have Vm:Kept (fun k=>S k/\k<w.heap.size) w jJ:=(k6.trans k8 (fun _ _ h=>h.elim)).trans wF (fun _ _ h=>h.elim);refine xh yn (B0:=w.heap.size) (Row.base xO (fun k e=>by rw [JI];exact(Row.bC xO e).1)) Vm (fun k h=>h.2) (Nat.le_refl _) Vm.size hS hlen yc F6 R3 pk ?_;intro w2 T2 q i h2 hO hq k2;exact hK w2 T2 m q i (h2.mono (fun k h=>h.1)) hu hO hq (k2.mono (fun k _ h=>h.1))
 refine yn.go ⟨tJ,yn.CF hv (Split.dec (fun ja=>?_) (fun Zy=>?_))⟩
 ·obtain⟨bs,Pn⟩:=Row.some xO (by omega)
  subst Pn;refine yn.go ⟨tJ,yn.vv hv (yn.go ⟨tJ,yn.qX hv ⟨by decide,tJ,_,by rw [js,Int.toNat_natCast,Nat.mul_one];exact Row.cell xO (lu _ F5),?_⟩⟩)⟩;rw [dB (x:=md.hi-md.lo) (by omega) (by omega),dB (x:=md.hi-md.lo+1) (by omega) (by omega),Int.tdiv_eq_ediv_of_nonneg (by omega),dB (x:=(md.hi-md.lo+1)/4) (by omega) (by omega)];refine Split.dec (fun ck=>?_) (fun iy=>?_)
  ·have JR:0<m:=by
    rcases Nat.eq_zero_or_pos m with rfl|h
    ·rw [hP.root]at mG;have:=Option.some.inj mG;omega
    ·exact h
   obtain⟨z,hz,ez⟩:=hP.up m _ JR mG;refine yn.go ⟨tJ,yn.CF hv ?_⟩;rw [ez];exact⟨(z:Int),rfl,⟨z,rfl,hu.trans (.step (by rw [mG,ez]) (.refl (by omega))),wF⟩,by simp only;omega⟩
  ·rw [aP]
   exact done (by omega)
 ·have JR:m=0:=by
   rcases Nat.eq_zero_or_pos m with h|h
   ·exact h
   ·obtain⟨z,_,ez⟩:=hP.up m _ h mG
    omega
  subst JR;have:=LR md yc;rw [aP];exact done (by omega)
end
end Go.Proofs.YtnboahlopghcjaaGreatDoor.Tr
namespace Go.Proofs.YtnboahlopghcjaaGreatDoor.Tr
open Go.Proofs.Tryz
open Go Go.bp Go.RowKit
structure sn(T:List Nd):Prop extends Good T where
 root: ∀nd,T[0]? =some nd->nd.lo=1/\nd.hi=4611686018427387904
theorem wv:sn mM:=by
 have ek: ∀(i:Nat) nd,mM[i]? =some nd->i=0/\nd=⟨-1,[],1,4611686018427387904,1⟩:=by
  intro i nd h;cases i with
  |zero=>simp [mM]at h;exact⟨rfl,h.symm⟩
  |succ i=>simp [mM]at h
 exact {
  par:=⟨rfl,fun i p hi h=>by
   cases i with
   |zero=>omega
   |succ i=>simp [bj,mM]at h⟩
  ch:=fun i nd h=>by
   obtain⟨rfl,rfl⟩:=ek i nd h;simp [kids,bj,mM]
  iv:=fun i nd h=>by
   obtain⟨rfl,rfl⟩:=ek i nd h;exact⟨by decide,by decide,by decide⟩
  loc:=fun i nd h=>by
   obtain⟨rfl,rfl⟩:=ek i nd h;exact⟨by decide,by decide,fun c cd hc=>by simp at hc,fun c c' cd rk hc=>by simp at hc⟩
  root:=fun nd h=>by
   obtain⟨_,rfl⟩:=ek 0 nd h;exact⟨rfl,rfl⟩}
section
variable{T:List Nd}{p:Nat}{pd:Nd}
theorem zY(hp:T[p]? =some pd)(i:Nat):(added T p pd)[i]? =if i=p then some {pd with ch:=pd.ch++ [T.length],free:=pd.free+fQ pd}else if i=T.length then some ⟨p,[],pd.free,pd.free+fQ pd-1,pd.free⟩else T[i]? :=by
 have ck:p<T.length:=(List.getElem?_eq_some_iff.1 hp).1;unfold added;rw [sX (by rw [gk hp,if_neg (by omega),if_pos rfl]) (by rw [gk hp,if_pos rfl]) (by omega),gk hp];split
 ·rfl
 ·split
  ·rfl
  ·rfl
theorem rv(hp:T[p]? =some pd):iP (grown T p pd) (added T p pd):=by
 have ck:p<T.length:=(List.getElem?_eq_some_iff.1 hp).1;exact qV _ (by rw [gk hp,if_neg (by omega),if_pos rfl]) (by rw [gk hp,if_pos rfl]) (by omega)
theorem Shape.I4(h:Shape T){i:Nat}{nd:Nd}(hi:T[i]? =some nd){c:Nat}(hc:c∈nd.ch):i<c/\c<T.length:=by
 rw [h.ch i nd hi]at hc;have:=fI h.par hc
 rwa [cZ]at this
theorem sn.added(h:sn T)(hp:T[p]? =some pd)(pk:pd.free<pd.hi):sn (added T p pd):=by
 have ck:p<T.length:=(List.getElem?_eq_some_iff.1 hp).1;have ek:=zY hp;have HD:=h.iv p pd hp;have i1:=HD.Qn;have i2:=HD.le;have i3:=HD.top;have lp:=h.loc p pd hp;have l1:=lp.Ar;have l2:=lp.xg;have hh1:1<=fQ pd:=by unfold fQ;omega
 have Z4:pd.free+fQ pd<=pd.hi:=by unfold fQ;omega
 have hold: ∀(c:Nat) cd,c<T.length->(Go.Proofs.YtnboahlopghcjaaGreatDoor.Tr.added T p pd)[c]? =some cd-> ∃ed,T[c]? =some ed/\ed.lo=cd.lo/\ed.hi=cd.hi:=by
  intro c cd hc gE;rw [ek]at gE;by_cases e:c=p
  ·subst e
   rw [if_pos rfl]at gE;cases gE;exact⟨pd,hp,rfl,rfl⟩
  ·rw [if_neg e,if_neg (by omega)]at gE
   exact⟨cd,gE,rfl,rfl⟩
 have lQ: ∀cd,(Go.Proofs.YtnboahlopghcjaaGreatDoor.Tr.added T p pd)[T.length]? =some cd->cd=⟨p,[],pd.free,pd.free+fQ pd-1,pd.free⟩:=by
  intro cd gE;rw [ek,if_neg (by omega),if_pos rfl]at gE;exact(Option.some.inj gE).symm
 have aG: ∀(i:Nat) nd,T[i]? =some nd->Loc (Go.Proofs.YtnboahlopghcjaaGreatDoor.Tr.added T p pd) nd:=by
  intro i nd hi;have hl:=h.loc i nd hi;have hc:=fun c hc=>(h.toShape.I4 hi (c:=c) hc).2;exact {
   Ar:=hl.Ar
   xg:=hl.xg
   sub:=fun c cd kK gE=>by
    obtain⟨ed,h1,h2,h3⟩:=hold c cd (hc c kK) gE;have:=hl.sub c ed kK h1;omega
   ord:=fun c c' cd rk kK kR vn gE nv=>by
    obtain⟨ed,h1,h2,h3⟩:=hold c cd (hc c kK) gE;obtain⟨I3,po,qT,ym⟩:=hold c' rk (hc c' kR) nv;have:=hl.ord c c' ed I3 kK kR vn h1 po;omega}
 have hs:=(rv hp).shape (h.toShape.grown hp);refine {toShape:=hs,iv:=?_,loc:=?_,root:=?_}
 ·intro i nd hi
  rw [ek]at hi;by_cases e:i=p
  ·rw [if_pos e]at hi
   cases hi;exact⟨i1,i2,i3⟩
  ·rw [if_neg e]at hi
   by_cases e2:i=T.length
   ·rw [if_pos e2]at hi
    cases hi;exact⟨by simp only;omega,by simp only;omega,by simp only;omega⟩
   ·rw [if_neg e2]at hi
    exact h.iv i nd hi
 ·intro i nd hi
  rw [ek]at hi;by_cases e:i=p
  ·rw [if_pos e]at hi
   cases hi;have kp:=aG p pd hp;have hc:=fun c hc=>(h.toShape.I4 hp (c:=c) hc).2;exact {
    Ar:=by simp only;omega
    xg:=Z4
    sub:=fun c cd kK gE=>by
     simp only at kK;rcases List.mem_append.1 kK with kK|kK
     ·have:=kp.sub c cd kK gE
      simp only;omega
     ·simp at kK
      subst kK;have:=lQ cd gE;subst this;simp only;omega
    ord:=fun c c' cd rk kK kR vn gE nv=>by
     simp only at kK kR;rcases List.mem_append.1 kK with kK|kK
     ·rcases List.mem_append.1 kR with kR|kR
      ·exact kp.ord c c' cd rk kK kR vn gE nv
      ·simp at kR
       subst kR;have:=lQ rk nv;subst this;exact(kp.sub c cd kK gE).2
     ·simp at kK
      rcases List.mem_append.1 kR with kR|kR
      ·have:=hc c' kR
       omega
      ·simp at kR
       omega}
  ·rw [if_neg e]at hi
   by_cases e2:i=T.length
   ·rw [if_pos e2]at hi
    cases hi;exact⟨by simp only;omega,by simp only;omega,fun c cd hc=>by simp at hc,fun c c' cd rk hc=>by simp at hc⟩
   ·rw [if_neg e2]at hi
    exact aG i nd hi
 ·intro nd hi
  obtain⟨ed,h1,h2,h3⟩:=hold 0 nd h.toShape.pos hi;have:=h.root ed h1;omega
theorem sn.CL(h:sn T)(hp:T[p]? =some pd){m i:Nat}{T':List Nd}{q:List Nat}(hu:gU (bj (grown T p pd)) p m)
 (hO:jX (bj (grown T p pd)) (grown T p pd) m T' q i) (hq:q.length<=i):sn T':=by
 have ck:p<T.length:=(List.getElem?_eq_some_iff.1 hp).1;have ek:=gk hp;have hS:=h.toShape.grown hp;have hP:=hS.par;have hold: ∀(c:Nat) cd,c<T.length->(grown T p pd)[c]? =some cd-> ∃ed,T[c]? =some ed/\ed.lo=cd.lo/\ed.hi=cd.hi:=by
  intro c cd hc gE;rw [ek]at gE;by_cases e:c=p
  ·subst e
   rw [if_pos rfl]at gE;cases gE;exact⟨pd,hp,rfl,rfl⟩
  ·rw [if_neg e,if_neg (by omega)]at gE
   exact⟨cd,gE,rfl,rfl⟩
 have JO:(bj (grown T p pd))[T.length]? =some (p:Int):=by
  rw [jo hp,List.getElem?_append_right (by rw [cZ];exact Nat.le_refl _)];simp [cZ]
 have gN:=jX.fin hS hO hq (fun y nd hy hn=>by
  rw [ek]at hy;have e:y≠p:=fun e=>hn (e▸hu);rw [if_neg e]at hy;have e2:y≠T.length:=fun e=>hn (e▸ .step JO hu);rw [if_neg e2]at hy;refine⟨h.iv y nd hy,?_⟩;have hl:=h.loc y nd hy;have hc:=fun c hc=>(h.toShape.I4 hy (c:=c) hc).2;exact {
   Ar:=hl.Ar
   xg:=hl.xg
   sub:=fun c cd kK gE=>by
    obtain⟨ed,h1,h2,h3⟩:=hold c cd (hc c kK) gE;have:=hl.sub c ed kK h1;omega
   ord:=fun c c' cd rk kK kR vn gE nv=>by
    obtain⟨ed,h1,h2,h3⟩:=hold c cd (hc c kK) gE;obtain⟨I3,po,qT,ym⟩:=hold c' rk (hc c' kR) nv;have:=hl.ord c c' ed I3 kK kR vn h1 po;omega})
 refine {toGood:=gN,root:=fun nd hi=>?_};obtain⟨gd,Sp,_⟩:=hO.ke.back hi;obtain⟨ed,h1,h2,h3⟩:=hold 0 gd h.toShape.pos Sp;have hr:=h.root ed h1;by_cases hm:0∈q
 ·have:=(hO.lf 0 hm).le hP
  have JR:m=0:=by omega
  subst JR;have:=hO.top gd nd Sp hi;omega
 ·rw [hO.rest 0 hm,Sp]at hi
  cases hi;omega
end
section
variable{w:World}{S:Nat->Prop}{g:Nat}{T:List Nd}{d:Int}{K:Value->World->Prop}
theorem AJ(h:lj w S g T d)(hF:sn T){p:Nat}(hp:p<T.length)(hlen:T.length<=900000)(hd:0<=d/\d<=900000)
 (hK: ∀w' S' T' d',lj w' S' g T' d'->sn T'->bj T'=bj T++ [(p:Int)]->d<=d'/\d'<=d+1->Kept S w w'->(∀k,S' k->S k\/w.heap.size<=k)->K (.tuple #[.int .i64 T.length,.int .i64 0]) w'):
 aY prog dW.id #[.pointer (some ⟨g,0,none⟩),.int .i64 p] w K:=by
 obtain⟨pd,tD⟩:=dL hp;have HD:=hF.iv p pd tD;have i1:=HD.Qn;have i2:=HD.le;have i3:=HD.top;have lp:=hF.loc p pd tD;have l1:=lp.Ar;have l2:=lp.xg;have lR:pd.ch.length<=T.length:=by
  rw [hF.ch p pd tD];have:=u6 (bj T) p
  rwa [cZ]at this
 refine qc h tD (by omega) (by omega) (by omega) l2 i3 (fun pk w' S' h' k' f'=>?_) (fun Ww w' S' h' k' f'=>?_)
 ·exact hK w' S' _ d h' (hF.added tD pk) (by rw [(rv tD).bj,jo tD]) ⟨by omega,by omega⟩ k' f'
 ·have hS:=hF.toShape.grown tD
  have ek:=gk tD;have mG:=hS.par;refine yL h' hS (by rw [sW];omega) (by rw [sW];omega) ⟨hd.1,by omega⟩ (fun nd hi=>?_) (fun y nd hy hu=>?_) (fun w2 T2 m q i h2 hu hO hq k2=>⟨rfl,?_⟩)
  ·rw [ek]at hi
   by_cases e:0=p
   ·rw [if_pos e]at hi
    cases hi;exact hF.root pd (by rw [e];exact tD)
   ·rw [if_neg e,if_neg (by omega)]at hi
    exact hF.root nd hi
  ·have:=hu.le mG
   rw [ek]at hy;by_cases e:y=p
   ·rw [if_pos e]at hy
    cases hy;exact⟨i1,i2,i3⟩
   ·rw [if_neg e,if_neg (by omega)]at hy
    exact hF.iv y nd hy
  ·refine hK w2 S' T2 (d+1) h2 (hF.CL tD hu hO hq) (by rw [hO.ke.bj,jo tD]) ⟨by omega,by omega⟩ ?_ f'
   exact k'.trans k2 (fun k hk hs=>by
    rcases f' k hs with h|h
    ·exact h
    ·omega)
end
end Go.Proofs.YtnboahlopghcjaaGreatDoor.Tr
namespace Go.Proofs.YtnboahlopghcjaaGreatDoor.Tr
open Go.Proofs.Tryz
open Go Go.bp Go.RowKit
def zs(l:List Int):List Value:=l.map fun x=>.int .i64 x
section
variable{w w':World}{S S':Nat->Prop}{h:Nat}{P:List Int}{b c:Nat}{K:Value->World->Prop}
end
end Go.Proofs.YtnboahlopghcjaaGreatDoor.Tr
namespace Go.Proofs.YtnboahlopghcjaaGreatDoor.Tr
open Go.Proofs.Tryz
open Go Go.bp Go.RowKit
def fF(P:List Int)(n i:Nat):List Nat:=(List.range i).filter fun j=>P[j]? ==some (n:Int)
section
variable{w w':World}{S S':Nat->Prop}{h:Nat}{P:List Int}{b c:Nat}{K:Value->World->Prop}
end
section
variable{w w':World}{S S':Nat->Prop}{g:Nat}{T:List Nd}{d:Int}{K:Value->World->Prop}
end
end Go.Proofs.YtnboahlopghcjaaGreatDoor.Tr
