import Derived.Test.YtnboahlopghcjaaGreatDoorMA
import Derived.Test.YtnboahlopghcjaaGreatDoorMD
import Derived.Laws.OwnMore
import Derived.Test.YtnboahlopghcjaaGreatDoorMG
import Derived.Laws.Bits64b
set_option linter.unusedVariables false
namespace Go.Proofs.YtnboahlopghcjaaGreatDoor.Tr
open Go.Proofs.Tryz
open Go Go.bV Go.RowKit
structure Nd where
 parent:Int
 ch:List Nat
 lo:Int
 hi:Int
 free:Int
def iZ(nd:Nd)(v:Value):List Value:= [.int .i64 nd.parent,v,.int .u64 nd.lo,.int .u64 nd.hi,.int .u64 nd.free]
def nW(L:List (Nd×Value)):List Value:=L.flatMap fun p=>iZ p.1 p.2
def ints(l:List Nat):List Value:=l.map fun x:Nat=>.int .i64 (x:Int)
theorem sJ(L:List (Nd×Value)):(nW L).length=L.length*5:=by
 induction L with
 |nil=>rfl
 |cons p L ih=>simp only [nW,List.flatMap_cons,List.length_append,List.length_cons]at*;rw [ih];simp [iZ];omega
theorem HI{L:List (Nd×Value)}{i:Nat}{p:Nd×Value}(h:L[i]? =some p){j:Nat}(hj:j<5):(nW L)[i*5+j]? =(iZ p.1 p.2)[j]? :=by
 induction L generalizing i with
 |nil=>simp at h
 |cons q L ih=>
  have hq:(iZ q.1 q.2).length=5:=rfl;cases i with
  |zero=>
   simp at h;subst h;simp only [nW,List.flatMap_cons];rw [Nat.zero_mul,Nat.zero_add,List.getElem?_append_left (by omega)]
  |succ i=>
   simp at h;have:=ih h;simp only [nW,List.flatMap_cons]at*;rw [List.getElem?_append_right (by omega),hq,<-this]
   congr 1
   omega
theorem zo{L:List (Nd×Value)}{i:Nat}{p p':Nd×Value}(h:L[i]? =some p){j:Nat}(hj:j<5){v:Value}(hp:iZ p'.1 p'.2=(iZ p.1 p.2).set j v):
 (nW L).set (i*5+j) v=nW (L.set i p'):=by
 induction L generalizing i with
 |nil=>simp at h
 |cons q L ih=>
  have hq:(iZ q.1 q.2).length=5:=rfl;cases i with
  |zero=>
   simp at h;subst h;simp only [nW,List.flatMap_cons,List.set_cons_zero];rw [Nat.zero_mul,Nat.zero_add,List.set_append_left _ _ (by omega),hp]
  |succ i=>
   simp at h;have:=ih h;simp only [nW,List.flatMap_cons,List.set_cons_succ]at*;rw [List.set_append_right _ _ (by omega),hq,<-this]
   congr 2
   omega
structure VU(w:World)(S:Nat->Prop)(p:Nd×Value)(A:Option Addr)(m:Nat):Prop where
 val:p.2=.slice A p.1.ch.length m
 row:Row w 0 jl 1 A p.1.ch.length m (ints p.1.ch)
 jM: ∀k,bg A=some k->S k
structure TV(w:World)(S:Nat->Prop)(g:Nat)(T:List Nd)(d:Int)(b c:Nat)(L:List (Nd×Value)):Prop where
 top:w.heap[g]? =some (.cells #[.slice (some ⟨b,0,none⟩) T.length c,.int .i64 d] sN (0,0))
 fst:L.map Prod.fst=T
 row:Row w 0 iQ 5 (some ⟨b,0,none⟩) T.length c (nW L)
 p9: ∀(i:Nat) (p:Nd×Value),L[i]? =some p-> ∃A m,VU w S p A m
 apart: ∀(i j:Nat) (p q:Nd×Value),L[i]? =some p->L[j]? =some q->i≠j-> ∀k,Value.ownBlock p.2=some k->Value.ownBlock q.2≠some k
 gS:S g
 fQ:S b
def oq(w:World)(S:Nat->Prop)(g:Nat)(T:List Nd)(d:Int):Prop:= ∃b c L,TV w S g T d b c L
section
variable{w w':World}{S S':Nat->Prop}{g:Nat}{T:List Nd}{d:Int}{b c:Nat}{L:List (Nd×Value)}
theorem TV.at_(h:TV w S g T d b c L){i:Nat}{nd:Nd}(hi:T[i]? =some nd): ∃v,L[i]? =some (nd,v):=by
 rw [<-h.fst,List.getElem?_map]at hi;cases hL:L[i]? with
 |none=>simp [hL]at hi
 |some p=>
  rw [hL]at hi;simp at hi;exact⟨p.2,by rw [<-hi]⟩
theorem TV.nodes(h:TV w S g T d b c L):w.cell? ⟨g,0,none⟩=some (.slice (some ⟨b,0,none⟩) T.length c):=by rw [ax h.top];rfl
theorem TV.HL(h:TV w S g T d b c L):w.cell? ⟨g,1,none⟩=some (.int .i64 d):=by rw [ax h.top];rfl
theorem TV.cell(h:TV w S g T d b c L){i:Nat}{p:Nd×Value}(hi:L[i]? =some p){j:Nat}{v:Value}(hj:j<5)(hv:(iZ p.1 p.2)[j]? =some v):w.cell? ⟨b,i*5+j,none⟩=some v:=
 Row.cell h.row (by rw [HI hi hj,hv])
theorem TV.gb(h:TV w S g T d b c L):g≠b:=by
 rintro rfl;obtain⟨_,cur,hc⟩:=Row.bC h.row (k:=g) rfl;rw [h.top]at hc;injection hc with hc;injection hc with _ ht;exact absurd ht (by decide)
theorem VU.ne{p:Nd×Value}{A:Option Addr}{m:Nat}(h:VU w S p A m){k:Nat}{cs:Array Value}{t:TypeId}(hk:w.heap[k]? =some (.cells cs t (0,0)))(ht:t≠jl):bg A≠some k:=by
 intro e;obtain⟨_,cur,hc⟩:=Row.bC h.row e;rw [hk]at hc;injection hc with hc;injection hc with _ h2;exact ht h2
theorem TV.uY(h:TV w S g T d b c L): ∃cur,w.heap[b]? =some (.cells cur iQ (0,0)):=(Row.bC h.row rfl).2
theorem TV.aC{S0:Nat->Prop}(h:TV w S g T d b c L)(hk:Kept S0 w w')(hn: ∀k,S k-> ¬S0 k):TV w' S g T d b c L:= {
 top:=hk.heap h.top (hn g h.gS)
 fst:=h.fst
 row:=Row.aC h.row hk (fun k e=>by cases e;exact hn b h.fQ)
 p9:=fun i p hp=>let ⟨A,m,h1⟩:=h.p9 i p hp;⟨A,m,h1.val,Row.aC h1.row hk (fun k e=>hn k (h1.jM k e)),h1.jM⟩
 apart:=h.apart
 gS:=h.gS
 fQ:=h.fQ}
theorem oq.aC{S0:Nat->Prop}(h:oq w S g T d)(hk:Kept S0 w w')(hn: ∀k,S k-> ¬S0 k):oq w' S g T d:=
 let ⟨b,c,L,h⟩:=h;⟨b,c,L,h.aC hk hn⟩
theorem oq.same(h:oq w S g T d)(hk:Kept Nil w w'):oq w' S g T d:=h.aC hk fun _ _ h=>h
theorem TV.lt(h:TV w S g T d b c L):g<w.heap.size:=aQ h.top
theorem TV.tK(h:TV w S g T d b c L){i:Nat}{nd nd':Nd}{v:Value}(hi:L[i]? =some (nd,v)){j:Nat}(hj:j<5){u:Value}
 (hc:iZ nd' v=(iZ nd v).set j u) (oS:nd'.ch=nd.ch):
 Wr w ⟨b,i*5+j,none⟩/\TV (w.setCell ⟨b,i*5+j,none⟩ u) S g (T.set i nd') d b c (L.set i (nd',v)):=by
 have dP:i<L.length:=(List.getElem?_eq_some_iff.1 hi).1;have cI:i*5+j<(nW L).length:=by rw [sJ];omega
 refine⟨Row.wr h.row cI,?_⟩;have e8:=Row.set h.row cI u;rw [zo hi hj (p':=(nd',v)) hc]at e8;have hK:Kept (fun k=>k=b) w (w.setCell ⟨b,i*5+j,none⟩ u):=(Kept.refl (fun k=>k=b) w).setCell (p:=⟨b,i*5+j,none⟩) (fun _=>rfl) u;have gh: ∀(k:Nat) (p:Nd×Value),(L.set i (nd',v))[k]? =some p-> ∃q,L[k]? =some q/\q.2=p.2/\q.1.ch=p.1.ch:=by
  intro k p hp;rw [List.getElem?_set]at hp;by_cases e:i=k
  ·subst e
   rw [if_pos rfl,if_pos dP]at hp;cases hp;exact⟨_,hi,rfl,oS.symm⟩
  ·rw [if_neg e]at hp
   exact⟨p,hp,rfl,rfl⟩
 exact {
  top:=by rw [List.length_set];exact hK.heap h.top h.gb
  fst:=by rw [List.map_set,h.fst]
  row:=by rw [List.length_set];exact e8
  p9:=fun k p hp=>by
   obtain⟨q,hq,h1,h2⟩:=gh k p hp;obtain⟨A,m,hk⟩:=h.p9 k q hq;obtain⟨cur,hb⟩:=h.uY;refine⟨A,m,by rw [<-h1,<-h2];exact hk.val,?_,hk.jM⟩;rw [<-h2];exact Row.aC hk.row hK (fun k e e2=>hk.ne hb (by decide) (by rw [e,e2]))
  apart:=fun k l p q hp hq zW=>by
   obtain⟨p',JI,h1,_⟩:=gh k p hp;obtain⟨q',y5,h2,_⟩:=gh l q hq;rw [<-h1,<-h2];exact h.apart k l p' q' JI y5 zW
  gS:=h.gS
  fQ:=h.fQ}
end
end Go.Proofs.YtnboahlopghcjaaGreatDoor.Tr
namespace Go.Proofs.YtnboahlopghcjaaGreatDoor.Tr
open Go.Proofs.Tryz
open Go Go.bV Go.RowKit
theorem nZ(b x y:Nat):((⟨b,0,none⟩:Addr).add x).add y=⟨b,x+y,none⟩:=by rw [ba,ba,Nat.zero_add]
theorem lQ(b x:Nat):(⟨b,0,none⟩:Addr).add x=⟨b,x,none⟩:=by rw [ba,Nat.zero_add]
section
variable{w:World}{S:Nat->Prop}{g:Nat}{T:List Nd}{d:Int}{b c:Nat}{L:List (Nd×Value)}
theorem TV.go(h:TV w S g T d b c L){k:Option Addr->Nat->Nat->Prop}(hk:k (some ⟨b,0,none⟩) T.length c):
 ∃A n m,w.cell? ((⟨g,0,none⟩:Addr).add 0)=some (.slice A n m)/\k A n m:=⟨_,_,_,by rw [lQ];exact h.nodes,hk⟩
theorem TV.goD(h:TV w S g T d b c L){k:Int->Prop}(hk:k d): ∃t,w.cell? ((⟨g,0,none⟩:Addr).add 1)=some (.int .i64 t)/\k t:=
 ⟨_,by rw [lQ];exact h.HL,hk⟩
theorem TV.HE(h:TV w S g T d b c L){i:Nat}{nd:Nd}{v:Value}(hi:L[i]? =some (nd,v)){k:Int->Prop}(hk:k nd.parent):
 ∃t,w.cell? (((⟨b,0,none⟩:Addr).add (i*5)).add 0)=some (.int .i64 t)/\k t:=⟨_,by rw [nZ];exact h.cell hi (by omega) rfl,hk⟩
theorem TV.Vk(h:TV w S g T d b c L){i:Nat}{nd:Nd}{v:Value}(hi:L[i]? =some (nd,v)){A:Option Addr}{m:Nat}(hv:v=.slice A nd.ch.length m){k:Option Addr->Nat->Nat->Prop}(hk:k A nd.ch.length m):
 ∃A n m,w.cell? (((⟨b,0,none⟩:Addr).add (i*5)).add 1)=some (.slice A n m)/\k A n m:=⟨_,_,_,by rw [nZ];exact h.cell hi (by omega) (by rw [hv];rfl),hk⟩
theorem TV.uI(h:TV w S g T d b c L){i:Nat}{nd:Nd}{v:Value}(hi:L[i]? =some (nd,v)){k:Int->Prop}(hk:k nd.lo):
 ∃t,w.cell? (((⟨b,0,none⟩:Addr).add (i*5)).add 2)=some (.int .u64 t)/\k t:=⟨_,by rw [nZ];exact h.cell hi (by omega) rfl,hk⟩
theorem TV.zl(h:TV w S g T d b c L){i:Nat}{nd:Nd}{v:Value}(hi:L[i]? =some (nd,v)){k:Int->Prop}(hk:k nd.hi):
 ∃t,w.cell? (((⟨b,0,none⟩:Addr).add (i*5)).add 3)=some (.int .u64 t)/\k t:=⟨_,by rw [nZ];exact h.cell hi (by omega) rfl,hk⟩
theorem TV.xn(h:TV w S g T d b c L){i:Nat}{nd:Nd}{v:Value}(hi:L[i]? =some (nd,v)){k:Int->Prop}(hk:k nd.free):
 ∃t,w.cell? (((⟨b,0,none⟩:Addr).add (i*5)).add 4)=some (.int .u64 t)/\k t:=⟨_,by rw [nZ];exact h.cell hi (by omega) rfl,hk⟩
theorem TV.kept{w':World}(h:TV w S g T d b c L)(hk:Kept Nil w w'):TV w' S g T d b c L:=h.aC hk fun _ _ h=>h
end
section
variable{w:World}{S:Nat->Prop}{g:Nat}{T:List Nd}{d:Int}{K:Value->World->Prop}
theorem wH(h:oq w S g T d)(n:Int)(hK:K (.bool (decide (0<=n/\n<T.length))) w):
 bn prog ig.id #[.pointer (some ⟨g,0,none⟩),.int .i64 n] w K:=by
 obtain⟨b,c,L,h⟩:=h;refine ig.of (Split.yes rfl (Split.dec (fun h0=>h.go ?_) (fun h0=>?_)))
 ·rwa [show decide (0<=n/\n<(T.length:Int))=decide (n<(T.length:Int))from by simp [show(0:Int)<=n from h0]]at hK
 ·rwa [decide_eq_false (fun e:0<=n/\n<(T.length:Int)=>h0 e.1)]at hK
theorem FA(h:oq w S g T d)(hT:0<T.length)(n:Int)(hK:K (.int .i64 (if 0<=n/\n<T.length then 0 else 6)) w):
 bn prog fU.id #[.pointer (some ⟨g,0,none⟩),.int .i64 n] w K:=by
 have h0:=h;obtain⟨b,c,L,h⟩:=h;refine fU.of (Split.no rfl (h.go (Split.no (beq_eq_false_iff_ne.2 (by omega)) (wH h0 n ⟨_,rfl,?_⟩))));by_cases hn:0<=n/\n<(T.length:Int)
 ·rw [if_pos hn]at hK
  exact Split.no (by simp [hn]) hK
 ·rw [if_neg hn]at hK
  exact Split.yes (by simp only [decide_eq_false hn];rfl) hK
theorem sg(h:oq w S g T d){n:Nat}(hn:n<T.length)(hK:K (.int .i64 0) w):
 bn prog fU.id #[.pointer (some ⟨g,0,none⟩),.int .i64 n] w K:=FA h (by omega) n (by rw [if_pos ⟨by omega,by omega⟩];exact hK)
theorem Dt(h:oq w S g T d){n:Nat}{nd:Nd}(hn:T[n]? =some nd)(hK: ∀w',Kept Nil w w'->K (.int .u64 (IntKind.u64.wrap (nd.hi-nd.free))) w'):
 bn prog fy.id #[.pointer (some ⟨g,0,none⟩),.int .i64 n] w K:=by
 obtain⟨b,c,L,h⟩:=h;have cI:n<T.length:=(List.getElem?_eq_some_iff.1 hn).1;obtain⟨v,hv⟩:=h.at_ hn;refine fy.of ?_;unfold fy.W;intro w1;have k1:Kept Nil w w1:=(Kept.refl Nil w).drew;have h1:=h.kept k1;have hb:0<=(n:Int)/\(n:Int)<(T.length:Int):=⟨by omega,by omega⟩;exact h1.go ⟨hb,h1.zl hv (h1.go ⟨hb,h1.xn hv (hK w1 k1)⟩)⟩
theorem x7(h:oq w S g T d){n:Nat}{nd:Nd}(hn:T[n]? =some nd)(h0:0<n)(hK:K (.tuple #[.int .i64 nd.parent,.int .i64 0]) w):
 bn prog fg.id #[.pointer (some ⟨g,0,none⟩),.int .i64 n] w K:=by
 have cI:n<T.length:=(List.getElem?_eq_some_iff.1 hn).1;refine fg.of (sg h cI ⟨_,rfl,Split.yes rfl (Split.no (beq_eq_false_iff_ne.2 (by omega)) (Split.no rfl ?_))⟩);obtain⟨b,c,L,h⟩:=h;obtain⟨v,hv⟩:=h.at_ hn;exact h.go ⟨⟨by omega,by omega⟩,h.HE hv hK⟩
theorem KL:xP prog iR jl 1 8:=⟨by kernel_rfl,by kernel_rfl⟩
theorem wK:xP prog hZ iQ 5 56:=⟨by kernel_rfl,by kernel_rfl⟩
end
end Go.Proofs.YtnboahlopghcjaaGreatDoor.Tr
namespace Go.Proofs.YtnboahlopghcjaaGreatDoor.Tr
open Go.Proofs.Tryz
open Go Go.bV Go.RowKit
theorem fp{x:Int}(h0:0<=x)(h1:x<18446744073709551616):IntKind.u64.wrap x=x:=by
 simp only [IntKind.wrap,IntKind.bits,IntKind.signed];simp;omega
theorem gY{x:Int}(h0: -9223372036854775808<=x)(h1:x<9223372036854775808):IntKind.i64.wrap x=x:=by
 simp only [IntKind.wrap,IntKind.bits,IntKind.signed];simp;omega
def uH(T:List Nd)(n p:Nat)(nd pd:Nd)(many:Int):List Nd:=
 (T.set n {nd with lo:=pd.free,hi:=pd.free+many-1,free:=pd.free}).set p {pd with free:=pd.free+many}
section
variable{w:World}{S:Nat->Prop}{g:Nat}{T:List Nd}{d:Int}{K:Value->World->Prop}
theorem ir{α:Type}{L:List α}{i:Nat}{x y:α}(h:L[i]? =some x):(L.set i y)[i]? =some y:=by
 rw [List.getElem?_set_self (List.getElem?_eq_some_iff.1 h).1]
theorem ny{α:Type}{L:List α}{i j:Nat}{x y:α}(h:L[j]? =some x)(fG:i≠j):(L.set i y)[j]? =some x:=by
 rw [List.getElem?_set_ne fG];exact h
theorem tD{b c:Nat}{L:List (Nd×Value)}(h:TV w S g T d b c L){n p:Nat}{nd pd:Nd}{many:Int}(hn:T[n]? =some nd)(hp:T[p]? =some pd)(P7:nd.parent=p)(fG:n≠p)
 (hf:0<=pd.free) (hm:1<=many) (hfm:pd.free+many<18446744073709551616)
 (hK: ∀w' L',TV w' S g (uH T n p nd pd many) d b c L'->Kept (fun k=>k=b) w w'->K (.tuple #[]) w'):
 bn prog fz.id #[.pointer (some ⟨g,0,none⟩),.int .i64 n,.int .u64 many] w K:=by
 have xK:n<T.length:=(List.getElem?_eq_some_iff.1 hn).1;have qp:p<T.length:=(List.getElem?_eq_some_iff.1 hp).1;obtain⟨v,hv⟩:=h.at_ hn;obtain⟨u,hu⟩:=h.at_ hp;have WK:0<=(n:Int)/\(n:Int)<(T.length:Int):=⟨by omega,by omega⟩;have LR:0<=nd.parent/\nd.parent<(T.length:Int):=by rw [P7];exact⟨by omega,by omega⟩
 refine fz.of (h.go ⟨WK,Is.mk rfl ?_⟩);intro w7;have k7:Kept (fun k=>k=b) w w7:=(Kept.refl _ w).drew;have h7:TV w7 S g T d b c L:=h.kept (Kept.refl Nil w).drew;refine h7.go (h7.HE hv ⟨LR,Is.mk rfl ?_⟩);rw [P7];refine h7.xn hu ?_;obtain⟨Xs,C1⟩:=h7.tK hv (j:=2) (by omega) (u:=.int .u64 pd.free) (nd':= {nd with lo:=pd.free}) rfl rfl;have kS: ∀ {w w':World},Kept (fun k=>k=b) w w'-> ∀(j:Nat) (u:Value),Kept (fun k=>k=b) w (w'.setCell ⟨b,j,none⟩ u):=fun k j u=>k.setCell (fun _=>rfl) u;have v1:(L.set n ({nd with lo:=pd.free},v))[n]? =some ({nd with lo:=pd.free},v):=ir hv;refine⟨by rw [nZ];exact Xs,?_⟩;intro kN;have e13:kN=w7.setCell ⟨b,n*5+2,none⟩ (.int .u64 pd.free):=by simp only [kN,nZ,Int.toNat_natCast]
 have re:Kept (fun k=>k=b) w kN:=by rw [e13];exact kS k7 _ _
 rw [<-e13]at C1;clear_value kN;refine C1.uI v1 ?_;obtain⟨wr2,HC⟩:=C1.tK v1 (j:=3) (by omega) (u:=.int .u64 (IntKind.u64.wrap (IntKind.u64.wrap (pd.free+many)-1))) (nd':= {nd with lo:=pd.free,hi:=pd.free+many-1}) (by rw [fp (x:=pd.free+many) (by omega) (by omega),fp (by omega) (by omega)];rfl) rfl;refine⟨by rw [nZ];exact wr2,?_⟩;intro lT;have e15:lT=kN.setCell ⟨b,n*5+3,none⟩ (.int .u64 (IntKind.u64.wrap (IntKind.u64.wrap (pd.free+many)-1))):=by simp only [lT,nZ,Int.toNat_natCast]
 have sC:Kept (fun k=>k=b) w lT:=by rw [e15];exact kS re _ _
 rw [<-e15]at HC;clear_value lT;rw [List.set_set,List.set_set]at HC;have v2:(L.set n ({nd with lo:=pd.free,hi:=pd.free+many-1},v))[n]? =some ({nd with lo:=pd.free,hi:=pd.free+many-1},v):=ir hv;refine HC.uI v2 ?_;obtain⟨Xr,WX⟩:=HC.tK v2 (j:=4) (by omega) (u:=.int .u64 pd.free) (nd':= {nd with lo:=pd.free,hi:=pd.free+many-1,free:=pd.free}) rfl rfl;refine⟨by rw [nZ];exact Xr,?_⟩;intro vh;have e17:vh=lT.setCell ⟨b,n*5+4,none⟩ (.int .u64 pd.free):=by simp only [vh,nZ,Int.toNat_natCast]
 have zP:Kept (fun k=>k=b) w vh:=by rw [e17];exact kS sC _ _
 rw [<-e17]at WX;clear_value vh;rw [List.set_set,List.set_set]at WX;have u3:(L.set n ({nd with lo:=pd.free,hi:=pd.free+many-1,free:=pd.free},v))[p]? =some (pd,u):=ny hu fG;refine WX.xn u3 ?_;obtain⟨wr4,h19⟩:=WX.tK u3 (j:=4) (by omega) (u:=.int .u64 (IntKind.u64.wrap (pd.free+many))) (nd':= {pd with free:=pd.free+many}) (by rw [fp (by omega) (by omega)];rfl) rfl;refine⟨by rw [nZ];exact wr4,?_⟩;intro nQ;have e19:nQ=vh.setCell ⟨b,p*5+4,none⟩ (.int .u64 (IntKind.u64.wrap (pd.free+many))):=by simp only [nQ,nZ,Int.toNat_natCast]
 exact hK nQ _ (by rw [e19];exact h19) (by rw [e19];exact kS zP _ _)
theorem Du(h:oq w S g T d){n p:Nat}{nd pd:Nd}{many:Int}(hn:T[n]? =some nd)(hp:T[p]? =some pd)(P7:nd.parent=p)(fG:n≠p)
 (hf:0<=pd.free) (hm:1<=many) (hfm:pd.free+many<18446744073709551616)
 (hK: ∀w',oq w' S g (uH T n p nd pd many) d->Kept S w w'->K (.tuple #[]) w'):
 bn prog fz.id #[.pointer (some ⟨g,0,none⟩),.int .i64 n,.int .u64 many] w K:=by
 obtain⟨b,c,L,h⟩:=h;exact tD h hn hp P7 fG hf hm hfm fun w' L' h' k'=>hK w' ⟨b,c,L',h'⟩ (k'.mono fun k _ e=>by rw [e];exact h.fQ)
end
end Go.Proofs.YtnboahlopghcjaaGreatDoor.Tr
namespace Go.Proofs.YtnboahlopghcjaaGreatDoor.Tr
open Go.Proofs.Tryz
open Go Go.bV Go.RowKit
section
variable{w:World}{S:Nat->Prop}{g:Nat}{T:List Nd}{d:Int}{b c:Nat}{L:List (Nd×Value)}
theorem zp(L M:List (Nd×Value)):nW (L++M)=nW L++nW M:=by simp [nW]
theorem TV.HD(h:TV w S g T d b c L)(kZ:T.length<=1000000)(p:Int){w10:World}
 (e10:w10=w.alloc (.cells #[.int .i64 p,.slice none 0 0,.int .u64 0,.int .u64 0,.int .u64 0] iQ)):
 ∃A c' lU,(Builtin.append_ #[hZ,hZ] hZ #[.slice (some ⟨b,0,none⟩) T.length c,.slice (some ⟨w.heap.size,0,none⟩) 1 1]).run prog w10=.ok (.slice A (T.length+1) c') lU/\
  Wr lU ⟨g,0,none⟩/\ ∃b' S' L',TV (lU.setCell ⟨g,0,none⟩ (.slice A (T.length+1) c')) S' g (T++ [⟨p,[],0,0,0⟩]) d b' c' L'/\(∀(i:Nat) q,L[i]? =some q->L'[i]? =some q)/\
   Kept S w (lU.setCell ⟨g,0,none⟩ (.slice A (T.length+1) c'))/\(∀k,S k->S' k)/\(∀k,S' k->S k\/w.heap.size<=k):=by
 subst e10;generalize NJ:w.alloc (.cells #[.int .i64 p,.slice none 0 0,.int .u64 0,.int .u64 0,.int .u64 0] iQ)=w10;have mo:w10.heap[w.heap.size]? =some (.cells #[.int .i64 p,.slice none 0 0,.int .u64 0,.int .u64 0,.int .u64 0] iQ (0,0)):=by rw [<-NJ];exact aJ w _
 have mC:Kept Nil w w10:=by rw [<-NJ];exact(Kept.refl Nil w).alloc _
 have JC:w10.heap.size=w.heap.size+1:=by rw [<-NJ];simp
 have vf:=h.kept mC;obtain⟨A,c',lU,hr,e8,hg,vy⟩:=fi (P:=prog) (t:=hZ) (ty:=hZ) wK vf.row (a:=⟨w.heap.size,0,none⟩) (m:=1) (cx:=1)
  (news:=iZ ⟨p,[],0,0,0⟩ (.slice none 0 0)) rfl (fun j u hj=>by rw [lQ,ax mo];simpa [iZ]using hj) (by intro u hu;simp [iZ]at hu;rcases hu with rfl|rfl|rfl|rfl|rfl<;>rfl)
  (by omega) (by unfold maxLen;omega) (Nat.zero_le _)
 obtain⟨b',rfl⟩:=Row.some e8 (by omega);have kb:Kept (fun k=>k=b) w10 lU:=(Kept.refl _ w10).grown hg (fun k hk _=>by cases hk;rfl);have iM:lU.heap[g]? =some (.cells #[.slice (some ⟨b,0,none⟩) T.length c,.int .i64 d] sN (0,0)):=kb.heap vf.top h.gb;refine⟨_,c',lU,hr,dM iM (show 0<2 by omega),?_⟩;generalize Sd:lU.setCell ⟨g,0,none⟩ (.slice (some ⟨b',0,none⟩) (T.length+1) c')=wf;have kg:Kept (fun k=>k=g) lU wf:=by rw [<-Sd];exact(Kept.refl (fun k=>k=g) lU).setCell (p:=⟨g,0,none⟩) (fun _=>rfl) _
 have vA:b'=b\/w10.heap.size<=b':=by
  rcases vy b' rfl with h|h
  ·left;cases h;rfl
  ·exact .inr h
 have abc:b'≠g:=by
  rintro rfl;obtain⟨_,cur,hc⟩:=Row.bC e8 (k:=b') rfl;rw [iM]at hc;injection hc with hc;injection hc with _ ht;exact absurd ht (by decide)
 have Es: ∀(i:Nat) (q:Nd×Value),L[i]? =some q-> ∃A m,VU wf S q A m:=by
  intro i q hq;obtain⟨A,m,hk⟩:=vf.p9 i q hq;obtain⟨cur,Qf⟩:=vf.uY;have r1:=Row.aC hk.row kb (fun k e e2=>hk.ne Qf (by decide) (by rw [e,e2]));have r2:=Row.aC r1 kg (fun k e e2=>hk.ne vf.top (by decide) (by rw [e,e2]));exact⟨A,m,hk.val,r2,hk.jM⟩
 refine⟨b',fun k=>S k\/k=b',L++ [(⟨p,[],0,0,0⟩,.slice none 0 0)],?_,fun i q hq=>?_,?_,fun k hk=>.inl hk,?_⟩
 ·exact {
   top:=by
    have:=cU iM 0 (.slice (some ⟨b',0,none⟩) (T.length+1) c');rw [Sd]at this;simpa using this
   fst:=by simp [h.fst]
   row:=by
    rw [zp,List.length_append];have:=Row.aC e8 kg (fun k e e2=>abc (by cases e;exact e2));simpa [nW]using this
   p9:=fun i q hq=>by
    rw [List.getElem?_append]at hq;split at hq
    ·obtain⟨A,m,hk⟩:=Es i q hq
     exact⟨A,m,hk.val,hk.row,fun k e=>.inl (hk.jM k e)⟩
    ·rename_i cI
     have:i-L.length=0:=by
      rcases Nat.eq_zero_or_pos (i-L.length)with h|h
      ·exact h
      ·rw [List.getElem?_eq_none (by simp;omega)]at hq;cases hq
     rw [this]at hq;simp at hq;subst hq;exact⟨none,0,rfl,Row.nil _ _ _ _,fun k e=>by cases e⟩
   apart:=fun i j q q' hq y5 qR k hk mu=>by
    rw [List.getElem?_append]at hq y5;have last: ∀(x:Nat) (r:Nd×Value),[((⟨p,[],0,0,0⟩:Nd),Value.slice none 0 0)][x]? =some r->r.2=.slice none 0 0:=by
     intro x r hr;cases x with
     |zero=>simp at hr;subst hr;rfl
     |succ x=>simp at hr
    split at hq<;>split at y5
    ·exact h.apart i j q q' hq y5 qR k hk mu
    ·rw [last _ _ y5]at mu;cases mu
    ·rw [last _ _ hq]at hk;cases hk
    ·rw [last _ _ y5]at mu;cases mu
   gS:=.inl h.gS
   fQ:=.inr rfl}
 ·rw [List.getElem?_append_left (List.getElem?_eq_some_iff.1 hq).1];exact hq
 ·have vc:Kept S w lU:=(mC.mono (S':=S) (fun _ _ h=>h.elim)).trans kb (fun k _ e=>by rw [e];exact h.fQ)
  exact vc.trans kg (fun k _ e=>by rw [e];exact h.gS)
 ·rintro k (hk|rfl)
  ·exact .inl hk
  ·rcases vA with rfl|vA
   ·exact .inl h.fQ
   ·right;omega
theorem TV.Kp(h:TV w S g T d b c L){p:Nat}{nd:Nd}{v:Value}(hp:L[p]? =some (nd,v)){A:Option Addr}{m:Nat}(hk:VU w S (nd,v) A m)(kZ:nd.ch.length<=1000000)(n:Nat){w22:World}
 (e22:w22=w.alloc (.cells #[.int .i64 n] jl)):
 ∃A' c' lf,(Builtin.append_ #[iR,iR] iR #[.slice A nd.ch.length m,.slice (some ⟨w.heap.size,0,none⟩) 1 1]).run prog w22=.ok (.slice A' (nd.ch.length+1) c') lf/\
  lf.cell? ⟨g,0,none⟩=some (.slice (some ⟨b,0,none⟩) T.length c)/\Wr lf ⟨b,p*5+1,none⟩/\
  ∃S' L',TV (lf.setCell ⟨b,p*5+1,none⟩ (.slice A' (nd.ch.length+1) c')) S' g (T.set p {nd with ch:=nd.ch++ [n]}) d b c L'/\
   Kept S w (lf.setCell ⟨b,p*5+1,none⟩ (.slice A' (nd.ch.length+1) c'))/\(∀k,S k->S' k)/\(∀k,S' k->S k\/w.heap.size<=k):=by
 subst e22;generalize NI:w.alloc (.cells #[.int .i64 n] jl)=w22;have mo:w22.heap[w.heap.size]? =some (.cells #[.int .i64 n] jl (0,0)):=by rw [<-NI];exact aJ w _
 have RV:Kept Nil w w22:=by rw [<-NI];exact(Kept.refl Nil w).alloc _
 have ahD:w22.heap.size=w.heap.size+1:=by rw [<-NI];simp
 have Bn:=h.kept RV;have NW:=Row.aC hk.row RV (fun _ _ h=>h);have qp:p<L.length:=(List.getElem?_eq_some_iff.1 hp).1;obtain⟨A',c',lf,hr,e8,hg,vy⟩:=fi (P:=prog) (t:=iR) (ty:=iR) KL NW (a:=⟨w.heap.size,0,none⟩) (m:=1) (cx:=1)
  (news:=ints [n]) rfl (fun j u hj=>by rw [lQ,ax mo];simpa [ints]using hj) (by intro u hu;simp [ints]at hu;subst hu;rfl)
  (by simp only;omega) (by unfold maxLen;simp only;omega) (Nat.zero_le _)
 obtain⟨cur,Qf⟩:=Bn.uY;obtain⟨ajP,hb0⟩:=h.uY;have LI:bg A≠some b:=hk.ne hb0 (by decide);have hkg:bg A≠some g:=hk.ne h.top (by decide);have kA:Kept (fun k=>bg A=some k) w22 lf:=(Kept.refl _ w22).grown hg (fun k hk _=>hk);have HB:Row lf 0 iQ 5 (some ⟨b,0,none⟩) T.length c (nW L):=Row.aC Bn.row kA (fun k e e2=>LI (by rw [e2,<-e];rfl));have HA:=kA.heap Bn.top (fun e=>hkg e);have cI:p*5+1<(nW L).length:=by rw [sJ];omega
 refine⟨A',c',lf,hr,by rw [ax HA];rfl,Row.wr HB cI,?_⟩;generalize Sd:lf.setCell ⟨b,p*5+1,none⟩ (.slice A' (nd.ch.length+1) c')=wf;have kB:Kept (fun k=>k=b) lf wf:=by rw [<-Sd];exact(Kept.refl (fun k=>k=b) lf).setCell (p:=⟨b,p*5+1,none⟩) (fun _=>rfl) _
 have abK:bg A'≠some b:=by
  intro e;obtain⟨_,Vz,hc⟩:=Row.bC e8 e;have:=kA.heap Qf LI;rw [this]at hc;injection hc with hc;injection hc with _ ht;exact absurd ht (by decide)
 have ux: ∀(A:Option Addr) n m,Value.ownBlock (.slice A n m)=bg A:=by intro A n m;cases A<;>rfl
 have gh: ∀(i:Nat) (q:Nd×Value),(L.set p ({nd with ch:=nd.ch++ [n]},.slice A' (nd.ch.length+1) c'))[i]? =some q->(i=p/\q=({nd with ch:=nd.ch++ [n]},.slice A' (nd.ch.length+1) c'))\/(i≠p/\L[i]? =some q):=by
  intro i q hq;by_cases e:p=i
  ·subst e
   rw [List.getElem?_set_self qp]at hq;cases hq;exact .inl ⟨rfl,rfl⟩
  ·rw [List.getElem?_set_ne e]at hq
   exact .inr ⟨fun h=>e h.symm,hq⟩
 have LB: ∀k,bg A'=some k-> ∀(i:Nat) (q:Nd×Value),i≠p->L[i]? =some q->Value.ownBlock q.2≠some k:=by
  intro k mu i q hi hq Zy;rcases vy k mu with e|e
  ·exact h.apart p i _ _ hp hq (fun e=>hi e.symm) k (by rw [hk.val,ux];exact e) Zy
  ·obtain⟨A2,m2,mD⟩:=h.p9 i q hq
   rw [mD.val,ux]at Zy;obtain⟨_,ajO,LO⟩:=Row.bC mD.row Zy;have:=aQ LO;omega
 refine⟨fun k=>S k\/bg A'=some k,L.set p ({nd with ch:=nd.ch++ [n]},.slice A' (nd.ch.length+1) c'),?_,?_,fun k hk=>.inl hk,?_⟩
 ·exact {
   top:=by rw [List.length_set];exact kB.heap HA h.gb
   fst:=by rw [List.map_set,h.fst]
   row:=by
    rw [List.length_set];have:=Row.set HB cI (.slice A' (nd.ch.length+1) c');rw [Sd,zo hp (j:=1) (by omega) (p':=({nd with ch:=nd.ch++ [n]},.slice A' (nd.ch.length+1) c')) rfl]at this;exact this
   p9:=fun i q hq=>by
    rcases gh i q hq with⟨rfl,rfl⟩|⟨hi,hq⟩
    ·refine⟨A',c',by simp,?_,fun k e=>.inr e⟩
     have:=Row.aC e8 kB (fun k e e2=>abK (by rw [e,e2]));simpa [ints]using this
    ·obtain⟨A2,m2,mD⟩:=Bn.p9 i q hq
     have r1:=Row.aC mD.row kA (fun k e e2=>h.apart p i _ _ hp hq (fun e=>hi e.symm) k (by rw [hk.val,ux];exact e2) (by rw [mD.val,ux];exact e));have r2:=Row.aC r1 kB (fun k e e2=>mD.ne Qf (by decide) (by rw [e,e2]));exact⟨A2,m2,mD.val,r2,fun k e=>.inl (mD.jM k e)⟩
   apart:=fun i j q q' hq y5 qR k Iu mD=>by
    rcases gh i q hq with⟨e1,e2⟩|⟨hi,Lx⟩<;>rcases gh j q' y5 with⟨e3,e4⟩|⟨hj,P4⟩
    ·exact qR (e1.trans e3.symm)
    ·rw [e2,ux]at Iu;exact LB k Iu j q' hj P4 mD
    ·rw [e4,ux]at mD;exact LB k mD i q hi Lx Iu
    ·exact h.apart i j q q' Lx P4 qR k Iu mD
   gS:=.inl h.gS
   fQ:=.inl h.fQ}
 ·have pN:Kept S w lf:=(RV.mono (S':=S) (fun _ _ h=>h.elim)).trans kA (fun k _ e=>hk.jM k e)
  exact pN.trans kB (fun k _ e=>by rw [e];exact h.fQ)
 ·rintro k (mu|mu)
  ·exact .inl mu
  ·rcases vy k mu with e|e
   ·exact .inl (hk.jM k e)
   ·right;omega
end
end Go.Proofs.YtnboahlopghcjaaGreatDoor.Tr
namespace Go.Proofs.YtnboahlopghcjaaGreatDoor.Tr
open Go.Proofs.Tryz
open Go Go.bV Go.RowKit
def grown(T:List Nd)(p:Nat)(pd:Nd):List Nd:=(T++ [(⟨p,[],0,0,0⟩:Nd)]).set p {pd with ch:=pd.ch++ [T.length]}
def iN(pd:Nd):Int:=(pd.hi-pd.free+1)/2
def added(T:List Nd)(p:Nat)(pd:Nd):List Nd:=uH (grown T p pd) T.length p ⟨p,[],0,0,0⟩ {pd with ch:=pd.ch++ [T.length]} (iN pd)
section
variable{w:World}{S:Nat->Prop}{g:Nat}{T:List Nd}{d:Int}{K:Value->World->Prop}
theorem tF(h:oq w S g T d){p:Nat}{pd:Nd}(hp:T[p]? =some pd)(kZ:T.length<=1000000)(oS:pd.ch.length<=1000000)
 (hf:0<=pd.free) (hfh:pd.free<=pd.hi) (hh:pd.hi<=4611686018427387904)
 (hK1:pd.free<pd.hi-> ∀w' S',oq w' S' g (added T p pd) d->Kept S w w'->(∀k,S' k->S k\/w.heap.size<=k)->K (.tuple #[.int .i64 T.length,.int .i64 0]) w')
 (hK2:pd.free=pd.hi-> ∀w' S',oq w' S' g (grown T p pd) d->Kept S w w'->(∀k,S' k->S k\/w.heap.size<=k)->
   bn prog au.id #[.pointer (some ⟨g,0,none⟩),.int .i64 p] w' fun v lW=>v=.tuple #[]/\K (.tuple #[.int .i64 T.length,.int .i64 0]) lW):
 bn prog fV.id #[.pointer (some ⟨g,0,none⟩),.int .i64 p] w K:=by
 have cI:p<T.length:=(List.getElem?_eq_some_iff.1 hp).1;refine fV.of (sg h cI ⟨_,rfl,Split.no rfl ?_⟩);obtain⟨b,c,L,h⟩:=h;obtain⟨v,hv⟩:=h.at_ hp;refine h.go (h.go ⟨rfl,?_⟩);intro w10;obtain⟨A1,c1,lU,kQ,Xs,b1,S1,L1,h14,hL1,Il,hS1,U2⟩:=h.HD kZ (p:Int) (w10:=w10) rfl;refine⟨A1,_,c1,lU,kQ,by rw [lQ];exact Xs,?_⟩;intro ie;have e14:ie=lU.setCell ⟨g,0,none⟩ (.slice A1 (T.length+1) c1):=by simp only [ie,lQ]
 rw [<-e14]at h14 Il;clear_value ie;intro lT;have sC:Kept Nil ie lT:=(Kept.refl Nil ie).drew;have HC:=h14.kept sC;have Ip:=hL1 _ _ hv;have hlen:(T++ [(⟨p,[],0,0,0⟩:Nd)]).length=T.length+1:=by simp
 have LW:0<=(p:Int)/\(p:Int)<((T++ [(⟨p,[],0,0,0⟩:Nd)]).length:Int):=by rw [hlen];exact⟨by omega,by omega⟩
 obtain⟨A2,m2,hk⟩:=HC.p9 _ _ Ip;refine HC.go (HC.go ⟨LW,HC.Vk Ip hk.val ?_⟩);intro w22;have RV:Kept Nil lT w22:=(Kept.refl Nil lT).alloc _;have Bn:=HC.kept RV;obtain⟨A3,c3,lf,CN,Tm,Xr,S3,L3,WW,yQ,hS3,abn⟩:=HC.Kp Ip hk oS T.length (w22:=w22) rfl;have y9:=Bn.cell Ip (j:=1) (by omega) (v:=v) rfl;have hvv:v=.slice A2 pd.ch.length m2:=hk.val;rw [hvv]at y9;refine⟨by rw [nZ];exact y9,by rw [lQ];exact Bn.nodes,by rw [lQ];exact Bn.nodes,A3,_,c3,lf,CN,by rw [lQ];exact Tm,LW,by rw [nZ];exact Xr,?_⟩;intro oe;have e26:oe=lf.setCell ⟨b1,p*5+1,none⟩ (.slice A3 (pd.ch.length+1) c3):=by simp only [oe,nZ,Int.toNat_natCast]
 rw [<-e26]at WW yQ;clear_value oe;have JA:(T++ [(⟨p,[],0,0,0⟩:Nd)]).set p {pd with ch:=pd.ch++ [T.length]}=grown T p pd:=rfl;rw [JA]at WW;have hgp:(grown T p pd)[p]? =some {pd with ch:=pd.ch++ [T.length]}:=by
  unfold grown;rw [List.getElem?_set_self (by simp;omega)]
 have hgn:(grown T p pd)[T.length]? =some ⟨p,[],0,0,0⟩:=by
  unfold grown;rw [List.getElem?_set_ne (by omega)];simp
 have kw:Kept S w oe:=(Il.trans (sC.mono (S':=S) (fun _ _ h=>h.elim)) (fun _ _ h=>h)).trans yQ (fun k hk h=>by
  rcases U2 k h with h|h
  ·exact h
  ·omega)
 have O7: ∀k,S3 k->S k\/w.heap.size<=k:=fun k h=>by
  rcases abn k h with h|h
  ·exact U2 k h
  ·right
   have:=Il.size;have:=sC.size;omega
 refine Dt ⟨_,_,_,WW⟩ hgp fun E9 Gs=>⟨_,rfl,?_⟩;have h28:=WW.kept Gs;have Rl:Kept S w E9:=kw.trans Gs (fun _ _ h=>h.elim);simp only [];rw [fp (x:=pd.hi-pd.free) (by omega) (by omega)];refine Split.dec (fun ja=>⟨by decide,?_⟩) (fun ja=>?_)
 ·have CW:IntKind.u64.wrap ((IntKind.u64.wrap (pd.hi-pd.free+1)).tdiv 2)=iN pd:=by
   rw [fp (x:=pd.hi-pd.free+1) (by omega) (by omega),Int.tdiv_eq_ediv_of_nonneg (by omega),fp (by omega) (by omega)];rfl
  rw [CW];refine Du ⟨_,_,_,h28⟩ hgn hgp rfl (by omega) hf (by unfold iN;omega) (by unfold iN;simp only;omega) fun Fu h31 K5=>⟨rfl,?_⟩;refine hK1 (by omega) Fu S3 h31 (Rl.trans K5 fun k hk h=>?_) O7;rcases O7 k h with h|h
  ·exact h
  ·omega
 ·exact hK2 (by omega) E9 S3 ⟨_,_,_,h28⟩ Rl O7
end
end Go.Proofs.YtnboahlopghcjaaGreatDoor.Tr
namespace Go.Proofs.YtnboahlopghcjaaGreatDoor.Tr
open Go.Proofs.Tryz
open Go Go.bV Go.RowKit
section
variable{w:World}{S:Nat->Prop}{g:Nat}{T:List Nd}{d:Int}{K:Value->World->Prop}
def pJ:List Nd:= [⟨-1,[],1,4611686018427387904,1⟩]
theorem eJ(hK: ∀w' g,oq w' (fun k=>w.heap.size<=k) g pJ 0->Kept Nil w w'->K (.pointer (some ⟨g,0,none⟩)) w'):bn prog eJ.id #[] w K:=by
 refine eJ.of ⟨rfl,?_⟩;intro w1 w2;have k1:Kept Nil w w1:=(Kept.refl Nil w).alloc _;have k2:Kept Nil w w2:=k1.alloc _;refine hK w2 w1.heap.size ⟨w.heap.size,1,[(⟨-1,[],1,4611686018427387904,1⟩,.slice none 0 0)],?_⟩ k2;exact {
  top:=aJ w1 _
  fst:=rfl
  row:=Row.made (n:=1) (cur:= #[.int .i64 (-1),.slice none 0 0,.int .u64 1,.int .u64 4611686018427387904,.int .u64 1]) (iX (aJ w _) _) (Nat.zero_le _) rfl (by decide)
  p9:=fun i p hp=>by
   cases i with
   |zero=>simp at hp;subst hp;exact⟨none,0,rfl,Row.nil _ _ _ _,fun k e=>by cases e⟩
   |succ i=>simp at hp
  apart:=fun i j p q hp hq qR=>by
   cases i<;>cases j<;>simp at hp hq
   exact absurd rfl qR
  gS:=k1.size
  fQ:=Nat.le_refl _}
theorem Ag(h:oq w S g T d){a b:Nat}{ad bd:Nd}(ha:T[a]? =some ad)(hb:T[b]? =some bd)(hK: ∀w',Kept Nil w w'->K (.bool (decide (bd.lo<=ad.lo/\ad.hi<=bd.hi))) w'):
 bn prog e9.id #[.pointer (some ⟨g,0,none⟩),.int .i64 a,.int .i64 b] w K:=by
 have WM:a<T.length:=(List.getElem?_eq_some_iff.1 ha).1;have vy:b<T.length:=(List.getElem?_eq_some_iff.1 hb).1;have hba:0<=(a:Int)/\(a:Int)<(T.length:Int):=⟨by omega,by omega⟩;have vz:0<=(b:Int)/\(b:Int)<(T.length:Int):=⟨by omega,by omega⟩;refine e9.of ?_;unfold e9.W;intro w4;have k4:Kept Nil w w4:=(Kept.refl Nil w).drew;have h4:=h.same k4;have hk:=hK w4 k4;refine wH h4 a ⟨_,rfl,Split.yes (decide_eq_true hba) ?_⟩;refine wH h4 b ⟨_,rfl,Split.yes (decide_eq_true vz) ?_⟩;obtain⟨p,c,L,h4⟩:=h4;obtain⟨va,hva⟩:=h4.at_ ha;obtain⟨vb,Sh⟩:=h4.at_ hb;refine h4.go ⟨vz,h4.uI Sh (h4.go ⟨hba,h4.uI hva ?_⟩)⟩;refine Split.dec (fun h1=>h4.go ⟨hba,h4.zl hva (h4.go ⟨vz,h4.zl Sh ?_⟩)⟩) (fun h1=>?_)
 ·rwa [show decide (bd.lo<=ad.lo/\ad.hi<=bd.hi)=decide (ad.hi<=bd.hi)from by simp [h1]]at hk
 ·rwa [decide_eq_false (fun e:bd.lo<=ad.lo/\ad.hi<=bd.hi=>h1 e.1)]at hk
end
section
variable{w:World}{t:Option Addr}{K:Value->World->Prop}
end
end Go.Proofs.YtnboahlopghcjaaGreatDoor.Tr
namespace Go.Proofs.YtnboahlopghcjaaGreatDoor.Tr
open Go.Proofs.Tryz
def bP(T:List Nd):List Int:=T.map (·.parent)
structure nn(P:List Int):Prop where
 root:P[0]? =some (-1)
 up: ∀(i:Nat) (p:Int),0<i->P[i]? =some p-> ∃j:Nat,j<i/\p=j
def kids(P:List Int)(i:Nat):List Nat:=(List.range P.length).filter fun j=>P[j]? ==some (i:Int)
theorem dO{P:List Int}{i j:Nat}:j∈kids P i↔P[j]? =some (i:Int):=by
 simp only [kids,List.mem_filter,List.mem_range,beq_iff_eq];exact⟨fun h=>h.2,fun h=>⟨(List.getElem?_eq_some_iff.1 h).1,h⟩⟩
theorem gV{P:List Int}(hP:nn P){i j:Nat}(h:j∈kids P i):i<j/\j<P.length:=by
 rw [dO]at h;refine⟨?_,(List.getElem?_eq_some_iff.1 h).1⟩;rcases Nat.eq_zero_or_pos j with rfl|hj
 ·rw [hP.root]at h;have:=Option.some.inj h;omega
 ·obtain⟨k,hk,e⟩:=hP.up j _ hj h
  omega
theorem sy(P:List Int)(i:Nat):(kids P i).Pairwise (· < ·):=List.Pairwise.filter _ (List.pairwise_lt_range)
theorem yK(P:List Int)(i:Nat):(kids P i).length<=P.length:=by
 unfold kids;exact Nat.le_trans (List.length_filter_le _ _) (by simp)
inductive jE (P:List Int):Nat->Nat->Prop
 |refl {i:Nat}:i<P.length->jE P i i
 |step {i j k:Nat}:P[i]? =some (j:Int)->jE P j k->jE P i k
theorem jE.lt{P:List Int}{i k:Nat}(h:jE P i k):i<P.length:=by
 cases h with
 |refl h=>exact h
 |step h _=>exact(List.getElem?_eq_some_iff.1 h).1
theorem jE.Wa{P:List Int}{i k:Nat}(h:jE P i k):k<P.length:=by
 induction h with
 |refl h=>exact h
 |step _ _ ih=>exact ih
theorem jE.le{P:List Int}(hP:nn P){i k:Nat}(h:jE P i k):k<=i:=by
 induction h with
 |refl=>omega
 |step h _ ih=>have:=(gV hP (dO.2 h)).1;omega
theorem jE.trans{P:List Int}{i j k:Nat}(h:jE P i j)(h':jE P j k):jE P i k:=by
 induction h with
 |refl=>exact h'
 |step h _ ih=>exact .step h (ih h')
theorem jE.inv{P:List Int}{i j k:Nat}(h:jE P i k)(fG:i≠k)(hj:P[i]? =some (j:Int)):jE P j k:=by
 cases h with
 |refl=>exact absurd rfl fG
 | @step _ j' _ h h'=>
   rw [hj]at h;have e:j=j':=by have:=Option.some.inj h;omega
   rw [e];exact h'
theorem jE.child{P:List Int}{i k:Nat}(h:jE P i k)(fG:i≠k): ∃c,c∈kids P k/\jE P i c:=by
 induction h with
 |refl=>exact absurd rfl fG
 | @step i j k h h' ih=>
   by_cases e:j=k
   ·subst e
    exact⟨i,dO.2 h,.refl (List.getElem?_eq_some_iff.1 h).1⟩
   ·obtain⟨c,hc,hu⟩:=ih e
    exact⟨c,hc,.step h hu⟩
structure Iv(nd:Nd):Prop where
 X8:1<=nd.lo
 le:nd.lo<=nd.hi
 top:nd.hi<=4611686018427387904
structure Loc(T:List Nd)(nd:Nd):Prop where
 Fi:nd.lo<=nd.free
 Bx:nd.free<=nd.hi
 sub: ∀c cd,c∈nd.ch->T[c]? =some cd->nd.lo<=cd.lo/\cd.hi<nd.free
 ord: ∀(c c':Nat) cd uU,c∈nd.ch->c'∈nd.ch->c<c'->T[c]? =some cd->T[c']? =some uU->cd.hi<uU.lo
structure Shape(T:List Nd):Prop where
 par:nn (bP T)
 ch: ∀(i:Nat) nd,T[i]? =some nd->nd.ch=kids (bP T) i
structure Good(T:List Nd):Prop extends Shape T where
 iv: ∀(i:Nat) nd,T[i]? =some nd->Iv nd
 loc: ∀(i:Nat) nd,T[i]? =some nd->Loc T nd
theorem kj{T:List Nd}{i:Nat}{nd:Nd}(h:T[i]? =some nd):(bP T)[i]? =some nd.parent:=by simp [bP,h]
theorem eK(T:List Nd):(bP T).length=T.length:=by simp [bP]
theorem Shape.pos{T:List Nd}(h:Shape T):0<T.length:=by
 have:=(List.getElem?_eq_some_iff.1 h.par.root).1
 rwa [eK]at this
theorem Good.p9{T:List Nd}(h:Good T){c k:Nat}{cd kd:Nd}(hc:c∈kids (bP T) k)(jo:T[c]? =some cd)(TG:T[k]? =some kd):
 kd.lo<=cd.lo/\cd.hi<kd.free:=(h.loc k kd TG).sub c cd (by rw [h.ch k kd TG];exact hc) jo
theorem fH{T:List Nd}{i:Nat}(h:i<T.length): ∃nd,T[i]? =some nd:=⟨_,List.getElem?_eq_getElem h⟩
theorem Good.og{T:List Nd}(h:Good T){a b:Nat}{ad bd:Nd}(ha:T[a]? =some ad)(hb:T[b]? =some bd)(hu:jE (bP T) a b):bd.lo<=ad.lo/\ad.hi<=bd.hi:=by
 induction hu generalizing ad with
 |refl=>rw [ha]at hb;cases hb;omega
 | @step i j k hp h' ih=>
   have ri:j<T.length:=by have:=h'.lt;rwa [eK]at this
   obtain⟨jd,hj⟩:=fH ri;have h1:=ih hj hb;have h2:=h.p9 (dO.2 hp) ha hj;have h3:=(h.loc j jd hj).Bx;omega
theorem Good.apart{T:List Nd}(h:Good T): ∀(m a b:Nat),a+b<=m-> ∀ad bd,T[a]? =some ad->T[b]? =some bd-> ¬jE (bP T) a b-> ¬jE (bP T) b a->ad.hi<bd.lo\/bd.hi<ad.lo:=by
 intro m
 induction m with
 |zero=>
  intro a b hm ad bd ha hb h1 _;have:a=b:=by omega
  subst this;exact absurd (.refl (by rw [eK];exact(List.getElem?_eq_some_iff.1 ha).1)) h1
 |succ m ih=>
  have key: ∀(a b:Nat),a+b<=m+1->b<a-> ∀ad bd,T[a]? =some ad->T[b]? =some bd-> ¬jE (bP T) a b-> ¬jE (bP T) b a->ad.hi<bd.lo\/bd.hi<ad.lo:=by
   intro a b hm cI ad bd ha hb h1 h2;have WM:=(List.getElem?_eq_some_iff.1 ha).1;obtain⟨p,hp,e⟩:=h.par.up a _ (by omega) (kj ha);have Wv:(bP T)[a]? =some (p:Int):=by rw [kj ha,e]
   obtain⟨pd,xf⟩:=fH (T:=T) (i:=p) (by omega);have fN:=h.p9 (dO.2 Wv) ha xf;have qp:=h.loc p pd xf;have zU: ¬jE (bP T) p b:=fun hu=>h1 (.step Wv hu);by_cases LR:jE (bP T) b p
   ·have fG:b≠p:=fun e=>zU (by subst e;exact .refl LR.lt)
    obtain⟨c,hc,Ll⟩:=LR.child fG;have hca:c≠a:=fun e=>h2 (e▸Ll);have qq:c<T.length:=by have:=(gV h.par hc).2;rwa [eK]at this
    obtain⟨cd,jo⟩:=fH qq;have Hp:=h.og hb jo Ll;have oS:=h.ch p pd xf;rcases Nat.lt_or_ge c a with cI|gu
    ·have:=qp.ord c a cd ad (by rw [oS];exact hc) (by rw [oS];exact dO.2 Wv) cI jo ha
     omega
    ·have:=qp.ord a c ad cd (by rw [oS];exact dO.2 Wv) (by rw [oS];exact hc) (by omega) ha jo
     omega
   ·have:=ih p b (by omega) pd bd xf hb zU LR
    have:=qp.Bx;omega
  intro a b hm ad bd ha hb h1 h2;rcases Nat.lt_trichotomy a b with cI|rfl|cI
  ·have:=key b a (by omega) cI bd ad hb ha h2 h1
   omega
  ·exact absurd (.refl (by rw [eK];exact(List.getElem?_eq_some_iff.1 ha).1)) h1
  ·exact key a b hm cI ad bd ha hb h1 h2
theorem Good.under{T:List Nd}(h:Good T){a b:Nat}{ad bd:Nd}(ha:T[a]? =some ad)(hb:T[b]? =some bd):(bd.lo<=ad.lo/\ad.hi<=bd.hi)↔jE (bP T) a b:=by
 refine⟨fun hi=>?_,fun hu=>h.og ha hb hu⟩;by_cases hu:jE (bP T) a b
 ·exact hu
 ·exfalso
  have ia:=h.iv a ad ha;have ib:=h.iv b bd hb;by_cases hv:jE (bP T) b a
  ·have fG:b≠a:=fun e=>hu (by subst e;exact .refl hv.lt)
   obtain⟨c,hc,Ll⟩:=hv.child fG;have qq:c<T.length:=by have:=(gV h.par hc).2;rwa [eK]at this
   obtain⟨cd,jo⟩:=fH qq;have h1:=h.og hb jo Ll;have h2:=h.p9 hc jo ha;have h3:=(h.loc a ad ha).Bx;omega
  ·have:=h.apart (a+b) a b (Nat.le_refl _) ad bd ha hb hu hv
   have:=ia.le;have:=ib.le;omega
theorem wu(T:List Nd)(p:Nat)(pd:Nd):(grown T p pd).length=T.length+1:=by simp [grown]
theorem jc{T:List Nd}{p:Nat}{pd:Nd}(hp:T[p]? =some pd)(i:Nat):(grown T p pd)[i]? =if i=p then some {pd with ch:=pd.ch++ [T.length]}else if i=T.length then some ⟨p,[],0,0,0⟩else T[i]? :=by
 have cI:=(List.getElem?_eq_some_iff.1 hp).1;unfold grown;by_cases e:i=p
 ·subst e
  rw [if_pos rfl,List.getElem?_set_self (by simp;omega)]
 ·rw [if_neg e,List.getElem?_set_ne (fun h=>e h.symm)]
  by_cases e2:i=T.length
  ·subst e2;simp
  ·rw [if_neg e2]
   rcases Nat.lt_or_ge i T.length with h|h
   ·rw [List.getElem?_append_left h]
   ·rw [List.getElem?_eq_none (by simp;omega),List.getElem?_eq_none h]
theorem lM{T:List Nd}{p:Nat}{pd:Nd}(hp:T[p]? =some pd):bP (grown T p pd)=bP T++ [(p:Int)]:=by
 apply List.ext_getElem?;intro i;have cI:=(List.getElem?_eq_some_iff.1 hp).1;simp only [bP,List.getElem?_map,jc hp];by_cases e:i=p
 ·subst e
  rw [if_pos rfl,List.getElem?_append_left (by simpa using cI)];simp [hp]
 ·rw [if_neg e]
  by_cases e2:i=T.length
  ·subst e2;simp
  ·rw [if_neg e2]
   rcases Nat.lt_or_ge i T.length with h|h
   ·rw [List.getElem?_append_left (by simpa using h)];simp
   ·rw [List.getElem?_eq_none h,List.getElem?_eq_none (by simp;omega)];rfl
theorem yL(P:List Int)(p i:Nat):kids (P++ [(p:Int)]) i=kids P i++if i=p then [P.length]else []:=by
 unfold kids;rw [List.length_append,List.length_singleton,List.range_succ,List.filter_append]
 congr 1
 ·apply List.filter_congr
  intro x hx;rw [List.getElem?_append_left (by simpa using hx)]
 ·by_cases e:i=p
  ·subst e;simp
  ·have: ¬((p:Int)=(i:Int)):=by omega
   simp [e,this]
theorem nn.snoc{P:List Int}(h:nn P){p:Nat}(hp:p<P.length):nn (P++ [(p:Int)]):=by
 refine⟨by rw [List.getElem?_append_left (by omega)];exact h.root,fun i q hi hq=>?_⟩;rcases Nat.lt_or_ge i P.length with hl|hl
 ·rw [List.getElem?_append_left hl]at hq
  exact h.up i q hi hq
 ·have:i=P.length:=by
   rcases Nat.eq_or_lt_of_le hl with e|e
   ·exact e.symm
   ·rw [List.getElem?_eq_none (by simp;omega)]at hq;cases hq
  subst this;simp at hq;exact⟨p,hp,hq.symm⟩
theorem Shape.grown{T:List Nd}(h:Shape T){p:Nat}{pd:Nd}(hp:T[p]? =some pd):Shape (grown T p pd):=by
 have cI:=(List.getElem?_eq_some_iff.1 hp).1;refine⟨by rw [lM hp];exact h.par.snoc (by rw [eK];exact cI),fun i nd hi=>?_⟩;rw [lM hp,yL,eK];rw [jc hp]at hi;by_cases e:i=p
 ·subst e
  rw [if_pos rfl]at hi⊢;cases hi;simp [h.ch i pd hp]
 ·rw [if_neg e]at hi⊢
  rw [List.append_nil];by_cases e2:i=T.length
  ·subst e2
   rw [if_pos rfl]at hi;cases hi
   symm
   apply List.eq_nil_iff_forall_not_mem.2;intro c hc;have:=gV h.par hc;rw [eK]at this;omega
  ·rw [if_neg e2]at hi
   exact h.ch i nd hi
def iF(f:Nat->Nat):Nat->Nat
 |0=>0
 |n+1=>iF f n+f n
theorem jU{f g:Nat->Nat}{n:Nat}(h: ∀i,i<n->f i=g i):iF f n=iF g n:=by
 induction n with
 |zero=>rfl
 |succ n ih=>
  simp only [iF];rw [ih (fun i hi=>h i (by omega)),h n (by omega)]
theorem x9(f g:Nat->Nat)(n:Nat):iF (fun i=>f i+g i) n=iF f n+iF g n:=by
 induction n with
 |zero=>rfl
 |succ n ih=>simp only [iF];omega
theorem lg{f:Nat->Nat}{n:Nat}(h: ∀i,i<n->f i=0):iF f n=0:=by
 induction n with
 |zero=>rfl
 |succ n ih=>
  simp only [iF];rw [ih (fun i hi=>h i (by omega)),h n (by omega)]
theorem Dw(h:Nat->Nat->Nat)(n m:Nat):iF (fun i=>iF (fun j=>h i j) m) n=iF (fun j=>iF (fun i=>h i j) n) m:=by
 induction n with
 |zero=>simp only [iF];exact(lg fun _ _=>rfl).symm
 |succ n ih=>
  simp only [iF];rw [ih,x9]
theorem x8{n k:Nat}(hk:k<n){f:Nat->Nat}(h: ∀i,i<n->i≠k->f i=0):iF f n=f k:=by
 induction n with
 |zero=>omega
 |succ n ih=>
  simp only [iF];rcases Nat.lt_or_ge k n with cI|gu
  ·rw [ih cI (fun i hi=>h i (by omega)),h n (by omega) (by omega),Nat.add_zero]
  ·have:k=n:=by omega
   subst this;rw [lg (fun i hi=>h i (by omega) (by omega)),Nat.zero_add]
theorem IN{f:Nat->Nat}{n b:Nat}(h: ∀i,i<n->f i<=b):iF f n<=n*b:=by
 induction n with
 |zero=>simp [iF]
 |succ n ih=>
  simp only [iF];have:=ih (fun i hi=>h i (by omega));have:=h n (by omega);rw [Nat.succ_mul];omega
theorem FG{f f':Nat->Nat}{n k:Nat}(hk:k<n){v:Nat}(h: ∀i,i<n->i≠k->f' i=f i)(hv:f' k=f k+v):iF f' n=iF f n+v:=by
 induction n with
 |zero=>omega
 |succ n ih=>
  simp only [iF];rcases Nat.lt_or_ge k n with cI|gu
  ·rw [ih cI (fun i hi=>h i (by omega)),h n (by omega) (by omega)]
   omega
  ·have:k=n:=by omega
   subst this;rw [jU (fun i hi=>h i (by omega) (by omega)),hv];omega
theorem rk(q:Nat->Bool)(f:Nat->Nat)(n:Nat):(((List.range n).filter q).map f).sum=iF (fun c=>if q c=true then f c else 0) n:=by
 induction n with
 |zero=>rfl
 |succ n ih=>
  rw [List.range_succ,List.filter_append,List.map_append,List.sum_append,ih];simp only [iF]
  congr 1
  by_cases h:q n=true
  ·simp [h]
  ·simp [h]
section
variable{P:List Int}
theorem jE.cmp{i a b:Nat}(h:jE P i a)(h':jE P i b):jE P a b\/jE P b a:=by
 induction h with
 |refl=>exact .inl h'
 | @step i j k hp h2 ih=>
   by_cases e:i=b
   ·subst e;exact .inr (.step hp h2)
   ·exact ih (h'.inv e hp)
theorem jE.one(hP:nn P){i n c c':Nat}(hc:P[c]? =some (n:Int))(sV:P[c']? =some (n:Int))(h:jE P i c)(h':jE P i c'):c=c':=by
 have key: ∀(c c':Nat),P[c]? =some (n:Int)->P[c']? =some (n:Int)->jE P c c'->c=c':=by
  intro c c' hc sV h;by_cases e:c=c'
  ·exact e
  ·have:=(h.inv e hc).le hP
   have:=(gV hP (dO.2 sV)).1;omega
 rcases h.cmp h' with h|h
 ·exact key c c' hc sV h
 ·exact(key c' c sV hc h).symm
open Classical in
noncomputable def ind(p:Prop):Nat:=if p then 1 else 0
theorem qO{p:Prop}(h:p):ind p=1:=by unfold ind;rw [if_pos h]
theorem rM{p:Prop}(h: ¬p):ind p=0:=by unfold ind;rw [if_neg h]
theorem Nz(p:Prop):ind p<=1:=by unfold ind;split<;>omega
noncomputable def sz(P:List Int)(n:Nat):Nat:=iF (fun i=>ind (jE P i n)) P.length
theorem Ah(hP:nn P){n:Nat}(hn:n<P.length):sz P n=1+iF (fun c=>if P[c]? =some (n:Int)then sz P c else 0) P.length:=by
 have e1: ∀i,i<P.length->ind (jE P i n)=ind (i=n)+iF (fun c=>if P[c]? =some (n:Int)then ind (jE P i c)else 0) P.length:=by
  intro i hi;by_cases e:i=n
  ·subst e
   rw [qO (.refl hi),qO rfl,lg];intro c hc;split
   ·rename_i hp
    apply rM;intro hu;have:=hu.le hP;have:=(gV hP (dO.2 hp)).1;omega
   ·rfl
  ·rw [rM e,Nat.zero_add]
   by_cases hu:jE P i n
   ·obtain⟨c,hc,Ll⟩:=hu.child e
    rw [qO hu,x8 (k:=c) Ll.Wa]
    ·rw [if_pos (dO.1 hc),qO Ll]
    ·intro c' _ fG
     split
     ·rename_i hp
      exact rM fun h=>fG (jE.one hP hp (dO.1 hc) h Ll)
     ·rfl
   ·rw [rM hu,lg]
    intro c hc;split
    ·rename_i hp
     exact rM fun h=>hu (h.trans (.step hp (.refl hn)))
    ·rfl
 have e2:sz P n=iF (fun i=>ind (i=n)+iF (fun c=>if P[c]? =some (n:Int)then ind (jE P i c)else 0) P.length) P.length:=by
  unfold sz;exact jU e1
 rw [e2,x9,x8 (k:=n) hn (fun i _ h=>rM h),qO rfl,Dw]
 congr 1
 apply jU;intro c _;split
 ·rfl
 ·exact lg fun _ _=>rfl
theorem tG(hP:nn P){n:Nat}(hn:n<P.length):1<=sz P n:=by rw [Ah hP hn];omega
theorem vP(n:Nat):sz P n<=P.length:=by
 have:=IN (n:=P.length) (b:=1) (f:=fun i=>ind (jE P i n)) (fun i _=>Nz _);unfold sz;omega
theorem Cd(hP:nn P){n:Nat}(hn:n<P.length):((kids P n).map (sz P)).sum+1=sz P n:=by
 unfold kids;rw [rk,Ah hP hn,Nat.add_comm]
 congr 1
 apply jU;intro c _;by_cases h:P[c]? =some (n:Int)
 ·simp [h]
 ·simp [h]
noncomputable def part(P:List Int)(m j:Nat):Nat:=iF (fun c=>if P[c]? =some (j:Int)/\m<=c then sz P c else 0) P.length
theorem DS(j:Nat):part P P.length j=0:=lg fun c hc=>if_neg fun h=>by omega
theorem tW(hP:nn P){m j:Nat}(hj:j<P.length)(hm:m<=j+1):part P m j+1=sz P j:=by
 rw [Ah hP hj,Nat.add_comm]
 congr 1
 apply jU;intro c hc;by_cases h:P[c]? =some (j:Int)
 ·have:=(gV hP (dO.2 h)).1
  rw [if_pos ⟨h,by omega⟩,if_pos h]
 ·rw [if_neg (fun e=>h e.1),if_neg h]
theorem FY{n p:Nat}(h:P[n]? =some (p:Int)):part P n p=part P (n+1) p+sz P n:=by
 unfold part;apply FG (k:=n) (List.getElem?_eq_some_iff.1 h).1
 ·intro i _ fG
  by_cases hi:P[i]? =some (p:Int)
  ·by_cases h2:n<=i
   ·rw [if_pos ⟨hi,h2⟩,if_pos ⟨hi,by omega⟩]
   ·rw [if_neg (fun e=>h2 e.2),if_neg (fun e=>by omega)]
  ·rw [if_neg (fun e=>hi e.1),if_neg (fun e=>hi e.1)]
 ·rw [if_pos ⟨h,Nat.le_refl _⟩,if_neg (fun e=>by omega),Nat.zero_add]
theorem Ay{n j:Nat}(h:P[n]? ≠some (j:Int)):part P n j=part P (n+1) j:=by
 unfold part;apply jU;intro i _;by_cases hi:P[i]? =some (j:Int)
 ·have:i≠n:=fun e=>h (e▸hi)
  by_cases h2:n<=i
  ·rw [if_pos ⟨hi,h2⟩,if_pos ⟨hi,by omega⟩]
  ·rw [if_neg (fun e=>h2 e.2),if_neg (fun e=>by omega)]
 ·rw [if_neg (fun e=>hi e.1),if_neg (fun e=>hi e.1)]
noncomputable def ik(P:List Int)(m j:Nat):Nat:=if m<=j then sz P j else part P m j
theorem An(j:Nat)(hj:j<P.length):ik P P.length j=0:=by
 unfold ik;rw [if_neg (by omega),DS]
theorem yj(j:Nat):ik P 0 j=sz P j:=by unfold ik;rw [if_pos (Nat.zero_le _)]
theorem DK(hP:nn P){n:Nat}(hn:n<P.length):ik P (n+1) n+1=sz P n:=by
 unfold ik;rw [if_neg (by omega),tW hP hn (Nat.le_refl _)]
theorem DJ(hP:nn P){n p:Nat}(h:P[n]? =some (p:Int))(j:Nat):ik P n j=if j=p then ik P (n+1) p+sz P n else if j=n then sz P n else ik P (n+1) j:=by
 have hp:=(gV hP (dO.2 h)).1;unfold ik;by_cases e:j=p
 ·subst e
  rw [if_neg (by omega),if_pos rfl,if_neg (by omega),FY h]
 ·rw [if_neg e]
  by_cases e2:j=n
  ·subst e2;rw [if_pos (Nat.le_refl _),if_pos rfl]
  ·rw [if_neg e2]
   by_cases h2:n<=j
   ·rw [if_pos h2,if_pos (by omega)]
   ·rw [if_neg h2,if_neg (by omega)]
    exact Ay (fun h'=>e (by rw [h]at h';have:=Option.some.inj h';omega))
theorem DL(j:Nat):ik P 0 j=if j=0 then sz P 0 else ik P 1 j:=by
 rw [yj];unfold ik;by_cases e:j=0
 ·subst e;rw [if_pos rfl]
 ·rw [if_neg e,if_pos (by omega)]
theorem Cg(hP:nn P)(m j:Nat)(hj:j<P.length):ik P m j<=P.length:=by
 have h1:=vP (P:=P) j;unfold ik;split
 ·exact h1
 ·rename_i h
  have:=tW hP (m:=m) hj;by_cases h2:m<=j+1
  ·have:=this h2;omega
  ·
   have h3:part P m j<=part P 0 j:=by
    unfold part;have: ∀(f g:Nat->Nat) (n:Nat),(∀i,i<n->f i<=g i)->iF f n<=iF g n:=by
     intro f g n h
     induction n with
     |zero=>simp [iF]
     |succ n ih=>
      simp only [iF];have:=ih (fun i hi=>h i (by omega));have:=h n (by omega);omega
    apply this;intro i _;split
    ·rename_i h4;rw [if_pos ⟨h4.1,Nat.zero_le _⟩];exact Nat.le_refl _
    ·exact Nat.zero_le _
   have:=tW hP (m:=0) hj (by omega);omega
end
theorem vj{α:Type}(f g:Nat->α){n k:Nat}{v:α}(hk:k<n)(h: ∀i,i<n->g i=if i=k then v else f i):((List.range n).map f).set k v=(List.range n).map g:=by
 apply List.ext_getElem?;intro i;rw [List.getElem?_set];by_cases e:k=i
 ·subst e
  rw [if_pos rfl,if_pos (by simpa using hk)];simp [hk,h k hk]
 ·rw [if_neg e]
  rcases Nat.lt_or_ge i n with hi|hi
  ·have:=h i hi
   rw [if_neg (fun x=>e x.symm)]at this;simp [hi,this]
  ·rw [List.getElem?_eq_none (by simpa using hi),List.getElem?_eq_none (by simpa using hi)]
end Go.Proofs.YtnboahlopghcjaaGreatDoor.Tr
namespace Go.bV
open Go.RowKit
theorem aS{σ:Type}(e:σ->Env)(I:σ->World->Prop)(μ:σ->World->Nat)(s:σ)(w:World)(Q:aO)(l:Nat)(ρ:Env)(w':World):bJ e I μ s w Q (.exit l) ρ w'=Q (.exit l) ρ w':=rfl
def zeroOf(P:Program)(e:TypeId):Option (Array Value):=
 match P.info? e with
 |some i=>match i.zero with
  |some z=>some z.cells
  |none=>none
 |none=>none
theorem Gb{P:Program}{t e:TypeId}{bytes:Nat}(T:xP P t e 1 bytes){z:Value}(hz:zeroOf P e=some #[z]){n:Nat}(hn:n<=maxLen)(hb:bytes*n<=281474976710656)(w:World):
 ∃w',(Instr.makeSlice t (.int .i64 (n:Int)) (.int .i64 (n:Int))).run P w=.ok (.slice (some ⟨w.heap.size,0,none⟩) n n) w'/\
  Row w' w.heap.size e 1 (some ⟨w.heap.size,0,none⟩) n n (List.replicate n z)/\Kept Nil w w':=by
 obtain⟨i,z',hi,xH,hs,Iz,CJ⟩:=T.inf;have hc:z'.cells= #[z]:=by
  unfold zeroOf at hz;simp only [hi,xH]at hz;exact Option.some.inj hz
 obtain⟨w',hr,e8,hg⟩:=run_make_full (P:=P) (w:=w) w.heap.size t e i z' 1 T.og hi xH hs .i64 .i64 n (by rw [Iz];exact hb) hn (Nat.le_refl _);rw [hc,Nat.mul_one,toList_madeCells_one]at e8;exact⟨w',hr,e8,(Kept.refl Nil w).grown hg (fun k hk=>by cases hk)⟩
end Go.bV
namespace Go.Proofs.YtnboahlopghcjaaGreatDoor.Tr
open Go.Proofs.Tryz
open Go Go.bV Go.RowKit
section
variable{w w':World}{S:Nat->Prop}{g:Nat}{T:List Nd}{d:Int}{K:Value->World->Prop}
theorem TV.bound{b c:Nat}{L:List (Nd×Value)}(h:TV w S g T d b c L):TV w (fun k=>S k/\k<w.heap.size) g T d b c L:= {
 top:=h.top
 fst:=h.fst
 row:=h.row
 p9:=fun i p hp=>let ⟨A,m,h1⟩:=h.p9 i p hp;⟨A,m,h1.val,h1.row,fun k e=>⟨h1.jM k e,let ⟨_,_,hc⟩:=Row.bC h1.row e;aQ hc⟩⟩
 apart:=h.apart
 gS:=⟨h.gS,aQ h.top⟩
 fQ:=⟨h.fQ,let ⟨_,hc⟩:=h.uY;aQ hc⟩}
theorem TV.mono{S':Nat->Prop}{b c:Nat}{L:List (Nd×Value)}(h:TV w S g T d b c L)(hs: ∀k,S k->S' k):TV w S' g T d b c L:= {
 top:=h.top
 fst:=h.fst
 row:=h.row
 p9:=fun i p hp=>let ⟨A,m,h1⟩:=h.p9 i p hp;⟨A,m,h1.val,h1.row,fun k e=>hs k (h1.jM k e)⟩
 apart:=h.apart
 gS:=hs _ h.gS
 fQ:=hs _ h.fQ}
theorem oq.bound(h:oq w S g T d):oq w (fun k=>S k/\k<w.heap.size) g T d:=let ⟨b,c,L,h⟩:=h;⟨b,c,L,h.bound⟩
theorem oq.mono{S':Nat->Prop}(h:oq w S g T d)(hs: ∀k,S k->S' k):oq w S' g T d:=let ⟨b,c,L,h⟩:=h;⟨b,c,L,h.mono hs⟩
def us(f:Nat->Nat)(n:Nat):List Value:=(List.range n).map fun j=>.int .u64 (f j:Int)
theorem ou(f:Nat->Nat){n j:Nat}(hj:j<n):(us f n)[j]? =some (.int .u64 (f j:Int)):=by simp [us,hj]
theorem ot(f:Nat->Nat)(n:Nat):(us f n).length=n:=by simp [us]
theorem wF{f f':Nat->Nat}{n k:Nat}(hk:k<n)(h: ∀i,i<n->i≠k->f' i=f i):(us f n).set k (.int .u64 (f' k:Int))=us f' n:=by
 unfold us;apply vj _ _ hk;intro i hi;by_cases e:i=k
 ·subst e;rw [if_pos rfl]
 ·rw [if_neg e,h i hi e]
theorem QL:xP prog zF iy 1 8:=⟨by kernel_rfl,by kernel_rfl⟩
set_option maxRecDepth 100000 in
theorem Af(h:oq w S g T d)(hP:nn (bP T))(hlen:T.length<=1000000)
 (hK: ∀w' A,Row w' w.heap.size iy 1 A T.length T.length (us (sz (bP T)) T.length)->Kept Nil w w'->K (.slice A T.length T.length) w'):
 bn prog bu.id #[.pointer (some ⟨g,0,none⟩)] w K:=by
 obtain⟨b,c,L,h0⟩:=h;have qp:=eK T;obtain⟨w5,sS,kO,k5⟩:=Gb QL (z:=.int .u64 0) (by kernel_rfl) (n:=T.length) (by unfold maxLen;omega) (by omega) w;refine bu.of (h0.go ⟨_,_,_,w5,sS,?_⟩);have h5:=h0.kept k5;refine h5.go ?_;generalize hA:(⟨w.heap.size,0,none⟩:Addr)=A at*;refine bu.b6 (e:=some A) (i:=T.length) (I:=fun i w'=> ∃m:Nat,i=(T.length:Int)-m/\m<=T.length/\Row w' w.heap.size iy 1 (some A) T.length T.length (us (ik (bP T) m) T.length)/\Kept Nil w w')
  (μ:=fun i _=>((T.length:Int)-i).toNat) (s:=0) ⟨T.length,by omega,Nat.le_refl _,?_,k5⟩ ?_
 ·have:List.replicate T.length (Value.int .u64 0)=us (ik (bP T) T.length) T.length:=by
   apply List.ext_getElem?;intro j;rcases Nat.lt_or_ge j T.length with hj|hj
   ·rw [ou _ hj,<-qp,An j (by omega)]
    simp [qp,hj]
   ·rw [List.getElem?_eq_none (by simpa using hj),List.getElem?_eq_none (by rw [ot];exact hj)]
  rw [<-this];exact kO
 ·rintro i w' ⟨m,rfl,hm,row,kw⟩
  have h':=h0.kept kw;refine Split.dec (fun cI=>?_) (fun gu=>?_)
  ·
   obtain⟨n,rfl⟩: ∃n,m=n+1:=⟨m-1,by omega⟩;have hn:n<T.length:=by omega
   refine h'.go ?_;have ew:IntKind.i64.wrap (IntKind.i64.wrap ((T.length:Int)-1)-((T.length:Int)-((n+1:Nat):Int)))=(n:Int):=by
    rw [gY (x:=(T.length:Int)-1) (by omega) (by omega),gY (by omega) (by omega)];omega
   rw [ew];have hb:0<=(n:Int)/\(n:Int)<(T.length:Int):=⟨by omega,by omega⟩;subst hA;have Tz:n<(us (ik (bP T) (n+1)) T.length).length:=by rw [ot];exact hn
   refine⟨hb,_,by rw [lQ,Int.toNat_natCast,Nat.mul_one];exact Row.cell row (ou _ hn),hb,by rw [lQ,Int.toNat_natCast,Nat.mul_one];exact Row.wr row Tz,?_⟩;intro pU;have e18:pU=w'.setCell ⟨w.heap.size,n,none⟩ (.int .u64 (IntKind.u64.wrap ((ik (bP T) (n+1) n:Int)+1))):=by simp only [pU,lQ,Int.toNat_natCast,Nat.mul_one]
   have adX:=DK hP (n:=n) (by omega);have hle:ik (bP T) (n+1) n<=(bP T).length:=Cg hP _ _ (by omega);have jK:=Row.set row Tz (.int .u64 (IntKind.u64.wrap ((ik (bP T) (n+1) n:Int)+1)));rw [<-e18]at jK;have AM:Kept Nil w pU:=by rw [e18];exact kw.setCell (fun hh=>absurd hh (Nat.lt_irrefl _)) _
   clear_value pU;rw [fp (x:=(ik (bP T) (n+1) n:Int)+1) (by omega) (by omega)]at jK;rw [show(ik (bP T) (n+1) n:Int)+1=((if n=n then sz (bP T) n else ik (bP T) (n+1) n:Nat):Int)from by rw [if_pos rfl];omega,
    wF (f':=fun j=>if j=n then sz (bP T) n else ik (bP T) (n+1) j) hn (fun i _ fG=>by rw [if_neg fG])]at jK
   have h18:=h0.kept AM;obtain⟨nd,fw⟩:=fH hn;obtain⟨v,hv⟩:=h18.at_ fw;refine h18.go ⟨hb,h18.HE hv ?_⟩;have jQ:=kj fw;refine Split.dec (fun hp=>?_) (fun hp=>?_)
   ·
    have Er:0<n:=by
     rcases Nat.eq_zero_or_pos n with rfl|h
     ·rw [hP.root]at jQ;have:=Option.some.inj jQ;omega
     ·exact h
    obtain⟨p,JH,ep⟩:=hP.up n _ Er jQ;rw [ep]at hp⊢;have hpp:(bP T)[n]? =some (p:Int):=by rw [jQ,ep]
    intro Ii;have Nf:Kept Nil w Ii:=AM.drew;have Cl:Row Ii w.heap.size iy 1 (some ⟨w.heap.size,0,none⟩) T.length T.length (us (fun j=>if j=n then sz (bP T) n else ik (bP T) (n+1) j) T.length):=jK;clear_value Ii;have LR:0<=(p:Int)/\(p:Int)<(T.length:Int):=⟨by omega,by omega⟩;have Ty:p<(us (fun j=>if j=n then sz (bP T) n else ik (bP T) (n+1) j) T.length).length:=by rw [ot];omega
    have gp:=ou (fun j=>if j=n then sz (bP T) n else ik (bP T) (n+1) j) (n:=T.length) (j:=p) (by omega);have gn:=ou (fun j=>if j=n then sz (bP T) n else ik (bP T) (n+1) j) (n:=T.length) (j:=n) (by omega);simp only [if_neg (show p≠n by omega)]at gp;simp only [if_pos]at gn;refine⟨LR,_,by rw [lQ,Int.toNat_natCast,Nat.mul_one];exact Row.cell Cl gp,hb,_,by rw [lQ,Int.toNat_natCast,Nat.mul_one];exact Row.cell Cl gn,LR,by rw [lQ,Int.toNat_natCast,Nat.mul_one];exact Row.wr Cl Ty,?_⟩;intro vg;have e29:vg=Ii.setCell ⟨w.heap.size,p,none⟩ (.int .u64 (IntKind.u64.wrap ((ik (bP T) (n+1) p:Int)+(sz (bP T) n:Int)))):=by simp only [vg,lQ,Int.toNat_natCast,Nat.mul_one]
    have FT:=Row.set Cl Ty (.int .u64 (IntKind.u64.wrap ((ik (bP T) (n+1) p:Int)+(sz (bP T) n:Int))));rw [<-e29]at FT;have Jr:Kept Nil w vg:=by rw [e29];exact Nf.setCell (fun hh=>absurd hh (Nat.lt_irrefl _)) _
    clear_value vg;have aif:ik (bP T) (n+1) p<=(bP T).length:=Cg hP _ _ (by omega);have aie:sz (bP T) n<=(bP T).length:=vP _;have om:=DJ hP hpp;have yX:=om p;rw [if_pos rfl]at yX;rw [fp (x:=(ik (bP T) (n+1) p:Int)+(sz (bP T) n:Int)) (by omega) (by omega),
     show(ik (bP T) (n+1) p:Int)+(sz (bP T) n:Int)=(ik (bP T) n p:Int)from by omega,
     wF (f':=ik (bP T) n) (by omega) (fun i _ fG=>by rw [om i,if_neg fG])]at FT
    rw [gY (x:=(T.length:Int)-((n+1:Nat):Int)+1) (by omega) (by omega)];exact⟨_,rfl,⟨n,by omega,by omega,FT,Jr⟩,by simp only;omega⟩
   ·
    have Er:n=0:=by
     rcases Nat.eq_zero_or_pos n with h|h
     ·exact h
     ·obtain⟨p,_,ep⟩:=hP.up n _ h jQ
      omega
    subst Er;have:us (fun j=>if j=0 then sz (bP T) 0 else ik (bP T) (0+1) j) T.length=us (ik (bP T) 0) T.length:=by
     congr 1
     funext j
     rw [DL]
    rw [this]at jK;rw [gY (x:=(T.length:Int)-((0+1:Nat):Int)+1) (by omega) (by omega)];exact⟨_,rfl,⟨0,by omega,by omega,jK,AM⟩,by simp only;omega⟩
  ·have:m=0:=by omega
   subst this;rw [aS,bu.cX];refine hK w' (some A) ?_ kw;have e:ik (bP T) 0=sz (bP T):=funext yj;rw [e]at row;exact row
end
end Go.Proofs.YtnboahlopghcjaaGreatDoor.Tr
namespace Go.Proofs.YtnboahlopghcjaaGreatDoor.Tr
open Go.Proofs.Tryz
open Go Go.bV Go.RowKit
section
variable{w:World}{K:Value->World->Prop}
theorem bn.yx{f:FuncId}{args:Array Value}{v:Value}(h:Calls prog f args w fun e w'=>e=.returned v/\w'=w)(hK:K v w):bn prog f args w K:=
 h.mono fun e w' ⟨he,hw⟩=>⟨v,he,by rw [hw];exact hK⟩
theorem vC(x y:Nat)(hx:x<18446744073709551616)(hy:y<18446744073709551616)
 (hK:K (.tuple #[.int .u64 ((x*y/18446744073709551616:Nat):Int),.int .u64 ((x*y%18446744073709551616:Nat):Int)]) w):
 bn prog bits_Mul64.id #[.int .u64 x,.int .u64 y] w K:=bn.yx (Any.bits_Mul64 Tryz.I9 x y hx hy w) hK
theorem vD(x:Nat)(hx:x<18446744073709551616)(hK:K (.int .i64 (Lib.bitLen x)) w):bn prog bits_Len64.id #[.int .u64 x] w K:=
 bn.yx (Any.bits_Len64 Tryz.Ja x w (by omega) (by omega)) hK
end
theorem o7: ∀(f x:Nat),x<2 ^ f->x<2 ^ (Lib.bitLenAux f x)/\(x≠0->2 ^ (Lib.bitLenAux f x)<=2*x)
 |0,x,h=>by simp at h;subst h;simp [Lib.bitLenAux]
 |f+1,x,h=>by
  unfold Lib.bitLenAux;by_cases e:x=0
  ·simp [e]
  ·rw [if_neg e]
   have ih:=o7 f (x/2) (by rw [Nat.pow_succ]at h;omega);rw [Nat.pow_add,Nat.pow_one];refine⟨by omega,fun _=>?_⟩;by_cases e2:x/2=0
   ·have:x=1:=by omega
    subst this;cases f<;>simp [Lib.bitLenAux]
   ·have:=ih.2 e2
    omega
theorem bitLen_spec{y:Nat}(h0:y≠0)(hy:y<18446744073709551616):1<=Lib.bitLen y/\Lib.bitLen y<=64/\9223372036854775808<=y*2 ^ (64-Lib.bitLen y)/\y*2 ^ (64-Lib.bitLen y)<18446744073709551616:=by
 have hs:=o7 64 y (by omega);have hle:=Lib.bitLenAux_le 64 y 64 (by omega)
 change Lib.bitLen y<=64 at hle
 change y<2 ^ (Lib.bitLen y)/\(y≠0->2 ^ (Lib.bitLen y)<=2*y)at hs
 have AU:=hs.2 h0;have hp:2 ^ Lib.bitLen y*2 ^ (64-Lib.bitLen y)=18446744073709551616:=by
  rw [<-Nat.pow_add,show Lib.bitLen y+(64-Lib.bitLen y)=64 by omega]
 have ja:0<2 ^ (64-Lib.bitLen y):=Nat.pow_pos (by omega);refine⟨?_,hle,?_,?_⟩
 ·rcases Nat.eq_zero_or_pos (Lib.bitLen y)with e|e
  ·rw [e]at hs;simp at hs;omega
  ·exact e
 ·have:=Nat.mul_le_mul_right (2 ^ (64-Lib.bitLen y)) AU
  rw [hp,Nat.mul_assoc]at this;omega
 ·rw [<-hp]
  exact Nat.mul_lt_mul_of_pos_right hs.1 ja
section
variable{Y n1 n0 u u1 q r:Nat}
theorem HK(hY:Y=n1*4294967296+n0):q*Y=q*n1*4294967296+q*n0:=by rw [hY,Nat.mul_add,Nat.mul_assoc]
theorem dg1(hY:Y=n1*4294967296+n0)(hq:q*n1+r=u)(h:q*n0<=4294967296*r+u1):q*Y<=u*4294967296+u1:=by rw [HK hY];omega
theorem dg2(hY:Y=n1*4294967296+n0)(hq:q*n1+r=u)(h:4294967296*r+u1<q*n0):u*4294967296+u1<q*Y:=by rw [HK hY];omega
theorem dg3(hu:u<Y)(Iq:u1<4294967296)(h:4294967296<=q):u*4294967296+u1<q*Y:=by
 have:=Nat.mul_le_mul_right Y h;omega
theorem dg4(hY:Y=n1*4294967296+n0)(Er:n0<4294967296)(hu:u<Y)(hq:q*n1+r=u)(hr:4294967296<=r):q*Y<=u*4294967296+u1:=by
 have h1:q*n1<4294967296*n1:=by omega
 have h2:q<4294967296:=Nat.lt_of_mul_lt_mul_right h1;have h3:q*n0<=4294967296*4294967296:=Nat.mul_le_mul (by omega) (by omega);rw [HK hY];omega
theorem Mc(hu:u<Y)(Iq:u1<4294967296)(h:q*Y<=u*4294967296+u1):q<4294967296:=by
 rcases Nat.lt_or_ge q 4294967296 with h'|h'
 ·exact h'
 ·have:=dg3 hu Iq h';omega
theorem zr(Hb:2147483648<=n1)(hu:u<18446744073709551616)(hq:q*n1+r=u):q<8589934592:=by
 rcases Nat.lt_or_ge q 8589934592 with h|h
 ·exact h
 ·have:=Nat.mul_le_mul h Hb
  omega
end
end Go.Proofs.YtnboahlopghcjaaGreatDoor.Tr
namespace Go.Proofs.YtnboahlopghcjaaGreatDoor.Tr
open Go.Proofs.Tryz
open Go Go.bV Go.RowKit
theorem EI{Y n1 n0 u u1:Nat}{quo rem s Fx QG:Int}{Q:aO}{w:World}(hY:Y=n1*4294967296+n0)(Er:n0<4294967296)(Hb:2147483648<=n1)(JN:n1<4294967296)(hu:u<Y)(hY':Y<18446744073709551616)(Iq:u1<4294967296)
 (hex: ∀q r:Nat,q*Y<=u*4294967296+u1->u*4294967296+u1<(q+1)*Y->Q (.exit 0) (a8.e1 (Y:Int) quo rem s n1 n0 Fx u1 QG ((q:Int),(r:Int))) w)
 (q0 r0:Nat) (h0:q0*n1+r0=u) (hX0:u*4294967296+u1<(q0+1)*Y) (rP:r0<4294967296):
 Holds none [] prog 135 (.loop (lB (bB (sL (sR (sR (sR (sR (sR (sR (sR (sR (sR (sR (sR (sR (sR (sR (body a8.fn))))))))))))))))))) Q (a8.e1 (Y:Int) quo rem s n1 n0 Fx u1 QG ((q0:Int),(r0:Int))) w:=by
 refine a8.b6 (I:=fun s w'=>w'=w/\ ∃q r:Nat,s=((q:Int),(r:Int))/\q*n1+r=u/\u*4294967296+u1<(q+1)*Y/\r<4294967296)
  (μ:=fun s _=>s.1.toNat) (s:=((q0:Int),(r0:Int))) ⟨rfl,q0,r0,rfl,h0,hX0,rP⟩ ?_
 rintro s w' ⟨hw,q,r,rfl,hq,hX,hr⟩;subst hw;have ZB:=zr Hb (by omega) hq;have down:u*4294967296+u1<q*Y-> ∃q' r':Nat,IntKind.u64.wrap ((q:Int)-1)=(q':Int)/\IntKind.u64.wrap ((r:Int)+(n1:Int))=(r':Int)/\q'*n1+r'=u/\u*4294967296+u1<(q'+1)*Y/\q'<q:=by
  intro h;have Lx:1<=q:=by
   rcases Nat.eq_zero_or_pos q with e|e
   ·rw [e]at h;omega
   ·exact e
  refine⟨q-1,r+n1,?_,?_,?_,?_,by omega⟩
  ·rw [fp (by omega) (by omega)];omega
  ·rw [fp (by omega) (by omega)];omega
  ·have:q*n1=(q-1)*n1+n1:=by
    obtain⟨k,rfl⟩: ∃k,q=k+1:=⟨q-1,by omega⟩;rw [Nat.succ_mul];rfl
   omega
  ·rwa [show q-1+1=q by omega]
 have step: ∀q' r':Nat,q'*n1+r'=u->u*4294967296+u1<(q'+1)*Y->q'<q-> ∀b:Bool,b=decide ((r':Int)>=4294967296)->
  Split b (Q (.exit 0) (a8.e1 (Y:Int) quo rem s n1 n0 Fx u1 QG ((q':Int),(r':Int))) w') (bJ (a8.e1 (Y:Int) quo rem s n1 n0 Fx u1 QG) (fun s lW=>lW=w'/\ ∃q r:Nat,s=((q:Int),(r:Int))/\q*n1+r=u/\u*4294967296+u1<(q+1)*Y/\r<4294967296) (fun s _=>s.1.toNat) ((q:Int),(r:Int)) w' Q .normal (a8.e1 (Y:Int) quo rem s n1 n0 Fx u1 QG ((q':Int),(r':Int))) w'):=by
  intro q' r' h1 h2 h3 b hb;subst hb;refine Split.dec (fun gu=>?_) (fun cI=>?_)
  ·exact hex q' r' (dg4 hY Er hu h1 (by omega)) h2
  ·exact⟨_,rfl,⟨rfl,q',r',rfl,h1,h2,by omega⟩,by simp only;omega⟩
 refine Split.dec (fun gu=>?_) (fun cI=>?_)
 ·obtain⟨q',r',eq,er,h1,h2,h3⟩:=down (dg3 hu Iq (by simp only at gu;omega))
  simp only [eq,er];exact step q' r' h1 h2 h3 _ rfl
 ·simp only at cI
  have hqn:q*n0<18446744073709551616:=by
   have:q*n0<=4294967295*4294967295:=Nat.mul_le_mul (by omega) (by omega);omega
  have e1:IntKind.u64.wrap ((q:Int)*(n0:Int))=((q*n0:Nat):Int):=by rw [<-Int.natCast_mul,fp (by omega) (by omega)]
  have e2:IntKind.u64.wrap (IntKind.u64.wrap (4294967296*(r:Int))+(u1:Int))=((4294967296*r+u1:Nat):Int):=by
   rw [fp (x:=4294967296*(r:Int)) (by omega) (by omega),fp (by omega) (by omega)];omega
  simp only [e1,e2];refine Split.dec (fun wo=>?_) (fun hle=>?_)
  ·obtain⟨q',r',eq,er,h1,h2,h3⟩:=down (dg2 hY hq (by omega))
   simp only [eq,er];exact step q' r' h1 h2 h3 _ rfl
  ·exact hex q r (dg1 hY hq (by omega)) hX
theorem EH{Y n1 n0 u u1:Nat}{quo rem s q1 Fy:Int}{Q:aO}{w:World}(hY:Y=n1*4294967296+n0)(Er:n0<4294967296)(Hb:2147483648<=n1)(JN:n1<4294967296)(hu:u<Y)(hY':Y<18446744073709551616)(Iq:u1<4294967296)
 (hex: ∀q r:Nat,q*Y<=u*4294967296+u1->u*4294967296+u1<(q+1)*Y->Q (.exit 2) (a8.e2 (Y:Int) quo rem s n1 n0 u1 q1 Fy ((r:Int),(q:Int))) w)
 (q0 r0:Nat) (h0:q0*n1+r0=u) (hX0:u*4294967296+u1<(q0+1)*Y) (rP:r0<4294967296):
 Holds none [] prog 135 (.loop (lB (bB (sL (sR (sR (sR (sR (sR (sR (sR (sR (sR (sR (sR (sR (sR (sR (sR (sR (sR (sR (body a8.fn))))))))))))))))))))))) Q (a8.e2 (Y:Int) quo rem s n1 n0 u1 q1 Fy ((r0:Int),(q0:Int))) w:=by
 refine a8.gD (I:=fun s w'=>w'=w/\ ∃q r:Nat,s=((r:Int),(q:Int))/\q*n1+r=u/\u*4294967296+u1<(q+1)*Y/\r<4294967296)
  (μ:=fun s _=>s.2.toNat) (s:=((r0:Int),(q0:Int))) ⟨rfl,q0,r0,rfl,h0,hX0,rP⟩ ?_
 rintro s w' ⟨hw,q,r,rfl,hq,hX,hr⟩;subst hw;have ZB:=zr Hb (by omega) hq;have down:u*4294967296+u1<q*Y-> ∃q' r':Nat,IntKind.u64.wrap ((q:Int)-1)=(q':Int)/\IntKind.u64.wrap ((r:Int)+(n1:Int))=(r':Int)/\q'*n1+r'=u/\u*4294967296+u1<(q'+1)*Y/\q'<q:=by
  intro h;have Lx:1<=q:=by
   rcases Nat.eq_zero_or_pos q with e|e
   ·rw [e]at h;omega
   ·exact e
  refine⟨q-1,r+n1,?_,?_,?_,?_,by omega⟩
  ·rw [fp (by omega) (by omega)];omega
  ·rw [fp (by omega) (by omega)];omega
  ·have:q*n1=(q-1)*n1+n1:=by
    obtain⟨k,rfl⟩: ∃k,q=k+1:=⟨q-1,by omega⟩;rw [Nat.succ_mul];rfl
   omega
  ·rwa [show q-1+1=q by omega]
 have step: ∀q' r':Nat,q'*n1+r'=u->u*4294967296+u1<(q'+1)*Y->q'<q-> ∀b:Bool,b=decide ((r':Int)>=4294967296)->
  Split b (Q (.exit 2) (a8.e2 (Y:Int) quo rem s n1 n0 u1 q1 Fy ((r':Int),(q':Int))) w') (bJ (a8.e2 (Y:Int) quo rem s n1 n0 u1 q1 Fy) (fun s lW=>lW=w'/\ ∃q r:Nat,s=((r:Int),(q:Int))/\q*n1+r=u/\u*4294967296+u1<(q+1)*Y/\r<4294967296) (fun s _=>s.2.toNat) ((r:Int),(q:Int)) w' Q .normal (a8.e2 (Y:Int) quo rem s n1 n0 u1 q1 Fy ((r':Int),(q':Int))) w'):=by
  intro q' r' h1 h2 h3 b hb;subst hb;refine Split.dec (fun gu=>?_) (fun cI=>?_)
  ·exact hex q' r' (dg4 hY Er hu h1 (by omega)) h2
  ·exact⟨_,rfl,⟨rfl,q',r',rfl,h1,h2,by omega⟩,by simp only;omega⟩
 refine Split.dec (fun gu=>?_) (fun cI=>?_)
 ·obtain⟨q',r',eq,er,h1,h2,h3⟩:=down (dg3 hu Iq (by simp only at gu;omega))
  simp only [eq,er];exact step q' r' h1 h2 h3 _ rfl
 ·simp only at cI
  have hqn:q*n0<18446744073709551616:=by
   have:q*n0<=4294967295*4294967295:=Nat.mul_le_mul (by omega) (by omega);omega
  have e1:IntKind.u64.wrap ((q:Int)*(n0:Int))=((q*n0:Nat):Int):=by rw [<-Int.natCast_mul,fp (by omega) (by omega)]
  have e2:IntKind.u64.wrap (IntKind.u64.wrap (4294967296*(r:Int))+(u1:Int))=((4294967296*r+u1:Nat):Int):=by
   rw [fp (x:=4294967296*(r:Int)) (by omega) (by omega),fp (by omega) (by omega)];omega
  simp only [e1,e2];refine Split.dec (fun wo=>?_) (fun hle=>?_)
  ·obtain⟨q',r',eq,er,h1,h2,h3⟩:=down (dg2 hY hq (by omega))
   simp only [eq,er];exact step q' r' h1 h2 h3 _ rfl
  ·exact hex q r (dg1 hY hq (by omega)) hX
end Go.Proofs.YtnboahlopghcjaaGreatDoor.Tr
namespace Go.Proofs.YtnboahlopghcjaaGreatDoor.Tr
open Go.Proofs.Tryz
open Go Go.bV Go.RowKit
theorem VF(a:Nat)(ha:a<18446744073709551616):IntKind.u64.wrap ((BitVec.ofInt 64 (a:Int)&&& BitVec.ofInt 64 (4294967295:Int)).toNat:Int)=((a%4294967296:Nat):Int):=by
 have h:=bits_and_u64_nat a 4294967295 ha (by omega);have e:a&&& 4294967295=a%4294967296:=Nat.and_two_pow_sub_one_eq_mod a 32;rw [e]at h;exact h
theorem orN(a b s:Nat)(ha:a*2 ^ s<18446744073709551616)(hb:b<2 ^ s)(vA:b<18446744073709551616):
 IntKind.u64.wrap ((BitVec.ofInt 64 ((a*2 ^ s:Nat):Int)|||BitVec.ofInt 64 (b:Int)).toNat:Int)=((a*2 ^ s+b:Nat):Int):=by
 have h:=bits_or_u64_nat (a*2 ^ s) b ha vA;rw [Nat.mul_comm,<-Nat.two_pow_add_eq_or_of_lt hb,Nat.mul_comm]at h;exact h
theorem QO(a k:Nat):Int.fdiv (a:Int) (2 ^ k)=((a/2 ^ k:Nat):Int):=by
 rw [Int.fdiv_eq_ediv_of_nonneg _ (by exact Int.le_of_lt (Int.pow_pos (by omega)))];rw [Int.natCast_ediv,Int.natCast_pow];rfl
theorem XE(a k:Nat):(a:Int)*2 ^ k=((a*2 ^ k:Nat):Int):=by rw [Int.natCast_mul,Int.natCast_pow];rfl
theorem abR{N u L u1 u0 v a b:Nat}(hN:N=u*18446744073709551616+L)(hL:L=u1*4294967296+u0)(hv:u*4294967296+u1-a=v)(ha:a<=u*4294967296+u1)(hb:b<=v*4294967296+u0):a*4294967296+b<=N:=by omega
theorem abQ{N u L u1 u0 v a b:Nat}(hN:N=u*18446744073709551616+L)(hL:L=u1*4294967296+u0)(hv:u*4294967296+u1-a=v)(ha:a<=u*4294967296+u1)(hb:v*4294967296+u0<b):N<a*4294967296+b:=by omega
section
variable{w:World}{K:Value->World->Prop}
theorem nA(x:Nat)(hx:x<18446744073709551616)(hK:K (.int .i64 ((64-Lib.bitLen x:Nat):Int)) w):bn prog bits_LeadingZeros64.id #[.int .u64 x] w K:=by
 refine bits_LeadingZeros64.of (vD x hx ⟨_,rfl,?_⟩);have hle:=Lib.bitLen_le x 64 (by omega) (by omega)
 rwa [gY (by omega) (by omega),show(64:Int)-(Lib.bitLen x:Int)=((64-Lib.bitLen x:Nat):Int)by omega]
theorem vE(hi lo y:Nat)(Wy:lo<18446744073709551616)(hy:y<18446744073709551616)(hhi:hi<y)
 (hK: ∀r w',Kept Nil w w'->K (.tuple #[.int .u64 (((hi*18446744073709551616+lo)/y:Nat):Int),.int .u64 r]) w'):
 bn prog a8.id #[.int .u64 hi,.int .u64 lo,.int .u64 y] w K:=by
 refine a8.of (Split.no (beq_eq_false_iff_ne.2 (by omega)) (Split.no (decide_eq_false (by omega)) ?_));by_cases h0:hi=0
 ·subst h0
  refine Split.yes rfl ?_;intro w6;refine⟨by omega,by omega,?_⟩;have e:IntKind.u64.wrap ((lo:Int).tdiv (y:Int))=(((0*18446744073709551616+lo)/y:Nat):Int):=by
   rw [Int.tdiv_eq_ediv_of_nonneg (by omega),Nat.zero_mul,Nat.zero_add,<-Int.natCast_ediv];have:=Nat.div_le_self lo y;generalize lo/y=z at*;exact fp (by omega) (by omega)
  rw [e];exact hK _ w6 (Kept.refl Nil w).drew
 ·refine Split.no (beq_eq_false_iff_ne.2 (by omega)) (nA y hy ⟨_,rfl,?_⟩)
  obtain⟨xM,aa6,hY1,hY2⟩:=bitLen_spec (y:=y) (by omega) hy;have hs:64-Lib.bitLen y<64:=by omega
  generalize 64-Lib.bitLen y=s at*;have eS:IntKind.u64.wrap (s:Int)=(s:Int):=fp (by omega) (by omega);have eS2:IntKind.u64.wrap ((64:Int)-(s:Int))=((64-s:Nat):Int):=by rw [fp (by omega) (by omega)];omega
  have em1:min s 64=s:=by omega
  have em2:min (64-s) 64=64-s:=by omega
  have em3:min (32:Int).toNat 64=32:=rfl;have P5:2 ^ (64-s)*2 ^ s=18446744073709551616:=by rw [<-Nat.pow_add,show 64-s+s=64 by omega]
  have ja:0<2 ^ s:=Nat.pow_pos (by omega);have SL:0<2 ^ (64-s):=Nat.pow_pos (by omega);simp only [eS,eS2,Int.toNat_natCast,em1,em2,em3,XE];generalize hYd:y*2 ^ s=Y at*;have hhs:hi*2 ^ s<18446744073709551616:=by
   have:hi*2 ^ s<y*2 ^ s:=Nat.mul_lt_mul_of_pos_right hhi ja;omega
  have hlq:lo/2 ^ (64-s)<2 ^ s:=by
   rw [Nat.div_lt_iff_lt_mul SL,Nat.mul_comm,P5];exact Wy
  have Z9:lo/2 ^ (64-s)<18446744073709551616:=Nat.lt_of_le_of_lt (Nat.div_le_self _ _) Wy;have eY:IntKind.u64.wrap (Y:Int)=(Y:Int):=fp (by omega) (by omega);have eH:IntKind.u64.wrap ((hi*2 ^ s:Nat):Int)=((hi*2 ^ s:Nat):Int):=fp (by omega) (by omega);have eL:IntKind.u64.wrap ((lo*2 ^ s:Nat):Int)=((lo*2 ^ s%18446744073709551616:Nat):Int):=by rw [IntKind.wrap_u64];omega
  have e32: ∀a:Nat,Int.fdiv (a:Int) (2 ^ 32)=((a/4294967296:Nat):Int):=fun a=>QO a 32;simp only [eY,eH,eL,e32,QO lo,orN hi _ s hhs hlq Z9,VF Y (by omega),VF _ (Nat.mod_lt (lo*2 ^ s) (by omega:18446744073709551616>0))];have hN:(hi*18446744073709551616+lo)*2 ^ s=(hi*2 ^ s+lo/2 ^ (64-s))*18446744073709551616+lo*2 ^ s%18446744073709551616:=by
   have h1:lo*2 ^ s/18446744073709551616=lo/2 ^ (64-s):=by
    rw [<-P5,Nat.mul_div_mul_right _ _ ja]
   have h2:=Nat.div_add_mod (lo*2 ^ s) 18446744073709551616;rw [h1]at h2;rw [Nat.add_mul,Nat.mul_right_comm];omega
  have ai8:(hi*18446744073709551616+lo)*2 ^ s<Y*18446744073709551616:=by
   have h1:hi*18446744073709551616+lo<y*18446744073709551616:=by omega
   have:=Nat.mul_lt_mul_of_pos_right h1 ja;rw [Nat.mul_right_comm,hYd]at this;exact this
  have Lw:(hi*18446744073709551616+lo)*2 ^ s/Y=(hi*18446744073709551616+lo)/y:=by rw [<-hYd,Nat.mul_div_mul_right _ _ ja]
  rw [<-Lw]at hK;clear Lw;generalize (hi*18446744073709551616+lo)*2 ^ s=N at*;have hL:lo*2 ^ s%18446744073709551616<18446744073709551616:=Nat.mod_lt _ (by omega);generalize lo*2 ^ s%18446744073709551616=L at*;generalize hi*2 ^ s+lo/2 ^ (64-s)=u at*;have hu:u<Y:=by omega
  have Hb:2147483648<=Y/4294967296:=by omega
  have JN:Y/4294967296<4294967296:=by omega
  have Er:Y%4294967296<4294967296:=by omega
  have hYe:Y=Y/4294967296*4294967296+Y%4294967296:=by omega
  have Iq:L/4294967296<4294967296:=by omega
  have Y7:L%4294967296<4294967296:=by omega
  have hLe:L=L/4294967296*4294967296+L%4294967296:=by omega
  generalize Y/4294967296=n1 at*;generalize Y%4294967296=n0 at*;generalize L/4294967296=u1 at*;generalize L%4294967296=u0 at*;have Ma: ∀v:Nat,v<18446744073709551616->IntKind.u64.wrap ((v:Int).tdiv (n1:Int))=((v/n1:Nat):Int)/\IntKind.u64.wrap ((v:Int)-IntKind.u64.wrap (((v/n1:Nat):Int)*(n1:Int)))=((v%n1:Nat):Int)/\v/n1*n1+v%n1=v/\v%n1<n1:=by
   intro v hv;have h1:=Nat.div_le_self v n1;have h2:=Nat.div_add_mod' v n1;refine⟨?_,?_,h2,Nat.mod_lt _ (by omega)⟩
   ·rw [Int.tdiv_eq_ediv_of_nonneg (by omega),<-Int.natCast_ediv]
    generalize v/n1=z at*;exact fp (by omega) (by omega)
   ·rw [<-Int.natCast_mul,fp (x:=((v/n1*n1:Nat):Int)) (by omega) (by omega),fp (by omega) (by omega)]
    omega
  have first: ∀v d:Nat,v<Y->d<4294967296->v*4294967296+d<(v/n1+1)*Y:=by
   intro v d hv hd;have h2:=Nat.div_add_mod' v n1;have h3:=Nat.mod_lt v (show 0<n1 by omega);have h4:v+1<=(v/n1+1)*n1:=by rw [Nat.succ_mul];omega
   have h5:(v+1)*4294967296<=(v/n1+1)*n1*4294967296:=Nat.mul_le_mul_right _ h4;have h6:(v/n1+1)*n1*4294967296<=(v/n1+1)*Y:=by
    have h7:n1*4294967296<=Y:=Nat.le_trans (Nat.le_add_right _ n0) (Nat.le_of_eq hYe.symm);rw [Nat.mul_assoc];exact Nat.mul_le_mul_left _ h7
   omega
  obtain⟨g1,g2,g3,g4⟩:=Ma u (by omega);simp only [g1,g2];refine⟨by omega,by omega,by omega,by omega,by omega,by omega,by omega,?_⟩;refine EI hYe Er Hb JN hu (by omega) Iq ?_ (u/n1) (u%n1) g3 (first u u1 hu Iq) (by omega);intro q r Lx P4;rw [show a8.e1 (Y:Int) 0 0 (s:Int) (n1:Int) (n0:Int) (u:Int) (u1:Int) (u0:Int) ((q:Int),(r:Int))= [(2,.int .u64 (Y:Int)),(6,.int .u64 0),(7,.int .u64 0),(8,.int .u64 (s:Int)),(9,.int .u64 (n1:Int)),(10,.int .u64 (n0:Int)),(11,.int .u64 (u:Int)),(13,.int .u64 (u1:Int)),(14,.int .u64 (u0:Int)),(15,.int .u64 (q:Int)),(16,.int .u64 (r:Int))]from rfl];rw [a8.cX];have hqB:=Mc hu Iq Lx;rw [Nat.succ_mul]at P4;have hp:IntKind.u64.wrap (IntKind.u64.wrap (IntKind.u64.wrap ((u:Int)*4294967296)+(u1:Int))-IntKind.u64.wrap ((q:Int)*(Y:Int)))=((u*4294967296+u1-q*Y:Nat):Int):=by
   rw [<-Int.natCast_mul q Y];simp only [IntKind.wrap_u64];generalize q*Y=p at*;omega
  unfold a8.cJ;simp only [hp];have hv:u*4294967296+u1-q*Y<Y:=by omega
  generalize hvd:u*4294967296+u1-q*Y=v at*;obtain⟨g1',W1,g3',g4'⟩:=Ma v (by omega);simp only [g1',W1];refine⟨by omega,?_⟩;refine EH hYe Er Hb JN hv (by omega) Y7 ?_ (v/n1) (v%n1) g3' (first v u0 hv Y7) (by omega);intro q' r' SJ ZC;rw [show a8.e2 (Y:Int) 0 0 (s:Int) (n1:Int) (n0:Int) (u0:Int) (q:Int) (v:Int) ((r':Int),(q':Int))= [(2,.int .u64 (Y:Int)),(6,.int .u64 0),(7,.int .u64 0),(8,.int .u64 (s:Int)),(9,.int .u64 (n1:Int)),(10,.int .u64 (n0:Int)),(14,.int .u64 (u0:Int)),(15,.int .u64 (q:Int)),(16,.int .u64 (r':Int)),(17,.int .u64 (v:Int)),(18,.int .u64 (q':Int))]from rfl];rw [a8.jC];have ahN:=Mc hv Y7 SJ;refine⟨by omega,?_⟩;have Zi:IntKind.u64.wrap (IntKind.u64.wrap ((q:Int)*4294967296)+(q':Int))=((N/Y:Nat):Int):=by
   rw [fp (x:=(q:Int)*4294967296) (by omega) (by omega),fp (by omega) (by omega)];have:N/Y=q*4294967296+q':=by
    apply Nat.div_eq_of_lt_le
    ·rw [Nat.add_mul,Nat.mul_right_comm]
     exact abR hN hLe hvd Lx SJ
    ·rw [Nat.add_assoc,Nat.add_mul,Nat.mul_right_comm]
     exact abQ hN hLe hvd Lx ZC
   rw [this];omega
  rw [Zi];exact hK _ w (Kept.refl Nil w)
end
end Go.Proofs.YtnboahlopghcjaaGreatDoor.Tr
namespace Go.Proofs.YtnboahlopghcjaaGreatDoor.Tr
open Go.Proofs.Tryz
structure kK(T T':List Nd):Prop where
 len:T'.length=T.length
 at_: ∀(i:Nat) nd,T[i]? =some nd-> ∃nd',T'[i]? =some nd'/\nd'.parent=nd.parent/\nd'.ch=nd.ch
theorem kK.refl(T:List Nd):kK T T:=⟨rfl,fun _ nd h=>⟨nd,h,rfl,rfl⟩⟩
theorem kK.trans{T T' Dc:List Nd}(h:kK T T')(h':kK T' Dc):kK T Dc:=⟨h'.len.trans h.len,fun i nd hi=>by
 obtain⟨nd',h1,h2,h3⟩:=h.at_ i nd hi;obtain⟨X1,g1,g2,g3⟩:=h'.at_ i nd' h1;exact⟨X1,g1,g2.trans h2,g3.trans h3⟩⟩
theorem kK.back{T T':List Nd}(h:kK T T'){i:Nat}{nd':Nd}(hi:T'[i]? =some nd'): ∃nd,T[i]? =some nd/\nd'.parent=nd.parent/\nd'.ch=nd.ch:=by
 have cI:=(List.getElem?_eq_some_iff.1 hi).1;obtain⟨nd,fw⟩:=fH (T:=T) (i:=i) (by rw [<-h.len];exact cI);obtain⟨x,h1,h2,h3⟩:=h.at_ i nd fw;rw [hi]at h1;cases h1;exact⟨nd,fw,h2,h3⟩
theorem kK.bP{T T':List Nd}(h:kK T T'):bP T'=bP T:=by
 apply List.ext_getElem?;intro i;rcases Nat.lt_or_ge i T.length with hi|hi
 ·obtain⟨nd,fw⟩:=fH hi
  obtain⟨nd',h1,h2,_⟩:=h.at_ i nd fw;rw [kj fw,kj h1,h2]
 ·rw [List.getElem?_eq_none (by rw [eK,h.len];exact hi),List.getElem?_eq_none (by rw [eK];exact hi)]
theorem kK.shape{T T':List Nd}(h:kK T T')(hS:Shape T):Shape T':=⟨by rw [h.bP];exact hS.par,fun i nd' hi=>by
 obtain⟨nd,fw,_,h3⟩:=h.back hi;rw [h.bP,h3,hS.ch i nd fw]⟩
theorem kK.set{T:List Nd}{i:Nat}{nd nd':Nd}(hi:T[i]? =some nd)(h1:nd'.parent=nd.parent)(h2:nd'.ch=nd.ch):kK T (T.set i nd'):=
 ⟨by simp,fun j x hj=>by
   by_cases e:i=j
   ·subst e
    rw [hi]at hj;cases hj;exact⟨nd',ir hi,h1,h2⟩
   ·exact⟨x,ny hj e,rfl,rfl⟩⟩
theorem wv{T:List Nd}{n p:Nat}{nd pd:Nd}{many:Int}(hn:T[n]? =some nd)(hp:T[p]? =some pd)(fG:n≠p)(i:Nat):
 (uH T n p nd pd many)[i]? =if i=p then some {pd with free:=pd.free+many}else if i=n then some {nd with lo:=pd.free,hi:=pd.free+many-1,free:=pd.free}else T[i]? :=by
 unfold uH;by_cases e:i=p
 ·subst e
  rw [if_pos rfl];exact ir (ny hp fG)
 ·rw [if_neg e,List.getElem?_set_ne (fun h=>e h.symm)]
  by_cases e2:i=n
  ·subst e2
   rw [if_pos rfl];exact ir hn
  ·rw [if_neg e2,List.getElem?_set_ne (fun h=>e2 h.symm)]
theorem uG{T:List Nd}{n p:Nat}{nd pd:Nd}(many:Int)(hn:T[n]? =some nd)(hp:T[p]? =some pd)(fG:n≠p):kK T (uH T n p nd pd many):=
 (kK.set (nd':= {nd with lo:=pd.free,hi:=pd.free+many-1,free:=pd.free}) hn rfl rfl).trans (kK.set (nd:=pd) (nd':= {pd with free:=pd.free+many}) (ny hp fG) rfl rfl)
theorem ya{l:List Nat}(hs:l.Pairwise (· < ·)){k c:Nat}(hc:l[k]? =some c): ∀y,y∈l.take k->y<c:=by
 intro y hy;obtain⟨j,hj⟩:=List.mem_iff_getElem?.1 hy;rw [List.getElem?_take]at hj;split at hj
 ·rename_i cI
  obtain⟨h1,e1⟩:=List.getElem?_eq_some_iff.1 hj;obtain⟨h2,e2⟩:=List.getElem?_eq_some_iff.1 hc;rw [<-e1,<-e2];exact List.pairwise_iff_getElem.1 hs j k h1 h2 cI
 ·cases hj
theorem np{l:List Nat}{k c:Nat}(hc:l[k]? =some c):l.take (k+1)=l.take k++ [c]:=by
 rw [List.take_add_one,hc];rfl
structure pe(P:List Int)(T1:List Nd)(x:Nat)(xd:Nd)(half:Int)(k:Nat)(T':List Nd)(f:Int):Prop where
 ns:kK T1 T'
 here:T'[x]? =some {xd with free:=f}
 rest: ∀y,y≠x->y∉xd.ch.take k->T'[y]? =T1[y]?
 lo:xd.lo+(((xd.ch.take k).map (sz P)).sum:Nat)<=f
 up:(f-xd.lo-(((xd.ch.take k).map (sz P)).sum:Nat))*(sz P x:Int)<=half*(((xd.ch.take k).map (sz P)).sum:Nat)
 p9: ∀c cd,c∈xd.ch.take k->T'[c]? =some cd->xd.lo<=cd.lo/\cd.hi<f/\(sz P c:Int)<=cd.hi-cd.lo+1
 ord: ∀c c' cd uU,c∈xd.ch.take k->c'∈xd.ch.take k->c<c'->T'[c]? =some cd->T'[c']? =some uU->cd.hi<uU.lo
section
variable{P:List Int}{T1 T':List Nd}{x:Nat}{xd:Nd}{half f:Int}{k:Nat}
theorem pe.start(hx:T1[x]? =some xd)(hf:xd.free=xd.lo):pe P T1 x xd half 0 T1 xd.lo:= {
 ns:=kK.refl _
 here:=by obtain⟨a,b,c,d,e⟩:=xd;simp only at hf;subst hf;exact hx
 rest:=fun _ _ _=>rfl
 lo:=by simp
 up:=by simp
 p9:=fun c cd hc=>by simp at hc
 ord:=fun c c' cd uU hc=>by simp at hc}
theorem pe.bound(h:pe P T1 x xd half k T' f)(hh:0<=half)(P0:1<=sz P x)(GR:((xd.ch.take k).map (sz P)).sum<=sz P x):f<=xd.lo+(((xd.ch.take k).map (sz P)).sum:Nat)+half:=by
 have h1:half*(((xd.ch.take k).map (sz P)).sum:Nat)<=half*(sz P x:Int):=Int.mul_le_mul_of_nonneg_left (by omega) hh;have h2:=Int.le_trans h.up h1;have h3:=Int.le_of_mul_le_mul_right h2 (by omega);omega
theorem pe.step(h:pe P T1 x xd half k T' f)(hs:xd.ch.Pairwise (· < ·)){c:Nat}(hx: ∀y,y∈xd.ch->x<y)(hc:xd.ch[k]? =some c){cd:Nd}(jo:T'[c]? =some cd)
 {more:Int} (Qa:0<=more) (hm:more*(sz P x:Int)<=half*(sz P c:Int)) (CL:1<=sz P c):
 pe P T1 x xd half (k+1) (uH T' c x cd {xd with free:=f} ((sz P c:Int)+more)) (f+((sz P c:Int)+more)):=by
 have cI:=ya hs hc;have hxc:x<c:=hx c (List.mem_of_getElem? hc);have Tc:c∉xd.ch.take k:=fun hh=>Nat.lt_irrefl _ (cI c hh);have gh:=wv (many:=(sz P c:Int)+more) jo h.here (by omega);have GR:((xd.ch.take (k+1)).map (sz P)).sum=((xd.ch.take k).map (sz P)).sum+sz P c:=by rw [np hc];simp
 have gZ: ∀y,y∈xd.ch.take (k+1)↔y∈xd.ch.take k\/y=c:=by intro y;rw [np hc];simp
 exact {
  ns:=h.ns.trans (uG _ jo h.here (by omega))
  here:=by rw [gh,if_pos rfl]
  rest:=fun y hy hn=>by
   rw [gh,if_neg hy,if_neg (fun e=>hn ((gZ y).2 (.inr e)))];exact h.rest y hy (fun hh=>hn ((gZ y).2 (.inl hh)))
  lo:=by rw [GR];have:=h.lo;omega
  up:=by
   rw [GR];have h1:=h.up;have e1:(f+((sz P c:Int)+more)-xd.lo-((((xd.ch.take k).map (sz P)).sum+sz P c:Nat):Int))*(sz P x:Int)=(f-xd.lo-((((xd.ch.take k).map (sz P)).sum:Nat):Int))*(sz P x:Int)+more*(sz P x:Int):=by
    rw [<-Int.add_mul];congr 1;omega
   have e2:half*((((xd.ch.take k).map (sz P)).sum+sz P c:Nat):Int)=half*((((xd.ch.take k).map (sz P)).sum:Nat):Int)+half*(sz P c:Int):=by
    rw [<-Int.mul_add];congr 1
   rw [e1,e2];omega
  p9:=fun y yd hy AQ=>by
   have Wy:=h.lo;rw [gh]at AQ;rcases(gZ y).1 hy with hh|rfl
   ·have h1:=cI y hh
    have h2:=hx y (List.mem_of_mem_take hh);rw [if_neg (by omega),if_neg (by omega)]at AQ;have:=h.p9 y yd hh AQ;exact⟨this.1,by omega,this.2.2⟩
   ·rw [if_neg (by omega),if_pos rfl]at AQ
    cases AQ;refine⟨?_,?_,?_⟩<;>simp only<;>omega
  ord:=fun a b ad bd ha hb lL L5 LW=>by
   rw [gh]at L5 LW;rcases(gZ b).1 hb with vA|rfl
   ·have h1:=cI b vA
    rcases(gZ a).1 ha with zX|rfl
    ·have h2:=hx a (List.mem_of_mem_take zX)
     rw [if_neg (by omega),if_neg (by omega)]at L5 LW;exact h.ord a b ad bd zX vA lL L5 LW
    ·omega
   ·rcases(gZ a).1 ha with zX|rfl
    ·have h1:=cI a zX
     have h2:=hx a (List.mem_of_mem_take zX);rw [if_neg (by omega),if_neg (by omega)]at L5;rw [if_neg (by omega),if_pos rfl]at LW;cases LW;exact(h.p9 a ad zX L5).2.1
    ·omega}
end
structure mX(P:List Int)(T0:List Nd)(m:Nat)(T':List Nd)(q:List Nat)(i:Nat):Prop where
 ns:kK T0 T'
 nodup:q.Nodup
 og: ∀y,y∈q->jE P y m
 fst:m∈q
 src: ∀y,y∈q->y=m\/ ∃z:Nat,z∈q.take i/\P[y]? =some (z:Int)
 W9: ∀z,z∈q.take i-> ∀c,c∈kids P z->c∈q
 rest: ∀y,y∉q->T'[y]? =T0[y]?
 top: ∀md Rb,T0[m]? =some md->T'[m]? =some Rb->Rb.lo=md.lo/\Rb.hi=md.hi
 room: ∀y yd,y∈q->T'[y]? =some yd->1<=yd.lo/\yd.hi<=4611686018427387904/\(sz P y:Int)<=yd.hi-yd.lo+1
 loc: ∀z zd,z∈q.take i->T'[z]? =some zd->Loc T' zd
theorem mX.start{P:List Int}{T0:List Nd}{m:Nat}{md:Nd}(hm:m<P.length)(ve:T0[m]? =some md)(h1:1<=md.lo)(h2:md.hi<=4611686018427387904)(h3:(sz P m:Int)<=md.hi-md.lo+1):
 mX P T0 m T0 [m] 0:= {
 ns:=kK.refl _
 nodup:=by simp
 og:=fun y hy=>by simp at hy;subst hy;exact .refl hm
 fst:=by simp
 src:=fun y hy=>by simp at hy;exact .inl hy
 W9:=fun z hz=>by simp at hz
 rest:=fun _ _=>rfl
 top:=fun a b ha hb=>by rw [ha]at hb;cases hb;exact⟨rfl,rfl⟩
 room:=fun y yd hy AQ=>by
  simp at hy;subst hy;rw [ve]at AQ;cases AQ;exact⟨h1,h2,h3⟩
 loc:=fun z zd hz=>by simp at hz}
section
variable{T0 T' Dc:List Nd}{m x i:Nat}{q:List Nat}{xd:Nd}{f half:Int}
theorem mX.step(hS:Shape T0)(h:mX (bP T0) T0 m T' q i)(hq:q[i]? =some x)(Im:T'[x]? =some xd)
 (CW:0<=half) (aan:half*2<=xd.hi-xd.lo-((sz (bP T0) x:Int)-1))
 (fN:pe (bP T0) (T'.set x {xd with free:=xd.lo}) x {xd with free:=xd.lo} half xd.ch.length Dc f):
 mX (bP T0) T0 m Dc (q++xd.ch) (i+1):=by
 have WQ:=h.ns.shape hS;have ZH:=h.ns.bP;have hP:=hS.par;have oS:xd.ch=kids (bP T0) x:=by rw [WQ.ch x xd Im,ZH]
 have dP:i<q.length:=(List.getElem?_eq_some_iff.1 hq).1;have GJ:x∈q:=List.mem_of_getElem? hq;have tp:x<(bP T0).length:=(h.og x GJ).lt;have xI:q.take (i+1)=q.take i++ [x]:=np hq;have NN:(q++xd.ch).take (i+1)=q.take i++ [x]:=by rw [List.take_append_of_le_length (by omega),xI]
 have Lh:x∉q.take i:=by
  intro hh;have hn:(q.take i++ [x]).Nodup:=by rw [<-xI];exact h.nodup.sublist (List.take_sublist _ _)
  rw [List.nodup_append]at hn;exact hn.2.2 x hh x (by simp) rfl
 have Es: ∀c,c∈xd.ch->(bP T0)[c]? =some (x:Int):=fun c hc=>dO.1 (oS▸hc);have wo: ∀c,c∈xd.ch->x<c:=fun c hc=>(gV hP (oS▸hc)).1;have mo: ∀c,c∈xd.ch->c∉q:=by
  intro c hc WE;rcases h.src c WE with rfl|⟨z,hz,Wu⟩
  ·have:=(h.og x GJ).le hP
   have:=wo _ hc;omega
  ·rw [Es c hc]at Wu
   have:z=x:=by have:=Option.some.inj Wu;omega
   exact Lh (this▸hz)
 have ag2:x∉xd.ch:=fun hh=>Nat.lt_irrefl _ (wo x hh);have cS: ∀c,c∈(({xd with free:=xd.lo}:Nd).ch.take xd.ch.length)↔c∈xd.ch:=by intro c;simp
 have GR:(xd.ch.map (sz (bP T0))).sum+1=sz (bP T0) x:=by
  rw [oS];exact Cd hP tp
 have ja:=tG hP tp;have Qc:=fN.bound CW ja (by simp only [List.take_length];omega);have aaz:=fN.lo;simp only [List.take_length]at Qc aaz;have aaA:f<=xd.hi:=by omega
 have hT1: ∀y,y≠x->(T'.set x {xd with free:=xd.lo})[y]? =T'[y]? :=fun y hy=>List.getElem?_set_ne (fun e=>hy e.symm);have G5: ∀y,y≠x->y∉xd.ch->Dc[y]? =T'[y]? :=fun y hy hn=>by
  rw [fN.rest y hy (fun hh=>hn ((cS y).1 hh)),hT1 y hy]
 have LM:Dc[x]? =some {xd with free:=f}:=fN.here;have hxr:=h.room x xd GJ Im;have hlh:xd.lo<=xd.hi:=by omega
 have hold: ∀y xS,y∉xd.ch->Dc[y]? =some xS-> ∃yd,T'[y]? =some yd/\yd.lo=xS.lo/\yd.hi=xS.hi:=by
  intro y xS hn hy;by_cases e:y=x
  ·subst e
   rw [LM]at hy;cases hy;exact⟨xd,Im,rfl,rfl⟩
  ·rw [G5 y e hn]at hy
   exact⟨xS,hy,rfl,rfl⟩
 exact {
  ns:=(h.ns.trans (kK.set (nd':= {xd with free:=xd.lo}) Im rfl rfl)).trans fN.ns
  nodup:=by
   rw [List.nodup_append];refine⟨h.nodup,?_,fun a ha b hb e=>mo b hb (e▸ha)⟩;rw [oS];exact(sy _ _).imp (fun h=>by omega)
  og:=fun y hy=>by
   rcases List.mem_append.1 hy with hy|hy
   ·exact h.og y hy
   ·exact .step (Es y hy) (h.og x GJ)
  fst:=List.mem_append.2 (.inl h.fst)
  src:=fun y hy=>by
   rw [NN];rcases List.mem_append.1 hy with hy|hy
   ·rcases h.src y hy with e|⟨z,hz,Wu⟩
    ·exact .inl e
    ·exact .inr ⟨z,List.mem_append.2 (.inl hz),Wu⟩
   ·exact .inr ⟨x,by simp,Es y hy⟩
  W9:=fun z hz c hc=>by
   rw [NN]at hz;rcases List.mem_append.1 hz with hz|hz
   ·exact List.mem_append.2 (.inl (h.W9 z hz c hc))
   ·simp at hz
    subst hz;exact List.mem_append.2 (.inr (oS▸hc))
  rest:=fun y hy=>by
   have h1:y∉q:=fun hh=>hy (List.mem_append.2 (.inl hh));have h2:y∉xd.ch:=fun hh=>hy (List.mem_append.2 (.inr hh));rw [G5 y (fun e=>h1 (e▸GJ)) h2,h.rest y h1]
  top:=fun md X5 ve Tp=>by
   obtain⟨Rb,h1,h2,h3⟩:=hold m X5 (fun hh=>mo m hh h.fst) Tp;have:=h.top md Rb ve h1;omega
  room:=fun y xS hy Lg=>by
   rcases List.mem_append.1 hy with hy|hy
   ·obtain⟨yd,h1,h2,h3⟩:=hold y xS (fun hh=>mo y hh hy) Lg
    have:=h.room y yd hy h1;omega
   ·have:=fN.p9 y xS ((cS y).2 hy) Lg
    simp only at this;omega
  loc:=fun z zd hz YE=>by
   rw [NN]at hz;rcases List.mem_append.1 hz with hz|hz
   ·have hzq:z∈q:=List.mem_of_mem_take hz
    have Sa:z≠x:=fun e=>Lh (e▸hz);have NA:=YE;rw [G5 z Sa (fun hh=>mo z hh hzq)]at NA;have hl:=h.loc z zd hz NA;have YF:zd.ch=kids (bP T0) z:=by rw [WQ.ch z zd NA,ZH]
    have WG: ∀c,c∈zd.ch->c∉xd.ch:=by
     intro c hc LO;have h1:=Es c LO;rw [dO.1 (YF▸hc:c∈kids (bP T0) z)]at h1;have:=Option.some.inj h1;omega
    exact {
     Fi:=hl.Fi
     Bx:=hl.Bx
     sub:=fun c cd hc jo=>by
      obtain⟨uU,h1,h2,h3⟩:=hold c cd (WG c hc) jo;have:=hl.sub c uU hc h1;omega
     ord:=fun c c' cd uU hc sV za jo qh=>by
      obtain⟨ed,h1,h2,h3⟩:=hold c cd (WG c hc) jo;obtain⟨Pj,sF,uE,C0⟩:=hold c' uU (WG c' sV) qh;have:=hl.ord c c' ed Pj hc sV za h1 sF;omega}
   ·simp at hz
    subst hz;rw [LM]at YE;cases YE;exact {
     Fi:=by simp only;omega
     Bx:=aaA
     sub:=fun c cd hc jo=>by
      have:=fN.p9 c cd ((cS c).2 hc) jo;simp only at this⊢;omega
     ord:=fun c c' cd uU hc sV za jo qh=>fN.ord c c' cd uU ((cS c).2 hc) ((cS c').2 sV) za jo qh}}
theorem mX.fin(hS:Shape T0)(h:mX (bP T0) T0 m T' q i)(hi:q.length<=i)
 (SY: ∀y nd,T0[y]? =some nd-> ¬jE (bP T0) y m->Iv nd/\Loc T0 nd):Good T':=by
 have WQ:=h.ns.shape hS;have ZH:=h.ns.bP;have hP:=hS.par;have xI:q.take i=q:=List.take_of_length_le hi;have qq: ∀y,jE (bP T0) y m->y∈q:=by
  have: ∀y k,jE (bP T0) y k->k=m->y∈q:=by
   intro y k hu
   induction hu with
   |refl=>intro e;subst e;exact h.fst
   | @step a b c hp h' ih=>intro e;exact h.W9 b (by rw [xI];exact ih e) a (dO.2 hp)
  exact fun y hu=>this y m hu rfl
 have hq: ∀y,y∈q↔jE (bP T0) y m:=fun y=>⟨h.og y,qq y⟩;refine⟨WQ,fun y yd AQ=>?_,fun y yd AQ=>?_⟩
 ·by_cases hy:y∈q
  ·have hr:=h.room y yd hy AQ
   have:=tG hP (h.og y hy).lt;exact⟨hr.1,by omega,hr.2.1⟩
  ·rw [h.rest y hy]at AQ
   exact(SY y yd AQ (fun hu=>hy (qq y hu))).1
 ·by_cases hy:y∈q
  ·exact h.loc y yd (by rw [xI];exact hy) AQ
  ·have NB:=AQ
   rw [h.rest y hy]at NB;have hl:=(SY y yd NB (fun hu=>hy (qq y hu))).2;have oS:=hS.ch y yd NB;have hold: ∀c cd,c∈yd.ch->T'[c]? =some cd-> ∃ed,T0[c]? =some ed/\ed.lo=cd.lo/\ed.hi=cd.hi:=by
    intro c cd hc jo;by_cases WE:c∈q
    ·have hpc:=dO.1 (oS▸hc:c∈kids (bP T0) y)
     have nJ:c=m:=by
      by_cases e:c=m
      ·exact e
      ·exact absurd (qq y ((h.og c WE).inv e hpc)) hy
     subst nJ;obtain⟨ed,hed,_⟩:=h.ns.back jo;have:=h.top ed cd hed jo;exact⟨ed,hed,by omega,by omega⟩
    ·rw [h.rest c WE]at jo
     exact⟨cd,jo,rfl,rfl⟩
   exact {
    Fi:=hl.Fi
    Bx:=hl.Bx
    sub:=fun c cd hc jo=>by
     obtain⟨ed,h1,h2,h3⟩:=hold c cd hc jo;have:=hl.sub c ed hc h1;omega
    ord:=fun c c' cd uU hc sV za jo qh=>by
     obtain⟨ed,h1,h2,h3⟩:=hold c cd hc jo;obtain⟨Pj,sF,uE,C0⟩:=hold c' uU sV qh;have:=hl.ord c c' ed Pj hc sV za h1 sF;omega}
end
open Go Go.bV Go.RowKit
theorem MT{l:List Nat}{a:Nat}(h:a∈l):a<=l.sum:=by
 induction l with
 |nil=>simp at h
 |cons b l ih=>
  rw [List.sum_cons];rcases List.mem_cons.1 h with rfl|h
  ·omega
  ·have:=ih h;omega
theorem yU{l:List Nat}{j x:Nat}(h:l[j]? =some x):(ints l)[j]? =some (.int .i64 (x:Int)):=by simp [ints,h]
theorem GH(l:List Nat):(ints l).length=l.length:=by simp [ints]
theorem GF(l:List Nat): ∀u∈ints l,u.oneCell'=true:=by
 intro u hu;simp only [ints,List.mem_map]at hu;obtain⟨x,_,rfl⟩:=hu;rfl
structure Dl(w0:World)(S:Nat->Prop)(g b c B0 B1 len:Nat)(P:List Int)(d:Int)(As:Option Addr)(w:World)(T':List Nd)(L:List (Nd×Value))(Aq:Option Addr)(nq cq:Nat)(q:List Nat):Prop where
 tv:TV w S g T' d b c L
 rs:Row w B0 iy 1 As len len (us (sz P) len)
 sb: ∀k,bg As=some k->k<B1
 rq:Row w B1 jl 1 Aq nq cq (ints q)
 kp:Kept S w0 w
 hS: ∀k,S k->k<B0
 hB:B0<=B1
 Hy:B1<=w.heap.size
 h0:w0.heap.size<=B0
section
variable{w0 w w':World}{S:Nat->Prop}{g b c B0 B1 len:Nat}{P:List Int}{d:Int}{As:Option Addr}{T' Dc:List Nd}{L L':List (Nd×Value)}{Aq:Option Addr}{nq cq:Nat}{q:List Nat}
theorem Dl.IW(h:Dl w0 S g b c B0 B1 len P d As w T' L Aq nq cq q):nq=q.length:=by
 have:=Row.len h.rq;rw [GH]at this;omega
theorem Dl.quiet(h:Dl w0 S g b c B0 B1 len P d As w T' L Aq nq cq q)(hk:Kept Nil w w'):Dl w0 S g b c B0 B1 len P d As w' T' L Aq nq cq q:= {
 tv:=h.tv.kept hk
 rs:=Row.aC h.rs hk (fun _ _ h=>h)
 sb:=h.sb
 rq:=Row.aC h.rq hk (fun _ _ h=>h)
 kp:=h.kp.trans hk (fun _ _ h=>h.elim)
 hS:=h.hS
 hB:=h.hB
 Hy:=Nat.le_trans h.Hy hk.size
 h0:=h.h0}
theorem Dl.wrote(h:Dl w0 S g b c B0 B1 len P d As w T' L Aq nq cq q)(hk:Kept (fun k=>k=b) w w')(ht:TV w' S g Dc d b c L'):Dl w0 S g b c B0 B1 len P d As w' Dc L' Aq nq cq q:= {
 tv:=ht
 rs:=Row.aC h.rs hk (fun k e e2=>by have:=(Row.bC h.rs e).1;have:=h.hS b h.tv.fQ;omega)
 sb:=h.sb
 rq:=Row.aC h.rq hk (fun k e e2=>by have:=(Row.bC h.rq e).1;have:=h.hS b h.tv.fQ;have:=h.hB;omega)
 kp:=h.kp.trans hk (fun k _ e=>by rw [e];exact h.tv.fQ)
 hS:=h.hS
 hB:=h.hB
 Hy:=Nat.le_trans h.Hy hk.size
 h0:=h.h0}
theorem Dl.Co(h:Dl w0 S g b c B0 B1 len P d As w T' L Aq nq cq q){j:Nat}(hj:j<len){k:Int->Prop}(hk:k (sz P j)):
 Is As fun a=> ∃t,w.cell? (a.add (j*1))=some (.int .u64 t)/\k t:=by
 have hr:=h.rs;obtain⟨b',rfl⟩:=Row.some hr (by omega);exact⟨_,by rw [lQ,Nat.mul_one];exact Row.cell hr (ou _ hj),hk⟩
theorem Dl.Q0(h:Dl w0 S g b c B0 B1 len P d As w T' L Aq nq cq q){j x:Nat}(hj:q[j]? =some x){k:Int->Prop}(hk:k x):
 Is Aq fun a=> ∃t,w.cell? (a.add (j*1))=some (.int .i64 t)/\k t:=by
 have hr:=h.rq;have cI:=(List.getElem?_eq_some_iff.1 hj).1;obtain⟨b',rfl⟩:=Row.some hr (by rw [h.IW];omega);exact⟨_,by rw [lQ,Nat.mul_one];exact Row.cell hr (yU hj),hk⟩
theorem Dl.push(h:Dl w0 S g b c B0 B1 len P d As w T' L Aq nq cq q)(vd:q.length<=4000000)(x:Nat){w1:World}(e1:w1=w.alloc (.cells #[.int .i64 (x:Int)] jl)):
 ∃IG IC w2,(Builtin.append_ #[iR,iR] iR #[.slice Aq nq cq,.slice (some ⟨w.heap.size,0,none⟩) 1 1]).run prog w1=.ok (.slice IG (nq+1) IC) w2/\
  Dl w0 S g b c B0 B1 len P d As w2 T' L IG (nq+1) IC (q++ [x])/\(∀S0:Nat->Prop,(∀k,bg Aq=some k->S0 k)->Kept S0 w w2):=by
 subst e1;generalize Io:w.alloc (.cells #[.int .i64 (x:Int)] jl)=w1;have mo:w1.heap[w.heap.size]? =some (.cells #[.int .i64 (x:Int)] jl (0,0)):=by rw [<-Io];exact aJ w _
 have k1:Kept Nil w w1:=by rw [<-Io];exact(Kept.refl Nil w).alloc _
 have h1:=h.quiet k1;have JF:=h.IW;obtain⟨A',c',w2,hr,e8,hg,vy⟩:=fi (P:=prog) (t:=iR) (ty:=iR) KL h1.rq (a:=⟨w.heap.size,0,none⟩) (m:=1) (cx:=1)
  (news:=ints [x]) rfl (fun j u hj=>by rw [lQ,ax mo];simpa [ints]using hj) (GF _) (by omega) (by unfold maxLen;omega) h1.Hy
 have kA:Kept (fun k=>bg Aq=some k) w1 w2:=(Kept.refl _ w1).grown hg (fun k hk _=>hk);have gu: ∀k,bg Aq=some k->B1<=k:=fun k e=>(Row.bC h.rq e).1;refine⟨A',c',w2,hr,?_,fun S0 h0=>(k1.mono (S':=S0) (fun _ _ h=>h.elim)).trans kA (fun k _ e=>h0 k e)⟩;exact {
  tv:=h1.tv.aC kA (fun k hk e=>by have:=h.hS k hk;have:=gu k e;have:=h.hB;omega)
  rs:=Row.aC h1.rs kA (fun k e e2=>by have:=h.sb k e;have:=gu k e2;omega)
  sb:=h.sb
  rq:=by simpa [ints]using e8
  kp:=(h.kp.trans k1 (fun _ _ h=>h.elim)).trans kA (fun k hk e=>absurd (gu k e) (by have:=h.hB;have:=h.h0;omega))
  hS:=h.hS
  hB:=h.hB
  Hy:=Nat.le_trans h1.Hy kA.size
  h0:=h.h0}
theorem BA{T0 T1:List Nd}{x:Nat}{xd:Nd}{half:Nat}{spare i:Int}{VY:Option Addr}{V9:Nat}{Qo:aO}
 (D:Dl w0 S g b c B0 B1 T0.length (bP T0) d As w T1 L Aq nq cq q) (hS:Shape T0) (Wq:kK T0 T1) (hlen:T0.length<=1000000) (JF:q.length<=1000000)
 (hx:T1[x]? =some xd) (y8:xd.free=xd.lo) (Wy:0<=xd.lo) (hhi:xd.hi<=4611686018427387904) (CW:(half:Int)*2<=xd.hi-xd.lo-((sz (bP T0) x:Int)-1))
 (yX:IntKind.u64.wrap (spare.tdiv 2)=(half:Int)) (aaM:Row w 0 jl 1 VY xd.ch.length V9 (ints xd.ch)) (Uf: ∀k,bg VY=some k->S k/\k≠b)
 (hex: ∀w' Dc f L' IG IC,Dl w0 S g b c B0 B1 T0.length (bP T0) d As w' Dc L' IG (nq+xd.ch.length) IC (q++xd.ch)->pe (bP T0) T1 x xd half xd.ch.length Dc f->
   Qo .normal [(0,.pointer (some ⟨g,0,none⟩)),(4,.slice As T0.length T0.length),(5,.slice IG (nq+xd.ch.length) IC),(6,.int .i64 (IntKind.i64.wrap (i+1)))] w'):
 Holds none [] prog 164 (.loop (lB (bB (sR (sR (sR (sR (bB (sL (sR (lB (bB (sR (sR (sR (sR (sR (body au.fn)))))))))))))))))) (au.q3 Qo) (au.e3 (some ⟨g,0,none⟩) As T0.length T0.length i x spare VY xd.ch.length V9 xd.ch.length (Aq,nq,cq,0)) w:=by
 have hP:=hS.par;have qp:=eK T0;have oS:xd.ch=kids (bP T0) x:=by
  have:=(Wq.shape hS).ch x xd hx
  rwa [Wq.bP]at this
 have tp:x<T0.length:=by rw [<-Wq.len];exact(List.getElem?_eq_some_iff.1 hx).1
 have Jz:xd.ch.Pairwise (· < ·):=by rw [oS];exact sy _ _
 have wo: ∀y,y∈xd.ch->x<y:=fun y hy=>(gV hP (oS▸hy)).1;have Ue:xd.ch.length<=1000000:=by rw [oS];exact Nat.le_trans (yK _ _) (by omega)
 have GR:(xd.ch.map (sz (bP T0))).sum+1=sz (bP T0) x:=by rw [oS];exact Cd hP (by omega)
 have ja:=tG hP (n:=x) (by omega);have Za:=vP (P:=bP T0) x;have hnq:=D.IW;refine au.um (I:=fun s w'=> ∃(k:Nat) (T':List Nd) (f:Int) (L':List (Nd×Value)) (IG:Option Addr) (IC:Nat),s=(IG,nq+k,IC,(k:Int))/\k<=xd.ch.length/\
  Dl w0 S g b c B0 B1 T0.length (bP T0) d As w' T' L' IG (nq+k) IC (q++xd.ch.take k)/\pe (bP T0) T1 x xd half k T' f/\Row w' 0 jl 1 VY xd.ch.length V9 (ints xd.ch))
  (μ:=fun s _=>((xd.ch.length:Int)-s.2.2.2).toNat) (s:=(Aq,nq,cq,0)) ⟨0,T1,xd.lo,L,Aq,cq,rfl,Nat.zero_le _,by simpa using D,pe.start hx y8,aaM⟩ ?_
 rintro s w' ⟨k,T',f,L',IG,IC,rfl,hk,D',fN,hr⟩;refine Split.dec (fun cI=>?_) (fun gu=>?_)
 ·simp only at cI
  have zW:k<xd.ch.length:=by omega
  obtain⟨ci,WH⟩: ∃ci,xd.ch[k]? =some ci:=⟨_,List.getElem?_eq_getElem zW⟩;have nJ:ci∈xd.ch:=List.mem_of_getElem? WH;have hck:ci∈kids (bP T0) x:=oS▸nJ;have qq:ci<T0.length:=by have:=(gV hP hck).2;omega
  have hxc:=wo ci nJ;have CL:=tG hP (n:=ci) (by omega);have ahp:=vP (P:=bP T0) ci;have Sp:=Wq.trans fN.ns;obtain⟨cd,jo⟩:=fH (T:=T') (i:=ci) (by rw [Sp.len];exact qq);have Ud:cd.parent=x:=by
   have h1:=kj jo;rw [Sp.bP,dO.1 hck]at h1;exact(Option.some.inj h1).symm
  have Zd:sz (bP T0) ci<=sz (bP T0) x:=by
   have:=MT (l:=xd.ch.map (sz (bP T0))) (a:=sz (bP T0) ci) (List.mem_map.2 ⟨ci,nJ,rfl⟩);omega
  have Uw:0<=(ci:Int)/\(ci:Int)<(T0.length:Int):=⟨by omega,by omega⟩;have iC:0<=(x:Int)/\(x:Int)<(T0.length:Int):=⟨by omega,by omega⟩;have aam:half<4611686018427387904:=by omega
  obtain⟨bch,aaZ⟩:=Row.some hr (by omega);subst aaZ;refine⟨⟨by simp only;omega,by simp only;omega⟩,_,by simp only [lQ,Int.toNat_natCast,Nat.mul_one];exact Row.cell hr (yU WH),by decide,Uw,D'.Co qq ?_⟩;rw [yX];refine vC half (sz (bP T0) ci) (by omega) (by omega) ⟨_,_,rfl,iC,D'.Co tp ?_⟩;have Tn:(half*sz (bP T0) ci/18446744073709551616)*18446744073709551616+half*sz (bP T0) ci%18446744073709551616=half*sz (bP T0) ci:=Nat.div_add_mod' _ _;have aal:half*sz (bP T0) ci/18446744073709551616<sz (bP T0) x:=by
   have:half*sz (bP T0) ci<18446744073709551616*sz (bP T0) ci:=Nat.mul_lt_mul_of_pos_right (by omega) CL;have:half*sz (bP T0) ci/18446744073709551616<sz (bP T0) ci:=Nat.div_lt_of_lt_mul this;omega
  refine vE _ _ (sz (bP T0) x) (Nat.mod_lt _ (by omega)) (by omega) aal fun r w90 k90=>?_;rw [Tn];generalize hm:half*sz (bP T0) ci/sz (bP T0) x=more;have hmx:more*sz (bP T0) x<=half*sz (bP T0) ci:=by rw [<-hm];exact Nat.div_mul_le_self _ _
  have ah8:more<=half:=by
   rw [<-hm];apply Nat.div_le_of_le_mul;rw [Nat.mul_comm];exact Nat.mul_le_mul_right _ Zd
  have D90:=D'.quiet k90;have Zn:=Row.aC hr k90 (fun _ _ h=>h);refine⟨_,_,rfl,Uw,D90.Co qq ?_⟩;rw [fp (x:=(sz (bP T0) ci:Int)+(more:Int)) (by omega) (by omega)];have xM:=fN.bound (by omega) ja (by
   have h1:(((xd.ch.take k).map (sz (bP T0))).sum)<=(xd.ch.map (sz (bP T0))).sum:=by
    conv=>rhs;rw [<-List.take_append_drop k xd.ch,List.map_append,List.sum_append]
    omega
   omega)
  have la:=fN.lo;have h1:(((xd.ch.take k).map (sz (bP T0))).sum)<=(xd.ch.map (sz (bP T0))).sum:=by
   conv=>rhs;rw [<-List.take_append_drop k xd.ch,List.map_append,List.sum_append]
   omega
  refine tD D90.tv jo fN.here Ud (by omega) (by simp only;omega) (by omega) (by simp only;omega) fun w96 L96 h96 k96=>⟨rfl,?_⟩;have D96:=D90.wrote k96 h96;have Zl:=Row.aC Zn k96 (fun k e e2=>(Uf k e).2 e2);intro w97;have Y9:(xd.ch.take k).length<=1000000:=by rw [List.length_take];omega
  obtain⟨Qz,Qm,PD,Zg,D99,Wf⟩:=D96.push (by rw [List.length_append];omega) ci (w1:=w97) rfl;have Zk:=Row.aC Zl (Wf (fun k=>B1<=k) (fun k e=>(Row.bC D96.rq e).1)) (fun k e e2=>by have:=D.hS k (Uf k e).1;have:=D.hB;omega);refine⟨Qz,_,Qm,PD,Zg,?_⟩;rw [gY (x:=(k:Int)+1) (by omega) (by omega)];refine⟨(Qz,nq+(k+1),Qm,((k+1:Nat):Int)),rfl,⟨k+1,_,_,L96,Qz,Qm,rfl,zW,?_,fN.step (more:=(more:Int)) Jz wo WH jo (by omega) ?_ CL,Zk⟩,by simp only;omega⟩
  ·rw [np WH,<-List.append_assoc]
   exact D99
  ·have:((more*sz (bP T0) x:Nat):Int)<=((half*sz (bP T0) ci:Nat):Int):=by omega
   rwa [Int.natCast_mul,Int.natCast_mul]at this
 ·simp only at gu
  have:k=xd.ch.length:=by omega
  subst this;rw [aS,au.z7];rw [List.take_length]at D';exact hex w' T' f L' IG IC D' fN
end
end Go.Proofs.YtnboahlopghcjaaGreatDoor.Tr
namespace Go.Proofs.YtnboahlopghcjaaGreatDoor.Tr
open Go.Proofs.Tryz
open Go Go.bV Go.RowKit
theorem F0: ∀(n:Nat) (q:List Nat),q.Nodup->(∀y,y∈q->y<n)->q.length<=n:=by
 intro n
 induction n with
 |zero=>
  intro q _ h;cases q with
  |nil=>simp
  |cons a q=>exact absurd (h a (by simp)) (by omega)
 |succ n ih=>
  intro q hn h;by_cases hm:n∈q
  ·have h1:=List.length_erase_of_mem hm
   have h2:=ih (q.erase n) (hn.erase n) (fun y hy=>by
    have:=(List.Nodup.mem_erase_iff hn).1 hy;have:=h y this.2;omega)
   omega
  ·have:=ih q hn (fun y hy=>by
    have:=h y hy;have:y≠n:=fun e=>hm (e▸hy);omega)
   omega
section
variable{w0 w:World}{S:Nat->Prop}{g b c B0:Nat}{d:Int}{As:Option Addr}{L:List (Nd×Value)}{T:List Nd}{K:Value->World->Prop}
theorem Bz{T0:List Nd}{m:Nat}{md:Nd}
 (htv:TV w S g T0 d b c L) (hrs:Row w B0 iy 1 As T0.length T0.length (us (sz (bP T0)) T0.length)) (TE:Kept S w0 w) (hSB: ∀k,S k->k<B0) (Sg:w0.heap.size<=B0) (hBw:B0<=w.heap.size)
 (hS:Shape T0) (hlen:T0.length<=1000000) (ve:T0[m]? =some md) (h1:1<=md.lo) (h2:md.hi<=4611686018427387904) (h3:(sz (bP T0) m:Int)<=md.hi-md.lo+1)
 (hK: ∀w' T' q i,oq w' S g T' d->mX (bP T0) T0 m T' q i->q.length<=i->Kept S w0 w'->K (.tuple #[]) w'):
 au.cJ (some ⟨g,0,none⟩) m As T0.length T0.length K w:=by
 have hP:=hS.par;have qp:=eK T0;have JP:m<T0.length:=(List.getElem?_eq_some_iff.1 ve).1;unfold au.cJ;intro gR;have lV:Kept Nil w gR:=(Kept.refl Nil w).alloc _;have mo:gR.heap[w.heap.size]? =some (.cells #[.int .i64 (m:Int)] jl (0,0)):=aJ w _;have D35:Dl w0 S g b c B0 w.heap.size T0.length (bP T0) d As gR T0 L (some ⟨w.heap.size,0,none⟩) 1 1 [m]:= {
  tv:=htv.kept lV
  rs:=Row.aC hrs lV (fun _ _ h=>h)
  sb:=fun k e=>by obtain⟨_,_,hc⟩:=Row.bC hrs e;exact aQ hc
  rq:=Row.made (n:=1) (cur:= #[.int .i64 (m:Int)]) mo (Nat.le_refl _) rfl (by decide)
  kp:=TE.trans lV (fun _ _ h=>h.elim)
  hS:=hSB
  hB:=hBw
  Hy:=lV.size
  h0:=Sg}
 clear_value gR;generalize Hy:w.heap.size=B1 at*;refine au.gD (I:=fun s w'=> ∃(i:Nat) (T':List Nd) (L':List (Nd×Value)) (Aq:Option Addr) (nq cq:Nat) (q:List Nat),s=(Aq,nq,cq,(i:Int))/\i<=q.length/\
  Dl w0 S g b c B0 B1 T0.length (bP T0) d As w' T' L' Aq nq cq q/\mX (bP T0) T0 m T' q i)
  (μ:=fun s _=>((T0.length:Int)-s.2.2.2).toNat) (s:=(some ⟨B1,0,none⟩,1,1,0)) ⟨0,T0,L,_,1,1,[m],rfl,Nat.zero_le _,D35,mX.start (by omega) ve h1 h2 h3⟩ ?_
 rintro s w' ⟨i,T',L',Aq,nq,cq,q,rfl,hi,D,hO⟩;have hnq:=D.IW;have JF:q.length<=T0.length:=F0 _ _ hO.nodup (fun y hy=>by have:=(hO.og y hy).lt;omega);refine Split.dec (fun cI=>?_) (fun gu=>?_)
 ·simp only at cI
  have dP:i<q.length:=by omega
  obtain⟨x,Zw⟩: ∃x,q[i]? =some x:=⟨_,List.getElem?_eq_getElem dP⟩;have GJ:x∈q:=List.mem_of_getElem? Zw;have tp:x<T0.length:=by have:=(hO.og x GJ).lt;omega
  obtain⟨xd,Im⟩:=fH (T:=T') (i:=x) (by rw [hO.ns.len];exact tp);have sE:=hO.room x xd GJ Im;have ja:=tG hP (n:=x) (by omega);have Za:=vP (P:=bP T0) x;have hlT:T'.length=T0.length:=hO.ns.len;have iC:0<=(x:Int)/\(x:Int)<(T'.length:Int):=⟨by omega,by omega⟩;refine⟨⟨by simp only;omega,by simp only;omega⟩,D.Q0 Zw ?_⟩;intro zM;have Qx:=D.quiet (w':=zM) (Kept.refl Nil w').drew;clear_value zM;obtain⟨v,hv⟩:=Qx.tv.at_ Im;obtain⟨wr,Pe⟩:=Qx.tv.tK hv (j:=4) (by omega) (u:=.int .u64 xd.lo) (nd':= {xd with free:=xd.lo}) rfl rfl;refine Qx.tv.go (Qx.tv.go ⟨iC,Qx.tv.uI hv ⟨iC,by rw [nZ];exact wr,?_⟩⟩);intro vN zL;have e50:vN=zM.setCell ⟨b,x*5+4,none⟩ (.int .u64 xd.lo):=by simp only [vN,nZ,Int.toNat_natCast]
  rw [<-e50]at Pe;have Gm:Kept (fun k=>k=b) zM vN:=by rw [e50];exact(Kept.refl (fun k=>k=b) zM).setCell (p:=⟨b,x*5+4,none⟩) (fun _=>rfl) _
  have IF:=(Qx.wrote Gm Pe).quiet (w':=zL) (Kept.refl Nil vN).drew;clear_value zL;have v1:(L'.set x ({xd with free:=xd.lo},v))[x]? =some ({xd with free:=xd.lo},v):=ir hv;obtain⟨VY,V9,hk⟩:=IF.tv.p9 _ _ v1;have xL:(T'.set x {xd with free:=xd.lo}).length=T'.length:=by simp
  have OP:0<=(x:Int)/\(x:Int)<((T'.set x {xd with free:=xd.lo}).length:Int):=by rw [xL];exact iC
  have WJ:0<=(x:Int)/\(x:Int)<(T0.length:Int):=⟨by omega,by omega⟩;refine IF.tv.go ⟨OP,IF.tv.zl v1 (IF.tv.go ⟨OP,IF.tv.uI v1 ⟨WJ,IF.Co tp (IF.tv.go ⟨OP,IF.tv.Vk v1 hk.val ?_⟩)⟩⟩)⟩;have Zc:kK T0 (T'.set x {xd with free:=xd.lo}):=hO.ns.trans (kK.set (nd':= {xd with free:=xd.lo}) Im rfl rfl);simp only;obtain⟨cur,Qf⟩:=IF.tv.uY;generalize hhf:((xd.hi-xd.lo-((sz (bP T0) x:Int)-1)).toNat /2)=half;refine BA (half:=half) (xd:= {xd with free:=xd.lo}) IF hS Zc hlen (by omega) (ir Im) rfl (by simp only;omega) (by simp only;omega) (by simp only;omega) ?_ hk.row (fun k e=>⟨hk.jM k e,fun e2=>hk.ne Qf (by decide) (by rw [e,e2])⟩) ?_
  ·rw [fp (x:=xd.hi-xd.lo) (by omega) (by omega),fp (x:=(sz (bP T0) x:Int)-1) (by omega) (by omega),fp (x:=xd.hi-xd.lo-((sz (bP T0) x:Int)-1)) (by omega) (by omega),
    Int.tdiv_eq_ediv_of_nonneg (by omega),fp (by omega) (by omega)]
   omega
  ·intro w2 T2 f L2 Qz Qm D2 fN
   rw [gY (x:=(i:Int)+1) (by omega) (by omega)];refine⟨(Qz,nq+xd.ch.length,Qm,((i+1:Nat):Int)),rfl,⟨i+1,T2,L2,Qz,_,Qm,q++xd.ch,rfl,by rw [List.length_append];omega,D2,hO.step hS Zw Im (by omega) (by omega) fN⟩,by simp only;omega⟩
 ·simp only at gu
  rw [aS,au.jC];exact hK w' T' q i ⟨_,_,_,D.tv⟩ hO (by omega) D.kp
theorem TV.XF(h:TV w S g T d b c L)(d':Int):Wr w ⟨g,1,none⟩/\TV (w.setCell ⟨g,1,none⟩ (.int .i64 d')) S g T d' b c L:=by
 have kG:Kept (fun k=>k=g) w (w.setCell ⟨g,1,none⟩ (.int .i64 d')):=(Kept.refl (fun k=>k=g) w).setCell (p:=⟨g,1,none⟩) (fun _=>rfl) _;refine⟨dM h.top (show 1<2 by omega),?_⟩;exact {
  top:=by
   have:=cU h.top 1 (.int .i64 d');simpa using this
  fst:=h.fst
  row:=Row.aC h.row kG (fun k e e2=>h.gb (by cases e;exact e2.symm))
  p9:=fun i p hp=>by
   obtain⟨A,m,hk⟩:=h.p9 i p hp;exact⟨A,m,hk.val,Row.aC hk.row kG (fun k e e2=>hk.ne h.top (by decide) (by rw [e,e2])),hk.jM⟩
  apart:=h.apart
  gS:=h.gS
  fQ:=h.fQ}
set_option maxRecDepth 100000 in
theorem Dv(h:oq w S g T d)(hS:Shape T)(hlen:T.length<=1000000){p:Nat}(hp:p<T.length)(hd:0<=d/\d<=1000000)
 (Sy: ∀nd,T[0]? =some nd->nd.lo=1/\nd.hi=4611686018427387904)
 (WA: ∀y nd,T[y]? =some nd->jE (bP T) p y->Iv nd)
 (hK: ∀w' T' m q i,oq w' S g T' (d+1)->jE (bP T) p m->mX (bP T) T m T' q i->q.length<=i->Kept S w w'->K (.tuple #[]) w'):
 bn prog au.id #[.pointer (some ⟨g,0,none⟩),.int .i64 p] w K:=by
 have hP:=hS.par;have qp:=eK T;obtain⟨b,c,L,h⟩:=h;have hb:=h.bound;obtain⟨wr,h6⟩:=hb.XF (d+1);refine au.of (h.goD ⟨by rw [lQ];exact wr,?_⟩);intro w6;have e6:w6=w.setCell ⟨g,1,none⟩ (.int .i64 (d+1)):=by simp only [w6,lQ,gY (x:=d+1) (by omega) (by omega)]
 rw [<-e6]at h6;have k6:Kept (fun k=>S k/\k<w.heap.size) w w6:=by rw [e6];exact(Kept.refl _ w).setCell (p:=⟨g,1,none⟩) (fun _=>hb.gS) _
 have JB:w.heap.size=w6.heap.size:=by rw [e6];simp
 clear_value w6;refine Af ⟨_,_,_,h6⟩ hP hlen fun w8 As XR k8=>⟨_,_,_,rfl,?_⟩;have h8:=h6.kept k8;refine au.b6 (I:=fun s w'=> ∃m:Nat,s=(m:Int)/\jE (bP T) p m/\Kept Nil w8 w') (μ:=fun s _=>s.toNat) (s:=(p:Int)) ⟨p,rfl,.refl (by omega),Kept.refl _ _⟩ ?_;rintro s w' ⟨m,rfl,hu,kw⟩;have JP:m<T.length:=by have:=hu.Wa;omega
 obtain⟨md,ve⟩:=fH JP;have hm:=WA m md ve hu;have JQ:=hm.X8;have P9:=hm.le;have Z2:=hm.top;unfold au.B1;intro kN;have re:Kept Nil w8 kN:=kw.drew;have C1:=h8.kept re;have Cm:=Row.aC XR re (fun _ _ h=>h);have jQ:=kj ve;have ahl:=vP (P:=bP T) m;have xl:0<=(m:Int)/\(m:Int)<(T.length:Int):=⟨by omega,by omega⟩;obtain⟨v,hv⟩:=C1.at_ ve;have done:(sz (bP T) m:Int)<=md.hi-md.lo+1->au.q1 K (.exit 0) [(0,.pointer (some ⟨g,0,none⟩)),(1,.int .i64 m),(4,.slice As T.length T.length)] kN:=by
  intro sE;rw [au.cX];have k8':Kept (fun k=>S k/\k<w.heap.size) w kN:=(k6.trans k8 (fun _ _ h=>h.elim)).trans re (fun _ _ h=>h.elim);refine Bz C1 (B0:=w.heap.size) (Row.base Cm (fun k e=>by rw [JB];exact(Row.bC Cm e).1)) k8' (fun k h=>h.2) (Nat.le_refl _) k8'.size hS hlen ve JQ Z2 sE ?_;intro w2 T2 q i h2 hO hq k2;exact hK w2 T2 m q i (h2.mono (fun k h=>h.1)) hu hO hq (k2.mono (fun k _ h=>h.1))
 refine C1.go ⟨xl,C1.HE hv (Split.dec (fun ja=>?_) (fun xh=>?_))⟩
 ·obtain⟨bs,WJ⟩:=Row.some Cm (by omega)
  subst WJ;refine C1.go ⟨xl,C1.zl hv (C1.go ⟨xl,C1.uI hv ⟨by decide,xl,_,by rw [lQ,Int.toNat_natCast,Nat.mul_one];exact Row.cell Cm (ou _ JP),?_⟩⟩)⟩;rw [fp (x:=md.hi-md.lo) (by omega) (by omega),fp (x:=md.hi-md.lo+1) (by omega) (by omega),Int.tdiv_eq_ediv_of_nonneg (by omega),fp (x:=(md.hi-md.lo+1)/4) (by omega) (by omega)];refine Split.dec (fun cI=>?_) (fun gu=>?_)
  ·have Qa:0<m:=by
    rcases Nat.eq_zero_or_pos m with rfl|h
    ·rw [hP.root]at jQ;have:=Option.some.inj jQ;omega
    ·exact h
   obtain⟨z,hz,ez⟩:=hP.up m _ Qa jQ;refine C1.go ⟨xl,C1.HE hv ?_⟩;rw [ez];exact⟨(z:Int),rfl,⟨z,rfl,hu.trans (.step (by rw [jQ,ez]) (.refl (by omega))),re⟩,by simp only;omega⟩
  ·rw [aS]
   exact done (by omega)
 ·have Qa:m=0:=by
   rcases Nat.eq_zero_or_pos m with h|h
   ·exact h
   ·obtain⟨z,_,ez⟩:=hP.up m _ h jQ
    omega
  subst Qa;have:=Sy md ve;rw [aS];exact done (by omega)
end
end Go.Proofs.YtnboahlopghcjaaGreatDoor.Tr
namespace Go.Proofs.YtnboahlopghcjaaGreatDoor.Tr
open Go.Proofs.Tryz
open Go Go.bV Go.RowKit
structure vM(T:List Nd):Prop extends Good T where
 root: ∀nd,T[0]? =some nd->nd.lo=1/\nd.hi=4611686018427387904
theorem Ar:vM pJ:=by
 have gh: ∀(i:Nat) nd,pJ[i]? =some nd->i=0/\nd=⟨-1,[],1,4611686018427387904,1⟩:=by
  intro i nd h;cases i with
  |zero=>simp [pJ]at h;exact⟨rfl,h.symm⟩
  |succ i=>simp [pJ]at h
 exact {
  par:=⟨rfl,fun i p hi h=>by
   cases i with
   |zero=>omega
   |succ i=>simp [bP,pJ]at h⟩
  ch:=fun i nd h=>by
   obtain⟨rfl,rfl⟩:=gh i nd h;simp [kids,bP,pJ]
  iv:=fun i nd h=>by
   obtain⟨rfl,rfl⟩:=gh i nd h;exact⟨by decide,by decide,by decide⟩
  loc:=fun i nd h=>by
   obtain⟨rfl,rfl⟩:=gh i nd h;exact⟨by decide,by decide,fun c cd hc=>by simp at hc,fun c c' cd uU hc=>by simp at hc⟩
  root:=fun nd h=>by
   obtain⟨_,rfl⟩:=gh 0 nd h;exact⟨rfl,rfl⟩}
section
variable{T:List Nd}{p:Nat}{pd:Nd}
theorem ES(hp:T[p]? =some pd)(i:Nat):(added T p pd)[i]? =if i=p then some {pd with ch:=pd.ch++ [T.length],free:=pd.free+iN pd}else if i=T.length then some ⟨p,[],pd.free,pd.free+iN pd-1,pd.free⟩else T[i]? :=by
 have cI:p<T.length:=(List.getElem?_eq_some_iff.1 hp).1;unfold added;rw [wv (by rw [jc hp,if_neg (by omega),if_pos rfl]) (by rw [jc hp,if_pos rfl]) (by omega),jc hp];split
 ·rfl
 ·split
  ·rfl
  ·rfl
theorem u7(hp:T[p]? =some pd):kK (grown T p pd) (added T p pd):=by
 have cI:p<T.length:=(List.getElem?_eq_some_iff.1 hp).1;exact uG _ (by rw [jc hp,if_neg (by omega),if_pos rfl]) (by rw [jc hp,if_pos rfl]) (by omega)
theorem Shape.Pm(h:Shape T){i:Nat}{nd:Nd}(hi:T[i]? =some nd){c:Nat}(hc:c∈nd.ch):i<c/\c<T.length:=by
 rw [h.ch i nd hi]at hc;have:=gV h.par hc
 rwa [eK]at this
theorem vM.added(h:vM T)(hp:T[p]? =some pd)(sE:pd.free<pd.hi):vM (added T p pd):=by
 have cI:p<T.length:=(List.getElem?_eq_some_iff.1 hp).1;have gh:=ES hp;have Nw:=h.iv p pd hp;have i1:=Nw.X8;have i2:=Nw.le;have i3:=Nw.top;have lp:=h.loc p pd hp;have l1:=lp.Fi;have l2:=lp.Bx;have hh1:1<=iN pd:=by unfold iN;omega
 have hh2:pd.free+iN pd<=pd.hi:=by unfold iN;omega
 have hold: ∀(c:Nat) cd,c<T.length->(Go.Proofs.YtnboahlopghcjaaGreatDoor.Tr.added T p pd)[c]? =some cd-> ∃ed,T[c]? =some ed/\ed.lo=cd.lo/\ed.hi=cd.hi:=by
  intro c cd hc jo;rw [gh]at jo;by_cases e:c=p
  ·subst e
   rw [if_pos rfl]at jo;cases jo;exact⟨pd,hp,rfl,rfl⟩
  ·rw [if_neg e,if_neg (by omega)]at jo
   exact⟨cd,jo,rfl,rfl⟩
 have mo: ∀cd,(Go.Proofs.YtnboahlopghcjaaGreatDoor.Tr.added T p pd)[T.length]? =some cd->cd=⟨p,[],pd.free,pd.free+iN pd-1,pd.free⟩:=by
  intro cd jo;rw [gh,if_neg (by omega),if_pos rfl]at jo;exact(Option.some.inj jo).symm
 have aC: ∀(i:Nat) nd,T[i]? =some nd->Loc (Go.Proofs.YtnboahlopghcjaaGreatDoor.Tr.added T p pd) nd:=by
  intro i nd hi;have hl:=h.loc i nd hi;have hc:=fun c hc=>(h.toShape.Pm hi (c:=c) hc).2;exact {
   Fi:=hl.Fi
   Bx:=hl.Bx
   sub:=fun c cd nJ jo=>by
    obtain⟨ed,h1,h2,h3⟩:=hold c cd (hc c nJ) jo;have:=hl.sub c ed nJ h1;omega
   ord:=fun c c' cd uU nJ nV za jo qh=>by
    obtain⟨ed,h1,h2,h3⟩:=hold c cd (hc c nJ) jo;obtain⟨Pj,sF,uE,C0⟩:=hold c' uU (hc c' nV) qh;have:=hl.ord c c' ed Pj nJ nV za h1 sF;omega}
 have hs:=(u7 hp).shape (h.toShape.grown hp);refine {toShape:=hs,iv:=?_,loc:=?_,root:=?_}
 ·intro i nd hi
  rw [gh]at hi;by_cases e:i=p
  ·rw [if_pos e]at hi
   cases hi;exact⟨i1,i2,i3⟩
  ·rw [if_neg e]at hi
   by_cases e2:i=T.length
   ·rw [if_pos e2]at hi
    cases hi;exact⟨by simp only;omega,by simp only;omega,by simp only;omega⟩
   ·rw [if_neg e2]at hi
    exact h.iv i nd hi
 ·intro i nd hi
  rw [gh]at hi;by_cases e:i=p
  ·rw [if_pos e]at hi
   cases hi;have kp:=aC p pd hp;have hc:=fun c hc=>(h.toShape.Pm hp (c:=c) hc).2;exact {
    Fi:=by simp only;omega
    Bx:=hh2
    sub:=fun c cd nJ jo=>by
     simp only at nJ;rcases List.mem_append.1 nJ with nJ|nJ
     ·have:=kp.sub c cd nJ jo
      simp only;omega
     ·simp at nJ
      subst nJ;have:=mo cd jo;subst this;simp only;omega
    ord:=fun c c' cd uU nJ nV za jo qh=>by
     simp only at nJ nV;rcases List.mem_append.1 nJ with nJ|nJ
     ·rcases List.mem_append.1 nV with nV|nV
      ·exact kp.ord c c' cd uU nJ nV za jo qh
      ·simp at nV
       subst nV;have:=mo uU qh;subst this;exact(kp.sub c cd nJ jo).2
     ·simp at nJ
      rcases List.mem_append.1 nV with nV|nV
      ·have:=hc c' nV
       omega
      ·simp at nV
       omega}
  ·rw [if_neg e]at hi
   by_cases e2:i=T.length
   ·rw [if_pos e2]at hi
    cases hi;exact⟨by simp only;omega,by simp only;omega,fun c cd hc=>by simp at hc,fun c c' cd uU hc=>by simp at hc⟩
   ·rw [if_neg e2]at hi
    exact aC i nd hi
 ·intro nd hi
  obtain⟨ed,h1,h2,h3⟩:=hold 0 nd h.toShape.pos hi;have:=h.root ed h1;omega
theorem vM.HL(h:vM T)(hp:T[p]? =some pd){m i:Nat}{T':List Nd}{q:List Nat}(hu:jE (bP (grown T p pd)) p m)
 (hO:mX (bP (grown T p pd)) (grown T p pd) m T' q i) (hq:q.length<=i):vM T':=by
 have cI:p<T.length:=(List.getElem?_eq_some_iff.1 hp).1;have gh:=jc hp;have hS:=h.toShape.grown hp;have hP:=hS.par;have hold: ∀(c:Nat) cd,c<T.length->(grown T p pd)[c]? =some cd-> ∃ed,T[c]? =some ed/\ed.lo=cd.lo/\ed.hi=cd.hi:=by
  intro c cd hc jo;rw [gh]at jo;by_cases e:c=p
  ·subst e
   rw [if_pos rfl]at jo;cases jo;exact⟨pd,hp,rfl,rfl⟩
  ·rw [if_neg e,if_neg (by omega)]at jo
   exact⟨cd,jo,rfl,rfl⟩
 have P7:(bP (grown T p pd))[T.length]? =some (p:Int):=by
  rw [lM hp,List.getElem?_append_right (by rw [eK];exact Nat.le_refl _)];simp [eK]
 have eM:=mX.fin hS hO hq (fun y nd hy hn=>by
  rw [gh]at hy;have e:y≠p:=fun e=>hn (e▸hu);rw [if_neg e]at hy;have e2:y≠T.length:=fun e=>hn (e▸ .step P7 hu);rw [if_neg e2]at hy;refine⟨h.iv y nd hy,?_⟩;have hl:=h.loc y nd hy;have hc:=fun c hc=>(h.toShape.Pm hy (c:=c) hc).2;exact {
   Fi:=hl.Fi
   Bx:=hl.Bx
   sub:=fun c cd nJ jo=>by
    obtain⟨ed,h1,h2,h3⟩:=hold c cd (hc c nJ) jo;have:=hl.sub c ed nJ h1;omega
   ord:=fun c c' cd uU nJ nV za jo qh=>by
    obtain⟨ed,h1,h2,h3⟩:=hold c cd (hc c nJ) jo;obtain⟨Pj,sF,uE,C0⟩:=hold c' uU (hc c' nV) qh;have:=hl.ord c c' ed Pj nJ nV za h1 sF;omega})
 refine {toGood:=eM,root:=fun nd hi=>?_};obtain⟨gd,hgd,_⟩:=hO.ns.back hi;obtain⟨ed,h1,h2,h3⟩:=hold 0 gd h.toShape.pos hgd;have hr:=h.root ed h1;by_cases hm:0∈q
 ·have:=(hO.og 0 hm).le hP
  have Qa:m=0:=by omega
  subst Qa;have:=hO.top gd nd hgd hi;omega
 ·rw [hO.rest 0 hm,hgd]at hi
  cases hi;omega
end
section
variable{w:World}{S:Nat->Prop}{g:Nat}{T:List Nd}{d:Int}{K:Value->World->Prop}
theorem FB(h:oq w S g T d)(hF:vM T){p:Nat}(hp:p<T.length)(hlen:T.length<=900000)(hd:0<=d/\d<=900000)
 (hK: ∀w' S' T' d',oq w' S' g T' d'->vM T'->bP T'=bP T++ [(p:Int)]->d<=d'/\d'<=d+1->Kept S w w'->(∀k,S' k->S k\/w.heap.size<=k)->K (.tuple #[.int .i64 T.length,.int .i64 0]) w'):
 bn prog fV.id #[.pointer (some ⟨g,0,none⟩),.int .i64 p] w K:=by
 obtain⟨pd,xf⟩:=fH hp;have Nw:=hF.iv p pd xf;have i1:=Nw.X8;have i2:=Nw.le;have i3:=Nw.top;have lp:=hF.loc p pd xf;have l1:=lp.Fi;have l2:=lp.Bx;have oS:pd.ch.length<=T.length:=by
  rw [hF.ch p pd xf];have:=yK (bP T) p
  rwa [eK]at this
 refine tF h xf (by omega) (by omega) (by omega) l2 i3 (fun sE w' S' h' k' f'=>?_) (fun aeq w' S' h' k' f'=>?_)
 ·exact hK w' S' _ d h' (hF.added xf sE) (by rw [(u7 xf).bP,lM xf]) ⟨by omega,by omega⟩ k' f'
 ·have hS:=hF.toShape.grown xf
  have gh:=jc xf;have jQ:=hS.par;refine Dv h' hS (by rw [wu];omega) (by rw [wu];omega) ⟨hd.1,by omega⟩ (fun nd hi=>?_) (fun y nd hy hu=>?_) (fun w2 T2 m q i h2 hu hO hq k2=>⟨rfl,?_⟩)
  ·rw [gh]at hi
   by_cases e:0=p
   ·rw [if_pos e]at hi
    cases hi;exact hF.root pd (by rw [e];exact xf)
   ·rw [if_neg e,if_neg (by omega)]at hi
    exact hF.root nd hi
  ·have:=hu.le jQ
   rw [gh]at hy;by_cases e:y=p
   ·rw [if_pos e]at hy
    cases hy;exact⟨i1,i2,i3⟩
   ·rw [if_neg e,if_neg (by omega)]at hy
    exact hF.iv y nd hy
  ·refine hK w2 S' T2 (d+1) h2 (hF.HL xf hu hO hq) (by rw [hO.ns.bP,lM xf]) ⟨by omega,by omega⟩ ?_ f'
   exact k'.trans k2 (fun k hk hs=>by
    rcases f' k hs with h|h
    ·exact h
    ·omega)
end
end Go.Proofs.YtnboahlopghcjaaGreatDoor.Tr
namespace Go.Proofs.YtnboahlopghcjaaGreatDoor.Tr
open Go.Proofs.Tryz
open Go Go.bV Go.RowKit
def zs(l:List Int):List Value:=l.map fun x=>.int .i64 x
section
variable{w w':World}{S S':Nat->Prop}{h:Nat}{P:List Int}{b c:Nat}{K:Value->World->Prop}
end
end Go.Proofs.YtnboahlopghcjaaGreatDoor.Tr
namespace Go.Proofs.YtnboahlopghcjaaGreatDoor.Tr
open Go.Proofs.Tryz
open Go Go.bV Go.RowKit
def iB(P:List Int)(n i:Nat):List Nat:=(List.range i).filter fun j=>P[j]? ==some (n:Int)
section
variable{w w':World}{S S':Nat->Prop}{h:Nat}{P:List Int}{b c:Nat}{K:Value->World->Prop}
end
section
variable{w w':World}{S S':Nat->Prop}{g:Nat}{T:List Nd}{d:Int}{K:Value->World->Prop}
end
end Go.Proofs.YtnboahlopghcjaaGreatDoor.Tr
