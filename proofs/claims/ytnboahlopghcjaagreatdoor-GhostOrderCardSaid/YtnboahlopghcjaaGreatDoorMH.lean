import Derived.Test.YtnboahlopghcjaaGreatDoorMA
import Derived.Test.YtnboahlopghcjaaGreatDoorMD
import Derived.Laws.OwnMore
import Derived.Test.YtnboahlopghcjaaGreatDoorMG
import Derived.Laws.Bits64b
open Go.IntKind (i64 u64)
set_option linter.unusedVariables false
namespace Go.Proofs.YtnboahlopghcjaaGreatDoor.Tr
open Go.Proofs.Tryz
open Go Go.bP Go.RowKit
structure Nd where
 parent:Int
 ch:List Nat
 lo:Int
 hi:Int
 free:Int
def iP(nd:Nd)(v:Value):List Value:= [.int .i64 nd.parent,v,.int .u64 nd.lo,.int .u64 nd.hi,.int .u64 nd.free]
def nR(L:List (Nd×Value)):List Value:=L.flatMap fun p=>iP p.1 p.2
def ints(l:List Nat):List Value:=l.map fun x:Nat=>.int .i64 (x:Int)
theorem sq(L:List (Nd×Value)):(nR L).length=L.length*5:=by
 induction L with
 |nil=>rfl
 |cons p L ih=>simp only [nR,List.flatMap_cons,List.length_append,List.length_cons]at*;rw [ih];simp [iP];omega
theorem HQ{L:List (Nd×Value)}{i:Nat}{p:Nd×Value}(h:L[i]? =some p){j:Nat}(hj:j<5):(nR L)[i*5+j]? =(iP p.1 p.2)[j]? :=by
 induction L generalizing i with
 |nil=>simp at h
 |cons q L ih=>
  have hq:(iP q.1 q.2).length=5:=rfl;cases i with
  |zero=>
   simp at h;subst h;simp only [nR,List.flatMap_cons];rw [Nat.zero_mul,Nat.zero_add,List.getElem?_append_left (by omega)]
  |succ i=>
   simp at h;have:=ih h;simp only [nR,List.flatMap_cons]at*;rw [List.getElem?_append_right (by omega),hq,<-this]
   congr 1
   omega
theorem zh{L:List (Nd×Value)}{i:Nat}{p p':Nd×Value}(h:L[i]? =some p){j:Nat}(hj:j<5){v:Value}(hp:iP p'.1 p'.2=(iP p.1 p.2).set j v):
 (nR L).set (i*5+j) v=nR (L.set i p'):=by
 induction L generalizing i with
 |nil=>simp at h
 |cons q L ih=>
  have hq:(iP q.1 q.2).length=5:=rfl;cases i with
  |zero=>
   simp at h;subst h;simp only [nR,List.flatMap_cons,List.set_cons_zero];rw [Nat.zero_mul,Nat.zero_add,List.set_append_left _ _ (by omega),hp]
  |succ i=>
   simp at h;have:=ih h;simp only [nR,List.flatMap_cons,List.set_cons_succ]at*;rw [List.set_append_right _ _ (by omega),hq,<-this]
   congr 2
   omega
structure VP(w:World)(S:Nat->Prop)(p:Nd×Value)(A:Option Addr)(m:Nat):Prop where
 val:p.2=.slice A p.1.ch.length m
 row:Row w 0 fR 1 A p.1.ch.length m (ints p.1.ch)
 jL:∀k,a8 A=some k->S k
structure TV(w:World)(S:Nat->Prop)(g:Nat)(T:List Nd)(d:Int)(b c:Nat)(L:List (Nd×Value)):Prop where
 top:w.heap[g]? =some (.cells #[.slice (some ⟨b,0,none⟩) T.length c,.int .i64 d] sC (0,0))
 fst:L.map Prod.fst=T
 row:Row w 0 iM 5 (some ⟨b,0,none⟩) T.length c (nR L)
 pV:∀(i:Nat) (p:Nd×Value),L[i]? =some p->∃A m,VP w S p A m
 apart:∀(i j:Nat) (p q:Nd×Value),L[i]? =some p->L[j]? =some q->i≠j->∀k,Value.ownBlock p.2=some k->Value.ownBlock q.2≠some k
 gK:S g
 fK:S b
def nZ(w:World)(S:Nat->Prop)(g:Nat)(T:List Nd)(d:Int):Prop:=∃b c L,TV w S g T d b c L
section
variable{w w':World}{S S':Nat->Prop}{g:Nat}{T:List Nd}{d:Int}{b c:Nat}{L:List (Nd×Value)}
theorem TV.at_(h:TV w S g T d b c L){i:Nat}{nd:Nd}(hi:T[i]? =some nd):∃v,L[i]? =some (nd,v):=by
 rw [<-h.fst,List.getElem?_map]at hi;cases hL:L[i]? with
 |none=>simp [hL]at hi
 |some p=>
  rw [hL]at hi;simp at hi;exact⟨p.2,by rw [<-hi]⟩
theorem TV.nodes(h:TV w S g T d b c L):w.cell? ⟨g,0,none⟩=some (.slice (some ⟨b,0,none⟩) T.length c):=by rw [ay h.top];rfl
theorem TV.HV(h:TV w S g T d b c L):w.cell? ⟨g,1,none⟩=some (.int .i64 d):=by rw [ay h.top];rfl
theorem TV.cell(h:TV w S g T d b c L){i:Nat}{p:Nd×Value}(hi:L[i]? =some p){j:Nat}{v:Value}(hj:j<5)(hv:(iP p.1 p.2)[j]? =some v):w.cell? ⟨b,i*5+j,none⟩=some v:=
 Row.cell h.row (by rw [HQ hi hj,hv])
theorem TV.gb(h:TV w S g T d b c L):g≠b:=by
 rintro rfl;obtain⟨_,cur,hc⟩:=Row.bC h.row (k:=g) rfl;rw [h.top]at hc;injection hc with hc;injection hc with _ ht;exact absurd ht (by decide)
theorem VP.ne{p:Nd×Value}{A:Option Addr}{m:Nat}(h:VP w S p A m){k:Nat}{cs:Array Value}{t:TypeId}(hk:w.heap[k]? =some (.cells cs t (0,0)))(ht:t≠fR):a8 A≠some k:=by
 intro e;obtain⟨_,cur,hc⟩:=Row.bC h.row e;rw [hk]at hc;injection hc with hc;injection hc with _ h2;exact ht h2
theorem TV.uS(h:TV w S g T d b c L):∃cur,w.heap[b]? =some (.cells cur iM (0,0)):=(Row.bC h.row rfl).2
theorem TV.aD{S0:Nat->Prop}(h:TV w S g T d b c L)(hk:Kept S0 w w')(hn:∀k,S k->¬S0 k):TV w' S g T d b c L:= {
 top:=hk.heap h.top (hn g h.gK)
 fst:=h.fst
 row:=Row.aD h.row hk (fun k e=>by cases e;exact hn b h.fK)
 pV:=fun i p hp=>let ⟨A,m,h1⟩:=h.pV i p hp;⟨A,m,h1.val,Row.aD h1.row hk (fun k e=>hn k (h1.jL k e)),h1.jL⟩
 apart:=h.apart
 gK:=h.gK
 fK:=h.fK}
theorem nZ.aD{S0:Nat->Prop}(h:nZ w S g T d)(hk:Kept S0 w w')(hn:∀k,S k->¬S0 k):nZ w' S g T d:=
 let ⟨b,c,L,h⟩:=h;⟨b,c,L,h.aD hk hn⟩
theorem nZ.same(h:nZ w S g T d)(hk:Kept Nil w w'):nZ w' S g T d:=h.aD hk fun _ _ h=>h
theorem TV.lt(h:TV w S g T d b c L):g<w.heap.size:=aS h.top
theorem TV.tD(h:TV w S g T d b c L){i:Nat}{nd nd':Nd}{v:Value}(hi:L[i]? =some (nd,v)){j:Nat}(hj:j<5){u:Value}
 (hc:iP nd' v=(iP nd v).set j u) (oL:nd'.ch=nd.ch):
 Wr w ⟨b,i*5+j,none⟩/\TV (w.setCell ⟨b,i*5+j,none⟩ u) S g (T.set i nd') d b c (L.set i (nd',v)):=by
 have dW:i<L.length:=(lgeS hi).1;have cy:i*5+j<(nR L).length:=by rw [sq];omega
 refine⟨Row.wr h.row cy,?_⟩;have eE:=Row.set h.row cy u;rw [zh hi hj (p':=(nd',v)) hc]at eE;have hK:Kept (fun k=>k=b) w (w.setCell ⟨b,i*5+j,none⟩ u):=(Kept.refl (fun k=>k=b) w).setCell (p:=⟨b,i*5+j,none⟩) (fun _=>rfl) u;have fW:∀(k:Nat) (p:Nd×Value),(L.set i (nd',v))[k]? =some p->∃q,L[k]? =some q/\q.2=p.2/\q.1.ch=p.1.ch:=by
  intro k p hp;rw [List.getElem?_set]at hp;by_cases e:i=k
  ·subst e
   rw [if_pos rfl,if_pos dW]at hp;cases hp;exact⟨_,hi,rfl,oL.symm⟩
  ·rw [if_neg e]at hp
   exact⟨p,hp,rfl,rfl⟩
 exact {
  top:=by rw [List.length_set];exact hK.heap h.top h.gb
  fst:=by rw [List.map_set,h.fst]
  row:=by rw [List.length_set];exact eE
  pV:=fun k p hp=>by
   obtain⟨q,hq,h1,h2⟩:=fW k p hp;obtain⟨A,m,hk⟩:=h.pV k q hq;obtain⟨cur,hb⟩:=h.uS;refine⟨A,m,by rw [<-h1,<-h2];exact hk.val,?_,hk.jL⟩;rw [<-h2];exact Row.aD hk.row hK (fun k e e2=>hk.ne hb (by decide) (by rw [e,e2]))
  apart:=fun k l p q hp hq AS=>by
   obtain⟨p',E9,h1,_⟩:=fW k p hp;obtain⟨q',yV,h2,_⟩:=fW l q hq;rw [<-h1,<-h2];exact h.apart k l p' q' E9 yV AS
  gK:=h.gK
  fK:=h.fK}
end
theorem nV(b x y:Nat):((⟨b,0,none⟩:Addr).add x).add y=⟨b,x+y,none⟩:=by rw [a7,a7,Nat.zero_add]
theorem lK(b x:Nat):(⟨b,0,none⟩:Addr).add x=⟨b,x,none⟩:=by rw [a7,Nat.zero_add]
section
variable{w:World}{S:Nat->Prop}{g:Nat}{T:List Nd}{d:Int}{b c:Nat}{L:List (Nd×Value)}
theorem TV.go(h:TV w S g T d b c L){k:Option Addr->Nat->Nat->Prop}(hk:k (some ⟨b,0,none⟩) T.length c):
 ∃A n m,w.cell? ((⟨g,0,none⟩:Addr).add 0)=some (.slice A n m)/\k A n m:=⟨_,_,_,by rw [lK];exact h.nodes,hk⟩
theorem TV.goD(h:TV w S g T d b c L){k:Int->Prop}(hk:k d):∃t,w.cell? ((⟨g,0,none⟩:Addr).add 1)=some (.int .i64 t)/\k t:=
 ⟨_,by rw [lK];exact h.HV,hk⟩
theorem TV.HL(h:TV w S g T d b c L){i:Nat}{nd:Nd}{v:Value}(hi:L[i]? =some (nd,v)){k:Int->Prop}(hk:k nd.parent):
 ∃t,w.cell? (((⟨b,0,none⟩:Addr).add (i*5)).add 0)=some (.int .i64 t)/\k t:=⟨_,by rw [nV];exact h.cell hi (by omega) rfl,hk⟩
theorem TV.Vh(h:TV w S g T d b c L){i:Nat}{nd:Nd}{v:Value}(hi:L[i]? =some (nd,v)){A:Option Addr}{m:Nat}(hv:v=.slice A nd.ch.length m){k:Option Addr->Nat->Nat->Prop}(hk:k A nd.ch.length m):
 ∃A n m,w.cell? (((⟨b,0,none⟩:Addr).add (i*5)).add 1)=some (.slice A n m)/\k A n m:=⟨_,_,_,by rw [nV];exact h.cell hi (by omega) (by rw [hv];rfl),hk⟩
theorem TV.uz(h:TV w S g T d b c L){i:Nat}{nd:Nd}{v:Value}(hi:L[i]? =some (nd,v)){k:Int->Prop}(hk:k nd.lo):
 ∃t,w.cell? (((⟨b,0,none⟩:Addr).add (i*5)).add 2)=some (.int .u64 t)/\k t:=⟨_,by rw [nV];exact h.cell hi (by omega) rfl,hk⟩
theorem TV.ze(h:TV w S g T d b c L){i:Nat}{nd:Nd}{v:Value}(hi:L[i]? =some (nd,v)){k:Int->Prop}(hk:k nd.hi):
 ∃t,w.cell? (((⟨b,0,none⟩:Addr).add (i*5)).add 3)=some (.int .u64 t)/\k t:=⟨_,by rw [nV];exact h.cell hi (by omega) rfl,hk⟩
theorem TV.xk(h:TV w S g T d b c L){i:Nat}{nd:Nd}{v:Value}(hi:L[i]? =some (nd,v)){k:Int->Prop}(hk:k nd.free):
 ∃t,w.cell? (((⟨b,0,none⟩:Addr).add (i*5)).add 4)=some (.int .u64 t)/\k t:=⟨_,by rw [nV];exact h.cell hi (by omega) rfl,hk⟩
theorem TV.kept{w':World}(h:TV w S g T d b c L)(hk:Kept Nil w w'):TV w' S g T d b c L:=h.aD hk fun _ _ h=>h
end
section
variable{w:World}{S:Nat->Prop}{g:Nat}{T:List Nd}{d:Int}{K:Value->World->Prop}
theorem wG(h:nZ w S g T d)(n:Int)(hK:K (.bool (decide (0<=n/\n<T.length))) w):
 bj prog gY.id #[.pointer (some ⟨g,0,none⟩),.int .i64 n] w K:=by
 obtain⟨b,c,L,h⟩:=h;refine gY.of (Split.yes rfl (Split.dec (fun h0=>h.go ?_) (fun h0=>?_)))
 ·rwa [show decide (0<=n/\n<(T.length:Int))=decide (n<(T.length:Int))from by simp [show(0:Int)<=n from h0]]at hK
 ·rwa [decide_eq_false (fun e:0<=n/\n<(T.length:Int)=>h0 e.1)]at hK
theorem FE(h:nZ w S g T d)(hT:0<T.length)(n:Int)(hK:K (.int .i64 (if 0<=n/\n<T.length then 0 else 6)) w):
 bj prog fM.id #[.pointer (some ⟨g,0,none⟩),.int .i64 n] w K:=by
 have h0:=h;obtain⟨b,c,L,h⟩:=h;refine fM.of (Split.no rfl (h.go (Split.no (beq_eq_false_iff_ne.2 (by omega)) (wG h0 n ⟨_,rfl,?_⟩))));by_cases hn:0<=n/\n<(T.length:Int)
 ·rw [if_pos hn]at hK
  exact Split.no (by simp [hn]) hK
 ·rw [if_neg hn]at hK
  exact Split.yes (by simp only [decide_eq_false hn];rfl) hK
theorem rU(h:nZ w S g T d){n:Nat}(hn:n<T.length)(hK:K (.int .i64 0) w):
 bj prog fM.id #[.pointer (some ⟨g,0,none⟩),.int .i64 n] w K:=FE h (by omega) n (by rw [if_pos ⟨by omega,by omega⟩];exact hK)
theorem Dj(h:nZ w S g T d){n:Nat}{nd:Nd}(hn:T[n]? =some nd)(hK:∀w',Kept Nil w w'->K (.int .u64 (u64.wrap (nd.hi-nd.free))) w'):
 bj prog ft.id #[.pointer (some ⟨g,0,none⟩),.int .i64 n] w K:=by
 obtain⟨b,c,L,h⟩:=h;have cy:n<T.length:=(lgeS hn).1;obtain⟨v,hv⟩:=h.at_ hn;refine ft.of ?_;unfold ft.W;intro w1;have k1:Kept Nil w w1:=(Kept.refl Nil w).drew;have h1:=h.kept k1;have hb:0<=(n:Int)/\(n:Int)<(T.length:Int):=⟨by omega,by omega⟩;exact h1.go ⟨hb,h1.ze hv (h1.go ⟨hb,h1.xk hv (hK w1 k1)⟩)⟩
theorem xY(h:nZ w S g T d){n:Nat}{nd:Nd}(hn:T[n]? =some nd)(h0:0<n)(hK:K (.tuple #[.int .i64 nd.parent,.int .i64 0]) w):
 bj prog fh.id #[.pointer (some ⟨g,0,none⟩),.int .i64 n] w K:=by
 have cy:n<T.length:=(lgeS hn).1;refine fh.of (rU h cy ⟨_,rfl,Split.yes rfl (Split.no (beq_eq_false_iff_ne.2 (by omega)) (Split.no rfl ?_))⟩);obtain⟨b,c,L,h⟩:=h;obtain⟨v,hv⟩:=h.at_ hn;exact h.go ⟨⟨by omega,by omega⟩,h.HL hv hK⟩
theorem FL:xN prog eR fR 1 8:=⟨by kernel_rfl,by kernel_rfl⟩
theorem wJ:xN prog gS iM 5 56:=⟨by kernel_rfl,by kernel_rfl⟩
end
theorem fk{x:Int}(h0:0<=x)(h1:x<18446744073709551616):u64.wrap x=x:=by
 simp only [IntKind.wrap,IntKind.bits,IntKind.signed];simp;omega
theorem gQ{x:Int}(h0: -9223372036854775808<=x)(h1:x<9223372036854775808):i64.wrap x=x:=by
 simp only [IntKind.wrap,IntKind.bits,IntKind.signed];simp;omega
def uy(T:List Nd)(n p:Nat)(nd pd:Nd)(many:Int):List Nd:=
 (T.set n {nd with lo:=pd.free,hi:=pd.free+many-1,free:=pd.free}).set p {pd with free:=pd.free+many}
section
variable{w:World}{S:Nat->Prop}{g:Nat}{T:List Nd}{d:Int}{K:Value->World->Prop}
theorem ij{α:Type}{L:List α}{i:Nat}{x y:α}(h:L[i]? =some x):(L.set i y)[i]? =some y:=by
 rw [List.getElem?_set_self (lgeS h).1]
theorem nf{α:Type}{L:List α}{i j:Nat}{x y:α}(h:L[j]? =some x)(fg:i≠j):(L.set i y)[j]? =some x:=by
 rw [List.getElem?_set_ne fg];exact h
theorem tu{b c:Nat}{L:List (Nd×Value)}(h:TV w S g T d b c L){n p:Nat}{nd pd:Nd}{many:Int}(hn:T[n]? =some nd)(hp:T[p]? =some pd)(Qk:nd.parent=p)(fg:n≠p)
 (hf:0<=pd.free) (hm:1<=many) (hfm:pd.free+many<18446744073709551616)
 (hK:∀w' L',TV w' S g (uy T n p nd pd many) d b c L'->Kept (fun k=>k=b) w w'->K (.tuple #[]) w'):
 bj prog fu.id #[.pointer (some ⟨g,0,none⟩),.int .i64 n,.int .u64 many] w K:=by
 have xH:n<T.length:=(lgeS hn).1;have nz:p<T.length:=(lgeS hp).1;obtain⟨v,hv⟩:=h.at_ hn;obtain⟨u,hu⟩:=h.at_ hp;have WJ:0<=(n:Int)/\(n:Int)<(T.length:Int):=⟨by omega,by omega⟩;have Et:0<=nd.parent/\nd.parent<(T.length:Int):=by rw [Qk];exact⟨by omega,by omega⟩
 refine fu.of (h.go ⟨WJ,Is.mk rfl ?_⟩);intro w7;have k7:Kept (fun k=>k=b) w w7:=(Kept.refl _ w).drew;have h7:TV w7 S g T d b c L:=h.kept (Kept.refl Nil w).drew;refine h7.go (h7.HL hv ⟨Et,Is.mk rfl ?_⟩);rw [Qk];refine h7.xk hu ?_;obtain⟨Xo,CU⟩:=h7.tD hv (j:=2) (by omega) (u:=.int .u64 pd.free) (nd':= {nd with lo:=pd.free}) rfl rfl;have kS:∀ {w w':World},Kept (fun k=>k=b) w w'->∀(j:Nat) (u:Value),Kept (fun k=>k=b) w (w'.setCell ⟨b,j,none⟩ u):=fun k j u=>k.setCell (fun _=>rfl) u;have v1:(L.set n ({nd with lo:=pd.free},v))[n]? =some ({nd with lo:=pd.free},v):=ij hv;refine⟨by rw [nV];exact Xo,?_⟩;intro lN;have e13:lN=w7.setCell ⟨b,n*5+2,none⟩ (.int .u64 pd.free):=by simp only [lN,nV,Int.toNat_natCast]
 have uW:Kept (fun k=>k=b) w lN:=by rw [e13];exact kS k7 _ _
 rw [<-e13]at CU;clear_value lN;refine CU.uz v1 ?_;obtain⟨wr2,HJ⟩:=CU.tD v1 (j:=3) (by omega) (u:=.int .u64 (u64.wrap (u64.wrap (pd.free+many)-1))) (nd':= {nd with lo:=pd.free,hi:=pd.free+many-1}) (by rw [fk (x:=pd.free+many) (by omega) (by omega),fk (by omega) (by omega)];rfl) rfl;refine⟨by rw [nV];exact wr2,?_⟩;intro mn;have e15:mn=lN.setCell ⟨b,n*5+3,none⟩ (.int .u64 (u64.wrap (u64.wrap (pd.free+many)-1))):=by simp only [mn,nV,Int.toNat_natCast]
 have sg:Kept (fun k=>k=b) w mn:=by rw [e15];exact kS uW _ _
 rw [<-e15]at HJ;clear_value mn;rw [List.set_set,List.set_set]at HJ;have v2:(L.set n ({nd with lo:=pd.free,hi:=pd.free+many-1},v))[n]? =some ({nd with lo:=pd.free,hi:=pd.free+many-1},v):=ij hv;refine HJ.uz v2 ?_;obtain⟨Xn,WU⟩:=HJ.tD v2 (j:=4) (by omega) (u:=.int .u64 pd.free) (nd':= {nd with lo:=pd.free,hi:=pd.free+many-1,free:=pd.free}) rfl rfl;refine⟨by rw [nV];exact Xn,?_⟩;intro vJ;have e17:vJ=mn.setCell ⟨b,n*5+4,none⟩ (.int .u64 pd.free):=by simp only [vJ,nV,Int.toNat_natCast]
 have GD:Kept (fun k=>k=b) w vJ:=by rw [e17];exact kS sg _ _
 rw [<-e17]at WU;clear_value vJ;rw [List.set_set,List.set_set]at WU;have u3:(L.set n ({nd with lo:=pd.free,hi:=pd.free+many-1,free:=pd.free},v))[p]? =some (pd,u):=nf hu fg;refine WU.xk u3 ?_;obtain⟨wr4,h19⟩:=WU.tD u3 (j:=4) (by omega) (u:=.int .u64 (u64.wrap (pd.free+many))) (nd':= {pd with free:=pd.free+many}) (by rw [fk (by omega) (by omega)];rfl) rfl;refine⟨by rw [nV];exact wr4,?_⟩;intro nX;have e19:nX=vJ.setCell ⟨b,p*5+4,none⟩ (.int .u64 (u64.wrap (pd.free+many))):=by simp only [nX,nV,Int.toNat_natCast]
 exact hK nX _ (by rw [e19];exact h19) (by rw [e19];exact kS GD _ _)
theorem Dk(h:nZ w S g T d){n p:Nat}{nd pd:Nd}{many:Int}(hn:T[n]? =some nd)(hp:T[p]? =some pd)(Qk:nd.parent=p)(fg:n≠p)
 (hf:0<=pd.free) (hm:1<=many) (hfm:pd.free+many<18446744073709551616)
 (hK:∀w',nZ w' S g (uy T n p nd pd many) d->Kept S w w'->K (.tuple #[]) w'):
 bj prog fu.id #[.pointer (some ⟨g,0,none⟩),.int .i64 n,.int .u64 many] w K:=by
 obtain⟨b,c,L,h⟩:=h;exact tu h hn hp Qk fg hf hm hfm fun w' L' h' k'=>hK w' ⟨b,c,L',h'⟩ (k'.mono fun k _ e=>by rw [e];exact h.fK)
end
section
variable{w:World}{S:Nat->Prop}{g:Nat}{T:List Nd}{d:Int}{b c:Nat}{L:List (Nd×Value)}
theorem zi(L M:List (Nd×Value)):nR (L++M)=nR L++nR M:=by simp [nR]
theorem TV.HK(h:TV w S g T d b c L)(kY:T.length<=1000000)(p:Int){w10:World}
 (e10:w10=w.alloc (.cells #[.int .i64 p,.slice none 0 0,.int .u64 0,.int .u64 0,.int .u64 0] iM)):
 ∃A c' lQ,(Builtin.append_ #[gS,gS] gS #[.slice (some ⟨b,0,none⟩) T.length c,.slice (some ⟨w.heap.size,0,none⟩) 1 1]).run prog w10=.ok (.slice A (T.length+1) c') lQ/\
  Wr lQ ⟨g,0,none⟩/\∃b' S' L',TV (lQ.setCell ⟨g,0,none⟩ (.slice A (T.length+1) c')) S' g (T++ [⟨p,[],0,0,0⟩]) d b' c' L'/\(∀(i:Nat) q,L[i]? =some q->L'[i]? =some q)/\
   Kept S w (lQ.setCell ⟨g,0,none⟩ (.slice A (T.length+1) c'))/\(∀k,S k->S' k)/\(∀k,S' k->S k\/w.heap.size<=k):=by
 subst e10;generalize NO:w.alloc (.cells #[.int .i64 p,.slice none 0 0,.int .u64 0,.int .u64 0,.int .u64 0] iM)=w10;have jP:w10.heap[w.heap.size]? =some (.cells #[.int .i64 p,.slice none 0 0,.int .u64 0,.int .u64 0,.int .u64 0] iM (0,0)):=by rw [<-NO];exact aJ w _
 have nK:Kept Nil w w10:=by rw [<-NO];exact(Kept.refl Nil w).alloc _
 have JP:w10.heap.size=w.heap.size+1:=by rw [<-NO];simp
 have uZ:=h.kept nK;obtain⟨A,c',lQ,hr,eE,hg,xJ⟩:=eN (P:=prog) (t:=gS) (ty:=gS) wJ uZ.row (a:=⟨w.heap.size,0,none⟩) (m:=1) (cx:=1)
  (news:=iP ⟨p,[],0,0,0⟩ (.slice none 0 0)) rfl (fun j u hj=>by rw [lK,ay jP];simpa [iP]using hj) (by intro u hu;simp [iP]at hu;rcases hu with rfl|rfl|rfl|rfl|rfl<;>rfl)
  (by omega) (by unfold maxLen;omega) (Nat.zero_le _)
 obtain⟨b',rfl⟩:=Row.some eE (by omega);have kb:Kept (fun k=>k=b) w10 lQ:=(Kept.refl _ w10).grown hg (fun k hk _=>by cases hk;rfl);have iH:lQ.heap[g]? =some (.cells #[.slice (some ⟨b,0,none⟩) T.length c,.int .i64 d] sC (0,0)):=kb.heap uZ.top h.gb;refine⟨_,c',lQ,hr,dK iH (show 0<2 by omega),?_⟩;generalize Sd:lQ.setCell ⟨g,0,none⟩ (.slice (some ⟨b',0,none⟩) (T.length+1) c')=wf;have kg:Kept (fun k=>k=g) lQ wf:=by rw [<-Sd];exact(Kept.refl (fun k=>k=g) lQ).setCell (p:=⟨g,0,none⟩) (fun _=>rfl) _
 have vr:b'=b\/w10.heap.size<=b':=by
  rcases xJ b' rfl with h|h
  ·left;cases h;rfl
  ·exact .inr h
 have aaY:b'≠g:=by
  rintro rfl;obtain⟨_,cur,hc⟩:=Row.bC eE (k:=b') rfl;rw [iH]at hc;injection hc with hc;injection hc with _ ht;exact absurd ht (by decide)
 have En:∀(i:Nat) (q:Nd×Value),L[i]? =some q->∃A m,VP wf S q A m:=by
  intro i q hq;obtain⟨A,m,hk⟩:=uZ.pV i q hq;obtain⟨cur,Qt⟩:=uZ.uS;have r1:=Row.aD hk.row kb (fun k e e2=>hk.ne Qt (by decide) (by rw [e,e2]));have r2:=Row.aD r1 kg (fun k e e2=>hk.ne uZ.top (by decide) (by rw [e,e2]));exact⟨A,m,hk.val,r2,hk.jL⟩
 refine⟨b',fun k=>S k\/k=b',L++ [(⟨p,[],0,0,0⟩,.slice none 0 0)],?_,fun i q hq=>?_,?_,fun k hk=>.inl hk,?_⟩
 ·exact {
   top:=by
    have:=cS iH 0 (.slice (some ⟨b',0,none⟩) (T.length+1) c');rw [Sd]at this;simpa using this
   fst:=by simp [h.fst]
   row:=by
    rw [zi,List.length_append];have:=Row.aD eE kg (fun k e e2=>aaY (by cases e;exact e2));simpa [nR]using this
   pV:=fun i q hq=>by
    rw [List.getElem?_append]at hq;split at hq
    ·obtain⟨A,m,hk⟩:=En i q hq
     exact⟨A,m,hk.val,hk.row,fun k e=>.inl (hk.jL k e)⟩
    ·rename_i cy
     have:i-L.length=0:=by
      rcases Nat.eq_zero_or_pos (i-L.length)with h|h
      ·exact h
      ·rw [List.getElem?_eq_none (by simp;omega)]at hq;cases hq
     rw [this]at hq;simp at hq;subst hq;exact⟨none,0,rfl,Row.nil _ _ _ _,fun k e=>by cases e⟩
   apart:=fun i j q q' hq yV qF k hk nC=>by
    rw [List.getElem?_append]at hq yV;have last:∀(x:Nat) (r:Nd×Value),[((⟨p,[],0,0,0⟩:Nd),Value.slice none 0 0)][x]? =some r->r.2=.slice none 0 0:=by
     intro x r hr;cases x with
     |zero=>simp at hr;subst hr;rfl
     |succ x=>simp at hr
    split at hq<;>split at yV
    ·exact h.apart i j q q' hq yV qF k hk nC
    ·rw [last _ _ yV]at nC;cases nC
    ·rw [last _ _ hq]at hk;cases hk
    ·rw [last _ _ yV]at nC;cases nC
   gK:=.inl h.gK
   fK:=.inr rfl}
 ·rw [List.getElem?_append_left (lgeS hq).1];exact hq
 ·have xD:Kept S w lQ:=(nK.mono (S':=S) (fun _ _ h=>h.elim)).trans kb (fun k _ e=>by rw [e];exact h.fK)
  exact xD.trans kg (fun k _ e=>by rw [e];exact h.gK)
 ·rintro k (hk|rfl)
  ·exact .inl hk
  ·rcases vr with rfl|vr
   ·exact .inl h.fK
   ·right;omega
theorem TV.Kx(h:TV w S g T d b c L){p:Nat}{nd:Nd}{v:Value}(hp:L[p]? =some (nd,v)){A:Option Addr}{m:Nat}(hk:VP w S (nd,v) A m)(kY:nd.ch.length<=1000000)(n:Nat){w22:World}
 (e22:w22=w.alloc (.cells #[.int .i64 n] fR)):
 ∃A' c' kW,(Builtin.append_ #[eR,eR] eR #[.slice A nd.ch.length m,.slice (some ⟨w.heap.size,0,none⟩) 1 1]).run prog w22=.ok (.slice A' (nd.ch.length+1) c') kW/\
  kW.cell? ⟨g,0,none⟩=some (.slice (some ⟨b,0,none⟩) T.length c)/\Wr kW ⟨b,p*5+1,none⟩/\
  ∃S' L',TV (kW.setCell ⟨b,p*5+1,none⟩ (.slice A' (nd.ch.length+1) c')) S' g (T.set p {nd with ch:=nd.ch++ [n]}) d b c L'/\
   Kept S w (kW.setCell ⟨b,p*5+1,none⟩ (.slice A' (nd.ch.length+1) c'))/\(∀k,S k->S' k)/\(∀k,S' k->S k\/w.heap.size<=k):=by
 subst e22;generalize NN:w.alloc (.cells #[.int .i64 n] fR)=w22;have jP:w22.heap[w.heap.size]? =some (.cells #[.int .i64 n] fR (0,0)):=by rw [<-NN];exact aJ w _
 have RY:Kept Nil w w22:=by rw [<-NN];exact(Kept.refl Nil w).alloc _
 have ag5:w22.heap.size=w.heap.size+1:=by rw [<-NN];simp
 have A9:=h.kept RY;have NZ:=Row.aD hk.row RY (fun _ _ h=>h);have nz:p<L.length:=(lgeS hp).1;obtain⟨A',c',kW,hr,eE,hg,xJ⟩:=eN (P:=prog) (t:=eR) (ty:=eR) FL NZ (a:=⟨w.heap.size,0,none⟩) (m:=1) (cx:=1)
  (news:=ints [n]) rfl (fun j u hj=>by rw [lK,ay jP];simpa [ints]using hj) (by intro u hu;simp [ints]at hu;subst hu;rfl)
  (by simp only;omega) (by unfold maxLen;simp only;omega) (Nat.zero_le _)
 obtain⟨cur,Qt⟩:=A9.uS;obtain⟨ajj,hb0⟩:=h.uS;have LP:a8 A≠some b:=hk.ne hb0 (by decide);have hkg:a8 A≠some g:=hk.ne h.top (by decide);have kA:Kept (fun k=>a8 A=some k) w22 kW:=(Kept.refl _ w22).grown hg (fun k hk _=>hk);have HI:Row kW 0 iM 5 (some ⟨b,0,none⟩) T.length c (nR L):=Row.aD A9.row kA (fun k e e2=>LP (by rw [e2,<-e];rfl));have HH:=kA.heap A9.top (fun e=>hkg e);have cy:p*5+1<(nR L).length:=by rw [sq];omega
 refine⟨A',c',kW,hr,by rw [ay HH];rfl,Row.wr HI cy,?_⟩;generalize Sd:kW.setCell ⟨b,p*5+1,none⟩ (.slice A' (nd.ch.length+1) c')=wf;have kB:Kept (fun k=>k=b) kW wf:=by rw [<-Sd];exact(Kept.refl (fun k=>k=b) kW).setCell (p:=⟨b,p*5+1,none⟩) (fun _=>rfl) _
 have abv:a8 A'≠some b:=by
  intro e;obtain⟨_,Vs,hc⟩:=Row.bC eE e;have:=kA.heap Qt LP;rw [this]at hc;injection hc with hc;injection hc with _ ht;exact absurd ht (by decide)
 have uj:∀(A:Option Addr) n m,Value.ownBlock (.slice A n m)=a8 A:=by intro A n m;cases A<;>rfl
 have fW:∀(i:Nat) (q:Nd×Value),(L.set p ({nd with ch:=nd.ch++ [n]},.slice A' (nd.ch.length+1) c'))[i]? =some q->(i=p/\q=({nd with ch:=nd.ch++ [n]},.slice A' (nd.ch.length+1) c'))\/(i≠p/\L[i]? =some q):=by
  intro i q hq;by_cases e:p=i
  ·subst e
   rw [List.getElem?_set_self nz]at hq;cases hq;exact .inl ⟨rfl,rfl⟩
  ·rw [List.getElem?_set_ne e]at hq
   exact .inr ⟨fun h=>e h.symm,hq⟩
 have LI:∀k,a8 A'=some k->∀(i:Nat) (q:Nd×Value),i≠p->L[i]? =some q->Value.ownBlock q.2≠some k:=by
  intro k nC i q hi hq Zi;rcases xJ k nC with e|e
  ·exact h.apart p i _ _ hp hq (fun e=>hi e.symm) k (by rw [hk.val,uj];exact e) Zi
  ·obtain⟨A2,m2,nA⟩:=h.pV i q hq
   rw [nA.val,uj]at Zi;obtain⟨_,aji,LW⟩:=Row.bC nA.row Zi;have:=aS LW;omega
 refine⟨fun k=>S k\/a8 A'=some k,L.set p ({nd with ch:=nd.ch++ [n]},.slice A' (nd.ch.length+1) c'),?_,?_,fun k hk=>.inl hk,?_⟩
 ·exact {
   top:=by rw [List.length_set];exact kB.heap HH h.gb
   fst:=by rw [List.map_set,h.fst]
   row:=by
    rw [List.length_set];have:=Row.set HI cy (.slice A' (nd.ch.length+1) c');rw [Sd,zh hp (j:=1) (by omega) (p':=({nd with ch:=nd.ch++ [n]},.slice A' (nd.ch.length+1) c')) rfl]at this;exact this
   pV:=fun i q hq=>by
    rcases fW i q hq with⟨rfl,rfl⟩|⟨hi,hq⟩
    ·refine⟨A',c',by simp,?_,fun k e=>.inr e⟩
     have:=Row.aD eE kB (fun k e e2=>abv (by rw [e,e2]));simpa [ints]using this
    ·obtain⟨A2,m2,nA⟩:=A9.pV i q hq
     have r1:=Row.aD nA.row kA (fun k e e2=>h.apart p i _ _ hp hq (fun e=>hi e.symm) k (by rw [hk.val,uj];exact e2) (by rw [nA.val,uj];exact e));have r2:=Row.aD r1 kB (fun k e e2=>nA.ne Qt (by decide) (by rw [e,e2]));exact⟨A2,m2,nA.val,r2,fun k e=>.inl (nA.jL k e)⟩
   apart:=fun i j q q' hq yV qF k IH nA=>by
    rcases fW i q hq with⟨e1,e2⟩|⟨hi,LC⟩<;>rcases fW j q' yV with⟨e3,e4⟩|⟨hj,Qg⟩
    ·exact qF (e1.trans e3.symm)
    ·rw [e2,uj]at IH;exact LI k IH j q' hj Qg nA
    ·rw [e4,uj]at nA;exact LI k nA i q hi LC IH
    ·exact h.apart i j q q' LC Qg qF k IH nA
   gK:=.inl h.gK
   fK:=.inl h.fK}
 ·have pF:Kept S w kW:=(RY.mono (S':=S) (fun _ _ h=>h.elim)).trans kA (fun k _ e=>hk.jL k e)
  exact pF.trans kB (fun k _ e=>by rw [e];exact h.fK)
 ·rintro k (nC|nC)
  ·exact .inl nC
  ·rcases xJ k nC with e|e
   ·exact .inl (hk.jL k e)
   ·right;omega
end
def grown(T:List Nd)(p:Nat)(pd:Nd):List Nd:=(T++ [(⟨p,[],0,0,0⟩:Nd)]).set p {pd with ch:=pd.ch++ [T.length]}
def iI(pd:Nd):Int:=(pd.hi-pd.free+1)/2
def added(T:List Nd)(p:Nat)(pd:Nd):List Nd:=uy (grown T p pd) T.length p ⟨p,[],0,0,0⟩ {pd with ch:=pd.ch++ [T.length]} (iI pd)
section
variable{w:World}{S:Nat->Prop}{g:Nat}{T:List Nd}{d:Int}{K:Value->World->Prop}
theorem tw(h:nZ w S g T d){p:Nat}{pd:Nd}(hp:T[p]? =some pd)(kY:T.length<=1000000)(oL:pd.ch.length<=1000000)
 (hf:0<=pd.free) (hfh:pd.free<=pd.hi) (hh:pd.hi<=4611686018427387904)
 (hK1:pd.free<pd.hi->∀w' S',nZ w' S' g (added T p pd) d->Kept S w w'->(∀k,S' k->S k\/w.heap.size<=k)->K (.tuple #[.int .i64 T.length,.int .i64 0]) w')
 (hK2:pd.free=pd.hi->∀w' S',nZ w' S' g (grown T p pd) d->Kept S w w'->(∀k,S' k->S k\/w.heap.size<=k)->
   bj prog aw.id #[.pointer (some ⟨g,0,none⟩),.int .i64 p] w' fun v kM=>v=.tuple #[]/\K (.tuple #[.int .i64 T.length,.int .i64 0]) kM):
 bj prog fN.id #[.pointer (some ⟨g,0,none⟩),.int .i64 p] w K:=by
 have cy:p<T.length:=(lgeS hp).1;refine fN.of (rU h cy ⟨_,rfl,Split.no rfl ?_⟩);obtain⟨b,c,L,h⟩:=h;obtain⟨v,hv⟩:=h.at_ hp;refine h.go (h.go ⟨rfl,?_⟩);intro w10;obtain⟨A1,c1,lQ,ki,Xo,b1,S1,L1,h14,hL1,Iz,hS1,UZ⟩:=h.HK kY (p:Int) (w10:=w10) rfl;refine⟨A1,_,c1,lQ,ki,by rw [lK];exact Xo,?_⟩;intro gX;have e14:gX=lQ.setCell ⟨g,0,none⟩ (.slice A1 (T.length+1) c1):=by simp only [gX,lK]
 rw [<-e14]at h14 Iz;clear_value gX;intro mn;have sg:Kept Nil gX mn:=(Kept.refl Nil gX).drew;have HJ:=h14.kept sg;have ID:=hL1 _ _ hv;have hlen:(T++ [(⟨p,[],0,0,0⟩:Nd)]).length=T.length+1:=by simp
 have L6:0<=(p:Int)/\(p:Int)<((T++ [(⟨p,[],0,0,0⟩:Nd)]).length:Int):=by rw [hlen];exact⟨by omega,by omega⟩
 obtain⟨A2,m2,hk⟩:=HJ.pV _ _ ID;refine HJ.go (HJ.go ⟨L6,HJ.Vh ID hk.val ?_⟩);intro w22;have RY:Kept Nil mn w22:=(Kept.refl Nil mn).alloc _;have A9:=HJ.kept RY;obtain⟨A3,c3,kW,CG,Tk,Xn,S3,L3,WT,Ea,hS3,aa9⟩:=HJ.Kx ID hk oL T.length (w22:=w22) rfl;have yZ:=A9.cell ID (j:=1) (by omega) (v:=v) rfl;have hvv:v=.slice A2 pd.ch.length m2:=hk.val;rw [hvv]at yZ;refine⟨by rw [nV];exact yZ,by rw [lK];exact A9.nodes,by rw [lK];exact A9.nodes,A3,_,c3,kW,CG,by rw [lK];exact Tk,L6,by rw [nV];exact Xn,?_⟩;intro pK;have e26:pK=kW.setCell ⟨b1,p*5+1,none⟩ (.slice A3 (pd.ch.length+1) c3):=by simp only [pK,nV,Int.toNat_natCast]
 rw [<-e26]at WT Ea;clear_value pK;have JN:(T++ [(⟨p,[],0,0,0⟩:Nd)]).set p {pd with ch:=pd.ch++ [T.length]}=grown T p pd:=rfl;rw [JN]at WT;have hgp:(grown T p pd)[p]? =some {pd with ch:=pd.ch++ [T.length]}:=by
  unfold grown;rw [List.getElem?_set_self (by simp;omega)]
 have hgn:(grown T p pd)[T.length]? =some ⟨p,[],0,0,0⟩:=by
  unfold grown;rw [List.getElem?_set_ne (by omega)];simp
 have kw:Kept S w pK:=(Iz.tt (sg.mono (S':=S) (fun _ _ h=>h.elim))).trans Ea (fun k hk h=>by
  rcases UZ k h with h|h
  ·exact h
  ·omega)
 have Ph:∀k,S3 k->S k\/w.heap.size<=k:=fun k h=>by
  rcases aa9 k h with h|h
  ·exact UZ k h
  ·right
   have:=Iz.size;have:=sg.size;omega
 refine Dj ⟨_,_,_,WT⟩ hgp fun E0 Gz=>⟨_,rfl,?_⟩;have h28:=WT.kept Gz;have Rz:Kept S w E0:=kw.trans Gz (fun _ _ h=>h.elim);simp only [];rw [fk (x:=pd.hi-pd.free) (by omega) (by omega)];refine Split.dec (fun im=>⟨by decide,?_⟩) (fun im=>?_)
 ·have CP:u64.wrap ((u64.wrap (pd.hi-pd.free+1)).tdiv 2)=iI pd:=by
   rw [fk (x:=pd.hi-pd.free+1) (by omega) (by omega),Int.tdiv_eq_ediv_of_nonneg (by omega),fk (by omega) (by omega)];rfl
  rw [CP];refine Dk ⟨_,_,_,h28⟩ hgn hgp rfl (by omega) hf (by unfold iI;omega) (by unfold iI;simp only;omega) fun Fx h31 Ld=>⟨rfl,?_⟩;refine hK1 (by omega) Fx S3 h31 (Rz.trans Ld fun k hk h=>?_) Ph;rcases Ph k h with h|h
  ·exact h
  ·omega
 ·exact hK2 (by omega) E0 S3 ⟨_,_,_,h28⟩ Rz Ph
end
section
variable{w:World}{S:Nat->Prop}{g:Nat}{T:List Nd}{d:Int}{K:Value->World->Prop}
def pB:List Nd:= [⟨-1,[],1,4611686018427387904,1⟩]
theorem eh(hK:∀w' g,nZ w' (fun k=>w.heap.size<=k) g pB 0->Kept Nil w w'->K (.pointer (some ⟨g,0,none⟩)) w'):bj prog eh.id #[] w K:=by
 refine eh.of ⟨rfl,?_⟩;intro w1 w2;have k1:Kept Nil w w1:=(Kept.refl Nil w).alloc _;have k2:Kept Nil w w2:=k1.alloc _;refine hK w2 w1.heap.size ⟨w.heap.size,1,[(⟨-1,[],1,4611686018427387904,1⟩,.slice none 0 0)],?_⟩ k2;exact {
  top:=aJ w1 _
  fst:=rfl
  row:=Row.made (n:=1) (cur:= #[.int .i64 (-1),.slice none 0 0,.int .u64 1,.int .u64 4611686018427387904,.int .u64 1]) (jK (aJ w _) _) (Nat.zero_le _) rfl (by decide)
  pV:=fun i p hp=>by
   cases i with
   |zero=>simp at hp;subst hp;exact⟨none,0,rfl,Row.nil _ _ _ _,fun k e=>by cases e⟩
   |succ i=>simp at hp
  apart:=fun i j p q hp hq qF=>by
   cases i<;>cases j<;>simp at hp hq
   exact absurd rfl qF
  gK:=k1.size
  fK:=Nat.le_refl _}
theorem zU(h:nZ w S g T d){a b:Nat}{ad bd:Nd}(ha:T[a]? =some ad)(hb:T[b]? =some bd)(hK:∀w',Kept Nil w w'->K (.bool (decide (bd.lo<=ad.lo/\ad.hi<=bd.hi))) w'):
 bj prog eZ.id #[.pointer (some ⟨g,0,none⟩),.int .i64 a,.int .i64 b] w K:=by
 have hal:a<T.length:=(lgeS ha).1;have xJ:b<T.length:=(lgeS hb).1;have hba:0<=(a:Int)/\(a:Int)<(T.length:Int):=⟨by omega,by omega⟩;have vq:0<=(b:Int)/\(b:Int)<(T.length:Int):=⟨by omega,by omega⟩;refine eZ.of ?_;unfold eZ.W;intro w4;have k4:Kept Nil w w4:=(Kept.refl Nil w).drew;have h4:=h.same k4;have hk:=hK w4 k4;refine wG h4 a ⟨_,rfl,Split.yes (decide_eq_true hba) ?_⟩;refine wG h4 b ⟨_,rfl,Split.yes (decide_eq_true vq) ?_⟩;obtain⟨p,c,L,h4⟩:=h4;obtain⟨va,hva⟩:=h4.at_ ha;obtain⟨vb,Sg⟩:=h4.at_ hb;refine h4.go ⟨vq,h4.uz Sg (h4.go ⟨hba,h4.uz hva ?_⟩)⟩;refine Split.dec (fun h1=>h4.go ⟨hba,h4.ze hva (h4.go ⟨vq,h4.ze Sg ?_⟩)⟩) (fun h1=>?_)
 ·rwa [show decide (bd.lo<=ad.lo/\ad.hi<=bd.hi)=decide (ad.hi<=bd.hi)from by simp [h1]]at hk
 ·rwa [decide_eq_false (fun e:bd.lo<=ad.lo/\ad.hi<=bd.hi=>h1 e.1)]at hk
end
section
variable{w:World}{t:Option Addr}{K:Value->World->Prop}
end
end Go.Proofs.YtnboahlopghcjaaGreatDoor.Tr
namespace Go.Proofs.YtnboahlopghcjaaGreatDoor.Tr
open Go.Proofs.Tryz
def bN(T:List Nd):List Int:=T.map (·.parent)
structure mL(P:List Int):Prop where
 root:P[0]? =some (-1)
 up:∀(i:Nat) (p:Int),0<i->P[i]? =some p->∃j:Nat,j<i/\p=j
def kids(P:List Int)(i:Nat):List Nat:=(List.range P.length).filter fun j=>P[j]? ==some (i:Int)
theorem eA{P:List Int}{i j:Nat}:j∈kids P i↔P[j]? =some (i:Int):=by
 simp only [kids,List.mem_filter,List.mem_range,beq_iff_eq];exact⟨fun h=>h.2,fun h=>⟨(lgeS h).1,h⟩⟩
theorem iB{P:List Int}(hP:mL P){i j:Nat}(h:j∈kids P i):i<j/\j<P.length:=by
 rw [eA]at h;refine⟨?_,(lgeS h).1⟩;rcases Nat.eq_zero_or_pos j with rfl|hj
 ·rw [hP.root]at h;have:=Option.some.inj h;omega
 ·obtain⟨k,hk,e⟩:=hP.up j _ hj h
  omega
theorem se(P:List Int)(i:Nat):(kids P i).Pairwise (· < ·):=List.Pairwise.filter _ (List.pairwise_lt_range)
theorem yH(P:List Int)(i:Nat):(kids P i).length<=P.length:=by
 unfold kids;exact Nat.le_trans (List.length_filter_le _ _) (by simp)
inductive jC (P:List Int):Nat->Nat->Prop
 |refl {i:Nat}:i<P.length->jC P i i
 |step {i j k:Nat}:P[i]? =some (j:Int)->jC P j k->jC P i k
theorem jC.lt{P:List Int}{i k:Nat}(h:jC P i k):i<P.length:=by
 cases h with
 |refl h=>exact h
 |step h _=>exact(lgeS h).1
theorem jC.V8{P:List Int}{i k:Nat}(h:jC P i k):k<P.length:=by
 induction h with
 |refl h=>exact h
 |step _ _ ih=>exact ih
theorem jC.le{P:List Int}(hP:mL P){i k:Nat}(h:jC P i k):k<=i:=by
 induction h with
 |refl=>omega
 |step h _ ih=>have:=(iB hP (eA.2 h)).1;omega
theorem jC.trans{P:List Int}{i j k:Nat}(h:jC P i j)(h':jC P j k):jC P i k:=by
 induction h with
 |refl=>exact h'
 |step h _ ih=>exact .step h (ih h')
theorem jC.inv{P:List Int}{i j k:Nat}(h:jC P i k)(fg:i≠k)(hj:P[i]? =some (j:Int)):jC P j k:=by
 cases h with
 |refl=>exact absurd rfl fg
 | @step _ j' _ h h'=>
   rw [hj]at h;have e:j=j':=by have:=Option.some.inj h;omega
   rw [e];exact h'
theorem jC.child{P:List Int}{i k:Nat}(h:jC P i k)(fg:i≠k):∃c,c∈kids P k/\jC P i c:=by
 induction h with
 |refl=>exact absurd rfl fg
 | @step i j k h h' ih=>
   by_cases e:j=k
   ·subst e
    exact⟨i,eA.2 h,.refl (lgeS h).1⟩
   ·obtain⟨c,hc,hu⟩:=ih e
    exact⟨c,hc,.step h hu⟩
structure Iv(nd:Nd):Prop where
 XW:1<=nd.lo
 le:nd.lo<=nd.hi
 top:nd.hi<=4611686018427387904
structure Loc(T:List Nd)(nd:Nd):Prop where
 Fh:nd.lo<=nd.free
 Bi:nd.free<=nd.hi
 sub:∀c cd,c∈nd.ch->T[c]? =some cd->nd.lo<=cd.lo/\cd.hi<nd.free
 ord:∀(c c':Nat) cd uN,c∈nd.ch->c'∈nd.ch->c<c'->T[c]? =some cd->T[c']? =some uN->cd.hi<uN.lo
structure Shape(T:List Nd):Prop where
 par:mL (bN T)
 ch:∀(i:Nat) nd,T[i]? =some nd->nd.ch=kids (bN T) i
structure Good(T:List Nd):Prop extends Shape T where
 iv:∀(i:Nat) nd,T[i]? =some nd->Iv nd
 loc:∀(i:Nat) nd,T[i]? =some nd->Loc T nd
theorem kc{T:List Nd}{i:Nat}{nd:Nd}(h:T[i]? =some nd):(bN T)[i]? =some nd.parent:=by simp [bN,h]
theorem eo(T:List Nd):(bN T).length=T.length:=by simp [bN]
theorem Shape.pos{T:List Nd}(h:Shape T):0<T.length:=by
 have:=(lgeS h.par.root).1
 rwa [eo]at this
theorem Good.pV{T:List Nd}(h:Good T){c k:Nat}{cd kd:Nd}(hc:c∈kids (bN T) k)(jg:T[c]? =some cd)(TG:T[k]? =some kd):
 kd.lo<=cd.lo/\cd.hi<kd.free:=(h.loc k kd TG).sub c cd (by rw [h.ch k kd TG];exact hc) jg
theorem fE{T:List Nd}{i:Nat}(h:i<T.length):∃nd,T[i]? =some nd:=⟨_,List.getElem?_eq_getElem h⟩
theorem Good.nY{T:List Nd}(h:Good T){a b:Nat}{ad bd:Nd}(ha:T[a]? =some ad)(hb:T[b]? =some bd)(hu:jC (bN T) a b):bd.lo<=ad.lo/\ad.hi<=bd.hi:=by
 induction hu generalizing ad with
 |refl=>rw [ha]at hb;cases hb;omega
 | @step i j k hp h' ih=>
   have ti:j<T.length:=by have:=h'.lt;rwa [eo]at this
   obtain⟨jd,hj⟩:=fE ti;have h1:=ih hj hb;have h2:=h.pV (eA.2 hp) ha hj;have h3:=(h.loc j jd hj).Bi;omega
theorem Good.apart{T:List Nd}(h:Good T):∀(m a b:Nat),a+b<=m->∀ad bd,T[a]? =some ad->T[b]? =some bd->¬jC (bN T) a b->¬jC (bN T) b a->ad.hi<bd.lo\/bd.hi<ad.lo:=by
 intro m
 induction m with
 |zero=>
  intro a b hm ad bd ha hb h1 _;have:a=b:=by omega
  subst this;exact absurd (.refl (by rw [eo];exact(lgeS ha).1)) h1
 |succ m ih=>
  have key:∀(a b:Nat),a+b<=m+1->b<a->∀ad bd,T[a]? =some ad->T[b]? =some bd->¬jC (bN T) a b->¬jC (bN T) b a->ad.hi<bd.lo\/bd.hi<ad.lo:=by
   intro a b hm cy ad bd ha hb h1 h2;have hal:=(lgeS ha).1;obtain⟨p,hp,e⟩:=h.par.up a _ (by omega) (kc ha);have Hj:(bN T)[a]? =some (p:Int):=by rw [kc ha,e]
   obtain⟨pd,xe⟩:=fE (T:=T) (i:=p) (by omega);have fz:=h.pV (eA.2 Hj) ha xe;have nz:=h.loc p pd xe;have AO:¬jC (bN T) p b:=fun hu=>h1 (.step Hj hu);by_cases Et:jC (bN T) b p
   ·have fg:b≠p:=fun e=>AO (by subst e;exact .refl Et.lt)
    obtain⟨c,hc,Lr⟩:=Et.child fg;have hca:c≠a:=fun e=>h2 (e▸Lr);have pG:c<T.length:=by have:=(iB h.par hc).2;rwa [eo]at this
    obtain⟨cd,jg⟩:=fE pG;have Hy:=h.nY hb jg Lr;have oL:=h.ch p pd xe;rcases Nat.lt_or_ge c a with cy|fU
    ·have:=nz.ord c a cd ad (by rw [oL];exact hc) (by rw [oL];exact eA.2 Hj) cy jg ha
     omega
    ·have:=nz.ord a c ad cd (by rw [oL];exact eA.2 Hj) (by rw [oL];exact hc) (by omega) ha jg
     omega
   ·have:=ih p b (by omega) pd bd xe hb AO Et
    have:=nz.Bi;omega
  intro a b hm ad bd ha hb h1 h2;rcases Nat.lt_trichotomy a b with cy|rfl|cy
  ·have:=key b a (by omega) cy bd ad hb ha h2 h1
   omega
  ·exact absurd (.refl (by rw [eo];exact(lgeS ha).1)) h1
  ·exact key a b hm cy ad bd ha hb h1 h2
theorem Good.under{T:List Nd}(h:Good T){a b:Nat}{ad bd:Nd}(ha:T[a]? =some ad)(hb:T[b]? =some bd):(bd.lo<=ad.lo/\ad.hi<=bd.hi)↔jC (bN T) a b:=by
 refine⟨fun hi=>?_,fun hu=>h.nY ha hb hu⟩;by_cases hu:jC (bN T) a b
 ·exact hu
 ·exfalso
  have ia:=h.iv a ad ha;have ib:=h.iv b bd hb;by_cases hv:jC (bN T) b a
  ·have fg:b≠a:=fun e=>hu (by subst e;exact .refl hv.lt)
   obtain⟨c,hc,Lr⟩:=hv.child fg;have pG:c<T.length:=by have:=(iB h.par hc).2;rwa [eo]at this
   obtain⟨cd,jg⟩:=fE pG;have h1:=h.nY hb jg Lr;have h2:=h.pV hc jg ha;have h3:=(h.loc a ad ha).Bi;omega
  ·have:=h.apart (a+b) a b (Nat.le_refl _) ad bd ha hb hu hv
   have:=ia.le;have:=ib.le;omega
theorem wm(T:List Nd)(p:Nat)(pd:Nd):(grown T p pd).length=T.length+1:=by simp [grown]
theorem iQ{T:List Nd}{p:Nat}{pd:Nd}(hp:T[p]? =some pd)(i:Nat):(grown T p pd)[i]? =if i=p then some {pd with ch:=pd.ch++ [T.length]}else if i=T.length then some ⟨p,[],0,0,0⟩else T[i]? :=by
 have cy:=(lgeS hp).1;unfold grown;by_cases e:i=p
 ·subst e
  rw [if_pos rfl,List.getElem?_set_self (by simp;omega)]
 ·rw [if_neg e,List.getElem?_set_ne (fun h=>e h.symm)]
  by_cases e2:i=T.length
  ·subst e2;simp
  ·rw [if_neg e2]
   rcases Nat.lt_or_ge i T.length with h|h
   ·rw [List.getElem?_append_left h]
   ·rw [List.getElem?_eq_none (by simp;omega),List.getElem?_eq_none h]
theorem lE{T:List Nd}{p:Nat}{pd:Nd}(hp:T[p]? =some pd):bN (grown T p pd)=bN T++ [(p:Int)]:=by
 apply List.ext_getElem?;intro i;have cy:=(lgeS hp).1;simp only [bN,List.getElem?_map,iQ hp];by_cases e:i=p
 ·subst e
  rw [if_pos rfl,List.getElem?_append_left (by simpa using cy)];simp [hp]
 ·rw [if_neg e]
  by_cases e2:i=T.length
  ·subst e2;simp
  ·rw [if_neg e2]
   rcases Nat.lt_or_ge i T.length with h|h
   ·rw [List.getElem?_append_left (by simpa using h)];simp
   ·rw [List.getElem?_eq_none h,List.getElem?_eq_none (by simp;omega)];rfl
theorem yI(P:List Int)(p i:Nat):kids (P++ [(p:Int)]) i=kids P i++if i=p then [P.length]else []:=by
 unfold kids;rw [List.length_append,List.length_singleton,List.range_succ,List.filter_append]
 congr 1
 ·apply List.filter_congr
  intro x hx;rw [List.getElem?_append_left (by simpa using hx)]
 ·by_cases e:i=p
  ·subst e;simp
  ·have:¬((p:Int)=(i:Int)):=by omega
   simp [e,this]
theorem mL.snoc{P:List Int}(h:mL P){p:Nat}(hp:p<P.length):mL (P++ [(p:Int)]):=by
 refine⟨by rw [List.getElem?_append_left (by omega)];exact h.root,fun i q hi hq=>?_⟩;rcases Nat.lt_or_ge i P.length with hl|hl
 ·rw [List.getElem?_append_left hl]at hq
  exact h.up i q hi hq
 ·have:i=P.length:=by
   rcases Nat.eq_or_lt_of_le hl with e|e
   ·exact e.symm
   ·rw [List.getElem?_eq_none (by simp;omega)]at hq;cases hq
  subst this;simp at hq;exact⟨p,hp,hq.symm⟩
theorem Shape.grown{T:List Nd}(h:Shape T){p:Nat}{pd:Nd}(hp:T[p]? =some pd):Shape (grown T p pd):=by
 have cy:=(lgeS hp).1;refine⟨by rw [lE hp];exact h.par.snoc (by rw [eo];exact cy),fun i nd hi=>?_⟩;rw [lE hp,yI,eo];rw [iQ hp]at hi;by_cases e:i=p
 ·subst e
  rw [if_pos rfl]at hi⊢;cases hi;simp [h.ch i pd hp]
 ·rw [if_neg e]at hi⊢
  rw [List.append_nil];by_cases e2:i=T.length
  ·subst e2
   rw [if_pos rfl]at hi;cases hi
   symm
   apply List.eq_nil_iff_forall_not_mem.2;intro c hc;have:=iB h.par hc;rw [eo]at this;omega
  ·rw [if_neg e2]at hi
   exact h.ch i nd hi
def iC(f:Nat->Nat):Nat->Nat
 |0=>0
 |n+1=>iC f n+f n
theorem jT{f g:Nat->Nat}{n:Nat}(h:∀i,i<n->f i=g i):iC f n=iC g n:=by
 induction n with
 |zero=>rfl
 |succ n ih=>
  simp only [iC];rw [ih (fun i hi=>h i (by omega)),h n (by omega)]
theorem x5(f g:Nat->Nat)(n:Nat):iC (fun i=>f i+g i) n=iC f n+iC g n:=by
 induction n with
 |zero=>rfl
 |succ n ih=>simp only [iC];omega
theorem kX{f:Nat->Nat}{n:Nat}(h:∀i,i<n->f i=0):iC f n=0:=by
 induction n with
 |zero=>rfl
 |succ n ih=>
  simp only [iC];rw [ih (fun i hi=>h i (by omega)),h n (by omega)]
theorem Dn(h:Nat->Nat->Nat)(n m:Nat):iC (fun i=>iC (fun j=>h i j) m) n=iC (fun j=>iC (fun i=>h i j) n) m:=by
 induction n with
 |zero=>simp only [iC];exact(kX fun _ _=>rfl).symm
 |succ n ih=>
  simp only [iC];rw [ih,x5]
theorem xZ{n k:Nat}(hk:k<n){f:Nat->Nat}(h:∀i,i<n->i≠k->f i=0):iC f n=f k:=by
 induction n with
 |zero=>omega
 |succ n ih=>
  simp only [iC];rcases Nat.lt_or_ge k n with cy|fU
  ·rw [ih cy (fun i hi=>h i (by omega)),h n (by omega) (by omega),Nat.add_zero]
  ·have:k=n:=by omega
   subst this;rw [kX (fun i hi=>h i (by omega) (by omega)),Nat.zero_add]
theorem I2{f:Nat->Nat}{n b:Nat}(h:∀i,i<n->f i<=b):iC f n<=n*b:=by
 induction n with
 |zero=>simp [iC]
 |succ n ih=>
  simp only [iC];have:=ih (fun i hi=>h i (by omega));have:=h n (by omega);rw [Nat.succ_mul];omega
theorem FK{f f':Nat->Nat}{n k:Nat}(hk:k<n){v:Nat}(h:∀i,i<n->i≠k->f' i=f i)(hv:f' k=f k+v):iC f' n=iC f n+v:=by
 induction n with
 |zero=>omega
 |succ n ih=>
  simp only [iC];rcases Nat.lt_or_ge k n with cy|fU
  ·rw [ih cy (fun i hi=>h i (by omega)),h n (by omega) (by omega)]
   omega
  ·have:k=n:=by omega
   subst this;rw [jT (fun i hi=>h i (by omega) (by omega)),hv];omega
theorem qX(q:Nat->Bool)(f:Nat->Nat)(n:Nat):(((List.range n).filter q).map f).sum=iC (fun c=>if q c=true then f c else 0) n:=by
 induction n with
 |zero=>rfl
 |succ n ih=>
  rw [List.range_succ,List.filter_append,List.map_append,List.sum_append,ih];simp only [iC]
  congr 1
  by_cases h:q n=true
  ·simp [h]
  ·simp [h]
section
variable{P:List Int}
theorem jC.cmp{i a b:Nat}(h:jC P i a)(h':jC P i b):jC P a b\/jC P b a:=by
 induction h with
 |refl=>exact .inl h'
 | @step i j k hp h2 ih=>
   by_cases e:i=b
   ·subst e;exact .inr (.step hp h2)
   ·exact ih (h'.inv e hp)
theorem jC.one(hP:mL P){i n c c':Nat}(hc:P[c]? =some (n:Int))(sN:P[c']? =some (n:Int))(h:jC P i c)(h':jC P i c'):c=c':=by
 have key:∀(c c':Nat),P[c]? =some (n:Int)->P[c']? =some (n:Int)->jC P c c'->c=c':=by
  intro c c' hc sN h;by_cases e:c=c'
  ·exact e
  ·have:=(h.inv e hc).le hP
   have:=(iB hP (eA.2 sN)).1;omega
 rcases h.cmp h' with h|h
 ·exact key c c' hc sN h
 ·exact(key c' c sN hc h).symm
open Classical in
noncomputable def ind(p:Prop):Nat:=if p then 1 else 0
theorem qC{p:Prop}(h:p):ind p=1:=by unfold ind;rw [if_pos h]
theorem rv{p:Prop}(h:¬p):ind p=0:=by unfold ind;rw [if_neg h]
theorem NB(p:Prop):ind p<=1:=by unfold ind;split<;>omega
noncomputable def sz(P:List Int)(n:Nat):Nat:=iC (fun i=>ind (jC P i n)) P.length
theorem zV(hP:mL P){n:Nat}(hn:n<P.length):sz P n=1+iC (fun c=>if P[c]? =some (n:Int)then sz P c else 0) P.length:=by
 have e1:∀i,i<P.length->ind (jC P i n)=ind (i=n)+iC (fun c=>if P[c]? =some (n:Int)then ind (jC P i c)else 0) P.length:=by
  intro i hi;by_cases e:i=n
  ·subst e
   rw [qC (.refl hi),qC rfl,kX];intro c hc;split
   ·rename_i hp
    apply rv;intro hu;have:=hu.le hP;have:=(iB hP (eA.2 hp)).1;omega
   ·rfl
  ·rw [rv e,Nat.zero_add]
   by_cases hu:jC P i n
   ·obtain⟨c,hc,Lr⟩:=hu.child e
    rw [qC hu,xZ (k:=c) Lr.V8]
    ·rw [if_pos (eA.1 hc),qC Lr]
    ·intro c' _ fg
     split
     ·rename_i hp
      exact rv fun h=>fg (jC.one hP hp (eA.1 hc) h Lr)
     ·rfl
   ·rw [rv hu,kX]
    intro c hc;split
    ·rename_i hp
     exact rv fun h=>hu (h.trans (.step hp (.refl hn)))
    ·rfl
 have e2:sz P n=iC (fun i=>ind (i=n)+iC (fun c=>if P[c]? =some (n:Int)then ind (jC P i c)else 0) P.length) P.length:=by
  unfold sz;exact jT e1
 rw [e2,x5,xZ (k:=n) hn (fun i _ h=>rv h),qC rfl,Dn]
 congr 1
 apply jT;intro c _;split
 ·rfl
 ·exact kX fun _ _=>rfl
theorem tz(hP:mL P){n:Nat}(hn:n<P.length):1<=sz P n:=by rw [zV hP hn];omega
theorem vL(n:Nat):sz P n<=P.length:=by
 have:=I2 (n:=P.length) (b:=1) (f:=fun i=>ind (jC P i n)) (fun i _=>NB _);unfold sz;omega
theorem BU(hP:mL P){n:Nat}(hn:n<P.length):((kids P n).map (sz P)).sum+1=sz P n:=by
 unfold kids;rw [qX,zV hP hn,Nat.add_comm]
 congr 1
 apply jT;intro c _;by_cases h:P[c]? =some (n:Int)
 ·simp [h]
 ·simp [h]
noncomputable def part(P:List Int)(m j:Nat):Nat:=iC (fun c=>if P[c]? =some (j:Int)/\m<=c then sz P c else 0) P.length
theorem DM(j:Nat):part P P.length j=0:=kX fun c hc=>if_neg fun h=>by omega
theorem tP(hP:mL P){m j:Nat}(hj:j<P.length)(hm:m<=j+1):part P m j+1=sz P j:=by
 rw [zV hP hj,Nat.add_comm]
 congr 1
 apply jT;intro c hc;by_cases h:P[c]? =some (j:Int)
 ·have:=(iB hP (eA.2 h)).1
  rw [if_pos ⟨h,by omega⟩,if_pos h]
 ·rw [if_neg (fun e=>h e.1),if_neg h]
theorem F9{n p:Nat}(h:P[n]? =some (p:Int)):part P n p=part P (n+1) p+sz P n:=by
 unfold part;apply FK (k:=n) (lgeS h).1
 ·intro i _ fg
  by_cases hi:P[i]? =some (p:Int)
  ·by_cases h2:n<=i
   ·rw [if_pos ⟨hi,h2⟩,if_pos ⟨hi,by omega⟩]
   ·rw [if_neg (fun e=>h2 e.2),if_neg (fun e=>by omega)]
  ·rw [if_neg (fun e=>hi e.1),if_neg (fun e=>hi e.1)]
 ·rw [if_pos ⟨h,Nat.le_refl _⟩,if_neg (fun e=>by omega),Nat.zero_add]
theorem Ae{n j:Nat}(h:P[n]? ≠some (j:Int)):part P n j=part P (n+1) j:=by
 unfold part;apply jT;intro i _;by_cases hi:P[i]? =some (j:Int)
 ·have:i≠n:=fun e=>h (e▸hi)
  by_cases h2:n<=i
  ·rw [if_pos ⟨hi,h2⟩,if_pos ⟨hi,by omega⟩]
  ·rw [if_neg (fun e=>h2 e.2),if_neg (fun e=>by omega)]
 ·rw [if_neg (fun e=>hi e.1),if_neg (fun e=>hi e.1)]
noncomputable def hU(P:List Int)(m j:Nat):Nat:=if m<=j then sz P j else part P m j
theorem z6(j:Nat)(hj:j<P.length):hU P P.length j=0:=by
 unfold hU;rw [if_neg (by omega),DM]
theorem yg(j:Nat):hU P 0 j=sz P j:=by unfold hU;rw [if_pos (Nat.zero_le _)]
theorem DC(hP:mL P){n:Nat}(hn:n<P.length):hU P (n+1) n+1=sz P n:=by
 unfold hU;rw [if_neg (by omega),tP hP hn (Nat.le_refl _)]
theorem DB(hP:mL P){n p:Nat}(h:P[n]? =some (p:Int))(j:Nat):hU P n j=if j=p then hU P (n+1) p+sz P n else if j=n then sz P n else hU P (n+1) j:=by
 have hp:=(iB hP (eA.2 h)).1;unfold hU;by_cases e:j=p
 ·subst e
  rw [if_neg (by omega),if_pos rfl,if_neg (by omega),F9 h]
 ·rw [if_neg e]
  by_cases e2:j=n
  ·subst e2;rw [if_pos (Nat.le_refl _),if_pos rfl]
  ·rw [if_neg e2]
   by_cases h2:n<=j
   ·rw [if_pos h2,if_pos (by omega)]
   ·rw [if_neg h2,if_neg (by omega)]
    exact Ae (fun h'=>e (by rw [h]at h';have:=Option.some.inj h';omega))
theorem DD(j:Nat):hU P 0 j=if j=0 then sz P 0 else hU P 1 j:=by
 rw [yg];unfold hU;by_cases e:j=0
 ·subst e;rw [if_pos rfl]
 ·rw [if_neg e,if_pos (by omega)]
theorem BZ(hP:mL P)(m j:Nat)(hj:j<P.length):hU P m j<=P.length:=by
 have h1:=vL (P:=P) j;unfold hU;split
 ·exact h1
 ·rename_i h
  have:=tP hP (m:=m) hj;by_cases h2:m<=j+1
  ·have:=this h2;omega
  ·
   have h3:part P m j<=part P 0 j:=by
    unfold part;have:∀(f g:Nat->Nat) (n:Nat),(∀i,i<n->f i<=g i)->iC f n<=iC g n:=by
     intro f g n h
     induction n with
     |zero=>simp [iC]
     |succ n ih=>
      simp only [iC];have:=ih (fun i hi=>h i (by omega));have:=h n (by omega);omega
    apply this;intro i _;split
    ·rename_i h4;rw [if_pos ⟨h4.1,Nat.zero_le _⟩];exact Nat.le_refl _
    ·exact Nat.zero_le _
   have:=tP hP (m:=0) hj (by omega);omega
end
theorem vc{α:Type}(f g:Nat->α){n k:Nat}{v:α}(hk:k<n)(h:∀i,i<n->g i=if i=k then v else f i):((List.range n).map f).set k v=(List.range n).map g:=by
 apply List.ext_getElem?;intro i;rw [List.getElem?_set];by_cases e:k=i
 ·subst e
  rw [if_pos rfl,if_pos (by simpa using hk)];simp [hk,h k hk]
 ·rw [if_neg e]
  rcases Nat.lt_or_ge i n with hi|hi
  ·have:=h i hi
   rw [if_neg (fun x=>e x.symm)]at this;simp [hi,this]
  ·rw [List.getElem?_eq_none (by simpa using hi),List.getElem?_eq_none (by simpa using hi)]
end Go.Proofs.YtnboahlopghcjaaGreatDoor.Tr
namespace Go.bP
open Go.RowKit
theorem aQ{σ:Type}(e:σ->Env)(I:σ->World->Prop)(μ:σ->World->Nat)(s:σ)(w:World)(Q:aM)(l:Nat)(ρ:Env)(w':World):bI e I μ s w Q (.exit l) ρ w'=Q (.exit l) ρ w':=rfl
def zeroOf(P:Program)(e:TypeId):Option (Array Value):=
 match P.info? e with
 |some i=>match i.zero with
  |some z=>some z.cells
  |none=>none
 |none=>none
theorem Gk{P:Program}{t e:TypeId}{bytes:Nat}(T:xN P t e 1 bytes){z:Value}(hz:zeroOf P e=some #[z]){n:Nat}(hn:n<=maxLen)(hb:bytes*n<=281474976710656)(w:World):
 ∃w',(Instr.makeSlice t (.int .i64 (n:Int)) (.int .i64 (n:Int))).run P w=.ok (.slice (some ⟨w.heap.size,0,none⟩) n n) w'/\
  Row w' w.heap.size e 1 (some ⟨w.heap.size,0,none⟩) n n (List.replicate n z)/\Kept Nil w w':=by
 obtain⟨i,z',hi,xE,hs,IK,CA⟩:=T.inf;have hc:z'.cells= #[z]:=by
  unfold zeroOf at hz;simp only [hi,xE]at hz;exact Option.some.inj hz
 obtain⟨w',hr,eE,hg⟩:=run_make_full (P:=P) (w:=w) w.heap.size t e i z' 1 T.nY hi xE hs .i64 .i64 n (by rw [IK];exact hb) hn (Nat.le_refl _);rw [hc,Nat.mul_one,toList_madeCells_one]at eE;exact⟨w',hr,eE,(Kept.refl Nil w).grown hg (fun k hk=>by cases hk)⟩
end Go.bP
namespace Go.Proofs.YtnboahlopghcjaaGreatDoor.Tr
open Go.Proofs.Tryz
open Go Go.bP Go.RowKit
section
variable{w w':World}{S:Nat->Prop}{g:Nat}{T:List Nd}{d:Int}{K:Value->World->Prop}
theorem TV.bound{b c:Nat}{L:List (Nd×Value)}(h:TV w S g T d b c L):TV w (fun k=>S k/\k<w.heap.size) g T d b c L:= {
 top:=h.top
 fst:=h.fst
 row:=h.row
 pV:=fun i p hp=>let ⟨A,m,h1⟩:=h.pV i p hp;⟨A,m,h1.val,h1.row,fun k e=>⟨h1.jL k e,let ⟨_,_,hc⟩:=Row.bC h1.row e;aS hc⟩⟩
 apart:=h.apart
 gK:=⟨h.gK,aS h.top⟩
 fK:=⟨h.fK,let ⟨_,hc⟩:=h.uS;aS hc⟩}
theorem TV.mono{S':Nat->Prop}{b c:Nat}{L:List (Nd×Value)}(h:TV w S g T d b c L)(hs:∀k,S k->S' k):TV w S' g T d b c L:= {
 top:=h.top
 fst:=h.fst
 row:=h.row
 pV:=fun i p hp=>let ⟨A,m,h1⟩:=h.pV i p hp;⟨A,m,h1.val,h1.row,fun k e=>hs k (h1.jL k e)⟩
 apart:=h.apart
 gK:=hs _ h.gK
 fK:=hs _ h.fK}
theorem nZ.bound(h:nZ w S g T d):nZ w (fun k=>S k/\k<w.heap.size) g T d:=let ⟨b,c,L,h⟩:=h;⟨b,c,L,h.bound⟩
theorem nZ.mono{S':Nat->Prop}(h:nZ w S g T d)(hs:∀k,S k->S' k):nZ w S' g T d:=let ⟨b,c,L,h⟩:=h;⟨b,c,L,h.mono hs⟩
def us(f:Nat->Nat)(n:Nat):List Value:=(List.range n).map fun j=>.int .u64 (f j:Int)
theorem oe(f:Nat->Nat){n j:Nat}(hj:j<n):(us f n)[j]? =some (.int .u64 (f j:Int)):=by simp [us,hj]
theorem oa(f:Nat->Nat)(n:Nat):(us f n).length=n:=by simp [us]
theorem wF{f f':Nat->Nat}{n k:Nat}(hk:k<n)(h:∀i,i<n->i≠k->f' i=f i):(us f n).set k (.int .u64 (f' k:Int))=us f' n:=by
 unfold us;apply vc _ _ hk;intro i hi;by_cases e:i=k
 ·subst e;rw [if_pos rfl]
 ·rw [if_neg e,h i hi e]
theorem QY:xN prog zw ir 1 8:=⟨by kernel_rfl,by kernel_rfl⟩
set_option maxRecDepth 100000 in
theorem zT(h:nZ w S g T d)(hP:mL (bN T))(hlen:T.length<=1000000)
 (hK:∀w' A,Row w' w.heap.size ir 1 A T.length T.length (us (sz (bN T)) T.length)->Kept Nil w w'->K (.slice A T.length T.length) w'):
 bj prog bp.id #[.pointer (some ⟨g,0,none⟩)] w K:=by
 obtain⟨b,c,L,h0⟩:=h;have nz:=eo T;obtain⟨w5,sI,kI,k5⟩:=Gk QY (z:=.int .u64 0) (by kernel_rfl) (n:=T.length) (by unfold maxLen;omega) (by omega) w;refine bp.of (h0.go ⟨_,_,_,w5,sI,?_⟩);have h5:=h0.kept k5;refine h5.go ?_;generalize hA:(⟨w.heap.size,0,none⟩:Addr)=A at*;refine bp.b7 (e:=some A) (i:=T.length) (I:=fun i w'=>∃m:Nat,i=(T.length:Int)-m/\m<=T.length/\Row w' w.heap.size ir 1 (some A) T.length T.length (us (hU (bN T) m) T.length)/\Kept Nil w w')
  (μ:=fun i _=>((T.length:Int)-i).toNat) (s:=0) ⟨T.length,by omega,Nat.le_refl _,?_,k5⟩ ?_
 ·have:List.replicate T.length (Value.int .u64 0)=us (hU (bN T) T.length) T.length:=by
   apply List.ext_getElem?;intro j;rcases Nat.lt_or_ge j T.length with hj|hj
   ·rw [oe _ hj,<-nz,z6 j (by omega)]
    simp [nz,hj]
   ·rw [List.getElem?_eq_none (by simpa using hj),List.getElem?_eq_none (by rw [oa];exact hj)]
  rw [<-this];exact kI
 ·rintro i w' ⟨m,rfl,hm,row,kw⟩
  have h':=h0.kept kw;refine Split.dec (fun cy=>?_) (fun fU=>?_)
  ·
   obtain⟨n,rfl⟩:∃n,m=n+1:=⟨m-1,by omega⟩;have hn:n<T.length:=by omega
   refine h'.go ?_;have ew:i64.wrap (i64.wrap ((T.length:Int)-1)-((T.length:Int)-((n+1:Nat):Int)))=(n:Int):=by
    rw [gQ (x:=(T.length:Int)-1) (by omega) (by omega),gQ (by omega) (by omega)];omega
   rw [ew];have hb:0<=(n:Int)/\(n:Int)<(T.length:Int):=⟨by omega,by omega⟩;subst hA;have Ty:n<(us (hU (bN T) (n+1)) T.length).length:=by rw [oa];exact hn
   refine⟨hb,_,by rw [lK,Int.toNat_natCast,Nat.mul_one];exact Row.cell row (oe _ hn),hb,by rw [lK,Int.toNat_natCast,Nat.mul_one];exact Row.wr row Ty,?_⟩;intro vI;have e18:vI=w'.setCell ⟨w.heap.size,n,none⟩ (.int .u64 (u64.wrap ((hU (bN T) (n+1) n:Int)+1))):=by simp only [vI,lK,Int.toNat_natCast,Nat.mul_one]
   have adG:=DC hP (n:=n) (by omega);have hle:hU (bN T) (n+1) n<=(bN T).length:=BZ hP _ _ (by omega);have mr:=Row.set row Ty (.int .u64 (u64.wrap ((hU (bN T) (n+1) n:Int)+1)));rw [<-e18]at mr;have Iy:Kept Nil w vI:=by rw [e18];exact kw.setCell (fun hh=>absurd hh (Nat.lt_irrefl _)) _
   clear_value vI;rw [fk (x:=(hU (bN T) (n+1) n:Int)+1) (by omega) (by omega)]at mr;rw [show(hU (bN T) (n+1) n:Int)+1=((if n=n then sz (bN T) n else hU (bN T) (n+1) n:Nat):Int)from by rw [if_pos rfl];omega,
    wF (f':=fun j=>if j=n then sz (bN T) n else hU (bN T) (n+1) j) hn (fun i _ fg=>by rw [if_neg fg])]at mr
   have h18:=h0.kept Iy;obtain⟨nd,eF⟩:=fE hn;obtain⟨v,hv⟩:=h18.at_ eF;refine h18.go ⟨hb,h18.HL hv ?_⟩;have kV:=kc eF;refine Split.dec (fun hp=>?_) (fun hp=>?_)
   ·
    have Em:0<n:=by
     rcases Nat.eq_zero_or_pos n with rfl|h
     ·rw [hP.root]at kV;have:=Option.some.inj kV;omega
     ·exact h
    obtain⟨p,Hg,ep⟩:=hP.up n _ Em kV;rw [ep]at hp⊢;have Ws:(bN T)[n]? =some (p:Int):=by rw [kV,ep]
    intro Iu;have Ni:Kept Nil w Iu:=Iy.drew;have Ca:Row Iu w.heap.size ir 1 (some ⟨w.heap.size,0,none⟩) T.length T.length (us (fun j=>if j=n then sz (bN T) n else hU (bN T) (n+1) j) T.length):=mr;clear_value Iu;have Et:0<=(p:Int)/\(p:Int)<(T.length:Int):=⟨by omega,by omega⟩;have Tw:p<(us (fun j=>if j=n then sz (bN T) n else hU (bN T) (n+1) j) T.length).length:=by rw [oa];omega
    have gp:=oe (fun j=>if j=n then sz (bN T) n else hU (bN T) (n+1) j) (n:=T.length) (j:=p) (by omega);have gn:=oe (fun j=>if j=n then sz (bN T) n else hU (bN T) (n+1) j) (n:=T.length) (j:=n) (by omega);simp only [if_neg (show p≠n by omega)]at gp;simp only [if_pos]at gn;refine⟨Et,_,by rw [lK,Int.toNat_natCast,Nat.mul_one];exact Row.cell Ca gp,hb,_,by rw [lK,Int.toNat_natCast,Nat.mul_one];exact Row.cell Ca gn,Et,by rw [lK,Int.toNat_natCast,Nat.mul_one];exact Row.wr Ca Tw,?_⟩;intro u7;have e29:u7=Iu.setCell ⟨w.heap.size,p,none⟩ (.int .u64 (u64.wrap ((hU (bN T) (n+1) p:Int)+(sz (bN T) n:Int)))):=by simp only [u7,lK,Int.toNat_natCast,Nat.mul_one]
    have F5:=Row.set Ca Tw (.int .u64 (u64.wrap ((hU (bN T) (n+1) p:Int)+(sz (bN T) n:Int))));rw [<-e29]at F5;have JD:Kept Nil w u7:=by rw [e29];exact Ni.setCell (fun hh=>absurd hh (Nat.lt_irrefl _)) _
    clear_value u7;have ahH:hU (bN T) (n+1) p<=(bN T).length:=BZ hP _ _ (by omega);have ahG:sz (bN T) n<=(bN T).length:=vL _;have pq:=DB hP Ws;have E8:=pq p;rw [if_pos rfl]at E8;rw [fk (x:=(hU (bN T) (n+1) p:Int)+(sz (bN T) n:Int)) (by omega) (by omega),
     show(hU (bN T) (n+1) p:Int)+(sz (bN T) n:Int)=(hU (bN T) n p:Int)from by omega,
     wF (f':=hU (bN T) n) (by omega) (fun i _ fg=>by rw [pq i,if_neg fg])]at F5
    rw [gQ (x:=(T.length:Int)-((n+1:Nat):Int)+1) (by omega) (by omega)];exact⟨_,rfl,⟨n,by omega,by omega,F5,JD⟩,by simp only;omega⟩
   ·
    have Em:n=0:=by
     rcases Nat.eq_zero_or_pos n with h|h
     ·exact h
     ·obtain⟨p,_,ep⟩:=hP.up n _ h kV
      omega
    subst Em;have:us (fun j=>if j=0 then sz (bN T) 0 else hU (bN T) (0+1) j) T.length=us (hU (bN T) 0) T.length:=by
     congr 1
     funext j
     rw [DD]
    rw [this]at mr;rw [gQ (x:=(T.length:Int)-((0+1:Nat):Int)+1) (by omega) (by omega)];exact⟨_,rfl,⟨0,by omega,by omega,mr,Iy⟩,by simp only;omega⟩
  ·have:m=0:=by omega
   subst this;rw [aQ,bp.c8];refine hK w' (some A) ?_ kw;have e:hU (bN T) 0=sz (bN T):=funext yg;rw [e]at row;exact row
end
section
variable{w:World}{K:Value->World->Prop}
theorem bj.yu{f:FuncId}{args:Array Value}{v:Value}(h:Calls prog f args w fun e w'=>e=.returned v/\w'=w)(hK:K v w):bj prog f args w K:=
 h.mono fun e w' ⟨he,hw⟩=>⟨v,he,by rw [hw];exact hK⟩
theorem vx(x y:Nat)(hx:x<18446744073709551616)(hy:y<18446744073709551616)
 (hK:K (.tuple #[.int .u64 ((x*y/18446744073709551616:Nat):Int),.int .u64 ((x*y%18446744073709551616:Nat):Int)]) w):
 bj prog bits_Mul64.id #[.int .u64 x,.int .u64 y] w K:=bj.yu (Any.bits_Mul64 Tryz.Jn x y hx hy w) hK
theorem vy(x:Nat)(hx:x<18446744073709551616)(hK:K (.int .i64 (Lib.bitLen x)) w):bj prog bits_Len64.id #[.int .u64 x] w K:=
 bj.yu (Any.bits_Len64 Tryz.Jo x w (by omega) (by omega)) hK
end
theorem oS:∀(f x:Nat),x<2 ^ f->x<2 ^ (Lib.bitLenAux f x)/\(x≠0->2 ^ (Lib.bitLenAux f x)<=2*x)
 |0,x,h=>by simp at h;subst h;simp [Lib.bitLenAux]
 |f+1,x,h=>by
  unfold Lib.bitLenAux;by_cases e:x=0
  ·simp [e]
  ·rw [if_neg e]
   have ih:=oS f (x/2) (by rw [Nat.pow_succ]at h;omega);rw [Nat.pow_add,Nat.pow_one];refine⟨by omega,fun _=>?_⟩;by_cases e2:x/2=0
   ·have:x=1:=by omega
    subst this;cases f<;>simp [Lib.bitLenAux]
   ·have:=ih.2 e2
    omega
theorem bitLen_spec{y:Nat}(h0:y≠0)(hy:y<18446744073709551616):1<=Lib.bitLen y/\Lib.bitLen y<=64/\9223372036854775808<=y*2 ^ (64-Lib.bitLen y)/\y*2 ^ (64-Lib.bitLen y)<18446744073709551616:=by
 have hs:=oS 64 y (by omega);have hle:=Lib.bitLenAux_le 64 y 64 (by omega)
 change Lib.bitLen y<=64 at hle
 change y<2 ^ (Lib.bitLen y)/\(y≠0->2 ^ (Lib.bitLen y)<=2*y)at hs
 have AH:=hs.2 h0;have hp:2 ^ Lib.bitLen y*2 ^ (64-Lib.bitLen y)=18446744073709551616:=by
  rw [<-Nat.pow_add,show Lib.bitLen y+(64-Lib.bitLen y)=64 by omega]
 have im:0<2 ^ (64-Lib.bitLen y):=Nat.pow_pos (by omega);refine⟨?_,hle,?_,?_⟩
 ·rcases Nat.eq_zero_or_pos (Lib.bitLen y)with e|e
  ·rw [e]at hs;simp at hs;omega
  ·exact e
 ·have:=Nat.mul_le_mul_right (2 ^ (64-Lib.bitLen y)) AH
  rw [hp,Nat.mul_assoc]at this;omega
 ·rw [<-hp]
  exact Nat.mul_lt_mul_of_pos_right hs.1 im
section
variable{Y n1 n0 u u1 q r:Nat}
theorem HU(hY:Y=n1*4294967296+n0):q*Y=q*n1*4294967296+q*n0:=by rw [hY,Nat.mul_add,Nat.mul_assoc]
theorem dg1(hY:Y=n1*4294967296+n0)(hq:q*n1+r=u)(h:q*n0<=4294967296*r+u1):q*Y<=u*4294967296+u1:=by rw [HU hY];omega
theorem dg2(hY:Y=n1*4294967296+n0)(hq:q*n1+r=u)(h:4294967296*r+u1<q*n0):u*4294967296+u1<q*Y:=by rw [HU hY];omega
theorem dg3(hu:u<Y)(IE:u1<4294967296)(h:4294967296<=q):u*4294967296+u1<q*Y:=by
 have:=Nat.mul_le_mul_right Y h;omega
theorem dg4(hY:Y=n1*4294967296+n0)(Em:n0<4294967296)(hu:u<Y)(hq:q*n1+r=u)(hr:4294967296<=r):q*Y<=u*4294967296+u1:=by
 have h1:q*n1<4294967296*n1:=by omega
 have h2:q<4294967296:=Nat.lt_of_mul_lt_mul_right h1;have h3:q*n0<=4294967296*4294967296:=Nat.mul_le_mul (by omega) (by omega);rw [HU hY];omega
theorem Mi(hu:u<Y)(IE:u1<4294967296)(h:q*Y<=u*4294967296+u1):q<4294967296:=by
 rcases Nat.lt_or_ge q 4294967296 with h'|h'
 ·exact h'
 ·have:=dg3 hu IE h';omega
theorem zk(Fb:2147483648<=n1)(hu:u<18446744073709551616)(hq:q*n1+r=u):q<8589934592:=by
 rcases Nat.lt_or_ge q 8589934592 with h|h
 ·exact h
 ·have:=Nat.mul_le_mul h Fb
  omega
end
theorem EE{Y n1 n0 u u1:Nat}{quo rem s FB QT:Int}{Q:aM}{w:World}(hY:Y=n1*4294967296+n0)(Em:n0<4294967296)(Fb:2147483648<=n1)(JZ:n1<4294967296)(hu:u<Y)(hY':Y<18446744073709551616)(IE:u1<4294967296)
 (hex:∀q r:Nat,q*Y<=u*4294967296+u1->u*4294967296+u1<(q+1)*Y->Q (.exit 0) (aZ.e1 (Y:Int) quo rem s n1 n0 FB u1 QT ((q:Int),(r:Int))) w)
 (q0 r0:Nat) (h0:q0*n1+r0=u) (hX0:u*4294967296+u1<(q0+1)*Y) (rG:r0<4294967296):
 Holds none [] prog 135 (.loop (lB (bB (sL (sR (sR (sR (sR (sR (sR (sR (sR (sR (sR (sR (sR (sR (sR (body aZ.fn))))))))))))))))))) Q (aZ.e1 (Y:Int) quo rem s n1 n0 FB u1 QT ((q0:Int),(r0:Int))) w:=by
 refine aZ.b7 (I:=fun s w'=>w'=w/\∃q r:Nat,s=((q:Int),(r:Int))/\q*n1+r=u/\u*4294967296+u1<(q+1)*Y/\r<4294967296)
  (μ:=fun s _=>s.1.toNat) (s:=((q0:Int),(r0:Int))) ⟨rfl,q0,r0,rfl,h0,hX0,rG⟩ ?_
 rintro s w' ⟨hw,q,r,rfl,hq,hX,hr⟩;subst hw;have Zl:=zk Fb (by omega) hq;have down:u*4294967296+u1<q*Y->∃q' r':Nat,u64.wrap ((q:Int)-1)=(q':Int)/\u64.wrap ((r:Int)+(n1:Int))=(r':Int)/\q'*n1+r'=u/\u*4294967296+u1<(q'+1)*Y/\q'<q:=by
  intro h;have LC:1<=q:=by
   rcases Nat.eq_zero_or_pos q with e|e
   ·rw [e]at h;omega
   ·exact e
  refine⟨q-1,r+n1,?_,?_,?_,?_,by omega⟩
  ·rw [fk (by omega) (by omega)];omega
  ·rw [fk (by omega) (by omega)];omega
  ·have:q*n1=(q-1)*n1+n1:=by
    obtain⟨k,rfl⟩:∃k,q=k+1:=⟨q-1,by omega⟩;rw [Nat.succ_mul];rfl
   omega
  ·rwa [show q-1+1=q by omega]
 have step:∀q' r':Nat,q'*n1+r'=u->u*4294967296+u1<(q'+1)*Y->q'<q->∀b:Bool,b=decide ((r':Int)>=4294967296)->
  Split b (Q (.exit 0) (aZ.e1 (Y:Int) quo rem s n1 n0 FB u1 QT ((q':Int),(r':Int))) w') (bI (aZ.e1 (Y:Int) quo rem s n1 n0 FB u1 QT) (fun s kM=>kM=w'/\∃q r:Nat,s=((q:Int),(r:Int))/\q*n1+r=u/\u*4294967296+u1<(q+1)*Y/\r<4294967296) (fun s _=>s.1.toNat) ((q:Int),(r:Int)) w' Q .normal (aZ.e1 (Y:Int) quo rem s n1 n0 FB u1 QT ((q':Int),(r':Int))) w'):=by
  intro q' r' h1 h2 h3 b hb;subst hb;refine Split.dec (fun fU=>?_) (fun cy=>?_)
  ·exact hex q' r' (dg4 hY Em hu h1 (by omega)) h2
  ·exact⟨_,rfl,⟨rfl,q',r',rfl,h1,h2,by omega⟩,by simp only;omega⟩
 refine Split.dec (fun fU=>?_) (fun cy=>?_)
 ·obtain⟨q',r',eq,er,h1,h2,h3⟩:=down (dg3 hu IE (by simp only at fU;omega))
  simp only [eq,er];exact step q' r' h1 h2 h3 _ rfl
 ·simp only at cy
  have hqn:q*n0<18446744073709551616:=by
   have:q*n0<=4294967295*4294967295:=Nat.mul_le_mul (by omega) (by omega);omega
  have e1:u64.wrap ((q:Int)*(n0:Int))=((q*n0:Nat):Int):=by rw [<-Int.natCast_mul,fk (by omega) (by omega)]
  have e2:u64.wrap (u64.wrap (4294967296*(r:Int))+(u1:Int))=((4294967296*r+u1:Nat):Int):=by
   rw [fk (x:=4294967296*(r:Int)) (by omega) (by omega),fk (by omega) (by omega)];omega
  simp only [e1,e2];refine Split.dec (fun wj=>?_) (fun hle=>?_)
  ·obtain⟨q',r',eq,er,h1,h2,h3⟩:=down (dg2 hY hq (by omega))
   simp only [eq,er];exact step q' r' h1 h2 h3 _ rfl
  ·exact hex q r (dg1 hY hq (by omega)) hX
theorem ED{Y n1 n0 u u1:Nat}{quo rem s q1 FC:Int}{Q:aM}{w:World}(hY:Y=n1*4294967296+n0)(Em:n0<4294967296)(Fb:2147483648<=n1)(JZ:n1<4294967296)(hu:u<Y)(hY':Y<18446744073709551616)(IE:u1<4294967296)
 (hex:∀q r:Nat,q*Y<=u*4294967296+u1->u*4294967296+u1<(q+1)*Y->Q (.exit 2) (aZ.e2 (Y:Int) quo rem s n1 n0 u1 q1 FC ((r:Int),(q:Int))) w)
 (q0 r0:Nat) (h0:q0*n1+r0=u) (hX0:u*4294967296+u1<(q0+1)*Y) (rG:r0<4294967296):
 Holds none [] prog 135 (.loop (lB (bB (sL (sR (sR (sR (sR (sR (sR (sR (sR (sR (sR (sR (sR (sR (sR (sR (sR (sR (sR (body aZ.fn))))))))))))))))))))))) Q (aZ.e2 (Y:Int) quo rem s n1 n0 u1 q1 FC ((r0:Int),(q0:Int))) w:=by
 refine aZ.gw (I:=fun s w'=>w'=w/\∃q r:Nat,s=((r:Int),(q:Int))/\q*n1+r=u/\u*4294967296+u1<(q+1)*Y/\r<4294967296)
  (μ:=fun s _=>s.2.toNat) (s:=((r0:Int),(q0:Int))) ⟨rfl,q0,r0,rfl,h0,hX0,rG⟩ ?_
 rintro s w' ⟨hw,q,r,rfl,hq,hX,hr⟩;subst hw;have Zl:=zk Fb (by omega) hq;have down:u*4294967296+u1<q*Y->∃q' r':Nat,u64.wrap ((q:Int)-1)=(q':Int)/\u64.wrap ((r:Int)+(n1:Int))=(r':Int)/\q'*n1+r'=u/\u*4294967296+u1<(q'+1)*Y/\q'<q:=by
  intro h;have LC:1<=q:=by
   rcases Nat.eq_zero_or_pos q with e|e
   ·rw [e]at h;omega
   ·exact e
  refine⟨q-1,r+n1,?_,?_,?_,?_,by omega⟩
  ·rw [fk (by omega) (by omega)];omega
  ·rw [fk (by omega) (by omega)];omega
  ·have:q*n1=(q-1)*n1+n1:=by
    obtain⟨k,rfl⟩:∃k,q=k+1:=⟨q-1,by omega⟩;rw [Nat.succ_mul];rfl
   omega
  ·rwa [show q-1+1=q by omega]
 have step:∀q' r':Nat,q'*n1+r'=u->u*4294967296+u1<(q'+1)*Y->q'<q->∀b:Bool,b=decide ((r':Int)>=4294967296)->
  Split b (Q (.exit 2) (aZ.e2 (Y:Int) quo rem s n1 n0 u1 q1 FC ((r':Int),(q':Int))) w') (bI (aZ.e2 (Y:Int) quo rem s n1 n0 u1 q1 FC) (fun s kM=>kM=w'/\∃q r:Nat,s=((r:Int),(q:Int))/\q*n1+r=u/\u*4294967296+u1<(q+1)*Y/\r<4294967296) (fun s _=>s.2.toNat) ((r:Int),(q:Int)) w' Q .normal (aZ.e2 (Y:Int) quo rem s n1 n0 u1 q1 FC ((r':Int),(q':Int))) w'):=by
  intro q' r' h1 h2 h3 b hb;subst hb;refine Split.dec (fun fU=>?_) (fun cy=>?_)
  ·exact hex q' r' (dg4 hY Em hu h1 (by omega)) h2
  ·exact⟨_,rfl,⟨rfl,q',r',rfl,h1,h2,by omega⟩,by simp only;omega⟩
 refine Split.dec (fun fU=>?_) (fun cy=>?_)
 ·obtain⟨q',r',eq,er,h1,h2,h3⟩:=down (dg3 hu IE (by simp only at fU;omega))
  simp only [eq,er];exact step q' r' h1 h2 h3 _ rfl
 ·simp only at cy
  have hqn:q*n0<18446744073709551616:=by
   have:q*n0<=4294967295*4294967295:=Nat.mul_le_mul (by omega) (by omega);omega
  have e1:u64.wrap ((q:Int)*(n0:Int))=((q*n0:Nat):Int):=by rw [<-Int.natCast_mul,fk (by omega) (by omega)]
  have e2:u64.wrap (u64.wrap (4294967296*(r:Int))+(u1:Int))=((4294967296*r+u1:Nat):Int):=by
   rw [fk (x:=4294967296*(r:Int)) (by omega) (by omega),fk (by omega) (by omega)];omega
  simp only [e1,e2];refine Split.dec (fun wj=>?_) (fun hle=>?_)
  ·obtain⟨q',r',eq,er,h1,h2,h3⟩:=down (dg2 hY hq (by omega))
   simp only [eq,er];exact step q' r' h1 h2 h3 _ rfl
  ·exact hex q r (dg1 hY hq (by omega)) hX
theorem VA(a:Nat)(ha:a<18446744073709551616):u64.wrap ((BitVec.ofInt 64 (a:Int)&&& BitVec.ofInt 64 (4294967295:Int)).toNat:Int)=((a%4294967296:Nat):Int):=by
 have h:=bits_and_u64_nat a 4294967295 ha (by omega);have e:a&&& 4294967295=a%4294967296:=Nat.and_two_pow_sub_one_eq_mod a 32;rw [e]at h;exact h
theorem orN(a b s:Nat)(ha:a*2 ^ s<18446744073709551616)(hb:b<2 ^ s)(vr:b<18446744073709551616):
 u64.wrap ((BitVec.ofInt 64 ((a*2 ^ s:Nat):Int)|||BitVec.ofInt 64 (b:Int)).toNat:Int)=((a*2 ^ s+b:Nat):Int):=by
 have h:=bits_or_u64_nat (a*2 ^ s) b ha vr;rw [Nat.mul_comm,<-Nat.two_pow_add_eq_or_of_lt hb,Nat.mul_comm]at h;exact h
theorem Q1(a k:Nat):Int.fdiv (a:Int) (2 ^ k)=((a/2 ^ k:Nat):Int):=by
 rw [Int.fdiv_eq_ediv_of_nonneg _ (by exact Int.le_of_lt (Int.pow_pos (by omega)))];rw [Int.natCast_ediv,Int.natCast_pow];rfl
theorem Xy(a k:Nat):(a:Int)*2 ^ k=((a*2 ^ k:Nat):Int):=by rw [Int.natCast_mul,Int.natCast_pow];rfl
theorem abD{N u L u1 u0 v a b:Nat}(hN:N=u*18446744073709551616+L)(hL:L=u1*4294967296+u0)(hv:u*4294967296+u1-a=v)(ha:a<=u*4294967296+u1)(hb:b<=v*4294967296+u0):a*4294967296+b<=N:=by omega
theorem abC{N u L u1 u0 v a b:Nat}(hN:N=u*18446744073709551616+L)(hL:L=u1*4294967296+u0)(hv:u*4294967296+u1-a=v)(ha:a<=u*4294967296+u1)(hb:v*4294967296+u0<b):N<a*4294967296+b:=by omega
section
variable{w:World}{K:Value->World->Prop}
theorem np(x:Nat)(hx:x<18446744073709551616)(hK:K (.int .i64 ((64-Lib.bitLen x:Nat):Int)) w):bj prog bits_LeadingZeros64.id #[.int .u64 x] w K:=by
 refine bits_LeadingZeros64.of (vy x hx ⟨_,rfl,?_⟩);have hle:=Lib.bitLen_le x 64 (by omega) (by omega)
 rwa [gQ (by omega) (by omega),show(64:Int)-(Lib.bitLen x:Int)=((64-Lib.bitLen x:Nat):Int)by omega]
theorem vz(hi lo y:Nat)(Wv:lo<18446744073709551616)(hy:y<18446744073709551616)(hhi:hi<y)
 (hK:∀r w',Kept Nil w w'->K (.tuple #[.int .u64 (((hi*18446744073709551616+lo)/y:Nat):Int),.int .u64 r]) w'):
 bj prog aZ.id #[.int .u64 hi,.int .u64 lo,.int .u64 y] w K:=by
 refine aZ.of (Split.no (beq_eq_false_iff_ne.2 (by omega)) (Split.no (decide_eq_false (by omega)) ?_));by_cases h0:hi=0
 ·subst h0
  refine Split.yes rfl ?_;intro w6;refine⟨by omega,by omega,?_⟩;have e:u64.wrap ((lo:Int).tdiv (y:Int))=(((0*18446744073709551616+lo)/y:Nat):Int):=by
   rw [Int.tdiv_eq_ediv_of_nonneg (by omega),Nat.zero_mul,Nat.zero_add,<-Int.natCast_ediv];have:=Nat.div_le_self lo y;generalize lo/y=z at*;exact fk (by omega) (by omega)
  rw [e];exact hK _ w6 (Kept.refl Nil w).drew
 ·refine Split.no (beq_eq_false_iff_ne.2 (by omega)) (np y hy ⟨_,rfl,?_⟩)
  obtain⟨xK,aaR,hY1,hY2⟩:=bitLen_spec (y:=y) (by omega) hy;have hs:64-Lib.bitLen y<64:=by omega
  generalize 64-Lib.bitLen y=s at*;have eS:u64.wrap (s:Int)=(s:Int):=fk (by omega) (by omega);have eS2:u64.wrap ((64:Int)-(s:Int))=((64-s:Nat):Int):=by rw [fk (by omega) (by omega)];omega
  have em1:min s 64=s:=by omega
  have em2:min (64-s) 64=64-s:=by omega
  have em3:min (32:Int).toNat 64=32:=rfl;have Qi:2 ^ (64-s)*2 ^ s=18446744073709551616:=by rw [<-Nat.pow_add,show 64-s+s=64 by omega]
  have im:0<2 ^ s:=Nat.pow_pos (by omega);have SK:0<2 ^ (64-s):=Nat.pow_pos (by omega);simp only [eS,eS2,Int.toNat_natCast,em1,em2,em3,Xy];generalize hYd:y*2 ^ s=Y at*;have hhs:hi*2 ^ s<18446744073709551616:=by
   have:hi*2 ^ s<y*2 ^ s:=Nat.mul_lt_mul_of_pos_right hhi im;omega
  have hlq:lo/2 ^ (64-s)<2 ^ s:=by
   rw [Nat.div_lt_iff_lt_mul SK,Nat.mul_comm,Qi];exact Wv
  have ZR:lo/2 ^ (64-s)<18446744073709551616:=Nat.lt_of_le_of_lt (Nat.div_le_self _ _) Wv;have eY:u64.wrap (Y:Int)=(Y:Int):=fk (by omega) (by omega);have eH:u64.wrap ((hi*2 ^ s:Nat):Int)=((hi*2 ^ s:Nat):Int):=fk (by omega) (by omega);have eL:u64.wrap ((lo*2 ^ s:Nat):Int)=((lo*2 ^ s%18446744073709551616:Nat):Int):=by rw [IntKind.wrap_u64];omega
  have e32:∀a:Nat,Int.fdiv (a:Int) (2 ^ 32)=((a/4294967296:Nat):Int):=fun a=>Q1 a 32;simp only [eY,eH,eL,e32,Q1 lo,orN hi _ s hhs hlq ZR,VA Y (by omega),VA _ (Nat.mod_lt (lo*2 ^ s) (by omega:18446744073709551616>0))];have hN:(hi*18446744073709551616+lo)*2 ^ s=(hi*2 ^ s+lo/2 ^ (64-s))*18446744073709551616+lo*2 ^ s%18446744073709551616:=by
   have h1:lo*2 ^ s/18446744073709551616=lo/2 ^ (64-s):=by
    rw [<-Qi,Nat.mul_div_mul_right _ _ im]
   have h2:=Nat.div_add_mod (lo*2 ^ s) 18446744073709551616;rw [h1]at h2;rw [Nat.add_mul,Nat.mul_right_comm];omega
  have aiC:(hi*18446744073709551616+lo)*2 ^ s<Y*18446744073709551616:=by
   have h1:hi*18446744073709551616+lo<y*18446744073709551616:=by omega
   have:=Nat.mul_lt_mul_of_pos_right h1 im;rw [Nat.mul_right_comm,hYd]at this;exact this
  have LB:(hi*18446744073709551616+lo)*2 ^ s/Y=(hi*18446744073709551616+lo)/y:=by rw [<-hYd,Nat.mul_div_mul_right _ _ im]
  rw [<-LB]at hK;clear LB;generalize (hi*18446744073709551616+lo)*2 ^ s=N at*;have hL:lo*2 ^ s%18446744073709551616<18446744073709551616:=Nat.mod_lt _ (by omega);generalize lo*2 ^ s%18446744073709551616=L at*;generalize hi*2 ^ s+lo/2 ^ (64-s)=u at*;have hu:u<Y:=by omega
  have Fb:2147483648<=Y/4294967296:=by omega
  have JZ:Y/4294967296<4294967296:=by omega
  have Em:Y%4294967296<4294967296:=by omega
  have hYe:Y=Y/4294967296*4294967296+Y%4294967296:=by omega
  have IE:L/4294967296<4294967296:=by omega
  have YP:L%4294967296<4294967296:=by omega
  have hLe:L=L/4294967296*4294967296+L%4294967296:=by omega
  generalize Y/4294967296=n1 at*;generalize Y%4294967296=n0 at*;generalize L/4294967296=u1 at*;generalize L%4294967296=u0 at*;have Mg:∀v:Nat,v<18446744073709551616->u64.wrap ((v:Int).tdiv (n1:Int))=((v/n1:Nat):Int)/\u64.wrap ((v:Int)-u64.wrap (((v/n1:Nat):Int)*(n1:Int)))=((v%n1:Nat):Int)/\v/n1*n1+v%n1=v/\v%n1<n1:=by
   intro v hv;have h1:=Nat.div_le_self v n1;have h2:=Nat.div_add_mod' v n1;refine⟨?_,?_,h2,Nat.mod_lt _ (by omega)⟩
   ·rw [Int.tdiv_eq_ediv_of_nonneg (by omega),<-Int.natCast_ediv]
    generalize v/n1=z at*;exact fk (by omega) (by omega)
   ·rw [<-Int.natCast_mul,fk (x:=((v/n1*n1:Nat):Int)) (by omega) (by omega),fk (by omega) (by omega)]
    omega
  have first:∀v d:Nat,v<Y->d<4294967296->v*4294967296+d<(v/n1+1)*Y:=by
   intro v d hv hd;have h2:=Nat.div_add_mod' v n1;have h3:=Nat.mod_lt v (show 0<n1 by omega);have h4:v+1<=(v/n1+1)*n1:=by rw [Nat.succ_mul];omega
   have h5:(v+1)*4294967296<=(v/n1+1)*n1*4294967296:=Nat.mul_le_mul_right _ h4;have h6:(v/n1+1)*n1*4294967296<=(v/n1+1)*Y:=by
    have h7:n1*4294967296<=Y:=Nat.le_trans (Nat.le_add_right _ n0) (Nat.le_of_eq hYe.symm);rw [Nat.mul_assoc];exact Nat.mul_le_mul_left _ h7
   omega
  obtain⟨g1,g2,g3,g4⟩:=Mg u (by omega);simp only [g1,g2];refine⟨by omega,by omega,by omega,by omega,by omega,by omega,by omega,?_⟩;refine EE hYe Em Fb JZ hu (by omega) IE ?_ (u/n1) (u%n1) g3 (first u u1 hu IE) (by omega);intro q r LC Qg;rw [show aZ.e1 (Y:Int) 0 0 (s:Int) (n1:Int) (n0:Int) (u:Int) (u1:Int) (u0:Int) ((q:Int),(r:Int))= [(2,.int .u64 (Y:Int)),(6,.int .u64 0),(7,.int .u64 0),(8,.int .u64 (s:Int)),(9,.int .u64 (n1:Int)),(10,.int .u64 (n0:Int)),(11,.int .u64 (u:Int)),(13,.int .u64 (u1:Int)),(14,.int .u64 (u0:Int)),(15,.int .u64 (q:Int)),(16,.int .u64 (r:Int))]from rfl];rw [aZ.c8];have hqB:=Mi hu IE LC;rw [Nat.succ_mul]at Qg;have hp:u64.wrap (u64.wrap (u64.wrap ((u:Int)*4294967296)+(u1:Int))-u64.wrap ((q:Int)*(Y:Int)))=((u*4294967296+u1-q*Y:Nat):Int):=by
   rw [<-Int.natCast_mul q Y];simp only [IntKind.wrap_u64];generalize q*Y=p at*;omega
  unfold aZ.cK;simp only [hp];have hv:u*4294967296+u1-q*Y<Y:=by omega
  generalize hvd:u*4294967296+u1-q*Y=v at*;obtain⟨g1',g2',g3',g4'⟩:=Mg v (by omega);simp only [g1',g2'];refine⟨by omega,?_⟩;refine ED hYe Em Fb JZ hv (by omega) YP ?_ (v/n1) (v%n1) g3' (first v u0 hv YP) (by omega);intro q' r' SI Zm;rw [show aZ.e2 (Y:Int) 0 0 (s:Int) (n1:Int) (n0:Int) (u0:Int) (q:Int) (v:Int) ((r':Int),(q':Int))= [(2,.int .u64 (Y:Int)),(6,.int .u64 0),(7,.int .u64 0),(8,.int .u64 (s:Int)),(9,.int .u64 (n1:Int)),(10,.int .u64 (n0:Int)),(14,.int .u64 (u0:Int)),(15,.int .u64 (q:Int)),(16,.int .u64 (r':Int)),(17,.int .u64 (v:Int)),(18,.int .u64 (q':Int))]from rfl];rw [aZ.jA];have ahf:=Mi hv YP SI;refine⟨by omega,?_⟩;have Y2:u64.wrap (u64.wrap ((q:Int)*4294967296)+(q':Int))=((N/Y:Nat):Int):=by
   rw [fk (x:=(q:Int)*4294967296) (by omega) (by omega),fk (by omega) (by omega)];have:N/Y=q*4294967296+q':=by
    apply Nat.div_eq_of_lt_le
    ·rw [Nat.add_mul,Nat.mul_right_comm]
     exact abD hN hLe hvd LC SI
    ·rw [Nat.add_assoc,Nat.add_mul,Nat.mul_right_comm]
     exact abC hN hLe hvd LC Zm
   rw [this];omega
  rw [Y2];exact hK _ w (Kept.refl Nil w)
end
end Go.Proofs.YtnboahlopghcjaaGreatDoor.Tr
namespace Go.Proofs.YtnboahlopghcjaaGreatDoor.Tr
open Go.Proofs.Tryz
structure kF(T T':List Nd):Prop where
 len:T'.length=T.length
 at_:∀(i:Nat) nd,T[i]? =some nd->∃nd',T'[i]? =some nd'/\nd'.parent=nd.parent/\nd'.ch=nd.ch
theorem kF.refl(T:List Nd):kF T T:=⟨rfl,fun _ nd h=>⟨nd,h,rfl,rfl⟩⟩
theorem kF.trans{T T' C4:List Nd}(h:kF T T')(h':kF T' C4):kF T C4:=⟨h'.len.trans h.len,fun i nd hi=>by
 obtain⟨nd',h1,h2,h3⟩:=h.at_ i nd hi;obtain⟨XR,g1,g2,g3⟩:=h'.at_ i nd' h1;exact⟨XR,g1,g2.trans h2,g3.trans h3⟩⟩
theorem kF.back{T T':List Nd}(h:kF T T'){i:Nat}{nd':Nd}(hi:T'[i]? =some nd'):∃nd,T[i]? =some nd/\nd'.parent=nd.parent/\nd'.ch=nd.ch:=by
 have cy:=(lgeS hi).1;obtain⟨nd,eF⟩:=fE (T:=T) (i:=i) (by rw [<-h.len];exact cy);obtain⟨x,h1,h2,h3⟩:=h.at_ i nd eF;rw [hi]at h1;cases h1;exact⟨nd,eF,h2,h3⟩
theorem kF.bN{T T':List Nd}(h:kF T T'):bN T'=bN T:=by
 apply List.ext_getElem?;intro i;rcases Nat.lt_or_ge i T.length with hi|hi
 ·obtain⟨nd,eF⟩:=fE hi
  obtain⟨nd',h1,h2,_⟩:=h.at_ i nd eF;rw [kc eF,kc h1,h2]
 ·rw [List.getElem?_eq_none (by rw [eo,h.len];exact hi),List.getElem?_eq_none (by rw [eo];exact hi)]
theorem kF.shape{T T':List Nd}(h:kF T T')(hS:Shape T):Shape T':=⟨by rw [h.bN];exact hS.par,fun i nd' hi=>by
 obtain⟨nd,eF,_,h3⟩:=h.back hi;rw [h.bN,h3,hS.ch i nd eF]⟩
theorem kF.set{T:List Nd}{i:Nat}{nd nd':Nd}(hi:T[i]? =some nd)(h1:nd'.parent=nd.parent)(h2:nd'.ch=nd.ch):kF T (T.set i nd'):=
 ⟨by simp,fun j x hj=>by
   by_cases e:i=j
   ·subst e
    rw [hi]at hj;cases hj;exact⟨nd',ij hi,h1,h2⟩
   ·exact⟨x,nf hj e,rfl,rfl⟩⟩
theorem wo{T:List Nd}{n p:Nat}{nd pd:Nd}{many:Int}(hn:T[n]? =some nd)(hp:T[p]? =some pd)(fg:n≠p)(i:Nat):
 (uy T n p nd pd many)[i]? =if i=p then some {pd with free:=pd.free+many}else if i=n then some {nd with lo:=pd.free,hi:=pd.free+many-1,free:=pd.free}else T[i]? :=by
 unfold uy;by_cases e:i=p
 ·subst e
  rw [if_pos rfl];exact ij (nf hp fg)
 ·rw [if_neg e,List.getElem?_set_ne (fun h=>e h.symm)]
  by_cases e2:i=n
  ·subst e2
   rw [if_pos rfl];exact ij hn
  ·rw [if_neg e2,List.getElem?_set_ne (fun h=>e2 h.symm)]
theorem ux{T:List Nd}{n p:Nat}{nd pd:Nd}(many:Int)(hn:T[n]? =some nd)(hp:T[p]? =some pd)(fg:n≠p):kF T (uy T n p nd pd many):=
 (kF.set (nd':= {nd with lo:=pd.free,hi:=pd.free+many-1,free:=pd.free}) hn rfl rfl).trans (kF.set (nd:=pd) (nd':= {pd with free:=pd.free+many}) (nf hp fg) rfl rfl)
theorem x7{l:List Nat}(hs:l.Pairwise (· < ·)){k c:Nat}(hc:l[k]? =some c):∀y,y∈l.take k->y<c:=by
 intro y hy;obtain⟨j,hj⟩:=List.mem_iff_getElem?.1 hy;rw [List.getElem?_take]at hj;split at hj
 ·rename_i cy
  obtain⟨h1,e1⟩:=lgeS hj;obtain⟨h2,e2⟩:=lgeS hc;rw [<-e1,<-e2];exact List.pairwise_iff_getElem.1 hs j k h1 h2 cy
 ·cases hj
theorem mR{l:List Nat}{k c:Nat}(hc:l[k]? =some c):l.take (k+1)=l.take k++ [c]:=by
 rw [List.take_add_one,hc];rfl
structure oX(P:List Int)(T1:List Nd)(x:Nat)(xd:Nd)(half:Int)(k:Nat)(T':List Nd)(f:Int):Prop where
 mS:kF T1 T'
 here:T'[x]? =some {xd with free:=f}
 rest:∀y,y≠x->y∉xd.ch.take k->T'[y]? =T1[y]?
 lo:xd.lo+(((xd.ch.take k).map (sz P)).sum:Nat)<=f
 up:(f-xd.lo-(((xd.ch.take k).map (sz P)).sum:Nat))*(sz P x:Int)<=half*(((xd.ch.take k).map (sz P)).sum:Nat)
 pV:∀c cd,c∈xd.ch.take k->T'[c]? =some cd->xd.lo<=cd.lo/\cd.hi<f/\(sz P c:Int)<=cd.hi-cd.lo+1
 ord:∀c c' cd uN,c∈xd.ch.take k->c'∈xd.ch.take k->c<c'->T'[c]? =some cd->T'[c']? =some uN->cd.hi<uN.lo
section
variable{P:List Int}{T1 T':List Nd}{x:Nat}{xd:Nd}{half f:Int}{k:Nat}
theorem oX.start(hx:T1[x]? =some xd)(hf:xd.free=xd.lo):oX P T1 x xd half 0 T1 xd.lo:= {
 mS:=kF.refl _
 here:=by obtain⟨a,b,c,d,e⟩:=xd;simp only at hf;subst hf;exact hx
 rest:=fun _ _ _=>rfl
 lo:=by simp
 up:=by simp
 pV:=fun c cd hc=>by simp at hc
 ord:=fun c c' cd uN hc=>by simp at hc}
theorem oX.bound(h:oX P T1 x xd half k T' f)(hh:0<=half)(Qa:1<=sz P x)(G4:((xd.ch.take k).map (sz P)).sum<=sz P x):f<=xd.lo+(((xd.ch.take k).map (sz P)).sum:Nat)+half:=by
 have h1:half*(((xd.ch.take k).map (sz P)).sum:Nat)<=half*(sz P x:Int):=Int.mul_le_mul_of_nonneg_left (by omega) hh;have h2:=Int.le_trans h.up h1;have h3:=Int.le_of_mul_le_mul_right h2 (by omega);omega
theorem oX.step(h:oX P T1 x xd half k T' f)(hs:xd.ch.Pairwise (· < ·)){c:Nat}(hx:∀y,y∈xd.ch->x<y)(hc:xd.ch[k]? =some c){cd:Nd}(jg:T'[c]? =some cd)
 {more:Int} (Qp:0<=more) (hm:more*(sz P x:Int)<=half*(sz P c:Int)) (CE:1<=sz P c):
 oX P T1 x xd half (k+1) (uy T' c x cd {xd with free:=f} ((sz P c:Int)+more)) (f+((sz P c:Int)+more)):=by
 have cy:=x7 hs hc;have hxc:x<c:=hx c (List.mem_of_getElem? hc);have Ta:c∉xd.ch.take k:=fun hh=>Nat.lt_irrefl _ (cy c hh);have fW:=wo (many:=(sz P c:Int)+more) jg h.here (by omega);have G4:((xd.ch.take (k+1)).map (sz P)).sum=((xd.ch.take k).map (sz P)).sum+sz P c:=by rw [mR hc];simp
 have gR:∀y,y∈xd.ch.take (k+1)↔y∈xd.ch.take k\/y=c:=by intro y;rw [mR hc];simp
 exact {
  mS:=h.mS.trans (ux _ jg h.here (by omega))
  here:=by rw [fW,if_pos rfl]
  rest:=fun y hy hn=>by
   rw [fW,if_neg hy,if_neg (fun e=>hn ((gR y).2 (.inr e)))];exact h.rest y hy (fun hh=>hn ((gR y).2 (.inl hh)))
  lo:=by rw [G4];have:=h.lo;omega
  up:=by
   rw [G4];have h1:=h.up;have e1:(f+((sz P c:Int)+more)-xd.lo-((((xd.ch.take k).map (sz P)).sum+sz P c:Nat):Int))*(sz P x:Int)=(f-xd.lo-((((xd.ch.take k).map (sz P)).sum:Nat):Int))*(sz P x:Int)+more*(sz P x:Int):=by
    rw [<-Int.add_mul];congr 1;omega
   have e2:half*((((xd.ch.take k).map (sz P)).sum+sz P c:Nat):Int)=half*((((xd.ch.take k).map (sz P)).sum:Nat):Int)+half*(sz P c:Int):=by
    rw [<-Int.mul_add];congr 1
   rw [e1,e2];omega
  pV:=fun y yd hy Az=>by
   have Wv:=h.lo;rw [fW]at Az;rcases(gR y).1 hy with hh|rfl
   ·have h1:=cy y hh
    have h2:=hx y (List.mem_of_mem_take hh);rw [if_neg (by omega),if_neg (by omega)]at Az;have:=h.pV y yd hh Az;exact⟨this.1,by omega,this.2.2⟩
   ·rw [if_neg (by omega),if_pos rfl]at Az
    cases Az;refine⟨?_,?_,?_⟩<;>simp only<;>omega
  ord:=fun a b ad bd ha hb lD Mb L6=>by
   rw [fW]at Mb L6;rcases(gR b).1 hb with vr|rfl
   ·have h1:=cy b vr
    rcases(gR a).1 ha with zK|rfl
    ·have h2:=hx a (List.mem_of_mem_take zK)
     rw [if_neg (by omega),if_neg (by omega)]at Mb L6;exact h.ord a b ad bd zK vr lD Mb L6
    ·omega
   ·rcases(gR a).1 ha with zK|rfl
    ·have h1:=cy a zK
     have h2:=hx a (List.mem_of_mem_take zK);rw [if_neg (by omega),if_neg (by omega)]at Mb;rw [if_neg (by omega),if_pos rfl]at L6;cases L6;exact(h.pV a ad zK Mb).2.1
    ·omega}
end
structure mM(P:List Int)(T0:List Nd)(m:Nat)(T':List Nd)(q:List Nat)(i:Nat):Prop where
 mS:kF T0 T'
 nodup:q.Nodup
 nY:∀y,y∈q->jC P y m
 fst:m∈q
 src:∀y,y∈q->y=m\/∃z:Nat,z∈q.take i/\P[y]? =some (z:Int)
 W4:∀z,z∈q.take i->∀c,c∈kids P z->c∈q
 rest:∀y,y∉q->T'[y]? =T0[y]?
 top:∀md Ro,T0[m]? =some md->T'[m]? =some Ro->Ro.lo=md.lo/\Ro.hi=md.hi
 room:∀y yd,y∈q->T'[y]? =some yd->1<=yd.lo/\yd.hi<=4611686018427387904/\(sz P y:Int)<=yd.hi-yd.lo+1
 loc:∀z zd,z∈q.take i->T'[z]? =some zd->Loc T' zd
theorem mM.start{P:List Int}{T0:List Nd}{m:Nat}{md:Nd}(hm:m<P.length)(uY:T0[m]? =some md)(h1:1<=md.lo)(h2:md.hi<=4611686018427387904)(h3:(sz P m:Int)<=md.hi-md.lo+1):
 mM P T0 m T0 [m] 0:= {
 mS:=kF.refl _
 nodup:=by simp
 nY:=fun y hy=>by simp at hy;subst hy;exact .refl hm
 fst:=by simp
 src:=fun y hy=>by simp at hy;exact .inl hy
 W4:=fun z hz=>by simp at hz
 rest:=fun _ _=>rfl
 top:=fun a b ha hb=>by rw [ha]at hb;cases hb;exact⟨rfl,rfl⟩
 room:=fun y yd hy Az=>by
  simp at hy;subst hy;rw [uY]at Az;cases Az;exact⟨h1,h2,h3⟩
 loc:=fun z zd hz=>by simp at hz}
section
variable{T0 T' C4:List Nd}{m x i:Nat}{q:List Nat}{xd:Nd}{f half:Int}
theorem mM.step(hS:Shape T0)(h:mM (bN T0) T0 m T' q i)(hq:q[i]? =some x)(IB:T'[x]? =some xd)
 (CP:0<=half) (Z6:half*2<=xd.hi-xd.lo-((sz (bN T0) x:Int)-1))
 (fz:oX (bN T0) (T'.set x {xd with free:=xd.lo}) x {xd with free:=xd.lo} half xd.ch.length C4 f):
 mM (bN T0) T0 m C4 (q++xd.ch) (i+1):=by
 have WM:=h.mS.shape hS;have Zr:=h.mS.bN;have hP:=hS.par;have oL:xd.ch=kids (bN T0) x:=by rw [WM.ch x xd IB,Zr]
 have dW:i<q.length:=(lgeS hq).1;have GW:x∈q:=List.mem_of_getElem? hq;have th:x<(bN T0).length:=(h.nY x GW).lt;have xF:q.take (i+1)=q.take i++ [x]:=mR hq;have NT:(q++xd.ch).take (i+1)=q.take i++ [x]:=by rw [List.take_append_of_le_length (by omega),xF]
 have Lo:x∉q.take i:=by
  intro hh;have hn:(q.take i++ [x]).Nodup:=by rw [<-xF];exact h.nodup.sublist (List.take_sublist _ _)
  rw [List.nodup_append]at hn;exact hn.2.2 x hh x (by simp) rfl
 have En:∀c,c∈xd.ch->(bN T0)[c]? =some (x:Int):=fun c hc=>eA.1 (oL▸hc);have wj:∀c,c∈xd.ch->x<c:=fun c hc=>(iB hP (oL▸hc)).1;have jP:∀c,c∈xd.ch->c∉q:=by
  intro c hc WD;rcases h.src c WD with rfl|⟨z,hz,Qh⟩
  ·have:=(h.nY x GW).le hP
   have:=wj _ hc;omega
  ·rw [En c hc]at Qh
   have:z=x:=by have:=Option.some.inj Qh;omega
   exact Lo (this▸hz)
 have agv:x∉xd.ch:=fun hh=>Nat.lt_irrefl _ (wj x hh);have cR:∀c,c∈(({xd with free:=xd.lo}:Nd).ch.take xd.ch.length)↔c∈xd.ch:=by intro c;simp
 have G4:(xd.ch.map (sz (bN T0))).sum+1=sz (bN T0) x:=by
  rw [oL];exact BU hP th
 have im:=tz hP th;have Qr:=fz.bound CP im (by simp only [List.take_length];omega);have aai:=fz.lo;simp only [List.take_length]at Qr aai;have aaj:f<=xd.hi:=by omega
 have hT1:∀y,y≠x->(T'.set x {xd with free:=xd.lo})[y]? =T'[y]? :=fun y hy=>List.getElem?_set_ne (fun e=>hy e.symm);have Hf:∀y,y≠x->y∉xd.ch->C4[y]? =T'[y]? :=fun y hy hn=>by
  rw [fz.rest y hy (fun hh=>hn ((cR y).1 hh)),hT1 y hy]
 have LU:C4[x]? =some {xd with free:=f}:=fz.here;have hxr:=h.room x xd GW IB;have hlh:xd.lo<=xd.hi:=by omega
 have hold:∀y xQ,y∉xd.ch->C4[y]? =some xQ->∃yd,T'[y]? =some yd/\yd.lo=xQ.lo/\yd.hi=xQ.hi:=by
  intro y xQ hn hy;by_cases e:y=x
  ·subst e
   rw [LU]at hy;cases hy;exact⟨xd,IB,rfl,rfl⟩
  ·rw [Hf y e hn]at hy
   exact⟨xQ,hy,rfl,rfl⟩
 exact {
  mS:=(h.mS.trans (kF.set (nd':= {xd with free:=xd.lo}) IB rfl rfl)).trans fz.mS
  nodup:=by
   rw [List.nodup_append];refine⟨h.nodup,?_,fun a ha b hb e=>jP b hb (e▸ha)⟩;rw [oL];exact(se _ _).imp (fun h=>by omega)
  nY:=fun y hy=>by
   rcases List.mem_append.1 hy with hy|hy
   ·exact h.nY y hy
   ·exact .step (En y hy) (h.nY x GW)
  fst:=List.mem_append.2 (.inl h.fst)
  src:=fun y hy=>by
   rw [NT];rcases List.mem_append.1 hy with hy|hy
   ·rcases h.src y hy with e|⟨z,hz,Qh⟩
    ·exact .inl e
    ·exact .inr ⟨z,List.mem_append.2 (.inl hz),Qh⟩
   ·exact .inr ⟨x,by simp,En y hy⟩
  W4:=fun z hz c hc=>by
   rw [NT]at hz;rcases List.mem_append.1 hz with hz|hz
   ·exact List.mem_append.2 (.inl (h.W4 z hz c hc))
   ·simp at hz
    subst hz;exact List.mem_append.2 (.inr (oL▸hc))
  rest:=fun y hy=>by
   have h1:y∉q:=fun hh=>hy (List.mem_append.2 (.inl hh));have h2:y∉xd.ch:=fun hh=>hy (List.mem_append.2 (.inr hh));rw [Hf y (fun e=>h1 (e▸GW)) h2,h.rest y h1]
  top:=fun md XU uY Tn=>by
   obtain⟨Ro,h1,h2,h3⟩:=hold m XU (fun hh=>jP m hh h.fst) Tn;have:=h.top md Ro uY h1;omega
  room:=fun y xQ hy Ln=>by
   rcases List.mem_append.1 hy with hy|hy
   ·obtain⟨yd,h1,h2,h3⟩:=hold y xQ (fun hh=>jP y hh hy) Ln
    have:=h.room y yd hy h1;omega
   ·have:=fz.pV y xQ ((cR y).2 hy) Ln
    simp only at this;omega
  loc:=fun z zd hz Ys=>by
   rw [NT]at hz;rcases List.mem_append.1 hz with hz|hz
   ·have hzq:z∈q:=List.mem_of_mem_take hz
    have Sa:z≠x:=fun e=>Lo (e▸hz);have NC:=Ys;rw [Hf z Sa (fun hh=>jP z hh hzq)]at NC;have hl:=h.loc z zd hz NC;have Yt:zd.ch=kids (bN T0) z:=by rw [WM.ch z zd NC,Zr]
    have WE:∀c,c∈zd.ch->c∉xd.ch:=by
     intro c hc LW;have h1:=En c LW;rw [eA.1 (Yt▸hc:c∈kids (bN T0) z)]at h1;have:=Option.some.inj h1;omega
    exact {
     Fh:=hl.Fh
     Bi:=hl.Bi
     sub:=fun c cd hc jg=>by
      obtain⟨uN,h1,h2,h3⟩:=hold c cd (WE c hc) jg;have:=hl.sub c uN hc h1;omega
     ord:=fun c c' cd uN hc sN y0 jg pZ=>by
      obtain⟨ed,h1,h2,h3⟩:=hold c cd (WE c hc) jg;obtain⟨Ps,sj,uv,CT⟩:=hold c' uN (WE c' sN) pZ;have:=hl.ord c c' ed Ps hc sN y0 h1 sj;omega}
   ·simp at hz
    subst hz;rw [LU]at Ys;cases Ys;exact {
     Fh:=by simp only;omega
     Bi:=aaj
     sub:=fun c cd hc jg=>by
      have:=fz.pV c cd ((cR c).2 hc) jg;simp only at this⊢;omega
     ord:=fun c c' cd uN hc sN y0 jg pZ=>fz.ord c c' cd uN ((cR c).2 hc) ((cR c').2 sN) y0 jg pZ}}
theorem mM.fin(hS:Shape T0)(h:mM (bN T0) T0 m T' q i)(hi:q.length<=i)
 (SV:∀y nd,T0[y]? =some nd->¬jC (bN T0) y m->Iv nd/\Loc T0 nd):Good T':=by
 have WM:=h.mS.shape hS;have Zr:=h.mS.bN;have hP:=hS.par;have xF:q.take i=q:=List.take_of_length_le hi;have pG:∀y,jC (bN T0) y m->y∈q:=by
  have:∀y k,jC (bN T0) y k->k=m->y∈q:=by
   intro y k hu
   induction hu with
   |refl=>intro e;subst e;exact h.fst
   | @step a b c hp h' ih=>intro e;exact h.W4 b (by rw [xF];exact ih e) a (eA.2 hp)
  exact fun y hu=>this y m hu rfl
 have hq:∀y,y∈q↔jC (bN T0) y m:=fun y=>⟨h.nY y,pG y⟩;refine⟨WM,fun y yd Az=>?_,fun y yd Az=>?_⟩
 ·by_cases hy:y∈q
  ·have hr:=h.room y yd hy Az
   have:=tz hP (h.nY y hy).lt;exact⟨hr.1,by omega,hr.2.1⟩
  ·rw [h.rest y hy]at Az
   exact(SV y yd Az (fun hu=>hy (pG y hu))).1
 ·by_cases hy:y∈q
  ·exact h.loc y yd (by rw [xF];exact hy) Az
  ·have NF:=Az
   rw [h.rest y hy]at NF;have hl:=(SV y yd NF (fun hu=>hy (pG y hu))).2;have oL:=hS.ch y yd NF;have hold:∀c cd,c∈yd.ch->T'[c]? =some cd->∃ed,T0[c]? =some ed/\ed.lo=cd.lo/\ed.hi=cd.hi:=by
    intro c cd hc jg;by_cases WD:c∈q
    ·have hpc:=eA.1 (oL▸hc:c∈kids (bN T0) y)
     have nD:c=m:=by
      by_cases e:c=m
      ·exact e
      ·exact absurd (pG y ((h.nY c WD).inv e hpc)) hy
     subst nD;obtain⟨ed,hed,_⟩:=h.mS.back jg;have:=h.top ed cd hed jg;exact⟨ed,hed,by omega,by omega⟩
    ·rw [h.rest c WD]at jg
     exact⟨cd,jg,rfl,rfl⟩
   exact {
    Fh:=hl.Fh
    Bi:=hl.Bi
    sub:=fun c cd hc jg=>by
     obtain⟨ed,h1,h2,h3⟩:=hold c cd hc jg;have:=hl.sub c ed hc h1;omega
    ord:=fun c c' cd uN hc sN y0 jg pZ=>by
     obtain⟨ed,h1,h2,h3⟩:=hold c cd hc jg;obtain⟨Ps,sj,uv,CT⟩:=hold c' uN sN pZ;have:=hl.ord c c' ed Ps hc sN y0 h1 sj;omega}
end
open Go Go.RowKit Go.bP
theorem MY{l:List Nat}{a:Nat}(h:a∈l):a<=l.sum:=by
 induction l with
 |nil=>simp at h
 |cons b l ih=>
  rw [List.sum_cons];rcases List.mem_cons.1 h with rfl|h
  ·omega
  ·have:=ih h;omega
theorem yQ{l:List Nat}{j x:Nat}(h:l[j]? =some x):(ints l)[j]? =some (.int .i64 (x:Int)):=by simp [ints,h]
theorem GR(l:List Nat):(ints l).length=l.length:=by simp [ints]
theorem GQ(l:List Nat):∀u∈ints l,u.oneCell'=true:=by
 intro u hu;simp only [ints,List.mem_map]at hu;obtain⟨x,_,rfl⟩:=hu;rfl
structure Dl(w0:World)(S:Nat->Prop)(g b c B0 B1 len:Nat)(P:List Int)(d:Int)(As:Option Addr)(w:World)(T':List Nd)(L:List (Nd×Value))(Aq:Option Addr)(nq cq:Nat)(q:List Nat):Prop where
 tv:TV w S g T' d b c L
 rs:Row w B0 ir 1 As len len (us (sz P) len)
 sb:∀k,a8 As=some k->k<B1
 rq:Row w B1 fR 1 Aq nq cq (ints q)
 kp:Kept S w0 w
 hS:∀k,S k->k<B0
 hB:B0<=B1
 HF:B1<=w.heap.size
 h0:w0.heap.size<=B0
section
variable{w0 w w':World}{S:Nat->Prop}{g b c B0 B1 len:Nat}{P:List Int}{d:Int}{As:Option Addr}{T' C4:List Nd}{L L':List (Nd×Value)}{Aq:Option Addr}{nq cq:Nat}{q:List Nat}
theorem Dl.I9(h:Dl w0 S g b c B0 B1 len P d As w T' L Aq nq cq q):nq=q.length:=by
 have:=Row.len h.rq;rw [GR]at this;omega
theorem Dl.quiet(h:Dl w0 S g b c B0 B1 len P d As w T' L Aq nq cq q)(hk:Kept Nil w w'):Dl w0 S g b c B0 B1 len P d As w' T' L Aq nq cq q:= {
 tv:=h.tv.kept hk
 rs:=Row.aD h.rs hk (fun _ _ h=>h)
 sb:=h.sb
 rq:=Row.aD h.rq hk (fun _ _ h=>h)
 kp:=h.kp.trans hk (fun _ _ h=>h.elim)
 hS:=h.hS
 hB:=h.hB
 HF:=Nat.le_trans h.HF hk.size
 h0:=h.h0}
theorem Dl.wrote(h:Dl w0 S g b c B0 B1 len P d As w T' L Aq nq cq q)(hk:Kept (fun k=>k=b) w w')(ht:TV w' S g C4 d b c L'):Dl w0 S g b c B0 B1 len P d As w' C4 L' Aq nq cq q:= {
 tv:=ht
 rs:=Row.aD h.rs hk (fun k e e2=>by have:=(Row.bC h.rs e).1;have:=h.hS b h.tv.fK;omega)
 sb:=h.sb
 rq:=Row.aD h.rq hk (fun k e e2=>by have:=(Row.bC h.rq e).1;have:=h.hS b h.tv.fK;have:=h.hB;omega)
 kp:=h.kp.trans hk (fun k _ e=>by rw [e];exact h.tv.fK)
 hS:=h.hS
 hB:=h.hB
 HF:=Nat.le_trans h.HF hk.size
 h0:=h.h0}
theorem Dl.Ce(h:Dl w0 S g b c B0 B1 len P d As w T' L Aq nq cq q){j:Nat}(hj:j<len){k:Int->Prop}(hk:k (sz P j)):
 Is As fun a=>∃t,w.cell? (a.add (j*1))=some (.int .u64 t)/\k t:=by
 have hr:=h.rs;obtain⟨b',rfl⟩:=Row.some hr (by omega);exact⟨_,by rw [lK,Nat.mul_one];exact Row.cell hr (oe _ hj),hk⟩
theorem Dl.Rc(h:Dl w0 S g b c B0 B1 len P d As w T' L Aq nq cq q){j x:Nat}(hj:q[j]? =some x){k:Int->Prop}(hk:k x):
 Is Aq fun a=>∃t,w.cell? (a.add (j*1))=some (.int .i64 t)/\k t:=by
 have hr:=h.rq;have cy:=(lgeS hj).1;obtain⟨b',rfl⟩:=Row.some hr (by rw [h.I9];omega);exact⟨_,by rw [lK,Nat.mul_one];exact Row.cell hr (yQ hj),hk⟩
theorem Dl.push(h:Dl w0 S g b c B0 B1 len P d As w T' L Aq nq cq q)(uX:q.length<=4000000)(x:Nat){w1:World}(e1:w1=w.alloc (.cells #[.int .i64 (x:Int)] fR)):
 ∃IV IP w2,(Builtin.append_ #[eR,eR] eR #[.slice Aq nq cq,.slice (some ⟨w.heap.size,0,none⟩) 1 1]).run prog w1=.ok (.slice IV (nq+1) IP) w2/\
  Dl w0 S g b c B0 B1 len P d As w2 T' L IV (nq+1) IP (q++ [x])/\(∀S0:Nat->Prop,(∀k,a8 Aq=some k->S0 k)->Kept S0 w w2):=by
 subst e1;generalize IC:w.alloc (.cells #[.int .i64 (x:Int)] fR)=w1;have jP:w1.heap[w.heap.size]? =some (.cells #[.int .i64 (x:Int)] fR (0,0)):=by rw [<-IC];exact aJ w _
 have k1:Kept Nil w w1:=by rw [<-IC];exact(Kept.refl Nil w).alloc _
 have h1:=h.quiet k1;have JS:=h.I9;obtain⟨A',c',w2,hr,eE,hg,xJ⟩:=eN (P:=prog) (t:=eR) (ty:=eR) FL h1.rq (a:=⟨w.heap.size,0,none⟩) (m:=1) (cx:=1)
  (news:=ints [x]) rfl (fun j u hj=>by rw [lK,ay jP];simpa [ints]using hj) (GQ _) (by omega) (by unfold maxLen;omega) h1.HF
 have kA:Kept (fun k=>a8 Aq=some k) w1 w2:=(Kept.refl _ w1).grown hg (fun k hk _=>hk);have fU:∀k,a8 Aq=some k->B1<=k:=fun k e=>(Row.bC h.rq e).1;refine⟨A',c',w2,hr,?_,fun S0 h0=>(k1.mono (S':=S0) (fun _ _ h=>h.elim)).trans kA (fun k _ e=>h0 k e)⟩;exact {
  tv:=h1.tv.aD kA (fun k hk e=>by have:=h.hS k hk;have:=fU k e;have:=h.hB;omega)
  rs:=Row.aD h1.rs kA (fun k e e2=>by have:=h.sb k e;have:=fU k e2;omega)
  sb:=h.sb
  rq:=by simpa [ints]using eE
  kp:=(h.kp.trans k1 (fun _ _ h=>h.elim)).trans kA (fun k hk e=>absurd (fU k e) (by have:=h.hB;have:=h.h0;omega))
  hS:=h.hS
  hB:=h.hB
  HF:=Nat.le_trans h1.HF kA.size
  h0:=h.h0}
theorem Bk{T0 T1:List Nd}{x:Nat}{xd:Nd}{half:Nat}{spare i:Int}{VV:Option Addr}{V7:Nat}{Qo:aM}
 (D:Dl w0 S g b c B0 B1 T0.length (bN T0) d As w T1 L Aq nq cq q) (hS:Shape T0) (Wp:kF T0 T1) (hlen:T0.length<=1000000) (JS:q.length<=1000000)
 (hx:T1[x]? =some xd) (yY:xd.free=xd.lo) (Wv:0<=xd.lo) (hhi:xd.hi<=4611686018427387904) (CP:(half:Int)*2<=xd.hi-xd.lo-((sz (bN T0) x:Int)-1))
 (E8:u64.wrap (spare.tdiv 2)=(half:Int)) (aau:Row w 0 fR 1 VV xd.ch.length V7 (ints xd.ch)) (Ug:∀k,a8 VV=some k->S k/\k≠b)
 (hex:∀w' C4 f L' IV IP,Dl w0 S g b c B0 B1 T0.length (bN T0) d As w' C4 L' IV (nq+xd.ch.length) IP (q++xd.ch)->oX (bN T0) T1 x xd half xd.ch.length C4 f->
   Qo .normal [(0,.pointer (some ⟨g,0,none⟩)),(4,.slice As T0.length T0.length),(5,.slice IV (nq+xd.ch.length) IP),(6,.int .i64 (i64.wrap (i+1)))] w'):
 Holds none [] prog 164 (.loop (lB (bB (sR (sR (sR (sR (bB (sL (sR (lB (bB (sR (sR (sR (sR (sR (body aw.fn)))))))))))))))))) (aw.q3 Qo) (aw.e3 (some ⟨g,0,none⟩) As T0.length T0.length i x spare VV xd.ch.length V7 xd.ch.length (Aq,nq,cq,0)) w:=by
 have hP:=hS.par;have nz:=eo T0;have oL:xd.ch=kids (bN T0) x:=by
  have:=(Wp.shape hS).ch x xd hx
  rwa [Wp.bN]at this
 have th:x<T0.length:=by rw [<-Wp.len];exact(lgeS hx).1
 have JM:xd.ch.Pairwise (· < ·):=by rw [oL];exact se _ _
 have wj:∀y,y∈xd.ch->x<y:=fun y hy=>(iB hP (oL▸hy)).1;have Uf:xd.ch.length<=1000000:=by rw [oL];exact Nat.le_trans (yH _ _) (by omega)
 have G4:(xd.ch.map (sz (bN T0))).sum+1=sz (bN T0) x:=by rw [oL];exact BU hP (by omega)
 have im:=tz hP (n:=x) (by omega);have YT:=vL (P:=bN T0) x;have hnq:=D.I9;refine aw.qv (I:=fun s w'=>∃(k:Nat) (T':List Nd) (f:Int) (L':List (Nd×Value)) (IV:Option Addr) (IP:Nat),s=(IV,nq+k,IP,(k:Int))/\k<=xd.ch.length/\
  Dl w0 S g b c B0 B1 T0.length (bN T0) d As w' T' L' IV (nq+k) IP (q++xd.ch.take k)/\oX (bN T0) T1 x xd half k T' f/\Row w' 0 fR 1 VV xd.ch.length V7 (ints xd.ch))
  (μ:=fun s _=>((xd.ch.length:Int)-s.2.2.2).toNat) (s:=(Aq,nq,cq,0)) ⟨0,T1,xd.lo,L,Aq,cq,rfl,Nat.zero_le _,by simpa using D,oX.start hx yY,aau⟩ ?_
 rintro s w' ⟨k,T',f,L',IV,IP,rfl,hk,D',fz,hr⟩;refine Split.dec (fun cy=>?_) (fun fU=>?_)
 ·simp only at cy
  have AS:k<xd.ch.length:=by omega
  obtain⟨ci,WG⟩:∃ci,xd.ch[k]? =some ci:=⟨_,List.getElem?_eq_getElem AS⟩;have nD:ci∈xd.ch:=List.mem_of_getElem? WG;have hck:ci∈kids (bN T0) x:=oL▸nD;have pG:ci<T0.length:=by have:=(iB hP hck).2;omega
  have hxc:=wj ci nD;have CE:=tz hP (n:=ci) (by omega);have agR:=vL (P:=bN T0) ci;have Sp:=Wp.trans fz.mS;obtain⟨cd,jg⟩:=fE (T:=T') (i:=ci) (by rw [Sp.len];exact pG);have Ue:cd.parent=x:=by
   have h1:=kc jg;rw [Sp.bN,eA.1 hck]at h1;exact(Option.some.inj h1).symm
  have YW:sz (bN T0) ci<=sz (bN T0) x:=by
   have:=MY (l:=xd.ch.map (sz (bN T0))) (a:=sz (bN T0) ci) (List.mem_map.2 ⟨ci,nD,rfl⟩);omega
  have Uu:0<=(ci:Int)/\(ci:Int)<(T0.length:Int):=⟨by omega,by omega⟩;have jh:0<=(x:Int)/\(x:Int)<(T0.length:Int):=⟨by omega,by omega⟩;have Z5:half<4611686018427387904:=by omega
  obtain⟨bch,aaK⟩:=Row.some hr (by omega);subst aaK;refine⟨⟨by simp only;omega,by simp only;omega⟩,_,by simp only [lK,Int.toNat_natCast,Nat.mul_one];exact Row.cell hr (yQ WG),by decide,Uu,D'.Ce pG ?_⟩;rw [E8];refine vx half (sz (bN T0) ci) (by omega) (by omega) ⟨_,_,rfl,jh,D'.Ce th ?_⟩;have Tl:(half*sz (bN T0) ci/18446744073709551616)*18446744073709551616+half*sz (bN T0) ci%18446744073709551616=half*sz (bN T0) ci:=Nat.div_add_mod' _ _;have Z4:half*sz (bN T0) ci/18446744073709551616<sz (bN T0) x:=by
   have:half*sz (bN T0) ci<18446744073709551616*sz (bN T0) ci:=Nat.mul_lt_mul_of_pos_right (by omega) CE;have:half*sz (bN T0) ci/18446744073709551616<sz (bN T0) ci:=Nat.div_lt_of_lt_mul this;omega
  refine vz _ _ (sz (bN T0) x) (Nat.mod_lt _ (by omega)) (by omega) Z4 fun r w90 k90=>?_;rw [Tl];generalize hm:half*sz (bN T0) ci/sz (bN T0) x=more;have hmx:more*sz (bN T0) x<=half*sz (bN T0) ci:=by rw [<-hm];exact Nat.div_mul_le_self _ _
  have ahA:more<=half:=by
   rw [<-hm];apply Nat.div_le_of_le_mul;rw [Nat.mul_comm];exact Nat.mul_le_mul_right _ YW
  have D90:=D'.quiet k90;have Y7:=Row.aD hr k90 (fun _ _ h=>h);refine⟨_,_,rfl,Uu,D90.Ce pG ?_⟩;rw [fk (x:=(sz (bN T0) ci:Int)+(more:Int)) (by omega) (by omega)];have xK:=fz.bound (by omega) im (by
   have h1:(((xd.ch.take k).map (sz (bN T0))).sum)<=(xd.ch.map (sz (bN T0))).sum:=by
    conv=>rhs;rw [<-List.take_append_drop k xd.ch,List.map_append,List.sum_append]
    omega
   omega)
  have lS:=fz.lo;have h1:(((xd.ch.take k).map (sz (bN T0))).sum)<=(xd.ch.map (sz (bN T0))).sum:=by
   conv=>rhs;rw [<-List.take_append_drop k xd.ch,List.map_append,List.sum_append]
   omega
  refine tu D90.tv jg fz.here Ue (by omega) (by simp only;omega) (by omega) (by simp only;omega) fun w96 L96 h96 k96=>⟨rfl,?_⟩;have D96:=D90.wrote k96 h96;have Y5:=Row.aD Y7 k96 (fun k e e2=>(Ug k e).2 e2);intro w97;have Ls:(xd.ch.take k).length<=1000000:=by rw [List.length_take];omega
  obtain⟨QM,QB,PM,YZ,D99,Wc⟩:=D96.push (by rw [List.length_append];omega) ci (w1:=w97) rfl;have Y4:=Row.aD Y5 (Wc (fun k=>B1<=k) (fun k e=>(Row.bC D96.rq e).1)) (fun k e e2=>by have:=D.hS k (Ug k e).1;have:=D.hB;omega);refine⟨QM,_,QB,PM,YZ,?_⟩;rw [gQ (x:=(k:Int)+1) (by omega) (by omega)];refine⟨(QM,nq+(k+1),QB,((k+1:Nat):Int)),rfl,⟨k+1,_,_,L96,QM,QB,rfl,AS,?_,fz.step (more:=(more:Int)) JM wj WG jg (by omega) ?_ CE,Y4⟩,by simp only;omega⟩
  ·rw [mR WG,<-List.append_assoc]
   exact D99
  ·have:((more*sz (bN T0) x:Nat):Int)<=((half*sz (bN T0) ci:Nat):Int):=by omega
   rwa [Int.natCast_mul,Int.natCast_mul]at this
 ·simp only at fU
  have:k=xd.ch.length:=by omega
  subst this;rw [aQ,aw.wE];rw [List.take_length]at D';exact hex w' T' f L' IV IP D' fz
end
theorem Gd:∀(n:Nat) (q:List Nat),q.Nodup->(∀y,y∈q->y<n)->q.length<=n:=by
 intro n
 induction n with
 |zero=>
  intro q _ h;cases q with
  |nil=>simp
  |cons a q=>exact absurd (h a (by simp)) (by omega)
 |succ n ih=>
  intro q hn h;by_cases hm:n∈q
  ·have h1:=List.length_erase_of_mem hm
   have h2:=ih (q.erase n) (hn.erase n) (fun y hy=>by
    have:=(List.Nodup.mem_erase_iff hn).1 hy;have:=h y this.2;omega)
   omega
  ·have:=ih q hn (fun y hy=>by
    have:=h y hy;have:y≠n:=fun e=>hm (e▸hy);omega)
   omega
section
variable{w0 w:World}{S:Nat->Prop}{g b c B0:Nat}{d:Int}{As:Option Addr}{L:List (Nd×Value)}{T:List Nd}{K:Value->World->Prop}
theorem Bj{T0:List Nd}{m:Nat}{md:Nd}
 (YQ:TV w S g T0 d b c L) (hrs:Row w B0 ir 1 As T0.length T0.length (us (sz (bN T0)) T0.length)) (TE:Kept S w0 w) (hSB:∀k,S k->k<B0) (Sf:w0.heap.size<=B0) (hBw:B0<=w.heap.size)
 (hS:Shape T0) (hlen:T0.length<=1000000) (uY:T0[m]? =some md) (h1:1<=md.lo) (h2:md.hi<=4611686018427387904) (h3:(sz (bN T0) m:Int)<=md.hi-md.lo+1)
 (hK:∀w' T' q i,nZ w' S g T' d->mM (bN T0) T0 m T' q i->q.length<=i->Kept S w0 w'->K (.tuple #[]) w'):
 aw.cK (some ⟨g,0,none⟩) m As T0.length T0.length K w:=by
 have hP:=hS.par;have nz:=eo T0;have Ka:m<T0.length:=(lgeS uY).1;unfold aw.cK;intro jj;have mP:Kept Nil w jj:=(Kept.refl Nil w).alloc _;have jP:jj.heap[w.heap.size]? =some (.cells #[.int .i64 (m:Int)] fR (0,0)):=aJ w _;have D35:Dl w0 S g b c B0 w.heap.size T0.length (bN T0) d As jj T0 L (some ⟨w.heap.size,0,none⟩) 1 1 [m]:= {
  tv:=YQ.kept mP
  rs:=Row.aD hrs mP (fun _ _ h=>h)
  sb:=fun k e=>by obtain⟨_,_,hc⟩:=Row.bC hrs e;exact aS hc
  rq:=Row.made (n:=1) (cur:= #[.int .i64 (m:Int)]) jP (Nat.le_refl _) rfl (by decide)
  kp:=TE.trans mP (fun _ _ h=>h.elim)
  hS:=hSB
  hB:=hBw
  HF:=mP.size
  h0:=Sf}
 clear_value jj;generalize HF:w.heap.size=B1 at*;refine aw.gw (I:=fun s w'=>∃(i:Nat) (T':List Nd) (L':List (Nd×Value)) (Aq:Option Addr) (nq cq:Nat) (q:List Nat),s=(Aq,nq,cq,(i:Int))/\i<=q.length/\
  Dl w0 S g b c B0 B1 T0.length (bN T0) d As w' T' L' Aq nq cq q/\mM (bN T0) T0 m T' q i)
  (μ:=fun s _=>((T0.length:Int)-s.2.2.2).toNat) (s:=(some ⟨B1,0,none⟩,1,1,0)) ⟨0,T0,L,_,1,1,[m],rfl,Nat.zero_le _,D35,mM.start (by omega) uY h1 h2 h3⟩ ?_
 rintro s w' ⟨i,T',L',Aq,nq,cq,q,rfl,hi,D,hO⟩;have hnq:=D.I9;have JS:q.length<=T0.length:=Gd _ _ hO.nodup (fun y hy=>by have:=(hO.nY y hy).lt;omega);refine Split.dec (fun cy=>?_) (fun fU=>?_)
 ·simp only at cy
  have dW:i<q.length:=by omega
  obtain⟨x,Zg⟩:∃x,q[i]? =some x:=⟨_,List.getElem?_eq_getElem dW⟩;have GW:x∈q:=List.mem_of_getElem? Zg;have th:x<T0.length:=by have:=(hO.nY x GW).lt;omega
  obtain⟨xd,IB⟩:=fE (T:=T') (i:=x) (by rw [hO.mS.len];exact th);have si:=hO.room x xd GW IB;have im:=tz hP (n:=x) (by omega);have YT:=vL (P:=bN T0) x;have hlT:T'.length=T0.length:=hO.mS.len;have jh:0<=(x:Int)/\(x:Int)<(T'.length:Int):=⟨by omega,by omega⟩;refine⟨⟨by simp only;omega,by simp only;omega⟩,D.Rc Zg ?_⟩;intro zA;have QL:=D.quiet (w':=zA) (Kept.refl Nil w').drew;clear_value zA;obtain⟨v,hv⟩:=QL.tv.at_ IB;obtain⟨wr,h50⟩:=QL.tv.tD hv (j:=4) (by omega) (u:=.int .u64 xd.lo) (nd':= {xd with free:=xd.lo}) rfl rfl;refine QL.tv.go (QL.tv.go ⟨jh,QL.tv.uz hv ⟨jh,by rw [nV];exact wr,?_⟩⟩);intro It Fv;have e50:It=zA.setCell ⟨b,x*5+4,none⟩ (.int .u64 xd.lo):=by simp only [It,nV,Int.toNat_natCast]
  rw [<-e50]at h50;have P3:Kept (fun k=>k=b) zA It:=by rw [e50];exact(Kept.refl (fun k=>k=b) zA).setCell (p:=⟨b,x*5+4,none⟩) (fun _=>rfl) _
  have IU:=(QL.wrote P3 h50).quiet (w':=Fv) (Kept.refl Nil It).drew;clear_value Fv;have v1:(L'.set x ({xd with free:=xd.lo},v))[x]? =some ({xd with free:=xd.lo},v):=ij hv;obtain⟨VV,V7,hk⟩:=IU.tv.pV _ _ v1;have xI:(T'.set x {xd with free:=xd.lo}).length=T'.length:=by simp
  have OY:0<=(x:Int)/\(x:Int)<((T'.set x {xd with free:=xd.lo}).length:Int):=by rw [xI];exact jh
  have WI:0<=(x:Int)/\(x:Int)<(T0.length:Int):=⟨by omega,by omega⟩;refine IU.tv.go ⟨OY,IU.tv.ze v1 (IU.tv.go ⟨OY,IU.tv.uz v1 ⟨WI,IU.Ce th (IU.tv.go ⟨OY,IU.tv.Vh v1 hk.val ?_⟩)⟩⟩)⟩;have YV:kF T0 (T'.set x {xd with free:=xd.lo}):=hO.mS.trans (kF.set (nd':= {xd with free:=xd.lo}) IB rfl rfl);simp only;obtain⟨cur,Qt⟩:=IU.tv.uS;generalize hhf:((xd.hi-xd.lo-((sz (bN T0) x:Int)-1)).toNat /2)=half;refine Bk (half:=half) (xd:= {xd with free:=xd.lo}) IU hS YV hlen (by omega) (ij IB) rfl (by simp only;omega) (by simp only;omega) (by simp only;omega) ?_ hk.row (fun k e=>⟨hk.jL k e,fun e2=>hk.ne Qt (by decide) (by rw [e,e2])⟩) ?_
  ·rw [fk (x:=xd.hi-xd.lo) (by omega) (by omega),fk (x:=(sz (bN T0) x:Int)-1) (by omega) (by omega),fk (x:=xd.hi-xd.lo-((sz (bN T0) x:Int)-1)) (by omega) (by omega),
    Int.tdiv_eq_ediv_of_nonneg (by omega),fk (by omega) (by omega)]
   omega
  ·intro w2 T2 f L2 QM QB D2 fz
   rw [gQ (x:=(i:Int)+1) (by omega) (by omega)];refine⟨(QM,nq+xd.ch.length,QB,((i+1:Nat):Int)),rfl,⟨i+1,T2,L2,QM,_,QB,q++xd.ch,rfl,by rw [List.length_append];omega,D2,hO.step hS Zg IB (by omega) (by omega) fz⟩,by simp only;omega⟩
 ·simp only at fU
  rw [aQ,aw.jA];exact hK w' T' q i ⟨_,_,_,D.tv⟩ hO (by omega) D.kp
theorem TV.Xz(h:TV w S g T d b c L)(d':Int):Wr w ⟨g,1,none⟩/\TV (w.setCell ⟨g,1,none⟩ (.int .i64 d')) S g T d' b c L:=by
 have kG:Kept (fun k=>k=g) w (w.setCell ⟨g,1,none⟩ (.int .i64 d')):=(Kept.refl (fun k=>k=g) w).setCell (p:=⟨g,1,none⟩) (fun _=>rfl) _;refine⟨dK h.top (show 1<2 by omega),?_⟩;exact {
  top:=by
   have:=cS h.top 1 (.int .i64 d');simpa using this
  fst:=h.fst
  row:=Row.aD h.row kG (fun k e e2=>h.gb (by cases e;exact e2.symm))
  pV:=fun i p hp=>by
   obtain⟨A,m,hk⟩:=h.pV i p hp;exact⟨A,m,hk.val,Row.aD hk.row kG (fun k e e2=>hk.ne h.top (by decide) (by rw [e,e2])),hk.jL⟩
  apart:=h.apart
  gK:=h.gK
  fK:=h.fK}
set_option maxRecDepth 100000 in
theorem Dm(h:nZ w S g T d)(hS:Shape T)(hlen:T.length<=1000000){p:Nat}(hp:p<T.length)(hd:0<=d/\d<=1000000)
 (CF:∀nd,T[0]? =some nd->nd.lo=1/\nd.hi=4611686018427387904)
 (Wz:∀y nd,T[y]? =some nd->jC (bN T) p y->Iv nd)
 (hK:∀w' T' m q i,nZ w' S g T' (d+1)->jC (bN T) p m->mM (bN T) T m T' q i->q.length<=i->Kept S w w'->K (.tuple #[]) w'):
 bj prog aw.id #[.pointer (some ⟨g,0,none⟩),.int .i64 p] w K:=by
 have hP:=hS.par;have nz:=eo T;obtain⟨b,c,L,h⟩:=h;have hb:=h.bound;obtain⟨wr,h6⟩:=hb.Xz (d+1);refine aw.of (h.goD ⟨by rw [lK];exact wr,?_⟩);intro w6;have e6:w6=w.setCell ⟨g,1,none⟩ (.int .i64 (d+1)):=by simp only [w6,lK,gQ (x:=d+1) (by omega) (by omega)]
 rw [<-e6]at h6;have k6:Kept (fun k=>S k/\k<w.heap.size) w w6:=by rw [e6];exact(Kept.refl _ w).setCell (p:=⟨g,1,none⟩) (fun _=>hb.gK) _
 have JO:w.heap.size=w6.heap.size:=by rw [e6];simp
 clear_value w6;refine zT ⟨_,_,_,h6⟩ hP hlen fun w8 As FU k8=>⟨_,_,_,rfl,?_⟩;have h8:=h6.kept k8;refine aw.b7 (I:=fun s w'=>∃m:Nat,s=(m:Int)/\jC (bN T) p m/\Kept Nil w8 w') (μ:=fun s _=>s.toNat) (s:=(p:Int)) ⟨p,rfl,.refl (by omega),Kept.refl _ _⟩ ?_;rintro s w' ⟨m,rfl,hu,kw⟩;have Ka:m<T.length:=by have:=hu.V8;omega
 obtain⟨md,uY⟩:=fE Ka;have hm:=Wz m md uY hu;have LL:=hm.XW;have Qn:=hm.le;have ZL:=hm.top;unfold aw.B1;intro lN;have uW:Kept Nil w8 lN:=kw.drew;have CU:=h8.kept uW;have Cc:=Row.aD FU uW (fun _ _ h=>h);have kV:=kc uY;have agN:=vL (P:=bN T) m;have xh:0<=(m:Int)/\(m:Int)<(T.length:Int):=⟨by omega,by omega⟩;obtain⟨v,hv⟩:=CU.at_ uY;have done:(sz (bN T) m:Int)<=md.hi-md.lo+1->aw.q1 K (.exit 0) [(0,.pointer (some ⟨g,0,none⟩)),(1,.int .i64 m),(4,.slice As T.length T.length)] lN:=by
  intro si;rw [aw.c8];have k8':Kept (fun k=>S k/\k<w.heap.size) w lN:=(k6.trans k8 (fun _ _ h=>h.elim)).trans uW (fun _ _ h=>h.elim);refine Bj CU (B0:=w.heap.size) (Row.base Cc (fun k e=>by rw [JO];exact(Row.bC Cc e).1)) k8' (fun k h=>h.2) (Nat.le_refl _) k8'.size hS hlen uY LL ZL si ?_;intro w2 T2 q i h2 hO hq k2;exact hK w2 T2 m q i (h2.mono (fun k h=>h.1)) hu hO hq (k2.mono (fun k _ h=>h.1))
 refine CU.go ⟨xh,CU.HL hv (Split.dec (fun im=>?_) (fun yW=>?_))⟩
 ·obtain⟨bs,WI⟩:=Row.some Cc (by omega)
  subst WI;refine CU.go ⟨xh,CU.ze hv (CU.go ⟨xh,CU.uz hv ⟨by decide,xh,_,by rw [lK,Int.toNat_natCast,Nat.mul_one];exact Row.cell Cc (oe _ Ka),?_⟩⟩)⟩;rw [fk (x:=md.hi-md.lo) (by omega) (by omega),fk (x:=md.hi-md.lo+1) (by omega) (by omega),Int.tdiv_eq_ediv_of_nonneg (by omega),fk (x:=(md.hi-md.lo+1)/4) (by omega) (by omega)];refine Split.dec (fun cy=>?_) (fun fU=>?_)
  ·have Qp:0<m:=by
    rcases Nat.eq_zero_or_pos m with rfl|h
    ·rw [hP.root]at kV;have:=Option.some.inj kV;omega
    ·exact h
   obtain⟨z,hz,ez⟩:=hP.up m _ Qp kV;refine CU.go ⟨xh,CU.HL hv ?_⟩;rw [ez];exact⟨(z:Int),rfl,⟨z,rfl,hu.trans (.step (by rw [kV,ez]) (.refl (by omega))),uW⟩,by simp only;omega⟩
  ·rw [aQ]
   exact done (by omega)
 ·have Qp:m=0:=by
   rcases Nat.eq_zero_or_pos m with h|h
   ·exact h
   ·obtain⟨z,_,ez⟩:=hP.up m _ h kV
    omega
  subst Qp;have:=CF md uY;rw [aQ];exact done (by omega)
end
structure vG(T:List Nd):Prop extends Good T where
 root:∀nd,T[0]? =some nd->nd.lo=1/\nd.hi=4611686018427387904
theorem z8:vG pB:=by
 have fW:∀(i:Nat) nd,pB[i]? =some nd->i=0/\nd=⟨-1,[],1,4611686018427387904,1⟩:=by
  intro i nd h;cases i with
  |zero=>simp [pB]at h;exact⟨rfl,h.symm⟩
  |succ i=>simp [pB]at h
 exact {
  par:=⟨rfl,fun i p hi h=>by
   cases i with
   |zero=>omega
   |succ i=>simp [bN,pB]at h⟩
  ch:=fun i nd h=>by
   obtain⟨rfl,rfl⟩:=fW i nd h;simp [kids,bN,pB]
  iv:=fun i nd h=>by
   obtain⟨rfl,rfl⟩:=fW i nd h;exact⟨by decide,by decide,by decide⟩
  loc:=fun i nd h=>by
   obtain⟨rfl,rfl⟩:=fW i nd h;exact⟨by decide,by decide,fun c cd hc=>by simp at hc,fun c c' cd uN hc=>by simp at hc⟩
  root:=fun nd h=>by
   obtain⟨_,rfl⟩:=fW 0 nd h;exact⟨rfl,rfl⟩}
section
variable{T:List Nd}{p:Nat}{pd:Nd}
theorem EP(hp:T[p]? =some pd)(i:Nat):(added T p pd)[i]? =if i=p then some {pd with ch:=pd.ch++ [T.length],free:=pd.free+iI pd}else if i=T.length then some ⟨p,[],pd.free,pd.free+iI pd-1,pd.free⟩else T[i]? :=by
 have cy:p<T.length:=(lgeS hp).1;unfold added;rw [wo (by rw [iQ hp,if_neg (by omega),if_pos rfl]) (by rw [iQ hp,if_pos rfl]) (by omega),iQ hp];split
 ·rfl
 ·split
  ·rfl
  ·rfl
theorem uU(hp:T[p]? =some pd):kF (grown T p pd) (added T p pd):=by
 have cy:p<T.length:=(lgeS hp).1;exact ux _ (by rw [iQ hp,if_neg (by omega),if_pos rfl]) (by rw [iQ hp,if_pos rfl]) (by omega)
theorem Shape.Pu(h:Shape T){i:Nat}{nd:Nd}(hi:T[i]? =some nd){c:Nat}(hc:c∈nd.ch):i<c/\c<T.length:=by
 rw [h.ch i nd hi]at hc;have:=iB h.par hc
 rwa [eo]at this
theorem vG.added(h:vG T)(hp:T[p]? =some pd)(si:pd.free<pd.hi):vG (added T p pd):=by
 have cy:p<T.length:=(lgeS hp).1;have fW:=EP hp;have Ny:=h.iv p pd hp;have i1:=Ny.XW;have i2:=Ny.le;have i3:=Ny.top;have lp:=h.loc p pd hp;have l1:=lp.Fh;have l2:=lp.Bi;have hh1:1<=iI pd:=by unfold iI;omega
 have hh2:pd.free+iI pd<=pd.hi:=by unfold iI;omega
 have hold:∀(c:Nat) cd,c<T.length->(Go.Proofs.YtnboahlopghcjaaGreatDoor.Tr.added T p pd)[c]? =some cd->∃ed,T[c]? =some ed/\ed.lo=cd.lo/\ed.hi=cd.hi:=by
  intro c cd hc jg;rw [fW]at jg;by_cases e:c=p
  ·subst e
   rw [if_pos rfl]at jg;cases jg;exact⟨pd,hp,rfl,rfl⟩
  ·rw [if_neg e,if_neg (by omega)]at jg
   exact⟨cd,jg,rfl,rfl⟩
 have jP:∀cd,(Go.Proofs.YtnboahlopghcjaaGreatDoor.Tr.added T p pd)[T.length]? =some cd->cd=⟨p,[],pd.free,pd.free+iI pd-1,pd.free⟩:=by
  intro cd jg;rw [fW,if_neg (by omega),if_pos rfl]at jg;exact(Option.some.inj jg).symm
 have aD:∀(i:Nat) nd,T[i]? =some nd->Loc (Go.Proofs.YtnboahlopghcjaaGreatDoor.Tr.added T p pd) nd:=by
  intro i nd hi;have hl:=h.loc i nd hi;have hc:=fun c hc=>(h.toShape.Pu hi (c:=c) hc).2;exact {
   Fh:=hl.Fh
   Bi:=hl.Bi
   sub:=fun c cd nD jg=>by
    obtain⟨ed,h1,h2,h3⟩:=hold c cd (hc c nD) jg;have:=hl.sub c ed nD h1;omega
   ord:=fun c c' cd uN nD nQ y0 jg pZ=>by
    obtain⟨ed,h1,h2,h3⟩:=hold c cd (hc c nD) jg;obtain⟨Ps,sj,uv,CT⟩:=hold c' uN (hc c' nQ) pZ;have:=hl.ord c c' ed Ps nD nQ y0 h1 sj;omega}
 have hs:=(uU hp).shape (h.toShape.grown hp);refine {toShape:=hs,iv:=?_,loc:=?_,root:=?_}
 ·intro i nd hi
  rw [fW]at hi;by_cases e:i=p
  ·rw [if_pos e]at hi
   cases hi;exact⟨i1,i2,i3⟩
  ·rw [if_neg e]at hi
   by_cases e2:i=T.length
   ·rw [if_pos e2]at hi
    cases hi;exact⟨by simp only;omega,by simp only;omega,by simp only;omega⟩
   ·rw [if_neg e2]at hi
    exact h.iv i nd hi
 ·intro i nd hi
  rw [fW]at hi;by_cases e:i=p
  ·rw [if_pos e]at hi
   cases hi;have kp:=aD p pd hp;have hc:=fun c hc=>(h.toShape.Pu hp (c:=c) hc).2;exact {
    Fh:=by simp only;omega
    Bi:=hh2
    sub:=fun c cd nD jg=>by
     simp only at nD;rcases List.mem_append.1 nD with nD|nD
     ·have:=kp.sub c cd nD jg
      simp only;omega
     ·simp at nD
      subst nD;have:=jP cd jg;subst this;simp only;omega
    ord:=fun c c' cd uN nD nQ y0 jg pZ=>by
     simp only at nD nQ;rcases List.mem_append.1 nD with nD|nD
     ·rcases List.mem_append.1 nQ with nQ|nQ
      ·exact kp.ord c c' cd uN nD nQ y0 jg pZ
      ·simp at nQ
       subst nQ;have:=jP uN pZ;subst this;exact(kp.sub c cd nD jg).2
     ·simp at nD
      rcases List.mem_append.1 nQ with nQ|nQ
      ·have:=hc c' nQ
       omega
      ·simp at nQ
       omega}
  ·rw [if_neg e]at hi
   by_cases e2:i=T.length
   ·rw [if_pos e2]at hi
    cases hi;exact⟨by simp only;omega,by simp only;omega,fun c cd hc=>by simp at hc,fun c c' cd uN hc=>by simp at hc⟩
   ·rw [if_neg e2]at hi
    exact aD i nd hi
 ·intro nd hi
  obtain⟨ed,h1,h2,h3⟩:=hold 0 nd h.toShape.pos hi;have:=h.root ed h1;omega
theorem vG.HV(h:vG T)(hp:T[p]? =some pd){m i:Nat}{T':List Nd}{q:List Nat}(hu:jC (bN (grown T p pd)) p m)
 (hO:mM (bN (grown T p pd)) (grown T p pd) m T' q i) (hq:q.length<=i):vG T':=by
 have cy:p<T.length:=(lgeS hp).1;have fW:=iQ hp;have hS:=h.toShape.grown hp;have hP:=hS.par;have hold:∀(c:Nat) cd,c<T.length->(grown T p pd)[c]? =some cd->∃ed,T[c]? =some ed/\ed.lo=cd.lo/\ed.hi=cd.hi:=by
  intro c cd hc jg;rw [fW]at jg;by_cases e:c=p
  ·subst e
   rw [if_pos rfl]at jg;cases jg;exact⟨pd,hp,rfl,rfl⟩
  ·rw [if_neg e,if_neg (by omega)]at jg
   exact⟨cd,jg,rfl,rfl⟩
 have Qk:(bN (grown T p pd))[T.length]? =some (p:Int):=by
  rw [lE hp,List.getElem?_append_right (by rw [eo];exact Nat.le_refl _)];simp [eo]
 have eM:=mM.fin hS hO hq (fun y nd hy hn=>by
  rw [fW]at hy;have e:y≠p:=fun e=>hn (e▸hu);rw [if_neg e]at hy;have e2:y≠T.length:=fun e=>hn (e▸ .step Qk hu);rw [if_neg e2]at hy;refine⟨h.iv y nd hy,?_⟩;have hl:=h.loc y nd hy;have hc:=fun c hc=>(h.toShape.Pu hy (c:=c) hc).2;exact {
   Fh:=hl.Fh
   Bi:=hl.Bi
   sub:=fun c cd nD jg=>by
    obtain⟨ed,h1,h2,h3⟩:=hold c cd (hc c nD) jg;have:=hl.sub c ed nD h1;omega
   ord:=fun c c' cd uN nD nQ y0 jg pZ=>by
    obtain⟨ed,h1,h2,h3⟩:=hold c cd (hc c nD) jg;obtain⟨Ps,sj,uv,CT⟩:=hold c' uN (hc c' nQ) pZ;have:=hl.ord c c' ed Ps nD nQ y0 h1 sj;omega})
 refine {toGood:=eM,root:=fun nd hi=>?_};obtain⟨gd,Z9,_⟩:=hO.mS.back hi;obtain⟨ed,h1,h2,h3⟩:=hold 0 gd h.toShape.pos Z9;have hr:=h.root ed h1;by_cases hm:0∈q
 ·have:=(hO.nY 0 hm).le hP
  have Qp:m=0:=by omega
  subst Qp;have:=hO.top gd nd Z9 hi;omega
 ·rw [hO.rest 0 hm,Z9]at hi
  cases hi;omega
end
section
variable{w:World}{S:Nat->Prop}{g:Nat}{T:List Nd}{d:Int}{K:Value->World->Prop}
theorem FF(h:nZ w S g T d)(hF:vG T){p:Nat}(hp:p<T.length)(hlen:T.length<=900000)(hd:0<=d/\d<=900000)
 (hK:∀w' S' T' d',nZ w' S' g T' d'->vG T'->bN T'=bN T++ [(p:Int)]->d<=d'/\d'<=d+1->Kept S w w'->(∀k,S' k->S k\/w.heap.size<=k)->K (.tuple #[.int .i64 T.length,.int .i64 0]) w'):
 bj prog fN.id #[.pointer (some ⟨g,0,none⟩),.int .i64 p] w K:=by
 obtain⟨pd,xe⟩:=fE hp;have Ny:=hF.iv p pd xe;have i1:=Ny.XW;have i2:=Ny.le;have i3:=Ny.top;have lp:=hF.loc p pd xe;have l1:=lp.Fh;have l2:=lp.Bi;have oL:pd.ch.length<=T.length:=by
  rw [hF.ch p pd xe];have:=yH (bN T) p
  rwa [eo]at this
 refine tw h xe (by omega) (by omega) (by omega) l2 i3 (fun si w' S' h' k' f'=>?_) (fun ad9 w' S' h' k' f'=>?_)
 ·exact hK w' S' _ d h' (hF.added xe si) (by rw [(uU xe).bN,lE xe]) ⟨by omega,by omega⟩ k' f'
 ·have hS:=hF.toShape.grown xe
  have fW:=iQ xe;have kV:=hS.par;refine Dm h' hS (by rw [wm];omega) (by rw [wm];omega) ⟨hd.1,by omega⟩ (fun nd hi=>?_) (fun y nd hy hu=>?_) (fun w2 T2 m q i h2 hu hO hq k2=>⟨rfl,?_⟩)
  ·rw [fW]at hi
   by_cases e:0=p
   ·rw [if_pos e]at hi
    cases hi;exact hF.root pd (by rw [e];exact xe)
   ·rw [if_neg e,if_neg (by omega)]at hi
    exact hF.root nd hi
  ·have:=hu.le kV
   rw [fW]at hy;by_cases e:y=p
   ·rw [if_pos e]at hy
    cases hy;exact⟨i1,i2,i3⟩
   ·rw [if_neg e,if_neg (by omega)]at hy
    exact hF.iv y nd hy
  ·refine hK w2 S' T2 (d+1) h2 (hF.HV xe hu hO hq) (by rw [hO.mS.bN,lE xe]) ⟨by omega,by omega⟩ ?_ f'
   exact k'.trans k2 (fun k hk hs=>by
    rcases f' k hs with h|h
    ·exact h
    ·omega)
end
def zs(l:List Int):List Value:=l.map fun x=>.int .i64 x
section
variable{w w':World}{S S':Nat->Prop}{h:Nat}{P:List Int}{b c:Nat}{K:Value->World->Prop}
end
def iy(P:List Int)(n i:Nat):List Nat:=(List.range i).filter fun j=>P[j]? ==some (n:Int)
section
variable{w w':World}{S S':Nat->Prop}{h:Nat}{P:List Int}{b c:Nat}{K:Value->World->Prop}
end
section
variable{w w':World}{S S':Nat->Prop}{g:Nat}{T:List Nd}{d:Int}{K:Value->World->Prop}
end
end Go.Proofs.YtnboahlopghcjaaGreatDoor.Tr
