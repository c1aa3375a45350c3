import Derived.Test.YtfleamccglihoaaGreatDoorMA
import Derived.Test.YtfleamccglihoaaGreatDoorMD
import Derived.Laws.OwnMore
import Derived.Test.YtfleamccglihoaaGreatDoorMG
import Derived.Laws.Bits64b
open Go.IntKind (i64 u64)
set_option linter.unusedVariables false
namespace Go.Proofs.YtfleamccglihoaaGreatDoor.Tr
open Go.Proofs.Tryz
open Go Go.bT Go.RowKit
structure Nd where
 parent:Int
 ch:List Nat
 lo:Int
 hi:Int
 free:Int
def jJ(nd:Nd)(v:Value):List Value:= [.int .i64 nd.parent,v,.int .u64 nd.lo,.int .u64 nd.hi,.int .u64 nd.free]
def o0(L:List (Nd×Value)):List Value:=L.flatMap fun p=>jJ p.1 p.2
def ints(l:List Nat):List Value:=l.map fun x:Nat=>.int .i64 (x:Int)
theorem um(L:List (Nd×Value)):(o0 L).length=L.length*5:=by
 induction L with
 |nil=>rfl
 |cons p L ih=>simp only [o0,List.flatMap_cons,List.length_append,List.length_cons]at*;rw [ih];simp [jJ];omega
theorem JI{L:List (Nd×Value)}{i:Nat}{p:Nd×Value}(h:L[i]? =some p){j:Nat}(hj:j<5):(o0 L)[i*5+j]? =(jJ p.1 p.2)[j]? :=by
 induction L generalizing i with
 |nil=>simp at h
 |cons q L ih=>
  have hq:(jJ q.1 q.2).length=5:=rfl;cases i with
  |zero=>
   simp at h;subst h;simp only [o0,List.flatMap_cons];rw [Nat.zero_mul,Nat.zero_add,List.getElem?_append_left (by omega)]
  |succ i=>
   simp at h;have:=ih h;simp only [o0,List.flatMap_cons]at*;rw [List.getElem?_append_right (by omega),hq,<-this]
   congr 1
   omega
theorem BB{L:List (Nd×Value)}{i:Nat}{p p':Nd×Value}(h:L[i]? =some p){j:Nat}(hj:j<5){v:Value}(hp:jJ p'.1 p'.2=(jJ p.1 p.2).set j v):
 (o0 L).set (i*5+j) v=o0 (L.set i p'):=by
 induction L generalizing i with
 |nil=>simp at h
 |cons q L ih=>
  have hq:(jJ q.1 q.2).length=5:=rfl;cases i with
  |zero=>
   simp at h;subst h;simp only [o0,List.flatMap_cons,List.set_cons_zero];rw [Nat.zero_mul,Nat.zero_add,List.set_append_left _ _ (by omega),hp]
  |succ i=>
   simp at h;have:=ih h;simp only [o0,List.flatMap_cons,List.set_cons_succ]at*;rw [List.set_append_right _ _ (by omega),hq,<-this]
   congr 2
   omega
structure Xt(w:World)(S:Nat->Prop)(p:Nd×Value)(A:Option Addr)(m:Nat):Prop where
 val:p.2=.slice A p.1.ch.length m
 row:Row w 0 jV 1 A p.1.ch.length m (ints p.1.ch)
 la:∀k,a8 A=some k->S k
structure TV(w:World)(S:Nat->Prop)(g:Nat)(T:List Nd)(d:Int)(b c:Nat)(L:List (Nd×Value)):Prop where
 top:w.heap[g]? =some (.cells #[.slice (some ⟨b,0,none⟩) T.length c,.int .i64 d] uu (0,0))
 fst:L.map Prod.fst=T
 row:Row w 0 jD 5 (some ⟨b,0,none⟩) T.length c (o0 L)
 rp:∀(i:Nat) (p:Nd×Value),L[i]? =some p->∃A m,Xt w S p A m
 apart:∀(i j:Nat) (p q:Nd×Value),L[i]? =some p->L[j]? =some q->i≠j->∀k,Value.ownBlock p.2=some k->Value.ownBlock q.2≠some k
 iB:S g
 gD:S b
def ph(w:World)(S:Nat->Prop)(g:Nat)(T:List Nd)(d:Int):Prop:=∃b c L,TV w S g T d b c L
section
variable{w w':World}{S S':Nat->Prop}{g:Nat}{T:List Nd}{d:Int}{b c:Nat}{L:List (Nd×Value)}
theorem TV.at_(h:TV w S g T d b c L){i:Nat}{nd:Nd}(hi:T[i]? =some nd):∃v,L[i]? =some (nd,v):=by
 rw [<-h.fst,List.getElem?_map]at hi;cases hL:L[i]? with
 |none=>simp [hL]at hi
 |some p=>
  rw [hL]at hi;simp at hi;exact⟨p.2,by rw [<-hi]⟩
theorem TV.nodes(h:TV w S g T d b c L):w.cell? ⟨g,0,none⟩=some (.slice (some ⟨b,0,none⟩) T.length c):=by rw [aD h.top];rfl
theorem TV.JL(h:TV w S g T d b c L):w.cell? ⟨g,1,none⟩=some (.int .i64 d):=by rw [aD h.top];rfl
theorem TV.cell(h:TV w S g T d b c L){i:Nat}{p:Nd×Value}(hi:L[i]? =some p){j:Nat}{v:Value}(hj:j<5)(hv:(jJ p.1 p.2)[j]? =some v):w.cell? ⟨b,i*5+j,none⟩=some v:=
 Row.cell h.row (by rw [JI hi hj,hv])
theorem TV.gb(h:TV w S g T d b c L):g≠b:=by
 rintro rfl;obtain⟨_,cur,hc⟩:=Row.bI h.row (k:=g) rfl;rw [h.top]at hc;injection hc with hc;injection hc with _ ht;exact absurd ht (by decide)
theorem Xt.ne{p:Nd×Value}{A:Option Addr}{m:Nat}(h:Xt w S p A m){k:Nat}{cs:Array Value}{t:TypeId}(hk:w.heap[k]? =some (.cells cs t (0,0)))(ht:t≠jV):a8 A≠some k:=by
 intro e;obtain⟨_,cur,hc⟩:=Row.bI h.row e;rw [hk]at hc;injection hc with hc;injection hc with _ h2;exact ht h2
theorem TV.wE(h:TV w S g T d b c L):∃cur,w.heap[b]? =some (.cells cur jD (0,0)):=(Row.bI h.row rfl).2
theorem TV.aF{S0:Nat->Prop}(h:TV w S g T d b c L)(hk:Kept S0 w w')(hn:∀k,S k->¬S0 k):TV w' S g T d b c L:= {
 top:=hk.heap h.top (hn g h.iB)
 fst:=h.fst
 row:=Row.aF h.row hk (fun k e=>by cases e;exact hn b h.gD)
 rp:=fun i p hp=>let ⟨A,m,h1⟩:=h.rp i p hp;⟨A,m,h1.val,Row.aF h1.row hk (fun k e=>hn k (h1.la k e)),h1.la⟩
 apart:=h.apart
 iB:=h.iB
 gD:=h.gD}
theorem ph.aF{S0:Nat->Prop}(h:ph w S g T d)(hk:Kept S0 w w')(hn:∀k,S k->¬S0 k):ph w' S g T d:=
 let ⟨b,c,L,h⟩:=h;⟨b,c,L,h.aF hk hn⟩
theorem ph.same(h:ph w S g T d)(hk:Kept Nil w w'):ph w' S g T d:=h.aF hk fun _ _ h=>h
theorem TV.lt(h:TV w S g T d b c L):g<w.heap.size:=aQ h.top
theorem TV.vh(h:TV w S g T d b c L){i:Nat}{nd nd':Nd}{v:Value}(hi:L[i]? =some (nd,v)){j:Nat}(hj:j<5){u:Value}
 (hc:jJ nd' v=(jJ nd v).set j u) (nH:nd'.ch=nd.ch):
 Wr w ⟨b,i*5+j,none⟩/\TV (w.setCell ⟨b,i*5+j,none⟩ u) S g (T.set i nd') d b c (L.set i (nd',v)):=by
 have dV:i<L.length:=(lgeS hi).1;have cU:i*5+j<(o0 L).length:=by rw [um];omega
 refine⟨Row.wr h.row cU,?_⟩;have fE:=Row.set h.row cU u;rw [BB hi hj (p':=(nd',v)) hc]at fE;have hK:Kept (fun k=>k=b) w (w.setCell ⟨b,i*5+j,none⟩ u):=(Kept.refl (fun k=>k=b) w).setCell (p:=⟨b,i*5+j,none⟩) (fun _=>rfl) u;have gS:∀(k:Nat) (p:Nd×Value),(L.set i (nd',v))[k]? =some p->∃q,L[k]? =some q/\q.2=p.2/\q.1.ch=p.1.ch:=by
  intro k p hp;rw [List.getElem?_set]at hp;by_cases e:i=k
  ·subst e
   rw [if_pos rfl,if_pos dV]at hp;cases hp;exact⟨_,hi,rfl,nH.symm⟩
  ·rw [if_neg e]at hp
   exact⟨p,hp,rfl,rfl⟩
 exact {
  top:=by rw [List.length_set];exact hK.heap h.top h.gb
  fst:=by rw [List.map_set,h.fst]
  row:=by rw [List.length_set];exact fE
  rp:=fun k p hp=>by
   obtain⟨q,hq,h1,h2⟩:=gS k p hp;obtain⟨A,m,hk⟩:=h.rp k q hq;obtain⟨cur,hb⟩:=h.wE;refine⟨A,m,by rw [<-h1,<-h2];exact hk.val,?_,hk.la⟩;rw [<-h2];exact Row.aF hk.row hK (fun k e e2=>hk.ne hb (by decide) (by rw [e,e2]))
  apart:=fun k l p q hp hq B8=>by
   obtain⟨p',LG,h1,_⟩:=gS k p hp;obtain⟨q',Be,h2,_⟩:=gS l q hq;rw [<-h1,<-h2];exact h.apart k l p' q' LG Be B8
  iB:=h.iB
  gD:=h.gD}
end
theorem o7(b x y:Nat):((⟨b,0,none⟩:Addr).add x).add y=⟨b,x+y,none⟩:=by rw [br,br,Nat.zero_add]
theorem mR(b x:Nat):(⟨b,0,none⟩:Addr).add x=⟨b,x,none⟩:=by rw [br,Nat.zero_add]
section
variable{w:World}{S:Nat->Prop}{g:Nat}{T:List Nd}{d:Int}{b c:Nat}{L:List (Nd×Value)}
theorem TV.go(h:TV w S g T d b c L){k:Option Addr->Nat->Nat->Prop}(hk:k (some ⟨b,0,none⟩) T.length c):
 ∃A n m,w.cell? ((⟨g,0,none⟩:Addr).add 0)=some (.slice A n m)/\k A n m:=⟨_,_,_,by rw [mR];exact h.nodes,hk⟩
theorem TV.goD(h:TV w S g T d b c L){k:Int->Prop}(hk:k d):∃t,w.cell? ((⟨g,0,none⟩:Addr).add 1)=some (.int .i64 t)/\k t:=
 ⟨_,by rw [mR];exact h.JL,hk⟩
theorem TV.JF(h:TV w S g T d b c L){i:Nat}{nd:Nd}{v:Value}(hi:L[i]? =some (nd,v)){k:Int->Prop}(hk:k nd.parent):
 ∃t,w.cell? (((⟨b,0,none⟩:Addr).add (i*5)).add 0)=some (.int .i64 t)/\k t:=⟨_,by rw [o7];exact h.cell hi (by omega) rfl,hk⟩
theorem TV.WU(h:TV w S g T d b c L){i:Nat}{nd:Nd}{v:Value}(hi:L[i]? =some (nd,v)){A:Option Addr}{m:Nat}(hv:v=.slice A nd.ch.length m){k:Option Addr->Nat->Nat->Prop}(hk:k A nd.ch.length m):
 ∃A n m,w.cell? (((⟨b,0,none⟩:Addr).add (i*5)).add 1)=some (.slice A n m)/\k A n m:=⟨_,_,_,by rw [o7];exact h.cell hi (by omega) (by rw [hv];rfl),hk⟩
theorem TV.wg(h:TV w S g T d b c L){i:Nat}{nd:Nd}{v:Value}(hi:L[i]? =some (nd,v)){k:Int->Prop}(hk:k nd.lo):
 ∃t,w.cell? (((⟨b,0,none⟩:Addr).add (i*5)).add 2)=some (.int .u64 t)/\k t:=⟨_,by rw [o7];exact h.cell hi (by omega) rfl,hk⟩
theorem TV.Bu(h:TV w S g T d b c L){i:Nat}{nd:Nd}{v:Value}(hi:L[i]? =some (nd,v)){k:Int->Prop}(hk:k nd.hi):
 ∃t,w.cell? (((⟨b,0,none⟩:Addr).add (i*5)).add 3)=some (.int .u64 t)/\k t:=⟨_,by rw [o7];exact h.cell hi (by omega) rfl,hk⟩
theorem TV.y5(h:TV w S g T d b c L){i:Nat}{nd:Nd}{v:Value}(hi:L[i]? =some (nd,v)){k:Int->Prop}(hk:k nd.free):
 ∃t,w.cell? (((⟨b,0,none⟩:Addr).add (i*5)).add 4)=some (.int .u64 t)/\k t:=⟨_,by rw [o7];exact h.cell hi (by omega) rfl,hk⟩
theorem TV.kept{w':World}(h:TV w S g T d b c L)(hk:Kept Nil w w'):TV w' S g T d b c L:=h.aF hk fun _ _ h=>h
end
section
variable{w:World}{S:Nat->Prop}{g:Nat}{T:List Nd}{d:Int}{K:Value->World->Prop}
theorem yw(h:ph w S g T d)(n:Int)(hK:K (.bool (decide (0<=n/\n<T.length))) w):
 bu prog iQ.id #[.pointer (some ⟨g,0,none⟩),.int .i64 n] w K:=by
 obtain⟨b,c,L,h⟩:=h;refine iQ.of (Split.yes rfl (Split.dec (fun h0=>h.go ?_) (fun h0=>?_)))
 ·rwa [show decide (0<=n/\n<(T.length:Int))=decide (n<(T.length:Int))from by simp [show(0:Int)<=n from h0]]at hK
 ·rwa [decide_eq_false (fun e:0<=n/\n<(T.length:Int)=>h0 e.1)]at hK
theorem HC(h:ph w S g T d)(hT:0<T.length)(n:Int)(hK:K (.int .i64 (if 0<=n/\n<T.length then 0 else 6)) w):
 bu prog gJ.id #[.pointer (some ⟨g,0,none⟩),.int .i64 n] w K:=by
 have h0:=h;obtain⟨b,c,L,h⟩:=h;refine gJ.of (Split.no rfl (h.go (Split.no (beq_eq_false_iff_ne.2 (by omega)) (yw h0 n ⟨_,rfl,?_⟩))));by_cases hn:0<=n/\n<(T.length:Int)
 ·rw [if_pos hn]at hK
  exact Split.no (by simp [hn]) hK
 ·rw [if_neg hn]at hK
  exact Split.yes (by simp only [decide_eq_false hn];rfl) hK
theorem tO(h:ph w S g T d){n:Nat}(hn:n<T.length)(hK:K (.int .i64 0) w):
 bu prog gJ.id #[.pointer (some ⟨g,0,none⟩),.int .i64 n] w K:=HC h (by omega) n (by rw [if_pos ⟨by omega,by omega⟩];exact hK)
theorem Fg(h:ph w S g T d){n:Nat}{nd:Nd}(hn:T[n]? =some nd)(hK:∀w',Kept Nil w w'->K (.int .u64 (u64.wrap (nd.hi-nd.free))) w'):
 bu prog fW.id #[.pointer (some ⟨g,0,none⟩),.int .i64 n] w K:=by
 obtain⟨b,c,L,h⟩:=h;have cU:n<T.length:=(lgeS hn).1;obtain⟨v,hv⟩:=h.at_ hn;refine fW.of ?_;unfold fW.W;intro w1;have k1:Kept Nil w w1:=(Kept.refl Nil w).drew;have h1:=h.kept k1;have hb:0<=(n:Int)/\(n:Int)<(T.length:Int):=⟨by omega,by omega⟩;exact h1.go ⟨hb,h1.Bu hv (h1.go ⟨hb,h1.y5 hv (hK w1 k1)⟩)⟩
theorem zO(h:ph w S g T d){n:Nat}{nd:Nd}(hn:T[n]? =some nd)(h0:0<n)(hK:K (.tuple #[.int .i64 nd.parent,.int .i64 0]) w):
 bu prog fM.id #[.pointer (some ⟨g,0,none⟩),.int .i64 n] w K:=by
 have cU:n<T.length:=(lgeS hn).1;refine fM.of (tO h cU ⟨_,rfl,Split.yes rfl (Split.no (beq_eq_false_iff_ne.2 (by omega)) (Split.no rfl ?_))⟩);obtain⟨b,c,L,h⟩:=h;obtain⟨v,hv⟩:=h.at_ hn;exact h.go ⟨⟨by omega,by omega⟩,h.JF hv hK⟩
theorem MB:zD prog jE jV 1 8:=⟨by kernel_rfl,by kernel_rfl⟩
theorem yy:zD prog iJ jD 5 56:=⟨by kernel_rfl,by kernel_rfl⟩
end
theorem fT{x:Int}(h0:0<=x)(h1:x<18446744073709551616):u64.wrap x=x:=by
 simp only [IntKind.wrap,IntKind.bits,IntKind.signed];simp;omega
theorem gQ{x:Int}(h0: -9223372036854775808<=x)(h1:x<9223372036854775808):i64.wrap x=x:=by
 simp only [IntKind.wrap,IntKind.bits,IntKind.signed];simp;omega
def wc(T:List Nd)(n p:Nat)(nd pd:Nd)(many:Int):List Nd:=
 (T.set n {nd with lo:=pd.free,hi:=pd.free+many-1,free:=pd.free}).set p {pd with free:=pd.free+many}
section
variable{w:World}{S:Nat->Prop}{g:Nat}{T:List Nd}{d:Int}{K:Value->World->Prop}
theorem iW{α:Type}{L:List α}{i:Nat}{x y:α}(h:L[i]? =some x):(L.set i y)[i]? =some y:=by
 rw [List.getElem?_set_self (lgeS h).1]
theorem oH{α:Type}{L:List α}{i j:Nat}{x y:α}(h:L[j]? =some x)(fL:i≠j):(L.set i y)[j]? =some x:=by
 rw [List.getElem?_set_ne fL];exact h
theorem uZ{b c:Nat}{L:List (Nd×Value)}(h:TV w S g T d b c L){n p:Nat}{nd pd:Nd}{many:Int}(hn:T[n]? =some nd)(hp:T[p]? =some pd)(RO:nd.parent=p)(fL:n≠p)
 (hf:0<=pd.free) (hm:1<=many) (hfm:pd.free+many<18446744073709551616)
 (hK:∀w' L',TV w' S g (wc T n p nd pd many) d b c L'->Kept (fun k=>k=b) w w'->K (.tuple #[]) w'):
 bu prog fX.id #[.pointer (some ⟨g,0,none⟩),.int .i64 n,.int .u64 many] w K:=by
 have zx:n<T.length:=(lgeS hn).1;have rL:p<T.length:=(lgeS hp).1;obtain⟨v,hv⟩:=h.at_ hn;obtain⟨u,hu⟩:=h.at_ hp;have Yq:0<=(n:Int)/\(n:Int)<(T.length:Int):=⟨by omega,by omega⟩;have NI:0<=nd.parent/\nd.parent<(T.length:Int):=by rw [RO];exact⟨by omega,by omega⟩
 refine fX.of (h.go ⟨Yq,Is.mk rfl ?_⟩);intro w7;have k7:Kept (fun k=>k=b) w w7:=(Kept.refl _ w).drew;have h7:TV w7 S g T d b c L:=h.kept (Kept.refl Nil w).drew;refine h7.go (h7.JF hv ⟨NI,Is.mk rfl ?_⟩);rw [RO];refine h7.y5 hu ?_;obtain⟨Y5,EL⟩:=h7.vh hv (j:=2) (by omega) (u:=.int .u64 pd.free) (nd':= {nd with lo:=pd.free}) rfl rfl;have kS:∀ {w w':World},Kept (fun k=>k=b) w w'->∀(j:Nat) (u:Value),Kept (fun k=>k=b) w (w'.setCell ⟨b,j,none⟩ u):=fun k j u=>k.setCell (fun _=>rfl) u;have v1:(L.set n ({nd with lo:=pd.free},v))[n]? =some ({nd with lo:=pd.free},v):=iW hv;refine⟨by rw [o7];exact Y5,?_⟩;intro mz;have e13:mz=w7.setCell ⟨b,n*5+2,none⟩ (.int .u64 pd.free):=by simp only [mz,o7,Int.toNat_natCast]
 have ru:Kept (fun k=>k=b) w mz:=by rw [e13];exact kS k7 _ _
 rw [<-e13]at EL;clear_value mz;refine EL.wg v1 ?_;obtain⟨wr2,JD⟩:=EL.vh v1 (j:=3) (by omega) (u:=.int .u64 (u64.wrap (u64.wrap (pd.free+many)-1))) (nd':= {nd with lo:=pd.free,hi:=pd.free+many-1}) (by rw [fT (x:=pd.free+many) (by omega) (by omega),fT (by omega) (by omega)];rfl) rfl;refine⟨by rw [o7];exact wr2,?_⟩;intro nK;have e15:nK=mz.setCell ⟨b,n*5+3,none⟩ (.int .u64 (u64.wrap (u64.wrap (pd.free+many)-1))):=by simp only [nK,o7,Int.toNat_natCast]
 have uc:Kept (fun k=>k=b) w nK:=by rw [e15];exact kS ru _ _
 rw [<-e15]at JD;clear_value nK;rw [List.set_set,List.set_set]at JD;have v2:(L.set n ({nd with lo:=pd.free,hi:=pd.free+many-1},v))[n]? =some ({nd with lo:=pd.free,hi:=pd.free+many-1},v):=iW hv;refine JD.wg v2 ?_;obtain⟨Y4,YA⟩:=JD.vh v2 (j:=4) (by omega) (u:=.int .u64 pd.free) (nd':= {nd with lo:=pd.free,hi:=pd.free+many-1,free:=pd.free}) rfl rfl;refine⟨by rw [o7];exact Y4,?_⟩;intro xC;have e17:xC=nK.setCell ⟨b,n*5+4,none⟩ (.int .u64 pd.free):=by simp only [xC,o7,Int.toNat_natCast]
 have IB:Kept (fun k=>k=b) w xC:=by rw [e17];exact kS uc _ _
 rw [<-e17]at YA;clear_value xC;rw [List.set_set,List.set_set]at YA;have u3:(L.set n ({nd with lo:=pd.free,hi:=pd.free+many-1,free:=pd.free},v))[p]? =some (pd,u):=oH hu fL;refine YA.y5 u3 ?_;obtain⟨wr4,h19⟩:=YA.vh u3 (j:=4) (by omega) (u:=.int .u64 (u64.wrap (pd.free+many))) (nd':= {pd with free:=pd.free+many}) (by rw [fT (by omega) (by omega)];rfl) rfl;refine⟨by rw [o7];exact wr4,?_⟩;intro pf;have e19:pf=xC.setCell ⟨b,p*5+4,none⟩ (.int .u64 (u64.wrap (pd.free+many))):=by simp only [pf,o7,Int.toNat_natCast]
 exact hK pf _ (by rw [e19];exact h19) (by rw [e19];exact kS IB _ _)
theorem Fh(h:ph w S g T d){n p:Nat}{nd pd:Nd}{many:Int}(hn:T[n]? =some nd)(hp:T[p]? =some pd)(RO:nd.parent=p)(fL:n≠p)
 (hf:0<=pd.free) (hm:1<=many) (hfm:pd.free+many<18446744073709551616)
 (hK:∀w',ph w' S g (wc T n p nd pd many) d->Kept S w w'->K (.tuple #[]) w'):
 bu prog fX.id #[.pointer (some ⟨g,0,none⟩),.int .i64 n,.int .u64 many] w K:=by
 obtain⟨b,c,L,h⟩:=h;exact uZ h hn hp RO fL hf hm hfm fun w' L' h' k'=>hK w' ⟨b,c,L',h'⟩ (k'.mono fun k _ e=>by rw [e];exact h.gD)
end
section
variable{w:World}{S:Nat->Prop}{g:Nat}{T:List Nd}{d:Int}{b c:Nat}{L:List (Nd×Value)}
theorem BC(L M:List (Nd×Value)):o0 (L++M)=o0 L++o0 M:=by simp [o0]
theorem TV.JE(h:TV w S g T d b c L)(mq:T.length<=1000000)(p:Int){w10:World}
 (e10:w10=w.alloc (.cells #[.int .i64 p,.slice none 0 0,.int .u64 0,.int .u64 0,.int .u64 0] jD)):
 ∃A c' lL,(Builtin.append_ #[iJ,iJ] iJ #[.slice (some ⟨b,0,none⟩) T.length c,.slice (some ⟨w.heap.size,0,none⟩) 1 1]).run prog w10=.ok (.slice A (T.length+1) c') lL/\
  Wr lL ⟨g,0,none⟩/\∃b' S' L',TV (lL.setCell ⟨g,0,none⟩ (.slice A (T.length+1) c')) S' g (T++ [⟨p,[],0,0,0⟩]) d b' c' L'/\(∀(i:Nat) q,L[i]? =some q->L'[i]? =some q)/\
   Kept S w (lL.setCell ⟨g,0,none⟩ (.slice A (T.length+1) c'))/\(∀k,S k->S' k)/\(∀k,S' k->S k\/w.heap.size<=k):=by
 subst e10;generalize PQ:w.alloc (.cells #[.int .i64 p,.slice none 0 0,.int .u64 0,.int .u64 0,.int .u64 0] jD)=w10;have nu:w10.heap[w.heap.size]? =some (.cells #[.int .i64 p,.slice none 0 0,.int .u64 0,.int .u64 0,.int .u64 0] jD (0,0)):=by rw [<-PQ];exact aI w _
 have lh:Kept Nil w w10:=by rw [<-PQ];exact(Kept.refl Nil w).alloc _
 have Lw:w10.heap.size=w.heap.size+1:=by rw [<-PQ];simp
 have wK:=h.kept lh;obtain⟨A,c',lL,hr,fE,hg,Db⟩:=fP (P:=prog) (t:=iJ) (ty:=iJ) yy wK.row (a:=⟨w.heap.size,0,none⟩) (m:=1) (cx:=1)
  (news:=jJ ⟨p,[],0,0,0⟩ (.slice none 0 0)) rfl (fun j u hj=>by rw [mR,aD nu];simpa [jJ]using hj) (by intro u hu;simp [jJ]at hu;rcases hu with rfl|rfl|rfl|rfl|rfl<;>rfl)
  (by omega) (by unfold maxLen;omega) (Nat.zero_le _)
 obtain⟨b',rfl⟩:=Row.some fE (by omega);have kb:Kept (fun k=>k=b) w10 lL:=(Kept.refl _ w10).grown hg (fun k hk _=>by cases hk;rfl);have jx:lL.heap[g]? =some (.cells #[.slice (some ⟨b,0,none⟩) T.length c,.int .i64 d] uu (0,0)):=kb.heap wK.top h.gb;refine⟨_,c',lL,hr,dY jx (show 0<2 by omega),?_⟩;generalize T5:lL.setCell ⟨g,0,none⟩ (.slice (some ⟨b',0,none⟩) (T.length+1) c')=wf;have kg:Kept (fun k=>k=g) lL wf:=by rw [<-T5];exact(Kept.refl (fun k=>k=g) lL).setCell (p:=⟨g,0,none⟩) (fun _=>rfl) _
 have xh:b'=b\/w10.heap.size<=b':=by
  rcases Db b' rfl with h|h
  ·left;cases h;rfl
  ·exact .inr h
 have acN:b'≠g:=by
  rintro rfl;obtain⟨_,cur,hc⟩:=Row.bI fE (k:=b') rfl;rw [jx]at hc;injection hc with hc;injection hc with _ ht;exact absurd ht (by decide)
 have Gr:∀(i:Nat) (q:Nd×Value),L[i]? =some q->∃A m,Xt wf S q A m:=by
  intro i q hq;obtain⟨A,m,hk⟩:=wK.rp i q hq;obtain⟨cur,RW⟩:=wK.wE;have r1:=Row.aF hk.row kb (fun k e e2=>hk.ne RW (by decide) (by rw [e,e2]));have r2:=Row.aF r1 kg (fun k e e2=>hk.ne wK.top (by decide) (by rw [e,e2]));exact⟨A,m,hk.val,r2,hk.la⟩
 refine⟨b',fun k=>S k\/k=b',L++ [(⟨p,[],0,0,0⟩,.slice none 0 0)],?_,fun i q hq=>?_,?_,fun k hk=>.inl hk,?_⟩
 ·exact {
   top:=by
    have:=dh jx 0 (.slice (some ⟨b',0,none⟩) (T.length+1) c');rw [T5]at this;simpa using this
   fst:=by simp [h.fst]
   row:=by
    rw [BC,List.length_append];have:=Row.aF fE kg (fun k e e2=>acN (by cases e;exact e2));simpa [o0]using this
   rp:=fun i q hq=>by
    rw [List.getElem?_append]at hq;split at hq
    ·obtain⟨A,m,hk⟩:=Gr i q hq
     exact⟨A,m,hk.val,hk.row,fun k e=>.inl (hk.la k e)⟩
    ·rename_i cU
     have:i-L.length=0:=by
      rcases Nat.eq_zero_or_pos (i-L.length)with h|h
      ·exact h
      ·rw [List.getElem?_eq_none (by simp;omega)]at hq;cases hq
     rw [this]at hq;simp at hq;subst hq;exact⟨none,0,rfl,Row.nil _ _ _ _,fun k e=>by cases e⟩
   apart:=fun i j q q' hq Be rM k hk oR=>by
    rw [List.getElem?_append]at hq Be;have last:∀(x:Nat) (r:Nd×Value),[((⟨p,[],0,0,0⟩:Nd),Value.slice none 0 0)][x]? =some r->r.2=.slice none 0 0:=by
     intro x r hr;cases x with
     |zero=>simp at hr;subst hr;rfl
     |succ x=>simp at hr
    split at hq<;>split at Be
    ·exact h.apart i j q q' hq Be rM k hk oR
    ·rw [last _ _ Be]at oR;cases oR
    ·rw [last _ _ hq]at hk;cases hk
    ·rw [last _ _ Be]at oR;cases oR
   iB:=.inl h.iB
   gD:=.inr rfl}
 ·rw [List.getElem?_append_left (lgeS hq).1];exact hq
 ·have wI:Kept S w lL:=(lh.mono (S':=S) (fun _ _ h=>h.elim)).trans kb (fun k _ e=>by rw [e];exact h.gD)
  exact wI.trans kg (fun k _ e=>by rw [e];exact h.iB)
 ·rintro k (hk|rfl)
  ·exact .inl hk
  ·rcases xh with rfl|xh
   ·exact .inl h.gD
   ·right;omega
theorem TV.Mf(h:TV w S g T d b c L){p:Nat}{nd:Nd}{v:Value}(hp:L[p]? =some (nd,v)){A:Option Addr}{m:Nat}(hk:Xt w S (nd,v) A m)(mq:nd.ch.length<=1000000)(n:Nat){w22:World}
 (e22:w22=w.alloc (.cells #[.int .i64 n] jV)):
 ∃A' c' mu,(Builtin.append_ #[jE,jE] jE #[.slice A nd.ch.length m,.slice (some ⟨w.heap.size,0,none⟩) 1 1]).run prog w22=.ok (.slice A' (nd.ch.length+1) c') mu/\
  mu.cell? ⟨g,0,none⟩=some (.slice (some ⟨b,0,none⟩) T.length c)/\Wr mu ⟨b,p*5+1,none⟩/\
  ∃S' L',TV (mu.setCell ⟨b,p*5+1,none⟩ (.slice A' (nd.ch.length+1) c')) S' g (T.set p {nd with ch:=nd.ch++ [n]}) d b c L'/\
   Kept S w (mu.setCell ⟨b,p*5+1,none⟩ (.slice A' (nd.ch.length+1) c'))/\(∀k,S k->S' k)/\(∀k,S' k->S k\/w.heap.size<=k):=by
 subst e22;generalize PO:w.alloc (.cells #[.int .i64 n] jV)=w22;have nu:w22.heap[w.heap.size]? =some (.cells #[.int .i64 n] jV (0,0)):=by rw [<-PO];exact aI w _
 have TL:Kept Nil w w22:=by rw [<-PO];exact(Kept.refl Nil w).alloc _
 have PV:w22.heap.size=w.heap.size+1:=by rw [<-PO];simp
 have zz:=h.kept TL;have P0:=Row.aF hk.row TL (fun _ _ h=>h);have rL:p<L.length:=(lgeS hp).1;obtain⟨A',c',mu,hr,fE,hg,Db⟩:=fP (P:=prog) (t:=jE) (ty:=jE) MB P0 (a:=⟨w.heap.size,0,none⟩) (m:=1) (cx:=1)
  (news:=ints [n]) rfl (fun j u hj=>by rw [mR,aD nu];simpa [ints]using hj) (by intro u hu;simp [ints]at hu;subst hu;rfl)
  (by simp only;omega) (by unfold maxLen;simp only;omega) (Nat.zero_le _)
 obtain⟨cur,RW⟩:=zz.wE;obtain⟨ak8,hb0⟩:=h.wE;have Ny:a8 A≠some b:=hk.ne hb0 (by decide);have hkg:a8 A≠some g:=hk.ne h.top (by decide);have kA:Kept (fun k=>a8 A=some k) w22 mu:=(Kept.refl _ w22).grown hg (fun k hk _=>hk);have JC:Row mu 0 jD 5 (some ⟨b,0,none⟩) T.length c (o0 L):=Row.aF zz.row kA (fun k e e2=>Ny (by rw [e2,<-e];rfl));have JB:=kA.heap zz.top (fun e=>hkg e);have cU:p*5+1<(o0 L).length:=by rw [um];omega
 refine⟨A',c',mu,hr,by rw [aD JB];rfl,Row.wr JC cU,?_⟩;generalize T5:mu.setCell ⟨b,p*5+1,none⟩ (.slice A' (nd.ch.length+1) c')=wf;have kB:Kept (fun k=>k=b) mu wf:=by rw [<-T5];exact(Kept.refl (fun k=>k=b) mu).setCell (p:=⟨b,p*5+1,none⟩) (fun _=>rfl) _
 have adp:a8 A'≠some b:=by
  intro e;obtain⟨_,W8,hc⟩:=Row.bI fE e;have:=kA.heap RW Ny;rw [this]at hc;injection hc with hc;injection hc with _ ht;exact absurd ht (by decide)
 have vU:∀(A:Option Addr) n m,Value.ownBlock (.slice A n m)=a8 A:=by intro A n m;cases A<;>rfl
 have gS:∀(i:Nat) (q:Nd×Value),(L.set p ({nd with ch:=nd.ch++ [n]},.slice A' (nd.ch.length+1) c'))[i]? =some q->(i=p/\q=({nd with ch:=nd.ch++ [n]},.slice A' (nd.ch.length+1) c'))\/(i≠p/\L[i]? =some q):=by
  intro i q hq;by_cases e:p=i
  ·subst e
   rw [List.getElem?_set_self rL]at hq;cases hq;exact .inl ⟨rfl,rfl⟩
  ·rw [List.getElem?_set_ne e]at hq
   exact .inr ⟨fun h=>e h.symm,hq⟩
 have Ns:∀k,a8 A'=some k->∀(i:Nat) (q:Nd×Value),i≠p->L[i]? =some q->Value.ownBlock q.2≠some k:=by
  intro k oR i q hi hq hqk;rcases Db k oR with e|e
  ·exact h.apart p i _ _ hp hq (fun e=>hi e.symm) k (by rw [hk.val,vU];exact e) hqk
  ·obtain⟨A2,m2,mX⟩:=h.rp i q hq
   rw [mX.val,vU]at hqk;obtain⟨_,ak7,KB⟩:=Row.bI mX.row hqk;have:=aQ KB;omega
 refine⟨fun k=>S k\/a8 A'=some k,L.set p ({nd with ch:=nd.ch++ [n]},.slice A' (nd.ch.length+1) c'),?_,?_,fun k hk=>.inl hk,?_⟩
 ·exact {
   top:=by rw [List.length_set];exact kB.heap JB h.gb
   fst:=by rw [List.map_set,h.fst]
   row:=by
    rw [List.length_set];have:=Row.set JC cU (.slice A' (nd.ch.length+1) c');rw [T5,BB hp (j:=1) (by omega) (p':=({nd with ch:=nd.ch++ [n]},.slice A' (nd.ch.length+1) c')) rfl]at this;exact this
   rp:=fun i q hq=>by
    rcases gS i q hq with⟨rfl,rfl⟩|⟨hi,hq⟩
    ·refine⟨A',c',by simp,?_,fun k e=>.inr e⟩
     have:=Row.aF fE kB (fun k e e2=>adp (by rw [e,e2]));simpa [ints]using this
    ·obtain⟨A2,m2,mX⟩:=zz.rp i q hq
     have r1:=Row.aF mX.row kA (fun k e e2=>h.apart p i _ _ hp hq (fun e=>hi e.symm) k (by rw [hk.val,vU];exact e2) (by rw [mX.val,vU];exact e));have r2:=Row.aF r1 kB (fun k e e2=>mX.ne RW (by decide) (by rw [e,e2]));exact⟨A2,m2,mX.val,r2,fun k e=>.inl (mX.la k e)⟩
   apart:=fun i j q q' hq Be rM k Kz mX=>by
    rcases gS i q hq with⟨e1,e2⟩|⟨hi,Nn⟩<;>rcases gS j q' Be with⟨e3,e4⟩|⟨hj,RL⟩
    ·exact rM (e1.trans e3.symm)
    ·rw [e2,vU]at Kz;exact Ns k Kz j q' hj RL mX
    ·rw [e4,vU]at mX;exact Ns k mX i q hi Nn Kz
    ·exact h.apart i j q q' Nn RL rM k Kz mX
   iB:=.inl h.iB
   gD:=.inl h.gD}
 ·have pT:Kept S w mu:=(TL.mono (S':=S) (fun _ _ h=>h.elim)).trans kA (fun k _ e=>hk.la k e)
  exact pT.trans kB (fun k _ e=>by rw [e];exact h.gD)
 ·rintro k (oR|oR)
  ·exact .inl oR
  ·rcases Db k oR with e|e
   ·exact .inl (hk.la k e)
   ·right;omega
end
def grown(T:List Nd)(p:Nat)(pd:Nd):List Nd:=(T++ [(⟨p,[],0,0,0⟩:Nd)]).set p {pd with ch:=pd.ch++ [T.length]}
def jz(pd:Nd):Int:=(pd.hi-pd.free+1)/2
def added(T:List Nd)(p:Nat)(pd:Nd):List Nd:=wc (grown T p pd) T.length p ⟨p,[],0,0,0⟩ {pd with ch:=pd.ch++ [T.length]} (jz pd)
section
variable{w:World}{S:Nat->Prop}{g:Nat}{T:List Nd}{d:Int}{K:Value->World->Prop}
theorem u7(h:ph w S g T d){p:Nat}{pd:Nd}(hp:T[p]? =some pd)(mq:T.length<=1000000)(nH:pd.ch.length<=1000000)
 (hf:0<=pd.free) (hfh:pd.free<=pd.hi) (hh:pd.hi<=4611686018427387904)
 (hK1:pd.free<pd.hi->∀w' S',ph w' S' g (added T p pd) d->Kept S w w'->(∀k,S' k->S k\/w.heap.size<=k)->K (.tuple #[.int .i64 T.length,.int .i64 0]) w')
 (hK2:pd.free=pd.hi->∀w' S',ph w' S' g (grown T p pd) d->Kept S w w'->(∀k,S' k->S k\/w.heap.size<=k)->
   bu prog az.id #[.pointer (some ⟨g,0,none⟩),.int .i64 p] w' fun v jm=>v=.tuple #[]/\K (.tuple #[.int .i64 T.length,.int .i64 0]) jm):
 bu prog gK.id #[.pointer (some ⟨g,0,none⟩),.int .i64 p] w K:=by
 have cU:p<T.length:=(lgeS hp).1;refine gK.of (tO h cU ⟨_,rfl,Split.no rfl ?_⟩);obtain⟨b,c,L,h⟩:=h;obtain⟨v,hv⟩:=h.at_ hp;refine h.go (h.go ⟨rfl,?_⟩);intro w10;obtain⟨A1,c1,lL,mU,Y5,b1,S1,L1,h14,hL1,G9,hS1,WE⟩:=h.JE mq (p:Int) (w10:=w10) rfl;refine⟨A1,_,c1,lL,mU,by rw [mR];exact Y5,?_⟩;intro iP;have e14:iP=lL.setCell ⟨g,0,none⟩ (.slice A1 (T.length+1) c1):=by simp only [iP,mR]
 rw [<-e14]at h14 G9;clear_value iP;intro nK;have uc:Kept Nil iP nK:=(Kept.refl Nil iP).drew;have JD:=h14.kept uc;have Kt:=hL1 _ _ hv;have hlen:(T++ [(⟨p,[],0,0,0⟩:Nd)]).length=T.length+1:=by simp
 have NN:0<=(p:Int)/\(p:Int)<((T++ [(⟨p,[],0,0,0⟩:Nd)]).length:Int):=by rw [hlen];exact⟨by omega,by omega⟩
 obtain⟨A2,m2,hk⟩:=JD.rp _ _ Kt;refine JD.go (JD.go ⟨NN,JD.WU Kt hk.val ?_⟩);intro w22;have TL:Kept Nil nK w22:=(Kept.refl Nil nK).alloc _;have zz:=JD.kept TL;obtain⟨A3,c3,mu,ry,UT,Y4,S3,L3,Yz,AT,hS3,acZ⟩:=JD.Mf Kt hk nH T.length (w22:=w22) rfl;have Bj:=zz.cell Kt (j:=1) (by omega) (v:=v) rfl;have hvv:v=.slice A2 pd.ch.length m2:=hk.val;rw [hvv]at Bj;refine⟨by rw [o7];exact Bj,by rw [mR];exact zz.nodes,by rw [mR];exact zz.nodes,A3,_,c3,mu,ry,by rw [mR];exact UT,NN,by rw [o7];exact Y4,?_⟩;intro o9;have e26:o9=mu.setCell ⟨b1,p*5+1,none⟩ (.slice A3 (pd.ch.length+1) c3):=by simp only [o9,o7,Int.toNat_natCast]
 rw [<-e26]at Yz AT;clear_value o9;have Lu:(T++ [(⟨p,[],0,0,0⟩:Nd)]).set p {pd with ch:=pd.ch++ [T.length]}=grown T p pd:=rfl;rw [Lu]at Yz;have hgp:(grown T p pd)[p]? =some {pd with ch:=pd.ch++ [T.length]}:=by
  unfold grown;rw [List.getElem?_set_self (by simp;omega)]
 have hgn:(grown T p pd)[T.length]? =some ⟨p,[],0,0,0⟩:=by
  unfold grown;rw [List.getElem?_set_ne (by omega)];simp
 have kw:Kept S w o9:=(G9.tt (uc.mono (S':=S) (fun _ _ h=>h.elim))).trans AT (fun k hk h=>by
  rcases WE k h with h|h
  ·exact h
  ·omega)
 have QY:∀k,S3 k->S k\/w.heap.size<=k:=fun k h=>by
  rcases acZ k h with h|h
  ·exact WE k h
  ·right
   have:=G9.size;have:=uc.size;omega
 refine Fg ⟨_,_,_,Yz⟩ hgp fun G5 Ix=>⟨_,rfl,?_⟩;have h28:=Yz.kept Ix;have Tj:Kept S w G5:=kw.trans Ix (fun _ _ h=>h.elim);simp only [];rw [fT (x:=pd.hi-pd.free) (by omega) (by omega)];refine Split.dec (fun jK=>⟨by decide,?_⟩) (fun jK=>?_)
 ·have EE:u64.wrap ((u64.wrap (pd.hi-pd.free+1)).tdiv 2)=jz pd:=by
   rw [fT (x:=pd.hi-pd.free+1) (by omega) (by omega),Int.tdiv_eq_ediv_of_nonneg (by omega),fT (by omega) (by omega)];rfl
  rw [EE];refine Fh ⟨_,_,_,h28⟩ hgn hgp rfl (by omega) hf (by unfold jz;omega) (by unfold jz;simp only;omega) fun Hw h31 MT=>⟨rfl,?_⟩;refine hK1 (by omega) Hw S3 h31 (Tj.trans MT fun k hk h=>?_) QY;rcases QY k h with h|h
  ·exact h
  ·omega
 ·exact hK2 (by omega) G5 S3 ⟨_,_,_,h28⟩ Tj QY
end
section
variable{w:World}{S:Nat->Prop}{g:Nat}{T:List Nd}{d:Int}{K:Value->World->Prop}
def qN:List Nd:= [⟨-1,[],1,4611686018427387904,1⟩]
theorem eZ(hK:∀w' g,ph w' (fun k=>w.heap.size<=k) g qN 0->Kept Nil w w'->K (.pointer (some ⟨g,0,none⟩)) w'):bu prog eZ.id #[] w K:=by
 refine eZ.of ⟨rfl,?_⟩;intro w1 w2;have k1:Kept Nil w w1:=(Kept.refl Nil w).alloc _;have k2:Kept Nil w w2:=k1.alloc _;refine hK w2 w1.heap.size ⟨w.heap.size,1,[(⟨-1,[],1,4611686018427387904,1⟩,.slice none 0 0)],?_⟩ k2;exact {
  top:=aI w1 _
  fst:=rfl
  row:=Row.made (n:=1) (cur:= #[.int .i64 (-1),.slice none 0 0,.int .u64 1,.int .u64 4611686018427387904,.int .u64 1]) (jl (aI w _) _) (Nat.zero_le _) rfl (by decide)
  rp:=fun i p hp=>by
   cases i with
   |zero=>simp at hp;subst hp;exact⟨none,0,rfl,Row.nil _ _ _ _,fun k e=>by cases e⟩
   |succ i=>simp at hp
  apart:=fun i j p q hp hq rM=>by
   cases i<;>cases j<;>simp at hp hq
   exact absurd rfl rM
  iB:=k1.size
  gD:=Nat.le_refl _}
theorem Cn(h:ph w S g T d){a b:Nat}{ad bd:Nd}(ha:T[a]? =some ad)(hb:T[b]? =some bd)(hK:∀w',Kept Nil w w'->K (.bool (decide (bd.lo<=ad.lo/\ad.hi<=bd.hi))) w'):
 bu prog fF.id #[.pointer (some ⟨g,0,none⟩),.int .i64 a,.int .i64 b] w K:=by
 have hal:a<T.length:=(lgeS ha).1;have Db:b<T.length:=(lgeS hb).1;have hba:0<=(a:Int)/\(a:Int)<(T.length:Int):=⟨by omega,by omega⟩;have xg:0<=(b:Int)/\(b:Int)<(T.length:Int):=⟨by omega,by omega⟩;refine fF.of ?_;unfold fF.W;intro w4;have k4:Kept Nil w w4:=(Kept.refl Nil w).drew;have h4:=h.same k4;have hk:=hK w4 k4;refine yw h4 a ⟨_,rfl,Split.yes (decide_eq_true hba) ?_⟩;refine yw h4 b ⟨_,rfl,Split.yes (decide_eq_true xg) ?_⟩;obtain⟨p,c,L,h4⟩:=h4;obtain⟨va,hva⟩:=h4.at_ ha;obtain⟨vb,hvb⟩:=h4.at_ hb;refine h4.go ⟨xg,h4.wg hvb (h4.go ⟨hba,h4.wg hva ?_⟩)⟩;refine Split.dec (fun h1=>h4.go ⟨hba,h4.Bu hva (h4.go ⟨xg,h4.Bu hvb ?_⟩)⟩) (fun h1=>?_)
 ·rwa [show decide (bd.lo<=ad.lo/\ad.hi<=bd.hi)=decide (ad.hi<=bd.hi)from by simp [h1]]at hk
 ·rwa [decide_eq_false (fun e:bd.lo<=ad.lo/\ad.hi<=bd.hi=>h1 e.1)]at hk
end
section
variable{w:World}{t:Option Addr}{K:Value->World->Prop}
end
end Go.Proofs.YtfleamccglihoaaGreatDoor.Tr
namespace Go.Proofs.YtfleamccglihoaaGreatDoor.Tr
open Go.Proofs.Tryz
def bW(T:List Nd):List Int:=T.map (·.parent)
structure nJ(P:List Int):Prop where
 root:P[0]? =some (-1)
 up:∀(i:Nat) (p:Int),0<i->P[i]? =some p->∃j:Nat,j<i/\p=j
def kids(P:List Int)(i:Nat):List Nat:=(List.range P.length).filter fun j=>P[j]? ==some (i:Int)
theorem eA{P:List Int}{i j:Nat}:j∈kids P i↔P[j]? =some (i:Int):=by
 simp only [kids,List.mem_filter,List.mem_range,beq_iff_eq];exact⟨fun h=>h.2,fun h=>⟨(lgeS h).1,h⟩⟩
theorem iE{P:List Int}(hP:nJ P){i j:Nat}(h:j∈kids P i):i<j/\j<P.length:=by
 rw [eA]at h;refine⟨?_,(lgeS h).1⟩;rcases Nat.eq_zero_or_pos j with rfl|hj
 ·rw [hP.root]at h;have:=Option.some.inj h;omega
 ·obtain⟨k,hk,e⟩:=hP.up j _ hj h
  omega
theorem ub(P:List Int)(i:Nat):(kids P i).Pairwise (· < ·):=List.Pairwise.filter _ (List.pairwise_lt_range)
theorem AN(P:List Int)(i:Nat):(kids P i).length<=P.length:=by
 unfold kids;exact Nat.le_trans (List.length_filter_le _ _) (by simp)
inductive kM (P:List Int):Nat->Nat->Prop
 |refl {i:Nat}:i<P.length->kM P i i
 |step {i j k:Nat}:P[i]? =some (j:Int)->kM P j k->kM P i k
theorem kM.lt{P:List Int}{i k:Nat}(h:kM P i k):i<P.length:=by
 cases h with
 |refl h=>exact h
 |step h _=>exact(lgeS h).1
theorem kM.XF{P:List Int}{i k:Nat}(h:kM P i k):k<P.length:=by
 induction h with
 |refl h=>exact h
 |step _ _ ih=>exact ih
theorem kM.le{P:List Int}(hP:nJ P){i k:Nat}(h:kM P i k):k<=i:=by
 induction h with
 |refl=>omega
 |step h _ ih=>have:=(iE hP (eA.2 h)).1;omega
theorem kM.trans{P:List Int}{i j k:Nat}(h:kM P i j)(h':kM P j k):kM P i k:=by
 induction h with
 |refl=>exact h'
 |step h _ ih=>exact .step h (ih h')
theorem kM.inv{P:List Int}{i j k:Nat}(h:kM P i k)(fL:i≠k)(hj:P[i]? =some (j:Int)):kM P j k:=by
 cases h with
 |refl=>exact absurd rfl fL
 | @step _ j' _ h h'=>
   rw [hj]at h;have e:j=j':=by have:=Option.some.inj h;omega
   rw [e];exact h'
theorem kM.child{P:List Int}{i k:Nat}(h:kM P i k)(fL:i≠k):∃c,c∈kids P k/\kM P i c:=by
 induction h with
 |refl=>exact absurd rfl fL
 | @step i j k h h' ih=>
   by_cases e:j=k
   ·subst e
    exact⟨i,eA.2 h,.refl (lgeS h).1⟩
   ·obtain⟨c,hc,hu⟩:=ih e
    exact⟨c,hc,.step h hu⟩
structure Iv(nd:Nd):Prop where
 ZG:1<=nd.lo
 le:nd.lo<=nd.hi
 top:nd.hi<=4611686018427387904
structure Loc(T:List Nd)(nd:Nd):Prop where
 Hj:nd.lo<=nd.free
 Dj:nd.free<=nd.hi
 sub:∀c cd,c∈nd.ch->T[c]? =some cd->nd.lo<=cd.lo/\cd.hi<nd.free
 ord:∀(c c':Nat) cd wA,c∈nd.ch->c'∈nd.ch->c<c'->T[c]? =some cd->T[c']? =some wA->cd.hi<wA.lo
structure Shape(T:List Nd):Prop where
 par:nJ (bW T)
 ch:∀(i:Nat) nd,T[i]? =some nd->nd.ch=kids (bW T) i
structure Good(T:List Nd):Prop extends Shape T where
 iv:∀(i:Nat) nd,T[i]? =some nd->Iv nd
 loc:∀(i:Nat) nd,T[i]? =some nd->Loc T nd
theorem lP{T:List Nd}{i:Nat}{nd:Nd}(h:T[i]? =some nd):(bW T)[i]? =some nd.parent:=by simp [bW,h]
theorem e9(T:List Nd):(bW T).length=T.length:=by simp [bW]
theorem Shape.pos{T:List Nd}(h:Shape T):0<T.length:=by
 have:=(lgeS h.par.root).1
 rwa [e9]at this
theorem Good.rp{T:List Nd}(h:Good T){c k:Nat}{cd kd:Nd}(hc:c∈kids (bW T) k)(jZ:T[c]? =some cd)(Vh:T[k]? =some kd):
 kd.lo<=cd.lo/\cd.hi<kd.free:=(h.loc k kd Vh).sub c cd (by rw [h.ch k kd Vh];exact hc) jZ
theorem gu{T:List Nd}{i:Nat}(h:i<T.length):∃nd,T[i]? =some nd:=⟨_,List.getElem?_eq_getElem h⟩
theorem Good.pg{T:List Nd}(h:Good T){a b:Nat}{ad bd:Nd}(ha:T[a]? =some ad)(hb:T[b]? =some bd)(hu:kM (bW T) a b):bd.lo<=ad.lo/\ad.hi<=bd.hi:=by
 induction hu generalizing ad with
 |refl=>rw [ha]at hb;cases hb;omega
 | @step i j k hp h' ih=>
   have uT:j<T.length:=by have:=h'.lt;rwa [e9]at this
   obtain⟨jd,hj⟩:=gu uT;have h1:=ih hj hb;have h2:=h.rp (eA.2 hp) ha hj;have h3:=(h.loc j jd hj).Dj;omega
theorem Good.apart{T:List Nd}(h:Good T):∀(m a b:Nat),a+b<=m->∀ad bd,T[a]? =some ad->T[b]? =some bd->¬kM (bW T) a b->¬kM (bW T) b a->ad.hi<bd.lo\/bd.hi<ad.lo:=by
 intro m
 induction m with
 |zero=>
  intro a b hm ad bd ha hb h1 _;have:a=b:=by omega
  subst this;exact absurd (.refl (by rw [e9];exact(lgeS ha).1)) h1
 |succ m ih=>
  have key:∀(a b:Nat),a+b<=m+1->b<a->∀ad bd,T[a]? =some ad->T[b]? =some bd->¬kM (bW T) a b->¬kM (bW T) b a->ad.hi<bd.lo\/bd.hi<ad.lo:=by
   intro a b hm cU ad bd ha hb h1 h2;have hal:=(lgeS ha).1;obtain⟨p,hp,e⟩:=h.par.up a _ (by omega) (lP ha);have Ye:(bW T)[a]? =some (p:Int):=by rw [lP ha,e]
   obtain⟨pd,yT⟩:=gu (T:=T) (i:=p) (by omega);have fJ:=h.rp (eA.2 Ye) ha yT;have rL:=h.loc p pd yT;have Bf:¬kM (bW T) p b:=fun hu=>h1 (.step Ye hu);by_cases NI:kM (bW T) b p
   ·have fL:b≠p:=fun e=>Bf (by subst e;exact .refl NI.lt)
    obtain⟨c,hc,Nb⟩:=NI.child fL;have hca:c≠a:=fun e=>h2 (e▸Nb);have qH:c<T.length:=by have:=(iE h.par hc).2;rwa [e9]at this
    obtain⟨cd,jZ⟩:=gu qH;have Ca:=h.pg hb jZ Nb;have nH:=h.ch p pd yT;rcases Nat.lt_or_ge c a with cU|gH
    ·have:=rL.ord c a cd ad (by rw [nH];exact hc) (by rw [nH];exact eA.2 Ye) cU jZ ha
     omega
    ·have:=rL.ord a c ad cd (by rw [nH];exact eA.2 Ye) (by rw [nH];exact hc) (by omega) ha jZ
     omega
   ·have:=ih p b (by omega) pd bd yT hb Bf NI
    have:=rL.Dj;omega
  intro a b hm ad bd ha hb h1 h2;rcases Nat.lt_trichotomy a b with cU|rfl|cU
  ·have:=key b a (by omega) cU bd ad hb ha h2 h1
   omega
  ·exact absurd (.refl (by rw [e9];exact(lgeS ha).1)) h1
  ·exact key a b hm cU ad bd ha hb h1 h2
theorem Good.under{T:List Nd}(h:Good T){a b:Nat}{ad bd:Nd}(ha:T[a]? =some ad)(hb:T[b]? =some bd):(bd.lo<=ad.lo/\ad.hi<=bd.hi)↔kM (bW T) a b:=by
 refine⟨fun hi=>?_,fun hu=>h.pg ha hb hu⟩;by_cases hu:kM (bW T) a b
 ·exact hu
 ·exfalso
  have ia:=h.iv a ad ha;have ib:=h.iv b bd hb;by_cases hv:kM (bW T) b a
  ·have fL:b≠a:=fun e=>hu (by subst e;exact .refl hv.lt)
   obtain⟨c,hc,Nb⟩:=hv.child fL;have qH:c<T.length:=by have:=(iE h.par hc).2;rwa [e9]at this
   obtain⟨cd,jZ⟩:=gu qH;have h1:=h.pg hb jZ Nb;have h2:=h.rp hc jZ ha;have h3:=(h.loc a ad ha).Dj;omega
  ·have:=h.apart (a+b) a b (Nat.le_refl _) ad bd ha hb hu hv
   have:=ia.le;have:=ib.le;omega
theorem x8(T:List Nd)(p:Nat)(pd:Nd):(grown T p pd).length=T.length+1:=by simp [grown]
theorem jL{T:List Nd}{p:Nat}{pd:Nd}(hp:T[p]? =some pd)(i:Nat):(grown T p pd)[i]? =if i=p then some {pd with ch:=pd.ch++ [T.length]}else if i=T.length then some ⟨p,[],0,0,0⟩else T[i]? :=by
 have cU:=(lgeS hp).1;unfold grown;by_cases e:i=p
 ·subst e
  rw [if_pos rfl,List.getElem?_set_self (by simp;omega)]
 ·rw [if_neg e,List.getElem?_set_ne (fun h=>e h.symm)]
  by_cases e2:i=T.length
  ·subst e2;simp
  ·rw [if_neg e2]
   rcases Nat.lt_or_ge i T.length with h|h
   ·rw [List.getElem?_append_left h]
   ·rw [List.getElem?_eq_none (by simp;omega),List.getElem?_eq_none h]
theorem mM{T:List Nd}{p:Nat}{pd:Nd}(hp:T[p]? =some pd):bW (grown T p pd)=bW T++ [(p:Int)]:=by
 apply List.ext_getElem?;intro i;have cU:=(lgeS hp).1;simp only [bW,List.getElem?_map,jL hp];by_cases e:i=p
 ·subst e
  rw [if_pos rfl,List.getElem?_append_left (by simpa using cU)];simp [hp]
 ·rw [if_neg e]
  by_cases e2:i=T.length
  ·subst e2;simp
  ·rw [if_neg e2]
   rcases Nat.lt_or_ge i T.length with h|h
   ·rw [List.getElem?_append_left (by simpa using h)];simp
   ·rw [List.getElem?_eq_none h,List.getElem?_eq_none (by simp;omega)];rfl
theorem AO(P:List Int)(p i:Nat):kids (P++ [(p:Int)]) i=kids P i++if i=p then [P.length]else []:=by
 unfold kids;rw [List.length_append,List.length_singleton,List.range_succ,List.filter_append]
 congr 1
 ·apply List.filter_congr
  intro x hx;rw [List.getElem?_append_left (by simpa using hx)]
 ·by_cases e:i=p
  ·subst e;simp
  ·have:¬((p:Int)=(i:Int)):=by omega
   simp [e,this]
theorem nJ.snoc{P:List Int}(h:nJ P){p:Nat}(hp:p<P.length):nJ (P++ [(p:Int)]):=by
 refine⟨by rw [List.getElem?_append_left (by omega)];exact h.root,fun i q hi hq=>?_⟩;rcases Nat.lt_or_ge i P.length with hl|hl
 ·rw [List.getElem?_append_left hl]at hq
  exact h.up i q hi hq
 ·have:i=P.length:=by
   rcases Nat.eq_or_lt_of_le hl with e|e
   ·exact e.symm
   ·rw [List.getElem?_eq_none (by simp;omega)]at hq;cases hq
  subst this;simp at hq;exact⟨p,hp,hq.symm⟩
theorem Shape.grown{T:List Nd}(h:Shape T){p:Nat}{pd:Nd}(hp:T[p]? =some pd):Shape (grown T p pd):=by
 have cU:=(lgeS hp).1;refine⟨by rw [mM hp];exact h.par.snoc (by rw [e9];exact cU),fun i nd hi=>?_⟩;rw [mM hp,AO,e9];rw [jL hp]at hi;by_cases e:i=p
 ·subst e
  rw [if_pos rfl]at hi⊢;cases hi;simp [h.ch i pd hp]
 ·rw [if_neg e]at hi⊢
  rw [List.append_nil];by_cases e2:i=T.length
  ·subst e2
   rw [if_pos rfl]at hi;cases hi
   symm
   apply List.eq_nil_iff_forall_not_mem.2;intro c hc;have:=iE h.par hc;rw [e9]at this;omega
  ·rw [if_neg e2]at hi
   exact h.ch i nd hi
def jn(f:Nat->Nat):Nat->Nat
 |0=>0
 |n+1=>jn f n+f n
theorem ly{f g:Nat->Nat}{n:Nat}(h:∀i,i<n->f i=g i):jn f n=jn g n:=by
 induction n with
 |zero=>rfl
 |succ n ih=>
  simp only [jn];rw [ih (fun i hi=>h i (by omega)),h n (by omega)]
theorem zQ(f g:Nat->Nat)(n:Nat):jn (fun i=>f i+g i) n=jn f n+jn g n:=by
 induction n with
 |zero=>rfl
 |succ n ih=>simp only [jn];omega
theorem mv{f:Nat->Nat}{n:Nat}(h:∀i,i<n->f i=0):jn f n=0:=by
 induction n with
 |zero=>rfl
 |succ n ih=>
  simp only [jn];rw [ih (fun i hi=>h i (by omega)),h n (by omega)]
theorem Fj(h:Nat->Nat->Nat)(n m:Nat):jn (fun i=>jn (fun j=>h i j) m) n=jn (fun j=>jn (fun i=>h i j) n) m:=by
 induction n with
 |zero=>simp only [jn];exact(mv fun _ _=>rfl).symm
 |succ n ih=>
  simp only [jn];rw [ih,zQ]
theorem zP{n k:Nat}(hk:k<n){f:Nat->Nat}(h:∀i,i<n->i≠k->f i=0):jn f n=f k:=by
 induction n with
 |zero=>omega
 |succ n ih=>
  simp only [jn];rcases Nat.lt_or_ge k n with cU|gH
  ·rw [ih cU (fun i hi=>h i (by omega)),h n (by omega) (by omega),Nat.add_zero]
  ·have:k=n:=by omega
   subst this;rw [mv (fun i hi=>h i (by omega) (by omega)),Nat.zero_add]
theorem KR{f:Nat->Nat}{n b:Nat}(h:∀i,i<n->f i<=b):jn f n<=n*b:=by
 induction n with
 |zero=>simp [jn]
 |succ n ih=>
  simp only [jn];have:=ih (fun i hi=>h i (by omega));have:=h n (by omega);rw [Nat.succ_mul];omega
theorem HI{f f':Nat->Nat}{n k:Nat}(hk:k<n){v:Nat}(h:∀i,i<n->i≠k->f' i=f i)(hv:f' k=f k+v):jn f' n=jn f n+v:=by
 induction n with
 |zero=>omega
 |succ n ih=>
  simp only [jn];rcases Nat.lt_or_ge k n with cU|gH
  ·rw [ih cU (fun i hi=>h i (by omega)),h n (by omega) (by omega)]
   omega
  ·have:k=n:=by omega
   subst this;rw [ly (fun i hi=>h i (by omega) (by omega)),hv];omega
theorem sT(q:Nat->Bool)(f:Nat->Nat)(n:Nat):(((List.range n).filter q).map f).sum=jn (fun c=>if q c=true then f c else 0) n:=by
 induction n with
 |zero=>rfl
 |succ n ih=>
  rw [List.range_succ,List.filter_append,List.map_append,List.sum_append,ih];simp only [jn]
  congr 1
  by_cases h:q n=true
  ·simp [h]
  ·simp [h]
section
variable{P:List Int}
theorem kM.cmp{i a b:Nat}(h:kM P i a)(h':kM P i b):kM P a b\/kM P b a:=by
 induction h with
 |refl=>exact .inl h'
 | @step i j k hp h2 ih=>
   by_cases e:i=b
   ·subst e;exact .inr (.step hp h2)
   ·exact ih (h'.inv e hp)
theorem kM.one(hP:nJ P){i n c c':Nat}(hc:P[c]? =some (n:Int))(tB:P[c']? =some (n:Int))(h:kM P i c)(h':kM P i c'):c=c':=by
 have key:∀(c c':Nat),P[c]? =some (n:Int)->P[c']? =some (n:Int)->kM P c c'->c=c':=by
  intro c c' hc tB h;by_cases e:c=c'
  ·exact e
  ·have:=(h.inv e hc).le hP
   have:=(iE hP (eA.2 tB)).1;omega
 rcases h.cmp h' with h|h
 ·exact key c c' hc tB h
 ·exact(key c' c tB hc h).symm
open Classical in
noncomputable def ind(p:Prop):Nat:=if p then 1 else 0
theorem sy{p:Prop}(h:p):ind p=1:=by unfold ind;rw [if_pos h]
theorem tp{p:Prop}(h:¬p):ind p=0:=by unfold ind;rw [if_neg h]
theorem PC(p:Prop):ind p<=1:=by unfold ind;split<;>omega
noncomputable def sz(P:List Int)(n:Nat):Nat:=jn (fun i=>ind (kM P i n)) P.length
theorem Co(hP:nJ P){n:Nat}(hn:n<P.length):sz P n=1+jn (fun c=>if P[c]? =some (n:Int)then sz P c else 0) P.length:=by
 have e1:∀i,i<P.length->ind (kM P i n)=ind (i=n)+jn (fun c=>if P[c]? =some (n:Int)then ind (kM P i c)else 0) P.length:=by
  intro i hi;by_cases e:i=n
  ·subst e
   rw [sy (.refl hi),sy rfl,mv];intro c hc;split
   ·rename_i hp
    apply tp;intro hu;have:=hu.le hP;have:=(iE hP (eA.2 hp)).1;omega
   ·rfl
  ·rw [tp e,Nat.zero_add]
   by_cases hu:kM P i n
   ·obtain⟨c,hc,Nb⟩:=hu.child e
    rw [sy hu,zP (k:=c) Nb.XF]
    ·rw [if_pos (eA.1 hc),sy Nb]
    ·intro c' _ fL
     split
     ·rename_i hp
      exact tp fun h=>fL (kM.one hP hp (eA.1 hc) h Nb)
     ·rfl
   ·rw [tp hu,mv]
    intro c hc;split
    ·rename_i hp
     exact tp fun h=>hu (h.trans (.step hp (.refl hn)))
    ·rfl
 have e2:sz P n=jn (fun i=>ind (i=n)+jn (fun c=>if P[c]? =some (n:Int)then ind (kM P i c)else 0) P.length) P.length:=by
  unfold sz;exact ly e1
 rw [e2,zQ,zP (k:=n) hn (fun i _ h=>tp h),sy rfl,Fj]
 congr 1
 apply ly;intro c _;split
 ·rfl
 ·exact mv fun _ _=>rfl
theorem u9(hP:nJ P){n:Nat}(hn:n<P.length):1<=sz P n:=by rw [Co hP hn];omega
theorem xD(n:Nat):sz P n<=P.length:=by
 have:=KR (n:=P.length) (b:=1) (f:=fun i=>ind (kM P i n)) (fun i _=>PC _);unfold sz;omega
theorem DV(hP:nJ P){n:Nat}(hn:n<P.length):((kids P n).map (sz P)).sum+1=sz P n:=by
 unfold kids;rw [sT,Co hP hn,Nat.add_comm]
 congr 1
 apply ly;intro c _;by_cases h:P[c]? =some (n:Int)
 ·simp [h]
 ·simp [h]
noncomputable def part(P:List Int)(m j:Nat):Nat:=jn (fun c=>if P[c]? =some (j:Int)/\m<=c then sz P c else 0) P.length
theorem FK(j:Nat):part P P.length j=0:=mv fun c hc=>if_neg fun h=>by omega
theorem vw(hP:nJ P){m j:Nat}(hj:j<P.length)(hm:m<=j+1):part P m j+1=sz P j:=by
 rw [Co hP hj,Nat.add_comm]
 congr 1
 apply ly;intro c hc;by_cases h:P[c]? =some (j:Int)
 ·have:=(iE hP (eA.2 h)).1
  rw [if_pos ⟨h,by omega⟩,if_pos h]
 ·rw [if_neg (fun e=>h e.1),if_neg h]
theorem H4{n p:Nat}(h:P[n]? =some (p:Int)):part P n p=part P (n+1) p+sz P n:=by
 unfold part;apply HI (k:=n) (lgeS h).1
 ·intro i _ fL
  by_cases hi:P[i]? =some (p:Int)
  ·by_cases h2:n<=i
   ·rw [if_pos ⟨hi,h2⟩,if_pos ⟨hi,by omega⟩]
   ·rw [if_neg (fun e=>h2 e.2),if_neg (fun e=>by omega)]
  ·rw [if_neg (fun e=>hi e.1),if_neg (fun e=>hi e.1)]
 ·rw [if_pos ⟨h,Nat.le_refl _⟩,if_neg (fun e=>by omega),Nat.zero_add]
theorem CA{n j:Nat}(h:P[n]? ≠some (j:Int)):part P n j=part P (n+1) j:=by
 unfold part;apply ly;intro i _;by_cases hi:P[i]? =some (j:Int)
 ·have:i≠n:=fun e=>h (e▸hi)
  by_cases h2:n<=i
  ·rw [if_pos ⟨hi,h2⟩,if_pos ⟨hi,by omega⟩]
  ·rw [if_neg (fun e=>h2 e.2),if_neg (fun e=>by omega)]
 ·rw [if_neg (fun e=>hi e.1),if_neg (fun e=>hi e.1)]
noncomputable def iS(P:List Int)(m j:Nat):Nat:=if m<=j then sz P j else part P m j
theorem Cu(j:Nat)(hj:j<P.length):iS P P.length j=0:=by
 unfold iS;rw [if_neg (by omega),FK]
theorem Ac(j:Nat):iS P 0 j=sz P j:=by unfold iS;rw [if_pos (Nat.zero_le _)]
theorem FB(hP:nJ P){n:Nat}(hn:n<P.length):iS P (n+1) n+1=sz P n:=by
 unfold iS;rw [if_neg (by omega),vw hP hn (Nat.le_refl _)]
theorem FA(hP:nJ P){n p:Nat}(h:P[n]? =some (p:Int))(j:Nat):iS P n j=if j=p then iS P (n+1) p+sz P n else if j=n then sz P n else iS P (n+1) j:=by
 have hp:=(iE hP (eA.2 h)).1;unfold iS;by_cases e:j=p
 ·subst e
  rw [if_neg (by omega),if_pos rfl,if_neg (by omega),H4 h]
 ·rw [if_neg e]
  by_cases e2:j=n
  ·subst e2;rw [if_pos (Nat.le_refl _),if_pos rfl]
  ·rw [if_neg e2]
   by_cases h2:n<=j
   ·rw [if_pos h2,if_pos (by omega)]
   ·rw [if_neg h2,if_neg (by omega)]
    exact CA (fun h'=>e (by rw [h]at h';have:=Option.some.inj h';omega))
theorem FC(j:Nat):iS P 0 j=if j=0 then sz P 0 else iS P 1 j:=by
 rw [Ac];unfold iS;by_cases e:j=0
 ·subst e;rw [if_pos rfl]
 ·rw [if_neg e,if_pos (by omega)]
theorem DZ(hP:nJ P)(m j:Nat)(hj:j<P.length):iS P m j<=P.length:=by
 have h1:=xD (P:=P) j;unfold iS;split
 ·exact h1
 ·rename_i h
  have:=vw hP (m:=m) hj;by_cases h2:m<=j+1
  ·have:=this h2;omega
  ·
   have h3:part P m j<=part P 0 j:=by
    unfold part;have:∀(f g:Nat->Nat) (n:Nat),(∀i,i<n->f i<=g i)->jn f n<=jn g n:=by
     intro f g n h
     induction n with
     |zero=>simp [jn]
     |succ n ih=>
      simp only [jn];have:=ih (fun i hi=>h i (by omega));have:=h n (by omega);omega
    apply this;intro i _;split
    ·rename_i h4;rw [if_pos ⟨h4.1,Nat.zero_le _⟩];exact Nat.le_refl _
    ·exact Nat.zero_le _
   have:=vw hP (m:=0) hj (by omega);omega
end
theorem wO{α:Type}(f g:Nat->α){n k:Nat}{v:α}(hk:k<n)(h:∀i,i<n->g i=if i=k then v else f i):((List.range n).map f).set k v=(List.range n).map g:=by
 apply List.ext_getElem?;intro i;rw [List.getElem?_set];by_cases e:k=i
 ·subst e
  rw [if_pos rfl,if_pos (by simpa using hk)];simp [hk,h k hk]
 ·rw [if_neg e]
  rcases Nat.lt_or_ge i n with hi|hi
  ·have:=h i hi
   rw [if_neg (fun x=>e x.symm)]at this;simp [hi,this]
  ·rw [List.getElem?_eq_none (by simpa using hi),List.getElem?_eq_none (by simpa using hi)]
end Go.Proofs.YtfleamccglihoaaGreatDoor.Tr
namespace Go.bT
open Go.RowKit
theorem aR{σ:Type}(e:σ->Env)(I:σ->World->Prop)(μ:σ->World->Nat)(s:σ)(w:World)(Q:aO)(l:Nat)(ρ:Env)(w':World):bQ e I μ s w Q (.exit l) ρ w'=Q (.exit l) ρ w':=rfl
def zeroOf(P:Program)(e:TypeId):Option (Array Value):=
 match P.info? e with
 |some i=>match i.zero with
  |some z=>some z.cells
  |none=>none
 |none=>none
theorem Ig{P:Program}{t e:TypeId}{bytes:Nat}(T:zD P t e 1 bytes){z:Value}(hz:zeroOf P e=some #[z]){n:Nat}(hn:n<=maxLen)(hb:bytes*n<=281474976710656)(w:World):
 ∃w',(Instr.makeSlice t (.int .i64 (n:Int)) (.int .i64 (n:Int))).run P w=.ok (.slice (some ⟨w.heap.size,0,none⟩) n n) w'/\
  Row w' w.heap.size e 1 (some ⟨w.heap.size,0,none⟩) n n (List.replicate n z)/\Kept Nil w w':=by
 obtain⟨i,z',hi,zv,hs,KC,Eu⟩:=T.inf;have hc:z'.cells= #[z]:=by
  unfold zeroOf at hz;simp only [hi,zv]at hz;exact Option.some.inj hz
 obtain⟨w',hr,fE,hg⟩:=run_make_full (P:=P) (w:=w) w.heap.size t e i z' 1 T.pg hi zv hs .i64 .i64 n (by rw [KC];exact hb) hn (Nat.le_refl _);rw [hc,Nat.mul_one,toList_madeCells_one]at fE;exact⟨w',hr,fE,(Kept.refl Nil w).grown hg (fun k hk=>by cases hk)⟩
end Go.bT
namespace Go.Proofs.YtfleamccglihoaaGreatDoor.Tr
open Go.Proofs.Tryz
open Go Go.bT Go.RowKit
section
variable{w w':World}{S:Nat->Prop}{g:Nat}{T:List Nd}{d:Int}{K:Value->World->Prop}
theorem TV.bound{b c:Nat}{L:List (Nd×Value)}(h:TV w S g T d b c L):TV w (fun k=>S k/\k<w.heap.size) g T d b c L:= {
 top:=h.top
 fst:=h.fst
 row:=h.row
 rp:=fun i p hp=>let ⟨A,m,h1⟩:=h.rp i p hp;⟨A,m,h1.val,h1.row,fun k e=>⟨h1.la k e,let ⟨_,_,hc⟩:=Row.bI h1.row e;aQ hc⟩⟩
 apart:=h.apart
 iB:=⟨h.iB,aQ h.top⟩
 gD:=⟨h.gD,let ⟨_,hc⟩:=h.wE;aQ hc⟩}
theorem TV.mono{S':Nat->Prop}{b c:Nat}{L:List (Nd×Value)}(h:TV w S g T d b c L)(hs:∀k,S k->S' k):TV w S' g T d b c L:= {
 top:=h.top
 fst:=h.fst
 row:=h.row
 rp:=fun i p hp=>let ⟨A,m,h1⟩:=h.rp i p hp;⟨A,m,h1.val,h1.row,fun k e=>hs k (h1.la k e)⟩
 apart:=h.apart
 iB:=hs _ h.iB
 gD:=hs _ h.gD}
theorem ph.bound(h:ph w S g T d):ph w (fun k=>S k/\k<w.heap.size) g T d:=let ⟨b,c,L,h⟩:=h;⟨b,c,L,h.bound⟩
theorem ph.mono{S':Nat->Prop}(h:ph w S g T d)(hs:∀k,S k->S' k):ph w S' g T d:=let ⟨b,c,L,h⟩:=h;⟨b,c,L,h.mono hs⟩
def us(f:Nat->Nat)(n:Nat):List Value:=(List.range n).map fun j=>.int .u64 (f j:Int)
theorem pq(f:Nat->Nat){n j:Nat}(hj:j<n):(us f n)[j]? =some (.int .u64 (f j:Int)):=by simp [us,hj]
theorem po(f:Nat->Nat)(n:Nat):(us f n).length=n:=by simp [us]
theorem yu{f f':Nat->Nat}{n k:Nat}(hk:k<n)(h:∀i,i<n->i≠k->f' i=f i):(us f n).set k (.int .u64 (f' k:Int))=us f' n:=by
 unfold us;apply wO _ _ hk;intro i hi;by_cases e:i=k
 ·subst e;rw [if_pos rfl]
 ·rw [if_neg e,h i hi e]
theorem Ss:zD prog BR jb 1 8:=⟨by kernel_rfl,by kernel_rfl⟩
set_option maxRecDepth 100000 in
theorem Cm(h:ph w S g T d)(hP:nJ (bW T))(hlen:T.length<=1000000)
 (hK:∀w' A,Row w' w.heap.size jb 1 A T.length T.length (us (sz (bW T)) T.length)->Kept Nil w w'->K (.slice A T.length T.length) w'):
 bu prog bG.id #[.pointer (some ⟨g,0,none⟩)] w K:=by
 obtain⟨b,c,L,h0⟩:=h;have rL:=e9 T;obtain⟨w5,sA,jr,k5⟩:=Ig Ss (z:=.int .u64 0) (by kernel_rfl) (n:=T.length) (by unfold maxLen;omega) (by omega) w;refine bG.of (h0.go ⟨_,_,_,w5,sA,?_⟩);have h5:=h0.kept k5;refine h5.go ?_;generalize hA:(⟨w.heap.size,0,none⟩:Addr)=A at*;refine bG.cy (e:=some A) (i:=T.length) (I:=fun i w'=>∃m:Nat,i=(T.length:Int)-m/\m<=T.length/\Row w' w.heap.size jb 1 (some A) T.length T.length (us (iS (bW T) m) T.length)/\Kept Nil w w')
  (μ:=fun i _=>((T.length:Int)-i).toNat) (s:=0) ⟨T.length,by omega,Nat.le_refl _,?_,k5⟩ ?_
 ·have:List.replicate T.length (Value.int .u64 0)=us (iS (bW T) T.length) T.length:=by
   apply List.ext_getElem?;intro j;rcases Nat.lt_or_ge j T.length with hj|hj
   ·rw [pq _ hj,<-rL,Cu j (by omega)]
    simp [rL,hj]
   ·rw [List.getElem?_eq_none (by simpa using hj),List.getElem?_eq_none (by rw [po];exact hj)]
  rw [<-this];exact jr
 ·rintro i w' ⟨m,rfl,hm,row,kw⟩
  have h':=h0.kept kw;refine Split.dec (fun cU=>?_) (fun gH=>?_)
  ·
   obtain⟨n,rfl⟩:∃n,m=n+1:=⟨m-1,by omega⟩;have hn:n<T.length:=by omega
   refine h'.go ?_;have ew:i64.wrap (i64.wrap ((T.length:Int)-1)-((T.length:Int)-((n+1:Nat):Int)))=(n:Int):=by
    rw [gQ (x:=(T.length:Int)-1) (by omega) (by omega),gQ (by omega) (by omega)];omega
   rw [ew];have hb:0<=(n:Int)/\(n:Int)<(T.length:Int):=⟨by omega,by omega⟩;subst hA;have U7:n<(us (iS (bW T) (n+1)) T.length).length:=by rw [po];exact hn
   refine⟨hb,_,by rw [mR,Int.toNat_natCast,Nat.mul_one];exact Row.cell row (pq _ hn),hb,by rw [mR,Int.toNat_natCast,Nat.mul_one];exact Row.wr row U7,?_⟩;intro sN;have e18:sN=w'.setCell ⟨w.heap.size,n,none⟩ (.int .u64 (u64.wrap ((iS (bW T) (n+1) n:Int)+1))):=by simp only [sN,mR,Int.toNat_natCast,Nat.mul_one]
   have afn:=FB hP (n:=n) (by omega);have hle:iS (bW T) (n+1) n<=(bW T).length:=DZ hP _ _ (by omega);have kV:=Row.set row U7 (.int .u64 (u64.wrap ((iS (bW T) (n+1) n:Int)+1)));rw [<-e18]at kV;have Ge:Kept Nil w sN:=by rw [e18];exact kw.setCell (fun hh=>absurd hh (Nat.lt_irrefl _)) _
   clear_value sN;rw [fT (x:=(iS (bW T) (n+1) n:Int)+1) (by omega) (by omega)]at kV;rw [show(iS (bW T) (n+1) n:Int)+1=((if n=n then sz (bW T) n else iS (bW T) (n+1) n:Nat):Int)from by rw [if_pos rfl];omega,
    yu (f':=fun j=>if j=n then sz (bW T) n else iS (bW T) (n+1) j) hn (fun i _ fL=>by rw [if_neg fL])]at kV
   have h18:=h0.kept Ge;obtain⟨nd,gB⟩:=gu hn;obtain⟨v,hv⟩:=h18.at_ gB;refine h18.go ⟨hb,h18.JF hv ?_⟩;have lj:=lP gB;refine Split.dec (fun hp=>?_) (fun hp=>?_)
   ·
    have Gq:0<n:=by
     rcases Nat.eq_zero_or_pos n with rfl|h
     ·rw [hP.root]at lj;have:=Option.some.inj lj;omega
     ·exact h
    obtain⟨p,LC,ep⟩:=hP.up n _ Gq lj;rw [ep]at hp⊢;have hpp:(bW T)[n]? =some (p:Int):=by rw [lj,ep]
    intro Kn;have Kq:Kept Nil w Kn:=Ge.drew;have D6:Row Kn w.heap.size jb 1 (some ⟨w.heap.size,0,none⟩) T.length T.length (us (fun j=>if j=n then sz (bW T) n else iS (bW T) (n+1) j) T.length):=kV;clear_value Kn;have NI:0<=(p:Int)/\(p:Int)<(T.length:Int):=⟨by omega,by omega⟩;have U5:p<(us (fun j=>if j=n then sz (bW T) n else iS (bW T) (n+1) j) T.length).length:=by rw [po];omega
    have gp:=pq (fun j=>if j=n then sz (bW T) n else iS (bW T) (n+1) j) (n:=T.length) (j:=p) (by omega);have gn:=pq (fun j=>if j=n then sz (bW T) n else iS (bW T) (n+1) j) (n:=T.length) (j:=n) (by omega);simp only [if_neg (show p≠n by omega)]at gp;simp only [if_pos]at gn;refine⟨NI,_,by rw [mR,Int.toNat_natCast,Nat.mul_one];exact Row.cell D6 gp,hb,_,by rw [mR,Int.toNat_natCast,Nat.mul_one];exact Row.cell D6 gn,NI,by rw [mR,Int.toNat_natCast,Nat.mul_one];exact Row.wr D6 U5,?_⟩;intro wL;have e29:wL=Kn.setCell ⟨w.heap.size,p,none⟩ (.int .u64 (u64.wrap ((iS (bW T) (n+1) p:Int)+(sz (bW T) n:Int)))):=by simp only [wL,mR,Int.toNat_natCast,Nat.mul_one]
    have HU:=Row.set D6 U5 (.int .u64 (u64.wrap ((iS (bW T) (n+1) p:Int)+(sz (bW T) n:Int))));rw [<-e29]at HU;have G8:Kept Nil w wL:=by rw [e29];exact Kq.setCell (fun hh=>absurd hh (Nat.lt_irrefl _)) _
    clear_value wL;have ajr:iS (bW T) (n+1) p<=(bW T).length:=DZ hP _ _ (by omega);have ajq:sz (bW T) n<=(bW T).length:=xD _;have qG:=FA hP hpp;have Bb:=qG p;rw [if_pos rfl]at Bb;rw [fT (x:=(iS (bW T) (n+1) p:Int)+(sz (bW T) n:Int)) (by omega) (by omega),
     show(iS (bW T) (n+1) p:Int)+(sz (bW T) n:Int)=(iS (bW T) n p:Int)from by omega,
     yu (f':=iS (bW T) n) (by omega) (fun i _ fL=>by rw [qG i,if_neg fL])]at HU
    rw [gQ (x:=(T.length:Int)-((n+1:Nat):Int)+1) (by omega) (by omega)];exact⟨_,rfl,⟨n,by omega,by omega,HU,G8⟩,by simp only;omega⟩
   ·
    have Gq:n=0:=by
     rcases Nat.eq_zero_or_pos n with h|h
     ·exact h
     ·obtain⟨p,_,ep⟩:=hP.up n _ h lj
      omega
    subst Gq;have:us (fun j=>if j=0 then sz (bW T) 0 else iS (bW T) (0+1) j) T.length=us (iS (bW T) 0) T.length:=by
     congr 1
     funext j
     rw [FC]
    rw [this]at kV;rw [gQ (x:=(T.length:Int)-((0+1:Nat):Int)+1) (by omega) (by omega)];exact⟨_,rfl,⟨0,by omega,by omega,kV,Ge⟩,by simp only;omega⟩
  ·have:m=0:=by omega
   subst this;rw [aR,bG.df];refine hK w' (some A) ?_ kw;have e:iS (bW T) 0=sz (bW T):=funext Ac;rw [e]at row;exact row
end
section
variable{w:World}{K:Value->World->Prop}
theorem bu.Ap{f:FuncId}{args:Array Value}{v:Value}(h:Calls prog f args w fun e w'=>e=.returned v/\w'=w)(hK:K v w):bu prog f args w K:=
 h.mono fun e w' ⟨he,hw⟩=>⟨v,he,by rw [hw];exact hK⟩
theorem xm(x y:Nat)(hx:x<18446744073709551616)(hy:y<18446744073709551616)
 (hK:K (.tuple #[.int .u64 ((x*y/18446744073709551616:Nat):Int),.int .u64 ((x*y%18446744073709551616:Nat):Int)]) w):
 bu prog bits_Mul64.id #[.int .u64 x,.int .u64 y] w K:=bu.Ap (Any.bits_Mul64 Tryz.K7 x y hx hy w) hK
theorem xn(x:Nat)(hx:x<18446744073709551616)(hK:K (.int .i64 (Lib.bitLen x)) w):bu prog bits_Len64.id #[.int .u64 x] w K:=
 bu.Ap (Any.bits_Len64 Tryz.K8 x w (by omega) (by omega)) hK
end
theorem p7:∀(f x:Nat),x<2 ^ f->x<2 ^ (Lib.bitLenAux f x)/\(x≠0->2 ^ (Lib.bitLenAux f x)<=2*x)
 |0,x,h=>by simp at h;subst h;simp [Lib.bitLenAux]
 |f+1,x,h=>by
  unfold Lib.bitLenAux;by_cases e:x=0
  ·simp [e]
  ·rw [if_neg e]
   have ih:=p7 f (x/2) (by rw [Nat.pow_succ]at h;omega);rw [Nat.pow_add,Nat.pow_one];refine⟨by omega,fun _=>?_⟩;by_cases e2:x/2=0
   ·have:x=1:=by omega
    subst this;cases f<;>simp [Lib.bitLenAux]
   ·have:=ih.2 e2
    omega
theorem bitLen_spec{y:Nat}(h0:y≠0)(hy:y<18446744073709551616):1<=Lib.bitLen y/\Lib.bitLen y<=64/\9223372036854775808<=y*2 ^ (64-Lib.bitLen y)/\y*2 ^ (64-Lib.bitLen y)<18446744073709551616:=by
 have hs:=p7 64 y (by omega);have hle:=Lib.bitLenAux_le 64 y 64 (by omega)
 change Lib.bitLen y<=64 at hle
 change y<2 ^ (Lib.bitLen y)/\(y≠0->2 ^ (Lib.bitLen y)<=2*y)at hs
 have uS:=hs.2 h0;have hp:2 ^ Lib.bitLen y*2 ^ (64-Lib.bitLen y)=18446744073709551616:=by
  rw [<-Nat.pow_add,show Lib.bitLen y+(64-Lib.bitLen y)=64 by omega]
 have jK:0<2 ^ (64-Lib.bitLen y):=Nat.pow_pos (by omega);refine⟨?_,hle,?_,?_⟩
 ·rcases Nat.eq_zero_or_pos (Lib.bitLen y)with e|e
  ·rw [e]at hs;simp at hs;omega
  ·exact e
 ·have:=Nat.mul_le_mul_right (2 ^ (64-Lib.bitLen y)) uS
  rw [hp,Nat.mul_assoc]at this;omega
 ·rw [<-hp]
  exact Nat.mul_lt_mul_of_pos_right hs.1 jK
section
variable{Y n1 n0 u u1 q r:Nat}
theorem JK(hY:Y=n1*4294967296+n0):q*Y=q*n1*4294967296+q*n0:=by rw [hY,Nat.mul_add,Nat.mul_assoc]
theorem dg1(hY:Y=n1*4294967296+n0)(hq:q*n1+r=u)(h:q*n0<=4294967296*r+u1):q*Y<=u*4294967296+u1:=by rw [JK hY];omega
theorem dg2(hY:Y=n1*4294967296+n0)(hq:q*n1+r=u)(h:4294967296*r+u1<q*n0):u*4294967296+u1<q*Y:=by rw [JK hY];omega
theorem dg3(hu:u<Y)(Ku:u1<4294967296)(h:4294967296<=q):u*4294967296+u1<q*Y:=by
 have:=Nat.mul_le_mul_right Y h;omega
theorem dg4(hY:Y=n1*4294967296+n0)(Gq:n0<4294967296)(hu:u<Y)(hq:q*n1+r=u)(hr:4294967296<=r):q*Y<=u*4294967296+u1:=by
 have h1:q*n1<4294967296*n1:=by omega
 have h2:q<4294967296:=Nat.lt_of_mul_lt_mul_right h1;have h3:q*n0<=4294967296*4294967296:=Nat.mul_le_mul (by omega) (by omega);rw [JK hY];omega
theorem Ob(hu:u<Y)(Ku:u1<4294967296)(h:q*Y<=u*4294967296+u1):q<4294967296:=by
 rcases Nat.lt_or_ge q 4294967296 with h'|h'
 ·exact h'
 ·have:=dg3 hu Ku h';omega
theorem BF(Hd:2147483648<=n1)(hu:u<18446744073709551616)(hq:q*n1+r=u):q<8589934592:=by
 rcases Nat.lt_or_ge q 8589934592 with h|h
 ·exact h
 ·have:=Nat.mul_le_mul h Hd
  omega
end
theorem GD{Y n1 n0 u u1:Nat}{quo rem s Hz Sm:Int}{Q:aO}{w:World}(hY:Y=n1*4294967296+n0)(Gq:n0<4294967296)(Hd:2147483648<=n1)(LL:n1<4294967296)(hu:u<Y)(hY':Y<18446744073709551616)(Ku:u1<4294967296)
 (hex:∀q r:Nat,q*Y<=u*4294967296+u1->u*4294967296+u1<(q+1)*Y->Q (.exit 0) (bg.e1 (Y:Int) quo rem s n1 n0 Hz u1 Sm ((q:Int),(r:Int))) w)
 (q0 r0:Nat) (h0:q0*n1+r0=u) (hX0:u*4294967296+u1<(q0+1)*Y) (sC:r0<4294967296):
 Holds none [] prog 135 (.loop (lB (bB (sL (sR (sR (sR (sR (sR (sR (sR (sR (sR (sR (sR (sR (sR (sR (body bg.fn))))))))))))))))))) Q (bg.e1 (Y:Int) quo rem s n1 n0 Hz u1 Sm ((q0:Int),(r0:Int))) w:=by
 refine bg.cy (I:=fun s w'=>w'=w/\∃q r:Nat,s=((q:Int),(r:Int))/\q*n1+r=u/\u*4294967296+u1<(q+1)*Y/\r<4294967296)
  (μ:=fun s _=>s.1.toNat) (s:=((q0:Int),(r0:Int))) ⟨rfl,q0,r0,rfl,h0,hX0,sC⟩ ?_
 rintro s w' ⟨hw,q,r,rfl,hq,hX,hr⟩;subst hw;have aa3:=BF Hd (by omega) hq;have down:u*4294967296+u1<q*Y->∃q' r':Nat,u64.wrap ((q:Int)-1)=(q':Int)/\u64.wrap ((r:Int)+(n1:Int))=(r':Int)/\q'*n1+r'=u/\u*4294967296+u1<(q'+1)*Y/\q'<q:=by
  intro h;have Nn:1<=q:=by
   rcases Nat.eq_zero_or_pos q with e|e
   ·rw [e]at h;omega
   ·exact e
  refine⟨q-1,r+n1,?_,?_,?_,?_,by omega⟩
  ·rw [fT (by omega) (by omega)];omega
  ·rw [fT (by omega) (by omega)];omega
  ·have:q*n1=(q-1)*n1+n1:=by
    obtain⟨k,rfl⟩:∃k,q=k+1:=⟨q-1,by omega⟩;rw [Nat.succ_mul];rfl
   omega
  ·rwa [show q-1+1=q by omega]
 have step:∀q' r':Nat,q'*n1+r'=u->u*4294967296+u1<(q'+1)*Y->q'<q->∀b:Bool,b=decide ((r':Int)>=4294967296)->
  Split b (Q (.exit 0) (bg.e1 (Y:Int) quo rem s n1 n0 Hz u1 Sm ((q':Int),(r':Int))) w') (bQ (bg.e1 (Y:Int) quo rem s n1 n0 Hz u1 Sm) (fun s jm=>jm=w'/\∃q r:Nat,s=((q:Int),(r:Int))/\q*n1+r=u/\u*4294967296+u1<(q+1)*Y/\r<4294967296) (fun s _=>s.1.toNat) ((q:Int),(r:Int)) w' Q .normal (bg.e1 (Y:Int) quo rem s n1 n0 Hz u1 Sm ((q':Int),(r':Int))) w'):=by
  intro q' r' h1 h2 h3 b hb;subst hb;refine Split.dec (fun gH=>?_) (fun cU=>?_)
  ·exact hex q' r' (dg4 hY Gq hu h1 (by omega)) h2
  ·exact⟨_,rfl,⟨rfl,q',r',rfl,h1,h2,by omega⟩,by simp only;omega⟩
 refine Split.dec (fun gH=>?_) (fun cU=>?_)
 ·obtain⟨q',r',eq,er,h1,h2,h3⟩:=down (dg3 hu Ku (by simp only at gH;omega))
  simp only [eq,er];exact step q' r' h1 h2 h3 _ rfl
 ·simp only at cU
  have hqn:q*n0<18446744073709551616:=by
   have:q*n0<=4294967295*4294967295:=Nat.mul_le_mul (by omega) (by omega);omega
  have e1:u64.wrap ((q:Int)*(n0:Int))=((q*n0:Nat):Int):=by rw [<-Int.natCast_mul,fT (by omega) (by omega)]
  have e2:u64.wrap (u64.wrap (4294967296*(r:Int))+(u1:Int))=((4294967296*r+u1:Nat):Int):=by
   rw [fT (x:=4294967296*(r:Int)) (by omega) (by omega),fT (by omega) (by omega)];omega
  simp only [e1,e2];refine Split.dec (fun xZ=>?_) (fun hle=>?_)
  ·obtain⟨q',r',eq,er,h1,h2,h3⟩:=down (dg2 hY hq (by omega))
   simp only [eq,er];exact step q' r' h1 h2 h3 _ rfl
  ·exact hex q r (dg1 hY hq (by omega)) hX
theorem GC{Y n1 n0 u u1:Nat}{quo rem s q1 HA:Int}{Q:aO}{w:World}(hY:Y=n1*4294967296+n0)(Gq:n0<4294967296)(Hd:2147483648<=n1)(LL:n1<4294967296)(hu:u<Y)(hY':Y<18446744073709551616)(Ku:u1<4294967296)
 (hex:∀q r:Nat,q*Y<=u*4294967296+u1->u*4294967296+u1<(q+1)*Y->Q (.exit 2) (bg.e2 (Y:Int) quo rem s n1 n0 u1 q1 HA ((r:Int),(q:Int))) w)
 (q0 r0:Nat) (h0:q0*n1+r0=u) (hX0:u*4294967296+u1<(q0+1)*Y) (sC:r0<4294967296):
 Holds none [] prog 135 (.loop (lB (bB (sL (sR (sR (sR (sR (sR (sR (sR (sR (sR (sR (sR (sR (sR (sR (sR (sR (sR (sR (body bg.fn))))))))))))))))))))))) Q (bg.e2 (Y:Int) quo rem s n1 n0 u1 q1 HA ((r0:Int),(q0:Int))) w:=by
 refine bg.iq (I:=fun s w'=>w'=w/\∃q r:Nat,s=((r:Int),(q:Int))/\q*n1+r=u/\u*4294967296+u1<(q+1)*Y/\r<4294967296)
  (μ:=fun s _=>s.2.toNat) (s:=((r0:Int),(q0:Int))) ⟨rfl,q0,r0,rfl,h0,hX0,sC⟩ ?_
 rintro s w' ⟨hw,q,r,rfl,hq,hX,hr⟩;subst hw;have aa3:=BF Hd (by omega) hq;have down:u*4294967296+u1<q*Y->∃q' r':Nat,u64.wrap ((q:Int)-1)=(q':Int)/\u64.wrap ((r:Int)+(n1:Int))=(r':Int)/\q'*n1+r'=u/\u*4294967296+u1<(q'+1)*Y/\q'<q:=by
  intro h;have Nn:1<=q:=by
   rcases Nat.eq_zero_or_pos q with e|e
   ·rw [e]at h;omega
   ·exact e
  refine⟨q-1,r+n1,?_,?_,?_,?_,by omega⟩
  ·rw [fT (by omega) (by omega)];omega
  ·rw [fT (by omega) (by omega)];omega
  ·have:q*n1=(q-1)*n1+n1:=by
    obtain⟨k,rfl⟩:∃k,q=k+1:=⟨q-1,by omega⟩;rw [Nat.succ_mul];rfl
   omega
  ·rwa [show q-1+1=q by omega]
 have step:∀q' r':Nat,q'*n1+r'=u->u*4294967296+u1<(q'+1)*Y->q'<q->∀b:Bool,b=decide ((r':Int)>=4294967296)->
  Split b (Q (.exit 2) (bg.e2 (Y:Int) quo rem s n1 n0 u1 q1 HA ((r':Int),(q':Int))) w') (bQ (bg.e2 (Y:Int) quo rem s n1 n0 u1 q1 HA) (fun s jm=>jm=w'/\∃q r:Nat,s=((r:Int),(q:Int))/\q*n1+r=u/\u*4294967296+u1<(q+1)*Y/\r<4294967296) (fun s _=>s.2.toNat) ((r:Int),(q:Int)) w' Q .normal (bg.e2 (Y:Int) quo rem s n1 n0 u1 q1 HA ((r':Int),(q':Int))) w'):=by
  intro q' r' h1 h2 h3 b hb;subst hb;refine Split.dec (fun gH=>?_) (fun cU=>?_)
  ·exact hex q' r' (dg4 hY Gq hu h1 (by omega)) h2
  ·exact⟨_,rfl,⟨rfl,q',r',rfl,h1,h2,by omega⟩,by simp only;omega⟩
 refine Split.dec (fun gH=>?_) (fun cU=>?_)
 ·obtain⟨q',r',eq,er,h1,h2,h3⟩:=down (dg3 hu Ku (by simp only at gH;omega))
  simp only [eq,er];exact step q' r' h1 h2 h3 _ rfl
 ·simp only at cU
  have hqn:q*n0<18446744073709551616:=by
   have:q*n0<=4294967295*4294967295:=Nat.mul_le_mul (by omega) (by omega);omega
  have e1:u64.wrap ((q:Int)*(n0:Int))=((q*n0:Nat):Int):=by rw [<-Int.natCast_mul,fT (by omega) (by omega)]
  have e2:u64.wrap (u64.wrap (4294967296*(r:Int))+(u1:Int))=((4294967296*r+u1:Nat):Int):=by
   rw [fT (x:=4294967296*(r:Int)) (by omega) (by omega),fT (by omega) (by omega)];omega
  simp only [e1,e2];refine Split.dec (fun xZ=>?_) (fun hle=>?_)
  ·obtain⟨q',r',eq,er,h1,h2,h3⟩:=down (dg2 hY hq (by omega))
   simp only [eq,er];exact step q' r' h1 h2 h3 _ rfl
  ·exact hex q r (dg1 hY hq (by omega)) hX
theorem Xf(a:Nat)(ha:a<18446744073709551616):u64.wrap ((BitVec.ofInt 64 (a:Int)&&& BitVec.ofInt 64 (4294967295:Int)).toNat:Int)=((a%4294967296:Nat):Int):=by
 have h:=bits_and_u64_nat a 4294967295 ha (by omega);have e:a&&& 4294967295=a%4294967296:=Nat.and_two_pow_sub_one_eq_mod a 32;rw [e]at h;exact h
theorem orN(a b s:Nat)(ha:a*2 ^ s<18446744073709551616)(hb:b<2 ^ s)(xh:b<18446744073709551616):
 u64.wrap ((BitVec.ofInt 64 ((a*2 ^ s:Nat):Int)|||BitVec.ofInt 64 (b:Int)).toNat:Int)=((a*2 ^ s+b:Nat):Int):=by
 have h:=bits_or_u64_nat (a*2 ^ s) b ha xh;rw [Nat.mul_comm,<-Nat.two_pow_add_eq_or_of_lt hb,Nat.mul_comm]at h;exact h
theorem Sv(a k:Nat):Int.fdiv (a:Int) (2 ^ k)=((a/2 ^ k:Nat):Int):=by
 rw [Int.fdiv_eq_ediv_of_nonneg _ (by exact Int.le_of_lt (Int.pow_pos (by omega)))];rw [Int.natCast_ediv,Int.natCast_pow];rfl
theorem Zg(a k:Nat):(a:Int)*2 ^ k=((a*2 ^ k:Nat):Int):=by rw [Int.natCast_mul,Int.natCast_pow];rfl
theorem adv{N u L u1 u0 v a b:Nat}(hN:N=u*18446744073709551616+L)(hL:L=u1*4294967296+u0)(hv:u*4294967296+u1-a=v)(ha:a<=u*4294967296+u1)(hb:b<=v*4294967296+u0):a*4294967296+b<=N:=by omega
theorem adu{N u L u1 u0 v a b:Nat}(hN:N=u*18446744073709551616+L)(hL:L=u1*4294967296+u0)(hv:u*4294967296+u1-a=v)(ha:a<=u*4294967296+u1)(hb:v*4294967296+u0<b):N<a*4294967296+b:=by omega
section
variable{w:World}{K:Value->World->Prop}
theorem oJ(x:Nat)(hx:x<18446744073709551616)(hK:K (.int .i64 ((64-Lib.bitLen x:Nat):Int)) w):bu prog bits_LeadingZeros64.id #[.int .u64 x] w K:=by
 refine bits_LeadingZeros64.of (xn x hx ⟨_,rfl,?_⟩);have hle:=Lib.bitLen_le x 64 (by omega) (by omega)
 rwa [gQ (by omega) (by omega),show(64:Int)-(Lib.bitLen x:Int)=((64-Lib.bitLen x:Nat):Int)by omega]
theorem xo(hi lo y:Nat)(U8:lo<18446744073709551616)(hy:y<18446744073709551616)(hhi:hi<y)
 (hK:∀r w',Kept Nil w w'->K (.tuple #[.int .u64 (((hi*18446744073709551616+lo)/y:Nat):Int),.int .u64 r]) w'):
 bu prog bg.id #[.int .u64 hi,.int .u64 lo,.int .u64 y] w K:=by
 refine bg.of (Split.no (beq_eq_false_iff_ne.2 (by omega)) (Split.no (decide_eq_false (by omega)) ?_));by_cases h0:hi=0
 ·subst h0
  refine Split.yes rfl ?_;intro w6;refine⟨by omega,by omega,?_⟩;have e:u64.wrap ((lo:Int).tdiv (y:Int))=(((0*18446744073709551616+lo)/y:Nat):Int):=by
   rw [Int.tdiv_eq_ediv_of_nonneg (by omega),Nat.zero_mul,Nat.zero_add,<-Int.natCast_ediv];have:=Nat.div_le_self lo y;generalize lo/y=z at*;exact fT (by omega) (by omega)
  rw [e];exact hK _ w6 (Kept.refl Nil w).drew
 ·refine Split.no (beq_eq_false_iff_ne.2 (by omega)) (oJ y hy ⟨_,rfl,?_⟩)
  obtain⟨yY,acE,hY1,hY2⟩:=bitLen_spec (y:=y) (by omega) hy;have hs:64-Lib.bitLen y<64:=by omega
  generalize 64-Lib.bitLen y=s at*;have eS:u64.wrap (s:Int)=(s:Int):=fT (by omega) (by omega);have eS2:u64.wrap ((64:Int)-(s:Int))=((64-s:Nat):Int):=by rw [fT (by omega) (by omega)];omega
  have em1:min s 64=s:=by omega
  have em2:min (64-s) 64=64-s:=by omega
  have em3:min (32:Int).toNat 64=32:=rfl;have RM:2 ^ (64-s)*2 ^ s=18446744073709551616:=by rw [<-Nat.pow_add,show 64-s+s=64 by omega]
  have jK:0<2 ^ s:=Nat.pow_pos (by omega);have Uw:0<2 ^ (64-s):=Nat.pow_pos (by omega);simp only [eS,eS2,Int.toNat_natCast,em1,em2,em3,Zg];generalize hYd:y*2 ^ s=Y at*;have hhs:hi*2 ^ s<18446744073709551616:=by
   have:hi*2 ^ s<y*2 ^ s:=Nat.mul_lt_mul_of_pos_right hhi jK;omega
  have hlq:lo/2 ^ (64-s)<2 ^ s:=by
   rw [Nat.div_lt_iff_lt_mul Uw,Nat.mul_comm,RM];exact U8
  have abD:lo/2 ^ (64-s)<18446744073709551616:=Nat.lt_of_le_of_lt (Nat.div_le_self _ _) U8;have eY:u64.wrap (Y:Int)=(Y:Int):=fT (by omega) (by omega);have eH:u64.wrap ((hi*2 ^ s:Nat):Int)=((hi*2 ^ s:Nat):Int):=fT (by omega) (by omega);have eL:u64.wrap ((lo*2 ^ s:Nat):Int)=((lo*2 ^ s%18446744073709551616:Nat):Int):=by rw [IntKind.wrap_u64];omega
  have e32:∀a:Nat,Int.fdiv (a:Int) (2 ^ 32)=((a/4294967296:Nat):Int):=fun a=>Sv a 32;simp only [eY,eH,eL,e32,Sv lo,orN hi _ s hhs hlq abD,Xf Y (by omega),Xf _ (Nat.mod_lt (lo*2 ^ s) (by omega:18446744073709551616>0))];have hN:(hi*18446744073709551616+lo)*2 ^ s=(hi*2 ^ s+lo/2 ^ (64-s))*18446744073709551616+lo*2 ^ s%18446744073709551616:=by
   have h1:lo*2 ^ s/18446744073709551616=lo/2 ^ (64-s):=by
    rw [<-RM,Nat.mul_div_mul_right _ _ jK]
   have h2:=Nat.div_add_mod (lo*2 ^ s) 18446744073709551616;rw [h1]at h2;rw [Nat.add_mul,Nat.mul_right_comm];omega
  have akl:(hi*18446744073709551616+lo)*2 ^ s<Y*18446744073709551616:=by
   have h1:hi*18446744073709551616+lo<y*18446744073709551616:=by omega
   have:=Nat.mul_lt_mul_of_pos_right h1 jK;rw [Nat.mul_right_comm,hYd]at this;exact this
  have Nl:(hi*18446744073709551616+lo)*2 ^ s/Y=(hi*18446744073709551616+lo)/y:=by rw [<-hYd,Nat.mul_div_mul_right _ _ jK]
  rw [<-Nl]at hK;clear Nl;generalize (hi*18446744073709551616+lo)*2 ^ s=N at*;have hL:lo*2 ^ s%18446744073709551616<18446744073709551616:=Nat.mod_lt _ (by omega);generalize lo*2 ^ s%18446744073709551616=L at*;generalize hi*2 ^ s+lo/2 ^ (64-s)=u at*;have hu:u<Y:=by omega
  have Hd:2147483648<=Y/4294967296:=by omega
  have LL:Y/4294967296<4294967296:=by omega
  have Gq:Y%4294967296<4294967296:=by omega
  have hYe:Y=Y/4294967296*4294967296+Y%4294967296:=by omega
  have Ku:L/4294967296<4294967296:=by omega
  have hu0:L%4294967296<4294967296:=by omega
  have hLe:L=L/4294967296*4294967296+L%4294967296:=by omega
  generalize Y/4294967296=n1 at*;generalize Y%4294967296=n0 at*;generalize L/4294967296=u1 at*;generalize L%4294967296=u0 at*;have NZ:∀v:Nat,v<18446744073709551616->u64.wrap ((v:Int).tdiv (n1:Int))=((v/n1:Nat):Int)/\u64.wrap ((v:Int)-u64.wrap (((v/n1:Nat):Int)*(n1:Int)))=((v%n1:Nat):Int)/\v/n1*n1+v%n1=v/\v%n1<n1:=by
   intro v hv;have h1:=Nat.div_le_self v n1;have h2:=Nat.div_add_mod' v n1;refine⟨?_,?_,h2,Nat.mod_lt _ (by omega)⟩
   ·rw [Int.tdiv_eq_ediv_of_nonneg (by omega),<-Int.natCast_ediv]
    generalize v/n1=z at*;exact fT (by omega) (by omega)
   ·rw [<-Int.natCast_mul,fT (x:=((v/n1*n1:Nat):Int)) (by omega) (by omega),fT (by omega) (by omega)]
    omega
  have first:∀v d:Nat,v<Y->d<4294967296->v*4294967296+d<(v/n1+1)*Y:=by
   intro v d hv hd;have h2:=Nat.div_add_mod' v n1;have h3:=Nat.mod_lt v (show 0<n1 by omega);have h4:v+1<=(v/n1+1)*n1:=by rw [Nat.succ_mul];omega
   have h5:(v+1)*4294967296<=(v/n1+1)*n1*4294967296:=Nat.mul_le_mul_right _ h4;have h6:(v/n1+1)*n1*4294967296<=(v/n1+1)*Y:=by
    have h7:n1*4294967296<=Y:=Nat.le_trans (Nat.le_add_right _ n0) (Nat.le_of_eq hYe.symm);rw [Nat.mul_assoc];exact Nat.mul_le_mul_left _ h7
   omega
  obtain⟨g1,g2,g3,g4⟩:=NZ u (by omega);simp only [g1,g2];refine⟨by omega,by omega,by omega,by omega,by omega,by omega,by omega,?_⟩;refine GD hYe Gq Hd LL hu (by omega) Ku ?_ (u/n1) (u%n1) g3 (first u u1 hu Ku) (by omega);intro q r Nn RL;rw [show bg.e1 (Y:Int) 0 0 (s:Int) (n1:Int) (n0:Int) (u:Int) (u1:Int) (u0:Int) ((q:Int),(r:Int))= [(2,.int .u64 (Y:Int)),(6,.int .u64 0),(7,.int .u64 0),(8,.int .u64 (s:Int)),(9,.int .u64 (n1:Int)),(10,.int .u64 (n0:Int)),(11,.int .u64 (u:Int)),(13,.int .u64 (u1:Int)),(14,.int .u64 (u0:Int)),(15,.int .u64 (q:Int)),(16,.int .u64 (r:Int))]from rfl];rw [bg.df];have hqB:=Ob hu Ku Nn;rw [Nat.succ_mul]at RL;have hp:u64.wrap (u64.wrap (u64.wrap ((u:Int)*4294967296)+(u1:Int))-u64.wrap ((q:Int)*(Y:Int)))=((u*4294967296+u1-q*Y:Nat):Int):=by
   rw [<-Int.natCast_mul q Y];simp only [IntKind.wrap_u64];generalize q*Y=p at*;omega
  unfold bg.cV;simp only [hp];have hv:u*4294967296+u1-q*Y<Y:=by omega
  generalize hvd:u*4294967296+u1-q*Y=v at*;obtain⟨g1',YD,g3',g4'⟩:=NZ v (by omega);simp only [g1',YD];refine⟨by omega,?_⟩;refine GC hYe Gq Hd LL hv (by omega) hu0 ?_ (v/n1) (v%n1) g3' (first v u0 hv hu0) (by omega);intro q' r' Uv aa4;rw [show bg.e2 (Y:Int) 0 0 (s:Int) (n1:Int) (n0:Int) (u0:Int) (q:Int) (v:Int) ((r':Int),(q':Int))= [(2,.int .u64 (Y:Int)),(6,.int .u64 0),(7,.int .u64 0),(8,.int .u64 (s:Int)),(9,.int .u64 (n1:Int)),(10,.int .u64 (n0:Int)),(14,.int .u64 (u0:Int)),(15,.int .u64 (q:Int)),(16,.int .u64 (r':Int)),(17,.int .u64 (v:Int)),(18,.int .u64 (q':Int))]from rfl];rw [bg.kL];have aiY:=Ob hv hu0 Uv;refine⟨by omega,?_⟩;have aaJ:u64.wrap (u64.wrap ((q:Int)*4294967296)+(q':Int))=((N/Y:Nat):Int):=by
   rw [fT (x:=(q:Int)*4294967296) (by omega) (by omega),fT (by omega) (by omega)];have:N/Y=q*4294967296+q':=by
    apply Nat.div_eq_of_lt_le
    ·rw [Nat.add_mul,Nat.mul_right_comm]
     exact adv hN hLe hvd Nn Uv
    ·rw [Nat.add_assoc,Nat.add_mul,Nat.mul_right_comm]
     exact adu hN hLe hvd Nn aa4
   rw [this];omega
  rw [aaJ];exact hK _ w (Kept.refl Nil w)
end
end Go.Proofs.YtfleamccglihoaaGreatDoor.Tr
namespace Go.Proofs.YtfleamccglihoaaGreatDoor.Tr
open Go.Proofs.Tryz
structure lY(T T':List Nd):Prop where
 len:T'.length=T.length
 at_:∀(i:Nat) nd,T[i]? =some nd->∃nd',T'[i]? =some nd'/\nd'.parent=nd.parent/\nd'.ch=nd.ch
theorem lY.refl(T:List Nd):lY T T:=⟨rfl,fun _ nd h=>⟨nd,h,rfl,rfl⟩⟩
theorem lY.trans{T T' ET:List Nd}(h:lY T T')(h':lY T' ET):lY T ET:=⟨h'.len.trans h.len,fun i nd hi=>by
 obtain⟨nd',h1,h2,h3⟩:=h.at_ i nd hi;obtain⟨ZB,g1,g2,g3⟩:=h'.at_ i nd' h1;exact⟨ZB,g1,g2.trans h2,g3.trans h3⟩⟩
theorem lY.back{T T':List Nd}(h:lY T T'){i:Nat}{nd':Nd}(hi:T'[i]? =some nd'):∃nd,T[i]? =some nd/\nd'.parent=nd.parent/\nd'.ch=nd.ch:=by
 have cU:=(lgeS hi).1;obtain⟨nd,gB⟩:=gu (T:=T) (i:=i) (by rw [<-h.len];exact cU);obtain⟨x,h1,h2,h3⟩:=h.at_ i nd gB;rw [hi]at h1;cases h1;exact⟨nd,gB,h2,h3⟩
theorem lY.bW{T T':List Nd}(h:lY T T'):bW T'=bW T:=by
 apply List.ext_getElem?;intro i;rcases Nat.lt_or_ge i T.length with hi|hi
 ·obtain⟨nd,gB⟩:=gu hi
  obtain⟨nd',h1,h2,_⟩:=h.at_ i nd gB;rw [lP gB,lP h1,h2]
 ·rw [List.getElem?_eq_none (by rw [e9,h.len];exact hi),List.getElem?_eq_none (by rw [e9];exact hi)]
theorem lY.shape{T T':List Nd}(h:lY T T')(hS:Shape T):Shape T':=⟨by rw [h.bW];exact hS.par,fun i nd' hi=>by
 obtain⟨nd,gB,_,h3⟩:=h.back hi;rw [h.bW,h3,hS.ch i nd gB]⟩
theorem lY.set{T:List Nd}{i:Nat}{nd nd':Nd}(hi:T[i]? =some nd)(h1:nd'.parent=nd.parent)(h2:nd'.ch=nd.ch):lY T (T.set i nd'):=
 ⟨by simp,fun j x hj=>by
   by_cases e:i=j
   ·subst e
    rw [hi]at hj;cases hj;exact⟨nd',iW hi,h1,h2⟩
   ·exact⟨x,oH hj e,rfl,rfl⟩⟩
theorem x9{T:List Nd}{n p:Nat}{nd pd:Nd}{many:Int}(hn:T[n]? =some nd)(hp:T[p]? =some pd)(fL:n≠p)(i:Nat):
 (wc T n p nd pd many)[i]? =if i=p then some {pd with free:=pd.free+many}else if i=n then some {nd with lo:=pd.free,hi:=pd.free+many-1,free:=pd.free}else T[i]? :=by
 unfold wc;by_cases e:i=p
 ·subst e
  rw [if_pos rfl];exact iW (oH hp fL)
 ·rw [if_neg e,List.getElem?_set_ne (fun h=>e h.symm)]
  by_cases e2:i=n
  ·subst e2
   rw [if_pos rfl];exact iW hn
  ·rw [if_neg e2,List.getElem?_set_ne (fun h=>e2 h.symm)]
theorem v8{T:List Nd}{n p:Nat}{nd pd:Nd}(many:Int)(hn:T[n]? =some nd)(hp:T[p]? =some pd)(fL:n≠p):lY T (wc T n p nd pd many):=
 (lY.set (nd':= {nd with lo:=pd.free,hi:=pd.free+many-1,free:=pd.free}) hn rfl rfl).trans (lY.set (nd:=pd) (nd':= {pd with free:=pd.free+many}) (oH hp fL) rfl rfl)
theorem zU{l:List Nat}(hs:l.Pairwise (· < ·)){k c:Nat}(hc:l[k]? =some c):∀y,y∈l.take k->y<c:=by
 intro y hy;obtain⟨j,hj⟩:=List.mem_iff_getElem?.1 hy;rw [List.getElem?_take]at hj;split at hj
 ·rename_i cU
  obtain⟨h1,e1⟩:=lgeS hj;obtain⟨h2,e2⟩:=lgeS hc;rw [<-e1,<-e2];exact List.pairwise_iff_getElem.1 hs j k h1 h2 cU
 ·cases hj
theorem ow{l:List Nat}{k c:Nat}(hc:l[k]? =some c):l.take (k+1)=l.take k++ [c]:=by
 rw [List.take_add_one,hc];rfl
structure qg(P:List Int)(T1:List Nd)(x:Nat)(xd:Nd)(half:Int)(k:Nat)(T':List Nd)(f:Int):Prop where
 ox:lY T1 T'
 here:T'[x]? =some {xd with free:=f}
 rest:∀y,y≠x->y∉xd.ch.take k->T'[y]? =T1[y]?
 lo:xd.lo+(((xd.ch.take k).map (sz P)).sum:Nat)<=f
 up:(f-xd.lo-(((xd.ch.take k).map (sz P)).sum:Nat))*(sz P x:Int)<=half*(((xd.ch.take k).map (sz P)).sum:Nat)
 rp:∀c cd,c∈xd.ch.take k->T'[c]? =some cd->xd.lo<=cd.lo/\cd.hi<f/\(sz P c:Int)<=cd.hi-cd.lo+1
 ord:∀c c' cd wA,c∈xd.ch.take k->c'∈xd.ch.take k->c<c'->T'[c]? =some cd->T'[c']? =some wA->cd.hi<wA.lo
section
variable{P:List Int}{T1 T':List Nd}{x:Nat}{xd:Nd}{half f:Int}{k:Nat}
theorem qg.start(hx:T1[x]? =some xd)(hf:xd.free=xd.lo):qg P T1 x xd half 0 T1 xd.lo:= {
 ox:=lY.refl _
 here:=by obtain⟨a,b,c,d,e⟩:=xd;simp only at hf;subst hf;exact hx
 rest:=fun _ _ _=>rfl
 lo:=by simp
 up:=by simp
 rp:=fun c cd hc=>by simp at hc
 ord:=fun c c' cd wA hc=>by simp at hc}
theorem qg.bound(h:qg P T1 x xd half k T' f)(hh:0<=half)(RI:1<=sz P x)(IY:((xd.ch.take k).map (sz P)).sum<=sz P x):f<=xd.lo+(((xd.ch.take k).map (sz P)).sum:Nat)+half:=by
 have h1:half*(((xd.ch.take k).map (sz P)).sum:Nat)<=half*(sz P x:Int):=Int.mul_le_mul_of_nonneg_left (by omega) hh;have h2:=Int.le_trans h.up h1;have h3:=Int.le_of_mul_le_mul_right h2 (by omega);omega
theorem qg.step(h:qg P T1 x xd half k T' f)(hs:xd.ch.Pairwise (· < ·)){c:Nat}(hx:∀y,y∈xd.ch->x<y)(hc:xd.ch[k]? =some c){cd:Nd}(jZ:T'[c]? =some cd)
 {more:Int} (Ky:0<=more) (hm:more*(sz P x:Int)<=half*(sz P c:Int)) (Ew:1<=sz P c):
 qg P T1 x xd half (k+1) (wc T' c x cd {xd with free:=f} ((sz P c:Int)+more)) (f+((sz P c:Int)+more)):=by
 have cU:=zU hs hc;have hxc:x<c:=hx c (List.mem_of_getElem? hc);have UJ:c∉xd.ch.take k:=fun hh=>Nat.lt_irrefl _ (cU c hh);have gS:=x9 (many:=(sz P c:Int)+more) jZ h.here (by omega);have IY:((xd.ch.take (k+1)).map (sz P)).sum=((xd.ch.take k).map (sz P)).sum+sz P c:=by rw [ow hc];simp
 have iV:∀y,y∈xd.ch.take (k+1)↔y∈xd.ch.take k\/y=c:=by intro y;rw [ow hc];simp
 exact {
  ox:=h.ox.trans (v8 _ jZ h.here (by omega))
  here:=by rw [gS,if_pos rfl]
  rest:=fun y hy hn=>by
   rw [gS,if_neg hy,if_neg (fun e=>hn ((iV y).2 (.inr e)))];exact h.rest y hy (fun hh=>hn ((iV y).2 (.inl hh)))
  lo:=by rw [IY];have:=h.lo;omega
  up:=by
   rw [IY];have h1:=h.up;have e1:(f+((sz P c:Int)+more)-xd.lo-((((xd.ch.take k).map (sz P)).sum+sz P c:Nat):Int))*(sz P x:Int)=(f-xd.lo-((((xd.ch.take k).map (sz P)).sum:Nat):Int))*(sz P x:Int)+more*(sz P x:Int):=by
    rw [<-Int.add_mul];congr 1;omega
   have e2:half*((((xd.ch.take k).map (sz P)).sum+sz P c:Nat):Int)=half*((((xd.ch.take k).map (sz P)).sum:Nat):Int)+half*(sz P c:Int):=by
    rw [<-Int.mul_add];congr 1
   rw [e1,e2];omega
  rp:=fun y yd hy CO=>by
   have U8:=h.lo;rw [gS]at CO;rcases(iV y).1 hy with hh|rfl
   ·have h1:=cU y hh
    have h2:=hx y (List.mem_of_mem_take hh);rw [if_neg (by omega),if_neg (by omega)]at CO;have:=h.rp y yd hh CO;exact⟨this.1,by omega,this.2.2⟩
   ·rw [if_neg (by omega),if_pos rfl]at CO
    cases CO;refine⟨?_,?_,?_⟩<;>simp only<;>omega
  ord:=fun a b ad bd ha hb lI KD NN=>by
   rw [gS]at KD NN;rcases(iV b).1 hb with xh|rfl
   ·have h1:=cU b xh
    rcases(iV a).1 ha with Cb|rfl
    ·have h2:=hx a (List.mem_of_mem_take Cb)
     rw [if_neg (by omega),if_neg (by omega)]at KD NN;exact h.ord a b ad bd Cb xh lI KD NN
    ·omega
   ·rcases(iV a).1 ha with Cb|rfl
    ·have h1:=cU a Cb
     have h2:=hx a (List.mem_of_mem_take Cb);rw [if_neg (by omega),if_neg (by omega)]at KD;rw [if_neg (by omega),if_pos rfl]at NN;cases NN;exact(h.rp a ad Cb KD).2.1
    ·omega}
end
structure oh(P:List Int)(T0:List Nd)(m:Nat)(T':List Nd)(q:List Nat)(i:Nat):Prop where
 ox:lY T0 T'
 nodup:q.Nodup
 pg:∀y,y∈q->kM P y m
 fst:m∈q
 src:∀y,y∈q->y=m\/∃z:Nat,z∈q.take i/\P[y]? =some (z:Int)
 YJ:∀z,z∈q.take i->∀c,c∈kids P z->c∈q
 rest:∀y,y∉q->T'[y]? =T0[y]?
 top:∀md S8,T0[m]? =some md->T'[m]? =some S8->S8.lo=md.lo/\S8.hi=md.hi
 room:∀y yd,y∈q->T'[y]? =some yd->1<=yd.lo/\yd.hi<=4611686018427387904/\(sz P y:Int)<=yd.hi-yd.lo+1
 loc:∀z zd,z∈q.take i->T'[z]? =some zd->Loc T' zd
theorem oh.start{P:List Int}{T0:List Nd}{m:Nat}{md:Nd}(hm:m<P.length)(xY:T0[m]? =some md)(h1:1<=md.lo)(h2:md.hi<=4611686018427387904)(h3:(sz P m:Int)<=md.hi-md.lo+1):
 oh P T0 m T0 [m] 0:= {
 ox:=lY.refl _
 nodup:=by simp
 pg:=fun y hy=>by simp at hy;subst hy;exact .refl hm
 fst:=by simp
 src:=fun y hy=>by simp at hy;exact .inl hy
 YJ:=fun z hz=>by simp at hz
 rest:=fun _ _=>rfl
 top:=fun a b ha hb=>by rw [ha]at hb;cases hb;exact⟨rfl,rfl⟩
 room:=fun y yd hy CO=>by
  simp at hy;subst hy;rw [xY]at CO;cases CO;exact⟨h1,h2,h3⟩
 loc:=fun z zd hz=>by simp at hz}
section
variable{T0 T' ET:List Nd}{m x i:Nat}{q:List Nat}{xd:Nd}{f half:Int}
theorem oh.step(hS:Shape T0)(h:oh (bW T0) T0 m T' q i)(hq:q[i]? =some x)(Kr:T'[x]? =some xd)
 (EE:0<=half) (abQ:half*2<=xd.hi-xd.lo-((sz (bW T0) x:Int)-1))
 (fJ:qg (bW T0) (T'.set x {xd with free:=xd.lo}) x {xd with free:=xd.lo} half xd.ch.length ET f):
 oh (bW T0) T0 m ET (q++xd.ch) (i+1):=by
 have Yt:=h.ox.shape hS;have hpe:=h.ox.bW;have hP:=hS.par;have nH:xd.ch=kids (bW T0) x:=by rw [Yt.ch x xd Kr,hpe]
 have dV:i<q.length:=(lgeS hq).1;have IN:x∈q:=List.mem_of_getElem? hq;have uB:x<(bW T0).length:=(h.pg x IN).lt;have zw:q.take (i+1)=q.take i++ [x]:=ow hq;have PT:(q++xd.ch).take (i+1)=q.take i++ [x]:=by rw [List.take_append_of_le_length (by omega),zw]
 have M6:x∉q.take i:=by
  intro hh;have hn:(q.take i++ [x]).Nodup:=by rw [<-zw];exact h.nodup.sublist (List.take_sublist _ _)
  rw [List.nodup_append]at hn;exact hn.2.2 x hh x (by simp) rfl
 have Gr:∀c,c∈xd.ch->(bW T0)[c]? =some (x:Int):=fun c hc=>eA.1 (nH▸hc);have xZ:∀c,c∈xd.ch->x<c:=fun c hc=>(iE hP (nH▸hc)).1;have nu:∀c,c∈xd.ch->c∉q:=by
  intro c hc Yl;rcases h.src c Yl with rfl|⟨z,hz,Yd⟩
  ·have:=(h.pg x IN).le hP
   have:=xZ _ hc;omega
  ·rw [Gr c hc]at Yd
   have:z=x:=by have:=Option.some.inj Yd;omega
   exact M6 (this▸hz)
 have aie:x∉xd.ch:=fun hh=>Nat.lt_irrefl _ (xZ x hh);have di:∀c,c∈(({xd with free:=xd.lo}:Nd).ch.take xd.ch.length)↔c∈xd.ch:=by intro c;simp
 have IY:(xd.ch.map (sz (bW T0))).sum+1=sz (bW T0) x:=by
  rw [nH];exact DV hP uB
 have jK:=u9 hP uB;have RT:=fJ.bound EE jK (by simp only [List.take_length];omega);have ab2:=fJ.lo;simp only [List.take_length]at RT ab2;have ab3:f<=xd.hi:=by omega
 have hT1:∀y,y≠x->(T'.set x {xd with free:=xd.lo})[y]? =T'[y]? :=fun y hy=>List.getElem?_set_ne (fun e=>hy e.symm);have I7:∀y,y≠x->y∉xd.ch->ET[y]? =T'[y]? :=fun y hy hn=>by
  rw [fJ.rest y hy (fun hh=>hn ((di y).1 hh)),hT1 y hy]
 have NC:ET[x]? =some {xd with free:=f}:=fJ.here;have hxr:=h.room x xd IN Kr;have hlh:xd.lo<=xd.hi:=by omega
 have hold:∀y zF,y∉xd.ch->ET[y]? =some zF->∃yd,T'[y]? =some yd/\yd.lo=zF.lo/\yd.hi=zF.hi:=by
  intro y zF hn hy;by_cases e:y=x
  ·subst e
   rw [NC]at hy;cases hy;exact⟨xd,Kr,rfl,rfl⟩
  ·rw [I7 y e hn]at hy
   exact⟨zF,hy,rfl,rfl⟩
 exact {
  ox:=(h.ox.trans (lY.set (nd':= {xd with free:=xd.lo}) Kr rfl rfl)).trans fJ.ox
  nodup:=by
   rw [List.nodup_append];refine⟨h.nodup,?_,fun a ha b hb e=>nu b hb (e▸ha)⟩;rw [nH];exact(ub _ _).imp (fun h=>by omega)
  pg:=fun y hy=>by
   rcases List.mem_append.1 hy with hy|hy
   ·exact h.pg y hy
   ·exact .step (Gr y hy) (h.pg x IN)
  fst:=List.mem_append.2 (.inl h.fst)
  src:=fun y hy=>by
   rw [PT];rcases List.mem_append.1 hy with hy|hy
   ·rcases h.src y hy with e|⟨z,hz,Yd⟩
    ·exact .inl e
    ·exact .inr ⟨z,List.mem_append.2 (.inl hz),Yd⟩
   ·exact .inr ⟨x,by simp,Gr y hy⟩
  YJ:=fun z hz c hc=>by
   rw [PT]at hz;rcases List.mem_append.1 hz with hz|hz
   ·exact List.mem_append.2 (.inl (h.YJ z hz c hc))
   ·simp at hz
    subst hz;exact List.mem_append.2 (.inr (nH▸hc))
  rest:=fun y hy=>by
   have h1:y∉q:=fun hh=>hy (List.mem_append.2 (.inl hh));have h2:y∉xd.ch:=fun hh=>hy (List.mem_append.2 (.inr hh));rw [I7 y (fun e=>h1 (e▸IN)) h2,h.rest y h1]
  top:=fun md ZF xY UX=>by
   obtain⟨S8,h1,h2,h3⟩:=hold m ZF (fun hh=>nu m hh h.fst) UX;have:=h.top md S8 xY h1;omega
  room:=fun y zF hy M5=>by
   rcases List.mem_append.1 hy with hy|hy
   ·obtain⟨yd,h1,h2,h3⟩:=hold y zF (fun hh=>nu y hh hy) M5
    have:=h.room y yd hy h1;omega
   ·have:=fJ.rp y zF ((di y).2 hy) M5
    simp only at this;omega
  loc:=fun z zd hz hzd=>by
   rw [PT]at hz;rcases List.mem_append.1 hz with hz|hz
   ·have hzq:z∈q:=List.mem_of_mem_take hz
    have TY:z≠x:=fun e=>M6 (e▸hz);have PD:=hzd;rw [I7 z TY (fun hh=>nu z hh hzq)]at PD;have hl:=h.loc z zd hz PD;have aac:zd.ch=kids (bW T0) z:=by rw [Yt.ch z zd PD,hpe]
    have Ym:∀c,c∈zd.ch->c∉xd.ch:=by
     intro c hc KB;have h1:=Gr c KB;rw [eA.1 (aac▸hc:c∈kids (bW T0) z)]at h1;have:=Option.some.inj h1;omega
    exact {
     Hj:=hl.Hj
     Dj:=hl.Dj
     sub:=fun c cd hc jZ=>by
      obtain⟨wA,h1,h2,h3⟩:=hold c cd (Ym c hc) jZ;have:=hl.sub c wA hc h1;omega
     ord:=fun c c' cd wA hc tB x5 jZ rC=>by
      obtain⟨ed,h1,h2,h3⟩:=hold c cd (Ym c hc) jZ;obtain⟨Q7,rN,uE,Cc⟩:=hold c' wA (Ym c' tB) rC;have:=hl.ord c c' ed Q7 hc tB x5 h1 rN;omega}
   ·simp at hz
    subst hz;rw [NC]at hzd;cases hzd;exact {
     Hj:=by simp only;omega
     Dj:=ab3
     sub:=fun c cd hc jZ=>by
      have:=fJ.rp c cd ((di c).2 hc) jZ;simp only at this⊢;omega
     ord:=fun c c' cd wA hc tB x5 jZ rC=>fJ.ord c c' cd wA ((di c).2 hc) ((di c').2 tB) x5 jZ rC}}
theorem oh.fin(hS:Shape T0)(h:oh (bW T0) T0 m T' q i)(hi:q.length<=i)
 (UC:∀y nd,T0[y]? =some nd->¬kM (bW T0) y m->Iv nd/\Loc T0 nd):Good T':=by
 have Yt:=h.ox.shape hS;have hpe:=h.ox.bW;have hP:=hS.par;have zw:q.take i=q:=List.take_of_length_le hi;have qH:∀y,kM (bW T0) y m->y∈q:=by
  have:∀y k,kM (bW T0) y k->k=m->y∈q:=by
   intro y k hu
   induction hu with
   |refl=>intro e;subst e;exact h.fst
   | @step a b c hp h' ih=>intro e;exact h.YJ b (by rw [zw];exact ih e) a (eA.2 hp)
  exact fun y hu=>this y m hu rfl
 have hq:∀y,y∈q↔kM (bW T0) y m:=fun y=>⟨h.pg y,qH y⟩;refine⟨Yt,fun y yd CO=>?_,fun y yd CO=>?_⟩
 ·by_cases hy:y∈q
  ·have hr:=h.room y yd hy CO
   have:=u9 hP (h.pg y hy).lt;exact⟨hr.1,by omega,hr.2.1⟩
  ·rw [h.rest y hy]at CO
   exact(UC y yd CO (fun hu=>hy (qH y hu))).1
 ·by_cases hy:y∈q
  ·exact h.loc y yd (by rw [zw];exact hy) CO
  ·have PF:=CO
   rw [h.rest y hy]at PF;have hl:=(UC y yd PF (fun hu=>hy (qH y hu))).2;have nH:=hS.ch y yd PF;have hold:∀c cd,c∈yd.ch->T'[c]? =some cd->∃ed,T0[c]? =some ed/\ed.lo=cd.lo/\ed.hi=cd.hi:=by
    intro c cd hc jZ;by_cases Yl:c∈q
    ·have hpc:=eA.1 (nH▸hc:c∈kids (bW T0) y)
     have nz:c=m:=by
      by_cases e:c=m
      ·exact e
      ·exact absurd (qH y ((h.pg c Yl).inv e hpc)) hy
     subst nz;obtain⟨ed,hed,_⟩:=h.ox.back jZ;have:=h.top ed cd hed jZ;exact⟨ed,hed,by omega,by omega⟩
    ·rw [h.rest c Yl]at jZ
     exact⟨cd,jZ,rfl,rfl⟩
   exact {
    Hj:=hl.Hj
    Dj:=hl.Dj
    sub:=fun c cd hc jZ=>by
     obtain⟨ed,h1,h2,h3⟩:=hold c cd hc jZ;have:=hl.sub c ed hc h1;omega
    ord:=fun c c' cd wA hc tB x5 jZ rC=>by
     obtain⟨ed,h1,h2,h3⟩:=hold c cd hc jZ;obtain⟨Q7,rN,uE,Cc⟩:=hold c' wA tB rC;have:=hl.ord c c' ed Q7 hc tB x5 h1 rN;omega}
end
open Go Go.RowKit Go.bT
theorem O0{l:List Nat}{a:Nat}(h:a∈l):a<=l.sum:=by
 induction l with
 |nil=>simp at h
 |cons b l ih=>
  rw [List.sum_cons];rcases List.mem_cons.1 h with rfl|h
  ·omega
  ·have:=ih h;omega
theorem A8{l:List Nat}{j x:Nat}(h:l[j]? =some x):(ints l)[j]? =some (.int .i64 (x:Int)):=by simp [ints,h]
theorem IL(l:List Nat):(ints l).length=l.length:=by simp [ints]
theorem IK(l:List Nat):∀u∈ints l,u.oneCell'=true:=by
 intro u hu;simp only [ints,List.mem_map]at hu;obtain⟨x,_,rfl⟩:=hu;rfl
structure Dl(w0:World)(S:Nat->Prop)(g b c B0 B1 len:Nat)(P:List Int)(d:Int)(As:Option Addr)(w:World)(T':List Nd)(L:List (Nd×Value))(Aq:Option Addr)(nq cq:Nat)(q:List Nat):Prop where
 tv:TV w S g T' d b c L
 rs:Row w B0 jb 1 As len len (us (sz P) len)
 sb:∀k,a8 As=some k->k<B1
 rq:Row w B1 jV 1 Aq nq cq (ints q)
 kp:Kept S w0 w
 hS:∀k,S k->k<B0
 hB:B0<=B1
 Jz:B1<=w.heap.size
 h0:w0.heap.size<=B0
section
variable{w0 w w':World}{S:Nat->Prop}{g b c B0 B1 len:Nat}{P:List Int}{d:Int}{As:Option Addr}{T' ET:List Nd}{L L':List (Nd×Value)}{Aq:Option Addr}{nq cq:Nat}{q:List Nat}
theorem Dl.KX(h:Dl w0 S g b c B0 B1 len P d As w T' L Aq nq cq q):nq=q.length:=by
 have:=Row.len h.rq;rw [IL]at this;omega
theorem Dl.quiet(h:Dl w0 S g b c B0 B1 len P d As w T' L Aq nq cq q)(hk:Kept Nil w w'):Dl w0 S g b c B0 B1 len P d As w' T' L Aq nq cq q:= {
 tv:=h.tv.kept hk
 rs:=Row.aF h.rs hk (fun _ _ h=>h)
 sb:=h.sb
 rq:=Row.aF h.rq hk (fun _ _ h=>h)
 kp:=h.kp.trans hk (fun _ _ h=>h.elim)
 hS:=h.hS
 hB:=h.hB
 Jz:=Nat.le_trans h.Jz hk.size
 h0:=h.h0}
theorem Dl.wrote(h:Dl w0 S g b c B0 B1 len P d As w T' L Aq nq cq q)(hk:Kept (fun k=>k=b) w w')(ht:TV w' S g ET d b c L'):Dl w0 S g b c B0 B1 len P d As w' ET L' Aq nq cq q:= {
 tv:=ht
 rs:=Row.aF h.rs hk (fun k e e2=>by have:=(Row.bI h.rs e).1;have:=h.hS b h.tv.gD;omega)
 sb:=h.sb
 rq:=Row.aF h.rq hk (fun k e e2=>by have:=(Row.bI h.rq e).1;have:=h.hS b h.tv.gD;have:=h.hB;omega)
 kp:=h.kp.trans hk (fun k _ e=>by rw [e];exact h.tv.gD)
 hS:=h.hS
 hB:=h.hB
 Jz:=Nat.le_trans h.Jz hk.size
 h0:=h.h0}
theorem Dl.D9(h:Dl w0 S g b c B0 B1 len P d As w T' L Aq nq cq q){j:Nat}(hj:j<len){k:Int->Prop}(hk:k (sz P j)):
 Is As fun a=>∃t,w.cell? (a.add (j*1))=some (.int .u64 t)/\k t:=by
 have hr:=h.rs;obtain⟨b',rfl⟩:=Row.some hr (by omega);exact⟨_,by rw [mR,Nat.mul_one];exact Row.cell hr (pq _ hj),hk⟩
theorem Dl.SK(h:Dl w0 S g b c B0 B1 len P d As w T' L Aq nq cq q){j x:Nat}(hj:q[j]? =some x){k:Int->Prop}(hk:k x):
 Is Aq fun a=>∃t,w.cell? (a.add (j*1))=some (.int .i64 t)/\k t:=by
 have hr:=h.rq;have cU:=(lgeS hj).1;obtain⟨b',rfl⟩:=Row.some hr (by rw [h.KX];omega);exact⟨_,by rw [mR,Nat.mul_one];exact Row.cell hr (A8 hj),hk⟩
theorem Dl.push(h:Dl w0 S g b c B0 B1 len P d As w T' L Aq nq cq q)(vT:q.length<=4000000)(x:Nat){w1:World}(e1:w1=w.alloc (.cells #[.int .i64 (x:Int)] jV)):
 ∃KK KG w2,(Builtin.append_ #[jE,jE] jE #[.slice Aq nq cq,.slice (some ⟨w.heap.size,0,none⟩) 1 1]).run prog w1=.ok (.slice KK (nq+1) KG) w2/\
  Dl w0 S g b c B0 B1 len P d As w2 T' L KK (nq+1) KG (q++ [x])/\(∀S0:Nat->Prop,(∀k,a8 Aq=some k->S0 k)->Kept S0 w w2):=by
 subst e1;generalize Ks:w.alloc (.cells #[.int .i64 (x:Int)] jV)=w1;have nu:w1.heap[w.heap.size]? =some (.cells #[.int .i64 (x:Int)] jV (0,0)):=by rw [<-Ks];exact aI w _
 have k1:Kept Nil w w1:=by rw [<-Ks];exact(Kept.refl Nil w).alloc _
 have h1:=h.quiet k1;have Lz:=h.KX;obtain⟨A',c',w2,hr,fE,hg,Db⟩:=fP (P:=prog) (t:=jE) (ty:=jE) MB h1.rq (a:=⟨w.heap.size,0,none⟩) (m:=1) (cx:=1)
  (news:=ints [x]) rfl (fun j u hj=>by rw [mR,aD nu];simpa [ints]using hj) (IK _) (by omega) (by unfold maxLen;omega) h1.Jz
 have kA:Kept (fun k=>a8 Aq=some k) w1 w2:=(Kept.refl _ w1).grown hg (fun k hk _=>hk);have gH:∀k,a8 Aq=some k->B1<=k:=fun k e=>(Row.bI h.rq e).1;refine⟨A',c',w2,hr,?_,fun S0 h0=>(k1.mono (S':=S0) (fun _ _ h=>h.elim)).trans kA (fun k _ e=>h0 k e)⟩;exact {
  tv:=h1.tv.aF kA (fun k hk e=>by have:=h.hS k hk;have:=gH k e;have:=h.hB;omega)
  rs:=Row.aF h1.rs kA (fun k e e2=>by have:=h.sb k e;have:=gH k e2;omega)
  sb:=h.sb
  rq:=by simpa [ints]using fE
  kp:=(h.kp.trans k1 (fun _ _ h=>h.elim)).trans kA (fun k hk e=>absurd (gH k e) (by have:=h.hB;have:=h.h0;omega))
  hS:=h.hS
  hB:=h.hB
  Jz:=Nat.le_trans h1.Jz kA.size
  h0:=h.h0}
theorem Dm{T0 T1:List Nd}{x:Nat}{xd:Nd}{half:Nat}{spare i:Int}{Xx:Option Addr}{XE:Nat}{Qo:aO}
 (D:Dl w0 S g b c B0 B1 T0.length (bW T0) d As w T1 L Aq nq cq q) (hS:Shape T0) (X4:lY T0 T1) (hlen:T0.length<=1000000) (Lz:q.length<=1000000)
 (hx:T1[x]? =some xd) (Bi:xd.free=xd.lo) (U8:0<=xd.lo) (hhi:xd.hi<=4611686018427387904) (EE:(half:Int)*2<=xd.hi-xd.lo-((sz (bW T0) x:Int)-1))
 (Bb:u64.wrap (spare.tdiv 2)=(half:Int)) (acg:Row w 0 jV 1 Xx xd.ch.length XE (ints xd.ch)) (VV:∀k,a8 Xx=some k->S k/\k≠b)
 (hex:∀w' ET f L' KK KG,Dl w0 S g b c B0 B1 T0.length (bW T0) d As w' ET L' KK (nq+xd.ch.length) KG (q++xd.ch)->qg (bW T0) T1 x xd half xd.ch.length ET f->
   Qo .normal [(0,.pointer (some ⟨g,0,none⟩)),(4,.slice As T0.length T0.length),(5,.slice KK (nq+xd.ch.length) KG),(6,.int .i64 (i64.wrap (i+1)))] w'):
 Holds none [] prog 164 (.loop (lB (bB (sR (sR (sR (sR (bB (sL (sR (lB (bB (sR (sR (sR (sR (sR (body az.fn)))))))))))))))))) (az.q3 Qo) (az.e3 (some ⟨g,0,none⟩) As T0.length T0.length i x spare Xx xd.ch.length XE xd.ch.length (Aq,nq,cq,0)) w:=by
 have hP:=hS.par;have rL:=e9 T0;have nH:xd.ch=kids (bW T0) x:=by
  have:=(X4.shape hS).ch x xd hx
  rwa [X4.bW]at this
 have uB:x<T0.length:=by rw [<-X4.len];exact(lgeS hx).1
 have Lt:xd.ch.Pairwise (· < ·):=by rw [nH];exact ub _ _
 have xZ:∀y,y∈xd.ch->x<y:=fun y hy=>(iE hP (nH▸hy)).1;have VU:xd.ch.length<=1000000:=by rw [nH];exact Nat.le_trans (AN _ _) (by omega)
 have IY:(xd.ch.map (sz (bW T0))).sum+1=sz (bW T0) x:=by rw [nH];exact DV hP (by omega)
 have jK:=u9 hP (n:=x) (by omega);have aaA:=xD (P:=bW T0) x;have hnq:=D.KX;refine az.vM (I:=fun s w'=>∃(k:Nat) (T':List Nd) (f:Int) (L':List (Nd×Value)) (KK:Option Addr) (KG:Nat),s=(KK,nq+k,KG,(k:Int))/\k<=xd.ch.length/\
  Dl w0 S g b c B0 B1 T0.length (bW T0) d As w' T' L' KK (nq+k) KG (q++xd.ch.take k)/\qg (bW T0) T1 x xd half k T' f/\Row w' 0 jV 1 Xx xd.ch.length XE (ints xd.ch))
  (μ:=fun s _=>((xd.ch.length:Int)-s.2.2.2).toNat) (s:=(Aq,nq,cq,0)) ⟨0,T1,xd.lo,L,Aq,cq,rfl,Nat.zero_le _,by simpa using D,qg.start hx Bi,acg⟩ ?_
 rintro s w' ⟨k,T',f,L',KK,KG,rfl,hk,D',fJ,hr⟩;refine Split.dec (fun cU=>?_) (fun gH=>?_)
 ·simp only at cU
  have B8:k<xd.ch.length:=by omega
  obtain⟨ci,Yn⟩:∃ci,xd.ch[k]? =some ci:=⟨_,List.getElem?_eq_getElem B8⟩;have nz:ci∈xd.ch:=List.mem_of_getElem? Yn;have hck:ci∈kids (bW T0) x:=nH▸nz;have qH:ci<T0.length:=by have:=(iE hP hck).2;omega
  have hxc:=xZ ci nz;have Ew:=u9 hP (n:=ci) (by omega);have aiA:=xD (P:=bW T0) ci;have Ud:=X4.trans fJ.ox;obtain⟨cd,jZ⟩:=gu (T:=T') (i:=ci) (by rw [Ud.len];exact qH);have VR:cd.parent=x:=by
   have h1:=lP jZ;rw [Ud.bW,eA.1 hck]at h1;exact(Option.some.inj h1).symm
  have aaD:sz (bW T0) ci<=sz (bW T0) x:=by
   have:=O0 (l:=xd.ch.map (sz (bW T0))) (a:=sz (bW T0) ci) (List.mem_map.2 ⟨ci,nz,rfl⟩);omega
  have Wb:0<=(ci:Int)/\(ci:Int)<(T0.length:Int):=⟨by omega,by omega⟩;have jP:0<=(x:Int)/\(x:Int)<(T0.length:Int):=⟨by omega,by omega⟩;have abP:half<4611686018427387904:=by omega
  obtain⟨bch,acx⟩:=Row.some hr (by omega);subst acx;refine⟨⟨by simp only;omega,by simp only;omega⟩,_,by simp only [mR,Int.toNat_natCast,Nat.mul_one];exact Row.cell hr (A8 Yn),by decide,Wb,D'.D9 qH ?_⟩;rw [Bb];refine xm half (sz (bW T0) ci) (by omega) (by omega) ⟨_,_,rfl,jP,D'.D9 uB ?_⟩;have UW:(half*sz (bW T0) ci/18446744073709551616)*18446744073709551616+half*sz (bW T0) ci%18446744073709551616=half*sz (bW T0) ci:=Nat.div_add_mod' _ _;have abO:half*sz (bW T0) ci/18446744073709551616<sz (bW T0) x:=by
   have:half*sz (bW T0) ci<18446744073709551616*sz (bW T0) ci:=Nat.mul_lt_mul_of_pos_right (by omega) Ew;have:half*sz (bW T0) ci/18446744073709551616<sz (bW T0) ci:=Nat.div_lt_of_lt_mul this;omega
  refine xo _ _ (sz (bW T0) x) (Nat.mod_lt _ (by omega)) (by omega) abO fun r w90 k90=>?_;rw [UW];generalize hm:half*sz (bW T0) ci/sz (bW T0) x=more;have hmx:more*sz (bW T0) x<=half*sz (bW T0) ci:=by rw [<-hm];exact Nat.div_mul_le_self _ _
  have ajj:more<=half:=by
   rw [<-hm];apply Nat.div_le_of_le_mul;rw [Nat.mul_comm];exact Nat.mul_le_mul_right _ aaD
  have D90:=D'.quiet k90;have aaO:=Row.aF hr k90 (fun _ _ h=>h);refine⟨_,_,rfl,Wb,D90.D9 qH ?_⟩;rw [fT (x:=(sz (bW T0) ci:Int)+(more:Int)) (by omega) (by omega)];have yY:=fJ.bound (by omega) jK (by
   have h1:(((xd.ch.take k).map (sz (bW T0))).sum)<=(xd.ch.map (sz (bW T0))).sum:=by
    conv=>rhs;rw [<-List.take_append_drop k xd.ch,List.map_append,List.sum_append]
    omega
   omega)
  have lT:=fJ.lo;have h1:(((xd.ch.take k).map (sz (bW T0))).sum)<=(xd.ch.map (sz (bW T0))).sum:=by
   conv=>rhs;rw [<-List.take_append_drop k xd.ch,List.map_append,List.sum_append]
   omega
  refine uZ D90.tv jZ fJ.here VR (by omega) (by simp only;omega) (by omega) (by simp only;omega) fun w96 L96 h96 k96=>⟨rfl,?_⟩;have D96:=D90.wrote k96 h96;have aaM:=Row.aF aaO k96 (fun k e e2=>(VV k e).2 e2);intro w97;have htl:(xd.ch.take k).length<=1000000:=by rw [List.length_take];omega
  obtain⟨Sf,R4,Ro,aaG,D99,XH⟩:=D96.push (by rw [List.length_append];omega) ci (w1:=w97) rfl;have aaL:=Row.aF aaM (XH (fun k=>B1<=k) (fun k e=>(Row.bI D96.rq e).1)) (fun k e e2=>by have:=D.hS k (VV k e).1;have:=D.hB;omega);refine⟨Sf,_,R4,Ro,aaG,?_⟩;rw [gQ (x:=(k:Int)+1) (by omega) (by omega)];refine⟨(Sf,nq+(k+1),R4,((k+1:Nat):Int)),rfl,⟨k+1,_,_,L96,Sf,R4,rfl,B8,?_,fJ.step (more:=(more:Int)) Lt xZ Yn jZ (by omega) ?_ Ew,aaL⟩,by simp only;omega⟩
  ·rw [ow Yn,<-List.append_assoc]
   exact D99
  ·have:((more*sz (bW T0) x:Nat):Int)<=((half*sz (bW T0) ci:Nat):Int):=by omega
   rwa [Int.natCast_mul,Int.natCast_mul]at this
 ·simp only at gH
  have:k=xd.ch.length:=by omega
  subst this;rw [aR,az.Cf];rw [List.take_length]at D';exact hex w' T' f L' KK KG D' fJ
end
theorem H7:∀(n:Nat) (q:List Nat),q.Nodup->(∀y,y∈q->y<n)->q.length<=n:=by
 intro n
 induction n with
 |zero=>
  intro q _ h;cases q with
  |nil=>simp
  |cons a q=>exact absurd (h a (by simp)) (by omega)
 |succ n ih=>
  intro q hn h;by_cases hm:n∈q
  ·have h1:=List.length_erase_of_mem hm
   have h2:=ih (q.erase n) (hn.erase n) (fun y hy=>by
    have:=(List.Nodup.mem_erase_iff hn).1 hy;have:=h y this.2;omega)
   omega
  ·have:=ih q hn (fun y hy=>by
    have:=h y hy;have:y≠n:=fun e=>hm (e▸hy);omega)
   omega
section
variable{w0 w:World}{S:Nat->Prop}{g b c B0:Nat}{d:Int}{As:Option Addr}{L:List (Nd×Value)}{T:List Nd}{K:Value->World->Prop}
theorem Dk{T0:List Nd}{m:Nat}{md:Nd}
 (htv:TV w S g T0 d b c L) (hrs:Row w B0 jb 1 As T0.length T0.length (us (sz (bW T0)) T0.length)) (Ve:Kept S w0 w) (hSB:∀k,S k->k<B0) (T7:w0.heap.size<=B0) (hBw:B0<=w.heap.size)
 (hS:Shape T0) (hlen:T0.length<=1000000) (xY:T0[m]? =some md) (h1:1<=md.lo) (h2:md.hi<=4611686018427387904) (h3:(sz (bW T0) m:Int)<=md.hi-md.lo+1)
 (hK:∀w' T' q i,ph w' S g T' d->oh (bW T0) T0 m T' q i->q.length<=i->Kept S w0 w'->K (.tuple #[]) w'):
 az.cV (some ⟨g,0,none⟩) m As T0.length T0.length K w:=by
 have hP:=hS.par;have rL:=e9 T0;have He:m<T0.length:=(lgeS xY).1;unfold az.cV;intro kh;have ot:Kept Nil w kh:=(Kept.refl Nil w).alloc _;have nu:kh.heap[w.heap.size]? =some (.cells #[.int .i64 (m:Int)] jV (0,0)):=aI w _;have D35:Dl w0 S g b c B0 w.heap.size T0.length (bW T0) d As kh T0 L (some ⟨w.heap.size,0,none⟩) 1 1 [m]:= {
  tv:=htv.kept ot
  rs:=Row.aF hrs ot (fun _ _ h=>h)
  sb:=fun k e=>by obtain⟨_,_,hc⟩:=Row.bI hrs e;exact aQ hc
  rq:=Row.made (n:=1) (cur:= #[.int .i64 (m:Int)]) nu (Nat.le_refl _) rfl (by decide)
  kp:=Ve.trans ot (fun _ _ h=>h.elim)
  hS:=hSB
  hB:=hBw
  Jz:=ot.size
  h0:=T7}
 clear_value kh;generalize Jz:w.heap.size=B1 at*;refine az.iq (I:=fun s w'=>∃(i:Nat) (T':List Nd) (L':List (Nd×Value)) (Aq:Option Addr) (nq cq:Nat) (q:List Nat),s=(Aq,nq,cq,(i:Int))/\i<=q.length/\
  Dl w0 S g b c B0 B1 T0.length (bW T0) d As w' T' L' Aq nq cq q/\oh (bW T0) T0 m T' q i)
  (μ:=fun s _=>((T0.length:Int)-s.2.2.2).toNat) (s:=(some ⟨B1,0,none⟩,1,1,0)) ⟨0,T0,L,_,1,1,[m],rfl,Nat.zero_le _,D35,oh.start (by omega) xY h1 h2 h3⟩ ?_
 rintro s w' ⟨i,T',L',Aq,nq,cq,q,rfl,hi,D,hO⟩;have hnq:=D.KX;have Lz:q.length<=T0.length:=H7 _ _ hO.nodup (fun y hy=>by have:=(hO.pg y hy).lt;omega);refine Split.dec (fun cU=>?_) (fun gH=>?_)
 ·simp only at cU
  have dV:i<q.length:=by omega
  obtain⟨x,hqx⟩:∃x,q[i]? =some x:=⟨_,List.getElem?_eq_getElem dV⟩;have IN:x∈q:=List.mem_of_getElem? hqx;have uB:x<T0.length:=by have:=(hO.pg x IN).lt;omega
  obtain⟨xd,Kr⟩:=gu (T:=T') (i:=x) (by rw [hO.ox.len];exact uB);have uf:=hO.room x xd IN Kr;have jK:=u9 hP (n:=x) (by omega);have aaA:=xD (P:=bW T0) x;have hlT:T'.length=T0.length:=hO.ox.len;have jP:0<=(x:Int)/\(x:Int)<(T'.length:Int):=⟨by omega,by omega⟩;refine⟨⟨by simp only;omega,by simp only;omega⟩,D.SK hqx ?_⟩;intro E0;have Se:=D.quiet (w':=E0) (Kept.refl Nil w').drew;clear_value E0;obtain⟨v,hv⟩:=Se.tv.at_ Kr;obtain⟨wr,h50⟩:=Se.tv.vh hv (j:=4) (by omega) (u:=.int .u64 xd.lo) (nd':= {xd with free:=xd.lo}) rfl rfl;refine Se.tv.go (Se.tv.go ⟨jP,Se.tv.wg hv ⟨jP,by rw [o7];exact wr,?_⟩⟩);intro Kl Hv;have e50:Kl=E0.setCell ⟨b,x*5+4,none⟩ (.int .u64 xd.lo):=by simp only [Kl,o7,Int.toNat_natCast]
  rw [<-e50]at h50;have RC:Kept (fun k=>k=b) E0 Kl:=by rw [e50];exact(Kept.refl (fun k=>k=b) E0).setCell (p:=⟨b,x*5+4,none⟩) (fun _=>rfl) _
  have KJ:=(Se.wrote RC h50).quiet (w':=Hv) (Kept.refl Nil Kl).drew;clear_value Hv;have v1:(L'.set x ({xd with free:=xd.lo},v))[x]? =some ({xd with free:=xd.lo},v):=iW hv;obtain⟨Xx,XE,hk⟩:=KJ.tv.rp _ _ v1;have vV:(T'.set x {xd with free:=xd.lo}).length=T'.length:=by simp
  have QJ:0<=(x:Int)/\(x:Int)<((T'.set x {xd with free:=xd.lo}).length:Int):=by rw [vV];exact jP
  have Yp:0<=(x:Int)/\(x:Int)<(T0.length:Int):=⟨by omega,by omega⟩;refine KJ.tv.go ⟨QJ,KJ.tv.Bu v1 (KJ.tv.go ⟨QJ,KJ.tv.wg v1 ⟨Yp,KJ.D9 uB (KJ.tv.go ⟨QJ,KJ.tv.WU v1 hk.val ?_⟩)⟩⟩)⟩;have aaC:lY T0 (T'.set x {xd with free:=xd.lo}):=hO.ox.trans (lY.set (nd':= {xd with free:=xd.lo}) Kr rfl rfl);simp only;obtain⟨cur,RW⟩:=KJ.tv.wE;generalize hhf:((xd.hi-xd.lo-((sz (bW T0) x:Int)-1)).toNat /2)=half;refine Dm (half:=half) (xd:= {xd with free:=xd.lo}) KJ hS aaC hlen (by omega) (iW Kr) rfl (by simp only;omega) (by simp only;omega) (by simp only;omega) ?_ hk.row (fun k e=>⟨hk.la k e,fun e2=>hk.ne RW (by decide) (by rw [e,e2])⟩) ?_
  ·rw [fT (x:=xd.hi-xd.lo) (by omega) (by omega),fT (x:=(sz (bW T0) x:Int)-1) (by omega) (by omega),fT (x:=xd.hi-xd.lo-((sz (bW T0) x:Int)-1)) (by omega) (by omega),
    Int.tdiv_eq_ediv_of_nonneg (by omega),fT (by omega) (by omega)]
   omega
  ·intro w2 T2 f L2 Sf R4 D2 fJ
   rw [gQ (x:=(i:Int)+1) (by omega) (by omega)];refine⟨(Sf,nq+xd.ch.length,R4,((i+1:Nat):Int)),rfl,⟨i+1,T2,L2,Sf,_,R4,q++xd.ch,rfl,by rw [List.length_append];omega,D2,hO.step hS hqx Kr (by omega) (by omega) fJ⟩,by simp only;omega⟩
 ·simp only at gH
  rw [aR,az.kL];exact hK w' T' q i ⟨_,_,_,D.tv⟩ hO (by omega) D.kp
theorem TV.Zh(h:TV w S g T d b c L)(d':Int):Wr w ⟨g,1,none⟩/\TV (w.setCell ⟨g,1,none⟩ (.int .i64 d')) S g T d' b c L:=by
 have kG:Kept (fun k=>k=g) w (w.setCell ⟨g,1,none⟩ (.int .i64 d')):=(Kept.refl (fun k=>k=g) w).setCell (p:=⟨g,1,none⟩) (fun _=>rfl) _;refine⟨dY h.top (show 1<2 by omega),?_⟩;exact {
  top:=by
   have:=dh h.top 1 (.int .i64 d');simpa using this
  fst:=h.fst
  row:=Row.aF h.row kG (fun k e e2=>h.gb (by cases e;exact e2.symm))
  rp:=fun i p hp=>by
   obtain⟨A,m,hk⟩:=h.rp i p hp;exact⟨A,m,hk.val,Row.aF hk.row kG (fun k e e2=>hk.ne h.top (by decide) (by rw [e,e2])),hk.la⟩
  apart:=h.apart
  iB:=h.iB
  gD:=h.gD}
set_option maxRecDepth 100000 in
theorem Fi(h:ph w S g T d)(hS:Shape T)(hlen:T.length<=1000000){p:Nat}(hp:p<T.length)(hd:0<=d/\d<=1000000)
 (Ul:∀nd,T[0]? =some nd->nd.lo=1/\nd.hi=4611686018427387904)
 (Yh:∀y nd,T[y]? =some nd->kM (bW T) p y->Iv nd)
 (hK:∀w' T' m q i,ph w' S g T' (d+1)->kM (bW T) p m->oh (bW T) T m T' q i->q.length<=i->Kept S w w'->K (.tuple #[]) w'):
 bu prog az.id #[.pointer (some ⟨g,0,none⟩),.int .i64 p] w K:=by
 have hP:=hS.par;have rL:=e9 T;obtain⟨b,c,L,h⟩:=h;have hb:=h.bound;obtain⟨wr,h6⟩:=hb.Zh (d+1);refine az.of (h.goD ⟨by rw [mR];exact wr,?_⟩);intro w6;have e6:w6=w.setCell ⟨g,1,none⟩ (.int .i64 (d+1)):=by simp only [w6,mR,gQ (x:=d+1) (by omega) (by omega)]
 rw [<-e6]at h6;have k6:Kept (fun k=>S k/\k<w.heap.size) w w6:=by rw [e6];exact(Kept.refl _ w).setCell (p:=⟨g,1,none⟩) (fun _=>hb.iB) _
 have Lv:w.heap.size=w6.heap.size:=by rw [e6];simp
 clear_value w6;refine Cm ⟨_,_,_,h6⟩ hP hlen fun w8 As Zu k8=>⟨_,_,_,rfl,?_⟩;have h8:=h6.kept k8;refine az.cy (I:=fun s w'=>∃m:Nat,s=(m:Int)/\kM (bW T) p m/\Kept Nil w8 w') (μ:=fun s _=>s.toNat) (s:=(p:Int)) ⟨p,rfl,.refl (by omega),Kept.refl _ _⟩ ?_;rintro s w' ⟨m,rfl,hu,kw⟩;have He:m<T.length:=by have:=hu.XF;omega
 obtain⟨md,xY⟩:=gu He;have hm:=Yh m md xY hu;have Nv:=hm.ZG;have RQ:=hm.le;have hm3:=hm.top;unfold az.B1;intro mz;have ru:Kept Nil w8 mz:=kw.drew;have EL:=h8.kept ru;have D7:=Row.aF Zu ru (fun _ _ h=>h);have lj:=lP xY;have aix:=xD (P:=bW T) m;have yX:0<=(m:Int)/\(m:Int)<(T.length:Int):=⟨by omega,by omega⟩;obtain⟨v,hv⟩:=EL.at_ xY;have done:(sz (bW T) m:Int)<=md.hi-md.lo+1->az.q1 K (.exit 0) [(0,.pointer (some ⟨g,0,none⟩)),(1,.int .i64 m),(4,.slice As T.length T.length)] mz:=by
  intro uf;rw [az.df];have k8':Kept (fun k=>S k/\k<w.heap.size) w mz:=(k6.trans k8 (fun _ _ h=>h.elim)).trans ru (fun _ _ h=>h.elim);refine Dk EL (B0:=w.heap.size) (Row.base D7 (fun k e=>by rw [Lv];exact(Row.bI D7 e).1)) k8' (fun k h=>h.2) (Nat.le_refl _) k8'.size hS hlen xY Nv hm3 uf ?_;intro w2 T2 q i h2 hO hq k2;exact hK w2 T2 m q i (h2.mono (fun k h=>h.1)) hu hO hq (k2.mono (fun k _ h=>h.1))
 refine EL.go ⟨yX,EL.JF hv (Split.dec (fun jK=>?_) (fun yV=>?_))⟩
 ·obtain⟨bs,Yp⟩:=Row.some D7 (by omega)
  subst Yp;refine EL.go ⟨yX,EL.Bu hv (EL.go ⟨yX,EL.wg hv ⟨by decide,yX,_,by rw [mR,Int.toNat_natCast,Nat.mul_one];exact Row.cell D7 (pq _ He),?_⟩⟩)⟩;rw [fT (x:=md.hi-md.lo) (by omega) (by omega),fT (x:=md.hi-md.lo+1) (by omega) (by omega),Int.tdiv_eq_ediv_of_nonneg (by omega),fT (x:=(md.hi-md.lo+1)/4) (by omega) (by omega)];refine Split.dec (fun cU=>?_) (fun gH=>?_)
  ·have Ky:0<m:=by
    rcases Nat.eq_zero_or_pos m with rfl|h
    ·rw [hP.root]at lj;have:=Option.some.inj lj;omega
    ·exact h
   obtain⟨z,hz,ez⟩:=hP.up m _ Ky lj;refine EL.go ⟨yX,EL.JF hv ?_⟩;rw [ez];exact⟨(z:Int),rfl,⟨z,rfl,hu.trans (.step (by rw [lj,ez]) (.refl (by omega))),ru⟩,by simp only;omega⟩
  ·rw [aR]
   exact done (by omega)
 ·have Ky:m=0:=by
   rcases Nat.eq_zero_or_pos m with h|h
   ·exact h
   ·obtain⟨z,_,ez⟩:=hP.up m _ h lj
    omega
  subst Ky;have:=Ul md xY;rw [aR];exact done (by omega)
end
structure xz(T:List Nd):Prop extends Good T where
 root:∀nd,T[0]? =some nd->nd.lo=1/\nd.hi=4611686018427387904
theorem Cx:xz qN:=by
 have gS:∀(i:Nat) nd,qN[i]? =some nd->i=0/\nd=⟨-1,[],1,4611686018427387904,1⟩:=by
  intro i nd h;cases i with
  |zero=>simp [qN]at h;exact⟨rfl,h.symm⟩
  |succ i=>simp [qN]at h
 exact {
  par:=⟨rfl,fun i p hi h=>by
   cases i with
   |zero=>omega
   |succ i=>simp [bW,qN]at h⟩
  ch:=fun i nd h=>by
   obtain⟨rfl,rfl⟩:=gS i nd h;simp [kids,bW,qN]
  iv:=fun i nd h=>by
   obtain⟨rfl,rfl⟩:=gS i nd h;exact⟨by decide,by decide,by decide⟩
  loc:=fun i nd h=>by
   obtain⟨rfl,rfl⟩:=gS i nd h;exact⟨by decide,by decide,fun c cd hc=>by simp at hc,fun c c' cd wA hc=>by simp at hc⟩
  root:=fun nd h=>by
   obtain⟨_,rfl⟩:=gS 0 nd h;exact⟨rfl,rfl⟩}
section
variable{T:List Nd}{p:Nat}{pd:Nd}
theorem GQ(hp:T[p]? =some pd)(i:Nat):(added T p pd)[i]? =if i=p then some {pd with ch:=pd.ch++ [T.length],free:=pd.free+jz pd}else if i=T.length then some ⟨p,[],pd.free,pd.free+jz pd-1,pd.free⟩else T[i]? :=by
 have cU:p<T.length:=(lgeS hp).1;unfold added;rw [x9 (by rw [jL hp,if_neg (by omega),if_pos rfl]) (by rw [jL hp,if_pos rfl]) (by omega),jL hp];split
 ·rfl
 ·split
  ·rfl
  ·rfl
theorem wG(hp:T[p]? =some pd):lY (grown T p pd) (added T p pd):=by
 have cU:p<T.length:=(lgeS hp).1;exact v8 _ (by rw [jL hp,if_neg (by omega),if_pos rfl]) (by rw [jL hp,if_pos rfl]) (by omega)
theorem Shape.Q8(h:Shape T){i:Nat}{nd:Nd}(hi:T[i]? =some nd){c:Nat}(hc:c∈nd.ch):i<c/\c<T.length:=by
 rw [h.ch i nd hi]at hc;have:=iE h.par hc
 rwa [e9]at this
theorem xz.added(h:xz T)(hp:T[p]? =some pd)(uf:pd.free<pd.hi):xz (added T p pd):=by
 have cU:p<T.length:=(lgeS hp).1;have gS:=GQ hp;have Py:=h.iv p pd hp;have i1:=Py.ZG;have i2:=Py.le;have i3:=Py.top;have lp:=h.loc p pd hp;have l1:=lp.Hj;have l2:=lp.Dj;have hh1:1<=jz pd:=by unfold jz;omega
 have hh2:pd.free+jz pd<=pd.hi:=by unfold jz;omega
 have hold:∀(c:Nat) cd,c<T.length->(Go.Proofs.YtfleamccglihoaaGreatDoor.Tr.added T p pd)[c]? =some cd->∃ed,T[c]? =some ed/\ed.lo=cd.lo/\ed.hi=cd.hi:=by
  intro c cd hc jZ;rw [gS]at jZ;by_cases e:c=p
  ·subst e
   rw [if_pos rfl]at jZ;cases jZ;exact⟨pd,hp,rfl,rfl⟩
  ·rw [if_neg e,if_neg (by omega)]at jZ
   exact⟨cd,jZ,rfl,rfl⟩
 have nu:∀cd,(Go.Proofs.YtfleamccglihoaaGreatDoor.Tr.added T p pd)[T.length]? =some cd->cd=⟨p,[],pd.free,pd.free+jz pd-1,pd.free⟩:=by
  intro cd jZ;rw [gS,if_neg (by omega),if_pos rfl]at jZ;exact(Option.some.inj jZ).symm
 have aF:∀(i:Nat) nd,T[i]? =some nd->Loc (Go.Proofs.YtfleamccglihoaaGreatDoor.Tr.added T p pd) nd:=by
  intro i nd hi;have hl:=h.loc i nd hi;have hc:=fun c hc=>(h.toShape.Q8 hi (c:=c) hc).2;exact {
   Hj:=hl.Hj
   Dj:=hl.Dj
   sub:=fun c cd nz jZ=>by
    obtain⟨ed,h1,h2,h3⟩:=hold c cd (hc c nz) jZ;have:=hl.sub c ed nz h1;omega
   ord:=fun c c' cd wA nz oZ x5 jZ rC=>by
    obtain⟨ed,h1,h2,h3⟩:=hold c cd (hc c nz) jZ;obtain⟨Q7,rN,uE,Cc⟩:=hold c' wA (hc c' oZ) rC;have:=hl.ord c c' ed Q7 nz oZ x5 h1 rN;omega}
 have hs:=(wG hp).shape (h.toShape.grown hp);refine {toShape:=hs,iv:=?_,loc:=?_,root:=?_}
 ·intro i nd hi
  rw [gS]at hi;by_cases e:i=p
  ·rw [if_pos e]at hi
   cases hi;exact⟨i1,i2,i3⟩
  ·rw [if_neg e]at hi
   by_cases e2:i=T.length
   ·rw [if_pos e2]at hi
    cases hi;exact⟨by simp only;omega,by simp only;omega,by simp only;omega⟩
   ·rw [if_neg e2]at hi
    exact h.iv i nd hi
 ·intro i nd hi
  rw [gS]at hi;by_cases e:i=p
  ·rw [if_pos e]at hi
   cases hi;have kp:=aF p pd hp;have hc:=fun c hc=>(h.toShape.Q8 hp (c:=c) hc).2;exact {
    Hj:=by simp only;omega
    Dj:=hh2
    sub:=fun c cd nz jZ=>by
     simp only at nz;rcases List.mem_append.1 nz with nz|nz
     ·have:=kp.sub c cd nz jZ
      simp only;omega
     ·simp at nz
      subst nz;have:=nu cd jZ;subst this;simp only;omega
    ord:=fun c c' cd wA nz oZ x5 jZ rC=>by
     simp only at nz oZ;rcases List.mem_append.1 nz with nz|nz
     ·rcases List.mem_append.1 oZ with oZ|oZ
      ·exact kp.ord c c' cd wA nz oZ x5 jZ rC
      ·simp at oZ
       subst oZ;have:=nu wA rC;subst this;exact(kp.sub c cd nz jZ).2
     ·simp at nz
      rcases List.mem_append.1 oZ with oZ|oZ
      ·have:=hc c' oZ
       omega
      ·simp at oZ
       omega}
  ·rw [if_neg e]at hi
   by_cases e2:i=T.length
   ·rw [if_pos e2]at hi
    cases hi;exact⟨by simp only;omega,by simp only;omega,fun c cd hc=>by simp at hc,fun c c' cd wA hc=>by simp at hc⟩
   ·rw [if_neg e2]at hi
    exact aF i nd hi
 ·intro nd hi
  obtain⟨ed,h1,h2,h3⟩:=hold 0 nd h.toShape.pos hi;have:=h.root ed h1;omega
theorem xz.JL(h:xz T)(hp:T[p]? =some pd){m i:Nat}{T':List Nd}{q:List Nat}(hu:kM (bW (grown T p pd)) p m)
 (hO:oh (bW (grown T p pd)) (grown T p pd) m T' q i) (hq:q.length<=i):xz T':=by
 have cU:p<T.length:=(lgeS hp).1;have gS:=jL hp;have hS:=h.toShape.grown hp;have hP:=hS.par;have hold:∀(c:Nat) cd,c<T.length->(grown T p pd)[c]? =some cd->∃ed,T[c]? =some ed/\ed.lo=cd.lo/\ed.hi=cd.hi:=by
  intro c cd hc jZ;rw [gS]at jZ;by_cases e:c=p
  ·subst e
   rw [if_pos rfl]at jZ;cases jZ;exact⟨pd,hp,rfl,rfl⟩
  ·rw [if_neg e,if_neg (by omega)]at jZ
   exact⟨cd,jZ,rfl,rfl⟩
 have RO:(bW (grown T p pd))[T.length]? =some (p:Int):=by
  rw [mM hp,List.getElem?_append_right (by rw [e9];exact Nat.le_refl _)];simp [e9]
 have fg:=oh.fin hS hO hq (fun y nd hy hn=>by
  rw [gS]at hy;have e:y≠p:=fun e=>hn (e▸hu);rw [if_neg e]at hy;have e2:y≠T.length:=fun e=>hn (e▸ .step RO hu);rw [if_neg e2]at hy;refine⟨h.iv y nd hy,?_⟩;have hl:=h.loc y nd hy;have hc:=fun c hc=>(h.toShape.Q8 hy (c:=c) hc).2;exact {
   Hj:=hl.Hj
   Dj:=hl.Dj
   sub:=fun c cd nz jZ=>by
    obtain⟨ed,h1,h2,h3⟩:=hold c cd (hc c nz) jZ;have:=hl.sub c ed nz h1;omega
   ord:=fun c c' cd wA nz oZ x5 jZ rC=>by
    obtain⟨ed,h1,h2,h3⟩:=hold c cd (hc c nz) jZ;obtain⟨Q7,rN,uE,Cc⟩:=hold c' wA (hc c' oZ) rC;have:=hl.ord c c' ed Q7 nz oZ x5 h1 rN;omega})
 refine {toGood:=fg,root:=fun nd hi=>?_};obtain⟨gd,hgd,_⟩:=hO.ox.back hi;obtain⟨ed,h1,h2,h3⟩:=hold 0 gd h.toShape.pos hgd;have hr:=h.root ed h1;by_cases hm:0∈q
 ·have:=(hO.pg 0 hm).le hP
  have Ky:m=0:=by omega
  subst Ky;have:=hO.top gd nd hgd hi;omega
 ·rw [hO.rest 0 hm,hgd]at hi
  cases hi;omega
end
section
variable{w:World}{S:Nat->Prop}{g:Nat}{T:List Nd}{d:Int}{K:Value->World->Prop}
theorem HD(h:ph w S g T d)(hF:xz T){p:Nat}(hp:p<T.length)(hlen:T.length<=900000)(hd:0<=d/\d<=900000)
 (hK:∀w' S' T' d',ph w' S' g T' d'->xz T'->bW T'=bW T++ [(p:Int)]->d<=d'/\d'<=d+1->Kept S w w'->(∀k,S' k->S k\/w.heap.size<=k)->K (.tuple #[.int .i64 T.length,.int .i64 0]) w'):
 bu prog gK.id #[.pointer (some ⟨g,0,none⟩),.int .i64 p] w K:=by
 obtain⟨pd,yT⟩:=gu hp;have Py:=hF.iv p pd yT;have i1:=Py.ZG;have i2:=Py.le;have i3:=Py.top;have lp:=hF.loc p pd yT;have l1:=lp.Hj;have l2:=lp.Dj;have nH:pd.ch.length<=T.length:=by
  rw [hF.ch p pd yT];have:=AN (bW T) p
  rwa [e9]at this
 refine u7 h yT (by omega) (by omega) (by omega) l2 i3 (fun uf w' S' h' k' f'=>?_) (fun afQ w' S' h' k' f'=>?_)
 ·exact hK w' S' _ d h' (hF.added yT uf) (by rw [(wG yT).bW,mM yT]) ⟨by omega,by omega⟩ k' f'
 ·have hS:=hF.toShape.grown yT
  have gS:=jL yT;have lj:=hS.par;refine Fi h' hS (by rw [x8];omega) (by rw [x8];omega) ⟨hd.1,by omega⟩ (fun nd hi=>?_) (fun y nd hy hu=>?_) (fun w2 T2 m q i h2 hu hO hq k2=>⟨rfl,?_⟩)
  ·rw [gS]at hi
   by_cases e:0=p
   ·rw [if_pos e]at hi
    cases hi;exact hF.root pd (by rw [e];exact yT)
   ·rw [if_neg e,if_neg (by omega)]at hi
    exact hF.root nd hi
  ·have:=hu.le lj
   rw [gS]at hy;by_cases e:y=p
   ·rw [if_pos e]at hy
    cases hy;exact⟨i1,i2,i3⟩
   ·rw [if_neg e,if_neg (by omega)]at hy
    exact hF.iv y nd hy
  ·refine hK w2 S' T2 (d+1) h2 (hF.JL yT hu hO hq) (by rw [hO.ox.bW,mM yT]) ⟨by omega,by omega⟩ ?_ f'
   exact k'.trans k2 (fun k hk hs=>by
    rcases f' k hs with h|h
    ·exact h
    ·omega)
end
def zs(l:List Int):List Value:=l.map fun x=>.int .i64 x
section
variable{w w':World}{S S':Nat->Prop}{h:Nat}{P:List Int}{b c:Nat}{K:Value->World->Prop}
end
def jg(P:List Int)(n i:Nat):List Nat:=(List.range i).filter fun j=>P[j]? ==some (n:Int)
section
variable{w w':World}{S S':Nat->Prop}{h:Nat}{P:List Int}{b c:Nat}{K:Value->World->Prop}
end
section
variable{w w':World}{S S':Nat->Prop}{g:Nat}{T:List Nd}{d:Int}{K:Value->World->Prop}
end
end Go.Proofs.YtfleamccglihoaaGreatDoor.Tr
