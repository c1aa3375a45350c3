import Derived.Test.YtfleamccglihoaaGreatDoorMA
import Derived.Test.YtfleamccglihoaaGreatDoorMD
import Derived.Laws.OwnMore
import Derived.Test.YtfleamccglihoaaGreatDoorMG
import Derived.Laws.Bits64b
open Go.IntKind (i64 u64)
set_option linter.unusedVariables false
namespace Go.Proofs.YtfleamccglihoaaGreatDoor.Tr
open Go.Proofs.Tryz
open Go Go.cF Go.RowKit
structure Nd where
 parent:Int
 ch:List Nat
 lo:Int
 hi:Int
 free:Int
def kV(nd:Nd)(v:Value):List Value:= [.int .i64 nd.parent,v,.int .u64 nd.lo,.int .u64 nd.hi,.int .u64 nd.free]
def qz(L:List (Nd×Value)):List Value:=L.flatMap λp=>kV p.1 p.2
def ints(l:List Nat):List Value:=l.map λx:Nat=>.int .i64 (x:Int)
theorem vF(L:List (Nd×Value)):(qz L).length=L.length*5:=by
 induction L with
 |nil=>rfl
 |cons p L ih=>simp only [qz,List.flatMap_cons,List.length_append,List.length_cons]at*;rw [ih];simp [kV];omega
theorem Lx{L:List (Nd×Value)}{i:Nat}{p:Nd×Value}(h:L[i]? =some p){j:Nat}(hj:j<5):(qz L)[i*5+j]? =(kV p.1 p.2)[j]? :=by
 induction L generalizing i with
 |nil=>simp at h
 |cons q L ih=>
  have hq:(kV q.1 q.2).length=5:=rfl;cases i with
  |zero=>
   simp at h;subst h;simp only [qz,List.flatMap_cons];rw [Nat.zero_mul,Nat.zero_add,List.getElem?_append_left (by omega)]
  |succ i=>
   simp at h;have:=ih h;simp only [qz,List.flatMap_cons]at*;rw [List.getElem?_append_right (by omega),hq,<-this]
   congr 1
   omega
theorem C5{L:List (Nd×Value)}{i:Nat}{p p':Nd×Value}(h:L[i]? =some p){j:Nat}(hj:j<5){v:Value}(hp:kV p'.1 p'.2=(kV p.1 p.2).set j v):
 (qz L).set (i*5+j) v=qz (L.set i p'):=by
 induction L generalizing i with
 |nil=>simp at h
 |cons q L ih=>
  have hq:(kV q.1 q.2).length=5:=rfl;cases i with
  |zero=>
   simp at h;subst h;simp only [qz,List.flatMap_cons,List.set_cons_zero];rw [Nat.zero_mul,Nat.zero_add,List.set_append_left _ _ (by omega),hp]
  |succ i=>
   simp at h;have:=ih h;simp only [qz,List.flatMap_cons,List.set_cons_succ]at*;rw [List.set_append_right _ _ (by omega),hq,<-this]
   congr 2
   omega
structure Kid(w:World)(S:Nat->Prop)(p:Nd×Value)(A:Option Addr)(m:Nat):Prop where
 val:p.2=.slice A p.1.ch.length m
 row:Row w 0 iT 1 A p.1.ch.length m (ints p.1.ch)
 lU:∀k,bL A=some k->S k
structure TV(w:World)(S:Nat->Prop)(g:Nat)(T:List Nd)(d:Int)(b c:Nat)(L:List (Nd×Value)):Prop where
 top:w.heap[g]? =some (.cells #[.slice (some ⟨b,0,none⟩) T.length c,.int .i64 d] vJ (0,0))
 fst:L.map Prod.fst=T
 row:Row w 0 kM 5 (some ⟨b,0,none⟩) T.length c (qz L)
 sU:∀(i:Nat) (p:Nd×Value),L[i]? =some p->∃A m,Kid w S p A m
 apart:∀(i j:Nat) (p q:Nd×Value),L[i]? =some p->L[j]? =some q->i≠j->∀k,Value.ownBlock p.2=some k->Value.ownBlock q.2≠some k
 jC:S g
 iH:S b
def qK(w:World)(S:Nat->Prop)(g:Nat)(T:List Nd)(d:Int):Prop:=∃b c L,TV w S g T d b c L
section
variable{w w':World}{S S':Nat->Prop}{g:Nat}{T:List Nd}{d:Int}{b c:Nat}{L:List (Nd×Value)}
theorem TV.at_(h:TV w S g T d b c L){i:Nat}{nd:Nd}(hi:T[i]? =some nd):∃v,L[i]? =some (nd,v):=by
 rw [<-h.fst,List.getElem?_map]at hi;cases hL:L[i]? with
 |none=>simp [hL]at hi
 |some p=>
  rw [hL]at hi;simp at hi;exact⟨p.2,by rw [<-hi]⟩
theorem TV.nodes(h:TV w S g T d b c L):w.cell? ⟨g,0,none⟩=some (.slice (some ⟨b,0,none⟩) T.length c):=by rw [aI h.top];rfl
theorem TV.LA(h:TV w S g T d b c L):w.cell? ⟨g,1,none⟩=some (.int .i64 d):=by rw [aI h.top];rfl
theorem TV.cell(h:TV w S g T d b c L){i:Nat}{p:Nd×Value}(hi:L[i]? =some p){j:Nat}{v:Value}(hj:j<5)(hv:(kV p.1 p.2)[j]? =some v):w.cell? ⟨b,i*5+j,none⟩=some v:=
 Row.cell h.row (by rw [Lx hi hj,hv])
theorem TV.gb(h:TV w S g T d b c L):g≠b:=by
 rintro rfl;obtain⟨_,cur,hc⟩:=Row.bX h.row (k:=g) rfl;rw [h.top]at hc;injection hc with hc;injection hc with _ ht;exact absurd ht (by decide)
theorem Kid.ne{p:Nd×Value}{A:Option Addr}{m:Nat}(h:Kid w S p A m){k:Nat}{cs:Array Value}{t:TypeId}(hk:w.heap[k]? =some (.cells cs t (0,0)))(ht:t≠iT):bL A≠some k:=by
 intro e;obtain⟨_,cur,hc⟩:=Row.bX h.row e;rw [hk]at hc;injection hc with hc;injection hc with _ h2;exact ht h2
theorem TV.xX(h:TV w S g T d b c L):∃cur,w.heap[b]? =some (.cells cur kM (0,0)):=(Row.bX h.row rfl).2
theorem TV.aN{S0:Nat->Prop}(h:TV w S g T d b c L)(hk:Kept S0 w w')(hn:∀k,S k->¬S0 k):TV w' S g T d b c L:= {
 top:=hk.heap h.top (hn g h.jC)
 fst:=h.fst
 row:=Row.aN h.row hk (λk e=>by cases e;exact hn b h.iH)
 sU:=λi p hp=>let ⟨A,m,h1⟩:=h.sU i p hp;⟨A,m,h1.val,Row.aN h1.row hk (λk e=>hn k (h1.lU k e)),h1.lU⟩
 apart:=h.apart
 jC:=h.jC
 iH:=h.iH}
theorem qK.aN{S0:Nat->Prop}(h:qK w S g T d)(hk:Kept S0 w w')(hn:∀k,S k->¬S0 k):qK w' S g T d:=
 let ⟨b,c,L,h⟩:=h;⟨b,c,L,h.aN hk hn⟩
theorem qK.same(h:qK w S g T d)(hk:Kept Nil w w'):qK w' S g T d:=h.aN hk λ_ _ h=>h
theorem TV.lt(h:TV w S g T d b c L):g<w.heap.size:=bt h.top
theorem TV.wA(h:TV w S g T d b c L){i:Nat}{nd nd':Nd}{v:Value}(hi:L[i]? =some (nd,v)){j:Nat}(hj:j<5){u:Value}
 (hc:kV nd' v=(kV nd v).set j u) (qx:nd'.ch=nd.ch):
 Wr w ⟨b,i*5+j,none⟩/\TV (w.setCell ⟨b,i*5+j,none⟩ u) S g (T.set i nd') d b c (L.set i (nd',v)):=by
 have eA:i<L.length:=(lgeS hi).1;have dD:i*5+j<(qz L).length:=by rw [vF];omega
 refine⟨Row.wr h.row dD,?_⟩;have gL:=Row.set h.row dD u;rw [C5 hi hj (p':=(nd',v)) hc]at gL;have hK:Kept (λk=>k=b) w (w.setCell ⟨b,i*5+j,none⟩ u):=(Kept.refl (λk=>k=b) w).setCell (p:=⟨b,i*5+j,none⟩) (λ_=>rfl) u;have iM:∀(k:Nat) (p:Nd×Value),(L.set i (nd',v))[k]? =some p->∃q,L[k]? =some q/\q.2=p.2/\q.1.ch=p.1.ch:=by
  intro k p hp;rw [List.getElem?_set]at hp;by_cases e:i=k
  ·subst e
   rw [if_pos rfl,if_pos eA]at hp;cases hp;exact⟨_,hi,rfl,qx.symm⟩
  ·rw [if_neg e]at hp
   exact⟨p,hp,rfl,rfl⟩
 exact {
  top:=by rw [List.length_set];exact hK.heap h.top h.gb
  fst:=by rw [List.map_set,h.fst]
  row:=by rw [List.length_set];exact gL
  sU:=λk p hp=>by
   obtain⟨q,hq,h1,h2⟩:=iM k p hp;obtain⟨A,m,hk⟩:=h.sU k q hq;obtain⟨cur,hb⟩:=h.xX;refine⟨A,m,by rw [<-h1,<-h2];exact hk.val,?_,hk.lU⟩;rw [<-h2];exact Row.aN hk.row hK (λk e e2=>hk.ne hb (by decide) (by rw [e,e2]))
  apart:=λk l p q hp hq EI=>by
   obtain⟨p',Je,h1,_⟩:=iM k p hp;obtain⟨q',CJ,h2,_⟩:=iM l q hq;rw [<-h1,<-h2];exact h.apart k l p' q' Je CJ EI
  jC:=h.jC
  iH:=h.iH}
end
theorem qE(b x y:Nat):((⟨b,0,none⟩:Addr).add x).add y=⟨b,x+y,none⟩:=by rw [bO,bO,Nat.zero_add]
theorem oz(b x:Nat):(⟨b,0,none⟩:Addr).add x=⟨b,x,none⟩:=by rw [bO,Nat.zero_add]
section
variable{w:World}{S:Nat->Prop}{g:Nat}{T:List Nd}{d:Int}{b c:Nat}{L:List (Nd×Value)}
theorem TV.go(h:TV w S g T d b c L){k:Option Addr->Nat->Nat->Prop}(hk:k (some ⟨b,0,none⟩) T.length c):
 ∃A n m,w.cell? ((⟨g,0,none⟩:Addr).add 0)=some (.slice A n m)/\k A n m:=⟨_,_,_,by rw [oz];exact h.nodes,hk⟩
theorem TV.goD(h:TV w S g T d b c L){k:Int->Prop}(hk:k d):∃t,w.cell? ((⟨g,0,none⟩:Addr).add 1)=some (.int .i64 t)/\k t:=
 ⟨_,by rw [oz];exact h.LA,hk⟩
theorem TV.Lt(h:TV w S g T d b c L){i:Nat}{nd:Nd}{v:Value}(hi:L[i]? =some (nd,v)){k:Int->Prop}(hk:k nd.parent):
 ∃t,w.cell? (((⟨b,0,none⟩:Addr).add (i*5)).add 0)=some (.int .i64 t)/\k t:=⟨_,by rw [qE];exact h.cell hi (by omega) rfl,hk⟩
theorem TV.Z2(h:TV w S g T d b c L){i:Nat}{nd:Nd}{v:Value}(hi:L[i]? =some (nd,v)){A:Option Addr}{m:Nat}(hv:v=.slice A nd.ch.length m){k:Option Addr->Nat->Nat->Prop}(hk:k A nd.ch.length m):
 ∃A n m,w.cell? (((⟨b,0,none⟩:Addr).add (i*5)).add 1)=some (.slice A n m)/\k A n m:=⟨_,_,_,by rw [qE];exact h.cell hi (by omega) (by rw [hv];rfl),hk⟩
theorem TV.xH(h:TV w S g T d b c L){i:Nat}{nd:Nd}{v:Value}(hi:L[i]? =some (nd,v)){k:Int->Prop}(hk:k nd.lo):
 ∃t,w.cell? (((⟨b,0,none⟩:Addr).add (i*5)).add 2)=some (.int .u64 t)/\k t:=⟨_,by rw [qE];exact h.cell hi (by omega) rfl,hk⟩
theorem TV.CZ(h:TV w S g T d b c L){i:Nat}{nd:Nd}{v:Value}(hi:L[i]? =some (nd,v)){k:Int->Prop}(hk:k nd.hi):
 ∃t,w.cell? (((⟨b,0,none⟩:Addr).add (i*5)).add 3)=some (.int .u64 t)/\k t:=⟨_,by rw [qE];exact h.cell hi (by omega) rfl,hk⟩
theorem TV.AQ(h:TV w S g T d b c L){i:Nat}{nd:Nd}{v:Value}(hi:L[i]? =some (nd,v)){k:Int->Prop}(hk:k nd.free):
 ∃t,w.cell? (((⟨b,0,none⟩:Addr).add (i*5)).add 4)=some (.int .u64 t)/\k t:=⟨_,by rw [qE];exact h.cell hi (by omega) rfl,hk⟩
theorem TV.kept{w':World}(h:TV w S g T d b c L)(hk:Kept Nil w w'):TV w' S g T d b c L:=h.aN hk λ_ _ h=>h
end
section
variable{w:World}{S:Nat->Prop}{g:Nat}{T:List Nd}{d:Int}{K:Value->World->Prop}
theorem z6(h:qK w S g T d)(n:Int)(hK:K (.bool (decide (0<=n/\n<T.length))) w):
 bJ prog jN.id #[.pointer (some ⟨g,0,none⟩),.int .i64 n] w K:=by
 obtain⟨b,c,L,h⟩:=h;refine jN.of (Split.yes rfl (Split.dec (λh0=>h.go ?_) (λh0=>?_)))
 ·rwa [show decide (0<=n/\n<(T.length:Int))=decide (n<(T.length:Int))from by simp [show(0:Int)<=n from h0]]at hK
 ·rwa [decide_eq_false (λe:0<=n/\n<(T.length:Int)=>h0 e.1)]at hK
theorem Jz(h:qK w S g T d)(hT:0<T.length)(n:Int)(hK:K (.int .i64 (if 0<=n/\n<T.length then 0 else 6)) w):
 bJ prog iP.id #[.pointer (some ⟨g,0,none⟩),.int .i64 n] w K:=by
 have h0:=h;obtain⟨b,c,L,h⟩:=h;refine iP.of (Split.no rfl (h.go (Split.no (beq_eq_false_iff_ne.2 (by omega)) (z6 h0 n ⟨_,rfl,?_⟩))));by_cases hn:0<=n/\n<(T.length:Int)
 ·rw [if_pos hn]at hK
  exact Split.no (by simp [hn]) hK
 ·rw [if_neg hn]at hK
  exact Split.yes (by simp only [decide_eq_false hn];rfl) hK
theorem vg(h:qK w S g T d){n:Nat}(hn:n<T.length)(hK:K (.int .i64 0) w):
 bJ prog iP.id #[.pointer (some ⟨g,0,none⟩),.int .i64 n] w K:=Jz h (by omega) n (by rw [if_pos ⟨by omega,by omega⟩];exact hK)
theorem Hg(h:qK w S g T d){n:Nat}{nd:Nd}(hn:T[n]? =some nd)(hK:∀w',Kept Nil w w'->K (.int .u64 (u64.wrap (nd.hi-nd.free))) w'):
 bJ prog ir.id #[.pointer (some ⟨g,0,none⟩),.int .i64 n] w K:=by
 obtain⟨b,c,L,h⟩:=h;have dD:n<T.length:=(lgeS hn).1;obtain⟨v,hv⟩:=h.at_ hn;refine ir.of ?_;unfold ir.W;intro w1;have k1:Kept Nil w w1:=(Kept.refl Nil w).drew;have h1:=h.kept k1;have hb:0<=(n:Int)/\(n:Int)<(T.length:Int):=⟨by omega,by omega⟩;exact h1.go ⟨hb,h1.CZ hv (h1.go ⟨hb,h1.AQ hv (hK w1 k1)⟩)⟩
theorem BG(h:qK w S g T d){n:Nat}{nd:Nd}(hn:T[n]? =some nd)(h0:0<n)(hK:K (.tuple #[.int .i64 nd.parent,.int .i64 0]) w):
 bJ prog gS.id #[.pointer (some ⟨g,0,none⟩),.int .i64 n] w K:=by
 have dD:n<T.length:=(lgeS hn).1;refine gS.of (vg h dD ⟨_,rfl,Split.yes rfl (Split.no (beq_eq_false_iff_ne.2 (by omega)) (Split.no rfl ?_))⟩);obtain⟨b,c,L,h⟩:=h;obtain⟨v,hv⟩:=h.at_ hn;exact h.go ⟨⟨by omega,by omega⟩,h.Lt hv hK⟩
theorem O6:Bu prog kN iT 1 8:=⟨by kernel_rfl,by kernel_rfl⟩
theorem z8:Bu prog jK kM 5 56:=⟨by kernel_rfl,by kernel_rfl⟩
end
theorem gY{x:Int}(h0:0<=x)(h1:x<18446744073709551616):u64.wrap x=x:=by
 simp only [IntKind.wrap,IntKind.bits,IntKind.signed];simp;omega
theorem jG{x:Int}(h0: -9223372036854775808<=x)(h1:x<9223372036854775808):i64.wrap x=x:=by
 simp only [IntKind.wrap,IntKind.bits,IntKind.signed];simp;omega
def xD(T:List Nd)(n p:Nat)(nd pd:Nd)(many:Int):List Nd:=
 (T.set n {nd with lo:=pd.free,hi:=pd.free+many-1,free:=pd.free}).set p {pd with free:=pd.free+many}
section
variable{w:World}{S:Nat->Prop}{g:Nat}{T:List Nd}{d:Int}{K:Value->World->Prop}
theorem jU{α:Type}{L:List α}{i:Nat}{x y:α}(h:L[i]? =some x):(L.set i y)[i]? =some y:=by
 rw [List.getElem?_set_self (lgeS h).1]
theorem pZ{α:Type}{L:List α}{i j:Nat}{x y:α}(h:L[j]? =some x)(gQ:i≠j):(L.set i y)[j]? =some x:=by
 rw [List.getElem?_set_ne gQ];exact h
theorem wo{b c:Nat}{L:List (Nd×Value)}(h:TV w S g T d b c L){n p:Nat}{nd pd:Nd}{many:Int}(hn:T[n]? =some nd)(hp:T[p]? =some pd)(UN:nd.parent=p)(gQ:n≠p)
 (hf:0<=pd.free) (hm:1<=many) (hfm:pd.free+many<18446744073709551616)
 (hK:∀w' L',TV w' S g (xD T n p nd pd many) d b c L'->Kept (λk=>k=b) w w'->K (.tuple #[]) w'):
 bJ prog iu.id #[.pointer (some ⟨g,0,none⟩),.int .i64 n,.int .u64 many] w K:=by
 have Bq:n<T.length:=(lgeS hn).1;have rZ:p<T.length:=(lgeS hp).1;obtain⟨v,hv⟩:=h.at_ hn;obtain⟨u,hu⟩:=h.at_ hp;have hbn:0<=(n:Int)/\(n:Int)<(T.length:Int):=⟨by omega,by omega⟩;have Qm:0<=nd.parent/\nd.parent<(T.length:Int):=by rw [UN];exact⟨by omega,by omega⟩
 refine iu.of (h.go ⟨hbn,Is.mk rfl ?_⟩);intro w7;have k7:Kept (λk=>k=b) w w7:=(Kept.refl _ w).drew;have h7:TV w7 S g T d b c L:=h.kept (Kept.refl Nil w).drew;refine h7.go (h7.Lt hv ⟨Qm,Is.mk rfl ?_⟩);rw [UN];refine h7.AQ hu ?_;obtain⟨wr1,DA⟩:=h7.wA hv (j:=2) (by omega) (u:=.int .u64 pd.free) (nd':= {nd with lo:=pd.free}) rfl rfl;have kS:∀ {w w':World},Kept (λk=>k=b) w w'->∀(j:Nat) (u:Value),Kept (λk=>k=b) w (w'.setCell ⟨b,j,none⟩ u):=λk j u=>k.setCell (λ_=>rfl) u;have v1:(L.set n ({nd with lo:=pd.free},v))[n]? =some ({nd with lo:=pd.free},v):=jU hv;refine⟨by rw [qE];exact wr1,?_⟩;intro oD;have e13:oD=w7.setCell ⟨b,n*5+2,none⟩ (.int .u64 pd.free):=by simp only [oD,qE,Int.toNat_natCast]
 have Cz:Kept (λk=>k=b) w oD:=by rw [e13];exact kS k7 _ _
 rw [<-e13]at DA;clear_value oD;refine DA.xH v1 ?_;obtain⟨wr2,IB⟩:=DA.wA v1 (j:=3) (by omega) (u:=.int .u64 (u64.wrap (u64.wrap (pd.free+many)-1))) (nd':= {nd with lo:=pd.free,hi:=pd.free+many-1}) (by rw [gY (x:=pd.free+many) (by omega) (by omega),gY (by omega) (by omega)];rfl) rfl;refine⟨by rw [qE];exact wr2,?_⟩;intro mM;have e15:mM=oD.setCell ⟨b,n*5+3,none⟩ (.int .u64 (u64.wrap (u64.wrap (pd.free+many)-1))):=by simp only [mM,qE,Int.toNat_natCast]
 have qI:Kept (λk=>k=b) w mM:=by rw [e15];exact kS Cz _ _
 rw [<-e15]at IB;clear_value mM;rw [List.set_set,List.set_set]at IB;have v2:(L.set n ({nd with lo:=pd.free,hi:=pd.free+many-1},v))[n]? =some ({nd with lo:=pd.free,hi:=pd.free+many-1},v):=jU hv;refine IB.xH v2 ?_;obtain⟨wr3,My⟩:=IB.wA v2 (j:=4) (by omega) (u:=.int .u64 pd.free) (nd':= {nd with lo:=pd.free,hi:=pd.free+many-1,free:=pd.free}) rfl rfl;refine⟨by rw [qE];exact wr3,?_⟩;intro tz;have e17:tz=mM.setCell ⟨b,n*5+4,none⟩ (.int .u64 pd.free):=by simp only [tz,qE,Int.toNat_natCast]
 have Em:Kept (λk=>k=b) w tz:=by rw [e17];exact kS qI _ _
 rw [<-e17]at My;clear_value tz;rw [List.set_set,List.set_set]at My;have u3:(L.set n ({nd with lo:=pd.free,hi:=pd.free+many-1,free:=pd.free},v))[p]? =some (pd,u):=pZ hu gQ;refine My.AQ u3 ?_;obtain⟨wr4,ZY⟩:=My.wA u3 (j:=4) (by omega) (u:=.int .u64 (u64.wrap (pd.free+many))) (nd':= {pd with free:=pd.free+many}) (by rw [gY (by omega) (by omega)];rfl) rfl;refine⟨by rw [qE];exact wr4,?_⟩;intro pI;have e19:pI=tz.setCell ⟨b,p*5+4,none⟩ (.int .u64 (u64.wrap (pd.free+many))):=by simp only [pI,qE,Int.toNat_natCast]
 exact hK pI _ (by rw [e19];exact ZY) (by rw [e19];exact kS Em _ _)
theorem Hh(h:qK w S g T d){n p:Nat}{nd pd:Nd}{many:Int}(hn:T[n]? =some nd)(hp:T[p]? =some pd)(UN:nd.parent=p)(gQ:n≠p)
 (hf:0<=pd.free) (hm:1<=many) (hfm:pd.free+many<18446744073709551616)
 (hK:∀w',qK w' S g (xD T n p nd pd many) d->Kept S w w'->K (.tuple #[]) w'):
 bJ prog iu.id #[.pointer (some ⟨g,0,none⟩),.int .i64 n,.int .u64 many] w K:=by
 obtain⟨b,c,L,h⟩:=h;exact wo h hn hp UN gQ hf hm hfm λw' L' h' k'=>hK w' ⟨b,c,L',h'⟩ (k'.mono λk _ e=>by rw [e];exact h.iH)
end
section
variable{w:World}{S:Nat->Prop}{g:Nat}{T:List Nd}{d:Int}{b c:Nat}{L:List (Nd×Value)}
theorem C6(L M:List (Nd×Value)):qz (L++M)=qz L++qz M:=by simp [qz]
theorem TV.Lq(h:TV w S g T d b c L)(nS:T.length<=1000000)(p:Int){w10:World}
 (e10:w10=w.alloc (.cells #[.int .i64 p,.slice none 0 0,.int .u64 0,.int .u64 0,.int .u64 0] kM)):
 ∃A c' nM,(Builtin.append_ #[jK,jK] jK #[.slice (some ⟨b,0,none⟩) T.length c,.slice (some ⟨w.heap.size,0,none⟩) 1 1]).run prog w10=.ok (.slice A (T.length+1) c') nM/\
  Wr nM ⟨g,0,none⟩/\∃b' S' L',TV (nM.setCell ⟨g,0,none⟩ (.slice A (T.length+1) c')) S' g (T++ [⟨p,[],0,0,0⟩]) d b' c' L'/\(∀(i:Nat) q,L[i]? =some q->L'[i]? =some q)/\
   Kept S w (nM.setCell ⟨g,0,none⟩ (.slice A (T.length+1) c'))/\(∀k,S k->S' k)/\(∀k,S' k->S k\/w.heap.size<=k):=by
 subst e10;generalize R9:w.alloc (.cells #[.int .i64 p,.slice none 0 0,.int .u64 0,.int .u64 0,.int .u64 0] kM)=w10;have oY:w10.heap[w.heap.size]? =some (.cells #[.int .i64 p,.slice none 0 0,.int .u64 0,.int .u64 0,.int .u64 0] kM (0,0)):=by rw [<-R9];exact aO w _
 have oV:Kept Nil w w10:=by rw [<-R9];exact(Kept.refl Nil w).alloc _
 have NK:w10.heap.size=w.heap.size+1:=by rw [<-R9];simp
 have wh:=h.kept oV;obtain⟨A,c',nM,hr,gL,hg,EU⟩:=gU (P:=prog) (t:=jK) (ty:=jK) z8 wh.row (a:=⟨w.heap.size,0,none⟩) (m:=1) (cx:=1)
  (news:=kV ⟨p,[],0,0,0⟩ (.slice none 0 0)) rfl (λj u hj=>by rw [oz,aI oY];simpa [kV]using hj) (by intro u hu;simp [kV]at hu;rcases hu with rfl|rfl|rfl|rfl|rfl<;>rfl)
  (by omega) (by unfold maxLen;omega) (Nat.zero_le _)
 obtain⟨b',rfl⟩:=Row.some gL (by omega);have kb:Kept (λk=>k=b) w10 nM:=(Kept.refl _ w10).grown hg (λk hk _=>by cases hk;rfl);have kI:nM.heap[g]? =some (.cells #[.slice (some ⟨b,0,none⟩) T.length c,.int .i64 d] vJ (0,0)):=kb.heap wh.top h.gb;refine⟨_,c',nM,hr,eI kI (show 0<2 by omega),?_⟩;generalize W3:nM.setCell ⟨g,0,none⟩ (.slice (some ⟨b',0,none⟩) (T.length+1) c')=wf;have kg:Kept (λk=>k=g) nM wf:=by rw [<-W3];exact(Kept.refl (λk=>k=g) nM).setCell (p:=⟨g,0,none⟩) (λ_=>rfl) _
 have xz:b'=b\/w10.heap.size<=b':=by
  rcases EU b' rfl with h|h
  ·left;cases h;rfl
  ·exact .inr h
 have afD:b'≠g:=by
  rintro rfl;obtain⟨_,cur,hc⟩:=Row.bX gL (k:=b') rfl;rw [kI]at hc;injection hc with hc;injection hc with _ ht;exact absurd ht (by decide)
 have Ip:∀(i:Nat) (q:Nd×Value),L[i]? =some q->∃A m,Kid wf S q A m:=by
  intro i q hq;obtain⟨A,m,hk⟩:=wh.sU i q hq;obtain⟨cur,UZ⟩:=wh.xX;have r1:=Row.aN hk.row kb (λk e e2=>hk.ne UZ (by decide) (by rw [e,e2]));have r2:=Row.aN r1 kg (λk e e2=>hk.ne wh.top (by decide) (by rw [e,e2]));exact⟨A,m,hk.val,r2,hk.lU⟩
 refine⟨b',λk=>S k\/k=b',L++ [(⟨p,[],0,0,0⟩,.slice none 0 0)],?_,λi q hq=>?_,?_,λk hk=>.inl hk,?_⟩
 ·exact {
   top:=by
    have:=dL kI 0 (.slice (some ⟨b',0,none⟩) (T.length+1) c');rw [W3]at this;simpa using this
   fst:=by simp [h.fst]
   row:=by
    rw [C6,List.length_append];have:=Row.aN gL kg (λk e e2=>afD (by cases e;exact e2));simpa [qz]using this
   sU:=λi q hq=>by
    rw [List.getElem?_append]at hq;split at hq
    ·obtain⟨A,m,hk⟩:=Ip i q hq
     exact⟨A,m,hk.val,hk.row,λk e=>.inl (hk.lU k e)⟩
    ·rename_i dD
     have:i-L.length=0:=by
      rcases Nat.eq_zero_or_pos (i-L.length)with h|h
      ·exact h
      ·rw [List.getElem?_eq_none (by simp;omega)]at hq;cases hq
     rw [this]at hq;simp at hq;subst hq;exact⟨none,0,rfl,Row.nil _ _ _ _,λk e=>by cases e⟩
   apart:=λi j q q' hq CJ sY k hk qm=>by
    rw [List.getElem?_append]at hq CJ;have last:∀(x:Nat) (r:Nd×Value),[((⟨p,[],0,0,0⟩:Nd),Value.slice none 0 0)][x]? =some r->r.2=.slice none 0 0:=by
     intro x r hr;cases x with
     |zero=>simp at hr;subst hr;rfl
     |succ x=>simp at hr
    split at hq<;>split at CJ
    ·exact h.apart i j q q' hq CJ sY k hk qm
    ·rw [last _ _ CJ]at qm;cases qm
    ·rw [last _ _ hq]at hk;cases hk
    ·rw [last _ _ CJ]at qm;cases qm
   jC:=.inl h.jC
   iH:=.inr rfl}
 ·rw [List.getElem?_append_left (lgeS hq).1];exact hq
 ·have yl:Kept S w nM:=(oV.mono (S':=S) (λ_ _ h=>h.elim)).trans kb (λk _ e=>by rw [e];exact h.iH)
  exact yl.trans kg (λk _ e=>by rw [e];exact h.jC)
 ·rintro k (hk|rfl)
  ·exact .inl hk
  ·rcases xz with rfl|xz
   ·exact .inl h.iH
   ·right;omega
theorem TV.OD(h:TV w S g T d b c L){p:Nat}{nd:Nd}{v:Value}(hp:L[p]? =some (nd,v)){A:Option Addr}{m:Nat}(hk:Kid w S (nd,v) A m)(nS:nd.ch.length<=1000000)(n:Nat){w22:World}
 (e22:w22=w.alloc (.cells #[.int .i64 n] iT)):
 ∃A' c' nQ,(Builtin.append_ #[kN,kN] kN #[.slice A nd.ch.length m,.slice (some ⟨w.heap.size,0,none⟩) 1 1]).run prog w22=.ok (.slice A' (nd.ch.length+1) c') nQ/\
  nQ.cell? ⟨g,0,none⟩=some (.slice (some ⟨b,0,none⟩) T.length c)/\Wr nQ ⟨b,p*5+1,none⟩/\
  ∃S' L',TV (nQ.setCell ⟨b,p*5+1,none⟩ (.slice A' (nd.ch.length+1) c')) S' g (T.set p {nd with ch:=nd.ch++ [n]}) d b c L'/\
   Kept S w (nQ.setCell ⟨b,p*5+1,none⟩ (.slice A' (nd.ch.length+1) c'))/\(∀k,S k->S' k)/\(∀k,S' k->S k\/w.heap.size<=k):=by
 subst e22;generalize R7:w.alloc (.cells #[.int .i64 n] iT)=w22;have oY:w22.heap[w.heap.size]? =some (.cells #[.int .i64 n] iT (0,0)):=by rw [<-R7];exact aO w _
 have RF:Kept Nil w w22:=by rw [<-R7];exact(Kept.refl Nil w).alloc _
 have al7:w22.heap.size=w.heap.size+1:=by rw [<-R7];simp
 have EZ:=h.kept RF;have Sl:=Row.aN hk.row RF (λ_ _ h=>h);have rZ:p<L.length:=(lgeS hp).1;obtain⟨A',c',nQ,hr,gL,hg,EU⟩:=gU (P:=prog) (t:=kN) (ty:=kN) O6 Sl (a:=⟨w.heap.size,0,none⟩) (m:=1) (cx:=1)
  (news:=ints [n]) rfl (λj u hj=>by rw [oz,aI oY];simpa [ints]using hj) (by intro u hu;simp [ints]at hu;subst hu;rfl)
  (by simp only;omega) (by unfold maxLen;simp only;omega) (Nat.zero_le _)
 obtain⟨cur,UZ⟩:=EZ.xX;obtain⟨aoB,hb0⟩:=h.xX;have P7:bL A≠some b:=hk.ne hb0 (by decide);have hkg:bL A≠some g:=hk.ne h.top (by decide);have kA:Kept (λk=>bL A=some k) w22 nQ:=(Kept.refl _ w22).grown hg (λk hk _=>hk);have Lp:Row nQ 0 kM 5 (some ⟨b,0,none⟩) T.length c (qz L):=Row.aN EZ.row kA (λk e e2=>P7 (by rw [e2,<-e];rfl));have Lo:=kA.heap EZ.top (λe=>hkg e);have dD:p*5+1<(qz L).length:=by rw [vF];omega
 refine⟨A',c',nQ,hr,by rw [aI Lo];rfl,Row.wr Lp dD,?_⟩;generalize W3:nQ.setCell ⟨b,p*5+1,none⟩ (.slice A' (nd.ch.length+1) c')=wf;have kB:Kept (λk=>k=b) nQ wf:=by rw [<-W3];exact(Kept.refl (λk=>k=b) nQ).setCell (p:=⟨b,p*5+1,none⟩) (λ_=>rfl) _
 have agh:bL A'≠some b:=by
  intro e;obtain⟨_,aad,hc⟩:=Row.bX gL e;have:=kA.heap UZ P7;rw [this]at hc;injection hc with hc;injection hc with _ ht;exact absurd ht (by decide)
 have qv:∀(A:Option Addr) n m,Value.ownBlock (.slice A n m)=bL A:=by intro A n m;cases A<;>rfl
 have iM:∀(i:Nat) (q:Nd×Value),(L.set p ({nd with ch:=nd.ch++ [n]},.slice A' (nd.ch.length+1) c'))[i]? =some q->(i=p/\q=({nd with ch:=nd.ch++ [n]},.slice A' (nd.ch.length+1) c'))\/(i≠p/\L[i]? =some q):=by
  intro i q hq;by_cases e:p=i
  ·subst e
   rw [List.getElem?_set_self rZ]at hq;cases hq;exact .inl ⟨rfl,rfl⟩
  ·rw [List.getElem?_set_ne e]at hq
   exact .inr ⟨λh=>e h.symm,hq⟩
 have PY:∀k,bL A'=some k->∀(i:Nat) (q:Nd×Value),i≠p->L[i]? =some q->Value.ownBlock q.2≠some k:=by
  intro k qm i q hi hq hqk;rcases EU k qm with e|e
  ·exact h.apart p i _ _ hp hq (λe=>hi e.symm) k (by rw [hk.val,qv];exact e) hqk
  ·obtain⟨A2,m2,ql⟩:=h.sU i q hq
   rw [ql.val,qv]at hqk;obtain⟨_,aoA,ES⟩:=Row.bX ql.row hqk;have:=bt ES;omega
 refine⟨λk=>S k\/bL A'=some k,L.set p ({nd with ch:=nd.ch++ [n]},.slice A' (nd.ch.length+1) c'),?_,?_,λk hk=>.inl hk,?_⟩
 ·exact {
   top:=by rw [List.length_set];exact kB.heap Lo h.gb
   fst:=by rw [List.map_set,h.fst]
   row:=by
    rw [List.length_set];have:=Row.set Lp dD (.slice A' (nd.ch.length+1) c');rw [W3,C5 hp (j:=1) (by omega) (p':=({nd with ch:=nd.ch++ [n]},.slice A' (nd.ch.length+1) c')) rfl]at this;exact this
   sU:=λi q hq=>by
    rcases iM i q hq with⟨rfl,rfl⟩|⟨hi,hq⟩
    ·refine⟨A',c',by simp,?_,λk e=>.inr e⟩
     have:=Row.aN gL kB (λk e e2=>agh (by rw [e,e2]));simpa [ints]using this
    ·obtain⟨A2,m2,ql⟩:=EZ.sU i q hq
     have r1:=Row.aN ql.row kA (λk e e2=>h.apart p i _ _ hp hq (λe=>hi e.symm) k (by rw [hk.val,qv];exact e2) (by rw [ql.val,qv];exact e));have r2:=Row.aN r1 kB (λk e e2=>ql.ne UZ (by decide) (by rw [e,e2]));exact⟨A2,m2,ql.val,r2,λk e=>.inl (ql.lU k e)⟩
   apart:=λi j q q' hq CJ sY k Mr ql=>by
    rcases iM i q hq with⟨e1,e2⟩|⟨hi,PR⟩<;>rcases iM j q' CJ with⟨e3,e4⟩|⟨hj,UL⟩
    ·exact sY (e1.trans e3.symm)
    ·rw [e2,qv]at Mr;exact PY k Mr j q' hj UL ql
    ·rw [e4,qv]at ql;exact PY k ql i q hi PR Mr
    ·exact h.apart i j q q' PR UL sY k Mr ql
   jC:=.inl h.jC
   iH:=.inl h.iH}
 ·have tA:Kept S w nQ:=(RF.mono (S':=S) (λ_ _ h=>h.elim)).trans kA (λk _ e=>hk.lU k e)
  exact tA.trans kB (λk _ e=>by rw [e];exact h.iH)
 ·rintro k (qm|qm)
  ·exact .inl qm
  ·rcases EU k qm with e|e
   ·exact .inl (hk.lU k e)
   ·right;omega
end
def grown(T:List Nd)(p:Nat)(pd:Nd):List Nd:=(T++ [(⟨p,[],0,0,0⟩:Nd)]).set p {pd with ch:=pd.ch++ [T.length]}
def kK(pd:Nd):Int:=(pd.hi-pd.free+1)/2
def added(T:List Nd)(p:Nat)(pd:Nd):List Nd:=xD (grown T p pd) T.length p ⟨p,[],0,0,0⟩ {pd with ch:=pd.ch++ [T.length]} (kK pd)
section
variable{w:World}{S:Nat->Prop}{g:Nat}{T:List Nd}{d:Int}{K:Value->World->Prop}
theorem wq(h:qK w S g T d){p:Nat}{pd:Nd}(hp:T[p]? =some pd)(nS:T.length<=1000000)(qx:pd.ch.length<=1000000)
 (hf:0<=pd.free) (hfh:pd.free<=pd.hi) (hh:pd.hi<=4611686018427387904)
 (hK1:pd.free<pd.hi->∀w' S',qK w' S' g (added T p pd) d->Kept S w w'->(∀k,S' k->S k\/w.heap.size<=k)->K (.tuple #[.int .i64 T.length,.int .i64 0]) w')
 (hK2:pd.free=pd.hi->∀w' S',qK w' S' g (grown T p pd) d->Kept S w w'->(∀k,S' k->S k\/w.heap.size<=k)->
   bJ prog aJ.id #[.pointer (some ⟨g,0,none⟩),.int .i64 p] w' λv mN=>v=.tuple #[]/\K (.tuple #[.int .i64 T.length,.int .i64 0]) mN):
 bJ prog iQ.id #[.pointer (some ⟨g,0,none⟩),.int .i64 p] w K:=by
 have dD:p<T.length:=(lgeS hp).1;refine iQ.of (vg h dD ⟨_,rfl,Split.no rfl ?_⟩);obtain⟨b,c,L,h⟩:=h;obtain⟨v,hv⟩:=h.at_ hp;refine h.go (h.go ⟨rfl,?_⟩);intro w10;obtain⟨A1,c1,nM,oE,wr1,b1,S1,L1,h14,hL1,Du,hS1,ZI⟩:=h.Lq nS (p:Int) (w10:=w10) rfl;refine⟨A1,_,c1,nM,oE,by rw [oz];exact wr1,?_⟩;intro jg;have e14:jg=nM.setCell ⟨g,0,none⟩ (.slice A1 (T.length+1) c1):=by simp only [jg,oz]
 rw [<-e14]at h14 Du;clear_value jg;intro mM;have qI:Kept Nil jg mM:=(Kept.refl Nil jg).drew;have IB:=h14.kept qI;have Mi:=hL1 _ _ hv;have hlen:(T++ [(⟨p,[],0,0,0⟩:Nd)]).length=T.length+1:=by simp
 have Qr:0<=(p:Int)/\(p:Int)<((T++ [(⟨p,[],0,0,0⟩:Nd)]).length:Int):=by rw [hlen];exact⟨by omega,by omega⟩
 obtain⟨A2,m2,hk⟩:=IB.sU _ _ Mi;refine IB.go (IB.go ⟨Qr,IB.Z2 Mi hk.val ?_⟩);intro w22;have RF:Kept Nil mM w22:=(Kept.refl Nil mM).alloc _;have EZ:=IB.kept RF;obtain⟨A3,c3,nQ,yF,Yc,wr3,S3,L3,h26,H6,hS3,afS⟩:=IB.OD Mi hk qx T.length (w22:=w22) rfl;have CP:=EZ.cell Mi (j:=1) (by omega) (v:=v) rfl;have hvv:v=.slice A2 pd.ch.length m2:=hk.val;rw [hvv]at CP;refine⟨by rw [qE];exact CP,by rw [oz];exact EZ.nodes,by rw [oz];exact EZ.nodes,A3,_,c3,nQ,yF,by rw [oz];exact Yc,Qr,by rw [qE];exact wr3,?_⟩;intro sK;have e26:sK=nQ.setCell ⟨b1,p*5+1,none⟩ (.slice A3 (pd.ch.length+1) c3):=by simp only [sK,qE,Int.toNat_natCast]
 rw [<-e26]at h26 H6;clear_value sK;have NH:(T++ [(⟨p,[],0,0,0⟩:Nd)]).set p {pd with ch:=pd.ch++ [T.length]}=grown T p pd:=rfl;rw [NH]at h26;have hgp:(grown T p pd)[p]? =some {pd with ch:=pd.ch++ [T.length]}:=by
  unfold grown;rw [List.getElem?_set_self (by simp;omega)]
 have hgn:(grown T p pd)[T.length]? =some ⟨p,[],0,0,0⟩:=by
  unfold grown;rw [List.getElem?_set_ne (by omega)];simp
 have kw:Kept S w sK:=(Du.tt (qI.mono (S':=S) (λ_ _ h=>h.elim))).trans H6 (λk hk h=>by
  rcases ZI k h with h|h
  ·exact h
  ·omega)
 have TJ:∀k,S3 k->S k\/w.heap.size<=k:=λk h=>by
  rcases afS k h with h|h
  ·exact ZI k h
  ·right
   have:=Du.size;have:=qI.size;omega
 refine Hg ⟨_,_,_,h26⟩ hgp λI5 Km=>⟨_,rfl,?_⟩;have h28:=h26.kept Km;have We:Kept S w I5:=kw.trans Km (λ_ _ h=>h.elim);simp only [];rw [gY (x:=pd.hi-pd.free) (by omega) (by omega)];refine Split.dec (λkW=>⟨by decide,?_⟩) (λkW=>?_)
 ·have GH:u64.wrap ((u64.wrap (pd.hi-pd.free+1)).tdiv 2)=kK pd:=by
   rw [gY (x:=pd.hi-pd.free+1) (by omega) (by omega),Int.tdiv_eq_ediv_of_nonneg (by omega),gY (by omega) (by omega)];rfl
  rw [GH];refine Hh ⟨_,_,_,h28⟩ hgn hgp rfl (by omega) hf (by unfold kK;omega) (by unfold kK;simp only;omega) λJs h31 Pq=>⟨rfl,?_⟩;refine hK1 (by omega) Js S3 h31 (We.trans Pq λk hk h=>?_) TJ;rcases TJ k h with h|h
  ·exact h
  ·omega
 ·exact hK2 (by omega) I5 S3 ⟨_,_,_,h28⟩ We TJ
end
section
variable{w:World}{S:Nat->Prop}{g:Nat}{T:List Nd}{d:Int}{K:Value->World->Prop}
def sA:List Nd:= [⟨-1,[],1,4611686018427387904,1⟩]
theorem fZ(hK:∀w' g,qK w' (λk=>w.heap.size<=k) g sA 0->Kept Nil w w'->K (.pointer (some ⟨g,0,none⟩)) w'):bJ prog fZ.id #[] w K:=by
 refine fZ.of ⟨rfl,?_⟩;intro w1 w2;have k1:Kept Nil w w1:=(Kept.refl Nil w).alloc _;have k2:Kept Nil w w2:=k1.alloc _;refine hK w2 w1.heap.size ⟨w.heap.size,1,[(⟨-1,[],1,4611686018427387904,1⟩,.slice none 0 0)],?_⟩ k2;exact {
  top:=aO w1 _
  fst:=rfl
  row:=Row.made (n:=1) (cur:= #[.int .i64 (-1),.slice none 0 0,.int .u64 1,.int .u64 4611686018427387904,.int .u64 1]) (mh (aO w _) _) (Nat.zero_le _) rfl (by decide)
  sU:=λi p hp=>by
   cases i with
   |zero=>simp at hp;subst hp;exact⟨none,0,rfl,Row.nil _ _ _ _,λk e=>by cases e⟩
   |succ i=>simp at hp
  apart:=λi j p q hp hq sY=>by
   cases i<;>cases j<;>simp at hp hq
   exact absurd rfl sY
  jC:=k1.size
  iH:=Nat.le_refl _}
theorem DO(h:qK w S g T d){a b:Nat}{ad bd:Nd}(ha:T[a]? =some ad)(hb:T[b]? =some bd)(hK:∀w',Kept Nil w w'->K (.bool (decide (bd.lo<=ad.lo/\ad.hi<=bd.hi))) w'):
 bJ prog gM.id #[.pointer (some ⟨g,0,none⟩),.int .i64 a,.int .i64 b] w K:=by
 have hal:a<T.length:=(lgeS ha).1;have EU:b<T.length:=(lgeS hb).1;have hba:0<=(a:Int)/\(a:Int)<(T.length:Int):=⟨by omega,by omega⟩;have yK:0<=(b:Int)/\(b:Int)<(T.length:Int):=⟨by omega,by omega⟩;refine gM.of ?_;unfold gM.W;intro w4;have k4:Kept Nil w w4:=(Kept.refl Nil w).drew;have h4:=h.same k4;have hk:=hK w4 k4;refine z6 h4 a ⟨_,rfl,Split.yes (decide_eq_true hba) ?_⟩;refine z6 h4 b ⟨_,rfl,Split.yes (decide_eq_true yK) ?_⟩;obtain⟨p,c,L,h4⟩:=h4;obtain⟨va,hva⟩:=h4.at_ ha;obtain⟨vb,hvb⟩:=h4.at_ hb;refine h4.go ⟨yK,h4.xH hvb (h4.go ⟨hba,h4.xH hva ?_⟩)⟩;refine Split.dec (λh1=>h4.go ⟨hba,h4.CZ hva (h4.go ⟨yK,h4.CZ hvb ?_⟩)⟩) (λh1=>?_)
 ·rwa [show decide (bd.lo<=ad.lo/\ad.hi<=bd.hi)=decide (ad.hi<=bd.hi)from by simp [h1]]at hk
 ·rwa [decide_eq_false (λe:bd.lo<=ad.lo/\ad.hi<=bd.hi=>h1 e.1)]at hk
end
section
variable{w:World}{t:Option Addr}{K:Value->World->Prop}
end
end Go.Proofs.YtfleamccglihoaaGreatDoor.Tr
namespace Go.Proofs.YtfleamccglihoaaGreatDoor.Tr
open Go.Proofs.Tryz
def cK(T:List Nd):List Int:=T.map (·.parent)
structure nK(P:List Int):Prop where
 root:P[0]? =some (-1)
 up:∀(i:Nat) (p:Int),0<i->P[i]? =some p->∃j:Nat,j<i/\p=j
def kids(P:List Int)(i:Nat):List Nat:=(List.range P.length).filter λj=>P[j]? ==some (i:Int)
theorem gh{P:List Int}{i j:Nat}:j∈kids P i↔P[j]? =some (i:Int):=by
 simp only [kids,List.mem_filter,List.mem_range,beq_iff_eq];exact⟨λh=>h.2,λh=>⟨(lgeS h).1,h⟩⟩
theorem ki{P:List Int}(hP:nK P){i j:Nat}(h:j∈kids P i):i<j/\j<P.length:=by
 rw [gh]at h;refine⟨?_,(lgeS h).1⟩;rcases Nat.eq_zero_or_pos j with rfl|hj
 ·rw [hP.root]at h;have:=Option.some.inj h;omega
 ·obtain⟨k,hk,e⟩:=hP.up j _ hj h
  omega
theorem vv(P:List Int)(i:Nat):(kids P i).Pairwise (· < ·):=List.Pairwise.filter _ (List.pairwise_lt_range)
theorem Cs(P:List Int)(i:Nat):(kids P i).length<=P.length:=by
 unfold kids;exact Nat.le_trans (List.length_filter_le _ _) (by simp)
inductive lV (P:List Int):Nat->Nat->Prop
 |refl {i:Nat}:i<P.length->lV P i i
 |step {i j k:Nat}:P[i]? =some (j:Int)->lV P j k->lV P i k
theorem lV.lt{P:List Int}{i k:Nat}(h:lV P i k):i<P.length:=by
 cases h with
 |refl h=>exact h
 |step h _=>exact(lgeS h).1
theorem lV.lt'{P:List Int}{i k:Nat}(h:lV P i k):k<P.length:=by
 induction h with
 |refl h=>exact h
 |step _ _ ih=>exact ih
theorem lV.le{P:List Int}(hP:nK P){i k:Nat}(h:lV P i k):k<=i:=by
 induction h with
 |refl=>omega
 |step h _ ih=>have:=(ki hP (gh.2 h)).1;omega
theorem lV.trans{P:List Int}{i j k:Nat}(h:lV P i j)(h':lV P j k):lV P i k:=by
 induction h with
 |refl=>exact h'
 |step h _ ih=>exact .step h (ih h')
theorem lV.inv{P:List Int}{i j k:Nat}(h:lV P i k)(gQ:i≠k)(hj:P[i]? =some (j:Int)):lV P j k:=by
 cases h with
 |refl=>exact absurd rfl gQ
 | @step _ j' _ h h'=>
   rw [hj]at h;have e:j=j':=by have:=Option.some.inj h;omega
   rw [e];exact h'
theorem lV.child{P:List Int}{i k:Nat}(h:lV P i k)(gQ:i≠k):∃c,c∈kids P k/\lV P i c:=by
 induction h with
 |refl=>exact absurd rfl gQ
 | @step i j k h h' ih=>
   by_cases e:j=k
   ·subst e
    exact⟨i,gh.2 h,.refl (lgeS h).1⟩
   ·obtain⟨c,hc,hu⟩:=ih e
    exact⟨c,hc,.step h hu⟩
structure Iv(nd:Nd):Prop where
 lo1:1<=nd.lo
 le:nd.lo<=nd.hi
 top:nd.hi<=4611686018427387904
structure Loc(T:List Nd)(nd:Nd):Prop where
 Jg:nd.lo<=nd.free
 Fe:nd.free<=nd.hi
 sub:∀c cd,c∈nd.ch->T[c]? =some cd->nd.lo<=cd.lo/\cd.hi<nd.free
 ord:∀(c c':Nat) cd sr,c∈nd.ch->c'∈nd.ch->c<c'->T[c]? =some cd->T[c']? =some sr->cd.hi<sr.lo
structure Shape(T:List Nd):Prop where
 par:nK (cK T)
 ch:∀(i:Nat) nd,T[i]? =some nd->nd.ch=kids (cK T) i
structure Good(T:List Nd):Prop extends Shape T where
 iv:∀(i:Nat) nd,T[i]? =some nd->Iv nd
 loc:∀(i:Nat) nd,T[i]? =some nd->Loc T nd
theorem mR{T:List Nd}{i:Nat}{nd:Nd}(h:T[i]? =some nd):(cK T)[i]? =some nd.parent:=by simp [cK,h]
theorem gg(T:List Nd):(cK T).length=T.length:=by simp [cK]
theorem Shape.pos{T:List Nd}(h:Shape T):0<T.length:=by
 have:=(lgeS h.par.root).1
 rwa [gg]at this
theorem Good.sU{T:List Nd}(h:Good T){c k:Nat}{cd kd:Nd}(hc:c∈kids (cK T) k)(lI:T[c]? =some cd)(Yx:T[k]? =some kd):
 kd.lo<=cd.lo/\cd.hi<kd.free:=(h.loc k kd Yx).sub c cd (by rw [h.ch k kd Yx];exact hc) lI
theorem iC{T:List Nd}{i:Nat}(h:i<T.length):∃nd,T[i]? =some nd:=⟨_,List.getElem?_eq_getElem h⟩
theorem Good.qG{T:List Nd}(h:Good T){a b:Nat}{ad bd:Nd}(ha:T[a]? =some ad)(hb:T[b]? =some bd)(hu:lV (cK T) a b):bd.lo<=ad.lo/\ad.hi<=bd.hi:=by
 induction hu generalizing ad with
 |refl=>rw [ha]at hb;cases hb;omega
 | @step i j k hp h' ih=>
   have vA:j<T.length:=by have:=h'.lt;rwa [gg]at this
   obtain⟨jd,hj⟩:=iC vA;have h1:=ih hj hb;have h2:=h.sU (gh.2 hp) ha hj;have h3:=(h.loc j jd hj).Fe;omega
theorem Good.apart{T:List Nd}(h:Good T):∀(m a b:Nat),a+b<=m->∀ad bd,T[a]? =some ad->T[b]? =some bd->¬lV (cK T) a b->¬lV (cK T) b a->ad.hi<bd.lo\/bd.hi<ad.lo:=by
 intro m
 induction m with
 |zero=>
  intro a b hm ad bd ha hb h1 _;have:a=b:=by omega
  subst this;exact absurd (.refl (by rw [gg];exact(lgeS ha).1)) h1
 |succ m ih=>
  have key:∀(a b:Nat),a+b<=m+1->b<a->∀ad bd,T[a]? =some ad->T[b]? =some bd->¬lV (cK T) a b->¬lV (cK T) b a->ad.hi<bd.lo\/bd.hi<ad.lo:=by
   intro a b hm dD ad bd ha hb h1 h2;have hal:=(lgeS ha).1;obtain⟨p,hp,e⟩:=h.par.up a _ (by omega) (mR ha);have hpa:(cK T)[a]? =some (p:Int):=by rw [mR ha,e]
   obtain⟨pd,AM⟩:=iC (T:=T) (i:=p) (by omega);have gD:=h.sU (gh.2 hpa) ha AM;have rZ:=h.loc p pd AM;have vP:¬lV (cK T) p b:=λhu=>h1 (.step hpa hu);by_cases Qm:lV (cK T) b p
   ·have gQ:b≠p:=λe=>vP (by subst e;exact .refl Qm.lt)
    obtain⟨c,hc,PF⟩:=Qm.child gQ;have hca:c≠a:=λe=>h2 (e▸PF);have tB:c<T.length:=by have:=(ki h.par hc).2;rwa [gg]at this
    obtain⟨cd,lI⟩:=iC tB;have Ty:=h.qG hb lI PF;have qx:=h.ch p pd AM;rcases Nat.lt_or_ge c a with dD|gE
    ·have:=rZ.ord c a cd ad (by rw [qx];exact hc) (by rw [qx];exact gh.2 hpa) dD lI ha
     omega
    ·have:=rZ.ord a c ad cd (by rw [qx];exact gh.2 hpa) (by rw [qx];exact hc) (by omega) ha lI
     omega
   ·have:=ih p b (by omega) pd bd AM hb vP Qm
    have:=rZ.Fe;omega
  intro a b hm ad bd ha hb h1 h2;rcases Nat.lt_trichotomy a b with dD|rfl|dD
  ·have:=key b a (by omega) dD bd ad hb ha h2 h1
   omega
  ·exact absurd (.refl (by rw [gg];exact(lgeS ha).1)) h1
  ·exact key a b hm dD ad bd ha hb h1 h2
theorem Good.under{T:List Nd}(h:Good T){a b:Nat}{ad bd:Nd}(ha:T[a]? =some ad)(hb:T[b]? =some bd):(bd.lo<=ad.lo/\ad.hi<=bd.hi)↔lV (cK T) a b:=by
 refine⟨λhi=>?_,λhu=>h.qG ha hb hu⟩;by_cases hu:lV (cK T) a b
 ·exact hu
 ·exfalso
  have ia:=h.iv a ad ha;have ib:=h.iv b bd hb;by_cases hv:lV (cK T) b a
  ·have gQ:b≠a:=λe=>hu (by subst e;exact .refl hv.lt)
   obtain⟨c,hc,PF⟩:=hv.child gQ;have tB:c<T.length:=by have:=(ki h.par hc).2;rwa [gg]at this
   obtain⟨cd,lI⟩:=iC tB;have h1:=h.qG hb lI PF;have h2:=h.sU hc lI ha;have h3:=(h.loc a ad ha).Fe;omega
  ·have:=h.apart (a+b) a b (Nat.le_refl _) ad bd ha hb hu hv
   have:=ia.le;have:=ib.le;omega
theorem zL(T:List Nd)(p:Nat)(pd:Nd):(grown T p pd).length=T.length+1:=by simp [grown]
theorem kX{T:List Nd}{p:Nat}{pd:Nd}(hp:T[p]? =some pd)(i:Nat):(grown T p pd)[i]? =if i=p then some {pd with ch:=pd.ch++ [T.length]}else if i=T.length then some ⟨p,[],0,0,0⟩else T[i]? :=by
 have dD:=(lgeS hp).1;unfold grown;by_cases e:i=p
 ·subst e
  rw [if_pos rfl,List.getElem?_set_self (by simp;omega)]
 ·rw [if_neg e,List.getElem?_set_ne (λh=>e h.symm)]
  by_cases e2:i=T.length
  ·subst e2;simp
  ·rw [if_neg e2]
   rcases Nat.lt_or_ge i T.length with h|h
   ·rw [List.getElem?_append_left h]
   ·rw [List.getElem?_eq_none (by simp;omega),List.getElem?_eq_none h]
theorem ow{T:List Nd}{p:Nat}{pd:Nd}(hp:T[p]? =some pd):cK (grown T p pd)=cK T++ [(p:Int)]:=by
 apply List.ext_getElem?;intro i;have dD:=(lgeS hp).1;simp only [cK,List.getElem?_map,kX hp];by_cases e:i=p
 ·subst e
  rw [if_pos rfl,List.getElem?_append_left (by simpa using dD)];simp [hp]
 ·rw [if_neg e]
  by_cases e2:i=T.length
  ·subst e2;simp
  ·rw [if_neg e2]
   rcases Nat.lt_or_ge i T.length with h|h
   ·rw [List.getElem?_append_left (by simpa using h)];simp
   ·rw [List.getElem?_eq_none h,List.getElem?_eq_none (by simp;omega)];rfl
theorem Ct(P:List Int)(p i:Nat):kids (P++ [(p:Int)]) i=kids P i++if i=p then [P.length]else []:=by
 unfold kids;rw [List.length_append,List.length_singleton,List.range_succ,List.filter_append]
 congr 1
 ·apply List.filter_congr
  intro x hx;rw [List.getElem?_append_left (by simpa using hx)]
 ·by_cases e:i=p
  ·subst e;simp
  ·have:¬((p:Int)=(i:Int)):=by omega
   simp [e,this]
theorem nK.snoc{P:List Int}(h:nK P){p:Nat}(hp:p<P.length):nK (P++ [(p:Int)]):=by
 refine⟨by rw [List.getElem?_append_left (by omega)];exact h.root,λi q hi hq=>?_⟩;rcases Nat.lt_or_ge i P.length with hl|hl
 ·rw [List.getElem?_append_left hl]at hq
  exact h.up i q hi hq
 ·have:i=P.length:=by
   rcases Nat.eq_or_lt_of_le hl with e|e
   ·exact e.symm
   ·rw [List.getElem?_eq_none (by simp;omega)]at hq;cases hq
  subst this;simp at hq;exact⟨p,hp,hq.symm⟩
theorem Shape.grown{T:List Nd}(h:Shape T){p:Nat}{pd:Nd}(hp:T[p]? =some pd):Shape (grown T p pd):=by
 have dD:=(lgeS hp).1;refine⟨by rw [ow hp];exact h.par.snoc (by rw [gg];exact dD),λi nd hi=>?_⟩;rw [ow hp,Ct,gg];rw [kX hp]at hi;by_cases e:i=p
 ·subst e
  rw [if_pos rfl]at hi⊢;cases hi;simp [h.ch i pd hp]
 ·rw [if_neg e]at hi⊢
  rw [List.append_nil];by_cases e2:i=T.length
  ·subst e2
   rw [if_pos rfl]at hi;cases hi
   symm
   apply List.eq_nil_iff_forall_not_mem.2;intro c hc;have:=ki h.par hc;rw [gg]at this;omega
  ·rw [if_neg e2]at hi
   exact h.ch i nd hi
def kl(f:Nat->Nat):Nat->Nat
 |0=>0
 |n+1=>kl f n+f n
theorem mB{f g:Nat->Nat}{n:Nat}(h:∀i,i<n->f i=g i):kl f n=kl g n:=by
 induction n with
 |zero=>rfl
 |succ n ih=>
  simp only [kl];rw [ih (λi hi=>h i (by omega)),h n (by omega)]
theorem BI(f g:Nat->Nat)(n:Nat):kl (λi=>f i+g i) n=kl f n+kl g n:=by
 induction n with
 |zero=>rfl
 |succ n ih=>simp only [kl];omega
theorem nR{f:Nat->Nat}{n:Nat}(h:∀i,i<n->f i=0):kl f n=0:=by
 induction n with
 |zero=>rfl
 |succ n ih=>
  simp only [kl];rw [ih (λi hi=>h i (by omega)),h n (by omega)]
theorem Hj(h:Nat->Nat->Nat)(n m:Nat):kl (λi=>kl (λj=>h i j) m) n=kl (λj=>kl (λi=>h i j) n) m:=by
 induction n with
 |zero=>simp only [kl];exact(nR λ_ _=>rfl).symm
 |succ n ih=>
  simp only [kl];rw [ih,BI]
theorem BH{n k:Nat}(hk:k<n){f:Nat->Nat}(h:∀i,i<n->i≠k->f i=0):kl f n=f k:=by
 induction n with
 |zero=>omega
 |succ n ih=>
  simp only [kl];rcases Nat.lt_or_ge k n with dD|gE
  ·rw [ih dD (λi hi=>h i (by omega)),h n (by omega) (by omega),Nat.add_zero]
  ·have:k=n:=by omega
   subst this;rw [nR (λi hi=>h i (by omega) (by omega)),Nat.zero_add]
theorem MN{f:Nat->Nat}{n b:Nat}(h:∀i,i<n->f i<=b):kl f n<=n*b:=by
 induction n with
 |zero=>simp [kl]
 |succ n ih=>
  simp only [kl];have:=ih (λi hi=>h i (by omega));have:=h n (by omega);rw [Nat.succ_mul];omega
theorem JF{f f':Nat->Nat}{n k:Nat}(hk:k<n){v:Nat}(h:∀i,i<n->i≠k->f' i=f i)(hv:f' k=f k+v):kl f' n=kl f n+v:=by
 induction n with
 |zero=>omega
 |succ n ih=>
  simp only [kl];rcases Nat.lt_or_ge k n with dD|gE
  ·rw [ih dD (λi hi=>h i (by omega)),h n (by omega) (by omega)]
   omega
  ·have:k=n:=by omega
   subst this;rw [mB (λi hi=>h i (by omega) (by omega)),hv];omega
theorem uy(q:Nat->Bool)(f:Nat->Nat)(n:Nat):(((List.range n).filter q).map f).sum=kl (λc=>if q c=true then f c else 0) n:=by
 induction n with
 |zero=>rfl
 |succ n ih=>
  rw [List.range_succ,List.filter_append,List.map_append,List.sum_append,ih];simp only [kl]
  congr 1
  by_cases h:q n=true
  ·simp [h]
  ·simp [h]
section
variable{P:List Int}
theorem lV.cmp{i a b:Nat}(h:lV P i a)(h':lV P i b):lV P a b\/lV P b a:=by
 induction h with
 |refl=>exact .inl h'
 | @step i j k hp h2 ih=>
   by_cases e:i=b
   ·subst e;exact .inr (.step hp h2)
   ·exact ih (h'.inv e hp)
theorem lV.one(hP:nK P){i n c c':Nat}(hc:P[c]? =some (n:Int))(vS:P[c']? =some (n:Int))(h:lV P i c)(h':lV P i c'):c=c':=by
 have key:∀(c c':Nat),P[c]? =some (n:Int)->P[c']? =some (n:Int)->lV P c c'->c=c':=by
  intro c c' hc vS h;by_cases e:c=c'
  ·exact e
  ·have:=(h.inv e hc).le hP
   have:=(ki hP (gh.2 vS)).1;omega
 rcases h.cmp h' with h|h
 ·exact key c c' hc vS h
 ·exact(key c' c vS hc h).symm
open Classical in
noncomputable def ind(p:Prop):Nat:=if p then 1 else 0
theorem tY{p:Prop}(h:p):ind p=1:=by unfold ind;rw [if_pos h]
theorem uO{p:Prop}(h:¬p):ind p=0:=by unfold ind;rw [if_neg h]
theorem RW(p:Prop):ind p<=1:=by unfold ind;split<;>omega
noncomputable def sz(P:List Int)(n:Nat):Nat:=kl (λi=>ind (lV P i n)) P.length
theorem DP(hP:nK P){n:Nat}(hn:n<P.length):sz P n=1+kl (λc=>if P[c]? =some (n:Int)then sz P c else 0) P.length:=by
 have e1:∀i,i<P.length->ind (lV P i n)=ind (i=n)+kl (λc=>if P[c]? =some (n:Int)then ind (lV P i c)else 0) P.length:=by
  intro i hi;by_cases e:i=n
  ·subst e
   rw [tY (.refl hi),tY rfl,nR];intro c hc;split
   ·rename_i hp
    apply uO;intro hu;have:=hu.le hP;have:=(ki hP (gh.2 hp)).1;omega
   ·rfl
  ·rw [uO e,Nat.zero_add]
   by_cases hu:lV P i n
   ·obtain⟨c,hc,PF⟩:=hu.child e
    rw [tY hu,BH (k:=c) PF.lt']
    ·rw [if_pos (gh.1 hc),tY PF]
    ·intro c' _ gQ
     split
     ·rename_i hp
      exact uO λh=>gQ (lV.one hP hp (gh.1 hc) h PF)
     ·rfl
   ·rw [uO hu,nR]
    intro c hc;split
    ·rename_i hp
     exact uO λh=>hu (h.trans (.step hp (.refl hn)))
    ·rfl
 have e2:sz P n=kl (λi=>ind (i=n)+kl (λc=>if P[c]? =some (n:Int)then ind (lV P i c)else 0) P.length) P.length:=by
  unfold sz;exact mB e1
 rw [e2,BI,BH (k:=n) hn (λi _ h=>uO h),tY rfl,Hj]
 congr 1
 apply mB;intro c _;split
 ·rfl
 ·exact nR λ_ _=>rfl
theorem wu(hP:nK P){n:Nat}(hn:n<P.length):1<=sz P n:=by rw [DP hP hn];omega
theorem y0(n:Nat):sz P n<=P.length:=by
 have:=MN (n:=P.length) (b:=1) (f:=λi=>ind (lV P i n)) (λi _=>RW _);unfold sz;omega
theorem FT(hP:nK P){n:Nat}(hn:n<P.length):((kids P n).map (sz P)).sum+1=sz P n:=by
 unfold kids;rw [uy,DP hP hn,Nat.add_comm]
 congr 1
 apply mB;intro c _;by_cases h:P[c]? =some (n:Int)
 ·simp [h]
 ·simp [h]
noncomputable def part(P:List Int)(m j:Nat):Nat:=kl (λc=>if P[c]? =some (j:Int)/\m<=c then sz P c else 0) P.length
theorem HJ(j:Nat):part P P.length j=0:=nR λc hc=>if_neg λh=>by omega
theorem wK(hP:nK P){m j:Nat}(hj:j<P.length)(hm:m<=j+1):part P m j+1=sz P j:=by
 rw [DP hP hj,Nat.add_comm]
 congr 1
 apply mB;intro c hc;by_cases h:P[c]? =some (j:Int)
 ·have:=(ki hP (gh.2 h)).1
  rw [if_pos ⟨h,by omega⟩,if_pos h]
 ·rw [if_neg (λe=>h e.1),if_neg h]
theorem JR{n p:Nat}(h:P[n]? =some (p:Int)):part P n p=part P (n+1) p+sz P n:=by
 unfold part;apply JF (k:=n) (lgeS h).1
 ·intro i _ gQ
  by_cases hi:P[i]? =some (p:Int)
  ·by_cases h2:n<=i
   ·rw [if_pos ⟨hi,h2⟩,if_pos ⟨hi,by omega⟩]
   ·rw [if_neg (λe=>h2 e.2),if_neg (λe=>by omega)]
  ·rw [if_neg (λe=>hi e.1),if_neg (λe=>hi e.1)]
 ·rw [if_pos ⟨h,Nat.le_refl _⟩,if_neg (λe=>by omega),Nat.zero_add]
theorem D8{n j:Nat}(h:P[n]? ≠some (j:Int)):part P n j=part P (n+1) j:=by
 unfold part;apply mB;intro i _;by_cases hi:P[i]? =some (j:Int)
 ·have:i≠n:=λe=>h (e▸hi)
  by_cases h2:n<=i
  ·rw [if_pos ⟨hi,h2⟩,if_pos ⟨hi,by omega⟩]
  ·rw [if_neg (λe=>h2 e.2),if_neg (λe=>by omega)]
 ·rw [if_neg (λe=>hi e.1),if_neg (λe=>hi e.1)]
noncomputable def jP(P:List Int)(m j:Nat):Nat:=if m<=j then sz P j else part P m j
theorem DW(j:Nat)(hj:j<P.length):jP P P.length j=0:=by
 unfold jP;rw [if_neg (by omega),HJ]
theorem BS(j:Nat):jP P 0 j=sz P j:=by unfold jP;rw [if_pos (Nat.zero_le _)]
theorem Hz(hP:nK P){n:Nat}(hn:n<P.length):jP P (n+1) n+1=sz P n:=by
 unfold jP;rw [if_neg (by omega),wK hP hn (Nat.le_refl _)]
theorem Hy(hP:nK P){n p:Nat}(h:P[n]? =some (p:Int))(j:Nat):jP P n j=if j=p then jP P (n+1) p+sz P n else if j=n then sz P n else jP P (n+1) j:=by
 have hp:=(ki hP (gh.2 h)).1;unfold jP;by_cases e:j=p
 ·subst e
  rw [if_neg (by omega),if_pos rfl,if_neg (by omega),JR h]
 ·rw [if_neg e]
  by_cases e2:j=n
  ·subst e2;rw [if_pos (Nat.le_refl _),if_pos rfl]
  ·rw [if_neg e2]
   by_cases h2:n<=j
   ·rw [if_pos h2,if_pos (by omega)]
   ·rw [if_neg h2,if_neg (by omega)]
    exact D8 (λh'=>e (by rw [h]at h';have:=Option.some.inj h';omega))
theorem HA(j:Nat):jP P 0 j=if j=0 then sz P 0 else jP P 1 j:=by
 rw [BS];unfold jP;by_cases e:j=0
 ·subst e;rw [if_pos rfl]
 ·rw [if_neg e,if_pos (by omega)]
theorem F0(hP:nK P)(m j:Nat)(hj:j<P.length):jP P m j<=P.length:=by
 have h1:=y0 (P:=P) j;unfold jP;split
 ·exact h1
 ·rename_i h
  have:=wK hP (m:=m) hj;by_cases h2:m<=j+1
  ·have:=this h2;omega
  ·
   have h3:part P m j<=part P 0 j:=by
    unfold part;have:∀(f g:Nat->Nat) (n:Nat),(∀i,i<n->f i<=g i)->kl f n<=kl g n:=by
     intro f g n h
     induction n with
     |zero=>simp [kl]
     |succ n ih=>
      simp only [kl];have:=ih (λi hi=>h i (by omega));have:=h n (by omega);omega
    apply this;intro i _;split
    ·rename_i h4;rw [if_pos ⟨h4.1,Nat.zero_le _⟩];exact Nat.le_refl _
    ·exact Nat.zero_le _
   have:=wK hP (m:=0) hj (by omega);omega
end
theorem yq{α:Type}(f g:Nat->α){n k:Nat}{v:α}(hk:k<n)(h:∀i,i<n->g i=if i=k then v else f i):((List.range n).map f).set k v=(List.range n).map g:=by
 apply List.ext_getElem?;intro i;rw [List.getElem?_set];by_cases e:k=i
 ·subst e
  rw [if_pos rfl,if_pos (by simpa using hk)];simp [hk,h k hk]
 ·rw [if_neg e]
  rcases Nat.lt_or_ge i n with hi|hi
  ·have:=h i hi
   rw [if_neg (λx=>e x.symm)]at this;simp [hi,this]
  ·rw [List.getElem?_eq_none (by simpa using hi),List.getElem?_eq_none (by simpa using hi)]
end Go.Proofs.YtfleamccglihoaaGreatDoor.Tr
namespace Go.cF
open Go.RowKit
theorem bg{σ:Type}(e:σ->Env)(I:σ->World->Prop)(μ:σ->World->Nat)(s:σ)(w:World)(Q:aZ)(l:Nat)(ρ:Env)(w':World):b7 e I μ s w Q (.exit l) ρ w'=Q (.exit l) ρ w':=rfl
def zeroOf(P:Program)(e:TypeId):Option (Array Value):=
 match P.info? e with
 |some i=>match i.zero with
  |some z=>some z.cells
  |none=>none
 |none=>none
theorem JY{P:Program}{t e:TypeId}{bytes:Nat}(T:Bu P t e 1 bytes){z:Value}(hz:zeroOf P e=some #[z]){n:Nat}(hn:n<=maxLen)(hb:bytes*n<=281474976710656)(w:World):
 ∃w',(Instr.makeSlice t (.int .i64 (n:Int)) (.int .i64 (n:Int))).run P w=.ok (.slice (some ⟨w.heap.size,0,none⟩) n n) w'/\
  Row w' w.heap.size e 1 (some ⟨w.heap.size,0,none⟩) n n (List.replicate n z)/\Kept Nil w w':=by
 obtain⟨i,z',hi,Bm,hs,Mw,Gs⟩:=T.inf;have hc:z'.cells= #[z]:=by
  unfold zeroOf at hz;simp only [hi,Bm]at hz;exact Option.some.inj hz
 obtain⟨w',hr,gL,hg⟩:=run_make_full (P:=P) (w:=w) w.heap.size t e i z' 1 T.qG hi Bm hs .i64 .i64 n (by rw [Mw];exact hb) hn (Nat.le_refl _);rw [hc,Nat.mul_one,toList_madeCells_one]at gL;exact⟨w',hr,gL,(Kept.refl Nil w).grown hg (λk hk=>by cases hk)⟩
end Go.cF
namespace Go.Proofs.YtfleamccglihoaaGreatDoor.Tr
open Go.Proofs.Tryz
open Go Go.cF Go.RowKit
section
variable{w w':World}{S:Nat->Prop}{g:Nat}{T:List Nd}{d:Int}{K:Value->World->Prop}
theorem TV.bound{b c:Nat}{L:List (Nd×Value)}(h:TV w S g T d b c L):TV w (λk=>S k/\k<w.heap.size) g T d b c L:= {
 top:=h.top
 fst:=h.fst
 row:=h.row
 sU:=λi p hp=>let ⟨A,m,h1⟩:=h.sU i p hp;⟨A,m,h1.val,h1.row,λk e=>⟨h1.lU k e,let ⟨_,_,hc⟩:=Row.bX h1.row e;bt hc⟩⟩
 apart:=h.apart
 jC:=⟨h.jC,bt h.top⟩
 iH:=⟨h.iH,let ⟨_,hc⟩:=h.xX;bt hc⟩}
theorem TV.mono{S':Nat->Prop}{b c:Nat}{L:List (Nd×Value)}(h:TV w S g T d b c L)(hs:∀k,S k->S' k):TV w S' g T d b c L:= {
 top:=h.top
 fst:=h.fst
 row:=h.row
 sU:=λi p hp=>let ⟨A,m,h1⟩:=h.sU i p hp;⟨A,m,h1.val,h1.row,λk e=>hs k (h1.lU k e)⟩
 apart:=h.apart
 jC:=hs _ h.jC
 iH:=hs _ h.iH}
theorem qK.bound(h:qK w S g T d):qK w (λk=>S k/\k<w.heap.size) g T d:=let ⟨b,c,L,h⟩:=h;⟨b,c,L,h.bound⟩
theorem qK.mono{S':Nat->Prop}(h:qK w S g T d)(hs:∀k,S k->S' k):qK w S' g T d:=let ⟨b,c,L,h⟩:=h;⟨b,c,L,h.mono hs⟩
def us(f:Nat->Nat)(n:Nat):List Value:=(List.range n).map λj=>.int .u64 (f j:Int)
theorem qM(f:Nat->Nat){n j:Nat}(hj:j<n):(us f n)[j]? =some (.int .u64 (f j:Int)):=by simp [us,hj]
theorem qL(f:Nat->Nat)(n:Nat):(us f n).length=n:=by simp [us]
theorem zZ{f f':Nat->Nat}{n k:Nat}(hk:k<n)(h:∀i,i<n->i≠k->f' i=f i):(us f n).set k (.int .u64 (f' k:Int))=us f' n:=by
 unfold us;apply yq _ _ hk;intro i hi;by_cases e:i=k
 ·subst e;rw [if_pos rfl]
 ·rw [if_neg e,h i hi e]
theorem Vw:Bu prog Dm iA 1 8:=⟨by kernel_rfl,by kernel_rfl⟩
set_option maxRecDepth 100000 in
theorem DM(h:qK w S g T d)(hP:nK (cK T))(hlen:T.length<=1000000)
 (hK:∀w' A,Row w' w.heap.size iA 1 A T.length T.length (us (sz (cK T)) T.length)->Kept Nil w w'->K (.slice A T.length T.length) w'):
 bJ prog bZ.id #[.pointer (some ⟨g,0,none⟩)] w K:=by
 obtain⟨b,c,L,h0⟩:=h;have rZ:=gg T;obtain⟨w5,tZ,kQ,k5⟩:=JY Vw (z:=.int .u64 0) (by kernel_rfl) (n:=T.length) (by unfold maxLen;omega) (by omega) w;refine bZ.of (h0.go ⟨_,_,_,w5,tZ,?_⟩);have h5:=h0.kept k5;refine h5.go ?_;generalize hA:(⟨w.heap.size,0,none⟩:Addr)=A at*;refine bZ.cP (e:=some A) (i:=T.length) (I:=λi w'=>∃m:Nat,i=(T.length:Int)-m/\m<=T.length/\Row w' w.heap.size iA 1 (some A) T.length T.length (us (jP (cK T) m) T.length)/\Kept Nil w w')
  (μ:=λi _=>((T.length:Int)-i).toNat) (s:=0) ⟨T.length,by omega,Nat.le_refl _,?_,k5⟩ ?_
 ·have:List.replicate T.length (Value.int .u64 0)=us (jP (cK T) T.length) T.length:=by
   apply List.ext_getElem?;intro j;rcases Nat.lt_or_ge j T.length with hj|hj
   ·rw [qM _ hj,<-rZ,DW j (by omega)]
    simp [rZ,hj]
   ·rw [List.getElem?_eq_none (by simpa using hj),List.getElem?_eq_none (by rw [qL];exact hj)]
  rw [<-this];exact kQ
 ·rintro i w' ⟨m,rfl,hm,row,kw⟩
  have h':=h0.kept kw;refine Split.dec (λdD=>?_) (λgE=>?_)
  ·
   obtain⟨n,rfl⟩:∃n,m=n+1:=⟨m-1,by omega⟩;have hn:n<T.length:=by omega
   refine h'.go ?_;have ew:i64.wrap (i64.wrap ((T.length:Int)-1)-((T.length:Int)-((n+1:Nat):Int)))=(n:Int):=by
    rw [jG (x:=(T.length:Int)-1) (by omega) (by omega),jG (by omega) (by omega)];omega
   rw [ew];have hb:0<=(n:Int)/\(n:Int)<(T.length:Int):=⟨by omega,by omega⟩;subst hA;have Yq:n<(us (jP (cK T) (n+1)) T.length).length:=by rw [qL];exact hn
   refine⟨hb,_,by rw [oz,Int.toNat_natCast,Nat.mul_one];exact Row.cell row (qM _ hn),hb,by rw [oz,Int.toNat_natCast,Nat.mul_one];exact Row.wr row Yq,?_⟩;intro ur;have e18:ur=w'.setCell ⟨w.heap.size,n,none⟩ (.int .u64 (u64.wrap ((jP (cK T) (n+1) n:Int)+1))):=by simp only [ur,oz,Int.toNat_natCast,Nat.mul_one]
   have ain:=Hz hP (n:=n) (by omega);have hle:jP (cK T) (n+1) n<=(cK T).length:=F0 hP _ _ (by omega);have pg:=Row.set row Yq (.int .u64 (u64.wrap ((jP (cK T) (n+1) n:Int)+1)));rw [<-e18]at pg;have El:Kept Nil w ur:=by rw [e18];exact kw.setCell (λhh=>absurd hh (Nat.lt_irrefl _)) _
   clear_value ur;rw [gY (x:=(jP (cK T) (n+1) n:Int)+1) (by omega) (by omega)]at pg;rw [show(jP (cK T) (n+1) n:Int)+1=((if n=n then sz (cK T) n else jP (cK T) (n+1) n:Nat):Int)from by rw [if_pos rfl];omega,
    zZ (f':=λj=>if j=n then sz (cK T) n else jP (cK T) (n+1) j) hn (λi _ gQ=>by rw [if_neg gQ])]at pg
   have TQ:=h0.kept El;obtain⟨nd,fE⟩:=iC hn;obtain⟨v,hv⟩:=TQ.at_ fE;refine TQ.go ⟨hb,TQ.Lt hv ?_⟩;have mu:=mR fE;refine Split.dec (λhp=>?_) (λhp=>?_)
   ·
    have Gy:0<n:=by
     rcases Nat.eq_zero_or_pos n with rfl|h
     ·rw [hP.root]at mu;have:=Option.some.inj mu;omega
     ·exact h
    obtain⟨p,Mo,ep⟩:=hP.up n _ Gy mu;rw [ep]at hp⊢;have hpp:(cK T)[n]? =some (p:Int):=by rw [mu,ep]
    intro L9;have RE:Kept Nil w L9:=El.drew;have F8:Row L9 w.heap.size iA 1 (some ⟨w.heap.size,0,none⟩) T.length T.length (us (λj=>if j=n then sz (cK T) n else jP (cK T) (n+1) j) T.length):=pg;clear_value L9;have Qm:0<=(p:Int)/\(p:Int)<(T.length:Int):=⟨by omega,by omega⟩;have Yo:p<(us (λj=>if j=n then sz (cK T) n else jP (cK T) (n+1) j) T.length).length:=by rw [qL];omega
    have gp:=qM (λj=>if j=n then sz (cK T) n else jP (cK T) (n+1) j) (n:=T.length) (j:=p) (by omega);have gn:=qM (λj=>if j=n then sz (cK T) n else jP (cK T) (n+1) j) (n:=T.length) (j:=n) (by omega);simp only [if_neg (show p≠n by omega)]at gp;simp only [if_pos]at gn;refine⟨Qm,_,by rw [oz,Int.toNat_natCast,Nat.mul_one];exact Row.cell F8 gp,hb,_,by rw [oz,Int.toNat_natCast,Nat.mul_one];exact Row.cell F8 gn,Qm,by rw [oz,Int.toNat_natCast,Nat.mul_one];exact Row.wr F8 Yo,?_⟩;intro yo;have e29:yo=L9.setCell ⟨w.heap.size,p,none⟩ (.int .u64 (u64.wrap ((jP (cK T) (n+1) p:Int)+(sz (cK T) n:Int)))):=by simp only [yo,oz,Int.toNat_natCast,Nat.mul_one]
    have JN:=Row.set F8 Yo (.int .u64 (u64.wrap ((jP (cK T) (n+1) p:Int)+(sz (cK T) n:Int))));rw [<-e29]at JN;have Nt:Kept Nil w yo:=by rw [e29];exact RE.setCell (λhh=>absurd hh (Nat.lt_irrefl _)) _
    clear_value yo;have amK:jP (cK T) (n+1) p<=(cK T).length:=F0 hP _ _ (by omega);have amJ:sz (cK T) n<=(cK T).length:=y0 _;have oL:=Hy hP hpp;have Ic:=oL p;rw [if_pos rfl]at Ic;rw [gY (x:=(jP (cK T) (n+1) p:Int)+(sz (cK T) n:Int)) (by omega) (by omega),
     show(jP (cK T) (n+1) p:Int)+(sz (cK T) n:Int)=(jP (cK T) n p:Int)from by omega,
     zZ (f':=jP (cK T) n) (by omega) (λi _ gQ=>by rw [oL i,if_neg gQ])]at JN
    rw [jG (x:=(T.length:Int)-((n+1:Nat):Int)+1) (by omega) (by omega)];exact⟨_,rfl,⟨n,by omega,by omega,JN,Nt⟩,by simp only;omega⟩
   ·
    have Gy:n=0:=by
     rcases Nat.eq_zero_or_pos n with h|h
     ·exact h
     ·obtain⟨p,_,ep⟩:=hP.up n _ h mu
      omega
    subst Gy;have:us (λj=>if j=0 then sz (cK T) 0 else jP (cK T) (0+1) j) T.length=us (jP (cK T) 0) T.length:=by
     congr 1
     funext j
     rw [HA]
    rw [this]at pg;rw [jG (x:=(T.length:Int)-((0+1:Nat):Int)+1) (by omega) (by omega)];exact⟨_,rfl,⟨0,by omega,by omega,pg,El⟩,by simp only;omega⟩
  ·have:m=0:=by omega
   subst this;rw [bg,bZ.dJ];refine hK w' (some A) ?_ kw;have e:jP (cK T) 0=sz (cK T):=funext BS;rw [e]at row;exact row
end
section
variable{w:World}{K:Value->World->Prop}
theorem bJ.Cd{f:FuncId}{args:Array Value}{v:Value}(h:Calls prog f args w λe w'=>e=.returned v/\w'=w)(hK:K v w):bJ prog f args w K:=
 h.mono λe w' ⟨he,hw⟩=>⟨v,he,by rw [hw];exact hK⟩
theorem yO(x y:Nat)(hx:x<18446744073709551616)(hy:y<18446744073709551616)
 (hK:K (.tuple #[.int .u64 ((x*y/18446744073709551616:Nat):Int),.int .u64 ((x*y%18446744073709551616:Nat):Int)]) w):
 bJ prog bits_Mul64.id #[.int .u64 x,.int .u64 y] w K:=bJ.Cd (Any.bits_Mul64 Tryz.M8 x y hx hy w) hK
theorem yP(x:Nat)(hx:x<18446744073709551616)(hK:K (.int .i64 (Lib.bitLen x)) w):bJ prog bits_Len64.id #[.int .u64 x] w K:=
 bJ.Cd (Any.bits_Len64 Tryz.M9 x w (by omega) (by omega)) hK
end
theorem rI:∀(f x:Nat),x<2 ^ f->x<2 ^ (Lib.bitLenAux f x)/\(x≠0->2 ^ (Lib.bitLenAux f x)<=2*x)
 |0,x,h=>by simp at h;subst h;simp [Lib.bitLenAux]
 |f+1,x,h=>by
  unfold Lib.bitLenAux;by_cases e:x=0
  ·simp [e]
  ·rw [if_neg e]
   have ih:=rI f (x/2) (by rw [Nat.pow_succ]at h;omega);rw [Nat.pow_add,Nat.pow_one];refine⟨by omega,λ_=>?_⟩;by_cases e2:x/2=0
   ·have:x=1:=by omega
    subst this;cases f<;>simp [Lib.bitLenAux]
   ·have:=ih.2 e2
    omega
theorem bitLen_spec{y:Nat}(h0:y≠0)(hy:y<18446744073709551616):1<=Lib.bitLen y/\Lib.bitLen y<=64/\9223372036854775808<=y*2 ^ (64-Lib.bitLen y)/\y*2 ^ (64-Lib.bitLen y)<18446744073709551616:=by
 have hs:=rI 64 y (by omega);have hle:=Lib.bitLenAux_le 64 y 64 (by omega)
 change Lib.bitLen y<=64 at hle
 change y<2 ^ (Lib.bitLen y)/\(y≠0->2 ^ (Lib.bitLen y)<=2*y)at hs
 have zD:=hs.2 h0;have hp:2 ^ Lib.bitLen y*2 ^ (64-Lib.bitLen y)=18446744073709551616:=by
  rw [<-Nat.pow_add,show Lib.bitLen y+(64-Lib.bitLen y)=64 by omega]
 have kW:0<2 ^ (64-Lib.bitLen y):=Nat.pow_pos (by omega);refine⟨?_,hle,?_,?_⟩
 ·rcases Nat.eq_zero_or_pos (Lib.bitLen y)with e|e
  ·rw [e]at hs;simp at hs;omega
  ·exact e
 ·have:=Nat.mul_le_mul_right (2 ^ (64-Lib.bitLen y)) zD
  rw [hp,Nat.mul_assoc]at this;omega
 ·rw [<-hp]
  exact Nat.mul_lt_mul_of_pos_right hs.1 kW
section
variable{Y n1 n0 u u1 q r:Nat}
theorem Lz(hY:Y=n1*4294967296+n0):q*Y=q*n1*4294967296+q*n0:=by rw [hY,Nat.mul_add,Nat.mul_assoc]
theorem dg1(hY:Y=n1*4294967296+n0)(hq:q*n1+r=u)(h:q*n0<=4294967296*r+u1):q*Y<=u*4294967296+u1:=by rw [Lz hY];omega
theorem dg2(hY:Y=n1*4294967296+n0)(hq:q*n1+r=u)(h:4294967296*r+u1<q*n0):u*4294967296+u1<q*Y:=by rw [Lz hY];omega
theorem dg3(hu:u<Y)(Mj:u1<4294967296)(h:4294967296<=q):u*4294967296+u1<q*Y:=by
 have:=Nat.mul_le_mul_right Y h;omega
theorem dg4(hY:Y=n1*4294967296+n0)(Gy:n0<4294967296)(hu:u<Y)(hq:q*n1+r=u)(hr:4294967296<=r):q*Y<=u*4294967296+u1:=by
 have h1:q*n1<4294967296*n1:=by omega
 have h2:q<4294967296:=Nat.lt_of_mul_lt_mul_right h1;have h3:q*n0<=4294967296*4294967296:=Nat.mul_le_mul (by omega) (by omega);rw [Lz hY];omega
theorem QD(hu:u<Y)(Mj:u1<4294967296)(h:q*Y<=u*4294967296+u1):q<4294967296:=by
 rcases Nat.lt_or_ge q 4294967296 with h'|h'
 ·exact h'
 ·have:=dg3 hu Mj h';omega
theorem C9(Io:2147483648<=n1)(hu:u<18446744073709551616)(hq:q*n1+r=u):q<8589934592:=by
 rcases Nat.lt_or_ge q 8589934592 with h|h
 ·exact h
 ·have:=Nat.mul_le_mul h Io
  omega
end
theorem II{Y n1 n0 u u1:Nat}{quo rem s Jv Vo:Int}{Q:aZ}{w:World}(hY:Y=n1*4294967296+n0)(Gy:n0<4294967296)(Io:2147483648<=n1)(NV:n1<4294967296)(hu:u<Y)(hY':Y<18446744073709551616)(Mj:u1<4294967296)
 (hex:∀q r:Nat,q*Y<=u*4294967296+u1->u*4294967296+u1<(q+1)*Y->Q (.exit 0) (bN.e1 (Y:Int) quo rem s n1 n0 Jv u1 Vo ((q:Int),(r:Int))) w)
 (q0 r0:Nat) (h0:q0*n1+r0=u) (hX0:u*4294967296+u1<(q0+1)*Y) (vO:r0<4294967296):
 Holds none [] prog 135 (.loop (lB (bB (sL (gR (dc (bf (body bN.fn)))))))) Q (bN.e1 (Y:Int) quo rem s n1 n0 Jv u1 Vo ((q0:Int),(r0:Int))) w:=by
 refine bN.cP (I:=λs w'=>w'=w/\∃q r:Nat,s=((q:Int),(r:Int))/\q*n1+r=u/\u*4294967296+u1<(q+1)*Y/\r<4294967296)
  (μ:=λs _=>s.1.toNat) (s:=((q0:Int),(r0:Int))) ⟨rfl,q0,r0,rfl,h0,hX0,vO⟩ ?_
 rintro s w' ⟨hw,q,r,rfl,hq,hX,hr⟩;subst hw;have adX:=C9 Io (by omega) hq;have down:u*4294967296+u1<q*Y->∃q' r':Nat,u64.wrap ((q:Int)-1)=(q':Int)/\u64.wrap ((r:Int)+(n1:Int))=(r':Int)/\q'*n1+r'=u/\u*4294967296+u1<(q'+1)*Y/\q'<q:=by
  intro h;have PR:1<=q:=by
   rcases Nat.eq_zero_or_pos q with e|e
   ·rw [e]at h;omega
   ·exact e
  refine⟨q-1,r+n1,?_,?_,?_,?_,by omega⟩
  ·rw [gY (by omega) (by omega)];omega
  ·rw [gY (by omega) (by omega)];omega
  ·have:q*n1=(q-1)*n1+n1:=by
    obtain⟨k,rfl⟩:∃k,q=k+1:=⟨q-1,by omega⟩;rw [Nat.succ_mul];rfl
   omega
  ·rwa [show q-1+1=q by omega]
 have step:∀q' r':Nat,q'*n1+r'=u->u*4294967296+u1<(q'+1)*Y->q'<q->∀b:Bool,b=decide ((r':Int)>=4294967296)->
  Split b (Q (.exit 0) (bN.e1 (Y:Int) quo rem s n1 n0 Jv u1 Vo ((q':Int),(r':Int))) w') (b7 (bN.e1 (Y:Int) quo rem s n1 n0 Jv u1 Vo) (λs mN=>mN=w'/\∃q r:Nat,s=((q:Int),(r:Int))/\q*n1+r=u/\u*4294967296+u1<(q+1)*Y/\r<4294967296) (λs _=>s.1.toNat) ((q:Int),(r:Int)) w' Q .normal (bN.e1 (Y:Int) quo rem s n1 n0 Jv u1 Vo ((q':Int),(r':Int))) w'):=by
  intro q' r' h1 h2 h3 b hb;subst hb;refine Split.dec (λgE=>?_) (λdD=>?_)
  ·exact hex q' r' (dg4 hY Gy hu h1 (by omega)) h2
  ·exact⟨_,rfl,⟨rfl,q',r',rfl,h1,h2,by omega⟩,by simp only;omega⟩
 refine Split.dec (λgE=>?_) (λdD=>?_)
 ·obtain⟨q',r',eq,er,h1,h2,h3⟩:=down (dg3 hu Mj (by simp only at gE;omega))
  simp only [eq,er];exact step q' r' h1 h2 h3 _ rfl
 ·simp only at dD
  have hqn:q*n0<18446744073709551616:=by
   have:q*n0<=4294967295*4294967295:=Nat.mul_le_mul (by omega) (by omega);omega
  have e1:u64.wrap ((q:Int)*(n0:Int))=((q*n0:Nat):Int):=by rw [<-Int.natCast_mul,gY (by omega) (by omega)]
  have e2:u64.wrap (u64.wrap (4294967296*(r:Int))+(u1:Int))=((4294967296*r+u1:Nat):Int):=by
   rw [gY (x:=4294967296*(r:Int)) (by omega) (by omega),gY (by omega) (by omega)];omega
  simp only [e1,e2];refine Split.dec (λyn=>?_) (λhle=>?_)
  ·obtain⟨q',r',eq,er,h1,h2,h3⟩:=down (dg2 hY hq (by omega))
   simp only [eq,er];exact step q' r' h1 h2 h3 _ rfl
  ·exact hex q r (dg1 hY hq (by omega)) hX
theorem IH{Y n1 n0 u u1:Nat}{quo rem s q1 Jw:Int}{Q:aZ}{w:World}(hY:Y=n1*4294967296+n0)(Gy:n0<4294967296)(Io:2147483648<=n1)(NV:n1<4294967296)(hu:u<Y)(hY':Y<18446744073709551616)(Mj:u1<4294967296)
 (hex:∀q r:Nat,q*Y<=u*4294967296+u1->u*4294967296+u1<(q+1)*Y->Q (.exit 2) (bN.e2 (Y:Int) quo rem s n1 n0 u1 q1 Jw ((r:Int),(q:Int))) w)
 (q0 r0:Nat) (h0:q0*n1+r0=u) (hX0:u*4294967296+u1<(q0+1)*Y) (vO:r0<4294967296):
 Holds none [] prog 135 (.loop (lB (bB (sL (gR (gR (bf (body bN.fn)))))))) Q (bN.e2 (Y:Int) quo rem s n1 n0 u1 q1 Jw ((r0:Int),(q0:Int))) w:=by
 refine bN.iY (I:=λs w'=>w'=w/\∃q r:Nat,s=((r:Int),(q:Int))/\q*n1+r=u/\u*4294967296+u1<(q+1)*Y/\r<4294967296)
  (μ:=λs _=>s.2.toNat) (s:=((r0:Int),(q0:Int))) ⟨rfl,q0,r0,rfl,h0,hX0,vO⟩ ?_
 rintro s w' ⟨hw,q,r,rfl,hq,hX,hr⟩;subst hw;have adX:=C9 Io (by omega) hq;have down:u*4294967296+u1<q*Y->∃q' r':Nat,u64.wrap ((q:Int)-1)=(q':Int)/\u64.wrap ((r:Int)+(n1:Int))=(r':Int)/\q'*n1+r'=u/\u*4294967296+u1<(q'+1)*Y/\q'<q:=by
  intro h;have PR:1<=q:=by
   rcases Nat.eq_zero_or_pos q with e|e
   ·rw [e]at h;omega
   ·exact e
  refine⟨q-1,r+n1,?_,?_,?_,?_,by omega⟩
  ·rw [gY (by omega) (by omega)];omega
  ·rw [gY (by omega) (by omega)];omega
  ·have:q*n1=(q-1)*n1+n1:=by
    obtain⟨k,rfl⟩:∃k,q=k+1:=⟨q-1,by omega⟩;rw [Nat.succ_mul];rfl
   omega
  ·rwa [show q-1+1=q by omega]
 have step:∀q' r':Nat,q'*n1+r'=u->u*4294967296+u1<(q'+1)*Y->q'<q->∀b:Bool,b=decide ((r':Int)>=4294967296)->
  Split b (Q (.exit 2) (bN.e2 (Y:Int) quo rem s n1 n0 u1 q1 Jw ((r':Int),(q':Int))) w') (b7 (bN.e2 (Y:Int) quo rem s n1 n0 u1 q1 Jw) (λs mN=>mN=w'/\∃q r:Nat,s=((r:Int),(q:Int))/\q*n1+r=u/\u*4294967296+u1<(q+1)*Y/\r<4294967296) (λs _=>s.2.toNat) ((r:Int),(q:Int)) w' Q .normal (bN.e2 (Y:Int) quo rem s n1 n0 u1 q1 Jw ((r':Int),(q':Int))) w'):=by
  intro q' r' h1 h2 h3 b hb;subst hb;refine Split.dec (λgE=>?_) (λdD=>?_)
  ·exact hex q' r' (dg4 hY Gy hu h1 (by omega)) h2
  ·exact⟨_,rfl,⟨rfl,q',r',rfl,h1,h2,by omega⟩,by simp only;omega⟩
 refine Split.dec (λgE=>?_) (λdD=>?_)
 ·obtain⟨q',r',eq,er,h1,h2,h3⟩:=down (dg3 hu Mj (by simp only at gE;omega))
  simp only [eq,er];exact step q' r' h1 h2 h3 _ rfl
 ·simp only at dD
  have hqn:q*n0<18446744073709551616:=by
   have:q*n0<=4294967295*4294967295:=Nat.mul_le_mul (by omega) (by omega);omega
  have e1:u64.wrap ((q:Int)*(n0:Int))=((q*n0:Nat):Int):=by rw [<-Int.natCast_mul,gY (by omega) (by omega)]
  have e2:u64.wrap (u64.wrap (4294967296*(r:Int))+(u1:Int))=((4294967296*r+u1:Nat):Int):=by
   rw [gY (x:=4294967296*(r:Int)) (by omega) (by omega),gY (by omega) (by omega)];omega
  simp only [e1,e2];refine Split.dec (λyn=>?_) (λhle=>?_)
  ·obtain⟨q',r',eq,er,h1,h2,h3⟩:=down (dg2 hY hq (by omega))
   simp only [eq,er];exact step q' r' h1 h2 h3 _ rfl
  ·exact hex q r (dg1 hY hq (by omega)) hX
theorem aak(a:Nat)(ha:a<18446744073709551616):u64.wrap ((BitVec.ofInt 64 (a:Int)&&& BitVec.ofInt 64 (4294967295:Int)).toNat:Int)=((a%4294967296:Nat):Int):=by
 have h:=bits_and_u64_nat a 4294967295 ha (by omega);have e:a&&& 4294967295=a%4294967296:=Nat.and_two_pow_sub_one_eq_mod a 32;rw [e]at h;exact h
theorem orN(a b s:Nat)(ha:a*2 ^ s<18446744073709551616)(hb:b<2 ^ s)(xz:b<18446744073709551616):
 u64.wrap ((BitVec.ofInt 64 ((a*2 ^ s:Nat):Int)|||BitVec.ofInt 64 (b:Int)).toNat:Int)=((a*2 ^ s+b:Nat):Int):=by
 have h:=bits_or_u64_nat (a*2 ^ s) b ha xz;rw [Nat.mul_comm,<-Nat.two_pow_add_eq_or_of_lt hb,Nat.mul_comm]at h;exact h
theorem Vz(a k:Nat):Int.fdiv (a:Int) (2 ^ k)=((a/2 ^ k:Nat):Int):=by
 rw [Int.fdiv_eq_ediv_of_nonneg _ (by exact Int.le_of_lt (Int.pow_pos (by omega)))];rw [Int.natCast_ediv,Int.natCast_pow];rfl
theorem aca(a k:Nat):(a:Int)*2 ^ k=((a*2 ^ k:Nat):Int):=by rw [Int.natCast_mul,Int.natCast_pow];rfl
theorem agp{N u L u1 u0 v a b:Nat}(hN:N=u*18446744073709551616+L)(hL:L=u1*4294967296+u0)(hv:u*4294967296+u1-a=v)(ha:a<=u*4294967296+u1)(hb:b<=v*4294967296+u0):a*4294967296+b<=N:=by omega
theorem ago{N u L u1 u0 v a b:Nat}(hN:N=u*18446744073709551616+L)(hL:L=u1*4294967296+u0)(hv:u*4294967296+u1-a=v)(ha:a<=u*4294967296+u1)(hb:v*4294967296+u0<b):N<a*4294967296+b:=by omega
section
variable{w:World}{K:Value->World->Prop}
theorem p9(x:Nat)(hx:x<18446744073709551616)(hK:K (.int .i64 ((64-Lib.bitLen x:Nat):Int)) w):bJ prog bits_LeadingZeros64.id #[.int .u64 x] w K:=by
 refine bits_LeadingZeros64.of (yP x hx ⟨_,rfl,?_⟩);have hle:=Lib.bitLen_le x 64 (by omega) (by omega)
 rwa [jG (by omega) (by omega),show(64:Int)-(Lib.bitLen x:Int)=((64-Lib.bitLen x:Nat):Int)by omega]
theorem yQ(hi lo y:Nat)(hlo:lo<18446744073709551616)(hy:y<18446744073709551616)(hhi:hi<y)
 (hK:∀r w',Kept Nil w w'->K (.tuple #[.int .u64 (((hi*18446744073709551616+lo)/y:Nat):Int),.int .u64 r]) w'):
 bJ prog bN.id #[.int .u64 hi,.int .u64 lo,.int .u64 y] w K:=by
 refine bN.of (Split.no (beq_eq_false_iff_ne.2 (by omega)) (Split.no (decide_eq_false (by omega)) ?_));by_cases h0:hi=0
 ·subst h0
  refine Split.yes rfl ?_;intro w6;refine⟨by omega,by omega,?_⟩;have e:u64.wrap ((lo:Int).tdiv (y:Int))=(((0*18446744073709551616+lo)/y:Nat):Int):=by
   rw [Int.tdiv_eq_ediv_of_nonneg (by omega),Nat.zero_mul,Nat.zero_add,<-Int.natCast_ediv];have:=Nat.div_le_self lo y;generalize lo/y=z at*;exact gY (by omega) (by omega)
  rw [e];exact hK _ w6 (Kept.refl Nil w).drew
 ·refine Split.no (beq_eq_false_iff_ne.2 (by omega)) (p9 y hy ⟨_,rfl,?_⟩)
  obtain⟨Bs,afv,hY1,hY2⟩:=bitLen_spec (y:=y) (by omega) hy;have hs:64-Lib.bitLen y<64:=by omega
  generalize 64-Lib.bitLen y=s at*;have eS:u64.wrap (s:Int)=(s:Int):=gY (by omega) (by omega);have eS2:u64.wrap ((64:Int)-(s:Int))=((64-s:Nat):Int):=by rw [gY (by omega) (by omega)];omega
  have em1:min s 64=s:=by omega
  have em2:min (64-s) 64=64-s:=by omega
  have em3:min (32:Int).toNat 64=32:=rfl;have PT:2 ^ (64-s)*2 ^ s=18446744073709551616:=by rw [<-Nat.pow_add,show 64-s+s=64 by omega]
  have kW:0<2 ^ s:=Nat.pow_pos (by omega);have XC:0<2 ^ (64-s):=Nat.pow_pos (by omega);simp only [eS,eS2,Int.toNat_natCast,em1,em2,em3,aca];generalize hYd:y*2 ^ s=Y at*;have hhs:hi*2 ^ s<18446744073709551616:=by
   have:hi*2 ^ s<y*2 ^ s:=Nat.mul_lt_mul_of_pos_right hhi kW;omega
  have hlq:lo/2 ^ (64-s)<2 ^ s:=by
   rw [Nat.div_lt_iff_lt_mul XC,Nat.mul_comm,PT];exact hlo
  have aex:lo/2 ^ (64-s)<18446744073709551616:=Nat.lt_of_le_of_lt (Nat.div_le_self _ _) hlo;have eY:u64.wrap (Y:Int)=(Y:Int):=gY (by omega) (by omega);have eH:u64.wrap ((hi*2 ^ s:Nat):Int)=((hi*2 ^ s:Nat):Int):=gY (by omega) (by omega);have eL:u64.wrap ((lo*2 ^ s:Nat):Int)=((lo*2 ^ s%18446744073709551616:Nat):Int):=by rw [IntKind.wrap_u64];omega
  have e32:∀a:Nat,Int.fdiv (a:Int) (2 ^ 32)=((a/4294967296:Nat):Int):=λa=>Vz a 32;simp only [eY,eH,eL,e32,Vz lo,orN hi _ s hhs hlq aex,aak Y (by omega),aak _ (Nat.mod_lt (lo*2 ^ s) (by omega:18446744073709551616>0))];have hN:(hi*18446744073709551616+lo)*2 ^ s=(hi*2 ^ s+lo/2 ^ (64-s))*18446744073709551616+lo*2 ^ s%18446744073709551616:=by
   have h1:lo*2 ^ s/18446744073709551616=lo/2 ^ (64-s):=by
    rw [<-PT,Nat.mul_div_mul_right _ _ kW]
   have h2:=Nat.div_add_mod (lo*2 ^ s) 18446744073709551616;rw [h1]at h2;rw [Nat.add_mul,Nat.mul_right_comm];omega
  have anM:(hi*18446744073709551616+lo)*2 ^ s<Y*18446744073709551616:=by
   have h1:hi*18446744073709551616+lo<y*18446744073709551616:=by omega
   have:=Nat.mul_lt_mul_of_pos_right h1 kW;rw [Nat.mul_right_comm,hYd]at this;exact this
  have PQ:(hi*18446744073709551616+lo)*2 ^ s/Y=(hi*18446744073709551616+lo)/y:=by rw [<-hYd,Nat.mul_div_mul_right _ _ kW]
  rw [<-PQ]at hK;clear PQ;generalize (hi*18446744073709551616+lo)*2 ^ s=N at*;have hL:lo*2 ^ s%18446744073709551616<18446744073709551616:=Nat.mod_lt _ (by omega);generalize lo*2 ^ s%18446744073709551616=L at*;generalize hi*2 ^ s+lo/2 ^ (64-s)=u at*;have hu:u<Y:=by omega
  have Io:2147483648<=Y/4294967296:=by omega
  have NV:Y/4294967296<4294967296:=by omega
  have Gy:Y%4294967296<4294967296:=by omega
  have hYe:Y=Y/4294967296*4294967296+Y%4294967296:=by omega
  have Mj:L/4294967296<4294967296:=by omega
  have hu0:L%4294967296<4294967296:=by omega
  have hLe:L=L/4294967296*4294967296+L%4294967296:=by omega
  generalize Y/4294967296=n1 at*;generalize Y%4294967296=n0 at*;generalize L/4294967296=u1 at*;generalize L%4294967296=u0 at*;have QA:∀v:Nat,v<18446744073709551616->u64.wrap ((v:Int).tdiv (n1:Int))=((v/n1:Nat):Int)/\u64.wrap ((v:Int)-u64.wrap (((v/n1:Nat):Int)*(n1:Int)))=((v%n1:Nat):Int)/\v/n1*n1+v%n1=v/\v%n1<n1:=by
   intro v hv;have h1:=Nat.div_le_self v n1;have h2:=Nat.div_add_mod' v n1;refine⟨?_,?_,h2,Nat.mod_lt _ (by omega)⟩
   ·rw [Int.tdiv_eq_ediv_of_nonneg (by omega),<-Int.natCast_ediv]
    generalize v/n1=z at*;exact gY (by omega) (by omega)
   ·rw [<-Int.natCast_mul,gY (x:=((v/n1*n1:Nat):Int)) (by omega) (by omega),gY (by omega) (by omega)]
    omega
  have first:∀v d:Nat,v<Y->d<4294967296->v*4294967296+d<(v/n1+1)*Y:=by
   intro v d hv hd;have h2:=Nat.div_add_mod' v n1;have h3:=Nat.mod_lt v (show 0<n1 by omega);have h4:v+1<=(v/n1+1)*n1:=by rw [Nat.succ_mul];omega
   have h5:(v+1)*4294967296<=(v/n1+1)*n1*4294967296:=Nat.mul_le_mul_right _ h4;have h6:(v/n1+1)*n1*4294967296<=(v/n1+1)*Y:=by
    have h7:n1*4294967296<=Y:=Nat.le_trans (Nat.le_add_right _ n0) (Nat.le_of_eq hYe.symm);rw [Nat.mul_assoc];exact Nat.mul_le_mul_left _ h7
   omega
  obtain⟨g1,g2,g3,g4⟩:=QA u (by omega);simp only [g1,g2];refine⟨by omega,by omega,by omega,by omega,by omega,by omega,by omega,?_⟩;refine II hYe Gy Io NV hu (by omega) Mj ?_ (u/n1) (u%n1) g3 (first u u1 hu Mj) (by omega);intro q r PR UL;rw [show bN.e1 (Y:Int) 0 0 (s:Int) (n1:Int) (n0:Int) (u:Int) (u1:Int) (u0:Int) ((q:Int),(r:Int))= [(2,.int .u64 (Y:Int)),(6,.int .u64 0),(7,.int .u64 0),(8,.int .u64 (s:Int)),(9,.int .u64 (n1:Int)),(10,.int .u64 (n0:Int)),(11,.int .u64 (u:Int)),(13,.int .u64 (u1:Int)),(14,.int .u64 (u0:Int)),(15,.int .u64 (q:Int)),(16,.int .u64 (r:Int))]from rfl];rw [bN.dJ];have hqB:=QD hu Mj PR;rw [Nat.succ_mul]at UL;have hp:u64.wrap (u64.wrap (u64.wrap ((u:Int)*4294967296)+(u1:Int))-u64.wrap ((q:Int)*(Y:Int)))=((u*4294967296+u1-q*Y:Nat):Int):=by
   rw [<-Int.natCast_mul q Y];simp only [IntKind.wrap_u64];generalize q*Y=p at*;omega
  unfold bN.dA;simp only [hp];have hv:u*4294967296+u1-q*Y<Y:=by omega
  generalize hvd:u*4294967296+u1-q*Y=v at*;obtain⟨g1',g2',g3',g4'⟩:=QA v (by omega);simp only [g1',g2'];refine⟨by omega,?_⟩;refine IH hYe Gy Io NV hv (by omega) hu0 ?_ (v/n1) (v%n1) g3' (first v u0 hv hu0) (by omega);intro q' r' Xy adY;rw [show bN.e2 (Y:Int) 0 0 (s:Int) (n1:Int) (n0:Int) (u0:Int) (q:Int) (v:Int) ((r':Int),(q':Int))= [(2,.int .u64 (Y:Int)),(6,.int .u64 0),(7,.int .u64 0),(8,.int .u64 (s:Int)),(9,.int .u64 (n1:Int)),(10,.int .u64 (n0:Int)),(14,.int .u64 (u0:Int)),(15,.int .u64 (q:Int)),(16,.int .u64 (r':Int)),(17,.int .u64 (v:Int)),(18,.int .u64 (q':Int))]from rfl];rw [bN.lA];have amh:=QD hv hu0 Xy;refine⟨by omega,?_⟩;have adG:u64.wrap (u64.wrap ((q:Int)*4294967296)+(q':Int))=((N/Y:Nat):Int):=by
   rw [gY (x:=(q:Int)*4294967296) (by omega) (by omega),gY (by omega) (by omega)];have:N/Y=q*4294967296+q':=by
    apply Nat.div_eq_of_lt_le
    ·rw [Nat.add_mul,Nat.mul_right_comm]
     exact agp hN hLe hvd PR Xy
    ·rw [Nat.add_assoc,Nat.add_mul,Nat.mul_right_comm]
     exact ago hN hLe hvd PR adY
   rw [this];omega
  rw [adG];exact hK _ w (Kept.refl Nil w)
end
end Go.Proofs.YtfleamccglihoaaGreatDoor.Tr
namespace Go.Proofs.YtfleamccglihoaaGreatDoor.Tr
open Go.Proofs.Tryz
structure nn(T T':List Nd):Prop where
 len:T'.length=T.length
 at_:∀(i:Nat) nd,T[i]? =some nd->∃nd',T'[i]? =some nd'/\nd'.parent=nd.parent/\nd'.ch=nd.ch
theorem nn.refl(T:List Nd):nn T T:=⟨rfl,λ_ nd h=>⟨nd,h,rfl,rfl⟩⟩
theorem nn.trans{T T' GZ:List Nd}(h:nn T T')(h':nn T' GZ):nn T GZ:=⟨h'.len.trans h.len,λi nd hi=>by
 obtain⟨nd',h1,h2,h3⟩:=h.at_ i nd hi;obtain⟨acz,g1,g2,g3⟩:=h'.at_ i nd' h1;exact⟨acz,g1,g2.trans h2,g3.trans h3⟩⟩
theorem nn.back{T T':List Nd}(h:nn T T'){i:Nat}{nd':Nd}(hi:T'[i]? =some nd'):∃nd,T[i]? =some nd/\nd'.parent=nd.parent/\nd'.ch=nd.ch:=by
 have dD:=(lgeS hi).1;obtain⟨nd,fE⟩:=iC (T:=T) (i:=i) (by rw [<-h.len];exact dD);obtain⟨x,h1,h2,h3⟩:=h.at_ i nd fE;rw [hi]at h1;cases h1;exact⟨nd,fE,h2,h3⟩
theorem nn.cK{T T':List Nd}(h:nn T T'):cK T'=cK T:=by
 apply List.ext_getElem?;intro i;rcases Nat.lt_or_ge i T.length with hi|hi
 ·obtain⟨nd,fE⟩:=iC hi
  obtain⟨nd',h1,h2,_⟩:=h.at_ i nd fE;rw [mR fE,mR h1,h2]
 ·rw [List.getElem?_eq_none (by rw [gg,h.len];exact hi),List.getElem?_eq_none (by rw [gg];exact hi)]
theorem nn.shape{T T':List Nd}(h:nn T T')(hS:Shape T):Shape T':=⟨by rw [h.cK];exact hS.par,λi nd' hi=>by
 obtain⟨nd,fE,_,h3⟩:=h.back hi;rw [h.cK,h3,hS.ch i nd fE]⟩
theorem nn.set{T:List Nd}{i:Nat}{nd nd':Nd}(hi:T[i]? =some nd)(h1:nd'.parent=nd.parent)(h2:nd'.ch=nd.ch):nn T (T.set i nd'):=
 ⟨by simp,λj x hj=>by
   by_cases e:i=j
   ·subst e
    rw [hi]at hj;cases hj;exact⟨nd',jU hi,h1,h2⟩
   ·exact⟨x,pZ hj e,rfl,rfl⟩⟩
theorem zM{T:List Nd}{n p:Nat}{nd pd:Nd}{many:Int}(hn:T[n]? =some nd)(hp:T[p]? =some pd)(gQ:n≠p)(i:Nat):
 (xD T n p nd pd many)[i]? =if i=p then some {pd with free:=pd.free+many}else if i=n then some {nd with lo:=pd.free,hi:=pd.free+many-1,free:=pd.free}else T[i]? :=by
 unfold xD;by_cases e:i=p
 ·subst e
  rw [if_pos rfl];exact jU (pZ hp gQ)
 ·rw [if_neg e,List.getElem?_set_ne (λh=>e h.symm)]
  by_cases e2:i=n
  ·subst e2
   rw [if_pos rfl];exact jU hn
  ·rw [if_neg e2,List.getElem?_set_ne (λh=>e2 h.symm)]
theorem xC{T:List Nd}{n p:Nat}{nd pd:Nd}(many:Int)(hn:T[n]? =some nd)(hp:T[p]? =some pd)(gQ:n≠p):nn T (xD T n p nd pd many):=
 (nn.set (nd':= {nd with lo:=pd.free,hi:=pd.free+many-1,free:=pd.free}) hn rfl rfl).trans (nn.set (nd:=pd) (nd':= {pd with free:=pd.free+many}) (pZ hp gQ) rfl rfl)
theorem BJ{l:List Nat}(hs:l.Pairwise (· < ·)){k c:Nat}(hc:l[k]? =some c):∀y,y∈l.take k->y<c:=by
 intro y hy;obtain⟨j,hj⟩:=List.mem_iff_getElem?.1 hy;rw [List.getElem?_take]at hj;split at hj
 ·rename_i dD
  obtain⟨h1,e1⟩:=lgeS hj;obtain⟨h2,e2⟩:=lgeS hc;rw [<-e1,<-e2];exact List.pairwise_iff_getElem.1 hs j k h1 h2 dD
 ·cases hj
theorem pK{l:List Nat}{k c:Nat}(hc:l[k]? =some c):l.take (k+1)=l.take k++ [c]:=by
 rw [List.take_add_one,hc];rfl
structure rO(P:List Int)(T1:List Nd)(x:Nat)(xd:Nd)(half:Int)(k:Nat)(T':List Nd)(f:Int):Prop where
 pM:nn T1 T'
 here:T'[x]? =some {xd with free:=f}
 rest:∀y,y≠x->y∉xd.ch.take k->T'[y]? =T1[y]?
 lo:xd.lo+(((xd.ch.take k).map (sz P)).sum:Nat)<=f
 up:(f-xd.lo-(((xd.ch.take k).map (sz P)).sum:Nat))*(sz P x:Int)<=half*(((xd.ch.take k).map (sz P)).sum:Nat)
 sU:∀c cd,c∈xd.ch.take k->T'[c]? =some cd->xd.lo<=cd.lo/\cd.hi<f/\(sz P c:Int)<=cd.hi-cd.lo+1
 ord:∀c c' cd sr,c∈xd.ch.take k->c'∈xd.ch.take k->c<c'->T'[c]? =some cd->T'[c']? =some sr->cd.hi<sr.lo
section
variable{P:List Int}{T1 T':List Nd}{x:Nat}{xd:Nd}{half f:Int}{k:Nat}
theorem rO.start(hx:T1[x]? =some xd)(hf:xd.free=xd.lo):rO P T1 x xd half 0 T1 xd.lo:= {
 pM:=nn.refl _
 here:=by obtain⟨a,b,c,d,e⟩:=xd;simp only at hf;subst hf;exact hx
 rest:=λ_ _ _=>rfl
 lo:=by simp
 up:=by simp
 sU:=λc cd hc=>by simp at hc
 ord:=λc c' cd sr hc=>by simp at hc}
theorem rO.bound(h:rO P T1 x xd half k T' f)(hh:0<=half)(UI:1<=sz P x)(KK:((xd.ch.take k).map (sz P)).sum<=sz P x):f<=xd.lo+(((xd.ch.take k).map (sz P)).sum:Nat)+half:=by
 have h1:half*(((xd.ch.take k).map (sz P)).sum:Nat)<=half*(sz P x:Int):=Int.mul_le_mul_of_nonneg_left (by omega) hh;have h2:=Int.le_trans h.up h1;have h3:=Int.le_of_mul_le_mul_right h2 (by omega);omega
theorem rO.step(h:rO P T1 x xd half k T' f)(hs:xd.ch.Pairwise (· < ·)){c:Nat}(hx:∀y,y∈xd.ch->x<y)(hc:xd.ch[k]? =some c){cd:Nd}(lI:T'[c]? =some cd)
 {more:Int} (UQ:0<=more) (hm:more*(sz P x:Int)<=half*(sz P c:Int)) (Gu:1<=sz P c):
 rO P T1 x xd half (k+1) (xD T' c x cd {xd with free:=f} ((sz P c:Int)+more)) (f+((sz P c:Int)+more)):=by
 have dD:=BJ hs hc;have hxc:x<c:=hx c (List.mem_of_getElem? hc);have XY:c∉xd.ch.take k:=λhh=>Nat.lt_irrefl _ (dD c hh);have iM:=zM (many:=(sz P c:Int)+more) lI h.here (by omega);have KK:((xd.ch.take (k+1)).map (sz P)).sum=((xd.ch.take k).map (sz P)).sum+sz P c:=by rw [pK hc];simp
 have jx:∀y,y∈xd.ch.take (k+1)↔y∈xd.ch.take k\/y=c:=by intro y;rw [pK hc];simp
 exact {
  pM:=h.pM.trans (xC _ lI h.here (by omega))
  here:=by rw [iM,if_pos rfl]
  rest:=λy hy hn=>by
   rw [iM,if_neg hy,if_neg (λe=>hn ((jx y).2 (.inr e)))];exact h.rest y hy (λhh=>hn ((jx y).2 (.inl hh)))
  lo:=by rw [KK];have:=h.lo;omega
  up:=by
   rw [KK];have h1:=h.up;have e1:(f+((sz P c:Int)+more)-xd.lo-((((xd.ch.take k).map (sz P)).sum+sz P c:Nat):Int))*(sz P x:Int)=(f-xd.lo-((((xd.ch.take k).map (sz P)).sum:Nat):Int))*(sz P x:Int)+more*(sz P x:Int):=by
    rw [<-Int.add_mul];congr 1;omega
   have e2:half*((((xd.ch.take k).map (sz P)).sum+sz P c:Nat):Int)=half*((((xd.ch.take k).map (sz P)).sum:Nat):Int)+half*(sz P c:Int):=by
    rw [<-Int.mul_add];congr 1
   rw [e1,e2];omega
  sU:=λy yd hy Er=>by
   have hlo:=h.lo;rw [iM]at Er;rcases(jx y).1 hy with hh|rfl
   ·have h1:=dD y hh
    have h2:=hx y (List.mem_of_mem_take hh);rw [if_neg (by omega),if_neg (by omega)]at Er;have:=h.sU y yd hh Er;exact⟨this.1,by omega,this.2.2⟩
   ·rw [if_neg (by omega),if_pos rfl]at Er
    cases Er;refine⟨?_,?_,?_⟩<;>simp only<;>omega
  ord:=λa b ad bd ha hb mK Qx Qr=>by
   rw [iM]at Qx Qr;rcases(jx b).1 hb with xz|rfl
   ·have h1:=dD b xz
    rcases(jx a).1 ha with AP|rfl
    ·have h2:=hx a (List.mem_of_mem_take AP)
     rw [if_neg (by omega),if_neg (by omega)]at Qx Qr;exact h.ord a b ad bd AP xz mK Qx Qr
    ·omega
   ·rcases(jx a).1 ha with AP|rfl
    ·have h1:=dD a AP
     have h2:=hx a (List.mem_of_mem_take AP);rw [if_neg (by omega),if_neg (by omega)]at Qx;rw [if_neg (by omega),if_pos rfl]at Qr;cases Qr;exact(h.sU a ad AP Qx).2.1
    ·omega}
end
structure pG(P:List Int)(T0:List Nd)(m:Nat)(T':List Nd)(q:List Nat)(i:Nat):Prop where
 pM:nn T0 T'
 nodup:q.Nodup
 qG:∀y,y∈q->lV P y m
 fst:m∈q
 src:∀y,y∈q->y=m\/∃z:Nat,z∈q.take i/\P[y]? =some (z:Int)
 don:∀z,z∈q.take i->∀c,c∈kids P z->c∈q
 rest:∀y,y∉q->T'[y]? =T0[y]?
 top:∀md VZ,T0[m]? =some md->T'[m]? =some VZ->VZ.lo=md.lo/\VZ.hi=md.hi
 room:∀y yd,y∈q->T'[y]? =some yd->1<=yd.lo/\yd.hi<=4611686018427387904/\(sz P y:Int)<=yd.hi-yd.lo+1
 loc:∀z zd,z∈q.take i->T'[z]? =some zd->Loc T' zd
theorem pG.start{P:List Int}{T0:List Nd}{m:Nat}{md:Nd}(hm:m<P.length)(zF:T0[m]? =some md)(h1:1<=md.lo)(h2:md.hi<=4611686018427387904)(h3:(sz P m:Int)<=md.hi-md.lo+1):
 pG P T0 m T0 [m] 0:= {
 pM:=nn.refl _
 nodup:=by simp
 qG:=λy hy=>by simp at hy;subst hy;exact .refl hm
 fst:=by simp
 src:=λy hy=>by simp at hy;exact .inl hy
 don:=λz hz=>by simp at hz
 rest:=λ_ _=>rfl
 top:=λa b ha hb=>by rw [ha]at hb;cases hb;exact⟨rfl,rfl⟩
 room:=λy yd hy Er=>by
  simp at hy;subst hy;rw [zF]at Er;cases Er;exact⟨h1,h2,h3⟩
 loc:=λz zd hz=>by simp at hz}
section
variable{T0 T' GZ:List Nd}{m x i:Nat}{q:List Nat}{xd:Nd}{f half:Int}
theorem pG.step(hS:Shape T0)(h:pG (cK T0) T0 m T' q i)(hq:q[i]? =some x)(Mg:T'[x]? =some xd)
 (GH:0<=half) (aeK:half*2<=xd.hi-xd.lo-((sz (cK T0) x:Int)-1))
 (gD:rO (cK T0) (T'.set x {xd with free:=xd.lo}) x {xd with free:=xd.lo} half xd.ch.length GZ f):
 pG (cK T0) T0 m GZ (q++xd.ch) (i+1):=by
 have hS':=h.pM.shape hS;have hpe:=h.pM.cK;have hP:=hS.par;have qx:xd.ch=kids (cK T0) x:=by rw [hS'.ch x xd Mg,hpe]
 have eA:i<q.length:=(lgeS hq).1;have KE:x∈q:=List.mem_of_getElem? hq;have vx:x<(cK T0).length:=(h.qG x KE).lt;have we:q.take (i+1)=q.take i++ [x]:=pK hq;have Sd:(q++xd.ch).take (i+1)=q.take i++ [x]:=by rw [List.take_append_of_le_length (by omega),we]
 have PD:x∉q.take i:=by
  intro hh;have hn:(q.take i++ [x]).Nodup:=by rw [<-we];exact h.nodup.sublist (List.take_sublist _ _)
  rw [List.nodup_append]at hn;exact hn.2.2 x hh x (by simp) rfl
 have Ip:∀c,c∈xd.ch->(cK T0)[c]? =some (x:Int):=λc hc=>gh.1 (qx▸hc);have yn:∀c,c∈xd.ch->x<c:=λc hc=>(ki hP (qx▸hc)).1;have oY:∀c,c∈xd.ch->c∉q:=by
  intro c hc hcq;rcases h.src c hcq with rfl|⟨z,hz,Mn⟩
  ·have:=(h.qG x KE).le hP
   have:=yn _ hc;omega
  ·rw [Ip c hc]at Mn
   have:z=x:=by have:=Option.some.inj Mn;omega
   exact PD (this▸hz)
 have aly:x∉xd.ch:=λhh=>Nat.lt_irrefl _ (yn x hh);have dr:∀c,c∈(({xd with free:=xd.lo}:Nd).ch.take xd.ch.length)↔c∈xd.ch:=by intro c;simp
 have KK:(xd.ch.map (sz (cK T0))).sum+1=sz (cK T0) x:=by
  rw [qx];exact FT hP vx
 have kW:=wu hP vx;have UW:=gD.bound GH kW (by simp only [List.take_length];omega);have aeW:=gD.lo;simp only [List.take_length]at UW aeW;have aeX:f<=xd.hi:=by omega
 have hT1:∀y,y≠x->(T'.set x {xd with free:=xd.lo})[y]? =T'[y]? :=λy hy=>List.getElem?_set_ne (λe=>hy e.symm);have KS:∀y,y≠x->y∉xd.ch->GZ[y]? =T'[y]? :=λy hy hn=>by
  rw [gD.rest y hy (λhh=>hn ((dr y).1 hh)),hT1 y hy]
 have Qb:GZ[x]? =some {xd with free:=f}:=gD.here;have hxr:=h.room x xd KE Mg;have hlh:xd.lo<=xd.hi:=by omega
 have hold:∀y Bz,y∉xd.ch->GZ[y]? =some Bz->∃yd,T'[y]? =some yd/\yd.lo=Bz.lo/\yd.hi=Bz.hi:=by
  intro y Bz hn hy;by_cases e:y=x
  ·subst e
   rw [Qb]at hy;cases hy;exact⟨xd,Mg,rfl,rfl⟩
  ·rw [KS y e hn]at hy
   exact⟨Bz,hy,rfl,rfl⟩
 exact {
  pM:=(h.pM.trans (nn.set (nd':= {xd with free:=xd.lo}) Mg rfl rfl)).trans gD.pM
  nodup:=by
   rw [List.nodup_append];refine⟨h.nodup,?_,λa ha b hb e=>oY b hb (e▸ha)⟩;rw [qx];exact(vv _ _).imp (λh=>by omega)
  qG:=λy hy=>by
   rcases List.mem_append.1 hy with hy|hy
   ·exact h.qG y hy
   ·exact .step (Ip y hy) (h.qG x KE)
  fst:=List.mem_append.2 (.inl h.fst)
  src:=λy hy=>by
   rw [Sd];rcases List.mem_append.1 hy with hy|hy
   ·rcases h.src y hy with e|⟨z,hz,Mn⟩
    ·exact .inl e
    ·exact .inr ⟨z,List.mem_append.2 (.inl hz),Mn⟩
   ·exact .inr ⟨x,by simp,Ip y hy⟩
  don:=λz hz c hc=>by
   rw [Sd]at hz;rcases List.mem_append.1 hz with hz|hz
   ·exact List.mem_append.2 (.inl (h.don z hz c hc))
   ·simp at hz
    subst hz;exact List.mem_append.2 (.inr (qx▸hc))
  rest:=λy hy=>by
   have h1:y∉q:=λhh=>hy (List.mem_append.2 (.inl hh));have h2:y∉xd.ch:=λhh=>hy (List.mem_append.2 (.inr hh));rw [KS y (λe=>h1 (e▸KE)) h2,h.rest y h1]
  top:=λmd acD zF Yf=>by
   obtain⟨VZ,h1,h2,h3⟩:=hold m acD (λhh=>oY m hh h.fst) Yf;have:=h.top md VZ zF h1;omega
  room:=λy Bz hy PA=>by
   rcases List.mem_append.1 hy with hy|hy
   ·obtain⟨yd,h1,h2,h3⟩:=hold y Bz (λhh=>oY y hh hy) PA
    have:=h.room y yd hy h1;omega
   ·have:=gD.sU y Bz ((dr y).2 hy) PA
    simp only at this;omega
  loc:=λz zd hz hzd=>by
   rw [Sd]at hz;rcases List.mem_append.1 hz with hz|hz
   ·have hzq:z∈q:=List.mem_of_mem_take hz
    have WZ:z≠x:=λe=>PD (e▸hz);have RX:=hzd;rw [KS z WZ (λhh=>oY z hh hzq)]at RX;have hl:=h.loc z zd hz RX;have ac5:zd.ch=kids (cK T0) z:=by rw [hS'.ch z zd RX,hpe]
    have hcn:∀c,c∈zd.ch->c∉xd.ch:=by
     intro c hc ES;have h1:=Ip c ES;rw [gh.1 (ac5▸hc:c∈kids (cK T0) z)]at h1;have:=Option.some.inj h1;omega
    exact {
     Jg:=hl.Jg
     Fe:=hl.Fe
     sub:=λc cd hc lI=>by
      obtain⟨sr,h1,h2,h3⟩:=hold c cd (hcn c hc) lI;have:=hl.sub c sr hc h1;omega
     ord:=λc c' cd sr hc vS CQ lI sZ=>by
      obtain⟨ed,h1,h2,h3⟩:=hold c cd (hcn c hc) lI;obtain⟨TW,vC,xA,Dz⟩:=hold c' sr (hcn c' vS) sZ;have:=hl.ord c c' ed TW hc vS CQ h1 vC;omega}
   ·simp at hz
    subst hz;rw [Qb]at hzd;cases hzd;exact {
     Jg:=by simp only;omega
     Fe:=aeX
     sub:=λc cd hc lI=>by
      have:=gD.sU c cd ((dr c).2 hc) lI;simp only at this⊢;omega
     ord:=λc c' cd sr hc vS CQ lI sZ=>gD.ord c c' cd sr ((dr c).2 hc) ((dr c').2 vS) CQ lI sZ}}
theorem pG.fin(hS:Shape T0)(h:pG (cK T0) T0 m T' q i)(hi:q.length<=i)
 (XP:∀y nd,T0[y]? =some nd->¬lV (cK T0) y m->Iv nd/\Loc T0 nd):Good T':=by
 have hS':=h.pM.shape hS;have hpe:=h.pM.cK;have hP:=hS.par;have we:q.take i=q:=List.take_of_length_le hi;have tB:∀y,lV (cK T0) y m->y∈q:=by
  have:∀y k,lV (cK T0) y k->k=m->y∈q:=by
   intro y k hu
   induction hu with
   |refl=>intro e;subst e;exact h.fst
   | @step a b c hp h' ih=>intro e;exact h.don b (by rw [we];exact ih e) a (gh.2 hp)
  exact λy hu=>this y m hu rfl
 have hq:∀y,y∈q↔lV (cK T0) y m:=λy=>⟨h.qG y,tB y⟩;refine⟨hS',λy yd Er=>?_,λy yd Er=>?_⟩
 ·by_cases hy:y∈q
  ·have hr:=h.room y yd hy Er
   have:=wu hP (h.qG y hy).lt;exact⟨hr.1,by omega,hr.2.1⟩
  ·rw [h.rest y hy]at Er
   exact(XP y yd Er (λhu=>hy (tB y hu))).1
 ·by_cases hy:y∈q
  ·exact h.loc y yd (by rw [we];exact hy) Er
  ·have R0:=Er
   rw [h.rest y hy]at R0;have hl:=(XP y yd R0 (λhu=>hy (tB y hu))).2;have qx:=hS.ch y yd R0;have hold:∀c cd,c∈yd.ch->T'[c]? =some cd->∃ed,T0[c]? =some ed/\ed.lo=cd.lo/\ed.hi=cd.hi:=by
    intro c cd hc lI;by_cases hcq:c∈q
    ·have hpc:=gh.1 (qx▸hc:c∈kids (cK T0) y)
     have qo:c=m:=by
      by_cases e:c=m
      ·exact e
      ·exact absurd (tB y ((h.qG c hcq).inv e hpc)) hy
     subst qo;obtain⟨ed,hed,_⟩:=h.pM.back lI;have:=h.top ed cd hed lI;exact⟨ed,hed,by omega,by omega⟩
    ·rw [h.rest c hcq]at lI
     exact⟨cd,lI,rfl,rfl⟩
   exact {
    Jg:=hl.Jg
    Fe:=hl.Fe
    sub:=λc cd hc lI=>by
     obtain⟨ed,h1,h2,h3⟩:=hold c cd hc lI;have:=hl.sub c ed hc h1;omega
    ord:=λc c' cd sr hc vS CQ lI sZ=>by
     obtain⟨ed,h1,h2,h3⟩:=hold c cd hc lI;obtain⟨TW,vC,xA,Dz⟩:=hold c' sr vS sZ;have:=hl.ord c c' ed TW hc vS CQ h1 vC;omega}
end
open Go Go.RowKit Go.cF
theorem Ro{l:List Nat}{a:Nat}(h:a∈l):a<=l.sum:=by
 induction l with
 |nil=>simp at h
 |cons b l ih=>
  rw [List.sum_cons];rcases List.mem_cons.1 h with rfl|h
  ·omega
  ·have:=ih h;omega
theorem CE{l:List Nat}{j x:Nat}(h:l[j]? =some x):(ints l)[j]? =some (.int .i64 (x:Int)):=by simp [ints,h]
theorem KC(l:List Nat):(ints l).length=l.length:=by simp [ints]
theorem KB(l:List Nat):∀u∈ints l,u.oneCell'=true:=by
 intro u hu;simp only [ints,List.mem_map]at hu;obtain⟨x,_,rfl⟩:=hu;rfl
structure Dl(w0:World)(S:Nat->Prop)(g b c B0 B1 len:Nat)(P:List Int)(d:Int)(As:Option Addr)(w:World)(T':List Nd)(L:List (Nd×Value))(Aq:Option Addr)(nq cq:Nat)(q:List Nat):Prop where
 tv:TV w S g T' d b c L
 rs:Row w B0 iA 1 As len len (us (sz P) len)
 sb:∀k,bL As=some k->k<B1
 rq:Row w B1 iT 1 Aq nq cq (ints q)
 kp:Kept S w0 w
 hS:∀k,S k->k<B0
 hB:B0<=B1
 Lm:B1<=w.heap.size
 h0:w0.heap.size<=B0
section
variable{w0 w w':World}{S:Nat->Prop}{g b c B0 B1 len:Nat}{P:List Int}{d:Int}{As:Option Addr}{T' GZ:List Nd}{L L':List (Nd×Value)}{Aq:Option Addr}{nq cq:Nat}{q:List Nat}
theorem Dl.MU(h:Dl w0 S g b c B0 B1 len P d As w T' L Aq nq cq q):nq=q.length:=by
 have:=Row.len h.rq;rw [KC]at this;omega
theorem Dl.quiet(h:Dl w0 S g b c B0 B1 len P d As w T' L Aq nq cq q)(hk:Kept Nil w w'):Dl w0 S g b c B0 B1 len P d As w' T' L Aq nq cq q:= {
 tv:=h.tv.kept hk
 rs:=Row.aN h.rs hk (λ_ _ h=>h)
 sb:=h.sb
 rq:=Row.aN h.rq hk (λ_ _ h=>h)
 kp:=h.kp.trans hk (λ_ _ h=>h.elim)
 hS:=h.hS
 hB:=h.hB
 Lm:=Nat.le_trans h.Lm hk.size
 h0:=h.h0}
theorem Dl.wrote(h:Dl w0 S g b c B0 B1 len P d As w T' L Aq nq cq q)(hk:Kept (λk=>k=b) w w')(ht:TV w' S g GZ d b c L'):Dl w0 S g b c B0 B1 len P d As w' GZ L' Aq nq cq q:= {
 tv:=ht
 rs:=Row.aN h.rs hk (λk e e2=>by have:=(Row.bX h.rs e).1;have:=h.hS b h.tv.iH;omega)
 sb:=h.sb
 rq:=Row.aN h.rq hk (λk e e2=>by have:=(Row.bX h.rq e).1;have:=h.hS b h.tv.iH;have:=h.hB;omega)
 kp:=h.kp.trans hk (λk _ e=>by rw [e];exact h.tv.iH)
 hS:=h.hS
 hB:=h.hB
 Lm:=Nat.le_trans h.Lm hk.size
 h0:=h.h0}
theorem Dl.Gb(h:Dl w0 S g b c B0 B1 len P d As w T' L Aq nq cq q){j:Nat}(hj:j<len){k:Int->Prop}(hk:k (sz P j)):
 Is As λa=>∃t,w.cell? (a.add (j*1))=some (.int .u64 t)/\k t:=by
 have hr:=h.rs;obtain⟨b',rfl⟩:=Row.some hr (by omega);exact⟨_,by rw [oz,Nat.mul_one];exact Row.cell hr (qM _ hj),hk⟩
theorem Dl.VN(h:Dl w0 S g b c B0 B1 len P d As w T' L Aq nq cq q){j x:Nat}(hj:q[j]? =some x){k:Int->Prop}(hk:k x):
 Is Aq λa=>∃t,w.cell? (a.add (j*1))=some (.int .i64 t)/\k t:=by
 have hr:=h.rq;have dD:=(lgeS hj).1;obtain⟨b',rfl⟩:=Row.some hr (by rw [h.MU];omega);exact⟨_,by rw [oz,Nat.mul_one];exact Row.cell hr (CE hj),hk⟩
theorem Dl.push(h:Dl w0 S g b c B0 B1 len P d As w T' L Aq nq cq q)(ym:q.length<=4000000)(x:Nat){w1:World}(e1:w1=w.alloc (.cells #[.int .i64 (x:Int)] iT)):
 ∃MG MB w2,(Builtin.append_ #[kN,kN] kN #[.slice Aq nq cq,.slice (some ⟨w.heap.size,0,none⟩) 1 1]).run prog w1=.ok (.slice MG (nq+1) MB) w2/\
  Dl w0 S g b c B0 B1 len P d As w2 T' L MG (nq+1) MB (q++ [x])/\(∀S0:Nat->Prop,(∀k,bL Aq=some k->S0 k)->Kept S0 w w2):=by
 subst e1;generalize Mh:w.alloc (.cells #[.int .i64 (x:Int)] iT)=w1;have oY:w1.heap[w.heap.size]? =some (.cells #[.int .i64 (x:Int)] iT (0,0)):=by rw [<-Mh];exact aO w _
 have k1:Kept Nil w w1:=by rw [<-Mh];exact(Kept.refl Nil w).alloc _
 have h1:=h.quiet k1;have Jc:=h.MU;obtain⟨A',c',w2,hr,gL,hg,EU⟩:=gU (P:=prog) (t:=kN) (ty:=kN) O6 h1.rq (a:=⟨w.heap.size,0,none⟩) (m:=1) (cx:=1)
  (news:=ints [x]) rfl (λj u hj=>by rw [oz,aI oY];simpa [ints]using hj) (KB _) (by omega) (by unfold maxLen;omega) h1.Lm
 have kA:Kept (λk=>bL Aq=some k) w1 w2:=(Kept.refl _ w1).grown hg (λk hk _=>hk);have gE:∀k,bL Aq=some k->B1<=k:=λk e=>(Row.bX h.rq e).1;refine⟨A',c',w2,hr,?_,λS0 h0=>(k1.mono (S':=S0) (λ_ _ h=>h.elim)).trans kA (λk _ e=>h0 k e)⟩;exact {
  tv:=h1.tv.aN kA (λk hk e=>by have:=h.hS k hk;have:=gE k e;have:=h.hB;omega)
  rs:=Row.aN h1.rs kA (λk e e2=>by have:=h.sb k e;have:=gE k e2;omega)
  sb:=h.sb
  rq:=by simpa [ints]using gL
  kp:=(h.kp.trans k1 (λ_ _ h=>h.elim)).trans kA (λk hk e=>absurd (gE k e) (by have:=h.hB;have:=h.h0;omega))
  hS:=h.hS
  hB:=h.hB
  Lm:=Nat.le_trans h1.Lm kA.size
  h0:=h.h0}
theorem Fi{T0 T1:List Nd}{x:Nat}{xd:Nd}{half:Nat}{spare i:Int}{Ach:Option Addr}{mch:Nat}{Qo:aZ}
 (D:Dl w0 S g b c B0 B1 T0.length (cK T0) d As w T1 L Aq nq cq q) (hS:Shape T0) (hsk:nn T0 T1) (hlen:T0.length<=1000000) (Jc:q.length<=1000000)
 (hx:T1[x]? =some xd) (CO:xd.free=xd.lo) (hlo:0<=xd.lo) (hhi:xd.hi<=4611686018427387904) (GH:(half:Int)*2<=xd.hi-xd.lo-((sz (cK T0) x:Int)-1))
 (Ic:u64.wrap (spare.tdiv 2)=(half:Int)) (afa:Row w 0 iT 1 Ach xd.ch.length mch (ints xd.ch)) (Y3:∀k,bL Ach=some k->S k/\k≠b)
 (hex:∀w' GZ f L' MG MB,Dl w0 S g b c B0 B1 T0.length (cK T0) d As w' GZ L' MG (nq+xd.ch.length) MB (q++xd.ch)->rO (cK T0) T1 x xd half xd.ch.length GZ f->
   Qo .normal [(0,.pointer (some ⟨g,0,none⟩)),(4,.slice As T0.length T0.length),(5,.slice MG (nq+xd.ch.length) MB),(6,.int .i64 (i64.wrap (i+1)))] w'):
 Holds none [] prog 164 (.loop (lB (bB (dc (bB (sL (sR (lB (bB (dc (sR (body aJ.fn)))))))))))) (aJ.q3 Qo) (aJ.e3 (some ⟨g,0,none⟩) As T0.length T0.length i x spare Ach xd.ch.length mch xd.ch.length (Aq,nq,cq,0)) w:=by
 have hP:=hS.par;have rZ:=gg T0;have qx:xd.ch=kids (cK T0) x:=by
  have:=(hsk.shape hS).ch x xd hx
  rwa [hsk.cK]at this
 have vx:x<T0.length:=by rw [<-hsk.len];exact(lgeS hx).1
 have NF:xd.ch.Pairwise (· < ·):=by rw [qx];exact vv _ _
 have yn:∀y,y∈xd.ch->x<y:=λy hy=>(ki hP (qx▸hy)).1;have Y2:xd.ch.length<=1000000:=by rw [qx];exact Nat.le_trans (Cs _ _) (by omega)
 have KK:(xd.ch.map (sz (cK T0))).sum+1=sz (cK T0) x:=by rw [qx];exact FT hP (by omega)
 have kW:=wu hP (n:=x) (by omega);have adx:=y0 (P:=cK T0) x;have hnq:=D.MU;refine aJ.xg (I:=λs w'=>∃(k:Nat) (T':List Nd) (f:Int) (L':List (Nd×Value)) (MG:Option Addr) (MB:Nat),s=(MG,nq+k,MB,(k:Int))/\k<=xd.ch.length/\
  Dl w0 S g b c B0 B1 T0.length (cK T0) d As w' T' L' MG (nq+k) MB (q++xd.ch.take k)/\rO (cK T0) T1 x xd half k T' f/\Row w' 0 iT 1 Ach xd.ch.length mch (ints xd.ch))
  (μ:=λs _=>((xd.ch.length:Int)-s.2.2.2).toNat) (s:=(Aq,nq,cq,0)) ⟨0,T1,xd.lo,L,Aq,cq,rfl,Nat.zero_le _,by simpa using D,rO.start hx CO,afa⟩ ?_
 rintro s w' ⟨k,T',f,L',MG,MB,rfl,hk,D',gD,hr⟩;refine Split.dec (λdD=>?_) (λgE=>?_)
 ·simp only at dD
  have EI:k<xd.ch.length:=by omega
  obtain⟨ci,hci⟩:∃ci,xd.ch[k]? =some ci:=⟨_,List.getElem?_eq_getElem EI⟩;have qo:ci∈xd.ch:=List.mem_of_getElem? hci;have hck:ci∈kids (cK T0) x:=qx▸qo;have tB:ci<T0.length:=by have:=(ki hP hck).2;omega
  have hxc:=yn ci qo;have Gu:=wu hP (n:=ci) (by omega);have alT:=y0 (P:=cK T0) ci;have Xd:=hsk.trans gD.pM;obtain⟨cd,lI⟩:=iC (T:=T') (i:=ci) (by rw [Xd.len];exact tB);have Y0:cd.parent=x:=by
   have h1:=mR lI;rw [Xd.cK,gh.1 hck]at h1;exact(Option.some.inj h1).symm
  have adA:sz (cK T0) ci<=sz (cK T0) x:=by
   have:=Ro (l:=xd.ch.map (sz (cK T0))) (a:=sz (cK T0) ci) (List.mem_map.2 ⟨ci,qo,rfl⟩);omega
  have Zf:0<=(ci:Int)/\(ci:Int)<(T0.length:Int):=⟨by omega,by omega⟩;have ly:0<=(x:Int)/\(x:Int)<(T0.length:Int):=⟨by omega,by omega⟩;have aeJ:half<4611686018427387904:=by omega
  obtain⟨bch,afp⟩:=Row.some hr (by omega);subst afp;refine⟨⟨by simp only;omega,by simp only;omega⟩,_,by simp only [oz,Int.toNat_natCast,Nat.mul_one];exact Row.cell hr (CE hci),by decide,Zf,D'.Gb tB ?_⟩;rw [Ic];refine yO half (sz (cK T0) ci) (by omega) (by omega) ⟨_,_,rfl,ly,D'.Gb vx ?_⟩;have Ye:(half*sz (cK T0) ci/18446744073709551616)*18446744073709551616+half*sz (cK T0) ci%18446744073709551616=half*sz (cK T0) ci:=Nat.div_add_mod' _ _;have aeI:half*sz (cK T0) ci/18446744073709551616<sz (cK T0) x:=by
   have:half*sz (cK T0) ci<18446744073709551616*sz (cK T0) ci:=Nat.mul_lt_mul_of_pos_right (by omega) Gu;have:half*sz (cK T0) ci/18446744073709551616<sz (cK T0) ci:=Nat.div_lt_of_lt_mul this;omega
  refine yQ _ _ (sz (cK T0) x) (Nat.mod_lt _ (by omega)) (by omega) aeI λr w90 k90=>?_;rw [Ye];generalize hm:half*sz (cK T0) ci/sz (cK T0) x=more;have hmx:more*sz (cK T0) x<=half*sz (cK T0) ci:=by rw [<-hm];exact Nat.div_mul_le_self _ _
  have amD:more<=half:=by
   rw [<-hm];apply Nat.div_le_of_le_mul;rw [Nat.mul_comm];exact Nat.mul_le_mul_right _ adA
  have D90:=D'.quiet k90;have adL:=Row.aN hr k90 (λ_ _ h=>h);refine⟨_,_,rfl,Zf,D90.Gb tB ?_⟩;rw [gY (x:=(sz (cK T0) ci:Int)+(more:Int)) (by omega) (by omega)];have Bs:=gD.bound (by omega) kW (by
   have h1:(((xd.ch.take k).map (sz (cK T0))).sum)<=(xd.ch.map (sz (cK T0))).sum:=by
    conv=>rhs;rw [<-List.take_append_drop k xd.ch,List.map_append,List.sum_append]
    omega
   omega)
  have oN:=gD.lo;have h1:(((xd.ch.take k).map (sz (cK T0))).sum)<=(xd.ch.map (sz (cK T0))).sum:=by
   conv=>rhs;rw [<-List.take_append_drop k xd.ch,List.map_append,List.sum_append]
   omega
  refine wo D90.tv lI gD.here Y0 (by omega) (by simp only;omega) (by omega) (by simp only;omega) λw96 L96 h96 k96=>⟨rfl,?_⟩;have D96:=D90.wrote k96 h96;have adJ:=Row.aN adL k96 (λk e e2=>(Y3 k e).2 e2);intro w97;have Sc:(xd.ch.take k).length<=1000000:=by rw [List.length_take];omega
  obtain⟨Vi,U6,Uh,Sh,D99,k99⟩:=D96.push (by rw [List.length_append];omega) ci (w1:=w97) rfl;have adI:=Row.aN adJ (k99 (λk=>B1<=k) (λk e=>(Row.bX D96.rq e).1)) (λk e e2=>by have:=D.hS k (Y3 k e).1;have:=D.hB;omega);refine⟨Vi,_,U6,Uh,Sh,?_⟩;rw [jG (x:=(k:Int)+1) (by omega) (by omega)];refine⟨(Vi,nq+(k+1),U6,((k+1:Nat):Int)),rfl,⟨k+1,_,_,L96,Vi,U6,rfl,EI,?_,gD.step (more:=(more:Int)) NF yn hci lI (by omega) ?_ Gu,adI⟩,by simp only;omega⟩
  ·rw [pK hci,<-List.append_assoc]
   exact D99
  ·have:((more*sz (cK T0) x:Nat):Int)<=((half*sz (cK T0) ci:Nat):Int):=by omega
   rwa [Int.natCast_mul,Int.natCast_mul]at this
 ·simp only at gE
  have:k=xd.ch.length:=by omega
  subst this;rw [bg,aJ.DF];rw [List.take_length]at D';exact hex w' T' f L' MG MB D' gD
end
theorem JS:∀(n:Nat) (q:List Nat),q.Nodup->(∀y,y∈q->y<n)->q.length<=n:=by
 intro n
 induction n with
 |zero=>
  intro q _ h;cases q with
  |nil=>simp
  |cons a q=>exact absurd (h a (by simp)) (by omega)
 |succ n ih=>
  intro q hn h;by_cases hm:n∈q
  ·have h1:=List.length_erase_of_mem hm
   have h2:=ih (q.erase n) (hn.erase n) (λy hy=>by
    have:=(List.Nodup.mem_erase_iff hn).1 hy;have:=h y this.2;omega)
   omega
  ·have:=ih q hn (λy hy=>by
    have:=h y hy;have:y≠n:=λe=>hm (e▸hy);omega)
   omega
section
variable{w0 w:World}{S:Nat->Prop}{g b c B0:Nat}{d:Int}{As:Option Addr}{L:List (Nd×Value)}{T:List Nd}{K:Value->World->Prop}
theorem Fh{T0:List Nd}{m:Nat}{md:Nd}
 (htv:TV w S g T0 d b c L) (hrs:Row w B0 iA 1 As T0.length T0.length (us (sz (cK T0)) T0.length)) (Yv:Kept S w0 w) (hSB:∀k,S k->k<B0) (W5:w0.heap.size<=B0) (hBw:B0<=w.heap.size)
 (hS:Shape T0) (hlen:T0.length<=1000000) (zF:T0[m]? =some md) (h1:1<=md.lo) (h2:md.hi<=4611686018427387904) (h3:(sz (cK T0) m:Int)<=md.hi-md.lo+1)
 (hK:∀w' T' q i,qK w' S g T' d->pG (cK T0) T0 m T' q i->q.length<=i->Kept S w0 w'->K (.tuple #[]) w'):
 aJ.dA (some ⟨g,0,none⟩) m As T0.length T0.length K w:=by
 have hP:=hS.par;have rZ:=gg T0;have K0:m<T0.length:=(lgeS zF).1;unfold aJ.dA;intro kr;have nA:Kept Nil w kr:=(Kept.refl Nil w).alloc _;have oY:kr.heap[w.heap.size]? =some (.cells #[.int .i64 (m:Int)] iT (0,0)):=aO w _;have D35:Dl w0 S g b c B0 w.heap.size T0.length (cK T0) d As kr T0 L (some ⟨w.heap.size,0,none⟩) 1 1 [m]:= {
  tv:=htv.kept nA
  rs:=Row.aN hrs nA (λ_ _ h=>h)
  sb:=λk e=>by obtain⟨_,_,hc⟩:=Row.bX hrs e;exact bt hc
  rq:=Row.made (n:=1) (cur:= #[.int .i64 (m:Int)]) oY (Nat.le_refl _) rfl (by decide)
  kp:=Yv.trans nA (λ_ _ h=>h.elim)
  hS:=hSB
  hB:=hBw
  Lm:=nA.size
  h0:=W5}
 clear_value kr;generalize Lm:w.heap.size=B1 at*;refine aJ.iY (I:=λs w'=>∃(i:Nat) (T':List Nd) (L':List (Nd×Value)) (Aq:Option Addr) (nq cq:Nat) (q:List Nat),s=(Aq,nq,cq,(i:Int))/\i<=q.length/\
  Dl w0 S g b c B0 B1 T0.length (cK T0) d As w' T' L' Aq nq cq q/\pG (cK T0) T0 m T' q i)
  (μ:=λs _=>((T0.length:Int)-s.2.2.2).toNat) (s:=(some ⟨B1,0,none⟩,1,1,0)) ⟨0,T0,L,_,1,1,[m],rfl,Nat.zero_le _,D35,pG.start (by omega) zF h1 h2 h3⟩ ?_
 rintro s w' ⟨i,T',L',Aq,nq,cq,q,rfl,hi,D,hO⟩;have hnq:=D.MU;have Jc:q.length<=T0.length:=JS _ _ hO.nodup (λy hy=>by have:=(hO.qG y hy).lt;omega);refine Split.dec (λdD=>?_) (λgE=>?_)
 ·simp only at dD
  have eA:i<q.length:=by omega
  obtain⟨x,hqx⟩:∃x,q[i]? =some x:=⟨_,List.getElem?_eq_getElem eA⟩;have KE:x∈q:=List.mem_of_getElem? hqx;have vx:x<T0.length:=by have:=(hO.qG x KE).lt;omega
  obtain⟨xd,Mg⟩:=iC (T:=T') (i:=x) (by rw [hO.pM.len];exact vx);have vz:=hO.room x xd KE Mg;have kW:=wu hP (n:=x) (by omega);have adx:=y0 (P:=cK T0) x;have hlT:T'.length=T0.length:=hO.pM.len;have ly:0<=(x:Int)/\(x:Int)<(T'.length:Int):=⟨by omega,by omega⟩;refine⟨⟨by simp only;omega,by simp only;omega⟩,D.VN hqx ?_⟩;intro Jr;have Vh:=D.quiet (w':=Jr) (Kept.refl Nil w').drew;clear_value Jr;obtain⟨v,hv⟩:=Vh.tv.at_ Mg;obtain⟨wr,h50⟩:=Vh.tv.wA hv (j:=4) (by omega) (u:=.int .u64 xd.lo) (nd':= {xd with free:=xd.lo}) rfl rfl;refine Vh.tv.go (Vh.tv.go ⟨ly,Vh.tv.xH hv ⟨ly,by rw [qE];exact wr,?_⟩⟩);intro L8 Jq;have e50:L8=Jr.setCell ⟨b,x*5+4,none⟩ (.int .u64 xd.lo):=by simp only [L8,qE,Int.toNat_natCast]
  rw [<-e50]at h50;have UA:Kept (λk=>k=b) Jr L8:=by rw [e50];exact(Kept.refl (λk=>k=b) Jr).setCell (p:=⟨b,x*5+4,none⟩) (λ_=>rfl) _
  have MF:=(Vh.wrote UA h50).quiet (w':=Jq) (Kept.refl Nil L8).drew;clear_value Jq;have v1:(L'.set x ({xd with free:=xd.lo},v))[x]? =some ({xd with free:=xd.lo},v):=jU hv;obtain⟨Ach,mch,hk⟩:=MF.tv.sU _ _ v1;have Br:(T'.set x {xd with free:=xd.lo}).length=T'.length:=by simp
  have Tt:0<=(x:Int)/\(x:Int)<((T'.set x {xd with free:=xd.lo}).length:Int):=by rw [Br];exact ly
  have hbs:0<=(x:Int)/\(x:Int)<(T0.length:Int):=⟨by omega,by omega⟩;refine MF.tv.go ⟨Tt,MF.tv.CZ v1 (MF.tv.go ⟨Tt,MF.tv.xH v1 ⟨hbs,MF.Gb vx (MF.tv.go ⟨Tt,MF.tv.Z2 v1 hk.val ?_⟩)⟩⟩)⟩;have adz:nn T0 (T'.set x {xd with free:=xd.lo}):=hO.pM.trans (nn.set (nd':= {xd with free:=xd.lo}) Mg rfl rfl);simp only;obtain⟨cur,UZ⟩:=MF.tv.xX;generalize hhf:((xd.hi-xd.lo-((sz (cK T0) x:Int)-1)).toNat /2)=half;refine Fi (half:=half) (xd:= {xd with free:=xd.lo}) MF hS adz hlen (by omega) (jU Mg) rfl (by simp only;omega) (by simp only;omega) (by simp only;omega) ?_ hk.row (λk e=>⟨hk.lU k e,λe2=>hk.ne UZ (by decide) (by rw [e,e2])⟩) ?_
  ·rw [gY (x:=xd.hi-xd.lo) (by omega) (by omega),gY (x:=(sz (cK T0) x:Int)-1) (by omega) (by omega),gY (x:=xd.hi-xd.lo-((sz (cK T0) x:Int)-1)) (by omega) (by omega),
    Int.tdiv_eq_ediv_of_nonneg (by omega),gY (by omega) (by omega)]
   omega
  ·intro w2 T2 f L2 Vi U6 D2 gD
   rw [jG (x:=(i:Int)+1) (by omega) (by omega)];refine⟨(Vi,nq+xd.ch.length,U6,((i+1:Nat):Int)),rfl,⟨i+1,T2,L2,Vi,_,U6,q++xd.ch,rfl,by rw [List.length_append];omega,D2,hO.step hS hqx Mg (by omega) (by omega) gD⟩,by simp only;omega⟩
 ·simp only at gE
  rw [bg,aJ.lA];exact hK w' T' q i ⟨_,_,_,D.tv⟩ hO (by omega) D.kp
theorem TV.acb(h:TV w S g T d b c L)(d':Int):Wr w ⟨g,1,none⟩/\TV (w.setCell ⟨g,1,none⟩ (.int .i64 d')) S g T d' b c L:=by
 have kG:Kept (λk=>k=g) w (w.setCell ⟨g,1,none⟩ (.int .i64 d')):=(Kept.refl (λk=>k=g) w).setCell (p:=⟨g,1,none⟩) (λ_=>rfl) _;refine⟨eI h.top (show 1<2 by omega),?_⟩;exact {
  top:=by
   have:=dL h.top 1 (.int .i64 d');simpa using this
  fst:=h.fst
  row:=Row.aN h.row kG (λk e e2=>h.gb (by cases e;exact e2.symm))
  sU:=λi p hp=>by
   obtain⟨A,m,hk⟩:=h.sU i p hp;exact⟨A,m,hk.val,Row.aN hk.row kG (λk e e2=>hk.ne h.top (by decide) (by rw [e,e2])),hk.lU⟩
  apart:=h.apart
  jC:=h.jC
  iH:=h.iH}
set_option maxRecDepth 100000 in
theorem Hi(h:qK w S g T d)(hS:Shape T)(hlen:T.length<=1000000){p:Nat}(hp:p<T.length)(hd:0<=d/\d<=1000000)
 (Xm:∀nd,T[0]? =some nd->nd.lo=1/\nd.hi=4611686018427387904)
 (hiv:∀y nd,T[y]? =some nd->lV (cK T) p y->Iv nd)
 (hK:∀w' T' m q i,qK w' S g T' (d+1)->lV (cK T) p m->pG (cK T) T m T' q i->q.length<=i->Kept S w w'->K (.tuple #[]) w'):
 bJ prog aJ.id #[.pointer (some ⟨g,0,none⟩),.int .i64 p] w K:=by
 have hP:=hS.par;have rZ:=gg T;obtain⟨b,c,L,h⟩:=h;have hb:=h.bound;obtain⟨wr,h6⟩:=hb.acb (d+1);refine aJ.of (h.goD ⟨by rw [oz];exact wr,?_⟩);intro w6;have e6:w6=w.setCell ⟨g,1,none⟩ (.int .i64 (d+1)):=by simp only [w6,oz,jG (x:=d+1) (by omega) (by omega)]
 rw [<-e6]at h6;have k6:Kept (λk=>S k/\k<w.heap.size) w w6:=by rw [e6];exact(Kept.refl _ w).setCell (p:=⟨g,1,none⟩) (λ_=>hb.jC) _
 have NI:w.heap.size=w6.heap.size:=by rw [e6];simp
 clear_value w6;refine DM ⟨_,_,_,h6⟩ hP hlen λw8 As BT k8=>⟨_,_,_,rfl,?_⟩;have h8:=h6.kept k8;refine aJ.cP (I:=λs w'=>∃m:Nat,s=(m:Int)/\lV (cK T) p m/\Kept Nil w8 w') (μ:=λs _=>s.toNat) (s:=(p:Int)) ⟨p,rfl,.refl (by omega),Kept.refl _ _⟩ ?_;rintro s w' ⟨m,rfl,hu,kw⟩;have K0:m<T.length:=by have:=hu.lt';omega
 obtain⟨md,zF⟩:=iC K0;have hm:=hiv m md zF hu;have P3:=hm.lo1;have NX:=hm.le;have hm3:=hm.top;unfold aJ.B1;intro oD;have Cz:Kept Nil w8 oD:=kw.drew;have DA:=h8.kept Cz;have BW:=Row.aN BT Cz (λ_ _ h=>h);have mu:=mR zF;have alP:=y0 (P:=cK T) m;have Lg:0<=(m:Int)/\(m:Int)<(T.length:Int):=⟨by omega,by omega⟩;obtain⟨v,hv⟩:=DA.at_ zF;have done:(sz (cK T) m:Int)<=md.hi-md.lo+1->aJ.q1 K (.exit 0) [(0,.pointer (some ⟨g,0,none⟩)),(1,.int .i64 m),(4,.slice As T.length T.length)] oD:=by
  intro vz;rw [aJ.dJ];have k8':Kept (λk=>S k/\k<w.heap.size) w oD:=(k6.trans k8 (λ_ _ h=>h.elim)).trans Cz (λ_ _ h=>h.elim);refine Fh DA (B0:=w.heap.size) (Row.base BW (λk e=>by rw [NI];exact(Row.bX BW e).1)) k8' (λk h=>h.2) (Nat.le_refl _) k8'.size hS hlen zF P3 hm3 vz ?_;intro w2 T2 q i h2 hO hq k2;exact hK w2 T2 m q i (h2.mono (λk h=>h.1)) hu hO hq (k2.mono (λk _ h=>h.1))
 refine DA.go ⟨Lg,DA.Lt hv (Split.dec (λkW=>?_) (λCK=>?_))⟩
 ·obtain⟨bs,hbs⟩:=Row.some BW (by omega)
  subst hbs;refine DA.go ⟨Lg,DA.CZ hv (DA.go ⟨Lg,DA.xH hv ⟨by decide,Lg,_,by rw [oz,Int.toNat_natCast,Nat.mul_one];exact Row.cell BW (qM _ K0),?_⟩⟩)⟩;rw [gY (x:=md.hi-md.lo) (by omega) (by omega),gY (x:=md.hi-md.lo+1) (by omega) (by omega),Int.tdiv_eq_ediv_of_nonneg (by omega),gY (x:=(md.hi-md.lo+1)/4) (by omega) (by omega)];refine Split.dec (λdD=>?_) (λgE=>?_)
  ·have UQ:0<m:=by
    rcases Nat.eq_zero_or_pos m with rfl|h
    ·rw [hP.root]at mu;have:=Option.some.inj mu;omega
    ·exact h
   obtain⟨z,hz,ez⟩:=hP.up m _ UQ mu;refine DA.go ⟨Lg,DA.Lt hv ?_⟩;rw [ez];exact⟨(z:Int),rfl,⟨z,rfl,hu.trans (.step (by rw [mu,ez]) (.refl (by omega))),Cz⟩,by simp only;omega⟩
  ·rw [bg]
   exact done (by omega)
 ·have UQ:m=0:=by
   rcases Nat.eq_zero_or_pos m with h|h
   ·exact h
   ·obtain⟨z,_,ez⟩:=hP.up m _ h mu
    omega
  subst UQ;have:=Xm md zF;rw [bg];exact done (by omega)
end
structure yY(T:List Nd):Prop extends Good T where
 root:∀nd,T[0]? =some nd->nd.lo=1/\nd.hi=4611686018427387904
theorem D0:yY sA:=by
 have iM:∀(i:Nat) nd,sA[i]? =some nd->i=0/\nd=⟨-1,[],1,4611686018427387904,1⟩:=by
  intro i nd h;cases i with
  |zero=>simp [sA]at h;exact⟨rfl,h.symm⟩
  |succ i=>simp [sA]at h
 exact {
  par:=⟨rfl,λi p hi h=>by
   cases i with
   |zero=>omega
   |succ i=>simp [cK,sA]at h⟩
  ch:=λi nd h=>by
   obtain⟨rfl,rfl⟩:=iM i nd h;simp [kids,cK,sA]
  iv:=λi nd h=>by
   obtain⟨rfl,rfl⟩:=iM i nd h;exact⟨by decide,by decide,by decide⟩
  loc:=λi nd h=>by
   obtain⟨rfl,rfl⟩:=iM i nd h;exact⟨by decide,by decide,λc cd hc=>by simp at hc,λc c' cd sr hc=>by simp at hc⟩
  root:=λnd h=>by
   obtain⟨_,rfl⟩:=iM 0 nd h;exact⟨rfl,rfl⟩}
section
variable{T:List Nd}{p:Nat}{pd:Nd}
theorem IW(hp:T[p]? =some pd)(i:Nat):(added T p pd)[i]? =if i=p then some {pd with ch:=pd.ch++ [T.length],free:=pd.free+kK pd}else if i=T.length then some ⟨p,[],pd.free,pd.free+kK pd-1,pd.free⟩else T[i]? :=by
 have dD:p<T.length:=(lgeS hp).1;unfold added;rw [zM (by rw [kX hp,if_neg (by omega),if_pos rfl]) (by rw [kX hp,if_pos rfl]) (by omega),kX hp];split
 ·rfl
 ·split
  ·rfl
  ·rfl
theorem xZ(hp:T[p]? =some pd):nn (grown T p pd) (added T p pd):=by
 have dD:p<T.length:=(lgeS hp).1;exact xC _ (by rw [kX hp,if_neg (by omega),if_pos rfl]) (by rw [kX hp,if_pos rfl]) (by omega)
theorem Shape.TY(h:Shape T){i:Nat}{nd:Nd}(hi:T[i]? =some nd){c:Nat}(hc:c∈nd.ch):i<c/\c<T.length:=by
 rw [h.ch i nd hi]at hc;have:=ki h.par hc
 rwa [gg]at this
theorem yY.added(h:yY T)(hp:T[p]? =some pd)(vz:pd.free<pd.hi):yY (added T p pd):=by
 have dD:p<T.length:=(lgeS hp).1;have iM:=IW hp;have RT:=h.iv p pd hp;have i1:=RT.lo1;have i2:=RT.le;have i3:=RT.top;have lp:=h.loc p pd hp;have l1:=lp.Jg;have l2:=lp.Fe;have hh1:1<=kK pd:=by unfold kK;omega
 have hh2:pd.free+kK pd<=pd.hi:=by unfold kK;omega
 have hold:∀(c:Nat) cd,c<T.length->(Go.Proofs.YtfleamccglihoaaGreatDoor.Tr.added T p pd)[c]? =some cd->∃ed,T[c]? =some ed/\ed.lo=cd.lo/\ed.hi=cd.hi:=by
  intro c cd hc lI;rw [iM]at lI;by_cases e:c=p
  ·subst e
   rw [if_pos rfl]at lI;cases lI;exact⟨pd,hp,rfl,rfl⟩
  ·rw [if_neg e,if_neg (by omega)]at lI
   exact⟨cd,lI,rfl,rfl⟩
 have oY:∀cd,(Go.Proofs.YtfleamccglihoaaGreatDoor.Tr.added T p pd)[T.length]? =some cd->cd=⟨p,[],pd.free,pd.free+kK pd-1,pd.free⟩:=by
  intro cd lI;rw [iM,if_neg (by omega),if_pos rfl]at lI;exact(Option.some.inj lI).symm
 have aN:∀(i:Nat) nd,T[i]? =some nd->Loc (Go.Proofs.YtfleamccglihoaaGreatDoor.Tr.added T p pd) nd:=by
  intro i nd hi;have hl:=h.loc i nd hi;have hc:=λc hc=>(h.toShape.TY hi (c:=c) hc).2;exact {
   Jg:=hl.Jg
   Fe:=hl.Fe
   sub:=λc cd qo lI=>by
    obtain⟨ed,h1,h2,h3⟩:=hold c cd (hc c qo) lI;have:=hl.sub c ed qo h1;omega
   ord:=λc c' cd sr qo qw CQ lI sZ=>by
    obtain⟨ed,h1,h2,h3⟩:=hold c cd (hc c qo) lI;obtain⟨TW,vC,xA,Dz⟩:=hold c' sr (hc c' qw) sZ;have:=hl.ord c c' ed TW qo qw CQ h1 vC;omega}
 have hs:=(xZ hp).shape (h.toShape.grown hp);refine {toShape:=hs,iv:=?_,loc:=?_,root:=?_}
 ·intro i nd hi
  rw [iM]at hi;by_cases e:i=p
  ·rw [if_pos e]at hi
   cases hi;exact⟨i1,i2,i3⟩
  ·rw [if_neg e]at hi
   by_cases e2:i=T.length
   ·rw [if_pos e2]at hi
    cases hi;exact⟨by simp only;omega,by simp only;omega,by simp only;omega⟩
   ·rw [if_neg e2]at hi
    exact h.iv i nd hi
 ·intro i nd hi
  rw [iM]at hi;by_cases e:i=p
  ·rw [if_pos e]at hi
   cases hi;have kp:=aN p pd hp;have hc:=λc hc=>(h.toShape.TY hp (c:=c) hc).2;exact {
    Jg:=by simp only;omega
    Fe:=hh2
    sub:=λc cd qo lI=>by
     simp only at qo;rcases List.mem_append.1 qo with qo|qo
     ·have:=kp.sub c cd qo lI
      simp only;omega
     ·simp at qo
      subst qo;have:=oY cd lI;subst this;simp only;omega
    ord:=λc c' cd sr qo qw CQ lI sZ=>by
     simp only at qo qw;rcases List.mem_append.1 qo with qo|qo
     ·rcases List.mem_append.1 qw with qw|qw
      ·exact kp.ord c c' cd sr qo qw CQ lI sZ
      ·simp at qw
       subst qw;have:=oY sr sZ;subst this;exact(kp.sub c cd qo lI).2
     ·simp at qo
      rcases List.mem_append.1 qw with qw|qw
      ·have:=hc c' qw
       omega
      ·simp at qw
       omega}
  ·rw [if_neg e]at hi
   by_cases e2:i=T.length
   ·rw [if_pos e2]at hi
    cases hi;exact⟨by simp only;omega,by simp only;omega,λc cd hc=>by simp at hc,λc c' cd sr hc=>by simp at hc⟩
   ·rw [if_neg e2]at hi
    exact aN i nd hi
 ·intro nd hi
  obtain⟨ed,h1,h2,h3⟩:=hold 0 nd h.toShape.pos hi;have:=h.root ed h1;omega
theorem yY.LA(h:yY T)(hp:T[p]? =some pd){m i:Nat}{T':List Nd}{q:List Nat}(hu:lV (cK (grown T p pd)) p m)
 (hO:pG (cK (grown T p pd)) (grown T p pd) m T' q i) (hq:q.length<=i):yY T':=by
 have dD:p<T.length:=(lgeS hp).1;have iM:=kX hp;have hS:=h.toShape.grown hp;have hP:=hS.par;have hold:∀(c:Nat) cd,c<T.length->(grown T p pd)[c]? =some cd->∃ed,T[c]? =some ed/\ed.lo=cd.lo/\ed.hi=cd.hi:=by
  intro c cd hc lI;rw [iM]at lI;by_cases e:c=p
  ·subst e
   rw [if_pos rfl]at lI;cases lI;exact⟨pd,hp,rfl,rfl⟩
  ·rw [if_neg e,if_neg (by omega)]at lI
   exact⟨cd,lI,rfl,rfl⟩
 have UN:(cK (grown T p pd))[T.length]? =some (p:Int):=by
  rw [ow hp,List.getElem?_append_right (by rw [gg];exact Nat.le_refl _)];simp [gg]
 have iN:=pG.fin hS hO hq (λy nd hy hn=>by
  rw [iM]at hy;have e:y≠p:=λe=>hn (e▸hu);rw [if_neg e]at hy;have e2:y≠T.length:=λe=>hn (e▸ .step UN hu);rw [if_neg e2]at hy;refine⟨h.iv y nd hy,?_⟩;have hl:=h.loc y nd hy;have hc:=λc hc=>(h.toShape.TY hy (c:=c) hc).2;exact {
   Jg:=hl.Jg
   Fe:=hl.Fe
   sub:=λc cd qo lI=>by
    obtain⟨ed,h1,h2,h3⟩:=hold c cd (hc c qo) lI;have:=hl.sub c ed qo h1;omega
   ord:=λc c' cd sr qo qw CQ lI sZ=>by
    obtain⟨ed,h1,h2,h3⟩:=hold c cd (hc c qo) lI;obtain⟨TW,vC,xA,Dz⟩:=hold c' sr (hc c' qw) sZ;have:=hl.ord c c' ed TW qo qw CQ h1 vC;omega})
 refine {toGood:=iN,root:=λnd hi=>?_};obtain⟨gd,hgd,_⟩:=hO.pM.back hi;obtain⟨ed,h1,h2,h3⟩:=hold 0 gd h.toShape.pos hgd;have hr:=h.root ed h1;by_cases hm:0∈q
 ·have:=(hO.qG 0 hm).le hP
  have UQ:m=0:=by omega
  subst UQ;have:=hO.top gd nd hgd hi;omega
 ·rw [hO.rest 0 hm,hgd]at hi
  cases hi;omega
end
section
variable{w:World}{S:Nat->Prop}{g:Nat}{T:List Nd}{d:Int}{K:Value->World->Prop}
theorem JA(h:qK w S g T d)(hF:yY T){p:Nat}(hp:p<T.length)(hlen:T.length<=900000)(hd:0<=d/\d<=900000)
 (hK:∀w' S' T' d',qK w' S' g T' d'->yY T'->cK T'=cK T++ [(p:Int)]->d<=d'/\d'<=d+1->Kept S w w'->(∀k,S' k->S k\/w.heap.size<=k)->K (.tuple #[.int .i64 T.length,.int .i64 0]) w'):
 bJ prog iQ.id #[.pointer (some ⟨g,0,none⟩),.int .i64 p] w K:=by
 obtain⟨pd,AM⟩:=iC hp;have RT:=hF.iv p pd AM;have i1:=RT.lo1;have i2:=RT.le;have i3:=RT.top;have lp:=hF.loc p pd AM;have l1:=lp.Jg;have l2:=lp.Fe;have qx:pd.ch.length<=T.length:=by
  rw [hF.ch p pd AM];have:=Cs (cK T) p
  rwa [gg]at this
 refine wq h AM (by omega) (by omega) (by omega) l2 i3 (λvz w' S' h' k' f'=>?_) (λzJ w' S' h' k' f'=>?_)
 ·exact hK w' S' _ d h' (hF.added AM vz) (by rw [(xZ AM).cK,ow AM]) ⟨by omega,by omega⟩ k' f'
 ·have hS:=hF.toShape.grown AM
  have iM:=kX AM;have mu:=hS.par;refine Hi h' hS (by rw [zL];omega) (by rw [zL];omega) ⟨hd.1,by omega⟩ (λnd hi=>?_) (λy nd hy hu=>?_) (λw2 T2 m q i h2 hu hO hq k2=>⟨rfl,?_⟩)
  ·rw [iM]at hi
   by_cases e:0=p
   ·rw [if_pos e]at hi
    cases hi;exact hF.root pd (by rw [e];exact AM)
   ·rw [if_neg e,if_neg (by omega)]at hi
    exact hF.root nd hi
  ·have:=hu.le mu
   rw [iM]at hy;by_cases e:y=p
   ·rw [if_pos e]at hy
    cases hy;exact⟨i1,i2,i3⟩
   ·rw [if_neg e,if_neg (by omega)]at hy
    exact hF.iv y nd hy
  ·refine hK w2 S' T2 (d+1) h2 (hF.LA AM hu hO hq) (by rw [hO.pM.cK,ow AM]) ⟨by omega,by omega⟩ ?_ f'
   exact k'.trans k2 (λk hk hs=>by
    rcases f' k hs with h|h
    ·exact h
    ·omega)
end
def zs(l:List Int):List Value:=l.map λx=>.int .i64 x
section
variable{w w':World}{S S':Nat->Prop}{h:Nat}{P:List Int}{b c:Nat}{K:Value->World->Prop}
end
def kh(P:List Int)(n i:Nat):List Nat:=(List.range i).filter λj=>P[j]? ==some (n:Int)
section
variable{w w':World}{S S':Nat->Prop}{h:Nat}{P:List Int}{b c:Nat}{K:Value->World->Prop}
end
section
variable{w w':World}{S S':Nat->Prop}{g:Nat}{T:List Nd}{d:Int}{K:Value->World->Prop}
end
end Go.Proofs.YtfleamccglihoaaGreatDoor.Tr
