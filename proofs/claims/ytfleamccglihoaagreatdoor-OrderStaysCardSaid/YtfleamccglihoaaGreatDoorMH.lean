import Derived.Test.YtfleamccglihoaaGreatDoorMA
import Derived.Test.YtfleamccglihoaaGreatDoorMD
import Derived.Laws.OwnMore
import Derived.Test.YtfleamccglihoaaGreatDoorMG
import Derived.Laws.Bits64b
open Go.IntKind (i64 u64)
set_option linter.unusedVariables false
namespace Go.Proofs.YtfleamccglihoaaGreatDoor.Tr
open Go.Proofs.Tryz
open Go Go.bR Go.RowKit
structure Nd where
 parent:Int
 ch:List Nat
 lo:Int
 hi:Int
 free:Int
def js(nd:Nd)(v:Value):List Value:= [.int .i64 nd.parent,v,.int .u64 nd.lo,.int .u64 nd.hi,.int .u64 nd.free]
def oL(L:List (Nd×Value)):List Value:=L.flatMap fun p=>js p.1 p.2
def ints(l:List Nat):List Value:=l.map fun x:Nat=>.int .i64 (x:Int)
theorem tw(L:List (Nd×Value)):(oL L).length=L.length*5:=by
 induction L with
 |nil=>rfl
 |cons p L ih=>simp only [oL,List.flatMap_cons,List.length_append,List.length_cons]at*;rw [ih];simp [js];omega
theorem IY{L:List (Nd×Value)}{i:Nat}{p:Nd×Value}(h:L[i]? =some p){j:Nat}(hj:j<5):(oL L)[i*5+j]? =(js p.1 p.2)[j]? :=by
 induction L generalizing i with
 |nil=>simp at h
 |cons q L ih=>
  have hq:(js q.1 q.2).length=5:=rfl;cases i with
  |zero=>
   simp at h;subst h;simp only [oL,List.flatMap_cons];rw [Nat.zero_mul,Nat.zero_add,List.getElem?_append_left (by omega)]
  |succ i=>
   simp at h;have:=ih h;simp only [oL,List.flatMap_cons]at*;rw [List.getElem?_append_right (by omega),hq,<-this]
   congr 1
   omega
theorem AI{L:List (Nd×Value)}{i:Nat}{p p':Nd×Value}(h:L[i]? =some p){j:Nat}(hj:j<5){v:Value}(hp:js p'.1 p'.2=(js p.1 p.2).set j v):
 (oL L).set (i*5+j) v=oL (L.set i p'):=by
 induction L generalizing i with
 |nil=>simp at h
 |cons q L ih=>
  have hq:(js q.1 q.2).length=5:=rfl;cases i with
  |zero=>
   simp at h;subst h;simp only [oL,List.flatMap_cons,List.set_cons_zero];rw [Nat.zero_mul,Nat.zero_add,List.set_append_left _ _ (by omega),hp]
  |succ i=>
   simp at h;have:=ih h;simp only [oL,List.flatMap_cons,List.set_cons_succ]at*;rw [List.set_append_right _ _ (by omega),hq,<-this]
   congr 2
   omega
structure WY(w:World)(S:Nat->Prop)(p:Nd×Value)(A:Option Addr)(m:Nat):Prop where
 val:p.2=.slice A p.1.ch.length m
 row:Row w 0 jI 1 A p.1.ch.length m (ints p.1.ch)
 kz:∀k,a8 A=some k->S k
structure TV(w:World)(S:Nat->Prop)(g:Nat)(T:List Nd)(d:Int)(b c:Nat)(L:List (Nd×Value)):Prop where
 top:w.heap[g]? =some (.cells #[.slice (some ⟨b,0,none⟩) T.length c,.int .i64 d] tC (0,0))
 fst:L.map Prod.fst=T
 row:Row w 0 jk 5 (some ⟨b,0,none⟩) T.length c (oL L)
 qD:∀(i:Nat) (p:Nd×Value),L[i]? =some p->∃A m,WY w S p A m
 apart:∀(i j:Nat) (p q:Nd×Value),L[i]? =some p->L[j]? =some q->i≠j->∀k,Value.ownBlock p.2=some k->Value.ownBlock q.2≠some k
 gY:S g
 fY:S b
def oT(w:World)(S:Nat->Prop)(g:Nat)(T:List Nd)(d:Int):Prop:=∃b c L,TV w S g T d b c L
section
variable{w w':World}{S S':Nat->Prop}{g:Nat}{T:List Nd}{d:Int}{b c:Nat}{L:List (Nd×Value)}
theorem TV.at_(h:TV w S g T d b c L){i:Nat}{nd:Nd}(hi:T[i]? =some nd):∃v,L[i]? =some (nd,v):=by
 rw [<-h.fst,List.getElem?_map]at hi;cases hL:L[i]? with
 |none=>simp [hL]at hi
 |some p=>
  rw [hL]at hi;simp at hi;exact⟨p.2,by rw [<-hi]⟩
theorem TV.nodes(h:TV w S g T d b c L):w.cell? ⟨g,0,none⟩=some (.slice (some ⟨b,0,none⟩) T.length c):=by rw [aA h.top];rfl
theorem TV.I1(h:TV w S g T d b c L):w.cell? ⟨g,1,none⟩=some (.int .i64 d):=by rw [aA h.top];rfl
theorem TV.cell(h:TV w S g T d b c L){i:Nat}{p:Nd×Value}(hi:L[i]? =some p){j:Nat}{v:Value}(hj:j<5)(hv:(js p.1 p.2)[j]? =some v):w.cell? ⟨b,i*5+j,none⟩=some v:=
 Row.cell h.row (by rw [IY hi hj,hv])
theorem TV.gb(h:TV w S g T d b c L):g≠b:=by
 rintro rfl;obtain⟨_,cur,hc⟩:=Row.bE h.row (k:=g) rfl;rw [h.top]at hc;injection hc with hc;injection hc with _ ht;exact absurd ht (by decide)
theorem WY.ne{p:Nd×Value}{A:Option Addr}{m:Nat}(h:WY w S p A m){k:Nat}{cs:Array Value}{t:TypeId}(hk:w.heap[k]? =some (.cells cs t (0,0)))(ht:t≠jI):a8 A≠some k:=by
 intro e;obtain⟨_,cur,hc⟩:=Row.bE h.row e;rw [hk]at hc;injection hc with hc;injection hc with _ h2;exact ht h2
theorem TV.vN(h:TV w S g T d b c L):∃cur,w.heap[b]? =some (.cells cur jk (0,0)):=(Row.bE h.row rfl).2
theorem TV.aG{S0:Nat->Prop}(h:TV w S g T d b c L)(hk:Kept S0 w w')(hn:∀k,S k->¬S0 k):TV w' S g T d b c L:= {
 top:=hk.heap h.top (hn g h.gY)
 fst:=h.fst
 row:=Row.aG h.row hk (fun k e=>by cases e;exact hn b h.fY)
 qD:=fun i p hp=>let ⟨A,m,h1⟩:=h.qD i p hp;⟨A,m,h1.val,Row.aG h1.row hk (fun k e=>hn k (h1.kz k e)),h1.kz⟩
 apart:=h.apart
 gY:=h.gY
 fY:=h.fY}
theorem oT.aG{S0:Nat->Prop}(h:oT w S g T d)(hk:Kept S0 w w')(hn:∀k,S k->¬S0 k):oT w' S g T d:=
 let ⟨b,c,L,h⟩:=h;⟨b,c,L,h.aG hk hn⟩
theorem oT.same(h:oT w S g T d)(hk:Kept Nil w w'):oT w' S g T d:=h.aG hk fun _ _ h=>h
theorem TV.lt(h:TV w S g T d b c L):g<w.heap.size:=aT h.top
theorem TV.uw(h:TV w S g T d b c L){i:Nat}{nd nd':Nd}{v:Value}(hi:L[i]? =some (nd,v)){j:Nat}(hj:j<5){u:Value}
 (hc:js nd' v=(js nd v).set j u) (mW:nd'.ch=nd.ch):
 Wr w ⟨b,i*5+j,none⟩/\TV (w.setCell ⟨b,i*5+j,none⟩ u) S g (T.set i nd') d b c (L.set i (nd',v)):=by
 have dP:i<L.length:=(lgeS hi).1;have cJ:i*5+j<(oL L).length:=by rw [tw];omega
 refine⟨Row.wr h.row cJ,?_⟩;have fk:=Row.set h.row cJ u;rw [AI hi hj (p':=(nd',v)) hc]at fk;have hK:Kept (fun k=>k=b) w (w.setCell ⟨b,i*5+j,none⟩ u):=(Kept.refl (fun k=>k=b) w).setCell (p:=⟨b,i*5+j,none⟩) (fun _=>rfl) u;have gD:∀(k:Nat) (p:Nd×Value),(L.set i (nd',v))[k]? =some p->∃q,L[k]? =some q/\q.2=p.2/\q.1.ch=p.1.ch:=by
  intro k p hp;rw [List.getElem?_set]at hp;by_cases e:i=k
  ·subst e
   rw [if_pos rfl,if_pos dP]at hp;cases hp;exact⟨_,hi,rfl,mW.symm⟩
  ·rw [if_neg e]at hp
   exact⟨p,hp,rfl,rfl⟩
 exact {
  top:=by rw [List.length_set];exact hK.heap h.top h.gb
  fst:=by rw [List.map_set,h.fst]
  row:=by rw [List.length_set];exact fk
  qD:=fun k p hp=>by
   obtain⟨q,hq,h1,h2⟩:=gD k p hp;obtain⟨A,m,hk⟩:=h.qD k q hq;obtain⟨cur,hb⟩:=h.vN;refine⟨A,m,by rw [<-h1,<-h2];exact hk.val,?_,hk.kz⟩;rw [<-h2];exact Row.aG hk.row hK (fun k e e2=>hk.ne hb (by decide) (by rw [e,e2]))
  apart:=fun k l p q hp hq Bj=>by
   obtain⟨p',Cp,h1,_⟩:=gD k p hp;obtain⟨q',Ag,h2,_⟩:=gD l q hq;rw [<-h1,<-h2];exact h.apart k l p' q' Cp Ag Bj
  gY:=h.gY
  fY:=h.fY}
end
theorem oO(b x y:Nat):((⟨b,0,none⟩:Addr).add x).add y=⟨b,x+y,none⟩:=by rw [bg,bg,Nat.zero_add]
theorem mB(b x:Nat):(⟨b,0,none⟩:Addr).add x=⟨b,x,none⟩:=by rw [bg,Nat.zero_add]
section
variable{w:World}{S:Nat->Prop}{g:Nat}{T:List Nd}{d:Int}{b c:Nat}{L:List (Nd×Value)}
theorem TV.go(h:TV w S g T d b c L){k:Option Addr->Nat->Nat->Prop}(hk:k (some ⟨b,0,none⟩) T.length c):
 ∃A n m,w.cell? ((⟨g,0,none⟩:Addr).add 0)=some (.slice A n m)/\k A n m:=⟨_,_,_,by rw [mB];exact h.nodes,hk⟩
theorem TV.goD(h:TV w S g T d b c L){k:Int->Prop}(hk:k d):∃t,w.cell? ((⟨g,0,none⟩:Addr).add 1)=some (.int .i64 t)/\k t:=
 ⟨_,by rw [mB];exact h.I1,hk⟩
theorem TV.IU(h:TV w S g T d b c L){i:Nat}{nd:Nd}{v:Value}(hi:L[i]? =some (nd,v)){k:Int->Prop}(hk:k nd.parent):
 ∃t,w.cell? (((⟨b,0,none⟩:Addr).add (i*5)).add 0)=some (.int .i64 t)/\k t:=⟨_,by rw [oO];exact h.cell hi (by omega) rfl,hk⟩
theorem TV.Wv(h:TV w S g T d b c L){i:Nat}{nd:Nd}{v:Value}(hi:L[i]? =some (nd,v)){A:Option Addr}{m:Nat}(hv:v=.slice A nd.ch.length m){k:Option Addr->Nat->Nat->Prop}(hk:k A nd.ch.length m):
 ∃A n m,w.cell? (((⟨b,0,none⟩:Addr).add (i*5)).add 1)=some (.slice A n m)/\k A n m:=⟨_,_,_,by rw [oO];exact h.cell hi (by omega) (by rw [hv];rfl),hk⟩
theorem TV.vu(h:TV w S g T d b c L){i:Nat}{nd:Nd}{v:Value}(hi:L[i]? =some (nd,v)){k:Int->Prop}(hk:k nd.lo):
 ∃t,w.cell? (((⟨b,0,none⟩:Addr).add (i*5)).add 2)=some (.int .u64 t)/\k t:=⟨_,by rw [oO];exact h.cell hi (by omega) rfl,hk⟩
theorem TV.AD(h:TV w S g T d b c L){i:Nat}{nd:Nd}{v:Value}(hi:L[i]? =some (nd,v)){k:Int->Prop}(hk:k nd.hi):
 ∃t,w.cell? (((⟨b,0,none⟩:Addr).add (i*5)).add 3)=some (.int .u64 t)/\k t:=⟨_,by rw [oO];exact h.cell hi (by omega) rfl,hk⟩
theorem TV.yu(h:TV w S g T d b c L){i:Nat}{nd:Nd}{v:Value}(hi:L[i]? =some (nd,v)){k:Int->Prop}(hk:k nd.free):
 ∃t,w.cell? (((⟨b,0,none⟩:Addr).add (i*5)).add 4)=some (.int .u64 t)/\k t:=⟨_,by rw [oO];exact h.cell hi (by omega) rfl,hk⟩
theorem TV.kept{w':World}(h:TV w S g T d b c L)(hk:Kept Nil w w'):TV w' S g T d b c L:=h.aG hk fun _ _ h=>h
end
section
variable{w:World}{S:Nat->Prop}{g:Nat}{T:List Nd}{d:Int}{K:Value->World->Prop}
theorem xO(h:oT w S g T d)(n:Int)(hK:K (.bool (decide (0<=n/\n<T.length))) w):
 bk prog iB.id #[.pointer (some ⟨g,0,none⟩),.int .i64 n] w K:=by
 obtain⟨b,c,L,h⟩:=h;refine iB.of (Split.yes rfl (Split.dec (fun h0=>h.go ?_) (fun h0=>?_)))
 ·rwa [show decide (0<=n/\n<(T.length:Int))=decide (n<(T.length:Int))from by simp [show(0:Int)<=n from h0]]at hK
 ·rwa [decide_eq_false (fun e:0<=n/\n<(T.length:Int)=>h0 e.1)]at hK
theorem GQ(h:oT w S g T d)(hT:0<T.length)(n:Int)(hK:K (.int .i64 (if 0<=n/\n<T.length then 0 else 6)) w):
 bk prog gk.id #[.pointer (some ⟨g,0,none⟩),.int .i64 n] w K:=by
 have h0:=h;obtain⟨b,c,L,h⟩:=h;refine gk.of (Split.no rfl (h.go (Split.no (beq_eq_false_iff_ne.2 (by omega)) (xO h0 n ⟨_,rfl,?_⟩))));by_cases hn:0<=n/\n<(T.length:Int)
 ·rw [if_pos hn]at hK
  exact Split.no (by simp [hn]) hK
 ·rw [if_neg hn]at hK
  exact Split.yes (by simp only [decide_eq_false hn];rfl) hK
theorem sU(h:oT w S g T d){n:Nat}(hn:n<T.length)(hK:K (.int .i64 0) w):
 bk prog gk.id #[.pointer (some ⟨g,0,none⟩),.int .i64 n] w K:=GQ h (by omega) n (by rw [if_pos ⟨by omega,by omega⟩];exact hK)
theorem Ev(h:oT w S g T d){n:Nat}{nd:Nd}(hn:T[n]? =some nd)(hK:∀w',Kept Nil w w'->K (.int .u64 (u64.wrap (nd.hi-nd.free))) w'):
 bk prog fJ.id #[.pointer (some ⟨g,0,none⟩),.int .i64 n] w K:=by
 obtain⟨b,c,L,h⟩:=h;have cJ:n<T.length:=(lgeS hn).1;obtain⟨v,hv⟩:=h.at_ hn;refine fJ.of ?_;unfold fJ.W;intro w1;have k1:Kept Nil w w1:=(Kept.refl Nil w).drew;have h1:=h.kept k1;have hb:0<=(n:Int)/\(n:Int)<(T.length:Int):=⟨by omega,by omega⟩;exact h1.go ⟨hb,h1.AD hv (h1.go ⟨hb,h1.yu hv (hK w1 k1)⟩)⟩
theorem y9(h:oT w S g T d){n:Nat}{nd:Nd}(hn:T[n]? =some nd)(h0:0<n)(hK:K (.tuple #[.int .i64 nd.parent,.int .i64 0]) w):
 bk prog fD.id #[.pointer (some ⟨g,0,none⟩),.int .i64 n] w K:=by
 have cJ:n<T.length:=(lgeS hn).1;refine fD.of (sU h cJ ⟨_,rfl,Split.yes rfl (Split.no (beq_eq_false_iff_ne.2 (by omega)) (Split.no rfl ?_))⟩);obtain⟨b,c,L,h⟩:=h;obtain⟨v,hv⟩:=h.at_ hn;exact h.go ⟨⟨by omega,by omega⟩,h.IU hv hK⟩
theorem L6:yU prog jl jI 1 8:=⟨by kernel_rfl,by kernel_rfl⟩
theorem xR:yU prog im jk 5 56:=⟨by kernel_rfl,by kernel_rfl⟩
end
theorem fH{x:Int}(h0:0<=x)(h1:x<18446744073709551616):u64.wrap x=x:=by
 simp only [IntKind.wrap,IntKind.bits,IntKind.signed];simp;omega
theorem gN{x:Int}(h0: -9223372036854775808<=x)(h1:x<9223372036854775808):i64.wrap x=x:=by
 simp only [IntKind.wrap,IntKind.bits,IntKind.signed];simp;omega
def vt(T:List Nd)(n p:Nat)(nd pd:Nd)(many:Int):List Nd:=
 (T.set n {nd with lo:=pd.free,hi:=pd.free+many-1,free:=pd.free}).set p {pd with free:=pd.free+many}
section
variable{w:World}{S:Nat->Prop}{g:Nat}{T:List Nd}{d:Int}{K:Value->World->Prop}
theorem iJ{α:Type}{L:List α}{i:Nat}{x y:α}(h:L[i]? =some x):(L.set i y)[i]? =some y:=by
 rw [List.getElem?_set_self (lgeS h).1]
theorem oo{α:Type}{L:List α}{i j:Nat}{x y:α}(h:L[j]? =some x)(e9:i≠j):(L.set i y)[j]? =some x:=by
 rw [List.getElem?_set_ne e9];exact h
theorem uk{b c:Nat}{L:List (Nd×Value)}(h:TV w S g T d b c L){n p:Nat}{nd pd:Nd}{many:Int}(hn:T[n]? =some nd)(hp:T[p]? =some pd)(Rt:nd.parent=p)(e9:n≠p)
 (hf:0<=pd.free) (hm:1<=many) (hfm:pd.free+many<18446744073709551616)
 (hK:∀w' L',TV w' S g (vt T n p nd pd many) d b c L'->Kept (fun k=>k=b) w w'->K (.tuple #[]) w'):
 bk prog fK.id #[.pointer (some ⟨g,0,none⟩),.int .i64 n,.int .u64 many] w K:=by
 have yQ:n<T.length:=(lgeS hn).1;have qG:p<T.length:=(lgeS hp).1;obtain⟨v,hv⟩:=h.at_ hn;obtain⟨u,hu⟩:=h.at_ hp;have XS:0<=(n:Int)/\(n:Int)<(T.length:Int):=⟨by omega,by omega⟩;have M8:0<=nd.parent/\nd.parent<(T.length:Int):=by rw [Rt];exact⟨by omega,by omega⟩
 refine fK.of (h.go ⟨XS,Is.mk rfl ?_⟩);intro w7;have k7:Kept (fun k=>k=b) w w7:=(Kept.refl _ w).drew;have h7:TV w7 S g T d b c L:=h.kept (Kept.refl Nil w).drew;refine h7.go (h7.IU hv ⟨M8,Is.mk rfl ?_⟩);rw [Rt];refine h7.yu hu ?_;obtain⟨Yy,D6⟩:=h7.uw hv (j:=2) (by omega) (u:=.int .u64 pd.free) (nd':= {nd with lo:=pd.free}) rfl rfl;have kS:∀ {w w':World},Kept (fun k=>k=b) w w'->∀(j:Nat) (u:Value),Kept (fun k=>k=b) w (w'.setCell ⟨b,j,none⟩ u):=fun k j u=>k.setCell (fun _=>rfl) u;have v1:(L.set n ({nd with lo:=pd.free},v))[n]? =some ({nd with lo:=pd.free},v):=iJ hv;refine⟨by rw [oO];exact Yy,?_⟩;intro lV;have e13:lV=w7.setCell ⟨b,n*5+2,none⟩ (.int .u64 pd.free):=by simp only [lV,oO,Int.toNat_natCast]
 have rI:Kept (fun k=>k=b) w lV:=by rw [e13];exact kS k7 _ _
 rw [<-e13]at D6;clear_value lV;refine D6.vu v1 ?_;obtain⟨wr2,IS⟩:=D6.uw v1 (j:=3) (by omega) (u:=.int .u64 (u64.wrap (u64.wrap (pd.free+many)-1))) (nd':= {nd with lo:=pd.free,hi:=pd.free+many-1}) (by rw [fH (x:=pd.free+many) (by omega) (by omega),fH (by omega) (by omega)];rfl) rfl;refine⟨by rw [oO];exact wr2,?_⟩;intro nn;have e15:nn=lV.setCell ⟨b,n*5+3,none⟩ (.int .u64 (u64.wrap (u64.wrap (pd.free+many)-1))):=by simp only [nn,oO,Int.toNat_natCast]
 have tj:Kept (fun k=>k=b) w nn:=by rw [e15];exact kS rI _ _
 rw [<-e15]at IS;clear_value nn;rw [List.set_set,List.set_set]at IS;have v2:(L.set n ({nd with lo:=pd.free,hi:=pd.free+many-1},v))[n]? =some ({nd with lo:=pd.free,hi:=pd.free+many-1},v):=iJ hv;refine IS.vu v2 ?_;obtain⟨Yx,X4⟩:=IS.uw v2 (j:=4) (by omega) (u:=.int .u64 pd.free) (nd':= {nd with lo:=pd.free,hi:=pd.free+many-1,free:=pd.free}) rfl rfl;refine⟨by rw [oO];exact Yx,?_⟩;intro wK;have e17:wK=nn.setCell ⟨b,n*5+4,none⟩ (.int .u64 pd.free):=by simp only [wK,oO,Int.toNat_natCast]
 have HI:Kept (fun k=>k=b) w wK:=by rw [e17];exact kS tj _ _
 rw [<-e17]at X4;clear_value wK;rw [List.set_set,List.set_set]at X4;have u3:(L.set n ({nd with lo:=pd.free,hi:=pd.free+many-1,free:=pd.free},v))[p]? =some (pd,u):=oo hu e9;refine X4.yu u3 ?_;obtain⟨wr4,h19⟩:=X4.uw u3 (j:=4) (by omega) (u:=.int .u64 (u64.wrap (pd.free+many))) (nd':= {pd with free:=pd.free+many}) (by rw [fH (by omega) (by omega)];rfl) rfl;refine⟨by rw [oO];exact wr4,?_⟩;intro oR;have e19:oR=wK.setCell ⟨b,p*5+4,none⟩ (.int .u64 (u64.wrap (pd.free+many))):=by simp only [oR,oO,Int.toNat_natCast]
 exact hK oR _ (by rw [e19];exact h19) (by rw [e19];exact kS HI _ _)
theorem Ew(h:oT w S g T d){n p:Nat}{nd pd:Nd}{many:Int}(hn:T[n]? =some nd)(hp:T[p]? =some pd)(Rt:nd.parent=p)(e9:n≠p)
 (hf:0<=pd.free) (hm:1<=many) (hfm:pd.free+many<18446744073709551616)
 (hK:∀w',oT w' S g (vt T n p nd pd many) d->Kept S w w'->K (.tuple #[]) w'):
 bk prog fK.id #[.pointer (some ⟨g,0,none⟩),.int .i64 n,.int .u64 many] w K:=by
 obtain⟨b,c,L,h⟩:=h;exact uk h hn hp Rt e9 hf hm hfm fun w' L' h' k'=>hK w' ⟨b,c,L',h'⟩ (k'.mono fun k _ e=>by rw [e];exact h.fY)
end
section
variable{w:World}{S:Nat->Prop}{g:Nat}{T:List Nd}{d:Int}{b c:Nat}{L:List (Nd×Value)}
theorem AJ(L M:List (Nd×Value)):oL (L++M)=oL L++oL M:=by simp [oL]
theorem TV.IT(h:TV w S g T d b c L)(lO:T.length<=1000000)(p:Int){w10:World}
 (e10:w10=w.alloc (.cells #[.int .i64 p,.slice none 0 0,.int .u64 0,.int .u64 0,.int .u64 0] jk)):
 ∃A c' lR,(Builtin.append_ #[im,im] im #[.slice (some ⟨b,0,none⟩) T.length c,.slice (some ⟨w.heap.size,0,none⟩) 1 1]).run prog w10=.ok (.slice A (T.length+1) c') lR/\
  Wr lR ⟨g,0,none⟩/\∃b' S' L',TV (lR.setCell ⟨g,0,none⟩ (.slice A (T.length+1) c')) S' g (T++ [⟨p,[],0,0,0⟩]) d b' c' L'/\(∀(i:Nat) q,L[i]? =some q->L'[i]? =some q)/\
   Kept S w (lR.setCell ⟨g,0,none⟩ (.slice A (T.length+1) c'))/\(∀k,S k->S' k)/\(∀k,S' k->S k\/w.heap.size<=k):=by
 subst e10;generalize Pd:w.alloc (.cells #[.int .i64 p,.slice none 0 0,.int .u64 0,.int .u64 0,.int .u64 0] jk)=w10;have mU:w10.heap[w.heap.size]? =some (.cells #[.int .i64 p,.slice none 0 0,.int .u64 0,.int .u64 0,.int .u64 0] jk (0,0)):=by rw [<-Pd];exact aI w _
 have mG:Kept Nil w w10:=by rw [<-Pd];exact(Kept.refl Nil w).alloc _
 have KX:w10.heap.size=w.heap.size+1:=by rw [<-Pd];simp
 have vS:=h.kept mG;obtain⟨A,c',lR,hr,fk,hg,Cx⟩:=fE (P:=prog) (t:=im) (ty:=im) xR vS.row (a:=⟨w.heap.size,0,none⟩) (m:=1) (cx:=1)
  (news:=js ⟨p,[],0,0,0⟩ (.slice none 0 0)) rfl (fun j u hj=>by rw [mB,aA mU];simpa [js]using hj) (by intro u hu;simp [js]at hu;rcases hu with rfl|rfl|rfl|rfl|rfl<;>rfl)
  (by omega) (by unfold maxLen;omega) (Nat.zero_le _)
 obtain⟨b',rfl⟩:=Row.some fk (by omega);have kb:Kept (fun k=>k=b) w10 lR:=(Kept.refl _ w10).grown hg (fun k hk _=>by cases hk;rfl);have jc:lR.heap[g]? =some (.cells #[.slice (some ⟨b,0,none⟩) T.length c,.int .i64 d] tC (0,0)):=kb.heap vS.top h.gb;refine⟨_,c',lR,hr,dO jc (show 0<2 by omega),?_⟩;generalize TC:lR.setCell ⟨g,0,none⟩ (.slice (some ⟨b',0,none⟩) (T.length+1) c')=wf;have kg:Kept (fun k=>k=g) lR wf:=by rw [<-TC];exact(Kept.refl (fun k=>k=g) lR).setCell (p:=⟨g,0,none⟩) (fun _=>rfl) _
 have wq:b'=b\/w10.heap.size<=b':=by
  rcases Cx b' rfl with h|h
  ·left;cases h;rfl
  ·exact .inr h
 have ab6:b'≠g:=by
  rintro rfl;obtain⟨_,cur,hc⟩:=Row.bE fk (k:=b') rfl;rw [jc]at hc;injection hc with hc;injection hc with _ ht;exact absurd ht (by decide)
 have FF:∀(i:Nat) (q:Nd×Value),L[i]? =some q->∃A m,WY wf S q A m:=by
  intro i q hq;obtain⟨A,m,hk⟩:=vS.qD i q hq;obtain⟨cur,RB⟩:=vS.vN;have r1:=Row.aG hk.row kb (fun k e e2=>hk.ne RB (by decide) (by rw [e,e2]));have r2:=Row.aG r1 kg (fun k e e2=>hk.ne vS.top (by decide) (by rw [e,e2]));exact⟨A,m,hk.val,r2,hk.kz⟩
 refine⟨b',fun k=>S k\/k=b',L++ [(⟨p,[],0,0,0⟩,.slice none 0 0)],?_,fun i q hq=>?_,?_,fun k hk=>.inl hk,?_⟩
 ·exact {
   top:=by
    have:=dc jc 0 (.slice (some ⟨b',0,none⟩) (T.length+1) c');rw [TC]at this;simpa using this
   fst:=by simp [h.fst]
   row:=by
    rw [AJ,List.length_append];have:=Row.aG fk kg (fun k e e2=>ab6 (by cases e;exact e2));simpa [oL]using this
   qD:=fun i q hq=>by
    rw [List.getElem?_append]at hq;split at hq
    ·obtain⟨A,m,hk⟩:=FF i q hq
     exact⟨A,m,hk.val,hk.row,fun k e=>.inl (hk.kz k e)⟩
    ·rename_i cJ
     have:i-L.length=0:=by
      rcases Nat.eq_zero_or_pos (i-L.length)with h|h
      ·exact h
      ·rw [List.getElem?_eq_none (by simp;omega)]at hq;cases hq
     rw [this]at hq;simp at hq;subst hq;exact⟨none,0,rfl,Row.nil _ _ _ _,fun k e=>by cases e⟩
   apart:=fun i j q q' hq Ag pX k hk oD=>by
    rw [List.getElem?_append]at hq Ag;have last:∀(x:Nat) (r:Nd×Value),[((⟨p,[],0,0,0⟩:Nd),Value.slice none 0 0)][x]? =some r->r.2=.slice none 0 0:=by
     intro x r hr;cases x with
     |zero=>simp at hr;subst hr;rfl
     |succ x=>simp at hr
    split at hq<;>split at Ag
    ·exact h.apart i j q q' hq Ag pX k hk oD
    ·rw [last _ _ Ag]at oD;cases oD
    ·rw [last _ _ hq]at hk;cases hk
    ·rw [last _ _ Ag]at oD;cases oD
   gY:=.inl h.gY
   fY:=.inr rfl}
 ·rw [List.getElem?_append_left (lgeS hq).1];exact hq
 ·have vf:Kept S w lR:=(mG.mono (S':=S) (fun _ _ h=>h.elim)).trans kb (fun k _ e=>by rw [e];exact h.fY)
  exact vf.trans kg (fun k _ e=>by rw [e];exact h.gY)
 ·rintro k (hk|rfl)
  ·exact .inl hk
  ·rcases wq with rfl|wq
   ·exact .inl h.fY
   ·right;omega
theorem TV.LB(h:TV w S g T d b c L){p:Nat}{nd:Nd}{v:Value}(hp:L[p]? =some (nd,v)){A:Option Addr}{m:Nat}(hk:WY w S (nd,v) A m)(lO:nd.ch.length<=1000000)(n:Nat){w22:World}
 (e22:w22=w.alloc (.cells #[.int .i64 n] jI)):
 ∃A' c' lQ,(Builtin.append_ #[jl,jl] jl #[.slice A nd.ch.length m,.slice (some ⟨w.heap.size,0,none⟩) 1 1]).run prog w22=.ok (.slice A' (nd.ch.length+1) c') lQ/\
  lQ.cell? ⟨g,0,none⟩=some (.slice (some ⟨b,0,none⟩) T.length c)/\Wr lQ ⟨b,p*5+1,none⟩/\
  ∃S' L',TV (lQ.setCell ⟨b,p*5+1,none⟩ (.slice A' (nd.ch.length+1) c')) S' g (T.set p {nd with ch:=nd.ch++ [n]}) d b c L'/\
   Kept S w (lQ.setCell ⟨b,p*5+1,none⟩ (.slice A' (nd.ch.length+1) c'))/\(∀k,S k->S' k)/\(∀k,S' k->S k\/w.heap.size<=k):=by
 subst e22;generalize Pc:w.alloc (.cells #[.int .i64 n] jI)=w22;have mU:w22.heap[w.heap.size]? =some (.cells #[.int .i64 n] jI (0,0)):=by rw [<-Pc];exact aI w _
 have Tl:Kept Nil w w22:=by rw [<-Pc];exact(Kept.refl Nil w).alloc _
 have Pk:w22.heap.size=w.heap.size+1:=by rw [<-Pc];simp
 have yR:=h.kept Tl;have Pq:=Row.aG hk.row Tl (fun _ _ h=>h);have qG:p<L.length:=(lgeS hp).1;obtain⟨A',c',lQ,hr,fk,hg,Cx⟩:=fE (P:=prog) (t:=jl) (ty:=jl) L6 Pq (a:=⟨w.heap.size,0,none⟩) (m:=1) (cx:=1)
  (news:=ints [n]) rfl (fun j u hj=>by rw [mB,aA mU];simpa [ints]using hj) (by intro u hu;simp [ints]at hu;subst hu;rfl)
  (by simp only;omega) (by unfold maxLen;simp only;omega) (Nat.zero_le _)
 obtain⟨cur,RB⟩:=yR.vN;obtain⟨akr,hb0⟩:=h.vN;have MY:a8 A≠some b:=hk.ne hb0 (by decide);have hkg:a8 A≠some g:=hk.ne h.top (by decide);have kA:Kept (fun k=>a8 A=some k) w22 lQ:=(Kept.refl _ w22).grown hg (fun k hk _=>hk);have IQ:Row lQ 0 jk 5 (some ⟨b,0,none⟩) T.length c (oL L):=Row.aG yR.row kA (fun k e e2=>MY (by rw [e2,<-e];rfl));have IP:=kA.heap yR.top (fun e=>hkg e);have cJ:p*5+1<(oL L).length:=by rw [tw];omega
 refine⟨A',c',lQ,hr,by rw [aA IP];rfl,Row.wr IQ cJ,?_⟩;generalize TC:lQ.setCell ⟨b,p*5+1,none⟩ (.slice A' (nd.ch.length+1) c')=wf;have kB:Kept (fun k=>k=b) lQ wf:=by rw [<-TC];exact(Kept.refl (fun k=>k=b) lQ).setCell (p:=⟨b,p*5+1,none⟩) (fun _=>rfl) _
 have acG:a8 A'≠some b:=by
  intro e;obtain⟨_,WG,hc⟩:=Row.bE fk e;have:=kA.heap RB MY;rw [this]at hc;injection hc with hc;injection hc with _ ht;exact absurd ht (by decide)
 have vj:∀(A:Option Addr) n m,Value.ownBlock (.slice A n m)=a8 A:=by intro A n m;cases A<;>rfl
 have gD:∀(i:Nat) (q:Nd×Value),(L.set p ({nd with ch:=nd.ch++ [n]},.slice A' (nd.ch.length+1) c'))[i]? =some q->(i=p/\q=({nd with ch:=nd.ch++ [n]},.slice A' (nd.ch.length+1) c'))\/(i≠p/\L[i]? =some q):=by
  intro i q hq;by_cases e:p=i
  ·subst e
   rw [List.getElem?_set_self qG]at hq;cases hq;exact .inl ⟨rfl,rfl⟩
  ·rw [List.getElem?_set_ne e]at hq
   exact .inr ⟨fun h=>e h.symm,hq⟩
 have MS:∀k,a8 A'=some k->∀(i:Nat) (q:Nd×Value),i≠p->L[i]? =some q->Value.ownBlock q.2≠some k:=by
  intro k oD i q hi hq hqk;rcases Cx k oD with e|e
  ·exact h.apart p i _ _ hp hq (fun e=>hi e.symm) k (by rw [hk.val,vj];exact e) hqk
  ·obtain⟨A2,m2,mJ⟩:=h.qD i q hq
   rw [mJ.val,vj]at hqk;obtain⟨_,akq,JH⟩:=Row.bE mJ.row hqk;have:=aT JH;omega
 refine⟨fun k=>S k\/a8 A'=some k,L.set p ({nd with ch:=nd.ch++ [n]},.slice A' (nd.ch.length+1) c'),?_,?_,fun k hk=>.inl hk,?_⟩
 ·exact {
   top:=by rw [List.length_set];exact kB.heap IP h.gb
   fst:=by rw [List.map_set,h.fst]
   row:=by
    rw [List.length_set];have:=Row.set IQ cJ (.slice A' (nd.ch.length+1) c');rw [TC,AI hp (j:=1) (by omega) (p':=({nd with ch:=nd.ch++ [n]},.slice A' (nd.ch.length+1) c')) rfl]at this;exact this
   qD:=fun i q hq=>by
    rcases gD i q hq with⟨rfl,rfl⟩|⟨hi,hq⟩
    ·refine⟨A',c',by simp,?_,fun k e=>.inr e⟩
     have:=Row.aG fk kB (fun k e e2=>acG (by rw [e,e2]));simpa [ints]using this
    ·obtain⟨A2,m2,mJ⟩:=yR.qD i q hq
     have r1:=Row.aG mJ.row kA (fun k e e2=>h.apart p i _ _ hp hq (fun e=>hi e.symm) k (by rw [hk.val,vj];exact e2) (by rw [mJ.val,vj];exact e));have r2:=Row.aG r1 kB (fun k e e2=>mJ.ne RB (by decide) (by rw [e,e2]));exact⟨A2,m2,mJ.val,r2,fun k e=>.inl (mJ.kz k e)⟩
   apart:=fun i j q q' hq Ag pX k JF mJ=>by
    rcases gD i q hq with⟨e1,e2⟩|⟨hi,MO⟩<;>rcases gD j q' Ag with⟨e3,e4⟩|⟨hj,Rr⟩
    ·exact pX (e1.trans e3.symm)
    ·rw [e2,vj]at JF;exact MS k JF j q' hj Rr mJ
    ·rw [e4,vj]at mJ;exact MS k mJ i q hi MO JF
    ·exact h.apart i j q q' MO Rr pX k JF mJ
   gY:=.inl h.gY
   fY:=.inl h.fY}
 ·have qp:Kept S w lQ:=(Tl.mono (S':=S) (fun _ _ h=>h.elim)).trans kA (fun k _ e=>hk.kz k e)
  exact qp.trans kB (fun k _ e=>by rw [e];exact h.fY)
 ·rintro k (oD|oD)
  ·exact .inl oD
  ·rcases Cx k oD with e|e
   ·exact .inl (hk.kz k e)
   ·right;omega
end
def grown(T:List Nd)(p:Nat)(pd:Nd):List Nd:=(T++ [(⟨p,[],0,0,0⟩:Nd)]).set p {pd with ch:=pd.ch++ [T.length]}
def jf(pd:Nd):Int:=(pd.hi-pd.free+1)/2
def added(T:List Nd)(p:Nat)(pd:Nd):List Nd:=vt (grown T p pd) T.length p ⟨p,[],0,0,0⟩ {pd with ch:=pd.ch++ [T.length]} (jf pd)
section
variable{w:World}{S:Nat->Prop}{g:Nat}{T:List Nd}{d:Int}{K:Value->World->Prop}
theorem um(h:oT w S g T d){p:Nat}{pd:Nd}(hp:T[p]? =some pd)(lO:T.length<=1000000)(mW:pd.ch.length<=1000000)
 (hf:0<=pd.free) (hfh:pd.free<=pd.hi) (hh:pd.hi<=4611686018427387904)
 (hK1:pd.free<pd.hi->∀w' S',oT w' S' g (added T p pd) d->Kept S w w'->(∀k,S' k->S k\/w.heap.size<=k)->K (.tuple #[.int .i64 T.length,.int .i64 0]) w')
 (hK2:pd.free=pd.hi->∀w' S',oT w' S' g (grown T p pd) d->Kept S w w'->(∀k,S' k->S k\/w.heap.size<=k)->
   bk prog ax.id #[.pointer (some ⟨g,0,none⟩),.int .i64 p] w' fun v iR=>v=.tuple #[]/\K (.tuple #[.int .i64 T.length,.int .i64 0]) iR):
 bk prog gm.id #[.pointer (some ⟨g,0,none⟩),.int .i64 p] w K:=by
 have cJ:p<T.length:=(lgeS hp).1;refine gm.of (sU h cJ ⟨_,rfl,Split.no rfl ?_⟩);obtain⟨b,c,L,h⟩:=h;obtain⟨v,hv⟩:=h.at_ hp;refine h.go (h.go ⟨rfl,?_⟩);intro w10;obtain⟨A1,c1,lR,mE,Yy,b1,S1,L1,h14,hL1,Gp,hS1,Wf⟩:=h.IT lO (p:Int) (w10:=w10) rfl;refine⟨A1,_,c1,lR,mE,by rw [mB];exact Yy,?_⟩;intro iu;have e14:iu=lR.setCell ⟨g,0,none⟩ (.slice A1 (T.length+1) c1):=by simp only [iu,mB]
 rw [<-e14]at h14 Gp;clear_value iu;intro nn;have tj:Kept Nil iu nn:=(Kept.refl Nil iu).drew;have IS:=h14.kept tj;have JA:=hL1 _ _ hv;have hlen:(T++ [(⟨p,[],0,0,0⟩:Nd)]).length=T.length+1:=by simp
 have Nc:0<=(p:Int)/\(p:Int)<((T++ [(⟨p,[],0,0,0⟩:Nd)]).length:Int):=by rw [hlen];exact⟨by omega,by omega⟩
 obtain⟨A2,m2,hk⟩:=IS.qD _ _ JA;refine IS.go (IS.go ⟨Nc,IS.Wv JA hk.val ?_⟩);intro w22;have Tl:Kept Nil nn w22:=(Kept.refl Nil nn).alloc _;have yR:=IS.kept Tl;obtain⟨A3,c3,lQ,wi,Uw,Yx,S3,L3,X3,zY,hS3,acj⟩:=IS.LB JA hk mW T.length (w22:=w22) rfl;have Ak:=yR.cell JA (j:=1) (by omega) (v:=v) rfl;have hvv:v=.slice A2 pd.ch.length m2:=hk.val;rw [hvv]at Ak;refine⟨by rw [oO];exact Ak,by rw [mB];exact yR.nodes,by rw [mB];exact yR.nodes,A3,_,c3,lQ,wi,by rw [mB];exact Uw,Nc,by rw [oO];exact Yx,?_⟩;intro oQ;have e26:oQ=lQ.setCell ⟨b1,p*5+1,none⟩ (.slice A3 (pd.ch.length+1) c3):=by simp only [oQ,oO,Int.toNat_natCast]
 rw [<-e26]at X3 zY;clear_value oQ;have KV:(T++ [(⟨p,[],0,0,0⟩:Nd)]).set p {pd with ch:=pd.ch++ [T.length]}=grown T p pd:=rfl;rw [KV]at X3;have hgp:(grown T p pd)[p]? =some {pd with ch:=pd.ch++ [T.length]}:=by
  unfold grown;rw [List.getElem?_set_self (by simp;omega)]
 have hgn:(grown T p pd)[T.length]? =some ⟨p,[],0,0,0⟩:=by
  unfold grown;rw [List.getElem?_set_ne (by omega)];simp
 have kw:Kept S w oQ:=(Gp.tt (tj.mono (S':=S) (fun _ _ h=>h.elim))).trans zY (fun k hk h=>by
  rcases Wf k h with h|h
  ·exact h
  ·omega)
 have Qy:∀k,S3 k->S k\/w.heap.size<=k:=fun k h=>by
  rcases acj k h with h|h
  ·exact Wf k h
  ·right
   have:=Gp.size;have:=tj.size;omega
 refine Ev ⟨_,_,_,X3⟩ hgp fun Gm HE=>⟨_,rfl,?_⟩;have h28:=X3.kept HE;have SL:Kept S w Gm:=kw.trans HE (fun _ _ h=>h.elim);simp only [];rw [fH (x:=pd.hi-pd.free) (by omega) (by omega)];refine Split.dec (fun jt=>⟨by decide,?_⟩) (fun jt=>?_)
 ·have DX:u64.wrap ((u64.wrap (pd.hi-pd.free+1)).tdiv 2)=jf pd:=by
   rw [fH (x:=pd.hi-pd.free+1) (by omega) (by omega),Int.tdiv_eq_ediv_of_nonneg (by omega),fH (by omega) (by omega)];rfl
  rw [DX];refine Ew ⟨_,_,_,h28⟩ hgn hgp rfl (by omega) hf (by unfold jf;omega) (by unfold jf;simp only;omega) fun GI h31 Mq=>⟨rfl,?_⟩;refine hK1 (by omega) GI S3 h31 (SL.trans Mq fun k hk h=>?_) Qy;rcases Qy k h with h|h
  ·exact h
  ·omega
 ·exact hK2 (by omega) Gm S3 ⟨_,_,_,h28⟩ SL Qy
end
section
variable{w:World}{S:Nat->Prop}{g:Nat}{T:List Nd}{d:Int}{K:Value->World->Prop}
def qk:List Nd:= [⟨-1,[],1,4611686018427387904,1⟩]
theorem eT(hK:∀w' g,oT w' (fun k=>w.heap.size<=k) g qk 0->Kept Nil w w'->K (.pointer (some ⟨g,0,none⟩)) w'):bk prog eT.id #[] w K:=by
 refine eT.of ⟨rfl,?_⟩;intro w1 w2;have k1:Kept Nil w w1:=(Kept.refl Nil w).alloc _;have k2:Kept Nil w w2:=k1.alloc _;refine hK w2 w1.heap.size ⟨w.heap.size,1,[(⟨-1,[],1,4611686018427387904,1⟩,.slice none 0 0)],?_⟩ k2;exact {
  top:=aI w1 _
  fst:=rfl
  row:=Row.made (n:=1) (cur:= #[.int .i64 (-1),.slice none 0 0,.int .u64 1,.int .u64 4611686018427387904,.int .u64 1]) (iQ (aI w _) _) (Nat.zero_le _) rfl (by decide)
  qD:=fun i p hp=>by
   cases i with
   |zero=>simp at hp;subst hp;exact⟨none,0,rfl,Row.nil _ _ _ _,fun k e=>by cases e⟩
   |succ i=>simp at hp
  apart:=fun i j p q hp hq pX=>by
   cases i<;>cases j<;>simp at hp hq
   exact absurd rfl pX
  gY:=k1.size
  fY:=Nat.le_refl _}
theorem Bx(h:oT w S g T d){a b:Nat}{ad bd:Nd}(ha:T[a]? =some ad)(hb:T[b]? =some bd)(hK:∀w',Kept Nil w w'->K (.bool (decide (bd.lo<=ad.lo/\ad.hi<=bd.hi))) w'):
 bk prog fp.id #[.pointer (some ⟨g,0,none⟩),.int .i64 a,.int .i64 b] w K:=by
 have hal:a<T.length:=(lgeS ha).1;have Cx:b<T.length:=(lgeS hb).1;have RC:0<=(a:Int)/\(a:Int)<(T.length:Int):=⟨by omega,by omega⟩;have wo:0<=(b:Int)/\(b:Int)<(T.length:Int):=⟨by omega,by omega⟩;refine fp.of ?_;unfold fp.W;intro w4;have k4:Kept Nil w w4:=(Kept.refl Nil w).drew;have h4:=h.same k4;have hk:=hK w4 k4;refine xO h4 a ⟨_,rfl,Split.yes (decide_eq_true RC) ?_⟩;refine xO h4 b ⟨_,rfl,Split.yes (decide_eq_true wo) ?_⟩;obtain⟨p,c,L,h4⟩:=h4;obtain⟨va,hva⟩:=h4.at_ ha;obtain⟨vb,hvb⟩:=h4.at_ hb;refine h4.go ⟨wo,h4.vu hvb (h4.go ⟨RC,h4.vu hva ?_⟩)⟩;refine Split.dec (fun h1=>h4.go ⟨RC,h4.AD hva (h4.go ⟨wo,h4.AD hvb ?_⟩)⟩) (fun h1=>?_)
 ·rwa [show decide (bd.lo<=ad.lo/\ad.hi<=bd.hi)=decide (ad.hi<=bd.hi)from by simp [h1]]at hk
 ·rwa [decide_eq_false (fun e:bd.lo<=ad.lo/\ad.hi<=bd.hi=>h1 e.1)]at hk
end
section
variable{w:World}{t:Option Addr}{K:Value->World->Prop}
end
end Go.Proofs.YtfleamccglihoaaGreatDoor.Tr
namespace Go.Proofs.YtfleamccglihoaaGreatDoor.Tr
open Go.Proofs.Tryz
def bS(T:List Nd):List Int:=T.map (·.parent)
structure lH(P:List Int):Prop where
 root:P[0]? =some (-1)
 up:∀(i:Nat) (p:Int),0<i->P[i]? =some p->∃j:Nat,j<i/\p=j
def kids(P:List Int)(i:Nat):List Nat:=(List.range P.length).filter fun j=>P[j]? ==some (i:Int)
theorem dS{P:List Int}{i j:Nat}:j∈kids P i↔P[j]? =some (i:Int):=by
 simp only [kids,List.mem_filter,List.mem_range,beq_iff_eq];exact⟨fun h=>h.2,fun h=>⟨(lgeS h).1,h⟩⟩
theorem hU{P:List Int}(hP:lH P){i j:Nat}(h:j∈kids P i):i<j/\j<P.length:=by
 rw [dS]at h;refine⟨?_,(lgeS h).1⟩;rcases Nat.eq_zero_or_pos j with rfl|hj
 ·rw [hP.root]at h;have:=Option.some.inj h;omega
 ·obtain⟨k,hk,e⟩:=hP.up j _ hj h
  omega
theorem ti(P:List Int)(i:Nat):(kids P i).Pairwise (· < ·):=List.Pairwise.filter _ (List.pairwise_lt_range)
theorem zR(P:List Int)(i:Nat):(kids P i).length<=P.length:=by
 unfold kids;exact Nat.le_trans (List.length_filter_le _ _) (by simp)
inductive jZ (P:List Int):Nat->Nat->Prop
 |refl {i:Nat}:i<P.length->jZ P i i
 |step {i j k:Nat}:P[i]? =some (j:Int)->jZ P j k->jZ P i k
theorem jZ.lt{P:List Int}{i k:Nat}(h:jZ P i k):i<P.length:=by
 cases h with
 |refl h=>exact h
 |step h _=>exact(lgeS h).1
theorem jZ.Xc{P:List Int}{i k:Nat}(h:jZ P i k):k<P.length:=by
 induction h with
 |refl h=>exact h
 |step _ _ ih=>exact ih
theorem jZ.le{P:List Int}(hP:lH P){i k:Nat}(h:jZ P i k):k<=i:=by
 induction h with
 |refl=>omega
 |step h _ ih=>have:=(hU hP (dS.2 h)).1;omega
theorem jZ.trans{P:List Int}{i j k:Nat}(h:jZ P i j)(h':jZ P j k):jZ P i k:=by
 induction h with
 |refl=>exact h'
 |step h _ ih=>exact .step h (ih h')
theorem jZ.inv{P:List Int}{i j k:Nat}(h:jZ P i k)(e9:i≠k)(hj:P[i]? =some (j:Int)):jZ P j k:=by
 cases h with
 |refl=>exact absurd rfl e9
 | @step _ j' _ h h'=>
   rw [hj]at h;have e:j=j':=by have:=Option.some.inj h;omega
   rw [e];exact h'
theorem jZ.child{P:List Int}{i k:Nat}(h:jZ P i k)(e9:i≠k):∃c,c∈kids P k/\jZ P i c:=by
 induction h with
 |refl=>exact absurd rfl e9
 | @step i j k h h' ih=>
   by_cases e:j=k
   ·subst e
    exact⟨i,dS.2 h,.refl (lgeS h).1⟩
   ·obtain⟨c,hc,hu⟩:=ih e
    exact⟨c,hc,.step h hu⟩
structure Iv(nd:Nd):Prop where
 Y7:1<=nd.lo
 le:nd.lo<=nd.hi
 top:nd.hi<=4611686018427387904
structure Loc(T:List Nd)(nd:Nd):Prop where
 Gv:nd.lo<=nd.free
 CF:nd.free<=nd.hi
 sub:∀c cd,c∈nd.ch->T[c]? =some cd->nd.lo<=cd.lo/\cd.hi<nd.free
 ord:∀(c c':Nat) cd vI,c∈nd.ch->c'∈nd.ch->c<c'->T[c]? =some cd->T[c']? =some vI->cd.hi<vI.lo
structure Shape(T:List Nd):Prop where
 par:lH (bS T)
 ch:∀(i:Nat) nd,T[i]? =some nd->nd.ch=kids (bS T) i
structure Good(T:List Nd):Prop extends Shape T where
 iv:∀(i:Nat) nd,T[i]? =some nd->Iv nd
 loc:∀(i:Nat) nd,T[i]? =some nd->Loc T nd
theorem kZ{T:List Nd}{i:Nat}{nd:Nd}(h:T[i]? =some nd):(bS T)[i]? =some nd.parent:=by simp [bS,h]
theorem eV(T:List Nd):(bS T).length=T.length:=by simp [bS]
theorem Shape.pos{T:List Nd}(h:Shape T):0<T.length:=by
 have:=(lgeS h.par.root).1
 rwa [eV]at this
theorem Good.qD{T:List Nd}(h:Good T){c k:Nat}{cd kd:Nd}(hc:c∈kids (bS T) k)(jL:T[c]? =some cd)(UQ:T[k]? =some kd):
 kd.lo<=cd.lo/\cd.hi<kd.free:=(h.loc k kd UQ).sub c cd (by rw [h.ch k kd UQ];exact hc) jL
theorem fQ{T:List Nd}{i:Nat}(h:i<T.length):∃nd,T[i]? =some nd:=⟨_,List.getElem?_eq_getElem h⟩
theorem Good.oS{T:List Nd}(h:Good T){a b:Nat}{ad bd:Nd}(ha:T[a]? =some ad)(hb:T[b]? =some bd)(hu:jZ (bS T) a b):bd.lo<=ad.lo/\ad.hi<=bd.hi:=by
 induction hu generalizing ad with
 |refl=>rw [ha]at hb;cases hb;omega
 | @step i j k hp h' ih=>
   have tn:j<T.length:=by have:=h'.lt;rwa [eV]at this
   obtain⟨jd,hj⟩:=fQ tn;have h1:=ih hj hb;have h2:=h.qD (dS.2 hp) ha hj;have h3:=(h.loc j jd hj).CF;omega
theorem Good.apart{T:List Nd}(h:Good T):∀(m a b:Nat),a+b<=m->∀ad bd,T[a]? =some ad->T[b]? =some bd->¬jZ (bS T) a b->¬jZ (bS T) b a->ad.hi<bd.lo\/bd.hi<ad.lo:=by
 intro m
 induction m with
 |zero=>
  intro a b hm ad bd ha hb h1 _;have:a=b:=by omega
  subst this;exact absurd (.refl (by rw [eV];exact(lgeS ha).1)) h1
 |succ m ih=>
  have key:∀(a b:Nat),a+b<=m+1->b<a->∀ad bd,T[a]? =some ad->T[b]? =some bd->¬jZ (bS T) a b->¬jZ (bS T) b a->ad.hi<bd.lo\/bd.hi<ad.lo:=by
   intro a b hm cJ ad bd ha hb h1 h2;have hal:=(lgeS ha).1;obtain⟨p,hp,e⟩:=h.par.up a _ (by omega) (kZ ha);have XB:(bS T)[a]? =some (p:Int):=by rw [kZ ha,e]
   obtain⟨pd,yk⟩:=fQ (T:=T) (i:=p) (by omega);have fC:=h.qD (dS.2 XB) ha yk;have qG:=h.loc p pd yk;have Ah:¬jZ (bS T) p b:=fun hu=>h1 (.step XB hu);by_cases M8:jZ (bS T) b p
   ·have e9:b≠p:=fun e=>Ah (by subst e;exact .refl M8.lt)
    obtain⟨c,hc,MF⟩:=M8.child e9;have hca:c≠a:=fun e=>h2 (e▸MF);have qR:c<T.length:=by have:=(hU h.par hc).2;rwa [eV]at this
    obtain⟨cd,jL⟩:=fQ qR;have Bk:=h.oS hb jL MF;have mW:=h.ch p pd yk;rcases Nat.lt_or_ge c a with cJ|gu
    ·have:=qG.ord c a cd ad (by rw [mW];exact hc) (by rw [mW];exact dS.2 XB) cJ jL ha
     omega
    ·have:=qG.ord a c ad cd (by rw [mW];exact dS.2 XB) (by rw [mW];exact hc) (by omega) ha jL
     omega
   ·have:=ih p b (by omega) pd bd yk hb Ah M8
    have:=qG.CF;omega
  intro a b hm ad bd ha hb h1 h2;rcases Nat.lt_trichotomy a b with cJ|rfl|cJ
  ·have:=key b a (by omega) cJ bd ad hb ha h2 h1
   omega
  ·exact absurd (.refl (by rw [eV];exact(lgeS ha).1)) h1
  ·exact key a b hm cJ ad bd ha hb h1 h2
theorem Good.under{T:List Nd}(h:Good T){a b:Nat}{ad bd:Nd}(ha:T[a]? =some ad)(hb:T[b]? =some bd):(bd.lo<=ad.lo/\ad.hi<=bd.hi)↔jZ (bS T) a b:=by
 refine⟨fun hi=>?_,fun hu=>h.oS ha hb hu⟩;by_cases hu:jZ (bS T) a b
 ·exact hu
 ·exfalso
  have ia:=h.iv a ad ha;have ib:=h.iv b bd hb;by_cases hv:jZ (bS T) b a
  ·have e9:b≠a:=fun e=>hu (by subst e;exact .refl hv.lt)
   obtain⟨c,hc,MF⟩:=hv.child e9;have qR:c<T.length:=by have:=(hU h.par hc).2;rwa [eV]at this
   obtain⟨cd,jL⟩:=fQ qR;have h1:=h.oS hb jL MF;have h2:=h.qD hc jL ha;have h3:=(h.loc a ad ha).CF;omega
  ·have:=h.apart (a+b) a b (Nat.le_refl _) ad bd ha hb hu hv
   have:=ia.le;have:=ib.le;omega
theorem xu(T:List Nd)(p:Nat)(pd:Nd):(grown T p pd).length=T.length+1:=by simp [grown]
theorem ju{T:List Nd}{p:Nat}{pd:Nd}(hp:T[p]? =some pd)(i:Nat):(grown T p pd)[i]? =if i=p then some {pd with ch:=pd.ch++ [T.length]}else if i=T.length then some ⟨p,[],0,0,0⟩else T[i]? :=by
 have cJ:=(lgeS hp).1;unfold grown;by_cases e:i=p
 ·subst e
  rw [if_pos rfl,List.getElem?_set_self (by simp;omega)]
 ·rw [if_neg e,List.getElem?_set_ne (fun h=>e h.symm)]
  by_cases e2:i=T.length
  ·subst e2;simp
  ·rw [if_neg e2]
   rcases Nat.lt_or_ge i T.length with h|h
   ·rw [List.getElem?_append_left h]
   ·rw [List.getElem?_eq_none (by simp;omega),List.getElem?_eq_none h]
theorem mq{T:List Nd}{p:Nat}{pd:Nd}(hp:T[p]? =some pd):bS (grown T p pd)=bS T++ [(p:Int)]:=by
 apply List.ext_getElem?;intro i;have cJ:=(lgeS hp).1;simp only [bS,List.getElem?_map,ju hp];by_cases e:i=p
 ·subst e
  rw [if_pos rfl,List.getElem?_append_left (by simpa using cJ)];simp [hp]
 ·rw [if_neg e]
  by_cases e2:i=T.length
  ·subst e2;simp
  ·rw [if_neg e2]
   rcases Nat.lt_or_ge i T.length with h|h
   ·rw [List.getElem?_append_left (by simpa using h)];simp
   ·rw [List.getElem?_eq_none h,List.getElem?_eq_none (by simp;omega)];rfl
theorem zT(P:List Int)(p i:Nat):kids (P++ [(p:Int)]) i=kids P i++if i=p then [P.length]else []:=by
 unfold kids;rw [List.length_append,List.length_singleton,List.range_succ,List.filter_append]
 congr 1
 ·apply List.filter_congr
  intro x hx;rw [List.getElem?_append_left (by simpa using hx)]
 ·by_cases e:i=p
  ·subst e;simp
  ·have:¬((p:Int)=(i:Int)):=by omega
   simp [e,this]
theorem lH.snoc{P:List Int}(h:lH P){p:Nat}(hp:p<P.length):lH (P++ [(p:Int)]):=by
 refine⟨by rw [List.getElem?_append_left (by omega)];exact h.root,fun i q hi hq=>?_⟩;rcases Nat.lt_or_ge i P.length with hl|hl
 ·rw [List.getElem?_append_left hl]at hq
  exact h.up i q hi hq
 ·have:i=P.length:=by
   rcases Nat.eq_or_lt_of_le hl with e|e
   ·exact e.symm
   ·rw [List.getElem?_eq_none (by simp;omega)]at hq;cases hq
  subst this;simp at hq;exact⟨p,hp,hq.symm⟩
theorem Shape.grown{T:List Nd}(h:Shape T){p:Nat}{pd:Nd}(hp:T[p]? =some pd):Shape (grown T p pd):=by
 have cJ:=(lgeS hp).1;refine⟨by rw [mq hp];exact h.par.snoc (by rw [eV];exact cJ),fun i nd hi=>?_⟩;rw [mq hp,zT,eV];rw [ju hp]at hi;by_cases e:i=p
 ·subst e
  rw [if_pos rfl]at hi⊢;cases hi;simp [h.ch i pd hp]
 ·rw [if_neg e]at hi⊢
  rw [List.append_nil];by_cases e2:i=T.length
  ·subst e2
   rw [if_pos rfl]at hi;cases hi
   symm
   apply List.eq_nil_iff_forall_not_mem.2;intro c hc;have:=hU h.par hc;rw [eV]at this;omega
  ·rw [if_neg e2]at hi
   exact h.ch i nd hi
def iS(f:Nat->Nat):Nat->Nat
 |0=>0
 |n+1=>iS f n+f n
theorem kO{f g:Nat->Nat}{n:Nat}(h:∀i,i<n->f i=g i):iS f n=iS g n:=by
 induction n with
 |zero=>rfl
 |succ n ih=>
  simp only [iS];rw [ih (fun i hi=>h i (by omega)),h n (by omega)]
theorem ze(f g:Nat->Nat)(n:Nat):iS (fun i=>f i+g i) n=iS f n+iS g n:=by
 induction n with
 |zero=>rfl
 |succ n ih=>simp only [iS];omega
theorem lS{f:Nat->Nat}{n:Nat}(h:∀i,i<n->f i=0):iS f n=0:=by
 induction n with
 |zero=>rfl
 |succ n ih=>
  simp only [iS];rw [ih (fun i hi=>h i (by omega)),h n (by omega)]
theorem Ey(h:Nat->Nat->Nat)(n m:Nat):iS (fun i=>iS (fun j=>h i j) m) n=iS (fun j=>iS (fun i=>h i j) n) m:=by
 induction n with
 |zero=>simp only [iS];exact(lS fun _ _=>rfl).symm
 |succ n ih=>
  simp only [iS];rw [ih,ze]
theorem zc{n k:Nat}(hk:k<n){f:Nat->Nat}(h:∀i,i<n->i≠k->f i=0):iS f n=f k:=by
 induction n with
 |zero=>omega
 |succ n ih=>
  simp only [iS];rcases Nat.lt_or_ge k n with cJ|gu
  ·rw [ih cJ (fun i hi=>h i (by omega)),h n (by omega) (by omega),Nat.add_zero]
  ·have:k=n:=by omega
   subst this;rw [lS (fun i hi=>h i (by omega) (by omega)),Nat.zero_add]
theorem JX{f:Nat->Nat}{n b:Nat}(h:∀i,i<n->f i<=b):iS f n<=n*b:=by
 induction n with
 |zero=>simp [iS]
 |succ n ih=>
  simp only [iS];have:=ih (fun i hi=>h i (by omega));have:=h n (by omega);rw [Nat.succ_mul];omega
theorem GZ{f f':Nat->Nat}{n k:Nat}(hk:k<n){v:Nat}(h:∀i,i<n->i≠k->f' i=f i)(hv:f' k=f k+v):iS f' n=iS f n+v:=by
 induction n with
 |zero=>omega
 |succ n ih=>
  simp only [iS];rcases Nat.lt_or_ge k n with cJ|gu
  ·rw [ih cJ (fun i hi=>h i (by omega)),h n (by omega) (by omega)]
   omega
  ·have:k=n:=by omega
   subst this;rw [kO (fun i hi=>h i (by omega) (by omega)),hv];omega
theorem r6(q:Nat->Bool)(f:Nat->Nat)(n:Nat):(((List.range n).filter q).map f).sum=iS (fun c=>if q c=true then f c else 0) n:=by
 induction n with
 |zero=>rfl
 |succ n ih=>
  rw [List.range_succ,List.filter_append,List.map_append,List.sum_append,ih];simp only [iS]
  congr 1
  by_cases h:q n=true
  ·simp [h]
  ·simp [h]
section
variable{P:List Int}
theorem jZ.cmp{i a b:Nat}(h:jZ P i a)(h':jZ P i b):jZ P a b\/jZ P b a:=by
 induction h with
 |refl=>exact .inl h'
 | @step i j k hp h2 ih=>
   by_cases e:i=b
   ·subst e;exact .inr (.step hp h2)
   ·exact ih (h'.inv e hp)
theorem jZ.one(hP:lH P){i n c c':Nat}(hc:P[c]? =some (n:Int))(tN:P[c']? =some (n:Int))(h:jZ P i c)(h':jZ P i c'):c=c':=by
 have key:∀(c c':Nat),P[c]? =some (n:Int)->P[c']? =some (n:Int)->jZ P c c'->c=c':=by
  intro c c' hc tN h;by_cases e:c=c'
  ·exact e
  ·have:=(h.inv e hc).le hP
   have:=(hU hP (dS.2 tN)).1;omega
 rcases h.cmp h' with h|h
 ·exact key c c' hc tN h
 ·exact(key c' c tN hc h).symm
open Classical in
noncomputable def ind(p:Prop):Nat:=if p then 1 else 0
theorem rJ{p:Prop}(h:p):ind p=1:=by unfold ind;rw [if_pos h]
theorem sA{p:Prop}(h:¬p):ind p=0:=by unfold ind;rw [if_neg h]
theorem O4(p:Prop):ind p<=1:=by unfold ind;split<;>omega
noncomputable def sz(P:List Int)(n:Nat):Nat:=iS (fun i=>ind (jZ P i n)) P.length
theorem Bz(hP:lH P){n:Nat}(hn:n<P.length):sz P n=1+iS (fun c=>if P[c]? =some (n:Int)then sz P c else 0) P.length:=by
 have e1:∀i,i<P.length->ind (jZ P i n)=ind (i=n)+iS (fun c=>if P[c]? =some (n:Int)then ind (jZ P i c)else 0) P.length:=by
  intro i hi;by_cases e:i=n
  ·subst e
   rw [rJ (.refl hi),rJ rfl,lS];intro c hc;split
   ·rename_i hp
    apply sA;intro hu;have:=hu.le hP;have:=(hU hP (dS.2 hp)).1;omega
   ·rfl
  ·rw [sA e,Nat.zero_add]
   by_cases hu:jZ P i n
   ·obtain⟨c,hc,MF⟩:=hu.child e
    rw [rJ hu,zc (k:=c) MF.Xc]
    ·rw [if_pos (dS.1 hc),rJ MF]
    ·intro c' _ e9
     split
     ·rename_i hp
      exact sA fun h=>e9 (jZ.one hP hp (dS.1 hc) h MF)
     ·rfl
   ·rw [sA hu,lS]
    intro c hc;split
    ·rename_i hp
     exact sA fun h=>hu (h.trans (.step hp (.refl hn)))
    ·rfl
 have e2:sz P n=iS (fun i=>ind (i=n)+iS (fun c=>if P[c]? =some (n:Int)then ind (jZ P i c)else 0) P.length) P.length:=by
  unfold sz;exact kO e1
 rw [e2,ze,zc (k:=n) hn (fun i _ h=>sA h),rJ rfl,Ey]
 congr 1
 apply kO;intro c _;split
 ·rfl
 ·exact lS fun _ _=>rfl
theorem uo(hP:lH P){n:Nat}(hn:n<P.length):1<=sz P n:=by rw [Bz hP hn];omega
theorem wL(n:Nat):sz P n<=P.length:=by
 have:=JX (n:=P.length) (b:=1) (f:=fun i=>ind (jZ P i n)) (fun i _=>O4 _);unfold sz;omega
theorem Dd(hP:lH P){n:Nat}(hn:n<P.length):((kids P n).map (sz P)).sum+1=sz P n:=by
 unfold kids;rw [r6,Bz hP hn,Nat.add_comm]
 congr 1
 apply kO;intro c _;by_cases h:P[c]? =some (n:Int)
 ·simp [h]
 ·simp [h]
noncomputable def part(P:List Int)(m j:Nat):Nat:=iS (fun c=>if P[c]? =some (j:Int)/\m<=c then sz P c else 0) P.length
theorem EY(j:Nat):part P P.length j=0:=lS fun c hc=>if_neg fun h=>by omega
theorem uL(hP:lH P){m j:Nat}(hj:j<P.length)(hm:m<=j+1):part P m j+1=sz P j:=by
 rw [Bz hP hj,Nat.add_comm]
 congr 1
 apply kO;intro c hc;by_cases h:P[c]? =some (j:Int)
 ·have:=(hU hP (dS.2 h)).1
  rw [if_pos ⟨h,by omega⟩,if_pos h]
 ·rw [if_neg (fun e=>h e.1),if_neg h]
theorem Hh{n p:Nat}(h:P[n]? =some (p:Int)):part P n p=part P (n+1) p+sz P n:=by
 unfold part;apply GZ (k:=n) (lgeS h).1
 ·intro i _ e9
  by_cases hi:P[i]? =some (p:Int)
  ·by_cases h2:n<=i
   ·rw [if_pos ⟨hi,h2⟩,if_pos ⟨hi,by omega⟩]
   ·rw [if_neg (fun e=>h2 e.2),if_neg (fun e=>by omega)]
  ·rw [if_neg (fun e=>hi e.1),if_neg (fun e=>hi e.1)]
 ·rw [if_pos ⟨h,Nat.le_refl _⟩,if_neg (fun e=>by omega),Nat.zero_add]
theorem BN{n j:Nat}(h:P[n]? ≠some (j:Int)):part P n j=part P (n+1) j:=by
 unfold part;apply kO;intro i _;by_cases hi:P[i]? =some (j:Int)
 ·have:i≠n:=fun e=>h (e▸hi)
  by_cases h2:n<=i
  ·rw [if_pos ⟨hi,h2⟩,if_pos ⟨hi,by omega⟩]
  ·rw [if_neg (fun e=>h2 e.2),if_neg (fun e=>by omega)]
 ·rw [if_neg (fun e=>hi e.1),if_neg (fun e=>hi e.1)]
noncomputable def iD(P:List Int)(m j:Nat):Nat:=if m<=j then sz P j else part P m j
theorem BH(j:Nat)(hj:j<P.length):iD P P.length j=0:=by
 unfold iD;rw [if_neg (by omega),EY]
theorem zq(j:Nat):iD P 0 j=sz P j:=by unfold iD;rw [if_pos (Nat.zero_le _)]
theorem EO(hP:lH P){n:Nat}(hn:n<P.length):iD P (n+1) n+1=sz P n:=by
 unfold iD;rw [if_neg (by omega),uL hP hn (Nat.le_refl _)]
theorem EN(hP:lH P){n p:Nat}(h:P[n]? =some (p:Int))(j:Nat):iD P n j=if j=p then iD P (n+1) p+sz P n else if j=n then sz P n else iD P (n+1) j:=by
 have hp:=(hU hP (dS.2 h)).1;unfold iD;by_cases e:j=p
 ·subst e
  rw [if_neg (by omega),if_pos rfl,if_neg (by omega),Hh h]
 ·rw [if_neg e]
  by_cases e2:j=n
  ·subst e2;rw [if_pos (Nat.le_refl _),if_pos rfl]
  ·rw [if_neg e2]
   by_cases h2:n<=j
   ·rw [if_pos h2,if_pos (by omega)]
   ·rw [if_neg h2,if_neg (by omega)]
    exact BN (fun h'=>e (by rw [h]at h';have:=Option.some.inj h';omega))
theorem EP(j:Nat):iD P 0 j=if j=0 then sz P 0 else iD P 1 j:=by
 rw [zq];unfold iD;by_cases e:j=0
 ·subst e;rw [if_pos rfl]
 ·rw [if_neg e,if_pos (by omega)]
theorem Df(hP:lH P)(m j:Nat)(hj:j<P.length):iD P m j<=P.length:=by
 have h1:=wL (P:=P) j;unfold iD;split
 ·exact h1
 ·rename_i h
  have:=uL hP (m:=m) hj;by_cases h2:m<=j+1
  ·have:=this h2;omega
  ·
   have h3:part P m j<=part P 0 j:=by
    unfold part;have:∀(f g:Nat->Nat) (n:Nat),(∀i,i<n->f i<=g i)->iS f n<=iS g n:=by
     intro f g n h
     induction n with
     |zero=>simp [iS]
     |succ n ih=>
      simp only [iS];have:=ih (fun i hi=>h i (by omega));have:=h n (by omega);omega
    apply this;intro i _;split
    ·rename_i h4;rw [if_pos ⟨h4.1,Nat.zero_le _⟩];exact Nat.le_refl _
    ·exact Nat.zero_le _
   have:=uL hP (m:=0) hj (by omega);omega
end
theorem vV{α:Type}(f g:Nat->α){n k:Nat}{v:α}(hk:k<n)(h:∀i,i<n->g i=if i=k then v else f i):((List.range n).map f).set k v=(List.range n).map g:=by
 apply List.ext_getElem?;intro i;rw [List.getElem?_set];by_cases e:k=i
 ·subst e
  rw [if_pos rfl,if_pos (by simpa using hk)];simp [hk,h k hk]
 ·rw [if_neg e]
  rcases Nat.lt_or_ge i n with hi|hi
  ·have:=h i hi
   rw [if_neg (fun x=>e x.symm)]at this;simp [hi,this]
  ·rw [List.getElem?_eq_none (by simpa using hi),List.getElem?_eq_none (by simpa using hi)]
end Go.Proofs.YtfleamccglihoaaGreatDoor.Tr
namespace Go.bR
open Go.RowKit
theorem aO{σ:Type}(e:σ->Env)(I:σ->World->Prop)(μ:σ->World->Nat)(s:σ)(w:World)(Q:aN)(l:Nat)(ρ:Env)(w':World):bL e I μ s w Q (.exit l) ρ w'=Q (.exit l) ρ w':=rfl
def zeroOf(P:Program)(e:TypeId):Option (Array Value):=
 match P.info? e with
 |some i=>match i.zero with
  |some z=>some z.cells
  |none=>none
 |none=>none
theorem Hs{P:Program}{t e:TypeId}{bytes:Nat}(T:yU P t e 1 bytes){z:Value}(hz:zeroOf P e=some #[z]){n:Nat}(hn:n<=maxLen)(hb:bytes*n<=281474976710656)(w:World):
 ∃w',(Instr.makeSlice t (.int .i64 (n:Int)) (.int .i64 (n:Int))).run P w=.ok (.slice (some ⟨w.heap.size,0,none⟩) n n) w'/\
  Row w' w.heap.size e 1 (some ⟨w.heap.size,0,none⟩) n n (List.replicate n z)/\Kept Nil w w':=by
 obtain⟨i,z',hi,yN,hs,JI,DJ⟩:=T.inf;have hc:z'.cells= #[z]:=by
  unfold zeroOf at hz;simp only [hi,yN]at hz;exact Option.some.inj hz
 obtain⟨w',hr,fk,hg⟩:=run_make_full (P:=P) (w:=w) w.heap.size t e i z' 1 T.oS hi yN hs .i64 .i64 n (by rw [JI];exact hb) hn (Nat.le_refl _);rw [hc,Nat.mul_one,toList_madeCells_one]at fk;exact⟨w',hr,fk,(Kept.refl Nil w).grown hg (fun k hk=>by cases hk)⟩
end Go.bR
namespace Go.Proofs.YtfleamccglihoaaGreatDoor.Tr
open Go.Proofs.Tryz
open Go Go.bR Go.RowKit
section
variable{w w':World}{S:Nat->Prop}{g:Nat}{T:List Nd}{d:Int}{K:Value->World->Prop}
theorem TV.bound{b c:Nat}{L:List (Nd×Value)}(h:TV w S g T d b c L):TV w (fun k=>S k/\k<w.heap.size) g T d b c L:= {
 top:=h.top
 fst:=h.fst
 row:=h.row
 qD:=fun i p hp=>let ⟨A,m,h1⟩:=h.qD i p hp;⟨A,m,h1.val,h1.row,fun k e=>⟨h1.kz k e,let ⟨_,_,hc⟩:=Row.bE h1.row e;aT hc⟩⟩
 apart:=h.apart
 gY:=⟨h.gY,aT h.top⟩
 fY:=⟨h.fY,let ⟨_,hc⟩:=h.vN;aT hc⟩}
theorem TV.mono{S':Nat->Prop}{b c:Nat}{L:List (Nd×Value)}(h:TV w S g T d b c L)(hs:∀k,S k->S' k):TV w S' g T d b c L:= {
 top:=h.top
 fst:=h.fst
 row:=h.row
 qD:=fun i p hp=>let ⟨A,m,h1⟩:=h.qD i p hp;⟨A,m,h1.val,h1.row,fun k e=>hs k (h1.kz k e)⟩
 apart:=h.apart
 gY:=hs _ h.gY
 fY:=hs _ h.fY}
theorem oT.bound(h:oT w S g T d):oT w (fun k=>S k/\k<w.heap.size) g T d:=let ⟨b,c,L,h⟩:=h;⟨b,c,L,h.bound⟩
theorem oT.mono{S':Nat->Prop}(h:oT w S g T d)(hs:∀k,S k->S' k):oT w S' g T d:=let ⟨b,c,L,h⟩:=h;⟨b,c,L,h.mono hs⟩
def us(f:Nat->Nat)(n:Nat):List Value:=(List.range n).map fun j=>.int .u64 (f j:Int)
theorem oV(f:Nat->Nat){n j:Nat}(hj:j<n):(us f n)[j]? =some (.int .u64 (f j:Int)):=by simp [us,hj]
theorem oU(f:Nat->Nat)(n:Nat):(us f n).length=n:=by simp [us]
theorem xM{f f':Nat->Nat}{n k:Nat}(hk:k<n)(h:∀i,i<n->i≠k->f' i=f i):(us f n).set k (.int .u64 (f' k:Int))=us f' n:=by
 unfold us;apply vV _ _ hk;intro i hi;by_cases e:i=k
 ·subst e;rw [if_pos rfl]
 ·rw [if_neg e,h i hi e]
theorem R8:yU prog AY iL 1 8:=⟨by kernel_rfl,by kernel_rfl⟩
set_option maxRecDepth 100000 in
theorem Bw(h:oT w S g T d)(hP:lH (bS T))(hlen:T.length<=1000000)
 (hK:∀w' A,Row w' w.heap.size iL 1 A T.length T.length (us (sz (bS T)) T.length)->Kept Nil w w'->K (.slice A T.length T.length) w'):
 bk prog bz.id #[.pointer (some ⟨g,0,none⟩)] w K:=by
 obtain⟨b,c,L,h0⟩:=h;have qG:=eV T;obtain⟨w5,tL,iY,k5⟩:=Hs R8 (z:=.int .u64 0) (by kernel_rfl) (n:=T.length) (by unfold maxLen;omega) (by omega) w;refine bz.of (h0.go ⟨_,_,_,w5,tL,?_⟩);have h5:=h0.kept k5;refine h5.go ?_;generalize hA:(⟨w.heap.size,0,none⟩:Addr)=A at*;refine bz.b9 (e:=some A) (i:=T.length) (I:=fun i w'=>∃m:Nat,i=(T.length:Int)-m/\m<=T.length/\Row w' w.heap.size iL 1 (some A) T.length T.length (us (iD (bS T) m) T.length)/\Kept Nil w w')
  (μ:=fun i _=>((T.length:Int)-i).toNat) (s:=0) ⟨T.length,by omega,Nat.le_refl _,?_,k5⟩ ?_
 ·have:List.replicate T.length (Value.int .u64 0)=us (iD (bS T) T.length) T.length:=by
   apply List.ext_getElem?;intro j;rcases Nat.lt_or_ge j T.length with hj|hj
   ·rw [oV _ hj,<-qG,BH j (by omega)]
    simp [qG,hj]
   ·rw [List.getElem?_eq_none (by simpa using hj),List.getElem?_eq_none (by rw [oU];exact hj)]
  rw [<-this];exact iY
 ·rintro i w' ⟨m,rfl,hm,row,kw⟩
  have h':=h0.kept kw;refine Split.dec (fun cJ=>?_) (fun gu=>?_)
  ·
   obtain⟨n,rfl⟩:∃n,m=n+1:=⟨m-1,by omega⟩;have hn:n<T.length:=by omega
   refine h'.go ?_;have ew:i64.wrap (i64.wrap ((T.length:Int)-1)-((T.length:Int)-((n+1:Nat):Int)))=(n:Int):=by
    rw [gN (x:=(T.length:Int)-1) (by omega) (by omega),gN (by omega) (by omega)];omega
   rw [ew];have hb:0<=(n:Int)/\(n:Int)<(T.length:Int):=⟨by omega,by omega⟩;subst hA;have UJ:n<(us (iD (bS T) (n+1)) T.length).length:=by rw [oU];exact hn
   refine⟨hb,_,by rw [mB,Int.toNat_natCast,Nat.mul_one];exact Row.cell row (oV _ hn),hb,by rw [mB,Int.toNat_natCast,Nat.mul_one];exact Row.wr row UJ,?_⟩;intro rV;have e18:rV=w'.setCell ⟨w.heap.size,n,none⟩ (.int .u64 (u64.wrap ((iD (bS T) (n+1) n:Int)+1))):=by simp only [rV,mB,Int.toNat_natCast,Nat.mul_one]
   have aeH:=EO hP (n:=n) (by omega);have hle:iD (bS T) (n+1) n<=(bS T).length:=Df hP _ _ (by omega);have kl:=Row.set row UJ (.int .u64 (u64.wrap ((iD (bS T) (n+1) n:Int)+1)));rw [<-e18]at kl;have Fs:Kept Nil w rV:=by rw [e18];exact kw.setCell (fun hh=>absurd hh (Nat.lt_irrefl _)) _
   clear_value rV;rw [fH (x:=(iD (bS T) (n+1) n:Int)+1) (by omega) (by omega)]at kl;rw [show(iD (bS T) (n+1) n:Int)+1=((if n=n then sz (bS T) n else iD (bS T) (n+1) n:Nat):Int)from by rw [if_pos rfl];omega,
    xM (f':=fun j=>if j=n then sz (bS T) n else iD (bS T) (n+1) j) hn (fun i _ e9=>by rw [if_neg e9])]at kl
   have h18:=h0.kept Fs;obtain⟨nd,eW⟩:=fQ hn;obtain⟨v,hv⟩:=h18.at_ eW;refine h18.go ⟨hb,h18.IU hv ?_⟩;have jE:=kZ eW;refine Split.dec (fun hp=>?_) (fun hp=>?_)
   ·
    have FE:0<n:=by
     rcases Nat.eq_zero_or_pos n with rfl|h
     ·rw [hP.root]at jE;have:=Option.some.inj jE;omega
     ·exact h
    obtain⟨p,K2,ep⟩:=hP.up n _ FE jE;rw [ep]at hp⊢;have hpp:(bS T)[n]? =some (p:Int):=by rw [jE,ep]
    intro Ju;have OL:Kept Nil w Ju:=Fs.drew;have Dj:Row Ju w.heap.size iL 1 (some ⟨w.heap.size,0,none⟩) T.length T.length (us (fun j=>if j=n then sz (bS T) n else iD (bS T) (n+1) j) T.length):=kl;clear_value Ju;have M8:0<=(p:Int)/\(p:Int)<(T.length:Int):=⟨by omega,by omega⟩;have UI:p<(us (fun j=>if j=n then sz (bS T) n else iD (bS T) (n+1) j) T.length).length:=by rw [oU];omega
    have gp:=oV (fun j=>if j=n then sz (bS T) n else iD (bS T) (n+1) j) (n:=T.length) (j:=p) (by omega);have gn:=oV (fun j=>if j=n then sz (bS T) n else iD (bS T) (n+1) j) (n:=T.length) (j:=n) (by omega);simp only [if_neg (show p≠n by omega)]at gp;simp only [if_pos]at gn;refine⟨M8,_,by rw [mB,Int.toNat_natCast,Nat.mul_one];exact Row.cell Dj gp,hb,_,by rw [mB,Int.toNat_natCast,Nat.mul_one];exact Row.cell Dj gn,M8,by rw [mB,Int.toNat_natCast,Nat.mul_one];exact Row.wr Dj UI,?_⟩;intro vT;have e29:vT=Ju.setCell ⟨w.heap.size,p,none⟩ (.int .u64 (u64.wrap ((iD (bS T) (n+1) p:Int)+(sz (bS T) n:Int)))):=by simp only [vT,mB,Int.toNat_natCast,Nat.mul_one]
    have Hb:=Row.set Dj UI (.int .u64 (u64.wrap ((iD (bS T) (n+1) p:Int)+(sz (bS T) n:Int))));rw [<-e29]at Hb;have KM:Kept Nil w vT:=by rw [e29];exact OL.setCell (fun hh=>absurd hh (Nat.lt_irrefl _)) _
    clear_value vT;have aiI:iD (bS T) (n+1) p<=(bS T).length:=Df hP _ _ (by omega);have aiH:sz (bS T) n<=(bS T).length:=wL _;have qf:=EN hP hpp;have yP:=qf p;rw [if_pos rfl]at yP;rw [fH (x:=(iD (bS T) (n+1) p:Int)+(sz (bS T) n:Int)) (by omega) (by omega),
     show(iD (bS T) (n+1) p:Int)+(sz (bS T) n:Int)=(iD (bS T) n p:Int)from by omega,
     xM (f':=iD (bS T) n) (by omega) (fun i _ e9=>by rw [qf i,if_neg e9])]at Hb
    rw [gN (x:=(T.length:Int)-((n+1:Nat):Int)+1) (by omega) (by omega)];exact⟨_,rfl,⟨n,by omega,by omega,Hb,KM⟩,by simp only;omega⟩
   ·
    have FE:n=0:=by
     rcases Nat.eq_zero_or_pos n with h|h
     ·exact h
     ·obtain⟨p,_,ep⟩:=hP.up n _ h jE
      omega
    subst FE;have:us (fun j=>if j=0 then sz (bS T) 0 else iD (bS T) (0+1) j) T.length=us (iD (bS T) 0) T.length:=by
     congr 1
     funext j
     rw [EP]
    rw [this]at kl;rw [gN (x:=(T.length:Int)-((0+1:Nat):Int)+1) (by omega) (by omega)];exact⟨_,rfl,⟨0,by omega,by omega,kl,Fs⟩,by simp only;omega⟩
  ·have:m=0:=by omega
   subst this;rw [aO,bz.df];refine hK w' (some A) ?_ kw;have e:iD (bS T) 0=sz (bS T):=funext zq;rw [e]at row;exact row
end
section
variable{w:World}{K:Value->World->Prop}
theorem bk.zD{f:FuncId}{args:Array Value}{v:Value}(h:Calls prog f args w fun e w'=>e=.returned v/\w'=w)(hK:K v w):bk prog f args w K:=
 h.mono fun e w' ⟨he,hw⟩=>⟨v,he,by rw [hw];exact hK⟩
theorem wy(x y:Nat)(hx:x<18446744073709551616)(hy:y<18446744073709551616)
 (hK:K (.tuple #[.int .u64 ((x*y/18446744073709551616:Nat):Int),.int .u64 ((x*y%18446744073709551616:Nat):Int)]) w):
 bk prog bits_Mul64.id #[.int .u64 x,.int .u64 y] w K:=bk.zD (Any.bits_Mul64 Tryz.Ku x y hx hy w) hK
theorem wz(x:Nat)(hx:x<18446744073709551616)(hK:K (.int .i64 (Lib.bitLen x)) w):bk prog bits_Len64.id #[.int .u64 x] w K:=
 bk.zD (Any.bits_Len64 Tryz.Kv x w (by omega) (by omega)) hK
end
theorem pJ:∀(f x:Nat),x<2 ^ f->x<2 ^ (Lib.bitLenAux f x)/\(x≠0->2 ^ (Lib.bitLenAux f x)<=2*x)
 |0,x,h=>by simp at h;subst h;simp [Lib.bitLenAux]
 |f+1,x,h=>by
  unfold Lib.bitLenAux;by_cases e:x=0
  ·simp [e]
  ·rw [if_neg e]
   have ih:=pJ f (x/2) (by rw [Nat.pow_succ]at h;omega);rw [Nat.pow_add,Nat.pow_one];refine⟨by omega,fun _=>?_⟩;by_cases e2:x/2=0
   ·have:x=1:=by omega
    subst this;cases f<;>simp [Lib.bitLenAux]
   ·have:=ih.2 e2
    omega
theorem bitLen_spec{y:Nat}(h0:y≠0)(hy:y<18446744073709551616):1<=Lib.bitLen y/\Lib.bitLen y<=64/\9223372036854775808<=y*2 ^ (64-Lib.bitLen y)/\y*2 ^ (64-Lib.bitLen y)<18446744073709551616:=by
 have hs:=pJ 64 y (by omega);have hle:=Lib.bitLenAux_le 64 y 64 (by omega)
 change Lib.bitLen y<=64 at hle
 change y<2 ^ (Lib.bitLen y)/\(y≠0->2 ^ (Lib.bitLen y)<=2*y)at hs
 have Ae:=hs.2 h0;have hp:2 ^ Lib.bitLen y*2 ^ (64-Lib.bitLen y)=18446744073709551616:=by
  rw [<-Nat.pow_add,show Lib.bitLen y+(64-Lib.bitLen y)=64 by omega]
 have jt:0<2 ^ (64-Lib.bitLen y):=Nat.pow_pos (by omega);refine⟨?_,hle,?_,?_⟩
 ·rcases Nat.eq_zero_or_pos (Lib.bitLen y)with e|e
  ·rw [e]at hs;simp at hs;omega
  ·exact e
 ·have:=Nat.mul_le_mul_right (2 ^ (64-Lib.bitLen y)) Ae
  rw [hp,Nat.mul_assoc]at this;omega
 ·rw [<-hp]
  exact Nat.mul_lt_mul_of_pos_right hs.1 jt
section
variable{Y n1 n0 u u1 q r:Nat}
theorem I0(hY:Y=n1*4294967296+n0):q*Y=q*n1*4294967296+q*n0:=by rw [hY,Nat.mul_add,Nat.mul_assoc]
theorem dg1(hY:Y=n1*4294967296+n0)(hq:q*n1+r=u)(h:q*n0<=4294967296*r+u1):q*Y<=u*4294967296+u1:=by rw [I0 hY];omega
theorem dg2(hY:Y=n1*4294967296+n0)(hq:q*n1+r=u)(h:4294967296*r+u1<q*n0):u*4294967296+u1<q*Y:=by rw [I0 hY];omega
theorem dg3(hu:u<Y)(JB:u1<4294967296)(h:4294967296<=q):u*4294967296+u1<q*Y:=by
 have:=Nat.mul_le_mul_right Y h;omega
theorem dg4(hY:Y=n1*4294967296+n0)(FE:n0<4294967296)(hu:u<Y)(hq:q*n1+r=u)(hr:4294967296<=r):q*Y<=u*4294967296+u1:=by
 have h1:q*n1<4294967296*n1:=by omega
 have h2:q<4294967296:=Nat.lt_of_mul_lt_mul_right h1;have h3:q*n0<=4294967296*4294967296:=Nat.mul_le_mul (by omega) (by omega);rw [I0 hY];omega
theorem Nr(hu:u<Y)(JB:u1<4294967296)(h:q*Y<=u*4294967296+u1):q<4294967296:=by
 rcases Nat.lt_or_ge q 4294967296 with h'|h'
 ·exact h'
 ·have:=dg3 hu JB h';omega
theorem AM(It:2147483648<=n1)(hu:u<18446744073709551616)(hq:q*n1+r=u):q<8589934592:=by
 rcases Nat.lt_or_ge q 8589934592 with h|h
 ·exact h
 ·have:=Nat.mul_le_mul h It
  omega
end
theorem FY{Y n1 n0 u u1:Nat}{quo rem s GM R1:Int}{Q:aN}{w:World}(hY:Y=n1*4294967296+n0)(FE:n0<4294967296)(It:2147483648<=n1)(K9:n1<4294967296)(hu:u<Y)(hY':Y<18446744073709551616)(JB:u1<4294967296)
 (hex:∀q r:Nat,q*Y<=u*4294967296+u1->u*4294967296+u1<(q+1)*Y->Q (.exit 0) (aZ.e1 (Y:Int) quo rem s n1 n0 GM u1 R1 ((q:Int),(r:Int))) w)
 (q0 r0:Nat) (h0:q0*n1+r0=u) (hX0:u*4294967296+u1<(q0+1)*Y) (sF:r0<4294967296):
 Holds none [] prog 135 (.loop (lB (bB (sL (sR (sR (sR (sR (sR (sR (sR (sR (sR (sR (sR (sR (sR (sR (body aZ.fn))))))))))))))))))) Q (aZ.e1 (Y:Int) quo rem s n1 n0 GM u1 R1 ((q0:Int),(r0:Int))) w:=by
 refine aZ.b9 (I:=fun s w'=>w'=w/\∃q r:Nat,s=((q:Int),(r:Int))/\q*n1+r=u/\u*4294967296+u1<(q+1)*Y/\r<4294967296)
  (μ:=fun s _=>s.1.toNat) (s:=((q0:Int),(r0:Int))) ⟨rfl,q0,r0,rfl,h0,hX0,sF⟩ ?_
 rintro s w' ⟨hw,q,r,rfl,hq,hX,hr⟩;subst hw;have aav:=AM It (by omega) hq;have down:u*4294967296+u1<q*Y->∃q' r':Nat,u64.wrap ((q:Int)-1)=(q':Int)/\u64.wrap ((r:Int)+(n1:Int))=(r':Int)/\q'*n1+r'=u/\u*4294967296+u1<(q'+1)*Y/\q'<q:=by
  intro h;have MO:1<=q:=by
   rcases Nat.eq_zero_or_pos q with e|e
   ·rw [e]at h;omega
   ·exact e
  refine⟨q-1,r+n1,?_,?_,?_,?_,by omega⟩
  ·rw [fH (by omega) (by omega)];omega
  ·rw [fH (by omega) (by omega)];omega
  ·have:q*n1=(q-1)*n1+n1:=by
    obtain⟨k,rfl⟩:∃k,q=k+1:=⟨q-1,by omega⟩;rw [Nat.succ_mul];rfl
   omega
  ·rwa [show q-1+1=q by omega]
 have step:∀q' r':Nat,q'*n1+r'=u->u*4294967296+u1<(q'+1)*Y->q'<q->∀b:Bool,b=decide ((r':Int)>=4294967296)->
  Split b (Q (.exit 0) (aZ.e1 (Y:Int) quo rem s n1 n0 GM u1 R1 ((q':Int),(r':Int))) w') (bL (aZ.e1 (Y:Int) quo rem s n1 n0 GM u1 R1) (fun s iR=>iR=w'/\∃q r:Nat,s=((q:Int),(r:Int))/\q*n1+r=u/\u*4294967296+u1<(q+1)*Y/\r<4294967296) (fun s _=>s.1.toNat) ((q:Int),(r:Int)) w' Q .normal (aZ.e1 (Y:Int) quo rem s n1 n0 GM u1 R1 ((q':Int),(r':Int))) w'):=by
  intro q' r' h1 h2 h3 b hb;subst hb;refine Split.dec (fun gu=>?_) (fun cJ=>?_)
  ·exact hex q' r' (dg4 hY FE hu h1 (by omega)) h2
  ·exact⟨_,rfl,⟨rfl,q',r',rfl,h1,h2,by omega⟩,by simp only;omega⟩
 refine Split.dec (fun gu=>?_) (fun cJ=>?_)
 ·obtain⟨q',r',eq,er,h1,h2,h3⟩:=down (dg3 hu JB (by simp only at gu;omega))
  simp only [eq,er];exact step q' r' h1 h2 h3 _ rfl
 ·simp only at cJ
  have hqn:q*n0<18446744073709551616:=by
   have:q*n0<=4294967295*4294967295:=Nat.mul_le_mul (by omega) (by omega);omega
  have e1:u64.wrap ((q:Int)*(n0:Int))=((q*n0:Nat):Int):=by rw [<-Int.natCast_mul,fH (by omega) (by omega)]
  have e2:u64.wrap (u64.wrap (4294967296*(r:Int))+(u1:Int))=((4294967296*r+u1:Nat):Int):=by
   rw [fH (x:=4294967296*(r:Int)) (by omega) (by omega),fH (by omega) (by omega)];omega
  simp only [e1,e2];refine Split.dec (fun xp=>?_) (fun hle=>?_)
  ·obtain⟨q',r',eq,er,h1,h2,h3⟩:=down (dg2 hY hq (by omega))
   simp only [eq,er];exact step q' r' h1 h2 h3 _ rfl
  ·exact hex q r (dg1 hY hq (by omega)) hX
theorem FW{Y n1 n0 u u1:Nat}{quo rem s q1 GO:Int}{Q:aN}{w:World}(hY:Y=n1*4294967296+n0)(FE:n0<4294967296)(It:2147483648<=n1)(K9:n1<4294967296)(hu:u<Y)(hY':Y<18446744073709551616)(JB:u1<4294967296)
 (hex:∀q r:Nat,q*Y<=u*4294967296+u1->u*4294967296+u1<(q+1)*Y->Q (.exit 2) (aZ.e2 (Y:Int) quo rem s n1 n0 u1 q1 GO ((r:Int),(q:Int))) w)
 (q0 r0:Nat) (h0:q0*n1+r0=u) (hX0:u*4294967296+u1<(q0+1)*Y) (sF:r0<4294967296):
 Holds none [] prog 135 (.loop (lB (bB (sL (sR (sR (sR (sR (sR (sR (sR (sR (sR (sR (sR (sR (sR (sR (sR (sR (sR (sR (body aZ.fn))))))))))))))))))))))) Q (aZ.e2 (Y:Int) quo rem s n1 n0 u1 q1 GO ((r0:Int),(q0:Int))) w:=by
 refine aZ.gC (I:=fun s w'=>w'=w/\∃q r:Nat,s=((r:Int),(q:Int))/\q*n1+r=u/\u*4294967296+u1<(q+1)*Y/\r<4294967296)
  (μ:=fun s _=>s.2.toNat) (s:=((r0:Int),(q0:Int))) ⟨rfl,q0,r0,rfl,h0,hX0,sF⟩ ?_
 rintro s w' ⟨hw,q,r,rfl,hq,hX,hr⟩;subst hw;have aav:=AM It (by omega) hq;have down:u*4294967296+u1<q*Y->∃q' r':Nat,u64.wrap ((q:Int)-1)=(q':Int)/\u64.wrap ((r:Int)+(n1:Int))=(r':Int)/\q'*n1+r'=u/\u*4294967296+u1<(q'+1)*Y/\q'<q:=by
  intro h;have MO:1<=q:=by
   rcases Nat.eq_zero_or_pos q with e|e
   ·rw [e]at h;omega
   ·exact e
  refine⟨q-1,r+n1,?_,?_,?_,?_,by omega⟩
  ·rw [fH (by omega) (by omega)];omega
  ·rw [fH (by omega) (by omega)];omega
  ·have:q*n1=(q-1)*n1+n1:=by
    obtain⟨k,rfl⟩:∃k,q=k+1:=⟨q-1,by omega⟩;rw [Nat.succ_mul];rfl
   omega
  ·rwa [show q-1+1=q by omega]
 have step:∀q' r':Nat,q'*n1+r'=u->u*4294967296+u1<(q'+1)*Y->q'<q->∀b:Bool,b=decide ((r':Int)>=4294967296)->
  Split b (Q (.exit 2) (aZ.e2 (Y:Int) quo rem s n1 n0 u1 q1 GO ((r':Int),(q':Int))) w') (bL (aZ.e2 (Y:Int) quo rem s n1 n0 u1 q1 GO) (fun s iR=>iR=w'/\∃q r:Nat,s=((r:Int),(q:Int))/\q*n1+r=u/\u*4294967296+u1<(q+1)*Y/\r<4294967296) (fun s _=>s.2.toNat) ((r:Int),(q:Int)) w' Q .normal (aZ.e2 (Y:Int) quo rem s n1 n0 u1 q1 GO ((r':Int),(q':Int))) w'):=by
  intro q' r' h1 h2 h3 b hb;subst hb;refine Split.dec (fun gu=>?_) (fun cJ=>?_)
  ·exact hex q' r' (dg4 hY FE hu h1 (by omega)) h2
  ·exact⟨_,rfl,⟨rfl,q',r',rfl,h1,h2,by omega⟩,by simp only;omega⟩
 refine Split.dec (fun gu=>?_) (fun cJ=>?_)
 ·obtain⟨q',r',eq,er,h1,h2,h3⟩:=down (dg3 hu JB (by simp only at gu;omega))
  simp only [eq,er];exact step q' r' h1 h2 h3 _ rfl
 ·simp only at cJ
  have hqn:q*n0<18446744073709551616:=by
   have:q*n0<=4294967295*4294967295:=Nat.mul_le_mul (by omega) (by omega);omega
  have e1:u64.wrap ((q:Int)*(n0:Int))=((q*n0:Nat):Int):=by rw [<-Int.natCast_mul,fH (by omega) (by omega)]
  have e2:u64.wrap (u64.wrap (4294967296*(r:Int))+(u1:Int))=((4294967296*r+u1:Nat):Int):=by
   rw [fH (x:=4294967296*(r:Int)) (by omega) (by omega),fH (by omega) (by omega)];omega
  simp only [e1,e2];refine Split.dec (fun xp=>?_) (fun hle=>?_)
  ·obtain⟨q',r',eq,er,h1,h2,h3⟩:=down (dg2 hY hq (by omega))
   simp only [eq,er];exact step q' r' h1 h2 h3 _ rfl
  ·exact hex q r (dg1 hY hq (by omega)) hX
theorem WK(a:Nat)(ha:a<18446744073709551616):u64.wrap ((BitVec.ofInt 64 (a:Int)&&& BitVec.ofInt 64 (4294967295:Int)).toNat:Int)=((a%4294967296:Nat):Int):=by
 have h:=bits_and_u64_nat a 4294967295 ha (by omega);have e:a&&& 4294967295=a%4294967296:=Nat.and_two_pow_sub_one_eq_mod a 32;rw [e]at h;exact h
theorem orN(a b s:Nat)(ha:a*2 ^ s<18446744073709551616)(hb:b<2 ^ s)(wq:b<18446744073709551616):
 u64.wrap ((BitVec.ofInt 64 ((a*2 ^ s:Nat):Int)|||BitVec.ofInt 64 (b:Int)).toNat:Int)=((a*2 ^ s+b:Nat):Int):=by
 have h:=bits_or_u64_nat (a*2 ^ s) b ha wq;rw [Nat.mul_comm,<-Nat.two_pow_add_eq_or_of_lt hb,Nat.mul_comm]at h;exact h
theorem Sb(a k:Nat):Int.fdiv (a:Int) (2 ^ k)=((a/2 ^ k:Nat):Int):=by
 rw [Int.fdiv_eq_ediv_of_nonneg _ (by exact Int.le_of_lt (Int.pow_pos (by omega)))];rw [Int.natCast_ediv,Int.natCast_pow];rfl
theorem YJ(a k:Nat):(a:Int)*2 ^ k=((a*2 ^ k:Nat):Int):=by rw [Int.natCast_mul,Int.natCast_pow];rfl
theorem acM{N u L u1 u0 v a b:Nat}(hN:N=u*18446744073709551616+L)(hL:L=u1*4294967296+u0)(hv:u*4294967296+u1-a=v)(ha:a<=u*4294967296+u1)(hb:b<=v*4294967296+u0):a*4294967296+b<=N:=by omega
theorem acL{N u L u1 u0 v a b:Nat}(hN:N=u*18446744073709551616+L)(hL:L=u1*4294967296+u0)(hv:u*4294967296+u1-a=v)(ha:a<=u*4294967296+u1)(hb:v*4294967296+u0<b):N<a*4294967296+b:=by omega
section
variable{w:World}{K:Value->World->Prop}
theorem ot(x:Nat)(hx:x<18446744073709551616)(hK:K (.int .i64 ((64-Lib.bitLen x:Nat):Int)) w):bk prog bits_LeadingZeros64.id #[.int .u64 x] w K:=by
 refine bits_LeadingZeros64.of (wz x hx ⟨_,rfl,?_⟩);have hle:=Lib.bitLen_le x 64 (by omega) (by omega)
 rwa [gN (by omega) (by omega),show(64:Int)-(Lib.bitLen x:Int)=((64-Lib.bitLen x:Nat):Int)by omega]
theorem wA(hi lo y:Nat)(XF:lo<18446744073709551616)(hy:y<18446744073709551616)(hhi:hi<y)
 (hK:∀r w',Kept Nil w w'->K (.tuple #[.int .u64 (((hi*18446744073709551616+lo)/y:Nat):Int),.int .u64 r]) w'):
 bk prog aZ.id #[.int .u64 hi,.int .u64 lo,.int .u64 y] w K:=by
 refine aZ.of (Split.no (beq_eq_false_iff_ne.2 (by omega)) (Split.no (decide_eq_false (by omega)) ?_));by_cases h0:hi=0
 ·subst h0
  refine Split.yes rfl ?_;intro w6;refine⟨by omega,by omega,?_⟩;have e:u64.wrap ((lo:Int).tdiv (y:Int))=(((0*18446744073709551616+lo)/y:Nat):Int):=by
   rw [Int.tdiv_eq_ediv_of_nonneg (by omega),Nat.zero_mul,Nat.zero_add,<-Int.natCast_ediv];have:=Nat.div_le_self lo y;generalize lo/y=z at*;exact fH (by omega) (by omega)
  rw [e];exact hK _ w6 (Kept.refl Nil w).drew
 ·refine Split.no (beq_eq_false_iff_ne.2 (by omega)) (ot y hy ⟨_,rfl,?_⟩)
  obtain⟨yq,abY,hY1,hY2⟩:=bitLen_spec (y:=y) (by omega) hy;have hs:64-Lib.bitLen y<64:=by omega
  generalize 64-Lib.bitLen y=s at*;have eS:u64.wrap (s:Int)=(s:Int):=fH (by omega) (by omega);have eS2:u64.wrap ((64:Int)-(s:Int))=((64-s:Nat):Int):=by rw [fH (by omega) (by omega)];omega
  have em1:min s 64=s:=by omega
  have em2:min (64-s) 64=64-s:=by omega
  have em3:min (32:Int).toNat 64=32:=rfl;have Rs:2 ^ (64-s)*2 ^ s=18446744073709551616:=by rw [<-Nat.pow_add,show 64-s+s=64 by omega]
  have jt:0<2 ^ s:=Nat.pow_pos (by omega);have T8:0<2 ^ (64-s):=Nat.pow_pos (by omega);simp only [eS,eS2,Int.toNat_natCast,em1,em2,em3,YJ];generalize hYd:y*2 ^ s=Y at*;have hhs:hi*2 ^ s<18446744073709551616:=by
   have:hi*2 ^ s<y*2 ^ s:=Nat.mul_lt_mul_of_pos_right hhi jt;omega
  have hlq:lo/2 ^ (64-s)<2 ^ s:=by
   rw [Nat.div_lt_iff_lt_mul T8,Nat.mul_comm,Rs];exact XF
  have aa3:lo/2 ^ (64-s)<18446744073709551616:=Nat.lt_of_le_of_lt (Nat.div_le_self _ _) XF;have eY:u64.wrap (Y:Int)=(Y:Int):=fH (by omega) (by omega);have eH:u64.wrap ((hi*2 ^ s:Nat):Int)=((hi*2 ^ s:Nat):Int):=fH (by omega) (by omega);have eL:u64.wrap ((lo*2 ^ s:Nat):Int)=((lo*2 ^ s%18446744073709551616:Nat):Int):=by rw [IntKind.wrap_u64];omega
  have e32:∀a:Nat,Int.fdiv (a:Int) (2 ^ 32)=((a/4294967296:Nat):Int):=fun a=>Sb a 32;simp only [eY,eH,eL,e32,Sb lo,orN hi _ s hhs hlq aa3,WK Y (by omega),WK _ (Nat.mod_lt (lo*2 ^ s) (by omega:18446744073709551616>0))];have hN:(hi*18446744073709551616+lo)*2 ^ s=(hi*2 ^ s+lo/2 ^ (64-s))*18446744073709551616+lo*2 ^ s%18446744073709551616:=by
   have h1:lo*2 ^ s/18446744073709551616=lo/2 ^ (64-s):=by
    rw [<-Rs,Nat.mul_div_mul_right _ _ jt]
   have h2:=Nat.div_add_mod (lo*2 ^ s) 18446744073709551616;rw [h1]at h2;rw [Nat.add_mul,Nat.mul_right_comm];omega
  have ajD:(hi*18446744073709551616+lo)*2 ^ s<Y*18446744073709551616:=by
   have h1:hi*18446744073709551616+lo<y*18446744073709551616:=by omega
   have:=Nat.mul_lt_mul_of_pos_right h1 jt;rw [Nat.mul_right_comm,hYd]at this;exact this
  have MN:(hi*18446744073709551616+lo)*2 ^ s/Y=(hi*18446744073709551616+lo)/y:=by rw [<-hYd,Nat.mul_div_mul_right _ _ jt]
  rw [<-MN]at hK;clear MN;generalize (hi*18446744073709551616+lo)*2 ^ s=N at*;have hL:lo*2 ^ s%18446744073709551616<18446744073709551616:=Nat.mod_lt _ (by omega);generalize lo*2 ^ s%18446744073709551616=L at*;generalize hi*2 ^ s+lo/2 ^ (64-s)=u at*;have hu:u<Y:=by omega
  have It:2147483648<=Y/4294967296:=by omega
  have K9:Y/4294967296<4294967296:=by omega
  have FE:Y%4294967296<4294967296:=by omega
  have hYe:Y=Y/4294967296*4294967296+Y%4294967296:=by omega
  have JB:L/4294967296<4294967296:=by omega
  have ZY:L%4294967296<4294967296:=by omega
  have hLe:L=L/4294967296*4294967296+L%4294967296:=by omega
  generalize Y/4294967296=n1 at*;generalize Y%4294967296=n0 at*;generalize L/4294967296=u1 at*;generalize L%4294967296=u0 at*;have Np:∀v:Nat,v<18446744073709551616->u64.wrap ((v:Int).tdiv (n1:Int))=((v/n1:Nat):Int)/\u64.wrap ((v:Int)-u64.wrap (((v/n1:Nat):Int)*(n1:Int)))=((v%n1:Nat):Int)/\v/n1*n1+v%n1=v/\v%n1<n1:=by
   intro v hv;have h1:=Nat.div_le_self v n1;have h2:=Nat.div_add_mod' v n1;refine⟨?_,?_,h2,Nat.mod_lt _ (by omega)⟩
   ·rw [Int.tdiv_eq_ediv_of_nonneg (by omega),<-Int.natCast_ediv]
    generalize v/n1=z at*;exact fH (by omega) (by omega)
   ·rw [<-Int.natCast_mul,fH (x:=((v/n1*n1:Nat):Int)) (by omega) (by omega),fH (by omega) (by omega)]
    omega
  have first:∀v d:Nat,v<Y->d<4294967296->v*4294967296+d<(v/n1+1)*Y:=by
   intro v d hv hd;have h2:=Nat.div_add_mod' v n1;have h3:=Nat.mod_lt v (show 0<n1 by omega);have h4:v+1<=(v/n1+1)*n1:=by rw [Nat.succ_mul];omega
   have h5:(v+1)*4294967296<=(v/n1+1)*n1*4294967296:=Nat.mul_le_mul_right _ h4;have h6:(v/n1+1)*n1*4294967296<=(v/n1+1)*Y:=by
    have h7:n1*4294967296<=Y:=Nat.le_trans (Nat.le_add_right _ n0) (Nat.le_of_eq hYe.symm);rw [Nat.mul_assoc];exact Nat.mul_le_mul_left _ h7
   omega
  obtain⟨g1,g2,g3,g4⟩:=Np u (by omega);simp only [g1,g2];refine⟨by omega,by omega,by omega,by omega,by omega,by omega,by omega,?_⟩;refine FY hYe FE It K9 hu (by omega) JB ?_ (u/n1) (u%n1) g3 (first u u1 hu JB) (by omega);intro q r MO Rr;rw [show aZ.e1 (Y:Int) 0 0 (s:Int) (n1:Int) (n0:Int) (u:Int) (u1:Int) (u0:Int) ((q:Int),(r:Int))= [(2,.int .u64 (Y:Int)),(6,.int .u64 0),(7,.int .u64 0),(8,.int .u64 (s:Int)),(9,.int .u64 (n1:Int)),(10,.int .u64 (n0:Int)),(11,.int .u64 (u:Int)),(13,.int .u64 (u1:Int)),(14,.int .u64 (u0:Int)),(15,.int .u64 (q:Int)),(16,.int .u64 (r:Int))]from rfl];rw [aZ.df];have hqB:=Nr hu JB MO;rw [Nat.succ_mul]at Rr;have hp:u64.wrap (u64.wrap (u64.wrap ((u:Int)*4294967296)+(u1:Int))-u64.wrap ((q:Int)*(Y:Int)))=((u*4294967296+u1-q*Y:Nat):Int):=by
   rw [<-Int.natCast_mul q Y];simp only [IntKind.wrap_u64];generalize q*Y=p at*;omega
  unfold aZ.cH;simp only [hp];have hv:u*4294967296+u1-q*Y<Y:=by omega
  generalize hvd:u*4294967296+u1-q*Y=v at*;obtain⟨g1',Ya,g3',g4'⟩:=Np v (by omega);simp only [g1',Ya];refine⟨by omega,?_⟩;refine FW hYe FE It K9 hv (by omega) ZY ?_ (v/n1) (v%n1) g3' (first v u0 hv ZY) (by omega);intro q' r' T7 aaw;rw [show aZ.e2 (Y:Int) 0 0 (s:Int) (n1:Int) (n0:Int) (u0:Int) (q:Int) (v:Int) ((r':Int),(q':Int))= [(2,.int .u64 (Y:Int)),(6,.int .u64 0),(7,.int .u64 0),(8,.int .u64 (s:Int)),(9,.int .u64 (n1:Int)),(10,.int .u64 (n0:Int)),(14,.int .u64 (u0:Int)),(15,.int .u64 (q:Int)),(16,.int .u64 (r':Int)),(17,.int .u64 (v:Int)),(18,.int .u64 (q':Int))]from rfl];rw [aZ.jA];have aif:=Nr hv ZY T7;refine⟨by omega,?_⟩;have aab:u64.wrap (u64.wrap ((q:Int)*4294967296)+(q':Int))=((N/Y:Nat):Int):=by
   rw [fH (x:=(q:Int)*4294967296) (by omega) (by omega),fH (by omega) (by omega)];have:N/Y=q*4294967296+q':=by
    apply Nat.div_eq_of_lt_le
    ·rw [Nat.add_mul,Nat.mul_right_comm]
     exact acM hN hLe hvd MO T7
    ·rw [Nat.add_assoc,Nat.add_mul,Nat.mul_right_comm]
     exact acL hN hLe hvd MO aaw
   rw [this];omega
  rw [aab];exact hK _ w (Kept.refl Nil w)
end
end Go.Proofs.YtfleamccglihoaaGreatDoor.Tr
namespace Go.Proofs.YtfleamccglihoaaGreatDoor.Tr
open Go.Proofs.Tryz
structure ly(T T':List Nd):Prop where
 len:T'.length=T.length
 at_:∀(i:Nat) nd,T[i]? =some nd->∃nd',T'[i]? =some nd'/\nd'.parent=nd.parent/\nd'.ch=nd.ch
theorem ly.refl(T:List Nd):ly T T:=⟨rfl,fun _ nd h=>⟨nd,h,rfl,rfl⟩⟩
theorem ly.trans{T T' Ed:List Nd}(h:ly T T')(h':ly T' Ed):ly T Ed:=⟨h'.len.trans h.len,fun i nd hi=>by
 obtain⟨nd',h1,h2,h3⟩:=h.at_ i nd hi;obtain⟨Y2,g1,g2,g3⟩:=h'.at_ i nd' h1;exact⟨Y2,g1,g2.trans h2,g3.trans h3⟩⟩
theorem ly.back{T T':List Nd}(h:ly T T'){i:Nat}{nd':Nd}(hi:T'[i]? =some nd'):∃nd,T[i]? =some nd/\nd'.parent=nd.parent/\nd'.ch=nd.ch:=by
 have cJ:=(lgeS hi).1;obtain⟨nd,eW⟩:=fQ (T:=T) (i:=i) (by rw [<-h.len];exact cJ);obtain⟨x,h1,h2,h3⟩:=h.at_ i nd eW;rw [hi]at h1;cases h1;exact⟨nd,eW,h2,h3⟩
theorem ly.bS{T T':List Nd}(h:ly T T'):bS T'=bS T:=by
 apply List.ext_getElem?;intro i;rcases Nat.lt_or_ge i T.length with hi|hi
 ·obtain⟨nd,eW⟩:=fQ hi
  obtain⟨nd',h1,h2,_⟩:=h.at_ i nd eW;rw [kZ eW,kZ h1,h2]
 ·rw [List.getElem?_eq_none (by rw [eV,h.len];exact hi),List.getElem?_eq_none (by rw [eV];exact hi)]
theorem ly.shape{T T':List Nd}(h:ly T T')(hS:Shape T):Shape T':=⟨by rw [h.bS];exact hS.par,fun i nd' hi=>by
 obtain⟨nd,eW,_,h3⟩:=h.back hi;rw [h.bS,h3,hS.ch i nd eW]⟩
theorem ly.set{T:List Nd}{i:Nat}{nd nd':Nd}(hi:T[i]? =some nd)(h1:nd'.parent=nd.parent)(h2:nd'.ch=nd.ch):ly T (T.set i nd'):=
 ⟨by simp,fun j x hj=>by
   by_cases e:i=j
   ·subst e
    rw [hi]at hj;cases hj;exact⟨nd',iJ hi,h1,h2⟩
   ·exact⟨x,oo hj e,rfl,rfl⟩⟩
theorem xw{T:List Nd}{n p:Nat}{nd pd:Nd}{many:Int}(hn:T[n]? =some nd)(hp:T[p]? =some pd)(e9:n≠p)(i:Nat):
 (vt T n p nd pd many)[i]? =if i=p then some {pd with free:=pd.free+many}else if i=n then some {nd with lo:=pd.free,hi:=pd.free+many-1,free:=pd.free}else T[i]? :=by
 unfold vt;by_cases e:i=p
 ·subst e
  rw [if_pos rfl];exact iJ (oo hp e9)
 ·rw [if_neg e,List.getElem?_set_ne (fun h=>e h.symm)]
  by_cases e2:i=n
  ·subst e2
   rw [if_pos rfl];exact iJ hn
  ·rw [if_neg e2,List.getElem?_set_ne (fun h=>e2 h.symm)]
theorem vr{T:List Nd}{n p:Nat}{nd pd:Nd}(many:Int)(hn:T[n]? =some nd)(hp:T[p]? =some pd)(e9:n≠p):ly T (vt T n p nd pd many):=
 (ly.set (nd':= {nd with lo:=pd.free,hi:=pd.free+many-1,free:=pd.free}) hn rfl rfl).trans (ly.set (nd:=pd) (nd':= {pd with free:=pd.free+many}) (oo hp e9) rfl rfl)
theorem zi{l:List Nat}(hs:l.Pairwise (· < ·)){k c:Nat}(hc:l[k]? =some c):∀y,y∈l.take k->y<c:=by
 intro y hy;obtain⟨j,hj⟩:=List.mem_iff_getElem?.1 hy;rw [List.getElem?_take]at hj;split at hj
 ·rename_i cJ
  obtain⟨h1,e1⟩:=lgeS hj;obtain⟨h2,e2⟩:=lgeS hc;rw [<-e1,<-e2];exact List.pairwise_iff_getElem.1 hs j k h1 h2 cJ
 ·cases hj
theorem nO{l:List Nat}{k c:Nat}(hc:l[k]? =some c):l.take (k+1)=l.take k++ [c]:=by
 rw [List.take_add_one,hc];rfl
structure pO(P:List Int)(T1:List Nd)(x:Nat)(xd:Nd)(half:Int)(k:Nat)(T':List Nd)(f:Int):Prop where
 nQ:ly T1 T'
 here:T'[x]? =some {xd with free:=f}
 rest:∀y,y≠x->y∉xd.ch.take k->T'[y]? =T1[y]?
 lo:xd.lo+(((xd.ch.take k).map (sz P)).sum:Nat)<=f
 up:(f-xd.lo-(((xd.ch.take k).map (sz P)).sum:Nat))*(sz P x:Int)<=half*(((xd.ch.take k).map (sz P)).sum:Nat)
 qD:∀c cd,c∈xd.ch.take k->T'[c]? =some cd->xd.lo<=cd.lo/\cd.hi<f/\(sz P c:Int)<=cd.hi-cd.lo+1
 ord:∀c c' cd vI,c∈xd.ch.take k->c'∈xd.ch.take k->c<c'->T'[c]? =some cd->T'[c']? =some vI->cd.hi<vI.lo
section
variable{P:List Int}{T1 T':List Nd}{x:Nat}{xd:Nd}{half f:Int}{k:Nat}
theorem pO.start(hx:T1[x]? =some xd)(hf:xd.free=xd.lo):pO P T1 x xd half 0 T1 xd.lo:= {
 nQ:=ly.refl _
 here:=by obtain⟨a,b,c,d,e⟩:=xd;simp only at hf;subst hf;exact hx
 rest:=fun _ _ _=>rfl
 lo:=by simp
 up:=by simp
 qD:=fun c cd hc=>by simp at hc
 ord:=fun c c' cd vI hc=>by simp at hc}
theorem pO.bound(h:pO P T1 x xd half k T' f)(hh:0<=half)(Rn:1<=sz P x)(H9:((xd.ch.take k).map (sz P)).sum<=sz P x):f<=xd.lo+(((xd.ch.take k).map (sz P)).sum:Nat)+half:=by
 have h1:half*(((xd.ch.take k).map (sz P)).sum:Nat)<=half*(sz P x:Int):=Int.mul_le_mul_of_nonneg_left (by omega) hh;have h2:=Int.le_trans h.up h1;have h3:=Int.le_of_mul_le_mul_right h2 (by omega);omega
theorem pO.step(h:pO P T1 x xd half k T' f)(hs:xd.ch.Pairwise (· < ·)){c:Nat}(hx:∀y,y∈xd.ch->x<y)(hc:xd.ch[k]? =some c){cd:Nd}(jL:T'[c]? =some cd)
 {more:Int} (Rv:0<=more) (hm:more*(sz P x:Int)<=half*(sz P c:Int)) (DL:1<=sz P c):
 pO P T1 x xd half (k+1) (vt T' c x cd {xd with free:=f} ((sz P c:Int)+more)) (f+((sz P c:Int)+more)):=by
 have cJ:=zi hs hc;have hxc:x<c:=hx c (List.mem_of_getElem? hc);have Um:c∉xd.ch.take k:=fun hh=>Nat.lt_irrefl _ (cJ c hh);have gD:=xw (many:=(sz P c:Int)+more) jL h.here (by omega);have H9:((xd.ch.take (k+1)).map (sz P)).sum=((xd.ch.take k).map (sz P)).sum+sz P c:=by rw [nO hc];simp
 have iI:∀y,y∈xd.ch.take (k+1)↔y∈xd.ch.take k\/y=c:=by intro y;rw [nO hc];simp
 exact {
  nQ:=h.nQ.trans (vr _ jL h.here (by omega))
  here:=by rw [gD,if_pos rfl]
  rest:=fun y hy hn=>by
   rw [gD,if_neg hy,if_neg (fun e=>hn ((iI y).2 (.inr e)))];exact h.rest y hy (fun hh=>hn ((iI y).2 (.inl hh)))
  lo:=by rw [H9];have:=h.lo;omega
  up:=by
   rw [H9];have h1:=h.up;have e1:(f+((sz P c:Int)+more)-xd.lo-((((xd.ch.take k).map (sz P)).sum+sz P c:Nat):Int))*(sz P x:Int)=(f-xd.lo-((((xd.ch.take k).map (sz P)).sum:Nat):Int))*(sz P x:Int)+more*(sz P x:Int):=by
    rw [<-Int.add_mul];congr 1;omega
   have e2:half*((((xd.ch.take k).map (sz P)).sum+sz P c:Nat):Int)=half*((((xd.ch.take k).map (sz P)).sum:Nat):Int)+half*(sz P c:Int):=by
    rw [<-Int.mul_add];congr 1
   rw [e1,e2];omega
  qD:=fun y yd hy Cc=>by
   have XF:=h.lo;rw [gD]at Cc;rcases(iI y).1 hy with hh|rfl
   ·have h1:=cJ y hh
    have h2:=hx y (List.mem_of_mem_take hh);rw [if_neg (by omega),if_neg (by omega)]at Cc;have:=h.qD y yd hh Cc;exact⟨this.1,by omega,this.2.2⟩
   ·rw [if_neg (by omega),if_pos rfl]at Cc
    cases Cc;refine⟨?_,?_,?_⟩<;>simp only<;>omega
  ord:=fun a b ad bd ha hb kM Nk Nc=>by
   rw [gD]at Nk Nc;rcases(iI b).1 hb with wq|rfl
   ·have h1:=cJ b wq
    rcases(iI a).1 ha with Bl|rfl
    ·have h2:=hx a (List.mem_of_mem_take Bl)
     rw [if_neg (by omega),if_neg (by omega)]at Nk Nc;exact h.ord a b ad bd Bl wq kM Nk Nc
    ·omega
   ·rcases(iI a).1 ha with Bl|rfl
    ·have h1:=cJ a Bl
     have h2:=hx a (List.mem_of_mem_take Bl);rw [if_neg (by omega),if_neg (by omega)]at Nk;rw [if_neg (by omega),if_pos rfl]at Nc;cases Nc;exact(h.qD a ad Bl Nk).2.1
    ·omega}
end
structure nI(P:List Int)(T0:List Nd)(m:Nat)(T':List Nd)(q:List Nat)(i:Nat):Prop where
 nQ:ly T0 T'
 nodup:q.Nodup
 oS:∀y,y∈q->jZ P y m
 fst:m∈q
 src:∀y,y∈q->y=m\/∃z:Nat,z∈q.take i/\P[y]? =some (z:Int)
 Yg:∀z,z∈q.take i->∀c,c∈kids P z->c∈q
 rest:∀y,y∉q->T'[y]? =T0[y]?
 top:∀md Sz,T0[m]? =some md->T'[m]? =some Sz->Sz.lo=md.lo/\Sz.hi=md.hi
 room:∀y yd,y∈q->T'[y]? =some yd->1<=yd.lo/\yd.hi<=4611686018427387904/\(sz P y:Int)<=yd.hi-yd.lo+1
 loc:∀z zd,z∈q.take i->T'[z]? =some zd->Loc T' zd
theorem nI.start{P:List Int}{T0:List Nd}{m:Nat}{md:Nd}(hm:m<P.length)(xo:T0[m]? =some md)(h1:1<=md.lo)(h2:md.hi<=4611686018427387904)(h3:(sz P m:Int)<=md.hi-md.lo+1):
 nI P T0 m T0 [m] 0:= {
 nQ:=ly.refl _
 nodup:=by simp
 oS:=fun y hy=>by simp at hy;subst hy;exact .refl hm
 fst:=by simp
 src:=fun y hy=>by simp at hy;exact .inl hy
 Yg:=fun z hz=>by simp at hz
 rest:=fun _ _=>rfl
 top:=fun a b ha hb=>by rw [ha]at hb;cases hb;exact⟨rfl,rfl⟩
 room:=fun y yd hy Cc=>by
  simp at hy;subst hy;rw [xo]at Cc;cases Cc;exact⟨h1,h2,h3⟩
 loc:=fun z zd hz=>by simp at hz}
section
variable{T0 T' Ed:List Nd}{m x i:Nat}{q:List Nat}{xd:Nd}{f half:Int}
theorem nI.step(hS:Shape T0)(h:nI (bS T0) T0 m T' q i)(hq:q[i]? =some x)(Jy:T'[x]? =some xd)
 (DX:0<=half) (abg:half*2<=xd.hi-xd.lo-((sz (bS T0) x:Int)-1))
 (fC:pO (bS T0) (T'.set x {xd with free:=xd.lo}) x {xd with free:=xd.lo} half xd.ch.length Ed f):
 nI (bS T0) T0 m Ed (q++xd.ch) (i+1):=by
 have XW:=h.nQ.shape hS;have hpe:=h.nQ.bS;have hP:=hS.par;have mW:xd.ch=kids (bS T0) x:=by rw [XW.ch x xd Jy,hpe]
 have dP:i<q.length:=(lgeS hq).1;have HX:x∈q:=List.mem_of_getElem? hq;have tK:x<(bS T0).length:=(h.oS x HX).lt;have yO:q.take (i+1)=q.take i++ [x]:=nO hq;have Pg:(q++xd.ch).take (i+1)=q.take i++ [x]:=by rw [List.take_append_of_le_length (by omega),yO]
 have MB:x∉q.take i:=by
  intro hh;have hn:(q.take i++ [x]).Nodup:=by rw [<-yO];exact h.nodup.sublist (List.take_sublist _ _)
  rw [List.nodup_append]at hn;exact hn.2.2 x hh x (by simp) rfl
 have FF:∀c,c∈xd.ch->(bS T0)[c]? =some (x:Int):=fun c hc=>dS.1 (mW▸hc);have xp:∀c,c∈xd.ch->x<c:=fun c hc=>(hU hP (mW▸hc)).1;have mU:∀c,c∈xd.ch->c∉q:=by
  intro c hc XL;rcases h.src c XL with rfl|⟨z,hz,JC⟩
  ·have:=(h.oS x HX).le hP
   have:=xp _ hc;omega
  ·rw [FF c hc]at JC
   have:z=x:=by have:=Option.some.inj JC;omega
   exact MB (this▸hz)
 have ahx:x∉xd.ch:=fun hh=>Nat.lt_irrefl _ (xp x hh);have cU:∀c,c∈(({xd with free:=xd.lo}:Nd).ch.take xd.ch.length)↔c∈xd.ch:=by intro c;simp
 have H9:(xd.ch.map (sz (bS T0))).sum+1=sz (bS T0) x:=by
  rw [mW];exact Dd hP tK
 have jt:=uo hP tK;have Ry:=fC.bound DX jt (by simp only [List.take_length];omega);have abr:=fC.lo;simp only [List.take_length]at Ry abr;have abt:f<=xd.hi:=by omega
 have hT1:∀y,y≠x->(T'.set x {xd with free:=xd.lo})[y]? =T'[y]? :=fun y hy=>List.getElem?_set_ne (fun e=>hy e.symm);have Ij:∀y,y≠x->y∉xd.ch->Ed[y]? =T'[y]? :=fun y hy hn=>by
  rw [fC.rest y hy (fun hh=>hn ((cU y).1 hh)),hT1 y hy]
 have M4:Ed[x]? =some {xd with free:=f}:=fC.here;have hxr:=h.room x xd HX Jy;have hlh:xd.lo<=xd.hi:=by omega
 have hold:∀y yW,y∉xd.ch->Ed[y]? =some yW->∃yd,T'[y]? =some yd/\yd.lo=yW.lo/\yd.hi=yW.hi:=by
  intro y yW hn hy;by_cases e:y=x
  ·subst e
   rw [M4]at hy;cases hy;exact⟨xd,Jy,rfl,rfl⟩
  ·rw [Ij y e hn]at hy
   exact⟨yW,hy,rfl,rfl⟩
 exact {
  nQ:=(h.nQ.trans (ly.set (nd':= {xd with free:=xd.lo}) Jy rfl rfl)).trans fC.nQ
  nodup:=by
   rw [List.nodup_append];refine⟨h.nodup,?_,fun a ha b hb e=>mU b hb (e▸ha)⟩;rw [mW];exact(ti _ _).imp (fun h=>by omega)
  oS:=fun y hy=>by
   rcases List.mem_append.1 hy with hy|hy
   ·exact h.oS y hy
   ·exact .step (FF y hy) (h.oS x HX)
  fst:=List.mem_append.2 (.inl h.fst)
  src:=fun y hy=>by
   rw [Pg];rcases List.mem_append.1 hy with hy|hy
   ·rcases h.src y hy with e|⟨z,hz,JC⟩
    ·exact .inl e
    ·exact .inr ⟨z,List.mem_append.2 (.inl hz),JC⟩
   ·exact .inr ⟨x,by simp,FF y hy⟩
  Yg:=fun z hz c hc=>by
   rw [Pg]at hz;rcases List.mem_append.1 hz with hz|hz
   ·exact List.mem_append.2 (.inl (h.Yg z hz c hc))
   ·simp at hz
    subst hz;exact List.mem_append.2 (.inr (mW▸hc))
  rest:=fun y hy=>by
   have h1:y∉q:=fun hh=>hy (List.mem_append.2 (.inl hh));have h2:y∉xd.ch:=fun hh=>hy (List.mem_append.2 (.inr hh));rw [Ij y (fun e=>h1 (e▸HX)) h2,h.rest y h1]
  top:=fun md Y6 xo UA=>by
   obtain⟨Sz,h1,h2,h3⟩:=hold m Y6 (fun hh=>mU m hh h.fst) UA;have:=h.top md Sz xo h1;omega
  room:=fun y yW hy MA=>by
   rcases List.mem_append.1 hy with hy|hy
   ·obtain⟨yd,h1,h2,h3⟩:=hold y yW (fun hh=>mU y hh hy) MA
    have:=h.room y yd hy h1;omega
   ·have:=fC.qD y yW ((cU y).2 hy) MA
    simp only at this;omega
  loc:=fun z zd hz ZC=>by
   rw [Pg]at hz;rcases List.mem_append.1 hz with hz|hz
   ·have hzq:z∈q:=List.mem_of_mem_take hz
    have Ty:z≠x:=fun e=>MB (e▸hz);have O5:=ZC;rw [Ij z Ty (fun hh=>mU z hh hzq)]at O5;have hl:=h.loc z zd hz O5;have ZD:zd.ch=kids (bS T0) z:=by rw [XW.ch z zd O5,hpe]
    have XO:∀c,c∈zd.ch->c∉xd.ch:=by
     intro c hc JH;have h1:=FF c JH;rw [dS.1 (ZD▸hc:c∈kids (bS T0) z)]at h1;have:=Option.some.inj h1;omega
    exact {
     Gv:=hl.Gv
     CF:=hl.CF
     sub:=fun c cd hc jL=>by
      obtain⟨vI,h1,h2,h3⟩:=hold c cd (XO c hc) jL;have:=hl.sub c vI hc h1;omega
     ord:=fun c c' cd vI hc tN Al jL qI=>by
      obtain⟨ed,h1,h2,h3⟩:=hold c cd (XO c hc) jL;obtain⟨QI,qS,tO,Bm⟩:=hold c' vI (XO c' tN) qI;have:=hl.ord c c' ed QI hc tN Al h1 qS;omega}
   ·simp at hz
    subst hz;rw [M4]at ZC;cases ZC;exact {
     Gv:=by simp only;omega
     CF:=abt
     sub:=fun c cd hc jL=>by
      have:=fC.qD c cd ((cU c).2 hc) jL;simp only at this⊢;omega
     ord:=fun c c' cd vI hc tN Al jL qI=>fC.ord c c' cd vI ((cU c).2 hc) ((cU c').2 tN) Al jL qI}}
theorem nI.fin(hS:Shape T0)(h:nI (bS T0) T0 m T' q i)(hi:q.length<=i)
 (Ue:∀y nd,T0[y]? =some nd->¬jZ (bS T0) y m->Iv nd/\Loc T0 nd):Good T':=by
 have XW:=h.nQ.shape hS;have hpe:=h.nQ.bS;have hP:=hS.par;have yO:q.take i=q:=List.take_of_length_le hi;have qR:∀y,jZ (bS T0) y m->y∈q:=by
  have:∀y k,jZ (bS T0) y k->k=m->y∈q:=by
   intro y k hu
   induction hu with
   |refl=>intro e;subst e;exact h.fst
   | @step a b c hp h' ih=>intro e;exact h.Yg b (by rw [yO];exact ih e) a (dS.2 hp)
  exact fun y hu=>this y m hu rfl
 have hq:∀y,y∈q↔jZ (bS T0) y m:=fun y=>⟨h.oS y,qR y⟩;refine⟨XW,fun y yd Cc=>?_,fun y yd Cc=>?_⟩
 ·by_cases hy:y∈q
  ·have hr:=h.room y yd hy Cc
   have:=uo hP (h.oS y hy).lt;exact⟨hr.1,by omega,hr.2.1⟩
  ·rw [h.rest y hy]at Cc
   exact(Ue y yd Cc (fun hu=>hy (qR y hu))).1
 ·by_cases hy:y∈q
  ·exact h.loc y yd (by rw [yO];exact hy) Cc
  ·have O7:=Cc
   rw [h.rest y hy]at O7;have hl:=(Ue y yd O7 (fun hu=>hy (qR y hu))).2;have mW:=hS.ch y yd O7;have hold:∀c cd,c∈yd.ch->T'[c]? =some cd->∃ed,T0[c]? =some ed/\ed.lo=cd.lo/\ed.hi=cd.hi:=by
    intro c cd hc jL;by_cases XL:c∈q
    ·have hpc:=dS.1 (mW▸hc:c∈kids (bS T0) y)
     have mV:c=m:=by
      by_cases e:c=m
      ·exact e
      ·exact absurd (qR y ((h.oS c XL).inv e hpc)) hy
     subst mV;obtain⟨ed,hed,_⟩:=h.nQ.back jL;have:=h.top ed cd hed jL;exact⟨ed,hed,by omega,by omega⟩
    ·rw [h.rest c XL]at jL
     exact⟨cd,jL,rfl,rfl⟩
   exact {
    Gv:=hl.Gv
    CF:=hl.CF
    sub:=fun c cd hc jL=>by
     obtain⟨ed,h1,h2,h3⟩:=hold c cd hc jL;have:=hl.sub c ed hc h1;omega
    ord:=fun c c' cd vI hc tN Al jL qI=>by
     obtain⟨ed,h1,h2,h3⟩:=hold c cd hc jL;obtain⟨QI,qS,tO,Bm⟩:=hold c' vI tN qI;have:=hl.ord c c' ed QI hc tN Al h1 qS;omega}
end
open Go Go.RowKit Go.bR
theorem Ot{l:List Nat}{a:Nat}(h:a∈l):a<=l.sum:=by
 induction l with
 |nil=>simp at h
 |cons b l ih=>
  rw [List.sum_cons];rcases List.mem_cons.1 h with rfl|h
  ·omega
  ·have:=ih h;omega
theorem z8{l:List Nat}{j x:Nat}(h:l[j]? =some x):(ints l)[j]? =some (.int .i64 (x:Int)):=by simp [ints,h]
theorem HV(l:List Nat):(ints l).length=l.length:=by simp [ints]
theorem HU(l:List Nat):∀u∈ints l,u.oneCell'=true:=by
 intro u hu;simp only [ints,List.mem_map]at hu;obtain⟨x,_,rfl⟩:=hu;rfl
structure Dl(w0:World)(S:Nat->Prop)(g b c B0 B1 len:Nat)(P:List Int)(d:Int)(As:Option Addr)(w:World)(T':List Nd)(L:List (Nd×Value))(Aq:Option Addr)(nq cq:Nat)(q:List Nat):Prop where
 tv:TV w S g T' d b c L
 rs:Row w B0 iL 1 As len len (us (sz P) len)
 sb:∀k,a8 As=some k->k<B1
 rq:Row w B1 jI 1 Aq nq cq (ints q)
 kp:Kept S w0 w
 hS:∀k,S k->k<B0
 hB:B0<=B1
 IM:B1<=w.heap.size
 h0:w0.heap.size<=B0
section
variable{w0 w w':World}{S:Nat->Prop}{g b c B0 B1 len:Nat}{P:List Int}{d:Int}{As:Option Addr}{T' Ed:List Nd}{L L':List (Nd×Value)}{Aq:Option Addr}{nq cq:Nat}{q:List Nat}
theorem Dl.Ki(h:Dl w0 S g b c B0 B1 len P d As w T' L Aq nq cq q):nq=q.length:=by
 have:=Row.len h.rq;rw [HV]at this;omega
theorem Dl.quiet(h:Dl w0 S g b c B0 B1 len P d As w T' L Aq nq cq q)(hk:Kept Nil w w'):Dl w0 S g b c B0 B1 len P d As w' T' L Aq nq cq q:= {
 tv:=h.tv.kept hk
 rs:=Row.aG h.rs hk (fun _ _ h=>h)
 sb:=h.sb
 rq:=Row.aG h.rq hk (fun _ _ h=>h)
 kp:=h.kp.trans hk (fun _ _ h=>h.elim)
 hS:=h.hS
 hB:=h.hB
 IM:=Nat.le_trans h.IM hk.size
 h0:=h.h0}
theorem Dl.wrote(h:Dl w0 S g b c B0 B1 len P d As w T' L Aq nq cq q)(hk:Kept (fun k=>k=b) w w')(ht:TV w' S g Ed d b c L'):Dl w0 S g b c B0 B1 len P d As w' Ed L' Aq nq cq q:= {
 tv:=ht
 rs:=Row.aG h.rs hk (fun k e e2=>by have:=(Row.bE h.rs e).1;have:=h.hS b h.tv.fY;omega)
 sb:=h.sb
 rq:=Row.aG h.rq hk (fun k e e2=>by have:=(Row.bE h.rq e).1;have:=h.hS b h.tv.fY;have:=h.hB;omega)
 kp:=h.kp.trans hk (fun k _ e=>by rw [e];exact h.tv.fY)
 hS:=h.hS
 hB:=h.hB
 IM:=Nat.le_trans h.IM hk.size
 h0:=h.h0}
theorem Dl.Dm(h:Dl w0 S g b c B0 B1 len P d As w T' L Aq nq cq q){j:Nat}(hj:j<len){k:Int->Prop}(hk:k (sz P j)):
 Is As fun a=>∃t,w.cell? (a.add (j*1))=some (.int .u64 t)/\k t:=by
 have hr:=h.rs;obtain⟨b',rfl⟩:=Row.some hr (by omega);exact⟨_,by rw [mB,Nat.mul_one];exact Row.cell hr (oV _ hj),hk⟩
theorem Dl.Sm(h:Dl w0 S g b c B0 B1 len P d As w T' L Aq nq cq q){j x:Nat}(hj:q[j]? =some x){k:Int->Prop}(hk:k x):
 Is Aq fun a=>∃t,w.cell? (a.add (j*1))=some (.int .i64 t)/\k t:=by
 have hr:=h.rq;have cJ:=(lgeS hj).1;obtain⟨b',rfl⟩:=Row.some hr (by rw [h.Ki];omega);exact⟨_,by rw [mB,Nat.mul_one];exact Row.cell hr (z8 hj),hk⟩
theorem Dl.push(h:Dl w0 S g b c B0 B1 len P d As w T' L Aq nq cq q)(vi:q.length<=4000000)(x:Nat){w1:World}(e1:w1=w.alloc (.cells #[.int .i64 (x:Int)] jI)):
 ∃JQ JM w2,(Builtin.append_ #[jl,jl] jl #[.slice Aq nq cq,.slice (some ⟨w.heap.size,0,none⟩) 1 1]).run prog w1=.ok (.slice JQ (nq+1) JM) w2/\
  Dl w0 S g b c B0 B1 len P d As w2 T' L JQ (nq+1) JM (q++ [x])/\(∀S0:Nat->Prop,(∀k,a8 Aq=some k->S0 k)->Kept S0 w w2):=by
 subst e1;generalize Jz:w.alloc (.cells #[.int .i64 (x:Int)] jI)=w1;have mU:w1.heap[w.heap.size]? =some (.cells #[.int .i64 (x:Int)] jI (0,0)):=by rw [<-Jz];exact aI w _
 have k1:Kept Nil w w1:=by rw [<-Jz];exact(Kept.refl Nil w).alloc _
 have h1:=h.quiet k1;have DO:=h.Ki;obtain⟨A',c',w2,hr,fk,hg,Cx⟩:=fE (P:=prog) (t:=jl) (ty:=jl) L6 h1.rq (a:=⟨w.heap.size,0,none⟩) (m:=1) (cx:=1)
  (news:=ints [x]) rfl (fun j u hj=>by rw [mB,aA mU];simpa [ints]using hj) (HU _) (by omega) (by unfold maxLen;omega) h1.IM
 have kA:Kept (fun k=>a8 Aq=some k) w1 w2:=(Kept.refl _ w1).grown hg (fun k hk _=>hk);have gu:∀k,a8 Aq=some k->B1<=k:=fun k e=>(Row.bE h.rq e).1;refine⟨A',c',w2,hr,?_,fun S0 h0=>(k1.mono (S':=S0) (fun _ _ h=>h.elim)).trans kA (fun k _ e=>h0 k e)⟩;exact {
  tv:=h1.tv.aG kA (fun k hk e=>by have:=h.hS k hk;have:=gu k e;have:=h.hB;omega)
  rs:=Row.aG h1.rs kA (fun k e e2=>by have:=h.sb k e;have:=gu k e2;omega)
  sb:=h.sb
  rq:=by simpa [ints]using fk
  kp:=(h.kp.trans k1 (fun _ _ h=>h.elim)).trans kA (fun k hk e=>absurd (gu k e) (by have:=h.hB;have:=h.h0;omega))
  hS:=h.hS
  hB:=h.hB
  IM:=Nat.le_trans h1.IM kA.size
  h0:=h.h0}
theorem CH{T0 T1:List Nd}{x:Nat}{xd:Nd}{half:Nat}{spare i:Int}{W6:Option Addr}{Xb:Nat}{Qo:aN}
 (D:Dl w0 S g b c B0 B1 T0.length (bS T0) d As w T1 L Aq nq cq q) (hS:Shape T0) (Xw:ly T0 T1) (hlen:T0.length<=1000000) (DO:q.length<=1000000)
 (hx:T1[x]? =some xd) (Aj:xd.free=xd.lo) (XF:0<=xd.lo) (hhi:xd.hi<=4611686018427387904) (DX:(half:Int)*2<=xd.hi-xd.lo-((sz (bS T0) x:Int)-1))
 (yP:u64.wrap (spare.tdiv 2)=(half:Int)) (abF:Row w 0 jI 1 W6 xd.ch.length Xb (ints xd.ch)) (Vq:∀k,a8 W6=some k->S k/\k≠b)
 (hex:∀w' Ed f L' JQ JM,Dl w0 S g b c B0 B1 T0.length (bS T0) d As w' Ed L' JQ (nq+xd.ch.length) JM (q++xd.ch)->pO (bS T0) T1 x xd half xd.ch.length Ed f->
   Qo .normal [(0,.pointer (some ⟨g,0,none⟩)),(4,.slice As T0.length T0.length),(5,.slice JQ (nq+xd.ch.length) JM),(6,.int .i64 (i64.wrap (i+1)))] w'):
 Holds none [] prog 164 (.loop (lB (bB (sR (sR (sR (sR (bB (sL (sR (lB (bB (sR (sR (sR (sR (sR (body ax.fn)))))))))))))))))) (ax.q3 Qo) (ax.e3 (some ⟨g,0,none⟩) As T0.length T0.length i x spare W6 xd.ch.length Xb xd.ch.length (Aq,nq,cq,0)) w:=by
 have hP:=hS.par;have qG:=eV T0;have mW:xd.ch=kids (bS T0) x:=by
  have:=(Xw.shape hS).ch x xd hx
  rwa [Xw.bS]at this
 have tK:x<T0.length:=by rw [<-Xw.len];exact(lgeS hx).1
 have KU:xd.ch.Pairwise (· < ·):=by rw [mW];exact ti _ _
 have xp:∀y,y∈xd.ch->x<y:=fun y hy=>(hU hP (mW▸hy)).1;have Qc:xd.ch.length<=1000000:=by rw [mW];exact Nat.le_trans (zR _ _) (by omega)
 have H9:(xd.ch.map (sz (bS T0))).sum+1=sz (bS T0) x:=by rw [mW];exact Dd hP (by omega)
 have jt:=uo hP (n:=x) (by omega);have Z1:=wL (P:=bS T0) x;have hnq:=D.Ki;refine ax.rv (I:=fun s w'=>∃(k:Nat) (T':List Nd) (f:Int) (L':List (Nd×Value)) (JQ:Option Addr) (JM:Nat),s=(JQ,nq+k,JM,(k:Int))/\k<=xd.ch.length/\
  Dl w0 S g b c B0 B1 T0.length (bS T0) d As w' T' L' JQ (nq+k) JM (q++xd.ch.take k)/\pO (bS T0) T1 x xd half k T' f/\Row w' 0 jI 1 W6 xd.ch.length Xb (ints xd.ch))
  (μ:=fun s _=>((xd.ch.length:Int)-s.2.2.2).toNat) (s:=(Aq,nq,cq,0)) ⟨0,T1,xd.lo,L,Aq,cq,rfl,Nat.zero_le _,by simpa using D,pO.start hx Aj,abF⟩ ?_
 rintro s w' ⟨k,T',f,L',JQ,JM,rfl,hk,D',fC,hr⟩;refine Split.dec (fun cJ=>?_) (fun gu=>?_)
 ·simp only at cJ
  have Bj:k<xd.ch.length:=by omega
  obtain⟨ci,XP⟩:∃ci,xd.ch[k]? =some ci:=⟨_,List.getElem?_eq_getElem Bj⟩;have mV:ci∈xd.ch:=List.mem_of_getElem? XP;have hck:ci∈kids (bS T0) x:=mW▸mV;have qR:ci<T0.length:=by have:=(hU hP hck).2;omega
  have hxc:=xp ci mV;have DL:=uo hP (n:=ci) (by omega);have ahR:=wL (P:=bS T0) ci;have TK:=Xw.trans fC.nQ;obtain⟨cd,jL⟩:=fQ (T:=T') (i:=ci) (by rw [TK.len];exact qR);have Vo:cd.parent=x:=by
   have h1:=kZ jL;rw [TK.bS,dS.1 hck]at h1;exact(Option.some.inj h1).symm
  have Z5:sz (bS T0) ci<=sz (bS T0) x:=by
   have:=Ot (l:=xd.ch.map (sz (bS T0))) (a:=sz (bS T0) ci) (List.mem_map.2 ⟨ci,mV,rfl⟩);omega
  have VF:0<=(ci:Int)/\(ci:Int)<(T0.length:Int):=⟨by omega,by omega⟩;have jz:0<=(x:Int)/\(x:Int)<(T0.length:Int):=⟨by omega,by omega⟩;have abf:half<4611686018427387904:=by omega
  obtain⟨bch,abT⟩:=Row.some hr (by omega);subst abT;refine⟨⟨by simp only;omega,by simp only;omega⟩,_,by simp only [mB,Int.toNat_natCast,Nat.mul_one];exact Row.cell hr (z8 XP),by decide,VF,D'.Dm qR ?_⟩;rw [yP];refine wy half (sz (bS T0) ci) (by omega) (by omega) ⟨_,_,rfl,jz,D'.Dm tK ?_⟩;have Uz:(half*sz (bS T0) ci/18446744073709551616)*18446744073709551616+half*sz (bS T0) ci%18446744073709551616=half*sz (bS T0) ci:=Nat.div_add_mod' _ _;have abe:half*sz (bS T0) ci/18446744073709551616<sz (bS T0) x:=by
   have:half*sz (bS T0) ci<18446744073709551616*sz (bS T0) ci:=Nat.mul_lt_mul_of_pos_right (by omega) DL;have:half*sz (bS T0) ci/18446744073709551616<sz (bS T0) ci:=Nat.div_lt_of_lt_mul this;omega
  refine wA _ _ (sz (bS T0) x) (Nat.mod_lt _ (by omega)) (by omega) abe fun r w90 k90=>?_;rw [Uz];generalize hm:half*sz (bS T0) ci/sz (bS T0) x=more;have hmx:more*sz (bS T0) x<=half*sz (bS T0) ci:=by rw [<-hm];exact Nat.div_mul_le_self _ _
  have aiA:more<=half:=by
   rw [<-hm];apply Nat.div_le_of_le_mul;rw [Nat.mul_comm];exact Nat.mul_le_mul_right _ Z5
  have D90:=D'.quiet k90;have aag:=Row.aG hr k90 (fun _ _ h=>h);refine⟨_,_,rfl,VF,D90.Dm qR ?_⟩;rw [fH (x:=(sz (bS T0) ci:Int)+(more:Int)) (by omega) (by omega)];have yq:=fC.bound (by omega) jt (by
   have h1:(((xd.ch.take k).map (sz (bS T0))).sum)<=(xd.ch.map (sz (bS T0))).sum:=by
    conv=>rhs;rw [<-List.take_append_drop k xd.ch,List.map_append,List.sum_append]
    omega
   omega)
  have lh:=fC.lo;have h1:(((xd.ch.take k).map (sz (bS T0))).sum)<=(xd.ch.map (sz (bS T0))).sum:=by
   conv=>rhs;rw [<-List.take_append_drop k xd.ch,List.map_append,List.sum_append]
   omega
  refine uk D90.tv jL fC.here Vo (by omega) (by simp only;omega) (by omega) (by simp only;omega) fun w96 L96 h96 k96=>⟨rfl,?_⟩;have D96:=D90.wrote k96 h96;have aae:=Row.aG aag k96 (fun k e e2=>(Vq k e).2 e2);intro w97;have Z0:(xd.ch.take k).length<=1000000:=by rw [List.length_take];omega
  obtain⟨RU,RI,Q0,Z8,D99,Xg⟩:=D96.push (by rw [List.length_append];omega) ci (w1:=w97) rfl;have aad:=Row.aG aae (Xg (fun k=>B1<=k) (fun k e=>(Row.bE D96.rq e).1)) (fun k e e2=>by have:=D.hS k (Vq k e).1;have:=D.hB;omega);refine⟨RU,_,RI,Q0,Z8,?_⟩;rw [gN (x:=(k:Int)+1) (by omega) (by omega)];refine⟨(RU,nq+(k+1),RI,((k+1:Nat):Int)),rfl,⟨k+1,_,_,L96,RU,RI,rfl,Bj,?_,fC.step (more:=(more:Int)) KU xp XP jL (by omega) ?_ DL,aad⟩,by simp only;omega⟩
  ·rw [nO XP,<-List.append_assoc]
   exact D99
  ·have:((more*sz (bS T0) x:Nat):Int)<=((half*sz (bS T0) ci:Nat):Int):=by omega
   rwa [Int.natCast_mul,Int.natCast_mul]at this
 ·simp only at gu
  have:k=xd.ch.length:=by omega
  subst this;rw [aO,ax.xK];rw [List.take_length]at D';exact hex w' T' f L' JQ JM D' fC
end
theorem Hk:∀(n:Nat) (q:List Nat),q.Nodup->(∀y,y∈q->y<n)->q.length<=n:=by
 intro n
 induction n with
 |zero=>
  intro q _ h;cases q with
  |nil=>simp
  |cons a q=>exact absurd (h a (by simp)) (by omega)
 |succ n ih=>
  intro q hn h;by_cases hm:n∈q
  ·have h1:=List.length_erase_of_mem hm
   have h2:=ih (q.erase n) (hn.erase n) (fun y hy=>by
    have:=(List.Nodup.mem_erase_iff hn).1 hy;have:=h y this.2;omega)
   omega
  ·have:=ih q hn (fun y hy=>by
    have:=h y hy;have:y≠n:=fun e=>hm (e▸hy);omega)
   omega
section
variable{w0 w:World}{S:Nat->Prop}{g b c B0:Nat}{d:Int}{As:Option Addr}{L:List (Nd×Value)}{T:List Nd}{K:Value->World->Prop}
theorem CG{T0:List Nd}{m:Nat}{md:Nd}
 (htv:TV w S g T0 d b c L) (hrs:Row w B0 iL 1 As T0.length T0.length (us (sz (bS T0)) T0.length)) (UO:Kept S w0 w) (hSB:∀k,S k->k<B0) (TE:w0.heap.size<=B0) (hBw:B0<=w.heap.size)
 (hS:Shape T0) (hlen:T0.length<=1000000) (xo:T0[m]? =some md) (h1:1<=md.lo) (h2:md.hi<=4611686018427387904) (h3:(sz (bS T0) m:Int)<=md.hi-md.lo+1)
 (hK:∀w' T' q i,oT w' S g T' d->nI (bS T0) T0 m T' q i->q.length<=i->Kept S w0 w'->K (.tuple #[]) w'):
 ax.cH (some ⟨g,0,none⟩) m As T0.length T0.length K w:=by
 have hP:=hS.par;have qG:=eV T0;have Lb:m<T0.length:=(lgeS xo).1;unfold ax.cH;intro jO;have nM:Kept Nil w jO:=(Kept.refl Nil w).alloc _;have mU:jO.heap[w.heap.size]? =some (.cells #[.int .i64 (m:Int)] jI (0,0)):=aI w _;have D35:Dl w0 S g b c B0 w.heap.size T0.length (bS T0) d As jO T0 L (some ⟨w.heap.size,0,none⟩) 1 1 [m]:= {
  tv:=htv.kept nM
  rs:=Row.aG hrs nM (fun _ _ h=>h)
  sb:=fun k e=>by obtain⟨_,_,hc⟩:=Row.bE hrs e;exact aT hc
  rq:=Row.made (n:=1) (cur:= #[.int .i64 (m:Int)]) mU (Nat.le_refl _) rfl (by decide)
  kp:=UO.trans nM (fun _ _ h=>h.elim)
  hS:=hSB
  hB:=hBw
  IM:=nM.size
  h0:=TE}
 clear_value jO;generalize IM:w.heap.size=B1 at*;refine ax.gC (I:=fun s w'=>∃(i:Nat) (T':List Nd) (L':List (Nd×Value)) (Aq:Option Addr) (nq cq:Nat) (q:List Nat),s=(Aq,nq,cq,(i:Int))/\i<=q.length/\
  Dl w0 S g b c B0 B1 T0.length (bS T0) d As w' T' L' Aq nq cq q/\nI (bS T0) T0 m T' q i)
  (μ:=fun s _=>((T0.length:Int)-s.2.2.2).toNat) (s:=(some ⟨B1,0,none⟩,1,1,0)) ⟨0,T0,L,_,1,1,[m],rfl,Nat.zero_le _,D35,nI.start (by omega) xo h1 h2 h3⟩ ?_
 rintro s w' ⟨i,T',L',Aq,nq,cq,q,rfl,hi,D,hO⟩;have hnq:=D.Ki;have DO:q.length<=T0.length:=Hk _ _ hO.nodup (fun y hy=>by have:=(hO.oS y hy).lt;omega);refine Split.dec (fun cJ=>?_) (fun gu=>?_)
 ·simp only at cJ
  have dP:i<q.length:=by omega
  obtain⟨x,hqx⟩:∃x,q[i]? =some x:=⟨_,List.getElem?_eq_getElem dP⟩;have HX:x∈q:=List.mem_of_getElem? hqx;have tK:x<T0.length:=by have:=(hO.oS x HX).lt;omega
  obtain⟨xd,Jy⟩:=fQ (T:=T') (i:=x) (by rw [hO.nQ.len];exact tK);have tm:=hO.room x xd HX Jy;have jt:=uo hP (n:=x) (by omega);have Z1:=wL (P:=bS T0) x;have hlT:T'.length=T0.length:=hO.nQ.len;have jz:0<=(x:Int)/\(x:Int)<(T'.length:Int):=⟨by omega,by omega⟩;refine⟨⟨by simp only;omega,by simp only;omega⟩,D.Sm hqx ?_⟩;intro El;have RT:=D.quiet (w':=El) (Kept.refl Nil w').drew;clear_value El;obtain⟨v,hv⟩:=RT.tv.at_ Jy;obtain⟨wr,h50⟩:=RT.tv.uw hv (j:=4) (by omega) (u:=.int .u64 xd.lo) (nd':= {xd with free:=xd.lo}) rfl rfl;refine RT.tv.go (RT.tv.go ⟨jz,RT.tv.vu hv ⟨jz,by rw [oO];exact wr,?_⟩⟩);intro Js GH;have e50:Js=El.setCell ⟨b,x*5+4,none⟩ (.int .u64 xd.lo):=by simp only [Js,oO,Int.toNat_natCast]
  rw [<-e50]at h50;have Re:Kept (fun k=>k=b) El Js:=by rw [e50];exact(Kept.refl (fun k=>k=b) El).setCell (p:=⟨b,x*5+4,none⟩) (fun _=>rfl) _
  have JP:=(RT.wrote Re h50).quiet (w':=GH) (Kept.refl Nil Js).drew;clear_value GH;have v1:(L'.set x ({xd with free:=xd.lo},v))[x]? =some ({xd with free:=xd.lo},v):=iJ hv;obtain⟨W6,Xb,hk⟩:=JP.tv.qD _ _ v1;have vk:(T'.set x {xd with free:=xd.lo}).length=T'.length:=by simp
  have Qh:0<=(x:Int)/\(x:Int)<((T'.set x {xd with free:=xd.lo}).length:Int):=by rw [vk];exact jz
  have XR:0<=(x:Int)/\(x:Int)<(T0.length:Int):=⟨by omega,by omega⟩;refine JP.tv.go ⟨Qh,JP.tv.AD v1 (JP.tv.go ⟨Qh,JP.tv.vu v1 ⟨XR,JP.Dm tK (JP.tv.go ⟨Qh,JP.tv.Wv v1 hk.val ?_⟩)⟩⟩)⟩;have Z4:ly T0 (T'.set x {xd with free:=xd.lo}):=hO.nQ.trans (ly.set (nd':= {xd with free:=xd.lo}) Jy rfl rfl);simp only;obtain⟨cur,RB⟩:=JP.tv.vN;generalize hhf:((xd.hi-xd.lo-((sz (bS T0) x:Int)-1)).toNat /2)=half;refine CH (half:=half) (xd:= {xd with free:=xd.lo}) JP hS Z4 hlen (by omega) (iJ Jy) rfl (by simp only;omega) (by simp only;omega) (by simp only;omega) ?_ hk.row (fun k e=>⟨hk.kz k e,fun e2=>hk.ne RB (by decide) (by rw [e,e2])⟩) ?_
  ·rw [fH (x:=xd.hi-xd.lo) (by omega) (by omega),fH (x:=(sz (bS T0) x:Int)-1) (by omega) (by omega),fH (x:=xd.hi-xd.lo-((sz (bS T0) x:Int)-1)) (by omega) (by omega),
    Int.tdiv_eq_ediv_of_nonneg (by omega),fH (by omega) (by omega)]
   omega
  ·intro w2 T2 f L2 RU RI D2 fC
   rw [gN (x:=(i:Int)+1) (by omega) (by omega)];refine⟨(RU,nq+xd.ch.length,RI,((i+1:Nat):Int)),rfl,⟨i+1,T2,L2,RU,_,RI,q++xd.ch,rfl,by rw [List.length_append];omega,D2,hO.step hS hqx Jy (by omega) (by omega) fC⟩,by simp only;omega⟩
 ·simp only at gu
  rw [aO,ax.jA];exact hK w' T' q i ⟨_,_,_,D.tv⟩ hO (by omega) D.kp
theorem TV.YK(h:TV w S g T d b c L)(d':Int):Wr w ⟨g,1,none⟩/\TV (w.setCell ⟨g,1,none⟩ (.int .i64 d')) S g T d' b c L:=by
 have kG:Kept (fun k=>k=g) w (w.setCell ⟨g,1,none⟩ (.int .i64 d')):=(Kept.refl (fun k=>k=g) w).setCell (p:=⟨g,1,none⟩) (fun _=>rfl) _;refine⟨dO h.top (show 1<2 by omega),?_⟩;exact {
  top:=by
   have:=dc h.top 1 (.int .i64 d');simpa using this
  fst:=h.fst
  row:=Row.aG h.row kG (fun k e e2=>h.gb (by cases e;exact e2.symm))
  qD:=fun i p hp=>by
   obtain⟨A,m,hk⟩:=h.qD i p hp;exact⟨A,m,hk.val,Row.aG hk.row kG (fun k e e2=>hk.ne h.top (by decide) (by rw [e,e2])),hk.kz⟩
  apart:=h.apart
  gY:=h.gY
  fY:=h.fY}
set_option maxRecDepth 100000 in
theorem Ex(h:oT w S g T d)(hS:Shape T)(hlen:T.length<=1000000){p:Nat}(hp:p<T.length)(hd:0<=d/\d<=1000000)
 (TU:∀nd,T[0]? =some nd->nd.lo=1/\nd.hi=4611686018427387904)
 (XG:∀y nd,T[y]? =some nd->jZ (bS T) p y->Iv nd)
 (hK:∀w' T' m q i,oT w' S g T' (d+1)->jZ (bS T) p m->nI (bS T) T m T' q i->q.length<=i->Kept S w w'->K (.tuple #[]) w'):
 bk prog ax.id #[.pointer (some ⟨g,0,none⟩),.int .i64 p] w K:=by
 have hP:=hS.par;have qG:=eV T;obtain⟨b,c,L,h⟩:=h;have hb:=h.bound;obtain⟨wr,h6⟩:=hb.YK (d+1);refine ax.of (h.goD ⟨by rw [mB];exact wr,?_⟩);intro w6;have e6:w6=w.setCell ⟨g,1,none⟩ (.int .i64 (d+1)):=by simp only [w6,mB,gN (x:=d+1) (by omega) (by omega)]
 rw [<-e6]at h6;have k6:Kept (fun k=>S k/\k<w.heap.size) w w6:=by rw [e6];exact(Kept.refl _ w).setCell (p:=⟨g,1,none⟩) (fun _=>hb.gY) _
 have KW:w.heap.size=w6.heap.size:=by rw [e6];simp
 clear_value w6;refine Bw ⟨_,_,_,h6⟩ hP hlen fun w8 As Og k8=>⟨_,_,_,rfl,?_⟩;have h8:=h6.kept k8;refine ax.b9 (I:=fun s w'=>∃m:Nat,s=(m:Int)/\jZ (bS T) p m/\Kept Nil w8 w') (μ:=fun s _=>s.toNat) (s:=(p:Int)) ⟨p,rfl,.refl (by omega),Kept.refl _ _⟩ ?_;rintro s w' ⟨m,rfl,hu,kw⟩;have Lb:m<T.length:=by have:=hu.Xc;omega
 obtain⟨md,xo⟩:=fQ Lb;have hm:=XG m md xo hu;have MV:=hm.Y7;have Lc:=hm.le;have hm3:=hm.top;unfold ax.B1;intro lV;have rI:Kept Nil w8 lV:=kw.drew;have D6:=h8.kept rI;have wS:=Row.aG Og rI (fun _ _ h=>h);have jE:=kZ xo;have ahO:=wL (P:=bS T) m;have yp:0<=(m:Int)/\(m:Int)<(T.length:Int):=⟨by omega,by omega⟩;obtain⟨v,hv⟩:=D6.at_ xo;have done:(sz (bS T) m:Int)<=md.hi-md.lo+1->ax.q1 K (.exit 0) [(0,.pointer (some ⟨g,0,none⟩)),(1,.int .i64 m),(4,.slice As T.length T.length)] lV:=by
  intro tm;rw [ax.df];have k8':Kept (fun k=>S k/\k<w.heap.size) w lV:=(k6.trans k8 (fun _ _ h=>h.elim)).trans rI (fun _ _ h=>h.elim);refine CG D6 (B0:=w.heap.size) (Row.base wS (fun k e=>by rw [KW];exact(Row.bE wS e).1)) k8' (fun k h=>h.2) (Nat.le_refl _) k8'.size hS hlen xo MV hm3 tm ?_;intro w2 T2 q i h2 hO hq k2;exact hK w2 T2 m q i (h2.mono (fun k h=>h.1)) hu hO hq (k2.mono (fun k _ h=>h.1))
 refine D6.go ⟨yp,D6.IU hv (Split.dec (fun jt=>?_) (fun ym=>?_))⟩
 ·obtain⟨bs,XR⟩:=Row.some wS (by omega)
  subst XR;refine D6.go ⟨yp,D6.AD hv (D6.go ⟨yp,D6.vu hv ⟨by decide,yp,_,by rw [mB,Int.toNat_natCast,Nat.mul_one];exact Row.cell wS (oV _ Lb),?_⟩⟩)⟩;rw [fH (x:=md.hi-md.lo) (by omega) (by omega),fH (x:=md.hi-md.lo+1) (by omega) (by omega),Int.tdiv_eq_ediv_of_nonneg (by omega),fH (x:=(md.hi-md.lo+1)/4) (by omega) (by omega)];refine Split.dec (fun cJ=>?_) (fun gu=>?_)
  ·have Rv:0<m:=by
    rcases Nat.eq_zero_or_pos m with rfl|h
    ·rw [hP.root]at jE;have:=Option.some.inj jE;omega
    ·exact h
   obtain⟨z,hz,ez⟩:=hP.up m _ Rv jE;refine D6.go ⟨yp,D6.IU hv ?_⟩;rw [ez];exact⟨(z:Int),rfl,⟨z,rfl,hu.trans (.step (by rw [jE,ez]) (.refl (by omega))),rI⟩,by simp only;omega⟩
  ·rw [aO]
   exact done (by omega)
 ·have Rv:m=0:=by
   rcases Nat.eq_zero_or_pos m with h|h
   ·exact h
   ·obtain⟨z,_,ez⟩:=hP.up m _ h jE
    omega
  subst Rv;have:=TU md xo;rw [aO];exact done (by omega)
end
structure wI(T:List Nd):Prop extends Good T where
 root:∀nd,T[0]? =some nd->nd.lo=1/\nd.hi=4611686018427387904
theorem BK:wI qk:=by
 have gD:∀(i:Nat) nd,qk[i]? =some nd->i=0/\nd=⟨-1,[],1,4611686018427387904,1⟩:=by
  intro i nd h;cases i with
  |zero=>simp [qk]at h;exact⟨rfl,h.symm⟩
  |succ i=>simp [qk]at h
 exact {
  par:=⟨rfl,fun i p hi h=>by
   cases i with
   |zero=>omega
   |succ i=>simp [bS,qk]at h⟩
  ch:=fun i nd h=>by
   obtain⟨rfl,rfl⟩:=gD i nd h;simp [kids,bS,qk]
  iv:=fun i nd h=>by
   obtain⟨rfl,rfl⟩:=gD i nd h;exact⟨by decide,by decide,by decide⟩
  loc:=fun i nd h=>by
   obtain⟨rfl,rfl⟩:=gD i nd h;exact⟨by decide,by decide,fun c cd hc=>by simp at hc,fun c c' cd vI hc=>by simp at hc⟩
  root:=fun nd h=>by
   obtain⟨_,rfl⟩:=gD 0 nd h;exact⟨rfl,rfl⟩}
section
variable{T:List Nd}{p:Nat}{pd:Nd}
theorem Gd(hp:T[p]? =some pd)(i:Nat):(added T p pd)[i]? =if i=p then some {pd with ch:=pd.ch++ [T.length],free:=pd.free+jf pd}else if i=T.length then some ⟨p,[],pd.free,pd.free+jf pd-1,pd.free⟩else T[i]? :=by
 have cJ:p<T.length:=(lgeS hp).1;unfold added;rw [xw (by rw [ju hp,if_neg (by omega),if_pos rfl]) (by rw [ju hp,if_pos rfl]) (by omega),ju hp];split
 ·rfl
 ·split
  ·rfl
  ·rfl
theorem vP(hp:T[p]? =some pd):ly (grown T p pd) (added T p pd):=by
 have cJ:p<T.length:=(lgeS hp).1;exact vr _ (by rw [ju hp,if_neg (by omega),if_pos rfl]) (by rw [ju hp,if_pos rfl]) (by omega)
theorem Shape.QK(h:Shape T){i:Nat}{nd:Nd}(hi:T[i]? =some nd){c:Nat}(hc:c∈nd.ch):i<c/\c<T.length:=by
 rw [h.ch i nd hi]at hc;have:=hU h.par hc
 rwa [eV]at this
theorem wI.added(h:wI T)(hp:T[p]? =some pd)(tm:pd.free<pd.hi):wI (added T p pd):=by
 have cJ:p<T.length:=(lgeS hp).1;have gD:=Gd hp;have O1:=h.iv p pd hp;have i1:=O1.Y7;have i2:=O1.le;have i3:=O1.top;have lp:=h.loc p pd hp;have l1:=lp.Gv;have l2:=lp.CF;have hh1:1<=jf pd:=by unfold jf;omega
 have hh2:pd.free+jf pd<=pd.hi:=by unfold jf;omega
 have hold:∀(c:Nat) cd,c<T.length->(Go.Proofs.YtfleamccglihoaaGreatDoor.Tr.added T p pd)[c]? =some cd->∃ed,T[c]? =some ed/\ed.lo=cd.lo/\ed.hi=cd.hi:=by
  intro c cd hc jL;rw [gD]at jL;by_cases e:c=p
  ·subst e
   rw [if_pos rfl]at jL;cases jL;exact⟨pd,hp,rfl,rfl⟩
  ·rw [if_neg e,if_neg (by omega)]at jL
   exact⟨cd,jL,rfl,rfl⟩
 have mU:∀cd,(Go.Proofs.YtfleamccglihoaaGreatDoor.Tr.added T p pd)[T.length]? =some cd->cd=⟨p,[],pd.free,pd.free+jf pd-1,pd.free⟩:=by
  intro cd jL;rw [gD,if_neg (by omega),if_pos rfl]at jL;exact(Option.some.inj jL).symm
 have aG:∀(i:Nat) nd,T[i]? =some nd->Loc (Go.Proofs.YtfleamccglihoaaGreatDoor.Tr.added T p pd) nd:=by
  intro i nd hi;have hl:=h.loc i nd hi;have hc:=fun c hc=>(h.toShape.QK hi (c:=c) hc).2;exact {
   Gv:=hl.Gv
   CF:=hl.CF
   sub:=fun c cd mV jL=>by
    obtain⟨ed,h1,h2,h3⟩:=hold c cd (hc c mV) jL;have:=hl.sub c ed mV h1;omega
   ord:=fun c c' cd vI mV oK Al jL qI=>by
    obtain⟨ed,h1,h2,h3⟩:=hold c cd (hc c mV) jL;obtain⟨QI,qS,tO,Bm⟩:=hold c' vI (hc c' oK) qI;have:=hl.ord c c' ed QI mV oK Al h1 qS;omega}
 have hs:=(vP hp).shape (h.toShape.grown hp);refine {toShape:=hs,iv:=?_,loc:=?_,root:=?_}
 ·intro i nd hi
  rw [gD]at hi;by_cases e:i=p
  ·rw [if_pos e]at hi
   cases hi;exact⟨i1,i2,i3⟩
  ·rw [if_neg e]at hi
   by_cases e2:i=T.length
   ·rw [if_pos e2]at hi
    cases hi;exact⟨by simp only;omega,by simp only;omega,by simp only;omega⟩
   ·rw [if_neg e2]at hi
    exact h.iv i nd hi
 ·intro i nd hi
  rw [gD]at hi;by_cases e:i=p
  ·rw [if_pos e]at hi
   cases hi;have kp:=aG p pd hp;have hc:=fun c hc=>(h.toShape.QK hp (c:=c) hc).2;exact {
    Gv:=by simp only;omega
    CF:=hh2
    sub:=fun c cd mV jL=>by
     simp only at mV;rcases List.mem_append.1 mV with mV|mV
     ·have:=kp.sub c cd mV jL
      simp only;omega
     ·simp at mV
      subst mV;have:=mU cd jL;subst this;simp only;omega
    ord:=fun c c' cd vI mV oK Al jL qI=>by
     simp only at mV oK;rcases List.mem_append.1 mV with mV|mV
     ·rcases List.mem_append.1 oK with oK|oK
      ·exact kp.ord c c' cd vI mV oK Al jL qI
      ·simp at oK
       subst oK;have:=mU vI qI;subst this;exact(kp.sub c cd mV jL).2
     ·simp at mV
      rcases List.mem_append.1 oK with oK|oK
      ·have:=hc c' oK
       omega
      ·simp at oK
       omega}
  ·rw [if_neg e]at hi
   by_cases e2:i=T.length
   ·rw [if_pos e2]at hi
    cases hi;exact⟨by simp only;omega,by simp only;omega,fun c cd hc=>by simp at hc,fun c c' cd vI hc=>by simp at hc⟩
   ·rw [if_neg e2]at hi
    exact aG i nd hi
 ·intro nd hi
  obtain⟨ed,h1,h2,h3⟩:=hold 0 nd h.toShape.pos hi;have:=h.root ed h1;omega
theorem wI.I1(h:wI T)(hp:T[p]? =some pd){m i:Nat}{T':List Nd}{q:List Nat}(hu:jZ (bS (grown T p pd)) p m)
 (hO:nI (bS (grown T p pd)) (grown T p pd) m T' q i) (hq:q.length<=i):wI T':=by
 have cJ:p<T.length:=(lgeS hp).1;have gD:=ju hp;have hS:=h.toShape.grown hp;have hP:=hS.par;have hold:∀(c:Nat) cd,c<T.length->(grown T p pd)[c]? =some cd->∃ed,T[c]? =some ed/\ed.lo=cd.lo/\ed.hi=cd.hi:=by
  intro c cd hc jL;rw [gD]at jL;by_cases e:c=p
  ·subst e
   rw [if_pos rfl]at jL;cases jL;exact⟨pd,hp,rfl,rfl⟩
  ·rw [if_neg e,if_neg (by omega)]at jL
   exact⟨cd,jL,rfl,rfl⟩
 have Rt:(bS (grown T p pd))[T.length]? =some (p:Int):=by
  rw [mq hp,List.getElem?_append_right (by rw [eV];exact Nat.le_refl _)];simp [eV]
 have fy:=nI.fin hS hO hq (fun y nd hy hn=>by
  rw [gD]at hy;have e:y≠p:=fun e=>hn (e▸hu);rw [if_neg e]at hy;have e2:y≠T.length:=fun e=>hn (e▸ .step Rt hu);rw [if_neg e2]at hy;refine⟨h.iv y nd hy,?_⟩;have hl:=h.loc y nd hy;have hc:=fun c hc=>(h.toShape.QK hy (c:=c) hc).2;exact {
   Gv:=hl.Gv
   CF:=hl.CF
   sub:=fun c cd mV jL=>by
    obtain⟨ed,h1,h2,h3⟩:=hold c cd (hc c mV) jL;have:=hl.sub c ed mV h1;omega
   ord:=fun c c' cd vI mV oK Al jL qI=>by
    obtain⟨ed,h1,h2,h3⟩:=hold c cd (hc c mV) jL;obtain⟨QI,qS,tO,Bm⟩:=hold c' vI (hc c' oK) qI;have:=hl.ord c c' ed QI mV oK Al h1 qS;omega})
 refine {toGood:=fy,root:=fun nd hi=>?_};obtain⟨gd,hgd,_⟩:=hO.nQ.back hi;obtain⟨ed,h1,h2,h3⟩:=hold 0 gd h.toShape.pos hgd;have hr:=h.root ed h1;by_cases hm:0∈q
 ·have:=(hO.oS 0 hm).le hP
  have Rv:m=0:=by omega
  subst Rv;have:=hO.top gd nd hgd hi;omega
 ·rw [hO.rest 0 hm,hgd]at hi
  cases hi;omega
end
section
variable{w:World}{S:Nat->Prop}{g:Nat}{T:List Nd}{d:Int}{K:Value->World->Prop}
theorem GR(h:oT w S g T d)(hF:wI T){p:Nat}(hp:p<T.length)(hlen:T.length<=900000)(hd:0<=d/\d<=900000)
 (hK:∀w' S' T' d',oT w' S' g T' d'->wI T'->bS T'=bS T++ [(p:Int)]->d<=d'/\d'<=d+1->Kept S w w'->(∀k,S' k->S k\/w.heap.size<=k)->K (.tuple #[.int .i64 T.length,.int .i64 0]) w'):
 bk prog gm.id #[.pointer (some ⟨g,0,none⟩),.int .i64 p] w K:=by
 obtain⟨pd,yk⟩:=fQ hp;have O1:=hF.iv p pd yk;have i1:=O1.Y7;have i2:=O1.le;have i3:=O1.top;have lp:=hF.loc p pd yk;have l1:=lp.Gv;have l2:=lp.CF;have mW:pd.ch.length<=T.length:=by
  rw [hF.ch p pd yk];have:=zR (bS T) p
  rwa [eV]at this
 refine um h yk (by omega) (by omega) (by omega) l2 i3 (fun tm w' S' h' k' f'=>?_) (fun ae9 w' S' h' k' f'=>?_)
 ·exact hK w' S' _ d h' (hF.added yk tm) (by rw [(vP yk).bS,mq yk]) ⟨by omega,by omega⟩ k' f'
 ·have hS:=hF.toShape.grown yk
  have gD:=ju yk;have jE:=hS.par;refine Ex h' hS (by rw [xu];omega) (by rw [xu];omega) ⟨hd.1,by omega⟩ (fun nd hi=>?_) (fun y nd hy hu=>?_) (fun w2 T2 m q i h2 hu hO hq k2=>⟨rfl,?_⟩)
  ·rw [gD]at hi
   by_cases e:0=p
   ·rw [if_pos e]at hi
    cases hi;exact hF.root pd (by rw [e];exact yk)
   ·rw [if_neg e,if_neg (by omega)]at hi
    exact hF.root nd hi
  ·have:=hu.le jE
   rw [gD]at hy;by_cases e:y=p
   ·rw [if_pos e]at hy
    cases hy;exact⟨i1,i2,i3⟩
   ·rw [if_neg e,if_neg (by omega)]at hy
    exact hF.iv y nd hy
  ·refine hK w2 S' T2 (d+1) h2 (hF.I1 yk hu hO hq) (by rw [hO.nQ.bS,mq yk]) ⟨by omega,by omega⟩ ?_ f'
   exact k'.trans k2 (fun k hk hs=>by
    rcases f' k hs with h|h
    ·exact h
    ·omega)
end
def zs(l:List Int):List Value:=l.map fun x=>.int .i64 x
section
variable{w w':World}{S S':Nat->Prop}{h:Nat}{P:List Int}{b c:Nat}{K:Value->World->Prop}
end
def iO(P:List Int)(n i:Nat):List Nat:=(List.range i).filter fun j=>P[j]? ==some (n:Int)
section
variable{w w':World}{S S':Nat->Prop}{h:Nat}{P:List Int}{b c:Nat}{K:Value->World->Prop}
end
section
variable{w w':World}{S S':Nat->Prop}{g:Nat}{T:List Nd}{d:Int}{K:Value->World->Prop}
end
end Go.Proofs.YtfleamccglihoaaGreatDoor.Tr
