import Derived.Test.YtfleamccglihoaaGreatDoorMA
import Derived.Test.YtfleamccglihoaaGreatDoorMD
import Derived.Laws.OwnMore
import Derived.Test.YtfleamccglihoaaGreatDoorMG
import Derived.Laws.Bits64b
open Go.IntKind (i64 u64)
set_option linter.unusedVariables false
namespace Go.Proofs.YtfleamccglihoaaGreatDoor.Tr
open Go.Proofs.Tryz
open Go Go.bW Go.RowKit
structure Nd where
 parent:Int
 ch:List Nat
 lo:Int
 hi:Int
 free:Int
def jD(nd:Nd)(v:Value):List Value:= [.int .i64 nd.parent,v,.int .u64 nd.lo,.int .u64 nd.hi,.int .u64 nd.free]
def o0(L:List (Nd×Value)):List Value:=L.flatMap fun p=>jD p.1 p.2
def ints(l:List Nat):List Value:=l.map fun x:Nat=>.int .i64 (x:Int)
theorem tY(L:List (Nd×Value)):(o0 L).length=L.length*5:=by
 induction L with
 |nil=>rfl
 |cons p L ih=>simp only [o0,List.flatMap_cons,List.length_append,List.length_cons]at*;rw [ih];simp [jD];omega
theorem JL{L:List (Nd×Value)}{i:Nat}{p:Nd×Value}(h:L[i]? =some p){j:Nat}(hj:j<5):(o0 L)[i*5+j]? =(jD p.1 p.2)[j]? :=by
 induction L generalizing i with
 |nil=>simp at h
 |cons q L ih=>
  have hq:(jD q.1 q.2).length=5:=rfl;cases i with
  |zero=>
   simp at h;subst h;simp only [o0,List.flatMap_cons];rw [Nat.zero_mul,Nat.zero_add,List.getElem?_append_left (by omega)]
  |succ i=>
   simp at h;have:=ih h;simp only [o0,List.flatMap_cons]at*;rw [List.getElem?_append_right (by omega),hq,<-this]
   congr 1
   omega
theorem Bu{L:List (Nd×Value)}{i:Nat}{p p':Nd×Value}(h:L[i]? =some p){j:Nat}(hj:j<5){v:Value}(hp:jD p'.1 p'.2=(jD p.1 p.2).set j v):
 (o0 L).set (i*5+j) v=o0 (L.set i p'):=by
 induction L generalizing i with
 |nil=>simp at h
 |cons q L ih=>
  have hq:(jD q.1 q.2).length=5:=rfl;cases i with
  |zero=>
   simp at h;subst h;simp only [o0,List.flatMap_cons,List.set_cons_zero];rw [Nat.zero_mul,Nat.zero_add,List.set_append_left _ _ (by omega),hp]
  |succ i=>
   simp at h;have:=ih h;simp only [o0,List.flatMap_cons,List.set_cons_succ]at*;rw [List.set_append_right _ _ (by omega),hq,<-this]
   congr 2
   omega
structure X0(w:World)(S:Nat->Prop)(p:Nd×Value)(A:Option Addr)(m:Nat):Prop where
 val:p.2=.slice A p.1.ch.length m
 row:Row w 0 eW 1 A p.1.ch.length m (ints p.1.ch)
 lg:∀k,bn A=some k->S k
structure TV(w:World)(S:Nat->Prop)(g:Nat)(T:List Nd)(d:Int)(b c:Nat)(L:List (Nd×Value)):Prop where
 top:w.heap[g]? =some (.cells #[.slice (some ⟨b,0,none⟩) T.length c,.int .i64 d] uf (0,0))
 fst:L.map Prod.fst=T
 row:Row w 0 jA 5 (some ⟨b,0,none⟩) T.length c (o0 L)
 qY:∀(i:Nat) (p:Nd×Value),L[i]? =some p->∃A m,X0 w S p A m
 apart:∀(i j:Nat) (p q:Nd×Value),L[i]? =some p->L[j]? =some q->i≠j->∀k,Value.ownBlock p.2=some k->Value.ownBlock q.2≠some k
 iF:S g
 gI:S b
def pk(w:World)(S:Nat->Prop)(g:Nat)(T:List Nd)(d:Int):Prop:=∃b c L,TV w S g T d b c L
section
variable{w w':World}{S S':Nat->Prop}{g:Nat}{T:List Nd}{d:Int}{b c:Nat}{L:List (Nd×Value)}
theorem TV.at_(h:TV w S g T d b c L){i:Nat}{nd:Nd}(hi:T[i]? =some nd):∃v,L[i]? =some (nd,v):=by
 rw [<-h.fst,List.getElem?_map]at hi;cases hL:L[i]? with
 |none=>simp [hL]at hi
 |some p=>
  rw [hL]at hi;simp at hi;exact⟨p.2,by rw [<-hi]⟩
theorem TV.nodes(h:TV w S g T d b c L):w.cell? ⟨g,0,none⟩=some (.slice (some ⟨b,0,none⟩) T.length c):=by rw [aD h.top];rfl
theorem TV.JO(h:TV w S g T d b c L):w.cell? ⟨g,1,none⟩=some (.int .i64 d):=by rw [aD h.top];rfl
theorem TV.cell(h:TV w S g T d b c L){i:Nat}{p:Nd×Value}(hi:L[i]? =some p){j:Nat}{v:Value}(hj:j<5)(hv:(jD p.1 p.2)[j]? =some v):w.cell? ⟨b,i*5+j,none⟩=some v:=
 Row.cell h.row (by rw [JL hi hj,hv])
theorem TV.gb(h:TV w S g T d b c L):g≠b:=by
 rintro rfl;obtain⟨_,cur,hc⟩:=Row.bL h.row (k:=g) rfl;rw [h.top]at hc;injection hc with hc;injection hc with _ ht;exact absurd ht (by decide)
theorem X0.ne{p:Nd×Value}{A:Option Addr}{m:Nat}(h:X0 w S p A m){k:Nat}{cs:Array Value}{t:TypeId}(hk:w.heap[k]? =some (.cells cs t (0,0)))(ht:t≠eW):bn A≠some k:=by
 intro e;obtain⟨_,cur,hc⟩:=Row.bL h.row e;rw [hk]at hc;injection hc with hc;injection hc with _ h2;exact ht h2
theorem TV.wF(h:TV w S g T d b c L):∃cur,w.heap[b]? =some (.cells cur jA (0,0)):=(Row.bL h.row rfl).2
theorem TV.aF{S0:Nat->Prop}(h:TV w S g T d b c L)(hk:Kept S0 w w')(hn:∀k,S k->¬S0 k):TV w' S g T d b c L:= {
 top:=hk.heap h.top (hn g h.iF)
 fst:=h.fst
 row:=Row.aF h.row hk (fun k e=>by cases e;exact hn b h.gI)
 qY:=fun i p hp=>let ⟨A,m,h1⟩:=h.qY i p hp;⟨A,m,h1.val,Row.aF h1.row hk (fun k e=>hn k (h1.lg k e)),h1.lg⟩
 apart:=h.apart
 iF:=h.iF
 gI:=h.gI}
theorem pk.aF{S0:Nat->Prop}(h:pk w S g T d)(hk:Kept S0 w w')(hn:∀k,S k->¬S0 k):pk w' S g T d:=
 let ⟨b,c,L,h⟩:=h;⟨b,c,L,h.aF hk hn⟩
theorem pk.same(h:pk w S g T d)(hk:Kept Nil w w'):pk w' S g T d:=h.aF hk fun _ _ h=>h
theorem TV.lt(h:TV w S g T d b c L):g<w.heap.size:=aU h.top
theorem TV.vc(h:TV w S g T d b c L){i:Nat}{nd nd':Nd}{v:Value}(hi:L[i]? =some (nd,v)){j:Nat}(hj:j<5){u:Value}
 (hc:jD nd' v=(jD nd v).set j u) (kQ:nd'.ch=nd.ch):
 Wr w ⟨b,i*5+j,none⟩/\TV (w.setCell ⟨b,i*5+j,none⟩ u) S g (T.set i nd') d b c (L.set i (nd',v)):=by
 have dS:i<L.length:=(lgeS hi).1;have cY:i*5+j<(o0 L).length:=by rw [tY];omega
 refine⟨Row.wr h.row cY,?_⟩;have fF:=Row.set h.row cY u;rw [Bu hi hj (p':=(nd',v)) hc]at fF;have hK:Kept (fun k=>k=b) w (w.setCell ⟨b,i*5+j,none⟩ u):=(Kept.refl (fun k=>k=b) w).setCell (p:=⟨b,i*5+j,none⟩) (fun _=>rfl) u;have gV:∀(k:Nat) (p:Nd×Value),(L.set i (nd',v))[k]? =some p->∃q,L[k]? =some q/\q.2=p.2/\q.1.ch=p.1.ch:=by
  intro k p hp;rw [List.getElem?_set]at hp;by_cases e:i=k
  ·subst e
   rw [if_pos rfl,if_pos dS]at hp;cases hp;exact⟨_,hi,rfl,kQ.symm⟩
  ·rw [if_neg e]at hp
   exact⟨p,hp,rfl,rfl⟩
 exact {
  top:=by rw [List.length_set];exact hK.heap h.top h.gb
  fst:=by rw [List.map_set,h.fst]
  row:=by rw [List.length_set];exact fF
  qY:=fun k p hp=>by
   obtain⟨q,hq,h1,h2⟩:=gV k p hp;obtain⟨A,m,hk⟩:=h.qY k q hq;obtain⟨cur,hb⟩:=h.wF;refine⟨A,m,by rw [<-h1,<-h2];exact hk.val,?_,hk.lg⟩;rw [<-h2];exact Row.aF hk.row hK (fun k e e2=>hk.ne hb (by decide) (by rw [e,e2]))
  apart:=fun k l p q hp hq BW=>by
   obtain⟨p',Ja,h1,_⟩:=gV k p hp;obtain⟨q',Bb,h2,_⟩:=gV l q hq;rw [<-h1,<-h2];exact h.apart k l p' q' Ja Bb BW
  iF:=h.iF
  gI:=h.gI}
end
theorem o7(b x y:Nat):((⟨b,0,none⟩:Addr).add x).add y=⟨b,x+y,none⟩:=by rw [bt,bt,Nat.zero_add]
theorem mQ(b x:Nat):(⟨b,0,none⟩:Addr).add x=⟨b,x,none⟩:=by rw [bt,Nat.zero_add]
section
variable{w:World}{S:Nat->Prop}{g:Nat}{T:List Nd}{d:Int}{b c:Nat}{L:List (Nd×Value)}
theorem TV.go(h:TV w S g T d b c L){k:Option Addr->Nat->Nat->Prop}(hk:k (some ⟨b,0,none⟩) T.length c):
 ∃A n m,w.cell? ((⟨g,0,none⟩:Addr).add 0)=some (.slice A n m)/\k A n m:=⟨_,_,_,by rw [mQ];exact h.nodes,hk⟩
theorem TV.goD(h:TV w S g T d b c L){k:Int->Prop}(hk:k d):∃t,w.cell? ((⟨g,0,none⟩:Addr).add 1)=some (.int .i64 t)/\k t:=
 ⟨_,by rw [mQ];exact h.JO,hk⟩
theorem TV.JH(h:TV w S g T d b c L){i:Nat}{nd:Nd}{v:Value}(hi:L[i]? =some (nd,v)){k:Int->Prop}(hk:k nd.parent):
 ∃t,w.cell? (((⟨b,0,none⟩:Addr).add (i*5)).add 0)=some (.int .i64 t)/\k t:=⟨_,by rw [o7];exact h.cell hi (by omega) rfl,hk⟩
theorem TV.Xu(h:TV w S g T d b c L){i:Nat}{nd:Nd}{v:Value}(hi:L[i]? =some (nd,v)){A:Option Addr}{m:Nat}(hv:v=.slice A nd.ch.length m){k:Option Addr->Nat->Nat->Prop}(hk:k A nd.ch.length m):
 ∃A n m,w.cell? (((⟨b,0,none⟩:Addr).add (i*5)).add 1)=some (.slice A n m)/\k A n m:=⟨_,_,_,by rw [o7];exact h.cell hi (by omega) (by rw [hv];rfl),hk⟩
theorem TV.wg(h:TV w S g T d b c L){i:Nat}{nd:Nd}{v:Value}(hi:L[i]? =some (nd,v)){k:Int->Prop}(hk:k nd.lo):
 ∃t,w.cell? (((⟨b,0,none⟩:Addr).add (i*5)).add 2)=some (.int .u64 t)/\k t:=⟨_,by rw [o7];exact h.cell hi (by omega) rfl,hk⟩
theorem TV.Bq(h:TV w S g T d b c L){i:Nat}{nd:Nd}{v:Value}(hi:L[i]? =some (nd,v)){k:Int->Prop}(hk:k nd.hi):
 ∃t,w.cell? (((⟨b,0,none⟩:Addr).add (i*5)).add 3)=some (.int .u64 t)/\k t:=⟨_,by rw [o7];exact h.cell hi (by omega) rfl,hk⟩
theorem TV.zc(h:TV w S g T d b c L){i:Nat}{nd:Nd}{v:Value}(hi:L[i]? =some (nd,v)){k:Int->Prop}(hk:k nd.free):
 ∃t,w.cell? (((⟨b,0,none⟩:Addr).add (i*5)).add 4)=some (.int .u64 t)/\k t:=⟨_,by rw [o7];exact h.cell hi (by omega) rfl,hk⟩
theorem TV.kept{w':World}(h:TV w S g T d b c L)(hk:Kept Nil w w'):TV w' S g T d b c L:=h.aF hk fun _ _ h=>h
end
section
variable{w:World}{S:Nat->Prop}{g:Nat}{T:List Nd}{d:Int}{K:Value->World->Prop}
theorem yu(h:pk w S g T d)(n:Int)(hK:K (.bool (decide (0<=n/\n<T.length))) w):
 bC prog iS.id #[.pointer (some ⟨g,0,none⟩),.int .i64 n] w K:=by
 obtain⟨b,c,L,h⟩:=h;refine iS.of (Split.yes rfl (Split.dec (fun h0=>h.go ?_) (fun h0=>?_)))
 ·rwa [show decide (0<=n/\n<(T.length:Int))=decide (n<(T.length:Int))from by simp [show(0:Int)<=n from h0]]at hK
 ·rwa [decide_eq_false (fun e:0<=n/\n<(T.length:Int)=>h0 e.1)]at hK
theorem Hw(h:pk w S g T d)(hT:0<T.length)(n:Int)(hK:K (.int .i64 (if 0<=n/\n<T.length then 0 else 6)) w):
 bC prog gM.id #[.pointer (some ⟨g,0,none⟩),.int .i64 n] w K:=by
 have h0:=h;obtain⟨b,c,L,h⟩:=h;refine gM.of (Split.no rfl (h.go (Split.no (beq_eq_false_iff_ne.2 (by omega)) (yu h0 n ⟨_,rfl,?_⟩))));by_cases hn:0<=n/\n<(T.length:Int)
 ·rw [if_pos hn]at hK
  exact Split.no (by simp [hn]) hK
 ·rw [if_neg hn]at hK
  exact Split.yes (by simp only [decide_eq_false hn];rfl) hK
theorem tC(h:pk w S g T d){n:Nat}(hn:n<T.length)(hK:K (.int .i64 0) w):
 bC prog gM.id #[.pointer (some ⟨g,0,none⟩),.int .i64 n] w K:=Hw h (by omega) n (by rw [if_pos ⟨by omega,by omega⟩];exact hK)
theorem Fe(h:pk w S g T d){n:Nat}{nd:Nd}(hn:T[n]? =some nd)(hK:∀w',Kept Nil w w'->K (.int .u64 (u64.wrap (nd.hi-nd.free))) w'):
 bC prog gg.id #[.pointer (some ⟨g,0,none⟩),.int .i64 n] w K:=by
 obtain⟨b,c,L,h⟩:=h;have cY:n<T.length:=(lgeS hn).1;obtain⟨v,hv⟩:=h.at_ hn;refine gg.of ?_;unfold gg.W;intro w1;have k1:Kept Nil w w1:=(Kept.refl Nil w).drew;have h1:=h.kept k1;have hb:0<=(n:Int)/\(n:Int)<(T.length:Int):=⟨by omega,by omega⟩;exact h1.go ⟨hb,h1.Bq hv (h1.go ⟨hb,h1.zc hv (hK w1 k1)⟩)⟩
theorem zO(h:pk w S g T d){n:Nat}{nd:Nd}(hn:T[n]? =some nd)(h0:0<n)(hK:K (.tuple #[.int .i64 nd.parent,.int .i64 0]) w):
 bC prog fN.id #[.pointer (some ⟨g,0,none⟩),.int .i64 n] w K:=by
 have cY:n<T.length:=(lgeS hn).1;refine fN.of (tC h cY ⟨_,rfl,Split.yes rfl (Split.no (beq_eq_false_iff_ne.2 (by omega)) (Split.no rfl ?_))⟩);obtain⟨b,c,L,h⟩:=h;obtain⟨v,hv⟩:=h.at_ hn;exact h.go ⟨⟨by omega,by omega⟩,h.JH hv hK⟩
theorem MO:zE prog jB eW 1 8:=⟨by kernel_rfl,by kernel_rfl⟩
theorem yw:zE prog iO jA 5 56:=⟨by kernel_rfl,by kernel_rfl⟩
end
theorem fT{x:Int}(h0:0<=x)(h1:x<18446744073709551616):u64.wrap x=x:=by
 simp only [IntKind.wrap,IntKind.bits,IntKind.signed];simp;omega
theorem gF{x:Int}(h0: -9223372036854775808<=x)(h1:x<9223372036854775808):i64.wrap x=x:=by
 simp only [IntKind.wrap,IntKind.bits,IntKind.signed];simp;omega
def we(T:List Nd)(n p:Nat)(nd pd:Nd)(many:Int):List Nd:=
 (T.set n {nd with lo:=pd.free,hi:=pd.free+many-1,free:=pd.free}).set p {pd with free:=pd.free+many}
section
variable{w:World}{S:Nat->Prop}{g:Nat}{T:List Nd}{d:Int}{K:Value->World->Prop}
theorem iZ{α:Type}{L:List α}{i:Nat}{x y:α}(h:L[i]? =some x):(L.set i y)[i]? =some y:=by
 rw [List.getElem?_set_self (lgeS h).1]
theorem oJ{α:Type}{L:List α}{i j:Nat}{x y:α}(h:L[j]? =some x)(fM:i≠j):(L.set i y)[j]? =some x:=by
 rw [List.getElem?_set_ne fM];exact h
theorem uU{b c:Nat}{L:List (Nd×Value)}(h:TV w S g T d b c L){n p:Nat}{nd pd:Nd}{many:Int}(hn:T[n]? =some nd)(hp:T[p]? =some pd)(Sf:nd.parent=p)(fM:n≠p)
 (hf:0<=pd.free) (hm:1<=many) (hfm:pd.free+many<18446744073709551616)
 (hK:∀w' L',TV w' S g (we T n p nd pd many) d b c L'->Kept (fun k=>k=b) w w'->K (.tuple #[]) w'):
 bC prog gh.id #[.pointer (some ⟨g,0,none⟩),.int .i64 n,.int .u64 many] w K:=by
 have yX:n<T.length:=(lgeS hn).1;have ry:p<T.length:=(lgeS hp).1;obtain⟨v,hv⟩:=h.at_ hn;obtain⟨u,hu⟩:=h.at_ hp;have YT:0<=(n:Int)/\(n:Int)<(T.length:Int):=⟨by omega,by omega⟩;have NY:0<=nd.parent/\nd.parent<(T.length:Int):=by rw [Sf];exact⟨by omega,by omega⟩
 refine gh.of (h.go ⟨YT,Is.mk rfl ?_⟩);intro w7;have k7:Kept (fun k=>k=b) w w7:=(Kept.refl _ w).drew;have h7:TV w7 S g T d b c L:=h.kept (Kept.refl Nil w).drew;refine h7.go (h7.JH hv ⟨NY,Is.mk rfl ?_⟩);rw [Sf];refine h7.zc hu ?_;obtain⟨Zx,EI⟩:=h7.vc hv (j:=2) (by omega) (u:=.int .u64 pd.free) (nd':= {nd with lo:=pd.free}) rfl rfl;have kS:∀ {w w':World},Kept (fun k=>k=b) w w'->∀(j:Nat) (u:Value),Kept (fun k=>k=b) w (w'.setCell ⟨b,j,none⟩ u):=fun k j u=>k.setCell (fun _=>rfl) u;have v1:(L.set n ({nd with lo:=pd.free},v))[n]? =some ({nd with lo:=pd.free},v):=iZ hv;refine⟨by rw [o7];exact Zx,?_⟩;intro mT;have e13:mT=w7.setCell ⟨b,n*5+2,none⟩ (.int .u64 pd.free):=by simp only [mT,o7,Int.toNat_natCast]
 have tQ:Kept (fun k=>k=b) w mT:=by rw [e13];exact kS k7 _ _
 rw [<-e13]at EI;clear_value mT;refine EI.wg v1 ?_;obtain⟨wr2,JF⟩:=EI.vc v1 (j:=3) (by omega) (u:=.int .u64 (u64.wrap (u64.wrap (pd.free+many)-1))) (nd':= {nd with lo:=pd.free,hi:=pd.free+many-1}) (by rw [fT (x:=pd.free+many) (by omega) (by omega),fT (by omega) (by omega)];rfl) rfl;refine⟨by rw [o7];exact wr2,?_⟩;intro nM;have e15:nM=mT.setCell ⟨b,n*5+3,none⟩ (.int .u64 (u64.wrap (u64.wrap (pd.free+many)-1))):=by simp only [nM,o7,Int.toNat_natCast]
 have tP:Kept (fun k=>k=b) w nM:=by rw [e15];exact kS tQ _ _
 rw [<-e15]at JF;clear_value nM;rw [List.set_set,List.set_set]at JF;have v2:(L.set n ({nd with lo:=pd.free,hi:=pd.free+many-1},v))[n]? =some ({nd with lo:=pd.free,hi:=pd.free+many-1},v):=iZ hv;refine JF.wg v2 ?_;obtain⟨Zw,Y4⟩:=JF.vc v2 (j:=4) (by omega) (u:=.int .u64 pd.free) (nd':= {nd with lo:=pd.free,hi:=pd.free+many-1,free:=pd.free}) rfl rfl;refine⟨by rw [o7];exact Zw,?_⟩;intro xA;have e17:xA=nM.setCell ⟨b,n*5+4,none⟩ (.int .u64 pd.free):=by simp only [xA,o7,Int.toNat_natCast]
 have Iy:Kept (fun k=>k=b) w xA:=by rw [e17];exact kS tP _ _
 rw [<-e17]at Y4;clear_value xA;rw [List.set_set,List.set_set]at Y4;have u3:(L.set n ({nd with lo:=pd.free,hi:=pd.free+many-1,free:=pd.free},v))[p]? =some (pd,u):=oJ hu fM;refine Y4.zc u3 ?_;obtain⟨wr4,h19⟩:=Y4.vc u3 (j:=4) (by omega) (u:=.int .u64 (u64.wrap (pd.free+many))) (nd':= {pd with free:=pd.free+many}) (by rw [fT (by omega) (by omega)];rfl) rfl;refine⟨by rw [o7];exact wr4,?_⟩;intro pf;have e19:pf=xA.setCell ⟨b,p*5+4,none⟩ (.int .u64 (u64.wrap (pd.free+many))):=by simp only [pf,o7,Int.toNat_natCast]
 exact hK pf _ (by rw [e19];exact h19) (by rw [e19];exact kS Iy _ _)
theorem Ff(h:pk w S g T d){n p:Nat}{nd pd:Nd}{many:Int}(hn:T[n]? =some nd)(hp:T[p]? =some pd)(Sf:nd.parent=p)(fM:n≠p)
 (hf:0<=pd.free) (hm:1<=many) (hfm:pd.free+many<18446744073709551616)
 (hK:∀w',pk w' S g (we T n p nd pd many) d->Kept S w w'->K (.tuple #[]) w'):
 bC prog gh.id #[.pointer (some ⟨g,0,none⟩),.int .i64 n,.int .u64 many] w K:=by
 obtain⟨b,c,L,h⟩:=h;exact uU h hn hp Sf fM hf hm hfm fun w' L' h' k'=>hK w' ⟨b,c,L',h'⟩ (k'.mono fun k _ e=>by rw [e];exact h.gI)
end
section
variable{w:World}{S:Nat->Prop}{g:Nat}{T:List Nd}{d:Int}{b c:Nat}{L:List (Nd×Value)}
theorem Bw(L M:List (Nd×Value)):o0 (L++M)=o0 L++o0 M:=by simp [o0]
theorem TV.JG(h:TV w S g T d b c L)(ml:T.length<=1000000)(p:Int){w10:World}
 (e10:w10=w.alloc (.cells #[.int .i64 p,.slice none 0 0,.int .u64 0,.int .u64 0,.int .u64 0] jA)):
 ∃A c' lK,(Builtin.append_ #[iO,iO] iO #[.slice (some ⟨b,0,none⟩) T.length c,.slice (some ⟨w.heap.size,0,none⟩) 1 1]).run prog w10=.ok (.slice A (T.length+1) c') lK/\
  Wr lK ⟨g,0,none⟩/\∃b' S' L',TV (lK.setCell ⟨g,0,none⟩ (.slice A (T.length+1) c')) S' g (T++ [⟨p,[],0,0,0⟩]) d b' c' L'/\(∀(i:Nat) q,L[i]? =some q->L'[i]? =some q)/\
   Kept S w (lK.setCell ⟨g,0,none⟩ (.slice A (T.length+1) c'))/\(∀k,S k->S' k)/\(∀k,S' k->S k\/w.heap.size<=k):=by
 subst e10;generalize P4:w.alloc (.cells #[.int .i64 p,.slice none 0 0,.int .u64 0,.int .u64 0,.int .u64 0] jA)=w10;have nz:w10.heap[w.heap.size]? =some (.cells #[.int .i64 p,.slice none 0 0,.int .u64 0,.int .u64 0,.int .u64 0] jA (0,0)):=by rw [<-P4];exact aH w _
 have lX:Kept Nil w w10:=by rw [<-P4];exact(Kept.refl Nil w).alloc _
 have LH:w10.heap.size=w.heap.size+1:=by rw [<-P4];simp
 have wK:=h.kept lX;obtain⟨A,c',lK,hr,fF,hg,C6⟩:=fP (P:=prog) (t:=iO) (ty:=iO) yw wK.row (a:=⟨w.heap.size,0,none⟩) (m:=1) (cx:=1)
  (news:=jD ⟨p,[],0,0,0⟩ (.slice none 0 0)) rfl (fun j u hj=>by rw [mQ,aD nz];simpa [jD]using hj) (by intro u hu;simp [jD]at hu;rcases hu with rfl|rfl|rfl|rfl|rfl<;>rfl)
  (by omega) (by unfold maxLen;omega) (Nat.zero_le _)
 obtain⟨b',rfl⟩:=Row.some fF (by omega);have kb:Kept (fun k=>k=b) w10 lK:=(Kept.refl _ w10).grown hg (fun k hk _=>by cases hk;rfl);have jv:lK.heap[g]? =some (.cells #[.slice (some ⟨b,0,none⟩) T.length c,.int .i64 d] uf (0,0)):=kb.heap wK.top h.gb;refine⟨_,c',lK,hr,dm jv (show 0<2 by omega),?_⟩;generalize UB:lK.setCell ⟨g,0,none⟩ (.slice (some ⟨b',0,none⟩) (T.length+1) c')=wf;have kg:Kept (fun k=>k=g) lK wf:=by rw [<-UB];exact(Kept.refl (fun k=>k=g) lK).setCell (p:=⟨g,0,none⟩) (fun _=>rfl) _
 have xh:b'=b\/w10.heap.size<=b':=by
  rcases C6 b' rfl with h|h
  ·left;cases h;rfl
  ·exact .inr h
 have ac9:b'≠g:=by
  rintro rfl;obtain⟨_,cur,hc⟩:=Row.bL fF (k:=b') rfl;rw [jv]at hc;injection hc with hc;injection hc with _ ht;exact absurd ht (by decide)
 have Gp:∀(i:Nat) (q:Nd×Value),L[i]? =some q->∃A m,X0 wf S q A m:=by
  intro i q hq;obtain⟨A,m,hk⟩:=wK.qY i q hq;obtain⟨cur,Sq⟩:=wK.wF;have r1:=Row.aF hk.row kb (fun k e e2=>hk.ne Sq (by decide) (by rw [e,e2]));have r2:=Row.aF r1 kg (fun k e e2=>hk.ne wK.top (by decide) (by rw [e,e2]));exact⟨A,m,hk.val,r2,hk.lg⟩
 refine⟨b',fun k=>S k\/k=b',L++ [(⟨p,[],0,0,0⟩,.slice none 0 0)],?_,fun i q hq=>?_,?_,fun k hk=>.inl hk,?_⟩
 ·exact {
   top:=by
    have:=cV jv 0 (.slice (some ⟨b',0,none⟩) (T.length+1) c');rw [UB]at this;simpa using this
   fst:=by simp [h.fst]
   row:=by
    rw [Bw,List.length_append];have:=Row.aF fF kg (fun k e e2=>ac9 (by cases e;exact e2));simpa [o0]using this
   qY:=fun i q hq=>by
    rw [List.getElem?_append]at hq;split at hq
    ·obtain⟨A,m,hk⟩:=Gp i q hq
     exact⟨A,m,hk.val,hk.row,fun k e=>.inl (hk.lg k e)⟩
    ·rename_i cY
     have:i-L.length=0:=by
      rcases Nat.eq_zero_or_pos (i-L.length)with h|h
      ·exact h
      ·rw [List.getElem?_eq_none (by simp;omega)]at hq;cases hq
     rw [this]at hq;simp at hq;subst hq;exact⟨none,0,rfl,Row.nil _ _ _ _,fun k e=>by cases e⟩
   apart:=fun i j q q' hq Bb rC k hk oR=>by
    rw [List.getElem?_append]at hq Bb;have last:∀(x:Nat) (r:Nd×Value),[((⟨p,[],0,0,0⟩:Nd),Value.slice none 0 0)][x]? =some r->r.2=.slice none 0 0:=by
     intro x r hr;cases x with
     |zero=>simp at hr;subst hr;rfl
     |succ x=>simp at hr
    split at hq<;>split at Bb
    ·exact h.apart i j q q' hq Bb rC k hk oR
    ·rw [last _ _ Bb]at oR;cases oR
    ·rw [last _ _ hq]at hk;cases hk
    ·rw [last _ _ Bb]at oR;cases oR
   iF:=.inl h.iF
   gI:=.inr rfl}
 ·rw [List.getElem?_append_left (lgeS hq).1];exact hq
 ·have um:Kept S w lK:=(lX.mono (S':=S) (fun _ _ h=>h.elim)).trans kb (fun k _ e=>by rw [e];exact h.gI)
  exact um.trans kg (fun k _ e=>by rw [e];exact h.iF)
 ·rintro k (hk|rfl)
  ·exact .inl hk
  ·rcases xh with rfl|xh
   ·exact .inl h.gI
   ·right;omega
theorem TV.Mq(h:TV w S g T d b c L){p:Nat}{nd:Nd}{v:Value}(hp:L[p]? =some (nd,v)){A:Option Addr}{m:Nat}(hk:X0 w S (nd,v) A m)(ml:nd.ch.length<=1000000)(n:Nat){w22:World}
 (e22:w22=w.alloc (.cells #[.int .i64 n] eW)):
 ∃A' c' mo,(Builtin.append_ #[jB,jB] jB #[.slice A nd.ch.length m,.slice (some ⟨w.heap.size,0,none⟩) 1 1]).run prog w22=.ok (.slice A' (nd.ch.length+1) c') mo/\
  mo.cell? ⟨g,0,none⟩=some (.slice (some ⟨b,0,none⟩) T.length c)/\Wr mo ⟨b,p*5+1,none⟩/\
  ∃S' L',TV (mo.setCell ⟨b,p*5+1,none⟩ (.slice A' (nd.ch.length+1) c')) S' g (T.set p {nd with ch:=nd.ch++ [n]}) d b c L'/\
   Kept S w (mo.setCell ⟨b,p*5+1,none⟩ (.slice A' (nd.ch.length+1) c'))/\(∀k,S k->S' k)/\(∀k,S' k->S k\/w.heap.size<=k):=by
 subst e22;generalize P3:w.alloc (.cells #[.int .i64 n] eW)=w22;have nz:w22.heap[w.heap.size]? =some (.cells #[.int .i64 n] eW (0,0)):=by rw [<-P3];exact aH w _
 have Ul:Kept Nil w w22:=by rw [<-P3];exact(Kept.refl Nil w).alloc _
 have I1:w22.heap.size=w.heap.size+1:=by rw [<-P3];simp
 have zz:=h.kept Ul;have Qf:=Row.aF hk.row Ul (fun _ _ h=>h);have ry:p<L.length:=(lgeS hp).1;obtain⟨A',c',mo,hr,fF,hg,C6⟩:=fP (P:=prog) (t:=jB) (ty:=jB) MO Qf (a:=⟨w.heap.size,0,none⟩) (m:=1) (cx:=1)
  (news:=ints [n]) rfl (fun j u hj=>by rw [mQ,aD nz];simpa [ints]using hj) (by intro u hu;simp [ints]at hu;subst hu;rfl)
  (by simp only;omega) (by unfold maxLen;simp only;omega) (Nat.zero_le _)
 obtain⟨cur,Sq⟩:=zz.wF;obtain⟨alu,hb0⟩:=h.wF;have NN:bn A≠some b:=hk.ne hb0 (by decide);have hkg:bn A≠some g:=hk.ne h.top (by decide);have kA:Kept (fun k=>bn A=some k) w22 mo:=(Kept.refl _ w22).grown hg (fun k hk _=>hk);have JE:Row mo 0 jA 5 (some ⟨b,0,none⟩) T.length c (o0 L):=Row.aF zz.row kA (fun k e e2=>NN (by rw [e2,<-e];rfl));have JD:=kA.heap zz.top (fun e=>hkg e);have cY:p*5+1<(o0 L).length:=by rw [tY];omega
 refine⟨A',c',mo,hr,by rw [aD JD];rfl,Row.wr JE cY,?_⟩;generalize UB:mo.setCell ⟨b,p*5+1,none⟩ (.slice A' (nd.ch.length+1) c')=wf;have kB:Kept (fun k=>k=b) mo wf:=by rw [<-UB];exact(Kept.refl (fun k=>k=b) mo).setCell (p:=⟨b,p*5+1,none⟩) (fun _=>rfl) _
 have adK:bn A'≠some b:=by
  intro e;obtain⟨_,XE,hc⟩:=Row.bL fF e;have:=kA.heap Sq NN;rw [this]at hc;injection hc with hc;injection hc with _ ht;exact absurd ht (by decide)
 have vV:∀(A:Option Addr) n m,Value.ownBlock (.slice A n m)=bn A:=by intro A n m;cases A<;>rfl
 have gV:∀(i:Nat) (q:Nd×Value),(L.set p ({nd with ch:=nd.ch++ [n]},.slice A' (nd.ch.length+1) c'))[i]? =some q->(i=p/\q=({nd with ch:=nd.ch++ [n]},.slice A' (nd.ch.length+1) c'))\/(i≠p/\L[i]? =some q):=by
  intro i q hq;by_cases e:p=i
  ·subst e
   rw [List.getElem?_set_self ry]at hq;cases hq;exact .inl ⟨rfl,rfl⟩
  ·rw [List.getElem?_set_ne e]at hq
   exact .inr ⟨fun h=>e h.symm,hq⟩
 have NF:∀k,bn A'=some k->∀(i:Nat) (q:Nd×Value),i≠p->L[i]? =some q->Value.ownBlock q.2≠some k:=by
  intro k oR i q hi hq hqk;rcases C6 k oR with e|e
  ·exact h.apart p i _ _ hp hq (fun e=>hi e.symm) k (by rw [hk.val,vV];exact e) hqk
  ·obtain⟨A2,m2,l9⟩:=h.qY i q hq
   rw [l9.val,vV]at hqk;obtain⟨_,als,KC⟩:=Row.bL l9.row hqk;have:=aU KC;omega
 refine⟨fun k=>S k\/bn A'=some k,L.set p ({nd with ch:=nd.ch++ [n]},.slice A' (nd.ch.length+1) c'),?_,?_,fun k hk=>.inl hk,?_⟩
 ·exact {
   top:=by rw [List.length_set];exact kB.heap JD h.gb
   fst:=by rw [List.map_set,h.fst]
   row:=by
    rw [List.length_set];have:=Row.set JE cY (.slice A' (nd.ch.length+1) c');rw [UB,Bu hp (j:=1) (by omega) (p':=({nd with ch:=nd.ch++ [n]},.slice A' (nd.ch.length+1) c')) rfl]at this;exact this
   qY:=fun i q hq=>by
    rcases gV i q hq with⟨rfl,rfl⟩|⟨hi,hq⟩
    ·refine⟨A',c',by simp,?_,fun k e=>.inr e⟩
     have:=Row.aF fF kB (fun k e e2=>adK (by rw [e,e2]));simpa [ints]using this
    ·obtain⟨A2,m2,l9⟩:=zz.qY i q hq
     have r1:=Row.aF l9.row kA (fun k e e2=>h.apart p i _ _ hp hq (fun e=>hi e.symm) k (by rw [hk.val,vV];exact e2) (by rw [l9.val,vV];exact e));have r2:=Row.aF r1 kB (fun k e e2=>l9.ne Sq (by decide) (by rw [e,e2]));exact⟨A2,m2,l9.val,r2,fun k e=>.inl (l9.lg k e)⟩
   apart:=fun i j q q' hq Bb rC k KA l9=>by
    rcases gV i q hq with⟨e1,e2⟩|⟨hi,Nz⟩<;>rcases gV j q' Bb with⟨e3,e4⟩|⟨hj,Sd⟩
    ·exact rC (e1.trans e3.symm)
    ·rw [e2,vV]at KA;exact NF k KA j q' hj Sd l9
    ·rw [e4,vV]at l9;exact NF k l9 i q hi Nz KA
    ·exact h.apart i j q q' Nz Sd rC k KA l9
   iF:=.inl h.iF
   gI:=.inl h.gI}
 ·have mX:Kept S w mo:=(Ul.mono (S':=S) (fun _ _ h=>h.elim)).trans kA (fun k _ e=>hk.lg k e)
  exact mX.trans kB (fun k _ e=>by rw [e];exact h.gI)
 ·rintro k (oR|oR)
  ·exact .inl oR
  ·rcases C6 k oR with e|e
   ·exact .inl (hk.lg k e)
   ·right;omega
end
def grown(T:List Nd)(p:Nat)(pd:Nd):List Nd:=(T++ [(⟨p,[],0,0,0⟩:Nd)]).set p {pd with ch:=pd.ch++ [T.length]}
def jw(pd:Nd):Int:=(pd.hi-pd.free+1)/2
def added(T:List Nd)(p:Nat)(pd:Nd):List Nd:=we (grown T p pd) T.length p ⟨p,[],0,0,0⟩ {pd with ch:=pd.ch++ [T.length]} (jw pd)
section
variable{w:World}{S:Nat->Prop}{g:Nat}{T:List Nd}{d:Int}{K:Value->World->Prop}
theorem uV(h:pk w S g T d){p:Nat}{pd:Nd}(hp:T[p]? =some pd)(ml:T.length<=1000000)(kQ:pd.ch.length<=1000000)
 (hf:0<=pd.free) (hfh:pd.free<=pd.hi) (hh:pd.hi<=4611686018427387904)
 (hK1:pd.free<pd.hi->∀w' S',pk w' S' g (added T p pd) d->Kept S w w'->(∀k,S' k->S k\/w.heap.size<=k)->K (.tuple #[.int .i64 T.length,.int .i64 0]) w')
 (hK2:pd.free=pd.hi->∀w' S',pk w' S' g (grown T p pd) d->Kept S w w'->(∀k,S' k->S k\/w.heap.size<=k)->
   bC prog az.id #[.pointer (some ⟨g,0,none⟩),.int .i64 p] w' fun v jn=>v=.tuple #[]/\K (.tuple #[.int .i64 T.length,.int .i64 0]) jn):
 bC prog gN.id #[.pointer (some ⟨g,0,none⟩),.int .i64 p] w K:=by
 have cY:p<T.length:=(lgeS hp).1;refine gN.of (tC h cY ⟨_,rfl,Split.no rfl ?_⟩);obtain⟨b,c,L,h⟩:=h;obtain⟨v,hv⟩:=h.at_ hp;refine h.go (h.go ⟨rfl,?_⟩);intro w10;obtain⟨A1,c1,lK,mU,Zx,b1,S1,L1,h14,hL1,Ku,hS1,Xg⟩:=h.JG ml (p:Int) (w10:=w10) rfl;refine⟨A1,_,c1,lK,mU,by rw [mQ];exact Zx,?_⟩;intro iR;have e14:iR=lK.setCell ⟨g,0,none⟩ (.slice A1 (T.length+1) c1):=by simp only [iR,mQ]
 rw [<-e14]at h14 Ku;clear_value iR;intro nM;have tP:Kept Nil iR nM:=(Kept.refl Nil iR).drew;have JF:=h14.kept tP;have CI:=hL1 _ _ hv;have hlen:(T++ [(⟨p,[],0,0,0⟩:Nd)]).length=T.length+1:=by simp
 have Oc:0<=(p:Int)/\(p:Int)<((T++ [(⟨p,[],0,0,0⟩:Nd)]).length:Int):=by rw [hlen];exact⟨by omega,by omega⟩
 obtain⟨A2,m2,hk⟩:=JF.qY _ _ CI;refine JF.go (JF.go ⟨Oc,JF.Xu CI hk.val ?_⟩);intro w22;have Ul:Kept Nil nM w22:=(Kept.refl Nil nM).alloc _;have zz:=JF.kept Ul;obtain⟨A3,c3,mo,uq,Vz,Zw,S3,L3,Y3,AR,hS3,adn⟩:=JF.Mq CI hk kQ T.length (w22:=w22) rfl;have Bg:=zz.cell CI (j:=1) (by omega) (v:=v) rfl;have hvv:v=.slice A2 pd.ch.length m2:=hk.val;rw [hvv]at Bg;refine⟨by rw [o7];exact Bg,by rw [mQ];exact zz.nodes,by rw [mQ];exact zz.nodes,A3,_,c3,mo,uq,by rw [mQ];exact Vz,Oc,by rw [o7];exact Zw,?_⟩;intro o9;have e26:o9=mo.setCell ⟨b1,p*5+1,none⟩ (.slice A3 (pd.ch.length+1) c3):=by simp only [o9,o7,Int.toNat_natCast]
 rw [<-e26]at Y3 AR;clear_value o9;have LF:(T++ [(⟨p,[],0,0,0⟩:Nd)]).set p {pd with ch:=pd.ch++ [T.length]}=grown T p pd:=rfl;rw [LF]at Y3;have hgp:(grown T p pd)[p]? =some {pd with ch:=pd.ch++ [T.length]}:=by
  unfold grown;rw [List.getElem?_set_self (by simp;omega)]
 have hgn:(grown T p pd)[T.length]? =some ⟨p,[],0,0,0⟩:=by
  unfold grown;rw [List.getElem?_set_ne (by omega)];simp
 have kw:Kept S w o9:=(Ku.tt (tP.mono (S':=S) (fun _ _ h=>h.elim))).trans AR (fun k hk h=>by
  rcases Xg k h with h|h
  ·exact h
  ·omega)
 have Rc:∀k,S3 k->S k\/w.heap.size<=k:=fun k h=>by
  rcases adn k h with h|h
  ·exact Xg k h
  ·right
   have:=Ku.size;have:=tP.size;omega
 refine Fe ⟨_,_,_,Y3⟩ hgp fun G5 It=>⟨_,rfl,?_⟩;have h28:=Y3.kept It;have TQ:Kept S w G5:=kw.trans It (fun _ _ h=>h.elim);simp only [];rw [fT (x:=pd.hi-pd.free) (by omega) (by omega)];refine Split.dec (fun jF=>⟨by decide,?_⟩) (fun jF=>?_)
 ·have EB:u64.wrap ((u64.wrap (pd.hi-pd.free+1)).tdiv 2)=jw pd:=by
   rw [fT (x:=pd.hi-pd.free+1) (by omega) (by omega),Int.tdiv_eq_ediv_of_nonneg (by omega),fT (by omega) (by omega)];rfl
  rw [EB];refine Ff ⟨_,_,_,h28⟩ hgn hgp rfl (by omega) hf (by unfold jw;omega) (by unfold jw;simp only;omega) fun Hq h31 M5=>⟨rfl,?_⟩;refine hK1 (by omega) Hq S3 h31 (TQ.trans M5 fun k hk h=>?_) Rc;rcases Rc k h with h|h
  ·exact h
  ·omega
 ·exact hK2 (by omega) G5 S3 ⟨_,_,_,h28⟩ TQ Rc
end
section
variable{w:World}{S:Nat->Prop}{g:Nat}{T:List Nd}{d:Int}{K:Value->World->Prop}
def qI:List Nd:= [⟨-1,[],1,4611686018427387904,1⟩]
theorem fh(hK:∀w' g,pk w' (fun k=>w.heap.size<=k) g qI 0->Kept Nil w w'->K (.pointer (some ⟨g,0,none⟩)) w'):bC prog fh.id #[] w K:=by
 refine fh.of ⟨rfl,?_⟩;intro w1 w2;have k1:Kept Nil w w1:=(Kept.refl Nil w).alloc _;have k2:Kept Nil w w2:=k1.alloc _;refine hK w2 w1.heap.size ⟨w.heap.size,1,[(⟨-1,[],1,4611686018427387904,1⟩,.slice none 0 0)],?_⟩ k2;exact {
  top:=aH w1 _
  fst:=rfl
  row:=Row.made (n:=1) (cur:= #[.int .i64 (-1),.slice none 0 0,.int .u64 1,.int .u64 4611686018427387904,.int .u64 1]) (iI (aH w _) _) (Nat.zero_le _) rfl (by decide)
  qY:=fun i p hp=>by
   cases i with
   |zero=>simp at hp;subst hp;exact⟨none,0,rfl,Row.nil _ _ _ _,fun k e=>by cases e⟩
   |succ i=>simp at hp
  apart:=fun i j p q hp hq rC=>by
   cases i<;>cases j<;>simp at hp hq
   exact absurd rfl rC
  iF:=k1.size
  gI:=Nat.le_refl _}
theorem Cg(h:pk w S g T d){a b:Nat}{ad bd:Nd}(ha:T[a]? =some ad)(hb:T[b]? =some bd)(hK:∀w',Kept Nil w w'->K (.bool (decide (bd.lo<=ad.lo/\ad.hi<=bd.hi))) w'):
 bC prog fG.id #[.pointer (some ⟨g,0,none⟩),.int .i64 a,.int .i64 b] w K:=by
 have hal:a<T.length:=(lgeS ha).1;have C6:b<T.length:=(lgeS hb).1;have hba:0<=(a:Int)/\(a:Int)<(T.length:Int):=⟨by omega,by omega⟩;have xg:0<=(b:Int)/\(b:Int)<(T.length:Int):=⟨by omega,by omega⟩;refine fG.of ?_;unfold fG.W;intro w4;have k4:Kept Nil w w4:=(Kept.refl Nil w).drew;have h4:=h.same k4;have hk:=hK w4 k4;refine yu h4 a ⟨_,rfl,Split.yes (decide_eq_true hba) ?_⟩;refine yu h4 b ⟨_,rfl,Split.yes (decide_eq_true xg) ?_⟩;obtain⟨p,c,L,h4⟩:=h4;obtain⟨va,hva⟩:=h4.at_ ha;obtain⟨vb,hvb⟩:=h4.at_ hb;refine h4.go ⟨xg,h4.wg hvb (h4.go ⟨hba,h4.wg hva ?_⟩)⟩;refine Split.dec (fun h1=>h4.go ⟨hba,h4.Bq hva (h4.go ⟨xg,h4.Bq hvb ?_⟩)⟩) (fun h1=>?_)
 ·rwa [show decide (bd.lo<=ad.lo/\ad.hi<=bd.hi)=decide (ad.hi<=bd.hi)from by simp [h1]]at hk
 ·rwa [decide_eq_false (fun e:bd.lo<=ad.lo/\ad.hi<=bd.hi=>h1 e.1)]at hk
end
section
variable{w:World}{t:Option Addr}{K:Value->World->Prop}
end
end Go.Proofs.YtfleamccglihoaaGreatDoor.Tr
namespace Go.Proofs.YtfleamccglihoaaGreatDoor.Tr
open Go.Proofs.Tryz
def b0(T:List Nd):List Int:=T.map (·.parent)
structure nK(P:List Int):Prop where
 root:P[0]? =some (-1)
 up:∀(i:Nat) (p:Int),0<i->P[i]? =some p->∃j:Nat,j<i/\p=j
def kids(P:List Int)(i:Nat):List Nat:=(List.range P.length).filter fun j=>P[j]? ==some (i:Int)
theorem eE{P:List Int}{i j:Nat}:j∈kids P i↔P[j]? =some (i:Int):=by
 simp only [kids,List.mem_filter,List.mem_range,beq_iff_eq];exact⟨fun h=>h.2,fun h=>⟨(lgeS h).1,h⟩⟩
theorem iJ{P:List Int}(hP:nK P){i j:Nat}(h:j∈kids P i):i<j/\j<P.length:=by
 rw [eE]at h;refine⟨?_,(lgeS h).1⟩;rcases Nat.eq_zero_or_pos j with rfl|hj
 ·rw [hP.root]at h;have:=Option.some.inj h;omega
 ·obtain⟨k,hk,e⟩:=hP.up j _ hj h
  omega
theorem tO(P:List Int)(i:Nat):(kids P i).Pairwise (· < ·):=List.Pairwise.filter _ (List.pairwise_lt_range)
theorem AK(P:List Int)(i:Nat):(kids P i).length<=P.length:=by
 unfold kids;exact Nat.le_trans (List.length_filter_le _ _) (by simp)
inductive kR (P:List Int):Nat->Nat->Prop
 |refl {i:Nat}:i<P.length->kR P i i
 |step {i j k:Nat}:P[i]? =some (j:Int)->kR P j k->kR P i k
theorem kR.lt{P:List Int}{i k:Nat}(h:kR P i k):i<P.length:=by
 cases h with
 |refl h=>exact h
 |step h _=>exact(lgeS h).1
theorem kR.Yf{P:List Int}{i k:Nat}(h:kR P i k):k<P.length:=by
 induction h with
 |refl h=>exact h
 |step _ _ ih=>exact ih
theorem kR.le{P:List Int}(hP:nK P){i k:Nat}(h:kR P i k):k<=i:=by
 induction h with
 |refl=>omega
 |step h _ ih=>have:=(iJ hP (eE.2 h)).1;omega
theorem kR.trans{P:List Int}{i j k:Nat}(h:kR P i j)(h':kR P j k):kR P i k:=by
 induction h with
 |refl=>exact h'
 |step h _ ih=>exact .step h (ih h')
theorem kR.inv{P:List Int}{i j k:Nat}(h:kR P i k)(fM:i≠k)(hj:P[i]? =some (j:Int)):kR P j k:=by
 cases h with
 |refl=>exact absurd rfl fM
 | @step _ j' _ h h'=>
   rw [hj]at h;have e:j=j':=by have:=Option.some.inj h;omega
   rw [e];exact h'
theorem kR.child{P:List Int}{i k:Nat}(h:kR P i k)(fM:i≠k):∃c,c∈kids P k/\kR P i c:=by
 induction h with
 |refl=>exact absurd rfl fM
 | @step i j k h h' ih=>
   by_cases e:j=k
   ·subst e
    exact⟨i,eE.2 h,.refl (lgeS h).1⟩
   ·obtain⟨c,hc,hu⟩:=ih e
    exact⟨c,hc,.step h hu⟩
structure Iv(nd:Nd):Prop where
 Z5:1<=nd.lo
 le:nd.lo<=nd.hi
 top:nd.hi<=4611686018427387904
structure Loc(T:List Nd)(nd:Nd):Prop where
 He:nd.lo<=nd.free
 De:nd.free<=nd.hi
 sub:∀c cd,c∈nd.ch->T[c]? =some cd->nd.lo<=cd.lo/\cd.hi<nd.free
 ord:∀(c c':Nat) cd wB,c∈nd.ch->c'∈nd.ch->c<c'->T[c]? =some cd->T[c']? =some wB->cd.hi<wB.lo
structure Shape(T:List Nd):Prop where
 par:nK (b0 T)
 ch:∀(i:Nat) nd,T[i]? =some nd->nd.ch=kids (b0 T) i
structure Good(T:List Nd):Prop extends Shape T where
 iv:∀(i:Nat) nd,T[i]? =some nd->Iv nd
 loc:∀(i:Nat) nd,T[i]? =some nd->Loc T nd
theorem lO{T:List Nd}{i:Nat}{nd:Nd}(h:T[i]? =some nd):(b0 T)[i]? =some nd.parent:=by simp [b0,h]
theorem fi(T:List Nd):(b0 T).length=T.length:=by simp [b0]
theorem Shape.pos{T:List Nd}(h:Shape T):0<T.length:=by
 have:=(lgeS h.par.root).1
 rwa [fi]at this
theorem Good.qY{T:List Nd}(h:Good T){c k:Nat}{cd kd:Nd}(hc:c∈kids (b0 T) k)(jX:T[c]? =some cd)(VW:T[k]? =some kd):
 kd.lo<=cd.lo/\cd.hi<kd.free:=(h.loc k kd VW).sub c cd (by rw [h.ch k kd VW];exact hc) jX
theorem gB{T:List Nd}{i:Nat}(h:i<T.length):∃nd,T[i]? =some nd:=⟨_,List.getElem?_eq_getElem h⟩
theorem Good.pg{T:List Nd}(h:Good T){a b:Nat}{ad bd:Nd}(ha:T[a]? =some ad)(hb:T[b]? =some bd)(hu:kR (b0 T) a b):bd.lo<=ad.lo/\ad.hi<=bd.hi:=by
 induction hu generalizing ad with
 |refl=>rw [ha]at hb;cases hb;omega
 | @step i j k hp h' ih=>
   have tU:j<T.length:=by have:=h'.lt;rwa [fi]at this
   obtain⟨jd,hj⟩:=gB tU;have h1:=ih hj hb;have h2:=h.qY (eE.2 hp) ha hj;have h3:=(h.loc j jd hj).De;omega
theorem Good.apart{T:List Nd}(h:Good T):∀(m a b:Nat),a+b<=m->∀ad bd,T[a]? =some ad->T[b]? =some bd->¬kR (b0 T) a b->¬kR (b0 T) b a->ad.hi<bd.lo\/bd.hi<ad.lo:=by
 intro m
 induction m with
 |zero=>
  intro a b hm ad bd ha hb h1 _;have:a=b:=by omega
  subst this;exact absurd (.refl (by rw [fi];exact(lgeS ha).1)) h1
 |succ m ih=>
  have key:∀(a b:Nat),a+b<=m+1->b<a->∀ad bd,T[a]? =some ad->T[b]? =some bd->¬kR (b0 T) a b->¬kR (b0 T) b a->ad.hi<bd.lo\/bd.hi<ad.lo:=by
   intro a b hm cY ad bd ha hb h1 h2;have hal:=(lgeS ha).1;obtain⟨p,hp,e⟩:=h.par.up a _ (by omega) (lO ha);have YD:(b0 T)[a]? =some (p:Int):=by rw [lO ha,e]
   obtain⟨pd,yV⟩:=gB (T:=T) (i:=p) (by omega);have gK:=h.qY (eE.2 YD) ha yV;have ry:=h.loc p pd yV;have Bc:¬kR (b0 T) p b:=fun hu=>h1 (.step YD hu);by_cases NY:kR (b0 T) b p
   ·have fM:b≠p:=fun e=>Bc (by subst e;exact .refl NY.lt)
    obtain⟨c,hc,Nq⟩:=NY.child fM;have hca:c≠a:=fun e=>h2 (e▸Nq);have qC:c<T.length:=by have:=(iJ h.par hc).2;rwa [fi]at this
    obtain⟨cd,jX⟩:=gB qC;have BX:=h.pg hb jX Nq;have kQ:=h.ch p pd yV;rcases Nat.lt_or_ge c a with cY|gA
    ·have:=ry.ord c a cd ad (by rw [kQ];exact hc) (by rw [kQ];exact eE.2 YD) cY jX ha
     omega
    ·have:=ry.ord a c ad cd (by rw [kQ];exact eE.2 YD) (by rw [kQ];exact hc) (by omega) ha jX
     omega
   ·have:=ih p b (by omega) pd bd yV hb Bc NY
    have:=ry.De;omega
  intro a b hm ad bd ha hb h1 h2;rcases Nat.lt_trichotomy a b with cY|rfl|cY
  ·have:=key b a (by omega) cY bd ad hb ha h2 h1
   omega
  ·exact absurd (.refl (by rw [fi];exact(lgeS ha).1)) h1
  ·exact key a b hm cY ad bd ha hb h1 h2
theorem Good.under{T:List Nd}(h:Good T){a b:Nat}{ad bd:Nd}(ha:T[a]? =some ad)(hb:T[b]? =some bd):(bd.lo<=ad.lo/\ad.hi<=bd.hi)↔kR (b0 T) a b:=by
 refine⟨fun hi=>?_,fun hu=>h.pg ha hb hu⟩;by_cases hu:kR (b0 T) a b
 ·exact hu
 ·exfalso
  have ia:=h.iv a ad ha;have ib:=h.iv b bd hb;by_cases hv:kR (b0 T) b a
  ·have fM:b≠a:=fun e=>hu (by subst e;exact .refl hv.lt)
   obtain⟨c,hc,Nq⟩:=hv.child fM;have qC:c<T.length:=by have:=(iJ h.par hc).2;rwa [fi]at this
   obtain⟨cd,jX⟩:=gB qC;have h1:=h.pg hb jX Nq;have h2:=h.qY hc jX ha;have h3:=(h.loc a ad ha).De;omega
  ·have:=h.apart (a+b) a b (Nat.le_refl _) ad bd ha hb hu hv
   have:=ia.le;have:=ib.le;omega
theorem x7(T:List Nd)(p:Nat)(pd:Nd):(grown T p pd).length=T.length+1:=by simp [grown]
theorem jG{T:List Nd}{p:Nat}{pd:Nd}(hp:T[p]? =some pd)(i:Nat):(grown T p pd)[i]? =if i=p then some {pd with ch:=pd.ch++ [T.length]}else if i=T.length then some ⟨p,[],0,0,0⟩else T[i]? :=by
 have cY:=(lgeS hp).1;unfold grown;by_cases e:i=p
 ·subst e
  rw [if_pos rfl,List.getElem?_set_self (by simp;omega)]
 ·rw [if_neg e,List.getElem?_set_ne (fun h=>e h.symm)]
  by_cases e2:i=T.length
  ·subst e2;simp
  ·rw [if_neg e2]
   rcases Nat.lt_or_ge i T.length with h|h
   ·rw [List.getElem?_append_left h]
   ·rw [List.getElem?_eq_none (by simp;omega),List.getElem?_eq_none h]
theorem mL{T:List Nd}{p:Nat}{pd:Nd}(hp:T[p]? =some pd):b0 (grown T p pd)=b0 T++ [(p:Int)]:=by
 apply List.ext_getElem?;intro i;have cY:=(lgeS hp).1;simp only [b0,List.getElem?_map,jG hp];by_cases e:i=p
 ·subst e
  rw [if_pos rfl,List.getElem?_append_left (by simpa using cY)];simp [hp]
 ·rw [if_neg e]
  by_cases e2:i=T.length
  ·subst e2;simp
  ·rw [if_neg e2]
   rcases Nat.lt_or_ge i T.length with h|h
   ·rw [List.getElem?_append_left (by simpa using h)];simp
   ·rw [List.getElem?_eq_none h,List.getElem?_eq_none (by simp;omega)];rfl
theorem AM(P:List Int)(p i:Nat):kids (P++ [(p:Int)]) i=kids P i++if i=p then [P.length]else []:=by
 unfold kids;rw [List.length_append,List.length_singleton,List.range_succ,List.filter_append]
 congr 1
 ·apply List.filter_congr
  intro x hx;rw [List.getElem?_append_left (by simpa using hx)]
 ·by_cases e:i=p
  ·subst e;simp
  ·have:¬((p:Int)=(i:Int)):=by omega
   simp [e,this]
theorem nK.snoc{P:List Int}(h:nK P){p:Nat}(hp:p<P.length):nK (P++ [(p:Int)]):=by
 refine⟨by rw [List.getElem?_append_left (by omega)];exact h.root,fun i q hi hq=>?_⟩;rcases Nat.lt_or_ge i P.length with hl|hl
 ·rw [List.getElem?_append_left hl]at hq
  exact h.up i q hi hq
 ·have:i=P.length:=by
   rcases Nat.eq_or_lt_of_le hl with e|e
   ·exact e.symm
   ·rw [List.getElem?_eq_none (by simp;omega)]at hq;cases hq
  subst this;simp at hq;exact⟨p,hp,hq.symm⟩
theorem Shape.grown{T:List Nd}(h:Shape T){p:Nat}{pd:Nd}(hp:T[p]? =some pd):Shape (grown T p pd):=by
 have cY:=(lgeS hp).1;refine⟨by rw [mL hp];exact h.par.snoc (by rw [fi];exact cY),fun i nd hi=>?_⟩;rw [mL hp,AM,fi];rw [jG hp]at hi;by_cases e:i=p
 ·subst e
  rw [if_pos rfl]at hi⊢;cases hi;simp [h.ch i pd hp]
 ·rw [if_neg e]at hi⊢
  rw [List.append_nil];by_cases e2:i=T.length
  ·subst e2
   rw [if_pos rfl]at hi;cases hi
   symm
   apply List.eq_nil_iff_forall_not_mem.2;intro c hc;have:=iJ h.par hc;rw [fi]at this;omega
  ·rw [if_neg e2]at hi
   exact h.ch i nd hi
def jo(f:Nat->Nat):Nat->Nat
 |0=>0
 |n+1=>jo f n+f n
theorem lv{f g:Nat->Nat}{n:Nat}(h:∀i,i<n->f i=g i):jo f n=jo g n:=by
 induction n with
 |zero=>rfl
 |succ n ih=>
  simp only [jo];rw [ih (fun i hi=>h i (by omega)),h n (by omega)]
theorem zQ(f g:Nat->Nat)(n:Nat):jo (fun i=>f i+g i) n=jo f n+jo g n:=by
 induction n with
 |zero=>rfl
 |succ n ih=>simp only [jo];omega
theorem mq{f:Nat->Nat}{n:Nat}(h:∀i,i<n->f i=0):jo f n=0:=by
 induction n with
 |zero=>rfl
 |succ n ih=>
  simp only [jo];rw [ih (fun i hi=>h i (by omega)),h n (by omega)]
theorem Fh(h:Nat->Nat->Nat)(n m:Nat):jo (fun i=>jo (fun j=>h i j) m) n=jo (fun j=>jo (fun i=>h i j) n) m:=by
 induction n with
 |zero=>simp only [jo];exact(mq fun _ _=>rfl).symm
 |succ n ih=>
  simp only [jo];rw [ih,zQ]
theorem zP{n k:Nat}(hk:k<n){f:Nat->Nat}(h:∀i,i<n->i≠k->f i=0):jo f n=f k:=by
 induction n with
 |zero=>omega
 |succ n ih=>
  simp only [jo];rcases Nat.lt_or_ge k n with cY|gA
  ·rw [ih cY (fun i hi=>h i (by omega)),h n (by omega) (by omega),Nat.add_zero]
  ·have:k=n:=by omega
   subst this;rw [mq (fun i hi=>h i (by omega) (by omega)),Nat.zero_add]
theorem KS{f:Nat->Nat}{n b:Nat}(h:∀i,i<n->f i<=b):jo f n<=n*b:=by
 induction n with
 |zero=>simp [jo]
 |succ n ih=>
  simp only [jo];have:=ih (fun i hi=>h i (by omega));have:=h n (by omega);rw [Nat.succ_mul];omega
theorem HC{f f':Nat->Nat}{n k:Nat}(hk:k<n){v:Nat}(h:∀i,i<n->i≠k->f' i=f i)(hv:f' k=f k+v):jo f' n=jo f n+v:=by
 induction n with
 |zero=>omega
 |succ n ih=>
  simp only [jo];rcases Nat.lt_or_ge k n with cY|gA
  ·rw [ih cY (fun i hi=>h i (by omega)),h n (by omega) (by omega)]
   omega
  ·have:k=n:=by omega
   subst this;rw [lv (fun i hi=>h i (by omega) (by omega)),hv];omega
theorem sG(q:Nat->Bool)(f:Nat->Nat)(n:Nat):(((List.range n).filter q).map f).sum=jo (fun c=>if q c=true then f c else 0) n:=by
 induction n with
 |zero=>rfl
 |succ n ih=>
  rw [List.range_succ,List.filter_append,List.map_append,List.sum_append,ih];simp only [jo]
  congr 1
  by_cases h:q n=true
  ·simp [h]
  ·simp [h]
section
variable{P:List Int}
theorem kR.cmp{i a b:Nat}(h:kR P i a)(h':kR P i b):kR P a b\/kR P b a:=by
 induction h with
 |refl=>exact .inl h'
 | @step i j k hp h2 ih=>
   by_cases e:i=b
   ·subst e;exact .inr (.step hp h2)
   ·exact ih (h'.inv e hp)
theorem kR.one(hP:nK P){i n c c':Nat}(hc:P[c]? =some (n:Int))(tm:P[c']? =some (n:Int))(h:kR P i c)(h':kR P i c'):c=c':=by
 have key:∀(c c':Nat),P[c]? =some (n:Int)->P[c']? =some (n:Int)->kR P c c'->c=c':=by
  intro c c' hc tm h;by_cases e:c=c'
  ·exact e
  ·have:=(h.inv e hc).le hP
   have:=(iJ hP (eE.2 tm)).1;omega
 rcases h.cmp h' with h|h
 ·exact key c c' hc tm h
 ·exact(key c' c tm hc h).symm
open Classical in
noncomputable def ind(p:Prop):Nat:=if p then 1 else 0
theorem r8{p:Prop}(h:p):ind p=1:=by unfold ind;rw [if_pos h]
theorem sY{p:Prop}(h:¬p):ind p=0:=by unfold ind;rw [if_neg h]
theorem PU(p:Prop):ind p<=1:=by unfold ind;split<;>omega
noncomputable def sz(P:List Int)(n:Nat):Nat:=jo (fun i=>ind (kR P i n)) P.length
theorem Ci(hP:nK P){n:Nat}(hn:n<P.length):sz P n=1+jo (fun c=>if P[c]? =some (n:Int)then sz P c else 0) P.length:=by
 have e1:∀i,i<P.length->ind (kR P i n)=ind (i=n)+jo (fun c=>if P[c]? =some (n:Int)then ind (kR P i c)else 0) P.length:=by
  intro i hi;by_cases e:i=n
  ·subst e
   rw [r8 (.refl hi),r8 rfl,mq];intro c hc;split
   ·rename_i hp
    apply sY;intro hu;have:=hu.le hP;have:=(iJ hP (eE.2 hp)).1;omega
   ·rfl
  ·rw [sY e,Nat.zero_add]
   by_cases hu:kR P i n
   ·obtain⟨c,hc,Nq⟩:=hu.child e
    rw [r8 hu,zP (k:=c) Nq.Yf]
    ·rw [if_pos (eE.1 hc),r8 Nq]
    ·intro c' _ fM
     split
     ·rename_i hp
      exact sY fun h=>fM (kR.one hP hp (eE.1 hc) h Nq)
     ·rfl
   ·rw [sY hu,mq]
    intro c hc;split
    ·rename_i hp
     exact sY fun h=>hu (h.trans (.step hp (.refl hn)))
    ·rfl
 have e2:sz P n=jo (fun i=>ind (i=n)+jo (fun c=>if P[c]? =some (n:Int)then ind (kR P i c)else 0) P.length) P.length:=by
  unfold sz;exact lv e1
 rw [e2,zQ,zP (k:=n) hn (fun i _ h=>sY h),r8 rfl,Fh]
 congr 1
 apply lv;intro c _;split
 ·rfl
 ·exact mq fun _ _=>rfl
theorem uW(hP:nK P){n:Nat}(hn:n<P.length):1<=sz P n:=by rw [Ci hP hn];omega
theorem xC(n:Nat):sz P n<=P.length:=by
 have:=KS (n:=P.length) (b:=1) (f:=fun i=>ind (kR P i n)) (fun i _=>PU _);unfold sz;omega
theorem DO(hP:nK P){n:Nat}(hn:n<P.length):((kids P n).map (sz P)).sum+1=sz P n:=by
 unfold kids;rw [sG,Ci hP hn,Nat.add_comm]
 congr 1
 apply lv;intro c _;by_cases h:P[c]? =some (n:Int)
 ·simp [h]
 ·simp [h]
noncomputable def part(P:List Int)(m j:Nat):Nat:=jo (fun c=>if P[c]? =some (j:Int)/\m<=c then sz P c else 0) P.length
theorem FH(j:Nat):part P P.length j=0:=mq fun c hc=>if_neg fun h=>by omega
theorem vv(hP:nK P){m j:Nat}(hj:j<P.length)(hm:m<=j+1):part P m j+1=sz P j:=by
 rw [Ci hP hj,Nat.add_comm]
 congr 1
 apply lv;intro c hc;by_cases h:P[c]? =some (j:Int)
 ·have:=(iJ hP (eE.2 h)).1
  rw [if_pos ⟨h,by omega⟩,if_pos h]
 ·rw [if_neg (fun e=>h e.1),if_neg h]
theorem HV{n p:Nat}(h:P[n]? =some (p:Int)):part P n p=part P (n+1) p+sz P n:=by
 unfold part;apply HC (k:=n) (lgeS h).1
 ·intro i _ fM
  by_cases hi:P[i]? =some (p:Int)
  ·by_cases h2:n<=i
   ·rw [if_pos ⟨hi,h2⟩,if_pos ⟨hi,by omega⟩]
   ·rw [if_neg (fun e=>h2 e.2),if_neg (fun e=>by omega)]
  ·rw [if_neg (fun e=>hi e.1),if_neg (fun e=>hi e.1)]
 ·rw [if_pos ⟨h,Nat.le_refl _⟩,if_neg (fun e=>by omega),Nat.zero_add]
theorem Cs{n j:Nat}(h:P[n]? ≠some (j:Int)):part P n j=part P (n+1) j:=by
 unfold part;apply lv;intro i _;by_cases hi:P[i]? =some (j:Int)
 ·have:i≠n:=fun e=>h (e▸hi)
  by_cases h2:n<=i
  ·rw [if_pos ⟨hi,h2⟩,if_pos ⟨hi,by omega⟩]
  ·rw [if_neg (fun e=>h2 e.2),if_neg (fun e=>by omega)]
 ·rw [if_neg (fun e=>hi e.1),if_neg (fun e=>hi e.1)]
noncomputable def iV(P:List Int)(m j:Nat):Nat:=if m<=j then sz P j else part P m j
theorem Cn(j:Nat)(hj:j<P.length):iV P P.length j=0:=by
 unfold iV;rw [if_neg (by omega),FH]
theorem zZ(j:Nat):iV P 0 j=sz P j:=by unfold iV;rw [if_pos (Nat.zero_le _)]
theorem Fz(hP:nK P){n:Nat}(hn:n<P.length):iV P (n+1) n+1=sz P n:=by
 unfold iV;rw [if_neg (by omega),vv hP hn (Nat.le_refl _)]
theorem Fy(hP:nK P){n p:Nat}(h:P[n]? =some (p:Int))(j:Nat):iV P n j=if j=p then iV P (n+1) p+sz P n else if j=n then sz P n else iV P (n+1) j:=by
 have hp:=(iJ hP (eE.2 h)).1;unfold iV;by_cases e:j=p
 ·subst e
  rw [if_neg (by omega),if_pos rfl,if_neg (by omega),HV h]
 ·rw [if_neg e]
  by_cases e2:j=n
  ·subst e2;rw [if_pos (Nat.le_refl _),if_pos rfl]
  ·rw [if_neg e2]
   by_cases h2:n<=j
   ·rw [if_pos h2,if_pos (by omega)]
   ·rw [if_neg h2,if_neg (by omega)]
    exact Cs (fun h'=>e (by rw [h]at h';have:=Option.some.inj h';omega))
theorem FA(j:Nat):iV P 0 j=if j=0 then sz P 0 else iV P 1 j:=by
 rw [zZ];unfold iV;by_cases e:j=0
 ·subst e;rw [if_pos rfl]
 ·rw [if_neg e,if_pos (by omega)]
theorem DR(hP:nK P)(m j:Nat)(hj:j<P.length):iV P m j<=P.length:=by
 have h1:=xC (P:=P) j;unfold iV;split
 ·exact h1
 ·rename_i h
  have:=vv hP (m:=m) hj;by_cases h2:m<=j+1
  ·have:=this h2;omega
  ·
   have h3:part P m j<=part P 0 j:=by
    unfold part;have:∀(f g:Nat->Nat) (n:Nat),(∀i,i<n->f i<=g i)->jo f n<=jo g n:=by
     intro f g n h
     induction n with
     |zero=>simp [jo]
     |succ n ih=>
      simp only [jo];have:=ih (fun i hi=>h i (by omega));have:=h n (by omega);omega
    apply this;intro i _;split
    ·rename_i h4;rw [if_pos ⟨h4.1,Nat.zero_le _⟩];exact Nat.le_refl _
    ·exact Nat.zero_le _
   have:=vv hP (m:=0) hj (by omega);omega
end
theorem wO{α:Type}(f g:Nat->α){n k:Nat}{v:α}(hk:k<n)(h:∀i,i<n->g i=if i=k then v else f i):((List.range n).map f).set k v=(List.range n).map g:=by
 apply List.ext_getElem?;intro i;rw [List.getElem?_set];by_cases e:k=i
 ·subst e
  rw [if_pos rfl,if_pos (by simpa using hk)];simp [hk,h k hk]
 ·rw [if_neg e]
  rcases Nat.lt_or_ge i n with hi|hi
  ·have:=h i hi
   rw [if_neg (fun x=>e x.symm)]at this;simp [hi,this]
  ·rw [List.getElem?_eq_none (by simpa using hi),List.getElem?_eq_none (by simpa using hi)]
end Go.Proofs.YtfleamccglihoaaGreatDoor.Tr
namespace Go.bW
open Go.RowKit
theorem aR{σ:Type}(e:σ->Env)(I:σ->World->Prop)(μ:σ->World->Nat)(s:σ)(w:World)(Q:aO)(l:Nat)(ρ:Env)(w':World):bR e I μ s w Q (.exit l) ρ w'=Q (.exit l) ρ w':=rfl
def zeroOf(P:Program)(e:TypeId):Option (Array Value):=
 match P.info? e with
 |some i=>match i.zero with
  |some z=>some z.cells
  |none=>none
 |none=>none
theorem Ib{P:Program}{t e:TypeId}{bytes:Nat}(T:zE P t e 1 bytes){z:Value}(hz:zeroOf P e=some #[z]){n:Nat}(hn:n<=maxLen)(hb:bytes*n<=281474976710656)(w:World):
 ∃w',(Instr.makeSlice t (.int .i64 (n:Int)) (.int .i64 (n:Int))).run P w=.ok (.slice (some ⟨w.heap.size,0,none⟩) n n) w'/\
  Row w' w.heap.size e 1 (some ⟨w.heap.size,0,none⟩) n n (List.replicate n z)/\Kept Nil w w':=by
 obtain⟨i,z',hi,zw,hs,KD,Eo⟩:=T.inf;have hc:z'.cells= #[z]:=by
  unfold zeroOf at hz;simp only [hi,zw]at hz;exact Option.some.inj hz
 obtain⟨w',hr,fF,hg⟩:=run_make_full (P:=P) (w:=w) w.heap.size t e i z' 1 T.pg hi zw hs .i64 .i64 n (by rw [KD];exact hb) hn (Nat.le_refl _);rw [hc,Nat.mul_one,toList_madeCells_one]at fF;exact⟨w',hr,fF,(Kept.refl Nil w).grown hg (fun k hk=>by cases hk)⟩
end Go.bW
namespace Go.Proofs.YtfleamccglihoaaGreatDoor.Tr
open Go.Proofs.Tryz
open Go Go.bW Go.RowKit
section
variable{w w':World}{S:Nat->Prop}{g:Nat}{T:List Nd}{d:Int}{K:Value->World->Prop}
theorem TV.bound{b c:Nat}{L:List (Nd×Value)}(h:TV w S g T d b c L):TV w (fun k=>S k/\k<w.heap.size) g T d b c L:= {
 top:=h.top
 fst:=h.fst
 row:=h.row
 qY:=fun i p hp=>let ⟨A,m,h1⟩:=h.qY i p hp;⟨A,m,h1.val,h1.row,fun k e=>⟨h1.lg k e,let ⟨_,_,hc⟩:=Row.bL h1.row e;aU hc⟩⟩
 apart:=h.apart
 iF:=⟨h.iF,aU h.top⟩
 gI:=⟨h.gI,let ⟨_,hc⟩:=h.wF;aU hc⟩}
theorem TV.mono{S':Nat->Prop}{b c:Nat}{L:List (Nd×Value)}(h:TV w S g T d b c L)(hs:∀k,S k->S' k):TV w S' g T d b c L:= {
 top:=h.top
 fst:=h.fst
 row:=h.row
 qY:=fun i p hp=>let ⟨A,m,h1⟩:=h.qY i p hp;⟨A,m,h1.val,h1.row,fun k e=>hs k (h1.lg k e)⟩
 apart:=h.apart
 iF:=hs _ h.iF
 gI:=hs _ h.gI}
theorem pk.bound(h:pk w S g T d):pk w (fun k=>S k/\k<w.heap.size) g T d:=let ⟨b,c,L,h⟩:=h;⟨b,c,L,h.bound⟩
theorem pk.mono{S':Nat->Prop}(h:pk w S g T d)(hs:∀k,S k->S' k):pk w S' g T d:=let ⟨b,c,L,h⟩:=h;⟨b,c,L,h.mono hs⟩
def us(f:Nat->Nat)(n:Nat):List Value:=(List.range n).map fun j=>.int .u64 (f j:Int)
theorem pr(f:Nat->Nat){n j:Nat}(hj:j<n):(us f n)[j]? =some (.int .u64 (f j:Int)):=by simp [us,hj]
theorem pq(f:Nat->Nat)(n:Nat):(us f n).length=n:=by simp [us]
theorem yq{f f':Nat->Nat}{n k:Nat}(hk:k<n)(h:∀i,i<n->i≠k->f' i=f i):(us f n).set k (.int .u64 (f' k:Int))=us f' n:=by
 unfold us;apply wO _ _ hk;intro i hi;by_cases e:i=k
 ·subst e;rw [if_pos rfl]
 ·rw [if_neg e,h i hi e]
theorem S7:zE prog BM jg 1 8:=⟨by kernel_rfl,by kernel_rfl⟩
set_option maxRecDepth 100000 in
theorem Cf(h:pk w S g T d)(hP:nK (b0 T))(hlen:T.length<=1000000)
 (hK:∀w' A,Row w' w.heap.size jg 1 A T.length T.length (us (sz (b0 T)) T.length)->Kept Nil w w'->K (.slice A T.length T.length) w'):
 bC prog bH.id #[.pointer (some ⟨g,0,none⟩)] w K:=by
 obtain⟨b,c,L,h0⟩:=h;have ry:=fi T;obtain⟨w5,th,ju,k5⟩:=Ib S7 (z:=.int .u64 0) (by kernel_rfl) (n:=T.length) (by unfold maxLen;omega) (by omega) w;refine bH.of (h0.go ⟨_,_,_,w5,th,?_⟩);have h5:=h0.kept k5;refine h5.go ?_;generalize hA:(⟨w.heap.size,0,none⟩:Addr)=A at*;refine bH.cC (e:=some A) (i:=T.length) (I:=fun i w'=>∃m:Nat,i=(T.length:Int)-m/\m<=T.length/\Row w' w.heap.size jg 1 (some A) T.length T.length (us (iV (b0 T) m) T.length)/\Kept Nil w w')
  (μ:=fun i _=>((T.length:Int)-i).toNat) (s:=0) ⟨T.length,by omega,Nat.le_refl _,?_,k5⟩ ?_
 ·have:List.replicate T.length (Value.int .u64 0)=us (iV (b0 T) T.length) T.length:=by
   apply List.ext_getElem?;intro j;rcases Nat.lt_or_ge j T.length with hj|hj
   ·rw [pr _ hj,<-ry,Cn j (by omega)]
    simp [ry,hj]
   ·rw [List.getElem?_eq_none (by simpa using hj),List.getElem?_eq_none (by rw [pq];exact hj)]
  rw [<-this];exact ju
 ·rintro i w' ⟨m,rfl,hm,row,kw⟩
  have h':=h0.kept kw;refine Split.dec (fun cY=>?_) (fun gA=>?_)
  ·
   obtain⟨n,rfl⟩:∃n,m=n+1:=⟨m-1,by omega⟩;have hn:n<T.length:=by omega
   refine h'.go ?_;have ew:i64.wrap (i64.wrap ((T.length:Int)-1)-((T.length:Int)-((n+1:Nat):Int)))=(n:Int):=by
    rw [gF (x:=(T.length:Int)-1) (by omega) (by omega),gF (by omega) (by omega)];omega
   rw [ew];have hb:0<=(n:Int)/\(n:Int)<(T.length:Int):=⟨by omega,by omega⟩;subst hA;have VO:n<(us (iV (b0 T) (n+1)) T.length).length:=by rw [pq];exact hn
   refine⟨hb,_,by rw [mQ,Int.toNat_natCast,Nat.mul_one];exact Row.cell row (pr _ hn),hb,by rw [mQ,Int.toNat_natCast,Nat.mul_one];exact Row.wr row VO,?_⟩;intro sy;have e18:sy=w'.setCell ⟨w.heap.size,n,none⟩ (.int .u64 (u64.wrap ((iV (b0 T) (n+1) n:Int)+1))):=by simp only [sy,mQ,Int.toNat_natCast,Nat.mul_one]
   have afH:=Fz hP (n:=n) (by omega);have hle:iV (b0 T) (n+1) n<=(b0 T).length:=DR hP _ _ (by omega);have la:=Row.set row VO (.int .u64 (u64.wrap ((iV (b0 T) (n+1) n:Int)+1)));rw [<-e18]at la;have Gb:Kept Nil w sy:=by rw [e18];exact kw.setCell (fun hh=>absurd hh (Nat.lt_irrefl _)) _
   clear_value sy;rw [fT (x:=(iV (b0 T) (n+1) n:Int)+1) (by omega) (by omega)]at la;rw [show(iV (b0 T) (n+1) n:Int)+1=((if n=n then sz (b0 T) n else iV (b0 T) (n+1) n:Nat):Int)from by rw [if_pos rfl];omega,
    yq (f':=fun j=>if j=n then sz (b0 T) n else iV (b0 T) (n+1) j) hn (fun i _ fM=>by rw [if_neg fM])]at la
   have h18:=h0.kept Gb;obtain⟨nd,gu⟩:=gB hn;obtain⟨v,hv⟩:=h18.at_ gu;refine h18.go ⟨hb,h18.JH hv ?_⟩;have ln:=lO gu;refine Split.dec (fun hp=>?_) (fun hp=>?_)
   ·
    have Gn:0<n:=by
     rcases Nat.eq_zero_or_pos n with rfl|h
     ·rw [hP.root]at ln;have:=Option.some.inj ln;omega
     ·exact h
    obtain⟨p,LO,ep⟩:=hP.up n _ Gn ln;rw [ep]at hp⊢;have hpp:(b0 T)[n]? =some (p:Int):=by rw [ln,ep]
    intro Kq;have Py:Kept Nil w Kq:=Gb.drew;have DV:Row Kq w.heap.size jg 1 (some ⟨w.heap.size,0,none⟩) T.length T.length (us (fun j=>if j=n then sz (b0 T) n else iV (b0 T) (n+1) j) T.length):=la;clear_value Kq;have NY:0<=(p:Int)/\(p:Int)<(T.length:Int):=⟨by omega,by omega⟩;have VM:p<(us (fun j=>if j=n then sz (b0 T) n else iV (b0 T) (n+1) j) T.length).length:=by rw [pq];omega
    have gp:=pr (fun j=>if j=n then sz (b0 T) n else iV (b0 T) (n+1) j) (n:=T.length) (j:=p) (by omega);have gn:=pr (fun j=>if j=n then sz (b0 T) n else iV (b0 T) (n+1) j) (n:=T.length) (j:=n) (by omega);simp only [if_neg (show p≠n by omega)]at gp;simp only [if_pos]at gn;refine⟨NY,_,by rw [mQ,Int.toNat_natCast,Nat.mul_one];exact Row.cell DV gp,hb,_,by rw [mQ,Int.toNat_natCast,Nat.mul_one];exact Row.cell DV gn,NY,by rw [mQ,Int.toNat_natCast,Nat.mul_one];exact Row.wr DV VM,?_⟩;intro wL;have e29:wL=Kq.setCell ⟨w.heap.size,p,none⟩ (.int .u64 (u64.wrap ((iV (b0 T) (n+1) p:Int)+(sz (b0 T) n:Int)))):=by simp only [wL,mQ,Int.toNat_natCast,Nat.mul_one]
    have HO:=Row.set DV VM (.int .u64 (u64.wrap ((iV (b0 T) (n+1) p:Int)+(sz (b0 T) n:Int))));rw [<-e29]at HO;have Lu:Kept Nil w wL:=by rw [e29];exact Py.setCell (fun hh=>absurd hh (Nat.lt_irrefl _)) _
    clear_value wL;have ajM:iV (b0 T) (n+1) p<=(b0 T).length:=DR hP _ _ (by omega);have ajL:sz (b0 T) n<=(b0 T).length:=xC _;have qy:=Fy hP hpp;have AZ:=qy p;rw [if_pos rfl]at AZ;rw [fT (x:=(iV (b0 T) (n+1) p:Int)+(sz (b0 T) n:Int)) (by omega) (by omega),
     show(iV (b0 T) (n+1) p:Int)+(sz (b0 T) n:Int)=(iV (b0 T) n p:Int)from by omega,
     yq (f':=iV (b0 T) n) (by omega) (fun i _ fM=>by rw [qy i,if_neg fM])]at HO
    rw [gF (x:=(T.length:Int)-((n+1:Nat):Int)+1) (by omega) (by omega)];exact⟨_,rfl,⟨n,by omega,by omega,HO,Lu⟩,by simp only;omega⟩
   ·
    have Gn:n=0:=by
     rcases Nat.eq_zero_or_pos n with h|h
     ·exact h
     ·obtain⟨p,_,ep⟩:=hP.up n _ h ln
      omega
    subst Gn;have:us (fun j=>if j=0 then sz (b0 T) 0 else iV (b0 T) (0+1) j) T.length=us (iV (b0 T) 0) T.length:=by
     congr 1
     funext j
     rw [FA]
    rw [this]at la;rw [gF (x:=(T.length:Int)-((0+1:Nat):Int)+1) (by omega) (by omega)];exact⟨_,rfl,⟨0,by omega,by omega,la,Gb⟩,by simp only;omega⟩
  ·have:m=0:=by omega
   subst this;rw [aR,bH.df];refine hK w' (some A) ?_ kw;have e:iV (b0 T) 0=sz (b0 T):=funext zZ;rw [e]at row;exact row
end
section
variable{w:World}{K:Value->World->Prop}
theorem bC.An{f:FuncId}{args:Array Value}{v:Value}(h:Calls prog f args w fun e w'=>e=.returned v/\w'=w)(hK:K v w):bC prog f args w K:=
 h.mono fun e w' ⟨he,hw⟩=>⟨v,he,by rw [hw];exact hK⟩
theorem xl(x y:Nat)(hx:x<18446744073709551616)(hy:y<18446744073709551616)
 (hK:K (.tuple #[.int .u64 ((x*y/18446744073709551616:Nat):Int),.int .u64 ((x*y%18446744073709551616:Nat):Int)]) w):
 bC prog bits_Mul64.id #[.int .u64 x,.int .u64 y] w K:=bC.An (Any.bits_Mul64 Tryz.Lc x y hx hy w) hK
theorem xm(x:Nat)(hx:x<18446744073709551616)(hK:K (.int .i64 (Lib.bitLen x)) w):bC prog bits_Len64.id #[.int .u64 x] w K:=
 bC.An (Any.bits_Len64 Tryz.Ld x w (by omega) (by omega)) hK
end
theorem pY:∀(f x:Nat),x<2 ^ f->x<2 ^ (Lib.bitLenAux f x)/\(x≠0->2 ^ (Lib.bitLenAux f x)<=2*x)
 |0,x,h=>by simp at h;subst h;simp [Lib.bitLenAux]
 |f+1,x,h=>by
  unfold Lib.bitLenAux;by_cases e:x=0
  ·simp [e]
  ·rw [if_neg e]
   have ih:=pY f (x/2) (by rw [Nat.pow_succ]at h;omega);rw [Nat.pow_add,Nat.pow_one];refine⟨by omega,fun _=>?_⟩;by_cases e2:x/2=0
   ·have:x=1:=by omega
    subst this;cases f<;>simp [Lib.bitLenAux]
   ·have:=ih.2 e2
    omega
theorem bitLen_spec{y:Nat}(h0:y≠0)(hy:y<18446744073709551616):1<=Lib.bitLen y/\Lib.bitLen y<=64/\9223372036854775808<=y*2 ^ (64-Lib.bitLen y)/\y*2 ^ (64-Lib.bitLen y)<18446744073709551616:=by
 have hs:=pY 64 y (by omega);have hle:=Lib.bitLenAux_le 64 y 64 (by omega)
 change Lib.bitLen y<=64 at hle
 change y<2 ^ (Lib.bitLen y)/\(y≠0->2 ^ (Lib.bitLen y)<=2*y)at hs
 have yS:=hs.2 h0;have hp:2 ^ Lib.bitLen y*2 ^ (64-Lib.bitLen y)=18446744073709551616:=by
  rw [<-Nat.pow_add,show Lib.bitLen y+(64-Lib.bitLen y)=64 by omega]
 have jF:0<2 ^ (64-Lib.bitLen y):=Nat.pow_pos (by omega);refine⟨?_,hle,?_,?_⟩
 ·rcases Nat.eq_zero_or_pos (Lib.bitLen y)with e|e
  ·rw [e]at hs;simp at hs;omega
  ·exact e
 ·have:=Nat.mul_le_mul_right (2 ^ (64-Lib.bitLen y)) yS
  rw [hp,Nat.mul_assoc]at this;omega
 ·rw [<-hp]
  exact Nat.mul_lt_mul_of_pos_right hs.1 jF
section
variable{Y n1 n0 u u1 q r:Nat}
theorem JN(hY:Y=n1*4294967296+n0):q*Y=q*n1*4294967296+q*n0:=by rw [hY,Nat.mul_add,Nat.mul_assoc]
theorem dg1(hY:Y=n1*4294967296+n0)(hq:q*n1+r=u)(h:q*n0<=4294967296*r+u1):q*Y<=u*4294967296+u1:=by rw [JN hY];omega
theorem dg2(hY:Y=n1*4294967296+n0)(hq:q*n1+r=u)(h:4294967296*r+u1<q*n0):u*4294967296+u1<q*Y:=by rw [JN hY];omega
theorem dg3(hu:u<Y)(Kx:u1<4294967296)(h:4294967296<=q):u*4294967296+u1<q*Y:=by
 have:=Nat.mul_le_mul_right Y h;omega
theorem dg4(hY:Y=n1*4294967296+n0)(Gn:n0<4294967296)(hu:u<Y)(hq:q*n1+r=u)(hr:4294967296<=r):q*Y<=u*4294967296+u1:=by
 have h1:q*n1<4294967296*n1:=by omega
 have h2:q<4294967296:=Nat.lt_of_mul_lt_mul_right h1;have h3:q*n0<=4294967296*4294967296:=Nat.mul_le_mul (by omega) (by omega);rw [JN hY];omega
theorem Oq(hu:u<Y)(Kx:u1<4294967296)(h:q*Y<=u*4294967296+u1):q<4294967296:=by
 rcases Nat.lt_or_ge q 4294967296 with h'|h'
 ·exact h'
 ·have:=dg3 hu Kx h';omega
theorem BA(Gm:2147483648<=n1)(hu:u<18446744073709551616)(hq:q*n1+r=u):q<8589934592:=by
 rcases Nat.lt_or_ge q 8589934592 with h|h
 ·exact h
 ·have:=Nat.mul_le_mul h Gm
  omega
end
theorem GC{Y n1 n0 u u1:Nat}{quo rem s Ht SU:Int}{Q:aO}{w:World}(hY:Y=n1*4294967296+n0)(Gn:n0<4294967296)(Gm:2147483648<=n1)(LW:n1<4294967296)(hu:u<Y)(hY':Y<18446744073709551616)(Kx:u1<4294967296)
 (hex:∀q r:Nat,q*Y<=u*4294967296+u1->u*4294967296+u1<(q+1)*Y->Q (.exit 0) (bk.e1 (Y:Int) quo rem s n1 n0 Ht u1 SU ((q:Int),(r:Int))) w)
 (q0 r0:Nat) (h0:q0*n1+r0=u) (hX0:u*4294967296+u1<(q0+1)*Y) (ti:r0<4294967296):
 Holds none [] prog 135 (.loop (lB (bB (sL (fk (bU (aQ (body bk.fn)))))))) Q (bk.e1 (Y:Int) quo rem s n1 n0 Ht u1 SU ((q0:Int),(r0:Int))) w:=by
 refine bk.cC (I:=fun s w'=>w'=w/\∃q r:Nat,s=((q:Int),(r:Int))/\q*n1+r=u/\u*4294967296+u1<(q+1)*Y/\r<4294967296)
  (μ:=fun s _=>s.1.toNat) (s:=((q0:Int),(r0:Int))) ⟨rfl,q0,r0,rfl,h0,hX0,ti⟩ ?_
 rintro s w' ⟨hw,q,r,rfl,hq,hX,hr⟩;subst hw;have abr:=BA Gm (by omega) hq;have down:u*4294967296+u1<q*Y->∃q' r':Nat,u64.wrap ((q:Int)-1)=(q':Int)/\u64.wrap ((r:Int)+(n1:Int))=(r':Int)/\q'*n1+r'=u/\u*4294967296+u1<(q'+1)*Y/\q'<q:=by
  intro h;have Nz:1<=q:=by
   rcases Nat.eq_zero_or_pos q with e|e
   ·rw [e]at h;omega
   ·exact e
  refine⟨q-1,r+n1,?_,?_,?_,?_,by omega⟩
  ·rw [fT (by omega) (by omega)];omega
  ·rw [fT (by omega) (by omega)];omega
  ·have:q*n1=(q-1)*n1+n1:=by
    obtain⟨k,rfl⟩:∃k,q=k+1:=⟨q-1,by omega⟩;rw [Nat.succ_mul];rfl
   omega
  ·rwa [show q-1+1=q by omega]
 have step:∀q' r':Nat,q'*n1+r'=u->u*4294967296+u1<(q'+1)*Y->q'<q->∀b:Bool,b=decide ((r':Int)>=4294967296)->
  Split b (Q (.exit 0) (bk.e1 (Y:Int) quo rem s n1 n0 Ht u1 SU ((q':Int),(r':Int))) w') (bR (bk.e1 (Y:Int) quo rem s n1 n0 Ht u1 SU) (fun s jn=>jn=w'/\∃q r:Nat,s=((q:Int),(r:Int))/\q*n1+r=u/\u*4294967296+u1<(q+1)*Y/\r<4294967296) (fun s _=>s.1.toNat) ((q:Int),(r:Int)) w' Q .normal (bk.e1 (Y:Int) quo rem s n1 n0 Ht u1 SU ((q':Int),(r':Int))) w'):=by
  intro q' r' h1 h2 h3 b hb;subst hb;refine Split.dec (fun gA=>?_) (fun cY=>?_)
  ·exact hex q' r' (dg4 hY Gn hu h1 (by omega)) h2
  ·exact⟨_,rfl,⟨rfl,q',r',rfl,h1,h2,by omega⟩,by simp only;omega⟩
 refine Split.dec (fun gA=>?_) (fun cY=>?_)
 ·obtain⟨q',r',eq,er,h1,h2,h3⟩:=down (dg3 hu Kx (by simp only at gA;omega))
  simp only [eq,er];exact step q' r' h1 h2 h3 _ rfl
 ·simp only at cY
  have hqn:q*n0<18446744073709551616:=by
   have:q*n0<=4294967295*4294967295:=Nat.mul_le_mul (by omega) (by omega);omega
  have e1:u64.wrap ((q:Int)*(n0:Int))=((q*n0:Nat):Int):=by rw [<-Int.natCast_mul,fT (by omega) (by omega)]
  have e2:u64.wrap (u64.wrap (4294967296*(r:Int))+(u1:Int))=((4294967296*r+u1:Nat):Int):=by
   rw [fT (x:=4294967296*(r:Int)) (by omega) (by omega),fT (by omega) (by omega)];omega
  simp only [e1,e2];refine Split.dec (fun xY=>?_) (fun hle=>?_)
  ·obtain⟨q',r',eq,er,h1,h2,h3⟩:=down (dg2 hY hq (by omega))
   simp only [eq,er];exact step q' r' h1 h2 h3 _ rfl
  ·exact hex q r (dg1 hY hq (by omega)) hX
theorem GB{Y n1 n0 u u1:Nat}{quo rem s q1 Hu:Int}{Q:aO}{w:World}(hY:Y=n1*4294967296+n0)(Gn:n0<4294967296)(Gm:2147483648<=n1)(LW:n1<4294967296)(hu:u<Y)(hY':Y<18446744073709551616)(Kx:u1<4294967296)
 (hex:∀q r:Nat,q*Y<=u*4294967296+u1->u*4294967296+u1<(q+1)*Y->Q (.exit 2) (bk.e2 (Y:Int) quo rem s n1 n0 u1 q1 Hu ((r:Int),(q:Int))) w)
 (q0 r0:Nat) (h0:q0*n1+r0=u) (hX0:u*4294967296+u1<(q0+1)*Y) (ti:r0<4294967296):
 Holds none [] prog 135 (.loop (lB (bB (sL (fk (fk (aQ (body bk.fn)))))))) Q (bk.e2 (Y:Int) quo rem s n1 n0 u1 q1 Hu ((r0:Int),(q0:Int))) w:=by
 refine bk.gU (I:=fun s w'=>w'=w/\∃q r:Nat,s=((r:Int),(q:Int))/\q*n1+r=u/\u*4294967296+u1<(q+1)*Y/\r<4294967296)
  (μ:=fun s _=>s.2.toNat) (s:=((r0:Int),(q0:Int))) ⟨rfl,q0,r0,rfl,h0,hX0,ti⟩ ?_
 rintro s w' ⟨hw,q,r,rfl,hq,hX,hr⟩;subst hw;have abr:=BA Gm (by omega) hq;have down:u*4294967296+u1<q*Y->∃q' r':Nat,u64.wrap ((q:Int)-1)=(q':Int)/\u64.wrap ((r:Int)+(n1:Int))=(r':Int)/\q'*n1+r'=u/\u*4294967296+u1<(q'+1)*Y/\q'<q:=by
  intro h;have Nz:1<=q:=by
   rcases Nat.eq_zero_or_pos q with e|e
   ·rw [e]at h;omega
   ·exact e
  refine⟨q-1,r+n1,?_,?_,?_,?_,by omega⟩
  ·rw [fT (by omega) (by omega)];omega
  ·rw [fT (by omega) (by omega)];omega
  ·have:q*n1=(q-1)*n1+n1:=by
    obtain⟨k,rfl⟩:∃k,q=k+1:=⟨q-1,by omega⟩;rw [Nat.succ_mul];rfl
   omega
  ·rwa [show q-1+1=q by omega]
 have step:∀q' r':Nat,q'*n1+r'=u->u*4294967296+u1<(q'+1)*Y->q'<q->∀b:Bool,b=decide ((r':Int)>=4294967296)->
  Split b (Q (.exit 2) (bk.e2 (Y:Int) quo rem s n1 n0 u1 q1 Hu ((r':Int),(q':Int))) w') (bR (bk.e2 (Y:Int) quo rem s n1 n0 u1 q1 Hu) (fun s jn=>jn=w'/\∃q r:Nat,s=((r:Int),(q:Int))/\q*n1+r=u/\u*4294967296+u1<(q+1)*Y/\r<4294967296) (fun s _=>s.2.toNat) ((r:Int),(q:Int)) w' Q .normal (bk.e2 (Y:Int) quo rem s n1 n0 u1 q1 Hu ((r':Int),(q':Int))) w'):=by
  intro q' r' h1 h2 h3 b hb;subst hb;refine Split.dec (fun gA=>?_) (fun cY=>?_)
  ·exact hex q' r' (dg4 hY Gn hu h1 (by omega)) h2
  ·exact⟨_,rfl,⟨rfl,q',r',rfl,h1,h2,by omega⟩,by simp only;omega⟩
 refine Split.dec (fun gA=>?_) (fun cY=>?_)
 ·obtain⟨q',r',eq,er,h1,h2,h3⟩:=down (dg3 hu Kx (by simp only at gA;omega))
  simp only [eq,er];exact step q' r' h1 h2 h3 _ rfl
 ·simp only at cY
  have hqn:q*n0<18446744073709551616:=by
   have:q*n0<=4294967295*4294967295:=Nat.mul_le_mul (by omega) (by omega);omega
  have e1:u64.wrap ((q:Int)*(n0:Int))=((q*n0:Nat):Int):=by rw [<-Int.natCast_mul,fT (by omega) (by omega)]
  have e2:u64.wrap (u64.wrap (4294967296*(r:Int))+(u1:Int))=((4294967296*r+u1:Nat):Int):=by
   rw [fT (x:=4294967296*(r:Int)) (by omega) (by omega),fT (by omega) (by omega)];omega
  simp only [e1,e2];refine Split.dec (fun xY=>?_) (fun hle=>?_)
  ·obtain⟨q',r',eq,er,h1,h2,h3⟩:=down (dg2 hY hq (by omega))
   simp only [eq,er];exact step q' r' h1 h2 h3 _ rfl
  ·exact hex q r (dg1 hY hq (by omega)) hX
theorem XI(a:Nat)(ha:a<18446744073709551616):u64.wrap ((BitVec.ofInt 64 (a:Int)&&& BitVec.ofInt 64 (4294967295:Int)).toNat:Int)=((a%4294967296:Nat):Int):=by
 have h:=bits_and_u64_nat a 4294967295 ha (by omega);have e:a&&& 4294967295=a%4294967296:=Nat.and_two_pow_sub_one_eq_mod a 32;rw [e]at h;exact h
theorem orN(a b s:Nat)(ha:a*2 ^ s<18446744073709551616)(hb:b<2 ^ s)(xh:b<18446744073709551616):
 u64.wrap ((BitVec.ofInt 64 ((a*2 ^ s:Nat):Int)|||BitVec.ofInt 64 (b:Int)).toNat:Int)=((a*2 ^ s+b:Nat):Int):=by
 have h:=bits_or_u64_nat (a*2 ^ s) b ha xh;rw [Nat.mul_comm,<-Nat.two_pow_add_eq_or_of_lt hb,Nat.mul_comm]at h;exact h
theorem Ta(a k:Nat):Int.fdiv (a:Int) (2 ^ k)=((a/2 ^ k:Nat):Int):=by
 rw [Int.fdiv_eq_ediv_of_nonneg _ (by exact Int.le_of_lt (Int.pow_pos (by omega)))];rw [Int.natCast_ediv,Int.natCast_pow];rfl
theorem ZI(a k:Nat):(a:Int)*2 ^ k=((a*2 ^ k:Nat):Int):=by rw [Int.natCast_mul,Int.natCast_pow];rfl
theorem adQ{N u L u1 u0 v a b:Nat}(hN:N=u*18446744073709551616+L)(hL:L=u1*4294967296+u0)(hv:u*4294967296+u1-a=v)(ha:a<=u*4294967296+u1)(hb:b<=v*4294967296+u0):a*4294967296+b<=N:=by omega
theorem adP{N u L u1 u0 v a b:Nat}(hN:N=u*18446744073709551616+L)(hL:L=u1*4294967296+u0)(hv:u*4294967296+u1-a=v)(ha:a<=u*4294967296+u1)(hb:v*4294967296+u0<b):N<a*4294967296+b:=by omega
section
variable{w:World}{K:Value->World->Prop}
theorem oL(x:Nat)(hx:x<18446744073709551616)(hK:K (.int .i64 ((64-Lib.bitLen x:Nat):Int)) w):bC prog bits_LeadingZeros64.id #[.int .u64 x] w K:=by
 refine bits_LeadingZeros64.of (xm x hx ⟨_,rfl,?_⟩);have hle:=Lib.bitLen_le x 64 (by omega) (by omega)
 rwa [gF (by omega) (by omega),show(64:Int)-(Lib.bitLen x:Int)=((64-Lib.bitLen x:Nat):Int)by omega]
theorem xn(hi lo y:Nat)(YG:lo<18446744073709551616)(hy:y<18446744073709551616)(hhi:hi<y)
 (hK:∀r w',Kept Nil w w'->K (.tuple #[.int .u64 (((hi*18446744073709551616+lo)/y:Nat):Int),.int .u64 r]) w'):
 bC prog bk.id #[.int .u64 hi,.int .u64 lo,.int .u64 y] w K:=by
 refine bk.of (Split.no (beq_eq_false_iff_ne.2 (by omega)) (Split.no (decide_eq_false (by omega)) ?_));by_cases h0:hi=0
 ·subst h0
  refine Split.yes rfl ?_;intro w6;refine⟨by omega,by omega,?_⟩;have e:u64.wrap ((lo:Int).tdiv (y:Int))=(((0*18446744073709551616+lo)/y:Nat):Int):=by
   rw [Int.tdiv_eq_ediv_of_nonneg (by omega),Nat.zero_mul,Nat.zero_add,<-Int.natCast_ediv];have:=Nat.div_le_self lo y;generalize lo/y=z at*;exact fT (by omega) (by omega)
  rw [e];exact hK _ w6 (Kept.refl Nil w).drew
 ·refine Split.no (beq_eq_false_iff_ne.2 (by omega)) (oL y hy ⟨_,rfl,?_⟩)
  obtain⟨y7,ac1,hY1,hY2⟩:=bitLen_spec (y:=y) (by omega) hy;have hs:64-Lib.bitLen y<64:=by omega
  generalize 64-Lib.bitLen y=s at*;have eS:u64.wrap (s:Int)=(s:Int):=fT (by omega) (by omega);have eS2:u64.wrap ((64:Int)-(s:Int))=((64-s:Nat):Int):=by rw [fT (by omega) (by omega)];omega
  have em1:min s 64=s:=by omega
  have em2:min (64-s) 64=64-s:=by omega
  have em3:min (32:Int).toNat 64=32:=rfl;have Se:2 ^ (64-s)*2 ^ s=18446744073709551616:=by rw [<-Nat.pow_add,show 64-s+s=64 by omega]
  have jF:0<2 ^ s:=Nat.pow_pos (by omega);have U5:0<2 ^ (64-s):=Nat.pow_pos (by omega);simp only [eS,eS2,Int.toNat_natCast,em1,em2,em3,ZI];generalize hYd:y*2 ^ s=Y at*;have hhs:hi*2 ^ s<18446744073709551616:=by
   have:hi*2 ^ s<y*2 ^ s:=Nat.mul_lt_mul_of_pos_right hhi jF;omega
  have hlq:lo/2 ^ (64-s)<2 ^ s:=by
   rw [Nat.div_lt_iff_lt_mul U5,Nat.mul_comm,Se];exact YG
  have ab1:lo/2 ^ (64-s)<18446744073709551616:=Nat.lt_of_le_of_lt (Nat.div_le_self _ _) YG;have eY:u64.wrap (Y:Int)=(Y:Int):=fT (by omega) (by omega);have eH:u64.wrap ((hi*2 ^ s:Nat):Int)=((hi*2 ^ s:Nat):Int):=fT (by omega) (by omega);have eL:u64.wrap ((lo*2 ^ s:Nat):Int)=((lo*2 ^ s%18446744073709551616:Nat):Int):=by rw [IntKind.wrap_u64];omega
  have e32:∀a:Nat,Int.fdiv (a:Int) (2 ^ 32)=((a/4294967296:Nat):Int):=fun a=>Ta a 32;simp only [eY,eH,eL,e32,Ta lo,orN hi _ s hhs hlq ab1,XI Y (by omega),XI _ (Nat.mod_lt (lo*2 ^ s) (by omega:18446744073709551616>0))];have hN:(hi*18446744073709551616+lo)*2 ^ s=(hi*2 ^ s+lo/2 ^ (64-s))*18446744073709551616+lo*2 ^ s%18446744073709551616:=by
   have h1:lo*2 ^ s/18446744073709551616=lo/2 ^ (64-s):=by
    rw [<-Se,Nat.mul_div_mul_right _ _ jF]
   have h2:=Nat.div_add_mod (lo*2 ^ s) 18446744073709551616;rw [h1]at h2;rw [Nat.add_mul,Nat.mul_right_comm];omega
  have akJ:(hi*18446744073709551616+lo)*2 ^ s<Y*18446744073709551616:=by
   have h1:hi*18446744073709551616+lo<y*18446744073709551616:=by omega
   have:=Nat.mul_lt_mul_of_pos_right h1 jF;rw [Nat.mul_right_comm,hYd]at this;exact this
  have Ny:(hi*18446744073709551616+lo)*2 ^ s/Y=(hi*18446744073709551616+lo)/y:=by rw [<-hYd,Nat.mul_div_mul_right _ _ jF]
  rw [<-Ny]at hK;clear Ny;generalize (hi*18446744073709551616+lo)*2 ^ s=N at*;have hL:lo*2 ^ s%18446744073709551616<18446744073709551616:=Nat.mod_lt _ (by omega);generalize lo*2 ^ s%18446744073709551616=L at*;generalize hi*2 ^ s+lo/2 ^ (64-s)=u at*;have hu:u<Y:=by omega
  have Gm:2147483648<=Y/4294967296:=by omega
  have LW:Y/4294967296<4294967296:=by omega
  have Gn:Y%4294967296<4294967296:=by omega
  have hYe:Y=Y/4294967296*4294967296+Y%4294967296:=by omega
  have Kx:L/4294967296<4294967296:=by omega
  have hu0:L%4294967296<4294967296:=by omega
  have hLe:L=L/4294967296*4294967296+L%4294967296:=by omega
  generalize Y/4294967296=n1 at*;generalize Y%4294967296=n0 at*;generalize L/4294967296=u1 at*;generalize L%4294967296=u0 at*;have On:∀v:Nat,v<18446744073709551616->u64.wrap ((v:Int).tdiv (n1:Int))=((v/n1:Nat):Int)/\u64.wrap ((v:Int)-u64.wrap (((v/n1:Nat):Int)*(n1:Int)))=((v%n1:Nat):Int)/\v/n1*n1+v%n1=v/\v%n1<n1:=by
   intro v hv;have h1:=Nat.div_le_self v n1;have h2:=Nat.div_add_mod' v n1;refine⟨?_,?_,h2,Nat.mod_lt _ (by omega)⟩
   ·rw [Int.tdiv_eq_ediv_of_nonneg (by omega),<-Int.natCast_ediv]
    generalize v/n1=z at*;exact fT (by omega) (by omega)
   ·rw [<-Int.natCast_mul,fT (x:=((v/n1*n1:Nat):Int)) (by omega) (by omega),fT (by omega) (by omega)]
    omega
  have first:∀v d:Nat,v<Y->d<4294967296->v*4294967296+d<(v/n1+1)*Y:=by
   intro v d hv hd;have h2:=Nat.div_add_mod' v n1;have h3:=Nat.mod_lt v (show 0<n1 by omega);have h4:v+1<=(v/n1+1)*n1:=by rw [Nat.succ_mul];omega
   have h5:(v+1)*4294967296<=(v/n1+1)*n1*4294967296:=Nat.mul_le_mul_right _ h4;have h6:(v/n1+1)*n1*4294967296<=(v/n1+1)*Y:=by
    have h7:n1*4294967296<=Y:=Nat.le_trans (Nat.le_add_right _ n0) (Nat.le_of_eq hYe.symm);rw [Nat.mul_assoc];exact Nat.mul_le_mul_left _ h7
   omega
  obtain⟨g1,g2,g3,g4⟩:=On u (by omega);simp only [g1,g2];refine⟨by omega,by omega,by omega,by omega,by omega,by omega,by omega,?_⟩;refine GC hYe Gn Gm LW hu (by omega) Kx ?_ (u/n1) (u%n1) g3 (first u u1 hu Kx) (by omega);intro q r Nz Sd;rw [show bk.e1 (Y:Int) 0 0 (s:Int) (n1:Int) (n0:Int) (u:Int) (u1:Int) (u0:Int) ((q:Int),(r:Int))= [(2,.int .u64 (Y:Int)),(6,.int .u64 0),(7,.int .u64 0),(8,.int .u64 (s:Int)),(9,.int .u64 (n1:Int)),(10,.int .u64 (n0:Int)),(11,.int .u64 (u:Int)),(13,.int .u64 (u1:Int)),(14,.int .u64 (u0:Int)),(15,.int .u64 (q:Int)),(16,.int .u64 (r:Int))]from rfl];rw [bk.df];have hqB:=Oq hu Kx Nz;rw [Nat.succ_mul]at Sd;have hp:u64.wrap (u64.wrap (u64.wrap ((u:Int)*4294967296)+(u1:Int))-u64.wrap ((q:Int)*(Y:Int)))=((u*4294967296+u1-q*Y:Nat):Int):=by
   rw [<-Int.natCast_mul q Y];simp only [IntKind.wrap_u64];generalize q*Y=p at*;omega
  unfold bk.cU;simp only [hp];have hv:u*4294967296+u1-q*Y<Y:=by omega
  generalize hvd:u*4294967296+u1-q*Y=v at*;obtain⟨g1',Y7,g3',g4'⟩:=On v (by omega);simp only [g1',Y7];refine⟨by omega,?_⟩;refine GB hYe Gn Gm LW hv (by omega) hu0 ?_ (v/n1) (v%n1) g3' (first v u0 hv hu0) (by omega);intro q' r' U4 abt;rw [show bk.e2 (Y:Int) 0 0 (s:Int) (n1:Int) (n0:Int) (u0:Int) (q:Int) (v:Int) ((r':Int),(q':Int))= [(2,.int .u64 (Y:Int)),(6,.int .u64 0),(7,.int .u64 0),(8,.int .u64 (s:Int)),(9,.int .u64 (n1:Int)),(10,.int .u64 (n0:Int)),(14,.int .u64 (u0:Int)),(15,.int .u64 (q:Int)),(16,.int .u64 (r':Int)),(17,.int .u64 (v:Int)),(18,.int .u64 (q':Int))]from rfl];rw [bk.jN];have ajh:=Oq hv hu0 U4;refine⟨by omega,?_⟩;have aa9:u64.wrap (u64.wrap ((q:Int)*4294967296)+(q':Int))=((N/Y:Nat):Int):=by
   rw [fT (x:=(q:Int)*4294967296) (by omega) (by omega),fT (by omega) (by omega)];have:N/Y=q*4294967296+q':=by
    apply Nat.div_eq_of_lt_le
    ·rw [Nat.add_mul,Nat.mul_right_comm]
     exact adQ hN hLe hvd Nz U4
    ·rw [Nat.add_assoc,Nat.add_mul,Nat.mul_right_comm]
     exact adP hN hLe hvd Nz abt
   rw [this];omega
  rw [aa9];exact hK _ w (Kept.refl Nil w)
end
end Go.Proofs.YtfleamccglihoaaGreatDoor.Tr
namespace Go.Proofs.YtfleamccglihoaaGreatDoor.Tr
open Go.Proofs.Tryz
structure lW(T T':List Nd):Prop where
 len:T'.length=T.length
 at_:∀(i:Nat) nd,T[i]? =some nd->∃nd',T'[i]? =some nd'/\nd'.parent=nd.parent/\nd'.ch=nd.ch
theorem lW.refl(T:List Nd):lW T T:=⟨rfl,fun _ nd h=>⟨nd,h,rfl,rfl⟩⟩
theorem lW.trans{T T' ER:List Nd}(h:lW T T')(h':lW T' ER):lW T ER:=⟨h'.len.trans h.len,fun i nd hi=>by
 obtain⟨nd',h1,h2,h3⟩:=h.at_ i nd hi;obtain⟨Z0,g1,g2,g3⟩:=h'.at_ i nd' h1;exact⟨Z0,g1,g2.trans h2,g3.trans h3⟩⟩
theorem lW.back{T T':List Nd}(h:lW T T'){i:Nat}{nd':Nd}(hi:T'[i]? =some nd'):∃nd,T[i]? =some nd/\nd'.parent=nd.parent/\nd'.ch=nd.ch:=by
 have cY:=(lgeS hi).1;obtain⟨nd,gu⟩:=gB (T:=T) (i:=i) (by rw [<-h.len];exact cY);obtain⟨x,h1,h2,h3⟩:=h.at_ i nd gu;rw [hi]at h1;cases h1;exact⟨nd,gu,h2,h3⟩
theorem lW.b0{T T':List Nd}(h:lW T T'):b0 T'=b0 T:=by
 apply List.ext_getElem?;intro i;rcases Nat.lt_or_ge i T.length with hi|hi
 ·obtain⟨nd,gu⟩:=gB hi
  obtain⟨nd',h1,h2,_⟩:=h.at_ i nd gu;rw [lO gu,lO h1,h2]
 ·rw [List.getElem?_eq_none (by rw [fi,h.len];exact hi),List.getElem?_eq_none (by rw [fi];exact hi)]
theorem lW.shape{T T':List Nd}(h:lW T T')(hS:Shape T):Shape T':=⟨by rw [h.b0];exact hS.par,fun i nd' hi=>by
 obtain⟨nd,gu,_,h3⟩:=h.back hi;rw [h.b0,h3,hS.ch i nd gu]⟩
theorem lW.set{T:List Nd}{i:Nat}{nd nd':Nd}(hi:T[i]? =some nd)(h1:nd'.parent=nd.parent)(h2:nd'.ch=nd.ch):lW T (T.set i nd'):=
 ⟨by simp,fun j x hj=>by
   by_cases e:i=j
   ·subst e
    rw [hi]at hj;cases hj;exact⟨nd',iZ hi,h1,h2⟩
   ·exact⟨x,oJ hj e,rfl,rfl⟩⟩
theorem x8{T:List Nd}{n p:Nat}{nd pd:Nd}{many:Int}(hn:T[n]? =some nd)(hp:T[p]? =some pd)(fM:n≠p)(i:Nat):
 (we T n p nd pd many)[i]? =if i=p then some {pd with free:=pd.free+many}else if i=n then some {nd with lo:=pd.free,hi:=pd.free+many-1,free:=pd.free}else T[i]? :=by
 unfold we;by_cases e:i=p
 ·subst e
  rw [if_pos rfl];exact iZ (oJ hp fM)
 ·rw [if_neg e,List.getElem?_set_ne (fun h=>e h.symm)]
  by_cases e2:i=n
  ·subst e2
   rw [if_pos rfl];exact iZ hn
  ·rw [if_neg e2,List.getElem?_set_ne (fun h=>e2 h.symm)]
theorem wc{T:List Nd}{n p:Nat}{nd pd:Nd}(many:Int)(hn:T[n]? =some nd)(hp:T[p]? =some pd)(fM:n≠p):lW T (we T n p nd pd many):=
 (lW.set (nd':= {nd with lo:=pd.free,hi:=pd.free+many-1,free:=pd.free}) hn rfl rfl).trans (lW.set (nd:=pd) (nd':= {pd with free:=pd.free+many}) (oJ hp fM) rfl rfl)
theorem zR{l:List Nat}(hs:l.Pairwise (· < ·)){k c:Nat}(hc:l[k]? =some c):∀y,y∈l.take k->y<c:=by
 intro y hy;obtain⟨j,hj⟩:=List.mem_iff_getElem?.1 hy;rw [List.getElem?_take]at hj;split at hj
 ·rename_i cY
  obtain⟨h1,e1⟩:=lgeS hj;obtain⟨h2,e2⟩:=lgeS hc;rw [<-e1,<-e2];exact List.pairwise_iff_getElem.1 hs j k h1 h2 cY
 ·cases hj
theorem ow{l:List Nat}{k c:Nat}(hc:l[k]? =some c):l.take (k+1)=l.take k++ [c]:=by
 rw [List.take_add_one,hc];rfl
structure qf(P:List Int)(T1:List Nd)(x:Nat)(xd:Nd)(half:Int)(k:Nat)(T':List Nd)(f:Int):Prop where
 ox:lW T1 T'
 here:T'[x]? =some {xd with free:=f}
 rest:∀y,y≠x->y∉xd.ch.take k->T'[y]? =T1[y]?
 lo:xd.lo+(((xd.ch.take k).map (sz P)).sum:Nat)<=f
 up:(f-xd.lo-(((xd.ch.take k).map (sz P)).sum:Nat))*(sz P x:Int)<=half*(((xd.ch.take k).map (sz P)).sum:Nat)
 qY:∀c cd,c∈xd.ch.take k->T'[c]? =some cd->xd.lo<=cd.lo/\cd.hi<f/\(sz P c:Int)<=cd.hi-cd.lo+1
 ord:∀c c' cd wB,c∈xd.ch.take k->c'∈xd.ch.take k->c<c'->T'[c]? =some cd->T'[c']? =some wB->cd.hi<wB.lo
section
variable{P:List Int}{T1 T':List Nd}{x:Nat}{xd:Nd}{half f:Int}{k:Nat}
theorem qf.start(hx:T1[x]? =some xd)(hf:xd.free=xd.lo):qf P T1 x xd half 0 T1 xd.lo:= {
 ox:=lW.refl _
 here:=by obtain⟨a,b,c,d,e⟩:=xd;simp only at hf;subst hf;exact hx
 rest:=fun _ _ _=>rfl
 lo:=by simp
 up:=by simp
 qY:=fun c cd hc=>by simp at hc
 ord:=fun c c' cd wB hc=>by simp at hc}
theorem qf.bound(h:qf P T1 x xd half k T' f)(hh:0<=half)(R8:1<=sz P x)(IW:((xd.ch.take k).map (sz P)).sum<=sz P x):f<=xd.lo+(((xd.ch.take k).map (sz P)).sum:Nat)+half:=by
 have h1:half*(((xd.ch.take k).map (sz P)).sum:Nat)<=half*(sz P x:Int):=Int.mul_le_mul_of_nonneg_left (by omega) hh;have h2:=Int.le_trans h.up h1;have h3:=Int.le_of_mul_le_mul_right h2 (by omega);omega
theorem qf.step(h:qf P T1 x xd half k T' f)(hs:xd.ch.Pairwise (· < ·)){c:Nat}(hx:∀y,y∈xd.ch->x<y)(hc:xd.ch[k]? =some c){cd:Nd}(jX:T'[c]? =some cd)
 {more:Int} (Si:0<=more) (hm:more*(sz P x:Int)<=half*(sz P c:Int)) (Er:1<=sz P c):
 qf P T1 x xd half (k+1) (we T' c x cd {xd with free:=f} ((sz P c:Int)+more)) (f+((sz P c:Int)+more)):=by
 have cY:=zR hs hc;have hxc:x<c:=hx c (List.mem_of_getElem? hc);have Vn:c∉xd.ch.take k:=fun hh=>Nat.lt_irrefl _ (cY c hh);have gV:=x8 (many:=(sz P c:Int)+more) jX h.here (by omega);have IW:((xd.ch.take (k+1)).map (sz P)).sum=((xd.ch.take k).map (sz P)).sum+sz P c:=by rw [ow hc];simp
 have iY:∀y,y∈xd.ch.take (k+1)↔y∈xd.ch.take k\/y=c:=by intro y;rw [ow hc];simp
 exact {
  ox:=h.ox.trans (wc _ jX h.here (by omega))
  here:=by rw [gV,if_pos rfl]
  rest:=fun y hy hn=>by
   rw [gV,if_neg hy,if_neg (fun e=>hn ((iY y).2 (.inr e)))];exact h.rest y hy (fun hh=>hn ((iY y).2 (.inl hh)))
  lo:=by rw [IW];have:=h.lo;omega
  up:=by
   rw [IW];have h1:=h.up;have e1:(f+((sz P c:Int)+more)-xd.lo-((((xd.ch.take k).map (sz P)).sum+sz P c:Nat):Int))*(sz P x:Int)=(f-xd.lo-((((xd.ch.take k).map (sz P)).sum:Nat):Int))*(sz P x:Int)+more*(sz P x:Int):=by
    rw [<-Int.add_mul];congr 1;omega
   have e2:half*((((xd.ch.take k).map (sz P)).sum+sz P c:Nat):Int)=half*((((xd.ch.take k).map (sz P)).sum:Nat):Int)+half*(sz P c:Int):=by
    rw [<-Int.mul_add];congr 1
   rw [e1,e2];omega
  qY:=fun y yd hy CF=>by
   have YG:=h.lo;rw [gV]at CF;rcases(iY y).1 hy with hh|rfl
   ·have h1:=cY y hh
    have h2:=hx y (List.mem_of_mem_take hh);rw [if_neg (by omega),if_neg (by omega)]at CF;have:=h.qY y yd hh CF;exact⟨this.1,by omega,this.2.2⟩
   ·rw [if_neg (by omega),if_pos rfl]at CF
    cases CF;refine⟨?_,?_,?_⟩<;>simp only<;>omega
  ord:=fun a b ad bd ha hb jT KE Oc=>by
   rw [gV]at KE Oc;rcases(iY b).1 hb with xh|rfl
   ·have h1:=cY b xh
    rcases(iY a).1 ha with BY|rfl
    ·have h2:=hx a (List.mem_of_mem_take BY)
     rw [if_neg (by omega),if_neg (by omega)]at KE Oc;exact h.ord a b ad bd BY xh jT KE Oc
    ·omega
   ·rcases(iY a).1 ha with BY|rfl
    ·have h1:=cY a BY
     have h2:=hx a (List.mem_of_mem_take BY);rw [if_neg (by omega),if_neg (by omega)]at KE;rw [if_neg (by omega),if_pos rfl]at Oc;cases Oc;exact(h.qY a ad BY KE).2.1
    ·omega}
end
structure om(P:List Int)(T0:List Nd)(m:Nat)(T':List Nd)(q:List Nat)(i:Nat):Prop where
 ox:lW T0 T'
 nodup:q.Nodup
 pg:∀y,y∈q->kR P y m
 fst:m∈q
 src:∀y,y∈q->y=m\/∃z:Nat,z∈q.take i/\P[y]? =some (z:Int)
 Zd:∀z,z∈q.take i->∀c,c∈kids P z->c∈q
 rest:∀y,y∉q->T'[y]? =T0[y]?
 top:∀md TD,T0[m]? =some md->T'[m]? =some TD->TD.lo=md.lo/\TD.hi=md.hi
 room:∀y yd,y∈q->T'[y]? =some yd->1<=yd.lo/\yd.hi<=4611686018427387904/\(sz P y:Int)<=yd.hi-yd.lo+1
 loc:∀z zd,z∈q.take i->T'[z]? =some zd->Loc T' zd
theorem om.start{P:List Int}{T0:List Nd}{m:Nat}{md:Nd}(hm:m<P.length)(xX:T0[m]? =some md)(h1:1<=md.lo)(h2:md.hi<=4611686018427387904)(h3:(sz P m:Int)<=md.hi-md.lo+1):
 om P T0 m T0 [m] 0:= {
 ox:=lW.refl _
 nodup:=by simp
 pg:=fun y hy=>by simp at hy;subst hy;exact .refl hm
 fst:=by simp
 src:=fun y hy=>by simp at hy;exact .inl hy
 Zd:=fun z hz=>by simp at hz
 rest:=fun _ _=>rfl
 top:=fun a b ha hb=>by rw [ha]at hb;cases hb;exact⟨rfl,rfl⟩
 room:=fun y yd hy CF=>by
  simp at hy;subst hy;rw [xX]at CF;cases CF;exact⟨h1,h2,h3⟩
 loc:=fun z zd hz=>by simp at hz}
section
variable{T0 T' ER:List Nd}{m x i:Nat}{q:List Nat}{xd:Nd}{f half:Int}
theorem om.step(hS:Shape T0)(h:om (b0 T0) T0 m T' q i)(hq:q[i]? =some x)(Kv:T'[x]? =some xd)
 (EB:0<=half) (acg:half*2<=xd.hi-xd.lo-((sz (b0 T0) x:Int)-1))
 (gK:qf (b0 T0) (T'.set x {xd with free:=xd.lo}) x {xd with free:=xd.lo} half xd.ch.length ER f):
 om (b0 T0) T0 m ER (q++xd.ch) (i+1):=by
 have YW:=h.ox.shape hS;have hpe:=h.ox.b0;have hP:=hS.par;have kQ:xd.ch=kids (b0 T0) x:=by rw [YW.ch x xd Kv,hpe]
 have dS:i<q.length:=(lgeS hq).1;have IK:x∈q:=List.mem_of_getElem? hq;have sZ:x<(b0 T0).length:=(h.pg x IK).lt;have zy:q.take (i+1)=q.take i++ [x]:=ow hq;have P8:(q++xd.ch).take (i+1)=q.take i++ [x]:=by rw [List.take_append_of_le_length (by omega),zy]
 have Ni:x∉q.take i:=by
  intro hh;have hn:(q.take i++ [x]).Nodup:=by rw [<-zy];exact h.nodup.sublist (List.take_sublist _ _)
  rw [List.nodup_append]at hn;exact hn.2.2 x hh x (by simp) rfl
 have Gp:∀c,c∈xd.ch->(b0 T0)[c]? =some (x:Int):=fun c hc=>eE.1 (kQ▸hc);have xY:∀c,c∈xd.ch->x<c:=fun c hc=>(iJ hP (kQ▸hc)).1;have nz:∀c,c∈xd.ch->c∉q:=by
  intro c hc YN;rcases h.src c YN with rfl|⟨z,hz,YC⟩
  ·have:=(h.pg x IK).le hP
   have:=xY _ hc;omega
  ·rw [Gp c hc]at YC
   have:z=x:=by have:=Option.some.inj YC;omega
   exact Ni (this▸hz)
 have aix:x∉xd.ch:=fun hh=>Nat.lt_irrefl _ (xY x hh);have dt:∀c,c∈(({xd with free:=xd.lo}:Nd).ch.take xd.ch.length)↔c∈xd.ch:=by intro c;simp
 have IW:(xd.ch.map (sz (b0 T0))).sum+1=sz (b0 T0) x:=by
  rw [kQ];exact DO hP sZ
 have jF:=uW hP sZ;have Sm:=gK.bound EB jF (by simp only [List.take_length];omega);have acu:=gK.lo;simp only [List.take_length]at Sm acu;have acv:f<=xd.hi:=by omega
 have hT1:∀y,y≠x->(T'.set x {xd with free:=xd.lo})[y]? =T'[y]? :=fun y hy=>List.getElem?_set_ne (fun e=>hy e.symm);have I6:∀y,y≠x->y∉xd.ch->ER[y]? =T'[y]? :=fun y hy hn=>by
  rw [gK.rest y hy (fun hh=>hn ((dt y).1 hh)),hT1 y hy]
 have NT:ER[x]? =some {xd with free:=f}:=gK.here;have hxr:=h.room x xd IK Kv;have hlh:xd.lo<=xd.hi:=by omega
 have hold:∀y zG,y∉xd.ch->ER[y]? =some zG->∃yd,T'[y]? =some yd/\yd.lo=zG.lo/\yd.hi=zG.hi:=by
  intro y zG hn hy;by_cases e:y=x
  ·subst e
   rw [NT]at hy;cases hy;exact⟨xd,Kv,rfl,rfl⟩
  ·rw [I6 y e hn]at hy
   exact⟨zG,hy,rfl,rfl⟩
 exact {
  ox:=(h.ox.trans (lW.set (nd':= {xd with free:=xd.lo}) Kv rfl rfl)).trans gK.ox
  nodup:=by
   rw [List.nodup_append];refine⟨h.nodup,?_,fun a ha b hb e=>nz b hb (e▸ha)⟩;rw [kQ];exact(tO _ _).imp (fun h=>by omega)
  pg:=fun y hy=>by
   rcases List.mem_append.1 hy with hy|hy
   ·exact h.pg y hy
   ·exact .step (Gp y hy) (h.pg x IK)
  fst:=List.mem_append.2 (.inl h.fst)
  src:=fun y hy=>by
   rw [P8];rcases List.mem_append.1 hy with hy|hy
   ·rcases h.src y hy with e|⟨z,hz,YC⟩
    ·exact .inl e
    ·exact .inr ⟨z,List.mem_append.2 (.inl hz),YC⟩
   ·exact .inr ⟨x,by simp,Gp y hy⟩
  Zd:=fun z hz c hc=>by
   rw [P8]at hz;rcases List.mem_append.1 hz with hz|hz
   ·exact List.mem_append.2 (.inl (h.Zd z hz c hc))
   ·simp at hz
    subst hz;exact List.mem_append.2 (.inr (kQ▸hc))
  rest:=fun y hy=>by
   have h1:y∉q:=fun hh=>hy (List.mem_append.2 (.inl hh));have h2:y∉xd.ch:=fun hh=>hy (List.mem_append.2 (.inr hh));rw [I6 y (fun e=>h1 (e▸IK)) h2,h.rest y h1]
  top:=fun md Z4 xX VD=>by
   obtain⟨TD,h1,h2,h3⟩:=hold m Z4 (fun hh=>nz m hh h.fst) VD;have:=h.top md TD xX h1;omega
  room:=fun y zG hy Nh=>by
   rcases List.mem_append.1 hy with hy|hy
   ·obtain⟨yd,h1,h2,h3⟩:=hold y zG (fun hh=>nz y hh hy) Nh
    have:=h.room y yd hy h1;omega
   ·have:=gK.qY y zG ((dt y).2 hy) Nh
    simp only at this;omega
  loc:=fun z zd hz hzd=>by
   rw [P8]at hz;rcases List.mem_append.1 hz with hz|hz
   ·have hzq:z∈q:=List.mem_of_mem_take hz
    have Uy:z≠x:=fun e=>Ni (e▸hz);have PV:=hzd;rw [I6 z Uy (fun hh=>nz z hh hzq)]at PV;have hl:=h.loc z zd hz PV;have aaB:zd.ch=kids (b0 T0) z:=by rw [YW.ch z zd PV,hpe]
    have YO:∀c,c∈zd.ch->c∉xd.ch:=by
     intro c hc KC;have h1:=Gp c KC;rw [eE.1 (aaB▸hc:c∈kids (b0 T0) z)]at h1;have:=Option.some.inj h1;omega
    exact {
     He:=hl.He
     De:=hl.De
     sub:=fun c cd hc jX=>by
      obtain⟨wB,h1,h2,h3⟩:=hold c cd (YO c hc) jX;have:=hl.sub c wB hc h1;omega
     ord:=fun c c' cd wB hc tm xZ jX rh=>by
      obtain⟨ed,h1,h2,h3⟩:=hold c cd (YO c hc) jX;obtain⟨Ro,rD,uv,BZ⟩:=hold c' wB (YO c' tm) rh;have:=hl.ord c c' ed Ro hc tm xZ h1 rD;omega}
   ·simp at hz
    subst hz;rw [NT]at hzd;cases hzd;exact {
     He:=by simp only;omega
     De:=acv
     sub:=fun c cd hc jX=>by
      have:=gK.qY c cd ((dt c).2 hc) jX;simp only at this⊢;omega
     ord:=fun c c' cd wB hc tm xZ jX rh=>gK.ord c c' cd wB ((dt c).2 hc) ((dt c').2 tm) xZ jX rh}}
theorem om.fin(hS:Shape T0)(h:om (b0 T0) T0 m T' q i)(hi:q.length<=i)
 (Vd:∀y nd,T0[y]? =some nd->¬kR (b0 T0) y m->Iv nd/\Loc T0 nd):Good T':=by
 have YW:=h.ox.shape hS;have hpe:=h.ox.b0;have hP:=hS.par;have zy:q.take i=q:=List.take_of_length_le hi;have qC:∀y,kR (b0 T0) y m->y∈q:=by
  have:∀y k,kR (b0 T0) y k->k=m->y∈q:=by
   intro y k hu
   induction hu with
   |refl=>intro e;subst e;exact h.fst
   | @step a b c hp h' ih=>intro e;exact h.Zd b (by rw [zy];exact ih e) a (eE.2 hp)
  exact fun y hu=>this y m hu rfl
 have hq:∀y,y∈q↔kR (b0 T0) y m:=fun y=>⟨h.pg y,qC y⟩;refine⟨YW,fun y yd CF=>?_,fun y yd CF=>?_⟩
 ·by_cases hy:y∈q
  ·have hr:=h.room y yd hy CF
   have:=uW hP (h.pg y hy).lt;exact⟨hr.1,by omega,hr.2.1⟩
  ·rw [h.rest y hy]at CF
   exact(Vd y yd CF (fun hu=>hy (qC y hu))).1
 ·by_cases hy:y∈q
  ·exact h.loc y yd (by rw [zy];exact hy) CF
  ·have PX:=CF
   rw [h.rest y hy]at PX;have hl:=(Vd y yd PX (fun hu=>hy (qC y hu))).2;have kQ:=hS.ch y yd PX;have hold:∀c cd,c∈yd.ch->T'[c]? =some cd->∃ed,T0[c]? =some ed/\ed.lo=cd.lo/\ed.hi=cd.hi:=by
    intro c cd hc jX;by_cases YN:c∈q
    ·have hpc:=eE.1 (kQ▸hc:c∈kids (b0 T0) y)
     have nD:c=m:=by
      by_cases e:c=m
      ·exact e
      ·exact absurd (qC y ((h.pg c YN).inv e hpc)) hy
     subst nD;obtain⟨ed,hed,_⟩:=h.ox.back jX;have:=h.top ed cd hed jX;exact⟨ed,hed,by omega,by omega⟩
    ·rw [h.rest c YN]at jX
     exact⟨cd,jX,rfl,rfl⟩
   exact {
    He:=hl.He
    De:=hl.De
    sub:=fun c cd hc jX=>by
     obtain⟨ed,h1,h2,h3⟩:=hold c cd hc jX;have:=hl.sub c ed hc h1;omega
    ord:=fun c c' cd wB hc tm xZ jX rh=>by
     obtain⟨ed,h1,h2,h3⟩:=hold c cd hc jX;obtain⟨Ro,rD,uv,BZ⟩:=hold c' wB tm rh;have:=hl.ord c c' ed Ro hc tm xZ h1 rD;omega}
end
open Go Go.RowKit Go.bW
theorem Pd{l:List Nat}{a:Nat}(h:a∈l):a<=l.sum:=by
 induction l with
 |nil=>simp at h
 |cons b l ih=>
  rw [List.sum_cons];rcases List.mem_cons.1 h with rfl|h
  ·omega
  ·have:=ih h;omega
theorem AX{l:List Nat}{j x:Nat}(h:l[j]? =some x):(ints l)[j]? =some (.int .i64 (x:Int)):=by simp [ints,h]
theorem II(l:List Nat):(ints l).length=l.length:=by simp [ints]
theorem IH(l:List Nat):∀u∈ints l,u.oneCell'=true:=by
 intro u hu;simp only [ints,List.mem_map]at hu;obtain⟨x,_,rfl⟩:=hu;rfl
structure Dl(w0:World)(S:Nat->Prop)(g b c B0 B1 len:Nat)(P:List Int)(d:Int)(As:Option Addr)(w:World)(T':List Nd)(L:List (Nd×Value))(Aq:Option Addr)(nq cq:Nat)(q:List Nat):Prop where
 tv:TV w S g T' d b c L
 rs:Row w B0 jg 1 As len len (us (sz P) len)
 sb:∀k,bn As=some k->k<B1
 rq:Row w B1 eW 1 Aq nq cq (ints q)
 kp:Kept S w0 w
 hS:∀k,S k->k<B0
 hB:B0<=B1
 JB:B1<=w.heap.size
 h0:w0.heap.size<=B0
section
variable{w0 w w':World}{S:Nat->Prop}{g b c B0 B1 len:Nat}{P:List Int}{d:Int}{As:Option Addr}{T' ER:List Nd}{L L':List (Nd×Value)}{Aq:Option Addr}{nq cq:Nat}{q:List Nat}
theorem Dl.K0(h:Dl w0 S g b c B0 B1 len P d As w T' L Aq nq cq q):nq=q.length:=by
 have:=Row.len h.rq;rw [II]at this;omega
theorem Dl.quiet(h:Dl w0 S g b c B0 B1 len P d As w T' L Aq nq cq q)(hk:Kept Nil w w'):Dl w0 S g b c B0 B1 len P d As w' T' L Aq nq cq q:= {
 tv:=h.tv.kept hk
 rs:=Row.aF h.rs hk (fun _ _ h=>h)
 sb:=h.sb
 rq:=Row.aF h.rq hk (fun _ _ h=>h)
 kp:=h.kp.trans hk (fun _ _ h=>h.elim)
 hS:=h.hS
 hB:=h.hB
 JB:=Nat.le_trans h.JB hk.size
 h0:=h.h0}
theorem Dl.wrote(h:Dl w0 S g b c B0 B1 len P d As w T' L Aq nq cq q)(hk:Kept (fun k=>k=b) w w')(ht:TV w' S g ER d b c L'):Dl w0 S g b c B0 B1 len P d As w' ER L' Aq nq cq q:= {
 tv:=ht
 rs:=Row.aF h.rs hk (fun k e e2=>by have:=(Row.bL h.rs e).1;have:=h.hS b h.tv.gI;omega)
 sb:=h.sb
 rq:=Row.aF h.rq hk (fun k e e2=>by have:=(Row.bL h.rq e).1;have:=h.hS b h.tv.gI;have:=h.hB;omega)
 kp:=h.kp.trans hk (fun k _ e=>by rw [e];exact h.tv.gI)
 hS:=h.hS
 hB:=h.hB
 JB:=Nat.le_trans h.JB hk.size
 h0:=h.h0}
theorem Dl.DY(h:Dl w0 S g b c B0 B1 len P d As w T' L Aq nq cq q){j:Nat}(hj:j<len){k:Int->Prop}(hk:k (sz P j)):
 Is As fun a=>∃t,w.cell? (a.add (j*1))=some (.int .u64 t)/\k t:=by
 have hr:=h.rs;obtain⟨b',rfl⟩:=Row.some hr (by omega);exact⟨_,by rw [mQ,Nat.mul_one];exact Row.cell hr (pr _ hj),hk⟩
theorem Dl.Tn(h:Dl w0 S g b c B0 B1 len P d As w T' L Aq nq cq q){j x:Nat}(hj:q[j]? =some x){k:Int->Prop}(hk:k x):
 Is Aq fun a=>∃t,w.cell? (a.add (j*1))=some (.int .i64 t)/\k t:=by
 have hr:=h.rq;have cY:=(lgeS hj).1;obtain⟨b',rfl⟩:=Row.some hr (by rw [h.K0];omega);exact⟨_,by rw [mQ,Nat.mul_one];exact Row.cell hr (AX hj),hk⟩
theorem Dl.push(h:Dl w0 S g b c B0 B1 len P d As w T' L Aq nq cq q)(vU:q.length<=4000000)(x:Nat){w1:World}(e1:w1=w.alloc (.cells #[.int .i64 (x:Int)] eW)):
 ∃KL KH w2,(Builtin.append_ #[jB,jB] jB #[.slice Aq nq cq,.slice (some ⟨w.heap.size,0,none⟩) 1 1]).run prog w1=.ok (.slice KL (nq+1) KH) w2/\
  Dl w0 S g b c B0 B1 len P d As w2 T' L KL (nq+1) KH (q++ [x])/\(∀S0:Nat->Prop,(∀k,bn Aq=some k->S0 k)->Kept S0 w w2):=by
 subst e1;generalize Kw:w.alloc (.cells #[.int .i64 (x:Int)] eW)=w1;have nz:w1.heap[w.heap.size]? =some (.cells #[.int .i64 (x:Int)] eW (0,0)):=by rw [<-Kw];exact aH w _
 have k1:Kept Nil w w1:=by rw [<-Kw];exact(Kept.refl Nil w).alloc _
 have h1:=h.quiet k1;have LK:=h.K0;obtain⟨A',c',w2,hr,fF,hg,C6⟩:=fP (P:=prog) (t:=jB) (ty:=jB) MO h1.rq (a:=⟨w.heap.size,0,none⟩) (m:=1) (cx:=1)
  (news:=ints [x]) rfl (fun j u hj=>by rw [mQ,aD nz];simpa [ints]using hj) (IH _) (by omega) (by unfold maxLen;omega) h1.JB
 have kA:Kept (fun k=>bn Aq=some k) w1 w2:=(Kept.refl _ w1).grown hg (fun k hk _=>hk);have gA:∀k,bn Aq=some k->B1<=k:=fun k e=>(Row.bL h.rq e).1;refine⟨A',c',w2,hr,?_,fun S0 h0=>(k1.mono (S':=S0) (fun _ _ h=>h.elim)).trans kA (fun k _ e=>h0 k e)⟩;exact {
  tv:=h1.tv.aF kA (fun k hk e=>by have:=h.hS k hk;have:=gA k e;have:=h.hB;omega)
  rs:=Row.aF h1.rs kA (fun k e e2=>by have:=h.sb k e;have:=gA k e2;omega)
  sb:=h.sb
  rq:=by simpa [ints]using fF
  kp:=(h.kp.trans k1 (fun _ _ h=>h.elim)).trans kA (fun k hk e=>absurd (gA k e) (by have:=h.hB;have:=h.h0;omega))
  hS:=h.hS
  hB:=h.hB
  JB:=Nat.le_trans h1.JB kA.size
  h0:=h.h0}
theorem Dg{T0 T1:List Nd}{x:Nat}{xd:Nd}{half:Nat}{spare i:Int}{X5:Option Addr}{Ye:Nat}{Qo:aO}
 (D:Dl w0 S g b c B0 B1 T0.length (b0 T0) d As w T1 L Aq nq cq q) (hS:Shape T0) (Yy:lW T0 T1) (hlen:T0.length<=1000000) (LK:q.length<=1000000)
 (hx:T1[x]? =some xd) (Bf:xd.free=xd.lo) (YG:0<=xd.lo) (hhi:xd.hi<=4611686018427387904) (EB:(half:Int)*2<=xd.hi-xd.lo-((sz (b0 T0) x:Int)-1))
 (AZ:u64.wrap (spare.tdiv 2)=(half:Int)) (acH:Row w 0 eW 1 X5 xd.ch.length Ye (ints xd.ch)) (Wy:∀k,bn X5=some k->S k/\k≠b)
 (hex:∀w' ER f L' KL KH,Dl w0 S g b c B0 B1 T0.length (b0 T0) d As w' ER L' KL (nq+xd.ch.length) KH (q++xd.ch)->qf (b0 T0) T1 x xd half xd.ch.length ER f->
   Qo .normal [(0,.pointer (some ⟨g,0,none⟩)),(4,.slice As T0.length T0.length),(5,.slice KL (nq+xd.ch.length) KH),(6,.int .i64 (i64.wrap (i+1)))] w'):
 Holds none [] prog 164 (.loop (lB (bB (bU (bB (sL (sR (lB (bB (bU (sR (body az.fn)))))))))))) (az.q3 Qo) (az.e3 (some ⟨g,0,none⟩) As T0.length T0.length i x spare X5 xd.ch.length Ye xd.ch.length (Aq,nq,cq,0)) w:=by
 have hP:=hS.par;have ry:=fi T0;have kQ:xd.ch=kids (b0 T0) x:=by
  have:=(Yy.shape hS).ch x xd hx
  rwa [Yy.b0]at this
 have sZ:x<T0.length:=by rw [<-Yy.len];exact(lgeS hx).1
 have LD:xd.ch.Pairwise (· < ·):=by rw [kQ];exact tO _ _
 have xY:∀y,y∈xd.ch->x<y:=fun y hy=>(iJ hP (kQ▸hy)).1;have Gs:xd.ch.length<=1000000:=by rw [kQ];exact Nat.le_trans (AK _ _) (by omega)
 have IW:(xd.ch.map (sz (b0 T0))).sum+1=sz (b0 T0) x:=by rw [kQ];exact DO hP (by omega)
 have jF:=uW hP (n:=x) (by omega);have aaZ:=xC (P:=b0 T0) x;have hnq:=D.K0;refine az.vM (I:=fun s w'=>∃(k:Nat) (T':List Nd) (f:Int) (L':List (Nd×Value)) (KL:Option Addr) (KH:Nat),s=(KL,nq+k,KH,(k:Int))/\k<=xd.ch.length/\
  Dl w0 S g b c B0 B1 T0.length (b0 T0) d As w' T' L' KL (nq+k) KH (q++xd.ch.take k)/\qf (b0 T0) T1 x xd half k T' f/\Row w' 0 eW 1 X5 xd.ch.length Ye (ints xd.ch))
  (μ:=fun s _=>((xd.ch.length:Int)-s.2.2.2).toNat) (s:=(Aq,nq,cq,0)) ⟨0,T1,xd.lo,L,Aq,cq,rfl,Nat.zero_le _,by simpa using D,qf.start hx Bf,acH⟩ ?_
 rintro s w' ⟨k,T',f,L',KL,KH,rfl,hk,D',gK,hr⟩;refine Split.dec (fun cY=>?_) (fun gA=>?_)
 ·simp only at cY
  have BW:k<xd.ch.length:=by omega
  obtain⟨ci,YP⟩:∃ci,xd.ch[k]? =some ci:=⟨_,List.getElem?_eq_getElem BW⟩;have nD:ci∈xd.ch:=List.mem_of_getElem? YP;have hck:ci∈kids (b0 T0) x:=kQ▸nD;have qC:ci<T0.length:=by have:=(iJ hP hck).2;omega
  have hxc:=xY ci nD;have Er:=uW hP (n:=ci) (by omega);have aiS:=xC (P:=b0 T0) ci;have UI:=Yy.trans gK.ox;obtain⟨cd,jX⟩:=gB (T:=T') (i:=ci) (by rw [UI.len];exact qC);have Ww:cd.parent=x:=by
   have h1:=lO jX;rw [UI.b0,eE.1 hck]at h1;exact(Option.some.inj h1).symm
  have aa3:sz (b0 T0) ci<=sz (b0 T0) x:=by
   have:=Pd (l:=xd.ch.map (sz (b0 T0))) (a:=sz (b0 T0) ci) (List.mem_map.2 ⟨ci,nD,rfl⟩);omega
  have WK:0<=(ci:Int)/\(ci:Int)<(T0.length:Int):=⟨by omega,by omega⟩;have jM:0<=(x:Int)/\(x:Int)<(T0.length:Int):=⟨by omega,by omega⟩;have acf:half<4611686018427387904:=by omega
  obtain⟨bch,acV⟩:=Row.some hr (by omega);subst acV;refine⟨⟨by simp only;omega,by simp only;omega⟩,_,by simp only [mQ,Int.toNat_natCast,Nat.mul_one];exact Row.cell hr (AX YP),by decide,WK,D'.DY qC ?_⟩;rw [AZ];refine xl half (sz (b0 T0) ci) (by omega) (by omega) ⟨_,_,rfl,jM,D'.DY sZ ?_⟩;have VC:(half*sz (b0 T0) ci/18446744073709551616)*18446744073709551616+half*sz (b0 T0) ci%18446744073709551616=half*sz (b0 T0) ci:=Nat.div_add_mod' _ _;have ace:half*sz (b0 T0) ci/18446744073709551616<sz (b0 T0) x:=by
   have:half*sz (b0 T0) ci<18446744073709551616*sz (b0 T0) ci:=Nat.mul_lt_mul_of_pos_right (by omega) Er;have:half*sz (b0 T0) ci/18446744073709551616<sz (b0 T0) ci:=Nat.div_lt_of_lt_mul this;omega
  refine xn _ _ (sz (b0 T0) x) (Nat.mod_lt _ (by omega)) (by omega) ace fun r w90 k90=>?_;rw [VC];generalize hm:half*sz (b0 T0) ci/sz (b0 T0) x=more;have hmx:more*sz (b0 T0) x<=half*sz (b0 T0) ci:=by rw [<-hm];exact Nat.div_mul_le_self _ _
  have ajF:more<=half:=by
   rw [<-hm];apply Nat.div_le_of_le_mul;rw [Nat.mul_comm];exact Nat.mul_le_mul_right _ aa3
  have D90:=D'.quiet k90;have abe:=Row.aF hr k90 (fun _ _ h=>h);refine⟨_,_,rfl,WK,D90.DY qC ?_⟩;rw [fT (x:=(sz (b0 T0) ci:Int)+(more:Int)) (by omega) (by omega)];have y7:=gK.bound (by omega) jF (by
   have h1:(((xd.ch.take k).map (sz (b0 T0))).sum)<=(xd.ch.map (sz (b0 T0))).sum:=by
    conv=>rhs;rw [<-List.take_append_drop k xd.ch,List.map_append,List.sum_append]
    omega
   omega)
  have lE:=gK.lo;have h1:(((xd.ch.take k).map (sz (b0 T0))).sum)<=(xd.ch.map (sz (b0 T0))).sum:=by
   conv=>rhs;rw [<-List.take_append_drop k xd.ch,List.map_append,List.sum_append]
   omega
  refine uU D90.tv jX gK.here Ww (by omega) (by simp only;omega) (by omega) (by simp only;omega) fun w96 L96 h96 k96=>⟨rfl,?_⟩;have D96:=D90.wrote k96 h96;have abc:=Row.aF abe k96 (fun k e e2=>(Wy k e).2 e2);intro w97;have htl:(xd.ch.take k).length<=1000000:=by rw [List.length_take];omega
  obtain⟨SJ,Sw,RF,aa6,D99,Yi⟩:=D96.push (by rw [List.length_append];omega) ci (w1:=w97) rfl;have abb:=Row.aF abc (Yi (fun k=>B1<=k) (fun k e=>(Row.bL D96.rq e).1)) (fun k e e2=>by have:=D.hS k (Wy k e).1;have:=D.hB;omega);refine⟨SJ,_,Sw,RF,aa6,?_⟩;rw [gF (x:=(k:Int)+1) (by omega) (by omega)];refine⟨(SJ,nq+(k+1),Sw,((k+1:Nat):Int)),rfl,⟨k+1,_,_,L96,SJ,Sw,rfl,BW,?_,gK.step (more:=(more:Int)) LD xY YP jX (by omega) ?_ Er,abb⟩,by simp only;omega⟩
  ·rw [ow YP,<-List.append_assoc]
   exact D99
  ·have:((more*sz (b0 T0) x:Nat):Int)<=((half*sz (b0 T0) ci:Nat):Int):=by omega
   rwa [Int.natCast_mul,Int.natCast_mul]at this
 ·simp only at gA
  have:k=xd.ch.length:=by omega
  subst this;rw [aR,az.Ca];rw [List.take_length]at D';exact hex w' T' f L' KL KH D' gK
end
theorem HY:∀(n:Nat) (q:List Nat),q.Nodup->(∀y,y∈q->y<n)->q.length<=n:=by
 intro n
 induction n with
 |zero=>
  intro q _ h;cases q with
  |nil=>simp
  |cons a q=>exact absurd (h a (by simp)) (by omega)
 |succ n ih=>
  intro q hn h;by_cases hm:n∈q
  ·have h1:=List.length_erase_of_mem hm
   have h2:=ih (q.erase n) (hn.erase n) (fun y hy=>by
    have:=(List.Nodup.mem_erase_iff hn).1 hy;have:=h y this.2;omega)
   omega
  ·have:=ih q hn (fun y hy=>by
    have:=h y hy;have:y≠n:=fun e=>hm (e▸hy);omega)
   omega
section
variable{w0 w:World}{S:Nat->Prop}{g b c B0:Nat}{d:Int}{As:Option Addr}{L:List (Nd×Value)}{T:List Nd}{K:Value->World->Prop}
theorem Df{T0:List Nd}{m:Nat}{md:Nd}
 (htv:TV w S g T0 d b c L) (hrs:Row w B0 jg 1 As T0.length T0.length (us (sz (b0 T0)) T0.length)) (VU:Kept S w0 w) (hSB:∀k,S k->k<B0) (UD:w0.heap.size<=B0) (hBw:B0<=w.heap.size)
 (hS:Shape T0) (hlen:T0.length<=1000000) (xX:T0[m]? =some md) (h1:1<=md.lo) (h2:md.hi<=4611686018427387904) (h3:(sz (b0 T0) m:Int)<=md.hi-md.lo+1)
 (hK:∀w' T' q i,pk w' S g T' d->om (b0 T0) T0 m T' q i->q.length<=i->Kept S w0 w'->K (.tuple #[]) w'):
 az.cU (some ⟨g,0,none⟩) m As T0.length T0.length K w:=by
 have hP:=hS.par;have ry:=fi T0;have LY:m<T0.length:=(lgeS xX).1;unfold az.cU;intro kc;have mW:Kept Nil w kc:=(Kept.refl Nil w).alloc _;have nz:kc.heap[w.heap.size]? =some (.cells #[.int .i64 (m:Int)] eW (0,0)):=aH w _;have D35:Dl w0 S g b c B0 w.heap.size T0.length (b0 T0) d As kc T0 L (some ⟨w.heap.size,0,none⟩) 1 1 [m]:= {
  tv:=htv.kept mW
  rs:=Row.aF hrs mW (fun _ _ h=>h)
  sb:=fun k e=>by obtain⟨_,_,hc⟩:=Row.bL hrs e;exact aU hc
  rq:=Row.made (n:=1) (cur:= #[.int .i64 (m:Int)]) nz (Nat.le_refl _) rfl (by decide)
  kp:=VU.trans mW (fun _ _ h=>h.elim)
  hS:=hSB
  hB:=hBw
  JB:=mW.size
  h0:=UD}
 clear_value kc;generalize JB:w.heap.size=B1 at*;refine az.gU (I:=fun s w'=>∃(i:Nat) (T':List Nd) (L':List (Nd×Value)) (Aq:Option Addr) (nq cq:Nat) (q:List Nat),s=(Aq,nq,cq,(i:Int))/\i<=q.length/\
  Dl w0 S g b c B0 B1 T0.length (b0 T0) d As w' T' L' Aq nq cq q/\om (b0 T0) T0 m T' q i)
  (μ:=fun s _=>((T0.length:Int)-s.2.2.2).toNat) (s:=(some ⟨B1,0,none⟩,1,1,0)) ⟨0,T0,L,_,1,1,[m],rfl,Nat.zero_le _,D35,om.start (by omega) xX h1 h2 h3⟩ ?_
 rintro s w' ⟨i,T',L',Aq,nq,cq,q,rfl,hi,D,hO⟩;have hnq:=D.K0;have LK:q.length<=T0.length:=HY _ _ hO.nodup (fun y hy=>by have:=(hO.pg y hy).lt;omega);refine Split.dec (fun cY=>?_) (fun gA=>?_)
 ·simp only at cY
  have dS:i<q.length:=by omega
  obtain⟨x,hqx⟩:∃x,q[i]? =some x:=⟨_,List.getElem?_eq_getElem dS⟩;have IK:x∈q:=List.mem_of_getElem? hqx;have sZ:x<T0.length:=by have:=(hO.pg x IK).lt;omega
  obtain⟨xd,Kv⟩:=gB (T:=T') (i:=x) (by rw [hO.ox.len];exact sZ);have tT:=hO.room x xd IK Kv;have jF:=uW hP (n:=x) (by omega);have aaZ:=xC (P:=b0 T0) x;have hlT:T'.length=T0.length:=hO.ox.len;have jM:0<=(x:Int)/\(x:Int)<(T'.length:Int):=⟨by omega,by omega⟩;refine⟨⟨by simp only;omega,by simp only;omega⟩,D.Tn hqx ?_⟩;intro EZ;have SI:=D.quiet (w':=EZ) (Kept.refl Nil w').drew;clear_value EZ;obtain⟨v,hv⟩:=SI.tv.at_ Kv;obtain⟨wr,h50⟩:=SI.tv.vc hv (j:=4) (by omega) (u:=.int .u64 xd.lo) (nd':= {xd with free:=xd.lo}) rfl rfl;refine SI.tv.go (SI.tv.go ⟨jM,SI.tv.wg hv ⟨jM,by rw [o7];exact wr,?_⟩⟩);intro Ko Hp;have e50:Ko=EZ.setCell ⟨b,x*5+4,none⟩ (.int .u64 xd.lo):=by simp only [Ko,o7,Int.toNat_natCast]
  rw [<-e50]at h50;have RU:Kept (fun k=>k=b) EZ Ko:=by rw [e50];exact(Kept.refl (fun k=>k=b) EZ).setCell (p:=⟨b,x*5+4,none⟩) (fun _=>rfl) _
  have KK:=(SI.wrote RU h50).quiet (w':=Hp) (Kept.refl Nil Ko).drew;clear_value Hp;have v1:(L'.set x ({xd with free:=xd.lo},v))[x]? =some ({xd with free:=xd.lo},v):=iZ hv;obtain⟨X5,Ye,hk⟩:=KK.tv.qY _ _ v1;have uN:(T'.set x {xd with free:=xd.lo}).length=T'.length:=by simp
  have QX:0<=(x:Int)/\(x:Int)<((T'.set x {xd with free:=xd.lo}).length:Int):=by rw [uN];exact jM
  have YR:0<=(x:Int)/\(x:Int)<(T0.length:Int):=⟨by omega,by omega⟩;refine KK.tv.go ⟨QX,KK.tv.Bq v1 (KK.tv.go ⟨QX,KK.tv.wg v1 ⟨YR,KK.DY sZ (KK.tv.go ⟨QX,KK.tv.Xu v1 hk.val ?_⟩)⟩⟩)⟩;have aa2:lW T0 (T'.set x {xd with free:=xd.lo}):=hO.ox.trans (lW.set (nd':= {xd with free:=xd.lo}) Kv rfl rfl);simp only;obtain⟨cur,Sq⟩:=KK.tv.wF;generalize hhf:((xd.hi-xd.lo-((sz (b0 T0) x:Int)-1)).toNat /2)=half;refine Dg (half:=half) (xd:= {xd with free:=xd.lo}) KK hS aa2 hlen (by omega) (iZ Kv) rfl (by simp only;omega) (by simp only;omega) (by simp only;omega) ?_ hk.row (fun k e=>⟨hk.lg k e,fun e2=>hk.ne Sq (by decide) (by rw [e,e2])⟩) ?_
  ·rw [fT (x:=xd.hi-xd.lo) (by omega) (by omega),fT (x:=(sz (b0 T0) x:Int)-1) (by omega) (by omega),fT (x:=xd.hi-xd.lo-((sz (b0 T0) x:Int)-1)) (by omega) (by omega),
    Int.tdiv_eq_ediv_of_nonneg (by omega),fT (by omega) (by omega)]
   omega
  ·intro w2 T2 f L2 SJ Sw D2 gK
   rw [gF (x:=(i:Int)+1) (by omega) (by omega)];refine⟨(SJ,nq+xd.ch.length,Sw,((i+1:Nat):Int)),rfl,⟨i+1,T2,L2,SJ,_,Sw,q++xd.ch,rfl,by rw [List.length_append];omega,D2,hO.step hS hqx Kv (by omega) (by omega) gK⟩,by simp only;omega⟩
 ·simp only at gA
  rw [aR,az.jN];exact hK w' T' q i ⟨_,_,_,D.tv⟩ hO (by omega) D.kp
theorem TV.ZJ(h:TV w S g T d b c L)(d':Int):Wr w ⟨g,1,none⟩/\TV (w.setCell ⟨g,1,none⟩ (.int .i64 d')) S g T d' b c L:=by
 have kG:Kept (fun k=>k=g) w (w.setCell ⟨g,1,none⟩ (.int .i64 d')):=(Kept.refl (fun k=>k=g) w).setCell (p:=⟨g,1,none⟩) (fun _=>rfl) _;refine⟨dm h.top (show 1<2 by omega),?_⟩;exact {
  top:=by
   have:=cV h.top 1 (.int .i64 d');simpa using this
  fst:=h.fst
  row:=Row.aF h.row kG (fun k e e2=>h.gb (by cases e;exact e2.symm))
  qY:=fun i p hp=>by
   obtain⟨A,m,hk⟩:=h.qY i p hp;exact⟨A,m,hk.val,Row.aF hk.row kG (fun k e e2=>hk.ne h.top (by decide) (by rw [e,e2])),hk.lg⟩
  apart:=h.apart
  iF:=h.iF
  gI:=h.gI}
set_option maxRecDepth 100000 in
theorem Fg(h:pk w S g T d)(hS:Shape T)(hlen:T.length<=1000000){p:Nat}(hp:p<T.length)(hd:0<=d/\d<=1000000)
 (UR:∀nd,T[0]? =some nd->nd.lo=1/\nd.hi=4611686018427387904)
 (YJ:∀y nd,T[y]? =some nd->kR (b0 T) p y->Iv nd)
 (hK:∀w' T' m q i,pk w' S g T' (d+1)->kR (b0 T) p m->om (b0 T) T m T' q i->q.length<=i->Kept S w w'->K (.tuple #[]) w'):
 bC prog az.id #[.pointer (some ⟨g,0,none⟩),.int .i64 p] w K:=by
 have hP:=hS.par;have ry:=fi T;obtain⟨b,c,L,h⟩:=h;have hb:=h.bound;obtain⟨wr,h6⟩:=hb.ZJ (d+1);refine az.of (h.goD ⟨by rw [mQ];exact wr,?_⟩);intro w6;have e6:w6=w.setCell ⟨g,1,none⟩ (.int .i64 (d+1)):=by simp only [w6,mQ,gF (x:=d+1) (by omega) (by omega)]
 rw [<-e6]at h6;have k6:Kept (fun k=>S k/\k<w.heap.size) w w6:=by rw [e6];exact(Kept.refl _ w).setCell (p:=⟨g,1,none⟩) (fun _=>hb.iF) _
 have LG:w.heap.size=w6.heap.size:=by rw [e6];simp
 clear_value w6;refine Cf ⟨_,_,_,h6⟩ hP hlen fun w8 As KX k8=>⟨_,_,_,rfl,?_⟩;have h8:=h6.kept k8;refine az.cC (I:=fun s w'=>∃m:Nat,s=(m:Int)/\kR (b0 T) p m/\Kept Nil w8 w') (μ:=fun s _=>s.toNat) (s:=(p:Int)) ⟨p,rfl,.refl (by omega),Kept.refl _ _⟩ ?_;rintro s w' ⟨m,rfl,hu,kw⟩;have LY:m<T.length:=by have:=hu.Yf;omega
 obtain⟨md,xX⟩:=gB LY;have hm:=YJ m md xX hu;have NJ:=hm.Z5;have Sh:=hm.le;have hm3:=hm.top;unfold az.B1;intro mT;have tQ:Kept Nil w8 mT:=kw.drew;have EI:=h8.kept tQ;have DW:=Row.aF KX tQ (fun _ _ h=>h);have ln:=lO xX;have aiP:=xC (P:=b0 T) m;have y5:0<=(m:Int)/\(m:Int)<(T.length:Int):=⟨by omega,by omega⟩;obtain⟨v,hv⟩:=EI.at_ xX;have done:(sz (b0 T) m:Int)<=md.hi-md.lo+1->az.q1 K (.exit 0) [(0,.pointer (some ⟨g,0,none⟩)),(1,.int .i64 m),(4,.slice As T.length T.length)] mT:=by
  intro tT;rw [az.df];have k8':Kept (fun k=>S k/\k<w.heap.size) w mT:=(k6.trans k8 (fun _ _ h=>h.elim)).trans tQ (fun _ _ h=>h.elim);refine Df EI (B0:=w.heap.size) (Row.base DW (fun k e=>by rw [LG];exact(Row.bL DW e).1)) k8' (fun k h=>h.2) (Nat.le_refl _) k8'.size hS hlen xX NJ hm3 tT ?_;intro w2 T2 q i h2 hO hq k2;exact hK w2 T2 m q i (h2.mono (fun k h=>h.1)) hu hO hq (k2.mono (fun k _ h=>h.1))
 refine EI.go ⟨y5,EI.JH hv (Split.dec (fun jF=>?_) (fun yY=>?_))⟩
 ·obtain⟨bs,YR⟩:=Row.some DW (by omega)
  subst YR;refine EI.go ⟨y5,EI.Bq hv (EI.go ⟨y5,EI.wg hv ⟨by decide,y5,_,by rw [mQ,Int.toNat_natCast,Nat.mul_one];exact Row.cell DW (pr _ LY),?_⟩⟩)⟩;rw [fT (x:=md.hi-md.lo) (by omega) (by omega),fT (x:=md.hi-md.lo+1) (by omega) (by omega),Int.tdiv_eq_ediv_of_nonneg (by omega),fT (x:=(md.hi-md.lo+1)/4) (by omega) (by omega)];refine Split.dec (fun cY=>?_) (fun gA=>?_)
  ·have Si:0<m:=by
    rcases Nat.eq_zero_or_pos m with rfl|h
    ·rw [hP.root]at ln;have:=Option.some.inj ln;omega
    ·exact h
   obtain⟨z,hz,ez⟩:=hP.up m _ Si ln;refine EI.go ⟨y5,EI.JH hv ?_⟩;rw [ez];exact⟨(z:Int),rfl,⟨z,rfl,hu.trans (.step (by rw [ln,ez]) (.refl (by omega))),tQ⟩,by simp only;omega⟩
  ·rw [aR]
   exact done (by omega)
 ·have Si:m=0:=by
   rcases Nat.eq_zero_or_pos m with h|h
   ·exact h
   ·obtain⟨z,_,ez⟩:=hP.up m _ h ln
    omega
  subst Si;have:=UR md xX;rw [aR];exact done (by omega)
end
structure xy(T:List Nd):Prop extends Good T where
 root:∀nd,T[0]? =some nd->nd.lo=1/\nd.hi=4611686018427387904
theorem Cp:xy qI:=by
 have gV:∀(i:Nat) nd,qI[i]? =some nd->i=0/\nd=⟨-1,[],1,4611686018427387904,1⟩:=by
  intro i nd h;cases i with
  |zero=>simp [qI]at h;exact⟨rfl,h.symm⟩
  |succ i=>simp [qI]at h
 exact {
  par:=⟨rfl,fun i p hi h=>by
   cases i with
   |zero=>omega
   |succ i=>simp [b0,qI]at h⟩
  ch:=fun i nd h=>by
   obtain⟨rfl,rfl⟩:=gV i nd h;simp [kids,b0,qI]
  iv:=fun i nd h=>by
   obtain⟨rfl,rfl⟩:=gV i nd h;exact⟨by decide,by decide,by decide⟩
  loc:=fun i nd h=>by
   obtain⟨rfl,rfl⟩:=gV i nd h;exact⟨by decide,by decide,fun c cd hc=>by simp at hc,fun c c' cd wB hc=>by simp at hc⟩
  root:=fun nd h=>by
   obtain⟨_,rfl⟩:=gV 0 nd h;exact⟨rfl,rfl⟩}
section
variable{T:List Nd}{p:Nat}{pd:Nd}
theorem GQ(hp:T[p]? =some pd)(i:Nat):(added T p pd)[i]? =if i=p then some {pd with ch:=pd.ch++ [T.length],free:=pd.free+jw pd}else if i=T.length then some ⟨p,[],pd.free,pd.free+jw pd-1,pd.free⟩else T[i]? :=by
 have cY:p<T.length:=(lgeS hp).1;unfold added;rw [x8 (by rw [jG hp,if_neg (by omega),if_pos rfl]) (by rw [jG hp,if_pos rfl]) (by omega),jG hp];split
 ·rfl
 ·split
  ·rfl
  ·rfl
theorem wH(hp:T[p]? =some pd):lW (grown T p pd) (added T p pd):=by
 have cY:p<T.length:=(lgeS hp).1;exact wc _ (by rw [jG hp,if_neg (by omega),if_pos rfl]) (by rw [jG hp,if_pos rfl]) (by omega)
theorem Shape.Rq(h:Shape T){i:Nat}{nd:Nd}(hi:T[i]? =some nd){c:Nat}(hc:c∈nd.ch):i<c/\c<T.length:=by
 rw [h.ch i nd hi]at hc;have:=iJ h.par hc
 rwa [fi]at this
theorem xy.added(h:xy T)(hp:T[p]? =some pd)(tT:pd.free<pd.hi):xy (added T p pd):=by
 have cY:p<T.length:=(lgeS hp).1;have gV:=GQ hp;have PS:=h.iv p pd hp;have i1:=PS.Z5;have i2:=PS.le;have i3:=PS.top;have lp:=h.loc p pd hp;have l1:=lp.He;have l2:=lp.De;have hh1:1<=jw pd:=by unfold jw;omega
 have hh2:pd.free+jw pd<=pd.hi:=by unfold jw;omega
 have hold:∀(c:Nat) cd,c<T.length->(Go.Proofs.YtfleamccglihoaaGreatDoor.Tr.added T p pd)[c]? =some cd->∃ed,T[c]? =some ed/\ed.lo=cd.lo/\ed.hi=cd.hi:=by
  intro c cd hc jX;rw [gV]at jX;by_cases e:c=p
  ·subst e
   rw [if_pos rfl]at jX;cases jX;exact⟨pd,hp,rfl,rfl⟩
  ·rw [if_neg e,if_neg (by omega)]at jX
   exact⟨cd,jX,rfl,rfl⟩
 have nz:∀cd,(Go.Proofs.YtfleamccglihoaaGreatDoor.Tr.added T p pd)[T.length]? =some cd->cd=⟨p,[],pd.free,pd.free+jw pd-1,pd.free⟩:=by
  intro cd jX;rw [gV,if_neg (by omega),if_pos rfl]at jX;exact(Option.some.inj jX).symm
 have aF:∀(i:Nat) nd,T[i]? =some nd->Loc (Go.Proofs.YtfleamccglihoaaGreatDoor.Tr.added T p pd) nd:=by
  intro i nd hi;have hl:=h.loc i nd hi;have hc:=fun c hc=>(h.toShape.Rq hi (c:=c) hc).2;exact {
   He:=hl.He
   De:=hl.De
   sub:=fun c cd nD jX=>by
    obtain⟨ed,h1,h2,h3⟩:=hold c cd (hc c nD) jX;have:=hl.sub c ed nD h1;omega
   ord:=fun c c' cd wB nD oZ xZ jX rh=>by
    obtain⟨ed,h1,h2,h3⟩:=hold c cd (hc c nD) jX;obtain⟨Ro,rD,uv,BZ⟩:=hold c' wB (hc c' oZ) rh;have:=hl.ord c c' ed Ro nD oZ xZ h1 rD;omega}
 have hs:=(wH hp).shape (h.toShape.grown hp);refine {toShape:=hs,iv:=?_,loc:=?_,root:=?_}
 ·intro i nd hi
  rw [gV]at hi;by_cases e:i=p
  ·rw [if_pos e]at hi
   cases hi;exact⟨i1,i2,i3⟩
  ·rw [if_neg e]at hi
   by_cases e2:i=T.length
   ·rw [if_pos e2]at hi
    cases hi;exact⟨by simp only;omega,by simp only;omega,by simp only;omega⟩
   ·rw [if_neg e2]at hi
    exact h.iv i nd hi
 ·intro i nd hi
  rw [gV]at hi;by_cases e:i=p
  ·rw [if_pos e]at hi
   cases hi;have kp:=aF p pd hp;have hc:=fun c hc=>(h.toShape.Rq hp (c:=c) hc).2;exact {
    He:=by simp only;omega
    De:=hh2
    sub:=fun c cd nD jX=>by
     simp only at nD;rcases List.mem_append.1 nD with nD|nD
     ·have:=kp.sub c cd nD jX
      simp only;omega
     ·simp at nD
      subst nD;have:=nz cd jX;subst this;simp only;omega
    ord:=fun c c' cd wB nD oZ xZ jX rh=>by
     simp only at nD oZ;rcases List.mem_append.1 nD with nD|nD
     ·rcases List.mem_append.1 oZ with oZ|oZ
      ·exact kp.ord c c' cd wB nD oZ xZ jX rh
      ·simp at oZ
       subst oZ;have:=nz wB rh;subst this;exact(kp.sub c cd nD jX).2
     ·simp at nD
      rcases List.mem_append.1 oZ with oZ|oZ
      ·have:=hc c' oZ
       omega
      ·simp at oZ
       omega}
  ·rw [if_neg e]at hi
   by_cases e2:i=T.length
   ·rw [if_pos e2]at hi
    cases hi;exact⟨by simp only;omega,by simp only;omega,fun c cd hc=>by simp at hc,fun c c' cd wB hc=>by simp at hc⟩
   ·rw [if_neg e2]at hi
    exact aF i nd hi
 ·intro nd hi
  obtain⟨ed,h1,h2,h3⟩:=hold 0 nd h.toShape.pos hi;have:=h.root ed h1;omega
theorem xy.JO(h:xy T)(hp:T[p]? =some pd){m i:Nat}{T':List Nd}{q:List Nat}(hu:kR (b0 (grown T p pd)) p m)
 (hO:om (b0 (grown T p pd)) (grown T p pd) m T' q i) (hq:q.length<=i):xy T':=by
 have cY:p<T.length:=(lgeS hp).1;have gV:=jG hp;have hS:=h.toShape.grown hp;have hP:=hS.par;have hold:∀(c:Nat) cd,c<T.length->(grown T p pd)[c]? =some cd->∃ed,T[c]? =some ed/\ed.lo=cd.lo/\ed.hi=cd.hi:=by
  intro c cd hc jX;rw [gV]at jX;by_cases e:c=p
  ·subst e
   rw [if_pos rfl]at jX;cases jX;exact⟨pd,hp,rfl,rfl⟩
  ·rw [if_neg e,if_neg (by omega)]at jX
   exact⟨cd,jX,rfl,rfl⟩
 have Sf:(b0 (grown T p pd))[T.length]? =some (p:Int):=by
  rw [mL hp,List.getElem?_append_right (by rw [fi];exact Nat.le_refl _)];simp [fi]
 have fc:=om.fin hS hO hq (fun y nd hy hn=>by
  rw [gV]at hy;have e:y≠p:=fun e=>hn (e▸hu);rw [if_neg e]at hy;have e2:y≠T.length:=fun e=>hn (e▸ .step Sf hu);rw [if_neg e2]at hy;refine⟨h.iv y nd hy,?_⟩;have hl:=h.loc y nd hy;have hc:=fun c hc=>(h.toShape.Rq hy (c:=c) hc).2;exact {
   He:=hl.He
   De:=hl.De
   sub:=fun c cd nD jX=>by
    obtain⟨ed,h1,h2,h3⟩:=hold c cd (hc c nD) jX;have:=hl.sub c ed nD h1;omega
   ord:=fun c c' cd wB nD oZ xZ jX rh=>by
    obtain⟨ed,h1,h2,h3⟩:=hold c cd (hc c nD) jX;obtain⟨Ro,rD,uv,BZ⟩:=hold c' wB (hc c' oZ) rh;have:=hl.ord c c' ed Ro nD oZ xZ h1 rD;omega})
 refine {toGood:=fc,root:=fun nd hi=>?_};obtain⟨gd,hgd,_⟩:=hO.ox.back hi;obtain⟨ed,h1,h2,h3⟩:=hold 0 gd h.toShape.pos hgd;have hr:=h.root ed h1;by_cases hm:0∈q
 ·have:=(hO.pg 0 hm).le hP
  have Si:m=0:=by omega
  subst Si;have:=hO.top gd nd hgd hi;omega
 ·rw [hO.rest 0 hm,hgd]at hi
  cases hi;omega
end
section
variable{w:World}{S:Nat->Prop}{g:Nat}{T:List Nd}{d:Int}{K:Value->World->Prop}
theorem Hx(h:pk w S g T d)(hF:xy T){p:Nat}(hp:p<T.length)(hlen:T.length<=900000)(hd:0<=d/\d<=900000)
 (hK:∀w' S' T' d',pk w' S' g T' d'->xy T'->b0 T'=b0 T++ [(p:Int)]->d<=d'/\d'<=d+1->Kept S w w'->(∀k,S' k->S k\/w.heap.size<=k)->K (.tuple #[.int .i64 T.length,.int .i64 0]) w'):
 bC prog gN.id #[.pointer (some ⟨g,0,none⟩),.int .i64 p] w K:=by
 obtain⟨pd,yV⟩:=gB hp;have PS:=hF.iv p pd yV;have i1:=PS.Z5;have i2:=PS.le;have i3:=PS.top;have lp:=hF.loc p pd yV;have l1:=lp.He;have l2:=lp.De;have kQ:pd.ch.length<=T.length:=by
  rw [hF.ch p pd yV];have:=AK (b0 T) p
  rwa [fi]at this
 refine uV h yV (by omega) (by omega) (by omega) l2 i3 (fun tT w' S' h' k' f'=>?_) (fun af6 w' S' h' k' f'=>?_)
 ·exact hK w' S' _ d h' (hF.added yV tT) (by rw [(wH yV).b0,mL yV]) ⟨by omega,by omega⟩ k' f'
 ·have hS:=hF.toShape.grown yV
  have gV:=jG yV;have ln:=hS.par;refine Fg h' hS (by rw [x7];omega) (by rw [x7];omega) ⟨hd.1,by omega⟩ (fun nd hi=>?_) (fun y nd hy hu=>?_) (fun w2 T2 m q i h2 hu hO hq k2=>⟨rfl,?_⟩)
  ·rw [gV]at hi
   by_cases e:0=p
   ·rw [if_pos e]at hi
    cases hi;exact hF.root pd (by rw [e];exact yV)
   ·rw [if_neg e,if_neg (by omega)]at hi
    exact hF.root nd hi
  ·have:=hu.le ln
   rw [gV]at hy;by_cases e:y=p
   ·rw [if_pos e]at hy
    cases hy;exact⟨i1,i2,i3⟩
   ·rw [if_neg e,if_neg (by omega)]at hy
    exact hF.iv y nd hy
  ·refine hK w2 S' T2 (d+1) h2 (hF.JO yV hu hO hq) (by rw [hO.ox.b0,mL yV]) ⟨by omega,by omega⟩ ?_ f'
   exact k'.trans k2 (fun k hk hs=>by
    rcases f' k hs with h|h
    ·exact h
    ·omega)
end
def zs(l:List Int):List Value:=l.map fun x=>.int .i64 x
section
variable{w w':World}{S S':Nat->Prop}{h:Nat}{P:List Int}{b c:Nat}{K:Value->World->Prop}
end
def jk(P:List Int)(n i:Nat):List Nat:=(List.range i).filter fun j=>P[j]? ==some (n:Int)
section
variable{w w':World}{S S':Nat->Prop}{h:Nat}{P:List Int}{b c:Nat}{K:Value->World->Prop}
end
section
variable{w w':World}{S S':Nat->Prop}{g:Nat}{T:List Nd}{d:Int}{K:Value->World->Prop}
end
end Go.Proofs.YtfleamccglihoaaGreatDoor.Tr
