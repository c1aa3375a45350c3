import Derived.Test.YtfleamccglihoaaGreatDoorMA
import Derived.Test.YtfleamccglihoaaGreatDoorMD
import Derived.Laws.OwnMore
import Derived.Test.YtfleamccglihoaaGreatDoorMG
import Derived.Laws.Bits64b
open Go.IntKind (i64 u64)
set_option linter.unusedVariables false
namespace Go.Proofs.YtfleamccglihoaaGreatDoor.Tr
open Go.Proofs.Tryz
open Go Go.b0 Go.RowKit
structure Nd where
 parent:Int
 ch:List Nat
 lo:Int
 hi:Int
 free:Int
def jN(nd:Nd)(v:Value):List Value:= [.int .i64 nd.parent,v,.int .u64 nd.lo,.int .u64 nd.hi,.int .u64 nd.free]
def pg(L:List (Nd×Value)):List Value:=L.flatMap fun p=>jN p.1 p.2
def ints(l:List Nat):List Value:=l.map fun x:Nat=>.int .i64 (x:Int)
theorem uo(L:List (Nd×Value)):(pg L).length=L.length*5:=by
 induction L with
 |nil=>rfl
 |cons p L ih=>simp only [pg,List.flatMap_cons,List.length_append,List.length_cons]at*;rw [ih];simp [jN];omega
theorem Jn{L:List (Nd×Value)}{i:Nat}{p:Nd×Value}(h:L[i]? =some p){j:Nat}(hj:j<5):(pg L)[i*5+j]? =(jN p.1 p.2)[j]? :=by
 induction L generalizing i with
 |nil=>simp at h
 |cons q L ih=>
  have hq:(jN q.1 q.2).length=5:=rfl;cases i with
  |zero=>
   simp at h;subst h;simp only [pg,List.flatMap_cons];rw [Nat.zero_mul,Nat.zero_add,List.getElem?_append_left (by omega)]
  |succ i=>
   simp at h;have:=ih h;simp only [pg,List.flatMap_cons]at*;rw [List.getElem?_append_right (by omega),hq,<-this]
   congr 1
   omega
theorem Bp{L:List (Nd×Value)}{i:Nat}{p p':Nd×Value}(h:L[i]? =some p){j:Nat}(hj:j<5){v:Value}(hp:jN p'.1 p'.2=(jN p.1 p.2).set j v):
 (pg L).set (i*5+j) v=pg (L.set i p'):=by
 induction L generalizing i with
 |nil=>simp at h
 |cons q L ih=>
  have hq:(jN q.1 q.2).length=5:=rfl;cases i with
  |zero=>
   simp at h;subst h;simp only [pg,List.flatMap_cons,List.set_cons_zero];rw [Nat.zero_mul,Nat.zero_add,List.set_append_left _ _ (by omega),hp]
  |succ i=>
   simp at h;have:=ih h;simp only [pg,List.flatMap_cons,List.set_cons_succ]at*;rw [List.set_append_right _ _ (by omega),hq,<-this]
   congr 2
   omega
structure Xo(w:World)(S:Nat->Prop)(p:Nd×Value)(A:Option Addr)(m:Nat):Prop where
 val:p.2=.slice A p.1.ch.length m
 row:Row w 0 gZ 1 A p.1.ch.length m (ints p.1.ch)
 kX:∀k,bG A=some k->S k
structure TV(w:World)(S:Nat->Prop)(g:Nat)(T:List Nd)(d:Int)(b c:Nat)(L:List (Nd×Value)):Prop where
 top:w.heap[g]? =some (.cells #[.slice (some ⟨b,0,none⟩) T.length c,.int .i64 d] uv (0,0))
 fst:L.map Prod.fst=T
 row:Row w 0 jJ 5 (some ⟨b,0,none⟩) T.length c (pg L)
 ry:∀(i:Nat) (p:Nd×Value),L[i]? =some p->∃A m,Xo w S p A m
 apart:∀(i j:Nat) (p q:Nd×Value),L[i]? =some p->L[j]? =some q->i≠j->∀k,Value.ownBlock p.2=some k->Value.ownBlock q.2≠some k
 iS:S g
 gM:S b
def pD(w:World)(S:Nat->Prop)(g:Nat)(T:List Nd)(d:Int):Prop:=∃b c L,TV w S g T d b c L
section
variable{w w':World}{S S':Nat->Prop}{g:Nat}{T:List Nd}{d:Int}{b c:Nat}{L:List (Nd×Value)}
theorem TV.at_(h:TV w S g T d b c L){i:Nat}{nd:Nd}(hi:T[i]? =some nd):∃v,L[i]? =some (nd,v):=by
 rw [<-h.fst,List.getElem?_map]at hi;cases hL:L[i]? with
 |none=>simp [hL]at hi
 |some p=>
  rw [hL]at hi;simp at hi;exact⟨p.2,by rw [<-hi]⟩
theorem TV.nodes(h:TV w S g T d b c L):w.cell? ⟨g,0,none⟩=some (.slice (some ⟨b,0,none⟩) T.length c):=by rw [aE h.top];rfl
theorem TV.Jq(h:TV w S g T d b c L):w.cell? ⟨g,1,none⟩=some (.int .i64 d):=by rw [aE h.top];rfl
theorem TV.cell(h:TV w S g T d b c L){i:Nat}{p:Nd×Value}(hi:L[i]? =some p){j:Nat}{v:Value}(hj:j<5)(hv:(jN p.1 p.2)[j]? =some v):w.cell? ⟨b,i*5+j,none⟩=some v:=
 Row.cell h.row (by rw [Jn hi hj,hv])
theorem TV.gb(h:TV w S g T d b c L):g≠b:=by
 rintro rfl;obtain⟨_,cur,hc⟩:=Row.bV h.row (k:=g) rfl;rw [h.top]at hc;injection hc with hc;injection hc with _ ht;exact absurd ht (by decide)
theorem Xo.ne{p:Nd×Value}{A:Option Addr}{m:Nat}(h:Xo w S p A m){k:Nat}{cs:Array Value}{t:TypeId}(hk:w.heap[k]? =some (.cells cs t (0,0)))(ht:t≠gZ):bG A≠some k:=by
 intro e;obtain⟨_,cur,hc⟩:=Row.bV h.row e;rw [hk]at hc;injection hc with hc;injection hc with _ h2;exact ht h2
theorem TV.wx(h:TV w S g T d b c L):∃cur,w.heap[b]? =some (.cells cur jJ (0,0)):=(Row.bV h.row rfl).2
theorem TV.aJ{S0:Nat->Prop}(h:TV w S g T d b c L)(hk:Kept S0 w w')(hn:∀k,S k->¬S0 k):TV w' S g T d b c L:= {
 top:=hk.heap h.top (hn g h.iS)
 fst:=h.fst
 row:=Row.aJ h.row hk (fun k e=>by cases e;exact hn b h.gM)
 ry:=fun i p hp=>let ⟨A,m,h1⟩:=h.ry i p hp;⟨A,m,h1.val,Row.aJ h1.row hk (fun k e=>hn k (h1.kX k e)),h1.kX⟩
 apart:=h.apart
 iS:=h.iS
 gM:=h.gM}
theorem pD.aJ{S0:Nat->Prop}(h:pD w S g T d)(hk:Kept S0 w w')(hn:∀k,S k->¬S0 k):pD w' S g T d:=
 let ⟨b,c,L,h⟩:=h;⟨b,c,L,h.aJ hk hn⟩
theorem pD.same(h:pD w S g T d)(hk:Kept Nil w w'):pD w' S g T d:=h.aJ hk fun _ _ h=>h
theorem TV.lt(h:TV w S g T d b c L):g<w.heap.size:=aY h.top
theorem TV.uY(h:TV w S g T d b c L){i:Nat}{nd nd':Nd}{v:Value}(hi:L[i]? =some (nd,v)){j:Nat}(hj:j<5){u:Value}
 (hc:jN nd' v=(jN nd v).set j u) (pf:nd'.ch=nd.ch):
 Wr w ⟨b,i*5+j,none⟩/\TV (w.setCell ⟨b,i*5+j,none⟩ u) S g (T.set i nd') d b c (L.set i (nd',v)):=by
 have eh:i<L.length:=(lgeS hi).1;have dg:i*5+j<(pg L).length:=by rw [uo];omega
 refine⟨Row.wr h.row dg,?_⟩;have fJ:=Row.set h.row dg u;rw [Bp hi hj (p':=(nd',v)) hc]at fJ;have hK:Kept (fun k=>k=b) w (w.setCell ⟨b,i*5+j,none⟩ u):=(Kept.refl (fun k=>k=b) w).setCell (p:=⟨b,i*5+j,none⟩) (fun _=>rfl) u;have gR:∀(k:Nat) (p:Nd×Value),(L.set i (nd',v))[k]? =some p->∃q,L[k]? =some q/\q.2=p.2/\q.1.ch=p.1.ch:=by
  intro k p hp;rw [List.getElem?_set]at hp;by_cases e:i=k
  ·subst e
   rw [if_pos rfl,if_pos eh]at hp;cases hp;exact⟨_,hi,rfl,pf.symm⟩
  ·rw [if_neg e]at hp
   exact⟨p,hp,rfl,rfl⟩
 exact {
  top:=by rw [List.length_set];exact hK.heap h.top h.gb
  fst:=by rw [List.map_set,h.fst]
  row:=by rw [List.length_set];exact fJ
  ry:=fun k p hp=>by
   obtain⟨q,hq,h1,h2⟩:=gR k p hp;obtain⟨A,m,hk⟩:=h.ry k q hq;obtain⟨cur,hb⟩:=h.wx;refine⟨A,m,by rw [<-h1,<-h2];exact hk.val,?_,hk.kX⟩;rw [<-h2];exact Row.aJ hk.row hK (fun k e e2=>hk.ne hb (by decide) (by rw [e,e2]))
  apart:=fun k l p q hp hq CT=>by
   obtain⟨p',G5,h1,_⟩:=gR k p hp;obtain⟨q',AX,h2,_⟩:=gR l q hq;rw [<-h1,<-h2];exact h.apart k l p' q' G5 AX CT
  iS:=h.iS
  gM:=h.gM}
end
theorem pq(b x y:Nat):((⟨b,0,none⟩:Addr).add x).add y=⟨b,x+y,none⟩:=by rw [bC,bC,Nat.zero_add]
theorem mZ(b x:Nat):(⟨b,0,none⟩:Addr).add x=⟨b,x,none⟩:=by rw [bC,Nat.zero_add]
section
variable{w:World}{S:Nat->Prop}{g:Nat}{T:List Nd}{d:Int}{b c:Nat}{L:List (Nd×Value)}
theorem TV.go(h:TV w S g T d b c L){k:Option Addr->Nat->Nat->Prop}(hk:k (some ⟨b,0,none⟩) T.length c):
 ∃A n m,w.cell? ((⟨g,0,none⟩:Addr).add 0)=some (.slice A n m)/\k A n m:=⟨_,_,_,by rw [mZ];exact h.nodes,hk⟩
theorem TV.goD(h:TV w S g T d b c L){k:Int->Prop}(hk:k d):∃t,w.cell? ((⟨g,0,none⟩:Addr).add 1)=some (.int .i64 t)/\k t:=
 ⟨_,by rw [mZ];exact h.Jq,hk⟩
theorem TV.Jk(h:TV w S g T d b c L){i:Nat}{nd:Nd}{v:Value}(hi:L[i]? =some (nd,v)){k:Int->Prop}(hk:k nd.parent):
 ∃t,w.cell? (((⟨b,0,none⟩:Addr).add (i*5)).add 0)=some (.int .i64 t)/\k t:=⟨_,by rw [pq];exact h.cell hi (by omega) rfl,hk⟩
theorem TV.WV(h:TV w S g T d b c L){i:Nat}{nd:Nd}{v:Value}(hi:L[i]? =some (nd,v)){A:Option Addr}{m:Nat}(hv:v=.slice A nd.ch.length m){k:Option Addr->Nat->Nat->Prop}(hk:k A nd.ch.length m):
 ∃A n m,w.cell? (((⟨b,0,none⟩:Addr).add (i*5)).add 1)=some (.slice A n m)/\k A n m:=⟨_,_,_,by rw [pq];exact h.cell hi (by omega) (by rw [hv];rfl),hk⟩
theorem TV.vZ(h:TV w S g T d b c L){i:Nat}{nd:Nd}{v:Value}(hi:L[i]? =some (nd,v)){k:Int->Prop}(hk:k nd.lo):
 ∃t,w.cell? (((⟨b,0,none⟩:Addr).add (i*5)).add 2)=some (.int .u64 t)/\k t:=⟨_,by rw [pq];exact h.cell hi (by omega) rfl,hk⟩
theorem TV.Bk(h:TV w S g T d b c L){i:Nat}{nd:Nd}{v:Value}(hi:L[i]? =some (nd,v)){k:Int->Prop}(hk:k nd.hi):
 ∃t,w.cell? (((⟨b,0,none⟩:Addr).add (i*5)).add 3)=some (.int .u64 t)/\k t:=⟨_,by rw [pq];exact h.cell hi (by omega) rfl,hk⟩
theorem TV.y0(h:TV w S g T d b c L){i:Nat}{nd:Nd}{v:Value}(hi:L[i]? =some (nd,v)){k:Int->Prop}(hk:k nd.free):
 ∃t,w.cell? (((⟨b,0,none⟩:Addr).add (i*5)).add 4)=some (.int .u64 t)/\k t:=⟨_,by rw [pq];exact h.cell hi (by omega) rfl,hk⟩
theorem TV.kept{w':World}(h:TV w S g T d b c L)(hk:Kept Nil w w'):TV w' S g T d b c L:=h.aJ hk fun _ _ h=>h
end
section
variable{w:World}{S:Nat->Prop}{g:Nat}{T:List Nd}{d:Int}{K:Value->World->Prop}
theorem yx(h:pD w S g T d)(n:Int)(hK:K (.bool (decide (0<=n/\n<T.length))) w):
 bD prog jc.id #[.pointer (some ⟨g,0,none⟩),.int .i64 n] w K:=by
 obtain⟨b,c,L,h⟩:=h;refine jc.of (Split.yes rfl (Split.dec (fun h0=>h.go ?_) (fun h0=>?_)))
 ·rwa [show decide (0<=n/\n<(T.length:Int))=decide (n<(T.length:Int))from by simp [show(0:Int)<=n from h0]]at hK
 ·rwa [decide_eq_false (fun e:0<=n/\n<(T.length:Int)=>h0 e.1)]at hK
theorem Hu(h:pD w S g T d)(hT:0<T.length)(n:Int)(hK:K (.int .i64 (if 0<=n/\n<T.length then 0 else 6)) w):
 bD prog gS.id #[.pointer (some ⟨g,0,none⟩),.int .i64 n] w K:=by
 have h0:=h;obtain⟨b,c,L,h⟩:=h;refine gS.of (Split.no rfl (h.go (Split.no (beq_eq_false_iff_ne.2 (by omega)) (yx h0 n ⟨_,rfl,?_⟩))));by_cases hn:0<=n/\n<(T.length:Int)
 ·rw [if_pos hn]at hK
  exact Split.no (by simp [hn]) hK
 ·rw [if_neg hn]at hK
  exact Split.yes (by simp only [decide_eq_false hn];rfl) hK
theorem tK(h:pD w S g T d){n:Nat}(hn:n<T.length)(hK:K (.int .i64 0) w):
 bD prog gS.id #[.pointer (some ⟨g,0,none⟩),.int .i64 n] w K:=Hu h (by omega) n (by rw [if_pos ⟨by omega,by omega⟩];exact hK)
theorem Fc(h:pD w S g T d){n:Nat}{nd:Nd}(hn:T[n]? =some nd)(hK:∀w',Kept Nil w w'->K (.int .u64 (u64.wrap (nd.hi-nd.free))) w'):
 bD prog gh.id #[.pointer (some ⟨g,0,none⟩),.int .i64 n] w K:=by
 obtain⟨b,c,L,h⟩:=h;have dg:n<T.length:=(lgeS hn).1;obtain⟨v,hv⟩:=h.at_ hn;refine gh.of ?_;unfold gh.W;intro w1;have k1:Kept Nil w w1:=(Kept.refl Nil w).drew;have h1:=h.kept k1;have hb:0<=(n:Int)/\(n:Int)<(T.length:Int):=⟨by omega,by omega⟩;exact h1.go ⟨hb,h1.Bk hv (h1.go ⟨hb,h1.y0 hv (hK w1 k1)⟩)⟩
theorem zP(h:pD w S g T d){n:Nat}{nd:Nd}(hn:T[n]? =some nd)(h0:0<n)(hK:K (.tuple #[.int .i64 nd.parent,.int .i64 0]) w):
 bD prog fQ.id #[.pointer (some ⟨g,0,none⟩),.int .i64 n] w K:=by
 have dg:n<T.length:=(lgeS hn).1;refine fQ.of (tK h dg ⟨_,rfl,Split.yes rfl (Split.no (beq_eq_false_iff_ne.2 (by omega)) (Split.no rfl ?_))⟩);obtain⟨b,c,L,h⟩:=h;obtain⟨v,hv⟩:=h.at_ hn;exact h.go ⟨⟨by omega,by omega⟩,h.Jk hv hK⟩
theorem My:zD prog jK gZ 1 8:=⟨by kernel_rfl,by kernel_rfl⟩
theorem yz:zD prog iY jJ 5 56:=⟨by kernel_rfl,by kernel_rfl⟩
end
theorem fV{x:Int}(h0:0<=x)(h1:x<18446744073709551616):u64.wrap x=x:=by
 simp only [IntKind.wrap,IntKind.bits,IntKind.signed];simp;omega
theorem iZ{x:Int}(h0: -9223372036854775808<=x)(h1:x<9223372036854775808):i64.wrap x=x:=by
 simp only [IntKind.wrap,IntKind.bits,IntKind.signed];simp;omega
def vX(T:List Nd)(n p:Nat)(nd pd:Nd)(many:Int):List Nd:=
 (T.set n {nd with lo:=pd.free,hi:=pd.free+many-1,free:=pd.free}).set p {pd with free:=pd.free+many}
section
variable{w:World}{S:Nat->Prop}{g:Nat}{T:List Nd}{d:Int}{K:Value->World->Prop}
theorem jm{α:Type}{L:List α}{i:Nat}{x y:α}(h:L[i]? =some x):(L.set i y)[i]? =some y:=by
 rw [List.getElem?_set_self (lgeS h).1]
theorem oO{α:Type}{L:List α}{i j:Nat}{x y:α}(h:L[j]? =some x)(fP:i≠j):(L.set i y)[j]? =some x:=by
 rw [List.getElem?_set_ne fP];exact h
theorem uS{b c:Nat}{L:List (Nd×Value)}(h:TV w S g T d b c L){n p:Nat}{nd pd:Nd}{many:Int}(hn:T[n]? =some nd)(hp:T[p]? =some pd)(RK:nd.parent=p)(fP:n≠p)
 (hf:0<=pd.free) (hm:1<=many) (hfm:pd.free+many<18446744073709551616)
 (hK:∀w' L',TV w' S g (vX T n p nd pd many) d b c L'->Kept (fun k=>k=b) w w'->K (.tuple #[]) w'):
 bD prog gm.id #[.pointer (some ⟨g,0,none⟩),.int .i64 n,.int .u64 many] w K:=by
 have zy:n<T.length:=(lgeS hn).1;have rT:p<T.length:=(lgeS hp).1;obtain⟨v,hv⟩:=h.at_ hn;obtain⟨u,hu⟩:=h.at_ hp;have Yr:0<=(n:Int)/\(n:Int)<(T.length:Int):=⟨by omega,by omega⟩;have NJ:0<=nd.parent/\nd.parent<(T.length:Int):=by rw [RK];exact⟨by omega,by omega⟩
 refine gm.of (h.go ⟨Yr,Is.mk rfl ?_⟩);intro w7;have k7:Kept (fun k=>k=b) w w7:=(Kept.refl _ w).drew;have h7:TV w7 S g T d b c L:=h.kept (Kept.refl Nil w).drew;refine h7.go (h7.Jk hv ⟨NJ,Is.mk rfl ?_⟩);rw [RK];refine h7.y0 hu ?_;obtain⟨Y5,BR⟩:=h7.uY hv (j:=2) (by omega) (u:=.int .u64 pd.free) (nd':= {nd with lo:=pd.free}) rfl rfl;have kS:∀ {w w':World},Kept (fun k=>k=b) w w'->∀(j:Nat) (u:Value),Kept (fun k=>k=b) w (w'.setCell ⟨b,j,none⟩ u):=fun k j u=>k.setCell (fun _=>rfl) u;have v1:(L.set n ({nd with lo:=pd.free},v))[n]? =some ({nd with lo:=pd.free},v):=jm hv;refine⟨by rw [pq];exact Y5,?_⟩;intro pw;have e13:pw=w7.setCell ⟨b,n*5+2,none⟩ (.int .u64 pd.free):=by simp only [pw,pq,Int.toNat_natCast]
 have Cz:Kept (fun k=>k=b) w pw:=by rw [e13];exact kS k7 _ _
 rw [<-e13]at BR;clear_value pw;refine BR.vZ v1 ?_;obtain⟨wr2,Gu⟩:=BR.uY v1 (j:=3) (by omega) (u:=.int .u64 (u64.wrap (u64.wrap (pd.free+many)-1))) (nd':= {nd with lo:=pd.free,hi:=pd.free+many-1}) (by rw [fV (x:=pd.free+many) (by omega) (by omega),fV (by omega) (by omega)];rfl) rfl;refine⟨by rw [pq];exact wr2,?_⟩;intro nS;have e15:nS=pw.setCell ⟨b,n*5+3,none⟩ (.int .u64 (u64.wrap (u64.wrap (pd.free+many)-1))):=by simp only [nS,pq,Int.toNat_natCast]
 have tX:Kept (fun k=>k=b) w nS:=by rw [e15];exact kS Cz _ _
 rw [<-e15]at Gu;clear_value nS;rw [List.set_set,List.set_set]at Gu;have v2:(L.set n ({nd with lo:=pd.free,hi:=pd.free+many-1},v))[n]? =some ({nd with lo:=pd.free,hi:=pd.free+many-1},v):=jm hv;refine Gu.vZ v2 ?_;obtain⟨Y4,Kl⟩:=Gu.uY v2 (j:=4) (by omega) (u:=.int .u64 pd.free) (nd':= {nd with lo:=pd.free,hi:=pd.free+many-1,free:=pd.free}) rfl rfl;refine⟨by rw [pq];exact Y4,?_⟩;intro xA;have e17:xA=nS.setCell ⟨b,n*5+4,none⟩ (.int .u64 pd.free):=by simp only [xA,pq,Int.toNat_natCast]
 have Ig:Kept (fun k=>k=b) w xA:=by rw [e17];exact kS tX _ _
 rw [<-e17]at Kl;clear_value xA;rw [List.set_set,List.set_set]at Kl;have u3:(L.set n ({nd with lo:=pd.free,hi:=pd.free+many-1,free:=pd.free},v))[p]? =some (pd,u):=oO hu fP;refine Kl.y0 u3 ?_;obtain⟨wr4,WR⟩:=Kl.uY u3 (j:=4) (by omega) (u:=.int .u64 (u64.wrap (pd.free+many))) (nd':= {pd with free:=pd.free+many}) (by rw [fV (by omega) (by omega)];rfl) rfl;refine⟨by rw [pq];exact wr4,?_⟩;intro pv;have e19:pv=xA.setCell ⟨b,p*5+4,none⟩ (.int .u64 (u64.wrap (pd.free+many))):=by simp only [pv,pq,Int.toNat_natCast]
 exact hK pv _ (by rw [e19];exact WR) (by rw [e19];exact kS Ig _ _)
theorem Fe(h:pD w S g T d){n p:Nat}{nd pd:Nd}{many:Int}(hn:T[n]? =some nd)(hp:T[p]? =some pd)(RK:nd.parent=p)(fP:n≠p)
 (hf:0<=pd.free) (hm:1<=many) (hfm:pd.free+many<18446744073709551616)
 (hK:∀w',pD w' S g (vX T n p nd pd many) d->Kept S w w'->K (.tuple #[]) w'):
 bD prog gm.id #[.pointer (some ⟨g,0,none⟩),.int .i64 n,.int .u64 many] w K:=by
 obtain⟨b,c,L,h⟩:=h;exact uS h hn hp RK fP hf hm hfm fun w' L' h' k'=>hK w' ⟨b,c,L',h'⟩ (k'.mono fun k _ e=>by rw [e];exact h.gM)
end
section
variable{w:World}{S:Nat->Prop}{g:Nat}{T:List Nd}{d:Int}{b c:Nat}{L:List (Nd×Value)}
theorem Bq(L M:List (Nd×Value)):pg (L++M)=pg L++pg M:=by simp [pg]
theorem TV.Jj(h:TV w S g T d b c L)(mF:T.length<=1000000)(p:Int){w10:World}
 (e10:w10=w.alloc (.cells #[.int .i64 p,.slice none 0 0,.int .u64 0,.int .u64 0,.int .u64 0] jJ)):
 ∃A c' nv,(Builtin.append_ #[iY,iY] iY #[.slice (some ⟨b,0,none⟩) T.length c,.slice (some ⟨w.heap.size,0,none⟩) 1 1]).run prog w10=.ok (.slice A (T.length+1) c') nv/\
  Wr nv ⟨g,0,none⟩/\∃b' S' L',TV (nv.setCell ⟨g,0,none⟩ (.slice A (T.length+1) c')) S' g (T++ [⟨p,[],0,0,0⟩]) d b' c' L'/\(∀(i:Nat) q,L[i]? =some q->L'[i]? =some q)/\
   Kept S w (nv.setCell ⟨g,0,none⟩ (.slice A (T.length+1) c'))/\(∀k,S k->S' k)/\(∀k,S' k->S k\/w.heap.size<=k):=by
 subst e10;generalize PA:w.alloc (.cells #[.int .i64 p,.slice none 0 0,.int .u64 0,.int .u64 0,.int .u64 0] jJ)=w10;have nK:w10.heap[w.heap.size]? =some (.cells #[.int .i64 p,.slice none 0 0,.int .u64 0,.int .u64 0,.int .u64 0] jJ (0,0)):=by rw [<-PA];exact aM w _
 have rR:Kept Nil w w10:=by rw [<-PA];exact(Kept.refl Nil w).alloc _
 have Lo:w10.heap.size=w.heap.size+1:=by rw [<-PA];simp
 have uO:=h.kept rR;obtain⟨A,c',nv,hr,fJ,hg,CZ⟩:=fR (P:=prog) (t:=iY) (ty:=iY) yz uO.row (a:=⟨w.heap.size,0,none⟩) (m:=1) (cx:=1)
  (news:=jN ⟨p,[],0,0,0⟩ (.slice none 0 0)) rfl (fun j u hj=>by rw [mZ,aE nK];simpa [jN]using hj) (by intro u hu;simp [jN]at hu;rcases hu with rfl|rfl|rfl|rfl|rfl<;>rfl)
  (by omega) (by unfold maxLen;omega) (Nat.zero_le _)
 obtain⟨b',rfl⟩:=Row.some fJ (by omega);have kb:Kept (fun k=>k=b) w10 nv:=(Kept.refl _ w10).grown hg (fun k hk _=>by cases hk;rfl);have jE:nv.heap[g]? =some (.cells #[.slice (some ⟨b,0,none⟩) T.length c,.int .i64 d] uv (0,0)):=kb.heap uO.top h.gb;refine⟨_,c',nv,hr,dN jE (show 0<2 by omega),?_⟩;generalize TQ:nv.setCell ⟨g,0,none⟩ (.slice (some ⟨b',0,none⟩) (T.length+1) c')=wf;have kg:Kept (fun k=>k=g) nv wf:=by rw [<-TQ];exact(Kept.refl (fun k=>k=g) nv).setCell (p:=⟨g,0,none⟩) (fun _=>rfl) _
 have xf:b'=b\/w10.heap.size<=b':=by
  rcases CZ b' rfl with h|h
  ·left;cases h;rfl
  ·exact .inr h
 have acy:b'≠g:=by
  rintro rfl;obtain⟨_,cur,hc⟩:=Row.bV fJ (k:=b') rfl;rw [jE]at hc;injection hc with hc;injection hc with _ ht;exact absurd ht (by decide)
 have Gl:∀(i:Nat) (q:Nd×Value),L[i]? =some q->∃A m,Xo wf S q A m:=by
  intro i q hq;obtain⟨A,m,hk⟩:=uO.ry i q hq;obtain⟨cur,RS⟩:=uO.wx;have r1:=Row.aJ hk.row kb (fun k e e2=>hk.ne RS (by decide) (by rw [e,e2]));have r2:=Row.aJ r1 kg (fun k e e2=>hk.ne uO.top (by decide) (by rw [e,e2]));exact⟨A,m,hk.val,r2,hk.kX⟩
 refine⟨b',fun k=>S k\/k=b',L++ [(⟨p,[],0,0,0⟩,.slice none 0 0)],?_,fun i q hq=>?_,?_,fun k hk=>.inl hk,?_⟩
 ·exact {
   top:=by
    have:=dp jE 0 (.slice (some ⟨b',0,none⟩) (T.length+1) c');rw [TQ]at this;simpa using this
   fst:=by simp [h.fst]
   row:=by
    rw [Bq,List.length_append];have:=Row.aJ fJ kg (fun k e e2=>acy (by cases e;exact e2));simpa [pg]using this
   ry:=fun i q hq=>by
    rw [List.getElem?_append]at hq;split at hq
    ·obtain⟨A,m,hk⟩:=Gl i q hq
     exact⟨A,m,hk.val,hk.row,fun k e=>.inl (hk.kX k e)⟩
    ·rename_i dg
     have:i-L.length=0:=by
      rcases Nat.eq_zero_or_pos (i-L.length)with h|h
      ·exact h
      ·rw [List.getElem?_eq_none (by simp;omega)]at hq;cases hq
     rw [this]at hq;simp at hq;subst hq;exact⟨none,0,rfl,Row.nil _ _ _ _,fun k e=>by cases e⟩
   apart:=fun i j q q' hq AX sD k hk oW=>by
    rw [List.getElem?_append]at hq AX;have last:∀(x:Nat) (r:Nd×Value),[((⟨p,[],0,0,0⟩:Nd),Value.slice none 0 0)][x]? =some r->r.2=.slice none 0 0:=by
     intro x r hr;cases x with
     |zero=>simp at hr;subst hr;rfl
     |succ x=>simp at hr
    split at hq<;>split at AX
    ·exact h.apart i j q q' hq AX sD k hk oW
    ·rw [last _ _ AX]at oW;cases oW
    ·rw [last _ _ hq]at hk;cases hk
    ·rw [last _ _ AX]at oW;cases oW
   iS:=.inl h.iS
   gM:=.inr rfl}
 ·rw [List.getElem?_append_left (lgeS hq).1];exact hq
 ·have zt:Kept S w nv:=(rR.mono (S':=S) (fun _ _ h=>h.elim)).trans kb (fun k _ e=>by rw [e];exact h.gM)
  exact zt.trans kg (fun k _ e=>by rw [e];exact h.iS)
 ·rintro k (hk|rfl)
  ·exact .inl hk
  ·rcases xf with rfl|xf
   ·exact .inl h.gM
   ·right;omega
theorem TV.L7(h:TV w S g T d b c L){p:Nat}{nd:Nd}{v:Value}(hp:L[p]? =some (nd,v)){A:Option Addr}{m:Nat}(hk:Xo w S (nd,v) A m)(mF:nd.ch.length<=1000000)(n:Nat){w22:World}
 (e22:w22=w.alloc (.cells #[.int .i64 n] gZ)):
 ∃A' c' mC,(Builtin.append_ #[jK,jK] jK #[.slice A nd.ch.length m,.slice (some ⟨w.heap.size,0,none⟩) 1 1]).run prog w22=.ok (.slice A' (nd.ch.length+1) c') mC/\
  mC.cell? ⟨g,0,none⟩=some (.slice (some ⟨b,0,none⟩) T.length c)/\Wr mC ⟨b,p*5+1,none⟩/\
  ∃S' L',TV (mC.setCell ⟨b,p*5+1,none⟩ (.slice A' (nd.ch.length+1) c')) S' g (T.set p {nd with ch:=nd.ch++ [n]}) d b c L'/\
   Kept S w (mC.setCell ⟨b,p*5+1,none⟩ (.slice A' (nd.ch.length+1) c'))/\(∀k,S k->S' k)/\(∀k,S' k->S k\/w.heap.size<=k):=by
 subst e22;generalize Pz:w.alloc (.cells #[.int .i64 n] gZ)=w22;have nK:w22.heap[w.heap.size]? =some (.cells #[.int .i64 n] gZ (0,0)):=by rw [<-Pz];exact aM w _
 have TB:Kept Nil w w22:=by rw [<-Pz];exact(Kept.refl Nil w).alloc _
 have aiK:w22.heap.size=w.heap.size+1:=by rw [<-Pz];simp
 have C8:=h.kept TB;have PM:=Row.aJ hk.row TB (fun _ _ h=>h);have rT:p<L.length:=(lgeS hp).1;obtain⟨A',c',mC,hr,fJ,hg,CZ⟩:=fR (P:=prog) (t:=jK) (ty:=jK) My PM (a:=⟨w.heap.size,0,none⟩) (m:=1) (cx:=1)
  (news:=ints [n]) rfl (fun j u hj=>by rw [mZ,aE nK];simpa [ints]using hj) (by intro u hu;simp [ints]at hu;subst hu;rfl)
  (by simp only;omega) (by unfold maxLen;simp only;omega) (Nat.zero_le _)
 obtain⟨cur,RS⟩:=C8.wx;obtain⟨ala,hb0⟩:=h.wx;have Nw:bG A≠some b:=hk.ne hb0 (by decide);have hkg:bG A≠some g:=hk.ne h.top (by decide);have kA:Kept (fun k=>bG A=some k) w22 mC:=(Kept.refl _ w22).grown hg (fun k hk _=>hk);have Ji:Row mC 0 jJ 5 (some ⟨b,0,none⟩) T.length c (pg L):=Row.aJ C8.row kA (fun k e e2=>Nw (by rw [e2,<-e];rfl));have Jh:=kA.heap C8.top (fun e=>hkg e);have dg:p*5+1<(pg L).length:=by rw [uo];omega
 refine⟨A',c',mC,hr,by rw [aE Jh];rfl,Row.wr Ji dg,?_⟩;generalize TQ:mC.setCell ⟨b,p*5+1,none⟩ (.slice A' (nd.ch.length+1) c')=wf;have kB:Kept (fun k=>k=b) mC wf:=by rw [<-TQ];exact(Kept.refl (fun k=>k=b) mC).setCell (p:=⟨b,p*5+1,none⟩) (fun _=>rfl) _
 have ac6:bG A'≠some b:=by
  intro e;obtain⟨_,W7,hc⟩:=Row.bV fJ e;have:=kA.heap RS Nw;rw [this]at hc;injection hc with hc;injection hc with _ ht;exact absurd ht (by decide)
 have vM:∀(A:Option Addr) n m,Value.ownBlock (.slice A n m)=bG A:=by intro A n m;cases A<;>rfl
 have gR:∀(i:Nat) (q:Nd×Value),(L.set p ({nd with ch:=nd.ch++ [n]},.slice A' (nd.ch.length+1) c'))[i]? =some q->(i=p/\q=({nd with ch:=nd.ch++ [n]},.slice A' (nd.ch.length+1) c'))\/(i≠p/\L[i]? =some q):=by
  intro i q hq;by_cases e:p=i
  ·subst e
   rw [List.getElem?_set_self rT]at hq;cases hq;exact .inl ⟨rfl,rfl⟩
  ·rw [List.getElem?_set_ne e]at hq
   exact .inr ⟨fun h=>e h.symm,hq⟩
 have Nq:∀k,bG A'=some k->∀(i:Nat) (q:Nd×Value),i≠p->L[i]? =some q->Value.ownBlock q.2≠some k:=by
  intro k oW i q hi hq hqk;rcases CZ k oW with e|e
  ·exact h.apart p i _ _ hp hq (fun e=>hi e.symm) k (by rw [hk.val,vM];exact e) hqk
  ·obtain⟨A2,m2,oV⟩:=h.ry i q hq
   rw [oV.val,vM]at hqk;obtain⟨_,ak9,I1⟩:=Row.bV oV.row hqk;have:=aY I1;omega
 refine⟨fun k=>S k\/bG A'=some k,L.set p ({nd with ch:=nd.ch++ [n]},.slice A' (nd.ch.length+1) c'),?_,?_,fun k hk=>.inl hk,?_⟩
 ·exact {
   top:=by rw [List.length_set];exact kB.heap Jh h.gb
   fst:=by rw [List.map_set,h.fst]
   row:=by
    rw [List.length_set];have:=Row.set Ji dg (.slice A' (nd.ch.length+1) c');rw [TQ,Bp hp (j:=1) (by omega) (p':=({nd with ch:=nd.ch++ [n]},.slice A' (nd.ch.length+1) c')) rfl]at this;exact this
   ry:=fun i q hq=>by
    rcases gR i q hq with⟨rfl,rfl⟩|⟨hi,hq⟩
    ·refine⟨A',c',by simp,?_,fun k e=>.inr e⟩
     have:=Row.aJ fJ kB (fun k e e2=>ac6 (by rw [e,e2]));simpa [ints]using this
    ·obtain⟨A2,m2,oV⟩:=C8.ry i q hq
     have r1:=Row.aJ oV.row kA (fun k e e2=>h.apart p i _ _ hp hq (fun e=>hi e.symm) k (by rw [hk.val,vM];exact e2) (by rw [oV.val,vM];exact e));have r2:=Row.aJ r1 kB (fun k e e2=>oV.ne RS (by decide) (by rw [e,e2]));exact⟨A2,m2,oV.val,r2,fun k e=>.inl (oV.kX k e)⟩
   apart:=fun i j q q' hq AX sD k Kg oV=>by
    rcases gR i q hq with⟨e1,e2⟩|⟨hi,Nj⟩<;>rcases gR j q' AX with⟨e3,e4⟩|⟨hj,RH⟩
    ·exact sD (e1.trans e3.symm)
    ·rw [e2,vM]at Kg;exact Nq k Kg j q' hj RH oV
    ·rw [e4,vM]at oV;exact Nq k oV i q hi Nj Kg
    ·exact h.apart i j q q' Nj RH sD k Kg oV
   iS:=.inl h.iS
   gM:=.inl h.gM}
 ·have qT:Kept S w mC:=(TB.mono (S':=S) (fun _ _ h=>h.elim)).trans kA (fun k _ e=>hk.kX k e)
  exact qT.trans kB (fun k _ e=>by rw [e];exact h.gM)
 ·rintro k (oW|oW)
  ·exact .inl oW
  ·rcases CZ k oW with e|e
   ·exact .inl (hk.kX k e)
   ·right;omega
end
def grown(T:List Nd)(p:Nat)(pd:Nd):List Nd:=(T++ [(⟨p,[],0,0,0⟩:Nd)]).set p {pd with ch:=pd.ch++ [T.length]}
def jG(pd:Nd):Int:=(pd.hi-pd.free+1)/2
def added(T:List Nd)(p:Nat)(pd:Nd):List Nd:=vX (grown T p pd) T.length p ⟨p,[],0,0,0⟩ {pd with ch:=pd.ch++ [T.length]} (jG pd)
section
variable{w:World}{S:Nat->Prop}{g:Nat}{T:List Nd}{d:Int}{K:Value->World->Prop}
theorem uT(h:pD w S g T d){p:Nat}{pd:Nd}(hp:T[p]? =some pd)(mF:T.length<=1000000)(pf:pd.ch.length<=1000000)
 (hf:0<=pd.free) (hfh:pd.free<=pd.hi) (hh:pd.hi<=4611686018427387904)
 (hK1:pd.free<pd.hi->∀w' S',pD w' S' g (added T p pd) d->Kept S w w'->(∀k,S' k->S k\/w.heap.size<=k)->K (.tuple #[.int .i64 T.length,.int .i64 0]) w')
 (hK2:pd.free=pd.hi->∀w' S',pD w' S' g (grown T p pd) d->Kept S w w'->(∀k,S' k->S k\/w.heap.size<=k)->
   bD prog aA.id #[.pointer (some ⟨g,0,none⟩),.int .i64 p] w' fun v mD=>v=.tuple #[]/\K (.tuple #[.int .i64 T.length,.int .i64 0]) mD):
 bD prog gU.id #[.pointer (some ⟨g,0,none⟩),.int .i64 p] w K:=by
 have dg:p<T.length:=(lgeS hp).1;refine gU.of (tK h dg ⟨_,rfl,Split.no rfl ?_⟩);obtain⟨b,c,L,h⟩:=h;obtain⟨v,hv⟩:=h.at_ hp;refine h.go (h.go ⟨rfl,?_⟩);intro w10;obtain⟨A1,c1,nv,nz,Y5,b1,S1,L1,YD,hL1,JW,hS1,WB⟩:=h.Jj mF (p:Int) (w10:=w10) rfl;refine⟨A1,_,c1,nv,nz,by rw [mZ];exact Y5,?_⟩;intro jb;have e14:jb=nv.setCell ⟨g,0,none⟩ (.slice A1 (T.length+1) c1):=by simp only [jb,mZ]
 rw [<-e14]at YD JW;clear_value jb;intro nS;have tX:Kept Nil jb nS:=(Kept.refl Nil jb).drew;have Gu:=YD.kept tX;have J0:=hL1 _ _ hv;have hlen:(T++ [(⟨p,[],0,0,0⟩:Nd)]).length=T.length+1:=by simp
 have G8:0<=(p:Int)/\(p:Int)<((T++ [(⟨p,[],0,0,0⟩:Nd)]).length:Int):=by rw [hlen];exact⟨by omega,by omega⟩
 obtain⟨A2,m2,hk⟩:=Gu.ry _ _ J0;refine Gu.go (Gu.go ⟨G8,Gu.WV J0 hk.val ?_⟩);intro w22;have TB:Kept Nil nS w22:=(Kept.refl Nil nS).alloc _;have C8:=Gu.kept TB;obtain⟨A3,c3,mC,yU,UM,Y4,S3,L3,YC,AN,hS3,acK⟩:=Gu.L7 J0 hk pf T.length (w22:=w22) rfl;have Bb:=C8.cell J0 (j:=1) (by omega) (v:=v) rfl;have hvv:v=.slice A2 pd.ch.length m2:=hk.val;rw [hvv]at Bb;refine⟨by rw [pq];exact Bb,by rw [mZ];exact C8.nodes,by rw [mZ];exact C8.nodes,A3,_,c3,mC,yU,by rw [mZ];exact UM,G8,by rw [pq];exact Y4,?_⟩;intro q9;have e26:q9=mC.setCell ⟨b1,p*5+1,none⟩ (.slice A3 (pd.ch.length+1) c3):=by simp only [q9,pq,Int.toNat_natCast]
 rw [<-e26]at YC AN;clear_value q9;have Lm:(T++ [(⟨p,[],0,0,0⟩:Nd)]).set p {pd with ch:=pd.ch++ [T.length]}=grown T p pd:=rfl;rw [Lm]at YC;have hgp:(grown T p pd)[p]? =some {pd with ch:=pd.ch++ [T.length]}:=by
  unfold grown;rw [List.getElem?_set_self (by simp;omega)]
 have hgn:(grown T p pd)[T.length]? =some ⟨p,[],0,0,0⟩:=by
  unfold grown;rw [List.getElem?_set_ne (by omega)];simp
 have kw:Kept S w q9:=(JW.tt (tX.mono (S':=S) (fun _ _ h=>h.elim))).trans AN (fun k hk h=>by
  rcases WB k h with h|h
  ·exact h
  ·omega)
 have QL:∀k,S3 k->S k\/w.heap.size<=k:=fun k h=>by
  rcases acK k h with h|h
  ·exact WB k h
  ·right
   have:=JW.size;have:=tX.size;omega
 refine Fc ⟨_,_,_,YC⟩ hgp fun GY Ia=>⟨_,rfl,?_⟩;have h28:=YC.kept Ia;have Tb:Kept S w GY:=kw.trans Ia (fun _ _ h=>h.elim);simp only [];rw [fV (x:=pd.hi-pd.free) (by omega) (by omega)];refine Split.dec (fun jO=>⟨by decide,?_⟩) (fun jO=>?_)
 ·have EF:u64.wrap ((u64.wrap (pd.hi-pd.free+1)).tdiv 2)=jG pd:=by
   rw [fV (x:=pd.hi-pd.free+1) (by omega) (by omega),Int.tdiv_eq_ediv_of_nonneg (by omega),fV (by omega) (by omega)];rfl
  rw [EF];refine Fe ⟨_,_,_,h28⟩ hgn hgp rfl (by omega) hf (by unfold jG;omega) (by unfold jG;simp only;omega) fun Hn h31 MR=>⟨rfl,?_⟩;refine hK1 (by omega) Hn S3 h31 (Tb.trans MR fun k hk h=>?_) QL;rcases QL k h with h|h
  ·exact h
  ·omega
 ·exact hK2 (by omega) GY S3 ⟨_,_,_,h28⟩ Tb QL
end
section
variable{w:World}{S:Nat->Prop}{g:Nat}{T:List Nd}{d:Int}{K:Value->World->Prop}
def qO:List Nd:= [⟨-1,[],1,4611686018427387904,1⟩]
theorem fh(hK:∀w' g,pD w' (fun k=>w.heap.size<=k) g qO 0->Kept Nil w w'->K (.pointer (some ⟨g,0,none⟩)) w'):bD prog fh.id #[] w K:=by
 refine fh.of ⟨rfl,?_⟩;intro w1 w2;have k1:Kept Nil w w1:=(Kept.refl Nil w).alloc _;have k2:Kept Nil w w2:=k1.alloc _;refine hK w2 w1.heap.size ⟨w.heap.size,1,[(⟨-1,[],1,4611686018427387904,1⟩,.slice none 0 0)],?_⟩ k2;exact {
  top:=aM w1 _
  fst:=rfl
  row:=Row.made (n:=1) (cur:= #[.int .i64 (-1),.slice none 0 0,.int .u64 1,.int .u64 4611686018427387904,.int .u64 1]) (lu (aM w _) _) (Nat.zero_le _) rfl (by decide)
  ry:=fun i p hp=>by
   cases i with
   |zero=>simp at hp;subst hp;exact⟨none,0,rfl,Row.nil _ _ _ _,fun k e=>by cases e⟩
   |succ i=>simp at hp
  apart:=fun i j p q hp hq sD=>by
   cases i<;>cases j<;>simp at hp hq
   exact absurd rfl sD
  iS:=k1.size
  gM:=Nat.le_refl _}
theorem B9(h:pD w S g T d){a b:Nat}{ad bd:Nd}(ha:T[a]? =some ad)(hb:T[b]? =some bd)(hK:∀w',Kept Nil w w'->K (.bool (decide (bd.lo<=ad.lo/\ad.hi<=bd.hi))) w'):
 bD prog fK.id #[.pointer (some ⟨g,0,none⟩),.int .i64 a,.int .i64 b] w K:=by
 have hal:a<T.length:=(lgeS ha).1;have CZ:b<T.length:=(lgeS hb).1;have hba:0<=(a:Int)/\(a:Int)<(T.length:Int):=⟨by omega,by omega⟩;have xc:0<=(b:Int)/\(b:Int)<(T.length:Int):=⟨by omega,by omega⟩;refine fK.of ?_;unfold fK.W;intro w4;have k4:Kept Nil w w4:=(Kept.refl Nil w).drew;have h4:=h.same k4;have hk:=hK w4 k4;refine yx h4 a ⟨_,rfl,Split.yes (decide_eq_true hba) ?_⟩;refine yx h4 b ⟨_,rfl,Split.yes (decide_eq_true xc) ?_⟩;obtain⟨p,c,L,h4⟩:=h4;obtain⟨va,hva⟩:=h4.at_ ha;obtain⟨vb,hvb⟩:=h4.at_ hb;refine h4.go ⟨xc,h4.vZ hvb (h4.go ⟨hba,h4.vZ hva ?_⟩)⟩;refine Split.dec (fun h1=>h4.go ⟨hba,h4.Bk hva (h4.go ⟨xc,h4.Bk hvb ?_⟩)⟩) (fun h1=>?_)
 ·rwa [show decide (bd.lo<=ad.lo/\ad.hi<=bd.hi)=decide (ad.hi<=bd.hi)from by simp [h1]]at hk
 ·rwa [decide_eq_false (fun e:bd.lo<=ad.lo/\ad.hi<=bd.hi=>h1 e.1)]at hk
end
section
variable{w:World}{t:Option Addr}{K:Value->World->Prop}
end
end Go.Proofs.YtfleamccglihoaaGreatDoor.Tr
namespace Go.Proofs.YtfleamccglihoaaGreatDoor.Tr
open Go.Proofs.Tryz
def b9(T:List Nd):List Int:=T.map (·.parent)
structure oz(P:List Int):Prop where
 root:P[0]? =some (-1)
 up:∀(i:Nat) (p:Int),0<i->P[i]? =some p->∃j:Nat,j<i/\p=j
def kids(P:List Int)(i:Nat):List Nat:=(List.range P.length).filter fun j=>P[j]? ==some (i:Int)
theorem fp{P:List Int}{i j:Nat}:j∈kids P i↔P[j]? =some (i:Int):=by
 simp only [kids,List.mem_filter,List.mem_range,beq_iff_eq];exact⟨fun h=>h.2,fun h=>⟨(lgeS h).1,h⟩⟩
theorem jw{P:List Int}(hP:oz P){i j:Nat}(h:j∈kids P i):i<j/\j<P.length:=by
 rw [fp]at h;refine⟨?_,(lgeS h).1⟩;rcases Nat.eq_zero_or_pos j with rfl|hj
 ·rw [hP.root]at h;have:=Option.some.inj h;omega
 ·obtain⟨k,hk,e⟩:=hP.up j _ hj h
  omega
theorem tW(P:List Int)(i:Nat):(kids P i).Pairwise (· < ·):=List.Pairwise.filter _ (List.pairwise_lt_range)
theorem AI(P:List Int)(i:Nat):(kids P i).length<=P.length:=by
 unfold kids;exact Nat.le_trans (List.length_filter_le _ _) (by simp)
inductive kY (P:List Int):Nat->Nat->Prop
 |refl {i:Nat}:i<P.length->kY P i i
 |step {i j k:Nat}:P[i]? =some (j:Int)->kY P j k->kY P i k
theorem kY.lt{P:List Int}{i k:Nat}(h:kY P i k):i<P.length:=by
 cases h with
 |refl h=>exact h
 |step h _=>exact(lgeS h).1
theorem kY.XA{P:List Int}{i k:Nat}(h:kY P i k):k<P.length:=by
 induction h with
 |refl h=>exact h
 |step _ _ ih=>exact ih
theorem kY.le{P:List Int}(hP:oz P){i k:Nat}(h:kY P i k):k<=i:=by
 induction h with
 |refl=>omega
 |step h _ ih=>have:=(jw hP (fp.2 h)).1;omega
theorem kY.trans{P:List Int}{i j k:Nat}(h:kY P i j)(h':kY P j k):kY P i k:=by
 induction h with
 |refl=>exact h'
 |step h _ ih=>exact .step h (ih h')
theorem kY.inv{P:List Int}{i j k:Nat}(h:kY P i k)(fP:i≠k)(hj:P[i]? =some (j:Int)):kY P j k:=by
 cases h with
 |refl=>exact absurd rfl fP
 | @step _ j' _ h h'=>
   rw [hj]at h;have e:j=j':=by have:=Option.some.inj h;omega
   rw [e];exact h'
theorem kY.child{P:List Int}{i k:Nat}(h:kY P i k)(fP:i≠k):∃c,c∈kids P k/\kY P i c:=by
 induction h with
 |refl=>exact absurd rfl fP
 | @step i j k h h' ih=>
   by_cases e:j=k
   ·subst e
    exact⟨i,fp.2 h,.refl (lgeS h).1⟩
   ·obtain⟨c,hc,hu⟩:=ih e
    exact⟨c,hc,.step h hu⟩
structure Iv(nd:Nd):Prop where
 ZA:1<=nd.lo
 le:nd.lo<=nd.hi
 top:nd.hi<=4611686018427387904
structure Loc(T:List Nd)(nd:Nd):Prop where
 Ha:nd.lo<=nd.free
 Dg:nd.free<=nd.hi
 sub:∀c cd,c∈nd.ch->T[c]? =some cd->nd.lo<=cd.lo/\cd.hi<nd.free
 ord:∀(c c':Nat) cd wo,c∈nd.ch->c'∈nd.ch->c<c'->T[c]? =some cd->T[c']? =some wo->cd.hi<wo.lo
structure Shape(T:List Nd):Prop where
 par:oz (b9 T)
 ch:∀(i:Nat) nd,T[i]? =some nd->nd.ch=kids (b9 T) i
structure Good(T:List Nd):Prop extends Shape T where
 iv:∀(i:Nat) nd,T[i]? =some nd->Iv nd
 loc:∀(i:Nat) nd,T[i]? =some nd->Loc T nd
theorem lR{T:List Nd}{i:Nat}{nd:Nd}(h:T[i]? =some nd):(b9 T)[i]? =some nd.parent:=by simp [b9,h]
theorem fi(T:List Nd):(b9 T).length=T.length:=by simp [b9]
theorem Shape.pos{T:List Nd}(h:Shape T):0<T.length:=by
 have:=(lgeS h.par.root).1
 rwa [fi]at this
theorem Good.ry{T:List Nd}(h:Good T){c k:Nat}{cd kd:Nd}(hc:c∈kids (b9 T) k)(kF:T[c]? =some cd)(Va:T[k]? =some kd):
 kd.lo<=cd.lo/\cd.hi<kd.free:=(h.loc k kd Va).sub c cd (by rw [h.ch k kd Va];exact hc) kF
theorem gE{T:List Nd}{i:Nat}(h:i<T.length):∃nd,T[i]? =some nd:=⟨_,List.getElem?_eq_getElem h⟩
theorem Good.pz{T:List Nd}(h:Good T){a b:Nat}{ad bd:Nd}(ha:T[a]? =some ad)(hb:T[b]? =some bd)(hu:kY (b9 T) a b):bd.lo<=ad.lo/\ad.hi<=bd.hi:=by
 induction hu generalizing ad with
 |refl=>rw [ha]at hb;cases hb;omega
 | @step i j k hp h' ih=>
   have uN:j<T.length:=by have:=h'.lt;rwa [fi]at this
   obtain⟨jd,hj⟩:=gE uN;have h1:=ih hj hb;have h2:=h.ry (fp.2 hp) ha hj;have h3:=(h.loc j jd hj).Dg;omega
theorem Good.apart{T:List Nd}(h:Good T):∀(m a b:Nat),a+b<=m->∀ad bd,T[a]? =some ad->T[b]? =some bd->¬kY (b9 T) a b->¬kY (b9 T) b a->ad.hi<bd.lo\/bd.hi<ad.lo:=by
 intro m
 induction m with
 |zero=>
  intro a b hm ad bd ha hb h1 _;have:a=b:=by omega
  subst this;exact absurd (.refl (by rw [fi];exact(lgeS ha).1)) h1
 |succ m ih=>
  have key:∀(a b:Nat),a+b<=m+1->b<a->∀ad bd,T[a]? =some ad->T[b]? =some bd->¬kY (b9 T) a b->¬kY (b9 T) b a->ad.hi<bd.lo\/bd.hi<ad.lo:=by
   intro a b hm dg ad bd ha hb h1 h2;have hal:=(lgeS ha).1;obtain⟨p,hp,e⟩:=h.par.up a _ (by omega) (lR ha);have Ya:(b9 T)[a]? =some (p:Int):=by rw [lR ha,e]
   obtain⟨pd,yV⟩:=gE (T:=T) (i:=p) (by omega);have gB:=h.ry (fp.2 Ya) ha yV;have rT:=h.loc p pd yV;have vL:¬kY (b9 T) p b:=fun hu=>h1 (.step Ya hu);by_cases NJ:kY (b9 T) b p
   ·have fP:b≠p:=fun e=>vL (by subst e;exact .refl NJ.lt)
    obtain⟨c,hc,M6⟩:=NJ.child fP;have hca:c≠a:=fun e=>h2 (e▸M6);have rU:c<T.length:=by have:=(jw h.par hc).2;rwa [fi]at this
    obtain⟨cd,kF⟩:=gE rU;have QC:=h.pz hb kF M6;have pf:=h.ch p pd yV;rcases Nat.lt_or_ge c a with dg|gK
    ·have:=rT.ord c a cd ad (by rw [pf];exact hc) (by rw [pf];exact fp.2 Ya) dg kF ha
     omega
    ·have:=rT.ord a c ad cd (by rw [pf];exact fp.2 Ya) (by rw [pf];exact hc) (by omega) ha kF
     omega
   ·have:=ih p b (by omega) pd bd yV hb vL NJ
    have:=rT.Dg;omega
  intro a b hm ad bd ha hb h1 h2;rcases Nat.lt_trichotomy a b with dg|rfl|dg
  ·have:=key b a (by omega) dg bd ad hb ha h2 h1
   omega
  ·exact absurd (.refl (by rw [fi];exact(lgeS ha).1)) h1
  ·exact key a b hm dg ad bd ha hb h1 h2
theorem Good.under{T:List Nd}(h:Good T){a b:Nat}{ad bd:Nd}(ha:T[a]? =some ad)(hb:T[b]? =some bd):(bd.lo<=ad.lo/\ad.hi<=bd.hi)↔kY (b9 T) a b:=by
 refine⟨fun hi=>?_,fun hu=>h.pz ha hb hu⟩;by_cases hu:kY (b9 T) a b
 ·exact hu
 ·exfalso
  have ia:=h.iv a ad ha;have ib:=h.iv b bd hb;by_cases hv:kY (b9 T) b a
  ·have fP:b≠a:=fun e=>hu (by subst e;exact .refl hv.lt)
   obtain⟨c,hc,M6⟩:=hv.child fP;have rU:c<T.length:=by have:=(jw h.par hc).2;rwa [fi]at this
   obtain⟨cd,kF⟩:=gE rU;have h1:=h.pz hb kF M6;have h2:=h.ry hc kF ha;have h3:=(h.loc a ad ha).Dg;omega
  ·have:=h.apart (a+b) a b (Nat.le_refl _) ad bd ha hb hu hv
   have:=ia.le;have:=ib.le;omega
theorem yf(T:List Nd)(p:Nat)(pd:Nd):(grown T p pd).length=T.length+1:=by simp [grown]
theorem jP{T:List Nd}{p:Nat}{pd:Nd}(hp:T[p]? =some pd)(i:Nat):(grown T p pd)[i]? =if i=p then some {pd with ch:=pd.ch++ [T.length]}else if i=T.length then some ⟨p,[],0,0,0⟩else T[i]? :=by
 have dg:=(lgeS hp).1;unfold grown;by_cases e:i=p
 ·subst e
  rw [if_pos rfl,List.getElem?_set_self (by simp;omega)]
 ·rw [if_neg e,List.getElem?_set_ne (fun h=>e h.symm)]
  by_cases e2:i=T.length
  ·subst e2;simp
  ·rw [if_neg e2]
   rcases Nat.lt_or_ge i T.length with h|h
   ·rw [List.getElem?_append_left h]
   ·rw [List.getElem?_eq_none (by simp;omega),List.getElem?_eq_none h]
theorem mT{T:List Nd}{p:Nat}{pd:Nd}(hp:T[p]? =some pd):b9 (grown T p pd)=b9 T++ [(p:Int)]:=by
 apply List.ext_getElem?;intro i;have dg:=(lgeS hp).1;simp only [b9,List.getElem?_map,jP hp];by_cases e:i=p
 ·subst e
  rw [if_pos rfl,List.getElem?_append_left (by simpa using dg)];simp [hp]
 ·rw [if_neg e]
  by_cases e2:i=T.length
  ·subst e2;simp
  ·rw [if_neg e2]
   rcases Nat.lt_or_ge i T.length with h|h
   ·rw [List.getElem?_append_left (by simpa using h)];simp
   ·rw [List.getElem?_eq_none h,List.getElem?_eq_none (by simp;omega)];rfl
theorem AJ(P:List Int)(p i:Nat):kids (P++ [(p:Int)]) i=kids P i++if i=p then [P.length]else []:=by
 unfold kids;rw [List.length_append,List.length_singleton,List.range_succ,List.filter_append]
 congr 1
 ·apply List.filter_congr
  intro x hx;rw [List.getElem?_append_left (by simpa using hx)]
 ·by_cases e:i=p
  ·subst e;simp
  ·have:¬((p:Int)=(i:Int)):=by omega
   simp [e,this]
theorem oz.snoc{P:List Int}(h:oz P){p:Nat}(hp:p<P.length):oz (P++ [(p:Int)]):=by
 refine⟨by rw [List.getElem?_append_left (by omega)];exact h.root,fun i q hi hq=>?_⟩;rcases Nat.lt_or_ge i P.length with hl|hl
 ·rw [List.getElem?_append_left hl]at hq
  exact h.up i q hi hq
 ·have:i=P.length:=by
   rcases Nat.eq_or_lt_of_le hl with e|e
   ·exact e.symm
   ·rw [List.getElem?_eq_none (by simp;omega)]at hq;cases hq
  subst this;simp at hq;exact⟨p,hp,hq.symm⟩
theorem Shape.grown{T:List Nd}(h:Shape T){p:Nat}{pd:Nd}(hp:T[p]? =some pd):Shape (grown T p pd):=by
 have dg:=(lgeS hp).1;refine⟨by rw [mT hp];exact h.par.snoc (by rw [fi];exact dg),fun i nd hi=>?_⟩;rw [mT hp,AJ,fi];rw [jP hp]at hi;by_cases e:i=p
 ·subst e
  rw [if_pos rfl]at hi⊢;cases hi;simp [h.ch i pd hp]
 ·rw [if_neg e]at hi⊢
  rw [List.append_nil];by_cases e2:i=T.length
  ·subst e2
   rw [if_pos rfl]at hi;cases hi
   symm
   apply List.eq_nil_iff_forall_not_mem.2;intro c hc;have:=jw h.par hc;rw [fi]at this;omega
  ·rw [if_neg e2]at hi
   exact h.ch i nd hi
def jx(f:Nat->Nat):Nat->Nat
 |0=>0
 |n+1=>jx f n+f n
theorem lH{f g:Nat->Nat}{n:Nat}(h:∀i,i<n->f i=g i):jx f n=jx g n:=by
 induction n with
 |zero=>rfl
 |succ n ih=>
  simp only [jx];rw [ih (fun i hi=>h i (by omega)),h n (by omega)]
theorem zR(f g:Nat->Nat)(n:Nat):jx (fun i=>f i+g i) n=jx f n+jx g n:=by
 induction n with
 |zero=>rfl
 |succ n ih=>simp only [jx];omega
theorem mE{f:Nat->Nat}{n:Nat}(h:∀i,i<n->f i=0):jx f n=0:=by
 induction n with
 |zero=>rfl
 |succ n ih=>
  simp only [jx];rw [ih (fun i hi=>h i (by omega)),h n (by omega)]
theorem Fg(h:Nat->Nat->Nat)(n m:Nat):jx (fun i=>jx (fun j=>h i j) m) n=jx (fun j=>jx (fun i=>h i j) n) m:=by
 induction n with
 |zero=>simp only [jx];exact(mE fun _ _=>rfl).symm
 |succ n ih=>
  simp only [jx];rw [ih,zR]
theorem zQ{n k:Nat}(hk:k<n){f:Nat->Nat}(h:∀i,i<n->i≠k->f i=0):jx f n=f k:=by
 induction n with
 |zero=>omega
 |succ n ih=>
  simp only [jx];rcases Nat.lt_or_ge k n with dg|gK
  ·rw [ih dg (fun i hi=>h i (by omega)),h n (by omega) (by omega),Nat.add_zero]
  ·have:k=n:=by omega
   subst this;rw [mE (fun i hi=>h i (by omega) (by omega)),Nat.zero_add]
theorem Kz{f:Nat->Nat}{n b:Nat}(h:∀i,i<n->f i<=b):jx f n<=n*b:=by
 induction n with
 |zero=>simp [jx]
 |succ n ih=>
  simp only [jx];have:=ih (fun i hi=>h i (by omega));have:=h n (by omega);rw [Nat.succ_mul];omega
theorem HA{f f':Nat->Nat}{n k:Nat}(hk:k<n){v:Nat}(h:∀i,i<n->i≠k->f' i=f i)(hv:f' k=f k+v):jx f' n=jx f n+v:=by
 induction n with
 |zero=>omega
 |succ n ih=>
  simp only [jx];rcases Nat.lt_or_ge k n with dg|gK
  ·rw [ih dg (fun i hi=>h i (by omega)),h n (by omega) (by omega)]
   omega
  ·have:k=n:=by omega
   subst this;rw [lH (fun i hi=>h i (by omega) (by omega)),hv];omega
theorem sU(q:Nat->Bool)(f:Nat->Nat)(n:Nat):(((List.range n).filter q).map f).sum=jx (fun c=>if q c=true then f c else 0) n:=by
 induction n with
 |zero=>rfl
 |succ n ih=>
  rw [List.range_succ,List.filter_append,List.map_append,List.sum_append,ih];simp only [jx]
  congr 1
  by_cases h:q n=true
  ·simp [h]
  ·simp [h]
section
variable{P:List Int}
theorem kY.cmp{i a b:Nat}(h:kY P i a)(h':kY P i b):kY P a b\/kY P b a:=by
 induction h with
 |refl=>exact .inl h'
 | @step i j k hp h2 ih=>
   by_cases e:i=b
   ·subst e;exact .inr (.step hp h2)
   ·exact ih (h'.inv e hp)
theorem kY.one(hP:oz P){i n c c':Nat}(hc:P[c]? =some (n:Int))(vS:P[c']? =some (n:Int))(h:kY P i c)(h':kY P i c'):c=c':=by
 have key:∀(c c':Nat),P[c]? =some (n:Int)->P[c']? =some (n:Int)->kY P c c'->c=c':=by
  intro c c' hc vS h;by_cases e:c=c'
  ·exact e
  ·have:=(h.inv e hc).le hP
   have:=(jw hP (fp.2 vS)).1;omega
 rcases h.cmp h' with h|h
 ·exact key c c' hc vS h
 ·exact(key c' c vS hc h).symm
open Classical in
noncomputable def ind(p:Prop):Nat:=if p then 1 else 0
theorem sy{p:Prop}(h:p):ind p=1:=by unfold ind;rw [if_pos h]
theorem tp{p:Prop}(h:¬p):ind p=0:=by unfold ind;rw [if_neg h]
theorem Ps(p:Prop):ind p<=1:=by unfold ind;split<;>omega
noncomputable def sz(P:List Int)(n:Nat):Nat:=jx (fun i=>ind (kY P i n)) P.length
theorem Ca(hP:oz P){n:Nat}(hn:n<P.length):sz P n=1+jx (fun c=>if P[c]? =some (n:Int)then sz P c else 0) P.length:=by
 have e1:∀i,i<P.length->ind (kY P i n)=ind (i=n)+jx (fun c=>if P[c]? =some (n:Int)then ind (kY P i c)else 0) P.length:=by
  intro i hi;by_cases e:i=n
  ·subst e
   rw [sy (.refl hi),sy rfl,mE];intro c hc;split
   ·rename_i hp
    apply tp;intro hu;have:=hu.le hP;have:=(jw hP (fp.2 hp)).1;omega
   ·rfl
  ·rw [tp e,Nat.zero_add]
   by_cases hu:kY P i n
   ·obtain⟨c,hc,M6⟩:=hu.child e
    rw [sy hu,zQ (k:=c) M6.XA]
    ·rw [if_pos (fp.1 hc),sy M6]
    ·intro c' _ fP
     split
     ·rename_i hp
      exact tp fun h=>fP (kY.one hP hp (fp.1 hc) h M6)
     ·rfl
   ·rw [tp hu,mE]
    intro c hc;split
    ·rename_i hp
     exact tp fun h=>hu (h.trans (.step hp (.refl hn)))
    ·rfl
 have e2:sz P n=jx (fun i=>ind (i=n)+jx (fun c=>if P[c]? =some (n:Int)then ind (kY P i c)else 0) P.length) P.length:=by
  unfold sz;exact lH e1
 rw [e2,zR,zQ (k:=n) hn (fun i _ h=>tp h),sy rfl,Fg]
 congr 1
 apply lH;intro c _;split
 ·rfl
 ·exact mE fun _ _=>rfl
theorem uU(hP:oz P){n:Nat}(hn:n<P.length):1<=sz P n:=by rw [Ca hP hn];omega
theorem xD(n:Nat):sz P n<=P.length:=by
 have:=Kz (n:=P.length) (b:=1) (f:=fun i=>ind (kY P i n)) (fun i _=>Ps _);unfold sz;omega
theorem DV(hP:oz P){n:Nat}(hn:n<P.length):((kids P n).map (sz P)).sum+1=sz P n:=by
 unfold kids;rw [sU,Ca hP hn,Nat.add_comm]
 congr 1
 apply lH;intro c _;by_cases h:P[c]? =some (n:Int)
 ·simp [h]
 ·simp [h]
noncomputable def part(P:List Int)(m j:Nat):Nat:=jx (fun c=>if P[c]? =some (j:Int)/\m<=c then sz P c else 0) P.length
theorem FG(j:Nat):part P P.length j=0:=mE fun c hc=>if_neg fun h=>by omega
theorem vo(hP:oz P){m j:Nat}(hj:j<P.length)(hm:m<=j+1):part P m j+1=sz P j:=by
 rw [Ca hP hj,Nat.add_comm]
 congr 1
 apply lH;intro c hc;by_cases h:P[c]? =some (j:Int)
 ·have:=(jw hP (fp.2 h)).1
  rw [if_pos ⟨h,by omega⟩,if_pos h]
 ·rw [if_neg (fun e=>h e.1),if_neg h]
theorem HM{n p:Nat}(h:P[n]? =some (p:Int)):part P n p=part P (n+1) p+sz P n:=by
 unfold part;apply HA (k:=n) (lgeS h).1
 ·intro i _ fP
  by_cases hi:P[i]? =some (p:Int)
  ·by_cases h2:n<=i
   ·rw [if_pos ⟨hi,h2⟩,if_pos ⟨hi,by omega⟩]
   ·rw [if_neg (fun e=>h2 e.2),if_neg (fun e=>by omega)]
  ·rw [if_neg (fun e=>hi e.1),if_neg (fun e=>hi e.1)]
 ·rw [if_pos ⟨h,Nat.le_refl _⟩,if_neg (fun e=>by omega),Nat.zero_add]
theorem Cq{n j:Nat}(h:P[n]? ≠some (j:Int)):part P n j=part P (n+1) j:=by
 unfold part;apply lH;intro i _;by_cases hi:P[i]? =some (j:Int)
 ·have:i≠n:=fun e=>h (e▸hi)
  by_cases h2:n<=i
  ·rw [if_pos ⟨hi,h2⟩,if_pos ⟨hi,by omega⟩]
  ·rw [if_neg (fun e=>h2 e.2),if_neg (fun e=>by omega)]
 ·rw [if_neg (fun e=>hi e.1),if_neg (fun e=>hi e.1)]
noncomputable def jg(P:List Int)(m j:Nat):Nat:=if m<=j then sz P j else part P m j
theorem Cg(j:Nat)(hj:j<P.length):jg P P.length j=0:=by
 unfold jg;rw [if_neg (by omega),FG]
theorem z8(j:Nat):jg P 0 j=sz P j:=by unfold jg;rw [if_pos (Nat.zero_le _)]
theorem Fy(hP:oz P){n:Nat}(hn:n<P.length):jg P (n+1) n+1=sz P n:=by
 unfold jg;rw [if_neg (by omega),vo hP hn (Nat.le_refl _)]
theorem Fx(hP:oz P){n p:Nat}(h:P[n]? =some (p:Int))(j:Nat):jg P n j=if j=p then jg P (n+1) p+sz P n else if j=n then sz P n else jg P (n+1) j:=by
 have hp:=(jw hP (fp.2 h)).1;unfold jg;by_cases e:j=p
 ·subst e
  rw [if_neg (by omega),if_pos rfl,if_neg (by omega),HM h]
 ·rw [if_neg e]
  by_cases e2:j=n
  ·subst e2;rw [if_pos (Nat.le_refl _),if_pos rfl]
  ·rw [if_neg e2]
   by_cases h2:n<=j
   ·rw [if_pos h2,if_pos (by omega)]
   ·rw [if_neg h2,if_neg (by omega)]
    exact Cq (fun h'=>e (by rw [h]at h';have:=Option.some.inj h';omega))
theorem Fz(j:Nat):jg P 0 j=if j=0 then sz P 0 else jg P 1 j:=by
 rw [z8];unfold jg;by_cases e:j=0
 ·subst e;rw [if_pos rfl]
 ·rw [if_neg e,if_pos (by omega)]
theorem D0(hP:oz P)(m j:Nat)(hj:j<P.length):jg P m j<=P.length:=by
 have h1:=xD (P:=P) j;unfold jg;split
 ·exact h1
 ·rename_i h
  have:=vo hP (m:=m) hj;by_cases h2:m<=j+1
  ·have:=this h2;omega
  ·
   have h3:part P m j<=part P 0 j:=by
    unfold part;have:∀(f g:Nat->Nat) (n:Nat),(∀i,i<n->f i<=g i)->jx f n<=jx g n:=by
     intro f g n h
     induction n with
     |zero=>simp [jx]
     |succ n ih=>
      simp only [jx];have:=ih (fun i hi=>h i (by omega));have:=h n (by omega);omega
    apply this;intro i _;split
    ·rename_i h4;rw [if_pos ⟨h4.1,Nat.zero_le _⟩];exact Nat.le_refl _
    ·exact Nat.zero_le _
   have:=vo hP (m:=0) hj (by omega);omega
end
theorem wK{α:Type}(f g:Nat->α){n k:Nat}{v:α}(hk:k<n)(h:∀i,i<n->g i=if i=k then v else f i):((List.range n).map f).set k v=(List.range n).map g:=by
 apply List.ext_getElem?;intro i;rw [List.getElem?_set];by_cases e:k=i
 ·subst e
  rw [if_pos rfl,if_pos (by simpa using hk)];simp [hk,h k hk]
 ·rw [if_neg e]
  rcases Nat.lt_or_ge i n with hi|hi
  ·have:=h i hi
   rw [if_neg (fun x=>e x.symm)]at this;simp [hi,this]
  ·rw [List.getElem?_eq_none (by simpa using hi),List.getElem?_eq_none (by simpa using hi)]
end Go.Proofs.YtfleamccglihoaaGreatDoor.Tr
namespace Go.b0
open Go.RowKit
theorem aX{σ:Type}(e:σ->Env)(I:σ->World->Prop)(μ:σ->World->Nat)(s:σ)(w:World)(Q:aR)(l:Nat)(ρ:Env)(w':World):bW e I μ s w Q (.exit l) ρ w'=Q (.exit l) ρ w':=rfl
def zeroOf(P:Program)(e:TypeId):Option (Array Value):=
 match P.info? e with
 |some i=>match i.zero with
  |some z=>some z.cells
  |none=>none
 |none=>none
theorem HX{P:Program}{t e:TypeId}{bytes:Nat}(T:zD P t e 1 bytes){z:Value}(hz:zeroOf P e=some #[z]){n:Nat}(hn:n<=maxLen)(hb:bytes*n<=281474976710656)(w:World):
 ∃w',(Instr.makeSlice t (.int .i64 (n:Int)) (.int .i64 (n:Int))).run P w=.ok (.slice (some ⟨w.heap.size,0,none⟩) n n) w'/\
  Row w' w.heap.size e 1 (some ⟨w.heap.size,0,none⟩) n n (List.replicate n z)/\Kept Nil w w':=by
 obtain⟨i,z',hi,zv,hs,Kj,Eu⟩:=T.inf;have hc:z'.cells= #[z]:=by
  unfold zeroOf at hz;simp only [hi,zv]at hz;exact Option.some.inj hz
 obtain⟨w',hr,fJ,hg⟩:=run_make_full (P:=P) (w:=w) w.heap.size t e i z' 1 T.pz hi zv hs .i64 .i64 n (by rw [Kj];exact hb) hn (Nat.le_refl _);rw [hc,Nat.mul_one,toList_madeCells_one]at fJ;exact⟨w',hr,fJ,(Kept.refl Nil w).grown hg (fun k hk=>by cases hk)⟩
end Go.b0
namespace Go.Proofs.YtfleamccglihoaaGreatDoor.Tr
open Go.Proofs.Tryz
open Go Go.b0 Go.RowKit
section
variable{w w':World}{S:Nat->Prop}{g:Nat}{T:List Nd}{d:Int}{K:Value->World->Prop}
theorem TV.bound{b c:Nat}{L:List (Nd×Value)}(h:TV w S g T d b c L):TV w (fun k=>S k/\k<w.heap.size) g T d b c L:= {
 top:=h.top
 fst:=h.fst
 row:=h.row
 ry:=fun i p hp=>let ⟨A,m,h1⟩:=h.ry i p hp;⟨A,m,h1.val,h1.row,fun k e=>⟨h1.kX k e,let ⟨_,_,hc⟩:=Row.bV h1.row e;aY hc⟩⟩
 apart:=h.apart
 iS:=⟨h.iS,aY h.top⟩
 gM:=⟨h.gM,let ⟨_,hc⟩:=h.wx;aY hc⟩}
theorem TV.mono{S':Nat->Prop}{b c:Nat}{L:List (Nd×Value)}(h:TV w S g T d b c L)(hs:∀k,S k->S' k):TV w S' g T d b c L:= {
 top:=h.top
 fst:=h.fst
 row:=h.row
 ry:=fun i p hp=>let ⟨A,m,h1⟩:=h.ry i p hp;⟨A,m,h1.val,h1.row,fun k e=>hs k (h1.kX k e)⟩
 apart:=h.apart
 iS:=hs _ h.iS
 gM:=hs _ h.gM}
theorem pD.bound(h:pD w S g T d):pD w (fun k=>S k/\k<w.heap.size) g T d:=let ⟨b,c,L,h⟩:=h;⟨b,c,L,h.bound⟩
theorem pD.mono{S':Nat->Prop}(h:pD w S g T d)(hs:∀k,S k->S' k):pD w S' g T d:=let ⟨b,c,L,h⟩:=h;⟨b,c,L,h.mono hs⟩
def us(f:Nat->Nat)(n:Nat):List Value:=(List.range n).map fun j=>.int .u64 (f j:Int)
theorem pF(f:Nat->Nat){n j:Nat}(hj:j<n):(us f n)[j]? =some (.int .u64 (f j:Int)):=by simp [us,hj]
theorem pE(f:Nat->Nat)(n:Nat):(us f n).length=n:=by simp [us]
theorem yw{f f':Nat->Nat}{n k:Nat}(hk:k<n)(h:∀i,i<n->i≠k->f' i=f i):(us f n).set k (.int .u64 (f' k:Int))=us f' n:=by
 unfold us;apply wK _ _ hk;intro i hi;by_cases e:i=k
 ·subst e;rw [if_pos rfl]
 ·rw [if_neg e,h i hi e]
theorem Sp:zD prog BG gz 1 8:=⟨by kernel_rfl,by kernel_rfl⟩
set_option maxRecDepth 100000 in
theorem B8(h:pD w S g T d)(hP:oz (b9 T))(hlen:T.length<=1000000)
 (hK:∀w' A,Row w' w.heap.size gz 1 A T.length T.length (us (sz (b9 T)) T.length)->Kept Nil w w'->K (.slice A T.length T.length) w'):
 bD prog bM.id #[.pointer (some ⟨g,0,none⟩)] w K:=by
 obtain⟨b,c,L,h0⟩:=h;have rT:=fi T;obtain⟨w5,sA,lC,k5⟩:=HX Sp (z:=.int .u64 0) (by kernel_rfl) (n:=T.length) (by unfold maxLen;omega) (by omega) w;refine bM.of (h0.go ⟨_,_,_,w5,sA,?_⟩);have h5:=h0.kept k5;refine h5.go ?_;generalize hA:(⟨w.heap.size,0,none⟩:Addr)=A at*;refine bM.cJ (e:=some A) (i:=T.length) (I:=fun i w'=>∃m:Nat,i=(T.length:Int)-m/\m<=T.length/\Row w' w.heap.size gz 1 (some A) T.length T.length (us (jg (b9 T) m) T.length)/\Kept Nil w w')
  (μ:=fun i _=>((T.length:Int)-i).toNat) (s:=0) ⟨T.length,by omega,Nat.le_refl _,?_,k5⟩ ?_
 ·have:List.replicate T.length (Value.int .u64 0)=us (jg (b9 T) T.length) T.length:=by
   apply List.ext_getElem?;intro j;rcases Nat.lt_or_ge j T.length with hj|hj
   ·rw [pF _ hj,<-rT,Cg j (by omega)]
    simp [rT,hj]
   ·rw [List.getElem?_eq_none (by simpa using hj),List.getElem?_eq_none (by rw [pE];exact hj)]
  rw [<-this];exact lC
 ·rintro i w' ⟨m,rfl,hm,row,kw⟩
  have h':=h0.kept kw;refine Split.dec (fun dg=>?_) (fun gK=>?_)
  ·
   obtain⟨n,rfl⟩:∃n,m=n+1:=⟨m-1,by omega⟩;have hn:n<T.length:=by omega
   refine h'.go ?_;have ew:i64.wrap (i64.wrap ((T.length:Int)-1)-((T.length:Int)-((n+1:Nat):Int)))=(n:Int):=by
    rw [iZ (x:=(T.length:Int)-1) (by omega) (by omega),iZ (by omega) (by omega)];omega
   rw [ew];have hb:0<=(n:Int)/\(n:Int)<(T.length:Int):=⟨by omega,by omega⟩;subst hA;have U2:n<(us (jg (b9 T) (n+1)) T.length).length:=by rw [pE];exact hn
   refine⟨hb,_,by rw [mZ,Int.toNat_natCast,Nat.mul_one];exact Row.cell row (pF _ hn),hb,by rw [mZ,Int.toNat_natCast,Nat.mul_one];exact Row.wr row U2,?_⟩;intro xz;have e18:xz=w'.setCell ⟨w.heap.size,n,none⟩ (.int .u64 (u64.wrap ((jg (b9 T) (n+1) n:Int)+1))):=by simp only [xz,mZ,Int.toNat_natCast,Nat.mul_one]
   have ae7:=Fy hP (n:=n) (by omega);have hle:jg (b9 T) (n+1) n<=(b9 T).length:=D0 hP _ _ (by omega);have nV:=Row.set row U2 (.int .u64 (u64.wrap ((jg (b9 T) (n+1) n:Int)+1)));rw [<-e18]at nV;have JV:Kept Nil w xz:=by rw [e18];exact kw.setCell (fun hh=>absurd hh (Nat.lt_irrefl _)) _
   clear_value xz;rw [fV (x:=(jg (b9 T) (n+1) n:Int)+1) (by omega) (by omega)]at nV;rw [show(jg (b9 T) (n+1) n:Int)+1=((if n=n then sz (b9 T) n else jg (b9 T) (n+1) n:Nat):Int)from by rw [if_pos rfl];omega,
    yw (f':=fun j=>if j=n then sz (b9 T) n else jg (b9 T) (n+1) j) hn (fun i _ fP=>by rw [if_neg fP])]at nV
   have QS:=h0.kept JV;obtain⟨nd,gA⟩:=gE hn;obtain⟨v,hv⟩:=QS.at_ gA;refine QS.go ⟨hb,QS.Jk hv ?_⟩;have mz:=lR gA;refine Split.dec (fun hp=>?_) (fun hp=>?_)
   ·
    have Ez:0<n:=by
     rcases Nat.eq_zero_or_pos n with rfl|h
     ·rw [hP.root]at mz;have:=Option.some.inj mz;omega
     ·exact h
    obtain⟨p,Kc,ep⟩:=hP.up n _ Ez mz;rw [ep]at hp⊢;have hpp:(b9 T)[n]? =some (p:Int):=by rw [mz,ep]
    intro JQ;have O8:Kept Nil w JQ:=JV.drew;have D6:Row JQ w.heap.size gz 1 (some ⟨w.heap.size,0,none⟩) T.length T.length (us (fun j=>if j=n then sz (b9 T) n else jg (b9 T) (n+1) j) T.length):=nV;clear_value JQ;have NJ:0<=(p:Int)/\(p:Int)<(T.length:Int):=⟨by omega,by omega⟩;have U0:p<(us (fun j=>if j=n then sz (b9 T) n else jg (b9 T) (n+1) j) T.length).length:=by rw [pE];omega
    have gp:=pF (fun j=>if j=n then sz (b9 T) n else jg (b9 T) (n+1) j) (n:=T.length) (j:=p) (by omega);have gn:=pF (fun j=>if j=n then sz (b9 T) n else jg (b9 T) (n+1) j) (n:=T.length) (j:=n) (by omega);simp only [if_neg (show p≠n by omega)]at gp;simp only [if_pos]at gn;refine⟨NJ,_,by rw [mZ,Int.toNat_natCast,Nat.mul_one];exact Row.cell D6 gp,hb,_,by rw [mZ,Int.toNat_natCast,Nat.mul_one];exact Row.cell D6 gn,NJ,by rw [mZ,Int.toNat_natCast,Nat.mul_one];exact Row.wr D6 U0,?_⟩;intro wI;have e29:wI=JQ.setCell ⟨w.heap.size,p,none⟩ (.int .u64 (u64.wrap ((jg (b9 T) (n+1) p:Int)+(sz (b9 T) n:Int)))):=by simp only [wI,mZ,Int.toNat_natCast,Nat.mul_one]
    have HJ:=Row.set D6 U0 (.int .u64 (u64.wrap ((jg (b9 T) (n+1) p:Int)+(sz (b9 T) n:Int))));rw [<-e29]at HJ;have K9:Kept Nil w wI:=by rw [e29];exact O8.setCell (fun hh=>absurd hh (Nat.lt_irrefl _)) _
    clear_value wI;have abo:jg (b9 T) (n+1) p<=(b9 T).length:=D0 hP _ _ (by omega);have ajq:sz (b9 T) n<=(b9 T).length:=xD _;have oU:=Fx hP hpp;have G3:=oU p;rw [if_pos rfl]at G3;rw [fV (x:=(jg (b9 T) (n+1) p:Int)+(sz (b9 T) n:Int)) (by omega) (by omega),
     show(jg (b9 T) (n+1) p:Int)+(sz (b9 T) n:Int)=(jg (b9 T) n p:Int)from by omega,
     yw (f':=jg (b9 T) n) (by omega) (fun i _ fP=>by rw [oU i,if_neg fP])]at HJ
    rw [iZ (x:=(T.length:Int)-((n+1:Nat):Int)+1) (by omega) (by omega)];exact⟨_,rfl,⟨n,by omega,by omega,HJ,K9⟩,by simp only;omega⟩
   ·
    have Ez:n=0:=by
     rcases Nat.eq_zero_or_pos n with h|h
     ·exact h
     ·obtain⟨p,_,ep⟩:=hP.up n _ h mz
      omega
    subst Ez;have:us (fun j=>if j=0 then sz (b9 T) 0 else jg (b9 T) (0+1) j) T.length=us (jg (b9 T) 0) T.length:=by
     congr 1
     funext j
     rw [Fz]
    rw [this]at nV;rw [iZ (x:=(T.length:Int)-((0+1:Nat):Int)+1) (by omega) (by omega)];exact⟨_,rfl,⟨0,by omega,by omega,nV,JV⟩,by simp only;omega⟩
  ·have:m=0:=by omega
   subst this;rw [aX,bM.dv];refine hK w' (some A) ?_ kw;have e:jg (b9 T) 0=sz (b9 T):=funext z8;rw [e]at row;exact row
end
section
variable{w:World}{K:Value->World->Prop}
theorem bD.Ao{f:FuncId}{args:Array Value}{v:Value}(h:Calls prog f args w fun e w'=>e=.returned v/\w'=w)(hK:K v w):bD prog f args w K:=
 h.mono fun e w' ⟨he,hw⟩=>⟨v,he,by rw [hw];exact hK⟩
theorem xl(x y:Nat)(hx:x<18446744073709551616)(hy:y<18446744073709551616)
 (hK:K (.tuple #[.int .u64 ((x*y/18446744073709551616:Nat):Int),.int .u64 ((x*y%18446744073709551616:Nat):Int)]) w):
 bD prog bits_Mul64.id #[.int .u64 x,.int .u64 y] w K:=bD.Ao (Any.bits_Mul64 Tryz.KQ x y hx hy w) hK
theorem xm(x:Nat)(hx:x<18446744073709551616)(hK:K (.int .i64 (Lib.bitLen x)) w):bD prog bits_Len64.id #[.int .u64 x] w K:=
 bD.Ao (Any.bits_Len64 Tryz.KR x w (by omega) (by omega)) hK
end
theorem qm:∀(f x:Nat),x<2 ^ f->x<2 ^ (Lib.bitLenAux f x)/\(x≠0->2 ^ (Lib.bitLenAux f x)<=2*x)
 |0,x,h=>by simp at h;subst h;simp [Lib.bitLenAux]
 |f+1,x,h=>by
  unfold Lib.bitLenAux;by_cases e:x=0
  ·simp [e]
  ·rw [if_neg e]
   have ih:=qm f (x/2) (by rw [Nat.pow_succ]at h;omega);rw [Nat.pow_add,Nat.pow_one];refine⟨by omega,fun _=>?_⟩;by_cases e2:x/2=0
   ·have:x=1:=by omega
    subst this;cases f<;>simp [Lib.bitLenAux]
   ·have:=ih.2 e2
    omega
theorem bitLen_spec{y:Nat}(h0:y≠0)(hy:y<18446744073709551616):1<=Lib.bitLen y/\Lib.bitLen y<=64/\9223372036854775808<=y*2 ^ (64-Lib.bitLen y)/\y*2 ^ (64-Lib.bitLen y)<18446744073709551616:=by
 have hs:=qm 64 y (by omega);have hle:=Lib.bitLenAux_le 64 y 64 (by omega)
 change Lib.bitLen y<=64 at hle
 change y<2 ^ (Lib.bitLen y)/\(y≠0->2 ^ (Lib.bitLen y)<=2*y)at hs
 have zx:=hs.2 h0;have hp:2 ^ Lib.bitLen y*2 ^ (64-Lib.bitLen y)=18446744073709551616:=by
  rw [<-Nat.pow_add,show Lib.bitLen y+(64-Lib.bitLen y)=64 by omega]
 have jO:0<2 ^ (64-Lib.bitLen y):=Nat.pow_pos (by omega);refine⟨?_,hle,?_,?_⟩
 ·rcases Nat.eq_zero_or_pos (Lib.bitLen y)with e|e
  ·rw [e]at hs;simp at hs;omega
  ·exact e
 ·have:=Nat.mul_le_mul_right (2 ^ (64-Lib.bitLen y)) zx
  rw [hp,Nat.mul_assoc]at this;omega
 ·rw [<-hp]
  exact Nat.mul_lt_mul_of_pos_right hs.1 jO
section
variable{Y n1 n0 u u1 q r:Nat}
theorem Jp(hY:Y=n1*4294967296+n0):q*Y=q*n1*4294967296+q*n0:=by rw [hY,Nat.mul_add,Nat.mul_assoc]
theorem dg1(hY:Y=n1*4294967296+n0)(hq:q*n1+r=u)(h:q*n0<=4294967296*r+u1):q*Y<=u*4294967296+u1:=by rw [Jp hY];omega
theorem dg2(hY:Y=n1*4294967296+n0)(hq:q*n1+r=u)(h:4294967296*r+u1<q*n0):u*4294967296+u1<q*Y:=by rw [Jp hY];omega
theorem dg3(hu:u<Y)(Ka:u1<4294967296)(h:4294967296<=q):u*4294967296+u1<q*Y:=by
 have:=Nat.mul_le_mul_right Y h;omega
theorem dg4(hY:Y=n1*4294967296+n0)(Ez:n0<4294967296)(hu:u<Y)(hq:q*n1+r=u)(hr:4294967296<=r):q*Y<=u*4294967296+u1:=by
 have h1:q*n1<4294967296*n1:=by omega
 have h2:q<4294967296:=Nat.lt_of_mul_lt_mul_right h1;have h3:q*n0<=4294967296*4294967296:=Nat.mul_le_mul (by omega) (by omega);rw [Jp hY];omega
theorem Oa(hu:u<Y)(Ka:u1<4294967296)(h:q*Y<=u*4294967296+u1):q<4294967296:=by
 rcases Nat.lt_or_ge q 4294967296 with h'|h'
 ·exact h'
 ·have:=dg3 hu Ka h';omega
theorem Bs(Gk:2147483648<=n1)(hu:u<18446744073709551616)(hq:q*n1+r=u):q<8589934592:=by
 rcases Nat.lt_or_ge q 8589934592 with h|h
 ·exact h
 ·have:=Nat.mul_le_mul h Gk
  omega
end
theorem GC{Y n1 n0 u u1:Nat}{quo rem s Hq Sj:Int}{Q:aR}{w:World}(hY:Y=n1*4294967296+n0)(Ez:n0<4294967296)(Gk:2147483648<=n1)(Ly:n1<4294967296)(hu:u<Y)(hY':Y<18446744073709551616)(Ka:u1<4294967296)
 (hex:∀q r:Nat,q*Y<=u*4294967296+u1->u*4294967296+u1<(q+1)*Y->Q (.exit 0) (bz.e1 (Y:Int) quo rem s n1 n0 Hq u1 Sj ((q:Int),(r:Int))) w)
 (q0 r0:Nat) (h0:q0*n1+r0=u) (hX0:u*4294967296+u1<(q0+1)*Y) (ux:r0<4294967296):
 Holds none [] prog 135 (.loop (lB (bB (sL (fW (cG (aS (body bz.fn)))))))) Q (bz.e1 (Y:Int) quo rem s n1 n0 Hq u1 Sj ((q0:Int),(r0:Int))) w:=by
 refine bz.cJ (I:=fun s w'=>w'=w/\∃q r:Nat,s=((q:Int),(r:Int))/\q*n1+r=u/\u*4294967296+u1<(q+1)*Y/\r<4294967296)
  (μ:=fun s _=>s.1.toNat) (s:=((q0:Int),(r0:Int))) ⟨rfl,q0,r0,rfl,h0,hX0,ux⟩ ?_
 rintro s w' ⟨hw,q,r,rfl,hq,hX,hr⟩;subst hw;have aaS:=Bs Gk (by omega) hq;have down:u*4294967296+u1<q*Y->∃q' r':Nat,u64.wrap ((q:Int)-1)=(q':Int)/\u64.wrap ((r:Int)+(n1:Int))=(r':Int)/\q'*n1+r'=u/\u*4294967296+u1<(q'+1)*Y/\q'<q:=by
  intro h;have Nj:1<=q:=by
   rcases Nat.eq_zero_or_pos q with e|e
   ·rw [e]at h;omega
   ·exact e
  refine⟨q-1,r+n1,?_,?_,?_,?_,by omega⟩
  ·rw [fV (by omega) (by omega)];omega
  ·rw [fV (by omega) (by omega)];omega
  ·have:q*n1=(q-1)*n1+n1:=by
    obtain⟨k,rfl⟩:∃k,q=k+1:=⟨q-1,by omega⟩;rw [Nat.succ_mul];rfl
   omega
  ·rwa [show q-1+1=q by omega]
 have step:∀q' r':Nat,q'*n1+r'=u->u*4294967296+u1<(q'+1)*Y->q'<q->∀b:Bool,b=decide ((r':Int)>=4294967296)->
  Split b (Q (.exit 0) (bz.e1 (Y:Int) quo rem s n1 n0 Hq u1 Sj ((q':Int),(r':Int))) w') (bW (bz.e1 (Y:Int) quo rem s n1 n0 Hq u1 Sj) (fun s mD=>mD=w'/\∃q r:Nat,s=((q:Int),(r:Int))/\q*n1+r=u/\u*4294967296+u1<(q+1)*Y/\r<4294967296) (fun s _=>s.1.toNat) ((q:Int),(r:Int)) w' Q .normal (bz.e1 (Y:Int) quo rem s n1 n0 Hq u1 Sj ((q':Int),(r':Int))) w'):=by
  intro q' r' h1 h2 h3 b hb;subst hb;refine Split.dec (fun gK=>?_) (fun dg=>?_)
  ·exact hex q' r' (dg4 hY Ez hu h1 (by omega)) h2
  ·exact⟨_,rfl,⟨rfl,q',r',rfl,h1,h2,by omega⟩,by simp only;omega⟩
 refine Split.dec (fun gK=>?_) (fun dg=>?_)
 ·obtain⟨q',r',eq,er,h1,h2,h3⟩:=down (dg3 hu Ka (by simp only at gK;omega))
  simp only [eq,er];exact step q' r' h1 h2 h3 _ rfl
 ·simp only at dg
  have hqn:q*n0<18446744073709551616:=by
   have:q*n0<=4294967295*4294967295:=Nat.mul_le_mul (by omega) (by omega);omega
  have e1:u64.wrap ((q:Int)*(n0:Int))=((q*n0:Nat):Int):=by rw [<-Int.natCast_mul,fV (by omega) (by omega)]
  have e2:u64.wrap (u64.wrap (4294967296*(r:Int))+(u1:Int))=((4294967296*r+u1:Nat):Int):=by
   rw [fV (x:=4294967296*(r:Int)) (by omega) (by omega),fV (by omega) (by omega)];omega
  simp only [e1,e2];refine Split.dec (fun x9=>?_) (fun hle=>?_)
  ·obtain⟨q',r',eq,er,h1,h2,h3⟩:=down (dg2 hY hq (by omega))
   simp only [eq,er];exact step q' r' h1 h2 h3 _ rfl
  ·exact hex q r (dg1 hY hq (by omega)) hX
theorem GB{Y n1 n0 u u1:Nat}{quo rem s q1 Hr:Int}{Q:aR}{w:World}(hY:Y=n1*4294967296+n0)(Ez:n0<4294967296)(Gk:2147483648<=n1)(Ly:n1<4294967296)(hu:u<Y)(hY':Y<18446744073709551616)(Ka:u1<4294967296)
 (hex:∀q r:Nat,q*Y<=u*4294967296+u1->u*4294967296+u1<(q+1)*Y->Q (.exit 2) (bz.e2 (Y:Int) quo rem s n1 n0 u1 q1 Hr ((r:Int),(q:Int))) w)
 (q0 r0:Nat) (h0:q0*n1+r0=u) (hX0:u*4294967296+u1<(q0+1)*Y) (ux:r0<4294967296):
 Holds none [] prog 135 (.loop (lB (bB (sL (fW (fW (aS (body bz.fn)))))))) Q (bz.e2 (Y:Int) quo rem s n1 n0 u1 q1 Hr ((r0:Int),(q0:Int))) w:=by
 refine bz.iG (I:=fun s w'=>w'=w/\∃q r:Nat,s=((r:Int),(q:Int))/\q*n1+r=u/\u*4294967296+u1<(q+1)*Y/\r<4294967296)
  (μ:=fun s _=>s.2.toNat) (s:=((r0:Int),(q0:Int))) ⟨rfl,q0,r0,rfl,h0,hX0,ux⟩ ?_
 rintro s w' ⟨hw,q,r,rfl,hq,hX,hr⟩;subst hw;have aaS:=Bs Gk (by omega) hq;have down:u*4294967296+u1<q*Y->∃q' r':Nat,u64.wrap ((q:Int)-1)=(q':Int)/\u64.wrap ((r:Int)+(n1:Int))=(r':Int)/\q'*n1+r'=u/\u*4294967296+u1<(q'+1)*Y/\q'<q:=by
  intro h;have Nj:1<=q:=by
   rcases Nat.eq_zero_or_pos q with e|e
   ·rw [e]at h;omega
   ·exact e
  refine⟨q-1,r+n1,?_,?_,?_,?_,by omega⟩
  ·rw [fV (by omega) (by omega)];omega
  ·rw [fV (by omega) (by omega)];omega
  ·have:q*n1=(q-1)*n1+n1:=by
    obtain⟨k,rfl⟩:∃k,q=k+1:=⟨q-1,by omega⟩;rw [Nat.succ_mul];rfl
   omega
  ·rwa [show q-1+1=q by omega]
 have step:∀q' r':Nat,q'*n1+r'=u->u*4294967296+u1<(q'+1)*Y->q'<q->∀b:Bool,b=decide ((r':Int)>=4294967296)->
  Split b (Q (.exit 2) (bz.e2 (Y:Int) quo rem s n1 n0 u1 q1 Hr ((r':Int),(q':Int))) w') (bW (bz.e2 (Y:Int) quo rem s n1 n0 u1 q1 Hr) (fun s mD=>mD=w'/\∃q r:Nat,s=((r:Int),(q:Int))/\q*n1+r=u/\u*4294967296+u1<(q+1)*Y/\r<4294967296) (fun s _=>s.2.toNat) ((r:Int),(q:Int)) w' Q .normal (bz.e2 (Y:Int) quo rem s n1 n0 u1 q1 Hr ((r':Int),(q':Int))) w'):=by
  intro q' r' h1 h2 h3 b hb;subst hb;refine Split.dec (fun gK=>?_) (fun dg=>?_)
  ·exact hex q' r' (dg4 hY Ez hu h1 (by omega)) h2
  ·exact⟨_,rfl,⟨rfl,q',r',rfl,h1,h2,by omega⟩,by simp only;omega⟩
 refine Split.dec (fun gK=>?_) (fun dg=>?_)
 ·obtain⟨q',r',eq,er,h1,h2,h3⟩:=down (dg3 hu Ka (by simp only at gK;omega))
  simp only [eq,er];exact step q' r' h1 h2 h3 _ rfl
 ·simp only at dg
  have hqn:q*n0<18446744073709551616:=by
   have:q*n0<=4294967295*4294967295:=Nat.mul_le_mul (by omega) (by omega);omega
  have e1:u64.wrap ((q:Int)*(n0:Int))=((q*n0:Nat):Int):=by rw [<-Int.natCast_mul,fV (by omega) (by omega)]
  have e2:u64.wrap (u64.wrap (4294967296*(r:Int))+(u1:Int))=((4294967296*r+u1:Nat):Int):=by
   rw [fV (x:=4294967296*(r:Int)) (by omega) (by omega),fV (by omega) (by omega)];omega
  simp only [e1,e2];refine Split.dec (fun x9=>?_) (fun hle=>?_)
  ·obtain⟨q',r',eq,er,h1,h2,h3⟩:=down (dg2 hY hq (by omega))
   simp only [eq,er];exact step q' r' h1 h2 h3 _ rfl
  ·exact hex q r (dg1 hY hq (by omega)) hX
theorem Xc(a:Nat)(ha:a<18446744073709551616):u64.wrap ((BitVec.ofInt 64 (a:Int)&&& BitVec.ofInt 64 (4294967295:Int)).toNat:Int)=((a%4294967296:Nat):Int):=by
 have h:=bits_and_u64_nat a 4294967295 ha (by omega);have e:a&&& 4294967295=a%4294967296:=Nat.and_two_pow_sub_one_eq_mod a 32;rw [e]at h;exact h
theorem orN(a b s:Nat)(ha:a*2 ^ s<18446744073709551616)(hb:b<2 ^ s)(xf:b<18446744073709551616):
 u64.wrap ((BitVec.ofInt 64 ((a*2 ^ s:Nat):Int)|||BitVec.ofInt 64 (b:Int)).toNat:Int)=((a*2 ^ s+b:Nat):Int):=by
 have h:=bits_or_u64_nat (a*2 ^ s) b ha xf;rw [Nat.mul_comm,<-Nat.two_pow_add_eq_or_of_lt hb,Nat.mul_comm]at h;exact h
theorem Ss(a k:Nat):Int.fdiv (a:Int) (2 ^ k)=((a/2 ^ k:Nat):Int):=by
 rw [Int.fdiv_eq_ediv_of_nonneg _ (by exact Int.le_of_lt (Int.pow_pos (by omega)))];rw [Int.natCast_ediv,Int.natCast_pow];rfl
theorem Zf(a k:Nat):(a:Int)*2 ^ k=((a*2 ^ k:Nat):Int):=by rw [Int.natCast_mul,Int.natCast_pow];rfl
theorem adg{N u L u1 u0 v a b:Nat}(hN:N=u*18446744073709551616+L)(hL:L=u1*4294967296+u0)(hv:u*4294967296+u1-a=v)(ha:a<=u*4294967296+u1)(hb:b<=v*4294967296+u0):a*4294967296+b<=N:=by omega
theorem adf{N u L u1 u0 v a b:Nat}(hN:N=u*18446744073709551616+L)(hL:L=u1*4294967296+u0)(hv:u*4294967296+u1-a=v)(ha:a<=u*4294967296+u1)(hb:v*4294967296+u0<b):N<a*4294967296+b:=by omega
section
variable{w:World}{K:Value->World->Prop}
theorem oQ(x:Nat)(hx:x<18446744073709551616)(hK:K (.int .i64 ((64-Lib.bitLen x:Nat):Int)) w):bD prog bits_LeadingZeros64.id #[.int .u64 x] w K:=by
 refine bits_LeadingZeros64.of (xm x hx ⟨_,rfl,?_⟩);have hle:=Lib.bitLen_le x 64 (by omega) (by omega)
 rwa [iZ (by omega) (by omega),show(64:Int)-(Lib.bitLen x:Int)=((64-Lib.bitLen x:Nat):Int)by omega]
theorem xn(hi lo y:Nat)(Ye:lo<18446744073709551616)(hy:y<18446744073709551616)(hhi:hi<y)
 (hK:∀r w',Kept Nil w w'->K (.tuple #[.int .u64 (((hi*18446744073709551616+lo)/y:Nat):Int),.int .u64 r]) w'):
 bD prog bz.id #[.int .u64 hi,.int .u64 lo,.int .u64 y] w K:=by
 refine bz.of (Split.no (beq_eq_false_iff_ne.2 (by omega)) (Split.no (decide_eq_false (by omega)) ?_));by_cases h0:hi=0
 ·subst h0
  refine Split.yes rfl ?_;intro w6;refine⟨by omega,by omega,?_⟩;have e:u64.wrap ((lo:Int).tdiv (y:Int))=(((0*18446744073709551616+lo)/y:Nat):Int):=by
   rw [Int.tdiv_eq_ediv_of_nonneg (by omega),Nat.zero_mul,Nat.zero_add,<-Int.natCast_ediv];have:=Nat.div_le_self lo y;generalize lo/y=z at*;exact fV (by omega) (by omega)
  rw [e];exact hK _ w6 (Kept.refl Nil w).drew
 ·refine Split.no (beq_eq_false_iff_ne.2 (by omega)) (oQ y hy ⟨_,rfl,?_⟩)
  obtain⟨Be,acq,hY1,hY2⟩:=bitLen_spec (y:=y) (by omega) hy;have hs:64-Lib.bitLen y<64:=by omega
  generalize 64-Lib.bitLen y=s at*;have eS:u64.wrap (s:Int)=(s:Int):=fV (by omega) (by omega);have eS2:u64.wrap ((64:Int)-(s:Int))=((64-s:Nat):Int):=by rw [fV (by omega) (by omega)];omega
  have em1:min s 64=s:=by omega
  have em2:min (64-s) 64=64-s:=by omega
  have em3:min (32:Int).toNat 64=32:=rfl;have IM:2 ^ (64-s)*2 ^ s=18446744073709551616:=by rw [<-Nat.pow_add,show 64-s+s=64 by omega]
  have jO:0<2 ^ s:=Nat.pow_pos (by omega);have Un:0<2 ^ (64-s):=Nat.pow_pos (by omega);simp only [eS,eS2,Int.toNat_natCast,em1,em2,em3,Zf];generalize hYd:y*2 ^ s=Y at*;have hhs:hi*2 ^ s<18446744073709551616:=by
   have:hi*2 ^ s<y*2 ^ s:=Nat.mul_lt_mul_of_pos_right hhi jO;omega
  have hlq:lo/2 ^ (64-s)<2 ^ s:=by
   rw [Nat.div_lt_iff_lt_mul Un,Nat.mul_comm,IM];exact Ye
  have abn:lo/2 ^ (64-s)<18446744073709551616:=Nat.lt_of_le_of_lt (Nat.div_le_self _ _) Ye;have eY:u64.wrap (Y:Int)=(Y:Int):=fV (by omega) (by omega);have eH:u64.wrap ((hi*2 ^ s:Nat):Int)=((hi*2 ^ s:Nat):Int):=fV (by omega) (by omega);have eL:u64.wrap ((lo*2 ^ s:Nat):Int)=((lo*2 ^ s%18446744073709551616:Nat):Int):=by rw [IntKind.wrap_u64];omega
  have e32:∀a:Nat,Int.fdiv (a:Int) (2 ^ 32)=((a/4294967296:Nat):Int):=fun a=>Ss a 32;simp only [eY,eH,eL,e32,Ss lo,orN hi _ s hhs hlq abn,Xc Y (by omega),Xc _ (Nat.mod_lt (lo*2 ^ s) (by omega:18446744073709551616>0))];have hN:(hi*18446744073709551616+lo)*2 ^ s=(hi*2 ^ s+lo/2 ^ (64-s))*18446744073709551616+lo*2 ^ s%18446744073709551616:=by
   have h1:lo*2 ^ s/18446744073709551616=lo/2 ^ (64-s):=by
    rw [<-IM,Nat.mul_div_mul_right _ _ jO]
   have h2:=Nat.div_add_mod (lo*2 ^ s) 18446744073709551616;rw [h1]at h2;rw [Nat.add_mul,Nat.mul_right_comm];omega
  have akn:(hi*18446744073709551616+lo)*2 ^ s<Y*18446744073709551616:=by
   have h1:hi*18446744073709551616+lo<y*18446744073709551616:=by omega
   have:=Nat.mul_lt_mul_of_pos_right h1 jO;rw [Nat.mul_right_comm,hYd]at this;exact this
  have Ni:(hi*18446744073709551616+lo)*2 ^ s/Y=(hi*18446744073709551616+lo)/y:=by rw [<-hYd,Nat.mul_div_mul_right _ _ jO]
  rw [<-Ni]at hK;clear Ni;generalize (hi*18446744073709551616+lo)*2 ^ s=N at*;have hL:lo*2 ^ s%18446744073709551616<18446744073709551616:=Nat.mod_lt _ (by omega);generalize lo*2 ^ s%18446744073709551616=L at*;generalize hi*2 ^ s+lo/2 ^ (64-s)=u at*;have hu:u<Y:=by omega
  have Gk:2147483648<=Y/4294967296:=by omega
  have Ly:Y/4294967296<4294967296:=by omega
  have Ez:Y%4294967296<4294967296:=by omega
  have hYe:Y=Y/4294967296*4294967296+Y%4294967296:=by omega
  have Ka:L/4294967296<4294967296:=by omega
  have hu0:L%4294967296<4294967296:=by omega
  have hLe:L=L/4294967296*4294967296+L%4294967296:=by omega
  generalize Y/4294967296=n1 at*;generalize Y%4294967296=n0 at*;generalize L/4294967296=u1 at*;generalize L%4294967296=u0 at*;have NX:∀v:Nat,v<18446744073709551616->u64.wrap ((v:Int).tdiv (n1:Int))=((v/n1:Nat):Int)/\u64.wrap ((v:Int)-u64.wrap (((v/n1:Nat):Int)*(n1:Int)))=((v%n1:Nat):Int)/\v/n1*n1+v%n1=v/\v%n1<n1:=by
   intro v hv;have h1:=Nat.div_le_self v n1;have h2:=Nat.div_add_mod' v n1;refine⟨?_,?_,h2,Nat.mod_lt _ (by omega)⟩
   ·rw [Int.tdiv_eq_ediv_of_nonneg (by omega),<-Int.natCast_ediv]
    generalize v/n1=z at*;exact fV (by omega) (by omega)
   ·rw [<-Int.natCast_mul,fV (x:=((v/n1*n1:Nat):Int)) (by omega) (by omega),fV (by omega) (by omega)]
    omega
  have first:∀v d:Nat,v<Y->d<4294967296->v*4294967296+d<(v/n1+1)*Y:=by
   intro v d hv hd;have h2:=Nat.div_add_mod' v n1;have h3:=Nat.mod_lt v (show 0<n1 by omega);have h4:v+1<=(v/n1+1)*n1:=by rw [Nat.succ_mul];omega
   have h5:(v+1)*4294967296<=(v/n1+1)*n1*4294967296:=Nat.mul_le_mul_right _ h4;have h6:(v/n1+1)*n1*4294967296<=(v/n1+1)*Y:=by
    have h7:n1*4294967296<=Y:=Nat.le_trans (Nat.le_add_right _ n0) (Nat.le_of_eq hYe.symm);rw [Nat.mul_assoc];exact Nat.mul_le_mul_left _ h7
   omega
  obtain⟨g1,g2,g3,g4⟩:=NX u (by omega);simp only [g1,g2];refine⟨by omega,by omega,by omega,by omega,by omega,by omega,by omega,?_⟩;refine GC hYe Ez Gk Ly hu (by omega) Ka ?_ (u/n1) (u%n1) g3 (first u u1 hu Ka) (by omega);intro q r Nj RH;rw [show bz.e1 (Y:Int) 0 0 (s:Int) (n1:Int) (n0:Int) (u:Int) (u1:Int) (u0:Int) ((q:Int),(r:Int))= [(2,.int .u64 (Y:Int)),(6,.int .u64 0),(7,.int .u64 0),(8,.int .u64 (s:Int)),(9,.int .u64 (n1:Int)),(10,.int .u64 (n0:Int)),(11,.int .u64 (u:Int)),(13,.int .u64 (u1:Int)),(14,.int .u64 (u0:Int)),(15,.int .u64 (q:Int)),(16,.int .u64 (r:Int))]from rfl];rw [bz.dv];have hqB:=Oa hu Ka Nj;rw [Nat.succ_mul]at RH;have hp:u64.wrap (u64.wrap (u64.wrap ((u:Int)*4294967296)+(u1:Int))-u64.wrap ((q:Int)*(Y:Int)))=((u*4294967296+u1-q*Y:Nat):Int):=by
   rw [<-Int.natCast_mul q Y];simp only [IntKind.wrap_u64];generalize q*Y=p at*;omega
  unfold bz.dd;simp only [hp];have hv:u*4294967296+u1-q*Y<Y:=by omega
  generalize hvd:u*4294967296+u1-q*Y=v at*;obtain⟨g1',g2',g3',g4'⟩:=NX v (by omega);simp only [g1',g2'];refine⟨by omega,?_⟩;refine GB hYe Ez Gk Ly hv (by omega) hu0 ?_ (v/n1) (v%n1) g3' (first v u0 hv hu0) (by omega);intro q' r' Uk aaT;rw [show bz.e2 (Y:Int) 0 0 (s:Int) (n1:Int) (n0:Int) (u0:Int) (q:Int) (v:Int) ((r':Int),(q':Int))= [(2,.int .u64 (Y:Int)),(6,.int .u64 0),(7,.int .u64 0),(8,.int .u64 (s:Int)),(9,.int .u64 (n1:Int)),(10,.int .u64 (n0:Int)),(14,.int .u64 (u0:Int)),(15,.int .u64 (q:Int)),(16,.int .u64 (r':Int)),(17,.int .u64 (v:Int)),(18,.int .u64 (q':Int))]from rfl];rw [bz.kW];have aiW:=Oa hv hu0 Uk;refine⟨by omega,?_⟩;have aaA:u64.wrap (u64.wrap ((q:Int)*4294967296)+(q':Int))=((N/Y:Nat):Int):=by
   rw [fV (x:=(q:Int)*4294967296) (by omega) (by omega),fV (by omega) (by omega)];have:N/Y=q*4294967296+q':=by
    apply Nat.div_eq_of_lt_le
    ·rw [Nat.add_mul,Nat.mul_right_comm]
     exact adg hN hLe hvd Nj Uk
    ·rw [Nat.add_assoc,Nat.add_mul,Nat.mul_right_comm]
     exact adf hN hLe hvd Nj aaT
   rw [this];omega
  rw [aaA];exact hK _ w (Kept.refl Nil w)
end
end Go.Proofs.YtfleamccglihoaaGreatDoor.Tr
namespace Go.Proofs.YtfleamccglihoaaGreatDoor.Tr
open Go.Proofs.Tryz
structure mc(T T':List Nd):Prop where
 len:T'.length=T.length
 at_:∀(i:Nat) nd,T[i]? =some nd->∃nd',T'[i]? =some nd'/\nd'.parent=nd.parent/\nd'.ch=nd.ch
theorem mc.refl(T:List Nd):mc T T:=⟨rfl,fun _ nd h=>⟨nd,h,rfl,rfl⟩⟩
theorem mc.trans{T T' ER:List Nd}(h:mc T T')(h':mc T' ER):mc T ER:=⟨h'.len.trans h.len,fun i nd hi=>by
 obtain⟨nd',h1,h2,h3⟩:=h.at_ i nd hi;obtain⟨Zw,g1,g2,g3⟩:=h'.at_ i nd' h1;exact⟨Zw,g1,g2.trans h2,g3.trans h3⟩⟩
theorem mc.back{T T':List Nd}(h:mc T T'){i:Nat}{nd':Nd}(hi:T'[i]? =some nd'):∃nd,T[i]? =some nd/\nd'.parent=nd.parent/\nd'.ch=nd.ch:=by
 have dg:=(lgeS hi).1;obtain⟨nd,gA⟩:=gE (T:=T) (i:=i) (by rw [<-h.len];exact dg);obtain⟨x,h1,h2,h3⟩:=h.at_ i nd gA;rw [hi]at h1;cases h1;exact⟨nd,gA,h2,h3⟩
theorem mc.b9{T T':List Nd}(h:mc T T'):b9 T'=b9 T:=by
 apply List.ext_getElem?;intro i;rcases Nat.lt_or_ge i T.length with hi|hi
 ·obtain⟨nd,gA⟩:=gE hi
  obtain⟨nd',h1,h2,_⟩:=h.at_ i nd gA;rw [lR gA,lR h1,h2]
 ·rw [List.getElem?_eq_none (by rw [fi,h.len];exact hi),List.getElem?_eq_none (by rw [fi];exact hi)]
theorem mc.shape{T T':List Nd}(h:mc T T')(hS:Shape T):Shape T':=⟨by rw [h.b9];exact hS.par,fun i nd' hi=>by
 obtain⟨nd,gA,_,h3⟩:=h.back hi;rw [h.b9,h3,hS.ch i nd gA]⟩
theorem mc.set{T:List Nd}{i:Nat}{nd nd':Nd}(hi:T[i]? =some nd)(h1:nd'.parent=nd.parent)(h2:nd'.ch=nd.ch):mc T (T.set i nd'):=
 ⟨by simp,fun j x hj=>by
   by_cases e:i=j
   ·subst e
    rw [hi]at hj;cases hj;exact⟨nd',jm hi,h1,h2⟩
   ·exact⟨x,oO hj e,rfl,rfl⟩⟩
theorem yg{T:List Nd}{n p:Nat}{nd pd:Nd}{many:Int}(hn:T[n]? =some nd)(hp:T[p]? =some pd)(fP:n≠p)(i:Nat):
 (vX T n p nd pd many)[i]? =if i=p then some {pd with free:=pd.free+many}else if i=n then some {nd with lo:=pd.free,hi:=pd.free+many-1,free:=pd.free}else T[i]? :=by
 unfold vX;by_cases e:i=p
 ·subst e
  rw [if_pos rfl];exact jm (oO hp fP)
 ·rw [if_neg e,List.getElem?_set_ne (fun h=>e h.symm)]
  by_cases e2:i=n
  ·subst e2
   rw [if_pos rfl];exact jm hn
  ·rw [if_neg e2,List.getElem?_set_ne (fun h=>e2 h.symm)]
theorem vW{T:List Nd}{n p:Nat}{nd pd:Nd}(many:Int)(hn:T[n]? =some nd)(hp:T[p]? =some pd)(fP:n≠p):mc T (vX T n p nd pd many):=
 (mc.set (nd':= {nd with lo:=pd.free,hi:=pd.free+many-1,free:=pd.free}) hn rfl rfl).trans (mc.set (nd:=pd) (nd':= {pd with free:=pd.free+many}) (oO hp fP) rfl rfl)
theorem zU{l:List Nat}(hs:l.Pairwise (· < ·)){k c:Nat}(hc:l[k]? =some c):∀y,y∈l.take k->y<c:=by
 intro y hy;obtain⟨j,hj⟩:=List.mem_iff_getElem?.1 hy;rw [List.getElem?_take]at hj;split at hj
 ·rename_i dg
  obtain⟨h1,e1⟩:=lgeS hj;obtain⟨h2,e2⟩:=lgeS hc;rw [<-e1,<-e2];exact List.pairwise_iff_getElem.1 hs j k h1 h2 dg
 ·cases hj
theorem oD{l:List Nat}{k c:Nat}(hc:l[k]? =some c):l.take (k+1)=l.take k++ [c]:=by
 rw [List.take_add_one,hc];rfl
structure qw(P:List Int)(T1:List Nd)(x:Nat)(xd:Nd)(half:Int)(k:Nat)(T':List Nd)(f:Int):Prop where
 oG:mc T1 T'
 here:T'[x]? =some {xd with free:=f}
 rest:∀y,y≠x->y∉xd.ch.take k->T'[y]? =T1[y]?
 lo:xd.lo+(((xd.ch.take k).map (sz P)).sum:Nat)<=f
 up:(f-xd.lo-(((xd.ch.take k).map (sz P)).sum:Nat))*(sz P x:Int)<=half*(((xd.ch.take k).map (sz P)).sum:Nat)
 ry:∀c cd,c∈xd.ch.take k->T'[c]? =some cd->xd.lo<=cd.lo/\cd.hi<f/\(sz P c:Int)<=cd.hi-cd.lo+1
 ord:∀c c' cd wo,c∈xd.ch.take k->c'∈xd.ch.take k->c<c'->T'[c]? =some cd->T'[c']? =some wo->cd.hi<wo.lo
section
variable{P:List Int}{T1 T':List Nd}{x:Nat}{xd:Nd}{half f:Int}{k:Nat}
theorem qw.start(hx:T1[x]? =some xd)(hf:xd.free=xd.lo):qw P T1 x xd half 0 T1 xd.lo:= {
 oG:=mc.refl _
 here:=by obtain⟨a,b,c,d,e⟩:=xd;simp only at hf;subst hf;exact hx
 rest:=fun _ _ _=>rfl
 lo:=by simp
 up:=by simp
 ry:=fun c cd hc=>by simp at hc
 ord:=fun c c' cd wo hc=>by simp at hc}
theorem qw.bound(h:qw P T1 x xd half k T' f)(hh:0<=half)(RE:1<=sz P x)(IA:((xd.ch.take k).map (sz P)).sum<=sz P x):f<=xd.lo+(((xd.ch.take k).map (sz P)).sum:Nat)+half:=by
 have h1:half*(((xd.ch.take k).map (sz P)).sum:Nat)<=half*(sz P x:Int):=Int.mul_le_mul_of_nonneg_left (by omega) hh;have h2:=Int.le_trans h.up h1;have h3:=Int.le_of_mul_le_mul_right h2 (by omega);omega
theorem qw.step(h:qw P T1 x xd half k T' f)(hs:xd.ch.Pairwise (· < ·)){c:Nat}(hx:∀y,y∈xd.ch->x<y)(hc:xd.ch[k]? =some c){cd:Nd}(kF:T'[c]? =some cd)
 {more:Int} (RN:0<=more) (hm:more*(sz P x:Int)<=half*(sz P c:Int)) (Ew:1<=sz P c):
 qw P T1 x xd half (k+1) (vX T' c x cd {xd with free:=f} ((sz P c:Int)+more)) (f+((sz P c:Int)+more)):=by
 have dg:=zU hs hc;have hxc:x<c:=hx c (List.mem_of_getElem? hc);have UD:c∉xd.ch.take k:=fun hh=>Nat.lt_irrefl _ (dg c hh);have gR:=yg (many:=(sz P c:Int)+more) kF h.here (by omega);have IA:((xd.ch.take (k+1)).map (sz P)).sum=((xd.ch.take k).map (sz P)).sum+sz P c:=by rw [oD hc];simp
 have ji:∀y,y∈xd.ch.take (k+1)↔y∈xd.ch.take k\/y=c:=by intro y;rw [oD hc];simp
 exact {
  oG:=h.oG.trans (vW _ kF h.here (by omega))
  here:=by rw [gR,if_pos rfl]
  rest:=fun y hy hn=>by
   rw [gR,if_neg hy,if_neg (fun e=>hn ((ji y).2 (.inr e)))];exact h.rest y hy (fun hh=>hn ((ji y).2 (.inl hh)))
  lo:=by rw [IA];have:=h.lo;omega
  up:=by
   rw [IA];have h1:=h.up;have e1:(f+((sz P c:Int)+more)-xd.lo-((((xd.ch.take k).map (sz P)).sum+sz P c:Nat):Int))*(sz P x:Int)=(f-xd.lo-((((xd.ch.take k).map (sz P)).sum:Nat):Int))*(sz P x:Int)+more*(sz P x:Int):=by
    rw [<-Int.add_mul];congr 1;omega
   have e2:half*((((xd.ch.take k).map (sz P)).sum+sz P c:Nat):Int)=half*((((xd.ch.take k).map (sz P)).sum:Nat):Int)+half*(sz P c:Int):=by
    rw [<-Int.mul_add];congr 1
   rw [e1,e2];omega
  ry:=fun y yd hy CD=>by
   have Ye:=h.lo;rw [gR]at CD;rcases(ji y).1 hy with hh|rfl
   ·have h1:=dg y hh
    have h2:=hx y (List.mem_of_mem_take hh);rw [if_neg (by omega),if_neg (by omega)]at CD;have:=h.ry y yd hh CD;exact⟨this.1,by omega,this.2.2⟩
   ·rw [if_neg (by omega),if_pos rfl]at CD
    cases CD;refine⟨?_,?_,?_⟩<;>simp only<;>omega
  ord:=fun a b ad bd ha hb mB NU G8=>by
   rw [gR]at NU G8;rcases(ji b).1 hb with xf|rfl
   ·have h1:=dg b xf
    rcases(ji a).1 ha with yZ|rfl
    ·have h2:=hx a (List.mem_of_mem_take yZ)
     rw [if_neg (by omega),if_neg (by omega)]at NU G8;exact h.ord a b ad bd yZ xf mB NU G8
    ·omega
   ·rcases(ji a).1 ha with yZ|rfl
    ·have h1:=dg a yZ
     have h2:=hx a (List.mem_of_mem_take yZ);rw [if_neg (by omega),if_neg (by omega)]at NU;rw [if_neg (by omega),if_pos rfl]at G8;cases G8;exact(h.ry a ad yZ NU).2.1
    ·omega}
end
structure oA(P:List Int)(T0:List Nd)(m:Nat)(T':List Nd)(q:List Nat)(i:Nat):Prop where
 oG:mc T0 T'
 nodup:q.Nodup
 pz:∀y,y∈q->kY P y m
 fst:m∈q
 src:∀y,y∈q->y=m\/∃z:Nat,z∈q.take i/\P[y]? =some (z:Int)
 YL:∀z,z∈q.take i->∀c,c∈kids P z->c∈q
 rest:∀y,y∉q->T'[y]? =T0[y]?
 top:∀md SQ,T0[m]? =some md->T'[m]? =some SQ->SQ.lo=md.lo/\SQ.hi=md.hi
 room:∀y yd,y∈q->T'[y]? =some yd->1<=yd.lo/\yd.hi<=4611686018427387904/\(sz P y:Int)<=yd.hi-yd.lo+1
 loc:∀z zd,z∈q.take i->T'[z]? =some zd->Loc T' zd
theorem oA.start{P:List Int}{T0:List Nd}{m:Nat}{md:Nd}(hm:m<P.length)(x8:T0[m]? =some md)(h1:1<=md.lo)(h2:md.hi<=4611686018427387904)(h3:(sz P m:Int)<=md.hi-md.lo+1):
 oA P T0 m T0 [m] 0:= {
 oG:=mc.refl _
 nodup:=by simp
 pz:=fun y hy=>by simp at hy;subst hy;exact .refl hm
 fst:=by simp
 src:=fun y hy=>by simp at hy;exact .inl hy
 YL:=fun z hz=>by simp at hz
 rest:=fun _ _=>rfl
 top:=fun a b ha hb=>by rw [ha]at hb;cases hb;exact⟨rfl,rfl⟩
 room:=fun y yd hy CD=>by
  simp at hy;subst hy;rw [x8]at CD;cases CD;exact⟨h1,h2,h3⟩
 loc:=fun z zd hz=>by simp at hz}
section
variable{T0 T' ER:List Nd}{m x i:Nat}{q:List Nat}{xd:Nd}{f half:Int}
theorem oA.step(hS:Shape T0)(h:oA (b9 T0) T0 m T' q i)(hq:q[i]? =some x)(JY:T'[x]? =some xd)
 (EF:0<=half) (abC:half*2<=xd.hi-xd.lo-((sz (b9 T0) x:Int)-1))
 (gB:qw (b9 T0) (T'.set x {xd with free:=xd.lo}) x {xd with free:=xd.lo} half xd.ch.length ER f):
 oA (b9 T0) T0 m ER (q++xd.ch) (i+1):=by
 have Yv:=h.oG.shape hS;have hpe:=h.oG.b9;have hP:=hS.par;have pf:xd.ch=kids (b9 T0) x:=by rw [Yv.ch x xd JY,hpe]
 have eh:i<q.length:=(lgeS hq).1;have It:x∈q:=List.mem_of_getElem? hq;have tZ:x<(b9 T0).length:=(h.pz x It).lt;have zw:q.take (i+1)=q.take i++ [x]:=oD hq;have PE:(q++xd.ch).take (i+1)=q.take i++ [x]:=by rw [List.take_append_of_le_length (by omega),zw]
 have M0:x∉q.take i:=by
  intro hh;have hn:(q.take i++ [x]).Nodup:=by rw [<-zw];exact h.nodup.sublist (List.take_sublist _ _)
  rw [List.nodup_append]at hn;exact hn.2.2 x hh x (by simp) rfl
 have Gl:∀c,c∈xd.ch->(b9 T0)[c]? =some (x:Int):=fun c hc=>fp.1 (pf▸hc);have x9:∀c,c∈xd.ch->x<c:=fun c hc=>(jw hP (pf▸hc)).1;have nK:∀c,c∈xd.ch->c∉q:=by
  intro c hc Yn;rcases h.src c Yn with rfl|⟨z,hz,X5⟩
  ·have:=(h.pz x It).le hP
   have:=x9 _ hc;omega
  ·rw [Gl c hc]at X5
   have:z=x:=by have:=Option.some.inj X5;omega
   exact M0 (this▸hz)
 have aia:x∉xd.ch:=fun hh=>Nat.lt_irrefl _ (x9 x hh);have cZ:∀c,c∈(({xd with free:=xd.lo}:Nd).ch.take xd.ch.length)↔c∈xd.ch:=by intro c;simp
 have IA:(xd.ch.map (sz (b9 T0))).sum+1=sz (b9 T0) x:=by
  rw [pf];exact DV hP tZ
 have jO:=uU hP tZ;have RQ:=gB.bound EF jO (by simp only [List.take_length];omega);have abO:=gB.lo;simp only [List.take_length]at RQ abO;have abP:f<=xd.hi:=by omega
 have hT1:∀y,y≠x->(T'.set x {xd with free:=xd.lo})[y]? =T'[y]? :=fun y hy=>List.getElem?_set_ne (fun e=>hy e.symm);have IJ:∀y,y≠x->y∉xd.ch->ER[y]? =T'[y]? :=fun y hy hn=>by
  rw [gB.rest y hy (fun hh=>hn ((cZ y).1 hh)),hT1 y hy]
 have NA:ER[x]? =some {xd with free:=f}:=gB.here;have hxr:=h.room x xd It JY;have hlh:xd.lo<=xd.hi:=by omega
 have hold:∀y zG,y∉xd.ch->ER[y]? =some zG->∃yd,T'[y]? =some yd/\yd.lo=zG.lo/\yd.hi=zG.hi:=by
  intro y zG hn hy;by_cases e:y=x
  ·subst e
   rw [NA]at hy;cases hy;exact⟨xd,JY,rfl,rfl⟩
  ·rw [IJ y e hn]at hy
   exact⟨zG,hy,rfl,rfl⟩
 exact {
  oG:=(h.oG.trans (mc.set (nd':= {xd with free:=xd.lo}) JY rfl rfl)).trans gB.oG
  nodup:=by
   rw [List.nodup_append];refine⟨h.nodup,?_,fun a ha b hb e=>nK b hb (e▸ha)⟩;rw [pf];exact(tW _ _).imp (fun h=>by omega)
  pz:=fun y hy=>by
   rcases List.mem_append.1 hy with hy|hy
   ·exact h.pz y hy
   ·exact .step (Gl y hy) (h.pz x It)
  fst:=List.mem_append.2 (.inl h.fst)
  src:=fun y hy=>by
   rw [PE];rcases List.mem_append.1 hy with hy|hy
   ·rcases h.src y hy with e|⟨z,hz,X5⟩
    ·exact .inl e
    ·exact .inr ⟨z,List.mem_append.2 (.inl hz),X5⟩
   ·exact .inr ⟨x,by simp,Gl y hy⟩
  YL:=fun z hz c hc=>by
   rw [PE]at hz;rcases List.mem_append.1 hz with hz|hz
   ·exact List.mem_append.2 (.inl (h.YL z hz c hc))
   ·simp at hz
    subst hz;exact List.mem_append.2 (.inr (pf▸hc))
  rest:=fun y hy=>by
   have h1:y∉q:=fun hh=>hy (List.mem_append.2 (.inl hh));have h2:y∉xd.ch:=fun hh=>hy (List.mem_append.2 (.inr hh));rw [IJ y (fun e=>h1 (e▸It)) h2,h.rest y h1]
  top:=fun md Zz x8 UQ=>by
   obtain⟨SQ,h1,h2,h3⟩:=hold m Zz (fun hh=>nK m hh h.fst) UQ;have:=h.top md SQ x8 h1;omega
  room:=fun y zG hy MZ=>by
   rcases List.mem_append.1 hy with hy|hy
   ·obtain⟨yd,h1,h2,h3⟩:=hold y zG (fun hh=>nK y hh hy) MZ
    have:=h.room y yd hy h1;omega
   ·have:=gB.ry y zG ((cZ y).2 hy) MZ
    simp only at this;omega
  loc:=fun z zd hz Z0=>by
   rw [PE]at hz;rcases List.mem_append.1 hz with hz|hz
   ·have hzq:z∈q:=List.mem_of_mem_take hz
    have TM:z≠x:=fun e=>M0 (e▸hz);have Pt:=Z0;rw [IJ z TM (fun hh=>nK z hh hzq)]at Pt;have hl:=h.loc z zd hz Pt;have Z1:zd.ch=kids (b9 T0) z:=by rw [Yv.ch z zd Pt,hpe]
    have Yo:∀c,c∈zd.ch->c∉xd.ch:=by
     intro c hc I1;have h1:=Gl c I1;rw [fp.1 (Z1▸hc:c∈kids (b9 T0) z)]at h1;have:=Option.some.inj h1;omega
    exact {
     Ha:=hl.Ha
     Dg:=hl.Dg
     sub:=fun c cd hc kF=>by
      obtain⟨wo,h1,h2,h3⟩:=hold c cd (Yo c hc) kF;have:=hl.sub c wo hc h1;omega
     ord:=fun c c' cd wo hc vS Bc kF rH=>by
      obtain⟨ed,h1,h2,h3⟩:=hold c cd (Yo c hc) kF;obtain⟨QX,uf,vU,BQ⟩:=hold c' wo (Yo c' vS) rH;have:=hl.ord c c' ed QX hc vS Bc h1 uf;omega}
   ·simp at hz
    subst hz;rw [NA]at Z0;cases Z0;exact {
     Ha:=by simp only;omega
     Dg:=abP
     sub:=fun c cd hc kF=>by
      have:=gB.ry c cd ((cZ c).2 hc) kF;simp only at this⊢;omega
     ord:=fun c c' cd wo hc vS Bc kF rH=>gB.ord c c' cd wo ((cZ c).2 hc) ((cZ c').2 vS) Bc kF rH}}
theorem oA.fin(hS:Shape T0)(h:oA (b9 T0) T0 m T' q i)(hi:q.length<=i)
 (Uw:∀y nd,T0[y]? =some nd->¬kY (b9 T0) y m->Iv nd/\Loc T0 nd):Good T':=by
 have Yv:=h.oG.shape hS;have hpe:=h.oG.b9;have hP:=hS.par;have zw:q.take i=q:=List.take_of_length_le hi;have rU:∀y,kY (b9 T0) y m->y∈q:=by
  have:∀y k,kY (b9 T0) y k->k=m->y∈q:=by
   intro y k hu
   induction hu with
   |refl=>intro e;subst e;exact h.fst
   | @step a b c hp h' ih=>intro e;exact h.YL b (by rw [zw];exact ih e) a (fp.2 hp)
  exact fun y hu=>this y m hu rfl
 have hq:∀y,y∈q↔kY (b9 T0) y m:=fun y=>⟨h.pz y,rU y⟩;refine⟨Yv,fun y yd CD=>?_,fun y yd CD=>?_⟩
 ·by_cases hy:y∈q
  ·have hr:=h.room y yd hy CD
   have:=uU hP (h.pz y hy).lt;exact⟨hr.1,by omega,hr.2.1⟩
  ·rw [h.rest y hy]at CD
   exact(Uw y yd CD (fun hu=>hy (rU y hu))).1
 ·by_cases hy:y∈q
  ·exact h.loc y yd (by rw [zw];exact hy) CD
  ·have Pv:=CD
   rw [h.rest y hy]at Pv;have hl:=(Uw y yd Pv (fun hu=>hy (rU y hu))).2;have pf:=hS.ch y yd Pv;have hold:∀c cd,c∈yd.ch->T'[c]? =some cd->∃ed,T0[c]? =some ed/\ed.lo=cd.lo/\ed.hi=cd.hi:=by
    intro c cd hc kF;by_cases Yn:c∈q
    ·have X8:=fp.1 (pf▸hc:c∈kids (b9 T0) y)
     have oX:c=m:=by
      by_cases e:c=m
      ·exact e
      ·exact absurd (rU y ((h.pz c Yn).inv e X8)) hy
     subst oX;obtain⟨ed,hed,_⟩:=h.oG.back kF;have:=h.top ed cd hed kF;exact⟨ed,hed,by omega,by omega⟩
    ·rw [h.rest c Yn]at kF
     exact⟨cd,kF,rfl,rfl⟩
   exact {
    Ha:=hl.Ha
    Dg:=hl.Dg
    sub:=fun c cd hc kF=>by
     obtain⟨ed,h1,h2,h3⟩:=hold c cd hc kF;have:=hl.sub c ed hc h1;omega
    ord:=fun c c' cd wo hc vS Bc kF rH=>by
     obtain⟨ed,h1,h2,h3⟩:=hold c cd hc kF;obtain⟨QX,uf,vU,BQ⟩:=hold c' wo vS rH;have:=hl.ord c c' ed QX hc vS Bc h1 uf;omega}
end
open Go Go.RowKit Go.b0
theorem OX{l:List Nat}{a:Nat}(h:a∈l):a<=l.sum:=by
 induction l with
 |nil=>simp at h
 |cons b l ih=>
  rw [List.sum_cons];rcases List.mem_cons.1 h with rfl|h
  ·omega
  ·have:=ih h;omega
theorem AR{l:List Nat}{j x:Nat}(h:l[j]? =some x):(ints l)[j]? =some (.int .i64 (x:Int)):=by simp [ints,h]
theorem Iq(l:List Nat):(ints l).length=l.length:=by simp [ints]
theorem Ip(l:List Nat):∀u∈ints l,u.oneCell'=true:=by
 intro u hu;simp only [ints,List.mem_map]at hu;obtain⟨x,_,rfl⟩:=hu;rfl
structure Dl(w0:World)(S:Nat->Prop)(g b c B0 B1 len:Nat)(P:List Int)(d:Int)(As:Option Addr)(w:World)(T':List Nd)(L:List (Nd×Value))(Aq:Option Addr)(nq cq:Nat)(q:List Nat):Prop where
 tv:TV w S g T' d b c L
 rs:Row w B0 gz 1 As len len (us (sz P) len)
 sb:∀k,bG As=some k->k<B1
 rq:Row w B1 gZ 1 Aq nq cq (ints q)
 kp:Kept S w0 w
 hS:∀k,S k->k<B0
 hB:B0<=B1
 Jf:B1<=w.heap.size
 h0:w0.heap.size<=B0
section
variable{w0 w w':World}{S:Nat->Prop}{g b c B0 B1 len:Nat}{P:List Int}{d:Int}{As:Option Addr}{T' ER:List Nd}{L L':List (Nd×Value)}{Aq:Option Addr}{nq cq:Nat}{q:List Nat}
theorem Dl.KG(h:Dl w0 S g b c B0 B1 len P d As w T' L Aq nq cq q):nq=q.length:=by
 have:=Row.len h.rq;rw [Iq]at this;omega
theorem Dl.quiet(h:Dl w0 S g b c B0 B1 len P d As w T' L Aq nq cq q)(hk:Kept Nil w w'):Dl w0 S g b c B0 B1 len P d As w' T' L Aq nq cq q:= {
 tv:=h.tv.kept hk
 rs:=Row.aJ h.rs hk (fun _ _ h=>h)
 sb:=h.sb
 rq:=Row.aJ h.rq hk (fun _ _ h=>h)
 kp:=h.kp.trans hk (fun _ _ h=>h.elim)
 hS:=h.hS
 hB:=h.hB
 Jf:=Nat.le_trans h.Jf hk.size
 h0:=h.h0}
theorem Dl.wrote(h:Dl w0 S g b c B0 B1 len P d As w T' L Aq nq cq q)(hk:Kept (fun k=>k=b) w w')(ht:TV w' S g ER d b c L'):Dl w0 S g b c B0 B1 len P d As w' ER L' Aq nq cq q:= {
 tv:=ht
 rs:=Row.aJ h.rs hk (fun k e e2=>by have:=(Row.bV h.rs e).1;have:=h.hS b h.tv.gM;omega)
 sb:=h.sb
 rq:=Row.aJ h.rq hk (fun k e e2=>by have:=(Row.bV h.rq e).1;have:=h.hS b h.tv.gM;have:=h.hB;omega)
 kp:=h.kp.trans hk (fun k _ e=>by rw [e];exact h.tv.gM)
 hS:=h.hS
 hB:=h.hB
 Jf:=Nat.le_trans h.Jf hk.size
 h0:=h.h0}
theorem Dl.Ea(h:Dl w0 S g b c B0 B1 len P d As w T' L Aq nq cq q){j:Nat}(hj:j<len){k:Int->Prop}(hk:k (sz P j)):
 Is As fun a=>∃t,w.cell? (a.add (j*1))=some (.int .u64 t)/\k t:=by
 have hr:=h.rs;obtain⟨b',rfl⟩:=Row.some hr (by omega);exact⟨_,by rw [mZ,Nat.mul_one];exact Row.cell hr (pF _ hj),hk⟩
theorem Dl.SD(h:Dl w0 S g b c B0 B1 len P d As w T' L Aq nq cq q){j x:Nat}(hj:q[j]? =some x){k:Int->Prop}(hk:k x):
 Is Aq fun a=>∃t,w.cell? (a.add (j*1))=some (.int .i64 t)/\k t:=by
 have hr:=h.rq;have dg:=(lgeS hj).1;obtain⟨b',rfl⟩:=Row.some hr (by rw [h.KG];omega);exact⟨_,by rw [mZ,Nat.mul_one];exact Row.cell hr (AR hj),hk⟩
theorem Dl.push(h:Dl w0 S g b c B0 B1 len P d As w T' L Aq nq cq q)(wF:q.length<=4000000)(x:Nat){w1:World}(e1:w1=w.alloc (.cells #[.int .i64 (x:Int)] gZ)):
 ∃Kt Ko w2,(Builtin.append_ #[jK,jK] jK #[.slice Aq nq cq,.slice (some ⟨w.heap.size,0,none⟩) 1 1]).run prog w1=.ok (.slice Kt (nq+1) Ko) w2/\
  Dl w0 S g b c B0 B1 len P d As w2 T' L Kt (nq+1) Ko (q++ [x])/\(∀S0:Nat->Prop,(∀k,bG Aq=some k->S0 k)->Kept S0 w w2):=by
 subst e1;generalize JZ:w.alloc (.cells #[.int .i64 (x:Int)] gZ)=w1;have nK:w1.heap[w.heap.size]? =some (.cells #[.int .i64 (x:Int)] gZ (0,0)):=by rw [<-JZ];exact aM w _
 have k1:Kept Nil w w1:=by rw [<-JZ];exact(Kept.refl Nil w).alloc _
 have h1:=h.quiet k1;have Lr:=h.KG;obtain⟨A',c',w2,hr,fJ,hg,CZ⟩:=fR (P:=prog) (t:=jK) (ty:=jK) My h1.rq (a:=⟨w.heap.size,0,none⟩) (m:=1) (cx:=1)
  (news:=ints [x]) rfl (fun j u hj=>by rw [mZ,aE nK];simpa [ints]using hj) (Ip _) (by omega) (by unfold maxLen;omega) h1.Jf
 have kA:Kept (fun k=>bG Aq=some k) w1 w2:=(Kept.refl _ w1).grown hg (fun k hk _=>hk);have gK:∀k,bG Aq=some k->B1<=k:=fun k e=>(Row.bV h.rq e).1;refine⟨A',c',w2,hr,?_,fun S0 h0=>(k1.mono (S':=S0) (fun _ _ h=>h.elim)).trans kA (fun k _ e=>h0 k e)⟩;exact {
  tv:=h1.tv.aJ kA (fun k hk e=>by have:=h.hS k hk;have:=gK k e;have:=h.hB;omega)
  rs:=Row.aJ h1.rs kA (fun k e e2=>by have:=h.sb k e;have:=gK k e2;omega)
  sb:=h.sb
  rq:=by simpa [ints]using fJ
  kp:=(h.kp.trans k1 (fun _ _ h=>h.elim)).trans kA (fun k hk e=>absurd (gK k e) (by have:=h.hB;have:=h.h0;omega))
  hS:=h.hS
  hB:=h.hB
  Jf:=Nat.le_trans h1.Jf kA.size
  h0:=h.h0}
theorem Dj{T0 T1:List Nd}{x:Nat}{xd:Nd}{half:Nat}{spare i:Int}{Xs:Option Addr}{Xz:Nat}{Qo:aR}
 (D:Dl w0 S g b c B0 B1 T0.length (b9 T0) d As w T1 L Aq nq cq q) (hS:Shape T0) (XY:mc T0 T1) (hlen:T0.length<=1000000) (Lr:q.length<=1000000)
 (hx:T1[x]? =some xd) (A9:xd.free=xd.lo) (Ye:0<=xd.lo) (hhi:xd.hi<=4611686018427387904) (EF:(half:Int)*2<=xd.hi-xd.lo-((sz (b9 T0) x:Int)-1))
 (G3:u64.wrap (spare.tdiv 2)=(half:Int)) (ab2:Row w 0 gZ 1 Xs xd.ch.length Xz (ints xd.ch)) (VO:∀k,bG Xs=some k->S k/\k≠b)
 (hex:∀w' ER f L' Kt Ko,Dl w0 S g b c B0 B1 T0.length (b9 T0) d As w' ER L' Kt (nq+xd.ch.length) Ko (q++xd.ch)->qw (b9 T0) T1 x xd half xd.ch.length ER f->
   Qo .normal [(0,.pointer (some ⟨g,0,none⟩)),(4,.slice As T0.length T0.length),(5,.slice Kt (nq+xd.ch.length) Ko),(6,.int .i64 (i64.wrap (i+1)))] w'):
 Holds none [] prog 164 (.loop (lB (bB (cG (bB (sL (sR (lB (bB (cG (sR (body aA.fn)))))))))))) (aA.q3 Qo) (aA.e3 (some ⟨g,0,none⟩) As T0.length T0.length i x spare Xs xd.ch.length Xz xd.ch.length (Aq,nq,cq,0)) w:=by
 have hP:=hS.par;have rT:=fi T0;have pf:xd.ch=kids (b9 T0) x:=by
  have:=(XY.shape hS).ch x xd hx
  rwa [XY.b9]at this
 have tZ:x<T0.length:=by rw [<-XY.len];exact(lgeS hx).1
 have Ll:xd.ch.Pairwise (· < ·):=by rw [pf];exact tW _ _
 have x9:∀y,y∈xd.ch->x<y:=fun y hy=>(jw hP (pf▸hy)).1;have VN:xd.ch.length<=1000000:=by rw [pf];exact Nat.le_trans (AI _ _) (by omega)
 have IA:(xd.ch.map (sz (b9 T0))).sum+1=sz (b9 T0) x:=by rw [pf];exact DV hP (by omega)
 have jO:=uU hP (n:=x) (by omega);have aas:=xD (P:=b9 T0) x;have hnq:=D.KG;refine aA.vC (I:=fun s w'=>∃(k:Nat) (T':List Nd) (f:Int) (L':List (Nd×Value)) (Kt:Option Addr) (Ko:Nat),s=(Kt,nq+k,Ko,(k:Int))/\k<=xd.ch.length/\
  Dl w0 S g b c B0 B1 T0.length (b9 T0) d As w' T' L' Kt (nq+k) Ko (q++xd.ch.take k)/\qw (b9 T0) T1 x xd half k T' f/\Row w' 0 gZ 1 Xs xd.ch.length Xz (ints xd.ch))
  (μ:=fun s _=>((xd.ch.length:Int)-s.2.2.2).toNat) (s:=(Aq,nq,cq,0)) ⟨0,T1,xd.lo,L,Aq,cq,rfl,Nat.zero_le _,by simpa using D,qw.start hx A9,ab2⟩ ?_
 rintro s w' ⟨k,T',f,L',Kt,Ko,rfl,hk,D',gB,hr⟩;refine Split.dec (fun dg=>?_) (fun gK=>?_)
 ·simp only at dg
  have CT:k<xd.ch.length:=by omega
  obtain⟨ci,Yp⟩:∃ci,xd.ch[k]? =some ci:=⟨_,List.getElem?_eq_getElem CT⟩;have oX:ci∈xd.ch:=List.mem_of_getElem? Yp;have hck:ci∈kids (b9 T0) x:=pf▸oX;have rU:ci<T0.length:=by have:=(jw hP hck).2;omega
  have hxc:=x9 ci oX;have Ew:=uU hP (n:=ci) (by omega);have aiw:=xD (P:=b9 T0) ci;have T3:=XY.trans gB.oG;obtain⟨cd,kF⟩:=gE (T:=T') (i:=ci) (by rw [T3.len];exact rU);have VM:cd.parent=x:=by
   have h1:=lR kF;rw [T3.b9,fp.1 hck]at h1;exact(Option.some.inj h1).symm
  have aav:sz (b9 T0) ci<=sz (b9 T0) x:=by
   have:=OX (l:=xd.ch.map (sz (b9 T0))) (a:=sz (b9 T0) ci) (List.mem_map.2 ⟨ci,oX,rfl⟩);omega
  have V7:0<=(ci:Int)/\(ci:Int)<(T0.length:Int):=⟨by omega,by omega⟩;have j0:0<=(x:Int)/\(x:Int)<(T0.length:Int):=⟨by omega,by omega⟩;have abB:half<4611686018427387904:=by omega
  obtain⟨bch,aci⟩:=Row.some hr (by omega);subst aci;refine⟨⟨by simp only;omega,by simp only;omega⟩,_,by simp only [mZ,Int.toNat_natCast,Nat.mul_one];exact Row.cell hr (AR Yp),by decide,V7,D'.Ea rU ?_⟩;rw [G3];refine xl half (sz (b9 T0) ci) (by omega) (by omega) ⟨_,_,rfl,j0,D'.Ea tZ ?_⟩;have UO:(half*sz (b9 T0) ci/18446744073709551616)*18446744073709551616+half*sz (b9 T0) ci%18446744073709551616=half*sz (b9 T0) ci:=Nat.div_add_mod' _ _;have abA:half*sz (b9 T0) ci/18446744073709551616<sz (b9 T0) x:=by
   have:half*sz (b9 T0) ci<18446744073709551616*sz (b9 T0) ci:=Nat.mul_lt_mul_of_pos_right (by omega) Ew;have:half*sz (b9 T0) ci/18446744073709551616<sz (b9 T0) ci:=Nat.div_lt_of_lt_mul this;omega
  refine xn _ _ (sz (b9 T0) x) (Nat.mod_lt _ (by omega)) (by omega) abA fun r w90 k90=>?_;rw [UO];generalize hm:half*sz (b9 T0) ci/sz (b9 T0) x=more;have hmx:more*sz (b9 T0) x<=half*sz (b9 T0) ci:=by rw [<-hm];exact Nat.div_mul_le_self _ _
  have ajg:more<=half:=by
   rw [<-hm];apply Nat.div_le_of_le_mul;rw [Nat.mul_comm];exact Nat.mul_le_mul_right _ aav
  have D90:=D'.quiet k90;have aaF:=Row.aJ hr k90 (fun _ _ h=>h);refine⟨_,_,rfl,V7,D90.Ea rU ?_⟩;rw [fV (x:=(sz (b9 T0) ci:Int)+(more:Int)) (by omega) (by omega)];have Be:=gB.bound (by omega) jO (by
   have h1:(((xd.ch.take k).map (sz (b9 T0))).sum)<=(xd.ch.map (sz (b9 T0))).sum:=by
    conv=>rhs;rw [<-List.take_append_drop k xd.ch,List.map_append,List.sum_append]
    omega
   omega)
  have nA:=gB.lo;have h1:(((xd.ch.take k).map (sz (b9 T0))).sum)<=(xd.ch.map (sz (b9 T0))).sum:=by
   conv=>rhs;rw [<-List.take_append_drop k xd.ch,List.map_append,List.sum_append]
   omega
  refine uS D90.tv kF gB.here VM (by omega) (by simp only;omega) (by omega) (by simp only;omega) fun w96 L96 h96 k96=>⟨rfl,?_⟩;have D96:=D90.wrote k96 h96;have aaD:=Row.aJ aaF k96 (fun k e e2=>(VO k e).2 e2);intro w97;have htl:(xd.ch.take k).length<=1000000:=by rw [List.length_take];omega
  obtain⟨Se,R0,Rg,aay,D99,XF⟩:=D96.push (by rw [List.length_append];omega) ci (w1:=w97) rfl;have aaC:=Row.aJ aaD (XF (fun k=>B1<=k) (fun k e=>(Row.bV D96.rq e).1)) (fun k e e2=>by have:=D.hS k (VO k e).1;have:=D.hB;omega);refine⟨Se,_,R0,Rg,aay,?_⟩;rw [iZ (x:=(k:Int)+1) (by omega) (by omega)];refine⟨(Se,nq+(k+1),R0,((k+1:Nat):Int)),rfl,⟨k+1,_,_,L96,Se,R0,rfl,CT,?_,gB.step (more:=(more:Int)) Ll x9 Yp kF (by omega) ?_ Ew,aaC⟩,by simp only;omega⟩
  ·rw [oD Yp,<-List.append_assoc]
   exact D99
  ·have:((more*sz (b9 T0) x:Nat):Int)<=((half*sz (b9 T0) ci:Nat):Int):=by omega
   rwa [Int.natCast_mul,Int.natCast_mul]at this
 ·simp only at gK
  have:k=xd.ch.length:=by omega
  subst this;rw [aX,aA.BV];rw [List.take_length]at D';exact hex w' T' f L' Kt Ko D' gB
end
theorem HO:∀(n:Nat) (q:List Nat),q.Nodup->(∀y,y∈q->y<n)->q.length<=n:=by
 intro n
 induction n with
 |zero=>
  intro q _ h;cases q with
  |nil=>simp
  |cons a q=>exact absurd (h a (by simp)) (by omega)
 |succ n ih=>
  intro q hn h;by_cases hm:n∈q
  ·have h1:=List.length_erase_of_mem hm
   have h2:=ih (q.erase n) (hn.erase n) (fun y hy=>by
    have:=(List.Nodup.mem_erase_iff hn).1 hy;have:=h y this.2;omega)
   omega
  ·have:=ih q hn (fun y hy=>by
    have:=h y hy;have:y≠n:=fun e=>hm (e▸hy);omega)
   omega
section
variable{w0 w:World}{S:Nat->Prop}{g b c B0:Nat}{d:Int}{As:Option Addr}{L:List (Nd×Value)}{T:List Nd}{K:Value->World->Prop}
theorem Di{T0:List Nd}{m:Nat}{md:Nd}
 (htv:TV w S g T0 d b c L) (hrs:Row w B0 gz 1 As T0.length T0.length (us (sz (b9 T0)) T0.length)) (U8:Kept S w0 w) (hSB:∀k,S k->k<B0) (TS:w0.heap.size<=B0) (hBw:B0<=w.heap.size)
 (hS:Shape T0) (hlen:T0.length<=1000000) (x8:T0[m]? =some md) (h1:1<=md.lo) (h2:md.hi<=4611686018427387904) (h3:(sz (b9 T0) m:Int)<=md.hi-md.lo+1)
 (hK:∀w' T' q i,pD w' S g T' d->oA (b9 T0) T0 m T' q i->q.length<=i->Kept S w0 w'->K (.tuple #[]) w'):
 aA.dd (some ⟨g,0,none⟩) m As T0.length T0.length K w:=by
 have hP:=hS.par;have rT:=fi T0;have IQ:m<T0.length:=(lgeS x8).1;unfold aA.dd;intro jA;have ns:Kept Nil w jA:=(Kept.refl Nil w).alloc _;have nK:jA.heap[w.heap.size]? =some (.cells #[.int .i64 (m:Int)] gZ (0,0)):=aM w _;have D35:Dl w0 S g b c B0 w.heap.size T0.length (b9 T0) d As jA T0 L (some ⟨w.heap.size,0,none⟩) 1 1 [m]:= {
  tv:=htv.kept ns
  rs:=Row.aJ hrs ns (fun _ _ h=>h)
  sb:=fun k e=>by obtain⟨_,_,hc⟩:=Row.bV hrs e;exact aY hc
  rq:=Row.made (n:=1) (cur:= #[.int .i64 (m:Int)]) nK (Nat.le_refl _) rfl (by decide)
  kp:=U8.trans ns (fun _ _ h=>h.elim)
  hS:=hSB
  hB:=hBw
  Jf:=ns.size
  h0:=TS}
 clear_value jA;generalize Jf:w.heap.size=B1 at*;refine aA.iG (I:=fun s w'=>∃(i:Nat) (T':List Nd) (L':List (Nd×Value)) (Aq:Option Addr) (nq cq:Nat) (q:List Nat),s=(Aq,nq,cq,(i:Int))/\i<=q.length/\
  Dl w0 S g b c B0 B1 T0.length (b9 T0) d As w' T' L' Aq nq cq q/\oA (b9 T0) T0 m T' q i)
  (μ:=fun s _=>((T0.length:Int)-s.2.2.2).toNat) (s:=(some ⟨B1,0,none⟩,1,1,0)) ⟨0,T0,L,_,1,1,[m],rfl,Nat.zero_le _,D35,oA.start (by omega) x8 h1 h2 h3⟩ ?_
 rintro s w' ⟨i,T',L',Aq,nq,cq,q,rfl,hi,D,hO⟩;have hnq:=D.KG;have Lr:q.length<=T0.length:=HO _ _ hO.nodup (fun y hy=>by have:=(hO.pz y hy).lt;omega);refine Split.dec (fun dg=>?_) (fun gK=>?_)
 ·simp only at dg
  have eh:i<q.length:=by omega
  obtain⟨x,hqx⟩:∃x,q[i]? =some x:=⟨_,List.getElem?_eq_getElem eh⟩;have It:x∈q:=List.mem_of_getElem? hqx;have tZ:x<T0.length:=by have:=(hO.pz x It).lt;omega
  obtain⟨xd,JY⟩:=gE (T:=T') (i:=x) (by rw [hO.oG.len];exact tZ);have ub:=hO.room x xd It JY;have jO:=uU hP (n:=x) (by omega);have aas:=xD (P:=b9 T0) x;have hlT:T'.length=T0.length:=hO.oG.len;have j0:0<=(x:Int)/\(x:Int)<(T'.length:Int):=⟨by omega,by omega⟩;refine⟨⟨by simp only;omega,by simp only;omega⟩,D.SD hqx ?_⟩;intro Hm;have Sd:=D.quiet (w':=Hm) (Kept.refl Nil w').drew;clear_value Hm;obtain⟨v,hv⟩:=Sd.tv.at_ JY;obtain⟨wr,h50⟩:=Sd.tv.uY hv (j:=4) (by omega) (u:=.int .u64 xd.lo) (nd':= {xd with free:=xd.lo}) rfl rfl;refine Sd.tv.go (Sd.tv.go ⟨j0,Sd.tv.vZ hv ⟨j0,by rw [pq];exact wr,?_⟩⟩);intro JP Hl;have e50:JP=Hm.setCell ⟨b,x*5+4,none⟩ (.int .u64 xd.lo):=by simp only [JP,pq,Int.toNat_natCast]
  rw [<-e50]at h50;have Rx:Kept (fun k=>k=b) Hm JP:=by rw [e50];exact(Kept.refl (fun k=>k=b) Hm).setCell (p:=⟨b,x*5+4,none⟩) (fun _=>rfl) _
  have Ks:=(Sd.wrote Rx h50).quiet (w':=Hl) (Kept.refl Nil JP).drew;clear_value Hl;have v1:(L'.set x ({xd with free:=xd.lo},v))[x]? =some ({xd with free:=xd.lo},v):=jm hv;obtain⟨Xs,Xz,hk⟩:=Ks.tv.ry _ _ v1;have zz:(T'.set x {xd with free:=xd.lo}).length=T'.length:=by simp
  have Qx:0<=(x:Int)/\(x:Int)<((T'.set x {xd with free:=xd.lo}).length:Int):=by rw [zz];exact j0
  have Yq:0<=(x:Int)/\(x:Int)<(T0.length:Int):=⟨by omega,by omega⟩;refine Ks.tv.go ⟨Qx,Ks.tv.Bk v1 (Ks.tv.go ⟨Qx,Ks.tv.vZ v1 ⟨Yq,Ks.Ea tZ (Ks.tv.go ⟨Qx,Ks.tv.WV v1 hk.val ?_⟩)⟩⟩)⟩;have aau:mc T0 (T'.set x {xd with free:=xd.lo}):=hO.oG.trans (mc.set (nd':= {xd with free:=xd.lo}) JY rfl rfl);simp only;obtain⟨cur,RS⟩:=Ks.tv.wx;generalize hhf:((xd.hi-xd.lo-((sz (b9 T0) x:Int)-1)).toNat /2)=half;refine Dj (half:=half) (xd:= {xd with free:=xd.lo}) Ks hS aau hlen (by omega) (jm JY) rfl (by simp only;omega) (by simp only;omega) (by simp only;omega) ?_ hk.row (fun k e=>⟨hk.kX k e,fun e2=>hk.ne RS (by decide) (by rw [e,e2])⟩) ?_
  ·rw [fV (x:=xd.hi-xd.lo) (by omega) (by omega),fV (x:=(sz (b9 T0) x:Int)-1) (by omega) (by omega),fV (x:=xd.hi-xd.lo-((sz (b9 T0) x:Int)-1)) (by omega) (by omega),
    Int.tdiv_eq_ediv_of_nonneg (by omega),fV (by omega) (by omega)]
   omega
  ·intro w2 T2 f L2 Se R0 D2 gB
   rw [iZ (x:=(i:Int)+1) (by omega) (by omega)];refine⟨(Se,nq+xd.ch.length,R0,((i+1:Nat):Int)),rfl,⟨i+1,T2,L2,Se,_,R0,q++xd.ch,rfl,by rw [List.length_append];omega,D2,hO.step hS hqx JY (by omega) (by omega) gB⟩,by simp only;omega⟩
 ·simp only at gK
  rw [aX,aA.kW];exact hK w' T' q i ⟨_,_,_,D.tv⟩ hO (by omega) D.kp
theorem TV.Zg(h:TV w S g T d b c L)(d':Int):Wr w ⟨g,1,none⟩/\TV (w.setCell ⟨g,1,none⟩ (.int .i64 d')) S g T d' b c L:=by
 have kG:Kept (fun k=>k=g) w (w.setCell ⟨g,1,none⟩ (.int .i64 d')):=(Kept.refl (fun k=>k=g) w).setCell (p:=⟨g,1,none⟩) (fun _=>rfl) _;refine⟨dN h.top (show 1<2 by omega),?_⟩;exact {
  top:=by
   have:=dp h.top 1 (.int .i64 d');simpa using this
  fst:=h.fst
  row:=Row.aJ h.row kG (fun k e e2=>h.gb (by cases e;exact e2.symm))
  ry:=fun i p hp=>by
   obtain⟨A,m,hk⟩:=h.ry i p hp;exact⟨A,m,hk.val,Row.aJ hk.row kG (fun k e e2=>hk.ne h.top (by decide) (by rw [e,e2])),hk.kX⟩
  apart:=h.apart
  iS:=h.iS
  gM:=h.gM}
set_option maxRecDepth 100000 in
theorem Ff(h:pD w S g T d)(hS:Shape T)(hlen:T.length<=1000000){p:Nat}(hp:p<T.length)(hd:0<=d/\d<=1000000)
 (Ub:∀nd,T[0]? =some nd->nd.lo=1/\nd.hi=4611686018427387904)
 (Yi:∀y nd,T[y]? =some nd->kY (b9 T) p y->Iv nd)
 (hK:∀w' T' m q i,pD w' S g T' (d+1)->kY (b9 T) p m->oA (b9 T) T m T' q i->q.length<=i->Kept S w w'->K (.tuple #[]) w'):
 bD prog aA.id #[.pointer (some ⟨g,0,none⟩),.int .i64 p] w K:=by
 have hP:=hS.par;have rT:=fi T;obtain⟨b,c,L,h⟩:=h;have hb:=h.bound;obtain⟨wr,h6⟩:=hb.Zg (d+1);refine aA.of (h.goD ⟨by rw [mZ];exact wr,?_⟩);intro w6;have e6:w6=w.setCell ⟨g,1,none⟩ (.int .i64 (d+1)):=by simp only [w6,mZ,iZ (x:=d+1) (by omega) (by omega)]
 rw [<-e6]at h6;have k6:Kept (fun k=>S k/\k<w.heap.size) w w6:=by rw [e6];exact(Kept.refl _ w).setCell (p:=⟨g,1,none⟩) (fun _=>hb.iS) _
 have Ln:w.heap.size=w6.heap.size:=by rw [e6];simp
 clear_value w6;refine B8 ⟨_,_,_,h6⟩ hP hlen fun w8 As KD k8=>⟨_,_,_,rfl,?_⟩;have h8:=h6.kept k8;refine aA.cJ (I:=fun s w'=>∃m:Nat,s=(m:Int)/\kY (b9 T) p m/\Kept Nil w8 w') (μ:=fun s _=>s.toNat) (s:=(p:Int)) ⟨p,rfl,.refl (by omega),Kept.refl _ _⟩ ?_;rintro s w' ⟨m,rfl,hu,kw⟩;have IQ:m<T.length:=by have:=hu.XA;omega
 obtain⟨md,x8⟩:=gE IQ;have hm:=Yi m md x8 hu;have Nt:=hm.ZA;have Yc:=hm.le;have hm3:=hm.top;unfold aA.B1;intro pw;have Cz:Kept Nil w8 pw:=kw.drew;have BR:=h8.kept Cz;have D7:=Row.aJ KD Cz (fun _ _ h=>h);have mz:=lR x8;have ais:=xD (P:=b9 T) m;have I8:0<=(m:Int)/\(m:Int)<(T.length:Int):=⟨by omega,by omega⟩;obtain⟨v,hv⟩:=BR.at_ x8;have done:(sz (b9 T) m:Int)<=md.hi-md.lo+1->aA.q1 K (.exit 0) [(0,.pointer (some ⟨g,0,none⟩)),(1,.int .i64 m),(4,.slice As T.length T.length)] pw:=by
  intro ub;rw [aA.dv];have k8':Kept (fun k=>S k/\k<w.heap.size) w pw:=(k6.trans k8 (fun _ _ h=>h.elim)).trans Cz (fun _ _ h=>h.elim);refine Di BR (B0:=w.heap.size) (Row.base D7 (fun k e=>by rw [Ln];exact(Row.bV D7 e).1)) k8' (fun k h=>h.2) (Nat.le_refl _) k8'.size hS hlen x8 Nt hm3 ub ?_;intro w2 T2 q i h2 hO hq k2;exact hK w2 T2 m q i (h2.mono (fun k h=>h.1)) hu hO hq (k2.mono (fun k _ h=>h.1))
 refine BR.go ⟨I8,BR.Jk hv (Split.dec (fun jO=>?_) (fun AY=>?_))⟩
 ·obtain⟨bs,Yq⟩:=Row.some D7 (by omega)
  subst Yq;refine BR.go ⟨I8,BR.Bk hv (BR.go ⟨I8,BR.vZ hv ⟨by decide,I8,_,by rw [mZ,Int.toNat_natCast,Nat.mul_one];exact Row.cell D7 (pF _ IQ),?_⟩⟩)⟩;rw [fV (x:=md.hi-md.lo) (by omega) (by omega),fV (x:=md.hi-md.lo+1) (by omega) (by omega),Int.tdiv_eq_ediv_of_nonneg (by omega),fV (x:=(md.hi-md.lo+1)/4) (by omega) (by omega)];refine Split.dec (fun dg=>?_) (fun gK=>?_)
  ·have RN:0<m:=by
    rcases Nat.eq_zero_or_pos m with rfl|h
    ·rw [hP.root]at mz;have:=Option.some.inj mz;omega
    ·exact h
   obtain⟨z,hz,ez⟩:=hP.up m _ RN mz;refine BR.go ⟨I8,BR.Jk hv ?_⟩;rw [ez];exact⟨(z:Int),rfl,⟨z,rfl,hu.trans (.step (by rw [mz,ez]) (.refl (by omega))),Cz⟩,by simp only;omega⟩
  ·rw [aX]
   exact done (by omega)
 ·have RN:m=0:=by
   rcases Nat.eq_zero_or_pos m with h|h
   ·exact h
   ·obtain⟨z,_,ez⟩:=hP.up m _ h mz
    omega
  subst RN;have:=Ub md x8;rw [aX];exact done (by omega)
end
structure xy(T:List Nd):Prop extends Good T where
 root:∀nd,T[0]? =some nd->nd.lo=1/\nd.hi=4611686018427387904
theorem Ck:xy qO:=by
 have gR:∀(i:Nat) nd,qO[i]? =some nd->i=0/\nd=⟨-1,[],1,4611686018427387904,1⟩:=by
  intro i nd h;cases i with
  |zero=>simp [qO]at h;exact⟨rfl,h.symm⟩
  |succ i=>simp [qO]at h
 exact {
  par:=⟨rfl,fun i p hi h=>by
   cases i with
   |zero=>omega
   |succ i=>simp [b9,qO]at h⟩
  ch:=fun i nd h=>by
   obtain⟨rfl,rfl⟩:=gR i nd h;simp [kids,b9,qO]
  iv:=fun i nd h=>by
   obtain⟨rfl,rfl⟩:=gR i nd h;exact⟨by decide,by decide,by decide⟩
  loc:=fun i nd h=>by
   obtain⟨rfl,rfl⟩:=gR i nd h;exact⟨by decide,by decide,fun c cd hc=>by simp at hc,fun c c' cd wo hc=>by simp at hc⟩
  root:=fun nd h=>by
   obtain⟨_,rfl⟩:=gR 0 nd h;exact⟨rfl,rfl⟩}
section
variable{T:List Nd}{p:Nat}{pd:Nd}
theorem GM(hp:T[p]? =some pd)(i:Nat):(added T p pd)[i]? =if i=p then some {pd with ch:=pd.ch++ [T.length],free:=pd.free+jG pd}else if i=T.length then some ⟨p,[],pd.free,pd.free+jG pd-1,pd.free⟩else T[i]? :=by
 have dg:p<T.length:=(lgeS hp).1;unfold added;rw [yg (by rw [jP hp,if_neg (by omega),if_pos rfl]) (by rw [jP hp,if_pos rfl]) (by omega),jP hp];split
 ·rfl
 ·split
  ·rfl
  ·rfl
theorem wz(hp:T[p]? =some pd):mc (grown T p pd) (added T p pd):=by
 have dg:p<T.length:=(lgeS hp).1;exact vW _ (by rw [jP hp,if_neg (by omega),if_pos rfl]) (by rw [jP hp,if_pos rfl]) (by omega)
theorem Shape.QZ(h:Shape T){i:Nat}{nd:Nd}(hi:T[i]? =some nd){c:Nat}(hc:c∈nd.ch):i<c/\c<T.length:=by
 rw [h.ch i nd hi]at hc;have:=jw h.par hc
 rwa [fi]at this
theorem xy.added(h:xy T)(hp:T[p]? =some pd)(ub:pd.free<pd.hi):xy (added T p pd):=by
 have dg:p<T.length:=(lgeS hp).1;have gR:=GM hp;have Pp:=h.iv p pd hp;have i1:=Pp.ZA;have i2:=Pp.le;have i3:=Pp.top;have lp:=h.loc p pd hp;have l1:=lp.Ha;have l2:=lp.Dg;have hh1:1<=jG pd:=by unfold jG;omega
 have hh2:pd.free+jG pd<=pd.hi:=by unfold jG;omega
 have hold:∀(c:Nat) cd,c<T.length->(Go.Proofs.YtfleamccglihoaaGreatDoor.Tr.added T p pd)[c]? =some cd->∃ed,T[c]? =some ed/\ed.lo=cd.lo/\ed.hi=cd.hi:=by
  intro c cd hc kF;rw [gR]at kF;by_cases e:c=p
  ·subst e
   rw [if_pos rfl]at kF;cases kF;exact⟨pd,hp,rfl,rfl⟩
  ·rw [if_neg e,if_neg (by omega)]at kF
   exact⟨cd,kF,rfl,rfl⟩
 have nK:∀cd,(Go.Proofs.YtfleamccglihoaaGreatDoor.Tr.added T p pd)[T.length]? =some cd->cd=⟨p,[],pd.free,pd.free+jG pd-1,pd.free⟩:=by
  intro cd kF;rw [gR,if_neg (by omega),if_pos rfl]at kF;exact(Option.some.inj kF).symm
 have aJ:∀(i:Nat) nd,T[i]? =some nd->Loc (Go.Proofs.YtfleamccglihoaaGreatDoor.Tr.added T p pd) nd:=by
  intro i nd hi;have hl:=h.loc i nd hi;have hc:=fun c hc=>(h.toShape.QZ hi (c:=c) hc).2;exact {
   Ha:=hl.Ha
   Dg:=hl.Dg
   sub:=fun c cd oX kF=>by
    obtain⟨ed,h1,h2,h3⟩:=hold c cd (hc c oX) kF;have:=hl.sub c ed oX h1;omega
   ord:=fun c c' cd wo oX o9 Bc kF rH=>by
    obtain⟨ed,h1,h2,h3⟩:=hold c cd (hc c oX) kF;obtain⟨QX,uf,vU,BQ⟩:=hold c' wo (hc c' o9) rH;have:=hl.ord c c' ed QX oX o9 Bc h1 uf;omega}
 have hs:=(wz hp).shape (h.toShape.grown hp);refine {toShape:=hs,iv:=?_,loc:=?_,root:=?_}
 ·intro i nd hi
  rw [gR]at hi;by_cases e:i=p
  ·rw [if_pos e]at hi
   cases hi;exact⟨i1,i2,i3⟩
  ·rw [if_neg e]at hi
   by_cases e2:i=T.length
   ·rw [if_pos e2]at hi
    cases hi;exact⟨by simp only;omega,by simp only;omega,by simp only;omega⟩
   ·rw [if_neg e2]at hi
    exact h.iv i nd hi
 ·intro i nd hi
  rw [gR]at hi;by_cases e:i=p
  ·rw [if_pos e]at hi
   cases hi;have kp:=aJ p pd hp;have hc:=fun c hc=>(h.toShape.QZ hp (c:=c) hc).2;exact {
    Ha:=by simp only;omega
    Dg:=hh2
    sub:=fun c cd oX kF=>by
     simp only at oX;rcases List.mem_append.1 oX with oX|oX
     ·have:=kp.sub c cd oX kF
      simp only;omega
     ·simp at oX
      subst oX;have:=nK cd kF;subst this;simp only;omega
    ord:=fun c c' cd wo oX o9 Bc kF rH=>by
     simp only at oX o9;rcases List.mem_append.1 oX with oX|oX
     ·rcases List.mem_append.1 o9 with o9|o9
      ·exact kp.ord c c' cd wo oX o9 Bc kF rH
      ·simp at o9
       subst o9;have:=nK wo rH;subst this;exact(kp.sub c cd oX kF).2
     ·simp at oX
      rcases List.mem_append.1 o9 with o9|o9
      ·have:=hc c' o9
       omega
      ·simp at o9
       omega}
  ·rw [if_neg e]at hi
   by_cases e2:i=T.length
   ·rw [if_pos e2]at hi
    cases hi;exact⟨by simp only;omega,by simp only;omega,fun c cd hc=>by simp at hc,fun c c' cd wo hc=>by simp at hc⟩
   ·rw [if_neg e2]at hi
    exact aJ i nd hi
 ·intro nd hi
  obtain⟨ed,h1,h2,h3⟩:=hold 0 nd h.toShape.pos hi;have:=h.root ed h1;omega
theorem xy.Jq(h:xy T)(hp:T[p]? =some pd){m i:Nat}{T':List Nd}{q:List Nat}(hu:kY (b9 (grown T p pd)) p m)
 (hO:oA (b9 (grown T p pd)) (grown T p pd) m T' q i) (hq:q.length<=i):xy T':=by
 have dg:p<T.length:=(lgeS hp).1;have gR:=jP hp;have hS:=h.toShape.grown hp;have hP:=hS.par;have hold:∀(c:Nat) cd,c<T.length->(grown T p pd)[c]? =some cd->∃ed,T[c]? =some ed/\ed.lo=cd.lo/\ed.hi=cd.hi:=by
  intro c cd hc kF;rw [gR]at kF;by_cases e:c=p
  ·subst e
   rw [if_pos rfl]at kF;cases kF;exact⟨pd,hp,rfl,rfl⟩
  ·rw [if_neg e,if_neg (by omega)]at kF
   exact⟨cd,kF,rfl,rfl⟩
 have RK:(b9 (grown T p pd))[T.length]? =some (p:Int):=by
  rw [mT hp,List.getElem?_append_right (by rw [fi];exact Nat.le_refl _)];simp [fi]
 have hZ:=oA.fin hS hO hq (fun y nd hy hn=>by
  rw [gR]at hy;have e:y≠p:=fun e=>hn (e▸hu);rw [if_neg e]at hy;have e2:y≠T.length:=fun e=>hn (e▸ .step RK hu);rw [if_neg e2]at hy;refine⟨h.iv y nd hy,?_⟩;have hl:=h.loc y nd hy;have hc:=fun c hc=>(h.toShape.QZ hy (c:=c) hc).2;exact {
   Ha:=hl.Ha
   Dg:=hl.Dg
   sub:=fun c cd oX kF=>by
    obtain⟨ed,h1,h2,h3⟩:=hold c cd (hc c oX) kF;have:=hl.sub c ed oX h1;omega
   ord:=fun c c' cd wo oX o9 Bc kF rH=>by
    obtain⟨ed,h1,h2,h3⟩:=hold c cd (hc c oX) kF;obtain⟨QX,uf,vU,BQ⟩:=hold c' wo (hc c' o9) rH;have:=hl.ord c c' ed QX oX o9 Bc h1 uf;omega})
 refine {toGood:=hZ,root:=fun nd hi=>?_};obtain⟨gd,hgd,_⟩:=hO.oG.back hi;obtain⟨ed,h1,h2,h3⟩:=hold 0 gd h.toShape.pos hgd;have hr:=h.root ed h1;by_cases hm:0∈q
 ·have:=(hO.pz 0 hm).le hP
  have RN:m=0:=by omega
  subst RN;have:=hO.top gd nd hgd hi;omega
 ·rw [hO.rest 0 hm,hgd]at hi
  cases hi;omega
end
section
variable{w:World}{S:Nat->Prop}{g:Nat}{T:List Nd}{d:Int}{K:Value->World->Prop}
theorem Hv(h:pD w S g T d)(hF:xy T){p:Nat}(hp:p<T.length)(hlen:T.length<=900000)(hd:0<=d/\d<=900000)
 (hK:∀w' S' T' d',pD w' S' g T' d'->xy T'->b9 T'=b9 T++ [(p:Int)]->d<=d'/\d'<=d+1->Kept S w w'->(∀k,S' k->S k\/w.heap.size<=k)->K (.tuple #[.int .i64 T.length,.int .i64 0]) w'):
 bD prog gU.id #[.pointer (some ⟨g,0,none⟩),.int .i64 p] w K:=by
 obtain⟨pd,yV⟩:=gE hp;have Pp:=hF.iv p pd yV;have i1:=Pp.ZA;have i2:=Pp.le;have i3:=Pp.top;have lp:=hF.loc p pd yV;have l1:=lp.Ha;have l2:=lp.Dg;have pf:pd.ch.length<=T.length:=by
  rw [hF.ch p pd yV];have:=AI (b9 T) p
  rwa [fi]at this
 refine uT h yV (by omega) (by omega) (by omega) l2 i3 (fun ub w' S' h' k' f'=>?_) (fun afC w' S' h' k' f'=>?_)
 ·exact hK w' S' _ d h' (hF.added yV ub) (by rw [(wz yV).b9,mT yV]) ⟨by omega,by omega⟩ k' f'
 ·have hS:=hF.toShape.grown yV
  have gR:=jP yV;have mz:=hS.par;refine Ff h' hS (by rw [yf];omega) (by rw [yf];omega) ⟨hd.1,by omega⟩ (fun nd hi=>?_) (fun y nd hy hu=>?_) (fun w2 T2 m q i h2 hu hO hq k2=>⟨rfl,?_⟩)
  ·rw [gR]at hi
   by_cases e:0=p
   ·rw [if_pos e]at hi
    cases hi;exact hF.root pd (by rw [e];exact yV)
   ·rw [if_neg e,if_neg (by omega)]at hi
    exact hF.root nd hi
  ·have:=hu.le mz
   rw [gR]at hy;by_cases e:y=p
   ·rw [if_pos e]at hy
    cases hy;exact⟨i1,i2,i3⟩
   ·rw [if_neg e,if_neg (by omega)]at hy
    exact hF.iv y nd hy
  ·refine hK w2 S' T2 (d+1) h2 (hF.Jq yV hu hO hq) (by rw [hO.oG.b9,mT yV]) ⟨by omega,by omega⟩ ?_ f'
   exact k'.trans k2 (fun k hk hs=>by
    rcases f' k hs with h|h
    ·exact h
    ·omega)
end
def zs(l:List Int):List Value:=l.map fun x=>.int .i64 x
section
variable{w w':World}{S S':Nat->Prop}{h:Nat}{P:List Int}{b c:Nat}{K:Value->World->Prop}
end
def jt(P:List Int)(n i:Nat):List Nat:=(List.range i).filter fun j=>P[j]? ==some (n:Int)
section
variable{w w':World}{S S':Nat->Prop}{h:Nat}{P:List Int}{b c:Nat}{K:Value->World->Prop}
end
section
variable{w w':World}{S S':Nat->Prop}{g:Nat}{T:List Nd}{d:Int}{K:Value->World->Prop}
end
end Go.Proofs.YtfleamccglihoaaGreatDoor.Tr
