import Derived.Test.YtfleamccglihoaaGreatDoorMA
import Derived.Test.YtfleamccglihoaaGreatDoorMD
import Derived.Laws.OwnMore
import Derived.Test.YtfleamccglihoaaGreatDoorMG
import Derived.Laws.Bits64b
open Go.IntKind (i64 u64)
set_option linter.unusedVariables false
namespace Go.Proofs.YtfleamccglihoaaGreatDoor.Tr
open Go.Proofs.Tryz
open Go Go.b0 Go.RowKit
structure Nd where
 parent:Int
 ch:List Nat
 lo:Int
 hi:Int
 free:Int
def jR(nd:Nd)(v:Value):List Value:= [.int .i64 nd.parent,v,.int .u64 nd.lo,.int .u64 nd.hi,.int .u64 nd.free]
def pq(L:List (Nd×Value)):List Value:=L.flatMap fun p=>jR p.1 p.2
def ints(l:List Nat):List Value:=l.map fun x:Nat=>.int .i64 (x:Int)
theorem uv(L:List (Nd×Value)):(pq L).length=L.length*5:=by
 induction L with
 |nil=>rfl
 |cons p L ih=>simp only [pq,List.flatMap_cons,List.length_append,List.length_cons]at*;rw [ih];simp [jR];omega
theorem Jp{L:List (Nd×Value)}{i:Nat}{p:Nd×Value}(h:L[i]? =some p){j:Nat}(hj:j<5):(pq L)[i*5+j]? =(jR p.1 p.2)[j]? :=by
 induction L generalizing i with
 |nil=>simp at h
 |cons q L ih=>
  have hq:(jR q.1 q.2).length=5:=rfl;cases i with
  |zero=>
   simp at h;subst h;simp only [pq,List.flatMap_cons];rw [Nat.zero_mul,Nat.zero_add,List.getElem?_append_left (by omega)]
  |succ i=>
   simp at h;have:=ih h;simp only [pq,List.flatMap_cons]at*;rw [List.getElem?_append_right (by omega),hq,<-this]
   congr 1
   omega
theorem Bu{L:List (Nd×Value)}{i:Nat}{p p':Nd×Value}(h:L[i]? =some p){j:Nat}(hj:j<5){v:Value}(hp:jR p'.1 p'.2=(jR p.1 p.2).set j v):
 (pq L).set (i*5+j) v=pq (L.set i p'):=by
 induction L generalizing i with
 |nil=>simp at h
 |cons q L ih=>
  have hq:(jR q.1 q.2).length=5:=rfl;cases i with
  |zero=>
   simp at h;subst h;simp only [pq,List.flatMap_cons,List.set_cons_zero];rw [Nat.zero_mul,Nat.zero_add,List.set_append_left _ _ (by omega),hp]
  |succ i=>
   simp at h;have:=ih h;simp only [pq,List.flatMap_cons,List.set_cons_succ]at*;rw [List.set_append_right _ _ (by omega),hq,<-this]
   congr 2
   omega
structure Xo(w:World)(S:Nat->Prop)(p:Nd×Value)(A:Option Addr)(m:Nat):Prop where
 val:p.2=.slice A p.1.ch.length m
 row:Row w 0 im 1 A p.1.ch.length m (ints p.1.ch)
 kX:∀k,bH A=some k->S k
structure TV(w:World)(S:Nat->Prop)(g:Nat)(T:List Nd)(d:Int)(b c:Nat)(L:List (Nd×Value)):Prop where
 top:w.heap[g]? =some (.cells #[.slice (some ⟨b,0,none⟩) T.length c,.int .i64 d] uz (0,0))
 fst:L.map Prod.fst=T
 row:Row w 0 jN 5 (some ⟨b,0,none⟩) T.length c (pq L)
 rv:∀(i:Nat) (p:Nd×Value),L[i]? =some p->∃A m,Xo w S p A m
 apart:∀(i j:Nat) (p q:Nd×Value),L[i]? =some p->L[j]? =some q->i≠j->∀k,Value.ownBlock p.2=some k->Value.ownBlock q.2≠some k
 iU:S g
 gQ:S b
def pF(w:World)(S:Nat->Prop)(g:Nat)(T:List Nd)(d:Int):Prop:=∃b c L,TV w S g T d b c L
section
variable{w w':World}{S S':Nat->Prop}{g:Nat}{T:List Nd}{d:Int}{b c:Nat}{L:List (Nd×Value)}
theorem TV.at_(h:TV w S g T d b c L){i:Nat}{nd:Nd}(hi:T[i]? =some nd):∃v,L[i]? =some (nd,v):=by
 rw [<-h.fst,List.getElem?_map]at hi;cases hL:L[i]? with
 |none=>simp [hL]at hi
 |some p=>
  rw [hL]at hi;simp at hi;exact⟨p.2,by rw [<-hi]⟩
theorem TV.nodes(h:TV w S g T d b c L):w.cell? ⟨g,0,none⟩=some (.slice (some ⟨b,0,none⟩) T.length c):=by rw [aE h.top];rfl
theorem TV.Js(h:TV w S g T d b c L):w.cell? ⟨g,1,none⟩=some (.int .i64 d):=by rw [aE h.top];rfl
theorem TV.cell(h:TV w S g T d b c L){i:Nat}{p:Nd×Value}(hi:L[i]? =some p){j:Nat}{v:Value}(hj:j<5)(hv:(jR p.1 p.2)[j]? =some v):w.cell? ⟨b,i*5+j,none⟩=some v:=
 Row.cell h.row (by rw [Jp hi hj,hv])
theorem TV.gb(h:TV w S g T d b c L):g≠b:=by
 rintro rfl;obtain⟨_,cur,hc⟩:=Row.bV h.row (k:=g) rfl;rw [h.top]at hc;injection hc with hc;injection hc with _ ht;exact absurd ht (by decide)
theorem Xo.ne{p:Nd×Value}{A:Option Addr}{m:Nat}(h:Xo w S p A m){k:Nat}{cs:Array Value}{t:TypeId}(hk:w.heap[k]? =some (.cells cs t (0,0)))(ht:t≠im):bH A≠some k:=by
 intro e;obtain⟨_,cur,hc⟩:=Row.bV h.row e;rw [hk]at hc;injection hc with hc;injection hc with _ h2;exact ht h2
theorem TV.wE(h:TV w S g T d b c L):∃cur,w.heap[b]? =some (.cells cur jN (0,0)):=(Row.bV h.row rfl).2
theorem TV.aK{S0:Nat->Prop}(h:TV w S g T d b c L)(hk:Kept S0 w w')(hn:∀k,S k->¬S0 k):TV w' S g T d b c L:= {
 top:=hk.heap h.top (hn g h.iU)
 fst:=h.fst
 row:=Row.aK h.row hk (fun k e=>by cases e;exact hn b h.gQ)
 rv:=fun i p hp=>let ⟨A,m,h1⟩:=h.rv i p hp;⟨A,m,h1.val,Row.aK h1.row hk (fun k e=>hn k (h1.kX k e)),h1.kX⟩
 apart:=h.apart
 iU:=h.iU
 gQ:=h.gQ}
theorem pF.aK{S0:Nat->Prop}(h:pF w S g T d)(hk:Kept S0 w w')(hn:∀k,S k->¬S0 k):pF w' S g T d:=
 let ⟨b,c,L,h⟩:=h;⟨b,c,L,h.aK hk hn⟩
theorem pF.same(h:pF w S g T d)(hk:Kept Nil w w'):pF w' S g T d:=h.aK hk fun _ _ h=>h
theorem TV.lt(h:TV w S g T d b c L):g<w.heap.size:=bf h.top
theorem TV.vi(h:TV w S g T d b c L){i:Nat}{nd nd':Nd}{v:Value}(hi:L[i]? =some (nd,v)){j:Nat}(hj:j<5){u:Value}
 (hc:jR nd' v=(jR nd v).set j u) (po:nd'.ch=nd.ch):
 Wr w ⟨b,i*5+j,none⟩/\TV (w.setCell ⟨b,i*5+j,none⟩ u) S g (T.set i nd') d b c (L.set i (nd',v)):=by
 have dW:i<L.length:=(lgeS hi).1;have di:i*5+j<(pq L).length:=by rw [uv];omega
 refine⟨Row.wr h.row di,?_⟩;have fO:=Row.set h.row di u;rw [Bu hi hj (p':=(nd',v)) hc]at fO;have hK:Kept (fun k=>k=b) w (w.setCell ⟨b,i*5+j,none⟩ u):=(Kept.refl (fun k=>k=b) w).setCell (p:=⟨b,i*5+j,none⟩) (fun _=>rfl) u;have gX:∀(k:Nat) (p:Nd×Value),(L.set i (nd',v))[k]? =some p->∃q,L[k]? =some q/\q.2=p.2/\q.1.ch=p.1.ch:=by
  intro k p hp;rw [List.getElem?_set]at hp;by_cases e:i=k
  ·subst e
   rw [if_pos rfl,if_pos dW]at hp;cases hp;exact⟨_,hi,rfl,po.symm⟩
  ·rw [if_neg e]at hp
   exact⟨p,hp,rfl,rfl⟩
 exact {
  top:=by rw [List.length_set];exact hK.heap h.top h.gb
  fst:=by rw [List.map_set,h.fst]
  row:=by rw [List.length_set];exact fO
  rv:=fun k p hp=>by
   obtain⟨q,hq,h1,h2⟩:=gX k p hp;obtain⟨A,m,hk⟩:=h.rv k q hq;obtain⟨cur,hb⟩:=h.wE;refine⟨A,m,by rw [<-h1,<-h2];exact hk.val,?_,hk.kX⟩;rw [<-h2];exact Row.aK hk.row hK (fun k e e2=>hk.ne hb (by decide) (by rw [e,e2]))
  apart:=fun k l p q hp hq CY=>by
   obtain⟨p',Lu,h1,_⟩:=gX k p hp;obtain⟨q',Ba,h2,_⟩:=gX l q hq;rw [<-h1,<-h2];exact h.apart k l p' q' Lu Ba CY
  iU:=h.iU
  gQ:=h.gQ}
end
theorem pw(b x y:Nat):((⟨b,0,none⟩:Addr).add x).add y=⟨b,x+y,none⟩:=by rw [bD,bD,Nat.zero_add]
theorem mW(b x:Nat):(⟨b,0,none⟩:Addr).add x=⟨b,x,none⟩:=by rw [bD,Nat.zero_add]
section
variable{w:World}{S:Nat->Prop}{g:Nat}{T:List Nd}{d:Int}{b c:Nat}{L:List (Nd×Value)}
theorem TV.go(h:TV w S g T d b c L){k:Option Addr->Nat->Nat->Prop}(hk:k (some ⟨b,0,none⟩) T.length c):
 ∃A n m,w.cell? ((⟨g,0,none⟩:Addr).add 0)=some (.slice A n m)/\k A n m:=⟨_,_,_,by rw [mW];exact h.nodes,hk⟩
theorem TV.goD(h:TV w S g T d b c L){k:Int->Prop}(hk:k d):∃t,w.cell? ((⟨g,0,none⟩:Addr).add 1)=some (.int .i64 t)/\k t:=
 ⟨_,by rw [mW];exact h.Js,hk⟩
theorem TV.Jl(h:TV w S g T d b c L){i:Nat}{nd:Nd}{v:Value}(hi:L[i]? =some (nd,v)){k:Int->Prop}(hk:k nd.parent):
 ∃t,w.cell? (((⟨b,0,none⟩:Addr).add (i*5)).add 0)=some (.int .i64 t)/\k t:=⟨_,by rw [pw];exact h.cell hi (by omega) rfl,hk⟩
theorem TV.WT(h:TV w S g T d b c L){i:Nat}{nd:Nd}{v:Value}(hi:L[i]? =some (nd,v)){A:Option Addr}{m:Nat}(hv:v=.slice A nd.ch.length m){k:Option Addr->Nat->Nat->Prop}(hk:k A nd.ch.length m):
 ∃A n m,w.cell? (((⟨b,0,none⟩:Addr).add (i*5)).add 1)=some (.slice A n m)/\k A n m:=⟨_,_,_,by rw [pw];exact h.cell hi (by omega) (by rw [hv];rfl),hk⟩
theorem TV.wg(h:TV w S g T d b c L){i:Nat}{nd:Nd}{v:Value}(hi:L[i]? =some (nd,v)){k:Int->Prop}(hk:k nd.lo):
 ∃t,w.cell? (((⟨b,0,none⟩:Addr).add (i*5)).add 2)=some (.int .u64 t)/\k t:=⟨_,by rw [pw];exact h.cell hi (by omega) rfl,hk⟩
theorem TV.Bq(h:TV w S g T d b c L){i:Nat}{nd:Nd}{v:Value}(hi:L[i]? =some (nd,v)){k:Int->Prop}(hk:k nd.hi):
 ∃t,w.cell? (((⟨b,0,none⟩:Addr).add (i*5)).add 3)=some (.int .u64 t)/\k t:=⟨_,by rw [pw];exact h.cell hi (by omega) rfl,hk⟩
theorem TV.zf(h:TV w S g T d b c L){i:Nat}{nd:Nd}{v:Value}(hi:L[i]? =some (nd,v)){k:Int->Prop}(hk:k nd.free):
 ∃t,w.cell? (((⟨b,0,none⟩:Addr).add (i*5)).add 4)=some (.int .u64 t)/\k t:=⟨_,by rw [pw];exact h.cell hi (by omega) rfl,hk⟩
theorem TV.kept{w':World}(h:TV w S g T d b c L)(hk:Kept Nil w w'):TV w' S g T d b c L:=h.aK hk fun _ _ h=>h
end
section
variable{w:World}{S:Nat->Prop}{g:Nat}{T:List Nd}{d:Int}{K:Value->World->Prop}
theorem yC(h:pF w S g T d)(n:Int)(hK:K (.bool (decide (0<=n/\n<T.length))) w):
 bE prog ji.id #[.pointer (some ⟨g,0,none⟩),.int .i64 n] w K:=by
 obtain⟨b,c,L,h⟩:=h;refine ji.of (Split.yes rfl (Split.dec (fun h0=>h.go ?_) (fun h0=>?_)))
 ·rwa [show decide (0<=n/\n<(T.length:Int))=decide (n<(T.length:Int))from by simp [show(0:Int)<=n from h0]]at hK
 ·rwa [decide_eq_false (fun e:0<=n/\n<(T.length:Int)=>h0 e.1)]at hK
theorem Hw(h:pF w S g T d)(hT:0<T.length)(n:Int)(hK:K (.int .i64 (if 0<=n/\n<T.length then 0 else 6)) w):
 bE prog gY.id #[.pointer (some ⟨g,0,none⟩),.int .i64 n] w K:=by
 have h0:=h;obtain⟨b,c,L,h⟩:=h;refine gY.of (Split.no rfl (h.go (Split.no (beq_eq_false_iff_ne.2 (by omega)) (yC h0 n ⟨_,rfl,?_⟩))));by_cases hn:0<=n/\n<(T.length:Int)
 ·rw [if_pos hn]at hK
  exact Split.no (by simp [hn]) hK
 ·rw [if_neg hn]at hK
  exact Split.yes (by simp only [decide_eq_false hn];rfl) hK
theorem tP(h:pF w S g T d){n:Nat}(hn:n<T.length)(hK:K (.int .i64 0) w):
 bE prog gY.id #[.pointer (some ⟨g,0,none⟩),.int .i64 n] w K:=Hw h (by omega) n (by rw [if_pos ⟨by omega,by omega⟩];exact hK)
theorem Fm(h:pF w S g T d){n:Nat}{nd:Nd}(hn:T[n]? =some nd)(hK:∀w',Kept Nil w w'->K (.int .u64 (u64.wrap (nd.hi-nd.free))) w'):
 bE prog gz.id #[.pointer (some ⟨g,0,none⟩),.int .i64 n] w K:=by
 obtain⟨b,c,L,h⟩:=h;have di:n<T.length:=(lgeS hn).1;obtain⟨v,hv⟩:=h.at_ hn;refine gz.of ?_;unfold gz.W;intro w1;have k1:Kept Nil w w1:=(Kept.refl Nil w).drew;have h1:=h.kept k1;have hb:0<=(n:Int)/\(n:Int)<(T.length:Int):=⟨by omega,by omega⟩;exact h1.go ⟨hb,h1.Bq hv (h1.go ⟨hb,h1.zf hv (hK w1 k1)⟩)⟩
theorem zU(h:pF w S g T d){n:Nat}{nd:Nd}(hn:T[n]? =some nd)(h0:0<n)(hK:K (.tuple #[.int .i64 nd.parent,.int .i64 0]) w):
 bE prog fX.id #[.pointer (some ⟨g,0,none⟩),.int .i64 n] w K:=by
 have di:n<T.length:=(lgeS hn).1;refine fX.of (tP h di ⟨_,rfl,Split.yes rfl (Split.no (beq_eq_false_iff_ne.2 (by omega)) (Split.no rfl ?_))⟩);obtain⟨b,c,L,h⟩:=h;obtain⟨v,hv⟩:=h.at_ hn;exact h.go ⟨⟨by omega,by omega⟩,h.Jl hv hK⟩
theorem My:zI prog jO im 1 8:=⟨by kernel_rfl,by kernel_rfl⟩
theorem yE:zI prog jf jN 5 56:=⟨by kernel_rfl,by kernel_rfl⟩
end
theorem gh{x:Int}(h0:0<=x)(h1:x<18446744073709551616):u64.wrap x=x:=by
 simp only [IntKind.wrap,IntKind.bits,IntKind.signed];simp;omega
theorem iY{x:Int}(h0: -9223372036854775808<=x)(h1:x<9223372036854775808):i64.wrap x=x:=by
 simp only [IntKind.wrap,IntKind.bits,IntKind.signed];simp;omega
def wc(T:List Nd)(n p:Nat)(nd pd:Nd)(many:Int):List Nd:=
 (T.set n {nd with lo:=pd.free,hi:=pd.free+many-1,free:=pd.free}).set p {pd with free:=pd.free+many}
section
variable{w:World}{S:Nat->Prop}{g:Nat}{T:List Nd}{d:Int}{K:Value->World->Prop}
theorem js{α:Type}{L:List α}{i:Nat}{x y:α}(h:L[i]? =some x):(L.set i y)[i]? =some y:=by
 rw [List.getElem?_set_self (lgeS h).1]
theorem oR{α:Type}{L:List α}{i j:Nat}{x y:α}(h:L[j]? =some x)(fW:i≠j):(L.set i y)[j]? =some x:=by
 rw [List.getElem?_set_ne fW];exact h
theorem u9{b c:Nat}{L:List (Nd×Value)}(h:TV w S g T d b c L){n p:Nat}{nd pd:Nd}{many:Int}(hn:T[n]? =some nd)(hp:T[p]? =some pd)(RO:nd.parent=p)(fW:n≠p)
 (hf:0<=pd.free) (hm:1<=many) (hfm:pd.free+many<18446744073709551616)
 (hK:∀w' L',TV w' S g (wc T n p nd pd many) d b c L'->Kept (fun k=>k=b) w w'->K (.tuple #[]) w'):
 bE prog gA.id #[.pointer (some ⟨g,0,none⟩),.int .i64 n,.int .u64 many] w K:=by
 have zE:n<T.length:=(lgeS hn).1;have rT:p<T.length:=(lgeS hp).1;obtain⟨v,hv⟩:=h.at_ hn;obtain⟨u,hu⟩:=h.at_ hp;have Ys:0<=(n:Int)/\(n:Int)<(T.length:Int):=⟨by omega,by omega⟩;have NK:0<=nd.parent/\nd.parent<(T.length:Int):=by rw [RO];exact⟨by omega,by omega⟩
 refine gA.of (h.go ⟨Ys,Is.mk rfl ?_⟩);intro w7;have k7:Kept (fun k=>k=b) w w7:=(Kept.refl _ w).drew;have h7:TV w7 S g T d b c L:=h.kept (Kept.refl Nil w).drew;refine h7.go (h7.Jl hv ⟨NK,Is.mk rfl ?_⟩);rw [RO];refine h7.zf hu ?_;obtain⟨Y5,BX⟩:=h7.vi hv (j:=2) (by omega) (u:=.int .u64 pd.free) (nd':= {nd with lo:=pd.free}) rfl rfl;have kS:∀ {w w':World},Kept (fun k=>k=b) w w'->∀(j:Nat) (u:Value),Kept (fun k=>k=b) w (w'.setCell ⟨b,j,none⟩ u):=fun k j u=>k.setCell (fun _=>rfl) u;have v1:(L.set n ({nd with lo:=pd.free},v))[n]? =some ({nd with lo:=pd.free},v):=js hv;refine⟨by rw [pw];exact Y5,?_⟩;intro pC;have e13:pC=w7.setCell ⟨b,n*5+2,none⟩ (.int .u64 pd.free):=by simp only [pC,pw,Int.toNat_natCast]
 have CD:Kept (fun k=>k=b) w pC:=by rw [e13];exact kS k7 _ _
 rw [<-e13]at BX;clear_value pC;refine BX.wg v1 ?_;obtain⟨wr2,GA⟩:=BX.vi v1 (j:=3) (by omega) (u:=.int .u64 (u64.wrap (u64.wrap (pd.free+many)-1))) (nd':= {nd with lo:=pd.free,hi:=pd.free+many-1}) (by rw [gh (x:=pd.free+many) (by omega) (by omega),gh (by omega) (by omega)];rfl) rfl;refine⟨by rw [pw];exact wr2,?_⟩;intro nW;have e15:nW=pC.setCell ⟨b,n*5+3,none⟩ (.int .u64 (u64.wrap (u64.wrap (pd.free+many)-1))):=by simp only [nW,pw,Int.toNat_natCast]
 have uc:Kept (fun k=>k=b) w nW:=by rw [e15];exact kS CD _ _
 rw [<-e15]at GA;clear_value nW;rw [List.set_set,List.set_set]at GA;have v2:(L.set n ({nd with lo:=pd.free,hi:=pd.free+many-1},v))[n]? =some ({nd with lo:=pd.free,hi:=pd.free+many-1},v):=js hv;refine GA.wg v2 ?_;obtain⟨Y4,Kl⟩:=GA.vi v2 (j:=4) (by omega) (u:=.int .u64 pd.free) (nd':= {nd with lo:=pd.free,hi:=pd.free+many-1,free:=pd.free}) rfl rfl;refine⟨by rw [pw];exact Y4,?_⟩;intro xF;have e17:xF=nW.setCell ⟨b,n*5+4,none⟩ (.int .u64 pd.free):=by simp only [xF,pw,Int.toNat_natCast]
 have Ih:Kept (fun k=>k=b) w xF:=by rw [e17];exact kS uc _ _
 rw [<-e17]at Kl;clear_value xF;rw [List.set_set,List.set_set]at Kl;have u3:(L.set n ({nd with lo:=pd.free,hi:=pd.free+many-1,free:=pd.free},v))[p]? =some (pd,u):=oR hu fW;refine Kl.zf u3 ?_;obtain⟨wr4,WO⟩:=Kl.vi u3 (j:=4) (by omega) (u:=.int .u64 (u64.wrap (pd.free+many))) (nd':= {pd with free:=pd.free+many}) (by rw [gh (by omega) (by omega)];rfl) rfl;refine⟨by rw [pw];exact wr4,?_⟩;intro pB;have e19:pB=xF.setCell ⟨b,p*5+4,none⟩ (.int .u64 (u64.wrap (pd.free+many))):=by simp only [pB,pw,Int.toNat_natCast]
 exact hK pB _ (by rw [e19];exact WO) (by rw [e19];exact kS Ih _ _)
theorem Fo(h:pF w S g T d){n p:Nat}{nd pd:Nd}{many:Int}(hn:T[n]? =some nd)(hp:T[p]? =some pd)(RO:nd.parent=p)(fW:n≠p)
 (hf:0<=pd.free) (hm:1<=many) (hfm:pd.free+many<18446744073709551616)
 (hK:∀w',pF w' S g (wc T n p nd pd many) d->Kept S w w'->K (.tuple #[]) w'):
 bE prog gA.id #[.pointer (some ⟨g,0,none⟩),.int .i64 n,.int .u64 many] w K:=by
 obtain⟨b,c,L,h⟩:=h;exact u9 h hn hp RO fW hf hm hfm fun w' L' h' k'=>hK w' ⟨b,c,L',h'⟩ (k'.mono fun k _ e=>by rw [e];exact h.gQ)
end
section
variable{w:World}{S:Nat->Prop}{g:Nat}{T:List Nd}{d:Int}{b c:Nat}{L:List (Nd×Value)}
theorem Bw(L M:List (Nd×Value)):pq (L++M)=pq L++pq M:=by simp [pq]
theorem TV.Jk(h:TV w S g T d b c L)(mF:T.length<=1000000)(p:Int){w10:World}
 (e10:w10=w.alloc (.cells #[.int .i64 p,.slice none 0 0,.int .u64 0,.int .u64 0,.int .u64 0] jN)):
 ∃A c' nx,(Builtin.append_ #[jf,jf] jf #[.slice (some ⟨b,0,none⟩) T.length c,.slice (some ⟨w.heap.size,0,none⟩) 1 1]).run prog w10=.ok (.slice A (T.length+1) c') nx/\
  Wr nx ⟨g,0,none⟩/\∃b' S' L',TV (nx.setCell ⟨g,0,none⟩ (.slice A (T.length+1) c')) S' g (T++ [⟨p,[],0,0,0⟩]) d b' c' L'/\(∀(i:Nat) q,L[i]? =some q->L'[i]? =some q)/\
   Kept S w (nx.setCell ⟨g,0,none⟩ (.slice A (T.length+1) c'))/\(∀k,S k->S' k)/\(∀k,S' k->S k\/w.heap.size<=k):=by
 subst e10;generalize PH:w.alloc (.cells #[.int .i64 p,.slice none 0 0,.int .u64 0,.int .u64 0,.int .u64 0] jN)=w10;have nP:w10.heap[w.heap.size]? =some (.cells #[.int .i64 p,.slice none 0 0,.int .u64 0,.int .u64 0,.int .u64 0] jN (0,0)):=by rw [<-PH];exact aM w _
 have rR:Kept Nil w w10:=by rw [<-PH];exact(Kept.refl Nil w).alloc _
 have Lm:w10.heap.size=w.heap.size+1:=by rw [<-PH];simp
 have uW:=h.kept rR;obtain⟨A,c',nx,hr,fO,hg,C6⟩:=fY (P:=prog) (t:=jf) (ty:=jf) yE uW.row (a:=⟨w.heap.size,0,none⟩) (m:=1) (cx:=1)
  (news:=jR ⟨p,[],0,0,0⟩ (.slice none 0 0)) rfl (fun j u hj=>by rw [mW,aE nP];simpa [jR]using hj) (by intro u hu;simp [jR]at hu;rcases hu with rfl|rfl|rfl|rfl|rfl<;>rfl)
  (by omega) (by unfold maxLen;omega) (Nat.zero_le _)
 obtain⟨b',rfl⟩:=Row.some fO (by omega);have kb:Kept (fun k=>k=b) w10 nx:=(Kept.refl _ w10).grown hg (fun k hk _=>by cases hk;rfl);have jJ:nx.heap[g]? =some (.cells #[.slice (some ⟨b,0,none⟩) T.length c,.int .i64 d] uz (0,0)):=kb.heap uW.top h.gb;refine⟨_,c',nx,hr,dP jJ (show 0<2 by omega),?_⟩;generalize TT:nx.setCell ⟨g,0,none⟩ (.slice (some ⟨b',0,none⟩) (T.length+1) c')=wf;have kg:Kept (fun k=>k=g) nx wf:=by rw [<-TT];exact(Kept.refl (fun k=>k=g) nx).setCell (p:=⟨g,0,none⟩) (fun _=>rfl) _
 have uI:b'=b\/w10.heap.size<=b':=by
  rcases C6 b' rfl with h|h
  ·left;cases h;rfl
  ·exact .inr h
 have acw:b'≠g:=by
  rintro rfl;obtain⟨_,cur,hc⟩:=Row.bV fO (k:=b') rfl;rw [jJ]at hc;injection hc with hc;injection hc with _ ht;exact absurd ht (by decide)
 have Gs:∀(i:Nat) (q:Nd×Value),L[i]? =some q->∃A m,Xo wf S q A m:=by
  intro i q hq;obtain⟨A,m,hk⟩:=uW.rv i q hq;obtain⟨cur,RW⟩:=uW.wE;have r1:=Row.aK hk.row kb (fun k e e2=>hk.ne RW (by decide) (by rw [e,e2]));have r2:=Row.aK r1 kg (fun k e e2=>hk.ne uW.top (by decide) (by rw [e,e2]));exact⟨A,m,hk.val,r2,hk.kX⟩
 refine⟨b',fun k=>S k\/k=b',L++ [(⟨p,[],0,0,0⟩,.slice none 0 0)],?_,fun i q hq=>?_,?_,fun k hk=>.inl hk,?_⟩
 ·exact {
   top:=by
    have:=du jJ 0 (.slice (some ⟨b',0,none⟩) (T.length+1) c');rw [TT]at this;simpa using this
   fst:=by simp [h.fst]
   row:=by
    rw [Bw,List.length_append];have:=Row.aK fO kg (fun k e e2=>acw (by cases e;exact e2));simpa [pq]using this
   rv:=fun i q hq=>by
    rw [List.getElem?_append]at hq;split at hq
    ·obtain⟨A,m,hk⟩:=Gs i q hq
     exact⟨A,m,hk.val,hk.row,fun k e=>.inl (hk.kX k e)⟩
    ·rename_i di
     have:i-L.length=0:=by
      rcases Nat.eq_zero_or_pos (i-L.length)with h|h
      ·exact h
      ·rw [List.getElem?_eq_none (by simp;omega)]at hq;cases hq
     rw [this]at hq;simp at hq;subst hq;exact⟨none,0,rfl,Row.nil _ _ _ _,fun k e=>by cases e⟩
   apart:=fun i j q q' hq Ba sH k hk o6=>by
    rw [List.getElem?_append]at hq Ba;have last:∀(x:Nat) (r:Nd×Value),[((⟨p,[],0,0,0⟩:Nd),Value.slice none 0 0)][x]? =some r->r.2=.slice none 0 0:=by
     intro x r hr;cases x with
     |zero=>simp at hr;subst hr;rfl
     |succ x=>simp at hr
    split at hq<;>split at Ba
    ·exact h.apart i j q q' hq Ba sH k hk o6
    ·rw [last _ _ Ba]at o6;cases o6
    ·rw [last _ _ hq]at hk;cases hk
    ·rw [last _ _ Ba]at o6;cases o6
   iU:=.inl h.iU
   gQ:=.inr rfl}
 ·rw [List.getElem?_append_left (lgeS hq).1];exact hq
 ·have zy:Kept S w nx:=(rR.mono (S':=S) (fun _ _ h=>h.elim)).trans kb (fun k _ e=>by rw [e];exact h.gQ)
  exact zy.trans kg (fun k _ e=>by rw [e];exact h.iU)
 ·rintro k (hk|rfl)
  ·exact .inl hk
  ·rcases uI with rfl|uI
   ·exact .inl h.gQ
   ·right;omega
theorem TV.L9(h:TV w S g T d b c L){p:Nat}{nd:Nd}{v:Value}(hp:L[p]? =some (nd,v)){A:Option Addr}{m:Nat}(hk:Xo w S (nd,v) A m)(mF:nd.ch.length<=1000000)(n:Nat){w22:World}
 (e22:w22=w.alloc (.cells #[.int .i64 n] im)):
 ∃A' c' mC,(Builtin.append_ #[jO,jO] jO #[.slice A nd.ch.length m,.slice (some ⟨w.heap.size,0,none⟩) 1 1]).run prog w22=.ok (.slice A' (nd.ch.length+1) c') mC/\
  mC.cell? ⟨g,0,none⟩=some (.slice (some ⟨b,0,none⟩) T.length c)/\Wr mC ⟨b,p*5+1,none⟩/\
  ∃S' L',TV (mC.setCell ⟨b,p*5+1,none⟩ (.slice A' (nd.ch.length+1) c')) S' g (T.set p {nd with ch:=nd.ch++ [n]}) d b c L'/\
   Kept S w (mC.setCell ⟨b,p*5+1,none⟩ (.slice A' (nd.ch.length+1) c'))/\(∀k,S k->S' k)/\(∀k,S' k->S k\/w.heap.size<=k):=by
 subst e22;generalize PF:w.alloc (.cells #[.int .i64 n] im)=w22;have nP:w22.heap[w.heap.size]? =some (.cells #[.int .i64 n] im (0,0)):=by rw [<-PF];exact aM w _
 have TE:Kept Nil w w22:=by rw [<-PF];exact(Kept.refl Nil w).alloc _
 have aiI:w22.heap.size=w.heap.size+1:=by rw [<-PF];simp
 have Db:=h.kept TE;have PT:=Row.aK hk.row TE (fun _ _ h=>h);have rT:p<L.length:=(lgeS hp).1;obtain⟨A',c',mC,hr,fO,hg,C6⟩:=fY (P:=prog) (t:=jO) (ty:=jO) My PT (a:=⟨w.heap.size,0,none⟩) (m:=1) (cx:=1)
  (news:=ints [n]) rfl (fun j u hj=>by rw [mW,aE nP];simpa [ints]using hj) (by intro u hu;simp [ints]at hu;subst hu;rfl)
  (by simp only;omega) (by unfold maxLen;simp only;omega) (Nat.zero_le _)
 obtain⟨cur,RW⟩:=Db.wE;obtain⟨ak7,hb0⟩:=h.wE;have Ny:bH A≠some b:=hk.ne hb0 (by decide);have hkg:bH A≠some g:=hk.ne h.top (by decide);have kA:Kept (fun k=>bH A=some k) w22 mC:=(Kept.refl _ w22).grown hg (fun k hk _=>hk);have Jj:Row mC 0 jN 5 (some ⟨b,0,none⟩) T.length c (pq L):=Row.aK Db.row kA (fun k e e2=>Ny (by rw [e2,<-e];rfl));have Ji:=kA.heap Db.top (fun e=>hkg e);have di:p*5+1<(pq L).length:=by rw [uv];omega
 refine⟨A',c',mC,hr,by rw [aE Ji];rfl,Row.wr Jj di,?_⟩;generalize TT:mC.setCell ⟨b,p*5+1,none⟩ (.slice A' (nd.ch.length+1) c')=wf;have kB:Kept (fun k=>k=b) mC wf:=by rw [<-TT];exact(Kept.refl (fun k=>k=b) mC).setCell (p:=⟨b,p*5+1,none⟩) (fun _=>rfl) _
 have ac5:bH A'≠some b:=by
  intro e;obtain⟨_,W5,hc⟩:=Row.bV fO e;have:=kA.heap RW Ny;rw [this]at hc;injection hc with hc;injection hc with _ ht;exact absurd ht (by decide)
 have vT:∀(A:Option Addr) n m,Value.ownBlock (.slice A n m)=bH A:=by intro A n m;cases A<;>rfl
 have gX:∀(i:Nat) (q:Nd×Value),(L.set p ({nd with ch:=nd.ch++ [n]},.slice A' (nd.ch.length+1) c'))[i]? =some q->(i=p/\q=({nd with ch:=nd.ch++ [n]},.slice A' (nd.ch.length+1) c'))\/(i≠p/\L[i]? =some q):=by
  intro i q hq;by_cases e:p=i
  ·subst e
   rw [List.getElem?_set_self rT]at hq;cases hq;exact .inl ⟨rfl,rfl⟩
  ·rw [List.getElem?_set_ne e]at hq
   exact .inr ⟨fun h=>e h.symm,hq⟩
 have Nr:∀k,bH A'=some k->∀(i:Nat) (q:Nd×Value),i≠p->L[i]? =some q->Value.ownBlock q.2≠some k:=by
  intro k o6 i q hi hq hqk;rcases C6 k o6 with e|e
  ·exact h.apart p i _ _ hp hq (fun e=>hi e.symm) k (by rw [hk.val,vT];exact e) hqk
  ·obtain⟨A2,m2,oZ⟩:=h.rv i q hq
   rw [oZ.val,vT]at hqk;obtain⟨_,ak6,I1⟩:=Row.bV oZ.row hqk;have:=bf I1;omega
 refine⟨fun k=>S k\/bH A'=some k,L.set p ({nd with ch:=nd.ch++ [n]},.slice A' (nd.ch.length+1) c'),?_,?_,fun k hk=>.inl hk,?_⟩
 ·exact {
   top:=by rw [List.length_set];exact kB.heap Ji h.gb
   fst:=by rw [List.map_set,h.fst]
   row:=by
    rw [List.length_set];have:=Row.set Jj di (.slice A' (nd.ch.length+1) c');rw [TT,Bu hp (j:=1) (by omega) (p':=({nd with ch:=nd.ch++ [n]},.slice A' (nd.ch.length+1) c')) rfl]at this;exact this
   rv:=fun i q hq=>by
    rcases gX i q hq with⟨rfl,rfl⟩|⟨hi,hq⟩
    ·refine⟨A',c',by simp,?_,fun k e=>.inr e⟩
     have:=Row.aK fO kB (fun k e e2=>ac5 (by rw [e,e2]));simpa [ints]using this
    ·obtain⟨A2,m2,oZ⟩:=Db.rv i q hq
     have r1:=Row.aK oZ.row kA (fun k e e2=>h.apart p i _ _ hp hq (fun e=>hi e.symm) k (by rw [hk.val,vT];exact e2) (by rw [oZ.val,vT];exact e));have r2:=Row.aK r1 kB (fun k e e2=>oZ.ne RW (by decide) (by rw [e,e2]));exact⟨A2,m2,oZ.val,r2,fun k e=>.inl (oZ.kX k e)⟩
   apart:=fun i j q q' hq Ba sH k Kg oZ=>by
    rcases gX i q hq with⟨e1,e2⟩|⟨hi,Nk⟩<;>rcases gX j q' Ba with⟨e3,e4⟩|⟨hj,RL⟩
    ·exact sH (e1.trans e3.symm)
    ·rw [e2,vT]at Kg;exact Nr k Kg j q' hj RL oZ
    ·rw [e4,vT]at oZ;exact Nr k oZ i q hi Nk Kg
    ·exact h.apart i j q q' Nk RL sH k Kg oZ
   iU:=.inl h.iU
   gQ:=.inl h.gQ}
 ·have rQ:Kept S w mC:=(TE.mono (S':=S) (fun _ _ h=>h.elim)).trans kA (fun k _ e=>hk.kX k e)
  exact rQ.trans kB (fun k _ e=>by rw [e];exact h.gQ)
 ·rintro k (o6|o6)
  ·exact .inl o6
  ·rcases C6 k o6 with e|e
   ·exact .inl (hk.kX k e)
   ·right;omega
end
def grown(T:List Nd)(p:Nat)(pd:Nd):List Nd:=(T++ [(⟨p,[],0,0,0⟩:Nd)]).set p {pd with ch:=pd.ch++ [T.length]}
def jK(pd:Nd):Int:=(pd.hi-pd.free+1)/2
def added(T:List Nd)(p:Nat)(pd:Nd):List Nd:=wc (grown T p pd) T.length p ⟨p,[],0,0,0⟩ {pd with ch:=pd.ch++ [T.length]} (jK pd)
section
variable{w:World}{S:Nat->Prop}{g:Nat}{T:List Nd}{d:Int}{K:Value->World->Prop}
theorem vc(h:pF w S g T d){p:Nat}{pd:Nd}(hp:T[p]? =some pd)(mF:T.length<=1000000)(po:pd.ch.length<=1000000)
 (hf:0<=pd.free) (hfh:pd.free<=pd.hi) (hh:pd.hi<=4611686018427387904)
 (hK1:pd.free<pd.hi->∀w' S',pF w' S' g (added T p pd) d->Kept S w w'->(∀k,S' k->S k\/w.heap.size<=k)->K (.tuple #[.int .i64 T.length,.int .i64 0]) w')
 (hK2:pd.free=pd.hi->∀w' S',pF w' S' g (grown T p pd) d->Kept S w w'->(∀k,S' k->S k\/w.heap.size<=k)->
   bE prog aA.id #[.pointer (some ⟨g,0,none⟩),.int .i64 p] w' fun v mD=>v=.tuple #[]/\K (.tuple #[.int .i64 T.length,.int .i64 0]) mD):
 bE prog gZ.id #[.pointer (some ⟨g,0,none⟩),.int .i64 p] w K:=by
 have di:p<T.length:=(lgeS hp).1;refine gZ.of (tP h di ⟨_,rfl,Split.no rfl ?_⟩);obtain⟨b,c,L,h⟩:=h;obtain⟨v,hv⟩:=h.at_ hp;refine h.go (h.go ⟨rfl,?_⟩);intro w10;obtain⟨A1,c1,nx,nD,Y5,b1,S1,L1,YD,hL1,JX,hS1,Wz⟩:=h.Jk mF (p:Int) (w10:=w10) rfl;refine⟨A1,_,c1,nx,nD,by rw [mW];exact Y5,?_⟩;intro jh;have e14:jh=nx.setCell ⟨g,0,none⟩ (.slice A1 (T.length+1) c1):=by simp only [jh,mW]
 rw [<-e14]at YD JX;clear_value jh;intro nW;have uc:Kept Nil jh nW:=(Kept.refl Nil jh).drew;have GA:=YD.kept uc;have Ka:=hL1 _ _ hv;have hlen:(T++ [(⟨p,[],0,0,0⟩:Nd)]).length=T.length+1:=by simp
 have NQ:0<=(p:Int)/\(p:Int)<((T++ [(⟨p,[],0,0,0⟩:Nd)]).length:Int):=by rw [hlen];exact⟨by omega,by omega⟩
 obtain⟨A2,m2,hk⟩:=GA.rv _ _ Ka;refine GA.go (GA.go ⟨NQ,GA.WT Ka hk.val ?_⟩);intro w22;have TE:Kept Nil nW w22:=(Kept.refl Nil nW).alloc _;have Db:=GA.kept TE;obtain⟨A3,c3,mC,yZ,UO,Y4,S3,L3,YC,Ge,hS3,acI⟩:=GA.L9 Ka hk po T.length (w22:=w22) rfl;have Bg:=Db.cell Ka (j:=1) (by omega) (v:=v) rfl;have hvv:v=.slice A2 pd.ch.length m2:=hk.val;rw [hvv]at Bg;refine⟨by rw [pw];exact Bg,by rw [mW];exact Db.nodes,by rw [mW];exact Db.nodes,A3,_,c3,mC,yZ,by rw [mW];exact UO,NQ,by rw [pw];exact Y4,?_⟩;intro rf;have e26:rf=mC.setCell ⟨b1,p*5+1,none⟩ (.slice A3 (pd.ch.length+1) c3):=by simp only [rf,pw,Int.toNat_natCast]
 rw [<-e26]at YC Ge;clear_value rf;have Lk:(T++ [(⟨p,[],0,0,0⟩:Nd)]).set p {pd with ch:=pd.ch++ [T.length]}=grown T p pd:=rfl;rw [Lk]at YC;have hgp:(grown T p pd)[p]? =some {pd with ch:=pd.ch++ [T.length]}:=by
  unfold grown;rw [List.getElem?_set_self (by simp;omega)]
 have hgn:(grown T p pd)[T.length]? =some ⟨p,[],0,0,0⟩:=by
  unfold grown;rw [List.getElem?_set_ne (by omega)];simp
 have kw:Kept S w rf:=(JX.tt (uc.mono (S':=S) (fun _ _ h=>h.elim))).trans Ge (fun k hk h=>by
  rcases Wz k h with h|h
  ·exact h
  ·omega)
 have QR:∀k,S3 k->S k\/w.heap.size<=k:=fun k h=>by
  rcases acI k h with h|h
  ·exact Wz k h
  ·right
   have:=JX.size;have:=uc.size;omega
 refine Fm ⟨_,_,_,YC⟩ hgp fun G5 Ia=>⟨_,rfl,?_⟩;have h28:=YC.kept Ia;have Tc:Kept S w G5:=kw.trans Ia (fun _ _ h=>h.elim);simp only [];rw [gh (x:=pd.hi-pd.free) (by omega) (by omega)];refine Split.dec (fun jS=>⟨by decide,?_⟩) (fun jS=>?_)
 ·have EK:u64.wrap ((u64.wrap (pd.hi-pd.free+1)).tdiv 2)=jK pd:=by
   rw [gh (x:=pd.hi-pd.free+1) (by omega) (by omega),Int.tdiv_eq_ediv_of_nonneg (by omega),gh (by omega) (by omega)];rfl
  rw [EK];refine Fo ⟨_,_,_,h28⟩ hgn hgp rfl (by omega) hf (by unfold jK;omega) (by unfold jK;simp only;omega) fun Hp h31 MS=>⟨rfl,?_⟩;refine hK1 (by omega) Hp S3 h31 (Tc.trans MS fun k hk h=>?_) QR;rcases QR k h with h|h
  ·exact h
  ·omega
 ·exact hK2 (by omega) G5 S3 ⟨_,_,_,h28⟩ Tc QR
end
section
variable{w:World}{S:Nat->Prop}{g:Nat}{T:List Nd}{d:Int}{K:Value->World->Prop}
def qQ:List Nd:= [⟨-1,[],1,4611686018427387904,1⟩]
theorem fw(hK:∀w' g,pF w' (fun k=>w.heap.size<=k) g qQ 0->Kept Nil w w'->K (.pointer (some ⟨g,0,none⟩)) w'):bE prog fw.id #[] w K:=by
 refine fw.of ⟨rfl,?_⟩;intro w1 w2;have k1:Kept Nil w w1:=(Kept.refl Nil w).alloc _;have k2:Kept Nil w w2:=k1.alloc _;refine hK w2 w1.heap.size ⟨w.heap.size,1,[(⟨-1,[],1,4611686018427387904,1⟩,.slice none 0 0)],?_⟩ k2;exact {
  top:=aM w1 _
  fst:=rfl
  row:=Row.made (n:=1) (cur:= #[.int .i64 (-1),.slice none 0 0,.int .u64 1,.int .u64 4611686018427387904,.int .u64 1]) (lu (aM w _) _) (Nat.zero_le _) rfl (by decide)
  rv:=fun i p hp=>by
   cases i with
   |zero=>simp at hp;subst hp;exact⟨none,0,rfl,Row.nil _ _ _ _,fun k e=>by cases e⟩
   |succ i=>simp at hp
  apart:=fun i j p q hp hq sH=>by
   cases i<;>cases j<;>simp at hp hq
   exact absurd rfl sH
  iU:=k1.size
  gQ:=Nat.le_refl _}
theorem Ce(h:pF w S g T d){a b:Nat}{ad bd:Nd}(ha:T[a]? =some ad)(hb:T[b]? =some bd)(hK:∀w',Kept Nil w w'->K (.bool (decide (bd.lo<=ad.lo/\ad.hi<=bd.hi))) w'):
 bE prog fP.id #[.pointer (some ⟨g,0,none⟩),.int .i64 a,.int .i64 b] w K:=by
 have hal:a<T.length:=(lgeS ha).1;have C6:b<T.length:=(lgeS hb).1;have hba:0<=(a:Int)/\(a:Int)<(T.length:Int):=⟨by omega,by omega⟩;have xm:0<=(b:Int)/\(b:Int)<(T.length:Int):=⟨by omega,by omega⟩;refine fP.of ?_;unfold fP.W;intro w4;have k4:Kept Nil w w4:=(Kept.refl Nil w).drew;have h4:=h.same k4;have hk:=hK w4 k4;refine yC h4 a ⟨_,rfl,Split.yes (decide_eq_true hba) ?_⟩;refine yC h4 b ⟨_,rfl,Split.yes (decide_eq_true xm) ?_⟩;obtain⟨p,c,L,h4⟩:=h4;obtain⟨va,hva⟩:=h4.at_ ha;obtain⟨vb,hvb⟩:=h4.at_ hb;refine h4.go ⟨xm,h4.wg hvb (h4.go ⟨hba,h4.wg hva ?_⟩)⟩;refine Split.dec (fun h1=>h4.go ⟨hba,h4.Bq hva (h4.go ⟨xm,h4.Bq hvb ?_⟩)⟩) (fun h1=>?_)
 ·rwa [show decide (bd.lo<=ad.lo/\ad.hi<=bd.hi)=decide (ad.hi<=bd.hi)from by simp [h1]]at hk
 ·rwa [decide_eq_false (fun e:bd.lo<=ad.lo/\ad.hi<=bd.hi=>h1 e.1)]at hk
end
section
variable{w:World}{t:Option Addr}{K:Value->World->Prop}
end
end Go.Proofs.YtfleamccglihoaaGreatDoor.Tr
namespace Go.Proofs.YtfleamccglihoaaGreatDoor.Tr
open Go.Proofs.Tryz
def b9(T:List Nd):List Int:=T.map (·.parent)
structure oV(P:List Int):Prop where
 root:P[0]? =some (-1)
 up:∀(i:Nat) (p:Int),0<i->P[i]? =some p->∃j:Nat,j<i/\p=j
def kids(P:List Int)(i:Nat):List Nat:=(List.range P.length).filter fun j=>P[j]? ==some (i:Int)
theorem fC{P:List Int}{i j:Nat}:j∈kids P i↔P[j]? =some (i:Int):=by
 simp only [kids,List.mem_filter,List.mem_range,beq_iff_eq];exact⟨fun h=>h.2,fun h=>⟨(lgeS h).1,h⟩⟩
theorem jA{P:List Int}(hP:oV P){i j:Nat}(h:j∈kids P i):i<j/\j<P.length:=by
 rw [fC]at h;refine⟨?_,(lgeS h).1⟩;rcases Nat.eq_zero_or_pos j with rfl|hj
 ·rw [hP.root]at h;have:=Option.some.inj h;omega
 ·obtain⟨k,hk,e⟩:=hP.up j _ hj h
  omega
theorem ub(P:List Int)(i:Nat):(kids P i).Pairwise (· < ·):=List.Pairwise.filter _ (List.pairwise_lt_range)
theorem AO(P:List Int)(i:Nat):(kids P i).length<=P.length:=by
 unfold kids;exact Nat.le_trans (List.length_filter_le _ _) (by simp)
inductive kY (P:List Int):Nat->Nat->Prop
 |refl {i:Nat}:i<P.length->kY P i i
 |step {i j k:Nat}:P[i]? =some (j:Int)->kY P j k->kY P i k
theorem kY.lt{P:List Int}{i k:Nat}(h:kY P i k):i<P.length:=by
 cases h with
 |refl h=>exact h
 |step h _=>exact(lgeS h).1
theorem kY.XA{P:List Int}{i k:Nat}(h:kY P i k):k<P.length:=by
 induction h with
 |refl h=>exact h
 |step _ _ ih=>exact ih
theorem kY.le{P:List Int}(hP:oV P){i k:Nat}(h:kY P i k):k<=i:=by
 induction h with
 |refl=>omega
 |step h _ ih=>have:=(jA hP (fC.2 h)).1;omega
theorem kY.trans{P:List Int}{i j k:Nat}(h:kY P i j)(h':kY P j k):kY P i k:=by
 induction h with
 |refl=>exact h'
 |step h _ ih=>exact .step h (ih h')
theorem kY.inv{P:List Int}{i j k:Nat}(h:kY P i k)(fW:i≠k)(hj:P[i]? =some (j:Int)):kY P j k:=by
 cases h with
 |refl=>exact absurd rfl fW
 | @step _ j' _ h h'=>
   rw [hj]at h;have e:j=j':=by have:=Option.some.inj h;omega
   rw [e];exact h'
theorem kY.child{P:List Int}{i k:Nat}(h:kY P i k)(fW:i≠k):∃c,c∈kids P k/\kY P i c:=by
 induction h with
 |refl=>exact absurd rfl fW
 | @step i j k h h' ih=>
   by_cases e:j=k
   ·subst e
    exact⟨i,fC.2 h,.refl (lgeS h).1⟩
   ·obtain⟨c,hc,hu⟩:=ih e
    exact⟨c,hc,.step h hu⟩
structure Iv(nd:Nd):Prop where
 Zz:1<=nd.lo
 le:nd.lo<=nd.hi
 top:nd.hi<=4611686018427387904
structure Loc(T:List Nd)(nd:Nd):Prop where
 Hc:nd.lo<=nd.free
 Dk:nd.free<=nd.hi
 sub:∀c cd,c∈nd.ch->T[c]? =some cd->nd.lo<=cd.lo/\cd.hi<nd.free
 ord:∀(c c':Nat) cd wA,c∈nd.ch->c'∈nd.ch->c<c'->T[c]? =some cd->T[c']? =some wA->cd.hi<wA.lo
structure Shape(T:List Nd):Prop where
 par:oV (b9 T)
 ch:∀(i:Nat) nd,T[i]? =some nd->nd.ch=kids (b9 T) i
structure Good(T:List Nd):Prop extends Shape T where
 iv:∀(i:Nat) nd,T[i]? =some nd->Iv nd
 loc:∀(i:Nat) nd,T[i]? =some nd->Loc T nd
theorem lR{T:List Nd}{i:Nat}{nd:Nd}(h:T[i]? =some nd):(b9 T)[i]? =some nd.parent:=by simp [b9,h]
theorem fz(T:List Nd):(b9 T).length=T.length:=by simp [b9]
theorem Shape.pos{T:List Nd}(h:Shape T):0<T.length:=by
 have:=(lgeS h.par.root).1
 rwa [fz]at this
theorem Good.rv{T:List Nd}(h:Good T){c k:Nat}{cd kd:Nd}(hc:c∈kids (b9 T) k)(kI:T[c]? =some cd)(U9:T[k]? =some kd):
 kd.lo<=cd.lo/\cd.hi<kd.free:=(h.loc k kd U9).sub c cd (by rw [h.ch k kd U9];exact hc) kI
theorem gJ{T:List Nd}{i:Nat}(h:i<T.length):∃nd,T[i]? =some nd:=⟨_,List.getElem?_eq_getElem h⟩
theorem Good.pD{T:List Nd}(h:Good T){a b:Nat}{ad bd:Nd}(ha:T[a]? =some ad)(hb:T[b]? =some bd)(hu:kY (b9 T) a b):bd.lo<=ad.lo/\ad.hi<=bd.hi:=by
 induction hu generalizing ad with
 |refl=>rw [ha]at hb;cases hb;omega
 | @step i j k hp h' ih=>
   have uV:j<T.length:=by have:=h'.lt;rwa [fz]at this
   obtain⟨jd,hj⟩:=gJ uV;have h1:=ih hj hb;have h2:=h.rv (fC.2 hp) ha hj;have h3:=(h.loc j jd hj).Dk;omega
theorem Good.apart{T:List Nd}(h:Good T):∀(m a b:Nat),a+b<=m->∀ad bd,T[a]? =some ad->T[b]? =some bd->¬kY (b9 T) a b->¬kY (b9 T) b a->ad.hi<bd.lo\/bd.hi<ad.lo:=by
 intro m
 induction m with
 |zero=>
  intro a b hm ad bd ha hb h1 _;have:a=b:=by omega
  subst this;exact absurd (.refl (by rw [fz];exact(lgeS ha).1)) h1
 |succ m ih=>
  have key:∀(a b:Nat),a+b<=m+1->b<a->∀ad bd,T[a]? =some ad->T[b]? =some bd->¬kY (b9 T) a b->¬kY (b9 T) b a->ad.hi<bd.lo\/bd.hi<ad.lo:=by
   intro a b hm di ad bd ha hb h1 h2;have hal:=(lgeS ha).1;obtain⟨p,hp,e⟩:=h.par.up a _ (by omega) (lR ha);have X8:(b9 T)[a]? =some (p:Int):=by rw [lR ha,e]
   obtain⟨pd,y0⟩:=gJ (T:=T) (i:=p) (by omega);have gC:=h.rv (fC.2 X8) ha y0;have rT:=h.loc p pd y0;have vS:¬kY (b9 T) p b:=fun hu=>h1 (.step X8 hu);by_cases NK:kY (b9 T) b p
   ·have fW:b≠p:=fun e=>vS (by subst e;exact .refl NK.lt)
    obtain⟨c,hc,M8⟩:=NK.child fW;have hca:c≠a:=fun e=>h2 (e▸M8);have rU:c<T.length:=by have:=(jA h.par hc).2;rwa [fz]at this
    obtain⟨cd,kI⟩:=gJ rU;have QI:=h.pD hb kI M8;have po:=h.ch p pd y0;rcases Nat.lt_or_ge c a with di|gF
    ·have:=rT.ord c a cd ad (by rw [po];exact hc) (by rw [po];exact fC.2 X8) di kI ha
     omega
    ·have:=rT.ord a c ad cd (by rw [po];exact fC.2 X8) (by rw [po];exact hc) (by omega) ha kI
     omega
   ·have:=ih p b (by omega) pd bd y0 hb vS NK
    have:=rT.Dk;omega
  intro a b hm ad bd ha hb h1 h2;rcases Nat.lt_trichotomy a b with di|rfl|di
  ·have:=key b a (by omega) di bd ad hb ha h2 h1
   omega
  ·exact absurd (.refl (by rw [fz];exact(lgeS ha).1)) h1
  ·exact key a b hm di ad bd ha hb h1 h2
theorem Good.under{T:List Nd}(h:Good T){a b:Nat}{ad bd:Nd}(ha:T[a]? =some ad)(hb:T[b]? =some bd):(bd.lo<=ad.lo/\ad.hi<=bd.hi)↔kY (b9 T) a b:=by
 refine⟨fun hi=>?_,fun hu=>h.pD ha hb hu⟩;by_cases hu:kY (b9 T) a b
 ·exact hu
 ·exfalso
  have ia:=h.iv a ad ha;have ib:=h.iv b bd hb;by_cases hv:kY (b9 T) b a
  ·have fW:b≠a:=fun e=>hu (by subst e;exact .refl hv.lt)
   obtain⟨c,hc,M8⟩:=hv.child fW;have rU:c<T.length:=by have:=(jA h.par hc).2;rwa [fz]at this
   obtain⟨cd,kI⟩:=gJ rU;have h1:=h.pD hb kI M8;have h2:=h.rv hc kI ha;have h3:=(h.loc a ad ha).Dk;omega
  ·have:=h.apart (a+b) a b (Nat.le_refl _) ad bd ha hb hu hv
   have:=ia.le;have:=ib.le;omega
theorem ym(T:List Nd)(p:Nat)(pd:Nd):(grown T p pd).length=T.length+1:=by simp [grown]
theorem jT{T:List Nd}{p:Nat}{pd:Nd}(hp:T[p]? =some pd)(i:Nat):(grown T p pd)[i]? =if i=p then some {pd with ch:=pd.ch++ [T.length]}else if i=T.length then some ⟨p,[],0,0,0⟩else T[i]? :=by
 have di:=(lgeS hp).1;unfold grown;by_cases e:i=p
 ·subst e
  rw [if_pos rfl,List.getElem?_set_self (by simp;omega)]
 ·rw [if_neg e,List.getElem?_set_ne (fun h=>e h.symm)]
  by_cases e2:i=T.length
  ·subst e2;simp
  ·rw [if_neg e2]
   rcases Nat.lt_or_ge i T.length with h|h
   ·rw [List.getElem?_append_left h]
   ·rw [List.getElem?_eq_none (by simp;omega),List.getElem?_eq_none h]
theorem mS{T:List Nd}{p:Nat}{pd:Nd}(hp:T[p]? =some pd):b9 (grown T p pd)=b9 T++ [(p:Int)]:=by
 apply List.ext_getElem?;intro i;have di:=(lgeS hp).1;simp only [b9,List.getElem?_map,jT hp];by_cases e:i=p
 ·subst e
  rw [if_pos rfl,List.getElem?_append_left (by simpa using di)];simp [hp]
 ·rw [if_neg e]
  by_cases e2:i=T.length
  ·subst e2;simp
  ·rw [if_neg e2]
   rcases Nat.lt_or_ge i T.length with h|h
   ·rw [List.getElem?_append_left (by simpa using h)];simp
   ·rw [List.getElem?_eq_none h,List.getElem?_eq_none (by simp;omega)];rfl
theorem AP(P:List Int)(p i:Nat):kids (P++ [(p:Int)]) i=kids P i++if i=p then [P.length]else []:=by
 unfold kids;rw [List.length_append,List.length_singleton,List.range_succ,List.filter_append]
 congr 1
 ·apply List.filter_congr
  intro x hx;rw [List.getElem?_append_left (by simpa using hx)]
 ·by_cases e:i=p
  ·subst e;simp
  ·have:¬((p:Int)=(i:Int)):=by omega
   simp [e,this]
theorem oV.snoc{P:List Int}(h:oV P){p:Nat}(hp:p<P.length):oV (P++ [(p:Int)]):=by
 refine⟨by rw [List.getElem?_append_left (by omega)];exact h.root,fun i q hi hq=>?_⟩;rcases Nat.lt_or_ge i P.length with hl|hl
 ·rw [List.getElem?_append_left hl]at hq
  exact h.up i q hi hq
 ·have:i=P.length:=by
   rcases Nat.eq_or_lt_of_le hl with e|e
   ·exact e.symm
   ·rw [List.getElem?_eq_none (by simp;omega)]at hq;cases hq
  subst this;simp at hq;exact⟨p,hp,hq.symm⟩
theorem Shape.grown{T:List Nd}(h:Shape T){p:Nat}{pd:Nd}(hp:T[p]? =some pd):Shape (grown T p pd):=by
 have di:=(lgeS hp).1;refine⟨by rw [mS hp];exact h.par.snoc (by rw [fz];exact di),fun i nd hi=>?_⟩;rw [mS hp,AP,fz];rw [jT hp]at hi;by_cases e:i=p
 ·subst e
  rw [if_pos rfl]at hi⊢;cases hi;simp [h.ch i pd hp]
 ·rw [if_neg e]at hi⊢
  rw [List.append_nil];by_cases e2:i=T.length
  ·subst e2
   rw [if_pos rfl]at hi;cases hi
   symm
   apply List.eq_nil_iff_forall_not_mem.2;intro c hc;have:=jA h.par hc;rw [fz]at this;omega
  ·rw [if_neg e2]at hi
   exact h.ch i nd hi
def jB(f:Nat->Nat):Nat->Nat
 |0=>0
 |n+1=>jB f n+f n
theorem lI{f g:Nat->Nat}{n:Nat}(h:∀i,i<n->f i=g i):jB f n=jB g n:=by
 induction n with
 |zero=>rfl
 |succ n ih=>
  simp only [jB];rw [ih (fun i hi=>h i (by omega)),h n (by omega)]
theorem zW(f g:Nat->Nat)(n:Nat):jB (fun i=>f i+g i) n=jB f n+jB g n:=by
 induction n with
 |zero=>rfl
 |succ n ih=>simp only [jB];omega
theorem mE{f:Nat->Nat}{n:Nat}(h:∀i,i<n->f i=0):jB f n=0:=by
 induction n with
 |zero=>rfl
 |succ n ih=>
  simp only [jB];rw [ih (fun i hi=>h i (by omega)),h n (by omega)]
theorem Fq(h:Nat->Nat->Nat)(n m:Nat):jB (fun i=>jB (fun j=>h i j) m) n=jB (fun j=>jB (fun i=>h i j) n) m:=by
 induction n with
 |zero=>simp only [jB];exact(mE fun _ _=>rfl).symm
 |succ n ih=>
  simp only [jB];rw [ih,zW]
theorem zV{n k:Nat}(hk:k<n){f:Nat->Nat}(h:∀i,i<n->i≠k->f i=0):jB f n=f k:=by
 induction n with
 |zero=>omega
 |succ n ih=>
  simp only [jB];rcases Nat.lt_or_ge k n with di|gF
  ·rw [ih di (fun i hi=>h i (by omega)),h n (by omega) (by omega),Nat.add_zero]
  ·have:k=n:=by omega
   subst this;rw [mE (fun i hi=>h i (by omega) (by omega)),Nat.zero_add]
theorem Kz{f:Nat->Nat}{n b:Nat}(h:∀i,i<n->f i<=b):jB f n<=n*b:=by
 induction n with
 |zero=>simp [jB]
 |succ n ih=>
  simp only [jB];have:=ih (fun i hi=>h i (by omega));have:=h n (by omega);rw [Nat.succ_mul];omega
theorem HC{f f':Nat->Nat}{n k:Nat}(hk:k<n){v:Nat}(h:∀i,i<n->i≠k->f' i=f i)(hv:f' k=f k+v):jB f' n=jB f n+v:=by
 induction n with
 |zero=>omega
 |succ n ih=>
  simp only [jB];rcases Nat.lt_or_ge k n with di|gF
  ·rw [ih di (fun i hi=>h i (by omega)),h n (by omega) (by omega)]
   omega
  ·have:k=n:=by omega
   subst this;rw [lI (fun i hi=>h i (by omega) (by omega)),hv];omega
theorem sX(q:Nat->Bool)(f:Nat->Nat)(n:Nat):(((List.range n).filter q).map f).sum=jB (fun c=>if q c=true then f c else 0) n:=by
 induction n with
 |zero=>rfl
 |succ n ih=>
  rw [List.range_succ,List.filter_append,List.map_append,List.sum_append,ih];simp only [jB]
  congr 1
  by_cases h:q n=true
  ·simp [h]
  ·simp [h]
section
variable{P:List Int}
theorem kY.cmp{i a b:Nat}(h:kY P i a)(h':kY P i b):kY P a b\/kY P b a:=by
 induction h with
 |refl=>exact .inl h'
 | @step i j k hp h2 ih=>
   by_cases e:i=b
   ·subst e;exact .inr (.step hp h2)
   ·exact ih (h'.inv e hp)
theorem kY.one(hP:oV P){i n c c':Nat}(hc:P[c]? =some (n:Int))(uH:P[c']? =some (n:Int))(h:kY P i c)(h':kY P i c'):c=c':=by
 have key:∀(c c':Nat),P[c]? =some (n:Int)->P[c']? =some (n:Int)->kY P c c'->c=c':=by
  intro c c' hc uH h;by_cases e:c=c'
  ·exact e
  ·have:=(h.inv e hc).le hP
   have:=(jA hP (fC.2 uH)).1;omega
 rcases h.cmp h' with h|h
 ·exact key c c' hc uH h
 ·exact(key c' c uH hc h).symm
open Classical in
noncomputable def ind(p:Prop):Nat:=if p then 1 else 0
theorem sD{p:Prop}(h:p):ind p=1:=by unfold ind;rw [if_pos h]
theorem tz{p:Prop}(h:¬p):ind p=0:=by unfold ind;rw [if_neg h]
theorem Px(p:Prop):ind p<=1:=by unfold ind;split<;>omega
noncomputable def sz(P:List Int)(n:Nat):Nat:=jB (fun i=>ind (kY P i n)) P.length
theorem Cf(hP:oV P){n:Nat}(hn:n<P.length):sz P n=1+jB (fun c=>if P[c]? =some (n:Int)then sz P c else 0) P.length:=by
 have e1:∀i,i<P.length->ind (kY P i n)=ind (i=n)+jB (fun c=>if P[c]? =some (n:Int)then ind (kY P i c)else 0) P.length:=by
  intro i hi;by_cases e:i=n
  ·subst e
   rw [sD (.refl hi),sD rfl,mE];intro c hc;split
   ·rename_i hp
    apply tz;intro hu;have:=hu.le hP;have:=(jA hP (fC.2 hp)).1;omega
   ·rfl
  ·rw [tz e,Nat.zero_add]
   by_cases hu:kY P i n
   ·obtain⟨c,hc,M8⟩:=hu.child e
    rw [sD hu,zV (k:=c) M8.XA]
    ·rw [if_pos (fC.1 hc),sD M8]
    ·intro c' _ fW
     split
     ·rename_i hp
      exact tz fun h=>fW (kY.one hP hp (fC.1 hc) h M8)
     ·rfl
   ·rw [tz hu,mE]
    intro c hc;split
    ·rename_i hp
     exact tz fun h=>hu (h.trans (.step hp (.refl hn)))
    ·rfl
 have e2:sz P n=jB (fun i=>ind (i=n)+jB (fun c=>if P[c]? =some (n:Int)then ind (kY P i c)else 0) P.length) P.length:=by
  unfold sz;exact lI e1
 rw [e2,zW,zV (k:=n) hn (fun i _ h=>tz h),sD rfl,Fq]
 congr 1
 apply lI;intro c _;split
 ·rfl
 ·exact mE fun _ _=>rfl
theorem vd(hP:oV P){n:Nat}(hn:n<P.length):1<=sz P n:=by rw [Cf hP hn];omega
theorem xH(n:Nat):sz P n<=P.length:=by
 have:=Kz (n:=P.length) (b:=1) (f:=fun i=>ind (kY P i n)) (fun i _=>Px _);unfold sz;omega
theorem DY(hP:oV P){n:Nat}(hn:n<P.length):((kids P n).map (sz P)).sum+1=sz P n:=by
 unfold kids;rw [sX,Cf hP hn,Nat.add_comm]
 congr 1
 apply lI;intro c _;by_cases h:P[c]? =some (n:Int)
 ·simp [h]
 ·simp [h]
noncomputable def part(P:List Int)(m j:Nat):Nat:=jB (fun c=>if P[c]? =some (j:Int)/\m<=c then sz P c else 0) P.length
theorem FN(j:Nat):part P P.length j=0:=mE fun c hc=>if_neg fun h=>by omega
theorem vx(hP:oV P){m j:Nat}(hj:j<P.length)(hm:m<=j+1):part P m j+1=sz P j:=by
 rw [Cf hP hj,Nat.add_comm]
 congr 1
 apply lI;intro c hc;by_cases h:P[c]? =some (j:Int)
 ·have:=(jA hP (fC.2 h)).1
  rw [if_pos ⟨h,by omega⟩,if_pos h]
 ·rw [if_neg (fun e=>h e.1),if_neg h]
theorem HO{n p:Nat}(h:P[n]? =some (p:Int)):part P n p=part P (n+1) p+sz P n:=by
 unfold part;apply HC (k:=n) (lgeS h).1
 ·intro i _ fW
  by_cases hi:P[i]? =some (p:Int)
  ·by_cases h2:n<=i
   ·rw [if_pos ⟨hi,h2⟩,if_pos ⟨hi,by omega⟩]
   ·rw [if_neg (fun e=>h2 e.2),if_neg (fun e=>by omega)]
  ·rw [if_neg (fun e=>hi e.1),if_neg (fun e=>hi e.1)]
 ·rw [if_pos ⟨h,Nat.le_refl _⟩,if_neg (fun e=>by omega),Nat.zero_add]
theorem Cu{n j:Nat}(h:P[n]? ≠some (j:Int)):part P n j=part P (n+1) j:=by
 unfold part;apply lI;intro i _;by_cases hi:P[i]? =some (j:Int)
 ·have:i≠n:=fun e=>h (e▸hi)
  by_cases h2:n<=i
  ·rw [if_pos ⟨hi,h2⟩,if_pos ⟨hi,by omega⟩]
  ·rw [if_neg (fun e=>h2 e.2),if_neg (fun e=>by omega)]
 ·rw [if_neg (fun e=>hi e.1),if_neg (fun e=>hi e.1)]
noncomputable def jm(P:List Int)(m j:Nat):Nat:=if m<=j then sz P j else part P m j
theorem Cl(j:Nat)(hj:j<P.length):jm P P.length j=0:=by
 unfold jm;rw [if_neg (by omega),FN]
theorem Ae(j:Nat):jm P 0 j=sz P j:=by unfold jm;rw [if_pos (Nat.zero_le _)]
theorem FF(hP:oV P){n:Nat}(hn:n<P.length):jm P (n+1) n+1=sz P n:=by
 unfold jm;rw [if_neg (by omega),vx hP hn (Nat.le_refl _)]
theorem FE(hP:oV P){n p:Nat}(h:P[n]? =some (p:Int))(j:Nat):jm P n j=if j=p then jm P (n+1) p+sz P n else if j=n then sz P n else jm P (n+1) j:=by
 have hp:=(jA hP (fC.2 h)).1;unfold jm;by_cases e:j=p
 ·subst e
  rw [if_neg (by omega),if_pos rfl,if_neg (by omega),HO h]
 ·rw [if_neg e]
  by_cases e2:j=n
  ·subst e2;rw [if_pos (Nat.le_refl _),if_pos rfl]
  ·rw [if_neg e2]
   by_cases h2:n<=j
   ·rw [if_pos h2,if_pos (by omega)]
   ·rw [if_neg h2,if_neg (by omega)]
    exact Cu (fun h'=>e (by rw [h]at h';have:=Option.some.inj h';omega))
theorem FG(j:Nat):jm P 0 j=if j=0 then sz P 0 else jm P 1 j:=by
 rw [Ae];unfold jm;by_cases e:j=0
 ·subst e;rw [if_pos rfl]
 ·rw [if_neg e,if_pos (by omega)]
theorem D5(hP:oV P)(m j:Nat)(hj:j<P.length):jm P m j<=P.length:=by
 have h1:=xH (P:=P) j;unfold jm;split
 ·exact h1
 ·rename_i h
  have:=vx hP (m:=m) hj;by_cases h2:m<=j+1
  ·have:=this h2;omega
  ·
   have h3:part P m j<=part P 0 j:=by
    unfold part;have:∀(f g:Nat->Nat) (n:Nat),(∀i,i<n->f i<=g i)->jB f n<=jB g n:=by
     intro f g n h
     induction n with
     |zero=>simp [jB]
     |succ n ih=>
      simp only [jB];have:=ih (fun i hi=>h i (by omega));have:=h n (by omega);omega
    apply this;intro i _;split
    ·rename_i h4;rw [if_pos ⟨h4.1,Nat.zero_le _⟩];exact Nat.le_refl _
    ·exact Nat.zero_le _
   have:=vx hP (m:=0) hj (by omega);omega
end
theorem wS{α:Type}(f g:Nat->α){n k:Nat}{v:α}(hk:k<n)(h:∀i,i<n->g i=if i=k then v else f i):((List.range n).map f).set k v=(List.range n).map g:=by
 apply List.ext_getElem?;intro i;rw [List.getElem?_set];by_cases e:k=i
 ·subst e
  rw [if_pos rfl,if_pos (by simpa using hk)];simp [hk,h k hk]
 ·rw [if_neg e]
  rcases Nat.lt_or_ge i n with hi|hi
  ·have:=h i hi
   rw [if_neg (fun x=>e x.symm)]at this;simp [hi,this]
  ·rw [List.getElem?_eq_none (by simpa using hi),List.getElem?_eq_none (by simpa using hi)]
end Go.Proofs.YtfleamccglihoaaGreatDoor.Tr
namespace Go.b0
open Go.RowKit
theorem aU{σ:Type}(e:σ->Env)(I:σ->World->Prop)(μ:σ->World->Nat)(s:σ)(w:World)(Q:aT)(l:Nat)(ρ:Env)(w':World):bW e I μ s w Q (.exit l) ρ w'=Q (.exit l) ρ w':=rfl
def zeroOf(P:Program)(e:TypeId):Option (Array Value):=
 match P.info? e with
 |some i=>match i.zero with
  |some z=>some z.cells
  |none=>none
 |none=>none
theorem HY{P:Program}{t e:TypeId}{bytes:Nat}(T:zI P t e 1 bytes){z:Value}(hz:zeroOf P e=some #[z]){n:Nat}(hn:n<=maxLen)(hb:bytes*n<=281474976710656)(w:World):
 ∃w',(Instr.makeSlice t (.int .i64 (n:Int)) (.int .i64 (n:Int))).run P w=.ok (.slice (some ⟨w.heap.size,0,none⟩) n n) w'/\
  Row w' w.heap.size e 1 (some ⟨w.heap.size,0,none⟩) n n (List.replicate n z)/\Kept Nil w w':=by
 obtain⟨i,z',hi,zA,hs,Kj,Ex⟩:=T.inf;have hc:z'.cells= #[z]:=by
  unfold zeroOf at hz;simp only [hi,zA]at hz;exact Option.some.inj hz
 obtain⟨w',hr,fO,hg⟩:=run_make_full (P:=P) (w:=w) w.heap.size t e i z' 1 T.pD hi zA hs .i64 .i64 n (by rw [Kj];exact hb) hn (Nat.le_refl _);rw [hc,Nat.mul_one,toList_madeCells_one]at fO;exact⟨w',hr,fO,(Kept.refl Nil w).grown hg (fun k hk=>by cases hk)⟩
end Go.b0
namespace Go.Proofs.YtfleamccglihoaaGreatDoor.Tr
open Go.Proofs.Tryz
open Go Go.b0 Go.RowKit
section
variable{w w':World}{S:Nat->Prop}{g:Nat}{T:List Nd}{d:Int}{K:Value->World->Prop}
theorem TV.bound{b c:Nat}{L:List (Nd×Value)}(h:TV w S g T d b c L):TV w (fun k=>S k/\k<w.heap.size) g T d b c L:= {
 top:=h.top
 fst:=h.fst
 row:=h.row
 rv:=fun i p hp=>let ⟨A,m,h1⟩:=h.rv i p hp;⟨A,m,h1.val,h1.row,fun k e=>⟨h1.kX k e,let ⟨_,_,hc⟩:=Row.bV h1.row e;bf hc⟩⟩
 apart:=h.apart
 iU:=⟨h.iU,bf h.top⟩
 gQ:=⟨h.gQ,let ⟨_,hc⟩:=h.wE;bf hc⟩}
theorem TV.mono{S':Nat->Prop}{b c:Nat}{L:List (Nd×Value)}(h:TV w S g T d b c L)(hs:∀k,S k->S' k):TV w S' g T d b c L:= {
 top:=h.top
 fst:=h.fst
 row:=h.row
 rv:=fun i p hp=>let ⟨A,m,h1⟩:=h.rv i p hp;⟨A,m,h1.val,h1.row,fun k e=>hs k (h1.kX k e)⟩
 apart:=h.apart
 iU:=hs _ h.iU
 gQ:=hs _ h.gQ}
theorem pF.bound(h:pF w S g T d):pF w (fun k=>S k/\k<w.heap.size) g T d:=let ⟨b,c,L,h⟩:=h;⟨b,c,L,h.bound⟩
theorem pF.mono{S':Nat->Prop}(h:pF w S g T d)(hs:∀k,S k->S' k):pF w S' g T d:=let ⟨b,c,L,h⟩:=h;⟨b,c,L,h.mono hs⟩
def us(f:Nat->Nat)(n:Nat):List Value:=(List.range n).map fun j=>.int .u64 (f j:Int)
theorem pH(f:Nat->Nat){n j:Nat}(hj:j<n):(us f n)[j]? =some (.int .u64 (f j:Int)):=by simp [us,hj]
theorem pG(f:Nat->Nat)(n:Nat):(us f n).length=n:=by simp [us]
theorem yB{f f':Nat->Nat}{n k:Nat}(hk:k<n)(h:∀i,i<n->i≠k->f' i=f i):(us f n).set k (.int .u64 (f' k:Int))=us f' n:=by
 unfold us;apply wS _ _ hk;intro i hi;by_cases e:i=k
 ·subst e;rw [if_pos rfl]
 ·rw [if_neg e,h i hi e]
theorem Ss:zI prog BL gE 1 8:=⟨by kernel_rfl,by kernel_rfl⟩
set_option maxRecDepth 100000 in
theorem Cd(h:pF w S g T d)(hP:oV (b9 T))(hlen:T.length<=1000000)
 (hK:∀w' A,Row w' w.heap.size gE 1 A T.length T.length (us (sz (b9 T)) T.length)->Kept Nil w w'->K (.slice A T.length T.length) w'):
 bE prog bM.id #[.pointer (some ⟨g,0,none⟩)] w K:=by
 obtain⟨b,c,L,h0⟩:=h;have rT:=fz T;obtain⟨w5,sE,lD,k5⟩:=HY Ss (z:=.int .u64 0) (by kernel_rfl) (n:=T.length) (by unfold maxLen;omega) (by omega) w;refine bM.of (h0.go ⟨_,_,_,w5,sE,?_⟩);have h5:=h0.kept k5;refine h5.go ?_;generalize hA:(⟨w.heap.size,0,none⟩:Addr)=A at*;refine bM.cJ (e:=some A) (i:=T.length) (I:=fun i w'=>∃m:Nat,i=(T.length:Int)-m/\m<=T.length/\Row w' w.heap.size gE 1 (some A) T.length T.length (us (jm (b9 T) m) T.length)/\Kept Nil w w')
  (μ:=fun i _=>((T.length:Int)-i).toNat) (s:=0) ⟨T.length,by omega,Nat.le_refl _,?_,k5⟩ ?_
 ·have:List.replicate T.length (Value.int .u64 0)=us (jm (b9 T) T.length) T.length:=by
   apply List.ext_getElem?;intro j;rcases Nat.lt_or_ge j T.length with hj|hj
   ·rw [pH _ hj,<-rT,Cl j (by omega)]
    simp [rT,hj]
   ·rw [List.getElem?_eq_none (by simpa using hj),List.getElem?_eq_none (by rw [pG];exact hj)]
  rw [<-this];exact lD
 ·rintro i w' ⟨m,rfl,hm,row,kw⟩
  have h':=h0.kept kw;refine Split.dec (fun di=>?_) (fun gF=>?_)
  ·
   obtain⟨n,rfl⟩:∃n,m=n+1:=⟨m-1,by omega⟩;have hn:n<T.length:=by omega
   refine h'.go ?_;have ew:i64.wrap (i64.wrap ((T.length:Int)-1)-((T.length:Int)-((n+1:Nat):Int)))=(n:Int):=by
    rw [iY (x:=(T.length:Int)-1) (by omega) (by omega),iY (by omega) (by omega)];omega
   rw [ew];have hb:0<=(n:Int)/\(n:Int)<(T.length:Int):=⟨by omega,by omega⟩;subst hA;have U2:n<(us (jm (b9 T) (n+1)) T.length).length:=by rw [pG];exact hn
   refine⟨hb,_,by rw [mW,Int.toNat_natCast,Nat.mul_one];exact Row.cell row (pH _ hn),hb,by rw [mW,Int.toNat_natCast,Nat.mul_one];exact Row.wr row U2,?_⟩;intro xE;have e18:xE=w'.setCell ⟨w.heap.size,n,none⟩ (.int .u64 (u64.wrap ((jm (b9 T) (n+1) n:Int)+1))):=by simp only [xE,mW,Int.toNat_natCast,Nat.mul_one]
   have ae7:=FF hP (n:=n) (by omega);have hle:jm (b9 T) (n+1) n<=(b9 T).length:=D5 hP _ _ (by omega);have nY:=Row.set row U2 (.int .u64 (u64.wrap ((jm (b9 T) (n+1) n:Int)+1)));rw [<-e18]at nY;have JW:Kept Nil w xE:=by rw [e18];exact kw.setCell (fun hh=>absurd hh (Nat.lt_irrefl _)) _
   clear_value xE;rw [gh (x:=(jm (b9 T) (n+1) n:Int)+1) (by omega) (by omega)]at nY;rw [show(jm (b9 T) (n+1) n:Int)+1=((if n=n then sz (b9 T) n else jm (b9 T) (n+1) n:Nat):Int)from by rw [if_pos rfl];omega,
    yB (f':=fun j=>if j=n then sz (b9 T) n else jm (b9 T) (n+1) j) hn (fun i _ fW=>by rw [if_neg fW])]at nY
   have QY:=h0.kept JW;obtain⟨nd,gU⟩:=gJ hn;obtain⟨v,hv⟩:=QY.at_ gU;refine QY.go ⟨hb,QY.Jl hv ?_⟩;have mz:=lR gU;refine Split.dec (fun hp=>?_) (fun hp=>?_)
   ·
    have EE:0<n:=by
     rcases Nat.eq_zero_or_pos n with rfl|h
     ·rw [hP.root]at mz;have:=Option.some.inj mz;omega
     ·exact h
    obtain⟨p,Lr,ep⟩:=hP.up n _ EE mz;rw [ep]at hp⊢;have hpp:(b9 T)[n]? =some (p:Int):=by rw [mz,ep]
    intro JS;have Pd:Kept Nil w JS:=JW.drew;have D9:Row JS w.heap.size gE 1 (some ⟨w.heap.size,0,none⟩) T.length T.length (us (fun j=>if j=n then sz (b9 T) n else jm (b9 T) (n+1) j) T.length):=nY;clear_value JS;have NK:0<=(p:Int)/\(p:Int)<(T.length:Int):=⟨by omega,by omega⟩;have U1:p<(us (fun j=>if j=n then sz (b9 T) n else jm (b9 T) (n+1) j) T.length).length:=by rw [pG];omega
    have gp:=pH (fun j=>if j=n then sz (b9 T) n else jm (b9 T) (n+1) j) (n:=T.length) (j:=p) (by omega);have gn:=pH (fun j=>if j=n then sz (b9 T) n else jm (b9 T) (n+1) j) (n:=T.length) (j:=n) (by omega);simp only [if_neg (show p≠n by omega)]at gp;simp only [if_pos]at gn;refine⟨NK,_,by rw [mW,Int.toNat_natCast,Nat.mul_one];exact Row.cell D9 gp,hb,_,by rw [mW,Int.toNat_natCast,Nat.mul_one];exact Row.cell D9 gn,NK,by rw [mW,Int.toNat_natCast,Nat.mul_one];exact Row.wr D9 U1,?_⟩;intro wQ;have e29:wQ=JS.setCell ⟨w.heap.size,p,none⟩ (.int .u64 (u64.wrap ((jm (b9 T) (n+1) p:Int)+(sz (b9 T) n:Int)))):=by simp only [wQ,mW,Int.toNat_natCast,Nat.mul_one]
    have HL:=Row.set D9 U1 (.int .u64 (u64.wrap ((jm (b9 T) (n+1) p:Int)+(sz (b9 T) n:Int))));rw [<-e29]at HL;have K8:Kept Nil w wQ:=by rw [e29];exact Pd.setCell (fun hh=>absurd hh (Nat.lt_irrefl _)) _
    clear_value wQ;have ajp:jm (b9 T) (n+1) p<=(b9 T).length:=D5 hP _ _ (by omega);have ajo:sz (b9 T) n<=(b9 T).length:=xH _;have nu:=FE hP hpp;have G9:=nu p;rw [if_pos rfl]at G9;rw [gh (x:=(jm (b9 T) (n+1) p:Int)+(sz (b9 T) n:Int)) (by omega) (by omega),
     show(jm (b9 T) (n+1) p:Int)+(sz (b9 T) n:Int)=(jm (b9 T) n p:Int)from by omega,
     yB (f':=jm (b9 T) n) (by omega) (fun i _ fW=>by rw [nu i,if_neg fW])]at HL
    rw [iY (x:=(T.length:Int)-((n+1:Nat):Int)+1) (by omega) (by omega)];exact⟨_,rfl,⟨n,by omega,by omega,HL,K8⟩,by simp only;omega⟩
   ·
    have EE:n=0:=by
     rcases Nat.eq_zero_or_pos n with h|h
     ·exact h
     ·obtain⟨p,_,ep⟩:=hP.up n _ h mz
      omega
    subst EE;have:us (fun j=>if j=0 then sz (b9 T) 0 else jm (b9 T) (0+1) j) T.length=us (jm (b9 T) 0) T.length:=by
     congr 1
     funext j
     rw [FG]
    rw [this]at nY;rw [iY (x:=(T.length:Int)-((0+1:Nat):Int)+1) (by omega) (by omega)];exact⟨_,rfl,⟨0,by omega,by omega,nY,JW⟩,by simp only;omega⟩
  ·have:m=0:=by omega
   subst this;rw [aU,bM.dw];refine hK w' (some A) ?_ kw;have e:jm (b9 T) 0=sz (b9 T):=funext Ae;rw [e]at row;exact row
end
section
variable{w:World}{K:Value->World->Prop}
theorem bE.Au{f:FuncId}{args:Array Value}{v:Value}(h:Calls prog f args w fun e w'=>e=.returned v/\w'=w)(hK:K v w):bE prog f args w K:=
 h.mono fun e w' ⟨he,hw⟩=>⟨v,he,by rw [hw];exact hK⟩
theorem xq(x y:Nat)(hx:x<18446744073709551616)(hy:y<18446744073709551616)
 (hK:K (.tuple #[.int .u64 ((x*y/18446744073709551616:Nat):Int),.int .u64 ((x*y%18446744073709551616:Nat):Int)]) w):
 bE prog bits_Mul64.id #[.int .u64 x,.int .u64 y] w K:=bE.Au (Any.bits_Mul64 Tryz.KP x y hx hy w) hK
theorem xt(x:Nat)(hx:x<18446744073709551616)(hK:K (.int .i64 (Lib.bitLen x)) w):bE prog bits_Len64.id #[.int .u64 x] w K:=
 bE.Au (Any.bits_Len64 Tryz.KQ x w (by omega) (by omega)) hK
end
theorem qi:∀(f x:Nat),x<2 ^ f->x<2 ^ (Lib.bitLenAux f x)/\(x≠0->2 ^ (Lib.bitLenAux f x)<=2*x)
 |0,x,h=>by simp at h;subst h;simp [Lib.bitLenAux]
 |f+1,x,h=>by
  unfold Lib.bitLenAux;by_cases e:x=0
  ·simp [e]
  ·rw [if_neg e]
   have ih:=qi f (x/2) (by rw [Nat.pow_succ]at h;omega);rw [Nat.pow_add,Nat.pow_one];refine⟨by omega,fun _=>?_⟩;by_cases e2:x/2=0
   ·have:x=1:=by omega
    subst this;cases f<;>simp [Lib.bitLenAux]
   ·have:=ih.2 e2
    omega
theorem bitLen_spec{y:Nat}(h0:y≠0)(hy:y<18446744073709551616):1<=Lib.bitLen y/\Lib.bitLen y<=64/\9223372036854775808<=y*2 ^ (64-Lib.bitLen y)/\y*2 ^ (64-Lib.bitLen y)<18446744073709551616:=by
 have hs:=qi 64 y (by omega);have hle:=Lib.bitLenAux_le 64 y 64 (by omega)
 change Lib.bitLen y<=64 at hle
 change y<2 ^ (Lib.bitLen y)/\(y≠0->2 ^ (Lib.bitLen y)<=2*y)at hs
 have zD:=hs.2 h0;have hp:2 ^ Lib.bitLen y*2 ^ (64-Lib.bitLen y)=18446744073709551616:=by
  rw [<-Nat.pow_add,show Lib.bitLen y+(64-Lib.bitLen y)=64 by omega]
 have jS:0<2 ^ (64-Lib.bitLen y):=Nat.pow_pos (by omega);refine⟨?_,hle,?_,?_⟩
 ·rcases Nat.eq_zero_or_pos (Lib.bitLen y)with e|e
  ·rw [e]at hs;simp at hs;omega
  ·exact e
 ·have:=Nat.mul_le_mul_right (2 ^ (64-Lib.bitLen y)) zD
  rw [hp,Nat.mul_assoc]at this;omega
 ·rw [<-hp]
  exact Nat.mul_lt_mul_of_pos_right hs.1 jS
section
variable{Y n1 n0 u u1 q r:Nat}
theorem Jr(hY:Y=n1*4294967296+n0):q*Y=q*n1*4294967296+q*n0:=by rw [hY,Nat.mul_add,Nat.mul_assoc]
theorem dg1(hY:Y=n1*4294967296+n0)(hq:q*n1+r=u)(h:q*n0<=4294967296*r+u1):q*Y<=u*4294967296+u1:=by rw [Jr hY];omega
theorem dg2(hY:Y=n1*4294967296+n0)(hq:q*n1+r=u)(h:4294967296*r+u1<q*n0):u*4294967296+u1<q*Y:=by rw [Jr hY];omega
theorem dg3(hu:u<Y)(Kb:u1<4294967296)(h:4294967296<=q):u*4294967296+u1<q*Y:=by
 have:=Nat.mul_le_mul_right Y h;omega
theorem dg4(hY:Y=n1*4294967296+n0)(EE:n0<4294967296)(hu:u<Y)(hq:q*n1+r=u)(hr:4294967296<=r):q*Y<=u*4294967296+u1:=by
 have h1:q*n1<4294967296*n1:=by omega
 have h2:q<4294967296:=Nat.lt_of_mul_lt_mul_right h1;have h3:q*n0<=4294967296*4294967296:=Nat.mul_le_mul (by omega) (by omega);rw [Jr hY];omega
theorem Od(hu:u<Y)(Kb:u1<4294967296)(h:q*Y<=u*4294967296+u1):q<4294967296:=by
 rcases Nat.lt_or_ge q 4294967296 with h'|h'
 ·exact h'
 ·have:=dg3 hu Kb h';omega
theorem Bz(Gq:2147483648<=n1)(hu:u<18446744073709551616)(hq:q*n1+r=u):q<8589934592:=by
 rcases Nat.lt_or_ge q 8589934592 with h|h
 ·exact h
 ·have:=Nat.mul_le_mul h Gq
  omega
end
theorem GJ{Y n1 n0 u u1:Nat}{quo rem s Hs Sm:Int}{Q:aT}{w:World}(hY:Y=n1*4294967296+n0)(EE:n0<4294967296)(Gq:2147483648<=n1)(Ly:n1<4294967296)(hu:u<Y)(hY':Y<18446744073709551616)(Kb:u1<4294967296)
 (hex:∀q r:Nat,q*Y<=u*4294967296+u1->u*4294967296+u1<(q+1)*Y->Q (.exit 0) (bA.e1 (Y:Int) quo rem s n1 n0 Hs u1 Sm ((q:Int),(r:Int))) w)
 (q0 r0:Nat) (h0:q0*n1+r0=u) (hX0:u*4294967296+u1<(q0+1)*Y) (uC:r0<4294967296):
 Holds none [] prog 135 (.loop (lB (bB (sL (fT (cH (aS (body bA.fn)))))))) Q (bA.e1 (Y:Int) quo rem s n1 n0 Hs u1 Sm ((q0:Int),(r0:Int))) w:=by
 refine bA.cJ (I:=fun s w'=>w'=w/\∃q r:Nat,s=((q:Int),(r:Int))/\q*n1+r=u/\u*4294967296+u1<(q+1)*Y/\r<4294967296)
  (μ:=fun s _=>s.1.toNat) (s:=((q0:Int),(r0:Int))) ⟨rfl,q0,r0,rfl,h0,hX0,uC⟩ ?_
 rintro s w' ⟨hw,q,r,rfl,hq,hX,hr⟩;subst hw;have aaR:=Bz Gq (by omega) hq;have down:u*4294967296+u1<q*Y->∃q' r':Nat,u64.wrap ((q:Int)-1)=(q':Int)/\u64.wrap ((r:Int)+(n1:Int))=(r':Int)/\q'*n1+r'=u/\u*4294967296+u1<(q'+1)*Y/\q'<q:=by
  intro h;have Nk:1<=q:=by
   rcases Nat.eq_zero_or_pos q with e|e
   ·rw [e]at h;omega
   ·exact e
  refine⟨q-1,r+n1,?_,?_,?_,?_,by omega⟩
  ·rw [gh (by omega) (by omega)];omega
  ·rw [gh (by omega) (by omega)];omega
  ·have:q*n1=(q-1)*n1+n1:=by
    obtain⟨k,rfl⟩:∃k,q=k+1:=⟨q-1,by omega⟩;rw [Nat.succ_mul];rfl
   omega
  ·rwa [show q-1+1=q by omega]
 have step:∀q' r':Nat,q'*n1+r'=u->u*4294967296+u1<(q'+1)*Y->q'<q->∀b:Bool,b=decide ((r':Int)>=4294967296)->
  Split b (Q (.exit 0) (bA.e1 (Y:Int) quo rem s n1 n0 Hs u1 Sm ((q':Int),(r':Int))) w') (bW (bA.e1 (Y:Int) quo rem s n1 n0 Hs u1 Sm) (fun s mD=>mD=w'/\∃q r:Nat,s=((q:Int),(r:Int))/\q*n1+r=u/\u*4294967296+u1<(q+1)*Y/\r<4294967296) (fun s _=>s.1.toNat) ((q:Int),(r:Int)) w' Q .normal (bA.e1 (Y:Int) quo rem s n1 n0 Hs u1 Sm ((q':Int),(r':Int))) w'):=by
  intro q' r' h1 h2 h3 b hb;subst hb;refine Split.dec (fun gF=>?_) (fun di=>?_)
  ·exact hex q' r' (dg4 hY EE hu h1 (by omega)) h2
  ·exact⟨_,rfl,⟨rfl,q',r',rfl,h1,h2,by omega⟩,by simp only;omega⟩
 refine Split.dec (fun gF=>?_) (fun di=>?_)
 ·obtain⟨q',r',eq,er,h1,h2,h3⟩:=down (dg3 hu Kb (by simp only at gF;omega))
  simp only [eq,er];exact step q' r' h1 h2 h3 _ rfl
 ·simp only at di
  have hqn:q*n0<18446744073709551616:=by
   have:q*n0<=4294967295*4294967295:=Nat.mul_le_mul (by omega) (by omega);omega
  have e1:u64.wrap ((q:Int)*(n0:Int))=((q*n0:Nat):Int):=by rw [<-Int.natCast_mul,gh (by omega) (by omega)]
  have e2:u64.wrap (u64.wrap (4294967296*(r:Int))+(u1:Int))=((4294967296*r+u1:Nat):Int):=by
   rw [gh (x:=4294967296*(r:Int)) (by omega) (by omega),gh (by omega) (by omega)];omega
  simp only [e1,e2];refine Split.dec (fun yi=>?_) (fun hle=>?_)
  ·obtain⟨q',r',eq,er,h1,h2,h3⟩:=down (dg2 hY hq (by omega))
   simp only [eq,er];exact step q' r' h1 h2 h3 _ rfl
  ·exact hex q r (dg1 hY hq (by omega)) hX
theorem GI{Y n1 n0 u u1:Nat}{quo rem s q1 Ht:Int}{Q:aT}{w:World}(hY:Y=n1*4294967296+n0)(EE:n0<4294967296)(Gq:2147483648<=n1)(Ly:n1<4294967296)(hu:u<Y)(hY':Y<18446744073709551616)(Kb:u1<4294967296)
 (hex:∀q r:Nat,q*Y<=u*4294967296+u1->u*4294967296+u1<(q+1)*Y->Q (.exit 2) (bA.e2 (Y:Int) quo rem s n1 n0 u1 q1 Ht ((r:Int),(q:Int))) w)
 (q0 r0:Nat) (h0:q0*n1+r0=u) (hX0:u*4294967296+u1<(q0+1)*Y) (uC:r0<4294967296):
 Holds none [] prog 135 (.loop (lB (bB (sL (fT (fT (aS (body bA.fn)))))))) Q (bA.e2 (Y:Int) quo rem s n1 n0 u1 q1 Ht ((r0:Int),(q0:Int))) w:=by
 refine bA.iz (I:=fun s w'=>w'=w/\∃q r:Nat,s=((r:Int),(q:Int))/\q*n1+r=u/\u*4294967296+u1<(q+1)*Y/\r<4294967296)
  (μ:=fun s _=>s.2.toNat) (s:=((r0:Int),(q0:Int))) ⟨rfl,q0,r0,rfl,h0,hX0,uC⟩ ?_
 rintro s w' ⟨hw,q,r,rfl,hq,hX,hr⟩;subst hw;have aaR:=Bz Gq (by omega) hq;have down:u*4294967296+u1<q*Y->∃q' r':Nat,u64.wrap ((q:Int)-1)=(q':Int)/\u64.wrap ((r:Int)+(n1:Int))=(r':Int)/\q'*n1+r'=u/\u*4294967296+u1<(q'+1)*Y/\q'<q:=by
  intro h;have Nk:1<=q:=by
   rcases Nat.eq_zero_or_pos q with e|e
   ·rw [e]at h;omega
   ·exact e
  refine⟨q-1,r+n1,?_,?_,?_,?_,by omega⟩
  ·rw [gh (by omega) (by omega)];omega
  ·rw [gh (by omega) (by omega)];omega
  ·have:q*n1=(q-1)*n1+n1:=by
    obtain⟨k,rfl⟩:∃k,q=k+1:=⟨q-1,by omega⟩;rw [Nat.succ_mul];rfl
   omega
  ·rwa [show q-1+1=q by omega]
 have step:∀q' r':Nat,q'*n1+r'=u->u*4294967296+u1<(q'+1)*Y->q'<q->∀b:Bool,b=decide ((r':Int)>=4294967296)->
  Split b (Q (.exit 2) (bA.e2 (Y:Int) quo rem s n1 n0 u1 q1 Ht ((r':Int),(q':Int))) w') (bW (bA.e2 (Y:Int) quo rem s n1 n0 u1 q1 Ht) (fun s mD=>mD=w'/\∃q r:Nat,s=((r:Int),(q:Int))/\q*n1+r=u/\u*4294967296+u1<(q+1)*Y/\r<4294967296) (fun s _=>s.2.toNat) ((r:Int),(q:Int)) w' Q .normal (bA.e2 (Y:Int) quo rem s n1 n0 u1 q1 Ht ((r':Int),(q':Int))) w'):=by
  intro q' r' h1 h2 h3 b hb;subst hb;refine Split.dec (fun gF=>?_) (fun di=>?_)
  ·exact hex q' r' (dg4 hY EE hu h1 (by omega)) h2
  ·exact⟨_,rfl,⟨rfl,q',r',rfl,h1,h2,by omega⟩,by simp only;omega⟩
 refine Split.dec (fun gF=>?_) (fun di=>?_)
 ·obtain⟨q',r',eq,er,h1,h2,h3⟩:=down (dg3 hu Kb (by simp only at gF;omega))
  simp only [eq,er];exact step q' r' h1 h2 h3 _ rfl
 ·simp only at di
  have hqn:q*n0<18446744073709551616:=by
   have:q*n0<=4294967295*4294967295:=Nat.mul_le_mul (by omega) (by omega);omega
  have e1:u64.wrap ((q:Int)*(n0:Int))=((q*n0:Nat):Int):=by rw [<-Int.natCast_mul,gh (by omega) (by omega)]
  have e2:u64.wrap (u64.wrap (4294967296*(r:Int))+(u1:Int))=((4294967296*r+u1:Nat):Int):=by
   rw [gh (x:=4294967296*(r:Int)) (by omega) (by omega),gh (by omega) (by omega)];omega
  simp only [e1,e2];refine Split.dec (fun yi=>?_) (fun hle=>?_)
  ·obtain⟨q',r',eq,er,h1,h2,h3⟩:=down (dg2 hY hq (by omega))
   simp only [eq,er];exact step q' r' h1 h2 h3 _ rfl
  ·exact hex q r (dg1 hY hq (by omega)) hX
theorem Xc(a:Nat)(ha:a<18446744073709551616):u64.wrap ((BitVec.ofInt 64 (a:Int)&&& BitVec.ofInt 64 (4294967295:Int)).toNat:Int)=((a%4294967296:Nat):Int):=by
 have h:=bits_and_u64_nat a 4294967295 ha (by omega);have e:a&&& 4294967295=a%4294967296:=Nat.and_two_pow_sub_one_eq_mod a 32;rw [e]at h;exact h
theorem orN(a b s:Nat)(ha:a*2 ^ s<18446744073709551616)(hb:b<2 ^ s)(uI:b<18446744073709551616):
 u64.wrap ((BitVec.ofInt 64 ((a*2 ^ s:Nat):Int)|||BitVec.ofInt 64 (b:Int)).toNat:Int)=((a*2 ^ s+b:Nat):Int):=by
 have h:=bits_or_u64_nat (a*2 ^ s) b ha uI;rw [Nat.mul_comm,<-Nat.two_pow_add_eq_or_of_lt hb,Nat.mul_comm]at h;exact h
theorem Sv(a k:Nat):Int.fdiv (a:Int) (2 ^ k)=((a/2 ^ k:Nat):Int):=by
 rw [Int.fdiv_eq_ediv_of_nonneg _ (by exact Int.le_of_lt (Int.pow_pos (by omega)))];rw [Int.natCast_ediv,Int.natCast_pow];rfl
theorem Zf(a k:Nat):(a:Int)*2 ^ k=((a*2 ^ k:Nat):Int):=by rw [Int.natCast_mul,Int.natCast_pow];rfl
theorem adf{N u L u1 u0 v a b:Nat}(hN:N=u*18446744073709551616+L)(hL:L=u1*4294967296+u0)(hv:u*4294967296+u1-a=v)(ha:a<=u*4294967296+u1)(hb:b<=v*4294967296+u0):a*4294967296+b<=N:=by omega
theorem ade{N u L u1 u0 v a b:Nat}(hN:N=u*18446744073709551616+L)(hL:L=u1*4294967296+u0)(hv:u*4294967296+u1-a=v)(ha:a<=u*4294967296+u1)(hb:v*4294967296+u0<b):N<a*4294967296+b:=by omega
section
variable{w:World}{K:Value->World->Prop}
theorem oT(x:Nat)(hx:x<18446744073709551616)(hK:K (.int .i64 ((64-Lib.bitLen x:Nat):Int)) w):bE prog bits_LeadingZeros64.id #[.int .u64 x] w K:=by
 refine bits_LeadingZeros64.of (xt x hx ⟨_,rfl,?_⟩);have hle:=Lib.bitLen_le x 64 (by omega) (by omega)
 rwa [iY (by omega) (by omega),show(64:Int)-(Lib.bitLen x:Int)=((64-Lib.bitLen x:Nat):Int)by omega]
theorem xu(hi lo y:Nat)(Ye:lo<18446744073709551616)(hy:y<18446744073709551616)(hhi:hi<y)
 (hK:∀r w',Kept Nil w w'->K (.tuple #[.int .u64 (((hi*18446744073709551616+lo)/y:Nat):Int),.int .u64 r]) w'):
 bE prog bA.id #[.int .u64 hi,.int .u64 lo,.int .u64 y] w K:=by
 refine bA.of (Split.no (beq_eq_false_iff_ne.2 (by omega)) (Split.no (decide_eq_false (by omega)) ?_));by_cases h0:hi=0
 ·subst h0
  refine Split.yes rfl ?_;intro w6;refine⟨by omega,by omega,?_⟩;have e:u64.wrap ((lo:Int).tdiv (y:Int))=(((0*18446744073709551616+lo)/y:Nat):Int):=by
   rw [Int.tdiv_eq_ediv_of_nonneg (by omega),Nat.zero_mul,Nat.zero_add,<-Int.natCast_ediv];have:=Nat.div_le_self lo y;generalize lo/y=z at*;exact gh (by omega) (by omega)
  rw [e];exact hK _ w6 (Kept.refl Nil w).drew
 ·refine Split.no (beq_eq_false_iff_ne.2 (by omega)) (oT y hy ⟨_,rfl,?_⟩)
  obtain⟨Bj,aco,hY1,hY2⟩:=bitLen_spec (y:=y) (by omega) hy;have hs:64-Lib.bitLen y<64:=by omega
  generalize 64-Lib.bitLen y=s at*;have eS:u64.wrap (s:Int)=(s:Int):=gh (by omega) (by omega);have eS2:u64.wrap ((64:Int)-(s:Int))=((64-s:Nat):Int):=by rw [gh (by omega) (by omega)];omega
  have em1:min s 64=s:=by omega
  have em2:min (64-s) 64=64-s:=by omega
  have em3:min (32:Int).toNat 64=32:=rfl;have EC:2 ^ (64-s)*2 ^ s=18446744073709551616:=by rw [<-Nat.pow_add,show 64-s+s=64 by omega]
  have jS:0<2 ^ s:=Nat.pow_pos (by omega);have Ur:0<2 ^ (64-s):=Nat.pow_pos (by omega);simp only [eS,eS2,Int.toNat_natCast,em1,em2,em3,Zf];generalize hYd:y*2 ^ s=Y at*;have hhs:hi*2 ^ s<18446744073709551616:=by
   have:hi*2 ^ s<y*2 ^ s:=Nat.mul_lt_mul_of_pos_right hhi jS;omega
  have hlq:lo/2 ^ (64-s)<2 ^ s:=by
   rw [Nat.div_lt_iff_lt_mul Ur,Nat.mul_comm,EC];exact Ye
  have abn:lo/2 ^ (64-s)<18446744073709551616:=Nat.lt_of_le_of_lt (Nat.div_le_self _ _) Ye;have eY:u64.wrap (Y:Int)=(Y:Int):=gh (by omega) (by omega);have eH:u64.wrap ((hi*2 ^ s:Nat):Int)=((hi*2 ^ s:Nat):Int):=gh (by omega) (by omega);have eL:u64.wrap ((lo*2 ^ s:Nat):Int)=((lo*2 ^ s%18446744073709551616:Nat):Int):=by rw [IntKind.wrap_u64];omega
  have e32:∀a:Nat,Int.fdiv (a:Int) (2 ^ 32)=((a/4294967296:Nat):Int):=fun a=>Sv a 32;simp only [eY,eH,eL,e32,Sv lo,orN hi _ s hhs hlq abn,Xc Y (by omega),Xc _ (Nat.mod_lt (lo*2 ^ s) (by omega:18446744073709551616>0))];have hN:(hi*18446744073709551616+lo)*2 ^ s=(hi*2 ^ s+lo/2 ^ (64-s))*18446744073709551616+lo*2 ^ s%18446744073709551616:=by
   have h1:lo*2 ^ s/18446744073709551616=lo/2 ^ (64-s):=by
    rw [<-EC,Nat.mul_div_mul_right _ _ jS]
   have h2:=Nat.div_add_mod (lo*2 ^ s) 18446744073709551616;rw [h1]at h2;rw [Nat.add_mul,Nat.mul_right_comm];omega
  have akm:(hi*18446744073709551616+lo)*2 ^ s<Y*18446744073709551616:=by
   have h1:hi*18446744073709551616+lo<y*18446744073709551616:=by omega
   have:=Nat.mul_lt_mul_of_pos_right h1 jS;rw [Nat.mul_right_comm,hYd]at this;exact this
  have Nj:(hi*18446744073709551616+lo)*2 ^ s/Y=(hi*18446744073709551616+lo)/y:=by rw [<-hYd,Nat.mul_div_mul_right _ _ jS]
  rw [<-Nj]at hK;clear Nj;generalize (hi*18446744073709551616+lo)*2 ^ s=N at*;have hL:lo*2 ^ s%18446744073709551616<18446744073709551616:=Nat.mod_lt _ (by omega);generalize lo*2 ^ s%18446744073709551616=L at*;generalize hi*2 ^ s+lo/2 ^ (64-s)=u at*;have hu:u<Y:=by omega
  have Gq:2147483648<=Y/4294967296:=by omega
  have Ly:Y/4294967296<4294967296:=by omega
  have EE:Y%4294967296<4294967296:=by omega
  have hYe:Y=Y/4294967296*4294967296+Y%4294967296:=by omega
  have Kb:L/4294967296<4294967296:=by omega
  have hu0:L%4294967296<4294967296:=by omega
  have hLe:L=L/4294967296*4294967296+L%4294967296:=by omega
  generalize Y/4294967296=n1 at*;generalize Y%4294967296=n0 at*;generalize L/4294967296=u1 at*;generalize L%4294967296=u0 at*;have Oa:∀v:Nat,v<18446744073709551616->u64.wrap ((v:Int).tdiv (n1:Int))=((v/n1:Nat):Int)/\u64.wrap ((v:Int)-u64.wrap (((v/n1:Nat):Int)*(n1:Int)))=((v%n1:Nat):Int)/\v/n1*n1+v%n1=v/\v%n1<n1:=by
   intro v hv;have h1:=Nat.div_le_self v n1;have h2:=Nat.div_add_mod' v n1;refine⟨?_,?_,h2,Nat.mod_lt _ (by omega)⟩
   ·rw [Int.tdiv_eq_ediv_of_nonneg (by omega),<-Int.natCast_ediv]
    generalize v/n1=z at*;exact gh (by omega) (by omega)
   ·rw [<-Int.natCast_mul,gh (x:=((v/n1*n1:Nat):Int)) (by omega) (by omega),gh (by omega) (by omega)]
    omega
  have first:∀v d:Nat,v<Y->d<4294967296->v*4294967296+d<(v/n1+1)*Y:=by
   intro v d hv hd;have h2:=Nat.div_add_mod' v n1;have h3:=Nat.mod_lt v (show 0<n1 by omega);have h4:v+1<=(v/n1+1)*n1:=by rw [Nat.succ_mul];omega
   have h5:(v+1)*4294967296<=(v/n1+1)*n1*4294967296:=Nat.mul_le_mul_right _ h4;have h6:(v/n1+1)*n1*4294967296<=(v/n1+1)*Y:=by
    have h7:n1*4294967296<=Y:=Nat.le_trans (Nat.le_add_right _ n0) (Nat.le_of_eq hYe.symm);rw [Nat.mul_assoc];exact Nat.mul_le_mul_left _ h7
   omega
  obtain⟨g1,g2,g3,g4⟩:=Oa u (by omega);simp only [g1,g2];refine⟨by omega,by omega,by omega,by omega,by omega,by omega,by omega,?_⟩;refine GJ hYe EE Gq Ly hu (by omega) Kb ?_ (u/n1) (u%n1) g3 (first u u1 hu Kb) (by omega);intro q r Nk RL;rw [show bA.e1 (Y:Int) 0 0 (s:Int) (n1:Int) (n0:Int) (u:Int) (u1:Int) (u0:Int) ((q:Int),(r:Int))= [(2,.int .u64 (Y:Int)),(6,.int .u64 0),(7,.int .u64 0),(8,.int .u64 (s:Int)),(9,.int .u64 (n1:Int)),(10,.int .u64 (n0:Int)),(11,.int .u64 (u:Int)),(13,.int .u64 (u1:Int)),(14,.int .u64 (u0:Int)),(15,.int .u64 (q:Int)),(16,.int .u64 (r:Int))]from rfl];rw [bA.dw];have hqB:=Od hu Kb Nk;rw [Nat.succ_mul]at RL;have hp:u64.wrap (u64.wrap (u64.wrap ((u:Int)*4294967296)+(u1:Int))-u64.wrap ((q:Int)*(Y:Int)))=((u*4294967296+u1-q*Y:Nat):Int):=by
   rw [<-Int.natCast_mul q Y];simp only [IntKind.wrap_u64];generalize q*Y=p at*;omega
  unfold bA.df;simp only [hp];have hv:u*4294967296+u1-q*Y<Y:=by omega
  generalize hvd:u*4294967296+u1-q*Y=v at*;obtain⟨g1',g2',g3',g4'⟩:=Oa v (by omega);simp only [g1',g2'];refine⟨by omega,?_⟩;refine GI hYe EE Gq Ly hv (by omega) hu0 ?_ (v/n1) (v%n1) g3' (first v u0 hv hu0) (by omega);intro q' r' Un aaS;rw [show bA.e2 (Y:Int) 0 0 (s:Int) (n1:Int) (n0:Int) (u0:Int) (q:Int) (v:Int) ((r':Int),(q':Int))= [(2,.int .u64 (Y:Int)),(6,.int .u64 0),(7,.int .u64 0),(8,.int .u64 (s:Int)),(9,.int .u64 (n1:Int)),(10,.int .u64 (n0:Int)),(14,.int .u64 (u0:Int)),(15,.int .u64 (q:Int)),(16,.int .u64 (r':Int)),(17,.int .u64 (v:Int)),(18,.int .u64 (q':Int))]from rfl];rw [bA.ki];have aiV:=Od hv hu0 Un;refine⟨by omega,?_⟩;have aaz:u64.wrap (u64.wrap ((q:Int)*4294967296)+(q':Int))=((N/Y:Nat):Int):=by
   rw [gh (x:=(q:Int)*4294967296) (by omega) (by omega),gh (by omega) (by omega)];have:N/Y=q*4294967296+q':=by
    apply Nat.div_eq_of_lt_le
    ·rw [Nat.add_mul,Nat.mul_right_comm]
     exact adf hN hLe hvd Nk Un
    ·rw [Nat.add_assoc,Nat.add_mul,Nat.mul_right_comm]
     exact ade hN hLe hvd Nk aaS
   rw [this];omega
  rw [aaz];exact hK _ w (Kept.refl Nil w)
end
end Go.Proofs.YtfleamccglihoaaGreatDoor.Tr
namespace Go.Proofs.YtfleamccglihoaaGreatDoor.Tr
open Go.Proofs.Tryz
structure l9(T T':List Nd):Prop where
 len:T'.length=T.length
 at_:∀(i:Nat) nd,T[i]? =some nd->∃nd',T'[i]? =some nd'/\nd'.parent=nd.parent/\nd'.ch=nd.ch
theorem l9.refl(T:List Nd):l9 T T:=⟨rfl,fun _ nd h=>⟨nd,h,rfl,rfl⟩⟩
theorem l9.trans{T T' E0:List Nd}(h:l9 T T')(h':l9 T' E0):l9 T E0:=⟨h'.len.trans h.len,fun i nd hi=>by
 obtain⟨nd',h1,h2,h3⟩:=h.at_ i nd hi;obtain⟨Zv,g1,g2,g3⟩:=h'.at_ i nd' h1;exact⟨Zv,g1,g2.trans h2,g3.trans h3⟩⟩
theorem l9.back{T T':List Nd}(h:l9 T T'){i:Nat}{nd':Nd}(hi:T'[i]? =some nd'):∃nd,T[i]? =some nd/\nd'.parent=nd.parent/\nd'.ch=nd.ch:=by
 have di:=(lgeS hi).1;obtain⟨nd,gU⟩:=gJ (T:=T) (i:=i) (by rw [<-h.len];exact di);obtain⟨x,h1,h2,h3⟩:=h.at_ i nd gU;rw [hi]at h1;cases h1;exact⟨nd,gU,h2,h3⟩
theorem l9.b9{T T':List Nd}(h:l9 T T'):b9 T'=b9 T:=by
 apply List.ext_getElem?;intro i;rcases Nat.lt_or_ge i T.length with hi|hi
 ·obtain⟨nd,gU⟩:=gJ hi
  obtain⟨nd',h1,h2,_⟩:=h.at_ i nd gU;rw [lR gU,lR h1,h2]
 ·rw [List.getElem?_eq_none (by rw [fz,h.len];exact hi),List.getElem?_eq_none (by rw [fz];exact hi)]
theorem l9.shape{T T':List Nd}(h:l9 T T')(hS:Shape T):Shape T':=⟨by rw [h.b9];exact hS.par,fun i nd' hi=>by
 obtain⟨nd,gU,_,h3⟩:=h.back hi;rw [h.b9,h3,hS.ch i nd gU]⟩
theorem l9.set{T:List Nd}{i:Nat}{nd nd':Nd}(hi:T[i]? =some nd)(h1:nd'.parent=nd.parent)(h2:nd'.ch=nd.ch):l9 T (T.set i nd'):=
 ⟨by simp,fun j x hj=>by
   by_cases e:i=j
   ·subst e
    rw [hi]at hj;cases hj;exact⟨nd',js hi,h1,h2⟩
   ·exact⟨x,oR hj e,rfl,rfl⟩⟩
theorem yn{T:List Nd}{n p:Nat}{nd pd:Nd}{many:Int}(hn:T[n]? =some nd)(hp:T[p]? =some pd)(fW:n≠p)(i:Nat):
 (wc T n p nd pd many)[i]? =if i=p then some {pd with free:=pd.free+many}else if i=n then some {nd with lo:=pd.free,hi:=pd.free+many-1,free:=pd.free}else T[i]? :=by
 unfold wc;by_cases e:i=p
 ·subst e
  rw [if_pos rfl];exact js (oR hp fW)
 ·rw [if_neg e,List.getElem?_set_ne (fun h=>e h.symm)]
  by_cases e2:i=n
  ·subst e2
   rw [if_pos rfl];exact js hn
  ·rw [if_neg e2,List.getElem?_set_ne (fun h=>e2 h.symm)]
theorem wa{T:List Nd}{n p:Nat}{nd pd:Nd}(many:Int)(hn:T[n]? =some nd)(hp:T[p]? =some pd)(fW:n≠p):l9 T (wc T n p nd pd many):=
 (l9.set (nd':= {nd with lo:=pd.free,hi:=pd.free+many-1,free:=pd.free}) hn rfl rfl).trans (l9.set (nd:=pd) (nd':= {pd with free:=pd.free+many}) (oR hp fW) rfl rfl)
theorem zY{l:List Nat}(hs:l.Pairwise (· < ·)){k c:Nat}(hc:l[k]? =some c):∀y,y∈l.take k->y<c:=by
 intro y hy;obtain⟨j,hj⟩:=List.mem_iff_getElem?.1 hy;rw [List.getElem?_take]at hj;split at hj
 ·rename_i di
  obtain⟨h1,e1⟩:=lgeS hj;obtain⟨h2,e2⟩:=lgeS hc;rw [<-e1,<-e2];exact List.pairwise_iff_getElem.1 hs j k h1 h2 di
 ·cases hj
theorem oC{l:List Nat}{k c:Nat}(hc:l[k]? =some c):l.take (k+1)=l.take k++ [c]:=by
 rw [List.take_add_one,hc];rfl
structure qt(P:List Int)(T1:List Nd)(x:Nat)(xd:Nd)(half:Int)(k:Nat)(T':List Nd)(f:Int):Prop where
 oE:l9 T1 T'
 here:T'[x]? =some {xd with free:=f}
 rest:∀y,y≠x->y∉xd.ch.take k->T'[y]? =T1[y]?
 lo:xd.lo+(((xd.ch.take k).map (sz P)).sum:Nat)<=f
 up:(f-xd.lo-(((xd.ch.take k).map (sz P)).sum:Nat))*(sz P x:Int)<=half*(((xd.ch.take k).map (sz P)).sum:Nat)
 rv:∀c cd,c∈xd.ch.take k->T'[c]? =some cd->xd.lo<=cd.lo/\cd.hi<f/\(sz P c:Int)<=cd.hi-cd.lo+1
 ord:∀c c' cd wA,c∈xd.ch.take k->c'∈xd.ch.take k->c<c'->T'[c]? =some cd->T'[c']? =some wA->cd.hi<wA.lo
section
variable{P:List Int}{T1 T':List Nd}{x:Nat}{xd:Nd}{half f:Int}{k:Nat}
theorem qt.start(hx:T1[x]? =some xd)(hf:xd.free=xd.lo):qt P T1 x xd half 0 T1 xd.lo:= {
 oE:=l9.refl _
 here:=by obtain⟨a,b,c,d,e⟩:=xd;simp only at hf;subst hf;exact hx
 rest:=fun _ _ _=>rfl
 lo:=by simp
 up:=by simp
 rv:=fun c cd hc=>by simp at hc
 ord:=fun c c' cd wA hc=>by simp at hc}
theorem qt.bound(h:qt P T1 x xd half k T' f)(hh:0<=half)(RI:1<=sz P x)(IB:((xd.ch.take k).map (sz P)).sum<=sz P x):f<=xd.lo+(((xd.ch.take k).map (sz P)).sum:Nat)+half:=by
 have h1:half*(((xd.ch.take k).map (sz P)).sum:Nat)<=half*(sz P x:Int):=Int.mul_le_mul_of_nonneg_left (by omega) hh;have h2:=Int.le_trans h.up h1;have h3:=Int.le_of_mul_le_mul_right h2 (by omega);omega
theorem qt.step(h:qt P T1 x xd half k T' f)(hs:xd.ch.Pairwise (· < ·)){c:Nat}(hx:∀y,y∈xd.ch->x<y)(hc:xd.ch[k]? =some c){cd:Nd}(kI:T'[c]? =some cd)
 {more:Int} (RR:0<=more) (hm:more*(sz P x:Int)<=half*(sz P c:Int)) (EA:1<=sz P c):
 qt P T1 x xd half (k+1) (wc T' c x cd {xd with free:=f} ((sz P c:Int)+more)) (f+((sz P c:Int)+more)):=by
 have di:=zY hs hc;have hxc:x<c:=hx c (List.mem_of_getElem? hc);have UG:c∉xd.ch.take k:=fun hh=>Nat.lt_irrefl _ (di c hh);have gX:=yn (many:=(sz P c:Int)+more) kI h.here (by omega);have IB:((xd.ch.take (k+1)).map (sz P)).sum=((xd.ch.take k).map (sz P)).sum+sz P c:=by rw [oC hc];simp
 have jo:∀y,y∈xd.ch.take (k+1)↔y∈xd.ch.take k\/y=c:=by intro y;rw [oC hc];simp
 exact {
  oE:=h.oE.trans (wa _ kI h.here (by omega))
  here:=by rw [gX,if_pos rfl]
  rest:=fun y hy hn=>by
   rw [gX,if_neg hy,if_neg (fun e=>hn ((jo y).2 (.inr e)))];exact h.rest y hy (fun hh=>hn ((jo y).2 (.inl hh)))
  lo:=by rw [IB];have:=h.lo;omega
  up:=by
   rw [IB];have h1:=h.up;have e1:(f+((sz P c:Int)+more)-xd.lo-((((xd.ch.take k).map (sz P)).sum+sz P c:Nat):Int))*(sz P x:Int)=(f-xd.lo-((((xd.ch.take k).map (sz P)).sum:Nat):Int))*(sz P x:Int)+more*(sz P x:Int):=by
    rw [<-Int.add_mul];congr 1;omega
   have e2:half*((((xd.ch.take k).map (sz P)).sum+sz P c:Nat):Int)=half*((((xd.ch.take k).map (sz P)).sum:Nat):Int)+half*(sz P c:Int):=by
    rw [<-Int.mul_add];congr 1
   rw [e1,e2];omega
  rv:=fun y yd hy CH=>by
   have Ye:=h.lo;rw [gX]at CH;rcases(jo y).1 hy with hh|rfl
   ·have h1:=di y hh
    have h2:=hx y (List.mem_of_mem_take hh);rw [if_neg (by omega),if_neg (by omega)]at CH;have:=h.rv y yd hh CH;exact⟨this.1,by omega,this.2.2⟩
   ·rw [if_neg (by omega),if_pos rfl]at CH
    cases CH;refine⟨?_,?_,?_⟩<;>simp only<;>omega
  ord:=fun a b ad bd ha hb nv NX NQ=>by
   rw [gX]at NX NQ;rcases(jo b).1 hb with uI|rfl
   ·have h1:=di b uI
    rcases(jo a).1 ha with zc|rfl
    ·have h2:=hx a (List.mem_of_mem_take zc)
     rw [if_neg (by omega),if_neg (by omega)]at NX NQ;exact h.ord a b ad bd zc uI nv NX NQ
    ·omega
   ·rcases(jo a).1 ha with zc|rfl
    ·have h1:=di a zc
     have h2:=hx a (List.mem_of_mem_take zc);rw [if_neg (by omega),if_neg (by omega)]at NX;rw [if_neg (by omega),if_pos rfl]at NQ;cases NQ;exact(h.rv a ad zc NX).2.1
    ·omega}
end
structure oz(P:List Int)(T0:List Nd)(m:Nat)(T':List Nd)(q:List Nat)(i:Nat):Prop where
 oE:l9 T0 T'
 nodup:q.Nodup
 pD:∀y,y∈q->kY P y m
 fst:m∈q
 src:∀y,y∈q->y=m\/∃z:Nat,z∈q.take i/\P[y]? =some (z:Int)
 YL:∀z,z∈q.take i->∀c,c∈kids P z->c∈q
 rest:∀y,y∉q->T'[y]? =T0[y]?
 top:∀md SV,T0[m]? =some md->T'[m]? =some SV->SV.lo=md.lo/\SV.hi=md.hi
 room:∀y yd,y∈q->T'[y]? =some yd->1<=yd.lo/\yd.hi<=4611686018427387904/\(sz P y:Int)<=yd.hi-yd.lo+1
 loc:∀z zd,z∈q.take i->T'[z]? =some zd->Loc T' zd
theorem oz.start{P:List Int}{T0:List Nd}{m:Nat}{md:Nd}(hm:m<P.length)(yh:T0[m]? =some md)(h1:1<=md.lo)(h2:md.hi<=4611686018427387904)(h3:(sz P m:Int)<=md.hi-md.lo+1):
 oz P T0 m T0 [m] 0:= {
 oE:=l9.refl _
 nodup:=by simp
 pD:=fun y hy=>by simp at hy;subst hy;exact .refl hm
 fst:=by simp
 src:=fun y hy=>by simp at hy;exact .inl hy
 YL:=fun z hz=>by simp at hz
 rest:=fun _ _=>rfl
 top:=fun a b ha hb=>by rw [ha]at hb;cases hb;exact⟨rfl,rfl⟩
 room:=fun y yd hy CH=>by
  simp at hy;subst hy;rw [yh]at CH;cases CH;exact⟨h1,h2,h3⟩
 loc:=fun z zd hz=>by simp at hz}
section
variable{T0 T' E0:List Nd}{m x i:Nat}{q:List Nat}{xd:Nd}{f half:Int}
theorem oz.step(hS:Shape T0)(h:oz (b9 T0) T0 m T' q i)(hq:q[i]? =some x)(JZ:T'[x]? =some xd)
 (EK:0<=half) (abA:half*2<=xd.hi-xd.lo-((sz (b9 T0) x:Int)-1))
 (gC:qt (b9 T0) (T'.set x {xd with free:=xd.lo}) x {xd with free:=xd.lo} half xd.ch.length E0 f):
 oz (b9 T0) T0 m E0 (q++xd.ch) (i+1):=by
 have Yw:=h.oE.shape hS;have hpe:=h.oE.b9;have hP:=hS.par;have po:xd.ch=kids (b9 T0) x:=by rw [Yw.ch x xd JZ,hpe]
 have dW:i<q.length:=(lgeS hq).1;have Iu:x∈q:=List.mem_of_getElem? hq;have uf:x<(b9 T0).length:=(h.pD x Iu).lt;have zB:q.take (i+1)=q.take i++ [x]:=oC hq;have PK:(q++xd.ch).take (i+1)=q.take i++ [x]:=by rw [List.take_append_of_le_length (by omega),zB]
 have M4:x∉q.take i:=by
  intro hh;have hn:(q.take i++ [x]).Nodup:=by rw [<-zB];exact h.nodup.sublist (List.take_sublist _ _)
  rw [List.nodup_append]at hn;exact hn.2.2 x hh x (by simp) rfl
 have Gs:∀c,c∈xd.ch->(b9 T0)[c]? =some (x:Int):=fun c hc=>fC.1 (po▸hc);have yi:∀c,c∈xd.ch->x<c:=fun c hc=>(jA hP (po▸hc)).1;have nP:∀c,c∈xd.ch->c∉q:=by
  intro c hc Yo;rcases h.src c Yo with rfl|⟨z,hz,X5⟩
  ·have:=(h.pD x Iu).le hP
   have:=yi _ hc;omega
  ·rw [Gs c hc]at X5
   have:z=x:=by have:=Option.some.inj X5;omega
   exact M4 (this▸hz)
 have ah8:x∉xd.ch:=fun hh=>Nat.lt_irrefl _ (yi x hh);have cY:∀c,c∈(({xd with free:=xd.lo}:Nd).ch.take xd.ch.length)↔c∈xd.ch:=by intro c;simp
 have IB:(xd.ch.map (sz (b9 T0))).sum+1=sz (b9 T0) x:=by
  rw [po];exact DY hP uf
 have jS:=vd hP uf;have RU:=gC.bound EK jS (by simp only [List.take_length];omega);have abM:=gC.lo;simp only [List.take_length]at RU abM;have abN:f<=xd.hi:=by omega
 have hT1:∀y,y≠x->(T'.set x {xd with free:=xd.lo})[y]? =T'[y]? :=fun y hy=>List.getElem?_set_ne (fun e=>hy e.symm);have IL:∀y,y≠x->y∉xd.ch->E0[y]? =T'[y]? :=fun y hy hn=>by
  rw [gC.rest y hy (fun hh=>hn ((cY y).1 hh)),hT1 y hy]
 have NC:E0[x]? =some {xd with free:=f}:=gC.here;have hxr:=h.room x xd Iu JZ;have hlh:xd.lo<=xd.hi:=by omega
 have hold:∀y zL,y∉xd.ch->E0[y]? =some zL->∃yd,T'[y]? =some yd/\yd.lo=zL.lo/\yd.hi=zL.hi:=by
  intro y zL hn hy;by_cases e:y=x
  ·subst e
   rw [NC]at hy;cases hy;exact⟨xd,JZ,rfl,rfl⟩
  ·rw [IL y e hn]at hy
   exact⟨zL,hy,rfl,rfl⟩
 exact {
  oE:=(h.oE.trans (l9.set (nd':= {xd with free:=xd.lo}) JZ rfl rfl)).trans gC.oE
  nodup:=by
   rw [List.nodup_append];refine⟨h.nodup,?_,fun a ha b hb e=>nP b hb (e▸ha)⟩;rw [po];exact(ub _ _).imp (fun h=>by omega)
  pD:=fun y hy=>by
   rcases List.mem_append.1 hy with hy|hy
   ·exact h.pD y hy
   ·exact .step (Gs y hy) (h.pD x Iu)
  fst:=List.mem_append.2 (.inl h.fst)
  src:=fun y hy=>by
   rw [PK];rcases List.mem_append.1 hy with hy|hy
   ·rcases h.src y hy with e|⟨z,hz,X5⟩
    ·exact .inl e
    ·exact .inr ⟨z,List.mem_append.2 (.inl hz),X5⟩
   ·exact .inr ⟨x,by simp,Gs y hy⟩
  YL:=fun z hz c hc=>by
   rw [PK]at hz;rcases List.mem_append.1 hz with hz|hz
   ·exact List.mem_append.2 (.inl (h.YL z hz c hc))
   ·simp at hz
    subst hz;exact List.mem_append.2 (.inr (po▸hc))
  rest:=fun y hy=>by
   have h1:y∉q:=fun hh=>hy (List.mem_append.2 (.inl hh));have h2:y∉xd.ch:=fun hh=>hy (List.mem_append.2 (.inr hh));rw [IL y (fun e=>h1 (e▸Iu)) h2,h.rest y h1]
  top:=fun md Zy yh UR=>by
   obtain⟨SV,h1,h2,h3⟩:=hold m Zy (fun hh=>nP m hh h.fst) UR;have:=h.top md SV yh h1;omega
  room:=fun y zL hy M1=>by
   rcases List.mem_append.1 hy with hy|hy
   ·obtain⟨yd,h1,h2,h3⟩:=hold y zL (fun hh=>nP y hh hy) M1
    have:=h.room y yd hy h1;omega
   ·have:=gC.rv y zL ((cY y).2 hy) M1
    simp only at this;omega
  loc:=fun z zd hz ZZ=>by
   rw [PK]at hz;rcases List.mem_append.1 hz with hz|hz
   ·have hzq:z∈q:=List.mem_of_mem_take hz
    have TP:z≠x:=fun e=>M4 (e▸hz);have Py:=ZZ;rw [IL z TP (fun hh=>nP z hh hzq)]at Py;have hl:=h.loc z zd hz Py;have Z0:zd.ch=kids (b9 T0) z:=by rw [Yw.ch z zd Py,hpe]
    have Yp:∀c,c∈zd.ch->c∉xd.ch:=by
     intro c hc I1;have h1:=Gs c I1;rw [fC.1 (Z0▸hc:c∈kids (b9 T0) z)]at h1;have:=Option.some.inj h1;omega
    exact {
     Hc:=hl.Hc
     Dk:=hl.Dk
     sub:=fun c cd hc kI=>by
      obtain⟨wA,h1,h2,h3⟩:=hold c cd (Yp c hc) kI;have:=hl.sub c wA hc h1;omega
     ord:=fun c c' cd wA hc uH Bh kI rG=>by
      obtain⟨ed,h1,h2,h3⟩:=hold c cd (Yp c hc) kI;obtain⟨Q3,um,v7,EP⟩:=hold c' wA (Yp c' uH) rG;have:=hl.ord c c' ed Q3 hc uH Bh h1 um;omega}
   ·simp at hz
    subst hz;rw [NC]at ZZ;cases ZZ;exact {
     Hc:=by simp only;omega
     Dk:=abN
     sub:=fun c cd hc kI=>by
      have:=gC.rv c cd ((cY c).2 hc) kI;simp only at this⊢;omega
     ord:=fun c c' cd wA hc uH Bh kI rG=>gC.ord c c' cd wA ((cY c).2 hc) ((cY c').2 uH) Bh kI rG}}
theorem oz.fin(hS:Shape T0)(h:oz (b9 T0) T0 m T' q i)(hi:q.length<=i)
 (Uz:∀y nd,T0[y]? =some nd->¬kY (b9 T0) y m->Iv nd/\Loc T0 nd):Good T':=by
 have Yw:=h.oE.shape hS;have hpe:=h.oE.b9;have hP:=hS.par;have zB:q.take i=q:=List.take_of_length_le hi;have rU:∀y,kY (b9 T0) y m->y∈q:=by
  have:∀y k,kY (b9 T0) y k->k=m->y∈q:=by
   intro y k hu
   induction hu with
   |refl=>intro e;subst e;exact h.fst
   | @step a b c hp h' ih=>intro e;exact h.YL b (by rw [zB];exact ih e) a (fC.2 hp)
  exact fun y hu=>this y m hu rfl
 have hq:∀y,y∈q↔kY (b9 T0) y m:=fun y=>⟨h.pD y,rU y⟩;refine⟨Yw,fun y yd CH=>?_,fun y yd CH=>?_⟩
 ·by_cases hy:y∈q
  ·have hr:=h.room y yd hy CH
   have:=vd hP (h.pD y hy).lt;exact⟨hr.1,by omega,hr.2.1⟩
  ·rw [h.rest y hy]at CH
   exact(Uz y yd CH (fun hu=>hy (rU y hu))).1
 ·by_cases hy:y∈q
  ·exact h.loc y yd (by rw [zB];exact hy) CH
  ·have PA:=CH
   rw [h.rest y hy]at PA;have hl:=(Uz y yd PA (fun hu=>hy (rU y hu))).2;have po:=hS.ch y yd PA;have hold:∀c cd,c∈yd.ch->T'[c]? =some cd->∃ed,T0[c]? =some ed/\ed.lo=cd.lo/\ed.hi=cd.hi:=by
    intro c cd hc kI;by_cases Yo:c∈q
    ·have hpc:=fC.1 (po▸hc:c∈kids (b9 T0) y)
     have o7:c=m:=by
      by_cases e:c=m
      ·exact e
      ·exact absurd (rU y ((h.pD c Yo).inv e hpc)) hy
     subst o7;obtain⟨ed,hed,_⟩:=h.oE.back kI;have:=h.top ed cd hed kI;exact⟨ed,hed,by omega,by omega⟩
    ·rw [h.rest c Yo]at kI
     exact⟨cd,kI,rfl,rfl⟩
   exact {
    Hc:=hl.Hc
    Dk:=hl.Dk
    sub:=fun c cd hc kI=>by
     obtain⟨ed,h1,h2,h3⟩:=hold c cd hc kI;have:=hl.sub c ed hc h1;omega
    ord:=fun c c' cd wA hc uH Bh kI rG=>by
     obtain⟨ed,h1,h2,h3⟩:=hold c cd hc kI;obtain⟨Q3,um,v7,EP⟩:=hold c' wA uH rG;have:=hl.ord c c' ed Q3 hc uH Bh h1 um;omega}
end
open Go Go.RowKit Go.b0
theorem O0{l:List Nat}{a:Nat}(h:a∈l):a<=l.sum:=by
 induction l with
 |nil=>simp at h
 |cons b l ih=>
  rw [List.sum_cons];rcases List.mem_cons.1 h with rfl|h
  ·omega
  ·have:=ih h;omega
theorem AX{l:List Nat}{j x:Nat}(h:l[j]? =some x):(ints l)[j]? =some (.int .i64 (x:Int)):=by simp [ints,h]
theorem Ir(l:List Nat):(ints l).length=l.length:=by simp [ints]
theorem Iq(l:List Nat):∀u∈ints l,u.oneCell'=true:=by
 intro u hu;simp only [ints,List.mem_map]at hu;obtain⟨x,_,rfl⟩:=hu;rfl
structure Dl(w0:World)(S:Nat->Prop)(g b c B0 B1 len:Nat)(P:List Int)(d:Int)(As:Option Addr)(w:World)(T':List Nd)(L:List (Nd×Value))(Aq:Option Addr)(nq cq:Nat)(q:List Nat):Prop where
 tv:TV w S g T' d b c L
 rs:Row w B0 gE 1 As len len (us (sz P) len)
 sb:∀k,bH As=some k->k<B1
 rq:Row w B1 im 1 Aq nq cq (ints q)
 kp:Kept S w0 w
 hS:∀k,S k->k<B0
 hB:B0<=B1
 Jg:B1<=w.heap.size
 h0:w0.heap.size<=B0
section
variable{w0 w w':World}{S:Nat->Prop}{g b c B0 B1 len:Nat}{P:List Int}{d:Int}{As:Option Addr}{T' E0:List Nd}{L L':List (Nd×Value)}{Aq:Option Addr}{nq cq:Nat}{q:List Nat}
theorem Dl.KF(h:Dl w0 S g b c B0 B1 len P d As w T' L Aq nq cq q):nq=q.length:=by
 have:=Row.len h.rq;rw [Ir]at this;omega
theorem Dl.quiet(h:Dl w0 S g b c B0 B1 len P d As w T' L Aq nq cq q)(hk:Kept Nil w w'):Dl w0 S g b c B0 B1 len P d As w' T' L Aq nq cq q:= {
 tv:=h.tv.kept hk
 rs:=Row.aK h.rs hk (fun _ _ h=>h)
 sb:=h.sb
 rq:=Row.aK h.rq hk (fun _ _ h=>h)
 kp:=h.kp.trans hk (fun _ _ h=>h.elim)
 hS:=h.hS
 hB:=h.hB
 Jg:=Nat.le_trans h.Jg hk.size
 h0:=h.h0}
theorem Dl.wrote(h:Dl w0 S g b c B0 B1 len P d As w T' L Aq nq cq q)(hk:Kept (fun k=>k=b) w w')(ht:TV w' S g E0 d b c L'):Dl w0 S g b c B0 B1 len P d As w' E0 L' Aq nq cq q:= {
 tv:=ht
 rs:=Row.aK h.rs hk (fun k e e2=>by have:=(Row.bV h.rs e).1;have:=h.hS b h.tv.gQ;omega)
 sb:=h.sb
 rq:=Row.aK h.rq hk (fun k e e2=>by have:=(Row.bV h.rq e).1;have:=h.hS b h.tv.gQ;have:=h.hB;omega)
 kp:=h.kp.trans hk (fun k _ e=>by rw [e];exact h.tv.gQ)
 hS:=h.hS
 hB:=h.hB
 Jg:=Nat.le_trans h.Jg hk.size
 h0:=h.h0}
theorem Dl.Ed(h:Dl w0 S g b c B0 B1 len P d As w T' L Aq nq cq q){j:Nat}(hj:j<len){k:Int->Prop}(hk:k (sz P j)):
 Is As fun a=>∃t,w.cell? (a.add (j*1))=some (.int .u64 t)/\k t:=by
 have hr:=h.rs;obtain⟨b',rfl⟩:=Row.some hr (by omega);exact⟨_,by rw [mW,Nat.mul_one];exact Row.cell hr (pH _ hj),hk⟩
theorem Dl.SH(h:Dl w0 S g b c B0 B1 len P d As w T' L Aq nq cq q){j x:Nat}(hj:q[j]? =some x){k:Int->Prop}(hk:k x):
 Is Aq fun a=>∃t,w.cell? (a.add (j*1))=some (.int .i64 t)/\k t:=by
 have hr:=h.rq;have di:=(lgeS hj).1;obtain⟨b',rfl⟩:=Row.some hr (by rw [h.KF];omega);exact⟨_,by rw [mW,Nat.mul_one];exact Row.cell hr (AX hj),hk⟩
theorem Dl.push(h:Dl w0 S g b c B0 B1 len P d As w T' L Aq nq cq q)(vR:q.length<=4000000)(x:Nat){w1:World}(e1:w1=w.alloc (.cells #[.int .i64 (x:Int)] im)):
 ∃Kt Ko w2,(Builtin.append_ #[jO,jO] jO #[.slice Aq nq cq,.slice (some ⟨w.heap.size,0,none⟩) 1 1]).run prog w1=.ok (.slice Kt (nq+1) Ko) w2/\
  Dl w0 S g b c B0 B1 len P d As w2 T' L Kt (nq+1) Ko (q++ [x])/\(∀S0:Nat->Prop,(∀k,bH Aq=some k->S0 k)->Kept S0 w w2):=by
 subst e1;generalize J0:w.alloc (.cells #[.int .i64 (x:Int)] im)=w1;have nP:w1.heap[w.heap.size]? =some (.cells #[.int .i64 (x:Int)] im (0,0)):=by rw [<-J0];exact aM w _
 have k1:Kept Nil w w1:=by rw [<-J0];exact(Kept.refl Nil w).alloc _
 have h1:=h.quiet k1;have IM:=h.KF;obtain⟨A',c',w2,hr,fO,hg,C6⟩:=fY (P:=prog) (t:=jO) (ty:=jO) My h1.rq (a:=⟨w.heap.size,0,none⟩) (m:=1) (cx:=1)
  (news:=ints [x]) rfl (fun j u hj=>by rw [mW,aE nP];simpa [ints]using hj) (Iq _) (by omega) (by unfold maxLen;omega) h1.Jg
 have kA:Kept (fun k=>bH Aq=some k) w1 w2:=(Kept.refl _ w1).grown hg (fun k hk _=>hk);have gF:∀k,bH Aq=some k->B1<=k:=fun k e=>(Row.bV h.rq e).1;refine⟨A',c',w2,hr,?_,fun S0 h0=>(k1.mono (S':=S0) (fun _ _ h=>h.elim)).trans kA (fun k _ e=>h0 k e)⟩;exact {
  tv:=h1.tv.aK kA (fun k hk e=>by have:=h.hS k hk;have:=gF k e;have:=h.hB;omega)
  rs:=Row.aK h1.rs kA (fun k e e2=>by have:=h.sb k e;have:=gF k e2;omega)
  sb:=h.sb
  rq:=by simpa [ints]using fO
  kp:=(h.kp.trans k1 (fun _ _ h=>h.elim)).trans kA (fun k hk e=>absurd (gF k e) (by have:=h.hB;have:=h.h0;omega))
  hS:=h.hS
  hB:=h.hB
  Jg:=Nat.le_trans h1.Jg kA.size
  h0:=h.h0}
theorem Dp{T0 T1:List Nd}{x:Nat}{xd:Nd}{half:Nat}{spare i:Int}{Xs:Option Addr}{Xz:Nat}{Qo:aT}
 (D:Dl w0 S g b c B0 B1 T0.length (b9 T0) d As w T1 L Aq nq cq q) (hS:Shape T0) (XX:l9 T0 T1) (hlen:T0.length<=1000000) (IM:q.length<=1000000)
 (hx:T1[x]? =some xd) (Be:xd.free=xd.lo) (Ye:0<=xd.lo) (hhi:xd.hi<=4611686018427387904) (EK:(half:Int)*2<=xd.hi-xd.lo-((sz (b9 T0) x:Int)-1))
 (G9:u64.wrap (spare.tdiv 2)=(half:Int)) (ab0:Row w 0 im 1 Xs xd.ch.length Xz (ints xd.ch)) (VM:∀k,bH Xs=some k->S k/\k≠b)
 (hex:∀w' E0 f L' Kt Ko,Dl w0 S g b c B0 B1 T0.length (b9 T0) d As w' E0 L' Kt (nq+xd.ch.length) Ko (q++xd.ch)->qt (b9 T0) T1 x xd half xd.ch.length E0 f->
   Qo .normal [(0,.pointer (some ⟨g,0,none⟩)),(4,.slice As T0.length T0.length),(5,.slice Kt (nq+xd.ch.length) Ko),(6,.int .i64 (i64.wrap (i+1)))] w'):
 Holds none [] prog 164 (.loop (lB (bB (cH (bB (sL (sR (lB (bB (cH (sR (body aA.fn)))))))))))) (aA.q3 Qo) (aA.e3 (some ⟨g,0,none⟩) As T0.length T0.length i x spare Xs xd.ch.length Xz xd.ch.length (Aq,nq,cq,0)) w:=by
 have hP:=hS.par;have rT:=fz T0;have po:xd.ch=kids (b9 T0) x:=by
  have:=(XX.shape hS).ch x xd hx
  rwa [XX.b9]at this
 have uf:x<T0.length:=by rw [<-XX.len];exact(lgeS hx).1
 have Lj:xd.ch.Pairwise (· < ·):=by rw [po];exact ub _ _
 have yi:∀y,y∈xd.ch->x<y:=fun y hy=>(jA hP (po▸hy)).1;have VL:xd.ch.length<=1000000:=by rw [po];exact Nat.le_trans (AO _ _) (by omega)
 have IB:(xd.ch.map (sz (b9 T0))).sum+1=sz (b9 T0) x:=by rw [po];exact DY hP (by omega)
 have jS:=vd hP (n:=x) (by omega);have aar:=xH (P:=b9 T0) x;have hnq:=D.KF;refine aA.sr (I:=fun s w'=>∃(k:Nat) (T':List Nd) (f:Int) (L':List (Nd×Value)) (Kt:Option Addr) (Ko:Nat),s=(Kt,nq+k,Ko,(k:Int))/\k<=xd.ch.length/\
  Dl w0 S g b c B0 B1 T0.length (b9 T0) d As w' T' L' Kt (nq+k) Ko (q++xd.ch.take k)/\qt (b9 T0) T1 x xd half k T' f/\Row w' 0 im 1 Xs xd.ch.length Xz (ints xd.ch))
  (μ:=fun s _=>((xd.ch.length:Int)-s.2.2.2).toNat) (s:=(Aq,nq,cq,0)) ⟨0,T1,xd.lo,L,Aq,cq,rfl,Nat.zero_le _,by simpa using D,qt.start hx Be,ab0⟩ ?_
 rintro s w' ⟨k,T',f,L',Kt,Ko,rfl,hk,D',gC,hr⟩;refine Split.dec (fun di=>?_) (fun gF=>?_)
 ·simp only at di
  have CY:k<xd.ch.length:=by omega
  obtain⟨ci,Yq⟩:∃ci,xd.ch[k]? =some ci:=⟨_,List.getElem?_eq_getElem CY⟩;have o7:ci∈xd.ch:=List.mem_of_getElem? Yq;have hck:ci∈kids (b9 T0) x:=po▸o7;have rU:ci<T0.length:=by have:=(jA hP hck).2;omega
  have hxc:=yi ci o7;have EA:=vd hP (n:=ci) (by omega);have aiu:=xH (P:=b9 T0) ci;have T6:=XX.trans gC.oE;obtain⟨cd,kI⟩:=gJ (T:=T') (i:=ci) (by rw [T6.len];exact rU);have VK:cd.parent=x:=by
   have h1:=lR kI;rw [T6.b9,fC.1 hck]at h1;exact(Option.some.inj h1).symm
  have aau:sz (b9 T0) ci<=sz (b9 T0) x:=by
   have:=O0 (l:=xd.ch.map (sz (b9 T0))) (a:=sz (b9 T0) ci) (List.mem_map.2 ⟨ci,o7,rfl⟩);omega
  have V0:0<=(ci:Int)/\(ci:Int)<(T0.length:Int):=⟨by omega,by omega⟩;have kh:0<=(x:Int)/\(x:Int)<(T0.length:Int):=⟨by omega,by omega⟩;have abz:half<4611686018427387904:=by omega
  obtain⟨bch,acg⟩:=Row.some hr (by omega);subst acg;refine⟨⟨by simp only;omega,by simp only;omega⟩,_,by simp only [mW,Int.toNat_natCast,Nat.mul_one];exact Row.cell hr (AX Yq),by decide,V0,D'.Ed rU ?_⟩;rw [G9];refine xq half (sz (b9 T0) ci) (by omega) (by omega) ⟨_,_,rfl,kh,D'.Ed uf ?_⟩;have UQ:(half*sz (b9 T0) ci/18446744073709551616)*18446744073709551616+half*sz (b9 T0) ci%18446744073709551616=half*sz (b9 T0) ci:=Nat.div_add_mod' _ _;have aby:half*sz (b9 T0) ci/18446744073709551616<sz (b9 T0) x:=by
   have:half*sz (b9 T0) ci<18446744073709551616*sz (b9 T0) ci:=Nat.mul_lt_mul_of_pos_right (by omega) EA;have:half*sz (b9 T0) ci/18446744073709551616<sz (b9 T0) ci:=Nat.div_lt_of_lt_mul this;omega
  refine xu _ _ (sz (b9 T0) x) (Nat.mod_lt _ (by omega)) (by omega) aby fun r w90 k90=>?_;rw [UQ];generalize hm:half*sz (b9 T0) ci/sz (b9 T0) x=more;have hmx:more*sz (b9 T0) x<=half*sz (b9 T0) ci:=by rw [<-hm];exact Nat.div_mul_le_self _ _
  have aji:more<=half:=by
   rw [<-hm];apply Nat.div_le_of_le_mul;rw [Nat.mul_comm];exact Nat.mul_le_mul_right _ aau
  have D90:=D'.quiet k90;have aaE:=Row.aK hr k90 (fun _ _ h=>h);refine⟨_,_,rfl,V0,D90.Ed rU ?_⟩;rw [gh (x:=(sz (b9 T0) ci:Int)+(more:Int)) (by omega) (by omega)];have Bj:=gC.bound (by omega) jS (by
   have h1:(((xd.ch.take k).map (sz (b9 T0))).sum)<=(xd.ch.map (sz (b9 T0))).sum:=by
    conv=>rhs;rw [<-List.take_append_drop k xd.ch,List.map_append,List.sum_append]
    omega
   omega)
  have nE:=gC.lo;have h1:(((xd.ch.take k).map (sz (b9 T0))).sum)<=(xd.ch.map (sz (b9 T0))).sum:=by
   conv=>rhs;rw [<-List.take_append_drop k xd.ch,List.map_append,List.sum_append]
   omega
  refine u9 D90.tv kI gC.here VK (by omega) (by simp only;omega) (by omega) (by simp only;omega) fun w96 L96 h96 k96=>⟨rfl,?_⟩;have D96:=D90.wrote k96 h96;have aaC:=Row.aK aaE k96 (fun k e e2=>(VM k e).2 e2);intro w97;have htl:(xd.ch.take k).length<=1000000:=by rw [List.length_take];omega
  obtain⟨Sh,R5,Rm,aax,D99,XF⟩:=D96.push (by rw [List.length_append];omega) ci (w1:=w97) rfl;have aaB:=Row.aK aaC (XF (fun k=>B1<=k) (fun k e=>(Row.bV D96.rq e).1)) (fun k e e2=>by have:=D.hS k (VM k e).1;have:=D.hB;omega);refine⟨Sh,_,R5,Rm,aax,?_⟩;rw [iY (x:=(k:Int)+1) (by omega) (by omega)];refine⟨(Sh,nq+(k+1),R5,((k+1:Nat):Int)),rfl,⟨k+1,_,_,L96,Sh,R5,rfl,CY,?_,gC.step (more:=(more:Int)) Lj yi Yq kI (by omega) ?_ EA,aaB⟩,by simp only;omega⟩
  ·rw [oC Yq,<-List.append_assoc]
   exact D99
  ·have:((more*sz (b9 T0) x:Nat):Int)<=((half*sz (b9 T0) ci:Nat):Int):=by omega
   rwa [Int.natCast_mul,Int.natCast_mul]at this
 ·simp only at gF
  have:k=xd.ch.length:=by omega
  subst this;rw [aU,aA.yA];rw [List.take_length]at D';exact hex w' T' f L' Kt Ko D' gC
end
theorem HQ:∀(n:Nat) (q:List Nat),q.Nodup->(∀y,y∈q->y<n)->q.length<=n:=by
 intro n
 induction n with
 |zero=>
  intro q _ h;cases q with
  |nil=>simp
  |cons a q=>exact absurd (h a (by simp)) (by omega)
 |succ n ih=>
  intro q hn h;by_cases hm:n∈q
  ·have h1:=List.length_erase_of_mem hm
   have h2:=ih (q.erase n) (hn.erase n) (fun y hy=>by
    have:=(List.Nodup.mem_erase_iff hn).1 hy;have:=h y this.2;omega)
   omega
  ·have:=ih q hn (fun y hy=>by
    have:=h y hy;have:y≠n:=fun e=>hm (e▸hy);omega)
   omega
section
variable{w0 w:World}{S:Nat->Prop}{g b c B0:Nat}{d:Int}{As:Option Addr}{L:List (Nd×Value)}{T:List Nd}{K:Value->World->Prop}
theorem Dn{T0:List Nd}{m:Nat}{md:Nd}
 (htv:TV w S g T0 d b c L) (hrs:Row w B0 gE 1 As T0.length T0.length (us (sz (b9 T0)) T0.length)) (U7:Kept S w0 w) (hSB:∀k,S k->k<B0) (TW:w0.heap.size<=B0) (hBw:B0<=w.heap.size)
 (hS:Shape T0) (hlen:T0.length<=1000000) (yh:T0[m]? =some md) (h1:1<=md.lo) (h2:md.hi<=4611686018427387904) (h3:(sz (b9 T0) m:Int)<=md.hi-md.lo+1)
 (hK:∀w' T' q i,pF w' S g T' d->oz (b9 T0) T0 m T' q i->q.length<=i->Kept S w0 w'->K (.tuple #[]) w'):
 aA.df (some ⟨g,0,none⟩) m As T0.length T0.length K w:=by
 have hP:=hS.par;have rT:=fz T0;have Gr:m<T0.length:=(lgeS yh).1;unfold aA.df;intro jG;have nh:Kept Nil w jG:=(Kept.refl Nil w).alloc _;have nP:jG.heap[w.heap.size]? =some (.cells #[.int .i64 (m:Int)] im (0,0)):=aM w _;have D35:Dl w0 S g b c B0 w.heap.size T0.length (b9 T0) d As jG T0 L (some ⟨w.heap.size,0,none⟩) 1 1 [m]:= {
  tv:=htv.kept nh
  rs:=Row.aK hrs nh (fun _ _ h=>h)
  sb:=fun k e=>by obtain⟨_,_,hc⟩:=Row.bV hrs e;exact bf hc
  rq:=Row.made (n:=1) (cur:= #[.int .i64 (m:Int)]) nP (Nat.le_refl _) rfl (by decide)
  kp:=U7.trans nh (fun _ _ h=>h.elim)
  hS:=hSB
  hB:=hBw
  Jg:=nh.size
  h0:=TW}
 clear_value jG;generalize Jg:w.heap.size=B1 at*;refine aA.iz (I:=fun s w'=>∃(i:Nat) (T':List Nd) (L':List (Nd×Value)) (Aq:Option Addr) (nq cq:Nat) (q:List Nat),s=(Aq,nq,cq,(i:Int))/\i<=q.length/\
  Dl w0 S g b c B0 B1 T0.length (b9 T0) d As w' T' L' Aq nq cq q/\oz (b9 T0) T0 m T' q i)
  (μ:=fun s _=>((T0.length:Int)-s.2.2.2).toNat) (s:=(some ⟨B1,0,none⟩,1,1,0)) ⟨0,T0,L,_,1,1,[m],rfl,Nat.zero_le _,D35,oz.start (by omega) yh h1 h2 h3⟩ ?_
 rintro s w' ⟨i,T',L',Aq,nq,cq,q,rfl,hi,D,hO⟩;have hnq:=D.KF;have IM:q.length<=T0.length:=HQ _ _ hO.nodup (fun y hy=>by have:=(hO.pD y hy).lt;omega);refine Split.dec (fun di=>?_) (fun gF=>?_)
 ·simp only at di
  have dW:i<q.length:=by omega
  obtain⟨x,hqx⟩:∃x,q[i]? =some x:=⟨_,List.getElem?_eq_getElem dW⟩;have Iu:x∈q:=List.mem_of_getElem? hqx;have uf:x<T0.length:=by have:=(hO.pD x Iu).lt;omega
  obtain⟨xd,JZ⟩:=gJ (T:=T') (i:=x) (by rw [hO.oE.len];exact uf);have ug:=hO.room x xd Iu JZ;have jS:=vd hP (n:=x) (by omega);have aar:=xH (P:=b9 T0) x;have hlT:T'.length=T0.length:=hO.oE.len;have kh:0<=(x:Int)/\(x:Int)<(T'.length:Int):=⟨by omega,by omega⟩;refine⟨⟨by simp only;omega,by simp only;omega⟩,D.SH hqx ?_⟩;intro Ho;have Sg:=D.quiet (w':=Ho) (Kept.refl Nil w').drew;clear_value Ho;obtain⟨v,hv⟩:=Sg.tv.at_ JZ;obtain⟨wr,h50⟩:=Sg.tv.vi hv (j:=4) (by omega) (u:=.int .u64 xd.lo) (nd':= {xd with free:=xd.lo}) rfl rfl;refine Sg.tv.go (Sg.tv.go ⟨kh,Sg.tv.wg hv ⟨kh,by rw [pw];exact wr,?_⟩⟩);intro JR Hn;have e50:JR=Ho.setCell ⟨b,x*5+4,none⟩ (.int .u64 xd.lo):=by simp only [JR,pw,Int.toNat_natCast]
  rw [<-e50]at h50;have RB:Kept (fun k=>k=b) Ho JR:=by rw [e50];exact(Kept.refl (fun k=>k=b) Ho).setCell (p:=⟨b,x*5+4,none⟩) (fun _=>rfl) _
  have Ks:=(Sg.wrote RB h50).quiet (w':=Hn) (Kept.refl Nil JR).drew;clear_value Hn;have v1:(L'.set x ({xd with free:=xd.lo},v))[x]? =some ({xd with free:=xd.lo},v):=js hv;obtain⟨Xs,Xz,hk⟩:=Ks.tv.rv _ _ v1;have zF:(T'.set x {xd with free:=xd.lo}).length=T'.length:=by simp
  have QD:0<=(x:Int)/\(x:Int)<((T'.set x {xd with free:=xd.lo}).length:Int):=by rw [zF];exact kh
  have Yr:0<=(x:Int)/\(x:Int)<(T0.length:Int):=⟨by omega,by omega⟩;refine Ks.tv.go ⟨QD,Ks.tv.Bq v1 (Ks.tv.go ⟨QD,Ks.tv.wg v1 ⟨Yr,Ks.Ed uf (Ks.tv.go ⟨QD,Ks.tv.WT v1 hk.val ?_⟩)⟩⟩)⟩;have aat:l9 T0 (T'.set x {xd with free:=xd.lo}):=hO.oE.trans (l9.set (nd':= {xd with free:=xd.lo}) JZ rfl rfl);simp only;obtain⟨cur,RW⟩:=Ks.tv.wE;generalize hhf:((xd.hi-xd.lo-((sz (b9 T0) x:Int)-1)).toNat /2)=half;refine Dp (half:=half) (xd:= {xd with free:=xd.lo}) Ks hS aat hlen (by omega) (js JZ) rfl (by simp only;omega) (by simp only;omega) (by simp only;omega) ?_ hk.row (fun k e=>⟨hk.kX k e,fun e2=>hk.ne RW (by decide) (by rw [e,e2])⟩) ?_
  ·rw [gh (x:=xd.hi-xd.lo) (by omega) (by omega),gh (x:=(sz (b9 T0) x:Int)-1) (by omega) (by omega),gh (x:=xd.hi-xd.lo-((sz (b9 T0) x:Int)-1)) (by omega) (by omega),
    Int.tdiv_eq_ediv_of_nonneg (by omega),gh (by omega) (by omega)]
   omega
  ·intro w2 T2 f L2 Sh R5 D2 gC
   rw [iY (x:=(i:Int)+1) (by omega) (by omega)];refine⟨(Sh,nq+xd.ch.length,R5,((i+1:Nat):Int)),rfl,⟨i+1,T2,L2,Sh,_,R5,q++xd.ch,rfl,by rw [List.length_append];omega,D2,hO.step hS hqx JZ (by omega) (by omega) gC⟩,by simp only;omega⟩
 ·simp only at gF
  rw [aU,aA.ki];exact hK w' T' q i ⟨_,_,_,D.tv⟩ hO (by omega) D.kp
theorem TV.Zg(h:TV w S g T d b c L)(d':Int):Wr w ⟨g,1,none⟩/\TV (w.setCell ⟨g,1,none⟩ (.int .i64 d')) S g T d' b c L:=by
 have kG:Kept (fun k=>k=g) w (w.setCell ⟨g,1,none⟩ (.int .i64 d')):=(Kept.refl (fun k=>k=g) w).setCell (p:=⟨g,1,none⟩) (fun _=>rfl) _;refine⟨dP h.top (show 1<2 by omega),?_⟩;exact {
  top:=by
   have:=du h.top 1 (.int .i64 d');simpa using this
  fst:=h.fst
  row:=Row.aK h.row kG (fun k e e2=>h.gb (by cases e;exact e2.symm))
  rv:=fun i p hp=>by
   obtain⟨A,m,hk⟩:=h.rv i p hp;exact⟨A,m,hk.val,Row.aK hk.row kG (fun k e e2=>hk.ne h.top (by decide) (by rw [e,e2])),hk.kX⟩
  apart:=h.apart
  iU:=h.iU
  gQ:=h.gQ}
set_option maxRecDepth 100000 in
theorem Fp(h:pF w S g T d)(hS:Shape T)(hlen:T.length<=1000000){p:Nat}(hp:p<T.length)(hd:0<=d/\d<=1000000)
 (Ue:∀nd,T[0]? =some nd->nd.lo=1/\nd.hi=4611686018427387904)
 (Yi:∀y nd,T[y]? =some nd->kY (b9 T) p y->Iv nd)
 (hK:∀w' T' m q i,pF w' S g T' (d+1)->kY (b9 T) p m->oz (b9 T) T m T' q i->q.length<=i->Kept S w w'->K (.tuple #[]) w'):
 bE prog aA.id #[.pointer (some ⟨g,0,none⟩),.int .i64 p] w K:=by
 have hP:=hS.par;have rT:=fz T;obtain⟨b,c,L,h⟩:=h;have hb:=h.bound;obtain⟨wr,h6⟩:=hb.Zg (d+1);refine aA.of (h.goD ⟨by rw [mW];exact wr,?_⟩);intro w6;have e6:w6=w.setCell ⟨g,1,none⟩ (.int .i64 (d+1)):=by simp only [w6,mW,iY (x:=d+1) (by omega) (by omega)]
 rw [<-e6]at h6;have k6:Kept (fun k=>S k/\k<w.heap.size) w w6:=by rw [e6];exact(Kept.refl _ w).setCell (p:=⟨g,1,none⟩) (fun _=>hb.iU) _
 have Ll:w.heap.size=w6.heap.size:=by rw [e6];simp
 clear_value w6;refine Cd ⟨_,_,_,h6⟩ hP hlen fun w8 As Cm k8=>⟨_,_,_,rfl,?_⟩;have h8:=h6.kept k8;refine aA.cJ (I:=fun s w'=>∃m:Nat,s=(m:Int)/\kY (b9 T) p m/\Kept Nil w8 w') (μ:=fun s _=>s.toNat) (s:=(p:Int)) ⟨p,rfl,.refl (by omega),Kept.refl _ _⟩ ?_;rintro s w' ⟨m,rfl,hu,kw⟩;have Gr:m<T.length:=by have:=hu.XA;omega
 obtain⟨md,yh⟩:=gJ Gr;have hm:=Yi m md yh hu;have Nu:=hm.Zz;have Yc:=hm.le;have hm3:=hm.top;unfold aA.B1;intro pC;have CD:Kept Nil w8 pC:=kw.drew;have BX:=h8.kept CD;have Ea:=Row.aK Cm CD (fun _ _ h=>h);have mz:=lR yh;have aiq:=xH (P:=b9 T) m;have I8:0<=(m:Int)/\(m:Int)<(T.length:Int):=⟨by omega,by omega⟩;obtain⟨v,hv⟩:=BX.at_ yh;have done:(sz (b9 T) m:Int)<=md.hi-md.lo+1->aA.q1 K (.exit 0) [(0,.pointer (some ⟨g,0,none⟩)),(1,.int .i64 m),(4,.slice As T.length T.length)] pC:=by
  intro ug;rw [aA.dw];have k8':Kept (fun k=>S k/\k<w.heap.size) w pC:=(k6.trans k8 (fun _ _ h=>h.elim)).trans CD (fun _ _ h=>h.elim);refine Dn BX (B0:=w.heap.size) (Row.base Ea (fun k e=>by rw [Ll];exact(Row.bV Ea e).1)) k8' (fun k h=>h.2) (Nat.le_refl _) k8'.size hS hlen yh Nu hm3 ug ?_;intro w2 T2 q i h2 hO hq k2;exact hK w2 T2 m q i (h2.mono (fun k h=>h.1)) hu hO hq (k2.mono (fun k _ h=>h.1))
 refine BX.go ⟨I8,BX.Jl hv (Split.dec (fun jS=>?_) (fun Bb=>?_))⟩
 ·obtain⟨bs,Yr⟩:=Row.some Ea (by omega)
  subst Yr;refine BX.go ⟨I8,BX.Bq hv (BX.go ⟨I8,BX.wg hv ⟨by decide,I8,_,by rw [mW,Int.toNat_natCast,Nat.mul_one];exact Row.cell Ea (pH _ Gr),?_⟩⟩)⟩;rw [gh (x:=md.hi-md.lo) (by omega) (by omega),gh (x:=md.hi-md.lo+1) (by omega) (by omega),Int.tdiv_eq_ediv_of_nonneg (by omega),gh (x:=(md.hi-md.lo+1)/4) (by omega) (by omega)];refine Split.dec (fun di=>?_) (fun gF=>?_)
  ·have RR:0<m:=by
    rcases Nat.eq_zero_or_pos m with rfl|h
    ·rw [hP.root]at mz;have:=Option.some.inj mz;omega
    ·exact h
   obtain⟨z,hz,ez⟩:=hP.up m _ RR mz;refine BX.go ⟨I8,BX.Jl hv ?_⟩;rw [ez];exact⟨(z:Int),rfl,⟨z,rfl,hu.trans (.step (by rw [mz,ez]) (.refl (by omega))),CD⟩,by simp only;omega⟩
  ·rw [aU]
   exact done (by omega)
 ·have RR:m=0:=by
   rcases Nat.eq_zero_or_pos m with h|h
   ·exact h
   ·obtain⟨z,_,ez⟩:=hP.up m _ h mz
    omega
  subst RR;have:=Ue md yh;rw [aU];exact done (by omega)
end
structure xD(T:List Nd):Prop extends Good T where
 root:∀nd,T[0]? =some nd->nd.lo=1/\nd.hi=4611686018427387904
theorem Co:xD qQ:=by
 have gX:∀(i:Nat) nd,qQ[i]? =some nd->i=0/\nd=⟨-1,[],1,4611686018427387904,1⟩:=by
  intro i nd h;cases i with
  |zero=>simp [qQ]at h;exact⟨rfl,h.symm⟩
  |succ i=>simp [qQ]at h
 exact {
  par:=⟨rfl,fun i p hi h=>by
   cases i with
   |zero=>omega
   |succ i=>simp [b9,qQ]at h⟩
  ch:=fun i nd h=>by
   obtain⟨rfl,rfl⟩:=gX i nd h;simp [kids,b9,qQ]
  iv:=fun i nd h=>by
   obtain⟨rfl,rfl⟩:=gX i nd h;exact⟨by decide,by decide,by decide⟩
  loc:=fun i nd h=>by
   obtain⟨rfl,rfl⟩:=gX i nd h;exact⟨by decide,by decide,fun c cd hc=>by simp at hc,fun c c' cd wA hc=>by simp at hc⟩
  root:=fun nd h=>by
   obtain⟨_,rfl⟩:=gX 0 nd h;exact⟨rfl,rfl⟩}
section
variable{T:List Nd}{p:Nat}{pd:Nd}
theorem GW(hp:T[p]? =some pd)(i:Nat):(added T p pd)[i]? =if i=p then some {pd with ch:=pd.ch++ [T.length],free:=pd.free+jK pd}else if i=T.length then some ⟨p,[],pd.free,pd.free+jK pd-1,pd.free⟩else T[i]? :=by
 have di:p<T.length:=(lgeS hp).1;unfold added;rw [yn (by rw [jT hp,if_neg (by omega),if_pos rfl]) (by rw [jT hp,if_pos rfl]) (by omega),jT hp];split
 ·rfl
 ·split
  ·rfl
  ·rfl
theorem wG(hp:T[p]? =some pd):l9 (grown T p pd) (added T p pd):=by
 have di:p<T.length:=(lgeS hp).1;exact wa _ (by rw [jT hp,if_neg (by omega),if_pos rfl]) (by rw [jT hp,if_pos rfl]) (by omega)
theorem Shape.Q5(h:Shape T){i:Nat}{nd:Nd}(hi:T[i]? =some nd){c:Nat}(hc:c∈nd.ch):i<c/\c<T.length:=by
 rw [h.ch i nd hi]at hc;have:=jA h.par hc
 rwa [fz]at this
theorem xD.added(h:xD T)(hp:T[p]? =some pd)(ug:pd.free<pd.hi):xD (added T p pd):=by
 have di:p<T.length:=(lgeS hp).1;have gX:=GW hp;have Pu:=h.iv p pd hp;have i1:=Pu.Zz;have i2:=Pu.le;have i3:=Pu.top;have lp:=h.loc p pd hp;have l1:=lp.Hc;have l2:=lp.Dk;have hh1:1<=jK pd:=by unfold jK;omega
 have Yk:pd.free+jK pd<=pd.hi:=by unfold jK;omega
 have hold:∀(c:Nat) cd,c<T.length->(Go.Proofs.YtfleamccglihoaaGreatDoor.Tr.added T p pd)[c]? =some cd->∃ed,T[c]? =some ed/\ed.lo=cd.lo/\ed.hi=cd.hi:=by
  intro c cd hc kI;rw [gX]at kI;by_cases e:c=p
  ·subst e
   rw [if_pos rfl]at kI;cases kI;exact⟨pd,hp,rfl,rfl⟩
  ·rw [if_neg e,if_neg (by omega)]at kI
   exact⟨cd,kI,rfl,rfl⟩
 have nP:∀cd,(Go.Proofs.YtfleamccglihoaaGreatDoor.Tr.added T p pd)[T.length]? =some cd->cd=⟨p,[],pd.free,pd.free+jK pd-1,pd.free⟩:=by
  intro cd kI;rw [gX,if_neg (by omega),if_pos rfl]at kI;exact(Option.some.inj kI).symm
 have aK:∀(i:Nat) nd,T[i]? =some nd->Loc (Go.Proofs.YtfleamccglihoaaGreatDoor.Tr.added T p pd) nd:=by
  intro i nd hi;have hl:=h.loc i nd hi;have hc:=fun c hc=>(h.toShape.Q5 hi (c:=c) hc).2;exact {
   Hc:=hl.Hc
   Dk:=hl.Dk
   sub:=fun c cd o7 kI=>by
    obtain⟨ed,h1,h2,h3⟩:=hold c cd (hc c o7) kI;have:=hl.sub c ed o7 h1;omega
   ord:=fun c c' cd wA o7 ph Bh kI rG=>by
    obtain⟨ed,h1,h2,h3⟩:=hold c cd (hc c o7) kI;obtain⟨Q3,um,v7,EP⟩:=hold c' wA (hc c' ph) rG;have:=hl.ord c c' ed Q3 o7 ph Bh h1 um;omega}
 have hs:=(wG hp).shape (h.toShape.grown hp);refine {toShape:=hs,iv:=?_,loc:=?_,root:=?_}
 ·intro i nd hi
  rw [gX]at hi;by_cases e:i=p
  ·rw [if_pos e]at hi
   cases hi;exact⟨i1,i2,i3⟩
  ·rw [if_neg e]at hi
   by_cases e2:i=T.length
   ·rw [if_pos e2]at hi
    cases hi;exact⟨by simp only;omega,by simp only;omega,by simp only;omega⟩
   ·rw [if_neg e2]at hi
    exact h.iv i nd hi
 ·intro i nd hi
  rw [gX]at hi;by_cases e:i=p
  ·rw [if_pos e]at hi
   cases hi;have kp:=aK p pd hp;have hc:=fun c hc=>(h.toShape.Q5 hp (c:=c) hc).2;exact {
    Hc:=by simp only;omega
    Dk:=Yk
    sub:=fun c cd o7 kI=>by
     simp only at o7;rcases List.mem_append.1 o7 with o7|o7
     ·have:=kp.sub c cd o7 kI
      simp only;omega
     ·simp at o7
      subst o7;have:=nP cd kI;subst this;simp only;omega
    ord:=fun c c' cd wA o7 ph Bh kI rG=>by
     simp only at o7 ph;rcases List.mem_append.1 o7 with o7|o7
     ·rcases List.mem_append.1 ph with ph|ph
      ·exact kp.ord c c' cd wA o7 ph Bh kI rG
      ·simp at ph
       subst ph;have:=nP wA rG;subst this;exact(kp.sub c cd o7 kI).2
     ·simp at o7
      rcases List.mem_append.1 ph with ph|ph
      ·have:=hc c' ph
       omega
      ·simp at ph
       omega}
  ·rw [if_neg e]at hi
   by_cases e2:i=T.length
   ·rw [if_pos e2]at hi
    cases hi;exact⟨by simp only;omega,by simp only;omega,fun c cd hc=>by simp at hc,fun c c' cd wA hc=>by simp at hc⟩
   ·rw [if_neg e2]at hi
    exact aK i nd hi
 ·intro nd hi
  obtain⟨ed,h1,h2,h3⟩:=hold 0 nd h.toShape.pos hi;have:=h.root ed h1;omega
theorem xD.Js(h:xD T)(hp:T[p]? =some pd){m i:Nat}{T':List Nd}{q:List Nat}(hu:kY (b9 (grown T p pd)) p m)
 (hO:oz (b9 (grown T p pd)) (grown T p pd) m T' q i) (hq:q.length<=i):xD T':=by
 have di:p<T.length:=(lgeS hp).1;have gX:=jT hp;have hS:=h.toShape.grown hp;have hP:=hS.par;have hold:∀(c:Nat) cd,c<T.length->(grown T p pd)[c]? =some cd->∃ed,T[c]? =some ed/\ed.lo=cd.lo/\ed.hi=cd.hi:=by
  intro c cd hc kI;rw [gX]at kI;by_cases e:c=p
  ·subst e
   rw [if_pos rfl]at kI;cases kI;exact⟨pd,hp,rfl,rfl⟩
  ·rw [if_neg e,if_neg (by omega)]at kI
   exact⟨cd,kI,rfl,rfl⟩
 have RO:(b9 (grown T p pd))[T.length]? =some (p:Int):=by
  rw [mS hp,List.getElem?_append_right (by rw [fz];exact Nat.le_refl _)];simp [fz]
 have iA:=oz.fin hS hO hq (fun y nd hy hn=>by
  rw [gX]at hy;have e:y≠p:=fun e=>hn (e▸hu);rw [if_neg e]at hy;have e2:y≠T.length:=fun e=>hn (e▸ .step RO hu);rw [if_neg e2]at hy;refine⟨h.iv y nd hy,?_⟩;have hl:=h.loc y nd hy;have hc:=fun c hc=>(h.toShape.Q5 hy (c:=c) hc).2;exact {
   Hc:=hl.Hc
   Dk:=hl.Dk
   sub:=fun c cd o7 kI=>by
    obtain⟨ed,h1,h2,h3⟩:=hold c cd (hc c o7) kI;have:=hl.sub c ed o7 h1;omega
   ord:=fun c c' cd wA o7 ph Bh kI rG=>by
    obtain⟨ed,h1,h2,h3⟩:=hold c cd (hc c o7) kI;obtain⟨Q3,um,v7,EP⟩:=hold c' wA (hc c' ph) rG;have:=hl.ord c c' ed Q3 o7 ph Bh h1 um;omega})
 refine {toGood:=iA,root:=fun nd hi=>?_};obtain⟨gd,hgd,_⟩:=hO.oE.back hi;obtain⟨ed,h1,h2,h3⟩:=hold 0 gd h.toShape.pos hgd;have hr:=h.root ed h1;by_cases hm:0∈q
 ·have:=(hO.pD 0 hm).le hP
  have RR:m=0:=by omega
  subst RR;have:=hO.top gd nd hgd hi;omega
 ·rw [hO.rest 0 hm,hgd]at hi
  cases hi;omega
end
section
variable{w:World}{S:Nat->Prop}{g:Nat}{T:List Nd}{d:Int}{K:Value->World->Prop}
theorem Hx(h:pF w S g T d)(hF:xD T){p:Nat}(hp:p<T.length)(hlen:T.length<=900000)(hd:0<=d/\d<=900000)
 (hK:∀w' S' T' d',pF w' S' g T' d'->xD T'->b9 T'=b9 T++ [(p:Int)]->d<=d'/\d'<=d+1->Kept S w w'->(∀k,S' k->S k\/w.heap.size<=k)->K (.tuple #[.int .i64 T.length,.int .i64 0]) w'):
 bE prog gZ.id #[.pointer (some ⟨g,0,none⟩),.int .i64 p] w K:=by
 obtain⟨pd,y0⟩:=gJ hp;have Pu:=hF.iv p pd y0;have i1:=Pu.Zz;have i2:=Pu.le;have i3:=Pu.top;have lp:=hF.loc p pd y0;have l1:=lp.Hc;have l2:=lp.Dk;have po:pd.ch.length<=T.length:=by
  rw [hF.ch p pd y0];have:=AO (b9 T) p
  rwa [fz]at this
 refine vc h y0 (by omega) (by omega) (by omega) l2 i3 (fun ug w' S' h' k' f'=>?_) (fun afC w' S' h' k' f'=>?_)
 ·exact hK w' S' _ d h' (hF.added y0 ug) (by rw [(wG y0).b9,mS y0]) ⟨by omega,by omega⟩ k' f'
 ·have hS:=hF.toShape.grown y0
  have gX:=jT y0;have mz:=hS.par;refine Fp h' hS (by rw [ym];omega) (by rw [ym];omega) ⟨hd.1,by omega⟩ (fun nd hi=>?_) (fun y nd hy hu=>?_) (fun w2 T2 m q i h2 hu hO hq k2=>⟨rfl,?_⟩)
  ·rw [gX]at hi
   by_cases e:0=p
   ·rw [if_pos e]at hi
    cases hi;exact hF.root pd (by rw [e];exact y0)
   ·rw [if_neg e,if_neg (by omega)]at hi
    exact hF.root nd hi
  ·have:=hu.le mz
   rw [gX]at hy;by_cases e:y=p
   ·rw [if_pos e]at hy
    cases hy;exact⟨i1,i2,i3⟩
   ·rw [if_neg e,if_neg (by omega)]at hy
    exact hF.iv y nd hy
  ·refine hK w2 S' T2 (d+1) h2 (hF.Js y0 hu hO hq) (by rw [hO.oE.b9,mS y0]) ⟨by omega,by omega⟩ ?_ f'
   exact k'.trans k2 (fun k hk hs=>by
    rcases f' k hs with h|h
    ·exact h
    ·omega)
end
def zs(l:List Int):List Value:=l.map fun x=>.int .i64 x
section
variable{w w':World}{S S':Nat->Prop}{h:Nat}{P:List Int}{b c:Nat}{K:Value->World->Prop}
end
def jx(P:List Int)(n i:Nat):List Nat:=(List.range i).filter fun j=>P[j]? ==some (n:Int)
section
variable{w w':World}{S S':Nat->Prop}{h:Nat}{P:List Int}{b c:Nat}{K:Value->World->Prop}
end
section
variable{w w':World}{S S':Nat->Prop}{g:Nat}{T:List Nd}{d:Int}{K:Value->World->Prop}
end
end Go.Proofs.YtfleamccglihoaaGreatDoor.Tr
