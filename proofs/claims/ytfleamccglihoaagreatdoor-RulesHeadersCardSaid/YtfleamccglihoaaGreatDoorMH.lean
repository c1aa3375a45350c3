import Derived.Test.YtfleamccglihoaaGreatDoorMA
import Derived.Test.YtfleamccglihoaaGreatDoorMD
import Derived.Laws.OwnMore
import Derived.Test.YtfleamccglihoaaGreatDoorMG
import Derived.Laws.Bits64b
open Go.IntKind (i64 u64)
set_option linter.unusedVariables false
namespace Go.Proofs.YtfleamccglihoaaGreatDoor.Tr
open Go.Proofs.Tryz
open Go Go.b0 Go.RowKit
structure Nd where
 parent:Int
 ch:List Nat
 lo:Int
 hi:Int
 free:Int
def jS(nd:Nd)(v:Value):List Value:= [.int .i64 nd.parent,v,.int .u64 nd.lo,.int .u64 nd.hi,.int .u64 nd.free]
def pr(L:List (Nd×Value)):List Value:=L.flatMap fun p=>jS p.1 p.2
def ints(l:List Nat):List Value:=l.map fun x:Nat=>.int .i64 (x:Int)
theorem uw(L:List (Nd×Value)):(pr L).length=L.length*5:=by
 induction L with
 |nil=>rfl
 |cons p L ih=>simp only [pr,List.flatMap_cons,List.length_append,List.length_cons]at*;rw [ih];simp [jS];omega
theorem Jr{L:List (Nd×Value)}{i:Nat}{p:Nd×Value}(h:L[i]? =some p){j:Nat}(hj:j<5):(pr L)[i*5+j]? =(jS p.1 p.2)[j]? :=by
 induction L generalizing i with
 |nil=>simp at h
 |cons q L ih=>
  have hq:(jS q.1 q.2).length=5:=rfl;cases i with
  |zero=>
   simp at h;subst h;simp only [pr,List.flatMap_cons];rw [Nat.zero_mul,Nat.zero_add,List.getElem?_append_left (by omega)]
  |succ i=>
   simp at h;have:=ih h;simp only [pr,List.flatMap_cons]at*;rw [List.getElem?_append_right (by omega),hq,<-this]
   congr 1
   omega
theorem Bt{L:List (Nd×Value)}{i:Nat}{p p':Nd×Value}(h:L[i]? =some p){j:Nat}(hj:j<5){v:Value}(hp:jS p'.1 p'.2=(jS p.1 p.2).set j v):
 (pr L).set (i*5+j) v=pr (L.set i p'):=by
 induction L generalizing i with
 |nil=>simp at h
 |cons q L ih=>
  have hq:(jS q.1 q.2).length=5:=rfl;cases i with
  |zero=>
   simp at h;subst h;simp only [pr,List.flatMap_cons,List.set_cons_zero];rw [Nat.zero_mul,Nat.zero_add,List.set_append_left _ _ (by omega),hp]
  |succ i=>
   simp at h;have:=ih h;simp only [pr,List.flatMap_cons,List.set_cons_succ]at*;rw [List.set_append_right _ _ (by omega),hq,<-this]
   congr 2
   omega
structure Xt(w:World)(S:Nat->Prop)(p:Nd×Value)(A:Option Addr)(m:Nat):Prop where
 val:p.2=.slice A p.1.ch.length m
 row:Row w 0 iu 1 A p.1.ch.length m (ints p.1.ch)
 kY:∀k,bI A=some k->S k
structure TV(w:World)(S:Nat->Prop)(g:Nat)(T:List Nd)(d:Int)(b c:Nat)(L:List (Nd×Value)):Prop where
 top:w.heap[g]? =some (.cells #[.slice (some ⟨b,0,none⟩) T.length c,.int .i64 d] uA (0,0))
 fst:L.map Prod.fst=T
 row:Row w 0 jO 5 (some ⟨b,0,none⟩) T.length c (pr L)
 ru:∀(i:Nat) (p:Nd×Value),L[i]? =some p->∃A m,Xt w S p A m
 apart:∀(i j:Nat) (p q:Nd×Value),L[i]? =some p->L[j]? =some q->i≠j->∀k,Value.ownBlock p.2=some k->Value.ownBlock q.2≠some k
 iW:S g
 gS:S b
def pG(w:World)(S:Nat->Prop)(g:Nat)(T:List Nd)(d:Int):Prop:=∃b c L,TV w S g T d b c L
section
variable{w w':World}{S S':Nat->Prop}{g:Nat}{T:List Nd}{d:Int}{b c:Nat}{L:List (Nd×Value)}
theorem TV.at_(h:TV w S g T d b c L){i:Nat}{nd:Nd}(hi:T[i]? =some nd):∃v,L[i]? =some (nd,v):=by
 rw [<-h.fst,List.getElem?_map]at hi;cases hL:L[i]? with
 |none=>simp [hL]at hi
 |some p=>
  rw [hL]at hi;simp at hi;exact⟨p.2,by rw [<-hi]⟩
theorem TV.nodes(h:TV w S g T d b c L):w.cell? ⟨g,0,none⟩=some (.slice (some ⟨b,0,none⟩) T.length c):=by rw [aE h.top];rfl
theorem TV.Ju(h:TV w S g T d b c L):w.cell? ⟨g,1,none⟩=some (.int .i64 d):=by rw [aE h.top];rfl
theorem TV.cell(h:TV w S g T d b c L){i:Nat}{p:Nd×Value}(hi:L[i]? =some p){j:Nat}{v:Value}(hj:j<5)(hv:(jS p.1 p.2)[j]? =some v):w.cell? ⟨b,i*5+j,none⟩=some v:=
 Row.cell h.row (by rw [Jr hi hj,hv])
theorem TV.gb(h:TV w S g T d b c L):g≠b:=by
 rintro rfl;obtain⟨_,cur,hc⟩:=Row.bV h.row (k:=g) rfl;rw [h.top]at hc;injection hc with hc;injection hc with _ ht;exact absurd ht (by decide)
theorem Xt.ne{p:Nd×Value}{A:Option Addr}{m:Nat}(h:Xt w S p A m){k:Nat}{cs:Array Value}{t:TypeId}(hk:w.heap[k]? =some (.cells cs t (0,0)))(ht:t≠iu):bI A≠some k:=by
 intro e;obtain⟨_,cur,hc⟩:=Row.bV h.row e;rw [hk]at hc;injection hc with hc;injection hc with _ h2;exact ht h2
theorem TV.wD(h:TV w S g T d b c L):∃cur,w.heap[b]? =some (.cells cur jO (0,0)):=(Row.bV h.row rfl).2
theorem TV.aK{S0:Nat->Prop}(h:TV w S g T d b c L)(hk:Kept S0 w w')(hn:∀k,S k->¬S0 k):TV w' S g T d b c L:= {
 top:=hk.heap h.top (hn g h.iW)
 fst:=h.fst
 row:=Row.aK h.row hk (fun k e=>by cases e;exact hn b h.gS)
 ru:=fun i p hp=>let ⟨A,m,h1⟩:=h.ru i p hp;⟨A,m,h1.val,Row.aK h1.row hk (fun k e=>hn k (h1.kY k e)),h1.kY⟩
 apart:=h.apart
 iW:=h.iW
 gS:=h.gS}
theorem pG.aK{S0:Nat->Prop}(h:pG w S g T d)(hk:Kept S0 w w')(hn:∀k,S k->¬S0 k):pG w' S g T d:=
 let ⟨b,c,L,h⟩:=h;⟨b,c,L,h.aK hk hn⟩
theorem pG.same(h:pG w S g T d)(hk:Kept Nil w w'):pG w' S g T d:=h.aK hk fun _ _ h=>h
theorem TV.lt(h:TV w S g T d b c L):g<w.heap.size:=bf h.top
theorem TV.vm(h:TV w S g T d b c L){i:Nat}{nd nd':Nd}{v:Value}(hi:L[i]? =some (nd,v)){j:Nat}(hj:j<5){u:Value}
 (hc:jS nd' v=(jS nd v).set j u) (pq:nd'.ch=nd.ch):
 Wr w ⟨b,i*5+j,none⟩/\TV (w.setCell ⟨b,i*5+j,none⟩ u) S g (T.set i nd') d b c (L.set i (nd',v)):=by
 have dX:i<L.length:=(lgeS hi).1;have di:i*5+j<(pr L).length:=by rw [uw];omega
 refine⟨Row.wr h.row di,?_⟩;have fP:=Row.set h.row di u;rw [Bt hi hj (p':=(nd',v)) hc]at fP;have hK:Kept (fun k=>k=b) w (w.setCell ⟨b,i*5+j,none⟩ u):=(Kept.refl (fun k=>k=b) w).setCell (p:=⟨b,i*5+j,none⟩) (fun _=>rfl) u;have gZ:∀(k:Nat) (p:Nd×Value),(L.set i (nd',v))[k]? =some p->∃q,L[k]? =some q/\q.2=p.2/\q.1.ch=p.1.ch:=by
  intro k p hp;rw [List.getElem?_set]at hp;by_cases e:i=k
  ·subst e
   rw [if_pos rfl,if_pos dX]at hp;cases hp;exact⟨_,hi,rfl,pq.symm⟩
  ·rw [if_neg e]at hp
   exact⟨p,hp,rfl,rfl⟩
 exact {
  top:=by rw [List.length_set];exact hK.heap h.top h.gb
  fst:=by rw [List.map_set,h.fst]
  row:=by rw [List.length_set];exact fP
  ru:=fun k p hp=>by
   obtain⟨q,hq,h1,h2⟩:=gZ k p hp;obtain⟨A,m,hk⟩:=h.ru k q hq;obtain⟨cur,hb⟩:=h.wD;refine⟨A,m,by rw [<-h1,<-h2];exact hk.val,?_,hk.kY⟩;rw [<-h2];exact Row.aK hk.row hK (fun k e e2=>hk.ne hb (by decide) (by rw [e,e2]))
  apart:=fun k l p q hp hq C0=>by
   obtain⟨p',Lx,h1,_⟩:=gZ k p hp;obtain⟨q',AZ,h2,_⟩:=gZ l q hq;rw [<-h1,<-h2];exact h.apart k l p' q' Lx AZ C0
  iW:=h.iW
  gS:=h.gS}
end
theorem pz(b x y:Nat):((⟨b,0,none⟩:Addr).add x).add y=⟨b,x+y,none⟩:=by rw [bE,bE,Nat.zero_add]
theorem mX(b x:Nat):(⟨b,0,none⟩:Addr).add x=⟨b,x,none⟩:=by rw [bE,Nat.zero_add]
section
variable{w:World}{S:Nat->Prop}{g:Nat}{T:List Nd}{d:Int}{b c:Nat}{L:List (Nd×Value)}
theorem TV.go(h:TV w S g T d b c L){k:Option Addr->Nat->Nat->Prop}(hk:k (some ⟨b,0,none⟩) T.length c):
 ∃A n m,w.cell? ((⟨g,0,none⟩:Addr).add 0)=some (.slice A n m)/\k A n m:=⟨_,_,_,by rw [mX];exact h.nodes,hk⟩
theorem TV.goD(h:TV w S g T d b c L){k:Int->Prop}(hk:k d):∃t,w.cell? ((⟨g,0,none⟩:Addr).add 1)=some (.int .i64 t)/\k t:=
 ⟨_,by rw [mX];exact h.Ju,hk⟩
theorem TV.Jn(h:TV w S g T d b c L){i:Nat}{nd:Nd}{v:Value}(hi:L[i]? =some (nd,v)){k:Int->Prop}(hk:k nd.parent):
 ∃t,w.cell? (((⟨b,0,none⟩:Addr).add (i*5)).add 0)=some (.int .i64 t)/\k t:=⟨_,by rw [pz];exact h.cell hi (by omega) rfl,hk⟩
theorem TV.WY(h:TV w S g T d b c L){i:Nat}{nd:Nd}{v:Value}(hi:L[i]? =some (nd,v)){A:Option Addr}{m:Nat}(hv:v=.slice A nd.ch.length m){k:Option Addr->Nat->Nat->Prop}(hk:k A nd.ch.length m):
 ∃A n m,w.cell? (((⟨b,0,none⟩:Addr).add (i*5)).add 1)=some (.slice A n m)/\k A n m:=⟨_,_,_,by rw [pz];exact h.cell hi (by omega) (by rw [hv];rfl),hk⟩
theorem TV.we(h:TV w S g T d b c L){i:Nat}{nd:Nd}{v:Value}(hi:L[i]? =some (nd,v)){k:Int->Prop}(hk:k nd.lo):
 ∃t,w.cell? (((⟨b,0,none⟩:Addr).add (i*5)).add 2)=some (.int .u64 t)/\k t:=⟨_,by rw [pz];exact h.cell hi (by omega) rfl,hk⟩
theorem TV.Bp(h:TV w S g T d b c L){i:Nat}{nd:Nd}{v:Value}(hi:L[i]? =some (nd,v)){k:Int->Prop}(hk:k nd.hi):
 ∃t,w.cell? (((⟨b,0,none⟩:Addr).add (i*5)).add 3)=some (.int .u64 t)/\k t:=⟨_,by rw [pz];exact h.cell hi (by omega) rfl,hk⟩
theorem TV.zc(h:TV w S g T d b c L){i:Nat}{nd:Nd}{v:Value}(hi:L[i]? =some (nd,v)){k:Int->Prop}(hk:k nd.free):
 ∃t,w.cell? (((⟨b,0,none⟩:Addr).add (i*5)).add 4)=some (.int .u64 t)/\k t:=⟨_,by rw [pz];exact h.cell hi (by omega) rfl,hk⟩
theorem TV.kept{w':World}(h:TV w S g T d b c L)(hk:Kept Nil w w'):TV w' S g T d b c L:=h.aK hk fun _ _ h=>h
end
section
variable{w:World}{S:Nat->Prop}{g:Nat}{T:List Nd}{d:Int}{K:Value->World->Prop}
theorem yB(h:pG w S g T d)(n:Int)(hK:K (.bool (decide (0<=n/\n<T.length))) w):
 bG prog jm.id #[.pointer (some ⟨g,0,none⟩),.int .i64 n] w K:=by
 obtain⟨b,c,L,h⟩:=h;refine jm.of (Split.yes rfl (Split.dec (fun h0=>h.go ?_) (fun h0=>?_)))
 ·rwa [show decide (0<=n/\n<(T.length:Int))=decide (n<(T.length:Int))from by simp [show(0:Int)<=n from h0]]at hK
 ·rwa [decide_eq_false (fun e:0<=n/\n<(T.length:Int)=>h0 e.1)]at hK
theorem Hy(h:pG w S g T d)(hT:0<T.length)(n:Int)(hK:K (.int .i64 (if 0<=n/\n<T.length then 0 else 6)) w):
 bG prog hU.id #[.pointer (some ⟨g,0,none⟩),.int .i64 n] w K:=by
 have h0:=h;obtain⟨b,c,L,h⟩:=h;refine hU.of (Split.no rfl (h.go (Split.no (beq_eq_false_iff_ne.2 (by omega)) (yB h0 n ⟨_,rfl,?_⟩))));by_cases hn:0<=n/\n<(T.length:Int)
 ·rw [if_pos hn]at hK
  exact Split.no (by simp [hn]) hK
 ·rw [if_neg hn]at hK
  exact Split.yes (by simp only [decide_eq_false hn];rfl) hK
theorem tP(h:pG w S g T d){n:Nat}(hn:n<T.length)(hK:K (.int .i64 0) w):
 bG prog hU.id #[.pointer (some ⟨g,0,none⟩),.int .i64 n] w K:=Hy h (by omega) n (by rw [if_pos ⟨by omega,by omega⟩];exact hK)
theorem Fm(h:pG w S g T d){n:Nat}{nd:Nd}(hn:T[n]? =some nd)(hK:∀w',Kept Nil w w'->K (.int .u64 (u64.wrap (nd.hi-nd.free))) w'):
 bG prog gA.id #[.pointer (some ⟨g,0,none⟩),.int .i64 n] w K:=by
 obtain⟨b,c,L,h⟩:=h;have di:n<T.length:=(lgeS hn).1;obtain⟨v,hv⟩:=h.at_ hn;refine gA.of ?_;unfold gA.W;intro w1;have k1:Kept Nil w w1:=(Kept.refl Nil w).drew;have h1:=h.kept k1;have hb:0<=(n:Int)/\(n:Int)<(T.length:Int):=⟨by omega,by omega⟩;exact h1.go ⟨hb,h1.Bp hv (h1.go ⟨hb,h1.zc hv (hK w1 k1)⟩)⟩
theorem zR(h:pG w S g T d){n:Nat}{nd:Nd}(hn:T[n]? =some nd)(h0:0<n)(hK:K (.tuple #[.int .i64 nd.parent,.int .i64 0]) w):
 bG prog fY.id #[.pointer (some ⟨g,0,none⟩),.int .i64 n] w K:=by
 have di:n<T.length:=(lgeS hn).1;refine fY.of (tP h di ⟨_,rfl,Split.yes rfl (Split.no (beq_eq_false_iff_ne.2 (by omega)) (Split.no rfl ?_))⟩);obtain⟨b,c,L,h⟩:=h;obtain⟨v,hv⟩:=h.at_ hn;exact h.go ⟨⟨by omega,by omega⟩,h.Jn hv hK⟩
theorem MD:zF prog jP iu 1 8:=⟨by kernel_rfl,by kernel_rfl⟩
theorem yD:zF prog ji jO 5 56:=⟨by kernel_rfl,by kernel_rfl⟩
end
theorem gm{x:Int}(h0:0<=x)(h1:x<18446744073709551616):u64.wrap x=x:=by
 simp only [IntKind.wrap,IntKind.bits,IntKind.signed];simp;omega
theorem jb{x:Int}(h0: -9223372036854775808<=x)(h1:x<9223372036854775808):i64.wrap x=x:=by
 simp only [IntKind.wrap,IntKind.bits,IntKind.signed];simp;omega
def wa(T:List Nd)(n p:Nat)(nd pd:Nd)(many:Int):List Nd:=
 (T.set n {nd with lo:=pd.free,hi:=pd.free+many-1,free:=pd.free}).set p {pd with free:=pd.free+many}
section
variable{w:World}{S:Nat->Prop}{g:Nat}{T:List Nd}{d:Int}{K:Value->World->Prop}
theorem jt{α:Type}{L:List α}{i:Nat}{x y:α}(h:L[i]? =some x):(L.set i y)[i]? =some y:=by
 rw [List.getElem?_set_self (lgeS h).1]
theorem oS{α:Type}{L:List α}{i j:Nat}{x y:α}(h:L[j]? =some x)(fX:i≠j):(L.set i y)[j]? =some x:=by
 rw [List.getElem?_set_ne fX];exact h
theorem vc{b c:Nat}{L:List (Nd×Value)}(h:TV w S g T d b c L){n p:Nat}{nd pd:Nd}{many:Int}(hn:T[n]? =some nd)(hp:T[p]? =some pd)(RT:nd.parent=p)(fX:n≠p)
 (hf:0<=pd.free) (hm:1<=many) (hfm:pd.free+many<18446744073709551616)
 (hK:∀w' L',TV w' S g (wa T n p nd pd many) d b c L'->Kept (fun k=>k=b) w w'->K (.tuple #[]) w'):
 bG prog gB.id #[.pointer (some ⟨g,0,none⟩),.int .i64 n,.int .u64 many] w K:=by
 have zB:n<T.length:=(lgeS hn).1;have rQ:p<T.length:=(lgeS hp).1;obtain⟨v,hv⟩:=h.at_ hn;obtain⟨u,hu⟩:=h.at_ hp;have Yx:0<=(n:Int)/\(n:Int)<(T.length:Int):=⟨by omega,by omega⟩;have NQ:0<=nd.parent/\nd.parent<(T.length:Int):=by rw [RT];exact⟨by omega,by omega⟩
 refine gB.of (h.go ⟨Yx,Is.mk rfl ?_⟩);intro w7;have k7:Kept (fun k=>k=b) w w7:=(Kept.refl _ w).drew;have h7:TV w7 S g T d b c L:=h.kept (Kept.refl Nil w).drew;refine h7.go (h7.Jn hv ⟨NQ,Is.mk rfl ?_⟩);rw [RT];refine h7.zc hu ?_;obtain⟨Za,BW⟩:=h7.vm hv (j:=2) (by omega) (u:=.int .u64 pd.free) (nd':= {nd with lo:=pd.free}) rfl rfl;have kS:∀ {w w':World},Kept (fun k=>k=b) w w'->∀(j:Nat) (u:Value),Kept (fun k=>k=b) w (w'.setCell ⟨b,j,none⟩ u):=fun k j u=>k.setCell (fun _=>rfl) u;have v1:(L.set n ({nd with lo:=pd.free},v))[n]? =some ({nd with lo:=pd.free},v):=jt hv;refine⟨by rw [pz];exact Za,?_⟩;intro pD;have e13:pD=w7.setCell ⟨b,n*5+2,none⟩ (.int .u64 pd.free):=by simp only [pD,pz,Int.toNat_natCast]
 have CD:Kept (fun k=>k=b) w pD:=by rw [e13];exact kS k7 _ _
 rw [<-e13]at BW;clear_value pD;refine BW.we v1 ?_;obtain⟨wr2,GA⟩:=BW.vm v1 (j:=3) (by omega) (u:=.int .u64 (u64.wrap (u64.wrap (pd.free+many)-1))) (nd':= {nd with lo:=pd.free,hi:=pd.free+many-1}) (by rw [gm (x:=pd.free+many) (by omega) (by omega),gm (by omega) (by omega)];rfl) rfl;refine⟨by rw [pz];exact wr2,?_⟩;intro nX;have e15:nX=pD.setCell ⟨b,n*5+3,none⟩ (.int .u64 (u64.wrap (u64.wrap (pd.free+many)-1))):=by simp only [nX,pz,Int.toNat_natCast]
 have uc:Kept (fun k=>k=b) w nX:=by rw [e15];exact kS CD _ _
 rw [<-e15]at GA;clear_value nX;rw [List.set_set,List.set_set]at GA;have v2:(L.set n ({nd with lo:=pd.free,hi:=pd.free+many-1},v))[n]? =some ({nd with lo:=pd.free,hi:=pd.free+many-1},v):=jt hv;refine GA.we v2 ?_;obtain⟨Y9,Kn⟩:=GA.vm v2 (j:=4) (by omega) (u:=.int .u64 pd.free) (nd':= {nd with lo:=pd.free,hi:=pd.free+many-1,free:=pd.free}) rfl rfl;refine⟨by rw [pz];exact Y9,?_⟩;intro xE;have e17:xE=nX.setCell ⟨b,n*5+4,none⟩ (.int .u64 pd.free):=by simp only [xE,pz,Int.toNat_natCast]
 have Ij:Kept (fun k=>k=b) w xE:=by rw [e17];exact kS uc _ _
 rw [<-e17]at Kn;clear_value xE;rw [List.set_set,List.set_set]at Kn;have u3:(L.set n ({nd with lo:=pd.free,hi:=pd.free+many-1,free:=pd.free},v))[p]? =some (pd,u):=oS hu fX;refine Kn.zc u3 ?_;obtain⟨wr4,WU⟩:=Kn.vm u3 (j:=4) (by omega) (u:=.int .u64 (u64.wrap (pd.free+many))) (nd':= {pd with free:=pd.free+many}) (by rw [gm (by omega) (by omega)];rfl) rfl;refine⟨by rw [pz];exact wr4,?_⟩;intro pC;have e19:pC=xE.setCell ⟨b,p*5+4,none⟩ (.int .u64 (u64.wrap (pd.free+many))):=by simp only [pC,pz,Int.toNat_natCast]
 exact hK pC _ (by rw [e19];exact WU) (by rw [e19];exact kS Ij _ _)
theorem Fo(h:pG w S g T d){n p:Nat}{nd pd:Nd}{many:Int}(hn:T[n]? =some nd)(hp:T[p]? =some pd)(RT:nd.parent=p)(fX:n≠p)
 (hf:0<=pd.free) (hm:1<=many) (hfm:pd.free+many<18446744073709551616)
 (hK:∀w',pG w' S g (wa T n p nd pd many) d->Kept S w w'->K (.tuple #[]) w'):
 bG prog gB.id #[.pointer (some ⟨g,0,none⟩),.int .i64 n,.int .u64 many] w K:=by
 obtain⟨b,c,L,h⟩:=h;exact vc h hn hp RT fX hf hm hfm fun w' L' h' k'=>hK w' ⟨b,c,L',h'⟩ (k'.mono fun k _ e=>by rw [e];exact h.gS)
end
section
variable{w:World}{S:Nat->Prop}{g:Nat}{T:List Nd}{d:Int}{b c:Nat}{L:List (Nd×Value)}
theorem Bu(L M:List (Nd×Value)):pr (L++M)=pr L++pr M:=by simp [pr]
theorem TV.Jm(h:TV w S g T d b c L)(mG:T.length<=1000000)(p:Int){w10:World}
 (e10:w10=w.alloc (.cells #[.int .i64 p,.slice none 0 0,.int .u64 0,.int .u64 0,.int .u64 0] jO)):
 ∃A c' nx,(Builtin.append_ #[ji,ji] ji #[.slice (some ⟨b,0,none⟩) T.length c,.slice (some ⟨w.heap.size,0,none⟩) 1 1]).run prog w10=.ok (.slice A (T.length+1) c') nx/\
  Wr nx ⟨g,0,none⟩/\∃b' S' L',TV (nx.setCell ⟨g,0,none⟩ (.slice A (T.length+1) c')) S' g (T++ [⟨p,[],0,0,0⟩]) d b' c' L'/\(∀(i:Nat) q,L[i]? =some q->L'[i]? =some q)/\
   Kept S w (nx.setCell ⟨g,0,none⟩ (.slice A (T.length+1) c'))/\(∀k,S k->S' k)/\(∀k,S' k->S k\/w.heap.size<=k):=by
 subst e10;generalize PL:w.alloc (.cells #[.int .i64 p,.slice none 0 0,.int .u64 0,.int .u64 0,.int .u64 0] jO)=w10;have nQ:w10.heap[w.heap.size]? =some (.cells #[.int .i64 p,.slice none 0 0,.int .u64 0,.int .u64 0,.int .u64 0] jO (0,0)):=by rw [<-PL];exact aM w _
 have rP:Kept Nil w w10:=by rw [<-PL];exact(Kept.refl Nil w).alloc _
 have Lp:w10.heap.size=w.heap.size+1:=by rw [<-PL];simp
 have uW:=h.kept rP;obtain⟨A,c',nx,hr,fP,hg,C9⟩:=fZ (P:=prog) (t:=ji) (ty:=ji) yD uW.row (a:=⟨w.heap.size,0,none⟩) (m:=1) (cx:=1)
  (news:=jS ⟨p,[],0,0,0⟩ (.slice none 0 0)) rfl (fun j u hj=>by rw [mX,aE nQ];simpa [jS]using hj) (by intro u hu;simp [jS]at hu;rcases hu with rfl|rfl|rfl|rfl|rfl<;>rfl)
  (by omega) (by unfold maxLen;omega) (Nat.zero_le _)
 obtain⟨b',rfl⟩:=Row.some fP (by omega);have kb:Kept (fun k=>k=b) w10 nx:=(Kept.refl _ w10).grown hg (fun k hk _=>by cases hk;rfl);have jK:nx.heap[g]? =some (.cells #[.slice (some ⟨b,0,none⟩) T.length c,.int .i64 d] uA (0,0)):=kb.heap uW.top h.gb;refine⟨_,c',nx,hr,dQ jK (show 0<2 by omega),?_⟩;generalize TZ:nx.setCell ⟨g,0,none⟩ (.slice (some ⟨b',0,none⟩) (T.length+1) c')=wf;have kg:Kept (fun k=>k=g) nx wf:=by rw [<-TZ];exact(Kept.refl (fun k=>k=g) nx).setCell (p:=⟨g,0,none⟩) (fun _=>rfl) _
 have uJ:b'=b\/w10.heap.size<=b':=by
  rcases C9 b' rfl with h|h
  ·left;cases h;rfl
  ·exact .inr h
 have acB:b'≠g:=by
  rintro rfl;obtain⟨_,cur,hc⟩:=Row.bV fP (k:=b') rfl;rw [jK]at hc;injection hc with hc;injection hc with _ ht;exact absurd ht (by decide)
 have Gs:∀(i:Nat) (q:Nd×Value),L[i]? =some q->∃A m,Xt wf S q A m:=by
  intro i q hq;obtain⟨A,m,hk⟩:=uW.ru i q hq;obtain⟨cur,R1⟩:=uW.wD;have r1:=Row.aK hk.row kb (fun k e e2=>hk.ne R1 (by decide) (by rw [e,e2]));have r2:=Row.aK r1 kg (fun k e e2=>hk.ne uW.top (by decide) (by rw [e,e2]));exact⟨A,m,hk.val,r2,hk.kY⟩
 refine⟨b',fun k=>S k\/k=b',L++ [(⟨p,[],0,0,0⟩,.slice none 0 0)],?_,fun i q hq=>?_,?_,fun k hk=>.inl hk,?_⟩
 ·exact {
   top:=by
    have:=du jK 0 (.slice (some ⟨b',0,none⟩) (T.length+1) c');rw [TZ]at this;simpa using this
   fst:=by simp [h.fst]
   row:=by
    rw [Bu,List.length_append];have:=Row.aK fP kg (fun k e e2=>acB (by cases e;exact e2));simpa [pr]using this
   ru:=fun i q hq=>by
    rw [List.getElem?_append]at hq;split at hq
    ·obtain⟨A,m,hk⟩:=Gs i q hq
     exact⟨A,m,hk.val,hk.row,fun k e=>.inl (hk.kY k e)⟩
    ·rename_i di
     have:i-L.length=0:=by
      rcases Nat.eq_zero_or_pos (i-L.length)with h|h
      ·exact h
      ·rw [List.getElem?_eq_none (by simp;omega)]at hq;cases hq
     rw [this]at hq;simp at hq;subst hq;exact⟨none,0,rfl,Row.nil _ _ _ _,fun k e=>by cases e⟩
   apart:=fun i j q q' hq AZ sG k hk o7=>by
    rw [List.getElem?_append]at hq AZ;have last:∀(x:Nat) (r:Nd×Value),[((⟨p,[],0,0,0⟩:Nd),Value.slice none 0 0)][x]? =some r->r.2=.slice none 0 0:=by
     intro x r hr;cases x with
     |zero=>simp at hr;subst hr;rfl
     |succ x=>simp at hr
    split at hq<;>split at AZ
    ·exact h.apart i j q q' hq AZ sG k hk o7
    ·rw [last _ _ AZ]at o7;cases o7
    ·rw [last _ _ hq]at hk;cases hk
    ·rw [last _ _ AZ]at o7;cases o7
   iW:=.inl h.iW
   gS:=.inr rfl}
 ·rw [List.getElem?_append_left (lgeS hq).1];exact hq
 ·have zw:Kept S w nx:=(rP.mono (S':=S) (fun _ _ h=>h.elim)).trans kb (fun k _ e=>by rw [e];exact h.gS)
  exact zw.trans kg (fun k _ e=>by rw [e];exact h.iW)
 ·rintro k (hk|rfl)
  ·exact .inl hk
  ·rcases uJ with rfl|uJ
   ·exact .inl h.gS
   ·right;omega
theorem TV.Mc(h:TV w S g T d b c L){p:Nat}{nd:Nd}{v:Value}(hp:L[p]? =some (nd,v)){A:Option Addr}{m:Nat}(hk:Xt w S (nd,v) A m)(mG:nd.ch.length<=1000000)(n:Nat){w22:World}
 (e22:w22=w.alloc (.cells #[.int .i64 n] iu)):
 ∃A' c' mD,(Builtin.append_ #[jP,jP] jP #[.slice A nd.ch.length m,.slice (some ⟨w.heap.size,0,none⟩) 1 1]).run prog w22=.ok (.slice A' (nd.ch.length+1) c') mD/\
  mD.cell? ⟨g,0,none⟩=some (.slice (some ⟨b,0,none⟩) T.length c)/\Wr mD ⟨b,p*5+1,none⟩/\
  ∃S' L',TV (mD.setCell ⟨b,p*5+1,none⟩ (.slice A' (nd.ch.length+1) c')) S' g (T.set p {nd with ch:=nd.ch++ [n]}) d b c L'/\
   Kept S w (mD.setCell ⟨b,p*5+1,none⟩ (.slice A' (nd.ch.length+1) c'))/\(∀k,S k->S' k)/\(∀k,S' k->S k\/w.heap.size<=k):=by
 subst e22;generalize PK:w.alloc (.cells #[.int .i64 n] iu)=w22;have nQ:w22.heap[w.heap.size]? =some (.cells #[.int .i64 n] iu (0,0)):=by rw [<-PK];exact aM w _
 have TJ:Kept Nil w w22:=by rw [<-PK];exact(Kept.refl Nil w).alloc _
 have aiN:w22.heap.size=w.heap.size+1:=by rw [<-PK];simp
 have Dd:=h.kept TJ;have PX:=Row.aK hk.row TJ (fun _ _ h=>h);have rQ:p<L.length:=(lgeS hp).1;obtain⟨A',c',mD,hr,fP,hg,C9⟩:=fZ (P:=prog) (t:=jP) (ty:=jP) MD PX (a:=⟨w.heap.size,0,none⟩) (m:=1) (cx:=1)
  (news:=ints [n]) rfl (fun j u hj=>by rw [mX,aE nQ];simpa [ints]using hj) (by intro u hu;simp [ints]at hu;subst hu;rfl)
  (by simp only;omega) (by unfold maxLen;simp only;omega) (Nat.zero_le _)
 obtain⟨cur,R1⟩:=Dd.wD;obtain⟨ald,hb0⟩:=h.wD;have NC:bI A≠some b:=hk.ne hb0 (by decide);have hkg:bI A≠some g:=hk.ne h.top (by decide);have kA:Kept (fun k=>bI A=some k) w22 mD:=(Kept.refl _ w22).grown hg (fun k hk _=>hk);have Jl:Row mD 0 jO 5 (some ⟨b,0,none⟩) T.length c (pr L):=Row.aK Dd.row kA (fun k e e2=>NC (by rw [e2,<-e];rfl));have Jk:=kA.heap Dd.top (fun e=>hkg e);have di:p*5+1<(pr L).length:=by rw [uw];omega
 refine⟨A',c',mD,hr,by rw [aE Jk];rfl,Row.wr Jl di,?_⟩;generalize TZ:mD.setCell ⟨b,p*5+1,none⟩ (.slice A' (nd.ch.length+1) c')=wf;have kB:Kept (fun k=>k=b) mD wf:=by rw [<-TZ];exact(Kept.refl (fun k=>k=b) mD).setCell (p:=⟨b,p*5+1,none⟩) (fun _=>rfl) _
 have ada:bI A'≠some b:=by
  intro e;obtain⟨_,Xb,hc⟩:=Row.bV fP e;have:=kA.heap R1 NC;rw [this]at hc;injection hc with hc;injection hc with _ ht;exact absurd ht (by decide)
 have sF:∀(A:Option Addr) n m,Value.ownBlock (.slice A n m)=bI A:=by intro A n m;cases A<;>rfl
 have gZ:∀(i:Nat) (q:Nd×Value),(L.set p ({nd with ch:=nd.ch++ [n]},.slice A' (nd.ch.length+1) c'))[i]? =some q->(i=p/\q=({nd with ch:=nd.ch++ [n]},.slice A' (nd.ch.length+1) c'))\/(i≠p/\L[i]? =some q):=by
  intro i q hq;by_cases e:p=i
  ·subst e
   rw [List.getElem?_set_self rQ]at hq;cases hq;exact .inl ⟨rfl,rfl⟩
  ·rw [List.getElem?_set_ne e]at hq
   exact .inr ⟨fun h=>e h.symm,hq⟩
 have Nv:∀k,bI A'=some k->∀(i:Nat) (q:Nd×Value),i≠p->L[i]? =some q->Value.ownBlock q.2≠some k:=by
  intro k o7 i q hi hq hqk;rcases C9 k o7 with e|e
  ·exact h.apart p i _ _ hp hq (fun e=>hi e.symm) k (by rw [hk.val,sF];exact e) hqk
  ·obtain⟨A2,m2,o5⟩:=h.ru i q hq
   rw [o5.val,sF]at hqk;obtain⟨_,alc,I3⟩:=Row.bV o5.row hqk;have:=bf I3;omega
 refine⟨fun k=>S k\/bI A'=some k,L.set p ({nd with ch:=nd.ch++ [n]},.slice A' (nd.ch.length+1) c'),?_,?_,fun k hk=>.inl hk,?_⟩
 ·exact {
   top:=by rw [List.length_set];exact kB.heap Jk h.gb
   fst:=by rw [List.map_set,h.fst]
   row:=by
    rw [List.length_set];have:=Row.set Jl di (.slice A' (nd.ch.length+1) c');rw [TZ,Bt hp (j:=1) (by omega) (p':=({nd with ch:=nd.ch++ [n]},.slice A' (nd.ch.length+1) c')) rfl]at this;exact this
   ru:=fun i q hq=>by
    rcases gZ i q hq with⟨rfl,rfl⟩|⟨hi,hq⟩
    ·refine⟨A',c',by simp,?_,fun k e=>.inr e⟩
     have:=Row.aK fP kB (fun k e e2=>ada (by rw [e,e2]));simpa [ints]using this
    ·obtain⟨A2,m2,o5⟩:=Dd.ru i q hq
     have r1:=Row.aK o5.row kA (fun k e e2=>h.apart p i _ _ hp hq (fun e=>hi e.symm) k (by rw [hk.val,sF];exact e2) (by rw [o5.val,sF];exact e));have r2:=Row.aK r1 kB (fun k e e2=>o5.ne R1 (by decide) (by rw [e,e2]));exact⟨A2,m2,o5.val,r2,fun k e=>.inl (o5.kY k e)⟩
   apart:=fun i j q q' hq AZ sG k Ki o5=>by
    rcases gZ i q hq with⟨e1,e2⟩|⟨hi,Np⟩<;>rcases gZ j q' AZ with⟨e3,e4⟩|⟨hj,RQ⟩
    ·exact sG (e1.trans e3.symm)
    ·rw [e2,sF]at Ki;exact Nv k Ki j q' hj RQ o5
    ·rw [e4,sF]at o5;exact Nv k o5 i q hi Np Ki
    ·exact h.apart i j q q' Np RQ sG k Ki o5
   iW:=.inl h.iW
   gS:=.inl h.gS}
 ·have rO:Kept S w mD:=(TJ.mono (S':=S) (fun _ _ h=>h.elim)).trans kA (fun k _ e=>hk.kY k e)
  exact rO.trans kB (fun k _ e=>by rw [e];exact h.gS)
 ·rintro k (o7|o7)
  ·exact .inl o7
  ·rcases C9 k o7 with e|e
   ·exact .inl (hk.kY k e)
   ·right;omega
end
def grown(T:List Nd)(p:Nat)(pd:Nd):List Nd:=(T++ [(⟨p,[],0,0,0⟩:Nd)]).set p {pd with ch:=pd.ch++ [T.length]}
def jL(pd:Nd):Int:=(pd.hi-pd.free+1)/2
def added(T:List Nd)(p:Nat)(pd:Nd):List Nd:=wa (grown T p pd) T.length p ⟨p,[],0,0,0⟩ {pd with ch:=pd.ch++ [T.length]} (jL pd)
section
variable{w:World}{S:Nat->Prop}{g:Nat}{T:List Nd}{d:Int}{K:Value->World->Prop}
theorem vd(h:pG w S g T d){p:Nat}{pd:Nd}(hp:T[p]? =some pd)(mG:T.length<=1000000)(pq:pd.ch.length<=1000000)
 (hf:0<=pd.free) (hfh:pd.free<=pd.hi) (hh:pd.hi<=4611686018427387904)
 (hK1:pd.free<pd.hi->∀w' S',pG w' S' g (added T p pd) d->Kept S w w'->(∀k,S' k->S k\/w.heap.size<=k)->K (.tuple #[.int .i64 T.length,.int .i64 0]) w')
 (hK2:pd.free=pd.hi->∀w' S',pG w' S' g (grown T p pd) d->Kept S w w'->(∀k,S' k->S k\/w.heap.size<=k)->
   bG prog aA.id #[.pointer (some ⟨g,0,none⟩),.int .i64 p] w' fun v mE=>v=.tuple #[]/\K (.tuple #[.int .i64 T.length,.int .i64 0]) mE):
 bG prog hZ.id #[.pointer (some ⟨g,0,none⟩),.int .i64 p] w K:=by
 have di:p<T.length:=(lgeS hp).1;refine hZ.of (tP h di ⟨_,rfl,Split.no rfl ?_⟩);obtain⟨b,c,L,h⟩:=h;obtain⟨v,hv⟩:=h.at_ hp;refine h.go (h.go ⟨rfl,?_⟩);intro w10;obtain⟨A1,c1,nx,nE,Za,b1,S1,L1,YI,hL1,JZ,hS1,WE⟩:=h.Jm mG (p:Int) (w10:=w10) rfl;refine⟨A1,_,c1,nx,nE,by rw [mX];exact Za,?_⟩;intro jl;have e14:jl=nx.setCell ⟨g,0,none⟩ (.slice A1 (T.length+1) c1):=by simp only [jl,mX]
 rw [<-e14]at YI JZ;clear_value jl;intro nX;have uc:Kept Nil jl nX:=(Kept.refl Nil jl).drew;have GA:=YI.kept uc;have Kc:=hL1 _ _ hv;have hlen:(T++ [(⟨p,[],0,0,0⟩:Nd)]).length=T.length+1:=by simp
 have NV:0<=(p:Int)/\(p:Int)<((T++ [(⟨p,[],0,0,0⟩:Nd)]).length:Int):=by rw [hlen];exact⟨by omega,by omega⟩
 obtain⟨A2,m2,hk⟩:=GA.ru _ _ Kc;refine GA.go (GA.go ⟨NV,GA.WY Kc hk.val ?_⟩);intro w22;have TJ:Kept Nil nX w22:=(Kept.refl Nil nX).alloc _;have Dd:=GA.kept TJ;obtain⟨A3,c3,mD,yY,UU,Y9,S3,L3,YH,Ge,hS3,acN⟩:=GA.Mc Kc hk pq T.length (w22:=w22) rfl;have Bf:=Dd.cell Kc (j:=1) (by omega) (v:=v) rfl;have hvv:v=.slice A2 pd.ch.length m2:=hk.val;rw [hvv]at Bf;refine⟨by rw [pz];exact Bf,by rw [mX];exact Dd.nodes,by rw [mX];exact Dd.nodes,A3,_,c3,mD,yY,by rw [mX];exact UU,NV,by rw [pz];exact Y9,?_⟩;intro q9;have e26:q9=mD.setCell ⟨b1,p*5+1,none⟩ (.slice A3 (pd.ch.length+1) c3):=by simp only [q9,pz,Int.toNat_natCast]
 rw [<-e26]at YH Ge;clear_value q9;have Ln:(T++ [(⟨p,[],0,0,0⟩:Nd)]).set p {pd with ch:=pd.ch++ [T.length]}=grown T p pd:=rfl;rw [Ln]at YH;have hgp:(grown T p pd)[p]? =some {pd with ch:=pd.ch++ [T.length]}:=by
  unfold grown;rw [List.getElem?_set_self (by simp;omega)]
 have hgn:(grown T p pd)[T.length]? =some ⟨p,[],0,0,0⟩:=by
  unfold grown;rw [List.getElem?_set_ne (by omega)];simp
 have kw:Kept S w q9:=(JZ.tt (uc.mono (S':=S) (fun _ _ h=>h.elim))).trans Ge (fun k hk h=>by
  rcases WE k h with h|h
  ·exact h
  ·omega)
 have QV:∀k,S3 k->S k\/w.heap.size<=k:=fun k h=>by
  rcases acN k h with h|h
  ·exact WE k h
  ·right
   have:=JZ.size;have:=uc.size;omega
 refine Fm ⟨_,_,_,YH⟩ hgp fun G6 Ic=>⟨_,rfl,?_⟩;have h28:=YH.kept Ic;have Ti:Kept S w G6:=kw.trans Ic (fun _ _ h=>h.elim);simp only [];rw [gm (x:=pd.hi-pd.free) (by omega) (by omega)];refine Split.dec (fun jT=>⟨by decide,?_⟩) (fun jT=>?_)
 ·have EK:u64.wrap ((u64.wrap (pd.hi-pd.free+1)).tdiv 2)=jL pd:=by
   rw [gm (x:=pd.hi-pd.free+1) (by omega) (by omega),Int.tdiv_eq_ediv_of_nonneg (by omega),gm (by omega) (by omega)];rfl
  rw [EK];refine Fo ⟨_,_,_,h28⟩ hgn hgp rfl (by omega) hf (by unfold jL;omega) (by unfold jL;simp only;omega) fun Hr h31 MW=>⟨rfl,?_⟩;refine hK1 (by omega) Hr S3 h31 (Ti.trans MW fun k hk h=>?_) QV;rcases QV k h with h|h
  ·exact h
  ·omega
 ·exact hK2 (by omega) G6 S3 ⟨_,_,_,h28⟩ Ti QV
end
section
variable{w:World}{S:Nat->Prop}{g:Nat}{T:List Nd}{d:Int}{K:Value->World->Prop}
def qP:List Nd:= [⟨-1,[],1,4611686018427387904,1⟩]
theorem fy(hK:∀w' g,pG w' (fun k=>w.heap.size<=k) g qP 0->Kept Nil w w'->K (.pointer (some ⟨g,0,none⟩)) w'):bG prog fy.id #[] w K:=by
 refine fy.of ⟨rfl,?_⟩;intro w1 w2;have k1:Kept Nil w w1:=(Kept.refl Nil w).alloc _;have k2:Kept Nil w w2:=k1.alloc _;refine hK w2 w1.heap.size ⟨w.heap.size,1,[(⟨-1,[],1,4611686018427387904,1⟩,.slice none 0 0)],?_⟩ k2;exact {
  top:=aM w1 _
  fst:=rfl
  row:=Row.made (n:=1) (cur:= #[.int .i64 (-1),.slice none 0 0,.int .u64 1,.int .u64 4611686018427387904,.int .u64 1]) (ly (aM w _) _) (Nat.zero_le _) rfl (by decide)
  ru:=fun i p hp=>by
   cases i with
   |zero=>simp at hp;subst hp;exact⟨none,0,rfl,Row.nil _ _ _ _,fun k e=>by cases e⟩
   |succ i=>simp at hp
  apart:=fun i j p q hp hq sG=>by
   cases i<;>cases j<;>simp at hp hq
   exact absurd rfl sG
  iW:=k1.size
  gS:=Nat.le_refl _}
theorem Cd(h:pG w S g T d){a b:Nat}{ad bd:Nd}(ha:T[a]? =some ad)(hb:T[b]? =some bd)(hK:∀w',Kept Nil w w'->K (.bool (decide (bd.lo<=ad.lo/\ad.hi<=bd.hi))) w'):
 bG prog fQ.id #[.pointer (some ⟨g,0,none⟩),.int .i64 a,.int .i64 b] w K:=by
 have hal:a<T.length:=(lgeS ha).1;have C9:b<T.length:=(lgeS hb).1;have hba:0<=(a:Int)/\(a:Int)<(T.length:Int):=⟨by omega,by omega⟩;have xl:0<=(b:Int)/\(b:Int)<(T.length:Int):=⟨by omega,by omega⟩;refine fQ.of ?_;unfold fQ.W;intro w4;have k4:Kept Nil w w4:=(Kept.refl Nil w).drew;have h4:=h.same k4;have hk:=hK w4 k4;refine yB h4 a ⟨_,rfl,Split.yes (decide_eq_true hba) ?_⟩;refine yB h4 b ⟨_,rfl,Split.yes (decide_eq_true xl) ?_⟩;obtain⟨p,c,L,h4⟩:=h4;obtain⟨va,hva⟩:=h4.at_ ha;obtain⟨vb,hvb⟩:=h4.at_ hb;refine h4.go ⟨xl,h4.we hvb (h4.go ⟨hba,h4.we hva ?_⟩)⟩;refine Split.dec (fun h1=>h4.go ⟨hba,h4.Bp hva (h4.go ⟨xl,h4.Bp hvb ?_⟩)⟩) (fun h1=>?_)
 ·rwa [show decide (bd.lo<=ad.lo/\ad.hi<=bd.hi)=decide (ad.hi<=bd.hi)from by simp [h1]]at hk
 ·rwa [decide_eq_false (fun e:bd.lo<=ad.lo/\ad.hi<=bd.hi=>h1 e.1)]at hk
end
section
variable{w:World}{t:Option Addr}{K:Value->World->Prop}
end
end Go.Proofs.YtfleamccglihoaaGreatDoor.Tr
namespace Go.Proofs.YtfleamccglihoaaGreatDoor.Tr
open Go.Proofs.Tryz
def b9(T:List Nd):List Int:=T.map (·.parent)
structure oW(P:List Int):Prop where
 root:P[0]? =some (-1)
 up:∀(i:Nat) (p:Int),0<i->P[i]? =some p->∃j:Nat,j<i/\p=j
def kids(P:List Int)(i:Nat):List Nat:=(List.range P.length).filter fun j=>P[j]? ==some (i:Int)
theorem fD{P:List Int}{i j:Nat}:j∈kids P i↔P[j]? =some (i:Int):=by
 simp only [kids,List.mem_filter,List.mem_range,beq_iff_eq];exact⟨fun h=>h.2,fun h=>⟨(lgeS h).1,h⟩⟩
theorem jA{P:List Int}(hP:oW P){i j:Nat}(h:j∈kids P i):i<j/\j<P.length:=by
 rw [fD]at h;refine⟨?_,(lgeS h).1⟩;rcases Nat.eq_zero_or_pos j with rfl|hj
 ·rw [hP.root]at h;have:=Option.some.inj h;omega
 ·obtain⟨k,hk,e⟩:=hP.up j _ hj h
  omega
theorem ub(P:List Int)(i:Nat):(kids P i).Pairwise (· < ·):=List.Pairwise.filter _ (List.pairwise_lt_range)
theorem AM(P:List Int)(i:Nat):(kids P i).length<=P.length:=by
 unfold kids;exact Nat.le_trans (List.length_filter_le _ _) (by simp)
inductive kZ (P:List Int):Nat->Nat->Prop
 |refl {i:Nat}:i<P.length->kZ P i i
 |step {i j k:Nat}:P[i]? =some (j:Int)->kZ P j k->kZ P i k
theorem kZ.lt{P:List Int}{i k:Nat}(h:kZ P i k):i<P.length:=by
 cases h with
 |refl h=>exact h
 |step h _=>exact(lgeS h).1
theorem kZ.XG{P:List Int}{i k:Nat}(h:kZ P i k):k<P.length:=by
 induction h with
 |refl h=>exact h
 |step _ _ ih=>exact ih
theorem kZ.le{P:List Int}(hP:oW P){i k:Nat}(h:kZ P i k):k<=i:=by
 induction h with
 |refl=>omega
 |step h _ ih=>have:=(jA hP (fD.2 h)).1;omega
theorem kZ.trans{P:List Int}{i j k:Nat}(h:kZ P i j)(h':kZ P j k):kZ P i k:=by
 induction h with
 |refl=>exact h'
 |step h _ ih=>exact .step h (ih h')
theorem kZ.inv{P:List Int}{i j k:Nat}(h:kZ P i k)(fX:i≠k)(hj:P[i]? =some (j:Int)):kZ P j k:=by
 cases h with
 |refl=>exact absurd rfl fX
 | @step _ j' _ h h'=>
   rw [hj]at h;have e:j=j':=by have:=Option.some.inj h;omega
   rw [e];exact h'
theorem kZ.child{P:List Int}{i k:Nat}(h:kZ P i k)(fX:i≠k):∃c,c∈kids P k/\kZ P i c:=by
 induction h with
 |refl=>exact absurd rfl fX
 | @step i j k h h' ih=>
   by_cases e:j=k
   ·subst e
    exact⟨i,fD.2 h,.refl (lgeS h).1⟩
   ·obtain⟨c,hc,hu⟩:=ih e
    exact⟨c,hc,.step h hu⟩
structure Iv(nd:Nd):Prop where
 ZE:1<=nd.lo
 le:nd.lo<=nd.hi
 top:nd.hi<=4611686018427387904
structure Loc(T:List Nd)(nd:Nd):Prop where
 He:nd.lo<=nd.free
 Dn:nd.free<=nd.hi
 sub:∀c cd,c∈nd.ch->T[c]? =some cd->nd.lo<=cd.lo/\cd.hi<nd.free
 ord:∀(c c':Nat) cd wz,c∈nd.ch->c'∈nd.ch->c<c'->T[c]? =some cd->T[c']? =some wz->cd.hi<wz.lo
structure Shape(T:List Nd):Prop where
 par:oW (b9 T)
 ch:∀(i:Nat) nd,T[i]? =some nd->nd.ch=kids (b9 T) i
structure Good(T:List Nd):Prop extends Shape T where
 iv:∀(i:Nat) nd,T[i]? =some nd->Iv nd
 loc:∀(i:Nat) nd,T[i]? =some nd->Loc T nd
theorem lS{T:List Nd}{i:Nat}{nd:Nd}(h:T[i]? =some nd):(b9 T)[i]? =some nd.parent:=by simp [b9,h]
theorem fC(T:List Nd):(b9 T).length=T.length:=by simp [b9]
theorem Shape.pos{T:List Nd}(h:Shape T):0<T.length:=by
 have:=(lgeS h.par.root).1
 rwa [fC]at this
theorem Good.ru{T:List Nd}(h:Good T){c k:Nat}{cd kd:Nd}(hc:c∈kids (b9 T) k)(kI:T[c]? =some cd)(Ve:T[k]? =some kd):
 kd.lo<=cd.lo/\cd.hi<kd.free:=(h.loc k kd Ve).sub c cd (by rw [h.ch k kd Ve];exact hc) kI
theorem gK{T:List Nd}{i:Nat}(h:i<T.length):∃nd,T[i]? =some nd:=⟨_,List.getElem?_eq_getElem h⟩
theorem Good.pE{T:List Nd}(h:Good T){a b:Nat}{ad bd:Nd}(ha:T[a]? =some ad)(hb:T[b]? =some bd)(hu:kZ (b9 T) a b):bd.lo<=ad.lo/\ad.hi<=bd.hi:=by
 induction hu generalizing ad with
 |refl=>rw [ha]at hb;cases hb;omega
 | @step i j k hp h' ih=>
   have uV:j<T.length:=by have:=h'.lt;rwa [fC]at this
   obtain⟨jd,hj⟩:=gK uV;have h1:=ih hj hb;have h2:=h.ru (fD.2 hp) ha hj;have h3:=(h.loc j jd hj).Dn;omega
theorem Good.apart{T:List Nd}(h:Good T):∀(m a b:Nat),a+b<=m->∀ad bd,T[a]? =some ad->T[b]? =some bd->¬kZ (b9 T) a b->¬kZ (b9 T) b a->ad.hi<bd.lo\/bd.hi<ad.lo:=by
 intro m
 induction m with
 |zero=>
  intro a b hm ad bd ha hb h1 _;have:a=b:=by omega
  subst this;exact absurd (.refl (by rw [fC];exact(lgeS ha).1)) h1
 |succ m ih=>
  have key:∀(a b:Nat),a+b<=m+1->b<a->∀ad bd,T[a]? =some ad->T[b]? =some bd->¬kZ (b9 T) a b->¬kZ (b9 T) b a->ad.hi<bd.lo\/bd.hi<ad.lo:=by
   intro a b hm di ad bd ha hb h1 h2;have hal:=(lgeS ha).1;obtain⟨p,hp,e⟩:=h.par.up a _ (by omega) (lS ha);have Ye:(b9 T)[a]? =some (p:Int):=by rw [lS ha,e]
   obtain⟨pd,yZ⟩:=gK (T:=T) (i:=p) (by omega);have gD:=h.ru (fD.2 Ye) ha yZ;have rQ:=h.loc p pd yZ;have vT:¬kZ (b9 T) p b:=fun hu=>h1 (.step Ye hu);by_cases NQ:kZ (b9 T) b p
   ·have fX:b≠p:=fun e=>vT (by subst e;exact .refl NQ.lt)
    obtain⟨c,hc,Nc⟩:=NQ.child fX;have hca:c≠a:=fun e=>h2 (e▸Nc);have rR:c<T.length:=by have:=(jA h.par hc).2;rwa [fC]at this
    obtain⟨cd,kI⟩:=gK rR;have QM:=h.pE hb kI Nc;have pq:=h.ch p pd yZ;rcases Nat.lt_or_ge c a with di|gH
    ·have:=rQ.ord c a cd ad (by rw [pq];exact hc) (by rw [pq];exact fD.2 Ye) di kI ha
     omega
    ·have:=rQ.ord a c ad cd (by rw [pq];exact fD.2 Ye) (by rw [pq];exact hc) (by omega) ha kI
     omega
   ·have:=ih p b (by omega) pd bd yZ hb vT NQ
    have:=rQ.Dn;omega
  intro a b hm ad bd ha hb h1 h2;rcases Nat.lt_trichotomy a b with di|rfl|di
  ·have:=key b a (by omega) di bd ad hb ha h2 h1
   omega
  ·exact absurd (.refl (by rw [fC];exact(lgeS ha).1)) h1
  ·exact key a b hm di ad bd ha hb h1 h2
theorem Good.under{T:List Nd}(h:Good T){a b:Nat}{ad bd:Nd}(ha:T[a]? =some ad)(hb:T[b]? =some bd):(bd.lo<=ad.lo/\ad.hi<=bd.hi)↔kZ (b9 T) a b:=by
 refine⟨fun hi=>?_,fun hu=>h.pE ha hb hu⟩;by_cases hu:kZ (b9 T) a b
 ·exact hu
 ·exfalso
  have ia:=h.iv a ad ha;have ib:=h.iv b bd hb;by_cases hv:kZ (b9 T) b a
  ·have fX:b≠a:=fun e=>hu (by subst e;exact .refl hv.lt)
   obtain⟨c,hc,Nc⟩:=hv.child fX;have rR:c<T.length:=by have:=(jA h.par hc).2;rwa [fC]at this
   obtain⟨cd,kI⟩:=gK rR;have h1:=h.pE hb kI Nc;have h2:=h.ru hc kI ha;have h3:=(h.loc a ad ha).Dn;omega
  ·have:=h.apart (a+b) a b (Nat.le_refl _) ad bd ha hb hu hv
   have:=ia.le;have:=ib.le;omega
theorem yl(T:List Nd)(p:Nat)(pd:Nd):(grown T p pd).length=T.length+1:=by simp [grown]
theorem jU{T:List Nd}{p:Nat}{pd:Nd}(hp:T[p]? =some pd)(i:Nat):(grown T p pd)[i]? =if i=p then some {pd with ch:=pd.ch++ [T.length]}else if i=T.length then some ⟨p,[],0,0,0⟩else T[i]? :=by
 have di:=(lgeS hp).1;unfold grown;by_cases e:i=p
 ·subst e
  rw [if_pos rfl,List.getElem?_set_self (by simp;omega)]
 ·rw [if_neg e,List.getElem?_set_ne (fun h=>e h.symm)]
  by_cases e2:i=T.length
  ·subst e2;simp
  ·rw [if_neg e2]
   rcases Nat.lt_or_ge i T.length with h|h
   ·rw [List.getElem?_append_left h]
   ·rw [List.getElem?_eq_none (by simp;omega),List.getElem?_eq_none h]
theorem mT{T:List Nd}{p:Nat}{pd:Nd}(hp:T[p]? =some pd):b9 (grown T p pd)=b9 T++ [(p:Int)]:=by
 apply List.ext_getElem?;intro i;have di:=(lgeS hp).1;simp only [b9,List.getElem?_map,jU hp];by_cases e:i=p
 ·subst e
  rw [if_pos rfl,List.getElem?_append_left (by simpa using di)];simp [hp]
 ·rw [if_neg e]
  by_cases e2:i=T.length
  ·subst e2;simp
  ·rw [if_neg e2]
   rcases Nat.lt_or_ge i T.length with h|h
   ·rw [List.getElem?_append_left (by simpa using h)];simp
   ·rw [List.getElem?_eq_none h,List.getElem?_eq_none (by simp;omega)];rfl
theorem AN(P:List Int)(p i:Nat):kids (P++ [(p:Int)]) i=kids P i++if i=p then [P.length]else []:=by
 unfold kids;rw [List.length_append,List.length_singleton,List.range_succ,List.filter_append]
 congr 1
 ·apply List.filter_congr
  intro x hx;rw [List.getElem?_append_left (by simpa using hx)]
 ·by_cases e:i=p
  ·subst e;simp
  ·have:¬((p:Int)=(i:Int)):=by omega
   simp [e,this]
theorem oW.snoc{P:List Int}(h:oW P){p:Nat}(hp:p<P.length):oW (P++ [(p:Int)]):=by
 refine⟨by rw [List.getElem?_append_left (by omega)];exact h.root,fun i q hi hq=>?_⟩;rcases Nat.lt_or_ge i P.length with hl|hl
 ·rw [List.getElem?_append_left hl]at hq
  exact h.up i q hi hq
 ·have:i=P.length:=by
   rcases Nat.eq_or_lt_of_le hl with e|e
   ·exact e.symm
   ·rw [List.getElem?_eq_none (by simp;omega)]at hq;cases hq
  subst this;simp at hq;exact⟨p,hp,hq.symm⟩
theorem Shape.grown{T:List Nd}(h:Shape T){p:Nat}{pd:Nd}(hp:T[p]? =some pd):Shape (grown T p pd):=by
 have di:=(lgeS hp).1;refine⟨by rw [mT hp];exact h.par.snoc (by rw [fC];exact di),fun i nd hi=>?_⟩;rw [mT hp,AN,fC];rw [jU hp]at hi;by_cases e:i=p
 ·subst e
  rw [if_pos rfl]at hi⊢;cases hi;simp [h.ch i pd hp]
 ·rw [if_neg e]at hi⊢
  rw [List.append_nil];by_cases e2:i=T.length
  ·subst e2
   rw [if_pos rfl]at hi;cases hi
   symm
   apply List.eq_nil_iff_forall_not_mem.2;intro c hc;have:=jA h.par hc;rw [fC]at this;omega
  ·rw [if_neg e2]at hi
   exact h.ch i nd hi
def jB(f:Nat->Nat):Nat->Nat
 |0=>0
 |n+1=>jB f n+f n
theorem lJ{f g:Nat->Nat}{n:Nat}(h:∀i,i<n->f i=g i):jB f n=jB g n:=by
 induction n with
 |zero=>rfl
 |succ n ih=>
  simp only [jB];rw [ih (fun i hi=>h i (by omega)),h n (by omega)]
theorem zU(f g:Nat->Nat)(n:Nat):jB (fun i=>f i+g i) n=jB f n+jB g n:=by
 induction n with
 |zero=>rfl
 |succ n ih=>simp only [jB];omega
theorem mF{f:Nat->Nat}{n:Nat}(h:∀i,i<n->f i=0):jB f n=0:=by
 induction n with
 |zero=>rfl
 |succ n ih=>
  simp only [jB];rw [ih (fun i hi=>h i (by omega)),h n (by omega)]
theorem Fq(h:Nat->Nat->Nat)(n m:Nat):jB (fun i=>jB (fun j=>h i j) m) n=jB (fun j=>jB (fun i=>h i j) n) m:=by
 induction n with
 |zero=>simp only [jB];exact(mF fun _ _=>rfl).symm
 |succ n ih=>
  simp only [jB];rw [ih,zU]
theorem zT{n k:Nat}(hk:k<n){f:Nat->Nat}(h:∀i,i<n->i≠k->f i=0):jB f n=f k:=by
 induction n with
 |zero=>omega
 |succ n ih=>
  simp only [jB];rcases Nat.lt_or_ge k n with di|gH
  ·rw [ih di (fun i hi=>h i (by omega)),h n (by omega) (by omega),Nat.add_zero]
  ·have:k=n:=by omega
   subst this;rw [mF (fun i hi=>h i (by omega) (by omega)),Nat.zero_add]
theorem KC{f:Nat->Nat}{n b:Nat}(h:∀i,i<n->f i<=b):jB f n<=n*b:=by
 induction n with
 |zero=>simp [jB]
 |succ n ih=>
  simp only [jB];have:=ih (fun i hi=>h i (by omega));have:=h n (by omega);rw [Nat.succ_mul];omega
theorem HE{f f':Nat->Nat}{n k:Nat}(hk:k<n){v:Nat}(h:∀i,i<n->i≠k->f' i=f i)(hv:f' k=f k+v):jB f' n=jB f n+v:=by
 induction n with
 |zero=>omega
 |succ n ih=>
  simp only [jB];rcases Nat.lt_or_ge k n with di|gH
  ·rw [ih di (fun i hi=>h i (by omega)),h n (by omega) (by omega)]
   omega
  ·have:k=n:=by omega
   subst this;rw [lJ (fun i hi=>h i (by omega) (by omega)),hv];omega
theorem sX(q:Nat->Bool)(f:Nat->Nat)(n:Nat):(((List.range n).filter q).map f).sum=jB (fun c=>if q c=true then f c else 0) n:=by
 induction n with
 |zero=>rfl
 |succ n ih=>
  rw [List.range_succ,List.filter_append,List.map_append,List.sum_append,ih];simp only [jB]
  congr 1
  by_cases h:q n=true
  ·simp [h]
  ·simp [h]
section
variable{P:List Int}
theorem kZ.cmp{i a b:Nat}(h:kZ P i a)(h':kZ P i b):kZ P a b\/kZ P b a:=by
 induction h with
 |refl=>exact .inl h'
 | @step i j k hp h2 ih=>
   by_cases e:i=b
   ·subst e;exact .inr (.step hp h2)
   ·exact ih (h'.inv e hp)
theorem kZ.one(hP:oW P){i n c c':Nat}(hc:P[c]? =some (n:Int))(uI:P[c']? =some (n:Int))(h:kZ P i c)(h':kZ P i c'):c=c':=by
 have key:∀(c c':Nat),P[c]? =some (n:Int)->P[c']? =some (n:Int)->kZ P c c'->c=c':=by
  intro c c' hc uI h;by_cases e:c=c'
  ·exact e
  ·have:=(h.inv e hc).le hP
   have:=(jA hP (fD.2 uI)).1;omega
 rcases h.cmp h' with h|h
 ·exact key c c' hc uI h
 ·exact(key c' c uI hc h).symm
open Classical in
noncomputable def ind(p:Prop):Nat:=if p then 1 else 0
theorem sA{p:Prop}(h:p):ind p=1:=by unfold ind;rw [if_pos h]
theorem tz{p:Prop}(h:¬p):ind p=0:=by unfold ind;rw [if_neg h]
theorem PC(p:Prop):ind p<=1:=by unfold ind;split<;>omega
noncomputable def sz(P:List Int)(n:Nat):Nat:=jB (fun i=>ind (kZ P i n)) P.length
theorem Ce(hP:oW P){n:Nat}(hn:n<P.length):sz P n=1+jB (fun c=>if P[c]? =some (n:Int)then sz P c else 0) P.length:=by
 have e1:∀i,i<P.length->ind (kZ P i n)=ind (i=n)+jB (fun c=>if P[c]? =some (n:Int)then ind (kZ P i c)else 0) P.length:=by
  intro i hi;by_cases e:i=n
  ·subst e
   rw [sA (.refl hi),sA rfl,mF];intro c hc;split
   ·rename_i hp
    apply tz;intro hu;have:=hu.le hP;have:=(jA hP (fD.2 hp)).1;omega
   ·rfl
  ·rw [tz e,Nat.zero_add]
   by_cases hu:kZ P i n
   ·obtain⟨c,hc,Nc⟩:=hu.child e
    rw [sA hu,zT (k:=c) Nc.XG]
    ·rw [if_pos (fD.1 hc),sA Nc]
    ·intro c' _ fX
     split
     ·rename_i hp
      exact tz fun h=>fX (kZ.one hP hp (fD.1 hc) h Nc)
     ·rfl
   ·rw [tz hu,mF]
    intro c hc;split
    ·rename_i hp
     exact tz fun h=>hu (h.trans (.step hp (.refl hn)))
    ·rfl
 have e2:sz P n=jB (fun i=>ind (i=n)+jB (fun c=>if P[c]? =some (n:Int)then ind (kZ P i c)else 0) P.length) P.length:=by
  unfold sz;exact lJ e1
 rw [e2,zU,zT (k:=n) hn (fun i _ h=>tz h),sA rfl,Fq]
 congr 1
 apply lJ;intro c _;split
 ·rfl
 ·exact mF fun _ _=>rfl
theorem vf(hP:oW P){n:Nat}(hn:n<P.length):1<=sz P n:=by rw [Ce hP hn];omega
theorem xG(n:Nat):sz P n<=P.length:=by
 have:=KC (n:=P.length) (b:=1) (f:=fun i=>ind (kZ P i n)) (fun i _=>PC _);unfold sz;omega
theorem DZ(hP:oW P){n:Nat}(hn:n<P.length):((kids P n).map (sz P)).sum+1=sz P n:=by
 unfold kids;rw [sX,Ce hP hn,Nat.add_comm]
 congr 1
 apply lJ;intro c _;by_cases h:P[c]? =some (n:Int)
 ·simp [h]
 ·simp [h]
noncomputable def part(P:List Int)(m j:Nat):Nat:=jB (fun c=>if P[c]? =some (j:Int)/\m<=c then sz P c else 0) P.length
theorem FN(j:Nat):part P P.length j=0:=mF fun c hc=>if_neg fun h=>by omega
theorem vy(hP:oW P){m j:Nat}(hj:j<P.length)(hm:m<=j+1):part P m j+1=sz P j:=by
 rw [Ce hP hj,Nat.add_comm]
 congr 1
 apply lJ;intro c hc;by_cases h:P[c]? =some (j:Int)
 ·have:=(jA hP (fD.2 h)).1
  rw [if_pos ⟨h,by omega⟩,if_pos h]
 ·rw [if_neg (fun e=>h e.1),if_neg h]
theorem HQ{n p:Nat}(h:P[n]? =some (p:Int)):part P n p=part P (n+1) p+sz P n:=by
 unfold part;apply HE (k:=n) (lgeS h).1
 ·intro i _ fX
  by_cases hi:P[i]? =some (p:Int)
  ·by_cases h2:n<=i
   ·rw [if_pos ⟨hi,h2⟩,if_pos ⟨hi,by omega⟩]
   ·rw [if_neg (fun e=>h2 e.2),if_neg (fun e=>by omega)]
  ·rw [if_neg (fun e=>hi e.1),if_neg (fun e=>hi e.1)]
 ·rw [if_pos ⟨h,Nat.le_refl _⟩,if_neg (fun e=>by omega),Nat.zero_add]
theorem Ct{n j:Nat}(h:P[n]? ≠some (j:Int)):part P n j=part P (n+1) j:=by
 unfold part;apply lJ;intro i _;by_cases hi:P[i]? =some (j:Int)
 ·have:i≠n:=fun e=>h (e▸hi)
  by_cases h2:n<=i
  ·rw [if_pos ⟨hi,h2⟩,if_pos ⟨hi,by omega⟩]
  ·rw [if_neg (fun e=>h2 e.2),if_neg (fun e=>by omega)]
 ·rw [if_neg (fun e=>hi e.1),if_neg (fun e=>hi e.1)]
noncomputable def jo(P:List Int)(m j:Nat):Nat:=if m<=j then sz P j else part P m j
theorem Ck(j:Nat)(hj:j<P.length):jo P P.length j=0:=by
 unfold jo;rw [if_neg (by omega),FN]
theorem Ac(j:Nat):jo P 0 j=sz P j:=by unfold jo;rw [if_pos (Nat.zero_le _)]
theorem FF(hP:oW P){n:Nat}(hn:n<P.length):jo P (n+1) n+1=sz P n:=by
 unfold jo;rw [if_neg (by omega),vy hP hn (Nat.le_refl _)]
theorem FE(hP:oW P){n p:Nat}(h:P[n]? =some (p:Int))(j:Nat):jo P n j=if j=p then jo P (n+1) p+sz P n else if j=n then sz P n else jo P (n+1) j:=by
 have hp:=(jA hP (fD.2 h)).1;unfold jo;by_cases e:j=p
 ·subst e
  rw [if_neg (by omega),if_pos rfl,if_neg (by omega),HQ h]
 ·rw [if_neg e]
  by_cases e2:j=n
  ·subst e2;rw [if_pos (Nat.le_refl _),if_pos rfl]
  ·rw [if_neg e2]
   by_cases h2:n<=j
   ·rw [if_pos h2,if_pos (by omega)]
   ·rw [if_neg h2,if_neg (by omega)]
    exact Ct (fun h'=>e (by rw [h]at h';have:=Option.some.inj h';omega))
theorem FG(j:Nat):jo P 0 j=if j=0 then sz P 0 else jo P 1 j:=by
 rw [Ac];unfold jo;by_cases e:j=0
 ·subst e;rw [if_pos rfl]
 ·rw [if_neg e,if_pos (by omega)]
theorem D6(hP:oW P)(m j:Nat)(hj:j<P.length):jo P m j<=P.length:=by
 have h1:=xG (P:=P) j;unfold jo;split
 ·exact h1
 ·rename_i h
  have:=vy hP (m:=m) hj;by_cases h2:m<=j+1
  ·have:=this h2;omega
  ·
   have h3:part P m j<=part P 0 j:=by
    unfold part;have:∀(f g:Nat->Nat) (n:Nat),(∀i,i<n->f i<=g i)->jB f n<=jB g n:=by
     intro f g n h
     induction n with
     |zero=>simp [jB]
     |succ n ih=>
      simp only [jB];have:=ih (fun i hi=>h i (by omega));have:=h n (by omega);omega
    apply this;intro i _;split
    ·rename_i h4;rw [if_pos ⟨h4.1,Nat.zero_le _⟩];exact Nat.le_refl _
    ·exact Nat.zero_le _
   have:=vy hP (m:=0) hj (by omega);omega
end
theorem wR{α:Type}(f g:Nat->α){n k:Nat}{v:α}(hk:k<n)(h:∀i,i<n->g i=if i=k then v else f i):((List.range n).map f).set k v=(List.range n).map g:=by
 apply List.ext_getElem?;intro i;rw [List.getElem?_set];by_cases e:k=i
 ·subst e
  rw [if_pos rfl,if_pos (by simpa using hk)];simp [hk,h k hk]
 ·rw [if_neg e]
  rcases Nat.lt_or_ge i n with hi|hi
  ·have:=h i hi
   rw [if_neg (fun x=>e x.symm)]at this;simp [hi,this]
  ·rw [List.getElem?_eq_none (by simpa using hi),List.getElem?_eq_none (by simpa using hi)]
end Go.Proofs.YtfleamccglihoaaGreatDoor.Tr
namespace Go.b0
open Go.RowKit
theorem aU{σ:Type}(e:σ->Env)(I:σ->World->Prop)(μ:σ->World->Nat)(s:σ)(w:World)(Q:aT)(l:Nat)(ρ:Env)(w':World):bW e I μ s w Q (.exit l) ρ w'=Q (.exit l) ρ w':=rfl
def zeroOf(P:Program)(e:TypeId):Option (Array Value):=
 match P.info? e with
 |some i=>match i.zero with
  |some z=>some z.cells
  |none=>none
 |none=>none
theorem H0{P:Program}{t e:TypeId}{bytes:Nat}(T:zF P t e 1 bytes){z:Value}(hz:zeroOf P e=some #[z]){n:Nat}(hn:n<=maxLen)(hb:bytes*n<=281474976710656)(w:World):
 ∃w',(Instr.makeSlice t (.int .i64 (n:Int)) (.int .i64 (n:Int))).run P w=.ok (.slice (some ⟨w.heap.size,0,none⟩) n n) w'/\
  Row w' w.heap.size e 1 (some ⟨w.heap.size,0,none⟩) n n (List.replicate n z)/\Kept Nil w w':=by
 obtain⟨i,z',hi,zy,hs,Kl,Ey⟩:=T.inf;have hc:z'.cells= #[z]:=by
  unfold zeroOf at hz;simp only [hi,zy]at hz;exact Option.some.inj hz
 obtain⟨w',hr,fP,hg⟩:=run_make_full (P:=P) (w:=w) w.heap.size t e i z' 1 T.pE hi zy hs .i64 .i64 n (by rw [Kl];exact hb) hn (Nat.le_refl _);rw [hc,Nat.mul_one,toList_madeCells_one]at fP;exact⟨w',hr,fP,(Kept.refl Nil w).grown hg (fun k hk=>by cases hk)⟩
end Go.b0
namespace Go.Proofs.YtfleamccglihoaaGreatDoor.Tr
open Go.Proofs.Tryz
open Go Go.b0 Go.RowKit
section
variable{w w':World}{S:Nat->Prop}{g:Nat}{T:List Nd}{d:Int}{K:Value->World->Prop}
theorem TV.bound{b c:Nat}{L:List (Nd×Value)}(h:TV w S g T d b c L):TV w (fun k=>S k/\k<w.heap.size) g T d b c L:= {
 top:=h.top
 fst:=h.fst
 row:=h.row
 ru:=fun i p hp=>let ⟨A,m,h1⟩:=h.ru i p hp;⟨A,m,h1.val,h1.row,fun k e=>⟨h1.kY k e,let ⟨_,_,hc⟩:=Row.bV h1.row e;bf hc⟩⟩
 apart:=h.apart
 iW:=⟨h.iW,bf h.top⟩
 gS:=⟨h.gS,let ⟨_,hc⟩:=h.wD;bf hc⟩}
theorem TV.mono{S':Nat->Prop}{b c:Nat}{L:List (Nd×Value)}(h:TV w S g T d b c L)(hs:∀k,S k->S' k):TV w S' g T d b c L:= {
 top:=h.top
 fst:=h.fst
 row:=h.row
 ru:=fun i p hp=>let ⟨A,m,h1⟩:=h.ru i p hp;⟨A,m,h1.val,h1.row,fun k e=>hs k (h1.kY k e)⟩
 apart:=h.apart
 iW:=hs _ h.iW
 gS:=hs _ h.gS}
theorem pG.bound(h:pG w S g T d):pG w (fun k=>S k/\k<w.heap.size) g T d:=let ⟨b,c,L,h⟩:=h;⟨b,c,L,h.bound⟩
theorem pG.mono{S':Nat->Prop}(h:pG w S g T d)(hs:∀k,S k->S' k):pG w S' g T d:=let ⟨b,c,L,h⟩:=h;⟨b,c,L,h.mono hs⟩
def us(f:Nat->Nat)(n:Nat):List Value:=(List.range n).map fun j=>.int .u64 (f j:Int)
theorem pI(f:Nat->Nat){n j:Nat}(hj:j<n):(us f n)[j]? =some (.int .u64 (f j:Int)):=by simp [us,hj]
theorem pH(f:Nat->Nat)(n:Nat):(us f n).length=n:=by simp [us]
theorem yA{f f':Nat->Nat}{n k:Nat}(hk:k<n)(h:∀i,i<n->i≠k->f' i=f i):(us f n).set k (.int .u64 (f' k:Int))=us f' n:=by
 unfold us;apply wR _ _ hk;intro i hi;by_cases e:i=k
 ·subst e;rw [if_pos rfl]
 ·rw [if_neg e,h i hi e]
theorem Sy:zF prog BK gF 1 8:=⟨by kernel_rfl,by kernel_rfl⟩
set_option maxRecDepth 100000 in
theorem Cc(h:pG w S g T d)(hP:oW (b9 T))(hlen:T.length<=1000000)
 (hK:∀w' A,Row w' w.heap.size gF 1 A T.length T.length (us (sz (b9 T)) T.length)->Kept Nil w w'->K (.slice A T.length T.length) w'):
 bG prog bM.id #[.pointer (some ⟨g,0,none⟩)] w K:=by
 obtain⟨b,c,L,h0⟩:=h;have rQ:=fC T;obtain⟨w5,sC,lD,k5⟩:=H0 Sy (z:=.int .u64 0) (by kernel_rfl) (n:=T.length) (by unfold maxLen;omega) (by omega) w;refine bM.of (h0.go ⟨_,_,_,w5,sC,?_⟩);have h5:=h0.kept k5;refine h5.go ?_;generalize hA:(⟨w.heap.size,0,none⟩:Addr)=A at*;refine bM.cJ (e:=some A) (i:=T.length) (I:=fun i w'=>∃m:Nat,i=(T.length:Int)-m/\m<=T.length/\Row w' w.heap.size gF 1 (some A) T.length T.length (us (jo (b9 T) m) T.length)/\Kept Nil w w')
  (μ:=fun i _=>((T.length:Int)-i).toNat) (s:=0) ⟨T.length,by omega,Nat.le_refl _,?_,k5⟩ ?_
 ·have:List.replicate T.length (Value.int .u64 0)=us (jo (b9 T) T.length) T.length:=by
   apply List.ext_getElem?;intro j;rcases Nat.lt_or_ge j T.length with hj|hj
   ·rw [pI _ hj,<-rQ,Ck j (by omega)]
    simp [rQ,hj]
   ·rw [List.getElem?_eq_none (by simpa using hj),List.getElem?_eq_none (by rw [pH];exact hj)]
  rw [<-this];exact lD
 ·rintro i w' ⟨m,rfl,hm,row,kw⟩
  have h':=h0.kept kw;refine Split.dec (fun di=>?_) (fun gH=>?_)
  ·
   obtain⟨n,rfl⟩:∃n,m=n+1:=⟨m-1,by omega⟩;have hn:n<T.length:=by omega
   refine h'.go ?_;have ew:i64.wrap (i64.wrap ((T.length:Int)-1)-((T.length:Int)-((n+1:Nat):Int)))=(n:Int):=by
    rw [jb (x:=(T.length:Int)-1) (by omega) (by omega),jb (by omega) (by omega)];omega
   rw [ew];have hb:0<=(n:Int)/\(n:Int)<(T.length:Int):=⟨by omega,by omega⟩;subst hA;have U7:n<(us (jo (b9 T) (n+1)) T.length).length:=by rw [pH];exact hn
   refine⟨hb,_,by rw [mX,Int.toNat_natCast,Nat.mul_one];exact Row.cell row (pI _ hn),hb,by rw [mX,Int.toNat_natCast,Nat.mul_one];exact Row.wr row U7,?_⟩;intro xD;have e18:xD=w'.setCell ⟨w.heap.size,n,none⟩ (.int .u64 (u64.wrap ((jo (b9 T) (n+1) n:Int)+1))):=by simp only [xD,mX,Int.toNat_natCast,Nat.mul_one]
   have afc:=FF hP (n:=n) (by omega);have hle:jo (b9 T) (n+1) n<=(b9 T).length:=D6 hP _ _ (by omega);have nZ:=Row.set row U7 (.int .u64 (u64.wrap ((jo (b9 T) (n+1) n:Int)+1)));rw [<-e18]at nZ;have JY:Kept Nil w xD:=by rw [e18];exact kw.setCell (fun hh=>absurd hh (Nat.lt_irrefl _)) _
   clear_value xD;rw [gm (x:=(jo (b9 T) (n+1) n:Int)+1) (by omega) (by omega)]at nZ;rw [show(jo (b9 T) (n+1) n:Int)+1=((if n=n then sz (b9 T) n else jo (b9 T) (n+1) n:Nat):Int)from by rw [if_pos rfl];omega,
    yA (f':=fun j=>if j=n then sz (b9 T) n else jo (b9 T) (n+1) j) hn (fun i _ fX=>by rw [if_neg fX])]at nZ
   have Q2:=h0.kept JY;obtain⟨nd,gQ⟩:=gK hn;obtain⟨v,hv⟩:=Q2.at_ gQ;refine Q2.go ⟨hb,Q2.Jn hv ?_⟩;have mB:=lS gQ;refine Split.dec (fun hp=>?_) (fun hp=>?_)
   ·
    have EE:0<n:=by
     rcases Nat.eq_zero_or_pos n with rfl|h
     ·rw [hP.root]at mB;have:=Option.some.inj mB;omega
     ·exact h
    obtain⟨p,Lu,ep⟩:=hP.up n _ EE mB;rw [ep]at hp⊢;have hpp:(b9 T)[n]? =some (p:Int):=by rw [mB,ep]
    intro JU;have Ph:Kept Nil w JU:=JY.drew;have Ea:Row JU w.heap.size gF 1 (some ⟨w.heap.size,0,none⟩) T.length T.length (us (fun j=>if j=n then sz (b9 T) n else jo (b9 T) (n+1) j) T.length):=nZ;clear_value JU;have NQ:0<=(p:Int)/\(p:Int)<(T.length:Int):=⟨by omega,by omega⟩;have U6:p<(us (fun j=>if j=n then sz (b9 T) n else jo (b9 T) (n+1) j) T.length).length:=by rw [pH];omega
    have gp:=pI (fun j=>if j=n then sz (b9 T) n else jo (b9 T) (n+1) j) (n:=T.length) (j:=p) (by omega);have gn:=pI (fun j=>if j=n then sz (b9 T) n else jo (b9 T) (n+1) j) (n:=T.length) (j:=n) (by omega);simp only [if_neg (show p≠n by omega)]at gp;simp only [if_pos]at gn;refine⟨NQ,_,by rw [mX,Int.toNat_natCast,Nat.mul_one];exact Row.cell Ea gp,hb,_,by rw [mX,Int.toNat_natCast,Nat.mul_one];exact Row.cell Ea gn,NQ,by rw [mX,Int.toNat_natCast,Nat.mul_one];exact Row.wr Ea U6,?_⟩;intro wP;have e29:wP=JU.setCell ⟨w.heap.size,p,none⟩ (.int .u64 (u64.wrap ((jo (b9 T) (n+1) p:Int)+(sz (b9 T) n:Int)))):=by simp only [wP,mX,Int.toNat_natCast,Nat.mul_one]
    have HN:=Row.set Ea U6 (.int .u64 (u64.wrap ((jo (b9 T) (n+1) p:Int)+(sz (b9 T) n:Int))));rw [<-e29]at HN;have Lb:Kept Nil w wP:=by rw [e29];exact Ph.setCell (fun hh=>absurd hh (Nat.lt_irrefl _)) _
    clear_value wP;have aju:jo (b9 T) (n+1) p<=(b9 T).length:=D6 hP _ _ (by omega);have ajt:sz (b9 T) n<=(b9 T).length:=xG _;have nu:=FE hP hpp;have Ha:=nu p;rw [if_pos rfl]at Ha;rw [gm (x:=(jo (b9 T) (n+1) p:Int)+(sz (b9 T) n:Int)) (by omega) (by omega),
     show(jo (b9 T) (n+1) p:Int)+(sz (b9 T) n:Int)=(jo (b9 T) n p:Int)from by omega,
     yA (f':=jo (b9 T) n) (by omega) (fun i _ fX=>by rw [nu i,if_neg fX])]at HN
    rw [jb (x:=(T.length:Int)-((n+1:Nat):Int)+1) (by omega) (by omega)];exact⟨_,rfl,⟨n,by omega,by omega,HN,Lb⟩,by simp only;omega⟩
   ·
    have EE:n=0:=by
     rcases Nat.eq_zero_or_pos n with h|h
     ·exact h
     ·obtain⟨p,_,ep⟩:=hP.up n _ h mB
      omega
    subst EE;have:us (fun j=>if j=0 then sz (b9 T) 0 else jo (b9 T) (0+1) j) T.length=us (jo (b9 T) 0) T.length:=by
     congr 1
     funext j
     rw [FG]
    rw [this]at nZ;rw [jb (x:=(T.length:Int)-((0+1:Nat):Int)+1) (by omega) (by omega)];exact⟨_,rfl,⟨0,by omega,by omega,nZ,JY⟩,by simp only;omega⟩
  ·have:m=0:=by omega
   subst this;rw [aU,bM.dz];refine hK w' (some A) ?_ kw;have e:jo (b9 T) 0=sz (b9 T):=funext Ac;rw [e]at row;exact row
end
section
variable{w:World}{K:Value->World->Prop}
theorem bG.Ap{f:FuncId}{args:Array Value}{v:Value}(h:Calls prog f args w fun e w'=>e=.returned v/\w'=w)(hK:K v w):bG prog f args w K:=
 h.mono fun e w' ⟨he,hw⟩=>⟨v,he,by rw [hw];exact hK⟩
theorem xp(x y:Nat)(hx:x<18446744073709551616)(hy:y<18446744073709551616)
 (hK:K (.tuple #[.int .u64 ((x*y/18446744073709551616:Nat):Int),.int .u64 ((x*y%18446744073709551616:Nat):Int)]) w):
 bG prog bits_Mul64.id #[.int .u64 x,.int .u64 y] w K:=bG.Ap (Any.bits_Mul64 Tryz.KS x y hx hy w) hK
theorem xq(x:Nat)(hx:x<18446744073709551616)(hK:K (.int .i64 (Lib.bitLen x)) w):bG prog bits_Len64.id #[.int .u64 x] w K:=
 bG.Ap (Any.bits_Len64 Tryz.KU x w (by omega) (by omega)) hK
end
theorem qh:∀(f x:Nat),x<2 ^ f->x<2 ^ (Lib.bitLenAux f x)/\(x≠0->2 ^ (Lib.bitLenAux f x)<=2*x)
 |0,x,h=>by simp at h;subst h;simp [Lib.bitLenAux]
 |f+1,x,h=>by
  unfold Lib.bitLenAux;by_cases e:x=0
  ·simp [e]
  ·rw [if_neg e]
   have ih:=qh f (x/2) (by rw [Nat.pow_succ]at h;omega);rw [Nat.pow_add,Nat.pow_one];refine⟨by omega,fun _=>?_⟩;by_cases e2:x/2=0
   ·have:x=1:=by omega
    subst this;cases f<;>simp [Lib.bitLenAux]
   ·have:=ih.2 e2
    omega
theorem bitLen_spec{y:Nat}(h0:y≠0)(hy:y<18446744073709551616):1<=Lib.bitLen y/\Lib.bitLen y<=64/\9223372036854775808<=y*2 ^ (64-Lib.bitLen y)/\y*2 ^ (64-Lib.bitLen y)<18446744073709551616:=by
 have hs:=qh 64 y (by omega);have hle:=Lib.bitLenAux_le 64 y 64 (by omega)
 change Lib.bitLen y<=64 at hle
 change y<2 ^ (Lib.bitLen y)/\(y≠0->2 ^ (Lib.bitLen y)<=2*y)at hs
 have zA:=hs.2 h0;have hp:2 ^ Lib.bitLen y*2 ^ (64-Lib.bitLen y)=18446744073709551616:=by
  rw [<-Nat.pow_add,show Lib.bitLen y+(64-Lib.bitLen y)=64 by omega]
 have jT:0<2 ^ (64-Lib.bitLen y):=Nat.pow_pos (by omega);refine⟨?_,hle,?_,?_⟩
 ·rcases Nat.eq_zero_or_pos (Lib.bitLen y)with e|e
  ·rw [e]at hs;simp at hs;omega
  ·exact e
 ·have:=Nat.mul_le_mul_right (2 ^ (64-Lib.bitLen y)) zA
  rw [hp,Nat.mul_assoc]at this;omega
 ·rw [<-hp]
  exact Nat.mul_lt_mul_of_pos_right hs.1 jT
section
variable{Y n1 n0 u u1 q r:Nat}
theorem Jt(hY:Y=n1*4294967296+n0):q*Y=q*n1*4294967296+q*n0:=by rw [hY,Nat.mul_add,Nat.mul_assoc]
theorem dg1(hY:Y=n1*4294967296+n0)(hq:q*n1+r=u)(h:q*n0<=4294967296*r+u1):q*Y<=u*4294967296+u1:=by rw [Jt hY];omega
theorem dg2(hY:Y=n1*4294967296+n0)(hq:q*n1+r=u)(h:4294967296*r+u1<q*n0):u*4294967296+u1<q*Y:=by rw [Jt hY];omega
theorem dg3(hu:u<Y)(Ke:u1<4294967296)(h:4294967296<=q):u*4294967296+u1<q*Y:=by
 have:=Nat.mul_le_mul_right Y h;omega
theorem dg4(hY:Y=n1*4294967296+n0)(EE:n0<4294967296)(hu:u<Y)(hq:q*n1+r=u)(hr:4294967296<=r):q*Y<=u*4294967296+u1:=by
 have h1:q*n1<4294967296*n1:=by omega
 have h2:q<4294967296:=Nat.lt_of_mul_lt_mul_right h1;have h3:q*n0<=4294967296*4294967296:=Nat.mul_le_mul (by omega) (by omega);rw [Jt hY];omega
theorem Oh(hu:u<Y)(Ke:u1<4294967296)(h:q*Y<=u*4294967296+u1):q<4294967296:=by
 rcases Nat.lt_or_ge q 4294967296 with h'|h'
 ·exact h'
 ·have:=dg3 hu Ke h';omega
theorem Bx(Gq:2147483648<=n1)(hu:u<18446744073709551616)(hq:q*n1+r=u):q<8589934592:=by
 rcases Nat.lt_or_ge q 8589934592 with h|h
 ·exact h
 ·have:=Nat.mul_le_mul h Gq
  omega
end
theorem GJ{Y n1 n0 u u1:Nat}{quo rem s Hu Ss:Int}{Q:aT}{w:World}(hY:Y=n1*4294967296+n0)(EE:n0<4294967296)(Gq:2147483648<=n1)(LB:n1<4294967296)(hu:u<Y)(hY':Y<18446744073709551616)(Ke:u1<4294967296)
 (hex:∀q r:Nat,q*Y<=u*4294967296+u1->u*4294967296+u1<(q+1)*Y->Q (.exit 0) (bA.e1 (Y:Int) quo rem s n1 n0 Hu u1 Ss ((q:Int),(r:Int))) w)
 (q0 r0:Nat) (h0:q0*n1+r0=u) (hX0:u*4294967296+u1<(q0+1)*Y) (uD:r0<4294967296):
 Holds none [] prog 135 (.loop (lB (bB (sL (fU (cH (aS (body bA.fn)))))))) Q (bA.e1 (Y:Int) quo rem s n1 n0 Hu u1 Ss ((q0:Int),(r0:Int))) w:=by
 refine bA.cJ (I:=fun s w'=>w'=w/\∃q r:Nat,s=((q:Int),(r:Int))/\q*n1+r=u/\u*4294967296+u1<(q+1)*Y/\r<4294967296)
  (μ:=fun s _=>s.1.toNat) (s:=((q0:Int),(r0:Int))) ⟨rfl,q0,r0,rfl,h0,hX0,uD⟩ ?_
 rintro s w' ⟨hw,q,r,rfl,hq,hX,hr⟩;subst hw;have aaW:=Bx Gq (by omega) hq;have down:u*4294967296+u1<q*Y->∃q' r':Nat,u64.wrap ((q:Int)-1)=(q':Int)/\u64.wrap ((r:Int)+(n1:Int))=(r':Int)/\q'*n1+r'=u/\u*4294967296+u1<(q'+1)*Y/\q'<q:=by
  intro h;have Np:1<=q:=by
   rcases Nat.eq_zero_or_pos q with e|e
   ·rw [e]at h;omega
   ·exact e
  refine⟨q-1,r+n1,?_,?_,?_,?_,by omega⟩
  ·rw [gm (by omega) (by omega)];omega
  ·rw [gm (by omega) (by omega)];omega
  ·have:q*n1=(q-1)*n1+n1:=by
    obtain⟨k,rfl⟩:∃k,q=k+1:=⟨q-1,by omega⟩;rw [Nat.succ_mul];rfl
   omega
  ·rwa [show q-1+1=q by omega]
 have step:∀q' r':Nat,q'*n1+r'=u->u*4294967296+u1<(q'+1)*Y->q'<q->∀b:Bool,b=decide ((r':Int)>=4294967296)->
  Split b (Q (.exit 0) (bA.e1 (Y:Int) quo rem s n1 n0 Hu u1 Ss ((q':Int),(r':Int))) w') (bW (bA.e1 (Y:Int) quo rem s n1 n0 Hu u1 Ss) (fun s mE=>mE=w'/\∃q r:Nat,s=((q:Int),(r:Int))/\q*n1+r=u/\u*4294967296+u1<(q+1)*Y/\r<4294967296) (fun s _=>s.1.toNat) ((q:Int),(r:Int)) w' Q .normal (bA.e1 (Y:Int) quo rem s n1 n0 Hu u1 Ss ((q':Int),(r':Int))) w'):=by
  intro q' r' h1 h2 h3 b hb;subst hb;refine Split.dec (fun gH=>?_) (fun di=>?_)
  ·exact hex q' r' (dg4 hY EE hu h1 (by omega)) h2
  ·exact⟨_,rfl,⟨rfl,q',r',rfl,h1,h2,by omega⟩,by simp only;omega⟩
 refine Split.dec (fun gH=>?_) (fun di=>?_)
 ·obtain⟨q',r',eq,er,h1,h2,h3⟩:=down (dg3 hu Ke (by simp only at gH;omega))
  simp only [eq,er];exact step q' r' h1 h2 h3 _ rfl
 ·simp only at di
  have hqn:q*n0<18446744073709551616:=by
   have:q*n0<=4294967295*4294967295:=Nat.mul_le_mul (by omega) (by omega);omega
  have e1:u64.wrap ((q:Int)*(n0:Int))=((q*n0:Nat):Int):=by rw [<-Int.natCast_mul,gm (by omega) (by omega)]
  have e2:u64.wrap (u64.wrap (4294967296*(r:Int))+(u1:Int))=((4294967296*r+u1:Nat):Int):=by
   rw [gm (x:=4294967296*(r:Int)) (by omega) (by omega),gm (by omega) (by omega)];omega
  simp only [e1,e2];refine Split.dec (fun yh=>?_) (fun hle=>?_)
  ·obtain⟨q',r',eq,er,h1,h2,h3⟩:=down (dg2 hY hq (by omega))
   simp only [eq,er];exact step q' r' h1 h2 h3 _ rfl
  ·exact hex q r (dg1 hY hq (by omega)) hX
theorem GI{Y n1 n0 u u1:Nat}{quo rem s q1 Hv:Int}{Q:aT}{w:World}(hY:Y=n1*4294967296+n0)(EE:n0<4294967296)(Gq:2147483648<=n1)(LB:n1<4294967296)(hu:u<Y)(hY':Y<18446744073709551616)(Ke:u1<4294967296)
 (hex:∀q r:Nat,q*Y<=u*4294967296+u1->u*4294967296+u1<(q+1)*Y->Q (.exit 2) (bA.e2 (Y:Int) quo rem s n1 n0 u1 q1 Hv ((r:Int),(q:Int))) w)
 (q0 r0:Nat) (h0:q0*n1+r0=u) (hX0:u*4294967296+u1<(q0+1)*Y) (uD:r0<4294967296):
 Holds none [] prog 135 (.loop (lB (bB (sL (fU (fU (aS (body bA.fn)))))))) Q (bA.e2 (Y:Int) quo rem s n1 n0 u1 q1 Hv ((r0:Int),(q0:Int))) w:=by
 refine bA.iB (I:=fun s w'=>w'=w/\∃q r:Nat,s=((r:Int),(q:Int))/\q*n1+r=u/\u*4294967296+u1<(q+1)*Y/\r<4294967296)
  (μ:=fun s _=>s.2.toNat) (s:=((r0:Int),(q0:Int))) ⟨rfl,q0,r0,rfl,h0,hX0,uD⟩ ?_
 rintro s w' ⟨hw,q,r,rfl,hq,hX,hr⟩;subst hw;have aaW:=Bx Gq (by omega) hq;have down:u*4294967296+u1<q*Y->∃q' r':Nat,u64.wrap ((q:Int)-1)=(q':Int)/\u64.wrap ((r:Int)+(n1:Int))=(r':Int)/\q'*n1+r'=u/\u*4294967296+u1<(q'+1)*Y/\q'<q:=by
  intro h;have Np:1<=q:=by
   rcases Nat.eq_zero_or_pos q with e|e
   ·rw [e]at h;omega
   ·exact e
  refine⟨q-1,r+n1,?_,?_,?_,?_,by omega⟩
  ·rw [gm (by omega) (by omega)];omega
  ·rw [gm (by omega) (by omega)];omega
  ·have:q*n1=(q-1)*n1+n1:=by
    obtain⟨k,rfl⟩:∃k,q=k+1:=⟨q-1,by omega⟩;rw [Nat.succ_mul];rfl
   omega
  ·rwa [show q-1+1=q by omega]
 have step:∀q' r':Nat,q'*n1+r'=u->u*4294967296+u1<(q'+1)*Y->q'<q->∀b:Bool,b=decide ((r':Int)>=4294967296)->
  Split b (Q (.exit 2) (bA.e2 (Y:Int) quo rem s n1 n0 u1 q1 Hv ((r':Int),(q':Int))) w') (bW (bA.e2 (Y:Int) quo rem s n1 n0 u1 q1 Hv) (fun s mE=>mE=w'/\∃q r:Nat,s=((r:Int),(q:Int))/\q*n1+r=u/\u*4294967296+u1<(q+1)*Y/\r<4294967296) (fun s _=>s.2.toNat) ((r:Int),(q:Int)) w' Q .normal (bA.e2 (Y:Int) quo rem s n1 n0 u1 q1 Hv ((r':Int),(q':Int))) w'):=by
  intro q' r' h1 h2 h3 b hb;subst hb;refine Split.dec (fun gH=>?_) (fun di=>?_)
  ·exact hex q' r' (dg4 hY EE hu h1 (by omega)) h2
  ·exact⟨_,rfl,⟨rfl,q',r',rfl,h1,h2,by omega⟩,by simp only;omega⟩
 refine Split.dec (fun gH=>?_) (fun di=>?_)
 ·obtain⟨q',r',eq,er,h1,h2,h3⟩:=down (dg3 hu Ke (by simp only at gH;omega))
  simp only [eq,er];exact step q' r' h1 h2 h3 _ rfl
 ·simp only at di
  have hqn:q*n0<18446744073709551616:=by
   have:q*n0<=4294967295*4294967295:=Nat.mul_le_mul (by omega) (by omega);omega
  have e1:u64.wrap ((q:Int)*(n0:Int))=((q*n0:Nat):Int):=by rw [<-Int.natCast_mul,gm (by omega) (by omega)]
  have e2:u64.wrap (u64.wrap (4294967296*(r:Int))+(u1:Int))=((4294967296*r+u1:Nat):Int):=by
   rw [gm (x:=4294967296*(r:Int)) (by omega) (by omega),gm (by omega) (by omega)];omega
  simp only [e1,e2];refine Split.dec (fun yh=>?_) (fun hle=>?_)
  ·obtain⟨q',r',eq,er,h1,h2,h3⟩:=down (dg2 hY hq (by omega))
   simp only [eq,er];exact step q' r' h1 h2 h3 _ rfl
  ·exact hex q r (dg1 hY hq (by omega)) hX
theorem Xh(a:Nat)(ha:a<18446744073709551616):u64.wrap ((BitVec.ofInt 64 (a:Int)&&& BitVec.ofInt 64 (4294967295:Int)).toNat:Int)=((a%4294967296:Nat):Int):=by
 have h:=bits_and_u64_nat a 4294967295 ha (by omega);have e:a&&& 4294967295=a%4294967296:=Nat.and_two_pow_sub_one_eq_mod a 32;rw [e]at h;exact h
theorem orN(a b s:Nat)(ha:a*2 ^ s<18446744073709551616)(hb:b<2 ^ s)(uJ:b<18446744073709551616):
 u64.wrap ((BitVec.ofInt 64 ((a*2 ^ s:Nat):Int)|||BitVec.ofInt 64 (b:Int)).toNat:Int)=((a*2 ^ s+b:Nat):Int):=by
 have h:=bits_or_u64_nat (a*2 ^ s) b ha uJ;rw [Nat.mul_comm,<-Nat.two_pow_add_eq_or_of_lt hb,Nat.mul_comm]at h;exact h
theorem SB(a k:Nat):Int.fdiv (a:Int) (2 ^ k)=((a/2 ^ k:Nat):Int):=by
 rw [Int.fdiv_eq_ediv_of_nonneg _ (by exact Int.le_of_lt (Int.pow_pos (by omega)))];rw [Int.natCast_ediv,Int.natCast_pow];rfl
theorem Zk(a k:Nat):(a:Int)*2 ^ k=((a*2 ^ k:Nat):Int):=by rw [Int.natCast_mul,Int.natCast_pow];rfl
theorem adk{N u L u1 u0 v a b:Nat}(hN:N=u*18446744073709551616+L)(hL:L=u1*4294967296+u0)(hv:u*4294967296+u1-a=v)(ha:a<=u*4294967296+u1)(hb:b<=v*4294967296+u0):a*4294967296+b<=N:=by omega
theorem adj{N u L u1 u0 v a b:Nat}(hN:N=u*18446744073709551616+L)(hL:L=u1*4294967296+u0)(hv:u*4294967296+u1-a=v)(ha:a<=u*4294967296+u1)(hb:v*4294967296+u0<b):N<a*4294967296+b:=by omega
section
variable{w:World}{K:Value->World->Prop}
theorem oU(x:Nat)(hx:x<18446744073709551616)(hK:K (.int .i64 ((64-Lib.bitLen x:Nat):Int)) w):bG prog bits_LeadingZeros64.id #[.int .u64 x] w K:=by
 refine bits_LeadingZeros64.of (xq x hx ⟨_,rfl,?_⟩);have hle:=Lib.bitLen_le x 64 (by omega) (by omega)
 rwa [jb (by omega) (by omega),show(64:Int)-(Lib.bitLen x:Int)=((64-Lib.bitLen x:Nat):Int)by omega]
theorem xt(hi lo y:Nat)(Yj:lo<18446744073709551616)(hy:y<18446744073709551616)(hhi:hi<y)
 (hK:∀r w',Kept Nil w w'->K (.tuple #[.int .u64 (((hi*18446744073709551616+lo)/y:Nat):Int),.int .u64 r]) w'):
 bG prog bA.id #[.int .u64 hi,.int .u64 lo,.int .u64 y] w K:=by
 refine bA.of (Split.no (beq_eq_false_iff_ne.2 (by omega)) (Split.no (decide_eq_false (by omega)) ?_));by_cases h0:hi=0
 ·subst h0
  refine Split.yes rfl ?_;intro w6;refine⟨by omega,by omega,?_⟩;have e:u64.wrap ((lo:Int).tdiv (y:Int))=(((0*18446744073709551616+lo)/y:Nat):Int):=by
   rw [Int.tdiv_eq_ediv_of_nonneg (by omega),Nat.zero_mul,Nat.zero_add,<-Int.natCast_ediv];have:=Nat.div_le_self lo y;generalize lo/y=z at*;exact gm (by omega) (by omega)
  rw [e];exact hK _ w6 (Kept.refl Nil w).drew
 ·refine Split.no (beq_eq_false_iff_ne.2 (by omega)) (oU y hy ⟨_,rfl,?_⟩)
  obtain⟨Bi,acu,hY1,hY2⟩:=bitLen_spec (y:=y) (by omega) hy;have hs:64-Lib.bitLen y<64:=by omega
  generalize 64-Lib.bitLen y=s at*;have eS:u64.wrap (s:Int)=(s:Int):=gm (by omega) (by omega);have eS2:u64.wrap ((64:Int)-(s:Int))=((64-s:Nat):Int):=by rw [gm (by omega) (by omega)];omega
  have em1:min s 64=s:=by omega
  have em2:min (64-s) 64=64-s:=by omega
  have em3:min (32:Int).toNat 64=32:=rfl;have EC:2 ^ (64-s)*2 ^ s=18446744073709551616:=by rw [<-Nat.pow_add,show 64-s+s=64 by omega]
  have jT:0<2 ^ s:=Nat.pow_pos (by omega);have Uw:0<2 ^ (64-s):=Nat.pow_pos (by omega);simp only [eS,eS2,Int.toNat_natCast,em1,em2,em3,Zk];generalize hYd:y*2 ^ s=Y at*;have hhs:hi*2 ^ s<18446744073709551616:=by
   have:hi*2 ^ s<y*2 ^ s:=Nat.mul_lt_mul_of_pos_right hhi jT;omega
  have hlq:lo/2 ^ (64-s)<2 ^ s:=by
   rw [Nat.div_lt_iff_lt_mul Uw,Nat.mul_comm,EC];exact Yj
  have abt:lo/2 ^ (64-s)<18446744073709551616:=Nat.lt_of_le_of_lt (Nat.div_le_self _ _) Yj;have eY:u64.wrap (Y:Int)=(Y:Int):=gm (by omega) (by omega);have eH:u64.wrap ((hi*2 ^ s:Nat):Int)=((hi*2 ^ s:Nat):Int):=gm (by omega) (by omega);have eL:u64.wrap ((lo*2 ^ s:Nat):Int)=((lo*2 ^ s%18446744073709551616:Nat):Int):=by rw [IntKind.wrap_u64];omega
  have e32:∀a:Nat,Int.fdiv (a:Int) (2 ^ 32)=((a/4294967296:Nat):Int):=fun a=>SB a 32;simp only [eY,eH,eL,e32,SB lo,orN hi _ s hhs hlq abt,Xh Y (by omega),Xh _ (Nat.mod_lt (lo*2 ^ s) (by omega:18446744073709551616>0))];have hN:(hi*18446744073709551616+lo)*2 ^ s=(hi*2 ^ s+lo/2 ^ (64-s))*18446744073709551616+lo*2 ^ s%18446744073709551616:=by
   have h1:lo*2 ^ s/18446744073709551616=lo/2 ^ (64-s):=by
    rw [<-EC,Nat.mul_div_mul_right _ _ jT]
   have h2:=Nat.div_add_mod (lo*2 ^ s) 18446744073709551616;rw [h1]at h2;rw [Nat.add_mul,Nat.mul_right_comm];omega
  have aks:(hi*18446744073709551616+lo)*2 ^ s<Y*18446744073709551616:=by
   have h1:hi*18446744073709551616+lo<y*18446744073709551616:=by omega
   have:=Nat.mul_lt_mul_of_pos_right h1 jT;rw [Nat.mul_right_comm,hYd]at this;exact this
  have No:(hi*18446744073709551616+lo)*2 ^ s/Y=(hi*18446744073709551616+lo)/y:=by rw [<-hYd,Nat.mul_div_mul_right _ _ jT]
  rw [<-No]at hK;clear No;generalize (hi*18446744073709551616+lo)*2 ^ s=N at*;have hL:lo*2 ^ s%18446744073709551616<18446744073709551616:=Nat.mod_lt _ (by omega);generalize lo*2 ^ s%18446744073709551616=L at*;generalize hi*2 ^ s+lo/2 ^ (64-s)=u at*;have hu:u<Y:=by omega
  have Gq:2147483648<=Y/4294967296:=by omega
  have LB:Y/4294967296<4294967296:=by omega
  have EE:Y%4294967296<4294967296:=by omega
  have hYe:Y=Y/4294967296*4294967296+Y%4294967296:=by omega
  have Ke:L/4294967296<4294967296:=by omega
  have hu0:L%4294967296<4294967296:=by omega
  have hLe:L=L/4294967296*4294967296+L%4294967296:=by omega
  generalize Y/4294967296=n1 at*;generalize Y%4294967296=n0 at*;generalize L/4294967296=u1 at*;generalize L%4294967296=u0 at*;have Oe:∀v:Nat,v<18446744073709551616->u64.wrap ((v:Int).tdiv (n1:Int))=((v/n1:Nat):Int)/\u64.wrap ((v:Int)-u64.wrap (((v/n1:Nat):Int)*(n1:Int)))=((v%n1:Nat):Int)/\v/n1*n1+v%n1=v/\v%n1<n1:=by
   intro v hv;have h1:=Nat.div_le_self v n1;have h2:=Nat.div_add_mod' v n1;refine⟨?_,?_,h2,Nat.mod_lt _ (by omega)⟩
   ·rw [Int.tdiv_eq_ediv_of_nonneg (by omega),<-Int.natCast_ediv]
    generalize v/n1=z at*;exact gm (by omega) (by omega)
   ·rw [<-Int.natCast_mul,gm (x:=((v/n1*n1:Nat):Int)) (by omega) (by omega),gm (by omega) (by omega)]
    omega
  have first:∀v d:Nat,v<Y->d<4294967296->v*4294967296+d<(v/n1+1)*Y:=by
   intro v d hv hd;have h2:=Nat.div_add_mod' v n1;have h3:=Nat.mod_lt v (show 0<n1 by omega);have h4:v+1<=(v/n1+1)*n1:=by rw [Nat.succ_mul];omega
   have h5:(v+1)*4294967296<=(v/n1+1)*n1*4294967296:=Nat.mul_le_mul_right _ h4;have h6:(v/n1+1)*n1*4294967296<=(v/n1+1)*Y:=by
    have h7:n1*4294967296<=Y:=Nat.le_trans (Nat.le_add_right _ n0) (Nat.le_of_eq hYe.symm);rw [Nat.mul_assoc];exact Nat.mul_le_mul_left _ h7
   omega
  obtain⟨g1,g2,g3,g4⟩:=Oe u (by omega);simp only [g1,g2];refine⟨by omega,by omega,by omega,by omega,by omega,by omega,by omega,?_⟩;refine GJ hYe EE Gq LB hu (by omega) Ke ?_ (u/n1) (u%n1) g3 (first u u1 hu Ke) (by omega);intro q r Np RQ;rw [show bA.e1 (Y:Int) 0 0 (s:Int) (n1:Int) (n0:Int) (u:Int) (u1:Int) (u0:Int) ((q:Int),(r:Int))= [(2,.int .u64 (Y:Int)),(6,.int .u64 0),(7,.int .u64 0),(8,.int .u64 (s:Int)),(9,.int .u64 (n1:Int)),(10,.int .u64 (n0:Int)),(11,.int .u64 (u:Int)),(13,.int .u64 (u1:Int)),(14,.int .u64 (u0:Int)),(15,.int .u64 (q:Int)),(16,.int .u64 (r:Int))]from rfl];rw [bA.dz];have hqB:=Oh hu Ke Np;rw [Nat.succ_mul]at RQ;have hp:u64.wrap (u64.wrap (u64.wrap ((u:Int)*4294967296)+(u1:Int))-u64.wrap ((q:Int)*(Y:Int)))=((u*4294967296+u1-q*Y:Nat):Int):=by
   rw [<-Int.natCast_mul q Y];simp only [IntKind.wrap_u64];generalize q*Y=p at*;omega
  unfold bA.df;simp only [hp];have hv:u*4294967296+u1-q*Y<Y:=by omega
  generalize hvd:u*4294967296+u1-q*Y=v at*;obtain⟨g1',g2',g3',g4'⟩:=Oe v (by omega);simp only [g1',g2'];refine⟨by omega,?_⟩;refine GI hYe EE Gq LB hv (by omega) hu0 ?_ (v/n1) (v%n1) g3' (first v u0 hv hu0) (by omega);intro q' r' Ut aaX;rw [show bA.e2 (Y:Int) 0 0 (s:Int) (n1:Int) (n0:Int) (u0:Int) (q:Int) (v:Int) ((r':Int),(q':Int))= [(2,.int .u64 (Y:Int)),(6,.int .u64 0),(7,.int .u64 0),(8,.int .u64 (s:Int)),(9,.int .u64 (n1:Int)),(10,.int .u64 (n0:Int)),(14,.int .u64 (u0:Int)),(15,.int .u64 (q:Int)),(16,.int .u64 (r':Int)),(17,.int .u64 (v:Int)),(18,.int .u64 (q':Int))]from rfl];rw [bA.ki];have ai0:=Oh hv hu0 Ut;refine⟨by omega,?_⟩;have aaE:u64.wrap (u64.wrap ((q:Int)*4294967296)+(q':Int))=((N/Y:Nat):Int):=by
   rw [gm (x:=(q:Int)*4294967296) (by omega) (by omega),gm (by omega) (by omega)];have:N/Y=q*4294967296+q':=by
    apply Nat.div_eq_of_lt_le
    ·rw [Nat.add_mul,Nat.mul_right_comm]
     exact adk hN hLe hvd Np Ut
    ·rw [Nat.add_assoc,Nat.add_mul,Nat.mul_right_comm]
     exact adj hN hLe hvd Np aaX
   rw [this];omega
  rw [aaE];exact hK _ w (Kept.refl Nil w)
end
end Go.Proofs.YtfleamccglihoaaGreatDoor.Tr
namespace Go.Proofs.YtfleamccglihoaaGreatDoor.Tr
open Go.Proofs.Tryz
structure mc(T T':List Nd):Prop where
 len:T'.length=T.length
 at_:∀(i:Nat) nd,T[i]? =some nd->∃nd',T'[i]? =some nd'/\nd'.parent=nd.parent/\nd'.ch=nd.ch
theorem mc.refl(T:List Nd):mc T T:=⟨rfl,fun _ nd h=>⟨nd,h,rfl,rfl⟩⟩
theorem mc.trans{T T' EZ:List Nd}(h:mc T T')(h':mc T' EZ):mc T EZ:=⟨h'.len.trans h.len,fun i nd hi=>by
 obtain⟨nd',h1,h2,h3⟩:=h.at_ i nd hi;obtain⟨ZA,g1,g2,g3⟩:=h'.at_ i nd' h1;exact⟨ZA,g1,g2.trans h2,g3.trans h3⟩⟩
theorem mc.back{T T':List Nd}(h:mc T T'){i:Nat}{nd':Nd}(hi:T'[i]? =some nd'):∃nd,T[i]? =some nd/\nd'.parent=nd.parent/\nd'.ch=nd.ch:=by
 have di:=(lgeS hi).1;obtain⟨nd,gQ⟩:=gK (T:=T) (i:=i) (by rw [<-h.len];exact di);obtain⟨x,h1,h2,h3⟩:=h.at_ i nd gQ;rw [hi]at h1;cases h1;exact⟨nd,gQ,h2,h3⟩
theorem mc.b9{T T':List Nd}(h:mc T T'):b9 T'=b9 T:=by
 apply List.ext_getElem?;intro i;rcases Nat.lt_or_ge i T.length with hi|hi
 ·obtain⟨nd,gQ⟩:=gK hi
  obtain⟨nd',h1,h2,_⟩:=h.at_ i nd gQ;rw [lS gQ,lS h1,h2]
 ·rw [List.getElem?_eq_none (by rw [fC,h.len];exact hi),List.getElem?_eq_none (by rw [fC];exact hi)]
theorem mc.shape{T T':List Nd}(h:mc T T')(hS:Shape T):Shape T':=⟨by rw [h.b9];exact hS.par,fun i nd' hi=>by
 obtain⟨nd,gQ,_,h3⟩:=h.back hi;rw [h.b9,h3,hS.ch i nd gQ]⟩
theorem mc.set{T:List Nd}{i:Nat}{nd nd':Nd}(hi:T[i]? =some nd)(h1:nd'.parent=nd.parent)(h2:nd'.ch=nd.ch):mc T (T.set i nd'):=
 ⟨by simp,fun j x hj=>by
   by_cases e:i=j
   ·subst e
    rw [hi]at hj;cases hj;exact⟨nd',jt hi,h1,h2⟩
   ·exact⟨x,oS hj e,rfl,rfl⟩⟩
theorem ym{T:List Nd}{n p:Nat}{nd pd:Nd}{many:Int}(hn:T[n]? =some nd)(hp:T[p]? =some pd)(fX:n≠p)(i:Nat):
 (wa T n p nd pd many)[i]? =if i=p then some {pd with free:=pd.free+many}else if i=n then some {nd with lo:=pd.free,hi:=pd.free+many-1,free:=pd.free}else T[i]? :=by
 unfold wa;by_cases e:i=p
 ·subst e
  rw [if_pos rfl];exact jt (oS hp fX)
 ·rw [if_neg e,List.getElem?_set_ne (fun h=>e h.symm)]
  by_cases e2:i=n
  ·subst e2
   rw [if_pos rfl];exact jt hn
  ·rw [if_neg e2,List.getElem?_set_ne (fun h=>e2 h.symm)]
theorem v8{T:List Nd}{n p:Nat}{nd pd:Nd}(many:Int)(hn:T[n]? =some nd)(hp:T[p]? =some pd)(fX:n≠p):mc T (wa T n p nd pd many):=
 (mc.set (nd':= {nd with lo:=pd.free,hi:=pd.free+many-1,free:=pd.free}) hn rfl rfl).trans (mc.set (nd:=pd) (nd':= {pd with free:=pd.free+many}) (oS hp fX) rfl rfl)
theorem zW{l:List Nat}(hs:l.Pairwise (· < ·)){k c:Nat}(hc:l[k]? =some c):∀y,y∈l.take k->y<c:=by
 intro y hy;obtain⟨j,hj⟩:=List.mem_iff_getElem?.1 hy;rw [List.getElem?_take]at hj;split at hj
 ·rename_i di
  obtain⟨h1,e1⟩:=lgeS hj;obtain⟨h2,e2⟩:=lgeS hc;rw [<-e1,<-e2];exact List.pairwise_iff_getElem.1 hs j k h1 h2 di
 ·cases hj
theorem oD{l:List Nat}{k c:Nat}(hc:l[k]? =some c):l.take (k+1)=l.take k++ [c]:=by
 rw [List.take_add_one,hc];rfl
structure qq(P:List Int)(T1:List Nd)(x:Nat)(xd:Nd)(half:Int)(k:Nat)(T':List Nd)(f:Int):Prop where
 oF:mc T1 T'
 here:T'[x]? =some {xd with free:=f}
 rest:∀y,y≠x->y∉xd.ch.take k->T'[y]? =T1[y]?
 lo:xd.lo+(((xd.ch.take k).map (sz P)).sum:Nat)<=f
 up:(f-xd.lo-(((xd.ch.take k).map (sz P)).sum:Nat))*(sz P x:Int)<=half*(((xd.ch.take k).map (sz P)).sum:Nat)
 ru:∀c cd,c∈xd.ch.take k->T'[c]? =some cd->xd.lo<=cd.lo/\cd.hi<f/\(sz P c:Int)<=cd.hi-cd.lo+1
 ord:∀c c' cd wz,c∈xd.ch.take k->c'∈xd.ch.take k->c<c'->T'[c]? =some cd->T'[c']? =some wz->cd.hi<wz.lo
section
variable{P:List Int}{T1 T':List Nd}{x:Nat}{xd:Nd}{half f:Int}{k:Nat}
theorem qq.start(hx:T1[x]? =some xd)(hf:xd.free=xd.lo):qq P T1 x xd half 0 T1 xd.lo:= {
 oF:=mc.refl _
 here:=by obtain⟨a,b,c,d,e⟩:=xd;simp only at hf;subst hf;exact hx
 rest:=fun _ _ _=>rfl
 lo:=by simp
 up:=by simp
 ru:=fun c cd hc=>by simp at hc
 ord:=fun c c' cd wz hc=>by simp at hc}
theorem qq.bound(h:qq P T1 x xd half k T' f)(hh:0<=half)(RN:1<=sz P x)(ID:((xd.ch.take k).map (sz P)).sum<=sz P x):f<=xd.lo+(((xd.ch.take k).map (sz P)).sum:Nat)+half:=by
 have h1:half*(((xd.ch.take k).map (sz P)).sum:Nat)<=half*(sz P x:Int):=Int.mul_le_mul_of_nonneg_left (by omega) hh;have h2:=Int.le_trans h.up h1;have h3:=Int.le_of_mul_le_mul_right h2 (by omega);omega
theorem qq.step(h:qq P T1 x xd half k T' f)(hs:xd.ch.Pairwise (· < ·)){c:Nat}(hx:∀y,y∈xd.ch->x<y)(hc:xd.ch[k]? =some c){cd:Nd}(kI:T'[c]? =some cd)
 {more:Int} (RW:0<=more) (hm:more*(sz P x:Int)<=half*(sz P c:Int)) (EA:1<=sz P c):
 qq P T1 x xd half (k+1) (wa T' c x cd {xd with free:=f} ((sz P c:Int)+more)) (f+((sz P c:Int)+more)):=by
 have di:=zW hs hc;have hxc:x<c:=hx c (List.mem_of_getElem? hc);have UL:c∉xd.ch.take k:=fun hh=>Nat.lt_irrefl _ (di c hh);have gZ:=ym (many:=(sz P c:Int)+more) kI h.here (by omega);have ID:((xd.ch.take (k+1)).map (sz P)).sum=((xd.ch.take k).map (sz P)).sum+sz P c:=by rw [oD hc];simp
 have jc:∀y,y∈xd.ch.take (k+1)↔y∈xd.ch.take k\/y=c:=by intro y;rw [oD hc];simp
 exact {
  oF:=h.oF.trans (v8 _ kI h.here (by omega))
  here:=by rw [gZ,if_pos rfl]
  rest:=fun y hy hn=>by
   rw [gZ,if_neg hy,if_neg (fun e=>hn ((jc y).2 (.inr e)))];exact h.rest y hy (fun hh=>hn ((jc y).2 (.inl hh)))
  lo:=by rw [ID];have:=h.lo;omega
  up:=by
   rw [ID];have h1:=h.up;have e1:(f+((sz P c:Int)+more)-xd.lo-((((xd.ch.take k).map (sz P)).sum+sz P c:Nat):Int))*(sz P x:Int)=(f-xd.lo-((((xd.ch.take k).map (sz P)).sum:Nat):Int))*(sz P x:Int)+more*(sz P x:Int):=by
    rw [<-Int.add_mul];congr 1;omega
   have e2:half*((((xd.ch.take k).map (sz P)).sum+sz P c:Nat):Int)=half*((((xd.ch.take k).map (sz P)).sum:Nat):Int)+half*(sz P c:Int):=by
    rw [<-Int.mul_add];congr 1
   rw [e1,e2];omega
  ru:=fun y yd hy CI=>by
   have Yj:=h.lo;rw [gZ]at CI;rcases(jc y).1 hy with hh|rfl
   ·have h1:=di y hh
    have h2:=hx y (List.mem_of_mem_take hh);rw [if_neg (by omega),if_neg (by omega)]at CI;have:=h.ru y yd hh CI;exact⟨this.1,by omega,this.2.2⟩
   ·rw [if_neg (by omega),if_pos rfl]at CI
    cases CI;refine⟨?_,?_,?_⟩<;>simp only<;>omega
  ord:=fun a b ad bd ha hb nv Ob NV=>by
   rw [gZ]at Ob NV;rcases(jc b).1 hb with uJ|rfl
   ·have h1:=di b uJ
    rcases(jc a).1 ha with y8|rfl
    ·have h2:=hx a (List.mem_of_mem_take y8)
     rw [if_neg (by omega),if_neg (by omega)]at Ob NV;exact h.ord a b ad bd y8 uJ nv Ob NV
    ·omega
   ·rcases(jc a).1 ha with y8|rfl
    ·have h1:=di a y8
     have h2:=hx a (List.mem_of_mem_take y8);rw [if_neg (by omega),if_neg (by omega)]at Ob;rw [if_neg (by omega),if_pos rfl]at NV;cases NV;exact(h.ru a ad y8 Ob).2.1
    ·omega}
end
structure oA(P:List Int)(T0:List Nd)(m:Nat)(T':List Nd)(q:List Nat)(i:Nat):Prop where
 oF:mc T0 T'
 nodup:q.Nodup
 pE:∀y,y∈q->kZ P y m
 fst:m∈q
 src:∀y,y∈q->y=m\/∃z:Nat,z∈q.take i/\P[y]? =some (z:Int)
 YQ:∀z,z∈q.take i->∀c,c∈kids P z->c∈q
 rest:∀y,y∉q->T'[y]? =T0[y]?
 top:∀md S9,T0[m]? =some md->T'[m]? =some S9->S9.lo=md.lo/\S9.hi=md.hi
 room:∀y yd,y∈q->T'[y]? =some yd->1<=yd.lo/\yd.hi<=4611686018427387904/\(sz P y:Int)<=yd.hi-yd.lo+1
 loc:∀z zd,z∈q.take i->T'[z]? =some zd->Loc T' zd
theorem oA.start{P:List Int}{T0:List Nd}{m:Nat}{md:Nd}(hm:m<P.length)(yg:T0[m]? =some md)(h1:1<=md.lo)(h2:md.hi<=4611686018427387904)(h3:(sz P m:Int)<=md.hi-md.lo+1):
 oA P T0 m T0 [m] 0:= {
 oF:=mc.refl _
 nodup:=by simp
 pE:=fun y hy=>by simp at hy;subst hy;exact .refl hm
 fst:=by simp
 src:=fun y hy=>by simp at hy;exact .inl hy
 YQ:=fun z hz=>by simp at hz
 rest:=fun _ _=>rfl
 top:=fun a b ha hb=>by rw [ha]at hb;cases hb;exact⟨rfl,rfl⟩
 room:=fun y yd hy CI=>by
  simp at hy;subst hy;rw [yg]at CI;cases CI;exact⟨h1,h2,h3⟩
 loc:=fun z zd hz=>by simp at hz}
section
variable{T0 T' EZ:List Nd}{m x i:Nat}{q:List Nat}{xd:Nd}{f half:Int}
theorem oA.step(hS:Shape T0)(h:oA (b9 T0) T0 m T' q i)(hq:q[i]? =some x)(Ka:T'[x]? =some xd)
 (EK:0<=half) (abF:half*2<=xd.hi-xd.lo-((sz (b9 T0) x:Int)-1))
 (gD:qq (b9 T0) (T'.set x {xd with free:=xd.lo}) x {xd with free:=xd.lo} half xd.ch.length EZ f):
 oA (b9 T0) T0 m EZ (q++xd.ch) (i+1):=by
 have YB:=h.oF.shape hS;have hpe:=h.oF.b9;have hP:=hS.par;have pq:xd.ch=kids (b9 T0) x:=by rw [YB.ch x xd Ka,hpe]
 have dX:i<q.length:=(lgeS hq).1;have Ix:x∈q:=List.mem_of_getElem? hq;have uf:x<(b9 T0).length:=(h.pE x Ix).lt;have zz:q.take (i+1)=q.take i++ [x]:=oD hq;have PQ:(q++xd.ch).take (i+1)=q.take i++ [x]:=by rw [List.take_append_of_le_length (by omega),zz]
 have M8:x∉q.take i:=by
  intro hh;have hn:(q.take i++ [x]).Nodup:=by rw [<-zz];exact h.nodup.sublist (List.take_sublist _ _)
  rw [List.nodup_append]at hn;exact hn.2.2 x hh x (by simp) rfl
 have Gs:∀c,c∈xd.ch->(b9 T0)[c]? =some (x:Int):=fun c hc=>fD.1 (pq▸hc);have yh:∀c,c∈xd.ch->x<c:=fun c hc=>(jA hP (pq▸hc)).1;have nQ:∀c,c∈xd.ch->c∉q:=by
  intro c hc Yt;rcases h.src c Yt with rfl|⟨z,hz,Yd⟩
  ·have:=(h.pE x Ix).le hP
   have:=yh _ hc;omega
  ·rw [Gs c hc]at Yd
   have:z=x:=by have:=Option.some.inj Yd;omega
   exact M8 (this▸hz)
 have aid:x∉xd.ch:=fun hh=>Nat.lt_irrefl _ (yh x hh);have cY:∀c,c∈(({xd with free:=xd.lo}:Nd).ch.take xd.ch.length)↔c∈xd.ch:=by intro c;simp
 have ID:(xd.ch.map (sz (b9 T0))).sum+1=sz (b9 T0) x:=by
  rw [pq];exact DZ hP uf
 have jT:=vf hP uf;have RZ:=gD.bound EK jT (by simp only [List.take_length];omega);have abR:=gD.lo;simp only [List.take_length]at RZ abR;have abS:f<=xd.hi:=by omega
 have hT1:∀y,y≠x->(T'.set x {xd with free:=xd.lo})[y]? =T'[y]? :=fun y hy=>List.getElem?_set_ne (fun e=>hy e.symm);have IN:∀y,y≠x->y∉xd.ch->EZ[y]? =T'[y]? :=fun y hy hn=>by
  rw [gD.rest y hy (fun hh=>hn ((cY y).1 hh)),hT1 y hy]
 have NI:EZ[x]? =some {xd with free:=f}:=gD.here;have hxr:=h.room x xd Ix Ka;have hlh:xd.lo<=xd.hi:=by omega
 have hold:∀y zJ,y∉xd.ch->EZ[y]? =some zJ->∃yd,T'[y]? =some yd/\yd.lo=zJ.lo/\yd.hi=zJ.hi:=by
  intro y zJ hn hy;by_cases e:y=x
  ·subst e
   rw [NI]at hy;cases hy;exact⟨xd,Ka,rfl,rfl⟩
  ·rw [IN y e hn]at hy
   exact⟨zJ,hy,rfl,rfl⟩
 exact {
  oF:=(h.oF.trans (mc.set (nd':= {xd with free:=xd.lo}) Ka rfl rfl)).trans gD.oF
  nodup:=by
   rw [List.nodup_append];refine⟨h.nodup,?_,fun a ha b hb e=>nQ b hb (e▸ha)⟩;rw [pq];exact(ub _ _).imp (fun h=>by omega)
  pE:=fun y hy=>by
   rcases List.mem_append.1 hy with hy|hy
   ·exact h.pE y hy
   ·exact .step (Gs y hy) (h.pE x Ix)
  fst:=List.mem_append.2 (.inl h.fst)
  src:=fun y hy=>by
   rw [PQ];rcases List.mem_append.1 hy with hy|hy
   ·rcases h.src y hy with e|⟨z,hz,Yd⟩
    ·exact .inl e
    ·exact .inr ⟨z,List.mem_append.2 (.inl hz),Yd⟩
   ·exact .inr ⟨x,by simp,Gs y hy⟩
  YQ:=fun z hz c hc=>by
   rw [PQ]at hz;rcases List.mem_append.1 hz with hz|hz
   ·exact List.mem_append.2 (.inl (h.YQ z hz c hc))
   ·simp at hz
    subst hz;exact List.mem_append.2 (.inr (pq▸hc))
  rest:=fun y hy=>by
   have h1:y∉q:=fun hh=>hy (List.mem_append.2 (.inl hh));have h2:y∉xd.ch:=fun hh=>hy (List.mem_append.2 (.inr hh));rw [IN y (fun e=>h1 (e▸Ix)) h2,h.rest y h1]
  top:=fun md ZD yg UY=>by
   obtain⟨S9,h1,h2,h3⟩:=hold m ZD (fun hh=>nQ m hh h.fst) UY;have:=h.top md S9 yg h1;omega
  room:=fun y zJ hy M7=>by
   rcases List.mem_append.1 hy with hy|hy
   ·obtain⟨yd,h1,h2,h3⟩:=hold y zJ (fun hh=>nQ y hh hy) M7
    have:=h.room y yd hy h1;omega
   ·have:=gD.ru y zJ ((cY y).2 hy) M7
    simp only at this;omega
  loc:=fun z zd hz Z4=>by
   rw [PQ]at hz;rcases List.mem_append.1 hz with hz|hz
   ·have hzq:z∈q:=List.mem_of_mem_take hz
    have TU:z≠x:=fun e=>M8 (e▸hz);have PD:=Z4;rw [IN z TU (fun hh=>nQ z hh hzq)]at PD;have hl:=h.loc z zd hz PD;have Z5:zd.ch=kids (b9 T0) z:=by rw [YB.ch z zd PD,hpe]
    have Yu:∀c,c∈zd.ch->c∉xd.ch:=by
     intro c hc I3;have h1:=Gs c I3;rw [fD.1 (Z5▸hc:c∈kids (b9 T0) z)]at h1;have:=Option.some.inj h1;omega
    exact {
     He:=hl.He
     Dn:=hl.Dn
     sub:=fun c cd hc kI=>by
      obtain⟨wz,h1,h2,h3⟩:=hold c cd (Yu c hc) kI;have:=hl.sub c wz hc h1;omega
     ord:=fun c c' cd wz hc uI Bg kI rD=>by
      obtain⟨ed,h1,h2,h3⟩:=hold c cd (Yu c hc) kI;obtain⟨Q8,um,v7,EP⟩:=hold c' wz (Yu c' uI) rD;have:=hl.ord c c' ed Q8 hc uI Bg h1 um;omega}
   ·simp at hz
    subst hz;rw [NI]at Z4;cases Z4;exact {
     He:=by simp only;omega
     Dn:=abS
     sub:=fun c cd hc kI=>by
      have:=gD.ru c cd ((cY c).2 hc) kI;simp only at this⊢;omega
     ord:=fun c c' cd wz hc uI Bg kI rD=>gD.ord c c' cd wz ((cY c).2 hc) ((cY c').2 uI) Bg kI rD}}
theorem oA.fin(hS:Shape T0)(h:oA (b9 T0) T0 m T' q i)(hi:q.length<=i)
 (UE:∀y nd,T0[y]? =some nd->¬kZ (b9 T0) y m->Iv nd/\Loc T0 nd):Good T':=by
 have YB:=h.oF.shape hS;have hpe:=h.oF.b9;have hP:=hS.par;have zz:q.take i=q:=List.take_of_length_le hi;have rR:∀y,kZ (b9 T0) y m->y∈q:=by
  have:∀y k,kZ (b9 T0) y k->k=m->y∈q:=by
   intro y k hu
   induction hu with
   |refl=>intro e;subst e;exact h.fst
   | @step a b c hp h' ih=>intro e;exact h.YQ b (by rw [zz];exact ih e) a (fD.2 hp)
  exact fun y hu=>this y m hu rfl
 have hq:∀y,y∈q↔kZ (b9 T0) y m:=fun y=>⟨h.pE y,rR y⟩;refine⟨YB,fun y yd CI=>?_,fun y yd CI=>?_⟩
 ·by_cases hy:y∈q
  ·have hr:=h.room y yd hy CI
   have:=vf hP (h.pE y hy).lt;exact⟨hr.1,by omega,hr.2.1⟩
  ·rw [h.rest y hy]at CI
   exact(UE y yd CI (fun hu=>hy (rR y hu))).1
 ·by_cases hy:y∈q
  ·exact h.loc y yd (by rw [zz];exact hy) CI
  ·have PF:=CI
   rw [h.rest y hy]at PF;have hl:=(UE y yd PF (fun hu=>hy (rR y hu))).2;have pq:=hS.ch y yd PF;have hold:∀c cd,c∈yd.ch->T'[c]? =some cd->∃ed,T0[c]? =some ed/\ed.lo=cd.lo/\ed.hi=cd.hi:=by
    intro c cd hc kI;by_cases Yt:c∈q
    ·have hpc:=fD.1 (pq▸hc:c∈kids (b9 T0) y)
     have o8:c=m:=by
      by_cases e:c=m
      ·exact e
      ·exact absurd (rR y ((h.pE c Yt).inv e hpc)) hy
     subst o8;obtain⟨ed,hed,_⟩:=h.oF.back kI;have:=h.top ed cd hed kI;exact⟨ed,hed,by omega,by omega⟩
    ·rw [h.rest c Yt]at kI
     exact⟨cd,kI,rfl,rfl⟩
   exact {
    He:=hl.He
    Dn:=hl.Dn
    sub:=fun c cd hc kI=>by
     obtain⟨ed,h1,h2,h3⟩:=hold c cd hc kI;have:=hl.sub c ed hc h1;omega
    ord:=fun c c' cd wz hc uI Bg kI rD=>by
     obtain⟨ed,h1,h2,h3⟩:=hold c cd hc kI;obtain⟨Q8,um,v7,EP⟩:=hold c' wz uI rD;have:=hl.ord c c' ed Q8 hc uI Bg h1 um;omega}
end
open Go Go.RowKit Go.b0
theorem O4{l:List Nat}{a:Nat}(h:a∈l):a<=l.sum:=by
 induction l with
 |nil=>simp at h
 |cons b l ih=>
  rw [List.sum_cons];rcases List.mem_cons.1 h with rfl|h
  ·omega
  ·have:=ih h;omega
theorem AU{l:List Nat}{j x:Nat}(h:l[j]? =some x):(ints l)[j]? =some (.int .i64 (x:Int)):=by simp [ints,h]
theorem Iu(l:List Nat):(ints l).length=l.length:=by simp [ints]
theorem It(l:List Nat):∀u∈ints l,u.oneCell'=true:=by
 intro u hu;simp only [ints,List.mem_map]at hu;obtain⟨x,_,rfl⟩:=hu;rfl
structure Dl(w0:World)(S:Nat->Prop)(g b c B0 B1 len:Nat)(P:List Int)(d:Int)(As:Option Addr)(w:World)(T':List Nd)(L:List (Nd×Value))(Aq:Option Addr)(nq cq:Nat)(q:List Nat):Prop where
 tv:TV w S g T' d b c L
 rs:Row w B0 gF 1 As len len (us (sz P) len)
 sb:∀k,bI As=some k->k<B1
 rq:Row w B1 iu 1 Aq nq cq (ints q)
 kp:Kept S w0 w
 hS:∀k,S k->k<B0
 hB:B0<=B1
 Ji:B1<=w.heap.size
 h0:w0.heap.size<=B0
section
variable{w0 w w':World}{S:Nat->Prop}{g b c B0 B1 len:Nat}{P:List Int}{d:Int}{As:Option Addr}{T' EZ:List Nd}{L L':List (Nd×Value)}{Aq:Option Addr}{nq cq:Nat}{q:List Nat}
theorem Dl.KI(h:Dl w0 S g b c B0 B1 len P d As w T' L Aq nq cq q):nq=q.length:=by
 have:=Row.len h.rq;rw [Iu]at this;omega
theorem Dl.quiet(h:Dl w0 S g b c B0 B1 len P d As w T' L Aq nq cq q)(hk:Kept Nil w w'):Dl w0 S g b c B0 B1 len P d As w' T' L Aq nq cq q:= {
 tv:=h.tv.kept hk
 rs:=Row.aK h.rs hk (fun _ _ h=>h)
 sb:=h.sb
 rq:=Row.aK h.rq hk (fun _ _ h=>h)
 kp:=h.kp.trans hk (fun _ _ h=>h.elim)
 hS:=h.hS
 hB:=h.hB
 Ji:=Nat.le_trans h.Ji hk.size
 h0:=h.h0}
theorem Dl.wrote(h:Dl w0 S g b c B0 B1 len P d As w T' L Aq nq cq q)(hk:Kept (fun k=>k=b) w w')(ht:TV w' S g EZ d b c L'):Dl w0 S g b c B0 B1 len P d As w' EZ L' Aq nq cq q:= {
 tv:=ht
 rs:=Row.aK h.rs hk (fun k e e2=>by have:=(Row.bV h.rs e).1;have:=h.hS b h.tv.gS;omega)
 sb:=h.sb
 rq:=Row.aK h.rq hk (fun k e e2=>by have:=(Row.bV h.rq e).1;have:=h.hS b h.tv.gS;have:=h.hB;omega)
 kp:=h.kp.trans hk (fun k _ e=>by rw [e];exact h.tv.gS)
 hS:=h.hS
 hB:=h.hB
 Ji:=Nat.le_trans h.Ji hk.size
 h0:=h.h0}
theorem Dl.Ee(h:Dl w0 S g b c B0 B1 len P d As w T' L Aq nq cq q){j:Nat}(hj:j<len){k:Int->Prop}(hk:k (sz P j)):
 Is As fun a=>∃t,w.cell? (a.add (j*1))=some (.int .u64 t)/\k t:=by
 have hr:=h.rs;obtain⟨b',rfl⟩:=Row.some hr (by omega);exact⟨_,by rw [mX,Nat.mul_one];exact Row.cell hr (pI _ hj),hk⟩
theorem Dl.SM(h:Dl w0 S g b c B0 B1 len P d As w T' L Aq nq cq q){j x:Nat}(hj:q[j]? =some x){k:Int->Prop}(hk:k x):
 Is Aq fun a=>∃t,w.cell? (a.add (j*1))=some (.int .i64 t)/\k t:=by
 have hr:=h.rq;have di:=(lgeS hj).1;obtain⟨b',rfl⟩:=Row.some hr (by rw [h.KI];omega);exact⟨_,by rw [mX,Nat.mul_one];exact Row.cell hr (AU hj),hk⟩
theorem Dl.push(h:Dl w0 S g b c B0 B1 len P d As w T' L Aq nq cq q)(vS:q.length<=4000000)(x:Nat){w1:World}(e1:w1=w.alloc (.cells #[.int .i64 (x:Int)] iu)):
 ∃Kw Kq w2,(Builtin.append_ #[jP,jP] jP #[.slice Aq nq cq,.slice (some ⟨w.heap.size,0,none⟩) 1 1]).run prog w1=.ok (.slice Kw (nq+1) Kq) w2/\
  Dl w0 S g b c B0 B1 len P d As w2 T' L Kw (nq+1) Kq (q++ [x])/\(∀S0:Nat->Prop,(∀k,bI Aq=some k->S0 k)->Kept S0 w w2):=by
 subst e1;generalize Kb:w.alloc (.cells #[.int .i64 (x:Int)] iu)=w1;have nQ:w1.heap[w.heap.size]? =some (.cells #[.int .i64 (x:Int)] iu (0,0)):=by rw [<-Kb];exact aM w _
 have k1:Kept Nil w w1:=by rw [<-Kb];exact(Kept.refl Nil w).alloc _
 have h1:=h.quiet k1;have IP:=h.KI;obtain⟨A',c',w2,hr,fP,hg,C9⟩:=fZ (P:=prog) (t:=jP) (ty:=jP) MD h1.rq (a:=⟨w.heap.size,0,none⟩) (m:=1) (cx:=1)
  (news:=ints [x]) rfl (fun j u hj=>by rw [mX,aE nQ];simpa [ints]using hj) (It _) (by omega) (by unfold maxLen;omega) h1.Ji
 have kA:Kept (fun k=>bI Aq=some k) w1 w2:=(Kept.refl _ w1).grown hg (fun k hk _=>hk);have gH:∀k,bI Aq=some k->B1<=k:=fun k e=>(Row.bV h.rq e).1;refine⟨A',c',w2,hr,?_,fun S0 h0=>(k1.mono (S':=S0) (fun _ _ h=>h.elim)).trans kA (fun k _ e=>h0 k e)⟩;exact {
  tv:=h1.tv.aK kA (fun k hk e=>by have:=h.hS k hk;have:=gH k e;have:=h.hB;omega)
  rs:=Row.aK h1.rs kA (fun k e e2=>by have:=h.sb k e;have:=gH k e2;omega)
  sb:=h.sb
  rq:=by simpa [ints]using fP
  kp:=(h.kp.trans k1 (fun _ _ h=>h.elim)).trans kA (fun k hk e=>absurd (gH k e) (by have:=h.hB;have:=h.h0;omega))
  hS:=h.hS
  hB:=h.hB
  Ji:=Nat.le_trans h1.Ji kA.size
  h0:=h.h0}
theorem Dr{T0 T1:List Nd}{x:Nat}{xd:Nd}{half:Nat}{spare i:Int}{Xy:Option Addr}{XF:Nat}{Qo:aT}
 (D:Dl w0 S g b c B0 B1 T0.length (b9 T0) d As w T1 L Aq nq cq q) (hS:Shape T0) (X3:mc T0 T1) (hlen:T0.length<=1000000) (IP:q.length<=1000000)
 (hx:T1[x]? =some xd) (Bd:xd.free=xd.lo) (Yj:0<=xd.lo) (hhi:xd.hi<=4611686018427387904) (EK:(half:Int)*2<=xd.hi-xd.lo-((sz (b9 T0) x:Int)-1))
 (Ha:u64.wrap (spare.tdiv 2)=(half:Int)) (ab5:Row w 0 iu 1 Xy xd.ch.length XF (ints xd.ch)) (VR:∀k,bI Xy=some k->S k/\k≠b)
 (hex:∀w' EZ f L' Kw Kq,Dl w0 S g b c B0 B1 T0.length (b9 T0) d As w' EZ L' Kw (nq+xd.ch.length) Kq (q++xd.ch)->qq (b9 T0) T1 x xd half xd.ch.length EZ f->
   Qo .normal [(0,.pointer (some ⟨g,0,none⟩)),(4,.slice As T0.length T0.length),(5,.slice Kw (nq+xd.ch.length) Kq),(6,.int .i64 (i64.wrap (i+1)))] w'):
 Holds none [] prog 164 (.loop (lB (bB (cH (bB (sL (sR (lB (bB (cH (sR (body aA.fn)))))))))))) (aA.q3 Qo) (aA.e3 (some ⟨g,0,none⟩) As T0.length T0.length i x spare Xy xd.ch.length XF xd.ch.length (Aq,nq,cq,0)) w:=by
 have hP:=hS.par;have rQ:=fC T0;have pq:xd.ch=kids (b9 T0) x:=by
  have:=(X3.shape hS).ch x xd hx
  rwa [X3.b9]at this
 have uf:x<T0.length:=by rw [<-X3.len];exact(lgeS hx).1
 have Lm:xd.ch.Pairwise (· < ·):=by rw [pq];exact ub _ _
 have yh:∀y,y∈xd.ch->x<y:=fun y hy=>(jA hP (pq▸hy)).1;have VQ:xd.ch.length<=1000000:=by rw [pq];exact Nat.le_trans (AM _ _) (by omega)
 have ID:(xd.ch.map (sz (b9 T0))).sum+1=sz (b9 T0) x:=by rw [pq];exact DZ hP (by omega)
 have jT:=vf hP (n:=x) (by omega);have aaw:=xG (P:=b9 T0) x;have hnq:=D.KI;refine aA.sn (I:=fun s w'=>∃(k:Nat) (T':List Nd) (f:Int) (L':List (Nd×Value)) (Kw:Option Addr) (Kq:Nat),s=(Kw,nq+k,Kq,(k:Int))/\k<=xd.ch.length/\
  Dl w0 S g b c B0 B1 T0.length (b9 T0) d As w' T' L' Kw (nq+k) Kq (q++xd.ch.take k)/\qq (b9 T0) T1 x xd half k T' f/\Row w' 0 iu 1 Xy xd.ch.length XF (ints xd.ch))
  (μ:=fun s _=>((xd.ch.length:Int)-s.2.2.2).toNat) (s:=(Aq,nq,cq,0)) ⟨0,T1,xd.lo,L,Aq,cq,rfl,Nat.zero_le _,by simpa using D,qq.start hx Bd,ab5⟩ ?_
 rintro s w' ⟨k,T',f,L',Kw,Kq,rfl,hk,D',gD,hr⟩;refine Split.dec (fun di=>?_) (fun gH=>?_)
 ·simp only at di
  have C0:k<xd.ch.length:=by omega
  obtain⟨ci,Yv⟩:∃ci,xd.ch[k]? =some ci:=⟨_,List.getElem?_eq_getElem C0⟩;have o8:ci∈xd.ch:=List.mem_of_getElem? Yv;have hck:ci∈kids (b9 T0) x:=pq▸o8;have rR:ci<T0.length:=by have:=(jA hP hck).2;omega
  have hxc:=yh ci o8;have EA:=vf hP (n:=ci) (by omega);have aiz:=xG (P:=b9 T0) ci;have Ub:=X3.trans gD.oF;obtain⟨cd,kI⟩:=gK (T:=T') (i:=ci) (by rw [Ub.len];exact rR);have VP:cd.parent=x:=by
   have h1:=lS kI;rw [Ub.b9,fD.1 hck]at h1;exact(Option.some.inj h1).symm
  have aaz:sz (b9 T0) ci<=sz (b9 T0) x:=by
   have:=O4 (l:=xd.ch.map (sz (b9 T0))) (a:=sz (b9 T0) ci) (List.mem_map.2 ⟨ci,o8,rfl⟩);omega
  have Wa:0<=(ci:Int)/\(ci:Int)<(T0.length:Int):=⟨by omega,by omega⟩;have kh:0<=(x:Int)/\(x:Int)<(T0.length:Int):=⟨by omega,by omega⟩;have abE:half<4611686018427387904:=by omega
  obtain⟨bch,acm⟩:=Row.some hr (by omega);subst acm;refine⟨⟨by simp only;omega,by simp only;omega⟩,_,by simp only [mX,Int.toNat_natCast,Nat.mul_one];exact Row.cell hr (AU Yv),by decide,Wa,D'.Ee rR ?_⟩;rw [Ha];refine xp half (sz (b9 T0) ci) (by omega) (by omega) ⟨_,_,rfl,kh,D'.Ee uf ?_⟩;have UX:(half*sz (b9 T0) ci/18446744073709551616)*18446744073709551616+half*sz (b9 T0) ci%18446744073709551616=half*sz (b9 T0) ci:=Nat.div_add_mod' _ _;have abD:half*sz (b9 T0) ci/18446744073709551616<sz (b9 T0) x:=by
   have:half*sz (b9 T0) ci<18446744073709551616*sz (b9 T0) ci:=Nat.mul_lt_mul_of_pos_right (by omega) EA;have:half*sz (b9 T0) ci/18446744073709551616<sz (b9 T0) ci:=Nat.div_lt_of_lt_mul this;omega
  refine xt _ _ (sz (b9 T0) x) (Nat.mod_lt _ (by omega)) (by omega) abD fun r w90 k90=>?_;rw [UX];generalize hm:half*sz (b9 T0) ci/sz (b9 T0) x=more;have hmx:more*sz (b9 T0) x<=half*sz (b9 T0) ci:=by rw [<-hm];exact Nat.div_mul_le_self _ _
  have ajn:more<=half:=by
   rw [<-hm];apply Nat.div_le_of_le_mul;rw [Nat.mul_comm];exact Nat.mul_le_mul_right _ aaz
  have D90:=D'.quiet k90;have aaJ:=Row.aK hr k90 (fun _ _ h=>h);refine⟨_,_,rfl,Wa,D90.Ee rR ?_⟩;rw [gm (x:=(sz (b9 T0) ci:Int)+(more:Int)) (by omega) (by omega)];have Bi:=gD.bound (by omega) jT (by
   have h1:(((xd.ch.take k).map (sz (b9 T0))).sum)<=(xd.ch.map (sz (b9 T0))).sum:=by
    conv=>rhs;rw [<-List.take_append_drop k xd.ch,List.map_append,List.sum_append]
    omega
   omega)
  have nH:=gD.lo;have h1:(((xd.ch.take k).map (sz (b9 T0))).sum)<=(xd.ch.map (sz (b9 T0))).sum:=by
   conv=>rhs;rw [<-List.take_append_drop k xd.ch,List.map_append,List.sum_append]
   omega
  refine vc D90.tv kI gD.here VP (by omega) (by simp only;omega) (by omega) (by simp only;omega) fun w96 L96 h96 k96=>⟨rfl,?_⟩;have D96:=D90.wrote k96 h96;have aaH:=Row.aK aaJ k96 (fun k e e2=>(VR k e).2 e2);intro w97;have htl:(xd.ch.take k).length<=1000000:=by rw [List.length_take];omega
  obtain⟨Sm,Sb,Rr,aaC,D99,XL⟩:=D96.push (by rw [List.length_append];omega) ci (w1:=w97) rfl;have aaG:=Row.aK aaH (XL (fun k=>B1<=k) (fun k e=>(Row.bV D96.rq e).1)) (fun k e e2=>by have:=D.hS k (VR k e).1;have:=D.hB;omega);refine⟨Sm,_,Sb,Rr,aaC,?_⟩;rw [jb (x:=(k:Int)+1) (by omega) (by omega)];refine⟨(Sm,nq+(k+1),Sb,((k+1:Nat):Int)),rfl,⟨k+1,_,_,L96,Sm,Sb,rfl,C0,?_,gD.step (more:=(more:Int)) Lm yh Yv kI (by omega) ?_ EA,aaG⟩,by simp only;omega⟩
  ·rw [oD Yv,<-List.append_assoc]
   exact D99
  ·have:((more*sz (b9 T0) x:Nat):Int)<=((half*sz (b9 T0) ci:Nat):Int):=by omega
   rwa [Int.natCast_mul,Int.natCast_mul]at this
 ·simp only at gH
  have:k=xd.ch.length:=by omega
  subst this;rw [aU,aA.yz];rw [List.take_length]at D';exact hex w' T' f L' Kw Kq D' gD
end
theorem HU:∀(n:Nat) (q:List Nat),q.Nodup->(∀y,y∈q->y<n)->q.length<=n:=by
 intro n
 induction n with
 |zero=>
  intro q _ h;cases q with
  |nil=>simp
  |cons a q=>exact absurd (h a (by simp)) (by omega)
 |succ n ih=>
  intro q hn h;by_cases hm:n∈q
  ·have h1:=List.length_erase_of_mem hm
   have h2:=ih (q.erase n) (hn.erase n) (fun y hy=>by
    have:=(List.Nodup.mem_erase_iff hn).1 hy;have:=h y this.2;omega)
   omega
  ·have:=ih q hn (fun y hy=>by
    have:=h y hy;have:y≠n:=fun e=>hm (e▸hy);omega)
   omega
section
variable{w0 w:World}{S:Nat->Prop}{g b c B0:Nat}{d:Int}{As:Option Addr}{L:List (Nd×Value)}{T:List Nd}{K:Value->World->Prop}
theorem Dq{T0:List Nd}{m:Nat}{md:Nd}
 (htv:TV w S g T0 d b c L) (hrs:Row w B0 gF 1 As T0.length T0.length (us (sz (b9 T0)) T0.length)) (Vc:Kept S w0 w) (hSB:∀k,S k->k<B0) (T4:w0.heap.size<=B0) (hBw:B0<=w.heap.size)
 (hS:Shape T0) (hlen:T0.length<=1000000) (yg:T0[m]? =some md) (h1:1<=md.lo) (h2:md.hi<=4611686018427387904) (h3:(sz (b9 T0) m:Int)<=md.hi-md.lo+1)
 (hK:∀w' T' q i,pG w' S g T' d->oA (b9 T0) T0 m T' q i->q.length<=i->Kept S w0 w'->K (.tuple #[]) w'):
 aA.df (some ⟨g,0,none⟩) m As T0.length T0.length K w:=by
 have hP:=hS.par;have rQ:=fC T0;have Gr:m<T0.length:=(lgeS yg).1;unfold aA.df;intro jG;have nn:Kept Nil w jG:=(Kept.refl Nil w).alloc _;have nQ:jG.heap[w.heap.size]? =some (.cells #[.int .i64 (m:Int)] iu (0,0)):=aM w _;have D35:Dl w0 S g b c B0 w.heap.size T0.length (b9 T0) d As jG T0 L (some ⟨w.heap.size,0,none⟩) 1 1 [m]:= {
  tv:=htv.kept nn
  rs:=Row.aK hrs nn (fun _ _ h=>h)
  sb:=fun k e=>by obtain⟨_,_,hc⟩:=Row.bV hrs e;exact bf hc
  rq:=Row.made (n:=1) (cur:= #[.int .i64 (m:Int)]) nQ (Nat.le_refl _) rfl (by decide)
  kp:=Vc.trans nn (fun _ _ h=>h.elim)
  hS:=hSB
  hB:=hBw
  Ji:=nn.size
  h0:=T4}
 clear_value jG;generalize Ji:w.heap.size=B1 at*;refine aA.iB (I:=fun s w'=>∃(i:Nat) (T':List Nd) (L':List (Nd×Value)) (Aq:Option Addr) (nq cq:Nat) (q:List Nat),s=(Aq,nq,cq,(i:Int))/\i<=q.length/\
  Dl w0 S g b c B0 B1 T0.length (b9 T0) d As w' T' L' Aq nq cq q/\oA (b9 T0) T0 m T' q i)
  (μ:=fun s _=>((T0.length:Int)-s.2.2.2).toNat) (s:=(some ⟨B1,0,none⟩,1,1,0)) ⟨0,T0,L,_,1,1,[m],rfl,Nat.zero_le _,D35,oA.start (by omega) yg h1 h2 h3⟩ ?_
 rintro s w' ⟨i,T',L',Aq,nq,cq,q,rfl,hi,D,hO⟩;have hnq:=D.KI;have IP:q.length<=T0.length:=HU _ _ hO.nodup (fun y hy=>by have:=(hO.pE y hy).lt;omega);refine Split.dec (fun di=>?_) (fun gH=>?_)
 ·simp only at di
  have dX:i<q.length:=by omega
  obtain⟨x,hqx⟩:∃x,q[i]? =some x:=⟨_,List.getElem?_eq_getElem dX⟩;have Ix:x∈q:=List.mem_of_getElem? hqx;have uf:x<T0.length:=by have:=(hO.pE x Ix).lt;omega
  obtain⟨xd,Ka⟩:=gK (T:=T') (i:=x) (by rw [hO.oF.len];exact uf);have ug:=hO.room x xd Ix Ka;have jT:=vf hP (n:=x) (by omega);have aaw:=xG (P:=b9 T0) x;have hlT:T'.length=T0.length:=hO.oF.len;have kh:0<=(x:Int)/\(x:Int)<(T'.length:Int):=⟨by omega,by omega⟩;refine⟨⟨by simp only;omega,by simp only;omega⟩,D.SM hqx ?_⟩;intro Hq;have Sl:=D.quiet (w':=Hq) (Kept.refl Nil w').drew;clear_value Hq;obtain⟨v,hv⟩:=Sl.tv.at_ Ka;obtain⟨wr,h50⟩:=Sl.tv.vm hv (j:=4) (by omega) (u:=.int .u64 xd.lo) (nd':= {xd with free:=xd.lo}) rfl rfl;refine Sl.tv.go (Sl.tv.go ⟨kh,Sl.tv.we hv ⟨kh,by rw [pz];exact wr,?_⟩⟩);intro JT Hp;have e50:JT=Hq.setCell ⟨b,x*5+4,none⟩ (.int .u64 xd.lo):=by simp only [JT,pz,Int.toNat_natCast]
  rw [<-e50]at h50;have RG:Kept (fun k=>k=b) Hq JT:=by rw [e50];exact(Kept.refl (fun k=>k=b) Hq).setCell (p:=⟨b,x*5+4,none⟩) (fun _=>rfl) _
  have Ku:=(Sl.wrote RG h50).quiet (w':=Hp) (Kept.refl Nil JT).drew;clear_value Hp;have v1:(L'.set x ({xd with free:=xd.lo},v))[x]? =some ({xd with free:=xd.lo},v):=jt hv;obtain⟨Xy,XF,hk⟩:=Ku.tv.ru _ _ v1;have zD:(T'.set x {xd with free:=xd.lo}).length=T'.length:=by simp
  have QH:0<=(x:Int)/\(x:Int)<((T'.set x {xd with free:=xd.lo}).length:Int):=by rw [zD];exact kh
  have Yw:0<=(x:Int)/\(x:Int)<(T0.length:Int):=⟨by omega,by omega⟩;refine Ku.tv.go ⟨QH,Ku.tv.Bp v1 (Ku.tv.go ⟨QH,Ku.tv.we v1 ⟨Yw,Ku.Ee uf (Ku.tv.go ⟨QH,Ku.tv.WY v1 hk.val ?_⟩)⟩⟩)⟩;have aay:mc T0 (T'.set x {xd with free:=xd.lo}):=hO.oF.trans (mc.set (nd':= {xd with free:=xd.lo}) Ka rfl rfl);simp only;obtain⟨cur,R1⟩:=Ku.tv.wD;generalize hhf:((xd.hi-xd.lo-((sz (b9 T0) x:Int)-1)).toNat /2)=half;refine Dr (half:=half) (xd:= {xd with free:=xd.lo}) Ku hS aay hlen (by omega) (jt Ka) rfl (by simp only;omega) (by simp only;omega) (by simp only;omega) ?_ hk.row (fun k e=>⟨hk.kY k e,fun e2=>hk.ne R1 (by decide) (by rw [e,e2])⟩) ?_
  ·rw [gm (x:=xd.hi-xd.lo) (by omega) (by omega),gm (x:=(sz (b9 T0) x:Int)-1) (by omega) (by omega),gm (x:=xd.hi-xd.lo-((sz (b9 T0) x:Int)-1)) (by omega) (by omega),
    Int.tdiv_eq_ediv_of_nonneg (by omega),gm (by omega) (by omega)]
   omega
  ·intro w2 T2 f L2 Sm Sb D2 gD
   rw [jb (x:=(i:Int)+1) (by omega) (by omega)];refine⟨(Sm,nq+xd.ch.length,Sb,((i+1:Nat):Int)),rfl,⟨i+1,T2,L2,Sm,_,Sb,q++xd.ch,rfl,by rw [List.length_append];omega,D2,hO.step hS hqx Ka (by omega) (by omega) gD⟩,by simp only;omega⟩
 ·simp only at gH
  rw [aU,aA.ki];exact hK w' T' q i ⟨_,_,_,D.tv⟩ hO (by omega) D.kp
theorem TV.Zl(h:TV w S g T d b c L)(d':Int):Wr w ⟨g,1,none⟩/\TV (w.setCell ⟨g,1,none⟩ (.int .i64 d')) S g T d' b c L:=by
 have kG:Kept (fun k=>k=g) w (w.setCell ⟨g,1,none⟩ (.int .i64 d')):=(Kept.refl (fun k=>k=g) w).setCell (p:=⟨g,1,none⟩) (fun _=>rfl) _;refine⟨dQ h.top (show 1<2 by omega),?_⟩;exact {
  top:=by
   have:=du h.top 1 (.int .i64 d');simpa using this
  fst:=h.fst
  row:=Row.aK h.row kG (fun k e e2=>h.gb (by cases e;exact e2.symm))
  ru:=fun i p hp=>by
   obtain⟨A,m,hk⟩:=h.ru i p hp;exact⟨A,m,hk.val,Row.aK hk.row kG (fun k e e2=>hk.ne h.top (by decide) (by rw [e,e2])),hk.kY⟩
  apart:=h.apart
  iW:=h.iW
  gS:=h.gS}
set_option maxRecDepth 100000 in
theorem Fp(h:pG w S g T d)(hS:Shape T)(hlen:T.length<=1000000){p:Nat}(hp:p<T.length)(hd:0<=d/\d<=1000000)
 (Uj:∀nd,T[0]? =some nd->nd.lo=1/\nd.hi=4611686018427387904)
 (Yn:∀y nd,T[y]? =some nd->kZ (b9 T) p y->Iv nd)
 (hK:∀w' T' m q i,pG w' S g T' (d+1)->kZ (b9 T) p m->oA (b9 T) T m T' q i->q.length<=i->Kept S w w'->K (.tuple #[]) w'):
 bG prog aA.id #[.pointer (some ⟨g,0,none⟩),.int .i64 p] w K:=by
 have hP:=hS.par;have rQ:=fC T;obtain⟨b,c,L,h⟩:=h;have hb:=h.bound;obtain⟨wr,h6⟩:=hb.Zl (d+1);refine aA.of (h.goD ⟨by rw [mX];exact wr,?_⟩);intro w6;have e6:w6=w.setCell ⟨g,1,none⟩ (.int .i64 (d+1)):=by simp only [w6,mX,jb (x:=d+1) (by omega) (by omega)]
 rw [<-e6]at h6;have k6:Kept (fun k=>S k/\k<w.heap.size) w w6:=by rw [e6];exact(Kept.refl _ w).setCell (p:=⟨g,1,none⟩) (fun _=>hb.iW) _
 have Lo:w.heap.size=w6.heap.size:=by rw [e6];simp
 clear_value w6;refine Cc ⟨_,_,_,h6⟩ hP hlen fun w8 As Cl k8=>⟨_,_,_,rfl,?_⟩;have h8:=h6.kept k8;refine aA.cJ (I:=fun s w'=>∃m:Nat,s=(m:Int)/\kZ (b9 T) p m/\Kept Nil w8 w') (μ:=fun s _=>s.toNat) (s:=(p:Int)) ⟨p,rfl,.refl (by omega),Kept.refl _ _⟩ ?_;rintro s w' ⟨m,rfl,hu,kw⟩;have Gr:m<T.length:=by have:=hu.XG;omega
 obtain⟨md,yg⟩:=gK Gr;have hm:=Yn m md yg hu;have Ny:=hm.ZE;have Yh:=hm.le;have hm3:=hm.top;unfold aA.B1;intro pD;have CD:Kept Nil w8 pD:=kw.drew;have BW:=h8.kept CD;have Eb:=Row.aK Cl CD (fun _ _ h=>h);have mB:=lS yg;have aiv:=xG (P:=b9 T) m;have Ja:0<=(m:Int)/\(m:Int)<(T.length:Int):=⟨by omega,by omega⟩;obtain⟨v,hv⟩:=BW.at_ yg;have done:(sz (b9 T) m:Int)<=md.hi-md.lo+1->aA.q1 K (.exit 0) [(0,.pointer (some ⟨g,0,none⟩)),(1,.int .i64 m),(4,.slice As T.length T.length)] pD:=by
  intro ug;rw [aA.dz];have k8':Kept (fun k=>S k/\k<w.heap.size) w pD:=(k6.trans k8 (fun _ _ h=>h.elim)).trans CD (fun _ _ h=>h.elim);refine Dq BW (B0:=w.heap.size) (Row.base Eb (fun k e=>by rw [Lo];exact(Row.bV Eb e).1)) k8' (fun k h=>h.2) (Nat.le_refl _) k8'.size hS hlen yg Ny hm3 ug ?_;intro w2 T2 q i h2 hO hq k2;exact hK w2 T2 m q i (h2.mono (fun k h=>h.1)) hu hO hq (k2.mono (fun k _ h=>h.1))
 refine BW.go ⟨Ja,BW.Jn hv (Split.dec (fun jT=>?_) (fun Ba=>?_))⟩
 ·obtain⟨bs,Yw⟩:=Row.some Eb (by omega)
  subst Yw;refine BW.go ⟨Ja,BW.Bp hv (BW.go ⟨Ja,BW.we hv ⟨by decide,Ja,_,by rw [mX,Int.toNat_natCast,Nat.mul_one];exact Row.cell Eb (pI _ Gr),?_⟩⟩)⟩;rw [gm (x:=md.hi-md.lo) (by omega) (by omega),gm (x:=md.hi-md.lo+1) (by omega) (by omega),Int.tdiv_eq_ediv_of_nonneg (by omega),gm (x:=(md.hi-md.lo+1)/4) (by omega) (by omega)];refine Split.dec (fun di=>?_) (fun gH=>?_)
  ·have RW:0<m:=by
    rcases Nat.eq_zero_or_pos m with rfl|h
    ·rw [hP.root]at mB;have:=Option.some.inj mB;omega
    ·exact h
   obtain⟨z,hz,ez⟩:=hP.up m _ RW mB;refine BW.go ⟨Ja,BW.Jn hv ?_⟩;rw [ez];exact⟨(z:Int),rfl,⟨z,rfl,hu.trans (.step (by rw [mB,ez]) (.refl (by omega))),CD⟩,by simp only;omega⟩
  ·rw [aU]
   exact done (by omega)
 ·have RW:m=0:=by
   rcases Nat.eq_zero_or_pos m with h|h
   ·exact h
   ·obtain⟨z,_,ez⟩:=hP.up m _ h mB
    omega
  subst RW;have:=Uj md yg;rw [aU];exact done (by omega)
end
structure xC(T:List Nd):Prop extends Good T where
 root:∀nd,T[0]? =some nd->nd.lo=1/\nd.hi=4611686018427387904
theorem Cn:xC qP:=by
 have gZ:∀(i:Nat) nd,qP[i]? =some nd->i=0/\nd=⟨-1,[],1,4611686018427387904,1⟩:=by
  intro i nd h;cases i with
  |zero=>simp [qP]at h;exact⟨rfl,h.symm⟩
  |succ i=>simp [qP]at h
 exact {
  par:=⟨rfl,fun i p hi h=>by
   cases i with
   |zero=>omega
   |succ i=>simp [b9,qP]at h⟩
  ch:=fun i nd h=>by
   obtain⟨rfl,rfl⟩:=gZ i nd h;simp [kids,b9,qP]
  iv:=fun i nd h=>by
   obtain⟨rfl,rfl⟩:=gZ i nd h;exact⟨by decide,by decide,by decide⟩
  loc:=fun i nd h=>by
   obtain⟨rfl,rfl⟩:=gZ i nd h;exact⟨by decide,by decide,fun c cd hc=>by simp at hc,fun c c' cd wz hc=>by simp at hc⟩
  root:=fun nd h=>by
   obtain⟨_,rfl⟩:=gZ 0 nd h;exact⟨rfl,rfl⟩}
section
variable{T:List Nd}{p:Nat}{pd:Nd}
theorem GX(hp:T[p]? =some pd)(i:Nat):(added T p pd)[i]? =if i=p then some {pd with ch:=pd.ch++ [T.length],free:=pd.free+jL pd}else if i=T.length then some ⟨p,[],pd.free,pd.free+jL pd-1,pd.free⟩else T[i]? :=by
 have di:p<T.length:=(lgeS hp).1;unfold added;rw [ym (by rw [jU hp,if_neg (by omega),if_pos rfl]) (by rw [jU hp,if_pos rfl]) (by omega),jU hp];split
 ·rfl
 ·split
  ·rfl
  ·rfl
theorem wF(hp:T[p]? =some pd):mc (grown T p pd) (added T p pd):=by
 have di:p<T.length:=(lgeS hp).1;exact v8 _ (by rw [jU hp,if_neg (by omega),if_pos rfl]) (by rw [jU hp,if_pos rfl]) (by omega)
theorem Shape.Ra(h:Shape T){i:Nat}{nd:Nd}(hi:T[i]? =some nd){c:Nat}(hc:c∈nd.ch):i<c/\c<T.length:=by
 rw [h.ch i nd hi]at hc;have:=jA h.par hc
 rwa [fC]at this
theorem xC.added(h:xC T)(hp:T[p]? =some pd)(ug:pd.free<pd.hi):xC (added T p pd):=by
 have di:p<T.length:=(lgeS hp).1;have gZ:=GX hp;have Py:=h.iv p pd hp;have i1:=Py.ZE;have i2:=Py.le;have i3:=Py.top;have lp:=h.loc p pd hp;have l1:=lp.He;have l2:=lp.Dn;have hh1:1<=jL pd:=by unfold jL;omega
 have Yp:pd.free+jL pd<=pd.hi:=by unfold jL;omega
 have hold:∀(c:Nat) cd,c<T.length->(Go.Proofs.YtfleamccglihoaaGreatDoor.Tr.added T p pd)[c]? =some cd->∃ed,T[c]? =some ed/\ed.lo=cd.lo/\ed.hi=cd.hi:=by
  intro c cd hc kI;rw [gZ]at kI;by_cases e:c=p
  ·subst e
   rw [if_pos rfl]at kI;cases kI;exact⟨pd,hp,rfl,rfl⟩
  ·rw [if_neg e,if_neg (by omega)]at kI
   exact⟨cd,kI,rfl,rfl⟩
 have nQ:∀cd,(Go.Proofs.YtfleamccglihoaaGreatDoor.Tr.added T p pd)[T.length]? =some cd->cd=⟨p,[],pd.free,pd.free+jL pd-1,pd.free⟩:=by
  intro cd kI;rw [gZ,if_neg (by omega),if_pos rfl]at kI;exact(Option.some.inj kI).symm
 have aK:∀(i:Nat) nd,T[i]? =some nd->Loc (Go.Proofs.YtfleamccglihoaaGreatDoor.Tr.added T p pd) nd:=by
  intro i nd hi;have hl:=h.loc i nd hi;have hc:=fun c hc=>(h.toShape.Ra hi (c:=c) hc).2;exact {
   He:=hl.He
   Dn:=hl.Dn
   sub:=fun c cd o8 kI=>by
    obtain⟨ed,h1,h2,h3⟩:=hold c cd (hc c o8) kI;have:=hl.sub c ed o8 h1;omega
   ord:=fun c c' cd wz o8 po Bg kI rD=>by
    obtain⟨ed,h1,h2,h3⟩:=hold c cd (hc c o8) kI;obtain⟨Q8,um,v7,EP⟩:=hold c' wz (hc c' po) rD;have:=hl.ord c c' ed Q8 o8 po Bg h1 um;omega}
 have hs:=(wF hp).shape (h.toShape.grown hp);refine {toShape:=hs,iv:=?_,loc:=?_,root:=?_}
 ·intro i nd hi
  rw [gZ]at hi;by_cases e:i=p
  ·rw [if_pos e]at hi
   cases hi;exact⟨i1,i2,i3⟩
  ·rw [if_neg e]at hi
   by_cases e2:i=T.length
   ·rw [if_pos e2]at hi
    cases hi;exact⟨by simp only;omega,by simp only;omega,by simp only;omega⟩
   ·rw [if_neg e2]at hi
    exact h.iv i nd hi
 ·intro i nd hi
  rw [gZ]at hi;by_cases e:i=p
  ·rw [if_pos e]at hi
   cases hi;have kp:=aK p pd hp;have hc:=fun c hc=>(h.toShape.Ra hp (c:=c) hc).2;exact {
    He:=by simp only;omega
    Dn:=Yp
    sub:=fun c cd o8 kI=>by
     simp only at o8;rcases List.mem_append.1 o8 with o8|o8
     ·have:=kp.sub c cd o8 kI
      simp only;omega
     ·simp at o8
      subst o8;have:=nQ cd kI;subst this;simp only;omega
    ord:=fun c c' cd wz o8 po Bg kI rD=>by
     simp only at o8 po;rcases List.mem_append.1 o8 with o8|o8
     ·rcases List.mem_append.1 po with po|po
      ·exact kp.ord c c' cd wz o8 po Bg kI rD
      ·simp at po
       subst po;have:=nQ wz rD;subst this;exact(kp.sub c cd o8 kI).2
     ·simp at o8
      rcases List.mem_append.1 po with po|po
      ·have:=hc c' po
       omega
      ·simp at po
       omega}
  ·rw [if_neg e]at hi
   by_cases e2:i=T.length
   ·rw [if_pos e2]at hi
    cases hi;exact⟨by simp only;omega,by simp only;omega,fun c cd hc=>by simp at hc,fun c c' cd wz hc=>by simp at hc⟩
   ·rw [if_neg e2]at hi
    exact aK i nd hi
 ·intro nd hi
  obtain⟨ed,h1,h2,h3⟩:=hold 0 nd h.toShape.pos hi;have:=h.root ed h1;omega
theorem xC.Ju(h:xC T)(hp:T[p]? =some pd){m i:Nat}{T':List Nd}{q:List Nat}(hu:kZ (b9 (grown T p pd)) p m)
 (hO:oA (b9 (grown T p pd)) (grown T p pd) m T' q i) (hq:q.length<=i):xC T':=by
 have di:p<T.length:=(lgeS hp).1;have gZ:=jU hp;have hS:=h.toShape.grown hp;have hP:=hS.par;have hold:∀(c:Nat) cd,c<T.length->(grown T p pd)[c]? =some cd->∃ed,T[c]? =some ed/\ed.lo=cd.lo/\ed.hi=cd.hi:=by
  intro c cd hc kI;rw [gZ]at kI;by_cases e:c=p
  ·subst e
   rw [if_pos rfl]at kI;cases kI;exact⟨pd,hp,rfl,rfl⟩
  ·rw [if_neg e,if_neg (by omega)]at kI
   exact⟨cd,kI,rfl,rfl⟩
 have RT:(b9 (grown T p pd))[T.length]? =some (p:Int):=by
  rw [mT hp,List.getElem?_append_right (by rw [fC];exact Nat.le_refl _)];simp [fC]
 have iC:=oA.fin hS hO hq (fun y nd hy hn=>by
  rw [gZ]at hy;have e:y≠p:=fun e=>hn (e▸hu);rw [if_neg e]at hy;have e2:y≠T.length:=fun e=>hn (e▸ .step RT hu);rw [if_neg e2]at hy;refine⟨h.iv y nd hy,?_⟩;have hl:=h.loc y nd hy;have hc:=fun c hc=>(h.toShape.Ra hy (c:=c) hc).2;exact {
   He:=hl.He
   Dn:=hl.Dn
   sub:=fun c cd o8 kI=>by
    obtain⟨ed,h1,h2,h3⟩:=hold c cd (hc c o8) kI;have:=hl.sub c ed o8 h1;omega
   ord:=fun c c' cd wz o8 po Bg kI rD=>by
    obtain⟨ed,h1,h2,h3⟩:=hold c cd (hc c o8) kI;obtain⟨Q8,um,v7,EP⟩:=hold c' wz (hc c' po) rD;have:=hl.ord c c' ed Q8 o8 po Bg h1 um;omega})
 refine {toGood:=iC,root:=fun nd hi=>?_};obtain⟨gd,hgd,_⟩:=hO.oF.back hi;obtain⟨ed,h1,h2,h3⟩:=hold 0 gd h.toShape.pos hgd;have hr:=h.root ed h1;by_cases hm:0∈q
 ·have:=(hO.pE 0 hm).le hP
  have RW:m=0:=by omega
  subst RW;have:=hO.top gd nd hgd hi;omega
 ·rw [hO.rest 0 hm,hgd]at hi
  cases hi;omega
end
section
variable{w:World}{S:Nat->Prop}{g:Nat}{T:List Nd}{d:Int}{K:Value->World->Prop}
theorem Hz(h:pG w S g T d)(hF:xC T){p:Nat}(hp:p<T.length)(hlen:T.length<=900000)(hd:0<=d/\d<=900000)
 (hK:∀w' S' T' d',pG w' S' g T' d'->xC T'->b9 T'=b9 T++ [(p:Int)]->d<=d'/\d'<=d+1->Kept S w w'->(∀k,S' k->S k\/w.heap.size<=k)->K (.tuple #[.int .i64 T.length,.int .i64 0]) w'):
 bG prog hZ.id #[.pointer (some ⟨g,0,none⟩),.int .i64 p] w K:=by
 obtain⟨pd,yZ⟩:=gK hp;have Py:=hF.iv p pd yZ;have i1:=Py.ZE;have i2:=Py.le;have i3:=Py.top;have lp:=hF.loc p pd yZ;have l1:=lp.He;have l2:=lp.Dn;have pq:pd.ch.length<=T.length:=by
  rw [hF.ch p pd yZ];have:=AM (b9 T) p
  rwa [fC]at this
 refine vd h yZ (by omega) (by omega) (by omega) l2 i3 (fun ug w' S' h' k' f'=>?_) (fun afH w' S' h' k' f'=>?_)
 ·exact hK w' S' _ d h' (hF.added yZ ug) (by rw [(wF yZ).b9,mT yZ]) ⟨by omega,by omega⟩ k' f'
 ·have hS:=hF.toShape.grown yZ
  have gZ:=jU yZ;have mB:=hS.par;refine Fp h' hS (by rw [yl];omega) (by rw [yl];omega) ⟨hd.1,by omega⟩ (fun nd hi=>?_) (fun y nd hy hu=>?_) (fun w2 T2 m q i h2 hu hO hq k2=>⟨rfl,?_⟩)
  ·rw [gZ]at hi
   by_cases e:0=p
   ·rw [if_pos e]at hi
    cases hi;exact hF.root pd (by rw [e];exact yZ)
   ·rw [if_neg e,if_neg (by omega)]at hi
    exact hF.root nd hi
  ·have:=hu.le mB
   rw [gZ]at hy;by_cases e:y=p
   ·rw [if_pos e]at hy
    cases hy;exact⟨i1,i2,i3⟩
   ·rw [if_neg e,if_neg (by omega)]at hy
    exact hF.iv y nd hy
  ·refine hK w2 S' T2 (d+1) h2 (hF.Ju yZ hu hO hq) (by rw [hO.oF.b9,mT yZ]) ⟨by omega,by omega⟩ ?_ f'
   exact k'.trans k2 (fun k hk hs=>by
    rcases f' k hs with h|h
    ·exact h
    ·omega)
end
def zs(l:List Int):List Value:=l.map fun x=>.int .i64 x
section
variable{w w':World}{S S':Nat->Prop}{h:Nat}{P:List Int}{b c:Nat}{K:Value->World->Prop}
end
def jy(P:List Int)(n i:Nat):List Nat:=(List.range i).filter fun j=>P[j]? ==some (n:Int)
section
variable{w w':World}{S S':Nat->Prop}{h:Nat}{P:List Int}{b c:Nat}{K:Value->World->Prop}
end
section
variable{w w':World}{S S':Nat->Prop}{g:Nat}{T:List Nd}{d:Int}{K:Value->World->Prop}
end
end Go.Proofs.YtfleamccglihoaaGreatDoor.Tr
