import Derived.Test.YtfleamccglihoaaGreatDoorMA
import Derived.Test.YtfleamccglihoaaGreatDoorMD
import Derived.Laws.OwnMore
import Derived.Test.YtfleamccglihoaaGreatDoorMG
import Derived.Laws.Bits64b
open Go.IntKind (i64 u64)
set_option linter.unusedVariables false
namespace Go.Proofs.YtfleamccglihoaaGreatDoor.Tr
open Go.Proofs.Tryz
open Go Go.bV Go.RowKit
structure Nd where
 parent:Int
 ch:List Nat
 lo:Int
 hi:Int
 free:Int
def jJ(nd:Nd)(v:Value):List Value:= [.int .i64 nd.parent,v,.int .u64 nd.lo,.int .u64 nd.hi,.int .u64 nd.free]
def ph(L:List (Nd×Value)):List Value:=L.flatMap fun p=>jJ p.1 p.2
def ints(l:List Nat):List Value:=l.map fun x:Nat=>.int .i64 (x:Int)
theorem uu(L:List (Nd×Value)):(ph L).length=L.length*5:=by
 induction L with
 |nil=>rfl
 |cons p L ih=>simp only [ph,List.flatMap_cons,List.length_append,List.length_cons]at*;rw [ih];simp [jJ];omega
theorem JI{L:List (Nd×Value)}{i:Nat}{p:Nd×Value}(h:L[i]? =some p){j:Nat}(hj:j<5):(ph L)[i*5+j]? =(jJ p.1 p.2)[j]? :=by
 induction L generalizing i with
 |nil=>simp at h
 |cons q L ih=>
  have hq:(jJ q.1 q.2).length=5:=rfl;cases i with
  |zero=>
   simp at h;subst h;simp only [ph,List.flatMap_cons];rw [Nat.zero_mul,Nat.zero_add,List.getElem?_append_left (by omega)]
  |succ i=>
   simp at h;have:=ih h;simp only [ph,List.flatMap_cons]at*;rw [List.getElem?_append_right (by omega),hq,<-this]
   congr 1
   omega
theorem BA{L:List (Nd×Value)}{i:Nat}{p p':Nd×Value}(h:L[i]? =some p){j:Nat}(hj:j<5){v:Value}(hp:jJ p'.1 p'.2=(jJ p.1 p.2).set j v):
 (ph L).set (i*5+j) v=ph (L.set i p'):=by
 induction L generalizing i with
 |nil=>simp at h
 |cons q L ih=>
  have hq:(jJ q.1 q.2).length=5:=rfl;cases i with
  |zero=>
   simp at h;subst h;simp only [ph,List.flatMap_cons,List.set_cons_zero];rw [Nat.zero_mul,Nat.zero_add,List.set_append_left _ _ (by omega),hp]
  |succ i=>
   simp at h;have:=ih h;simp only [ph,List.flatMap_cons,List.set_cons_succ]at*;rw [List.set_append_right _ _ (by omega),hq,<-this]
   congr 2
   omega
structure XT(w:World)(S:Nat->Prop)(p:Nd×Value)(A:Option Addr)(m:Nat):Prop where
 val:p.2=.slice A p.1.ch.length m
 row:Row w 0 j0 1 A p.1.ch.length m (ints p.1.ch)
 ly:∀k,bn A=some k->S k
structure TV(w:World)(S:Nat->Prop)(g:Nat)(T:List Nd)(d:Int)(b c:Nat)(L:List (Nd×Value)):Prop where
 top:w.heap[g]? =some (.cells #[.slice (some ⟨b,0,none⟩) T.length c,.int .i64 d] uy (0,0))
 fst:L.map Prod.fst=T
 row:Row w 0 jD 5 (some ⟨b,0,none⟩) T.length c (ph L)
 rD:∀(i:Nat) (p:Nd×Value),L[i]? =some p->∃A m,XT w S p A m
 apart:∀(i j:Nat) (p q:Nd×Value),L[i]? =some p->L[j]? =some q->i≠j->∀k,Value.ownBlock p.2=some k->Value.ownBlock q.2≠some k
 iB:S g
 gC:S b
def pC(w:World)(S:Nat->Prop)(g:Nat)(T:List Nd)(d:Int):Prop:=∃b c L,TV w S g T d b c L
section
variable{w w':World}{S S':Nat->Prop}{g:Nat}{T:List Nd}{d:Int}{b c:Nat}{L:List (Nd×Value)}
theorem TV.at_(h:TV w S g T d b c L){i:Nat}{nd:Nd}(hi:T[i]? =some nd):∃v,L[i]? =some (nd,v):=by
 rw [<-h.fst,List.getElem?_map]at hi;cases hL:L[i]? with
 |none=>simp [hL]at hi
 |some p=>
  rw [hL]at hi;simp at hi;exact⟨p.2,by rw [<-hi]⟩
theorem TV.nodes(h:TV w S g T d b c L):w.cell? ⟨g,0,none⟩=some (.slice (some ⟨b,0,none⟩) T.length c):=by rw [aD h.top];rfl
theorem TV.JL(h:TV w S g T d b c L):w.cell? ⟨g,1,none⟩=some (.int .i64 d):=by rw [aD h.top];rfl
theorem TV.cell(h:TV w S g T d b c L){i:Nat}{p:Nd×Value}(hi:L[i]? =some p){j:Nat}{v:Value}(hj:j<5)(hv:(jJ p.1 p.2)[j]? =some v):w.cell? ⟨b,i*5+j,none⟩=some v:=
 Row.cell h.row (by rw [JI hi hj,hv])
theorem TV.gb(h:TV w S g T d b c L):g≠b:=by
 rintro rfl;obtain⟨_,cur,hc⟩:=Row.bJ h.row (k:=g) rfl;rw [h.top]at hc;injection hc with hc;injection hc with _ ht;exact absurd ht (by decide)
theorem XT.ne{p:Nd×Value}{A:Option Addr}{m:Nat}(h:XT w S p A m){k:Nat}{cs:Array Value}{t:TypeId}(hk:w.heap[k]? =some (.cells cs t (0,0)))(ht:t≠j0):bn A≠some k:=by
 intro e;obtain⟨_,cur,hc⟩:=Row.bJ h.row e;rw [hk]at hc;injection hc with hc;injection hc with _ h2;exact ht h2
theorem TV.wK(h:TV w S g T d b c L):∃cur,w.heap[b]? =some (.cells cur jD (0,0)):=(Row.bJ h.row rfl).2
theorem TV.aF{S0:Nat->Prop}(h:TV w S g T d b c L)(hk:Kept S0 w w')(hn:∀k,S k->¬S0 k):TV w' S g T d b c L:= {
 top:=hk.heap h.top (hn g h.iB)
 fst:=h.fst
 row:=Row.aF h.row hk (fun k e=>by cases e;exact hn b h.gC)
 rD:=fun i p hp=>let ⟨A,m,h1⟩:=h.rD i p hp;⟨A,m,h1.val,Row.aF h1.row hk (fun k e=>hn k (h1.ly k e)),h1.ly⟩
 apart:=h.apart
 iB:=h.iB
 gC:=h.gC}
theorem pC.aF{S0:Nat->Prop}(h:pC w S g T d)(hk:Kept S0 w w')(hn:∀k,S k->¬S0 k):pC w' S g T d:=
 let ⟨b,c,L,h⟩:=h;⟨b,c,L,h.aF hk hn⟩
theorem pC.same(h:pC w S g T d)(hk:Kept Nil w w'):pC w' S g T d:=h.aF hk fun _ _ h=>h
theorem TV.lt(h:TV w S g T d b c L):g<w.heap.size:=aV h.top
theorem TV.vm(h:TV w S g T d b c L){i:Nat}{nd nd':Nd}{v:Value}(hi:L[i]? =some (nd,v)){j:Nat}(hj:j<5){u:Value}
 (hc:jJ nd' v=(jJ nd v).set j u) (mz:nd'.ch=nd.ch):
 Wr w ⟨b,i*5+j,none⟩/\TV (w.setCell ⟨b,i*5+j,none⟩ u) S g (T.set i nd') d b c (L.set i (nd',v)):=by
 have dY:i<L.length:=(lgeS hi).1;have cU:i*5+j<(ph L).length:=by rw [uu];omega
 refine⟨Row.wr h.row cU,?_⟩;have fG:=Row.set h.row cU u;rw [BA hi hj (p':=(nd',v)) hc]at fG;have hK:Kept (fun k=>k=b) w (w.setCell ⟨b,i*5+j,none⟩ u):=(Kept.refl (fun k=>k=b) w).setCell (p:=⟨b,i*5+j,none⟩) (fun _=>rfl) u;have gU:∀(k:Nat) (p:Nd×Value),(L.set i (nd',v))[k]? =some p->∃q,L[k]? =some q/\q.2=p.2/\q.1.ch=p.1.ch:=by
  intro k p hp;rw [List.getElem?_set]at hp;by_cases e:i=k
  ·subst e
   rw [if_pos rfl,if_pos dY]at hp;cases hp;exact⟨_,hi,rfl,mz.symm⟩
  ·rw [if_neg e]at hp
   exact⟨p,hp,rfl,rfl⟩
 exact {
  top:=by rw [List.length_set];exact hK.heap h.top h.gb
  fst:=by rw [List.map_set,h.fst]
  row:=by rw [List.length_set];exact fG
  rD:=fun k p hp=>by
   obtain⟨q,hq,h1,h2⟩:=gU k p hp;obtain⟨A,m,hk⟩:=h.rD k q hq;obtain⟨cur,hb⟩:=h.wK;refine⟨A,m,by rw [<-h1,<-h2];exact hk.val,?_,hk.ly⟩;rw [<-h2];exact Row.aF hk.row hK (fun k e e2=>hk.ne hb (by decide) (by rw [e,e2]))
  apart:=fun k l p q hp hq B8=>by
   obtain⟨p',C0,h1,_⟩:=gU k p hp;obtain⟨q',Bg,h2,_⟩:=gU l q hq;rw [<-h1,<-h2];exact h.apart k l p' q' C0 Bg B8
  iB:=h.iB
  gC:=h.gC}
end
theorem pq(b x y:Nat):((⟨b,0,none⟩:Addr).add x).add y=⟨b,x+y,none⟩:=by rw [bt,bt,Nat.zero_add]
theorem mZ(b x:Nat):(⟨b,0,none⟩:Addr).add x=⟨b,x,none⟩:=by rw [bt,Nat.zero_add]
section
variable{w:World}{S:Nat->Prop}{g:Nat}{T:List Nd}{d:Int}{b c:Nat}{L:List (Nd×Value)}
theorem TV.go(h:TV w S g T d b c L){k:Option Addr->Nat->Nat->Prop}(hk:k (some ⟨b,0,none⟩) T.length c):
 ∃A n m,w.cell? ((⟨g,0,none⟩:Addr).add 0)=some (.slice A n m)/\k A n m:=⟨_,_,_,by rw [mZ];exact h.nodes,hk⟩
theorem TV.goD(h:TV w S g T d b c L){k:Int->Prop}(hk:k d):∃t,w.cell? ((⟨g,0,none⟩:Addr).add 1)=some (.int .i64 t)/\k t:=
 ⟨_,by rw [mZ];exact h.JL,hk⟩
theorem TV.JE(h:TV w S g T d b c L){i:Nat}{nd:Nd}{v:Value}(hi:L[i]? =some (nd,v)){k:Int->Prop}(hk:k nd.parent):
 ∃t,w.cell? (((⟨b,0,none⟩:Addr).add (i*5)).add 0)=some (.int .i64 t)/\k t:=⟨_,by rw [pq];exact h.cell hi (by omega) rfl,hk⟩
theorem TV.Xm(h:TV w S g T d b c L){i:Nat}{nd:Nd}{v:Value}(hi:L[i]? =some (nd,v)){A:Option Addr}{m:Nat}(hv:v=.slice A nd.ch.length m){k:Option Addr->Nat->Nat->Prop}(hk:k A nd.ch.length m):
 ∃A n m,w.cell? (((⟨b,0,none⟩:Addr).add (i*5)).add 1)=some (.slice A n m)/\k A n m:=⟨_,_,_,by rw [pq];exact h.cell hi (by omega) (by rw [hv];rfl),hk⟩
theorem TV.wm(h:TV w S g T d b c L){i:Nat}{nd:Nd}{v:Value}(hi:L[i]? =some (nd,v)){k:Int->Prop}(hk:k nd.lo):
 ∃t,w.cell? (((⟨b,0,none⟩:Addr).add (i*5)).add 2)=some (.int .u64 t)/\k t:=⟨_,by rw [pq];exact h.cell hi (by omega) rfl,hk⟩
theorem TV.Bt(h:TV w S g T d b c L){i:Nat}{nd:Nd}{v:Value}(hi:L[i]? =some (nd,v)){k:Int->Prop}(hk:k nd.hi):
 ∃t,w.cell? (((⟨b,0,none⟩:Addr).add (i*5)).add 3)=some (.int .u64 t)/\k t:=⟨_,by rw [pq];exact h.cell hi (by omega) rfl,hk⟩
theorem TV.zg(h:TV w S g T d b c L){i:Nat}{nd:Nd}{v:Value}(hi:L[i]? =some (nd,v)){k:Int->Prop}(hk:k nd.free):
 ∃t,w.cell? (((⟨b,0,none⟩:Addr).add (i*5)).add 4)=some (.int .u64 t)/\k t:=⟨_,by rw [pq];exact h.cell hi (by omega) rfl,hk⟩
theorem TV.kept{w':World}(h:TV w S g T d b c L)(hk:Kept Nil w w'):TV w' S g T d b c L:=h.aF hk fun _ _ h=>h
end
section
variable{w:World}{S:Nat->Prop}{g:Nat}{T:List Nd}{d:Int}{K:Value->World->Prop}
theorem yD(h:pC w S g T d)(n:Int)(hK:K (.bool (decide (0<=n/\n<T.length))) w):
 bz prog iR.id #[.pointer (some ⟨g,0,none⟩),.int .i64 n] w K:=by
 obtain⟨b,c,L,h⟩:=h;refine iR.of (Split.yes rfl (Split.dec (fun h0=>h.go ?_) (fun h0=>?_)))
 ·rwa [show decide (0<=n/\n<(T.length:Int))=decide (n<(T.length:Int))from by simp [show(0:Int)<=n from h0]]at hK
 ·rwa [decide_eq_false (fun e:0<=n/\n<(T.length:Int)=>h0 e.1)]at hK
theorem HC(h:pC w S g T d)(hT:0<T.length)(n:Int)(hK:K (.int .i64 (if 0<=n/\n<T.length then 0 else 6)) w):
 bz prog gI.id #[.pointer (some ⟨g,0,none⟩),.int .i64 n] w K:=by
 have h0:=h;obtain⟨b,c,L,h⟩:=h;refine gI.of (Split.no rfl (h.go (Split.no (beq_eq_false_iff_ne.2 (by omega)) (yD h0 n ⟨_,rfl,?_⟩))));by_cases hn:0<=n/\n<(T.length:Int)
 ·rw [if_pos hn]at hK
  exact Split.no (by simp [hn]) hK
 ·rw [if_neg hn]at hK
  exact Split.yes (by simp only [decide_eq_false hn];rfl) hK
theorem tP(h:pC w S g T d){n:Nat}(hn:n<T.length)(hK:K (.int .i64 0) w):
 bz prog gI.id #[.pointer (some ⟨g,0,none⟩),.int .i64 n] w K:=HC h (by omega) n (by rw [if_pos ⟨by omega,by omega⟩];exact hK)
theorem Fe(h:pC w S g T d){n:Nat}{nd:Nd}(hn:T[n]? =some nd)(hK:∀w',Kept Nil w w'->K (.int .u64 (u64.wrap (nd.hi-nd.free))) w'):
 bz prog fZ.id #[.pointer (some ⟨g,0,none⟩),.int .i64 n] w K:=by
 obtain⟨b,c,L,h⟩:=h;have cU:n<T.length:=(lgeS hn).1;obtain⟨v,hv⟩:=h.at_ hn;refine fZ.of ?_;unfold fZ.W;intro w1;have k1:Kept Nil w w1:=(Kept.refl Nil w).drew;have h1:=h.kept k1;have hb:0<=(n:Int)/\(n:Int)<(T.length:Int):=⟨by omega,by omega⟩;exact h1.go ⟨hb,h1.Bt hv (h1.go ⟨hb,h1.zg hv (hK w1 k1)⟩)⟩
theorem zT(h:pC w S g T d){n:Nat}{nd:Nd}(hn:T[n]? =some nd)(h0:0<n)(hK:K (.tuple #[.int .i64 nd.parent,.int .i64 0]) w):
 bz prog fO.id #[.pointer (some ⟨g,0,none⟩),.int .i64 n] w K:=by
 have cU:n<T.length:=(lgeS hn).1;refine fO.of (tP h cU ⟨_,rfl,Split.yes rfl (Split.no (beq_eq_false_iff_ne.2 (by omega)) (Split.no rfl ?_))⟩);obtain⟨b,c,L,h⟩:=h;obtain⟨v,hv⟩:=h.at_ hn;exact h.go ⟨⟨by omega,by omega⟩,h.JE hv hK⟩
theorem MT:zI prog jE j0 1 8:=⟨by kernel_rfl,by kernel_rfl⟩
theorem yG:zI prog iJ jD 5 56:=⟨by kernel_rfl,by kernel_rfl⟩
end
theorem fW{x:Int}(h0:0<=x)(h1:x<18446744073709551616):u64.wrap x=x:=by
 simp only [IntKind.wrap,IntKind.bits,IntKind.signed];simp;omega
theorem gP{x:Int}(h0: -9223372036854775808<=x)(h1:x<9223372036854775808):i64.wrap x=x:=by
 simp only [IntKind.wrap,IntKind.bits,IntKind.signed];simp;omega
def wk(T:List Nd)(n p:Nat)(nd pd:Nd)(many:Int):List Nd:=
 (T.set n {nd with lo:=pd.free,hi:=pd.free+many-1,free:=pd.free}).set p {pd with free:=pd.free+many}
section
variable{w:World}{S:Nat->Prop}{g:Nat}{T:List Nd}{d:Int}{K:Value->World->Prop}
theorem iZ{α:Type}{L:List α}{i:Nat}{x y:α}(h:L[i]? =some x):(L.set i y)[i]? =some y:=by
 rw [List.getElem?_set_self (lgeS h).1]
theorem oQ{α:Type}{L:List α}{i j:Nat}{x y:α}(h:L[j]? =some x)(fD:i≠j):(L.set i y)[j]? =some x:=by
 rw [List.getElem?_set_ne fD];exact h
theorem vc{b c:Nat}{L:List (Nd×Value)}(h:TV w S g T d b c L){n p:Nat}{nd pd:Nd}{many:Int}(hn:T[n]? =some nd)(hp:T[p]? =some pd)(Sa:nd.parent=p)(fD:n≠p)
 (hf:0<=pd.free) (hm:1<=many) (hfm:pd.free+many<18446744073709551616)
 (hK:∀w' L',TV w' S g (wk T n p nd pd many) d b c L'->Kept (fun k=>k=b) w w'->K (.tuple #[]) w'):
 bz prog gg.id #[.pointer (some ⟨g,0,none⟩),.int .i64 n,.int .u64 many] w K:=by
 have zD:n<T.length:=(lgeS hn).1;have rO:p<T.length:=(lgeS hp).1;obtain⟨v,hv⟩:=h.at_ hn;obtain⟨u,hu⟩:=h.at_ hp;have YI:0<=(n:Int)/\(n:Int)<(T.length:Int):=⟨by omega,by omega⟩;have Od:0<=nd.parent/\nd.parent<(T.length:Int):=by rw [Sa];exact⟨by omega,by omega⟩
 refine gg.of (h.go ⟨YI,Is.mk rfl ?_⟩);intro w7;have k7:Kept (fun k=>k=b) w w7:=(Kept.refl _ w).drew;have h7:TV w7 S g T d b c L:=h.kept (Kept.refl Nil w).drew;refine h7.go (h7.JE hv ⟨Od,Is.mk rfl ?_⟩);rw [Sa];refine h7.zg hu ?_;obtain⟨Zm,EJ⟩:=h7.vm hv (j:=2) (by omega) (u:=.int .u64 pd.free) (nd':= {nd with lo:=pd.free}) rfl rfl;have kS:∀ {w w':World},Kept (fun k=>k=b) w w'->∀(j:Nat) (u:Value),Kept (fun k=>k=b) w (w'.setCell ⟨b,j,none⟩ u):=fun k j u=>k.setCell (fun _=>rfl) u;have v1:(L.set n ({nd with lo:=pd.free},v))[n]? =some ({nd with lo:=pd.free},v):=iZ hv;refine⟨by rw [pq];exact Zm,?_⟩;intro nn;have e13:nn=w7.setCell ⟨b,n*5+2,none⟩ (.int .u64 pd.free):=by simp only [nn,pq,Int.toNat_natCast]
 have ui:Kept (fun k=>k=b) w nn:=by rw [e13];exact kS k7 _ _
 rw [<-e13]at EJ;clear_value nn;refine EJ.wm v1 ?_;obtain⟨wr2,JC⟩:=EJ.vm v1 (j:=3) (by omega) (u:=.int .u64 (u64.wrap (u64.wrap (pd.free+many)-1))) (nd':= {nd with lo:=pd.free,hi:=pd.free+many-1}) (by rw [fW (x:=pd.free+many) (by omega) (by omega),fW (by omega) (by omega)];rfl) rfl;refine⟨by rw [pq];exact wr2,?_⟩;intro nS;have e15:nS=nn.setCell ⟨b,n*5+3,none⟩ (.int .u64 (u64.wrap (u64.wrap (pd.free+many)-1))):=by simp only [nS,pq,Int.toNat_natCast]
 have uh:Kept (fun k=>k=b) w nS:=by rw [e15];exact kS ui _ _
 rw [<-e15]at JC;clear_value nS;rw [List.set_set,List.set_set]at JC;have v2:(L.set n ({nd with lo:=pd.free,hi:=pd.free+many-1},v))[n]? =some ({nd with lo:=pd.free,hi:=pd.free+many-1},v):=iZ hv;refine JC.wm v2 ?_;obtain⟨Zl,YU⟩:=JC.vm v2 (j:=4) (by omega) (u:=.int .u64 pd.free) (nd':= {nd with lo:=pd.free,hi:=pd.free+many-1,free:=pd.free}) rfl rfl;refine⟨by rw [pq];exact Zl,?_⟩;intro xI;have e17:xI=nS.setCell ⟨b,n*5+4,none⟩ (.int .u64 pd.free):=by simp only [xI,pq,Int.toNat_natCast]
 have IA:Kept (fun k=>k=b) w xI:=by rw [e17];exact kS uh _ _
 rw [<-e17]at YU;clear_value xI;rw [List.set_set,List.set_set]at YU;have u3:(L.set n ({nd with lo:=pd.free,hi:=pd.free+many-1,free:=pd.free},v))[p]? =some (pd,u):=oQ hu fD;refine YU.zg u3 ?_;obtain⟨wr4,h19⟩:=YU.vm u3 (j:=4) (by omega) (u:=.int .u64 (u64.wrap (pd.free+many))) (nd':= {pd with free:=pd.free+many}) (by rw [fW (by omega) (by omega)];rfl) rfl;refine⟨by rw [pq];exact wr4,?_⟩;intro pw;have e19:pw=xI.setCell ⟨b,p*5+4,none⟩ (.int .u64 (u64.wrap (pd.free+many))):=by simp only [pw,pq,Int.toNat_natCast]
 exact hK pw _ (by rw [e19];exact h19) (by rw [e19];exact kS IA _ _)
theorem Ff(h:pC w S g T d){n p:Nat}{nd pd:Nd}{many:Int}(hn:T[n]? =some nd)(hp:T[p]? =some pd)(Sa:nd.parent=p)(fD:n≠p)
 (hf:0<=pd.free) (hm:1<=many) (hfm:pd.free+many<18446744073709551616)
 (hK:∀w',pC w' S g (wk T n p nd pd many) d->Kept S w w'->K (.tuple #[]) w'):
 bz prog gg.id #[.pointer (some ⟨g,0,none⟩),.int .i64 n,.int .u64 many] w K:=by
 obtain⟨b,c,L,h⟩:=h;exact vc h hn hp Sa fD hf hm hfm fun w' L' h' k'=>hK w' ⟨b,c,L',h'⟩ (k'.mono fun k _ e=>by rw [e];exact h.gC)
end
section
variable{w:World}{S:Nat->Prop}{g:Nat}{T:List Nd}{d:Int}{b c:Nat}{L:List (Nd×Value)}
theorem BB(L M:List (Nd×Value)):ph (L++M)=ph L++ph M:=by simp [ph]
theorem TV.JD(h:TV w S g T d b c L)(mu:T.length<=1000000)(p:Int){w10:World}
 (e10:w10=w.alloc (.cells #[.int .i64 p,.slice none 0 0,.int .u64 0,.int .u64 0,.int .u64 0] jD)):
 ∃A c' lY,(Builtin.append_ #[iJ,iJ] iJ #[.slice (some ⟨b,0,none⟩) T.length c,.slice (some ⟨w.heap.size,0,none⟩) 1 1]).run prog w10=.ok (.slice A (T.length+1) c') lY/\
  Wr lY ⟨g,0,none⟩/\∃b' S' L',TV (lY.setCell ⟨g,0,none⟩ (.slice A (T.length+1) c')) S' g (T++ [⟨p,[],0,0,0⟩]) d b' c' L'/\(∀(i:Nat) q,L[i]? =some q->L'[i]? =some q)/\
   Kept S w (lY.setCell ⟨g,0,none⟩ (.slice A (T.length+1) c'))/\(∀k,S k->S' k)/\(∀k,S' k->S k\/w.heap.size<=k):=by
 subst e10;generalize P9:w.alloc (.cells #[.int .i64 p,.slice none 0 0,.int .u64 0,.int .u64 0,.int .u64 0] jD)=w10;have nN:w10.heap[w.heap.size]? =some (.cells #[.int .i64 p,.slice none 0 0,.int .u64 0,.int .u64 0,.int .u64 0] jD (0,0)):=by rw [<-P9];exact aI w _
 have mD:Kept Nil w w10:=by rw [<-P9];exact(Kept.refl Nil w).alloc _
 have LK:w10.heap.size=w.heap.size+1:=by rw [<-P9];simp
 have wS:=h.kept mD;obtain⟨A,c',lY,hr,fG,hg,Dd⟩:=fR (P:=prog) (t:=iJ) (ty:=iJ) yG wS.row (a:=⟨w.heap.size,0,none⟩) (m:=1) (cx:=1)
  (news:=jJ ⟨p,[],0,0,0⟩ (.slice none 0 0)) rfl (fun j u hj=>by rw [mZ,aD nN];simpa [jJ]using hj) (by intro u hu;simp [jJ]at hu;rcases hu with rfl|rfl|rfl|rfl|rfl<;>rfl)
  (by omega) (by unfold maxLen;omega) (Nat.zero_le _)
 obtain⟨b',rfl⟩:=Row.some fG (by omega);have kb:Kept (fun k=>k=b) w10 lY:=(Kept.refl _ w10).grown hg (fun k hk _=>by cases hk;rfl);have jx:lY.heap[g]? =some (.cells #[.slice (some ⟨b,0,none⟩) T.length c,.int .i64 d] uy (0,0)):=kb.heap wS.top h.gb;refine⟨_,c',lY,hr,dS jx (show 0<2 by omega),?_⟩;generalize Us:lY.setCell ⟨g,0,none⟩ (.slice (some ⟨b',0,none⟩) (T.length+1) c')=wf;have kg:Kept (fun k=>k=g) lY wf:=by rw [<-Us];exact(Kept.refl (fun k=>k=g) lY).setCell (p:=⟨g,0,none⟩) (fun _=>rfl) _
 have xo:b'=b\/w10.heap.size<=b':=by
  rcases Dd b' rfl with h|h
  ·left;cases h;rfl
  ·exact .inr h
 have ac0:b'≠g:=by
  rintro rfl;obtain⟨_,cur,hc⟩:=Row.bJ fG (k:=b') rfl;rw [jx]at hc;injection hc with hc;injection hc with _ ht;exact absurd ht (by decide)
 have Gt:∀(i:Nat) (q:Nd×Value),L[i]? =some q->∃A m,XT wf S q A m:=by
  intro i q hq;obtain⟨A,m,hk⟩:=wS.rD i q hq;obtain⟨cur,Si⟩:=wS.wK;have r1:=Row.aF hk.row kb (fun k e e2=>hk.ne Si (by decide) (by rw [e,e2]));have r2:=Row.aF r1 kg (fun k e e2=>hk.ne wS.top (by decide) (by rw [e,e2]));exact⟨A,m,hk.val,r2,hk.ly⟩
 refine⟨b',fun k=>S k\/k=b',L++ [(⟨p,[],0,0,0⟩,.slice none 0 0)],?_,fun i q hq=>?_,?_,fun k hk=>.inl hk,?_⟩
 ·exact {
   top:=by
    have:=di jx 0 (.slice (some ⟨b',0,none⟩) (T.length+1) c');rw [Us]at this;simpa using this
   fst:=by simp [h.fst]
   row:=by
    rw [BB,List.length_append];have:=Row.aF fG kg (fun k e e2=>ac0 (by cases e;exact e2));simpa [ph]using this
   rD:=fun i q hq=>by
    rw [List.getElem?_append]at hq;split at hq
    ·obtain⟨A,m,hk⟩:=Gt i q hq
     exact⟨A,m,hk.val,hk.row,fun k e=>.inl (hk.ly k e)⟩
    ·rename_i cU
     have:i-L.length=0:=by
      rcases Nat.eq_zero_or_pos (i-L.length)with h|h
      ·exact h
      ·rw [List.getElem?_eq_none (by simp;omega)]at hq;cases hq
     rw [this]at hq;simp at hq;subst hq;exact⟨none,0,rfl,Row.nil _ _ _ _,fun k e=>by cases e⟩
   apart:=fun i j q q' hq Bg rf k hk oZ=>by
    rw [List.getElem?_append]at hq Bg;have last:∀(x:Nat) (r:Nd×Value),[((⟨p,[],0,0,0⟩:Nd),Value.slice none 0 0)][x]? =some r->r.2=.slice none 0 0:=by
     intro x r hr;cases x with
     |zero=>simp at hr;subst hr;rfl
     |succ x=>simp at hr
    split at hq<;>split at Bg
    ·exact h.apart i j q q' hq Bg rf k hk oZ
    ·rw [last _ _ Bg]at oZ;cases oZ
    ·rw [last _ _ hq]at hk;cases hk
    ·rw [last _ _ Bg]at oZ;cases oZ
   iB:=.inl h.iB
   gC:=.inr rfl}
 ·rw [List.getElem?_append_left (lgeS hq).1];exact hq
 ·have xg:Kept S w lY:=(mD.mono (S':=S) (fun _ _ h=>h.elim)).trans kb (fun k _ e=>by rw [e];exact h.gC)
  exact xg.trans kg (fun k _ e=>by rw [e];exact h.iB)
 ·rintro k (hk|rfl)
  ·exact .inl hk
  ·rcases xo with rfl|xo
   ·exact .inl h.gC
   ·right;omega
theorem TV.Mw(h:TV w S g T d b c L){p:Nat}{nd:Nd}{v:Value}(hp:L[p]? =some (nd,v)){A:Option Addr}{m:Nat}(hk:XT w S (nd,v) A m)(mu:nd.ch.length<=1000000)(n:Nat){w22:World}
 (e22:w22=w.alloc (.cells #[.int .i64 n] j0)):
 ∃A' c' mB,(Builtin.append_ #[jE,jE] jE #[.slice A nd.ch.length m,.slice (some ⟨w.heap.size,0,none⟩) 1 1]).run prog w22=.ok (.slice A' (nd.ch.length+1) c') mB/\
  mB.cell? ⟨g,0,none⟩=some (.slice (some ⟨b,0,none⟩) T.length c)/\Wr mB ⟨b,p*5+1,none⟩/\
  ∃S' L',TV (mB.setCell ⟨b,p*5+1,none⟩ (.slice A' (nd.ch.length+1) c')) S' g (T.set p {nd with ch:=nd.ch++ [n]}) d b c L'/\
   Kept S w (mB.setCell ⟨b,p*5+1,none⟩ (.slice A' (nd.ch.length+1) c'))/\(∀k,S k->S' k)/\(∀k,S' k->S k\/w.heap.size<=k):=by
 subst e22;generalize P8:w.alloc (.cells #[.int .i64 n] j0)=w22;have nN:w22.heap[w.heap.size]? =some (.cells #[.int .i64 n] j0 (0,0)):=by rw [<-P8];exact aI w _
 have Ua:Kept Nil w w22:=by rw [<-P8];exact(Kept.refl Nil w).alloc _
 have Gm:w22.heap.size=w.heap.size+1:=by rw [<-P8];simp
 have zE:=h.kept Ua;have Qj:=Row.aF hk.row Ua (fun _ _ h=>h);have rO:p<L.length:=(lgeS hp).1;obtain⟨A',c',mB,hr,fG,hg,Dd⟩:=fR (P:=prog) (t:=jE) (ty:=jE) MT Qj (a:=⟨w.heap.size,0,none⟩) (m:=1) (cx:=1)
  (news:=ints [n]) rfl (fun j u hj=>by rw [mZ,aD nN];simpa [ints]using hj) (by intro u hu;simp [ints]at hu;subst hu;rfl)
  (by simp only;omega) (by unfold maxLen;simp only;omega) (Nat.zero_le _)
 obtain⟨cur,Si⟩:=zE.wK;obtain⟨alk,hb0⟩:=h.wK;have NV:bn A≠some b:=hk.ne hb0 (by decide);have hkg:bn A≠some g:=hk.ne h.top (by decide);have kA:Kept (fun k=>bn A=some k) w22 mB:=(Kept.refl _ w22).grown hg (fun k hk _=>hk);have JB:Row mB 0 jD 5 (some ⟨b,0,none⟩) T.length c (ph L):=Row.aF zE.row kA (fun k e e2=>NV (by rw [e2,<-e];rfl));have JA:=kA.heap zE.top (fun e=>hkg e);have cU:p*5+1<(ph L).length:=by rw [uu];omega
 refine⟨A',c',mB,hr,by rw [aD JA];rfl,Row.wr JB cU,?_⟩;generalize Us:mB.setCell ⟨b,p*5+1,none⟩ (.slice A' (nd.ch.length+1) c')=wf;have kB:Kept (fun k=>k=b) mB wf:=by rw [<-Us];exact(Kept.refl (fun k=>k=b) mB).setCell (p:=⟨b,p*5+1,none⟩) (fun _=>rfl) _
 have adC:bn A'≠some b:=by
  intro e;obtain⟨_,Xw,hc⟩:=Row.bJ fG e;have:=kA.heap Si NV;rw [this]at hc;injection hc with hc;injection hc with _ ht;exact absurd ht (by decide)
 have vZ:∀(A:Option Addr) n m,Value.ownBlock (.slice A n m)=bn A:=by intro A n m;cases A<;>rfl
 have gU:∀(i:Nat) (q:Nd×Value),(L.set p ({nd with ch:=nd.ch++ [n]},.slice A' (nd.ch.length+1) c'))[i]? =some q->(i=p/\q=({nd with ch:=nd.ch++ [n]},.slice A' (nd.ch.length+1) c'))\/(i≠p/\L[i]? =some q):=by
  intro i q hq;by_cases e:p=i
  ·subst e
   rw [List.getElem?_set_self rO]at hq;cases hq;exact .inl ⟨rfl,rfl⟩
  ·rw [List.getElem?_set_ne e]at hq
   exact .inr ⟨fun h=>e h.symm,hq⟩
 have NN:∀k,bn A'=some k->∀(i:Nat) (q:Nd×Value),i≠p->L[i]? =some q->Value.ownBlock q.2≠some k:=by
  intro k oZ i q hi hq hqk;rcases Dd k oZ with e|e
  ·exact h.apart p i _ _ hp hq (fun e=>hi e.symm) k (by rw [hk.val,vZ];exact e) hqk
  ·obtain⟨A2,m2,mw⟩:=h.rD i q hq
   rw [mw.val,vZ]at hqk;obtain⟨_,alj,KC⟩:=Row.bJ mw.row hqk;have:=aV KC;omega
 refine⟨fun k=>S k\/bn A'=some k,L.set p ({nd with ch:=nd.ch++ [n]},.slice A' (nd.ch.length+1) c'),?_,?_,fun k hk=>.inl hk,?_⟩
 ·exact {
   top:=by rw [List.length_set];exact kB.heap JA h.gb
   fst:=by rw [List.map_set,h.fst]
   row:=by
    rw [List.length_set];have:=Row.set JB cU (.slice A' (nd.ch.length+1) c');rw [Us,BA hp (j:=1) (by omega) (p':=({nd with ch:=nd.ch++ [n]},.slice A' (nd.ch.length+1) c')) rfl]at this;exact this
   rD:=fun i q hq=>by
    rcases gU i q hq with⟨rfl,rfl⟩|⟨hi,hq⟩
    ·refine⟨A',c',by simp,?_,fun k e=>.inr e⟩
     have:=Row.aF fG kB (fun k e e2=>adC (by rw [e,e2]));simpa [ints]using this
    ·obtain⟨A2,m2,mw⟩:=zE.rD i q hq
     have r1:=Row.aF mw.row kA (fun k e e2=>h.apart p i _ _ hp hq (fun e=>hi e.symm) k (by rw [hk.val,vZ];exact e2) (by rw [mw.val,vZ];exact e));have r2:=Row.aF r1 kB (fun k e e2=>mw.ne Si (by decide) (by rw [e,e2]));exact⟨A2,m2,mw.val,r2,fun k e=>.inl (mw.ly k e)⟩
   apart:=fun i j q q' hq Bg rf k KA mw=>by
    rcases gU i q hq with⟨e1,e2⟩|⟨hi,NI⟩<;>rcases gU j q' Bg with⟨e3,e4⟩|⟨hj,R8⟩
    ·exact rf (e1.trans e3.symm)
    ·rw [e2,vZ]at KA;exact NN k KA j q' hj R8 mw
    ·rw [e4,vZ]at mw;exact NN k mw i q hi NI KA
    ·exact h.apart i j q q' NI R8 rf k KA mw
   iB:=.inl h.iB
   gC:=.inl h.gC}
 ·have p9:Kept S w mB:=(Ua.mono (S':=S) (fun _ _ h=>h.elim)).trans kA (fun k _ e=>hk.ly k e)
  exact p9.trans kB (fun k _ e=>by rw [e];exact h.gC)
 ·rintro k (oZ|oZ)
  ·exact .inl oZ
  ·rcases Dd k oZ with e|e
   ·exact .inl (hk.ly k e)
   ·right;omega
end
def grown(T:List Nd)(p:Nat)(pd:Nd):List Nd:=(T++ [(⟨p,[],0,0,0⟩:Nd)]).set p {pd with ch:=pd.ch++ [T.length]}
def jz(pd:Nd):Int:=(pd.hi-pd.free+1)/2
def added(T:List Nd)(p:Nat)(pd:Nd):List Nd:=wk (grown T p pd) T.length p ⟨p,[],0,0,0⟩ {pd with ch:=pd.ch++ [T.length]} (jz pd)
section
variable{w:World}{S:Nat->Prop}{g:Nat}{T:List Nd}{d:Int}{K:Value->World->Prop}
theorem vd(h:pC w S g T d){p:Nat}{pd:Nd}(hp:T[p]? =some pd)(mu:T.length<=1000000)(mz:pd.ch.length<=1000000)
 (hf:0<=pd.free) (hfh:pd.free<=pd.hi) (hh:pd.hi<=4611686018427387904)
 (hK1:pd.free<pd.hi->∀w' S',pC w' S' g (added T p pd) d->Kept S w w'->(∀k,S' k->S k\/w.heap.size<=k)->K (.tuple #[.int .i64 T.length,.int .i64 0]) w')
 (hK2:pd.free=pd.hi->∀w' S',pC w' S' g (grown T p pd) d->Kept S w w'->(∀k,S' k->S k\/w.heap.size<=k)->
   bz prog az.id #[.pointer (some ⟨g,0,none⟩),.int .i64 p] w' fun v jl=>v=.tuple #[]/\K (.tuple #[.int .i64 T.length,.int .i64 0]) jl):
 bz prog gJ.id #[.pointer (some ⟨g,0,none⟩),.int .i64 p] w K:=by
 have cU:p<T.length:=(lgeS hp).1;refine gJ.of (tP h cU ⟨_,rfl,Split.no rfl ?_⟩);obtain⟨b,c,L,h⟩:=h;obtain⟨v,hv⟩:=h.at_ hp;refine h.go (h.go ⟨rfl,?_⟩);intro w10;obtain⟨A1,c1,lY,ns,Zm,b1,S1,L1,h14,hL1,Ks,hS1,W8⟩:=h.JD mu (p:Int) (w10:=w10) rfl;refine⟨A1,_,c1,lY,ns,by rw [mZ];exact Zm,?_⟩;intro iQ;have e14:iQ=lY.setCell ⟨g,0,none⟩ (.slice A1 (T.length+1) c1):=by simp only [iQ,mZ]
 rw [<-e14]at h14 Ks;clear_value iQ;intro nS;have uh:Kept Nil iQ nS:=(Kept.refl Nil iQ).drew;have JC:=h14.kept uh;have Kv:=hL1 _ _ hv;have hlen:(T++ [(⟨p,[],0,0,0⟩:Nd)]).length=T.length+1:=by simp
 have Oh:0<=(p:Int)/\(p:Int)<((T++ [(⟨p,[],0,0,0⟩:Nd)]).length:Int):=by rw [hlen];exact⟨by omega,by omega⟩
 obtain⟨A2,m2,hk⟩:=JC.rD _ _ Kv;refine JC.go (JC.go ⟨Oh,JC.Xm Kv hk.val ?_⟩);intro w22;have Ua:Kept Nil nS w22:=(Kept.refl Nil nS).alloc _;have zE:=JC.kept Ua;obtain⟨A3,c3,mB,um,Vk,Zl,S3,L3,YT,AZ,hS3,adf⟩:=JC.Mw Kv hk mz T.length (w22:=w22) rfl;have Bk:=zE.cell Kv (j:=1) (by omega) (v:=v) rfl;have hvv:v=.slice A2 pd.ch.length m2:=hk.val;rw [hvv]at Bk;refine⟨by rw [pq];exact Bk,by rw [mZ];exact zE.nodes,by rw [mZ];exact zE.nodes,A3,_,c3,mB,um,by rw [mZ];exact Vk,Oh,by rw [pq];exact Zl,?_⟩;intro pv;have e26:pv=mB.setCell ⟨b1,p*5+1,none⟩ (.slice A3 (pd.ch.length+1) c3):=by simp only [pv,pq,Int.toNat_natCast]
 rw [<-e26]at YT AZ;clear_value pv;have LI:(T++ [(⟨p,[],0,0,0⟩:Nd)]).set p {pd with ch:=pd.ch++ [T.length]}=grown T p pd:=rfl;rw [LI]at YT;have hgp:(grown T p pd)[p]? =some {pd with ch:=pd.ch++ [T.length]}:=by
  unfold grown;rw [List.getElem?_set_self (by simp;omega)]
 have hgn:(grown T p pd)[T.length]? =some ⟨p,[],0,0,0⟩:=by
  unfold grown;rw [List.getElem?_set_ne (by omega)];simp
 have kw:Kept S w pv:=(Ks.tt (uh.mono (S':=S) (fun _ _ h=>h.elim))).trans AZ (fun k hk h=>by
  rcases W8 k h with h|h
  ·exact h
  ·omega)
 have Rg:∀k,S3 k->S k\/w.heap.size<=k:=fun k h=>by
  rcases adf k h with h|h
  ·exact W8 k h
  ·right
   have:=Ks.size;have:=uh.size;omega
 refine Fe ⟨_,_,_,YT⟩ hgp fun G9 Iw=>⟨_,rfl,?_⟩;have h28:=YT.kept Iw;have TG:Kept S w G9:=kw.trans Iw (fun _ _ h=>h.elim);simp only [];rw [fW (x:=pd.hi-pd.free) (by omega) (by omega)];refine Split.dec (fun jK=>⟨by decide,?_⟩) (fun jK=>?_)
 ·have EC:u64.wrap ((u64.wrap (pd.hi-pd.free+1)).tdiv 2)=jz pd:=by
   rw [fW (x:=pd.hi-pd.free+1) (by omega) (by omega),Int.tdiv_eq_ediv_of_nonneg (by omega),fW (by omega) (by omega)];rfl
  rw [EC];refine Ff ⟨_,_,_,h28⟩ hgn hgp rfl (by omega) hf (by unfold jz;omega) (by unfold jz;simp only;omega) fun Hv h31 Nf=>⟨rfl,?_⟩;refine hK1 (by omega) Hv S3 h31 (TG.trans Nf fun k hk h=>?_) Rg;rcases Rg k h with h|h
  ·exact h
  ·omega
 ·exact hK2 (by omega) G9 S3 ⟨_,_,_,h28⟩ TG Rg
end
section
variable{w:World}{S:Nat->Prop}{g:Nat}{T:List Nd}{d:Int}{K:Value->World->Prop}
def qW:List Nd:= [⟨-1,[],1,4611686018427387904,1⟩]
theorem fh(hK:∀w' g,pC w' (fun k=>w.heap.size<=k) g qW 0->Kept Nil w w'->K (.pointer (some ⟨g,0,none⟩)) w'):bz prog fh.id #[] w K:=by
 refine fh.of ⟨rfl,?_⟩;intro w1 w2;have k1:Kept Nil w w1:=(Kept.refl Nil w).alloc _;have k2:Kept Nil w w2:=k1.alloc _;refine hK w2 w1.heap.size ⟨w.heap.size,1,[(⟨-1,[],1,4611686018427387904,1⟩,.slice none 0 0)],?_⟩ k2;exact {
  top:=aI w1 _
  fst:=rfl
  row:=Row.made (n:=1) (cur:= #[.int .i64 (-1),.slice none 0 0,.int .u64 1,.int .u64 4611686018427387904,.int .u64 1]) (jk (aI w _) _) (Nat.zero_le _) rfl (by decide)
  rD:=fun i p hp=>by
   cases i with
   |zero=>simp at hp;subst hp;exact⟨none,0,rfl,Row.nil _ _ _ _,fun k e=>by cases e⟩
   |succ i=>simp at hp
  apart:=fun i j p q hp hq rf=>by
   cases i<;>cases j<;>simp at hp hq
   exact absurd rfl rf
  iB:=k1.size
  gC:=Nat.le_refl _}
theorem Cj(h:pC w S g T d){a b:Nat}{ad bd:Nd}(ha:T[a]? =some ad)(hb:T[b]? =some bd)(hK:∀w',Kept Nil w w'->K (.bool (decide (bd.lo<=ad.lo/\ad.hi<=bd.hi))) w'):
 bz prog fH.id #[.pointer (some ⟨g,0,none⟩),.int .i64 a,.int .i64 b] w K:=by
 have hal:a<T.length:=(lgeS ha).1;have Dd:b<T.length:=(lgeS hb).1;have Sj:0<=(a:Int)/\(a:Int)<(T.length:Int):=⟨by omega,by omega⟩;have wR:0<=(b:Int)/\(b:Int)<(T.length:Int):=⟨by omega,by omega⟩;refine fH.of ?_;unfold fH.W;intro w4;have k4:Kept Nil w w4:=(Kept.refl Nil w).drew;have h4:=h.same k4;have hk:=hK w4 k4;refine yD h4 a ⟨_,rfl,Split.yes (decide_eq_true Sj) ?_⟩;refine yD h4 b ⟨_,rfl,Split.yes (decide_eq_true wR) ?_⟩;obtain⟨p,c,L,h4⟩:=h4;obtain⟨va,hva⟩:=h4.at_ ha;obtain⟨vb,hvb⟩:=h4.at_ hb;refine h4.go ⟨wR,h4.wm hvb (h4.go ⟨Sj,h4.wm hva ?_⟩)⟩;refine Split.dec (fun h1=>h4.go ⟨Sj,h4.Bt hva (h4.go ⟨wR,h4.Bt hvb ?_⟩)⟩) (fun h1=>?_)
 ·rwa [show decide (bd.lo<=ad.lo/\ad.hi<=bd.hi)=decide (ad.hi<=bd.hi)from by simp [h1]]at hk
 ·rwa [decide_eq_false (fun e:bd.lo<=ad.lo/\ad.hi<=bd.hi=>h1 e.1)]at hk
end
section
variable{w:World}{t:Option Addr}{K:Value->World->Prop}
end
end Go.Proofs.YtfleamccglihoaaGreatDoor.Tr
namespace Go.Proofs.YtfleamccglihoaaGreatDoor.Tr
open Go.Proofs.Tryz
def bY(T:List Nd):List Int:=T.map (·.parent)
structure mh(P:List Int):Prop where
 root:P[0]? =some (-1)
 up:∀(i:Nat) (p:Int),0<i->P[i]? =some p->∃j:Nat,j<i/\p=j
def kids(P:List Int)(i:Nat):List Nat:=(List.range P.length).filter fun j=>P[j]? ==some (i:Int)
theorem eE{P:List Int}{i j:Nat}:j∈kids P i↔P[j]? =some (i:Int):=by
 simp only [kids,List.mem_filter,List.mem_range,beq_iff_eq];exact⟨fun h=>h.2,fun h=>⟨(lgeS h).1,h⟩⟩
theorem iD{P:List Int}(hP:mh P){i j:Nat}(h:j∈kids P i):i<j/\j<P.length:=by
 rw [eE]at h;refine⟨?_,(lgeS h).1⟩;rcases Nat.eq_zero_or_pos j with rfl|hj
 ·rw [hP.root]at h;have:=Option.some.inj h;omega
 ·obtain⟨k,hk,e⟩:=hP.up j _ hj h
  omega
theorem ug(P:List Int)(i:Nat):(kids P i).Pairwise (· < ·):=List.Pairwise.filter _ (List.pairwise_lt_range)
theorem AR(P:List Int)(i:Nat):(kids P i).length<=P.length:=by
 unfold kids;exact Nat.le_trans (List.length_filter_le _ _) (by simp)
inductive kY (P:List Int):Nat->Nat->Prop
 |refl {i:Nat}:i<P.length->kY P i i
 |step {i j k:Nat}:P[i]? =some (j:Int)->kY P j k->kY P i k
theorem kY.lt{P:List Int}{i k:Nat}(h:kY P i k):i<P.length:=by
 cases h with
 |refl h=>exact h
 |step h _=>exact(lgeS h).1
theorem kY.X5{P:List Int}{i k:Nat}(h:kY P i k):k<P.length:=by
 induction h with
 |refl h=>exact h
 |step _ _ ih=>exact ih
theorem kY.le{P:List Int}(hP:mh P){i k:Nat}(h:kY P i k):k<=i:=by
 induction h with
 |refl=>omega
 |step h _ ih=>have:=(iD hP (eE.2 h)).1;omega
theorem kY.trans{P:List Int}{i j k:Nat}(h:kY P i j)(h':kY P j k):kY P i k:=by
 induction h with
 |refl=>exact h'
 |step h _ ih=>exact .step h (ih h')
theorem kY.inv{P:List Int}{i j k:Nat}(h:kY P i k)(fD:i≠k)(hj:P[i]? =some (j:Int)):kY P j k:=by
 cases h with
 |refl=>exact absurd rfl fD
 | @step _ j' _ h h'=>
   rw [hj]at h;have e:j=j':=by have:=Option.some.inj h;omega
   rw [e];exact h'
theorem kY.child{P:List Int}{i k:Nat}(h:kY P i k)(fD:i≠k):∃c,c∈kids P k/\kY P i c:=by
 induction h with
 |refl=>exact absurd rfl fD
 | @step i j k h h' ih=>
   by_cases e:j=k
   ·subst e
    exact⟨i,eE.2 h,.refl (lgeS h).1⟩
   ·obtain⟨c,hc,hu⟩:=ih e
    exact⟨c,hc,.step h hu⟩
structure Iv(nd:Nd):Prop where
 ZV:1<=nd.lo
 le:nd.lo<=nd.hi
 top:nd.hi<=4611686018427387904
structure Loc(T:List Nd)(nd:Nd):Prop where
 Hi:nd.lo<=nd.free
 Dn:nd.free<=nd.hi
 sub:∀c cd,c∈nd.ch->T[c]? =some cd->nd.lo<=cd.lo/\cd.hi<nd.free
 ord:∀(c c':Nat) cd wF,c∈nd.ch->c'∈nd.ch->c<c'->T[c]? =some cd->T[c']? =some wF->cd.hi<wF.lo
structure Shape(T:List Nd):Prop where
 par:mh (bY T)
 ch:∀(i:Nat) nd,T[i]? =some nd->nd.ch=kids (bY T) i
structure Good(T:List Nd):Prop extends Shape T where
 iv:∀(i:Nat) nd,T[i]? =some nd->Iv nd
 loc:∀(i:Nat) nd,T[i]? =some nd->Loc T nd
theorem lO{T:List Nd}{i:Nat}{nd:Nd}(h:T[i]? =some nd):(bY T)[i]? =some nd.parent:=by simp [bY,h]
theorem fi(T:List Nd):(bY T).length=T.length:=by simp [bY]
theorem Shape.pos{T:List Nd}(h:Shape T):0<T.length:=by
 have:=(lgeS h.par.root).1
 rwa [fi]at this
theorem Good.rD{T:List Nd}(h:Good T){c k:Nat}{cd kd:Nd}(hc:c∈kids (bY T) k)(kl:T[c]? =some cd)(VN:T[k]? =some kd):
 kd.lo<=cd.lo/\cd.hi<kd.free:=(h.loc k kd VN).sub c cd (by rw [h.ch k kd VN];exact hc) kl
theorem gv{T:List Nd}{i:Nat}(h:i<T.length):∃nd,T[i]? =some nd:=⟨_,List.getElem?_eq_getElem h⟩
theorem Good.pB{T:List Nd}(h:Good T){a b:Nat}{ad bd:Nd}(ha:T[a]? =some ad)(hb:T[b]? =some bd)(hu:kY (bY T) a b):bd.lo<=ad.lo/\ad.hi<=bd.hi:=by
 induction hu generalizing ad with
 |refl=>rw [ha]at hb;cases hb;omega
 | @step i j k hp h' ih=>
   have tF:j<T.length:=by have:=h'.lt;rwa [fi]at this
   obtain⟨jd,hj⟩:=gv tF;have h1:=ih hj hb;have h2:=h.rD (eE.2 hp) ha hj;have h3:=(h.loc j jd hj).Dn;omega
theorem Good.apart{T:List Nd}(h:Good T):∀(m a b:Nat),a+b<=m->∀ad bd,T[a]? =some ad->T[b]? =some bd->¬kY (bY T) a b->¬kY (bY T) b a->ad.hi<bd.lo\/bd.hi<ad.lo:=by
 intro m
 induction m with
 |zero=>
  intro a b hm ad bd ha hb h1 _;have:a=b:=by omega
  subst this;exact absurd (.refl (by rw [fi];exact(lgeS ha).1)) h1
 |succ m ih=>
  have key:∀(a b:Nat),a+b<=m+1->b<a->∀ad bd,T[a]? =some ad->T[b]? =some bd->¬kY (bY T) a b->¬kY (bY T) b a->ad.hi<bd.lo\/bd.hi<ad.lo:=by
   intro a b hm cU ad bd ha hb h1 h2;have hal:=(lgeS ha).1;obtain⟨p,hp,e⟩:=h.par.up a _ (by omega) (lO ha);have Yv:(bY T)[a]? =some (p:Int):=by rw [lO ha,e]
   obtain⟨pd,y0⟩:=gv (T:=T) (i:=p) (by omega);have fQ:=h.rD (eE.2 Yv) ha y0;have rO:=h.loc p pd y0;have zB:¬kY (bY T) p b:=fun hu=>h1 (.step Yv hu);by_cases Od:kY (bY T) b p
   ·have fD:b≠p:=fun e=>zB (by subst e;exact .refl Od.lt)
    obtain⟨c,hc,Ny⟩:=Od.child fD;have hca:c≠a:=fun e=>h2 (e▸Ny);have qP:c<T.length:=by have:=(iD h.par hc).2;rwa [fi]at this
    obtain⟨cd,kl⟩:=gv qP;have B9:=h.pB hb kl Ny;have mz:=h.ch p pd y0;rcases Nat.lt_or_ge c a with cU|gE
    ·have:=rO.ord c a cd ad (by rw [mz];exact hc) (by rw [mz];exact eE.2 Yv) cU kl ha
     omega
    ·have:=rO.ord a c ad cd (by rw [mz];exact eE.2 Yv) (by rw [mz];exact hc) (by omega) ha kl
     omega
   ·have:=ih p b (by omega) pd bd y0 hb zB Od
    have:=rO.Dn;omega
  intro a b hm ad bd ha hb h1 h2;rcases Nat.lt_trichotomy a b with cU|rfl|cU
  ·have:=key b a (by omega) cU bd ad hb ha h2 h1
   omega
  ·exact absurd (.refl (by rw [fi];exact(lgeS ha).1)) h1
  ·exact key a b hm cU ad bd ha hb h1 h2
theorem Good.under{T:List Nd}(h:Good T){a b:Nat}{ad bd:Nd}(ha:T[a]? =some ad)(hb:T[b]? =some bd):(bd.lo<=ad.lo/\ad.hi<=bd.hi)↔kY (bY T) a b:=by
 refine⟨fun hi=>?_,fun hu=>h.pB ha hb hu⟩;by_cases hu:kY (bY T) a b
 ·exact hu
 ·exfalso
  have ia:=h.iv a ad ha;have ib:=h.iv b bd hb;by_cases hv:kY (bY T) b a
  ·have fD:b≠a:=fun e=>hu (by subst e;exact .refl hv.lt)
   obtain⟨c,hc,Ny⟩:=hv.child fD;have qP:c<T.length:=by have:=(iD h.par hc).2;rwa [fi]at this
   obtain⟨cd,kl⟩:=gv qP;have h1:=h.pB hb kl Ny;have h2:=h.rD hc kl ha;have h3:=(h.loc a ad ha).Dn;omega
  ·have:=h.apart (a+b) a b (Nat.le_refl _) ad bd ha hb hu hv
   have:=ia.le;have:=ib.le;omega
theorem yk(T:List Nd)(p:Nat)(pd:Nd):(grown T p pd).length=T.length+1:=by simp [grown]
theorem jL{T:List Nd}{p:Nat}{pd:Nd}(hp:T[p]? =some pd)(i:Nat):(grown T p pd)[i]? =if i=p then some {pd with ch:=pd.ch++ [T.length]}else if i=T.length then some ⟨p,[],0,0,0⟩else T[i]? :=by
 have cU:=(lgeS hp).1;unfold grown;by_cases e:i=p
 ·subst e
  rw [if_pos rfl,List.getElem?_set_self (by simp;omega)]
 ·rw [if_neg e,List.getElem?_set_ne (fun h=>e h.symm)]
  by_cases e2:i=T.length
  ·subst e2;simp
  ·rw [if_neg e2]
   rcases Nat.lt_or_ge i T.length with h|h
   ·rw [List.getElem?_append_left h]
   ·rw [List.getElem?_eq_none (by simp;omega),List.getElem?_eq_none h]
theorem mS{T:List Nd}{p:Nat}{pd:Nd}(hp:T[p]? =some pd):bY (grown T p pd)=bY T++ [(p:Int)]:=by
 apply List.ext_getElem?;intro i;have cU:=(lgeS hp).1;simp only [bY,List.getElem?_map,jL hp];by_cases e:i=p
 ·subst e
  rw [if_pos rfl,List.getElem?_append_left (by simpa using cU)];simp [hp]
 ·rw [if_neg e]
  by_cases e2:i=T.length
  ·subst e2;simp
  ·rw [if_neg e2]
   rcases Nat.lt_or_ge i T.length with h|h
   ·rw [List.getElem?_append_left (by simpa using h)];simp
   ·rw [List.getElem?_eq_none h,List.getElem?_eq_none (by simp;omega)];rfl
theorem AS(P:List Int)(p i:Nat):kids (P++ [(p:Int)]) i=kids P i++if i=p then [P.length]else []:=by
 unfold kids;rw [List.length_append,List.length_singleton,List.range_succ,List.filter_append]
 congr 1
 ·apply List.filter_congr
  intro x hx;rw [List.getElem?_append_left (by simpa using hx)]
 ·by_cases e:i=p
  ·subst e;simp
  ·have:¬((p:Int)=(i:Int)):=by omega
   simp [e,this]
theorem mh.snoc{P:List Int}(h:mh P){p:Nat}(hp:p<P.length):mh (P++ [(p:Int)]):=by
 refine⟨by rw [List.getElem?_append_left (by omega)];exact h.root,fun i q hi hq=>?_⟩;rcases Nat.lt_or_ge i P.length with hl|hl
 ·rw [List.getElem?_append_left hl]at hq
  exact h.up i q hi hq
 ·have:i=P.length:=by
   rcases Nat.eq_or_lt_of_le hl with e|e
   ·exact e.symm
   ·rw [List.getElem?_eq_none (by simp;omega)]at hq;cases hq
  subst this;simp at hq;exact⟨p,hp,hq.symm⟩
theorem Shape.grown{T:List Nd}(h:Shape T){p:Nat}{pd:Nd}(hp:T[p]? =some pd):Shape (grown T p pd):=by
 have cU:=(lgeS hp).1;refine⟨by rw [mS hp];exact h.par.snoc (by rw [fi];exact cU),fun i nd hi=>?_⟩;rw [mS hp,AS,fi];rw [jL hp]at hi;by_cases e:i=p
 ·subst e
  rw [if_pos rfl]at hi⊢;cases hi;simp [h.ch i pd hp]
 ·rw [if_neg e]at hi⊢
  rw [List.append_nil];by_cases e2:i=T.length
  ·subst e2
   rw [if_pos rfl]at hi;cases hi
   symm
   apply List.eq_nil_iff_forall_not_mem.2;intro c hc;have:=iD h.par hc;rw [fi]at this;omega
  ·rw [if_neg e2]at hi
   exact h.ch i nd hi
def jm(f:Nat->Nat):Nat->Nat
 |0=>0
 |n+1=>jm f n+f n
theorem lG{f g:Nat->Nat}{n:Nat}(h:∀i,i<n->f i=g i):jm f n=jm g n:=by
 induction n with
 |zero=>rfl
 |succ n ih=>
  simp only [jm];rw [ih (fun i hi=>h i (by omega)),h n (by omega)]
theorem zV(f g:Nat->Nat)(n:Nat):jm (fun i=>f i+g i) n=jm f n+jm g n:=by
 induction n with
 |zero=>rfl
 |succ n ih=>simp only [jm];omega
theorem mC{f:Nat->Nat}{n:Nat}(h:∀i,i<n->f i=0):jm f n=0:=by
 induction n with
 |zero=>rfl
 |succ n ih=>
  simp only [jm];rw [ih (fun i hi=>h i (by omega)),h n (by omega)]
theorem Fh(h:Nat->Nat->Nat)(n m:Nat):jm (fun i=>jm (fun j=>h i j) m) n=jm (fun j=>jm (fun i=>h i j) n) m:=by
 induction n with
 |zero=>simp only [jm];exact(mC fun _ _=>rfl).symm
 |succ n ih=>
  simp only [jm];rw [ih,zV]
theorem zU{n k:Nat}(hk:k<n){f:Nat->Nat}(h:∀i,i<n->i≠k->f i=0):jm f n=f k:=by
 induction n with
 |zero=>omega
 |succ n ih=>
  simp only [jm];rcases Nat.lt_or_ge k n with cU|gE
  ·rw [ih cU (fun i hi=>h i (by omega)),h n (by omega) (by omega),Nat.add_zero]
  ·have:k=n:=by omega
   subst this;rw [mC (fun i hi=>h i (by omega) (by omega)),Nat.zero_add]
theorem KU{f:Nat->Nat}{n b:Nat}(h:∀i,i<n->f i<=b):jm f n<=n*b:=by
 induction n with
 |zero=>simp [jm]
 |succ n ih=>
  simp only [jm];have:=ih (fun i hi=>h i (by omega));have:=h n (by omega);rw [Nat.succ_mul];omega
theorem HI{f f':Nat->Nat}{n k:Nat}(hk:k<n){v:Nat}(h:∀i,i<n->i≠k->f' i=f i)(hv:f' k=f k+v):jm f' n=jm f n+v:=by
 induction n with
 |zero=>omega
 |succ n ih=>
  simp only [jm];rcases Nat.lt_or_ge k n with cU|gE
  ·rw [ih cU (fun i hi=>h i (by omega)),h n (by omega) (by omega)]
   omega
  ·have:k=n:=by omega
   subst this;rw [lG (fun i hi=>h i (by omega) (by omega)),hv];omega
theorem sU(q:Nat->Bool)(f:Nat->Nat)(n:Nat):(((List.range n).filter q).map f).sum=jm (fun c=>if q c=true then f c else 0) n:=by
 induction n with
 |zero=>rfl
 |succ n ih=>
  rw [List.range_succ,List.filter_append,List.map_append,List.sum_append,ih];simp only [jm]
  congr 1
  by_cases h:q n=true
  ·simp [h]
  ·simp [h]
section
variable{P:List Int}
theorem kY.cmp{i a b:Nat}(h:kY P i a)(h':kY P i b):kY P a b\/kY P b a:=by
 induction h with
 |refl=>exact .inl h'
 | @step i j k hp h2 ih=>
   by_cases e:i=b
   ·subst e;exact .inr (.step hp h2)
   ·exact ih (h'.inv e hp)
theorem kY.one(hP:mh P){i n c c':Nat}(hc:P[c]? =some (n:Int))(uG:P[c']? =some (n:Int))(h:kY P i c)(h':kY P i c'):c=c':=by
 have key:∀(c c':Nat),P[c]? =some (n:Int)->P[c']? =some (n:Int)->kY P c c'->c=c':=by
  intro c c' hc uG h;by_cases e:c=c'
  ·exact e
  ·have:=(h.inv e hc).le hP
   have:=(iD hP (eE.2 uG)).1;omega
 rcases h.cmp h' with h|h
 ·exact key c c' hc uG h
 ·exact(key c' c uG hc h).symm
open Classical in
noncomputable def ind(p:Prop):Nat:=if p then 1 else 0
theorem sA{p:Prop}(h:p):ind p=1:=by unfold ind;rw [if_pos h]
theorem tu{p:Prop}(h:¬p):ind p=0:=by unfold ind;rw [if_neg h]
theorem P0(p:Prop):ind p<=1:=by unfold ind;split<;>omega
noncomputable def sz(P:List Int)(n:Nat):Nat:=jm (fun i=>ind (kY P i n)) P.length
theorem Ck(hP:mh P){n:Nat}(hn:n<P.length):sz P n=1+jm (fun c=>if P[c]? =some (n:Int)then sz P c else 0) P.length:=by
 have e1:∀i,i<P.length->ind (kY P i n)=ind (i=n)+jm (fun c=>if P[c]? =some (n:Int)then ind (kY P i c)else 0) P.length:=by
  intro i hi;by_cases e:i=n
  ·subst e
   rw [sA (.refl hi),sA rfl,mC];intro c hc;split
   ·rename_i hp
    apply tu;intro hu;have:=hu.le hP;have:=(iD hP (eE.2 hp)).1;omega
   ·rfl
  ·rw [tu e,Nat.zero_add]
   by_cases hu:kY P i n
   ·obtain⟨c,hc,Ny⟩:=hu.child e
    rw [sA hu,zU (k:=c) Ny.X5]
    ·rw [if_pos (eE.1 hc),sA Ny]
    ·intro c' _ fD
     split
     ·rename_i hp
      exact tu fun h=>fD (kY.one hP hp (eE.1 hc) h Ny)
     ·rfl
   ·rw [tu hu,mC]
    intro c hc;split
    ·rename_i hp
     exact tu fun h=>hu (h.trans (.step hp (.refl hn)))
    ·rfl
 have e2:sz P n=jm (fun i=>ind (i=n)+jm (fun c=>if P[c]? =some (n:Int)then ind (kY P i c)else 0) P.length) P.length:=by
  unfold sz;exact lG e1
 rw [e2,zV,zU (k:=n) hn (fun i _ h=>tu h),sA rfl,Fh]
 congr 1
 apply lG;intro c _;split
 ·rfl
 ·exact mC fun _ _=>rfl
theorem vf(hP:mh P){n:Nat}(hn:n<P.length):1<=sz P n:=by rw [Ck hP hn];omega
theorem xJ(n:Nat):sz P n<=P.length:=by
 have:=KU (n:=P.length) (b:=1) (f:=fun i=>ind (kY P i n)) (fun i _=>P0 _);unfold sz;omega
theorem DV(hP:mh P){n:Nat}(hn:n<P.length):((kids P n).map (sz P)).sum+1=sz P n:=by
 unfold kids;rw [sU,Ck hP hn,Nat.add_comm]
 congr 1
 apply lG;intro c _;by_cases h:P[c]? =some (n:Int)
 ·simp [h]
 ·simp [h]
noncomputable def part(P:List Int)(m j:Nat):Nat:=jm (fun c=>if P[c]? =some (j:Int)/\m<=c then sz P c else 0) P.length
theorem FL(j:Nat):part P P.length j=0:=mC fun c hc=>if_neg fun h=>by omega
theorem vE(hP:mh P){m j:Nat}(hj:j<P.length)(hm:m<=j+1):part P m j+1=sz P j:=by
 rw [Ck hP hj,Nat.add_comm]
 congr 1
 apply lG;intro c hc;by_cases h:P[c]? =some (j:Int)
 ·have:=(iD hP (eE.2 h)).1
  rw [if_pos ⟨h,by omega⟩,if_pos h]
 ·rw [if_neg (fun e=>h e.1),if_neg h]
theorem HY{n p:Nat}(h:P[n]? =some (p:Int)):part P n p=part P (n+1) p+sz P n:=by
 unfold part;apply HI (k:=n) (lgeS h).1
 ·intro i _ fD
  by_cases hi:P[i]? =some (p:Int)
  ·by_cases h2:n<=i
   ·rw [if_pos ⟨hi,h2⟩,if_pos ⟨hi,by omega⟩]
   ·rw [if_neg (fun e=>h2 e.2),if_neg (fun e=>by omega)]
  ·rw [if_neg (fun e=>hi e.1),if_neg (fun e=>hi e.1)]
 ·rw [if_pos ⟨h,Nat.le_refl _⟩,if_neg (fun e=>by omega),Nat.zero_add]
theorem Cw{n j:Nat}(h:P[n]? ≠some (j:Int)):part P n j=part P (n+1) j:=by
 unfold part;apply lG;intro i _;by_cases hi:P[i]? =some (j:Int)
 ·have:i≠n:=fun e=>h (e▸hi)
  by_cases h2:n<=i
  ·rw [if_pos ⟨hi,h2⟩,if_pos ⟨hi,by omega⟩]
  ·rw [if_neg (fun e=>h2 e.2),if_neg (fun e=>by omega)]
 ·rw [if_neg (fun e=>hi e.1),if_neg (fun e=>hi e.1)]
noncomputable def iT(P:List Int)(m j:Nat):Nat:=if m<=j then sz P j else part P m j
theorem Cq(j:Nat)(hj:j<P.length):iT P P.length j=0:=by
 unfold iT;rw [if_neg (by omega),FL]
theorem Ah(j:Nat):iT P 0 j=sz P j:=by unfold iT;rw [if_pos (Nat.zero_le _)]
theorem FB(hP:mh P){n:Nat}(hn:n<P.length):iT P (n+1) n+1=sz P n:=by
 unfold iT;rw [if_neg (by omega),vE hP hn (Nat.le_refl _)]
theorem FA(hP:mh P){n p:Nat}(h:P[n]? =some (p:Int))(j:Nat):iT P n j=if j=p then iT P (n+1) p+sz P n else if j=n then sz P n else iT P (n+1) j:=by
 have hp:=(iD hP (eE.2 h)).1;unfold iT;by_cases e:j=p
 ·subst e
  rw [if_neg (by omega),if_pos rfl,if_neg (by omega),HY h]
 ·rw [if_neg e]
  by_cases e2:j=n
  ·subst e2;rw [if_pos (Nat.le_refl _),if_pos rfl]
  ·rw [if_neg e2]
   by_cases h2:n<=j
   ·rw [if_pos h2,if_pos (by omega)]
   ·rw [if_neg h2,if_neg (by omega)]
    exact Cw (fun h'=>e (by rw [h]at h';have:=Option.some.inj h';omega))
theorem FC(j:Nat):iT P 0 j=if j=0 then sz P 0 else iT P 1 j:=by
 rw [Ah];unfold iT;by_cases e:j=0
 ·subst e;rw [if_pos rfl]
 ·rw [if_neg e,if_pos (by omega)]
theorem DX(hP:mh P)(m j:Nat)(hj:j<P.length):iT P m j<=P.length:=by
 have h1:=xJ (P:=P) j;unfold iT;split
 ·exact h1
 ·rename_i h
  have:=vE hP (m:=m) hj;by_cases h2:m<=j+1
  ·have:=this h2;omega
  ·
   have h3:part P m j<=part P 0 j:=by
    unfold part;have:∀(f g:Nat->Nat) (n:Nat),(∀i,i<n->f i<=g i)->jm f n<=jm g n:=by
     intro f g n h
     induction n with
     |zero=>simp [jm]
     |succ n ih=>
      simp only [jm];have:=ih (fun i hi=>h i (by omega));have:=h n (by omega);omega
    apply this;intro i _;split
    ·rename_i h4;rw [if_pos ⟨h4.1,Nat.zero_le _⟩];exact Nat.le_refl _
    ·exact Nat.zero_le _
   have:=vE hP (m:=0) hj (by omega);omega
end
theorem wV{α:Type}(f g:Nat->α){n k:Nat}{v:α}(hk:k<n)(h:∀i,i<n->g i=if i=k then v else f i):((List.range n).map f).set k v=(List.range n).map g:=by
 apply List.ext_getElem?;intro i;rw [List.getElem?_set];by_cases e:k=i
 ·subst e
  rw [if_pos rfl,if_pos (by simpa using hk)];simp [hk,h k hk]
 ·rw [if_neg e]
  rcases Nat.lt_or_ge i n with hi|hi
  ·have:=h i hi
   rw [if_neg (fun x=>e x.symm)]at this;simp [hi,this]
  ·rw [List.getElem?_eq_none (by simpa using hi),List.getElem?_eq_none (by simpa using hi)]
end Go.Proofs.YtfleamccglihoaaGreatDoor.Tr
namespace Go.bV
open Go.RowKit
theorem aS{σ:Type}(e:σ->Env)(I:σ->World->Prop)(μ:σ->World->Nat)(s:σ)(w:World)(Q:aP)(l:Nat)(ρ:Env)(w':World):bR e I μ s w Q (.exit l) ρ w'=Q (.exit l) ρ w':=rfl
def zeroOf(P:Program)(e:TypeId):Option (Array Value):=
 match P.info? e with
 |some i=>match i.zero with
  |some z=>some z.cells
  |none=>none
 |none=>none
theorem Ie{P:Program}{t e:TypeId}{bytes:Nat}(T:zI P t e 1 bytes){z:Value}(hz:zeroOf P e=some #[z]){n:Nat}(hn:n<=maxLen)(hb:bytes*n<=281474976710656)(w:World):
 ∃w',(Instr.makeSlice t (.int .i64 (n:Int)) (.int .i64 (n:Int))).run P w=.ok (.slice (some ⟨w.heap.size,0,none⟩) n n) w'/\
  Row w' w.heap.size e 1 (some ⟨w.heap.size,0,none⟩) n n (List.replicate n z)/\Kept Nil w w':=by
 obtain⟨i,z',hi,zy,hs,KD,Es⟩:=T.inf;have hc:z'.cells= #[z]:=by
  unfold zeroOf at hz;simp only [hi,zy]at hz;exact Option.some.inj hz
 obtain⟨w',hr,fG,hg⟩:=run_make_full (P:=P) (w:=w) w.heap.size t e i z' 1 T.pB hi zy hs .i64 .i64 n (by rw [KD];exact hb) hn (Nat.le_refl _);rw [hc,Nat.mul_one,toList_madeCells_one]at fG;exact⟨w',hr,fG,(Kept.refl Nil w).grown hg (fun k hk=>by cases hk)⟩
end Go.bV
namespace Go.Proofs.YtfleamccglihoaaGreatDoor.Tr
open Go.Proofs.Tryz
open Go Go.bV Go.RowKit
section
variable{w w':World}{S:Nat->Prop}{g:Nat}{T:List Nd}{d:Int}{K:Value->World->Prop}
theorem TV.bound{b c:Nat}{L:List (Nd×Value)}(h:TV w S g T d b c L):TV w (fun k=>S k/\k<w.heap.size) g T d b c L:= {
 top:=h.top
 fst:=h.fst
 row:=h.row
 rD:=fun i p hp=>let ⟨A,m,h1⟩:=h.rD i p hp;⟨A,m,h1.val,h1.row,fun k e=>⟨h1.ly k e,let ⟨_,_,hc⟩:=Row.bJ h1.row e;aV hc⟩⟩
 apart:=h.apart
 iB:=⟨h.iB,aV h.top⟩
 gC:=⟨h.gC,let ⟨_,hc⟩:=h.wK;aV hc⟩}
theorem TV.mono{S':Nat->Prop}{b c:Nat}{L:List (Nd×Value)}(h:TV w S g T d b c L)(hs:∀k,S k->S' k):TV w S' g T d b c L:= {
 top:=h.top
 fst:=h.fst
 row:=h.row
 rD:=fun i p hp=>let ⟨A,m,h1⟩:=h.rD i p hp;⟨A,m,h1.val,h1.row,fun k e=>hs k (h1.ly k e)⟩
 apart:=h.apart
 iB:=hs _ h.iB
 gC:=hs _ h.gC}
theorem pC.bound(h:pC w S g T d):pC w (fun k=>S k/\k<w.heap.size) g T d:=let ⟨b,c,L,h⟩:=h;⟨b,c,L,h.bound⟩
theorem pC.mono{S':Nat->Prop}(h:pC w S g T d)(hs:∀k,S k->S' k):pC w S' g T d:=let ⟨b,c,L,h⟩:=h;⟨b,c,L,h.mono hs⟩
def us(f:Nat->Nat)(n:Nat):List Value:=(List.range n).map fun j=>.int .u64 (f j:Int)
theorem pE(f:Nat->Nat){n j:Nat}(hj:j<n):(us f n)[j]? =some (.int .u64 (f j:Int)):=by simp [us,hj]
theorem pD(f:Nat->Nat)(n:Nat):(us f n).length=n:=by simp [us]
theorem yB{f f':Nat->Nat}{n k:Nat}(hk:k<n)(h:∀i,i<n->i≠k->f' i=f i):(us f n).set k (.int .u64 (f' k:Int))=us f' n:=by
 unfold us;apply wV _ _ hk;intro i hi;by_cases e:i=k
 ·subst e;rw [if_pos rfl]
 ·rw [if_neg e,h i hi e]
theorem SU:zI prog BP jc 1 8:=⟨by kernel_rfl,by kernel_rfl⟩
set_option maxRecDepth 100000 in
theorem Ci(h:pC w S g T d)(hP:mh (bY T))(hlen:T.length<=1000000)
 (hK:∀w' A,Row w' w.heap.size jc 1 A T.length T.length (us (sz (bY T)) T.length)->Kept Nil w w'->K (.slice A T.length T.length) w'):
 bz prog bH.id #[.pointer (some ⟨g,0,none⟩)] w K:=by
 obtain⟨b,c,L,h0⟩:=h;have rO:=fi T;obtain⟨w5,uE,jI,k5⟩:=Ie SU (z:=.int .u64 0) (by kernel_rfl) (n:=T.length) (by unfold maxLen;omega) (by omega) w;refine bH.of (h0.go ⟨_,_,_,w5,uE,?_⟩);have h5:=h0.kept k5;refine h5.go ?_;generalize hA:(⟨w.heap.size,0,none⟩:Addr)=A at*;refine bH.cy (e:=some A) (i:=T.length) (I:=fun i w'=>∃m:Nat,i=(T.length:Int)-m/\m<=T.length/\Row w' w.heap.size jc 1 (some A) T.length T.length (us (iT (bY T) m) T.length)/\Kept Nil w w')
  (μ:=fun i _=>((T.length:Int)-i).toNat) (s:=0) ⟨T.length,by omega,Nat.le_refl _,?_,k5⟩ ?_
 ·have:List.replicate T.length (Value.int .u64 0)=us (iT (bY T) T.length) T.length:=by
   apply List.ext_getElem?;intro j;rcases Nat.lt_or_ge j T.length with hj|hj
   ·rw [pE _ hj,<-rO,Cq j (by omega)]
    simp [rO,hj]
   ·rw [List.getElem?_eq_none (by simpa using hj),List.getElem?_eq_none (by rw [pD];exact hj)]
  rw [<-this];exact jI
 ·rintro i w' ⟨m,rfl,hm,row,kw⟩
  have h':=h0.kept kw;refine Split.dec (fun cU=>?_) (fun gE=>?_)
  ·
   obtain⟨n,rfl⟩:∃n,m=n+1:=⟨m-1,by omega⟩;have hn:n<T.length:=by omega
   refine h'.go ?_;have ew:i64.wrap (i64.wrap ((T.length:Int)-1)-((T.length:Int)-((n+1:Nat):Int)))=(n:Int):=by
    rw [gP (x:=(T.length:Int)-1) (by omega) (by omega),gP (by omega) (by omega)];omega
   rw [ew];have hb:0<=(n:Int)/\(n:Int)<(T.length:Int):=⟨by omega,by omega⟩;subst hA;have VD:n<(us (iT (bY T) (n+1)) T.length).length:=by rw [pD];exact hn
   refine⟨hb,_,by rw [mZ,Int.toNat_natCast,Nat.mul_one];exact Row.cell row (pE _ hn),hb,by rw [mZ,Int.toNat_natCast,Nat.mul_one];exact Row.wr row VD,?_⟩;intro sN;have e18:sN=w'.setCell ⟨w.heap.size,n,none⟩ (.int .u64 (u64.wrap ((iT (bY T) (n+1) n:Int)+1))):=by simp only [sN,mZ,Int.toNat_natCast,Nat.mul_one]
   have afE:=FB hP (n:=n) (by omega);have hle:iT (bY T) (n+1) n<=(bY T).length:=DX hP _ _ (by omega);have lj:=Row.set row VD (.int .u64 (u64.wrap ((iT (bY T) (n+1) n:Int)+1)));rw [<-e18]at lj;have Ge:Kept Nil w sN:=by rw [e18];exact kw.setCell (fun hh=>absurd hh (Nat.lt_irrefl _)) _
   clear_value sN;rw [fW (x:=(iT (bY T) (n+1) n:Int)+1) (by omega) (by omega)]at lj;rw [show(iT (bY T) (n+1) n:Int)+1=((if n=n then sz (bY T) n else iT (bY T) (n+1) n:Nat):Int)from by rw [if_pos rfl];omega,
    yB (f':=fun j=>if j=n then sz (bY T) n else iT (bY T) (n+1) j) hn (fun i _ fD=>by rw [if_neg fD])]at lj
   have h18:=h0.kept Ge;obtain⟨nd,ft⟩:=gv hn;obtain⟨v,hv⟩:=h18.at_ ft;refine h18.go ⟨hb,h18.JE hv ?_⟩;have jX:=lO ft;refine Split.dec (fun hp=>?_) (fun hp=>?_)
   ·
    have Gs:0<n:=by
     rcases Nat.eq_zero_or_pos n with rfl|h
     ·rw [hP.root]at jX;have:=Option.some.inj jX;omega
     ·exact h
    obtain⟨p,LQ,ep⟩:=hP.up n _ Gs jX;rw [ep]at hp⊢;have hpp:(bY T)[n]? =some (p:Int):=by rw [jX,ep]
    intro Kn;have PF:Kept Nil w Kn:=Ge.drew;have D4:Row Kn w.heap.size jc 1 (some ⟨w.heap.size,0,none⟩) T.length T.length (us (fun j=>if j=n then sz (bY T) n else iT (bY T) (n+1) j) T.length):=lj;clear_value Kn;have Od:0<=(p:Int)/\(p:Int)<(T.length:Int):=⟨by omega,by omega⟩;have VC:p<(us (fun j=>if j=n then sz (bY T) n else iT (bY T) (n+1) j) T.length).length:=by rw [pD];omega
    have gp:=pE (fun j=>if j=n then sz (bY T) n else iT (bY T) (n+1) j) (n:=T.length) (j:=p) (by omega);have gn:=pE (fun j=>if j=n then sz (bY T) n else iT (bY T) (n+1) j) (n:=T.length) (j:=n) (by omega);simp only [if_neg (show p≠n by omega)]at gp;simp only [if_pos]at gn;refine⟨Od,_,by rw [mZ,Int.toNat_natCast,Nat.mul_one];exact Row.cell D4 gp,hb,_,by rw [mZ,Int.toNat_natCast,Nat.mul_one];exact Row.cell D4 gn,Od,by rw [mZ,Int.toNat_natCast,Nat.mul_one];exact Row.wr D4 VC,?_⟩;intro wT;have e29:wT=Kn.setCell ⟨w.heap.size,p,none⟩ (.int .u64 (u64.wrap ((iT (bY T) (n+1) p:Int)+(sz (bY T) n:Int)))):=by simp only [wT,mZ,Int.toNat_natCast,Nat.mul_one]
    have HR:=Row.set D4 VC (.int .u64 (u64.wrap ((iT (bY T) (n+1) p:Int)+(sz (bY T) n:Int))));rw [<-e29]at HR;have Lz:Kept Nil w wT:=by rw [e29];exact PF.setCell (fun hh=>absurd hh (Nat.lt_irrefl _)) _
    clear_value wT;have ajD:iT (bY T) (n+1) p<=(bY T).length:=DX hP _ _ (by omega);have ajC:sz (bY T) n<=(bY T).length:=xJ _;have qN:=FA hP hpp;have zA:=qN p;rw [if_pos rfl]at zA;rw [fW (x:=(iT (bY T) (n+1) p:Int)+(sz (bY T) n:Int)) (by omega) (by omega),
     show(iT (bY T) (n+1) p:Int)+(sz (bY T) n:Int)=(iT (bY T) n p:Int)from by omega,
     yB (f':=iT (bY T) n) (by omega) (fun i _ fD=>by rw [qN i,if_neg fD])]at HR
    rw [gP (x:=(T.length:Int)-((n+1:Nat):Int)+1) (by omega) (by omega)];exact⟨_,rfl,⟨n,by omega,by omega,HR,Lz⟩,by simp only;omega⟩
   ·
    have Gs:n=0:=by
     rcases Nat.eq_zero_or_pos n with h|h
     ·exact h
     ·obtain⟨p,_,ep⟩:=hP.up n _ h jX
      omega
    subst Gs;have:us (fun j=>if j=0 then sz (bY T) 0 else iT (bY T) (0+1) j) T.length=us (iT (bY T) 0) T.length:=by
     congr 1
     funext j
     rw [FC]
    rw [this]at lj;rw [gP (x:=(T.length:Int)-((0+1:Nat):Int)+1) (by omega) (by omega)];exact⟨_,rfl,⟨0,by omega,by omega,lj,Ge⟩,by simp only;omega⟩
  ·have:m=0:=by omega
   subst this;rw [aS,bH.dq];refine hK w' (some A) ?_ kw;have e:iT (bY T) 0=sz (bY T):=funext Ah;rw [e]at row;exact row
end
section
variable{w:World}{K:Value->World->Prop}
theorem bz.AB{f:FuncId}{args:Array Value}{v:Value}(h:Calls prog f args w fun e w'=>e=.returned v/\w'=w)(hK:K v w):bz prog f args w K:=
 h.mono fun e w' ⟨he,hw⟩=>⟨v,he,by rw [hw];exact hK⟩
theorem xu(x y:Nat)(hx:x<18446744073709551616)(hy:y<18446744073709551616)
 (hK:K (.tuple #[.int .u64 ((x*y/18446744073709551616:Nat):Int),.int .u64 ((x*y%18446744073709551616:Nat):Int)]) w):
 bz prog bits_Mul64.id #[.int .u64 x,.int .u64 y] w K:=bz.AB (Any.bits_Mul64 Tryz.Lf x y hx hy w) hK
theorem xw(x:Nat)(hx:x<18446744073709551616)(hK:K (.int .i64 (Lib.bitLen x)) w):bz prog bits_Len64.id #[.int .u64 x] w K:=
 bz.AB (Any.bits_Len64 Tryz.Lg x w (by omega) (by omega)) hK
end
theorem qi:∀(f x:Nat),x<2 ^ f->x<2 ^ (Lib.bitLenAux f x)/\(x≠0->2 ^ (Lib.bitLenAux f x)<=2*x)
 |0,x,h=>by simp at h;subst h;simp [Lib.bitLenAux]
 |f+1,x,h=>by
  unfold Lib.bitLenAux;by_cases e:x=0
  ·simp [e]
  ·rw [if_neg e]
   have ih:=qi f (x/2) (by rw [Nat.pow_succ]at h;omega);rw [Nat.pow_add,Nat.pow_one];refine⟨by omega,fun _=>?_⟩;by_cases e2:x/2=0
   ·have:x=1:=by omega
    subst this;cases f<;>simp [Lib.bitLenAux]
   ·have:=ih.2 e2
    omega
theorem bitLen_spec{y:Nat}(h0:y≠0)(hy:y<18446744073709551616):1<=Lib.bitLen y/\Lib.bitLen y<=64/\9223372036854775808<=y*2 ^ (64-Lib.bitLen y)/\y*2 ^ (64-Lib.bitLen y)<18446744073709551616:=by
 have hs:=qi 64 y (by omega);have hle:=Lib.bitLenAux_le 64 y 64 (by omega)
 change Lib.bitLen y<=64 at hle
 change y<2 ^ (Lib.bitLen y)/\(y≠0->2 ^ (Lib.bitLen y)<=2*y)at hs
 have yX:=hs.2 h0;have hp:2 ^ Lib.bitLen y*2 ^ (64-Lib.bitLen y)=18446744073709551616:=by
  rw [<-Nat.pow_add,show Lib.bitLen y+(64-Lib.bitLen y)=64 by omega]
 have jK:0<2 ^ (64-Lib.bitLen y):=Nat.pow_pos (by omega);refine⟨?_,hle,?_,?_⟩
 ·rcases Nat.eq_zero_or_pos (Lib.bitLen y)with e|e
  ·rw [e]at hs;simp at hs;omega
  ·exact e
 ·have:=Nat.mul_le_mul_right (2 ^ (64-Lib.bitLen y)) yX
  rw [hp,Nat.mul_assoc]at this;omega
 ·rw [<-hp]
  exact Nat.mul_lt_mul_of_pos_right hs.1 jK
section
variable{Y n1 n0 u u1 q r:Nat}
theorem JK(hY:Y=n1*4294967296+n0):q*Y=q*n1*4294967296+q*n0:=by rw [hY,Nat.mul_add,Nat.mul_assoc]
theorem dg1(hY:Y=n1*4294967296+n0)(hq:q*n1+r=u)(h:q*n0<=4294967296*r+u1):q*Y<=u*4294967296+u1:=by rw [JK hY];omega
theorem dg2(hY:Y=n1*4294967296+n0)(hq:q*n1+r=u)(h:4294967296*r+u1<q*n0):u*4294967296+u1<q*Y:=by rw [JK hY];omega
theorem dg3(hu:u<Y)(Kw:u1<4294967296)(h:4294967296<=q):u*4294967296+u1<q*Y:=by
 have:=Nat.mul_le_mul_right Y h;omega
theorem dg4(hY:Y=n1*4294967296+n0)(Gs:n0<4294967296)(hu:u<Y)(hq:q*n1+r=u)(hr:4294967296<=r):q*Y<=u*4294967296+u1:=by
 have h1:q*n1<4294967296*n1:=by omega
 have h2:q<4294967296:=Nat.lt_of_mul_lt_mul_right h1;have h3:q*n0<=4294967296*4294967296:=Nat.mul_le_mul (by omega) (by omega);rw [JK hY];omega
theorem Ow(hu:u<Y)(Kw:u1<4294967296)(h:q*Y<=u*4294967296+u1):q<4294967296:=by
 rcases Nat.lt_or_ge q 4294967296 with h'|h'
 ·exact h'
 ·have:=dg3 hu Kw h';omega
theorem BE(Gr:2147483648<=n1)(hu:u<18446744073709551616)(hq:q*n1+r=u):q<8589934592:=by
 rcases Nat.lt_or_ge q 8589934592 with h|h
 ·exact h
 ·have:=Nat.mul_le_mul h Gr
  omega
end
theorem GH{Y n1 n0 u u1:Nat}{quo rem s Hz SL:Int}{Q:aP}{w:World}(hY:Y=n1*4294967296+n0)(Gs:n0<4294967296)(Gr:2147483648<=n1)(LZ:n1<4294967296)(hu:u<Y)(hY':Y<18446744073709551616)(Kw:u1<4294967296)
 (hex:∀q r:Nat,q*Y<=u*4294967296+u1->u*4294967296+u1<(q+1)*Y->Q (.exit 0) (bk.e1 (Y:Int) quo rem s n1 n0 Hz u1 SL ((q:Int),(r:Int))) w)
 (q0 r0:Nat) (h0:q0*n1+r0=u) (hX0:u*4294967296+u1<(q0+1)*Y) (tB:r0<4294967296):
 Holds none [] prog 135 (.loop (lB (bB (sL (fX (b9 (aQ (body bk.fn)))))))) Q (bk.e1 (Y:Int) quo rem s n1 n0 Hz u1 SL ((q0:Int),(r0:Int))) w:=by
 refine bk.cy (I:=fun s w'=>w'=w/\∃q r:Nat,s=((q:Int),(r:Int))/\q*n1+r=u/\u*4294967296+u1<(q+1)*Y/\r<4294967296)
  (μ:=fun s _=>s.1.toNat) (s:=((q0:Int),(r0:Int))) ⟨rfl,q0,r0,rfl,h0,hX0,tB⟩ ?_
 rintro s w' ⟨hw,q,r,rfl,hq,hX,hr⟩;subst hw;have abf:=BE Gr (by omega) hq;have down:u*4294967296+u1<q*Y->∃q' r':Nat,u64.wrap ((q:Int)-1)=(q':Int)/\u64.wrap ((r:Int)+(n1:Int))=(r':Int)/\q'*n1+r'=u/\u*4294967296+u1<(q'+1)*Y/\q'<q:=by
  intro h;have NI:1<=q:=by
   rcases Nat.eq_zero_or_pos q with e|e
   ·rw [e]at h;omega
   ·exact e
  refine⟨q-1,r+n1,?_,?_,?_,?_,by omega⟩
  ·rw [fW (by omega) (by omega)];omega
  ·rw [fW (by omega) (by omega)];omega
  ·have:q*n1=(q-1)*n1+n1:=by
    obtain⟨k,rfl⟩:∃k,q=k+1:=⟨q-1,by omega⟩;rw [Nat.succ_mul];rfl
   omega
  ·rwa [show q-1+1=q by omega]
 have step:∀q' r':Nat,q'*n1+r'=u->u*4294967296+u1<(q'+1)*Y->q'<q->∀b:Bool,b=decide ((r':Int)>=4294967296)->
  Split b (Q (.exit 0) (bk.e1 (Y:Int) quo rem s n1 n0 Hz u1 SL ((q':Int),(r':Int))) w') (bR (bk.e1 (Y:Int) quo rem s n1 n0 Hz u1 SL) (fun s jl=>jl=w'/\∃q r:Nat,s=((q:Int),(r:Int))/\q*n1+r=u/\u*4294967296+u1<(q+1)*Y/\r<4294967296) (fun s _=>s.1.toNat) ((q:Int),(r:Int)) w' Q .normal (bk.e1 (Y:Int) quo rem s n1 n0 Hz u1 SL ((q':Int),(r':Int))) w'):=by
  intro q' r' h1 h2 h3 b hb;subst hb;refine Split.dec (fun gE=>?_) (fun cU=>?_)
  ·exact hex q' r' (dg4 hY Gs hu h1 (by omega)) h2
  ·exact⟨_,rfl,⟨rfl,q',r',rfl,h1,h2,by omega⟩,by simp only;omega⟩
 refine Split.dec (fun gE=>?_) (fun cU=>?_)
 ·obtain⟨q',r',eq,er,h1,h2,h3⟩:=down (dg3 hu Kw (by simp only at gE;omega))
  simp only [eq,er];exact step q' r' h1 h2 h3 _ rfl
 ·simp only at cU
  have hqn:q*n0<18446744073709551616:=by
   have:q*n0<=4294967295*4294967295:=Nat.mul_le_mul (by omega) (by omega);omega
  have e1:u64.wrap ((q:Int)*(n0:Int))=((q*n0:Nat):Int):=by rw [<-Int.natCast_mul,fW (by omega) (by omega)]
  have e2:u64.wrap (u64.wrap (4294967296*(r:Int))+(u1:Int))=((4294967296*r+u1:Nat):Int):=by
   rw [fW (x:=4294967296*(r:Int)) (by omega) (by omega),fW (by omega) (by omega)];omega
  simp only [e1,e2];refine Split.dec (fun yg=>?_) (fun hle=>?_)
  ·obtain⟨q',r',eq,er,h1,h2,h3⟩:=down (dg2 hY hq (by omega))
   simp only [eq,er];exact step q' r' h1 h2 h3 _ rfl
  ·exact hex q r (dg1 hY hq (by omega)) hX
theorem GF{Y n1 n0 u u1:Nat}{quo rem s q1 HA:Int}{Q:aP}{w:World}(hY:Y=n1*4294967296+n0)(Gs:n0<4294967296)(Gr:2147483648<=n1)(LZ:n1<4294967296)(hu:u<Y)(hY':Y<18446744073709551616)(Kw:u1<4294967296)
 (hex:∀q r:Nat,q*Y<=u*4294967296+u1->u*4294967296+u1<(q+1)*Y->Q (.exit 2) (bk.e2 (Y:Int) quo rem s n1 n0 u1 q1 HA ((r:Int),(q:Int))) w)
 (q0 r0:Nat) (h0:q0*n1+r0=u) (hX0:u*4294967296+u1<(q0+1)*Y) (tB:r0<4294967296):
 Holds none [] prog 135 (.loop (lB (bB (sL (fX (fX (aQ (body bk.fn)))))))) Q (bk.e2 (Y:Int) quo rem s n1 n0 u1 q1 HA ((r0:Int),(q0:Int))) w:=by
 refine bk.gS (I:=fun s w'=>w'=w/\∃q r:Nat,s=((r:Int),(q:Int))/\q*n1+r=u/\u*4294967296+u1<(q+1)*Y/\r<4294967296)
  (μ:=fun s _=>s.2.toNat) (s:=((r0:Int),(q0:Int))) ⟨rfl,q0,r0,rfl,h0,hX0,tB⟩ ?_
 rintro s w' ⟨hw,q,r,rfl,hq,hX,hr⟩;subst hw;have abf:=BE Gr (by omega) hq;have down:u*4294967296+u1<q*Y->∃q' r':Nat,u64.wrap ((q:Int)-1)=(q':Int)/\u64.wrap ((r:Int)+(n1:Int))=(r':Int)/\q'*n1+r'=u/\u*4294967296+u1<(q'+1)*Y/\q'<q:=by
  intro h;have NI:1<=q:=by
   rcases Nat.eq_zero_or_pos q with e|e
   ·rw [e]at h;omega
   ·exact e
  refine⟨q-1,r+n1,?_,?_,?_,?_,by omega⟩
  ·rw [fW (by omega) (by omega)];omega
  ·rw [fW (by omega) (by omega)];omega
  ·have:q*n1=(q-1)*n1+n1:=by
    obtain⟨k,rfl⟩:∃k,q=k+1:=⟨q-1,by omega⟩;rw [Nat.succ_mul];rfl
   omega
  ·rwa [show q-1+1=q by omega]
 have step:∀q' r':Nat,q'*n1+r'=u->u*4294967296+u1<(q'+1)*Y->q'<q->∀b:Bool,b=decide ((r':Int)>=4294967296)->
  Split b (Q (.exit 2) (bk.e2 (Y:Int) quo rem s n1 n0 u1 q1 HA ((r':Int),(q':Int))) w') (bR (bk.e2 (Y:Int) quo rem s n1 n0 u1 q1 HA) (fun s jl=>jl=w'/\∃q r:Nat,s=((r:Int),(q:Int))/\q*n1+r=u/\u*4294967296+u1<(q+1)*Y/\r<4294967296) (fun s _=>s.2.toNat) ((r:Int),(q:Int)) w' Q .normal (bk.e2 (Y:Int) quo rem s n1 n0 u1 q1 HA ((r':Int),(q':Int))) w'):=by
  intro q' r' h1 h2 h3 b hb;subst hb;refine Split.dec (fun gE=>?_) (fun cU=>?_)
  ·exact hex q' r' (dg4 hY Gs hu h1 (by omega)) h2
  ·exact⟨_,rfl,⟨rfl,q',r',rfl,h1,h2,by omega⟩,by simp only;omega⟩
 refine Split.dec (fun gE=>?_) (fun cU=>?_)
 ·obtain⟨q',r',eq,er,h1,h2,h3⟩:=down (dg3 hu Kw (by simp only at gE;omega))
  simp only [eq,er];exact step q' r' h1 h2 h3 _ rfl
 ·simp only at cU
  have hqn:q*n0<18446744073709551616:=by
   have:q*n0<=4294967295*4294967295:=Nat.mul_le_mul (by omega) (by omega);omega
  have e1:u64.wrap ((q:Int)*(n0:Int))=((q*n0:Nat):Int):=by rw [<-Int.natCast_mul,fW (by omega) (by omega)]
  have e2:u64.wrap (u64.wrap (4294967296*(r:Int))+(u1:Int))=((4294967296*r+u1:Nat):Int):=by
   rw [fW (x:=4294967296*(r:Int)) (by omega) (by omega),fW (by omega) (by omega)];omega
  simp only [e1,e2];refine Split.dec (fun yg=>?_) (fun hle=>?_)
  ·obtain⟨q',r',eq,er,h1,h2,h3⟩:=down (dg2 hY hq (by omega))
   simp only [eq,er];exact step q' r' h1 h2 h3 _ rfl
  ·exact hex q r (dg1 hY hq (by omega)) hX
theorem XB(a:Nat)(ha:a<18446744073709551616):u64.wrap ((BitVec.ofInt 64 (a:Int)&&& BitVec.ofInt 64 (4294967295:Int)).toNat:Int)=((a%4294967296:Nat):Int):=by
 have h:=bits_and_u64_nat a 4294967295 ha (by omega);have e:a&&& 4294967295=a%4294967296:=Nat.and_two_pow_sub_one_eq_mod a 32;rw [e]at h;exact h
theorem orN(a b s:Nat)(ha:a*2 ^ s<18446744073709551616)(hb:b<2 ^ s)(xo:b<18446744073709551616):
 u64.wrap ((BitVec.ofInt 64 ((a*2 ^ s:Nat):Int)|||BitVec.ofInt 64 (b:Int)).toNat:Int)=((a*2 ^ s+b:Nat):Int):=by
 have h:=bits_or_u64_nat (a*2 ^ s) b ha xo;rw [Nat.mul_comm,<-Nat.two_pow_add_eq_or_of_lt hb,Nat.mul_comm]at h;exact h
theorem S5(a k:Nat):Int.fdiv (a:Int) (2 ^ k)=((a/2 ^ k:Nat):Int):=by
 rw [Int.fdiv_eq_ediv_of_nonneg _ (by exact Int.le_of_lt (Int.pow_pos (by omega)))];rw [Int.natCast_ediv,Int.natCast_pow];rfl
theorem Zx(a k:Nat):(a:Int)*2 ^ k=((a*2 ^ k:Nat):Int):=by rw [Int.natCast_mul,Int.natCast_pow];rfl
theorem adI{N u L u1 u0 v a b:Nat}(hN:N=u*18446744073709551616+L)(hL:L=u1*4294967296+u0)(hv:u*4294967296+u1-a=v)(ha:a<=u*4294967296+u1)(hb:b<=v*4294967296+u0):a*4294967296+b<=N:=by omega
theorem adH{N u L u1 u0 v a b:Nat}(hN:N=u*18446744073709551616+L)(hL:L=u1*4294967296+u0)(hv:u*4294967296+u1-a=v)(ha:a<=u*4294967296+u1)(hb:v*4294967296+u0<b):N<a*4294967296+b:=by omega
section
variable{w:World}{K:Value->World->Prop}
theorem oS(x:Nat)(hx:x<18446744073709551616)(hK:K (.int .i64 ((64-Lib.bitLen x:Nat):Int)) w):bz prog bits_LeadingZeros64.id #[.int .u64 x] w K:=by
 refine bits_LeadingZeros64.of (xw x hx ⟨_,rfl,?_⟩);have hle:=Lib.bitLen_le x 64 (by omega) (by omega)
 rwa [gP (by omega) (by omega),show(64:Int)-(Lib.bitLen x:Int)=((64-Lib.bitLen x:Nat):Int)by omega]
theorem xx(hi lo y:Nat)(Yx:lo<18446744073709551616)(hy:y<18446744073709551616)(hhi:hi<y)
 (hK:∀r w',Kept Nil w w'->K (.tuple #[.int .u64 (((hi*18446744073709551616+lo)/y:Nat):Int),.int .u64 r]) w'):
 bz prog bk.id #[.int .u64 hi,.int .u64 lo,.int .u64 y] w K:=by
 refine bk.of (Split.no (beq_eq_false_iff_ne.2 (by omega)) (Split.no (decide_eq_false (by omega)) ?_));by_cases h0:hi=0
 ·subst h0
  refine Split.yes rfl ?_;intro w6;refine⟨by omega,by omega,?_⟩;have e:u64.wrap ((lo:Int).tdiv (y:Int))=(((0*18446744073709551616+lo)/y:Nat):Int):=by
   rw [Int.tdiv_eq_ediv_of_nonneg (by omega),Nat.zero_mul,Nat.zero_add,<-Int.natCast_ediv];have:=Nat.div_le_self lo y;generalize lo/y=z at*;exact fW (by omega) (by omega)
  rw [e];exact hK _ w6 (Kept.refl Nil w).drew
 ·refine Split.no (beq_eq_false_iff_ne.2 (by omega)) (oS y hy ⟨_,rfl,?_⟩)
  obtain⟨zc,acS,hY1,hY2⟩:=bitLen_spec (y:=y) (by omega) hy;have hs:64-Lib.bitLen y<64:=by omega
  generalize 64-Lib.bitLen y=s at*;have eS:u64.wrap (s:Int)=(s:Int):=fW (by omega) (by omega);have eS2:u64.wrap ((64:Int)-(s:Int))=((64-s:Nat):Int):=by rw [fW (by omega) (by omega)];omega
  have em1:min s 64=s:=by omega
  have em2:min (64-s) 64=64-s:=by omega
  have em3:min (32:Int).toNat 64=32:=rfl;have R9:2 ^ (64-s)*2 ^ s=18446744073709551616:=by rw [<-Nat.pow_add,show 64-s+s=64 by omega]
  have jK:0<2 ^ s:=Nat.pow_pos (by omega);have UU:0<2 ^ (64-s):=Nat.pow_pos (by omega);simp only [eS,eS2,Int.toNat_natCast,em1,em2,em3,Zx];generalize hYd:y*2 ^ s=Y at*;have hhs:hi*2 ^ s<18446744073709551616:=by
   have:hi*2 ^ s<y*2 ^ s:=Nat.mul_lt_mul_of_pos_right hhi jK;omega
  have hlq:lo/2 ^ (64-s)<2 ^ s:=by
   rw [Nat.div_lt_iff_lt_mul UU,Nat.mul_comm,R9];exact Yx
  have abQ:lo/2 ^ (64-s)<18446744073709551616:=Nat.lt_of_le_of_lt (Nat.div_le_self _ _) Yx;have eY:u64.wrap (Y:Int)=(Y:Int):=fW (by omega) (by omega);have eH:u64.wrap ((hi*2 ^ s:Nat):Int)=((hi*2 ^ s:Nat):Int):=fW (by omega) (by omega);have eL:u64.wrap ((lo*2 ^ s:Nat):Int)=((lo*2 ^ s%18446744073709551616:Nat):Int):=by rw [IntKind.wrap_u64];omega
  have e32:∀a:Nat,Int.fdiv (a:Int) (2 ^ 32)=((a/4294967296:Nat):Int):=fun a=>S5 a 32;simp only [eY,eH,eL,e32,S5 lo,orN hi _ s hhs hlq abQ,XB Y (by omega),XB _ (Nat.mod_lt (lo*2 ^ s) (by omega:18446744073709551616>0))];have hN:(hi*18446744073709551616+lo)*2 ^ s=(hi*2 ^ s+lo/2 ^ (64-s))*18446744073709551616+lo*2 ^ s%18446744073709551616:=by
   have h1:lo*2 ^ s/18446744073709551616=lo/2 ^ (64-s):=by
    rw [<-R9,Nat.mul_div_mul_right _ _ jK]
   have h2:=Nat.div_add_mod (lo*2 ^ s) 18446744073709551616;rw [h1]at h2;rw [Nat.add_mul,Nat.mul_right_comm];omega
  have akz:(hi*18446744073709551616+lo)*2 ^ s<Y*18446744073709551616:=by
   have h1:hi*18446744073709551616+lo<y*18446744073709551616:=by omega
   have:=Nat.mul_lt_mul_of_pos_right h1 jK;rw [Nat.mul_right_comm,hYd]at this;exact this
  have NH:(hi*18446744073709551616+lo)*2 ^ s/Y=(hi*18446744073709551616+lo)/y:=by rw [<-hYd,Nat.mul_div_mul_right _ _ jK]
  rw [<-NH]at hK;clear NH;generalize (hi*18446744073709551616+lo)*2 ^ s=N at*;have hL:lo*2 ^ s%18446744073709551616<18446744073709551616:=Nat.mod_lt _ (by omega);generalize lo*2 ^ s%18446744073709551616=L at*;generalize hi*2 ^ s+lo/2 ^ (64-s)=u at*;have hu:u<Y:=by omega
  have Gr:2147483648<=Y/4294967296:=by omega
  have LZ:Y/4294967296<4294967296:=by omega
  have Gs:Y%4294967296<4294967296:=by omega
  have hYe:Y=Y/4294967296*4294967296+Y%4294967296:=by omega
  have Kw:L/4294967296<4294967296:=by omega
  have hu0:L%4294967296<4294967296:=by omega
  have hLe:L=L/4294967296*4294967296+L%4294967296:=by omega
  generalize Y/4294967296=n1 at*;generalize Y%4294967296=n0 at*;generalize L/4294967296=u1 at*;generalize L%4294967296=u0 at*;have Ou:∀v:Nat,v<18446744073709551616->u64.wrap ((v:Int).tdiv (n1:Int))=((v/n1:Nat):Int)/\u64.wrap ((v:Int)-u64.wrap (((v/n1:Nat):Int)*(n1:Int)))=((v%n1:Nat):Int)/\v/n1*n1+v%n1=v/\v%n1<n1:=by
   intro v hv;have h1:=Nat.div_le_self v n1;have h2:=Nat.div_add_mod' v n1;refine⟨?_,?_,h2,Nat.mod_lt _ (by omega)⟩
   ·rw [Int.tdiv_eq_ediv_of_nonneg (by omega),<-Int.natCast_ediv]
    generalize v/n1=z at*;exact fW (by omega) (by omega)
   ·rw [<-Int.natCast_mul,fW (x:=((v/n1*n1:Nat):Int)) (by omega) (by omega),fW (by omega) (by omega)]
    omega
  have first:∀v d:Nat,v<Y->d<4294967296->v*4294967296+d<(v/n1+1)*Y:=by
   intro v d hv hd;have h2:=Nat.div_add_mod' v n1;have h3:=Nat.mod_lt v (show 0<n1 by omega);have h4:v+1<=(v/n1+1)*n1:=by rw [Nat.succ_mul];omega
   have h5:(v+1)*4294967296<=(v/n1+1)*n1*4294967296:=Nat.mul_le_mul_right _ h4;have h6:(v/n1+1)*n1*4294967296<=(v/n1+1)*Y:=by
    have h7:n1*4294967296<=Y:=Nat.le_trans (Nat.le_add_right _ n0) (Nat.le_of_eq hYe.symm);rw [Nat.mul_assoc];exact Nat.mul_le_mul_left _ h7
   omega
  obtain⟨g1,g2,g3,g4⟩:=Ou u (by omega);simp only [g1,g2];refine⟨by omega,by omega,by omega,by omega,by omega,by omega,by omega,?_⟩;refine GH hYe Gs Gr LZ hu (by omega) Kw ?_ (u/n1) (u%n1) g3 (first u u1 hu Kw) (by omega);intro q r NI R8;rw [show bk.e1 (Y:Int) 0 0 (s:Int) (n1:Int) (n0:Int) (u:Int) (u1:Int) (u0:Int) ((q:Int),(r:Int))= [(2,.int .u64 (Y:Int)),(6,.int .u64 0),(7,.int .u64 0),(8,.int .u64 (s:Int)),(9,.int .u64 (n1:Int)),(10,.int .u64 (n0:Int)),(11,.int .u64 (u:Int)),(13,.int .u64 (u1:Int)),(14,.int .u64 (u0:Int)),(15,.int .u64 (q:Int)),(16,.int .u64 (r:Int))]from rfl];rw [bk.dq];have hqB:=Ow hu Kw NI;rw [Nat.succ_mul]at R8;have hp:u64.wrap (u64.wrap (u64.wrap ((u:Int)*4294967296)+(u1:Int))-u64.wrap ((q:Int)*(Y:Int)))=((u*4294967296+u1-q*Y:Nat):Int):=by
   rw [<-Int.natCast_mul q Y];simp only [IntKind.wrap_u64];generalize q*Y=p at*;omega
  unfold bk.cV;simp only [hp];have hv:u*4294967296+u1-q*Y<Y:=by omega
  generalize hvd:u*4294967296+u1-q*Y=v at*;obtain⟨g1',YX,g3',g4'⟩:=Ou v (by omega);simp only [g1',YX];refine⟨by omega,?_⟩;refine GF hYe Gs Gr LZ hv (by omega) hu0 ?_ (v/n1) (v%n1) g3' (first v u0 hv hu0) (by omega);intro q' r' UT abg;rw [show bk.e2 (Y:Int) 0 0 (s:Int) (n1:Int) (n0:Int) (u0:Int) (q:Int) (v:Int) ((r':Int),(q':Int))= [(2,.int .u64 (Y:Int)),(6,.int .u64 0),(7,.int .u64 0),(8,.int .u64 (s:Int)),(9,.int .u64 (n1:Int)),(10,.int .u64 (n0:Int)),(14,.int .u64 (u0:Int)),(15,.int .u64 (q:Int)),(16,.int .u64 (r':Int)),(17,.int .u64 (v:Int)),(18,.int .u64 (q':Int))]from rfl];rw [bk.jU];have ai9:=Ow hv hu0 UT;refine⟨by omega,?_⟩;have aaW:u64.wrap (u64.wrap ((q:Int)*4294967296)+(q':Int))=((N/Y:Nat):Int):=by
   rw [fW (x:=(q:Int)*4294967296) (by omega) (by omega),fW (by omega) (by omega)];have:N/Y=q*4294967296+q':=by
    apply Nat.div_eq_of_lt_le
    ·rw [Nat.add_mul,Nat.mul_right_comm]
     exact adI hN hLe hvd NI UT
    ·rw [Nat.add_assoc,Nat.add_mul,Nat.mul_right_comm]
     exact adH hN hLe hvd NI abg
   rw [this];omega
  rw [aaW];exact hK _ w (Kept.refl Nil w)
end
end Go.Proofs.YtfleamccglihoaaGreatDoor.Tr
namespace Go.Proofs.YtfleamccglihoaaGreatDoor.Tr
open Go.Proofs.Tryz
structure lX(T T':List Nd):Prop where
 len:T'.length=T.length
 at_:∀(i:Nat) nd,T[i]? =some nd->∃nd',T'[i]? =some nd'/\nd'.parent=nd.parent/\nd'.ch=nd.ch
theorem lX.refl(T:List Nd):lX T T:=⟨rfl,fun _ nd h=>⟨nd,h,rfl,rfl⟩⟩
theorem lX.trans{T T' ES:List Nd}(h:lX T T')(h':lX T' ES):lX T ES:=⟨h'.len.trans h.len,fun i nd hi=>by
 obtain⟨nd',h1,h2,h3⟩:=h.at_ i nd hi;obtain⟨ZQ,g1,g2,g3⟩:=h'.at_ i nd' h1;exact⟨ZQ,g1,g2.trans h2,g3.trans h3⟩⟩
theorem lX.back{T T':List Nd}(h:lX T T'){i:Nat}{nd':Nd}(hi:T'[i]? =some nd'):∃nd,T[i]? =some nd/\nd'.parent=nd.parent/\nd'.ch=nd.ch:=by
 have cU:=(lgeS hi).1;obtain⟨nd,ft⟩:=gv (T:=T) (i:=i) (by rw [<-h.len];exact cU);obtain⟨x,h1,h2,h3⟩:=h.at_ i nd ft;rw [hi]at h1;cases h1;exact⟨nd,ft,h2,h3⟩
theorem lX.bY{T T':List Nd}(h:lX T T'):bY T'=bY T:=by
 apply List.ext_getElem?;intro i;rcases Nat.lt_or_ge i T.length with hi|hi
 ·obtain⟨nd,ft⟩:=gv hi
  obtain⟨nd',h1,h2,_⟩:=h.at_ i nd ft;rw [lO ft,lO h1,h2]
 ·rw [List.getElem?_eq_none (by rw [fi,h.len];exact hi),List.getElem?_eq_none (by rw [fi];exact hi)]
theorem lX.shape{T T':List Nd}(h:lX T T')(hS:Shape T):Shape T':=⟨by rw [h.bY];exact hS.par,fun i nd' hi=>by
 obtain⟨nd,ft,_,h3⟩:=h.back hi;rw [h.bY,h3,hS.ch i nd ft]⟩
theorem lX.set{T:List Nd}{i:Nat}{nd nd':Nd}(hi:T[i]? =some nd)(h1:nd'.parent=nd.parent)(h2:nd'.ch=nd.ch):lX T (T.set i nd'):=
 ⟨by simp,fun j x hj=>by
   by_cases e:i=j
   ·subst e
    rw [hi]at hj;cases hj;exact⟨nd',iZ hi,h1,h2⟩
   ·exact⟨x,oQ hj e,rfl,rfl⟩⟩
theorem yl{T:List Nd}{n p:Nat}{nd pd:Nd}{many:Int}(hn:T[n]? =some nd)(hp:T[p]? =some pd)(fD:n≠p)(i:Nat):
 (wk T n p nd pd many)[i]? =if i=p then some {pd with free:=pd.free+many}else if i=n then some {nd with lo:=pd.free,hi:=pd.free+many-1,free:=pd.free}else T[i]? :=by
 unfold wk;by_cases e:i=p
 ·subst e
  rw [if_pos rfl];exact iZ (oQ hp fD)
 ·rw [if_neg e,List.getElem?_set_ne (fun h=>e h.symm)]
  by_cases e2:i=n
  ·subst e2
   rw [if_pos rfl];exact iZ hn
  ·rw [if_neg e2,List.getElem?_set_ne (fun h=>e2 h.symm)]
theorem wj{T:List Nd}{n p:Nat}{nd pd:Nd}(many:Int)(hn:T[n]? =some nd)(hp:T[p]? =some pd)(fD:n≠p):lX T (wk T n p nd pd many):=
 (lX.set (nd':= {nd with lo:=pd.free,hi:=pd.free+many-1,free:=pd.free}) hn rfl rfl).trans (lX.set (nd:=pd) (nd':= {pd with free:=pd.free+many}) (oQ hp fD) rfl rfl)
theorem zY{l:List Nat}(hs:l.Pairwise (· < ·)){k c:Nat}(hc:l[k]? =some c):∀y,y∈l.take k->y<c:=by
 intro y hy;obtain⟨j,hj⟩:=List.mem_iff_getElem?.1 hy;rw [List.getElem?_take]at hj;split at hj
 ·rename_i cU
  obtain⟨h1,e1⟩:=lgeS hj;obtain⟨h2,e2⟩:=lgeS hc;rw [<-e1,<-e2];exact List.pairwise_iff_getElem.1 hs j k h1 h2 cU
 ·cases hj
theorem oF{l:List Nat}{k c:Nat}(hc:l[k]? =some c):l.take (k+1)=l.take k++ [c]:=by
 rw [List.take_add_one,hc];rfl
structure qp(P:List Int)(T1:List Nd)(x:Nat)(xd:Nd)(half:Int)(k:Nat)(T':List Nd)(f:Int):Prop where
 oG:lX T1 T'
 here:T'[x]? =some {xd with free:=f}
 rest:∀y,y≠x->y∉xd.ch.take k->T'[y]? =T1[y]?
 lo:xd.lo+(((xd.ch.take k).map (sz P)).sum:Nat)<=f
 up:(f-xd.lo-(((xd.ch.take k).map (sz P)).sum:Nat))*(sz P x:Int)<=half*(((xd.ch.take k).map (sz P)).sum:Nat)
 rD:∀c cd,c∈xd.ch.take k->T'[c]? =some cd->xd.lo<=cd.lo/\cd.hi<f/\(sz P c:Int)<=cd.hi-cd.lo+1
 ord:∀c c' cd wF,c∈xd.ch.take k->c'∈xd.ch.take k->c<c'->T'[c]? =some cd->T'[c']? =some wF->cd.hi<wF.lo
section
variable{P:List Int}{T1 T':List Nd}{x:Nat}{xd:Nd}{half f:Int}{k:Nat}
theorem qp.start(hx:T1[x]? =some xd)(hf:xd.free=xd.lo):qp P T1 x xd half 0 T1 xd.lo:= {
 oG:=lX.refl _
 here:=by obtain⟨a,b,c,d,e⟩:=xd;simp only at hf;subst hf;exact hx
 rest:=fun _ _ _=>rfl
 lo:=by simp
 up:=by simp
 rD:=fun c cd hc=>by simp at hc
 ord:=fun c c' cd wF hc=>by simp at hc}
theorem qp.bound(h:qp P T1 x xd half k T' f)(hh:0<=half)(R4:1<=sz P x)(IX:((xd.ch.take k).map (sz P)).sum<=sz P x):f<=xd.lo+(((xd.ch.take k).map (sz P)).sum:Nat)+half:=by
 have h1:half*(((xd.ch.take k).map (sz P)).sum:Nat)<=half*(sz P x:Int):=Int.mul_le_mul_of_nonneg_left (by omega) hh;have h2:=Int.le_trans h.up h1;have h3:=Int.le_of_mul_le_mul_right h2 (by omega);omega
theorem qp.step(h:qp P T1 x xd half k T' f)(hs:xd.ch.Pairwise (· < ·)){c:Nat}(hx:∀y,y∈xd.ch->x<y)(hc:xd.ch[k]? =some c){cd:Nd}(kl:T'[c]? =some cd)
 {more:Int} (Sc:0<=more) (hm:more*(sz P x:Int)<=half*(sz P c:Int)) (Eu:1<=sz P c):
 qp P T1 x xd half (k+1) (wk T' c x cd {xd with free:=f} ((sz P c:Int)+more)) (f+((sz P c:Int)+more)):=by
 have cU:=zY hs hc;have hxc:x<c:=hx c (List.mem_of_getElem? hc);have U9:c∉xd.ch.take k:=fun hh=>Nat.lt_irrefl _ (cU c hh);have gU:=yl (many:=(sz P c:Int)+more) kl h.here (by omega);have IX:((xd.ch.take (k+1)).map (sz P)).sum=((xd.ch.take k).map (sz P)).sum+sz P c:=by rw [oF hc];simp
 have iY:∀y,y∈xd.ch.take (k+1)↔y∈xd.ch.take k\/y=c:=by intro y;rw [oF hc];simp
 exact {
  oG:=h.oG.trans (wj _ kl h.here (by omega))
  here:=by rw [gU,if_pos rfl]
  rest:=fun y hy hn=>by
   rw [gU,if_neg hy,if_neg (fun e=>hn ((iY y).2 (.inr e)))];exact h.rest y hy (fun hh=>hn ((iY y).2 (.inl hh)))
  lo:=by rw [IX];have:=h.lo;omega
  up:=by
   rw [IX];have h1:=h.up;have e1:(f+((sz P c:Int)+more)-xd.lo-((((xd.ch.take k).map (sz P)).sum+sz P c:Nat):Int))*(sz P x:Int)=(f-xd.lo-((((xd.ch.take k).map (sz P)).sum:Nat):Int))*(sz P x:Int)+more*(sz P x:Int):=by
    rw [<-Int.add_mul];congr 1;omega
   have e2:half*((((xd.ch.take k).map (sz P)).sum+sz P c:Nat):Int)=half*((((xd.ch.take k).map (sz P)).sum:Nat):Int)+half*(sz P c:Int):=by
    rw [<-Int.mul_add];congr 1
   rw [e1,e2];omega
  rD:=fun y yd hy CN=>by
   have Yx:=h.lo;rw [gU]at CN;rcases(iY y).1 hy with hh|rfl
   ·have h1:=cU y hh
    have h2:=hx y (List.mem_of_mem_take hh);rw [if_neg (by omega),if_neg (by omega)]at CN;have:=h.rD y yd hh CN;exact⟨this.1,by omega,this.2.2⟩
   ·rw [if_neg (by omega),if_pos rfl]at CN
    cases CN;refine⟨?_,?_,?_⟩<;>simp only<;>omega
  ord:=fun a b ad bd ha hb lE KE Oh=>by
   rw [gU]at KE Oh;rcases(iY b).1 hb with xo|rfl
   ·have h1:=cU b xo
    rcases(iY a).1 ha with Ca|rfl
    ·have h2:=hx a (List.mem_of_mem_take Ca)
     rw [if_neg (by omega),if_neg (by omega)]at KE Oh;exact h.ord a b ad bd Ca xo lE KE Oh
    ·omega
   ·rcases(iY a).1 ha with Ca|rfl
    ·have h1:=cU a Ca
     have h2:=hx a (List.mem_of_mem_take Ca);rw [if_neg (by omega),if_neg (by omega)]at KE;rw [if_neg (by omega),if_pos rfl]at Oh;cases Oh;exact(h.rD a ad Ca KE).2.1
    ·omega}
end
structure oz(P:List Int)(T0:List Nd)(m:Nat)(T':List Nd)(q:List Nat)(i:Nat):Prop where
 oG:lX T0 T'
 nodup:q.Nodup
 pB:∀y,y∈q->kY P y m
 fst:m∈q
 src:∀y,y∈q->y=m\/∃z:Nat,z∈q.take i/\P[y]? =some (z:Int)
 Y4:∀z,z∈q.take i->∀c,c∈kids P z->c∈q
 rest:∀y,y∉q->T'[y]? =T0[y]?
 top:∀md Tv,T0[m]? =some md->T'[m]? =some Tv->Tv.lo=md.lo/\Tv.hi=md.hi
 room:∀y yd,y∈q->T'[y]? =some yd->1<=yd.lo/\yd.hi<=4611686018427387904/\(sz P y:Int)<=yd.hi-yd.lo+1
 loc:∀z zd,z∈q.take i->T'[z]? =some zd->Loc T' zd
theorem oz.start{P:List Int}{T0:List Nd}{m:Nat}{md:Nd}(hm:m<P.length)(v7:T0[m]? =some md)(h1:1<=md.lo)(h2:md.hi<=4611686018427387904)(h3:(sz P m:Int)<=md.hi-md.lo+1):
 oz P T0 m T0 [m] 0:= {
 oG:=lX.refl _
 nodup:=by simp
 pB:=fun y hy=>by simp at hy;subst hy;exact .refl hm
 fst:=by simp
 src:=fun y hy=>by simp at hy;exact .inl hy
 Y4:=fun z hz=>by simp at hz
 rest:=fun _ _=>rfl
 top:=fun a b ha hb=>by rw [ha]at hb;cases hb;exact⟨rfl,rfl⟩
 room:=fun y yd hy CN=>by
  simp at hy;subst hy;rw [v7]at CN;cases CN;exact⟨h1,h2,h3⟩
 loc:=fun z zd hz=>by simp at hz}
section
variable{T0 T' ES:List Nd}{m x i:Nat}{q:List Nat}{xd:Nd}{f half:Int}
theorem oz.step(hS:Shape T0)(h:oz (bY T0) T0 m T' q i)(hq:q[i]? =some x)(Kt:T'[x]? =some xd)
 (EC:0<=half) (ab5:half*2<=xd.hi-xd.lo-((sz (bY T0) x:Int)-1))
 (fQ:qp (bY T0) (T'.set x {xd with free:=xd.lo}) x {xd with free:=xd.lo} half xd.ch.length ES f):
 oz (bY T0) T0 m ES (q++xd.ch) (i+1):=by
 have YM:=h.oG.shape hS;have hpe:=h.oG.bY;have hP:=hS.par;have mz:xd.ch=kids (bY T0) x:=by rw [YM.ch x xd Kt,hpe]
 have dY:i<q.length:=(lgeS hq).1;have IM:x∈q:=List.mem_of_getElem? hq;have uD:x<(bY T0).length:=(h.pB x IM).lt;have yV:q.take (i+1)=q.take i++ [x]:=oF hq;have Qc:(q++xd.ch).take (i+1)=q.take i++ [x]:=by rw [List.take_append_of_le_length (by omega),yV]
 have Ns:x∉q.take i:=by
  intro hh;have hn:(q.take i++ [x]).Nodup:=by rw [<-yV];exact h.nodup.sublist (List.take_sublist _ _)
  rw [List.nodup_append]at hn;exact hn.2.2 x hh x (by simp) rfl
 have Gt:∀c,c∈xd.ch->(bY T0)[c]? =some (x:Int):=fun c hc=>eE.1 (mz▸hc);have yg:∀c,c∈xd.ch->x<c:=fun c hc=>(iD hP (mz▸hc)).1;have nN:∀c,c∈xd.ch->c∉q:=by
  intro c hc YD;rcases h.src c YD with rfl|⟨z,hz,Kx⟩
  ·have:=(h.pB x IM).le hP
   have:=yg _ hc;omega
  ·rw [Gt c hc]at Kx
   have:z=x:=by have:=Option.some.inj Kx;omega
   exact Ns (this▸hz)
 have ait:x∉xd.ch:=fun hh=>Nat.lt_irrefl _ (yg x hh);have dm:∀c,c∈(({xd with free:=xd.lo}:Nd).ch.take xd.ch.length)↔c∈xd.ch:=by intro c;simp
 have IX:(xd.ch.map (sz (bY T0))).sum+1=sz (bY T0) x:=by
  rw [mz];exact DV hP uD
 have jK:=vf hP uD;have Sf:=fQ.bound EC jK (by simp only [List.take_length];omega);have acj:=fQ.lo;simp only [List.take_length]at Sf acj;have ack:f<=xd.hi:=by omega
 have hT1:∀y,y≠x->(T'.set x {xd with free:=xd.lo})[y]? =T'[y]? :=fun y hy=>List.getElem?_set_ne (fun e=>hy e.symm);have I6:∀y,y≠x->y∉xd.ch->ES[y]? =T'[y]? :=fun y hy hn=>by
  rw [fQ.rest y hy (fun hh=>hn ((dm y).1 hh)),hT1 y hy]
 have NZ:ES[x]? =some {xd with free:=f}:=fQ.here;have hxr:=h.room x xd IM Kt;have hlh:xd.lo<=xd.hi:=by omega
 have hold:∀y zK,y∉xd.ch->ES[y]? =some zK->∃yd,T'[y]? =some yd/\yd.lo=zK.lo/\yd.hi=zK.hi:=by
  intro y zK hn hy;by_cases e:y=x
  ·subst e
   rw [NZ]at hy;cases hy;exact⟨xd,Kt,rfl,rfl⟩
  ·rw [I6 y e hn]at hy
   exact⟨zK,hy,rfl,rfl⟩
 exact {
  oG:=(h.oG.trans (lX.set (nd':= {xd with free:=xd.lo}) Kt rfl rfl)).trans fQ.oG
  nodup:=by
   rw [List.nodup_append];refine⟨h.nodup,?_,fun a ha b hb e=>nN b hb (e▸ha)⟩;rw [mz];exact(ug _ _).imp (fun h=>by omega)
  pB:=fun y hy=>by
   rcases List.mem_append.1 hy with hy|hy
   ·exact h.pB y hy
   ·exact .step (Gt y hy) (h.pB x IM)
  fst:=List.mem_append.2 (.inl h.fst)
  src:=fun y hy=>by
   rw [Qc];rcases List.mem_append.1 hy with hy|hy
   ·rcases h.src y hy with e|⟨z,hz,Kx⟩
    ·exact .inl e
    ·exact .inr ⟨z,List.mem_append.2 (.inl hz),Kx⟩
   ·exact .inr ⟨x,by simp,Gt y hy⟩
  Y4:=fun z hz c hc=>by
   rw [Qc]at hz;rcases List.mem_append.1 hz with hz|hz
   ·exact List.mem_append.2 (.inl (h.Y4 z hz c hc))
   ·simp at hz
    subst hz;exact List.mem_append.2 (.inr (mz▸hc))
  rest:=fun y hy=>by
   have h1:y∉q:=fun hh=>hy (List.mem_append.2 (.inl hh));have h2:y∉xd.ch:=fun hh=>hy (List.mem_append.2 (.inr hh));rw [I6 y (fun e=>h1 (e▸IM)) h2,h.rest y h1]
  top:=fun md ZU v7 Vq=>by
   obtain⟨Tv,h1,h2,h3⟩:=hold m ZU (fun hh=>nN m hh h.fst) Vq;have:=h.top md Tv v7 h1;omega
  room:=fun y zK hy Nr=>by
   rcases List.mem_append.1 hy with hy|hy
   ·obtain⟨yd,h1,h2,h3⟩:=hold y zK (fun hh=>nN y hh hy) Nr
    have:=h.room y yd hy h1;omega
   ·have:=fQ.rD y zK ((dm y).2 hy) Nr
    simp only at this;omega
  loc:=fun z zd hz hzd=>by
   rw [Qc]at hz;rcases List.mem_append.1 hz with hz|hz
   ·have hzq:z∈q:=List.mem_of_mem_take hz
    have Um:z≠x:=fun e=>Ns (e▸hz);have P1:=hzd;rw [I6 z Um (fun hh=>nN z hh hzq)]at P1;have hl:=h.loc z zd hz P1;have aao:zd.ch=kids (bY T0) z:=by rw [YM.ch z zd P1,hpe]
    have YE:∀c,c∈zd.ch->c∉xd.ch:=by
     intro c hc KC;have h1:=Gt c KC;rw [eE.1 (aao▸hc:c∈kids (bY T0) z)]at h1;have:=Option.some.inj h1;omega
    exact {
     Hi:=hl.Hi
     Dn:=hl.Dn
     sub:=fun c cd hc kl=>by
      obtain⟨wF,h1,h2,h3⟩:=hold c cd (YE c hc) kl;have:=hl.sub c wF hc h1;omega
     ord:=fun c c' cd wF hc uG yh kl rH=>by
      obtain⟨ed,h1,h2,h3⟩:=hold c cd (YE c hc) kl;obtain⟨Rq,rQ,sP,Cb⟩:=hold c' wF (YE c' uG) rH;have:=hl.ord c c' ed Rq hc uG yh h1 rQ;omega}
   ·simp at hz
    subst hz;rw [NZ]at hzd;cases hzd;exact {
     Hi:=by simp only;omega
     Dn:=ack
     sub:=fun c cd hc kl=>by
      have:=fQ.rD c cd ((dm c).2 hc) kl;simp only at this⊢;omega
     ord:=fun c c' cd wF hc uG yh kl rH=>fQ.ord c c' cd wF ((dm c).2 hc) ((dm c').2 uG) yh kl rH}}
theorem oz.fin(hS:Shape T0)(h:oz (bY T0) T0 m T' q i)(hi:q.length<=i)
 (U1:∀y nd,T0[y]? =some nd->¬kY (bY T0) y m->Iv nd/\Loc T0 nd):Good T':=by
 have YM:=h.oG.shape hS;have hpe:=h.oG.bY;have hP:=hS.par;have yV:q.take i=q:=List.take_of_length_le hi;have qP:∀y,kY (bY T0) y m->y∈q:=by
  have:∀y k,kY (bY T0) y k->k=m->y∈q:=by
   intro y k hu
   induction hu with
   |refl=>intro e;subst e;exact h.fst
   | @step a b c hp h' ih=>intro e;exact h.Y4 b (by rw [yV];exact ih e) a (eE.2 hp)
  exact fun y hu=>this y m hu rfl
 have hq:∀y,y∈q↔kY (bY T0) y m:=fun y=>⟨h.pB y,qP y⟩;refine⟨YM,fun y yd CN=>?_,fun y yd CN=>?_⟩
 ·by_cases hy:y∈q
  ·have hr:=h.room y yd hy CN
   have:=vf hP (h.pB y hy).lt;exact⟨hr.1,by omega,hr.2.1⟩
  ·rw [h.rest y hy]at CN
   exact(U1 y yd CN (fun hu=>hy (qP y hu))).1
 ·by_cases hy:y∈q
  ·exact h.loc y yd (by rw [yV];exact hy) CN
  ·have P3:=CN
   rw [h.rest y hy]at P3;have hl:=(U1 y yd P3 (fun hu=>hy (qP y hu))).2;have mz:=hS.ch y yd P3;have hold:∀c cd,c∈yd.ch->T'[c]? =some cd->∃ed,T0[c]? =some ed/\ed.lo=cd.lo/\ed.hi=cd.hi:=by
    intro c cd hc kl;by_cases YD:c∈q
    ·have hpc:=eE.1 (mz▸hc:c∈kids (bY T0) y)
     have nO:c=m:=by
      by_cases e:c=m
      ·exact e
      ·exact absurd (qP y ((h.pB c YD).inv e hpc)) hy
     subst nO;obtain⟨ed,hed,_⟩:=h.oG.back kl;have:=h.top ed cd hed kl;exact⟨ed,hed,by omega,by omega⟩
    ·rw [h.rest c YD]at kl
     exact⟨cd,kl,rfl,rfl⟩
   exact {
    Hi:=hl.Hi
    Dn:=hl.Dn
    sub:=fun c cd hc kl=>by
     obtain⟨ed,h1,h2,h3⟩:=hold c cd hc kl;have:=hl.sub c ed hc h1;omega
    ord:=fun c c' cd wF hc uG yh kl rH=>by
     obtain⟨ed,h1,h2,h3⟩:=hold c cd hc kl;obtain⟨Rq,rQ,sP,Cb⟩:=hold c' wF uG rH;have:=hl.ord c c' ed Rq hc uG yh h1 rQ;omega}
end
open Go Go.RowKit Go.bV
theorem Pj{l:List Nat}{a:Nat}(h:a∈l):a<=l.sum:=by
 induction l with
 |nil=>simp at h
 |cons b l ih=>
  rw [List.sum_cons];rcases List.mem_cons.1 h with rfl|h
  ·omega
  ·have:=ih h;omega
theorem Bc{l:List Nat}{j x:Nat}(h:l[j]? =some x):(ints l)[j]? =some (.int .i64 (x:Int)):=by simp [ints,h]
theorem IK(l:List Nat):(ints l).length=l.length:=by simp [ints]
theorem IJ(l:List Nat):∀u∈ints l,u.oneCell'=true:=by
 intro u hu;simp only [ints,List.mem_map]at hu;obtain⟨x,_,rfl⟩:=hu;rfl
structure Dl(w0:World)(S:Nat->Prop)(g b c B0 B1 len:Nat)(P:List Int)(d:Int)(As:Option Addr)(w:World)(T':List Nd)(L:List (Nd×Value))(Aq:Option Addr)(nq cq:Nat)(q:List Nat):Prop where
 tv:TV w S g T' d b c L
 rs:Row w B0 jc 1 As len len (us (sz P) len)
 sb:∀k,bn As=some k->k<B1
 rq:Row w B1 j0 1 Aq nq cq (ints q)
 kp:Kept S w0 w
 hS:∀k,S k->k<B0
 hB:B0<=B1
 Jy:B1<=w.heap.size
 h0:w0.heap.size<=B0
section
variable{w0 w w':World}{S:Nat->Prop}{g b c B0 B1 len:Nat}{P:List Int}{d:Int}{As:Option Addr}{T' ES:List Nd}{L L':List (Nd×Value)}{Aq:Option Addr}{nq cq:Nat}{q:List Nat}
theorem Dl.K3(h:Dl w0 S g b c B0 B1 len P d As w T' L Aq nq cq q):nq=q.length:=by
 have:=Row.len h.rq;rw [IK]at this;omega
theorem Dl.quiet(h:Dl w0 S g b c B0 B1 len P d As w T' L Aq nq cq q)(hk:Kept Nil w w'):Dl w0 S g b c B0 B1 len P d As w' T' L Aq nq cq q:= {
 tv:=h.tv.kept hk
 rs:=Row.aF h.rs hk (fun _ _ h=>h)
 sb:=h.sb
 rq:=Row.aF h.rq hk (fun _ _ h=>h)
 kp:=h.kp.trans hk (fun _ _ h=>h.elim)
 hS:=h.hS
 hB:=h.hB
 Jy:=Nat.le_trans h.Jy hk.size
 h0:=h.h0}
theorem Dl.wrote(h:Dl w0 S g b c B0 B1 len P d As w T' L Aq nq cq q)(hk:Kept (fun k=>k=b) w w')(ht:TV w' S g ES d b c L'):Dl w0 S g b c B0 B1 len P d As w' ES L' Aq nq cq q:= {
 tv:=ht
 rs:=Row.aF h.rs hk (fun k e e2=>by have:=(Row.bJ h.rs e).1;have:=h.hS b h.tv.gC;omega)
 sb:=h.sb
 rq:=Row.aF h.rq hk (fun k e e2=>by have:=(Row.bJ h.rq e).1;have:=h.hS b h.tv.gC;have:=h.hB;omega)
 kp:=h.kp.trans hk (fun k _ e=>by rw [e];exact h.tv.gC)
 hS:=h.hS
 hB:=h.hB
 Jy:=Nat.le_trans h.Jy hk.size
 h0:=h.h0}
theorem Dl.D7(h:Dl w0 S g b c B0 B1 len P d As w T' L Aq nq cq q){j:Nat}(hj:j<len){k:Int->Prop}(hk:k (sz P j)):
 Is As fun a=>∃t,w.cell? (a.add (j*1))=some (.int .u64 t)/\k t:=by
 have hr:=h.rs;obtain⟨b',rfl⟩:=Row.some hr (by omega);exact⟨_,by rw [mZ,Nat.mul_one];exact Row.cell hr (pE _ hj),hk⟩
theorem Dl.Ti(h:Dl w0 S g b c B0 B1 len P d As w T' L Aq nq cq q){j x:Nat}(hj:q[j]? =some x){k:Int->Prop}(hk:k x):
 Is Aq fun a=>∃t,w.cell? (a.add (j*1))=some (.int .i64 t)/\k t:=by
 have hr:=h.rq;have cU:=(lgeS hj).1;obtain⟨b',rfl⟩:=Row.some hr (by rw [h.K3];omega);exact⟨_,by rw [mZ,Nat.mul_one];exact Row.cell hr (Bc hj),hk⟩
theorem Dl.push(h:Dl w0 S g b c B0 B1 len P d As w T' L Aq nq cq q)(vY:q.length<=4000000)(x:Nat){w1:World}(e1:w1=w.alloc (.cells #[.int .i64 (x:Int)] j0)):
 ∃KM KH w2,(Builtin.append_ #[jE,jE] jE #[.slice Aq nq cq,.slice (some ⟨w.heap.size,0,none⟩) 1 1]).run prog w1=.ok (.slice KM (nq+1) KH) w2/\
  Dl w0 S g b c B0 B1 len P d As w2 T' L KM (nq+1) KH (q++ [x])/\(∀S0:Nat->Prop,(∀k,bn Aq=some k->S0 k)->Kept S0 w w2):=by
 subst e1;generalize Ku:w.alloc (.cells #[.int .i64 (x:Int)] j0)=w1;have nN:w1.heap[w.heap.size]? =some (.cells #[.int .i64 (x:Int)] j0 (0,0)):=by rw [<-Ku];exact aI w _
 have k1:Kept Nil w w1:=by rw [<-Ku];exact(Kept.refl Nil w).alloc _
 have h1:=h.quiet k1;have Hc:=h.K3;obtain⟨A',c',w2,hr,fG,hg,Dd⟩:=fR (P:=prog) (t:=jE) (ty:=jE) MT h1.rq (a:=⟨w.heap.size,0,none⟩) (m:=1) (cx:=1)
  (news:=ints [x]) rfl (fun j u hj=>by rw [mZ,aD nN];simpa [ints]using hj) (IJ _) (by omega) (by unfold maxLen;omega) h1.Jy
 have kA:Kept (fun k=>bn Aq=some k) w1 w2:=(Kept.refl _ w1).grown hg (fun k hk _=>hk);have gE:∀k,bn Aq=some k->B1<=k:=fun k e=>(Row.bJ h.rq e).1;refine⟨A',c',w2,hr,?_,fun S0 h0=>(k1.mono (S':=S0) (fun _ _ h=>h.elim)).trans kA (fun k _ e=>h0 k e)⟩;exact {
  tv:=h1.tv.aF kA (fun k hk e=>by have:=h.hS k hk;have:=gE k e;have:=h.hB;omega)
  rs:=Row.aF h1.rs kA (fun k e e2=>by have:=h.sb k e;have:=gE k e2;omega)
  sb:=h.sb
  rq:=by simpa [ints]using fG
  kp:=(h.kp.trans k1 (fun _ _ h=>h.elim)).trans kA (fun k hk e=>absurd (gE k e) (by have:=h.hB;have:=h.h0;omega))
  hS:=h.hS
  hB:=h.hB
  Jy:=Nat.le_trans h1.Jy kA.size
  h0:=h.h0}
theorem Dq{T0 T1:List Nd}{x:Nat}{xd:Nd}{half:Nat}{spare i:Int}{XY:Option Addr}{X4:Nat}{Qo:aP}
 (D:Dl w0 S g b c B0 B1 T0.length (bY T0) d As w T1 L Aq nq cq q) (hS:Shape T0) (Yp:lX T0 T1) (hlen:T0.length<=1000000) (Hc:q.length<=1000000)
 (hx:T1[x]? =some xd) (Bj:xd.free=xd.lo) (Yx:0<=xd.lo) (hhi:xd.hi<=4611686018427387904) (EC:(half:Int)*2<=xd.hi-xd.lo-((sz (bY T0) x:Int)-1))
 (zA:u64.wrap (spare.tdiv 2)=(half:Int)) (acy:Row w 0 j0 1 XY xd.ch.length X4 (ints xd.ch)) (Wq:∀k,bn XY=some k->S k/\k≠b)
 (hex:∀w' ES f L' KM KH,Dl w0 S g b c B0 B1 T0.length (bY T0) d As w' ES L' KM (nq+xd.ch.length) KH (q++xd.ch)->qp (bY T0) T1 x xd half xd.ch.length ES f->
   Qo .normal [(0,.pointer (some ⟨g,0,none⟩)),(4,.slice As T0.length T0.length),(5,.slice KM (nq+xd.ch.length) KH),(6,.int .i64 (i64.wrap (i+1)))] w'):
 Holds none [] prog 164 (.loop (lB (bB (b9 (bB (sL (sR (lB (bB (b9 (sR (body az.fn)))))))))))) (az.q3 Qo) (az.e3 (some ⟨g,0,none⟩) As T0.length T0.length i x spare XY xd.ch.length X4 xd.ch.length (Aq,nq,cq,0)) w:=by
 have hP:=hS.par;have rO:=fi T0;have mz:xd.ch=kids (bY T0) x:=by
  have:=(Yp.shape hS).ch x xd hx
  rwa [Yp.bY]at this
 have uD:x<T0.length:=by rw [<-Yp.len];exact(lgeS hx).1
 have LH:xd.ch.Pairwise (· < ·):=by rw [mz];exact ug _ _
 have yg:∀y,y∈xd.ch->x<y:=fun y hy=>(iD hP (mz▸hy)).1;have Mi:xd.ch.length<=1000000:=by rw [mz];exact Nat.le_trans (AR _ _) (by omega)
 have IX:(xd.ch.map (sz (bY T0))).sum+1=sz (bY T0) x:=by rw [mz];exact DV hP (by omega)
 have jK:=vf hP (n:=x) (by omega);have aaM:=xJ (P:=bY T0) x;have hnq:=D.K3;refine az.sk (I:=fun s w'=>∃(k:Nat) (T':List Nd) (f:Int) (L':List (Nd×Value)) (KM:Option Addr) (KH:Nat),s=(KM,nq+k,KH,(k:Int))/\k<=xd.ch.length/\
  Dl w0 S g b c B0 B1 T0.length (bY T0) d As w' T' L' KM (nq+k) KH (q++xd.ch.take k)/\qp (bY T0) T1 x xd half k T' f/\Row w' 0 j0 1 XY xd.ch.length X4 (ints xd.ch))
  (μ:=fun s _=>((xd.ch.length:Int)-s.2.2.2).toNat) (s:=(Aq,nq,cq,0)) ⟨0,T1,xd.lo,L,Aq,cq,rfl,Nat.zero_le _,by simpa using D,qp.start hx Bj,acy⟩ ?_
 rintro s w' ⟨k,T',f,L',KM,KH,rfl,hk,D',fQ,hr⟩;refine Split.dec (fun cU=>?_) (fun gE=>?_)
 ·simp only at cU
  have B8:k<xd.ch.length:=by omega
  obtain⟨ci,YF⟩:∃ci,xd.ch[k]? =some ci:=⟨_,List.getElem?_eq_getElem B8⟩;have nO:ci∈xd.ch:=List.mem_of_getElem? YF;have hck:ci∈kids (bY T0) x:=mz▸nO;have qP:ci<T0.length:=by have:=(iD hP hck).2;omega
  have hxc:=yg ci nO;have Eu:=vf hP (n:=ci) (by omega);have aiM:=xJ (P:=bY T0) ci;have UA:=Yp.trans fQ.oG;obtain⟨cd,kl⟩:=gv (T:=T') (i:=ci) (by rw [UA.len];exact qP);have Wo:cd.parent=x:=by
   have h1:=lO kl;rw [UA.bY,eE.1 hck]at h1;exact(Option.some.inj h1).symm
  have aaQ:sz (bY T0) ci<=sz (bY T0) x:=by
   have:=Pj (l:=xd.ch.map (sz (bY T0))) (a:=sz (bY T0) ci) (List.mem_map.2 ⟨ci,nO,rfl⟩);omega
  have WC:0<=(ci:Int)/\(ci:Int)<(T0.length:Int):=⟨by omega,by omega⟩;have jT:0<=(x:Int)/\(x:Int)<(T0.length:Int):=⟨by omega,by omega⟩;have ab4:half<4611686018427387904:=by omega
  obtain⟨bch,acM⟩:=Row.some hr (by omega);subst acM;refine⟨⟨by simp only;omega,by simp only;omega⟩,_,by simp only [mZ,Int.toNat_natCast,Nat.mul_one];exact Row.cell hr (Bc YF),by decide,WC,D'.D7 qP ?_⟩;rw [zA];refine xu half (sz (bY T0) ci) (by omega) (by omega) ⟨_,_,rfl,jT,D'.D7 uD ?_⟩;have Vo:(half*sz (bY T0) ci/18446744073709551616)*18446744073709551616+half*sz (bY T0) ci%18446744073709551616=half*sz (bY T0) ci:=Nat.div_add_mod' _ _;have ab3:half*sz (bY T0) ci/18446744073709551616<sz (bY T0) x:=by
   have:half*sz (bY T0) ci<18446744073709551616*sz (bY T0) ci:=Nat.mul_lt_mul_of_pos_right (by omega) Eu;have:half*sz (bY T0) ci/18446744073709551616<sz (bY T0) ci:=Nat.div_lt_of_lt_mul this;omega
  refine xx _ _ (sz (bY T0) x) (Nat.mod_lt _ (by omega)) (by omega) ab3 fun r w90 k90=>?_;rw [Vo];generalize hm:half*sz (bY T0) ci/sz (bY T0) x=more;have hmx:more*sz (bY T0) x<=half*sz (bY T0) ci:=by rw [<-hm];exact Nat.div_mul_le_self _ _
  have ajv:more<=half:=by
   rw [<-hm];apply Nat.div_le_of_le_mul;rw [Nat.mul_comm];exact Nat.mul_le_mul_right _ aaQ
  have D90:=D'.quiet k90;have aa1:=Row.aF hr k90 (fun _ _ h=>h);refine⟨_,_,rfl,WC,D90.D7 qP ?_⟩;rw [fW (x:=(sz (bY T0) ci:Int)+(more:Int)) (by omega) (by omega)];have zc:=fQ.bound (by omega) jK (by
   have h1:(((xd.ch.take k).map (sz (bY T0))).sum)<=(xd.ch.map (sz (bY T0))).sum:=by
    conv=>rhs;rw [<-List.take_append_drop k xd.ch,List.map_append,List.sum_append]
    omega
   omega)
  have kX:=fQ.lo;have h1:(((xd.ch.take k).map (sz (bY T0))).sum)<=(xd.ch.map (sz (bY T0))).sum:=by
   conv=>rhs;rw [<-List.take_append_drop k xd.ch,List.map_append,List.sum_append]
   omega
  refine vc D90.tv kl fQ.here Wo (by omega) (by simp only;omega) (by omega) (by simp only;omega) fun w96 L96 h96 k96=>⟨rfl,?_⟩;have D96:=D90.wrote k96 h96;have aaZ:=Row.aF aa1 k96 (fun k e e2=>(Wq k e).2 e2);intro w97;have htl:(xd.ch.take k).length<=1000000:=by rw [List.length_take];omega
  obtain⟨SC,Sq,RH,aaT,D99,Yb⟩:=D96.push (by rw [List.length_append];omega) ci (w1:=w97) rfl;have aaY:=Row.aF aaZ (Yb (fun k=>B1<=k) (fun k e=>(Row.bJ D96.rq e).1)) (fun k e e2=>by have:=D.hS k (Wq k e).1;have:=D.hB;omega);refine⟨SC,_,Sq,RH,aaT,?_⟩;rw [gP (x:=(k:Int)+1) (by omega) (by omega)];refine⟨(SC,nq+(k+1),Sq,((k+1:Nat):Int)),rfl,⟨k+1,_,_,L96,SC,Sq,rfl,B8,?_,fQ.step (more:=(more:Int)) LH yg YF kl (by omega) ?_ Eu,aaY⟩,by simp only;omega⟩
  ·rw [oF YF,<-List.append_assoc]
   exact D99
  ·have:((more*sz (bY T0) x:Nat):Int)<=((half*sz (bY T0) ci:Nat):Int):=by omega
   rwa [Int.natCast_mul,Int.natCast_mul]at this
 ·simp only at gE
  have:k=xd.ch.length:=by omega
  subst this;rw [aS,az.yz];rw [List.take_length]at D';exact hex w' T' f L' KM KH D' fQ
end
theorem H5:∀(n:Nat) (q:List Nat),q.Nodup->(∀y,y∈q->y<n)->q.length<=n:=by
 intro n
 induction n with
 |zero=>
  intro q _ h;cases q with
  |nil=>simp
  |cons a q=>exact absurd (h a (by simp)) (by omega)
 |succ n ih=>
  intro q hn h;by_cases hm:n∈q
  ·have h1:=List.length_erase_of_mem hm
   have h2:=ih (q.erase n) (hn.erase n) (fun y hy=>by
    have:=(List.Nodup.mem_erase_iff hn).1 hy;have:=h y this.2;omega)
   omega
  ·have:=ih q hn (fun y hy=>by
    have:=h y hy;have:y≠n:=fun e=>hm (e▸hy);omega)
   omega
section
variable{w0 w:World}{S:Nat->Prop}{g b c B0:Nat}{d:Int}{As:Option Addr}{L:List (Nd×Value)}{T:List Nd}{K:Value->World->Prop}
theorem Dp{T0:List Nd}{m:Nat}{md:Nd}
 (htv:TV w S g T0 d b c L) (hrs:Row w B0 jc 1 As T0.length T0.length (us (sz (bY T0)) T0.length)) (VL:Kept S w0 w) (hSB:∀k,S k->k<B0) (Uu:w0.heap.size<=B0) (hBw:B0<=w.heap.size)
 (hS:Shape T0) (hlen:T0.length<=1000000) (v7:T0[m]? =some md) (h1:1<=md.lo) (h2:md.hi<=4611686018427387904) (h3:(sz (bY T0) m:Int)<=md.hi-md.lo+1)
 (hK:∀w' T' q i,pC w' S g T' d->oz (bY T0) T0 m T' q i->q.length<=i->Kept S w0 w'->K (.tuple #[]) w'):
 az.cV (some ⟨g,0,none⟩) m As T0.length T0.length K w:=by
 have hP:=hS.par;have rO:=fi T0;have L5:m<T0.length:=(lgeS v7).1;unfold az.cV;intro kr;have oC:Kept Nil w kr:=(Kept.refl Nil w).alloc _;have nN:kr.heap[w.heap.size]? =some (.cells #[.int .i64 (m:Int)] j0 (0,0)):=aI w _;have D35:Dl w0 S g b c B0 w.heap.size T0.length (bY T0) d As kr T0 L (some ⟨w.heap.size,0,none⟩) 1 1 [m]:= {
  tv:=htv.kept oC
  rs:=Row.aF hrs oC (fun _ _ h=>h)
  sb:=fun k e=>by obtain⟨_,_,hc⟩:=Row.bJ hrs e;exact aV hc
  rq:=Row.made (n:=1) (cur:= #[.int .i64 (m:Int)]) nN (Nat.le_refl _) rfl (by decide)
  kp:=VL.trans oC (fun _ _ h=>h.elim)
  hS:=hSB
  hB:=hBw
  Jy:=oC.size
  h0:=Uu}
 clear_value kr;generalize Jy:w.heap.size=B1 at*;refine az.gS (I:=fun s w'=>∃(i:Nat) (T':List Nd) (L':List (Nd×Value)) (Aq:Option Addr) (nq cq:Nat) (q:List Nat),s=(Aq,nq,cq,(i:Int))/\i<=q.length/\
  Dl w0 S g b c B0 B1 T0.length (bY T0) d As w' T' L' Aq nq cq q/\oz (bY T0) T0 m T' q i)
  (μ:=fun s _=>((T0.length:Int)-s.2.2.2).toNat) (s:=(some ⟨B1,0,none⟩,1,1,0)) ⟨0,T0,L,_,1,1,[m],rfl,Nat.zero_le _,D35,oz.start (by omega) v7 h1 h2 h3⟩ ?_
 rintro s w' ⟨i,T',L',Aq,nq,cq,q,rfl,hi,D,hO⟩;have hnq:=D.K3;have Hc:q.length<=T0.length:=H5 _ _ hO.nodup (fun y hy=>by have:=(hO.pB y hy).lt;omega);refine Split.dec (fun cU=>?_) (fun gE=>?_)
 ·simp only at cU
  have dY:i<q.length:=by omega
  obtain⟨x,hqx⟩:∃x,q[i]? =some x:=⟨_,List.getElem?_eq_getElem dY⟩;have IM:x∈q:=List.mem_of_getElem? hqx;have uD:x<T0.length:=by have:=(hO.pB x IM).lt;omega
  obtain⟨xd,Kt⟩:=gv (T:=T') (i:=x) (by rw [hO.oG.len];exact uD);have uk:=hO.room x xd IM Kt;have jK:=vf hP (n:=x) (by omega);have aaM:=xJ (P:=bY T0) x;have hlT:T'.length=T0.length:=hO.oG.len;have jT:0<=(x:Int)/\(x:Int)<(T'.length:Int):=⟨by omega,by omega⟩;refine⟨⟨by simp only;omega,by simp only;omega⟩,D.Ti hqx ?_⟩;intro EZ;have SB:=D.quiet (w':=EZ) (Kept.refl Nil w').drew;clear_value EZ;obtain⟨v,hv⟩:=SB.tv.at_ Kt;obtain⟨wr,h50⟩:=SB.tv.vm hv (j:=4) (by omega) (u:=.int .u64 xd.lo) (nd':= {xd with free:=xd.lo}) rfl rfl;refine SB.tv.go (SB.tv.go ⟨jT,SB.tv.wm hv ⟨jT,by rw [pq];exact wr,?_⟩⟩);intro Kl Hu;have e50:Kl=EZ.setCell ⟨b,x*5+4,none⟩ (.int .u64 xd.lo):=by simp only [Kl,pq,Int.toNat_natCast]
  rw [<-e50]at h50;have RU:Kept (fun k=>k=b) EZ Kl:=by rw [e50];exact(Kept.refl (fun k=>k=b) EZ).setCell (p:=⟨b,x*5+4,none⟩) (fun _=>rfl) _
  have KL:=(SB.wrote RU h50).quiet (w':=Hu) (Kept.refl Nil Kl).drew;clear_value Hu;have v1:(L'.set x ({xd with free:=xd.lo},v))[x]? =some ({xd with free:=xd.lo},v):=iZ hv;obtain⟨XY,X4,hk⟩:=KL.tv.rD _ _ v1;have v8:(T'.set x {xd with free:=xd.lo}).length=T'.length:=by simp
  have Q1:0<=(x:Int)/\(x:Int)<((T'.set x {xd with free:=xd.lo}).length:Int):=by rw [v8];exact jT
  have YH:0<=(x:Int)/\(x:Int)<(T0.length:Int):=⟨by omega,by omega⟩;refine KL.tv.go ⟨Q1,KL.tv.Bt v1 (KL.tv.go ⟨Q1,KL.tv.wm v1 ⟨YH,KL.D7 uD (KL.tv.go ⟨Q1,KL.tv.Xm v1 hk.val ?_⟩)⟩⟩)⟩;have aaP:lX T0 (T'.set x {xd with free:=xd.lo}):=hO.oG.trans (lX.set (nd':= {xd with free:=xd.lo}) Kt rfl rfl);simp only;obtain⟨cur,Si⟩:=KL.tv.wK;generalize hhf:((xd.hi-xd.lo-((sz (bY T0) x:Int)-1)).toNat /2)=half;refine Dq (half:=half) (xd:= {xd with free:=xd.lo}) KL hS aaP hlen (by omega) (iZ Kt) rfl (by simp only;omega) (by simp only;omega) (by simp only;omega) ?_ hk.row (fun k e=>⟨hk.ly k e,fun e2=>hk.ne Si (by decide) (by rw [e,e2])⟩) ?_
  ·rw [fW (x:=xd.hi-xd.lo) (by omega) (by omega),fW (x:=(sz (bY T0) x:Int)-1) (by omega) (by omega),fW (x:=xd.hi-xd.lo-((sz (bY T0) x:Int)-1)) (by omega) (by omega),
    Int.tdiv_eq_ediv_of_nonneg (by omega),fW (by omega) (by omega)]
   omega
  ·intro w2 T2 f L2 SC Sq D2 fQ
   rw [gP (x:=(i:Int)+1) (by omega) (by omega)];refine⟨(SC,nq+xd.ch.length,Sq,((i+1:Nat):Int)),rfl,⟨i+1,T2,L2,SC,_,Sq,q++xd.ch,rfl,by rw [List.length_append];omega,D2,hO.step hS hqx Kt (by omega) (by omega) fQ⟩,by simp only;omega⟩
 ·simp only at gE
  rw [aS,az.jU];exact hK w' T' q i ⟨_,_,_,D.tv⟩ hO (by omega) D.kp
theorem TV.Zy(h:TV w S g T d b c L)(d':Int):Wr w ⟨g,1,none⟩/\TV (w.setCell ⟨g,1,none⟩ (.int .i64 d')) S g T d' b c L:=by
 have kG:Kept (fun k=>k=g) w (w.setCell ⟨g,1,none⟩ (.int .i64 d')):=(Kept.refl (fun k=>k=g) w).setCell (p:=⟨g,1,none⟩) (fun _=>rfl) _;refine⟨dS h.top (show 1<2 by omega),?_⟩;exact {
  top:=by
   have:=di h.top 1 (.int .i64 d');simpa using this
  fst:=h.fst
  row:=Row.aF h.row kG (fun k e e2=>h.gb (by cases e;exact e2.symm))
  rD:=fun i p hp=>by
   obtain⟨A,m,hk⟩:=h.rD i p hp;exact⟨A,m,hk.val,Row.aF hk.row kG (fun k e e2=>hk.ne h.top (by decide) (by rw [e,e2])),hk.ly⟩
  apart:=h.apart
  iB:=h.iB
  gC:=h.gC}
set_option maxRecDepth 100000 in
theorem Fg(h:pC w S g T d)(hS:Shape T)(hlen:T.length<=1000000){p:Nat}(hp:p<T.length)(hd:0<=d/\d<=1000000)
 (UJ:∀nd,T[0]? =some nd->nd.lo=1/\nd.hi=4611686018427387904)
 (Yy:∀y nd,T[y]? =some nd->kY (bY T) p y->Iv nd)
 (hK:∀w' T' m q i,pC w' S g T' (d+1)->kY (bY T) p m->oz (bY T) T m T' q i->q.length<=i->Kept S w w'->K (.tuple #[]) w'):
 bz prog az.id #[.pointer (some ⟨g,0,none⟩),.int .i64 p] w K:=by
 have hP:=hS.par;have rO:=fi T;obtain⟨b,c,L,h⟩:=h;have hb:=h.bound;obtain⟨wr,h6⟩:=hb.Zy (d+1);refine az.of (h.goD ⟨by rw [mZ];exact wr,?_⟩);intro w6;have e6:w6=w.setCell ⟨g,1,none⟩ (.int .i64 (d+1)):=by simp only [w6,mZ,gP (x:=d+1) (by omega) (by omega)]
 rw [<-e6]at h6;have k6:Kept (fun k=>S k/\k<w.heap.size) w w6:=by rw [e6];exact(Kept.refl _ w).setCell (p:=⟨g,1,none⟩) (fun _=>hb.iB) _
 have LJ:w.heap.size=w6.heap.size:=by rw [e6];simp
 clear_value w6;refine Ci ⟨_,_,_,h6⟩ hP hlen fun w8 As ZJ k8=>⟨_,_,_,rfl,?_⟩;have h8:=h6.kept k8;refine az.cy (I:=fun s w'=>∃m:Nat,s=(m:Int)/\kY (bY T) p m/\Kept Nil w8 w') (μ:=fun s _=>s.toNat) (s:=(p:Int)) ⟨p,rfl,.refl (by omega),Kept.refl _ _⟩ ?_;rintro s w' ⟨m,rfl,hu,kw⟩;have L5:m<T.length:=by have:=hu.X5;omega
 obtain⟨md,v7⟩:=gv L5;have hm:=Yy m md v7 hu;have NR:=hm.ZV;have Jh:=hm.le;have hm3:=hm.top;unfold az.B1;intro nn;have ui:Kept Nil w8 nn:=kw.drew;have EJ:=h8.kept ui;have D5:=Row.aF ZJ ui (fun _ _ h=>h);have jX:=lO v7;have aiJ:=xJ (P:=bY T) m;have y9:0<=(m:Int)/\(m:Int)<(T.length:Int):=⟨by omega,by omega⟩;obtain⟨v,hv⟩:=EJ.at_ v7;have done:(sz (bY T) m:Int)<=md.hi-md.lo+1->az.q1 K (.exit 0) [(0,.pointer (some ⟨g,0,none⟩)),(1,.int .i64 m),(4,.slice As T.length T.length)] nn:=by
  intro uk;rw [az.dq];have k8':Kept (fun k=>S k/\k<w.heap.size) w nn:=(k6.trans k8 (fun _ _ h=>h.elim)).trans ui (fun _ _ h=>h.elim);refine Dp EJ (B0:=w.heap.size) (Row.base D5 (fun k e=>by rw [LJ];exact(Row.bJ D5 e).1)) k8' (fun k h=>h.2) (Nat.le_refl _) k8'.size hS hlen v7 NR hm3 uk ?_;intro w2 T2 q i h2 hO hq k2;exact hK w2 T2 m q i (h2.mono (fun k h=>h.1)) hu hO hq (k2.mono (fun k _ h=>h.1))
 refine EJ.go ⟨y9,EJ.JE hv (Split.dec (fun jK=>?_) (fun y7=>?_))⟩
 ·obtain⟨bs,YH⟩:=Row.some D5 (by omega)
  subst YH;refine EJ.go ⟨y9,EJ.Bt hv (EJ.go ⟨y9,EJ.wm hv ⟨by decide,y9,_,by rw [mZ,Int.toNat_natCast,Nat.mul_one];exact Row.cell D5 (pE _ L5),?_⟩⟩)⟩;rw [fW (x:=md.hi-md.lo) (by omega) (by omega),fW (x:=md.hi-md.lo+1) (by omega) (by omega),Int.tdiv_eq_ediv_of_nonneg (by omega),fW (x:=(md.hi-md.lo+1)/4) (by omega) (by omega)];refine Split.dec (fun cU=>?_) (fun gE=>?_)
  ·have Sc:0<m:=by
    rcases Nat.eq_zero_or_pos m with rfl|h
    ·rw [hP.root]at jX;have:=Option.some.inj jX;omega
    ·exact h
   obtain⟨z,hz,ez⟩:=hP.up m _ Sc jX;refine EJ.go ⟨y9,EJ.JE hv ?_⟩;rw [ez];exact⟨(z:Int),rfl,⟨z,rfl,hu.trans (.step (by rw [jX,ez]) (.refl (by omega))),ui⟩,by simp only;omega⟩
  ·rw [aS]
   exact done (by omega)
 ·have Sc:m=0:=by
   rcases Nat.eq_zero_or_pos m with h|h
   ·exact h
   ·obtain⟨z,_,ez⟩:=hP.up m _ h jX
    omega
  subst Sc;have:=UJ md v7;rw [aS];exact done (by omega)
end
structure xG(T:List Nd):Prop extends Good T where
 root:∀nd,T[0]? =some nd->nd.lo=1/\nd.hi=4611686018427387904
theorem Ct:xG qW:=by
 have gU:∀(i:Nat) nd,qW[i]? =some nd->i=0/\nd=⟨-1,[],1,4611686018427387904,1⟩:=by
  intro i nd h;cases i with
  |zero=>simp [qW]at h;exact⟨rfl,h.symm⟩
  |succ i=>simp [qW]at h
 exact {
  par:=⟨rfl,fun i p hi h=>by
   cases i with
   |zero=>omega
   |succ i=>simp [bY,qW]at h⟩
  ch:=fun i nd h=>by
   obtain⟨rfl,rfl⟩:=gU i nd h;simp [kids,bY,qW]
  iv:=fun i nd h=>by
   obtain⟨rfl,rfl⟩:=gU i nd h;exact⟨by decide,by decide,by decide⟩
  loc:=fun i nd h=>by
   obtain⟨rfl,rfl⟩:=gU i nd h;exact⟨by decide,by decide,fun c cd hc=>by simp at hc,fun c c' cd wF hc=>by simp at hc⟩
  root:=fun nd h=>by
   obtain⟨_,rfl⟩:=gU 0 nd h;exact⟨rfl,rfl⟩}
section
variable{T:List Nd}{p:Nat}{pd:Nd}
theorem GW(hp:T[p]? =some pd)(i:Nat):(added T p pd)[i]? =if i=p then some {pd with ch:=pd.ch++ [T.length],free:=pd.free+jz pd}else if i=T.length then some ⟨p,[],pd.free,pd.free+jz pd-1,pd.free⟩else T[i]? :=by
 have cU:p<T.length:=(lgeS hp).1;unfold added;rw [yl (by rw [jL hp,if_neg (by omega),if_pos rfl]) (by rw [jL hp,if_pos rfl]) (by omega),jL hp];split
 ·rfl
 ·split
  ·rfl
  ·rfl
theorem wM(hp:T[p]? =some pd):lX (grown T p pd) (added T p pd):=by
 have cU:p<T.length:=(lgeS hp).1;exact wj _ (by rw [jL hp,if_neg (by omega),if_pos rfl]) (by rw [jL hp,if_pos rfl]) (by omega)
theorem Shape.Rs(h:Shape T){i:Nat}{nd:Nd}(hi:T[i]? =some nd){c:Nat}(hc:c∈nd.ch):i<c/\c<T.length:=by
 rw [h.ch i nd hi]at hc;have:=iD h.par hc
 rwa [fi]at this
theorem xG.added(h:xG T)(hp:T[p]? =some pd)(uk:pd.free<pd.hi):xG (added T p pd):=by
 have cU:p<T.length:=(lgeS hp).1;have gU:=GW hp;have PX:=h.iv p pd hp;have i1:=PX.ZV;have i2:=PX.le;have i3:=PX.top;have lp:=h.loc p pd hp;have l1:=lp.Hi;have l2:=lp.Dn;have hh1:1<=jz pd:=by unfold jz;omega
 have hh2:pd.free+jz pd<=pd.hi:=by unfold jz;omega
 have hold:∀(c:Nat) cd,c<T.length->(Go.Proofs.YtfleamccglihoaaGreatDoor.Tr.added T p pd)[c]? =some cd->∃ed,T[c]? =some ed/\ed.lo=cd.lo/\ed.hi=cd.hi:=by
  intro c cd hc kl;rw [gU]at kl;by_cases e:c=p
  ·subst e
   rw [if_pos rfl]at kl;cases kl;exact⟨pd,hp,rfl,rfl⟩
  ·rw [if_neg e,if_neg (by omega)]at kl
   exact⟨cd,kl,rfl,rfl⟩
 have nN:∀cd,(Go.Proofs.YtfleamccglihoaaGreatDoor.Tr.added T p pd)[T.length]? =some cd->cd=⟨p,[],pd.free,pd.free+jz pd-1,pd.free⟩:=by
  intro cd kl;rw [gU,if_neg (by omega),if_pos rfl]at kl;exact(Option.some.inj kl).symm
 have aF:∀(i:Nat) nd,T[i]? =some nd->Loc (Go.Proofs.YtfleamccglihoaaGreatDoor.Tr.added T p pd) nd:=by
  intro i nd hi;have hl:=h.loc i nd hi;have hc:=fun c hc=>(h.toShape.Rs hi (c:=c) hc).2;exact {
   Hi:=hl.Hi
   Dn:=hl.Dn
   sub:=fun c cd nO kl=>by
    obtain⟨ed,h1,h2,h3⟩:=hold c cd (hc c nO) kl;have:=hl.sub c ed nO h1;omega
   ord:=fun c c' cd wF nO pf yh kl rH=>by
    obtain⟨ed,h1,h2,h3⟩:=hold c cd (hc c nO) kl;obtain⟨Rq,rQ,sP,Cb⟩:=hold c' wF (hc c' pf) rH;have:=hl.ord c c' ed Rq nO pf yh h1 rQ;omega}
 have hs:=(wM hp).shape (h.toShape.grown hp);refine {toShape:=hs,iv:=?_,loc:=?_,root:=?_}
 ·intro i nd hi
  rw [gU]at hi;by_cases e:i=p
  ·rw [if_pos e]at hi
   cases hi;exact⟨i1,i2,i3⟩
  ·rw [if_neg e]at hi
   by_cases e2:i=T.length
   ·rw [if_pos e2]at hi
    cases hi;exact⟨by simp only;omega,by simp only;omega,by simp only;omega⟩
   ·rw [if_neg e2]at hi
    exact h.iv i nd hi
 ·intro i nd hi
  rw [gU]at hi;by_cases e:i=p
  ·rw [if_pos e]at hi
   cases hi;have kp:=aF p pd hp;have hc:=fun c hc=>(h.toShape.Rs hp (c:=c) hc).2;exact {
    Hi:=by simp only;omega
    Dn:=hh2
    sub:=fun c cd nO kl=>by
     simp only at nO;rcases List.mem_append.1 nO with nO|nO
     ·have:=kp.sub c cd nO kl
      simp only;omega
     ·simp at nO
      subst nO;have:=nN cd kl;subst this;simp only;omega
    ord:=fun c c' cd wF nO pf yh kl rH=>by
     simp only at nO pf;rcases List.mem_append.1 nO with nO|nO
     ·rcases List.mem_append.1 pf with pf|pf
      ·exact kp.ord c c' cd wF nO pf yh kl rH
      ·simp at pf
       subst pf;have:=nN wF rH;subst this;exact(kp.sub c cd nO kl).2
     ·simp at nO
      rcases List.mem_append.1 pf with pf|pf
      ·have:=hc c' pf
       omega
      ·simp at pf
       omega}
  ·rw [if_neg e]at hi
   by_cases e2:i=T.length
   ·rw [if_pos e2]at hi
    cases hi;exact⟨by simp only;omega,by simp only;omega,fun c cd hc=>by simp at hc,fun c c' cd wF hc=>by simp at hc⟩
   ·rw [if_neg e2]at hi
    exact aF i nd hi
 ·intro nd hi
  obtain⟨ed,h1,h2,h3⟩:=hold 0 nd h.toShape.pos hi;have:=h.root ed h1;omega
theorem xG.JL(h:xG T)(hp:T[p]? =some pd){m i:Nat}{T':List Nd}{q:List Nat}(hu:kY (bY (grown T p pd)) p m)
 (hO:oz (bY (grown T p pd)) (grown T p pd) m T' q i) (hq:q.length<=i):xG T':=by
 have cU:p<T.length:=(lgeS hp).1;have gU:=jL hp;have hS:=h.toShape.grown hp;have hP:=hS.par;have hold:∀(c:Nat) cd,c<T.length->(grown T p pd)[c]? =some cd->∃ed,T[c]? =some ed/\ed.lo=cd.lo/\ed.hi=cd.hi:=by
  intro c cd hc kl;rw [gU]at kl;by_cases e:c=p
  ·subst e
   rw [if_pos rfl]at kl;cases kl;exact⟨pd,hp,rfl,rfl⟩
  ·rw [if_neg e,if_neg (by omega)]at kl
   exact⟨cd,kl,rfl,rfl⟩
 have Sa:(bY (grown T p pd))[T.length]? =some (p:Int):=by
  rw [mS hp,List.getElem?_append_right (by rw [fi];exact Nat.le_refl _)];simp [fi]
 have fk:=oz.fin hS hO hq (fun y nd hy hn=>by
  rw [gU]at hy;have e:y≠p:=fun e=>hn (e▸hu);rw [if_neg e]at hy;have e2:y≠T.length:=fun e=>hn (e▸ .step Sa hu);rw [if_neg e2]at hy;refine⟨h.iv y nd hy,?_⟩;have hl:=h.loc y nd hy;have hc:=fun c hc=>(h.toShape.Rs hy (c:=c) hc).2;exact {
   Hi:=hl.Hi
   Dn:=hl.Dn
   sub:=fun c cd nO kl=>by
    obtain⟨ed,h1,h2,h3⟩:=hold c cd (hc c nO) kl;have:=hl.sub c ed nO h1;omega
   ord:=fun c c' cd wF nO pf yh kl rH=>by
    obtain⟨ed,h1,h2,h3⟩:=hold c cd (hc c nO) kl;obtain⟨Rq,rQ,sP,Cb⟩:=hold c' wF (hc c' pf) rH;have:=hl.ord c c' ed Rq nO pf yh h1 rQ;omega})
 refine {toGood:=fk,root:=fun nd hi=>?_};obtain⟨gd,hgd,_⟩:=hO.oG.back hi;obtain⟨ed,h1,h2,h3⟩:=hold 0 gd h.toShape.pos hgd;have hr:=h.root ed h1;by_cases hm:0∈q
 ·have:=(hO.pB 0 hm).le hP
  have Sc:m=0:=by omega
  subst Sc;have:=hO.top gd nd hgd hi;omega
 ·rw [hO.rest 0 hm,hgd]at hi
  cases hi;omega
end
section
variable{w:World}{S:Nat->Prop}{g:Nat}{T:List Nd}{d:Int}{K:Value->World->Prop}
theorem HD(h:pC w S g T d)(hF:xG T){p:Nat}(hp:p<T.length)(hlen:T.length<=900000)(hd:0<=d/\d<=900000)
 (hK:∀w' S' T' d',pC w' S' g T' d'->xG T'->bY T'=bY T++ [(p:Int)]->d<=d'/\d'<=d+1->Kept S w w'->(∀k,S' k->S k\/w.heap.size<=k)->K (.tuple #[.int .i64 T.length,.int .i64 0]) w'):
 bz prog gJ.id #[.pointer (some ⟨g,0,none⟩),.int .i64 p] w K:=by
 obtain⟨pd,y0⟩:=gv hp;have PX:=hF.iv p pd y0;have i1:=PX.ZV;have i2:=PX.le;have i3:=PX.top;have lp:=hF.loc p pd y0;have l1:=lp.Hi;have l2:=lp.Dn;have mz:pd.ch.length<=T.length:=by
  rw [hF.ch p pd y0];have:=AR (bY T) p
  rwa [fi]at this
 refine vd h y0 (by omega) (by omega) (by omega) l2 i3 (fun uk w' S' h' k' f'=>?_) (fun af6 w' S' h' k' f'=>?_)
 ·exact hK w' S' _ d h' (hF.added y0 uk) (by rw [(wM y0).bY,mS y0]) ⟨by omega,by omega⟩ k' f'
 ·have hS:=hF.toShape.grown y0
  have gU:=jL y0;have jX:=hS.par;refine Fg h' hS (by rw [yk];omega) (by rw [yk];omega) ⟨hd.1,by omega⟩ (fun nd hi=>?_) (fun y nd hy hu=>?_) (fun w2 T2 m q i h2 hu hO hq k2=>⟨rfl,?_⟩)
  ·rw [gU]at hi
   by_cases e:0=p
   ·rw [if_pos e]at hi
    cases hi;exact hF.root pd (by rw [e];exact y0)
   ·rw [if_neg e,if_neg (by omega)]at hi
    exact hF.root nd hi
  ·have:=hu.le jX
   rw [gU]at hy;by_cases e:y=p
   ·rw [if_pos e]at hy
    cases hy;exact⟨i1,i2,i3⟩
   ·rw [if_neg e,if_neg (by omega)]at hy
    exact hF.iv y nd hy
  ·refine hK w2 S' T2 (d+1) h2 (hF.JL y0 hu hO hq) (by rw [hO.oG.bY,mS y0]) ⟨by omega,by omega⟩ ?_ f'
   exact k'.trans k2 (fun k hk hs=>by
    rcases f' k hs with h|h
    ·exact h
    ·omega)
end
def zs(l:List Int):List Value:=l.map fun x=>.int .i64 x
section
variable{w w':World}{S S':Nat->Prop}{h:Nat}{P:List Int}{b c:Nat}{K:Value->World->Prop}
end
def jh(P:List Int)(n i:Nat):List Nat:=(List.range i).filter fun j=>P[j]? ==some (n:Int)
section
variable{w w':World}{S S':Nat->Prop}{h:Nat}{P:List Int}{b c:Nat}{K:Value->World->Prop}
end
section
variable{w w':World}{S S':Nat->Prop}{g:Nat}{T:List Nd}{d:Int}{K:Value->World->Prop}
end
end Go.Proofs.YtfleamccglihoaaGreatDoor.Tr
