import Derived.Test.YtfleamccglihoaaGreatDoorMA
import Derived.Test.YtfleamccglihoaaGreatDoorMD
import Derived.Laws.OwnMore
import Derived.Test.YtfleamccglihoaaGreatDoorMG
import Derived.Laws.Bits64b
open Go.IntKind (i64 u64)
set_option linter.unusedVariables false
namespace Go.Proofs.YtfleamccglihoaaGreatDoor.Tr
open Go.Proofs.Tryz
open Go Go.bE Go.RowKit
structure Nd where
 parent:Int
 ch:List Nat
 lo:Int
 hi:Int
 free:Int
def iD(nd:Nd)(v:Value):List Value:= [.int .i64 nd.parent,v,.int .u64 nd.lo,.int .u64 nd.hi,.int .u64 nd.free]
def mS(L:List (Nd×Value)):List Value:=L.flatMap fun p=>iD p.1 p.2
def ints(l:List Nat):List Value:=l.map fun x:Nat=>.int .i64 (x:Int)
theorem q6(L:List (Nd×Value)):(mS L).length=L.length*5:=by
 induction L with
 |nil=>rfl
 |cons p L ih=>simp only [mS,List.flatMap_cons,List.length_append,List.length_cons]at*;rw [ih];simp [iD];omega
theorem E8{L:List (Nd×Value)}{i:Nat}{p:Nd×Value}(h:L[i]? =some p){j:Nat}(hj:j<5):(mS L)[i*5+j]? =(iD p.1 p.2)[j]? :=by
 induction L generalizing i with
 |nil=>simp at h
 |cons q L ih=>
  have hq:(iD q.1 q.2).length=5:=rfl;cases i with
  |zero=>
   simp at h;subst h;simp only [mS,List.flatMap_cons];rw [Nat.zero_mul,Nat.zero_add,List.getElem?_append_left (by omega)]
  |succ i=>
   simp at h;have:=ih h;simp only [mS,List.flatMap_cons]at*;rw [List.getElem?_append_right (by omega),hq,<-this]
   congr 1
   omega
theorem xF{L:List (Nd×Value)}{i:Nat}{p p':Nd×Value}(h:L[i]? =some p){j:Nat}(hj:j<5){v:Value}(hp:iD p'.1 p'.2=(iD p.1 p.2).set j v):
 (mS L).set (i*5+j) v=mS (L.set i p'):=by
 induction L generalizing i with
 |nil=>simp at h
 |cons q L ih=>
  have hq:(iD q.1 q.2).length=5:=rfl;cases i with
  |zero=>
   simp at h;subst h;simp only [mS,List.flatMap_cons,List.set_cons_zero];rw [Nat.zero_mul,Nat.zero_add,List.set_append_left _ _ (by omega),hp]
  |succ i=>
   simp at h;have:=ih h;simp only [mS,List.flatMap_cons,List.set_cons_succ]at*;rw [List.set_append_right _ _ (by omega),hq,<-this]
   congr 2
   omega
structure Rq(w:World)(S:Nat->Prop)(p:Nd×Value)(A:Option Addr)(m:Nat):Prop where
 val:p.2=.slice A p.1.ch.length m
 row:Row w 0 fE 1 A p.1.ch.length m (ints p.1.ch)
 jc:∀k,bp A=some k->S k
structure TV(w:World)(S:Nat->Prop)(g:Nat)(T:List Nd)(d:Int)(b c:Nat)(L:List (Nd×Value)):Prop where
 top:w.heap[g]? =some (.cells #[.slice (some ⟨b,0,none⟩) T.length c,.int .i64 d] ri (0,0))
 fst:L.map Prod.fst=T
 row:Row w 0 iz 5 (some ⟨b,0,none⟩) T.length c (mS L)
 oW:∀(i:Nat) (p:Nd×Value),L[i]? =some p->∃A m,Rq w S p A m
 apart:∀(i j:Nat) (p q:Nd×Value),L[i]? =some p->L[j]? =some q->i≠j->∀k,Value.ownBlock p.2=some k->Value.ownBlock q.2≠some k
 gg:S g
 fh:S b
def nh(w:World)(S:Nat->Prop)(g:Nat)(T:List Nd)(d:Int):Prop:=∃b c L,TV w S g T d b c L
section
variable{w w':World}{S S':Nat->Prop}{g:Nat}{T:List Nd}{d:Int}{b c:Nat}{L:List (Nd×Value)}
theorem TV.at_(h:TV w S g T d b c L){i:Nat}{nd:Nd}(hi:T[i]? =some nd):∃v,L[i]? =some (nd,v):=by
 rw [<-h.fst,List.getElem?_map]at hi;cases hL:L[i]? with
 |none=>simp [hL]at hi
 |some p=>
  rw [hL]at hi;simp at hi;exact⟨p.2,by rw [<-hi]⟩
theorem TV.nodes(h:TV w S g T d b c L):w.cell? ⟨g,0,none⟩=some (.slice (some ⟨b,0,none⟩) T.length c):=by rw [aD h.top];rfl
theorem TV.Fb(h:TV w S g T d b c L):w.cell? ⟨g,1,none⟩=some (.int .i64 d):=by rw [aD h.top];rfl
theorem TV.cell(h:TV w S g T d b c L){i:Nat}{p:Nd×Value}(hi:L[i]? =some p){j:Nat}{v:Value}(hj:j<5)(hv:(iD p.1 p.2)[j]? =some v):w.cell? ⟨b,i*5+j,none⟩=some v:=
 Row.cell h.row (by rw [E8 hi hj,hv])
theorem TV.gb(h:TV w S g T d b c L):g≠b:=by
 rintro rfl;obtain⟨_,cur,hc⟩:=Row.bS h.row (k:=g) rfl;rw [h.top]at hc;injection hc with hc;injection hc with _ ht;exact absurd ht (by decide)
theorem Rq.ne{p:Nd×Value}{A:Option Addr}{m:Nat}(h:Rq w S p A m){k:Nat}{cs:Array Value}{t:TypeId}(hk:w.heap[k]? =some (.cells cs t (0,0)))(ht:t≠fE):bp A≠some k:=by
 intro e;obtain⟨_,cur,hc⟩:=Row.bS h.row e;rw [hk]at hc;injection hc with hc;injection hc with _ h2;exact ht h2
theorem TV.tz(h:TV w S g T d b c L):∃cur,w.heap[b]? =some (.cells cur iz (0,0)):=(Row.bS h.row rfl).2
theorem TV.aK{S0:Nat->Prop}(h:TV w S g T d b c L)(hk:Kept S0 w w')(hn:∀k,S k->¬S0 k):TV w' S g T d b c L:= {
 top:=hk.heap h.top (hn g h.gg)
 fst:=h.fst
 row:=Row.aK h.row hk (fun k e=>by cases e;exact hn b h.fh)
 oW:=fun i p hp=>let ⟨A,m,h1⟩:=h.oW i p hp;⟨A,m,h1.val,Row.aK h1.row hk (fun k e=>hn k (h1.jc k e)),h1.jc⟩
 apart:=h.apart
 gg:=h.gg
 fh:=h.fh}
theorem nh.aK{S0:Nat->Prop}(h:nh w S g T d)(hk:Kept S0 w w')(hn:∀k,S k->¬S0 k):nh w' S g T d:=
 let ⟨b,c,L,h⟩:=h;⟨b,c,L,h.aK hk hn⟩
theorem nh.same(h:nh w S g T d)(hk:Kept Nil w w'):nh w' S g T d:=h.aK hk fun _ _ h=>h
theorem TV.lt(h:TV w S g T d b c L):g<w.heap.size:=bf h.top
theorem TV.r3(h:TV w S g T d b c L){i:Nat}{nd nd':Nd}{v:Value}(hi:L[i]? =some (nd,v)){j:Nat}(hj:j<5){u:Value}
 (hc:iD nd' v=(iD nd v).set j u) (mR:nd'.ch=nd.ch):
 Wr w ⟨b,i*5+j,none⟩/\TV (w.setCell ⟨b,i*5+j,none⟩ u) S g (T.set i nd') d b c (L.set i (nd',v)):=by
 have fg:i<L.length:=(lgeS hi).1;have cK:i*5+j<(mS L).length:=by rw [q6];omega
 refine⟨Row.wr h.row cK,?_⟩;have fW:=Row.set h.row cK u;rw [xF hi hj (p':=(nd',v)) hc]at fW;have hK:Kept (fun k=>k=b) w (w.setCell ⟨b,i*5+j,none⟩ u):=(Kept.refl (fun k=>k=b) w).setCell (p:=⟨b,i*5+j,none⟩) (fun _=>rfl) u;have fu:∀(k:Nat) (p:Nd×Value),(L.set i (nd',v))[k]? =some p->∃q,L[k]? =some q/\q.2=p.2/\q.1.ch=p.1.ch:=by
  intro k p hp;rw [List.getElem?_set]at hp;by_cases e:i=k
  ·subst e
   rw [if_pos rfl,if_pos fg]at hp;cases hp;exact⟨_,hi,rfl,mR.symm⟩
  ·rw [if_neg e]at hp
   exact⟨p,hp,rfl,rfl⟩
 exact {
  top:=by rw [List.length_set];exact hK.heap h.top h.gb
  fst:=by rw [List.map_set,h.fst]
  row:=by rw [List.length_set];exact fW
  oW:=fun k p hp=>by
   obtain⟨q,hq,h1,h2⟩:=fu k p hp;obtain⟨A,m,hk⟩:=h.oW k q hq;obtain⟨cur,hb⟩:=h.tz;refine⟨A,m,by rw [<-h1,<-h2];exact hk.val,?_,hk.jc⟩;rw [<-h2];exact Row.aK hk.row hK (fun k e e2=>hk.ne hb (by decide) (by rw [e,e2]))
  apart:=fun k l p q hp hq CZ=>by
   obtain⟨p',G9,h1,_⟩:=fu k p hp;obtain⟨q',G6,h2,_⟩:=fu l q hq;rw [<-h1,<-h2];exact h.apart k l p' q' G9 G6 CZ
  gg:=h.gg
  fh:=h.fh}
end
theorem mW(b x y:Nat):((⟨b,0,none⟩:Addr).add x).add y=⟨b,x+y,none⟩:=by rw [bu,bu,Nat.zero_add]
theorem kZ(b x:Nat):(⟨b,0,none⟩:Addr).add x=⟨b,x,none⟩:=by rw [bu,Nat.zero_add]
section
variable{w:World}{S:Nat->Prop}{g:Nat}{T:List Nd}{d:Int}{b c:Nat}{L:List (Nd×Value)}
theorem TV.go(h:TV w S g T d b c L){k:Option Addr->Nat->Nat->Prop}(hk:k (some ⟨b,0,none⟩) T.length c):
 ∃A n m,w.cell? ((⟨g,0,none⟩:Addr).add 0)=some (.slice A n m)/\k A n m:=⟨_,_,_,by rw [kZ];exact h.nodes,hk⟩
theorem TV.goD(h:TV w S g T d b c L){k:Int->Prop}(hk:k d):∃t,w.cell? ((⟨g,0,none⟩:Addr).add 1)=some (.int .i64 t)/\k t:=
 ⟨_,by rw [kZ];exact h.Fb,hk⟩
theorem TV.E1(h:TV w S g T d b c L){i:Nat}{nd:Nd}{v:Value}(hi:L[i]? =some (nd,v)){k:Int->Prop}(hk:k nd.parent):
 ∃t,w.cell? (((⟨b,0,none⟩:Addr).add (i*5)).add 0)=some (.int .i64 t)/\k t:=⟨_,by rw [mW];exact h.cell hi (by omega) rfl,hk⟩
theorem TV.QW(h:TV w S g T d b c L){i:Nat}{nd:Nd}{v:Value}(hi:L[i]? =some (nd,v)){A:Option Addr}{m:Nat}(hv:v=.slice A nd.ch.length m){k:Option Addr->Nat->Nat->Prop}(hk:k A nd.ch.length m):
 ∃A n m,w.cell? (((⟨b,0,none⟩:Addr).add (i*5)).add 1)=some (.slice A n m)/\k A n m:=⟨_,_,_,by rw [mW];exact h.cell hi (by omega) (by rw [hv];rfl),hk⟩
theorem TV.sV(h:TV w S g T d b c L){i:Nat}{nd:Nd}{v:Value}(hi:L[i]? =some (nd,v)){k:Int->Prop}(hk:k nd.lo):
 ∃t,w.cell? (((⟨b,0,none⟩:Addr).add (i*5)).add 2)=some (.int .u64 t)/\k t:=⟨_,by rw [mW];exact h.cell hi (by omega) rfl,hk⟩
theorem TV.xC(h:TV w S g T d b c L){i:Nat}{nd:Nd}{v:Value}(hi:L[i]? =some (nd,v)){k:Int->Prop}(hk:k nd.hi):
 ∃t,w.cell? (((⟨b,0,none⟩:Addr).add (i*5)).add 3)=some (.int .u64 t)/\k t:=⟨_,by rw [mW];exact h.cell hi (by omega) rfl,hk⟩
theorem TV.vE(h:TV w S g T d b c L){i:Nat}{nd:Nd}{v:Value}(hi:L[i]? =some (nd,v)){k:Int->Prop}(hk:k nd.free):
 ∃t,w.cell? (((⟨b,0,none⟩:Addr).add (i*5)).add 4)=some (.int .u64 t)/\k t:=⟨_,by rw [mW];exact h.cell hi (by omega) rfl,hk⟩
theorem TV.kept{w':World}(h:TV w S g T d b c L)(hk:Kept Nil w w'):TV w' S g T d b c L:=h.aK hk fun _ _ h=>h
end
section
variable{w:World}{S:Nat->Prop}{g:Nat}{T:List Nd}{d:Int}{K:Value->World->Prop}
theorem vg(h:nh w S g T d)(n:Int)(hK:K (.bool (decide (0<=n/\n<T.length))) w):
 bm prog gD.id #[.pointer (some ⟨g,0,none⟩),.int .i64 n] w K:=by
 obtain⟨b,c,L,h⟩:=h;refine gD.of (Split.yes rfl (Split.dec (fun h0=>h.go ?_) (fun h0=>?_)))
 ·rwa [show decide (0<=n/\n<(T.length:Int))=decide (n<(T.length:Int))from by simp [show(0:Int)<=n from h0]]at hK
 ·rwa [decide_eq_false (fun e:0<=n/\n<(T.length:Int)=>h0 e.1)]at hK
theorem Dn(h:nh w S g T d)(hT:0<T.length)(n:Int)(hK:K (.int .i64 (if 0<=n/\n<T.length then 0 else 6)) w):
 bm prog fw.id #[.pointer (some ⟨g,0,none⟩),.int .i64 n] w K:=by
 have h0:=h;obtain⟨b,c,L,h⟩:=h;refine fw.of (Split.no rfl (h.go (Split.no (beq_eq_false_iff_ne.2 (by omega)) (vg h0 n ⟨_,rfl,?_⟩))));by_cases hn:0<=n/\n<(T.length:Int)
 ·rw [if_pos hn]at hK
  exact Split.no (by simp [hn]) hK
 ·rw [if_neg hn]at hK
  exact Split.yes (by simp only [decide_eq_false hn];rfl) hK
theorem qI(h:nh w S g T d){n:Nat}(hn:n<T.length)(hK:K (.int .i64 0) w):
 bm prog fw.id #[.pointer (some ⟨g,0,none⟩),.int .i64 n] w K:=Dn h (by omega) n (by rw [if_pos ⟨by omega,by omega⟩];exact hK)
theorem Bm(h:nh w S g T d){n:Nat}{nd:Nd}(hn:T[n]? =some nd)(hK:∀w',Kept Nil w w'->K (.int .u64 (u64.wrap (nd.hi-nd.free))) w'):
 bm prog eB.id #[.pointer (some ⟨g,0,none⟩),.int .i64 n] w K:=by
 obtain⟨b,c,L,h⟩:=h;have cK:n<T.length:=(lgeS hn).1;obtain⟨v,hv⟩:=h.at_ hn;refine eB.of ?_;unfold eB.W;intro w1;have k1:Kept Nil w w1:=(Kept.refl Nil w).drew;have h1:=h.kept k1;have hb:0<=(n:Int)/\(n:Int)<(T.length:Int):=⟨by omega,by omega⟩;exact h1.go ⟨hb,h1.xC hv (h1.go ⟨hb,h1.vE hv (hK w1 k1)⟩)⟩
theorem wi(h:nh w S g T d){n:Nat}{nd:Nd}(hn:T[n]? =some nd)(h0:0<n)(hK:K (.tuple #[.int .i64 nd.parent,.int .i64 0]) w):
 bm prog dW.id #[.pointer (some ⟨g,0,none⟩),.int .i64 n] w K:=by
 have cK:n<T.length:=(lgeS hn).1;refine dW.of (qI h cK ⟨_,rfl,Split.yes rfl (Split.no (beq_eq_false_iff_ne.2 (by omega)) (Split.no rfl ?_))⟩);obtain⟨b,c,L,h⟩:=h;obtain⟨v,hv⟩:=h.at_ hn;exact h.go ⟨⟨by omega,by omega⟩,h.E1 hv hK⟩
theorem HZ:AZ prog iA fE 1 8:=⟨by kernel_rfl,by kernel_rfl⟩
theorem Dv:AZ prog gA iz 5 56:=⟨by kernel_rfl,by kernel_rfl⟩
end
theorem dY{x:Int}(h0:0<=x)(h1:x<18446744073709551616):u64.wrap x=x:=by
 simp only [IntKind.wrap,IntKind.bits,IntKind.signed];simp;omega
theorem iI{x:Int}(h0: -9223372036854775808<=x)(h1:x<9223372036854775808):i64.wrap x=x:=by
 simp only [IntKind.wrap,IntKind.bits,IntKind.signed];simp;omega
def sS(T:List Nd)(n p:Nat)(nd pd:Nd)(many:Int):List Nd:=
 (T.set n {nd with lo:=pd.free,hi:=pd.free+many-1,free:=pd.free}).set p {pd with free:=pd.free+many}
section
variable{w:World}{S:Nat->Prop}{g:Nat}{T:List Nd}{d:Int}{K:Value->World->Prop}
theorem gJ{α:Type}{L:List α}{i:Nat}{x y:α}(h:L[i]? =some x):(L.set i y)[i]? =some y:=by
 rw [List.getElem?_set_self (lgeS h).1]
theorem mz{α:Type}{L:List α}{i j:Nat}{x y:α}(h:L[j]? =some x)(fJ:i≠j):(L.set i y)[j]? =some x:=by
 rw [List.getElem?_set_ne fJ];exact h
theorem rU{b c:Nat}{L:List (Nd×Value)}(h:TV w S g T d b c L){n p:Nat}{nd pd:Nd}{many:Int}(hn:T[n]? =some nd)(hp:T[p]? =some pd)(Mv:nd.parent=p)(fJ:n≠p)
 (hf:0<=pd.free) (hm:1<=many) (Zs:pd.free+many<18446744073709551616)
 (hK:∀w' L',TV w' S g (sS T n p nd pd many) d b c L'->Kept (fun k=>k=b) w w'->K (.tuple #[]) w'):
 bm prog eE.id #[.pointer (some ⟨g,0,none⟩),.int .i64 n,.int .u64 many] w K:=by
 have UW:n<T.length:=(lgeS hn).1;have rM:p<T.length:=(lgeS hp).1;obtain⟨v,hv⟩:=h.at_ hn;obtain⟨u,hu⟩:=h.at_ hp;have VV:0<=(n:Int)/\(n:Int)<(T.length:Int):=⟨by omega,by omega⟩;have IY:0<=nd.parent/\nd.parent<(T.length:Int):=by rw [Mv];exact⟨by omega,by omega⟩
 refine eE.of (h.go ⟨VV,Is.mk rfl ?_⟩);intro w7;have k7:Kept (fun k=>k=b) w w7:=(Kept.refl _ w).drew;have h7:TV w7 S g T d b c L:=h.kept (Kept.refl Nil w).drew;refine h7.go (h7.E1 hv ⟨IY,Is.mk rfl ?_⟩);rw [Mv];refine h7.vE hu ?_;obtain⟨SK,x8⟩:=h7.r3 hv (j:=2) (by omega) (u:=.int .u64 pd.free) (nd':= {nd with lo:=pd.free}) rfl rfl;have kS:∀ {w w':World},Kept (fun k=>k=b) w w'->∀(j:Nat) (u:Value),Kept (fun k=>k=b) w (w'.setCell ⟨b,j,none⟩ u):=fun k j u=>k.setCell (fun _=>rfl) u;have v1:(L.set n ({nd with lo:=pd.free},v))[n]? =some ({nd with lo:=pd.free},v):=gJ hv;refine⟨by rw [mW];exact SK,?_⟩;intro p5;have Z9:p5=w7.setCell ⟨b,n*5+2,none⟩ (.int .u64 pd.free):=by simp only [p5,mW,Int.toNat_natCast]
 have Mj:Kept (fun k=>k=b) w p5:=by rw [Z9];exact kS k7 _ _
 rw [<-Z9]at x8;clear_value p5;refine x8.sV v1 ?_;obtain⟨wr2,Cp⟩:=x8.r3 v1 (j:=3) (by omega) (u:=.int .u64 (u64.wrap (u64.wrap (pd.free+many)-1))) (nd':= {nd with lo:=pd.free,hi:=pd.free+many-1}) (by rw [dY (x:=pd.free+many) (by omega) (by omega),dY (by omega) (by omega)];rfl) rfl;refine⟨by rw [mW];exact wr2,?_⟩;intro np;have Z8:np=p5.setCell ⟨b,n*5+3,none⟩ (.int .u64 (u64.wrap (u64.wrap (pd.free+many)-1))):=by simp only [np,mW,Int.toNat_natCast]
 have uQ:Kept (fun k=>k=b) w np:=by rw [Z8];exact kS Mj _ _
 rw [<-Z8]at Cp;clear_value np;rw [List.set_set,List.set_set]at Cp;have v2:(L.set n ({nd with lo:=pd.free,hi:=pd.free+many-1},v))[n]? =some ({nd with lo:=pd.free,hi:=pd.free+many-1},v):=gJ hv;refine Cp.sV v2 ?_;obtain⟨SJ,FW⟩:=Cp.r3 v2 (j:=4) (by omega) (u:=.int .u64 pd.free) (nd':= {nd with lo:=pd.free,hi:=pd.free+many-1,free:=pd.free}) rfl rfl;refine⟨by rw [mW];exact SJ,?_⟩;intro uw;have Z7:uw=np.setCell ⟨b,n*5+4,none⟩ (.int .u64 pd.free):=by simp only [uw,mW,Int.toNat_natCast]
 have D9:Kept (fun k=>k=b) w uw:=by rw [Z7];exact kS uQ _ _
 rw [<-Z7]at FW;clear_value uw;rw [List.set_set,List.set_set]at FW;have u3:(L.set n ({nd with lo:=pd.free,hi:=pd.free+many-1,free:=pd.free},v))[p]? =some (pd,u):=mz hu fJ;refine FW.vE u3 ?_;obtain⟨wr4,QS⟩:=FW.r3 u3 (j:=4) (by omega) (u:=.int .u64 (u64.wrap (pd.free+many))) (nd':= {pd with free:=pd.free+many}) (by rw [dY (by omega) (by omega)];rfl) rfl;refine⟨by rw [mW];exact wr4,?_⟩;intro p9;have Z5:p9=uw.setCell ⟨b,p*5+4,none⟩ (.int .u64 (u64.wrap (pd.free+many))):=by simp only [p9,mW,Int.toNat_natCast]
 exact hK p9 _ (by rw [Z5];exact QS) (by rw [Z5];exact kS D9 _ _)
theorem Bn(h:nh w S g T d){n p:Nat}{nd pd:Nd}{many:Int}(hn:T[n]? =some nd)(hp:T[p]? =some pd)(Mv:nd.parent=p)(fJ:n≠p)
 (hf:0<=pd.free) (hm:1<=many) (Zs:pd.free+many<18446744073709551616)
 (hK:∀w',nh w' S g (sS T n p nd pd many) d->Kept S w w'->K (.tuple #[]) w'):
 bm prog eE.id #[.pointer (some ⟨g,0,none⟩),.int .i64 n,.int .u64 many] w K:=by
 obtain⟨b,c,L,h⟩:=h;exact rU h hn hp Mv fJ hf hm Zs fun w' L' h' k'=>hK w' ⟨b,c,L',h'⟩ (k'.mono fun k _ e=>by rw [e];exact h.fh)
end
section
variable{w:World}{S:Nat->Prop}{g:Nat}{T:List Nd}{d:Int}{b c:Nat}{L:List (Nd×Value)}
theorem xG(L M:List (Nd×Value)):mS (L++M)=mS L++mS M:=by simp [mS]
theorem TV.E0(h:TV w S g T d b c L)(nN:T.length<=1000000)(p:Int){w10:World}
 (e10:w10=w.alloc (.cells #[.int .i64 p,.slice none 0 0,.int .u64 0,.int .u64 0,.int .u64 0] iz)):
 ∃A c' pg,(Builtin.append_ #[gA,gA] gA #[.slice (some ⟨b,0,none⟩) T.length c,.slice (some ⟨w.heap.size,0,none⟩) 1 1]).run prog w10=.ok (.slice A (T.length+1) c') pg/\
  Wr pg ⟨g,0,none⟩/\∃b' S' L',TV (pg.setCell ⟨g,0,none⟩ (.slice A (T.length+1) c')) S' g (T++ [⟨p,[],0,0,0⟩]) d b' c' L'/\(∀(i:Nat) q,L[i]? =some q->L'[i]? =some q)/\
   Kept S w (pg.setCell ⟨g,0,none⟩ (.slice A (T.length+1) c'))/\(∀k,S k->S' k)/\(∀k,S' k->S k\/w.heap.size<=k):=by
 subst e10;generalize Kx:w.alloc (.cells #[.int .i64 p,.slice none 0 0,.int .u64 0,.int .u64 0,.int .u64 0] iz)=w10;have nO:w10.heap[w.heap.size]? =some (.cells #[.int .i64 p,.slice none 0 0,.int .u64 0,.int .u64 0,.int .u64 0] iz (0,0)):=by rw [<-Kx];exact aR w _
 have tV:Kept Nil w w10:=by rw [<-Kx];exact(Kept.refl Nil w).alloc _
 have G4:w10.heap.size=w.heap.size+1:=by rw [<-Kx];simp
 have rP:=h.kept tV;obtain⟨A,c',pg,hr,fW,hg,Cm⟩:=iu (P:=prog) (t:=gA) (ty:=gA) Dv rP.row (a:=⟨w.heap.size,0,none⟩) (m:=1) (cx:=1)
  (news:=iD ⟨p,[],0,0,0⟩ (.slice none 0 0)) rfl (fun j u hj=>by rw [kZ,aD nO];simpa [iD]using hj) (by intro u hu;simp [iD]at hu;rcases hu with rfl|rfl|rfl|rfl|rfl<;>rfl)
  (by omega) (by unfold maxLen;omega) (Nat.zero_le _)
 obtain⟨b',rfl⟩:=Row.some fW (by omega);have kb:Kept (fun k=>k=b) w10 pg:=(Kept.refl _ w10).grown hg (fun k hk _=>by cases hk;rfl);have jr:pg.heap[g]? =some (.cells #[.slice (some ⟨b,0,none⟩) T.length c,.int .i64 d] ri (0,0)):=kb.heap rP.top h.gb;refine⟨_,c',pg,hr,dL jr (show 0<2 by omega),?_⟩;generalize Ot:pg.setCell ⟨g,0,none⟩ (.slice (some ⟨b',0,none⟩) (T.length+1) c')=wf;have kg:Kept (fun k=>k=g) pg wf:=by rw [<-Ot];exact(Kept.refl (fun k=>k=g) pg).setCell (p:=⟨g,0,none⟩) (fun _=>rfl) _
 have ub:b'=b\/w10.heap.size<=b':=by
  rcases Cm b' rfl with h|h
  ·left;cases h;rfl
  ·exact .inr h
 have Wf:b'≠g:=by
  rintro rfl;obtain⟨_,cur,hc⟩:=Row.bS fW (k:=b') rfl;rw [jr]at hc;injection hc with hc;injection hc with _ ht;exact absurd ht (by decide)
 have Cg:∀(i:Nat) (q:Nd×Value),L[i]? =some q->∃A m,Rq wf S q A m:=by
  intro i q hq;obtain⟨A,m,hk⟩:=rP.oW i q hq;obtain⟨cur,MD⟩:=rP.tz;have r1:=Row.aK hk.row kb (fun k e e2=>hk.ne MD (by decide) (by rw [e,e2]));have r2:=Row.aK r1 kg (fun k e e2=>hk.ne rP.top (by decide) (by rw [e,e2]));exact⟨A,m,hk.val,r2,hk.jc⟩
 refine⟨b',fun k=>S k\/k=b',L++ [(⟨p,[],0,0,0⟩,.slice none 0 0)],?_,fun i q hq=>?_,?_,fun k hk=>.inl hk,?_⟩
 ·exact {
   top:=by
    have:=cY jr 0 (.slice (some ⟨b',0,none⟩) (T.length+1) c');rw [Ot]at this;simpa using this
   fst:=by simp [h.fst]
   row:=by
    rw [xG,List.length_append];have:=Row.aK fW kg (fun k e e2=>Wf (by cases e;exact e2));simpa [mS]using this
   oW:=fun i q hq=>by
    rw [List.getElem?_append]at hq;split at hq
    ·obtain⟨A,m,hk⟩:=Cg i q hq
     exact⟨A,m,hk.val,hk.row,fun k e=>.inl (hk.jc k e)⟩
    ·rename_i cK
     have:i-L.length=0:=by
      rcases Nat.eq_zero_or_pos (i-L.length)with h|h
      ·exact h
      ·rw [List.getElem?_eq_none (by simp;omega)]at hq;cases hq
     rw [this]at hq;simp at hq;subst hq;exact⟨none,0,rfl,Row.nil _ _ _ _,fun k e=>by cases e⟩
   apart:=fun i j q q' hq G6 pP k hk mZ=>by
    rw [List.getElem?_append]at hq G6;have last:∀(x:Nat) (r:Nd×Value),[((⟨p,[],0,0,0⟩:Nd),Value.slice none 0 0)][x]? =some r->r.2=.slice none 0 0:=by
     intro x r hr;cases x with
     |zero=>simp at hr;subst hr;rfl
     |succ x=>simp at hr
    split at hq<;>split at G6
    ·exact h.apart i j q q' hq G6 pP k hk mZ
    ·rw [last _ _ G6]at mZ;cases mZ
    ·rw [last _ _ hq]at hk;cases hk
    ·rw [last _ _ G6]at mZ;cases mZ
   gg:=.inl h.gg
   fh:=.inr rfl}
 ·rw [List.getElem?_append_left (lgeS hq).1];exact hq
 ·have FC:Kept S w pg:=(tV.mono (S':=S) (fun _ _ h=>h.elim)).trans kb (fun k _ e=>by rw [e];exact h.fh)
  exact FC.trans kg (fun k _ e=>by rw [e];exact h.gg)
 ·rintro k (hk|rfl)
  ·exact .inl hk
  ·rcases ub with rfl|ub
   ·exact .inl h.fh
   ·right;omega
theorem TV.HC(h:TV w S g T d b c L){p:Nat}{nd:Nd}{v:Value}(hp:L[p]? =some (nd,v)){A:Option Addr}{m:Nat}(hk:Rq w S (nd,v) A m)(nN:nd.ch.length<=1000000)(n:Nat){w22:World}
 (e22:w22=w.alloc (.cells #[.int .i64 n] fE)):
 ∃A' c' kr,(Builtin.append_ #[iA,iA] iA #[.slice A nd.ch.length m,.slice (some ⟨w.heap.size,0,none⟩) 1 1]).run prog w22=.ok (.slice A' (nd.ch.length+1) c') kr/\
  kr.cell? ⟨g,0,none⟩=some (.slice (some ⟨b,0,none⟩) T.length c)/\Wr kr ⟨b,p*5+1,none⟩/\
  ∃S' L',TV (kr.setCell ⟨b,p*5+1,none⟩ (.slice A' (nd.ch.length+1) c')) S' g (T.set p {nd with ch:=nd.ch++ [n]}) d b c L'/\
   Kept S w (kr.setCell ⟨b,p*5+1,none⟩ (.slice A' (nd.ch.length+1) c'))/\(∀k,S k->S' k)/\(∀k,S' k->S k\/w.heap.size<=k):=by
 subst e22;generalize Kw:w.alloc (.cells #[.int .i64 n] fE)=w22;have nO:w22.heap[w.heap.size]? =some (.cells #[.int .i64 n] fE (0,0)):=by rw [<-Kw];exact aR w _
 have NZ:Kept Nil w w22:=by rw [<-Kw];exact(Kept.refl Nil w).alloc _
 have acd:w22.heap.size=w.heap.size+1:=by rw [<-Kw];simp
 have zh:=h.kept NZ;have KG:=Row.aK hk.row NZ (fun _ _ h=>h);have rM:p<L.length:=(lgeS hp).1;obtain⟨A',c',kr,hr,fW,hg,Cm⟩:=iu (P:=prog) (t:=iA) (ty:=iA) HZ KG (a:=⟨w.heap.size,0,none⟩) (m:=1) (cx:=1)
  (news:=ints [n]) rfl (fun j u hj=>by rw [kZ,aD nO];simpa [ints]using hj) (by intro u hu;simp [ints]at hu;subst hu;rfl)
  (by simp only;omega) (by unfold maxLen;simp only;omega) (Nat.zero_le _)
 obtain⟨cur,MD⟩:=zh.tz;obtain⟨aer,hb0⟩:=h.tz;have IM:bp A≠some b:=hk.ne hb0 (by decide);have hkg:bp A≠some g:=hk.ne h.top (by decide);have kA:Kept (fun k=>bp A=some k) w22 kr:=(Kept.refl _ w22).grown hg (fun k hk _=>hk);have EZ:Row kr 0 iz 5 (some ⟨b,0,none⟩) T.length c (mS L):=Row.aK zh.row kA (fun k e e2=>IM (by rw [e2,<-e];rfl));have EY:=kA.heap zh.top (fun e=>hkg e);have cK:p*5+1<(mS L).length:=by rw [q6];omega
 refine⟨A',c',kr,hr,by rw [aD EY];rfl,Row.wr EZ cK,?_⟩;generalize Ot:kr.setCell ⟨b,p*5+1,none⟩ (.slice A' (nd.ch.length+1) c')=wf;have kB:Kept (fun k=>k=b) kr wf:=by rw [<-Ot];exact(Kept.refl (fun k=>k=b) kr).setCell (p:=⟨b,p*5+1,none⟩) (fun _=>rfl) _
 have WI:bp A'≠some b:=by
  intro e;obtain⟨_,Q7,hc⟩:=Row.bS fW e;have:=kA.heap MD IM;rw [this]at hc;injection hc with hc;injection hc with _ ht;exact absurd ht (by decide)
 have pO:∀(A:Option Addr) n m,Value.ownBlock (.slice A n m)=bp A:=by intro A n m;cases A<;>rfl
 have fu:∀(i:Nat) (q:Nd×Value),(L.set p ({nd with ch:=nd.ch++ [n]},.slice A' (nd.ch.length+1) c'))[i]? =some q->(i=p/\q=({nd with ch:=nd.ch++ [n]},.slice A' (nd.ch.length+1) c'))\/(i≠p/\L[i]? =some q):=by
  intro i q hq;by_cases e:p=i
  ·subst e
   rw [List.getElem?_set_self rM]at hq;cases hq;exact .inl ⟨rfl,rfl⟩
  ·rw [List.getElem?_set_ne e]at hq
   exact .inr ⟨fun h=>e h.symm,hq⟩
 have IJ:∀k,bp A'=some k->∀(i:Nat) (q:Nd×Value),i≠p->L[i]? =some q->Value.ownBlock q.2≠some k:=by
  intro k mZ i q hi hq UA;rcases Cm k mZ with e|e
  ·exact h.apart p i _ _ hp hq (fun e=>hi e.symm) k (by rw [hk.val,pO];exact e) UA
  ·obtain⟨A2,m2,mP⟩:=h.oW i q hq
   rw [mP.val,pO]at UA;obtain⟨_,aeq,EI⟩:=Row.bS mP.row UA;have:=bf EI;omega
 refine⟨fun k=>S k\/bp A'=some k,L.set p ({nd with ch:=nd.ch++ [n]},.slice A' (nd.ch.length+1) c'),?_,?_,fun k hk=>.inl hk,?_⟩
 ·exact {
   top:=by rw [List.length_set];exact kB.heap EY h.gb
   fst:=by rw [List.map_set,h.fst]
   row:=by
    rw [List.length_set];have:=Row.set EZ cK (.slice A' (nd.ch.length+1) c');rw [Ot,xF hp (j:=1) (by omega) (p':=({nd with ch:=nd.ch++ [n]},.slice A' (nd.ch.length+1) c')) rfl]at this;exact this
   oW:=fun i q hq=>by
    rcases fu i q hq with⟨rfl,rfl⟩|⟨hi,hq⟩
    ·refine⟨A',c',by simp,?_,fun k e=>.inr e⟩
     have:=Row.aK fW kB (fun k e e2=>WI (by rw [e,e2]));simpa [ints]using this
    ·obtain⟨A2,m2,mP⟩:=zh.oW i q hq
     have r1:=Row.aK mP.row kA (fun k e e2=>h.apart p i _ _ hp hq (fun e=>hi e.symm) k (by rw [hk.val,pO];exact e2) (by rw [mP.val,pO];exact e));have r2:=Row.aK r1 kB (fun k e e2=>mP.ne MD (by decide) (by rw [e,e2]));exact⟨A2,m2,mP.val,r2,fun k e=>.inl (mP.jc k e)⟩
   apart:=fun i j q q' hq G6 pP k Hf mP=>by
    rcases fu i q hq with⟨e1,e2⟩|⟨hi,IC⟩<;>rcases fu j q' G6 with⟨e3,e4⟩|⟨hj,Mr⟩
    ·exact pP (e1.trans e3.symm)
    ·rw [e2,pO]at Hf;exact IJ k Hf j q' hj Mr mP
    ·rw [e4,pO]at mP;exact IJ k mP i q hi IC Hf
    ·exact h.apart i j q q' IC Mr pP k Hf mP
   gg:=.inl h.gg
   fh:=.inl h.fh}
 ·have rv:Kept S w kr:=(NZ.mono (S':=S) (fun _ _ h=>h.elim)).trans kA (fun k _ e=>hk.jc k e)
  exact rv.trans kB (fun k _ e=>by rw [e];exact h.fh)
 ·rintro k (mZ|mZ)
  ·exact .inl mZ
  ·rcases Cm k mZ with e|e
   ·exact .inl (hk.jc k e)
   ·right;omega
end
def grown(T:List Nd)(p:Nat)(pd:Nd):List Nd:=(T++ [(⟨p,[],0,0,0⟩:Nd)]).set p {pd with ch:=pd.ch++ [T.length]}
def im(pd:Nd):Int:=(pd.hi-pd.free+1)/2
def added(T:List Nd)(p:Nat)(pd:Nd):List Nd:=sS (grown T p pd) T.length p ⟨p,[],0,0,0⟩ {pd with ch:=pd.ch++ [T.length]} (im pd)
section
variable{w:World}{S:Nat->Prop}{g:Nat}{T:List Nd}{d:Int}{K:Value->World->Prop}
theorem rV(h:nh w S g T d){p:Nat}{pd:Nd}(hp:T[p]? =some pd)(nN:T.length<=1000000)(mR:pd.ch.length<=1000000)
 (hf:0<=pd.free) (hfh:pd.free<=pd.hi) (hh:pd.hi<=4611686018427387904)
 (hK1:pd.free<pd.hi->∀w' S',nh w' S' g (added T p pd) d->Kept S w w'->(∀k,S' k->S k\/w.heap.size<=k)->K (.tuple #[.int .i64 T.length,.int .i64 0]) w')
 (hK2:pd.free=pd.hi->∀w' S',nh w' S' g (grown T p pd) d->Kept S w w'->(∀k,S' k->S k\/w.heap.size<=k)->
   bm prog ay.id #[.pointer (some ⟨g,0,none⟩),.int .i64 p] w' fun v lf=>v=.tuple #[]/\K (.tuple #[.int .i64 T.length,.int .i64 0]) lf):
 bm prog fy.id #[.pointer (some ⟨g,0,none⟩),.int .i64 p] w K:=by
 have cK:p<T.length:=(lgeS hp).1;refine fy.of (qI h cK ⟨_,rfl,Split.no rfl ?_⟩);obtain⟨b,c,L,h⟩:=h;obtain⟨v,hv⟩:=h.at_ hp;refine h.go (h.go ⟨rfl,?_⟩);intro w10;obtain⟨A1,c1,pg,qz,SK,b1,S1,L1,Sj,hL1,Mi,hS1,QJ⟩:=h.E0 nN (p:Int) (w10:=w10) rfl;refine⟨A1,_,c1,pg,qz,by rw [kZ];exact SK,?_⟩;intro kz;have e14:kz=pg.setCell ⟨g,0,none⟩ (.slice A1 (T.length+1) c1):=by simp only [kz,kZ]
 rw [<-e14]at Sj Mi;clear_value kz;intro np;have uQ:Kept Nil kz np:=(Kept.refl Nil kz).drew;have Cp:=Sj.kept uQ;have FG:=hL1 _ _ hv;have hlen:(T++ [(⟨p,[],0,0,0⟩:Nd)]).length=T.length+1:=by simp
 have I2:0<=(p:Int)/\(p:Int)<((T++ [(⟨p,[],0,0,0⟩:Nd)]).length:Int):=by rw [hlen];exact⟨by omega,by omega⟩
 obtain⟨A2,m2,hk⟩:=Cp.oW _ _ FG;refine Cp.go (Cp.go ⟨I2,Cp.QW FG hk.val ?_⟩);intro w22;have NZ:Kept Nil np w22:=(Kept.refl Nil np).alloc _;have zh:=Cp.kept NZ;obtain⟨A3,c3,kr,CX,Pe,SJ,S3,L3,Si,JY,hS3,Wq⟩:=Cp.HC FG hk mR T.length (w22:=w22) rfl;have xt:=zh.cell FG (j:=1) (by omega) (v:=v) rfl;have hvv:v=.slice A2 pd.ch.length m2:=hk.val;rw [hvv]at xt;refine⟨by rw [mW];exact xt,by rw [kZ];exact zh.nodes,by rw [kZ];exact zh.nodes,A3,_,c3,kr,CX,by rw [kZ];exact Pe,I2,by rw [mW];exact SJ,?_⟩;intro Be;have e26:Be=kr.setCell ⟨b1,p*5+1,none⟩ (.slice A3 (pd.ch.length+1) c3):=by simp only [Be,mW,Int.toNat_natCast]
 rw [<-e26]at Si JY;clear_value Be;have G1:(T++ [(⟨p,[],0,0,0⟩:Nd)]).set p {pd with ch:=pd.ch++ [T.length]}=grown T p pd:=rfl;rw [G1]at Si;have Zo:(grown T p pd)[p]? =some {pd with ch:=pd.ch++ [T.length]}:=by
  unfold grown;rw [List.getElem?_set_self (by simp;omega)]
 have hgn:(grown T p pd)[T.length]? =some ⟨p,[],0,0,0⟩:=by
  unfold grown;rw [List.getElem?_set_ne (by omega)];simp
 have kw:Kept S w Be:=(Mi.tt (uQ.mono (S':=S) (fun _ _ h=>h.elim))).trans JY (fun k hk h=>by
  rcases QJ k h with h|h
  ·exact h
  ·omega)
 have Lt:∀k,S3 k->S k\/w.heap.size<=k:=fun k h=>by
  rcases Wq k h with h|h
  ·exact QJ k h
  ·right
   have:=Mi.size;have:=uQ.size;omega
 refine Bm ⟨_,_,_,Si⟩ Zo fun CQ JW=>⟨_,rfl,?_⟩;have ZV:=Si.kept JW;have NC:Kept S w CQ:=kw.trans JW (fun _ _ h=>h.elim);simp only [];rw [dY (x:=pd.hi-pd.free) (by omega) (by omega)];refine Split.dec (fun ko=>⟨by decide,?_⟩) (fun ko=>?_)
 ·have AJ:u64.wrap ((u64.wrap (pd.hi-pd.free+1)).tdiv 2)=im pd:=by
   rw [dY (x:=pd.hi-pd.free+1) (by omega) (by omega),Int.tdiv_eq_ediv_of_nonneg (by omega),dY (by omega) (by omega)];rfl
  rw [AJ];refine Bn ⟨_,_,_,ZV⟩ hgn Zo rfl (by omega) hf (by unfold im;omega) (by unfold im;simp only;omega) fun MZ h31 RJ=>⟨rfl,?_⟩;refine hK1 (by omega) MZ S3 h31 (NC.trans RJ fun k hk h=>?_) Lt;rcases Lt k h with h|h
  ·exact h
  ·omega
 ·exact hK2 (by omega) CQ S3 ⟨_,_,_,ZV⟩ NC Lt
end
section
variable{w:World}{S:Nat->Prop}{g:Nat}{T:List Nd}{d:Int}{K:Value->World->Prop}
def oI:List Nd:= [⟨-1,[],1,4611686018427387904,1⟩]
theorem dF(hK:∀w' g,nh w' (fun k=>w.heap.size<=k) g oI 0->Kept Nil w w'->K (.pointer (some ⟨g,0,none⟩)) w'):bm prog dF.id #[] w K:=by
 refine dF.of ⟨rfl,?_⟩;intro w1 w2;have k1:Kept Nil w w1:=(Kept.refl Nil w).alloc _;have k2:Kept Nil w w2:=k1.alloc _;refine hK w2 w1.heap.size ⟨w.heap.size,1,[(⟨-1,[],1,4611686018427387904,1⟩,.slice none 0 0)],?_⟩ k2;exact {
  top:=aR w1 _
  fst:=rfl
  row:=Row.made (n:=1) (cur:= #[.int .i64 (-1),.slice none 0 0,.int .u64 1,.int .u64 4611686018427387904,.int .u64 1]) (jE (aR w _) _) (Nat.zero_le _) rfl (by decide)
  oW:=fun i p hp=>by
   cases i with
   |zero=>simp at hp;subst hp;exact⟨none,0,rfl,Row.nil _ _ _ _,fun k e=>by cases e⟩
   |succ i=>simp at hp
  apart:=fun i j p q hp hq pP=>by
   cases i<;>cases j<;>simp at hp hq
   exact absurd rfl pP
  gg:=k1.size
  fh:=Nat.le_refl _}
theorem yn(h:nh w S g T d){a b:Nat}{ad bd:Nd}(ha:T[a]? =some ad)(hb:T[b]? =some bd)(hK:∀w',Kept Nil w w'->K (.bool (decide (bd.lo<=ad.lo/\ad.hi<=bd.hi))) w'):
 bm prog dU.id #[.pointer (some ⟨g,0,none⟩),.int .i64 a,.int .i64 b] w K:=by
 have hal:a<T.length:=(lgeS ha).1;have Cm:b<T.length:=(lgeS hb).1;have V0:0<=(a:Int)/\(a:Int)<(T.length:Int):=⟨by omega,by omega⟩;have Cn:0<=(b:Int)/\(b:Int)<(T.length:Int):=⟨by omega,by omega⟩;refine dU.of ?_;unfold dU.W;intro w4;have k4:Kept Nil w w4:=(Kept.refl Nil w).drew;have h4:=h.same k4;have hk:=hK w4 k4;refine vg h4 a ⟨_,rfl,Split.yes (decide_eq_true V0) ?_⟩;refine vg h4 b ⟨_,rfl,Split.yes (decide_eq_true Cn) ?_⟩;obtain⟨p,c,L,h4⟩:=h4;obtain⟨va,YF⟩:=h4.at_ ha;obtain⟨vb,YE⟩:=h4.at_ hb;refine h4.go ⟨Cn,h4.sV YE (h4.go ⟨V0,h4.sV YF ?_⟩)⟩;refine Split.dec (fun h1=>h4.go ⟨V0,h4.xC YF (h4.go ⟨Cn,h4.xC YE ?_⟩)⟩) (fun h1=>?_)
 ·rwa [show decide (bd.lo<=ad.lo/\ad.hi<=bd.hi)=decide (ad.hi<=bd.hi)from by simp [h1]]at hk
 ·rwa [decide_eq_false (fun e:bd.lo<=ad.lo/\ad.hi<=bd.hi=>h1 e.1)]at hk
end
section
variable{w:World}{t:Option Addr}{K:Value->World->Prop}
end
end Go.Proofs.YtfleamccglihoaaGreatDoor.Tr
namespace Go.Proofs.YtfleamccglihoaaGreatDoor.Tr
open Go.Proofs.Tryz
def bG(T:List Nd):List Int:=T.map (·.parent)
structure nf(P:List Int):Prop where
 root:P[0]? =some (-1)
 up:∀(i:Nat) (p:Int),0<i->P[i]? =some p->∃j:Nat,j<i/\p=j
def kids(P:List Int)(i:Nat):List Nat:=(List.range P.length).filter fun j=>P[j]? ==some (i:Int)
theorem dH{P:List Int}{i j:Nat}:j∈kids P i↔P[j]? =some (i:Int):=by
 simp only [kids,List.mem_filter,List.mem_range,beq_iff_eq];exact⟨fun h=>h.2,fun h=>⟨(lgeS h).1,h⟩⟩
theorem gR{P:List Int}(hP:nf P){i j:Nat}(h:j∈kids P i):i<j/\j<P.length:=by
 rw [dH]at h;refine⟨?_,(lgeS h).1⟩;rcases Nat.eq_zero_or_pos j with rfl|hj
 ·rw [hP.root]at h;have:=Option.some.inj h;omega
 ·obtain⟨k,hk,e⟩:=hP.up j _ hj h
  omega
theorem qR(P:List Int)(i:Nat):(kids P i).Pairwise (· < ·):=List.Pairwise.filter _ (List.pairwise_lt_range)
theorem wZ(P:List Int)(i:Nat):(kids P i).length<=P.length:=by
 unfold kids;exact Nat.le_trans (List.length_filter_le _ _) (by simp)
inductive jg (P:List Int):Nat->Nat->Prop
 |refl {i:Nat}:i<P.length->jg P i i
 |step {i j k:Nat}:P[i]? =some (j:Int)->jg P j k->jg P i k
theorem jg.lt{P:List Int}{i k:Nat}(h:jg P i k):i<P.length:=by
 cases h with
 |refl h=>exact h
 |step h _=>exact(lgeS h).1
theorem jg.Rz{P:List Int}{i k:Nat}(h:jg P i k):k<P.length:=by
 induction h with
 |refl h=>exact h
 |step _ _ ih=>exact ih
theorem jg.le{P:List Int}(hP:nf P){i k:Nat}(h:jg P i k):k<=i:=by
 induction h with
 |refl=>omega
 |step h _ ih=>have:=(gR hP (dH.2 h)).1;omega
theorem jg.trans{P:List Int}{i j k:Nat}(h:jg P i j)(h':jg P j k):jg P i k:=by
 induction h with
 |refl=>exact h'
 |step h _ ih=>exact .step h (ih h')
theorem jg.inv{P:List Int}{i j k:Nat}(h:jg P i k)(fJ:i≠k)(hj:P[i]? =some (j:Int)):jg P j k:=by
 cases h with
 |refl=>exact absurd rfl fJ
 | @step _ j' _ h h'=>
   rw [hj]at h;have e:j=j':=by have:=Option.some.inj h;omega
   rw [e];exact h'
theorem jg.child{P:List Int}{i k:Nat}(h:jg P i k)(fJ:i≠k):∃c,c∈kids P k/\jg P i c:=by
 induction h with
 |refl=>exact absurd rfl fJ
 | @step i j k h h' ih=>
   by_cases e:j=k
   ·subst e
    exact⟨i,dH.2 h,.refl (lgeS h).1⟩
   ·obtain⟨c,hc,hu⟩:=ih e
    exact⟨c,hc,.step h hu⟩
structure Iv(nd:Nd):Prop where
 Tl:1<=nd.lo
 le:nd.lo<=nd.hi
 top:nd.hi<=4611686018427387904
structure Loc(T:List Nd)(nd:Nd):Prop where
 C6:nd.lo<=nd.free
 zp:nd.free<=nd.hi
 sub:∀c cd,c∈nd.ch->T[c]? =some cd->nd.lo<=cd.lo/\cd.hi<nd.free
 ord:∀(c c':Nat) cd tp,c∈nd.ch->c'∈nd.ch->c<c'->T[c]? =some cd->T[c']? =some tp->cd.hi<tp.lo
structure Shape(T:List Nd):Prop where
 par:nf (bG T)
 ch:∀(i:Nat) nd,T[i]? =some nd->nd.ch=kids (bG T) i
structure Good(T:List Nd):Prop extends Shape T where
 iv:∀(i:Nat) nd,T[i]? =some nd->Iv nd
 loc:∀(i:Nat) nd,T[i]? =some nd->Loc T nd
theorem jK{T:List Nd}{i:Nat}{nd:Nd}(h:T[i]? =some nd):(bG T)[i]? =some nd.parent:=by simp [bG,h]
theorem dG(T:List Nd):(bG T).length=T.length:=by simp [bG]
theorem Shape.pos{T:List Nd}(h:Shape T):0<T.length:=by
 have:=(lgeS h.par.root).1
 rwa [dG]at this
theorem Good.oW{T:List Nd}(h:Good T){c k:Nat}{cd kd:Nd}(hc:c∈kids (bG T) k)(iQ:T[c]? =some cd)(Pz:T[k]? =some kd):
 kd.lo<=cd.lo/\cd.hi<kd.free:=(h.loc k kd Pz).sub c cd (by rw [h.ch k kd Pz];exact hc) iQ
theorem eR{T:List Nd}{i:Nat}(h:i<T.length):∃nd,T[i]? =some nd:=⟨_,List.getElem?_eq_getElem h⟩
theorem Good.mY{T:List Nd}(h:Good T){a b:Nat}{ad bd:Nd}(ha:T[a]? =some ad)(hb:T[b]? =some bd)(hu:jg (bG T) a b):bd.lo<=ad.lo/\ad.hi<=bd.hi:=by
 induction hu generalizing ad with
 |refl=>rw [ha]at hb;cases hb;omega
 | @step i j k hp h' ih=>
   have tJ:j<T.length:=by have:=h'.lt;rwa [dG]at this
   obtain⟨jd,hj⟩:=eR tJ;have h1:=ih hj hb;have h2:=h.oW (dH.2 hp) ha hj;have h3:=(h.loc j jd hj).zp;omega
theorem Good.apart{T:List Nd}(h:Good T):∀(m a b:Nat),a+b<=m->∀ad bd,T[a]? =some ad->T[b]? =some bd->¬jg (bG T) a b->¬jg (bG T) b a->ad.hi<bd.lo\/bd.hi<ad.lo:=by
 intro m
 induction m with
 |zero=>
  intro a b hm ad bd ha hb h1 _;have:a=b:=by omega
  subst this;exact absurd (.refl (by rw [dG];exact(lgeS ha).1)) h1
 |succ m ih=>
  have key:∀(a b:Nat),a+b<=m+1->b<a->∀ad bd,T[a]? =some ad->T[b]? =some bd->¬jg (bG T) a b->¬jg (bG T) b a->ad.hi<bd.lo\/bd.hi<ad.lo:=by
   intro a b hm cK ad bd ha hb h1 h2;have hal:=(lgeS ha).1;obtain⟨p,hp,e⟩:=h.par.up a _ (by omega) (jK ha);have RX:(bG T)[a]? =some (p:Int):=by rw [jK ha,e]
   obtain⟨pd,vw⟩:=eR (T:=T) (i:=p) (by omega);have gM:=h.oW (dH.2 RX) ha vw;have rM:=h.loc p pd vw;have CY:¬jg (bG T) p b:=fun hu=>h1 (.step RX hu);by_cases IY:jg (bG T) b p
   ·have fJ:b≠p:=fun e=>CY (by subst e;exact .refl IY.lt)
    obtain⟨c,hc,Iw⟩:=IY.child fJ;have hca:c≠a:=fun e=>h2 (e▸Iw);have vC:c<T.length:=by have:=(gR h.par hc).2;rwa [dG]at this
    obtain⟨cd,iQ⟩:=eR vC;have Lk:=h.mY hb iQ Iw;have mR:=h.ch p pd vw;rcases Nat.lt_or_ge c a with cK|iK
    ·have:=rM.ord c a cd ad (by rw [mR];exact hc) (by rw [mR];exact dH.2 RX) cK iQ ha
     omega
    ·have:=rM.ord a c ad cd (by rw [mR];exact dH.2 RX) (by rw [mR];exact hc) (by omega) ha iQ
     omega
   ·have:=ih p b (by omega) pd bd vw hb CY IY
    have:=rM.zp;omega
  intro a b hm ad bd ha hb h1 h2;rcases Nat.lt_trichotomy a b with cK|rfl|cK
  ·have:=key b a (by omega) cK bd ad hb ha h2 h1
   omega
  ·exact absurd (.refl (by rw [dG];exact(lgeS ha).1)) h1
  ·exact key a b hm cK ad bd ha hb h1 h2
theorem Good.under{T:List Nd}(h:Good T){a b:Nat}{ad bd:Nd}(ha:T[a]? =some ad)(hb:T[b]? =some bd):(bd.lo<=ad.lo/\ad.hi<=bd.hi)↔jg (bG T) a b:=by
 refine⟨fun hi=>?_,fun hu=>h.mY ha hb hu⟩;by_cases hu:jg (bG T) a b
 ·exact hu
 ·exfalso
  have ia:=h.iv a ad ha;have ib:=h.iv b bd hb;by_cases hv:jg (bG T) b a
  ·have fJ:b≠a:=fun e=>hu (by subst e;exact .refl hv.lt)
   obtain⟨c,hc,Iw⟩:=hv.child fJ;have vC:c<T.length:=by have:=(gR h.par hc).2;rwa [dG]at this
   obtain⟨cd,iQ⟩:=eR vC;have h1:=h.mY hb iQ Iw;have h2:=h.oW hc iQ ha;have h3:=(h.loc a ad ha).zp;omega
  ·have:=h.apart (a+b) a b (Nat.le_refl _) ad bd ha hb hu hv
   have:=ia.le;have:=ib.le;omega
theorem uV(T:List Nd)(p:Nat)(pd:Nd):(grown T p pd).length=T.length+1:=by simp [grown]
theorem iE{T:List Nd}{p:Nat}{pd:Nd}(hp:T[p]? =some pd)(i:Nat):(grown T p pd)[i]? =if i=p then some {pd with ch:=pd.ch++ [T.length]}else if i=T.length then some ⟨p,[],0,0,0⟩else T[i]? :=by
 have cK:=(lgeS hp).1;unfold grown;by_cases e:i=p
 ·subst e
  rw [if_pos rfl,List.getElem?_set_self (by simp;omega)]
 ·rw [if_neg e,List.getElem?_set_ne (fun h=>e h.symm)]
  by_cases e2:i=T.length
  ·subst e2;simp
  ·rw [if_neg e2]
   rcases Nat.lt_or_ge i T.length with h|h
   ·rw [List.getElem?_append_left h]
   ·rw [List.getElem?_eq_none (by simp;omega),List.getElem?_eq_none h]
theorem kR{T:List Nd}{p:Nat}{pd:Nd}(hp:T[p]? =some pd):bG (grown T p pd)=bG T++ [(p:Int)]:=by
 apply List.ext_getElem?;intro i;have cK:=(lgeS hp).1;simp only [bG,List.getElem?_map,iE hp];by_cases e:i=p
 ·subst e
  rw [if_pos rfl,List.getElem?_append_left (by simpa using cK)];simp [hp]
 ·rw [if_neg e]
  by_cases e2:i=T.length
  ·subst e2;simp
  ·rw [if_neg e2]
   rcases Nat.lt_or_ge i T.length with h|h
   ·rw [List.getElem?_append_left (by simpa using h)];simp
   ·rw [List.getElem?_eq_none h,List.getElem?_eq_none (by simp;omega)];rfl
theorem xc(P:List Int)(p i:Nat):kids (P++ [(p:Int)]) i=kids P i++if i=p then [P.length]else []:=by
 unfold kids;rw [List.length_append,List.length_singleton,List.range_succ,List.filter_append]
 congr 1
 ·apply List.filter_congr
  intro x hx;rw [List.getElem?_append_left (by simpa using hx)]
 ·by_cases e:i=p
  ·subst e;simp
  ·have:¬((p:Int)=(i:Int)):=by omega
   simp [e,this]
theorem nf.snoc{P:List Int}(h:nf P){p:Nat}(hp:p<P.length):nf (P++ [(p:Int)]):=by
 refine⟨by rw [List.getElem?_append_left (by omega)];exact h.root,fun i q hi hq=>?_⟩;rcases Nat.lt_or_ge i P.length with hl|hl
 ·rw [List.getElem?_append_left hl]at hq
  exact h.up i q hi hq
 ·have:i=P.length:=by
   rcases Nat.eq_or_lt_of_le hl with e|e
   ·exact e.symm
   ·rw [List.getElem?_eq_none (by simp;omega)]at hq;cases hq
  subst this;simp at hq;exact⟨p,hp,hq.symm⟩
theorem Shape.grown{T:List Nd}(h:Shape T){p:Nat}{pd:Nd}(hp:T[p]? =some pd):Shape (grown T p pd):=by
 have cK:=(lgeS hp).1;refine⟨by rw [kR hp];exact h.par.snoc (by rw [dG];exact cK),fun i nd hi=>?_⟩;rw [kR hp,xc,dG];rw [iE hp]at hi;by_cases e:i=p
 ·subst e
  rw [if_pos rfl]at hi⊢;cases hi;simp [h.ch i pd hp]
 ·rw [if_neg e]at hi⊢
  rw [List.append_nil];by_cases e2:i=T.length
  ·subst e2
   rw [if_pos rfl]at hi;cases hi
   symm
   apply List.eq_nil_iff_forall_not_mem.2;intro c hc;have:=gR h.par hc;rw [dG]at this;omega
  ·rw [if_neg e2]at hi
   exact h.ch i nd hi
def gV(f:Nat->Nat):Nat->Nat
 |0=>0
 |n+1=>gV f n+f n
theorem jy{f g:Nat->Nat}{n:Nat}(h:∀i,i<n->f i=g i):gV f n=gV g n:=by
 induction n with
 |zero=>rfl
 |succ n ih=>
  simp only [gV];rw [ih (fun i hi=>h i (by omega)),h n (by omega)]
theorem wk(f g:Nat->Nat)(n:Nat):gV (fun i=>f i+g i) n=gV f n+gV g n:=by
 induction n with
 |zero=>rfl
 |succ n ih=>simp only [gV];omega
theorem kF{f:Nat->Nat}{n:Nat}(h:∀i,i<n->f i=0):gV f n=0:=by
 induction n with
 |zero=>rfl
 |succ n ih=>
  simp only [gV];rw [ih (fun i hi=>h i (by omega)),h n (by omega)]
theorem Bq(h:Nat->Nat->Nat)(n m:Nat):gV (fun i=>gV (fun j=>h i j) m) n=gV (fun j=>gV (fun i=>h i j) n) m:=by
 induction n with
 |zero=>simp only [gV];exact(kF fun _ _=>rfl).symm
 |succ n ih=>
  simp only [gV];rw [ih,wk]
theorem wj{n k:Nat}(hk:k<n){f:Nat->Nat}(h:∀i,i<n->i≠k->f i=0):gV f n=f k:=by
 induction n with
 |zero=>omega
 |succ n ih=>
  simp only [gV];rcases Nat.lt_or_ge k n with cK|iK
  ·rw [ih cK (fun i hi=>h i (by omega)),h n (by omega) (by omega),Nat.add_zero]
  ·have:k=n:=by omega
   subst this;rw [kF (fun i hi=>h i (by omega) (by omega)),Nat.zero_add]
theorem Gh{f:Nat->Nat}{n b:Nat}(h:∀i,i<n->f i<=b):gV f n<=n*b:=by
 induction n with
 |zero=>simp [gV]
 |succ n ih=>
  simp only [gV];have:=ih (fun i hi=>h i (by omega));have:=h n (by omega);rw [Nat.succ_mul];omega
theorem Du{f f':Nat->Nat}{n k:Nat}(hk:k<n){v:Nat}(h:∀i,i<n->i≠k->f' i=f i)(hv:f' k=f k+v):gV f' n=gV f n+v:=by
 induction n with
 |zero=>omega
 |succ n ih=>
  simp only [gV];rcases Nat.lt_or_ge k n with cK|iK
  ·rw [ih cK (fun i hi=>h i (by omega)),h n (by omega) (by omega)]
   omega
  ·have:k=n:=by omega
   subst this;rw [jy (fun i hi=>h i (by omega) (by omega)),hv];omega
theorem qc(q:Nat->Bool)(f:Nat->Nat)(n:Nat):(((List.range n).filter q).map f).sum=gV (fun c=>if q c=true then f c else 0) n:=by
 induction n with
 |zero=>rfl
 |succ n ih=>
  rw [List.range_succ,List.filter_append,List.map_append,List.sum_append,ih];simp only [gV]
  congr 1
  by_cases h:q n=true
  ·simp [h]
  ·simp [h]
section
variable{P:List Int}
theorem jg.cmp{i a b:Nat}(h:jg P i a)(h':jg P i b):jg P a b\/jg P b a:=by
 induction h with
 |refl=>exact .inl h'
 | @step i j k hp h2 ih=>
   by_cases e:i=b
   ·subst e;exact .inr (.step hp h2)
   ·exact ih (h'.inv e hp)
theorem jg.one(hP:nf P){i n c c':Nat}(hc:P[c]? =some (n:Int))(sM:P[c']? =some (n:Int))(h:jg P i c)(h':jg P i c'):c=c':=by
 have key:∀(c c':Nat),P[c]? =some (n:Int)->P[c']? =some (n:Int)->jg P c c'->c=c':=by
  intro c c' hc sM h;by_cases e:c=c'
  ·exact e
  ·have:=(h.inv e hc).le hP
   have:=(gR hP (dH.2 sM)).1;omega
 rcases h.cmp h' with h|h
 ·exact key c c' hc sM h
 ·exact(key c' c sM hc h).symm
open Classical in
noncomputable def ind(p:Prop):Nat:=if p then 1 else 0
theorem pL{p:Prop}(h:p):ind p=1:=by unfold ind;rw [if_pos h]
theorem qx{p:Prop}(h:¬p):ind p=0:=by unfold ind;rw [if_neg h]
theorem Kr(p:Prop):ind p<=1:=by unfold ind;split<;>omega
noncomputable def sz(P:List Int)(n:Nat):Nat:=gV (fun i=>ind (jg P i n)) P.length
theorem yo(hP:nf P){n:Nat}(hn:n<P.length):sz P n=1+gV (fun c=>if P[c]? =some (n:Int)then sz P c else 0) P.length:=by
 have e1:∀i,i<P.length->ind (jg P i n)=ind (i=n)+gV (fun c=>if P[c]? =some (n:Int)then ind (jg P i c)else 0) P.length:=by
  intro i hi;by_cases e:i=n
  ·subst e
   rw [pL (.refl hi),pL rfl,kF];intro c hc;split
   ·rename_i hp
    apply qx;intro hu;have:=hu.le hP;have:=(gR hP (dH.2 hp)).1;omega
   ·rfl
  ·rw [qx e,Nat.zero_add]
   by_cases hu:jg P i n
   ·obtain⟨c,hc,Iw⟩:=hu.child e
    rw [pL hu,wj (k:=c) Iw.Rz]
    ·rw [if_pos (dH.1 hc),pL Iw]
    ·intro c' _ fJ
     split
     ·rename_i hp
      exact qx fun h=>fJ (jg.one hP hp (dH.1 hc) h Iw)
     ·rfl
   ·rw [qx hu,kF]
    intro c hc;split
    ·rename_i hp
     exact qx fun h=>hu (h.trans (.step hp (.refl hn)))
    ·rfl
 have e2:sz P n=gV (fun i=>ind (i=n)+gV (fun c=>if P[c]? =some (n:Int)then ind (jg P i c)else 0) P.length) P.length:=by
  unfold sz;exact jy e1
 rw [e2,wk,wj (k:=n) hn (fun i _ h=>qx h),pL rfl,Bq]
 congr 1
 apply jy;intro c _;split
 ·rfl
 ·exact kF fun _ _=>rfl
theorem rW(hP:nf P){n:Nat}(hn:n<P.length):1<=sz P n:=by rw [yo hP hn];omega
theorem ux(n:Nat):sz P n<=P.length:=by
 have:=Gh (n:=P.length) (b:=1) (f:=fun i=>ind (jg P i n)) (fun i _=>Kr _);unfold sz;omega
theorem zX(hP:nf P){n:Nat}(hn:n<P.length):((kids P n).map (sz P)).sum+1=sz P n:=by
 unfold kids;rw [qc,yo hP hn,Nat.add_comm]
 congr 1
 apply jy;intro c _;by_cases h:P[c]? =some (n:Int)
 ·simp [h]
 ·simp [h]
noncomputable def part(P:List Int)(m j:Nat):Nat:=gV (fun c=>if P[c]? =some (j:Int)/\m<=c then sz P c else 0) P.length
theorem BN(j:Nat):part P P.length j=0:=kF fun c hc=>if_neg fun h=>by omega
theorem sg(hP:nf P){m j:Nat}(hj:j<P.length)(hm:m<=j+1):part P m j+1=sz P j:=by
 rw [yo hP hj,Nat.add_comm]
 congr 1
 apply jy;intro c hc;by_cases h:P[c]? =some (j:Int)
 ·have:=(gR hP (dH.2 h)).1
  rw [if_pos ⟨h,by omega⟩,if_pos h]
 ·rw [if_neg (fun e=>h e.1),if_neg h]
theorem DI{n p:Nat}(h:P[n]? =some (p:Int)):part P n p=part P (n+1) p+sz P n:=by
 unfold part;apply Du (k:=n) (lgeS h).1
 ·intro i _ fJ
  by_cases hi:P[i]? =some (p:Int)
  ·by_cases h2:n<=i
   ·rw [if_pos ⟨hi,h2⟩,if_pos ⟨hi,by omega⟩]
   ·rw [if_neg (fun e=>h2 e.2),if_neg (fun e=>by omega)]
  ·rw [if_neg (fun e=>hi e.1),if_neg (fun e=>hi e.1)]
 ·rw [if_pos ⟨h,Nat.le_refl _⟩,if_neg (fun e=>by omega),Nat.zero_add]
theorem yE{n j:Nat}(h:P[n]? ≠some (j:Int)):part P n j=part P (n+1) j:=by
 unfold part;apply jy;intro i _;by_cases hi:P[i]? =some (j:Int)
 ·have:i≠n:=fun e=>h (e▸hi)
  by_cases h2:n<=i
  ·rw [if_pos ⟨hi,h2⟩,if_pos ⟨hi,by omega⟩]
  ·rw [if_neg (fun e=>h2 e.2),if_neg (fun e=>by omega)]
 ·rw [if_neg (fun e=>hi e.1),if_neg (fun e=>hi e.1)]
noncomputable def gF(P:List Int)(m j:Nat):Nat:=if m<=j then sz P j else part P m j
theorem yv(j:Nat)(hj:j<P.length):gF P P.length j=0:=by
 unfold gF;rw [if_neg (by omega),BN]
theorem wy(j:Nat):gF P 0 j=sz P j:=by unfold gF;rw [if_pos (Nat.zero_le _)]
theorem BG(hP:nf P){n:Nat}(hn:n<P.length):gF P (n+1) n+1=sz P n:=by
 unfold gF;rw [if_neg (by omega),sg hP hn (Nat.le_refl _)]
theorem BF(hP:nf P){n p:Nat}(h:P[n]? =some (p:Int))(j:Nat):gF P n j=if j=p then gF P (n+1) p+sz P n else if j=n then sz P n else gF P (n+1) j:=by
 have hp:=(gR hP (dH.2 h)).1;unfold gF;by_cases e:j=p
 ·subst e
  rw [if_neg (by omega),if_pos rfl,if_neg (by omega),DI h]
 ·rw [if_neg e]
  by_cases e2:j=n
  ·subst e2;rw [if_pos (Nat.le_refl _),if_pos rfl]
  ·rw [if_neg e2]
   by_cases h2:n<=j
   ·rw [if_pos h2,if_pos (by omega)]
   ·rw [if_neg h2,if_neg (by omega)]
    exact yE (fun h'=>e (by rw [h]at h';have:=Option.some.inj h';omega))
theorem BH(j:Nat):gF P 0 j=if j=0 then sz P 0 else gF P 1 j:=by
 rw [wy];unfold gF;by_cases e:j=0
 ·subst e;rw [if_pos rfl]
 ·rw [if_neg e,if_pos (by omega)]
theorem z7(hP:nf P)(m j:Nat)(hj:j<P.length):gF P m j<=P.length:=by
 have h1:=ux (P:=P) j;unfold gF;split
 ·exact h1
 ·rename_i h
  have:=sg hP (m:=m) hj;by_cases h2:m<=j+1
  ·have:=this h2;omega
  ·
   have h3:part P m j<=part P 0 j:=by
    unfold part;have:∀(f g:Nat->Nat) (n:Nat),(∀i,i<n->f i<=g i)->gV f n<=gV g n:=by
     intro f g n h
     induction n with
     |zero=>simp [gV]
     |succ n ih=>
      simp only [gV];have:=ih (fun i hi=>h i (by omega));have:=h n (by omega);omega
    apply this;intro i _;split
    ·rename_i h4;rw [if_pos ⟨h4.1,Nat.zero_le _⟩];exact Nat.le_refl _
    ·exact Nat.zero_le _
   have:=sg hP (m:=0) hj (by omega);omega
end
theorem tM{α:Type}(f g:Nat->α){n k:Nat}{v:α}(hk:k<n)(h:∀i,i<n->g i=if i=k then v else f i):((List.range n).map f).set k v=(List.range n).map g:=by
 apply List.ext_getElem?;intro i;rw [List.getElem?_set];by_cases e:k=i
 ·subst e
  rw [if_pos rfl,if_pos (by simpa using hk)];simp [hk,h k hk]
 ·rw [if_neg e]
  rcases Nat.lt_or_ge i n with hi|hi
  ·have:=h i hi
   rw [if_neg (fun x=>e x.symm)]at this;simp [hi,this]
  ·rw [List.getElem?_eq_none (by simpa using hi),List.getElem?_eq_none (by simpa using hi)]
end Go.Proofs.YtfleamccglihoaaGreatDoor.Tr
namespace Go.bE
open Go.RowKit
theorem aY{σ:Type}(e:σ->Env)(I:σ->World->Prop)(μ:σ->World->Nat)(s:σ)(w:World)(Q:aM)(l:Nat)(ρ:Env)(w':World):bR e I μ s w Q (.exit l) ρ w'=Q (.exit l) ρ w':=rfl
def zeroOf(P:Program)(e:TypeId):Option (Array Value):=
 match P.info? e with
 |some i=>match i.zero with
  |some z=>some z.cells
  |none=>none
 |none=>none
theorem DS{P:Program}{t e:TypeId}{bytes:Nat}(T:AZ P t e 1 bytes){z:Value}(hz:zeroOf P e=some #[z]){n:Nat}(hn:n<=maxLen)(hb:bytes*n<=281474976710656)(w:World):
 ∃w',(Instr.makeSlice t (.int .i64 (n:Int)) (.int .i64 (n:Int))).run P w=.ok (.slice (some ⟨w.heap.size,0,none⟩) n n) w'/\
  Row w' w.heap.size e 1 (some ⟨w.heap.size,0,none⟩) n n (List.replicate n z)/\Kept Nil w w':=by
 obtain⟨i,z',hi,Ys,hs,FU,FD⟩:=T.inf;have hc:z'.cells= #[z]:=by
  unfold zeroOf at hz;simp only [hi,Ys]at hz;exact Option.some.inj hz
 obtain⟨w',hr,fW,hg⟩:=run_make_full (P:=P) (w:=w) w.heap.size t e i z' 1 T.mY hi Ys hs .i64 .i64 n (by rw [FU];exact hb) hn (Nat.le_refl _);rw [hc,Nat.mul_one,toList_madeCells_one]at fW;exact⟨w',hr,fW,(Kept.refl Nil w).grown hg (fun k hk=>by cases hk)⟩
end Go.bE
namespace Go.Proofs.YtfleamccglihoaaGreatDoor.Tr
open Go.Proofs.Tryz
open Go Go.bE Go.RowKit
section
variable{w w':World}{S:Nat->Prop}{g:Nat}{T:List Nd}{d:Int}{K:Value->World->Prop}
theorem TV.bound{b c:Nat}{L:List (Nd×Value)}(h:TV w S g T d b c L):TV w (fun k=>S k/\k<w.heap.size) g T d b c L:= {
 top:=h.top
 fst:=h.fst
 row:=h.row
 oW:=fun i p hp=>let ⟨A,m,h1⟩:=h.oW i p hp;⟨A,m,h1.val,h1.row,fun k e=>⟨h1.jc k e,let ⟨_,_,hc⟩:=Row.bS h1.row e;bf hc⟩⟩
 apart:=h.apart
 gg:=⟨h.gg,bf h.top⟩
 fh:=⟨h.fh,let ⟨_,hc⟩:=h.tz;bf hc⟩}
theorem TV.mono{S':Nat->Prop}{b c:Nat}{L:List (Nd×Value)}(h:TV w S g T d b c L)(hs:∀k,S k->S' k):TV w S' g T d b c L:= {
 top:=h.top
 fst:=h.fst
 row:=h.row
 oW:=fun i p hp=>let ⟨A,m,h1⟩:=h.oW i p hp;⟨A,m,h1.val,h1.row,fun k e=>hs k (h1.jc k e)⟩
 apart:=h.apart
 gg:=hs _ h.gg
 fh:=hs _ h.fh}
theorem nh.bound(h:nh w S g T d):nh w (fun k=>S k/\k<w.heap.size) g T d:=let ⟨b,c,L,h⟩:=h;⟨b,c,L,h.bound⟩
theorem nh.mono{S':Nat->Prop}(h:nh w S g T d)(hs:∀k,S k->S' k):nh w S' g T d:=let ⟨b,c,L,h⟩:=h;⟨b,c,L,h.mono hs⟩
def us(f:Nat->Nat)(n:Nat):List Value:=(List.range n).map fun j=>.int .u64 (f j:Int)
theorem ns(f:Nat->Nat){n j:Nat}(hj:j<n):(us f n)[j]? =some (.int .u64 (f j:Int)):=by simp [us,hj]
theorem nr(f:Nat->Nat)(n:Nat):(us f n).length=n:=by simp [us]
theorem vf{f f':Nat->Nat}{n k:Nat}(hk:k<n)(h:∀i,i<n->i≠k->f' i=f i):(us f n).set k (.int .u64 (f' k:Int))=us f' n:=by
 unfold us;apply tM _ _ hk;intro i hi;by_cases e:i=k
 ·subst e;rw [if_pos rfl]
 ·rw [if_neg e,h i hi e]
theorem M8:AZ prog xT eJ 1 8:=⟨by kernel_rfl,by kernel_rfl⟩
set_option maxRecDepth 100000 in
theorem ym(h:nh w S g T d)(hP:nf (bG T))(hlen:T.length<=1000000)
 (hK:∀w' A,Row w' w.heap.size eJ 1 A T.length T.length (us (sz (bG T)) T.length)->Kept Nil w w'->K (.slice A T.length T.length) w'):
 bm prog bn.id #[.pointer (some ⟨g,0,none⟩)] w K:=by
 obtain⟨b,c,L,h0⟩:=h;have rM:=dG T;obtain⟨w5,CW,qn,k5⟩:=DS M8 (z:=.int .u64 0) (by kernel_rfl) (n:=T.length) (by unfold maxLen;omega) (by omega) w;refine bn.of (h0.go ⟨_,_,_,w5,CW,?_⟩);have h5:=h0.kept k5;refine h5.go ?_;generalize hA:(⟨w.heap.size,0,none⟩:Addr)=A at*;refine bn.cf (e:=some A) (i:=T.length) (I:=fun i w'=>∃m:Nat,i=(T.length:Int)-m/\m<=T.length/\Row w' w.heap.size eJ 1 (some A) T.length T.length (us (gF (bG T) m) T.length)/\Kept Nil w w')
  (μ:=fun i _=>((T.length:Int)-i).toNat) (s:=0) ⟨T.length,by omega,Nat.le_refl _,?_,k5⟩ ?_
 ·have:List.replicate T.length (Value.int .u64 0)=us (gF (bG T) T.length) T.length:=by
   apply List.ext_getElem?;intro j;rcases Nat.lt_or_ge j T.length with hj|hj
   ·rw [ns _ hj,<-rM,yv j (by omega)]
    simp [rM,hj]
   ·rw [List.getElem?_eq_none (by simpa using hj),List.getElem?_eq_none (by rw [nr];exact hj)]
  rw [<-this];exact qn
 ·rintro i w' ⟨m,rfl,hm,row,kw⟩
  have h':=h0.kept kw;refine Split.dec (fun cK=>?_) (fun iK=>?_)
  ·
   obtain⟨n,rfl⟩:∃n,m=n+1:=⟨m-1,by omega⟩;have hn:n<T.length:=by omega
   refine h'.go ?_;have ew:i64.wrap (i64.wrap ((T.length:Int)-1)-((T.length:Int)-((n+1:Nat):Int)))=(n:Int):=by
    rw [iI (x:=(T.length:Int)-1) (by omega) (by omega),iI (by omega) (by omega)];omega
   rw [ew];have hb:0<=(n:Int)/\(n:Int)<(T.length:Int):=⟨by omega,by omega⟩;subst hA;have Pr:n<(us (gF (bG T) (n+1)) T.length).length:=by rw [nr];exact hn
   refine⟨hb,_,by rw [kZ,Int.toNat_natCast,Nat.mul_one];exact Row.cell row (ns _ hn),hb,by rw [kZ,Int.toNat_natCast,Nat.mul_one];exact Row.wr row Pr,?_⟩;intro vS;have Z6:vS=w'.setCell ⟨w.heap.size,n,none⟩ (.int .u64 (u64.wrap ((gF (bG T) (n+1) n:Int)+1))):=by simp only [vS,kZ,Int.toNat_natCast,Nat.mul_one]
   have YN:=BG hP (n:=n) (by omega);have hle:gF (bG T) (n+1) n<=(bG T).length:=z7 hP _ _ (by omega);have lN:=Row.set row Pr (.int .u64 (u64.wrap ((gF (bG T) (n+1) n:Int)+1)));rw [<-Z6]at lN;have Ij:Kept Nil w vS:=by rw [Z6];exact kw.setCell (fun hh=>absurd hh (Nat.lt_irrefl _)) _
   clear_value vS;rw [dY (x:=(gF (bG T) (n+1) n:Int)+1) (by omega) (by omega)]at lN;rw [show(gF (bG T) (n+1) n:Int)+1=((if n=n then sz (bG T) n else gF (bG T) (n+1) n:Nat):Int)from by rw [if_pos rfl];omega,
    vf (f':=fun j=>if j=n then sz (bG T) n else gF (bG T) (n+1) j) hn (fun i _ fJ=>by rw [if_neg fJ])]at lN
   have Lz:=h0.kept Ij;obtain⟨nd,gL⟩:=eR hn;obtain⟨v,hv⟩:=Lz.at_ gL;refine Lz.go ⟨hb,Lz.E1 hv ?_⟩;have oE:=jK gL;refine Split.dec (fun hp=>?_) (fun hp=>?_)
   ·
    have Az:0<n:=by
     rcases Nat.eq_zero_or_pos n with rfl|h
     ·rw [hP.root]at oE;have:=Option.some.inj oE;omega
     ·exact h
    obtain⟨p,RW,ep⟩:=hP.up n _ Az oE;rw [ep]at hp⊢;have hpp:(bG T)[n]? =some (p:Int):=by rw [oE,ep]
    intro Fz;have JZ:Kept Nil w Fz:=Ij.drew;have Aa:Row Fz w.heap.size eJ 1 (some ⟨w.heap.size,0,none⟩) T.length T.length (us (fun j=>if j=n then sz (bG T) n else gF (bG T) (n+1) j) T.length):=lN;clear_value Fz;have IY:0<=(p:Int)/\(p:Int)<(T.length:Int):=⟨by omega,by omega⟩;have Pq:p<(us (fun j=>if j=n then sz (bG T) n else gF (bG T) (n+1) j) T.length).length:=by rw [nr];omega
    have gp:=ns (fun j=>if j=n then sz (bG T) n else gF (bG T) (n+1) j) (n:=T.length) (j:=p) (by omega);have gn:=ns (fun j=>if j=n then sz (bG T) n else gF (bG T) (n+1) j) (n:=T.length) (j:=n) (by omega);simp only [if_neg (show p≠n by omega)]at gp;simp only [if_pos]at gn;refine⟨IY,_,by rw [kZ,Int.toNat_natCast,Nat.mul_one];exact Row.cell Aa gp,hb,_,by rw [kZ,Int.toNat_natCast,Nat.mul_one];exact Row.cell Aa gn,IY,by rw [kZ,Int.toNat_natCast,Nat.mul_one];exact Row.wr Aa Pq,?_⟩;intro tK;have Z4:tK=Fz.setCell ⟨w.heap.size,p,none⟩ (.int .u64 (u64.wrap ((gF (bG T) (n+1) p:Int)+(sz (bG T) n:Int)))):=by simp only [tK,kZ,Int.toNat_natCast,Nat.mul_one]
    have DF:=Row.set Aa Pq (.int .u64 (u64.wrap ((gF (bG T) (n+1) p:Int)+(sz (bG T) n:Int))));rw [<-Z4]at DF;have Mh:Kept Nil w tK:=by rw [Z4];exact JZ.setCell (fun hh=>absurd hh (Nat.lt_irrefl _)) _
    clear_value tK;have acN:gF (bG T) (n+1) p<=(bG T).length:=z7 hP _ _ (by omega);have acM:sz (bG T) n<=(bG T).length:=ux _;have ou:=BF hP hpp;have CS:=ou p;rw [if_pos rfl]at CS;rw [dY (x:=(gF (bG T) (n+1) p:Int)+(sz (bG T) n:Int)) (by omega) (by omega),
     show(gF (bG T) (n+1) p:Int)+(sz (bG T) n:Int)=(gF (bG T) n p:Int)from by omega,
     vf (f':=gF (bG T) n) (by omega) (fun i _ fJ=>by rw [ou i,if_neg fJ])]at DF
    rw [iI (x:=(T.length:Int)-((n+1:Nat):Int)+1) (by omega) (by omega)];exact⟨_,rfl,⟨n,by omega,by omega,DF,Mh⟩,by simp only;omega⟩
   ·
    have Az:n=0:=by
     rcases Nat.eq_zero_or_pos n with h|h
     ·exact h
     ·obtain⟨p,_,ep⟩:=hP.up n _ h oE
      omega
    subst Az;have:us (fun j=>if j=0 then sz (bG T) 0 else gF (bG T) (0+1) j) T.length=us (gF (bG T) 0) T.length:=by
     congr 1
     funext j
     rw [BH]
    rw [this]at lN;rw [iI (x:=(T.length:Int)-((0+1:Nat):Int)+1) (by omega) (by omega)];exact⟨_,rfl,⟨0,by omega,by omega,lN,Ij⟩,by simp only;omega⟩
  ·have:m=0:=by omega
   subst this;rw [aY,bn.dB];refine hK w' (some A) ?_ kw;have e:gF (bG T) 0=sz (bG T):=funext wy;rw [e]at row;exact row
end
section
variable{w:World}{K:Value->World->Prop}
theorem bm.wK{f:FuncId}{args:Array Value}{v:Value}(h:Calls prog f args w fun e w'=>e=.returned v/\w'=w)(hK:K v w):bm prog f args w K:=
 h.mono fun e w' ⟨he,hw⟩=>⟨v,he,by rw [hw];exact hK⟩
theorem ud(x y:Nat)(hx:x<18446744073709551616)(hy:y<18446744073709551616)
 (hK:K (.tuple #[.int .u64 ((x*y/18446744073709551616:Nat):Int),.int .u64 ((x*y%18446744073709551616:Nat):Int)]) w):
 bm prog bits_Mul64.id #[.int .u64 x,.int .u64 y] w K:=bm.wK (Any.bits_Mul64 Tryz.Gw x y hx hy w) hK
theorem uf(x:Nat)(hx:x<18446744073709551616)(hK:K (.int .i64 (Lib.bitLen x)) w):bm prog bits_Len64.id #[.int .u64 x] w K:=
 bm.wK (Any.bits_Len64 Tryz.Gx x w (by omega) (by omega)) hK
end
theorem nU:∀(f x:Nat),x<2 ^ f->x<2 ^ (Lib.bitLenAux f x)/\(x≠0->2 ^ (Lib.bitLenAux f x)<=2*x)
 |0,x,h=>by simp at h;subst h;simp [Lib.bitLenAux]
 |f+1,x,h=>by
  unfold Lib.bitLenAux;by_cases e:x=0
  ·simp [e]
  ·rw [if_neg e]
   have ih:=nU f (x/2) (by rw [Nat.pow_succ]at h;omega);rw [Nat.pow_add,Nat.pow_one];refine⟨by omega,fun _=>?_⟩;by_cases e2:x/2=0
   ·have:x=1:=by omega
    subst this;cases f<;>simp [Lib.bitLenAux]
   ·have:=ih.2 e2
    omega
theorem bitLen_spec{y:Nat}(h0:y≠0)(hy:y<18446744073709551616):1<=Lib.bitLen y/\Lib.bitLen y<=64/\9223372036854775808<=y*2 ^ (64-Lib.bitLen y)/\y*2 ^ (64-Lib.bitLen y)<18446744073709551616:=by
 have hs:=nU 64 y (by omega);have hle:=Lib.bitLenAux_le 64 y 64 (by omega)
 change Lib.bitLen y<=64 at hle
 change y<2 ^ (Lib.bitLen y)/\(y≠0->2 ^ (Lib.bitLen y)<=2*y)at hs
 have yT:=hs.2 h0;have hp:2 ^ Lib.bitLen y*2 ^ (64-Lib.bitLen y)=18446744073709551616:=by
  rw [<-Nat.pow_add,show Lib.bitLen y+(64-Lib.bitLen y)=64 by omega]
 have ko:0<2 ^ (64-Lib.bitLen y):=Nat.pow_pos (by omega);refine⟨?_,hle,?_,?_⟩
 ·rcases Nat.eq_zero_or_pos (Lib.bitLen y)with e|e
  ·rw [e]at hs;simp at hs;omega
  ·exact e
 ·have:=Nat.mul_le_mul_right (2 ^ (64-Lib.bitLen y)) yT
  rw [hp,Nat.mul_assoc]at this;omega
 ·rw [<-hp]
  exact Nat.mul_lt_mul_of_pos_right hs.1 ko
section
variable{Y n1 n0 u u1 q r:Nat}
theorem Fa(hY:Y=n1*4294967296+n0):q*Y=q*n1*4294967296+q*n0:=by rw [hY,Nat.mul_add,Nat.mul_assoc]
theorem dg1(hY:Y=n1*4294967296+n0)(hq:q*n1+r=u)(h:q*n0<=4294967296*r+u1):q*Y<=u*4294967296+u1:=by rw [Fa hY];omega
theorem dg2(hY:Y=n1*4294967296+n0)(hq:q*n1+r=u)(h:4294967296*r+u1<q*n0):u*4294967296+u1<q*Y:=by rw [Fa hY];omega
theorem W2(hu:u<Y)(FH:u1<4294967296)(h:4294967296<=q):u*4294967296+u1<q*Y:=by
 have:=Nat.mul_le_mul_right Y h;omega
theorem dg4(hY:Y=n1*4294967296+n0)(Az:n0<4294967296)(hu:u<Y)(hq:q*n1+r=u)(hr:4294967296<=r):q*Y<=u*4294967296+u1:=by
 have h1:q*n1<4294967296*n1:=by omega
 have h2:q<4294967296:=Nat.lt_of_mul_lt_mul_right h1;have h3:q*n0<=4294967296*4294967296:=Nat.mul_le_mul (by omega) (by omega);rw [Fa hY];omega
theorem Jc(hu:u<Y)(FH:u1<4294967296)(h:q*Y<=u*4294967296+u1):q<4294967296:=by
 rcases Nat.lt_or_ge q 4294967296 with h'|h'
 ·exact h'
 ·have:=W2 hu FH h';omega
theorem xI(FN:2147483648<=n1)(hu:u<18446744073709551616)(hq:q*n1+r=u):q<8589934592:=by
 rcases Nat.lt_or_ge q 8589934592 with h|h
 ·exact h
 ·have:=Nat.mul_le_mul h FN
  omega
end
theorem Cw{Y n1 n0 u u1:Nat}{quo rem s Di M0:Int}{Q:aM}{w:World}(hY:Y=n1*4294967296+n0)(Az:n0<4294967296)(FN:2147483648<=n1)(Hc:n1<4294967296)(hu:u<Y)(hY':Y<18446744073709551616)(FH:u1<4294967296)
 (hex:∀q r:Nat,q*Y<=u*4294967296+u1->u*4294967296+u1<(q+1)*Y->Q (.exit 0) (aT.e1 (Y:Int) quo rem s n1 n0 Di u1 M0 ((q:Int),(r:Int))) w)
 (q0 r0:Nat) (h0:q0*n1+r0=u) (Wm:u*4294967296+u1<(q0+1)*Y) (rz:r0<4294967296):
 Holds none [] prog 135 (.loop (lB (bB (sL (dZ (cS (aZ (body aT.fn)))))))) Q (aT.e1 (Y:Int) quo rem s n1 n0 Di u1 M0 ((q0:Int),(r0:Int))) w:=by
 refine aT.cf (I:=fun s w'=>w'=w/\∃q r:Nat,s=((q:Int),(r:Int))/\q*n1+r=u/\u*4294967296+u1<(q+1)*Y/\r<4294967296)
  (μ:=fun s _=>s.1.toNat) (s:=((q0:Int),(r0:Int))) ⟨rfl,q0,r0,rfl,h0,Wm,rz⟩ ?_
 rintro s w' ⟨hw,q,r,rfl,hq,hX,hr⟩;subst hw;have UC:=xI FN (by omega) hq;have down:u*4294967296+u1<q*Y->∃q' r':Nat,u64.wrap ((q:Int)-1)=(q':Int)/\u64.wrap ((r:Int)+(n1:Int))=(r':Int)/\q'*n1+r'=u/\u*4294967296+u1<(q'+1)*Y/\q'<q:=by
  intro h;have IC:1<=q:=by
   rcases Nat.eq_zero_or_pos q with e|e
   ·rw [e]at h;omega
   ·exact e
  refine⟨q-1,r+n1,?_,?_,?_,?_,by omega⟩
  ·rw [dY (by omega) (by omega)];omega
  ·rw [dY (by omega) (by omega)];omega
  ·have:q*n1=(q-1)*n1+n1:=by
    obtain⟨k,rfl⟩:∃k,q=k+1:=⟨q-1,by omega⟩;rw [Nat.succ_mul];rfl
   omega
  ·rwa [show q-1+1=q by omega]
 have step:∀q' r':Nat,q'*n1+r'=u->u*4294967296+u1<(q'+1)*Y->q'<q->∀b:Bool,b=decide ((r':Int)>=4294967296)->
  Split b (Q (.exit 0) (aT.e1 (Y:Int) quo rem s n1 n0 Di u1 M0 ((q':Int),(r':Int))) w') (bR (aT.e1 (Y:Int) quo rem s n1 n0 Di u1 M0) (fun s lf=>lf=w'/\∃q r:Nat,s=((q:Int),(r:Int))/\q*n1+r=u/\u*4294967296+u1<(q+1)*Y/\r<4294967296) (fun s _=>s.1.toNat) ((q:Int),(r:Int)) w' Q .normal (aT.e1 (Y:Int) quo rem s n1 n0 Di u1 M0 ((q':Int),(r':Int))) w'):=by
  intro q' r' h1 h2 h3 b hb;subst hb;refine Split.dec (fun iK=>?_) (fun cK=>?_)
  ·exact hex q' r' (dg4 hY Az hu h1 (by omega)) h2
  ·exact⟨_,rfl,⟨rfl,q',r',rfl,h1,h2,by omega⟩,by simp only;omega⟩
 refine Split.dec (fun iK=>?_) (fun cK=>?_)
 ·obtain⟨q',r',eq,er,h1,h2,h3⟩:=down (W2 hu FH (by simp only at iK;omega))
  simp only [eq,er];exact step q' r' h1 h2 h3 _ rfl
 ·simp only at cK
  have hqn:q*n0<18446744073709551616:=by
   have:q*n0<=4294967295*4294967295:=Nat.mul_le_mul (by omega) (by omega);omega
  have e1:u64.wrap ((q:Int)*(n0:Int))=((q*n0:Nat):Int):=by rw [<-Int.natCast_mul,dY (by omega) (by omega)]
  have e2:u64.wrap (u64.wrap (4294967296*(r:Int))+(u1:Int))=((4294967296*r+u1:Nat):Int):=by
   rw [dY (x:=4294967296*(r:Int)) (by omega) (by omega),dY (by omega) (by omega)];omega
  simp only [e1,e2];refine Split.dec (fun xq=>?_) (fun hle=>?_)
  ·obtain⟨q',r',eq,er,h1,h2,h3⟩:=down (dg2 hY hq (by omega))
   simp only [eq,er];exact step q' r' h1 h2 h3 _ rfl
  ·exact hex q r (dg1 hY hq (by omega)) hX
theorem Cu{Y n1 n0 u u1:Nat}{quo rem s q1 Dj:Int}{Q:aM}{w:World}(hY:Y=n1*4294967296+n0)(Az:n0<4294967296)(FN:2147483648<=n1)(Hc:n1<4294967296)(hu:u<Y)(hY':Y<18446744073709551616)(FH:u1<4294967296)
 (hex:∀q r:Nat,q*Y<=u*4294967296+u1->u*4294967296+u1<(q+1)*Y->Q (.exit 2) (aT.e2 (Y:Int) quo rem s n1 n0 u1 q1 Dj ((r:Int),(q:Int))) w)
 (q0 r0:Nat) (h0:q0*n1+r0=u) (Wm:u*4294967296+u1<(q0+1)*Y) (rz:r0<4294967296):
 Holds none [] prog 135 (.loop (lB (bB (sL (dZ (dZ (aZ (body aT.fn)))))))) Q (aT.e2 (Y:Int) quo rem s n1 n0 u1 q1 Dj ((r0:Int),(q0:Int))) w:=by
 refine aT.iN (I:=fun s w'=>w'=w/\∃q r:Nat,s=((r:Int),(q:Int))/\q*n1+r=u/\u*4294967296+u1<(q+1)*Y/\r<4294967296)
  (μ:=fun s _=>s.2.toNat) (s:=((r0:Int),(q0:Int))) ⟨rfl,q0,r0,rfl,h0,Wm,rz⟩ ?_
 rintro s w' ⟨hw,q,r,rfl,hq,hX,hr⟩;subst hw;have UC:=xI FN (by omega) hq;have down:u*4294967296+u1<q*Y->∃q' r':Nat,u64.wrap ((q:Int)-1)=(q':Int)/\u64.wrap ((r:Int)+(n1:Int))=(r':Int)/\q'*n1+r'=u/\u*4294967296+u1<(q'+1)*Y/\q'<q:=by
  intro h;have IC:1<=q:=by
   rcases Nat.eq_zero_or_pos q with e|e
   ·rw [e]at h;omega
   ·exact e
  refine⟨q-1,r+n1,?_,?_,?_,?_,by omega⟩
  ·rw [dY (by omega) (by omega)];omega
  ·rw [dY (by omega) (by omega)];omega
  ·have:q*n1=(q-1)*n1+n1:=by
    obtain⟨k,rfl⟩:∃k,q=k+1:=⟨q-1,by omega⟩;rw [Nat.succ_mul];rfl
   omega
  ·rwa [show q-1+1=q by omega]
 have step:∀q' r':Nat,q'*n1+r'=u->u*4294967296+u1<(q'+1)*Y->q'<q->∀b:Bool,b=decide ((r':Int)>=4294967296)->
  Split b (Q (.exit 2) (aT.e2 (Y:Int) quo rem s n1 n0 u1 q1 Dj ((r':Int),(q':Int))) w') (bR (aT.e2 (Y:Int) quo rem s n1 n0 u1 q1 Dj) (fun s lf=>lf=w'/\∃q r:Nat,s=((r:Int),(q:Int))/\q*n1+r=u/\u*4294967296+u1<(q+1)*Y/\r<4294967296) (fun s _=>s.2.toNat) ((r:Int),(q:Int)) w' Q .normal (aT.e2 (Y:Int) quo rem s n1 n0 u1 q1 Dj ((r':Int),(q':Int))) w'):=by
  intro q' r' h1 h2 h3 b hb;subst hb;refine Split.dec (fun iK=>?_) (fun cK=>?_)
  ·exact hex q' r' (dg4 hY Az hu h1 (by omega)) h2
  ·exact⟨_,rfl,⟨rfl,q',r',rfl,h1,h2,by omega⟩,by simp only;omega⟩
 refine Split.dec (fun iK=>?_) (fun cK=>?_)
 ·obtain⟨q',r',eq,er,h1,h2,h3⟩:=down (W2 hu FH (by simp only at iK;omega))
  simp only [eq,er];exact step q' r' h1 h2 h3 _ rfl
 ·simp only at cK
  have hqn:q*n0<18446744073709551616:=by
   have:q*n0<=4294967295*4294967295:=Nat.mul_le_mul (by omega) (by omega);omega
  have e1:u64.wrap ((q:Int)*(n0:Int))=((q*n0:Nat):Int):=by rw [<-Int.natCast_mul,dY (by omega) (by omega)]
  have e2:u64.wrap (u64.wrap (4294967296*(r:Int))+(u1:Int))=((4294967296*r+u1:Nat):Int):=by
   rw [dY (x:=4294967296*(r:Int)) (by omega) (by omega),dY (by omega) (by omega)];omega
  simp only [e1,e2];refine Split.dec (fun xq=>?_) (fun hle=>?_)
  ·obtain⟨q',r',eq,er,h1,h2,h3⟩:=down (dg2 hY hq (by omega))
   simp only [eq,er];exact step q' r' h1 h2 h3 _ rfl
  ·exact hex q r (dg1 hY hq (by omega)) hX
theorem Re(a:Nat)(ha:a<18446744073709551616):u64.wrap ((BitVec.ofInt 64 (a:Int)&&& BitVec.ofInt 64 (4294967295:Int)).toNat:Int)=((a%4294967296:Nat):Int):=by
 have h:=bits_and_u64_nat a 4294967295 ha (by omega);have e:a&&& 4294967295=a%4294967296:=Nat.and_two_pow_sub_one_eq_mod a 32;rw [e]at h;exact h
theorem orN(a b s:Nat)(ha:a*2 ^ s<18446744073709551616)(hb:b<2 ^ s)(ub:b<18446744073709551616):
 u64.wrap ((BitVec.ofInt 64 ((a*2 ^ s:Nat):Int)|||BitVec.ofInt 64 (b:Int)).toNat:Int)=((a*2 ^ s+b:Nat):Int):=by
 have h:=bits_or_u64_nat (a*2 ^ s) b ha ub;rw [Nat.mul_comm,<-Nat.two_pow_add_eq_or_of_lt hb,Nat.mul_comm]at h;exact h
theorem Na(a k:Nat):Int.fdiv (a:Int) (2 ^ k)=((a/2 ^ k:Nat):Int):=by
 rw [Int.fdiv_eq_ediv_of_nonneg _ (by exact Int.le_of_lt (Int.pow_pos (by omega)))];rw [Int.natCast_ediv,Int.natCast_pow];rfl
theorem S5(a k:Nat):(a:Int)*2 ^ k=((a*2 ^ k:Nat):Int):=by rw [Int.natCast_mul,Int.natCast_pow];rfl
theorem WS{N u L u1 u0 v a b:Nat}(hN:N=u*18446744073709551616+L)(hL:L=u1*4294967296+u0)(hv:u*4294967296+u1-a=v)(ha:a<=u*4294967296+u1)(hb:b<=v*4294967296+u0):a*4294967296+b<=N:=by omega
theorem WR{N u L u1 u0 v a b:Nat}(hN:N=u*18446744073709551616+L)(hL:L=u1*4294967296+u0)(hv:u*4294967296+u1-a=v)(ha:a<=u*4294967296+u1)(hb:v*4294967296+u0<b):N<a*4294967296+b:=by omega
section
variable{w:World}{K:Value->World->Prop}
theorem mC(x:Nat)(hx:x<18446744073709551616)(hK:K (.int .i64 ((64-Lib.bitLen x:Nat):Int)) w):bm prog bits_LeadingZeros64.id #[.int .u64 x] w K:=by
 refine bits_LeadingZeros64.of (uf x hx ⟨_,rfl,?_⟩);have hle:=Lib.bitLen_le x 64 (by omega) (by omega)
 rwa [iI (by omega) (by omega),show(64:Int)-(Lib.bitLen x:Int)=((64-Lib.bitLen x:Nat):Int)by omega]
theorem ug(hi lo y:Nat)(RZ:lo<18446744073709551616)(hy:y<18446744073709551616)(Zl:hi<y)
 (hK:∀r w',Kept Nil w w'->K (.tuple #[.int .u64 (((hi*18446744073709551616+lo)/y:Nat):Int),.int .u64 r]) w'):
 bm prog aT.id #[.int .u64 hi,.int .u64 lo,.int .u64 y] w K:=by
 refine aT.of (Split.no (beq_eq_false_iff_ne.2 (by omega)) (Split.no (decide_eq_false (by omega)) ?_));by_cases h0:hi=0
 ·subst h0
  refine Split.yes rfl ?_;intro w6;refine⟨by omega,by omega,?_⟩;have e:u64.wrap ((lo:Int).tdiv (y:Int))=(((0*18446744073709551616+lo)/y:Nat):Int):=by
   rw [Int.tdiv_eq_ediv_of_nonneg (by omega),Nat.zero_mul,Nat.zero_add,<-Int.natCast_ediv];have:=Nat.div_le_self lo y;generalize lo/y=z at*;exact dY (by omega) (by omega)
  rw [e];exact hK _ w6 (Kept.refl Nil w).drew
 ·refine Split.no (beq_eq_false_iff_ne.2 (by omega)) (mC y hy ⟨_,rfl,?_⟩)
  obtain⟨FV,V7,hY1,hY2⟩:=bitLen_spec (y:=y) (by omega) hy;have hs:64-Lib.bitLen y<64:=by omega
  generalize 64-Lib.bitLen y=s at*;have eS:u64.wrap (s:Int)=(s:Int):=dY (by omega) (by omega);have eS2:u64.wrap ((64:Int)-(s:Int))=((64-s:Nat):Int):=by rw [dY (by omega) (by omega)];omega
  have em1:min s 64=s:=by omega
  have em2:min (64-s) 64=64-s:=by omega
  have em3:min (32:Int).toNat 64=32:=rfl;have Mt:2 ^ (64-s)*2 ^ s=18446744073709551616:=by rw [<-Nat.pow_add,show 64-s+s=64 by omega]
  have ko:0<2 ^ s:=Nat.pow_pos (by omega);have OR:0<2 ^ (64-s):=Nat.pow_pos (by omega);simp only [eS,eS2,Int.toNat_natCast,em1,em2,em3,S5];generalize ZI:y*2 ^ s=Y at*;have hhs:hi*2 ^ s<18446744073709551616:=by
   have:hi*2 ^ s<y*2 ^ s:=Nat.mul_lt_mul_of_pos_right Zl ko;omega
  have hlq:lo/2 ^ (64-s)<2 ^ s:=by
   rw [Nat.div_lt_iff_lt_mul OR,Nat.mul_comm,Mt];exact RZ
  have Vb:lo/2 ^ (64-s)<18446744073709551616:=Nat.lt_of_le_of_lt (Nat.div_le_self _ _) RZ;have eY:u64.wrap (Y:Int)=(Y:Int):=dY (by omega) (by omega);have eH:u64.wrap ((hi*2 ^ s:Nat):Int)=((hi*2 ^ s:Nat):Int):=dY (by omega) (by omega);have eL:u64.wrap ((lo*2 ^ s:Nat):Int)=((lo*2 ^ s%18446744073709551616:Nat):Int):=by rw [IntKind.wrap_u64];omega
  have W1:∀a:Nat,Int.fdiv (a:Int) (2 ^ 32)=((a/4294967296:Nat):Int):=fun a=>Na a 32;simp only [eY,eH,eL,W1,Na lo,orN hi _ s hhs hlq Vb,Re Y (by omega),Re _ (Nat.mod_lt (lo*2 ^ s) (by omega:18446744073709551616>0))];have hN:(hi*18446744073709551616+lo)*2 ^ s=(hi*2 ^ s+lo/2 ^ (64-s))*18446744073709551616+lo*2 ^ s%18446744073709551616:=by
   have h1:lo*2 ^ s/18446744073709551616=lo/2 ^ (64-s):=by
    rw [<-Mt,Nat.mul_div_mul_right _ _ ko]
   have h2:=Nat.div_add_mod (lo*2 ^ s) 18446744073709551616;rw [h1]at h2;rw [Nat.add_mul,Nat.mul_right_comm];omega
  have adK:(hi*18446744073709551616+lo)*2 ^ s<Y*18446744073709551616:=by
   have h1:hi*18446744073709551616+lo<y*18446744073709551616:=by omega
   have:=Nat.mul_lt_mul_of_pos_right h1 ko;rw [Nat.mul_right_comm,ZI]at this;exact this
  have IB:(hi*18446744073709551616+lo)*2 ^ s/Y=(hi*18446744073709551616+lo)/y:=by rw [<-ZI,Nat.mul_div_mul_right _ _ ko]
  rw [<-IB]at hK;clear IB;generalize (hi*18446744073709551616+lo)*2 ^ s=N at*;have hL:lo*2 ^ s%18446744073709551616<18446744073709551616:=Nat.mod_lt _ (by omega);generalize lo*2 ^ s%18446744073709551616=L at*;generalize hi*2 ^ s+lo/2 ^ (64-s)=u at*;have hu:u<Y:=by omega
  have FN:2147483648<=Y/4294967296:=by omega
  have Hc:Y/4294967296<4294967296:=by omega
  have Az:Y%4294967296<4294967296:=by omega
  have Wl:Y=Y/4294967296*4294967296+Y%4294967296:=by omega
  have FH:L/4294967296<4294967296:=by omega
  have T9:L%4294967296<4294967296:=by omega
  have ZO:L=L/4294967296*4294967296+L%4294967296:=by omega
  generalize Y/4294967296=n1 at*;generalize Y%4294967296=n0 at*;generalize L/4294967296=u1 at*;generalize L%4294967296=u0 at*;have I9:∀v:Nat,v<18446744073709551616->u64.wrap ((v:Int).tdiv (n1:Int))=((v/n1:Nat):Int)/\u64.wrap ((v:Int)-u64.wrap (((v/n1:Nat):Int)*(n1:Int)))=((v%n1:Nat):Int)/\v/n1*n1+v%n1=v/\v%n1<n1:=by
   intro v hv;have h1:=Nat.div_le_self v n1;have h2:=Nat.div_add_mod' v n1;refine⟨?_,?_,h2,Nat.mod_lt _ (by omega)⟩
   ·rw [Int.tdiv_eq_ediv_of_nonneg (by omega),<-Int.natCast_ediv]
    generalize v/n1=z at*;exact dY (by omega) (by omega)
   ·rw [<-Int.natCast_mul,dY (x:=((v/n1*n1:Nat):Int)) (by omega) (by omega),dY (by omega) (by omega)]
    omega
  have first:∀v d:Nat,v<Y->d<4294967296->v*4294967296+d<(v/n1+1)*Y:=by
   intro v d hv hd;have h2:=Nat.div_add_mod' v n1;have h3:=Nat.mod_lt v (show 0<n1 by omega);have h4:v+1<=(v/n1+1)*n1:=by rw [Nat.succ_mul];omega
   have h5:(v+1)*4294967296<=(v/n1+1)*n1*4294967296:=Nat.mul_le_mul_right _ h4;have h6:(v/n1+1)*n1*4294967296<=(v/n1+1)*Y:=by
    have h7:n1*4294967296<=Y:=Nat.le_trans (Nat.le_add_right _ n0) (Nat.le_of_eq Wl.symm);rw [Nat.mul_assoc];exact Nat.mul_le_mul_left _ h7
   omega
  obtain⟨g1,g2,g3,g4⟩:=I9 u (by omega);simp only [g1,g2];refine⟨by omega,by omega,by omega,by omega,by omega,by omega,by omega,?_⟩;refine Cw Wl Az FN Hc hu (by omega) FH ?_ (u/n1) (u%n1) g3 (first u u1 hu FH) (by omega);intro q r IC Mr;rw [show aT.e1 (Y:Int) 0 0 (s:Int) (n1:Int) (n0:Int) (u:Int) (u1:Int) (u0:Int) ((q:Int),(r:Int))= [(2,.int .u64 (Y:Int)),(6,.int .u64 0),(7,.int .u64 0),(8,.int .u64 (s:Int)),(9,.int .u64 (n1:Int)),(10,.int .u64 (n0:Int)),(11,.int .u64 (u:Int)),(13,.int .u64 (u1:Int)),(14,.int .u64 (u0:Int)),(15,.int .u64 (q:Int)),(16,.int .u64 (r:Int))]from rfl];rw [aT.dB];have hqB:=Jc hu FH IC;rw [Nat.succ_mul]at Mr;have hp:u64.wrap (u64.wrap (u64.wrap ((u:Int)*4294967296)+(u1:Int))-u64.wrap ((q:Int)*(Y:Int)))=((u*4294967296+u1-q*Y:Nat):Int):=by
   rw [<-Int.natCast_mul q Y];simp only [IntKind.wrap_u64];generalize q*Y=p at*;omega
  unfold aT.cX;simp only [hp];have hv:u*4294967296+u1-q*Y<Y:=by omega
  generalize YD:u*4294967296+u1-q*Y=v at*;obtain⟨g1',g2',g3',g4'⟩:=I9 v (by omega);simp only [g1',g2'];refine⟨by omega,?_⟩;refine Cu Wl Az FN Hc hv (by omega) T9 ?_ (v/n1) (v%n1) g3' (first v u0 hv T9) (by omega);intro q' r' OP UD;rw [show aT.e2 (Y:Int) 0 0 (s:Int) (n1:Int) (n0:Int) (u0:Int) (q:Int) (v:Int) ((r':Int),(q':Int))= [(2,.int .u64 (Y:Int)),(6,.int .u64 0),(7,.int .u64 0),(8,.int .u64 (s:Int)),(9,.int .u64 (n1:Int)),(10,.int .u64 (n0:Int)),(14,.int .u64 (u0:Int)),(15,.int .u64 (q:Int)),(16,.int .u64 (r':Int)),(17,.int .u64 (v:Int)),(18,.int .u64 (q':Int))]from rfl];rw [aT.lL];have acm:=Jc hv T9 OP;refine⟨by omega,?_⟩;have Uk:u64.wrap (u64.wrap ((q:Int)*4294967296)+(q':Int))=((N/Y:Nat):Int):=by
   rw [dY (x:=(q:Int)*4294967296) (by omega) (by omega),dY (by omega) (by omega)];have:N/Y=q*4294967296+q':=by
    apply Nat.div_eq_of_lt_le
    ·rw [Nat.add_mul,Nat.mul_right_comm]
     exact WS hN ZO YD IC OP
    ·rw [Nat.add_assoc,Nat.add_mul,Nat.mul_right_comm]
     exact WR hN ZO YD IC UD
   rw [this];omega
  rw [Uk];exact hK _ w (Kept.refl Nil w)
end
end Go.Proofs.YtfleamccglihoaaGreatDoor.Tr
namespace Go.Proofs.YtfleamccglihoaaGreatDoor.Tr
open Go.Proofs.Tryz
structure jR(T T':List Nd):Prop where
 len:T'.length=T.length
 at_:∀(i:Nat) nd,T[i]? =some nd->∃nd',T'[i]? =some nd'/\nd'.parent=nd.parent/\nd'.ch=nd.ch
theorem jR.refl(T:List Nd):jR T T:=⟨rfl,fun _ nd h=>⟨nd,h,rfl,rfl⟩⟩
theorem jR.trans{T T' AX:List Nd}(h:jR T T')(h':jR T' AX):jR T AX:=⟨h'.len.trans h.len,fun i nd hi=>by
 obtain⟨nd',h1,h2,h3⟩:=h.at_ i nd hi;obtain⟨Ti,g1,g2,g3⟩:=h'.at_ i nd' h1;exact⟨Ti,g1,g2.trans h2,g3.trans h3⟩⟩
theorem jR.back{T T':List Nd}(h:jR T T'){i:Nat}{nd':Nd}(hi:T'[i]? =some nd'):∃nd,T[i]? =some nd/\nd'.parent=nd.parent/\nd'.ch=nd.ch:=by
 have cK:=(lgeS hi).1;obtain⟨nd,gL⟩:=eR (T:=T) (i:=i) (by rw [<-h.len];exact cK);obtain⟨x,h1,h2,h3⟩:=h.at_ i nd gL;rw [hi]at h1;cases h1;exact⟨nd,gL,h2,h3⟩
theorem jR.bG{T T':List Nd}(h:jR T T'):bG T'=bG T:=by
 apply List.ext_getElem?;intro i;rcases Nat.lt_or_ge i T.length with hi|hi
 ·obtain⟨nd,gL⟩:=eR hi
  obtain⟨nd',h1,h2,_⟩:=h.at_ i nd gL;rw [jK gL,jK h1,h2]
 ·rw [List.getElem?_eq_none (by rw [dG,h.len];exact hi),List.getElem?_eq_none (by rw [dG];exact hi)]
theorem jR.shape{T T':List Nd}(h:jR T T')(hS:Shape T):Shape T':=⟨by rw [h.bG];exact hS.par,fun i nd' hi=>by
 obtain⟨nd,gL,_,h3⟩:=h.back hi;rw [h.bG,h3,hS.ch i nd gL]⟩
theorem jR.set{T:List Nd}{i:Nat}{nd nd':Nd}(hi:T[i]? =some nd)(h1:nd'.parent=nd.parent)(h2:nd'.ch=nd.ch):jR T (T.set i nd'):=
 ⟨by simp,fun j x hj=>by
   by_cases e:i=j
   ·subst e
    rw [hi]at hj;cases hj;exact⟨nd',gJ hi,h1,h2⟩
   ·exact⟨x,mz hj e,rfl,rfl⟩⟩
theorem uW{T:List Nd}{n p:Nat}{nd pd:Nd}{many:Int}(hn:T[n]? =some nd)(hp:T[p]? =some pd)(fJ:n≠p)(i:Nat):
 (sS T n p nd pd many)[i]? =if i=p then some {pd with free:=pd.free+many}else if i=n then some {nd with lo:=pd.free,hi:=pd.free+many-1,free:=pd.free}else T[i]? :=by
 unfold sS;by_cases e:i=p
 ·subst e
  rw [if_pos rfl];exact gJ (mz hp fJ)
 ·rw [if_neg e,List.getElem?_set_ne (fun h=>e h.symm)]
  by_cases e2:i=n
  ·subst e2
   rw [if_pos rfl];exact gJ hn
  ·rw [if_neg e2,List.getElem?_set_ne (fun h=>e2 h.symm)]
theorem sQ{T:List Nd}{n p:Nat}{nd pd:Nd}(many:Int)(hn:T[n]? =some nd)(hp:T[p]? =some pd)(fJ:n≠p):jR T (sS T n p nd pd many):=
 (jR.set (nd':= {nd with lo:=pd.free,hi:=pd.free+many-1,free:=pd.free}) hn rfl rfl).trans (jR.set (nd:=pd) (nd':= {pd with free:=pd.free+many}) (mz hp fJ) rfl rfl)
theorem wo{l:List Nat}(hs:l.Pairwise (· < ·)){k c:Nat}(hc:l[k]? =some c):∀y,y∈l.take k->y<c:=by
 intro y hy;obtain⟨j,hj⟩:=List.mem_iff_getElem?.1 hy;rw [List.getElem?_take]at hj;split at hj
 ·rename_i cK
  obtain⟨h1,e1⟩:=lgeS hj;obtain⟨h2,e2⟩:=lgeS hc;rw [<-e1,<-e2];exact List.pairwise_iff_getElem.1 hs j k h1 h2 cK
 ·cases hj
theorem l9{l:List Nat}{k c:Nat}(hc:l[k]? =some c):l.take (k+1)=l.take k++ [c]:=by
 rw [List.take_add_one,hc];rfl
structure nW(P:List Int)(T1:List Nd)(x:Nat)(xd:Nd)(half:Int)(k:Nat)(T':List Nd)(f:Int):Prop where
 mh:jR T1 T'
 here:T'[x]? =some {xd with free:=f}
 rest:∀y,y≠x->y∉xd.ch.take k->T'[y]? =T1[y]?
 lo:xd.lo+(((xd.ch.take k).map (sz P)).sum:Nat)<=f
 up:(f-xd.lo-(((xd.ch.take k).map (sz P)).sum:Nat))*(sz P x:Int)<=half*(((xd.ch.take k).map (sz P)).sum:Nat)
 oW:∀c cd,c∈xd.ch.take k->T'[c]? =some cd->xd.lo<=cd.lo/\cd.hi<f/\(sz P c:Int)<=cd.hi-cd.lo+1
 ord:∀c c' cd tp,c∈xd.ch.take k->c'∈xd.ch.take k->c<c'->T'[c]? =some cd->T'[c']? =some tp->cd.hi<tp.lo
section
variable{P:List Int}{T1 T':List Nd}{x:Nat}{xd:Nd}{half f:Int}{k:Nat}
theorem nW.start(hx:T1[x]? =some xd)(hf:xd.free=xd.lo):nW P T1 x xd half 0 T1 xd.lo:= {
 mh:=jR.refl _
 here:=by obtain⟨a,b,c,d,e⟩:=xd;simp only at hf;subst hf;exact hx
 rest:=fun _ _ _=>rfl
 lo:=by simp
 up:=by simp
 oW:=fun c cd hc=>by simp at hc
 ord:=fun c c' cd tp hc=>by simp at hc}
theorem nW.bound(h:nW P T1 x xd half k T' f)(hh:0<=half)(YL:1<=sz P x)(Em:((xd.ch.take k).map (sz P)).sum<=sz P x):f<=xd.lo+(((xd.ch.take k).map (sz P)).sum:Nat)+half:=by
 have h1:half*(((xd.ch.take k).map (sz P)).sum:Nat)<=half*(sz P x:Int):=Int.mul_le_mul_of_nonneg_left (by omega) hh;have h2:=Int.le_trans h.up h1;have h3:=Int.le_of_mul_le_mul_right h2 (by omega);omega
theorem nW.step(h:nW P T1 x xd half k T' f)(hs:xd.ch.Pairwise (· < ·)){c:Nat}(hx:∀y,y∈xd.ch->x<y)(hc:xd.ch[k]? =some c){cd:Nd}(iQ:T'[c]? =some cd)
 {more:Int} (My:0<=more) (hm:more*(sz P x:Int)<=half*(sz P c:Int)) (CT:1<=sz P c):
 nW P T1 x xd half (k+1) (sS T' c x cd {xd with free:=f} ((sz P c:Int)+more)) (f+((sz P c:Int)+more)):=by
 have cK:=wo hs hc;have hxc:x<c:=hx c (List.mem_of_getElem? hc);have O6:c∉xd.ch.take k:=fun hh=>Nat.lt_irrefl _ (cK c hh);have fu:=uW (many:=(sz P c:Int)+more) iQ h.here (by omega);have Em:((xd.ch.take (k+1)).map (sz P)).sum=((xd.ch.take k).map (sz P)).sum+sz P c:=by rw [l9 hc];simp
 have jX:∀y,y∈xd.ch.take (k+1)↔y∈xd.ch.take k\/y=c:=by intro y;rw [l9 hc];simp
 exact {
  mh:=h.mh.trans (sQ _ iQ h.here (by omega))
  here:=by rw [fu,if_pos rfl]
  rest:=fun y hy hn=>by
   rw [fu,if_neg hy,if_neg (fun e=>hn ((jX y).2 (.inr e)))];exact h.rest y hy (fun hh=>hn ((jX y).2 (.inl hh)))
  lo:=by rw [Em];have:=h.lo;omega
  up:=by
   rw [Em];have h1:=h.up;have e1:(f+((sz P c:Int)+more)-xd.lo-((((xd.ch.take k).map (sz P)).sum+sz P c:Nat):Int))*(sz P x:Int)=(f-xd.lo-((((xd.ch.take k).map (sz P)).sum:Nat):Int))*(sz P x:Int)+more*(sz P x:Int):=by
    rw [<-Int.add_mul];congr 1;omega
   have e2:half*((((xd.ch.take k).map (sz P)).sum+sz P c:Nat):Int)=half*((((xd.ch.take k).map (sz P)).sum:Nat):Int)+half*(sz P c:Int):=by
    rw [<-Int.mul_add];congr 1
   rw [e1,e2];omega
  oW:=fun y yd hy yO=>by
   have RZ:=h.lo;rw [fu]at yO;rcases(jX y).1 hy with hh|rfl
   ·have h1:=cK y hh
    have h2:=hx y (List.mem_of_mem_take hh);rw [if_neg (by omega),if_neg (by omega)]at yO;have:=h.oW y yd hh yO;exact⟨this.1,by omega,this.2.2⟩
   ·rw [if_neg (by omega),if_pos rfl]at yO
    cases yO;refine⟨?_,?_,?_⟩<;>simp only<;>omega
  ord:=fun a b ad bd ha hb mJ I7 I2=>by
   rw [fu]at I7 I2;rcases(jX b).1 hb with ub|rfl
   ·have h1:=cK b ub
    rcases(jX a).1 ha with zf|rfl
    ·have h2:=hx a (List.mem_of_mem_take zf)
     rw [if_neg (by omega),if_neg (by omega)]at I7 I2;exact h.ord a b ad bd zf ub mJ I7 I2
    ·omega
   ·rcases(jX a).1 ha with zf|rfl
    ·have h1:=cK a zf
     have h2:=hx a (List.mem_of_mem_take zf);rw [if_neg (by omega),if_neg (by omega)]at I7;rw [if_neg (by omega),if_pos rfl]at I2;cases I2;exact(h.oW a ad zf I7).2.1
    ·omega}
end
structure lX(P:List Int)(T0:List Nd)(m:Nat)(T':List Nd)(q:List Nat)(i:Nat):Prop where
 mh:jR T0 T'
 nodup:q.Nodup
 mY:∀y,y∈q->jg P y m
 fst:m∈q
 src:∀y,y∈q->y=m\/∃z:Nat,z∈q.take i/\P[y]? =some (z:Int)
 Ss:∀z,z∈q.take i->∀c,c∈kids P z->c∈q
 rest:∀y,y∉q->T'[y]? =T0[y]?
 top:∀md Nt,T0[m]? =some md->T'[m]? =some Nt->Nt.lo=md.lo/\Nt.hi=md.hi
 room:∀y yd,y∈q->T'[y]? =some yd->1<=yd.lo/\yd.hi<=4611686018427387904/\(sz P y:Int)<=yd.hi-yd.lo+1
 loc:∀z zd,z∈q.take i->T'[z]? =some zd->Loc T' zd
theorem lX.start{P:List Int}{T0:List Nd}{m:Nat}{md:Nd}(hm:m<P.length)(AB:T0[m]? =some md)(h1:1<=md.lo)(h2:md.hi<=4611686018427387904)(h3:(sz P m:Int)<=md.hi-md.lo+1):
 lX P T0 m T0 [m] 0:= {
 mh:=jR.refl _
 nodup:=by simp
 mY:=fun y hy=>by simp at hy;subst hy;exact .refl hm
 fst:=by simp
 src:=fun y hy=>by simp at hy;exact .inl hy
 Ss:=fun z hz=>by simp at hz
 rest:=fun _ _=>rfl
 top:=fun a b ha hb=>by rw [ha]at hb;cases hb;exact⟨rfl,rfl⟩
 room:=fun y yd hy yO=>by
  simp at hy;subst hy;rw [AB]at yO;cases yO;exact⟨h1,h2,h3⟩
 loc:=fun z zd hz=>by simp at hz}
section
variable{T0 T' AX:List Nd}{m x i:Nat}{q:List Nat}{xd:Nd}{f half:Int}
theorem lX.step(hS:Shape T0)(h:lX (bG T0) T0 m T' q i)(hq:q[i]? =some x)(FE:T'[x]? =some xd)
 (AJ:0<=half) (Vn:half*2<=xd.hi-xd.lo-((sz (bG T0) x:Int)-1))
 (gM:nW (bG T0) (T'.set x {xd with free:=xd.lo}) x {xd with free:=xd.lo} half xd.ch.length AX f):
 lX (bG T0) T0 m AX (q++xd.ch) (i+1):=by
 have Se:=h.mh.shape hS;have UI:=h.mh.bG;have hP:=hS.par;have mR:xd.ch=kids (bG T0) x:=by rw [Se.ch x xd FE,UI]
 have fg:i<q.length:=(lgeS hq).1;have Ir:x∈q:=List.mem_of_getElem? hq;have sH:x<(bG T0).length:=(h.mY x Ir).lt;have yS:q.take (i+1)=q.take i++ [x]:=l9 hq;have KA:(q++xd.ch).take (i+1)=q.take i++ [x]:=by rw [List.take_append_of_le_length (by omega),yS]
 have It:x∉q.take i:=by
  intro hh;have hn:(q.take i++ [x]).Nodup:=by rw [<-yS];exact h.nodup.sublist (List.take_sublist _ _)
  rw [List.nodup_append]at hn;exact hn.2.2 x hh x (by simp) rfl
 have Cg:∀c,c∈xd.ch->(bG T0)[c]? =some (x:Int):=fun c hc=>dH.1 (mR▸hc);have xq:∀c,c∈xd.ch->x<c:=fun c hc=>(gR hP (mR▸hc)).1;have nO:∀c,c∈xd.ch->c∉q:=by
  intro c hc R9;rcases h.src c R9 with rfl|⟨z,hz,RV⟩
  ·have:=(h.mY x Ir).le hP
   have:=xq _ hc;omega
  ·rw [Cg c hc]at RV
   have:z=x:=by have:=Option.some.inj RV;omega
   exact It (this▸hz)
 have abD:x∉xd.ch:=fun hh=>Nat.lt_irrefl _ (xq x hh);have cP:∀c,c∈(({xd with free:=xd.lo}:Nd).ch.take xd.ch.length)↔c∈xd.ch:=by intro c;simp
 have Em:(xd.ch.map (sz (bG T0))).sum+1=sz (bG T0) x:=by
  rw [mR];exact zX hP sH
 have ko:=rW hP sH;have MA:=gM.bound AJ ko (by simp only [List.take_length];omega);have Vx:=gM.lo;simp only [List.take_length]at MA Vx;have Vy:f<=xd.hi:=by omega
 have hT1:∀y,y≠x->(T'.set x {xd with free:=xd.lo})[y]? =T'[y]? :=fun y hy=>List.getElem?_set_ne (fun e=>hy e.symm);have Eu:∀y,y≠x->y∉xd.ch->AX[y]? =T'[y]? :=fun y hy hn=>by
  rw [gM.rest y hy (fun hh=>hn ((cP y).1 hh)),hT1 y hy]
 have IS:AX[x]? =some {xd with free:=f}:=gM.here;have hxr:=h.room x xd Ir FE;have hlh:xd.lo<=xd.hi:=by omega
 have hold:∀y v7,y∉xd.ch->AX[y]? =some v7->∃yd,T'[y]? =some yd/\yd.lo=v7.lo/\yd.hi=v7.hi:=by
  intro y v7 hn hy;by_cases e:y=x
  ·subst e
   rw [IS]at hy;cases hy;exact⟨xd,FE,rfl,rfl⟩
  ·rw [Eu y e hn]at hy
   exact⟨v7,hy,rfl,rfl⟩
 exact {
  mh:=(h.mh.trans (jR.set (nd':= {xd with free:=xd.lo}) FE rfl rfl)).trans gM.mh
  nodup:=by
   rw [List.nodup_append];refine⟨h.nodup,?_,fun a ha b hb e=>nO b hb (e▸ha)⟩;rw [mR];exact(qR _ _).imp (fun h=>by omega)
  mY:=fun y hy=>by
   rcases List.mem_append.1 hy with hy|hy
   ·exact h.mY y hy
   ·exact .step (Cg y hy) (h.mY x Ir)
  fst:=List.mem_append.2 (.inl h.fst)
  src:=fun y hy=>by
   rw [KA];rcases List.mem_append.1 hy with hy|hy
   ·rcases h.src y hy with e|⟨z,hz,RV⟩
    ·exact .inl e
    ·exact .inr ⟨z,List.mem_append.2 (.inl hz),RV⟩
   ·exact .inr ⟨x,by simp,Cg y hy⟩
  Ss:=fun z hz c hc=>by
   rw [KA]at hz;rcases List.mem_append.1 hz with hz|hz
   ·exact List.mem_append.2 (.inl (h.Ss z hz c hc))
   ·simp at hz
    subst hz;exact List.mem_append.2 (.inr (mR▸hc))
  rest:=fun y hy=>by
   have h1:y∉q:=fun hh=>hy (List.mem_append.2 (.inl hh));have h2:y∉xd.ch:=fun hh=>hy (List.mem_append.2 (.inr hh));rw [Eu y (fun e=>h1 (e▸Ir)) h2,h.rest y h1]
  top:=fun md Tk AB Ph=>by
   obtain⟨Nt,h1,h2,h3⟩:=hold m Tk (fun hh=>nO m hh h.fst) Ph;have:=h.top md Nt AB h1;omega
  room:=fun y v7 hy Iq=>by
   rcases List.mem_append.1 hy with hy|hy
   ·obtain⟨yd,h1,h2,h3⟩:=hold y v7 (fun hh=>nO y hh hy) Iq
    have:=h.room y yd hy h1;omega
   ·have:=gM.oW y v7 ((cP y).2 hy) Iq
    simp only at this;omega
  loc:=fun z zd hz TN=>by
   rw [KA]at hz;rcases List.mem_append.1 hz with hz|hz
   ·have hzq:z∈q:=List.mem_of_mem_take hz
    have Ol:z≠x:=fun e=>It (e▸hz);have Kt:=TN;rw [Eu z Ol (fun hh=>nO z hh hzq)]at Kt;have hl:=h.loc z zd hz Kt;have TO:zd.ch=kids (bG T0) z:=by rw [Se.ch z zd Kt,UI]
    have Sa:∀c,c∈zd.ch->c∉xd.ch:=by
     intro c hc EI;have h1:=Cg c EI;rw [dH.1 (TO▸hc:c∈kids (bG T0) z)]at h1;have:=Option.some.inj h1;omega
    exact {
     C6:=hl.C6
     zp:=hl.zp
     sub:=fun c cd hc iQ=>by
      obtain⟨tp,h1,h2,h3⟩:=hold c cd (Sa c hc) iQ;have:=hl.sub c tp hc h1;omega
     ord:=fun c c' cd tp hc sM xu iQ o4=>by
      obtain⟨ed,h1,h2,h3⟩:=hold c cd (Sa c hc) iQ;obtain⟨LH,qU,sO,AP⟩:=hold c' tp (Sa c' sM) o4;have:=hl.ord c c' ed LH hc sM xu h1 qU;omega}
   ·simp at hz
    subst hz;rw [IS]at TN;cases TN;exact {
     C6:=by simp only;omega
     zp:=Vy
     sub:=fun c cd hc iQ=>by
      have:=gM.oW c cd ((cP c).2 hc) iQ;simp only at this⊢;omega
     ord:=fun c c' cd tp hc sM xu iQ o4=>gM.ord c c' cd tp ((cP c).2 hc) ((cP c').2 sM) xu iQ o4}}
theorem lX.fin(hS:Shape T0)(h:lX (bG T0) T0 m T' q i)(hi:q.length<=i)
 (O0:∀y nd,T0[y]? =some nd->¬jg (bG T0) y m->Iv nd/\Loc T0 nd):Good T':=by
 have Se:=h.mh.shape hS;have UI:=h.mh.bG;have hP:=hS.par;have yS:q.take i=q:=List.take_of_length_le hi;have vC:∀y,jg (bG T0) y m->y∈q:=by
  have:∀y k,jg (bG T0) y k->k=m->y∈q:=by
   intro y k hu
   induction hu with
   |refl=>intro e;subst e;exact h.fst
   | @step a b c hp h' ih=>intro e;exact h.Ss b (by rw [yS];exact ih e) a (dH.2 hp)
  exact fun y hu=>this y m hu rfl
 have hq:∀y,y∈q↔jg (bG T0) y m:=fun y=>⟨h.mY y,vC y⟩;refine⟨Se,fun y yd yO=>?_,fun y yd yO=>?_⟩
 ·by_cases hy:y∈q
  ·have hr:=h.room y yd hy yO
   have:=rW hP (h.mY y hy).lt;exact⟨hr.1,by omega,hr.2.1⟩
  ·rw [h.rest y hy]at yO
   exact(O0 y yd yO (fun hu=>hy (vC y hu))).1
 ·by_cases hy:y∈q
  ·exact h.loc y yd (by rw [yS];exact hy) yO
  ·have Ku:=yO
   rw [h.rest y hy]at Ku;have hl:=(O0 y yd Ku (fun hu=>hy (vC y hu))).2;have mR:=hS.ch y yd Ku;have hold:∀c cd,c∈yd.ch->T'[c]? =some cd->∃ed,T0[c]? =some ed/\ed.lo=cd.lo/\ed.hi=cd.hi:=by
    intro c cd hc iQ;by_cases R9:c∈q
    ·have hpc:=dH.1 (mR▸hc:c∈kids (bG T0) y)
     have mI:c=m:=by
      by_cases e:c=m
      ·exact e
      ·exact absurd (vC y ((h.mY c R9).inv e hpc)) hy
     subst mI;obtain⟨ed,Zu,_⟩:=h.mh.back iQ;have:=h.top ed cd Zu iQ;exact⟨ed,Zu,by omega,by omega⟩
    ·rw [h.rest c R9]at iQ
     exact⟨cd,iQ,rfl,rfl⟩
   exact {
    C6:=hl.C6
    zp:=hl.zp
    sub:=fun c cd hc iQ=>by
     obtain⟨ed,h1,h2,h3⟩:=hold c cd hc iQ;have:=hl.sub c ed hc h1;omega
    ord:=fun c c' cd tp hc sM xu iQ o4=>by
     obtain⟨ed,h1,h2,h3⟩:=hold c cd hc iQ;obtain⟨LH,qU,sO,AP⟩:=hold c' tp sM o4;have:=hl.ord c c' ed LH hc sM xu h1 qU;omega}
end
open Go Go.RowKit Go.bE
theorem JO{l:List Nat}{a:Nat}(h:a∈l):a<=l.sum:=by
 induction l with
 |nil=>simp at h
 |cons b l ih=>
  rw [List.sum_cons];rcases List.mem_cons.1 h with rfl|h
  ·omega
  ·have:=ih h;omega
theorem xm{l:List Nat}{j x:Nat}(h:l[j]? =some x):(ints l)[j]? =some (.int .i64 (x:Int)):=by simp [ints,h]
theorem Ei(l:List Nat):(ints l).length=l.length:=by simp [ints]
theorem Eh(l:List Nat):∀u∈ints l,u.oneCell'=true:=by
 intro u hu;simp only [ints,List.mem_map]at hu;obtain⟨x,_,rfl⟩:=hu;rfl
structure Dl(w0:World)(S:Nat->Prop)(g b c B0 B1 len:Nat)(P:List Int)(d:Int)(As:Option Addr)(w:World)(T':List Nd)(L:List (Nd×Value))(Aq:Option Addr)(nq cq:Nat)(q:List Nat):Prop where
 tv:TV w S g T' d b c L
 rs:Row w B0 eJ 1 As len len (us (sz P) len)
 sb:∀k,bp As=some k->k<B1
 rq:Row w B1 fE 1 Aq nq cq (ints q)
 kp:Kept S w0 w
 hS:∀k,S k->k<B0
 hB:B0<=B1
 EW:B1<=w.heap.size
 h0:w0.heap.size<=B0
section
variable{w0 w w':World}{S:Nat->Prop}{g b c B0 B1 len:Nat}{P:List Int}{d:Int}{As:Option Addr}{T' AX:List Nd}{L L':List (Nd×Value)}{Aq:Option Addr}{nq cq:Nat}{q:List Nat}
theorem Dl.Gm(h:Dl w0 S g b c B0 B1 len P d As w T' L Aq nq cq q):nq=q.length:=by
 have:=Row.len h.rq;rw [Ei]at this;omega
theorem Dl.quiet(h:Dl w0 S g b c B0 B1 len P d As w T' L Aq nq cq q)(hk:Kept Nil w w'):Dl w0 S g b c B0 B1 len P d As w' T' L Aq nq cq q:= {
 tv:=h.tv.kept hk
 rs:=Row.aK h.rs hk (fun _ _ h=>h)
 sb:=h.sb
 rq:=Row.aK h.rq hk (fun _ _ h=>h)
 kp:=h.kp.trans hk (fun _ _ h=>h.elim)
 hS:=h.hS
 hB:=h.hB
 EW:=Nat.le_trans h.EW hk.size
 h0:=h.h0}
theorem Dl.wrote(h:Dl w0 S g b c B0 B1 len P d As w T' L Aq nq cq q)(hk:Kept (fun k=>k=b) w w')(ht:TV w' S g AX d b c L'):Dl w0 S g b c B0 B1 len P d As w' AX L' Aq nq cq q:= {
 tv:=ht
 rs:=Row.aK h.rs hk (fun k e e2=>by have:=(Row.bS h.rs e).1;have:=h.hS b h.tv.fh;omega)
 sb:=h.sb
 rq:=Row.aK h.rq hk (fun k e e2=>by have:=(Row.bS h.rq e).1;have:=h.hS b h.tv.fh;have:=h.hB;omega)
 kp:=h.kp.trans hk (fun k _ e=>by rw [e];exact h.tv.fh)
 hS:=h.hS
 hB:=h.hB
 EW:=Nat.le_trans h.EW hk.size
 h0:=h.h0}
theorem Dl.Ad(h:Dl w0 S g b c B0 B1 len P d As w T' L Aq nq cq q){j:Nat}(hj:j<len){k:Int->Prop}(hk:k (sz P j)):
 Is As fun a=>∃t,w.cell? (a.add (j*1))=some (.int .u64 t)/\k t:=by
 have hr:=h.rs;obtain⟨b',rfl⟩:=Row.some hr (by omega);exact⟨_,by rw [kZ,Nat.mul_one];exact Row.cell hr (ns _ hj),hk⟩
theorem Dl.Nk(h:Dl w0 S g b c B0 B1 len P d As w T' L Aq nq cq q){j x:Nat}(hj:q[j]? =some x){k:Int->Prop}(hk:k x):
 Is Aq fun a=>∃t,w.cell? (a.add (j*1))=some (.int .i64 t)/\k t:=by
 have hr:=h.rq;have cK:=(lgeS hj).1;obtain⟨b',rfl⟩:=Row.some hr (by rw [h.Gm];omega);exact⟨_,by rw [kZ,Nat.mul_one];exact Row.cell hr (xm hj),hk⟩
theorem Dl.push(h:Dl w0 S g b c B0 B1 len P d As w T' L Aq nq cq q)(Cb:q.length<=4000000)(x:Nat){w1:World}(e1:w1=w.alloc (.cells #[.int .i64 (x:Int)] fE)):
 ∃F9 F0 w2,(Builtin.append_ #[iA,iA] iA #[.slice Aq nq cq,.slice (some ⟨w.heap.size,0,none⟩) 1 1]).run prog w1=.ok (.slice F9 (nq+1) F0) w2/\
  Dl w0 S g b c B0 B1 len P d As w2 T' L F9 (nq+1) F0 (q++ [x])/\(∀S0:Nat->Prop,(∀k,bp Aq=some k->S0 k)->Kept S0 w w2):=by
 subst e1;generalize FF:w.alloc (.cells #[.int .i64 (x:Int)] fE)=w1;have nO:w1.heap[w.heap.size]? =some (.cells #[.int .i64 (x:Int)] fE (0,0)):=by rw [<-FF];exact aR w _
 have k1:Kept Nil w w1:=by rw [<-FF];exact(Kept.refl Nil w).alloc _
 have h1:=h.quiet k1;have Mq:=h.Gm;obtain⟨A',c',w2,hr,fW,hg,Cm⟩:=iu (P:=prog) (t:=iA) (ty:=iA) HZ h1.rq (a:=⟨w.heap.size,0,none⟩) (m:=1) (cx:=1)
  (news:=ints [x]) rfl (fun j u hj=>by rw [kZ,aD nO];simpa [ints]using hj) (Eh _) (by omega) (by unfold maxLen;omega) h1.EW
 have kA:Kept (fun k=>bp Aq=some k) w1 w2:=(Kept.refl _ w1).grown hg (fun k hk _=>hk);have iK:∀k,bp Aq=some k->B1<=k:=fun k e=>(Row.bS h.rq e).1;refine⟨A',c',w2,hr,?_,fun S0 h0=>(k1.mono (S':=S0) (fun _ _ h=>h.elim)).trans kA (fun k _ e=>h0 k e)⟩;exact {
  tv:=h1.tv.aK kA (fun k hk e=>by have:=h.hS k hk;have:=iK k e;have:=h.hB;omega)
  rs:=Row.aK h1.rs kA (fun k e e2=>by have:=h.sb k e;have:=iK k e2;omega)
  sb:=h.sb
  rq:=by simpa [ints]using fW
  kp:=(h.kp.trans k1 (fun _ _ h=>h.elim)).trans kA (fun k hk e=>absurd (iK k e) (by have:=h.hB;have:=h.h0;omega))
  hS:=h.hS
  hB:=h.hB
  EW:=Nat.le_trans h1.EW kA.size
  h0:=h.h0}
theorem zt{T0 T1:List Nd}{x:Nat}{xd:Nd}{half:Nat}{spare i:Int}{Rt:Option Addr}{Ry:Nat}{Qo:aM}
 (D:Dl w0 S g b c B0 B1 T0.length (bG T0) d As w T1 L Aq nq cq q) (hS:Shape T0) (RP:jR T0 T1) (hlen:T0.length<=1000000) (Mq:q.length<=1000000)
 (hx:T1[x]? =some xd) (xr:xd.free=xd.lo) (RZ:0<=xd.lo) (Zl:xd.hi<=4611686018427387904) (AJ:(half:Int)*2<=xd.hi-xd.lo-((sz (bG T0) x:Int)-1))
 (CS:u64.wrap (spare.tdiv 2)=(half:Int)) (VL:Row w 0 fE 1 Rt xd.ch.length Ry (ints xd.ch)) (Qf:∀k,bp Rt=some k->S k/\k≠b)
 (hex:∀w' AX f L' F9 F0,Dl w0 S g b c B0 B1 T0.length (bG T0) d As w' AX L' F9 (nq+xd.ch.length) F0 (q++xd.ch)->nW (bG T0) T1 x xd half xd.ch.length AX f->
   Qo .normal [(0,.pointer (some ⟨g,0,none⟩)),(4,.slice As T0.length T0.length),(5,.slice F9 (nq+xd.ch.length) F0),(6,.int .i64 (i64.wrap (i+1)))] w'):
 Holds none [] prog 164 (.loop (lB (bB (cS (bB (sL (sR (lB (bB (cS (sR (body ay.fn)))))))))))) (ay.q3 Qo) (ay.e3 (some ⟨g,0,none⟩) As T0.length T0.length i x spare Rt xd.ch.length Ry xd.ch.length (Aq,nq,cq,0)) w:=by
 have hP:=hS.par;have rM:=dG T0;have mR:xd.ch=kids (bG T0) x:=by
  have:=(RP.shape hS).ch x xd hx
  rwa [RP.bG]at this
 have sH:x<T0.length:=by rw [<-RP.len];exact(lgeS hx).1
 have G0:xd.ch.Pairwise (· < ·):=by rw [mR];exact qR _ _
 have xq:∀y,y∈xd.ch->x<y:=fun y hy=>(gR hP (mR▸hy)).1;have Qe:xd.ch.length<=1000000:=by rw [mR];exact Nat.le_trans (wZ _ _) (by omega)
 have Em:(xd.ch.map (sz (bG T0))).sum+1=sz (bG T0) x:=by rw [mR];exact zX hP (by omega)
 have ko:=rW hP (n:=x) (by omega);have Uc:=ux (P:=bG T0) x;have hnq:=D.Gm;refine ay.wT (I:=fun s w'=>∃(k:Nat) (T':List Nd) (f:Int) (L':List (Nd×Value)) (F9:Option Addr) (F0:Nat),s=(F9,nq+k,F0,(k:Int))/\k<=xd.ch.length/\
  Dl w0 S g b c B0 B1 T0.length (bG T0) d As w' T' L' F9 (nq+k) F0 (q++xd.ch.take k)/\nW (bG T0) T1 x xd half k T' f/\Row w' 0 fE 1 Rt xd.ch.length Ry (ints xd.ch))
  (μ:=fun s _=>((xd.ch.length:Int)-s.2.2.2).toNat) (s:=(Aq,nq,cq,0)) ⟨0,T1,xd.lo,L,Aq,cq,rfl,Nat.zero_le _,by simpa using D,nW.start hx xr,VL⟩ ?_
 rintro s w' ⟨k,T',f,L',F9,F0,rfl,hk,D',gM,hr⟩;refine Split.dec (fun cK=>?_) (fun iK=>?_)
 ·simp only at cK
  have CZ:k<xd.ch.length:=by omega
  obtain⟨ci,Sb⟩:∃ci,xd.ch[k]? =some ci:=⟨_,List.getElem?_eq_getElem CZ⟩;have mI:ci∈xd.ch:=List.mem_of_getElem? Sb;have Zx:ci∈kids (bG T0) x:=mR▸mI;have vC:ci<T0.length:=by have:=(gR hP Zx).2;omega
  have hxc:=xq ci mI;have CT:=rW hP (n:=ci) (by omega);have abY:=ux (P:=bG T0) ci;have OC:=RP.trans gM.mh;obtain⟨cd,iQ⟩:=eR (T:=T') (i:=ci) (by rw [OC.len];exact vC);have Qd:cd.parent=x:=by
   have h1:=jK iQ;rw [OC.bG,dH.1 Zx]at h1;exact(Option.some.inj h1).symm
  have Uf:sz (bG T0) ci<=sz (bG T0) x:=by
   have:=JO (l:=xd.ch.map (sz (bG T0))) (a:=sz (bG T0) ci) (List.mem_map.2 ⟨ci,mI,rfl⟩);omega
  have Qm:0<=(ci:Int)/\(ci:Int)<(T0.length:Int):=⟨by omega,by omega⟩;have jv:0<=(x:Int)/\(x:Int)<(T0.length:Int):=⟨by omega,by omega⟩;have Vm:half<4611686018427387904:=by omega
  obtain⟨bch,VY⟩:=Row.some hr (by omega);subst VY;refine⟨⟨by simp only;omega,by simp only;omega⟩,_,by simp only [kZ,Int.toNat_natCast,Nat.mul_one];exact Row.cell hr (xm Sb),by decide,Qm,D'.Ad vC ?_⟩;rw [CS];refine ud half (sz (bG T0) ci) (by omega) (by omega) ⟨_,_,rfl,jv,D'.Ad sH ?_⟩;have Pf:(half*sz (bG T0) ci/18446744073709551616)*18446744073709551616+half*sz (bG T0) ci%18446744073709551616=half*sz (bG T0) ci:=Nat.div_add_mod' _ _;have Vl:half*sz (bG T0) ci/18446744073709551616<sz (bG T0) x:=by
   have:half*sz (bG T0) ci<18446744073709551616*sz (bG T0) ci:=Nat.mul_lt_mul_of_pos_right (by omega) CT;have:half*sz (bG T0) ci/18446744073709551616<sz (bG T0) ci:=Nat.div_lt_of_lt_mul this;omega
  refine ug _ _ (sz (bG T0) x) (Nat.mod_lt _ (by omega)) (by omega) Vl fun r w90 Yi=>?_;rw [Pf];generalize hm:half*sz (bG T0) ci/sz (bG T0) x=more;have Y4:more*sz (bG T0) x<=half*sz (bG T0) ci:=by rw [<-hm];exact Nat.div_mul_le_self _ _
  have acG:more<=half:=by
   rw [<-hm];apply Nat.div_le_of_le_mul;rw [Nat.mul_comm];exact Nat.mul_le_mul_right _ Uf
  have Xq:=D'.quiet Yi;have Uq:=Row.aK hr Yi (fun _ _ h=>h);refine⟨_,_,rfl,Qm,Xq.Ad vC ?_⟩;rw [dY (x:=(sz (bG T0) ci:Int)+(more:Int)) (by omega) (by omega)];have FV:=gM.bound (by omega) ko (by
   have h1:(((xd.ch.take k).map (sz (bG T0))).sum)<=(xd.ch.map (sz (bG T0))).sum:=by
    conv=>rhs;rw [<-List.take_append_drop k xd.ch,List.map_append,List.sum_append]
    omega
   omega)
  have oy:=gM.lo;have h1:(((xd.ch.take k).map (sz (bG T0))).sum)<=(xd.ch.map (sz (bG T0))).sum:=by
   conv=>rhs;rw [<-List.take_append_drop k xd.ch,List.map_append,List.sum_append]
   omega
  refine rU Xq.tv iQ gM.here Qd (by omega) (by simp only;omega) (by omega) (by simp only;omega) fun w96 L96 h96 Yh=>⟨rfl,?_⟩;have D96:=Xq.wrote Yh h96;have Un:=Row.aK Uq Yh (fun k e e2=>(Qf k e).2 e2);intro w97;have Ub:(xd.ch.take k).length<=1000000:=by rw [List.length_take];omega
  obtain⟨MU,MJ,LZ,Uj,D99,RE⟩:=D96.push (by rw [List.length_append];omega) ci (w1:=w97) rfl;have Um:=Row.aK Un (RE (fun k=>B1<=k) (fun k e=>(Row.bS D96.rq e).1)) (fun k e e2=>by have:=D.hS k (Qf k e).1;have:=D.hB;omega);refine⟨MU,_,MJ,LZ,Uj,?_⟩;rw [iI (x:=(k:Int)+1) (by omega) (by omega)];refine⟨(MU,nq+(k+1),MJ,((k+1:Nat):Int)),rfl,⟨k+1,_,_,L96,MU,MJ,rfl,CZ,?_,gM.step (more:=(more:Int)) G0 xq Sb iQ (by omega) ?_ CT,Um⟩,by simp only;omega⟩
  ·rw [l9 Sb,<-List.append_assoc]
   exact D99
  ·have:((more*sz (bG T0) x:Nat):Int)<=((half*sz (bG T0) ci:Nat):Int):=by omega
   rwa [Int.natCast_mul,Int.natCast_mul]at this
 ·simp only at iK
  have:k=xd.ch.length:=by omega
  subst this;rw [aY,ay.Db];rw [List.take_length]at D';exact hex w' T' f L' F9 F0 D' gM
end
theorem DK:∀(n:Nat) (q:List Nat),q.Nodup->(∀y,y∈q->y<n)->q.length<=n:=by
 intro n
 induction n with
 |zero=>
  intro q _ h;cases q with
  |nil=>simp
  |cons a q=>exact absurd (h a (by simp)) (by omega)
 |succ n ih=>
  intro q hn h;by_cases hm:n∈q
  ·have h1:=List.length_erase_of_mem hm
   have h2:=ih (q.erase n) (hn.erase n) (fun y hy=>by
    have:=(List.Nodup.mem_erase_iff hn).1 hy;have:=h y this.2;omega)
   omega
  ·have:=ih q hn (fun y hy=>by
    have:=h y hy;have:y≠n:=fun e=>hm (e▸hy);omega)
   omega
section
variable{w0 w:World}{S:Nat->Prop}{g b c B0:Nat}{d:Int}{As:Option Addr}{L:List (Nd×Value)}{T:List Nd}{K:Value->World->Prop}
theorem zr{T0:List Nd}{m:Nat}{md:Nd}
 (htv:TV w S g T0 d b c L) (YQ:Row w B0 eJ 1 As T0.length T0.length (us (sz (bG T0)) T0.length)) (Px:Kept S w0 w) (hSB:∀k,S k->k<B0) (Ov:w0.heap.size<=B0) (hBw:B0<=w.heap.size)
 (hS:Shape T0) (hlen:T0.length<=1000000) (AB:T0[m]? =some md) (h1:1<=md.lo) (h2:md.hi<=4611686018427387904) (h3:(sz (bG T0) m:Int)<=md.hi-md.lo+1)
 (hK:∀w' T' q i,nh w' S g T' d->lX (bG T0) T0 m T' q i->q.length<=i->Kept S w0 w'->K (.tuple #[]) w'):
 ay.cX (some ⟨g,0,none⟩) m As T0.length T0.length K w:=by
 have hP:=hS.par;have rM:=dG T0;have FO:m<T0.length:=(lgeS AB).1;unfold ay.cX;intro gY;have lQ:Kept Nil w gY:=(Kept.refl Nil w).alloc _;have nO:gY.heap[w.heap.size]? =some (.cells #[.int .i64 (m:Int)] fE (0,0)):=aR w _;have D35:Dl w0 S g b c B0 w.heap.size T0.length (bG T0) d As gY T0 L (some ⟨w.heap.size,0,none⟩) 1 1 [m]:= {
  tv:=htv.kept lQ
  rs:=Row.aK YQ lQ (fun _ _ h=>h)
  sb:=fun k e=>by obtain⟨_,_,hc⟩:=Row.bS YQ e;exact bf hc
  rq:=Row.made (n:=1) (cur:= #[.int .i64 (m:Int)]) nO (Nat.le_refl _) rfl (by decide)
  kp:=Px.trans lQ (fun _ _ h=>h.elim)
  hS:=hSB
  hB:=hBw
  EW:=lQ.size
  h0:=Ov}
 clear_value gY;generalize EW:w.heap.size=B1 at*;refine ay.iN (I:=fun s w'=>∃(i:Nat) (T':List Nd) (L':List (Nd×Value)) (Aq:Option Addr) (nq cq:Nat) (q:List Nat),s=(Aq,nq,cq,(i:Int))/\i<=q.length/\
  Dl w0 S g b c B0 B1 T0.length (bG T0) d As w' T' L' Aq nq cq q/\lX (bG T0) T0 m T' q i)
  (μ:=fun s _=>((T0.length:Int)-s.2.2.2).toNat) (s:=(some ⟨B1,0,none⟩,1,1,0)) ⟨0,T0,L,_,1,1,[m],rfl,Nat.zero_le _,D35,lX.start (by omega) AB h1 h2 h3⟩ ?_
 rintro s w' ⟨i,T',L',Aq,nq,cq,q,rfl,hi,D,hO⟩;have hnq:=D.Gm;have Mq:q.length<=T0.length:=DK _ _ hO.nodup (fun y hy=>by have:=(hO.mY y hy).lt;omega);refine Split.dec (fun cK=>?_) (fun iK=>?_)
 ·simp only at cK
  have fg:i<q.length:=by omega
  obtain⟨x,Uy⟩:∃x,q[i]? =some x:=⟨_,List.getElem?_eq_getElem fg⟩;have Ir:x∈q:=List.mem_of_getElem? Uy;have sH:x<T0.length:=by have:=(hO.mY x Ir).lt;omega
  obtain⟨xd,FE⟩:=eR (T:=T') (i:=x) (by rw [hO.mh.len];exact sH);have qT:=hO.room x xd Ir FE;have ko:=rW hP (n:=x) (by omega);have Uc:=ux (P:=bG T0) x;have hlT:T'.length=T0.length:=hO.mh.len;have jv:0<=(x:Int)/\(x:Int)<(T'.length:Int):=⟨by omega,by omega⟩;refine⟨⟨by simp only;omega,by simp only;omega⟩,D.Nk Uy ?_⟩;intro Df;have MT:=D.quiet (w':=Df) (Kept.refl Nil w').drew;clear_value Df;obtain⟨v,hv⟩:=MT.tv.at_ FE;obtain⟨wr,ZU⟩:=MT.tv.r3 hv (j:=4) (by omega) (u:=.int .u64 xd.lo) (nd':= {xd with free:=xd.lo}) rfl rfl;refine MT.tv.go (MT.tv.go ⟨jv,MT.tv.sV hv ⟨jv,by rw [mW];exact wr,?_⟩⟩);intro Fy De;have Z1:Fy=Df.setCell ⟨b,x*5+4,none⟩ (.int .u64 xd.lo):=by simp only [Fy,mW,Int.toNat_natCast]
  rw [<-Z1]at ZU;have Mf:Kept (fun k=>k=b) Df Fy:=by rw [Z1];exact(Kept.refl (fun k=>k=b) Df).setCell (p:=⟨b,x*5+4,none⟩) (fun _=>rfl) _
  have F7:=(MT.wrote Mf ZU).quiet (w':=De) (Kept.refl Nil Fy).drew;clear_value De;have v1:(L'.set x ({xd with free:=xd.lo},v))[x]? =some ({xd with free:=xd.lo},v):=gJ hv;obtain⟨Rt,Ry,hk⟩:=F7.tv.oW _ _ v1;have vV:(T'.set x {xd with free:=xd.lo}).length=T'.length:=by simp
  have Lf:0<=(x:Int)/\(x:Int)<((T'.set x {xd with free:=xd.lo}).length:Int):=by rw [vV];exact jv
  have Sc:0<=(x:Int)/\(x:Int)<(T0.length:Int):=⟨by omega,by omega⟩;refine F7.tv.go ⟨Lf,F7.tv.xC v1 (F7.tv.go ⟨Lf,F7.tv.sV v1 ⟨Sc,F7.Ad sH (F7.tv.go ⟨Lf,F7.tv.QW v1 hk.val ?_⟩)⟩⟩)⟩;have Ue:jR T0 (T'.set x {xd with free:=xd.lo}):=hO.mh.trans (jR.set (nd':= {xd with free:=xd.lo}) FE rfl rfl);simp only;obtain⟨cur,MD⟩:=F7.tv.tz;generalize hhf:((xd.hi-xd.lo-((sz (bG T0) x:Int)-1)).toNat /2)=half;refine zt (half:=half) (xd:= {xd with free:=xd.lo}) F7 hS Ue hlen (by omega) (gJ FE) rfl (by simp only;omega) (by simp only;omega) (by simp only;omega) ?_ hk.row (fun k e=>⟨hk.jc k e,fun e2=>hk.ne MD (by decide) (by rw [e,e2])⟩) ?_
  ·rw [dY (x:=xd.hi-xd.lo) (by omega) (by omega),dY (x:=(sz (bG T0) x:Int)-1) (by omega) (by omega),dY (x:=xd.hi-xd.lo-((sz (bG T0) x:Int)-1)) (by omega) (by omega),
    Int.tdiv_eq_ediv_of_nonneg (by omega),dY (by omega) (by omega)]
   omega
  ·intro w2 T2 f L2 MU MJ D2 gM
   rw [iI (x:=(i:Int)+1) (by omega) (by omega)];refine⟨(MU,nq+xd.ch.length,MJ,((i+1:Nat):Int)),rfl,⟨i+1,T2,L2,MU,_,MJ,q++xd.ch,rfl,by rw [List.length_append];omega,D2,hO.step hS Uy FE (by omega) (by omega) gM⟩,by simp only;omega⟩
 ·simp only at iK
  rw [aY,ay.lL];exact hK w' T' q i ⟨_,_,_,D.tv⟩ hO (by omega) D.kp
theorem TV.S7(h:TV w S g T d b c L)(d':Int):Wr w ⟨g,1,none⟩/\TV (w.setCell ⟨g,1,none⟩ (.int .i64 d')) S g T d' b c L:=by
 have kG:Kept (fun k=>k=g) w (w.setCell ⟨g,1,none⟩ (.int .i64 d')):=(Kept.refl (fun k=>k=g) w).setCell (p:=⟨g,1,none⟩) (fun _=>rfl) _;refine⟨dL h.top (show 1<2 by omega),?_⟩;exact {
  top:=by
   have:=cY h.top 1 (.int .i64 d');simpa using this
  fst:=h.fst
  row:=Row.aK h.row kG (fun k e e2=>h.gb (by cases e;exact e2.symm))
  oW:=fun i p hp=>by
   obtain⟨A,m,hk⟩:=h.oW i p hp;exact⟨A,m,hk.val,Row.aK hk.row kG (fun k e e2=>hk.ne h.top (by decide) (by rw [e,e2])),hk.jc⟩
  apart:=h.apart
  gg:=h.gg
  fh:=h.fh}
set_option maxRecDepth 100000 in
theorem Bp(h:nh w S g T d)(hS:Shape T)(hlen:T.length<=1000000){p:Nat}(hp:p<T.length)(hd:0<=d/\d<=1000000)
 (OH:∀nd,T[0]? =some nd->nd.lo=1/\nd.hi=4611686018427387904)
 (R3:∀y nd,T[y]? =some nd->jg (bG T) p y->Iv nd)
 (hK:∀w' T' m q i,nh w' S g T' (d+1)->jg (bG T) p m->lX (bG T) T m T' q i->q.length<=i->Kept S w w'->K (.tuple #[]) w'):
 bm prog ay.id #[.pointer (some ⟨g,0,none⟩),.int .i64 p] w K:=by
 have hP:=hS.par;have rM:=dG T;obtain⟨b,c,L,h⟩:=h;have hb:=h.bound;obtain⟨wr,h6⟩:=hb.S7 (d+1);refine ay.of (h.goD ⟨by rw [kZ];exact wr,?_⟩);intro w6;have e6:w6=w.setCell ⟨g,1,none⟩ (.int .i64 (d+1)):=by simp only [w6,kZ,iI (x:=d+1) (by omega) (by omega)]
 rw [<-e6]at h6;have k6:Kept (fun k=>S k/\k<w.heap.size) w w6:=by rw [e6];exact(Kept.refl _ w).setCell (p:=⟨g,1,none⟩) (fun _=>hb.gg) _
 have Mp:w.heap.size=w6.heap.size:=by rw [e6];simp
 clear_value w6;refine ym ⟨_,_,_,h6⟩ hP hlen fun w8 As Gk k8=>⟨_,_,_,rfl,?_⟩;have h8:=h6.kept k8;refine ay.cf (I:=fun s w'=>∃m:Nat,s=(m:Int)/\jg (bG T) p m/\Kept Nil w8 w') (μ:=fun s _=>s.toNat) (s:=(p:Int)) ⟨p,rfl,.refl (by omega),Kept.refl _ _⟩ ?_;rintro s w' ⟨m,rfl,hu,kw⟩;have FO:m<T.length:=by have:=hu.Rz;omega
 obtain⟨md,AB⟩:=eR FO;have hm:=R3 m md AB hu;have IL:=hm.Tl;have Za:=hm.le;have Y9:=hm.top;unfold ay.B1;intro p5;have Mj:Kept Nil w8 p5:=kw.drew;have x8:=h8.kept Mj;have Ac:=Row.aK Gk Mj (fun _ _ h=>h);have oE:=jK AB;have abU:=ux (P:=bG T) m;have EP:0<=(m:Int)/\(m:Int)<(T.length:Int):=⟨by omega,by omega⟩;obtain⟨v,hv⟩:=x8.at_ AB;have done:(sz (bG T) m:Int)<=md.hi-md.lo+1->ay.q1 K (.exit 0) [(0,.pointer (some ⟨g,0,none⟩)),(1,.int .i64 m),(4,.slice As T.length T.length)] p5:=by
  intro qT;rw [ay.dB];have Yk:Kept (fun k=>S k/\k<w.heap.size) w p5:=(k6.trans k8 (fun _ _ h=>h.elim)).trans Mj (fun _ _ h=>h.elim);refine zr x8 (B0:=w.heap.size) (Row.base Ac (fun k e=>by rw [Mp];exact(Row.bS Ac e).1)) Yk (fun k h=>h.2) (Nat.le_refl _) Yk.size hS hlen AB IL Y9 qT ?_;intro w2 T2 q i h2 hO hq k2;exact hK w2 T2 m q i (h2.mono (fun k h=>h.1)) hu hO hq (k2.mono (fun k _ h=>h.1))
 refine x8.go ⟨EP,x8.E1 hv (Split.dec (fun ko=>?_) (fun acz=>?_))⟩
 ·obtain⟨bs,Sc⟩:=Row.some Ac (by omega)
  subst Sc;refine x8.go ⟨EP,x8.xC hv (x8.go ⟨EP,x8.sV hv ⟨by decide,EP,_,by rw [kZ,Int.toNat_natCast,Nat.mul_one];exact Row.cell Ac (ns _ FO),?_⟩⟩)⟩;rw [dY (x:=md.hi-md.lo) (by omega) (by omega),dY (x:=md.hi-md.lo+1) (by omega) (by omega),Int.tdiv_eq_ediv_of_nonneg (by omega),dY (x:=(md.hi-md.lo+1)/4) (by omega) (by omega)];refine Split.dec (fun cK=>?_) (fun iK=>?_)
  ·have My:0<m:=by
    rcases Nat.eq_zero_or_pos m with rfl|h
    ·rw [hP.root]at oE;have:=Option.some.inj oE;omega
    ·exact h
   obtain⟨z,hz,ez⟩:=hP.up m _ My oE;refine x8.go ⟨EP,x8.E1 hv ?_⟩;rw [ez];exact⟨(z:Int),rfl,⟨z,rfl,hu.trans (.step (by rw [oE,ez]) (.refl (by omega))),Mj⟩,by simp only;omega⟩
  ·rw [aY]
   exact done (by omega)
 ·have My:m=0:=by
   rcases Nat.eq_zero_or_pos m with h|h
   ·exact h
   ·obtain⟨z,_,ez⟩:=hP.up m _ h oE
    omega
  subst My;have:=OH md AB;rw [aY];exact done (by omega)
end
structure uu(T:List Nd):Prop extends Good T where
 root:∀nd,T[0]? =some nd->nd.lo=1/\nd.hi=4611686018427387904
theorem yy:uu oI:=by
 have fu:∀(i:Nat) nd,oI[i]? =some nd->i=0/\nd=⟨-1,[],1,4611686018427387904,1⟩:=by
  intro i nd h;cases i with
  |zero=>simp [oI]at h;exact⟨rfl,h.symm⟩
  |succ i=>simp [oI]at h
 exact {
  par:=⟨rfl,fun i p hi h=>by
   cases i with
   |zero=>omega
   |succ i=>simp [bG,oI]at h⟩
  ch:=fun i nd h=>by
   obtain⟨rfl,rfl⟩:=fu i nd h;simp [kids,bG,oI]
  iv:=fun i nd h=>by
   obtain⟨rfl,rfl⟩:=fu i nd h;exact⟨by decide,by decide,by decide⟩
  loc:=fun i nd h=>by
   obtain⟨rfl,rfl⟩:=fu i nd h;exact⟨by decide,by decide,fun c cd hc=>by simp at hc,fun c c' cd tp hc=>by simp at hc⟩
  root:=fun nd h=>by
   obtain⟨_,rfl⟩:=fu 0 nd h;exact⟨rfl,rfl⟩}
section
variable{T:List Nd}{p:Nat}{pd:Nd}
theorem CG(hp:T[p]? =some pd)(i:Nat):(added T p pd)[i]? =if i=p then some {pd with ch:=pd.ch++ [T.length],free:=pd.free+im pd}else if i=T.length then some ⟨p,[],pd.free,pd.free+im pd-1,pd.free⟩else T[i]? :=by
 have cK:p<T.length:=(lgeS hp).1;unfold added;rw [uW (by rw [iE hp,if_neg (by omega),if_pos rfl]) (by rw [iE hp,if_pos rfl]) (by omega),iE hp];split
 ·rfl
 ·split
  ·rfl
  ·rfl
theorem tC(hp:T[p]? =some pd):jR (grown T p pd) (added T p pd):=by
 have cK:p<T.length:=(lgeS hp).1;exact sQ _ (by rw [iE hp,if_neg (by omega),if_pos rfl]) (by rw [iE hp,if_pos rfl]) (by omega)
theorem Shape.LI(h:Shape T){i:Nat}{nd:Nd}(hi:T[i]? =some nd){c:Nat}(hc:c∈nd.ch):i<c/\c<T.length:=by
 rw [h.ch i nd hi]at hc;have:=gR h.par hc
 rwa [dG]at this
theorem uu.added(h:uu T)(hp:T[p]? =some pd)(qT:pd.free<pd.hi):uu (added T p pd):=by
 have cK:p<T.length:=(lgeS hp).1;have fu:=CG hp;have Kn:=h.iv p pd hp;have i1:=Kn.Tl;have i2:=Kn.le;have i3:=Kn.top;have lp:=h.loc p pd hp;have l1:=lp.C6;have l2:=lp.zp;have hh1:1<=im pd:=by unfold im;omega
 have hh2:pd.free+im pd<=pd.hi:=by unfold im;omega
 have hold:∀(c:Nat) cd,c<T.length->(Go.Proofs.YtfleamccglihoaaGreatDoor.Tr.added T p pd)[c]? =some cd->∃ed,T[c]? =some ed/\ed.lo=cd.lo/\ed.hi=cd.hi:=by
  intro c cd hc iQ;rw [fu]at iQ;by_cases e:c=p
  ·subst e
   rw [if_pos rfl]at iQ;cases iQ;exact⟨pd,hp,rfl,rfl⟩
  ·rw [if_neg e,if_neg (by omega)]at iQ
   exact⟨cd,iQ,rfl,rfl⟩
 have nO:∀cd,(Go.Proofs.YtfleamccglihoaaGreatDoor.Tr.added T p pd)[T.length]? =some cd->cd=⟨p,[],pd.free,pd.free+im pd-1,pd.free⟩:=by
  intro cd iQ;rw [fu,if_neg (by omega),if_pos rfl]at iQ;exact(Option.some.inj iQ).symm
 have aK:∀(i:Nat) nd,T[i]? =some nd->Loc (Go.Proofs.YtfleamccglihoaaGreatDoor.Tr.added T p pd) nd:=by
  intro i nd hi;have hl:=h.loc i nd hi;have hc:=fun c hc=>(h.toShape.LI hi (c:=c) hc).2;exact {
   C6:=hl.C6
   zp:=hl.zp
   sub:=fun c cd mI iQ=>by
    obtain⟨ed,h1,h2,h3⟩:=hold c cd (hc c mI) iQ;have:=hl.sub c ed mI h1;omega
   ord:=fun c c' cd tp mI mQ xu iQ o4=>by
    obtain⟨ed,h1,h2,h3⟩:=hold c cd (hc c mI) iQ;obtain⟨LH,qU,sO,AP⟩:=hold c' tp (hc c' mQ) o4;have:=hl.ord c c' ed LH mI mQ xu h1 qU;omega}
 have hs:=(tC hp).shape (h.toShape.grown hp);refine {toShape:=hs,iv:=?_,loc:=?_,root:=?_}
 ·intro i nd hi
  rw [fu]at hi;by_cases e:i=p
  ·rw [if_pos e]at hi
   cases hi;exact⟨i1,i2,i3⟩
  ·rw [if_neg e]at hi
   by_cases e2:i=T.length
   ·rw [if_pos e2]at hi
    cases hi;exact⟨by simp only;omega,by simp only;omega,by simp only;omega⟩
   ·rw [if_neg e2]at hi
    exact h.iv i nd hi
 ·intro i nd hi
  rw [fu]at hi;by_cases e:i=p
  ·rw [if_pos e]at hi
   cases hi;have kp:=aK p pd hp;have hc:=fun c hc=>(h.toShape.LI hp (c:=c) hc).2;exact {
    C6:=by simp only;omega
    zp:=hh2
    sub:=fun c cd mI iQ=>by
     simp only at mI;rcases List.mem_append.1 mI with mI|mI
     ·have:=kp.sub c cd mI iQ
      simp only;omega
     ·simp at mI
      subst mI;have:=nO cd iQ;subst this;simp only;omega
    ord:=fun c c' cd tp mI mQ xu iQ o4=>by
     simp only at mI mQ;rcases List.mem_append.1 mI with mI|mI
     ·rcases List.mem_append.1 mQ with mQ|mQ
      ·exact kp.ord c c' cd tp mI mQ xu iQ o4
      ·simp at mQ
       subst mQ;have:=nO tp o4;subst this;exact(kp.sub c cd mI iQ).2
     ·simp at mI
      rcases List.mem_append.1 mQ with mQ|mQ
      ·have:=hc c' mQ
       omega
      ·simp at mQ
       omega}
  ·rw [if_neg e]at hi
   by_cases e2:i=T.length
   ·rw [if_pos e2]at hi
    cases hi;exact⟨by simp only;omega,by simp only;omega,fun c cd hc=>by simp at hc,fun c c' cd tp hc=>by simp at hc⟩
   ·rw [if_neg e2]at hi
    exact aK i nd hi
 ·intro nd hi
  obtain⟨ed,h1,h2,h3⟩:=hold 0 nd h.toShape.pos hi;have:=h.root ed h1;omega
theorem uu.Fb(h:uu T)(hp:T[p]? =some pd){m i:Nat}{T':List Nd}{q:List Nat}(hu:jg (bG (grown T p pd)) p m)
 (hO:lX (bG (grown T p pd)) (grown T p pd) m T' q i) (hq:q.length<=i):uu T':=by
 have cK:p<T.length:=(lgeS hp).1;have fu:=iE hp;have hS:=h.toShape.grown hp;have hP:=hS.par;have hold:∀(c:Nat) cd,c<T.length->(grown T p pd)[c]? =some cd->∃ed,T[c]? =some ed/\ed.lo=cd.lo/\ed.hi=cd.hi:=by
  intro c cd hc iQ;rw [fu]at iQ;by_cases e:c=p
  ·subst e
   rw [if_pos rfl]at iQ;cases iQ;exact⟨pd,hp,rfl,rfl⟩
  ·rw [if_neg e,if_neg (by omega)]at iQ
   exact⟨cd,iQ,rfl,rfl⟩
 have Mv:(bG (grown T p pd))[T.length]? =some (p:Int):=by
  rw [kR hp,List.getElem?_append_right (by rw [dG];exact Nat.le_refl _)];simp [dG]
 have iP:=lX.fin hS hO hq (fun y nd hy hn=>by
  rw [fu]at hy;have e:y≠p:=fun e=>hn (e▸hu);rw [if_neg e]at hy;have e2:y≠T.length:=fun e=>hn (e▸ .step Mv hu);rw [if_neg e2]at hy;refine⟨h.iv y nd hy,?_⟩;have hl:=h.loc y nd hy;have hc:=fun c hc=>(h.toShape.LI hy (c:=c) hc).2;exact {
   C6:=hl.C6
   zp:=hl.zp
   sub:=fun c cd mI iQ=>by
    obtain⟨ed,h1,h2,h3⟩:=hold c cd (hc c mI) iQ;have:=hl.sub c ed mI h1;omega
   ord:=fun c c' cd tp mI mQ xu iQ o4=>by
    obtain⟨ed,h1,h2,h3⟩:=hold c cd (hc c mI) iQ;obtain⟨LH,qU,sO,AP⟩:=hold c' tp (hc c' mQ) o4;have:=hl.ord c c' ed LH mI mQ xu h1 qU;omega})
 refine {toGood:=iP,root:=fun nd hi=>?_};obtain⟨gd,Vq,_⟩:=hO.mh.back hi;obtain⟨ed,h1,h2,h3⟩:=hold 0 gd h.toShape.pos Vq;have hr:=h.root ed h1;by_cases hm:0∈q
 ·have:=(hO.mY 0 hm).le hP
  have My:m=0:=by omega
  subst My;have:=hO.top gd nd Vq hi;omega
 ·rw [hO.rest 0 hm,Vq]at hi
  cases hi;omega
end
section
variable{w:World}{S:Nat->Prop}{g:Nat}{T:List Nd}{d:Int}{K:Value->World->Prop}
theorem Dp(h:nh w S g T d)(hF:uu T){p:Nat}(hp:p<T.length)(hlen:T.length<=900000)(hd:0<=d/\d<=900000)
 (hK:∀w' S' T' d',nh w' S' g T' d'->uu T'->bG T'=bG T++ [(p:Int)]->d<=d'/\d'<=d+1->Kept S w w'->(∀k,S' k->S k\/w.heap.size<=k)->K (.tuple #[.int .i64 T.length,.int .i64 0]) w'):
 bm prog fy.id #[.pointer (some ⟨g,0,none⟩),.int .i64 p] w K:=by
 obtain⟨pd,vw⟩:=eR hp;have Kn:=hF.iv p pd vw;have i1:=Kn.Tl;have i2:=Kn.le;have i3:=Kn.top;have lp:=hF.loc p pd vw;have l1:=lp.C6;have l2:=lp.zp;have mR:pd.ch.length<=T.length:=by
  rw [hF.ch p pd vw];have:=wZ (bG T) p
  rwa [dG]at this
 refine rV h vw (by omega) (by omega) (by omega) l2 i3 (fun qT w' S' h' k' f'=>?_) (fun Zr w' S' h' k' f'=>?_)
 ·exact hK w' S' _ d h' (hF.added vw qT) (by rw [(tC vw).bG,kR vw]) ⟨by omega,by omega⟩ k' f'
 ·have hS:=hF.toShape.grown vw
  have fu:=iE vw;have oE:=hS.par;refine Bp h' hS (by rw [uV];omega) (by rw [uV];omega) ⟨hd.1,by omega⟩ (fun nd hi=>?_) (fun y nd hy hu=>?_) (fun w2 T2 m q i h2 hu hO hq k2=>⟨rfl,?_⟩)
  ·rw [fu]at hi
   by_cases e:0=p
   ·rw [if_pos e]at hi
    cases hi;exact hF.root pd (by rw [e];exact vw)
   ·rw [if_neg e,if_neg (by omega)]at hi
    exact hF.root nd hi
  ·have:=hu.le oE
   rw [fu]at hy;by_cases e:y=p
   ·rw [if_pos e]at hy
    cases hy;exact⟨i1,i2,i3⟩
   ·rw [if_neg e,if_neg (by omega)]at hy
    exact hF.iv y nd hy
  ·refine hK w2 S' T2 (d+1) h2 (hF.Fb vw hu hO hq) (by rw [hO.mh.bG,kR vw]) ⟨by omega,by omega⟩ ?_ f'
   exact k'.trans k2 (fun k hk hs=>by
    rcases f' k hs with h|h
    ·exact h
    ·omega)
end
def zs(l:List Int):List Value:=l.map fun x=>.int .i64 x
section
variable{w w':World}{S S':Nat->Prop}{h:Nat}{P:List Int}{b c:Nat}{K:Value->World->Prop}
end
def gQ(P:List Int)(n i:Nat):List Nat:=(List.range i).filter fun j=>P[j]? ==some (n:Int)
section
variable{w w':World}{S S':Nat->Prop}{h:Nat}{P:List Int}{b c:Nat}{K:Value->World->Prop}
end
section
variable{w w':World}{S S':Nat->Prop}{g:Nat}{T:List Nd}{d:Int}{K:Value->World->Prop}
end
end Go.Proofs.YtfleamccglihoaaGreatDoor.Tr
