import Derived.Test.YtfleamccglihoaaGreatDoorMA
import Derived.Test.YtfleamccglihoaaGreatDoorMD
import Derived.Laws.OwnMore
import Derived.Test.YtfleamccglihoaaGreatDoorMG
import Derived.Laws.Bits64b
open Go.IntKind (i64 u64)
set_option linter.unusedVariables false
namespace Go.Proofs.YtfleamccglihoaaGreatDoor.Tr
open Go.Proofs.Tryz
open Go Go.bE Go.RowKit
structure Nd where
 parent:Int
 ch:List Nat
 lo:Int
 hi:Int
 free:Int
def iD(nd:Nd)(v:Value):List Value:= [.int .i64 nd.parent,v,.int .u64 nd.lo,.int .u64 nd.hi,.int .u64 nd.free]
def mS(L:List (Nd×Value)):List Value:=L.flatMap fun p=>iD p.1 p.2
def ints(l:List Nat):List Value:=l.map fun x:Nat=>.int .i64 (x:Int)
theorem q6(L:List (Nd×Value)):(mS L).length=L.length*5:=by
 induction L with
 |nil=>rfl
 |cons p L ih=>simp only [mS,List.flatMap_cons,List.length_append,List.length_cons]at*;rw [ih];simp [iD];omega
theorem E9{L:List (Nd×Value)}{i:Nat}{p:Nd×Value}(h:L[i]? =some p){j:Nat}(hj:j<5):(mS L)[i*5+j]? =(iD p.1 p.2)[j]? :=by
 induction L generalizing i with
 |nil=>simp at h
 |cons q L ih=>
  have hq:(iD q.1 q.2).length=5:=rfl;cases i with
  |zero=>
   simp at h;subst h;simp only [mS,List.flatMap_cons];rw [Nat.zero_mul,Nat.zero_add,List.getElem?_append_left (by omega)]
  |succ i=>
   simp at h;have:=ih h;simp only [mS,List.flatMap_cons]at*;rw [List.getElem?_append_right (by omega),hq,<-this]
   congr 1
   omega
theorem xI{L:List (Nd×Value)}{i:Nat}{p p':Nd×Value}(h:L[i]? =some p){j:Nat}(hj:j<5){v:Value}(hp:iD p'.1 p'.2=(iD p.1 p.2).set j v):
 (mS L).set (i*5+j) v=mS (L.set i p'):=by
 induction L generalizing i with
 |nil=>simp at h
 |cons q L ih=>
  have hq:(iD q.1 q.2).length=5:=rfl;cases i with
  |zero=>
   simp at h;subst h;simp only [mS,List.flatMap_cons,List.set_cons_zero];rw [Nat.zero_mul,Nat.zero_add,List.set_append_left _ _ (by omega),hp]
  |succ i=>
   simp at h;have:=ih h;simp only [mS,List.flatMap_cons,List.set_cons_succ]at*;rw [List.set_append_right _ _ (by omega),hq,<-this]
   congr 2
   omega
structure Ro(w:World)(S:Nat->Prop)(p:Nd×Value)(A:Option Addr)(m:Nat):Prop where
 val:p.2=.slice A p.1.ch.length m
 row:Row w 0 fC 1 A p.1.ch.length m (ints p.1.ch)
 jf:∀k,bp A=some k->S k
structure TV(w:World)(S:Nat->Prop)(g:Nat)(T:List Nd)(d:Int)(b c:Nat)(L:List (Nd×Value)):Prop where
 top:w.heap[g]? =some (.cells #[.slice (some ⟨b,0,none⟩) T.length c,.int .i64 d] ri (0,0))
 fst:L.map Prod.fst=T
 row:Row w 0 iz 5 (some ⟨b,0,none⟩) T.length c (mS L)
 oX:∀(i:Nat) (p:Nd×Value),L[i]? =some p->∃A m,Ro w S p A m
 apart:∀(i j:Nat) (p q:Nd×Value),L[i]? =some p->L[j]? =some q->i≠j->∀k,Value.ownBlock p.2=some k->Value.ownBlock q.2≠some k
 fZ:S g
 fg:S b
def nh(w:World)(S:Nat->Prop)(g:Nat)(T:List Nd)(d:Int):Prop:=∃b c L,TV w S g T d b c L
section
variable{w w':World}{S S':Nat->Prop}{g:Nat}{T:List Nd}{d:Int}{b c:Nat}{L:List (Nd×Value)}
theorem TV.at_(h:TV w S g T d b c L){i:Nat}{nd:Nd}(hi:T[i]? =some nd):∃v,L[i]? =some (nd,v):=by
 rw [<-h.fst,List.getElem?_map]at hi;cases hL:L[i]? with
 |none=>simp [hL]at hi
 |some p=>
  rw [hL]at hi;simp at hi;exact⟨p.2,by rw [<-hi]⟩
theorem TV.nodes(h:TV w S g T d b c L):w.cell? ⟨g,0,none⟩=some (.slice (some ⟨b,0,none⟩) T.length c):=by rw [aD h.top];rfl
theorem TV.Fc(h:TV w S g T d b c L):w.cell? ⟨g,1,none⟩=some (.int .i64 d):=by rw [aD h.top];rfl
theorem TV.cell(h:TV w S g T d b c L){i:Nat}{p:Nd×Value}(hi:L[i]? =some p){j:Nat}{v:Value}(hj:j<5)(hv:(iD p.1 p.2)[j]? =some v):w.cell? ⟨b,i*5+j,none⟩=some v:=
 Row.cell h.row (by rw [E9 hi hj,hv])
theorem TV.gb(h:TV w S g T d b c L):g≠b:=by
 rintro rfl;obtain⟨_,cur,hc⟩:=Row.bS h.row (k:=g) rfl;rw [h.top]at hc;injection hc with hc;injection hc with _ ht;exact absurd ht (by decide)
theorem Ro.ne{p:Nd×Value}{A:Option Addr}{m:Nat}(h:Ro w S p A m){k:Nat}{cs:Array Value}{t:TypeId}(hk:w.heap[k]? =some (.cells cs t (0,0)))(ht:t≠fC):bp A≠some k:=by
 intro e;obtain⟨_,cur,hc⟩:=Row.bS h.row e;rw [hk]at hc;injection hc with hc;injection hc with _ h2;exact ht h2
theorem TV.tC(h:TV w S g T d b c L):∃cur,w.heap[b]? =some (.cells cur iz (0,0)):=(Row.bS h.row rfl).2
theorem TV.aK{S0:Nat->Prop}(h:TV w S g T d b c L)(hk:Kept S0 w w')(hn:∀k,S k->¬S0 k):TV w' S g T d b c L:= {
 top:=hk.heap h.top (hn g h.fZ)
 fst:=h.fst
 row:=Row.aK h.row hk (fun k e=>by cases e;exact hn b h.fg)
 oX:=fun i p hp=>let ⟨A,m,h1⟩:=h.oX i p hp;⟨A,m,h1.val,Row.aK h1.row hk (fun k e=>hn k (h1.jf k e)),h1.jf⟩
 apart:=h.apart
 fZ:=h.fZ
 fg:=h.fg}
theorem nh.aK{S0:Nat->Prop}(h:nh w S g T d)(hk:Kept S0 w w')(hn:∀k,S k->¬S0 k):nh w' S g T d:=
 let ⟨b,c,L,h⟩:=h;⟨b,c,L,h.aK hk hn⟩
theorem nh.same(h:nh w S g T d)(hk:Kept Nil w w'):nh w' S g T d:=h.aK hk fun _ _ h=>h
theorem TV.lt(h:TV w S g T d b c L):g<w.heap.size:=aZ h.top
theorem TV.r5(h:TV w S g T d b c L){i:Nat}{nd nd':Nd}{v:Value}(hi:L[i]? =some (nd,v)){j:Nat}(hj:j<5){u:Value}
 (hc:iD nd' v=(iD nd v).set j u) (mR:nd'.ch=nd.ch):
 Wr w ⟨b,i*5+j,none⟩/\TV (w.setCell ⟨b,i*5+j,none⟩ u) S g (T.set i nd') d b c (L.set i (nd',v)):=by
 have fc:i<L.length:=(lgeS hi).1;have cJ:i*5+j<(mS L).length:=by rw [q6];omega
 refine⟨Row.wr h.row cJ,?_⟩;have fV:=Row.set h.row cJ u;rw [xI hi hj (p':=(nd',v)) hc]at fV;have hK:Kept (fun k=>k=b) w (w.setCell ⟨b,i*5+j,none⟩ u):=(Kept.refl (fun k=>k=b) w).setCell (p:=⟨b,i*5+j,none⟩) (fun _=>rfl) u;have fp:∀(k:Nat) (p:Nd×Value),(L.set i (nd',v))[k]? =some p->∃q,L[k]? =some q/\q.2=p.2/\q.1.ch=p.1.ch:=by
  intro k p hp;rw [List.getElem?_set]at hp;by_cases e:i=k
  ·subst e
   rw [if_pos rfl,if_pos fc]at hp;cases hp;exact⟨_,hi,rfl,mR.symm⟩
  ·rw [if_neg e]at hp
   exact⟨p,hp,rfl,rfl⟩
 exact {
  top:=by rw [List.length_set];exact hK.heap h.top h.gb
  fst:=by rw [List.map_set,h.fst]
  row:=by rw [List.length_set];exact fV
  oX:=fun k p hp=>by
   obtain⟨q,hq,h1,h2⟩:=fp k p hp;obtain⟨A,m,hk⟩:=h.oX k q hq;obtain⟨cur,hb⟩:=h.tC;refine⟨A,m,by rw [<-h1,<-h2];exact hk.val,?_,hk.jf⟩;rw [<-h2];exact Row.aK hk.row hK (fun k e e2=>hk.ne hb (by decide) (by rw [e,e2]))
  apart:=fun k l p q hp hq C0=>by
   obtain⟨p',G8,h1,_⟩:=fp k p hp;obtain⟨q',G5,h2,_⟩:=fp l q hq;rw [<-h1,<-h2];exact h.apart k l p' q' G8 G5 C0
  fZ:=h.fZ
  fg:=h.fg}
end
theorem mW(b x y:Nat):((⟨b,0,none⟩:Addr).add x).add y=⟨b,x+y,none⟩:=by rw [bu,bu,Nat.zero_add]
theorem kZ(b x:Nat):(⟨b,0,none⟩:Addr).add x=⟨b,x,none⟩:=by rw [bu,Nat.zero_add]
section
variable{w:World}{S:Nat->Prop}{g:Nat}{T:List Nd}{d:Int}{b c:Nat}{L:List (Nd×Value)}
theorem TV.go(h:TV w S g T d b c L){k:Option Addr->Nat->Nat->Prop}(hk:k (some ⟨b,0,none⟩) T.length c):
 ∃A n m,w.cell? ((⟨g,0,none⟩:Addr).add 0)=some (.slice A n m)/\k A n m:=⟨_,_,_,by rw [kZ];exact h.nodes,hk⟩
theorem TV.goD(h:TV w S g T d b c L){k:Int->Prop}(hk:k d):∃t,w.cell? ((⟨g,0,none⟩:Addr).add 1)=some (.int .i64 t)/\k t:=
 ⟨_,by rw [kZ];exact h.Fc,hk⟩
theorem TV.E5(h:TV w S g T d b c L){i:Nat}{nd:Nd}{v:Value}(hi:L[i]? =some (nd,v)){k:Int->Prop}(hk:k nd.parent):
 ∃t,w.cell? (((⟨b,0,none⟩:Addr).add (i*5)).add 0)=some (.int .i64 t)/\k t:=⟨_,by rw [mW];exact h.cell hi (by omega) rfl,hk⟩
theorem TV.QU(h:TV w S g T d b c L){i:Nat}{nd:Nd}{v:Value}(hi:L[i]? =some (nd,v)){A:Option Addr}{m:Nat}(hv:v=.slice A nd.ch.length m){k:Option Addr->Nat->Nat->Prop}(hk:k A nd.ch.length m):
 ∃A n m,w.cell? (((⟨b,0,none⟩:Addr).add (i*5)).add 1)=some (.slice A n m)/\k A n m:=⟨_,_,_,by rw [mW];exact h.cell hi (by omega) (by rw [hv];rfl),hk⟩
theorem TV.sY(h:TV w S g T d b c L){i:Nat}{nd:Nd}{v:Value}(hi:L[i]? =some (nd,v)){k:Int->Prop}(hk:k nd.lo):
 ∃t,w.cell? (((⟨b,0,none⟩:Addr).add (i*5)).add 2)=some (.int .u64 t)/\k t:=⟨_,by rw [mW];exact h.cell hi (by omega) rfl,hk⟩
theorem TV.xF(h:TV w S g T d b c L){i:Nat}{nd:Nd}{v:Value}(hi:L[i]? =some (nd,v)){k:Int->Prop}(hk:k nd.hi):
 ∃t,w.cell? (((⟨b,0,none⟩:Addr).add (i*5)).add 3)=some (.int .u64 t)/\k t:=⟨_,by rw [mW];exact h.cell hi (by omega) rfl,hk⟩
theorem TV.vH(h:TV w S g T d b c L){i:Nat}{nd:Nd}{v:Value}(hi:L[i]? =some (nd,v)){k:Int->Prop}(hk:k nd.free):
 ∃t,w.cell? (((⟨b,0,none⟩:Addr).add (i*5)).add 4)=some (.int .u64 t)/\k t:=⟨_,by rw [mW];exact h.cell hi (by omega) rfl,hk⟩
theorem TV.kept{w':World}(h:TV w S g T d b c L)(hk:Kept Nil w w'):TV w' S g T d b c L:=h.aK hk fun _ _ h=>h
end
section
variable{w:World}{S:Nat->Prop}{g:Nat}{T:List Nd}{d:Int}{K:Value->World->Prop}
theorem vl(h:nh w S g T d)(n:Int)(hK:K (.bool (decide (0<=n/\n<T.length))) w):
 bm prog gC.id #[.pointer (some ⟨g,0,none⟩),.int .i64 n] w K:=by
 obtain⟨b,c,L,h⟩:=h;refine gC.of (Split.yes rfl (Split.dec (fun h0=>h.go ?_) (fun h0=>?_)))
 ·rwa [show decide (0<=n/\n<(T.length:Int))=decide (n<(T.length:Int))from by simp [show(0:Int)<=n from h0]]at hK
 ·rwa [decide_eq_false (fun e:0<=n/\n<(T.length:Int)=>h0 e.1)]at hK
theorem Dp(h:nh w S g T d)(hT:0<T.length)(n:Int)(hK:K (.int .i64 (if 0<=n/\n<T.length then 0 else 6)) w):
 bm prog ft.id #[.pointer (some ⟨g,0,none⟩),.int .i64 n] w K:=by
 have h0:=h;obtain⟨b,c,L,h⟩:=h;refine ft.of (Split.no rfl (h.go (Split.no (beq_eq_false_iff_ne.2 (by omega)) (vl h0 n ⟨_,rfl,?_⟩))));by_cases hn:0<=n/\n<(T.length:Int)
 ·rw [if_pos hn]at hK
  exact Split.no (by simp [hn]) hK
 ·rw [if_neg hn]at hK
  exact Split.yes (by simp only [decide_eq_false hn];rfl) hK
theorem qJ(h:nh w S g T d){n:Nat}(hn:n<T.length)(hK:K (.int .i64 0) w):
 bm prog ft.id #[.pointer (some ⟨g,0,none⟩),.int .i64 n] w K:=Dp h (by omega) n (by rw [if_pos ⟨by omega,by omega⟩];exact hK)
theorem Bq(h:nh w S g T d){n:Nat}{nd:Nd}(hn:T[n]? =some nd)(hK:∀w',Kept Nil w w'->K (.int .u64 (u64.wrap (nd.hi-nd.free))) w'):
 bm prog eA.id #[.pointer (some ⟨g,0,none⟩),.int .i64 n] w K:=by
 obtain⟨b,c,L,h⟩:=h;have cJ:n<T.length:=(lgeS hn).1;obtain⟨v,hv⟩:=h.at_ hn;refine eA.of ?_;unfold eA.W;intro w1;have k1:Kept Nil w w1:=(Kept.refl Nil w).drew;have h1:=h.kept k1;have hb:0<=(n:Int)/\(n:Int)<(T.length:Int):=⟨by omega,by omega⟩;exact h1.go ⟨hb,h1.xF hv (h1.go ⟨hb,h1.vH hv (hK w1 k1)⟩)⟩
theorem wo(h:nh w S g T d){n:Nat}{nd:Nd}(hn:T[n]? =some nd)(h0:0<n)(hK:K (.tuple #[.int .i64 nd.parent,.int .i64 0]) w):
 bm prog dV.id #[.pointer (some ⟨g,0,none⟩),.int .i64 n] w K:=by
 have cJ:n<T.length:=(lgeS hn).1;refine dV.of (qJ h cJ ⟨_,rfl,Split.yes rfl (Split.no (beq_eq_false_iff_ne.2 (by omega)) (Split.no rfl ?_))⟩);obtain⟨b,c,L,h⟩:=h;obtain⟨v,hv⟩:=h.at_ hn;exact h.go ⟨⟨by omega,by omega⟩,h.E5 hv hK⟩
theorem HX:Bb prog iA fC 1 8:=⟨by kernel_rfl,by kernel_rfl⟩
theorem Dw:Bb prog gz iz 5 56:=⟨by kernel_rfl,by kernel_rfl⟩
end
theorem dX{x:Int}(h0:0<=x)(h1:x<18446744073709551616):u64.wrap x=x:=by
 simp only [IntKind.wrap,IntKind.bits,IntKind.signed];simp;omega
theorem iI{x:Int}(h0: -9223372036854775808<=x)(h1:x<9223372036854775808):i64.wrap x=x:=by
 simp only [IntKind.wrap,IntKind.bits,IntKind.signed];simp;omega
def sV(T:List Nd)(n p:Nat)(nd pd:Nd)(many:Int):List Nd:=
 (T.set n {nd with lo:=pd.free,hi:=pd.free+many-1,free:=pd.free}).set p {pd with free:=pd.free+many}
section
variable{w:World}{S:Nat->Prop}{g:Nat}{T:List Nd}{d:Int}{K:Value->World->Prop}
theorem gI{α:Type}{L:List α}{i:Nat}{x y:α}(h:L[i]? =some x):(L.set i y)[i]? =some y:=by
 rw [List.getElem?_set_self (lgeS h).1]
theorem mz{α:Type}{L:List α}{i j:Nat}{x y:α}(h:L[j]? =some x)(fH:i≠j):(L.set i y)[j]? =some x:=by
 rw [List.getElem?_set_ne fH];exact h
theorem rW{b c:Nat}{L:List (Nd×Value)}(h:TV w S g T d b c L){n p:Nat}{nd pd:Nd}{many:Int}(hn:T[n]? =some nd)(hp:T[p]? =some pd)(Ms:nd.parent=p)(fH:n≠p)
 (hf:0<=pd.free) (hm:1<=many) (Zq:pd.free+many<18446744073709551616)
 (hK:∀w' L',TV w' S g (sV T n p nd pd many) d b c L'->Kept (fun k=>k=b) w w'->K (.tuple #[]) w'):
 bm prog eB.id #[.pointer (some ⟨g,0,none⟩),.int .i64 n,.int .u64 many] w K:=by
 have UT:n<T.length:=(lgeS hn).1;have rN:p<T.length:=(lgeS hp).1;obtain⟨v,hv⟩:=h.at_ hn;obtain⟨u,hu⟩:=h.at_ hp;have VT:0<=(n:Int)/\(n:Int)<(T.length:Int):=⟨by omega,by omega⟩;have IW:0<=nd.parent/\nd.parent<(T.length:Int):=by rw [Ms];exact⟨by omega,by omega⟩
 refine eB.of (h.go ⟨VT,Is.mk rfl ?_⟩);intro w7;have k7:Kept (fun k=>k=b) w w7:=(Kept.refl _ w).drew;have h7:TV w7 S g T d b c L:=h.kept (Kept.refl Nil w).drew;refine h7.go (h7.E5 hv ⟨IW,Is.mk rfl ?_⟩);rw [Ms];refine h7.vH hu ?_;obtain⟨SJ,yf⟩:=h7.r5 hv (j:=2) (by omega) (u:=.int .u64 pd.free) (nd':= {nd with lo:=pd.free}) rfl rfl;have kS:∀ {w w':World},Kept (fun k=>k=b) w w'->∀(j:Nat) (u:Value),Kept (fun k=>k=b) w (w'.setCell ⟨b,j,none⟩ u):=fun k j u=>k.setCell (fun _=>rfl) u;have v1:(L.set n ({nd with lo:=pd.free},v))[n]? =some ({nd with lo:=pd.free},v):=gI hv;refine⟨by rw [mW];exact SJ,?_⟩;intro p6;have Z7:p6=w7.setCell ⟨b,n*5+2,none⟩ (.int .u64 pd.free):=by simp only [p6,mW,Int.toNat_natCast]
 have Mg:Kept (fun k=>k=b) w p6:=by rw [Z7];exact kS k7 _ _
 rw [<-Z7]at yf;clear_value p6;refine yf.sY v1 ?_;obtain⟨wr2,Cs⟩:=yf.r5 v1 (j:=3) (by omega) (u:=.int .u64 (u64.wrap (u64.wrap (pd.free+many)-1))) (nd':= {nd with lo:=pd.free,hi:=pd.free+many-1}) (by rw [dX (x:=pd.free+many) (by omega) (by omega),dX (by omega) (by omega)];rfl) rfl;refine⟨by rw [mW];exact wr2,?_⟩;intro np;have Z6:np=p6.setCell ⟨b,n*5+3,none⟩ (.int .u64 (u64.wrap (u64.wrap (pd.free+many)-1))):=by simp only [np,mW,Int.toNat_natCast]
 have uT:Kept (fun k=>k=b) w np:=by rw [Z6];exact kS Mg _ _
 rw [<-Z6]at Cs;clear_value np;rw [List.set_set,List.set_set]at Cs;have v2:(L.set n ({nd with lo:=pd.free,hi:=pd.free+many-1},v))[n]? =some ({nd with lo:=pd.free,hi:=pd.free+many-1},v):=gI hv;refine Cs.sY v2 ?_;obtain⟨SI,FW⟩:=Cs.r5 v2 (j:=4) (by omega) (u:=.int .u64 pd.free) (nd':= {nd with lo:=pd.free,hi:=pd.free+many-1,free:=pd.free}) rfl rfl;refine⟨by rw [mW];exact SI,?_⟩;intro uz;have Z5:uz=np.setCell ⟨b,n*5+4,none⟩ (.int .u64 pd.free):=by simp only [uz,mW,Int.toNat_natCast]
 have Ea:Kept (fun k=>k=b) w uz:=by rw [Z5];exact kS uT _ _
 rw [<-Z5]at FW;clear_value uz;rw [List.set_set,List.set_set]at FW;have u3:(L.set n ({nd with lo:=pd.free,hi:=pd.free+many-1,free:=pd.free},v))[p]? =some (pd,u):=mz hu fH;refine FW.vH u3 ?_;obtain⟨wr4,QQ⟩:=FW.r5 u3 (j:=4) (by omega) (u:=.int .u64 (u64.wrap (pd.free+many))) (nd':= {pd with free:=pd.free+many}) (by rw [dX (by omega) (by omega)];rfl) rfl;refine⟨by rw [mW];exact wr4,?_⟩;intro qc;have Z3:qc=uz.setCell ⟨b,p*5+4,none⟩ (.int .u64 (u64.wrap (pd.free+many))):=by simp only [qc,mW,Int.toNat_natCast]
 exact hK qc _ (by rw [Z3];exact QQ) (by rw [Z3];exact kS Ea _ _)
theorem Br(h:nh w S g T d){n p:Nat}{nd pd:Nd}{many:Int}(hn:T[n]? =some nd)(hp:T[p]? =some pd)(Ms:nd.parent=p)(fH:n≠p)
 (hf:0<=pd.free) (hm:1<=many) (Zq:pd.free+many<18446744073709551616)
 (hK:∀w',nh w' S g (sV T n p nd pd many) d->Kept S w w'->K (.tuple #[]) w'):
 bm prog eB.id #[.pointer (some ⟨g,0,none⟩),.int .i64 n,.int .u64 many] w K:=by
 obtain⟨b,c,L,h⟩:=h;exact rW h hn hp Ms fH hf hm Zq fun w' L' h' k'=>hK w' ⟨b,c,L',h'⟩ (k'.mono fun k _ e=>by rw [e];exact h.fg)
end
section
variable{w:World}{S:Nat->Prop}{g:Nat}{T:List Nd}{d:Int}{b c:Nat}{L:List (Nd×Value)}
theorem xJ(L M:List (Nd×Value)):mS (L++M)=mS L++mS M:=by simp [mS]
theorem TV.E1(h:TV w S g T d b c L)(nN:T.length<=1000000)(p:Int){w10:World}
 (e10:w10=w.alloc (.cells #[.int .i64 p,.slice none 0 0,.int .u64 0,.int .u64 0,.int .u64 0] iz)):
 ∃A c' ph,(Builtin.append_ #[gz,gz] gz #[.slice (some ⟨b,0,none⟩) T.length c,.slice (some ⟨w.heap.size,0,none⟩) 1 1]).run prog w10=.ok (.slice A (T.length+1) c') ph/\
  Wr ph ⟨g,0,none⟩/\∃b' S' L',TV (ph.setCell ⟨g,0,none⟩ (.slice A (T.length+1) c')) S' g (T++ [⟨p,[],0,0,0⟩]) d b' c' L'/\(∀(i:Nat) q,L[i]? =some q->L'[i]? =some q)/\
   Kept S w (ph.setCell ⟨g,0,none⟩ (.slice A (T.length+1) c'))/\(∀k,S k->S' k)/\(∀k,S' k->S k\/w.heap.size<=k):=by
 subst e10;generalize Kw:w.alloc (.cells #[.int .i64 p,.slice none 0 0,.int .u64 0,.int .u64 0,.int .u64 0] iz)=w10;have nO:w10.heap[w.heap.size]? =some (.cells #[.int .i64 p,.slice none 0 0,.int .u64 0,.int .u64 0,.int .u64 0] iz (0,0)):=by rw [<-Kw];exact aR w _
 have tY:Kept Nil w w10:=by rw [<-Kw];exact(Kept.refl Nil w).alloc _
 have G3:w10.heap.size=w.heap.size+1:=by rw [<-Kw];simp
 have rQ:=h.kept tY;obtain⟨A,c',ph,hr,fV,hg,Cp⟩:=iu (P:=prog) (t:=gz) (ty:=gz) Dw rQ.row (a:=⟨w.heap.size,0,none⟩) (m:=1) (cx:=1)
  (news:=iD ⟨p,[],0,0,0⟩ (.slice none 0 0)) rfl (fun j u hj=>by rw [kZ,aD nO];simpa [iD]using hj) (by intro u hu;simp [iD]at hu;rcases hu with rfl|rfl|rfl|rfl|rfl<;>rfl)
  (by omega) (by unfold maxLen;omega) (Nat.zero_le _)
 obtain⟨b',rfl⟩:=Row.some fV (by omega);have kb:Kept (fun k=>k=b) w10 ph:=(Kept.refl _ w10).grown hg (fun k hk _=>by cases hk;rfl);have js:ph.heap[g]? =some (.cells #[.slice (some ⟨b,0,none⟩) T.length c,.int .i64 d] ri (0,0)):=kb.heap rQ.top h.gb;refine⟨_,c',ph,hr,dK js (show 0<2 by omega),?_⟩;generalize Oo:ph.setCell ⟨g,0,none⟩ (.slice (some ⟨b',0,none⟩) (T.length+1) c')=wf;have kg:Kept (fun k=>k=g) ph wf:=by rw [<-Oo];exact(Kept.refl (fun k=>k=g) ph).setCell (p:=⟨g,0,none⟩) (fun _=>rfl) _
 have uf:b'=b\/w10.heap.size<=b':=by
  rcases Cp b' rfl with h|h
  ·left;cases h;rfl
  ·exact .inr h
 have Wd:b'≠g:=by
  rintro rfl;obtain⟨_,cur,hc⟩:=Row.bS fV (k:=b') rfl;rw [js]at hc;injection hc with hc;injection hc with _ ht;exact absurd ht (by decide)
 have Ck:∀(i:Nat) (q:Nd×Value),L[i]? =some q->∃A m,Ro wf S q A m:=by
  intro i q hq;obtain⟨A,m,hk⟩:=rQ.oX i q hq;obtain⟨cur,Mz⟩:=rQ.tC;have r1:=Row.aK hk.row kb (fun k e e2=>hk.ne Mz (by decide) (by rw [e,e2]));have r2:=Row.aK r1 kg (fun k e e2=>hk.ne rQ.top (by decide) (by rw [e,e2]));exact⟨A,m,hk.val,r2,hk.jf⟩
 refine⟨b',fun k=>S k\/k=b',L++ [(⟨p,[],0,0,0⟩,.slice none 0 0)],?_,fun i q hq=>?_,?_,fun k hk=>.inl hk,?_⟩
 ·exact {
   top:=by
    have:=cX js 0 (.slice (some ⟨b',0,none⟩) (T.length+1) c');rw [Oo]at this;simpa using this
   fst:=by simp [h.fst]
   row:=by
    rw [xJ,List.length_append];have:=Row.aK fV kg (fun k e e2=>Wd (by cases e;exact e2));simpa [mS]using this
   oX:=fun i q hq=>by
    rw [List.getElem?_append]at hq;split at hq
    ·obtain⟨A,m,hk⟩:=Ck i q hq
     exact⟨A,m,hk.val,hk.row,fun k e=>.inl (hk.jf k e)⟩
    ·rename_i cJ
     have:i-L.length=0:=by
      rcases Nat.eq_zero_or_pos (i-L.length)with h|h
      ·exact h
      ·rw [List.getElem?_eq_none (by simp;omega)]at hq;cases hq
     rw [this]at hq;simp at hq;subst hq;exact⟨none,0,rfl,Row.nil _ _ _ _,fun k e=>by cases e⟩
   apart:=fun i j q q' hq G5 pP k hk mZ=>by
    rw [List.getElem?_append]at hq G5;have last:∀(x:Nat) (r:Nd×Value),[((⟨p,[],0,0,0⟩:Nd),Value.slice none 0 0)][x]? =some r->r.2=.slice none 0 0:=by
     intro x r hr;cases x with
     |zero=>simp at hr;subst hr;rfl
     |succ x=>simp at hr
    split at hq<;>split at G5
    ·exact h.apart i j q q' hq G5 pP k hk mZ
    ·rw [last _ _ G5]at mZ;cases mZ
    ·rw [last _ _ hq]at hk;cases hk
    ·rw [last _ _ G5]at mZ;cases mZ
   fZ:=.inl h.fZ
   fg:=.inr rfl}
 ·rw [List.getElem?_append_left (lgeS hq).1];exact hq
 ·have FD:Kept S w ph:=(tY.mono (S':=S) (fun _ _ h=>h.elim)).trans kb (fun k _ e=>by rw [e];exact h.fg)
  exact FD.trans kg (fun k _ e=>by rw [e];exact h.fZ)
 ·rintro k (hk|rfl)
  ·exact .inl hk
  ·rcases uf with rfl|uf
   ·exact .inl h.fg
   ·right;omega
theorem TV.HB(h:TV w S g T d b c L){p:Nat}{nd:Nd}{v:Value}(hp:L[p]? =some (nd,v)){A:Option Addr}{m:Nat}(hk:Ro w S (nd,v) A m)(nN:nd.ch.length<=1000000)(n:Nat){w22:World}
 (e22:w22=w.alloc (.cells #[.int .i64 n] fC)):
 ∃A' c' kr,(Builtin.append_ #[iA,iA] iA #[.slice A nd.ch.length m,.slice (some ⟨w.heap.size,0,none⟩) 1 1]).run prog w22=.ok (.slice A' (nd.ch.length+1) c') kr/\
  kr.cell? ⟨g,0,none⟩=some (.slice (some ⟨b,0,none⟩) T.length c)/\Wr kr ⟨b,p*5+1,none⟩/\
  ∃S' L',TV (kr.setCell ⟨b,p*5+1,none⟩ (.slice A' (nd.ch.length+1) c')) S' g (T.set p {nd with ch:=nd.ch++ [n]}) d b c L'/\
   Kept S w (kr.setCell ⟨b,p*5+1,none⟩ (.slice A' (nd.ch.length+1) c'))/\(∀k,S k->S' k)/\(∀k,S' k->S k\/w.heap.size<=k):=by
 subst e22;generalize Kv:w.alloc (.cells #[.int .i64 n] fC)=w22;have nO:w22.heap[w.heap.size]? =some (.cells #[.int .i64 n] fC (0,0)):=by rw [<-Kv];exact aR w _
 have NX:Kept Nil w w22:=by rw [<-Kv];exact(Kept.refl Nil w).alloc _
 have aca:w22.heap.size=w.heap.size+1:=by rw [<-Kv];simp
 have zm:=h.kept NX;have KF:=Row.aK hk.row NX (fun _ _ h=>h);have rN:p<L.length:=(lgeS hp).1;obtain⟨A',c',kr,hr,fV,hg,Cp⟩:=iu (P:=prog) (t:=iA) (ty:=iA) HX KF (a:=⟨w.heap.size,0,none⟩) (m:=1) (cx:=1)
  (news:=ints [n]) rfl (fun j u hj=>by rw [kZ,aD nO];simpa [ints]using hj) (by intro u hu;simp [ints]at hu;subst hu;rfl)
  (by simp only;omega) (by unfold maxLen;simp only;omega) (Nat.zero_le _)
 obtain⟨cur,Mz⟩:=zm.tC;obtain⟨aeo,hb0⟩:=h.tC;have IK:bp A≠some b:=hk.ne hb0 (by decide);have hkg:bp A≠some g:=hk.ne h.top (by decide);have kA:Kept (fun k=>bp A=some k) w22 kr:=(Kept.refl _ w22).grown hg (fun k hk _=>hk);have E0:Row kr 0 iz 5 (some ⟨b,0,none⟩) T.length c (mS L):=Row.aK zm.row kA (fun k e e2=>IK (by rw [e2,<-e];rfl));have EZ:=kA.heap zm.top (fun e=>hkg e);have cJ:p*5+1<(mS L).length:=by rw [q6];omega
 refine⟨A',c',kr,hr,by rw [aD EZ];rfl,Row.wr E0 cJ,?_⟩;generalize Oo:kr.setCell ⟨b,p*5+1,none⟩ (.slice A' (nd.ch.length+1) c')=wf;have kB:Kept (fun k=>k=b) kr wf:=by rw [<-Oo];exact(Kept.refl (fun k=>k=b) kr).setCell (p:=⟨b,p*5+1,none⟩) (fun _=>rfl) _
 have WG:bp A'≠some b:=by
  intro e;obtain⟨_,Q5,hc⟩:=Row.bS fV e;have:=kA.heap Mz IK;rw [this]at hc;injection hc with hc;injection hc with _ ht;exact absurd ht (by decide)
 have sM:∀(A:Option Addr) n m,Value.ownBlock (.slice A n m)=bp A:=by intro A n m;cases A<;>rfl
 have fp:∀(i:Nat) (q:Nd×Value),(L.set p ({nd with ch:=nd.ch++ [n]},.slice A' (nd.ch.length+1) c'))[i]? =some q->(i=p/\q=({nd with ch:=nd.ch++ [n]},.slice A' (nd.ch.length+1) c'))\/(i≠p/\L[i]? =some q):=by
  intro i q hq;by_cases e:p=i
  ·subst e
   rw [List.getElem?_set_self rN]at hq;cases hq;exact .inl ⟨rfl,rfl⟩
  ·rw [List.getElem?_set_ne e]at hq
   exact .inr ⟨fun h=>e h.symm,hq⟩
 have IH:∀k,bp A'=some k->∀(i:Nat) (q:Nd×Value),i≠p->L[i]? =some q->Value.ownBlock q.2≠some k:=by
  intro k mZ i q hi hq Uy;rcases Cp k mZ with e|e
  ·exact h.apart p i _ _ hp hq (fun e=>hi e.symm) k (by rw [hk.val,sM];exact e) Uy
  ·obtain⟨A2,m2,mP⟩:=h.oX i q hq
   rw [mP.val,sM]at Uy;obtain⟨_,aen,EJ⟩:=Row.bS mP.row Uy;have:=aZ EJ;omega
 refine⟨fun k=>S k\/bp A'=some k,L.set p ({nd with ch:=nd.ch++ [n]},.slice A' (nd.ch.length+1) c'),?_,?_,fun k hk=>.inl hk,?_⟩
 ·exact {
   top:=by rw [List.length_set];exact kB.heap EZ h.gb
   fst:=by rw [List.map_set,h.fst]
   row:=by
    rw [List.length_set];have:=Row.set E0 cJ (.slice A' (nd.ch.length+1) c');rw [Oo,xI hp (j:=1) (by omega) (p':=({nd with ch:=nd.ch++ [n]},.slice A' (nd.ch.length+1) c')) rfl]at this;exact this
   oX:=fun i q hq=>by
    rcases fp i q hq with⟨rfl,rfl⟩|⟨hi,hq⟩
    ·refine⟨A',c',by simp,?_,fun k e=>.inr e⟩
     have:=Row.aK fV kB (fun k e e2=>WG (by rw [e,e2]));simpa [ints]using this
    ·obtain⟨A2,m2,mP⟩:=zm.oX i q hq
     have r1:=Row.aK mP.row kA (fun k e e2=>h.apart p i _ _ hp hq (fun e=>hi e.symm) k (by rw [hk.val,sM];exact e2) (by rw [mP.val,sM];exact e));have r2:=Row.aK r1 kB (fun k e e2=>mP.ne Mz (by decide) (by rw [e,e2]));exact⟨A2,m2,mP.val,r2,fun k e=>.inl (mP.jf k e)⟩
   apart:=fun i j q q' hq G5 pP k He mP=>by
    rcases fp i q hq with⟨e1,e2⟩|⟨hi,IA⟩<;>rcases fp j q' G5 with⟨e3,e4⟩|⟨hj,Mo⟩
    ·exact pP (e1.trans e3.symm)
    ·rw [e2,sM]at He;exact IH k He j q' hj Mo mP
    ·rw [e4,sM]at mP;exact IH k mP i q hi IA He
    ·exact h.apart i j q q' IA Mo pP k He mP
   fZ:=.inl h.fZ
   fg:=.inl h.fg}
 ·have rv:Kept S w kr:=(NX.mono (S':=S) (fun _ _ h=>h.elim)).trans kA (fun k _ e=>hk.jf k e)
  exact rv.trans kB (fun k _ e=>by rw [e];exact h.fg)
 ·rintro k (mZ|mZ)
  ·exact .inl mZ
  ·rcases Cp k mZ with e|e
   ·exact .inl (hk.jf k e)
   ·right;omega
end
def grown(T:List Nd)(p:Nat)(pd:Nd):List Nd:=(T++ [(⟨p,[],0,0,0⟩:Nd)]).set p {pd with ch:=pd.ch++ [T.length]}
def im(pd:Nd):Int:=(pd.hi-pd.free+1)/2
def added(T:List Nd)(p:Nat)(pd:Nd):List Nd:=sV (grown T p pd) T.length p ⟨p,[],0,0,0⟩ {pd with ch:=pd.ch++ [T.length]} (im pd)
section
variable{w:World}{S:Nat->Prop}{g:Nat}{T:List Nd}{d:Int}{K:Value->World->Prop}
theorem rX(h:nh w S g T d){p:Nat}{pd:Nd}(hp:T[p]? =some pd)(nN:T.length<=1000000)(mR:pd.ch.length<=1000000)
 (hf:0<=pd.free) (hfh:pd.free<=pd.hi) (hh:pd.hi<=4611686018427387904)
 (hK1:pd.free<pd.hi->∀w' S',nh w' S' g (added T p pd) d->Kept S w w'->(∀k,S' k->S k\/w.heap.size<=k)->K (.tuple #[.int .i64 T.length,.int .i64 0]) w')
 (hK2:pd.free=pd.hi->∀w' S',nh w' S' g (grown T p pd) d->Kept S w w'->(∀k,S' k->S k\/w.heap.size<=k)->
   bm prog ay.id #[.pointer (some ⟨g,0,none⟩),.int .i64 p] w' fun v lg=>v=.tuple #[]/\K (.tuple #[.int .i64 T.length,.int .i64 0]) lg):
 bm prog fu.id #[.pointer (some ⟨g,0,none⟩),.int .i64 p] w K:=by
 have cJ:p<T.length:=(lgeS hp).1;refine fu.of (qJ h cJ ⟨_,rfl,Split.no rfl ?_⟩);obtain⟨b,c,L,h⟩:=h;obtain⟨v,hv⟩:=h.at_ hp;refine h.go (h.go ⟨rfl,?_⟩);intro w10;obtain⟨A1,c1,ph,qA,SJ,b1,S1,L1,Sh,hL1,Mf,hS1,QH⟩:=h.E1 nN (p:Int) (w10:=w10) rfl;refine⟨A1,_,c1,ph,qA,by rw [kZ];exact SJ,?_⟩;intro kz;have e14:kz=ph.setCell ⟨g,0,none⟩ (.slice A1 (T.length+1) c1):=by simp only [kz,kZ]
 rw [<-e14]at Sh Mf;clear_value kz;intro np;have uT:Kept Nil kz np:=(Kept.refl Nil kz).drew;have Cs:=Sh.kept uT;have FH:=hL1 _ _ hv;have hlen:(T++ [(⟨p,[],0,0,0⟩:Nd)]).length=T.length+1:=by simp
 have I0:0<=(p:Int)/\(p:Int)<((T++ [(⟨p,[],0,0,0⟩:Nd)]).length:Int):=by rw [hlen];exact⟨by omega,by omega⟩
 obtain⟨A2,m2,hk⟩:=Cs.oX _ _ FH;refine Cs.go (Cs.go ⟨I0,Cs.QU FH hk.val ?_⟩);intro w22;have NX:Kept Nil np w22:=(Kept.refl Nil np).alloc _;have zm:=Cs.kept NX;obtain⟨A3,c3,kr,CY,Pc,SI,S3,L3,Sg,JX,hS3,Wo⟩:=Cs.HB FH hk mR T.length (w22:=w22) rfl;have xx:=zm.cell FH (j:=1) (by omega) (v:=v) rfl;have hvv:v=.slice A2 pd.ch.length m2:=hk.val;rw [hvv]at xx;refine⟨by rw [mW];exact xx,by rw [kZ];exact zm.nodes,by rw [kZ];exact zm.nodes,A3,_,c3,kr,CY,by rw [kZ];exact Pc,I0,by rw [mW];exact SI,?_⟩;intro Bh;have e26:Bh=kr.setCell ⟨b1,p*5+1,none⟩ (.slice A3 (pd.ch.length+1) c3):=by simp only [Bh,mW,Int.toNat_natCast]
 rw [<-e26]at Sg JX;clear_value Bh;have G0:(T++ [(⟨p,[],0,0,0⟩:Nd)]).set p {pd with ch:=pd.ch++ [T.length]}=grown T p pd:=rfl;rw [G0]at Sg;have Zm:(grown T p pd)[p]? =some {pd with ch:=pd.ch++ [T.length]}:=by
  unfold grown;rw [List.getElem?_set_self (by simp;omega)]
 have hgn:(grown T p pd)[T.length]? =some ⟨p,[],0,0,0⟩:=by
  unfold grown;rw [List.getElem?_set_ne (by omega)];simp
 have kw:Kept S w Bh:=(Mf.tt (uT.mono (S':=S) (fun _ _ h=>h.elim))).trans JX (fun k hk h=>by
  rcases QH k h with h|h
  ·exact h
  ·omega)
 have Ls:∀k,S3 k->S k\/w.heap.size<=k:=fun k h=>by
  rcases Wo k h with h|h
  ·exact QH k h
  ·right
   have:=Mf.size;have:=uT.size;omega
 refine Bq ⟨_,_,_,Sg⟩ Zm fun CQ JV=>⟨_,rfl,?_⟩;have ZT:=Sg.kept JV;have Ny:Kept S w CQ:=kw.trans JV (fun _ _ h=>h.elim);simp only [];rw [dX (x:=pd.hi-pd.free) (by omega) (by omega)];refine Split.dec (fun km=>⟨by decide,?_⟩) (fun km=>?_)
 ·have AO:u64.wrap ((u64.wrap (pd.hi-pd.free+1)).tdiv 2)=im pd:=by
   rw [dX (x:=pd.hi-pd.free+1) (by omega) (by omega),Int.tdiv_eq_ediv_of_nonneg (by omega),dX (by omega) (by omega)];rfl
  rw [AO];refine Br ⟨_,_,_,ZT⟩ hgn Zm rfl (by omega) hf (by unfold im;omega) (by unfold im;simp only;omega) fun MW h31 RH=>⟨rfl,?_⟩;refine hK1 (by omega) MW S3 h31 (Ny.trans RH fun k hk h=>?_) Ls;rcases Ls k h with h|h
  ·exact h
  ·omega
 ·exact hK2 (by omega) CQ S3 ⟨_,_,_,ZT⟩ Ny Ls
end
section
variable{w:World}{S:Nat->Prop}{g:Nat}{T:List Nd}{d:Int}{K:Value->World->Prop}
def oJ:List Nd:= [⟨-1,[],1,4611686018427387904,1⟩]
theorem dE(hK:∀w' g,nh w' (fun k=>w.heap.size<=k) g oJ 0->Kept Nil w w'->K (.pointer (some ⟨g,0,none⟩)) w'):bm prog dE.id #[] w K:=by
 refine dE.of ⟨rfl,?_⟩;intro w1 w2;have k1:Kept Nil w w1:=(Kept.refl Nil w).alloc _;have k2:Kept Nil w w2:=k1.alloc _;refine hK w2 w1.heap.size ⟨w.heap.size,1,[(⟨-1,[],1,4611686018427387904,1⟩,.slice none 0 0)],?_⟩ k2;exact {
  top:=aR w1 _
  fst:=rfl
  row:=Row.made (n:=1) (cur:= #[.int .i64 (-1),.slice none 0 0,.int .u64 1,.int .u64 4611686018427387904,.int .u64 1]) (jF (aR w _) _) (Nat.zero_le _) rfl (by decide)
  oX:=fun i p hp=>by
   cases i with
   |zero=>simp at hp;subst hp;exact⟨none,0,rfl,Row.nil _ _ _ _,fun k e=>by cases e⟩
   |succ i=>simp at hp
  apart:=fun i j p q hp hq pP=>by
   cases i<;>cases j<;>simp at hp hq
   exact absurd rfl pP
  fZ:=k1.size
  fg:=Nat.le_refl _}
theorem yq(h:nh w S g T d){a b:Nat}{ad bd:Nd}(ha:T[a]? =some ad)(hb:T[b]? =some bd)(hK:∀w',Kept Nil w w'->K (.bool (decide (bd.lo<=ad.lo/\ad.hi<=bd.hi))) w'):
 bm prog dT.id #[.pointer (some ⟨g,0,none⟩),.int .i64 a,.int .i64 b] w K:=by
 have hal:a<T.length:=(lgeS ha).1;have Cp:b<T.length:=(lgeS hb).1;have VY:0<=(a:Int)/\(a:Int)<(T.length:Int):=⟨by omega,by omega⟩;have Cq:0<=(b:Int)/\(b:Int)<(T.length:Int):=⟨by omega,by omega⟩;refine dT.of ?_;unfold dT.W;intro w4;have k4:Kept Nil w w4:=(Kept.refl Nil w).drew;have h4:=h.same k4;have hk:=hK w4 k4;refine vl h4 a ⟨_,rfl,Split.yes (decide_eq_true VY) ?_⟩;refine vl h4 b ⟨_,rfl,Split.yes (decide_eq_true Cq) ?_⟩;obtain⟨p,c,L,h4⟩:=h4;obtain⟨va,YD⟩:=h4.at_ ha;obtain⟨vb,YC⟩:=h4.at_ hb;refine h4.go ⟨Cq,h4.sY YC (h4.go ⟨VY,h4.sY YD ?_⟩)⟩;refine Split.dec (fun h1=>h4.go ⟨VY,h4.xF YD (h4.go ⟨Cq,h4.xF YC ?_⟩)⟩) (fun h1=>?_)
 ·rwa [show decide (bd.lo<=ad.lo/\ad.hi<=bd.hi)=decide (ad.hi<=bd.hi)from by simp [h1]]at hk
 ·rwa [decide_eq_false (fun e:bd.lo<=ad.lo/\ad.hi<=bd.hi=>h1 e.1)]at hk
end
section
variable{w:World}{t:Option Addr}{K:Value->World->Prop}
end
end Go.Proofs.YtfleamccglihoaaGreatDoor.Tr
namespace Go.Proofs.YtfleamccglihoaaGreatDoor.Tr
open Go.Proofs.Tryz
def bH(T:List Nd):List Int:=T.map (·.parent)
structure nf(P:List Int):Prop where
 root:P[0]? =some (-1)
 up:∀(i:Nat) (p:Int),0<i->P[i]? =some p->∃j:Nat,j<i/\p=j
def kids(P:List Int)(i:Nat):List Nat:=(List.range P.length).filter fun j=>P[j]? ==some (i:Int)
theorem dG{P:List Int}{i j:Nat}:j∈kids P i↔P[j]? =some (i:Int):=by
 simp only [kids,List.mem_filter,List.mem_range,beq_iff_eq];exact⟨fun h=>h.2,fun h=>⟨(lgeS h).1,h⟩⟩
theorem gR{P:List Int}(hP:nf P){i j:Nat}(h:j∈kids P i):i<j/\j<P.length:=by
 rw [dG]at h;refine⟨?_,(lgeS h).1⟩;rcases Nat.eq_zero_or_pos j with rfl|hj
 ·rw [hP.root]at h;have:=Option.some.inj h;omega
 ·obtain⟨k,hk,e⟩:=hP.up j _ hj h
  omega
theorem qS(P:List Int)(i:Nat):(kids P i).Pairwise (· < ·):=List.Pairwise.filter _ (List.pairwise_lt_range)
theorem xh(P:List Int)(i:Nat):(kids P i).length<=P.length:=by
 unfold kids;exact Nat.le_trans (List.length_filter_le _ _) (by simp)
inductive jh (P:List Int):Nat->Nat->Prop
 |refl {i:Nat}:i<P.length->jh P i i
 |step {i j k:Nat}:P[i]? =some (j:Int)->jh P j k->jh P i k
theorem jh.lt{P:List Int}{i k:Nat}(h:jh P i k):i<P.length:=by
 cases h with
 |refl h=>exact h
 |step h _=>exact(lgeS h).1
theorem jh.Rx{P:List Int}{i k:Nat}(h:jh P i k):k<P.length:=by
 induction h with
 |refl h=>exact h
 |step _ _ ih=>exact ih
theorem jh.le{P:List Int}(hP:nf P){i k:Nat}(h:jh P i k):k<=i:=by
 induction h with
 |refl=>omega
 |step h _ ih=>have:=(gR hP (dG.2 h)).1;omega
theorem jh.trans{P:List Int}{i j k:Nat}(h:jh P i j)(h':jh P j k):jh P i k:=by
 induction h with
 |refl=>exact h'
 |step h _ ih=>exact .step h (ih h')
theorem jh.inv{P:List Int}{i j k:Nat}(h:jh P i k)(fH:i≠k)(hj:P[i]? =some (j:Int)):jh P j k:=by
 cases h with
 |refl=>exact absurd rfl fH
 | @step _ j' _ h h'=>
   rw [hj]at h;have e:j=j':=by have:=Option.some.inj h;omega
   rw [e];exact h'
theorem jh.child{P:List Int}{i k:Nat}(h:jh P i k)(fH:i≠k):∃c,c∈kids P k/\jh P i c:=by
 induction h with
 |refl=>exact absurd rfl fH
 | @step i j k h h' ih=>
   by_cases e:j=k
   ·subst e
    exact⟨i,dG.2 h,.refl (lgeS h).1⟩
   ·obtain⟨c,hc,hu⟩:=ih e
    exact⟨c,hc,.step h hu⟩
structure Iv(nd:Nd):Prop where
 Tj:1<=nd.lo
 le:nd.lo<=nd.hi
 top:nd.hi<=4611686018427387904
structure Loc(T:List Nd)(nd:Nd):Prop where
 C8:nd.lo<=nd.free
 zt:nd.free<=nd.hi
 sub:∀c cd,c∈nd.ch->T[c]? =some cd->nd.lo<=cd.lo/\cd.hi<nd.free
 ord:∀(c c':Nat) cd tw,c∈nd.ch->c'∈nd.ch->c<c'->T[c]? =some cd->T[c']? =some tw->cd.hi<tw.lo
structure Shape(T:List Nd):Prop where
 par:nf (bH T)
 ch:∀(i:Nat) nd,T[i]? =some nd->nd.ch=kids (bH T) i
structure Good(T:List Nd):Prop extends Shape T where
 iv:∀(i:Nat) nd,T[i]? =some nd->Iv nd
 loc:∀(i:Nat) nd,T[i]? =some nd->Loc T nd
theorem jK{T:List Nd}{i:Nat}{nd:Nd}(h:T[i]? =some nd):(bH T)[i]? =some nd.parent:=by simp [bH,h]
theorem dF(T:List Nd):(bH T).length=T.length:=by simp [bH]
theorem Shape.pos{T:List Nd}(h:Shape T):0<T.length:=by
 have:=(lgeS h.par.root).1
 rwa [dF]at this
theorem Good.oX{T:List Nd}(h:Good T){c k:Nat}{cd kd:Nd}(hc:c∈kids (bH T) k)(iQ:T[c]? =some cd)(Px:T[k]? =some kd):
 kd.lo<=cd.lo/\cd.hi<kd.free:=(h.loc k kd Px).sub c cd (by rw [h.ch k kd Px];exact hc) iQ
theorem eQ{T:List Nd}{i:Nat}(h:i<T.length):∃nd,T[i]? =some nd:=⟨_,List.getElem?_eq_getElem h⟩
theorem Good.mY{T:List Nd}(h:Good T){a b:Nat}{ad bd:Nd}(ha:T[a]? =some ad)(hb:T[b]? =some bd)(hu:jh (bH T) a b):bd.lo<=ad.lo/\ad.hi<=bd.hi:=by
 induction hu generalizing ad with
 |refl=>rw [ha]at hb;cases hb;omega
 | @step i j k hp h' ih=>
   have tM:j<T.length:=by have:=h'.lt;rwa [dF]at this
   obtain⟨jd,hj⟩:=eQ tM;have h1:=ih hj hb;have h2:=h.oX (dG.2 hp) ha hj;have h3:=(h.loc j jd hj).zt;omega
theorem Good.apart{T:List Nd}(h:Good T):∀(m a b:Nat),a+b<=m->∀ad bd,T[a]? =some ad->T[b]? =some bd->¬jh (bH T) a b->¬jh (bH T) b a->ad.hi<bd.lo\/bd.hi<ad.lo:=by
 intro m
 induction m with
 |zero=>
  intro a b hm ad bd ha hb h1 _;have:a=b:=by omega
  subst this;exact absurd (.refl (by rw [dF];exact(lgeS ha).1)) h1
 |succ m ih=>
  have key:∀(a b:Nat),a+b<=m+1->b<a->∀ad bd,T[a]? =some ad->T[b]? =some bd->¬jh (bH T) a b->¬jh (bH T) b a->ad.hi<bd.lo\/bd.hi<ad.lo:=by
   intro a b hm cJ ad bd ha hb h1 h2;have hal:=(lgeS ha).1;obtain⟨p,hp,e⟩:=h.par.up a _ (by omega) (jK ha);have RV:(bH T)[a]? =some (p:Int):=by rw [jK ha,e]
   obtain⟨pd,vz⟩:=eQ (T:=T) (i:=p) (by omega);have gK:=h.oX (dG.2 RV) ha vz;have rN:=h.loc p pd vz;have CZ:¬jh (bH T) p b:=fun hu=>h1 (.step RV hu);by_cases IW:jh (bH T) b p
   ·have fH:b≠p:=fun e=>CZ (by subst e;exact .refl IW.lt)
    obtain⟨c,hc,It⟩:=IW.child fH;have hca:c≠a:=fun e=>h2 (e▸It);have vF:c<T.length:=by have:=(gR h.par hc).2;rwa [dF]at this
    obtain⟨cd,iQ⟩:=eQ vF;have Lj:=h.mY hb iQ It;have mR:=h.ch p pd vz;rcases Nat.lt_or_ge c a with cJ|iK
    ·have:=rN.ord c a cd ad (by rw [mR];exact hc) (by rw [mR];exact dG.2 RV) cJ iQ ha
     omega
    ·have:=rN.ord a c ad cd (by rw [mR];exact dG.2 RV) (by rw [mR];exact hc) (by omega) ha iQ
     omega
   ·have:=ih p b (by omega) pd bd vz hb CZ IW
    have:=rN.zt;omega
  intro a b hm ad bd ha hb h1 h2;rcases Nat.lt_trichotomy a b with cJ|rfl|cJ
  ·have:=key b a (by omega) cJ bd ad hb ha h2 h1
   omega
  ·exact absurd (.refl (by rw [dF];exact(lgeS ha).1)) h1
  ·exact key a b hm cJ ad bd ha hb h1 h2
theorem Good.under{T:List Nd}(h:Good T){a b:Nat}{ad bd:Nd}(ha:T[a]? =some ad)(hb:T[b]? =some bd):(bd.lo<=ad.lo/\ad.hi<=bd.hi)↔jh (bH T) a b:=by
 refine⟨fun hi=>?_,fun hu=>h.mY ha hb hu⟩;by_cases hu:jh (bH T) a b
 ·exact hu
 ·exfalso
  have ia:=h.iv a ad ha;have ib:=h.iv b bd hb;by_cases hv:jh (bH T) b a
  ·have fH:b≠a:=fun e=>hu (by subst e;exact .refl hv.lt)
   obtain⟨c,hc,It⟩:=hv.child fH;have vF:c<T.length:=by have:=(gR h.par hc).2;rwa [dF]at this
   obtain⟨cd,iQ⟩:=eQ vF;have h1:=h.mY hb iQ It;have h2:=h.oX hc iQ ha;have h3:=(h.loc a ad ha).zt;omega
  ·have:=h.apart (a+b) a b (Nat.le_refl _) ad bd ha hb hu hv
   have:=ia.le;have:=ib.le;omega
theorem uY(T:List Nd)(p:Nat)(pd:Nd):(grown T p pd).length=T.length+1:=by simp [grown]
theorem iE{T:List Nd}{p:Nat}{pd:Nd}(hp:T[p]? =some pd)(i:Nat):(grown T p pd)[i]? =if i=p then some {pd with ch:=pd.ch++ [T.length]}else if i=T.length then some ⟨p,[],0,0,0⟩else T[i]? :=by
 have cJ:=(lgeS hp).1;unfold grown;by_cases e:i=p
 ·subst e
  rw [if_pos rfl,List.getElem?_set_self (by simp;omega)]
 ·rw [if_neg e,List.getElem?_set_ne (fun h=>e h.symm)]
  by_cases e2:i=T.length
  ·subst e2;simp
  ·rw [if_neg e2]
   rcases Nat.lt_or_ge i T.length with h|h
   ·rw [List.getElem?_append_left h]
   ·rw [List.getElem?_eq_none (by simp;omega),List.getElem?_eq_none h]
theorem kV{T:List Nd}{p:Nat}{pd:Nd}(hp:T[p]? =some pd):bH (grown T p pd)=bH T++ [(p:Int)]:=by
 apply List.ext_getElem?;intro i;have cJ:=(lgeS hp).1;simp only [bH,List.getElem?_map,iE hp];by_cases e:i=p
 ·subst e
  rw [if_pos rfl,List.getElem?_append_left (by simpa using cJ)];simp [hp]
 ·rw [if_neg e]
  by_cases e2:i=T.length
  ·subst e2;simp
  ·rw [if_neg e2]
   rcases Nat.lt_or_ge i T.length with h|h
   ·rw [List.getElem?_append_left (by simpa using h)];simp
   ·rw [List.getElem?_eq_none h,List.getElem?_eq_none (by simp;omega)];rfl
theorem xi(P:List Int)(p i:Nat):kids (P++ [(p:Int)]) i=kids P i++if i=p then [P.length]else []:=by
 unfold kids;rw [List.length_append,List.length_singleton,List.range_succ,List.filter_append]
 congr 1
 ·apply List.filter_congr
  intro x hx;rw [List.getElem?_append_left (by simpa using hx)]
 ·by_cases e:i=p
  ·subst e;simp
  ·have:¬((p:Int)=(i:Int)):=by omega
   simp [e,this]
theorem nf.snoc{P:List Int}(h:nf P){p:Nat}(hp:p<P.length):nf (P++ [(p:Int)]):=by
 refine⟨by rw [List.getElem?_append_left (by omega)];exact h.root,fun i q hi hq=>?_⟩;rcases Nat.lt_or_ge i P.length with hl|hl
 ·rw [List.getElem?_append_left hl]at hq
  exact h.up i q hi hq
 ·have:i=P.length:=by
   rcases Nat.eq_or_lt_of_le hl with e|e
   ·exact e.symm
   ·rw [List.getElem?_eq_none (by simp;omega)]at hq;cases hq
  subst this;simp at hq;exact⟨p,hp,hq.symm⟩
theorem Shape.grown{T:List Nd}(h:Shape T){p:Nat}{pd:Nd}(hp:T[p]? =some pd):Shape (grown T p pd):=by
 have cJ:=(lgeS hp).1;refine⟨by rw [kV hp];exact h.par.snoc (by rw [dF];exact cJ),fun i nd hi=>?_⟩;rw [kV hp,xi,dF];rw [iE hp]at hi;by_cases e:i=p
 ·subst e
  rw [if_pos rfl]at hi⊢;cases hi;simp [h.ch i pd hp]
 ·rw [if_neg e]at hi⊢
  rw [List.append_nil];by_cases e2:i=T.length
  ·subst e2
   rw [if_pos rfl]at hi;cases hi
   symm
   apply List.eq_nil_iff_forall_not_mem.2;intro c hc;have:=gR h.par hc;rw [dF]at this;omega
  ·rw [if_neg e2]at hi
   exact h.ch i nd hi
def gV(f:Nat->Nat):Nat->Nat
 |0=>0
 |n+1=>gV f n+f n
theorem jz{f g:Nat->Nat}{n:Nat}(h:∀i,i<n->f i=g i):gV f n=gV g n:=by
 induction n with
 |zero=>rfl
 |succ n ih=>
  simp only [gV];rw [ih (fun i hi=>h i (by omega)),h n (by omega)]
theorem wu(f g:Nat->Nat)(n:Nat):gV (fun i=>f i+g i) n=gV f n+gV g n:=by
 induction n with
 |zero=>rfl
 |succ n ih=>simp only [gV];omega
theorem kF{f:Nat->Nat}{n:Nat}(h:∀i,i<n->f i=0):gV f n=0:=by
 induction n with
 |zero=>rfl
 |succ n ih=>
  simp only [gV];rw [ih (fun i hi=>h i (by omega)),h n (by omega)]
theorem Bt(h:Nat->Nat->Nat)(n m:Nat):gV (fun i=>gV (fun j=>h i j) m) n=gV (fun j=>gV (fun i=>h i j) n) m:=by
 induction n with
 |zero=>simp only [gV];exact(kF fun _ _=>rfl).symm
 |succ n ih=>
  simp only [gV];rw [ih,wu]
theorem wq{n k:Nat}(hk:k<n){f:Nat->Nat}(h:∀i,i<n->i≠k->f i=0):gV f n=f k:=by
 induction n with
 |zero=>omega
 |succ n ih=>
  simp only [gV];rcases Nat.lt_or_ge k n with cJ|iK
  ·rw [ih cJ (fun i hi=>h i (by omega)),h n (by omega) (by omega),Nat.add_zero]
  ·have:k=n:=by omega
   subst this;rw [kF (fun i hi=>h i (by omega) (by omega)),Nat.zero_add]
theorem Gg{f:Nat->Nat}{n b:Nat}(h:∀i,i<n->f i<=b):gV f n<=n*b:=by
 induction n with
 |zero=>simp [gV]
 |succ n ih=>
  simp only [gV];have:=ih (fun i hi=>h i (by omega));have:=h n (by omega);rw [Nat.succ_mul];omega
theorem Dv{f f':Nat->Nat}{n k:Nat}(hk:k<n){v:Nat}(h:∀i,i<n->i≠k->f' i=f i)(hv:f' k=f k+v):gV f' n=gV f n+v:=by
 induction n with
 |zero=>omega
 |succ n ih=>
  simp only [gV];rcases Nat.lt_or_ge k n with cJ|iK
  ·rw [ih cJ (fun i hi=>h i (by omega)),h n (by omega) (by omega)]
   omega
  ·have:k=n:=by omega
   subst this;rw [jz (fun i hi=>h i (by omega) (by omega)),hv];omega
theorem qd(q:Nat->Bool)(f:Nat->Nat)(n:Nat):(((List.range n).filter q).map f).sum=gV (fun c=>if q c=true then f c else 0) n:=by
 induction n with
 |zero=>rfl
 |succ n ih=>
  rw [List.range_succ,List.filter_append,List.map_append,List.sum_append,ih];simp only [gV]
  congr 1
  by_cases h:q n=true
  ·simp [h]
  ·simp [h]
section
variable{P:List Int}
theorem jh.cmp{i a b:Nat}(h:jh P i a)(h':jh P i b):jh P a b\/jh P b a:=by
 induction h with
 |refl=>exact .inl h'
 | @step i j k hp h2 ih=>
   by_cases e:i=b
   ·subst e;exact .inr (.step hp h2)
   ·exact ih (h'.inv e hp)
theorem jh.one(hP:nf P){i n c c':Nat}(hc:P[c]? =some (n:Int))(sP:P[c']? =some (n:Int))(h:jh P i c)(h':jh P i c'):c=c':=by
 have key:∀(c c':Nat),P[c]? =some (n:Int)->P[c']? =some (n:Int)->jh P c c'->c=c':=by
  intro c c' hc sP h;by_cases e:c=c'
  ·exact e
  ·have:=(h.inv e hc).le hP
   have:=(gR hP (dG.2 sP)).1;omega
 rcases h.cmp h' with h|h
 ·exact key c c' hc sP h
 ·exact(key c' c sP hc h).symm
open Classical in
noncomputable def ind(p:Prop):Nat:=if p then 1 else 0
theorem pM{p:Prop}(h:p):ind p=1:=by unfold ind;rw [if_pos h]
theorem qy{p:Prop}(h:¬p):ind p=0:=by unfold ind;rw [if_neg h]
theorem Kq(p:Prop):ind p<=1:=by unfold ind;split<;>omega
noncomputable def sz(P:List Int)(n:Nat):Nat:=gV (fun i=>ind (jh P i n)) P.length
theorem yr(hP:nf P){n:Nat}(hn:n<P.length):sz P n=1+gV (fun c=>if P[c]? =some (n:Int)then sz P c else 0) P.length:=by
 have e1:∀i,i<P.length->ind (jh P i n)=ind (i=n)+gV (fun c=>if P[c]? =some (n:Int)then ind (jh P i c)else 0) P.length:=by
  intro i hi;by_cases e:i=n
  ·subst e
   rw [pM (.refl hi),pM rfl,kF];intro c hc;split
   ·rename_i hp
    apply qy;intro hu;have:=hu.le hP;have:=(gR hP (dG.2 hp)).1;omega
   ·rfl
  ·rw [qy e,Nat.zero_add]
   by_cases hu:jh P i n
   ·obtain⟨c,hc,It⟩:=hu.child e
    rw [pM hu,wq (k:=c) It.Rx]
    ·rw [if_pos (dG.1 hc),pM It]
    ·intro c' _ fH
     split
     ·rename_i hp
      exact qy fun h=>fH (jh.one hP hp (dG.1 hc) h It)
     ·rfl
   ·rw [qy hu,kF]
    intro c hc;split
    ·rename_i hp
     exact qy fun h=>hu (h.trans (.step hp (.refl hn)))
    ·rfl
 have e2:sz P n=gV (fun i=>ind (i=n)+gV (fun c=>if P[c]? =some (n:Int)then ind (jh P i c)else 0) P.length) P.length:=by
  unfold sz;exact jz e1
 rw [e2,wu,wq (k:=n) hn (fun i _ h=>qy h),pM rfl,Bt]
 congr 1
 apply jz;intro c _;split
 ·rfl
 ·exact kF fun _ _=>rfl
theorem rY(hP:nf P){n:Nat}(hn:n<P.length):1<=sz P n:=by rw [yr hP hn];omega
theorem uA(n:Nat):sz P n<=P.length:=by
 have:=Gg (n:=P.length) (b:=1) (f:=fun i=>ind (jh P i n)) (fun i _=>Kq _);unfold sz;omega
theorem z7(hP:nf P){n:Nat}(hn:n<P.length):((kids P n).map (sz P)).sum+1=sz P n:=by
 unfold kids;rw [qd,yr hP hn,Nat.add_comm]
 congr 1
 apply jz;intro c _;by_cases h:P[c]? =some (n:Int)
 ·simp [h]
 ·simp [h]
noncomputable def part(P:List Int)(m j:Nat):Nat:=gV (fun c=>if P[c]? =some (j:Int)/\m<=c then sz P c else 0) P.length
theorem BQ(j:Nat):part P P.length j=0:=kF fun c hc=>if_neg fun h=>by omega
theorem si(hP:nf P){m j:Nat}(hj:j<P.length)(hm:m<=j+1):part P m j+1=sz P j:=by
 rw [yr hP hj,Nat.add_comm]
 congr 1
 apply jz;intro c hc;by_cases h:P[c]? =some (j:Int)
 ·have:=(gR hP (dG.2 h)).1
  rw [if_pos ⟨h,by omega⟩,if_pos h]
 ·rw [if_neg (fun e=>h e.1),if_neg h]
theorem DJ{n p:Nat}(h:P[n]? =some (p:Int)):part P n p=part P (n+1) p+sz P n:=by
 unfold part;apply Dv (k:=n) (lgeS h).1
 ·intro i _ fH
  by_cases hi:P[i]? =some (p:Int)
  ·by_cases h2:n<=i
   ·rw [if_pos ⟨hi,h2⟩,if_pos ⟨hi,by omega⟩]
   ·rw [if_neg (fun e=>h2 e.2),if_neg (fun e=>by omega)]
  ·rw [if_neg (fun e=>hi e.1),if_neg (fun e=>hi e.1)]
 ·rw [if_pos ⟨h,Nat.le_refl _⟩,if_neg (fun e=>by omega),Nat.zero_add]
theorem yH{n j:Nat}(h:P[n]? ≠some (j:Int)):part P n j=part P (n+1) j:=by
 unfold part;apply jz;intro i _;by_cases hi:P[i]? =some (j:Int)
 ·have:i≠n:=fun e=>h (e▸hi)
  by_cases h2:n<=i
  ·rw [if_pos ⟨hi,h2⟩,if_pos ⟨hi,by omega⟩]
  ·rw [if_neg (fun e=>h2 e.2),if_neg (fun e=>by omega)]
 ·rw [if_neg (fun e=>hi e.1),if_neg (fun e=>hi e.1)]
noncomputable def gE(P:List Int)(m j:Nat):Nat:=if m<=j then sz P j else part P m j
theorem yy(j:Nat)(hj:j<P.length):gE P P.length j=0:=by
 unfold gE;rw [if_neg (by omega),BQ]
theorem wC(j:Nat):gE P 0 j=sz P j:=by unfold gE;rw [if_pos (Nat.zero_le _)]
theorem BJ(hP:nf P){n:Nat}(hn:n<P.length):gE P (n+1) n+1=sz P n:=by
 unfold gE;rw [if_neg (by omega),si hP hn (Nat.le_refl _)]
theorem BI(hP:nf P){n p:Nat}(h:P[n]? =some (p:Int))(j:Nat):gE P n j=if j=p then gE P (n+1) p+sz P n else if j=n then sz P n else gE P (n+1) j:=by
 have hp:=(gR hP (dG.2 h)).1;unfold gE;by_cases e:j=p
 ·subst e
  rw [if_neg (by omega),if_pos rfl,if_neg (by omega),DJ h]
 ·rw [if_neg e]
  by_cases e2:j=n
  ·subst e2;rw [if_pos (Nat.le_refl _),if_pos rfl]
  ·rw [if_neg e2]
   by_cases h2:n<=j
   ·rw [if_pos h2,if_pos (by omega)]
   ·rw [if_neg h2,if_neg (by omega)]
    exact yH (fun h'=>e (by rw [h]at h';have:=Option.some.inj h';omega))
theorem BK(j:Nat):gE P 0 j=if j=0 then sz P 0 else gE P 1 j:=by
 rw [wC];unfold gE;by_cases e:j=0
 ·subst e;rw [if_pos rfl]
 ·rw [if_neg e,if_pos (by omega)]
theorem Ad(hP:nf P)(m j:Nat)(hj:j<P.length):gE P m j<=P.length:=by
 have h1:=uA (P:=P) j;unfold gE;split
 ·exact h1
 ·rename_i h
  have:=si hP (m:=m) hj;by_cases h2:m<=j+1
  ·have:=this h2;omega
  ·
   have h3:part P m j<=part P 0 j:=by
    unfold part;have:∀(f g:Nat->Nat) (n:Nat),(∀i,i<n->f i<=g i)->gV f n<=gV g n:=by
     intro f g n h
     induction n with
     |zero=>simp [gV]
     |succ n ih=>
      simp only [gV];have:=ih (fun i hi=>h i (by omega));have:=h n (by omega);omega
    apply this;intro i _;split
    ·rename_i h4;rw [if_pos ⟨h4.1,Nat.zero_le _⟩];exact Nat.le_refl _
    ·exact Nat.zero_le _
   have:=si hP (m:=0) hj (by omega);omega
end
theorem tP{α:Type}(f g:Nat->α){n k:Nat}{v:α}(hk:k<n)(h:∀i,i<n->g i=if i=k then v else f i):((List.range n).map f).set k v=(List.range n).map g:=by
 apply List.ext_getElem?;intro i;rw [List.getElem?_set];by_cases e:k=i
 ·subst e
  rw [if_pos rfl,if_pos (by simpa using hk)];simp [hk,h k hk]
 ·rw [if_neg e]
  rcases Nat.lt_or_ge i n with hi|hi
  ·have:=h i hi
   rw [if_neg (fun x=>e x.symm)]at this;simp [hi,this]
  ·rw [List.getElem?_eq_none (by simpa using hi),List.getElem?_eq_none (by simpa using hi)]
end Go.Proofs.YtfleamccglihoaaGreatDoor.Tr
namespace Go.bE
open Go.RowKit
theorem aX{σ:Type}(e:σ->Env)(I:σ->World->Prop)(μ:σ->World->Nat)(s:σ)(w:World)(Q:aM)(l:Nat)(ρ:Env)(w':World):bR e I μ s w Q (.exit l) ρ w'=Q (.exit l) ρ w':=rfl
def zeroOf(P:Program)(e:TypeId):Option (Array Value):=
 match P.info? e with
 |some i=>match i.zero with
  |some z=>some z.cells
  |none=>none
 |none=>none
theorem DT{P:Program}{t e:TypeId}{bytes:Nat}(T:Bb P t e 1 bytes){z:Value}(hz:zeroOf P e=some #[z]){n:Nat}(hn:n<=maxLen)(hb:bytes*n<=281474976710656)(w:World):
 ∃w',(Instr.makeSlice t (.int .i64 (n:Int)) (.int .i64 (n:Int))).run P w=.ok (.slice (some ⟨w.heap.size,0,none⟩) n n) w'/\
  Row w' w.heap.size e 1 (some ⟨w.heap.size,0,none⟩) n n (List.replicate n z)/\Kept Nil w w':=by
 obtain⟨i,z',hi,Yq,hs,FU,FE⟩:=T.inf;have hc:z'.cells= #[z]:=by
  unfold zeroOf at hz;simp only [hi,Yq]at hz;exact Option.some.inj hz
 obtain⟨w',hr,fV,hg⟩:=run_make_full (P:=P) (w:=w) w.heap.size t e i z' 1 T.mY hi Yq hs .i64 .i64 n (by rw [FU];exact hb) hn (Nat.le_refl _);rw [hc,Nat.mul_one,toList_madeCells_one]at fV;exact⟨w',hr,fV,(Kept.refl Nil w).grown hg (fun k hk=>by cases hk)⟩
end Go.bE
namespace Go.Proofs.YtfleamccglihoaaGreatDoor.Tr
open Go.Proofs.Tryz
open Go Go.bE Go.RowKit
section
variable{w w':World}{S:Nat->Prop}{g:Nat}{T:List Nd}{d:Int}{K:Value->World->Prop}
theorem TV.bound{b c:Nat}{L:List (Nd×Value)}(h:TV w S g T d b c L):TV w (fun k=>S k/\k<w.heap.size) g T d b c L:= {
 top:=h.top
 fst:=h.fst
 row:=h.row
 oX:=fun i p hp=>let ⟨A,m,h1⟩:=h.oX i p hp;⟨A,m,h1.val,h1.row,fun k e=>⟨h1.jf k e,let ⟨_,_,hc⟩:=Row.bS h1.row e;aZ hc⟩⟩
 apart:=h.apart
 fZ:=⟨h.fZ,aZ h.top⟩
 fg:=⟨h.fg,let ⟨_,hc⟩:=h.tC;aZ hc⟩}
theorem TV.mono{S':Nat->Prop}{b c:Nat}{L:List (Nd×Value)}(h:TV w S g T d b c L)(hs:∀k,S k->S' k):TV w S' g T d b c L:= {
 top:=h.top
 fst:=h.fst
 row:=h.row
 oX:=fun i p hp=>let ⟨A,m,h1⟩:=h.oX i p hp;⟨A,m,h1.val,h1.row,fun k e=>hs k (h1.jf k e)⟩
 apart:=h.apart
 fZ:=hs _ h.fZ
 fg:=hs _ h.fg}
theorem nh.bound(h:nh w S g T d):nh w (fun k=>S k/\k<w.heap.size) g T d:=let ⟨b,c,L,h⟩:=h;⟨b,c,L,h.bound⟩
theorem nh.mono{S':Nat->Prop}(h:nh w S g T d)(hs:∀k,S k->S' k):nh w S' g T d:=let ⟨b,c,L,h⟩:=h;⟨b,c,L,h.mono hs⟩
def us(f:Nat->Nat)(n:Nat):List Value:=(List.range n).map fun j=>.int .u64 (f j:Int)
theorem ns(f:Nat->Nat){n j:Nat}(hj:j<n):(us f n)[j]? =some (.int .u64 (f j:Int)):=by simp [us,hj]
theorem nr(f:Nat->Nat)(n:Nat):(us f n).length=n:=by simp [us]
theorem vi{f f':Nat->Nat}{n k:Nat}(hk:k<n)(h:∀i,i<n->i≠k->f' i=f i):(us f n).set k (.int .u64 (f' k:Int))=us f' n:=by
 unfold us;apply tP _ _ hk;intro i hi;by_cases e:i=k
 ·subst e;rw [if_pos rfl]
 ·rw [if_neg e,h i hi e]
theorem M4:Bb prog xW eI 1 8:=⟨by kernel_rfl,by kernel_rfl⟩
set_option maxRecDepth 100000 in
theorem yp(h:nh w S g T d)(hP:nf (bH T))(hlen:T.length<=1000000)
 (hK:∀w' A,Row w' w.heap.size eI 1 A T.length T.length (us (sz (bH T)) T.length)->Kept Nil w w'->K (.slice A T.length T.length) w'):
 bm prog bn.id #[.pointer (some ⟨g,0,none⟩)] w K:=by
 obtain⟨b,c,L,h0⟩:=h;have rN:=dF T;obtain⟨w5,CX,qo,k5⟩:=DT M4 (z:=.int .u64 0) (by kernel_rfl) (n:=T.length) (by unfold maxLen;omega) (by omega) w;refine bn.of (h0.go ⟨_,_,_,w5,CX,?_⟩);have h5:=h0.kept k5;refine h5.go ?_;generalize hA:(⟨w.heap.size,0,none⟩:Addr)=A at*;refine bn.cf (e:=some A) (i:=T.length) (I:=fun i w'=>∃m:Nat,i=(T.length:Int)-m/\m<=T.length/\Row w' w.heap.size eI 1 (some A) T.length T.length (us (gE (bH T) m) T.length)/\Kept Nil w w')
  (μ:=fun i _=>((T.length:Int)-i).toNat) (s:=0) ⟨T.length,by omega,Nat.le_refl _,?_,k5⟩ ?_
 ·have:List.replicate T.length (Value.int .u64 0)=us (gE (bH T) T.length) T.length:=by
   apply List.ext_getElem?;intro j;rcases Nat.lt_or_ge j T.length with hj|hj
   ·rw [ns _ hj,<-rN,yy j (by omega)]
    simp [rN,hj]
   ·rw [List.getElem?_eq_none (by simpa using hj),List.getElem?_eq_none (by rw [nr];exact hj)]
  rw [<-this];exact qo
 ·rintro i w' ⟨m,rfl,hm,row,kw⟩
  have h':=h0.kept kw;refine Split.dec (fun cJ=>?_) (fun iK=>?_)
  ·
   obtain⟨n,rfl⟩:∃n,m=n+1:=⟨m-1,by omega⟩;have hn:n<T.length:=by omega
   refine h'.go ?_;have ew:i64.wrap (i64.wrap ((T.length:Int)-1)-((T.length:Int)-((n+1:Nat):Int)))=(n:Int):=by
    rw [iI (x:=(T.length:Int)-1) (by omega) (by omega),iI (by omega) (by omega)];omega
   rw [ew];have hb:0<=(n:Int)/\(n:Int)<(T.length:Int):=⟨by omega,by omega⟩;subst hA;have Pp:n<(us (gE (bH T) (n+1)) T.length).length:=by rw [nr];exact hn
   refine⟨hb,_,by rw [kZ,Int.toNat_natCast,Nat.mul_one];exact Row.cell row (ns _ hn),hb,by rw [kZ,Int.toNat_natCast,Nat.mul_one];exact Row.wr row Pp,?_⟩;intro vW;have Z4:vW=w'.setCell ⟨w.heap.size,n,none⟩ (.int .u64 (u64.wrap ((gE (bH T) (n+1) n:Int)+1))):=by simp only [vW,kZ,Int.toNat_natCast,Nat.mul_one]
   have YL:=BJ hP (n:=n) (by omega);have hle:gE (bH T) (n+1) n<=(bH T).length:=Ad hP _ _ (by omega);have lN:=Row.set row Pp (.int .u64 (u64.wrap ((gE (bH T) (n+1) n:Int)+1)));rw [<-Z4]at lN;have Ih:Kept Nil w vW:=by rw [Z4];exact kw.setCell (fun hh=>absurd hh (Nat.lt_irrefl _)) _
   clear_value vW;rw [dX (x:=(gE (bH T) (n+1) n:Int)+1) (by omega) (by omega)]at lN;rw [show(gE (bH T) (n+1) n:Int)+1=((if n=n then sz (bH T) n else gE (bH T) (n+1) n:Nat):Int)from by rw [if_pos rfl];omega,
    vi (f':=fun j=>if j=n then sz (bH T) n else gE (bH T) (n+1) j) hn (fun i _ fH=>by rw [if_neg fH])]at lN
   have Ly:=h0.kept Ih;obtain⟨nd,gP⟩:=eQ hn;obtain⟨v,hv⟩:=Ly.at_ gP;refine Ly.go ⟨hb,Ly.E5 hv ?_⟩;have oF:=jK gP;refine Split.dec (fun hp=>?_) (fun hp=>?_)
   ·
    have AG:0<n:=by
     rcases Nat.eq_zero_or_pos n with rfl|h
     ·rw [hP.root]at oF;have:=Option.some.inj oF;omega
     ·exact h
    obtain⟨p,RU,ep⟩:=hP.up n _ AG oF;rw [ep]at hp⊢;have hpp:(bH T)[n]? =some (p:Int):=by rw [oF,ep]
    intro FA;have JY:Kept Nil w FA:=Ih.drew;have Af:Row FA w.heap.size eI 1 (some ⟨w.heap.size,0,none⟩) T.length T.length (us (fun j=>if j=n then sz (bH T) n else gE (bH T) (n+1) j) T.length):=lN;clear_value FA;have IW:0<=(p:Int)/\(p:Int)<(T.length:Int):=⟨by omega,by omega⟩;have Po:p<(us (fun j=>if j=n then sz (bH T) n else gE (bH T) (n+1) j) T.length).length:=by rw [nr];omega
    have gp:=ns (fun j=>if j=n then sz (bH T) n else gE (bH T) (n+1) j) (n:=T.length) (j:=p) (by omega);have gn:=ns (fun j=>if j=n then sz (bH T) n else gE (bH T) (n+1) j) (n:=T.length) (j:=n) (by omega);simp only [if_neg (show p≠n by omega)]at gp;simp only [if_pos]at gn;refine⟨IW,_,by rw [kZ,Int.toNat_natCast,Nat.mul_one];exact Row.cell Af gp,hb,_,by rw [kZ,Int.toNat_natCast,Nat.mul_one];exact Row.cell Af gn,IW,by rw [kZ,Int.toNat_natCast,Nat.mul_one];exact Row.wr Af Po,?_⟩;intro tN;have Z2:tN=FA.setCell ⟨w.heap.size,p,none⟩ (.int .u64 (u64.wrap ((gE (bH T) (n+1) p:Int)+(sz (bH T) n:Int)))):=by simp only [tN,kZ,Int.toNat_natCast,Nat.mul_one]
    have DH:=Row.set Af Po (.int .u64 (u64.wrap ((gE (bH T) (n+1) p:Int)+(sz (bH T) n:Int))));rw [<-Z2]at DH;have Me:Kept Nil w tN:=by rw [Z2];exact JY.setCell (fun hh=>absurd hh (Nat.lt_irrefl _)) _
    clear_value tN;have acL:gE (bH T) (n+1) p<=(bH T).length:=Ad hP _ _ (by omega);have acK:sz (bH T) n<=(bH T).length:=uA _;have ow:=BI hP hpp;have CS:=ow p;rw [if_pos rfl]at CS;rw [dX (x:=(gE (bH T) (n+1) p:Int)+(sz (bH T) n:Int)) (by omega) (by omega),
     show(gE (bH T) (n+1) p:Int)+(sz (bH T) n:Int)=(gE (bH T) n p:Int)from by omega,
     vi (f':=gE (bH T) n) (by omega) (fun i _ fH=>by rw [ow i,if_neg fH])]at DH
    rw [iI (x:=(T.length:Int)-((n+1:Nat):Int)+1) (by omega) (by omega)];exact⟨_,rfl,⟨n,by omega,by omega,DH,Me⟩,by simp only;omega⟩
   ·
    have AG:n=0:=by
     rcases Nat.eq_zero_or_pos n with h|h
     ·exact h
     ·obtain⟨p,_,ep⟩:=hP.up n _ h oF
      omega
    subst AG;have:us (fun j=>if j=0 then sz (bH T) 0 else gE (bH T) (0+1) j) T.length=us (gE (bH T) 0) T.length:=by
     congr 1
     funext j
     rw [BK]
    rw [this]at lN;rw [iI (x:=(T.length:Int)-((0+1:Nat):Int)+1) (by omega) (by omega)];exact⟨_,rfl,⟨0,by omega,by omega,lN,Ih⟩,by simp only;omega⟩
  ·have:m=0:=by omega
   subst this;rw [aX,bn.dA];refine hK w' (some A) ?_ kw;have e:gE (bH T) 0=sz (bH T):=funext wC;rw [e]at row;exact row
end
section
variable{w:World}{K:Value->World->Prop}
theorem bm.wP{f:FuncId}{args:Array Value}{v:Value}(h:Calls prog f args w fun e w'=>e=.returned v/\w'=w)(hK:K v w):bm prog f args w K:=
 h.mono fun e w' ⟨he,hw⟩=>⟨v,he,by rw [hw];exact hK⟩
theorem uh(x y:Nat)(hx:x<18446744073709551616)(hy:y<18446744073709551616)
 (hK:K (.tuple #[.int .u64 ((x*y/18446744073709551616:Nat):Int),.int .u64 ((x*y%18446744073709551616:Nat):Int)]) w):
 bm prog bits_Mul64.id #[.int .u64 x,.int .u64 y] w K:=bm.wP (Any.bits_Mul64 Tryz.Gv x y hx hy w) hK
theorem ui(x:Nat)(hx:x<18446744073709551616)(hK:K (.int .i64 (Lib.bitLen x)) w):bm prog bits_Len64.id #[.int .u64 x] w K:=
 bm.wP (Any.bits_Len64 Tryz.Gw x w (by omega) (by omega)) hK
end
theorem nV:∀(f x:Nat),x<2 ^ f->x<2 ^ (Lib.bitLenAux f x)/\(x≠0->2 ^ (Lib.bitLenAux f x)<=2*x)
 |0,x,h=>by simp at h;subst h;simp [Lib.bitLenAux]
 |f+1,x,h=>by
  unfold Lib.bitLenAux;by_cases e:x=0
  ·simp [e]
  ·rw [if_neg e]
   have ih:=nV f (x/2) (by rw [Nat.pow_succ]at h;omega);rw [Nat.pow_add,Nat.pow_one];refine⟨by omega,fun _=>?_⟩;by_cases e2:x/2=0
   ·have:x=1:=by omega
    subst this;cases f<;>simp [Lib.bitLenAux]
   ·have:=ih.2 e2
    omega
theorem bitLen_spec{y:Nat}(h0:y≠0)(hy:y<18446744073709551616):1<=Lib.bitLen y/\Lib.bitLen y<=64/\9223372036854775808<=y*2 ^ (64-Lib.bitLen y)/\y*2 ^ (64-Lib.bitLen y)<18446744073709551616:=by
 have hs:=nV 64 y (by omega);have hle:=Lib.bitLenAux_le 64 y 64 (by omega)
 change Lib.bitLen y<=64 at hle
 change y<2 ^ (Lib.bitLen y)/\(y≠0->2 ^ (Lib.bitLen y)<=2*y)at hs
 have yW:=hs.2 h0;have hp:2 ^ Lib.bitLen y*2 ^ (64-Lib.bitLen y)=18446744073709551616:=by
  rw [<-Nat.pow_add,show Lib.bitLen y+(64-Lib.bitLen y)=64 by omega]
 have km:0<2 ^ (64-Lib.bitLen y):=Nat.pow_pos (by omega);refine⟨?_,hle,?_,?_⟩
 ·rcases Nat.eq_zero_or_pos (Lib.bitLen y)with e|e
  ·rw [e]at hs;simp at hs;omega
  ·exact e
 ·have:=Nat.mul_le_mul_right (2 ^ (64-Lib.bitLen y)) yW
  rw [hp,Nat.mul_assoc]at this;omega
 ·rw [<-hp]
  exact Nat.mul_lt_mul_of_pos_right hs.1 km
section
variable{Y n1 n0 u u1 q r:Nat}
theorem Fb(hY:Y=n1*4294967296+n0):q*Y=q*n1*4294967296+q*n0:=by rw [hY,Nat.mul_add,Nat.mul_assoc]
theorem dg1(hY:Y=n1*4294967296+n0)(hq:q*n1+r=u)(h:q*n0<=4294967296*r+u1):q*Y<=u*4294967296+u1:=by rw [Fb hY];omega
theorem Z9(hY:Y=n1*4294967296+n0)(hq:q*n1+r=u)(h:4294967296*r+u1<q*n0):u*4294967296+u1<q*Y:=by rw [Fb hY];omega
theorem W0(hu:u<Y)(FI:u1<4294967296)(h:4294967296<=q):u*4294967296+u1<q*Y:=by
 have:=Nat.mul_le_mul_right Y h;omega
theorem Z8(hY:Y=n1*4294967296+n0)(AG:n0<4294967296)(hu:u<Y)(hq:q*n1+r=u)(hr:4294967296<=r):q*Y<=u*4294967296+u1:=by
 have h1:q*n1<4294967296*n1:=by omega
 have h2:q<4294967296:=Nat.lt_of_mul_lt_mul_right h1;have h3:q*n0<=4294967296*4294967296:=Nat.mul_le_mul (by omega) (by omega);rw [Fb hY];omega
theorem Ja(hu:u<Y)(FI:u1<4294967296)(h:q*Y<=u*4294967296+u1):q<4294967296:=by
 rcases Nat.lt_or_ge q 4294967296 with h'|h'
 ·exact h'
 ·have:=W0 hu FI h';omega
theorem xL(FN:2147483648<=n1)(hu:u<18446744073709551616)(hq:q*n1+r=u):q<8589934592:=by
 rcases Nat.lt_or_ge q 8589934592 with h|h
 ·exact h
 ·have:=Nat.mul_le_mul h FN
  omega
end
theorem Cz{Y n1 n0 u u1:Nat}{quo rem s Dj MX:Int}{Q:aM}{w:World}(hY:Y=n1*4294967296+n0)(AG:n0<4294967296)(FN:2147483648<=n1)(Hb:n1<4294967296)(hu:u<Y)(hY':Y<18446744073709551616)(FI:u1<4294967296)
 (hex:∀q r:Nat,q*Y<=u*4294967296+u1->u*4294967296+u1<(q+1)*Y->Q (.exit 0) (aT.e1 (Y:Int) quo rem s n1 n0 Dj u1 MX ((q:Int),(r:Int))) w)
 (q0 r0:Nat) (h0:q0*n1+r0=u) (Wk:u*4294967296+u1<(q0+1)*Y) (rz:r0<4294967296):
 Holds none [] prog 135 (.loop (lB (bB (sL (dY (cR (aY (body aT.fn)))))))) Q (aT.e1 (Y:Int) quo rem s n1 n0 Dj u1 MX ((q0:Int),(r0:Int))) w:=by
 refine aT.cf (I:=fun s w'=>w'=w/\∃q r:Nat,s=((q:Int),(r:Int))/\q*n1+r=u/\u*4294967296+u1<(q+1)*Y/\r<4294967296)
  (μ:=fun s _=>s.1.toNat) (s:=((q0:Int),(r0:Int))) ⟨rfl,q0,r0,rfl,h0,Wk,rz⟩ ?_
 rintro s w' ⟨hw,q,r,rfl,hq,hX,hr⟩;subst hw;have UA:=xL FN (by omega) hq;have down:u*4294967296+u1<q*Y->∃q' r':Nat,u64.wrap ((q:Int)-1)=(q':Int)/\u64.wrap ((r:Int)+(n1:Int))=(r':Int)/\q'*n1+r'=u/\u*4294967296+u1<(q'+1)*Y/\q'<q:=by
  intro h;have IA:1<=q:=by
   rcases Nat.eq_zero_or_pos q with e|e
   ·rw [e]at h;omega
   ·exact e
  refine⟨q-1,r+n1,?_,?_,?_,?_,by omega⟩
  ·rw [dX (by omega) (by omega)];omega
  ·rw [dX (by omega) (by omega)];omega
  ·have:q*n1=(q-1)*n1+n1:=by
    obtain⟨k,rfl⟩:∃k,q=k+1:=⟨q-1,by omega⟩;rw [Nat.succ_mul];rfl
   omega
  ·rwa [show q-1+1=q by omega]
 have step:∀q' r':Nat,q'*n1+r'=u->u*4294967296+u1<(q'+1)*Y->q'<q->∀b:Bool,b=decide ((r':Int)>=4294967296)->
  Split b (Q (.exit 0) (aT.e1 (Y:Int) quo rem s n1 n0 Dj u1 MX ((q':Int),(r':Int))) w') (bR (aT.e1 (Y:Int) quo rem s n1 n0 Dj u1 MX) (fun s lg=>lg=w'/\∃q r:Nat,s=((q:Int),(r:Int))/\q*n1+r=u/\u*4294967296+u1<(q+1)*Y/\r<4294967296) (fun s _=>s.1.toNat) ((q:Int),(r:Int)) w' Q .normal (aT.e1 (Y:Int) quo rem s n1 n0 Dj u1 MX ((q':Int),(r':Int))) w'):=by
  intro q' r' h1 h2 h3 b hb;subst hb;refine Split.dec (fun iK=>?_) (fun cJ=>?_)
  ·exact hex q' r' (Z8 hY AG hu h1 (by omega)) h2
  ·exact⟨_,rfl,⟨rfl,q',r',rfl,h1,h2,by omega⟩,by simp only;omega⟩
 refine Split.dec (fun iK=>?_) (fun cJ=>?_)
 ·obtain⟨q',r',eq,er,h1,h2,h3⟩:=down (W0 hu FI (by simp only at iK;omega))
  simp only [eq,er];exact step q' r' h1 h2 h3 _ rfl
 ·simp only at cJ
  have hqn:q*n0<18446744073709551616:=by
   have:q*n0<=4294967295*4294967295:=Nat.mul_le_mul (by omega) (by omega);omega
  have e1:u64.wrap ((q:Int)*(n0:Int))=((q*n0:Nat):Int):=by rw [<-Int.natCast_mul,dX (by omega) (by omega)]
  have e2:u64.wrap (u64.wrap (4294967296*(r:Int))+(u1:Int))=((4294967296*r+u1:Nat):Int):=by
   rw [dX (x:=4294967296*(r:Int)) (by omega) (by omega),dX (by omega) (by omega)];omega
  simp only [e1,e2];refine Split.dec (fun xu=>?_) (fun hle=>?_)
  ·obtain⟨q',r',eq,er,h1,h2,h3⟩:=down (Z9 hY hq (by omega))
   simp only [eq,er];exact step q' r' h1 h2 h3 _ rfl
  ·exact hex q r (dg1 hY hq (by omega)) hX
theorem Cy{Y n1 n0 u u1:Nat}{quo rem s q1 Dk:Int}{Q:aM}{w:World}(hY:Y=n1*4294967296+n0)(AG:n0<4294967296)(FN:2147483648<=n1)(Hb:n1<4294967296)(hu:u<Y)(hY':Y<18446744073709551616)(FI:u1<4294967296)
 (hex:∀q r:Nat,q*Y<=u*4294967296+u1->u*4294967296+u1<(q+1)*Y->Q (.exit 2) (aT.e2 (Y:Int) quo rem s n1 n0 u1 q1 Dk ((r:Int),(q:Int))) w)
 (q0 r0:Nat) (h0:q0*n1+r0=u) (Wk:u*4294967296+u1<(q0+1)*Y) (rz:r0<4294967296):
 Holds none [] prog 135 (.loop (lB (bB (sL (dY (dY (aY (body aT.fn)))))))) Q (aT.e2 (Y:Int) quo rem s n1 n0 u1 q1 Dk ((r0:Int),(q0:Int))) w:=by
 refine aT.iN (I:=fun s w'=>w'=w/\∃q r:Nat,s=((r:Int),(q:Int))/\q*n1+r=u/\u*4294967296+u1<(q+1)*Y/\r<4294967296)
  (μ:=fun s _=>s.2.toNat) (s:=((r0:Int),(q0:Int))) ⟨rfl,q0,r0,rfl,h0,Wk,rz⟩ ?_
 rintro s w' ⟨hw,q,r,rfl,hq,hX,hr⟩;subst hw;have UA:=xL FN (by omega) hq;have down:u*4294967296+u1<q*Y->∃q' r':Nat,u64.wrap ((q:Int)-1)=(q':Int)/\u64.wrap ((r:Int)+(n1:Int))=(r':Int)/\q'*n1+r'=u/\u*4294967296+u1<(q'+1)*Y/\q'<q:=by
  intro h;have IA:1<=q:=by
   rcases Nat.eq_zero_or_pos q with e|e
   ·rw [e]at h;omega
   ·exact e
  refine⟨q-1,r+n1,?_,?_,?_,?_,by omega⟩
  ·rw [dX (by omega) (by omega)];omega
  ·rw [dX (by omega) (by omega)];omega
  ·have:q*n1=(q-1)*n1+n1:=by
    obtain⟨k,rfl⟩:∃k,q=k+1:=⟨q-1,by omega⟩;rw [Nat.succ_mul];rfl
   omega
  ·rwa [show q-1+1=q by omega]
 have step:∀q' r':Nat,q'*n1+r'=u->u*4294967296+u1<(q'+1)*Y->q'<q->∀b:Bool,b=decide ((r':Int)>=4294967296)->
  Split b (Q (.exit 2) (aT.e2 (Y:Int) quo rem s n1 n0 u1 q1 Dk ((r':Int),(q':Int))) w') (bR (aT.e2 (Y:Int) quo rem s n1 n0 u1 q1 Dk) (fun s lg=>lg=w'/\∃q r:Nat,s=((r:Int),(q:Int))/\q*n1+r=u/\u*4294967296+u1<(q+1)*Y/\r<4294967296) (fun s _=>s.2.toNat) ((r:Int),(q:Int)) w' Q .normal (aT.e2 (Y:Int) quo rem s n1 n0 u1 q1 Dk ((r':Int),(q':Int))) w'):=by
  intro q' r' h1 h2 h3 b hb;subst hb;refine Split.dec (fun iK=>?_) (fun cJ=>?_)
  ·exact hex q' r' (Z8 hY AG hu h1 (by omega)) h2
  ·exact⟨_,rfl,⟨rfl,q',r',rfl,h1,h2,by omega⟩,by simp only;omega⟩
 refine Split.dec (fun iK=>?_) (fun cJ=>?_)
 ·obtain⟨q',r',eq,er,h1,h2,h3⟩:=down (W0 hu FI (by simp only at iK;omega))
  simp only [eq,er];exact step q' r' h1 h2 h3 _ rfl
 ·simp only at cJ
  have hqn:q*n0<18446744073709551616:=by
   have:q*n0<=4294967295*4294967295:=Nat.mul_le_mul (by omega) (by omega);omega
  have e1:u64.wrap ((q:Int)*(n0:Int))=((q*n0:Nat):Int):=by rw [<-Int.natCast_mul,dX (by omega) (by omega)]
  have e2:u64.wrap (u64.wrap (4294967296*(r:Int))+(u1:Int))=((4294967296*r+u1:Nat):Int):=by
   rw [dX (x:=4294967296*(r:Int)) (by omega) (by omega),dX (by omega) (by omega)];omega
  simp only [e1,e2];refine Split.dec (fun xu=>?_) (fun hle=>?_)
  ·obtain⟨q',r',eq,er,h1,h2,h3⟩:=down (Z9 hY hq (by omega))
   simp only [eq,er];exact step q' r' h1 h2 h3 _ rfl
  ·exact hex q r (dg1 hY hq (by omega)) hX
theorem Rb(a:Nat)(ha:a<18446744073709551616):u64.wrap ((BitVec.ofInt 64 (a:Int)&&& BitVec.ofInt 64 (4294967295:Int)).toNat:Int)=((a%4294967296:Nat):Int):=by
 have h:=bits_and_u64_nat a 4294967295 ha (by omega);have e:a&&& 4294967295=a%4294967296:=Nat.and_two_pow_sub_one_eq_mod a 32;rw [e]at h;exact h
theorem orN(a b s:Nat)(ha:a*2 ^ s<18446744073709551616)(hb:b<2 ^ s)(uf:b<18446744073709551616):
 u64.wrap ((BitVec.ofInt 64 ((a*2 ^ s:Nat):Int)|||BitVec.ofInt 64 (b:Int)).toNat:Int)=((a*2 ^ s+b:Nat):Int):=by
 have h:=bits_or_u64_nat (a*2 ^ s) b ha uf;rw [Nat.mul_comm,<-Nat.two_pow_add_eq_or_of_lt hb,Nat.mul_comm]at h;exact h
theorem M6(a k:Nat):Int.fdiv (a:Int) (2 ^ k)=((a/2 ^ k:Nat):Int):=by
 rw [Int.fdiv_eq_ediv_of_nonneg _ (by exact Int.le_of_lt (Int.pow_pos (by omega)))];rw [Int.natCast_ediv,Int.natCast_pow];rfl
theorem SV(a k:Nat):(a:Int)*2 ^ k=((a*2 ^ k:Nat):Int):=by rw [Int.natCast_mul,Int.natCast_pow];rfl
theorem WQ{N u L u1 u0 v a b:Nat}(hN:N=u*18446744073709551616+L)(hL:L=u1*4294967296+u0)(hv:u*4294967296+u1-a=v)(ha:a<=u*4294967296+u1)(hb:b<=v*4294967296+u0):a*4294967296+b<=N:=by omega
theorem WO{N u L u1 u0 v a b:Nat}(hN:N=u*18446744073709551616+L)(hL:L=u1*4294967296+u0)(hv:u*4294967296+u1-a=v)(ha:a<=u*4294967296+u1)(hb:v*4294967296+u0<b):N<a*4294967296+b:=by omega
section
variable{w:World}{K:Value->World->Prop}
theorem mC(x:Nat)(hx:x<18446744073709551616)(hK:K (.int .i64 ((64-Lib.bitLen x:Nat):Int)) w):bm prog bits_LeadingZeros64.id #[.int .u64 x] w K:=by
 refine bits_LeadingZeros64.of (ui x hx ⟨_,rfl,?_⟩);have hle:=Lib.bitLen_le x 64 (by omega) (by omega)
 rwa [iI (by omega) (by omega),show(64:Int)-(Lib.bitLen x:Int)=((64-Lib.bitLen x:Nat):Int)by omega]
theorem um(hi lo y:Nat)(RX:lo<18446744073709551616)(hy:y<18446744073709551616)(Zj:hi<y)
 (hK:∀r w',Kept Nil w w'->K (.tuple #[.int .u64 (((hi*18446744073709551616+lo)/y:Nat):Int),.int .u64 r]) w'):
 bm prog aT.id #[.int .u64 hi,.int .u64 lo,.int .u64 y] w K:=by
 refine aT.of (Split.no (beq_eq_false_iff_ne.2 (by omega)) (Split.no (decide_eq_false (by omega)) ?_));by_cases h0:hi=0
 ·subst h0
  refine Split.yes rfl ?_;intro w6;refine⟨by omega,by omega,?_⟩;have e:u64.wrap ((lo:Int).tdiv (y:Int))=(((0*18446744073709551616+lo)/y:Nat):Int):=by
   rw [Int.tdiv_eq_ediv_of_nonneg (by omega),Nat.zero_mul,Nat.zero_add,<-Int.natCast_ediv];have:=Nat.div_le_self lo y;generalize lo/y=z at*;exact dX (by omega) (by omega)
  rw [e];exact hK _ w6 (Kept.refl Nil w).drew
 ·refine Split.no (beq_eq_false_iff_ne.2 (by omega)) (mC y hy ⟨_,rfl,?_⟩)
  obtain⟨FV,V4,hY1,hY2⟩:=bitLen_spec (y:=y) (by omega) hy;have hs:64-Lib.bitLen y<64:=by omega
  generalize 64-Lib.bitLen y=s at*;have eS:u64.wrap (s:Int)=(s:Int):=dX (by omega) (by omega);have eS2:u64.wrap ((64:Int)-(s:Int))=((64-s:Nat):Int):=by rw [dX (by omega) (by omega)];omega
  have em1:min s 64=s:=by omega
  have em2:min (64-s) 64=64-s:=by omega
  have em3:min (32:Int).toNat 64=32:=rfl;have Mq:2 ^ (64-s)*2 ^ s=18446744073709551616:=by rw [<-Nat.pow_add,show 64-s+s=64 by omega]
  have km:0<2 ^ s:=Nat.pow_pos (by omega);have OP:0<2 ^ (64-s):=Nat.pow_pos (by omega);simp only [eS,eS2,Int.toNat_natCast,em1,em2,em3,SV];generalize ZG:y*2 ^ s=Y at*;have hhs:hi*2 ^ s<18446744073709551616:=by
   have:hi*2 ^ s<y*2 ^ s:=Nat.mul_lt_mul_of_pos_right Zj km;omega
  have hlq:lo/2 ^ (64-s)<2 ^ s:=by
   rw [Nat.div_lt_iff_lt_mul OP,Nat.mul_comm,Mq];exact RX
  have U9:lo/2 ^ (64-s)<18446744073709551616:=Nat.lt_of_le_of_lt (Nat.div_le_self _ _) RX;have eY:u64.wrap (Y:Int)=(Y:Int):=dX (by omega) (by omega);have eH:u64.wrap ((hi*2 ^ s:Nat):Int)=((hi*2 ^ s:Nat):Int):=dX (by omega) (by omega);have eL:u64.wrap ((lo*2 ^ s:Nat):Int)=((lo*2 ^ s%18446744073709551616:Nat):Int):=by rw [IntKind.wrap_u64];omega
  have WZ:∀a:Nat,Int.fdiv (a:Int) (2 ^ 32)=((a/4294967296:Nat):Int):=fun a=>M6 a 32;simp only [eY,eH,eL,WZ,M6 lo,orN hi _ s hhs hlq U9,Rb Y (by omega),Rb _ (Nat.mod_lt (lo*2 ^ s) (by omega:18446744073709551616>0))];have hN:(hi*18446744073709551616+lo)*2 ^ s=(hi*2 ^ s+lo/2 ^ (64-s))*18446744073709551616+lo*2 ^ s%18446744073709551616:=by
   have h1:lo*2 ^ s/18446744073709551616=lo/2 ^ (64-s):=by
    rw [<-Mq,Nat.mul_div_mul_right _ _ km]
   have h2:=Nat.div_add_mod (lo*2 ^ s) 18446744073709551616;rw [h1]at h2;rw [Nat.add_mul,Nat.mul_right_comm];omega
  have adH:(hi*18446744073709551616+lo)*2 ^ s<Y*18446744073709551616:=by
   have h1:hi*18446744073709551616+lo<y*18446744073709551616:=by omega
   have:=Nat.mul_lt_mul_of_pos_right h1 km;rw [Nat.mul_right_comm,ZG]at this;exact this
  have Iz:(hi*18446744073709551616+lo)*2 ^ s/Y=(hi*18446744073709551616+lo)/y:=by rw [<-ZG,Nat.mul_div_mul_right _ _ km]
  rw [<-Iz]at hK;clear Iz;generalize (hi*18446744073709551616+lo)*2 ^ s=N at*;have hL:lo*2 ^ s%18446744073709551616<18446744073709551616:=Nat.mod_lt _ (by omega);generalize lo*2 ^ s%18446744073709551616=L at*;generalize hi*2 ^ s+lo/2 ^ (64-s)=u at*;have hu:u<Y:=by omega
  have FN:2147483648<=Y/4294967296:=by omega
  have Hb:Y/4294967296<4294967296:=by omega
  have AG:Y%4294967296<4294967296:=by omega
  have Wj:Y=Y/4294967296*4294967296+Y%4294967296:=by omega
  have FI:L/4294967296<4294967296:=by omega
  have T7:L%4294967296<4294967296:=by omega
  have ZM:L=L/4294967296*4294967296+L%4294967296:=by omega
  generalize Y/4294967296=n1 at*;generalize Y%4294967296=n0 at*;generalize L/4294967296=u1 at*;generalize L%4294967296=u0 at*;have I7:∀v:Nat,v<18446744073709551616->u64.wrap ((v:Int).tdiv (n1:Int))=((v/n1:Nat):Int)/\u64.wrap ((v:Int)-u64.wrap (((v/n1:Nat):Int)*(n1:Int)))=((v%n1:Nat):Int)/\v/n1*n1+v%n1=v/\v%n1<n1:=by
   intro v hv;have h1:=Nat.div_le_self v n1;have h2:=Nat.div_add_mod' v n1;refine⟨?_,?_,h2,Nat.mod_lt _ (by omega)⟩
   ·rw [Int.tdiv_eq_ediv_of_nonneg (by omega),<-Int.natCast_ediv]
    generalize v/n1=z at*;exact dX (by omega) (by omega)
   ·rw [<-Int.natCast_mul,dX (x:=((v/n1*n1:Nat):Int)) (by omega) (by omega),dX (by omega) (by omega)]
    omega
  have first:∀v d:Nat,v<Y->d<4294967296->v*4294967296+d<(v/n1+1)*Y:=by
   intro v d hv hd;have h2:=Nat.div_add_mod' v n1;have h3:=Nat.mod_lt v (show 0<n1 by omega);have h4:v+1<=(v/n1+1)*n1:=by rw [Nat.succ_mul];omega
   have h5:(v+1)*4294967296<=(v/n1+1)*n1*4294967296:=Nat.mul_le_mul_right _ h4;have h6:(v/n1+1)*n1*4294967296<=(v/n1+1)*Y:=by
    have h7:n1*4294967296<=Y:=Nat.le_trans (Nat.le_add_right _ n0) (Nat.le_of_eq Wj.symm);rw [Nat.mul_assoc];exact Nat.mul_le_mul_left _ h7
   omega
  obtain⟨g1,g2,g3,g4⟩:=I7 u (by omega);simp only [g1,g2];refine⟨by omega,by omega,by omega,by omega,by omega,by omega,by omega,?_⟩;refine Cz Wj AG FN Hb hu (by omega) FI ?_ (u/n1) (u%n1) g3 (first u u1 hu FI) (by omega);intro q r IA Mo;rw [show aT.e1 (Y:Int) 0 0 (s:Int) (n1:Int) (n0:Int) (u:Int) (u1:Int) (u0:Int) ((q:Int),(r:Int))= [(2,.int .u64 (Y:Int)),(6,.int .u64 0),(7,.int .u64 0),(8,.int .u64 (s:Int)),(9,.int .u64 (n1:Int)),(10,.int .u64 (n0:Int)),(11,.int .u64 (u:Int)),(13,.int .u64 (u1:Int)),(14,.int .u64 (u0:Int)),(15,.int .u64 (q:Int)),(16,.int .u64 (r:Int))]from rfl];rw [aT.dA];have hqB:=Ja hu FI IA;rw [Nat.succ_mul]at Mo;have hp:u64.wrap (u64.wrap (u64.wrap ((u:Int)*4294967296)+(u1:Int))-u64.wrap ((q:Int)*(Y:Int)))=((u*4294967296+u1-q*Y:Nat):Int):=by
   rw [<-Int.natCast_mul q Y];simp only [IntKind.wrap_u64];generalize q*Y=p at*;omega
  unfold aT.cW;simp only [hp];have hv:u*4294967296+u1-q*Y<Y:=by omega
  generalize YB:u*4294967296+u1-q*Y=v at*;obtain⟨g1',g2',g3',g4'⟩:=I7 v (by omega);simp only [g1',g2'];refine⟨by omega,?_⟩;refine Cy Wj AG FN Hb hv (by omega) T7 ?_ (v/n1) (v%n1) g3' (first v u0 hv T7) (by omega);intro q' r' ON UB;rw [show aT.e2 (Y:Int) 0 0 (s:Int) (n1:Int) (n0:Int) (u0:Int) (q:Int) (v:Int) ((r':Int),(q':Int))= [(2,.int .u64 (Y:Int)),(6,.int .u64 0),(7,.int .u64 0),(8,.int .u64 (s:Int)),(9,.int .u64 (n1:Int)),(10,.int .u64 (n0:Int)),(14,.int .u64 (u0:Int)),(15,.int .u64 (q:Int)),(16,.int .u64 (r':Int)),(17,.int .u64 (v:Int)),(18,.int .u64 (q':Int))]from rfl];rw [aT.lL];have acj:=Ja hv T7 ON;refine⟨by omega,?_⟩;have Ui:u64.wrap (u64.wrap ((q:Int)*4294967296)+(q':Int))=((N/Y:Nat):Int):=by
   rw [dX (x:=(q:Int)*4294967296) (by omega) (by omega),dX (by omega) (by omega)];have:N/Y=q*4294967296+q':=by
    apply Nat.div_eq_of_lt_le
    ·rw [Nat.add_mul,Nat.mul_right_comm]
     exact WQ hN ZM YB IA ON
    ·rw [Nat.add_assoc,Nat.add_mul,Nat.mul_right_comm]
     exact WO hN ZM YB IA UB
   rw [this];omega
  rw [Ui];exact hK _ w (Kept.refl Nil w)
end
end Go.Proofs.YtfleamccglihoaaGreatDoor.Tr
namespace Go.Proofs.YtfleamccglihoaaGreatDoor.Tr
open Go.Proofs.Tryz
structure jS(T T':List Nd):Prop where
 len:T'.length=T.length
 at_:∀(i:Nat) nd,T[i]? =some nd->∃nd',T'[i]? =some nd'/\nd'.parent=nd.parent/\nd'.ch=nd.ch
theorem jS.refl(T:List Nd):jS T T:=⟨rfl,fun _ nd h=>⟨nd,h,rfl,rfl⟩⟩
theorem jS.trans{T T' A9:List Nd}(h:jS T T')(h':jS T' A9):jS T A9:=⟨h'.len.trans h.len,fun i nd hi=>by
 obtain⟨nd',h1,h2,h3⟩:=h.at_ i nd hi;obtain⟨Tg,g1,g2,g3⟩:=h'.at_ i nd' h1;exact⟨Tg,g1,g2.trans h2,g3.trans h3⟩⟩
theorem jS.back{T T':List Nd}(h:jS T T'){i:Nat}{nd':Nd}(hi:T'[i]? =some nd'):∃nd,T[i]? =some nd/\nd'.parent=nd.parent/\nd'.ch=nd.ch:=by
 have cJ:=(lgeS hi).1;obtain⟨nd,gP⟩:=eQ (T:=T) (i:=i) (by rw [<-h.len];exact cJ);obtain⟨x,h1,h2,h3⟩:=h.at_ i nd gP;rw [hi]at h1;cases h1;exact⟨nd,gP,h2,h3⟩
theorem jS.bH{T T':List Nd}(h:jS T T'):bH T'=bH T:=by
 apply List.ext_getElem?;intro i;rcases Nat.lt_or_ge i T.length with hi|hi
 ·obtain⟨nd,gP⟩:=eQ hi
  obtain⟨nd',h1,h2,_⟩:=h.at_ i nd gP;rw [jK gP,jK h1,h2]
 ·rw [List.getElem?_eq_none (by rw [dF,h.len];exact hi),List.getElem?_eq_none (by rw [dF];exact hi)]
theorem jS.shape{T T':List Nd}(h:jS T T')(hS:Shape T):Shape T':=⟨by rw [h.bH];exact hS.par,fun i nd' hi=>by
 obtain⟨nd,gP,_,h3⟩:=h.back hi;rw [h.bH,h3,hS.ch i nd gP]⟩
theorem jS.set{T:List Nd}{i:Nat}{nd nd':Nd}(hi:T[i]? =some nd)(h1:nd'.parent=nd.parent)(h2:nd'.ch=nd.ch):jS T (T.set i nd'):=
 ⟨by simp,fun j x hj=>by
   by_cases e:i=j
   ·subst e
    rw [hi]at hj;cases hj;exact⟨nd',gI hi,h1,h2⟩
   ·exact⟨x,mz hj e,rfl,rfl⟩⟩
theorem uZ{T:List Nd}{n p:Nat}{nd pd:Nd}{many:Int}(hn:T[n]? =some nd)(hp:T[p]? =some pd)(fH:n≠p)(i:Nat):
 (sV T n p nd pd many)[i]? =if i=p then some {pd with free:=pd.free+many}else if i=n then some {nd with lo:=pd.free,hi:=pd.free+many-1,free:=pd.free}else T[i]? :=by
 unfold sV;by_cases e:i=p
 ·subst e
  rw [if_pos rfl];exact gI (mz hp fH)
 ·rw [if_neg e,List.getElem?_set_ne (fun h=>e h.symm)]
  by_cases e2:i=n
  ·subst e2
   rw [if_pos rfl];exact gI hn
  ·rw [if_neg e2,List.getElem?_set_ne (fun h=>e2 h.symm)]
theorem sU{T:List Nd}{n p:Nat}{nd pd:Nd}(many:Int)(hn:T[n]? =some nd)(hp:T[p]? =some pd)(fH:n≠p):jS T (sV T n p nd pd many):=
 (jS.set (nd':= {nd with lo:=pd.free,hi:=pd.free+many-1,free:=pd.free}) hn rfl rfl).trans (jS.set (nd:=pd) (nd':= {pd with free:=pd.free+many}) (mz hp fH) rfl rfl)
theorem wx{l:List Nat}(hs:l.Pairwise (· < ·)){k c:Nat}(hc:l[k]? =some c):∀y,y∈l.take k->y<c:=by
 intro y hy;obtain⟨j,hj⟩:=List.mem_iff_getElem?.1 hy;rw [List.getElem?_take]at hj;split at hj
 ·rename_i cJ
  obtain⟨h1,e1⟩:=lgeS hj;obtain⟨h2,e2⟩:=lgeS hc;rw [<-e1,<-e2];exact List.pairwise_iff_getElem.1 hs j k h1 h2 cJ
 ·cases hj
theorem mc{l:List Nat}{k c:Nat}(hc:l[k]? =some c):l.take (k+1)=l.take k++ [c]:=by
 rw [List.take_add_one,hc];rfl
structure nX(P:List Int)(T1:List Nd)(x:Nat)(xd:Nd)(half:Int)(k:Nat)(T':List Nd)(f:Int):Prop where
 mi:jS T1 T'
 here:T'[x]? =some {xd with free:=f}
 rest:∀y,y≠x->y∉xd.ch.take k->T'[y]? =T1[y]?
 lo:xd.lo+(((xd.ch.take k).map (sz P)).sum:Nat)<=f
 up:(f-xd.lo-(((xd.ch.take k).map (sz P)).sum:Nat))*(sz P x:Int)<=half*(((xd.ch.take k).map (sz P)).sum:Nat)
 oX:∀c cd,c∈xd.ch.take k->T'[c]? =some cd->xd.lo<=cd.lo/\cd.hi<f/\(sz P c:Int)<=cd.hi-cd.lo+1
 ord:∀c c' cd tw,c∈xd.ch.take k->c'∈xd.ch.take k->c<c'->T'[c]? =some cd->T'[c']? =some tw->cd.hi<tw.lo
section
variable{P:List Int}{T1 T':List Nd}{x:Nat}{xd:Nd}{half f:Int}{k:Nat}
theorem nX.start(hx:T1[x]? =some xd)(hf:xd.free=xd.lo):nX P T1 x xd half 0 T1 xd.lo:= {
 mi:=jS.refl _
 here:=by obtain⟨a,b,c,d,e⟩:=xd;simp only at hf;subst hf;exact hx
 rest:=fun _ _ _=>rfl
 lo:=by simp
 up:=by simp
 oX:=fun c cd hc=>by simp at hc
 ord:=fun c c' cd tw hc=>by simp at hc}
theorem nX.bound(h:nX P T1 x xd half k T' f)(hh:0<=half)(YJ:1<=sz P x)(En:((xd.ch.take k).map (sz P)).sum<=sz P x):f<=xd.lo+(((xd.ch.take k).map (sz P)).sum:Nat)+half:=by
 have h1:half*(((xd.ch.take k).map (sz P)).sum:Nat)<=half*(sz P x:Int):=Int.mul_le_mul_of_nonneg_left (by omega) hh;have h2:=Int.le_trans h.up h1;have h3:=Int.le_of_mul_le_mul_right h2 (by omega);omega
theorem nX.step(h:nX P T1 x xd half k T' f)(hs:xd.ch.Pairwise (· < ·)){c:Nat}(hx:∀y,y∈xd.ch->x<y)(hc:xd.ch[k]? =some c){cd:Nd}(iQ:T'[c]? =some cd)
 {more:Int} (Mv:0<=more) (hm:more*(sz P x:Int)<=half*(sz P c:Int)) (CU:1<=sz P c):
 nX P T1 x xd half (k+1) (sV T' c x cd {xd with free:=f} ((sz P c:Int)+more)) (f+((sz P c:Int)+more)):=by
 have cJ:=wx hs hc;have hxc:x<c:=hx c (List.mem_of_getElem? hc);have O4:c∉xd.ch.take k:=fun hh=>Nat.lt_irrefl _ (cJ c hh);have fp:=uZ (many:=(sz P c:Int)+more) iQ h.here (by omega);have En:((xd.ch.take (k+1)).map (sz P)).sum=((xd.ch.take k).map (sz P)).sum+sz P c:=by rw [mc hc];simp
 have kQ:∀y,y∈xd.ch.take (k+1)↔y∈xd.ch.take k\/y=c:=by intro y;rw [mc hc];simp
 exact {
  mi:=h.mi.trans (sU _ iQ h.here (by omega))
  here:=by rw [fp,if_pos rfl]
  rest:=fun y hy hn=>by
   rw [fp,if_neg hy,if_neg (fun e=>hn ((kQ y).2 (.inr e)))];exact h.rest y hy (fun hh=>hn ((kQ y).2 (.inl hh)))
  lo:=by rw [En];have:=h.lo;omega
  up:=by
   rw [En];have h1:=h.up;have e1:(f+((sz P c:Int)+more)-xd.lo-((((xd.ch.take k).map (sz P)).sum+sz P c:Nat):Int))*(sz P x:Int)=(f-xd.lo-((((xd.ch.take k).map (sz P)).sum:Nat):Int))*(sz P x:Int)+more*(sz P x:Int):=by
    rw [<-Int.add_mul];congr 1;omega
   have e2:half*((((xd.ch.take k).map (sz P)).sum+sz P c:Nat):Int)=half*((((xd.ch.take k).map (sz P)).sum:Nat):Int)+half*(sz P c:Int):=by
    rw [<-Int.mul_add];congr 1
   rw [e1,e2];omega
  oX:=fun y yd hy yR=>by
   have RX:=h.lo;rw [fp]at yR;rcases(kQ y).1 hy with hh|rfl
   ·have h1:=cJ y hh
    have h2:=hx y (List.mem_of_mem_take hh);rw [if_neg (by omega),if_neg (by omega)]at yR;have:=h.oX y yd hh yR;exact⟨this.1,by omega,this.2.2⟩
   ·rw [if_neg (by omega),if_pos rfl]at yR
    cases yR;refine⟨?_,?_,?_⟩<;>simp only<;>omega
  ord:=fun a b ad bd ha hb mJ I5 I0=>by
   rw [fp]at I5 I0;rcases(kQ b).1 hb with uf|rfl
   ·have h1:=cJ b uf
    rcases(kQ a).1 ha with zi|rfl
    ·have h2:=hx a (List.mem_of_mem_take zi)
     rw [if_neg (by omega),if_neg (by omega)]at I5 I0;exact h.ord a b ad bd zi uf mJ I5 I0
    ·omega
   ·rcases(kQ a).1 ha with zi|rfl
    ·have h1:=cJ a zi
     have h2:=hx a (List.mem_of_mem_take zi);rw [if_neg (by omega),if_neg (by omega)]at I5;rw [if_neg (by omega),if_pos rfl]at I0;cases I0;exact(h.oX a ad zi I5).2.1
    ·omega}
end
structure lX(P:List Int)(T0:List Nd)(m:Nat)(T':List Nd)(q:List Nat)(i:Nat):Prop where
 mi:jS T0 T'
 nodup:q.Nodup
 mY:∀y,y∈q->jh P y m
 fst:m∈q
 src:∀y,y∈q->y=m\/∃z:Nat,z∈q.take i/\P[y]? =some (z:Int)
 Sq:∀z,z∈q.take i->∀c,c∈kids P z->c∈q
 rest:∀y,y∉q->T'[y]? =T0[y]?
 top:∀md Np,T0[m]? =some md->T'[m]? =some Np->Np.lo=md.lo/\Np.hi=md.hi
 room:∀y yd,y∈q->T'[y]? =some yd->1<=yd.lo/\yd.hi<=4611686018427387904/\(sz P y:Int)<=yd.hi-yd.lo+1
 loc:∀z zd,z∈q.take i->T'[z]? =some zd->Loc T' zd
theorem lX.start{P:List Int}{T0:List Nd}{m:Nat}{md:Nd}(hm:m<P.length)(AH:T0[m]? =some md)(h1:1<=md.lo)(h2:md.hi<=4611686018427387904)(h3:(sz P m:Int)<=md.hi-md.lo+1):
 lX P T0 m T0 [m] 0:= {
 mi:=jS.refl _
 nodup:=by simp
 mY:=fun y hy=>by simp at hy;subst hy;exact .refl hm
 fst:=by simp
 src:=fun y hy=>by simp at hy;exact .inl hy
 Sq:=fun z hz=>by simp at hz
 rest:=fun _ _=>rfl
 top:=fun a b ha hb=>by rw [ha]at hb;cases hb;exact⟨rfl,rfl⟩
 room:=fun y yd hy yR=>by
  simp at hy;subst hy;rw [AH]at yR;cases yR;exact⟨h1,h2,h3⟩
 loc:=fun z zd hz=>by simp at hz}
section
variable{T0 T' A9:List Nd}{m x i:Nat}{q:List Nat}{xd:Nd}{f half:Int}
theorem lX.step(hS:Shape T0)(h:lX (bH T0) T0 m T' q i)(hq:q[i]? =some x)(FF:T'[x]? =some xd)
 (AO:0<=half) (Vl:half*2<=xd.hi-xd.lo-((sz (bH T0) x:Int)-1))
 (gK:nX (bH T0) (T'.set x {xd with free:=xd.lo}) x {xd with free:=xd.lo} half xd.ch.length A9 f):
 lX (bH T0) T0 m A9 (q++xd.ch) (i+1):=by
 have Sc:=h.mi.shape hS;have UG:=h.mi.bH;have hP:=hS.par;have mR:xd.ch=kids (bH T0) x:=by rw [Sc.ch x xd FF,UG]
 have fc:i<q.length:=(lgeS hq).1;have Ip:x∈q:=List.mem_of_getElem? hq;have sJ:x<(bH T0).length:=(h.mY x Ip).lt;have yV:q.take (i+1)=q.take i++ [x]:=mc hq;have Kz:(q++xd.ch).take (i+1)=q.take i++ [x]:=by rw [List.take_append_of_le_length (by omega),yV]
 have Iq:x∉q.take i:=by
  intro hh;have hn:(q.take i++ [x]).Nodup:=by rw [<-yV];exact h.nodup.sublist (List.take_sublist _ _)
  rw [List.nodup_append]at hn;exact hn.2.2 x hh x (by simp) rfl
 have Ck:∀c,c∈xd.ch->(bH T0)[c]? =some (x:Int):=fun c hc=>dG.1 (mR▸hc);have xu:∀c,c∈xd.ch->x<c:=fun c hc=>(gR hP (mR▸hc)).1;have nO:∀c,c∈xd.ch->c∉q:=by
  intro c hc R7;rcases h.src c R7 with rfl|⟨z,hz,RT⟩
  ·have:=(h.mY x Ip).le hP
   have:=xu _ hc;omega
  ·rw [Ck c hc]at RT
   have:z=x:=by have:=Option.some.inj RT;omega
   exact Iq (this▸hz)
 have abB:x∉xd.ch:=fun hh=>Nat.lt_irrefl _ (xu x hh);have cO:∀c,c∈(({xd with free:=xd.lo}:Nd).ch.take xd.ch.length)↔c∈xd.ch:=by intro c;simp
 have En:(xd.ch.map (sz (bH T0))).sum+1=sz (bH T0) x:=by
  rw [mR];exact z7 hP sJ
 have km:=rY hP sJ;have Mx:=gK.bound AO km (by simp only [List.take_length];omega);have Vv:=gK.lo;simp only [List.take_length]at Mx Vv;have Vw:f<=xd.hi:=by omega
 have hT1:∀y,y≠x->(T'.set x {xd with free:=xd.lo})[y]? =T'[y]? :=fun y hy=>List.getElem?_set_ne (fun e=>hy e.symm);have Ev:∀y,y≠x->y∉xd.ch->A9[y]? =T'[y]? :=fun y hy hn=>by
  rw [gK.rest y hy (fun hh=>hn ((cO y).1 hh)),hT1 y hy]
 have IP:A9[x]? =some {xd with free:=f}:=gK.here;have hxr:=h.room x xd Ip FF;have hlh:xd.lo<=xd.hi:=by omega
 have hold:∀y we,y∉xd.ch->A9[y]? =some we->∃yd,T'[y]? =some yd/\yd.lo=we.lo/\yd.hi=we.hi:=by
  intro y we hn hy;by_cases e:y=x
  ·subst e
   rw [IP]at hy;cases hy;exact⟨xd,FF,rfl,rfl⟩
  ·rw [Ev y e hn]at hy
   exact⟨we,hy,rfl,rfl⟩
 exact {
  mi:=(h.mi.trans (jS.set (nd':= {xd with free:=xd.lo}) FF rfl rfl)).trans gK.mi
  nodup:=by
   rw [List.nodup_append];refine⟨h.nodup,?_,fun a ha b hb e=>nO b hb (e▸ha)⟩;rw [mR];exact(qS _ _).imp (fun h=>by omega)
  mY:=fun y hy=>by
   rcases List.mem_append.1 hy with hy|hy
   ·exact h.mY y hy
   ·exact .step (Ck y hy) (h.mY x Ip)
  fst:=List.mem_append.2 (.inl h.fst)
  src:=fun y hy=>by
   rw [Kz];rcases List.mem_append.1 hy with hy|hy
   ·rcases h.src y hy with e|⟨z,hz,RT⟩
    ·exact .inl e
    ·exact .inr ⟨z,List.mem_append.2 (.inl hz),RT⟩
   ·exact .inr ⟨x,by simp,Ck y hy⟩
  Sq:=fun z hz c hc=>by
   rw [Kz]at hz;rcases List.mem_append.1 hz with hz|hz
   ·exact List.mem_append.2 (.inl (h.Sq z hz c hc))
   ·simp at hz
    subst hz;exact List.mem_append.2 (.inr (mR▸hc))
  rest:=fun y hy=>by
   have h1:y∉q:=fun hh=>hy (List.mem_append.2 (.inl hh));have h2:y∉xd.ch:=fun hh=>hy (List.mem_append.2 (.inr hh));rw [Ev y (fun e=>h1 (e▸Ip)) h2,h.rest y h1]
  top:=fun md Ti AH Pf=>by
   obtain⟨Np,h1,h2,h3⟩:=hold m Ti (fun hh=>nO m hh h.fst) Pf;have:=h.top md Np AH h1;omega
  room:=fun y we hy Io=>by
   rcases List.mem_append.1 hy with hy|hy
   ·obtain⟨yd,h1,h2,h3⟩:=hold y we (fun hh=>nO y hh hy) Io
    have:=h.room y yd hy h1;omega
   ·have:=gK.oX y we ((cO y).2 hy) Io
    simp only at this;omega
  loc:=fun z zd hz TL=>by
   rw [Kz]at hz;rcases List.mem_append.1 hz with hz|hz
   ·have hzq:z∈q:=List.mem_of_mem_take hz
    have Oi:z≠x:=fun e=>Iq (e▸hz);have Ks:=TL;rw [Ev z Oi (fun hh=>nO z hh hzq)]at Ks;have hl:=h.loc z zd hz Ks;have TM:zd.ch=kids (bH T0) z:=by rw [Sc.ch z zd Ks,UG]
    have R8:∀c,c∈zd.ch->c∉xd.ch:=by
     intro c hc EJ;have h1:=Ck c EJ;rw [dG.1 (TM▸hc:c∈kids (bH T0) z)]at h1;have:=Option.some.inj h1;omega
    exact {
     C8:=hl.C8
     zt:=hl.zt
     sub:=fun c cd hc iQ=>by
      obtain⟨tw,h1,h2,h3⟩:=hold c cd (R8 c hc) iQ;have:=hl.sub c tw hc h1;omega
     ord:=fun c c' cd tw hc sP xy iQ o5=>by
      obtain⟨ed,h1,h2,h3⟩:=hold c cd (R8 c hc) iQ;obtain⟨LF,qV,sS,AT⟩:=hold c' tw (R8 c' sP) o5;have:=hl.ord c c' ed LF hc sP xy h1 qV;omega}
   ·simp at hz
    subst hz;rw [IP]at TL;cases TL;exact {
     C8:=by simp only;omega
     zt:=Vw
     sub:=fun c cd hc iQ=>by
      have:=gK.oX c cd ((cO c).2 hc) iQ;simp only at this⊢;omega
     ord:=fun c c' cd tw hc sP xy iQ o5=>gK.ord c c' cd tw ((cO c).2 hc) ((cO c').2 sP) xy iQ o5}}
theorem lX.fin(hS:Shape T0)(h:lX (bH T0) T0 m T' q i)(hi:q.length<=i)
 (OY:∀y nd,T0[y]? =some nd->¬jh (bH T0) y m->Iv nd/\Loc T0 nd):Good T':=by
 have Sc:=h.mi.shape hS;have UG:=h.mi.bH;have hP:=hS.par;have yV:q.take i=q:=List.take_of_length_le hi;have vF:∀y,jh (bH T0) y m->y∈q:=by
  have:∀y k,jh (bH T0) y k->k=m->y∈q:=by
   intro y k hu
   induction hu with
   |refl=>intro e;subst e;exact h.fst
   | @step a b c hp h' ih=>intro e;exact h.Sq b (by rw [yV];exact ih e) a (dG.2 hp)
  exact fun y hu=>this y m hu rfl
 have hq:∀y,y∈q↔jh (bH T0) y m:=fun y=>⟨h.mY y,vF y⟩;refine⟨Sc,fun y yd yR=>?_,fun y yd yR=>?_⟩
 ·by_cases hy:y∈q
  ·have hr:=h.room y yd hy yR
   have:=rY hP (h.mY y hy).lt;exact⟨hr.1,by omega,hr.2.1⟩
  ·rw [h.rest y hy]at yR
   exact(OY y yd yR (fun hu=>hy (vF y hu))).1
 ·by_cases hy:y∈q
  ·exact h.loc y yd (by rw [yV];exact hy) yR
  ·have Kt:=yR
   rw [h.rest y hy]at Kt;have hl:=(OY y yd Kt (fun hu=>hy (vF y hu))).2;have mR:=hS.ch y yd Kt;have hold:∀c cd,c∈yd.ch->T'[c]? =some cd->∃ed,T0[c]? =some ed/\ed.lo=cd.lo/\ed.hi=cd.hi:=by
    intro c cd hc iQ;by_cases R7:c∈q
    ·have hpc:=dG.1 (mR▸hc:c∈kids (bH T0) y)
     have mI:c=m:=by
      by_cases e:c=m
      ·exact e
      ·exact absurd (vF y ((h.mY c R7).inv e hpc)) hy
     subst mI;obtain⟨ed,Zs,_⟩:=h.mi.back iQ;have:=h.top ed cd Zs iQ;exact⟨ed,Zs,by omega,by omega⟩
    ·rw [h.rest c R7]at iQ
     exact⟨cd,iQ,rfl,rfl⟩
   exact {
    C8:=hl.C8
    zt:=hl.zt
    sub:=fun c cd hc iQ=>by
     obtain⟨ed,h1,h2,h3⟩:=hold c cd hc iQ;have:=hl.sub c ed hc h1;omega
    ord:=fun c c' cd tw hc sP xy iQ o5=>by
     obtain⟨ed,h1,h2,h3⟩:=hold c cd hc iQ;obtain⟨LF,qV,sS,AT⟩:=hold c' tw sP o5;have:=hl.ord c c' ed LF hc sP xy h1 qV;omega}
end
open Go Go.RowKit Go.bE
theorem JN{l:List Nat}{a:Nat}(h:a∈l):a<=l.sum:=by
 induction l with
 |nil=>simp at h
 |cons b l ih=>
  rw [List.sum_cons];rcases List.mem_cons.1 h with rfl|h
  ·omega
  ·have:=ih h;omega
theorem xp{l:List Nat}{j x:Nat}(h:l[j]? =some x):(ints l)[j]? =some (.int .i64 (x:Int)):=by simp [ints,h]
theorem Ej(l:List Nat):(ints l).length=l.length:=by simp [ints]
theorem Ei(l:List Nat):∀u∈ints l,u.oneCell'=true:=by
 intro u hu;simp only [ints,List.mem_map]at hu;obtain⟨x,_,rfl⟩:=hu;rfl
structure Dl(w0:World)(S:Nat->Prop)(g b c B0 B1 len:Nat)(P:List Int)(d:Int)(As:Option Addr)(w:World)(T':List Nd)(L:List (Nd×Value))(Aq:Option Addr)(nq cq:Nat)(q:List Nat):Prop where
 tv:TV w S g T' d b c L
 rs:Row w B0 eI 1 As len len (us (sz P) len)
 sb:∀k,bp As=some k->k<B1
 rq:Row w B1 fC 1 Aq nq cq (ints q)
 kp:Kept S w0 w
 hS:∀k,S k->k<B0
 hB:B0<=B1
 EX:B1<=w.heap.size
 h0:w0.heap.size<=B0
section
variable{w0 w w':World}{S:Nat->Prop}{g b c B0 B1 len:Nat}{P:List Int}{d:Int}{As:Option Addr}{T' A9:List Nd}{L L':List (Nd×Value)}{Aq:Option Addr}{nq cq:Nat}{q:List Nat}
theorem Dl.Gl(h:Dl w0 S g b c B0 B1 len P d As w T' L Aq nq cq q):nq=q.length:=by
 have:=Row.len h.rq;rw [Ej]at this;omega
theorem Dl.quiet(h:Dl w0 S g b c B0 B1 len P d As w T' L Aq nq cq q)(hk:Kept Nil w w'):Dl w0 S g b c B0 B1 len P d As w' T' L Aq nq cq q:= {
 tv:=h.tv.kept hk
 rs:=Row.aK h.rs hk (fun _ _ h=>h)
 sb:=h.sb
 rq:=Row.aK h.rq hk (fun _ _ h=>h)
 kp:=h.kp.trans hk (fun _ _ h=>h.elim)
 hS:=h.hS
 hB:=h.hB
 EX:=Nat.le_trans h.EX hk.size
 h0:=h.h0}
theorem Dl.wrote(h:Dl w0 S g b c B0 B1 len P d As w T' L Aq nq cq q)(hk:Kept (fun k=>k=b) w w')(ht:TV w' S g A9 d b c L'):Dl w0 S g b c B0 B1 len P d As w' A9 L' Aq nq cq q:= {
 tv:=ht
 rs:=Row.aK h.rs hk (fun k e e2=>by have:=(Row.bS h.rs e).1;have:=h.hS b h.tv.fg;omega)
 sb:=h.sb
 rq:=Row.aK h.rq hk (fun k e e2=>by have:=(Row.bS h.rq e).1;have:=h.hS b h.tv.fg;have:=h.hB;omega)
 kp:=h.kp.trans hk (fun k _ e=>by rw [e];exact h.tv.fg)
 hS:=h.hS
 hB:=h.hB
 EX:=Nat.le_trans h.EX hk.size
 h0:=h.h0}
theorem Dl.Ah(h:Dl w0 S g b c B0 B1 len P d As w T' L Aq nq cq q){j:Nat}(hj:j<len){k:Int->Prop}(hk:k (sz P j)):
 Is As fun a=>∃t,w.cell? (a.add (j*1))=some (.int .u64 t)/\k t:=by
 have hr:=h.rs;obtain⟨b',rfl⟩:=Row.some hr (by omega);exact⟨_,by rw [kZ,Nat.mul_one];exact Row.cell hr (ns _ hj),hk⟩
theorem Dl.Ng(h:Dl w0 S g b c B0 B1 len P d As w T' L Aq nq cq q){j x:Nat}(hj:q[j]? =some x){k:Int->Prop}(hk:k x):
 Is Aq fun a=>∃t,w.cell? (a.add (j*1))=some (.int .i64 t)/\k t:=by
 have hr:=h.rq;have cJ:=(lgeS hj).1;obtain⟨b',rfl⟩:=Row.some hr (by rw [h.Gl];omega);exact⟨_,by rw [kZ,Nat.mul_one];exact Row.cell hr (xp hj),hk⟩
theorem Dl.push(h:Dl w0 S g b c B0 B1 len P d As w T' L Aq nq cq q)(Ce:q.length<=4000000)(x:Nat){w1:World}(e1:w1=w.alloc (.cells #[.int .i64 (x:Int)] fC)):
 ∃F8 F0 w2,(Builtin.append_ #[iA,iA] iA #[.slice Aq nq cq,.slice (some ⟨w.heap.size,0,none⟩) 1 1]).run prog w1=.ok (.slice F8 (nq+1) F0) w2/\
  Dl w0 S g b c B0 B1 len P d As w2 T' L F8 (nq+1) F0 (q++ [x])/\(∀S0:Nat->Prop,(∀k,bp Aq=some k->S0 k)->Kept S0 w w2):=by
 subst e1;generalize FG:w.alloc (.cells #[.int .i64 (x:Int)] fC)=w1;have nO:w1.heap[w.heap.size]? =some (.cells #[.int .i64 (x:Int)] fC (0,0)):=by rw [<-FG];exact aR w _
 have k1:Kept Nil w w1:=by rw [<-FG];exact(Kept.refl Nil w).alloc _
 have h1:=h.quiet k1;have Mn:=h.Gl;obtain⟨A',c',w2,hr,fV,hg,Cp⟩:=iu (P:=prog) (t:=iA) (ty:=iA) HX h1.rq (a:=⟨w.heap.size,0,none⟩) (m:=1) (cx:=1)
  (news:=ints [x]) rfl (fun j u hj=>by rw [kZ,aD nO];simpa [ints]using hj) (Ei _) (by omega) (by unfold maxLen;omega) h1.EX
 have kA:Kept (fun k=>bp Aq=some k) w1 w2:=(Kept.refl _ w1).grown hg (fun k hk _=>hk);have iK:∀k,bp Aq=some k->B1<=k:=fun k e=>(Row.bS h.rq e).1;refine⟨A',c',w2,hr,?_,fun S0 h0=>(k1.mono (S':=S0) (fun _ _ h=>h.elim)).trans kA (fun k _ e=>h0 k e)⟩;exact {
  tv:=h1.tv.aK kA (fun k hk e=>by have:=h.hS k hk;have:=iK k e;have:=h.hB;omega)
  rs:=Row.aK h1.rs kA (fun k e e2=>by have:=h.sb k e;have:=iK k e2;omega)
  sb:=h.sb
  rq:=by simpa [ints]using fV
  kp:=(h.kp.trans k1 (fun _ _ h=>h.elim)).trans kA (fun k hk e=>absurd (iK k e) (by have:=h.hB;have:=h.h0;omega))
  hS:=h.hS
  hB:=h.hB
  EX:=Nat.le_trans h1.EX kA.size
  h0:=h.h0}
theorem zw{T0 T1:List Nd}{x:Nat}{xd:Nd}{half:Nat}{spare i:Int}{Rr:Option Addr}{Rw:Nat}{Qo:aM}
 (D:Dl w0 S g b c B0 B1 T0.length (bH T0) d As w T1 L Aq nq cq q) (hS:Shape T0) (RN:jS T0 T1) (hlen:T0.length<=1000000) (Mn:q.length<=1000000)
 (hx:T1[x]? =some xd) (xw:xd.free=xd.lo) (RX:0<=xd.lo) (Zj:xd.hi<=4611686018427387904) (AO:(half:Int)*2<=xd.hi-xd.lo-((sz (bH T0) x:Int)-1))
 (CS:u64.wrap (spare.tdiv 2)=(half:Int)) (VJ:Row w 0 fC 1 Rr xd.ch.length Rw (ints xd.ch)) (Qd:∀k,bp Rr=some k->S k/\k≠b)
 (hex:∀w' A9 f L' F8 F0,Dl w0 S g b c B0 B1 T0.length (bH T0) d As w' A9 L' F8 (nq+xd.ch.length) F0 (q++xd.ch)->nX (bH T0) T1 x xd half xd.ch.length A9 f->
   Qo .normal [(0,.pointer (some ⟨g,0,none⟩)),(4,.slice As T0.length T0.length),(5,.slice F8 (nq+xd.ch.length) F0),(6,.int .i64 (i64.wrap (i+1)))] w'):
 Holds none [] prog 164 (.loop (lB (bB (cR (bB (sL (sR (lB (bB (cR (sR (body ay.fn)))))))))))) (ay.q3 Qo) (ay.e3 (some ⟨g,0,none⟩) As T0.length T0.length i x spare Rr xd.ch.length Rw xd.ch.length (Aq,nq,cq,0)) w:=by
 have hP:=hS.par;have rN:=dF T0;have mR:xd.ch=kids (bH T0) x:=by
  have:=(RN.shape hS).ch x xd hx
  rwa [RN.bH]at this
 have sJ:x<T0.length:=by rw [<-RN.len];exact(lgeS hx).1
 have GZ:xd.ch.Pairwise (· < ·):=by rw [mR];exact qS _ _
 have xu:∀y,y∈xd.ch->x<y:=fun y hy=>(gR hP (mR▸hy)).1;have Qc:xd.ch.length<=1000000:=by rw [mR];exact Nat.le_trans (xh _ _) (by omega)
 have En:(xd.ch.map (sz (bH T0))).sum+1=sz (bH T0) x:=by rw [mR];exact z7 hP (by omega)
 have km:=rY hP (n:=x) (by omega);have Ua:=uA (P:=bH T0) x;have hnq:=D.Gl;refine ay.wX (I:=fun s w'=>∃(k:Nat) (T':List Nd) (f:Int) (L':List (Nd×Value)) (F8:Option Addr) (F0:Nat),s=(F8,nq+k,F0,(k:Int))/\k<=xd.ch.length/\
  Dl w0 S g b c B0 B1 T0.length (bH T0) d As w' T' L' F8 (nq+k) F0 (q++xd.ch.take k)/\nX (bH T0) T1 x xd half k T' f/\Row w' 0 fC 1 Rr xd.ch.length Rw (ints xd.ch))
  (μ:=fun s _=>((xd.ch.length:Int)-s.2.2.2).toNat) (s:=(Aq,nq,cq,0)) ⟨0,T1,xd.lo,L,Aq,cq,rfl,Nat.zero_le _,by simpa using D,nX.start hx xw,VJ⟩ ?_
 rintro s w' ⟨k,T',f,L',F8,F0,rfl,hk,D',gK,hr⟩;refine Split.dec (fun cJ=>?_) (fun iK=>?_)
 ·simp only at cJ
  have C0:k<xd.ch.length:=by omega
  obtain⟨ci,R9⟩:∃ci,xd.ch[k]? =some ci:=⟨_,List.getElem?_eq_getElem C0⟩;have mI:ci∈xd.ch:=List.mem_of_getElem? R9;have Zv:ci∈kids (bH T0) x:=mR▸mI;have vF:ci<T0.length:=by have:=(gR hP Zv).2;omega
  have hxc:=xu ci mI;have CU:=rY hP (n:=ci) (by omega);have abW:=uA (P:=bH T0) ci;have Oz:=RN.trans gK.mi;obtain⟨cd,iQ⟩:=eQ (T:=T') (i:=ci) (by rw [Oz.len];exact vF);have Qb:cd.parent=x:=by
   have h1:=jK iQ;rw [Oz.bH,dG.1 Zv]at h1;exact(Option.some.inj h1).symm
  have Ud:sz (bH T0) ci<=sz (bH T0) x:=by
   have:=JN (l:=xd.ch.map (sz (bH T0))) (a:=sz (bH T0) ci) (List.mem_map.2 ⟨ci,mI,rfl⟩);omega
  have Qk:0<=(ci:Int)/\(ci:Int)<(T0.length:Int):=⟨by omega,by omega⟩;have jw:0<=(x:Int)/\(x:Int)<(T0.length:Int):=⟨by omega,by omega⟩;have Vk:half<4611686018427387904:=by omega
  obtain⟨bch,VW⟩:=Row.some hr (by omega);subst VW;refine⟨⟨by simp only;omega,by simp only;omega⟩,_,by simp only [kZ,Int.toNat_natCast,Nat.mul_one];exact Row.cell hr (xp R9),by decide,Qk,D'.Ah vF ?_⟩;rw [CS];refine uh half (sz (bH T0) ci) (by omega) (by omega) ⟨_,_,rfl,jw,D'.Ah sJ ?_⟩;have Pd:(half*sz (bH T0) ci/18446744073709551616)*18446744073709551616+half*sz (bH T0) ci%18446744073709551616=half*sz (bH T0) ci:=Nat.div_add_mod' _ _;have Vj:half*sz (bH T0) ci/18446744073709551616<sz (bH T0) x:=by
   have:half*sz (bH T0) ci<18446744073709551616*sz (bH T0) ci:=Nat.mul_lt_mul_of_pos_right (by omega) CU;have:half*sz (bH T0) ci/18446744073709551616<sz (bH T0) ci:=Nat.div_lt_of_lt_mul this;omega
  refine um _ _ (sz (bH T0) x) (Nat.mod_lt _ (by omega)) (by omega) Vj fun r w90 Yg=>?_;rw [Pd];generalize hm:half*sz (bH T0) ci/sz (bH T0) x=more;have Y2:more*sz (bH T0) x<=half*sz (bH T0) ci:=by rw [<-hm];exact Nat.div_mul_le_self _ _
  have acE:more<=half:=by
   rw [<-hm];apply Nat.div_le_of_le_mul;rw [Nat.mul_comm];exact Nat.mul_le_mul_right _ Ud
  have Xo:=D'.quiet Yg;have Un:=Row.aK hr Yg (fun _ _ h=>h);refine⟨_,_,rfl,Qk,Xo.Ah vF ?_⟩;rw [dX (x:=(sz (bH T0) ci:Int)+(more:Int)) (by omega) (by omega)];have FV:=gK.bound (by omega) km (by
   have h1:(((xd.ch.take k).map (sz (bH T0))).sum)<=(xd.ch.map (sz (bH T0))).sum:=by
    conv=>rhs;rw [<-List.take_append_drop k xd.ch,List.map_append,List.sum_append]
    omega
   omega)
  have oz:=gK.lo;have h1:(((xd.ch.take k).map (sz (bH T0))).sum)<=(xd.ch.map (sz (bH T0))).sum:=by
   conv=>rhs;rw [<-List.take_append_drop k xd.ch,List.map_append,List.sum_append]
   omega
  refine rW Xo.tv iQ gK.here Qb (by omega) (by simp only;omega) (by omega) (by simp only;omega) fun w96 L96 h96 Yf=>⟨rfl,?_⟩;have D96:=Xo.wrote Yf h96;have Ul:=Row.aK Un Yf (fun k e e2=>(Qd k e).2 e2);intro w97;have T9:(xd.ch.take k).length<=1000000:=by rw [List.length_take];omega
  obtain⟨MR,MG,LW,Uh,D99,RC⟩:=D96.push (by rw [List.length_append];omega) ci (w1:=w97) rfl;have Uk:=Row.aK Ul (RC (fun k=>B1<=k) (fun k e=>(Row.bS D96.rq e).1)) (fun k e e2=>by have:=D.hS k (Qd k e).1;have:=D.hB;omega);refine⟨MR,_,MG,LW,Uh,?_⟩;rw [iI (x:=(k:Int)+1) (by omega) (by omega)];refine⟨(MR,nq+(k+1),MG,((k+1:Nat):Int)),rfl,⟨k+1,_,_,L96,MR,MG,rfl,C0,?_,gK.step (more:=(more:Int)) GZ xu R9 iQ (by omega) ?_ CU,Uk⟩,by simp only;omega⟩
  ·rw [mc R9,<-List.append_assoc]
   exact D99
  ·have:((more*sz (bH T0) x:Nat):Int)<=((half*sz (bH T0) ci:Nat):Int):=by omega
   rwa [Int.natCast_mul,Int.natCast_mul]at this
 ·simp only at iK
  have:k=xd.ch.length:=by omega
  subst this;rw [aX,ay.Dc];rw [List.take_length]at D';exact hex w' T' f L' F8 F0 D' gK
end
theorem DL:∀(n:Nat) (q:List Nat),q.Nodup->(∀y,y∈q->y<n)->q.length<=n:=by
 intro n
 induction n with
 |zero=>
  intro q _ h;cases q with
  |nil=>simp
  |cons a q=>exact absurd (h a (by simp)) (by omega)
 |succ n ih=>
  intro q hn h;by_cases hm:n∈q
  ·have h1:=List.length_erase_of_mem hm
   have h2:=ih (q.erase n) (hn.erase n) (fun y hy=>by
    have:=(List.Nodup.mem_erase_iff hn).1 hy;have:=h y this.2;omega)
   omega
  ·have:=ih q hn (fun y hy=>by
    have:=h y hy;have:y≠n:=fun e=>hm (e▸hy);omega)
   omega
section
variable{w0 w:World}{S:Nat->Prop}{g b c B0:Nat}{d:Int}{As:Option Addr}{L:List (Nd×Value)}{T:List Nd}{K:Value->World->Prop}
theorem zv{T0:List Nd}{m:Nat}{md:Nd}
 (htv:TV w S g T0 d b c L) (YO:Row w B0 eI 1 As T0.length T0.length (us (sz (bH T0)) T0.length)) (Pv:Kept S w0 w) (hSB:∀k,S k->k<B0) (Ot:w0.heap.size<=B0) (hBw:B0<=w.heap.size)
 (hS:Shape T0) (hlen:T0.length<=1000000) (AH:T0[m]? =some md) (h1:1<=md.lo) (h2:md.hi<=4611686018427387904) (h3:(sz (bH T0) m:Int)<=md.hi-md.lo+1)
 (hK:∀w' T' q i,nh w' S g T' d->lX (bH T0) T0 m T' q i->q.length<=i->Kept S w0 w'->K (.tuple #[]) w'):
 ay.cW (some ⟨g,0,none⟩) m As T0.length T0.length K w:=by
 have hP:=hS.par;have rN:=dF T0;have FO:m<T0.length:=(lgeS AH).1;unfold ay.cW;intro gY;have lQ:Kept Nil w gY:=(Kept.refl Nil w).alloc _;have nO:gY.heap[w.heap.size]? =some (.cells #[.int .i64 (m:Int)] fC (0,0)):=aR w _;have D35:Dl w0 S g b c B0 w.heap.size T0.length (bH T0) d As gY T0 L (some ⟨w.heap.size,0,none⟩) 1 1 [m]:= {
  tv:=htv.kept lQ
  rs:=Row.aK YO lQ (fun _ _ h=>h)
  sb:=fun k e=>by obtain⟨_,_,hc⟩:=Row.bS YO e;exact aZ hc
  rq:=Row.made (n:=1) (cur:= #[.int .i64 (m:Int)]) nO (Nat.le_refl _) rfl (by decide)
  kp:=Pv.trans lQ (fun _ _ h=>h.elim)
  hS:=hSB
  hB:=hBw
  EX:=lQ.size
  h0:=Ot}
 clear_value gY;generalize EX:w.heap.size=B1 at*;refine ay.iN (I:=fun s w'=>∃(i:Nat) (T':List Nd) (L':List (Nd×Value)) (Aq:Option Addr) (nq cq:Nat) (q:List Nat),s=(Aq,nq,cq,(i:Int))/\i<=q.length/\
  Dl w0 S g b c B0 B1 T0.length (bH T0) d As w' T' L' Aq nq cq q/\lX (bH T0) T0 m T' q i)
  (μ:=fun s _=>((T0.length:Int)-s.2.2.2).toNat) (s:=(some ⟨B1,0,none⟩,1,1,0)) ⟨0,T0,L,_,1,1,[m],rfl,Nat.zero_le _,D35,lX.start (by omega) AH h1 h2 h3⟩ ?_
 rintro s w' ⟨i,T',L',Aq,nq,cq,q,rfl,hi,D,hO⟩;have hnq:=D.Gl;have Mn:q.length<=T0.length:=DL _ _ hO.nodup (fun y hy=>by have:=(hO.mY y hy).lt;omega);refine Split.dec (fun cJ=>?_) (fun iK=>?_)
 ·simp only at cJ
  have fc:i<q.length:=by omega
  obtain⟨x,Uw⟩:∃x,q[i]? =some x:=⟨_,List.getElem?_eq_getElem fc⟩;have Ip:x∈q:=List.mem_of_getElem? Uw;have sJ:x<T0.length:=by have:=(hO.mY x Ip).lt;omega
  obtain⟨xd,FF⟩:=eQ (T:=T') (i:=x) (by rw [hO.mi.len];exact sJ);have qU:=hO.room x xd Ip FF;have km:=rY hP (n:=x) (by omega);have Ua:=uA (P:=bH T0) x;have hlT:T'.length=T0.length:=hO.mi.len;have jw:0<=(x:Int)/\(x:Int)<(T'.length:Int):=⟨by omega,by omega⟩;refine⟨⟨by simp only;omega,by simp only;omega⟩,D.Ng Uw ?_⟩;intro Dg;have MQ:=D.quiet (w':=Dg) (Kept.refl Nil w').drew;clear_value Dg;obtain⟨v,hv⟩:=MQ.tv.at_ FF;obtain⟨wr,ZS⟩:=MQ.tv.r5 hv (j:=4) (by omega) (u:=.int .u64 xd.lo) (nd':= {xd with free:=xd.lo}) rfl rfl;refine MQ.tv.go (MQ.tv.go ⟨jw,MQ.tv.sY hv ⟨jw,by rw [mW];exact wr,?_⟩⟩);intro Fz Df;have ZZ:Fz=Dg.setCell ⟨b,x*5+4,none⟩ (.int .u64 xd.lo):=by simp only [Fz,mW,Int.toNat_natCast]
  rw [<-ZZ]at ZS;have Mc:Kept (fun k=>k=b) Dg Fz:=by rw [ZZ];exact(Kept.refl (fun k=>k=b) Dg).setCell (p:=⟨b,x*5+4,none⟩) (fun _=>rfl) _
  have F7:=(MQ.wrote Mc ZS).quiet (w':=Df) (Kept.refl Nil Fz).drew;clear_value Df;have v1:(L'.set x ({xd with free:=xd.lo},v))[x]? =some ({xd with free:=xd.lo},v):=gI hv;obtain⟨Rr,Rw,hk⟩:=F7.tv.oX _ _ v1;have vZ:(T'.set x {xd with free:=xd.lo}).length=T'.length:=by simp
  have Le:0<=(x:Int)/\(x:Int)<((T'.set x {xd with free:=xd.lo}).length:Int):=by rw [vZ];exact jw
  have Sa:0<=(x:Int)/\(x:Int)<(T0.length:Int):=⟨by omega,by omega⟩;refine F7.tv.go ⟨Le,F7.tv.xF v1 (F7.tv.go ⟨Le,F7.tv.sY v1 ⟨Sa,F7.Ah sJ (F7.tv.go ⟨Le,F7.tv.QU v1 hk.val ?_⟩)⟩⟩)⟩;have Uc:jS T0 (T'.set x {xd with free:=xd.lo}):=hO.mi.trans (jS.set (nd':= {xd with free:=xd.lo}) FF rfl rfl);simp only;obtain⟨cur,Mz⟩:=F7.tv.tC;generalize hhf:((xd.hi-xd.lo-((sz (bH T0) x:Int)-1)).toNat /2)=half;refine zw (half:=half) (xd:= {xd with free:=xd.lo}) F7 hS Uc hlen (by omega) (gI FF) rfl (by simp only;omega) (by simp only;omega) (by simp only;omega) ?_ hk.row (fun k e=>⟨hk.jf k e,fun e2=>hk.ne Mz (by decide) (by rw [e,e2])⟩) ?_
  ·rw [dX (x:=xd.hi-xd.lo) (by omega) (by omega),dX (x:=(sz (bH T0) x:Int)-1) (by omega) (by omega),dX (x:=xd.hi-xd.lo-((sz (bH T0) x:Int)-1)) (by omega) (by omega),
    Int.tdiv_eq_ediv_of_nonneg (by omega),dX (by omega) (by omega)]
   omega
  ·intro w2 T2 f L2 MR MG D2 gK
   rw [iI (x:=(i:Int)+1) (by omega) (by omega)];refine⟨(MR,nq+xd.ch.length,MG,((i+1:Nat):Int)),rfl,⟨i+1,T2,L2,MR,_,MG,q++xd.ch,rfl,by rw [List.length_append];omega,D2,hO.step hS Uw FF (by omega) (by omega) gK⟩,by simp only;omega⟩
 ·simp only at iK
  rw [aX,ay.lL];exact hK w' T' q i ⟨_,_,_,D.tv⟩ hO (by omega) D.kp
theorem TV.S5(h:TV w S g T d b c L)(d':Int):Wr w ⟨g,1,none⟩/\TV (w.setCell ⟨g,1,none⟩ (.int .i64 d')) S g T d' b c L:=by
 have kG:Kept (fun k=>k=g) w (w.setCell ⟨g,1,none⟩ (.int .i64 d')):=(Kept.refl (fun k=>k=g) w).setCell (p:=⟨g,1,none⟩) (fun _=>rfl) _;refine⟨dK h.top (show 1<2 by omega),?_⟩;exact {
  top:=by
   have:=cX h.top 1 (.int .i64 d');simpa using this
  fst:=h.fst
  row:=Row.aK h.row kG (fun k e e2=>h.gb (by cases e;exact e2.symm))
  oX:=fun i p hp=>by
   obtain⟨A,m,hk⟩:=h.oX i p hp;exact⟨A,m,hk.val,Row.aK hk.row kG (fun k e e2=>hk.ne h.top (by decide) (by rw [e,e2])),hk.jf⟩
  apart:=h.apart
  fZ:=h.fZ
  fg:=h.fg}
set_option maxRecDepth 100000 in
theorem Bs(h:nh w S g T d)(hS:Shape T)(hlen:T.length<=1000000){p:Nat}(hp:p<T.length)(hd:0<=d/\d<=1000000)
 (OF:∀nd,T[0]? =some nd->nd.lo=1/\nd.hi=4611686018427387904)
 (R0:∀y nd,T[y]? =some nd->jh (bH T) p y->Iv nd)
 (hK:∀w' T' m q i,nh w' S g T' (d+1)->jh (bH T) p m->lX (bH T) T m T' q i->q.length<=i->Kept S w w'->K (.tuple #[]) w'):
 bm prog ay.id #[.pointer (some ⟨g,0,none⟩),.int .i64 p] w K:=by
 have hP:=hS.par;have rN:=dF T;obtain⟨b,c,L,h⟩:=h;have hb:=h.bound;obtain⟨wr,h6⟩:=hb.S5 (d+1);refine ay.of (h.goD ⟨by rw [kZ];exact wr,?_⟩);intro w6;have e6:w6=w.setCell ⟨g,1,none⟩ (.int .i64 (d+1)):=by simp only [w6,kZ,iI (x:=d+1) (by omega) (by omega)]
 rw [<-e6]at h6;have k6:Kept (fun k=>S k/\k<w.heap.size) w w6:=by rw [e6];exact(Kept.refl _ w).setCell (p:=⟨g,1,none⟩) (fun _=>hb.fZ) _
 have Mm:w.heap.size=w6.heap.size:=by rw [e6];simp
 clear_value w6;refine yp ⟨_,_,_,h6⟩ hP hlen fun w8 As Gj k8=>⟨_,_,_,rfl,?_⟩;have h8:=h6.kept k8;refine ay.cf (I:=fun s w'=>∃m:Nat,s=(m:Int)/\jh (bH T) p m/\Kept Nil w8 w') (μ:=fun s _=>s.toNat) (s:=(p:Int)) ⟨p,rfl,.refl (by omega),Kept.refl _ _⟩ ?_;rintro s w' ⟨m,rfl,hu,kw⟩;have FO:m<T.length:=by have:=hu.Rx;omega
 obtain⟨md,AH⟩:=eQ FO;have hm:=R0 m md AH hu;have IJ:=hm.Tj;have Y8:=hm.le;have Y7:=hm.top;unfold ay.B1;intro p6;have Mg:Kept Nil w8 p6:=kw.drew;have yf:=h8.kept Mg;have Ag:=Row.aK Gj Mg (fun _ _ h=>h);have oF:=jK AH;have abS:=uA (P:=bH T) m;have ER:0<=(m:Int)/\(m:Int)<(T.length:Int):=⟨by omega,by omega⟩;obtain⟨v,hv⟩:=yf.at_ AH;have done:(sz (bH T) m:Int)<=md.hi-md.lo+1->ay.q1 K (.exit 0) [(0,.pointer (some ⟨g,0,none⟩)),(1,.int .i64 m),(4,.slice As T.length T.length)] p6:=by
  intro qU;rw [ay.dA];have Yi:Kept (fun k=>S k/\k<w.heap.size) w p6:=(k6.trans k8 (fun _ _ h=>h.elim)).trans Mg (fun _ _ h=>h.elim);refine zv yf (B0:=w.heap.size) (Row.base Ag (fun k e=>by rw [Mm];exact(Row.bS Ag e).1)) Yi (fun k h=>h.2) (Nat.le_refl _) Yi.size hS hlen AH IJ Y7 qU ?_;intro w2 T2 q i h2 hO hq k2;exact hK w2 T2 m q i (h2.mono (fun k h=>h.1)) hu hO hq (k2.mono (fun k _ h=>h.1))
 refine yf.go ⟨ER,yf.E5 hv (Split.dec (fun km=>?_) (fun acx=>?_))⟩
 ·obtain⟨bs,Sa⟩:=Row.some Ag (by omega)
  subst Sa;refine yf.go ⟨ER,yf.xF hv (yf.go ⟨ER,yf.sY hv ⟨by decide,ER,_,by rw [kZ,Int.toNat_natCast,Nat.mul_one];exact Row.cell Ag (ns _ FO),?_⟩⟩)⟩;rw [dX (x:=md.hi-md.lo) (by omega) (by omega),dX (x:=md.hi-md.lo+1) (by omega) (by omega),Int.tdiv_eq_ediv_of_nonneg (by omega),dX (x:=(md.hi-md.lo+1)/4) (by omega) (by omega)];refine Split.dec (fun cJ=>?_) (fun iK=>?_)
  ·have Mv:0<m:=by
    rcases Nat.eq_zero_or_pos m with rfl|h
    ·rw [hP.root]at oF;have:=Option.some.inj oF;omega
    ·exact h
   obtain⟨z,hz,ez⟩:=hP.up m _ Mv oF;refine yf.go ⟨ER,yf.E5 hv ?_⟩;rw [ez];exact⟨(z:Int),rfl,⟨z,rfl,hu.trans (.step (by rw [oF,ez]) (.refl (by omega))),Mg⟩,by simp only;omega⟩
  ·rw [aX]
   exact done (by omega)
 ·have Mv:m=0:=by
   rcases Nat.eq_zero_or_pos m with h|h
   ·exact h
   ·obtain⟨z,_,ez⟩:=hP.up m _ h oF
    omega
  subst Mv;have:=OF md AH;rw [aX];exact done (by omega)
end
structure ux(T:List Nd):Prop extends Good T where
 root:∀nd,T[0]? =some nd->nd.lo=1/\nd.hi=4611686018427387904
theorem yB:ux oJ:=by
 have fp:∀(i:Nat) nd,oJ[i]? =some nd->i=0/\nd=⟨-1,[],1,4611686018427387904,1⟩:=by
  intro i nd h;cases i with
  |zero=>simp [oJ]at h;exact⟨rfl,h.symm⟩
  |succ i=>simp [oJ]at h
 exact {
  par:=⟨rfl,fun i p hi h=>by
   cases i with
   |zero=>omega
   |succ i=>simp [bH,oJ]at h⟩
  ch:=fun i nd h=>by
   obtain⟨rfl,rfl⟩:=fp i nd h;simp [kids,bH,oJ]
  iv:=fun i nd h=>by
   obtain⟨rfl,rfl⟩:=fp i nd h;exact⟨by decide,by decide,by decide⟩
  loc:=fun i nd h=>by
   obtain⟨rfl,rfl⟩:=fp i nd h;exact⟨by decide,by decide,fun c cd hc=>by simp at hc,fun c c' cd tw hc=>by simp at hc⟩
  root:=fun nd h=>by
   obtain⟨_,rfl⟩:=fp 0 nd h;exact⟨rfl,rfl⟩}
section
variable{T:List Nd}{p:Nat}{pd:Nd}
theorem CH(hp:T[p]? =some pd)(i:Nat):(added T p pd)[i]? =if i=p then some {pd with ch:=pd.ch++ [T.length],free:=pd.free+im pd}else if i=T.length then some ⟨p,[],pd.free,pd.free+im pd-1,pd.free⟩else T[i]? :=by
 have cJ:p<T.length:=(lgeS hp).1;unfold added;rw [uZ (by rw [iE hp,if_neg (by omega),if_pos rfl]) (by rw [iE hp,if_pos rfl]) (by omega),iE hp];split
 ·rfl
 ·split
  ·rfl
  ·rfl
theorem tG(hp:T[p]? =some pd):jS (grown T p pd) (added T p pd):=by
 have cJ:p<T.length:=(lgeS hp).1;exact sU _ (by rw [iE hp,if_neg (by omega),if_pos rfl]) (by rw [iE hp,if_pos rfl]) (by omega)
theorem Shape.LG(h:Shape T){i:Nat}{nd:Nd}(hi:T[i]? =some nd){c:Nat}(hc:c∈nd.ch):i<c/\c<T.length:=by
 rw [h.ch i nd hi]at hc;have:=gR h.par hc
 rwa [dF]at this
theorem ux.added(h:ux T)(hp:T[p]? =some pd)(qU:pd.free<pd.hi):ux (added T p pd):=by
 have cJ:p<T.length:=(lgeS hp).1;have fp:=CH hp;have Km:=h.iv p pd hp;have i1:=Km.Tj;have i2:=Km.le;have i3:=Km.top;have lp:=h.loc p pd hp;have l1:=lp.C8;have l2:=lp.zt;have hh1:1<=im pd:=by unfold im;omega
 have hh2:pd.free+im pd<=pd.hi:=by unfold im;omega
 have hold:∀(c:Nat) cd,c<T.length->(Go.Proofs.YtfleamccglihoaaGreatDoor.Tr.added T p pd)[c]? =some cd->∃ed,T[c]? =some ed/\ed.lo=cd.lo/\ed.hi=cd.hi:=by
  intro c cd hc iQ;rw [fp]at iQ;by_cases e:c=p
  ·subst e
   rw [if_pos rfl]at iQ;cases iQ;exact⟨pd,hp,rfl,rfl⟩
  ·rw [if_neg e,if_neg (by omega)]at iQ
   exact⟨cd,iQ,rfl,rfl⟩
 have nO:∀cd,(Go.Proofs.YtfleamccglihoaaGreatDoor.Tr.added T p pd)[T.length]? =some cd->cd=⟨p,[],pd.free,pd.free+im pd-1,pd.free⟩:=by
  intro cd iQ;rw [fp,if_neg (by omega),if_pos rfl]at iQ;exact(Option.some.inj iQ).symm
 have aK:∀(i:Nat) nd,T[i]? =some nd->Loc (Go.Proofs.YtfleamccglihoaaGreatDoor.Tr.added T p pd) nd:=by
  intro i nd hi;have hl:=h.loc i nd hi;have hc:=fun c hc=>(h.toShape.LG hi (c:=c) hc).2;exact {
   C8:=hl.C8
   zt:=hl.zt
   sub:=fun c cd mI iQ=>by
    obtain⟨ed,h1,h2,h3⟩:=hold c cd (hc c mI) iQ;have:=hl.sub c ed mI h1;omega
   ord:=fun c c' cd tw mI mQ xy iQ o5=>by
    obtain⟨ed,h1,h2,h3⟩:=hold c cd (hc c mI) iQ;obtain⟨LF,qV,sS,AT⟩:=hold c' tw (hc c' mQ) o5;have:=hl.ord c c' ed LF mI mQ xy h1 qV;omega}
 have hs:=(tG hp).shape (h.toShape.grown hp);refine {toShape:=hs,iv:=?_,loc:=?_,root:=?_}
 ·intro i nd hi
  rw [fp]at hi;by_cases e:i=p
  ·rw [if_pos e]at hi
   cases hi;exact⟨i1,i2,i3⟩
  ·rw [if_neg e]at hi
   by_cases e2:i=T.length
   ·rw [if_pos e2]at hi
    cases hi;exact⟨by simp only;omega,by simp only;omega,by simp only;omega⟩
   ·rw [if_neg e2]at hi
    exact h.iv i nd hi
 ·intro i nd hi
  rw [fp]at hi;by_cases e:i=p
  ·rw [if_pos e]at hi
   cases hi;have kp:=aK p pd hp;have hc:=fun c hc=>(h.toShape.LG hp (c:=c) hc).2;exact {
    C8:=by simp only;omega
    zt:=hh2
    sub:=fun c cd mI iQ=>by
     simp only at mI;rcases List.mem_append.1 mI with mI|mI
     ·have:=kp.sub c cd mI iQ
      simp only;omega
     ·simp at mI
      subst mI;have:=nO cd iQ;subst this;simp only;omega
    ord:=fun c c' cd tw mI mQ xy iQ o5=>by
     simp only at mI mQ;rcases List.mem_append.1 mI with mI|mI
     ·rcases List.mem_append.1 mQ with mQ|mQ
      ·exact kp.ord c c' cd tw mI mQ xy iQ o5
      ·simp at mQ
       subst mQ;have:=nO tw o5;subst this;exact(kp.sub c cd mI iQ).2
     ·simp at mI
      rcases List.mem_append.1 mQ with mQ|mQ
      ·have:=hc c' mQ
       omega
      ·simp at mQ
       omega}
  ·rw [if_neg e]at hi
   by_cases e2:i=T.length
   ·rw [if_pos e2]at hi
    cases hi;exact⟨by simp only;omega,by simp only;omega,fun c cd hc=>by simp at hc,fun c c' cd tw hc=>by simp at hc⟩
   ·rw [if_neg e2]at hi
    exact aK i nd hi
 ·intro nd hi
  obtain⟨ed,h1,h2,h3⟩:=hold 0 nd h.toShape.pos hi;have:=h.root ed h1;omega
theorem ux.Fc(h:ux T)(hp:T[p]? =some pd){m i:Nat}{T':List Nd}{q:List Nat}(hu:jh (bH (grown T p pd)) p m)
 (hO:lX (bH (grown T p pd)) (grown T p pd) m T' q i) (hq:q.length<=i):ux T':=by
 have cJ:p<T.length:=(lgeS hp).1;have fp:=iE hp;have hS:=h.toShape.grown hp;have hP:=hS.par;have hold:∀(c:Nat) cd,c<T.length->(grown T p pd)[c]? =some cd->∃ed,T[c]? =some ed/\ed.lo=cd.lo/\ed.hi=cd.hi:=by
  intro c cd hc iQ;rw [fp]at iQ;by_cases e:c=p
  ·subst e
   rw [if_pos rfl]at iQ;cases iQ;exact⟨pd,hp,rfl,rfl⟩
  ·rw [if_neg e,if_neg (by omega)]at iQ
   exact⟨cd,iQ,rfl,rfl⟩
 have Ms:(bH (grown T p pd))[T.length]? =some (p:Int):=by
  rw [kV hp,List.getElem?_append_right (by rw [dF];exact Nat.le_refl _)];simp [dF]
 have iP:=lX.fin hS hO hq (fun y nd hy hn=>by
  rw [fp]at hy;have e:y≠p:=fun e=>hn (e▸hu);rw [if_neg e]at hy;have e2:y≠T.length:=fun e=>hn (e▸ .step Ms hu);rw [if_neg e2]at hy;refine⟨h.iv y nd hy,?_⟩;have hl:=h.loc y nd hy;have hc:=fun c hc=>(h.toShape.LG hy (c:=c) hc).2;exact {
   C8:=hl.C8
   zt:=hl.zt
   sub:=fun c cd mI iQ=>by
    obtain⟨ed,h1,h2,h3⟩:=hold c cd (hc c mI) iQ;have:=hl.sub c ed mI h1;omega
   ord:=fun c c' cd tw mI mQ xy iQ o5=>by
    obtain⟨ed,h1,h2,h3⟩:=hold c cd (hc c mI) iQ;obtain⟨LF,qV,sS,AT⟩:=hold c' tw (hc c' mQ) o5;have:=hl.ord c c' ed LF mI mQ xy h1 qV;omega})
 refine {toGood:=iP,root:=fun nd hi=>?_};obtain⟨gd,Vo,_⟩:=hO.mi.back hi;obtain⟨ed,h1,h2,h3⟩:=hold 0 gd h.toShape.pos Vo;have hr:=h.root ed h1;by_cases hm:0∈q
 ·have:=(hO.mY 0 hm).le hP
  have Mv:m=0:=by omega
  subst Mv;have:=hO.top gd nd Vo hi;omega
 ·rw [hO.rest 0 hm,Vo]at hi
  cases hi;omega
end
section
variable{w:World}{S:Nat->Prop}{g:Nat}{T:List Nd}{d:Int}{K:Value->World->Prop}
theorem Dq(h:nh w S g T d)(hF:ux T){p:Nat}(hp:p<T.length)(hlen:T.length<=900000)(hd:0<=d/\d<=900000)
 (hK:∀w' S' T' d',nh w' S' g T' d'->ux T'->bH T'=bH T++ [(p:Int)]->d<=d'/\d'<=d+1->Kept S w w'->(∀k,S' k->S k\/w.heap.size<=k)->K (.tuple #[.int .i64 T.length,.int .i64 0]) w'):
 bm prog fu.id #[.pointer (some ⟨g,0,none⟩),.int .i64 p] w K:=by
 obtain⟨pd,vz⟩:=eQ hp;have Km:=hF.iv p pd vz;have i1:=Km.Tj;have i2:=Km.le;have i3:=Km.top;have lp:=hF.loc p pd vz;have l1:=lp.C8;have l2:=lp.zt;have mR:pd.ch.length<=T.length:=by
  rw [hF.ch p pd vz];have:=xh (bH T) p
  rwa [dF]at this
 refine rX h vz (by omega) (by omega) (by omega) l2 i3 (fun qU w' S' h' k' f'=>?_) (fun Zp w' S' h' k' f'=>?_)
 ·exact hK w' S' _ d h' (hF.added vz qU) (by rw [(tG vz).bH,kV vz]) ⟨by omega,by omega⟩ k' f'
 ·have hS:=hF.toShape.grown vz
  have fp:=iE vz;have oF:=hS.par;refine Bs h' hS (by rw [uY];omega) (by rw [uY];omega) ⟨hd.1,by omega⟩ (fun nd hi=>?_) (fun y nd hy hu=>?_) (fun w2 T2 m q i h2 hu hO hq k2=>⟨rfl,?_⟩)
  ·rw [fp]at hi
   by_cases e:0=p
   ·rw [if_pos e]at hi
    cases hi;exact hF.root pd (by rw [e];exact vz)
   ·rw [if_neg e,if_neg (by omega)]at hi
    exact hF.root nd hi
  ·have:=hu.le oF
   rw [fp]at hy;by_cases e:y=p
   ·rw [if_pos e]at hy
    cases hy;exact⟨i1,i2,i3⟩
   ·rw [if_neg e,if_neg (by omega)]at hy
    exact hF.iv y nd hy
  ·refine hK w2 S' T2 (d+1) h2 (hF.Fc vz hu hO hq) (by rw [hO.mi.bH,kV vz]) ⟨by omega,by omega⟩ ?_ f'
   exact k'.trans k2 (fun k hk hs=>by
    rcases f' k hs with h|h
    ·exact h
    ·omega)
end
def zs(l:List Int):List Value:=l.map fun x=>.int .i64 x
section
variable{w w':World}{S S':Nat->Prop}{h:Nat}{P:List Int}{b c:Nat}{K:Value->World->Prop}
end
def gN(P:List Int)(n i:Nat):List Nat:=(List.range i).filter fun j=>P[j]? ==some (n:Int)
section
variable{w w':World}{S S':Nat->Prop}{h:Nat}{P:List Int}{b c:Nat}{K:Value->World->Prop}
end
section
variable{w w':World}{S S':Nat->Prop}{g:Nat}{T:List Nd}{d:Int}{K:Value->World->Prop}
end
end Go.Proofs.YtfleamccglihoaaGreatDoor.Tr
