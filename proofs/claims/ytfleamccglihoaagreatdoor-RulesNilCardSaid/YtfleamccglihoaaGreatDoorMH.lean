import Derived.Test.YtfleamccglihoaaGreatDoorMA
import Derived.Test.YtfleamccglihoaaGreatDoorMD
import Derived.Laws.OwnMore
import Derived.Test.YtfleamccglihoaaGreatDoorMG
import Derived.Laws.Bits64b
open Go.IntKind (i64 u64)
set_option linter.unusedVariables false
namespace Go.Proofs.YtfleamccglihoaaGreatDoor.Tr
open Go.Proofs.Tryz
open Go Go.bE Go.RowKit
structure Nd where
 parent:Int
 ch:List Nat
 lo:Int
 hi:Int
 free:Int
def iA(nd:Nd)(v:Value):List Value:= [.int .i64 nd.parent,v,.int .u64 nd.lo,.int .u64 nd.hi,.int .u64 nd.free]
def mQ(L:List (Nd×Value)):List Value:=L.flatMap fun p=>iA p.1 p.2
def ints(l:List Nat):List Value:=l.map fun x:Nat=>.int .i64 (x:Int)
theorem qU(L:List (Nd×Value)):(mQ L).length=L.length*5:=by
 induction L with
 |nil=>rfl
 |cons p L ih=>simp only [mQ,List.flatMap_cons,List.length_append,List.length_cons]at*;rw [ih];simp [iA];omega
theorem E8{L:List (Nd×Value)}{i:Nat}{p:Nd×Value}(h:L[i]? =some p){j:Nat}(hj:j<5):(mQ L)[i*5+j]? =(iA p.1 p.2)[j]? :=by
 induction L generalizing i with
 |nil=>simp at h
 |cons q L ih=>
  have hq:(iA q.1 q.2).length=5:=rfl;cases i with
  |zero=>
   simp at h;subst h;simp only [mQ,List.flatMap_cons];rw [Nat.zero_mul,Nat.zero_add,List.getElem?_append_left (by omega)]
  |succ i=>
   simp at h;have:=ih h;simp only [mQ,List.flatMap_cons]at*;rw [List.getElem?_append_right (by omega),hq,<-this]
   congr 1
   omega
theorem xC{L:List (Nd×Value)}{i:Nat}{p p':Nd×Value}(h:L[i]? =some p){j:Nat}(hj:j<5){v:Value}(hp:iA p'.1 p'.2=(iA p.1 p.2).set j v):
 (mQ L).set (i*5+j) v=mQ (L.set i p'):=by
 induction L generalizing i with
 |nil=>simp at h
 |cons q L ih=>
  have hq:(iA q.1 q.2).length=5:=rfl;cases i with
  |zero=>
   simp at h;subst h;simp only [mQ,List.flatMap_cons,List.set_cons_zero];rw [Nat.zero_mul,Nat.zero_add,List.set_append_left _ _ (by omega),hp]
  |succ i=>
   simp at h;have:=ih h;simp only [mQ,List.flatMap_cons,List.set_cons_succ]at*;rw [List.set_append_right _ _ (by omega),hq,<-this]
   congr 2
   omega
structure Rj(w:World)(S:Nat->Prop)(p:Nd×Value)(A:Option Addr)(m:Nat):Prop where
 val:p.2=.slice A p.1.ch.length m
 row:Row w 0 iN 1 A p.1.ch.length m (ints p.1.ch)
 jb:∀k,bm A=some k->S k
structure TV(w:World)(S:Nat->Prop)(g:Nat)(T:List Nd)(d:Int)(b c:Nat)(L:List (Nd×Value)):Prop where
 top:w.heap[g]? =some (.cells #[.slice (some ⟨b,0,none⟩) T.length c,.int .i64 d] q6 (0,0))
 fst:L.map Prod.fst=T
 row:Row w 0 iw 5 (some ⟨b,0,none⟩) T.length c (mQ L)
 oS:∀(i:Nat) (p:Nd×Value),L[i]? =some p->∃A m,Rj w S p A m
 apart:∀(i j:Nat) (p q:Nd×Value),L[i]? =some p->L[j]? =some q->i≠j->∀k,Value.ownBlock p.2=some k->Value.ownBlock q.2≠some k
 fX:S g
 fg:S b
def mZ(w:World)(S:Nat->Prop)(g:Nat)(T:List Nd)(d:Int):Prop:=∃b c L,TV w S g T d b c L
section
variable{w w':World}{S S':Nat->Prop}{g:Nat}{T:List Nd}{d:Int}{b c:Nat}{L:List (Nd×Value)}
theorem TV.at_(h:TV w S g T d b c L){i:Nat}{nd:Nd}(hi:T[i]? =some nd):∃v,L[i]? =some (nd,v):=by
 rw [<-h.fst,List.getElem?_map]at hi;cases hL:L[i]? with
 |none=>simp [hL]at hi
 |some p=>
  rw [hL]at hi;simp at hi;exact⟨p.2,by rw [<-hi]⟩
theorem TV.nodes(h:TV w S g T d b c L):w.cell? ⟨g,0,none⟩=some (.slice (some ⟨b,0,none⟩) T.length c):=by rw [aA h.top];rfl
theorem TV.Fb(h:TV w S g T d b c L):w.cell? ⟨g,1,none⟩=some (.int .i64 d):=by rw [aA h.top];rfl
theorem TV.cell(h:TV w S g T d b c L){i:Nat}{p:Nd×Value}(hi:L[i]? =some p){j:Nat}{v:Value}(hj:j<5)(hv:(iA p.1 p.2)[j]? =some v):w.cell? ⟨b,i*5+j,none⟩=some v:=
 Row.cell h.row (by rw [E8 hi hj,hv])
theorem TV.gb(h:TV w S g T d b c L):g≠b:=by
 rintro rfl;obtain⟨_,cur,hc⟩:=Row.bW h.row (k:=g) rfl;rw [h.top]at hc;injection hc with hc;injection hc with _ ht;exact absurd ht (by decide)
theorem Rj.ne{p:Nd×Value}{A:Option Addr}{m:Nat}(h:Rj w S p A m){k:Nat}{cs:Array Value}{t:TypeId}(hk:w.heap[k]? =some (.cells cs t (0,0)))(ht:t≠iN):bm A≠some k:=by
 intro e;obtain⟨_,cur,hc⟩:=Row.bW h.row e;rw [hk]at hc;injection hc with hc;injection hc with _ h2;exact ht h2
theorem TV.ti(h:TV w S g T d b c L):∃cur,w.heap[b]? =some (.cells cur iw (0,0)):=(Row.bW h.row rfl).2
theorem TV.aK{S0:Nat->Prop}(h:TV w S g T d b c L)(hk:Kept S0 w w')(hn:∀k,S k->¬S0 k):TV w' S g T d b c L:= {
 top:=hk.heap h.top (hn g h.fX)
 fst:=h.fst
 row:=Row.aK h.row hk (fun k e=>by cases e;exact hn b h.fg)
 oS:=fun i p hp=>let ⟨A,m,h1⟩:=h.oS i p hp;⟨A,m,h1.val,Row.aK h1.row hk (fun k e=>hn k (h1.jb k e)),h1.jb⟩
 apart:=h.apart
 fX:=h.fX
 fg:=h.fg}
theorem mZ.aK{S0:Nat->Prop}(h:mZ w S g T d)(hk:Kept S0 w w')(hn:∀k,S k->¬S0 k):mZ w' S g T d:=
 let ⟨b,c,L,h⟩:=h;⟨b,c,L,h.aK hk hn⟩
theorem mZ.same(h:mZ w S g T d)(hk:Kept Nil w w'):mZ w' S g T d:=h.aK hk fun _ _ h=>h
theorem TV.lt(h:TV w S g T d b c L):g<w.heap.size:=a7 h.top
theorem TV.rT(h:TV w S g T d b c L){i:Nat}{nd nd':Nd}{v:Value}(hi:L[i]? =some (nd,v)){j:Nat}(hj:j<5){u:Value}
 (hc:iA nd' v=(iA nd v).set j u) (mP:nd'.ch=nd.ch):
 Wr w ⟨b,i*5+j,none⟩/\TV (w.setCell ⟨b,i*5+j,none⟩ u) S g (T.set i nd') d b c (L.set i (nd',v)):=by
 have eV:i<L.length:=(lgeS hi).1;have cI:i*5+j<(mQ L).length:=by rw [qU];omega
 refine⟨Row.wr h.row cI,?_⟩;have fU:=Row.set h.row cI u;rw [xC hi hj (p':=(nd',v)) hc]at fU;have hK:Kept (fun k=>k=b) w (w.setCell ⟨b,i*5+j,none⟩ u):=(Kept.refl (fun k=>k=b) w).setCell (p:=⟨b,i*5+j,none⟩) (fun _=>rfl) u;have eA:∀(k:Nat) (p:Nd×Value),(L.set i (nd',v))[k]? =some p->∃q,L[k]? =some q/\q.2=p.2/\q.1.ch=p.1.ch:=by
  intro k p hp;rw [List.getElem?_set]at hp;by_cases e:i=k
  ·subst e
   rw [if_pos rfl,if_pos eV]at hp;cases hp;exact⟨_,hi,rfl,mP.symm⟩
  ·rw [if_neg e]at hp
   exact⟨p,hp,rfl,rfl⟩
 exact {
  top:=by rw [List.length_set];exact hK.heap h.top h.gb
  fst:=by rw [List.map_set,h.fst]
  row:=by rw [List.length_set];exact fU
  oS:=fun k p hp=>by
   obtain⟨q,hq,h1,h2⟩:=eA k p hp;obtain⟨A,m,hk⟩:=h.oS k q hq;obtain⟨cur,hb⟩:=h.ti;refine⟨A,m,by rw [<-h1,<-h2];exact hk.val,?_,hk.jb⟩;rw [<-h2];exact Row.aK hk.row hK (fun k e e2=>hk.ne hb (by decide) (by rw [e,e2]))
  apart:=fun k l p q hp hq CZ=>by
   obtain⟨p',G9,h1,_⟩:=eA k p hp;obtain⟨q',G6,h2,_⟩:=eA l q hq;rw [<-h1,<-h2];exact h.apart k l p' q' G9 G6 CZ
  fX:=h.fX
  fg:=h.fg}
end
theorem mU(b x y:Nat):((⟨b,0,none⟩:Addr).add x).add y=⟨b,x+y,none⟩:=by rw [bt,bt,Nat.zero_add]
theorem kX(b x:Nat):(⟨b,0,none⟩:Addr).add x=⟨b,x,none⟩:=by rw [bt,Nat.zero_add]
section
variable{w:World}{S:Nat->Prop}{g:Nat}{T:List Nd}{d:Int}{b c:Nat}{L:List (Nd×Value)}
theorem TV.go(h:TV w S g T d b c L){k:Option Addr->Nat->Nat->Prop}(hk:k (some ⟨b,0,none⟩) T.length c):
 ∃A n m,w.cell? ((⟨g,0,none⟩:Addr).add 0)=some (.slice A n m)/\k A n m:=⟨_,_,_,by rw [kX];exact h.nodes,hk⟩
theorem TV.goD(h:TV w S g T d b c L){k:Int->Prop}(hk:k d):∃t,w.cell? ((⟨g,0,none⟩:Addr).add 1)=some (.int .i64 t)/\k t:=
 ⟨_,by rw [kX];exact h.Fb,hk⟩
theorem TV.E5(h:TV w S g T d b c L){i:Nat}{nd:Nd}{v:Value}(hi:L[i]? =some (nd,v)){k:Int->Prop}(hk:k nd.parent):
 ∃t,w.cell? (((⟨b,0,none⟩:Addr).add (i*5)).add 0)=some (.int .i64 t)/\k t:=⟨_,by rw [mU];exact h.cell hi (by omega) rfl,hk⟩
theorem TV.QU(h:TV w S g T d b c L){i:Nat}{nd:Nd}{v:Value}(hi:L[i]? =some (nd,v)){A:Option Addr}{m:Nat}(hv:v=.slice A nd.ch.length m){k:Option Addr->Nat->Nat->Prop}(hk:k A nd.ch.length m):
 ∃A n m,w.cell? (((⟨b,0,none⟩:Addr).add (i*5)).add 1)=some (.slice A n m)/\k A n m:=⟨_,_,_,by rw [mU];exact h.cell hi (by omega) (by rw [hv];rfl),hk⟩
theorem TV.sM(h:TV w S g T d b c L){i:Nat}{nd:Nd}{v:Value}(hi:L[i]? =some (nd,v)){k:Int->Prop}(hk:k nd.lo):
 ∃t,w.cell? (((⟨b,0,none⟩:Addr).add (i*5)).add 2)=some (.int .u64 t)/\k t:=⟨_,by rw [mU];exact h.cell hi (by omega) rfl,hk⟩
theorem TV.xz(h:TV w S g T d b c L){i:Nat}{nd:Nd}{v:Value}(hi:L[i]? =some (nd,v)){k:Int->Prop}(hk:k nd.hi):
 ∃t,w.cell? (((⟨b,0,none⟩:Addr).add (i*5)).add 3)=some (.int .u64 t)/\k t:=⟨_,by rw [mU];exact h.cell hi (by omega) rfl,hk⟩
theorem TV.vA(h:TV w S g T d b c L){i:Nat}{nd:Nd}{v:Value}(hi:L[i]? =some (nd,v)){k:Int->Prop}(hk:k nd.free):
 ∃t,w.cell? (((⟨b,0,none⟩:Addr).add (i*5)).add 4)=some (.int .u64 t)/\k t:=⟨_,by rw [mU];exact h.cell hi (by omega) rfl,hk⟩
theorem TV.kept{w':World}(h:TV w S g T d b c L)(hk:Kept Nil w w'):TV w' S g T d b c L:=h.aK hk fun _ _ h=>h
end
section
variable{w:World}{S:Nat->Prop}{g:Nat}{T:List Nd}{d:Int}{K:Value->World->Prop}
theorem vc(h:mZ w S g T d)(n:Int)(hK:K (.bool (decide (0<=n/\n<T.length))) w):
 bf prog gA.id #[.pointer (some ⟨g,0,none⟩),.int .i64 n] w K:=by
 obtain⟨b,c,L,h⟩:=h;refine gA.of (Split.yes rfl (Split.dec (fun h0=>h.go ?_) (fun h0=>?_)))
 ·rwa [show decide (0<=n/\n<(T.length:Int))=decide (n<(T.length:Int))from by simp [show(0:Int)<=n from h0]]at hK
 ·rwa [decide_eq_false (fun e:0<=n/\n<(T.length:Int)=>h0 e.1)]at hK
theorem Dk(h:mZ w S g T d)(hT:0<T.length)(n:Int)(hK:K (.int .i64 (if 0<=n/\n<T.length then 0 else 6)) w):
 bf prog ft.id #[.pointer (some ⟨g,0,none⟩),.int .i64 n] w K:=by
 have h0:=h;obtain⟨b,c,L,h⟩:=h;refine ft.of (Split.no rfl (h.go (Split.no (beq_eq_false_iff_ne.2 (by omega)) (vc h0 n ⟨_,rfl,?_⟩))));by_cases hn:0<=n/\n<(T.length:Int)
 ·rw [if_pos hn]at hK
  exact Split.no (by simp [hn]) hK
 ·rw [if_neg hn]at hK
  exact Split.yes (by simp only [decide_eq_false hn];rfl) hK
theorem qC(h:mZ w S g T d){n:Nat}(hn:n<T.length)(hK:K (.int .i64 0) w):
 bf prog ft.id #[.pointer (some ⟨g,0,none⟩),.int .i64 n] w K:=Dk h (by omega) n (by rw [if_pos ⟨by omega,by omega⟩];exact hK)
theorem Bh(h:mZ w S g T d){n:Nat}{nd:Nd}(hn:T[n]? =some nd)(hK:∀w',Kept Nil w w'->K (.int .u64 (u64.wrap (nd.hi-nd.free))) w'):
 bf prog eI.id #[.pointer (some ⟨g,0,none⟩),.int .i64 n] w K:=by
 obtain⟨b,c,L,h⟩:=h;have cI:n<T.length:=(lgeS hn).1;obtain⟨v,hv⟩:=h.at_ hn;refine eI.of ?_;unfold eI.W;intro w1;have k1:Kept Nil w w1:=(Kept.refl Nil w).drew;have h1:=h.kept k1;have hb:0<=(n:Int)/\(n:Int)<(T.length:Int):=⟨by omega,by omega⟩;exact h1.go ⟨hb,h1.xz hv (h1.go ⟨hb,h1.vA hv (hK w1 k1)⟩)⟩
theorem wc(h:mZ w S g T d){n:Nat}{nd:Nd}(hn:T[n]? =some nd)(h0:0<n)(hK:K (.tuple #[.int .i64 nd.parent,.int .i64 0]) w):
 bf prog dX.id #[.pointer (some ⟨g,0,none⟩),.int .i64 n] w K:=by
 have cI:n<T.length:=(lgeS hn).1;refine dX.of (qC h cI ⟨_,rfl,Split.yes rfl (Split.no (beq_eq_false_iff_ne.2 (by omega)) (Split.no rfl ?_))⟩);obtain⟨b,c,L,h⟩:=h;obtain⟨v,hv⟩:=h.at_ hn;exact h.go ⟨⟨by omega,by omega⟩,h.E5 hv hK⟩
theorem H0:AT prog iy iN 1 8:=⟨by kernel_rfl,by kernel_rfl⟩
theorem Dt:AT prog gv iw 5 56:=⟨by kernel_rfl,by kernel_rfl⟩
end
theorem dZ{x:Int}(h0:0<=x)(h1:x<18446744073709551616):u64.wrap x=x:=by
 simp only [IntKind.wrap,IntKind.bits,IntKind.signed];simp;omega
theorem iF{x:Int}(h0: -9223372036854775808<=x)(h1:x<9223372036854775808):i64.wrap x=x:=by
 simp only [IntKind.wrap,IntKind.bits,IntKind.signed];simp;omega
def sI(T:List Nd)(n p:Nat)(nd pd:Nd)(many:Int):List Nd:=
 (T.set n {nd with lo:=pd.free,hi:=pd.free+many-1,free:=pd.free}).set p {pd with free:=pd.free+many}
section
variable{w:World}{S:Nat->Prop}{g:Nat}{T:List Nd}{d:Int}{K:Value->World->Prop}
theorem gE{α:Type}{L:List α}{i:Nat}{x y:α}(h:L[i]? =some x):(L.set i y)[i]? =some y:=by
 rw [List.getElem?_set_self (lgeS h).1]
theorem mu{α:Type}{L:List α}{i j:Nat}{x y:α}(h:L[j]? =some x)(fG:i≠j):(L.set i y)[j]? =some x:=by
 rw [List.getElem?_set_ne fG];exact h
theorem rN{b c:Nat}{L:List (Nd×Value)}(h:TV w S g T d b c L){n p:Nat}{nd pd:Nd}{many:Int}(hn:T[n]? =some nd)(hp:T[p]? =some pd)(Ms:nd.parent=p)(fG:n≠p)
 (hf:0<=pd.free) (hm:1<=many) (Zi:pd.free+many<18446744073709551616)
 (hK:∀w' L',TV w' S g (sI T n p nd pd many) d b c L'->Kept (fun k=>k=b) w w'->K (.tuple #[]) w'):
 bf prog eJ.id #[.pointer (some ⟨g,0,none⟩),.int .i64 n,.int .u64 many] w K:=by
 have UO:n<T.length:=(lgeS hn).1;have rF:p<T.length:=(lgeS hp).1;obtain⟨v,hv⟩:=h.at_ hn;obtain⟨u,hu⟩:=h.at_ hp;have VO:0<=(n:Int)/\(n:Int)<(T.length:Int):=⟨by omega,by omega⟩;have IX:0<=nd.parent/\nd.parent<(T.length:Int):=by rw [Ms];exact⟨by omega,by omega⟩
 refine eJ.of (h.go ⟨VO,Is.mk rfl ?_⟩);intro w7;have k7:Kept (fun k=>k=b) w w7:=(Kept.refl _ w).drew;have h7:TV w7 S g T d b c L:=h.kept (Kept.refl Nil w).drew;refine h7.go (h7.E5 hv ⟨IX,Is.mk rfl ?_⟩);rw [Ms];refine h7.vA hu ?_;obtain⟨SD,x4⟩:=h7.rT hv (j:=2) (by omega) (u:=.int .u64 pd.free) (nd':= {nd with lo:=pd.free}) rfl rfl;have kS:∀ {w w':World},Kept (fun k=>k=b) w w'->∀(j:Nat) (u:Value),Kept (fun k=>k=b) w (w'.setCell ⟨b,j,none⟩ u):=fun k j u=>k.setCell (fun _=>rfl) u;have v1:(L.set n ({nd with lo:=pd.free},v))[n]? =some ({nd with lo:=pd.free},v):=gE hv;refine⟨by rw [mU];exact SD,?_⟩;intro pY;have ZW:pY=w7.setCell ⟨b,n*5+2,none⟩ (.int .u64 pd.free):=by simp only [pY,mU,Int.toNat_natCast]
 have Mh:Kept (fun k=>k=b) w pY:=by rw [ZW];exact kS k7 _ _
 rw [<-ZW]at x4;clear_value pY;refine x4.sM v1 ?_;obtain⟨wr2,Cn⟩:=x4.rT v1 (j:=3) (by omega) (u:=.int .u64 (u64.wrap (u64.wrap (pd.free+many)-1))) (nd':= {nd with lo:=pd.free,hi:=pd.free+many-1}) (by rw [dZ (x:=pd.free+many) (by omega) (by omega),dZ (by omega) (by omega)];rfl) rfl;refine⟨by rw [mU];exact wr2,?_⟩;intro nh;have ZV:nh=pY.setCell ⟨b,n*5+3,none⟩ (.int .u64 (u64.wrap (u64.wrap (pd.free+many)-1))):=by simp only [nh,mU,Int.toNat_natCast]
 have uN:Kept (fun k=>k=b) w nh:=by rw [ZV];exact kS Mh _ _
 rw [<-ZV]at Cn;clear_value nh;rw [List.set_set,List.set_set]at Cn;have v2:(L.set n ({nd with lo:=pd.free,hi:=pd.free+many-1},v))[n]? =some ({nd with lo:=pd.free,hi:=pd.free+many-1},v):=gE hv;refine Cn.sM v2 ?_;obtain⟨SC,FW⟩:=Cn.rT v2 (j:=4) (by omega) (u:=.int .u64 pd.free) (nd':= {nd with lo:=pd.free,hi:=pd.free+many-1,free:=pd.free}) rfl rfl;refine⟨by rw [mU];exact SC,?_⟩;intro uu;have ZU:uu=nh.setCell ⟨b,n*5+4,none⟩ (.int .u64 pd.free):=by simp only [uu,mU,Int.toNat_natCast]
 have Ea:Kept (fun k=>k=b) w uu:=by rw [ZU];exact kS uN _ _
 rw [<-ZU]at FW;clear_value uu;rw [List.set_set,List.set_set]at FW;have u3:(L.set n ({nd with lo:=pd.free,hi:=pd.free+many-1,free:=pd.free},v))[p]? =some (pd,u):=mu hu fG;refine FW.vA u3 ?_;obtain⟨wr4,QQ⟩:=FW.rT u3 (j:=4) (by omega) (u:=.int .u64 (u64.wrap (pd.free+many))) (nd':= {pd with free:=pd.free+many}) (by rw [dZ (by omega) (by omega)];rfl) rfl;refine⟨by rw [mU];exact wr4,?_⟩;intro p6;have ZS:p6=uu.setCell ⟨b,p*5+4,none⟩ (.int .u64 (u64.wrap (pd.free+many))):=by simp only [p6,mU,Int.toNat_natCast]
 exact hK p6 _ (by rw [ZS];exact QQ) (by rw [ZS];exact kS Ea _ _)
theorem Bi(h:mZ w S g T d){n p:Nat}{nd pd:Nd}{many:Int}(hn:T[n]? =some nd)(hp:T[p]? =some pd)(Ms:nd.parent=p)(fG:n≠p)
 (hf:0<=pd.free) (hm:1<=many) (Zi:pd.free+many<18446744073709551616)
 (hK:∀w',mZ w' S g (sI T n p nd pd many) d->Kept S w w'->K (.tuple #[]) w'):
 bf prog eJ.id #[.pointer (some ⟨g,0,none⟩),.int .i64 n,.int .u64 many] w K:=by
 obtain⟨b,c,L,h⟩:=h;exact rN h hn hp Ms fG hf hm Zi fun w' L' h' k'=>hK w' ⟨b,c,L',h'⟩ (k'.mono fun k _ e=>by rw [e];exact h.fg)
end
section
variable{w:World}{S:Nat->Prop}{g:Nat}{T:List Nd}{d:Int}{b c:Nat}{L:List (Nd×Value)}
theorem xD(L M:List (Nd×Value)):mQ (L++M)=mQ L++mQ M:=by simp [mQ]
theorem TV.E1(h:TV w S g T d b c L)(nK:T.length<=1000000)(p:Int){w10:World}
 (e10:w10=w.alloc (.cells #[.int .i64 p,.slice none 0 0,.int .u64 0,.int .u64 0,.int .u64 0] iw)):
 ∃A c' o7,(Builtin.append_ #[gv,gv] gv #[.slice (some ⟨b,0,none⟩) T.length c,.slice (some ⟨w.heap.size,0,none⟩) 1 1]).run prog w10=.ok (.slice A (T.length+1) c') o7/\
  Wr o7 ⟨g,0,none⟩/\∃b' S' L',TV (o7.setCell ⟨g,0,none⟩ (.slice A (T.length+1) c')) S' g (T++ [⟨p,[],0,0,0⟩]) d b' c' L'/\(∀(i:Nat) q,L[i]? =some q->L'[i]? =some q)/\
   Kept S w (o7.setCell ⟨g,0,none⟩ (.slice A (T.length+1) c'))/\(∀k,S k->S' k)/\(∀k,S' k->S k\/w.heap.size<=k):=by
 subst e10;generalize Kp:w.alloc (.cells #[.int .i64 p,.slice none 0 0,.int .u64 0,.int .u64 0,.int .u64 0] iw)=w10;have nM:w10.heap[w.heap.size]? =some (.cells #[.int .i64 p,.slice none 0 0,.int .u64 0,.int .u64 0,.int .u64 0] iw (0,0)):=by rw [<-Kp];exact aR w _
 have tR:Kept Nil w w10:=by rw [<-Kp];exact(Kept.refl Nil w).alloc _
 have G4:w10.heap.size=w.heap.size+1:=by rw [<-Kp];simp
 have rI:=h.kept tR;obtain⟨A,c',o7,hr,fU,hg,Ck⟩:=im (P:=prog) (t:=gv) (ty:=gv) Dt rI.row (a:=⟨w.heap.size,0,none⟩) (m:=1) (cx:=1)
  (news:=iA ⟨p,[],0,0,0⟩ (.slice none 0 0)) rfl (fun j u hj=>by rw [kX,aA nM];simpa [iA]using hj) (by intro u hu;simp [iA]at hu;rcases hu with rfl|rfl|rfl|rfl|rfl<;>rfl)
  (by omega) (by unfold maxLen;omega) (Nat.zero_le _)
 obtain⟨b',rfl⟩:=Row.some fU (by omega);have kb:Kept (fun k=>k=b) w10 o7:=(Kept.refl _ w10).grown hg (fun k hk _=>by cases hk;rfl);have jo:o7.heap[g]? =some (.cells #[.slice (some ⟨b,0,none⟩) T.length c,.int .i64 d] q6 (0,0)):=kb.heap rI.top h.gb;refine⟨_,c',o7,hr,dz jo (show 0<2 by omega),?_⟩;generalize Oq:o7.setCell ⟨g,0,none⟩ (.slice (some ⟨b',0,none⟩) (T.length+1) c')=wf;have kg:Kept (fun k=>k=g) o7 wf:=by rw [<-Oq];exact(Kept.refl (fun k=>k=g) o7).setCell (p:=⟨g,0,none⟩) (fun _=>rfl) _
 have tY:b'=b\/w10.heap.size<=b':=by
  rcases Ck b' rfl with h|h
  ·left;cases h;rfl
  ·exact .inr h
 have V9:b'≠g:=by
  rintro rfl;obtain⟨_,cur,hc⟩:=Row.bW fU (k:=b') rfl;rw [jo]at hc;injection hc with hc;injection hc with _ ht;exact absurd ht (by decide)
 have Cd:∀(i:Nat) (q:Nd×Value),L[i]? =some q->∃A m,Rj wf S q A m:=by
  intro i q hq;obtain⟨A,m,hk⟩:=rI.oS i q hq;obtain⟨cur,Mz⟩:=rI.ti;have r1:=Row.aK hk.row kb (fun k e e2=>hk.ne Mz (by decide) (by rw [e,e2]));have r2:=Row.aK r1 kg (fun k e e2=>hk.ne rI.top (by decide) (by rw [e,e2]));exact⟨A,m,hk.val,r2,hk.jb⟩
 refine⟨b',fun k=>S k\/k=b',L++ [(⟨p,[],0,0,0⟩,.slice none 0 0)],?_,fun i q hq=>?_,?_,fun k hk=>.inl hk,?_⟩
 ·exact {
   top:=by
    have:=cR jo 0 (.slice (some ⟨b',0,none⟩) (T.length+1) c');rw [Oq]at this;simpa using this
   fst:=by simp [h.fst]
   row:=by
    rw [xD,List.length_append];have:=Row.aK fU kg (fun k e e2=>V9 (by cases e;exact e2));simpa [mQ]using this
   oS:=fun i q hq=>by
    rw [List.getElem?_append]at hq;split at hq
    ·obtain⟨A,m,hk⟩:=Cd i q hq
     exact⟨A,m,hk.val,hk.row,fun k e=>.inl (hk.jb k e)⟩
    ·rename_i cI
     have:i-L.length=0:=by
      rcases Nat.eq_zero_or_pos (i-L.length)with h|h
      ·exact h
      ·rw [List.getElem?_eq_none (by simp;omega)]at hq;cases hq
     rw [this]at hq;simp at hq;subst hq;exact⟨none,0,rfl,Row.nil _ _ _ _,fun k e=>by cases e⟩
   apart:=fun i j q q' hq G6 pM k hk mX=>by
    rw [List.getElem?_append]at hq G6;have last:∀(x:Nat) (r:Nd×Value),[((⟨p,[],0,0,0⟩:Nd),Value.slice none 0 0)][x]? =some r->r.2=.slice none 0 0:=by
     intro x r hr;cases x with
     |zero=>simp at hr;subst hr;rfl
     |succ x=>simp at hr
    split at hq<;>split at G6
    ·exact h.apart i j q q' hq G6 pM k hk mX
    ·rw [last _ _ G6]at mX;cases mX
    ·rw [last _ _ hq]at hk;cases hk
    ·rw [last _ _ G6]at mX;cases mX
   fX:=.inl h.fX
   fg:=.inr rfl}
 ·rw [List.getElem?_append_left (lgeS hq).1];exact hq
 ·have FE:Kept S w o7:=(tR.mono (S':=S) (fun _ _ h=>h.elim)).trans kb (fun k _ e=>by rw [e];exact h.fg)
  exact FE.trans kg (fun k _ e=>by rw [e];exact h.fX)
 ·rintro k (hk|rfl)
  ·exact .inl hk
  ·rcases tY with rfl|tY
   ·exact .inl h.fg
   ·right;omega
theorem TV.HD(h:TV w S g T d b c L){p:Nat}{nd:Nd}{v:Value}(hp:L[p]? =some (nd,v)){A:Option Addr}{m:Nat}(hk:Rj w S (nd,v) A m)(nK:nd.ch.length<=1000000)(n:Nat){w22:World}
 (e22:w22=w.alloc (.cells #[.int .i64 n] iN)):
 ∃A' c' km,(Builtin.append_ #[iy,iy] iy #[.slice A nd.ch.length m,.slice (some ⟨w.heap.size,0,none⟩) 1 1]).run prog w22=.ok (.slice A' (nd.ch.length+1) c') km/\
  km.cell? ⟨g,0,none⟩=some (.slice (some ⟨b,0,none⟩) T.length c)/\Wr km ⟨b,p*5+1,none⟩/\
  ∃S' L',TV (km.setCell ⟨b,p*5+1,none⟩ (.slice A' (nd.ch.length+1) c')) S' g (T.set p {nd with ch:=nd.ch++ [n]}) d b c L'/\
   Kept S w (km.setCell ⟨b,p*5+1,none⟩ (.slice A' (nd.ch.length+1) c'))/\(∀k,S k->S' k)/\(∀k,S' k->S k\/w.heap.size<=k):=by
 subst e22;generalize Ko:w.alloc (.cells #[.int .i64 n] iN)=w22;have nM:w22.heap[w.heap.size]? =some (.cells #[.int .i64 n] iN (0,0)):=by rw [<-Ko];exact aR w _
 have NW:Kept Nil w w22:=by rw [<-Ko];exact(Kept.refl Nil w).alloc _
 have abU:w22.heap.size=w.heap.size+1:=by rw [<-Ko];simp
 have zf:=h.kept NW;have Kz:=Row.aK hk.row NW (fun _ _ h=>h);have rF:p<L.length:=(lgeS hp).1;obtain⟨A',c',km,hr,fU,hg,Ck⟩:=im (P:=prog) (t:=iy) (ty:=iy) H0 Kz (a:=⟨w.heap.size,0,none⟩) (m:=1) (cx:=1)
  (news:=ints [n]) rfl (fun j u hj=>by rw [kX,aA nM];simpa [ints]using hj) (by intro u hu;simp [ints]at hu;subst hu;rfl)
  (by simp only;omega) (by unfold maxLen;simp only;omega) (Nat.zero_le _)
 obtain⟨cur,Mz⟩:=zf.ti;obtain⟨ad9,hb0⟩:=h.ti;have IL:bm A≠some b:=hk.ne hb0 (by decide);have hkg:bm A≠some g:=hk.ne h.top (by decide);have kA:Kept (fun k=>bm A=some k) w22 km:=(Kept.refl _ w22).grown hg (fun k hk _=>hk);have E0:Row km 0 iw 5 (some ⟨b,0,none⟩) T.length c (mQ L):=Row.aK zf.row kA (fun k e e2=>IL (by rw [e2,<-e];rfl));have EZ:=kA.heap zf.top (fun e=>hkg e);have cI:p*5+1<(mQ L).length:=by rw [qU];omega
 refine⟨A',c',km,hr,by rw [aA EZ];rfl,Row.wr E0 cI,?_⟩;generalize Oq:km.setCell ⟨b,p*5+1,none⟩ (.slice A' (nd.ch.length+1) c')=wf;have kB:Kept (fun k=>k=b) km wf:=by rw [<-Oq];exact(Kept.refl (fun k=>k=b) km).setCell (p:=⟨b,p*5+1,none⟩) (fun _=>rfl) _
 have WB:bm A'≠some b:=by
  intro e;obtain⟨_,Q0,hc⟩:=Row.bW fU e;have:=kA.heap Mz IL;rw [this]at hc;injection hc with hc;injection hc with _ ht;exact absurd ht (by decide)
 have pL:∀(A:Option Addr) n m,Value.ownBlock (.slice A n m)=bm A:=by intro A n m;cases A<;>rfl
 have eA:∀(i:Nat) (q:Nd×Value),(L.set p ({nd with ch:=nd.ch++ [n]},.slice A' (nd.ch.length+1) c'))[i]? =some q->(i=p/\q=({nd with ch:=nd.ch++ [n]},.slice A' (nd.ch.length+1) c'))\/(i≠p/\L[i]? =some q):=by
  intro i q hq;by_cases e:p=i
  ·subst e
   rw [List.getElem?_set_self rF]at hq;cases hq;exact .inl ⟨rfl,rfl⟩
  ·rw [List.getElem?_set_ne e]at hq
   exact .inr ⟨fun h=>e h.symm,hq⟩
 have II:∀k,bm A'=some k->∀(i:Nat) (q:Nd×Value),i≠p->L[i]? =some q->Value.ownBlock q.2≠some k:=by
  intro k mX i q hi hq Uv;rcases Ck k mX with e|e
  ·exact h.apart p i _ _ hp hq (fun e=>hi e.symm) k (by rw [hk.val,pL];exact e) Uv
  ·obtain⟨A2,m2,mN⟩:=h.oS i q hq
   rw [mN.val,pL]at Uv;obtain⟨_,ad8,y7⟩:=Row.bW mN.row Uv;have:=a7 y7;omega
 refine⟨fun k=>S k\/bm A'=some k,L.set p ({nd with ch:=nd.ch++ [n]},.slice A' (nd.ch.length+1) c'),?_,?_,fun k hk=>.inl hk,?_⟩
 ·exact {
   top:=by rw [List.length_set];exact kB.heap EZ h.gb
   fst:=by rw [List.map_set,h.fst]
   row:=by
    rw [List.length_set];have:=Row.set E0 cI (.slice A' (nd.ch.length+1) c');rw [Oq,xC hp (j:=1) (by omega) (p':=({nd with ch:=nd.ch++ [n]},.slice A' (nd.ch.length+1) c')) rfl]at this;exact this
   oS:=fun i q hq=>by
    rcases eA i q hq with⟨rfl,rfl⟩|⟨hi,hq⟩
    ·refine⟨A',c',by simp,?_,fun k e=>.inr e⟩
     have:=Row.aK fU kB (fun k e e2=>WB (by rw [e,e2]));simpa [ints]using this
    ·obtain⟨A2,m2,mN⟩:=zf.oS i q hq
     have r1:=Row.aK mN.row kA (fun k e e2=>h.apart p i _ _ hp hq (fun e=>hi e.symm) k (by rw [hk.val,pL];exact e2) (by rw [mN.val,pL];exact e));have r2:=Row.aK r1 kB (fun k e e2=>mN.ne Mz (by decide) (by rw [e,e2]));exact⟨A2,m2,mN.val,r2,fun k e=>.inl (mN.jb k e)⟩
   apart:=fun i j q q' hq G6 pM k Hf mN=>by
    rcases eA i q hq with⟨e1,e2⟩|⟨hi,IC⟩<;>rcases eA j q' G6 with⟨e3,e4⟩|⟨hj,Mo⟩
    ·exact pM (e1.trans e3.symm)
    ·rw [e2,pL]at Hf;exact II k Hf j q' hj Mo mN
    ·rw [e4,pL]at mN;exact II k mN i q hi IC Hf
    ·exact h.apart i j q q' IC Mo pM k Hf mN
   fX:=.inl h.fX
   fg:=.inl h.fg}
 ·have pZ:Kept S w km:=(NW.mono (S':=S) (fun _ _ h=>h.elim)).trans kA (fun k _ e=>hk.jb k e)
  exact pZ.trans kB (fun k _ e=>by rw [e];exact h.fg)
 ·rintro k (mX|mX)
  ·exact .inl mX
  ·rcases Ck k mX with e|e
   ·exact .inl (hk.jb k e)
   ·right;omega
end
def grown(T:List Nd)(p:Nat)(pd:Nd):List Nd:=(T++ [(⟨p,[],0,0,0⟩:Nd)]).set p {pd with ch:=pd.ch++ [T.length]}
def hZ(pd:Nd):Int:=(pd.hi-pd.free+1)/2
def added(T:List Nd)(p:Nat)(pd:Nd):List Nd:=sI (grown T p pd) T.length p ⟨p,[],0,0,0⟩ {pd with ch:=pd.ch++ [T.length]} (hZ pd)
section
variable{w:World}{S:Nat->Prop}{g:Nat}{T:List Nd}{d:Int}{K:Value->World->Prop}
theorem rO(h:mZ w S g T d){p:Nat}{pd:Nd}(hp:T[p]? =some pd)(nK:T.length<=1000000)(mP:pd.ch.length<=1000000)
 (hf:0<=pd.free) (hfh:pd.free<=pd.hi) (hh:pd.hi<=4611686018427387904)
 (hK1:pd.free<pd.hi->∀w' S',mZ w' S' g (added T p pd) d->Kept S w w'->(∀k,S' k->S k\/w.heap.size<=k)->K (.tuple #[.int .i64 T.length,.int .i64 0]) w')
 (hK2:pd.free=pd.hi->∀w' S',mZ w' S' g (grown T p pd) d->Kept S w w'->(∀k,S' k->S k\/w.heap.size<=k)->
   bf prog ay.id #[.pointer (some ⟨g,0,none⟩),.int .i64 p] w' fun v kZ=>v=.tuple #[]/\K (.tuple #[.int .i64 T.length,.int .i64 0]) kZ):
 bf prog fu.id #[.pointer (some ⟨g,0,none⟩),.int .i64 p] w K:=by
 have cI:p<T.length:=(lgeS hp).1;refine fu.of (qC h cI ⟨_,rfl,Split.no rfl ?_⟩);obtain⟨b,c,L,h⟩:=h;obtain⟨v,hv⟩:=h.at_ hp;refine h.go (h.go ⟨rfl,?_⟩);intro w10;obtain⟨A1,c1,o7,pJ,SD,b1,S1,L1,Sd,hL1,Mg,hS1,QH⟩:=h.E1 nK (p:Int) (w10:=w10) rfl;refine⟨A1,_,c1,o7,pJ,by rw [kX];exact SD,?_⟩;intro ko;have e14:ko=o7.setCell ⟨g,0,none⟩ (.slice A1 (T.length+1) c1):=by simp only [ko,kX]
 rw [<-e14]at Sd Mg;clear_value ko;intro nh;have uN:Kept Nil ko nh:=(Kept.refl Nil ko).drew;have Cn:=Sd.kept uN;have FI:=hL1 _ _ hv;have hlen:(T++ [(⟨p,[],0,0,0⟩:Nd)]).length=T.length+1:=by simp
 have I1:0<=(p:Int)/\(p:Int)<((T++ [(⟨p,[],0,0,0⟩:Nd)]).length:Int):=by rw [hlen];exact⟨by omega,by omega⟩
 obtain⟨A2,m2,hk⟩:=Cn.oS _ _ FI;refine Cn.go (Cn.go ⟨I1,Cn.QU FI hk.val ?_⟩);intro w22;have NW:Kept Nil nh w22:=(Kept.refl Nil nh).alloc _;have zf:=Cn.kept NW;obtain⟨A3,c3,km,CX,Pe,SC,S3,L3,Sc,D5,hS3,Wk⟩:=Cn.HD FI hk mP T.length (w22:=w22) rfl;have xp:=zf.cell FI (j:=1) (by omega) (v:=v) rfl;have hvv:v=.slice A2 pd.ch.length m2:=hk.val;rw [hvv]at xp;refine⟨by rw [mU];exact xp,by rw [kX];exact zf.nodes,by rw [kX];exact zf.nodes,A3,_,c3,km,CX,by rw [kX];exact Pe,I1,by rw [mU];exact SC,?_⟩;intro A9;have e26:A9=km.setCell ⟨b1,p*5+1,none⟩ (.slice A3 (pd.ch.length+1) c3):=by simp only [A9,mU,Int.toNat_natCast]
 rw [<-e26]at Sc D5;clear_value A9;have G1:(T++ [(⟨p,[],0,0,0⟩:Nd)]).set p {pd with ch:=pd.ch++ [T.length]}=grown T p pd:=rfl;rw [G1]at Sc;have Zf:(grown T p pd)[p]? =some {pd with ch:=pd.ch++ [T.length]}:=by
  unfold grown;rw [List.getElem?_set_self (by simp;omega)]
 have hgn:(grown T p pd)[T.length]? =some ⟨p,[],0,0,0⟩:=by
  unfold grown;rw [List.getElem?_set_ne (by omega)];simp
 have kw:Kept S w A9:=(Mg.tt (uN.mono (S':=S) (fun _ _ h=>h.elim))).trans D5 (fun k hk h=>by
  rcases QH k h with h|h
  ·exact h
  ·omega)
 have Lp:∀k,S3 k->S k\/w.heap.size<=k:=fun k h=>by
  rcases Wk k h with h|h
  ·exact QH k h
  ·right
   have:=Mg.size;have:=uN.size;omega
 refine Bh ⟨_,_,_,Sc⟩ Zf fun CP GP=>⟨_,rfl,?_⟩;have ZJ:=Sc.kept GP;have Nz:Kept S w CP:=kw.trans GP (fun _ _ h=>h.elim);simp only [];rw [dZ (x:=pd.hi-pd.free) (by omega) (by omega)];refine Split.dec (fun kl=>⟨by decide,?_⟩) (fun kl=>?_)
 ·have AF:u64.wrap ((u64.wrap (pd.hi-pd.free+1)).tdiv 2)=hZ pd:=by
   rw [dZ (x:=pd.hi-pd.free+1) (by omega) (by omega),Int.tdiv_eq_ediv_of_nonneg (by omega),dZ (by omega) (by omega)];rfl
  rw [AF];refine Bi ⟨_,_,_,ZJ⟩ hgn Zf rfl (by omega) hf (by unfold hZ;omega) (by unfold hZ;simp only;omega) fun MW h31 RC=>⟨rfl,?_⟩;refine hK1 (by omega) MW S3 h31 (Nz.trans RC fun k hk h=>?_) Lp;rcases Lp k h with h|h
  ·exact h
  ·omega
 ·exact hK2 (by omega) CP S3 ⟨_,_,_,ZJ⟩ Nz Lp
end
section
variable{w:World}{S:Nat->Prop}{g:Nat}{T:List Nd}{d:Int}{K:Value->World->Prop}
def oF:List Nd:= [⟨-1,[],1,4611686018427387904,1⟩]
theorem dF(hK:∀w' g,mZ w' (fun k=>w.heap.size<=k) g oF 0->Kept Nil w w'->K (.pointer (some ⟨g,0,none⟩)) w'):bf prog dF.id #[] w K:=by
 refine dF.of ⟨rfl,?_⟩;intro w1 w2;have k1:Kept Nil w w1:=(Kept.refl Nil w).alloc _;have k2:Kept Nil w w2:=k1.alloc _;refine hK w2 w1.heap.size ⟨w.heap.size,1,[(⟨-1,[],1,4611686018427387904,1⟩,.slice none 0 0)],?_⟩ k2;exact {
  top:=aR w1 _
  fst:=rfl
  row:=Row.made (n:=1) (cur:= #[.int .i64 (-1),.slice none 0 0,.int .u64 1,.int .u64 4611686018427387904,.int .u64 1]) (jD (aR w _) _) (Nat.zero_le _) rfl (by decide)
  oS:=fun i p hp=>by
   cases i with
   |zero=>simp at hp;subst hp;exact⟨none,0,rfl,Row.nil _ _ _ _,fun k e=>by cases e⟩
   |succ i=>simp at hp
  apart:=fun i j p q hp hq pM=>by
   cases i<;>cases j<;>simp at hp hq
   exact absurd rfl pM
  fX:=k1.size
  fg:=Nat.le_refl _}
theorem yg(h:mZ w S g T d){a b:Nat}{ad bd:Nd}(ha:T[a]? =some ad)(hb:T[b]? =some bd)(hK:∀w',Kept Nil w w'->K (.bool (decide (bd.lo<=ad.lo/\ad.hi<=bd.hi))) w'):
 bf prog dT.id #[.pointer (some ⟨g,0,none⟩),.int .i64 a,.int .i64 b] w K:=by
 have hal:a<T.length:=(lgeS ha).1;have Ck:b<T.length:=(lgeS hb).1;have VU:0<=(a:Int)/\(a:Int)<(T.length:Int):=⟨by omega,by omega⟩;have Cl:0<=(b:Int)/\(b:Int)<(T.length:Int):=⟨by omega,by omega⟩;refine dT.of ?_;unfold dT.W;intro w4;have k4:Kept Nil w w4:=(Kept.refl Nil w).drew;have h4:=h.same k4;have hk:=hK w4 k4;refine vc h4 a ⟨_,rfl,Split.yes (decide_eq_true VU) ?_⟩;refine vc h4 b ⟨_,rfl,Split.yes (decide_eq_true Cl) ?_⟩;obtain⟨p,c,L,h4⟩:=h4;obtain⟨va,Yx⟩:=h4.at_ ha;obtain⟨vb,Yw⟩:=h4.at_ hb;refine h4.go ⟨Cl,h4.sM Yw (h4.go ⟨VU,h4.sM Yx ?_⟩)⟩;refine Split.dec (fun h1=>h4.go ⟨VU,h4.xz Yx (h4.go ⟨Cl,h4.xz Yw ?_⟩)⟩) (fun h1=>?_)
 ·rwa [show decide (bd.lo<=ad.lo/\ad.hi<=bd.hi)=decide (ad.hi<=bd.hi)from by simp [h1]]at hk
 ·rwa [decide_eq_false (fun e:bd.lo<=ad.lo/\ad.hi<=bd.hi=>h1 e.1)]at hk
end
section
variable{w:World}{t:Option Addr}{K:Value->World->Prop}
end
end Go.Proofs.YtfleamccglihoaaGreatDoor.Tr
namespace Go.Proofs.YtfleamccglihoaaGreatDoor.Tr
open Go.Proofs.Tryz
def bG(T:List Nd):List Int:=T.map (·.parent)
structure mY(P:List Int):Prop where
 root:P[0]? =some (-1)
 up:∀(i:Nat) (p:Int),0<i->P[i]? =some p->∃j:Nat,j<i/\p=j
def kids(P:List Int)(i:Nat):List Nat:=(List.range P.length).filter fun j=>P[j]? ==some (i:Int)
theorem dH{P:List Int}{i j:Nat}:j∈kids P i↔P[j]? =some (i:Int):=by
 simp only [kids,List.mem_filter,List.mem_range,beq_iff_eq];exact⟨fun h=>h.2,fun h=>⟨(lgeS h).1,h⟩⟩
theorem gQ{P:List Int}(hP:mY P){i j:Nat}(h:j∈kids P i):i<j/\j<P.length:=by
 rw [dH]at h;refine⟨?_,(lgeS h).1⟩;rcases Nat.eq_zero_or_pos j with rfl|hj
 ·rw [hP.root]at h;have:=Option.some.inj h;omega
 ·obtain⟨k,hk,e⟩:=hP.up j _ hj h
  omega
theorem qL(P:List Int)(i:Nat):(kids P i).Pairwise (· < ·):=List.Pairwise.filter _ (List.pairwise_lt_range)
theorem wV(P:List Int)(i:Nat):(kids P i).length<=P.length:=by
 unfold kids;exact Nat.le_trans (List.length_filter_le _ _) (by simp)
inductive jf (P:List Int):Nat->Nat->Prop
 |refl {i:Nat}:i<P.length->jf P i i
 |step {i j k:Nat}:P[i]? =some (j:Int)->jf P j k->jf P i k
theorem jf.lt{P:List Int}{i k:Nat}(h:jf P i k):i<P.length:=by
 cases h with
 |refl h=>exact h
 |step h _=>exact(lgeS h).1
theorem jf.Rs{P:List Int}{i k:Nat}(h:jf P i k):k<P.length:=by
 induction h with
 |refl h=>exact h
 |step _ _ ih=>exact ih
theorem jf.le{P:List Int}(hP:mY P){i k:Nat}(h:jf P i k):k<=i:=by
 induction h with
 |refl=>omega
 |step h _ ih=>have:=(gQ hP (dH.2 h)).1;omega
theorem jf.trans{P:List Int}{i j k:Nat}(h:jf P i j)(h':jf P j k):jf P i k:=by
 induction h with
 |refl=>exact h'
 |step h _ ih=>exact .step h (ih h')
theorem jf.inv{P:List Int}{i j k:Nat}(h:jf P i k)(fG:i≠k)(hj:P[i]? =some (j:Int)):jf P j k:=by
 cases h with
 |refl=>exact absurd rfl fG
 | @step _ j' _ h h'=>
   rw [hj]at h;have e:j=j':=by have:=Option.some.inj h;omega
   rw [e];exact h'
theorem jf.child{P:List Int}{i k:Nat}(h:jf P i k)(fG:i≠k):∃c,c∈kids P k/\jf P i c:=by
 induction h with
 |refl=>exact absurd rfl fG
 | @step i j k h h' ih=>
   by_cases e:j=k
   ·subst e
    exact⟨i,dH.2 h,.refl (lgeS h).1⟩
   ·obtain⟨c,hc,hu⟩:=ih e
    exact⟨c,hc,.step h hu⟩
structure Iv(nd:Nd):Prop where
 Tf:1<=nd.lo
 le:nd.lo<=nd.hi
 top:nd.hi<=4611686018427387904
structure Loc(T:List Nd)(nd:Nd):Prop where
 C6:nd.lo<=nd.free
 zn:nd.free<=nd.hi
 sub:∀c cd,c∈nd.ch->T[c]? =some cd->nd.lo<=cd.lo/\cd.hi<nd.free
 ord:∀(c c':Nat) cd tc,c∈nd.ch->c'∈nd.ch->c<c'->T[c]? =some cd->T[c']? =some tc->cd.hi<tc.lo
structure Shape(T:List Nd):Prop where
 par:mY (bG T)
 ch:∀(i:Nat) nd,T[i]? =some nd->nd.ch=kids (bG T) i
structure Good(T:List Nd):Prop extends Shape T where
 iv:∀(i:Nat) nd,T[i]? =some nd->Iv nd
 loc:∀(i:Nat) nd,T[i]? =some nd->Loc T nd
theorem jJ{T:List Nd}{i:Nat}{nd:Nd}(h:T[i]? =some nd):(bG T)[i]? =some nd.parent:=by simp [bG,h]
theorem dG(T:List Nd):(bG T).length=T.length:=by simp [bG]
theorem Shape.pos{T:List Nd}(h:Shape T):0<T.length:=by
 have:=(lgeS h.par.root).1
 rwa [dG]at this
theorem Good.oS{T:List Nd}(h:Good T){c k:Nat}{cd kd:Nd}(hc:c∈kids (bG T) k)(iO:T[c]? =some cd)(Pz:T[k]? =some kd):
 kd.lo<=cd.lo/\cd.hi<kd.free:=(h.loc k kd Pz).sub c cd (by rw [h.ch k kd Pz];exact hc) iO
theorem eR{T:List Nd}{i:Nat}(h:i<T.length):∃nd,T[i]? =some nd:=⟨_,List.getElem?_eq_getElem h⟩
theorem Good.mW{T:List Nd}(h:Good T){a b:Nat}{ad bd:Nd}(ha:T[a]? =some ad)(hb:T[b]? =some bd)(hu:jf (bG T) a b):bd.lo<=ad.lo/\ad.hi<=bd.hi:=by
 induction hu generalizing ad with
 |refl=>rw [ha]at hb;cases hb;omega
 | @step i j k hp h' ih=>
   have tD:j<T.length:=by have:=h'.lt;rwa [dG]at this
   obtain⟨jd,hj⟩:=eR tD;have h1:=ih hj hb;have h2:=h.oS (dH.2 hp) ha hj;have h3:=(h.loc j jd hj).zn;omega
theorem Good.apart{T:List Nd}(h:Good T):∀(m a b:Nat),a+b<=m->∀ad bd,T[a]? =some ad->T[b]? =some bd->¬jf (bG T) a b->¬jf (bG T) b a->ad.hi<bd.lo\/bd.hi<ad.lo:=by
 intro m
 induction m with
 |zero=>
  intro a b hm ad bd ha hb h1 _;have:a=b:=by omega
  subst this;exact absurd (.refl (by rw [dG];exact(lgeS ha).1)) h1
 |succ m ih=>
  have key:∀(a b:Nat),a+b<=m+1->b<a->∀ad bd,T[a]? =some ad->T[b]? =some bd->¬jf (bG T) a b->¬jf (bG T) b a->ad.hi<bd.lo\/bd.hi<ad.lo:=by
   intro a b hm cI ad bd ha hb h1 h2;have hal:=(lgeS ha).1;obtain⟨p,hp,e⟩:=h.par.up a _ (by omega) (jJ ha);have RQ:(bG T)[a]? =some (p:Int):=by rw [jJ ha,e]
   obtain⟨pd,vt⟩:=eR (T:=T) (i:=p) (by omega);have gK:=h.oS (dH.2 RQ) ha vt;have rF:=h.loc p pd vt;have Ca:¬jf (bG T) p b:=fun hu=>h1 (.step RQ hu);by_cases IX:jf (bG T) b p
   ·have fG:b≠p:=fun e=>Ca (by subst e;exact .refl IX.lt)
    obtain⟨c,hc,Iw⟩:=IX.child fG;have hca:c≠a:=fun e=>h2 (e▸Iw);have vy:c<T.length:=by have:=(gQ h.par hc).2;rwa [dG]at this
    obtain⟨cd,iO⟩:=eR vy;have Lg:=h.mW hb iO Iw;have mP:=h.ch p pd vt;rcases Nat.lt_or_ge c a with cI|iG
    ·have:=rF.ord c a cd ad (by rw [mP];exact hc) (by rw [mP];exact dH.2 RQ) cI iO ha
     omega
    ·have:=rF.ord a c ad cd (by rw [mP];exact dH.2 RQ) (by rw [mP];exact hc) (by omega) ha iO
     omega
   ·have:=ih p b (by omega) pd bd vt hb Ca IX
    have:=rF.zn;omega
  intro a b hm ad bd ha hb h1 h2;rcases Nat.lt_trichotomy a b with cI|rfl|cI
  ·have:=key b a (by omega) cI bd ad hb ha h2 h1
   omega
  ·exact absurd (.refl (by rw [dG];exact(lgeS ha).1)) h1
  ·exact key a b hm cI ad bd ha hb h1 h2
theorem Good.under{T:List Nd}(h:Good T){a b:Nat}{ad bd:Nd}(ha:T[a]? =some ad)(hb:T[b]? =some bd):(bd.lo<=ad.lo/\ad.hi<=bd.hi)↔jf (bG T) a b:=by
 refine⟨fun hi=>?_,fun hu=>h.mW ha hb hu⟩;by_cases hu:jf (bG T) a b
 ·exact hu
 ·exfalso
  have ia:=h.iv a ad ha;have ib:=h.iv b bd hb;by_cases hv:jf (bG T) b a
  ·have fG:b≠a:=fun e=>hu (by subst e;exact .refl hv.lt)
   obtain⟨c,hc,Iw⟩:=hv.child fG;have vy:c<T.length:=by have:=(gQ h.par hc).2;rwa [dG]at this
   obtain⟨cd,iO⟩:=eR vy;have h1:=h.mW hb iO Iw;have h2:=h.oS hc iO ha;have h3:=(h.loc a ad ha).zn;omega
  ·have:=h.apart (a+b) a b (Nat.le_refl _) ad bd ha hb hu hv
   have:=ia.le;have:=ib.le;omega
theorem uR(T:List Nd)(p:Nat)(pd:Nd):(grown T p pd).length=T.length+1:=by simp [grown]
theorem iB{T:List Nd}{p:Nat}{pd:Nd}(hp:T[p]? =some pd)(i:Nat):(grown T p pd)[i]? =if i=p then some {pd with ch:=pd.ch++ [T.length]}else if i=T.length then some ⟨p,[],0,0,0⟩else T[i]? :=by
 have cI:=(lgeS hp).1;unfold grown;by_cases e:i=p
 ·subst e
  rw [if_pos rfl,List.getElem?_set_self (by simp;omega)]
 ·rw [if_neg e,List.getElem?_set_ne (fun h=>e h.symm)]
  by_cases e2:i=T.length
  ·subst e2;simp
  ·rw [if_neg e2]
   rcases Nat.lt_or_ge i T.length with h|h
   ·rw [List.getElem?_append_left h]
   ·rw [List.getElem?_eq_none (by simp;omega),List.getElem?_eq_none h]
theorem kP{T:List Nd}{p:Nat}{pd:Nd}(hp:T[p]? =some pd):bG (grown T p pd)=bG T++ [(p:Int)]:=by
 apply List.ext_getElem?;intro i;have cI:=(lgeS hp).1;simp only [bG,List.getElem?_map,iB hp];by_cases e:i=p
 ·subst e
  rw [if_pos rfl,List.getElem?_append_left (by simpa using cI)];simp [hp]
 ·rw [if_neg e]
  by_cases e2:i=T.length
  ·subst e2;simp
  ·rw [if_neg e2]
   rcases Nat.lt_or_ge i T.length with h|h
   ·rw [List.getElem?_append_left (by simpa using h)];simp
   ·rw [List.getElem?_eq_none h,List.getElem?_eq_none (by simp;omega)];rfl
theorem wW(P:List Int)(p i:Nat):kids (P++ [(p:Int)]) i=kids P i++if i=p then [P.length]else []:=by
 unfold kids;rw [List.length_append,List.length_singleton,List.range_succ,List.filter_append]
 congr 1
 ·apply List.filter_congr
  intro x hx;rw [List.getElem?_append_left (by simpa using hx)]
 ·by_cases e:i=p
  ·subst e;simp
  ·have:¬((p:Int)=(i:Int)):=by omega
   simp [e,this]
theorem mY.snoc{P:List Int}(h:mY P){p:Nat}(hp:p<P.length):mY (P++ [(p:Int)]):=by
 refine⟨by rw [List.getElem?_append_left (by omega)];exact h.root,fun i q hi hq=>?_⟩;rcases Nat.lt_or_ge i P.length with hl|hl
 ·rw [List.getElem?_append_left hl]at hq
  exact h.up i q hi hq
 ·have:i=P.length:=by
   rcases Nat.eq_or_lt_of_le hl with e|e
   ·exact e.symm
   ·rw [List.getElem?_eq_none (by simp;omega)]at hq;cases hq
  subst this;simp at hq;exact⟨p,hp,hq.symm⟩
theorem Shape.grown{T:List Nd}(h:Shape T){p:Nat}{pd:Nd}(hp:T[p]? =some pd):Shape (grown T p pd):=by
 have cI:=(lgeS hp).1;refine⟨by rw [kP hp];exact h.par.snoc (by rw [dG];exact cI),fun i nd hi=>?_⟩;rw [kP hp,wW,dG];rw [iB hp]at hi;by_cases e:i=p
 ·subst e
  rw [if_pos rfl]at hi⊢;cases hi;simp [h.ch i pd hp]
 ·rw [if_neg e]at hi⊢
  rw [List.append_nil];by_cases e2:i=T.length
  ·subst e2
   rw [if_pos rfl]at hi;cases hi
   symm
   apply List.eq_nil_iff_forall_not_mem.2;intro c hc;have:=gQ h.par hc;rw [dG]at this;omega
  ·rw [if_neg e2]at hi
   exact h.ch i nd hi
def gS(f:Nat->Nat):Nat->Nat
 |0=>0
 |n+1=>gS f n+f n
theorem jx{f g:Nat->Nat}{n:Nat}(h:∀i,i<n->f i=g i):gS f n=gS g n:=by
 induction n with
 |zero=>rfl
 |succ n ih=>
  simp only [gS];rw [ih (fun i hi=>h i (by omega)),h n (by omega)]
theorem wg(f g:Nat->Nat)(n:Nat):gS (fun i=>f i+g i) n=gS f n+gS g n:=by
 induction n with
 |zero=>rfl
 |succ n ih=>simp only [gS];omega
theorem kr{f:Nat->Nat}{n:Nat}(h:∀i,i<n->f i=0):gS f n=0:=by
 induction n with
 |zero=>rfl
 |succ n ih=>
  simp only [gS];rw [ih (fun i hi=>h i (by omega)),h n (by omega)]
theorem Bk(h:Nat->Nat->Nat)(n m:Nat):gS (fun i=>gS (fun j=>h i j) m) n=gS (fun j=>gS (fun i=>h i j) n) m:=by
 induction n with
 |zero=>simp only [gS];exact(kr fun _ _=>rfl).symm
 |succ n ih=>
  simp only [gS];rw [ih,wg]
theorem we{n k:Nat}(hk:k<n){f:Nat->Nat}(h:∀i,i<n->i≠k->f i=0):gS f n=f k:=by
 induction n with
 |zero=>omega
 |succ n ih=>
  simp only [gS];rcases Nat.lt_or_ge k n with cI|iG
  ·rw [ih cI (fun i hi=>h i (by omega)),h n (by omega) (by omega),Nat.add_zero]
  ·have:k=n:=by omega
   subst this;rw [kr (fun i hi=>h i (by omega) (by omega)),Nat.zero_add]
theorem Gh{f:Nat->Nat}{n b:Nat}(h:∀i,i<n->f i<=b):gS f n<=n*b:=by
 induction n with
 |zero=>simp [gS]
 |succ n ih=>
  simp only [gS];have:=ih (fun i hi=>h i (by omega));have:=h n (by omega);rw [Nat.succ_mul];omega
theorem Ds{f f':Nat->Nat}{n k:Nat}(hk:k<n){v:Nat}(h:∀i,i<n->i≠k->f' i=f i)(hv:f' k=f k+v):gS f' n=gS f n+v:=by
 induction n with
 |zero=>omega
 |succ n ih=>
  simp only [gS];rcases Nat.lt_or_ge k n with cI|iG
  ·rw [ih cI (fun i hi=>h i (by omega)),h n (by omega) (by omega)]
   omega
  ·have:k=n:=by omega
   subst this;rw [jx (fun i hi=>h i (by omega) (by omega)),hv];omega
theorem p7(q:Nat->Bool)(f:Nat->Nat)(n:Nat):(((List.range n).filter q).map f).sum=gS (fun c=>if q c=true then f c else 0) n:=by
 induction n with
 |zero=>rfl
 |succ n ih=>
  rw [List.range_succ,List.filter_append,List.map_append,List.sum_append,ih];simp only [gS]
  congr 1
  by_cases h:q n=true
  ·simp [h]
  ·simp [h]
section
variable{P:List Int}
theorem jf.cmp{i a b:Nat}(h:jf P i a)(h':jf P i b):jf P a b\/jf P b a:=by
 induction h with
 |refl=>exact .inl h'
 | @step i j k hp h2 ih=>
   by_cases e:i=b
   ·subst e;exact .inr (.step hp h2)
   ·exact ih (h'.inv e hp)
theorem jf.one(hP:mY P){i n c c':Nat}(hc:P[c]? =some (n:Int))(sD:P[c']? =some (n:Int))(h:jf P i c)(h':jf P i c'):c=c':=by
 have key:∀(c c':Nat),P[c]? =some (n:Int)->P[c']? =some (n:Int)->jf P c c'->c=c':=by
  intro c c' hc sD h;by_cases e:c=c'
  ·exact e
  ·have:=(h.inv e hc).le hP
   have:=(gQ hP (dH.2 sD)).1;omega
 rcases h.cmp h' with h|h
 ·exact key c c' hc sD h
 ·exact(key c' c sD hc h).symm
open Classical in
noncomputable def ind(p:Prop):Nat:=if p then 1 else 0
theorem pH{p:Prop}(h:p):ind p=1:=by unfold ind;rw [if_pos h]
theorem qq{p:Prop}(h:¬p):ind p=0:=by unfold ind;rw [if_neg h]
theorem Kj(p:Prop):ind p<=1:=by unfold ind;split<;>omega
noncomputable def sz(P:List Int)(n:Nat):Nat:=gS (fun i=>ind (jf P i n)) P.length
theorem yh(hP:mY P){n:Nat}(hn:n<P.length):sz P n=1+gS (fun c=>if P[c]? =some (n:Int)then sz P c else 0) P.length:=by
 have e1:∀i,i<P.length->ind (jf P i n)=ind (i=n)+gS (fun c=>if P[c]? =some (n:Int)then ind (jf P i c)else 0) P.length:=by
  intro i hi;by_cases e:i=n
  ·subst e
   rw [pH (.refl hi),pH rfl,kr];intro c hc;split
   ·rename_i hp
    apply qq;intro hu;have:=hu.le hP;have:=(gQ hP (dH.2 hp)).1;omega
   ·rfl
  ·rw [qq e,Nat.zero_add]
   by_cases hu:jf P i n
   ·obtain⟨c,hc,Iw⟩:=hu.child e
    rw [pH hu,we (k:=c) Iw.Rs]
    ·rw [if_pos (dH.1 hc),pH Iw]
    ·intro c' _ fG
     split
     ·rename_i hp
      exact qq fun h=>fG (jf.one hP hp (dH.1 hc) h Iw)
     ·rfl
   ·rw [qq hu,kr]
    intro c hc;split
    ·rename_i hp
     exact qq fun h=>hu (h.trans (.step hp (.refl hn)))
    ·rfl
 have e2:sz P n=gS (fun i=>ind (i=n)+gS (fun c=>if P[c]? =some (n:Int)then ind (jf P i c)else 0) P.length) P.length:=by
  unfold sz;exact jx e1
 rw [e2,wg,we (k:=n) hn (fun i _ h=>qq h),pH rfl,Bk]
 congr 1
 apply jx;intro c _;split
 ·rfl
 ·exact kr fun _ _=>rfl
theorem rP(hP:mY P){n:Nat}(hn:n<P.length):1<=sz P n:=by rw [yh hP hn];omega
theorem uv(n:Nat):sz P n<=P.length:=by
 have:=Gh (n:=P.length) (b:=1) (f:=fun i=>ind (jf P i n)) (fun i _=>Kj _);unfold sz;omega
theorem zU(hP:mY P){n:Nat}(hn:n<P.length):((kids P n).map (sz P)).sum+1=sz P n:=by
 unfold kids;rw [p7,yh hP hn,Nat.add_comm]
 congr 1
 apply jx;intro c _;by_cases h:P[c]? =some (n:Int)
 ·simp [h]
 ·simp [h]
noncomputable def part(P:List Int)(m j:Nat):Nat:=gS (fun c=>if P[c]? =some (j:Int)/\m<=c then sz P c else 0) P.length
theorem BI(j:Nat):part P P.length j=0:=kr fun c hc=>if_neg fun h=>by omega
theorem r6(hP:mY P){m j:Nat}(hj:j<P.length)(hm:m<=j+1):part P m j+1=sz P j:=by
 rw [yh hP hj,Nat.add_comm]
 congr 1
 apply jx;intro c hc;by_cases h:P[c]? =some (j:Int)
 ·have:=(gQ hP (dH.2 h)).1
  rw [if_pos ⟨h,by omega⟩,if_pos h]
 ·rw [if_neg (fun e=>h e.1),if_neg h]
theorem DF{n p:Nat}(h:P[n]? =some (p:Int)):part P n p=part P (n+1) p+sz P n:=by
 unfold part;apply Ds (k:=n) (lgeS h).1
 ·intro i _ fG
  by_cases hi:P[i]? =some (p:Int)
  ·by_cases h2:n<=i
   ·rw [if_pos ⟨hi,h2⟩,if_pos ⟨hi,by omega⟩]
   ·rw [if_neg (fun e=>h2 e.2),if_neg (fun e=>by omega)]
  ·rw [if_neg (fun e=>hi e.1),if_neg (fun e=>hi e.1)]
 ·rw [if_pos ⟨h,Nat.le_refl _⟩,if_neg (fun e=>by omega),Nat.zero_add]
theorem yz{n j:Nat}(h:P[n]? ≠some (j:Int)):part P n j=part P (n+1) j:=by
 unfold part;apply jx;intro i _;by_cases hi:P[i]? =some (j:Int)
 ·have:i≠n:=fun e=>h (e▸hi)
  by_cases h2:n<=i
  ·rw [if_pos ⟨hi,h2⟩,if_pos ⟨hi,by omega⟩]
  ·rw [if_neg (fun e=>h2 e.2),if_neg (fun e=>by omega)]
 ·rw [if_neg (fun e=>hi e.1),if_neg (fun e=>hi e.1)]
noncomputable def gC(P:List Int)(m j:Nat):Nat:=if m<=j then sz P j else part P m j
theorem yo(j:Nat)(hj:j<P.length):gC P P.length j=0:=by
 unfold gC;rw [if_neg (by omega),BI]
theorem wq(j:Nat):gC P 0 j=sz P j:=by unfold gC;rw [if_pos (Nat.zero_le _)]
theorem BB(hP:mY P){n:Nat}(hn:n<P.length):gC P (n+1) n+1=sz P n:=by
 unfold gC;rw [if_neg (by omega),r6 hP hn (Nat.le_refl _)]
theorem BA(hP:mY P){n p:Nat}(h:P[n]? =some (p:Int))(j:Nat):gC P n j=if j=p then gC P (n+1) p+sz P n else if j=n then sz P n else gC P (n+1) j:=by
 have hp:=(gQ hP (dH.2 h)).1;unfold gC;by_cases e:j=p
 ·subst e
  rw [if_neg (by omega),if_pos rfl,if_neg (by omega),DF h]
 ·rw [if_neg e]
  by_cases e2:j=n
  ·subst e2;rw [if_pos (Nat.le_refl _),if_pos rfl]
  ·rw [if_neg e2]
   by_cases h2:n<=j
   ·rw [if_pos h2,if_pos (by omega)]
   ·rw [if_neg h2,if_neg (by omega)]
    exact yz (fun h'=>e (by rw [h]at h';have:=Option.some.inj h';omega))
theorem BC(j:Nat):gC P 0 j=if j=0 then sz P 0 else gC P 1 j:=by
 rw [wq];unfold gC;by_cases e:j=0
 ·subst e;rw [if_pos rfl]
 ·rw [if_neg e,if_pos (by omega)]
theorem zY(hP:mY P)(m j:Nat)(hj:j<P.length):gC P m j<=P.length:=by
 have h1:=uv (P:=P) j;unfold gC;split
 ·exact h1
 ·rename_i h
  have:=r6 hP (m:=m) hj;by_cases h2:m<=j+1
  ·have:=this h2;omega
  ·
   have h3:part P m j<=part P 0 j:=by
    unfold part;have:∀(f g:Nat->Nat) (n:Nat),(∀i,i<n->f i<=g i)->gS f n<=gS g n:=by
     intro f g n h
     induction n with
     |zero=>simp [gS]
     |succ n ih=>
      simp only [gS];have:=ih (fun i hi=>h i (by omega));have:=h n (by omega);omega
    apply this;intro i _;split
    ·rename_i h4;rw [if_pos ⟨h4.1,Nat.zero_le _⟩];exact Nat.le_refl _
    ·exact Nat.zero_le _
   have:=r6 hP (m:=0) hj (by omega);omega
end
theorem tH{α:Type}(f g:Nat->α){n k:Nat}{v:α}(hk:k<n)(h:∀i,i<n->g i=if i=k then v else f i):((List.range n).map f).set k v=(List.range n).map g:=by
 apply List.ext_getElem?;intro i;rw [List.getElem?_set];by_cases e:k=i
 ·subst e
  rw [if_pos rfl,if_pos (by simpa using hk)];simp [hk,h k hk]
 ·rw [if_neg e]
  rcases Nat.lt_or_ge i n with hi|hi
  ·have:=h i hi
   rw [if_neg (fun x=>e x.symm)]at this;simp [hi,this]
  ·rw [List.getElem?_eq_none (by simpa using hi),List.getElem?_eq_none (by simpa using hi)]
end Go.Proofs.YtfleamccglihoaaGreatDoor.Tr
namespace Go.bE
open Go.RowKit
theorem aY{σ:Type}(e:σ->Env)(I:σ->World->Prop)(μ:σ->World->Nat)(s:σ)(w:World)(Q:aM)(l:Nat)(ρ:Env)(w':World):bS e I μ s w Q (.exit l) ρ w'=Q (.exit l) ρ w':=rfl
def zeroOf(P:Program)(e:TypeId):Option (Array Value):=
 match P.info? e with
 |some i=>match i.zero with
  |some z=>some z.cells
  |none=>none
 |none=>none
theorem DR{P:Program}{t e:TypeId}{bytes:Nat}(T:AT P t e 1 bytes){z:Value}(hz:zeroOf P e=some #[z]){n:Nat}(hn:n<=maxLen)(hb:bytes*n<=281474976710656)(w:World):
 ∃w',(Instr.makeSlice t (.int .i64 (n:Int)) (.int .i64 (n:Int))).run P w=.ok (.slice (some ⟨w.heap.size,0,none⟩) n n) w'/\
  Row w' w.heap.size e 1 (some ⟨w.heap.size,0,none⟩) n n (List.replicate n z)/\Kept Nil w w':=by
 obtain⟨i,z',hi,Yk,hs,FV,FF⟩:=T.inf;have hc:z'.cells= #[z]:=by
  unfold zeroOf at hz;simp only [hi,Yk]at hz;exact Option.some.inj hz
 obtain⟨w',hr,fU,hg⟩:=run_make_full (P:=P) (w:=w) w.heap.size t e i z' 1 T.mW hi Yk hs .i64 .i64 n (by rw [FV];exact hb) hn (Nat.le_refl _);rw [hc,Nat.mul_one,toList_madeCells_one]at fU;exact⟨w',hr,fU,(Kept.refl Nil w).grown hg (fun k hk=>by cases hk)⟩
end Go.bE
namespace Go.Proofs.YtfleamccglihoaaGreatDoor.Tr
open Go.Proofs.Tryz
open Go Go.bE Go.RowKit
section
variable{w w':World}{S:Nat->Prop}{g:Nat}{T:List Nd}{d:Int}{K:Value->World->Prop}
theorem TV.bound{b c:Nat}{L:List (Nd×Value)}(h:TV w S g T d b c L):TV w (fun k=>S k/\k<w.heap.size) g T d b c L:= {
 top:=h.top
 fst:=h.fst
 row:=h.row
 oS:=fun i p hp=>let ⟨A,m,h1⟩:=h.oS i p hp;⟨A,m,h1.val,h1.row,fun k e=>⟨h1.jb k e,let ⟨_,_,hc⟩:=Row.bW h1.row e;a7 hc⟩⟩
 apart:=h.apart
 fX:=⟨h.fX,a7 h.top⟩
 fg:=⟨h.fg,let ⟨_,hc⟩:=h.ti;a7 hc⟩}
theorem TV.mono{S':Nat->Prop}{b c:Nat}{L:List (Nd×Value)}(h:TV w S g T d b c L)(hs:∀k,S k->S' k):TV w S' g T d b c L:= {
 top:=h.top
 fst:=h.fst
 row:=h.row
 oS:=fun i p hp=>let ⟨A,m,h1⟩:=h.oS i p hp;⟨A,m,h1.val,h1.row,fun k e=>hs k (h1.jb k e)⟩
 apart:=h.apart
 fX:=hs _ h.fX
 fg:=hs _ h.fg}
theorem mZ.bound(h:mZ w S g T d):mZ w (fun k=>S k/\k<w.heap.size) g T d:=let ⟨b,c,L,h⟩:=h;⟨b,c,L,h.bound⟩
theorem mZ.mono{S':Nat->Prop}(h:mZ w S g T d)(hs:∀k,S k->S' k):mZ w S' g T d:=let ⟨b,c,L,h⟩:=h;⟨b,c,L,h.mono hs⟩
def us(f:Nat->Nat)(n:Nat):List Value:=(List.range n).map fun j=>.int .u64 (f j:Int)
theorem np(f:Nat->Nat){n j:Nat}(hj:j<n):(us f n)[j]? =some (.int .u64 (f j:Int)):=by simp [us,hj]
theorem nn(f:Nat->Nat)(n:Nat):(us f n).length=n:=by simp [us]
theorem u9{f f':Nat->Nat}{n k:Nat}(hk:k<n)(h:∀i,i<n->i≠k->f' i=f i):(us f n).set k (.int .u64 (f' k:Int))=us f' n:=by
 unfold us;apply tH _ _ hk;intro i hi;by_cases e:i=k
 ·subst e;rw [if_pos rfl]
 ·rw [if_neg e,h i hi e]
theorem M5:AT prog xQ gM 1 8:=⟨by kernel_rfl,by kernel_rfl⟩
set_option maxRecDepth 100000 in
theorem yf(h:mZ w S g T d)(hP:mY (bG T))(hlen:T.length<=1000000)
 (hK:∀w' A,Row w' w.heap.size gM 1 A T.length T.length (us (sz (bG T)) T.length)->Kept Nil w w'->K (.slice A T.length T.length) w'):
 bf prog bg.id #[.pointer (some ⟨g,0,none⟩)] w K:=by
 obtain⟨b,c,L,h0⟩:=h;have rF:=dG T;obtain⟨w5,CW,qg,k5⟩:=DR M5 (z:=.int .u64 0) (by kernel_rfl) (n:=T.length) (by unfold maxLen;omega) (by omega) w;refine bg.of (h0.go ⟨_,_,_,w5,CW,?_⟩);have h5:=h0.kept k5;refine h5.go ?_;generalize hA:(⟨w.heap.size,0,none⟩:Addr)=A at*;refine bg.b9 (e:=some A) (i:=T.length) (I:=fun i w'=>∃m:Nat,i=(T.length:Int)-m/\m<=T.length/\Row w' w.heap.size gM 1 (some A) T.length T.length (us (gC (bG T) m) T.length)/\Kept Nil w w')
  (μ:=fun i _=>((T.length:Int)-i).toNat) (s:=0) ⟨T.length,by omega,Nat.le_refl _,?_,k5⟩ ?_
 ·have:List.replicate T.length (Value.int .u64 0)=us (gC (bG T) T.length) T.length:=by
   apply List.ext_getElem?;intro j;rcases Nat.lt_or_ge j T.length with hj|hj
   ·rw [np _ hj,<-rF,yo j (by omega)]
    simp [rF,hj]
   ·rw [List.getElem?_eq_none (by simpa using hj),List.getElem?_eq_none (by rw [nn];exact hj)]
  rw [<-this];exact qg
 ·rintro i w' ⟨m,rfl,hm,row,kw⟩
  have h':=h0.kept kw;refine Split.dec (fun cI=>?_) (fun iG=>?_)
  ·
   obtain⟨n,rfl⟩:∃n,m=n+1:=⟨m-1,by omega⟩;have hn:n<T.length:=by omega
   refine h'.go ?_;have ew:i64.wrap (i64.wrap ((T.length:Int)-1)-((T.length:Int)-((n+1:Nat):Int)))=(n:Int):=by
    rw [iF (x:=(T.length:Int)-1) (by omega) (by omega),iF (by omega) (by omega)];omega
   rw [ew];have hb:0<=(n:Int)/\(n:Int)<(T.length:Int):=⟨by omega,by omega⟩;subst hA;have Pr:n<(us (gC (bG T) (n+1)) T.length).length:=by rw [nn];exact hn
   refine⟨hb,_,by rw [kX,Int.toNat_natCast,Nat.mul_one];exact Row.cell row (np _ hn),hb,by rw [kX,Int.toNat_natCast,Nat.mul_one];exact Row.wr row Pr,?_⟩;intro vO;have ZT:vO=w'.setCell ⟨w.heap.size,n,none⟩ (.int .u64 (u64.wrap ((gC (bG T) (n+1) n:Int)+1))):=by simp only [vO,kX,Int.toNat_natCast,Nat.mul_one]
   have YF:=BB hP (n:=n) (by omega);have hle:gC (bG T) (n+1) n<=(bG T).length:=zY hP _ _ (by omega);have lK:=Row.set row Pr (.int .u64 (u64.wrap ((gC (bG T) (n+1) n:Int)+1)));rw [<-ZT]at lK;have Ij:Kept Nil w vO:=by rw [ZT];exact kw.setCell (fun hh=>absurd hh (Nat.lt_irrefl _)) _
   clear_value vO;rw [dZ (x:=(gC (bG T) (n+1) n:Int)+1) (by omega) (by omega)]at lK;rw [show(gC (bG T) (n+1) n:Int)+1=((if n=n then sz (bG T) n else gC (bG T) (n+1) n:Nat):Int)from by rw [if_pos rfl];omega,
    u9 (f':=fun j=>if j=n then sz (bG T) n else gC (bG T) (n+1) j) hn (fun i _ fG=>by rw [if_neg fG])]at lK
   have Lv:=h0.kept Ij;obtain⟨nd,gJ⟩:=eR hn;obtain⟨v,hv⟩:=Lv.at_ gJ;refine Lv.go ⟨hb,Lv.E5 hv ?_⟩;have oB:=jJ gJ;refine Split.dec (fun hp=>?_) (fun hp=>?_)
   ·
    have Aw:0<n:=by
     rcases Nat.eq_zero_or_pos n with rfl|h
     ·rw [hP.root]at oB;have:=Option.some.inj oB;omega
     ·exact h
    obtain⟨p,RP,ep⟩:=hP.up n _ Aw oB;rw [ep]at hp⊢;have hpp:(bG T)[n]? =some (p:Int):=by rw [oB,ep]
    intro Fz;have D7:Kept Nil w Fz:=Ij.drew;have z6:Row Fz w.heap.size gM 1 (some ⟨w.heap.size,0,none⟩) T.length T.length (us (fun j=>if j=n then sz (bG T) n else gC (bG T) (n+1) j) T.length):=lK;clear_value Fz;have IX:0<=(p:Int)/\(p:Int)<(T.length:Int):=⟨by omega,by omega⟩;have Pq:p<(us (fun j=>if j=n then sz (bG T) n else gC (bG T) (n+1) j) T.length).length:=by rw [nn];omega
    have gp:=np (fun j=>if j=n then sz (bG T) n else gC (bG T) (n+1) j) (n:=T.length) (j:=p) (by omega);have gn:=np (fun j=>if j=n then sz (bG T) n else gC (bG T) (n+1) j) (n:=T.length) (j:=n) (by omega);simp only [if_neg (show p≠n by omega)]at gp;simp only [if_pos]at gn;refine⟨IX,_,by rw [kX,Int.toNat_natCast,Nat.mul_one];exact Row.cell z6 gp,hb,_,by rw [kX,Int.toNat_natCast,Nat.mul_one];exact Row.cell z6 gn,IX,by rw [kX,Int.toNat_natCast,Nat.mul_one];exact Row.wr z6 Pq,?_⟩;intro tF;have ZR:tF=Fz.setCell ⟨w.heap.size,p,none⟩ (.int .u64 (u64.wrap ((gC (bG T) (n+1) p:Int)+(sz (bG T) n:Int)))):=by simp only [tF,kX,Int.toNat_natCast,Nat.mul_one]
    have DD:=Row.set z6 Pq (.int .u64 (u64.wrap ((gC (bG T) (n+1) p:Int)+(sz (bG T) n:Int))));rw [<-ZR]at DD;have Me:Kept Nil w tF:=by rw [ZR];exact D7.setCell (fun hh=>absurd hh (Nat.lt_irrefl _)) _
    clear_value tF;have acv:gC (bG T) (n+1) p<=(bG T).length:=zY hP _ _ (by omega);have acu:sz (bG T) n<=(bG T).length:=uv _;have oo:=BA hP hpp;have CS:=oo p;rw [if_pos rfl]at CS;rw [dZ (x:=(gC (bG T) (n+1) p:Int)+(sz (bG T) n:Int)) (by omega) (by omega),
     show(gC (bG T) (n+1) p:Int)+(sz (bG T) n:Int)=(gC (bG T) n p:Int)from by omega,
     u9 (f':=gC (bG T) n) (by omega) (fun i _ fG=>by rw [oo i,if_neg fG])]at DD
    rw [iF (x:=(T.length:Int)-((n+1:Nat):Int)+1) (by omega) (by omega)];exact⟨_,rfl,⟨n,by omega,by omega,DD,Me⟩,by simp only;omega⟩
   ·
    have Aw:n=0:=by
     rcases Nat.eq_zero_or_pos n with h|h
     ·exact h
     ·obtain⟨p,_,ep⟩:=hP.up n _ h oB
      omega
    subst Aw;have:us (fun j=>if j=0 then sz (bG T) 0 else gC (bG T) (0+1) j) T.length=us (gC (bG T) 0) T.length:=by
     congr 1
     funext j
     rw [BC]
    rw [this]at lK;rw [iF (x:=(T.length:Int)-((0+1:Nat):Int)+1) (by omega) (by omega)];exact⟨_,rfl,⟨0,by omega,by omega,lK,Ij⟩,by simp only;omega⟩
  ·have:m=0:=by omega
   subst this;rw [aY,bg.dw];refine hK w' (some A) ?_ kw;have e:gC (bG T) 0=sz (bG T):=funext wq;rw [e]at row;exact row
end
section
variable{w:World}{K:Value->World->Prop}
theorem bf.wF{f:FuncId}{args:Array Value}{v:Value}(h:Calls prog f args w fun e w'=>e=.returned v/\w'=w)(hK:K v w):bf prog f args w K:=
 h.mono fun e w' ⟨he,hw⟩=>⟨v,he,by rw [hw];exact hK⟩
theorem ub(x y:Nat)(hx:x<18446744073709551616)(hy:y<18446744073709551616)
 (hK:K (.tuple #[.int .u64 ((x*y/18446744073709551616:Nat):Int),.int .u64 ((x*y%18446744073709551616:Nat):Int)]) w):
 bf prog bits_Mul64.id #[.int .u64 x,.int .u64 y] w K:=bf.wF (Any.bits_Mul64 Tryz.Gw x y hx hy w) hK
theorem uc(x:Nat)(hx:x<18446744073709551616)(hK:K (.int .i64 (Lib.bitLen x)) w):bf prog bits_Len64.id #[.int .u64 x] w K:=
 bf.wF (Any.bits_Len64 Tryz.Gx x w (by omega) (by omega)) hK
end
theorem nR:∀(f x:Nat),x<2 ^ f->x<2 ^ (Lib.bitLenAux f x)/\(x≠0->2 ^ (Lib.bitLenAux f x)<=2*x)
 |0,x,h=>by simp at h;subst h;simp [Lib.bitLenAux]
 |f+1,x,h=>by
  unfold Lib.bitLenAux;by_cases e:x=0
  ·simp [e]
  ·rw [if_neg e]
   have ih:=nR f (x/2) (by rw [Nat.pow_succ]at h;omega);rw [Nat.pow_add,Nat.pow_one];refine⟨by omega,fun _=>?_⟩;by_cases e2:x/2=0
   ·have:x=1:=by omega
    subst this;cases f<;>simp [Lib.bitLenAux]
   ·have:=ih.2 e2
    omega
theorem bitLen_spec{y:Nat}(h0:y≠0)(hy:y<18446744073709551616):1<=Lib.bitLen y/\Lib.bitLen y<=64/\9223372036854775808<=y*2 ^ (64-Lib.bitLen y)/\y*2 ^ (64-Lib.bitLen y)<18446744073709551616:=by
 have hs:=nR 64 y (by omega);have hle:=Lib.bitLenAux_le 64 y 64 (by omega)
 change Lib.bitLen y<=64 at hle
 change y<2 ^ (Lib.bitLen y)/\(y≠0->2 ^ (Lib.bitLen y)<=2*y)at hs
 have yP:=hs.2 h0;have hp:2 ^ Lib.bitLen y*2 ^ (64-Lib.bitLen y)=18446744073709551616:=by
  rw [<-Nat.pow_add,show Lib.bitLen y+(64-Lib.bitLen y)=64 by omega]
 have kl:0<2 ^ (64-Lib.bitLen y):=Nat.pow_pos (by omega);refine⟨?_,hle,?_,?_⟩
 ·rcases Nat.eq_zero_or_pos (Lib.bitLen y)with e|e
  ·rw [e]at hs;simp at hs;omega
  ·exact e
 ·have:=Nat.mul_le_mul_right (2 ^ (64-Lib.bitLen y)) yP
  rw [hp,Nat.mul_assoc]at this;omega
 ·rw [<-hp]
  exact Nat.mul_lt_mul_of_pos_right hs.1 kl
section
variable{Y n1 n0 u u1 q r:Nat}
theorem Fa(hY:Y=n1*4294967296+n0):q*Y=q*n1*4294967296+q*n0:=by rw [hY,Nat.mul_add,Nat.mul_assoc]
theorem ZZ(hY:Y=n1*4294967296+n0)(hq:q*n1+r=u)(h:q*n0<=4294967296*r+u1):q*Y<=u*4294967296+u1:=by rw [Fa hY];omega
theorem ZY(hY:Y=n1*4294967296+n0)(hq:q*n1+r=u)(h:4294967296*r+u1<q*n0):u*4294967296+u1<q*Y:=by rw [Fa hY];omega
theorem WV(hu:u<Y)(FJ:u1<4294967296)(h:4294967296<=q):u*4294967296+u1<q*Y:=by
 have:=Nat.mul_le_mul_right Y h;omega
theorem ZX(hY:Y=n1*4294967296+n0)(Aw:n0<4294967296)(hu:u<Y)(hq:q*n1+r=u)(hr:4294967296<=r):q*Y<=u*4294967296+u1:=by
 have h1:q*n1<4294967296*n1:=by omega
 have h2:q<4294967296:=Nat.lt_of_mul_lt_mul_right h1;have h3:q*n0<=4294967296*4294967296:=Nat.mul_le_mul (by omega) (by omega);rw [Fa hY];omega
theorem Jb(hu:u<Y)(FJ:u1<4294967296)(h:q*Y<=u*4294967296+u1):q<4294967296:=by
 rcases Nat.lt_or_ge q 4294967296 with h'|h'
 ·exact h'
 ·have:=WV hu FJ h';omega
theorem xF(FO:2147483648<=n1)(hu:u<18446744073709551616)(hq:q*n1+r=u):q<8589934592:=by
 rcases Nat.lt_or_ge q 8589934592 with h|h
 ·exact h
 ·have:=Nat.mul_le_mul h FO
  omega
end
theorem Ct{Y n1 n0 u u1:Nat}{quo rem s Dh MX:Int}{Q:aM}{w:World}(hY:Y=n1*4294967296+n0)(Aw:n0<4294967296)(FO:2147483648<=n1)(Hc:n1<4294967296)(hu:u<Y)(hY':Y<18446744073709551616)(FJ:u1<4294967296)
 (hex:∀q r:Nat,q*Y<=u*4294967296+u1->u*4294967296+u1<(q+1)*Y->Q (.exit 0) (aT.e1 (Y:Int) quo rem s n1 n0 Dh u1 MX ((q:Int),(r:Int))) w)
 (q0 r0:Nat) (h0:q0*n1+r0=u) (Wg:u*4294967296+u1<(q0+1)*Y) (rl:r0<4294967296):
 Holds none [] prog 135 (.loop (lB (bB (sL (dW (cS (aZ (body aT.fn)))))))) Q (aT.e1 (Y:Int) quo rem s n1 n0 Dh u1 MX ((q0:Int),(r0:Int))) w:=by
 refine aT.b9 (I:=fun s w'=>w'=w/\∃q r:Nat,s=((q:Int),(r:Int))/\q*n1+r=u/\u*4294967296+u1<(q+1)*Y/\r<4294967296)
  (μ:=fun s _=>s.1.toNat) (s:=((q0:Int),(r0:Int))) ⟨rfl,q0,r0,rfl,h0,Wg,rl⟩ ?_
 rintro s w' ⟨hw,q,r,rfl,hq,hX,hr⟩;subst hw;have Ux:=xF FO (by omega) hq;have down:u*4294967296+u1<q*Y->∃q' r':Nat,u64.wrap ((q:Int)-1)=(q':Int)/\u64.wrap ((r:Int)+(n1:Int))=(r':Int)/\q'*n1+r'=u/\u*4294967296+u1<(q'+1)*Y/\q'<q:=by
  intro h;have IC:1<=q:=by
   rcases Nat.eq_zero_or_pos q with e|e
   ·rw [e]at h;omega
   ·exact e
  refine⟨q-1,r+n1,?_,?_,?_,?_,by omega⟩
  ·rw [dZ (by omega) (by omega)];omega
  ·rw [dZ (by omega) (by omega)];omega
  ·have:q*n1=(q-1)*n1+n1:=by
    obtain⟨k,rfl⟩:∃k,q=k+1:=⟨q-1,by omega⟩;rw [Nat.succ_mul];rfl
   omega
  ·rwa [show q-1+1=q by omega]
 have step:∀q' r':Nat,q'*n1+r'=u->u*4294967296+u1<(q'+1)*Y->q'<q->∀b:Bool,b=decide ((r':Int)>=4294967296)->
  Split b (Q (.exit 0) (aT.e1 (Y:Int) quo rem s n1 n0 Dh u1 MX ((q':Int),(r':Int))) w') (bS (aT.e1 (Y:Int) quo rem s n1 n0 Dh u1 MX) (fun s kZ=>kZ=w'/\∃q r:Nat,s=((q:Int),(r:Int))/\q*n1+r=u/\u*4294967296+u1<(q+1)*Y/\r<4294967296) (fun s _=>s.1.toNat) ((q:Int),(r:Int)) w' Q .normal (aT.e1 (Y:Int) quo rem s n1 n0 Dh u1 MX ((q':Int),(r':Int))) w'):=by
  intro q' r' h1 h2 h3 b hb;subst hb;refine Split.dec (fun iG=>?_) (fun cI=>?_)
  ·exact hex q' r' (ZX hY Aw hu h1 (by omega)) h2
  ·exact⟨_,rfl,⟨rfl,q',r',rfl,h1,h2,by omega⟩,by simp only;omega⟩
 refine Split.dec (fun iG=>?_) (fun cI=>?_)
 ·obtain⟨q',r',eq,er,h1,h2,h3⟩:=down (WV hu FJ (by simp only at iG;omega))
  simp only [eq,er];exact step q' r' h1 h2 h3 _ rfl
 ·simp only at cI
  have hqn:q*n0<18446744073709551616:=by
   have:q*n0<=4294967295*4294967295:=Nat.mul_le_mul (by omega) (by omega);omega
  have e1:u64.wrap ((q:Int)*(n0:Int))=((q*n0:Nat):Int):=by rw [<-Int.natCast_mul,dZ (by omega) (by omega)]
  have e2:u64.wrap (u64.wrap (4294967296*(r:Int))+(u1:Int))=((4294967296*r+u1:Nat):Int):=by
   rw [dZ (x:=4294967296*(r:Int)) (by omega) (by omega),dZ (by omega) (by omega)];omega
  simp only [e1,e2];refine Split.dec (fun xn=>?_) (fun hle=>?_)
  ·obtain⟨q',r',eq,er,h1,h2,h3⟩:=down (ZY hY hq (by omega))
   simp only [eq,er];exact step q' r' h1 h2 h3 _ rfl
  ·exact hex q r (ZZ hY hq (by omega)) hX
theorem Cs{Y n1 n0 u u1:Nat}{quo rem s q1 Di:Int}{Q:aM}{w:World}(hY:Y=n1*4294967296+n0)(Aw:n0<4294967296)(FO:2147483648<=n1)(Hc:n1<4294967296)(hu:u<Y)(hY':Y<18446744073709551616)(FJ:u1<4294967296)
 (hex:∀q r:Nat,q*Y<=u*4294967296+u1->u*4294967296+u1<(q+1)*Y->Q (.exit 2) (aT.e2 (Y:Int) quo rem s n1 n0 u1 q1 Di ((r:Int),(q:Int))) w)
 (q0 r0:Nat) (h0:q0*n1+r0=u) (Wg:u*4294967296+u1<(q0+1)*Y) (rl:r0<4294967296):
 Holds none [] prog 135 (.loop (lB (bB (sL (dW (dW (aZ (body aT.fn)))))))) Q (aT.e2 (Y:Int) quo rem s n1 n0 u1 q1 Di ((r0:Int),(q0:Int))) w:=by
 refine aT.iK (I:=fun s w'=>w'=w/\∃q r:Nat,s=((r:Int),(q:Int))/\q*n1+r=u/\u*4294967296+u1<(q+1)*Y/\r<4294967296)
  (μ:=fun s _=>s.2.toNat) (s:=((r0:Int),(q0:Int))) ⟨rfl,q0,r0,rfl,h0,Wg,rl⟩ ?_
 rintro s w' ⟨hw,q,r,rfl,hq,hX,hr⟩;subst hw;have Ux:=xF FO (by omega) hq;have down:u*4294967296+u1<q*Y->∃q' r':Nat,u64.wrap ((q:Int)-1)=(q':Int)/\u64.wrap ((r:Int)+(n1:Int))=(r':Int)/\q'*n1+r'=u/\u*4294967296+u1<(q'+1)*Y/\q'<q:=by
  intro h;have IC:1<=q:=by
   rcases Nat.eq_zero_or_pos q with e|e
   ·rw [e]at h;omega
   ·exact e
  refine⟨q-1,r+n1,?_,?_,?_,?_,by omega⟩
  ·rw [dZ (by omega) (by omega)];omega
  ·rw [dZ (by omega) (by omega)];omega
  ·have:q*n1=(q-1)*n1+n1:=by
    obtain⟨k,rfl⟩:∃k,q=k+1:=⟨q-1,by omega⟩;rw [Nat.succ_mul];rfl
   omega
  ·rwa [show q-1+1=q by omega]
 have step:∀q' r':Nat,q'*n1+r'=u->u*4294967296+u1<(q'+1)*Y->q'<q->∀b:Bool,b=decide ((r':Int)>=4294967296)->
  Split b (Q (.exit 2) (aT.e2 (Y:Int) quo rem s n1 n0 u1 q1 Di ((r':Int),(q':Int))) w') (bS (aT.e2 (Y:Int) quo rem s n1 n0 u1 q1 Di) (fun s kZ=>kZ=w'/\∃q r:Nat,s=((r:Int),(q:Int))/\q*n1+r=u/\u*4294967296+u1<(q+1)*Y/\r<4294967296) (fun s _=>s.2.toNat) ((r:Int),(q:Int)) w' Q .normal (aT.e2 (Y:Int) quo rem s n1 n0 u1 q1 Di ((r':Int),(q':Int))) w'):=by
  intro q' r' h1 h2 h3 b hb;subst hb;refine Split.dec (fun iG=>?_) (fun cI=>?_)
  ·exact hex q' r' (ZX hY Aw hu h1 (by omega)) h2
  ·exact⟨_,rfl,⟨rfl,q',r',rfl,h1,h2,by omega⟩,by simp only;omega⟩
 refine Split.dec (fun iG=>?_) (fun cI=>?_)
 ·obtain⟨q',r',eq,er,h1,h2,h3⟩:=down (WV hu FJ (by simp only at iG;omega))
  simp only [eq,er];exact step q' r' h1 h2 h3 _ rfl
 ·simp only at cI
  have hqn:q*n0<18446744073709551616:=by
   have:q*n0<=4294967295*4294967295:=Nat.mul_le_mul (by omega) (by omega);omega
  have e1:u64.wrap ((q:Int)*(n0:Int))=((q*n0:Nat):Int):=by rw [<-Int.natCast_mul,dZ (by omega) (by omega)]
  have e2:u64.wrap (u64.wrap (4294967296*(r:Int))+(u1:Int))=((4294967296*r+u1:Nat):Int):=by
   rw [dZ (x:=4294967296*(r:Int)) (by omega) (by omega),dZ (by omega) (by omega)];omega
  simp only [e1,e2];refine Split.dec (fun xn=>?_) (fun hle=>?_)
  ·obtain⟨q',r',eq,er,h1,h2,h3⟩:=down (ZY hY hq (by omega))
   simp only [eq,er];exact step q' r' h1 h2 h3 _ rfl
  ·exact hex q r (ZZ hY hq (by omega)) hX
theorem Q6(a:Nat)(ha:a<18446744073709551616):u64.wrap ((BitVec.ofInt 64 (a:Int)&&& BitVec.ofInt 64 (4294967295:Int)).toNat:Int)=((a%4294967296:Nat):Int):=by
 have h:=bits_and_u64_nat a 4294967295 ha (by omega);have e:a&&& 4294967295=a%4294967296:=Nat.and_two_pow_sub_one_eq_mod a 32;rw [e]at h;exact h
theorem orN(a b s:Nat)(ha:a*2 ^ s<18446744073709551616)(hb:b<2 ^ s)(tY:b<18446744073709551616):
 u64.wrap ((BitVec.ofInt 64 ((a*2 ^ s:Nat):Int)|||BitVec.ofInt 64 (b:Int)).toNat:Int)=((a*2 ^ s+b:Nat):Int):=by
 have h:=bits_or_u64_nat (a*2 ^ s) b ha tY;rw [Nat.mul_comm,<-Nat.two_pow_add_eq_or_of_lt hb,Nat.mul_comm]at h;exact h
theorem M7(a k:Nat):Int.fdiv (a:Int) (2 ^ k)=((a/2 ^ k:Nat):Int):=by
 rw [Int.fdiv_eq_ediv_of_nonneg _ (by exact Int.le_of_lt (Int.pow_pos (by omega)))];rw [Int.natCast_ediv,Int.natCast_pow];rfl
theorem SM(a k:Nat):(a:Int)*2 ^ k=((a*2 ^ k:Nat):Int):=by rw [Int.natCast_mul,Int.natCast_pow];rfl
theorem WK{N u L u1 u0 v a b:Nat}(hN:N=u*18446744073709551616+L)(hL:L=u1*4294967296+u0)(hv:u*4294967296+u1-a=v)(ha:a<=u*4294967296+u1)(hb:b<=v*4294967296+u0):a*4294967296+b<=N:=by omega
theorem WJ{N u L u1 u0 v a b:Nat}(hN:N=u*18446744073709551616+L)(hL:L=u1*4294967296+u0)(hv:u*4294967296+u1-a=v)(ha:a<=u*4294967296+u1)(hb:v*4294967296+u0<b):N<a*4294967296+b:=by omega
section
variable{w:World}{K:Value->World->Prop}
theorem mw(x:Nat)(hx:x<18446744073709551616)(hK:K (.int .i64 ((64-Lib.bitLen x:Nat):Int)) w):bf prog bits_LeadingZeros64.id #[.int .u64 x] w K:=by
 refine bits_LeadingZeros64.of (uc x hx ⟨_,rfl,?_⟩);have hle:=Lib.bitLen_le x 64 (by omega) (by omega)
 rwa [iF (by omega) (by omega),show(64:Int)-(Lib.bitLen x:Int)=((64-Lib.bitLen x:Nat):Int)by omega]
theorem ud(hi lo y:Nat)(RT:lo<18446744073709551616)(hy:y<18446744073709551616)(Zc:hi<y)
 (hK:∀r w',Kept Nil w w'->K (.tuple #[.int .u64 (((hi*18446744073709551616+lo)/y:Nat):Int),.int .u64 r]) w'):
 bf prog aT.id #[.int .u64 hi,.int .u64 lo,.int .u64 y] w K:=by
 refine aT.of (Split.no (beq_eq_false_iff_ne.2 (by omega)) (Split.no (decide_eq_false (by omega)) ?_));by_cases h0:hi=0
 ·subst h0
  refine Split.yes rfl ?_;intro w6;refine⟨by omega,by omega,?_⟩;have e:u64.wrap ((lo:Int).tdiv (y:Int))=(((0*18446744073709551616+lo)/y:Nat):Int):=by
   rw [Int.tdiv_eq_ediv_of_nonneg (by omega),Nat.zero_mul,Nat.zero_add,<-Int.natCast_ediv];have:=Nat.div_le_self lo y;generalize lo/y=z at*;exact dZ (by omega) (by omega)
  rw [e];exact hK _ w6 (Kept.refl Nil w).drew
 ·refine Split.no (beq_eq_false_iff_ne.2 (by omega)) (mw y hy ⟨_,rfl,?_⟩)
  obtain⟨I5,VY,hY1,hY2⟩:=bitLen_spec (y:=y) (by omega) hy;have hs:64-Lib.bitLen y<64:=by omega
  generalize 64-Lib.bitLen y=s at*;have eS:u64.wrap (s:Int)=(s:Int):=dZ (by omega) (by omega);have eS2:u64.wrap ((64:Int)-(s:Int))=((64-s:Nat):Int):=by rw [dZ (by omega) (by omega)];omega
  have em1:min s 64=s:=by omega
  have em2:min (64-s) 64=64-s:=by omega
  have em3:min (32:Int).toNat 64=32:=rfl;have Mq:2 ^ (64-s)*2 ^ s=18446744073709551616:=by rw [<-Nat.pow_add,show 64-s+s=64 by omega]
  have kl:0<2 ^ s:=Nat.pow_pos (by omega);have OR:0<2 ^ (64-s):=Nat.pow_pos (by omega);simp only [eS,eS2,Int.toNat_natCast,em1,em2,em3,SM];generalize Zw:y*2 ^ s=Y at*;have hhs:hi*2 ^ s<18446744073709551616:=by
   have:hi*2 ^ s<y*2 ^ s:=Nat.mul_lt_mul_of_pos_right Zc kl;omega
  have hlq:lo/2 ^ (64-s)<2 ^ s:=by
   rw [Nat.div_lt_iff_lt_mul OR,Nat.mul_comm,Mq];exact RT
  have U5:lo/2 ^ (64-s)<18446744073709551616:=Nat.lt_of_le_of_lt (Nat.div_le_self _ _) RT;have eY:u64.wrap (Y:Int)=(Y:Int):=dZ (by omega) (by omega);have eH:u64.wrap ((hi*2 ^ s:Nat):Int)=((hi*2 ^ s:Nat):Int):=dZ (by omega) (by omega);have eL:u64.wrap ((lo*2 ^ s:Nat):Int)=((lo*2 ^ s%18446744073709551616:Nat):Int):=by rw [IntKind.wrap_u64];omega
  have WU:∀a:Nat,Int.fdiv (a:Int) (2 ^ 32)=((a/4294967296:Nat):Int):=fun a=>M7 a 32;simp only [eY,eH,eL,WU,M7 lo,orN hi _ s hhs hlq U5,Q6 Y (by omega),Q6 _ (Nat.mod_lt (lo*2 ^ s) (by omega:18446744073709551616>0))];have hN:(hi*18446744073709551616+lo)*2 ^ s=(hi*2 ^ s+lo/2 ^ (64-s))*18446744073709551616+lo*2 ^ s%18446744073709551616:=by
   have h1:lo*2 ^ s/18446744073709551616=lo/2 ^ (64-s):=by
    rw [<-Mq,Nat.mul_div_mul_right _ _ kl]
   have h2:=Nat.div_add_mod (lo*2 ^ s) 18446744073709551616;rw [h1]at h2;rw [Nat.add_mul,Nat.mul_right_comm];omega
  have ads:(hi*18446744073709551616+lo)*2 ^ s<Y*18446744073709551616:=by
   have h1:hi*18446744073709551616+lo<y*18446744073709551616:=by omega
   have:=Nat.mul_lt_mul_of_pos_right h1 kl;rw [Nat.mul_right_comm,Zw]at this;exact this
  have IB:(hi*18446744073709551616+lo)*2 ^ s/Y=(hi*18446744073709551616+lo)/y:=by rw [<-Zw,Nat.mul_div_mul_right _ _ kl]
  rw [<-IB]at hK;clear IB;generalize (hi*18446744073709551616+lo)*2 ^ s=N at*;have hL:lo*2 ^ s%18446744073709551616<18446744073709551616:=Nat.mod_lt _ (by omega);generalize lo*2 ^ s%18446744073709551616=L at*;generalize hi*2 ^ s+lo/2 ^ (64-s)=u at*;have hu:u<Y:=by omega
  have FO:2147483648<=Y/4294967296:=by omega
  have Hc:Y/4294967296<4294967296:=by omega
  have Aw:Y%4294967296<4294967296:=by omega
  have Wf:Y=Y/4294967296*4294967296+Y%4294967296:=by omega
  have FJ:L/4294967296<4294967296:=by omega
  have T4:L%4294967296<4294967296:=by omega
  have ZC:L=L/4294967296*4294967296+L%4294967296:=by omega
  generalize Y/4294967296=n1 at*;generalize Y%4294967296=n0 at*;generalize L/4294967296=u1 at*;generalize L%4294967296=u0 at*;have I9:∀v:Nat,v<18446744073709551616->u64.wrap ((v:Int).tdiv (n1:Int))=((v/n1:Nat):Int)/\u64.wrap ((v:Int)-u64.wrap (((v/n1:Nat):Int)*(n1:Int)))=((v%n1:Nat):Int)/\v/n1*n1+v%n1=v/\v%n1<n1:=by
   intro v hv;have h1:=Nat.div_le_self v n1;have h2:=Nat.div_add_mod' v n1;refine⟨?_,?_,h2,Nat.mod_lt _ (by omega)⟩
   ·rw [Int.tdiv_eq_ediv_of_nonneg (by omega),<-Int.natCast_ediv]
    generalize v/n1=z at*;exact dZ (by omega) (by omega)
   ·rw [<-Int.natCast_mul,dZ (x:=((v/n1*n1:Nat):Int)) (by omega) (by omega),dZ (by omega) (by omega)]
    omega
  have first:∀v d:Nat,v<Y->d<4294967296->v*4294967296+d<(v/n1+1)*Y:=by
   intro v d hv hd;have h2:=Nat.div_add_mod' v n1;have h3:=Nat.mod_lt v (show 0<n1 by omega);have h4:v+1<=(v/n1+1)*n1:=by rw [Nat.succ_mul];omega
   have h5:(v+1)*4294967296<=(v/n1+1)*n1*4294967296:=Nat.mul_le_mul_right _ h4;have h6:(v/n1+1)*n1*4294967296<=(v/n1+1)*Y:=by
    have h7:n1*4294967296<=Y:=Nat.le_trans (Nat.le_add_right _ n0) (Nat.le_of_eq Wf.symm);rw [Nat.mul_assoc];exact Nat.mul_le_mul_left _ h7
   omega
  obtain⟨g1,g2,g3,g4⟩:=I9 u (by omega);simp only [g1,g2];refine⟨by omega,by omega,by omega,by omega,by omega,by omega,by omega,?_⟩;refine Ct Wf Aw FO Hc hu (by omega) FJ ?_ (u/n1) (u%n1) g3 (first u u1 hu FJ) (by omega);intro q r IC Mo;rw [show aT.e1 (Y:Int) 0 0 (s:Int) (n1:Int) (n0:Int) (u:Int) (u1:Int) (u0:Int) ((q:Int),(r:Int))= [(2,.int .u64 (Y:Int)),(6,.int .u64 0),(7,.int .u64 0),(8,.int .u64 (s:Int)),(9,.int .u64 (n1:Int)),(10,.int .u64 (n0:Int)),(11,.int .u64 (u:Int)),(13,.int .u64 (u1:Int)),(14,.int .u64 (u0:Int)),(15,.int .u64 (q:Int)),(16,.int .u64 (r:Int))]from rfl];rw [aT.dw];have hqB:=Jb hu FJ IC;rw [Nat.succ_mul]at Mo;have hp:u64.wrap (u64.wrap (u64.wrap ((u:Int)*4294967296)+(u1:Int))-u64.wrap ((q:Int)*(Y:Int)))=((u*4294967296+u1-q*Y:Nat):Int):=by
   rw [<-Int.natCast_mul q Y];simp only [IntKind.wrap_u64];generalize q*Y=p at*;omega
  unfold aT.cU;simp only [hp];have hv:u*4294967296+u1-q*Y<Y:=by omega
  generalize Yv:u*4294967296+u1-q*Y=v at*;obtain⟨g1',g2',g3',g4'⟩:=I9 v (by omega);simp only [g1',g2'];refine⟨by omega,?_⟩;refine Cs Wf Aw FO Hc hv (by omega) T4 ?_ (v/n1) (v%n1) g3' (first v u0 hv T4) (by omega);intro q' r' OP Uy;rw [show aT.e2 (Y:Int) 0 0 (s:Int) (n1:Int) (n0:Int) (u0:Int) (q:Int) (v:Int) ((r':Int),(q':Int))= [(2,.int .u64 (Y:Int)),(6,.int .u64 0),(7,.int .u64 0),(8,.int .u64 (s:Int)),(9,.int .u64 (n1:Int)),(10,.int .u64 (n0:Int)),(14,.int .u64 (u0:Int)),(15,.int .u64 (q:Int)),(16,.int .u64 (r':Int)),(17,.int .u64 (v:Int)),(18,.int .u64 (q':Int))]from rfl];rw [aT.lI];have ab2:=Jb hv T4 OP;refine⟨by omega,?_⟩;have Uf:u64.wrap (u64.wrap ((q:Int)*4294967296)+(q':Int))=((N/Y:Nat):Int):=by
   rw [dZ (x:=(q:Int)*4294967296) (by omega) (by omega),dZ (by omega) (by omega)];have:N/Y=q*4294967296+q':=by
    apply Nat.div_eq_of_lt_le
    ·rw [Nat.add_mul,Nat.mul_right_comm]
     exact WK hN ZC Yv IC OP
    ·rw [Nat.add_assoc,Nat.add_mul,Nat.mul_right_comm]
     exact WJ hN ZC Yv IC Uy
   rw [this];omega
  rw [Uf];exact hK _ w (Kept.refl Nil w)
end
end Go.Proofs.YtfleamccglihoaaGreatDoor.Tr
namespace Go.Proofs.YtfleamccglihoaaGreatDoor.Tr
open Go.Proofs.Tryz
structure jQ(T T':List Nd):Prop where
 len:T'.length=T.length
 at_:∀(i:Nat) nd,T[i]? =some nd->∃nd',T'[i]? =some nd'/\nd'.parent=nd.parent/\nd'.ch=nd.ch
theorem jQ.refl(T:List Nd):jQ T T:=⟨rfl,fun _ nd h=>⟨nd,h,rfl,rfl⟩⟩
theorem jQ.trans{T T' AR:List Nd}(h:jQ T T')(h':jQ T' AR):jQ T AR:=⟨h'.len.trans h.len,fun i nd hi=>by
 obtain⟨nd',h1,h2,h3⟩:=h.at_ i nd hi;obtain⟨Tc,g1,g2,g3⟩:=h'.at_ i nd' h1;exact⟨Tc,g1,g2.trans h2,g3.trans h3⟩⟩
theorem jQ.back{T T':List Nd}(h:jQ T T'){i:Nat}{nd':Nd}(hi:T'[i]? =some nd'):∃nd,T[i]? =some nd/\nd'.parent=nd.parent/\nd'.ch=nd.ch:=by
 have cI:=(lgeS hi).1;obtain⟨nd,gJ⟩:=eR (T:=T) (i:=i) (by rw [<-h.len];exact cI);obtain⟨x,h1,h2,h3⟩:=h.at_ i nd gJ;rw [hi]at h1;cases h1;exact⟨nd,gJ,h2,h3⟩
theorem jQ.bG{T T':List Nd}(h:jQ T T'):bG T'=bG T:=by
 apply List.ext_getElem?;intro i;rcases Nat.lt_or_ge i T.length with hi|hi
 ·obtain⟨nd,gJ⟩:=eR hi
  obtain⟨nd',h1,h2,_⟩:=h.at_ i nd gJ;rw [jJ gJ,jJ h1,h2]
 ·rw [List.getElem?_eq_none (by rw [dG,h.len];exact hi),List.getElem?_eq_none (by rw [dG];exact hi)]
theorem jQ.shape{T T':List Nd}(h:jQ T T')(hS:Shape T):Shape T':=⟨by rw [h.bG];exact hS.par,fun i nd' hi=>by
 obtain⟨nd,gJ,_,h3⟩:=h.back hi;rw [h.bG,h3,hS.ch i nd gJ]⟩
theorem jQ.set{T:List Nd}{i:Nat}{nd nd':Nd}(hi:T[i]? =some nd)(h1:nd'.parent=nd.parent)(h2:nd'.ch=nd.ch):jQ T (T.set i nd'):=
 ⟨by simp,fun j x hj=>by
   by_cases e:i=j
   ·subst e
    rw [hi]at hj;cases hj;exact⟨nd',gE hi,h1,h2⟩
   ·exact⟨x,mu hj e,rfl,rfl⟩⟩
theorem uS{T:List Nd}{n p:Nat}{nd pd:Nd}{many:Int}(hn:T[n]? =some nd)(hp:T[p]? =some pd)(fG:n≠p)(i:Nat):
 (sI T n p nd pd many)[i]? =if i=p then some {pd with free:=pd.free+many}else if i=n then some {nd with lo:=pd.free,hi:=pd.free+many-1,free:=pd.free}else T[i]? :=by
 unfold sI;by_cases e:i=p
 ·subst e
  rw [if_pos rfl];exact gE (mu hp fG)
 ·rw [if_neg e,List.getElem?_set_ne (fun h=>e h.symm)]
  by_cases e2:i=n
  ·subst e2
   rw [if_pos rfl];exact gE hn
  ·rw [if_neg e2,List.getElem?_set_ne (fun h=>e2 h.symm)]
theorem sH{T:List Nd}{n p:Nat}{nd pd:Nd}(many:Int)(hn:T[n]? =some nd)(hp:T[p]? =some pd)(fG:n≠p):jQ T (sI T n p nd pd many):=
 (jQ.set (nd':= {nd with lo:=pd.free,hi:=pd.free+many-1,free:=pd.free}) hn rfl rfl).trans (jQ.set (nd:=pd) (nd':= {pd with free:=pd.free+many}) (mu hp fG) rfl rfl)
theorem wi{l:List Nat}(hs:l.Pairwise (· < ·)){k c:Nat}(hc:l[k]? =some c):∀y,y∈l.take k->y<c:=by
 intro y hy;obtain⟨j,hj⟩:=List.mem_iff_getElem?.1 hy;rw [List.getElem?_take]at hj;split at hj
 ·rename_i cI
  obtain⟨h1,e1⟩:=lgeS hj;obtain⟨h2,e2⟩:=lgeS hc;rw [<-e1,<-e2];exact List.pairwise_iff_getElem.1 hs j k h1 h2 cI
 ·cases hj
theorem lX{l:List Nat}{k c:Nat}(hc:l[k]? =some c):l.take (k+1)=l.take k++ [c]:=by
 rw [List.take_add_one,hc];rfl
structure nU(P:List Int)(T1:List Nd)(x:Nat)(xd:Nd)(half:Int)(k:Nat)(T':List Nd)(f:Int):Prop where
 l9:jQ T1 T'
 here:T'[x]? =some {xd with free:=f}
 rest:∀y,y≠x->y∉xd.ch.take k->T'[y]? =T1[y]?
 lo:xd.lo+(((xd.ch.take k).map (sz P)).sum:Nat)<=f
 up:(f-xd.lo-(((xd.ch.take k).map (sz P)).sum:Nat))*(sz P x:Int)<=half*(((xd.ch.take k).map (sz P)).sum:Nat)
 oS:∀c cd,c∈xd.ch.take k->T'[c]? =some cd->xd.lo<=cd.lo/\cd.hi<f/\(sz P c:Int)<=cd.hi-cd.lo+1
 ord:∀c c' cd tc,c∈xd.ch.take k->c'∈xd.ch.take k->c<c'->T'[c]? =some cd->T'[c']? =some tc->cd.hi<tc.lo
section
variable{P:List Int}{T1 T':List Nd}{x:Nat}{xd:Nd}{half f:Int}{k:Nat}
theorem nU.start(hx:T1[x]? =some xd)(hf:xd.free=xd.lo):nU P T1 x xd half 0 T1 xd.lo:= {
 l9:=jQ.refl _
 here:=by obtain⟨a,b,c,d,e⟩:=xd;simp only at hf;subst hf;exact hx
 rest:=fun _ _ _=>rfl
 lo:=by simp
 up:=by simp
 oS:=fun c cd hc=>by simp at hc
 ord:=fun c c' cd tc hc=>by simp at hc}
theorem nU.bound(h:nU P T1 x xd half k T' f)(hh:0<=half)(YD:1<=sz P x)(En:((xd.ch.take k).map (sz P)).sum<=sz P x):f<=xd.lo+(((xd.ch.take k).map (sz P)).sum:Nat)+half:=by
 have h1:half*(((xd.ch.take k).map (sz P)).sum:Nat)<=half*(sz P x:Int):=Int.mul_le_mul_of_nonneg_left (by omega) hh;have h2:=Int.le_trans h.up h1;have h3:=Int.le_of_mul_le_mul_right h2 (by omega);omega
theorem nU.step(h:nU P T1 x xd half k T' f)(hs:xd.ch.Pairwise (· < ·)){c:Nat}(hx:∀y,y∈xd.ch->x<y)(hc:xd.ch[k]? =some c){cd:Nd}(iO:T'[c]? =some cd)
 {more:Int} (Mv:0<=more) (hm:more*(sz P x:Int)<=half*(sz P c:Int)) (CT:1<=sz P c):
 nU P T1 x xd half (k+1) (sI T' c x cd {xd with free:=f} ((sz P c:Int)+more)) (f+((sz P c:Int)+more)):=by
 have cI:=wi hs hc;have hxc:x<c:=hx c (List.mem_of_getElem? hc);have O6:c∉xd.ch.take k:=fun hh=>Nat.lt_irrefl _ (cI c hh);have eA:=uS (many:=(sz P c:Int)+more) iO h.here (by omega);have En:((xd.ch.take (k+1)).map (sz P)).sum=((xd.ch.take k).map (sz P)).sum+sz P c:=by rw [lX hc];simp
 have jW:∀y,y∈xd.ch.take (k+1)↔y∈xd.ch.take k\/y=c:=by intro y;rw [lX hc];simp
 exact {
  l9:=h.l9.trans (sH _ iO h.here (by omega))
  here:=by rw [eA,if_pos rfl]
  rest:=fun y hy hn=>by
   rw [eA,if_neg hy,if_neg (fun e=>hn ((jW y).2 (.inr e)))];exact h.rest y hy (fun hh=>hn ((jW y).2 (.inl hh)))
  lo:=by rw [En];have:=h.lo;omega
  up:=by
   rw [En];have h1:=h.up;have e1:(f+((sz P c:Int)+more)-xd.lo-((((xd.ch.take k).map (sz P)).sum+sz P c:Nat):Int))*(sz P x:Int)=(f-xd.lo-((((xd.ch.take k).map (sz P)).sum:Nat):Int))*(sz P x:Int)+more*(sz P x:Int):=by
    rw [<-Int.add_mul];congr 1;omega
   have e2:half*((((xd.ch.take k).map (sz P)).sum+sz P c:Nat):Int)=half*((((xd.ch.take k).map (sz P)).sum:Nat):Int)+half*(sz P c:Int):=by
    rw [<-Int.mul_add];congr 1
   rw [e1,e2];omega
  oS:=fun y yd hy yK=>by
   have RT:=h.lo;rw [eA]at yK;rcases(jW y).1 hy with hh|rfl
   ·have h1:=cI y hh
    have h2:=hx y (List.mem_of_mem_take hh);rw [if_neg (by omega),if_neg (by omega)]at yK;have:=h.oS y yd hh yK;exact⟨this.1,by omega,this.2.2⟩
   ·rw [if_neg (by omega),if_pos rfl]at yK
    cases yK;refine⟨?_,?_,?_⟩<;>simp only<;>omega
  ord:=fun a b ad bd ha hb mH I7 I1=>by
   rw [eA]at I7 I1;rcases(jW b).1 hb with tY|rfl
   ·have h1:=cI b tY
    rcases(jW a).1 ha with y9|rfl
    ·have h2:=hx a (List.mem_of_mem_take y9)
     rw [if_neg (by omega),if_neg (by omega)]at I7 I1;exact h.ord a b ad bd y9 tY mH I7 I1
    ·omega
   ·rcases(jW a).1 ha with y9|rfl
    ·have h1:=cI a y9
     have h2:=hx a (List.mem_of_mem_take y9);rw [if_neg (by omega),if_neg (by omega)]at I7;rw [if_neg (by omega),if_pos rfl]at I1;cases I1;exact(h.oS a ad y9 I7).2.1
    ·omega}
end
structure lU(P:List Int)(T0:List Nd)(m:Nat)(T':List Nd)(q:List Nat)(i:Nat):Prop where
 l9:jQ T0 T'
 nodup:q.Nodup
 mW:∀y,y∈q->jf P y m
 fst:m∈q
 src:∀y,y∈q->y=m\/∃z:Nat,z∈q.take i/\P[y]? =some (z:Int)
 Sl:∀z,z∈q.take i->∀c,c∈kids P z->c∈q
 rest:∀y,y∉q->T'[y]? =T0[y]?
 top:∀md Nq,T0[m]? =some md->T'[m]? =some Nq->Nq.lo=md.lo/\Nq.hi=md.hi
 room:∀y yd,y∈q->T'[y]? =some yd->1<=yd.lo/\yd.hi<=4611686018427387904/\(sz P y:Int)<=yd.hi-yd.lo+1
 loc:∀z zd,z∈q.take i->T'[z]? =some zd->Loc T' zd
theorem lU.start{P:List Int}{T0:List Nd}{m:Nat}{md:Nd}(hm:m<P.length)(Ax:T0[m]? =some md)(h1:1<=md.lo)(h2:md.hi<=4611686018427387904)(h3:(sz P m:Int)<=md.hi-md.lo+1):
 lU P T0 m T0 [m] 0:= {
 l9:=jQ.refl _
 nodup:=by simp
 mW:=fun y hy=>by simp at hy;subst hy;exact .refl hm
 fst:=by simp
 src:=fun y hy=>by simp at hy;exact .inl hy
 Sl:=fun z hz=>by simp at hz
 rest:=fun _ _=>rfl
 top:=fun a b ha hb=>by rw [ha]at hb;cases hb;exact⟨rfl,rfl⟩
 room:=fun y yd hy yK=>by
  simp at hy;subst hy;rw [Ax]at yK;cases yK;exact⟨h1,h2,h3⟩
 loc:=fun z zd hz=>by simp at hz}
section
variable{T0 T' AR:List Nd}{m x i:Nat}{q:List Nat}{xd:Nd}{f half:Int}
theorem lU.step(hS:Shape T0)(h:lU (bG T0) T0 m T' q i)(hq:q[i]? =some x)(FG:T'[x]? =some xd)
 (AF:0<=half) (Vh:half*2<=xd.hi-xd.lo-((sz (bG T0) x:Int)-1))
 (gK:nU (bG T0) (T'.set x {xd with free:=xd.lo}) x {xd with free:=xd.lo} half xd.ch.length AR f):
 lU (bG T0) T0 m AR (q++xd.ch) (i+1):=by
 have R8:=h.l9.shape hS;have UD:=h.l9.bG;have hP:=hS.par;have mP:xd.ch=kids (bG T0) x:=by rw [R8.ch x xd FG,UD]
 have eV:i<q.length:=(lgeS hq).1;have Ir:x∈q:=List.mem_of_getElem? hq;have tV:x<(bG T0).length:=(h.mW x Ir).lt;have yO:q.take (i+1)=q.take i++ [x]:=lX hq;have Kt:(q++xd.ch).take (i+1)=q.take i++ [x]:=by rw [List.take_append_of_le_length (by omega),yO]
 have It:x∉q.take i:=by
  intro hh;have hn:(q.take i++ [x]).Nodup:=by rw [<-yO];exact h.nodup.sublist (List.take_sublist _ _)
  rw [List.nodup_append]at hn;exact hn.2.2 x hh x (by simp) rfl
 have Cd:∀c,c∈xd.ch->(bG T0)[c]? =some (x:Int):=fun c hc=>dH.1 (mP▸hc);have xn:∀c,c∈xd.ch->x<c:=fun c hc=>(gQ hP (mP▸hc)).1;have nM:∀c,c∈xd.ch->c∉q:=by
  intro c hc R1;rcases h.src c R1 with rfl|⟨z,hz,RO⟩
  ·have:=(h.mW x Ir).le hP
   have:=xn _ hc;omega
  ·rw [Cd c hc]at RO
   have:z=x:=by have:=Option.some.inj RO;omega
   exact It (this▸hz)
 have abk:x∉xd.ch:=fun hh=>Nat.lt_irrefl _ (xn x hh);have cV:∀c,c∈(({xd with free:=xd.lo}:Nd).ch.take xd.ch.length)↔c∈xd.ch:=by intro c;simp
 have En:(xd.ch.map (sz (bG T0))).sum+1=sz (bG T0) x:=by
  rw [mP];exact zU hP tV
 have kl:=rP hP tV;have Mx:=gK.bound AF kl (by simp only [List.take_length];omega);have Vr:=gK.lo;simp only [List.take_length]at Mx Vr;have Vs:f<=xd.hi:=by omega
 have hT1:∀y,y≠x->(T'.set x {xd with free:=xd.lo})[y]? =T'[y]? :=fun y hy=>List.getElem?_set_ne (fun e=>hy e.symm);have Ev:∀y,y≠x->y∉xd.ch->AR[y]? =T'[y]? :=fun y hy hn=>by
  rw [gK.rest y hy (fun hh=>hn ((cV y).1 hh)),hT1 y hy]
 have IQ:AR[x]? =some {xd with free:=f}:=gK.here;have hxr:=h.room x xd Ir FG;have hlh:xd.lo<=xd.hi:=by omega
 have hold:∀y vW,y∉xd.ch->AR[y]? =some vW->∃yd,T'[y]? =some yd/\yd.lo=vW.lo/\yd.hi=vW.hi:=by
  intro y vW hn hy;by_cases e:y=x
  ·subst e
   rw [IQ]at hy;cases hy;exact⟨xd,FG,rfl,rfl⟩
  ·rw [Ev y e hn]at hy
   exact⟨vW,hy,rfl,rfl⟩
 exact {
  l9:=(h.l9.trans (jQ.set (nd':= {xd with free:=xd.lo}) FG rfl rfl)).trans gK.l9
  nodup:=by
   rw [List.nodup_append];refine⟨h.nodup,?_,fun a ha b hb e=>nM b hb (e▸ha)⟩;rw [mP];exact(qL _ _).imp (fun h=>by omega)
  mW:=fun y hy=>by
   rcases List.mem_append.1 hy with hy|hy
   ·exact h.mW y hy
   ·exact .step (Cd y hy) (h.mW x Ir)
  fst:=List.mem_append.2 (.inl h.fst)
  src:=fun y hy=>by
   rw [Kt];rcases List.mem_append.1 hy with hy|hy
   ·rcases h.src y hy with e|⟨z,hz,RO⟩
    ·exact .inl e
    ·exact .inr ⟨z,List.mem_append.2 (.inl hz),RO⟩
   ·exact .inr ⟨x,by simp,Cd y hy⟩
  Sl:=fun z hz c hc=>by
   rw [Kt]at hz;rcases List.mem_append.1 hz with hz|hz
   ·exact List.mem_append.2 (.inl (h.Sl z hz c hc))
   ·simp at hz
    subst hz;exact List.mem_append.2 (.inr (mP▸hc))
  rest:=fun y hy=>by
   have h1:y∉q:=fun hh=>hy (List.mem_append.2 (.inl hh));have h2:y∉xd.ch:=fun hh=>hy (List.mem_append.2 (.inr hh));rw [Ev y (fun e=>h1 (e▸Ir)) h2,h.rest y h1]
  top:=fun md Te Ax Ph=>by
   obtain⟨Nq,h1,h2,h3⟩:=hold m Te (fun hh=>nM m hh h.fst) Ph;have:=h.top md Nq Ax h1;omega
  room:=fun y vW hy Iq=>by
   rcases List.mem_append.1 hy with hy|hy
   ·obtain⟨yd,h1,h2,h3⟩:=hold y vW (fun hh=>nM y hh hy) Iq
    have:=h.room y yd hy h1;omega
   ·have:=gK.oS y vW ((cV y).2 hy) Iq
    simp only at this;omega
  loc:=fun z zd hz TH=>by
   rw [Kt]at hz;rcases List.mem_append.1 hz with hz|hz
   ·have hzq:z∈q:=List.mem_of_mem_take hz
    have Oi:z≠x:=fun e=>It (e▸hz);have Kl:=TH;rw [Ev z Oi (fun hh=>nM z hh hzq)]at Kl;have hl:=h.loc z zd hz Kl;have TI:zd.ch=kids (bG T0) z:=by rw [R8.ch z zd Kl,UD]
    have R3:∀c,c∈zd.ch->c∉xd.ch:=by
     intro c hc y7;have h1:=Cd c y7;rw [dH.1 (TI▸hc:c∈kids (bG T0) z)]at h1;have:=Option.some.inj h1;omega
    exact {
     C6:=hl.C6
     zn:=hl.zn
     sub:=fun c cd hc iO=>by
      obtain⟨tc,h1,h2,h3⟩:=hold c cd (R3 c hc) iO;have:=hl.sub c tc hc h1;omega
     ord:=fun c c' cd tc hc sD xq iO oW=>by
      obtain⟨ed,h1,h2,h3⟩:=hold c cd (R3 c hc) iO;obtain⟨LC,qO,sF,AJ⟩:=hold c' tc (R3 c' sD) oW;have:=hl.ord c c' ed LC hc sD xq h1 qO;omega}
   ·simp at hz
    subst hz;rw [IQ]at TH;cases TH;exact {
     C6:=by simp only;omega
     zn:=Vs
     sub:=fun c cd hc iO=>by
      have:=gK.oS c cd ((cV c).2 hc) iO;simp only at this⊢;omega
     ord:=fun c c' cd tc hc sD xq iO oW=>gK.ord c c' cd tc ((cV c).2 hc) ((cV c').2 sD) xq iO oW}}
theorem lU.fin(hS:Shape T0)(h:lU (bG T0) T0 m T' q i)(hi:q.length<=i)
 (O0:∀y nd,T0[y]? =some nd->¬jf (bG T0) y m->Iv nd/\Loc T0 nd):Good T':=by
 have R8:=h.l9.shape hS;have UD:=h.l9.bG;have hP:=hS.par;have yO:q.take i=q:=List.take_of_length_le hi;have vy:∀y,jf (bG T0) y m->y∈q:=by
  have:∀y k,jf (bG T0) y k->k=m->y∈q:=by
   intro y k hu
   induction hu with
   |refl=>intro e;subst e;exact h.fst
   | @step a b c hp h' ih=>intro e;exact h.Sl b (by rw [yO];exact ih e) a (dH.2 hp)
  exact fun y hu=>this y m hu rfl
 have hq:∀y,y∈q↔jf (bG T0) y m:=fun y=>⟨h.mW y,vy y⟩;refine⟨R8,fun y yd yK=>?_,fun y yd yK=>?_⟩
 ·by_cases hy:y∈q
  ·have hr:=h.room y yd hy yK
   have:=rP hP (h.mW y hy).lt;exact⟨hr.1,by omega,hr.2.1⟩
  ·rw [h.rest y hy]at yK
   exact(O0 y yd yK (fun hu=>hy (vy y hu))).1
 ·by_cases hy:y∈q
  ·exact h.loc y yd (by rw [yO];exact hy) yK
  ·have Km:=yK
   rw [h.rest y hy]at Km;have hl:=(O0 y yd Km (fun hu=>hy (vy y hu))).2;have mP:=hS.ch y yd Km;have hold:∀c cd,c∈yd.ch->T'[c]? =some cd->∃ed,T0[c]? =some ed/\ed.lo=cd.lo/\ed.hi=cd.hi:=by
    intro c cd hc iO;by_cases R1:c∈q
    ·have hpc:=dH.1 (mP▸hc:c∈kids (bG T0) y)
     have mG:c=m:=by
      by_cases e:c=m
      ·exact e
      ·exact absurd (vy y ((h.mW c R1).inv e hpc)) hy
     subst mG;obtain⟨ed,Zk,_⟩:=h.l9.back iO;have:=h.top ed cd Zk iO;exact⟨ed,Zk,by omega,by omega⟩
    ·rw [h.rest c R1]at iO
     exact⟨cd,iO,rfl,rfl⟩
   exact {
    C6:=hl.C6
    zn:=hl.zn
    sub:=fun c cd hc iO=>by
     obtain⟨ed,h1,h2,h3⟩:=hold c cd hc iO;have:=hl.sub c ed hc h1;omega
    ord:=fun c c' cd tc hc sD xq iO oW=>by
     obtain⟨ed,h1,h2,h3⟩:=hold c cd hc iO;obtain⟨LC,qO,sF,AJ⟩:=hold c' tc sD oW;have:=hl.ord c c' ed LC hc sD xq h1 qO;omega}
end
open Go Go.RowKit Go.bE
theorem JL{l:List Nat}{a:Nat}(h:a∈l):a<=l.sum:=by
 induction l with
 |nil=>simp at h
 |cons b l ih=>
  rw [List.sum_cons];rcases List.mem_cons.1 h with rfl|h
  ·omega
  ·have:=ih h;omega
theorem xg{l:List Nat}{j x:Nat}(h:l[j]? =some x):(ints l)[j]? =some (.int .i64 (x:Int)):=by simp [ints,h]
theorem Ej(l:List Nat):(ints l).length=l.length:=by simp [ints]
theorem Ei(l:List Nat):∀u∈ints l,u.oneCell'=true:=by
 intro u hu;simp only [ints,List.mem_map]at hu;obtain⟨x,_,rfl⟩:=hu;rfl
structure Dl(w0:World)(S:Nat->Prop)(g b c B0 B1 len:Nat)(P:List Int)(d:Int)(As:Option Addr)(w:World)(T':List Nd)(L:List (Nd×Value))(Aq:Option Addr)(nq cq:Nat)(q:List Nat):Prop where
 tv:TV w S g T' d b c L
 rs:Row w B0 gM 1 As len len (us (sz P) len)
 sb:∀k,bm As=some k->k<B1
 rq:Row w B1 iN 1 Aq nq cq (ints q)
 kp:Kept S w0 w
 hS:∀k,S k->k<B0
 hB:B0<=B1
 EX:B1<=w.heap.size
 h0:w0.heap.size<=B0
section
variable{w0 w w':World}{S:Nat->Prop}{g b c B0 B1 len:Nat}{P:List Int}{d:Int}{As:Option Addr}{T' AR:List Nd}{L L':List (Nd×Value)}{Aq:Option Addr}{nq cq:Nat}{q:List Nat}
theorem Dl.Gm(h:Dl w0 S g b c B0 B1 len P d As w T' L Aq nq cq q):nq=q.length:=by
 have:=Row.len h.rq;rw [Ej]at this;omega
theorem Dl.quiet(h:Dl w0 S g b c B0 B1 len P d As w T' L Aq nq cq q)(hk:Kept Nil w w'):Dl w0 S g b c B0 B1 len P d As w' T' L Aq nq cq q:= {
 tv:=h.tv.kept hk
 rs:=Row.aK h.rs hk (fun _ _ h=>h)
 sb:=h.sb
 rq:=Row.aK h.rq hk (fun _ _ h=>h)
 kp:=h.kp.trans hk (fun _ _ h=>h.elim)
 hS:=h.hS
 hB:=h.hB
 EX:=Nat.le_trans h.EX hk.size
 h0:=h.h0}
theorem Dl.wrote(h:Dl w0 S g b c B0 B1 len P d As w T' L Aq nq cq q)(hk:Kept (fun k=>k=b) w w')(ht:TV w' S g AR d b c L'):Dl w0 S g b c B0 B1 len P d As w' AR L' Aq nq cq q:= {
 tv:=ht
 rs:=Row.aK h.rs hk (fun k e e2=>by have:=(Row.bW h.rs e).1;have:=h.hS b h.tv.fg;omega)
 sb:=h.sb
 rq:=Row.aK h.rq hk (fun k e e2=>by have:=(Row.bW h.rq e).1;have:=h.hS b h.tv.fg;have:=h.hB;omega)
 kp:=h.kp.trans hk (fun k _ e=>by rw [e];exact h.tv.fg)
 hS:=h.hS
 hB:=h.hB
 EX:=Nat.le_trans h.EX hk.size
 h0:=h.h0}
theorem Dl.z8(h:Dl w0 S g b c B0 B1 len P d As w T' L Aq nq cq q){j:Nat}(hj:j<len){k:Int->Prop}(hk:k (sz P j)):
 Is As fun a=>∃t,w.cell? (a.add (j*1))=some (.int .u64 t)/\k t:=by
 have hr:=h.rs;obtain⟨b',rfl⟩:=Row.some hr (by omega);exact⟨_,by rw [kX,Nat.mul_one];exact Row.cell hr (np _ hj),hk⟩
theorem Dl.Nh(h:Dl w0 S g b c B0 B1 len P d As w T' L Aq nq cq q){j x:Nat}(hj:q[j]? =some x){k:Int->Prop}(hk:k x):
 Is Aq fun a=>∃t,w.cell? (a.add (j*1))=some (.int .i64 t)/\k t:=by
 have hr:=h.rq;have cI:=(lgeS hj).1;obtain⟨b',rfl⟩:=Row.some hr (by rw [h.Gm];omega);exact⟨_,by rw [kX,Nat.mul_one];exact Row.cell hr (xg hj),hk⟩
theorem Dl.push(h:Dl w0 S g b c B0 B1 len P d As w T' L Aq nq cq q)(B7:q.length<=4000000)(x:Nat){w1:World}(e1:w1=w.alloc (.cells #[.int .i64 (x:Int)] iN)):
 ∃F9 F0 w2,(Builtin.append_ #[iy,iy] iy #[.slice Aq nq cq,.slice (some ⟨w.heap.size,0,none⟩) 1 1]).run prog w1=.ok (.slice F9 (nq+1) F0) w2/\
  Dl w0 S g b c B0 B1 len P d As w2 T' L F9 (nq+1) F0 (q++ [x])/\(∀S0:Nat->Prop,(∀k,bm Aq=some k->S0 k)->Kept S0 w w2):=by
 subst e1;generalize FH:w.alloc (.cells #[.int .i64 (x:Int)] iN)=w1;have nM:w1.heap[w.heap.size]? =some (.cells #[.int .i64 (x:Int)] iN (0,0)):=by rw [<-FH];exact aR w _
 have k1:Kept Nil w w1:=by rw [<-FH];exact(Kept.refl Nil w).alloc _
 have h1:=h.quiet k1;have Mn:=h.Gm;obtain⟨A',c',w2,hr,fU,hg,Ck⟩:=im (P:=prog) (t:=iy) (ty:=iy) H0 h1.rq (a:=⟨w.heap.size,0,none⟩) (m:=1) (cx:=1)
  (news:=ints [x]) rfl (fun j u hj=>by rw [kX,aA nM];simpa [ints]using hj) (Ei _) (by omega) (by unfold maxLen;omega) h1.EX
 have kA:Kept (fun k=>bm Aq=some k) w1 w2:=(Kept.refl _ w1).grown hg (fun k hk _=>hk);have iG:∀k,bm Aq=some k->B1<=k:=fun k e=>(Row.bW h.rq e).1;refine⟨A',c',w2,hr,?_,fun S0 h0=>(k1.mono (S':=S0) (fun _ _ h=>h.elim)).trans kA (fun k _ e=>h0 k e)⟩;exact {
  tv:=h1.tv.aK kA (fun k hk e=>by have:=h.hS k hk;have:=iG k e;have:=h.hB;omega)
  rs:=Row.aK h1.rs kA (fun k e e2=>by have:=h.sb k e;have:=iG k e2;omega)
  sb:=h.sb
  rq:=by simpa [ints]using fU
  kp:=(h.kp.trans k1 (fun _ _ h=>h.elim)).trans kA (fun k hk e=>absurd (iG k e) (by have:=h.hB;have:=h.h0;omega))
  hS:=h.hS
  hB:=h.hB
  EX:=Nat.le_trans h1.EX kA.size
  h0:=h.h0}
theorem zq{T0 T1:List Nd}{x:Nat}{xd:Nd}{half:Nat}{spare i:Int}{Rm:Option Addr}{Rr:Nat}{Qo:aM}
 (D:Dl w0 S g b c B0 B1 T0.length (bG T0) d As w T1 L Aq nq cq q) (hS:Shape T0) (RI:jQ T0 T1) (hlen:T0.length<=1000000) (Mn:q.length<=1000000)
 (hx:T1[x]? =some xd) (xo:xd.free=xd.lo) (RT:0<=xd.lo) (Zc:xd.hi<=4611686018427387904) (AF:(half:Int)*2<=xd.hi-xd.lo-((sz (bG T0) x:Int)-1))
 (CS:u64.wrap (spare.tdiv 2)=(half:Int)) (VF:Row w 0 iN 1 Rm xd.ch.length Rr (ints xd.ch)) (Qd:∀k,bm Rm=some k->S k/\k≠b)
 (hex:∀w' AR f L' F9 F0,Dl w0 S g b c B0 B1 T0.length (bG T0) d As w' AR L' F9 (nq+xd.ch.length) F0 (q++xd.ch)->nU (bG T0) T1 x xd half xd.ch.length AR f->
   Qo .normal [(0,.pointer (some ⟨g,0,none⟩)),(4,.slice As T0.length T0.length),(5,.slice F9 (nq+xd.ch.length) F0),(6,.int .i64 (i64.wrap (i+1)))] w'):
 Holds none [] prog 164 (.loop (lB (bB (cS (bB (sL (sR (lB (bB (cS (sR (body ay.fn)))))))))))) (ay.q3 Qo) (ay.e3 (some ⟨g,0,none⟩) As T0.length T0.length i x spare Rm xd.ch.length Rr xd.ch.length (Aq,nq,cq,0)) w:=by
 have hP:=hS.par;have rF:=dG T0;have mP:xd.ch=kids (bG T0) x:=by
  have:=(RI.shape hS).ch x xd hx
  rwa [RI.bG]at this
 have tV:x<T0.length:=by rw [<-RI.len];exact(lgeS hx).1
 have G0:xd.ch.Pairwise (· < ·):=by rw [mP];exact qL _ _
 have xn:∀y,y∈xd.ch->x<y:=fun y hy=>(gQ hP (mP▸hy)).1;have Qc:xd.ch.length<=1000000:=by rw [mP];exact Nat.le_trans (wV _ _) (by omega)
 have En:(xd.ch.map (sz (bG T0))).sum+1=sz (bG T0) x:=by rw [mP];exact zU hP (by omega)
 have kl:=rP hP (n:=x) (by omega);have T7:=uv (P:=bG T0) x;have hnq:=D.Gm;refine ay.wP (I:=fun s w'=>∃(k:Nat) (T':List Nd) (f:Int) (L':List (Nd×Value)) (F9:Option Addr) (F0:Nat),s=(F9,nq+k,F0,(k:Int))/\k<=xd.ch.length/\
  Dl w0 S g b c B0 B1 T0.length (bG T0) d As w' T' L' F9 (nq+k) F0 (q++xd.ch.take k)/\nU (bG T0) T1 x xd half k T' f/\Row w' 0 iN 1 Rm xd.ch.length Rr (ints xd.ch))
  (μ:=fun s _=>((xd.ch.length:Int)-s.2.2.2).toNat) (s:=(Aq,nq,cq,0)) ⟨0,T1,xd.lo,L,Aq,cq,rfl,Nat.zero_le _,by simpa using D,nU.start hx xo,VF⟩ ?_
 rintro s w' ⟨k,T',f,L',F9,F0,rfl,hk,D',gK,hr⟩;refine Split.dec (fun cI=>?_) (fun iG=>?_)
 ·simp only at cI
  have CZ:k<xd.ch.length:=by omega
  obtain⟨ci,R4⟩:∃ci,xd.ch[k]? =some ci:=⟨_,List.getElem?_eq_getElem CZ⟩;have mG:ci∈xd.ch:=List.mem_of_getElem? R4;have Zn:ci∈kids (bG T0) x:=mP▸mG;have vy:ci<T0.length:=by have:=(gQ hP Zn).2;omega
  have hxc:=xn ci mG;have CT:=rP hP (n:=ci) (by omega);have abG:=uv (P:=bG T0) ci;have OC:=RI.trans gK.l9;obtain⟨cd,iO⟩:=eR (T:=T') (i:=ci) (by rw [OC.len];exact vy);have Qb:cd.parent=x:=by
   have h1:=jJ iO;rw [OC.bG,dH.1 Zn]at h1;exact(Option.some.inj h1).symm
  have Ua:sz (bG T0) ci<=sz (bG T0) x:=by
   have:=JL (l:=xd.ch.map (sz (bG T0))) (a:=sz (bG T0) ci) (List.mem_map.2 ⟨ci,mG,rfl⟩);omega
  have Qk:0<=(ci:Int)/\(ci:Int)<(T0.length:Int):=⟨by omega,by omega⟩;have ju:0<=(x:Int)/\(x:Int)<(T0.length:Int):=⟨by omega,by omega⟩;have Vg:half<4611686018427387904:=by omega
  obtain⟨bch,VR⟩:=Row.some hr (by omega);subst VR;refine⟨⟨by simp only;omega,by simp only;omega⟩,_,by simp only [kX,Int.toNat_natCast,Nat.mul_one];exact Row.cell hr (xg R4),by decide,Qk,D'.z8 vy ?_⟩;rw [CS];refine ub half (sz (bG T0) ci) (by omega) (by omega) ⟨_,_,rfl,ju,D'.z8 tV ?_⟩;have Pf:(half*sz (bG T0) ci/18446744073709551616)*18446744073709551616+half*sz (bG T0) ci%18446744073709551616=half*sz (bG T0) ci:=Nat.div_add_mod' _ _;have Vf:half*sz (bG T0) ci/18446744073709551616<sz (bG T0) x:=by
   have:half*sz (bG T0) ci<18446744073709551616*sz (bG T0) ci:=Nat.mul_lt_mul_of_pos_right (by omega) CT;have:half*sz (bG T0) ci/18446744073709551616<sz (bG T0) ci:=Nat.div_lt_of_lt_mul this;omega
  refine ud _ _ (sz (bG T0) x) (Nat.mod_lt _ (by omega)) (by omega) Vf fun r w90 Yb=>?_;rw [Pf];generalize hm:half*sz (bG T0) ci/sz (bG T0) x=more;have YU:more*sz (bG T0) x<=half*sz (bG T0) ci:=by rw [<-hm];exact Nat.div_mul_le_self _ _
  have acn:more<=half:=by
   rw [<-hm];apply Nat.div_le_of_le_mul;rw [Nat.mul_comm];exact Nat.mul_le_mul_right _ Ua
  have Xj:=D'.quiet Yb;have Uk:=Row.aK hr Yb (fun _ _ h=>h);refine⟨_,_,rfl,Qk,Xj.z8 vy ?_⟩;rw [dZ (x:=(sz (bG T0) ci:Int)+(more:Int)) (by omega) (by omega)];have I5:=gK.bound (by omega) kl (by
   have h1:(((xd.ch.take k).map (sz (bG T0))).sum)<=(xd.ch.map (sz (bG T0))).sum:=by
    conv=>rhs;rw [<-List.take_append_drop k xd.ch,List.map_append,List.sum_append]
    omega
   omega)
  have o6:=gK.lo;have h1:(((xd.ch.take k).map (sz (bG T0))).sum)<=(xd.ch.map (sz (bG T0))).sum:=by
   conv=>rhs;rw [<-List.take_append_drop k xd.ch,List.map_append,List.sum_append]
   omega
  refine rN Xj.tv iO gK.here Qb (by omega) (by simp only;omega) (by omega) (by simp only;omega) fun w96 L96 h96 Ya=>⟨rfl,?_⟩;have Z9:=Xj.wrote Ya h96;have Ui:=Row.aK Uk Ya (fun k e e2=>(Qd k e).2 e2);intro w97;have T6:(xd.ch.take k).length<=1000000:=by rw [List.length_take];omega
  obtain⟨MR,MG,LW,Ue,D99,Rx⟩:=Z9.push (by rw [List.length_append];omega) ci (w1:=w97) rfl;have Uh:=Row.aK Ui (Rx (fun k=>B1<=k) (fun k e=>(Row.bW Z9.rq e).1)) (fun k e e2=>by have:=D.hS k (Qd k e).1;have:=D.hB;omega);refine⟨MR,_,MG,LW,Ue,?_⟩;rw [iF (x:=(k:Int)+1) (by omega) (by omega)];refine⟨(MR,nq+(k+1),MG,((k+1:Nat):Int)),rfl,⟨k+1,_,_,L96,MR,MG,rfl,CZ,?_,gK.step (more:=(more:Int)) G0 xn R4 iO (by omega) ?_ CT,Uh⟩,by simp only;omega⟩
  ·rw [lX R4,<-List.append_assoc]
   exact D99
  ·have:((more*sz (bG T0) x:Nat):Int)<=((half*sz (bG T0) ci:Nat):Int):=by omega
   rwa [Int.natCast_mul,Int.natCast_mul]at this
 ·simp only at iG
  have:k=xd.ch.length:=by omega
  subst this;rw [aY,ay.Da];rw [List.take_length]at D';exact hex w' T' f L' F9 F0 D' gK
end
theorem DI:∀(n:Nat) (q:List Nat),q.Nodup->(∀y,y∈q->y<n)->q.length<=n:=by
 intro n
 induction n with
 |zero=>
  intro q _ h;cases q with
  |nil=>simp
  |cons a q=>exact absurd (h a (by simp)) (by omega)
 |succ n ih=>
  intro q hn h;by_cases hm:n∈q
  ·have h1:=List.length_erase_of_mem hm
   have h2:=ih (q.erase n) (hn.erase n) (fun y hy=>by
    have:=(List.Nodup.mem_erase_iff hn).1 hy;have:=h y this.2;omega)
   omega
  ·have:=ih q hn (fun y hy=>by
    have:=h y hy;have:y≠n:=fun e=>hm (e▸hy);omega)
   omega
section
variable{w0 w:World}{S:Nat->Prop}{g b c B0:Nat}{d:Int}{As:Option Addr}{L:List (Nd×Value)}{T:List Nd}{K:Value->World->Prop}
theorem zp{T0:List Nd}{m:Nat}{md:Nd}
 (htv:TV w S g T0 d b c L) (YI:Row w B0 gM 1 As T0.length T0.length (us (sz (bG T0)) T0.length)) (Px:Kept S w0 w) (hSB:∀k,S k->k<B0) (Ou:w0.heap.size<=B0) (hBw:B0<=w.heap.size)
 (hS:Shape T0) (hlen:T0.length<=1000000) (Ax:T0[m]? =some md) (h1:1<=md.lo) (h2:md.hi<=4611686018427387904) (h3:(sz (bG T0) m:Int)<=md.hi-md.lo+1)
 (hK:∀w' T' q i,mZ w' S g T' d->lU (bG T0) T0 m T' q i->q.length<=i->Kept S w0 w'->K (.tuple #[]) w'):
 ay.cU (some ⟨g,0,none⟩) m As T0.length T0.length K w:=by
 have hP:=hS.par;have rF:=dG T0;have FQ:m<T0.length:=(lgeS Ax).1;unfold ay.cU;intro gW;have lN:Kept Nil w gW:=(Kept.refl Nil w).alloc _;have nM:gW.heap[w.heap.size]? =some (.cells #[.int .i64 (m:Int)] iN (0,0)):=aR w _;have D35:Dl w0 S g b c B0 w.heap.size T0.length (bG T0) d As gW T0 L (some ⟨w.heap.size,0,none⟩) 1 1 [m]:= {
  tv:=htv.kept lN
  rs:=Row.aK YI lN (fun _ _ h=>h)
  sb:=fun k e=>by obtain⟨_,_,hc⟩:=Row.bW YI e;exact a7 hc
  rq:=Row.made (n:=1) (cur:= #[.int .i64 (m:Int)]) nM (Nat.le_refl _) rfl (by decide)
  kp:=Px.trans lN (fun _ _ h=>h.elim)
  hS:=hSB
  hB:=hBw
  EX:=lN.size
  h0:=Ou}
 clear_value gW;generalize EX:w.heap.size=B1 at*;refine ay.iK (I:=fun s w'=>∃(i:Nat) (T':List Nd) (L':List (Nd×Value)) (Aq:Option Addr) (nq cq:Nat) (q:List Nat),s=(Aq,nq,cq,(i:Int))/\i<=q.length/\
  Dl w0 S g b c B0 B1 T0.length (bG T0) d As w' T' L' Aq nq cq q/\lU (bG T0) T0 m T' q i)
  (μ:=fun s _=>((T0.length:Int)-s.2.2.2).toNat) (s:=(some ⟨B1,0,none⟩,1,1,0)) ⟨0,T0,L,_,1,1,[m],rfl,Nat.zero_le _,D35,lU.start (by omega) Ax h1 h2 h3⟩ ?_
 rintro s w' ⟨i,T',L',Aq,nq,cq,q,rfl,hi,D,hO⟩;have hnq:=D.Gm;have Mn:q.length<=T0.length:=DI _ _ hO.nodup (fun y hy=>by have:=(hO.mW y hy).lt;omega);refine Split.dec (fun cI=>?_) (fun iG=>?_)
 ·simp only at cI
  have eV:i<q.length:=by omega
  obtain⟨x,Ut⟩:∃x,q[i]? =some x:=⟨_,List.getElem?_eq_getElem eV⟩;have Ir:x∈q:=List.mem_of_getElem? Ut;have tV:x<T0.length:=by have:=(hO.mW x Ir).lt;omega
  obtain⟨xd,FG⟩:=eR (T:=T') (i:=x) (by rw [hO.l9.len];exact tV);have qN:=hO.room x xd Ir FG;have kl:=rP hP (n:=x) (by omega);have T7:=uv (P:=bG T0) x;have hlT:T'.length=T0.length:=hO.l9.len;have ju:0<=(x:Int)/\(x:Int)<(T'.length:Int):=⟨by omega,by omega⟩;refine⟨⟨by simp only;omega,by simp only;omega⟩,D.Nh Ut ?_⟩;intro De;have MQ:=D.quiet (w':=De) (Kept.refl Nil w').drew;clear_value De;obtain⟨v,hv⟩:=MQ.tv.at_ FG;obtain⟨wr,ZI⟩:=MQ.tv.rT hv (j:=4) (by omega) (u:=.int .u64 xd.lo) (nd':= {xd with free:=xd.lo}) rfl rfl;refine MQ.tv.go (MQ.tv.go ⟨ju,MQ.tv.sM hv ⟨ju,by rw [mU];exact wr,?_⟩⟩);intro Fy Dd;have ZO:Fy=De.setCell ⟨b,x*5+4,none⟩ (.int .u64 xd.lo):=by simp only [Fy,mU,Int.toNat_natCast]
  rw [<-ZO]at ZI;have Mc:Kept (fun k=>k=b) De Fy:=by rw [ZO];exact(Kept.refl (fun k=>k=b) De).setCell (p:=⟨b,x*5+4,none⟩) (fun _=>rfl) _
  have F7:=(MQ.wrote Mc ZI).quiet (w':=Dd) (Kept.refl Nil Fy).drew;clear_value Dd;have v1:(L'.set x ({xd with free:=xd.lo},v))[x]? =some ({xd with free:=xd.lo},v):=gE hv;obtain⟨Rm,Rr,hk⟩:=F7.tv.oS _ _ v1;have vR:(T'.set x {xd with free:=xd.lo}).length=T'.length:=by simp
  have Lb:0<=(x:Int)/\(x:Int)<((T'.set x {xd with free:=xd.lo}).length:Int):=by rw [vR];exact ju
  have R6:0<=(x:Int)/\(x:Int)<(T0.length:Int):=⟨by omega,by omega⟩;refine F7.tv.go ⟨Lb,F7.tv.xz v1 (F7.tv.go ⟨Lb,F7.tv.sM v1 ⟨R6,F7.z8 tV (F7.tv.go ⟨Lb,F7.tv.QU v1 hk.val ?_⟩)⟩⟩)⟩;have T9:jQ T0 (T'.set x {xd with free:=xd.lo}):=hO.l9.trans (jQ.set (nd':= {xd with free:=xd.lo}) FG rfl rfl);simp only;obtain⟨cur,Mz⟩:=F7.tv.ti;generalize hhf:((xd.hi-xd.lo-((sz (bG T0) x:Int)-1)).toNat /2)=half;refine zq (half:=half) (xd:= {xd with free:=xd.lo}) F7 hS T9 hlen (by omega) (gE FG) rfl (by simp only;omega) (by simp only;omega) (by simp only;omega) ?_ hk.row (fun k e=>⟨hk.jb k e,fun e2=>hk.ne Mz (by decide) (by rw [e,e2])⟩) ?_
  ·rw [dZ (x:=xd.hi-xd.lo) (by omega) (by omega),dZ (x:=(sz (bG T0) x:Int)-1) (by omega) (by omega),dZ (x:=xd.hi-xd.lo-((sz (bG T0) x:Int)-1)) (by omega) (by omega),
    Int.tdiv_eq_ediv_of_nonneg (by omega),dZ (by omega) (by omega)]
   omega
  ·intro w2 T2 f L2 MR MG D2 gK
   rw [iF (x:=(i:Int)+1) (by omega) (by omega)];refine⟨(MR,nq+xd.ch.length,MG,((i+1:Nat):Int)),rfl,⟨i+1,T2,L2,MR,_,MG,q++xd.ch,rfl,by rw [List.length_append];omega,D2,hO.step hS Ut FG (by omega) (by omega) gK⟩,by simp only;omega⟩
 ·simp only at iG
  rw [aY,ay.lI];exact hK w' T' q i ⟨_,_,_,D.tv⟩ hO (by omega) D.kp
theorem TV.SP(h:TV w S g T d b c L)(d':Int):Wr w ⟨g,1,none⟩/\TV (w.setCell ⟨g,1,none⟩ (.int .i64 d')) S g T d' b c L:=by
 have kG:Kept (fun k=>k=g) w (w.setCell ⟨g,1,none⟩ (.int .i64 d')):=(Kept.refl (fun k=>k=g) w).setCell (p:=⟨g,1,none⟩) (fun _=>rfl) _;refine⟨dz h.top (show 1<2 by omega),?_⟩;exact {
  top:=by
   have:=cR h.top 1 (.int .i64 d');simpa using this
  fst:=h.fst
  row:=Row.aK h.row kG (fun k e e2=>h.gb (by cases e;exact e2.symm))
  oS:=fun i p hp=>by
   obtain⟨A,m,hk⟩:=h.oS i p hp;exact⟨A,m,hk.val,Row.aK hk.row kG (fun k e e2=>hk.ne h.top (by decide) (by rw [e,e2])),hk.jb⟩
  apart:=h.apart
  fX:=h.fX
  fg:=h.fg}
set_option maxRecDepth 100000 in
theorem Bj(h:mZ w S g T d)(hS:Shape T)(hlen:T.length<=1000000){p:Nat}(hp:p<T.length)(hd:0<=d/\d<=1000000)
 (OH:∀nd,T[0]? =some nd->nd.lo=1/\nd.hi=4611686018427387904)
 (RW:∀y nd,T[y]? =some nd->jf (bG T) p y->Iv nd)
 (hK:∀w' T' m q i,mZ w' S g T' (d+1)->jf (bG T) p m->lU (bG T) T m T' q i->q.length<=i->Kept S w w'->K (.tuple #[]) w'):
 bf prog ay.id #[.pointer (some ⟨g,0,none⟩),.int .i64 p] w K:=by
 have hP:=hS.par;have rF:=dG T;obtain⟨b,c,L,h⟩:=h;have hb:=h.bound;obtain⟨wr,h6⟩:=hb.SP (d+1);refine ay.of (h.goD ⟨by rw [kX];exact wr,?_⟩);intro w6;have e6:w6=w.setCell ⟨g,1,none⟩ (.int .i64 (d+1)):=by simp only [w6,kX,iF (x:=d+1) (by omega) (by omega)]
 rw [<-e6]at h6;have k6:Kept (fun k=>S k/\k<w.heap.size) w w6:=by rw [e6];exact(Kept.refl _ w).setCell (p:=⟨g,1,none⟩) (fun _=>hb.fX) _
 have Mm:w.heap.size=w6.heap.size:=by rw [e6];simp
 clear_value w6;refine yf ⟨_,_,_,h6⟩ hP hlen fun w8 As Gk k8=>⟨_,_,_,rfl,?_⟩;have h8:=h6.kept k8;refine ay.b9 (I:=fun s w'=>∃m:Nat,s=(m:Int)/\jf (bG T) p m/\Kept Nil w8 w') (μ:=fun s _=>s.toNat) (s:=(p:Int)) ⟨p,rfl,.refl (by omega),Kept.refl _ _⟩ ?_;rintro s w' ⟨m,rfl,hu,kw⟩;have FQ:m<T.length:=by have:=hu.Rs;omega
 obtain⟨md,Ax⟩:=eR FQ;have hm:=RW m md Ax hu;have IK:=hm.Tf;have Y0:=hm.le;have YZ:=hm.top;unfold ay.B1;intro pY;have Mh:Kept Nil w8 pY:=kw.drew;have x4:=h8.kept Mh;have z7:=Row.aK Gk Mh (fun _ _ h=>h);have oB:=jJ Ax;have abC:=uv (P:=bG T) m;have ER:0<=(m:Int)/\(m:Int)<(T.length:Int):=⟨by omega,by omega⟩;obtain⟨v,hv⟩:=x4.at_ Ax;have done:(sz (bG T) m:Int)<=md.hi-md.lo+1->ay.q1 K (.exit 0) [(0,.pointer (some ⟨g,0,none⟩)),(1,.int .i64 m),(4,.slice As T.length T.length)] pY:=by
  intro qN;rw [ay.dw];have Yd:Kept (fun k=>S k/\k<w.heap.size) w pY:=(k6.trans k8 (fun _ _ h=>h.elim)).trans Mh (fun _ _ h=>h.elim);refine zp x4 (B0:=w.heap.size) (Row.base z7 (fun k e=>by rw [Mm];exact(Row.bW z7 e).1)) Yd (fun k h=>h.2) (Nat.le_refl _) Yd.size hS hlen Ax IK YZ qN ?_;intro w2 T2 q i h2 hO hq k2;exact hK w2 T2 m q i (h2.mono (fun k h=>h.1)) hu hO hq (k2.mono (fun k _ h=>h.1))
 refine x4.go ⟨ER,x4.E5 hv (Split.dec (fun kl=>?_) (fun acf=>?_))⟩
 ·obtain⟨bs,R6⟩:=Row.some z7 (by omega)
  subst R6;refine x4.go ⟨ER,x4.xz hv (x4.go ⟨ER,x4.sM hv ⟨by decide,ER,_,by rw [kX,Int.toNat_natCast,Nat.mul_one];exact Row.cell z7 (np _ FQ),?_⟩⟩)⟩;rw [dZ (x:=md.hi-md.lo) (by omega) (by omega),dZ (x:=md.hi-md.lo+1) (by omega) (by omega),Int.tdiv_eq_ediv_of_nonneg (by omega),dZ (x:=(md.hi-md.lo+1)/4) (by omega) (by omega)];refine Split.dec (fun cI=>?_) (fun iG=>?_)
  ·have Mv:0<m:=by
    rcases Nat.eq_zero_or_pos m with rfl|h
    ·rw [hP.root]at oB;have:=Option.some.inj oB;omega
    ·exact h
   obtain⟨z,hz,ez⟩:=hP.up m _ Mv oB;refine x4.go ⟨ER,x4.E5 hv ?_⟩;rw [ez];exact⟨(z:Int),rfl,⟨z,rfl,hu.trans (.step (by rw [oB,ez]) (.refl (by omega))),Mh⟩,by simp only;omega⟩
  ·rw [aY]
   exact done (by omega)
 ·have Mv:m=0:=by
   rcases Nat.eq_zero_or_pos m with h|h
   ·exact h
   ·obtain⟨z,_,ez⟩:=hP.up m _ h oB
    omega
  subst Mv;have:=OH md Ax;rw [aY];exact done (by omega)
end
structure uq(T:List Nd):Prop extends Good T where
 root:∀nd,T[0]? =some nd->nd.lo=1/\nd.hi=4611686018427387904
theorem yr:uq oF:=by
 have eA:∀(i:Nat) nd,oF[i]? =some nd->i=0/\nd=⟨-1,[],1,4611686018427387904,1⟩:=by
  intro i nd h;cases i with
  |zero=>simp [oF]at h;exact⟨rfl,h.symm⟩
  |succ i=>simp [oF]at h
 exact {
  par:=⟨rfl,fun i p hi h=>by
   cases i with
   |zero=>omega
   |succ i=>simp [bG,oF]at h⟩
  ch:=fun i nd h=>by
   obtain⟨rfl,rfl⟩:=eA i nd h;simp [kids,bG,oF]
  iv:=fun i nd h=>by
   obtain⟨rfl,rfl⟩:=eA i nd h;exact⟨by decide,by decide,by decide⟩
  loc:=fun i nd h=>by
   obtain⟨rfl,rfl⟩:=eA i nd h;exact⟨by decide,by decide,fun c cd hc=>by simp at hc,fun c c' cd tc hc=>by simp at hc⟩
  root:=fun nd h=>by
   obtain⟨_,rfl⟩:=eA 0 nd h;exact⟨rfl,rfl⟩}
section
variable{T:List Nd}{p:Nat}{pd:Nd}
theorem CD(hp:T[p]? =some pd)(i:Nat):(added T p pd)[i]? =if i=p then some {pd with ch:=pd.ch++ [T.length],free:=pd.free+hZ pd}else if i=T.length then some ⟨p,[],pd.free,pd.free+hZ pd-1,pd.free⟩else T[i]? :=by
 have cI:p<T.length:=(lgeS hp).1;unfold added;rw [uS (by rw [iB hp,if_neg (by omega),if_pos rfl]) (by rw [iB hp,if_pos rfl]) (by omega),iB hp];split
 ·rfl
 ·split
  ·rfl
  ·rfl
theorem tn(hp:T[p]? =some pd):jQ (grown T p pd) (added T p pd):=by
 have cI:p<T.length:=(lgeS hp).1;exact sH _ (by rw [iB hp,if_neg (by omega),if_pos rfl]) (by rw [iB hp,if_pos rfl]) (by omega)
theorem Shape.LD(h:Shape T){i:Nat}{nd:Nd}(hi:T[i]? =some nd){c:Nat}(hc:c∈nd.ch):i<c/\c<T.length:=by
 rw [h.ch i nd hi]at hc;have:=gQ h.par hc
 rwa [dG]at this
theorem uq.added(h:uq T)(hp:T[p]? =some pd)(qN:pd.free<pd.hi):uq (added T p pd):=by
 have cI:p<T.length:=(lgeS hp).1;have eA:=CD hp;have Kg:=h.iv p pd hp;have i1:=Kg.Tf;have i2:=Kg.le;have i3:=Kg.top;have lp:=h.loc p pd hp;have l1:=lp.C6;have l2:=lp.zn;have hh1:1<=hZ pd:=by unfold hZ;omega
 have hh2:pd.free+hZ pd<=pd.hi:=by unfold hZ;omega
 have hold:∀(c:Nat) cd,c<T.length->(Go.Proofs.YtfleamccglihoaaGreatDoor.Tr.added T p pd)[c]? =some cd->∃ed,T[c]? =some ed/\ed.lo=cd.lo/\ed.hi=cd.hi:=by
  intro c cd hc iO;rw [eA]at iO;by_cases e:c=p
  ·subst e
   rw [if_pos rfl]at iO;cases iO;exact⟨pd,hp,rfl,rfl⟩
  ·rw [if_neg e,if_neg (by omega)]at iO
   exact⟨cd,iO,rfl,rfl⟩
 have nM:∀cd,(Go.Proofs.YtfleamccglihoaaGreatDoor.Tr.added T p pd)[T.length]? =some cd->cd=⟨p,[],pd.free,pd.free+hZ pd-1,pd.free⟩:=by
  intro cd iO;rw [eA,if_neg (by omega),if_pos rfl]at iO;exact(Option.some.inj iO).symm
 have aK:∀(i:Nat) nd,T[i]? =some nd->Loc (Go.Proofs.YtfleamccglihoaaGreatDoor.Tr.added T p pd) nd:=by
  intro i nd hi;have hl:=h.loc i nd hi;have hc:=fun c hc=>(h.toShape.LD hi (c:=c) hc).2;exact {
   C6:=hl.C6
   zn:=hl.zn
   sub:=fun c cd mG iO=>by
    obtain⟨ed,h1,h2,h3⟩:=hold c cd (hc c mG) iO;have:=hl.sub c ed mG h1;omega
   ord:=fun c c' cd tc mG mO xq iO oW=>by
    obtain⟨ed,h1,h2,h3⟩:=hold c cd (hc c mG) iO;obtain⟨LC,qO,sF,AJ⟩:=hold c' tc (hc c' mO) oW;have:=hl.ord c c' ed LC mG mO xq h1 qO;omega}
 have hs:=(tn hp).shape (h.toShape.grown hp);refine {toShape:=hs,iv:=?_,loc:=?_,root:=?_}
 ·intro i nd hi
  rw [eA]at hi;by_cases e:i=p
  ·rw [if_pos e]at hi
   cases hi;exact⟨i1,i2,i3⟩
  ·rw [if_neg e]at hi
   by_cases e2:i=T.length
   ·rw [if_pos e2]at hi
    cases hi;exact⟨by simp only;omega,by simp only;omega,by simp only;omega⟩
   ·rw [if_neg e2]at hi
    exact h.iv i nd hi
 ·intro i nd hi
  rw [eA]at hi;by_cases e:i=p
  ·rw [if_pos e]at hi
   cases hi;have kp:=aK p pd hp;have hc:=fun c hc=>(h.toShape.LD hp (c:=c) hc).2;exact {
    C6:=by simp only;omega
    zn:=hh2
    sub:=fun c cd mG iO=>by
     simp only at mG;rcases List.mem_append.1 mG with mG|mG
     ·have:=kp.sub c cd mG iO
      simp only;omega
     ·simp at mG
      subst mG;have:=nM cd iO;subst this;simp only;omega
    ord:=fun c c' cd tc mG mO xq iO oW=>by
     simp only at mG mO;rcases List.mem_append.1 mG with mG|mG
     ·rcases List.mem_append.1 mO with mO|mO
      ·exact kp.ord c c' cd tc mG mO xq iO oW
      ·simp at mO
       subst mO;have:=nM tc oW;subst this;exact(kp.sub c cd mG iO).2
     ·simp at mG
      rcases List.mem_append.1 mO with mO|mO
      ·have:=hc c' mO
       omega
      ·simp at mO
       omega}
  ·rw [if_neg e]at hi
   by_cases e2:i=T.length
   ·rw [if_pos e2]at hi
    cases hi;exact⟨by simp only;omega,by simp only;omega,fun c cd hc=>by simp at hc,fun c c' cd tc hc=>by simp at hc⟩
   ·rw [if_neg e2]at hi
    exact aK i nd hi
 ·intro nd hi
  obtain⟨ed,h1,h2,h3⟩:=hold 0 nd h.toShape.pos hi;have:=h.root ed h1;omega
theorem uq.Fb(h:uq T)(hp:T[p]? =some pd){m i:Nat}{T':List Nd}{q:List Nat}(hu:jf (bG (grown T p pd)) p m)
 (hO:lU (bG (grown T p pd)) (grown T p pd) m T' q i) (hq:q.length<=i):uq T':=by
 have cI:p<T.length:=(lgeS hp).1;have eA:=iB hp;have hS:=h.toShape.grown hp;have hP:=hS.par;have hold:∀(c:Nat) cd,c<T.length->(grown T p pd)[c]? =some cd->∃ed,T[c]? =some ed/\ed.lo=cd.lo/\ed.hi=cd.hi:=by
  intro c cd hc iO;rw [eA]at iO;by_cases e:c=p
  ·subst e
   rw [if_pos rfl]at iO;cases iO;exact⟨pd,hp,rfl,rfl⟩
  ·rw [if_neg e,if_neg (by omega)]at iO
   exact⟨cd,iO,rfl,rfl⟩
 have Ms:(bG (grown T p pd))[T.length]? =some (p:Int):=by
  rw [kP hp,List.getElem?_append_right (by rw [dG];exact Nat.le_refl _)];simp [dG]
 have iM:=lU.fin hS hO hq (fun y nd hy hn=>by
  rw [eA]at hy;have e:y≠p:=fun e=>hn (e▸hu);rw [if_neg e]at hy;have e2:y≠T.length:=fun e=>hn (e▸ .step Ms hu);rw [if_neg e2]at hy;refine⟨h.iv y nd hy,?_⟩;have hl:=h.loc y nd hy;have hc:=fun c hc=>(h.toShape.LD hy (c:=c) hc).2;exact {
   C6:=hl.C6
   zn:=hl.zn
   sub:=fun c cd mG iO=>by
    obtain⟨ed,h1,h2,h3⟩:=hold c cd (hc c mG) iO;have:=hl.sub c ed mG h1;omega
   ord:=fun c c' cd tc mG mO xq iO oW=>by
    obtain⟨ed,h1,h2,h3⟩:=hold c cd (hc c mG) iO;obtain⟨LC,qO,sF,AJ⟩:=hold c' tc (hc c' mO) oW;have:=hl.ord c c' ed LC mG mO xq h1 qO;omega})
 refine {toGood:=iM,root:=fun nd hi=>?_};obtain⟨gd,Vk,_⟩:=hO.l9.back hi;obtain⟨ed,h1,h2,h3⟩:=hold 0 gd h.toShape.pos Vk;have hr:=h.root ed h1;by_cases hm:0∈q
 ·have:=(hO.mW 0 hm).le hP
  have Mv:m=0:=by omega
  subst Mv;have:=hO.top gd nd Vk hi;omega
 ·rw [hO.rest 0 hm,Vk]at hi
  cases hi;omega
end
section
variable{w:World}{S:Nat->Prop}{g:Nat}{T:List Nd}{d:Int}{K:Value->World->Prop}
theorem Dm(h:mZ w S g T d)(hF:uq T){p:Nat}(hp:p<T.length)(hlen:T.length<=900000)(hd:0<=d/\d<=900000)
 (hK:∀w' S' T' d',mZ w' S' g T' d'->uq T'->bG T'=bG T++ [(p:Int)]->d<=d'/\d'<=d+1->Kept S w w'->(∀k,S' k->S k\/w.heap.size<=k)->K (.tuple #[.int .i64 T.length,.int .i64 0]) w'):
 bf prog fu.id #[.pointer (some ⟨g,0,none⟩),.int .i64 p] w K:=by
 obtain⟨pd,vt⟩:=eR hp;have Kg:=hF.iv p pd vt;have i1:=Kg.Tf;have i2:=Kg.le;have i3:=Kg.top;have lp:=hF.loc p pd vt;have l1:=lp.C6;have l2:=lp.zn;have mP:pd.ch.length<=T.length:=by
  rw [hF.ch p pd vt];have:=wV (bG T) p
  rwa [dG]at this
 refine rO h vt (by omega) (by omega) (by omega) l2 i3 (fun qN w' S' h' k' f'=>?_) (fun Zh w' S' h' k' f'=>?_)
 ·exact hK w' S' _ d h' (hF.added vt qN) (by rw [(tn vt).bG,kP vt]) ⟨by omega,by omega⟩ k' f'
 ·have hS:=hF.toShape.grown vt
  have eA:=iB vt;have oB:=hS.par;refine Bj h' hS (by rw [uR];omega) (by rw [uR];omega) ⟨hd.1,by omega⟩ (fun nd hi=>?_) (fun y nd hy hu=>?_) (fun w2 T2 m q i h2 hu hO hq k2=>⟨rfl,?_⟩)
  ·rw [eA]at hi
   by_cases e:0=p
   ·rw [if_pos e]at hi
    cases hi;exact hF.root pd (by rw [e];exact vt)
   ·rw [if_neg e,if_neg (by omega)]at hi
    exact hF.root nd hi
  ·have:=hu.le oB
   rw [eA]at hy;by_cases e:y=p
   ·rw [if_pos e]at hy
    cases hy;exact⟨i1,i2,i3⟩
   ·rw [if_neg e,if_neg (by omega)]at hy
    exact hF.iv y nd hy
  ·refine hK w2 S' T2 (d+1) h2 (hF.Fb vt hu hO hq) (by rw [hO.l9.bG,kP vt]) ⟨by omega,by omega⟩ ?_ f'
   exact k'.trans k2 (fun k hk hs=>by
    rcases f' k hs with h|h
    ·exact h
    ·omega)
end
def zs(l:List Int):List Value:=l.map fun x=>.int .i64 x
section
variable{w w':World}{S S':Nat->Prop}{h:Nat}{P:List Int}{b c:Nat}{K:Value->World->Prop}
end
def gP(P:List Int)(n i:Nat):List Nat:=(List.range i).filter fun j=>P[j]? ==some (n:Int)
section
variable{w w':World}{S S':Nat->Prop}{h:Nat}{P:List Int}{b c:Nat}{K:Value->World->Prop}
end
section
variable{w w':World}{S S':Nat->Prop}{g:Nat}{T:List Nd}{d:Int}{K:Value->World->Prop}
end
end Go.Proofs.YtfleamccglihoaaGreatDoor.Tr
