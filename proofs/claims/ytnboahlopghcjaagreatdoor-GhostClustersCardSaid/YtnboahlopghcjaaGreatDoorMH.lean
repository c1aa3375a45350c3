import Derived.Test.YtnboahlopghcjaaGreatDoorMA
import Derived.Test.YtnboahlopghcjaaGreatDoorMD
import Derived.Laws.OwnMore
import Derived.Test.YtnboahlopghcjaaGreatDoorMG
import Derived.Laws.Bits64b
open Go.IntKind (i64 u64)
set_option linter.unusedVariables false
namespace Go.Proofs.YtnboahlopghcjaaGreatDoor.Tr
open Go.Proofs.Tryz
open Go Go.bU Go.RowKit
structure Nd where
 parent:Int
 ch:List Nat
 lo:Int
 hi:Int
 free:Int
def iW(nd:Nd)(v:Value):List Value:= [.int .i64 nd.parent,v,.int .u64 nd.lo,.int .u64 nd.hi,.int .u64 nd.free]
def nV(L:List (Nd×Value)):List Value:=L.flatMap fun p=>iW p.1 p.2
def ints(l:List Nat):List Value:=l.map fun x:Nat=>.int .i64 (x:Int)
theorem sK(L:List (Nd×Value)):(nV L).length=L.length*5:=by
 induction L with
 |nil=>rfl
 |cons p L ih=>simp only [nV,List.flatMap_cons,List.length_append,List.length_cons]at*;rw [ih];simp [iW];omega
theorem HQ{L:List (Nd×Value)}{i:Nat}{p:Nd×Value}(h:L[i]? =some p){j:Nat}(hj:j<5):(nV L)[i*5+j]? =(iW p.1 p.2)[j]? :=by
 induction L generalizing i with
 |nil=>simp at h
 |cons q L ih=>
  have hq:(iW q.1 q.2).length=5:=rfl;cases i with
  |zero=>
   simp at h;subst h;simp only [nV,List.flatMap_cons];rw [Nat.zero_mul,Nat.zero_add,List.getElem?_append_left (by omega)]
  |succ i=>
   simp at h;have:=ih h;simp only [nV,List.flatMap_cons]at*;rw [List.getElem?_append_right (by omega),hq,<-this]
   congr 1
   omega
theorem zy{L:List (Nd×Value)}{i:Nat}{p p':Nd×Value}(h:L[i]? =some p){j:Nat}(hj:j<5){v:Value}(hp:iW p'.1 p'.2=(iW p.1 p.2).set j v):
 (nV L).set (i*5+j) v=nV (L.set i p'):=by
 induction L generalizing i with
 |nil=>simp at h
 |cons q L ih=>
  have hq:(iW q.1 q.2).length=5:=rfl;cases i with
  |zero=>
   simp at h;subst h;simp only [nV,List.flatMap_cons,List.set_cons_zero];rw [Nat.zero_mul,Nat.zero_add,List.set_append_left _ _ (by omega),hp]
  |succ i=>
   simp at h;have:=ih h;simp only [nV,List.flatMap_cons,List.set_cons_succ]at*;rw [List.set_append_right _ _ (by omega),hq,<-this]
   congr 2
   omega
structure VP(w:World)(S:Nat->Prop)(p:Nd×Value)(A:Option Addr)(m:Nat):Prop where
 val:p.2=.slice A p.1.ch.length m
 row:Row w 0 jh 1 A p.1.ch.length m (ints p.1.ch)
 jL:∀k,bg A=some k->S k
structure TV(w:World)(S:Nat->Prop)(g:Nat)(T:List Nd)(d:Int)(b c:Nat)(L:List (Nd×Value)):Prop where
 top:w.heap[g]? =some (.cells #[.slice (some ⟨b,0,none⟩) T.length c,.int .i64 d] sO (0,0))
 fst:L.map Prod.fst=T
 row:Row w 0 iO 5 (some ⟨b,0,none⟩) T.length c (nV L)
 qd:∀(i:Nat) (p:Nd×Value),L[i]? =some p->∃A m,VP w S p A m
 apart:∀(i j:Nat) (p q:Nd×Value),L[i]? =some p->L[j]? =some q->i≠j->∀k,Value.ownBlock p.2=some k->Value.ownBlock q.2≠some k
 gQ:S g
 fM:S b
def om(w:World)(S:Nat->Prop)(g:Nat)(T:List Nd)(d:Int):Prop:=∃b c L,TV w S g T d b c L
section
variable{w w':World}{S S':Nat->Prop}{g:Nat}{T:List Nd}{d:Int}{b c:Nat}{L:List (Nd×Value)}
theorem TV.at_(h:TV w S g T d b c L){i:Nat}{nd:Nd}(hi:T[i]? =some nd):∃v,L[i]? =some (nd,v):=by
 rw [<-h.fst,List.getElem?_map]at hi;cases hL:L[i]? with
 |none=>simp [hL]at hi
 |some p=>
  rw [hL]at hi;simp at hi;exact⟨p.2,by rw [<-hi]⟩
theorem TV.nodes(h:TV w S g T d b c L):w.cell? ⟨g,0,none⟩=some (.slice (some ⟨b,0,none⟩) T.length c):=by rw [ay h.top];rfl
theorem TV.HV(h:TV w S g T d b c L):w.cell? ⟨g,1,none⟩=some (.int .i64 d):=by rw [ay h.top];rfl
theorem TV.cell(h:TV w S g T d b c L){i:Nat}{p:Nd×Value}(hi:L[i]? =some p){j:Nat}{v:Value}(hj:j<5)(hv:(iW p.1 p.2)[j]? =some v):w.cell? ⟨b,i*5+j,none⟩=some v:=
 Row.cell h.row (by rw [HQ hi hj,hv])
theorem TV.gb(h:TV w S g T d b c L):g≠b:=by
 rintro rfl;obtain⟨_,cur,hc⟩:=Row.bC h.row (k:=g) rfl;rw [h.top]at hc;injection hc with hc;injection hc with _ ht;exact absurd ht (by decide)
theorem VP.ne{p:Nd×Value}{A:Option Addr}{m:Nat}(h:VP w S p A m){k:Nat}{cs:Array Value}{t:TypeId}(hk:w.heap[k]? =some (.cells cs t (0,0)))(ht:t≠jh):bg A≠some k:=by
 intro e;obtain⟨_,cur,hc⟩:=Row.bC h.row e;rw [hk]at hc;injection hc with hc;injection hc with _ h2;exact ht h2
theorem TV.uY(h:TV w S g T d b c L):∃cur,w.heap[b]? =some (.cells cur iO (0,0)):=(Row.bC h.row rfl).2
theorem TV.aC{S0:Nat->Prop}(h:TV w S g T d b c L)(hk:Kept S0 w w')(hn:∀k,S k->¬S0 k):TV w' S g T d b c L:= {
 top:=hk.heap h.top (hn g h.gQ)
 fst:=h.fst
 row:=Row.aC h.row hk (fun k e=>by cases e;exact hn b h.fM)
 qd:=fun i p hp=>let ⟨A,m,h1⟩:=h.qd i p hp;⟨A,m,h1.val,Row.aC h1.row hk (fun k e=>hn k (h1.jL k e)),h1.jL⟩
 apart:=h.apart
 gQ:=h.gQ
 fM:=h.fM}
theorem om.aC{S0:Nat->Prop}(h:om w S g T d)(hk:Kept S0 w w')(hn:∀k,S k->¬S0 k):om w' S g T d:=
 let ⟨b,c,L,h⟩:=h;⟨b,c,L,h.aC hk hn⟩
theorem om.same(h:om w S g T d)(hk:Kept Nil w w'):om w' S g T d:=h.aC hk fun _ _ h=>h
theorem TV.lt(h:TV w S g T d b c L):g<w.heap.size:=aQ h.top
theorem TV.tJ(h:TV w S g T d b c L){i:Nat}{nd nd':Nd}{v:Value}(hi:L[i]? =some (nd,v)){j:Nat}(hj:j<5){u:Value}
 (hc:iW nd' v=(iW nd v).set j u) (oR:nd'.ch=nd.ch):
 Wr w ⟨b,i*5+j,none⟩/\TV (w.setCell ⟨b,i*5+j,none⟩ u) S g (T.set i nd') d b c (L.set i (nd',v)):=by
 have dQ:i<L.length:=(lgeS hi).1;have cH:i*5+j<(nV L).length:=by rw [sK];omega
 refine⟨Row.wr h.row cH,?_⟩;have e8:=Row.set h.row cH u;rw [zy hi hj (p':=(nd',v)) hc]at e8;have hK:Kept (fun k=>k=b) w (w.setCell ⟨b,i*5+j,none⟩ u):=(Kept.refl (fun k=>k=b) w).setCell (p:=⟨b,i*5+j,none⟩) (fun _=>rfl) u;have fX:∀(k:Nat) (p:Nd×Value),(L.set i (nd',v))[k]? =some p->∃q,L[k]? =some q/\q.2=p.2/\q.1.ch=p.1.ch:=by
  intro k p hp;rw [List.getElem?_set]at hp;by_cases e:i=k
  ·subst e
   rw [if_pos rfl,if_pos dQ]at hp;cases hp;exact⟨_,hi,rfl,oR.symm⟩
  ·rw [if_neg e]at hp
   exact⟨p,hp,rfl,rfl⟩
 exact {
  top:=by rw [List.length_set];exact hK.heap h.top h.gb
  fst:=by rw [List.map_set,h.fst]
  row:=by rw [List.length_set];exact e8
  qd:=fun k p hp=>by
   obtain⟨q,hq,h1,h2⟩:=fX k p hp;obtain⟨A,m,hk⟩:=h.qd k q hq;obtain⟨cur,hb⟩:=h.uY;refine⟨A,m,by rw [<-h1,<-h2];exact hk.val,?_,hk.jL⟩;rw [<-h2];exact Row.aC hk.row hK (fun k e e2=>hk.ne hb (by decide) (by rw [e,e2]))
  apart:=fun k l p q hp hq Bp=>by
   obtain⟨p',Fp,h1,_⟩:=fX k p hp;obtain⟨q',zh,h2,_⟩:=fX l q hq;rw [<-h1,<-h2];exact h.apart k l p' q' Fp zh Bp
  gQ:=h.gQ
  fM:=h.fM}
end
theorem nY(b x y:Nat):((⟨b,0,none⟩:Addr).add x).add y=⟨b,x+y,none⟩:=by rw [a8,a8,Nat.zero_add]
theorem lS(b x:Nat):(⟨b,0,none⟩:Addr).add x=⟨b,x,none⟩:=by rw [a8,Nat.zero_add]
section
variable{w:World}{S:Nat->Prop}{g:Nat}{T:List Nd}{d:Int}{b c:Nat}{L:List (Nd×Value)}
theorem TV.go(h:TV w S g T d b c L){k:Option Addr->Nat->Nat->Prop}(hk:k (some ⟨b,0,none⟩) T.length c):
 ∃A n m,w.cell? ((⟨g,0,none⟩:Addr).add 0)=some (.slice A n m)/\k A n m:=⟨_,_,_,by rw [lS];exact h.nodes,hk⟩
theorem TV.goD(h:TV w S g T d b c L){k:Int->Prop}(hk:k d):∃t,w.cell? ((⟨g,0,none⟩:Addr).add 1)=some (.int .i64 t)/\k t:=
 ⟨_,by rw [lS];exact h.HV,hk⟩
theorem TV.HK(h:TV w S g T d b c L){i:Nat}{nd:Nd}{v:Value}(hi:L[i]? =some (nd,v)){k:Int->Prop}(hk:k nd.parent):
 ∃t,w.cell? (((⟨b,0,none⟩:Addr).add (i*5)).add 0)=some (.int .i64 t)/\k t:=⟨_,by rw [nY];exact h.cell hi (by omega) rfl,hk⟩
theorem TV.Vh(h:TV w S g T d b c L){i:Nat}{nd:Nd}{v:Value}(hi:L[i]? =some (nd,v)){A:Option Addr}{m:Nat}(hv:v=.slice A nd.ch.length m){k:Option Addr->Nat->Nat->Prop}(hk:k A nd.ch.length m):
 ∃A n m,w.cell? (((⟨b,0,none⟩:Addr).add (i*5)).add 1)=some (.slice A n m)/\k A n m:=⟨_,_,_,by rw [nY];exact h.cell hi (by omega) (by rw [hv];rfl),hk⟩
theorem TV.uH(h:TV w S g T d b c L){i:Nat}{nd:Nd}{v:Value}(hi:L[i]? =some (nd,v)){k:Int->Prop}(hk:k nd.lo):
 ∃t,w.cell? (((⟨b,0,none⟩:Addr).add (i*5)).add 2)=some (.int .u64 t)/\k t:=⟨_,by rw [nY];exact h.cell hi (by omega) rfl,hk⟩
theorem TV.zv(h:TV w S g T d b c L){i:Nat}{nd:Nd}{v:Value}(hi:L[i]? =some (nd,v)){k:Int->Prop}(hk:k nd.hi):
 ∃t,w.cell? (((⟨b,0,none⟩:Addr).add (i*5)).add 3)=some (.int .u64 t)/\k t:=⟨_,by rw [nY];exact h.cell hi (by omega) rfl,hk⟩
theorem TV.xx(h:TV w S g T d b c L){i:Nat}{nd:Nd}{v:Value}(hi:L[i]? =some (nd,v)){k:Int->Prop}(hk:k nd.free):
 ∃t,w.cell? (((⟨b,0,none⟩:Addr).add (i*5)).add 4)=some (.int .u64 t)/\k t:=⟨_,by rw [nY];exact h.cell hi (by omega) rfl,hk⟩
theorem TV.kept{w':World}(h:TV w S g T d b c L)(hk:Kept Nil w w'):TV w' S g T d b c L:=h.aC hk fun _ _ h=>h
end
section
variable{w:World}{S:Nat->Prop}{g:Nat}{T:List Nd}{d:Int}{K:Value->World->Prop}
theorem wS(h:om w S g T d)(n:Int)(hK:K (.bool (decide (0<=n/\n<T.length))) w):
 bk prog hZ.id #[.pointer (some ⟨g,0,none⟩),.int .i64 n] w K:=by
 obtain⟨b,c,L,h⟩:=h;refine hZ.of (Split.yes rfl (Split.dec (fun h0=>h.go ?_) (fun h0=>?_)))
 ·rwa [show decide (0<=n/\n<(T.length:Int))=decide (n<(T.length:Int))from by simp [show(0:Int)<=n from h0]]at hK
 ·rwa [decide_eq_false (fun e:0<=n/\n<(T.length:Int)=>h0 e.1)]at hK
theorem FL(h:om w S g T d)(hT:0<T.length)(n:Int)(hK:K (.int .i64 (if 0<=n/\n<T.length then 0 else 6)) w):
 bk prog fO.id #[.pointer (some ⟨g,0,none⟩),.int .i64 n] w K:=by
 have h0:=h;obtain⟨b,c,L,h⟩:=h;refine fO.of (Split.no rfl (h.go (Split.no (beq_eq_false_iff_ne.2 (by omega)) (wS h0 n ⟨_,rfl,?_⟩))));by_cases hn:0<=n/\n<(T.length:Int)
 ·rw [if_pos hn]at hK
  exact Split.no (by simp [hn]) hK
 ·rw [if_neg hn]at hK
  exact Split.yes (by simp only [decide_eq_false hn];rfl) hK
theorem si(h:om w S g T d){n:Nat}(hn:n<T.length)(hK:K (.int .i64 0) w):
 bk prog fO.id #[.pointer (some ⟨g,0,none⟩),.int .i64 n] w K:=FL h (by omega) n (by rw [if_pos ⟨by omega,by omega⟩];exact hK)
theorem Dz(h:om w S g T d){n:Nat}{nd:Nd}(hn:T[n]? =some nd)(hK:∀w',Kept Nil w w'->K (.int .u64 (u64.wrap (nd.hi-nd.free))) w'):
 bk prog ft.id #[.pointer (some ⟨g,0,none⟩),.int .i64 n] w K:=by
 obtain⟨b,c,L,h⟩:=h;have cH:n<T.length:=(lgeS hn).1;obtain⟨v,hv⟩:=h.at_ hn;refine ft.of ?_;unfold ft.W;intro w1;have k1:Kept Nil w w1:=(Kept.refl Nil w).drew;have h1:=h.kept k1;have hb:0<=(n:Int)/\(n:Int)<(T.length:Int):=⟨by omega,by omega⟩;exact h1.go ⟨hb,h1.zv hv (h1.go ⟨hb,h1.xx hv (hK w1 k1)⟩)⟩
theorem yi(h:om w S g T d){n:Nat}{nd:Nd}(hn:T[n]? =some nd)(h0:0<n)(hK:K (.tuple #[.int .i64 nd.parent,.int .i64 0]) w):
 bk prog fh.id #[.pointer (some ⟨g,0,none⟩),.int .i64 n] w K:=by
 have cH:n<T.length:=(lgeS hn).1;refine fh.of (si h cH ⟨_,rfl,Split.yes rfl (Split.no (beq_eq_false_iff_ne.2 (by omega)) (Split.no rfl ?_))⟩);obtain⟨b,c,L,h⟩:=h;obtain⟨v,hv⟩:=h.at_ hn;exact h.go ⟨⟨by omega,by omega⟩,h.HK hv hK⟩
theorem KY:xY prog iP jh 1 8:=⟨by kernel_rfl,by kernel_rfl⟩
theorem wU:xY prog gZ iO 5 56:=⟨by kernel_rfl,by kernel_rfl⟩
end
theorem fp{x:Int}(h0:0<=x)(h1:x<18446744073709551616):u64.wrap x=x:=by
 simp only [IntKind.wrap,IntKind.bits,IntKind.signed];simp;omega
theorem gU{x:Int}(h0: -9223372036854775808<=x)(h1:x<9223372036854775808):i64.wrap x=x:=by
 simp only [IntKind.wrap,IntKind.bits,IntKind.signed];simp;omega
def uG(T:List Nd)(n p:Nat)(nd pd:Nd)(many:Int):List Nd:=
 (T.set n {nd with lo:=pd.free,hi:=pd.free+many-1,free:=pd.free}).set p {pd with free:=pd.free+many}
section
variable{w:World}{S:Nat->Prop}{g:Nat}{T:List Nd}{d:Int}{K:Value->World->Prop}
theorem ir{α:Type}{L:List α}{i:Nat}{x y:α}(h:L[i]? =some x):(L.set i y)[i]? =some y:=by
 rw [List.getElem?_set_self (lgeS h).1]
theorem nA{α:Type}{L:List α}{i j:Nat}{x y:α}(h:L[j]? =some x)(fC:i≠j):(L.set i y)[j]? =some x:=by
 rw [List.getElem?_set_ne fC];exact h
theorem tC{b c:Nat}{L:List (Nd×Value)}(h:TV w S g T d b c L){n p:Nat}{nd pd:Nd}{many:Int}(hn:T[n]? =some nd)(hp:T[p]? =some pd)(Qk:nd.parent=p)(fC:n≠p)
 (hf:0<=pd.free) (hm:1<=many) (hfm:pd.free+many<18446744073709551616)
 (hK:∀w' L',TV w' S g (uG T n p nd pd many) d b c L'->Kept (fun k=>k=b) w w'->K (.tuple #[]) w'):
 bk prog fu.id #[.pointer (some ⟨g,0,none⟩),.int .i64 n,.int .u64 many] w K:=by
 have xS:n<T.length:=(lgeS hn).1;have pH:p<T.length:=(lgeS hp).1;obtain⟨v,hv⟩:=h.at_ hn;obtain⟨u,hu⟩:=h.at_ hp;have WI:0<=(n:Int)/\(n:Int)<(T.length:Int):=⟨by omega,by omega⟩;have L9:0<=nd.parent/\nd.parent<(T.length:Int):=by rw [Qk];exact⟨by omega,by omega⟩
 refine fu.of (h.go ⟨WI,Is.mk rfl ?_⟩);intro w7;have k7:Kept (fun k=>k=b) w w7:=(Kept.refl _ w).drew;have h7:TV w7 S g T d b c L:=h.kept (Kept.refl Nil w).drew;refine h7.go (h7.HK hv ⟨L9,Is.mk rfl ?_⟩);rw [Qk];refine h7.xx hu ?_;obtain⟨Xq,C8⟩:=h7.tJ hv (j:=2) (by omega) (u:=.int .u64 pd.free) (nd':= {nd with lo:=pd.free}) rfl rfl;have kS:∀ {w w':World},Kept (fun k=>k=b) w w'->∀(j:Nat) (u:Value),Kept (fun k=>k=b) w (w'.setCell ⟨b,j,none⟩ u):=fun k j u=>k.setCell (fun _=>rfl) u;have v1:(L.set n ({nd with lo:=pd.free},v))[n]? =some ({nd with lo:=pd.free},v):=ir hv;refine⟨by rw [nY];exact Xq,?_⟩;intro lV;have e13:lV=w7.setCell ⟨b,n*5+2,none⟩ (.int .u64 pd.free):=by simp only [lV,nY,Int.toNat_natCast]
 have ve:Kept (fun k=>k=b) w lV:=by rw [e13];exact kS k7 _ _
 rw [<-e13]at C8;clear_value lV;refine C8.uH v1 ?_;obtain⟨wr2,HI⟩:=C8.tJ v1 (j:=3) (by omega) (u:=.int .u64 (u64.wrap (u64.wrap (pd.free+many)-1))) (nd':= {nd with lo:=pd.free,hi:=pd.free+many-1}) (by rw [fp (x:=pd.free+many) (by omega) (by omega),fp (by omega) (by omega)];rfl) rfl;refine⟨by rw [nY];exact wr2,?_⟩;intro mF;have e15:mF=lV.setCell ⟨b,n*5+3,none⟩ (.int .u64 (u64.wrap (u64.wrap (pd.free+many)-1))):=by simp only [mF,nY,Int.toNat_natCast]
 have sE:Kept (fun k=>k=b) w mF:=by rw [e15];exact kS ve _ _
 rw [<-e15]at HI;clear_value mF;rw [List.set_set,List.set_set]at HI;have v2:(L.set n ({nd with lo:=pd.free,hi:=pd.free+many-1},v))[n]? =some ({nd with lo:=pd.free,hi:=pd.free+many-1},v):=ir hv;refine HI.uH v2 ?_;obtain⟨Xp,WV⟩:=HI.tJ v2 (j:=4) (by omega) (u:=.int .u64 pd.free) (nd':= {nd with lo:=pd.free,hi:=pd.free+many-1,free:=pd.free}) rfl rfl;refine⟨by rw [nY];exact Xp,?_⟩;intro vR;have e17:vR=mF.setCell ⟨b,n*5+4,none⟩ (.int .u64 pd.free):=by simp only [vR,nY,Int.toNat_natCast]
 have GH:Kept (fun k=>k=b) w vR:=by rw [e17];exact kS sE _ _
 rw [<-e17]at WV;clear_value vR;rw [List.set_set,List.set_set]at WV;have u3:(L.set n ({nd with lo:=pd.free,hi:=pd.free+many-1,free:=pd.free},v))[p]? =some (pd,u):=nA hu fC;refine WV.xx u3 ?_;obtain⟨wr4,h19⟩:=WV.tJ u3 (j:=4) (by omega) (u:=.int .u64 (u64.wrap (pd.free+many))) (nd':= {pd with free:=pd.free+many}) (by rw [fp (by omega) (by omega)];rfl) rfl;refine⟨by rw [nY];exact wr4,?_⟩;intro oa;have e19:oa=vR.setCell ⟨b,p*5+4,none⟩ (.int .u64 (u64.wrap (pd.free+many))):=by simp only [oa,nY,Int.toNat_natCast]
 exact hK oa _ (by rw [e19];exact h19) (by rw [e19];exact kS GH _ _)
theorem DA(h:om w S g T d){n p:Nat}{nd pd:Nd}{many:Int}(hn:T[n]? =some nd)(hp:T[p]? =some pd)(Qk:nd.parent=p)(fC:n≠p)
 (hf:0<=pd.free) (hm:1<=many) (hfm:pd.free+many<18446744073709551616)
 (hK:∀w',om w' S g (uG T n p nd pd many) d->Kept S w w'->K (.tuple #[]) w'):
 bk prog fu.id #[.pointer (some ⟨g,0,none⟩),.int .i64 n,.int .u64 many] w K:=by
 obtain⟨b,c,L,h⟩:=h;exact tC h hn hp Qk fC hf hm hfm fun w' L' h' k'=>hK w' ⟨b,c,L',h'⟩ (k'.mono fun k _ e=>by rw [e];exact h.fM)
end
section
variable{w:World}{S:Nat->Prop}{g:Nat}{T:List Nd}{d:Int}{b c:Nat}{L:List (Nd×Value)}
theorem zz(L M:List (Nd×Value)):nV (L++M)=nV L++nV M:=by simp [nV]
theorem TV.HJ(h:TV w S g T d b c L)(kY:T.length<=1000000)(p:Int){w10:World}
 (e10:w10=w.alloc (.cells #[.int .i64 p,.slice none 0 0,.int .u64 0,.int .u64 0,.int .u64 0] iO)):
 ∃A c' mc,(Builtin.append_ #[gZ,gZ] gZ #[.slice (some ⟨b,0,none⟩) T.length c,.slice (some ⟨w.heap.size,0,none⟩) 1 1]).run prog w10=.ok (.slice A (T.length+1) c') mc/\
  Wr mc ⟨g,0,none⟩/\∃b' S' L',TV (mc.setCell ⟨g,0,none⟩ (.slice A (T.length+1) c')) S' g (T++ [⟨p,[],0,0,0⟩]) d b' c' L'/\(∀(i:Nat) q,L[i]? =some q->L'[i]? =some q)/\
   Kept S w (mc.setCell ⟨g,0,none⟩ (.slice A (T.length+1) c'))/\(∀k,S k->S' k)/\(∀k,S' k->S k\/w.heap.size<=k):=by
 subst e10;generalize NX:w.alloc (.cells #[.int .i64 p,.slice none 0 0,.int .u64 0,.int .u64 0,.int .u64 0] iO)=w10;have mu:w10.heap[w.heap.size]? =some (.cells #[.int .i64 p,.slice none 0 0,.int .u64 0,.int .u64 0,.int .u64 0] iO (0,0)):=by rw [<-NX];exact aJ w _
 have ny:Kept Nil w w10:=by rw [<-NX];exact(Kept.refl Nil w).alloc _
 have JP:w10.heap.size=w.heap.size+1:=by rw [<-NX];simp
 have vg:=h.kept ny;obtain⟨A,c',mc,hr,e8,hg,xU⟩:=fi (P:=prog) (t:=gZ) (ty:=gZ) wU vg.row (a:=⟨w.heap.size,0,none⟩) (m:=1) (cx:=1)
  (news:=iW ⟨p,[],0,0,0⟩ (.slice none 0 0)) rfl (fun j u hj=>by rw [lS,ay mu];simpa [iW]using hj) (by intro u hu;simp [iW]at hu;rcases hu with rfl|rfl|rfl|rfl|rfl<;>rfl)
  (by omega) (by unfold maxLen;omega) (Nat.zero_le _)
 obtain⟨b',rfl⟩:=Row.some e8 (by omega);have kb:Kept (fun k=>k=b) w10 mc:=(Kept.refl _ w10).grown hg (fun k hk _=>by cases hk;rfl);have iK:mc.heap[g]? =some (.cells #[.slice (some ⟨b,0,none⟩) T.length c,.int .i64 d] sO (0,0)):=kb.heap vg.top h.gb;refine⟨_,c',mc,hr,dL iK (show 0<2 by omega),?_⟩;generalize Sf:mc.setCell ⟨g,0,none⟩ (.slice (some ⟨b',0,none⟩) (T.length+1) c')=wf;have kg:Kept (fun k=>k=g) mc wf:=by rw [<-Sf];exact(Kept.refl (fun k=>k=g) mc).setCell (p:=⟨g,0,none⟩) (fun _=>rfl) _
 have vB:b'=b\/w10.heap.size<=b':=by
  rcases xU b' rfl with h|h
  ·left;cases h;rfl
  ·exact .inr h
 have aa7:b'≠g:=by
  rintro rfl;obtain⟨_,cur,hc⟩:=Row.bC e8 (k:=b') rfl;rw [iK]at hc;injection hc with hc;injection hc with _ ht;exact absurd ht (by decide)
 have EB:∀(i:Nat) (q:Nd×Value),L[i]? =some q->∃A m,VP wf S q A m:=by
  intro i q hq;obtain⟨A,m,hk⟩:=vg.qd i q hq;obtain⟨cur,Qu⟩:=vg.uY;have r1:=Row.aC hk.row kb (fun k e e2=>hk.ne Qu (by decide) (by rw [e,e2]));have r2:=Row.aC r1 kg (fun k e e2=>hk.ne vg.top (by decide) (by rw [e,e2]));exact⟨A,m,hk.val,r2,hk.jL⟩
 refine⟨b',fun k=>S k\/k=b',L++ [(⟨p,[],0,0,0⟩,.slice none 0 0)],?_,fun i q hq=>?_,?_,fun k hk=>.inl hk,?_⟩
 ·exact {
   top:=by
    have:=cV iK 0 (.slice (some ⟨b',0,none⟩) (T.length+1) c');rw [Sf]at this;simpa using this
   fst:=by simp [h.fst]
   row:=by
    rw [zz,List.length_append];have:=Row.aC e8 kg (fun k e e2=>aa7 (by cases e;exact e2));simpa [nV]using this
   qd:=fun i q hq=>by
    rw [List.getElem?_append]at hq;split at hq
    ·obtain⟨A,m,hk⟩:=EB i q hq
     exact⟨A,m,hk.val,hk.row,fun k e=>.inl (hk.jL k e)⟩
    ·rename_i cH
     have:i-L.length=0:=by
      rcases Nat.eq_zero_or_pos (i-L.length)with h|h
      ·exact h
      ·rw [List.getElem?_eq_none (by simp;omega)]at hq;cases hq
     rw [this]at hq;simp at hq;subst hq;exact⟨none,0,rfl,Row.nil _ _ _ _,fun k e=>by cases e⟩
   apart:=fun i j q q' hq zh qg k hk mw=>by
    rw [List.getElem?_append]at hq zh;have last:∀(x:Nat) (r:Nd×Value),[((⟨p,[],0,0,0⟩:Nd),Value.slice none 0 0)][x]? =some r->r.2=.slice none 0 0:=by
     intro x r hr;cases x with
     |zero=>simp at hr;subst hr;rfl
     |succ x=>simp at hr
    split at hq<;>split at zh
    ·exact h.apart i j q q' hq zh qg k hk mw
    ·rw [last _ _ zh]at mw;cases mw
    ·rw [last _ _ hq]at hk;cases hk
    ·rw [last _ _ zh]at mw;cases mw
   gQ:=.inl h.gQ
   fM:=.inr rfl}
 ·rw [List.getElem?_append_left (lgeS hq).1];exact hq
 ·have xO:Kept S w mc:=(ny.mono (S':=S) (fun _ _ h=>h.elim)).trans kb (fun k _ e=>by rw [e];exact h.fM)
  exact xO.trans kg (fun k _ e=>by rw [e];exact h.gQ)
 ·rintro k (hk|rfl)
  ·exact .inl hk
  ·rcases vB with rfl|vB
   ·exact .inl h.fM
   ·right;omega
theorem TV.Kz(h:TV w S g T d b c L){p:Nat}{nd:Nd}{v:Value}(hp:L[p]? =some (nd,v)){A:Option Addr}{m:Nat}(hk:VP w S (nd,v) A m)(kY:nd.ch.length<=1000000)(n:Nat){w22:World}
 (e22:w22=w.alloc (.cells #[.int .i64 n] jh)):
 ∃A' c' la,(Builtin.append_ #[iP,iP] iP #[.slice A nd.ch.length m,.slice (some ⟨w.heap.size,0,none⟩) 1 1]).run prog w22=.ok (.slice A' (nd.ch.length+1) c') la/\
  la.cell? ⟨g,0,none⟩=some (.slice (some ⟨b,0,none⟩) T.length c)/\Wr la ⟨b,p*5+1,none⟩/\
  ∃S' L',TV (la.setCell ⟨b,p*5+1,none⟩ (.slice A' (nd.ch.length+1) c')) S' g (T.set p {nd with ch:=nd.ch++ [n]}) d b c L'/\
   Kept S w (la.setCell ⟨b,p*5+1,none⟩ (.slice A' (nd.ch.length+1) c'))/\(∀k,S k->S' k)/\(∀k,S' k->S k\/w.heap.size<=k):=by
 subst e22;generalize NW:w.alloc (.cells #[.int .i64 n] jh)=w22;have mu:w22.heap[w.heap.size]? =some (.cells #[.int .i64 n] jh (0,0)):=by rw [<-NW];exact aJ w _
 have RY:Kept Nil w w22:=by rw [<-NW];exact(Kept.refl Nil w).alloc _
 have ahw:w22.heap.size=w.heap.size+1:=by rw [<-NW];simp
 have Bz:=h.kept RY;have Og:=Row.aC hk.row RY (fun _ _ h=>h);have pH:p<L.length:=(lgeS hp).1;obtain⟨A',c',la,hr,e8,hg,xU⟩:=fi (P:=prog) (t:=iP) (ty:=iP) KY Og (a:=⟨w.heap.size,0,none⟩) (m:=1) (cx:=1)
  (news:=ints [n]) rfl (fun j u hj=>by rw [lS,ay mu];simpa [ints]using hj) (by intro u hu;simp [ints]at hu;subst hu;rfl)
  (by simp only;omega) (by unfold maxLen;simp only;omega) (Nat.zero_le _)
 obtain⟨cur,Qu⟩:=Bz.uY;obtain⟨ajM,hb0⟩:=h.uY;have LW:bg A≠some b:=hk.ne hb0 (by decide);have hkg:bg A≠some g:=hk.ne h.top (by decide);have kA:Kept (fun k=>bg A=some k) w22 la:=(Kept.refl _ w22).grown hg (fun k hk _=>hk);have HH:Row la 0 iO 5 (some ⟨b,0,none⟩) T.length c (nV L):=Row.aC Bz.row kA (fun k e e2=>LW (by rw [e2,<-e];rfl));have HG:=kA.heap Bz.top (fun e=>hkg e);have cH:p*5+1<(nV L).length:=by rw [sK];omega
 refine⟨A',c',la,hr,by rw [ay HG];rfl,Row.wr HH cH,?_⟩;generalize Sf:la.setCell ⟨b,p*5+1,none⟩ (.slice A' (nd.ch.length+1) c')=wf;have kB:Kept (fun k=>k=b) la wf:=by rw [<-Sf];exact(Kept.refl (fun k=>k=b) la).setCell (p:=⟨b,p*5+1,none⟩) (fun _=>rfl) _
 have abF:bg A'≠some b:=by
  intro e;obtain⟨_,Vw,hc⟩:=Row.bC e8 e;have:=kA.heap Qu LW;rw [this]at hc;injection hc with hc;injection hc with _ ht;exact absurd ht (by decide)
 have ux:∀(A:Option Addr) n m,Value.ownBlock (.slice A n m)=bg A:=by intro A n m;cases A<;>rfl
 have fX:∀(i:Nat) (q:Nd×Value),(L.set p ({nd with ch:=nd.ch++ [n]},.slice A' (nd.ch.length+1) c'))[i]? =some q->(i=p/\q=({nd with ch:=nd.ch++ [n]},.slice A' (nd.ch.length+1) c'))\/(i≠p/\L[i]? =some q):=by
  intro i q hq;by_cases e:p=i
  ·subst e
   rw [List.getElem?_set_self pH]at hq;cases hq;exact .inl ⟨rfl,rfl⟩
  ·rw [List.getElem?_set_ne e]at hq
   exact .inr ⟨fun h=>e h.symm,hq⟩
 have LP:∀k,bg A'=some k->∀(i:Nat) (q:Nd×Value),i≠p->L[i]? =some q->Value.ownBlock q.2≠some k:=by
  intro k mw i q hi hq Zv;rcases xU k mw with e|e
  ·exact h.apart p i _ _ hp hq (fun e=>hi e.symm) k (by rw [hk.val,ux];exact e) Zv
  ·obtain⟨A2,m2,mE⟩:=h.qd i q hq
   rw [mE.val,ux]at Zv;obtain⟨_,ajL,L6⟩:=Row.bC mE.row Zv;have:=aQ L6;omega
 refine⟨fun k=>S k\/bg A'=some k,L.set p ({nd with ch:=nd.ch++ [n]},.slice A' (nd.ch.length+1) c'),?_,?_,fun k hk=>.inl hk,?_⟩
 ·exact {
   top:=by rw [List.length_set];exact kB.heap HG h.gb
   fst:=by rw [List.map_set,h.fst]
   row:=by
    rw [List.length_set];have:=Row.set HH cH (.slice A' (nd.ch.length+1) c');rw [Sf,zy hp (j:=1) (by omega) (p':=({nd with ch:=nd.ch++ [n]},.slice A' (nd.ch.length+1) c')) rfl]at this;exact this
   qd:=fun i q hq=>by
    rcases fX i q hq with⟨rfl,rfl⟩|⟨hi,hq⟩
    ·refine⟨A',c',by simp,?_,fun k e=>.inr e⟩
     have:=Row.aC e8 kB (fun k e e2=>abF (by rw [e,e2]));simpa [ints]using this
    ·obtain⟨A2,m2,mE⟩:=Bz.qd i q hq
     have r1:=Row.aC mE.row kA (fun k e e2=>h.apart p i _ _ hp hq (fun e=>hi e.symm) k (by rw [hk.val,ux];exact e2) (by rw [mE.val,ux];exact e));have r2:=Row.aC r1 kB (fun k e e2=>mE.ne Qu (by decide) (by rw [e,e2]));exact⟨A2,m2,mE.val,r2,fun k e=>.inl (mE.jL k e)⟩
   apart:=fun i j q q' hq zh qg k IF mE=>by
    rcases fX i q hq with⟨e1,e2⟩|⟨hi,LK⟩<;>rcases fX j q' zh with⟨e3,e4⟩|⟨hj,Qh⟩
    ·exact qg (e1.trans e3.symm)
    ·rw [e2,ux]at IF;exact LP k IF j q' hj Qh mE
    ·rw [e4,ux]at mE;exact LP k mE i q hi LK IF
    ·exact h.apart i j q q' LK Qh qg k IF mE
   gQ:=.inl h.gQ
   fM:=.inl h.fM}
 ·have pQ:Kept S w la:=(RY.mono (S':=S) (fun _ _ h=>h.elim)).trans kA (fun k _ e=>hk.jL k e)
  exact pQ.trans kB (fun k _ e=>by rw [e];exact h.fM)
 ·rintro k (mw|mw)
  ·exact .inl mw
  ·rcases xU k mw with e|e
   ·exact .inl (hk.jL k e)
   ·right;omega
end
def grown(T:List Nd)(p:Nat)(pd:Nd):List Nd:=(T++ [(⟨p,[],0,0,0⟩:Nd)]).set p {pd with ch:=pd.ch++ [T.length]}
def iL(pd:Nd):Int:=(pd.hi-pd.free+1)/2
def added(T:List Nd)(p:Nat)(pd:Nd):List Nd:=uG (grown T p pd) T.length p ⟨p,[],0,0,0⟩ {pd with ch:=pd.ch++ [T.length]} (iL pd)
section
variable{w:World}{S:Nat->Prop}{g:Nat}{T:List Nd}{d:Int}{K:Value->World->Prop}
theorem tD(h:om w S g T d){p:Nat}{pd:Nd}(hp:T[p]? =some pd)(kY:T.length<=1000000)(oR:pd.ch.length<=1000000)
 (hf:0<=pd.free) (hfh:pd.free<=pd.hi) (hh:pd.hi<=4611686018427387904)
 (hK1:pd.free<pd.hi->∀w' S',om w' S' g (added T p pd) d->Kept S w w'->(∀k,S' k->S k\/w.heap.size<=k)->K (.tuple #[.int .i64 T.length,.int .i64 0]) w')
 (hK2:pd.free=pd.hi->∀w' S',om w' S' g (grown T p pd) d->Kept S w w'->(∀k,S' k->S k\/w.heap.size<=k)->
   bk prog aw.id #[.pointer (some ⟨g,0,none⟩),.int .i64 p] w' fun v lf=>v=.tuple #[]/\K (.tuple #[.int .i64 T.length,.int .i64 0]) lf):
 bk prog fP.id #[.pointer (some ⟨g,0,none⟩),.int .i64 p] w K:=by
 have cH:p<T.length:=(lgeS hp).1;refine fP.of (si h cH ⟨_,rfl,Split.no rfl ?_⟩);obtain⟨b,c,L,h⟩:=h;obtain⟨v,hv⟩:=h.at_ hp;refine h.go (h.go ⟨rfl,?_⟩);intro w10;obtain⟨A1,c1,mc,kQ,Xq,b1,S1,L1,h14,hL1,Ix,hS1,U0⟩:=h.HJ kY (p:Int) (w10:=w10) rfl;refine⟨A1,_,c1,mc,kQ,by rw [lS];exact Xq,?_⟩;intro hU;have e14:hU=mc.setCell ⟨g,0,none⟩ (.slice A1 (T.length+1) c1):=by simp only [hU,lS]
 rw [<-e14]at h14 Ix;clear_value hU;intro mF;have sE:Kept Nil hU mF:=(Kept.refl Nil hU).drew;have HI:=h14.kept sE;have IB:=hL1 _ _ hv;have hlen:(T++ [(⟨p,[],0,0,0⟩:Nd)]).length=T.length+1:=by simp
 have Md:0<=(p:Int)/\(p:Int)<((T++ [(⟨p,[],0,0,0⟩:Nd)]).length:Int):=by rw [hlen];exact⟨by omega,by omega⟩
 obtain⟨A2,m2,hk⟩:=HI.qd _ _ IB;refine HI.go (HI.go ⟨Md,HI.Vh IB hk.val ?_⟩);intro w22;have RY:Kept Nil mF w22:=(Kept.refl Nil mF).alloc _;have Bz:=HI.kept RY;obtain⟨A3,c3,la,CO,To,Xp,S3,L3,WU,Ek,hS3,abi⟩:=HI.Kz IB hk oR T.length (w22:=w22) rfl;have zl:=Bz.cell IB (j:=1) (by omega) (v:=v) rfl;have hvv:v=.slice A2 pd.ch.length m2:=hk.val;rw [hvv]at zl;refine⟨by rw [nY];exact zl,by rw [lS];exact Bz.nodes,by rw [lS];exact Bz.nodes,A3,_,c3,la,CO,by rw [lS];exact To,Md,by rw [nY];exact Xp,?_⟩;intro pW;have e26:pW=la.setCell ⟨b1,p*5+1,none⟩ (.slice A3 (pd.ch.length+1) c3):=by simp only [pW,nY,Int.toNat_natCast]
 rw [<-e26]at WU Ek;clear_value pW;have JN:(T++ [(⟨p,[],0,0,0⟩:Nd)]).set p {pd with ch:=pd.ch++ [T.length]}=grown T p pd:=rfl;rw [JN]at WU;have hgp:(grown T p pd)[p]? =some {pd with ch:=pd.ch++ [T.length]}:=by
  unfold grown;rw [List.getElem?_set_self (by simp;omega)]
 have hgn:(grown T p pd)[T.length]? =some ⟨p,[],0,0,0⟩:=by
  unfold grown;rw [List.getElem?_set_ne (by omega)];simp
 have kw:Kept S w pW:=(Ix.tt (sE.mono (S':=S) (fun _ _ h=>h.elim))).trans Ek (fun k hk h=>by
  rcases U0 k h with h|h
  ·exact h
  ·omega)
 have Ph:∀k,S3 k->S k\/w.heap.size<=k:=fun k h=>by
  rcases abi k h with h|h
  ·exact U0 k h
  ·right
   have:=Ix.size;have:=sE.size;omega
 refine Dz ⟨_,_,_,WU⟩ hgp fun Fj GB=>⟨_,rfl,?_⟩;have h28:=WU.kept GB;have Rv:Kept S w Fj:=kw.trans GB (fun _ _ h=>h.elim);simp only [];rw [fp (x:=pd.hi-pd.free) (by omega) (by omega)];refine Split.dec (fun iX=>⟨by decide,?_⟩) (fun iX=>?_)
 ·have C0:u64.wrap ((u64.wrap (pd.hi-pd.free+1)).tdiv 2)=iL pd:=by
   rw [fp (x:=pd.hi-pd.free+1) (by omega) (by omega),Int.tdiv_eq_ediv_of_nonneg (by omega),fp (by omega) (by omega)];rfl
  rw [C0];refine DA ⟨_,_,_,h28⟩ hgn hgp rfl (by omega) hf (by unfold iL;omega) (by unfold iL;simp only;omega) fun FF h31 Lg=>⟨rfl,?_⟩;refine hK1 (by omega) FF S3 h31 (Rv.trans Lg fun k hk h=>?_) Ph;rcases Ph k h with h|h
  ·exact h
  ·omega
 ·exact hK2 (by omega) Fj S3 ⟨_,_,_,h28⟩ Rv Ph
end
section
variable{w:World}{S:Nat->Prop}{g:Nat}{T:List Nd}{d:Int}{K:Value->World->Prop}
def pM:List Nd:= [⟨-1,[],1,4611686018427387904,1⟩]
theorem eM(hK:∀w' g,om w' (fun k=>w.heap.size<=k) g pM 0->Kept Nil w w'->K (.pointer (some ⟨g,0,none⟩)) w'):bk prog eM.id #[] w K:=by
 refine eM.of ⟨rfl,?_⟩;intro w1 w2;have k1:Kept Nil w w1:=(Kept.refl Nil w).alloc _;have k2:Kept Nil w w2:=k1.alloc _;refine hK w2 w1.heap.size ⟨w.heap.size,1,[(⟨-1,[],1,4611686018427387904,1⟩,.slice none 0 0)],?_⟩ k2;exact {
  top:=aJ w1 _
  fst:=rfl
  row:=Row.made (n:=1) (cur:= #[.int .i64 (-1),.slice none 0 0,.int .u64 1,.int .u64 4611686018427387904,.int .u64 1]) (iU (aJ w _) _) (Nat.zero_le _) rfl (by decide)
  qd:=fun i p hp=>by
   cases i with
   |zero=>simp at hp;subst hp;exact⟨none,0,rfl,Row.nil _ _ _ _,fun k e=>by cases e⟩
   |succ i=>simp at hp
  apart:=fun i j p q hp hq qg=>by
   cases i<;>cases j<;>simp at hp hq
   exact absurd rfl qg
  gQ:=k1.size
  fM:=Nat.le_refl _}
theorem Ap(h:om w S g T d){a b:Nat}{ad bd:Nd}(ha:T[a]? =some ad)(hb:T[b]? =some bd)(hK:∀w',Kept Nil w w'->K (.bool (decide (bd.lo<=ad.lo/\ad.hi<=bd.hi))) w'):
 bk prog e9.id #[.pointer (some ⟨g,0,none⟩),.int .i64 a,.int .i64 b] w K:=by
 have WK:a<T.length:=(lgeS ha).1;have xU:b<T.length:=(lgeS hb).1;have hba:0<=(a:Int)/\(a:Int)<(T.length:Int):=⟨by omega,by omega⟩;have vA:0<=(b:Int)/\(b:Int)<(T.length:Int):=⟨by omega,by omega⟩;refine e9.of ?_;unfold e9.W;intro w4;have k4:Kept Nil w w4:=(Kept.refl Nil w).drew;have h4:=h.same k4;have hk:=hK w4 k4;refine wS h4 a ⟨_,rfl,Split.yes (decide_eq_true hba) ?_⟩;refine wS h4 b ⟨_,rfl,Split.yes (decide_eq_true vA) ?_⟩;obtain⟨p,c,L,h4⟩:=h4;obtain⟨va,hva⟩:=h4.at_ ha;obtain⟨vb,Si⟩:=h4.at_ hb;refine h4.go ⟨vA,h4.uH Si (h4.go ⟨hba,h4.uH hva ?_⟩)⟩;refine Split.dec (fun h1=>h4.go ⟨hba,h4.zv hva (h4.go ⟨vA,h4.zv Si ?_⟩)⟩) (fun h1=>?_)
 ·rwa [show decide (bd.lo<=ad.lo/\ad.hi<=bd.hi)=decide (ad.hi<=bd.hi)from by simp [h1]]at hk
 ·rwa [decide_eq_false (fun e:bd.lo<=ad.lo/\ad.hi<=bd.hi=>h1 e.1)]at hk
end
section
variable{w:World}{t:Option Addr}{K:Value->World->Prop}
end
end Go.Proofs.YtnboahlopghcjaaGreatDoor.Tr
namespace Go.Proofs.YtnboahlopghcjaaGreatDoor.Tr
open Go.Proofs.Tryz
def bP(T:List Nd):List Int:=T.map (·.parent)
structure ma(P:List Int):Prop where
 root:P[0]? =some (-1)
 up:∀(i:Nat) (p:Int),0<i->P[i]? =some p->∃j:Nat,j<i/\p=j
def kids(P:List Int)(i:Nat):List Nat:=(List.range P.length).filter fun j=>P[j]? ==some (i:Int)
theorem ek{P:List Int}{i j:Nat}:j∈kids P i↔P[j]? =some (i:Int):=by
 simp only [kids,List.mem_filter,List.mem_range,beq_iff_eq];exact⟨fun h=>h.2,fun h=>⟨(lgeS h).1,h⟩⟩
theorem im{P:List Int}(hP:ma P){i j:Nat}(h:j∈kids P i):i<j/\j<P.length:=by
 rw [ek]at h;refine⟨?_,(lgeS h).1⟩;rcases Nat.eq_zero_or_pos j with rfl|hj
 ·rw [hP.root]at h;have:=Option.some.inj h;omega
 ·obtain⟨k,hk,e⟩:=hP.up j _ hj h
  omega
theorem sD(P:List Int)(i:Nat):(kids P i).Pairwise (· < ·):=List.Pairwise.filter _ (List.pairwise_lt_range)
theorem yU(P:List Int)(i:Nat):(kids P i).length<=P.length:=by
 unfold kids;exact Nat.le_trans (List.length_filter_le _ _) (by simp)
inductive jD (P:List Int):Nat->Nat->Prop
 |refl {i:Nat}:i<P.length->jD P i i
 |step {i j k:Nat}:P[i]? =some (j:Int)->jD P j k->jD P i k
theorem jD.lt{P:List Int}{i k:Nat}(h:jD P i k):i<P.length:=by
 cases h with
 |refl h=>exact h
 |step h _=>exact(lgeS h).1
theorem jD.V8{P:List Int}{i k:Nat}(h:jD P i k):k<P.length:=by
 induction h with
 |refl h=>exact h
 |step _ _ ih=>exact ih
theorem jD.le{P:List Int}(hP:ma P){i k:Nat}(h:jD P i k):k<=i:=by
 induction h with
 |refl=>omega
 |step h _ ih=>have:=(im hP (ek.2 h)).1;omega
theorem jD.trans{P:List Int}{i j k:Nat}(h:jD P i j)(h':jD P j k):jD P i k:=by
 induction h with
 |refl=>exact h'
 |step h _ ih=>exact .step h (ih h')
theorem jD.inv{P:List Int}{i j k:Nat}(h:jD P i k)(fC:i≠k)(hj:P[i]? =some (j:Int)):jD P j k:=by
 cases h with
 |refl=>exact absurd rfl fC
 | @step _ j' _ h h'=>
   rw [hj]at h;have e:j=j':=by have:=Option.some.inj h;omega
   rw [e];exact h'
theorem jD.child{P:List Int}{i k:Nat}(h:jD P i k)(fC:i≠k):∃c,c∈kids P k/\jD P i c:=by
 induction h with
 |refl=>exact absurd rfl fC
 | @step i j k h h' ih=>
   by_cases e:j=k
   ·subst e
    exact⟨i,ek.2 h,.refl (lgeS h).1⟩
   ·obtain⟨c,hc,hu⟩:=ih e
    exact⟨c,hc,.step h hu⟩
structure Iv(nd:Nd):Prop where
 Yd:1<=nd.lo
 le:nd.lo<=nd.hi
 top:nd.hi<=4611686018427387904
structure Loc(T:List Nd)(nd:Nd):Prop where
 Fv:nd.lo<=nd.free
 BF:nd.free<=nd.hi
 sub:∀c cd,c∈nd.ch->T[c]? =some cd->nd.lo<=cd.lo/\cd.hi<nd.free
 ord:∀(c c':Nat) cd uU,c∈nd.ch->c'∈nd.ch->c<c'->T[c]? =some cd->T[c']? =some uU->cd.hi<uU.lo
structure Shape(T:List Nd):Prop where
 par:ma (bP T)
 ch:∀(i:Nat) nd,T[i]? =some nd->nd.ch=kids (bP T) i
structure Good(T:List Nd):Prop extends Shape T where
 iv:∀(i:Nat) nd,T[i]? =some nd->Iv nd
 loc:∀(i:Nat) nd,T[i]? =some nd->Loc T nd
theorem km{T:List Nd}{i:Nat}{nd:Nd}(h:T[i]? =some nd):(bP T)[i]? =some nd.parent:=by simp [bP,h]
theorem eN(T:List Nd):(bP T).length=T.length:=by simp [bP]
theorem Shape.pos{T:List Nd}(h:Shape T):0<T.length:=by
 have:=(lgeS h.par.root).1
 rwa [eN]at this
theorem Good.qd{T:List Nd}(h:Good T){c k:Nat}{cd kd:Nd}(hc:c∈kids (bP T) k)(jm:T[c]? =some cd)(TH:T[k]? =some kd):
 kd.lo<=cd.lo/\cd.hi<kd.free:=(h.loc k kd TH).sub c cd (by rw [h.ch k kd TH];exact hc) jm
theorem fG{T:List Nd}{i:Nat}(h:i<T.length):∃nd,T[i]? =some nd:=⟨_,List.getElem?_eq_getElem h⟩
theorem Good.oc{T:List Nd}(h:Good T){a b:Nat}{ad bd:Nd}(ha:T[a]? =some ad)(hb:T[b]? =some bd)(hu:jD (bP T) a b):bd.lo<=ad.lo/\ad.hi<=bd.hi:=by
 induction hu generalizing ad with
 |refl=>rw [ha]at hb;cases hb;omega
 | @step i j k hp h' ih=>
   have sV:j<T.length:=by have:=h'.lt;rwa [eN]at this
   obtain⟨jd,hj⟩:=fG sV;have h1:=ih hj hb;have h2:=h.qd (ek.2 hp) ha hj;have h3:=(h.loc j jd hj).BF;omega
theorem Good.apart{T:List Nd}(h:Good T):∀(m a b:Nat),a+b<=m->∀ad bd,T[a]? =some ad->T[b]? =some bd->¬jD (bP T) a b->¬jD (bP T) b a->ad.hi<bd.lo\/bd.hi<ad.lo:=by
 intro m
 induction m with
 |zero=>
  intro a b hm ad bd ha hb h1 _;have:a=b:=by omega
  subst this;exact absurd (.refl (by rw [eN];exact(lgeS ha).1)) h1
 |succ m ih=>
  have key:∀(a b:Nat),a+b<=m+1->b<a->∀ad bd,T[a]? =some ad->T[b]? =some bd->¬jD (bP T) a b->¬jD (bP T) b a->ad.hi<bd.lo\/bd.hi<ad.lo:=by
   intro a b hm cH ad bd ha hb h1 h2;have WK:=(lgeS ha).1;obtain⟨p,hp,e⟩:=h.par.up a _ (by omega) (km ha);have Ws:(bP T)[a]? =some (p:Int):=by rw [km ha,e]
   obtain⟨pd,xo⟩:=fG (T:=T) (i:=p) (by omega);have fF:=h.qd (ek.2 Ws) ha xo;have pH:=h.loc p pd xo;have z8:¬jD (bP T) p b:=fun hu=>h1 (.step Ws hu);by_cases L9:jD (bP T) b p
   ·have fC:b≠p:=fun e=>z8 (by subst e;exact .refl L9.lt)
    obtain⟨c,hc,Lx⟩:=L9.child fC;have hca:c≠a:=fun e=>h2 (e▸Lx);have qh:c<T.length:=by have:=(im h.par hc).2;rwa [eN]at this
    obtain⟨cd,jm⟩:=fG qh;have Hw:=h.oc hb jm Lx;have oR:=h.ch p pd xo;rcases Nat.lt_or_ge c a with cH|fV
    ·have:=pH.ord c a cd ad (by rw [oR];exact hc) (by rw [oR];exact ek.2 Ws) cH jm ha
     omega
    ·have:=pH.ord a c ad cd (by rw [oR];exact ek.2 Ws) (by rw [oR];exact hc) (by omega) ha jm
     omega
   ·have:=ih p b (by omega) pd bd xo hb z8 L9
    have:=pH.BF;omega
  intro a b hm ad bd ha hb h1 h2;rcases Nat.lt_trichotomy a b with cH|rfl|cH
  ·have:=key b a (by omega) cH bd ad hb ha h2 h1
   omega
  ·exact absurd (.refl (by rw [eN];exact(lgeS ha).1)) h1
  ·exact key a b hm cH ad bd ha hb h1 h2
theorem Good.under{T:List Nd}(h:Good T){a b:Nat}{ad bd:Nd}(ha:T[a]? =some ad)(hb:T[b]? =some bd):(bd.lo<=ad.lo/\ad.hi<=bd.hi)↔jD (bP T) a b:=by
 refine⟨fun hi=>?_,fun hu=>h.oc ha hb hu⟩;by_cases hu:jD (bP T) a b
 ·exact hu
 ·exfalso
  have ia:=h.iv a ad ha;have ib:=h.iv b bd hb;by_cases hv:jD (bP T) b a
  ·have fC:b≠a:=fun e=>hu (by subst e;exact .refl hv.lt)
   obtain⟨c,hc,Lx⟩:=hv.child fC;have qh:c<T.length:=by have:=(im h.par hc).2;rwa [eN]at this
   obtain⟨cd,jm⟩:=fG qh;have h1:=h.oc hb jm Lx;have h2:=h.qd hc jm ha;have h3:=(h.loc a ad ha).BF;omega
  ·have:=h.apart (a+b) a b (Nat.le_refl _) ad bd ha hb hu hv
   have:=ia.le;have:=ib.le;omega
theorem wC(T:List Nd)(p:Nat)(pd:Nd):(grown T p pd).length=T.length+1:=by simp [grown]
theorem iY{T:List Nd}{p:Nat}{pd:Nd}(hp:T[p]? =some pd)(i:Nat):(grown T p pd)[i]? =if i=p then some {pd with ch:=pd.ch++ [T.length]}else if i=T.length then some ⟨p,[],0,0,0⟩else T[i]? :=by
 have cH:=(lgeS hp).1;unfold grown;by_cases e:i=p
 ·subst e
  rw [if_pos rfl,List.getElem?_set_self (by simp;omega)]
 ·rw [if_neg e,List.getElem?_set_ne (fun h=>e h.symm)]
  by_cases e2:i=T.length
  ·subst e2;simp
  ·rw [if_neg e2]
   rcases Nat.lt_or_ge i T.length with h|h
   ·rw [List.getElem?_append_left h]
   ·rw [List.getElem?_eq_none (by simp;omega),List.getElem?_eq_none h]
theorem lN{T:List Nd}{p:Nat}{pd:Nd}(hp:T[p]? =some pd):bP (grown T p pd)=bP T++ [(p:Int)]:=by
 apply List.ext_getElem?;intro i;have cH:=(lgeS hp).1;simp only [bP,List.getElem?_map,iY hp];by_cases e:i=p
 ·subst e
  rw [if_pos rfl,List.getElem?_append_left (by simpa using cH)];simp [hp]
 ·rw [if_neg e]
  by_cases e2:i=T.length
  ·subst e2;simp
  ·rw [if_neg e2]
   rcases Nat.lt_or_ge i T.length with h|h
   ·rw [List.getElem?_append_left (by simpa using h)];simp
   ·rw [List.getElem?_eq_none h,List.getElem?_eq_none (by simp;omega)];rfl
theorem yV(P:List Int)(p i:Nat):kids (P++ [(p:Int)]) i=kids P i++if i=p then [P.length]else []:=by
 unfold kids;rw [List.length_append,List.length_singleton,List.range_succ,List.filter_append]
 congr 1
 ·apply List.filter_congr
  intro x hx;rw [List.getElem?_append_left (by simpa using hx)]
 ·by_cases e:i=p
  ·subst e;simp
  ·have:¬((p:Int)=(i:Int)):=by omega
   simp [e,this]
theorem ma.snoc{P:List Int}(h:ma P){p:Nat}(hp:p<P.length):ma (P++ [(p:Int)]):=by
 refine⟨by rw [List.getElem?_append_left (by omega)];exact h.root,fun i q hi hq=>?_⟩;rcases Nat.lt_or_ge i P.length with hl|hl
 ·rw [List.getElem?_append_left hl]at hq
  exact h.up i q hi hq
 ·have:i=P.length:=by
   rcases Nat.eq_or_lt_of_le hl with e|e
   ·exact e.symm
   ·rw [List.getElem?_eq_none (by simp;omega)]at hq;cases hq
  subst this;simp at hq;exact⟨p,hp,hq.symm⟩
theorem Shape.grown{T:List Nd}(h:Shape T){p:Nat}{pd:Nd}(hp:T[p]? =some pd):Shape (grown T p pd):=by
 have cH:=(lgeS hp).1;refine⟨by rw [lN hp];exact h.par.snoc (by rw [eN];exact cH),fun i nd hi=>?_⟩;rw [lN hp,yV,eN];rw [iY hp]at hi;by_cases e:i=p
 ·subst e
  rw [if_pos rfl]at hi⊢;cases hi;simp [h.ch i pd hp]
 ·rw [if_neg e]at hi⊢
  rw [List.append_nil];by_cases e2:i=T.length
  ·subst e2
   rw [if_pos rfl]at hi;cases hi
   symm
   apply List.eq_nil_iff_forall_not_mem.2;intro c hc;have:=im h.par hc;rw [eN]at this;omega
  ·rw [if_neg e2]at hi
   exact h.ch i nd hi
def iE(f:Nat->Nat):Nat->Nat
 |0=>0
 |n+1=>iE f n+f n
theorem jV{f g:Nat->Nat}{n:Nat}(h:∀i,i<n->f i=g i):iE f n=iE g n:=by
 induction n with
 |zero=>rfl
 |succ n ih=>
  simp only [iE];rw [ih (fun i hi=>h i (by omega)),h n (by omega)]
theorem yk(f g:Nat->Nat)(n:Nat):iE (fun i=>f i+g i) n=iE f n+iE g n:=by
 induction n with
 |zero=>rfl
 |succ n ih=>simp only [iE];omega
theorem lg{f:Nat->Nat}{n:Nat}(h:∀i,i<n->f i=0):iE f n=0:=by
 induction n with
 |zero=>rfl
 |succ n ih=>
  simp only [iE];rw [ih (fun i hi=>h i (by omega)),h n (by omega)]
theorem DC(h:Nat->Nat->Nat)(n m:Nat):iE (fun i=>iE (fun j=>h i j) m) n=iE (fun j=>iE (fun i=>h i j) n) m:=by
 induction n with
 |zero=>simp only [iE];exact(lg fun _ _=>rfl).symm
 |succ n ih=>
  simp only [iE];rw [ih,yk]
theorem yj{n k:Nat}(hk:k<n){f:Nat->Nat}(h:∀i,i<n->i≠k->f i=0):iE f n=f k:=by
 induction n with
 |zero=>omega
 |succ n ih=>
  simp only [iE];rcases Nat.lt_or_ge k n with cH|fV
  ·rw [ih cH (fun i hi=>h i (by omega)),h n (by omega) (by omega),Nat.add_zero]
  ·have:k=n:=by omega
   subst this;rw [lg (fun i hi=>h i (by omega) (by omega)),Nat.zero_add]
theorem I0{f:Nat->Nat}{n b:Nat}(h:∀i,i<n->f i<=b):iE f n<=n*b:=by
 induction n with
 |zero=>simp [iE]
 |succ n ih=>
  simp only [iE];have:=ih (fun i hi=>h i (by omega));have:=h n (by omega);rw [Nat.succ_mul];omega
theorem FU{f f':Nat->Nat}{n k:Nat}(hk:k<n){v:Nat}(h:∀i,i<n->i≠k->f' i=f i)(hv:f' k=f k+v):iE f' n=iE f n+v:=by
 induction n with
 |zero=>omega
 |succ n ih=>
  simp only [iE];rcases Nat.lt_or_ge k n with cH|fV
  ·rw [ih cH (fun i hi=>h i (by omega)),h n (by omega) (by omega)]
   omega
  ·have:k=n:=by omega
   subst this;rw [jV (fun i hi=>h i (by omega) (by omega)),hv];omega
theorem rl(q:Nat->Bool)(f:Nat->Nat)(n:Nat):(((List.range n).filter q).map f).sum=iE (fun c=>if q c=true then f c else 0) n:=by
 induction n with
 |zero=>rfl
 |succ n ih=>
  rw [List.range_succ,List.filter_append,List.map_append,List.sum_append,ih];simp only [iE]
  congr 1
  by_cases h:q n=true
  ·simp [h]
  ·simp [h]
section
variable{P:List Int}
theorem jD.cmp{i a b:Nat}(h:jD P i a)(h':jD P i b):jD P a b\/jD P b a:=by
 induction h with
 |refl=>exact .inl h'
 | @step i j k hp h2 ih=>
   by_cases e:i=b
   ·subst e;exact .inr (.step hp h2)
   ·exact ih (h'.inv e hp)
theorem jD.one(hP:ma P){i n c c':Nat}(hc:P[c]? =some (n:Int))(sW:P[c']? =some (n:Int))(h:jD P i c)(h':jD P i c'):c=c':=by
 have key:∀(c c':Nat),P[c]? =some (n:Int)->P[c']? =some (n:Int)->jD P c c'->c=c':=by
  intro c c' hc sW h;by_cases e:c=c'
  ·exact e
  ·have:=(h.inv e hc).le hP
   have:=(im hP (ek.2 sW)).1;omega
 rcases h.cmp h' with h|h
 ·exact key c c' hc sW h
 ·exact(key c' c sW hc h).symm
open Classical in
noncomputable def ind(p:Prop):Nat:=if p then 1 else 0
theorem qQ{p:Prop}(h:p):ind p=1:=by unfold ind;rw [if_pos h]
theorem rN{p:Prop}(h:¬p):ind p=0:=by unfold ind;rw [if_neg h]
theorem NL(p:Prop):ind p<=1:=by unfold ind;split<;>omega
noncomputable def sz(P:List Int)(n:Nat):Nat:=iE (fun i=>ind (jD P i n)) P.length
theorem Ar(hP:ma P){n:Nat}(hn:n<P.length):sz P n=1+iE (fun c=>if P[c]? =some (n:Int)then sz P c else 0) P.length:=by
 have e1:∀i,i<P.length->ind (jD P i n)=ind (i=n)+iE (fun c=>if P[c]? =some (n:Int)then ind (jD P i c)else 0) P.length:=by
  intro i hi;by_cases e:i=n
  ·subst e
   rw [qQ (.refl hi),qQ rfl,lg];intro c hc;split
   ·rename_i hp
    apply rN;intro hu;have:=hu.le hP;have:=(im hP (ek.2 hp)).1;omega
   ·rfl
  ·rw [rN e,Nat.zero_add]
   by_cases hu:jD P i n
   ·obtain⟨c,hc,Lx⟩:=hu.child e
    rw [qQ hu,yj (k:=c) Lx.V8]
    ·rw [if_pos (ek.1 hc),qQ Lx]
    ·intro c' _ fC
     split
     ·rename_i hp
      exact rN fun h=>fC (jD.one hP hp (ek.1 hc) h Lx)
     ·rfl
   ·rw [rN hu,lg]
    intro c hc;split
    ·rename_i hp
     exact rN fun h=>hu (h.trans (.step hp (.refl hn)))
    ·rfl
 have e2:sz P n=iE (fun i=>ind (i=n)+iE (fun c=>if P[c]? =some (n:Int)then ind (jD P i c)else 0) P.length) P.length:=by
  unfold sz;exact jV e1
 rw [e2,yk,yj (k:=n) hn (fun i _ h=>rN h),qQ rfl,DC]
 congr 1
 apply jV;intro c _;split
 ·rfl
 ·exact lg fun _ _=>rfl
theorem tF(hP:ma P){n:Nat}(hn:n<P.length):1<=sz P n:=by rw [Ar hP hn];omega
theorem vT(n:Nat):sz P n<=P.length:=by
 have:=I0 (n:=P.length) (b:=1) (f:=fun i=>ind (jD P i n)) (fun i _=>NL _);unfold sz;omega
theorem Ce(hP:ma P){n:Nat}(hn:n<P.length):((kids P n).map (sz P)).sum+1=sz P n:=by
 unfold kids;rw [rl,Ar hP hn,Nat.add_comm]
 congr 1
 apply jV;intro c _;by_cases h:P[c]? =some (n:Int)
 ·simp [h]
 ·simp [h]
noncomputable def part(P:List Int)(m j:Nat):Nat:=iE (fun c=>if P[c]? =some (j:Int)/\m<=c then sz P c else 0) P.length
theorem DZ(j:Nat):part P P.length j=0:=lg fun c hc=>if_neg fun h=>by omega
theorem tW(hP:ma P){m j:Nat}(hj:j<P.length)(hm:m<=j+1):part P m j+1=sz P j:=by
 rw [Ar hP hj,Nat.add_comm]
 congr 1
 apply jV;intro c hc;by_cases h:P[c]? =some (j:Int)
 ·have:=(im hP (ek.2 h)).1
  rw [if_pos ⟨h,by omega⟩,if_pos h]
 ·rw [if_neg (fun e=>h e.1),if_neg h]
theorem Gc{n p:Nat}(h:P[n]? =some (p:Int)):part P n p=part P (n+1) p+sz P n:=by
 unfold part;apply FU (k:=n) (lgeS h).1
 ·intro i _ fC
  by_cases hi:P[i]? =some (p:Int)
  ·by_cases h2:n<=i
   ·rw [if_pos ⟨hi,h2⟩,if_pos ⟨hi,by omega⟩]
   ·rw [if_neg (fun e=>h2 e.2),if_neg (fun e=>by omega)]
  ·rw [if_neg (fun e=>hi e.1),if_neg (fun e=>hi e.1)]
 ·rw [if_pos ⟨h,Nat.le_refl _⟩,if_neg (fun e=>by omega),Nat.zero_add]
theorem AJ{n j:Nat}(h:P[n]? ≠some (j:Int)):part P n j=part P (n+1) j:=by
 unfold part;apply jV;intro i _;by_cases hi:P[i]? =some (j:Int)
 ·have:i≠n:=fun e=>h (e▸hi)
  by_cases h2:n<=i
  ·rw [if_pos ⟨hi,h2⟩,if_pos ⟨hi,by omega⟩]
  ·rw [if_neg (fun e=>h2 e.2),if_neg (fun e=>by omega)]
 ·rw [if_neg (fun e=>hi e.1),if_neg (fun e=>hi e.1)]
noncomputable def ig(P:List Int)(m j:Nat):Nat:=if m<=j then sz P j else part P m j
theorem AB(j:Nat)(hj:j<P.length):ig P P.length j=0:=by
 unfold ig;rw [if_neg (by omega),DZ]
theorem yw(j:Nat):ig P 0 j=sz P j:=by unfold ig;rw [if_pos (Nat.zero_le _)]
theorem DS(hP:ma P){n:Nat}(hn:n<P.length):ig P (n+1) n+1=sz P n:=by
 unfold ig;rw [if_neg (by omega),tW hP hn (Nat.le_refl _)]
theorem DR(hP:ma P){n p:Nat}(h:P[n]? =some (p:Int))(j:Nat):ig P n j=if j=p then ig P (n+1) p+sz P n else if j=n then sz P n else ig P (n+1) j:=by
 have hp:=(im hP (ek.2 h)).1;unfold ig;by_cases e:j=p
 ·subst e
  rw [if_neg (by omega),if_pos rfl,if_neg (by omega),Gc h]
 ·rw [if_neg e]
  by_cases e2:j=n
  ·subst e2;rw [if_pos (Nat.le_refl _),if_pos rfl]
  ·rw [if_neg e2]
   by_cases h2:n<=j
   ·rw [if_pos h2,if_pos (by omega)]
   ·rw [if_neg h2,if_neg (by omega)]
    exact AJ (fun h'=>e (by rw [h]at h';have:=Option.some.inj h';omega))
theorem DT(j:Nat):ig P 0 j=if j=0 then sz P 0 else ig P 1 j:=by
 rw [yw];unfold ig;by_cases e:j=0
 ·subst e;rw [if_pos rfl]
 ·rw [if_neg e,if_pos (by omega)]
theorem Cg(hP:ma P)(m j:Nat)(hj:j<P.length):ig P m j<=P.length:=by
 have h1:=vT (P:=P) j;unfold ig;split
 ·exact h1
 ·rename_i h
  have:=tW hP (m:=m) hj;by_cases h2:m<=j+1
  ·have:=this h2;omega
  ·
   have h3:part P m j<=part P 0 j:=by
    unfold part;have:∀(f g:Nat->Nat) (n:Nat),(∀i,i<n->f i<=g i)->iE f n<=iE g n:=by
     intro f g n h
     induction n with
     |zero=>simp [iE]
     |succ n ih=>
      simp only [iE];have:=ih (fun i hi=>h i (by omega));have:=h n (by omega);omega
    apply this;intro i _;split
    ·rename_i h4;rw [if_pos ⟨h4.1,Nat.zero_le _⟩];exact Nat.le_refl _
    ·exact Nat.zero_le _
   have:=tW hP (m:=0) hj (by omega);omega
end
theorem vj{α:Type}(f g:Nat->α){n k:Nat}{v:α}(hk:k<n)(h:∀i,i<n->g i=if i=k then v else f i):((List.range n).map f).set k v=(List.range n).map g:=by
 apply List.ext_getElem?;intro i;rw [List.getElem?_set];by_cases e:k=i
 ·subst e
  rw [if_pos rfl,if_pos (by simpa using hk)];simp [hk,h k hk]
 ·rw [if_neg e]
  rcases Nat.lt_or_ge i n with hi|hi
  ·have:=h i hi
   rw [if_neg (fun x=>e x.symm)]at this;simp [hi,this]
  ·rw [List.getElem?_eq_none (by simpa using hi),List.getElem?_eq_none (by simpa using hi)]
end Go.Proofs.YtnboahlopghcjaaGreatDoor.Tr
namespace Go.bU
open Go.RowKit
theorem aP{σ:Type}(e:σ->Env)(I:σ->World->Prop)(μ:σ->World->Nat)(s:σ)(w:World)(Q:aN)(l:Nat)(ρ:Env)(w':World):bI e I μ s w Q (.exit l) ρ w'=Q (.exit l) ρ w':=rfl
def zeroOf(P:Program)(e:TypeId):Option (Array Value):=
 match P.info? e with
 |some i=>match i.zero with
  |some z=>some z.cells
  |none=>none
 |none=>none
theorem Gl{P:Program}{t e:TypeId}{bytes:Nat}(T:xY P t e 1 bytes){z:Value}(hz:zeroOf P e=some #[z]){n:Nat}(hn:n<=maxLen)(hb:bytes*n<=281474976710656)(w:World):
 ∃w',(Instr.makeSlice t (.int .i64 (n:Int)) (.int .i64 (n:Int))).run P w=.ok (.slice (some ⟨w.heap.size,0,none⟩) n n) w'/\
  Row w' w.heap.size e 1 (some ⟨w.heap.size,0,none⟩) n n (List.replicate n z)/\Kept Nil w w':=by
 obtain⟨i,z',hi,xP,hs,IJ,CL⟩:=T.inf;have hc:z'.cells= #[z]:=by
  unfold zeroOf at hz;simp only [hi,xP]at hz;exact Option.some.inj hz
 obtain⟨w',hr,e8,hg⟩:=run_make_full (P:=P) (w:=w) w.heap.size t e i z' 1 T.oc hi xP hs .i64 .i64 n (by rw [IJ];exact hb) hn (Nat.le_refl _);rw [hc,Nat.mul_one,toList_madeCells_one]at e8;exact⟨w',hr,e8,(Kept.refl Nil w).grown hg (fun k hk=>by cases hk)⟩
end Go.bU
namespace Go.Proofs.YtnboahlopghcjaaGreatDoor.Tr
open Go.Proofs.Tryz
open Go Go.bU Go.RowKit
section
variable{w w':World}{S:Nat->Prop}{g:Nat}{T:List Nd}{d:Int}{K:Value->World->Prop}
theorem TV.bound{b c:Nat}{L:List (Nd×Value)}(h:TV w S g T d b c L):TV w (fun k=>S k/\k<w.heap.size) g T d b c L:= {
 top:=h.top
 fst:=h.fst
 row:=h.row
 qd:=fun i p hp=>let ⟨A,m,h1⟩:=h.qd i p hp;⟨A,m,h1.val,h1.row,fun k e=>⟨h1.jL k e,let ⟨_,_,hc⟩:=Row.bC h1.row e;aQ hc⟩⟩
 apart:=h.apart
 gQ:=⟨h.gQ,aQ h.top⟩
 fM:=⟨h.fM,let ⟨_,hc⟩:=h.uY;aQ hc⟩}
theorem TV.mono{S':Nat->Prop}{b c:Nat}{L:List (Nd×Value)}(h:TV w S g T d b c L)(hs:∀k,S k->S' k):TV w S' g T d b c L:= {
 top:=h.top
 fst:=h.fst
 row:=h.row
 qd:=fun i p hp=>let ⟨A,m,h1⟩:=h.qd i p hp;⟨A,m,h1.val,h1.row,fun k e=>hs k (h1.jL k e)⟩
 apart:=h.apart
 gQ:=hs _ h.gQ
 fM:=hs _ h.fM}
theorem om.bound(h:om w S g T d):om w (fun k=>S k/\k<w.heap.size) g T d:=let ⟨b,c,L,h⟩:=h;⟨b,c,L,h.bound⟩
theorem om.mono{S':Nat->Prop}(h:om w S g T d)(hs:∀k,S k->S' k):om w S' g T d:=let ⟨b,c,L,h⟩:=h;⟨b,c,L,h.mono hs⟩
def us(f:Nat->Nat)(n:Nat):List Value:=(List.range n).map fun j=>.int .u64 (f j:Int)
theorem oq(f:Nat->Nat){n j:Nat}(hj:j<n):(us f n)[j]? =some (.int .u64 (f j:Int)):=by simp [us,hj]
theorem oo(f:Nat->Nat)(n:Nat):(us f n).length=n:=by simp [us]
theorem wQ{f f':Nat->Nat}{n k:Nat}(hk:k<n)(h:∀i,i<n->i≠k->f' i=f i):(us f n).set k (.int .u64 (f' k:Int))=us f' n:=by
 unfold us;apply vj _ _ hk;intro i hi;by_cases e:i=k
 ·subst e;rw [if_pos rfl]
 ·rw [if_neg e,h i hi e]
theorem QX:xY prog zO iy 1 8:=⟨by kernel_rfl,by kernel_rfl⟩
set_option maxRecDepth 100000 in
theorem Ao(h:om w S g T d)(hP:ma (bP T))(hlen:T.length<=1000000)
 (hK:∀w' A,Row w' w.heap.size iy 1 A T.length T.length (us (sz (bP T)) T.length)->Kept Nil w w'->K (.slice A T.length T.length) w'):
 bk prog br.id #[.pointer (some ⟨g,0,none⟩)] w K:=by
 obtain⟨b,c,L,h0⟩:=h;have pH:=eN T;obtain⟨w5,sT,kO,k5⟩:=Gl QX (z:=.int .u64 0) (by kernel_rfl) (n:=T.length) (by unfold maxLen;omega) (by omega) w;refine br.of (h0.go ⟨_,_,_,w5,sT,?_⟩);have h5:=h0.kept k5;refine h5.go ?_;generalize hA:(⟨w.heap.size,0,none⟩:Addr)=A at*;refine br.cf (e:=some A) (i:=T.length) (I:=fun i w'=>∃m:Nat,i=(T.length:Int)-m/\m<=T.length/\Row w' w.heap.size iy 1 (some A) T.length T.length (us (ig (bP T) m) T.length)/\Kept Nil w w')
  (μ:=fun i _=>((T.length:Int)-i).toNat) (s:=0) ⟨T.length,by omega,Nat.le_refl _,?_,k5⟩ ?_
 ·have:List.replicate T.length (Value.int .u64 0)=us (ig (bP T) T.length) T.length:=by
   apply List.ext_getElem?;intro j;rcases Nat.lt_or_ge j T.length with hj|hj
   ·rw [oq _ hj,<-pH,AB j (by omega)]
    simp [pH,hj]
   ·rw [List.getElem?_eq_none (by simpa using hj),List.getElem?_eq_none (by rw [oo];exact hj)]
  rw [<-this];exact kO
 ·rintro i w' ⟨m,rfl,hm,row,kw⟩
  have h':=h0.kept kw;refine Split.dec (fun cH=>?_) (fun fV=>?_)
  ·
   obtain⟨n,rfl⟩:∃n,m=n+1:=⟨m-1,by omega⟩;have hn:n<T.length:=by omega
   refine h'.go ?_;have ew:i64.wrap (i64.wrap ((T.length:Int)-1)-((T.length:Int)-((n+1:Nat):Int)))=(n:Int):=by
    rw [gU (x:=(T.length:Int)-1) (by omega) (by omega),gU (by omega) (by omega)];omega
   rw [ew];have hb:0<=(n:Int)/\(n:Int)<(T.length:Int):=⟨by omega,by omega⟩;subst hA;have TA:n<(us (ig (bP T) (n+1)) T.length).length:=by rw [oo];exact hn
   refine⟨hb,_,by rw [lS,Int.toNat_natCast,Nat.mul_one];exact Row.cell row (oq _ hn),hb,by rw [lS,Int.toNat_natCast,Nat.mul_one];exact Row.wr row TA,?_⟩;intro vQ;have e18:vQ=w'.setCell ⟨w.heap.size,n,none⟩ (.int .u64 (u64.wrap ((ig (bP T) (n+1) n:Int)+1))):=by simp only [vQ,lS,Int.toNat_natCast,Nat.mul_one]
   have adQ:=DS hP (n:=n) (by omega);have hle:ig (bP T) (n+1) n<=(bP T).length:=Cg hP _ _ (by omega);have mH:=Row.set row TA (.int .u64 (u64.wrap ((ig (bP T) (n+1) n:Int)+1)));rw [<-e18]at mH;have Iw:Kept Nil w vQ:=by rw [e18];exact kw.setCell (fun hh=>absurd hh (Nat.lt_irrefl _)) _
   clear_value vQ;rw [fp (x:=(ig (bP T) (n+1) n:Int)+1) (by omega) (by omega)]at mH;rw [show(ig (bP T) (n+1) n:Int)+1=((if n=n then sz (bP T) n else ig (bP T) (n+1) n:Nat):Int)from by rw [if_pos rfl];omega,
    wQ (f':=fun j=>if j=n then sz (bP T) n else ig (bP T) (n+1) j) hn (fun i _ fC=>by rw [if_neg fC])]at mH
   have h18:=h0.kept Iw;obtain⟨nd,eQ⟩:=fG hn;obtain⟨v,hv⟩:=h18.at_ eQ;refine h18.go ⟨hb,h18.HK hv ?_⟩;have jT:=km eQ;refine Split.dec (fun hp=>?_) (fun hp=>?_)
   ·
    have EA:0<n:=by
     rcases Nat.eq_zero_or_pos n with rfl|h
     ·rw [hP.root]at jT;have:=Option.some.inj jT;omega
     ·exact h
    obtain⟨p,JU,ep⟩:=hP.up n _ EA jT;rw [ep]at hp⊢;have hpp:(bP T)[n]? =some (p:Int):=by rw [jT,ep]
    intro Ir;have Nq:Kept Nil w Ir:=Iw.drew;have Cm:Row Ir w.heap.size iy 1 (some ⟨w.heap.size,0,none⟩) T.length T.length (us (fun j=>if j=n then sz (bP T) n else ig (bP T) (n+1) j) T.length):=mH;clear_value Ir;have L9:0<=(p:Int)/\(p:Int)<(T.length:Int):=⟨by omega,by omega⟩;have Tz:p<(us (fun j=>if j=n then sz (bP T) n else ig (bP T) (n+1) j) T.length).length:=by rw [oo];omega
    have gp:=oq (fun j=>if j=n then sz (bP T) n else ig (bP T) (n+1) j) (n:=T.length) (j:=p) (by omega);have gn:=oq (fun j=>if j=n then sz (bP T) n else ig (bP T) (n+1) j) (n:=T.length) (j:=n) (by omega);simp only [if_neg (show p≠n by omega)]at gp;simp only [if_pos]at gn;refine⟨L9,_,by rw [lS,Int.toNat_natCast,Nat.mul_one];exact Row.cell Cm gp,hb,_,by rw [lS,Int.toNat_natCast,Nat.mul_one];exact Row.cell Cm gn,L9,by rw [lS,Int.toNat_natCast,Nat.mul_one];exact Row.wr Cm Tz,?_⟩;intro vh;have e29:vh=Ir.setCell ⟨w.heap.size,p,none⟩ (.int .u64 (u64.wrap ((ig (bP T) (n+1) p:Int)+(sz (bP T) n:Int)))):=by simp only [vh,lS,Int.toNat_natCast,Nat.mul_one]
    have F9:=Row.set Cm Tz (.int .u64 (u64.wrap ((ig (bP T) (n+1) p:Int)+(sz (bP T) n:Int))));rw [<-e29]at F9;have JD:Kept Nil w vh:=by rw [e29];exact Nq.setCell (fun hh=>absurd hh (Nat.lt_irrefl _)) _
    clear_value vh;have ah8:ig (bP T) (n+1) p<=(bP T).length:=Cg hP _ _ (by omega);have ah7:sz (bP T) n<=(bP T).length:=vT _;have oh:=DR hP hpp;have Et:=oh p;rw [if_pos rfl]at Et;rw [fp (x:=(ig (bP T) (n+1) p:Int)+(sz (bP T) n:Int)) (by omega) (by omega),
     show(ig (bP T) (n+1) p:Int)+(sz (bP T) n:Int)=(ig (bP T) n p:Int)from by omega,
     wQ (f':=ig (bP T) n) (by omega) (fun i _ fC=>by rw [oh i,if_neg fC])]at F9
    rw [gU (x:=(T.length:Int)-((n+1:Nat):Int)+1) (by omega) (by omega)];exact⟨_,rfl,⟨n,by omega,by omega,F9,JD⟩,by simp only;omega⟩
   ·
    have EA:n=0:=by
     rcases Nat.eq_zero_or_pos n with h|h
     ·exact h
     ·obtain⟨p,_,ep⟩:=hP.up n _ h jT
      omega
    subst EA;have:us (fun j=>if j=0 then sz (bP T) 0 else ig (bP T) (0+1) j) T.length=us (ig (bP T) 0) T.length:=by
     congr 1
     funext j
     rw [DT]
    rw [this]at mH;rw [gU (x:=(T.length:Int)-((0+1:Nat):Int)+1) (by omega) (by omega)];exact⟨_,rfl,⟨0,by omega,by omega,mH,Iw⟩,by simp only;omega⟩
  ·have:m=0:=by omega
   subst this;rw [aP,br.dh];refine hK w' (some A) ?_ kw;have e:ig (bP T) 0=sz (bP T):=funext yw;rw [e]at row;exact row
end
section
variable{w:World}{K:Value->World->Prop}
theorem bk.yG{f:FuncId}{args:Array Value}{v:Value}(h:Calls prog f args w fun e w'=>e=.returned v/\w'=w)(hK:K v w):bk prog f args w K:=
 h.mono fun e w' ⟨he,hw⟩=>⟨v,he,by rw [hw];exact hK⟩
theorem vE(x y:Nat)(hx:x<18446744073709551616)(hy:y<18446744073709551616)
 (hK:K (.tuple #[.int .u64 ((x*y/18446744073709551616:Nat):Int),.int .u64 ((x*y%18446744073709551616:Nat):Int)]) w):
 bk prog bits_Mul64.id #[.int .u64 x,.int .u64 y] w K:=bk.yG (Any.bits_Mul64 Tryz.Jm x y hx hy w) hK
theorem vF(x:Nat)(hx:x<18446744073709551616)(hK:K (.int .i64 (Lib.bitLen x)) w):bk prog bits_Len64.id #[.int .u64 x] w K:=
 bk.yG (Any.bits_Len64 Tryz.Jn x w (by omega) (by omega)) hK
end
theorem o5:∀(f x:Nat),x<2 ^ f->x<2 ^ (Lib.bitLenAux f x)/\(x≠0->2 ^ (Lib.bitLenAux f x)<=2*x)
 |0,x,h=>by simp at h;subst h;simp [Lib.bitLenAux]
 |f+1,x,h=>by
  unfold Lib.bitLenAux;by_cases e:x=0
  ·simp [e]
  ·rw [if_neg e]
   have ih:=o5 f (x/2) (by rw [Nat.pow_succ]at h;omega);rw [Nat.pow_add,Nat.pow_one];refine⟨by omega,fun _=>?_⟩;by_cases e2:x/2=0
   ·have:x=1:=by omega
    subst this;cases f<;>simp [Lib.bitLenAux]
   ·have:=ih.2 e2
    omega
theorem bitLen_spec{y:Nat}(h0:y≠0)(hy:y<18446744073709551616):1<=Lib.bitLen y/\Lib.bitLen y<=64/\9223372036854775808<=y*2 ^ (64-Lib.bitLen y)/\y*2 ^ (64-Lib.bitLen y)<18446744073709551616:=by
 have hs:=o5 64 y (by omega);have hle:=Lib.bitLenAux_le 64 y 64 (by omega)
 change Lib.bitLen y<=64 at hle
 change y<2 ^ (Lib.bitLen y)/\(y≠0->2 ^ (Lib.bitLen y)<=2*y)at hs
 have Bd:=hs.2 h0;have hp:2 ^ Lib.bitLen y*2 ^ (64-Lib.bitLen y)=18446744073709551616:=by
  rw [<-Nat.pow_add,show Lib.bitLen y+(64-Lib.bitLen y)=64 by omega]
 have iX:0<2 ^ (64-Lib.bitLen y):=Nat.pow_pos (by omega);refine⟨?_,hle,?_,?_⟩
 ·rcases Nat.eq_zero_or_pos (Lib.bitLen y)with e|e
  ·rw [e]at hs;simp at hs;omega
  ·exact e
 ·have:=Nat.mul_le_mul_right (2 ^ (64-Lib.bitLen y)) Bd
  rw [hp,Nat.mul_assoc]at this;omega
 ·rw [<-hp]
  exact Nat.mul_lt_mul_of_pos_right hs.1 iX
section
variable{Y n1 n0 u u1 q r:Nat}
theorem HU(hY:Y=n1*4294967296+n0):q*Y=q*n1*4294967296+q*n0:=by rw [hY,Nat.mul_add,Nat.mul_assoc]
theorem dg1(hY:Y=n1*4294967296+n0)(hq:q*n1+r=u)(h:q*n0<=4294967296*r+u1):q*Y<=u*4294967296+u1:=by rw [HU hY];omega
theorem dg2(hY:Y=n1*4294967296+n0)(hq:q*n1+r=u)(h:4294967296*r+u1<q*n0):u*4294967296+u1<q*Y:=by rw [HU hY];omega
theorem dg3(hu:u<Y)(IC:u1<4294967296)(h:4294967296<=q):u*4294967296+u1<q*Y:=by
 have:=Nat.mul_le_mul_right Y h;omega
theorem dg4(hY:Y=n1*4294967296+n0)(EA:n0<4294967296)(hu:u<Y)(hq:q*n1+r=u)(hr:4294967296<=r):q*Y<=u*4294967296+u1:=by
 have h1:q*n1<4294967296*n1:=by omega
 have h2:q<4294967296:=Nat.lt_of_mul_lt_mul_right h1;have h3:q*n0<=4294967296*4294967296:=Nat.mul_le_mul (by omega) (by omega);rw [HU hY];omega
theorem Mp(hu:u<Y)(IC:u1<4294967296)(h:q*Y<=u*4294967296+u1):q<4294967296:=by
 rcases Nat.lt_or_ge q 4294967296 with h'|h'
 ·exact h'
 ·have:=dg3 hu IC h';omega
theorem zB(CR:2147483648<=n1)(hu:u<18446744073709551616)(hq:q*n1+r=u):q<8589934592:=by
 rcases Nat.lt_or_ge q 8589934592 with h|h
 ·exact h
 ·have:=Nat.mul_le_mul h CR
  omega
end
theorem EP{Y n1 n0 u u1:Nat}{quo rem s FI QS:Int}{Q:aN}{w:World}(hY:Y=n1*4294967296+n0)(EA:n0<4294967296)(CR:2147483648<=n1)(JY:n1<4294967296)(hu:u<Y)(hY':Y<18446744073709551616)(IC:u1<4294967296)
 (hex:∀q r:Nat,q*Y<=u*4294967296+u1->u*4294967296+u1<(q+1)*Y->Q (.exit 0) (a7.e1 (Y:Int) quo rem s n1 n0 FI u1 QS ((q:Int),(r:Int))) w)
 (q0 r0:Nat) (h0:q0*n1+r0=u) (hX0:u*4294967296+u1<(q0+1)*Y) (rQ:r0<4294967296):
 Holds none [] prog 135 (.loop (lB (bB (sL (sR (sR (sR (sR (sR (sR (sR (sR (sR (sR (sR (sR (sR (sR (body a7.fn))))))))))))))))))) Q (a7.e1 (Y:Int) quo rem s n1 n0 FI u1 QS ((q0:Int),(r0:Int))) w:=by
 refine a7.cf (I:=fun s w'=>w'=w/\∃q r:Nat,s=((q:Int),(r:Int))/\q*n1+r=u/\u*4294967296+u1<(q+1)*Y/\r<4294967296)
  (μ:=fun s _=>s.1.toNat) (s:=((q0:Int),(r0:Int))) ⟨rfl,q0,r0,rfl,h0,hX0,rQ⟩ ?_
 rintro s w' ⟨hw,q,r,rfl,hq,hX,hr⟩;subst hw;have Zx:=zB CR (by omega) hq;have down:u*4294967296+u1<q*Y->∃q' r':Nat,u64.wrap ((q:Int)-1)=(q':Int)/\u64.wrap ((r:Int)+(n1:Int))=(r':Int)/\q'*n1+r'=u/\u*4294967296+u1<(q'+1)*Y/\q'<q:=by
  intro h;have LK:1<=q:=by
   rcases Nat.eq_zero_or_pos q with e|e
   ·rw [e]at h;omega
   ·exact e
  refine⟨q-1,r+n1,?_,?_,?_,?_,by omega⟩
  ·rw [fp (by omega) (by omega)];omega
  ·rw [fp (by omega) (by omega)];omega
  ·have:q*n1=(q-1)*n1+n1:=by
    obtain⟨k,rfl⟩:∃k,q=k+1:=⟨q-1,by omega⟩;rw [Nat.succ_mul];rfl
   omega
  ·rwa [show q-1+1=q by omega]
 have step:∀q' r':Nat,q'*n1+r'=u->u*4294967296+u1<(q'+1)*Y->q'<q->∀b:Bool,b=decide ((r':Int)>=4294967296)->
  Split b (Q (.exit 0) (a7.e1 (Y:Int) quo rem s n1 n0 FI u1 QS ((q':Int),(r':Int))) w') (bI (a7.e1 (Y:Int) quo rem s n1 n0 FI u1 QS) (fun s lf=>lf=w'/\∃q r:Nat,s=((q:Int),(r:Int))/\q*n1+r=u/\u*4294967296+u1<(q+1)*Y/\r<4294967296) (fun s _=>s.1.toNat) ((q:Int),(r:Int)) w' Q .normal (a7.e1 (Y:Int) quo rem s n1 n0 FI u1 QS ((q':Int),(r':Int))) w'):=by
  intro q' r' h1 h2 h3 b hb;subst hb;refine Split.dec (fun fV=>?_) (fun cH=>?_)
  ·exact hex q' r' (dg4 hY EA hu h1 (by omega)) h2
  ·exact⟨_,rfl,⟨rfl,q',r',rfl,h1,h2,by omega⟩,by simp only;omega⟩
 refine Split.dec (fun fV=>?_) (fun cH=>?_)
 ·obtain⟨q',r',eq,er,h1,h2,h3⟩:=down (dg3 hu IC (by simp only at fV;omega))
  simp only [eq,er];exact step q' r' h1 h2 h3 _ rfl
 ·simp only at cH
  have SI:q*n0<18446744073709551616:=by
   have:q*n0<=4294967295*4294967295:=Nat.mul_le_mul (by omega) (by omega);omega
  have e1:u64.wrap ((q:Int)*(n0:Int))=((q*n0:Nat):Int):=by rw [<-Int.natCast_mul,fp (by omega) (by omega)]
  have e2:u64.wrap (u64.wrap (4294967296*(r:Int))+(u1:Int))=((4294967296*r+u1:Nat):Int):=by
   rw [fp (x:=4294967296*(r:Int)) (by omega) (by omega),fp (by omega) (by omega)];omega
  simp only [e1,e2];refine Split.dec (fun wA=>?_) (fun hle=>?_)
  ·obtain⟨q',r',eq,er,h1,h2,h3⟩:=down (dg2 hY hq (by omega))
   simp only [eq,er];exact step q' r' h1 h2 h3 _ rfl
  ·exact hex q r (dg1 hY hq (by omega)) hX
theorem EO{Y n1 n0 u u1:Nat}{quo rem s q1 FJ:Int}{Q:aN}{w:World}(hY:Y=n1*4294967296+n0)(EA:n0<4294967296)(CR:2147483648<=n1)(JY:n1<4294967296)(hu:u<Y)(hY':Y<18446744073709551616)(IC:u1<4294967296)
 (hex:∀q r:Nat,q*Y<=u*4294967296+u1->u*4294967296+u1<(q+1)*Y->Q (.exit 2) (a7.e2 (Y:Int) quo rem s n1 n0 u1 q1 FJ ((r:Int),(q:Int))) w)
 (q0 r0:Nat) (h0:q0*n1+r0=u) (hX0:u*4294967296+u1<(q0+1)*Y) (rQ:r0<4294967296):
 Holds none [] prog 135 (.loop (lB (bB (sL (sR (sR (sR (sR (sR (sR (sR (sR (sR (sR (sR (sR (sR (sR (sR (sR (sR (sR (body a7.fn))))))))))))))))))))))) Q (a7.e2 (Y:Int) quo rem s n1 n0 u1 q1 FJ ((r0:Int),(q0:Int))) w:=by
 refine a7.gz (I:=fun s w'=>w'=w/\∃q r:Nat,s=((r:Int),(q:Int))/\q*n1+r=u/\u*4294967296+u1<(q+1)*Y/\r<4294967296)
  (μ:=fun s _=>s.2.toNat) (s:=((r0:Int),(q0:Int))) ⟨rfl,q0,r0,rfl,h0,hX0,rQ⟩ ?_
 rintro s w' ⟨hw,q,r,rfl,hq,hX,hr⟩;subst hw;have Zx:=zB CR (by omega) hq;have down:u*4294967296+u1<q*Y->∃q' r':Nat,u64.wrap ((q:Int)-1)=(q':Int)/\u64.wrap ((r:Int)+(n1:Int))=(r':Int)/\q'*n1+r'=u/\u*4294967296+u1<(q'+1)*Y/\q'<q:=by
  intro h;have LK:1<=q:=by
   rcases Nat.eq_zero_or_pos q with e|e
   ·rw [e]at h;omega
   ·exact e
  refine⟨q-1,r+n1,?_,?_,?_,?_,by omega⟩
  ·rw [fp (by omega) (by omega)];omega
  ·rw [fp (by omega) (by omega)];omega
  ·have:q*n1=(q-1)*n1+n1:=by
    obtain⟨k,rfl⟩:∃k,q=k+1:=⟨q-1,by omega⟩;rw [Nat.succ_mul];rfl
   omega
  ·rwa [show q-1+1=q by omega]
 have step:∀q' r':Nat,q'*n1+r'=u->u*4294967296+u1<(q'+1)*Y->q'<q->∀b:Bool,b=decide ((r':Int)>=4294967296)->
  Split b (Q (.exit 2) (a7.e2 (Y:Int) quo rem s n1 n0 u1 q1 FJ ((r':Int),(q':Int))) w') (bI (a7.e2 (Y:Int) quo rem s n1 n0 u1 q1 FJ) (fun s lf=>lf=w'/\∃q r:Nat,s=((r:Int),(q:Int))/\q*n1+r=u/\u*4294967296+u1<(q+1)*Y/\r<4294967296) (fun s _=>s.2.toNat) ((r:Int),(q:Int)) w' Q .normal (a7.e2 (Y:Int) quo rem s n1 n0 u1 q1 FJ ((r':Int),(q':Int))) w'):=by
  intro q' r' h1 h2 h3 b hb;subst hb;refine Split.dec (fun fV=>?_) (fun cH=>?_)
  ·exact hex q' r' (dg4 hY EA hu h1 (by omega)) h2
  ·exact⟨_,rfl,⟨rfl,q',r',rfl,h1,h2,by omega⟩,by simp only;omega⟩
 refine Split.dec (fun fV=>?_) (fun cH=>?_)
 ·obtain⟨q',r',eq,er,h1,h2,h3⟩:=down (dg3 hu IC (by simp only at fV;omega))
  simp only [eq,er];exact step q' r' h1 h2 h3 _ rfl
 ·simp only at cH
  have SI:q*n0<18446744073709551616:=by
   have:q*n0<=4294967295*4294967295:=Nat.mul_le_mul (by omega) (by omega);omega
  have e1:u64.wrap ((q:Int)*(n0:Int))=((q*n0:Nat):Int):=by rw [<-Int.natCast_mul,fp (by omega) (by omega)]
  have e2:u64.wrap (u64.wrap (4294967296*(r:Int))+(u1:Int))=((4294967296*r+u1:Nat):Int):=by
   rw [fp (x:=4294967296*(r:Int)) (by omega) (by omega),fp (by omega) (by omega)];omega
  simp only [e1,e2];refine Split.dec (fun wA=>?_) (fun hle=>?_)
  ·obtain⟨q',r',eq,er,h1,h2,h3⟩:=down (dg2 hY hq (by omega))
   simp only [eq,er];exact step q' r' h1 h2 h3 _ rfl
  ·exact hex q r (dg1 hY hq (by omega)) hX
theorem VA(a:Nat)(ha:a<18446744073709551616):u64.wrap ((BitVec.ofInt 64 (a:Int)&&& BitVec.ofInt 64 (4294967295:Int)).toNat:Int)=((a%4294967296:Nat):Int):=by
 have h:=bits_and_u64_nat a 4294967295 ha (by omega);have e:a&&& 4294967295=a%4294967296:=Nat.and_two_pow_sub_one_eq_mod a 32;rw [e]at h;exact h
theorem orN(a b s:Nat)(ha:a*2 ^ s<18446744073709551616)(hb:b<2 ^ s)(vB:b<18446744073709551616):
 u64.wrap ((BitVec.ofInt 64 ((a*2 ^ s:Nat):Int)|||BitVec.ofInt 64 (b:Int)).toNat:Int)=((a*2 ^ s+b:Nat):Int):=by
 have h:=bits_or_u64_nat (a*2 ^ s) b ha vB;rw [Nat.mul_comm,<-Nat.two_pow_add_eq_or_of_lt hb,Nat.mul_comm]at h;exact h
theorem Q0(a k:Nat):Int.fdiv (a:Int) (2 ^ k)=((a/2 ^ k:Nat):Int):=by
 rw [Int.fdiv_eq_ediv_of_nonneg _ (by exact Int.le_of_lt (Int.pow_pos (by omega)))];rw [Int.natCast_ediv,Int.natCast_pow];rfl
theorem XF(a k:Nat):(a:Int)*2 ^ k=((a*2 ^ k:Nat):Int):=by rw [Int.natCast_mul,Int.natCast_pow];rfl
theorem abM{N u L u1 u0 v a b:Nat}(hN:N=u*18446744073709551616+L)(hL:L=u1*4294967296+u0)(hv:u*4294967296+u1-a=v)(ha:a<=u*4294967296+u1)(hb:b<=v*4294967296+u0):a*4294967296+b<=N:=by omega
theorem abL{N u L u1 u0 v a b:Nat}(hN:N=u*18446744073709551616+L)(hL:L=u1*4294967296+u0)(hv:u*4294967296+u1-a=v)(ha:a<=u*4294967296+u1)(hb:v*4294967296+u0<b):N<a*4294967296+b:=by omega
section
variable{w:World}{K:Value->World->Prop}
theorem nD(x:Nat)(hx:x<18446744073709551616)(hK:K (.int .i64 ((64-Lib.bitLen x:Nat):Int)) w):bk prog bits_LeadingZeros64.id #[.int .u64 x] w K:=by
 refine bits_LeadingZeros64.of (vF x hx ⟨_,rfl,?_⟩);have hle:=Lib.bitLen_le x 64 (by omega) (by omega)
 rwa [gU (by omega) (by omega),show(64:Int)-(Lib.bitLen x:Int)=((64-Lib.bitLen x:Nat):Int)by omega]
theorem vG(hi lo y:Nat)(Wv:lo<18446744073709551616)(hy:y<18446744073709551616)(hhi:hi<y)
 (hK:∀r w',Kept Nil w w'->K (.tuple #[.int .u64 (((hi*18446744073709551616+lo)/y:Nat):Int),.int .u64 r]) w'):
 bk prog a7.id #[.int .u64 hi,.int .u64 lo,.int .u64 y] w K:=by
 refine a7.of (Split.no (beq_eq_false_iff_ne.2 (by omega)) (Split.no (decide_eq_false (by omega)) ?_));by_cases h0:hi=0
 ·subst h0
  refine Split.yes rfl ?_;intro w6;refine⟨by omega,by omega,?_⟩;have e:u64.wrap ((lo:Int).tdiv (y:Int))=(((0*18446744073709551616+lo)/y:Nat):Int):=by
   rw [Int.tdiv_eq_ediv_of_nonneg (by omega),Nat.zero_mul,Nat.zero_add,<-Int.natCast_ediv];have:=Nat.div_le_self lo y;generalize lo/y=z at*;exact fp (by omega) (by omega)
  rw [e];exact hK _ w6 (Kept.refl Nil w).drew
 ·refine Split.no (beq_eq_false_iff_ne.2 (by omega)) (nD y hy ⟨_,rfl,?_⟩)
  obtain⟨xV,aa1,hY1,hY2⟩:=bitLen_spec (y:=y) (by omega) hy;have hs:64-Lib.bitLen y<64:=by omega
  generalize 64-Lib.bitLen y=s at*;have eS:u64.wrap (s:Int)=(s:Int):=fp (by omega) (by omega);have eS2:u64.wrap ((64:Int)-(s:Int))=((64-s:Nat):Int):=by rw [fp (by omega) (by omega)];omega
  have em1:min s 64=s:=by omega
  have em2:min (64-s) 64=64-s:=by omega
  have em3:min (32:Int).toNat 64=32:=rfl;have Qi:2 ^ (64-s)*2 ^ s=18446744073709551616:=by rw [<-Nat.pow_add,show 64-s+s=64 by omega]
  have iX:0<2 ^ s:=Nat.pow_pos (by omega);have SP:0<2 ^ (64-s):=Nat.pow_pos (by omega);simp only [eS,eS2,Int.toNat_natCast,em1,em2,em3,XF];generalize hYd:y*2 ^ s=Y at*;have hhs:hi*2 ^ s<18446744073709551616:=by
   have:hi*2 ^ s<y*2 ^ s:=Nat.mul_lt_mul_of_pos_right hhi iX;omega
  have hlq:lo/2 ^ (64-s)<2 ^ s:=by
   rw [Nat.div_lt_iff_lt_mul SP,Nat.mul_comm,Qi];exact Wv
  have Z4:lo/2 ^ (64-s)<18446744073709551616:=Nat.lt_of_le_of_lt (Nat.div_le_self _ _) Wv;have eY:u64.wrap (Y:Int)=(Y:Int):=fp (by omega) (by omega);have eH:u64.wrap ((hi*2 ^ s:Nat):Int)=((hi*2 ^ s:Nat):Int):=fp (by omega) (by omega);have eL:u64.wrap ((lo*2 ^ s:Nat):Int)=((lo*2 ^ s%18446744073709551616:Nat):Int):=by rw [IntKind.wrap_u64];omega
  have e32:∀a:Nat,Int.fdiv (a:Int) (2 ^ 32)=((a/4294967296:Nat):Int):=fun a=>Q0 a 32;simp only [eY,eH,eL,e32,Q0 lo,orN hi _ s hhs hlq Z4,VA Y (by omega),VA _ (Nat.mod_lt (lo*2 ^ s) (by omega:18446744073709551616>0))];have hN:(hi*18446744073709551616+lo)*2 ^ s=(hi*2 ^ s+lo/2 ^ (64-s))*18446744073709551616+lo*2 ^ s%18446744073709551616:=by
   have h1:lo*2 ^ s/18446744073709551616=lo/2 ^ (64-s):=by
    rw [<-Qi,Nat.mul_div_mul_right _ _ iX]
   have h2:=Nat.div_add_mod (lo*2 ^ s) 18446744073709551616;rw [h1]at h2;rw [Nat.add_mul,Nat.mul_right_comm];omega
  have ai2:(hi*18446744073709551616+lo)*2 ^ s<Y*18446744073709551616:=by
   have h1:hi*18446744073709551616+lo<y*18446744073709551616:=by omega
   have:=Nat.mul_lt_mul_of_pos_right h1 iX;rw [Nat.mul_right_comm,hYd]at this;exact this
  have LJ:(hi*18446744073709551616+lo)*2 ^ s/Y=(hi*18446744073709551616+lo)/y:=by rw [<-hYd,Nat.mul_div_mul_right _ _ iX]
  rw [<-LJ]at hK;clear LJ;generalize (hi*18446744073709551616+lo)*2 ^ s=N at*;have hL:lo*2 ^ s%18446744073709551616<18446744073709551616:=Nat.mod_lt _ (by omega);generalize lo*2 ^ s%18446744073709551616=L at*;generalize hi*2 ^ s+lo/2 ^ (64-s)=u at*;have hu:u<Y:=by omega
  have CR:2147483648<=Y/4294967296:=by omega
  have JY:Y/4294967296<4294967296:=by omega
  have EA:Y%4294967296<4294967296:=by omega
  have hYe:Y=Y/4294967296*4294967296+Y%4294967296:=by omega
  have IC:L/4294967296<4294967296:=by omega
  have Y4:L%4294967296<4294967296:=by omega
  have hLe:L=L/4294967296*4294967296+L%4294967296:=by omega
  generalize Y/4294967296=n1 at*;generalize Y%4294967296=n0 at*;generalize L/4294967296=u1 at*;generalize L%4294967296=u0 at*;have Mn:∀v:Nat,v<18446744073709551616->u64.wrap ((v:Int).tdiv (n1:Int))=((v/n1:Nat):Int)/\u64.wrap ((v:Int)-u64.wrap (((v/n1:Nat):Int)*(n1:Int)))=((v%n1:Nat):Int)/\v/n1*n1+v%n1=v/\v%n1<n1:=by
   intro v hv;have h1:=Nat.div_le_self v n1;have h2:=Nat.div_add_mod' v n1;refine⟨?_,?_,h2,Nat.mod_lt _ (by omega)⟩
   ·rw [Int.tdiv_eq_ediv_of_nonneg (by omega),<-Int.natCast_ediv]
    generalize v/n1=z at*;exact fp (by omega) (by omega)
   ·rw [<-Int.natCast_mul,fp (x:=((v/n1*n1:Nat):Int)) (by omega) (by omega),fp (by omega) (by omega)]
    omega
  have first:∀v d:Nat,v<Y->d<4294967296->v*4294967296+d<(v/n1+1)*Y:=by
   intro v d hv hd;have h2:=Nat.div_add_mod' v n1;have h3:=Nat.mod_lt v (show 0<n1 by omega);have h4:v+1<=(v/n1+1)*n1:=by rw [Nat.succ_mul];omega
   have h5:(v+1)*4294967296<=(v/n1+1)*n1*4294967296:=Nat.mul_le_mul_right _ h4;have h6:(v/n1+1)*n1*4294967296<=(v/n1+1)*Y:=by
    have h7:n1*4294967296<=Y:=Nat.le_trans (Nat.le_add_right _ n0) (Nat.le_of_eq hYe.symm);rw [Nat.mul_assoc];exact Nat.mul_le_mul_left _ h7
   omega
  obtain⟨g1,g2,g3,g4⟩:=Mn u (by omega);simp only [g1,g2];refine⟨by omega,by omega,by omega,by omega,by omega,by omega,by omega,?_⟩;refine EP hYe EA CR JY hu (by omega) IC ?_ (u/n1) (u%n1) g3 (first u u1 hu IC) (by omega);intro q r LK Qh;rw [show a7.e1 (Y:Int) 0 0 (s:Int) (n1:Int) (n0:Int) (u:Int) (u1:Int) (u0:Int) ((q:Int),(r:Int))= [(2,.int .u64 (Y:Int)),(6,.int .u64 0),(7,.int .u64 0),(8,.int .u64 (s:Int)),(9,.int .u64 (n1:Int)),(10,.int .u64 (n0:Int)),(11,.int .u64 (u:Int)),(13,.int .u64 (u1:Int)),(14,.int .u64 (u0:Int)),(15,.int .u64 (q:Int)),(16,.int .u64 (r:Int))]from rfl];rw [a7.dh];have hqB:=Mp hu IC LK;rw [Nat.succ_mul]at Qh;have hp:u64.wrap (u64.wrap (u64.wrap ((u:Int)*4294967296)+(u1:Int))-u64.wrap ((q:Int)*(Y:Int)))=((u*4294967296+u1-q*Y:Nat):Int):=by
   rw [<-Int.natCast_mul q Y];simp only [IntKind.wrap_u64];generalize q*Y=p at*;omega
  unfold a7.cO;simp only [hp];have hv:u*4294967296+u1-q*Y<Y:=by omega
  generalize hvd:u*4294967296+u1-q*Y=v at*;obtain⟨g1',g2',g3',g4'⟩:=Mn v (by omega);simp only [g1',g2'];refine⟨by omega,?_⟩;refine EO hYe EA CR JY hv (by omega) Y4 ?_ (v/n1) (v%n1) g3' (first v u0 hv Y4) (by omega);intro q' r' SL Zy;rw [show a7.e2 (Y:Int) 0 0 (s:Int) (n1:Int) (n0:Int) (u0:Int) (q:Int) (v:Int) ((r':Int),(q':Int))= [(2,.int .u64 (Y:Int)),(6,.int .u64 0),(7,.int .u64 0),(8,.int .u64 (s:Int)),(9,.int .u64 (n1:Int)),(10,.int .u64 (n0:Int)),(14,.int .u64 (u0:Int)),(15,.int .u64 (q:Int)),(16,.int .u64 (r':Int)),(17,.int .u64 (v:Int)),(18,.int .u64 (q':Int))]from rfl];rw [a7.jB];have ahF:=Mp hv Y4 SL;refine⟨by omega,?_⟩;have Zg:u64.wrap (u64.wrap ((q:Int)*4294967296)+(q':Int))=((N/Y:Nat):Int):=by
   rw [fp (x:=(q:Int)*4294967296) (by omega) (by omega),fp (by omega) (by omega)];have:N/Y=q*4294967296+q':=by
    apply Nat.div_eq_of_lt_le
    ·rw [Nat.add_mul,Nat.mul_right_comm]
     exact abM hN hLe hvd LK SL
    ·rw [Nat.add_assoc,Nat.add_mul,Nat.mul_right_comm]
     exact abL hN hLe hvd LK Zy
   rw [this];omega
  rw [Zg];exact hK _ w (Kept.refl Nil w)
end
end Go.Proofs.YtnboahlopghcjaaGreatDoor.Tr
namespace Go.Proofs.YtnboahlopghcjaaGreatDoor.Tr
open Go.Proofs.Tryz
structure kN(T T':List Nd):Prop where
 len:T'.length=T.length
 at_:∀(i:Nat) nd,T[i]? =some nd->∃nd',T'[i]? =some nd'/\nd'.parent=nd.parent/\nd'.ch=nd.ch
theorem kN.refl(T:List Nd):kN T T:=⟨rfl,fun _ nd h=>⟨nd,h,rfl,rfl⟩⟩
theorem kN.trans{T T' Dh:List Nd}(h:kN T T')(h':kN T' Dh):kN T Dh:=⟨h'.len.trans h.len,fun i nd hi=>by
 obtain⟨nd',h1,h2,h3⟩:=h.at_ i nd hi;obtain⟨X8,g1,g2,g3⟩:=h'.at_ i nd' h1;exact⟨X8,g1,g2.trans h2,g3.trans h3⟩⟩
theorem kN.back{T T':List Nd}(h:kN T T'){i:Nat}{nd':Nd}(hi:T'[i]? =some nd'):∃nd,T[i]? =some nd/\nd'.parent=nd.parent/\nd'.ch=nd.ch:=by
 have cH:=(lgeS hi).1;obtain⟨nd,eQ⟩:=fG (T:=T) (i:=i) (by rw [<-h.len];exact cH);obtain⟨x,h1,h2,h3⟩:=h.at_ i nd eQ;rw [hi]at h1;cases h1;exact⟨nd,eQ,h2,h3⟩
theorem kN.bP{T T':List Nd}(h:kN T T'):bP T'=bP T:=by
 apply List.ext_getElem?;intro i;rcases Nat.lt_or_ge i T.length with hi|hi
 ·obtain⟨nd,eQ⟩:=fG hi
  obtain⟨nd',h1,h2,_⟩:=h.at_ i nd eQ;rw [km eQ,km h1,h2]
 ·rw [List.getElem?_eq_none (by rw [eN,h.len];exact hi),List.getElem?_eq_none (by rw [eN];exact hi)]
theorem kN.shape{T T':List Nd}(h:kN T T')(hS:Shape T):Shape T':=⟨by rw [h.bP];exact hS.par,fun i nd' hi=>by
 obtain⟨nd,eQ,_,h3⟩:=h.back hi;rw [h.bP,h3,hS.ch i nd eQ]⟩
theorem kN.set{T:List Nd}{i:Nat}{nd nd':Nd}(hi:T[i]? =some nd)(h1:nd'.parent=nd.parent)(h2:nd'.ch=nd.ch):kN T (T.set i nd'):=
 ⟨by simp,fun j x hj=>by
   by_cases e:i=j
   ·subst e
    rw [hi]at hj;cases hj;exact⟨nd',ir hi,h1,h2⟩
   ·exact⟨x,nA hj e,rfl,rfl⟩⟩
theorem wD{T:List Nd}{n p:Nat}{nd pd:Nd}{many:Int}(hn:T[n]? =some nd)(hp:T[p]? =some pd)(fC:n≠p)(i:Nat):
 (uG T n p nd pd many)[i]? =if i=p then some {pd with free:=pd.free+many}else if i=n then some {nd with lo:=pd.free,hi:=pd.free+many-1,free:=pd.free}else T[i]? :=by
 unfold uG;by_cases e:i=p
 ·subst e
  rw [if_pos rfl];exact ir (nA hp fC)
 ·rw [if_neg e,List.getElem?_set_ne (fun h=>e h.symm)]
  by_cases e2:i=n
  ·subst e2
   rw [if_pos rfl];exact ir hn
  ·rw [if_neg e2,List.getElem?_set_ne (fun h=>e2 h.symm)]
theorem uF{T:List Nd}{n p:Nat}{nd pd:Nd}(many:Int)(hn:T[n]? =some nd)(hp:T[p]? =some pd)(fC:n≠p):kN T (uG T n p nd pd many):=
 (kN.set (nd':= {nd with lo:=pd.free,hi:=pd.free+many-1,free:=pd.free}) hn rfl rfl).trans (kN.set (nd:=pd) (nd':= {pd with free:=pd.free+many}) (nA hp fC) rfl rfl)
theorem ym{l:List Nat}(hs:l.Pairwise (· < ·)){k c:Nat}(hc:l[k]? =some c):∀y,y∈l.take k->y<c:=by
 intro y hy;obtain⟨j,hj⟩:=List.mem_iff_getElem?.1 hy;rw [List.getElem?_take]at hj;split at hj
 ·rename_i cH
  obtain⟨h1,e1⟩:=lgeS hj;obtain⟨h2,e2⟩:=lgeS hc;rw [<-e1,<-e2];exact List.pairwise_iff_getElem.1 hs j k h1 h2 cH
 ·cases hj
theorem nn{l:List Nat}{k c:Nat}(hc:l[k]? =some c):l.take (k+1)=l.take k++ [c]:=by
 rw [List.take_add_one,hc];rfl
structure pa(P:List Int)(T1:List Nd)(x:Nat)(xd:Nd)(half:Int)(k:Nat)(T':List Nd)(f:Int):Prop where
 np:kN T1 T'
 here:T'[x]? =some {xd with free:=f}
 rest:∀y,y≠x->y∉xd.ch.take k->T'[y]? =T1[y]?
 lo:xd.lo+(((xd.ch.take k).map (sz P)).sum:Nat)<=f
 up:(f-xd.lo-(((xd.ch.take k).map (sz P)).sum:Nat))*(sz P x:Int)<=half*(((xd.ch.take k).map (sz P)).sum:Nat)
 qd:∀c cd,c∈xd.ch.take k->T'[c]? =some cd->xd.lo<=cd.lo/\cd.hi<f/\(sz P c:Int)<=cd.hi-cd.lo+1
 ord:∀c c' cd uU,c∈xd.ch.take k->c'∈xd.ch.take k->c<c'->T'[c]? =some cd->T'[c']? =some uU->cd.hi<uU.lo
section
variable{P:List Int}{T1 T':List Nd}{x:Nat}{xd:Nd}{half f:Int}{k:Nat}
theorem pa.start(hx:T1[x]? =some xd)(hf:xd.free=xd.lo):pa P T1 x xd half 0 T1 xd.lo:= {
 np:=kN.refl _
 here:=by obtain⟨a,b,c,d,e⟩:=xd;simp only at hf;subst hf;exact hx
 rest:=fun _ _ _=>rfl
 lo:=by simp
 up:=by simp
 qd:=fun c cd hc=>by simp at hc
 ord:=fun c c' cd uU hc=>by simp at hc}
theorem pa.bound(h:pa P T1 x xd half k T' f)(hh:0<=half)(Qd:1<=sz P x)(G4:((xd.ch.take k).map (sz P)).sum<=sz P x):f<=xd.lo+(((xd.ch.take k).map (sz P)).sum:Nat)+half:=by
 have h1:half*(((xd.ch.take k).map (sz P)).sum:Nat)<=half*(sz P x:Int):=Int.mul_le_mul_of_nonneg_left (by omega) hh;have h2:=Int.le_trans h.up h1;have h3:=Int.le_of_mul_le_mul_right h2 (by omega);omega
theorem pa.step(h:pa P T1 x xd half k T' f)(hs:xd.ch.Pairwise (· < ·)){c:Nat}(hx:∀y,y∈xd.ch->x<y)(hc:xd.ch[k]? =some c){cd:Nd}(jm:T'[c]? =some cd)
 {more:Int} (Qp:0<=more) (hm:more*(sz P x:Int)<=half*(sz P c:Int)) (Bb:1<=sz P c):
 pa P T1 x xd half (k+1) (uG T' c x cd {xd with free:=f} ((sz P c:Int)+more)) (f+((sz P c:Int)+more)):=by
 have cH:=ym hs hc;have hxc:x<c:=hx c (List.mem_of_getElem? hc);have Tf:c∉xd.ch.take k:=fun hh=>Nat.lt_irrefl _ (cH c hh);have fX:=wD (many:=(sz P c:Int)+more) jm h.here (by omega);have G4:((xd.ch.take (k+1)).map (sz P)).sum=((xd.ch.take k).map (sz P)).sum+sz P c:=by rw [nn hc];simp
 have gB:∀y,y∈xd.ch.take (k+1)↔y∈xd.ch.take k\/y=c:=by intro y;rw [nn hc];simp
 exact {
  np:=h.np.trans (uF _ jm h.here (by omega))
  here:=by rw [fX,if_pos rfl]
  rest:=fun y hy hn=>by
   rw [fX,if_neg hy,if_neg (fun e=>hn ((gB y).2 (.inr e)))];exact h.rest y hy (fun hh=>hn ((gB y).2 (.inl hh)))
  lo:=by rw [G4];have:=h.lo;omega
  up:=by
   rw [G4];have h1:=h.up;have e1:(f+((sz P c:Int)+more)-xd.lo-((((xd.ch.take k).map (sz P)).sum+sz P c:Nat):Int))*(sz P x:Int)=(f-xd.lo-((((xd.ch.take k).map (sz P)).sum:Nat):Int))*(sz P x:Int)+more*(sz P x:Int):=by
    rw [<-Int.add_mul];congr 1;omega
   have e2:half*((((xd.ch.take k).map (sz P)).sum+sz P c:Nat):Int)=half*((((xd.ch.take k).map (sz P)).sum:Nat):Int)+half*(sz P c:Int):=by
    rw [<-Int.mul_add];congr 1
   rw [e1,e2];omega
  qd:=fun y yd hy A9=>by
   have Wv:=h.lo;rw [fX]at A9;rcases(gB y).1 hy with hh|rfl
   ·have h1:=cH y hh
    have h2:=hx y (List.mem_of_mem_take hh);rw [if_neg (by omega),if_neg (by omega)]at A9;have:=h.qd y yd hh A9;exact⟨this.1,by omega,this.2.2⟩
   ·rw [if_neg (by omega),if_pos rfl]at A9
    cases A9;refine⟨?_,?_,?_⟩<;>simp only<;>omega
  ord:=fun a b ad bd ha hb lM Mi Md=>by
   rw [fX]at Mi Md;rcases(gB b).1 hb with vB|rfl
   ·have h1:=cH b vB
    rcases(gB a).1 ha with Ae|rfl
    ·have h2:=hx a (List.mem_of_mem_take Ae)
     rw [if_neg (by omega),if_neg (by omega)]at Mi Md;exact h.ord a b ad bd Ae vB lM Mi Md
    ·omega
   ·rcases(gB a).1 ha with Ae|rfl
    ·have h1:=cH a Ae
     have h2:=hx a (List.mem_of_mem_take Ae);rw [if_neg (by omega),if_neg (by omega)]at Mi;rw [if_neg (by omega),if_pos rfl]at Md;cases Md;exact(h.qd a ad Ae Mi).2.1
    ·omega}
end
structure mY(P:List Int)(T0:List Nd)(m:Nat)(T':List Nd)(q:List Nat)(i:Nat):Prop where
 np:kN T0 T'
 nodup:q.Nodup
 oc:∀y,y∈q->jD P y m
 fst:m∈q
 src:∀y,y∈q->y=m\/∃z:Nat,z∈q.take i/\P[y]? =some (z:Int)
 W6:∀z,z∈q.take i->∀c,c∈kids P z->c∈q
 rest:∀y,y∉q->T'[y]? =T0[y]?
 top:∀md Rn,T0[m]? =some md->T'[m]? =some Rn->Rn.lo=md.lo/\Rn.hi=md.hi
 room:∀y yd,y∈q->T'[y]? =some yd->1<=yd.lo/\yd.hi<=4611686018427387904/\(sz P y:Int)<=yd.hi-yd.lo+1
 loc:∀z zd,z∈q.take i->T'[z]? =some zd->Loc T' zd
theorem mY.start{P:List Int}{T0:List Nd}{m:Nat}{md:Nd}(hm:m<P.length)(wz:T0[m]? =some md)(h1:1<=md.lo)(h2:md.hi<=4611686018427387904)(h3:(sz P m:Int)<=md.hi-md.lo+1):
 mY P T0 m T0 [m] 0:= {
 np:=kN.refl _
 nodup:=by simp
 oc:=fun y hy=>by simp at hy;subst hy;exact .refl hm
 fst:=by simp
 src:=fun y hy=>by simp at hy;exact .inl hy
 W6:=fun z hz=>by simp at hz
 rest:=fun _ _=>rfl
 top:=fun a b ha hb=>by rw [ha]at hb;cases hb;exact⟨rfl,rfl⟩
 room:=fun y yd hy A9=>by
  simp at hy;subst hy;rw [wz]at A9;cases A9;exact⟨h1,h2,h3⟩
 loc:=fun z zd hz=>by simp at hz}
section
variable{T0 T' Dh:List Nd}{m x i:Nat}{q:List Nat}{xd:Nd}{f half:Int}
theorem mY.step(hS:Shape T0)(h:mY (bP T0) T0 m T' q i)(hq:q[i]? =some x)(Iz:T'[x]? =some xd)
 (C0:0<=half) (aai:half*2<=xd.hi-xd.lo-((sz (bP T0) x:Int)-1))
 (fF:pa (bP T0) (T'.set x {xd with free:=xd.lo}) x {xd with free:=xd.lo} half xd.ch.length Dh f):
 mY (bP T0) T0 m Dh (q++xd.ch) (i+1):=by
 have WN:=h.np.shape hS;have ZD:=h.np.bP;have hP:=hS.par;have oR:xd.ch=kids (bP T0) x:=by rw [WN.ch x xd Iz,ZD]
 have dQ:i<q.length:=(lgeS hq).1;have GU:x∈q:=List.mem_of_getElem? hq;have tn:x<(bP T0).length:=(h.oc x GU).lt;have xQ:q.take (i+1)=q.take i++ [x]:=nn hq;have Oa:(q++xd.ch).take (i+1)=q.take i++ [x]:=by rw [List.take_append_of_le_length (by omega),xQ]
 have Lt:x∉q.take i:=by
  intro hh;have hn:(q.take i++ [x]).Nodup:=by rw [<-xQ];exact h.nodup.sublist (List.take_sublist _ _)
  rw [List.nodup_append]at hn;exact hn.2.2 x hh x (by simp) rfl
 have EB:∀c,c∈xd.ch->(bP T0)[c]? =some (x:Int):=fun c hc=>ek.1 (oR▸hc);have wA:∀c,c∈xd.ch->x<c:=fun c hc=>(im hP (oR▸hc)).1;have mu:∀c,c∈xd.ch->c∉q:=by
  intro c hc WC;rcases h.src c WC with rfl|⟨z,hz,Fo⟩
  ·have:=(h.oc x GU).le hP
   have:=wA _ hc;omega
  ·rw [EB c hc]at Fo
   have:z=x:=by have:=Option.some.inj Fo;omega
   exact Lt (this▸hz)
 have agV:x∉xd.ch:=fun hh=>Nat.lt_irrefl _ (wA x hh);have cY:∀c,c∈(({xd with free:=xd.lo}:Nd).ch.take xd.ch.length)↔c∈xd.ch:=by intro c;simp
 have G4:(xd.ch.map (sz (bP T0))).sum+1=sz (bP T0) x:=by
  rw [oR];exact Ce hP tn
 have iX:=tF hP tn;have Qr:=fF.bound C0 iX (by simp only [List.take_length];omega);have aat:=fF.lo;simp only [List.take_length]at Qr aat;have aau:f<=xd.hi:=by omega
 have hT1:∀y,y≠x->(T'.set x {xd with free:=xd.lo})[y]? =T'[y]? :=fun y hy=>List.getElem?_set_ne (fun e=>hy e.symm);have He:∀y,y≠x->y∉xd.ch->Dh[y]? =T'[y]? :=fun y hy hn=>by
  rw [fF.rest y hy (fun hh=>hn ((cY y).1 hh)),hT1 y hy]
 have L4:Dh[x]? =some {xd with free:=f}:=fF.here;have hxr:=h.room x xd GU Iz;have hlh:xd.lo<=xd.hi:=by omega
 have hold:∀y x6,y∉xd.ch->Dh[y]? =some x6->∃yd,T'[y]? =some yd/\yd.lo=x6.lo/\yd.hi=x6.hi:=by
  intro y x6 hn hy;by_cases e:y=x
  ·subst e
   rw [L4]at hy;cases hy;exact⟨xd,Iz,rfl,rfl⟩
  ·rw [He y e hn]at hy
   exact⟨x6,hy,rfl,rfl⟩
 exact {
  np:=(h.np.trans (kN.set (nd':= {xd with free:=xd.lo}) Iz rfl rfl)).trans fF.np
  nodup:=by
   rw [List.nodup_append];refine⟨h.nodup,?_,fun a ha b hb e=>mu b hb (e▸ha)⟩;rw [oR];exact(sD _ _).imp (fun h=>by omega)
  oc:=fun y hy=>by
   rcases List.mem_append.1 hy with hy|hy
   ·exact h.oc y hy
   ·exact .step (EB y hy) (h.oc x GU)
  fst:=List.mem_append.2 (.inl h.fst)
  src:=fun y hy=>by
   rw [Oa];rcases List.mem_append.1 hy with hy|hy
   ·rcases h.src y hy with e|⟨z,hz,Fo⟩
    ·exact .inl e
    ·exact .inr ⟨z,List.mem_append.2 (.inl hz),Fo⟩
   ·exact .inr ⟨x,by simp,EB y hy⟩
  W6:=fun z hz c hc=>by
   rw [Oa]at hz;rcases List.mem_append.1 hz with hz|hz
   ·exact List.mem_append.2 (.inl (h.W6 z hz c hc))
   ·simp at hz
    subst hz;exact List.mem_append.2 (.inr (oR▸hc))
  rest:=fun y hy=>by
   have h1:y∉q:=fun hh=>hy (List.mem_append.2 (.inl hh));have h2:y∉xd.ch:=fun hh=>hy (List.mem_append.2 (.inr hh));rw [He y (fun e=>h1 (e▸GU)) h2,h.rest y h1]
  top:=fun md Yc wz Tq=>by
   obtain⟨Rn,h1,h2,h3⟩:=hold m Yc (fun hh=>mu m hh h.fst) Tq;have:=h.top md Rn wz h1;omega
  room:=fun y x6 hy Ls=>by
   rcases List.mem_append.1 hy with hy|hy
   ·obtain⟨yd,h1,h2,h3⟩:=hold y x6 (fun hh=>mu y hh hy) Ls
    have:=h.room y yd hy h1;omega
   ·have:=fF.qd y x6 ((cY y).2 hy) Ls
    simp only at this;omega
  loc:=fun z zd hz YE=>by
   rw [Oa]at hz;rcases List.mem_append.1 hz with hz|hz
   ·have hzq:z∈q:=List.mem_of_mem_take hz
    have Sb:z≠x:=fun e=>Lt (e▸hz);have NN:=YE;rw [He z Sb (fun hh=>mu z hh hzq)]at NN;have hl:=h.loc z zd hz NN;have YF:zd.ch=kids (bP T0) z:=by rw [WN.ch z zd NN,ZD]
    have WD:∀c,c∈zd.ch->c∉xd.ch:=by
     intro c hc L6;have h1:=EB c L6;rw [ek.1 (YF▸hc:c∈kids (bP T0) z)]at h1;have:=Option.some.inj h1;omega
    exact {
     Fv:=hl.Fv
     BF:=hl.BF
     sub:=fun c cd hc jm=>by
      obtain⟨uU,h1,h2,h3⟩:=hold c cd (WD c hc) jm;have:=hl.sub c uU hc h1;omega
     ord:=fun c c' cd uU hc sW zm jm qi=>by
      obtain⟨ed,h1,h2,h3⟩:=hold c cd (WD c hc) jm;obtain⟨Pu,sH,uD,C7⟩:=hold c' uU (WD c' sW) qi;have:=hl.ord c c' ed Pu hc sW zm h1 sH;omega}
   ·simp at hz
    subst hz;rw [L4]at YE;cases YE;exact {
     Fv:=by simp only;omega
     BF:=aau
     sub:=fun c cd hc jm=>by
      have:=fF.qd c cd ((cY c).2 hc) jm;simp only at this⊢;omega
     ord:=fun c c' cd uU hc sW zm jm qi=>fF.ord c c' cd uU ((cY c).2 hc) ((cY c').2 sW) zm jm qi}}
theorem mY.fin(hS:Shape T0)(h:mY (bP T0) T0 m T' q i)(hi:q.length<=i)
 (S7:∀y nd,T0[y]? =some nd->¬jD (bP T0) y m->Iv nd/\Loc T0 nd):Good T':=by
 have WN:=h.np.shape hS;have ZD:=h.np.bP;have hP:=hS.par;have xQ:q.take i=q:=List.take_of_length_le hi;have qh:∀y,jD (bP T0) y m->y∈q:=by
  have:∀y k,jD (bP T0) y k->k=m->y∈q:=by
   intro y k hu
   induction hu with
   |refl=>intro e;subst e;exact h.fst
   | @step a b c hp h' ih=>intro e;exact h.W6 b (by rw [xQ];exact ih e) a (ek.2 hp)
  exact fun y hu=>this y m hu rfl
 have hq:∀y,y∈q↔jD (bP T0) y m:=fun y=>⟨h.oc y,qh y⟩;refine⟨WN,fun y yd A9=>?_,fun y yd A9=>?_⟩
 ·by_cases hy:y∈q
  ·have hr:=h.room y yd hy A9
   have:=tF hP (h.oc y hy).lt;exact⟨hr.1,by omega,hr.2.1⟩
  ·rw [h.rest y hy]at A9
   exact(S7 y yd A9 (fun hu=>hy (qh y hu))).1
 ·by_cases hy:y∈q
  ·exact h.loc y yd (by rw [xQ];exact hy) A9
  ·have NQ:=A9
   rw [h.rest y hy]at NQ;have hl:=(S7 y yd NQ (fun hu=>hy (qh y hu))).2;have oR:=hS.ch y yd NQ;have hold:∀c cd,c∈yd.ch->T'[c]? =some cd->∃ed,T0[c]? =some ed/\ed.lo=cd.lo/\ed.hi=cd.hi:=by
    intro c cd hc jm;by_cases WC:c∈q
    ·have hpc:=ek.1 (oR▸hc:c∈kids (bP T0) y)
     have nK:c=m:=by
      by_cases e:c=m
      ·exact e
      ·exact absurd (qh y ((h.oc c WC).inv e hpc)) hy
     subst nK;obtain⟨ed,hed,_⟩:=h.np.back jm;have:=h.top ed cd hed jm;exact⟨ed,hed,by omega,by omega⟩
    ·rw [h.rest c WC]at jm
     exact⟨cd,jm,rfl,rfl⟩
   exact {
    Fv:=hl.Fv
    BF:=hl.BF
    sub:=fun c cd hc jm=>by
     obtain⟨ed,h1,h2,h3⟩:=hold c cd hc jm;have:=hl.sub c ed hc h1;omega
    ord:=fun c c' cd uU hc sW zm jm qi=>by
     obtain⟨ed,h1,h2,h3⟩:=hold c cd hc jm;obtain⟨Pu,sH,uD,C7⟩:=hold c' uU sW qi;have:=hl.ord c c' ed Pu hc sW zm h1 sH;omega}
end
open Go Go.RowKit Go.bU
theorem M7{l:List Nat}{a:Nat}(h:a∈l):a<=l.sum:=by
 induction l with
 |nil=>simp at h
 |cons b l ih=>
  rw [List.sum_cons];rcases List.mem_cons.1 h with rfl|h
  ·omega
  ·have:=ih h;omega
theorem y9{l:List Nat}{j x:Nat}(h:l[j]? =some x):(ints l)[j]? =some (.int .i64 (x:Int)):=by simp [ints,h]
theorem GQ(l:List Nat):(ints l).length=l.length:=by simp [ints]
theorem GP(l:List Nat):∀u∈ints l,u.oneCell'=true:=by
 intro u hu;simp only [ints,List.mem_map]at hu;obtain⟨x,_,rfl⟩:=hu;rfl
structure Dl(w0:World)(S:Nat->Prop)(g b c B0 B1 len:Nat)(P:List Int)(d:Int)(As:Option Addr)(w:World)(T':List Nd)(L:List (Nd×Value))(Aq:Option Addr)(nq cq:Nat)(q:List Nat):Prop where
 tv:TV w S g T' d b c L
 rs:Row w B0 iy 1 As len len (us (sz P) len)
 sb:∀k,bg As=some k->k<B1
 rq:Row w B1 jh 1 Aq nq cq (ints q)
 kp:Kept S w0 w
 hS:∀k,S k->k<B0
 hB:B0<=B1
 HE:B1<=w.heap.size
 h0:w0.heap.size<=B0
section
variable{w0 w w':World}{S:Nat->Prop}{g b c B0 B1 len:Nat}{P:List Int}{d:Int}{As:Option Addr}{T' Dh:List Nd}{L L':List (Nd×Value)}{Aq:Option Addr}{nq cq:Nat}{q:List Nat}
theorem Dl.I8(h:Dl w0 S g b c B0 B1 len P d As w T' L Aq nq cq q):nq=q.length:=by
 have:=Row.len h.rq;rw [GQ]at this;omega
theorem Dl.quiet(h:Dl w0 S g b c B0 B1 len P d As w T' L Aq nq cq q)(hk:Kept Nil w w'):Dl w0 S g b c B0 B1 len P d As w' T' L Aq nq cq q:= {
 tv:=h.tv.kept hk
 rs:=Row.aC h.rs hk (fun _ _ h=>h)
 sb:=h.sb
 rq:=Row.aC h.rq hk (fun _ _ h=>h)
 kp:=h.kp.trans hk (fun _ _ h=>h.elim)
 hS:=h.hS
 hB:=h.hB
 HE:=Nat.le_trans h.HE hk.size
 h0:=h.h0}
theorem Dl.wrote(h:Dl w0 S g b c B0 B1 len P d As w T' L Aq nq cq q)(hk:Kept (fun k=>k=b) w w')(ht:TV w' S g Dh d b c L'):Dl w0 S g b c B0 B1 len P d As w' Dh L' Aq nq cq q:= {
 tv:=ht
 rs:=Row.aC h.rs hk (fun k e e2=>by have:=(Row.bC h.rs e).1;have:=h.hS b h.tv.fM;omega)
 sb:=h.sb
 rq:=Row.aC h.rq hk (fun k e e2=>by have:=(Row.bC h.rq e).1;have:=h.hS b h.tv.fM;have:=h.hB;omega)
 kp:=h.kp.trans hk (fun k _ e=>by rw [e];exact h.tv.fM)
 hS:=h.hS
 hB:=h.hB
 HE:=Nat.le_trans h.HE hk.size
 h0:=h.h0}
theorem Dl.Cq(h:Dl w0 S g b c B0 B1 len P d As w T' L Aq nq cq q){j:Nat}(hj:j<len){k:Int->Prop}(hk:k (sz P j)):
 Is As fun a=>∃t,w.cell? (a.add (j*1))=some (.int .u64 t)/\k t:=by
 have hr:=h.rs;obtain⟨b',rfl⟩:=Row.some hr (by omega);exact⟨_,by rw [lS,Nat.mul_one];exact Row.cell hr (oq _ hj),hk⟩
theorem Dl.Rb(h:Dl w0 S g b c B0 B1 len P d As w T' L Aq nq cq q){j x:Nat}(hj:q[j]? =some x){k:Int->Prop}(hk:k x):
 Is Aq fun a=>∃t,w.cell? (a.add (j*1))=some (.int .i64 t)/\k t:=by
 have hr:=h.rq;have cH:=(lgeS hj).1;obtain⟨b',rfl⟩:=Row.some hr (by rw [h.I8];omega);exact⟨_,by rw [lS,Nat.mul_one];exact Row.cell hr (y9 hj),hk⟩
theorem Dl.push(h:Dl w0 S g b c B0 B1 len P d As w T' L Aq nq cq q)(vf:q.length<=4000000)(x:Nat){w1:World}(e1:w1=w.alloc (.cells #[.int .i64 (x:Int)] jh)):
 ∃IT IM w2,(Builtin.append_ #[iP,iP] iP #[.slice Aq nq cq,.slice (some ⟨w.heap.size,0,none⟩) 1 1]).run prog w1=.ok (.slice IT (nq+1) IM) w2/\
  Dl w0 S g b c B0 B1 len P d As w2 T' L IT (nq+1) IM (q++ [x])/\(∀S0:Nat->Prop,(∀k,bg Aq=some k->S0 k)->Kept S0 w w2):=by
 subst e1;generalize IA:w.alloc (.cells #[.int .i64 (x:Int)] jh)=w1;have mu:w1.heap[w.heap.size]? =some (.cells #[.int .i64 (x:Int)] jh (0,0)):=by rw [<-IA];exact aJ w _
 have k1:Kept Nil w w1:=by rw [<-IA];exact(Kept.refl Nil w).alloc _
 have h1:=h.quiet k1;have JS:=h.I8;obtain⟨A',c',w2,hr,e8,hg,xU⟩:=fi (P:=prog) (t:=iP) (ty:=iP) KY h1.rq (a:=⟨w.heap.size,0,none⟩) (m:=1) (cx:=1)
  (news:=ints [x]) rfl (fun j u hj=>by rw [lS,ay mu];simpa [ints]using hj) (GP _) (by omega) (by unfold maxLen;omega) h1.HE
 have kA:Kept (fun k=>bg Aq=some k) w1 w2:=(Kept.refl _ w1).grown hg (fun k hk _=>hk);have fV:∀k,bg Aq=some k->B1<=k:=fun k e=>(Row.bC h.rq e).1;refine⟨A',c',w2,hr,?_,fun S0 h0=>(k1.mono (S':=S0) (fun _ _ h=>h.elim)).trans kA (fun k _ e=>h0 k e)⟩;exact {
  tv:=h1.tv.aC kA (fun k hk e=>by have:=h.hS k hk;have:=fV k e;have:=h.hB;omega)
  rs:=Row.aC h1.rs kA (fun k e e2=>by have:=h.sb k e;have:=fV k e2;omega)
  sb:=h.sb
  rq:=by simpa [ints]using e8
  kp:=(h.kp.trans k1 (fun _ _ h=>h.elim)).trans kA (fun k hk e=>absurd (fV k e) (by have:=h.hB;have:=h.h0;omega))
  hS:=h.hS
  hB:=h.hB
  HE:=Nat.le_trans h1.HE kA.size
  h0:=h.h0}
theorem BH{T0 T1:List Nd}{x:Nat}{xd:Nd}{half:Nat}{spare i:Int}{VU:Option Addr}{V7:Nat}{Qo:aN}
 (D:Dl w0 S g b c B0 B1 T0.length (bP T0) d As w T1 L Aq nq cq q) (hS:Shape T0) (Wo:kN T0 T1) (hlen:T0.length<=1000000) (JS:q.length<=1000000)
 (hx:T1[x]? =some xd) (zk:xd.free=xd.lo) (Wv:0<=xd.lo) (hhi:xd.hi<=4611686018427387904) (C0:(half:Int)*2<=xd.hi-xd.lo-((sz (bP T0) x:Int)-1))
 (Et:u64.wrap (spare.tdiv 2)=(half:Int)) (aaG:Row w 0 jh 1 VU xd.ch.length V7 (ints xd.ch)) (Ue:∀k,bg VU=some k->S k/\k≠b)
 (hex:∀w' Dh f L' IT IM,Dl w0 S g b c B0 B1 T0.length (bP T0) d As w' Dh L' IT (nq+xd.ch.length) IM (q++xd.ch)->pa (bP T0) T1 x xd half xd.ch.length Dh f->
   Qo .normal [(0,.pointer (some ⟨g,0,none⟩)),(4,.slice As T0.length T0.length),(5,.slice IT (nq+xd.ch.length) IM),(6,.int .i64 (i64.wrap (i+1)))] w'):
 Holds none [] prog 164 (.loop (lB (bB (sR (sR (sR (sR (bB (sL (sR (lB (bB (sR (sR (sR (sR (sR (body aw.fn)))))))))))))))))) (aw.q3 Qo) (aw.e3 (some ⟨g,0,none⟩) As T0.length T0.length i x spare VU xd.ch.length V7 xd.ch.length (Aq,nq,cq,0)) w:=by
 have hP:=hS.par;have pH:=eN T0;have oR:xd.ch=kids (bP T0) x:=by
  have:=(Wo.shape hS).ch x xd hx
  rwa [Wo.bP]at this
 have tn:x<T0.length:=by rw [<-Wo.len];exact(lgeS hx).1
 have JM:xd.ch.Pairwise (· < ·):=by rw [oR];exact sD _ _
 have wA:∀y,y∈xd.ch->x<y:=fun y hy=>(im hP (oR▸hy)).1;have Ud:xd.ch.length<=1000000:=by rw [oR];exact Nat.le_trans (yU _ _) (by omega)
 have G4:(xd.ch.map (sz (bP T0))).sum+1=sz (bP T0) x:=by rw [oR];exact Ce hP (by omega)
 have iX:=tF hP (n:=x) (by omega);have Y7:=vT (P:=bP T0) x;have hnq:=D.I8;refine aw.qL (I:=fun s w'=>∃(k:Nat) (T':List Nd) (f:Int) (L':List (Nd×Value)) (IT:Option Addr) (IM:Nat),s=(IT,nq+k,IM,(k:Int))/\k<=xd.ch.length/\
  Dl w0 S g b c B0 B1 T0.length (bP T0) d As w' T' L' IT (nq+k) IM (q++xd.ch.take k)/\pa (bP T0) T1 x xd half k T' f/\Row w' 0 jh 1 VU xd.ch.length V7 (ints xd.ch))
  (μ:=fun s _=>((xd.ch.length:Int)-s.2.2.2).toNat) (s:=(Aq,nq,cq,0)) ⟨0,T1,xd.lo,L,Aq,cq,rfl,Nat.zero_le _,by simpa using D,pa.start hx zk,aaG⟩ ?_
 rintro s w' ⟨k,T',f,L',IT,IM,rfl,hk,D',fF,hr⟩;refine Split.dec (fun cH=>?_) (fun fV=>?_)
 ·simp only at cH
  have Bp:k<xd.ch.length:=by omega
  obtain⟨ci,WE⟩:∃ci,xd.ch[k]? =some ci:=⟨_,List.getElem?_eq_getElem Bp⟩;have nK:ci∈xd.ch:=List.mem_of_getElem? WE;have hck:ci∈kids (bP T0) x:=oR▸nK;have qh:ci<T0.length:=by have:=(im hP hck).2;omega
  have hxc:=wA ci nK;have Bb:=tF hP (n:=ci) (by omega);have ahi:=vT (P:=bP T0) ci;have Sp:=Wo.trans fF.np;obtain⟨cd,jm⟩:=fG (T:=T') (i:=ci) (by rw [Sp.len];exact qh);have Uc:cd.parent=x:=by
   have h1:=km jm;rw [Sp.bP,ek.1 hck]at h1;exact(Option.some.inj h1).symm
  have Zb:sz (bP T0) ci<=sz (bP T0) x:=by
   have:=M7 (l:=xd.ch.map (sz (bP T0))) (a:=sz (bP T0) ci) (List.mem_map.2 ⟨ci,nK,rfl⟩);omega
  have Uv:0<=(ci:Int)/\(ci:Int)<(T0.length:Int):=⟨by omega,by omega⟩;have iD:0<=(x:Int)/\(x:Int)<(T0.length:Int):=⟨by omega,by omega⟩;have aah:half<4611686018427387904:=by omega
  obtain⟨bch,aaU⟩:=Row.some hr (by omega);subst aaU;refine⟨⟨by simp only;omega,by simp only;omega⟩,_,by simp only [lS,Int.toNat_natCast,Nat.mul_one];exact Row.cell hr (y9 WE),by decide,Uv,D'.Cq qh ?_⟩;rw [Et];refine vE half (sz (bP T0) ci) (by omega) (by omega) ⟨_,_,rfl,iD,D'.Cq tn ?_⟩;have Tp:(half*sz (bP T0) ci/18446744073709551616)*18446744073709551616+half*sz (bP T0) ci%18446744073709551616=half*sz (bP T0) ci:=Nat.div_add_mod' _ _;have aag:half*sz (bP T0) ci/18446744073709551616<sz (bP T0) x:=by
   have:half*sz (bP T0) ci<18446744073709551616*sz (bP T0) ci:=Nat.mul_lt_mul_of_pos_right (by omega) Bb;have:half*sz (bP T0) ci/18446744073709551616<sz (bP T0) ci:=Nat.div_lt_of_lt_mul this;omega
  refine vG _ _ (sz (bP T0) x) (Nat.mod_lt _ (by omega)) (by omega) aag fun r w90 k90=>?_;rw [Tp];generalize hm:half*sz (bP T0) ci/sz (bP T0) x=more;have hmx:more*sz (bP T0) x<=half*sz (bP T0) ci:=by rw [<-hm];exact Nat.div_mul_le_self _ _
  have ah1:more<=half:=by
   rw [<-hm];apply Nat.div_le_of_le_mul;rw [Nat.mul_comm];exact Nat.mul_le_mul_right _ Zb
  have D90:=D'.quiet k90;have Zl:=Row.aC hr k90 (fun _ _ h=>h);refine⟨_,_,rfl,Uv,D90.Cq qh ?_⟩;rw [fp (x:=(sz (bP T0) ci:Int)+(more:Int)) (by omega) (by omega)];have xV:=fF.bound (by omega) iX (by
   have h1:(((xd.ch.take k).map (sz (bP T0))).sum)<=(xd.ch.map (sz (bP T0))).sum:=by
    conv=>rhs;rw [<-List.take_append_drop k xd.ch,List.map_append,List.sum_append]
    omega
   omega)
  have kZ:=fF.lo;have h1:(((xd.ch.take k).map (sz (bP T0))).sum)<=(xd.ch.map (sz (bP T0))).sum:=by
   conv=>rhs;rw [<-List.take_append_drop k xd.ch,List.map_append,List.sum_append]
   omega
  refine tC D90.tv jm fF.here Uc (by omega) (by simp only;omega) (by omega) (by simp only;omega) fun w96 L96 h96 k96=>⟨rfl,?_⟩;have D96:=D90.wrote k96 h96;have Zj:=Row.aC Zl k96 (fun k e e2=>(Ue k e).2 e2);intro w97;have Y6:(xd.ch.take k).length<=1000000:=by rw [List.length_take];omega
  obtain⟨QM,QB,PQ,Ze,D99,Wf⟩:=D96.push (by rw [List.length_append];omega) ci (w1:=w97) rfl;have Zi:=Row.aC Zj (Wf (fun k=>B1<=k) (fun k e=>(Row.bC D96.rq e).1)) (fun k e e2=>by have:=D.hS k (Ue k e).1;have:=D.hB;omega);refine⟨QM,_,QB,PQ,Ze,?_⟩;rw [gU (x:=(k:Int)+1) (by omega) (by omega)];refine⟨(QM,nq+(k+1),QB,((k+1:Nat):Int)),rfl,⟨k+1,_,_,L96,QM,QB,rfl,Bp,?_,fF.step (more:=(more:Int)) JM wA WE jm (by omega) ?_ Bb,Zi⟩,by simp only;omega⟩
  ·rw [nn WE,<-List.append_assoc]
   exact D99
  ·have:((more*sz (bP T0) x:Nat):Int)<=((half*sz (bP T0) ci:Nat):Int):=by omega
   rwa [Int.natCast_mul,Int.natCast_mul]at this
 ·simp only at fV
  have:k=xd.ch.length:=by omega
  subst this;rw [aP,aw.wO];rw [List.take_length]at D';exact hex w' T' f L' IT IM D' fF
end
theorem Ge:∀(n:Nat) (q:List Nat),q.Nodup->(∀y,y∈q->y<n)->q.length<=n:=by
 intro n
 induction n with
 |zero=>
  intro q _ h;cases q with
  |nil=>simp
  |cons a q=>exact absurd (h a (by simp)) (by omega)
 |succ n ih=>
  intro q hn h;by_cases hm:n∈q
  ·have h1:=List.length_erase_of_mem hm
   have h2:=ih (q.erase n) (hn.erase n) (fun y hy=>by
    have:=(List.Nodup.mem_erase_iff hn).1 hy;have:=h y this.2;omega)
   omega
  ·have:=ih q hn (fun y hy=>by
    have:=h y hy;have:y≠n:=fun e=>hm (e▸hy);omega)
   omega
section
variable{w0 w:World}{S:Nat->Prop}{g b c B0:Nat}{d:Int}{As:Option Addr}{L:List (Nd×Value)}{T:List Nd}{K:Value->World->Prop}
theorem BG{T0:List Nd}{m:Nat}{md:Nd}
 (htv:TV w S g T0 d b c L) (hrs:Row w B0 iy 1 As T0.length T0.length (us (sz (bP T0)) T0.length)) (TF:Kept S w0 w) (hSB:∀k,S k->k<B0) (Sh:w0.heap.size<=B0) (hBw:B0<=w.heap.size)
 (hS:Shape T0) (hlen:T0.length<=1000000) (wz:T0[m]? =some md) (h1:1<=md.lo) (h2:md.hi<=4611686018427387904) (h3:(sz (bP T0) m:Int)<=md.hi-md.lo+1)
 (hK:∀w' T' q i,om w' S g T' d->mY (bP T0) T0 m T' q i->q.length<=i->Kept S w0 w'->K (.tuple #[]) w'):
 aw.cO (some ⟨g,0,none⟩) m As T0.length T0.length K w:=by
 have hP:=hS.par;have pH:=eN T0;have Hj:m<T0.length:=(lgeS wz).1;unfold aw.cO;intro gP;have lW:Kept Nil w gP:=(Kept.refl Nil w).alloc _;have mu:gP.heap[w.heap.size]? =some (.cells #[.int .i64 (m:Int)] jh (0,0)):=aJ w _;have D35:Dl w0 S g b c B0 w.heap.size T0.length (bP T0) d As gP T0 L (some ⟨w.heap.size,0,none⟩) 1 1 [m]:= {
  tv:=htv.kept lW
  rs:=Row.aC hrs lW (fun _ _ h=>h)
  sb:=fun k e=>by obtain⟨_,_,hc⟩:=Row.bC hrs e;exact aQ hc
  rq:=Row.made (n:=1) (cur:= #[.int .i64 (m:Int)]) mu (Nat.le_refl _) rfl (by decide)
  kp:=TF.trans lW (fun _ _ h=>h.elim)
  hS:=hSB
  hB:=hBw
  HE:=lW.size
  h0:=Sh}
 clear_value gP;generalize HE:w.heap.size=B1 at*;refine aw.gz (I:=fun s w'=>∃(i:Nat) (T':List Nd) (L':List (Nd×Value)) (Aq:Option Addr) (nq cq:Nat) (q:List Nat),s=(Aq,nq,cq,(i:Int))/\i<=q.length/\
  Dl w0 S g b c B0 B1 T0.length (bP T0) d As w' T' L' Aq nq cq q/\mY (bP T0) T0 m T' q i)
  (μ:=fun s _=>((T0.length:Int)-s.2.2.2).toNat) (s:=(some ⟨B1,0,none⟩,1,1,0)) ⟨0,T0,L,_,1,1,[m],rfl,Nat.zero_le _,D35,mY.start (by omega) wz h1 h2 h3⟩ ?_
 rintro s w' ⟨i,T',L',Aq,nq,cq,q,rfl,hi,D,hO⟩;have hnq:=D.I8;have JS:q.length<=T0.length:=Ge _ _ hO.nodup (fun y hy=>by have:=(hO.oc y hy).lt;omega);refine Split.dec (fun cH=>?_) (fun fV=>?_)
 ·simp only at cH
  have dQ:i<q.length:=by omega
  obtain⟨x,Zt⟩:∃x,q[i]? =some x:=⟨_,List.getElem?_eq_getElem dQ⟩;have GU:x∈q:=List.mem_of_getElem? Zt;have tn:x<T0.length:=by have:=(hO.oc x GU).lt;omega
  obtain⟨xd,Iz⟩:=fG (T:=T') (i:=x) (by rw [hO.np.len];exact tn);have sG:=hO.room x xd GU Iz;have iX:=tF hP (n:=x) (by omega);have Y7:=vT (P:=bP T0) x;have hlT:T'.length=T0.length:=hO.np.len;have iD:0<=(x:Int)/\(x:Int)<(T'.length:Int):=⟨by omega,by omega⟩;refine⟨⟨by simp only;omega,by simp only;omega⟩,D.Rb Zt ?_⟩;intro zU;have QL:=D.quiet (w':=zU) (Kept.refl Nil w').drew;clear_value zU;obtain⟨v,hv⟩:=QL.tv.at_ Iz;obtain⟨wr,Pq⟩:=QL.tv.tJ hv (j:=4) (by omega) (u:=.int .u64 xd.lo) (nd':= {xd with free:=xd.lo}) rfl rfl;refine QL.tv.go (QL.tv.go ⟨iD,QL.tv.uH hv ⟨iD,by rw [nY];exact wr,?_⟩⟩);intro vO zT;have e50:vO=zU.setCell ⟨b,x*5+4,none⟩ (.int .u64 xd.lo):=by simp only [vO,nY,Int.toNat_natCast]
  rw [<-e50]at Pq;have Gw:Kept (fun k=>k=b) zU vO:=by rw [e50];exact(Kept.refl (fun k=>k=b) zU).setCell (p:=⟨b,x*5+4,none⟩) (fun _=>rfl) _
  have IS:=(QL.wrote Gw Pq).quiet (w':=zT) (Kept.refl Nil vO).drew;clear_value zT;have v1:(L'.set x ({xd with free:=xd.lo},v))[x]? =some ({xd with free:=xd.lo},v):=ir hv;obtain⟨VU,V7,hk⟩:=IS.tv.qd _ _ v1;have xT:(T'.set x {xd with free:=xd.lo}).length=T'.length:=by simp
  have OZ:0<=(x:Int)/\(x:Int)<((T'.set x {xd with free:=xd.lo}).length:Int):=by rw [xT];exact iD
  have WH:0<=(x:Int)/\(x:Int)<(T0.length:Int):=⟨by omega,by omega⟩;refine IS.tv.go ⟨OZ,IS.tv.zv v1 (IS.tv.go ⟨OZ,IS.tv.uH v1 ⟨WH,IS.Cq tn (IS.tv.go ⟨OZ,IS.tv.Vh v1 hk.val ?_⟩)⟩⟩)⟩;have Y9:kN T0 (T'.set x {xd with free:=xd.lo}):=hO.np.trans (kN.set (nd':= {xd with free:=xd.lo}) Iz rfl rfl);simp only;obtain⟨cur,Qu⟩:=IS.tv.uY;generalize hhf:((xd.hi-xd.lo-((sz (bP T0) x:Int)-1)).toNat /2)=half;refine BH (half:=half) (xd:= {xd with free:=xd.lo}) IS hS Y9 hlen (by omega) (ir Iz) rfl (by simp only;omega) (by simp only;omega) (by simp only;omega) ?_ hk.row (fun k e=>⟨hk.jL k e,fun e2=>hk.ne Qu (by decide) (by rw [e,e2])⟩) ?_
  ·rw [fp (x:=xd.hi-xd.lo) (by omega) (by omega),fp (x:=(sz (bP T0) x:Int)-1) (by omega) (by omega),fp (x:=xd.hi-xd.lo-((sz (bP T0) x:Int)-1)) (by omega) (by omega),
    Int.tdiv_eq_ediv_of_nonneg (by omega),fp (by omega) (by omega)]
   omega
  ·intro w2 T2 f L2 QM QB D2 fF
   rw [gU (x:=(i:Int)+1) (by omega) (by omega)];refine⟨(QM,nq+xd.ch.length,QB,((i+1:Nat):Int)),rfl,⟨i+1,T2,L2,QM,_,QB,q++xd.ch,rfl,by rw [List.length_append];omega,D2,hO.step hS Zt Iz (by omega) (by omega) fF⟩,by simp only;omega⟩
 ·simp only at fV
  rw [aP,aw.jB];exact hK w' T' q i ⟨_,_,_,D.tv⟩ hO (by omega) D.kp
theorem TV.XG(h:TV w S g T d b c L)(d':Int):Wr w ⟨g,1,none⟩/\TV (w.setCell ⟨g,1,none⟩ (.int .i64 d')) S g T d' b c L:=by
 have kG:Kept (fun k=>k=g) w (w.setCell ⟨g,1,none⟩ (.int .i64 d')):=(Kept.refl (fun k=>k=g) w).setCell (p:=⟨g,1,none⟩) (fun _=>rfl) _;refine⟨dL h.top (show 1<2 by omega),?_⟩;exact {
  top:=by
   have:=cV h.top 1 (.int .i64 d');simpa using this
  fst:=h.fst
  row:=Row.aC h.row kG (fun k e e2=>h.gb (by cases e;exact e2.symm))
  qd:=fun i p hp=>by
   obtain⟨A,m,hk⟩:=h.qd i p hp;exact⟨A,m,hk.val,Row.aC hk.row kG (fun k e e2=>hk.ne h.top (by decide) (by rw [e,e2])),hk.jL⟩
  apart:=h.apart
  gQ:=h.gQ
  fM:=h.fM}
set_option maxRecDepth 100000 in
theorem DB(h:om w S g T d)(hS:Shape T)(hlen:T.length<=1000000){p:Nat}(hp:p<T.length)(hd:0<=d/\d<=1000000)
 (Sy:∀nd,T[0]? =some nd->nd.lo=1/\nd.hi=4611686018427387904)
 (Wx:∀y nd,T[y]? =some nd->jD (bP T) p y->Iv nd)
 (hK:∀w' T' m q i,om w' S g T' (d+1)->jD (bP T) p m->mY (bP T) T m T' q i->q.length<=i->Kept S w w'->K (.tuple #[]) w'):
 bk prog aw.id #[.pointer (some ⟨g,0,none⟩),.int .i64 p] w K:=by
 have hP:=hS.par;have pH:=eN T;obtain⟨b,c,L,h⟩:=h;have hb:=h.bound;obtain⟨wr,h6⟩:=hb.XG (d+1);refine aw.of (h.goD ⟨by rw [lS];exact wr,?_⟩);intro w6;have e6:w6=w.setCell ⟨g,1,none⟩ (.int .i64 (d+1)):=by simp only [w6,lS,gU (x:=d+1) (by omega) (by omega)]
 rw [<-e6]at h6;have k6:Kept (fun k=>S k/\k<w.heap.size) w w6:=by rw [e6];exact(Kept.refl _ w).setCell (p:=⟨g,1,none⟩) (fun _=>hb.gQ) _
 have JO:w.heap.size=w6.heap.size:=by rw [e6];simp
 clear_value w6;refine Ao ⟨_,_,_,h6⟩ hP hlen fun w8 As XR k8=>⟨_,_,_,rfl,?_⟩;have h8:=h6.kept k8;refine aw.cf (I:=fun s w'=>∃m:Nat,s=(m:Int)/\jD (bP T) p m/\Kept Nil w8 w') (μ:=fun s _=>s.toNat) (s:=(p:Int)) ⟨p,rfl,.refl (by omega),Kept.refl _ _⟩ ?_;rintro s w' ⟨m,rfl,hu,kw⟩;have Hj:m<T.length:=by have:=hu.V8;omega
 obtain⟨md,wz⟩:=fG Hj;have hm:=Wx m md wz hu;have J0:=hm.Yd;have Fq:=hm.le;have ZX:=hm.top;unfold aw.B1;intro lV;have ve:Kept Nil w8 lV:=kw.drew;have C8:=h8.kept ve;have Cn:=Row.aC XR ve (fun _ _ h=>h);have jT:=km wz;have ahe:=vT (P:=bP T) m;have xu:0<=(m:Int)/\(m:Int)<(T.length:Int):=⟨by omega,by omega⟩;obtain⟨v,hv⟩:=C8.at_ wz;have done:(sz (bP T) m:Int)<=md.hi-md.lo+1->aw.q1 K (.exit 0) [(0,.pointer (some ⟨g,0,none⟩)),(1,.int .i64 m),(4,.slice As T.length T.length)] lV:=by
  intro sG;rw [aw.dh];have k8':Kept (fun k=>S k/\k<w.heap.size) w lV:=(k6.trans k8 (fun _ _ h=>h.elim)).trans ve (fun _ _ h=>h.elim);refine BG C8 (B0:=w.heap.size) (Row.base Cn (fun k e=>by rw [JO];exact(Row.bC Cn e).1)) k8' (fun k h=>h.2) (Nat.le_refl _) k8'.size hS hlen wz J0 ZX sG ?_;intro w2 T2 q i h2 hO hq k2;exact hK w2 T2 m q i (h2.mono (fun k h=>h.1)) hu hO hq (k2.mono (fun k _ h=>h.1))
 refine C8.go ⟨xu,C8.HK hv (Split.dec (fun iX=>?_) (fun zi=>?_))⟩
 ·obtain⟨bs,WH⟩:=Row.some Cn (by omega)
  subst WH;refine C8.go ⟨xu,C8.zv hv (C8.go ⟨xu,C8.uH hv ⟨by decide,xu,_,by rw [lS,Int.toNat_natCast,Nat.mul_one];exact Row.cell Cn (oq _ Hj),?_⟩⟩)⟩;rw [fp (x:=md.hi-md.lo) (by omega) (by omega),fp (x:=md.hi-md.lo+1) (by omega) (by omega),Int.tdiv_eq_ediv_of_nonneg (by omega),fp (x:=(md.hi-md.lo+1)/4) (by omega) (by omega)];refine Split.dec (fun cH=>?_) (fun fV=>?_)
  ·have Qp:0<m:=by
    rcases Nat.eq_zero_or_pos m with rfl|h
    ·rw [hP.root]at jT;have:=Option.some.inj jT;omega
    ·exact h
   obtain⟨z,hz,ez⟩:=hP.up m _ Qp jT;refine C8.go ⟨xu,C8.HK hv ?_⟩;rw [ez];exact⟨(z:Int),rfl,⟨z,rfl,hu.trans (.step (by rw [jT,ez]) (.refl (by omega))),ve⟩,by simp only;omega⟩
  ·rw [aP]
   exact done (by omega)
 ·have Qp:m=0:=by
   rcases Nat.eq_zero_or_pos m with h|h
   ·exact h
   ·obtain⟨z,_,ez⟩:=hP.up m _ h jT
    omega
  subst Qp;have:=Sy md wz;rw [aP];exact done (by omega)
end
structure vN(T:List Nd):Prop extends Good T where
 root:∀nd,T[0]? =some nd->nd.lo=1/\nd.hi=4611686018427387904
theorem AF:vN pM:=by
 have fX:∀(i:Nat) nd,pM[i]? =some nd->i=0/\nd=⟨-1,[],1,4611686018427387904,1⟩:=by
  intro i nd h;cases i with
  |zero=>simp [pM]at h;exact⟨rfl,h.symm⟩
  |succ i=>simp [pM]at h
 exact {
  par:=⟨rfl,fun i p hi h=>by
   cases i with
   |zero=>omega
   |succ i=>simp [bP,pM]at h⟩
  ch:=fun i nd h=>by
   obtain⟨rfl,rfl⟩:=fX i nd h;simp [kids,bP,pM]
  iv:=fun i nd h=>by
   obtain⟨rfl,rfl⟩:=fX i nd h;exact⟨by decide,by decide,by decide⟩
  loc:=fun i nd h=>by
   obtain⟨rfl,rfl⟩:=fX i nd h;exact⟨by decide,by decide,fun c cd hc=>by simp at hc,fun c c' cd uU hc=>by simp at hc⟩
  root:=fun nd h=>by
   obtain⟨_,rfl⟩:=fX 0 nd h;exact⟨rfl,rfl⟩}
section
variable{T:List Nd}{p:Nat}{pd:Nd}
theorem E7(hp:T[p]? =some pd)(i:Nat):(added T p pd)[i]? =if i=p then some {pd with ch:=pd.ch++ [T.length],free:=pd.free+iL pd}else if i=T.length then some ⟨p,[],pd.free,pd.free+iL pd-1,pd.free⟩else T[i]? :=by
 have cH:p<T.length:=(lgeS hp).1;unfold added;rw [wD (by rw [iY hp,if_neg (by omega),if_pos rfl]) (by rw [iY hp,if_pos rfl]) (by omega),iY hp];split
 ·rfl
 ·split
  ·rfl
  ·rfl
theorem u7(hp:T[p]? =some pd):kN (grown T p pd) (added T p pd):=by
 have cH:p<T.length:=(lgeS hp).1;exact uF _ (by rw [iY hp,if_neg (by omega),if_pos rfl]) (by rw [iY hp,if_pos rfl]) (by omega)
theorem Shape.Pv(h:Shape T){i:Nat}{nd:Nd}(hi:T[i]? =some nd){c:Nat}(hc:c∈nd.ch):i<c/\c<T.length:=by
 rw [h.ch i nd hi]at hc;have:=im h.par hc
 rwa [eN]at this
theorem vN.added(h:vN T)(hp:T[p]? =some pd)(sG:pd.free<pd.hi):vN (added T p pd):=by
 have cH:p<T.length:=(lgeS hp).1;have fX:=E7 hp;have NI:=h.iv p pd hp;have i1:=NI.Yd;have i2:=NI.le;have i3:=NI.top;have lp:=h.loc p pd hp;have l1:=lp.Fv;have l2:=lp.BF;have hh1:1<=iL pd:=by unfold iL;omega
 have hh2:pd.free+iL pd<=pd.hi:=by unfold iL;omega
 have hold:∀(c:Nat) cd,c<T.length->(Go.Proofs.YtnboahlopghcjaaGreatDoor.Tr.added T p pd)[c]? =some cd->∃ed,T[c]? =some ed/\ed.lo=cd.lo/\ed.hi=cd.hi:=by
  intro c cd hc jm;rw [fX]at jm;by_cases e:c=p
  ·subst e
   rw [if_pos rfl]at jm;cases jm;exact⟨pd,hp,rfl,rfl⟩
  ·rw [if_neg e,if_neg (by omega)]at jm
   exact⟨cd,jm,rfl,rfl⟩
 have mu:∀cd,(Go.Proofs.YtnboahlopghcjaaGreatDoor.Tr.added T p pd)[T.length]? =some cd->cd=⟨p,[],pd.free,pd.free+iL pd-1,pd.free⟩:=by
  intro cd jm;rw [fX,if_neg (by omega),if_pos rfl]at jm;exact(Option.some.inj jm).symm
 have aC:∀(i:Nat) nd,T[i]? =some nd->Loc (Go.Proofs.YtnboahlopghcjaaGreatDoor.Tr.added T p pd) nd:=by
  intro i nd hi;have hl:=h.loc i nd hi;have hc:=fun c hc=>(h.toShape.Pv hi (c:=c) hc).2;exact {
   Fv:=hl.Fv
   BF:=hl.BF
   sub:=fun c cd nK jm=>by
    obtain⟨ed,h1,h2,h3⟩:=hold c cd (hc c nK) jm;have:=hl.sub c ed nK h1;omega
   ord:=fun c c' cd uU nK nU zm jm qi=>by
    obtain⟨ed,h1,h2,h3⟩:=hold c cd (hc c nK) jm;obtain⟨Pu,sH,uD,C7⟩:=hold c' uU (hc c' nU) qi;have:=hl.ord c c' ed Pu nK nU zm h1 sH;omega}
 have hs:=(u7 hp).shape (h.toShape.grown hp);refine {toShape:=hs,iv:=?_,loc:=?_,root:=?_}
 ·intro i nd hi
  rw [fX]at hi;by_cases e:i=p
  ·rw [if_pos e]at hi
   cases hi;exact⟨i1,i2,i3⟩
  ·rw [if_neg e]at hi
   by_cases e2:i=T.length
   ·rw [if_pos e2]at hi
    cases hi;exact⟨by simp only;omega,by simp only;omega,by simp only;omega⟩
   ·rw [if_neg e2]at hi
    exact h.iv i nd hi
 ·intro i nd hi
  rw [fX]at hi;by_cases e:i=p
  ·rw [if_pos e]at hi
   cases hi;have kp:=aC p pd hp;have hc:=fun c hc=>(h.toShape.Pv hp (c:=c) hc).2;exact {
    Fv:=by simp only;omega
    BF:=hh2
    sub:=fun c cd nK jm=>by
     simp only at nK;rcases List.mem_append.1 nK with nK|nK
     ·have:=kp.sub c cd nK jm
      simp only;omega
     ·simp at nK
      subst nK;have:=mu cd jm;subst this;simp only;omega
    ord:=fun c c' cd uU nK nU zm jm qi=>by
     simp only at nK nU;rcases List.mem_append.1 nK with nK|nK
     ·rcases List.mem_append.1 nU with nU|nU
      ·exact kp.ord c c' cd uU nK nU zm jm qi
      ·simp at nU
       subst nU;have:=mu uU qi;subst this;exact(kp.sub c cd nK jm).2
     ·simp at nK
      rcases List.mem_append.1 nU with nU|nU
      ·have:=hc c' nU
       omega
      ·simp at nU
       omega}
  ·rw [if_neg e]at hi
   by_cases e2:i=T.length
   ·rw [if_pos e2]at hi
    cases hi;exact⟨by simp only;omega,by simp only;omega,fun c cd hc=>by simp at hc,fun c c' cd uU hc=>by simp at hc⟩
   ·rw [if_neg e2]at hi
    exact aC i nd hi
 ·intro nd hi
  obtain⟨ed,h1,h2,h3⟩:=hold 0 nd h.toShape.pos hi;have:=h.root ed h1;omega
theorem vN.HV(h:vN T)(hp:T[p]? =some pd){m i:Nat}{T':List Nd}{q:List Nat}(hu:jD (bP (grown T p pd)) p m)
 (hO:mY (bP (grown T p pd)) (grown T p pd) m T' q i) (hq:q.length<=i):vN T':=by
 have cH:p<T.length:=(lgeS hp).1;have fX:=iY hp;have hS:=h.toShape.grown hp;have hP:=hS.par;have hold:∀(c:Nat) cd,c<T.length->(grown T p pd)[c]? =some cd->∃ed,T[c]? =some ed/\ed.lo=cd.lo/\ed.hi=cd.hi:=by
  intro c cd hc jm;rw [fX]at jm;by_cases e:c=p
  ·subst e
   rw [if_pos rfl]at jm;cases jm;exact⟨pd,hp,rfl,rfl⟩
  ·rw [if_neg e,if_neg (by omega)]at jm
   exact⟨cd,jm,rfl,rfl⟩
 have Qk:(bP (grown T p pd))[T.length]? =some (p:Int):=by
  rw [lN hp,List.getElem?_append_right (by rw [eN];exact Nat.le_refl _)];simp [eN]
 have eo:=mY.fin hS hO hq (fun y nd hy hn=>by
  rw [fX]at hy;have e:y≠p:=fun e=>hn (e▸hu);rw [if_neg e]at hy;have e2:y≠T.length:=fun e=>hn (e▸ .step Qk hu);rw [if_neg e2]at hy;refine⟨h.iv y nd hy,?_⟩;have hl:=h.loc y nd hy;have hc:=fun c hc=>(h.toShape.Pv hy (c:=c) hc).2;exact {
   Fv:=hl.Fv
   BF:=hl.BF
   sub:=fun c cd nK jm=>by
    obtain⟨ed,h1,h2,h3⟩:=hold c cd (hc c nK) jm;have:=hl.sub c ed nK h1;omega
   ord:=fun c c' cd uU nK nU zm jm qi=>by
    obtain⟨ed,h1,h2,h3⟩:=hold c cd (hc c nK) jm;obtain⟨Pu,sH,uD,C7⟩:=hold c' uU (hc c' nU) qi;have:=hl.ord c c' ed Pu nK nU zm h1 sH;omega})
 refine {toGood:=eo,root:=fun nd hi=>?_};obtain⟨gd,hgd,_⟩:=hO.np.back hi;obtain⟨ed,h1,h2,h3⟩:=hold 0 gd h.toShape.pos hgd;have hr:=h.root ed h1;by_cases hm:0∈q
 ·have:=(hO.oc 0 hm).le hP
  have Qp:m=0:=by omega
  subst Qp;have:=hO.top gd nd hgd hi;omega
 ·rw [hO.rest 0 hm,hgd]at hi
  cases hi;omega
end
section
variable{w:World}{S:Nat->Prop}{g:Nat}{T:List Nd}{d:Int}{K:Value->World->Prop}
theorem FM(h:om w S g T d)(hF:vN T){p:Nat}(hp:p<T.length)(hlen:T.length<=900000)(hd:0<=d/\d<=900000)
 (hK:∀w' S' T' d',om w' S' g T' d'->vN T'->bP T'=bP T++ [(p:Int)]->d<=d'/\d'<=d+1->Kept S w w'->(∀k,S' k->S k\/w.heap.size<=k)->K (.tuple #[.int .i64 T.length,.int .i64 0]) w'):
 bk prog fP.id #[.pointer (some ⟨g,0,none⟩),.int .i64 p] w K:=by
 obtain⟨pd,xo⟩:=fG hp;have NI:=hF.iv p pd xo;have i1:=NI.Yd;have i2:=NI.le;have i3:=NI.top;have lp:=hF.loc p pd xo;have l1:=lp.Fv;have l2:=lp.BF;have oR:pd.ch.length<=T.length:=by
  rw [hF.ch p pd xo];have:=yU (bP T) p
  rwa [eN]at this
 refine tD h xo (by omega) (by omega) (by omega) l2 i3 (fun sG w' S' h' k' f'=>?_) (fun ael w' S' h' k' f'=>?_)
 ·exact hK w' S' _ d h' (hF.added xo sG) (by rw [(u7 xo).bP,lN xo]) ⟨by omega,by omega⟩ k' f'
 ·have hS:=hF.toShape.grown xo
  have fX:=iY xo;have jT:=hS.par;refine DB h' hS (by rw [wC];omega) (by rw [wC];omega) ⟨hd.1,by omega⟩ (fun nd hi=>?_) (fun y nd hy hu=>?_) (fun w2 T2 m q i h2 hu hO hq k2=>⟨rfl,?_⟩)
  ·rw [fX]at hi
   by_cases e:0=p
   ·rw [if_pos e]at hi
    cases hi;exact hF.root pd (by rw [e];exact xo)
   ·rw [if_neg e,if_neg (by omega)]at hi
    exact hF.root nd hi
  ·have:=hu.le jT
   rw [fX]at hy;by_cases e:y=p
   ·rw [if_pos e]at hy
    cases hy;exact⟨i1,i2,i3⟩
   ·rw [if_neg e,if_neg (by omega)]at hy
    exact hF.iv y nd hy
  ·refine hK w2 S' T2 (d+1) h2 (hF.HV xo hu hO hq) (by rw [hO.np.bP,lN xo]) ⟨by omega,by omega⟩ ?_ f'
   exact k'.trans k2 (fun k hk hs=>by
    rcases f' k hs with h|h
    ·exact h
    ·omega)
end
def zs(l:List Int):List Value:=l.map fun x=>.int .i64 x
section
variable{w w':World}{S S':Nat->Prop}{h:Nat}{P:List Int}{b c:Nat}{K:Value->World->Prop}
end
def iB(P:List Int)(n i:Nat):List Nat:=(List.range i).filter fun j=>P[j]? ==some (n:Int)
section
variable{w w':World}{S S':Nat->Prop}{h:Nat}{P:List Int}{b c:Nat}{K:Value->World->Prop}
end
section
variable{w w':World}{S S':Nat->Prop}{g:Nat}{T:List Nd}{d:Int}{K:Value->World->Prop}
end
end Go.Proofs.YtnboahlopghcjaaGreatDoor.Tr
