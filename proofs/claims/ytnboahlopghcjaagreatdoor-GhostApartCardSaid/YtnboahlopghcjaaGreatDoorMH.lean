import Derived.Test.YtnboahlopghcjaaGreatDoorMA
import Derived.Test.YtnboahlopghcjaaGreatDoorMD
import Derived.Laws.OwnMore
import Derived.Test.YtnboahlopghcjaaGreatDoorMG
import Derived.Laws.Bits64b
open Go.IntKind (i64 u64)
set_option linter.unusedVariables false
namespace Go.Proofs.YtnboahlopghcjaaGreatDoor.Tr
open Go.Proofs.Tryz
open Go Go.bT Go.RowKit
structure Nd where
 parent:Int
 ch:List Nat
 lo:Int
 hi:Int
 free:Int
def iM(nd:Nd)(v:Value):List Value:= [.int .i64 nd.parent,v,.int .u64 nd.lo,.int .u64 nd.hi,.int .u64 nd.free]
def lv(L:List (Nd×Value)):List Value:=L.flatMap fun p=>iM p.1 p.2
def ints(l:List Nat):List Value:=l.map fun x:Nat=>.int .i64 (x:Int)
theorem pk(L:List (Nd×Value)):(lv L).length=L.length*5:=by
 induction L with
 |nil=>rfl
 |cons p L ih=>simp only [lv,List.flatMap_cons,List.length_append,List.length_cons]at*;rw [ih];simp [iM];omega
theorem Av{L:List (Nd×Value)}{i:Nat}{p:Nd×Value}(h:L[i]? =some p){j:Nat}(hj:j<5):(lv L)[i*5+j]? =(iM p.1 p.2)[j]? :=by
 induction L generalizing i with
 |nil=>simp at h
 |cons q L ih=>
  have hq:(iM q.1 q.2).length=5:=rfl;cases i with
  |zero=>
   simp at h;subst h;simp only [lv,List.flatMap_cons];rw [Nat.zero_mul,Nat.zero_add,List.getElem?_append_left (by omega)]
  |succ i=>
   simp at h;have:=ih h;simp only [lv,List.flatMap_cons]at*;rw [List.getElem?_append_right (by omega),hq,<-this]
   congr 1
   omega
theorem vp{L:List (Nd×Value)}{i:Nat}{p p':Nd×Value}(h:L[i]? =some p){j:Nat}(hj:j<5){v:Value}(hp:iM p'.1 p'.2=(iM p.1 p.2).set j v):
 (lv L).set (i*5+j) v=lv (L.set i p'):=by
 induction L generalizing i with
 |nil=>simp at h
 |cons q L ih=>
  have hq:(iM q.1 q.2).length=5:=rfl;cases i with
  |zero=>
   simp at h;subst h;simp only [lv,List.flatMap_cons,List.set_cons_zero];rw [Nat.zero_mul,Nat.zero_add,List.set_append_left _ _ (by omega),hp]
  |succ i=>
   simp at h;have:=ih h;simp only [lv,List.flatMap_cons,List.set_cons_succ]at*;rw [List.set_append_right _ _ (by omega),hq,<-this]
   congr 2
   omega
structure Sl(w:World)(S:Nat->Prop)(p:Nd×Value)(A:Option Addr)(m:Nat):Prop where
 val:p.2=.slice A p.1.ch.length m
 row:Row w 0 iO 1 A p.1.ch.length m (ints p.1.ch)
 jB:∀k,aW A=some k->S k
structure TV(w:World)(S:Nat->Prop)(g:Nat)(T:List Nd)(d:Int)(b c:Nat)(L:List (Nd×Value)):Prop where
 top:w.heap[g]? =some (.cells #[.slice (some ⟨b,0,none⟩) T.length c,.int .i64 d] mB (0,0))
 fst:L.map Prod.fst=T
 row:Row w 0 fU 5 (some ⟨b,0,none⟩) T.length c (lv L)
 ou:∀(i:Nat) (p:Nd×Value),L[i]? =some p->∃A m,Sl w S p A m
 apart:∀(i j:Nat) (p q:Nd×Value),L[i]? =some p->L[j]? =some q->i≠j->∀k,Value.ownBlock p.2=some k->Value.ownBlock q.2≠some k
 gL:S g
 fR:S b
def nE(w:World)(S:Nat->Prop)(g:Nat)(T:List Nd)(d:Int):Prop:=∃b c L,TV w S g T d b c L
section
variable{w w':World}{S S':Nat->Prop}{g:Nat}{T:List Nd}{d:Int}{b c:Nat}{L:List (Nd×Value)}
theorem TV.at_(h:TV w S g T d b c L){i:Nat}{nd:Nd}(hi:T[i]? =some nd):∃v,L[i]? =some (nd,v):=by
 rw [<-h.fst,List.getElem?_map]at hi;cases hL:L[i]? with
 |none=>simp [hL]at hi
 |some p=>
  rw [hL]at hi;simp at hi;exact⟨p.2,by rw [<-hi]⟩
theorem TV.nodes(h:TV w S g T d b c L):w.cell? ⟨g,0,none⟩=some (.slice (some ⟨b,0,none⟩) T.length c):=by rw [ay h.top];rfl
theorem TV.Eg(h:TV w S g T d b c L):w.cell? ⟨g,1,none⟩=some (.int .i64 d):=by rw [ay h.top];rfl
theorem TV.cell(h:TV w S g T d b c L){i:Nat}{p:Nd×Value}(hi:L[i]? =some p){j:Nat}{v:Value}(hj:j<5)(hv:(iM p.1 p.2)[j]? =some v):w.cell? ⟨b,i*5+j,none⟩=some v:=
 Row.cell h.row (by rw [Av hi hj,hv])
theorem TV.gb(h:TV w S g T d b c L):g≠b:=by
 rintro rfl;obtain⟨_,cur,hc⟩:=Row.bz h.row (k:=g) rfl;rw [h.top]at hc;injection hc with hc;injection hc with _ ht;exact absurd ht (by decide)
theorem Sl.ne{p:Nd×Value}{A:Option Addr}{m:Nat}(h:Sl w S p A m){k:Nat}{cs:Array Value}{t:TypeId}(hk:w.heap[k]? =some (.cells cs t (0,0)))(ht:t≠iO):aW A≠some k:=by
 intro e;obtain⟨_,cur,hc⟩:=Row.bz h.row e;rw [hk]at hc;injection hc with hc;injection hc with _ h2;exact ht h2
theorem TV.vz(h:TV w S g T d b c L):∃cur,w.heap[b]? =some (.cells cur fU (0,0)):=(Row.bz h.row rfl).2
theorem TV.az{S0:Nat->Prop}(h:TV w S g T d b c L)(hk:Kept S0 w w')(hn:∀k,S k->¬S0 k):TV w' S g T d b c L:= {
 top:=hk.heap h.top (hn g h.gL)
 fst:=h.fst
 row:=Row.az h.row hk (fun k e=>by cases e;exact hn b h.fR)
 ou:=fun i p hp=>let ⟨A,m,h1⟩:=h.ou i p hp;⟨A,m,h1.val,Row.az h1.row hk (fun k e=>hn k (h1.jB k e)),h1.jB⟩
 apart:=h.apart
 gL:=h.gL
 fR:=h.fR}
theorem nE.az{S0:Nat->Prop}(h:nE w S g T d)(hk:Kept S0 w w')(hn:∀k,S k->¬S0 k):nE w' S g T d:=
 let ⟨b,c,L,h⟩:=h;⟨b,c,L,h.az hk hn⟩
theorem nE.same(h:nE w S g T d)(hk:Kept Nil w w'):nE w' S g T d:=h.az hk fun _ _ h=>h
theorem TV.lt(h:TV w S g T d b c L):g<w.heap.size:=aO h.top
theorem TV.uu(h:TV w S g T d b c L){i:Nat}{nd nd':Nd}{v:Value}(hi:L[i]? =some (nd,v)){j:Nat}(hj:j<5){u:Value}
 (hc:iM nd' v=(iM nd v).set j u) (oH:nd'.ch=nd.ch):
 Wr w ⟨b,i*5+j,none⟩/\TV (w.setCell ⟨b,i*5+j,none⟩ u) S g (T.set i nd') d b c (L.set i (nd',v)):=by
 have dQ:i<L.length:=(lgeS hi).1;have cH:i*5+j<(lv L).length:=by rw [pk];omega
 refine⟨Row.wr h.row cH,?_⟩;have eI:=Row.set h.row cH u;rw [vp hi hj (p':=(nd',v)) hc]at eI;have hK:Kept (fun k=>k=b) w (w.setCell ⟨b,i*5+j,none⟩ u):=(Kept.refl (fun k=>k=b) w).setCell (p:=⟨b,i*5+j,none⟩) (fun _=>rfl) u;have fE:∀(k:Nat) (p:Nd×Value),(L.set i (nd',v))[k]? =some p->∃q,L[k]? =some q/\q.2=p.2/\q.1.ch=p.1.ch:=by
  intro k p hp;rw [List.getElem?_set]at hp;by_cases e:i=k
  ·subst e
   rw [if_pos rfl,if_pos dQ]at hp;cases hp;exact⟨_,hi,rfl,oH.symm⟩
  ·rw [if_neg e]at hp
   exact⟨p,hp,rfl,rfl⟩
 exact {
  top:=by rw [List.length_set];exact hK.heap h.top h.gb
  fst:=by rw [List.map_set,h.fst]
  row:=by rw [List.length_set];exact eI
  ou:=fun k p hp=>by
   obtain⟨q,hq,h1,h2⟩:=fE k p hp;obtain⟨A,m,hk⟩:=h.ou k q hq;obtain⟨cur,hb⟩:=h.vz;refine⟨A,m,by rw [<-h1,<-h2];exact hk.val,?_,hk.jB⟩;rw [<-h2];exact Row.az hk.row hK (fun k e e2=>hk.ne hb (by decide) (by rw [e,e2]))
  apart:=fun k l p q hp hq yh=>by
   obtain⟨p',Mg,h1,_⟩:=fE k p hp;obtain⟨q',z6,h2,_⟩:=fE l q hq;rw [<-h1,<-h2];exact h.apart k l p' q' Mg z6 yh
  gL:=h.gL
  fR:=h.fR}
end
theorem mN(b x y:Nat):((⟨b,0,none⟩:Addr).add x).add y=⟨b,x+y,none⟩:=by rw [a8,a8,Nat.zero_add]
theorem km(b x:Nat):(⟨b,0,none⟩:Addr).add x=⟨b,x,none⟩:=by rw [a8,Nat.zero_add]
section
variable{w:World}{S:Nat->Prop}{g:Nat}{T:List Nd}{d:Int}{b c:Nat}{L:List (Nd×Value)}
theorem TV.go(h:TV w S g T d b c L){k:Option Addr->Nat->Nat->Prop}(hk:k (some ⟨b,0,none⟩) T.length c):
 ∃A n m,w.cell? ((⟨g,0,none⟩:Addr).add 0)=some (.slice A n m)/\k A n m:=⟨_,_,_,by rw [km];exact h.nodes,hk⟩
theorem TV.goD(h:TV w S g T d b c L){k:Int->Prop}(hk:k d):∃t,w.cell? ((⟨g,0,none⟩:Addr).add 1)=some (.int .i64 t)/\k t:=
 ⟨_,by rw [km];exact h.Eg,hk⟩
theorem TV.JO(h:TV w S g T d b c L){i:Nat}{nd:Nd}{v:Value}(hi:L[i]? =some (nd,v)){k:Int->Prop}(hk:k nd.parent):
 ∃t,w.cell? (((⟨b,0,none⟩:Addr).add (i*5)).add 0)=some (.int .i64 t)/\k t:=⟨_,by rw [mN];exact h.cell hi (by omega) rfl,hk⟩
theorem TV.Yq(h:TV w S g T d b c L){i:Nat}{nd:Nd}{v:Value}(hi:L[i]? =some (nd,v)){A:Option Addr}{m:Nat}(hv:v=.slice A nd.ch.length m){k:Option Addr->Nat->Nat->Prop}(hk:k A nd.ch.length m):
 ∃A n m,w.cell? (((⟨b,0,none⟩:Addr).add (i*5)).add 1)=some (.slice A n m)/\k A n m:=⟨_,_,_,by rw [mN];exact h.cell hi (by omega) (by rw [hv];rfl),hk⟩
theorem TV.vg(h:TV w S g T d b c L){i:Nat}{nd:Nd}{v:Value}(hi:L[i]? =some (nd,v)){k:Int->Prop}(hk:k nd.lo):
 ∃t,w.cell? (((⟨b,0,none⟩:Addr).add (i*5)).add 2)=some (.int .u64 t)/\k t:=⟨_,by rw [mN];exact h.cell hi (by omega) rfl,hk⟩
theorem TV.Ap(h:TV w S g T d b c L){i:Nat}{nd:Nd}{v:Value}(hi:L[i]? =some (nd,v)){k:Int->Prop}(hk:k nd.hi):
 ∃t,w.cell? (((⟨b,0,none⟩:Addr).add (i*5)).add 3)=some (.int .u64 t)/\k t:=⟨_,by rw [mN];exact h.cell hi (by omega) rfl,hk⟩
theorem TV.yl(h:TV w S g T d b c L){i:Nat}{nd:Nd}{v:Value}(hi:L[i]? =some (nd,v)){k:Int->Prop}(hk:k nd.free):
 ∃t,w.cell? (((⟨b,0,none⟩:Addr).add (i*5)).add 4)=some (.int .u64 t)/\k t:=⟨_,by rw [mN];exact h.cell hi (by omega) rfl,hk⟩
theorem TV.kept{w':World}(h:TV w S g T d b c L)(hk:Kept Nil w w'):TV w' S g T d b c L:=h.az hk fun _ _ h=>h
end
section
variable{w:World}{S:Nat->Prop}{g:Nat}{T:List Nd}{d:Int}{K:Value->World->Prop}
theorem Hs(h:nE w S g T d)(hK:K (.int .i64 T.length) w):bj prog gS.id #[.pointer (some ⟨g,0,none⟩)] w K:=by
 obtain⟨b,c,L,h⟩:=h;exact gS.of (Split.no rfl (h.go hK))
theorem xG(h:nE w S g T d)(n:Int)(hK:K (.bool (decide (0<=n/\n<T.length))) w):
 bj prog iu.id #[.pointer (some ⟨g,0,none⟩),.int .i64 n] w K:=by
 obtain⟨b,c,L,h⟩:=h;refine iu.of (Split.yes rfl (Split.dec (fun h0=>h.go ?_) (fun h0=>?_)))
 ·rwa [show decide (0<=n/\n<(T.length:Int))=decide (n<(T.length:Int))from by simp [show(0:Int)<=n from h0]]at hK
 ·rwa [decide_eq_false (fun e:0<=n/\n<(T.length:Int)=>h0 e.1)]at hK
theorem Hr(h:nE w S g T d)(hT:0<T.length)(n:Int)(hK:K (.int .i64 (if 0<=n/\n<T.length then 0 else 6)) w):
 bj prog gu.id #[.pointer (some ⟨g,0,none⟩),.int .i64 n] w K:=by
 have h0:=h;obtain⟨b,c,L,h⟩:=h;refine gu.of (Split.no rfl (h.go (Split.no (beq_eq_false_iff_ne.2 (by omega)) (xG h0 n ⟨_,rfl,?_⟩))));by_cases hn:0<=n/\n<(T.length:Int)
 ·rw [if_pos hn]at hK
  exact Split.no (by simp [hn]) hK
 ·rw [if_neg hn]at hK
  exact Split.yes (by simp only [decide_eq_false hn];rfl) hK
theorem sZ(h:nE w S g T d){n:Nat}(hn:n<T.length)(hK:K (.int .i64 0) w):
 bj prog gu.id #[.pointer (some ⟨g,0,none⟩),.int .i64 n] w K:=Hr h (by omega) n (by rw [if_pos ⟨by omega,by omega⟩];exact hK)
theorem EJ(h:nE w S g T d){n:Nat}{nd:Nd}(hn:T[n]? =some nd)(hK:∀w',Kept Nil w w'->K (.int .u64 (u64.wrap (nd.hi-nd.free))) w'):
 bj prog fO.id #[.pointer (some ⟨g,0,none⟩),.int .i64 n] w K:=by
 obtain⟨b,c,L,h⟩:=h;have cH:n<T.length:=(lgeS hn).1;obtain⟨v,hv⟩:=h.at_ hn;refine fO.of ?_;unfold fO.W;intro w1;have k1:Kept Nil w w1:=(Kept.refl Nil w).drew;have h1:=h.kept k1;have hb:0<=(n:Int)/\(n:Int)<(T.length:Int):=⟨by omega,by omega⟩;exact h1.go ⟨hb,h1.Ap hv (h1.go ⟨hb,h1.yl hv (hK w1 k1)⟩)⟩
theorem yY(h:nE w S g T d){n:Nat}{nd:Nd}(hn:T[n]? =some nd)(h0:0<n)(hK:K (.tuple #[.int .i64 nd.parent,.int .i64 0]) w):
 bj prog fH.id #[.pointer (some ⟨g,0,none⟩),.int .i64 n] w K:=by
 have cH:n<T.length:=(lgeS hn).1;refine fH.of (sZ h cH ⟨_,rfl,Split.yes rfl (Split.no (beq_eq_false_iff_ne.2 (by omega)) (Split.no rfl ?_))⟩);obtain⟨b,c,L,h⟩:=h;obtain⟨v,hv⟩:=h.at_ hn;exact h.go ⟨⟨by omega,by omega⟩,h.JO hv hK⟩
theorem HA:yA prog im iO 1 8:=⟨by kernel_rfl,by kernel_rfl⟩
theorem ur:yA prog fV fU 5 56:=⟨by kernel_rfl,by kernel_rfl⟩
theorem Gr{A:Option Addr}{n c B:Nat}{l:List Nat}(h:Row w B iO 1 A n c (ints l))(hl:n*8<=140737488355328)(hn:n<=maxLen)
 (hK:∀A' c' w',Row w' w.heap.size iO 1 A' n c' (ints l)->Kept Nil w w'->K (.slice A' n c') w'):
 bj prog dX.id #[.slice A n c] w K:=by
 refine dX.of ?_;have hints:∀u∈ints l,u.oneCell'=true:=by
  intro u hu;simp only [ints,List.mem_map]at hu;obtain⟨x,_,rfl⟩:=hu;rfl
 rcases Row.own h with⟨rfl,rfl,rfl,hx⟩|⟨b,cur,rfl,hB,hg,Ct,nX,mK,x9⟩
 ·refine Split.yes rfl (hK none 0 w ?_ (Kept.refl _ w))
  rw [hx];exact Row.nil w _ _ _
 ·refine Split.no rfl ?_
  intro w2;have lg:Kept Nil w w2:=(Kept.refl Nil w).alloc _;have qG:Row w2 w.heap.size iO 1 (some ⟨w.heap.size,0,none⟩) 0 0 []:=Row.made (aH w _) (Nat.le_refl _) rfl (Nat.zero_le _);have h2:=Row.az h lg (fun _ _ h=>h);obtain⟨A',c',w',hr,eI,hgr,Ai⟩:=dS (P:=prog) (t:=im) (ty:=im) (bytes:=8) HA qG (a:=⟨b,0,none⟩) (m:=n) (cx:=c) (news:=ints l)
   h2.len (Row.cells h2) hints (by omega) (by omega) (by have:=lg.size;omega)
  simp only [Nat.zero_add,List.nil_append]at hr eI;have Bk:Kept Nil w w':=lg.grown hgr (fun k hk cH=>by cases hk;exact absurd cH (Nat.lt_irrefl _));exact⟨A',n,c',w',hr,hK A' c' w' eI Bk⟩
end
theorem fL{x:Int}(h0:0<=x)(h1:x<18446744073709551616):u64.wrap x=x:=by
 simp only [IntKind.wrap,IntKind.bits,IntKind.signed];simp;omega
theorem gZ{x:Int}(h0: -9223372036854775808<=x)(h1:x<9223372036854775808):i64.wrap x=x:=by
 simp only [IntKind.wrap,IntKind.bits,IntKind.signed];simp;omega
def vf(T:List Nd)(n p:Nat)(nd pd:Nd)(many:Int):List Nd:=
 (T.set n {nd with lo:=pd.free,hi:=pd.free+many-1,free:=pd.free}).set p {pd with free:=pd.free+many}
section
variable{w:World}{S:Nat->Prop}{g:Nat}{T:List Nd}{d:Int}{K:Value->World->Prop}
theorem iC{α:Type}{L:List α}{i:Nat}{x y:α}(h:L[i]? =some x):(L.set i y)[i]? =some y:=by
 rw [List.getElem?_set_self (lgeS h).1]
theorem nZ{α:Type}{L:List α}{i j:Nat}{x y:α}(h:L[j]? =some x)(fD:i≠j):(L.set i y)[j]? =some x:=by
 rw [List.getElem?_set_ne fD];exact h
theorem uh{b c:Nat}{L:List (Nd×Value)}(h:TV w S g T d b c L){n p:Nat}{nd pd:Nd}{many:Int}(hn:T[n]? =some nd)(hp:T[p]? =some pd)(S8:nd.parent=p)(fD:n≠p)
 (hf:0<=pd.free) (hm:1<=many) (hfm:pd.free+many<18446744073709551616)
 (hK:∀w' L',TV w' S g (vf T n p nd pd many) d b c L'->Kept (fun k=>k=b) w w'->K (.tuple #[]) w'):
 bj prog fP.id #[.pointer (some ⟨g,0,none⟩),.int .i64 n,.int .u64 many] w K:=by
 have wZ:n<T.length:=(lgeS hn).1;have qk:p<T.length:=(lgeS hp).1;obtain⟨v,hv⟩:=h.at_ hn;obtain⟨u,hu⟩:=h.at_ hp;have ZP:0<=(n:Int)/\(n:Int)<(T.length:Int):=⟨by omega,by omega⟩;have OM:0<=nd.parent/\nd.parent<(T.length:Int):=by rw [S8];exact⟨by omega,by omega⟩
 refine fP.of (h.go ⟨ZP,Is.mk rfl ?_⟩);intro w7;have k7:Kept (fun k=>k=b) w w7:=(Kept.refl _ w).drew;have h7:TV w7 S g T d b c L:=h.kept (Kept.refl Nil w).drew;refine h7.go (h7.JO hv ⟨OM,Is.mk rfl ?_⟩);rw [S8];refine h7.yl hu ?_;obtain⟨wr1,Ed⟩:=h7.uu hv (j:=2) (by omega) (u:=.int .u64 pd.free) (nd':= {nd with lo:=pd.free}) rfl rfl;have kS:∀ {w w':World},Kept (fun k=>k=b) w w'->∀(j:Nat) (u:Value),Kept (fun k=>k=b) w (w'.setCell ⟨b,j,none⟩ u):=fun k j u=>k.setCell (fun _=>rfl) u;have v1:(L.set n ({nd with lo:=pd.free},v))[n]? =some ({nd with lo:=pd.free},v):=iC hv;refine⟨by rw [mN];exact wr1,?_⟩;intro lh;have e13:lh=w7.setCell ⟨b,n*5+2,none⟩ (.int .u64 pd.free):=by simp only [lh,mN,Int.toNat_natCast]
 have tI:Kept (fun k=>k=b) w lh:=by rw [e13];exact kS k7 _ _
 rw [<-e13]at Ed;clear_value lh;refine Ed.vg v1 ?_;obtain⟨wr2,JM⟩:=Ed.uu v1 (j:=3) (by omega) (u:=.int .u64 (u64.wrap (u64.wrap (pd.free+many)-1))) (nd':= {nd with lo:=pd.free,hi:=pd.free+many-1}) (by rw [fL (x:=pd.free+many) (by omega) (by omega),fL (by omega) (by omega)];rfl) rfl;refine⟨by rw [mN];exact wr2,?_⟩;intro mQ;have e15:mQ=lh.setCell ⟨b,n*5+3,none⟩ (.int .u64 (u64.wrap (u64.wrap (pd.free+many)-1))):=by simp only [mQ,mN,Int.toNat_natCast]
 have tq:Kept (fun k=>k=b) w mQ:=by rw [e15];exact kS tI _ _
 rw [<-e15]at JM;clear_value mQ;rw [List.set_set,List.set_set]at JM;have v2:(L.set n ({nd with lo:=pd.free,hi:=pd.free+many-1},v))[n]? =some ({nd with lo:=pd.free,hi:=pd.free+many-1},v):=iC hv;refine JM.vg v2 ?_;obtain⟨wr3,Z0⟩:=JM.uu v2 (j:=4) (by omega) (u:=.int .u64 pd.free) (nd':= {nd with lo:=pd.free,hi:=pd.free+many-1,free:=pd.free}) rfl rfl;refine⟨by rw [mN];exact wr3,?_⟩;intro wz;have e17:wz=mQ.setCell ⟨b,n*5+4,none⟩ (.int .u64 pd.free):=by simp only [wz,mN,Int.toNat_natCast]
 have IA:Kept (fun k=>k=b) w wz:=by rw [e17];exact kS tq _ _
 rw [<-e17]at Z0;clear_value wz;rw [List.set_set,List.set_set]at Z0;have u3:(L.set n ({nd with lo:=pd.free,hi:=pd.free+many-1,free:=pd.free},v))[p]? =some (pd,u):=nZ hu fD;refine Z0.yl u3 ?_;obtain⟨wr4,h19⟩:=Z0.uu u3 (j:=4) (by omega) (u:=.int .u64 (u64.wrap (pd.free+many))) (nd':= {pd with free:=pd.free+many}) (by rw [fL (by omega) (by omega)];rfl) rfl;refine⟨by rw [mN];exact wr4,?_⟩;intro mP;have e19:mP=wz.setCell ⟨b,p*5+4,none⟩ (.int .u64 (u64.wrap (pd.free+many))):=by simp only [mP,mN,Int.toNat_natCast]
 exact hK mP _ (by rw [e19];exact h19) (by rw [e19];exact kS IA _ _)
theorem EK(h:nE w S g T d){n p:Nat}{nd pd:Nd}{many:Int}(hn:T[n]? =some nd)(hp:T[p]? =some pd)(S8:nd.parent=p)(fD:n≠p)
 (hf:0<=pd.free) (hm:1<=many) (hfm:pd.free+many<18446744073709551616)
 (hK:∀w',nE w' S g (vf T n p nd pd many) d->Kept S w w'->K (.tuple #[]) w'):
 bj prog fP.id #[.pointer (some ⟨g,0,none⟩),.int .i64 n,.int .u64 many] w K:=by
 obtain⟨b,c,L,h⟩:=h;exact uh h hn hp S8 fD hf hm hfm fun w' L' h' k'=>hK w' ⟨b,c,L',h'⟩ (k'.mono fun k _ e=>by rw [e];exact h.fR)
end
section
variable{w:World}{S:Nat->Prop}{g:Nat}{T:List Nd}{d:Int}{b c:Nat}{L:List (Nd×Value)}
theorem Ax(L M:List (Nd×Value)):lv (L++M)=lv L++lv M:=by simp [lv]
theorem TV.JN(h:TV w S g T d b c L)(la:T.length<=1000000)(p:Int){w10:World}
 (e10:w10=w.alloc (.cells #[.int .i64 p,.slice none 0 0,.int .u64 0,.int .u64 0,.int .u64 0] fU)):
 ∃A c' mq,(Builtin.append_ #[fV,fV] fV #[.slice (some ⟨b,0,none⟩) T.length c,.slice (some ⟨w.heap.size,0,none⟩) 1 1]).run prog w10=.ok (.slice A (T.length+1) c') mq/\
  Wr mq ⟨g,0,none⟩/\∃b' S' L',TV (mq.setCell ⟨g,0,none⟩ (.slice A (T.length+1) c')) S' g (T++ [⟨p,[],0,0,0⟩]) d b' c' L'/\(∀(i:Nat) q,L[i]? =some q->L'[i]? =some q)/\
   Kept S w (mq.setCell ⟨g,0,none⟩ (.slice A (T.length+1) c'))/\(∀k,S k->S' k)/\(∀k,S' k->S k\/w.heap.size<=k):=by
 subst e10;generalize QC:w.alloc (.cells #[.int .i64 p,.slice none 0 0,.int .u64 0,.int .u64 0,.int .u64 0] fU)=w10;have mI:w10.heap[w.heap.size]? =some (.cells #[.int .i64 p,.slice none 0 0,.int .u64 0,.int .u64 0,.int .u64 0] fU (0,0)):=by rw [<-QC];exact aH w _
 have me:Kept Nil w w10:=by rw [<-QC];exact(Kept.refl Nil w).alloc _
 have L8:w10.heap.size=w.heap.size+1:=by rw [<-QC];simp
 have vH:=h.kept me;obtain⟨A,c',mq,hr,eI,hg,Ai⟩:=dS (P:=prog) (t:=fV) (ty:=fV) ur vH.row (a:=⟨w.heap.size,0,none⟩) (m:=1) (cx:=1)
  (news:=iM ⟨p,[],0,0,0⟩ (.slice none 0 0)) rfl (fun j u hj=>by rw [km,ay mI];simpa [iM]using hj) (by intro u hu;simp [iM]at hu;rcases hu with rfl|rfl|rfl|rfl|rfl<;>rfl)
  (by omega) (by unfold maxLen;omega) (Nat.zero_le _)
 obtain⟨b',rfl⟩:=Row.some eI (by omega);have kb:Kept (fun k=>k=b) w10 mq:=(Kept.refl _ w10).grown hg (fun k hk _=>by cases hk;rfl);have gJ:mq.heap[g]? =some (.cells #[.slice (some ⟨b,0,none⟩) T.length c,.int .i64 d] mB (0,0)):=kb.heap vH.top h.gb;refine⟨_,c',mq,hr,dJ gJ (show 0<2 by omega),?_⟩;generalize Vc:mq.setCell ⟨g,0,none⟩ (.slice (some ⟨b',0,none⟩) (T.length+1) c')=wf;have kg:Kept (fun k=>k=g) mq wf:=by rw [<-Vc];exact(Kept.refl (fun k=>k=g) mq).setCell (p:=⟨g,0,none⟩) (fun _=>rfl) _
 have v7:b'=b\/w10.heap.size<=b':=by
  rcases Ai b' rfl with h|h
  ·left;cases h;rfl
  ·exact .inr h
 have aee:b'≠g:=by
  rintro rfl;obtain⟨_,cur,hc⟩:=Row.bz eI (k:=b') rfl;rw [gJ]at hc;injection hc with hc;injection hc with _ ht;exact absurd ht (by decide)
 have F6:∀(i:Nat) (q:Nd×Value),L[i]? =some q->∃A m,Sl wf S q A m:=by
  intro i q hq;obtain⟨A,m,hk⟩:=vH.ou i q hq;obtain⟨cur,KI⟩:=vH.vz;have r1:=Row.az hk.row kb (fun k e e2=>hk.ne KI (by decide) (by rw [e,e2]));have r2:=Row.az r1 kg (fun k e e2=>hk.ne vH.top (by decide) (by rw [e,e2]));exact⟨A,m,hk.val,r2,hk.jB⟩
 refine⟨b',fun k=>S k\/k=b',L++ [(⟨p,[],0,0,0⟩,.slice none 0 0)],?_,fun i q hq=>?_,?_,fun k hk=>.inl hk,?_⟩
 ·exact {
   top:=by
    have:=cV gJ 0 (.slice (some ⟨b',0,none⟩) (T.length+1) c');rw [Vc]at this;simpa using this
   fst:=by simp [h.fst]
   row:=by
    rw [Ax,List.length_append];have:=Row.az eI kg (fun k e e2=>aee (by cases e;exact e2));simpa [lv]using this
   ou:=fun i q hq=>by
    rw [List.getElem?_append]at hq;split at hq
    ·obtain⟨A,m,hk⟩:=F6 i q hq
     exact⟨A,m,hk.val,hk.row,fun k e=>.inl (hk.jB k e)⟩
    ·rename_i cH
     have:i-L.length=0:=by
      rcases Nat.eq_zero_or_pos (i-L.length)with h|h
      ·exact h
      ·rw [List.getElem?_eq_none (by simp;omega)]at hq;cases hq
     rw [this]at hq;simp at hq;subst hq;exact⟨none,0,rfl,Row.nil _ _ _ _,fun k e=>by cases e⟩
   apart:=fun i j q q' hq z6 rI k hk ml=>by
    rw [List.getElem?_append]at hq z6;have last:∀(x:Nat) (r:Nd×Value),[((⟨p,[],0,0,0⟩:Nd),Value.slice none 0 0)][x]? =some r->r.2=.slice none 0 0:=by
     intro x r hr;cases x with
     |zero=>simp at hr;subst hr;rfl
     |succ x=>simp at hr
    split at hq<;>split at z6
    ·exact h.apart i j q q' hq z6 rI k hk ml
    ·rw [last _ _ z6]at ml;cases ml
    ·rw [last _ _ hq]at hk;cases hk
    ·rw [last _ _ z6]at ml;cases ml
   gL:=.inl h.gL
   fR:=.inr rfl}
 ·rw [List.getElem?_append_left (lgeS hq).1];exact hq
 ·have wW:Kept S w mq:=(me.mono (S':=S) (fun _ _ h=>h.elim)).trans kb (fun k _ e=>by rw [e];exact h.fR)
  exact wW.trans kg (fun k _ e=>by rw [e];exact h.gL)
 ·rintro k (hk|rfl)
  ·exact .inl hk
  ·rcases v7 with rfl|v7
   ·exact .inl h.fR
   ·right;omega
theorem TV.ML(h:TV w S g T d b c L){p:Nat}{nd:Nd}{v:Value}(hp:L[p]? =some (nd,v)){A:Option Addr}{m:Nat}(hk:Sl w S (nd,v) A m)(la:nd.ch.length<=1000000)(n:Nat){w22:World}
 (e22:w22=w.alloc (.cells #[.int .i64 n] iO)):
 ∃A' c' lJ,(Builtin.append_ #[im,im] im #[.slice A nd.ch.length m,.slice (some ⟨w.heap.size,0,none⟩) 1 1]).run prog w22=.ok (.slice A' (nd.ch.length+1) c') lJ/\
  lJ.cell? ⟨g,0,none⟩=some (.slice (some ⟨b,0,none⟩) T.length c)/\Wr lJ ⟨b,p*5+1,none⟩/\
  ∃S' L',TV (lJ.setCell ⟨b,p*5+1,none⟩ (.slice A' (nd.ch.length+1) c')) S' g (T.set p {nd with ch:=nd.ch++ [n]}) d b c L'/\
   Kept S w (lJ.setCell ⟨b,p*5+1,none⟩ (.slice A' (nd.ch.length+1) c'))/\(∀k,S k->S' k)/\(∀k,S' k->S k\/w.heap.size<=k):=by
 subst e22;generalize QB:w.alloc (.cells #[.int .i64 n] iO)=w22;have mI:w22.heap[w.heap.size]? =some (.cells #[.int .i64 n] iO (0,0)):=by rw [<-QB];exact aH w _
 have UU:Kept Nil w w22:=by rw [<-QB];exact(Kept.refl Nil w).alloc _
 have akL:w22.heap.size=w.heap.size+1:=by rw [<-QB];simp
 have CA:=h.kept UU;have QN:=Row.az hk.row UU (fun _ _ h=>h);have qk:p<L.length:=(lgeS hp).1;obtain⟨A',c',lJ,hr,eI,hg,Ai⟩:=dS (P:=prog) (t:=im) (ty:=im) HA QN (a:=⟨w.heap.size,0,none⟩) (m:=1) (cx:=1)
  (news:=ints [n]) rfl (fun j u hj=>by rw [km,ay mI];simpa [ints]using hj) (by intro u hu;simp [ints]at hu;subst hu;rfl)
  (by simp only;omega) (by unfold maxLen;simp only;omega) (Nat.zero_le _)
 obtain⟨cur,KI⟩:=CA.vz;obtain⟨am0,hb0⟩:=h.vz;have OD:aW A≠some b:=hk.ne hb0 (by decide);have hkg:aW A≠some g:=hk.ne h.top (by decide);have kA:Kept (fun k=>aW A=some k) w22 lJ:=(Kept.refl _ w22).grown hg (fun k hk _=>hk);have JL:Row lJ 0 fU 5 (some ⟨b,0,none⟩) T.length c (lv L):=Row.az CA.row kA (fun k e e2=>OD (by rw [e2,<-e];rfl));have JK:=kA.heap CA.top (fun e=>hkg e);have cH:p*5+1<(lv L).length:=by rw [pk];omega
 refine⟨A',c',lJ,hr,by rw [ay JK];rfl,Row.wr JL cH,?_⟩;generalize Vc:lJ.setCell ⟨b,p*5+1,none⟩ (.slice A' (nd.ch.length+1) c')=wf;have kB:Kept (fun k=>k=b) lJ wf:=by rw [<-Vc];exact(Kept.refl (fun k=>k=b) lJ).setCell (p:=⟨b,p*5+1,none⟩) (fun _=>rfl) _
 have aeL:aW A'≠some b:=by
  intro e;obtain⟨_,YA,hc⟩:=Row.bz eI e;have:=kA.heap KI OD;rw [this]at hc;injection hc with hc;injection hc with _ ht;exact absurd ht (by decide)
 have pY:∀(A:Option Addr) n m,Value.ownBlock (.slice A n m)=aW A:=by intro A n m;cases A<;>rfl
 have fE:∀(i:Nat) (q:Nd×Value),(L.set p ({nd with ch:=nd.ch++ [n]},.slice A' (nd.ch.length+1) c'))[i]? =some q->(i=p/\q=({nd with ch:=nd.ch++ [n]},.slice A' (nd.ch.length+1) c'))\/(i≠p/\L[i]? =some q):=by
  intro i q hq;by_cases e:p=i
  ·subst e
   rw [List.getElem?_set_self qk]at hq;cases hq;exact .inl ⟨rfl,rfl⟩
  ·rw [List.getElem?_set_ne e]at hq
   exact .inr ⟨fun h=>e h.symm,hq⟩
 have Ow:∀k,aW A'=some k->∀(i:Nat) (q:Nd×Value),i≠p->L[i]? =some q->Value.ownBlock q.2≠some k:=by
  intro k ml i q hi hq hqk;rcases Ai k ml with e|e
  ·exact h.apart p i _ _ hp hq (fun e=>hi e.symm) k (by rw [hk.val,pY];exact e) hqk
  ·obtain⟨A2,m2,lg⟩:=h.ou i q hq
   rw [lg.val,pY]at hqk;obtain⟨_,ae2,OJ⟩:=Row.bz lg.row hqk;have:=aO OJ;omega
 refine⟨fun k=>S k\/aW A'=some k,L.set p ({nd with ch:=nd.ch++ [n]},.slice A' (nd.ch.length+1) c'),?_,?_,fun k hk=>.inl hk,?_⟩
 ·exact {
   top:=by rw [List.length_set];exact kB.heap JK h.gb
   fst:=by rw [List.map_set,h.fst]
   row:=by
    rw [List.length_set];have:=Row.set JL cH (.slice A' (nd.ch.length+1) c');rw [Vc,vp hp (j:=1) (by omega) (p':=({nd with ch:=nd.ch++ [n]},.slice A' (nd.ch.length+1) c')) rfl]at this;exact this
   ou:=fun i q hq=>by
    rcases fE i q hq with⟨rfl,rfl⟩|⟨hi,hq⟩
    ·refine⟨A',c',by simp,?_,fun k e=>.inr e⟩
     have:=Row.az eI kB (fun k e e2=>aeL (by rw [e,e2]));simpa [ints]using this
    ·obtain⟨A2,m2,lg⟩:=CA.ou i q hq
     have r1:=Row.az lg.row kA (fun k e e2=>h.apart p i _ _ hp hq (fun e=>hi e.symm) k (by rw [hk.val,pY];exact e2) (by rw [lg.val,pY];exact e));have r2:=Row.az r1 kB (fun k e e2=>lg.ne KI (by decide) (by rw [e,e2]));exact⟨A2,m2,lg.val,r2,fun k e=>.inl (lg.jB k e)⟩
   apart:=fun i j q q' hq z6 rI k Bl lg=>by
    rcases fE i q hq with⟨e1,e2⟩|⟨hi,Oo⟩<;>rcases fE j q' z6 with⟨e3,e4⟩|⟨hj,I7⟩
    ·exact rI (e1.trans e3.symm)
    ·rw [e2,pY]at Bl;exact Ow k Bl j q' hj I7 lg
    ·rw [e4,pY]at lg;exact Ow k lg i q hi Oo Bl
    ·exact h.apart i j q q' Oo I7 rI k Bl lg
   gL:=.inl h.gL
   fR:=.inl h.fR}
 ·have qh:Kept S w lJ:=(UU.mono (S':=S) (fun _ _ h=>h.elim)).trans kA (fun k _ e=>hk.jB k e)
  exact qh.trans kB (fun k _ e=>by rw [e];exact h.fR)
 ·rintro k (ml|ml)
  ·exact .inl ml
  ·rcases Ai k ml with e|e
   ·exact .inl (hk.jB k e)
   ·right;omega
end
def grown(T:List Nd)(p:Nat)(pd:Nd):List Nd:=(T++ [(⟨p,[],0,0,0⟩:Nd)]).set p {pd with ch:=pd.ch++ [T.length]}
def iW(pd:Nd):Int:=(pd.hi-pd.free+1)/2
def added(T:List Nd)(p:Nat)(pd:Nd):List Nd:=vf (grown T p pd) T.length p ⟨p,[],0,0,0⟩ {pd with ch:=pd.ch++ [T.length]} (iW pd)
section
variable{w:World}{S:Nat->Prop}{g:Nat}{T:List Nd}{d:Int}{K:Value->World->Prop}
theorem ui(h:nE w S g T d){p:Nat}{pd:Nd}(hp:T[p]? =some pd)(la:T.length<=1000000)(oH:pd.ch.length<=1000000)
 (hf:0<=pd.free) (hfh:pd.free<=pd.hi) (hh:pd.hi<=4611686018427387904)
 (hK1:pd.free<pd.hi->∀w' S',nE w' S' g (added T p pd) d->Kept S w w'->(∀k,S' k->S k\/w.heap.size<=k)->K (.tuple #[.int .i64 T.length,.int .i64 0]) w')
 (hK2:pd.free=pd.hi->∀w' S',nE w' S' g (grown T p pd) d->Kept S w w'->(∀k,S' k->S k\/w.heap.size<=k)->
   bj prog aw.id #[.pointer (some ⟨g,0,none⟩),.int .i64 p] w' fun v lK=>v=.tuple #[]/\K (.tuple #[.int .i64 T.length,.int .i64 0]) lK):
 bj prog gv.id #[.pointer (some ⟨g,0,none⟩),.int .i64 p] w K:=by
 have cH:p<T.length:=(lgeS hp).1;refine gv.of (sZ h cH ⟨_,rfl,Split.no rfl ?_⟩);obtain⟨b,c,L,h⟩:=h;obtain⟨v,hv⟩:=h.at_ hp;refine h.go (h.go ⟨rfl,?_⟩);intro w10;obtain⟨A1,c1,mq,lf,wr1,b1,S1,L1,h14,hL1,Kz,hS1,X4⟩:=h.JN la (p:Int) (w10:=w10) rfl;refine⟨A1,_,c1,mq,lf,by rw [km];exact wr1,?_⟩;intro ir;have e14:ir=mq.setCell ⟨g,0,none⟩ (.slice A1 (T.length+1) c1):=by simp only [ir,km]
 rw [<-e14]at h14 Kz;clear_value ir;intro mQ;have tq:Kept Nil ir mQ:=(Kept.refl Nil ir).drew;have JM:=h14.kept tq;have KC:=hL1 _ _ hv;have hlen:(T++ [(⟨p,[],0,0,0⟩:Nd)]).length=T.length+1:=by simp
 have OQ:0<=(p:Int)/\(p:Int)<((T++ [(⟨p,[],0,0,0⟩:Nd)]).length:Int):=by rw [hlen];exact⟨by omega,by omega⟩
 obtain⟨A2,m2,hk⟩:=JM.ou _ _ KC;refine JM.go (JM.go ⟨OQ,JM.Yq KC hk.val ?_⟩);intro w22;have UU:Kept Nil mQ w22:=(Kept.refl Nil mQ).alloc _;have CA:=JM.kept UU;obtain⟨A3,c3,lJ,DW,Wi,wr3,S3,L3,ZZ,FK,hS3,aep⟩:=JM.ML KC hk oH T.length (w22:=w22) rfl;have Af:=CA.cell KC (j:=1) (by omega) (v:=v) rfl;have hvv:v=.slice A2 pd.ch.length m2:=hk.val;rw [hvv]at Af;refine⟨by rw [mN];exact Af,by rw [km];exact CA.nodes,by rw [km];exact CA.nodes,A3,_,c3,lJ,DW,by rw [km];exact Wi,OQ,by rw [mN];exact wr3,?_⟩;intro qp;have e26:qp=lJ.setCell ⟨b1,p*5+1,none⟩ (.slice A3 (pd.ch.length+1) c3):=by simp only [qp,mN,Int.toNat_natCast]
 rw [<-e26]at ZZ FK;clear_value qp;have L6:(T++ [(⟨p,[],0,0,0⟩:Nd)]).set p {pd with ch:=pd.ch++ [T.length]}=grown T p pd:=rfl;rw [L6]at ZZ;have hgp:(grown T p pd)[p]? =some {pd with ch:=pd.ch++ [T.length]}:=by
  unfold grown;rw [List.getElem?_set_self (by simp;omega)]
 have hgn:(grown T p pd)[T.length]? =some ⟨p,[],0,0,0⟩:=by
  unfold grown;rw [List.getElem?_set_ne (by omega)];simp
 have kw:Kept S w qp:=(Kz.tt (tq.mono (S':=S) (fun _ _ h=>h.elim))).trans FK (fun k hk h=>by
  rcases X4 k h with h|h
  ·exact h
  ·omega)
 have RP:∀k,S3 k->S k\/w.heap.size<=k:=fun k h=>by
  rcases aep k h with h|h
  ·exact X4 k h
  ·right
   have:=Kz.size;have:=tq.size;omega
 refine EJ ⟨_,_,_,ZZ⟩ hgp fun xE xW=>⟨_,rfl,?_⟩;have h28:=ZZ.kept xW;have Ut:Kept S w xE:=kw.trans xW (fun _ _ h=>h.elim);simp only [];rw [fL (x:=pd.hi-pd.free) (by omega) (by omega)];refine Split.dec (fun iq=>⟨by decide,?_⟩) (fun iq=>?_)
 ·have D8:u64.wrap ((u64.wrap (pd.hi-pd.free+1)).tdiv 2)=iW pd:=by
   rw [fL (x:=pd.hi-pd.free+1) (by omega) (by omega),Int.tdiv_eq_ediv_of_nonneg (by omega),fL (by omega) (by omega)];rfl
  rw [D8];refine EK ⟨_,_,_,h28⟩ hgn hgp rfl (by omega) hf (by unfold iW;omega) (by unfold iW;simp only;omega) fun ug h31 zO=>⟨rfl,?_⟩;refine hK1 (by omega) ug S3 h31 (Ut.trans zO fun k hk h=>?_) RP;rcases RP k h with h|h
  ·exact h
  ·omega
 ·exact hK2 (by omega) xE S3 ⟨_,_,_,h28⟩ Ut RP
end
section
variable{w:World}{S:Nat->Prop}{g:Nat}{T:List Nd}{d:Int}{K:Value->World->Prop}
def qd:List Nd:= [⟨-1,[],1,4611686018427387904,1⟩]
theorem eR(hK:∀w' g,nE w' (fun k=>w.heap.size<=k) g qd 0->Kept Nil w w'->K (.pointer (some ⟨g,0,none⟩)) w'):bj prog eR.id #[] w K:=by
 refine eR.of ⟨rfl,?_⟩;intro w1 w2;have k1:Kept Nil w w1:=(Kept.refl Nil w).alloc _;have k2:Kept Nil w w2:=k1.alloc _;refine hK w2 w1.heap.size ⟨w.heap.size,1,[(⟨-1,[],1,4611686018427387904,1⟩,.slice none 0 0)],?_⟩ k2;exact {
  top:=aH w1 _
  fst:=rfl
  row:=Row.made (n:=1) (cur:= #[.int .i64 (-1),.slice none 0 0,.int .u64 1,.int .u64 4611686018427387904,.int .u64 1]) (ju (aH w _) _) (Nat.zero_le _) rfl (by decide)
  ou:=fun i p hp=>by
   cases i with
   |zero=>simp at hp;subst hp;exact⟨none,0,rfl,Row.nil _ _ _ _,fun k e=>by cases e⟩
   |succ i=>simp at hp
  apart:=fun i j p q hp hq rI=>by
   cases i<;>cases j<;>simp at hp hq
   exact absurd rfl rI
  gL:=k1.size
  fR:=Nat.le_refl _}
theorem BB(h:nE w S g T d){a b:Nat}{ad bd:Nd}(ha:T[a]? =some ad)(hb:T[b]? =some bd)(hK:∀w',Kept Nil w w'->K (.bool (decide (bd.lo<=ad.lo/\ad.hi<=bd.hi))) w'):
 bj prog fw.id #[.pointer (some ⟨g,0,none⟩),.int .i64 a,.int .i64 b] w K:=by
 have hal:a<T.length:=(lgeS ha).1;have Ai:b<T.length:=(lgeS hb).1;have hba:0<=(a:Int)/\(a:Int)<(T.length:Int):=⟨by omega,by omega⟩;have vZ:0<=(b:Int)/\(b:Int)<(T.length:Int):=⟨by omega,by omega⟩;refine fw.of ?_;unfold fw.W;intro w4;have k4:Kept Nil w w4:=(Kept.refl Nil w).drew;have h4:=h.same k4;have hk:=hK w4 k4;refine xG h4 a ⟨_,rfl,Split.yes (decide_eq_true hba) ?_⟩;refine xG h4 b ⟨_,rfl,Split.yes (decide_eq_true vZ) ?_⟩;obtain⟨p,c,L,h4⟩:=h4;obtain⟨va,hva⟩:=h4.at_ ha;obtain⟨vb,Vg⟩:=h4.at_ hb;refine h4.go ⟨vZ,h4.vg Vg (h4.go ⟨hba,h4.vg hva ?_⟩)⟩;refine Split.dec (fun h1=>h4.go ⟨hba,h4.Ap hva (h4.go ⟨vZ,h4.Ap Vg ?_⟩)⟩) (fun h1=>?_)
 ·rwa [show decide (bd.lo<=ad.lo/\ad.hi<=bd.hi)=decide (ad.hi<=bd.hi)from by simp [h1]]at hk
 ·rwa [decide_eq_false (fun e:bd.lo<=ad.lo/\ad.hi<=bd.hi=>h1 e.1)]at hk
end
section
variable{w:World}{t:Option Addr}{K:Value->World->Prop}
end
end Go.Proofs.YtnboahlopghcjaaGreatDoor.Tr
namespace Go.Proofs.YtnboahlopghcjaaGreatDoor.Tr
open Go.Proofs.Tryz
def bP(T:List Nd):List Int:=T.map (·.parent)
structure nM(P:List Int):Prop where
 root:P[0]? =some (-1)
 up:∀(i:Nat) (p:Int),0<i->P[i]? =some p->∃j:Nat,j<i/\p=j
def kids(P:List Int)(i:Nat):List Nat:=(List.range P.length).filter fun j=>P[j]? ==some (i:Int)
theorem eV{P:List Int}{i j:Nat}:j∈kids P i↔P[j]? =some (i:Int):=by
 simp only [kids,List.mem_filter,List.mem_range,beq_iff_eq];exact⟨fun h=>h.2,fun h=>⟨(lgeS h).1,h⟩⟩
theorem iN{P:List Int}(hP:nM P){i j:Nat}(h:j∈kids P i):i<j/\j<P.length:=by
 rw [eV]at h;refine⟨?_,(lgeS h).1⟩;rcases Nat.eq_zero_or_pos j with rfl|hj
 ·rw [hP.root]at h;have:=Option.some.inj h;omega
 ·obtain⟨k,hk,e⟩:=hP.up j _ hj h
  omega
theorem tp(P:List Int)(i:Nat):(kids P i).Pairwise (· < ·):=List.Pairwise.filter _ (List.pairwise_lt_range)
theorem zI(P:List Int)(i:Nat):(kids P i).length<=P.length:=by
 unfold kids;exact Nat.le_trans (List.length_filter_le _ _) (by simp)
inductive jK (P:List Int):Nat->Nat->Prop
 |refl {i:Nat}:i<P.length->jK P i i
 |step {i j k:Nat}:P[i]? =some (j:Int)->jK P j k->jK P i k
theorem jK.lt{P:List Int}{i k:Nat}(h:jK P i k):i<P.length:=by
 cases h with
 |refl h=>exact h
 |step h _=>exact(lgeS h).1
theorem jK.Zb{P:List Int}{i k:Nat}(h:jK P i k):k<P.length:=by
 induction h with
 |refl h=>exact h
 |step _ _ ih=>exact ih
theorem jK.le{P:List Int}(hP:nM P){i k:Nat}(h:jK P i k):k<=i:=by
 induction h with
 |refl=>omega
 |step h _ ih=>have:=(iN hP (eV.2 h)).1;omega
theorem jK.trans{P:List Int}{i j k:Nat}(h:jK P i j)(h':jK P j k):jK P i k:=by
 induction h with
 |refl=>exact h'
 |step h _ ih=>exact .step h (ih h')
theorem jK.inv{P:List Int}{i j k:Nat}(h:jK P i k)(fD:i≠k)(hj:P[i]? =some (j:Int)):jK P j k:=by
 cases h with
 |refl=>exact absurd rfl fD
 | @step _ j' _ h h'=>
   rw [hj]at h;have e:j=j':=by have:=Option.some.inj h;omega
   rw [e];exact h'
theorem jK.child{P:List Int}{i k:Nat}(h:jK P i k)(fD:i≠k):∃c,c∈kids P k/\jK P i c:=by
 induction h with
 |refl=>exact absurd rfl fD
 | @step i j k h h' ih=>
   by_cases e:j=k
   ·subst e
    exact⟨i,eV.2 h,.refl (lgeS h).1⟩
   ·obtain⟨c,hc,hu⟩:=ih e
    exact⟨c,hc,.step h hu⟩
structure Iv(nd:Nd):Prop where
 Ur:1<=nd.lo
 le:nd.lo<=nd.hi
 top:nd.hi<=4611686018427387904
structure Loc(T:List Nd)(nd:Nd):Prop where
 G5:nd.lo<=nd.free
 CH:nd.free<=nd.hi
 sub:∀c cd,c∈nd.ch->T[c]? =some cd->nd.lo<=cd.lo/\cd.hi<nd.free
 ord:∀(c c':Nat) cd vv,c∈nd.ch->c'∈nd.ch->c<c'->T[c]? =some cd->T[c']? =some vv->cd.hi<vv.lo
structure Shape(T:List Nd):Prop where
 par:nM (bP T)
 ch:∀(i:Nat) nd,T[i]? =some nd->nd.ch=kids (bP T) i
structure Good(T:List Nd):Prop extends Shape T where
 iv:∀(i:Nat) nd,T[i]? =some nd->Iv nd
 loc:∀(i:Nat) nd,T[i]? =some nd->Loc T nd
theorem kO{T:List Nd}{i:Nat}{nd:Nd}(h:T[i]? =some nd):(bP T)[i]? =some nd.parent:=by simp [bP,h]
theorem eU(T:List Nd):(bP T).length=T.length:=by simp [bP]
theorem Shape.pos{T:List Nd}(h:Shape T):0<T.length:=by
 have:=(lgeS h.par.root).1
 rwa [eU]at this
theorem Good.ou{T:List Nd}(h:Good T){c k:Nat}{cd kd:Nd}(hc:c∈kids (bP T) k)(jv:T[c]? =some cd)(WH:T[k]? =some kd):
 kd.lo<=cd.lo/\cd.hi<kd.free:=(h.loc k kd WH).sub c cd (by rw [h.ch k kd WH];exact hc) jv
theorem fJ{T:List Nd}{i:Nat}(h:i<T.length):∃nd,T[i]? =some nd:=⟨_,List.getElem?_eq_getElem h⟩
theorem Good.oD{T:List Nd}(h:Good T){a b:Nat}{ad bd:Nd}(ha:T[a]? =some ad)(hb:T[b]? =some bd)(hu:jK (bP T) a b):bd.lo<=ad.lo/\ad.hi<=bd.hi:=by
 induction hu generalizing ad with
 |refl=>rw [ha]at hb;cases hb;omega
 | @step i j k hp h' ih=>
   have rW:j<T.length:=by have:=h'.lt;rwa [eU]at this
   obtain⟨jd,hj⟩:=fJ rW;have h1:=ih hj hb;have h2:=h.ou (eV.2 hp) ha hj;have h3:=(h.loc j jd hj).CH;omega
theorem Good.apart{T:List Nd}(h:Good T):∀(m a b:Nat),a+b<=m->∀ad bd,T[a]? =some ad->T[b]? =some bd->¬jK (bP T) a b->¬jK (bP T) b a->ad.hi<bd.lo\/bd.hi<ad.lo:=by
 intro m
 induction m with
 |zero=>
  intro a b hm ad bd ha hb h1 _;have:a=b:=by omega
  subst this;exact absurd (.refl (by rw [eU];exact(lgeS ha).1)) h1
 |succ m ih=>
  have key:∀(a b:Nat),a+b<=m+1->b<a->∀ad bd,T[a]? =some ad->T[b]? =some bd->¬jK (bP T) a b->¬jK (bP T) b a->ad.hi<bd.lo\/bd.hi<ad.lo:=by
   intro a b hm cH ad bd ha hb h1 h2;have hal:=(lgeS ha).1;obtain⟨p,hp,e⟩:=h.par.up a _ (by omega) (kO ha);have Jb:(bP T)[a]? =some (p:Int):=by rw [kO ha,e]
   obtain⟨pd,ye⟩:=fJ (T:=T) (i:=p) (by omega);have fN:=h.ou (eV.2 Jb) ha ye;have qk:=h.loc p pd ye;have Cp:¬jK (bP T) p b:=fun hu=>h1 (.step Jb hu);by_cases OM:jK (bP T) b p
   ·have fD:b≠p:=fun e=>Cp (by subst e;exact .refl OM.lt)
    obtain⟨c,hc,Ob⟩:=OM.child fD;have hca:c≠a:=fun e=>h2 (e▸Ob);have qH:c<T.length:=by have:=(iN h.par hc).2;rwa [eU]at this
    obtain⟨cd,jv⟩:=fJ qH;have JA:=h.oD hb jv Ob;have oH:=h.ch p pd ye;rcases Nat.lt_or_ge c a with cH|gq
    ·have:=qk.ord c a cd ad (by rw [oH];exact hc) (by rw [oH];exact eV.2 Jb) cH jv ha
     omega
    ·have:=qk.ord a c ad cd (by rw [oH];exact eV.2 Jb) (by rw [oH];exact hc) (by omega) ha jv
     omega
   ·have:=ih p b (by omega) pd bd ye hb Cp OM
    have:=qk.CH;omega
  intro a b hm ad bd ha hb h1 h2;rcases Nat.lt_trichotomy a b with cH|rfl|cH
  ·have:=key b a (by omega) cH bd ad hb ha h2 h1
   omega
  ·exact absurd (.refl (by rw [eU];exact(lgeS ha).1)) h1
  ·exact key a b hm cH ad bd ha hb h1 h2
theorem Good.under{T:List Nd}(h:Good T){a b:Nat}{ad bd:Nd}(ha:T[a]? =some ad)(hb:T[b]? =some bd):(bd.lo<=ad.lo/\ad.hi<=bd.hi)↔jK (bP T) a b:=by
 refine⟨fun hi=>?_,fun hu=>h.oD ha hb hu⟩;by_cases hu:jK (bP T) a b
 ·exact hu
 ·exfalso
  have ia:=h.iv a ad ha;have ib:=h.iv b bd hb;by_cases hv:jK (bP T) b a
  ·have fD:b≠a:=fun e=>hu (by subst e;exact .refl hv.lt)
   obtain⟨c,hc,Ob⟩:=hv.child fD;have qH:c<T.length:=by have:=(iN h.par hc).2;rwa [eU]at this
   obtain⟨cd,jv⟩:=fJ qH;have h1:=h.oD hb jv Ob;have h2:=h.ou hc jv ha;have h3:=(h.loc a ad ha).CH;omega
  ·have:=h.apart (a+b) a b (Nat.le_refl _) ad bd ha hb hu hv
   have:=ia.le;have:=ib.le;omega
theorem xi(T:List Nd)(p:Nat)(pd:Nd):(grown T p pd).length=T.length+1:=by simp [grown]
theorem je{T:List Nd}{p:Nat}{pd:Nd}(hp:T[p]? =some pd)(i:Nat):(grown T p pd)[i]? =if i=p then some {pd with ch:=pd.ch++ [T.length]}else if i=T.length then some ⟨p,[],0,0,0⟩else T[i]? :=by
 have cH:=(lgeS hp).1;unfold grown;by_cases e:i=p
 ·subst e
  rw [if_pos rfl,List.getElem?_set_self (by simp;omega)]
 ·rw [if_neg e,List.getElem?_set_ne (fun h=>e h.symm)]
  by_cases e2:i=T.length
  ·subst e2;simp
  ·rw [if_neg e2]
   rcases Nat.lt_or_ge i T.length with h|h
   ·rw [List.getElem?_append_left h]
   ·rw [List.getElem?_eq_none (by simp;omega),List.getElem?_eq_none h]
theorem lY{T:List Nd}{p:Nat}{pd:Nd}(hp:T[p]? =some pd):bP (grown T p pd)=bP T++ [(p:Int)]:=by
 apply List.ext_getElem?;intro i;have cH:=(lgeS hp).1;simp only [bP,List.getElem?_map,je hp];by_cases e:i=p
 ·subst e
  rw [if_pos rfl,List.getElem?_append_left (by simpa using cH)];simp [hp]
 ·rw [if_neg e]
  by_cases e2:i=T.length
  ·subst e2;simp
  ·rw [if_neg e2]
   rcases Nat.lt_or_ge i T.length with h|h
   ·rw [List.getElem?_append_left (by simpa using h)];simp
   ·rw [List.getElem?_eq_none h,List.getElem?_eq_none (by simp;omega)];rfl
theorem zJ(P:List Int)(p i:Nat):kids (P++ [(p:Int)]) i=kids P i++if i=p then [P.length]else []:=by
 unfold kids;rw [List.length_append,List.length_singleton,List.range_succ,List.filter_append]
 congr 1
 ·apply List.filter_congr
  intro x hx;rw [List.getElem?_append_left (by simpa using hx)]
 ·by_cases e:i=p
  ·subst e;simp
  ·have:¬((p:Int)=(i:Int)):=by omega
   simp [e,this]
theorem nM.snoc{P:List Int}(h:nM P){p:Nat}(hp:p<P.length):nM (P++ [(p:Int)]):=by
 refine⟨by rw [List.getElem?_append_left (by omega)];exact h.root,fun i q hi hq=>?_⟩;rcases Nat.lt_or_ge i P.length with hl|hl
 ·rw [List.getElem?_append_left hl]at hq
  exact h.up i q hi hq
 ·have:i=P.length:=by
   rcases Nat.eq_or_lt_of_le hl with e|e
   ·exact e.symm
   ·rw [List.getElem?_eq_none (by simp;omega)]at hq;cases hq
  subst this;simp at hq;exact⟨p,hp,hq.symm⟩
theorem Shape.grown{T:List Nd}(h:Shape T){p:Nat}{pd:Nd}(hp:T[p]? =some pd):Shape (grown T p pd):=by
 have cH:=(lgeS hp).1;refine⟨by rw [lY hp];exact h.par.snoc (by rw [eU];exact cH),fun i nd hi=>?_⟩;rw [lY hp,zJ,eU];rw [je hp]at hi;by_cases e:i=p
 ·subst e
  rw [if_pos rfl]at hi⊢;cases hi;simp [h.ch i pd hp]
 ·rw [if_neg e]at hi⊢
  rw [List.append_nil];by_cases e2:i=T.length
  ·subst e2
   rw [if_pos rfl]at hi;cases hi
   symm
   apply List.eq_nil_iff_forall_not_mem.2;intro c hc;have:=iN h.par hc;rw [eU]at this;omega
  ·rw [if_neg e2]at hi
   exact h.ch i nd hi
def iP(f:Nat->Nat):Nat->Nat
 |0=>0
 |n+1=>iP f n+f n
theorem j0{f g:Nat->Nat}{n:Nat}(h:∀i,i<n->f i=g i):iP f n=iP g n:=by
 induction n with
 |zero=>rfl
 |succ n ih=>
  simp only [iP];rw [ih (fun i hi=>h i (by omega)),h n (by omega)]
theorem y0(f g:Nat->Nat)(n:Nat):iP (fun i=>f i+g i) n=iP f n+iP g n:=by
 induction n with
 |zero=>rfl
 |succ n ih=>simp only [iP];omega
theorem lL{f:Nat->Nat}{n:Nat}(h:∀i,i<n->f i=0):iP f n=0:=by
 induction n with
 |zero=>rfl
 |succ n ih=>
  simp only [iP];rw [ih (fun i hi=>h i (by omega)),h n (by omega)]
theorem EM(h:Nat->Nat->Nat)(n m:Nat):iP (fun i=>iP (fun j=>h i j) m) n=iP (fun j=>iP (fun i=>h i j) n) m:=by
 induction n with
 |zero=>simp only [iP];exact(lL fun _ _=>rfl).symm
 |succ n ih=>
  simp only [iP];rw [ih,y0]
theorem yZ{n k:Nat}(hk:k<n){f:Nat->Nat}(h:∀i,i<n->i≠k->f i=0):iP f n=f k:=by
 induction n with
 |zero=>omega
 |succ n ih=>
  simp only [iP];rcases Nat.lt_or_ge k n with cH|gq
  ·rw [ih cH (fun i hi=>h i (by omega)),h n (by omega) (by omega),Nat.add_zero]
  ·have:k=n:=by omega
   subst this;rw [lL (fun i hi=>h i (by omega) (by omega)),Nat.zero_add]
theorem K4{f:Nat->Nat}{n b:Nat}(h:∀i,i<n->f i<=b):iP f n<=n*b:=by
 induction n with
 |zero=>simp [iP]
 |succ n ih=>
  simp only [iP];have:=ih (fun i hi=>h i (by omega));have:=h n (by omega);rw [Nat.succ_mul];omega
theorem Hy{f f':Nat->Nat}{n k:Nat}(hk:k<n){v:Nat}(h:∀i,i<n->i≠k->f' i=f i)(hv:f' k=f k+v):iP f' n=iP f n+v:=by
 induction n with
 |zero=>omega
 |succ n ih=>
  simp only [iP];rcases Nat.lt_or_ge k n with cH|gq
  ·rw [ih cH (fun i hi=>h i (by omega)),h n (by omega) (by omega)]
   omega
  ·have:k=n:=by omega
   subst this;rw [j0 (fun i hi=>h i (by omega) (by omega)),hv];omega
theorem sg(q:Nat->Bool)(f:Nat->Nat)(n:Nat):(((List.range n).filter q).map f).sum=iP (fun c=>if q c=true then f c else 0) n:=by
 induction n with
 |zero=>rfl
 |succ n ih=>
  rw [List.range_succ,List.filter_append,List.map_append,List.sum_append,ih];simp only [iP]
  congr 1
  by_cases h:q n=true
  ·simp [h]
  ·simp [h]
section
variable{P:List Int}
theorem jK.cmp{i a b:Nat}(h:jK P i a)(h':jK P i b):jK P a b\/jK P b a:=by
 induction h with
 |refl=>exact .inl h'
 | @step i j k hp h2 ih=>
   by_cases e:i=b
   ·subst e;exact .inr (.step hp h2)
   ·exact ih (h'.inv e hp)
theorem jK.one(hP:nM P){i n c c':Nat}(hc:P[c]? =some (n:Int))(tN:P[c']? =some (n:Int))(h:jK P i c)(h':jK P i c'):c=c':=by
 have key:∀(c c':Nat),P[c]? =some (n:Int)->P[c']? =some (n:Int)->jK P c c'->c=c':=by
  intro c c' hc tN h;by_cases e:c=c'
  ·exact e
  ·have:=(h.inv e hc).le hP
   have:=(iN hP (eV.2 tN)).1;omega
 rcases h.cmp h' with h|h
 ·exact key c c' hc tN h
 ·exact(key c' c tN hc h).symm
open Classical in
noncomputable def ind(p:Prop):Nat:=if p then 1 else 0
theorem rD{p:Prop}(h:p):ind p=1:=by unfold ind;rw [if_pos h]
theorem sJ{p:Prop}(h:¬p):ind p=0:=by unfold ind;rw [if_neg h]
theorem Qt(p:Prop):ind p<=1:=by unfold ind;split<;>omega
noncomputable def sz(P:List Int)(n:Nat):Nat:=iP (fun i=>ind (jK P i n)) P.length
theorem BC(hP:nM P){n:Nat}(hn:n<P.length):sz P n=1+iP (fun c=>if P[c]? =some (n:Int)then sz P c else 0) P.length:=by
 have e1:∀i,i<P.length->ind (jK P i n)=ind (i=n)+iP (fun c=>if P[c]? =some (n:Int)then ind (jK P i c)else 0) P.length:=by
  intro i hi;by_cases e:i=n
  ·subst e
   rw [rD (.refl hi),rD rfl,lL];intro c hc;split
   ·rename_i hp
    apply sJ;intro hu;have:=hu.le hP;have:=(iN hP (eV.2 hp)).1;omega
   ·rfl
  ·rw [sJ e,Nat.zero_add]
   by_cases hu:jK P i n
   ·obtain⟨c,hc,Ob⟩:=hu.child e
    rw [rD hu,yZ (k:=c) Ob.Zb]
    ·rw [if_pos (eV.1 hc),rD Ob]
    ·intro c' _ fD
     split
     ·rename_i hp
      exact sJ fun h=>fD (jK.one hP hp (eV.1 hc) h Ob)
     ·rfl
   ·rw [sJ hu,lL]
    intro c hc;split
    ·rename_i hp
     exact sJ fun h=>hu (h.trans (.step hp (.refl hn)))
    ·rfl
 have e2:sz P n=iP (fun i=>ind (i=n)+iP (fun c=>if P[c]? =some (n:Int)then ind (jK P i c)else 0) P.length) P.length:=by
  unfold sz;exact j0 e1
 rw [e2,y0,yZ (k:=n) hn (fun i _ h=>sJ h),rD rfl,EM]
 congr 1
 apply j0;intro c _;split
 ·rfl
 ·exact lL fun _ _=>rfl
theorem uj(hP:nM P){n:Nat}(hn:n<P.length):1<=sz P n:=by rw [BC hP hn];omega
theorem wA(n:Nat):sz P n<=P.length:=by
 have:=K4 (n:=P.length) (b:=1) (f:=fun i=>ind (jK P i n)) (fun i _=>Qt _);unfold sz;omega
theorem Dn(hP:nM P){n:Nat}(hn:n<P.length):((kids P n).map (sz P)).sum+1=sz P n:=by
 unfold kids;rw [sg,BC hP hn,Nat.add_comm]
 congr 1
 apply j0;intro c _;by_cases h:P[c]? =some (n:Int)
 ·simp [h]
 ·simp [h]
noncomputable def part(P:List Int)(m j:Nat):Nat:=iP (fun c=>if P[c]? =some (j:Int)/\m<=c then sz P c else 0) P.length
theorem Fk(j:Nat):part P P.length j=0:=lL fun c hc=>if_neg fun h=>by omega
theorem uE(hP:nM P){m j:Nat}(hj:j<P.length)(hm:m<=j+1):part P m j+1=sz P j:=by
 rw [BC hP hj,Nat.add_comm]
 congr 1
 apply j0;intro c hc;by_cases h:P[c]? =some (j:Int)
 ·have:=(iN hP (eV.2 h)).1
  rw [if_pos ⟨h,by omega⟩,if_pos h]
 ·rw [if_neg (fun e=>h e.1),if_neg h]
theorem HO{n p:Nat}(h:P[n]? =some (p:Int)):part P n p=part P (n+1) p+sz P n:=by
 unfold part;apply Hy (k:=n) (lgeS h).1
 ·intro i _ fD
  by_cases hi:P[i]? =some (p:Int)
  ·by_cases h2:n<=i
   ·rw [if_pos ⟨hi,h2⟩,if_pos ⟨hi,by omega⟩]
   ·rw [if_neg (fun e=>h2 e.2),if_neg (fun e=>by omega)]
  ·rw [if_neg (fun e=>hi e.1),if_neg (fun e=>hi e.1)]
 ·rw [if_pos ⟨h,Nat.le_refl _⟩,if_neg (fun e=>by omega),Nat.zero_add]
theorem BN{n j:Nat}(h:P[n]? ≠some (j:Int)):part P n j=part P (n+1) j:=by
 unfold part;apply j0;intro i _;by_cases hi:P[i]? =some (j:Int)
 ·have:i≠n:=fun e=>h (e▸hi)
  by_cases h2:n<=i
  ·rw [if_pos ⟨hi,h2⟩,if_pos ⟨hi,by omega⟩]
  ·rw [if_neg (fun e=>h2 e.2),if_neg (fun e=>by omega)]
 ·rw [if_neg (fun e=>hi e.1),if_neg (fun e=>hi e.1)]
noncomputable def iy(P:List Int)(m j:Nat):Nat:=if m<=j then sz P j else part P m j
theorem BH(j:Nat)(hj:j<P.length):iy P P.length j=0:=by
 unfold iy;rw [if_neg (by omega),Fk]
theorem zf(j:Nat):iy P 0 j=sz P j:=by unfold iy;rw [if_pos (Nat.zero_le _)]
theorem E7(hP:nM P){n:Nat}(hn:n<P.length):iy P (n+1) n+1=sz P n:=by
 unfold iy;rw [if_neg (by omega),uE hP hn (Nat.le_refl _)]
theorem E6(hP:nM P){n p:Nat}(h:P[n]? =some (p:Int))(j:Nat):iy P n j=if j=p then iy P (n+1) p+sz P n else if j=n then sz P n else iy P (n+1) j:=by
 have hp:=(iN hP (eV.2 h)).1;unfold iy;by_cases e:j=p
 ·subst e
  rw [if_neg (by omega),if_pos rfl,if_neg (by omega),HO h]
 ·rw [if_neg e]
  by_cases e2:j=n
  ·subst e2;rw [if_pos (Nat.le_refl _),if_pos rfl]
  ·rw [if_neg e2]
   by_cases h2:n<=j
   ·rw [if_pos h2,if_pos (by omega)]
   ·rw [if_neg h2,if_neg (by omega)]
    exact BN (fun h'=>e (by rw [h]at h';have:=Option.some.inj h';omega))
theorem E9(j:Nat):iy P 0 j=if j=0 then sz P 0 else iy P 1 j:=by
 rw [zf];unfold iy;by_cases e:j=0
 ·subst e;rw [if_pos rfl]
 ·rw [if_neg e,if_pos (by omega)]
theorem Dr(hP:nM P)(m j:Nat)(hj:j<P.length):iy P m j<=P.length:=by
 have h1:=wA (P:=P) j;unfold iy;split
 ·exact h1
 ·rename_i h
  have:=uE hP (m:=m) hj;by_cases h2:m<=j+1
  ·have:=this h2;omega
  ·
   have h3:part P m j<=part P 0 j:=by
    unfold part;have:∀(f g:Nat->Nat) (n:Nat),(∀i,i<n->f i<=g i)->iP f n<=iP g n:=by
     intro f g n h
     induction n with
     |zero=>simp [iP]
     |succ n ih=>
      simp only [iP];have:=ih (fun i hi=>h i (by omega));have:=h n (by omega);omega
    apply this;intro i _;split
    ·rename_i h4;rw [if_pos ⟨h4.1,Nat.zero_le _⟩];exact Nat.le_refl _
    ·exact Nat.zero_le _
   have:=uE hP (m:=0) hj (by omega);omega
end
theorem vJ{α:Type}(f g:Nat->α){n k:Nat}{v:α}(hk:k<n)(h:∀i,i<n->g i=if i=k then v else f i):((List.range n).map f).set k v=(List.range n).map g:=by
 apply List.ext_getElem?;intro i;rw [List.getElem?_set];by_cases e:k=i
 ·subst e
  rw [if_pos rfl,if_pos (by simpa using hk)];simp [hk,h k hk]
 ·rw [if_neg e]
  rcases Nat.lt_or_ge i n with hi|hi
  ·have:=h i hi
   rw [if_neg (fun x=>e x.symm)]at this;simp [hi,this]
  ·rw [List.getElem?_eq_none (by simpa using hi),List.getElem?_eq_none (by simpa using hi)]
end Go.Proofs.YtnboahlopghcjaaGreatDoor.Tr
namespace Go.bT
open Go.RowKit
theorem aP{σ:Type}(e:σ->Env)(I:σ->World->Prop)(μ:σ->World->Nat)(s:σ)(w:World)(Q:aM)(l:Nat)(ρ:Env)(w':World):bH e I μ s w Q (.exit l) ρ w'=Q (.exit l) ρ w':=rfl
def zeroOf(P:Program)(e:TypeId):Option (Array Value):=
 match P.info? e with
 |some i=>match i.zero with
  |some z=>some z.cells
  |none=>none
 |none=>none
theorem H5{P:Program}{t e:TypeId}{bytes:Nat}(T:yA P t e 1 bytes){z:Value}(hz:zeroOf P e=some #[z]){n:Nat}(hn:n<=maxLen)(hb:bytes*n<=281474976710656)(w:World):
 ∃w',(Instr.makeSlice t (.int .i64 (n:Int)) (.int .i64 (n:Int))).run P w=.ok (.slice (some ⟨w.heap.size,0,none⟩) n n) w'/\
  Row w' w.heap.size e 1 (some ⟨w.heap.size,0,none⟩) n n (List.replicate n z)/\Kept Nil w w':=by
 obtain⟨i,z',hi,yG,hs,Jt,B9⟩:=T.inf;have hc:z'.cells= #[z]:=by
  unfold zeroOf at hz;simp only [hi,yG]at hz;exact Option.some.inj hz
 obtain⟨w',hr,eI,hg⟩:=run_make_full (P:=P) (w:=w) w.heap.size t e i z' 1 T.oD hi yG hs .i64 .i64 n (by rw [Jt];exact hb) hn (Nat.le_refl _);rw [hc,Nat.mul_one,toList_madeCells_one]at eI;exact⟨w',hr,eI,(Kept.refl Nil w).grown hg (fun k hk=>by cases hk)⟩
end Go.bT
namespace Go.Proofs.YtnboahlopghcjaaGreatDoor.Tr
open Go.Proofs.Tryz
open Go Go.bT Go.RowKit
section
variable{w w':World}{S:Nat->Prop}{g:Nat}{T:List Nd}{d:Int}{K:Value->World->Prop}
theorem TV.bound{b c:Nat}{L:List (Nd×Value)}(h:TV w S g T d b c L):TV w (fun k=>S k/\k<w.heap.size) g T d b c L:= {
 top:=h.top
 fst:=h.fst
 row:=h.row
 ou:=fun i p hp=>let ⟨A,m,h1⟩:=h.ou i p hp;⟨A,m,h1.val,h1.row,fun k e=>⟨h1.jB k e,let ⟨_,_,hc⟩:=Row.bz h1.row e;aO hc⟩⟩
 apart:=h.apart
 gL:=⟨h.gL,aO h.top⟩
 fR:=⟨h.fR,let ⟨_,hc⟩:=h.vz;aO hc⟩}
theorem TV.mono{S':Nat->Prop}{b c:Nat}{L:List (Nd×Value)}(h:TV w S g T d b c L)(hs:∀k,S k->S' k):TV w S' g T d b c L:= {
 top:=h.top
 fst:=h.fst
 row:=h.row
 ou:=fun i p hp=>let ⟨A,m,h1⟩:=h.ou i p hp;⟨A,m,h1.val,h1.row,fun k e=>hs k (h1.jB k e)⟩
 apart:=h.apart
 gL:=hs _ h.gL
 fR:=hs _ h.fR}
theorem nE.bound(h:nE w S g T d):nE w (fun k=>S k/\k<w.heap.size) g T d:=let ⟨b,c,L,h⟩:=h;⟨b,c,L,h.bound⟩
theorem nE.mono{S':Nat->Prop}(h:nE w S g T d)(hs:∀k,S k->S' k):nE w S' g T d:=let ⟨b,c,L,h⟩:=h;⟨b,c,L,h.mono hs⟩
def us(f:Nat->Nat)(n:Nat):List Value:=(List.range n).map fun j=>.int .u64 (f j:Int)
theorem oL(f:Nat->Nat){n j:Nat}(hj:j<n):(us f n)[j]? =some (.int .u64 (f j:Int)):=by simp [us,hj]
theorem oK(f:Nat->Nat)(n:Nat):(us f n).length=n:=by simp [us]
theorem xF{f f':Nat->Nat}{n k:Nat}(hk:k<n)(h:∀i,i<n->i≠k->f' i=f i):(us f n).set k (.int .u64 (f' k:Int))=us f' n:=by
 unfold us;apply vJ _ _ hk;intro i hi;by_cases e:i=k
 ·subst e;rw [if_pos rfl]
 ·rw [if_neg e,h i hi e]
theorem TQ:yA prog AZ iF 1 8:=⟨by kernel_rfl,by kernel_rfl⟩
set_option maxRecDepth 100000 in
theorem BA(h:nE w S g T d)(hP:nM (bP T))(hlen:T.length<=1000000)
 (hK:∀w' A,Row w' w.heap.size iF 1 A T.length T.length (us (sz (bP T)) T.length)->Kept Nil w w'->K (.slice A T.length T.length) w'):
 bj prog br.id #[.pointer (some ⟨g,0,none⟩)] w K:=by
 obtain⟨b,c,L,h0⟩:=h;have qk:=eU T;obtain⟨w5,tJ,lj,k5⟩:=H5 TQ (z:=.int .u64 0) (by kernel_rfl) (n:=T.length) (by unfold maxLen;omega) (by omega) w;refine br.of (h0.go ⟨_,_,_,w5,tJ,?_⟩);have h5:=h0.kept k5;refine h5.go ?_;generalize hA:(⟨w.heap.size,0,none⟩:Addr)=A at*;refine br.b6 (e:=some A) (i:=T.length) (I:=fun i w'=>∃m:Nat,i=(T.length:Int)-m/\m<=T.length/\Row w' w.heap.size iF 1 (some A) T.length T.length (us (iy (bP T) m) T.length)/\Kept Nil w w')
  (μ:=fun i _=>((T.length:Int)-i).toNat) (s:=0) ⟨T.length,by omega,Nat.le_refl _,?_,k5⟩ ?_
 ·have:List.replicate T.length (Value.int .u64 0)=us (iy (bP T) T.length) T.length:=by
   apply List.ext_getElem?;intro j;rcases Nat.lt_or_ge j T.length with hj|hj
   ·rw [oL _ hj,<-qk,BH j (by omega)]
    simp [qk,hj]
   ·rw [List.getElem?_eq_none (by simpa using hj),List.getElem?_eq_none (by rw [oK];exact hj)]
  rw [<-this];exact lj
 ·rintro i w' ⟨m,rfl,hm,row,kw⟩
  have h':=h0.kept kw;refine Split.dec (fun cH=>?_) (fun gq=>?_)
  ·
   obtain⟨n,rfl⟩:∃n,m=n+1:=⟨m-1,by omega⟩;have hn:n<T.length:=by omega
   refine h'.go ?_;have ew:i64.wrap (i64.wrap ((T.length:Int)-1)-((T.length:Int)-((n+1:Nat):Int)))=(n:Int):=by
    rw [gZ (x:=(T.length:Int)-1) (by omega) (by omega),gZ (by omega) (by omega)];omega
   rw [ew];have hb:0<=(n:Int)/\(n:Int)<(T.length:Int):=⟨by omega,by omega⟩;subst hA;have Wz:n<(us (iy (bP T) (n+1)) T.length).length:=by rw [oK];exact hn
   refine⟨hb,_,by rw [km,Int.toNat_natCast,Nat.mul_one];exact Row.cell row (oL _ hn),hb,by rw [km,Int.toNat_natCast,Nat.mul_one];exact Row.wr row Wz,?_⟩;intro wy;have e18:wy=w'.setCell ⟨w.heap.size,n,none⟩ (.int .u64 (u64.wrap ((iy (bP T) (n+1) n:Int)+1))):=by simp only [wy,km,Int.toNat_natCast,Nat.mul_one]
   have ag3:=E7 hP (n:=n) (by omega);have hle:iy (bP T) (n+1) n<=(bP T).length:=Dr hP _ _ (by omega);have mS:=Row.set row Wz (.int .u64 (u64.wrap ((iy (bP T) (n+1) n:Int)+1)));rw [<-e18]at mS;have FL:Kept Nil w wy:=by rw [e18];exact kw.setCell (fun hh=>absurd hh (Nat.lt_irrefl _)) _
   clear_value wy;rw [fL (x:=(iy (bP T) (n+1) n:Int)+1) (by omega) (by omega)]at mS;rw [show(iy (bP T) (n+1) n:Int)+1=((if n=n then sz (bP T) n else iy (bP T) (n+1) n:Nat):Int)from by rw [if_pos rfl];omega,
    xF (f':=fun j=>if j=n then sz (bP T) n else iy (bP T) (n+1) j) hn (fun i _ fD=>by rw [if_neg fD])]at mS
   have h18:=h0.kept FL;obtain⟨nd,dW⟩:=fJ hn;obtain⟨v,hv⟩:=h18.at_ dW;refine h18.go ⟨hb,h18.JO hv ?_⟩;have lF:=kO dW;refine Split.dec (fun hp=>?_) (fun hp=>?_)
   ·
    have F5:0<n:=by
     rcases Nat.eq_zero_or_pos n with rfl|h
     ·rw [hP.root]at lF;have:=Option.some.inj lF;omega
     ·exact h
    obtain⟨p,I8,ep⟩:=hP.up n _ F5 lF;rw [ep]at hp⊢;have S6:(bP T)[n]? =some (p:Int):=by rw [lF,ep]
    intro Kx;have P9:Kept Nil w Kx:=FL.drew;have Dx:Row Kx w.heap.size iF 1 (some ⟨w.heap.size,0,none⟩) T.length T.length (us (fun j=>if j=n then sz (bP T) n else iy (bP T) (n+1) j) T.length):=mS;clear_value Kx;have OM:0<=(p:Int)/\(p:Int)<(T.length:Int):=⟨by omega,by omega⟩;have Ww:p<(us (fun j=>if j=n then sz (bP T) n else iy (bP T) (n+1) j) T.length).length:=by rw [oK];omega
    have gp:=oL (fun j=>if j=n then sz (bP T) n else iy (bP T) (n+1) j) (n:=T.length) (j:=p) (by omega);have gn:=oL (fun j=>if j=n then sz (bP T) n else iy (bP T) (n+1) j) (n:=T.length) (j:=n) (by omega);simp only [if_neg (show p≠n by omega)]at gp;simp only [if_pos]at gn;refine⟨OM,_,by rw [km,Int.toNat_natCast,Nat.mul_one];exact Row.cell Dx gp,hb,_,by rw [km,Int.toNat_natCast,Nat.mul_one];exact Row.cell Dx gn,OM,by rw [km,Int.toNat_natCast,Nat.mul_one];exact Row.wr Dx Ww,?_⟩;intro sd;have e29:sd=Kx.setCell ⟨w.heap.size,p,none⟩ (.int .u64 (u64.wrap ((iy (bP T) (n+1) p:Int)+(sz (bP T) n:Int)))):=by simp only [sd,km,Int.toNat_natCast,Nat.mul_one]
    have wE:=Row.set Dx Ww (.int .u64 (u64.wrap ((iy (bP T) (n+1) p:Int)+(sz (bP T) n:Int))));rw [<-e29]at wE;have FJ:Kept Nil w sd:=by rw [e29];exact P9.setCell (fun hh=>absurd hh (Nat.lt_irrefl _)) _
    clear_value sd;have aln:iy (bP T) (n+1) p<=(bP T).length:=Dr hP _ _ (by omega);have alm:sz (bP T) n<=(bP T).length:=wA _;have pX:=E6 hP S6;have GR:=pX p;rw [if_pos rfl]at GR;rw [fL (x:=(iy (bP T) (n+1) p:Int)+(sz (bP T) n:Int)) (by omega) (by omega),
     show(iy (bP T) (n+1) p:Int)+(sz (bP T) n:Int)=(iy (bP T) n p:Int)from by omega,
     xF (f':=iy (bP T) n) (by omega) (fun i _ fD=>by rw [pX i,if_neg fD])]at wE
    rw [gZ (x:=(T.length:Int)-((n+1:Nat):Int)+1) (by omega) (by omega)];exact⟨_,rfl,⟨n,by omega,by omega,wE,FJ⟩,by simp only;omega⟩
   ·
    have F5:n=0:=by
     rcases Nat.eq_zero_or_pos n with h|h
     ·exact h
     ·obtain⟨p,_,ep⟩:=hP.up n _ h lF
      omega
    subst F5;have:us (fun j=>if j=0 then sz (bP T) 0 else iy (bP T) (0+1) j) T.length=us (iy (bP T) 0) T.length:=by
     congr 1
     funext j
     rw [E9]
    rw [this]at mS;rw [gZ (x:=(T.length:Int)-((0+1:Nat):Int)+1) (by omega) (by omega)];exact⟨_,rfl,⟨0,by omega,by omega,mS,FL⟩,by simp only;omega⟩
  ·have:m=0:=by omega
   subst this;rw [aP,br.cX];refine hK w' (some A) ?_ kw;have e:iy (bP T) 0=sz (bP T):=funext zf;rw [e]at row;exact row
end
section
variable{w:World}{K:Value->World->Prop}
theorem bj.zr{f:FuncId}{args:Array Value}{v:Value}(h:Calls prog f args w fun e w'=>e=.returned v/\w'=w)(hK:K v w):bj prog f args w K:=
 h.mono fun e w' ⟨he,hw⟩=>⟨v,he,by rw [hw];exact hK⟩
theorem wg(x y:Nat)(hx:x<18446744073709551616)(hy:y<18446744073709551616)
 (hK:K (.tuple #[.int .u64 ((x*y/18446744073709551616:Nat):Int),.int .u64 ((x*y%18446744073709551616:Nat):Int)]) w):
 bj prog bits_Mul64.id #[.int .u64 x,.int .u64 y] w K:=bj.zr (Any.bits_Mul64 Tryz.Lu x y hx hy w) hK
theorem wh(x:Nat)(hx:x<18446744073709551616)(hK:K (.int .i64 (Lib.bitLen x)) w):bj prog bits_Len64.id #[.int .u64 x] w K:=
 bj.zr (Any.bits_Len64 Tryz.Lv x w (by omega) (by omega)) hK
end
theorem pq:∀(f x:Nat),x<2 ^ f->x<2 ^ (Lib.bitLenAux f x)/\(x≠0->2 ^ (Lib.bitLenAux f x)<=2*x)
 |0,x,h=>by simp at h;subst h;simp [Lib.bitLenAux]
 |f+1,x,h=>by
  unfold Lib.bitLenAux;by_cases e:x=0
  ·simp [e]
  ·rw [if_neg e]
   have ih:=pq f (x/2) (by rw [Nat.pow_succ]at h;omega);rw [Nat.pow_add,Nat.pow_one];refine⟨by omega,fun _=>?_⟩;by_cases e2:x/2=0
   ·have:x=1:=by omega
    subst this;cases f<;>simp [Lib.bitLenAux]
   ·have:=ih.2 e2
    omega
theorem bitLen_spec{y:Nat}(h0:y≠0)(hy:y<18446744073709551616):1<=Lib.bitLen y/\Lib.bitLen y<=64/\9223372036854775808<=y*2 ^ (64-Lib.bitLen y)/\y*2 ^ (64-Lib.bitLen y)<18446744073709551616:=by
 have hs:=pq 64 y (by omega);have hle:=Lib.bitLenAux_le 64 y 64 (by omega)
 change Lib.bitLen y<=64 at hle
 change y<2 ^ (Lib.bitLen y)/\(y≠0->2 ^ (Lib.bitLen y)<=2*y)at hs
 have Ci:=hs.2 h0;have hp:2 ^ Lib.bitLen y*2 ^ (64-Lib.bitLen y)=18446744073709551616:=by
  rw [<-Nat.pow_add,show Lib.bitLen y+(64-Lib.bitLen y)=64 by omega]
 have iq:0<2 ^ (64-Lib.bitLen y):=Nat.pow_pos (by omega);refine⟨?_,hle,?_,?_⟩
 ·rcases Nat.eq_zero_or_pos (Lib.bitLen y)with e|e
  ·rw [e]at hs;simp at hs;omega
  ·exact e
 ·have:=Nat.mul_le_mul_right (2 ^ (64-Lib.bitLen y)) Ci
  rw [hp,Nat.mul_assoc]at this;omega
 ·rw [<-hp]
  exact Nat.mul_lt_mul_of_pos_right hs.1 iq
section
variable{Y n1 n0 u u1 q r:Nat}
theorem JU(hY:Y=n1*4294967296+n0):q*Y=q*n1*4294967296+q*n0:=by rw [hY,Nat.mul_add,Nat.mul_assoc]
theorem dg1(hY:Y=n1*4294967296+n0)(hq:q*n1+r=u)(h:q*n0<=4294967296*r+u1):q*Y<=u*4294967296+u1:=by rw [JU hY];omega
theorem dg2(hY:Y=n1*4294967296+n0)(hq:q*n1+r=u)(h:4294967296*r+u1<q*n0):u*4294967296+u1<q*Y:=by rw [JU hY];omega
theorem dg3(hu:u<Y)(KD:u1<4294967296)(h:4294967296<=q):u*4294967296+u1<q*Y:=by
 have:=Nat.mul_le_mul_right Y h;omega
theorem dg4(hY:Y=n1*4294967296+n0)(F5:n0<4294967296)(hu:u<Y)(hq:q*n1+r=u)(hr:4294967296<=r):q*Y<=u*4294967296+u1:=by
 have h1:q*n1<4294967296*n1:=by omega
 have h2:q<4294967296:=Nat.lt_of_mul_lt_mul_right h1;have h3:q*n0<=4294967296*4294967296:=Nat.mul_le_mul (by omega) (by omega);rw [JU hY];omega
theorem O5(hu:u<Y)(KD:u1<4294967296)(h:q*Y<=u*4294967296+u1):q<4294967296:=by
 rcases Nat.lt_or_ge q 4294967296 with h'|h'
 ·exact h'
 ·have:=dg3 hu KD h';omega
theorem AB(Jg:2147483648<=n1)(hu:u<18446744073709551616)(hq:q*n1+r=u):q<8589934592:=by
 rcases Nat.lt_or_ge q 8589934592 with h|h
 ·exact h
 ·have:=Nat.mul_le_mul h Jg
  omega
end
theorem Gp{Y n1 n0 u u1:Nat}{quo rem s Ho TK:Int}{Q:aM}{w:World}(hY:Y=n1*4294967296+n0)(F5:n0<4294967296)(Jg:2147483648<=n1)(Mk:n1<4294967296)(hu:u<Y)(hY':Y<18446744073709551616)(KD:u1<4294967296)
 (hex:∀q r:Nat,q*Y<=u*4294967296+u1->u*4294967296+u1<(q+1)*Y->Q (.exit 0) (a7.e1 (Y:Int) quo rem s n1 n0 Ho u1 TK ((q:Int),(r:Int))) w)
 (q0 r0:Nat) (h0:q0*n1+r0=u) (hX0:u*4294967296+u1<(q0+1)*Y) (qG:r0<4294967296):
 Holds none [] prog 135 (.loop (lB (bB (sL (sR (sR (sR (sR (sR (sR (sR (sR (sR (sR (sR (sR (sR (sR (body a7.fn))))))))))))))))))) Q (a7.e1 (Y:Int) quo rem s n1 n0 Ho u1 TK ((q0:Int),(r0:Int))) w:=by
 refine a7.b6 (I:=fun s w'=>w'=w/\∃q r:Nat,s=((q:Int),(r:Int))/\q*n1+r=u/\u*4294967296+u1<(q+1)*Y/\r<4294967296)
  (μ:=fun s _=>s.1.toNat) (s:=((q0:Int),(r0:Int))) ⟨rfl,q0,r0,rfl,h0,hX0,qG⟩ ?_
 rintro s w' ⟨hw,q,r,rfl,hq,hX,hr⟩;subst hw;have acw:=AB Jg (by omega) hq;have down:u*4294967296+u1<q*Y->∃q' r':Nat,u64.wrap ((q:Int)-1)=(q':Int)/\u64.wrap ((r:Int)+(n1:Int))=(r':Int)/\q'*n1+r'=u/\u*4294967296+u1<(q'+1)*Y/\q'<q:=by
  intro h;have Oo:1<=q:=by
   rcases Nat.eq_zero_or_pos q with e|e
   ·rw [e]at h;omega
   ·exact e
  refine⟨q-1,r+n1,?_,?_,?_,?_,by omega⟩
  ·rw [fL (by omega) (by omega)];omega
  ·rw [fL (by omega) (by omega)];omega
  ·have:q*n1=(q-1)*n1+n1:=by
    obtain⟨k,rfl⟩:∃k,q=k+1:=⟨q-1,by omega⟩;rw [Nat.succ_mul];rfl
   omega
  ·rwa [show q-1+1=q by omega]
 have step:∀q' r':Nat,q'*n1+r'=u->u*4294967296+u1<(q'+1)*Y->q'<q->∀b:Bool,b=decide ((r':Int)>=4294967296)->
  Split b (Q (.exit 0) (a7.e1 (Y:Int) quo rem s n1 n0 Ho u1 TK ((q':Int),(r':Int))) w') (bH (a7.e1 (Y:Int) quo rem s n1 n0 Ho u1 TK) (fun s lK=>lK=w'/\∃q r:Nat,s=((q:Int),(r:Int))/\q*n1+r=u/\u*4294967296+u1<(q+1)*Y/\r<4294967296) (fun s _=>s.1.toNat) ((q:Int),(r:Int)) w' Q .normal (a7.e1 (Y:Int) quo rem s n1 n0 Ho u1 TK ((q':Int),(r':Int))) w'):=by
  intro q' r' h1 h2 h3 b hb;subst hb;refine Split.dec (fun gq=>?_) (fun cH=>?_)
  ·exact hex q' r' (dg4 hY F5 hu h1 (by omega)) h2
  ·exact⟨_,rfl,⟨rfl,q',r',rfl,h1,h2,by omega⟩,by simp only;omega⟩
 refine Split.dec (fun gq=>?_) (fun cH=>?_)
 ·obtain⟨q',r',eq,er,h1,h2,h3⟩:=down (dg3 hu KD (by simp only at gq;omega))
  simp only [eq,er];exact step q' r' h1 h2 h3 _ rfl
 ·simp only at cH
  have hqn:q*n0<18446744073709551616:=by
   have:q*n0<=4294967295*4294967295:=Nat.mul_le_mul (by omega) (by omega);omega
  have e1:u64.wrap ((q:Int)*(n0:Int))=((q*n0:Nat):Int):=by rw [<-Int.natCast_mul,fL (by omega) (by omega)]
  have e2:u64.wrap (u64.wrap (4294967296*(r:Int))+(u1:Int))=((4294967296*r+u1:Nat):Int):=by
   rw [fL (x:=4294967296*(r:Int)) (by omega) (by omega),fL (by omega) (by omega)];omega
  simp only [e1,e2];refine Split.dec (fun xf=>?_) (fun hle=>?_)
  ·obtain⟨q',r',eq,er,h1,h2,h3⟩:=down (dg2 hY hq (by omega))
   simp only [eq,er];exact step q' r' h1 h2 h3 _ rfl
  ·exact hex q r (dg1 hY hq (by omega)) hX
theorem Gn{Y n1 n0 u u1:Nat}{quo rem s q1 Hp:Int}{Q:aM}{w:World}(hY:Y=n1*4294967296+n0)(F5:n0<4294967296)(Jg:2147483648<=n1)(Mk:n1<4294967296)(hu:u<Y)(hY':Y<18446744073709551616)(KD:u1<4294967296)
 (hex:∀q r:Nat,q*Y<=u*4294967296+u1->u*4294967296+u1<(q+1)*Y->Q (.exit 2) (a7.e2 (Y:Int) quo rem s n1 n0 u1 q1 Hp ((r:Int),(q:Int))) w)
 (q0 r0:Nat) (h0:q0*n1+r0=u) (hX0:u*4294967296+u1<(q0+1)*Y) (qG:r0<4294967296):
 Holds none [] prog 135 (.loop (lB (bB (sL (sR (sR (sR (sR (sR (sR (sR (sR (sR (sR (sR (sR (sR (sR (sR (sR (sR (sR (body a7.fn))))))))))))))))))))))) Q (a7.e2 (Y:Int) quo rem s n1 n0 u1 q1 Hp ((r0:Int),(q0:Int))) w:=by
 refine a7.gI (I:=fun s w'=>w'=w/\∃q r:Nat,s=((r:Int),(q:Int))/\q*n1+r=u/\u*4294967296+u1<(q+1)*Y/\r<4294967296)
  (μ:=fun s _=>s.2.toNat) (s:=((r0:Int),(q0:Int))) ⟨rfl,q0,r0,rfl,h0,hX0,qG⟩ ?_
 rintro s w' ⟨hw,q,r,rfl,hq,hX,hr⟩;subst hw;have acw:=AB Jg (by omega) hq;have down:u*4294967296+u1<q*Y->∃q' r':Nat,u64.wrap ((q:Int)-1)=(q':Int)/\u64.wrap ((r:Int)+(n1:Int))=(r':Int)/\q'*n1+r'=u/\u*4294967296+u1<(q'+1)*Y/\q'<q:=by
  intro h;have Oo:1<=q:=by
   rcases Nat.eq_zero_or_pos q with e|e
   ·rw [e]at h;omega
   ·exact e
  refine⟨q-1,r+n1,?_,?_,?_,?_,by omega⟩
  ·rw [fL (by omega) (by omega)];omega
  ·rw [fL (by omega) (by omega)];omega
  ·have:q*n1=(q-1)*n1+n1:=by
    obtain⟨k,rfl⟩:∃k,q=k+1:=⟨q-1,by omega⟩;rw [Nat.succ_mul];rfl
   omega
  ·rwa [show q-1+1=q by omega]
 have step:∀q' r':Nat,q'*n1+r'=u->u*4294967296+u1<(q'+1)*Y->q'<q->∀b:Bool,b=decide ((r':Int)>=4294967296)->
  Split b (Q (.exit 2) (a7.e2 (Y:Int) quo rem s n1 n0 u1 q1 Hp ((r':Int),(q':Int))) w') (bH (a7.e2 (Y:Int) quo rem s n1 n0 u1 q1 Hp) (fun s lK=>lK=w'/\∃q r:Nat,s=((r:Int),(q:Int))/\q*n1+r=u/\u*4294967296+u1<(q+1)*Y/\r<4294967296) (fun s _=>s.2.toNat) ((r:Int),(q:Int)) w' Q .normal (a7.e2 (Y:Int) quo rem s n1 n0 u1 q1 Hp ((r':Int),(q':Int))) w'):=by
  intro q' r' h1 h2 h3 b hb;subst hb;refine Split.dec (fun gq=>?_) (fun cH=>?_)
  ·exact hex q' r' (dg4 hY F5 hu h1 (by omega)) h2
  ·exact⟨_,rfl,⟨rfl,q',r',rfl,h1,h2,by omega⟩,by simp only;omega⟩
 refine Split.dec (fun gq=>?_) (fun cH=>?_)
 ·obtain⟨q',r',eq,er,h1,h2,h3⟩:=down (dg3 hu KD (by simp only at gq;omega))
  simp only [eq,er];exact step q' r' h1 h2 h3 _ rfl
 ·simp only at cH
  have hqn:q*n0<18446744073709551616:=by
   have:q*n0<=4294967295*4294967295:=Nat.mul_le_mul (by omega) (by omega);omega
  have e1:u64.wrap ((q:Int)*(n0:Int))=((q*n0:Nat):Int):=by rw [<-Int.natCast_mul,fL (by omega) (by omega)]
  have e2:u64.wrap (u64.wrap (4294967296*(r:Int))+(u1:Int))=((4294967296*r+u1:Nat):Int):=by
   rw [fL (x:=4294967296*(r:Int)) (by omega) (by omega),fL (by omega) (by omega)];omega
  simp only [e1,e2];refine Split.dec (fun xf=>?_) (fun hle=>?_)
  ·obtain⟨q',r',eq,er,h1,h2,h3⟩:=down (dg2 hY hq (by omega))
   simp only [eq,er];exact step q' r' h1 h2 h3 _ rfl
  ·exact hex q r (dg1 hY hq (by omega)) hX
theorem YH(a:Nat)(ha:a<18446744073709551616):u64.wrap ((BitVec.ofInt 64 (a:Int)&&& BitVec.ofInt 64 (4294967295:Int)).toNat:Int)=((a%4294967296:Nat):Int):=by
 have h:=bits_and_u64_nat a 4294967295 ha (by omega);have e:a&&& 4294967295=a%4294967296:=Nat.and_two_pow_sub_one_eq_mod a 32;rw [e]at h;exact h
theorem orN(a b s:Nat)(ha:a*2 ^ s<18446744073709551616)(hb:b<2 ^ s)(v7:b<18446744073709551616):
 u64.wrap ((BitVec.ofInt 64 ((a*2 ^ s:Nat):Int)|||BitVec.ofInt 64 (b:Int)).toNat:Int)=((a*2 ^ s+b:Nat):Int):=by
 have h:=bits_or_u64_nat (a*2 ^ s) b ha v7;rw [Nat.mul_comm,<-Nat.two_pow_add_eq_or_of_lt hb,Nat.mul_comm]at h;exact h
theorem TS(a k:Nat):Int.fdiv (a:Int) (2 ^ k)=((a/2 ^ k:Nat):Int):=by
 rw [Int.fdiv_eq_ediv_of_nonneg _ (by exact Int.le_of_lt (Int.pow_pos (by omega)))];rw [Int.natCast_ediv,Int.natCast_pow];rfl
theorem aaG(a k:Nat):(a:Int)*2 ^ k=((a*2 ^ k:Nat):Int):=by rw [Int.natCast_mul,Int.natCast_pow];rfl
theorem aeR{N u L u1 u0 v a b:Nat}(hN:N=u*18446744073709551616+L)(hL:L=u1*4294967296+u0)(hv:u*4294967296+u1-a=v)(ha:a<=u*4294967296+u1)(hb:b<=v*4294967296+u0):a*4294967296+b<=N:=by omega
theorem aeQ{N u L u1 u0 v a b:Nat}(hN:N=u*18446744073709551616+L)(hL:L=u1*4294967296+u0)(hv:u*4294967296+u1-a=v)(ha:a<=u*4294967296+u1)(hb:v*4294967296+u0<b):N<a*4294967296+b:=by omega
section
variable{w:World}{K:Value->World->Prop}
theorem og(x:Nat)(hx:x<18446744073709551616)(hK:K (.int .i64 ((64-Lib.bitLen x:Nat):Int)) w):bj prog bits_LeadingZeros64.id #[.int .u64 x] w K:=by
 refine bits_LeadingZeros64.of (wh x hx ⟨_,rfl,?_⟩);have hle:=Lib.bitLen_le x 64 (by omega) (by omega)
 rwa [gZ (by omega) (by omega),show(64:Int)-(Lib.bitLen x:Int)=((64-Lib.bitLen x:Nat):Int)by omega]
theorem wi(hi lo y:Nat)(GY:lo<18446744073709551616)(hy:y<18446744073709551616)(hhi:hi<y)
 (hK:∀r w',Kept Nil w w'->K (.tuple #[.int .u64 (((hi*18446744073709551616+lo)/y:Nat):Int),.int .u64 r]) w'):
 bj prog a7.id #[.int .u64 hi,.int .u64 lo,.int .u64 y] w K:=by
 refine a7.of (Split.no (beq_eq_false_iff_ne.2 (by omega)) (Split.no (decide_eq_false (by omega)) ?_));by_cases h0:hi=0
 ·subst h0
  refine Split.yes rfl ?_;intro w6;refine⟨by omega,by omega,?_⟩;have e:u64.wrap ((lo:Int).tdiv (y:Int))=(((0*18446744073709551616+lo)/y:Nat):Int):=by
   rw [Int.tdiv_eq_ediv_of_nonneg (by omega),Nat.zero_mul,Nat.zero_add,<-Int.natCast_ediv];have:=Nat.div_le_self lo y;generalize lo/y=z at*;exact fL (by omega) (by omega)
  rw [e];exact hK _ w6 (Kept.refl Nil w).drew
 ·refine Split.no (beq_eq_false_iff_ne.2 (by omega)) (og y hy ⟨_,rfl,?_⟩)
  obtain⟨yI,ad7,hY1,hY2⟩:=bitLen_spec (y:=y) (by omega) hy;have hs:64-Lib.bitLen y<64:=by omega
  generalize 64-Lib.bitLen y=s at*;have eS:u64.wrap (s:Int)=(s:Int):=fL (by omega) (by omega);have eS2:u64.wrap ((64:Int)-(s:Int))=((64-s:Nat):Int):=by rw [fL (by omega) (by omega)];omega
  have em1:min s 64=s:=by omega
  have em2:min (64-s) 64=64-s:=by omega
  have em3:min (32:Int).toNat 64=32:=rfl;have Mf:2 ^ (64-s)*2 ^ s=18446744073709551616:=by rw [<-Nat.pow_add,show 64-s+s=64 by omega]
  have iq:0<2 ^ s:=Nat.pow_pos (by omega);have VO:0<2 ^ (64-s):=Nat.pow_pos (by omega);simp only [eS,eS2,Int.toNat_natCast,em1,em2,em3,aaG];generalize hYd:y*2 ^ s=Y at*;have hhs:hi*2 ^ s<18446744073709551616:=by
   have:hi*2 ^ s<y*2 ^ s:=Nat.mul_lt_mul_of_pos_right hhi iq;omega
  have hlq:lo/2 ^ (64-s)<2 ^ s:=by
   rw [Nat.div_lt_iff_lt_mul VO,Nat.mul_comm,Mf];exact GY
  have ac3:lo/2 ^ (64-s)<18446744073709551616:=Nat.lt_of_le_of_lt (Nat.div_le_self _ _) GY;have eY:u64.wrap (Y:Int)=(Y:Int):=fL (by omega) (by omega);have eH:u64.wrap ((hi*2 ^ s:Nat):Int)=((hi*2 ^ s:Nat):Int):=fL (by omega) (by omega);have eL:u64.wrap ((lo*2 ^ s:Nat):Int)=((lo*2 ^ s%18446744073709551616:Nat):Int):=by rw [IntKind.wrap_u64];omega
  have e32:∀a:Nat,Int.fdiv (a:Int) (2 ^ 32)=((a/4294967296:Nat):Int):=fun a=>TS a 32;simp only [eY,eH,eL,e32,TS lo,orN hi _ s hhs hlq ac3,YH Y (by omega),YH _ (Nat.mod_lt (lo*2 ^ s) (by omega:18446744073709551616>0))];have hN:(hi*18446744073709551616+lo)*2 ^ s=(hi*2 ^ s+lo/2 ^ (64-s))*18446744073709551616+lo*2 ^ s%18446744073709551616:=by
   have h1:lo*2 ^ s/18446744073709551616=lo/2 ^ (64-s):=by
    rw [<-Mf,Nat.mul_div_mul_right _ _ iq]
   have h2:=Nat.div_add_mod (lo*2 ^ s) 18446744073709551616;rw [h1]at h2;rw [Nat.add_mul,Nat.mul_right_comm];omega
  have ame:(hi*18446744073709551616+lo)*2 ^ s<Y*18446744073709551616:=by
   have h1:hi*18446744073709551616+lo<y*18446744073709551616:=by omega
   have:=Nat.mul_lt_mul_of_pos_right h1 iq;rw [Nat.mul_right_comm,hYd]at this;exact this
  have On:(hi*18446744073709551616+lo)*2 ^ s/Y=(hi*18446744073709551616+lo)/y:=by rw [<-hYd,Nat.mul_div_mul_right _ _ iq]
  rw [<-On]at hK;clear On;generalize (hi*18446744073709551616+lo)*2 ^ s=N at*;have hL:lo*2 ^ s%18446744073709551616<18446744073709551616:=Nat.mod_lt _ (by omega);generalize lo*2 ^ s%18446744073709551616=L at*;generalize hi*2 ^ s+lo/2 ^ (64-s)=u at*;have hu:u<Y:=by omega
  have Jg:2147483648<=Y/4294967296:=by omega
  have Mk:Y/4294967296<4294967296:=by omega
  have F5:Y%4294967296<4294967296:=by omega
  have hYe:Y=Y/4294967296*4294967296+Y%4294967296:=by omega
  have KD:L/4294967296<4294967296:=by omega
  have hu0:L%4294967296<4294967296:=by omega
  have hLe:L=L/4294967296*4294967296+L%4294967296:=by omega
  generalize Y/4294967296=n1 at*;generalize Y%4294967296=n0 at*;generalize L/4294967296=u1 at*;generalize L%4294967296=u0 at*;have O3:∀v:Nat,v<18446744073709551616->u64.wrap ((v:Int).tdiv (n1:Int))=((v/n1:Nat):Int)/\u64.wrap ((v:Int)-u64.wrap (((v/n1:Nat):Int)*(n1:Int)))=((v%n1:Nat):Int)/\v/n1*n1+v%n1=v/\v%n1<n1:=by
   intro v hv;have h1:=Nat.div_le_self v n1;have h2:=Nat.div_add_mod' v n1;refine⟨?_,?_,h2,Nat.mod_lt _ (by omega)⟩
   ·rw [Int.tdiv_eq_ediv_of_nonneg (by omega),<-Int.natCast_ediv]
    generalize v/n1=z at*;exact fL (by omega) (by omega)
   ·rw [<-Int.natCast_mul,fL (x:=((v/n1*n1:Nat):Int)) (by omega) (by omega),fL (by omega) (by omega)]
    omega
  have first:∀v d:Nat,v<Y->d<4294967296->v*4294967296+d<(v/n1+1)*Y:=by
   intro v d hv hd;have h2:=Nat.div_add_mod' v n1;have h3:=Nat.mod_lt v (show 0<n1 by omega);have h4:v+1<=(v/n1+1)*n1:=by rw [Nat.succ_mul];omega
   have h5:(v+1)*4294967296<=(v/n1+1)*n1*4294967296:=Nat.mul_le_mul_right _ h4;have h6:(v/n1+1)*n1*4294967296<=(v/n1+1)*Y:=by
    have h7:n1*4294967296<=Y:=Nat.le_trans (Nat.le_add_right _ n0) (Nat.le_of_eq hYe.symm);rw [Nat.mul_assoc];exact Nat.mul_le_mul_left _ h7
   omega
  obtain⟨g1,g2,g3,g4⟩:=O3 u (by omega);simp only [g1,g2];refine⟨by omega,by omega,by omega,by omega,by omega,by omega,by omega,?_⟩;refine Gp hYe F5 Jg Mk hu (by omega) KD ?_ (u/n1) (u%n1) g3 (first u u1 hu KD) (by omega);intro q r Oo I7;rw [show a7.e1 (Y:Int) 0 0 (s:Int) (n1:Int) (n0:Int) (u:Int) (u1:Int) (u0:Int) ((q:Int),(r:Int))= [(2,.int .u64 (Y:Int)),(6,.int .u64 0),(7,.int .u64 0),(8,.int .u64 (s:Int)),(9,.int .u64 (n1:Int)),(10,.int .u64 (n0:Int)),(11,.int .u64 (u:Int)),(13,.int .u64 (u1:Int)),(14,.int .u64 (u0:Int)),(15,.int .u64 (q:Int)),(16,.int .u64 (r:Int))]from rfl];rw [a7.cX];have hqB:=O5 hu KD Oo;rw [Nat.succ_mul]at I7;have hp:u64.wrap (u64.wrap (u64.wrap ((u:Int)*4294967296)+(u1:Int))-u64.wrap ((q:Int)*(Y:Int)))=((u*4294967296+u1-q*Y:Nat):Int):=by
   rw [<-Int.natCast_mul q Y];simp only [IntKind.wrap_u64];generalize q*Y=p at*;omega
  unfold a7.cI;simp only [hp];have hv:u*4294967296+u1-q*Y<Y:=by omega
  generalize hvd:u*4294967296+u1-q*Y=v at*;obtain⟨g1',g2',g3',g4'⟩:=O3 v (by omega);simp only [g1',g2'];refine⟨by omega,?_⟩;refine Gn hYe F5 Jg Mk hv (by omega) hu0 ?_ (v/n1) (v%n1) g3' (first v u0 hv hu0) (by omega);intro q' r' VM acx;rw [show a7.e2 (Y:Int) 0 0 (s:Int) (n1:Int) (n0:Int) (u0:Int) (q:Int) (v:Int) ((r':Int),(q':Int))= [(2,.int .u64 (Y:Int)),(6,.int .u64 0),(7,.int .u64 0),(8,.int .u64 (s:Int)),(9,.int .u64 (n1:Int)),(10,.int .u64 (n0:Int)),(14,.int .u64 (u0:Int)),(15,.int .u64 (q:Int)),(16,.int .u64 (r':Int)),(17,.int .u64 (v:Int)),(18,.int .u64 (q':Int))]from rfl];rw [a7.jJ];have akV:=O5 hv hu0 VM;refine⟨by omega,?_⟩;have acb:u64.wrap (u64.wrap ((q:Int)*4294967296)+(q':Int))=((N/Y:Nat):Int):=by
   rw [fL (x:=(q:Int)*4294967296) (by omega) (by omega),fL (by omega) (by omega)];have:N/Y=q*4294967296+q':=by
    apply Nat.div_eq_of_lt_le
    ·rw [Nat.add_mul,Nat.mul_right_comm]
     exact aeR hN hLe hvd Oo VM
    ·rw [Nat.add_assoc,Nat.add_mul,Nat.mul_right_comm]
     exact aeQ hN hLe hvd Oo acx
   rw [this];omega
  rw [acb];exact hK _ w (Kept.refl Nil w)
end
end Go.Proofs.YtnboahlopghcjaaGreatDoor.Tr
namespace Go.Proofs.YtnboahlopghcjaaGreatDoor.Tr
open Go.Proofs.Tryz
structure kY(T T':List Nd):Prop where
 len:T'.length=T.length
 at_:∀(i:Nat) nd,T[i]? =some nd->∃nd',T'[i]? =some nd'/\nd'.parent=nd.parent/\nd'.ch=nd.ch
theorem kY.refl(T:List Nd):kY T T:=⟨rfl,fun _ nd h=>⟨nd,h,rfl,rfl⟩⟩
theorem kY.trans{T T' Em:List Nd}(h:kY T T')(h':kY T' Em):kY T Em:=⟨h'.len.trans h.len,fun i nd hi=>by
 obtain⟨nd',h1,h2,h3⟩:=h.at_ i nd hi;obtain⟨aa0,g1,g2,g3⟩:=h'.at_ i nd' h1;exact⟨aa0,g1,g2.trans h2,g3.trans h3⟩⟩
theorem kY.back{T T':List Nd}(h:kY T T'){i:Nat}{nd':Nd}(hi:T'[i]? =some nd'):∃nd,T[i]? =some nd/\nd'.parent=nd.parent/\nd'.ch=nd.ch:=by
 have cH:=(lgeS hi).1;obtain⟨nd,dW⟩:=fJ (T:=T) (i:=i) (by rw [<-h.len];exact cH);obtain⟨x,h1,h2,h3⟩:=h.at_ i nd dW;rw [hi]at h1;cases h1;exact⟨nd,dW,h2,h3⟩
theorem kY.bP{T T':List Nd}(h:kY T T'):bP T'=bP T:=by
 apply List.ext_getElem?;intro i;rcases Nat.lt_or_ge i T.length with hi|hi
 ·obtain⟨nd,dW⟩:=fJ hi
  obtain⟨nd',h1,h2,_⟩:=h.at_ i nd dW;rw [kO dW,kO h1,h2]
 ·rw [List.getElem?_eq_none (by rw [eU,h.len];exact hi),List.getElem?_eq_none (by rw [eU];exact hi)]
theorem kY.shape{T T':List Nd}(h:kY T T')(hS:Shape T):Shape T':=⟨by rw [h.bP];exact hS.par,fun i nd' hi=>by
 obtain⟨nd,dW,_,h3⟩:=h.back hi;rw [h.bP,h3,hS.ch i nd dW]⟩
theorem kY.set{T:List Nd}{i:Nat}{nd nd':Nd}(hi:T[i]? =some nd)(h1:nd'.parent=nd.parent)(h2:nd'.ch=nd.ch):kY T (T.set i nd'):=
 ⟨by simp,fun j x hj=>by
   by_cases e:i=j
   ·subst e
    rw [hi]at hj;cases hj;exact⟨nd',iC hi,h1,h2⟩
   ·exact⟨x,nZ hj e,rfl,rfl⟩⟩
theorem xj{T:List Nd}{n p:Nat}{nd pd:Nd}{many:Int}(hn:T[n]? =some nd)(hp:T[p]? =some pd)(fD:n≠p)(i:Nat):
 (vf T n p nd pd many)[i]? =if i=p then some {pd with free:=pd.free+many}else if i=n then some {nd with lo:=pd.free,hi:=pd.free+many-1,free:=pd.free}else T[i]? :=by
 unfold vf;by_cases e:i=p
 ·subst e
  rw [if_pos rfl];exact iC (nZ hp fD)
 ·rw [if_neg e,List.getElem?_set_ne (fun h=>e h.symm)]
  by_cases e2:i=n
  ·subst e2
   rw [if_pos rfl];exact iC hn
  ·rw [if_neg e2,List.getElem?_set_ne (fun h=>e2 h.symm)]
theorem ve{T:List Nd}{n p:Nat}{nd pd:Nd}(many:Int)(hn:T[n]? =some nd)(hp:T[p]? =some pd)(fD:n≠p):kY T (vf T n p nd pd many):=
 (kY.set (nd':= {nd with lo:=pd.free,hi:=pd.free+many-1,free:=pd.free}) hn rfl rfl).trans (kY.set (nd:=pd) (nd':= {pd with free:=pd.free+many}) (nZ hp fD) rfl rfl)
theorem y5{l:List Nat}(hs:l.Pairwise (· < ·)){k c:Nat}(hc:l[k]? =some c):∀y,y∈l.take k->y<c:=by
 intro y hy;obtain⟨j,hj⟩:=List.mem_iff_getElem?.1 hy;rw [List.getElem?_take]at hj;split at hj
 ·rename_i cH
  obtain⟨h1,e1⟩:=lgeS hj;obtain⟨h2,e2⟩:=lgeS hc;rw [<-e1,<-e2];exact List.pairwise_iff_getElem.1 hs j k h1 h2 cH
 ·cases hj
theorem nN{l:List Nat}{k c:Nat}(hc:l[k]? =some c):l.take (k+1)=l.take k++ [c]:=by
 rw [List.take_add_one,hc];rfl
structure pC(P:List Int)(T1:List Nd)(x:Nat)(xd:Nd)(half:Int)(k:Nat)(T':List Nd)(f:Int):Prop where
 nO:kY T1 T'
 here:T'[x]? =some {xd with free:=f}
 rest:∀y,y≠x->y∉xd.ch.take k->T'[y]? =T1[y]?
 lo:xd.lo+(((xd.ch.take k).map (sz P)).sum:Nat)<=f
 up:(f-xd.lo-(((xd.ch.take k).map (sz P)).sum:Nat))*(sz P x:Int)<=half*(((xd.ch.take k).map (sz P)).sum:Nat)
 ou:∀c cd,c∈xd.ch.take k->T'[c]? =some cd->xd.lo<=cd.lo/\cd.hi<f/\(sz P c:Int)<=cd.hi-cd.lo+1
 ord:∀c c' cd vv,c∈xd.ch.take k->c'∈xd.ch.take k->c<c'->T'[c]? =some cd->T'[c']? =some vv->cd.hi<vv.lo
section
variable{P:List Int}{T1 T':List Nd}{x:Nat}{xd:Nd}{half f:Int}{k:Nat}
theorem pC.start(hx:T1[x]? =some xd)(hf:xd.free=xd.lo):pC P T1 x xd half 0 T1 xd.lo:= {
 nO:=kY.refl _
 here:=by obtain⟨a,b,c,d,e⟩:=xd;simp only at hf;subst hf;exact hx
 rest:=fun _ _ _=>rfl
 lo:=by simp
 up:=by simp
 ou:=fun c cd hc=>by simp at hc
 ord:=fun c c' cd vv hc=>by simp at hc}
theorem pC.bound(h:pC P T1 x xd half k T' f)(hh:0<=half)(SU:1<=sz P x)(IW:((xd.ch.take k).map (sz P)).sum<=sz P x):f<=xd.lo+(((xd.ch.take k).map (sz P)).sum:Nat)+half:=by
 have h1:half*(((xd.ch.take k).map (sz P)).sum:Nat)<=half*(sz P x:Int):=Int.mul_le_mul_of_nonneg_left (by omega) hh;have h2:=Int.le_trans h.up h1;have h3:=Int.le_of_mul_le_mul_right h2 (by omega);omega
theorem pC.step(h:pC P T1 x xd half k T' f)(hs:xd.ch.Pairwise (· < ·)){c:Nat}(hx:∀y,y∈xd.ch->x<y)(hc:xd.ch[k]? =some c){cd:Nd}(jv:T'[c]? =some cd)
 {more:Int} (Ac:0<=more) (hm:more*(sz P x:Int)<=half*(sz P c:Int)) (DV:1<=sz P c):
 pC P T1 x xd half (k+1) (vf T' c x cd {xd with free:=f} ((sz P c:Int)+more)) (f+((sz P c:Int)+more)):=by
 have cH:=y5 hs hc;have hxc:x<c:=hx c (List.mem_of_getElem? hc);have V8:c∉xd.ch.take k:=fun hh=>Nat.lt_irrefl _ (cH c hh);have fE:=xj (many:=(sz P c:Int)+more) jv h.here (by omega);have IW:((xd.ch.take (k+1)).map (sz P)).sum=((xd.ch.take k).map (sz P)).sum+sz P c:=by rw [nN hc];simp
 have ig:∀y,y∈xd.ch.take (k+1)↔y∈xd.ch.take k\/y=c:=by intro y;rw [nN hc];simp
 exact {
  nO:=h.nO.trans (ve _ jv h.here (by omega))
  here:=by rw [fE,if_pos rfl]
  rest:=fun y hy hn=>by
   rw [fE,if_neg hy,if_neg (fun e=>hn ((ig y).2 (.inr e)))];exact h.rest y hy (fun hh=>hn ((ig y).2 (.inl hh)))
  lo:=by rw [IW];have:=h.lo;omega
  up:=by
   rw [IW];have h1:=h.up;have e1:(f+((sz P c:Int)+more)-xd.lo-((((xd.ch.take k).map (sz P)).sum+sz P c:Nat):Int))*(sz P x:Int)=(f-xd.lo-((((xd.ch.take k).map (sz P)).sum:Nat):Int))*(sz P x:Int)+more*(sz P x:Int):=by
    rw [<-Int.add_mul];congr 1;omega
   have e2:half*((((xd.ch.take k).map (sz P)).sum+sz P c:Nat):Int)=half*((((xd.ch.take k).map (sz P)).sum:Nat):Int)+half*(sz P c:Int):=by
    rw [<-Int.mul_add];congr 1
   rw [e1,e2];omega
  ou:=fun y yd hy Cc=>by
   have GY:=h.lo;rw [fE]at Cc;rcases(ig y).1 hy with hh|rfl
   ·have h1:=cH y hh
    have h2:=hx y (List.mem_of_mem_take hh);rw [if_neg (by omega),if_neg (by omega)]at Cc;have:=h.ou y yd hh Cc;exact⟨this.1,by omega,this.2.2⟩
   ·rw [if_neg (by omega),if_pos rfl]at Cc
    cases Cc;refine⟨?_,?_,?_⟩<;>simp only<;>omega
  ord:=fun a b ad bd ha hb lG OX OQ=>by
   rw [fE]at OX OQ;rcases(ig b).1 hb with v7|rfl
   ·have h1:=cH b v7
    rcases(ig a).1 ha with Bp|rfl
    ·have h2:=hx a (List.mem_of_mem_take Bp)
     rw [if_neg (by omega),if_neg (by omega)]at OX OQ;exact h.ord a b ad bd Bp v7 lG OX OQ
    ·omega
   ·rcases(ig a).1 ha with Bp|rfl
    ·have h1:=cH a Bp
     have h2:=hx a (List.mem_of_mem_take Bp);rw [if_neg (by omega),if_neg (by omega)]at OX;rw [if_neg (by omega),if_pos rfl]at OQ;cases OQ;exact(h.ou a ad Bp OX).2.1
    ·omega}
end
structure nz(P:List Int)(T0:List Nd)(m:Nat)(T':List Nd)(q:List Nat)(i:Nat):Prop where
 nO:kY T0 T'
 nodup:q.Nodup
 oD:∀y,y∈q->jK P y m
 fst:m∈q
 src:∀y,y∈q->y=m\/∃z:Nat,z∈q.take i/\P[y]? =some (z:Int)
 Z8:∀z,z∈q.take i->∀c,c∈kids P z->c∈q
 rest:∀y,y∉q->T'[y]? =T0[y]?
 top:∀md Uk,T0[m]? =some md->T'[m]? =some Uk->Uk.lo=md.lo/\Uk.hi=md.hi
 room:∀y yd,y∈q->T'[y]? =some yd->1<=yd.lo/\yd.hi<=4611686018427387904/\(sz P y:Int)<=yd.hi-yd.lo+1
 loc:∀z zd,z∈q.take i->T'[z]? =some zd->Loc T' zd
theorem nz.start{P:List Int}{T0:List Nd}{m:Nat}{md:Nd}(hm:m<P.length)(xe:T0[m]? =some md)(h1:1<=md.lo)(h2:md.hi<=4611686018427387904)(h3:(sz P m:Int)<=md.hi-md.lo+1):
 nz P T0 m T0 [m] 0:= {
 nO:=kY.refl _
 nodup:=by simp
 oD:=fun y hy=>by simp at hy;subst hy;exact .refl hm
 fst:=by simp
 src:=fun y hy=>by simp at hy;exact .inl hy
 Z8:=fun z hz=>by simp at hz
 rest:=fun _ _=>rfl
 top:=fun a b ha hb=>by rw [ha]at hb;cases hb;exact⟨rfl,rfl⟩
 room:=fun y yd hy Cc=>by
  simp at hy;subst hy;rw [xe]at Cc;cases Cc;exact⟨h1,h2,h3⟩
 loc:=fun z zd hz=>by simp at hz}
section
variable{T0 T' Em:List Nd}{m x i:Nat}{q:List Nat}{xd:Nd}{f half:Int}
theorem nz.step(hS:Shape T0)(h:nz (bP T0) T0 m T' q i)(hq:q[i]? =some x)(KA:T'[x]? =some xd)
 (D8:0<=half) (adi:half*2<=xd.hi-xd.lo-((sz (bP T0) x:Int)-1))
 (fN:pC (bP T0) (T'.set x {xd with free:=xd.lo}) x {xd with free:=xd.lo} half xd.ch.length Em f):
 nz (bP T0) T0 m Em (q++xd.ch) (i+1):=by
 have ZS:=h.nO.shape hS;have hpe:=h.nO.bP;have hP:=hS.par;have oH:xd.ch=kids (bP T0) x:=by rw [ZS.ch x xd KA,hpe]
 have dQ:i<q.length:=(lgeS hq).1;have IN:x∈q:=List.mem_of_getElem? hq;have tZ:x<(bP T0).length:=(h.oD x IN).lt;have x9:q.take (i+1)=q.take i++ [x]:=nN hq;have QH:(q++xd.ch).take (i+1)=q.take i++ [x]:=by rw [List.take_append_of_le_length (by omega),x9]
 have NY:x∉q.take i:=by
  intro hh;have hn:(q.take i++ [x]).Nodup:=by rw [<-x9];exact h.nodup.sublist (List.take_sublist _ _)
  rw [List.nodup_append]at hn;exact hn.2.2 x hh x (by simp) rfl
 have F6:∀c,c∈xd.ch->(bP T0)[c]? =some (x:Int):=fun c hc=>eV.1 (oH▸hc);have xf:∀c,c∈xd.ch->x<c:=fun c hc=>(iN hP (oH▸hc)).1;have mI:∀c,c∈xd.ch->c∉q:=by
  intro c hc ZK;rcases h.src c ZK with rfl|⟨z,hz,Zx⟩
  ·have:=(h.oD x IN).le hP
   have:=xf _ hc;omega
  ·rw [F6 c hc]at Zx
   have:z=x:=by have:=Option.some.inj Zx;omega
   exact NY (this▸hz)
 have aj7:x∉xd.ch:=fun hh=>Nat.lt_irrefl _ (xf x hh);have cZ:∀c,c∈(({xd with free:=xd.lo}:Nd).ch.take xd.ch.length)↔c∈xd.ch:=by intro c;simp
 have IW:(xd.ch.map (sz (bP T0))).sum+1=sz (bP T0) x:=by
  rw [oH];exact Dn hP tZ
 have iq:=uj hP tZ;have Td:=fN.bound D8 iq (by simp only [List.take_length];omega);have adz:=fN.lo;simp only [List.take_length]at Td adz;have adA:f<=xd.hi:=by omega
 have hT1:∀y,y≠x->(T'.set x {xd with free:=xd.lo})[y]? =T'[y]? :=fun y hy=>List.getElem?_set_ne (fun e=>hy e.symm);have I5:∀y,y≠x->y∉xd.ch->Em[y]? =T'[y]? :=fun y hy hn=>by
  rw [fN.rest y hy (fun hh=>hn ((cZ y).1 hh)),hT1 y hy]
 have OH:Em[x]? =some {xd with free:=f}:=fN.here;have hxr:=h.room x xd IN KA;have hlh:xd.lo<=xd.hi:=by omega
 have hold:∀y yO,y∉xd.ch->Em[y]? =some yO->∃yd,T'[y]? =some yd/\yd.lo=yO.lo/\yd.hi=yO.hi:=by
  intro y yO hn hy;by_cases e:y=x
  ·subst e
   rw [OH]at hy;cases hy;exact⟨xd,KA,rfl,rfl⟩
  ·rw [I5 y e hn]at hy
   exact⟨yO,hy,rfl,rfl⟩
 exact {
  nO:=(h.nO.trans (kY.set (nd':= {xd with free:=xd.lo}) KA rfl rfl)).trans fN.nO
  nodup:=by
   rw [List.nodup_append];refine⟨h.nodup,?_,fun a ha b hb e=>mI b hb (e▸ha)⟩;rw [oH];exact(tp _ _).imp (fun h=>by omega)
  oD:=fun y hy=>by
   rcases List.mem_append.1 hy with hy|hy
   ·exact h.oD y hy
   ·exact .step (F6 y hy) (h.oD x IN)
  fst:=List.mem_append.2 (.inl h.fst)
  src:=fun y hy=>by
   rw [QH];rcases List.mem_append.1 hy with hy|hy
   ·rcases h.src y hy with e|⟨z,hz,Zx⟩
    ·exact .inl e
    ·exact .inr ⟨z,List.mem_append.2 (.inl hz),Zx⟩
   ·exact .inr ⟨x,by simp,F6 y hy⟩
  Z8:=fun z hz c hc=>by
   rw [QH]at hz;rcases List.mem_append.1 hz with hz|hz
   ·exact List.mem_append.2 (.inl (h.Z8 z hz c hc))
   ·simp at hz
    subst hz;exact List.mem_append.2 (.inr (oH▸hc))
  rest:=fun y hy=>by
   have h1:y∉q:=fun hh=>hy (List.mem_append.2 (.inl hh));have h2:y∉xd.ch:=fun hh=>hy (List.mem_append.2 (.inr hh));rw [I5 y (fun e=>h1 (e▸IN)) h2,h.rest y h1]
  top:=fun md aa3 xe Wm=>by
   obtain⟨Uk,h1,h2,h3⟩:=hold m aa3 (fun hh=>mI m hh h.fst) Wm;have:=h.top md Uk xe h1;omega
  room:=fun y yO hy NX=>by
   rcases List.mem_append.1 hy with hy|hy
   ·obtain⟨yd,h1,h2,h3⟩:=hold y yO (fun hh=>mI y hh hy) NX
    have:=h.room y yd hy h1;omega
   ·have:=fN.ou y yO ((cZ y).2 hy) NX
    simp only at this;omega
  loc:=fun z zd hz hzd=>by
   rw [QH]at hz;rcases List.mem_append.1 hz with hz|hz
   ·have hzq:z∈q:=List.mem_of_mem_take hz
    have U8:z≠x:=fun e=>NY (e▸hz);have Qu:=hzd;rw [I5 z U8 (fun hh=>mI z hh hzq)]at Qu;have hl:=h.loc z zd hz Qu;have abF:zd.ch=kids (bP T0) z:=by rw [ZS.ch z zd Qu,hpe]
    have ZL:∀c,c∈zd.ch->c∉xd.ch:=by
     intro c hc OJ;have h1:=F6 c OJ;rw [eV.1 (abF▸hc:c∈kids (bP T0) z)]at h1;have:=Option.some.inj h1;omega
    exact {
     G5:=hl.G5
     CH:=hl.CH
     sub:=fun c cd hc jv=>by
      obtain⟨vv,h1,h2,h3⟩:=hold c cd (ZL c hc) jv;have:=hl.sub c vv hc h1;omega
     ord:=fun c c' cd vv hc tN Ag jv qI=>by
      obtain⟨ed,h1,h2,h3⟩:=hold c cd (ZL c hc) jv;obtain⟨R0,rK,rJ,Ec⟩:=hold c' vv (ZL c' tN) qI;have:=hl.ord c c' ed R0 hc tN Ag h1 rK;omega}
   ·simp at hz
    subst hz;rw [OH]at hzd;cases hzd;exact {
     G5:=by simp only;omega
     CH:=adA
     sub:=fun c cd hc jv=>by
      have:=fN.ou c cd ((cZ c).2 hc) jv;simp only at this⊢;omega
     ord:=fun c c' cd vv hc tN Ag jv qI=>fN.ord c c' cd vv ((cZ c).2 hc) ((cZ c').2 tN) Ag jv qI}}
theorem nz.fin(hS:Shape T0)(h:nz (bP T0) T0 m T' q i)(hi:q.length<=i)
 (VW:∀y nd,T0[y]? =some nd->¬jK (bP T0) y m->Iv nd/\Loc T0 nd):Good T':=by
 have ZS:=h.nO.shape hS;have hpe:=h.nO.bP;have hP:=hS.par;have x9:q.take i=q:=List.take_of_length_le hi;have qH:∀y,jK (bP T0) y m->y∈q:=by
  have:∀y k,jK (bP T0) y k->k=m->y∈q:=by
   intro y k hu
   induction hu with
   |refl=>intro e;subst e;exact h.fst
   | @step a b c hp h' ih=>intro e;exact h.Z8 b (by rw [x9];exact ih e) a (eV.2 hp)
  exact fun y hu=>this y m hu rfl
 have hq:∀y,y∈q↔jK (bP T0) y m:=fun y=>⟨h.oD y,qH y⟩;refine⟨ZS,fun y yd Cc=>?_,fun y yd Cc=>?_⟩
 ·by_cases hy:y∈q
  ·have hr:=h.room y yd hy Cc
   have:=uj hP (h.oD y hy).lt;exact⟨hr.1,by omega,hr.2.1⟩
  ·rw [h.rest y hy]at Cc
   exact(VW y yd Cc (fun hu=>hy (qH y hu))).1
 ·by_cases hy:y∈q
  ·exact h.loc y yd (by rw [x9];exact hy) Cc
  ·have Qw:=Cc
   rw [h.rest y hy]at Qw;have hl:=(VW y yd Qw (fun hu=>hy (qH y hu))).2;have oH:=hS.ch y yd Qw;have hold:∀c cd,c∈yd.ch->T'[c]? =some cd->∃ed,T0[c]? =some ed/\ed.lo=cd.lo/\ed.hi=cd.hi:=by
    intro c cd hc jv;by_cases ZK:c∈q
    ·have hpc:=eV.1 (oH▸hc:c∈kids (bP T0) y)
     have nX:c=m:=by
      by_cases e:c=m
      ·exact e
      ·exact absurd (qH y ((h.oD c ZK).inv e hpc)) hy
     subst nX;obtain⟨ed,hed,_⟩:=h.nO.back jv;have:=h.top ed cd hed jv;exact⟨ed,hed,by omega,by omega⟩
    ·rw [h.rest c ZK]at jv
     exact⟨cd,jv,rfl,rfl⟩
   exact {
    G5:=hl.G5
    CH:=hl.CH
    sub:=fun c cd hc jv=>by
     obtain⟨ed,h1,h2,h3⟩:=hold c cd hc jv;have:=hl.sub c ed hc h1;omega
    ord:=fun c c' cd vv hc tN Ag jv qI=>by
     obtain⟨ed,h1,h2,h3⟩:=hold c cd hc jv;obtain⟨R0,rK,rJ,Ec⟩:=hold c' vv tN qI;have:=hl.ord c c' ed R0 hc tN Ag h1 rK;omega}
end
open Go Go.RowKit Go.bT
theorem PT{l:List Nat}{a:Nat}(h:a∈l):a<=l.sum:=by
 induction l with
 |nil=>simp at h
 |cons b l ih=>
  rw [List.sum_cons];rcases List.mem_cons.1 h with rfl|h
  ·omega
  ·have:=ih h;omega
theorem zV{l:List Nat}{j x:Nat}(h:l[j]? =some x):(ints l)[j]? =some (.int .i64 (x:Int)):=by simp [ints,h]
theorem IL(l:List Nat):(ints l).length=l.length:=by simp [ints]
theorem IK(l:List Nat):∀u∈ints l,u.oneCell'=true:=by
 intro u hu;simp only [ints,List.mem_map]at hu;obtain⟨x,_,rfl⟩:=hu;rfl
structure Dl(w0:World)(S:Nat->Prop)(g b c B0 B1 len:Nat)(P:List Int)(d:Int)(As:Option Addr)(w:World)(T':List Nd)(L:List (Nd×Value))(Aq:Option Addr)(nq cq:Nat)(q:List Nat):Prop where
 tv:TV w S g T' d b c L
 rs:Row w B0 iF 1 As len len (us (sz P) len)
 sb:∀k,aW As=some k->k<B1
 rq:Row w B1 iO 1 Aq nq cq (ints q)
 kp:Kept S w0 w
 hS:∀k,S k->k<B0
 hB:B0<=B1
 JI:B1<=w.heap.size
 h0:w0.heap.size<=B0
section
variable{w0 w w':World}{S:Nat->Prop}{g b c B0 B1 len:Nat}{P:List Int}{d:Int}{As:Option Addr}{T' Em:List Nd}{L L':List (Nd×Value)}{Aq:Option Addr}{nq cq:Nat}{q:List Nat}
theorem Dl.Lf(h:Dl w0 S g b c B0 B1 len P d As w T' L Aq nq cq q):nq=q.length:=by
 have:=Row.len h.rq;rw [IL]at this;omega
theorem Dl.quiet(h:Dl w0 S g b c B0 B1 len P d As w T' L Aq nq cq q)(hk:Kept Nil w w'):Dl w0 S g b c B0 B1 len P d As w' T' L Aq nq cq q:= {
 tv:=h.tv.kept hk
 rs:=Row.az h.rs hk (fun _ _ h=>h)
 sb:=h.sb
 rq:=Row.az h.rq hk (fun _ _ h=>h)
 kp:=h.kp.trans hk (fun _ _ h=>h.elim)
 hS:=h.hS
 hB:=h.hB
 JI:=Nat.le_trans h.JI hk.size
 h0:=h.h0}
theorem Dl.wrote(h:Dl w0 S g b c B0 B1 len P d As w T' L Aq nq cq q)(hk:Kept (fun k=>k=b) w w')(ht:TV w' S g Em d b c L'):Dl w0 S g b c B0 B1 len P d As w' Em L' Aq nq cq q:= {
 tv:=ht
 rs:=Row.az h.rs hk (fun k e e2=>by have:=(Row.bz h.rs e).1;have:=h.hS b h.tv.fR;omega)
 sb:=h.sb
 rq:=Row.az h.rq hk (fun k e e2=>by have:=(Row.bz h.rq e).1;have:=h.hS b h.tv.fR;have:=h.hB;omega)
 kp:=h.kp.trans hk (fun k _ e=>by rw [e];exact h.tv.fR)
 hS:=h.hS
 hB:=h.hB
 JI:=Nat.le_trans h.JI hk.size
 h0:=h.h0}
theorem Dl.DA(h:Dl w0 S g b c B0 B1 len P d As w T' L Aq nq cq q){j:Nat}(hj:j<len){k:Int->Prop}(hk:k (sz P j)):
 Is As fun a=>∃t,w.cell? (a.add (j*1))=some (.int .u64 t)/\k t:=by
 have hr:=h.rs;obtain⟨b',rfl⟩:=Row.some hr (by omega);exact⟨_,by rw [km,Nat.mul_one];exact Row.cell hr (oL _ hj),hk⟩
theorem Dl.T8(h:Dl w0 S g b c B0 B1 len P d As w T' L Aq nq cq q){j x:Nat}(hj:q[j]? =some x){k:Int->Prop}(hk:k x):
 Is Aq fun a=>∃t,w.cell? (a.add (j*1))=some (.int .i64 t)/\k t:=by
 have hr:=h.rq;have cH:=(lgeS hj).1;obtain⟨b',rfl⟩:=Row.some hr (by rw [h.Lf];omega);exact⟨_,by rw [km,Nat.mul_one];exact Row.cell hr (zV hj),hk⟩
theorem Dl.push(h:Dl w0 S g b c B0 B1 len P d As w T' L Aq nq cq q)(vF:q.length<=4000000)(x:Nat){w1:World}(e1:w1=w.alloc (.cells #[.int .i64 (x:Int)] iO)):
 ∃KS KN w2,(Builtin.append_ #[im,im] im #[.slice Aq nq cq,.slice (some ⟨w.heap.size,0,none⟩) 1 1]).run prog w1=.ok (.slice KS (nq+1) KN) w2/\
  Dl w0 S g b c B0 B1 len P d As w2 T' L KS (nq+1) KN (q++ [x])/\(∀S0:Nat->Prop,(∀k,aW Aq=some k->S0 k)->Kept S0 w w2):=by
 subst e1;generalize KB:w.alloc (.cells #[.int .i64 (x:Int)] iO)=w1;have mI:w1.heap[w.heap.size]? =some (.cells #[.int .i64 (x:Int)] iO (0,0)):=by rw [<-KB];exact aH w _
 have k1:Kept Nil w w1:=by rw [<-KB];exact(Kept.refl Nil w).alloc _
 have h1:=h.quiet k1;have Mb:=h.Lf;obtain⟨A',c',w2,hr,eI,hg,Ai⟩:=dS (P:=prog) (t:=im) (ty:=im) HA h1.rq (a:=⟨w.heap.size,0,none⟩) (m:=1) (cx:=1)
  (news:=ints [x]) rfl (fun j u hj=>by rw [km,ay mI];simpa [ints]using hj) (IK _) (by omega) (by unfold maxLen;omega) h1.JI
 have kA:Kept (fun k=>aW Aq=some k) w1 w2:=(Kept.refl _ w1).grown hg (fun k hk _=>hk);have gq:∀k,aW Aq=some k->B1<=k:=fun k e=>(Row.bz h.rq e).1;refine⟨A',c',w2,hr,?_,fun S0 h0=>(k1.mono (S':=S0) (fun _ _ h=>h.elim)).trans kA (fun k _ e=>h0 k e)⟩;exact {
  tv:=h1.tv.az kA (fun k hk e=>by have:=h.hS k hk;have:=gq k e;have:=h.hB;omega)
  rs:=Row.az h1.rs kA (fun k e e2=>by have:=h.sb k e;have:=gq k e2;omega)
  sb:=h.sb
  rq:=by simpa [ints]using eI
  kp:=(h.kp.trans k1 (fun _ _ h=>h.elim)).trans kA (fun k hk e=>absurd (gq k e) (by have:=h.hB;have:=h.h0;omega))
  hS:=h.hS
  hB:=h.hB
  JI:=Nat.le_trans h1.JI kA.size
  h0:=h.h0}
theorem CJ{T0 T1:List Nd}{x:Nat}{xd:Nd}{half:Nat}{spare i:Int}{Y0:Option Addr}{Za:Nat}{Qo:aM}
 (D:Dl w0 S g b c B0 B1 T0.length (bP T0) d As w T1 L Aq nq cq q) (hS:Shape T0) (Zu:kY T0 T1) (hlen:T0.length<=1000000) (Mb:q.length<=1000000)
 (hx:T1[x]? =some xd) (Ae:xd.free=xd.lo) (GY:0<=xd.lo) (hhi:xd.hi<=4611686018427387904) (D8:(half:Int)*2<=xd.hi-xd.lo-((sz (bP T0) x:Int)-1))
 (GR:u64.wrap (spare.tdiv 2)=(half:Int)) (adL:Row w 0 iO 1 Y0 xd.ch.length Za (ints xd.ch)) (Xh:∀k,aW Y0=some k->S k/\k≠b)
 (hex:∀w' Em f L' KS KN,Dl w0 S g b c B0 B1 T0.length (bP T0) d As w' Em L' KS (nq+xd.ch.length) KN (q++xd.ch)->pC (bP T0) T1 x xd half xd.ch.length Em f->
   Qo .normal [(0,.pointer (some ⟨g,0,none⟩)),(4,.slice As T0.length T0.length),(5,.slice KS (nq+xd.ch.length) KN),(6,.int .i64 (i64.wrap (i+1)))] w'):
 Holds none [] prog 164 (.loop (lB (bB (sR (sR (sR (sR (bB (sL (sR (lB (bB (sR (sR (sR (sR (sR (body aw.fn)))))))))))))))))) (aw.q3 Qo) (aw.e3 (some ⟨g,0,none⟩) As T0.length T0.length i x spare Y0 xd.ch.length Za xd.ch.length (Aq,nq,cq,0)) w:=by
 have hP:=hS.par;have qk:=eU T0;have oH:xd.ch=kids (bP T0) x:=by
  have:=(Zu.shape hS).ch x xd hx
  rwa [Zu.bP]at this
 have tZ:x<T0.length:=by rw [<-Zu.len];exact(lgeS hx).1
 have L5:xd.ch.Pairwise (· < ·):=by rw [oH];exact tp _ _
 have xf:∀y,y∈xd.ch->x<y:=fun y hy=>(iN hP (oH▸hy)).1;have Jr:xd.ch.length<=1000000:=by rw [oH];exact Nat.le_trans (zI _ _) (by omega)
 have IW:(xd.ch.map (sz (bP T0))).sum+1=sz (bP T0) x:=by rw [oH];exact Dn hP (by omega)
 have iq:=uj hP (n:=x) (by omega);have ab2:=wA (P:=bP T0) x;have hnq:=D.Lf;refine aw.rr (I:=fun s w'=>∃(k:Nat) (T':List Nd) (f:Int) (L':List (Nd×Value)) (KS:Option Addr) (KN:Nat),s=(KS,nq+k,KN,(k:Int))/\k<=xd.ch.length/\
  Dl w0 S g b c B0 B1 T0.length (bP T0) d As w' T' L' KS (nq+k) KN (q++xd.ch.take k)/\pC (bP T0) T1 x xd half k T' f/\Row w' 0 iO 1 Y0 xd.ch.length Za (ints xd.ch))
  (μ:=fun s _=>((xd.ch.length:Int)-s.2.2.2).toNat) (s:=(Aq,nq,cq,0)) ⟨0,T1,xd.lo,L,Aq,cq,rfl,Nat.zero_le _,by simpa using D,pC.start hx Ae,adL⟩ ?_
 rintro s w' ⟨k,T',f,L',KS,KN,rfl,hk,D',fN,hr⟩;refine Split.dec (fun cH=>?_) (fun gq=>?_)
 ·simp only at cH
  have yh:k<xd.ch.length:=by omega
  obtain⟨ci,ZM⟩:∃ci,xd.ch[k]? =some ci:=⟨_,List.getElem?_eq_getElem yh⟩;have nX:ci∈xd.ch:=List.mem_of_getElem? ZM;have hck:ci∈kids (bP T0) x:=oH▸nX;have qH:ci<T0.length:=by have:=(iN hP hck).2;omega
  have hxc:=xf ci nX;have DV:=uj hP (n:=ci) (by omega);have aku:=wA (P:=bP T0) ci;have Vo:=Zu.trans fN.nO;obtain⟨cd,jv⟩:=fJ (T:=T') (i:=ci) (by rw [Vo.len];exact qH);have Xg:cd.parent=x:=by
   have h1:=kO jv;rw [Vo.bP,eV.1 hck]at h1;exact(Option.some.inj h1).symm
  have ab5:sz (bP T0) ci<=sz (bP T0) x:=by
   have:=PT (l:=xd.ch.map (sz (bP T0))) (a:=sz (bP T0) ci) (List.mem_map.2 ⟨ci,nX,rfl⟩);omega
  have Xs:0<=(ci:Int)/\(ci:Int)<(T0.length:Int):=⟨by omega,by omega⟩;have jg:0<=(x:Int)/\(x:Int)<(T0.length:Int):=⟨by omega,by omega⟩;have adh:half<4611686018427387904:=by omega
  obtain⟨bch,ad1⟩:=Row.some hr (by omega);subst ad1;refine⟨⟨by simp only;omega,by simp only;omega⟩,_,by simp only [km,Int.toNat_natCast,Nat.mul_one];exact Row.cell hr (zV ZM),by decide,Xs,D'.DA qH ?_⟩;rw [GR];refine wg half (sz (bP T0) ci) (by omega) (by omega) ⟨_,_,rfl,jg,D'.DA tZ ?_⟩;have Wk:(half*sz (bP T0) ci/18446744073709551616)*18446744073709551616+half*sz (bP T0) ci%18446744073709551616=half*sz (bP T0) ci:=Nat.div_add_mod' _ _;have adg:half*sz (bP T0) ci/18446744073709551616<sz (bP T0) x:=by
   have:half*sz (bP T0) ci<18446744073709551616*sz (bP T0) ci:=Nat.mul_lt_mul_of_pos_right (by omega) DV;have:half*sz (bP T0) ci/18446744073709551616<sz (bP T0) ci:=Nat.div_lt_of_lt_mul this;omega
  refine wi _ _ (sz (bP T0) x) (Nat.mod_lt _ (by omega)) (by omega) adg fun r w90 k90=>?_;rw [Wk];generalize hm:half*sz (bP T0) ci/sz (bP T0) x=more;have hmx:more*sz (bP T0) x<=half*sz (bP T0) ci:=by rw [<-hm];exact Nat.div_mul_le_self _ _
  have alh:more<=half:=by
   rw [<-hm];apply Nat.div_le_of_le_mul;rw [Nat.mul_comm];exact Nat.mul_le_mul_right _ ab5
  have D90:=D'.quiet k90;have ach:=Row.az hr k90 (fun _ _ h=>h);refine⟨_,_,rfl,Xs,D90.DA qH ?_⟩;rw [fL (x:=(sz (bP T0) ci:Int)+(more:Int)) (by omega) (by omega)];have yI:=fN.bound (by omega) iq (by
   have h1:(((xd.ch.take k).map (sz (bP T0))).sum)<=(xd.ch.map (sz (bP T0))).sum:=by
    conv=>rhs;rw [<-List.take_append_drop k xd.ch,List.map_append,List.sum_append]
    omega
   omega)
  have mu:=fN.lo;have h1:(((xd.ch.take k).map (sz (bP T0))).sum)<=(xd.ch.map (sz (bP T0))).sum:=by
   conv=>rhs;rw [<-List.take_append_drop k xd.ch,List.map_append,List.sum_append]
   omega
  refine uh D90.tv jv fN.here Xg (by omega) (by simp only;omega) (by omega) (by simp only;omega) fun w96 L96 h96 k96=>⟨rfl,?_⟩;have D96:=D90.wrote k96 h96;have acf:=Row.az ach k96 (fun k e e2=>(Xh k e).2 e2);intro w97;have Zs:(xd.ch.take k).length<=1000000:=by rw [List.length_take];omega
  obtain⟨Tz,Tn,GK,ab9,D99,P1⟩:=D96.push (by rw [List.length_append];omega) ci (w1:=w97) rfl;have ace:=Row.az acf (P1 (fun k=>B1<=k) (fun k e=>(Row.bz D96.rq e).1)) (fun k e e2=>by have:=D.hS k (Xh k e).1;have:=D.hB;omega);refine⟨Tz,_,Tn,GK,ab9,?_⟩;rw [gZ (x:=(k:Int)+1) (by omega) (by omega)];refine⟨(Tz,nq+(k+1),Tn,((k+1:Nat):Int)),rfl,⟨k+1,_,_,L96,Tz,Tn,rfl,yh,?_,fN.step (more:=(more:Int)) L5 xf ZM jv (by omega) ?_ DV,ace⟩,by simp only;omega⟩
  ·rw [nN ZM,<-List.append_assoc]
   exact D99
  ·have:((more*sz (bP T0) x:Nat):Int)<=((half*sz (bP T0) ci:Nat):Int):=by omega
   rwa [Int.natCast_mul,Int.natCast_mul]at this
 ·simp only at gq
  have:k=xd.ch.length:=by omega
  subst this;rw [aP,aw.xD];rw [List.take_length]at D';exact hex w' T' f L' KS KN D' fN
end
theorem HR:∀(n:Nat) (q:List Nat),q.Nodup->(∀y,y∈q->y<n)->q.length<=n:=by
 intro n
 induction n with
 |zero=>
  intro q _ h;cases q with
  |nil=>simp
  |cons a q=>exact absurd (h a (by simp)) (by omega)
 |succ n ih=>
  intro q hn h;by_cases hm:n∈q
  ·have h1:=List.length_erase_of_mem hm
   have h2:=ih (q.erase n) (hn.erase n) (fun y hy=>by
    have:=(List.Nodup.mem_erase_iff hn).1 hy;have:=h y this.2;omega)
   omega
  ·have:=ih q hn (fun y hy=>by
    have:=h y hy;have:y≠n:=fun e=>hm (e▸hy);omega)
   omega
section
variable{w0 w:World}{S:Nat->Prop}{g b c B0:Nat}{d:Int}{As:Option Addr}{L:List (Nd×Value)}{T:List Nd}{K:Value->World->Prop}
theorem CI{T0:List Nd}{m:Nat}{md:Nd}
 (htv:TV w S g T0 d b c L) (hrs:Row w B0 iF 1 As T0.length T0.length (us (sz (bP T0)) T0.length)) (WE:Kept S w0 w) (hSB:∀k,S k->k<B0) (Ve:w0.heap.size<=B0) (hBw:B0<=w.heap.size)
 (hS:Shape T0) (hlen:T0.length<=1000000) (xe:T0[m]? =some md) (h1:1<=md.lo) (h2:md.hi<=4611686018427387904) (h3:(sz (bP T0) m:Int)<=md.hi-md.lo+1)
 (hK:∀w' T' q i,nE w' S g T' d->nz (bP T0) T0 m T' q i->q.length<=i->Kept S w0 w'->K (.tuple #[]) w'):
 aw.cI (some ⟨g,0,none⟩) m As T0.length T0.length K w:=by
 have hP:=hS.par;have qk:=eU T0;have GW:m<T0.length:=(lgeS xe).1;unfold aw.cI;intro iS;have mF:Kept Nil w iS:=(Kept.refl Nil w).alloc _;have mI:iS.heap[w.heap.size]? =some (.cells #[.int .i64 (m:Int)] iO (0,0)):=aH w _;have D35:Dl w0 S g b c B0 w.heap.size T0.length (bP T0) d As iS T0 L (some ⟨w.heap.size,0,none⟩) 1 1 [m]:= {
  tv:=htv.kept mF
  rs:=Row.az hrs mF (fun _ _ h=>h)
  sb:=fun k e=>by obtain⟨_,_,hc⟩:=Row.bz hrs e;exact aO hc
  rq:=Row.made (n:=1) (cur:= #[.int .i64 (m:Int)]) mI (Nat.le_refl _) rfl (by decide)
  kp:=WE.trans mF (fun _ _ h=>h.elim)
  hS:=hSB
  hB:=hBw
  JI:=mF.size
  h0:=Ve}
 clear_value iS;generalize JI:w.heap.size=B1 at*;refine aw.gI (I:=fun s w'=>∃(i:Nat) (T':List Nd) (L':List (Nd×Value)) (Aq:Option Addr) (nq cq:Nat) (q:List Nat),s=(Aq,nq,cq,(i:Int))/\i<=q.length/\
  Dl w0 S g b c B0 B1 T0.length (bP T0) d As w' T' L' Aq nq cq q/\nz (bP T0) T0 m T' q i)
  (μ:=fun s _=>((T0.length:Int)-s.2.2.2).toNat) (s:=(some ⟨B1,0,none⟩,1,1,0)) ⟨0,T0,L,_,1,1,[m],rfl,Nat.zero_le _,D35,nz.start (by omega) xe h1 h2 h3⟩ ?_
 rintro s w' ⟨i,T',L',Aq,nq,cq,q,rfl,hi,D,hO⟩;have hnq:=D.Lf;have Mb:q.length<=T0.length:=HR _ _ hO.nodup (fun y hy=>by have:=(hO.oD y hy).lt;omega);refine Split.dec (fun cH=>?_) (fun gq=>?_)
 ·simp only at cH
  have dQ:i<q.length:=by omega
  obtain⟨x,hqx⟩:∃x,q[i]? =some x:=⟨_,List.getElem?_eq_getElem dQ⟩;have IN:x∈q:=List.mem_of_getElem? hqx;have tZ:x<T0.length:=by have:=(hO.oD x IN).lt;omega
  obtain⟨xd,KA⟩:=fJ (T:=T') (i:=x) (by rw [hO.nO.len];exact tZ);have tw:=hO.room x xd IN KA;have iq:=uj hP (n:=x) (by omega);have ab2:=wA (P:=bP T0) x;have hlT:T'.length=T0.length:=hO.nO.len;have jg:0<=(x:Int)/\(x:Int)<(T'.length:Int):=⟨by omega,by omega⟩;refine⟨⟨by simp only;omega,by simp only;omega⟩,D.T8 hqx ?_⟩;intro Bd;have Ty:=D.quiet (w':=Bd) (Kept.refl Nil w').drew;clear_value Bd;obtain⟨v,hv⟩:=Ty.tv.at_ KA;obtain⟨wr,h50⟩:=Ty.tv.uu hv (j:=4) (by omega) (u:=.int .u64 xd.lo) (nd':= {xd with free:=xd.lo}) rfl rfl;refine Ty.tv.go (Ty.tv.go ⟨jg,Ty.tv.vg hv ⟨jg,by rw [mN];exact wr,?_⟩⟩);intro Kw Hk;have e50:Kw=Bd.setCell ⟨b,x*5+4,none⟩ (.int .u64 xd.lo):=by simp only [Kw,mN,Int.toNat_natCast]
  rw [<-e50]at h50;have SJ:Kept (fun k=>k=b) Bd Kw:=by rw [e50];exact(Kept.refl (fun k=>k=b) Bd).setCell (p:=⟨b,x*5+4,none⟩) (fun _=>rfl) _
  have KR:=(Ty.wrote SJ h50).quiet (w':=Hk) (Kept.refl Nil Kw).drew;clear_value Hk;have v1:(L'.set x ({xd with free:=xd.lo},v))[x]? =some ({xd with free:=xd.lo},v):=iC hv;obtain⟨Y0,Za,hk⟩:=KR.tv.ou _ _ v1;have yH:(T'.set x {xd with free:=xd.lo}).length=T'.length:=by simp
  have Ry:0<=(x:Int)/\(x:Int)<((T'.set x {xd with free:=xd.lo}).length:Int):=by rw [yH];exact jg
  have ZO:0<=(x:Int)/\(x:Int)<(T0.length:Int):=⟨by omega,by omega⟩;refine KR.tv.go ⟨Ry,KR.tv.Ap v1 (KR.tv.go ⟨Ry,KR.tv.vg v1 ⟨ZO,KR.DA tZ (KR.tv.go ⟨Ry,KR.tv.Yq v1 hk.val ?_⟩)⟩⟩)⟩;have ab4:kY T0 (T'.set x {xd with free:=xd.lo}):=hO.nO.trans (kY.set (nd':= {xd with free:=xd.lo}) KA rfl rfl);simp only;obtain⟨cur,KI⟩:=KR.tv.vz;generalize hhf:((xd.hi-xd.lo-((sz (bP T0) x:Int)-1)).toNat /2)=half;refine CJ (half:=half) (xd:= {xd with free:=xd.lo}) KR hS ab4 hlen (by omega) (iC KA) rfl (by simp only;omega) (by simp only;omega) (by simp only;omega) ?_ hk.row (fun k e=>⟨hk.jB k e,fun e2=>hk.ne KI (by decide) (by rw [e,e2])⟩) ?_
  ·rw [fL (x:=xd.hi-xd.lo) (by omega) (by omega),fL (x:=(sz (bP T0) x:Int)-1) (by omega) (by omega),fL (x:=xd.hi-xd.lo-((sz (bP T0) x:Int)-1)) (by omega) (by omega),
    Int.tdiv_eq_ediv_of_nonneg (by omega),fL (by omega) (by omega)]
   omega
  ·intro w2 T2 f L2 Tz Tn D2 fN
   rw [gZ (x:=(i:Int)+1) (by omega) (by omega)];refine⟨(Tz,nq+xd.ch.length,Tn,((i+1:Nat):Int)),rfl,⟨i+1,T2,L2,Tz,_,Tn,q++xd.ch,rfl,by rw [List.length_append];omega,D2,hO.step hS hqx KA (by omega) (by omega) fN⟩,by simp only;omega⟩
 ·simp only at gq
  rw [aP,aw.jJ];exact hK w' T' q i ⟨_,_,_,D.tv⟩ hO (by omega) D.kp
theorem TV.aaH(h:TV w S g T d b c L)(d':Int):Wr w ⟨g,1,none⟩/\TV (w.setCell ⟨g,1,none⟩ (.int .i64 d')) S g T d' b c L:=by
 have kG:Kept (fun k=>k=g) w (w.setCell ⟨g,1,none⟩ (.int .i64 d')):=(Kept.refl (fun k=>k=g) w).setCell (p:=⟨g,1,none⟩) (fun _=>rfl) _;refine⟨dJ h.top (show 1<2 by omega),?_⟩;exact {
  top:=by
   have:=cV h.top 1 (.int .i64 d');simpa using this
  fst:=h.fst
  row:=Row.az h.row kG (fun k e e2=>h.gb (by cases e;exact e2.symm))
  ou:=fun i p hp=>by
   obtain⟨A,m,hk⟩:=h.ou i p hp;exact⟨A,m,hk.val,Row.az hk.row kG (fun k e e2=>hk.ne h.top (by decide) (by rw [e,e2])),hk.jB⟩
  apart:=h.apart
  gL:=h.gL
  fR:=h.fR}
set_option maxRecDepth 100000 in
theorem EL(h:nE w S g T d)(hS:Shape T)(hlen:T.length<=1000000){p:Nat}(hp:p<T.length)(hd:0<=d/\d<=1000000)
 (VA:∀nd,T[0]? =some nd->nd.lo=1/\nd.hi=4611686018427387904)
 (ZF:∀y nd,T[y]? =some nd->jK (bP T) p y->Iv nd)
 (hK:∀w' T' m q i,nE w' S g T' (d+1)->jK (bP T) p m->nz (bP T) T m T' q i->q.length<=i->Kept S w w'->K (.tuple #[]) w'):
 bj prog aw.id #[.pointer (some ⟨g,0,none⟩),.int .i64 p] w K:=by
 have hP:=hS.par;have qk:=eU T;obtain⟨b,c,L,h⟩:=h;have hb:=h.bound;obtain⟨wr,h6⟩:=hb.aaH (d+1);refine aw.of (h.goD ⟨by rw [km];exact wr,?_⟩);intro w6;have e6:w6=w.setCell ⟨g,1,none⟩ (.int .i64 (d+1)):=by simp only [w6,km,gZ (x:=d+1) (by omega) (by omega)]
 rw [<-e6]at h6;have k6:Kept (fun k=>S k/\k<w.heap.size) w w6:=by rw [e6];exact(Kept.refl _ w).setCell (p:=⟨g,1,none⟩) (fun _=>hb.gL) _
 have L7:w.heap.size=w6.heap.size:=by rw [e6];simp
 clear_value w6;refine BA ⟨_,_,_,h6⟩ hP hlen fun w8 As aaP k8=>⟨_,_,_,rfl,?_⟩;have h8:=h6.kept k8;refine aw.b6 (I:=fun s w'=>∃m:Nat,s=(m:Int)/\jK (bP T) p m/\Kept Nil w8 w') (μ:=fun s _=>s.toNat) (s:=(p:Int)) ⟨p,rfl,.refl (by omega),Kept.refl _ _⟩ ?_;rintro s w' ⟨m,rfl,hu,kw⟩;have GW:m<T.length:=by have:=hu.Zb;omega
 obtain⟨md,xe⟩:=fJ GW;have hm:=ZF m md xe hu;have GX:=hm.Ur;have Mn:=hm.le;have hm3:=hm.top;unfold aw.B1;intro lh;have tI:Kept Nil w8 lh:=kw.drew;have Ed:=h8.kept tI;have th:=Row.az aaP tI (fun _ _ h=>h);have lF:=kO xe;have akq:=wA (P:=bP T) m;have yi:0<=(m:Int)/\(m:Int)<(T.length:Int):=⟨by omega,by omega⟩;obtain⟨v,hv⟩:=Ed.at_ xe;have done:(sz (bP T) m:Int)<=md.hi-md.lo+1->aw.q1 K (.exit 0) [(0,.pointer (some ⟨g,0,none⟩)),(1,.int .i64 m),(4,.slice As T.length T.length)] lh:=by
  intro tw;rw [aw.cX];have k8':Kept (fun k=>S k/\k<w.heap.size) w lh:=(k6.trans k8 (fun _ _ h=>h.elim)).trans tI (fun _ _ h=>h.elim);refine CI Ed (B0:=w.heap.size) (Row.base th (fun k e=>by rw [L7];exact(Row.bz th e).1)) k8' (fun k h=>h.2) (Nat.le_refl _) k8'.size hS hlen xe GX hm3 tw ?_;intro w2 T2 q i h2 hO hq k2;exact hK w2 T2 m q i (h2.mono (fun k h=>h.1)) hu hO hq (k2.mono (fun k _ h=>h.1))
 refine Ed.go ⟨yi,Ed.JO hv (Split.dec (fun iq=>?_) (fun z7=>?_))⟩
 ·obtain⟨bs,ZO⟩:=Row.some th (by omega)
  subst ZO;refine Ed.go ⟨yi,Ed.Ap hv (Ed.go ⟨yi,Ed.vg hv ⟨by decide,yi,_,by rw [km,Int.toNat_natCast,Nat.mul_one];exact Row.cell th (oL _ GW),?_⟩⟩)⟩;rw [fL (x:=md.hi-md.lo) (by omega) (by omega),fL (x:=md.hi-md.lo+1) (by omega) (by omega),Int.tdiv_eq_ediv_of_nonneg (by omega),fL (x:=(md.hi-md.lo+1)/4) (by omega) (by omega)];refine Split.dec (fun cH=>?_) (fun gq=>?_)
  ·have Ac:0<m:=by
    rcases Nat.eq_zero_or_pos m with rfl|h
    ·rw [hP.root]at lF;have:=Option.some.inj lF;omega
    ·exact h
   obtain⟨z,hz,ez⟩:=hP.up m _ Ac lF;refine Ed.go ⟨yi,Ed.JO hv ?_⟩;rw [ez];exact⟨(z:Int),rfl,⟨z,rfl,hu.trans (.step (by rw [lF,ez]) (.refl (by omega))),tI⟩,by simp only;omega⟩
  ·rw [aP]
   exact done (by omega)
 ·have Ac:m=0:=by
   rcases Nat.eq_zero_or_pos m with h|h
   ·exact h
   ·obtain⟨z,_,ez⟩:=hP.up m _ h lF
    omega
  subst Ac;have:=VA md xe;rw [aP];exact done (by omega)
end
structure wv(T:List Nd):Prop extends Good T where
 root:∀nd,T[0]? =some nd->nd.lo=1/\nd.hi=4611686018427387904
theorem BK:wv qd:=by
 have fE:∀(i:Nat) nd,qd[i]? =some nd->i=0/\nd=⟨-1,[],1,4611686018427387904,1⟩:=by
  intro i nd h;cases i with
  |zero=>simp [qd]at h;exact⟨rfl,h.symm⟩
  |succ i=>simp [qd]at h
 exact {
  par:=⟨rfl,fun i p hi h=>by
   cases i with
   |zero=>omega
   |succ i=>simp [bP,qd]at h⟩
  ch:=fun i nd h=>by
   obtain⟨rfl,rfl⟩:=fE i nd h;simp [kids,bP,qd]
  iv:=fun i nd h=>by
   obtain⟨rfl,rfl⟩:=fE i nd h;exact⟨by decide,by decide,by decide⟩
  loc:=fun i nd h=>by
   obtain⟨rfl,rfl⟩:=fE i nd h;exact⟨by decide,by decide,fun c cd hc=>by simp at hc,fun c c' cd vv hc=>by simp at hc⟩
  root:=fun nd h=>by
   obtain⟨_,rfl⟩:=fE 0 nd h;exact⟨rfl,rfl⟩}
section
variable{T:List Nd}{p:Nat}{pd:Nd}
theorem GB(hp:T[p]? =some pd)(i:Nat):(added T p pd)[i]? =if i=p then some {pd with ch:=pd.ch++ [T.length],free:=pd.free+iW pd}else if i=T.length then some ⟨p,[],pd.free,pd.free+iW pd-1,pd.free⟩else T[i]? :=by
 have cH:p<T.length:=(lgeS hp).1;unfold added;rw [xj (by rw [je hp,if_neg (by omega),if_pos rfl]) (by rw [je hp,if_pos rfl]) (by omega),je hp];split
 ·rfl
 ·split
  ·rfl
  ·rfl
theorem vB(hp:T[p]? =some pd):kY (grown T p pd) (added T p pd):=by
 have cH:p<T.length:=(lgeS hp).1;exact ve _ (by rw [je hp,if_neg (by omega),if_pos rfl]) (by rw [je hp,if_pos rfl]) (by omega)
theorem Shape.R6(h:Shape T){i:Nat}{nd:Nd}(hi:T[i]? =some nd){c:Nat}(hc:c∈nd.ch):i<c/\c<T.length:=by
 rw [h.ch i nd hi]at hc;have:=iN h.par hc
 rwa [eU]at this
theorem wv.added(h:wv T)(hp:T[p]? =some pd)(tw:pd.free<pd.hi):wv (added T p pd):=by
 have cH:p<T.length:=(lgeS hp).1;have fE:=GB hp;have Qq:=h.iv p pd hp;have i1:=Qq.Ur;have i2:=Qq.le;have i3:=Qq.top;have lp:=h.loc p pd hp;have l1:=lp.G5;have l2:=lp.CH;have hh1:1<=iW pd:=by unfold iW;omega
 have hh2:pd.free+iW pd<=pd.hi:=by unfold iW;omega
 have hold:∀(c:Nat) cd,c<T.length->(Go.Proofs.YtnboahlopghcjaaGreatDoor.Tr.added T p pd)[c]? =some cd->∃ed,T[c]? =some ed/\ed.lo=cd.lo/\ed.hi=cd.hi:=by
  intro c cd hc jv;rw [fE]at jv;by_cases e:c=p
  ·subst e
   rw [if_pos rfl]at jv;cases jv;exact⟨pd,hp,rfl,rfl⟩
  ·rw [if_neg e,if_neg (by omega)]at jv
   exact⟨cd,jv,rfl,rfl⟩
 have mI:∀cd,(Go.Proofs.YtnboahlopghcjaaGreatDoor.Tr.added T p pd)[T.length]? =some cd->cd=⟨p,[],pd.free,pd.free+iW pd-1,pd.free⟩:=by
  intro cd jv;rw [fE,if_neg (by omega),if_pos rfl]at jv;exact(Option.some.inj jv).symm
 have az:∀(i:Nat) nd,T[i]? =some nd->Loc (Go.Proofs.YtnboahlopghcjaaGreatDoor.Tr.added T p pd) nd:=by
  intro i nd hi;have hl:=h.loc i nd hi;have hc:=fun c hc=>(h.toShape.R6 hi (c:=c) hc).2;exact {
   G5:=hl.G5
   CH:=hl.CH
   sub:=fun c cd nX jv=>by
    obtain⟨ed,h1,h2,h3⟩:=hold c cd (hc c nX) jv;have:=hl.sub c ed nX h1;omega
   ord:=fun c c' cd vv nX oG Ag jv qI=>by
    obtain⟨ed,h1,h2,h3⟩:=hold c cd (hc c nX) jv;obtain⟨R0,rK,rJ,Ec⟩:=hold c' vv (hc c' oG) qI;have:=hl.ord c c' ed R0 nX oG Ag h1 rK;omega}
 have hs:=(vB hp).shape (h.toShape.grown hp);refine {toShape:=hs,iv:=?_,loc:=?_,root:=?_}
 ·intro i nd hi
  rw [fE]at hi;by_cases e:i=p
  ·rw [if_pos e]at hi
   cases hi;exact⟨i1,i2,i3⟩
  ·rw [if_neg e]at hi
   by_cases e2:i=T.length
   ·rw [if_pos e2]at hi
    cases hi;exact⟨by simp only;omega,by simp only;omega,by simp only;omega⟩
   ·rw [if_neg e2]at hi
    exact h.iv i nd hi
 ·intro i nd hi
  rw [fE]at hi;by_cases e:i=p
  ·rw [if_pos e]at hi
   cases hi;have kp:=az p pd hp;have hc:=fun c hc=>(h.toShape.R6 hp (c:=c) hc).2;exact {
    G5:=by simp only;omega
    CH:=hh2
    sub:=fun c cd nX jv=>by
     simp only at nX;rcases List.mem_append.1 nX with nX|nX
     ·have:=kp.sub c cd nX jv
      simp only;omega
     ·simp at nX
      subst nX;have:=mI cd jv;subst this;simp only;omega
    ord:=fun c c' cd vv nX oG Ag jv qI=>by
     simp only at nX oG;rcases List.mem_append.1 nX with nX|nX
     ·rcases List.mem_append.1 oG with oG|oG
      ·exact kp.ord c c' cd vv nX oG Ag jv qI
      ·simp at oG
       subst oG;have:=mI vv qI;subst this;exact(kp.sub c cd nX jv).2
     ·simp at nX
      rcases List.mem_append.1 oG with oG|oG
      ·have:=hc c' oG
       omega
      ·simp at oG
       omega}
  ·rw [if_neg e]at hi
   by_cases e2:i=T.length
   ·rw [if_pos e2]at hi
    cases hi;exact⟨by simp only;omega,by simp only;omega,fun c cd hc=>by simp at hc,fun c c' cd vv hc=>by simp at hc⟩
   ·rw [if_neg e2]at hi
    exact az i nd hi
 ·intro nd hi
  obtain⟨ed,h1,h2,h3⟩:=hold 0 nd h.toShape.pos hi;have:=h.root ed h1;omega
theorem wv.Eg(h:wv T)(hp:T[p]? =some pd){m i:Nat}{T':List Nd}{q:List Nat}(hu:jK (bP (grown T p pd)) p m)
 (hO:nz (bP (grown T p pd)) (grown T p pd) m T' q i) (hq:q.length<=i):wv T':=by
 have cH:p<T.length:=(lgeS hp).1;have fE:=je hp;have hS:=h.toShape.grown hp;have hP:=hS.par;have hold:∀(c:Nat) cd,c<T.length->(grown T p pd)[c]? =some cd->∃ed,T[c]? =some ed/\ed.lo=cd.lo/\ed.hi=cd.hi:=by
  intro c cd hc jv;rw [fE]at jv;by_cases e:c=p
  ·subst e
   rw [if_pos rfl]at jv;cases jv;exact⟨pd,hp,rfl,rfl⟩
  ·rw [if_neg e,if_neg (by omega)]at jv
   exact⟨cd,jv,rfl,rfl⟩
 have S8:(bP (grown T p pd))[T.length]? =some (p:Int):=by
  rw [lY hp,List.getElem?_append_right (by rw [eU];exact Nat.le_refl _)];simp [eU]
 have fG:=nz.fin hS hO hq (fun y nd hy hn=>by
  rw [fE]at hy;have e:y≠p:=fun e=>hn (e▸hu);rw [if_neg e]at hy;have e2:y≠T.length:=fun e=>hn (e▸ .step S8 hu);rw [if_neg e2]at hy;refine⟨h.iv y nd hy,?_⟩;have hl:=h.loc y nd hy;have hc:=fun c hc=>(h.toShape.R6 hy (c:=c) hc).2;exact {
   G5:=hl.G5
   CH:=hl.CH
   sub:=fun c cd nX jv=>by
    obtain⟨ed,h1,h2,h3⟩:=hold c cd (hc c nX) jv;have:=hl.sub c ed nX h1;omega
   ord:=fun c c' cd vv nX oG Ag jv qI=>by
    obtain⟨ed,h1,h2,h3⟩:=hold c cd (hc c nX) jv;obtain⟨R0,rK,rJ,Ec⟩:=hold c' vv (hc c' oG) qI;have:=hl.ord c c' ed R0 nX oG Ag h1 rK;omega})
 refine {toGood:=fG,root:=fun nd hi=>?_};obtain⟨gd,hgd,_⟩:=hO.nO.back hi;obtain⟨ed,h1,h2,h3⟩:=hold 0 gd h.toShape.pos hgd;have hr:=h.root ed h1;by_cases hm:0∈q
 ·have:=(hO.oD 0 hm).le hP
  have Ac:m=0:=by omega
  subst Ac;have:=hO.top gd nd hgd hi;omega
 ·rw [hO.rest 0 hm,hgd]at hi
  cases hi;omega
end
section
variable{w:World}{S:Nat->Prop}{g:Nat}{T:List Nd}{d:Int}{K:Value->World->Prop}
theorem Ht(h:nE w S g T d)(hF:wv T){p:Nat}(hp:p<T.length)(hlen:T.length<=900000)(hd:0<=d/\d<=900000)
 (hK:∀w' S' T' d',nE w' S' g T' d'->wv T'->bP T'=bP T++ [(p:Int)]->d<=d'/\d'<=d+1->Kept S w w'->(∀k,S' k->S k\/w.heap.size<=k)->K (.tuple #[.int .i64 T.length,.int .i64 0]) w'):
 bj prog gv.id #[.pointer (some ⟨g,0,none⟩),.int .i64 p] w K:=by
 obtain⟨pd,ye⟩:=fJ hp;have Qq:=hF.iv p pd ye;have i1:=Qq.Ur;have i2:=Qq.le;have i3:=Qq.top;have lp:=hF.loc p pd ye;have l1:=lp.G5;have l2:=lp.CH;have oH:pd.ch.length<=T.length:=by
  rw [hF.ch p pd ye];have:=zI (bP T) p
  rwa [eU]at this
 refine ui h ye (by omega) (by omega) (by omega) l2 i3 (fun tw w' S' h' k' f'=>?_) (fun aht w' S' h' k' f'=>?_)
 ·exact hK w' S' _ d h' (hF.added ye tw) (by rw [(vB ye).bP,lY ye]) ⟨by omega,by omega⟩ k' f'
 ·have hS:=hF.toShape.grown ye
  have fE:=je ye;have lF:=hS.par;refine EL h' hS (by rw [xi];omega) (by rw [xi];omega) ⟨hd.1,by omega⟩ (fun nd hi=>?_) (fun y nd hy hu=>?_) (fun w2 T2 m q i h2 hu hO hq k2=>⟨rfl,?_⟩)
  ·rw [fE]at hi
   by_cases e:0=p
   ·rw [if_pos e]at hi
    cases hi;exact hF.root pd (by rw [e];exact ye)
   ·rw [if_neg e,if_neg (by omega)]at hi
    exact hF.root nd hi
  ·have:=hu.le lF
   rw [fE]at hy;by_cases e:y=p
   ·rw [if_pos e]at hy
    cases hy;exact⟨i1,i2,i3⟩
   ·rw [if_neg e,if_neg (by omega)]at hy
    exact hF.iv y nd hy
  ·refine hK w2 S' T2 (d+1) h2 (hF.Eg ye hu hO hq) (by rw [hO.nO.bP,lY ye]) ⟨by omega,by omega⟩ ?_ f'
   exact k'.trans k2 (fun k hk hs=>by
    rcases f' k hs with h|h
    ·exact h
    ·omega)
end
def zs(l:List Int):List Value:=l.map fun x=>.int .i64 x
section
variable{w w':World}{S S':Nat->Prop}{h:Nat}{P:List Int}{b c:Nat}{K:Value->World->Prop}
end
def iJ(P:List Int)(n i:Nat):List Nat:=(List.range i).filter fun j=>P[j]? ==some (n:Int)
section
variable{w w':World}{S S':Nat->Prop}{h:Nat}{P:List Int}{b c:Nat}{K:Value->World->Prop}
end
section
variable{w w':World}{S S':Nat->Prop}{g:Nat}{T:List Nd}{d:Int}{K:Value->World->Prop}
theorem JS{L:List (Nd×Value)}(h:∀(i:Nat) p,L[i]? =some p->p.2.oneCell'=true):∀u∈lv L,u.oneCell'=true:=by
 intro u hu;simp only [lv,List.mem_flatMap]at hu;obtain⟨p,hp,hu⟩:=hu;obtain⟨i,hi⟩:=List.mem_iff_getElem?.1 hp;have:=h i p hi;simp [iM]at hu;rcases hu with rfl|rfl|rfl|rfl|rfl
 ·rfl
 ·exact this
 ·rfl
 ·rfl
 ·rfl
theorem CQ{b c n:Nat}{L:List (Nd×Value)}(h:Row w 0 fU 5 (some ⟨b,0,none⟩) n c (lv L))(hL:∀(i:Nat) p,L[i]? =some p->p.2.oneCell'=true)(hn:n<=1000000)
 (hK:∀A' c' w',Row w' w.heap.size fU 5 A' n c' (lv L)->Kept Nil w w'->K (.slice A' n c') w'):
 bj prog cS.id #[.slice (some ⟨b,0,none⟩) n c] w K:=by
 refine cS.of (Split.no rfl ?_);intro w2;have lg:Kept Nil w w2:=(Kept.refl Nil w).alloc _;have qG:Row w2 w.heap.size fU 5 (some ⟨w.heap.size,0,none⟩) 0 0 []:=Row.made (aH w _) (Nat.le_refl _) rfl (Nat.zero_le _);have h2:=Row.az h lg (fun _ _ h=>h);obtain⟨A',c',w',hr,eI,hgr,Ai⟩:=dS (P:=prog) (t:=fV) (ty:=fV) (bytes:=56) ur qG (a:=⟨b,0,none⟩) (m:=n) (cx:=c) (news:=lv L)
  h2.len (Row.cells h2) (JS hL) (by omega) (by unfold maxLen;omega) (by have:=lg.size;omega)
 simp only [Nat.zero_add,List.nil_append]at hr eI;have Bk:Kept Nil w w':=lg.grown hgr (fun k hk cH=>by cases hk;exact absurd cH (Nat.lt_irrefl _));exact⟨A',n,c',w',hr,hK A' c' w' eI Bk⟩
structure CP(w w':World)(L:List (Nd×Value))(T:List Nd)(d:Int)(g' b' c' i:Nat)(L':List (Nd×Value)):Prop where
 fst:L'.map Prod.fst=T
 top:w'.heap[g']? =some (.cells #[.slice (some ⟨b',0,none⟩) T.length c',.int .i64 d] mB (0,0))
 row:Row w' w.heap.size fU 5 (some ⟨b',0,none⟩) T.length c' (lv L')
 ou:∀(j:Nat) p,L'[j]? =some p->j<i->∃A m,Sl w' (fun k=>w.heap.size<=k) p A m
 zq:∀j:Nat,i<=j->L'[j]? =L[j]?
 apart:∀(j l:Nat) p q,L'[j]? =some p->L'[l]? =some q->j<i->l<i->j≠l->∀k,Value.ownBlock p.2=some k->Value.ownBlock q.2≠some k
 kp:Kept Nil w w'
 hg:w.heap.size<=g'
theorem se(h:nE w S g T d)(hT:0<T.length)(hlen:T.length<=1000000)(oH:∀(i:Nat) nd,T[i]? =some nd->nd.ch.length<=1000000)
 (hK:∀w' g',nE w' (fun k=>w.heap.size<=k) g' T d->Kept Nil w w'->K (.pointer (some ⟨g',0,none⟩)) w'):
 bj prog bA.id #[.pointer (some ⟨g,0,none⟩)] w K:=by
 refine bA.of (Hs h ⟨_,rfl,Split.no (beq_eq_false_iff_ne.2 (by omega)) ?_⟩);obtain⟨b,c,L,h⟩:=h;have pY:∀(A:Option Addr) n m,Value.ownBlock (.slice A n m)=aW A:=by intro A n m;cases A<;>rfl
 intro w5;have k5:Kept Nil w w5:=(Kept.refl Nil w).drew;have h5:=h.kept k5;have hs5:w5.heap.size=w.heap.size:=rfl;clear_value w5;refine h5.go (h5.goD ?_);refine CQ h5.row (fun i p hp=>by obtain⟨A,m,hk⟩:=h5.ou i p hp;rw [hk.val];rfl) hlen fun A' c' qR T7 vE=>⟨_,_,_,rfl,?_⟩;have KL:=h5.kept vE;refine⟨by rw [km];exact KL.Eg,?_⟩;intro lh;have tI:Kept Nil qR lh:=(Kept.refl Nil qR).alloc _;have gJ:lh.heap[qR.heap.size]? =some (.cells #[.slice A' T.length c',.int .i64 d] mB (0,0)):=aH qR _;have th:=Row.az T7 tI (fun _ _ h=>h);obtain⟨b',rfl⟩:=Row.some th hT;clear_value lh;have kk:Kept Nil w lh:=(k5.tt vE).tt tI;refine⟨_,_,_,by rw [km,ay gJ];rfl,?_⟩;refine bA.b6 (I:=fun s w'=>∃(i:Nat) (L':List (Nd×Value)),s=(i:Int)/\i<=T.length/\CP w w' L T d qR.heap.size b' c' i L') (μ:=fun s _=>((T.length:Int)-s).toNat) (s:=0)
  ⟨0,L,rfl,Nat.zero_le _,⟨h.fst,gJ,by rw [hs5]at th;exact th,fun j p hp hj=>absurd hj (Nat.not_lt_zero _),fun _ _=>rfl,fun j l p q _ _ hj=>absurd hj (Nat.not_lt_zero _),kk,by have:=vE.size;omega⟩⟩ ?_
 rintro s w' ⟨i,L',rfl,hi,C⟩;refine Split.dec (fun cH=>?_) (fun gq=>?_)
 ·have dQ:i<T.length:=by omega
  obtain⟨nd,dW⟩:=fJ dQ;obtain⟨v,hv⟩:=h.at_ dW;obtain⟨A,m,hk⟩:=h.ou _ _ hv;intro mP;have sF:Kept Nil w' mP:=(Kept.refl Nil w').drew;have ab8:mP.heap.size=w'.heap.size:=rfl;clear_value mP;have uX:=sF.heap C.top (fun h=>h);have qX:=Row.az C.row sF (fun _ _ h=>h);have SQ:L'[i]? =some (nd,v):=by rw [C.zq i (Nat.le_refl _)];exact hv
  have hLl:L'.length=T.length:=by rw [<-C.fst];simp
  have Wj:mP.cell? ((⟨qR.heap.size,0,none⟩:Addr).add 0)=some (.slice (some ⟨b',0,none⟩) T.length c'):=by rw [km,ay uX];rfl
  refine⟨_,_,_,Wj,_,_,_,Wj,⟨by omega,by omega⟩,?_⟩;have vV:v=.slice A nd.ch.length m:=hk.val;refine⟨A,nd.ch.length,m,by rw [mN];exact Row.cell qX (by rw [show(i:Int).toNat=i from rfl,Av SQ (by omega),vV];rfl),?_⟩;have abl:=Row.az (Row.az hk.row C.kp (fun _ _ h=>h)) sF (fun _ _ h=>h);have Jr:=oH i nd dW;refine Gr abl (by omega) (by unfold maxLen;omega) fun A2 c2 Dh HL wU=>⟨_,_,_,rfl,?_⟩;have x8:=wU.heap uX (fun h=>h);have BI:=Row.az qX wU (fun _ _ h=>h);have Wx:i*5+1<(lv L').length:=by rw [pk,hLl];omega
  refine⟨by rw [km,ay x8];rfl,⟨by omega,by omega⟩,by rw [mN];exact Row.wr BI Wx,?_⟩;intro xE;have e28:xE=Dh.setCell ⟨b',i*5+1,none⟩ (.slice A2 nd.ch.length c2):=by simp only [xE,mN,Int.toNat_natCast]
  clear_value xE;have xW:Kept (fun k=>k=b') Dh xE:=by rw [e28];exact(Kept.refl (fun k=>k=b') Dh).setCell (p:=⟨b',i*5+1,none⟩) (fun _=>rfl) _
  have rows:=Row.set BI Wx (.slice A2 nd.ch.length c2);rw [<-e28,vp SQ (by omega) (p':=(nd,.slice A2 nd.ch.length c2)) rfl]at rows;obtain⟨alU,cur,KI⟩:=Row.bz BI (k:=b') rfl;have ji:Kept Nil w xE:=((C.kp.tt sF).tt wU).trans xW (fun k hk e=>by omega);have hgb:qR.heap.size≠b':=by
   rintro e;rw [e,KI]at x8;injection x8 with hc;injection hc with _ ht;exact absurd ht (by decide)
  have Jz:∀k,aW A2=some k->w'.heap.size<=k:=fun k e=>by have:=(Row.bz HL e).1;omega
  have aeJ:aW A2≠some b':=by
   intro e;obtain⟨_,ae2,hc⟩:=Row.bz HL e;rw [KI]at hc;injection hc with hc;injection hc with _ ht;exact absurd ht (by decide)
  have fE:∀(j:Nat) q,(L'.set i (nd,.slice A2 nd.ch.length c2))[j]? =some q->(j=i/\q=(nd,.slice A2 nd.ch.length c2))\/(j≠i/\L'[j]? =some q):=by
   intro j q hq;by_cases e:i=j
   ·subst e
    rw [List.getElem?_set_self (by omega)]at hq;cases hq;exact .inl ⟨rfl,rfl⟩
   ·rw [List.getElem?_set_ne e]at hq
    exact .inr ⟨fun h=>e h.symm,hq⟩
  have Jm:∀(j:Nat) q,L'[j]? =some q->j<i->∃A m,Sl xE (fun k=>w.heap.size<=k) q A m/\∀k,aW A=some k->k<w'.heap.size:=by
   intro j q hq hj;obtain⟨A3,m3,Bk⟩:=C.ou j q hq hj;refine⟨A3,m3,⟨Bk.val,Row.az (Row.az (Row.az Bk.row sF (fun _ _ h=>h)) wU (fun _ _ h=>h)) xW (fun k e e2=>?_),Bk.jB⟩,fun k e=>by obtain⟨_,_,hc⟩:=Row.bz Bk.row e;exact aO hc⟩;obtain⟨_,amZ,hc⟩:=Row.bz (Row.az (Row.az Bk.row sF (fun _ _ h=>h)) wU (fun _ _ h=>h)) e;rw [e2,KI]at hc;injection hc with hc;injection hc with _ ht;exact absurd ht (by decide)
  rw [gZ (x:=(i:Int)+1) (by omega) (by omega)];refine⟨((i+1:Nat):Int),rfl,⟨i+1,L'.set i (nd,.slice A2 nd.ch.length c2),rfl,by omega,?_⟩,by simp only;omega⟩;exact {
   fst:=by
    rw [List.map_set,C.fst];exact List.ext_getElem? fun j=>by
     by_cases e:i=j
     ·subst e;rw [List.getElem?_set_self dQ,dW]
     ·rw [List.getElem?_set_ne e]
   top:=xW.heap x8 hgb
   row:=rows
   ou:=fun j q hq hj=>by
    rcases fE j q hq with⟨rfl,rfl⟩|⟨fD,hq⟩
    ·exact⟨A2,c2,rfl,Row.base (B':=0) (Row.az HL xW (fun k e e2=>aeJ (by rw [e,e2]))) (fun _ _=>Nat.zero_le _),fun k e=>Nat.le_trans C.kp.size (Jz k e)⟩
    ·obtain⟨A3,m3,Bk,_⟩:=Jm j q hq (by omega)
     exact⟨A3,m3,Bk⟩
   zq:=fun j hj=>by
    rw [List.getElem?_set_ne (by omega)];exact C.zq j (by omega)
   apart:=fun j l p q hp hq hj hl fD k Bl lg=>by
    rcases fE j p hp with⟨ej,ep⟩|⟨tz,Mf⟩
    ·rcases fE l q hq with⟨el,_⟩|⟨ZD,I7⟩
     ·exact fD (ej.trans el.symm)
     ·obtain⟨A3,m3,Bk,Q0⟩:=Jm l q I7 (by omega)
      rw [ep,pY]at Bl;rw [Bk.val,pY]at lg;have:=Jz k Bl;have:=Q0 k lg;omega
    ·rcases fE l q hq with⟨el,eq⟩|⟨ZD,I7⟩
     ·obtain⟨A3,m3,Bk,Q0⟩:=Jm j p Mf (by omega)
      rw [eq,pY]at lg;rw [Bk.val,pY]at Bl;have:=Jz k lg;have:=Q0 k Bl;omega
     ·exact C.apart j l p q Mf I7 (by omega) (by omega) fD k Bl lg
   kp:=ji
   hg:=C.hg}
 ·have:i=T.length:=by omega
  subst this;rw [aP,bA.cX];have hLl:L'.length=T.length:=by rw [<-C.fst];simp
  refine hK w' _ ⟨b',c',L',?_⟩ C.kp;exact {
   top:=C.top
   fst:=C.fst
   row:=Row.base (B':=0) C.row (fun _ _=>Nat.zero_le _)
   ou:=fun j p hp=>C.ou j p hp (by have:=(lgeS hp).1;omega)
   apart:=fun j l p q hp hq fD=>C.apart j l p q hp hq (by have:=(lgeS hp).1;omega) (by have:=(lgeS hq).1;omega) fD
   gL:=C.hg
   fR:=(Row.bz C.row rfl).1}
end
end Go.Proofs.YtnboahlopghcjaaGreatDoor.Tr
