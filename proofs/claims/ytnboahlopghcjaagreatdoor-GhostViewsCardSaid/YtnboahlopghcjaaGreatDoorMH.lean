import Derived.Test.YtnboahlopghcjaaGreatDoorMA
import Derived.Test.YtnboahlopghcjaaGreatDoorMD
import Derived.Laws.OwnMore
import Derived.Test.YtnboahlopghcjaaGreatDoorMG
import Derived.Laws.Bits64b
set_option linter.unusedVariables false
namespace Go.Proofs.YtnboahlopghcjaaGreatDoor.Tr
open Go.Proofs.Tryz
open Go Go.bS Go.RowKit
structure Nd where
 parent:Int
 ch:List Nat
 lo:Int
 hi:Int
 free:Int
def iJ(nd:Nd)(v:Value):List Value:= [.int .i64 nd.parent,v,.int .u64 nd.lo,.int .u64 nd.hi,.int .u64 nd.free]
def nC(L:List (Nd×Value)):List Value:=L.flatMap fun p=>iJ p.1 p.2
def ints(l:List Nat):List Value:=l.map fun x:Nat=>.int .i64 (x:Int)
theorem sg(L:List (Nd×Value)):(nC L).length=L.length*5:=by
 induction L with
 |nil=>rfl
 |cons p L ih=>simp only [nC,List.flatMap_cons,List.length_append,List.length_cons]at*;rw [ih];simp [iJ];omega
theorem Hd{L:List (Nd×Value)}{i:Nat}{p:Nd×Value}(h:L[i]? =some p){j:Nat}(hj:j<5):(nC L)[i*5+j]? =(iJ p.1 p.2)[j]? :=by
 induction L generalizing i with
 |nil=>simp at h
 |cons q L ih=>
  have hq:(iJ q.1 q.2).length=5:=rfl;cases i with
  |zero=>
   simp at h;subst h;simp only [nC,List.flatMap_cons];rw [Nat.zero_mul,Nat.zero_add,List.getElem?_append_left (by omega)]
  |succ i=>
   simp at h;have:=ih h;simp only [nC,List.flatMap_cons]at*;rw [List.getElem?_append_right (by omega),hq,<-this]
   congr 1
   omega
theorem yX{L:List (Nd×Value)}{i:Nat}{p p':Nd×Value}(h:L[i]? =some p){j:Nat}(hj:j<5){v:Value}(hp:iJ p'.1 p'.2=(iJ p.1 p.2).set j v):
 (nC L).set (i*5+j) v=nC (L.set i p'):=by
 induction L generalizing i with
 |nil=>simp at h
 |cons q L ih=>
  have hq:(iJ q.1 q.2).length=5:=rfl;cases i with
  |zero=>
   simp at h;subst h;simp only [nC,List.flatMap_cons,List.set_cons_zero];rw [Nat.zero_mul,Nat.zero_add,List.set_append_left _ _ (by omega),hp]
  |succ i=>
   simp at h;have:=ih h;simp only [nC,List.flatMap_cons,List.set_cons_succ]at*;rw [List.set_append_right _ _ (by omega),hq,<-this]
   congr 2
   omega
structure UE(w:World)(S:Nat->Prop)(p:Nd×Value)(A:Option Addr)(m:Nat):Prop where
 val:p.2=.slice A p.1.ch.length m
 row:Row w 0 iX 1 A p.1.ch.length m (ints p.1.ch)
 jB: ∀k,bg A=some k->S k
structure TV(w:World)(S:Nat->Prop)(g:Nat)(T:List Nd)(d:Int)(b c:Nat)(L:List (Nd×Value)):Prop where
 top:w.heap[g]? =some (.cells #[.slice (some ⟨b,0,none⟩) T.length c,.int .i64 d] sk (0,0))
 fst:L.map Prod.fst=T
 row:Row w 0 iF 5 (some ⟨b,0,none⟩) T.length c (nC L)
 pH: ∀(i:Nat) (p:Nd×Value),L[i]? =some p-> ∃A m,UE w S p A m
 apart: ∀(i j:Nat) (p q:Nd×Value),L[i]? =some p->L[j]? =some q->i≠j-> ∀k,Value.ownBlock p.2=some k->Value.ownBlock q.2≠some k
 gC:S g
 fG:S b
def nM(w:World)(S:Nat->Prop)(g:Nat)(T:List Nd)(d:Int):Prop:= ∃b c L,TV w S g T d b c L
section
variable{w w':World}{S S':Nat->Prop}{g:Nat}{T:List Nd}{d:Int}{b c:Nat}{L:List (Nd×Value)}
theorem TV.at_(h:TV w S g T d b c L){i:Nat}{nd:Nd}(hi:T[i]? =some nd): ∃v,L[i]? =some (nd,v):=by
 rw [<-h.fst,List.getElem?_map]at hi;cases hL:L[i]? with
 |none=>simp [hL]at hi
 |some p=>
  rw [hL]at hi;simp at hi;exact⟨p.2,by rw [<-hi]⟩
theorem TV.nodes(h:TV w S g T d b c L):w.cell? ⟨g,0,none⟩=some (.slice (some ⟨b,0,none⟩) T.length c):=by rw [ax h.top];rfl
theorem TV.Hg(h:TV w S g T d b c L):w.cell? ⟨g,1,none⟩=some (.int .i64 d):=by rw [ax h.top];rfl
theorem TV.cell(h:TV w S g T d b c L){i:Nat}{p:Nd×Value}(hi:L[i]? =some p){j:Nat}{v:Value}(hj:j<5)(hv:(iJ p.1 p.2)[j]? =some v):w.cell? ⟨b,i*5+j,none⟩=some v:=
 Row.cell h.row (by rw [Hd hi hj,hv])
theorem TV.gb(h:TV w S g T d b c L):g≠b:=by
 rintro rfl;obtain⟨_,cur,hc⟩:=Row.bA h.row (k:=g) rfl;rw [h.top]at hc;injection hc with hc;injection hc with _ ht;exact absurd ht (by decide)
theorem UE.ne{p:Nd×Value}{A:Option Addr}{m:Nat}(h:UE w S p A m){k:Nat}{cs:Array Value}{t:TypeId}(hk:w.heap[k]? =some (.cells cs t (0,0)))(ht:t≠iX):bg A≠some k:=by
 intro e;obtain⟨_,cur,hc⟩:=Row.bA h.row e;rw [hk]at hc;injection hc with hc;injection hc with _ h2;exact ht h2
theorem TV.uJ(h:TV w S g T d b c L): ∃cur,w.heap[b]? =some (.cells cur iF (0,0)):=(Row.bA h.row rfl).2
theorem TV.aD{S0:Nat->Prop}(h:TV w S g T d b c L)(hk:Kept S0 w w')(hn: ∀k,S k-> ¬S0 k):TV w' S g T d b c L:= {
 top:=hk.heap h.top (hn g h.gC)
 fst:=h.fst
 row:=Row.aD h.row hk (fun k e=>by cases e;exact hn b h.fG)
 pH:=fun i p hp=>let ⟨A,m,h1⟩:=h.pH i p hp;⟨A,m,h1.val,Row.aD h1.row hk (fun k e=>hn k (h1.jB k e)),h1.jB⟩
 apart:=h.apart
 gC:=h.gC
 fG:=h.fG}
theorem nM.aD{S0:Nat->Prop}(h:nM w S g T d)(hk:Kept S0 w w')(hn: ∀k,S k-> ¬S0 k):nM w' S g T d:=
 let ⟨b,c,L,h⟩:=h;⟨b,c,L,h.aD hk hn⟩
theorem nM.same(h:nM w S g T d)(hk:Kept Nil w w'):nM w' S g T d:=h.aD hk fun _ _ h=>h
theorem TV.lt(h:TV w S g T d b c L):g<w.heap.size:=aT h.top
theorem TV.tp(h:TV w S g T d b c L){i:Nat}{nd nd':Nd}{v:Value}(hi:L[i]? =some (nd,v)){j:Nat}(hj:j<5){u:Value}
 (hc:iJ nd' v=(iJ nd v).set j u) (nA:nd'.ch=nd.ch):
 Wr w ⟨b,i*5+j,none⟩/\TV (w.setCell ⟨b,i*5+j,none⟩ u) S g (T.set i nd') d b c (L.set i (nd',v)):=by
 have dN:i<L.length:=(List.getElem?_eq_some_iff.1 hi).1;have cH:i*5+j<(nC L).length:=by rw [sg];omega
 refine⟨Row.wr h.row cH,?_⟩;have eM:=Row.set h.row cH u;rw [yX hi hj (p':=(nd',v)) hc]at eM;have hK:Kept (fun k=>k=b) w (w.setCell ⟨b,i*5+j,none⟩ u):=(Kept.refl (fun k=>k=b) w).setCell (p:=⟨b,i*5+j,none⟩) (fun _=>rfl) u;have fR: ∀(k:Nat) (p:Nd×Value),(L.set i (nd',v))[k]? =some p-> ∃q,L[k]? =some q/\q.2=p.2/\q.1.ch=p.1.ch:=by
  intro k p hp;rw [List.getElem?_set]at hp;by_cases e:i=k
  ·subst e
   rw [if_pos rfl,if_pos dN]at hp;cases hp;exact⟨_,hi,rfl,nA.symm⟩
  ·rw [if_neg e]at hp
   exact⟨p,hp,rfl,rfl⟩
 exact {
  top:=by rw [List.length_set];exact hK.heap h.top h.gb
  fst:=by rw [List.map_set,h.fst]
  row:=by rw [List.length_set];exact eM
  pH:=fun k p hp=>by
   obtain⟨q,hq,h1,h2⟩:=fR k p hp;obtain⟨A,m,hk⟩:=h.pH k q hq;obtain⟨cur,hb⟩:=h.uJ;refine⟨A,m,by rw [<-h1,<-h2];exact hk.val,?_,hk.jB⟩;rw [<-h2];exact Row.aD hk.row hK (fun k e e2=>hk.ne hb (by decide) (by rw [e,e2]))
  apart:=fun k l p q hp hq AD=>by
   obtain⟨p',I8,h1,_⟩:=fR k p hp;obtain⟨q',yF,h2,_⟩:=fR l q hq;rw [<-h1,<-h2];exact h.apart k l p' q' I8 yF AD
  gC:=h.gC
  fG:=h.fG}
end
end Go.Proofs.YtnboahlopghcjaaGreatDoor.Tr
namespace Go.Proofs.YtnboahlopghcjaaGreatDoor.Tr
open Go.Proofs.Tryz
open Go Go.bS Go.RowKit
theorem nH(b x y:Nat):((⟨b,0,none⟩:Addr).add x).add y=⟨b,x+y,none⟩:=by rw [a8,a8,Nat.zero_add]
theorem lC(b x:Nat):(⟨b,0,none⟩:Addr).add x=⟨b,x,none⟩:=by rw [a8,Nat.zero_add]
section
variable{w:World}{S:Nat->Prop}{g:Nat}{T:List Nd}{d:Int}{b c:Nat}{L:List (Nd×Value)}
theorem TV.go(h:TV w S g T d b c L){k:Option Addr->Nat->Nat->Prop}(hk:k (some ⟨b,0,none⟩) T.length c):
 ∃A n m,w.cell? ((⟨g,0,none⟩:Addr).add 0)=some (.slice A n m)/\k A n m:=⟨_,_,_,by rw [lC];exact h.nodes,hk⟩
theorem TV.goD(h:TV w S g T d b c L){k:Int->Prop}(hk:k d): ∃t,w.cell? ((⟨g,0,none⟩:Addr).add 1)=some (.int .i64 t)/\k t:=
 ⟨_,by rw [lC];exact h.Hg,hk⟩
theorem TV.Ha(h:TV w S g T d b c L){i:Nat}{nd:Nd}{v:Value}(hi:L[i]? =some (nd,v)){k:Int->Prop}(hk:k nd.parent):
 ∃t,w.cell? (((⟨b,0,none⟩:Addr).add (i*5)).add 0)=some (.int .i64 t)/\k t:=⟨_,by rw [nH];exact h.cell hi (by omega) rfl,hk⟩
theorem TV.Ub(h:TV w S g T d b c L){i:Nat}{nd:Nd}{v:Value}(hi:L[i]? =some (nd,v)){A:Option Addr}{m:Nat}(hv:v=.slice A nd.ch.length m){k:Option Addr->Nat->Nat->Prop}(hk:k A nd.ch.length m):
 ∃A n m,w.cell? (((⟨b,0,none⟩:Addr).add (i*5)).add 1)=some (.slice A n m)/\k A n m:=⟨_,_,_,by rw [nH];exact h.cell hi (by omega) (by rw [hv];rfl),hk⟩
theorem TV.ur(h:TV w S g T d b c L){i:Nat}{nd:Nd}{v:Value}(hi:L[i]? =some (nd,v)){k:Int->Prop}(hk:k nd.lo):
 ∃t,w.cell? (((⟨b,0,none⟩:Addr).add (i*5)).add 2)=some (.int .u64 t)/\k t:=⟨_,by rw [nH];exact h.cell hi (by omega) rfl,hk⟩
theorem TV.yT(h:TV w S g T d b c L){i:Nat}{nd:Nd}{v:Value}(hi:L[i]? =some (nd,v)){k:Int->Prop}(hk:k nd.hi):
 ∃t,w.cell? (((⟨b,0,none⟩:Addr).add (i*5)).add 3)=some (.int .u64 t)/\k t:=⟨_,by rw [nH];exact h.cell hi (by omega) rfl,hk⟩
theorem TV.wX(h:TV w S g T d b c L){i:Nat}{nd:Nd}{v:Value}(hi:L[i]? =some (nd,v)){k:Int->Prop}(hk:k nd.free):
 ∃t,w.cell? (((⟨b,0,none⟩:Addr).add (i*5)).add 4)=some (.int .u64 t)/\k t:=⟨_,by rw [nH];exact h.cell hi (by omega) rfl,hk⟩
theorem TV.kept{w':World}(h:TV w S g T d b c L)(hk:Kept Nil w w'):TV w' S g T d b c L:=h.aD hk fun _ _ h=>h
end
section
variable{w:World}{S:Nat->Prop}{g:Nat}{T:List Nd}{d:Int}{K:Value->World->Prop}
theorem wy(h:nM w S g T d)(n:Int)(hK:K (.bool (decide (0<=n/\n<T.length))) w):
 bk prog gP.id #[.pointer (some ⟨g,0,none⟩),.int .i64 n] w K:=by
 obtain⟨b,c,L,h⟩:=h;refine gP.of (Split.yes rfl (Split.dec (fun h0=>h.go ?_) (fun h0=>?_)))
 ·rwa [show decide (0<=n/\n<(T.length:Int))=decide (n<(T.length:Int))from by simp [show(0:Int)<=n from h0]]at hK
 ·rwa [decide_eq_false (fun e:0<=n/\n<(T.length:Int)=>h0 e.1)]at hK
theorem Fa(h:nM w S g T d)(hT:0<T.length)(n:Int)(hK:K (.int .i64 (if 0<=n/\n<T.length then 0 else 6)) w):
 bk prog fJ.id #[.pointer (some ⟨g,0,none⟩),.int .i64 n] w K:=by
 have h0:=h;obtain⟨b,c,L,h⟩:=h;refine fJ.of (Split.no rfl (h.go (Split.no (beq_eq_false_iff_ne.2 (by omega)) (wy h0 n ⟨_,rfl,?_⟩))));by_cases hn:0<=n/\n<(T.length:Int)
 ·rw [if_pos hn]at hK
  exact Split.no (by simp [hn]) hK
 ·rw [if_neg hn]at hK
  exact Split.yes (by simp only [decide_eq_false hn];rfl) hK
theorem rL(h:nM w S g T d){n:Nat}(hn:n<T.length)(hK:K (.int .i64 0) w):
 bk prog fJ.id #[.pointer (some ⟨g,0,none⟩),.int .i64 n] w K:=Fa h (by omega) n (by rw [if_pos ⟨by omega,by omega⟩];exact hK)
theorem CY(h:nM w S g T d){n:Nat}{nd:Nd}(hn:T[n]? =some nd)(hK: ∀w',Kept Nil w w'->K (.int .u64 (IntKind.u64.wrap (nd.hi-nd.free))) w'):
 bk prog fi.id #[.pointer (some ⟨g,0,none⟩),.int .i64 n] w K:=by
 obtain⟨b,c,L,h⟩:=h;have cH:n<T.length:=(List.getElem?_eq_some_iff.1 hn).1;obtain⟨v,hv⟩:=h.at_ hn;refine fi.of ?_;unfold fi.W;intro w1;have k1:Kept Nil w w1:=(Kept.refl Nil w).drew;have h1:=h.kept k1;have hb:0<=(n:Int)/\(n:Int)<(T.length:Int):=⟨by omega,by omega⟩;exact h1.go ⟨hb,h1.yT hv (h1.go ⟨hb,h1.wX hv (hK w1 k1)⟩)⟩
theorem xI(h:nM w S g T d){n:Nat}{nd:Nd}(hn:T[n]? =some nd)(h0:0<n)(hK:K (.tuple #[.int .i64 nd.parent,.int .i64 0]) w):
 bk prog eW.id #[.pointer (some ⟨g,0,none⟩),.int .i64 n] w K:=by
 have cH:n<T.length:=(List.getElem?_eq_some_iff.1 hn).1;refine eW.of (rL h cH ⟨_,rfl,Split.yes rfl (Split.no (beq_eq_false_iff_ne.2 (by omega)) (Split.no rfl ?_))⟩);obtain⟨b,c,L,h⟩:=h;obtain⟨v,hv⟩:=h.at_ hn;exact h.go ⟨⟨by omega,by omega⟩,h.Ha hv hK⟩
theorem JX:xu prog iG iX 1 8:=⟨by kernel_rfl,by kernel_rfl⟩
theorem wA:xu prog gL iF 5 56:=⟨by kernel_rfl,by kernel_rfl⟩
end
end Go.Proofs.YtnboahlopghcjaaGreatDoor.Tr
namespace Go.Proofs.YtnboahlopghcjaaGreatDoor.Tr
open Go.Proofs.Tryz
open Go Go.bS Go.RowKit
theorem fe{x:Int}(h0:0<=x)(h1:x<18446744073709551616):IntKind.u64.wrap x=x:=by
 simp only [IntKind.wrap,IntKind.bits,IntKind.signed];simp;omega
theorem gH{x:Int}(h0: -9223372036854775808<=x)(h1:x<9223372036854775808):IntKind.i64.wrap x=x:=by
 simp only [IntKind.wrap,IntKind.bits,IntKind.signed];simp;omega
def um(T:List Nd)(n p:Nat)(nd pd:Nd)(many:Int):List Nd:=
 (T.set n {nd with lo:=pd.free,hi:=pd.free+many-1,free:=pd.free}).set p {pd with free:=pd.free+many}
section
variable{w:World}{S:Nat->Prop}{g:Nat}{T:List Nd}{d:Int}{K:Value->World->Prop}
theorem gV{α:Type}{L:List α}{i:Nat}{x y:α}(h:L[i]? =some x):(L.set i y)[i]? =some y:=by
 rw [List.getElem?_set_self (List.getElem?_eq_some_iff.1 h).1]
theorem mP{α:Type}{L:List α}{i j:Nat}{x y:α}(h:L[j]? =some x)(fE:i≠j):(L.set i y)[j]? =some x:=by
 rw [List.getElem?_set_ne fE];exact h
theorem ti{b c:Nat}{L:List (Nd×Value)}(h:TV w S g T d b c L){n p:Nat}{nd pd:Nd}{many:Int}(hn:T[n]? =some nd)(hp:T[p]? =some pd)(Pj:nd.parent=p)(fE:n≠p)
 (hf:0<=pd.free) (hm:1<=many) (hfm:pd.free+many<18446744073709551616)
 (hK: ∀w' L',TV w' S g (um T n p nd pd many) d b c L'->Kept (fun k=>k=b) w w'->K (.tuple #[]) w'):
 bk prog fj.id #[.pointer (some ⟨g,0,none⟩),.int .i64 n,.int .u64 many] w K:=by
 have xo:n<T.length:=(List.getElem?_eq_some_iff.1 hn).1;have pV:p<T.length:=(List.getElem?_eq_some_iff.1 hp).1;obtain⟨v,hv⟩:=h.at_ hn;obtain⟨u,hu⟩:=h.at_ hp;have Vs:0<=(n:Int)/\(n:Int)<(T.length:Int):=⟨by omega,by omega⟩;have Ld:0<=nd.parent/\nd.parent<(T.length:Int):=by rw [Pj];exact⟨by omega,by omega⟩
 refine fj.of (h.go ⟨Vs,Is.mk rfl ?_⟩);intro w7;have k7:Kept (fun k=>k=b) w w7:=(Kept.refl _ w).drew;have h7:TV w7 S g T d b c L:=h.kept (Kept.refl Nil w).drew;refine h7.go (h7.Ha hv ⟨Ld,Is.mk rfl ?_⟩);rw [Pj];refine h7.wX hu ?_;obtain⟨We,CA⟩:=h7.tp hv (j:=2) (by omega) (u:=.int .u64 pd.free) (nd':= {nd with lo:=pd.free}) rfl rfl;have kS: ∀ {w w':World},Kept (fun k=>k=b) w w'-> ∀(j:Nat) (u:Value),Kept (fun k=>k=b) w (w'.setCell ⟨b,j,none⟩ u):=fun k j u=>k.setCell (fun _=>rfl) u;have v1:(L.set n ({nd with lo:=pd.free},v))[n]? =some ({nd with lo:=pd.free},v):=gV hv;refine⟨by rw [nH];exact We,?_⟩;intro kr;have e13:kr=w7.setCell ⟨b,n*5+2,none⟩ (.int .u64 pd.free):=by simp only [kr,nH,Int.toNat_natCast]
 have sV:Kept (fun k=>k=b) w kr:=by rw [e13];exact kS k7 _ _
 rw [<-e13]at CA;clear_value kr;refine CA.ur v1 ?_;obtain⟨wr2,G8⟩:=CA.tp v1 (j:=3) (by omega) (u:=.int .u64 (IntKind.u64.wrap (IntKind.u64.wrap (pd.free+many)-1))) (nd':= {nd with lo:=pd.free,hi:=pd.free+many-1}) (by rw [fe (x:=pd.free+many) (by omega) (by omega),fe (by omega) (by omega)];rfl) rfl;refine⟨by rw [nH];exact wr2,?_⟩;intro lZ;have e15:lZ=kr.setCell ⟨b,n*5+3,none⟩ (.int .u64 (IntKind.u64.wrap (IntKind.u64.wrap (pd.free+many)-1))):=by simp only [lZ,nH,Int.toNat_natCast]
 have rX:Kept (fun k=>k=b) w lZ:=by rw [e15];exact kS sV _ _
 rw [<-e15]at G8;clear_value lZ;rw [List.set_set,List.set_set]at G8;have v2:(L.set n ({nd with lo:=pd.free,hi:=pd.free+many-1},v))[n]? =some ({nd with lo:=pd.free,hi:=pd.free+many-1},v):=gV hv;refine G8.ur v2 ?_;obtain⟨Wc,VG⟩:=G8.tp v2 (j:=4) (by omega) (u:=.int .u64 pd.free) (nd':= {nd with lo:=pd.free,hi:=pd.free+many-1,free:=pd.free}) rfl rfl;refine⟨by rw [nH];exact Wc,?_⟩;intro vD;have e17:vD=lZ.setCell ⟨b,n*5+4,none⟩ (.int .u64 pd.free):=by simp only [vD,nH,Int.toNat_natCast]
 have F5:Kept (fun k=>k=b) w vD:=by rw [e17];exact kS rX _ _
 rw [<-e17]at VG;clear_value vD;rw [List.set_set,List.set_set]at VG;have u3:(L.set n ({nd with lo:=pd.free,hi:=pd.free+many-1,free:=pd.free},v))[p]? =some (pd,u):=mP hu fE;refine VG.wX u3 ?_;obtain⟨wr4,h19⟩:=VG.tp u3 (j:=4) (by omega) (u:=.int .u64 (IntKind.u64.wrap (pd.free+many))) (nd':= {pd with free:=pd.free+many}) (by rw [fe (by omega) (by omega)];rfl) rfl;refine⟨by rw [nH];exact wr4,?_⟩;intro nI;have e19:nI=vD.setCell ⟨b,p*5+4,none⟩ (.int .u64 (IntKind.u64.wrap (pd.free+many))):=by simp only [nI,nH,Int.toNat_natCast]
 exact hK nI _ (by rw [e19];exact h19) (by rw [e19];exact kS F5 _ _)
theorem CZ(h:nM w S g T d){n p:Nat}{nd pd:Nd}{many:Int}(hn:T[n]? =some nd)(hp:T[p]? =some pd)(Pj:nd.parent=p)(fE:n≠p)
 (hf:0<=pd.free) (hm:1<=many) (hfm:pd.free+many<18446744073709551616)
 (hK: ∀w',nM w' S g (um T n p nd pd many) d->Kept S w w'->K (.tuple #[]) w'):
 bk prog fj.id #[.pointer (some ⟨g,0,none⟩),.int .i64 n,.int .u64 many] w K:=by
 obtain⟨b,c,L,h⟩:=h;exact ti h hn hp Pj fE hf hm hfm fun w' L' h' k'=>hK w' ⟨b,c,L',h'⟩ (k'.mono fun k _ e=>by rw [e];exact h.fG)
end
end Go.Proofs.YtnboahlopghcjaaGreatDoor.Tr
namespace Go.Proofs.YtnboahlopghcjaaGreatDoor.Tr
open Go.Proofs.Tryz
open Go Go.bS Go.RowKit
section
variable{w:World}{S:Nat->Prop}{g:Nat}{T:List Nd}{d:Int}{b c:Nat}{L:List (Nd×Value)}
theorem yY(L M:List (Nd×Value)):nC (L++M)=nC L++nC M:=by simp [nC]
theorem TV.G9(h:TV w S g T d b c L)(kR:T.length<=1000000)(p:Int){w10:World}
 (e10:w10=w.alloc (.cells #[.int .i64 p,.slice none 0 0,.int .u64 0,.int .u64 0,.int .u64 0] iF)):
 ∃A c' lF,(Builtin.append_ #[gL,gL] gL #[.slice (some ⟨b,0,none⟩) T.length c,.slice (some ⟨w.heap.size,0,none⟩) 1 1]).run prog w10=.ok (.slice A (T.length+1) c') lF/\
  Wr lF ⟨g,0,none⟩/\ ∃b' S' L',TV (lF.setCell ⟨g,0,none⟩ (.slice A (T.length+1) c')) S' g (T++ [⟨p,[],0,0,0⟩]) d b' c' L'/\(∀(i:Nat) q,L[i]? =some q->L'[i]? =some q)/\
   Kept S w (lF.setCell ⟨g,0,none⟩ (.slice A (T.length+1) c'))/\(∀k,S k->S' k)/\(∀k,S' k->S k\/w.heap.size<=k):=by
 subst e10;generalize MX:w.alloc (.cells #[.int .i64 p,.slice none 0 0,.int .u64 0,.int .u64 0,.int .u64 0] iF)=w10;have lR:w10.heap[w.heap.size]? =some (.cells #[.int .i64 p,.slice none 0 0,.int .u64 0,.int .u64 0,.int .u64 0] iF (0,0)):=by rw [<-MX];exact aH w _
 have nv:Kept Nil w w10:=by rw [<-MX];exact(Kept.refl Nil w).alloc _
 have I0:w10.heap.size=w.heap.size+1:=by rw [<-MX];simp
 have uQ:=h.kept nv;obtain⟨A,c',lF,hr,eM,hg,AJ⟩:=e8 (P:=prog) (t:=gL) (ty:=gL) wA uQ.row (a:=⟨w.heap.size,0,none⟩) (m:=1) (cx:=1)
  (news:=iJ ⟨p,[],0,0,0⟩ (.slice none 0 0)) rfl (fun j u hj=>by rw [lC,ax lR];simpa [iJ]using hj) (by intro u hu;simp [iJ]at hu;rcases hu with rfl|rfl|rfl|rfl|rfl<;>rfl)
  (by omega) (by unfold maxLen;omega) (Nat.zero_le _)
 obtain⟨b',rfl⟩:=Row.some eM (by omega);have kb:Kept (fun k=>k=b) w10 lF:=(Kept.refl _ w10).grown hg (fun k hk _=>by cases hk;rfl);have iB:lF.heap[g]? =some (.cells #[.slice (some ⟨b,0,none⟩) T.length c,.int .i64 d] sk (0,0)):=kb.heap uQ.top h.gb;refine⟨_,c',lF,hr,dO iB (show 0<2 by omega),?_⟩;generalize Rf:lF.setCell ⟨g,0,none⟩ (.slice (some ⟨b',0,none⟩) (T.length+1) c')=wf;have kg:Kept (fun k=>k=g) lF wf:=by rw [<-Rf];exact(Kept.refl (fun k=>k=g) lF).setCell (p:=⟨g,0,none⟩) (fun _=>rfl) _
 have vk:b'=b\/w10.heap.size<=b':=by
  rcases AJ b' rfl with h|h
  ·left;cases h;rfl
  ·exact .inr h
 have ZT:b'≠g:=by
  rintro rfl;obtain⟨_,cur,hc⟩:=Row.bA eM (k:=b') rfl;rw [iB]at hc;injection hc with hc;injection hc with _ ht;exact absurd ht (by decide)
 have DY: ∀(i:Nat) (q:Nd×Value),L[i]? =some q-> ∃A m,UE wf S q A m:=by
  intro i q hq;obtain⟨A,m,hk⟩:=uQ.pH i q hq;obtain⟨cur,Ps⟩:=uQ.uJ;have r1:=Row.aD hk.row kb (fun k e e2=>hk.ne Ps (by decide) (by rw [e,e2]));have r2:=Row.aD r1 kg (fun k e e2=>hk.ne uQ.top (by decide) (by rw [e,e2]));exact⟨A,m,hk.val,r2,hk.jB⟩
 refine⟨b',fun k=>S k\/k=b',L++ [(⟨p,[],0,0,0⟩,.slice none 0 0)],?_,fun i q hq=>?_,?_,fun k hk=>.inl hk,?_⟩
 ·exact {
   top:=by
    have:=cR iB 0 (.slice (some ⟨b',0,none⟩) (T.length+1) c');rw [Rf]at this;simpa using this
   fst:=by simp [h.fst]
   row:=by
    rw [yY,List.length_append];have:=Row.aD eM kg (fun k e e2=>ZT (by cases e;exact e2));simpa [nC]using this
   pH:=fun i q hq=>by
    rw [List.getElem?_append]at hq;split at hq
    ·obtain⟨A,m,hk⟩:=DY i q hq
     exact⟨A,m,hk.val,hk.row,fun k e=>.inl (hk.jB k e)⟩
    ·rename_i cH
     have:i-L.length=0:=by
      rcases Nat.eq_zero_or_pos (i-L.length)with h|h
      ·exact h
      ·rw [List.getElem?_eq_none (by simp;omega)]at hq;cases hq
     rw [this]at hq;simp at hq;subst hq;exact⟨none,0,rfl,Row.nil _ _ _ _,fun k e=>by cases e⟩
   apart:=fun i j q q' hq yF qw k hk nh=>by
    rw [List.getElem?_append]at hq yF;have last: ∀(x:Nat) (r:Nd×Value),[((⟨p,[],0,0,0⟩:Nd),Value.slice none 0 0)][x]? =some r->r.2=.slice none 0 0:=by
     intro x r hr;cases x with
     |zero=>simp at hr;subst hr;rfl
     |succ x=>simp at hr
    split at hq<;>split at yF
    ·exact h.apart i j q q' hq yF qw k hk nh
    ·rw [last _ _ yF]at nh;cases nh
    ·rw [last _ _ hq]at hk;cases hk
    ·rw [last _ _ yF]at nh;cases nh
   gC:=.inl h.gC
   fG:=.inr rfl}
 ·rw [List.getElem?_append_left (List.getElem?_eq_some_iff.1 hq).1];exact hq
 ·have vX:Kept S w lF:=(nv.mono (S':=S) (fun _ _ h=>h.elim)).trans kb (fun k _ e=>by rw [e];exact h.fG)
  exact vX.trans kg (fun k _ e=>by rw [e];exact h.gC)
 ·rintro k (hk|rfl)
  ·exact .inl hk
  ·rcases vk with rfl|vk
   ·exact .inl h.fG
   ·right;omega
theorem TV.JA(h:TV w S g T d b c L){p:Nat}{nd:Nd}{v:Value}(hp:L[p]? =some (nd,v)){A:Option Addr}{m:Nat}(hk:UE w S (nd,v) A m)(kR:nd.ch.length<=1000000)(n:Nat){w22:World}
 (e22:w22=w.alloc (.cells #[.int .i64 n] iX)):
 ∃A' c' kP,(Builtin.append_ #[iG,iG] iG #[.slice A nd.ch.length m,.slice (some ⟨w.heap.size,0,none⟩) 1 1]).run prog w22=.ok (.slice A' (nd.ch.length+1) c') kP/\
  kP.cell? ⟨g,0,none⟩=some (.slice (some ⟨b,0,none⟩) T.length c)/\Wr kP ⟨b,p*5+1,none⟩/\
  ∃S' L',TV (kP.setCell ⟨b,p*5+1,none⟩ (.slice A' (nd.ch.length+1) c')) S' g (T.set p {nd with ch:=nd.ch++ [n]}) d b c L'/\
   Kept S w (kP.setCell ⟨b,p*5+1,none⟩ (.slice A' (nd.ch.length+1) c'))/\(∀k,S k->S' k)/\(∀k,S' k->S k\/w.heap.size<=k):=by
 subst e22;generalize MW:w.alloc (.cells #[.int .i64 n] iX)=w22;have lR:w22.heap[w.heap.size]? =some (.cells #[.int .i64 n] iX (0,0)):=by rw [<-MW];exact aH w _
 have QZ:Kept Nil w w22:=by rw [<-MW];exact(Kept.refl Nil w).alloc _
 have afM:w22.heap.size=w.heap.size+1:=by rw [<-MW];simp
 have AN:=h.kept QZ;have M8:=Row.aD hk.row QZ (fun _ _ h=>h);have pV:p<L.length:=(List.getElem?_eq_some_iff.1 hp).1;obtain⟨A',c',kP,hr,eM,hg,AJ⟩:=e8 (P:=prog) (t:=iG) (ty:=iG) JX M8 (a:=⟨w.heap.size,0,none⟩) (m:=1) (cx:=1)
  (news:=ints [n]) rfl (fun j u hj=>by rw [lC,ax lR];simpa [ints]using hj) (by intro u hu;simp [ints]at hu;subst hu;rfl)
  (by simp only;omega) (by unfold maxLen;simp only;omega) (Nat.zero_le _)
 obtain⟨cur,Ps⟩:=AN.uJ;obtain⟨ah4,hb0⟩:=h.uJ;have K4:bg A≠some b:=hk.ne hb0 (by decide);have hkg:bg A≠some g:=hk.ne h.top (by decide);have kA:Kept (fun k=>bg A=some k) w22 kP:=(Kept.refl _ w22).grown hg (fun k hk _=>hk);have G6:Row kP 0 iF 5 (some ⟨b,0,none⟩) T.length c (nC L):=Row.aD AN.row kA (fun k e e2=>K4 (by rw [e2,<-e];rfl));have G5:=kA.heap AN.top (fun e=>hkg e);have cH:p*5+1<(nC L).length:=by rw [sg];omega
 refine⟨A',c',kP,hr,by rw [ax G5];rfl,Row.wr G6 cH,?_⟩;generalize Rf:kP.setCell ⟨b,p*5+1,none⟩ (.slice A' (nd.ch.length+1) c')=wf;have kB:Kept (fun k=>k=b) kP wf:=by rw [<-Rf];exact(Kept.refl (fun k=>k=b) kP).setCell (p:=⟨b,p*5+1,none⟩) (fun _=>rfl) _
 have aar:bg A'≠some b:=by
  intro e;obtain⟨_,Uk,hc⟩:=Row.bA eM e;have:=kA.heap Ps K4;rw [this]at hc;injection hc with hc;injection hc with _ ht;exact absurd ht (by decide)
 have uc: ∀(A:Option Addr) n m,Value.ownBlock (.slice A n m)=bg A:=by intro A n m;cases A<;>rfl
 have fR: ∀(i:Nat) (q:Nd×Value),(L.set p ({nd with ch:=nd.ch++ [n]},.slice A' (nd.ch.length+1) c'))[i]? =some q->(i=p/\q=({nd with ch:=nd.ch++ [n]},.slice A' (nd.ch.length+1) c'))\/(i≠p/\L[i]? =some q):=by
  intro i q hq;by_cases e:p=i
  ·subst e
   rw [List.getElem?_set_self pV]at hq;cases hq;exact .inl ⟨rfl,rfl⟩
  ·rw [List.getElem?_set_ne e]at hq
   exact .inr ⟨fun h=>e h.symm,hq⟩
 have KX: ∀k,bg A'=some k-> ∀(i:Nat) (q:Nd×Value),i≠p->L[i]? =some q->Value.ownBlock q.2≠some k:=by
  intro k nh i q hi hq Yf;rcases AJ k nh with e|e
  ·exact h.apart p i _ _ hp hq (fun e=>hi e.symm) k (by rw [hk.val,uc];exact e) Yf
  ·obtain⟨A2,m2,mZ⟩:=h.pH i q hq
   rw [mZ.val,uc]at Yf;obtain⟨_,ah3,La⟩:=Row.bA mZ.row Yf;have:=aT La;omega
 refine⟨fun k=>S k\/bg A'=some k,L.set p ({nd with ch:=nd.ch++ [n]},.slice A' (nd.ch.length+1) c'),?_,?_,fun k hk=>.inl hk,?_⟩
 ·exact {
   top:=by rw [List.length_set];exact kB.heap G5 h.gb
   fst:=by rw [List.map_set,h.fst]
   row:=by
    rw [List.length_set];have:=Row.set G6 cH (.slice A' (nd.ch.length+1) c');rw [Rf,yX hp (j:=1) (by omega) (p':=({nd with ch:=nd.ch++ [n]},.slice A' (nd.ch.length+1) c')) rfl]at this;exact this
   pH:=fun i q hq=>by
    rcases fR i q hq with⟨rfl,rfl⟩|⟨hi,hq⟩
    ·refine⟨A',c',by simp,?_,fun k e=>.inr e⟩
     have:=Row.aD eM kB (fun k e e2=>aar (by rw [e,e2]));simpa [ints]using this
    ·obtain⟨A2,m2,mZ⟩:=AN.pH i q hq
     have r1:=Row.aD mZ.row kA (fun k e e2=>h.apart p i _ _ hp hq (fun e=>hi e.symm) k (by rw [hk.val,uc];exact e2) (by rw [mZ.val,uc];exact e));have r2:=Row.aD r1 kB (fun k e e2=>mZ.ne Ps (by decide) (by rw [e,e2]));exact⟨A2,m2,mZ.val,r2,fun k e=>.inl (mZ.jB k e)⟩
   apart:=fun i j q q' hq yF qw k HQ mZ=>by
    rcases fR i q hq with⟨e1,e2⟩|⟨hi,KR⟩<;>rcases fR j q' yF with⟨e3,e4⟩|⟨hj,Pf⟩
    ·exact qw (e1.trans e3.symm)
    ·rw [e2,uc]at HQ;exact KX k HQ j q' hj Pf mZ
    ·rw [e4,uc]at mZ;exact KX k mZ i q hi KR HQ
    ·exact h.apart i j q q' KR Pf qw k HQ mZ
   gC:=.inl h.gC
   fG:=.inl h.fG}
 ·have pU:Kept S w kP:=(QZ.mono (S':=S) (fun _ _ h=>h.elim)).trans kA (fun k _ e=>hk.jB k e)
  exact pU.trans kB (fun k _ e=>by rw [e];exact h.fG)
 ·rintro k (nh|nh)
  ·exact .inl nh
  ·rcases AJ k nh with e|e
   ·exact .inl (hk.jB k e)
   ·right;omega
end
end Go.Proofs.YtnboahlopghcjaaGreatDoor.Tr
namespace Go.Proofs.YtnboahlopghcjaaGreatDoor.Tr
open Go.Proofs.Tryz
open Go Go.bS Go.RowKit
def grown(T:List Nd)(p:Nat)(pd:Nd):List Nd:=(T++ [(⟨p,[],0,0,0⟩:Nd)]).set p {pd with ch:=pd.ch++ [T.length]}
def iC(pd:Nd):Int:=(pd.hi-pd.free+1)/2
def added(T:List Nd)(p:Nat)(pd:Nd):List Nd:=um (grown T p pd) T.length p ⟨p,[],0,0,0⟩ {pd with ch:=pd.ch++ [T.length]} (iC pd)
section
variable{w:World}{S:Nat->Prop}{g:Nat}{T:List Nd}{d:Int}{K:Value->World->Prop}
theorem tj(h:nM w S g T d){p:Nat}{pd:Nd}(hp:T[p]? =some pd)(kR:T.length<=1000000)(nA:pd.ch.length<=1000000)
 (hf:0<=pd.free) (hfh:pd.free<=pd.hi) (hh:pd.hi<=4611686018427387904)
 (hK1:pd.free<pd.hi-> ∀w' S',nM w' S' g (added T p pd) d->Kept S w w'->(∀k,S' k->S k\/w.heap.size<=k)->K (.tuple #[.int .i64 T.length,.int .i64 0]) w')
 (hK2:pd.free=pd.hi-> ∀w' S',nM w' S' g (grown T p pd) d->Kept S w w'->(∀k,S' k->S k\/w.heap.size<=k)->
   bk prog au.id #[.pointer (some ⟨g,0,none⟩),.int .i64 p] w' fun v lG=>v=.tuple #[]/\K (.tuple #[.int .i64 T.length,.int .i64 0]) lG):
 bk prog fK.id #[.pointer (some ⟨g,0,none⟩),.int .i64 p] w K:=by
 have cH:p<T.length:=(List.getElem?_eq_some_iff.1 hp).1;refine fK.of (rL h cH ⟨_,rfl,Split.no rfl ?_⟩);obtain⟨b,c,L,h⟩:=h;obtain⟨v,hv⟩:=h.at_ hp;refine h.go (h.go ⟨rfl,?_⟩);intro w10;obtain⟨A1,c1,lF,kF,We,b1,S1,L1,h14,hL1,DL,hS1,TR⟩:=h.G9 kR (p:Int) (w10:=w10) rfl;refine⟨A1,_,c1,lF,kF,by rw [lC];exact We,?_⟩;intro gN;have e14:gN=lF.setCell ⟨g,0,none⟩ (.slice A1 (T.length+1) c1):=by simp only [gN,lC]
 rw [<-e14]at h14 DL;clear_value gN;intro lZ;have rX:Kept Nil gN lZ:=(Kept.refl Nil gN).drew;have G8:=h14.kept rX;have HM:=hL1 _ _ hv;have hlen:(T++ [(⟨p,[],0,0,0⟩:Nd)]).length=T.length+1:=by simp
 have Lh:0<=(p:Int)/\(p:Int)<((T++ [(⟨p,[],0,0,0⟩:Nd)]).length:Int):=by rw [hlen];exact⟨by omega,by omega⟩
 obtain⟨A2,m2,hk⟩:=G8.pH _ _ HM;refine G8.go (G8.go ⟨Lh,G8.Ub HM hk.val ?_⟩);intro w22;have QZ:Kept Nil lZ w22:=(Kept.refl Nil lZ).alloc _;have AN:=G8.kept QZ;obtain⟨A3,c3,kP,Cn,R8,Wc,S3,L3,VF,DK,hS3,Z6⟩:=G8.JA HM hk nA T.length (w22:=w22) rfl;have yK:=AN.cell HM (j:=1) (by omega) (v:=v) rfl;have hvv:v=.slice A2 pd.ch.length m2:=hk.val;rw [hvv]at yK;refine⟨by rw [nH];exact yK,by rw [lC];exact AN.nodes,by rw [lC];exact AN.nodes,A3,_,c3,kP,Cn,by rw [lC];exact R8,Lh,by rw [nH];exact Wc,?_⟩;intro pr;have e26:pr=kP.setCell ⟨b1,p*5+1,none⟩ (.slice A3 (pd.ch.length+1) c3):=by simp only [pr,nH,Int.toNat_natCast]
 rw [<-e26]at VF DK;clear_value pr;have IY:(T++ [(⟨p,[],0,0,0⟩:Nd)]).set p {pd with ch:=pd.ch++ [T.length]}=grown T p pd:=rfl;rw [IY]at VF;have hgp:(grown T p pd)[p]? =some {pd with ch:=pd.ch++ [T.length]}:=by
  unfold grown;rw [List.getElem?_set_self (by simp;omega)]
 have hgn:(grown T p pd)[T.length]? =some ⟨p,[],0,0,0⟩:=by
  unfold grown;rw [List.getElem?_set_ne (by omega)];simp
 have kw:Kept S w pr:=(DL.trans (rX.mono (S':=S) (fun _ _ h=>h.elim)) (fun _ _ h=>h)).trans DK (fun k hk h=>by
  rcases TR k h with h|h
  ·exact h
  ·omega)
 have Oi: ∀k,S3 k->S k\/w.heap.size<=k:=fun k h=>by
  rcases Z6 k h with h|h
  ·exact TR k h
  ·right
   have:=DL.size;have:=rX.size;omega
 refine CY ⟨_,_,_,VF⟩ hgp fun Ey yv=>⟨_,rfl,?_⟩;have h28:=VF.kept yv;have Qy:Kept S w Ey:=kw.trans yv (fun _ _ h=>h.elim);simp only [];rw [fe (x:=pd.hi-pd.free) (by omega) (by omega)];refine Split.dec (fun iK=>⟨by decide,?_⟩) (fun iK=>?_)
 ·have Cv:IntKind.u64.wrap ((IntKind.u64.wrap (pd.hi-pd.free+1)).tdiv 2)=iC pd:=by
   rw [fe (x:=pd.hi-pd.free+1) (by omega) (by omega),Int.tdiv_eq_ediv_of_nonneg (by omega),fe (by omega) (by omega)];rfl
  rw [Cv];refine CZ ⟨_,_,_,h28⟩ hgn hgp rfl (by omega) hf (by unfold iC;omega) (by unfold iC;simp only;omega) fun EZ h31 Ko=>⟨rfl,?_⟩;refine hK1 (by omega) EZ S3 h31 (Qy.trans Ko fun k hk h=>?_) Oi;rcases Oi k h with h|h
  ·exact h
  ·omega
 ·exact hK2 (by omega) Ey S3 ⟨_,_,_,h28⟩ Qy Oi
end
end Go.Proofs.YtnboahlopghcjaaGreatDoor.Tr
namespace Go.Proofs.YtnboahlopghcjaaGreatDoor.Tr
open Go.Proofs.Tryz
open Go Go.bS Go.RowKit
section
variable{w:World}{S:Nat->Prop}{g:Nat}{T:List Nd}{d:Int}{K:Value->World->Prop}
def pe:List Nd:= [⟨-1,[],1,4611686018427387904,1⟩]
theorem eh(hK: ∀w' g,nM w' (fun k=>w.heap.size<=k) g pe 0->Kept Nil w w'->K (.pointer (some ⟨g,0,none⟩)) w'):bk prog eh.id #[] w K:=by
 refine eh.of ⟨rfl,?_⟩;intro w1 w2;have k1:Kept Nil w w1:=(Kept.refl Nil w).alloc _;have k2:Kept Nil w w2:=k1.alloc _;refine hK w2 w1.heap.size ⟨w.heap.size,1,[(⟨-1,[],1,4611686018427387904,1⟩,.slice none 0 0)],?_⟩ k2;exact {
  top:=aH w1 _
  fst:=rfl
  row:=Row.made (n:=1) (cur:= #[.int .i64 (-1),.slice none 0 0,.int .u64 1,.int .u64 4611686018427387904,.int .u64 1]) (jA (aH w _) _) (Nat.zero_le _) rfl (by decide)
  pH:=fun i p hp=>by
   cases i with
   |zero=>simp at hp;subst hp;exact⟨none,0,rfl,Row.nil _ _ _ _,fun k e=>by cases e⟩
   |succ i=>simp at hp
  apart:=fun i j p q hp hq qw=>by
   cases i<;>cases j<;>simp at hp hq
   exact absurd rfl qw
  gC:=k1.size
  fG:=Nat.le_refl _}
theorem zJ(h:nM w S g T d){a b:Nat}{ad bd:Nd}(ha:T[a]? =some ad)(hb:T[b]? =some bd)(hK: ∀w',Kept Nil w w'->K (.bool (decide (bd.lo<=ad.lo/\ad.hi<=bd.hi))) w'):
 bk prog eN.id #[.pointer (some ⟨g,0,none⟩),.int .i64 a,.int .i64 b] w K:=by
 have hal:a<T.length:=(List.getElem?_eq_some_iff.1 ha).1;have AJ:b<T.length:=(List.getElem?_eq_some_iff.1 hb).1;have ZJ:0<=(a:Int)/\(a:Int)<(T.length:Int):=⟨by omega,by omega⟩;have vj:0<=(b:Int)/\(b:Int)<(T.length:Int):=⟨by omega,by omega⟩;refine eN.of ?_;unfold eN.W;intro w4;have k4:Kept Nil w w4:=(Kept.refl Nil w).drew;have h4:=h.same k4;have hk:=hK w4 k4;refine wy h4 a ⟨_,rfl,Split.yes (decide_eq_true ZJ) ?_⟩;refine wy h4 b ⟨_,rfl,Split.yes (decide_eq_true vj) ?_⟩;obtain⟨p,c,L,h4⟩:=h4;obtain⟨va,hva⟩:=h4.at_ ha;obtain⟨vb,Ri⟩:=h4.at_ hb;refine h4.go ⟨vj,h4.ur Ri (h4.go ⟨ZJ,h4.ur hva ?_⟩)⟩;refine Split.dec (fun h1=>h4.go ⟨ZJ,h4.yT hva (h4.go ⟨vj,h4.yT Ri ?_⟩)⟩) (fun h1=>?_)
 ·rwa [show decide (bd.lo<=ad.lo/\ad.hi<=bd.hi)=decide (ad.hi<=bd.hi)from by simp [h1]]at hk
 ·rwa [decide_eq_false (fun e:bd.lo<=ad.lo/\ad.hi<=bd.hi=>h1 e.1)]at hk
end
section
variable{w:World}{t:Option Addr}{K:Value->World->Prop}
end
end Go.Proofs.YtnboahlopghcjaaGreatDoor.Tr
namespace Go.Proofs.YtnboahlopghcjaaGreatDoor.Tr
open Go.Proofs.Tryz
def bM(T:List Nd):List Int:=T.map (·.parent)
structure mS(P:List Int):Prop where
 root:P[0]? =some (-1)
 up: ∀(i:Nat) (p:Int),0<i->P[i]? =some p-> ∃j:Nat,j<i/\p=j
def kids(P:List Int)(i:Nat):List Nat:=(List.range P.length).filter fun j=>P[j]? ==some (i:Int)
theorem eo{P:List Int}{i j:Nat}:j∈kids P i↔P[j]? =some (i:Int):=by
 simp only [kids,List.mem_filter,List.mem_range,beq_iff_eq];exact⟨fun h=>h.2,fun h=>⟨(List.getElem?_eq_some_iff.1 h).1,h⟩⟩
theorem ik{P:List Int}(hP:mS P){i j:Nat}(h:j∈kids P i):i<j/\j<P.length:=by
 rw [eo]at h;refine⟨?_,(List.getElem?_eq_some_iff.1 h).1⟩;rcases Nat.eq_zero_or_pos j with rfl|hj
 ·rw [hP.root]at h;have:=Option.some.inj h;omega
 ·obtain⟨k,hk,e⟩:=hP.up j _ hj h
  omega
theorem rW(P:List Int)(i:Nat):(kids P i).Pairwise (· < ·):=List.Pairwise.filter _ (List.pairwise_lt_range)
theorem yn(P:List Int)(i:Nat):(kids P i).length<=P.length:=by
 unfold kids;exact Nat.le_trans (List.length_filter_le _ _) (by simp)
inductive js (P:List Int):Nat->Nat->Prop
 |refl {i:Nat}:i<P.length->js P i i
 |step {i j k:Nat}:P[i]? =some (j:Int)->js P j k->js P i k
theorem js.lt{P:List Int}{i k:Nat}(h:js P i k):i<P.length:=by
 cases h with
 |refl h=>exact h
 |step h _=>exact(List.getElem?_eq_some_iff.1 h).1
theorem js.UP{P:List Int}{i k:Nat}(h:js P i k):k<P.length:=by
 induction h with
 |refl h=>exact h
 |step _ _ ih=>exact ih
theorem js.le{P:List Int}(hP:mS P){i k:Nat}(h:js P i k):k<=i:=by
 induction h with
 |refl=>omega
 |step h _ ih=>have:=(ik hP (eo.2 h)).1;omega
theorem js.trans{P:List Int}{i j k:Nat}(h:js P i j)(h':js P j k):js P i k:=by
 induction h with
 |refl=>exact h'
 |step h _ ih=>exact .step h (ih h')
theorem js.inv{P:List Int}{i j k:Nat}(h:js P i k)(fE:i≠k)(hj:P[i]? =some (j:Int)):js P j k:=by
 cases h with
 |refl=>exact absurd rfl fE
 | @step _ j' _ h h'=>
   rw [hj]at h;have e:j=j':=by have:=Option.some.inj h;omega
   rw [e];exact h'
theorem js.child{P:List Int}{i k:Nat}(h:js P i k)(fE:i≠k): ∃c,c∈kids P k/\js P i c:=by
 induction h with
 |refl=>exact absurd rfl fE
 | @step i j k h h' ih=>
   by_cases e:j=k
   ·subst e
    exact⟨i,eo.2 h,.refl (List.getElem?_eq_some_iff.1 h).1⟩
   ·obtain⟨c,hc,hu⟩:=ih e
    exact⟨c,hc,.step h hu⟩
structure Iv(nd:Nd):Prop where
 WL:1<=nd.lo
 le:nd.lo<=nd.hi
 top:nd.hi<=4611686018427387904
structure Loc(T:List Nd)(nd:Nd):Prop where
 EK:nd.lo<=nd.free
 AU:nd.free<=nd.hi
 sub: ∀c cd,c∈nd.ch->T[c]? =some cd->nd.lo<=cd.lo/\cd.hi<nd.free
 ord: ∀(c c':Nat) cd uF,c∈nd.ch->c'∈nd.ch->c<c'->T[c]? =some cd->T[c']? =some uF->cd.hi<uF.lo
structure Shape(T:List Nd):Prop where
 par:mS (bM T)
 ch: ∀(i:Nat) nd,T[i]? =some nd->nd.ch=kids (bM T) i
structure Good(T:List Nd):Prop extends Shape T where
 iv: ∀(i:Nat) nd,T[i]? =some nd->Iv nd
 loc: ∀(i:Nat) nd,T[i]? =some nd->Loc T nd
theorem jV{T:List Nd}{i:Nat}{nd:Nd}(h:T[i]? =some nd):(bM T)[i]? =some nd.parent:=by simp [bM,h]
theorem ek(T:List Nd):(bM T).length=T.length:=by simp [bM]
theorem Shape.pos{T:List Nd}(h:Shape T):0<T.length:=by
 have:=(List.getElem?_eq_some_iff.1 h.par.root).1
 rwa [ek]at this
theorem Good.pH{T:List Nd}(h:Good T){c k:Nat}{cd kd:Nd}(hc:c∈kids (bM T) k)(ja:T[c]? =some cd)(St:T[k]? =some kd):
 kd.lo<=cd.lo/\cd.hi<kd.free:=(h.loc k kd St).sub c cd (by rw [h.ch k kd St];exact hc) ja
theorem fw{T:List Nd}{i:Nat}(h:i<T.length): ∃nd,T[i]? =some nd:=⟨_,List.getElem?_eq_getElem h⟩
theorem Good.nJ{T:List Nd}(h:Good T){a b:Nat}{ad bd:Nd}(ha:T[a]? =some ad)(hb:T[b]? =some bd)(hu:js (bM T) a b):bd.lo<=ad.lo/\ad.hi<=bd.hi:=by
 induction hu generalizing ad with
 |refl=>rw [ha]at hb;cases hb;omega
 | @step i j k hp h' ih=>
   have sY:j<T.length:=by have:=h'.lt;rwa [ek]at this
   obtain⟨jd,hj⟩:=fw sY;have h1:=ih hj hb;have h2:=h.pH (eo.2 hp) ha hj;have h3:=(h.loc j jd hj).AU;omega
theorem Good.apart{T:List Nd}(h:Good T): ∀(m a b:Nat),a+b<=m-> ∀ad bd,T[a]? =some ad->T[b]? =some bd-> ¬js (bM T) a b-> ¬js (bM T) b a->ad.hi<bd.lo\/bd.hi<ad.lo:=by
 intro m
 induction m with
 |zero=>
  intro a b hm ad bd ha hb h1 _;have:a=b:=by omega
  subst this;exact absurd (.refl (by rw [ek];exact(List.getElem?_eq_some_iff.1 ha).1)) h1
 |succ m ih=>
  have key: ∀(a b:Nat),a+b<=m+1->b<a-> ∀ad bd,T[a]? =some ad->T[b]? =some bd-> ¬js (bM T) a b-> ¬js (bM T) b a->ad.hi<bd.lo\/bd.hi<ad.lo:=by
   intro a b hm cH ad bd ha hb h1 h2;have hal:=(List.getElem?_eq_some_iff.1 ha).1;obtain⟨p,hp,e⟩:=h.par.up a _ (by omega) (jV ha);have Vb:(bM T)[a]? =some (p:Int):=by rw [jV ha,e]
   obtain⟨pd,wU⟩:=fw (T:=T) (i:=p) (by omega);have fh:=h.pH (eo.2 Vb) ha wU;have pV:=h.loc p pd wU;have Ax: ¬js (bM T) p b:=fun hu=>h1 (.step Vb hu);by_cases Ld:js (bM T) b p
   ·have fE:b≠p:=fun e=>Ax (by subst e;exact .refl Ld.lt)
    obtain⟨c,hc,KF⟩:=Ld.child fE;have hca:c≠a:=fun e=>h2 (e▸KF);have pW:c<T.length:=by have:=(ik h.par hc).2;rwa [ek]at this
    obtain⟨cd,ja⟩:=fw pW;have GR:=h.nJ hb ja KF;have nA:=h.ch p pd wU;rcases Nat.lt_or_ge c a with cH|fV
    ·have:=pV.ord c a cd ad (by rw [nA];exact hc) (by rw [nA];exact eo.2 Vb) cH ja ha
     omega
    ·have:=pV.ord a c ad cd (by rw [nA];exact eo.2 Vb) (by rw [nA];exact hc) (by omega) ha ja
     omega
   ·have:=ih p b (by omega) pd bd wU hb Ax Ld
    have:=pV.AU;omega
  intro a b hm ad bd ha hb h1 h2;rcases Nat.lt_trichotomy a b with cH|rfl|cH
  ·have:=key b a (by omega) cH bd ad hb ha h2 h1
   omega
  ·exact absurd (.refl (by rw [ek];exact(List.getElem?_eq_some_iff.1 ha).1)) h1
  ·exact key a b hm cH ad bd ha hb h1 h2
theorem Good.under{T:List Nd}(h:Good T){a b:Nat}{ad bd:Nd}(ha:T[a]? =some ad)(hb:T[b]? =some bd):(bd.lo<=ad.lo/\ad.hi<=bd.hi)↔js (bM T) a b:=by
 refine⟨fun hi=>?_,fun hu=>h.nJ ha hb hu⟩;by_cases hu:js (bM T) a b
 ·exact hu
 ·exfalso
  have ia:=h.iv a ad ha;have ib:=h.iv b bd hb;by_cases hv:js (bM T) b a
  ·have fE:b≠a:=fun e=>hu (by subst e;exact .refl hv.lt)
   obtain⟨c,hc,KF⟩:=hv.child fE;have pW:c<T.length:=by have:=(ik h.par hc).2;rwa [ek]at this
   obtain⟨cd,ja⟩:=fw pW;have h1:=h.nJ hb ja KF;have h2:=h.pH hc ja ha;have h3:=(h.loc a ad ha).AU;omega
  ·have:=h.apart (a+b) a b (Nat.le_refl _) ad bd ha hb hu hv
   have:=ia.le;have:=ib.le;omega
theorem wc(T:List Nd)(p:Nat)(pd:Nd):(grown T p pd).length=T.length+1:=by simp [grown]
theorem iL{T:List Nd}{p:Nat}{pd:Nd}(hp:T[p]? =some pd)(i:Nat):(grown T p pd)[i]? =if i=p then some {pd with ch:=pd.ch++ [T.length]}else if i=T.length then some ⟨p,[],0,0,0⟩else T[i]? :=by
 have cH:=(List.getElem?_eq_some_iff.1 hp).1;unfold grown;by_cases e:i=p
 ·subst e
  rw [if_pos rfl,List.getElem?_set_self (by simp;omega)]
 ·rw [if_neg e,List.getElem?_set_ne (fun h=>e h.symm)]
  by_cases e2:i=T.length
  ·subst e2;simp
  ·rw [if_neg e2]
   rcases Nat.lt_or_ge i T.length with h|h
   ·rw [List.getElem?_append_left h]
   ·rw [List.getElem?_eq_none (by simp;omega),List.getElem?_eq_none h]
theorem lu{T:List Nd}{p:Nat}{pd:Nd}(hp:T[p]? =some pd):bM (grown T p pd)=bM T++ [(p:Int)]:=by
 apply List.ext_getElem?;intro i;have cH:=(List.getElem?_eq_some_iff.1 hp).1;simp only [bM,List.getElem?_map,iL hp];by_cases e:i=p
 ·subst e
  rw [if_pos rfl,List.getElem?_append_left (by simpa using cH)];simp [hp]
 ·rw [if_neg e]
  by_cases e2:i=T.length
  ·subst e2;simp
  ·rw [if_neg e2]
   rcases Nat.lt_or_ge i T.length with h|h
   ·rw [List.getElem?_append_left (by simpa using h)];simp
   ·rw [List.getElem?_eq_none h,List.getElem?_eq_none (by simp;omega)];rfl
theorem yo(P:List Int)(p i:Nat):kids (P++ [(p:Int)]) i=kids P i++if i=p then [P.length]else []:=by
 unfold kids;rw [List.length_append,List.length_singleton,List.range_succ,List.filter_append]
 congr 1
 ·apply List.filter_congr
  intro x hx;rw [List.getElem?_append_left (by simpa using hx)]
 ·by_cases e:i=p
  ·subst e;simp
  ·have: ¬((p:Int)=(i:Int)):=by omega
   simp [e,this]
theorem mS.snoc{P:List Int}(h:mS P){p:Nat}(hp:p<P.length):mS (P++ [(p:Int)]):=by
 refine⟨by rw [List.getElem?_append_left (by omega)];exact h.root,fun i q hi hq=>?_⟩;rcases Nat.lt_or_ge i P.length with hl|hl
 ·rw [List.getElem?_append_left hl]at hq
  exact h.up i q hi hq
 ·have:i=P.length:=by
   rcases Nat.eq_or_lt_of_le hl with e|e
   ·exact e.symm
   ·rw [List.getElem?_eq_none (by simp;omega)]at hq;cases hq
  subst this;simp at hq;exact⟨p,hp,hq.symm⟩
theorem Shape.grown{T:List Nd}(h:Shape T){p:Nat}{pd:Nd}(hp:T[p]? =some pd):Shape (grown T p pd):=by
 have cH:=(List.getElem?_eq_some_iff.1 hp).1;refine⟨by rw [lu hp];exact h.par.snoc (by rw [ek];exact cH),fun i nd hi=>?_⟩;rw [lu hp,yo,ek];rw [iL hp]at hi;by_cases e:i=p
 ·subst e
  rw [if_pos rfl]at hi⊢;cases hi;simp [h.ch i pd hp]
 ·rw [if_neg e]at hi⊢
  rw [List.append_nil];by_cases e2:i=T.length
  ·subst e2
   rw [if_pos rfl]at hi;cases hi
   symm
   apply List.eq_nil_iff_forall_not_mem.2;intro c hc;have:=ik h.par hc;rw [ek]at this;omega
  ·rw [if_neg e2]at hi
   exact h.ch i nd hi
def im(f:Nat->Nat):Nat->Nat
 |0=>0
 |n+1=>im f n+f n
theorem jI{f g:Nat->Nat}{n:Nat}(h: ∀i,i<n->f i=g i):im f n=im g n:=by
 induction n with
 |zero=>rfl
 |succ n ih=>
  simp only [im];rw [ih (fun i hi=>h i (by omega)),h n (by omega)]
theorem xK(f g:Nat->Nat)(n:Nat):im (fun i=>f i+g i) n=im f n+im g n:=by
 induction n with
 |zero=>rfl
 |succ n ih=>simp only [im];omega
theorem kQ{f:Nat->Nat}{n:Nat}(h: ∀i,i<n->f i=0):im f n=0:=by
 induction n with
 |zero=>rfl
 |succ n ih=>
  simp only [im];rw [ih (fun i hi=>h i (by omega)),h n (by omega)]
theorem C1(h:Nat->Nat->Nat)(n m:Nat):im (fun i=>im (fun j=>h i j) m) n=im (fun j=>im (fun i=>h i j) n) m:=by
 induction n with
 |zero=>simp only [im];exact(kQ fun _ _=>rfl).symm
 |succ n ih=>
  simp only [im];rw [ih,xK]
theorem xJ{n k:Nat}(hk:k<n){f:Nat->Nat}(h: ∀i,i<n->i≠k->f i=0):im f n=f k:=by
 induction n with
 |zero=>omega
 |succ n ih=>
  simp only [im];rcases Nat.lt_or_ge k n with cH|fV
  ·rw [ih cH (fun i hi=>h i (by omega)),h n (by omega) (by omega),Nat.add_zero]
  ·have:k=n:=by omega
   subst this;rw [kQ (fun i hi=>h i (by omega) (by omega)),Nat.zero_add]
theorem Ic{f:Nat->Nat}{n b:Nat}(h: ∀i,i<n->f i<=b):im f n<=n*b:=by
 induction n with
 |zero=>simp [im]
 |succ n ih=>
  simp only [im];have:=ih (fun i hi=>h i (by omega));have:=h n (by omega);rw [Nat.succ_mul];omega
theorem Fh{f f':Nat->Nat}{n k:Nat}(hk:k<n){v:Nat}(h: ∀i,i<n->i≠k->f' i=f i)(hv:f' k=f k+v):im f' n=im f n+v:=by
 induction n with
 |zero=>omega
 |succ n ih=>
  simp only [im];rcases Nat.lt_or_ge k n with cH|fV
  ·rw [ih cH (fun i hi=>h i (by omega)),h n (by omega) (by omega)]
   omega
  ·have:k=n:=by omega
   subst this;rw [jI (fun i hi=>h i (by omega) (by omega)),hv];omega
theorem qR(q:Nat->Bool)(f:Nat->Nat)(n:Nat):(((List.range n).filter q).map f).sum=im (fun c=>if q c=true then f c else 0) n:=by
 induction n with
 |zero=>rfl
 |succ n ih=>
  rw [List.range_succ,List.filter_append,List.map_append,List.sum_append,ih];simp only [im]
  congr 1
  by_cases h:q n=true
  ·simp [h]
  ·simp [h]
section
variable{P:List Int}
theorem js.cmp{i a b:Nat}(h:js P i a)(h':js P i b):js P a b\/js P b a:=by
 induction h with
 |refl=>exact .inl h'
 | @step i j k hp h2 ih=>
   by_cases e:i=b
   ·subst e;exact .inr (.step hp h2)
   ·exact ih (h'.inv e hp)
theorem js.one(hP:mS P){i n c c':Nat}(hc:P[c]? =some (n:Int))(sC:P[c']? =some (n:Int))(h:js P i c)(h':js P i c'):c=c':=by
 have key: ∀(c c':Nat),P[c]? =some (n:Int)->P[c']? =some (n:Int)->js P c c'->c=c':=by
  intro c c' hc sC h;by_cases e:c=c'
  ·exact e
  ·have:=(h.inv e hc).le hP
   have:=(ik hP (eo.2 sC)).1;omega
 rcases h.cmp h' with h|h
 ·exact key c c' hc sC h
 ·exact(key c' c sC hc h).symm
open Classical in
noncomputable def ind(p:Prop):Nat:=if p then 1 else 0
theorem qq{p:Prop}(h:p):ind p=1:=by unfold ind;rw [if_pos h]
theorem ri{p:Prop}(h: ¬p):ind p=0:=by unfold ind;rw [if_neg h]
theorem MM(p:Prop):ind p<=1:=by unfold ind;split<;>omega
noncomputable def sz(P:List Int)(n:Nat):Nat:=im (fun i=>ind (js P i n)) P.length
theorem zK(hP:mS P){n:Nat}(hn:n<P.length):sz P n=1+im (fun c=>if P[c]? =some (n:Int)then sz P c else 0) P.length:=by
 have e1: ∀i,i<P.length->ind (js P i n)=ind (i=n)+im (fun c=>if P[c]? =some (n:Int)then ind (js P i c)else 0) P.length:=by
  intro i hi;by_cases e:i=n
  ·subst e
   rw [qq (.refl hi),qq rfl,kQ];intro c hc;split
   ·rename_i hp
    apply ri;intro hu;have:=hu.le hP;have:=(ik hP (eo.2 hp)).1;omega
   ·rfl
  ·rw [ri e,Nat.zero_add]
   by_cases hu:js P i n
   ·obtain⟨c,hc,KF⟩:=hu.child e
    rw [qq hu,xJ (k:=c) KF.UP]
    ·rw [if_pos (eo.1 hc),qq KF]
    ·intro c' _ fE
     split
     ·rename_i hp
      exact ri fun h=>fE (js.one hP hp (eo.1 hc) h KF)
     ·rfl
   ·rw [ri hu,kQ]
    intro c hc;split
    ·rename_i hp
     exact ri fun h=>hu (h.trans (.step hp (.refl hn)))
    ·rfl
 have e2:sz P n=im (fun i=>ind (i=n)+im (fun c=>if P[c]? =some (n:Int)then ind (js P i c)else 0) P.length) P.length:=by
  unfold sz;exact jI e1
 rw [e2,xK,xJ (k:=n) hn (fun i _ h=>ri h),qq rfl,C1]
 congr 1
 apply jI;intro c _;split
 ·rfl
 ·exact kQ fun _ _=>rfl
theorem tk(hP:mS P){n:Nat}(hn:n<P.length):1<=sz P n:=by rw [zK hP hn];omega
theorem vE(n:Nat):sz P n<=P.length:=by
 have:=Ic (n:=P.length) (b:=1) (f:=fun i=>ind (js P i n)) (fun i _=>MM _);unfold sz;omega
theorem BF(hP:mS P){n:Nat}(hn:n<P.length):((kids P n).map (sz P)).sum+1=sz P n:=by
 unfold kids;rw [qR,zK hP hn,Nat.add_comm]
 congr 1
 apply jI;intro c _;by_cases h:P[c]? =some (n:Int)
 ·simp [h]
 ·simp [h]
noncomputable def part(P:List Int)(m j:Nat):Nat:=im (fun c=>if P[c]? =some (j:Int)/\m<=c then sz P c else 0) P.length
theorem Dr(j:Nat):part P P.length j=0:=kQ fun c hc=>if_neg fun h=>by omega
theorem tG(hP:mS P){m j:Nat}(hj:j<P.length)(hm:m<=j+1):part P m j+1=sz P j:=by
 rw [zK hP hj,Nat.add_comm]
 congr 1
 apply jI;intro c hc;by_cases h:P[c]? =some (j:Int)
 ·have:=(ik hP (eo.2 h)).1
  rw [if_pos ⟨h,by omega⟩,if_pos h]
 ·rw [if_neg (fun e=>h e.1),if_neg h]
theorem Fy{n p:Nat}(h:P[n]? =some (p:Int)):part P n p=part P (n+1) p+sz P n:=by
 unfold part;apply Fh (k:=n) (List.getElem?_eq_some_iff.1 h).1
 ·intro i _ fE
  by_cases hi:P[i]? =some (p:Int)
  ·by_cases h2:n<=i
   ·rw [if_pos ⟨hi,h2⟩,if_pos ⟨hi,by omega⟩]
   ·rw [if_neg (fun e=>h2 e.2),if_neg (fun e=>by omega)]
  ·rw [if_neg (fun e=>hi e.1),if_neg (fun e=>hi e.1)]
 ·rw [if_pos ⟨h,Nat.le_refl _⟩,if_neg (fun e=>by omega),Nat.zero_add]
theorem zV{n j:Nat}(h:P[n]? ≠some (j:Int)):part P n j=part P (n+1) j:=by
 unfold part;apply jI;intro i _;by_cases hi:P[i]? =some (j:Int)
 ·have:i≠n:=fun e=>h (e▸hi)
  by_cases h2:n<=i
  ·rw [if_pos ⟨hi,h2⟩,if_pos ⟨hi,by omega⟩]
  ·rw [if_neg (fun e=>h2 e.2),if_neg (fun e=>by omega)]
 ·rw [if_neg (fun e=>hi e.1),if_neg (fun e=>hi e.1)]
noncomputable def gR(P:List Int)(m j:Nat):Nat:=if m<=j then sz P j else part P m j
theorem zP(j:Nat)(hj:j<P.length):gR P P.length j=0:=by
 unfold gR;rw [if_neg (by omega),Dr]
theorem xS(j:Nat):gR P 0 j=sz P j:=by unfold gR;rw [if_pos (Nat.zero_le _)]
theorem Dh(hP:mS P){n:Nat}(hn:n<P.length):gR P (n+1) n+1=sz P n:=by
 unfold gR;rw [if_neg (by omega),tG hP hn (Nat.le_refl _)]
theorem Dg(hP:mS P){n p:Nat}(h:P[n]? =some (p:Int))(j:Nat):gR P n j=if j=p then gR P (n+1) p+sz P n else if j=n then sz P n else gR P (n+1) j:=by
 have hp:=(ik hP (eo.2 h)).1;unfold gR;by_cases e:j=p
 ·subst e
  rw [if_neg (by omega),if_pos rfl,if_neg (by omega),Fy h]
 ·rw [if_neg e]
  by_cases e2:j=n
  ·subst e2;rw [if_pos (Nat.le_refl _),if_pos rfl]
  ·rw [if_neg e2]
   by_cases h2:n<=j
   ·rw [if_pos h2,if_pos (by omega)]
   ·rw [if_neg h2,if_neg (by omega)]
    exact zV (fun h'=>e (by rw [h]at h';have:=Option.some.inj h';omega))
theorem Di(j:Nat):gR P 0 j=if j=0 then sz P 0 else gR P 1 j:=by
 rw [xS];unfold gR;by_cases e:j=0
 ·subst e;rw [if_pos rfl]
 ·rw [if_neg e,if_pos (by omega)]
theorem BJ(hP:mS P)(m j:Nat)(hj:j<P.length):gR P m j<=P.length:=by
 have h1:=vE (P:=P) j;unfold gR;split
 ·exact h1
 ·rename_i h
  have:=tG hP (m:=m) hj;by_cases h2:m<=j+1
  ·have:=this h2;omega
  ·
   have h3:part P m j<=part P 0 j:=by
    unfold part;have: ∀(f g:Nat->Nat) (n:Nat),(∀i,i<n->f i<=g i)->im f n<=im g n:=by
     intro f g n h
     induction n with
     |zero=>simp [im]
     |succ n ih=>
      simp only [im];have:=ih (fun i hi=>h i (by omega));have:=h n (by omega);omega
    apply this;intro i _;split
    ·rename_i h4;rw [if_pos ⟨h4.1,Nat.zero_le _⟩];exact Nat.le_refl _
    ·exact Nat.zero_le _
   have:=tG hP (m:=0) hj (by omega);omega
end
theorem uU{α:Type}(f g:Nat->α){n k:Nat}{v:α}(hk:k<n)(h: ∀i,i<n->g i=if i=k then v else f i):((List.range n).map f).set k v=(List.range n).map g:=by
 apply List.ext_getElem?;intro i;rw [List.getElem?_set];by_cases e:k=i
 ·subst e
  rw [if_pos rfl,if_pos (by simpa using hk)];simp [hk,h k hk]
 ·rw [if_neg e]
  rcases Nat.lt_or_ge i n with hi|hi
  ·have:=h i hi
   rw [if_neg (fun x=>e x.symm)]at this;simp [hi,this]
  ·rw [List.getElem?_eq_none (by simpa using hi),List.getElem?_eq_none (by simpa using hi)]
end Go.Proofs.YtnboahlopghcjaaGreatDoor.Tr
namespace Go.bS
open Go.RowKit
theorem aS{σ:Type}(e:σ->Env)(I:σ->World->Prop)(μ:σ->World->Nat)(s:σ)(w:World)(Q:aN)(l:Nat)(ρ:Env)(w':World):bK e I μ s w Q (.exit l) ρ w'=Q (.exit l) ρ w':=rfl
def zeroOf(P:Program)(e:TypeId):Option (Array Value):=
 match P.info? e with
 |some i=>match i.zero with
  |some z=>some z.cells
  |none=>none
 |none=>none
theorem FG{P:Program}{t e:TypeId}{bytes:Nat}(T:xu P t e 1 bytes){z:Value}(hz:zeroOf P e=some #[z]){n:Nat}(hn:n<=maxLen)(hb:bytes*n<=281474976710656)(w:World):
 ∃w',(Instr.makeSlice t (.int .i64 (n:Int)) (.int .i64 (n:Int))).run P w=.ok (.slice (some ⟨w.heap.size,0,none⟩) n n) w'/\
  Row w' w.heap.size e 1 (some ⟨w.heap.size,0,none⟩) n n (List.replicate n z)/\Kept Nil w w':=by
 obtain⟨i,z',hi,xm,hs,HV,Cj⟩:=T.inf;have hc:z'.cells= #[z]:=by
  unfold zeroOf at hz;simp only [hi,xm]at hz;exact Option.some.inj hz
 obtain⟨w',hr,eM,hg⟩:=run_make_full (P:=P) (w:=w) w.heap.size t e i z' 1 T.nJ hi xm hs .i64 .i64 n (by rw [HV];exact hb) hn (Nat.le_refl _);rw [hc,Nat.mul_one,toList_madeCells_one]at eM;exact⟨w',hr,eM,(Kept.refl Nil w).grown hg (fun k hk=>by cases hk)⟩
end Go.bS
namespace Go.Proofs.YtnboahlopghcjaaGreatDoor.Tr
open Go.Proofs.Tryz
open Go Go.bS Go.RowKit
section
variable{w w':World}{S:Nat->Prop}{g:Nat}{T:List Nd}{d:Int}{K:Value->World->Prop}
theorem TV.bound{b c:Nat}{L:List (Nd×Value)}(h:TV w S g T d b c L):TV w (fun k=>S k/\k<w.heap.size) g T d b c L:= {
 top:=h.top
 fst:=h.fst
 row:=h.row
 pH:=fun i p hp=>let ⟨A,m,h1⟩:=h.pH i p hp;⟨A,m,h1.val,h1.row,fun k e=>⟨h1.jB k e,let ⟨_,_,hc⟩:=Row.bA h1.row e;aT hc⟩⟩
 apart:=h.apart
 gC:=⟨h.gC,aT h.top⟩
 fG:=⟨h.fG,let ⟨_,hc⟩:=h.uJ;aT hc⟩}
theorem TV.mono{S':Nat->Prop}{b c:Nat}{L:List (Nd×Value)}(h:TV w S g T d b c L)(hs: ∀k,S k->S' k):TV w S' g T d b c L:= {
 top:=h.top
 fst:=h.fst
 row:=h.row
 pH:=fun i p hp=>let ⟨A,m,h1⟩:=h.pH i p hp;⟨A,m,h1.val,h1.row,fun k e=>hs k (h1.jB k e)⟩
 apart:=h.apart
 gC:=hs _ h.gC
 fG:=hs _ h.fG}
theorem nM.bound(h:nM w S g T d):nM w (fun k=>S k/\k<w.heap.size) g T d:=let ⟨b,c,L,h⟩:=h;⟨b,c,L,h.bound⟩
theorem nM.mono{S':Nat->Prop}(h:nM w S g T d)(hs: ∀k,S k->S' k):nM w S' g T d:=let ⟨b,c,L,h⟩:=h;⟨b,c,L,h.mono hs⟩
def us(f:Nat->Nat)(n:Nat):List Value:=(List.range n).map fun j=>.int .u64 (f j:Int)
theorem nP(f:Nat->Nat){n j:Nat}(hj:j<n):(us f n)[j]? =some (.int .u64 (f j:Int)):=by simp [us,hj]
theorem nO(f:Nat->Nat)(n:Nat):(us f n).length=n:=by simp [us]
theorem wx{f f':Nat->Nat}{n k:Nat}(hk:k<n)(h: ∀i,i<n->i≠k->f' i=f i):(us f n).set k (.int .u64 (f' k:Int))=us f' n:=by
 unfold us;apply uU _ _ hk;intro i hi;by_cases e:i=k
 ·subst e;rw [if_pos rfl]
 ·rw [if_neg e,h i hi e]
theorem P0:xu prog zk gZ 1 8:=⟨by kernel_rfl,by kernel_rfl⟩
set_option maxRecDepth 100000 in
theorem zI(h:nM w S g T d)(hP:mS (bM T))(hlen:T.length<=1000000)
 (hK: ∀w' A,Row w' w.heap.size gZ 1 A T.length T.length (us (sz (bM T)) T.length)->Kept Nil w w'->K (.slice A T.length T.length) w'):
 bk prog br.id #[.pointer (some ⟨g,0,none⟩)] w K:=by
 obtain⟨b,c,L,h0⟩:=h;have pV:=ek T;obtain⟨w5,rp,kl,k5⟩:=FG P0 (z:=.int .u64 0) (by kernel_rfl) (n:=T.length) (by unfold maxLen;omega) (by omega) w;refine br.of (h0.go ⟨_,_,_,w5,rp,?_⟩);have h5:=h0.kept k5;refine h5.go ?_;generalize hA:(⟨w.heap.size,0,none⟩:Addr)=A at*;refine br.b9 (e:=some A) (i:=T.length) (I:=fun i w'=> ∃m:Nat,i=(T.length:Int)-m/\m<=T.length/\Row w' w.heap.size gZ 1 (some A) T.length T.length (us (gR (bM T) m) T.length)/\Kept Nil w w')
  (μ:=fun i _=>((T.length:Int)-i).toNat) (s:=0) ⟨T.length,by omega,Nat.le_refl _,?_,k5⟩ ?_
 ·have:List.replicate T.length (Value.int .u64 0)=us (gR (bM T) T.length) T.length:=by
   apply List.ext_getElem?;intro j;rcases Nat.lt_or_ge j T.length with hj|hj
   ·rw [nP _ hj,<-pV,zP j (by omega)]
    simp [pV,hj]
   ·rw [List.getElem?_eq_none (by simpa using hj),List.getElem?_eq_none (by rw [nO];exact hj)]
  rw [<-this];exact kl
 ·rintro i w' ⟨m,rfl,hm,row,kw⟩
  have h':=h0.kept kw;refine Split.dec (fun cH=>?_) (fun fV=>?_)
  ·
   obtain⟨n,rfl⟩: ∃n,m=n+1:=⟨m-1,by omega⟩;have hn:n<T.length:=by omega
   refine h'.go ?_;have ew:IntKind.i64.wrap (IntKind.i64.wrap ((T.length:Int)-1)-((T.length:Int)-((n+1:Nat):Int)))=(n:Int):=by
    rw [gH (x:=(T.length:Int)-1) (by omega) (by omega),gH (by omega) (by omega)];omega
   rw [ew];have hb:0<=(n:Int)/\(n:Int)<(T.length:Int):=⟨by omega,by omega⟩;subst hA;have Sk:n<(us (gR (bM T) (n+1)) T.length).length:=by rw [nO];exact hn
   refine⟨hb,_,by rw [lC,Int.toNat_natCast,Nat.mul_one];exact Row.cell row (nP _ hn),hb,by rw [lC,Int.toNat_natCast,Nat.mul_one];exact Row.wr row Sk,?_⟩;intro vC;have e18:vC=w'.setCell ⟨w.heap.size,n,none⟩ (.int .u64 (IntKind.u64.wrap ((gR (bM T) (n+1) n:Int)+1))):=by simp only [vC,lC,Int.toNat_natCast,Nat.mul_one]
   have acu:=Dh hP (n:=n) (by omega);have hle:gR (bM T) (n+1) n<=(bM T).length:=BJ hP _ _ (by omega);have ma:=Row.set row Sk (.int .u64 (IntKind.u64.wrap ((gR (bM T) (n+1) n:Int)+1)));rw [<-e18]at ma;have HI:Kept Nil w vC:=by rw [e18];exact kw.setCell (fun hh=>absurd hh (Nat.lt_irrefl _)) _
   clear_value vC;rw [fe (x:=(gR (bM T) (n+1) n:Int)+1) (by omega) (by omega)]at ma;rw [show(gR (bM T) (n+1) n:Int)+1=((if n=n then sz (bM T) n else gR (bM T) (n+1) n:Nat):Int)from by rw [if_pos rfl];omega,
    wx (f':=fun j=>if j=n then sz (bM T) n else gR (bM T) (n+1) j) hn (fun i _ fE=>by rw [if_neg fE])]at ma
   have h18:=h0.kept HI;obtain⟨nd,fy⟩:=fw hn;obtain⟨v,hv⟩:=h18.at_ fy;refine h18.go ⟨hb,h18.Ha hv ?_⟩;have kO:=jV fy;refine Split.dec (fun hp=>?_) (fun hp=>?_)
   ·
    have DX:0<n:=by
     rcases Nat.eq_zero_or_pos n with rfl|h
     ·rw [hP.root]at kO;have:=Option.some.inj kO;omega
     ·exact h
    obtain⟨p,I6,ep⟩:=hP.up n _ DX kO;rw [ep]at hp⊢;have hpp:(bM T)[n]? =some (p:Int):=by rw [kO,ep]
    intro HE;have Mt:Kept Nil w HE:=HI.drew;have BN:Row HE w.heap.size gZ 1 (some ⟨w.heap.size,0,none⟩) T.length T.length (us (fun j=>if j=n then sz (bM T) n else gR (bM T) (n+1) j) T.length):=ma;clear_value HE;have Ld:0<=(p:Int)/\(p:Int)<(T.length:Int):=⟨by omega,by omega⟩;have Si:p<(us (fun j=>if j=n then sz (bM T) n else gR (bM T) (n+1) j) T.length).length:=by rw [nO];omega
    have gp:=nP (fun j=>if j=n then sz (bM T) n else gR (bM T) (n+1) j) (n:=T.length) (j:=p) (by omega);have gn:=nP (fun j=>if j=n then sz (bM T) n else gR (bM T) (n+1) j) (n:=T.length) (j:=n) (by omega);simp only [if_neg (show p≠n by omega)]at gp;simp only [if_pos]at gn;refine⟨Ld,_,by rw [lC,Int.toNat_natCast,Nat.mul_one];exact Row.cell BN gp,hb,_,by rw [lC,Int.toNat_natCast,Nat.mul_one];exact Row.cell BN gn,Ld,by rw [lC,Int.toNat_natCast,Nat.mul_one];exact Row.wr BN Si,?_⟩;intro uS;have e29:uS=HE.setCell ⟨w.heap.size,p,none⟩ (.int .u64 (IntKind.u64.wrap ((gR (bM T) (n+1) p:Int)+(sz (bM T) n:Int)))):=by simp only [uS,lC,Int.toNat_natCast,Nat.mul_one]
    have Fv:=Row.set BN Si (.int .u64 (IntKind.u64.wrap ((gR (bM T) (n+1) p:Int)+(sz (bM T) n:Int))));rw [<-e29]at Fv;have IN:Kept Nil w uS:=by rw [e29];exact Mt.setCell (fun hh=>absurd hh (Nat.lt_irrefl _)) _
    clear_value uS;have ags:gR (bM T) (n+1) p<=(bM T).length:=BJ hP _ _ (by omega);have agr:sz (bM T) n<=(bM T).length:=vE _;have pK:=Dg hP hpp;have EB:=pK p;rw [if_pos rfl]at EB;rw [fe (x:=(gR (bM T) (n+1) p:Int)+(sz (bM T) n:Int)) (by omega) (by omega),
     show(gR (bM T) (n+1) p:Int)+(sz (bM T) n:Int)=(gR (bM T) n p:Int)from by omega,
     wx (f':=gR (bM T) n) (by omega) (fun i _ fE=>by rw [pK i,if_neg fE])]at Fv
    rw [gH (x:=(T.length:Int)-((n+1:Nat):Int)+1) (by omega) (by omega)];exact⟨_,rfl,⟨n,by omega,by omega,Fv,IN⟩,by simp only;omega⟩
   ·
    have DX:n=0:=by
     rcases Nat.eq_zero_or_pos n with h|h
     ·exact h
     ·obtain⟨p,_,ep⟩:=hP.up n _ h kO
      omega
    subst DX;have:us (fun j=>if j=0 then sz (bM T) 0 else gR (bM T) (0+1) j) T.length=us (gR (bM T) 0) T.length:=by
     congr 1
     funext j
     rw [Di]
    rw [this]at ma;rw [gH (x:=(T.length:Int)-((0+1:Nat):Int)+1) (by omega) (by omega)];exact⟨_,rfl,⟨0,by omega,by omega,ma,HI⟩,by simp only;omega⟩
  ·have:m=0:=by omega
   subst this;rw [aS,br.cZ];refine hK w' (some A) ?_ kw;have e:gR (bM T) 0=sz (bM T):=funext xS;rw [e]at row;exact row
end
end Go.Proofs.YtnboahlopghcjaaGreatDoor.Tr
namespace Go.Proofs.YtnboahlopghcjaaGreatDoor.Tr
open Go.Proofs.Tryz
open Go Go.bS Go.RowKit
section
variable{w:World}{K:Value->World->Prop}
theorem bk.x8{f:FuncId}{args:Array Value}{v:Value}(h:Calls prog f args w fun e w'=>e=.returned v/\w'=w)(hK:K v w):bk prog f args w K:=
 h.mono fun e w' ⟨he,hw⟩=>⟨v,he,by rw [hw];exact hK⟩
theorem vp(x y:Nat)(hx:x<18446744073709551616)(hy:y<18446744073709551616)
 (hK:K (.tuple #[.int .u64 ((x*y/18446744073709551616:Nat):Int),.int .u64 ((x*y%18446744073709551616:Nat):Int)]) w):
 bk prog bits_Mul64.id #[.int .u64 x,.int .u64 y] w K:=bk.x8 (Any.bits_Mul64 Tryz.Iy x y hx hy w) hK
theorem vq(x:Nat)(hx:x<18446744073709551616)(hK:K (.int .i64 (Lib.bitLen x)) w):bk prog bits_Len64.id #[.int .u64 x] w K:=
 bk.x8 (Any.bits_Len64 Tryz.Iz x w (by omega) (by omega)) hK
end
theorem oF: ∀(f x:Nat),x<2 ^ f->x<2 ^ (Lib.bitLenAux f x)/\(x≠0->2 ^ (Lib.bitLenAux f x)<=2*x)
 |0,x,h=>by simp at h;subst h;simp [Lib.bitLenAux]
 |f+1,x,h=>by
  unfold Lib.bitLenAux;by_cases e:x=0
  ·simp [e]
  ·rw [if_neg e]
   have ih:=oF f (x/2) (by rw [Nat.pow_succ]at h;omega);rw [Nat.pow_add,Nat.pow_one];refine⟨by omega,fun _=>?_⟩;by_cases e2:x/2=0
   ·have:x=1:=by omega
    subst this;cases f<;>simp [Lib.bitLenAux]
   ·have:=ih.2 e2
    omega
theorem bitLen_spec{y:Nat}(h0:y≠0)(hy:y<18446744073709551616):1<=Lib.bitLen y/\Lib.bitLen y<=64/\9223372036854775808<=y*2 ^ (64-Lib.bitLen y)/\y*2 ^ (64-Lib.bitLen y)<18446744073709551616:=by
 have hs:=oF 64 y (by omega);have hle:=Lib.bitLenAux_le 64 y 64 (by omega)
 change Lib.bitLen y<=64 at hle
 change y<2 ^ (Lib.bitLen y)/\(y≠0->2 ^ (Lib.bitLen y)<=2*y)at hs
 have vf:=hs.2 h0;have hp:2 ^ Lib.bitLen y*2 ^ (64-Lib.bitLen y)=18446744073709551616:=by
  rw [<-Nat.pow_add,show Lib.bitLen y+(64-Lib.bitLen y)=64 by omega]
 have iK:0<2 ^ (64-Lib.bitLen y):=Nat.pow_pos (by omega);refine⟨?_,hle,?_,?_⟩
 ·rcases Nat.eq_zero_or_pos (Lib.bitLen y)with e|e
  ·rw [e]at hs;simp at hs;omega
  ·exact e
 ·have:=Nat.mul_le_mul_right (2 ^ (64-Lib.bitLen y)) vf
  rw [hp,Nat.mul_assoc]at this;omega
 ·rw [<-hp]
  exact Nat.mul_lt_mul_of_pos_right hs.1 iK
section
variable{Y n1 n0 u u1 q r:Nat}
theorem Hf(hY:Y=n1*4294967296+n0):q*Y=q*n1*4294967296+q*n0:=by rw [hY,Nat.mul_add,Nat.mul_assoc]
theorem dg1(hY:Y=n1*4294967296+n0)(hq:q*n1+r=u)(h:q*n0<=4294967296*r+u1):q*Y<=u*4294967296+u1:=by rw [Hf hY];omega
theorem dg2(hY:Y=n1*4294967296+n0)(hq:q*n1+r=u)(h:4294967296*r+u1<q*n0):u*4294967296+u1<q*Y:=by rw [Hf hY];omega
theorem dg3(hu:u<Y)(HN:u1<4294967296)(h:4294967296<=q):u*4294967296+u1<q*Y:=by
 have:=Nat.mul_le_mul_right Y h;omega
theorem dg4(hY:Y=n1*4294967296+n0)(DX:n0<4294967296)(hu:u<Y)(hq:q*n1+r=u)(hr:4294967296<=r):q*Y<=u*4294967296+u1:=by
 have h1:q*n1<4294967296*n1:=by omega
 have h2:q<4294967296:=Nat.lt_of_mul_lt_mul_right h1;have h3:q*n0<=4294967296*4294967296:=Nat.mul_le_mul (by omega) (by omega);rw [Hf hY];omega
theorem Lt(hu:u<Y)(HN:u1<4294967296)(h:q*Y<=u*4294967296+u1):q<4294967296:=by
 rcases Nat.lt_or_ge q 4294967296 with h'|h'
 ·exact h'
 ·have:=dg3 hu HN h';omega
theorem y0(GB:2147483648<=n1)(hu:u<18446744073709551616)(hq:q*n1+r=u):q<8589934592:=by
 rcases Nat.lt_or_ge q 8589934592 with h|h
 ·exact h
 ·have:=Nat.mul_le_mul h GB
  omega
end
end Go.Proofs.YtnboahlopghcjaaGreatDoor.Tr
namespace Go.Proofs.YtnboahlopghcjaaGreatDoor.Tr
open Go.Proofs.Tryz
open Go Go.bS Go.RowKit
theorem Ed{Y n1 n0 u u1:Nat}{quo rem s E7 PV:Int}{Q:aN}{w:World}(hY:Y=n1*4294967296+n0)(DX:n0<4294967296)(GB:2147483648<=n1)(Jc:n1<4294967296)(hu:u<Y)(hY':Y<18446744073709551616)(HN:u1<4294967296)
 (hex: ∀q r:Nat,q*Y<=u*4294967296+u1->u*4294967296+u1<(q+1)*Y->Q (.exit 0) (aZ.e1 (Y:Int) quo rem s n1 n0 E7 u1 PV ((q:Int),(r:Int))) w)
 (q0 r0:Nat) (h0:q0*n1+r0=u) (Z1:u*4294967296+u1<(q0+1)*Y) (qt:r0<4294967296):
 Holds none [] prog 135 (.loop (lB (bB (sL (sR (sR (sR (sR (sR (sR (sR (sR (sR (sR (sR (sR (sR (sR (body aZ.fn))))))))))))))))))) Q (aZ.e1 (Y:Int) quo rem s n1 n0 E7 u1 PV ((q0:Int),(r0:Int))) w:=by
 refine aZ.b9 (I:=fun s w'=>w'=w/\ ∃q r:Nat,s=((q:Int),(r:Int))/\q*n1+r=u/\u*4294967296+u1<(q+1)*Y/\r<4294967296)
  (μ:=fun s _=>s.1.toNat) (s:=((q0:Int),(r0:Int))) ⟨rfl,q0,r0,rfl,h0,Z1,qt⟩ ?_
 rintro s w' ⟨hw,q,r,rfl,hq,hX,hr⟩;subst hw;have Yi:=y0 GB (by omega) hq;have down:u*4294967296+u1<q*Y-> ∃q' r':Nat,IntKind.u64.wrap ((q:Int)-1)=(q':Int)/\IntKind.u64.wrap ((r:Int)+(n1:Int))=(r':Int)/\q'*n1+r'=u/\u*4294967296+u1<(q'+1)*Y/\q'<q:=by
  intro h;have KR:1<=q:=by
   rcases Nat.eq_zero_or_pos q with e|e
   ·rw [e]at h;omega
   ·exact e
  refine⟨q-1,r+n1,?_,?_,?_,?_,by omega⟩
  ·rw [fe (by omega) (by omega)];omega
  ·rw [fe (by omega) (by omega)];omega
  ·have:q*n1=(q-1)*n1+n1:=by
    obtain⟨k,rfl⟩: ∃k,q=k+1:=⟨q-1,by omega⟩;rw [Nat.succ_mul];rfl
   omega
  ·rwa [show q-1+1=q by omega]
 have step: ∀q' r':Nat,q'*n1+r'=u->u*4294967296+u1<(q'+1)*Y->q'<q-> ∀b:Bool,b=decide ((r':Int)>=4294967296)->
  Split b (Q (.exit 0) (aZ.e1 (Y:Int) quo rem s n1 n0 E7 u1 PV ((q':Int),(r':Int))) w') (bK (aZ.e1 (Y:Int) quo rem s n1 n0 E7 u1 PV) (fun s lG=>lG=w'/\ ∃q r:Nat,s=((q:Int),(r:Int))/\q*n1+r=u/\u*4294967296+u1<(q+1)*Y/\r<4294967296) (fun s _=>s.1.toNat) ((q:Int),(r:Int)) w' Q .normal (aZ.e1 (Y:Int) quo rem s n1 n0 E7 u1 PV ((q':Int),(r':Int))) w'):=by
  intro q' r' h1 h2 h3 b hb;subst hb;refine Split.dec (fun fV=>?_) (fun cH=>?_)
  ·exact hex q' r' (dg4 hY DX hu h1 (by omega)) h2
  ·exact⟨_,rfl,⟨rfl,q',r',rfl,h1,h2,by omega⟩,by simp only;omega⟩
 refine Split.dec (fun fV=>?_) (fun cH=>?_)
 ·obtain⟨q',r',eq,er,h1,h2,h3⟩:=down (dg3 hu HN (by simp only at fV;omega))
  simp only [eq,er];exact step q' r' h1 h2 h3 _ rfl
 ·simp only at cH
  have hqn:q*n0<18446744073709551616:=by
   have:q*n0<=4294967295*4294967295:=Nat.mul_le_mul (by omega) (by omega);omega
  have e1:IntKind.u64.wrap ((q:Int)*(n0:Int))=((q*n0:Nat):Int):=by rw [<-Int.natCast_mul,fe (by omega) (by omega)]
  have e2:IntKind.u64.wrap (IntKind.u64.wrap (4294967296*(r:Int))+(u1:Int))=((4294967296*r+u1:Nat):Int):=by
   rw [fe (x:=4294967296*(r:Int)) (by omega) (by omega),fe (by omega) (by omega)];omega
  simp only [e1,e2];refine Split.dec (fun v7=>?_) (fun hle=>?_)
  ·obtain⟨q',r',eq,er,h1,h2,h3⟩:=down (dg2 hY hq (by omega))
   simp only [eq,er];exact step q' r' h1 h2 h3 _ rfl
  ·exact hex q r (dg1 hY hq (by omega)) hX
theorem Ec{Y n1 n0 u u1:Nat}{quo rem s q1 E8:Int}{Q:aN}{w:World}(hY:Y=n1*4294967296+n0)(DX:n0<4294967296)(GB:2147483648<=n1)(Jc:n1<4294967296)(hu:u<Y)(hY':Y<18446744073709551616)(HN:u1<4294967296)
 (hex: ∀q r:Nat,q*Y<=u*4294967296+u1->u*4294967296+u1<(q+1)*Y->Q (.exit 2) (aZ.e2 (Y:Int) quo rem s n1 n0 u1 q1 E8 ((r:Int),(q:Int))) w)
 (q0 r0:Nat) (h0:q0*n1+r0=u) (Z1:u*4294967296+u1<(q0+1)*Y) (qt:r0<4294967296):
 Holds none [] prog 135 (.loop (lB (bB (sL (sR (sR (sR (sR (sR (sR (sR (sR (sR (sR (sR (sR (sR (sR (sR (sR (sR (sR (body aZ.fn))))))))))))))))))))))) Q (aZ.e2 (Y:Int) quo rem s n1 n0 u1 q1 E8 ((r0:Int),(q0:Int))) w:=by
 refine aZ.gI (I:=fun s w'=>w'=w/\ ∃q r:Nat,s=((r:Int),(q:Int))/\q*n1+r=u/\u*4294967296+u1<(q+1)*Y/\r<4294967296)
  (μ:=fun s _=>s.2.toNat) (s:=((r0:Int),(q0:Int))) ⟨rfl,q0,r0,rfl,h0,Z1,qt⟩ ?_
 rintro s w' ⟨hw,q,r,rfl,hq,hX,hr⟩;subst hw;have Yi:=y0 GB (by omega) hq;have down:u*4294967296+u1<q*Y-> ∃q' r':Nat,IntKind.u64.wrap ((q:Int)-1)=(q':Int)/\IntKind.u64.wrap ((r:Int)+(n1:Int))=(r':Int)/\q'*n1+r'=u/\u*4294967296+u1<(q'+1)*Y/\q'<q:=by
  intro h;have KR:1<=q:=by
   rcases Nat.eq_zero_or_pos q with e|e
   ·rw [e]at h;omega
   ·exact e
  refine⟨q-1,r+n1,?_,?_,?_,?_,by omega⟩
  ·rw [fe (by omega) (by omega)];omega
  ·rw [fe (by omega) (by omega)];omega
  ·have:q*n1=(q-1)*n1+n1:=by
    obtain⟨k,rfl⟩: ∃k,q=k+1:=⟨q-1,by omega⟩;rw [Nat.succ_mul];rfl
   omega
  ·rwa [show q-1+1=q by omega]
 have step: ∀q' r':Nat,q'*n1+r'=u->u*4294967296+u1<(q'+1)*Y->q'<q-> ∀b:Bool,b=decide ((r':Int)>=4294967296)->
  Split b (Q (.exit 2) (aZ.e2 (Y:Int) quo rem s n1 n0 u1 q1 E8 ((r':Int),(q':Int))) w') (bK (aZ.e2 (Y:Int) quo rem s n1 n0 u1 q1 E8) (fun s lG=>lG=w'/\ ∃q r:Nat,s=((r:Int),(q:Int))/\q*n1+r=u/\u*4294967296+u1<(q+1)*Y/\r<4294967296) (fun s _=>s.2.toNat) ((r:Int),(q:Int)) w' Q .normal (aZ.e2 (Y:Int) quo rem s n1 n0 u1 q1 E8 ((r':Int),(q':Int))) w'):=by
  intro q' r' h1 h2 h3 b hb;subst hb;refine Split.dec (fun fV=>?_) (fun cH=>?_)
  ·exact hex q' r' (dg4 hY DX hu h1 (by omega)) h2
  ·exact⟨_,rfl,⟨rfl,q',r',rfl,h1,h2,by omega⟩,by simp only;omega⟩
 refine Split.dec (fun fV=>?_) (fun cH=>?_)
 ·obtain⟨q',r',eq,er,h1,h2,h3⟩:=down (dg3 hu HN (by simp only at fV;omega))
  simp only [eq,er];exact step q' r' h1 h2 h3 _ rfl
 ·simp only at cH
  have hqn:q*n0<18446744073709551616:=by
   have:q*n0<=4294967295*4294967295:=Nat.mul_le_mul (by omega) (by omega);omega
  have e1:IntKind.u64.wrap ((q:Int)*(n0:Int))=((q*n0:Nat):Int):=by rw [<-Int.natCast_mul,fe (by omega) (by omega)]
  have e2:IntKind.u64.wrap (IntKind.u64.wrap (4294967296*(r:Int))+(u1:Int))=((4294967296*r+u1:Nat):Int):=by
   rw [fe (x:=4294967296*(r:Int)) (by omega) (by omega),fe (by omega) (by omega)];omega
  simp only [e1,e2];refine Split.dec (fun v7=>?_) (fun hle=>?_)
  ·obtain⟨q',r',eq,er,h1,h2,h3⟩:=down (dg2 hY hq (by omega))
   simp only [eq,er];exact step q' r' h1 h2 h3 _ rfl
  ·exact hex q r (dg1 hY hq (by omega)) hX
end Go.Proofs.YtnboahlopghcjaaGreatDoor.Tr
namespace Go.Proofs.YtnboahlopghcjaaGreatDoor.Tr
open Go.Proofs.Tryz
open Go Go.bS Go.RowKit
theorem Ur(a:Nat)(ha:a<18446744073709551616):IntKind.u64.wrap ((BitVec.ofInt 64 (a:Int)&&& BitVec.ofInt 64 (4294967295:Int)).toNat:Int)=((a%4294967296:Nat):Int):=by
 have h:=bits_and_u64_nat a 4294967295 ha (by omega);have e:a&&& 4294967295=a%4294967296:=Nat.and_two_pow_sub_one_eq_mod a 32;rw [e]at h;exact h
theorem orN(a b s:Nat)(ha:a*2 ^ s<18446744073709551616)(hb:b<2 ^ s)(vk:b<18446744073709551616):
 IntKind.u64.wrap ((BitVec.ofInt 64 ((a*2 ^ s:Nat):Int)|||BitVec.ofInt 64 (b:Int)).toNat:Int)=((a*2 ^ s+b:Nat):Int):=by
 have h:=bits_or_u64_nat (a*2 ^ s) b ha vk;rw [Nat.mul_comm,<-Nat.two_pow_add_eq_or_of_lt hb,Nat.mul_comm]at h;exact h
theorem P3(a k:Nat):Int.fdiv (a:Int) (2 ^ k)=((a/2 ^ k:Nat):Int):=by
 rw [Int.fdiv_eq_ediv_of_nonneg _ (by exact Int.le_of_lt (Int.pow_pos (by omega)))];rw [Int.natCast_ediv,Int.natCast_pow];rfl
theorem Wo(a k:Nat):(a:Int)*2 ^ k=((a*2 ^ k:Nat):Int):=by rw [Int.natCast_mul,Int.natCast_pow];rfl
theorem aax{N u L u1 u0 v a b:Nat}(hN:N=u*18446744073709551616+L)(hL:L=u1*4294967296+u0)(hv:u*4294967296+u1-a=v)(ha:a<=u*4294967296+u1)(hb:b<=v*4294967296+u0):a*4294967296+b<=N:=by omega
theorem aaw{N u L u1 u0 v a b:Nat}(hN:N=u*18446744073709551616+L)(hL:L=u1*4294967296+u0)(hv:u*4294967296+u1-a=v)(ha:a<=u*4294967296+u1)(hb:v*4294967296+u0<b):N<a*4294967296+b:=by omega
section
variable{w:World}{K:Value->World->Prop}
theorem mR(x:Nat)(hx:x<18446744073709551616)(hK:K (.int .i64 ((64-Lib.bitLen x:Nat):Int)) w):bk prog bits_LeadingZeros64.id #[.int .u64 x] w K:=by
 refine bits_LeadingZeros64.of (vq x hx ⟨_,rfl,?_⟩);have hle:=Lib.bitLen_le x 64 (by omega) (by omega)
 rwa [gH (by omega) (by omega),show(64:Int)-(Lib.bitLen x:Int)=((64-Lib.bitLen x:Nat):Int)by omega]
theorem vr(hi lo y:Nat)(Vg:lo<18446744073709551616)(hy:y<18446744073709551616)(hhi:hi<y)
 (hK: ∀r w',Kept Nil w w'->K (.tuple #[.int .u64 (((hi*18446744073709551616+lo)/y:Nat):Int),.int .u64 r]) w'):
 bk prog aZ.id #[.int .u64 hi,.int .u64 lo,.int .u64 y] w K:=by
 refine aZ.of (Split.no (beq_eq_false_iff_ne.2 (by omega)) (Split.no (decide_eq_false (by omega)) ?_));by_cases h0:hi=0
 ·subst h0
  refine Split.yes rfl ?_;intro w6;refine⟨by omega,by omega,?_⟩;have e:IntKind.u64.wrap ((lo:Int).tdiv (y:Int))=(((0*18446744073709551616+lo)/y:Nat):Int):=by
   rw [Int.tdiv_eq_ediv_of_nonneg (by omega),Nat.zero_mul,Nat.zero_add,<-Int.natCast_ediv];have:=Nat.div_le_self lo y;generalize lo/y=z at*;exact fe (by omega) (by omega)
  rw [e];exact hK _ w6 (Kept.refl Nil w).drew
 ·refine Split.no (beq_eq_false_iff_ne.2 (by omega)) (mR y hy ⟨_,rfl,?_⟩)
  obtain⟨xq,ZN,hY1,hY2⟩:=bitLen_spec (y:=y) (by omega) hy;have hs:64-Lib.bitLen y<64:=by omega
  generalize 64-Lib.bitLen y=s at*;have eS:IntKind.u64.wrap (s:Int)=(s:Int):=fe (by omega) (by omega);have eS2:IntKind.u64.wrap ((64:Int)-(s:Int))=((64-s:Nat):Int):=by rw [fe (by omega) (by omega)];omega
  have em1:min s 64=s:=by omega
  have em2:min (64-s) 64=64-s:=by omega
  have em3:min (32:Int).toNat 64=32:=rfl;have Pg:2 ^ (64-s)*2 ^ s=18446744073709551616:=by rw [<-Nat.pow_add,show 64-s+s=64 by omega]
  have iK:0<2 ^ s:=Nat.pow_pos (by omega);have RI:0<2 ^ (64-s):=Nat.pow_pos (by omega);simp only [eS,eS2,Int.toNat_natCast,em1,em2,em3,Wo];generalize hYd:y*2 ^ s=Y at*;have hhs:hi*2 ^ s<18446744073709551616:=by
   have:hi*2 ^ s<y*2 ^ s:=Nat.mul_lt_mul_of_pos_right hhi iK;omega
  have hlq:lo/2 ^ (64-s)<2 ^ s:=by
   rw [Nat.div_lt_iff_lt_mul RI,Nat.mul_comm,Pg];exact Vg
  have YO:lo/2 ^ (64-s)<18446744073709551616:=Nat.lt_of_le_of_lt (Nat.div_le_self _ _) Vg;have eY:IntKind.u64.wrap (Y:Int)=(Y:Int):=fe (by omega) (by omega);have eH:IntKind.u64.wrap ((hi*2 ^ s:Nat):Int)=((hi*2 ^ s:Nat):Int):=fe (by omega) (by omega);have eL:IntKind.u64.wrap ((lo*2 ^ s:Nat):Int)=((lo*2 ^ s%18446744073709551616:Nat):Int):=by rw [IntKind.wrap_u64];omega
  have e32: ∀a:Nat,Int.fdiv (a:Int) (2 ^ 32)=((a/4294967296:Nat):Int):=fun a=>P3 a 32;simp only [eY,eH,eL,e32,P3 lo,orN hi _ s hhs hlq YO,Ur Y (by omega),Ur _ (Nat.mod_lt (lo*2 ^ s) (by omega:18446744073709551616>0))];have hN:(hi*18446744073709551616+lo)*2 ^ s=(hi*2 ^ s+lo/2 ^ (64-s))*18446744073709551616+lo*2 ^ s%18446744073709551616:=by
   have h1:lo*2 ^ s/18446744073709551616=lo/2 ^ (64-s):=by
    rw [<-Pg,Nat.mul_div_mul_right _ _ iK]
   have h2:=Nat.div_add_mod (lo*2 ^ s) 18446744073709551616;rw [h1]at h2;rw [Nat.add_mul,Nat.mul_right_comm];omega
  have ahn:(hi*18446744073709551616+lo)*2 ^ s<Y*18446744073709551616:=by
   have h1:hi*18446744073709551616+lo<y*18446744073709551616:=by omega
   have:=Nat.mul_lt_mul_of_pos_right h1 iK;rw [Nat.mul_right_comm,hYd]at this;exact this
  have KQ:(hi*18446744073709551616+lo)*2 ^ s/Y=(hi*18446744073709551616+lo)/y:=by rw [<-hYd,Nat.mul_div_mul_right _ _ iK]
  rw [<-KQ]at hK;clear KQ;generalize (hi*18446744073709551616+lo)*2 ^ s=N at*;have hL:lo*2 ^ s%18446744073709551616<18446744073709551616:=Nat.mod_lt _ (by omega);generalize lo*2 ^ s%18446744073709551616=L at*;generalize hi*2 ^ s+lo/2 ^ (64-s)=u at*;have hu:u<Y:=by omega
  have GB:2147483648<=Y/4294967296:=by omega
  have Jc:Y/4294967296<4294967296:=by omega
  have DX:Y%4294967296<4294967296:=by omega
  have Z0:Y=Y/4294967296*4294967296+Y%4294967296:=by omega
  have HN:L/4294967296<4294967296:=by omega
  have XG:L%4294967296<4294967296:=by omega
  have hLe:L=L/4294967296*4294967296+L%4294967296:=by omega
  generalize Y/4294967296=n1 at*;generalize Y%4294967296=n0 at*;generalize L/4294967296=u1 at*;generalize L%4294967296=u0 at*;have Lr: ∀v:Nat,v<18446744073709551616->IntKind.u64.wrap ((v:Int).tdiv (n1:Int))=((v/n1:Nat):Int)/\IntKind.u64.wrap ((v:Int)-IntKind.u64.wrap (((v/n1:Nat):Int)*(n1:Int)))=((v%n1:Nat):Int)/\v/n1*n1+v%n1=v/\v%n1<n1:=by
   intro v hv;have h1:=Nat.div_le_self v n1;have h2:=Nat.div_add_mod' v n1;refine⟨?_,?_,h2,Nat.mod_lt _ (by omega)⟩
   ·rw [Int.tdiv_eq_ediv_of_nonneg (by omega),<-Int.natCast_ediv]
    generalize v/n1=z at*;exact fe (by omega) (by omega)
   ·rw [<-Int.natCast_mul,fe (x:=((v/n1*n1:Nat):Int)) (by omega) (by omega),fe (by omega) (by omega)]
    omega
  have first: ∀v d:Nat,v<Y->d<4294967296->v*4294967296+d<(v/n1+1)*Y:=by
   intro v d hv hd;have h2:=Nat.div_add_mod' v n1;have h3:=Nat.mod_lt v (show 0<n1 by omega);have h4:v+1<=(v/n1+1)*n1:=by rw [Nat.succ_mul];omega
   have h5:(v+1)*4294967296<=(v/n1+1)*n1*4294967296:=Nat.mul_le_mul_right _ h4;have h6:(v/n1+1)*n1*4294967296<=(v/n1+1)*Y:=by
    have h7:n1*4294967296<=Y:=Nat.le_trans (Nat.le_add_right _ n0) (Nat.le_of_eq Z0.symm);rw [Nat.mul_assoc];exact Nat.mul_le_mul_left _ h7
   omega
  obtain⟨g1,g2,g3,g4⟩:=Lr u (by omega);simp only [g1,g2];refine⟨by omega,by omega,by omega,by omega,by omega,by omega,by omega,?_⟩;refine Ed Z0 DX GB Jc hu (by omega) HN ?_ (u/n1) (u%n1) g3 (first u u1 hu HN) (by omega);intro q r KR Pf;rw [show aZ.e1 (Y:Int) 0 0 (s:Int) (n1:Int) (n0:Int) (u:Int) (u1:Int) (u0:Int) ((q:Int),(r:Int))= [(2,.int .u64 (Y:Int)),(6,.int .u64 0),(7,.int .u64 0),(8,.int .u64 (s:Int)),(9,.int .u64 (n1:Int)),(10,.int .u64 (n0:Int)),(11,.int .u64 (u:Int)),(13,.int .u64 (u1:Int)),(14,.int .u64 (u0:Int)),(15,.int .u64 (q:Int)),(16,.int .u64 (r:Int))]from rfl];rw [aZ.cZ];have hqB:=Lt hu HN KR;rw [Nat.succ_mul]at Pf;have hp:IntKind.u64.wrap (IntKind.u64.wrap (IntKind.u64.wrap ((u:Int)*4294967296)+(u1:Int))-IntKind.u64.wrap ((q:Int)*(Y:Int)))=((u*4294967296+u1-q*Y:Nat):Int):=by
   rw [<-Int.natCast_mul q Y];simp only [IntKind.wrap_u64];generalize q*Y=p at*;omega
  unfold aZ.cK;simp only [hp];have hv:u*4294967296+u1-q*Y<Y:=by omega
  generalize hvd:u*4294967296+u1-q*Y=v at*;obtain⟨g1',g2',g3',g4'⟩:=Lr v (by omega);simp only [g1',g2'];refine⟨by omega,?_⟩;refine Ec Z0 DX GB Jc hv (by omega) XG ?_ (v/n1) (v%n1) g3' (first v u0 hv XG) (by omega);intro q' r' RG Yj;rw [show aZ.e2 (Y:Int) 0 0 (s:Int) (n1:Int) (n0:Int) (u0:Int) (q:Int) (v:Int) ((r':Int),(q':Int))= [(2,.int .u64 (Y:Int)),(6,.int .u64 0),(7,.int .u64 0),(8,.int .u64 (s:Int)),(9,.int .u64 (n1:Int)),(10,.int .u64 (n0:Int)),(14,.int .u64 (u0:Int)),(15,.int .u64 (q:Int)),(16,.int .u64 (r':Int)),(17,.int .u64 (v:Int)),(18,.int .u64 (q':Int))]from rfl];rw [aZ.jF];have afX:=Lt hv XG RG;refine⟨by omega,?_⟩;have XU:IntKind.u64.wrap (IntKind.u64.wrap ((q:Int)*4294967296)+(q':Int))=((N/Y:Nat):Int):=by
   rw [fe (x:=(q:Int)*4294967296) (by omega) (by omega),fe (by omega) (by omega)];have:N/Y=q*4294967296+q':=by
    apply Nat.div_eq_of_lt_le
    ·rw [Nat.add_mul,Nat.mul_right_comm]
     exact aax hN hLe hvd KR RG
    ·rw [Nat.add_assoc,Nat.add_mul,Nat.mul_right_comm]
     exact aaw hN hLe hvd KR Yj
   rw [this];omega
  rw [XU];exact hK _ w (Kept.refl Nil w)
end
end Go.Proofs.YtnboahlopghcjaaGreatDoor.Tr
namespace Go.Proofs.YtnboahlopghcjaaGreatDoor.Tr
open Go.Proofs.Tryz
structure ki(T T':List Nd):Prop where
 len:T'.length=T.length
 at_: ∀(i:Nat) nd,T[i]? =some nd-> ∃nd',T'[i]? =some nd'/\nd'.parent=nd.parent/\nd'.ch=nd.ch
theorem ki.refl(T:List Nd):ki T T:=⟨rfl,fun _ nd h=>⟨nd,h,rfl,rfl⟩⟩
theorem ki.trans{T T' CH:List Nd}(h:ki T T')(h':ki T' CH):ki T CH:=⟨h'.len.trans h.len,fun i nd hi=>by
 obtain⟨nd',h1,h2,h3⟩:=h.at_ i nd hi;obtain⟨WI,g1,g2,g3⟩:=h'.at_ i nd' h1;exact⟨WI,g1,g2.trans h2,g3.trans h3⟩⟩
theorem ki.back{T T':List Nd}(h:ki T T'){i:Nat}{nd':Nd}(hi:T'[i]? =some nd'): ∃nd,T[i]? =some nd/\nd'.parent=nd.parent/\nd'.ch=nd.ch:=by
 have cH:=(List.getElem?_eq_some_iff.1 hi).1;obtain⟨nd,fy⟩:=fw (T:=T) (i:=i) (by rw [<-h.len];exact cH);obtain⟨x,h1,h2,h3⟩:=h.at_ i nd fy;rw [hi]at h1;cases h1;exact⟨nd,fy,h2,h3⟩
theorem ki.bM{T T':List Nd}(h:ki T T'):bM T'=bM T:=by
 apply List.ext_getElem?;intro i;rcases Nat.lt_or_ge i T.length with hi|hi
 ·obtain⟨nd,fy⟩:=fw hi
  obtain⟨nd',h1,h2,_⟩:=h.at_ i nd fy;rw [jV fy,jV h1,h2]
 ·rw [List.getElem?_eq_none (by rw [ek,h.len];exact hi),List.getElem?_eq_none (by rw [ek];exact hi)]
theorem ki.shape{T T':List Nd}(h:ki T T')(hS:Shape T):Shape T':=⟨by rw [h.bM];exact hS.par,fun i nd' hi=>by
 obtain⟨nd,fy,_,h3⟩:=h.back hi;rw [h.bM,h3,hS.ch i nd fy]⟩
theorem ki.set{T:List Nd}{i:Nat}{nd nd':Nd}(hi:T[i]? =some nd)(h1:nd'.parent=nd.parent)(h2:nd'.ch=nd.ch):ki T (T.set i nd'):=
 ⟨by simp,fun j x hj=>by
   by_cases e:i=j
   ·subst e
    rw [hi]at hj;cases hj;exact⟨nd',gV hi,h1,h2⟩
   ·exact⟨x,mP hj e,rfl,rfl⟩⟩
theorem we{T:List Nd}{n p:Nat}{nd pd:Nd}{many:Int}(hn:T[n]? =some nd)(hp:T[p]? =some pd)(fE:n≠p)(i:Nat):
 (um T n p nd pd many)[i]? =if i=p then some {pd with free:=pd.free+many}else if i=n then some {nd with lo:=pd.free,hi:=pd.free+many-1,free:=pd.free}else T[i]? :=by
 unfold um;by_cases e:i=p
 ·subst e
  rw [if_pos rfl];exact gV (mP hp fE)
 ·rw [if_neg e,List.getElem?_set_ne (fun h=>e h.symm)]
  by_cases e2:i=n
  ·subst e2
   rw [if_pos rfl];exact gV hn
  ·rw [if_neg e2,List.getElem?_set_ne (fun h=>e2 h.symm)]
theorem uk{T:List Nd}{n p:Nat}{nd pd:Nd}(many:Int)(hn:T[n]? =some nd)(hp:T[p]? =some pd)(fE:n≠p):ki T (um T n p nd pd many):=
 (ki.set (nd':= {nd with lo:=pd.free,hi:=pd.free+many-1,free:=pd.free}) hn rfl rfl).trans (ki.set (nd:=pd) (nd':= {pd with free:=pd.free+many}) (mP hp fE) rfl rfl)
theorem xL{l:List Nat}(hs:l.Pairwise (· < ·)){k c:Nat}(hc:l[k]? =some c): ∀y,y∈l.take k->y<c:=by
 intro y hy;obtain⟨j,hj⟩:=List.mem_iff_getElem?.1 hy;rw [List.getElem?_take]at hj;split at hj
 ·rename_i cH
  obtain⟨h1,e1⟩:=List.getElem?_eq_some_iff.1 hj;obtain⟨h2,e2⟩:=List.getElem?_eq_some_iff.1 hc;rw [<-e1,<-e2];exact List.pairwise_iff_getElem.1 hs j k h1 h2 cH
 ·cases hj
theorem mJ{l:List Nat}{k c:Nat}(hc:l[k]? =some c):l.take (k+1)=l.take k++ [c]:=by
 rw [List.take_add_one,hc];rfl
structure oL(P:List Int)(T1:List Nd)(x:Nat)(xd:Nd)(half:Int)(k:Nat)(T':List Nd)(f:Int):Prop where
 mK:ki T1 T'
 here:T'[x]? =some {xd with free:=f}
 rest: ∀y,y≠x->y∉xd.ch.take k->T'[y]? =T1[y]?
 lo:xd.lo+(((xd.ch.take k).map (sz P)).sum:Nat)<=f
 up:(f-xd.lo-(((xd.ch.take k).map (sz P)).sum:Nat))*(sz P x:Int)<=half*(((xd.ch.take k).map (sz P)).sum:Nat)
 pH: ∀c cd,c∈xd.ch.take k->T'[c]? =some cd->xd.lo<=cd.lo/\cd.hi<f/\(sz P c:Int)<=cd.hi-cd.lo+1
 ord: ∀c c' cd uF,c∈xd.ch.take k->c'∈xd.ch.take k->c<c'->T'[c]? =some cd->T'[c']? =some uF->cd.hi<uF.lo
section
variable{P:List Int}{T1 T':List Nd}{x:Nat}{xd:Nd}{half f:Int}{k:Nat}
theorem oL.start(hx:T1[x]? =some xd)(hf:xd.free=xd.lo):oL P T1 x xd half 0 T1 xd.lo:= {
 mK:=ki.refl _
 here:=by obtain⟨a,b,c,d,e⟩:=xd;simp only at hf;subst hf;exact hx
 rest:=fun _ _ _=>rfl
 lo:=by simp
 up:=by simp
 pH:=fun c cd hc=>by simp at hc
 ord:=fun c c' cd uF hc=>by simp at hc}
theorem oL.bound(h:oL P T1 x xd half k T' f)(hh:0<=half)(Pc:1<=sz P x)(Gn:((xd.ch.take k).map (sz P)).sum<=sz P x):f<=xd.lo+(((xd.ch.take k).map (sz P)).sum:Nat)+half:=by
 have h1:half*(((xd.ch.take k).map (sz P)).sum:Nat)<=half*(sz P x:Int):=Int.mul_le_mul_of_nonneg_left (by omega) hh;have h2:=Int.le_trans h.up h1;have h3:=Int.le_of_mul_le_mul_right h2 (by omega);omega
theorem oL.step(h:oL P T1 x xd half k T' f)(hs:xd.ch.Pairwise (· < ·)){c:Nat}(hx: ∀y,y∈xd.ch->x<y)(hc:xd.ch[k]? =some c){cd:Nd}(ja:T'[c]? =some cd)
 {more:Int} (Po:0<=more) (hm:more*(sz P x:Int)<=half*(sz P c:Int)) (Cm:1<=sz P c):
 oL P T1 x xd half (k+1) (um T' c x cd {xd with free:=f} ((sz P c:Int)+more)) (f+((sz P c:Int)+more)):=by
 have cH:=xL hs hc;have hxc:x<c:=hx c (List.mem_of_getElem? hc);have RW:c∉xd.ch.take k:=fun hh=>Nat.lt_irrefl _ (cH c hh);have fR:=we (many:=(sz P c:Int)+more) ja h.here (by omega);have Gn:((xd.ch.take (k+1)).map (sz P)).sum=((xd.ch.take k).map (sz P)).sum+sz P c:=by rw [mJ hc];simp
 have gJ: ∀y,y∈xd.ch.take (k+1)↔y∈xd.ch.take k\/y=c:=by intro y;rw [mJ hc];simp
 exact {
  mK:=h.mK.trans (uk _ ja h.here (by omega))
  here:=by rw [fR,if_pos rfl]
  rest:=fun y hy hn=>by
   rw [fR,if_neg hy,if_neg (fun e=>hn ((gJ y).2 (.inr e)))];exact h.rest y hy (fun hh=>hn ((gJ y).2 (.inl hh)))
  lo:=by rw [Gn];have:=h.lo;omega
  up:=by
   rw [Gn];have h1:=h.up;have e1:(f+((sz P c:Int)+more)-xd.lo-((((xd.ch.take k).map (sz P)).sum+sz P c:Nat):Int))*(sz P x:Int)=(f-xd.lo-((((xd.ch.take k).map (sz P)).sum:Nat):Int))*(sz P x:Int)+more*(sz P x:Int):=by
    rw [<-Int.add_mul];congr 1;omega
   have e2:half*((((xd.ch.take k).map (sz P)).sum+sz P c:Nat):Int)=half*((((xd.ch.take k).map (sz P)).sum:Nat):Int)+half*(sz P c:Int):=by
    rw [<-Int.mul_add];congr 1
   rw [e1,e2];omega
  pH:=fun y yd hy Ak=>by
   have Vg:=h.lo;rw [fR]at Ak;rcases(gJ y).1 hy with hh|rfl
   ·have h1:=cH y hh
    have h2:=hx y (List.mem_of_mem_take hh);rw [if_neg (by omega),if_neg (by omega)]at Ak;have:=h.pH y yd hh Ak;exact⟨this.1,by omega,this.2.2⟩
   ·rw [if_neg (by omega),if_pos rfl]at Ak
    cases Ak;refine⟨?_,?_,?_⟩<;>simp only<;>omega
  ord:=fun a b ad bd ha hb lr Lm Lh=>by
   rw [fR]at Lm Lh;rcases(gJ b).1 hb with vk|rfl
   ·have h1:=cH b vk
    rcases(gJ a).1 ha with zw|rfl
    ·have h2:=hx a (List.mem_of_mem_take zw)
     rw [if_neg (by omega),if_neg (by omega)]at Lm Lh;exact h.ord a b ad bd zw vk lr Lm Lh
    ·omega
   ·rcases(gJ a).1 ha with zw|rfl
    ·have h1:=cH a zw
     have h2:=hx a (List.mem_of_mem_take zw);rw [if_neg (by omega),if_neg (by omega)]at Lm;rw [if_neg (by omega),if_pos rfl]at Lh;cases Lh;exact(h.pH a ad zw Lm).2.1
    ·omega}
end
structure mD(P:List Int)(T0:List Nd)(m:Nat)(T':List Nd)(q:List Nat)(i:Nat):Prop where
 mK:ki T0 T'
 nodup:q.Nodup
 nJ: ∀y,y∈q->js P y m
 fst:m∈q
 src: ∀y,y∈q->y=m\/ ∃z:Nat,z∈q.take i/\P[y]? =some (z:Int)
 VP: ∀z,z∈q.take i-> ∀c,c∈kids P z->c∈q
 rest: ∀y,y∉q->T'[y]? =T0[y]?
 top: ∀md Qp,T0[m]? =some md->T'[m]? =some Qp->Qp.lo=md.lo/\Qp.hi=md.hi
 room: ∀y yd,y∈q->T'[y]? =some yd->1<=yd.lo/\yd.hi<=4611686018427387904/\(sz P y:Int)<=yd.hi-yd.lo+1
 loc: ∀z zd,z∈q.take i->T'[z]? =some zd->Loc T' zd
theorem mD.start{P:List Int}{T0:List Nd}{m:Nat}{md:Nd}(hm:m<P.length)(vZ:T0[m]? =some md)(h1:1<=md.lo)(h2:md.hi<=4611686018427387904)(h3:(sz P m:Int)<=md.hi-md.lo+1):
 mD P T0 m T0 [m] 0:= {
 mK:=ki.refl _
 nodup:=by simp
 nJ:=fun y hy=>by simp at hy;subst hy;exact .refl hm
 fst:=by simp
 src:=fun y hy=>by simp at hy;exact .inl hy
 VP:=fun z hz=>by simp at hz
 rest:=fun _ _=>rfl
 top:=fun a b ha hb=>by rw [ha]at hb;cases hb;exact⟨rfl,rfl⟩
 room:=fun y yd hy Ak=>by
  simp at hy;subst hy;rw [vZ]at Ak;cases Ak;exact⟨h1,h2,h3⟩
 loc:=fun z zd hz=>by simp at hz}
section
variable{T0 T' CH:List Nd}{m x i:Nat}{q:List Nat}{xd:Nd}{f half:Int}
theorem mD.step(hS:Shape T0)(h:mD (bM T0) T0 m T' q i)(hq:q[i]? =some x)(HK:T'[x]? =some xd)
 (Cv:0<=half) (Y3:half*2<=xd.hi-xd.lo-((sz (bM T0) x:Int)-1))
 (fh:oL (bM T0) (T'.set x {xd with free:=xd.lo}) x {xd with free:=xd.lo} half xd.ch.length CH f):
 mD (bM T0) T0 m CH (q++xd.ch) (i+1):=by
 have Vy:=h.mK.shape hS;have Yo:=h.mK.bM;have hP:=hS.par;have nA:xd.ch=kids (bM T0) x:=by rw [Vy.ch x xd HK,Yo]
 have dN:i<q.length:=(List.getElem?_eq_some_iff.1 hq).1;have Gg:x∈q:=List.mem_of_getElem? hq;have sW:x<(bM T0).length:=(h.nJ x Gg).lt;have xn:q.take (i+1)=q.take i++ [x]:=mJ hq;have M0:(q++xd.ch).take (i+1)=q.take i++ [x]:=by rw [List.take_append_of_le_length (by omega),xn]
 have KB:x∉q.take i:=by
  intro hh;have hn:(q.take i++ [x]).Nodup:=by rw [<-xn];exact h.nodup.sublist (List.take_sublist _ _)
  rw [List.nodup_append]at hn;exact hn.2.2 x hh x (by simp) rfl
 have DY: ∀c,c∈xd.ch->(bM T0)[c]? =some (x:Int):=fun c hc=>eo.1 (nA▸hc);have v7: ∀c,c∈xd.ch->x<c:=fun c hc=>(ik hP (nA▸hc)).1;have lR: ∀c,c∈xd.ch->c∉q:=by
  intro c hc Vn;rcases h.src c Vn with rfl|⟨z,hz,Va⟩
  ·have:=(h.nJ x Gg).le hP
   have:=v7 _ hc;omega
  ·rw [DY c hc]at Va
   have:z=x:=by have:=Option.some.inj Va;omega
   exact KB (this▸hz)
 have afc:x∉xd.ch:=fun hh=>Nat.lt_irrefl _ (v7 x hh);have cP: ∀c,c∈(({xd with free:=xd.lo}:Nd).ch.take xd.ch.length)↔c∈xd.ch:=by intro c;simp
 have Gn:(xd.ch.map (sz (bM T0))).sum+1=sz (bM T0) x:=by
  rw [nA];exact BF hP sW
 have iK:=tk hP sW;have Pq:=fh.bound Cv iK (by simp only [List.take_length];omega);have Zf:=fh.lo;simp only [List.take_length]at Pq Zf;have Zg:f<=xd.hi:=by omega
 have hT1: ∀y,y≠x->(T'.set x {xd with free:=xd.lo})[y]? =T'[y]? :=fun y hy=>List.getElem?_set_ne (fun e=>hy e.symm);have Gw: ∀y,y≠x->y∉xd.ch->CH[y]? =T'[y]? :=fun y hy hn=>by
  rw [fh.rest y hy (fun hh=>hn ((cP y).1 hh)),hT1 y hy]
 have K8:CH[x]? =some {xd with free:=f}:=fh.here;have hxr:=h.room x xd Gg HK;have hlh:xd.lo<=xd.hi:=by omega
 have hold: ∀y xy,y∉xd.ch->CH[y]? =some xy-> ∃yd,T'[y]? =some yd/\yd.lo=xy.lo/\yd.hi=xy.hi:=by
  intro y xy hn hy;by_cases e:y=x
  ·subst e
   rw [K8]at hy;cases hy;exact⟨xd,HK,rfl,rfl⟩
  ·rw [Gw y e hn]at hy
   exact⟨xy,hy,rfl,rfl⟩
 exact {
  mK:=(h.mK.trans (ki.set (nd':= {xd with free:=xd.lo}) HK rfl rfl)).trans fh.mK
  nodup:=by
   rw [List.nodup_append];refine⟨h.nodup,?_,fun a ha b hb e=>lR b hb (e▸ha)⟩;rw [nA];exact(rW _ _).imp (fun h=>by omega)
  nJ:=fun y hy=>by
   rcases List.mem_append.1 hy with hy|hy
   ·exact h.nJ y hy
   ·exact .step (DY y hy) (h.nJ x Gg)
  fst:=List.mem_append.2 (.inl h.fst)
  src:=fun y hy=>by
   rw [M0];rcases List.mem_append.1 hy with hy|hy
   ·rcases h.src y hy with e|⟨z,hz,Va⟩
    ·exact .inl e
    ·exact .inr ⟨z,List.mem_append.2 (.inl hz),Va⟩
   ·exact .inr ⟨x,by simp,DY y hy⟩
  VP:=fun z hz c hc=>by
   rw [M0]at hz;rcases List.mem_append.1 hz with hz|hz
   ·exact List.mem_append.2 (.inl (h.VP z hz c hc))
   ·simp at hz
    subst hz;exact List.mem_append.2 (.inr (nA▸hc))
  rest:=fun y hy=>by
   have h1:y∉q:=fun hh=>hy (List.mem_append.2 (.inl hh));have h2:y∉xd.ch:=fun hh=>hy (List.mem_append.2 (.inr hh));rw [Gw y (fun e=>h1 (e▸Gg)) h2,h.rest y h1]
  top:=fun md WK vZ Sa=>by
   obtain⟨Qp,h1,h2,h3⟩:=hold m WK (fun hh=>lR m hh h.fst) Sa;have:=h.top md Qp vZ h1;omega
  room:=fun y xy hy KA=>by
   rcases List.mem_append.1 hy with hy|hy
   ·obtain⟨yd,h1,h2,h3⟩:=hold y xy (fun hh=>lR y hh hy) KA
    have:=h.room y yd hy h1;omega
   ·have:=fh.pH y xy ((cP y).2 hy) KA
    simp only at this;omega
  loc:=fun z zd hz Xi=>by
   rw [M0]at hz;rcases List.mem_append.1 hz with hz|hz
   ·have hzq:z∈q:=List.mem_of_mem_take hz
    have Ra:z≠x:=fun e=>KB (e▸hz);have MN:=Xi;rw [Gw z Ra (fun hh=>lR z hh hzq)]at MN;have hl:=h.loc z zd hz MN;have Xj:zd.ch=kids (bM T0) z:=by rw [Vy.ch z zd MN,Yo]
    have Vo: ∀c,c∈zd.ch->c∉xd.ch:=by
     intro c hc La;have h1:=DY c La;rw [eo.1 (Xj▸hc:c∈kids (bM T0) z)]at h1;have:=Option.some.inj h1;omega
    exact {
     EK:=hl.EK
     AU:=hl.AU
     sub:=fun c cd hc ja=>by
      obtain⟨uF,h1,h2,h3⟩:=hold c cd (Vo c hc) ja;have:=hl.sub c uF hc h1;omega
     ord:=fun c c' cd uF hc sC yL ja pN=>by
      obtain⟨ed,h1,h2,h3⟩:=hold c cd (Vo c hc) ja;obtain⟨Ow,r9,ui,Cz⟩:=hold c' uF (Vo c' sC) pN;have:=hl.ord c c' ed Ow hc sC yL h1 r9;omega}
   ·simp at hz
    subst hz;rw [K8]at Xi;cases Xi;exact {
     EK:=by simp only;omega
     AU:=Zg
     sub:=fun c cd hc ja=>by
      have:=fh.pH c cd ((cP c).2 hc) ja;simp only at this⊢;omega
     ord:=fun c c' cd uF hc sC yL ja pN=>fh.ord c c' cd uF ((cP c).2 hc) ((cP c').2 sC) yL ja pN}}
theorem mD.fin(hS:Shape T0)(h:mD (bM T0) T0 m T' q i)(hi:q.length<=i)
 (RP: ∀y nd,T0[y]? =some nd-> ¬js (bM T0) y m->Iv nd/\Loc T0 nd):Good T':=by
 have Vy:=h.mK.shape hS;have Yo:=h.mK.bM;have hP:=hS.par;have xn:q.take i=q:=List.take_of_length_le hi;have pW: ∀y,js (bM T0) y m->y∈q:=by
  have: ∀y k,js (bM T0) y k->k=m->y∈q:=by
   intro y k hu
   induction hu with
   |refl=>intro e;subst e;exact h.fst
   | @step a b c hp h' ih=>intro e;exact h.VP b (by rw [xn];exact ih e) a (eo.2 hp)
  exact fun y hu=>this y m hu rfl
 have hq: ∀y,y∈q↔js (bM T0) y m:=fun y=>⟨h.nJ y,pW y⟩;refine⟨Vy,fun y yd Ak=>?_,fun y yd Ak=>?_⟩
 ·by_cases hy:y∈q
  ·have hr:=h.room y yd hy Ak
   have:=tk hP (h.nJ y hy).lt;exact⟨hr.1,by omega,hr.2.1⟩
  ·rw [h.rest y hy]at Ak
   exact(RP y yd Ak (fun hu=>hy (pW y hu))).1
 ·by_cases hy:y∈q
  ·exact h.loc y yd (by rw [xn];exact hy) Ak
  ·have MP:=Ak
   rw [h.rest y hy]at MP;have hl:=(RP y yd MP (fun hu=>hy (pW y hu))).2;have nA:=hS.ch y yd MP;have hold: ∀c cd,c∈yd.ch->T'[c]? =some cd-> ∃ed,T0[c]? =some ed/\ed.lo=cd.lo/\ed.hi=cd.hi:=by
    intro c cd hc ja;by_cases Vn:c∈q
    ·have hpc:=eo.1 (nA▸hc:c∈kids (bM T0) y)
     have nn:c=m:=by
      by_cases e:c=m
      ·exact e
      ·exact absurd (pW y ((h.nJ c Vn).inv e hpc)) hy
     subst nn;obtain⟨ed,hed,_⟩:=h.mK.back ja;have:=h.top ed cd hed ja;exact⟨ed,hed,by omega,by omega⟩
    ·rw [h.rest c Vn]at ja
     exact⟨cd,ja,rfl,rfl⟩
   exact {
    EK:=hl.EK
    AU:=hl.AU
    sub:=fun c cd hc ja=>by
     obtain⟨ed,h1,h2,h3⟩:=hold c cd hc ja;have:=hl.sub c ed hc h1;omega
    ord:=fun c c' cd uF hc sC yL ja pN=>by
     obtain⟨ed,h1,h2,h3⟩:=hold c cd hc ja;obtain⟨Ow,r9,ui,Cz⟩:=hold c' uF sC pN;have:=hl.ord c c' ed Ow hc sC yL h1 r9;omega}
end
open Go Go.bS Go.RowKit
theorem Md{l:List Nat}{a:Nat}(h:a∈l):a<=l.sum:=by
 induction l with
 |nil=>simp at h
 |cons b l ih=>
  rw [List.sum_cons];rcases List.mem_cons.1 h with rfl|h
  ·omega
  ·have:=ih h;omega
theorem yz{l:List Nat}{j x:Nat}(h:l[j]? =some x):(ints l)[j]? =some (.int .i64 (x:Int)):=by simp [ints,h]
theorem Ge(l:List Nat):(ints l).length=l.length:=by simp [ints]
theorem Gd(l:List Nat): ∀u∈ints l,u.oneCell'=true:=by
 intro u hu;simp only [ints,List.mem_map]at hu;obtain⟨x,_,rfl⟩:=hu;rfl
structure Dl(w0:World)(S:Nat->Prop)(g b c B0 B1 len:Nat)(P:List Int)(d:Int)(As:Option Addr)(w:World)(T':List Nd)(L:List (Nd×Value))(Aq:Option Addr)(nq cq:Nat)(q:List Nat):Prop where
 tv:TV w S g T' d b c L
 rs:Row w B0 gZ 1 As len len (us (sz P) len)
 sb: ∀k,bg As=some k->k<B1
 rq:Row w B1 iX 1 Aq nq cq (ints q)
 kp:Kept S w0 w
 hS: ∀k,S k->k<B0
 hB:B0<=B1
 G3:B1<=w.heap.size
 h0:w0.heap.size<=B0
section
variable{w0 w w':World}{S:Nat->Prop}{g b c B0 B1 len:Nat}{P:List Int}{d:Int}{As:Option Addr}{T' CH:List Nd}{L L':List (Nd×Value)}{Aq:Option Addr}{nq cq:Nat}{q:List Nat}
theorem Dl.Ij(h:Dl w0 S g b c B0 B1 len P d As w T' L Aq nq cq q):nq=q.length:=by
 have:=Row.len h.rq;rw [Ge]at this;omega
theorem Dl.quiet(h:Dl w0 S g b c B0 B1 len P d As w T' L Aq nq cq q)(hk:Kept Nil w w'):Dl w0 S g b c B0 B1 len P d As w' T' L Aq nq cq q:= {
 tv:=h.tv.kept hk
 rs:=Row.aD h.rs hk (fun _ _ h=>h)
 sb:=h.sb
 rq:=Row.aD h.rq hk (fun _ _ h=>h)
 kp:=h.kp.trans hk (fun _ _ h=>h.elim)
 hS:=h.hS
 hB:=h.hB
 G3:=Nat.le_trans h.G3 hk.size
 h0:=h.h0}
theorem Dl.wrote(h:Dl w0 S g b c B0 B1 len P d As w T' L Aq nq cq q)(hk:Kept (fun k=>k=b) w w')(ht:TV w' S g CH d b c L'):Dl w0 S g b c B0 B1 len P d As w' CH L' Aq nq cq q:= {
 tv:=ht
 rs:=Row.aD h.rs hk (fun k e e2=>by have:=(Row.bA h.rs e).1;have:=h.hS b h.tv.fG;omega)
 sb:=h.sb
 rq:=Row.aD h.rq hk (fun k e e2=>by have:=(Row.bA h.rq e).1;have:=h.hS b h.tv.fG;have:=h.hB;omega)
 kp:=h.kp.trans hk (fun k _ e=>by rw [e];exact h.tv.fG)
 hS:=h.hS
 hB:=h.hB
 G3:=Nat.le_trans h.G3 hk.size
 h0:=h.h0}
theorem Dl.BR(h:Dl w0 S g b c B0 B1 len P d As w T' L Aq nq cq q){j:Nat}(hj:j<len){k:Int->Prop}(hk:k (sz P j)):
 Is As fun a=> ∃t,w.cell? (a.add (j*1))=some (.int .u64 t)/\k t:=by
 have hr:=h.rs;obtain⟨b',rfl⟩:=Row.some hr (by omega);exact⟨_,by rw [lC,Nat.mul_one];exact Row.cell hr (nP _ hj),hk⟩
theorem Dl.Qe(h:Dl w0 S g b c B0 B1 len P d As w T' L Aq nq cq q){j x:Nat}(hj:q[j]? =some x){k:Int->Prop}(hk:k x):
 Is Aq fun a=> ∃t,w.cell? (a.add (j*1))=some (.int .i64 t)/\k t:=by
 have hr:=h.rq;have cH:=(List.getElem?_eq_some_iff.1 hj).1;obtain⟨b',rfl⟩:=Row.some hr (by rw [h.Ij];omega);exact⟨_,by rw [lC,Nat.mul_one];exact Row.cell hr (yz hj),hk⟩
theorem Dl.push(h:Dl w0 S g b c B0 B1 len P d As w T' L Aq nq cq q)(uO:q.length<=4000000)(x:Nat){w1:World}(e1:w1=w.alloc (.cells #[.int .i64 (x:Int)] iX)):
 ∃H6 HY w2,(Builtin.append_ #[iG,iG] iG #[.slice Aq nq cq,.slice (some ⟨w.heap.size,0,none⟩) 1 1]).run prog w1=.ok (.slice H6 (nq+1) HY) w2/\
  Dl w0 S g b c B0 B1 len P d As w2 T' L H6 (nq+1) HY (q++ [x])/\(∀S0:Nat->Prop,(∀k,bg Aq=some k->S0 k)->Kept S0 w w2):=by
 subst e1;generalize HL:w.alloc (.cells #[.int .i64 (x:Int)] iX)=w1;have lR:w1.heap[w.heap.size]? =some (.cells #[.int .i64 (x:Int)] iX (0,0)):=by rw [<-HL];exact aH w _
 have k1:Kept Nil w w1:=by rw [<-HL];exact(Kept.refl Nil w).alloc _
 have h1:=h.quiet k1;have I3:=h.Ij;obtain⟨A',c',w2,hr,eM,hg,AJ⟩:=e8 (P:=prog) (t:=iG) (ty:=iG) JX h1.rq (a:=⟨w.heap.size,0,none⟩) (m:=1) (cx:=1)
  (news:=ints [x]) rfl (fun j u hj=>by rw [lC,ax lR];simpa [ints]using hj) (Gd _) (by omega) (by unfold maxLen;omega) h1.G3
 have kA:Kept (fun k=>bg Aq=some k) w1 w2:=(Kept.refl _ w1).grown hg (fun k hk _=>hk);have fV: ∀k,bg Aq=some k->B1<=k:=fun k e=>(Row.bA h.rq e).1;refine⟨A',c',w2,hr,?_,fun S0 h0=>(k1.mono (S':=S0) (fun _ _ h=>h.elim)).trans kA (fun k _ e=>h0 k e)⟩;exact {
  tv:=h1.tv.aD kA (fun k hk e=>by have:=h.hS k hk;have:=fV k e;have:=h.hB;omega)
  rs:=Row.aD h1.rs kA (fun k e e2=>by have:=h.sb k e;have:=fV k e2;omega)
  sb:=h.sb
  rq:=by simpa [ints]using eM
  kp:=(h.kp.trans k1 (fun _ _ h=>h.elim)).trans kA (fun k hk e=>absurd (fV k e) (by have:=h.hB;have:=h.h0;omega))
  hS:=h.hS
  hB:=h.hB
  G3:=Nat.le_trans h1.G3 kA.size
  h0:=h.h0}
theorem AY{T0 T1:List Nd}{x:Nat}{xd:Nd}{half:Nat}{spare i:Int}{UI:Option Addr}{UO:Nat}{Qo:aN}
 (D:Dl w0 S g b c B0 B1 T0.length (bM T0) d As w T1 L Aq nq cq q) (hS:Shape T0) (U6:ki T0 T1) (hlen:T0.length<=1000000) (I3:q.length<=1000000)
 (hx:T1[x]? =some xd) (yJ:xd.free=xd.lo) (Vg:0<=xd.lo) (hhi:xd.hi<=4611686018427387904) (Cv:(half:Int)*2<=xd.hi-xd.lo-((sz (bM T0) x:Int)-1))
 (EB:IntKind.u64.wrap (spare.tdiv 2)=(half:Int)) (Zs:Row w 0 iX 1 UI xd.ch.length UO (ints xd.ch)) (Tb: ∀k,bg UI=some k->S k/\k≠b)
 (hex: ∀w' CH f L' H6 HY,Dl w0 S g b c B0 B1 T0.length (bM T0) d As w' CH L' H6 (nq+xd.ch.length) HY (q++xd.ch)->oL (bM T0) T1 x xd half xd.ch.length CH f->
   Qo .normal [(0,.pointer (some ⟨g,0,none⟩)),(4,.slice As T0.length T0.length),(5,.slice H6 (nq+xd.ch.length) HY),(6,.int .i64 (IntKind.i64.wrap (i+1)))] w'):
 Holds none [] prog 164 (.loop (lB (bB (sR (sR (sR (sR (bB (sL (sR (lB (bB (sR (sR (sR (sR (sR (body au.fn)))))))))))))))))) (au.q3 Qo) (au.e3 (some ⟨g,0,none⟩) As T0.length T0.length i x spare UI xd.ch.length UO xd.ch.length (Aq,nq,cq,0)) w:=by
 have hP:=hS.par;have pV:=ek T0;have nA:xd.ch=kids (bM T0) x:=by
  have:=(U6.shape hS).ch x xd hx
  rwa [U6.bM]at this
 have sW:x<T0.length:=by rw [<-U6.len];exact(List.getElem?_eq_some_iff.1 hx).1
 have IX:xd.ch.Pairwise (· < ·):=by rw [nA];exact rW _ _
 have v7: ∀y,y∈xd.ch->x<y:=fun y hy=>(ik hP (nA▸hy)).1;have Ta:xd.ch.length<=1000000:=by rw [nA];exact Nat.le_trans (yn _ _) (by omega)
 have Gn:(xd.ch.map (sz (bM T0))).sum+1=sz (bM T0) x:=by rw [nA];exact BF hP (by omega)
 have iK:=tk hP (n:=x) (by omega);have XK:=vE (P:=bM T0) x;have hnq:=D.Ij;refine au.tV (I:=fun s w'=> ∃(k:Nat) (T':List Nd) (f:Int) (L':List (Nd×Value)) (H6:Option Addr) (HY:Nat),s=(H6,nq+k,HY,(k:Int))/\k<=xd.ch.length/\
  Dl w0 S g b c B0 B1 T0.length (bM T0) d As w' T' L' H6 (nq+k) HY (q++xd.ch.take k)/\oL (bM T0) T1 x xd half k T' f/\Row w' 0 iX 1 UI xd.ch.length UO (ints xd.ch))
  (μ:=fun s _=>((xd.ch.length:Int)-s.2.2.2).toNat) (s:=(Aq,nq,cq,0)) ⟨0,T1,xd.lo,L,Aq,cq,rfl,Nat.zero_le _,by simpa using D,oL.start hx yJ,Zs⟩ ?_
 rintro s w' ⟨k,T',f,L',H6,HY,rfl,hk,D',fh,hr⟩;refine Split.dec (fun cH=>?_) (fun fV=>?_)
 ·simp only at cH
  have AD:k<xd.ch.length:=by omega
  obtain⟨ci,Vp⟩: ∃ci,xd.ch[k]? =some ci:=⟨_,List.getElem?_eq_getElem AD⟩;have nn:ci∈xd.ch:=List.mem_of_getElem? Vp;have hck:ci∈kids (bM T0) x:=nA▸nn;have pW:ci<T0.length:=by have:=(ik hP hck).2;omega
  have hxc:=v7 ci nn;have Cm:=tk hP (n:=ci) (by omega);have afy:=vE (P:=bM T0) ci;have Rp:=U6.trans fh.mK;obtain⟨cd,ja⟩:=fw (T:=T') (i:=ci) (by rw [Rp.len];exact pW);have S9:cd.parent=x:=by
   have h1:=jV ja;rw [Rp.bM,eo.1 hck]at h1;exact(Option.some.inj h1).symm
  have XP:sz (bM T0) ci<=sz (bM T0) x:=by
   have:=Md (l:=xd.ch.map (sz (bM T0))) (a:=sz (bM T0) ci) (List.mem_map.2 ⟨ci,nn,rfl⟩);omega
  have To:0<=(ci:Int)/\(ci:Int)<(T0.length:Int):=⟨by omega,by omega⟩;have iN:0<=(x:Int)/\(x:Int)<(T0.length:Int):=⟨by omega,by omega⟩;have Y2:half<4611686018427387904:=by omega
  obtain⟨bch,ZH⟩:=Row.some hr (by omega);subst ZH;refine⟨⟨by simp only;omega,by simp only;omega⟩,_,by simp only [lC,Int.toNat_natCast,Nat.mul_one];exact Row.cell hr (yz Vp),by decide,To,D'.BR pW ?_⟩;rw [EB];refine vp half (sz (bM T0) ci) (by omega) (by omega) ⟨_,_,rfl,iN,D'.BR sW ?_⟩;have R9:(half*sz (bM T0) ci/18446744073709551616)*18446744073709551616+half*sz (bM T0) ci%18446744073709551616=half*sz (bM T0) ci:=Nat.div_add_mod' _ _;have Y0:half*sz (bM T0) ci/18446744073709551616<sz (bM T0) x:=by
   have:half*sz (bM T0) ci<18446744073709551616*sz (bM T0) ci:=Nat.mul_lt_mul_of_pos_right (by omega) Cm;have:half*sz (bM T0) ci/18446744073709551616<sz (bM T0) ci:=Nat.div_lt_of_lt_mul this;omega
  refine vr _ _ (sz (bM T0) x) (Nat.mod_lt _ (by omega)) (by omega) Y0 fun r w90 k90=>?_;rw [R9];generalize hm:half*sz (bM T0) ci/sz (bM T0) x=more;have hmx:more*sz (bM T0) x<=half*sz (bM T0) ci:=by rw [<-hm];exact Nat.div_mul_le_self _ _
  have agk:more<=half:=by
   rw [<-hm];apply Nat.div_le_of_le_mul;rw [Nat.mul_comm];exact Nat.mul_le_mul_right _ XP
  have D90:=D'.quiet k90;have X0:=Row.aD hr k90 (fun _ _ h=>h);refine⟨_,_,rfl,To,D90.BR pW ?_⟩;rw [fe (x:=(sz (bM T0) ci:Int)+(more:Int)) (by omega) (by omega)];have xq:=fh.bound (by omega) iK (by
   have h1:(((xd.ch.take k).map (sz (bM T0))).sum)<=(xd.ch.map (sz (bM T0))).sum:=by
    conv=>rhs;rw [<-List.take_append_drop k xd.ch,List.map_append,List.sum_append]
    omega
   omega)
  have lK:=fh.lo;have h1:(((xd.ch.take k).map (sz (bM T0))).sum)<=(xd.ch.map (sz (bM T0))).sum:=by
   conv=>rhs;rw [<-List.take_append_drop k xd.ch,List.map_append,List.sum_append]
   omega
  refine ti D90.tv ja fh.here S9 (by omega) (by simp only;omega) (by omega) (by simp only;omega) fun w96 L96 h96 k96=>⟨rfl,?_⟩;have D96:=D90.wrote k96 h96;have XY:=Row.aD X0 k96 (fun k e e2=>(Tb k e).2 e2);intro w97;have XI:(xd.ch.take k).length<=1000000:=by rw [List.length_take];omega
  obtain⟨PL,Py,OP,XS,D99,UU⟩:=D96.push (by rw [List.length_append];omega) ci (w1:=w97) rfl;have XX:=Row.aD XY (UU (fun k=>B1<=k) (fun k e=>(Row.bA D96.rq e).1)) (fun k e e2=>by have:=D.hS k (Tb k e).1;have:=D.hB;omega);refine⟨PL,_,Py,OP,XS,?_⟩;rw [gH (x:=(k:Int)+1) (by omega) (by omega)];refine⟨(PL,nq+(k+1),Py,((k+1:Nat):Int)),rfl,⟨k+1,_,_,L96,PL,Py,rfl,AD,?_,fh.step (more:=(more:Int)) IX v7 Vp ja (by omega) ?_ Cm,XX⟩,by simp only;omega⟩
  ·rw [mJ Vp,<-List.append_assoc]
   exact D99
  ·have:((more*sz (bM T0) x:Nat):Int)<=((half*sz (bM T0) ci:Nat):Int):=by omega
   rwa [Int.natCast_mul,Int.natCast_mul]at this
 ·simp only at fV
  have:k=xd.ch.length:=by omega
  subst this;rw [aS,au.zz];rw [List.take_length]at D';exact hex w' T' f L' H6 HY D' fh
end
end Go.Proofs.YtnboahlopghcjaaGreatDoor.Tr
namespace Go.Proofs.YtnboahlopghcjaaGreatDoor.Tr
open Go.Proofs.Tryz
open Go Go.bS Go.RowKit
theorem FA: ∀(n:Nat) (q:List Nat),q.Nodup->(∀y,y∈q->y<n)->q.length<=n:=by
 intro n
 induction n with
 |zero=>
  intro q _ h;cases q with
  |nil=>simp
  |cons a q=>exact absurd (h a (by simp)) (by omega)
 |succ n ih=>
  intro q hn h;by_cases hm:n∈q
  ·have h1:=List.length_erase_of_mem hm
   have h2:=ih (q.erase n) (hn.erase n) (fun y hy=>by
    have:=(List.Nodup.mem_erase_iff hn).1 hy;have:=h y this.2;omega)
   omega
  ·have:=ih q hn (fun y hy=>by
    have:=h y hy;have:y≠n:=fun e=>hm (e▸hy);omega)
   omega
section
variable{w0 w:World}{S:Nat->Prop}{g b c B0:Nat}{d:Int}{As:Option Addr}{L:List (Nd×Value)}{T:List Nd}{K:Value->World->Prop}
theorem AX{T0:List Nd}{m:Nat}{md:Nd}
 (htv:TV w S g T0 d b c L) (hrs:Row w B0 gZ 1 As T0.length T0.length (us (sz (bM T0)) T0.length)) (Sr:Kept S w0 w) (hSB: ∀k,S k->k<B0) (Rh:w0.heap.size<=B0) (hBw:B0<=w.heap.size)
 (hS:Shape T0) (hlen:T0.length<=1000000) (vZ:T0[m]? =some md) (h1:1<=md.lo) (h2:md.hi<=4611686018427387904) (h3:(sz (bM T0) m:Int)<=md.hi-md.lo+1)
 (hK: ∀w' T' q i,nM w' S g T' d->mD (bM T0) T0 m T' q i->q.length<=i->Kept S w0 w'->K (.tuple #[]) w'):
 au.cK (some ⟨g,0,none⟩) m As T0.length T0.length K w:=by
 have hP:=hS.par;have pV:=ek T0;have EF:m<T0.length:=(List.getElem?_eq_some_iff.1 vZ).1;unfold au.cK;intro jc;have mH:Kept Nil w jc:=(Kept.refl Nil w).alloc _;have lR:jc.heap[w.heap.size]? =some (.cells #[.int .i64 (m:Int)] iX (0,0)):=aH w _;have D35:Dl w0 S g b c B0 w.heap.size T0.length (bM T0) d As jc T0 L (some ⟨w.heap.size,0,none⟩) 1 1 [m]:= {
  tv:=htv.kept mH
  rs:=Row.aD hrs mH (fun _ _ h=>h)
  sb:=fun k e=>by obtain⟨_,_,hc⟩:=Row.bA hrs e;exact aT hc
  rq:=Row.made (n:=1) (cur:= #[.int .i64 (m:Int)]) lR (Nat.le_refl _) rfl (by decide)
  kp:=Sr.trans mH (fun _ _ h=>h.elim)
  hS:=hSB
  hB:=hBw
  G3:=mH.size
  h0:=Rh}
 clear_value jc;generalize G3:w.heap.size=B1 at*;refine au.gI (I:=fun s w'=> ∃(i:Nat) (T':List Nd) (L':List (Nd×Value)) (Aq:Option Addr) (nq cq:Nat) (q:List Nat),s=(Aq,nq,cq,(i:Int))/\i<=q.length/\
  Dl w0 S g b c B0 B1 T0.length (bM T0) d As w' T' L' Aq nq cq q/\mD (bM T0) T0 m T' q i)
  (μ:=fun s _=>((T0.length:Int)-s.2.2.2).toNat) (s:=(some ⟨B1,0,none⟩,1,1,0)) ⟨0,T0,L,_,1,1,[m],rfl,Nat.zero_le _,D35,mD.start (by omega) vZ h1 h2 h3⟩ ?_
 rintro s w' ⟨i,T',L',Aq,nq,cq,q,rfl,hi,D,hO⟩;have hnq:=D.Ij;have I3:q.length<=T0.length:=FA _ _ hO.nodup (fun y hy=>by have:=(hO.nJ y hy).lt;omega);refine Split.dec (fun cH=>?_) (fun fV=>?_)
 ·simp only at cH
  have dN:i<q.length:=by omega
  obtain⟨x,Yd⟩: ∃x,q[i]? =some x:=⟨_,List.getElem?_eq_getElem dN⟩;have Gg:x∈q:=List.mem_of_getElem? Yd;have sW:x<T0.length:=by have:=(hO.nJ x Gg).lt;omega
  obtain⟨xd,HK⟩:=fw (T:=T') (i:=x) (by rw [hO.mK.len];exact sW);have r7:=hO.room x xd Gg HK;have iK:=tk hP (n:=x) (by omega);have XK:=vE (P:=bM T0) x;have hlT:T'.length=T0.length:=hO.mK.len;have iN:0<=(x:Int)/\(x:Int)<(T'.length:Int):=⟨by omega,by omega⟩;refine⟨⟨by simp only;omega,by simp only;omega⟩,D.Qe Yd ?_⟩;intro zo;have PK:=D.quiet (w':=zo) (Kept.refl Nil w').drew;clear_value zo;obtain⟨v,hv⟩:=PK.tv.at_ HK;obtain⟨wr,h50⟩:=PK.tv.tp hv (j:=4) (by omega) (u:=.int .u64 xd.lo) (nd':= {xd with free:=xd.lo}) rfl rfl;refine PK.tv.go (PK.tv.go ⟨iN,PK.tv.ur hv ⟨iN,by rw [nH];exact wr,?_⟩⟩);intro HD EX;have e50:HD=zo.setCell ⟨b,x*5+4,none⟩ (.int .u64 xd.lo):=by simp only [HD,nH,Int.toNat_natCast]
  rw [<-e50]at h50;have O6:Kept (fun k=>k=b) zo HD:=by rw [e50];exact(Kept.refl (fun k=>k=b) zo).setCell (p:=⟨b,x*5+4,none⟩) (fun _=>rfl) _
  have H5:=(PK.wrote O6 h50).quiet (w':=EX) (Kept.refl Nil HD).drew;clear_value EX;have v1:(L'.set x ({xd with free:=xd.lo},v))[x]? =some ({xd with free:=xd.lo},v):=gV hv;obtain⟨UI,UO,hk⟩:=H5.tv.pH _ _ v1;have xp:(T'.set x {xd with free:=xd.lo}).length=T'.length:=by simp
  have NR:0<=(x:Int)/\(x:Int)<((T'.set x {xd with free:=xd.lo}).length:Int):=by rw [xp];exact iN
  have Vr:0<=(x:Int)/\(x:Int)<(T0.length:Int):=⟨by omega,by omega⟩;refine H5.tv.go ⟨NR,H5.tv.yT v1 (H5.tv.go ⟨NR,H5.tv.ur v1 ⟨Vr,H5.BR sW (H5.tv.go ⟨NR,H5.tv.Ub v1 hk.val ?_⟩)⟩⟩)⟩;have XO:ki T0 (T'.set x {xd with free:=xd.lo}):=hO.mK.trans (ki.set (nd':= {xd with free:=xd.lo}) HK rfl rfl);simp only;obtain⟨cur,Ps⟩:=H5.tv.uJ;generalize hhf:((xd.hi-xd.lo-((sz (bM T0) x:Int)-1)).toNat /2)=half;refine AY (half:=half) (xd:= {xd with free:=xd.lo}) H5 hS XO hlen (by omega) (gV HK) rfl (by simp only;omega) (by simp only;omega) (by simp only;omega) ?_ hk.row (fun k e=>⟨hk.jB k e,fun e2=>hk.ne Ps (by decide) (by rw [e,e2])⟩) ?_
  ·rw [fe (x:=xd.hi-xd.lo) (by omega) (by omega),fe (x:=(sz (bM T0) x:Int)-1) (by omega) (by omega),fe (x:=xd.hi-xd.lo-((sz (bM T0) x:Int)-1)) (by omega) (by omega),
    Int.tdiv_eq_ediv_of_nonneg (by omega),fe (by omega) (by omega)]
   omega
  ·intro w2 T2 f L2 PL Py D2 fh
   rw [gH (x:=(i:Int)+1) (by omega) (by omega)];refine⟨(PL,nq+xd.ch.length,Py,((i+1:Nat):Int)),rfl,⟨i+1,T2,L2,PL,_,Py,q++xd.ch,rfl,by rw [List.length_append];omega,D2,hO.step hS Yd HK (by omega) (by omega) fh⟩,by simp only;omega⟩
 ·simp only at fV
  rw [aS,au.jF];exact hK w' T' q i ⟨_,_,_,D.tv⟩ hO (by omega) D.kp
theorem TV.Wp(h:TV w S g T d b c L)(d':Int):Wr w ⟨g,1,none⟩/\TV (w.setCell ⟨g,1,none⟩ (.int .i64 d')) S g T d' b c L:=by
 have kG:Kept (fun k=>k=g) w (w.setCell ⟨g,1,none⟩ (.int .i64 d')):=(Kept.refl (fun k=>k=g) w).setCell (p:=⟨g,1,none⟩) (fun _=>rfl) _;refine⟨dO h.top (show 1<2 by omega),?_⟩;exact {
  top:=by
   have:=cR h.top 1 (.int .i64 d');simpa using this
  fst:=h.fst
  row:=Row.aD h.row kG (fun k e e2=>h.gb (by cases e;exact e2.symm))
  pH:=fun i p hp=>by
   obtain⟨A,m,hk⟩:=h.pH i p hp;exact⟨A,m,hk.val,Row.aD hk.row kG (fun k e e2=>hk.ne h.top (by decide) (by rw [e,e2])),hk.jB⟩
  apart:=h.apart
  gC:=h.gC
  fG:=h.fG}
set_option maxRecDepth 100000 in
theorem C0(h:nM w S g T d)(hS:Shape T)(hlen:T.length<=1000000){p:Nat}(hp:p<T.length)(hd:0<=d/\d<=1000000)
 (Rx: ∀nd,T[0]? =some nd->nd.lo=1/\nd.hi=4611686018427387904)
 (Vj: ∀y nd,T[y]? =some nd->js (bM T) p y->Iv nd)
 (hK: ∀w' T' m q i,nM w' S g T' (d+1)->js (bM T) p m->mD (bM T) T m T' q i->q.length<=i->Kept S w w'->K (.tuple #[]) w'):
 bk prog au.id #[.pointer (some ⟨g,0,none⟩),.int .i64 p] w K:=by
 have hP:=hS.par;have pV:=ek T;obtain⟨b,c,L,h⟩:=h;have hb:=h.bound;obtain⟨wr,h6⟩:=hb.Wp (d+1);refine au.of (h.goD ⟨by rw [lC];exact wr,?_⟩);intro w6;have e6:w6=w.setCell ⟨g,1,none⟩ (.int .i64 (d+1)):=by simp only [w6,lC,gH (x:=d+1) (by omega) (by omega)]
 rw [<-e6]at h6;have k6:Kept (fun k=>S k/\k<w.heap.size) w w6:=by rw [e6];exact(Kept.refl _ w).setCell (p:=⟨g,1,none⟩) (fun _=>hb.gC) _
 have IZ:w.heap.size=w6.heap.size:=by rw [e6];simp
 clear_value w6;refine zI ⟨_,_,_,h6⟩ hP hlen fun w8 As Wz k8=>⟨_,_,_,rfl,?_⟩;have h8:=h6.kept k8;refine au.b9 (I:=fun s w'=> ∃m:Nat,s=(m:Int)/\js (bM T) p m/\Kept Nil w8 w') (μ:=fun s _=>s.toNat) (s:=(p:Int)) ⟨p,rfl,.refl (by omega),Kept.refl _ _⟩ ?_;rintro s w' ⟨m,rfl,hu,kw⟩;have EF:m<T.length:=by have:=hu.UP;omega
 obtain⟨md,vZ⟩:=fw EF;have hm:=Vj m md vZ hu;have K1:=hm.WL;have Pn:=hm.le;have YI:=hm.top;unfold au.B1;intro kr;have sV:Kept Nil w8 kr:=kw.drew;have CA:=h8.kept sV;have BO:=Row.aD Wz sV (fun _ _ h=>h);have kO:=jV vZ;have afu:=vE (P:=bM T) m;have sD:0<=(m:Int)/\(m:Int)<(T.length:Int):=⟨by omega,by omega⟩;obtain⟨v,hv⟩:=CA.at_ vZ;have done:(sz (bM T) m:Int)<=md.hi-md.lo+1->au.q1 K (.exit 0) [(0,.pointer (some ⟨g,0,none⟩)),(1,.int .i64 m),(4,.slice As T.length T.length)] kr:=by
  intro r7;rw [au.cZ];have k8':Kept (fun k=>S k/\k<w.heap.size) w kr:=(k6.trans k8 (fun _ _ h=>h.elim)).trans sV (fun _ _ h=>h.elim);refine AX CA (B0:=w.heap.size) (Row.base BO (fun k e=>by rw [IZ];exact(Row.bA BO e).1)) k8' (fun k h=>h.2) (Nat.le_refl _) k8'.size hS hlen vZ K1 YI r7 ?_;intro w2 T2 q i h2 hO hq k2;exact hK w2 T2 m q i (h2.mono (fun k h=>h.1)) hu hO hq (k2.mono (fun k _ h=>h.1))
 refine CA.go ⟨sD,CA.Ha hv (Split.dec (fun iK=>?_) (fun yG=>?_))⟩
 ·obtain⟨bs,Vr⟩:=Row.some BO (by omega)
  subst Vr;refine CA.go ⟨sD,CA.yT hv (CA.go ⟨sD,CA.ur hv ⟨by decide,sD,_,by rw [lC,Int.toNat_natCast,Nat.mul_one];exact Row.cell BO (nP _ EF),?_⟩⟩)⟩;rw [fe (x:=md.hi-md.lo) (by omega) (by omega),fe (x:=md.hi-md.lo+1) (by omega) (by omega),Int.tdiv_eq_ediv_of_nonneg (by omega),fe (x:=(md.hi-md.lo+1)/4) (by omega) (by omega)];refine Split.dec (fun cH=>?_) (fun fV=>?_)
  ·have Po:0<m:=by
    rcases Nat.eq_zero_or_pos m with rfl|h
    ·rw [hP.root]at kO;have:=Option.some.inj kO;omega
    ·exact h
   obtain⟨z,hz,ez⟩:=hP.up m _ Po kO;refine CA.go ⟨sD,CA.Ha hv ?_⟩;rw [ez];exact⟨(z:Int),rfl,⟨z,rfl,hu.trans (.step (by rw [kO,ez]) (.refl (by omega))),sV⟩,by simp only;omega⟩
  ·rw [aS]
   exact done (by omega)
 ·have Po:m=0:=by
   rcases Nat.eq_zero_or_pos m with h|h
   ·exact h
   ·obtain⟨z,_,ez⟩:=hP.up m _ h kO
    omega
  subst Po;have:=Rx md vZ;rw [aS];exact done (by omega)
end
end Go.Proofs.YtnboahlopghcjaaGreatDoor.Tr
namespace Go.Proofs.YtnboahlopghcjaaGreatDoor.Tr
open Go.Proofs.Tryz
open Go Go.bS Go.RowKit
structure vA(T:List Nd):Prop extends Good T where
 root: ∀nd,T[0]? =some nd->nd.lo=1/\nd.hi=4611686018427387904
theorem zR:vA pe:=by
 have fR: ∀(i:Nat) nd,pe[i]? =some nd->i=0/\nd=⟨-1,[],1,4611686018427387904,1⟩:=by
  intro i nd h;cases i with
  |zero=>simp [pe]at h;exact⟨rfl,h.symm⟩
  |succ i=>simp [pe]at h
 exact {
  par:=⟨rfl,fun i p hi h=>by
   cases i with
   |zero=>omega
   |succ i=>simp [bM,pe]at h⟩
  ch:=fun i nd h=>by
   obtain⟨rfl,rfl⟩:=fR i nd h;simp [kids,bM,pe]
  iv:=fun i nd h=>by
   obtain⟨rfl,rfl⟩:=fR i nd h;exact⟨by decide,by decide,by decide⟩
  loc:=fun i nd h=>by
   obtain⟨rfl,rfl⟩:=fR i nd h;exact⟨by decide,by decide,fun c cd hc=>by simp at hc,fun c c' cd uF hc=>by simp at hc⟩
  root:=fun nd h=>by
   obtain⟨_,rfl⟩:=fR 0 nd h;exact⟨rfl,rfl⟩}
section
variable{T:List Nd}{p:Nat}{pd:Nd}
theorem Eo(hp:T[p]? =some pd)(i:Nat):(added T p pd)[i]? =if i=p then some {pd with ch:=pd.ch++ [T.length],free:=pd.free+iC pd}else if i=T.length then some ⟨p,[],pd.free,pd.free+iC pd-1,pd.free⟩else T[i]? :=by
 have cH:p<T.length:=(List.getElem?_eq_some_iff.1 hp).1;unfold added;rw [we (by rw [iL hp,if_neg (by omega),if_pos rfl]) (by rw [iL hp,if_pos rfl]) (by omega),iL hp];split
 ·rfl
 ·split
  ·rfl
  ·rfl
theorem uL(hp:T[p]? =some pd):ki (grown T p pd) (added T p pd):=by
 have cH:p<T.length:=(List.getElem?_eq_some_iff.1 hp).1;exact uk _ (by rw [iL hp,if_neg (by omega),if_pos rfl]) (by rw [iL hp,if_pos rfl]) (by omega)
theorem Shape.Oy(h:Shape T){i:Nat}{nd:Nd}(hi:T[i]? =some nd){c:Nat}(hc:c∈nd.ch):i<c/\c<T.length:=by
 rw [h.ch i nd hi]at hc;have:=ik h.par hc
 rwa [ek]at this
theorem vA.added(h:vA T)(hp:T[p]? =some pd)(r7:pd.free<pd.hi):vA (added T p pd):=by
 have cH:p<T.length:=(List.getElem?_eq_some_iff.1 hp).1;have fR:=Eo hp;have MJ:=h.iv p pd hp;have i1:=MJ.WL;have i2:=MJ.le;have i3:=MJ.top;have lp:=h.loc p pd hp;have l1:=lp.EK;have l2:=lp.AU;have hh1:1<=iC pd:=by unfold iC;omega
 have hh2:pd.free+iC pd<=pd.hi:=by unfold iC;omega
 have hold: ∀(c:Nat) cd,c<T.length->(Go.Proofs.YtnboahlopghcjaaGreatDoor.Tr.added T p pd)[c]? =some cd-> ∃ed,T[c]? =some ed/\ed.lo=cd.lo/\ed.hi=cd.hi:=by
  intro c cd hc ja;rw [fR]at ja;by_cases e:c=p
  ·subst e
   rw [if_pos rfl]at ja;cases ja;exact⟨pd,hp,rfl,rfl⟩
  ·rw [if_neg e,if_neg (by omega)]at ja
   exact⟨cd,ja,rfl,rfl⟩
 have lR: ∀cd,(Go.Proofs.YtnboahlopghcjaaGreatDoor.Tr.added T p pd)[T.length]? =some cd->cd=⟨p,[],pd.free,pd.free+iC pd-1,pd.free⟩:=by
  intro cd ja;rw [fR,if_neg (by omega),if_pos rfl]at ja;exact(Option.some.inj ja).symm
 have aD: ∀(i:Nat) nd,T[i]? =some nd->Loc (Go.Proofs.YtnboahlopghcjaaGreatDoor.Tr.added T p pd) nd:=by
  intro i nd hi;have hl:=h.loc i nd hi;have hc:=fun c hc=>(h.toShape.Oy hi (c:=c) hc).2;exact {
   EK:=hl.EK
   AU:=hl.AU
   sub:=fun c cd nn ja=>by
    obtain⟨ed,h1,h2,h3⟩:=hold c cd (hc c nn) ja;have:=hl.sub c ed nn h1;omega
   ord:=fun c c' cd uF nn nz yL ja pN=>by
    obtain⟨ed,h1,h2,h3⟩:=hold c cd (hc c nn) ja;obtain⟨Ow,r9,ui,Cz⟩:=hold c' uF (hc c' nz) pN;have:=hl.ord c c' ed Ow nn nz yL h1 r9;omega}
 have hs:=(uL hp).shape (h.toShape.grown hp);refine {toShape:=hs,iv:=?_,loc:=?_,root:=?_}
 ·intro i nd hi
  rw [fR]at hi;by_cases e:i=p
  ·rw [if_pos e]at hi
   cases hi;exact⟨i1,i2,i3⟩
  ·rw [if_neg e]at hi
   by_cases e2:i=T.length
   ·rw [if_pos e2]at hi
    cases hi;exact⟨by simp only;omega,by simp only;omega,by simp only;omega⟩
   ·rw [if_neg e2]at hi
    exact h.iv i nd hi
 ·intro i nd hi
  rw [fR]at hi;by_cases e:i=p
  ·rw [if_pos e]at hi
   cases hi;have kp:=aD p pd hp;have hc:=fun c hc=>(h.toShape.Oy hp (c:=c) hc).2;exact {
    EK:=by simp only;omega
    AU:=hh2
    sub:=fun c cd nn ja=>by
     simp only at nn;rcases List.mem_append.1 nn with nn|nn
     ·have:=kp.sub c cd nn ja
      simp only;omega
     ·simp at nn
      subst nn;have:=lR cd ja;subst this;simp only;omega
    ord:=fun c c' cd uF nn nz yL ja pN=>by
     simp only at nn nz;rcases List.mem_append.1 nn with nn|nn
     ·rcases List.mem_append.1 nz with nz|nz
      ·exact kp.ord c c' cd uF nn nz yL ja pN
      ·simp at nz
       subst nz;have:=lR uF pN;subst this;exact(kp.sub c cd nn ja).2
     ·simp at nn
      rcases List.mem_append.1 nz with nz|nz
      ·have:=hc c' nz
       omega
      ·simp at nz
       omega}
  ·rw [if_neg e]at hi
   by_cases e2:i=T.length
   ·rw [if_pos e2]at hi
    cases hi;exact⟨by simp only;omega,by simp only;omega,fun c cd hc=>by simp at hc,fun c c' cd uF hc=>by simp at hc⟩
   ·rw [if_neg e2]at hi
    exact aD i nd hi
 ·intro nd hi
  obtain⟨ed,h1,h2,h3⟩:=hold 0 nd h.toShape.pos hi;have:=h.root ed h1;omega
theorem vA.Hg(h:vA T)(hp:T[p]? =some pd){m i:Nat}{T':List Nd}{q:List Nat}(hu:js (bM (grown T p pd)) p m)
 (hO:mD (bM (grown T p pd)) (grown T p pd) m T' q i) (hq:q.length<=i):vA T':=by
 have cH:p<T.length:=(List.getElem?_eq_some_iff.1 hp).1;have fR:=iL hp;have hS:=h.toShape.grown hp;have hP:=hS.par;have hold: ∀(c:Nat) cd,c<T.length->(grown T p pd)[c]? =some cd-> ∃ed,T[c]? =some ed/\ed.lo=cd.lo/\ed.hi=cd.hi:=by
  intro c cd hc ja;rw [fR]at ja;by_cases e:c=p
  ·subst e
   rw [if_pos rfl]at ja;cases ja;exact⟨pd,hp,rfl,rfl⟩
  ·rw [if_neg e,if_neg (by omega)]at ja
   exact⟨cd,ja,rfl,rfl⟩
 have Pj:(bM (grown T p pd))[T.length]? =some (p:Int):=by
  rw [lu hp,List.getElem?_append_right (by rw [ek];exact Nat.le_refl _)];simp [ek]
 have fO:=mD.fin hS hO hq (fun y nd hy hn=>by
  rw [fR]at hy;have e:y≠p:=fun e=>hn (e▸hu);rw [if_neg e]at hy;have e2:y≠T.length:=fun e=>hn (e▸ .step Pj hu);rw [if_neg e2]at hy;refine⟨h.iv y nd hy,?_⟩;have hl:=h.loc y nd hy;have hc:=fun c hc=>(h.toShape.Oy hy (c:=c) hc).2;exact {
   EK:=hl.EK
   AU:=hl.AU
   sub:=fun c cd nn ja=>by
    obtain⟨ed,h1,h2,h3⟩:=hold c cd (hc c nn) ja;have:=hl.sub c ed nn h1;omega
   ord:=fun c c' cd uF nn nz yL ja pN=>by
    obtain⟨ed,h1,h2,h3⟩:=hold c cd (hc c nn) ja;obtain⟨Ow,r9,ui,Cz⟩:=hold c' uF (hc c' nz) pN;have:=hl.ord c c' ed Ow nn nz yL h1 r9;omega})
 refine {toGood:=fO,root:=fun nd hi=>?_};obtain⟨gd,Y6,_⟩:=hO.mK.back hi;obtain⟨ed,h1,h2,h3⟩:=hold 0 gd h.toShape.pos Y6;have hr:=h.root ed h1;by_cases hm:0∈q
 ·have:=(hO.nJ 0 hm).le hP
  have Po:m=0:=by omega
  subst Po;have:=hO.top gd nd Y6 hi;omega
 ·rw [hO.rest 0 hm,Y6]at hi
  cases hi;omega
end
section
variable{w:World}{S:Nat->Prop}{g:Nat}{T:List Nd}{d:Int}{K:Value->World->Prop}
theorem Fb(h:nM w S g T d)(hF:vA T){p:Nat}(hp:p<T.length)(hlen:T.length<=900000)(hd:0<=d/\d<=900000)
 (hK: ∀w' S' T' d',nM w' S' g T' d'->vA T'->bM T'=bM T++ [(p:Int)]->d<=d'/\d'<=d+1->Kept S w w'->(∀k,S' k->S k\/w.heap.size<=k)->K (.tuple #[.int .i64 T.length,.int .i64 0]) w'):
 bk prog fK.id #[.pointer (some ⟨g,0,none⟩),.int .i64 p] w K:=by
 obtain⟨pd,wU⟩:=fw hp;have MJ:=hF.iv p pd wU;have i1:=MJ.WL;have i2:=MJ.le;have i3:=MJ.top;have lp:=hF.loc p pd wU;have l1:=lp.EK;have l2:=lp.AU;have nA:pd.ch.length<=T.length:=by
  rw [hF.ch p pd wU];have:=yn (bM T) p
  rwa [ek]at this
 refine tj h wU (by omega) (by omega) (by omega) l2 i3 (fun r7 w' S' h' k' f'=>?_) (fun acU w' S' h' k' f'=>?_)
 ·exact hK w' S' _ d h' (hF.added wU r7) (by rw [(uL wU).bM,lu wU]) ⟨by omega,by omega⟩ k' f'
 ·have hS:=hF.toShape.grown wU
  have fR:=iL wU;have kO:=hS.par;refine C0 h' hS (by rw [wc];omega) (by rw [wc];omega) ⟨hd.1,by omega⟩ (fun nd hi=>?_) (fun y nd hy hu=>?_) (fun w2 T2 m q i h2 hu hO hq k2=>⟨rfl,?_⟩)
  ·rw [fR]at hi
   by_cases e:0=p
   ·rw [if_pos e]at hi
    cases hi;exact hF.root pd (by rw [e];exact wU)
   ·rw [if_neg e,if_neg (by omega)]at hi
    exact hF.root nd hi
  ·have:=hu.le kO
   rw [fR]at hy;by_cases e:y=p
   ·rw [if_pos e]at hy
    cases hy;exact⟨i1,i2,i3⟩
   ·rw [if_neg e,if_neg (by omega)]at hy
    exact hF.iv y nd hy
  ·refine hK w2 S' T2 (d+1) h2 (hF.Hg wU hu hO hq) (by rw [hO.mK.bM,lu wU]) ⟨by omega,by omega⟩ ?_ f'
   exact k'.trans k2 (fun k hk hs=>by
    rcases f' k hs with h|h
    ·exact h
    ·omega)
end
end Go.Proofs.YtnboahlopghcjaaGreatDoor.Tr
namespace Go.Proofs.YtnboahlopghcjaaGreatDoor.Tr
open Go.Proofs.Tryz
open Go Go.bS Go.RowKit
def zs(l:List Int):List Value:=l.map fun x=>.int .i64 x
section
variable{w w':World}{S S':Nat->Prop}{h:Nat}{P:List Int}{b c:Nat}{K:Value->World->Prop}
end
end Go.Proofs.YtnboahlopghcjaaGreatDoor.Tr
namespace Go.Proofs.YtnboahlopghcjaaGreatDoor.Tr
open Go.Proofs.Tryz
open Go Go.bS Go.RowKit
def ie(P:List Int)(n i:Nat):List Nat:=(List.range i).filter fun j=>P[j]? ==some (n:Int)
section
variable{w w':World}{S S':Nat->Prop}{h:Nat}{P:List Int}{b c:Nat}{K:Value->World->Prop}
end
section
variable{w w':World}{S S':Nat->Prop}{g:Nat}{T:List Nd}{d:Int}{K:Value->World->Prop}
end
end Go.Proofs.YtnboahlopghcjaaGreatDoor.Tr
