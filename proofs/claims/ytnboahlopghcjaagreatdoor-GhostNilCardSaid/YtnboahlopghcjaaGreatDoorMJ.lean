import Derived.Test.YtnboahlopghcjaaGreatDoorMI
import Derived.Test.YtnboahlopghcjaaGreatDoorMG
import Derived.Test.YtnboahlopghcjaaGreatDoorMF
import Derived.Maps.Range
set_option linter.unusedVariables false
namespace Go.Proofs.YtnboahlopghcjaaGreatDoor
open Go.Proofs.Tryz
open Go Go.bp Go.RowKit
section
variable{w w':World}{F F' S:Nat->Prop}{r:Nat}{D:DG}{P:List Int}{K:Value->World->Prop}
end
end Go.Proofs.YtnboahlopghcjaaGreatDoor
namespace Go.Proofs.YtnboahlopghcjaaGreatDoor
open Go.Proofs.Tryz
open Go Go.bp Go.RowKit
theorem jQ{v:World}{b:Nat}{z:Array Value}{t:TypeId}(s:HT)(h:v.heap[b]? =some (.cells z t (0,0)))(hz:z.size=32):
 (s.1.size=32/\(∀c∈s.1.toList,c.oneCell'=true)/\ ∀j,j<32->Wr v ((⟨b,0,none⟩:Addr).add j))/\(setCells v (⟨b,0,none⟩:Addr) s.1.toList 0).heap[b]? =some (.cells s.1 t (0,0))/\Kept (· =b) v (setCells v (⟨b,0,none⟩:Addr) s.1.toList 0):=by
 obtain⟨h1,h2,h3⟩:=ga h (cs:=s.1) (by rw [s.2.1];exact hz);exact⟨⟨s.2.1,s.2.one,fun j hj=>h1 j (by rw [s.2.1];exact hj)⟩,h2,h3⟩
theorem pQ.one(r:HT):pQ [⟨r,[]⟩] [-1]:=⟨rfl,rfl,fun i p nd hi hp=>by
 cases i with
 |zero=>omega
 |succ i=>simp at hp⟩
section
variable{w w':World}{F F' S:Nat->Prop}{r:Nat}{D:DG}{P:List Int}{K:Value->World->Prop}
end
end Go.Proofs.YtnboahlopghcjaaGreatDoor
namespace Go.Proofs.YtnboahlopghcjaaGreatDoor
open Go.Proofs.Tryz
open Go Go.bp Go.RowKit
section
variable{w w' v:World}{F FP FR S S2 F2:Nat->Prop}{x r:Nat}{D D':DG}{P P':List Int}{K:Value->World->Prop}
theorem wx(h:xA w S F x D P)(hD:D.length<=5000)(hT:p6 w)(IT: ¬S (Tryz.gV.g 1)){A:Option Addr}{n cx:Nat}{lp:List HT}(hl:HS w A n lp)(hn:n<=5000)(hid s:HT)
 (hK: ∀u S' F',xA u S' F' x (pE D hid s lp) (pD D P hid s lp)->Kept S w u->(∀k,S' k->S k\/w.heap.size<=k)->(∀k,F' k->F k\/w.heap.size<=k)->K (.int .i64 (fJ D hid s lp)) u):
 aY prog aw.id #[.pointer (some ⟨x,0,none⟩),.agg hid.1,.agg s.1,.slice A n cx] w K:=by
 obtain⟨m,h1,h2⟩:=h;refine y7 h1 hD hT (fun e=>IT (h2 _ (.inl e))) hl hn hid s (fun u k hc=>?_) (fun u S' F' hI k hS hF hc=>?_)
 ·refine hK u S F ?_ (k.mono fun _ _ h=>h.elim) (fun k h=>.inl h) (fun k h=>.inl h)
  unfold pE pD;rw [if_neg hc,if_neg hc];exact⟨m,h1.same k,h2⟩
 ·have:=hK u S' F' hI (k.mono fun k _ h=>h2 k h) (fun k h=>(hS k h).imp (h2 k) (fun h=>h)) hF
  rw [hc]at this;exact this
end
end Go.Proofs.YtnboahlopghcjaaGreatDoor
namespace Go.Proofs.YtnboahlopghcjaaGreatDoor
open Go.Proofs.Tryz
open Go Go.bp Go.RowKit
open Tr (gU)
theorem four(w:World)(r a b c:HT):
 let w1:=w.alloc (.cells bI.1 ao);let w2:=w1.alloc (.cells bI.1 ao);let w3:=w2.alloc (.cells bI.1 ao);let w4:=w3.alloc (.cells bI.1 ao)
 let w7:=setCells w4 (⟨w.heap.size,0,none⟩:Addr) r.1.toList 0;let w10:=setCells w7 (⟨w1.heap.size,0,none⟩:Addr) a.1.toList 0;let jJ:=setCells w10 (⟨w2.heap.size,0,none⟩:Addr) b.1.toList 0;let gD:=setCells jJ (⟨w3.heap.size,0,none⟩:Addr) c.1.toList 0
 ((∀j,j<32->Wr w4 ((⟨w.heap.size,0,none⟩:Addr).add j))/\(∀j,j<32->Wr w7 ((⟨w1.heap.size,0,none⟩:Addr).add j))/\(∀j,j<32->Wr w10 ((⟨w2.heap.size,0,none⟩:Addr).add j))/\(∀j,j<32->Wr jJ ((⟨w3.heap.size,0,none⟩:Addr).add j)))/\
 gD.heap[w.heap.size]? =some (.cells r.1 ao (0,0))/\gD.heap[w1.heap.size]? =some (.cells a.1 ao (0,0))/\gD.heap[w2.heap.size]? =some (.cells b.1 ao (0,0))/\gD.heap[w3.heap.size]? =some (.cells c.1 ao (0,0))/\
 w.heap.size<w1.heap.size/\w1.heap.size<w2.heap.size/\w2.heap.size<w3.heap.size/\w3.heap.size<gD.heap.size/\Kept Nil w gD:=by
 intro w1 w2 w3 w4;have Yo:Kept Nil w w1:=(Kept.refl _ _).alloc _;have Vq:Kept Nil w1 w2:=(Kept.refl _ _).alloc _;have QL:Kept Nil w2 w3:=(Kept.refl _ _).alloc _;have OX:Kept Nil w3 w4:=(Kept.refl _ _).alloc _;have oR:w1.heap[w.heap.size]? =some (.cells bI.1 ao (0,0)):=aN w _;have WK:w2.heap[w1.heap.size]? =some (.cells bI.1 ao (0,0)):=aN w1 _;have nD:w3.heap[w2.heap.size]? =some (.cells bI.1 ao (0,0)):=aN w2 _;have ID:w4.heap[w3.heap.size]? =some (.cells bI.1 ao (0,0)):=aN w3 _;clear_value w4;have vU:=OX.heap nD (fun h=>h);have IP:=OX.heap (QL.heap WK (fun h=>h)) (fun h=>h);have Rq:=OX.heap (QL.heap (Vq.heap oR (fun h=>h)) (fun h=>h)) (fun h=>h);have l1:=aQ oR;have l2:=aQ WK;have l3:=aQ nD;have l4:=aQ ID;clear_value w3 w2 w1;have Br:Kept Nil w w4:=((Yo.trans Vq (fun _ _ h=>h)).trans QL (fun _ _ h=>h)).trans OX (fun _ _ h=>h);have sz: ∀h:HT,bI.1.size=h.1.size:=fun h=>by rw [h.2.1];rfl
 obtain⟨UF,FL,k7⟩:=ga Rq (cs:=r.1) (sz r);rw [r.2.1]at UF;intro w7
 replace FL:w7.heap[w.heap.size]? =some (.cells r.1 ao (0,0)):=FL
 replace k7:Kept (· =w.heap.size) w4 w7:=k7
 clear_value w7;obtain⟨Kt,IQ,oA⟩:=ga (k7.heap IP (by omega)) (cs:=a.1) (sz a);rw [a.2.1]at Kt;intro w10
 replace IQ:w10.heap[w1.heap.size]? =some (.cells a.1 ao (0,0)):=IQ
 replace oA:Kept (· =w1.heap.size) w7 w10:=oA
 clear_value w10;obtain⟨Ks,tJ,wF⟩:=ga (oA.heap (k7.heap vU (by omega)) (by omega)) (cs:=b.1) (sz b);rw [b.2.1]at Ks;intro jJ
 replace tJ:jJ.heap[w2.heap.size]? =some (.cells b.1 ao (0,0)):=tJ
 replace wF:Kept (· =w2.heap.size) w10 jJ:=wF
 clear_value jJ;obtain⟨Kr,EE,nC⟩:=ga (wF.heap (oA.heap (k7.heap ID (by omega)) (by omega)) (by omega)) (cs:=c.1) (sz c);rw [c.2.1]at Kr;intro gD
 replace EE:gD.heap[w3.heap.size]? =some (.cells c.1 ao (0,0)):=EE
 replace nC:Kept (· =w3.heap.size) jJ gD:=nC
 clear_value gD;have UT:=aQ EE;exact⟨⟨UF,Kt,Ks,Kr⟩,nC.heap (wF.heap (oA.heap FL (by omega)) (by omega)) (by omega),nC.heap (wF.heap IQ (by omega)) (by omega),nC.heap tJ (by omega),EE,by omega,by omega,by omega,UT,
  (((Br.trans k7 (fun k hk e=>by omega)).trans oA (fun k hk e=>by omega)).trans wF (fun k hk e=>by omega)).trans nC (fun k hk e=>by omega)⟩
section
variable{r a b c:HT}(zy:r≠a)(x9:r≠b)(FK:r≠c)(jZ:a≠b)(Gr:a≠c)(Cs:b≠c)
end
section
variable{w w':World}{K:Value->World->Prop}
end
end Go.Proofs.YtnboahlopghcjaaGreatDoor
namespace Go.Proofs.YtnboahlopghcjaaGreatDoor
open Go.Proofs.Tryz
open Go Go.bp Go.RowKit
open Go.ChangeMaps (setBlock)
theorem oX{x:HT}{v:Value}: ∀ {l:List (HT×Value)} {j:Nat},(l.map (·.1)).Nodup->l[j]? =some (x,v)->assoc x l=some v
 | [],_,_,h=>by simp at h
 |(y,u)::l,0,_,h=>by
  simp at h;obtain⟨rfl,rfl⟩:=h;unfold assoc;rw [if_pos rfl]
 |(y,u)::l,j+1,hn,h=>by
  simp only [List.map_cons,List.nodup_cons]at hn;have hm:x∈l.map (·.1):=List.mem_map.2 ⟨(x,v),List.mem_of_getElem? (i:=j) (by simpa using h),rfl⟩;unfold assoc;rw [if_neg (fun e:x=y=>hn.1 (by rw [<-e];exact hm))];exact oX hn.2 (j:=j) (by simpa using h)
theorem ti{x:HT}{v:Value}: ∀ {l:List (HT×Value)},assoc x l=some v-> ∃j:Nat,l[j]? =some (x,v)
 | [],h=>by simp [assoc]at h
 |(y,u)::l,h=>by
  unfold assoc at h;split at h
  ·rename_i e
   subst e;cases h;exact⟨0,rfl⟩
  ·obtain⟨j,hj⟩:=ti h
   exact⟨j+1,by simpa using hj⟩
theorem jH.of{es:List MapEntry}{l:List (HT×Value)}(h:jH es l){j:Nat}{e:MapEntry}(he:es[j]? =some e): ∃p,l[j]? =some p/\e.key=.agg p.1.1/\e.val=p.2:=by
 have hlen:=h.len;have hj:=(List.getElem?_eq_some_iff.1 he).1;obtain⟨p,hp⟩: ∃p,l[j]? =some p:=⟨_,List.getElem?_eq_getElem (by omega)⟩;obtain⟨e',g1,g2,g3⟩:=h.get hp;rw [he]at g1;cases g1;exact⟨p,hp,g2,g3⟩
theorem tW{x y:HT}(h:(Value.agg x.1:Value)=.agg y.1):x=y:=by
 cases h':x;cases Pu:y
 simp_all
structure kM(w:World)(m it:Nat)(f:HT->Option Value)(left:HT->Prop)(vV:Nat):Prop where
 ne:it≠m
 ex: ∃es clock l since seen c0,w.heap[m]? =some (.map es clock)/\jH es.toList l/\(∀x,assoc x l=f x)/\(es.toList.map (·.born)).Nodup/\(l.map (·.1)).Nodup/\
  w.heap[it]? =some (.mapIter (some m) since seen c0)/\(∀e∈es.toList,e.born<since)/\since<=c0/\since<=clock/\(leftOf es seen).size=vV/\ ∀x,left x↔ ∃e∈es.toList,e.key=.agg x.1/\seen.contains e.born=false
section
variable{w w':World}{m it:Nat}{f:HT->Option Value}{left:HT->Prop}{vV:Nat}
theorem kM.aG{S:Nat->Prop}(h:kM w m it f left vV)(hk:Kept S w w')(h1: ¬S m)(h2: ¬S it):kM w' m it f left vV:=by
 obtain⟨es,clock,l,since,seen,c0,g1,g2,g3,g4,g5,g6,g7⟩:=h.ex;exact⟨h.ne,es,clock,l,since,seen,c0,hk.heap g1 h1,g2,g3,g4,g5,hk.heap g6 h2,g7⟩
theorem kM.left_eq(h:kM w m it f left vV):w.rangeLeft m it=vV:=by
 obtain⟨es,clock,l,since,seen,c0,g1,g2,g3,g4,g5,g6,g7,_,_,g8,_⟩:=h.ex;simp only [World.rangeLeft,g1,g6];exact g8
theorem kM.lt(h:kM w m it f left vV):it<w.heap.size:=by
 obtain⟨es,clock,l,since,seen,c0,g1,g2,g3,g4,g5,g6,_⟩:=h.ex;exact aQ g6
theorem dA.range{mt te:TypeId}{z:Value}(T:sl mt te z)(h:dA w m f): ∃w' vV,(Instr.range mt (.map (some m))).run prog w=.ok (.pointer (some ⟨w.heap.size,0,none⟩)) w'/\kM w' m w.heap.size f (fun x=>f x≠none) vV/\Kept Nil w w':=by
 obtain⟨es,clock,l,g1,g2,g3,g4,g5,g6⟩:=h.ex;have ck:=h.lt;refine⟨w.alloc (.mapIter (some m) clock #[] clock),_,run_range_map w mt ao te m es clock T.lf g1,⟨by omega,es,clock,l,clock,#[],clock,iD g1 _,g2,g3,g5,g6,aN w _,g4,Nat.le_refl _,Nat.le_refl _,rfl,fun x=>?_⟩,(Kept.refl _ _).alloc _⟩;rw [<-g3];constructor
 ·intro hx
  cases ha:assoc x l with
  |none=>exact absurd ha hx
  |some v=>
   obtain⟨j,hj⟩:=ti ha;obtain⟨e,he,hk,_⟩:=g2.get hj;exact⟨e,List.mem_of_getElem? he,hk,by simp⟩
 ·rintro⟨e,he,hk,_⟩
  obtain⟨j,hj⟩:=List.mem_iff_getElem?.1 he;obtain⟨⟨y,v⟩,hp,kQ,_⟩:=g2.of hj;have:y=x:=tW (kQ.symm.trans hk);subst this;rw [oX g6 hp];simp
theorem kM.next(h:kM w m it f left vV)(ty:TypeId):
 (vV=0/\(∀x,¬left x)/\(Instr.next (.pointer (some ⟨it,0,none⟩)) false ty).run prog w=.ok (.tuple #[.bool false]) w)\/
 ∃(x:HT) (v:Value) (w':World) (Oj:Nat),left x/\f x=some v/\(Instr.next (.pointer (some ⟨it,0,none⟩)) false ty).run prog w=.ok (.tuple #[.bool true,.agg x.1,v]) w'/\
  (Instr.entry (.pointer (some ⟨it,0,none⟩))).run prog w'=.ok (.tuple #[.agg x.1,v]) w'/\kM w' m it f (fun y=>left y/\y≠x) Oj/\Oj<vV/\Kept (· =it) w w':=by
 have fc:=h.ne;obtain⟨es,clock,l,since,seen,c0,g1,g2,g3,g4,g5,g6,g7,g8,W3,rfl,g9⟩:=h.ex;rcases run_next_at (P:=prog) w ty it m since c0 seen es clock g6 g1 g7 g8 with⟨h0,hr⟩|⟨e,he,w1,Dd,hr⟩
 ·refine .inl ⟨h0,fun x hx=>?_,hr⟩
  obtain⟨e,he,_,hs⟩:=(g9 x).1 hx;have hm:e∈leftOf es seen:=by
   unfold leftOf;rw [Array.mem_filter];exact⟨by simpa using he,by rw [hs];rfl⟩
  have:=Array.size_pos_of_mem hm;omega
 ·obtain⟨Pg,SC⟩:=mem_left he
  obtain⟨j,hj⟩:=List.mem_iff_getElem?.1 Pg;obtain⟨⟨x,v⟩,hp,hk,hv⟩:=g2.of hj;have hk:e.key=.agg x.1:=hk;have hv:e.val=v:=hv;rw [hk,hv]at hr;have Sf:w1.heap[it]? =some (.mapIter (some m) since seen c0):=by rcases Dd with rfl|rfl<;>exact g6
  have F6:w1.heap[m]? =some (.map es clock):=by rcases Dd with rfl|rfl<;>exact g1
  have Ej:(setBlock w1 it (.mapIter (some m) since (seen.push e.born) clock)).heap[it]? =some (.mapIter (some m) since (seen.push e.born) clock):=by
   have:=aQ Sf;simp [setBlock,this]
  have Mc:(setBlock w1 it (.mapIter (some m) since (seen.push e.born) clock)).heap[m]? =some (.map es clock):=by
   simp [setBlock,fc,F6]
  have ML:Kept (· =it) w (setBlock w1 it (.mapIter (some m) since (seen.push e.born) clock)):=by
   have hd:w.drew.heap=w.heap:=rfl;rcases Dd with rfl|rfl
   ·exact⟨rfl,rfl,rfl,by simp [setBlock],fun k _ hk=>by simp [setBlock,Ne.symm hk]⟩
   ·exact⟨rfl,rfl,rfl,by simp [setBlock,hd],fun k _ hk=>by simp [setBlock,hd,Ne.symm hk]⟩
  refine .inr ⟨x,v,_,_,(g9 x).2 ⟨e,Pg,hk,SC⟩,by rw [<-g3];exact oX g5 hp,hr,?_,⟨fc,es,clock,l,since,seen.push e.born,clock,Mc,g2,g3,g4,g5,Ej,g7,W3,W3,rfl,fun y=>?_⟩,left_shrinks es seen e he,ML⟩
  ·have:=run_entry_at (P:=prog) _ it m since seen es clock e Ej Mc Pg g4
   rw [hk,hv]at this;exact this
  ·have EY: ∀ {e':MapEntry},e'∈es.toList->e'.born=e.born->e'=e:=fun {e'} ED hb=>by
    obtain⟨j',sU⟩:=List.mem_iff_getElem?.1 ED;have h1:(es.toList.map (·.born))[j']? =some e'.born:=by rw [List.getElem?_map,sU];rfl
    have h2:(es.toList.map (·.born))[j]? =some e.born:=by rw [List.getElem?_map,hj];rfl
    rw [hb]at h1;have g1:=List.getElem?_eq_some_iff.1 h1;have g2:=List.getElem?_eq_some_iff.1 h2;have:j'=j:=(List.getElem_inj g4).1 (g1.2.trans g2.2.symm);subst this;rw [hj]at sU;cases sU;rfl
   rw [g9];constructor
   ·rintro⟨⟨e',ED,lg,jP⟩,RS⟩
    refine⟨e',ED,lg,?_⟩;rw [contains_push,jP,Bool.false_or,beq_eq_false_iff_ne];intro hb;have:=EY ED hb;subst this;exact RS (tW (lg.symm.trans hk))
   ·rintro⟨e',ED,lg,jP⟩
    rw [contains_push,Bool.or_eq_false_iff]at jP;refine⟨⟨e',ED,lg,jP.1⟩,fun OZ=>?_⟩;subst OZ;obtain⟨j',sU⟩:=List.mem_iff_getElem?.1 ED;obtain⟨⟨y',v'⟩,Ep,kQ,_⟩:=g2.of sU;have e1:y'=y:=tW (kQ.symm.trans lg);subst e1;have h1:(l.map (·.1))[j']? =some y':=by rw [List.getElem?_map,Ep];rfl
    have h2:(l.map (·.1))[j]? =some y':=by rw [List.getElem?_map,hp];rfl
    have g1:=List.getElem?_eq_some_iff.1 h1;have g2:=List.getElem?_eq_some_iff.1 h2;have:j'=j:=(List.getElem_inj g5).1 (g1.2.trans g2.2.symm);subst this;rw [hj]at sU;cases sU;simp at jP
end
end Go.Proofs.YtnboahlopghcjaaGreatDoor
namespace Go.Proofs.YtnboahlopghcjaaGreatDoor
open Go.Proofs.Tryz
open Go Go.bp Go.RowKit
section
variable{w v v':World}{F:Nat->Prop}{D:DG}{P:List Int}{T:List Tr.Nd}{d:Int}{own:Nat->Nat}{G T' E:Option Nat}{I:Option (Option Addr×Nat)}{Z:Option Nat}{x:Nat}{m:XM}{K:Value->World->Prop}
end
end Go.Proofs.YtnboahlopghcjaaGreatDoor
