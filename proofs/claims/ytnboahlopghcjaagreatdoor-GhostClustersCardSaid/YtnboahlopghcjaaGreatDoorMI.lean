import Derived.Test.YtnboahlopghcjaaGreatDoorMG
import Derived.Test.YtnboahlopghcjaaGreatDoorMH
import Derived.Test.YtnboahlopghcjaaGreatDoorME
import Derived.Laws.AppendOwn
open Go.IntKind (i64 u64)
set_option linter.unusedVariables false
namespace Go.Proofs.YtnboahlopghcjaaGreatDoor
open Go.Proofs.Tryz
open Go Go.bU
open Tr (jD)
structure ra(D:DG)(P:List Int):Prop where
 len:P.length=D.length
 root:P[0]? =some (-1)
 up:∀(i:Nat) (p:Int) nd,0<i->P[i]? =some p->D[i]? =some nd->∃(j:Nat) (m:DN),p=(j:Int)/\j<i/\D[j]? =some m/\m.id∈nd.ps
def Ch(D:DG)(P:List Int)(a b:HT):Prop:=∃(i k:Nat) (ni nk:DN),D[i]? =some ni/\ni.id=b/\D[k]? =some nk/\nk.id=a/\jD P i k
def iz(D:DG)(P:List Int)(s c:HT):Prop:=∃(i j:Nat) (ni m:DN),D[i]? =some ni/\ni.id=c/\P[i]? =some (j:Int)/\D[j]? =some m/\m.id=s
def Mv(D:DG)(P:List Int)(h c:HT):Prop:=eB D h c/\∃s,iz D P s c/\h≠s/\¬eB D h s
section
variable{D:DG}{P:List Int}
theorem ra.par(H:ra D P):Tr.ma P:=⟨H.root,fun i p hi hp=>by
 have dQ:=(lgeS hp).1;rw [H.len]at dQ;obtain⟨j,m,h1,h2,_⟩:=H.up i p _ hi hp (List.getElem?_eq_getElem dQ);exact⟨j,h2,h1⟩⟩
theorem iz.par(H:ra D P){s c:HT}(h:iz D P s c):ma D s c:=by
 obtain⟨i,j,ni,m,h1,rfl,h3,h4,rfl⟩:=h;have hi:0<i:=by
  rcases Nat.eq_zero_or_pos i with rfl|h
  ·rw [H.root]at h3;simp only [Option.some.injEq]at h3;omega
  ·exact h
 obtain⟨j',m',e,_,h5,h6⟩:=H.up i _ ni hi h3 h1;have:j'=j:=by omega
 subst this;rw [h4]at h5;cases h5;exact⟨ni,List.mem_of_getElem? h1,rfl,h6⟩
theorem iz.one(W:jv D){s s' c:HT}(h:iz D P s c)(h':iz D P s' c):s=s':=by
 obtain⟨i,j,ni,m,h1,rfl,h3,h4,rfl⟩:=h;obtain⟨i',j',ni',m',sH,e,C7,WT,rfl⟩:=h';have:=W.inj h1 sH e.symm;subst this;rw [h3]at C7;simp only [Option.some.injEq]at C7;have:j=j':=by omega
 subst this;rw [h4]at WT;cases WT;rfl
theorem iz.ex(H:ra D P){i:Nat}{ni:DN}(hi:0<i)(h:D[i]? =some ni):∃(j:Nat) (m:DN),j<i/\P[i]? =some (j:Int)/\D[j]? =some m/\iz D P m.id ni.id:=by
 have dQ:=(lgeS h).1;obtain⟨p,hp⟩:∃p,P[i]? =some p:=⟨_,List.getElem?_eq_getElem (by rw [H.len];exact dQ)⟩;obtain⟨j,m,rfl,hj,hm,_⟩:=H.up i p ni hi hp h;exact⟨j,m,hj,hp,hm,i,j,ni,m,h,rfl,hp,hm,rfl⟩
theorem Ch.refl(H:ra D P){a:HT}(h:a∈ids D):Ch D P a a:=by
 obtain⟨nd,eQ,e⟩:=dt.1 h;obtain⟨i,hi⟩:=List.mem_iff_getElem?.1 eQ;exact⟨i,i,nd,nd,hi,e,hi,e,.refl (by rw [H.len];exact(lgeS hi).1)⟩
theorem Ch.mem{a b:HT}(h:Ch D P a b):a∈ids D/\b∈ids D:=by
 obtain⟨i,k,ni,nk,h1,h2,h3,h4,_⟩:=h;exact⟨dt.2 ⟨nk,List.mem_of_getElem? h3,h4⟩,dt.2 ⟨ni,List.mem_of_getElem? h1,h2⟩⟩
theorem Ch.step(W:jv D){a s c:HT}(hs:iz D P s c)(h:Ch D P a s):Ch D P a c:=by
 obtain⟨i,j,ni,m,h1,rfl,h3,h4,rfl⟩:=hs;obtain⟨j',k,nj,nk,g1,g2,g3,g4,g5⟩:=h;have:=W.inj g1 h4 g2;subst this;exact⟨i,k,ni,nk,h1,rfl,g3,g4,.step h3 g5⟩
theorem Ch.Dg(W:jv D)(H:ra D P){a b:HT}(h:Ch D P a b):a=b\/eB D a b:=by
 obtain⟨i,k,ni,nk,h1,rfl,h3,rfl,h5⟩:=h
 induction h5 generalizing ni with
 |refl _=>rw [h1]at h3;cases h3;exact .inl rfl
 | @step i j k hj hu ih=>
   have sV:=hu.lt;rw [H.len]at sV;obtain⟨m,hm⟩:∃m,D[j]? =some m:=⟨_,List.getElem?_eq_getElem sV⟩;have hp:ma D m.id ni.id:=iz.par H ⟨i,j,ni,m,h1,rfl,hj,hm,rfl⟩;rcases ih m hm h3 with e|e
   ·rw [e];exact .inr (.one hp)
   ·exact .inr (.more e hp)
theorem H9(W:jv D)(H:ra D P){a b:HT}(fC:a≠b):eB D a b↔Ch D P a b\/∃c,Mv D P a c/\Ch D P c b:=by
 constructor
 ·intro h
  obtain⟨nb,Tk,e⟩:=dt.1 (h.mem W).2;obtain⟨i,hb⟩:=List.mem_iff_getElem?.1 Tk;clear Tk;subst e
  induction i using Nat.strongRecOn generalizing nb with
  |_ i ih=>
   have hi:0<i:=by
    rcases Nat.eq_zero_or_pos i with rfl|h0
    ·exfalso
     obtain⟨x,y,mx,my,nS,_,hy,_,e2⟩:=h.at_ W;have:=W.inj hy hb e2;omega
    ·exact h0
   obtain⟨j,m,hj,_,hm,hs⟩:=iz.ex H hi hb;by_cases e1:a=m.id
   ·exact .inl (Ch.step W hs (by rw [e1];exact Ch.refl H (dt.2 ⟨m,List.mem_of_getElem? hm,rfl⟩)))
   ·by_cases e2:eB D a m.id
    ·rcases ih j hj m hm e1 e2 with e3|⟨c,e3,e4⟩
     ·exact .inl (Ch.step W hs e3)
     ·exact .inr ⟨c,e3,Ch.step W hs e4⟩
    ·exact .inr ⟨nb.id,⟨h,m.id,hs,e1,e2⟩,Ch.refl H (dt.2 ⟨nb,List.mem_of_getElem? hb,rfl⟩)⟩
 ·rintro(h|⟨c,⟨h1,_⟩,h2⟩)
  ·exact(h.Dg W H).resolve_left fC
  ·rcases h2.Dg W H with e|e
   ·rw [<-e];exact h1
   ·exact h1.trans e
theorem ra.snoc(H:ra D P){nd:DN}{j:Nat}{m:DN}(hj:D[j]? =some m)(hm:m.id∈nd.ps)(iX:0<D.length):ra (D++ [nd]) (P++ [(j:Int)]) where
 len:=by simp [H.len]
 root:=by rw [List.getElem?_append_left (by rw [H.len];exact iX)];exact H.root
 up:=fun i p nd' hi hp eQ=>by
  have sV:=(lgeS hj).1;by_cases h:i<D.length
  ·rw [List.getElem?_append_left (by rw [H.len];exact h)]at hp
   rw [List.getElem?_append_left h]at eQ;obtain⟨j',m',e,h1,h2,h3⟩:=H.up i p nd' hi hp eQ;exact⟨j',m',e,h1,by rw [List.getElem?_append_left (by omega)];exact h2,h3⟩
  ·have dQ:=(lgeS eQ).1
   have e:i=D.length:=by simp at dQ;omega
   subst e;rw [<-H.len]at hp;simp at hp eQ;subst hp eQ;exact⟨j,m,rfl,sV,by rw [List.getElem?_append_left sV];exact hj,hm⟩
theorem ns(W:jv D)(H:ra D P){nd:DN}(hn:nd.id∉ids D){j:Nat}{m:DN}(hj:D[j]? =some m){s c:HT}:
 iz (D++ [nd]) (P++ [(j:Int)]) s c↔iz D P s c\/(c=nd.id/\s=m.id):=by
 have sV:=(lgeS hj).1;constructor
 ·rintro⟨i,k,ni,mk,h1,rfl,h3,h4,rfl⟩
  by_cases h:i<D.length
  ·rw [List.getElem?_append_left h]at h1
   rw [List.getElem?_append_left (by rw [H.len];exact h)]at h3;have hk:k<D.length:=by
    rcases Nat.eq_zero_or_pos i with rfl|h0
    ·rw [H.root]at h3;simp only [Option.some.injEq]at h3;omega
    ·obtain⟨k',_,e,h5,_⟩:=H.up i _ ni h0 h3 h1
     omega
   rw [List.getElem?_append_left hk]at h4;exact .inl ⟨i,k,ni,mk,h1,rfl,h3,h4,rfl⟩
  ·have dQ:=(lgeS h1).1
   have e:i=D.length:=by simp at dQ;omega
   subst e;have C7:=h3;rw [<-H.len]at C7;simp at h1 C7;subst h1;have:k=j:=by omega
   subst this;rw [List.getElem?_append_left sV,hj]at h4;cases h4;exact .inr ⟨rfl,rfl⟩
 ·rintro(⟨i,k,ni,mk,h1,rfl,h3,h4,rfl⟩|⟨rfl,rfl⟩)
  ·have hi:=(lgeS h1).1
   have hk:=(lgeS h4).1;exact⟨i,k,ni,mk,by rw [List.getElem?_append_left hi];exact h1,rfl,by rw [List.getElem?_append_left (by rw [H.len];exact hi)];exact h3,by rw [List.getElem?_append_left hk];exact h4,rfl⟩
  ·exact⟨D.length,j,nd,m,by simp,rfl,by rw [<-H.len];simp,by rw [List.getElem?_append_left sV];exact hj,rfl⟩
theorem HW(W:jv D)(H:ra D P){nd:DN}(hn:nd.id∉ids D)(fF:∀p∈nd.ps,p∈ids D){j:Nat}{m:DN}(hj:D[j]? =some m){h c:HT}:
 Mv (D++ [nd]) (P++ [(j:Int)]) h c↔Mv D P h c\/(c=nd.id/\eB (D++ [nd]) h nd.id/\h≠m.id/\¬eB D h m.id):=by
 have hm:m.id∈ids D:=dt.2 ⟨m,List.mem_of_getElem? hj,rfl⟩;have key:∀ {s c},iz D P s c->s∈ids D/\c∈ids D:=fun hs=>(eB.one (iz.par H hs)).mem W;constructor
 ·rintro⟨h1,s,hs,h2,h3⟩
  rcases(ns W H hn hj).1 hs with hs|⟨rfl,rfl⟩
  ·obtain⟨g1,g2⟩:=key hs
   exact .inl ⟨(iN W hn g2).1 h1,s,hs,h2,fun e=>h3 ((iN W hn g1).2 e)⟩
  ·exact .inr ⟨rfl,h1,h2,fun e=>h3 ((iN W hn hm).2 e)⟩
 ·rintro(⟨h1,s,hs,h2,h3⟩|⟨rfl,h1,h2,h3⟩)
  ·obtain⟨g1,g2⟩:=key hs
   exact⟨(iN W hn g2).2 h1,s,(ns W H hn hj).2 (.inl hs),h2,fun e=>h3 ((iN W hn g1).1 e)⟩
  ·exact⟨h1,m.id,(ns W H hn hj).2 (.inr ⟨rfl,rfl⟩),h2,fun e=>h3 ((iN W hn hm).1 e)⟩
inductive Up (P:List Int):Nat->List Nat->Prop
 |root:Up P 0 [0]
 |step {i j:Nat} {l:List Nat}:P[i]? =some (j:Int)->Up P j l->Up P i (i::l)
theorem Up.ex(hP:Tr.ma P):∀i,i<P.length->∃l,Up P i l:=by
 intro i
 induction i using Nat.strongRecOn with
 |_ i ih=>
  intro hi;rcases Nat.eq_zero_or_pos i with rfl|h0
  ·exact⟨[0],.root⟩
  ·obtain⟨j,h1,h2⟩:=hP.up i _ h0 (List.getElem?_eq_getElem hi)
   obtain⟨l,hl⟩:=ih j h1 (by omega);exact⟨i::l,.step (by rw [List.getElem?_eq_getElem hi,h2]) hl⟩
theorem Up.mem(hP:Tr.ma P){i:Nat}{l:List Nat}(h:Up P i l)(hi:i<P.length){k:Nat}:k∈l↔jD P i k:=by
 induction h with
 |root=>
  rw [List.mem_singleton];constructor
  ·rintro rfl;exact .refl hi
  ·intro h;have:=h.le hP;omega
 | @step i j l hj hu ih=>
   have sV:j<P.length:=by have:=(Tr.im hP (Tr.ek.2 hj)).1;omega
   rw [List.mem_cons,ih sV];constructor
   ·rintro(rfl|h)
    ·exact .refl hi
    ·exact .step hj h
   ·intro h
    by_cases e:k=i
    ·exact .inl e
    ·exact .inr (h.inv (fun e'=>e e'.symm) hj)
theorem Up.one(hP:Tr.ma P){i:Nat}{l l':List Nat}(h:Up P i l)(h':Up P i l'):l=l':=by
 induction h generalizing l' with
 |root=>
  cases h' with
  |root=>rfl
  |step hj _=>rw [hP.root]at hj;simp only [Option.some.injEq]at hj;omega
 | @step i j l hj hu ih=>
   cases h' with
   |root=>rw [hP.root]at hj;simp only [Option.some.injEq]at hj;omega
   | @step _ j' l' uy JK=>
     rw [hj]at uy;simp only [Option.some.injEq]at uy;have:j=j':=by omega
     subst this;rw [ih JK]
theorem Up.head{i:Nat}{l:List Nat}(h:Up P i l):l[0]? =some i:=by cases h<;>rfl
theorem Up.len(hP:Tr.ma P){i:Nat}{l:List Nat}(h:Up P i l):l.length<=i+1:=by
 induction h with
 |root=>simp
 | @step i j l hj hu ih=>have:=(Tr.im hP (Tr.ek.2 hj)).1;simp only [List.length_cons];omega
theorem Up.lt(hP:Tr.ma P){i:Nat}{l:List Nat}(h:Up P i l)(hi:i<P.length):∀k∈l,k<P.length:=fun k hk=>((h.mem hP hi).1 hk).V8
end
end Go.Proofs.YtnboahlopghcjaaGreatDoor
namespace Go.Proofs.YtnboahlopghcjaaGreatDoor
open Go.Proofs.Tryz
open Go Go.bU Go.RowKit
structure vM(mt te:TypeId)(z:Value):Prop where
 oc:prog.underlying mt=some (.map aj te)
 zero:∀w,(zeroValue te).run prog w=.ok z w
def assoc(h:HT):List (HT×Value)->Option Value
 | []=>none
 |(x,v)::l=>if h=x then some v else assoc h l
def kR(h:HT):List (HT×Value)->Nat->Option (Nat×Value)
 | [],_=>none
 |(x,v)::l,i=>if h=x then some (i,v)else kR h l (i+1)
theorem mn(h:HT):∀(l:List (HT×Value)) (i:Nat),(kR h l i).map (·.2)=assoc h l
 | [],_=>rfl
 |(x,v)::l,i=>by
  unfold kR assoc;split
  ·rfl
  ·exact mn h l (i+1)
theorem uM{h:HT}:∀ {l:List (HT×Value)} {i j:Nat} {v:Value},kR h l i=some (j,v)->i<=j/\l[j-i]? =some (h,v)/\∀(x:HT) (u:Value),assoc x (l.set (j-i) (h,u))=if x=h then some u else assoc x l
 | [],i,j,v,e=>by simp [kR]at e
 |(x,u)::l,i,j,v,e=>by
  unfold kR at e;split at e
  ·rename_i hx
   cases e;subst hx;refine⟨Nat.le_refl _,by rw [Nat.sub_self];rfl,fun x u=>?_⟩;rw [Nat.sub_self];simp only [List.set_cons_zero,assoc];by_cases hx:x=h<;>simp [hx]
  ·rename_i hx
   obtain⟨h1,h2,h3⟩:=uM e;have e1:j-i=(j-(i+1))+1:=by omega
   refine⟨by omega,by rw [e1];exact h2,fun y u'=>?_⟩;rw [e1];simp only [List.set_cons_succ,assoc,h3];by_cases hy:y=h
   ·subst hy;simp [hx]
   ·simp [hy]
theorem uZ{h:HT}{v:Value}:∀ {l:List (HT×Value)},assoc h l=none->∀x,assoc x (l++ [(h,v)])=if x=h then some v else assoc x l
 | [],_,x=>by simp [assoc]
 |(y,u)::l,e,x=>by
  unfold assoc at e;split at e
  ·cases e
  ·rename_i hy
   have ih:=uZ (v:=v) e x;simp only [List.cons_append,assoc,ih];by_cases hx:x=y
   ·subst hx;simp [Ne.symm hy]
   ·simp [hx]
def mD(es:List MapEntry)(l:List (HT×Value)):Prop:=match es,l with
 | [],[]=>True
 |e::es,p::l=>(e.key=.agg p.1.1/\e.val=p.2)/\mD es l
 |_,_=>False
theorem mD.snoc:∀ {es:List MapEntry} {l:List (HT×Value)} {e:MapEntry} {p:HT×Value},mD es l->e.key=.agg p.1.1->e.val=p.2->mD (es++ [e]) (l++ [p])
 | [],[],_,_,_,h1,h2=>⟨⟨h1,h2⟩,trivial⟩
 |_::_,_::_,_,_,he,h1,h2=>⟨he.1,mD.snoc he.2 h1 h2⟩
 | [],_::_,_,_,he,_,_=>he.elim
 |_::_,[],_,_,he,_,_=>he.elim
theorem mD.get:∀ {es:List MapEntry} {l:List (HT×Value)} {j:Nat} {p:HT×Value},mD es l->l[j]? =some p->∃e,es[j]? =some e/\e.key=.agg p.1.1/\e.val=p.2
 | [],[],_,_,_,h=>by simp at h
 |e::_,_::_,0,_,he,h=>by
  simp only [List.getElem?_cons_zero,Option.some.injEq]at h;subst h;exact⟨e,rfl,he.1⟩
 |_::_,_::_,j+1,_,he,h=>by
  obtain⟨e,h1,h2⟩:=mD.get he.2 (j:=j) (by simpa using h);exact⟨e,by simpa using h1,h2⟩
 | [],_::_,_,_,he,_=>he.elim
 |_::_,[],_,_,he,_=>he.elim
theorem mD.set:∀ {es:List MapEntry} {l:List (HT×Value)} {j:Nat} {p:HT×Value} {f:MapEntry->MapEntry},mD es l->(∀e,(f e).key=.agg p.1.1/\(f e).val=p.2)->mD (es.modify j f) (l.set j p)
 | [],[],_,_,_,he,_=>by simpa using he
 |_::_,_::_,0,_,_,he,hf=>⟨hf _,he.2⟩
 |_::_,_::_,j+1,_,_,he,hf=>by
  simp only [List.modify_succ_cons,List.set_cons_succ];exact⟨he.1,mD.set he.2 hf⟩
 | [],_::_,_,_,_,he,_=>he.elim
 |_::_,[],_,_,_,he,_=>he.elim
theorem mD.len:∀ {es:List MapEntry} {l:List (HT×Value)},mD es l->es.length=l.length
 | [],[],_=>rfl
 |_::_,_::_,he=>by simp [mD.len he.2]
 | [],_::_,he=>he.elim
 |_::_,[],he=>he.elim
section
variable{w:World}
theorem qy(h:HT)(w:World):∀(es:List MapEntry) (l:List (HT×Value)) (i:Nat),mD es l->
 (Instr.findAsking aj (.agg h.1) es i).run prog w=.ok (kR h l i) w
 | [],[],i,_=>by simp [Instr.findAsking,kR]
 |e::es,(x,v)::l,i,he=>by
  have hq:=tK h x w;have ih:=qy h w es l (i+1) he.2;simp only [Instr.findAsking,he.1.1,Sem.run_bind,hq,Result.andThen_ok];by_cases hx:h=x
  ·simp [hx,kR,he.1.2]
  ·simp [hx,kR,ih]
 | [],_::_,_,he=>he.elim
 |_::_,[],_,he=>he.elim
theorem kV(h:HT)(w:World){es:List MapEntry}{l:List (HT×Value)}(he:mD es l):
 (Instr.findKey aj (.agg h.1) es).run prog w=.ok (kR h l 0) w:=by
 have h1:=qy h w es l 0 he;simp only [Instr.findKey,Sem.run_bind,run_underlying IY,Result.andThen_ok];cases es with
 |nil=>
  cases l with
  |nil=>simp [Instr.findNow,kR]
  |cons x l=>exact he.elim
 |cons e es=>
  have:Instr.findNow (.array 32 iu) (.agg h.1) (e::es) 0=none:=by
   simp only [Instr.findNow,Instr.sameNow]
  rw [this];exact h1
theorem DQ(h:HT):Instr.sameBits 10000 (.agg h.1) (.agg h.1)=true:=by
 show Instr.sameBits (9999+1) (.agg h.1) (.agg h.1)=true
 rw [Instr.sameBits];simp only [beq_self_eq_true,Bool.true_and,List.all_eq_true];rintro⟨x,y⟩ nS;have hxe:x=y:=by
  obtain⟨i,hi⟩:=List.mem_iff_getElem?.1 nS;rw [List.getElem?_zip_eq_some]at hi;have:=hi.1.symm.trans hi.2;simpa using this
 subst hxe;have hm:=(List.of_mem_zip nS).1;obtain⟨n,rfl,_⟩:=h.2.2 x hm;simp [Instr.sameBits]
structure fk(w:World)(m:Nat)(f:HT->Option Value):Prop where
 ex:∃es clock l,w.heap[m]? =some (.map es clock)/\mD es.toList l/\(∀x,assoc x l=f x)/\(∀e∈es.toList,e.born<clock)/\(es.toList.map (·.born)).Nodup/\(l.map (·.1)).Nodup
theorem fk.aC{S:Nat->Prop}{w w':World}{m:Nat}{f:HT->Option Value}(h:fk w m f)(hk:Kept S w w')(hn:¬S m):fk w' m f:=by
 obtain⟨es,clock,l,h1,h2⟩:=h.ex;exact⟨es,clock,l,hk.heap h1 hn,h2⟩
theorem fk.same{w w':World}{m:Nat}{f:HT->Option Value}(h:fk w m f)(hk:Kept Nil w w'):fk w' m f:=h.aC hk (fun h=>h)
theorem fk.lt{w:World}{m:Nat}{f:HT->Option Value}(h:fk w m f):m<w.heap.size:=by
 obtain⟨es,clock,l,h1,_⟩:=h.ex;exact aQ h1
theorem fk.new(w:World):fk (w.alloc (.map #[] 0)) w.heap.size (fun _=>none):=⟨#[],0,[],aJ w _,trivial,fun _=>rfl,by simp,by simp,by simp⟩
theorem fk.look{mt te:TypeId}{z:Value}(T:vM mt te z){m:Nat}{f:HT->Option Value}(hm:fk w m f)(h:HT):
 (Instr.lookup mt (.map (some m)) (.agg h.1) false).run prog w=.ok ((f h).getD z) w:=by
 obtain⟨es,clock,l,h1,h2,h3,_⟩:=hm.ex;have h4:=kV h w h2;have h5:=mn h l 0;rw [h3]at h5;simp only [Instr.lookup,Sem.run_bind,run_underlying T.oc,oX h1,Result.andThen_ok,Sem.run_pure,iJ,h4];cases hp:kR h l 0 with
 |none=>rw [hp]at h5;simp [<-h5,T.zero]
 |some p=>rw [hp]at h5;simp [<-h5]
theorem fk.put{mt te:TypeId}{z:Value}(T:vM mt te z){m:Nat}{f:HT->Option Value}(hm:fk w m f)(h:HT)(v:Value):
 ∃w',(Instr.mapUpdate mt (.map (some m)) (.agg h.1) v).run prog w=.ok () w'/\fk w' m (fun x=>if x=h then some v else f x)/\Kept (· =m) w w':=by
 obtain⟨es,clock,l,h1,h2,h3,hb,hd,hk⟩:=hm.ex;have h4:=kV h w h2;have kept:∀o,Kept (· =m) w {w with heap:=w.heap.setIfInBounds m o}:=fun o=>⟨rfl,rfl,rfl,by simp,fun k _ hk=>by simp [Ne.symm hk]⟩;cases hp:kR h l 0 with
 |none=>
  rw [hp]at h4;have h5:=mn h l 0;rw [hp]at h5;refine⟨{w with heap:=w.heap.setIfInBounds m (.map (es.push {key:=.agg h.1,val:=v,born:=clock}) (clock+1))},?_,⟨es.push {key:=.agg h.1,val:=v,born:=clock},clock+1,l++ [(h,v)],?_,?_,?_,?_,?_,?_⟩,kept _⟩
  ·simp only [Instr.mapUpdate,Sem.run_bind,run_underlying T.oc,oX h1,Result.andThen_ok,iJ,h4,Ay _ h1]
  ·simp [aQ h1]
  ·have:=h2.snoc (e:= {key:=.agg h.1,val:=v,born:=clock}) (p:=(h,v)) rfl rfl
   simpa using this
  ·intro x
   rw [uZ h5.symm,h3]
  ·intro e he
   rw [Array.toList_push,List.mem_append,List.mem_singleton]at he;rcases he with he|rfl
   ·have:=hb e he;omega
   ·exact Nat.lt_succ_self _
  ·rw [Array.toList_push,List.map_append,List.nodup_append]
   refine⟨hd,by simp,fun a ha b vB e=>?_⟩;simp only [List.map_cons,List.map_nil,List.mem_singleton]at vB;obtain⟨e',Kn,rfl⟩:=List.mem_map.1 ha;have:=hb e' Kn;omega
  ·rw [List.map_append,List.nodup_append]
   refine⟨hk,by simp,fun a ha b vB e=>?_⟩;simp only [List.map_cons,List.map_nil,List.mem_singleton]at vB;subst vB;subst e;have key:∀l:List (HT×Value),a∈l.map (·.1)->assoc a l≠none:=fun l=>by
    induction l with
    |nil=>simp
    |cons p l ih=>
     obtain⟨y,u⟩:=p;intro hm;unfold assoc;split
     ·simp
     ·rename_i hy
      simp only [List.map_cons,List.mem_cons]at hm;exact ih (hm.resolve_left hy)
   exact key l ha h5.symm
 |some p=>
  obtain⟨j,u⟩:=p;rw [hp]at h4;obtain⟨_,h6,h7⟩:=uM hp;rw [Nat.sub_zero]at h6 h7;obtain⟨e,he1,Qs,_⟩:=h2.get h6;have hes:es[j]? =some e:=by simpa using he1
  refine⟨{w with heap:=w.heap.setIfInBounds m (.map (es.modify j fun e=> {e with key:=.agg h.1,val:=v}) clock)},?_,⟨es.modify j fun e=> {e with key:=.agg h.1,val:=v},clock,l.set j (h,v),?_,?_,?_,?_,?_,?_⟩,kept _⟩
  ·simp only [Instr.mapUpdate,Sem.run_bind,run_underlying T.oc,oX h1,Result.andThen_ok,iJ,h4,Instr.keyThatStays,hes,Option.map_some,Option.getD_some,Qs,DQ,if_true,Sem.run_pure,Ay _ h1]
  ·simp [aQ h1]
  ·rw [Array.toList_modify]
   exact h2.set (p:=(h,v)) fun e=>⟨rfl,rfl⟩
  ·intro x
   rw [h7,h3]
  ·intro x hx
   rw [Array.toList_modify]at hx;obtain⟨i,hi⟩:=List.mem_iff_getElem?.1 hx;rw [List.getElem?_modify]at hi;cases hg:es.toList[i]? with
   |none=>rw [hg]at hi;simp at hi
   |some y=>
    rw [hg]at hi;have:=hb y (List.mem_of_getElem? hg);by_cases qg:j=i
    ·simp [qg]at hi
     rw [<-hi];exact this
    ·simp [qg]at hi
     rw [<-hi];exact this
  ·have:(es.modify j fun e=> {e with key:=.agg h.1,val:=v}).toList.map (·.born)=es.toList.map (·.born):=by
    rw [Array.toList_modify];apply List.ext_getElem?;intro i;rw [List.getElem?_map,List.getElem?_map,List.getElem?_modify];cases es.toList[i]? with
    |none=>simp
    |some y=>by_cases qg:j=i<;>simp [qg]
   rw [this];exact hd
  ·have:(l.set j (h,v)).map (·.1)=l.map (·.1):=by
    apply List.ext_getElem?;intro i;rw [List.getElem?_map,List.getElem?_map,List.getElem?_set];by_cases qg:j=i
    ·subst qg
     have cH:=(lgeS h6).1;have fV:=(lgeS h6).2;simp [cH,fV]
    ·simp [qg]
   rw [this];exact hk
end
end Go.Proofs.YtnboahlopghcjaaGreatDoor
namespace Go.Proofs.YtnboahlopghcjaaGreatDoor
open Go.Proofs.Tryz
open Go Go.bU Go.RowKit
open Tr (jD)
theorem th{te:TypeId}{z:Value}(h:(prog.info? te).bind (·.zero)=some z)(w:World):(zeroValue te).run prog w=.ok z w:=by
 cases hi:prog.info? te with
 |none=>rw [hi]at h;cases h
 |some i=>
  rw [hi]at h;have hz:i.zero=some z:=h;simp [zeroValue,typeInfo,hi,hz]
theorem xf:vM fZ az (.slice none 0 0):=⟨by kernel_rfl,th (by kernel_rfl)⟩
theorem Gh:vM kM sg (.agg #[.bool false]):=⟨by kernel_rfl,th (by kernel_rfl)⟩
structure XM where
 g:Nat
 t:Nat
 mb:Nat
 ib:Nat
 ic:Nat
 cb:Nat
 T:List Tr.Nd
 d:Int
 SG:Nat->Prop
 ST:Nat->Prop
 SO:Nat->Prop
def XM.own(m:XM)(x k:Nat):Prop:=k=x\/k=m.mb\/k=m.ib\/k=m.cb
def XM.jL(m:XM)(x k:Nat):Prop:=m.SG k\/m.ST k\/m.SO k\/m.own x k
def nQ(w:World)(SO:Nat->Prop)(N:Nat)(v:Option Value)(l:List HT):Prop:=
 (v=none/\l= [])\/∃(A:Option Addr) (n c:Nat),v=some (.slice A n c)/\n<=c/\HS w A n l/\n<=N/\∀a,A=some a->SO a.block
structure XV(w:World)(F:Nat->Prop)(x:Nat)(D:DG)(P:List Int)(m:XM):Prop where
 top:w.heap[x]? =some (.cells #[.pointer (some ⟨m.g,0,none⟩),.pointer (some ⟨m.t,0,none⟩),.map (some m.mb),.slice (some ⟨m.ib,0,none⟩) D.length m.ic,.map (some m.cb)] eA (0,0))
 G:BY w m.SG F m.g D
 T:Tr.om w m.ST m.t m.T m.d
 KC:Tr.vN m.T
 bP:Tr.bP m.T=P
 dl:0<=m.d/\m.d<=D.length
 at_:IsMap w m.mb (ids D)
 row:bQ w 0 (some ⟨m.ib,0,none⟩) D.length m.ic (ids D)
 W8:∃f,fk w m.cb f/\∀h,∃l,nQ w m.SO D.length (f h) l/\∀c,c∈l↔Mv D P h c
 gV:ra D P
 W:jv D
 gt:∀k,m.SG k->¬m.ST k/\¬m.SO k
 to:∀k,m.ST k->¬m.SO k
 fd:∀k,F k->¬m.ST k/\¬m.SO k
 od:∀k,m.own x k->¬m.SG k/\¬m.ST k/\¬m.SO k/\¬F k
 ne:x≠m.mb/\x≠m.ib/\x≠m.cb/\m.mb≠m.ib/\m.mb≠m.cb/\m.ib≠m.cb
 low:∀k,m.jL x k\/F k->k<w.heap.size
def BX(w:World)(S F:Nat->Prop)(x:Nat)(D:DG)(P:List Int):Prop:=∃m,XV w F x D P m/\∀k,m.jL x k->S k
section
variable{w w':World}{F S:Nat->Prop}{x:Nat}{D:DG}{P:List Int}{m:XM}{K:Value->World->Prop}
theorem nQ.aC{S0 SO:Nat->Prop}{N:Nat}{v:Option Value}{l:List HT}(h:nQ w SO N v l)(hk:Kept S0 w w')(hn:∀k,SO k->¬S0 k):nQ w' SO N v l:=by
 rcases h with h|⟨A,n,c,h1,h2,h3,h4,h5⟩
 ·exact .inl h
 ·exact .inr ⟨A,n,c,h1,h2,h3.aC hk (fun a ha=>hn _ (h5 a ha)),h4,h5⟩
theorem XV.aC{S0:Nat->Prop}(h:XV w F x D P m)(hk:Kept S0 w w')(hS:∀k,m.jL x k->¬S0 k)(hF:∀k,F k->¬S0 k):XV w' F x D P m where
 top:=hk.heap h.top (hS _ (.inr (.inr (.inr (.inl rfl)))))
 G:=h.G.aC hk (fun k e=>hS k (.inl e)) hF
 T:=h.T.aC hk (fun k e=>hS k (.inr (.inl e)))
 KC:=h.KC
 bP:=h.bP
 dl:=h.dl
 at_:=h.at_.aC hk (hS _ (.inr (.inr (.inr (.inr (.inl rfl))))))
 row:=Row.aC h.row hk (fun k e=>by cases e;exact hS _ (.inr (.inr (.inr (.inr (.inr (.inl rfl)))))))
 W8:=by
  obtain⟨f,h1,h2⟩:=h.W8;refine⟨f,h1.aC hk (hS _ (.inr (.inr (.inr (.inr (.inr (.inr rfl))))))),fun y=>?_⟩;obtain⟨l,h3,h4⟩:=h2 y;exact⟨l,h3.aC hk (fun k e=>hS k (.inr (.inr (.inl e)))),h4⟩
 gV:=h.gV
 W:=h.W
 gt:=h.gt
 to:=h.to
 fd:=h.fd
 od:=h.od
 ne:=h.ne
 low:=fun k e=>Nat.lt_of_lt_of_le (h.low k e) hk.size
theorem XV.same(h:XV w F x D P m)(hk:Kept Nil w w'):XV w' F x D P m:=h.aC hk (fun _ _ h=>h) (fun _ _ h=>h)
theorem BX.aC{S0:Nat->Prop}(h:BX w S F x D P)(hk:Kept S0 w w')(hS:∀k,S k->¬S0 k)(hF:∀k,F k->¬S0 k):BX w' S F x D P:=
 let ⟨m,h1,h2⟩:=h;⟨m,h1.aC hk (fun k e=>hS k (h2 k e)) hF,h2⟩
theorem BX.same(h:BX w S F x D P)(hk:Kept Nil w w'):BX w' S F x D P:=h.aC hk (fun _ _ h=>h) (fun _ _ h=>h)
theorem XV.c0(h:XV w F x D P m):w.cell? ((⟨x,0,none⟩:Addr).add 0)=some (.pointer (some ⟨m.g,0,none⟩)):=by rw [a8,ay h.top];rfl
theorem XV.c1(h:XV w F x D P m):w.cell? ((⟨x,0,none⟩:Addr).add 1)=some (.pointer (some ⟨m.t,0,none⟩)):=by rw [a8,ay h.top];rfl
theorem XV.c2(h:XV w F x D P m):w.cell? ((⟨x,0,none⟩:Addr).add 2)=some (.map (some m.mb)):=by rw [a8,ay h.top];rfl
theorem XV.c3(h:XV w F x D P m):w.cell? ((⟨x,0,none⟩:Addr).add 3)=some (.slice (some ⟨m.ib,0,none⟩) D.length m.ic):=by rw [a8,ay h.top];rfl
theorem XV.c4(h:XV w F x D P m):w.cell? ((⟨x,0,none⟩:Addr).add 4)=some (.map (some m.cb)):=by rw [a8,ay h.top];rfl
theorem XV.MO(h:XV w F x D P m):m.T.length=D.length:=by
 have:=Tr.eN m.T;rw [h.bP,h.gV.len]at this;exact this.symm
theorem XV.oc(h:XV w F x D P m){i k:Nat}{id kd:Tr.Nd}(hi:m.T[i]? =some id)(hk:m.T[k]? =some kd):decide (kd.lo<=id.lo/\id.hi<=kd.hi)=true↔jD P i k:=by
 rw [decide_eq_true_iff,<-h.bP];exact h.KC.under hi hk
theorem C4(a b:HT):a.1.toList++(b.1.toList++ [])=dc [a,b]:=by simp [dc]
theorem sx(h:XV w F x D P m)(hK:K (.bool true) w):bk prog eR.id #[.pointer (some ⟨x,0,none⟩)] w K:=
 eR.of (Split.yes rfl ⟨_,h.c0,hK⟩)
theorem xA{xb:Nat}(h:XV w F x D P m)(hg:w.heap[xb]? =some (.cells #[.pointer (some ⟨x,0,none⟩)] fK (0,0))){A:Option Addr}{n cx:Nat}{l:List HT}(hl:HS w A n l)(hn:n<=400000)
 (hK:∀w' (b:Bool),(b=true↔∃p∈l,p∉ids D)->Kept Nil w w'->K (.bool b) w'):
 bk prog dE.id #[.slice A n cx,.func (.func dw.id) #[] #[.pointer (some ⟨xb,0,none⟩)]] w K:=by
 have hlen:=hl.len;refine bY.of (ao.of ?_);refine ao.cf (I:=fun s w'=>∃i:Nat,s=(0,(i:Int))/\i<=n/\(∀p∈l.take i,p∈ids D)/\Kept Nil w w') (μ:=fun s _=>((n:Int)-s.2).toNat) (s:=(0,0)) ⟨0,rfl,Nat.zero_le _,by simp,Kept.refl _ _⟩ ?_;rintro s w' ⟨i,rfl,hi,cY,kw⟩;refine Split.dec (fun jb=>?_) (fun fV=>?_)
 ·simp only at jb
  have dQ:i<n:=by omega
  obtain⟨y,hy⟩:∃y,l[i]? =some y:=⟨_,List.getElem?_eq_getElem (by omega)⟩;refine(hl.same kw).load (i:=(i:Int)) (by omega) hy ?_;refine dw.of ?_;unfold dw.W;intro w3 w4;have k3:Kept Nil w' w3:=(Kept.refl _ _).alloc _;have pB:w3.heap[w'.heap.size]? =some (.cells y.1 aj (0,0)):=aJ w' _;have k4:Kept Nil w3 w4:=(Kept.refl _ _).drew;clear_value w4;have rj:=k4.heap pB (fun h=>h);have Gp:=(kw.tt k3).tt k4;obtain⟨bl,c,mb,M,G⟩:=(h.same Gp).G;refine⟨some ⟨x,0,none⟩,by rw [ay (Gp.heap hg (fun h=>h))];rfl,_,(h.same Gp).c0,y.1,⟨y.2.1,Cells.bC rj⟩,tw G y fun w7 k7=>⟨_,rfl,_,rfl,?_⟩⟩;have AP:=Gp.tt k7;by_cases hm:y∈ids D
  ·refine Split.no (by rw [decide_eq_true hm];rfl) ?_
   simp only;rw [dq (n:=(i:Int)) (by omega) (by omega)];refine⟨(0,(i:Int)+1),rfl,⟨i+1,rfl,dQ,fun p hp=>?_,AP⟩,by simp only;omega⟩;rcases(bG hy).1 hp with hp|rfl
   ·exact cY p hp
   ·exact hm
  ·refine Split.yes (by rw [decide_eq_false hm];rfl) ?_
   refine⟨(i:Int),rfl,?_⟩;exact hK w7 _ ⟨fun _=>⟨y,List.mem_of_getElem? hy,hm⟩,fun _=>decide_eq_true (by omega)⟩ AP
 ·simp only at fV
  rw [aP,ao.dh];rw [List.take_of_length_le (by omega)]at cY;exact⟨-1,rfl,hK w' _ ⟨fun h=>absurd (of_decide_eq_true h) (by omega),fun⟨p,hp,hn⟩=>absurd (cY p hp) hn⟩ kw⟩
theorem pk(h:XV w F x D P m){A:Option Addr}{n cx:Nat}{l:List HT}(hl:HS w A n l)(hn:n<=400000)(hK:∀w',Kept Nil w w'->K (.bool (decide (∀p∈l,p∈ids D))) w'):
 bk prog fe.id #[.pointer (some ⟨x,0,none⟩),.slice A n cx] w K:=by
 refine fe.of ?_;unfold fe.W;intro w3;have k3:Kept Nil w w3:=(Kept.refl _ _).alloc _;have pB:w3.heap[w.heap.size]? =some (.cells #[.pointer (some ⟨x,0,none⟩)] fK (0,0)):=aJ w _;clear_value w3;refine⟨_,by rw [ay pB];rfl,sx (h.same k3) ⟨true,rfl,Split.yes rfl ?_⟩⟩;refine xA (h.same k3) pB (hl.same k3) hn fun w9 b hb k9=>⟨b,rfl,?_⟩;have:(!b)=decide (∀p∈l,p∈ids D):=by
  rw [Bool.eq_iff_iff,decide_eq_true_iff,Bool.not_eq_true',<-Bool.not_eq_true,hb];constructor
  ·exact fun hn p hp=>Classical.byContradiction fun hc=>hn ⟨p,hp,hc⟩
  ·rintro ha ⟨p,hp,hc⟩;exact hc (ha p hp)
 rw [this];exact hK w9 (k3.tt k9)
theorem sy(h:XV w F x D P m)(a b:HT)(hK:∀w' (r:Bool),(r=true↔Ch D P a b)->Kept Nil w w'->K (.bool r) w'):
 bk prog dV.id #[.pointer (some ⟨x,0,none⟩),.agg a.1,.agg b.1] w K:=by
 refine dV.of ?_;unfold dV.W;intro w4 w5 w6;have k4:Kept Nil w w4:=(Kept.refl _ _).alloc _;have xv:w4.heap[w.heap.size]? =some (.cells a.1 aj (0,0)):=aJ w _;have k5:Kept Nil w4 w5:=(Kept.refl _ _).alloc _;have nz:w5.heap[w4.heap.size]? =some (.cells b.1 aj (0,0)):=aJ w4 _;have k6:Kept Nil w5 w6:=(Kept.refl _ _).drew;clear_value w6;have tq:=(k5.tt k6).heap xv (fun h=>h);have nM:=k6.heap nz (fun h=>h);have mM:=(k4.tt k5).tt k6;refine⟨a.1,⟨a.2.1,Cells.bC tq⟩,b.1,⟨b.2.1,Cells.bC nM⟩,a.2.1,b.2.1,?_⟩;intro w9;have k9:Kept Nil w6 w9:=(Kept.refl _ _).alloc _;have hx9:HS w9 (some ⟨w6.heap.size,0,none⟩) 2 [a,b]:=HS.lay (l:= [a,b]) (t:=aj) (by rw [<-C4 a b];exact aJ w6 _);clear_value w9;have En:=mM.tt k9;refine pk (h.same En) hx9 (by omega) fun vS Iy=>⟨_,rfl,?_⟩;have Nz:=En.tt Iy;have Mm:=h.same Nz;by_cases cY:∀p∈ [a,b],p∈ids D
 ·refine Split.yes (decide_eq_true cY) ?_
  obtain⟨na,JX,ea⟩:=dt.1 (cY a (by simp));obtain⟨nb,Tk,eb⟩:=dt.1 (cY b (by simp));obtain⟨k,hk⟩:=List.mem_iff_getElem?.1 JX;obtain⟨i,hi⟩:=List.mem_iff_getElem?.1 Tk;have Bp:=(lgeS hk).1;have dQ:=(lgeS hi).1;have Y6:=h.MO;obtain⟨kd,TH⟩:=Tr.fG (T:=m.T) (i:=k) (by omega);obtain⟨nd,eQ⟩:=Tr.fG (T:=m.T) (i:=i) (by omega);have RP:=k9.tt Iy;have l1:=Mm.at_.wk b;have l2:=Mm.at_.wk a;rw [<-eb,h.W.pos_eq hi]at l1;rw [<-ea,h.W.pos_eq hk]at l2;rw [eb]at l1;rw [ea]at l2;refine⟨_,Mm.c1,_,Mm.c2,b.1,⟨b.2.1,Cells.bC (RP.heap nM (fun h=>h))⟩,_,l1,_,Mm.c2,a.1,⟨a.2.1,Cells.bC (RP.heap tq (fun h=>h))⟩,_,l2,?_⟩;refine Tr.Ap Mm.T eQ TH fun la pQ=>⟨_,rfl,hK la _ ?_ (Nz.tt pQ)⟩;rw [h.oc eQ TH];constructor
  ·exact fun hu=>⟨i,k,nb,na,hi,eb,hk,ea,hu⟩
  ·rintro⟨i',k',ni,nk,h1,h2,h3,h4,h5⟩
   have e1:=h.W.inj h1 hi (by rw [h2,eb]);have e2:=h.W.inj h3 hk (by rw [h4,ea]);rw [<-e1,<-e2];exact h5
 ·refine Split.no (decide_eq_false cY) (hK vS false ⟨(fun e=>by cases e),fun e=>absurd (fun p hp=>?_) cY⟩ Nz)
  simp only [List.mem_cons,List.not_mem_nil,or_false]at hp;rcases hp with rfl|rfl
  ·exact e.mem.1
  ·exact e.mem.2
theorem uR{xb bb:Nat}{b:HT}(h:XV w F x D P m)(hg:w.heap[xb]? =some (.cells #[.pointer (some ⟨x,0,none⟩)] fK (0,0)))(hb:w.heap[bb]? =some (.cells b.1 aj (0,0))){A:Option Addr}{n cx:Nat}{l:List HT}(hl:HS w A n l)(hn:n<=400000)
 (hK:∀w' (r:Bool),(r=true↔∃c∈l,Ch D P c b)->Kept Nil w w'->K (.bool r) w'):
 bk prog dE.id #[.slice A n cx,.func (.func cI.id) #[] #[.pointer (some ⟨xb,0,none⟩),.pointer (some ⟨bb,0,none⟩)]] w K:=by
 have hlen:=hl.len;refine bS.of (ak.of ?_);refine ak.cf (I:=fun s w'=>∃i:Nat,s=(0,(i:Int))/\i<=n/\(∀p∈l.take i,¬Ch D P p b)/\Kept Nil w w') (μ:=fun s _=>((n:Int)-s.2).toNat) (s:=(0,0)) ⟨0,rfl,Nat.zero_le _,by simp,Kept.refl _ _⟩ ?_;rintro s w' ⟨i,rfl,hi,cY,kw⟩;refine Split.dec (fun jb=>?_) (fun fV=>?_)
 ·simp only at jb
  have dQ:i<n:=by omega
  obtain⟨y,hy⟩:∃y,l[i]? =some y:=⟨_,List.getElem?_eq_getElem (by omega)⟩;refine(hl.same kw).load (i:=(i:Int)) (by omega) hy ?_;refine cI.of ?_;unfold cI.W;intro w4;have k4:Kept Nil w' w4:=(Kept.refl _ _).alloc _;have rj:w4.heap[w'.heap.size]? =some (.cells y.1 aj (0,0)):=aJ w' _;clear_value w4;have Gp:=kw.tt k4;refine⟨some ⟨x,0,none⟩,by rw [ay (Gp.heap hg (fun h=>h))];rfl,y.1,⟨y.2.1,Cells.bC rj⟩,b.1,⟨b.2.1,Cells.bC (Gp.heap hb (fun h=>h))⟩,sy (h.same Gp) y b fun w7 r hr k7=>⟨r,rfl,r,rfl,?_⟩⟩;have AP:=Gp.tt k7;cases r with
  |false=>
   refine Split.no rfl ?_;simp only;rw [dq (n:=(i:Int)) (by omega) (by omega)];refine⟨(0,(i:Int)+1),rfl,⟨i+1,rfl,dQ,fun p hp hc=>?_,AP⟩,by simp only;omega⟩;rcases(bG hy).1 hp with hp|rfl
   ·exact cY p hp hc
   ·cases hr.2 hc
  |true=>
   refine Split.yes rfl ⟨(i:Int),rfl,?_⟩;exact hK w7 _ ⟨fun _=>⟨y,List.mem_of_getElem? hy,hr.1 rfl⟩,fun _=>decide_eq_true (by omega)⟩ AP
 ·simp only at fV
  rw [aP,ak.dh];rw [List.take_of_length_le (by omega)]at cY;exact⟨-1,rfl,hK w' _ ⟨fun h=>absurd (of_decide_eq_true h) (by omega),fun⟨p,hp,hn⟩=>absurd hn (cY p hp)⟩ kw⟩
theorem kW(h:XV w F x D P m)(hD:D.length<=5000)(a b:HT)(hK:∀w' (r:Bool),(r=true↔eB D a b)->Kept Nil w w'->K (.bool r) w'):
 bk prog dI.id #[.pointer (some ⟨x,0,none⟩),.agg a.1,.agg b.1] w K:=by
 refine dI.of ?_;unfold dI.W;intro w4 w5 w6;have k4:Kept Nil w w4:=(Kept.refl _ _).alloc _;have Se:w4.heap[w.heap.size]? =some (.cells #[.pointer (some ⟨x,0,none⟩)] fK (0,0)):=aJ w _;have k5:Kept Nil w4 w5:=(Kept.refl _ _).alloc _;have Bw:w5.heap[w4.heap.size]? =some (.cells a.1 aj (0,0)):=aJ w4 _;have k6:Kept Nil w5 w6:=(Kept.refl _ _).alloc _;have nM:w6.heap[w5.heap.size]? =some (.cells b.1 aj (0,0)):=aJ w5 _;clear_value w6;have tq:=k6.heap Bw (fun h=>h);have GW:=(k5.tt k6).heap Se (fun h=>h);have mM:=(k4.tt k5).tt k6;refine⟨_,by rw [ay GW];rfl,a.1,⟨a.2.1,Cells.bC tq⟩,b.1,⟨b.2.1,Cells.bC nM⟩,a.2.1,b.2.1,?_⟩;intro w10;have ny:Kept Nil w6 w10:=(Kept.refl _ _).alloc _;have JP:HS w10 (some ⟨w6.heap.size,0,none⟩) 2 [a,b]:=HS.lay (l:= [a,b]) (t:=aj) (by rw [<-C4 a b];exact aJ w6 _);clear_value w10;have AY:=mM.tt ny;refine pk (h.same AY) JP (by omega) fun mc xO=>⟨_,rfl,?_⟩;have rM:=AY.tt xO;have AR:=ny.tt xO;by_cases cY:∀p∈ [a,b],p∈ids D
 ·refine Split.no (by rw [decide_eq_true cY];rfl) ?_
  have abb:=AR.heap tq (fun h=>h);have aa6:=AR.heap nM (fun h=>h);refine⟨a.1,⟨a.2.1,Cells.bC abb⟩,b.1,⟨b.2.1,Cells.bC aa6⟩,⟨a.2.ints,b.2.ints⟩,?_⟩;rw [du];refine Split.dec (fun he=>?_) (fun he=>?_)
  ·subst he
   exact hK mc false ⟨(fun e=>by cases e),fun e=>absurd e (eB.irrefl h.W a)⟩ rM
  ·intro iZ
   have lj:Kept Nil mc iZ:=(Kept.refl _ _).drew;clear_value iZ;have R4:=rM.tt lj;have JA:=AR.tt lj;refine⟨_,by rw [ay (JA.heap GW (fun h=>h))];rfl,a.1,⟨a.2.1,Cells.bC (JA.heap tq (fun h=>h))⟩,b.1,⟨b.2.1,Cells.bC (JA.heap nM (fun h=>h))⟩,?_⟩;refine sy (h.same R4) a b fun ya r hr GD=>⟨r,rfl,?_⟩;have Nw:=R4.tt GD;have Jz:=JA.tt GD;cases r with
   |true=>exact Split.yes rfl (hK ya true ⟨fun _=>(H9 h.W h.gV he).2 (.inl (hr.1 rfl)),fun _=>rfl⟩ Nw)
   |false=>
    refine Split.no rfl ?_;have h21:=h.same Nw;obtain⟨f,hf,Ub⟩:=h21.W8;obtain⟨l,hl,gB⟩:=Ub a;have CU:=hf.look xf a;have fin:∀ {A:Option Addr} {n c:Nat},(f a).getD (.slice none 0 0)=.slice A n c->HS ya A n l->n<=D.length->
     bk prog dE.id #[.slice A n c,.func (.func cI.id) #[] #[.pointer (some ⟨w.heap.size,0,none⟩),.pointer (some ⟨w5.heap.size,0,none⟩)]] ya fun v28 Xs=>∃t:Bool,v28=.bool t/\K (.bool t) Xs:=fun _ hs hn=>
     uR h21 (Jz.heap GW (fun h=>h)) (Jz.heap nM (fun h=>h)) hs (by omega) fun vh r2 ju JD=>⟨r2,rfl,hK vh r2 (by
      rw [ju,H9 h.W h.gV he];constructor
      ·rintro⟨c,h1,h2⟩;exact .inr ⟨c,(gB c).1 h1,h2⟩
      ·rintro(h1|⟨c,h1,h2⟩)
       ·cases hr.2 h1
       ·exact⟨c,(gB c).2 h1,h2⟩) (Nw.tt JD)⟩
    refine⟨some ⟨x,0,none⟩,by rw [ay (Jz.heap GW (fun h=>h))];rfl,_,h21.c4,a.1,⟨a.2.1,Cells.bC (Jz.heap tq (fun h=>h))⟩,?_⟩;rcases hl with⟨h1,rfl⟩|⟨A,n,c,h1,h2,h3,h4,h5⟩
    ·rw [h1]at CU
     exact⟨none,0,0,CU,fin (by rw [h1];rfl) (HS.nil _ _) (by omega)⟩
    ·rw [h1]at CU
     exact⟨A,n,c,CU,fin (by rw [h1];rfl) h3 h4⟩
 ·refine Split.yes (by rw [decide_eq_false cY];rfl) (hK mc false ⟨(fun e=>by cases e),fun e=>absurd (fun p hp=>?_) cY⟩ rM)
  simp only [List.mem_cons,List.not_mem_nil,or_false]at hp;rcases hp with rfl|rfl
  ·exact(e.mem h.W).1
  ·exact(e.mem h.W).2
end
end Go.Proofs.YtnboahlopghcjaaGreatDoor
namespace Go.Proofs.YtnboahlopghcjaaGreatDoor
open Go.Proofs.Tryz
open Go Go.bU Go.RowKit
section
variable{w w':World}{K:Value->World->Prop}
theorem wI{A:Option Addr}{n c:Nat}(Ez:n<=c)(hK:K (.slice A n n) w):bk prog c9.id #[.slice A n c] w K:=by
 refine c9.of ⟨⟨by omega,by omega⟩,⟨by omega,by simp⟩,?_⟩;have e:(if(n:Int).toNat=0 then A else A.map (·.add (0*32)))=A:=by
  split
  ·rfl
  ·cases A with
   |none=>rfl
   |some a=>simp [add_zero]
 rw [e];simpa using hK
theorem vD{A:Option Addr}{n c:Nat}{l:List HT}(h:HT)(hl:HS w A n l)(hn:n<=1000000)(hK:∀w',Kept Nil w w'->K (.bool (decide (h∈l))) w'):
 bk prog cu.id #[.slice A n c,.agg h.1] w K:=by
 have hlen:=hl.len;refine cu.of ?_;unfold cu.W;intro w3;have k3:Kept Nil w w3:=(Kept.refl _ _).alloc _;have pB:w3.heap[w.heap.size]? =some (.cells h.1 aj (0,0)):=aJ w _;clear_value w3;refine⟨h.1,⟨h.2.1,Cells.bC pB⟩,?_⟩;refine aO.of ?_;unfold aO.W;intro w4;have k4:Kept Nil w3 w4:=(Kept.refl _ _).alloc _;have rj:w4.heap[w3.heap.size]? =some (.cells h.1 aj (0,0)):=aJ w3 _;clear_value w4;have rf:=k3.tt k4;refine aO.cf (I:=fun s w'=>∃i:Nat,s=(0,(i:Int))/\i<=n/\Kept Nil w4 w'/\h∉l.take i) (μ:=fun s _=>((n:Int)-s.2).toNat) (s:=(0,0)) ⟨0,rfl,Nat.zero_le _,Kept.refl _ _,by simp⟩ ?_;rintro s w' ⟨i,rfl,hi,kw,mP⟩;refine Split.dec (fun cH=>?_) (fun fV=>?_)
 ·simp only at cH
  have dQ:i<n:=by omega
  obtain⟨y,hy⟩:∃y,l[i]? =some y:=⟨_,List.getElem?_eq_getElem (by omega)⟩;intro w9;have k9:Kept Nil w' w9:=(Kept.refl _ _).drew;clear_value w9;have Yy:=kw.tt k9;have En:=rf.tt Yy;refine⟨h.1,⟨h.2.1,Cells.bC (Yy.heap rj (fun h=>h))⟩,?_⟩;refine(hl.same En).load (i:=(i:Int)) (by omega) hy ⟨⟨h.2.ints,y.2.ints⟩,?_⟩;rw [du];refine Split.dec (fun he=>?_) (fun he=>?_)
  ·refine⟨(i:Int),rfl,?_⟩
   have:=hK w9 En;rw [decide_eq_true (by rw [he];exact List.mem_of_getElem? hy)]at this;rw [show decide ((i:Int)>=(0:Int))=true from decide_eq_true (by omega)];exact this
  ·simp only
   rw [gU (x:=(i:Int)+1) (by omega) (by omega)];refine⟨(0,(i:Int)+1),rfl,⟨i+1,rfl,dQ,Yy,?_⟩,by simp only;omega⟩;rw [List.take_add_one,hy];simp only [Option.toList_some,List.mem_append,List.mem_singleton,not_or];exact⟨mP,he⟩
 ·simp only at fV
  rw [aP,aO.dh];refine⟨-1,rfl,?_⟩;have:=hK w' (rf.tt kw);rw [List.take_of_length_le (by omega)]at mP;rw [decide_eq_false mP]at this;exact this
theorem xF{A:Option Addr}{n cx:Nat}{l:List HT}{h:HT}{b:Nat}(hl:HS w A n l)(hb:HS w (some ⟨b,0,none⟩) 1 [h])(hn:n<=100000):
 ∃A' c' w',(Builtin.append_ #[az,az] az #[.slice A n n,.slice (some ⟨b,0,none⟩) 1 cx]).run prog w=.ok (.slice A' (n+1) c') w'/\
  HS w' A' (n+1) (l++ [h])/\n+1<=c'/\(∀a,A'=some a->w.heap.size<=a.block/\a.block<w'.heap.size)/\Kept Nil w w':=by
 have hlen:=hl.len;cases A with
 |none=>
  obtain⟨rfl,rfl⟩:=hl.none;obtain⟨A',c',w',hr,e8,hg,hbk⟩:=cD (cx:=cx) az (bQ.nil w w.heap.size) hb (by omega) (Nat.le_refl _);rw [Nat.zero_add]at hr e8;rw [List.nil_append]at e8;obtain⟨b',rfl⟩:=Row.some e8 (by omega);have vA:=Row.bC e8 (k:=b') rfl;refine⟨some ⟨b',0,Option.none⟩,c',w',hr,bQ.hs e8,?_,fun a ha=>?_,Kept.dM (Kept.refl _ _) hg (fun k hk=>by cases hk)⟩
  ·rcases Row.own e8 with⟨h1,_⟩|⟨_,_,_,_,_,h1,_⟩
   ·cases h1
   ·exact h1
  ·cases ha
   obtain⟨h1,cur,h2⟩:=vA;exact⟨h1,aQ h2⟩
 |some a=>
  obtain⟨i,z,hi,hz,hs,IJ,CL⟩:=ow.inf;have hr:=run_append_grow (P:=prog) (w:=w) az az aj i z ow.oc hi hz a n n (dc l) (by rw [eI,hs,hlen]) hl.cells ⟨b,0,Option.none⟩ 1 cx (dc [h]) (by rw [eI,hs];rfl) hb.cells (by omega) (by omega) (growslice_fits (by omega) (by rw [IJ];omega));refine⟨_,_,_,hr,⟨by simp [hlen],fun j y hj=>⟨_,rfl,?_,?_⟩⟩,grownCap_ge _ _ _ _,fun a' Ae=>?_,?_⟩
  ·have:=aJ w.drew (.cells ((dc l).toArray++(dc [h]).toArray++Builtin.zeroCells z.cells (grownCap w (n+1) n aj-(n+1))) aj)
   exact aQ this
  ·intro q v hq
   rw [a8,a8,Nat.zero_add];have hblk:=aJ w.drew (.cells ((dc l).toArray++(dc [h]).toArray++Builtin.zeroCells z.cells (grownCap w (n+1) n aj-(n+1))) aj);have e:(w.drew.heap.size)=w.heap.size:=rfl;rw [e]at hblk;rw [ay hblk];have h1:=kc hj hq;rw [lL]at h1;have cH:=(lgeS h1).1;rw [Array.getElem?_append_left (by simpa using cH)];simpa using h1
  ·cases Ae
   have:=aJ w.drew (.cells ((dc l).toArray++(dc [h]).toArray++Builtin.zeroCells z.cells (grownCap w (n+1) n aj-(n+1))) aj);exact⟨Nat.le_refl _,aQ this⟩
  ·exact(Kept.refl Nil w).drew.alloc _
end
def gm(D:DG)(h s:HT)(l:List HT):Int:=if dr D h l=0 then(if s∈l then 0 else 2)else dr D h l
theorem o7{D:DG}{h:HT}{l:List HT}(e:dr D h l=0):l9 D h l=D++ [⟨h,de l⟩]:=by unfold l9;rw [if_pos e]
section
variable{w w':World}{S ST:Nat->Prop}{t:Nat}{T:List Tr.Nd}{d:Int}
theorem sh(h:Tr.om w ST t T d):Tr.om w (fun k=>ST k/\k<w.heap.size) t T d:=by
 obtain⟨b,c,L,h⟩:=h;refine⟨b,c,L,{h with gQ:=⟨h.gQ,h.lt⟩,fM:=⟨h.fM,?_⟩,qd:=fun i p hi=>?_}⟩
 ·obtain⟨A,m,hk⟩:=h.qd i p hi
  exact⟨A,m,{hk with jL:=fun k e=>⟨hk.jL k e,let ⟨_,_,hc⟩:=Row.bC hk.row e;aQ hc⟩}⟩
 ·obtain⟨cur,hc⟩:=h.uY
  exact aQ hc
end
section
variable{w w':World}{F:Nat->Prop}{x:Nat}{D:DG}{P:List Int}{m:XM}{K:Value->World->Prop}
theorem Ib{v:World}{hid s:HT}{S2 F2 SO2:Nat->Prop}{ps:List HT}{j:Nat}{mj:DN}{Eo sb:Nat}{b8:Int}{zW:Option Nat}{A7:Option Addr}{n7 c7:Nat}{i7:Int}{s1 s2:Nat}
 (h:XV w F x D P m) (hD:D.length<=5000) (hn:hid∉ids D) (fF:∀p∈ps,p∈ids D) (tp:SS ps) (hj:D[j]? =some mj) (hs:mj.id=s) (Et:s∈ps)
 (iK:v.heap[x]? =some (.cells #[.pointer (some ⟨m.g,0,none⟩),.pointer (some ⟨m.t,0,none⟩),.map (some m.mb),.slice (some ⟨m.ib,0,none⟩) D.length m.ic,.map (some m.cb)] eA (0,0)))
 (ain:w.heap.size<=Eo) (ahj:w.heap.size<=sb) (OI:v.heap[Eo]? =some (.cells hid.1 aj (0,0))) (G5:v.heap[sb]? =some (.cells s.1 aj (0,0)))
 (hG:BY v S2 F2 m.g (D++ [⟨hid,ps⟩])) (hT:Tr.om v m.ST m.t m.T m.d) (hat:IsMap v m.mb (ids D)) (e8:bQ v 0 (some ⟨m.ib,0,none⟩) D.length m.ic (ids D))
 (OW:∃f,fk v m.cb f/\∀y,∃l,nQ v SO2 (D.length+1) (f y) l/\∀c,c∈l↔Mv (D++ [⟨hid,ps⟩]) (P++ [(j:Int)]) y c)
 (xn:w.heap.size<=s1) (Bd:s1<=s2) (Bc:s2<=v.heap.size)
 (P3:∀k,S2 k->(m.SG k\/w.heap.size<=k)/\k<s1) (P4:∀k,F2 k->(F k\/w.heap.size<=k)/\k<s1) (Lb:∀k,SO2 k->m.SO k\/(s2<=k/\k<v.heap.size))
 (kv:Kept (fun k=>m.jL x k) w v)
 (hK:∀u S' F',BX u S' F' x (D++ [⟨hid,ps⟩]) (P++ [(j:Int)])->Kept (fun k=>m.jL x k) w u->(∀k,S' k->m.jL x k\/w.heap.size<=k)->(∀k,F' k->F k\/w.heap.size<=k)->K (.int .i64 0) u):
 aD.PF (some ⟨x,0,none⟩) ⟨Eo,0,none⟩ ⟨sb,0,none⟩ b8 zW A7 n7 c7 i7 i7 K v:=by
 have W:=h.W;have mR:=h.low;have sV:=(lgeS hj).1;have Y6:=h.MO;have ZF:m.own x x:=.inl rfl;have S9:m.own x m.mb:=.inr (.inl rfl);have Ta:m.own x m.ib:=.inr (.inr (.inl rfl));have sU:m.own x m.cb:=.inr (.inr (.inr rfl));obtain⟨PX,Ri,M4,Rh,PW,Rg⟩:=h.ne;unfold aD.PF;intro Dv;have vq:Kept Nil v Dv:=(Kept.refl _ _).drew;clear_value Dv;have c1:Dv.cell? ((⟨x,0,none⟩:Addr).add 1)=some (.pointer (some ⟨m.t,0,none⟩)):=by rw [a8,ay (vq.heap iK (fun h=>h))];rfl
 have c2:Dv.cell? ((⟨x,0,none⟩:Addr).add 2)=some (.map (some m.mb)):=by rw [a8,ay (vq.heap iK (fun h=>h))];rfl
 have Hz:=hat.aC vq (fun h=>h);have lk:=Hz.wk s;rw [<-hs,W.pos_eq hj]at lk;rw [hs]at lk;refine⟨_,c1,_,c2,s.1,⟨s.2.1,Cells.bC (vq.heap G5 (fun h=>h))⟩,_,lk,?_⟩;have UU:=sh (hT.same vq);refine Tr.FM UU h.KC (p:=j) (by omega) (by omega) ⟨h.dl.1,by have:=h.dl.2;omega⟩ fun Du VG T' d' UT HD SV hd' Em abf=>⟨_,_,rfl,?_⟩;have afN:=vq.size;have P2:∀k,VG k->m.ST k\/Dv.heap.size<=k:=fun k hk=>(abf k hk).imp (fun h=>h.1) (fun h=>h);have nST:∀k,(m.ST k/\k<Dv.heap.size)->m.ST k:=fun k h=>h.1;have MM:=Em.heap (vq.heap iK (fun h=>h)) (fun e=>(h.od x ZF).2.1 e.1);intro FG;have El:Kept Nil Du FG:=(Kept.refl _ _).drew;clear_value FG;have FQ:=El.heap MM (fun h=>h);have CT:∀k,m.ST k->k<w.heap.size:=fun k e=>mR k (.inl (.inr (.inl e)));have lox:x<w.heap.size:=mR x (.inl (.inr (.inr (.inr ZF))));have agf:m.mb<w.heap.size:=mR _ (.inl (.inr (.inr (.inr S9))));have agh:m.ib<w.heap.size:=mR _ (.inl (.inr (.inr (.inr Ta))));have Rr:m.cb<w.heap.size:=mR _ (.inl (.inr (.inr (.inr sU))));have sv:=kv.size;have CZ:FG.heap[Eo]? =some (.cells hid.1 aj (0,0)):=El.heap (Em.heap (vq.heap OI (fun h=>h)) (fun e=>by have:=CT _ e.1;omega)) (fun h=>h);have xX:FG.cell? ((⟨x,0,none⟩:Addr).add 2)=some (.map (some m.mb)):=by rw [a8,ay FQ];rfl
 have O6:IsMap FG m.mb (ids D):=(Hz.aC Em (fun e=>(h.od _ S9).2.1 e.1)).aC El (fun h=>h);obtain⟨MF,LI,O5,R0⟩:=O6.put hn;rw [fN,<-Y6]at LI;refine⟨_,xX,hid.1,⟨hid.2.1,Cells.bC CZ⟩,MF,LI,?_⟩;intro Dt;have RZ:Kept Nil MF Dt:=(Kept.refl _ _).drew;clear_value Dt;have xi:=R0.trans RZ (fun _ _ h=>h.elim);have FO:=xi.heap FQ (fun e=>PX e);have c3:∀ {u:World},Kept Nil Dt u->u.cell? ((⟨x,0,none⟩:Addr).add 3)=some (.slice (some ⟨m.ib,0,none⟩) D.length m.ic):=fun k=>by rw [a8,ay (k.heap FO (fun h=>h))];rfl
 have Kc:=xi.heap CZ (fun e=>by omega);refine⟨_,_,_,c3 (Kept.refl _ _),hid.1,⟨hid.2.1,Cells.bC Kc⟩,hid.2.1,?_⟩;intro ye;have JG:Kept Nil Dt ye:=(Kept.refl _ _).alloc _;have UJ:HS ye (some ⟨Dt.heap.size,0,none⟩) 1 [hid]:=iq Dt hid;clear_value ye;have CI:=xi.trans JG (fun _ _ h=>h.elim);have MW:bQ ye 0 (some ⟨m.ib,0,none⟩) D.length m.ic (ids D):=
  Row.aC (Row.aC (Row.aC (Row.aC e8 vq (fun _ _ h=>h)) Em (fun k e e'=>by cases e;exact(h.od _ Ta).2.1 e'.1)) El (fun _ _ h=>h)) CI (fun k e e'=>by cases e;exact Rh e'.symm)
 obtain⟨A',c',Ds,SD,AD,TX,UI⟩:=cD (cx:=1) az MW UJ (by omega) (Nat.zero_le _);have Nt:Kept (· =m.ib) ye Ds:=Kept.grown (Kept.refl _ _) TX (fun k e _=>by cases e;rfl);obtain⟨zZ,rfl⟩:=Row.some AD (by omega);have Ke:zZ=m.ib\/ye.heap.size<=zZ:=by
  rcases UI zZ rfl with e|e
  ·left;simpa [bg]using e.symm
  ·exact .inr e
 have FN:=Nt.heap (JG.heap FO (fun h=>h)) (fun e=>Ri e);refine⟨c3 JG,some ⟨zZ,0,none⟩,_,c',Ds,SD,Is.mk rfl ⟨?_,?_⟩⟩
 ·rw [a8]
  exact dL FN (by simp)
 intro yc;have Vq:yc=Ds.setCell ⟨x,3,none⟩ (.slice (some ⟨zZ,0,none⟩) (D.length+1) c'):=by
  show Ds.setCell ((⟨x,0,none⟩:Addr).add 3) _=_
  rw [a8]
 have Ns:Kept (· =x) Ds yc:=by rw [Vq];exact Kept.setCell (S:=fun k=>k=x) (Kept.refl _ Ds) (p:=⟨x,3,none⟩) (fun _=>rfl) _
 have ML:yc.heap[x]? =some (.cells #[.pointer (some ⟨m.g,0,none⟩),.pointer (some ⟨m.t,0,none⟩),.map (some m.mb),.slice (some ⟨zZ,0,none⟩) (D.length+1) c',.map (some m.cb)] eA (0,0)):=by
  rw [Vq,cV FN 3];rfl
 clear_value yc;have afM:=Em.size;have afL:=El.size;have afK:=CI.size;have afJ:=Nt.size;have afI:=Ns.size;have kC:Kept (fun k=>k=m.ib\/k=x) MF yc:=(((RZ.tt JG).mono (S':=fun k=>k=m.ib\/k=x) (fun _ _ h=>h.elim)).trans Nt (fun _ _ h=>.inl h)).trans Ns (fun _ _ h=>.inr h);have kB:Kept (fun k=>k=m.mb\/k=m.ib\/k=x) Du yc:=((El.mono (S':=fun k=>k=m.mb\/k=m.ib\/k=x) (fun _ _ h=>h.elim)).trans R0 (fun _ _ h=>.inl h)).trans kC (fun _ _ h=>.inr h);have kA:Kept (fun k=>m.ST k\/k=m.mb\/k=m.ib\/k=x) v yc:=((vq.mono (S':=fun k=>m.ST k\/k=m.mb\/k=m.ib\/k=x) (fun _ _ h=>h.elim)).trans Em (fun _ _ h=>.inl h.1)).trans kB (fun _ _ h=>.inr h);have D0:∀k,(k=m.mb\/k=m.ib\/k=x)->m.own x k:=fun k e=>by
  rcases e with e|e|e
  ·exact .inr (.inl e)
  ·exact .inr (.inr (.inl e))
  ·exact .inl e
 have Jb:∀k,m.own x k->k<w.heap.size:=fun k e=>mR k (.inl (.inr (.inr (.inr e))));have Jk:∀k,m.SG k->k<w.heap.size:=fun k e=>mR k (.inl (.inl e));have Gm:∀k,m.SO k->k<w.heap.size:=fun k e=>mR k (.inl (.inr (.inr (.inl e))));have nG:∀k,S2 k->¬(m.ST k\/k=m.mb\/k=m.ib\/k=x):=fun k h1 h2=>by
  obtain⟨h3,_⟩:=P3 k h1;rcases h2 with h2|h2
  ·rcases h3 with h3|h3
   ·exact(h.gt k h3).1 h2
   ·have:=CT k h2;omega
  ·have h4:=D0 k h2
   rcases h3 with h3|h3
   ·exact(h.od k h4).1 h3
   ·have:=Jb k h4;omega
 have nF:∀k,F2 k->¬(m.ST k\/k=m.mb\/k=m.ib\/k=x):=fun k h1 h2=>by
  obtain⟨h3,_⟩:=P4 k h1;rcases h2 with h2|h2
  ·rcases h3 with h3|h3
   ·exact(h.fd k h3).1 h2
   ·have:=CT k h2;omega
  ·have h4:=D0 k h2
   rcases h3 with h3|h3
   ·exact(h.od k h4).2.2.2 h3
   ·have:=Jb k h4;omega
 have Yb:∀k,SO2 k->¬(m.ST k\/k=m.mb\/k=m.ib\/k=x):=fun k h1 h2=>by
  rcases Lb k h1 with h3|⟨h3,_⟩
  ·rcases h2 with h2|h2
   ·exact h.to k h2 h3
   ·exact(h.od k (D0 k h2)).2.2.1 h3
  ·rcases h2 with h2|h2
   ·have:=CT k h2;omega
   ·have:=Jb k (D0 k h2);omega
 have nT:∀k,(VG k/\k<Du.heap.size)->¬(k=m.mb\/k=m.ib\/k=x):=fun k h1 h2=>by
  have h4:=D0 k h2;rcases P2 k h1.1 with h3|h3
  ·exact(h.od k h4).2.1 h3
  ·have:=Jb k h4;omega
 refine hK yc (fun k=>(S2 k\/(VG k/\k<Du.heap.size)\/SO2 k\/(k=x\/k=m.mb\/k=zZ\/k=m.cb))) F2 ⟨{m with ib:=zZ,ic:=c',T:=T',d:=d',SG:=S2,ST:=fun k=>VG k/\k<Du.heap.size,SO:=SO2},?_,fun k e=>e⟩ ?_ ?_ ?_
 ·refine⟨?_,hG.aC kA nG nF,(sh UT).aC kB nT,HD,?_,?_,?_,?_,?_,?_,?_,?_,?_,?_,?_,?_,?_⟩
  ·rw [List.length_append];exact ML
  ·show Tr.bP T'=_
   rw [SV,h.bP]
  ·have:=h.dl
   simp only [List.length_append,List.length_singleton];show 0<=d'/\d'<=_
   omega
  ·rw [kr]
   exact O5.aC kC (fun e=>e.elim (fun e=>Rh e) (fun e=>PX e.symm))
  ·rw [kr,List.length_append]
   refine Row.aC AD Ns (fun k e e'=>?_);have e1:zZ=k:=by simpa [bg]using e
   rcases Ke with e|e
   ·exact Ri (e'.symm.trans (e1.symm.trans e))
   ·omega
  ·obtain⟨f,hf,hc⟩:=OW
   refine⟨f,hf.aC kA (fun e=>?_),fun y=>?_⟩
   ·rcases e with e|e|e|e
    ·exact(h.od _ sU).2.1 e
    ·exact PW e.symm
    ·exact Rg e.symm
    ·exact M4 e.symm
   ·obtain⟨l,h1,h2⟩:=hc y
    refine⟨l,?_,h2⟩;rw [List.length_append];exact h1.aC kA Yb
  ·exact h.gV.snoc hj (by rw [hs];exact Et) W.pos
  ·exact W.snoc (nd:=⟨hid,ps⟩) hn fF tp
  ·intro k h1
   obtain⟨h3,h4⟩:=P3 k h1;refine⟨fun h2=>?_,fun h2=>?_⟩
   ·rcases P2 k h2.1 with h5|h5
    ·exact nG k h1 (.inl h5)
    ·omega
   ·rcases Lb k h2 with h5|h5
    ·rcases h3 with h3|h3
     ·exact(h.gt k h3).2 h5
     ·have:=Gm k h5;omega
    ·omega
  ·intro k h1 h2
   rcases P2 k h1.1 with h5|h5
   ·exact Yb k h2 (.inl h5)
   ·rcases Lb k h2 with h6|h6
    ·have:=Gm k h6;omega
    ·omega
  ·intro k h1
   obtain⟨h3,h4⟩:=P4 k h1;refine⟨fun h2=>?_,fun h2=>?_⟩
   ·rcases P2 k h2.1 with h5|h5
    ·exact nF k h1 (.inl h5)
    ·omega
   ·rcases Lb k h2 with h5|h5
    ·rcases h3 with h3|h3
     ·exact(h.fd k h3).2 h5
     ·have:=Gm k h5;omega
    ·omega
  ·intro k e
   have e':(k=m.mb\/k=m.ib\/k=x)\/(k=m.cb)\/(k=zZ/\ye.heap.size<=zZ):=by
    rcases e with e|e|e|e
    ·exact .inl (.inr (.inr e))
    ·exact .inl (.inl e)
    ·rcases Ke with h5|h5
     ·exact .inl (.inr (.inl (e.trans h5)))
     ·exact .inr (.inr ⟨e,h5⟩)
    ·exact .inr (.inl e)
   have big:ye.heap.size<=k->¬S2 k/\¬(VG k/\k<Du.heap.size)/\¬SO2 k/\¬F2 k:=fun hb=>
    ⟨fun h1=>by have:=(P3 k h1).2;omega,fun h1=>by have:=h1.2;omega,fun h1=>(Lb k h1).elim (fun h2=>by have:=Gm k h2;omega) (fun h2=>by omega),fun h1=>by have:=(P4 k h1).2;omega⟩
   rcases e' with e'|e'|⟨rfl,e'⟩
   ·exact⟨fun h1=>nG k h1 (.inr e'),fun h1=>nT k h1 e',fun h1=>Yb k h1 (.inr e'),fun h1=>nF k h1 (.inr e')⟩
   ·subst e'
    have WG:=h.od _ sU;refine⟨fun h1=>?_,fun h1=>?_,fun h1=>?_,fun h1=>?_⟩
    ·rcases(P3 _ h1).1 with h2|h2
     ·exact WG.1 h2
     ·omega
    ·rcases P2 _ h1.1 with h2|h2
     ·exact WG.2.1 h2
     ·omega
    ·rcases Lb _ h1 with h2|h2
     ·exact WG.2.2.1 h2
     ·omega
    ·rcases(P4 _ h1).1 with h2|h2
     ·exact WG.2.2.2 h2
     ·omega
   ·exact big e'
  ·show x≠m.mb/\x≠zZ/\x≠m.cb/\m.mb≠zZ/\m.mb≠m.cb/\zZ≠m.cb
   rcases Ke with h5|h5
   ·rw [h5];exact⟨PX,Ri,M4,Rh,PW,Rg⟩
   ·exact⟨PX,by omega,M4,by omega,PW,by omega⟩
  ·intro k e
   have hblk:=(Row.bC AD (k:=zZ) rfl).2;obtain⟨cur,oQ⟩:=hblk;have lib:=aQ oQ;rcases e with e|e
   ·rcases e with e|e|e|e
    ·have:=(P3 k e).2;omega
    ·have:=e.2;omega
    ·rcases Lb k e with h2|h2
     ·have:=Gm k h2;omega
     ·omega
    ·rcases e with e|e|e|e
     ·omega
     ·have e:k=m.mb:=e;omega
     ·have e:k=zZ:=e;omega
     ·have e:k=m.cb:=e;omega
   ·have:=(P4 k e).2;omega
 ·refine kv.trans kA (fun k _ e=>?_)
  rcases e with e|e
  ·exact .inr (.inl e)
  ·exact .inr (.inr (.inr (D0 k e)))
 ·intro k e
  rcases e with e|e|e|e
  ·exact(P3 k e).1.imp (fun h=>.inl h) (fun h=>h)
  ·rcases P2 k e.1 with h5|h5
   ·exact .inl (.inr (.inl h5))
   ·exact .inr (by omega)
  ·rcases Lb k e with h5|h5
   ·exact .inl (.inr (.inr (.inl h5)))
   ·exact .inr (by omega)
  ·rcases e with e|e|e|e
   ·exact .inl (.inr (.inr (.inr (.inl e))))
   ·exact .inl (.inr (.inr (.inr (.inr (.inl e)))))
   ·rcases Ke with h5|h5
    ·exact .inl (.inr (.inr (.inr (.inr (.inr (.inl (e.trans h5)))))))
    ·exact .inr (by omega)
   ·exact .inl (.inr (.inr (.inr (.inr (.inr (.inr e))))))
 ·exact fun k e=>(P4 k e).1
end
section
variable{w w':World}{F S:Nat->Prop}{x:Nat}{D:DG}{P:List Int}{m:XM}{K:Value->World->Prop}
theorem E9{u v:World}{hid s:HT}{D':DG}{ps pl:List HT}{Eo ob i:Nat}{A7:Option Addr}{c7:Nat}{b8:Int}{sb:Addr}{f0:HT->Option Value}{Q:aN}{V1:Option Nat}
 (h:XV w F x D P m) (hD:D.length<=5000) (hwu:w.heap.size<=u.heap.size)
 (iK:u.heap[x]? =some (.cells #[.pointer (some ⟨m.g,0,none⟩),.pointer (some ⟨m.t,0,none⟩),.map (some m.mb),.slice (some ⟨m.ib,0,none⟩) D.length m.ic,.map (some m.cb)] eA (0,0)))
 (OI:u.heap[Eo]? =some (.cells hid.1 aj (0,0))) (ahR:w.heap.size<=Eo) (hold:fk u ob f0) (ahO:w.heap.size<=ob) (ZI:V1=some ob)
 (hf0:∀y,(y=s\/eB D y s->f0 y=some (.agg #[.bool true]))/\(¬(y=s\/eB D y s)->f0 y=none))
 (I5:bQ u w.heap.size A7 pl.length c7 pl) (pH:pl.length<=10000)
 (kv:Kept (· =m.cb) u v) (hi:i<=pl.length) {Z:HT->HT->Prop}
 (OW:∃f,fk v m.cb f/\∀y,∃l,nQ v (fun k=>m.SO k\/(u.heap.size<=k/\k<v.heap.size)) (D.length+if y∈pl.take i then 1 else 0) (f y) l/\∀c,c∈l↔Mv D P y c\/(c=hid/\y∈pl.take i/\y≠s/\¬eB D y s)) (eQ:pl.Nodup)
 (hQ:∀v',Kept (· =m.cb) u v'->(∃f,fk v' m.cb f/\∀y,∃l,nQ v' (fun k=>m.SO k\/(u.heap.size<=k/\k<v'.heap.size)) (D.length+if y∈pl.take (i+1)then 1 else 0) (f y) l/\∀c,c∈l↔Mv D P y c\/(c=hid/\y∈pl.take (i+1)/\y≠s/\¬eB D y s))->i<pl.length->
   Q .normal (aD.e2 (some ⟨x,0,none⟩) ⟨Eo,0,none⟩ sb b8 V1 A7 pl.length c7 (pl.length:Int) ((i:Int)+1)) v')
 (hE:i=pl.length->Q (.exit 3) (aD.e2 (some ⟨x,0,none⟩) ⟨Eo,0,none⟩ sb b8 V1 A7 pl.length c7 (pl.length:Int) (i:Int)) v):
 aD.B2 (some ⟨x,0,none⟩) ⟨Eo,0,none⟩ sb b8 V1 A7 pl.length c7 (pl.length:Int) (i:Int) Q v:=by
 subst ZI;have ZF:m.own x x:=.inl rfl;have sU:m.own x m.cb:=.inr (.inr (.inr rfl));obtain⟨PX,Ri,M4,Rh,PW,Rg⟩:=h.ne;have Rr:m.cb<w.heap.size:=h.low _ (.inl (.inr (.inr (.inr sU))));have sv:=kv.size;unfold aD.B2;refine Split.dec (fun jb=>?_) (fun fV=>hE (by omega));have dQ:i<pl.length:=by omega
 obtain⟨y,hy⟩:∃y,pl[i]? =some y:=⟨_,List.getElem?_eq_getElem dQ⟩;have Lr:y∉pl.take i:=fun hm=>by
  obtain⟨j,hj⟩:=List.mem_iff_getElem?.1 hm;rw [List.getElem?_take]at hj;split at hj
  ·rename_i cH
   have h1:=jY 0 j eQ hj;rw [jY 0 i eQ hy]at h1;simp only [Option.some.injEq]at h1;omega
  ·cases hj
 have MU:HS v A7 pl.length pl:=bQ.hs (Row.aC I5 kv (fun k hk e=>by have:=(Row.bC I5 hk).1;omega));refine MU.load (i:=(i:Int)) (by omega) (by rw [Int.toNat_natCast];exact hy) ?_;intro w81;obtain⟨qR,iD,iH⟩:=gg (w:=v) (z:=(#[.int .u8 0,.int .u8 0,.int .u8 0,.int .u8 0,.int .u8 0,.int .u8 0,.int .u8 0,.int .u8 0,.int .u8 0,.int .u8 0,.int .u8 0,.int .u8 0,.int .u8 0,.int .u8 0,.int .u8 0,.int .u8 0,.int .u8 0,.int .u8 0,.int .u8 0,.int .u8 0,.int .u8 0,.int .u8 0,.int .u8 0,.int .u8 0,.int .u8 0,.int .u8 0,.int .u8 0,.int .u8 0,.int .u8 0,.int .u8 0,.int .u8 0,.int .u8 0]:Array Value)) (cs:=y.1) (t:=aj) (by rw [y.2.1];rfl);refine⟨⟨y.2.1,y.2.one,fun j hj=>qR j (by rw [y.2.1];exact hj)⟩,?_⟩;intro MD
 replace iD:MD.heap[v.heap.size]? =some (.cells y.1 aj (0,0)):=iD
 replace iH:Kept Nil v MD:=iH
 clear_value MD;have Wh:Kept (· =m.cb) u MD:=kv.trans iH (fun _ _ h=>h.elim);have Om:fk MD ob f0:=hold.aC Wh (fun e=>by omega);have lk:=Om.look Gh y;obtain⟨f,hf,hc⟩:=OW;have T7:=hf.aC iH (fun h=>h);obtain⟨l,qh,Hj⟩:=hc y;have Zc:=iH.size;have Mq:∀ {v':World} {N N':Nat} {a:Option Value} {l:List HT},v.heap.size<=v'.heap.size->N<=N'->nQ v' (fun k=>m.SO k\/(u.heap.size<=k/\k<v.heap.size)) N a l->nQ v' (fun k=>m.SO k\/(u.heap.size<=k/\k<v'.heap.size)) N' a l:=fun hv hN zm=>by
  rcases zm with zm|⟨A,n,c,h1,h2,h3,h4,h5⟩
  ·exact .inl zm
  ·exact .inr ⟨A,n,c,h1,h2,h3,by omega,fun a ha=>(h5 a ha).imp (fun h=>h) (fun h=>⟨h.1,by omega⟩)⟩
 have Mr:∀ {v':World} {N:Nat} {a:Option Value} {l:List HT},Kept (· =m.cb) v v'->nQ v (fun k=>m.SO k\/(u.heap.size<=k/\k<v.heap.size)) N a l->nQ v' (fun k=>m.SO k\/(u.heap.size<=k/\k<v.heap.size)) N a l:=fun hk zm=>zm.aC hk (fun k mw e=>by
  rcases mw with h1|h1
  ·exact(h.od _ sU).2.2.1 (e▸h1)
  ·omega)
 refine⟨y.1,⟨y.2.1,Cells.bC iD⟩,?_⟩;by_cases jf:y=s\/eB D y s
 ·rw [(hf0 y).1 jf]at lk
  refine⟨_,lk,true,rfl,Split.no rfl ?_⟩;rw [dq (n:=(i:Int)) (by omega) (by omega)];refine hQ MD Wh ⟨f,T7,fun z=>?_⟩ dQ;obtain⟨lz,h1,h2⟩:=hc z;refine⟨lz,Mq Zc (by
   by_cases hz:z∈pl.take i
   ·rw [if_pos hz,if_pos ((bG hy).2 (.inl hz))];exact Nat.le_refl _
   ·rw [if_neg hz];omega) (Mr (iH.mono (fun _ _ h=>h.elim)) h1),fun c=>?_⟩
  rw [h2,bG hy];constructor
  ·rintro(h3|⟨h3,h4,h5,h6⟩)
   ·exact .inl h3
   ·exact .inr ⟨h3,.inl h4,h5,h6⟩
  ·rintro(h3|⟨h3,h4|rfl,h5,h6⟩)
   ·exact .inl h3
   ·exact .inr ⟨h3,h4,h5,h6⟩
   ·exact absurd jf (fun e=>e.elim h5 h6)
 ·rw [(hf0 y).2 jf]at lk
  refine⟨_,lk,false,rfl,Split.yes rfl ?_⟩;intro B8;have RM:Kept Nil MD B8:=(Kept.refl _ _).drew;clear_value B8;have Ym:=iH.tt RM;have Hs:=RM.heap iD (fun h=>h);have sM:∀ {q:World},Kept Nil B8 q->q.cell? ((⟨x,0,none⟩:Addr).add 4)=some (.map (some m.cb)):=fun k=>by
   rw [a8,ay (k.heap (RM.heap (Wh.heap iK (fun e=>M4 e)) (fun h=>h)) (fun h=>h))];rfl
  have mi:∀ {q:World},Kept Nil B8 q->∃cs:Array Value,(.agg y.1:Value)=.agg cs/\cs.size=32/\Cells q (⟨v.heap.size,0,none⟩:Addr) cs:=fun k=>⟨y.1,rfl,y.2.1,Cells.bC (k.heap Hs (fun h=>h))⟩;have LZ:B8.heap[Eo]? =some (.cells hid.1 aj (0,0)):=RM.heap (Wh.heap OI (fun e=>by omega)) (fun h=>h);have aaD:∀ {q:World},Kept Nil B8 q->∃cs:Array Value,(.agg hid.1:Value)=.agg cs/\cs.size=32/\Cells q (⟨Eo,0,none⟩:Addr) cs:=fun k=>⟨hid.1,rfl,hid.2.1,Cells.bC (k.heap LZ (fun h=>h))⟩;have T6:=T7.aC RM (fun h=>h);obtain⟨A,n,c,fX,Ez,z6,hnN⟩:∃(A:Option Addr) (n c:Nat),(f y).getD (.slice none 0 0)=.slice A n c/\n<=c/\HS v A n l/\n<=D.length:=by
   rcases qh with⟨h1,h2⟩|⟨A,n,c,h1,h2,h3,h4,_⟩
   ·exact⟨none,0,0,by rw [h1];rfl,Nat.le_refl _,by rw [h2];exact HS.nil _ _,by omega⟩
   ·rw [if_neg Lr]at h4
    exact⟨A,n,c,by rw [h1];rfl,h2,h3,by omega⟩
  have lk2:∀ {q:World},Kept Nil B8 q->(Instr.lookup fZ (.map (some m.cb)) (.agg y.1) false).run prog q=.ok (.slice A n c) q:=fun k=>by
   have:=(T6.aC k (fun h=>h)).look xf y;rw [fX]at this;exact this
  have fin:∀ {q:World} {bb:Nat},Kept Nil B8 q->HS q (some ⟨bb,0,none⟩) 1 [hid]->
   ∃(A':Option Addr) (n' c':Nat) (q2:World),(Builtin.append_ #[az,az] az #[.slice A n n,.slice (some ⟨bb,0,none⟩) 1 1]).run prog q=.ok (.slice A' n' c') q2/\(∃cs:Array Value,(.agg y.1:Value)=.agg cs/\cs.size=32/\Cells q2 (⟨v.heap.size,0,none⟩:Addr) cs)/\q2.cell? ((⟨x,0,none⟩:Addr).add 4)=some (.map (some m.cb))/\
    ∃q3:World,(Instr.mapUpdate fZ (.map (some m.cb)) (.agg y.1) (.slice A' n' c')).run prog q2=.ok () q3/\Q .normal (aD.e2 (some ⟨x,0,none⟩) ⟨Eo,0,none⟩ sb b8 (some ob) A7 pl.length c7 (pl.length:Int) (i64.wrap ((i:Int)+(1:Int)))) q3:=by
   intro q bb kq vA;have Yl:=Ym.tt kq;obtain⟨A',c',q2,hr,Bd,L6,kZ,kq2⟩:=xF (cx:=1) (z6.same Yl) vA (by omega);have k2:=kq.tt kq2;obtain⟨q3,CO,hf3,k3⟩:=(T6.aC k2 (fun h=>h)).put xf y (.slice A' (n+1) c');refine⟨A',_,c',q2,hr,mi k2,sM k2,q3,CO,?_⟩;rw [dq (n:=(i:Int)) (by omega) (by omega)];have RC:=Yl.tt kq2;have RB:Kept (· =m.cb) v q3:=(RC.mono (S':=(· =m.cb)) (fun _ _ h=>h.elim)).tt k3;have sq2:=RC.size;have sq3:=k3.size;have svq:=Yl.size;refine hQ q3 (kv.tt RB) ⟨_,hf3,fun z=>?_⟩ dQ;by_cases hz:z=y
   ·subst hz
    refine⟨l++ [hid],.inr ⟨A',n+1,c',by simp,L6,Bd.aC k3 (fun a ha e=>by have:=(kZ a ha).1;omega),?_,fun a ha=>.inr ?_⟩,fun c=>?_⟩
    ·rw [if_pos ((bG hy).2 (.inr rfl))];omega
    ·have:=kZ a ha;omega
    ·rw [List.mem_append,List.mem_singleton,Hj,bG hy]
     constructor
     ·rintro((h3|⟨h3,h4,h5,h6⟩)|h3)
      ·exact .inl h3
      ·exact .inr ⟨h3,.inl h4,h5,h6⟩
      ·exact .inr ⟨h3,.inr rfl,fun e=>jf (.inl e),fun e=>jf (.inr e)⟩
     ·rintro(h3|⟨h3,h4,h5,h6⟩)
      ·exact .inl (.inl h3)
      ·exact .inr h3
   ·obtain⟨lz,h1,h2⟩:=hc z
    refine⟨lz,?_,fun c=>?_⟩
    ·simp only [hz,if_false]
     refine Mq (by omega) ?_ (Mr RB h1);by_cases Sc:z∈pl.take i
     ·rw [if_pos Sc,if_pos ((bG hy).2 (.inl Sc))];exact Nat.le_refl _
     ·rw [if_neg Sc];omega
    ·rw [h2,bG hy]
     constructor
     ·rintro(h3|⟨h3,h4,h5,h6⟩)
      ·exact .inl h3
      ·exact .inr ⟨h3,.inl h4,h5,h6⟩
     ·rintro(h3|⟨h3,h4|h4,h5,h6⟩)
      ·exact .inl h3
      ·exact .inr ⟨h3,h4,h5,h6⟩
      ·exact absurd h4 hz
  refine⟨_,sM (Kept.refl _ _),y.1,⟨y.2.1,Cells.bC Hs⟩,_,sM (Kept.refl _ _),y.1,⟨y.2.1,Cells.bC Hs⟩,A,n,c,lk2 (Kept.refl _ _),hid.1,⟨hid.2.1,Cells.bC LZ⟩,?_,⟨hid.2.1,?_⟩⟩
  ·refine wI Ez ⟨A,n,n,rfl,aaD (Kept.refl _ _),mi (Kept.refl _ _),sM (Kept.refl _ _),hid.2.1,?_⟩
   intro Dw;have AT:Kept Nil B8 Dw:=(Kept.refl _ _).alloc _;have UL:HS Dw (some ⟨B8.heap.size,0,none⟩) 1 [hid]:=iq B8 hid;clear_value Dw;exact⟨mi AT,sM AT,fin AT UL⟩
  ·intro MG
   have y7:Kept Nil B8 MG:=(Kept.refl _ _).alloc _;have UK:HS MG (some ⟨B8.heap.size,0,none⟩) 1 [hid]:=iq B8 hid;clear_value MG;exact⟨lk2 y7,mi y7,sM y7,mi y7,sM y7,wI Ez ⟨A,n,n,rfl,mi y7,sM y7,fin y7 UK⟩⟩
end
def mX(D:DG)(h s:HT)(l:List HT):DG:=if gm D h s l=0 then D++ [⟨h,de l⟩]else D
def mW(D:DG)(P:List Int)(h s:HT)(l:List HT):List Int:=if gm D h s l=0 then P++ [(((pos s (ids D) 0).getD 0:Nat):Int)]else P
section
variable{w w':World}{F S:Nat->Prop}{x:Nat}{D:DG}{P:List Int}{m:XM}{K:Value->World->Prop}
theorem DW(h:XV w F x D P m)(hD:D.length<=5000)(hT:tc w)(IK:¬m.SG (Tryz.jl.g 1)){A:Option Addr}{n cx:Nat}{lp:List HT}(hl:HS w A n lp)(hn:n<=5000)(hid s:HT)
 (mP:∀v,Kept Nil w v->gm D hid s lp≠0->K (.int .i64 (gm D hid s lp)) v)
 (za:∀u S' F',BX u S' F' x (mX D hid s lp) (mW D P hid s lp)->Kept (fun k=>m.jL x k) w u->(∀k,S' k->m.jL x k\/w.heap.size<=k)->(∀k,F' k->F k\/w.heap.size<=k)->gm D hid s lp=0->K (.int .i64 0) u):
 bk prog aD.id #[.pointer (some ⟨x,0,none⟩),.agg hid.1,.agg s.1,.slice A n cx] w K:=by
 have hlen:=hl.len;have W:=h.W;refine aD.of ?_;unfold aD.W;intro w5 w6;have k5:Kept Nil w w5:=(Kept.refl _ _).alloc _;have Kf:w5.heap[w.heap.size]? =some (.cells hid.1 aj (0,0)):=aJ w _;have k6:Kept Nil w5 w6:=(Kept.refl _ _).alloc _;have JO:w6.heap[w5.heap.size]? =some (.cells s.1 aj (0,0)):=aJ w5 _;clear_value w6;have Wy:=k6.heap Kf (fun h=>h);have mM:=k5.tt k6;have s5:=k5.size;have l5:=aQ Kf;obtain⟨bl,c,mbg,M,G⟩:=h.G;have hG:∀ {v:World},Kept Nil w v->GV v m.SG F m.g D (fY D) bl c mbg M:=fun k=>G.same k;refine sx (h.same mM) ⟨true,rfl,Split.no rfl ⟨_,(h.same mM).c0,hid.1,⟨hid.2.1,Cells.bC Wy⟩,?_⟩⟩;refine tw (hG mM) hid fun hU Ix=>⟨_,rfl,?_⟩;have JI:=mM.tt Ix;by_cases fF:hid∈ids D
 ·have e:gm D hid s lp=7:=by simp [gm,dr,fF]
  have:=mP hU JI (by rw [e];decide);rw [e]at this;exact Split.yes (decide_eq_true fF) this
 refine Split.no (decide_eq_false fF) ?_;by_cases h0:n=0
 ·have el:lp= []:=List.length_eq_zero_iff.1 (by omega)
  have e:gm D hid s lp=9:=by subst el;simp [gm,dr,fF,I1]
  have:=mP hU JI (by rw [e];decide);rw [e]at this;exact Split.yes (by simp [h0]) this
 refine Split.no (by simp [h0]) ?_;refine gK (hl.same JI) (by omega) fun A17 c17 vR acP GH=>⟨A17,_,c17,rfl,?_⟩;have JH:=JI.tt GH;have fC:lp≠ []:=fun e=>h0 (by rw [<-hlen,e];rfl);by_cases z6:¬(de lp).length=n
 ·have e:gm D hid s lp=9:=by
   have h1:(de lp).length=0\/(de lp).length≠lp.length:=.inr (by omega);have h2:dr D hid lp=9:=by unfold dr;rw [if_neg fF,if_pos h1]
   simp [gm,h2]
  have:=mP vR JH (by rw [e];decide);rw [e]at this;exact Split.yes (by simp only [bne_iff_ne,ne_eq];omega) this
 replace z6:=Classical.not_not.1 z6
 refine Split.no (by rw [z6];simp) ?_;refine pk (h.same JH) (hl.same JH) (by omega) fun Dr zY=>⟨_,rfl,?_⟩;have Nx:=JH.tt zY;have Ql:¬((de lp).length=0\/(de lp).length≠lp.length):=by omega
 by_cases cY:¬∀p∈lp,p∈ids D
 ·have hex:∃p∈de lp,p∉ids D:=Classical.byContradiction fun hc=>cY fun p hp=>Classical.byContradiction fun hq=>hc ⟨p,df.2 hp,hq⟩
  have e:gm D hid s lp=6:=by
   have:dr D hid lp=6:=by unfold dr;rw [if_neg fF,if_neg Ql,if_pos hex]
   simp [gm,this]
  have:=mP Dr Nx (by rw [e];decide);rw [e]at this;exact Split.yes (by rw [decide_eq_false cY];rfl) this
 replace cY:=Classical.not_not.1 cY
 refine Split.no (by rw [decide_eq_true cY];rfl) ?_;have aaK:¬∃p∈de lp,p∉ids D:=fun⟨p,hp,hq⟩=>hq (cY p (df.1 hp));have eC:dr D hid lp=0:=by unfold dr;rw [if_neg fF,if_neg Ql,if_neg aaK]
 have RO:=(Ix.tt GH).tt zY;refine⟨s.1,⟨s.2.1,Cells.bC (RO.heap JO (fun h=>h))⟩,?_⟩;refine vD s (hl.same Nx) (by omega) fun la pQ=>⟨_,rfl,?_⟩;have AX:=Nx.tt pQ;by_cases vf:¬s∈lp
 ·have e:gm D hid s lp=2:=by simp [gm,eC,vf]
  have:=mP la AX (by rw [e];decide);rw [e]at this;exact Split.yes (by rw [decide_eq_false vf];rfl) this
 replace vf:=Classical.not_not.1 vf
 refine Split.no (by rw [decide_eq_true vf];rfl) ?_;have eX:gm D hid s lp=0:=by simp [gm,eC,vf]
 have Jy:=RO.tt pQ;obtain⟨mj,Ou,Ot⟩:=dt.1 (cY s vf);obtain⟨j,hj⟩:=List.mem_iff_getElem?.1 Ou;have eP:mW D P hid s lp=P++ [(j:Int)]:=by
  unfold mW;rw [if_pos eX,<-Ot,W.pos_eq hj];rfl
 have eD:mX D hid s lp=D++ [⟨hid,de lp⟩]:=by unfold mX;rw [if_pos eX]
 intro pW;have Ek:Kept Nil la pW:=(Kept.refl _ _).alloc _;have ZY:fk pW la.heap.size (fun _=>none):=fk.new la;clear_value pW;have G8:=(Jy.tt Ek).heap JO (fun h=>h);obtain⟨Fj,Zq,Tu,GB⟩:=ZY.put Gh s (.agg #[.bool true]);refine⟨s.1,⟨s.2.1,Cells.bC G8⟩,Fj,Zq,?_⟩;have ob0:w5.heap.size<la.heap.size:=by have:=aQ JO;have:=Jy.size;omega
 have Zd:=GB.heap G8 (fun e=>by omega);refine⟨s.1,⟨s.2.1,Cells.bC Zd⟩,s.2.1,?_⟩;intro PU;have YB:Kept Nil Fj PU:=(Kept.refl _ _).alloc _;have YQ:HS PU (some ⟨Fj.heap.size,0,none⟩) 1 [s]:=iq Fj s;clear_value PU;have afS:=AX.size;have GC:Kept Nil la PU:=(Ek.trans GB (fun k hk e=>by omega)).tt YB;have Nv:=AX.tt GC;refine uQ (hG Nv) W (by omega) (hT.same Nv) YQ (by omega) fun A32 Px ti K1 Fm=>⟨A32,_,Px,rfl,?_⟩;have YC:=Nv.tt Fm;have ZW:fk ti la.heap.size (fun z=>if z=s then some (.agg #[.bool true])else none):=(Tu.aC YB (fun h=>h)).aC Fm (fun h=>h);have p1:=jK D fun a=>∃z∈ [s],eB D a z
 change (cy D [s]).length<=_ at p1
 have acJ:=GC.size;have ob1:=Tu.lt;have s30:=YB.size;have LL:∀y,y∈cy D [s]↔eB D y s:=fun y=>by
  unfold cy;rw [iw];constructor
  ·rintro⟨_,z,hz,e⟩
   rw [List.mem_singleton]at hz
   rwa [hz]at e
  ·exact fun e=>⟨(e.mem W).1,s,by simp,e⟩
 have agp:∀k,k=la.heap.size->¬k<w.heap.size:=fun k e=>by omega
 refine aD.cf (I:=fun i v=>∃(q:Nat) (f:HT->Option Value),i=(q:Int)/\q<=(cy D [s]).length/\fk v la.heap.size f/\(∀y,(y=s\/y∈(cy D [s]).take q->f y=some (.agg #[.bool true]))/\(¬(y=s\/y∈(cy D [s]).take q)->f y=none))/\Kept (· =la.heap.size) ti v)
  (μ:=fun i _=>(((cy D [s]).length:Int)-i).toNat) (s:=0) ⟨0,_,rfl,Nat.zero_le _,ZW,fun y=>⟨fun e=>by
    rcases e with e|e
    ·rw [if_pos e]
    ·simp at e,fun e=>if_neg fun e'=>e (.inl e')⟩,Kept.refl _ _⟩ ?_
 rintro i v ⟨q,f,rfl,hq,hmv,TY,kv⟩;have AU:Kept Nil w v:=YC.trans kv (fun k hk e=>by omega);refine Split.dec (fun jb=>?_) (fun fV=>?_)
 ·have dQ:q<(cy D [s]).length:=by omega
  obtain⟨y,hy⟩:∃y,(cy D [s])[q]? =some y:=⟨_,List.getElem?_eq_getElem dQ⟩;have MU:=bQ.hs (Row.aC K1 kv (fun k hk e=>by have:=(Row.bC K1 hk).1;omega));refine MU.load (i:=(q:Int)) (by omega) (by rw [Int.toNat_natCast];exact hy) ?_;intro Fg;obtain⟨qR,iD,iH⟩:=gg (w:=v) (z:=(#[.int .u8 0,.int .u8 0,.int .u8 0,.int .u8 0,.int .u8 0,.int .u8 0,.int .u8 0,.int .u8 0,.int .u8 0,.int .u8 0,.int .u8 0,.int .u8 0,.int .u8 0,.int .u8 0,.int .u8 0,.int .u8 0,.int .u8 0,.int .u8 0,.int .u8 0,.int .u8 0,.int .u8 0,.int .u8 0,.int .u8 0,.int .u8 0,.int .u8 0,.int .u8 0,.int .u8 0,.int .u8 0,.int .u8 0,.int .u8 0,.int .u8 0,.int .u8 0]:Array Value)) (cs:=y.1) (t:=aj) (by rw [y.2.1];rfl);refine⟨⟨y.2.1,y.2.one,fun j hj=>qR j (by rw [y.2.1];exact hj)⟩,?_⟩;intro XB
  replace iD:XB.heap[v.heap.size]? =some (.cells y.1 aj (0,0)):=iD
  replace iH:Kept Nil v XB:=iH
  clear_value XB;obtain⟨zT,Oj,ZU,Iu⟩:=(hmv.aC iH (fun h=>h)).put Gh y (.agg #[.bool true]);refine⟨y.1,⟨y.2.1,Cells.bC iD⟩,zT,Oj,?_⟩;rw [dq (n:=(q:Int)) (by omega) (by omega)];refine⟨(q:Int)+1,rfl,⟨q+1,_,rfl,dQ,ZU,fun z=>?_,(kv.trans iH (fun _ _ h=>h.elim)).tt Iu⟩,by simp only;omega⟩;rw [bG hy];constructor
  ·intro e
   by_cases hz:z=y
   ·rw [if_pos hz]
   ·rw [if_neg hz]
    exact(TY z).1 (e.imp (fun h=>h) (fun h=>h.resolve_right hz))
  ·intro e
   rw [if_neg (fun hz=>e (.inr (.inr hz)))];exact(TY z).2 (fun e'=>e (e'.imp (fun h=>h) (fun h=>.inl h)))
 ·have SJ:q=(cy D [s]).length:=by omega
  subst SJ;rw [List.take_of_length_le (Nat.le_refl _)]at TY;rw [aP,aD.My];unfold aD.Fb;have GA:Kept (· =la.heap.size) la v:=((GC.tt Fm).mono (S':=(· =la.heap.size)) (fun _ _ h=>h.elim)).tt kv;have Wx:v.heap[w.heap.size]? =some (.cells hid.1 aj (0,0)):=GA.heap (Jy.heap Wy (fun h=>h)) (fun e=>by omega);have Ob:v.heap[w5.heap.size]? =some (.cells s.1 aj (0,0)):=GA.heap (Jy.heap JO (fun h=>h)) (fun e=>by omega);have sv:=AU.size;have s2v:=GA.size;refine⟨hid.1,⟨hid.2.1,Cells.bC Wx⟩,?_⟩;refine KG (hG AU) W (by omega) (hl.same AU) (by omega) hid fun Ff S2 F2 U4 Eh Pf Pk=>⟨_,rfl,?_⟩;rw [o7 eC]at U4;have Jk:∀k,m.SG k->k<w.heap.size:=fun k e=>h.low k (.inl (.inl e));have s64:=Eh.size;have OJ:=Eh.heap Wx (fun e=>by have:=Jk _ e;omega);have Ss:=Eh.heap Ob (fun e=>by have:=Jk _ e;omega);have ZT:=hmv.aC Eh (fun e=>by have:=Jk _ e;omega);refine⟨hid.1,⟨hid.2.1,Cells.bC OJ⟩,hid.2.1,?_⟩;intro FD;have Ld:Kept Nil Ff FD:=(Kept.refl _ _).alloc _;have YK:HS FD (some ⟨Ff.heap.size,0,none⟩) 1 [hid]:=iq Ff hid;clear_value FD;have vz:∀p∈de lp,p∈ids D:=fun p hp=>cY p (df.1 hp);have W':jv (D++ [⟨hid,de lp⟩]):=W.snoc (nd:=⟨hid,de lp⟩) fF vz (gN lp);obtain⟨bl',c',Ro,M',Xg⟩:=U4;have M6:∀k,m.own x k->k<w.heap.size:=fun k e=>h.low k (.inl (.inr (.inr (.inr e))));have hTv:tc Ff:=(hT.same AU).aC Eh IK;refine uQ (Xg.same Ld) W' (by simp;omega) (hTv.same Ld) YK (by omega) fun A69 c69 B9 F5 RN=>⟨A69,_,c69,rfl,?_⟩;have wq:=Ld.tt RN;have acG:=wq.size;have p2:=jK (D++ [⟨hid,de lp⟩]) fun a=>∃z∈ [hid],eB (D++ [⟨hid,de lp⟩]) a z
  change (cy (D++ [⟨hid,de lp⟩]) [hid]).length<=_ at p2
  rw [List.length_append,List.length_singleton]at p2;have Bk:∀y,y∈cy (D++ [⟨hid,de lp⟩]) [hid]↔eB (D++ [⟨hid,de lp⟩]) y hid:=fun y=>by
   unfold cy;rw [iw];constructor
   ·rintro⟨_,z,hz,e⟩
    rw [List.mem_singleton]at hz
    rwa [hz]at e
   ·exact fun e=>⟨(e.mem W').1,hid,by simp,e⟩
  have ko:Kept (fun k=>m.SG k) w B9:=((AU.mono (S':=fun k=>m.SG k) (fun _ _ h=>h.elim)).tt Eh).trans wq (fun _ _ h=>h.elim);have M5:∀k,m.own x k->¬m.SG k:=fun k e=>(h.od k e).1;have QV:=ko.heap h.top (M5 _ (.inl rfl));have eQ:(cy (D++ [⟨hid,de lp⟩]) [hid]).Nodup:=(gN _).nodup;obtain⟨f0,aaJ,aaL⟩:=h.W8;have ac3:∀k,m.own x k->¬(k=m.cb)\/k=m.cb:=fun k _=>(Classical.em _).symm;have sU:m.own x m.cb:=.inr (.inr (.inr rfl));have Rr:=M6 _ sU;generalize pH:cy (D++ [⟨hid,de lp⟩]) [hid]=pl at F5 p2 Bk eQ⊢;refine aD.gz (I:=fun i u=>∃q:Nat,i=(q:Int)/\q<=pl.length/\Kept (· =m.cb) B9 u/\∃f,fk u m.cb f/\∀y,∃l,nQ u (fun k=>m.SO k\/(B9.heap.size<=k/\k<u.heap.size)) (D.length+if y∈pl.take q then 1 else 0) (f y) l/\∀c,c∈l↔Mv D P y c\/(c=hid/\y∈pl.take q/\y≠s/\¬eB D y s))
   (μ:=fun i _=>((pl.length:Int)-i).toNat) (s:=0) ⟨0,rfl,Nat.zero_le _,Kept.refl _ _,f0,aaJ.aC ko (M5 _ sU),fun y=>?_⟩ ?_
  ·obtain⟨l,h1,h2⟩:=aaL y
   refine⟨l,?_,fun c=>?_⟩
   ·rcases h1.aC ko (fun k e e'=>(h.gt k e').2 e)with h3|⟨A,n,c,g1,g2,g3,g4,g5⟩
    ·exact .inl h3
    ·exact .inr ⟨A,n,c,g1,g2,g3,by omega,fun a ha=>.inl (g5 a ha)⟩
   ·rw [h2]
    simp
  ·rintro i u ⟨q,rfl,Qh,ku,Ub⟩
   refine E9 h hD ko.size QV (wq.heap OJ (fun h=>h)) (Nat.le_refl _) ((ZT.aC Ld (fun h=>h)).aC RN (fun h=>h)) (by omega) rfl
    (fun y=>⟨fun e=>(TY y).1 (e.imp (fun h=>h) (fun h=>(LL y).2 h)),fun e=>(TY y).2 (fun e'=>e (e'.imp (fun h=>h) (fun h=>(LL y).1 h)))⟩)
    (Row.base F5 (fun b hb=>by have:=(Row.bC F5 hb).1;have:=Ld.size;omega)) (by omega) ku Qh (Z:=fun _ _=>True) Ub eQ (hid:=hid) (s:=s) (D':=D) (ps:= []) (fun v' kv' aaC cH=>?_) (fun SJ=>?_)
   ·exact⟨(q:Int)+1,rfl,⟨q+1,rfl,cH,kv',aaC⟩,by simp only;omega⟩
   ·subst SJ
    rw [aP];unfold aD.e2;rw [aD.Xm];rw [List.take_of_length_le (Nat.le_refl _)]at Ub;have Gs:Kept (fun k=>m.SG k\/k=m.cb) w u:=(ko.mono (S':=fun k=>m.SG k\/k=m.cb) (fun _ _ h=>.inl h)).trans ku (fun _ _ h=>.inr h);have su:=ku.size;obtain⟨PX,Ri,M4,Rh,PW,Rg⟩:=h.ne;have Jl:∀k,F k->k<w.heap.size:=fun k e=>h.low k (.inr e);have abp:GV B9 S2 F2 m.g (D++ [⟨hid,de lp⟩]) (fY (D++ [⟨hid,de lp⟩])) bl' c' Ro M':=Xg.same wq;have nS2:∀k,S2 k->¬k=m.cb:=fun k h1 e=>by
     rcases Pf k h1 with h2|h2
     ·exact(h.od _ sU).1 (e▸h2)
     ·omega
    have nF2:∀k,F2 k->¬k=m.cb:=fun k h1 e=>by
     rcases Pk k h1 with h2|h2
     ·exact(h.od _ sU).2.2.2 (e▸h2)
     ·omega
    have xN:∀k,m.own x k->k≠m.cb->¬(m.SG k\/k=m.cb):=fun k e fC e'=>e'.elim (M5 k e) fC;refine Ib (s1:=Ff.heap.size) (s2:=B9.heap.size) (S2:=S2) (F2:=F2) (SO2:=fun k=>m.SO k\/(B9.heap.size<=k/\k<u.heap.size)) (mj:=mj) h hD fF vz (gN lp) hj Ot (df.2 vf) (Gs.heap h.top (xN _ (.inl rfl) M4))
     (Nat.le_refl _) (by omega) (ku.heap (wq.heap OJ (fun h=>h)) (fun e=>by omega)) (ku.heap (wq.heap Ss (fun h=>h)) (fun e=>by omega)) ⟨bl',c',Ro,M',abp.aC ku nS2 nF2⟩
     (h.T.aC Gs (fun k e e'=>e'.elim (fun e'=>(h.gt k e').1 e) (fun e'=>(h.od _ sU).2.1 (e'▸e)))) (h.at_.aC Gs (xN _ (.inr (.inl rfl)) PW)) (Row.aC h.row Gs (fun k e=>by cases e;exact xN _ (.inr (.inr (.inl rfl))) Rg))
     ?_ (by omega) (by omega) su (fun k e=>⟨(Pf k e).imp (fun h=>h) (fun h=>by omega),Xg.low k (.inl e)⟩) (fun k e=>⟨(Pk k e).imp (fun h=>h) (fun h=>by omega),Xg.low k (.inr e)⟩) (fun k e=>e)
     (Gs.mono (S':=fun k=>m.jL x k) (fun k _ e=>e.elim (fun e=>.inl e) (fun e=>.inr (.inr (.inr (.inr (.inr (.inr e)))))))) (fun u2 S' F' hI kU hSu Mk=>?_)
    ·obtain⟨f,hf,hc⟩:=Ub
     refine⟨f,hf,fun y=>?_⟩;obtain⟨l,h1,h2⟩:=hc y;refine⟨l,?_,fun c=>?_⟩
     ·rcases h1 with h3|⟨A,n,c,g1,g2,g3,g4,g5⟩
      ·exact .inl h3
      ·refine .inr ⟨A,n,c,g1,g2,g3,?_,g5⟩
       split at g4<;>omega
     ·rw [h2,HW W h.gV (nd:=⟨hid,de lp⟩) fF vz hj,Ot]
      constructor
      ·rintro(h3|⟨h3,h4,h5,h6⟩)
       ·exact .inl h3
       ·exact .inr ⟨h3,(Bk y).1 h4,h5,h6⟩
      ·rintro(h3|⟨h3,h4,h5,h6⟩)
       ·exact .inl h3
       ·exact .inr ⟨h3,(Bk y).2 h4,h5,h6⟩
    ·refine za u2 S' F' ?_ kU hSu Mk eX
     rw [eD,eP];exact hI
end
def dO:HT:=hx 0 (by decide)
def cP(D:DG)(P:List Int)(h:HT)(l:List HT):Prop:=(h∉ids D/\l= [])\/∃(i:Nat) (nd:DN) (ks:List Nat),D[i]? =some nd/\nd.id=h/\Up P i ks/\l=ks.map (nR D)
theorem mN{D:DG}{i:Nat}{nd:DN}(h:D[i]? =some nd):nR D i=nd.id:=by unfold nR;rw [h]
theorem cP.ex{D:DG}{P:List Int}(H:ra D P)(h:HT):∃l,cP D P h l:=by
 by_cases hm:h∈ids D
 ·obtain⟨nd,eQ,e⟩:=dt.1 hm
  obtain⟨i,hi⟩:=List.mem_iff_getElem?.1 eQ;obtain⟨ks,hk⟩:=Up.ex H.par i (by rw [H.len];exact(lgeS hi).1);exact⟨_,.inr ⟨i,nd,ks,hi,e,hk,rfl⟩⟩
 ·exact⟨[],.inl ⟨hm,rfl⟩⟩
theorem cP.mem{D:DG}{P:List Int}(W:jv D)(H:ra D P){h:HT}{l:List HT}(c:cP D P h l){a:HT}:a∈l↔Ch D P a h:=by
 rcases c with⟨h1,rfl⟩|⟨i,nd,ks,h1,rfl,h3,rfl⟩
 ·simp only [List.not_mem_nil,false_iff]
  exact fun e=>h1 e.mem.2
 ·have dQ:i<P.length:=by rw [H.len];exact(lgeS h1).1
  rw [List.mem_map];constructor
  ·rintro⟨k,hk,rfl⟩
   have hu:=(h3.mem H.par dQ).1 hk;have Bp:=hu.V8;rw [H.len]at Bp;obtain⟨nk,Qm⟩:∃nk,D[k]? =some nk:=⟨_,List.getElem?_eq_getElem Bp⟩;exact⟨i,k,nd,nk,h1,rfl,Qm,(mN Qm).symm,hu⟩
  ·rintro⟨i',k,ni,nk,g1,g2,g3,g4,g5⟩
   have:=W.inj g1 h1 g2;subst this;exact⟨k,(h3.mem H.par dQ).2 g5,by rw [mN g3,g4]⟩
theorem cP.one{D:DG}{P:List Int}(W:jv D)(H:ra D P){h:HT}{l l':List HT}(c:cP D P h l)(c':cP D P h l'):l=l':=by
 rcases c with⟨h1,rfl⟩|⟨i,nd,ks,h1,h2,h3,rfl⟩
 ·rcases c' with⟨_,rfl⟩|⟨i,nd,ks,g1,g2,_,_⟩
  ·rfl
  ·exact absurd (dt.2 ⟨nd,List.mem_of_getElem? g1,g2⟩) h1
 ·rcases c' with⟨g1,rfl⟩|⟨i',nd',ks',g1,g2,g3,rfl⟩
  ·exact absurd (dt.2 ⟨nd,List.mem_of_getElem? h1,h2⟩) g1
  ·have:=W.inj h1 g1 (by rw [h2,g2])
   subst this;rw [Up.one H.par h3 g3]
section
variable{w w':World}{F S:Nat->Prop}{x:Nat}{D:DG}{P:List Int}{m:XM}{K:Value->World->Prop}
theorem XV.MV(h:XV w F x D P m){i:Nat}{nd:DN}(hi:D[i]? =some nd):Cells w ((⟨m.ib,0,none⟩:Addr).add (i*32)) nd.id.1:=by
 obtain⟨a,ha,_,hc⟩:=(bQ.hs h.row).at_ i nd.id (pr hi);cases ha;exact hc
theorem XV.Gd(h:XV w F x D P m){i:Nat}{nd:DN}(hi:D[i]? =some nd):∃td,m.T[i]? =some td/\P[i]? =some td.parent:=by
 have dQ:=(lgeS hi).1;obtain⟨td,Wn⟩:=Tr.fG (T:=m.T) (i:=i) (by rw [h.MO];exact dQ);exact⟨td,Wn,by rw [<-h.bP];exact Tr.km Wn⟩
theorem oE(a:HT)(hK:∀w' pb qb,Kept Nil w w'->w'.heap[pb]? =some (.cells #[.pointer (some ⟨x,0,none⟩)] fK (0,0))->w'.heap[qb]? =some (.cells a.1 aj (0,0))->w.heap.size<=pb->w.heap.size<=qb->K (.func (.func aV.id) #[] #[.pointer (some ⟨pb,0,none⟩),.pointer (some ⟨qb,0,none⟩)]) w'):
 bk prog fw.id #[.pointer (some ⟨x,0,none⟩),.agg a.1] w K:=by
 refine fw.of ?_;unfold fw.W;intro w3 w4;have k3:Kept Nil w w3:=(Kept.refl _ _).alloc _;have hp3:w3.heap[w.heap.size]? =some (.cells #[.pointer (some ⟨x,0,none⟩)] fK (0,0)):=aJ w _;have k4:Kept Nil w3 w4:=(Kept.refl _ _).alloc _;have Zw:w4.heap[w3.heap.size]? =some (.cells a.1 aj (0,0)):=aJ w3 _;clear_value w4;exact hK w4 _ _ (k3.tt k4) (k4.heap hp3 (fun h=>h)) Zw (Nat.le_refl _) k3.size
theorem wR{pb qb:Nat}{a:HT}{l:List HT}(hl:cP D P a l)(hD:D.length<=5000):
 nf prog aV.id #[] #[.pointer (some ⟨pb,0,none⟩),.pointer (some ⟨qb,0,none⟩)] (l.map pJ) (fun w=>XV w F x D P m/\w.heap[pb]? =some (.cells #[.pointer (some ⟨x,0,none⟩)] fK (0,0))/\w.heap[qb]? =some (.cells a.1 aj (0,0))):=by
 intro y I Q w0 hI hQ qS h0 qf;obtain⟨hX,Qj,SM⟩:=qS 0 w0 h0;have W:=hX.W;have lK:=hX.gV;refine aV.of ?_;unfold aV.W;refine⟨_,by rw [ay Qj];rfl,a.1,⟨a.2.1,Cells.bC SM⟩,a.2.1,?_⟩;intro w6;have k6:Kept Nil w0 w6:=(Kept.refl _ _).alloc _;have nM:HS w6 (some ⟨w0.heap.size,0,none⟩) 1 [a]:=iq w0 a;clear_value w6;refine pk (hX.same k6) nM (by omega) fun w8 k8=>⟨_,rfl,?_⟩;have vr:=k6.tt k8;rcases hl with⟨mP,rfl⟩|⟨i,nd,ks,hi,hid,hup,rfl⟩
 ·exact Split.yes (by rw [decide_eq_false (by simpa using mP)];rfl) (.inl (hI 0 w0 w8 h0 vr))
 ·have hm:a∈ids D:=dt.2 ⟨nd,List.mem_of_getElem? hi,hid⟩
  refine Split.no (by rw [decide_eq_true (by simpa using hm)];rfl) ?_;intro w10;have ny:Kept Nil w8 w10:=(Kept.refl _ _).drew;clear_value w10;have AY:=vr.tt ny;have vg:=hX.same AY;have lk:=vg.at_.wk a;rw [<-hid,W.pos_eq hi]at lk;rw [hid]at lk;refine⟨some ⟨x,0,none⟩,by rw [ay (AY.heap Qj (fun h=>h))];rfl,_,vg.c2,a.1,⟨a.2.1,Cells.bC (AY.heap SM (fun h=>h))⟩,_,lk,?_⟩;have dQ:i<P.length:=by rw [lK.len];exact(lgeS hi).1
  have SY:=lK.par;refine aV.cf (I:=fun s v=>∃(k:Nat) (dn rs:List Nat),s=(k:Int)/\ks=dn++rs/\Up P k rs/\k<P.length/\I dn.length v) (μ:=fun s _=>s.toNat) (s:=((i:Nat):Int)) ⟨i,[],ks,rfl,rfl,hup,dQ,hI 0 w0 w10 h0 AY⟩ ?_;rintro s v ⟨k,dn,rs,rfl,Z6,hur,Bp,hv⟩;obtain⟨hXv,hpv,hqv⟩:=qS _ v hv;rw [lK.len]at Bp;obtain⟨nk,Qm⟩:∃nk,D[k]? =some nk:=⟨_,List.getElem?_eq_getElem Bp⟩;refine⟨some ⟨x,0,none⟩,by rw [ay hpv];rfl,_,_,_,hXv.c3,⟨by omega,by omega⟩,nk.id.1,⟨nk.id.2.1,by rw [Int.toNat_natCast];exact hXv.MV Qm⟩,?_⟩;have fX:((ks.map (nR D)).map pJ)[dn.length]? =some (pJ nk.id):=by
   rw [List.getElem?_map,List.getElem?_map,Z6,List.getElem?_append_right (Nat.le_refl _),Nat.sub_self,hur.head];simp [mN Qm]
  refine(qf dn.length (pJ nk.id) v fX hv).mono ?_;rintro b v' ⟨ht,hf⟩;cases b with
  |false=>
   refine Split.no rfl ?_;rw [aP,aV.dh];exact .inr (hf rfl)
  |true=>
   refine Split.yes rfl ?_;have hI1:=ht rfl;cases hur with
   |root=>
    refine Split.no rfl ?_;rw [aP,aV.dh];refine .inl ?_;rw [List.length_map,List.length_map,Z6,List.length_append];exact hI1
   | @step _ j rs' hj JK=>
     have Ww:=(Tr.im SY (Tr.ek.2 hj)).1;refine Split.yes (decide_eq_true (by omega)) ?_;obtain⟨Pe,Zz,_⟩:=qS _ v' hI1;obtain⟨td,Wn,htp⟩:=Pe.Gd Qm;rw [hj]at htp;have Y5:(j:Int)=td.parent:=by simpa using htp
     refine⟨some ⟨x,0,none⟩,by rw [ay Zz];rfl,_,Pe.c1,Tr.yi Pe.T Wn (by omega) ⟨_,_,rfl,?_⟩⟩;rw [<-Y5];refine⟨(j:Int),rfl,⟨j,dn++ [k],rs',rfl,by rw [Z6];simp,JK,by rw [lK.len];omega,?_⟩,by simp only;omega⟩;rw [List.length_append];exact hI1
end
structure XN(w v:World)(r:HT)(own:Nat->Nat)(G T E I Z:Option Nat)(l:List HT):Prop where
 kp:Kept Nil w v
 gr:∀g,G=some g->∃SG,BY v SG (fun _=>False) g [⟨r,[]⟩]/\∀k,SG k->w.heap.size<=k/\own k=1
 tr:∀t,T=some t->∃ST,Tr.om v ST t Tr.pM 0/\∀k,ST k->w.heap.size<=k/\k<v.heap.size/\own k=2
 mp:∀b,E=some b->w.heap.size<=b/\own b=3/\IsMap v b l
 il:∀b,I=some b->w.heap.size<=b/\own b=4/\v.heap[b]? =some (.cells (r.1.toList++ []).toArray aj (0,0))
 cv:∀b,Z=some b->w.heap.size<=b/\own b=5/\fk v b (fun _=>none)
def tag(n t:Nat)(own:Nat->Nat)(k:Nat):Nat:=if n<=k then t else own k
theorem qv{n t k:Nat}{own:Nat->Nat}(h:k<n):tag n t own k=own k:=by unfold tag;rw [if_neg (by omega)]
theorem qw{n t k:Nat}{own:Nat->Nat}(h:n<=k):tag n t own k=t:=by unfold tag;rw [if_pos h]
section
variable{w v v':World}{r:HT}{own:Nat->Nat}{G T E I Z:Option Nat}{l:List HT}{K:Value->World->Prop}
theorem XN.grow(h:XN w v r own G T E I Z l)(t:Nat)(k:Kept Nil v v'):XN w v' r (tag v.heap.size t own) G T E I Z l:=by
 have hs:=k.size;refine⟨h.kp.tt k,fun g e=>?_,fun g e=>?_,fun b e=>?_,fun b e=>?_,fun b e=>?_⟩
 ·obtain⟨SG,h1,h2⟩:=h.gr g e
  exact⟨SG,h1.same k,fun q hq=>⟨(h2 q hq).1,by rw [qv (by obtain⟨bl,c,mb,M,G⟩:=h1;exact G.low q (.inl hq))];exact(h2 q hq).2⟩⟩
 ·obtain⟨ST,h1,h2⟩:=h.tr g e
  exact⟨ST,h1.same k,fun q hq=>⟨(h2 q hq).1,by have:=(h2 q hq).2.1;omega,by rw [qv (h2 q hq).2.1];exact(h2 q hq).2.2⟩⟩
 ·obtain⟨h1,h2,h3⟩:=h.mp b e
  exact⟨h1,by rw [qv h3.lt];exact h2,h3.aC k (fun h=>h)⟩
 ·obtain⟨h1,h2,h3⟩:=h.il b e
  exact⟨h1,by rw [qv (aQ h3)];exact h2,k.heap h3 (fun h=>h)⟩
 ·obtain⟨h1,h2,h3⟩:=h.cv b e
  exact⟨h1,by rw [qv h3.lt];exact h2,h3.aC k (fun h=>h)⟩
theorem XN.dd(h:XN w v r own none T E I Z l){gb:Nat}(hG:BY v' (fun k=>v.heap.size<=k/\k<v'.heap.size) (fun _=>False) gb [⟨r,[]⟩])(k:Kept Nil v v'):XN w v' r (tag v.heap.size 1 own) (some gb) T E I Z l:=by
 have g:=h.grow 1 k;refine⟨g.kp,?_,g.tr,g.mp,g.il,g.cv⟩;intro g' e;cases e;have:=h.kp.size;exact⟨_,hG,fun q hq=>⟨by omega,qw hq.1⟩⟩
theorem XN.sY(h:XN w v r own G none E I Z l){t:Nat}(hT:Tr.om v' (fun k=>v.heap.size<=k) t Tr.pM 0)(k:Kept Nil v v'):XN w v' r (tag v.heap.size 2 own) G (some t) E I Z l:=by
 have g:=h.grow 2 k;refine⟨g.kp,g.gr,?_,g.mp,g.il,g.cv⟩;intro t' e;cases e;have:=h.kp.size;exact⟨_,sh hT,fun q hq=>⟨by omega,hq.2,qw hq.1⟩⟩
theorem XN.sZ(h:XN w v r own G T none I Z []):XN w (v.alloc (.map #[] 0)) r (tag v.heap.size 3 own) G T (some v.heap.size) I Z []:=by
 have g:=h.grow 3 ((Kept.refl Nil v).alloc (.map #[] 0));refine⟨g.kp,g.gr,g.tr,?_,g.il,g.cv⟩;intro b e;cases e;exact⟨h.kp.size,qw (Nat.le_refl _),⟨#[],0,aJ v _,trivial⟩⟩
theorem XN.nX(h:XN w v r own G T E none Z l):XN w (v.alloc (.cells (r.1.toList++ []).toArray aj)) r (tag v.heap.size 4 own) G T E (some v.heap.size) Z l:=by
 have g:=h.grow 4 ((Kept.refl Nil v).alloc (.cells (r.1.toList++ []).toArray aj));refine⟨g.kp,g.gr,g.tr,g.mp,?_,g.cv⟩;intro b e;cases e;exact⟨h.kp.size,qw (Nat.le_refl _),aJ v _⟩
theorem XN.nW(h:XN w v r own G T E I none l):XN w (v.alloc (.map #[] 0)) r (tag v.heap.size 5 own) G T E I (some v.heap.size) l:=by
 have g:=h.grow 5 ((Kept.refl Nil v).alloc (.map #[] 0));refine⟨g.kp,g.gr,g.tr,g.mp,g.il,?_⟩;intro b e;cases e;exact⟨h.kp.size,qw (Nat.le_refl _),fk.new v⟩
theorem XN.put{mb:Nat}(h:XN w v r own G T (some mb) I Z []):∃v',(Instr.mapUpdate ck (.map (some mb)) (.agg r.1) (.int .i64 0)).run prog v=.ok () v'/\XN w v' r own G T (some mb) I Z [r]:=by
 obtain⟨h1,h2,h3⟩:=h.mp mb rfl;obtain⟨v',hr,hm,hk⟩:=h3.put (h:=r) (by simp);refine⟨v',hr,(h.kp.trans hk (fun k hk e=>by omega)),fun g e=>?_,fun g e=>?_,fun b e=>?_,fun b e=>?_,fun b e=>?_⟩
 ·obtain⟨SG,g1,g2⟩:=h.gr g e
  exact⟨SG,g1.aC hk (fun q hq e=>by have:=(g2 q hq).2;rw [e,h2]at this;cases this) (fun q hq=>hq.elim),g2⟩
 ·obtain⟨ST,g1,g2⟩:=h.tr g e
  exact⟨ST,g1.aC hk (fun q hq e=>by have:=(g2 q hq).2.2;rw [e,h2]at this;cases this),fun q hq=>⟨(g2 q hq).1,Nat.lt_of_lt_of_le (g2 q hq).2.1 hk.size,(g2 q hq).2.2⟩⟩
 ·cases e
  exact⟨h1,h2,hm⟩
 ·obtain⟨g1,g2,g3⟩:=h.il b e
  exact⟨g1,g2,hk.heap g3 (fun e=>by rw [e,h2]at g2;cases g2)⟩
 ·obtain⟨g1,g2,g3⟩:=h.cv b e
  exact⟨g1,g2,g3.aC hk (fun e=>by rw [e,h2]at g2;cases g2)⟩
theorem XN.fin{g t mb ib cb:Nat}{w0:World}(h:XN w v r own (some g) (some t) (some mb) (some ib) (some cb) [r])(hw:w0.heap.size<=w.heap.size):
 BX (v.alloc (.cells #[.pointer (some ⟨g,0,none⟩),.pointer (some ⟨t,0,none⟩),.map (some mb),.slice (some ⟨ib,0,none⟩) 1 1,.map (some cb)] eA)) (fun k=>w0.heap.size<=k/\k<(v.alloc (.cells #[.pointer (some ⟨g,0,none⟩),.pointer (some ⟨t,0,none⟩),.map (some mb),.slice (some ⟨ib,0,none⟩) 1 1,.map (some cb)] eA)).heap.size) (fun _=>False) v.heap.size [⟨r,[]⟩] [-1]:=by
 have iK:=aJ v (.cells #[.pointer (some ⟨g,0,none⟩),.pointer (some ⟨t,0,none⟩),.map (some mb),.slice (some ⟨ib,0,none⟩) 1 1,.map (some cb)] eA);have kx:=(Kept.refl Nil v).alloc (.cells #[.pointer (some ⟨g,0,none⟩),.pointer (some ⟨t,0,none⟩),.map (some mb),.slice (some ⟨ib,0,none⟩) 1 1,.map (some cb)] eA);have hx:=aQ iK;generalize v.alloc (.cells #[.pointer (some ⟨g,0,none⟩),.pointer (some ⟨t,0,none⟩),.map (some mb),.slice (some ⟨ib,0,none⟩) 1 1,.map (some cb)] eA)=u at iK kx hx;obtain⟨SG,hG,gG⟩:=h.gr g rfl;obtain⟨ST,hT,gT⟩:=h.tr t rfl;obtain⟨m1,m2,m3⟩:=h.mp mb rfl;obtain⟨i1,i2,i3⟩:=h.il ib rfl;obtain⟨c1,c2,c3⟩:=h.cv cb rfl;have mR:∀k,SG k->k<v.heap.size:=fun k e=>by obtain⟨bl,c,mb,M,G⟩:=hG;exact G.low k (.inl e)
 have sw:=h.kp.size;have lm:=m3.lt;have li:=aQ i3;have lc:=c3.lt;have Bu:∀ {a b:HT},¬eB [(⟨r,[]⟩:DN)] a b:=yz r;refine⟨⟨g,t,mb,ib,1,cb,Tr.pM,0,SG,ST,fun _=>False⟩,⟨iK,hG.same kx,hT.same kx,Tr.AF,rfl,⟨Int.le_refl 0,by show(0:Int)<=_;simp⟩,m3.aC kx (fun h=>h),?_,⟨_,c3.aC kx (fun h=>h),fun y=>⟨[],.inl ⟨rfl,rfl⟩,fun c=>?_⟩⟩,?_,jv.root r,?_,?_,?_,?_,?_,?_⟩,?_⟩
 ·have e:dc [r]=(r.1.toList++ []).toArray.toList:=by simp [dc]
  show Row _ _ _ _ _ _ _ (dc [r])
  rw [e];exact Row.made (kx.heap i3 (fun h=>h)) (Nat.zero_le _) (by simp [r.2.1]) (by show 1<=maxLen;decide)
 ·simp only [List.not_mem_nil,false_iff]
  exact fun hc=>Bu hc.1
 ·refine⟨rfl,rfl,fun i p nd hi hp=>?_⟩
  cases i with
  |zero=>omega
  |succ i=>simp at hp
 ·exact fun k e=>⟨fun e'=>by have:=(gG k e).2;have:=(gT k e').2.2;omega,fun e'=>e'.elim⟩
 ·exact fun k e e'=>e'.elim
 ·exact fun k e=>e.elim
 ·intro k e
  have key:v.heap.size<=k\/3<=own k:=by
   rcases e with e|e|e|e
   ·exact .inl (by omega)
   ·exact .inr (by have e:k=mb:=e;rw [e];omega)
   ·exact .inr (by have e:k=ib:=e;rw [e];omega)
   ·exact .inr (by have e:k=cb:=e;rw [e];omega)
  refine⟨fun e'=>?_,fun e'=>?_,fun e'=>e'.elim,fun e'=>e'.elim⟩
  ·have h1:=(gG k e').2
   have h2:=mR k e';omega
  ·have h1:=(gT k e').2.2
   have h2:=(gT k e').2.1;omega
 ·refine⟨by show v.heap.size≠mb;omega,by show v.heap.size≠ib;omega,by show v.heap.size≠cb;omega,fun e=>?_,fun e=>?_,fun e=>?_⟩
  ·have e:mb=ib:=e
   rw [e]at m2;omega
  ·have e:mb=cb:=e
   rw [e]at m2;omega
  ·have e:ib=cb:=e
   rw [e]at i2;omega
 ·intro k e
  rcases e with e|e
  ·rcases e with e|e|e|e
   ·have:=mR k e;omega
   ·have:=(gT k e).2.1;omega
   ·exact e.elim
   ·rcases e with e|e|e|e
    ·omega
    ·have e:k=mb:=e;omega
    ·have e:k=ib:=e;omega
    ·have e:k=cb:=e;omega
  ·exact e.elim
 ·intro k e
  rcases e with e|e|e|e
  ·have:=mR k e;have:=(gG k e).1;omega
  ·have:=(gT k e).1;have:=(gT k e).2.1;omega
  ·exact e.elim
  ·rcases e with e|e|e|e
   ·omega
   ·have e:k=mb:=e;omega
   ·have e:k=ib:=e;omega
   ·have e:k=cb:=e;omega
structure XD(w o:World)(r:HT)(K:Value->World->Prop):Prop where
 cs:∀ {v:World},Kept Nil o v->∃cs:Array Value,(.agg r.1:Value)=.agg cs/\cs.size=32/\Cells v (⟨w.heap.size,0,none⟩:Addr) cs
 fin:∀ {v:World} {own:Nat->Nat} {g t mb ib cb:Nat},XN o v r own (some g) (some t) (some mb) (some ib) (some cb) [r]->K (.pointer (some ⟨v.heap.size,0,none⟩)) (v.alloc (.cells #[.pointer (some ⟨g,0,none⟩),.pointer (some ⟨t,0,none⟩),.map (some mb),.slice (some ⟨ib,0,none⟩) 1 1,.map (some cb)] eA))
end
section
variable{w o v e i z:World}{r:HT}{own:Nat->Nat}{g t:Nat}{K:Value->World->Prop}
theorem n1(D:XD w o r K)(h:XN o v r own (some g) (some t) (some e.heap.size) (some i.heap.size) (some z.heap.size) [r]):au.N1 (some ⟨g,0,none⟩) (some ⟨t,0,none⟩) e i z K v:=by
 unfold au.N1;exact D.fin h
theorem n2(D:XD w o r K)(h:XN o v r own (some g) (some t) (some e.heap.size) (some i.heap.size) none [r]):au.N2 (some ⟨g,0,none⟩) (some ⟨t,0,none⟩) e i K v:=by
 unfold au.N2;exact let n:=h.nW;n1 D n
theorem n3(D:XD w o r K)(h:XN o v r own (some g) (some t) (some e.heap.size) none (some z.heap.size) [r]):au.N3 r.1 (some ⟨g,0,none⟩) (some ⟨t,0,none⟩) e z K v:=by
 unfold au.N3;exact let n:=h.nX;⟨r.2.1,n1 D n⟩
theorem n4(D:XD w o r K)(h:XN o v r own (some g) (some t) (some e.heap.size) none none [r]):au.N4 r.1 (some ⟨g,0,none⟩) (some ⟨t,0,none⟩) e w K v:=by
 unfold au.N4;exact⟨(let n:=h.nX;⟨r.2.1,n2 D n⟩),(let n:=h.nW;⟨D.cs n.kp,n3 D n⟩)⟩
theorem n5(D:XD w o r K)(h:XN o v r own (some g) (some t) (some e.heap.size) (some i.heap.size) (some z.heap.size) []):au.N5 e r.1 (some ⟨g,0,none⟩) (some ⟨t,0,none⟩) i z K v:=by
 unfold au.N5;exact let ⟨u,q,n⟩:=h.put;⟨u,q,n1 D n⟩
theorem n6(D:XD w o r K)(h:XN o v r own (some g) (some t) (some e.heap.size) (some i.heap.size) none []):au.N6 e r.1 (some ⟨g,0,none⟩) (some ⟨t,0,none⟩) i w K v:=by
 unfold au.N6;exact⟨(let ⟨u,q,n⟩:=h.put;⟨u,q,n2 D n⟩),(let n:=h.nW;⟨D.cs n.kp,n5 D n⟩)⟩
theorem n7(D:XD w o r K)(h:XN o v r own (some g) (some t) (some e.heap.size) none (some z.heap.size) []):au.N7 e r.1 r.1 w (some ⟨g,0,none⟩) (some ⟨t,0,none⟩) z K v:=by
 unfold au.N7;exact⟨(let ⟨u,q,n⟩:=h.put;⟨u,q,D.cs n.kp,n3 D n⟩),(let n:=h.nX;⟨r.2.1,D.cs n.kp,n5 D n⟩)⟩
theorem n8(D:XD w o r K)(h:XN o v r own (some g) (some t) (some e.heap.size) none none []):au.N8 e r.1 r.1 w (some ⟨g,0,none⟩) (some ⟨t,0,none⟩) K v:=by
 unfold au.N8;exact⟨(let ⟨u,q,n⟩:=h.put;⟨u,q,D.cs n.kp,n4 D n⟩),(let n:=h.nX;⟨r.2.1,D.cs n.kp,n6 D n⟩),(let n:=h.nW;⟨D.cs n.kp,D.cs n.kp,n7 D n⟩)⟩
theorem n9(D:XD w o r K)(h:XN o v r own (some g) (some t) none (some i.heap.size) (some z.heap.size) []):au.N9 r.1 w (some ⟨g,0,none⟩) (some ⟨t,0,none⟩) i z K v:=by
 unfold au.N9;exact let n:=h.sZ;⟨D.cs n.kp,n5 D n⟩
theorem n10(D:XD w o r K)(h:XN o v r own (some g) (some t) none (some i.heap.size) none []):au.QK r.1 w (some ⟨g,0,none⟩) (some ⟨t,0,none⟩) i K v:=by
 unfold au.QK;exact⟨(let n:=h.sZ;⟨D.cs n.kp,n6 D n⟩),(let n:=h.nW;⟨D.cs n.kp,n9 D n⟩)⟩
theorem n11(D:XD w o r K)(h:XN o v r own (some g) (some t) none none (some z.heap.size) []):au.Xf r.1 w r.1 (some ⟨g,0,none⟩) (some ⟨t,0,none⟩) z K v:=by
 unfold au.Xf;exact⟨(let n:=h.sZ;⟨D.cs n.kp,D.cs n.kp,n7 D n⟩),(let n:=h.nX;⟨r.2.1,D.cs n.kp,n9 D n⟩)⟩
theorem n12(D:XD w o r K)(h:XN o v r own (some g) (some t) none none none []):au.PM r.1 w r.1 (some ⟨g,0,none⟩) (some ⟨t,0,none⟩) K v:=by
 unfold au.PM;exact⟨(let n:=h.sZ;⟨D.cs n.kp,D.cs n.kp,n8 D n⟩),(let n:=h.nX;⟨r.2.1,D.cs n.kp,n10 D n⟩),(let n:=h.nW;⟨D.cs n.kp,D.cs n.kp,n11 D n⟩)⟩
theorem n13(D:XD w o r K)(h:XN o v r own (some g) none (some e.heap.size) (some i.heap.size) (some z.heap.size) [r]):au.KV (some ⟨g,0,none⟩) e i z K v:=by
 unfold au.KV;exact Tr.eM fun _ _ q k=>let n:=h.sY q k;⟨_,rfl,n1 D n⟩
theorem n14(D:XD w o r K)(h:XN o v r own (some g) none (some e.heap.size) (some i.heap.size) none [r]):au.PL (some ⟨g,0,none⟩) e i K v:=by
 unfold au.PL;exact⟨(Tr.eM fun _ _ q k=>let n:=h.sY q k;⟨_,rfl,n2 D n⟩),(let n:=h.nW;n13 D n)⟩
theorem n15(D:XD w o r K)(h:XN o v r own (some g) none (some e.heap.size) none (some z.heap.size) [r]):au.VO r.1 w (some ⟨g,0,none⟩) e z K v:=by
 unfold au.VO;exact⟨(Tr.eM fun _ _ q k=>let n:=h.sY q k;⟨_,rfl,D.cs n.kp,n3 D n⟩),(let n:=h.nX;⟨r.2.1,n13 D n⟩)⟩
theorem n16(D:XD w o r K)(h:XN o v r own (some g) none (some e.heap.size) none none [r]):au.QJ r.1 w (some ⟨g,0,none⟩) e K v:=by
 unfold au.QJ;exact⟨(Tr.eM fun _ _ q k=>let n:=h.sY q k;⟨_,rfl,D.cs n.kp,n4 D n⟩),(let n:=h.nX;⟨r.2.1,n14 D n⟩),(let n:=h.nW;⟨D.cs n.kp,n15 D n⟩)⟩
theorem n17(D:XD w o r K)(h:XN o v r own (some g) none (some e.heap.size) (some i.heap.size) (some z.heap.size) []):au.QI r.1 w e (some ⟨g,0,none⟩) i z K v:=by
 unfold au.QI;exact⟨(Tr.eM fun _ _ q k=>let n:=h.sY q k;⟨_,rfl,D.cs n.kp,n5 D n⟩),(let ⟨u,q,n⟩:=h.put;⟨u,q,n13 D n⟩)⟩
theorem n18(D:XD w o r K)(h:XN o v r own (some g) none (some e.heap.size) (some i.heap.size) none []):au.VN r.1 w e (some ⟨g,0,none⟩) i K v:=by
 unfold au.VN;exact⟨(Tr.eM fun _ _ q k=>let n:=h.sY q k;⟨_,rfl,D.cs n.kp,n6 D n⟩),(let ⟨u,q,n⟩:=h.put;⟨u,q,n14 D n⟩),(let n:=h.nW;⟨D.cs n.kp,n17 D n⟩)⟩
theorem n19(D:XD w o r K)(h:XN o v r own (some g) none (some e.heap.size) none (some z.heap.size) []):au.IQ r.1 w r.1 e (some ⟨g,0,none⟩) z K v:=by
 unfold au.IQ;exact⟨(Tr.eM fun _ _ q k=>let n:=h.sY q k;⟨_,rfl,D.cs n.kp,D.cs n.kp,n7 D n⟩),(let ⟨u,q,n⟩:=h.put;⟨u,q,D.cs n.kp,n15 D n⟩),(let n:=h.nX;⟨r.2.1,D.cs n.kp,n17 D n⟩)⟩
theorem n20(D:XD w o r K)(h:XN o v r own (some g) none (some e.heap.size) none none []):au.Mu r.1 w r.1 e (some ⟨g,0,none⟩) K v:=by
 unfold au.Mu;exact⟨(Tr.eM fun _ _ q k=>let n:=h.sY q k;⟨_,rfl,D.cs n.kp,D.cs n.kp,n8 D n⟩),(let ⟨u,q,n⟩:=h.put;⟨u,q,D.cs n.kp,n16 D n⟩),(let n:=h.nX;⟨r.2.1,D.cs n.kp,n18 D n⟩),(let n:=h.nW;⟨D.cs n.kp,D.cs n.kp,n19 D n⟩)⟩
theorem n21(D:XD w o r K)(h:XN o v r own (some g) none none (some i.heap.size) (some z.heap.size) []):au.Mt r.1 w (some ⟨g,0,none⟩) i z K v:=by
 unfold au.Mt;exact⟨(Tr.eM fun _ _ q k=>let n:=h.sY q k;⟨_,rfl,D.cs n.kp,n9 D n⟩),(let n:=h.sZ;⟨D.cs n.kp,n17 D n⟩)⟩
theorem n22(D:XD w o r K)(h:XN o v r own (some g) none none (some i.heap.size) none []):au.QH r.1 w (some ⟨g,0,none⟩) i K v:=by
 unfold au.QH;exact⟨(Tr.eM fun _ _ q k=>let n:=h.sY q k;⟨_,rfl,D.cs n.kp,n10 D n⟩),(let n:=h.sZ;⟨D.cs n.kp,n18 D n⟩),(let n:=h.nW;⟨D.cs n.kp,n21 D n⟩)⟩
theorem n23(D:XD w o r K)(h:XN o v r own (some g) none none none (some z.heap.size) []):au.Xe r.1 w r.1 (some ⟨g,0,none⟩) z K v:=by
 unfold au.Xe;exact⟨(Tr.eM fun _ _ q k=>let n:=h.sY q k;⟨_,rfl,D.cs n.kp,D.cs n.kp,n11 D n⟩),(let n:=h.sZ;⟨D.cs n.kp,D.cs n.kp,n19 D n⟩),(let n:=h.nX;⟨r.2.1,D.cs n.kp,n21 D n⟩)⟩
theorem n24(D:XD w o r K)(h:XN o v r own (some g) none none none none []):au.VM r.1 w r.1 (some ⟨g,0,none⟩) K v:=by
 unfold au.VM;exact⟨(Tr.eM fun _ _ q k=>let n:=h.sY q k;⟨_,rfl,D.cs n.kp,D.cs n.kp,n12 D n⟩),(let n:=h.sZ;⟨D.cs n.kp,D.cs n.kp,n20 D n⟩),(let n:=h.nX;⟨r.2.1,D.cs n.kp,n22 D n⟩),(let n:=h.nW;⟨D.cs n.kp,D.cs n.kp,n23 D n⟩)⟩
theorem n25(D:XD w o r K)(h:XN o v r own none none (some e.heap.size) (some i.heap.size) (some z.heap.size) [r]):au.VL r.1 e i z K v:=by
 unfold au.VL;exact fI r fun _ _ q k=>let n:=h.dd q k;⟨_,rfl,n13 D n⟩
theorem n26(D:XD w o r K)(h:XN o v r own none none (some e.heap.size) (some i.heap.size) none [r]):au.Xd r.1 e i w K v:=by
 unfold au.Xd;exact⟨(fI r fun _ _ q k=>let n:=h.dd q k;⟨_,rfl,n14 D n⟩),(let n:=h.nW;⟨D.cs n.kp,n25 D n⟩)⟩
theorem n27(D:XD w o r K)(h:XN o v r own none none (some e.heap.size) none (some z.heap.size) [r]):au.PK r.1 r.1 w e z K v:=by
 unfold au.PK;exact⟨(fI r fun _ _ q k=>let n:=h.dd q k;⟨_,rfl,D.cs n.kp,n15 D n⟩),(let n:=h.nX;⟨r.2.1,D.cs n.kp,n25 D n⟩)⟩
theorem n28(D:XD w o r K)(h:XN o v r own none none (some e.heap.size) none none [r]):au.N28 r.1 r.1 w e K v:=by
 unfold au.N28;exact⟨(fI r fun _ _ q k=>let n:=h.dd q k;⟨_,rfl,D.cs n.kp,n16 D n⟩),(let n:=h.nX;⟨r.2.1,D.cs n.kp,n26 D n⟩),(let n:=h.nW;⟨D.cs n.kp,D.cs n.kp,n27 D n⟩)⟩
theorem n29(D:XD w o r K)(h:XN o v r own none none (some e.heap.size) (some i.heap.size) (some z.heap.size) []):au.VK r.1 r.1 w e i z K v:=by
 unfold au.VK;exact⟨(fI r fun _ _ q k=>let n:=h.dd q k;⟨_,rfl,D.cs n.kp,n17 D n⟩),(let ⟨u,q,n⟩:=h.put;⟨u,q,D.cs n.kp,n25 D n⟩)⟩
theorem n30(D:XD w o r K)(h:XN o v r own none none (some e.heap.size) (some i.heap.size) none []):au.Xc r.1 r.1 w e i K v:=by
 unfold au.Xc;exact⟨(fI r fun _ _ q k=>let n:=h.dd q k;⟨_,rfl,D.cs n.kp,n18 D n⟩),(let ⟨u,q,n⟩:=h.put;⟨u,q,D.cs n.kp,n26 D n⟩),(let n:=h.nW;⟨D.cs n.kp,D.cs n.kp,n29 D n⟩)⟩
theorem n31(D:XD w o r K)(h:XN o v r own none none (some e.heap.size) none (some z.heap.size) []):au.Xb r.1 r.1 w r.1 e z K v:=by
 unfold au.Xb;exact⟨(fI r fun _ _ q k=>let n:=h.dd q k;⟨_,rfl,D.cs n.kp,D.cs n.kp,n19 D n⟩),(let ⟨u,q,n⟩:=h.put;⟨u,q,D.cs n.kp,D.cs n.kp,n27 D n⟩),(let n:=h.nX;⟨r.2.1,D.cs n.kp,D.cs n.kp,n29 D n⟩)⟩
theorem n32(D:XD w o r K)(h:XN o v r own none none (some e.heap.size) none none []):au.N32 r.1 r.1 w r.1 e K v:=by
 unfold au.N32;exact⟨(fI r fun _ _ q k=>let n:=h.dd q k;⟨_,rfl,D.cs n.kp,D.cs n.kp,n20 D n⟩),(let ⟨u,q,n⟩:=h.put;⟨u,q,D.cs n.kp,D.cs n.kp,n28 D n⟩),(let n:=h.nX;⟨r.2.1,D.cs n.kp,D.cs n.kp,n30 D n⟩),(let n:=h.nW;⟨D.cs n.kp,D.cs n.kp,D.cs n.kp,n31 D n⟩)⟩
theorem n33(D:XD w o r K)(h:XN o v r own none none none (some i.heap.size) (some z.heap.size) []):au.Xa r.1 r.1 w i z K v:=by
 unfold au.Xa;exact⟨(fI r fun _ _ q k=>let n:=h.dd q k;⟨_,rfl,D.cs n.kp,n21 D n⟩),(let n:=h.sZ;⟨D.cs n.kp,D.cs n.kp,n29 D n⟩)⟩
theorem n34(D:XD w o r K)(h:XN o v r own none none none (some i.heap.size) none []):au.N34 r.1 r.1 w i K v:=by
 unfold au.N34;exact⟨(fI r fun _ _ q k=>let n:=h.dd q k;⟨_,rfl,D.cs n.kp,n22 D n⟩),(let n:=h.sZ;⟨D.cs n.kp,D.cs n.kp,n30 D n⟩),(let n:=h.nW;⟨D.cs n.kp,D.cs n.kp,n33 D n⟩)⟩
theorem n35(D:XD w o r K)(h:XN o v r own none none none none (some z.heap.size) []):au.N35 r.1 r.1 w r.1 z K v:=by
 unfold au.N35;exact⟨(fI r fun _ _ q k=>let n:=h.dd q k;⟨_,rfl,D.cs n.kp,D.cs n.kp,n23 D n⟩),(let n:=h.sZ;⟨D.cs n.kp,D.cs n.kp,D.cs n.kp,n31 D n⟩),(let n:=h.nX;⟨r.2.1,D.cs n.kp,D.cs n.kp,n33 D n⟩)⟩
theorem n36(D:XD w o r K)(h:XN o v r own none none none none none []):au.N36 r.1 r.1 w r.1 K v:=by
 unfold au.N36;exact⟨(fI r fun _ _ q k=>let n:=h.dd q k;⟨_,rfl,D.cs n.kp,D.cs n.kp,n24 D n⟩),(let n:=h.sZ;⟨D.cs n.kp,D.cs n.kp,D.cs n.kp,n32 D n⟩),(let n:=h.nX;⟨r.2.1,D.cs n.kp,D.cs n.kp,n34 D n⟩),(let n:=h.nW;⟨D.cs n.kp,D.cs n.kp,D.cs n.kp,n35 D n⟩)⟩
end
section
variable{K:Value->World->Prop}
theorem ik{w:World}(r:HT)(hK:∀v x,BX v (fun k=>w.heap.size<=k/\k<v.heap.size) (fun _=>False) x [⟨r,[]⟩] [-1]->Kept Nil w v->K (.pointer (some ⟨x,0,none⟩)) v):
 bk prog au.id #[.agg r.1] w K:=by
 refine au.of ?_;unfold au.W;intro w_2 IV;have k2:Kept Nil w w_2:=(Kept.refl _ _).alloc _;have kZ:w_2.heap[w.heap.size]? =some (.cells r.1 aj (0,0)):=aJ w _;have k3:Kept Nil w IV:=k2.drew;have pB:IV.heap[w.heap.size]? =some (.cells r.1 aj (0,0)):=kZ;clear_value IV;have N_3:XN IV IV r (fun _=>0) none none none none none []:=⟨Kept.refl _ _,(fun b e=>by cases e),(fun b e=>by cases e),(fun b e=>by cases e),(fun b e=>by cases e),(fun b e=>by cases e)⟩;have mi:∀ {v:World},Kept Nil IV v->∃cs:Array Value,(.agg r.1:Value)=.agg cs/\cs.size=32/\Cells v (⟨w.heap.size,0,none⟩:Addr) cs:=fun k=>⟨r.1,rfl,r.2.1,Cells.bC (k.heap pB (fun h=>h))⟩;have uz:∀ {v:World} {own:Nat->Nat} {g t mb ib cb:Nat},XN IV v r own (some g) (some t) (some mb) (some ib) (some cb) [r]->K (.pointer (some ⟨v.heap.size,0,none⟩)) (v.alloc (.cells #[.pointer (some ⟨g,0,none⟩),.pointer (some ⟨t,0,none⟩),.map (some mb),.slice (some ⟨ib,0,none⟩) 1 1,.map (some cb)] eA)):=
  fun h=>hK _ _ (h.fin k3.size) ((k3.tt h.kp).alloc _)
 have c3:r.1.size=32/\Cells IV (⟨w.heap.size,0,none⟩:Addr) r.1:=⟨r.2.1,Cells.bC pB⟩;refine⟨r.1,c3,r.1,c3,r.1,c3,?_⟩;have D:XD w IV r K:=⟨mi,uz⟩;exact n36 D N_3
end
end Go.Proofs.YtnboahlopghcjaaGreatDoor
