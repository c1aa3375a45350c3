import Derived.Test.YtnboahlopghcjaaGreatDoorMG
import Derived.Test.YtnboahlopghcjaaGreatDoorMH
import Derived.Test.YtnboahlopghcjaaGreatDoorME
import Derived.Laws.AppendOwn
open Go.IntKind (i64 u64)
set_option linter.unusedVariables false
namespace Go.Proofs.YtnboahlopghcjaaGreatDoor
open Go.Proofs.Tryz
open Go Go.bT
open Tr (jK)
structure r7(D:DG)(P:List Int):Prop where
 len:P.length=D.length
 root:P[0]? =some (-1)
 up:∀(i:Nat) (p:Int) nd,0<i->P[i]? =some p->D[i]? =some nd->∃(j:Nat) (m:DN),p=(j:Int)/\j<i/\D[j]? =some m/\m.id∈nd.ps
def Ch(D:DG)(P:List Int)(a b:HT):Prop:=∃(i k:Nat) (ni nk:DN),D[i]? =some ni/\ni.id=b/\D[k]? =some nk/\nk.id=a/\jK P i k
def kZ(D:DG)(P:List Int)(s c:HT):Prop:=∃(i j:Nat) (ni m:DN),D[i]? =some ni/\ni.id=c/\P[i]? =some (j:Int)/\D[j]? =some m/\m.id=s
def Na(D:DG)(P:List Int)(h c:HT):Prop:=fC D h c/\∃s,kZ D P s c/\h≠s/\¬fC D h s
section
variable{D:DG}{P:List Int}
theorem r7.par(H:r7 D P):Tr.nM P:=⟨H.root,fun i p hi hp=>by
 have dQ:=(lgeS hp).1;rw [H.len]at dQ;obtain⟨j,m,h1,h2,_⟩:=H.up i p _ hi hp (List.getElem?_eq_getElem dQ);exact⟨j,h2,h1⟩⟩
theorem kZ.par(H:r7 D P){s c:HT}(h:kZ D P s c):nM D s c:=by
 obtain⟨i,j,ni,m,h1,rfl,h3,h4,rfl⟩:=h;have hi:0<i:=by
  rcases Nat.eq_zero_or_pos i with rfl|h
  ·rw [H.root]at h3;simp only [Option.some.injEq]at h3;omega
  ·exact h
 obtain⟨j',m',e,_,h5,h6⟩:=H.up i _ ni hi h3 h1;have:j'=j:=by omega
 subst this;rw [h4]at h5;cases h5;exact⟨ni,List.mem_of_getElem? h1,rfl,h6⟩
theorem kZ.one(W:jC D){s s' c:HT}(h:kZ D P s c)(h':kZ D P s' c):s=s':=by
 obtain⟨i,j,ni,m,h1,rfl,h3,h4,rfl⟩:=h;obtain⟨i',j',ni',m',rK,e,Ec,ZY,rfl⟩:=h';have:=W.inj h1 rK e.symm;subst this;rw [h3]at Ec;simp only [Option.some.injEq]at Ec;have:j=j':=by omega
 subst this;rw [h4]at ZY;cases ZY;rfl
theorem kZ.ex(H:r7 D P){i:Nat}{ni:DN}(hi:0<i)(h:D[i]? =some ni):∃(j:Nat) (m:DN),j<i/\P[i]? =some (j:Int)/\D[j]? =some m/\kZ D P m.id ni.id:=by
 have dQ:=(lgeS h).1;obtain⟨p,hp⟩:∃p,P[i]? =some p:=⟨_,List.getElem?_eq_getElem (by rw [H.len];exact dQ)⟩;obtain⟨j,m,rfl,hj,hm,_⟩:=H.up i p ni hi hp h;exact⟨j,m,hj,hp,hm,i,j,ni,m,h,rfl,hp,hm,rfl⟩
theorem Ch.refl(H:r7 D P){a:HT}(h:a∈ids D):Ch D P a a:=by
 obtain⟨nd,dW,e⟩:=dI.1 h;obtain⟨i,hi⟩:=List.mem_iff_getElem?.1 dW;exact⟨i,i,nd,nd,hi,e,hi,e,.refl (by rw [H.len];exact(lgeS hi).1)⟩
theorem Ch.mem{a b:HT}(h:Ch D P a b):a∈ids D/\b∈ids D:=by
 obtain⟨i,k,ni,nk,h1,h2,h3,h4,_⟩:=h;exact⟨dI.2 ⟨nk,List.mem_of_getElem? h3,h4⟩,dI.2 ⟨ni,List.mem_of_getElem? h1,h2⟩⟩
theorem Ch.step(W:jC D){a s c:HT}(hs:kZ D P s c)(h:Ch D P a s):Ch D P a c:=by
 obtain⟨i,j,ni,m,h1,rfl,h3,h4,rfl⟩:=hs;obtain⟨j',k,nj,nk,g1,g2,g3,g4,g5⟩:=h;have:=W.inj g1 h4 g2;subst this;exact⟨i,k,ni,nk,h1,rfl,g3,g4,.step h3 g5⟩
theorem Ch.GA(W:jC D)(H:r7 D P){a b:HT}(h:Ch D P a b):a=b\/fC D a b:=by
 obtain⟨i,k,ni,nk,h1,rfl,h3,rfl,h5⟩:=h
 induction h5 generalizing ni with
 |refl _=>rw [h1]at h3;cases h3;exact .inl rfl
 | @step i j k hj hu ih=>
   have rW:=hu.lt;rw [H.len]at rW;obtain⟨m,hm⟩:∃m,D[j]? =some m:=⟨_,List.getElem?_eq_getElem rW⟩;have hp:nM D m.id ni.id:=kZ.par H ⟨i,j,ni,m,h1,rfl,hj,hm,rfl⟩;rcases ih m hm h3 with e|e
   ·rw [e];exact .inr (.one hp)
   ·exact .inr (.more e hp)
theorem Kg(W:jC D)(H:r7 D P){a b:HT}(fD:a≠b):fC D a b↔Ch D P a b\/∃c,Na D P a c/\Ch D P c b:=by
 constructor
 ·intro h
  obtain⟨nb,We,e⟩:=dI.1 (h.mem W).2;obtain⟨i,hb⟩:=List.mem_iff_getElem?.1 We;clear We;subst e
  induction i using Nat.strongRecOn generalizing nb with
  |_ i ih=>
   have hi:0<i:=by
    rcases Nat.eq_zero_or_pos i with rfl|h0
    ·exfalso
     obtain⟨x,y,mx,my,oF,_,hy,_,e2⟩:=h.at_ W;have:=W.inj hy hb e2;omega
    ·exact h0
   obtain⟨j,m,hj,_,hm,hs⟩:=kZ.ex H hi hb;by_cases e1:a=m.id
   ·exact .inl (Ch.step W hs (by rw [e1];exact Ch.refl H (dI.2 ⟨m,List.mem_of_getElem? hm,rfl⟩)))
   ·by_cases e2:fC D a m.id
    ·rcases ih j hj m hm e1 e2 with e3|⟨c,e3,e4⟩
     ·exact .inl (Ch.step W hs e3)
     ·exact .inr ⟨c,e3,Ch.step W hs e4⟩
    ·exact .inr ⟨nb.id,⟨h,m.id,hs,e1,e2⟩,Ch.refl H (dI.2 ⟨nb,List.mem_of_getElem? hb,rfl⟩)⟩
 ·rintro(h|⟨c,⟨h1,_⟩,h2⟩)
  ·exact(h.GA W H).resolve_left fD
  ·rcases h2.GA W H with e|e
   ·rw [<-e];exact h1
   ·exact h1.trans e
theorem r7.snoc(H:r7 D P){nd:DN}{j:Nat}{m:DN}(hj:D[j]? =some m)(hm:m.id∈nd.ps)(iq:0<D.length):r7 (D++ [nd]) (P++ [(j:Int)]) where
 len:=by simp [H.len]
 root:=by rw [List.getElem?_append_left (by rw [H.len];exact iq)];exact H.root
 up:=fun i p nd' hi hp dW=>by
  have rW:=(lgeS hj).1;by_cases h:i<D.length
  ·rw [List.getElem?_append_left (by rw [H.len];exact h)]at hp
   rw [List.getElem?_append_left h]at dW;obtain⟨j',m',e,h1,h2,h3⟩:=H.up i p nd' hi hp dW;exact⟨j',m',e,h1,by rw [List.getElem?_append_left (by omega)];exact h2,h3⟩
  ·have dQ:=(lgeS dW).1
   have e:i=D.length:=by simp at dQ;omega
   subst e;rw [<-H.len]at hp;simp at hp dW;subst hp dW;exact⟨j,m,rfl,rW,by rw [List.getElem?_append_left rW];exact hj,hm⟩
theorem nP(W:jC D)(H:r7 D P){nd:DN}(hn:nd.id∉ids D){j:Nat}{m:DN}(hj:D[j]? =some m){s c:HT}:
 kZ (D++ [nd]) (P++ [(j:Int)]) s c↔kZ D P s c\/(c=nd.id/\s=m.id):=by
 have rW:=(lgeS hj).1;constructor
 ·rintro⟨i,k,ni,mk,h1,rfl,h3,h4,rfl⟩
  by_cases h:i<D.length
  ·rw [List.getElem?_append_left h]at h1
   rw [List.getElem?_append_left (by rw [H.len];exact h)]at h3;have hk:k<D.length:=by
    rcases Nat.eq_zero_or_pos i with rfl|h0
    ·rw [H.root]at h3;simp only [Option.some.injEq]at h3;omega
    ·obtain⟨k',_,e,h5,_⟩:=H.up i _ ni h0 h3 h1
     omega
   rw [List.getElem?_append_left hk]at h4;exact .inl ⟨i,k,ni,mk,h1,rfl,h3,h4,rfl⟩
  ·have dQ:=(lgeS h1).1
   have e:i=D.length:=by simp at dQ;omega
   subst e;have Ec:=h3;rw [<-H.len]at Ec;simp at h1 Ec;subst h1;have:k=j:=by omega
   subst this;rw [List.getElem?_append_left rW,hj]at h4;cases h4;exact .inr ⟨rfl,rfl⟩
 ·rintro(⟨i,k,ni,mk,h1,rfl,h3,h4,rfl⟩|⟨rfl,rfl⟩)
  ·have hi:=(lgeS h1).1
   have hk:=(lgeS h4).1;exact⟨i,k,ni,mk,by rw [List.getElem?_append_left hi];exact h1,rfl,by rw [List.getElem?_append_left (by rw [H.len];exact hi)];exact h3,by rw [List.getElem?_append_left hk];exact h4,rfl⟩
  ·exact⟨D.length,j,nd,m,by simp,rfl,by rw [<-H.len];simp,by rw [List.getElem?_append_left rW];exact hj,rfl⟩
theorem JV(W:jC D)(H:r7 D P){nd:DN}(hn:nd.id∉ids D)(fN:∀p∈nd.ps,p∈ids D){j:Nat}{m:DN}(hj:D[j]? =some m){h c:HT}:
 Na (D++ [nd]) (P++ [(j:Int)]) h c↔Na D P h c\/(c=nd.id/\fC (D++ [nd]) h nd.id/\h≠m.id/\¬fC D h m.id):=by
 have hm:m.id∈ids D:=dI.2 ⟨m,List.mem_of_getElem? hj,rfl⟩;have key:∀ {s c},kZ D P s c->s∈ids D/\c∈ids D:=fun hs=>(fC.one (kZ.par H hs)).mem W;constructor
 ·rintro⟨h1,s,hs,h2,h3⟩
  rcases(nP W H hn hj).1 hs with hs|⟨rfl,rfl⟩
  ·obtain⟨g1,g2⟩:=key hs
   exact .inl ⟨(iZ W hn g2).1 h1,s,hs,h2,fun e=>h3 ((iZ W hn g1).2 e)⟩
  ·exact .inr ⟨rfl,h1,h2,fun e=>h3 ((iZ W hn hm).2 e)⟩
 ·rintro(⟨h1,s,hs,h2,h3⟩|⟨rfl,h1,h2,h3⟩)
  ·obtain⟨g1,g2⟩:=key hs
   exact⟨(iZ W hn g2).2 h1,s,(nP W H hn hj).2 (.inl hs),h2,fun e=>h3 ((iZ W hn g1).1 e)⟩
  ·exact⟨h1,m.id,(nP W H hn hj).2 (.inr ⟨rfl,rfl⟩),h2,fun e=>h3 ((iZ W hn hm).1 e)⟩
inductive Up (P:List Int):Nat->List Nat->Prop
 |root:Up P 0 [0]
 |step {i j:Nat} {l:List Nat}:P[i]? =some (j:Int)->Up P j l->Up P i (i::l)
theorem Up.ex(hP:Tr.nM P):∀i,i<P.length->∃l,Up P i l:=by
 intro i
 induction i using Nat.strongRecOn with
 |_ i ih=>
  intro hi;rcases Nat.eq_zero_or_pos i with rfl|h0
  ·exact⟨[0],.root⟩
  ·obtain⟨j,h1,h2⟩:=hP.up i _ h0 (List.getElem?_eq_getElem hi)
   obtain⟨l,hl⟩:=ih j h1 (by omega);exact⟨i::l,.step (by rw [List.getElem?_eq_getElem hi,h2]) hl⟩
theorem Up.mem(hP:Tr.nM P){i:Nat}{l:List Nat}(h:Up P i l)(hi:i<P.length){k:Nat}:k∈l↔jK P i k:=by
 induction h with
 |root=>
  rw [List.mem_singleton];constructor
  ·rintro rfl;exact .refl hi
  ·intro h;have:=h.le hP;omega
 | @step i j l hj hu ih=>
   have rW:j<P.length:=by have:=(Tr.iN hP (Tr.eV.2 hj)).1;omega
   rw [List.mem_cons,ih rW];constructor
   ·rintro(rfl|h)
    ·exact .refl hi
    ·exact .step hj h
   ·intro h
    by_cases e:k=i
    ·exact .inl e
    ·exact .inr (h.inv (fun e'=>e e'.symm) hj)
theorem Up.one(hP:Tr.nM P){i:Nat}{l l':List Nat}(h:Up P i l)(h':Up P i l'):l=l':=by
 induction h generalizing l' with
 |root=>
  cases h' with
  |root=>rfl
  |step hj _=>rw [hP.root]at hj;simp only [Option.some.injEq]at hj;omega
 | @step i j l hj hu ih=>
   cases h' with
   |root=>rw [hP.root]at hj;simp only [Option.some.injEq]at hj;omega
   | @step _ j' l' tz LZ=>
     rw [hj]at tz;simp only [Option.some.injEq]at tz;have:j=j':=by omega
     subst this;rw [ih LZ]
theorem Up.head{i:Nat}{l:List Nat}(h:Up P i l):l[0]? =some i:=by cases h<;>rfl
theorem Up.lt(hP:Tr.nM P){i:Nat}{l:List Nat}(h:Up P i l)(hi:i<P.length):∀k∈l,k<P.length:=fun k hk=>((h.mem hP hi).1 hk).Zb
end
end Go.Proofs.YtnboahlopghcjaaGreatDoor
namespace Go.Proofs.YtnboahlopghcjaaGreatDoor
open Go.Proofs.Tryz
open Go Go.bT Go.RowKit
structure wu(mt te:TypeId)(z:Value):Prop where
 oD:prog.underlying mt=some (.map aj te)
 zero:∀w,(zeroValue te).run prog w=.ok z w
def assoc(h:HT):List (HT×Value)->Option Value
 | []=>none
 |(x,v)::l=>if h=x then some v else assoc h l
def lA(h:HT):List (HT×Value)->Nat->Option (Nat×Value)
 | [],_=>none
 |(x,v)::l,i=>if h=x then some (i,v)else lA h l (i+1)
theorem mw(h:HT):∀(l:List (HT×Value)) (i:Nat),(lA h l i).map (·.2)=assoc h l
 | [],_=>rfl
 |(x,v)::l,i=>by
  unfold lA assoc;split
  ·rfl
  ·exact mw h l (i+1)
theorem vm{h:HT}:∀ {l:List (HT×Value)} {i j:Nat} {v:Value},lA h l i=some (j,v)->i<=j/\l[j-i]? =some (h,v)/\∀(x:HT) (u:Value),assoc x (l.set (j-i) (h,u))=if x=h then some u else assoc x l
 | [],i,j,v,e=>by simp [lA]at e
 |(x,u)::l,i,j,v,e=>by
  unfold lA at e;split at e
  ·rename_i hx
   cases e;subst hx;refine⟨Nat.le_refl _,by rw [Nat.sub_self];rfl,fun x u=>?_⟩;rw [Nat.sub_self];simp only [List.set_cons_zero,assoc];by_cases hx:x=h<;>simp [hx]
  ·rename_i hx
   obtain⟨h1,h2,h3⟩:=vm e;have e1:j-i=(j-(i+1))+1:=by omega
   refine⟨by omega,by rw [e1];exact h2,fun y u'=>?_⟩;rw [e1];simp only [List.set_cons_succ,assoc,h3];by_cases hy:y=h
   ·subst hy;simp [hx]
   ·simp [hy]
theorem vA{h:HT}{v:Value}:∀ {l:List (HT×Value)},assoc h l=none->∀x,assoc x (l++ [(h,v)])=if x=h then some v else assoc x l
 | [],_,x=>by simp [assoc]
 |(y,u)::l,e,x=>by
  unfold assoc at e;split at e
  ·cases e
  ·rename_i hy
   have ih:=vA (v:=v) e x;simp only [List.cons_append,assoc,ih];by_cases hx:x=y
   ·subst hx;simp [Ne.symm hy]
   ·simp [hx]
def mO(es:List MapEntry)(l:List (HT×Value)):Prop:=match es,l with
 | [],[]=>True
 |e::es,p::l=>(e.key=.agg p.1.1/\e.val=p.2)/\mO es l
 |_,_=>False
theorem mO.snoc:∀ {es:List MapEntry} {l:List (HT×Value)} {e:MapEntry} {p:HT×Value},mO es l->e.key=.agg p.1.1->e.val=p.2->mO (es++ [e]) (l++ [p])
 | [],[],_,_,_,h1,h2=>⟨⟨h1,h2⟩,trivial⟩
 |_::_,_::_,_,_,he,h1,h2=>⟨he.1,mO.snoc he.2 h1 h2⟩
 | [],_::_,_,_,he,_,_=>he.elim
 |_::_,[],_,_,he,_,_=>he.elim
theorem mO.get:∀ {es:List MapEntry} {l:List (HT×Value)} {j:Nat} {p:HT×Value},mO es l->l[j]? =some p->∃e,es[j]? =some e/\e.key=.agg p.1.1/\e.val=p.2
 | [],[],_,_,_,h=>by simp at h
 |e::_,_::_,0,_,he,h=>by
  simp only [List.getElem?_cons_zero,Option.some.injEq]at h;subst h;exact⟨e,rfl,he.1⟩
 |_::_,_::_,j+1,_,he,h=>by
  obtain⟨e,h1,h2⟩:=mO.get he.2 (j:=j) (by simpa using h);exact⟨e,by simpa using h1,h2⟩
 | [],_::_,_,_,he,_=>he.elim
 |_::_,[],_,_,he,_=>he.elim
theorem mO.set:∀ {es:List MapEntry} {l:List (HT×Value)} {j:Nat} {p:HT×Value} {f:MapEntry->MapEntry},mO es l->(∀e,(f e).key=.agg p.1.1/\(f e).val=p.2)->mO (es.modify j f) (l.set j p)
 | [],[],_,_,_,he,_=>by simpa using he
 |_::_,_::_,0,_,_,he,hf=>⟨hf _,he.2⟩
 |_::_,_::_,j+1,_,_,he,hf=>by
  simp only [List.modify_succ_cons,List.set_cons_succ];exact⟨he.1,mO.set he.2 hf⟩
 | [],_::_,_,_,_,he,_=>he.elim
 |_::_,[],_,_,_,he,_=>he.elim
theorem mO.len:∀ {es:List MapEntry} {l:List (HT×Value)},mO es l->es.length=l.length
 | [],[],_=>rfl
 |_::_,_::_,he=>by simp [mO.len he.2]
 | [],_::_,he=>he.elim
 |_::_,[],he=>he.elim
section
variable{w:World}
theorem qU(h:HT)(w:World):∀(es:List MapEntry) (l:List (HT×Value)) (i:Nat),mO es l->
 (Instr.findAsking aj (.agg h.1) es i).run prog w=.ok (lA h l i) w
 | [],[],i,_=>by simp [Instr.findAsking,lA]
 |e::es,(x,v)::l,i,he=>by
  have hq:=uv h x w;have ih:=qU h w es l (i+1) he.2;simp only [Instr.findAsking,he.1.1,Sem.run_bind,hq,Result.andThen_ok];by_cases hx:h=x
  ·simp [hx,lA,he.1.2]
  ·simp [hx,lA,ih]
 | [],_::_,_,he=>he.elim
 |_::_,[],_,he=>he.elim
theorem lC(h:HT)(w:World){es:List MapEntry}{l:List (HT×Value)}(he:mO es l):
 (Instr.findKey aj (.agg h.1) es).run prog w=.ok (lA h l 0) w:=by
 have h1:=qU h w es l 0 he;simp only [Instr.findKey,Sem.run_bind,run_underlying K0,Result.andThen_ok];cases es with
 |nil=>
  cases l with
  |nil=>simp [Instr.findNow,lA]
  |cons x l=>exact he.elim
 |cons e es=>
  have:Instr.findNow (.array 32 iD) (.agg h.1) (e::es) 0=none:=by
   simp only [Instr.findNow,Instr.sameNow]
  rw [this];exact h1
theorem EZ(h:HT):Instr.sameBits 10000 (.agg h.1) (.agg h.1)=true:=by
 show Instr.sameBits (9999+1) (.agg h.1) (.agg h.1)=true
 rw [Instr.sameBits];simp only [beq_self_eq_true,Bool.true_and,List.all_eq_true];rintro⟨x,y⟩ oF;have hxe:x=y:=by
  obtain⟨i,hi⟩:=List.mem_iff_getElem?.1 oF;rw [List.getElem?_zip_eq_some]at hi;have:=hi.1.symm.trans hi.2;simpa using this
 subst hxe;have hm:=(List.of_mem_zip oF).1;obtain⟨n,rfl,_⟩:=h.2.2 x hm;simp [Instr.sameBits]
structure fp(w:World)(m:Nat)(f:HT->Option Value):Prop where
 ex:∃es clock l,w.heap[m]? =some (.map es clock)/\mO es.toList l/\(∀x,assoc x l=f x)/\(∀e∈es.toList,e.born<clock)/\(es.toList.map (·.born)).Nodup/\(l.map (·.1)).Nodup
theorem fp.az{S:Nat->Prop}{w w':World}{m:Nat}{f:HT->Option Value}(h:fp w m f)(hk:Kept S w w')(hn:¬S m):fp w' m f:=by
 obtain⟨es,clock,l,h1,h2⟩:=h.ex;exact⟨es,clock,l,hk.heap h1 hn,h2⟩
theorem fp.same{w w':World}{m:Nat}{f:HT->Option Value}(h:fp w m f)(hk:Kept Nil w w'):fp w' m f:=h.az hk (fun h=>h)
theorem fp.lt{w:World}{m:Nat}{f:HT->Option Value}(h:fp w m f):m<w.heap.size:=by
 obtain⟨es,clock,l,h1,_⟩:=h.ex;exact aO h1
theorem fp.new(w:World):fp (w.alloc (.map #[] 0)) w.heap.size (fun _=>none):=⟨#[],0,[],aH w _,trivial,fun _=>rfl,by simp,by simp,by simp⟩
theorem fp.look{mt te:TypeId}{z:Value}(T:wu mt te z){m:Nat}{f:HT->Option Value}(hm:fp w m f)(h:HT):
 (Instr.lookup mt (.map (some m)) (.agg h.1) false).run prog w=.ok ((f h).getD z) w:=by
 obtain⟨es,clock,l,h1,h2,h3,_⟩:=hm.ex;have h4:=lC h w h2;have h5:=mw h l 0;rw [h3]at h5;simp only [Instr.lookup,Sem.run_bind,run_underlying T.oD,ph h1,Result.andThen_ok,Sem.run_pure,iU,h4];cases hp:lA h l 0 with
 |none=>rw [hp]at h5;simp [<-h5,T.zero]
 |some p=>rw [hp]at h5;simp [<-h5]
theorem fp.put{mt te:TypeId}{z:Value}(T:wu mt te z){m:Nat}{f:HT->Option Value}(hm:fp w m f)(h:HT)(v:Value):
 ∃w',(Instr.mapUpdate mt (.map (some m)) (.agg h.1) v).run prog w=.ok () w'/\fp w' m (fun x=>if x=h then some v else f x)/\Kept (· =m) w w':=by
 obtain⟨es,clock,l,h1,h2,h3,hb,hd,hk⟩:=hm.ex;have h4:=lC h w h2;have kept:∀o,Kept (· =m) w {w with heap:=w.heap.setIfInBounds m o}:=fun o=>⟨rfl,rfl,rfl,by simp,fun k _ hk=>by simp [Ne.symm hk]⟩;cases hp:lA h l 0 with
 |none=>
  rw [hp]at h4;have h5:=mw h l 0;rw [hp]at h5;refine⟨{w with heap:=w.heap.setIfInBounds m (.map (es.push {key:=.agg h.1,val:=v,born:=clock}) (clock+1))},?_,⟨es.push {key:=.agg h.1,val:=v,born:=clock},clock+1,l++ [(h,v)],?_,?_,?_,?_,?_,?_⟩,kept _⟩
  ·simp only [Instr.mapUpdate,Sem.run_bind,run_underlying T.oD,ph h1,Result.andThen_ok,iU,h4,BG _ h1]
  ·simp [aO h1]
  ·have:=h2.snoc (e:= {key:=.agg h.1,val:=v,born:=clock}) (p:=(h,v)) rfl rfl
   simpa using this
  ·intro x
   rw [vA h5.symm,h3]
  ·intro e he
   rw [Array.toList_push,List.mem_append,List.mem_singleton]at he;rcases he with he|rfl
   ·have:=hb e he;omega
   ·exact Nat.lt_succ_self _
  ·rw [Array.toList_push,List.map_append,List.nodup_append]
   refine⟨hd,by simp,fun a ha b v7 e=>?_⟩;simp only [List.map_cons,List.map_nil,List.mem_singleton]at v7;obtain⟨e',My,rfl⟩:=List.mem_map.1 ha;have:=hb e' My;omega
  ·rw [List.map_append,List.nodup_append]
   refine⟨hk,by simp,fun a ha b v7 e=>?_⟩;simp only [List.map_cons,List.map_nil,List.mem_singleton]at v7;subst v7;subst e;have key:∀l:List (HT×Value),a∈l.map (·.1)->assoc a l≠none:=fun l=>by
    induction l with
    |nil=>simp
    |cons p l ih=>
     obtain⟨y,u⟩:=p;intro hm;unfold assoc;split
     ·simp
     ·rename_i hy
      simp only [List.map_cons,List.mem_cons]at hm;exact ih (hm.resolve_left hy)
   exact key l ha h5.symm
 |some p=>
  obtain⟨j,u⟩:=p;rw [hp]at h4;obtain⟨_,h6,h7⟩:=vm hp;rw [Nat.sub_zero]at h6 h7;obtain⟨e,he1,Te,_⟩:=h2.get h6;have hes:es[j]? =some e:=by simpa using he1
  refine⟨{w with heap:=w.heap.setIfInBounds m (.map (es.modify j fun e=> {e with key:=.agg h.1,val:=v}) clock)},?_,⟨es.modify j fun e=> {e with key:=.agg h.1,val:=v},clock,l.set j (h,v),?_,?_,?_,?_,?_,?_⟩,kept _⟩
  ·simp only [Instr.mapUpdate,Sem.run_bind,run_underlying T.oD,ph h1,Result.andThen_ok,iU,h4,Instr.keyThatStays,hes,Option.map_some,Option.getD_some,Te,EZ,if_true,Sem.run_pure,BG _ h1]
  ·simp [aO h1]
  ·rw [Array.toList_modify]
   exact h2.set (p:=(h,v)) fun e=>⟨rfl,rfl⟩
  ·intro x
   rw [h7,h3]
  ·intro x hx
   rw [Array.toList_modify]at hx;obtain⟨i,hi⟩:=List.mem_iff_getElem?.1 hx;rw [List.getElem?_modify]at hi;cases hg:es.toList[i]? with
   |none=>rw [hg]at hi;simp at hi
   |some y=>
    rw [hg]at hi;have:=hb y (List.mem_of_getElem? hg);by_cases rI:j=i
    ·simp [rI]at hi
     rw [<-hi];exact this
    ·simp [rI]at hi
     rw [<-hi];exact this
  ·have:(es.modify j fun e=> {e with key:=.agg h.1,val:=v}).toList.map (·.born)=es.toList.map (·.born):=by
    rw [Array.toList_modify];apply List.ext_getElem?;intro i;rw [List.getElem?_map,List.getElem?_map,List.getElem?_modify];cases es.toList[i]? with
    |none=>simp
    |some y=>by_cases rI:j=i<;>simp [rI]
   rw [this];exact hd
  ·have:(l.set j (h,v)).map (·.1)=l.map (·.1):=by
    apply List.ext_getElem?;intro i;rw [List.getElem?_map,List.getElem?_map,List.getElem?_set];by_cases rI:j=i
    ·subst rI
     have cH:=(lgeS h6).1;have gq:=(lgeS h6).2;simp [cH,gq]
    ·simp [rI]
   rw [this];exact hk
end
end Go.Proofs.YtnboahlopghcjaaGreatDoor
namespace Go.Proofs.YtnboahlopghcjaaGreatDoor
open Go.Proofs.Tryz
open Go Go.bT Go.RowKit
open Tr (jK)
theorem tU{te:TypeId}{z:Value}(h:(prog.info? te).bind (·.zero)=some z)(w:World):(zeroValue te).run prog w=.ok z w:=by
 cases hi:prog.info? te with
 |none=>rw [hi]at h;cases h
 |some i=>
  rw [hi]at h;have hz:i.zero=some z:=h;simp [zeroValue,typeInfo,hi,hz]
theorem rl:wu fk aA (.slice none 0 0):=⟨by kernel_rfl,tU (by kernel_rfl)⟩
theorem HY:wu kX sY (.agg #[.bool false]):=⟨by kernel_rfl,tU (by kernel_rfl)⟩
structure XM where
 g:Nat
 t:Nat
 mb:Nat
 ib:Nat
 ic:Nat
 cb:Nat
 T:List Tr.Nd
 d:Int
 SG:Nat->Prop
 ST:Nat->Prop
 SO:Nat->Prop
def XM.own(m:XM)(x k:Nat):Prop:=k=x\/k=m.mb\/k=m.ib\/k=m.cb
def XM.jB(m:XM)(x k:Nat):Prop:=m.SG k\/m.ST k\/m.SO k\/m.own x k
def mC(w:World)(SO:Nat->Prop)(N:Nat)(v:Option Value)(l:List HT):Prop:=
 (v=none/\l= [])\/∃(A:Option Addr) (n c:Nat),v=some (.slice A n c)/\n<=c/\HS w A n l/\n<=N/\∀a,A=some a->SO a.block
structure XV(w:World)(F:Nat->Prop)(x:Nat)(D:DG)(P:List Int)(m:XM):Prop where
 top:w.heap[x]? =some (.cells #[.pointer (some ⟨m.g,0,none⟩),.pointer (some ⟨m.t,0,none⟩),.map (some m.mb),.slice (some ⟨m.ib,0,none⟩) D.length m.ic,.map (some m.cb)] cM (0,0))
 G:yM w m.SG F m.g D
 T:Tr.nE w m.ST m.t m.T m.d
 Gk:Tr.wv m.T
 bP:Tr.bP m.T=P
 dl:0<=m.d/\m.d<=D.length
 at_:IsMap w m.mb (ids D)
 row:bL w 0 (some ⟨m.ib,0,none⟩) D.length m.ic (ids D)
 YB:∃f,fp w m.cb f/\∀h,∃l,mC w m.SO D.length (f h) l/\∀c,c∈l↔Na D P h c
 jX:r7 D P
 W:jC D
 gt:∀k,m.SG k->¬m.ST k/\¬m.SO k
 to:∀k,m.ST k->¬m.SO k
 fd:∀k,F k->¬m.ST k/\¬m.SO k
 od:∀k,m.own x k->¬m.SG k/\¬m.ST k/\¬m.SO k/\¬F k
 ne:x≠m.mb/\x≠m.ib/\x≠m.cb/\m.mb≠m.ib/\m.mb≠m.cb/\m.ib≠m.cb
 low:∀k,m.jB x k\/F k->k<w.heap.size
def Bc(w:World)(S F:Nat->Prop)(x:Nat)(D:DG)(P:List Int):Prop:=∃m,XV w F x D P m/\∀k,m.jB x k->S k
section
variable{w w':World}{F S:Nat->Prop}{x:Nat}{D:DG}{P:List Int}{m:XM}{K:Value->World->Prop}
theorem mC.az{S0 SO:Nat->Prop}{N:Nat}{v:Option Value}{l:List HT}(h:mC w SO N v l)(hk:Kept S0 w w')(hn:∀k,SO k->¬S0 k):mC w' SO N v l:=by
 rcases h with h|⟨A,n,c,h1,h2,h3,h4,h5⟩
 ·exact .inl h
 ·exact .inr ⟨A,n,c,h1,h2,h3.az hk (fun a ha=>hn _ (h5 a ha)),h4,h5⟩
theorem XV.az{S0:Nat->Prop}(h:XV w F x D P m)(hk:Kept S0 w w')(hS:∀k,m.jB x k->¬S0 k)(hF:∀k,F k->¬S0 k):XV w' F x D P m where
 top:=hk.heap h.top (hS _ (.inr (.inr (.inr (.inl rfl)))))
 G:=h.G.az hk (fun k e=>hS k (.inl e)) hF
 T:=h.T.az hk (fun k e=>hS k (.inr (.inl e)))
 Gk:=h.Gk
 bP:=h.bP
 dl:=h.dl
 at_:=h.at_.az hk (hS _ (.inr (.inr (.inr (.inr (.inl rfl))))))
 row:=Row.az h.row hk (fun k e=>by cases e;exact hS _ (.inr (.inr (.inr (.inr (.inr (.inl rfl)))))))
 YB:=by
  obtain⟨f,h1,h2⟩:=h.YB;refine⟨f,h1.az hk (hS _ (.inr (.inr (.inr (.inr (.inr (.inr rfl))))))),fun y=>?_⟩;obtain⟨l,h3,h4⟩:=h2 y;exact⟨l,h3.az hk (fun k e=>hS k (.inr (.inr (.inl e)))),h4⟩
 jX:=h.jX
 W:=h.W
 gt:=h.gt
 to:=h.to
 fd:=h.fd
 od:=h.od
 ne:=h.ne
 low:=fun k e=>Nat.lt_of_lt_of_le (h.low k e) hk.size
theorem XV.same(h:XV w F x D P m)(hk:Kept Nil w w'):XV w' F x D P m:=h.az hk (fun _ _ h=>h) (fun _ _ h=>h)
theorem Bc.az{S0:Nat->Prop}(h:Bc w S F x D P)(hk:Kept S0 w w')(hS:∀k,S k->¬S0 k)(hF:∀k,F k->¬S0 k):Bc w' S F x D P:=
 let ⟨m,h1,h2⟩:=h;⟨m,h1.az hk (fun k e=>hS k (h2 k e)) hF,h2⟩
theorem Bc.same(h:Bc w S F x D P)(hk:Kept Nil w w'):Bc w' S F x D P:=h.az hk (fun _ _ h=>h) (fun _ _ h=>h)
theorem XV.c0(h:XV w F x D P m):w.cell? ((⟨x,0,none⟩:Addr).add 0)=some (.pointer (some ⟨m.g,0,none⟩)):=by rw [a8,ay h.top];rfl
theorem XV.c1(h:XV w F x D P m):w.cell? ((⟨x,0,none⟩:Addr).add 1)=some (.pointer (some ⟨m.t,0,none⟩)):=by rw [a8,ay h.top];rfl
theorem XV.c2(h:XV w F x D P m):w.cell? ((⟨x,0,none⟩:Addr).add 2)=some (.map (some m.mb)):=by rw [a8,ay h.top];rfl
theorem XV.c3(h:XV w F x D P m):w.cell? ((⟨x,0,none⟩:Addr).add 3)=some (.slice (some ⟨m.ib,0,none⟩) D.length m.ic):=by rw [a8,ay h.top];rfl
theorem XV.c4(h:XV w F x D P m):w.cell? ((⟨x,0,none⟩:Addr).add 4)=some (.map (some m.cb)):=by rw [a8,ay h.top];rfl
theorem XV.K3(h:XV w F x D P m):m.T.length=D.length:=by
 have:=Tr.eU m.T;rw [h.bP,h.jX.len]at this;exact this.symm
theorem XV.oD(h:XV w F x D P m){i k:Nat}{id kd:Tr.Nd}(hi:m.T[i]? =some id)(hk:m.T[k]? =some kd):decide (kd.lo<=id.lo/\id.hi<=kd.hi)=true↔jK P i k:=by
 rw [decide_eq_true_iff,<-h.bP];exact h.Gk.under hi hk
theorem Ea(a b:HT):a.1.toList++(b.1.toList++ [])=df [a,b]:=by simp [df]
theorem oW(h:XV w F x D P m)(hK:K (.bool true) w):bj prog fg.id #[.pointer (some ⟨x,0,none⟩)] w K:=
 fg.of (Split.yes rfl ⟨_,h.c0,hK⟩)
theorem yo{xb:Nat}(h:XV w F x D P m)(hg:w.heap[xb]? =some (.cells #[.pointer (some ⟨x,0,none⟩)] ga (0,0))){A:Option Addr}{n cx:Nat}{l:List HT}(hl:HS w A n l)(hn:n<=400000)
 (hK:∀w' (b:Bool),(b=true↔∃p∈l,p∉ids D)->Kept Nil w w'->K (.bool b) w'):
 bj prog dH.id #[.slice A n cx,.func (.func dA.id) #[] #[.pointer (some ⟨xb,0,none⟩)]] w K:=by
 have hlen:=hl.len;refine bY.of (ao.of ?_);refine ao.b6 (I:=fun s w'=>∃i:Nat,s=(0,(i:Int))/\i<=n/\(∀p∈l.take i,p∈ids D)/\Kept Nil w w') (μ:=fun s _=>((n:Int)-s.2).toNat) (s:=(0,0)) ⟨0,rfl,Nat.zero_le _,by simp,Kept.refl _ _⟩ ?_;rintro s w' ⟨i,rfl,hi,cZ,kw⟩;refine Split.dec (fun jc=>?_) (fun gq=>?_)
 ·simp only at jc
  have dQ:i<n:=by omega
  obtain⟨y,hy⟩:∃y,l[i]? =some y:=⟨_,List.getElem?_eq_getElem (by omega)⟩;refine(hl.same kw).load (i:=(i:Int)) (by omega) hy ?_;refine dA.of ?_;unfold dA.W;intro w3 w4;have k3:Kept Nil w' w3:=(Kept.refl _ _).alloc _;have pN:w3.heap[w'.heap.size]? =some (.cells y.1 aj (0,0)):=aH w' _;have k4:Kept Nil w3 w4:=(Kept.refl _ _).drew;clear_value w4;have rX:=k4.heap pN (fun h=>h);have H8:=(kw.tt k3).tt k4;obtain⟨bl,c,mb,M,G⟩:=(h.same H8).G;refine⟨some ⟨x,0,none⟩,by rw [ay (H8.heap hg (fun h=>h))];rfl,_,(h.same H8).c0,y.1,⟨y.2.1,Cells.bz rX⟩,uc G y fun w7 k7=>⟨_,rfl,_,rfl,?_⟩⟩;have BS:=H8.tt k7;by_cases hm:y∈ids D
  ·refine Split.no (by rw [decide_eq_true hm];rfl) ?_
   simp only;rw [dw (n:=(i:Int)) (by omega) (by omega)];refine⟨(0,(i:Int)+1),rfl,⟨i+1,rfl,dQ,fun p hp=>?_,BS⟩,by simp only;omega⟩;rcases(bJ hy).1 hp with hp|rfl
   ·exact cZ p hp
   ·exact hm
  ·refine Split.yes (by rw [decide_eq_false hm];rfl) ?_
   refine⟨(i:Int),rfl,?_⟩;exact hK w7 _ ⟨fun _=>⟨y,List.mem_of_getElem? hy,hm⟩,fun _=>decide_eq_true (by omega)⟩ BS
 ·simp only at gq
  rw [aP,ao.cX];rw [List.take_of_length_le (by omega)]at cZ;exact⟨-1,rfl,hK w' _ ⟨fun h=>absurd (of_decide_eq_true h) (by omega),fun⟨p,hp,hn⟩=>absurd (cZ p hp) hn⟩ kw⟩
theorem pI(h:XV w F x D P m){A:Option Addr}{n cx:Nat}{l:List HT}(hl:HS w A n l)(hn:n<=400000)(hK:∀w',Kept Nil w w'->K (.bool (decide (∀p∈l,p∈ids D))) w'):
 bj prog fz.id #[.pointer (some ⟨x,0,none⟩),.slice A n cx] w K:=by
 refine fz.of ?_;unfold fz.W;intro w3;have k3:Kept Nil w w3:=(Kept.refl _ _).alloc _;have pN:w3.heap[w.heap.size]? =some (.cells #[.pointer (some ⟨x,0,none⟩)] ga (0,0)):=aH w _;clear_value w3;refine⟨_,by rw [ay pN];rfl,oW (h.same k3) ⟨true,rfl,Split.yes rfl ?_⟩⟩;refine yo (h.same k3) pN (hl.same k3) hn fun w9 b hb k9=>⟨b,rfl,?_⟩;have:(!b)=decide (∀p∈l,p∈ids D):=by
  rw [Bool.eq_iff_iff,decide_eq_true_iff,Bool.not_eq_true',<-Bool.not_eq_true,hb];constructor
  ·exact fun hn p hp=>Classical.byContradiction fun hc=>hn ⟨p,hp,hc⟩
  ·rintro ha ⟨p,hp,hc⟩;exact hc (ha p hp)
 rw [this];exact hK w9 (k3.tt k9)
theorem tk(h:XV w F x D P m)(a b:HT)(hK:∀w' (r:Bool),(r=true↔Ch D P a b)->Kept Nil w w'->K (.bool r) w'):
 bj prog eo.id #[.pointer (some ⟨x,0,none⟩),.agg a.1,.agg b.1] w K:=by
 refine eo.of ?_;unfold eo.W;intro w4 w5 w6;have k4:Kept Nil w w4:=(Kept.refl _ _).alloc _;have yj:w4.heap[w.heap.size]? =some (.cells a.1 aj (0,0)):=aH w _;have k5:Kept Nil w4 w5:=(Kept.refl _ _).alloc _;have nY:w5.heap[w4.heap.size]? =some (.cells b.1 aj (0,0)):=aH w4 _;have k6:Kept Nil w5 w6:=(Kept.refl _ _).drew;clear_value w6;have v8:=(k5.tt k6).heap yj (fun h=>h);have p7:=k6.heap nY (fun h=>h);have nK:=(k4.tt k5).tt k6;refine⟨a.1,⟨a.2.1,Cells.bz v8⟩,b.1,⟨b.2.1,Cells.bz p7⟩,a.2.1,b.2.1,?_⟩;intro w9;have k9:Kept Nil w6 w9:=(Kept.refl _ _).alloc _;have Va:HS w9 (some ⟨w6.heap.size,0,none⟩) 2 [a,b]:=HS.lay (l:= [a,b]) (t:=aj) (by rw [<-Ea a b];exact aH w6 _);clear_value w9;have FO:=nK.tt k9;refine pI (h.same FO) Va (by omega) fun qR vE=>⟨_,rfl,?_⟩;have Qi:=FO.tt vE;have KL:=h.same Qi;by_cases cZ:∀p∈ [a,b],p∈ids D
 ·refine Split.yes (decide_eq_true cZ) ?_
  obtain⟨na,Mj,ea⟩:=dI.1 (cZ a (by simp));obtain⟨nb,We,eb⟩:=dI.1 (cZ b (by simp));obtain⟨k,hk⟩:=List.mem_iff_getElem?.1 Mj;obtain⟨i,hi⟩:=List.mem_iff_getElem?.1 We;have yh:=(lgeS hk).1;have dQ:=(lgeS hi).1;have Zs:=h.K3;obtain⟨kd,WH⟩:=Tr.fJ (T:=m.T) (i:=k) (by omega);obtain⟨nd,dW⟩:=Tr.fJ (T:=m.T) (i:=i) (by omega);have UK:=k9.tt vE;have l1:=KL.at_.wO b;have l2:=KL.at_.wO a;rw [<-eb,h.W.pos_eq hi]at l1;rw [<-ea,h.W.pos_eq hk]at l2;rw [eb]at l1;rw [ea]at l2;refine⟨_,KL.c1,_,KL.c2,b.1,⟨b.2.1,Cells.bz (UK.heap p7 (fun h=>h))⟩,_,l1,_,KL.c2,a.1,⟨a.2.1,Cells.bz (UK.heap v8 (fun h=>h))⟩,_,l2,?_⟩;refine Tr.BB KL.T dW WH fun lJ qh=>⟨_,rfl,hK lJ _ ?_ (Qi.tt qh)⟩;rw [h.oD dW WH];constructor
  ·exact fun hu=>⟨i,k,nb,na,hi,eb,hk,ea,hu⟩
  ·rintro⟨i',k',ni,nk,h1,h2,h3,h4,h5⟩
   have e1:=h.W.inj h1 hi (by rw [h2,eb]);have e2:=h.W.inj h3 hk (by rw [h4,ea]);rw [<-e1,<-e2];exact h5
 ·refine Split.no (decide_eq_false cZ) (hK qR false ⟨(fun e=>by cases e),fun e=>absurd (fun p hp=>?_) cZ⟩ Qi)
  simp only [List.mem_cons,List.not_mem_nil,or_false]at hp;rcases hp with rfl|rfl
  ·exact e.mem.1
  ·exact e.mem.2
theorem vt{xb bb:Nat}{b:HT}(h:XV w F x D P m)(hg:w.heap[xb]? =some (.cells #[.pointer (some ⟨x,0,none⟩)] ga (0,0)))(hb:w.heap[bb]? =some (.cells b.1 aj (0,0))){A:Option Addr}{n cx:Nat}{l:List HT}(hl:HS w A n l)(hn:n<=400000)
 (hK:∀w' (r:Bool),(r=true↔∃c∈l,Ch D P c b)->Kept Nil w w'->K (.bool r) w'):
 bj prog dH.id #[.slice A n cx,.func (.func cJ.id) #[] #[.pointer (some ⟨xb,0,none⟩),.pointer (some ⟨bb,0,none⟩)]] w K:=by
 have hlen:=hl.len;refine bS.of (ak.of ?_);refine ak.b6 (I:=fun s w'=>∃i:Nat,s=(0,(i:Int))/\i<=n/\(∀p∈l.take i,¬Ch D P p b)/\Kept Nil w w') (μ:=fun s _=>((n:Int)-s.2).toNat) (s:=(0,0)) ⟨0,rfl,Nat.zero_le _,by simp,Kept.refl _ _⟩ ?_;rintro s w' ⟨i,rfl,hi,cZ,kw⟩;refine Split.dec (fun jc=>?_) (fun gq=>?_)
 ·simp only at jc
  have dQ:i<n:=by omega
  obtain⟨y,hy⟩:∃y,l[i]? =some y:=⟨_,List.getElem?_eq_getElem (by omega)⟩;refine(hl.same kw).load (i:=(i:Int)) (by omega) hy ?_;refine cJ.of ?_;unfold cJ.W;intro w4;have k4:Kept Nil w' w4:=(Kept.refl _ _).alloc _;have rX:w4.heap[w'.heap.size]? =some (.cells y.1 aj (0,0)):=aH w' _;clear_value w4;have H8:=kw.tt k4;refine⟨some ⟨x,0,none⟩,by rw [ay (H8.heap hg (fun h=>h))];rfl,y.1,⟨y.2.1,Cells.bz rX⟩,b.1,⟨b.2.1,Cells.bz (H8.heap hb (fun h=>h))⟩,tk (h.same H8) y b fun w7 r hr k7=>⟨r,rfl,r,rfl,?_⟩⟩;have BS:=H8.tt k7;cases r with
  |false=>
   refine Split.no rfl ?_;simp only;rw [dw (n:=(i:Int)) (by omega) (by omega)];refine⟨(0,(i:Int)+1),rfl,⟨i+1,rfl,dQ,fun p hp hc=>?_,BS⟩,by simp only;omega⟩;rcases(bJ hy).1 hp with hp|rfl
   ·exact cZ p hp hc
   ·cases hr.2 hc
  |true=>
   refine Split.yes rfl ⟨(i:Int),rfl,?_⟩;exact hK w7 _ ⟨fun _=>⟨y,List.mem_of_getElem? hy,hr.1 rfl⟩,fun _=>decide_eq_true (by omega)⟩ BS
 ·simp only at gq
  rw [aP,ak.cX];rw [List.take_of_length_le (by omega)]at cZ;exact⟨-1,rfl,hK w' _ ⟨fun h=>absurd (of_decide_eq_true h) (by omega),fun⟨p,hp,hn⟩=>absurd hn (cZ p hp)⟩ kw⟩
theorem lD(h:XV w F x D P m)(hD:D.length<=5000)(a b:HT)(hK:∀w' (r:Bool),(r=true↔fC D a b)->Kept Nil w w'->K (.bool r) w'):
 bj prog dO.id #[.pointer (some ⟨x,0,none⟩),.agg a.1,.agg b.1] w K:=by
 refine dO.of ?_;unfold dO.W;intro w4 w5 w6;have k4:Kept Nil w w4:=(Kept.refl _ _).alloc _;have Vb:w4.heap[w.heap.size]? =some (.cells #[.pointer (some ⟨x,0,none⟩)] ga (0,0)):=aH w _;have k5:Kept Nil w4 w5:=(Kept.refl _ _).alloc _;have G3:w5.heap[w4.heap.size]? =some (.cells a.1 aj (0,0)):=aH w4 _;have k6:Kept Nil w5 w6:=(Kept.refl _ _).alloc _;have p7:w6.heap[w5.heap.size]? =some (.cells b.1 aj (0,0)):=aH w5 _;clear_value w6;have v8:=k6.heap G3 (fun h=>h);have IP:=(k5.tt k6).heap Vb (fun h=>h);have nK:=(k4.tt k5).tt k6;refine⟨_,by rw [ay IP];rfl,a.1,⟨a.2.1,Cells.bz v8⟩,b.1,⟨b.2.1,Cells.bz p7⟩,a.2.1,b.2.1,?_⟩;intro w10;have me:Kept Nil w6 w10:=(Kept.refl _ _).alloc _;have L8:HS w10 (some ⟨w6.heap.size,0,none⟩) 2 [a,b]:=HS.lay (l:= [a,b]) (t:=aj) (by rw [<-Ea a b];exact aH w6 _);clear_value w10;have xY:=nK.tt me;refine pI (h.same xY) L8 (by omega) fun mq wW=>⟨_,rfl,?_⟩;have qD:=xY.tt wW;have BV:=me.tt wW;by_cases cZ:∀p∈ [a,b],p∈ids D
 ·refine Split.no (by rw [decide_eq_true cZ];rfl) ?_
  have aei:=BV.heap v8 (fun h=>h);have aed:=BV.heap p7 (fun h=>h);refine⟨a.1,⟨a.2.1,Cells.bz aei⟩,b.1,⟨b.2.1,Cells.bz aed⟩,⟨a.2.ints,b.2.ints⟩,?_⟩;rw [dL];refine Split.dec (fun he=>?_) (fun he=>?_)
  ·subst he
   exact hK mq false ⟨(fun e=>by cases e),fun e=>absurd e (fC.irrefl h.W a)⟩ qD
  ·intro jx
   have ow:Kept Nil mq jx:=(Kept.refl _ _).drew;clear_value jx;have U0:=qD.tt ow;have LL:=BV.tt ow;refine⟨_,by rw [ay (LL.heap IP (fun h=>h))];rfl,a.1,⟨a.2.1,Cells.bz (LL.heap v8 (fun h=>h))⟩,b.1,⟨b.2.1,Cells.bz (LL.heap p7 (fun h=>h))⟩,?_⟩;refine tk (h.same U0) a b fun yR r hr Iy=>⟨r,rfl,?_⟩;have Qf:=U0.tt Iy;have LK:=LL.tt Iy;cases r with
   |true=>exact Split.yes rfl (hK yR true ⟨fun _=>(Kg h.W h.jX he).2 (.inl (hr.1 rfl)),fun _=>rfl⟩ Qf)
   |false=>
    refine Split.no rfl ?_;have h21:=h.same Qf;obtain⟨f,hf,Rt⟩:=h21.YB;obtain⟨l,hl,ig⟩:=Rt a;have D3:=hf.look rl a;have fin:∀ {A:Option Addr} {n c:Nat},(f a).getD (.slice none 0 0)=.slice A n c->HS yR A n l->n<=D.length->
     bj prog dH.id #[.slice A n c,.func (.func cJ.id) #[] #[.pointer (some ⟨w.heap.size,0,none⟩),.pointer (some ⟨w5.heap.size,0,none⟩)]] yR fun v28 aat=>∃t:Bool,v28=.bool t/\K (.bool t) aat:=fun _ hs hn=>
     vt h21 (LK.heap IP (fun h=>h)) (LK.heap p7 (fun h=>h)) hs (by omega) fun sd r2 jj FJ=>⟨r2,rfl,hK sd r2 (by
      rw [jj,Kg h.W h.jX he];constructor
      ·rintro⟨c,h1,h2⟩;exact .inr ⟨c,(ig c).1 h1,h2⟩
      ·rintro(h1|⟨c,h1,h2⟩)
       ·cases hr.2 h1
       ·exact⟨c,(ig c).2 h1,h2⟩) (Qf.tt FJ)⟩
    refine⟨some ⟨x,0,none⟩,by rw [ay (LK.heap IP (fun h=>h))];rfl,_,h21.c4,a.1,⟨a.2.1,Cells.bz (LK.heap v8 (fun h=>h))⟩,?_⟩;rcases hl with⟨h1,rfl⟩|⟨A,n,c,h1,h2,h3,h4,h5⟩
    ·rw [h1]at D3
     exact⟨none,0,0,D3,fin (by rw [h1];rfl) (HS.nil _ _) (by omega)⟩
    ·rw [h1]at D3
     exact⟨A,n,c,D3,fin (by rw [h1];rfl) h3 h4⟩
 ·refine Split.yes (by rw [decide_eq_false cZ];rfl) (hK mq false ⟨(fun e=>by cases e),fun e=>absurd (fun p hp=>?_) cZ⟩ qD)
  simp only [List.mem_cons,List.not_mem_nil,or_false]at hp;rcases hp with rfl|rfl
  ·exact(e.mem h.W).1
  ·exact(e.mem h.W).2
end
end Go.Proofs.YtnboahlopghcjaaGreatDoor
namespace Go.Proofs.YtnboahlopghcjaaGreatDoor
open Go.Proofs.Tryz
open Go Go.bT Go.RowKit
section
variable{w w':World}{K:Value->World->Prop}
theorem xp{A:Option Addr}{n c:Nat}(Ct:n<=c)(hK:K (.slice A n n) w):bj prog dd.id #[.slice A n c] w K:=by
 refine dd.of ⟨⟨by omega,by omega⟩,⟨by omega,by simp⟩,?_⟩;have e:(if(n:Int).toNat=0 then A else A.map (·.add (0*32)))=A:=by
  split
  ·rfl
  ·cases A with
   |none=>rfl
   |some a=>simp [add_zero]
 rw [e];simpa using hK
theorem we{A:Option Addr}{n c:Nat}{l:List HT}(h:HT)(hl:HS w A n l)(hn:n<=1000000)(hK:∀w',Kept Nil w w'->K (.bool (decide (h∈l))) w'):
 bj prog cC.id #[.slice A n c,.agg h.1] w K:=by
 have hlen:=hl.len;refine cC.of ?_;unfold cC.W;intro w3;have k3:Kept Nil w w3:=(Kept.refl _ _).alloc _;have pN:w3.heap[w.heap.size]? =some (.cells h.1 aj (0,0)):=aH w _;clear_value w3;refine⟨h.1,⟨h.2.1,Cells.bz pN⟩,?_⟩;refine aQ.of ?_;unfold aQ.W;intro w4;have k4:Kept Nil w3 w4:=(Kept.refl _ _).alloc _;have rX:w4.heap[w3.heap.size]? =some (.cells h.1 aj (0,0)):=aH w3 _;clear_value w4;have qi:=k3.tt k4;refine aQ.b6 (I:=fun s w'=>∃i:Nat,s=(0,(i:Int))/\i<=n/\Kept Nil w4 w'/\h∉l.take i) (μ:=fun s _=>((n:Int)-s.2).toNat) (s:=(0,0)) ⟨0,rfl,Nat.zero_le _,Kept.refl _ _,by simp⟩ ?_;rintro s w' ⟨i,rfl,hi,kw,mZ⟩;refine Split.dec (fun cH=>?_) (fun gq=>?_)
 ·simp only at cH
  have dQ:i<n:=by omega
  obtain⟨y,hy⟩:∃y,l[i]? =some y:=⟨_,List.getElem?_eq_getElem (by omega)⟩;intro w9;have k9:Kept Nil w' w9:=(Kept.refl _ _).drew;clear_value w9;have k49:=kw.tt k9;have FO:=qi.tt k49;refine⟨h.1,⟨h.2.1,Cells.bz (k49.heap rX (fun h=>h))⟩,?_⟩;refine(hl.same FO).load (i:=(i:Int)) (by omega) hy ⟨⟨h.2.ints,y.2.ints⟩,?_⟩;rw [dL];refine Split.dec (fun he=>?_) (fun he=>?_)
  ·refine⟨(i:Int),rfl,?_⟩
   have:=hK w9 FO;rw [decide_eq_true (by rw [he];exact List.mem_of_getElem? hy)]at this;rw [show decide ((i:Int)>=(0:Int))=true from decide_eq_true (by omega)];exact this
  ·simp only
   rw [gZ (x:=(i:Int)+1) (by omega) (by omega)];refine⟨(0,(i:Int)+1),rfl,⟨i+1,rfl,dQ,k49,?_⟩,by simp only;omega⟩;rw [List.take_add_one,hy];simp only [Option.toList_some,List.mem_append,List.mem_singleton,not_or];exact⟨mZ,he⟩
 ·simp only at gq
  rw [aP,aQ.cX];refine⟨-1,rfl,?_⟩;have:=hK w' (qi.tt kw);rw [List.take_of_length_le (by omega)]at mZ;rw [decide_eq_false mZ]at this;exact this
theorem yu{A:Option Addr}{n cx:Nat}{l:List HT}{h:HT}{b:Nat}(hl:HS w A n l)(hb:HS w (some ⟨b,0,none⟩) 1 [h])(hn:n<=100000):
 ∃A' c' w',(Builtin.append_ #[aA,aA] aA #[.slice A n n,.slice (some ⟨b,0,none⟩) 1 cx]).run prog w=.ok (.slice A' (n+1) c') w'/\
  HS w' A' (n+1) (l++ [h])/\n+1<=c'/\(∀a,A'=some a->w.heap.size<=a.block/\a.block<w'.heap.size)/\Kept Nil w w':=by
 have hlen:=hl.len;cases A with
 |none=>
  obtain⟨rfl,rfl⟩:=hl.none;obtain⟨A',c',w',hr,eI,hg,hbk⟩:=cO (cx:=cx) aA (bL.nil w w.heap.size) hb (by omega) (Nat.le_refl _);rw [Nat.zero_add]at hr eI;rw [List.nil_append]at eI;obtain⟨b',rfl⟩:=Row.some eI (by omega);have vZ:=Row.bz eI (k:=b') rfl;refine⟨some ⟨b',0,Option.none⟩,c',w',hr,bL.hs eI,?_,fun a ha=>?_,Kept.eA (Kept.refl _ _) hg (fun k hk=>by cases hk)⟩
  ·rcases Row.own eI with⟨h1,_⟩|⟨_,_,_,_,_,h1,_⟩
   ·cases h1
   ·exact h1
  ·cases ha
   obtain⟨h1,cur,h2⟩:=vZ;exact⟨h1,aO h2⟩
 |some a=>
  obtain⟨i,z,hi,hz,hs,Jt,B9⟩:=oO.inf;have hr:=run_append_grow (P:=prog) (w:=w) aA aA aj i z oO.oD hi hz a n n (df l) (by rw [eN,hs,hlen]) hl.cells ⟨b,0,Option.none⟩ 1 cx (df [h]) (by rw [eN,hs];rfl) hb.cells (by omega) (by omega) (growslice_fits (by omega) (by rw [Jt];omega));refine⟨_,_,_,hr,⟨by simp [hlen],fun j y hj=>⟨_,rfl,?_,?_⟩⟩,grownCap_ge _ _ _ _,fun a' Bp=>?_,?_⟩
  ·have:=aH w.drew (.cells ((df l).toArray++(df [h]).toArray++Builtin.zeroCells z.cells (grownCap w (n+1) n aj-(n+1))) aj)
   exact aO this
  ·intro q v hq
   rw [a8,a8,Nat.zero_add];have hblk:=aH w.drew (.cells ((df l).toArray++(df [h]).toArray++Builtin.zeroCells z.cells (grownCap w (n+1) n aj-(n+1))) aj);have e:(w.drew.heap.size)=w.heap.size:=rfl;rw [e]at hblk;rw [ay hblk];have h1:=kj hj hq;rw [lX]at h1;have cH:=(lgeS h1).1;rw [Array.getElem?_append_left (by simpa using cH)];simpa using h1
  ·cases Bp
   have:=aH w.drew (.cells ((df l).toArray++(df [h]).toArray++Builtin.zeroCells z.cells (grownCap w (n+1) n aj-(n+1))) aj);exact⟨Nat.le_refl _,aO this⟩
  ·exact(Kept.refl Nil w).drew.alloc _
end
def gF(D:DG)(h s:HT)(l:List HT):Int:=if du D h l=0 then(if s∈l then 0 else 2)else du D h l
theorem pw{D:DG}{h:HT}{l:List HT}(e:du D h l=0):mn D h l=D++ [⟨h,dv l⟩]:=by unfold mn;rw [if_pos e]
section
variable{w w':World}{S ST:Nat->Prop}{t:Nat}{T:List Tr.Nd}{d:Int}
theorem pS(h:Tr.nE w ST t T d):Tr.nE w (fun k=>ST k/\k<w.heap.size) t T d:=by
 obtain⟨b,c,L,h⟩:=h;refine⟨b,c,L,{h with gL:=⟨h.gL,h.lt⟩,fR:=⟨h.fR,?_⟩,ou:=fun i p hi=>?_}⟩
 ·obtain⟨A,m,hk⟩:=h.ou i p hi
  exact⟨A,m,{hk with jB:=fun k e=>⟨hk.jB k e,let ⟨_,_,hc⟩:=Row.bz hk.row e;aO hc⟩}⟩
 ·obtain⟨cur,hc⟩:=h.vz
  exact aO hc
end
section
variable{w w':World}{F:Nat->Prop}{x:Nat}{D:DG}{P:List Int}{m:XM}{K:Value->World->Prop}
theorem Ki{v:World}{hid s:HT}{S2 F2 SO2:Nat->Prop}{ps:List HT}{j:Nat}{mj:DN}{FQ sb:Nat}{b8:Int}{zq:Option Nat}{A7:Option Addr}{n7 c7:Nat}{i7:Int}{s1 s2:Nat}
 (h:XV w F x D P m) (hD:D.length<=5000) (hn:hid∉ids D) (fN:∀p∈ps,p∈ids D) (ua:SS ps) (hj:D[j]? =some mj) (hs:mj.id=s) (GR:s∈ps)
 (gJ:v.heap[x]? =some (.cells #[.pointer (some ⟨m.g,0,none⟩),.pointer (some ⟨m.t,0,none⟩),.map (some m.mb),.slice (some ⟨m.ib,0,none⟩) D.length m.ic,.map (some m.cb)] cM (0,0)))
 (alC:w.heap.size<=FQ) (akv:w.heap.size<=sb) (Re:v.heap[FQ]? =some (.cells hid.1 aj (0,0))) (IX:v.heap[sb]? =some (.cells s.1 aj (0,0)))
 (hG:yM v S2 F2 m.g (D++ [⟨hid,ps⟩])) (hT:Tr.nE v m.ST m.t m.T m.d) (hat:IsMap v m.mb (ids D)) (eI:bL v 0 (some ⟨m.ib,0,none⟩) D.length m.ic (ids D))
 (Ru:∃f,fp v m.cb f/\∀y,∃l,mC v SO2 (D.length+1) (f y) l/\∀c,c∈l↔Na (D++ [⟨hid,ps⟩]) (P++ [(j:Int)]) y c)
 (yc:w.heap.size<=s1) (Ci:s1<=s2) (Cg:s2<=v.heap.size)
 (SF:∀k,S2 k->(m.SG k\/w.heap.size<=k)/\k<s1) (SH:∀k,F2 k->(F k\/w.heap.size<=k)/\k<s1) (ND:∀k,SO2 k->m.SO k\/(s2<=k/\k<v.heap.size))
 (kv:Kept (fun k=>m.jB x k) w v)
 (hK:∀u S' F',Bc u S' F' x (D++ [⟨hid,ps⟩]) (P++ [(j:Int)])->Kept (fun k=>m.jB x k) w u->(∀k,S' k->m.jB x k\/w.heap.size<=k)->(∀k,F' k->F k\/w.heap.size<=k)->K (.int .i64 0) u):
 aC.Sd (some ⟨x,0,none⟩) ⟨FQ,0,none⟩ ⟨sb,0,none⟩ b8 zq A7 n7 c7 i7 i7 K v:=by
 have W:=h.W;have mi:=h.low;have rW:=(lgeS hj).1;have Zs:=h.K3;have hox:m.own x x:=.inl rfl;have VY:m.own x m.mb:=.inr (.inl rfl);have VZ:m.own x m.ib:=.inr (.inr (.inl rfl));have tK:m.own x m.cb:=.inr (.inr (.inr rfl));obtain⟨Sv,Ug,PQ,Uf,Su,Ue⟩:=h.ne;unfold aC.Sd;intro EF;have vS:Kept Nil v EF:=(Kept.refl _ _).drew;clear_value EF;have c1:EF.cell? ((⟨x,0,none⟩:Addr).add 1)=some (.pointer (some ⟨m.t,0,none⟩)):=by rw [a8,ay (vS.heap gJ (fun h=>h))];rfl
 have c2:EF.cell? ((⟨x,0,none⟩:Addr).add 2)=some (.map (some m.mb)):=by rw [a8,ay (vS.heap gJ (fun h=>h))];rfl
 have JD:=hat.az vS (fun h=>h);have lk:=JD.wO s;rw [<-hs,W.pos_eq hj]at lk;rw [hs]at lk;refine⟨_,c1,_,c2,s.1,⟨s.2.1,Cells.bz (vS.heap IX (fun h=>h))⟩,_,lk,?_⟩;have XX:=pS (hT.same vS);refine Tr.Ht XX h.Gk (p:=j) (by omega) (by omega) ⟨h.dl.1,by have:=h.dl.2;omega⟩ fun EE YM T' d' XW JH VR hd' FN aem=>⟨_,_,rfl,?_⟩;have aiY:=vS.size;have SD:∀k,YM k->m.ST k\/EF.heap.size<=k:=fun k hk=>(aem k hk).imp (fun h=>h.1) (fun h=>h);have nST:∀k,(m.ST k/\k<EF.heap.size)->m.ST k:=fun k h=>h.1;have Pv:=FN.heap (vS.heap gJ (fun h=>h)) (fun e=>(h.od x hox).2.1 e.1);intro Hm;have FM:Kept Nil EE Hm:=(Kept.refl _ _).drew;clear_value Hm;have Hw:=FM.heap Pv (fun h=>h);have D0:∀k,m.ST k->k<w.heap.size:=fun k e=>mi k (.inl (.inr (.inl e)));have lox:x<w.heap.size:=mi x (.inl (.inr (.inr (.inr hox))));have ajv:m.mb<w.heap.size:=mi _ (.inl (.inr (.inr (.inr VY))));have ajw:m.ib<w.heap.size:=mi _ (.inl (.inr (.inr (.inr VZ))));have Uo:m.cb<w.heap.size:=mi _ (.inl (.inr (.inr (.inr tK))));have sv:=kv.size;have D7:Hm.heap[FQ]? =some (.cells hid.1 aj (0,0)):=FM.heap (FN.heap (vS.heap Re (fun h=>h)) (fun e=>by have:=D0 _ e.1;omega)) (fun h=>h);have yK:Hm.cell? ((⟨x,0,none⟩:Addr).add 2)=some (.map (some m.mb)):=by rw [a8,ay Hw];rfl
 have RG:IsMap Hm m.mb (ids D):=(JD.az FN (fun e=>(h.od _ VY).2.1 e.1)).az FM (fun h=>h);obtain⟨Pn,Ol,RF,UX⟩:=RG.put hn;rw [fX,<-Zs]at Ol;refine⟨_,yK,hid.1,⟨hid.2.1,Cells.bz D7⟩,Pn,Ol,?_⟩;intro ED;have UW:Kept Nil Pn ED:=(Kept.refl _ _).drew;clear_value ED;have xX:=UX.trans UW (fun _ _ h=>h.elim);have Hv:=xX.heap Hw (fun e=>Sv e);have c3:∀ {u:World},Kept Nil ED u->u.cell? ((⟨x,0,none⟩:Addr).add 3)=some (.slice (some ⟨m.ib,0,none⟩) D.length m.ic):=fun k=>by rw [a8,ay (k.heap Hv (fun h=>h))];rfl
 have Mp:=xX.heap D7 (fun e=>by omega);refine⟨_,_,_,c3 (Kept.refl _ _),hid.1,⟨hid.2.1,Cells.bz Mp⟩,hid.2.1,?_⟩;intro yT;have LU:Kept Nil ED yT:=(Kept.refl _ _).alloc _;have XG:HS yT (some ⟨ED.heap.size,0,none⟩) 1 [hid]:=jA ED hid;clear_value yT;have DQ:=xX.trans LU (fun _ _ h=>h.elim);have PF:bL yT 0 (some ⟨m.ib,0,none⟩) D.length m.ic (ids D):=
  Row.az (Row.az (Row.az (Row.az eI vS (fun _ _ h=>h)) FN (fun k e e'=>by cases e;exact(h.od _ VZ).2.1 e'.1)) FM (fun _ _ h=>h)) DQ (fun k e e'=>by cases e;exact Uf e'.symm)
 obtain⟨A',c',EC,VG,BJ,WY,XF⟩:=cO (cx:=1) aA PF XG (by omega) (Nat.zero_le _);have Qc:Kept (· =m.ib) yT EC:=Kept.grown (Kept.refl _ _) WY (fun k e _=>by cases e;rfl);obtain⟨Bi,rfl⟩:=Row.some BJ (by omega);have Mq:Bi=m.ib\/yT.heap.size<=Bi:=by
  rcases XF Bi rfl with e|e
  ·left;simpa [aW]using e.symm
  ·exact .inr e
 have Hu:=Qc.heap (LU.heap Hv (fun h=>h)) (fun e=>Ug e);refine⟨c3 LU,some ⟨Bi,0,none⟩,_,c',EC,VG,Is.mk rfl ⟨?_,?_⟩⟩
 ·rw [a8]
  exact dJ Hu (by simp)
 intro yS;have Yw:yS=EC.setCell ⟨x,3,none⟩ (.slice (some ⟨Bi,0,none⟩) (D.length+1) c'):=by
  show EC.setCell ((⟨x,0,none⟩:Addr).add 3) _=_
  rw [a8]
 have Qb:Kept (· =x) EC yS:=by rw [Yw];exact Kept.setCell (S:=fun k=>k=x) (Kept.refl _ EC) (p:=⟨x,3,none⟩) (fun _=>rfl) _
 have Pu:yS.heap[x]? =some (.cells #[.pointer (some ⟨m.g,0,none⟩),.pointer (some ⟨m.t,0,none⟩),.map (some m.mb),.slice (some ⟨Bi,0,none⟩) (D.length+1) c',.map (some m.cb)] cM (0,0)):=by
  rw [Yw,cV Hu 3];rfl
 clear_value yS;have aiX:=FN.size;have aiW:=FM.size;have aiV:=DQ.size;have aiU:=Qc.size;have aiT:=Qb.size;have kC:Kept (fun k=>k=m.ib\/k=x) Pn yS:=(((UW.tt LU).mono (S':=fun k=>k=m.ib\/k=x) (fun _ _ h=>h.elim)).trans Qc (fun _ _ h=>.inl h)).trans Qb (fun _ _ h=>.inr h);have kB:Kept (fun k=>k=m.mb\/k=m.ib\/k=x) EE yS:=((FM.mono (S':=fun k=>k=m.mb\/k=m.ib\/k=x) (fun _ _ h=>h.elim)).trans UX (fun _ _ h=>.inl h)).trans kC (fun _ _ h=>.inr h);have kA:Kept (fun k=>m.ST k\/k=m.mb\/k=m.ib\/k=x) v yS:=((vS.mono (S':=fun k=>m.ST k\/k=m.mb\/k=m.ib\/k=x) (fun _ _ h=>h.elim)).trans FN (fun _ _ h=>.inl h.1)).trans kB (fun _ _ h=>.inr h);have Fm:∀k,(k=m.mb\/k=m.ib\/k=x)->m.own x k:=fun k e=>by
  rcases e with e|e|e
  ·exact .inr (.inl e)
  ·exact .inr (.inr (.inl e))
  ·exact .inl e
 have Ll:∀k,m.own x k->k<w.heap.size:=fun k e=>mi k (.inl (.inr (.inr (.inr e))));have Ls:∀k,m.SG k->k<w.heap.size:=fun k e=>mi k (.inl (.inl e));have H6:∀k,m.SO k->k<w.heap.size:=fun k e=>mi k (.inl (.inr (.inr (.inl e))));have nG:∀k,S2 k->¬(m.ST k\/k=m.mb\/k=m.ib\/k=x):=fun k h1 h2=>by
  obtain⟨h3,_⟩:=SF k h1;rcases h2 with h2|h2
  ·rcases h3 with h3|h3
   ·exact(h.gt k h3).1 h2
   ·have:=D0 k h2;omega
  ·have h4:=Fm k h2
   rcases h3 with h3|h3
   ·exact(h.od k h4).1 h3
   ·have:=Ll k h4;omega
 have nF:∀k,F2 k->¬(m.ST k\/k=m.mb\/k=m.ib\/k=x):=fun k h1 h2=>by
  obtain⟨h3,_⟩:=SH k h1;rcases h2 with h2|h2
  ·rcases h3 with h3|h3
   ·exact(h.fd k h3).1 h2
   ·have:=D0 k h2;omega
  ·have h4:=Fm k h2
   rcases h3 with h3|h3
   ·exact(h.od k h4).2.2.2 h3
   ·have:=Ll k h4;omega
 have nSO:∀k,SO2 k->¬(m.ST k\/k=m.mb\/k=m.ib\/k=x):=fun k h1 h2=>by
  rcases ND k h1 with h3|⟨h3,_⟩
  ·rcases h2 with h2|h2
   ·exact h.to k h2 h3
   ·exact(h.od k (Fm k h2)).2.2.1 h3
  ·rcases h2 with h2|h2
   ·have:=D0 k h2;omega
   ·have:=Ll k (Fm k h2);omega
 have nT:∀k,(YM k/\k<EE.heap.size)->¬(k=m.mb\/k=m.ib\/k=x):=fun k h1 h2=>by
  have h4:=Fm k h2;rcases SD k h1.1 with h3|h3
  ·exact(h.od k h4).2.1 h3
  ·have:=Ll k h4;omega
 refine hK yS (fun k=>(S2 k\/(YM k/\k<EE.heap.size)\/SO2 k\/(k=x\/k=m.mb\/k=Bi\/k=m.cb))) F2 ⟨{m with ib:=Bi,ic:=c',T:=T',d:=d',SG:=S2,ST:=fun k=>YM k/\k<EE.heap.size,SO:=SO2},?_,fun k e=>e⟩ ?_ ?_ ?_
 ·refine⟨?_,hG.az kA nG nF,(pS XW).az kB nT,JH,?_,?_,?_,?_,?_,?_,?_,?_,?_,?_,?_,?_,?_⟩
  ·rw [List.length_append];exact Pu
  ·show Tr.bP T'=_
   rw [VR,h.bP]
  ·have:=h.dl
   simp only [List.length_append,List.length_singleton];show 0<=d'/\d'<=_
   omega
  ·rw [kP]
   exact RF.az kC (fun e=>e.elim (fun e=>Uf e) (fun e=>Sv e.symm))
  ·rw [kP,List.length_append]
   refine Row.az BJ Qb (fun k e e'=>?_);have e1:Bi=k:=by simpa [aW]using e
   rcases Mq with e|e
   ·exact Ug (e'.symm.trans (e1.symm.trans e))
   ·omega
  ·obtain⟨f,hf,hc⟩:=Ru
   refine⟨f,hf.az kA (fun e=>?_),fun y=>?_⟩
   ·rcases e with e|e|e|e
    ·exact(h.od _ tK).2.1 e
    ·exact Su e.symm
    ·exact Ue e.symm
    ·exact PQ e.symm
   ·obtain⟨l,h1,h2⟩:=hc y
    refine⟨l,?_,h2⟩;rw [List.length_append];exact h1.az kA nSO
  ·exact h.jX.snoc hj (by rw [hs];exact GR) W.pos
  ·exact W.snoc (nd:=⟨hid,ps⟩) hn fN ua
  ·intro k h1
   obtain⟨h3,h4⟩:=SF k h1;refine⟨fun h2=>?_,fun h2=>?_⟩
   ·rcases SD k h2.1 with h5|h5
    ·exact nG k h1 (.inl h5)
    ·omega
   ·rcases ND k h2 with h5|h5
    ·rcases h3 with h3|h3
     ·exact(h.gt k h3).2 h5
     ·have:=H6 k h5;omega
    ·omega
  ·intro k h1 h2
   rcases SD k h1.1 with h5|h5
   ·exact nSO k h2 (.inl h5)
   ·rcases ND k h2 with h6|h6
    ·have:=H6 k h6;omega
    ·omega
  ·intro k h1
   obtain⟨h3,h4⟩:=SH k h1;refine⟨fun h2=>?_,fun h2=>?_⟩
   ·rcases SD k h2.1 with h5|h5
    ·exact nF k h1 (.inl h5)
    ·omega
   ·rcases ND k h2 with h5|h5
    ·rcases h3 with h3|h3
     ·exact(h.fd k h3).2 h5
     ·have:=H6 k h5;omega
    ·omega
  ·intro k e
   have e':(k=m.mb\/k=m.ib\/k=x)\/(k=m.cb)\/(k=Bi/\yT.heap.size<=Bi):=by
    rcases e with e|e|e|e
    ·exact .inl (.inr (.inr e))
    ·exact .inl (.inl e)
    ·rcases Mq with h5|h5
     ·exact .inl (.inr (.inl (e.trans h5)))
     ·exact .inr (.inr ⟨e,h5⟩)
    ·exact .inr (.inl e)
   have big:yT.heap.size<=k->¬S2 k/\¬(YM k/\k<EE.heap.size)/\¬SO2 k/\¬F2 k:=fun hb=>
    ⟨fun h1=>by have:=(SF k h1).2;omega,fun h1=>by have:=h1.2;omega,fun h1=>(ND k h1).elim (fun h2=>by have:=H6 k h2;omega) (fun h2=>by omega),fun h1=>by have:=(SH k h1).2;omega⟩
   rcases e' with e'|e'|⟨rfl,e'⟩
   ·exact⟨fun h1=>nG k h1 (.inr e'),fun h1=>nT k h1 e',fun h1=>nSO k h1 (.inr e'),fun h1=>nF k h1 (.inr e')⟩
   ·subst e'
    have ZN:=h.od _ tK;refine⟨fun h1=>?_,fun h1=>?_,fun h1=>?_,fun h1=>?_⟩
    ·rcases(SF _ h1).1 with h2|h2
     ·exact ZN.1 h2
     ·omega
    ·rcases SD _ h1.1 with h2|h2
     ·exact ZN.2.1 h2
     ·omega
    ·rcases ND _ h1 with h2|h2
     ·exact ZN.2.2.1 h2
     ·omega
    ·rcases(SH _ h1).1 with h2|h2
     ·exact ZN.2.2.2 h2
     ·omega
   ·exact big e'
  ·show x≠m.mb/\x≠Bi/\x≠m.cb/\m.mb≠Bi/\m.mb≠m.cb/\Bi≠m.cb
   rcases Mq with h5|h5
   ·rw [h5];exact⟨Sv,Ug,PQ,Uf,Su,Ue⟩
   ·exact⟨Sv,by omega,PQ,by omega,Su,by omega⟩
  ·intro k e
   have hblk:=(Row.bz BJ (k:=Bi) rfl).2;obtain⟨cur,lr⟩:=hblk;have lib:=aO lr;rcases e with e|e
   ·rcases e with e|e|e|e
    ·have:=(SF k e).2;omega
    ·have:=e.2;omega
    ·rcases ND k e with h2|h2
     ·have:=H6 k h2;omega
     ·omega
    ·rcases e with e|e|e|e
     ·omega
     ·have e:k=m.mb:=e;omega
     ·have e:k=Bi:=e;omega
     ·have e:k=m.cb:=e;omega
   ·have:=(SH k e).2;omega
 ·refine kv.trans kA (fun k _ e=>?_)
  rcases e with e|e
  ·exact .inr (.inl e)
  ·exact .inr (.inr (.inr (Fm k e)))
 ·intro k e
  rcases e with e|e|e|e
  ·exact(SF k e).1.imp (fun h=>.inl h) (fun h=>h)
  ·rcases SD k e.1 with h5|h5
   ·exact .inl (.inr (.inl h5))
   ·exact .inr (by omega)
  ·rcases ND k e with h5|h5
   ·exact .inl (.inr (.inr (.inl h5)))
   ·exact .inr (by omega)
  ·rcases e with e|e|e|e
   ·exact .inl (.inr (.inr (.inr (.inl e))))
   ·exact .inl (.inr (.inr (.inr (.inr (.inl e)))))
   ·rcases Mq with h5|h5
    ·exact .inl (.inr (.inr (.inr (.inr (.inr (.inl (e.trans h5)))))))
    ·exact .inr (by omega)
   ·exact .inl (.inr (.inr (.inr (.inr (.inr (.inr e))))))
 ·exact fun k e=>(SH k e).1
end
section
variable{w w':World}{F S:Nat->Prop}{x:Nat}{D:DG}{P:List Int}{m:XM}{K:Value->World->Prop}
theorem GD{u v:World}{hid s:HT}{D':DG}{ps pl:List HT}{FQ ob i:Nat}{A7:Option Addr}{c7:Nat}{b8:Int}{sb:Addr}{f0:HT->Option Value}{Q:aM}{Y9:Option Nat}
 (h:XV w F x D P m) (hD:D.length<=5000) (hwu:w.heap.size<=u.heap.size)
 (gJ:u.heap[x]? =some (.cells #[.pointer (some ⟨m.g,0,none⟩),.pointer (some ⟨m.t,0,none⟩),.map (some m.mb),.slice (some ⟨m.ib,0,none⟩) D.length m.ic,.map (some m.cb)] cM (0,0)))
 (Re:u.heap[FQ]? =some (.cells hid.1 aj (0,0))) (ak7:w.heap.size<=FQ) (hold:fp u ob f0) (ak3:w.heap.size<=ob) (acH:Y9=some ob)
 (Xe:∀y,(y=s\/fC D y s->f0 y=some (.agg #[.bool true]))/\(¬(y=s\/fC D y s)->f0 y=none))
 (K8:bL u w.heap.size A7 pl.length c7 pl) (qk:pl.length<=10000)
 (kv:Kept (· =m.cb) u v) (hi:i<=pl.length) {Z:HT->HT->Prop}
 (Ru:∃f,fp v m.cb f/\∀y,∃l,mC v (fun k=>m.SO k\/(u.heap.size<=k/\k<v.heap.size)) (D.length+if y∈pl.take i then 1 else 0) (f y) l/\∀c,c∈l↔Na D P y c\/(c=hid/\y∈pl.take i/\y≠s/\¬fC D y s)) (dW:pl.Nodup)
 (hQ:∀v',Kept (· =m.cb) u v'->(∃f,fp v' m.cb f/\∀y,∃l,mC v' (fun k=>m.SO k\/(u.heap.size<=k/\k<v'.heap.size)) (D.length+if y∈pl.take (i+1)then 1 else 0) (f y) l/\∀c,c∈l↔Na D P y c\/(c=hid/\y∈pl.take (i+1)/\y≠s/\¬fC D y s))->i<pl.length->
   Q .normal (aC.e2 (some ⟨x,0,none⟩) ⟨FQ,0,none⟩ sb b8 Y9 A7 pl.length c7 (pl.length:Int) ((i:Int)+1)) v')
 (hE:i=pl.length->Q (.exit 3) (aC.e2 (some ⟨x,0,none⟩) ⟨FQ,0,none⟩ sb b8 Y9 A7 pl.length c7 (pl.length:Int) (i:Int)) v):
 aC.B2 (some ⟨x,0,none⟩) ⟨FQ,0,none⟩ sb b8 Y9 A7 pl.length c7 (pl.length:Int) (i:Int) Q v:=by
 subst acH;have hox:m.own x x:=.inl rfl;have tK:m.own x m.cb:=.inr (.inr (.inr rfl));obtain⟨Sv,Ug,PQ,Uf,Su,Ue⟩:=h.ne;have Uo:m.cb<w.heap.size:=h.low _ (.inl (.inr (.inr (.inr tK))));have sv:=kv.size;unfold aC.B2;refine Split.dec (fun jc=>?_) (fun gq=>hE (by omega));have dQ:i<pl.length:=by omega
 obtain⟨y,hy⟩:∃y,pl[i]? =some y:=⟨_,List.getElem?_eq_getElem dQ⟩;have Zn:y∉pl.take i:=fun hm=>by
  obtain⟨j,hj⟩:=List.mem_iff_getElem?.1 hm;rw [List.getElem?_take]at hj;split at hj
  ·rename_i cH
   have h1:=kh 0 j dW hj;rw [kh 0 i dW hy]at h1;simp only [Option.some.injEq]at h1;omega
  ·cases hj
 have PD:HS v A7 pl.length pl:=bL.hs (Row.az K8 kv (fun k hk e=>by have:=(Row.bz K8 hk).1;omega));refine PD.load (i:=(i:Int)) (by omega) (by rw [Int.toNat_natCast];exact hy) ?_;intro w81;obtain⟨sM,jg,jk⟩:=gP (w:=v) (z:=(#[.int .u8 0,.int .u8 0,.int .u8 0,.int .u8 0,.int .u8 0,.int .u8 0,.int .u8 0,.int .u8 0,.int .u8 0,.int .u8 0,.int .u8 0,.int .u8 0,.int .u8 0,.int .u8 0,.int .u8 0,.int .u8 0,.int .u8 0,.int .u8 0,.int .u8 0,.int .u8 0,.int .u8 0,.int .u8 0,.int .u8 0,.int .u8 0,.int .u8 0,.int .u8 0,.int .u8 0,.int .u8 0,.int .u8 0,.int .u8 0,.int .u8 0,.int .u8 0]:Array Value)) (cs:=y.1) (t:=aj) (by rw [y.2.1];rfl);refine⟨⟨y.2.1,y.2.one,fun j hj=>sM j (by rw [y.2.1];exact hj)⟩,?_⟩;intro Pk
 replace jg:Pk.heap[v.heap.size]? =some (.cells y.1 aj (0,0)):=jg
 replace jk:Kept Nil v Pk:=jk
 clear_value Pk;have Ze:Kept (· =m.cb) u Pk:=kv.trans jk (fun _ _ h=>h.elim);have QR:fp Pk ob f0:=hold.az Ze (fun e=>by omega);have lk:=QR.look HY y;obtain⟨f,hf,hc⟩:=Ru;have W8:=hf.az jk (fun h=>h);obtain⟨l,qH,GW⟩:=hc y;have ab6:=jk.size;have O6:∀ {v':World} {N N':Nat} {a:Option Value} {l:List HT},v.heap.size<=v'.heap.size->N<=N'->mC v' (fun k=>m.SO k\/(u.heap.size<=k/\k<v.heap.size)) N a l->mC v' (fun k=>m.SO k\/(u.heap.size<=k/\k<v'.heap.size)) N' a l:=fun hv hN Ag=>by
  rcases Ag with Ag|⟨A,n,c,h1,h2,h3,h4,h5⟩
  ·exact .inl Ag
  ·exact .inr ⟨A,n,c,h1,h2,h3,by omega,fun a ha=>(h5 a ha).imp (fun h=>h) (fun h=>⟨h.1,by omega⟩)⟩
 have O7:∀ {v':World} {N:Nat} {a:Option Value} {l:List HT},Kept (· =m.cb) v v'->mC v (fun k=>m.SO k\/(u.heap.size<=k/\k<v.heap.size)) N a l->mC v' (fun k=>m.SO k\/(u.heap.size<=k/\k<v.heap.size)) N a l:=fun hk Ag=>Ag.az hk (fun k ml e=>by
  rcases ml with h1|h1
  ·exact(h.od _ tK).2.2.1 (e▸h1)
  ·omega)
 refine⟨y.1,⟨y.2.1,Cells.bz jg⟩,?_⟩;by_cases jo:y=s\/fC D y s
 ·rw [(Xe y).1 jo]at lk
  refine⟨_,lk,true,rfl,Split.no rfl ?_⟩;rw [dw (n:=(i:Int)) (by omega) (by omega)];refine hQ Pk Ze ⟨f,W8,fun z=>?_⟩ dQ;obtain⟨lz,h1,h2⟩:=hc z;refine⟨lz,O6 ab6 (by
   by_cases hz:z∈pl.take i
   ·rw [if_pos hz,if_pos ((bJ hy).2 (.inl hz))];exact Nat.le_refl _
   ·rw [if_neg hz];omega) (O7 (jk.mono (fun _ _ h=>h.elim)) h1),fun c=>?_⟩
  rw [h2,bJ hy];constructor
  ·rintro(h3|⟨h3,h4,h5,h6⟩)
   ·exact .inl h3
   ·exact .inr ⟨h3,.inl h4,h5,h6⟩
  ·rintro(h3|⟨h3,h4|rfl,h5,h6⟩)
   ·exact .inl h3
   ·exact .inr ⟨h3,h4,h5,h6⟩
   ·exact absurd jo (fun e=>e.elim h5 h6)
 ·rw [(Xe y).2 jo]at lk
  refine⟨_,lk,false,rfl,Split.yes rfl ?_⟩;intro Dd;have UH:Kept Nil Pk Dd:=(Kept.refl _ _).drew;clear_value Dd;have abg:=jk.tt UH;have Ju:=UH.heap jg (fun h=>h);have tD:∀ {q:World},Kept Nil Dd q->q.cell? ((⟨x,0,none⟩:Addr).add 4)=some (.map (some m.cb)):=fun k=>by
   rw [a8,ay (k.heap (UH.heap (Ze.heap gJ (fun e=>PQ e)) (fun h=>h)) (fun h=>h))];rfl
  have mK:∀ {q:World},Kept Nil Dd q->∃cs:Array Value,(.agg y.1:Value)=.agg cs/\cs.size=32/\Cells q (⟨v.heap.size,0,none⟩:Addr) cs:=fun k=>⟨y.1,rfl,y.2.1,Cells.bz (k.heap Ju (fun h=>h))⟩;have OG:Dd.heap[FQ]? =some (.cells hid.1 aj (0,0)):=UH.heap (Ze.heap Re (fun e=>by omega)) (fun h=>h);have adI:∀ {q:World},Kept Nil Dd q->∃cs:Array Value,(.agg hid.1:Value)=.agg cs/\cs.size=32/\Cells q (⟨FQ,0,none⟩:Addr) cs:=fun k=>⟨hid.1,rfl,hid.2.1,Cells.bz (k.heap OG (fun h=>h))⟩;have W7:=W8.az UH (fun h=>h);obtain⟨A,n,c,fE,Ct,DU,hnN⟩:∃(A:Option Addr) (n c:Nat),(f y).getD (.slice none 0 0)=.slice A n c/\n<=c/\HS v A n l/\n<=D.length:=by
   rcases qH with⟨h1,h2⟩|⟨A,n,c,h1,h2,h3,h4,_⟩
   ·exact⟨none,0,0,by rw [h1];rfl,Nat.le_refl _,by rw [h2];exact HS.nil _ _,by omega⟩
   ·rw [if_neg Zn]at h4
    exact⟨A,n,c,by rw [h1];rfl,h2,h3,by omega⟩
  have lk2:∀ {q:World},Kept Nil Dd q->(Instr.lookup fk (.map (some m.cb)) (.agg y.1) false).run prog q=.ok (.slice A n c) q:=fun k=>by
   have:=(W7.az k (fun h=>h)).look rl y;rw [fE]at this;exact this
  have fin:∀ {q:World} {bb:Nat},Kept Nil Dd q->HS q (some ⟨bb,0,none⟩) 1 [hid]->
   ∃(A':Option Addr) (n' c':Nat) (q2:World),(Builtin.append_ #[aA,aA] aA #[.slice A n n,.slice (some ⟨bb,0,none⟩) 1 1]).run prog q=.ok (.slice A' n' c') q2/\(∃cs:Array Value,(.agg y.1:Value)=.agg cs/\cs.size=32/\Cells q2 (⟨v.heap.size,0,none⟩:Addr) cs)/\q2.cell? ((⟨x,0,none⟩:Addr).add 4)=some (.map (some m.cb))/\
    ∃q3:World,(Instr.mapUpdate fk (.map (some m.cb)) (.agg y.1) (.slice A' n' c')).run prog q2=.ok () q3/\Q .normal (aC.e2 (some ⟨x,0,none⟩) ⟨FQ,0,none⟩ sb b8 (some ob) A7 pl.length c7 (pl.length:Int) (i64.wrap ((i:Int)+(1:Int)))) q3:=by
   intro q bb kq vZ;have kvq:=abg.tt kq;obtain⟨A',c',q2,hr,Ci,OJ,mu,kq2⟩:=yu (cx:=1) (DU.same kvq) vZ (by omega);have k2:=kq.tt kq2;obtain⟨q3,DW,hf3,k3⟩:=(W7.az k2 (fun h=>h)).put rl y (.slice A' (n+1) c');refine⟨A',_,c',q2,hr,mK k2,tD k2,q3,DW,?_⟩;rw [dw (n:=(i:Int)) (by omega) (by omega)];have UA:=kvq.tt kq2;have Uz:Kept (· =m.cb) v q3:=(UA.mono (S':=(· =m.cb)) (fun _ _ h=>h.elim)).tt k3;have sq2:=UA.size;have sq3:=k3.size;have svq:=kvq.size;refine hQ q3 (kv.tt Uz) ⟨_,hf3,fun z=>?_⟩ dQ;by_cases hz:z=y
   ·subst hz
    refine⟨l++ [hid],.inr ⟨A',n+1,c',by simp,OJ,Ci.az k3 (fun a ha e=>by have:=(mu a ha).1;omega),?_,fun a ha=>.inr ?_⟩,fun c=>?_⟩
    ·rw [if_pos ((bJ hy).2 (.inr rfl))];omega
    ·have:=mu a ha;omega
    ·rw [List.mem_append,List.mem_singleton,GW,bJ hy]
     constructor
     ·rintro((h3|⟨h3,h4,h5,h6⟩)|h3)
      ·exact .inl h3
      ·exact .inr ⟨h3,.inl h4,h5,h6⟩
      ·exact .inr ⟨h3,.inr rfl,fun e=>jo (.inl e),fun e=>jo (.inr e)⟩
     ·rintro(h3|⟨h3,h4,h5,h6⟩)
      ·exact .inl (.inl h3)
      ·exact .inr h3
   ·obtain⟨lz,h1,h2⟩:=hc z
    refine⟨lz,?_,fun c=>?_⟩
    ·simp only [hz,if_false]
     refine O6 (by omega) ?_ (O7 Uz h1);by_cases hzi:z∈pl.take i
     ·rw [if_pos hzi,if_pos ((bJ hy).2 (.inl hzi))];exact Nat.le_refl _
     ·rw [if_neg hzi];omega
    ·rw [h2,bJ hy]
     constructor
     ·rintro(h3|⟨h3,h4,h5,h6⟩)
      ·exact .inl h3
      ·exact .inr ⟨h3,.inl h4,h5,h6⟩
     ·rintro(h3|⟨h3,h4|h4,h5,h6⟩)
      ·exact .inl h3
      ·exact .inr ⟨h3,h4,h5,h6⟩
      ·exact absurd h4 hz
  refine⟨_,tD (Kept.refl _ _),y.1,⟨y.2.1,Cells.bz Ju⟩,_,tD (Kept.refl _ _),y.1,⟨y.2.1,Cells.bz Ju⟩,A,n,c,lk2 (Kept.refl _ _),hid.1,⟨hid.2.1,Cells.bz OG⟩,?_,⟨hid.2.1,?_⟩⟩
  ·refine xp Ct ⟨A,n,n,rfl,adI (Kept.refl _ _),mK (Kept.refl _ _),tD (Kept.refl _ _),hid.2.1,?_⟩
   intro EG;have BX:Kept Nil Dd EG:=(Kept.refl _ _).alloc _;have XI:HS EG (some ⟨Dd.heap.size,0,none⟩) 1 [hid]:=jA Dd hid;clear_value EG;exact⟨mK BX,tD BX,fin BX XI⟩
  ·intro Pp
   have zR:Kept Nil Dd Pp:=(Kept.refl _ _).alloc _;have XH:HS Pp (some ⟨Dd.heap.size,0,none⟩) 1 [hid]:=jA Dd hid;clear_value Pp;exact⟨lk2 zR,mK zR,tD zR,mK zR,tD zR,xp Ct ⟨A,n,n,rfl,mK zR,tD zR,fin zR XH⟩⟩
end
def nu(D:DG)(h s:HT)(l:List HT):DG:=if gF D h s l=0 then D++ [⟨h,dv l⟩]else D
def nt(D:DG)(P:List Int)(h s:HT)(l:List HT):List Int:=if gF D h s l=0 then P++ [(((pos s (ids D) 0).getD 0:Nat):Int)]else P
section
variable{w w':World}{F S:Nat->Prop}{x:Nat}{D:DG}{P:List Int}{m:XM}{K:Value->World->Prop}
theorem Fg(h:XV w F x D P m)(hD:D.length<=5000)(hT:rZ w)(KK:¬m.SG (Tryz.jt.g 1)){A:Option Addr}{n cx:Nat}{lp:List HT}(hl:HS w A n lp)(hn:n<=5000)(hid s:HT)
 (mZ:∀v,Kept Nil w v->gF D hid s lp≠0->K (.int .i64 (gF D hid s lp)) v)
 (zW:∀u S' F',Bc u S' F' x (nu D hid s lp) (nt D P hid s lp)->Kept (fun k=>m.jB x k) w u->(∀k,S' k->m.jB x k\/w.heap.size<=k)->(∀k,F' k->F k\/w.heap.size<=k)->gF D hid s lp=0->K (.int .i64 0) u):
 bj prog aC.id #[.pointer (some ⟨x,0,none⟩),.agg hid.1,.agg s.1,.slice A n cx] w K:=by
 have hlen:=hl.len;have W:=h.W;refine aC.of ?_;unfold aC.W;intro w5 w6;have k5:Kept Nil w w5:=(Kept.refl _ _).alloc _;have Mr:w5.heap[w.heap.size]? =some (.cells hid.1 aj (0,0)):=aH w _;have k6:Kept Nil w5 w6:=(Kept.refl _ _).alloc _;have L7:w6.heap[w5.heap.size]? =some (.cells s.1 aj (0,0)):=aH w5 _;clear_value w6;have ZG:=k6.heap Mr (fun h=>h);have nK:=k5.tt k6;have s5:=k5.size;have l5:=aO Mr;obtain⟨bl,c,mbg,M,G⟩:=h.G;have hG:∀ {v:World},Kept Nil w v->GV v m.SG F m.g D (fh D) bl c mbg M:=fun k=>G.same k;refine oW (h.same nK) ⟨true,rfl,Split.no rfl ⟨_,(h.same nK).c0,hid.1,⟨hid.2.1,Cells.bz ZG⟩,?_⟩⟩;refine uc (hG nK) hid fun ir Kz=>⟨_,rfl,?_⟩;have LX:=nK.tt Kz;by_cases fN:hid∈ids D
 ·have e:gF D hid s lp=7:=by simp [gF,du,fN]
  have:=mZ ir LX (by rw [e];decide);rw [e]at this;exact Split.yes (decide_eq_true fN) this
 refine Split.no (decide_eq_false fN) ?_;by_cases h0:n=0
 ·have el:lp= []:=List.length_eq_zero_iff.1 (by omega)
  have e:gF D hid s lp=9:=by subst el;simp [gF,du,fN,K5]
  have:=mZ ir LX (by rw [e];decide);rw [e]at this;exact Split.yes (by simp [h0]) this
 refine Split.no (by simp [h0]) ?_;refine iI (hl.same LX) (by omega) fun A17 c17 wz af0 IA=>⟨A17,_,c17,rfl,?_⟩;have LW:=LX.tt IA;have fD:lp≠ []:=fun e=>h0 (by rw [<-hlen,e];rfl);by_cases DU:¬(dv lp).length=n
 ·have e:gF D hid s lp=9:=by
   have h1:(dv lp).length=0\/(dv lp).length≠lp.length:=.inr (by omega);have h2:du D hid lp=9:=by unfold du;rw [if_neg fN,if_pos h1]
   simp [gF,h2]
  have:=mZ wz LW (by rw [e];decide);rw [e]at this;exact Split.yes (by simp only [bne_iff_ne,ne_eq];omega) this
 replace DU:=Classical.not_not.1 DU
 refine Split.no (by rw [DU];simp) ?_;refine pI (h.same LW) (hl.same LW) (by omega) fun EB Bh=>⟨_,rfl,?_⟩;have Qg:=LW.tt Bh;have Wa:¬((dv lp).length=0\/(dv lp).length≠lp.length):=by omega
 by_cases cZ:¬∀p∈lp,p∈ids D
 ·have hex:∃p∈dv lp,p∉ids D:=Classical.byContradiction fun hc=>cZ fun p hp=>Classical.byContradiction fun hq=>hc ⟨p,dF.2 hp,hq⟩
  have e:gF D hid s lp=6:=by
   have:du D hid lp=6:=by unfold du;rw [if_neg fN,if_neg Wa,if_pos hex]
   simp [gF,this]
  have:=mZ EB Qg (by rw [e];decide);rw [e]at this;exact Split.yes (by rw [decide_eq_false cZ];rfl) this
 replace cZ:=Classical.not_not.1 cZ
 refine Split.no (by rw [decide_eq_true cZ];rfl) ?_;have adP:¬∃p∈dv lp,p∉ids D:=fun⟨p,hp,hq⟩=>hq (cZ p (dF.1 hp));have eC:du D hid lp=0:=by unfold du;rw [if_neg fN,if_neg Wa,if_neg adP]
 have UJ:=(Kz.tt IA).tt Bh;refine⟨s.1,⟨s.2.1,Cells.bz (UJ.heap L7 (fun h=>h))⟩,?_⟩;refine we s (hl.same Qg) (by omega) fun lJ qh=>⟨_,rfl,?_⟩;have BZ:=Qg.tt qh;by_cases vF:¬s∈lp
 ·have e:gF D hid s lp=2:=by simp [gF,eC,vF]
  have:=mZ lJ BZ (by rw [e];decide);rw [e]at this;exact Split.yes (by rw [decide_eq_false vF];rfl) this
 replace vF:=Classical.not_not.1 vF
 refine Split.no (by rw [decide_eq_true vF];rfl) ?_;have eX:gF D hid s lp=0:=by simp [gF,eC,vF]
 have LJ:=UJ.tt qh;obtain⟨mj,QY,QX⟩:=dI.1 (cZ s vF);obtain⟨j,hj⟩:=List.mem_iff_getElem?.1 QY;have eP:nt D P hid s lp=P++ [(j:Int)]:=by
  unfold nt;rw [if_pos eX,<-QX,W.pos_eq hj];rfl
 have eD:nu D hid s lp=D++ [⟨hid,dv lp⟩]:=by unfold nu;rw [if_pos eX]
 intro qp;have FK:Kept Nil lJ qp:=(Kept.refl _ _).alloc _;have acY:fp qp lJ.heap.size (fun _=>none):=fp.new lJ;clear_value qp;have IZ:=(LJ.tt FK).heap L7 (fun h=>h);obtain⟨xE,acn,Wp,xW⟩:=acY.put HY s (.agg #[.bool true]);refine⟨s.1,⟨s.2.1,Cells.bz IZ⟩,xE,acn,?_⟩;have ob0:w5.heap.size<lJ.heap.size:=by have:=aO L7;have:=LJ.size;omega
 have ab7:=xW.heap IZ (fun e=>by omega);refine⟨s.1,⟨s.2.1,Cells.bz ab7⟩,s.2.1,?_⟩;intro Ss;have k30:Kept Nil xE Ss:=(Kept.refl _ _).alloc _;have abP:HS Ss (some ⟨xE.heap.size,0,none⟩) 1 [s]:=jA xE s;clear_value Ss;have ai4:=BZ.size;have Ix:Kept Nil lJ Ss:=(FK.trans xW (fun k hk e=>by omega)).tt k30;have Qd:=BZ.tt Ix;refine vr (hG Qd) W (by omega) (hT.same Qd) abP (by omega) fun A32 YD tV Nq GP=>⟨A32,_,YD,rfl,?_⟩;have abA:=Qd.tt GP;have acW:fp tV lJ.heap.size (fun z=>if z=s then some (.agg #[.bool true])else none):=(Wp.az k30 (fun h=>h)).az GP (fun h=>h);have p1:=lT D fun a=>∃z∈ [s],fC D a z
 change (dY D [s]).length<=_ at p1
 have afU:=Ix.size;have ob1:=Wp.lt;have s30:=k30.size;have Oq:∀y,y∈dY D [s]↔fC D y s:=fun y=>by
  unfold dY;rw [jn];constructor
  ·rintro⟨_,z,hz,e⟩
   rw [List.mem_singleton]at hz
   rwa [hz]at e
  ·exact fun e=>⟨(e.mem W).1,s,by simp,e⟩
 have ajD:∀k,k=lJ.heap.size->¬k<w.heap.size:=fun k e=>by omega
 refine aC.b6 (I:=fun i v=>∃(q:Nat) (f:HT->Option Value),i=(q:Int)/\q<=(dY D [s]).length/\fp v lJ.heap.size f/\(∀y,(y=s\/y∈(dY D [s]).take q->f y=some (.agg #[.bool true]))/\(¬(y=s\/y∈(dY D [s]).take q)->f y=none))/\Kept (· =lJ.heap.size) tV v)
  (μ:=fun i _=>(((dY D [s]).length:Int)-i).toNat) (s:=0) ⟨0,_,rfl,Nat.zero_le _,acW,fun y=>⟨fun e=>by
    rcases e with e|e
    ·rw [if_pos e]
    ·simp at e,fun e=>if_neg fun e'=>e (.inl e')⟩,Kept.refl _ _⟩ ?_
 rintro i v ⟨q,f,rfl,hq,hmv,W1,kv⟩;have BY:Kept Nil w v:=abA.trans kv (fun k hk e=>by omega);refine Split.dec (fun jc=>?_) (fun gq=>?_)
 ·have dQ:q<(dY D [s]).length:=by omega
  obtain⟨y,hy⟩:∃y,(dY D [s])[q]? =some y:=⟨_,List.getElem?_eq_getElem dQ⟩;have PD:=bL.hs (Row.az Nq kv (fun k hk e=>by have:=(Row.bz Nq hk).1;omega));refine PD.load (i:=(q:Int)) (by omega) (by rw [Int.toNat_natCast];exact hy) ?_;intro Nj;obtain⟨sM,jg,jk⟩:=gP (w:=v) (z:=(#[.int .u8 0,.int .u8 0,.int .u8 0,.int .u8 0,.int .u8 0,.int .u8 0,.int .u8 0,.int .u8 0,.int .u8 0,.int .u8 0,.int .u8 0,.int .u8 0,.int .u8 0,.int .u8 0,.int .u8 0,.int .u8 0,.int .u8 0,.int .u8 0,.int .u8 0,.int .u8 0,.int .u8 0,.int .u8 0,.int .u8 0,.int .u8 0,.int .u8 0,.int .u8 0,.int .u8 0,.int .u8 0,.int .u8 0,.int .u8 0,.int .u8 0,.int .u8 0]:Array Value)) (cs:=y.1) (t:=aj) (by rw [y.2.1];rfl);refine⟨⟨y.2.1,y.2.one,fun j hj=>sM j (by rw [y.2.1];exact hj)⟩,?_⟩;intro w49
  replace jg:w49.heap[v.heap.size]? =some (.cells y.1 aj (0,0)):=jg
  replace jk:Kept Nil v w49:=jk
  clear_value w49;obtain⟨Hk,QQ,acU,Zl⟩:=(hmv.az jk (fun h=>h)).put HY y (.agg #[.bool true]);refine⟨y.1,⟨y.2.1,Cells.bz jg⟩,Hk,QQ,?_⟩;rw [dw (n:=(q:Int)) (by omega) (by omega)];refine⟨(q:Int)+1,rfl,⟨q+1,_,rfl,dQ,acU,fun z=>?_,(kv.trans jk (fun _ _ h=>h.elim)).tt Zl⟩,by simp only;omega⟩;rw [bJ hy];constructor
  ·intro e
   by_cases hz:z=y
   ·rw [if_pos hz]
   ·rw [if_neg hz]
    exact(W1 z).1 (e.imp (fun h=>h) (fun h=>h.resolve_right hz))
  ·intro e
   rw [if_neg (fun hz=>e (.inr (.inr hz)))];exact(W1 z).2 (fun e'=>e (e'.imp (fun h=>h) (fun h=>.inl h)))
 ·have hqe:q=(dY D [s]).length:=by omega
  subst hqe;rw [List.take_of_length_le (Nat.le_refl _)]at W1;rw [aP,aC.Pg];unfold aC.GH;have Iu:Kept (· =lJ.heap.size) lJ v:=((Ix.tt GP).mono (S':=(· =lJ.heap.size)) (fun _ _ h=>h.elim)).tt kv;have ZF:v.heap[w.heap.size]? =some (.cells hid.1 aj (0,0)):=Iu.heap (LJ.heap ZG (fun h=>h)) (fun e=>by omega);have L4:v.heap[w5.heap.size]? =some (.cells s.1 aj (0,0)):=Iu.heap (LJ.heap L7 (fun h=>h)) (fun e=>by omega);have sv:=BY.size;have s2v:=Iu.size;refine⟨hid.1,⟨hid.2.1,Cells.bz ZF⟩,?_⟩;refine MQ (hG BY) W (by omega) (hl.same BY) (by omega) hid fun GL S2 F2 Yb FF RN RS=>⟨_,rfl,?_⟩;rw [pw eC]at Yb;have Ls:∀k,m.SG k->k<w.heap.size:=fun k e=>h.low k (.inl (.inl e));have s64:=FF.size;have Rf:=FF.heap ZF (fun e=>by have:=Ls _ e;omega);have Vr:=FF.heap L4 (fun e=>by have:=Ls _ e;omega);have acT:=hmv.az FF (fun e=>by have:=Ls _ e;omega);refine⟨hid.1,⟨hid.2.1,Cells.bz Rf⟩,hid.2.1,?_⟩;intro Hg;have NH:Kept Nil GL Hg:=(Kept.refl _ _).alloc _;have abK:HS Hg (some ⟨GL.heap.size,0,none⟩) 1 [hid]:=jA GL hid;clear_value Hg;have vY:∀p∈dv lp,p∈ids D:=fun p hp=>cZ p (dF.1 hp);have W':jC (D++ [⟨hid,dv lp⟩]):=W.snoc (nd:=⟨hid,dv lp⟩) fN vY (iK lp);obtain⟨bl',c',Ul,M',G64⟩:=Yb;have PS:∀k,m.own x k->k<w.heap.size:=fun k e=>h.low k (.inl (.inr (.inr (.inr e))));have hTv:rZ GL:=(hT.same BY).az FF KK;refine vr (G64.same NH) W' (by simp;omega) (hTv.same NH) abK (by omega) fun A69 c69 De HG UI=>⟨A69,_,c69,rfl,?_⟩;have wR:=NH.tt UI;have afQ:=wR.size;have p2:=lT (D++ [⟨hid,dv lp⟩]) fun a=>∃z∈ [hid],fC (D++ [⟨hid,dv lp⟩]) a z
  change (dY (D++ [⟨hid,dv lp⟩]) [hid]).length<=_ at p2
  rw [List.length_append,List.length_singleton]at p2;have Cq:∀y,y∈dY (D++ [⟨hid,dv lp⟩]) [hid]↔fC (D++ [⟨hid,dv lp⟩]) y hid:=fun y=>by
   unfold dY;rw [jn];constructor
   ·rintro⟨_,z,hz,e⟩
    rw [List.mem_singleton]at hz
    rwa [hz]at e
   ·exact fun e=>⟨(e.mem W').1,hid,by simp,e⟩
  have ji:Kept (fun k=>m.SG k) w De:=((BY.mono (S':=fun k=>m.SG k) (fun _ _ h=>h.elim)).tt FF).trans wR (fun _ _ h=>h.elim);have PR:∀k,m.own x k->¬m.SG k:=fun k e=>(h.od k e).1;have TN:=ji.heap h.top (PR _ (.inl rfl));have dW:(dY (D++ [⟨hid,dv lp⟩]) [hid]).Nodup:=(iK _).nodup;obtain⟨f0,adO,adQ⟩:=h.YB;have agf:∀k,m.own x k->¬(k=m.cb)\/k=m.cb:=fun k _=>(Classical.em _).symm;have tK:m.own x m.cb:=.inr (.inr (.inr rfl));have Uo:=PS _ tK;generalize qk:dY (D++ [⟨hid,dv lp⟩]) [hid]=pl at HG p2 Cq dW⊢;refine aC.gI (I:=fun i u=>∃q:Nat,i=(q:Int)/\q<=pl.length/\Kept (· =m.cb) De u/\∃f,fp u m.cb f/\∀y,∃l,mC u (fun k=>m.SO k\/(De.heap.size<=k/\k<u.heap.size)) (D.length+if y∈pl.take q then 1 else 0) (f y) l/\∀c,c∈l↔Na D P y c\/(c=hid/\y∈pl.take q/\y≠s/\¬fC D y s))
   (μ:=fun i _=>((pl.length:Int)-i).toNat) (s:=0) ⟨0,rfl,Nat.zero_le _,Kept.refl _ _,f0,adO.az ji (PR _ tK),fun y=>?_⟩ ?_
  ·obtain⟨l,h1,h2⟩:=adQ y
   refine⟨l,?_,fun c=>?_⟩
   ·rcases h1.az ji (fun k e e'=>(h.gt k e').2 e)with h3|⟨A,n,c,g1,g2,g3,g4,g5⟩
    ·exact .inl h3
    ·exact .inr ⟨A,n,c,g1,g2,g3,by omega,fun a ha=>.inl (g5 a ha)⟩
   ·rw [h2]
    simp
  ·rintro i u ⟨q,rfl,I7,ku,Rt⟩
   refine GD h hD ji.size TN (wR.heap Rf (fun h=>h)) (Nat.le_refl _) ((acT.az NH (fun h=>h)).az UI (fun h=>h)) (by omega) rfl
    (fun y=>⟨fun e=>(W1 y).1 (e.imp (fun h=>h) (fun h=>(Oq y).2 h)),fun e=>(W1 y).2 (fun e'=>e (e'.imp (fun h=>h) (fun h=>(Oq y).1 h)))⟩)
    (Row.base HG (fun b hb=>by have:=(Row.bz HG hb).1;have:=NH.size;omega)) (by omega) ku I7 (Z:=fun _ _=>True) Rt dW (hid:=hid) (s:=s) (D':=D) (ps:= []) (fun v' kv' adH cH=>?_) (fun hqe=>?_)
   ·exact⟨(q:Int)+1,rfl,⟨q+1,rfl,cH,kv',adH⟩,by simp only;omega⟩
   ·subst hqe
    rw [aP];unfold aC.e2;rw [aC.aan];rw [List.take_of_length_le (Nat.le_refl _)]at Rt;have Ic:Kept (fun k=>m.SG k\/k=m.cb) w u:=(ji.mono (S':=fun k=>m.SG k\/k=m.cb) (fun _ _ h=>.inl h)).trans ku (fun _ _ h=>.inr h);have su:=ku.size;obtain⟨Sv,Ug,PQ,Uf,Su,Ue⟩:=h.ne;have Lt:∀k,F k->k<w.heap.size:=fun k e=>h.low k (.inr e);have aew:GV De S2 F2 m.g (D++ [⟨hid,dv lp⟩]) (fh (D++ [⟨hid,dv lp⟩])) bl' c' Ul M':=G64.same wR;have nS2:∀k,S2 k->¬k=m.cb:=fun k h1 e=>by
     rcases RN k h1 with h2|h2
     ·exact(h.od _ tK).1 (e▸h2)
     ·omega
    have nF2:∀k,F2 k->¬k=m.cb:=fun k h1 e=>by
     rcases RS k h1 with h2|h2
     ·exact(h.od _ tK).2.2.2 (e▸h2)
     ·omega
    have yF:∀k,m.own x k->k≠m.cb->¬(m.SG k\/k=m.cb):=fun k e fD e'=>e'.elim (PR k e) fD;refine Ki (s1:=GL.heap.size) (s2:=De.heap.size) (S2:=S2) (F2:=F2) (SO2:=fun k=>m.SO k\/(De.heap.size<=k/\k<u.heap.size)) (mj:=mj) h hD fN vY (iK lp) hj QX (dF.2 vF) (Ic.heap h.top (yF _ (.inl rfl) PQ))
     (Nat.le_refl _) (by omega) (ku.heap (wR.heap Rf (fun h=>h)) (fun e=>by omega)) (ku.heap (wR.heap Vr (fun h=>h)) (fun e=>by omega)) ⟨bl',c',Ul,M',aew.az ku nS2 nF2⟩
     (h.T.az Ic (fun k e e'=>e'.elim (fun e'=>(h.gt k e').1 e) (fun e'=>(h.od _ tK).2.1 (e'▸e)))) (h.at_.az Ic (yF _ (.inr (.inl rfl)) Su)) (Row.az h.row Ic (fun k e=>by cases e;exact yF _ (.inr (.inr (.inl rfl))) Ue))
     ?_ (by omega) (by omega) su (fun k e=>⟨(RN k e).imp (fun h=>h) (fun h=>by omega),G64.low k (.inl e)⟩) (fun k e=>⟨(RS k e).imp (fun h=>h) (fun h=>by omega),G64.low k (.inr e)⟩) (fun k e=>e)
     (Ic.mono (S':=fun k=>m.jB x k) (fun k _ e=>e.elim (fun e=>.inl e) (fun e=>.inr (.inr (.inr (.inr (.inr (.inr e)))))))) (fun u2 S' F' hI kU hSu OZ=>?_)
    ·obtain⟨f,hf,hc⟩:=Rt
     refine⟨f,hf,fun y=>?_⟩;obtain⟨l,h1,h2⟩:=hc y;refine⟨l,?_,fun c=>?_⟩
     ·rcases h1 with h3|⟨A,n,c,g1,g2,g3,g4,g5⟩
      ·exact .inl h3
      ·refine .inr ⟨A,n,c,g1,g2,g3,?_,g5⟩
       split at g4<;>omega
     ·rw [h2,JV W h.jX (nd:=⟨hid,dv lp⟩) fN vY hj,QX]
      constructor
      ·rintro(h3|⟨h3,h4,h5,h6⟩)
       ·exact .inl h3
       ·exact .inr ⟨h3,(Cq y).1 h4,h5,h6⟩
      ·rintro(h3|⟨h3,h4,h5,h6⟩)
       ·exact .inl h3
       ·exact .inr ⟨h3,(Cq y).2 h4,h5,h6⟩
    ·refine zW u2 S' F' ?_ kU hSu OZ eX
     rw [eD,eP];exact hI
end
def dG:HT:=hx 0 (by decide)
def dh(D:DG)(P:List Int)(h:HT)(l:List HT):Prop:=(h∉ids D/\l= [])\/∃(i:Nat) (nd:DN) (ks:List Nat),D[i]? =some nd/\nd.id=h/\Up P i ks/\l=ks.map (oE D)
theorem mX{D:DG}{i:Nat}{nd:DN}(h:D[i]? =some nd):oE D i=nd.id:=by unfold oE;rw [h]
theorem dh.ex{D:DG}{P:List Int}(H:r7 D P)(h:HT):∃l,dh D P h l:=by
 by_cases hm:h∈ids D
 ·obtain⟨nd,dW,e⟩:=dI.1 hm
  obtain⟨i,hi⟩:=List.mem_iff_getElem?.1 dW;obtain⟨ks,hk⟩:=Up.ex H.par i (by rw [H.len];exact(lgeS hi).1);exact⟨_,.inr ⟨i,nd,ks,hi,e,hk,rfl⟩⟩
 ·exact⟨[],.inl ⟨hm,rfl⟩⟩
theorem dh.mem{D:DG}{P:List Int}(W:jC D)(H:r7 D P){h:HT}{l:List HT}(c:dh D P h l){a:HT}:a∈l↔Ch D P a h:=by
 rcases c with⟨h1,rfl⟩|⟨i,nd,ks,h1,rfl,h3,rfl⟩
 ·simp only [List.not_mem_nil,false_iff]
  exact fun e=>h1 e.mem.2
 ·have dQ:i<P.length:=by rw [H.len];exact(lgeS h1).1
  rw [List.mem_map];constructor
  ·rintro⟨k,hk,rfl⟩
   have hu:=(h3.mem H.par dQ).1 hk;have yh:=hu.Zb;rw [H.len]at yh;obtain⟨nk,S9⟩:∃nk,D[k]? =some nk:=⟨_,List.getElem?_eq_getElem yh⟩;exact⟨i,k,nd,nk,h1,rfl,S9,(mX S9).symm,hu⟩
  ·rintro⟨i',k,ni,nk,g1,g2,g3,g4,g5⟩
   have:=W.inj g1 h1 g2;subst this;exact⟨k,(h3.mem H.par dQ).2 g5,by rw [mX g3,g4]⟩
theorem dh.one{D:DG}{P:List Int}(W:jC D)(H:r7 D P){h:HT}{l l':List HT}(c:dh D P h l)(c':dh D P h l'):l=l':=by
 rcases c with⟨h1,rfl⟩|⟨i,nd,ks,h1,h2,h3,rfl⟩
 ·rcases c' with⟨_,rfl⟩|⟨i,nd,ks,g1,g2,_,_⟩
  ·rfl
  ·exact absurd (dI.2 ⟨nd,List.mem_of_getElem? g1,g2⟩) h1
 ·rcases c' with⟨g1,rfl⟩|⟨i',nd',ks',g1,g2,g3,rfl⟩
  ·exact absurd (dI.2 ⟨nd,List.mem_of_getElem? h1,h2⟩) g1
  ·have:=W.inj h1 g1 (by rw [h2,g2])
   subst this;rw [Up.one H.par h3 g3]
section
variable{w w':World}{F S:Nat->Prop}{x:Nat}{D:DG}{P:List Int}{m:XM}{K:Value->World->Prop}
theorem XV.PE(h:XV w F x D P m){i:Nat}{nd:DN}(hi:D[i]? =some nd):Cells w ((⟨m.ib,0,none⟩:Addr).add (i*32)) nd.id.1:=by
 obtain⟨a,ha,_,hc⟩:=(bL.hs h.row).at_ i nd.id (pK hi);cases ha;exact hc
theorem XV.HP(h:XV w F x D P m){i:Nat}{nd:DN}(hi:D[i]? =some nd):∃td,m.T[i]? =some td/\P[i]? =some td.parent:=by
 have dQ:=(lgeS hi).1;obtain⟨td,Zt⟩:=Tr.fJ (T:=m.T) (i:=i) (by rw [h.K3];exact dQ);exact⟨td,Zt,by rw [<-h.bP];exact Tr.kO Zt⟩
theorem tj(a:HT)(hK:∀w' pb qb,Kept Nil w w'->w'.heap[pb]? =some (.cells #[.pointer (some ⟨x,0,none⟩)] ga (0,0))->w'.heap[qb]? =some (.cells a.1 aj (0,0))->w.heap.size<=pb->w.heap.size<=qb->K (.func (.func aX.id) #[] #[.pointer (some ⟨pb,0,none⟩),.pointer (some ⟨qb,0,none⟩)]) w'):
 bj prog fQ.id #[.pointer (some ⟨x,0,none⟩),.agg a.1] w K:=by
 refine fQ.of ?_;unfold fQ.W;intro w3 w4;have k3:Kept Nil w w3:=(Kept.refl _ _).alloc _;have hp3:w3.heap[w.heap.size]? =some (.cells #[.pointer (some ⟨x,0,none⟩)] ga (0,0)):=aH w _;have k4:Kept Nil w3 w4:=(Kept.refl _ _).alloc _;have hq4:w4.heap[w3.heap.size]? =some (.cells a.1 aj (0,0)):=aH w3 _;clear_value w4;exact hK w4 _ _ (k3.tt k4) (k4.heap hp3 (fun h=>h)) hq4 (Nat.le_refl _) k3.size
theorem Dm{pb qb:Nat}{a:HT}{l:List HT}(hl:dh D P a l)(hD:D.length<=5000):
 nD prog aX.id #[] #[.pointer (some ⟨pb,0,none⟩),.pointer (some ⟨qb,0,none⟩)] (l.map rM) (fun w=>XV w F x D P m/\w.heap[pb]? =some (.cells #[.pointer (some ⟨x,0,none⟩)] ga (0,0))/\w.heap[qb]? =some (.cells a.1 aj (0,0))):=by
 intro y I Q w0 hI hQ rG h0 qF;obtain⟨hX,S7,VN⟩:=rG 0 w0 h0;have W:=hX.W;have mG:=hX.jX;refine aX.of ?_;unfold aX.W;refine⟨_,by rw [ay S7];rfl,a.1,⟨a.2.1,Cells.bz VN⟩,a.2.1,?_⟩;intro w6;have k6:Kept Nil w0 w6:=(Kept.refl _ _).alloc _;have p7:HS w6 (some ⟨w0.heap.size,0,none⟩) 1 [a]:=jA w0 a;clear_value w6;refine pI (hX.same k6) p7 (by omega) fun w8 k8=>⟨_,rfl,?_⟩;have wX:=k6.tt k8;rcases hl with⟨mZ,rfl⟩|⟨i,nd,ks,hi,hid,hup,rfl⟩
 ·exact Split.yes (by rw [decide_eq_false (by simpa using mZ)];rfl) (.inl (hI 0 w0 w8 h0 wX))
 ·have hm:a∈ids D:=dI.2 ⟨nd,List.mem_of_getElem? hi,hid⟩
  refine Split.no (by rw [decide_eq_true (by simpa using hm)];rfl) ?_;intro w10;have me:Kept Nil w8 w10:=(Kept.refl _ _).drew;clear_value w10;have xY:=wX.tt me;have vH:=hX.same xY;have lk:=vH.at_.wO a;rw [<-hid,W.pos_eq hi]at lk;rw [hid]at lk;refine⟨some ⟨x,0,none⟩,by rw [ay (xY.heap S7 (fun h=>h))];rfl,_,vH.c2,a.1,⟨a.2.1,Cells.bz (xY.heap VN (fun h=>h))⟩,_,lk,?_⟩;have dQ:i<P.length:=by rw [mG.len];exact(lgeS hi).1
  have VT:=mG.par;refine aX.b6 (I:=fun s v=>∃(k:Nat) (dn rs:List Nat),s=(k:Int)/\ks=dn++rs/\Up P k rs/\k<P.length/\I dn.length v) (μ:=fun s _=>s.toNat) (s:=((i:Nat):Int)) ⟨i,[],ks,rfl,rfl,hup,dQ,hI 0 w0 w10 h0 xY⟩ ?_;rintro s v ⟨k,dn,rs,rfl,hks,hur,yh,hv⟩;obtain⟨hXv,hpv,hqv⟩:=rG _ v hv;rw [mG.len]at yh;obtain⟨nk,S9⟩:∃nk,D[k]? =some nk:=⟨_,List.getElem?_eq_getElem yh⟩;refine⟨some ⟨x,0,none⟩,by rw [ay hpv];rfl,_,_,_,hXv.c3,⟨by omega,by omega⟩,nk.id.1,⟨nk.id.2.1,by rw [Int.toNat_natCast];exact hXv.PE S9⟩,?_⟩;have fE:((ks.map (oE D)).map rM)[dn.length]? =some (rM nk.id):=by
   rw [List.getElem?_map,List.getElem?_map,hks,List.getElem?_append_right (Nat.le_refl _),Nat.sub_self,hur.head];simp [mX S9]
  refine(qF dn.length (rM nk.id) v fE hv).mono ?_;rintro b v' ⟨ht,hf⟩;cases b with
  |false=>
   refine Split.no rfl ?_;rw [aP,aX.cX];exact .inr (hf rfl)
  |true=>
   refine Split.yes rfl ?_;have hI1:=ht rfl;cases hur with
   |root=>
    refine Split.no rfl ?_;rw [aP,aX.cX];refine .inl ?_;rw [List.length_map,List.length_map,hks,List.length_append];exact hI1
   | @step _ j rs' hj LZ=>
     have ZE:=(Tr.iN VT (Tr.eV.2 hj)).1;refine Split.yes (decide_eq_true (by omega)) ?_;obtain⟨RK,acy,_⟩:=rG _ v' hI1;obtain⟨td,Zt,htp⟩:=RK.HP S9;rw [hj]at htp;have ab1:(j:Int)=td.parent:=by simpa using htp
     refine⟨some ⟨x,0,none⟩,by rw [ay acy];rfl,_,RK.c1,Tr.yY RK.T Zt (by omega) ⟨_,_,rfl,?_⟩⟩;rw [<-ab1];refine⟨(j:Int),rfl,⟨j,dn++ [k],rs',rfl,by rw [hks];simp,LZ,by rw [mG.len];omega,?_⟩,by simp only;omega⟩;rw [List.length_append];exact hI1
end
structure XN(w v:World)(r:HT)(own:Nat->Nat)(G T E I Z:Option Nat)(l:List HT):Prop where
 kp:Kept Nil w v
 gr:∀g,G=some g->∃SG,yM v SG (fun _=>False) g [⟨r,[]⟩]/\∀k,SG k->w.heap.size<=k/\own k=1
 tr:∀t,T=some t->∃ST,Tr.nE v ST t Tr.qd 0/\∀k,ST k->w.heap.size<=k/\k<v.heap.size/\own k=2
 mp:∀b,E=some b->w.heap.size<=b/\own b=3/\IsMap v b l
 il:∀b,I=some b->w.heap.size<=b/\own b=4/\v.heap[b]? =some (.cells (r.1.toList++ []).toArray aj (0,0))
 cv:∀b,Z=some b->w.heap.size<=b/\own b=5/\fp v b (fun _=>none)
def tag(n t:Nat)(own:Nat->Nat)(k:Nat):Nat:=if n<=k then t else own k
theorem kz{n t k:Nat}{own:Nat->Nat}(h:k<n):tag n t own k=own k:=by unfold tag;rw [if_neg (by omega)]
theorem kF{n t k:Nat}{own:Nat->Nat}(h:n<=k):tag n t own k=t:=by unfold tag;rw [if_pos h]
section
variable{w v v':World}{r:HT}{own:Nat->Nat}{G T E I Z:Option Nat}{l:List HT}{K:Value->World->Prop}
theorem XN.grow(h:XN w v r own G T E I Z l)(t:Nat)(k:Kept Nil v v'):XN w v' r (tag v.heap.size t own) G T E I Z l:=by
 have hs:=k.size;refine⟨h.kp.tt k,fun g e=>?_,fun g e=>?_,fun b e=>?_,fun b e=>?_,fun b e=>?_⟩
 ·obtain⟨SG,h1,h2⟩:=h.gr g e
  exact⟨SG,h1.same k,fun q hq=>⟨(h2 q hq).1,by rw [kz (by obtain⟨bl,c,mb,M,G⟩:=h1;exact G.low q (.inl hq))];exact(h2 q hq).2⟩⟩
 ·obtain⟨ST,h1,h2⟩:=h.tr g e
  exact⟨ST,h1.same k,fun q hq=>⟨(h2 q hq).1,by have:=(h2 q hq).2.1;omega,by rw [kz (h2 q hq).2.1];exact(h2 q hq).2.2⟩⟩
 ·obtain⟨h1,h2,h3⟩:=h.mp b e
  exact⟨h1,by rw [kz h3.lt];exact h2,h3.az k (fun h=>h)⟩
 ·obtain⟨h1,h2,h3⟩:=h.il b e
  exact⟨h1,by rw [kz (aO h3)];exact h2,k.heap h3 (fun h=>h)⟩
 ·obtain⟨h1,h2,h3⟩:=h.cv b e
  exact⟨h1,by rw [kz h3.lt];exact h2,h3.az k (fun h=>h)⟩
theorem XN.cU(h:XN w v r own none T E I Z l){gb:Nat}(hG:yM v' (fun k=>v.heap.size<=k/\k<v'.heap.size) (fun _=>False) gb [⟨r,[]⟩])(k:Kept Nil v v'):XN w v' r (tag v.heap.size 1 own) (some gb) T E I Z l:=by
 have g:=h.grow 1 k;refine⟨g.kp,?_,g.tr,g.mp,g.il,g.cv⟩;intro g' e;cases e;have:=h.kp.size;exact⟨_,hG,fun q hq=>⟨by omega,kF hq.1⟩⟩
theorem XN.p9(h:XN w v r own G none E I Z l){t:Nat}(hT:Tr.nE v' (fun k=>v.heap.size<=k) t Tr.qd 0)(k:Kept Nil v v'):XN w v' r (tag v.heap.size 2 own) G (some t) E I Z l:=by
 have g:=h.grow 2 k;refine⟨g.kp,g.gr,?_,g.mp,g.il,g.cv⟩;intro t' e;cases e;have:=h.kp.size;exact⟨_,pS hT,fun q hq=>⟨by omega,hq.2,kF hq.1⟩⟩
theorem XN.pv(h:XN w v r own G T none I Z []):XN w (v.alloc (.map #[] 0)) r (tag v.heap.size 3 own) G T (some v.heap.size) I Z []:=by
 have g:=h.grow 3 ((Kept.refl Nil v).alloc (.map #[] 0));refine⟨g.kp,g.gr,g.tr,?_,g.il,g.cv⟩;intro b e;cases e;exact⟨h.kp.size,kF (Nat.le_refl _),⟨#[],0,aH v _,trivial⟩⟩
theorem XN.lI(h:XN w v r own G T E none Z l):XN w (v.alloc (.cells (r.1.toList++ []).toArray aj)) r (tag v.heap.size 4 own) G T E (some v.heap.size) Z l:=by
 have g:=h.grow 4 ((Kept.refl Nil v).alloc (.cells (r.1.toList++ []).toArray aj));refine⟨g.kp,g.gr,g.tr,g.mp,?_,g.cv⟩;intro b e;cases e;exact⟨h.kp.size,kF (Nat.le_refl _),aH v _⟩
theorem XN.lH(h:XN w v r own G T E I none l):XN w (v.alloc (.map #[] 0)) r (tag v.heap.size 5 own) G T E I (some v.heap.size) l:=by
 have g:=h.grow 5 ((Kept.refl Nil v).alloc (.map #[] 0));refine⟨g.kp,g.gr,g.tr,g.mp,g.il,?_⟩;intro b e;cases e;exact⟨h.kp.size,kF (Nat.le_refl _),fp.new v⟩
theorem XN.put{mb:Nat}(h:XN w v r own G T (some mb) I Z []):∃v',(Instr.mapUpdate cr (.map (some mb)) (.agg r.1) (.int .i64 0)).run prog v=.ok () v'/\XN w v' r own G T (some mb) I Z [r]:=by
 obtain⟨h1,h2,h3⟩:=h.mp mb rfl;obtain⟨v',hr,hm,hk⟩:=h3.put (h:=r) (by simp);refine⟨v',hr,(h.kp.trans hk (fun k hk e=>by omega)),fun g e=>?_,fun g e=>?_,fun b e=>?_,fun b e=>?_,fun b e=>?_⟩
 ·obtain⟨SG,g1,g2⟩:=h.gr g e
  exact⟨SG,g1.az hk (fun q hq e=>by have:=(g2 q hq).2;rw [e,h2]at this;cases this) (fun q hq=>hq.elim),g2⟩
 ·obtain⟨ST,g1,g2⟩:=h.tr g e
  exact⟨ST,g1.az hk (fun q hq e=>by have:=(g2 q hq).2.2;rw [e,h2]at this;cases this),fun q hq=>⟨(g2 q hq).1,Nat.lt_of_lt_of_le (g2 q hq).2.1 hk.size,(g2 q hq).2.2⟩⟩
 ·cases e
  exact⟨h1,h2,hm⟩
 ·obtain⟨g1,g2,g3⟩:=h.il b e
  exact⟨g1,g2,hk.heap g3 (fun e=>by rw [e,h2]at g2;cases g2)⟩
 ·obtain⟨g1,g2,g3⟩:=h.cv b e
  exact⟨g1,g2,g3.az hk (fun e=>by rw [e,h2]at g2;cases g2)⟩
theorem XN.fin{g t mb ib cb:Nat}{w0:World}(h:XN w v r own (some g) (some t) (some mb) (some ib) (some cb) [r])(hw:w0.heap.size<=w.heap.size):
 Bc (v.alloc (.cells #[.pointer (some ⟨g,0,none⟩),.pointer (some ⟨t,0,none⟩),.map (some mb),.slice (some ⟨ib,0,none⟩) 1 1,.map (some cb)] cM)) (fun k=>w0.heap.size<=k/\k<(v.alloc (.cells #[.pointer (some ⟨g,0,none⟩),.pointer (some ⟨t,0,none⟩),.map (some mb),.slice (some ⟨ib,0,none⟩) 1 1,.map (some cb)] cM)).heap.size) (fun _=>False) v.heap.size [⟨r,[]⟩] [-1]:=by
 have gJ:=aH v (.cells #[.pointer (some ⟨g,0,none⟩),.pointer (some ⟨t,0,none⟩),.map (some mb),.slice (some ⟨ib,0,none⟩) 1 1,.map (some cb)] cM);have kx:=(Kept.refl Nil v).alloc (.cells #[.pointer (some ⟨g,0,none⟩),.pointer (some ⟨t,0,none⟩),.map (some mb),.slice (some ⟨ib,0,none⟩) 1 1,.map (some cb)] cM);have hx:=aO gJ;generalize v.alloc (.cells #[.pointer (some ⟨g,0,none⟩),.pointer (some ⟨t,0,none⟩),.map (some mb),.slice (some ⟨ib,0,none⟩) 1 1,.map (some cb)] cM)=u at gJ kx hx;obtain⟨SG,hG,gG⟩:=h.gr g rfl;obtain⟨ST,hT,gT⟩:=h.tr t rfl;obtain⟨m1,m2,m3⟩:=h.mp mb rfl;obtain⟨i1,i2,i3⟩:=h.il ib rfl;obtain⟨c1,c2,c3⟩:=h.cv cb rfl;have mi:∀k,SG k->k<v.heap.size:=fun k e=>by obtain⟨bl,c,mb,M,G⟩:=hG;exact G.low k (.inl e)
 have sw:=h.kp.size;have lm:=m3.lt;have li:=aO i3;have lc:=c3.lt;have Cy:∀ {a b:HT},¬fC [(⟨r,[]⟩:DN)] a b:=zi r;refine⟨⟨g,t,mb,ib,1,cb,Tr.qd,0,SG,ST,fun _=>False⟩,⟨gJ,hG.same kx,hT.same kx,Tr.BK,rfl,⟨Int.le_refl 0,by show(0:Int)<=_;simp⟩,m3.az kx (fun h=>h),?_,⟨_,c3.az kx (fun h=>h),fun y=>⟨[],.inl ⟨rfl,rfl⟩,fun c=>?_⟩⟩,?_,jC.root r,?_,?_,?_,?_,?_,?_⟩,?_⟩
 ·have e:df [r]=(r.1.toList++ []).toArray.toList:=by simp [df]
  show Row _ _ _ _ _ _ _ (df [r])
  rw [e];exact Row.made (kx.heap i3 (fun h=>h)) (Nat.zero_le _) (by simp [r.2.1]) (by show 1<=maxLen;decide)
 ·simp only [List.not_mem_nil,false_iff]
  exact fun hc=>Cy hc.1
 ·refine⟨rfl,rfl,fun i p nd hi hp=>?_⟩
  cases i with
  |zero=>omega
  |succ i=>simp at hp
 ·exact fun k e=>⟨fun e'=>by have:=(gG k e).2;have:=(gT k e').2.2;omega,fun e'=>e'.elim⟩
 ·exact fun k e e'=>e'.elim
 ·exact fun k e=>e.elim
 ·intro k e
  have key:v.heap.size<=k\/3<=own k:=by
   rcases e with e|e|e|e
   ·exact .inl (by omega)
   ·exact .inr (by have e:k=mb:=e;rw [e];omega)
   ·exact .inr (by have e:k=ib:=e;rw [e];omega)
   ·exact .inr (by have e:k=cb:=e;rw [e];omega)
  refine⟨fun e'=>?_,fun e'=>?_,fun e'=>e'.elim,fun e'=>e'.elim⟩
  ·have h1:=(gG k e').2
   have h2:=mi k e';omega
  ·have h1:=(gT k e').2.2
   have h2:=(gT k e').2.1;omega
 ·refine⟨by show v.heap.size≠mb;omega,by show v.heap.size≠ib;omega,by show v.heap.size≠cb;omega,fun e=>?_,fun e=>?_,fun e=>?_⟩
  ·have e:mb=ib:=e
   rw [e]at m2;omega
  ·have e:mb=cb:=e
   rw [e]at m2;omega
  ·have e:ib=cb:=e
   rw [e]at i2;omega
 ·intro k e
  rcases e with e|e
  ·rcases e with e|e|e|e
   ·have:=mi k e;omega
   ·have:=(gT k e).2.1;omega
   ·exact e.elim
   ·rcases e with e|e|e|e
    ·omega
    ·have e:k=mb:=e;omega
    ·have e:k=ib:=e;omega
    ·have e:k=cb:=e;omega
  ·exact e.elim
 ·intro k e
  rcases e with e|e|e|e
  ·have:=mi k e;have:=(gG k e).1;omega
  ·have:=(gT k e).1;have:=(gT k e).2.1;omega
  ·exact e.elim
  ·rcases e with e|e|e|e
   ·omega
   ·have e:k=mb:=e;omega
   ·have e:k=ib:=e;omega
   ·have e:k=cb:=e;omega
structure XD(w o:World)(r:HT)(K:Value->World->Prop):Prop where
 cs:∀ {v:World},Kept Nil o v->∃cs:Array Value,(.agg r.1:Value)=.agg cs/\cs.size=32/\Cells v (⟨w.heap.size,0,none⟩:Addr) cs
 fin:∀ {v:World} {own:Nat->Nat} {g t mb ib cb:Nat},XN o v r own (some g) (some t) (some mb) (some ib) (some cb) [r]->K (.pointer (some ⟨v.heap.size,0,none⟩)) (v.alloc (.cells #[.pointer (some ⟨g,0,none⟩),.pointer (some ⟨t,0,none⟩),.map (some mb),.slice (some ⟨ib,0,none⟩) 1 1,.map (some cb)] cM))
end
section
variable{w o v e i z:World}{r:HT}{own:Nat->Nat}{g t:Nat}{K:Value->World->Prop}
theorem n1(D:XD w o r K)(h:XN o v r own (some g) (some t) (some e.heap.size) (some i.heap.size) (some z.heap.size) [r]):au.N1 (some ⟨g,0,none⟩) (some ⟨t,0,none⟩) e i z K v:=by
 unfold au.N1;exact D.fin h
theorem n2(D:XD w o r K)(h:XN o v r own (some g) (some t) (some e.heap.size) (some i.heap.size) none [r]):au.N2 (some ⟨g,0,none⟩) (some ⟨t,0,none⟩) e i K v:=by
 unfold au.N2;exact let n:=h.lH;n1 D n
theorem n3(D:XD w o r K)(h:XN o v r own (some g) (some t) (some e.heap.size) none (some z.heap.size) [r]):au.N3 r.1 (some ⟨g,0,none⟩) (some ⟨t,0,none⟩) e z K v:=by
 unfold au.N3;exact let n:=h.lI;⟨r.2.1,n1 D n⟩
theorem n4(D:XD w o r K)(h:XN o v r own (some g) (some t) (some e.heap.size) none none [r]):au.N4 r.1 (some ⟨g,0,none⟩) (some ⟨t,0,none⟩) e w K v:=by
 unfold au.N4;exact⟨(let n:=h.lI;⟨r.2.1,n2 D n⟩),(let n:=h.lH;⟨D.cs n.kp,n3 D n⟩)⟩
theorem n5(D:XD w o r K)(h:XN o v r own (some g) (some t) (some e.heap.size) (some i.heap.size) (some z.heap.size) []):au.N5 e r.1 (some ⟨g,0,none⟩) (some ⟨t,0,none⟩) i z K v:=by
 unfold au.N5;exact let ⟨u,q,n⟩:=h.put;⟨u,q,n1 D n⟩
theorem n6(D:XD w o r K)(h:XN o v r own (some g) (some t) (some e.heap.size) (some i.heap.size) none []):au.N6 e r.1 (some ⟨g,0,none⟩) (some ⟨t,0,none⟩) i w K v:=by
 unfold au.N6;exact⟨(let ⟨u,q,n⟩:=h.put;⟨u,q,n2 D n⟩),(let n:=h.lH;⟨D.cs n.kp,n5 D n⟩)⟩
theorem n7(D:XD w o r K)(h:XN o v r own (some g) (some t) (some e.heap.size) none (some z.heap.size) []):au.N7 e r.1 r.1 w (some ⟨g,0,none⟩) (some ⟨t,0,none⟩) z K v:=by
 unfold au.N7;exact⟨(let ⟨u,q,n⟩:=h.put;⟨u,q,D.cs n.kp,n3 D n⟩),(let n:=h.lI;⟨r.2.1,D.cs n.kp,n5 D n⟩)⟩
theorem n8(D:XD w o r K)(h:XN o v r own (some g) (some t) (some e.heap.size) none none []):au.N8 e r.1 r.1 w (some ⟨g,0,none⟩) (some ⟨t,0,none⟩) K v:=by
 unfold au.N8;exact⟨(let ⟨u,q,n⟩:=h.put;⟨u,q,D.cs n.kp,n4 D n⟩),(let n:=h.lI;⟨r.2.1,D.cs n.kp,n6 D n⟩),(let n:=h.lH;⟨D.cs n.kp,D.cs n.kp,n7 D n⟩)⟩
theorem n9(D:XD w o r K)(h:XN o v r own (some g) (some t) none (some i.heap.size) (some z.heap.size) []):au.N9 r.1 w (some ⟨g,0,none⟩) (some ⟨t,0,none⟩) i z K v:=by
 unfold au.N9;exact let n:=h.pv;⟨D.cs n.kp,n5 D n⟩
theorem n10(D:XD w o r K)(h:XN o v r own (some g) (some t) none (some i.heap.size) none []):au.Tx r.1 w (some ⟨g,0,none⟩) (some ⟨t,0,none⟩) i K v:=by
 unfold au.Tx;exact⟨(let n:=h.pv;⟨D.cs n.kp,n6 D n⟩),(let n:=h.lH;⟨D.cs n.kp,n9 D n⟩)⟩
theorem n11(D:XD w o r K)(h:XN o v r own (some g) (some t) none none (some z.heap.size) []):au.N11 r.1 w r.1 (some ⟨g,0,none⟩) (some ⟨t,0,none⟩) z K v:=by
 unfold au.N11;exact⟨(let n:=h.pv;⟨D.cs n.kp,D.cs n.kp,n7 D n⟩),(let n:=h.lI;⟨r.2.1,D.cs n.kp,n9 D n⟩)⟩
theorem n12(D:XD w o r K)(h:XN o v r own (some g) (some t) none none none []):au.Sk r.1 w r.1 (some ⟨g,0,none⟩) (some ⟨t,0,none⟩) K v:=by
 unfold au.Sk;exact⟨(let n:=h.pv;⟨D.cs n.kp,D.cs n.kp,n8 D n⟩),(let n:=h.lI;⟨r.2.1,D.cs n.kp,n10 D n⟩),(let n:=h.lH;⟨D.cs n.kp,D.cs n.kp,n11 D n⟩)⟩
theorem n13(D:XD w o r K)(h:XN o v r own (some g) none (some e.heap.size) (some i.heap.size) (some z.heap.size) [r]):au.M9 (some ⟨g,0,none⟩) e i z K v:=by
 unfold au.M9;exact Tr.eR fun _ _ q k=>let n:=h.p9 q k;⟨_,rfl,n1 D n⟩
theorem n14(D:XD w o r K)(h:XN o v r own (some g) none (some e.heap.size) (some i.heap.size) none [r]):au.Sj (some ⟨g,0,none⟩) e i K v:=by
 unfold au.Sj;exact⟨(Tr.eR fun _ _ q k=>let n:=h.p9 q k;⟨_,rfl,n2 D n⟩),(let n:=h.lH;n13 D n)⟩
theorem n15(D:XD w o r K)(h:XN o v r own (some g) none (some e.heap.size) none (some z.heap.size) [r]):au.YU r.1 w (some ⟨g,0,none⟩) e z K v:=by
 unfold au.YU;exact⟨(Tr.eR fun _ _ q k=>let n:=h.p9 q k;⟨_,rfl,D.cs n.kp,n3 D n⟩),(let n:=h.lI;⟨r.2.1,n13 D n⟩)⟩
theorem n16(D:XD w o r K)(h:XN o v r own (some g) none (some e.heap.size) none none [r]):au.Tw r.1 w (some ⟨g,0,none⟩) e K v:=by
 unfold au.Tw;exact⟨(Tr.eR fun _ _ q k=>let n:=h.p9 q k;⟨_,rfl,D.cs n.kp,n4 D n⟩),(let n:=h.lI;⟨r.2.1,n14 D n⟩),(let n:=h.lH;⟨D.cs n.kp,n15 D n⟩)⟩
theorem n17(D:XD w o r K)(h:XN o v r own (some g) none (some e.heap.size) (some i.heap.size) (some z.heap.size) []):au.Tv r.1 w e (some ⟨g,0,none⟩) i z K v:=by
 unfold au.Tv;exact⟨(Tr.eR fun _ _ q k=>let n:=h.p9 q k;⟨_,rfl,D.cs n.kp,n5 D n⟩),(let ⟨u,q,n⟩:=h.put;⟨u,q,n13 D n⟩)⟩
theorem n18(D:XD w o r K)(h:XN o v r own (some g) none (some e.heap.size) (some i.heap.size) none []):au.YT r.1 w e (some ⟨g,0,none⟩) i K v:=by
 unfold au.YT;exact⟨(Tr.eR fun _ _ q k=>let n:=h.p9 q k;⟨_,rfl,D.cs n.kp,n6 D n⟩),(let ⟨u,q,n⟩:=h.put;⟨u,q,n14 D n⟩),(let n:=h.lH;⟨D.cs n.kp,n17 D n⟩)⟩
theorem n19(D:XD w o r K)(h:XN o v r own (some g) none (some e.heap.size) none (some z.heap.size) []):au.KQ r.1 w r.1 e (some ⟨g,0,none⟩) z K v:=by
 unfold au.KQ;exact⟨(Tr.eR fun _ _ q k=>let n:=h.p9 q k;⟨_,rfl,D.cs n.kp,D.cs n.kp,n7 D n⟩),(let ⟨u,q,n⟩:=h.put;⟨u,q,D.cs n.kp,n15 D n⟩),(let n:=h.lI;⟨r.2.1,D.cs n.kp,n17 D n⟩)⟩
theorem n20(D:XD w o r K)(h:XN o v r own (some g) none (some e.heap.size) none none []):au.Pd r.1 w r.1 e (some ⟨g,0,none⟩) K v:=by
 unfold au.Pd;exact⟨(Tr.eR fun _ _ q k=>let n:=h.p9 q k;⟨_,rfl,D.cs n.kp,D.cs n.kp,n8 D n⟩),(let ⟨u,q,n⟩:=h.put;⟨u,q,D.cs n.kp,n16 D n⟩),(let n:=h.lI;⟨r.2.1,D.cs n.kp,n18 D n⟩),(let n:=h.lH;⟨D.cs n.kp,D.cs n.kp,n19 D n⟩)⟩
theorem n21(D:XD w o r K)(h:XN o v r own (some g) none none (some i.heap.size) (some z.heap.size) []):au.Pc r.1 w (some ⟨g,0,none⟩) i z K v:=by
 unfold au.Pc;exact⟨(Tr.eR fun _ _ q k=>let n:=h.p9 q k;⟨_,rfl,D.cs n.kp,n9 D n⟩),(let n:=h.pv;⟨D.cs n.kp,n17 D n⟩)⟩
theorem n22(D:XD w o r K)(h:XN o v r own (some g) none none (some i.heap.size) none []):au.Tu r.1 w (some ⟨g,0,none⟩) i K v:=by
 unfold au.Tu;exact⟨(Tr.eR fun _ _ q k=>let n:=h.p9 q k;⟨_,rfl,D.cs n.kp,n10 D n⟩),(let n:=h.pv;⟨D.cs n.kp,n18 D n⟩),(let n:=h.lH;⟨D.cs n.kp,n21 D n⟩)⟩
theorem n23(D:XD w o r K)(h:XN o v r own (some g) none none none (some z.heap.size) []):au.N23 r.1 w r.1 (some ⟨g,0,none⟩) z K v:=by
 unfold au.N23;exact⟨(Tr.eR fun _ _ q k=>let n:=h.p9 q k;⟨_,rfl,D.cs n.kp,D.cs n.kp,n11 D n⟩),(let n:=h.pv;⟨D.cs n.kp,D.cs n.kp,n19 D n⟩),(let n:=h.lI;⟨r.2.1,D.cs n.kp,n21 D n⟩)⟩
theorem n24(D:XD w o r K)(h:XN o v r own (some g) none none none none []):au.YR r.1 w r.1 (some ⟨g,0,none⟩) K v:=by
 unfold au.YR;exact⟨(Tr.eR fun _ _ q k=>let n:=h.p9 q k;⟨_,rfl,D.cs n.kp,D.cs n.kp,n12 D n⟩),(let n:=h.pv;⟨D.cs n.kp,D.cs n.kp,n20 D n⟩),(let n:=h.lI;⟨r.2.1,D.cs n.kp,n22 D n⟩),(let n:=h.lH;⟨D.cs n.kp,D.cs n.kp,n23 D n⟩)⟩
theorem n25(D:XD w o r K)(h:XN o v r own none none (some e.heap.size) (some i.heap.size) (some z.heap.size) [r]):au.M8 r.1 e i z K v:=by
 unfold au.M8;exact fY r fun _ _ q k=>let n:=h.cU q k;⟨_,rfl,n13 D n⟩
theorem n26(D:XD w o r K)(h:XN o v r own none none (some e.heap.size) (some i.heap.size) none [r]):au.N26 r.1 e i w K v:=by
 unfold au.N26;exact⟨(fY r fun _ _ q k=>let n:=h.cU q k;⟨_,rfl,n14 D n⟩),(let n:=h.lH;⟨D.cs n.kp,n25 D n⟩)⟩
theorem n27(D:XD w o r K)(h:XN o v r own none none (some e.heap.size) none (some z.heap.size) [r]):au.Si r.1 r.1 w e z K v:=by
 unfold au.Si;exact⟨(fY r fun _ _ q k=>let n:=h.cU q k;⟨_,rfl,D.cs n.kp,n15 D n⟩),(let n:=h.lI;⟨r.2.1,D.cs n.kp,n25 D n⟩)⟩
theorem n28(D:XD w o r K)(h:XN o v r own none none (some e.heap.size) none none [r]):au.N28 r.1 r.1 w e K v:=by
 unfold au.N28;exact⟨(fY r fun _ _ q k=>let n:=h.cU q k;⟨_,rfl,D.cs n.kp,n16 D n⟩),(let n:=h.lI;⟨r.2.1,D.cs n.kp,n26 D n⟩),(let n:=h.lH;⟨D.cs n.kp,D.cs n.kp,n27 D n⟩)⟩
theorem n29(D:XD w o r K)(h:XN o v r own none none (some e.heap.size) (some i.heap.size) (some z.heap.size) []):au.YQ r.1 r.1 w e i z K v:=by
 unfold au.YQ;exact⟨(fY r fun _ _ q k=>let n:=h.cU q k;⟨_,rfl,D.cs n.kp,n17 D n⟩),(let ⟨u,q,n⟩:=h.put;⟨u,q,D.cs n.kp,n25 D n⟩)⟩
theorem n30(D:XD w o r K)(h:XN o v r own none none (some e.heap.size) (some i.heap.size) none []):au.N30 r.1 r.1 w e i K v:=by
 unfold au.N30;exact⟨(fY r fun _ _ q k=>let n:=h.cU q k;⟨_,rfl,D.cs n.kp,n18 D n⟩),(let ⟨u,q,n⟩:=h.put;⟨u,q,D.cs n.kp,n26 D n⟩),(let n:=h.lH;⟨D.cs n.kp,D.cs n.kp,n29 D n⟩)⟩
theorem n31(D:XD w o r K)(h:XN o v r own none none (some e.heap.size) none (some z.heap.size) []):au.N31 r.1 r.1 w r.1 e z K v:=by
 unfold au.N31;exact⟨(fY r fun _ _ q k=>let n:=h.cU q k;⟨_,rfl,D.cs n.kp,D.cs n.kp,n19 D n⟩),(let ⟨u,q,n⟩:=h.put;⟨u,q,D.cs n.kp,D.cs n.kp,n27 D n⟩),(let n:=h.lI;⟨r.2.1,D.cs n.kp,D.cs n.kp,n29 D n⟩)⟩
theorem n32(D:XD w o r K)(h:XN o v r own none none (some e.heap.size) none none []):au.N32 r.1 r.1 w r.1 e K v:=by
 unfold au.N32;exact⟨(fY r fun _ _ q k=>let n:=h.cU q k;⟨_,rfl,D.cs n.kp,D.cs n.kp,n20 D n⟩),(let ⟨u,q,n⟩:=h.put;⟨u,q,D.cs n.kp,D.cs n.kp,n28 D n⟩),(let n:=h.lI;⟨r.2.1,D.cs n.kp,D.cs n.kp,n30 D n⟩),(let n:=h.lH;⟨D.cs n.kp,D.cs n.kp,D.cs n.kp,n31 D n⟩)⟩
theorem n33(D:XD w o r K)(h:XN o v r own none none none (some i.heap.size) (some z.heap.size) []):au.N33 r.1 r.1 w i z K v:=by
 unfold au.N33;exact⟨(fY r fun _ _ q k=>let n:=h.cU q k;⟨_,rfl,D.cs n.kp,n21 D n⟩),(let n:=h.pv;⟨D.cs n.kp,D.cs n.kp,n29 D n⟩)⟩
theorem n34(D:XD w o r K)(h:XN o v r own none none none (some i.heap.size) none []):au.N34 r.1 r.1 w i K v:=by
 unfold au.N34;exact⟨(fY r fun _ _ q k=>let n:=h.cU q k;⟨_,rfl,D.cs n.kp,n22 D n⟩),(let n:=h.pv;⟨D.cs n.kp,D.cs n.kp,n30 D n⟩),(let n:=h.lH;⟨D.cs n.kp,D.cs n.kp,n33 D n⟩)⟩
theorem n35(D:XD w o r K)(h:XN o v r own none none none none (some z.heap.size) []):au.N35 r.1 r.1 w r.1 z K v:=by
 unfold au.N35;exact⟨(fY r fun _ _ q k=>let n:=h.cU q k;⟨_,rfl,D.cs n.kp,D.cs n.kp,n23 D n⟩),(let n:=h.pv;⟨D.cs n.kp,D.cs n.kp,D.cs n.kp,n31 D n⟩),(let n:=h.lI;⟨r.2.1,D.cs n.kp,D.cs n.kp,n33 D n⟩)⟩
theorem n36(D:XD w o r K)(h:XN o v r own none none none none none []):au.N36 r.1 r.1 w r.1 K v:=by
 unfold au.N36;exact⟨(fY r fun _ _ q k=>let n:=h.cU q k;⟨_,rfl,D.cs n.kp,D.cs n.kp,n24 D n⟩),(let n:=h.pv;⟨D.cs n.kp,D.cs n.kp,D.cs n.kp,n32 D n⟩),(let n:=h.lI;⟨r.2.1,D.cs n.kp,D.cs n.kp,n34 D n⟩),(let n:=h.lH;⟨D.cs n.kp,D.cs n.kp,D.cs n.kp,n35 D n⟩)⟩
end
section
variable{K:Value->World->Prop}
theorem iA{w:World}(r:HT)(hK:∀v x,Bc v (fun k=>w.heap.size<=k/\k<v.heap.size) (fun _=>False) x [⟨r,[]⟩] [-1]->Kept Nil w v->K (.pointer (some ⟨x,0,none⟩)) v):
 bj prog au.id #[.agg r.1] w K:=by
 refine au.of ?_;unfold au.W;intro w_2 KW;have k2:Kept Nil w w_2:=(Kept.refl _ _).alloc _;have mu:w_2.heap[w.heap.size]? =some (.cells r.1 aj (0,0)):=aH w _;have k3:Kept Nil w KW:=k2.drew;have pN:KW.heap[w.heap.size]? =some (.cells r.1 aj (0,0)):=mu;clear_value KW;have N_3:XN KW KW r (fun _=>0) none none none none none []:=⟨Kept.refl _ _,(fun b e=>by cases e),(fun b e=>by cases e),(fun b e=>by cases e),(fun b e=>by cases e),(fun b e=>by cases e)⟩;have mK:∀ {v:World},Kept Nil KW v->∃cs:Array Value,(.agg r.1:Value)=.agg cs/\cs.size=32/\Cells v (⟨w.heap.size,0,none⟩:Addr) cs:=fun k=>⟨r.1,rfl,r.2.1,Cells.bz (k.heap pN (fun h=>h))⟩;have uZ:∀ {v:World} {own:Nat->Nat} {g t mb ib cb:Nat},XN KW v r own (some g) (some t) (some mb) (some ib) (some cb) [r]->K (.pointer (some ⟨v.heap.size,0,none⟩)) (v.alloc (.cells #[.pointer (some ⟨g,0,none⟩),.pointer (some ⟨t,0,none⟩),.map (some mb),.slice (some ⟨ib,0,none⟩) 1 1,.map (some cb)] cM)):=
  fun h=>hK _ _ (h.fin k3.size) ((k3.tt h.kp).alloc _)
 have c3:r.1.size=32/\Cells KW (⟨w.heap.size,0,none⟩:Addr) r.1:=⟨r.2.1,Cells.bz pN⟩;refine⟨r.1,c3,r.1,c3,r.1,c3,?_⟩;have D:XD w KW r K:=⟨mK,uZ⟩;exact n36 D N_3
end
end Go.Proofs.YtnboahlopghcjaaGreatDoor
