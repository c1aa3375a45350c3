import Derived.Test.YtfleamccglihoaaGreatDoorMG
import Derived.Test.YtfleamccglihoaaGreatDoorMH
import Derived.Test.YtfleamccglihoaaGreatDoorME
import Derived.Laws.AppendOwn
open Go.IntKind (i64 u64)
set_option linter.unusedVariables false
namespace Go.Proofs.YtfleamccglihoaaGreatDoor
open Go.Proofs.Tryz
open Go Go.bE
open Tr (jh)
structure rJ(D:DG)(P:List Int):Prop where
 len:P.length=D.length
 root:P[0]? =some (-1)
 up:∀(i:Nat) (p:Int) nd,0<i->P[i]? =some p->D[i]? =some nd->∃(j:Nat) (m:DN),p=(j:Int)/\j<i/\D[j]? =some m/\m.id∈nd.ps
def Ch(D:DG)(P:List Int)(a b:HT):Prop:=∃(i k:Nat) (ni nk:DN),D[i]? =some ni/\ni.id=b/\D[k]? =some nk/\nk.id=a/\jh P i k
def jT(D:DG)(P:List Int)(s c:HT):Prop:=∃(i j:Nat) (ni m:DN),D[i]? =some ni/\ni.id=c/\P[i]? =some (j:Int)/\D[j]? =some m/\m.id=s
def Ji(D:DG)(P:List Int)(h c:HT):Prop:=fD D h c/\∃s,jT D P s c/\h≠s/\¬fD D h s
section
variable{D:DG}{P:List Int}
theorem rJ.par(H:rJ D P):Tr.nf P:=⟨H.root,fun i p hi hp=>by
 have fc:=(lgeS hp).1;rw [H.len]at fc;obtain⟨j,m,h1,h2,_⟩:=H.up i p _ hi hp (List.getElem?_eq_getElem fc);exact⟨j,h2,h1⟩⟩
theorem jT.par(H:rJ D P){s c:HT}(h:jT D P s c):nf D s c:=by
 obtain⟨i,j,ni,m,h1,rfl,h3,h4,rfl⟩:=h;have hi:0<i:=by
  rcases Nat.eq_zero_or_pos i with rfl|h
  ·rw [H.root]at h3;simp only [Option.some.injEq]at h3;omega
  ·exact h
 obtain⟨j',m',e,_,h5,h6⟩:=H.up i _ ni hi h3 h1;have:j'=j:=by omega
 subst this;rw [h4]at h5;cases h5;exact⟨ni,List.mem_of_getElem? h1,rfl,h6⟩
theorem jT.one(W:jQ D){s s' c:HT}(h:jT D P s c)(h':jT D P s' c):s=s':=by
 obtain⟨i,j,ni,m,h1,rfl,h3,h4,rfl⟩:=h;obtain⟨i',j',ni',m',qV,e,AT,Sf,rfl⟩:=h';have:=W.inj h1 qV e.symm;subst this;rw [h3]at AT;simp only [Option.some.injEq]at AT;have:j=j':=by omega
 subst this;rw [h4]at Sf;cases Sf;rfl
theorem jT.ex(H:rJ D P){i:Nat}{ni:DN}(hi:0<i)(h:D[i]? =some ni):∃(j:Nat) (m:DN),j<i/\P[i]? =some (j:Int)/\D[j]? =some m/\jT D P m.id ni.id:=by
 have fc:=(lgeS h).1;obtain⟨p,hp⟩:∃p,P[i]? =some p:=⟨_,List.getElem?_eq_getElem (by rw [H.len];exact fc)⟩;obtain⟨j,m,rfl,hj,hm,_⟩:=H.up i p ni hi hp h;exact⟨j,m,hj,hp,hm,i,j,ni,m,h,rfl,hp,hm,rfl⟩
theorem Ch.refl(H:rJ D P){a:HT}(h:a∈ids D):Ch D P a a:=by
 obtain⟨nd,gP,e⟩:=dw.1 h;obtain⟨i,hi⟩:=List.mem_iff_getElem?.1 gP;exact⟨i,i,nd,nd,hi,e,hi,e,.refl (by rw [H.len];exact(lgeS hi).1)⟩
theorem Ch.mem{a b:HT}(h:Ch D P a b):a∈ids D/\b∈ids D:=by
 obtain⟨i,k,ni,nk,h1,h2,h3,h4,_⟩:=h;exact⟨dw.2 ⟨nk,List.mem_of_getElem? h3,h4⟩,dw.2 ⟨ni,List.mem_of_getElem? h1,h2⟩⟩
theorem Ch.step(W:jQ D){a s c:HT}(hs:jT D P s c)(h:Ch D P a s):Ch D P a c:=by
 obtain⟨i,j,ni,m,h1,rfl,h3,h4,rfl⟩:=hs;obtain⟨j',k,nj,nk,g1,g2,g3,g4,g5⟩:=h;have:=W.inj g1 h4 g2;subst this;exact⟨i,k,ni,nk,h1,rfl,g3,g4,.step h3 g5⟩
theorem Ch.Je(W:jQ D)(H:rJ D P){a b:HT}(h:Ch D P a b):a=b\/fD D a b:=by
 obtain⟨i,k,ni,nk,h1,rfl,h3,rfl,h5⟩:=h
 induction h5 generalizing ni with
 |refl _=>rw [h1]at h3;cases h3;exact .inl rfl
 | @step i j k hj hu ih=>
   have tM:=hu.lt;rw [H.len]at tM;obtain⟨m,hm⟩:∃m,D[j]? =some m:=⟨_,List.getElem?_eq_getElem tM⟩;have hp:nf D m.id ni.id:=jT.par H ⟨i,j,ni,m,h1,rfl,hj,hm,rfl⟩;rcases ih m hm h3 with e|e
   ·rw [e];exact .inr (.one hp)
   ·exact .inr (.more e hp)
theorem Fo(W:jQ D)(H:rJ D P){a b:HT}(fH:a≠b):fD D a b↔Ch D P a b\/∃c,Ji D P a c/\Ch D P c b:=by
 constructor
 ·intro h
  obtain⟨nb,KN,e⟩:=dw.1 (h.mem W).2;obtain⟨i,hb⟩:=List.mem_iff_getElem?.1 KN;clear KN;subst e
  induction i using Nat.strongRecOn generalizing nb with
  |_ i ih=>
   have hi:0<i:=by
    rcases Nat.eq_zero_or_pos i with rfl|h0
    ·exfalso
     obtain⟨x,y,mx,my,l9,_,hy,_,e2⟩:=h.at_ W;have:=W.inj hy hb e2;omega
    ·exact h0
   obtain⟨j,m,hj,_,hm,hs⟩:=jT.ex H hi hb;by_cases e1:a=m.id
   ·exact .inl (Ch.step W hs (by rw [e1];exact Ch.refl H (dw.2 ⟨m,List.mem_of_getElem? hm,rfl⟩)))
   ·by_cases e2:fD D a m.id
    ·rcases ih j hj m hm e1 e2 with e3|⟨c,e3,e4⟩
     ·exact .inl (Ch.step W hs e3)
     ·exact .inr ⟨c,e3,Ch.step W hs e4⟩
    ·exact .inr ⟨nb.id,⟨h,m.id,hs,e1,e2⟩,Ch.refl H (dw.2 ⟨nb,List.mem_of_getElem? hb,rfl⟩)⟩
 ·rintro(h|⟨c,⟨h1,_⟩,h2⟩)
  ·exact(h.Je W H).resolve_left fH
  ·rcases h2.Je W H with e|e
   ·rw [<-e];exact h1
   ·exact h1.trans e
theorem rJ.snoc(H:rJ D P){nd:DN}{j:Nat}{m:DN}(hj:D[j]? =some m)(hm:m.id∈nd.ps)(km:0<D.length):rJ (D++ [nd]) (P++ [(j:Int)]) where
 len:=by simp [H.len]
 root:=by rw [List.getElem?_append_left (by rw [H.len];exact km)];exact H.root
 up:=fun i p nd' hi hp gP=>by
  have tM:=(lgeS hj).1;by_cases h:i<D.length
  ·rw [List.getElem?_append_left (by rw [H.len];exact h)]at hp
   rw [List.getElem?_append_left h]at gP;obtain⟨j',m',e,h1,h2,h3⟩:=H.up i p nd' hi hp gP;exact⟨j',m',e,h1,by rw [List.getElem?_append_left (by omega)];exact h2,h3⟩
  ·have fc:=(lgeS gP).1
   have e:i=D.length:=by simp at fc;omega
   subst e;rw [<-H.len]at hp;simp at hp gP;subst hp gP;exact⟨j,m,rfl,tM,by rw [List.getElem?_append_left tM];exact hj,hm⟩
theorem ml(W:jQ D)(H:rJ D P){nd:DN}(hn:nd.id∉ids D){j:Nat}{m:DN}(hj:D[j]? =some m){s c:HT}:
 jT (D++ [nd]) (P++ [(j:Int)]) s c↔jT D P s c\/(c=nd.id/\s=m.id):=by
 have tM:=(lgeS hj).1;constructor
 ·rintro⟨i,k,ni,mk,h1,rfl,h3,h4,rfl⟩
  by_cases h:i<D.length
  ·rw [List.getElem?_append_left h]at h1
   rw [List.getElem?_append_left (by rw [H.len];exact h)]at h3;have hk:k<D.length:=by
    rcases Nat.eq_zero_or_pos i with rfl|h0
    ·rw [H.root]at h3;simp only [Option.some.injEq]at h3;omega
    ·obtain⟨k',_,e,h5,_⟩:=H.up i _ ni h0 h3 h1
     omega
   rw [List.getElem?_append_left hk]at h4;exact .inl ⟨i,k,ni,mk,h1,rfl,h3,h4,rfl⟩
  ·have fc:=(lgeS h1).1
   have e:i=D.length:=by simp at fc;omega
   subst e;have AT:=h3;rw [<-H.len]at AT;simp at h1 AT;subst h1;have:k=j:=by omega
   subst this;rw [List.getElem?_append_left tM,hj]at h4;cases h4;exact .inr ⟨rfl,rfl⟩
 ·rintro(⟨i,k,ni,mk,h1,rfl,h3,h4,rfl⟩|⟨rfl,rfl⟩)
  ·have hi:=(lgeS h1).1
   have hk:=(lgeS h4).1;exact⟨i,k,ni,mk,by rw [List.getElem?_append_left hi];exact h1,rfl,by rw [List.getElem?_append_left (by rw [H.len];exact hi)];exact h3,by rw [List.getElem?_append_left hk];exact h4,rfl⟩
  ·exact⟨D.length,j,nd,m,by simp,rfl,by rw [<-H.len];simp,by rw [List.getElem?_append_left tM];exact hj,rfl⟩
theorem Fe(W:jQ D)(H:rJ D P){nd:DN}(hn:nd.id∉ids D)(gK:∀p∈nd.ps,p∈ids D){j:Nat}{m:DN}(hj:D[j]? =some m){h c:HT}:
 Ji (D++ [nd]) (P++ [(j:Int)]) h c↔Ji D P h c\/(c=nd.id/\fD (D++ [nd]) h nd.id/\h≠m.id/\¬fD D h m.id):=by
 have hm:m.id∈ids D:=dw.2 ⟨m,List.mem_of_getElem? hj,rfl⟩;have key:∀ {s c},jT D P s c->s∈ids D/\c∈ids D:=fun hs=>(fD.one (jT.par H hs)).mem W;constructor
 ·rintro⟨h1,s,hs,h2,h3⟩
  rcases(ml W H hn hj).1 hs with hs|⟨rfl,rfl⟩
  ·obtain⟨g1,g2⟩:=key hs
   exact .inl ⟨(iw W hn g2).1 h1,s,hs,h2,fun e=>h3 ((iw W hn g1).2 e)⟩
  ·exact .inr ⟨rfl,h1,h2,fun e=>h3 ((iw W hn hm).2 e)⟩
 ·rintro(⟨h1,s,hs,h2,h3⟩|⟨rfl,h1,h2,h3⟩)
  ·obtain⟨g1,g2⟩:=key hs
   exact⟨(iw W hn g2).2 h1,s,(ml W H hn hj).2 (.inl hs),h2,fun e=>h3 ((iw W hn g1).1 e)⟩
  ·exact⟨h1,m.id,(ml W H hn hj).2 (.inr ⟨rfl,rfl⟩),h2,fun e=>h3 ((iw W hn hm).1 e)⟩
inductive Up (P:List Int):Nat->List Nat->Prop
 |root:Up P 0 [0]
 |step {i j:Nat} {l:List Nat}:P[i]? =some (j:Int)->Up P j l->Up P i (i::l)
theorem Up.ex(hP:Tr.nf P):∀i,i<P.length->∃l,Up P i l:=by
 intro i
 induction i using Nat.strongRecOn with
 |_ i ih=>
  intro hi;rcases Nat.eq_zero_or_pos i with rfl|h0
  ·exact⟨[0],.root⟩
  ·obtain⟨j,h1,h2⟩:=hP.up i _ h0 (List.getElem?_eq_getElem hi)
   obtain⟨l,hl⟩:=ih j h1 (by omega);exact⟨i::l,.step (by rw [List.getElem?_eq_getElem hi,h2]) hl⟩
theorem Up.mem(hP:Tr.nf P){i:Nat}{l:List Nat}(h:Up P i l)(hi:i<P.length){k:Nat}:k∈l↔jh P i k:=by
 induction h with
 |root=>
  rw [List.mem_singleton];constructor
  ·rintro rfl;exact .refl hi
  ·intro h;have:=h.le hP;omega
 | @step i j l hj hu ih=>
   have tM:j<P.length:=by have:=(Tr.gR hP (Tr.dG.2 hj)).1;omega
   rw [List.mem_cons,ih tM];constructor
   ·rintro(rfl|h)
    ·exact .refl hi
    ·exact .step hj h
   ·intro h
    by_cases e:k=i
    ·exact .inl e
    ·exact .inr (h.inv (fun e'=>e e'.symm) hj)
theorem Up.one(hP:Tr.nf P){i:Nat}{l l':List Nat}(h:Up P i l)(h':Up P i l'):l=l':=by
 induction h generalizing l' with
 |root=>
  cases h' with
  |root=>rfl
  |step hj _=>rw [hP.root]at hj;simp only [Option.some.injEq]at hj;omega
 | @step i j l hj hu ih=>
   cases h' with
   |root=>rw [hP.root]at hj;simp only [Option.some.injEq]at hj;omega
   | @step _ j' l' uW GY=>
     rw [hj]at uW;simp only [Option.some.injEq]at uW;have:j=j':=by omega
     subst this;rw [ih GY]
theorem Up.head{i:Nat}{l:List Nat}(h:Up P i l):l[0]? =some i:=by cases h<;>rfl
theorem Up.lt(hP:Tr.nf P){i:Nat}{l:List Nat}(h:Up P i l)(hi:i<P.length):∀k∈l,k<P.length:=fun k hk=>((h.mem hP hi).1 hk).Rx
end
end Go.Proofs.YtfleamccglihoaaGreatDoor
namespace Go.Proofs.YtfleamccglihoaaGreatDoor
open Go.Proofs.Tryz
open Go Go.bE Go.RowKit
structure uw(mt te:TypeId)(z:Value):Prop where
 mY:prog.underlying mt=some (.map ax te)
 zero:∀w,(zeroValue te).run prog w=.ok z w
def assoc(h:HT):List (HT×Value)->Option Value
 | []=>none
 |(x,v)::l=>if h=x then some v else assoc h l
def j0(h:HT):List (HT×Value)->Nat->Option (Nat×Value)
 | [],_=>none
 |(x,v)::l,i=>if h=x then some (i,v)else j0 h l (i+1)
theorem lA(h:HT):∀(l:List (HT×Value)) (i:Nat),(j0 h l i).map (·.2)=assoc h l
 | [],_=>rfl
 |(x,v)::l,i=>by
  unfold j0 assoc;split
  ·rfl
  ·exact lA h l (i+1)
theorem th{h:HT}:∀ {l:List (HT×Value)} {i j:Nat} {v:Value},j0 h l i=some (j,v)->i<=j/\l[j-i]? =some (h,v)/\∀(x:HT) (u:Value),assoc x (l.set (j-i) (h,u))=if x=h then some u else assoc x l
 | [],i,j,v,e=>by simp [j0]at e
 |(x,u)::l,i,j,v,e=>by
  unfold j0 at e;split at e
  ·rename_i hx
   cases e;subst hx;refine⟨Nat.le_refl _,by rw [Nat.sub_self];rfl,fun x u=>?_⟩;rw [Nat.sub_self];simp only [List.set_cons_zero,assoc];by_cases hx:x=h<;>simp [hx]
  ·rename_i hx
   obtain⟨h1,h2,h3⟩:=th e;have e1:j-i=(j-(i+1))+1:=by omega
   refine⟨by omega,by rw [e1];exact h2,fun y u'=>?_⟩;rw [e1];simp only [List.set_cons_succ,assoc,h3];by_cases hy:y=h
   ·subst hy;simp [hx]
   ·simp [hy]
theorem tD{h:HT}{v:Value}:∀ {l:List (HT×Value)},assoc h l=none->∀x,assoc x (l++ [(h,v)])=if x=h then some v else assoc x l
 | [],_,x=>by simp [assoc]
 |(y,u)::l,e,x=>by
  unfold assoc at e;split at e
  ·cases e
  ·rename_i hy
   have ih:=tD (v:=v) e x;simp only [List.cons_append,assoc,ih];by_cases hx:x=y
   ·subst hx;simp [Ne.symm hy]
   ·simp [hx]
def lK(es:List MapEntry)(l:List (HT×Value)):Prop:=match es,l with
 | [],[]=>True
 |e::es,p::l=>(e.key=.agg p.1.1/\e.val=p.2)/\lK es l
 |_,_=>False
theorem lK.snoc:∀ {es:List MapEntry} {l:List (HT×Value)} {e:MapEntry} {p:HT×Value},lK es l->e.key=.agg p.1.1->e.val=p.2->lK (es++ [e]) (l++ [p])
 | [],[],_,_,_,h1,h2=>⟨⟨h1,h2⟩,trivial⟩
 |_::_,_::_,_,_,he,h1,h2=>⟨he.1,lK.snoc he.2 h1 h2⟩
 | [],_::_,_,_,he,_,_=>he.elim
 |_::_,[],_,_,he,_,_=>he.elim
theorem lK.get:∀ {es:List MapEntry} {l:List (HT×Value)} {j:Nat} {p:HT×Value},lK es l->l[j]? =some p->∃e,es[j]? =some e/\e.key=.agg p.1.1/\e.val=p.2
 | [],[],_,_,_,h=>by simp at h
 |e::_,_::_,0,_,he,h=>by
  simp only [List.getElem?_cons_zero,Option.some.injEq]at h;subst h;exact⟨e,rfl,he.1⟩
 |_::_,_::_,j+1,_,he,h=>by
  obtain⟨e,h1,h2⟩:=lK.get he.2 (j:=j) (by simpa using h);exact⟨e,by simpa using h1,h2⟩
 | [],_::_,_,_,he,_=>he.elim
 |_::_,[],_,_,he,_=>he.elim
theorem lK.set:∀ {es:List MapEntry} {l:List (HT×Value)} {j:Nat} {p:HT×Value} {f:MapEntry->MapEntry},lK es l->(∀e,(f e).key=.agg p.1.1/\(f e).val=p.2)->lK (es.modify j f) (l.set j p)
 | [],[],_,_,_,he,_=>by simpa using he
 |_::_,_::_,0,_,_,he,hf=>⟨hf _,he.2⟩
 |_::_,_::_,j+1,_,_,he,hf=>by
  simp only [List.modify_succ_cons,List.set_cons_succ];exact⟨he.1,lK.set he.2 hf⟩
 | [],_::_,_,_,_,he,_=>he.elim
 |_::_,[],_,_,_,he,_=>he.elim
theorem lK.len:∀ {es:List MapEntry} {l:List (HT×Value)},lK es l->es.length=l.length
 | [],[],_=>rfl
 |_::_,_::_,he=>by simp [lK.len he.2]
 | [],_::_,he=>he.elim
 |_::_,[],he=>he.elim
section
variable{w:World}
theorem pv(h:HT)(w:World):∀(es:List MapEntry) (l:List (HT×Value)) (i:Nat),lK es l->
 (Instr.findAsking ax (.agg h.1) es i).run prog w=.ok (j0 h l i) w
 | [],[],i,_=>by simp [Instr.findAsking,j0]
 |e::es,(x,v)::l,i,he=>by
  have hq:=r6 h x w;have ih:=pv h w es l (i+1) he.2;simp only [Instr.findAsking,he.1.1,Sem.run_bind,hq,Result.andThen_ok];by_cases hx:h=x
  ·simp [hx,j0,he.1.2]
  ·simp [hx,j0,ih]
 | [],_::_,_,he=>he.elim
 |_::_,[],_,he=>he.elim
theorem kf(h:HT)(w:World){es:List MapEntry}{l:List (HT×Value)}(he:lK es l):
 (Instr.findKey ax (.agg h.1) es).run prog w=.ok (j0 h l 0) w:=by
 have h1:=pv h w es l 0 he;simp only [Instr.findKey,Sem.run_bind,run_underlying Ge,Result.andThen_ok];cases es with
 |nil=>
  cases l with
  |nil=>simp [Instr.findNow,j0]
  |cons x l=>exact he.elim
 |cons e es=>
  have:Instr.findNow (.array 32 gU) (.agg h.1) (e::es) 0=none:=by
   simp only [Instr.findNow,Instr.sameNow]
  rw [this];exact h1
theorem BG(h:HT):Instr.sameBits 10000 (.agg h.1) (.agg h.1)=true:=by
 show Instr.sameBits (9999+1) (.agg h.1) (.agg h.1)=true
 rw [Instr.sameBits];simp only [beq_self_eq_true,Bool.true_and,List.all_eq_true];rintro⟨x,y⟩ l9;have TP:x=y:=by
  obtain⟨i,hi⟩:=List.mem_iff_getElem?.1 l9;rw [List.getElem?_zip_eq_some]at hi;have:=hi.1.symm.trans hi.2;simpa using this
 subst TP;have hm:=(List.of_mem_zip l9).1;obtain⟨n,rfl,_⟩:=h.2.2 x hm;simp [Instr.sameBits]
structure dW(w:World)(m:Nat)(f:HT->Option Value):Prop where
 ex:∃es clock l,w.heap[m]? =some (.map es clock)/\lK es.toList l/\(∀x,assoc x l=f x)/\(∀e∈es.toList,e.born<clock)/\(es.toList.map (·.born)).Nodup/\(l.map (·.1)).Nodup
theorem dW.aK{S:Nat->Prop}{w w':World}{m:Nat}{f:HT->Option Value}(h:dW w m f)(hk:Kept S w w')(hn:¬S m):dW w' m f:=by
 obtain⟨es,clock,l,h1,h2⟩:=h.ex;exact⟨es,clock,l,hk.heap h1 hn,h2⟩
theorem dW.same{w w':World}{m:Nat}{f:HT->Option Value}(h:dW w m f)(hk:Kept Nil w w'):dW w' m f:=h.aK hk (fun h=>h)
theorem dW.lt{w:World}{m:Nat}{f:HT->Option Value}(h:dW w m f):m<w.heap.size:=by
 obtain⟨es,clock,l,h1,_⟩:=h.ex;exact aZ h1
theorem dW.new(w:World):dW (w.alloc (.map #[] 0)) w.heap.size (fun _=>none):=⟨#[],0,[],aR w _,trivial,fun _=>rfl,by simp,by simp,by simp⟩
theorem dW.look{mt te:TypeId}{z:Value}(T:uw mt te z){m:Nat}{f:HT->Option Value}(hm:dW w m f)(h:HT):
 (Instr.lookup mt (.map (some m)) (.agg h.1) false).run prog w=.ok ((f h).getD z) w:=by
 obtain⟨es,clock,l,h1,h2,h3,_⟩:=hm.ex;have h4:=kf h w h2;have h5:=lA h l 0;rw [h3]at h5;simp only [Instr.lookup,Sem.run_bind,run_underlying T.mY,nR h1,Result.andThen_ok,Sem.run_pure,hU,h4];cases hp:j0 h l 0 with
 |none=>rw [hp]at h5;simp [<-h5,T.zero]
 |some p=>rw [hp]at h5;simp [<-h5]
theorem dW.put{mt te:TypeId}{z:Value}(T:uw mt te z){m:Nat}{f:HT->Option Value}(hm:dW w m f)(h:HT)(v:Value):
 ∃w',(Instr.mapUpdate mt (.map (some m)) (.agg h.1) v).run prog w=.ok () w'/\dW w' m (fun x=>if x=h then some v else f x)/\Kept (· =m) w w':=by
 obtain⟨es,clock,l,h1,h2,h3,hb,hd,hk⟩:=hm.ex;have h4:=kf h w h2;have kept:∀o,Kept (· =m) w {w with heap:=w.heap.setIfInBounds m o}:=fun o=>⟨rfl,rfl,rfl,by simp,fun k _ hk=>by simp [Ne.symm hk]⟩;cases hp:j0 h l 0 with
 |none=>
  rw [hp]at h4;have h5:=lA h l 0;rw [hp]at h5;refine⟨{w with heap:=w.heap.setIfInBounds m (.map (es.push {key:=.agg h.1,val:=v,born:=clock}) (clock+1))},?_,⟨es.push {key:=.agg h.1,val:=v,born:=clock},clock+1,l++ [(h,v)],?_,?_,?_,?_,?_,?_⟩,kept _⟩
  ·simp only [Instr.mapUpdate,Sem.run_bind,run_underlying T.mY,nR h1,Result.andThen_ok,hU,h4,yx _ h1]
  ·simp [aZ h1]
  ·have:=h2.snoc (e:= {key:=.agg h.1,val:=v,born:=clock}) (p:=(h,v)) rfl rfl
   simpa using this
  ·intro x
   rw [tD h5.symm,h3]
  ·intro e he
   rw [Array.toList_push,List.mem_append,List.mem_singleton]at he;rcases he with he|rfl
   ·have:=hb e he;omega
   ·exact Nat.lt_succ_self _
  ·rw [Array.toList_push,List.map_append,List.nodup_append]
   refine⟨hd,by simp,fun a ha b uf e=>?_⟩;simp only [List.map_cons,List.map_nil,List.mem_singleton]at uf;obtain⟨e',Hl,rfl⟩:=List.mem_map.1 ha;have:=hb e' Hl;omega
  ·rw [List.map_append,List.nodup_append]
   refine⟨hk,by simp,fun a ha b uf e=>?_⟩;simp only [List.map_cons,List.map_nil,List.mem_singleton]at uf;subst uf;subst e;have key:∀l:List (HT×Value),a∈l.map (·.1)->assoc a l≠none:=fun l=>by
    induction l with
    |nil=>simp
    |cons p l ih=>
     obtain⟨y,u⟩:=p;intro hm;unfold assoc;split
     ·simp
     ·rename_i hy
      simp only [List.map_cons,List.mem_cons]at hm;exact ih (hm.resolve_left hy)
   exact key l ha h5.symm
 |some p=>
  obtain⟨j,u⟩:=p;rw [hp]at h4;obtain⟨_,h6,h7⟩:=th hp;rw [Nat.sub_zero]at h6 h7;obtain⟨e,he1,My,_⟩:=h2.get h6;have VA:es[j]? =some e:=by simpa using he1
  refine⟨{w with heap:=w.heap.setIfInBounds m (.map (es.modify j fun e=> {e with key:=.agg h.1,val:=v}) clock)},?_,⟨es.modify j fun e=> {e with key:=.agg h.1,val:=v},clock,l.set j (h,v),?_,?_,?_,?_,?_,?_⟩,kept _⟩
  ·simp only [Instr.mapUpdate,Sem.run_bind,run_underlying T.mY,nR h1,Result.andThen_ok,hU,h4,Instr.keyThatStays,VA,Option.map_some,Option.getD_some,My,BG,if_true,Sem.run_pure,yx _ h1]
  ·simp [aZ h1]
  ·rw [Array.toList_modify]
   exact h2.set (p:=(h,v)) fun e=>⟨rfl,rfl⟩
  ·intro x
   rw [h7,h3]
  ·intro x hx
   rw [Array.toList_modify]at hx;obtain⟨i,hi⟩:=List.mem_iff_getElem?.1 hx;rw [List.getElem?_modify]at hi;cases hg:es.toList[i]? with
   |none=>rw [hg]at hi;simp at hi
   |some y=>
    rw [hg]at hi;have:=hb y (List.mem_of_getElem? hg);by_cases pP:j=i
    ·simp [pP]at hi
     rw [<-hi];exact this
    ·simp [pP]at hi
     rw [<-hi];exact this
  ·have:(es.modify j fun e=> {e with key:=.agg h.1,val:=v}).toList.map (·.born)=es.toList.map (·.born):=by
    rw [Array.toList_modify];apply List.ext_getElem?;intro i;rw [List.getElem?_map,List.getElem?_map,List.getElem?_modify];cases es.toList[i]? with
    |none=>simp
    |some y=>by_cases pP:j=i<;>simp [pP]
   rw [this];exact hd
  ·have:(l.set j (h,v)).map (·.1)=l.map (·.1):=by
    apply List.ext_getElem?;intro i;rw [List.getElem?_map,List.getElem?_map,List.getElem?_set];by_cases pP:j=i
    ·subst pP
     have cJ:=(lgeS h6).1;have iK:=(lgeS h6).2;simp [cJ,iK]
    ·simp [pP]
   rw [this];exact hk
end
end Go.Proofs.YtfleamccglihoaaGreatDoor
namespace Go.Proofs.YtfleamccglihoaaGreatDoor
open Go.Proofs.Tryz
open Go Go.bE Go.RowKit
open Tr (jh)
theorem rK{te:TypeId}{z:Value}(h:(prog.info? te).bind (·.zero)=some z)(w:World):(zeroValue te).run prog w=.ok z w:=by
 cases hi:prog.info? te with
 |none=>rw [hi]at h;cases h
 |some i=>
  rw [hi]at h;have hz:i.zero=some z:=h;simp [zeroValue,typeInfo,hi,hz]
theorem vq:uw fJ aV (.slice none 0 0):=⟨by kernel_rfl,rK (by kernel_rfl)⟩
theorem DP:uw jR qG (.agg #[.bool false]):=⟨by kernel_rfl,rK (by kernel_rfl)⟩
structure XM where
 g:Nat
 t:Nat
 mb:Nat
 ib:Nat
 ic:Nat
 cb:Nat
 T:List Tr.Nd
 d:Int
 SG:Nat->Prop
 ST:Nat->Prop
 SO:Nat->Prop
def XM.own(m:XM)(x k:Nat):Prop:=k=x\/k=m.mb\/k=m.ib\/k=m.cb
def XM.jf(m:XM)(x k:Nat):Prop:=m.SG k\/m.ST k\/m.SO k\/m.own x k
def mM(w:World)(SO:Nat->Prop)(N:Nat)(v:Option Value)(l:List HT):Prop:=
 (v=none/\l= [])\/∃(A:Option Addr) (n c:Nat),v=some (.slice A n c)/\n<=c/\HS w A n l/\n<=N/\∀a,A=some a->SO a.block
structure XV(w:World)(F:Nat->Prop)(x:Nat)(D:DG)(P:List Int)(m:XM):Prop where
 top:w.heap[x]? =some (.cells #[.pointer (some ⟨m.g,0,none⟩),.pointer (some ⟨m.t,0,none⟩),.map (some m.mb),.slice (some ⟨m.ib,0,none⟩) D.length m.ic,.map (some m.cb)] dv (0,0))
 G:zT w m.SG F m.g D
 T:Tr.nh w m.ST m.t m.T m.d
 HF:Tr.ux m.T
 bH:Tr.bH m.T=P
 dl:0<=m.d/\m.d<=D.length
 at_:IsMap w m.mb (ids D)
 row:cr w 0 (some ⟨m.ib,0,none⟩) D.length m.ic (ids D)
 Ss:∃f,dW w m.cb f/\∀h,∃l,mM w m.SO D.length (f h) l/\∀c,c∈l↔Ji D P h c
 lZ:rJ D P
 W:jQ D
 gt:∀k,m.SG k->¬m.ST k/\¬m.SO k
 to:∀k,m.ST k->¬m.SO k
 fd:∀k,F k->¬m.ST k/\¬m.SO k
 od:∀k,m.own x k->¬m.SG k/\¬m.ST k/\¬m.SO k/\¬F k
 ne:x≠m.mb/\x≠m.ib/\x≠m.cb/\m.mb≠m.ib/\m.mb≠m.cb/\m.ib≠m.cb
 low:∀k,m.jf x k\/F k->k<w.heap.size
def zR(w:World)(S F:Nat->Prop)(x:Nat)(D:DG)(P:List Int):Prop:=∃m,XV w F x D P m/\∀k,m.jf x k->S k
section
variable{w w':World}{F S:Nat->Prop}{x:Nat}{D:DG}{P:List Int}{m:XM}{K:Value->World->Prop}
theorem mM.aK{S0 SO:Nat->Prop}{N:Nat}{v:Option Value}{l:List HT}(h:mM w SO N v l)(hk:Kept S0 w w')(hn:∀k,SO k->¬S0 k):mM w' SO N v l:=by
 rcases h with h|⟨A,n,c,h1,h2,h3,h4,h5⟩
 ·exact .inl h
 ·exact .inr ⟨A,n,c,h1,h2,h3.aK hk (fun a ha=>hn _ (h5 a ha)),h4,h5⟩
theorem XV.aK{S0:Nat->Prop}(h:XV w F x D P m)(hk:Kept S0 w w')(hS:∀k,m.jf x k->¬S0 k)(hF:∀k,F k->¬S0 k):XV w' F x D P m where
 top:=hk.heap h.top (hS _ (.inr (.inr (.inr (.inl rfl)))))
 G:=h.G.aK hk (fun k e=>hS k (.inl e)) hF
 T:=h.T.aK hk (fun k e=>hS k (.inr (.inl e)))
 HF:=h.HF
 bH:=h.bH
 dl:=h.dl
 at_:=h.at_.aK hk (hS _ (.inr (.inr (.inr (.inr (.inl rfl))))))
 row:=Row.aK h.row hk (fun k e=>by cases e;exact hS _ (.inr (.inr (.inr (.inr (.inr (.inl rfl)))))))
 Ss:=by
  obtain⟨f,h1,h2⟩:=h.Ss;refine⟨f,h1.aK hk (hS _ (.inr (.inr (.inr (.inr (.inr (.inr rfl))))))),fun y=>?_⟩;obtain⟨l,h3,h4⟩:=h2 y;exact⟨l,h3.aK hk (fun k e=>hS k (.inr (.inr (.inl e)))),h4⟩
 lZ:=h.lZ
 W:=h.W
 gt:=h.gt
 to:=h.to
 fd:=h.fd
 od:=h.od
 ne:=h.ne
 low:=fun k e=>Nat.lt_of_lt_of_le (h.low k e) hk.size
theorem XV.same(h:XV w F x D P m)(hk:Kept Nil w w'):XV w' F x D P m:=h.aK hk (fun _ _ h=>h) (fun _ _ h=>h)
theorem zR.aK{S0:Nat->Prop}(h:zR w S F x D P)(hk:Kept S0 w w')(hS:∀k,S k->¬S0 k)(hF:∀k,F k->¬S0 k):zR w' S F x D P:=
 let ⟨m,h1,h2⟩:=h;⟨m,h1.aK hk (fun k e=>hS k (h2 k e)) hF,h2⟩
theorem zR.same(h:zR w S F x D P)(hk:Kept Nil w w'):zR w' S F x D P:=h.aK hk (fun _ _ h=>h) (fun _ _ h=>h)
theorem XV.c0(h:XV w F x D P m):w.cell? ((⟨x,0,none⟩:Addr).add 0)=some (.pointer (some ⟨m.g,0,none⟩)):=by rw [bu,aD h.top];rfl
theorem XV.c1(h:XV w F x D P m):w.cell? ((⟨x,0,none⟩:Addr).add 1)=some (.pointer (some ⟨m.t,0,none⟩)):=by rw [bu,aD h.top];rfl
theorem XV.c2(h:XV w F x D P m):w.cell? ((⟨x,0,none⟩:Addr).add 2)=some (.map (some m.mb)):=by rw [bu,aD h.top];rfl
theorem XV.c3(h:XV w F x D P m):w.cell? ((⟨x,0,none⟩:Addr).add 3)=some (.slice (some ⟨m.ib,0,none⟩) D.length m.ic):=by rw [bu,aD h.top];rfl
theorem XV.c4(h:XV w F x D P m):w.cell? ((⟨x,0,none⟩:Addr).add 4)=some (.map (some m.cb)):=by rw [bu,aD h.top];rfl
theorem XV.Jz(h:XV w F x D P m):m.T.length=D.length:=by
 have:=Tr.dF m.T;rw [h.bH,h.lZ.len]at this;exact this.symm
theorem XV.mY(h:XV w F x D P m){i k:Nat}{id kd:Tr.Nd}(hi:m.T[i]? =some id)(hk:m.T[k]? =some kd):decide (kd.lo<=id.lo/\id.hi<=kd.hi)=true↔jh P i k:=by
 rw [decide_eq_true_iff,<-h.bH];exact h.HF.under hi hk
theorem AP(a b:HT):a.1.toList++(b.1.toList++ [])=cC [a,b]:=by simp [cC]
theorem qN(h:XV w F x D P m)(hK:K (.bool true) w):bm prog dM.id #[.pointer (some ⟨x,0,none⟩)] w K:=
 dM.of (Split.yes rfl ⟨_,h.c0,hK⟩)
theorem vL{xb:Nat}(h:XV w F x D P m)(hg:w.heap[xb]? =some (.cells #[.pointer (some ⟨x,0,none⟩)] eW (0,0))){A:Option Addr}{n cx:Nat}{l:List HT}(hl:HS w A n l)(hn:n<=400000)
 (hK:∀w' (b:Bool),(b=true↔∃p∈l,p∉ids D)->Kept Nil w w'->K (.bool b) w'):
 bm prog cZ.id #[.slice A n cx,.func (.func cS.id) #[] #[.pointer (some ⟨xb,0,none⟩)]] w K:=by
 have hlen:=hl.len;refine bN.of (ar.of ?_);refine ar.cf (I:=fun s w'=>∃i:Nat,s=(0,(i:Int))/\i<=n/\(∀p∈l.take i,p∈ids D)/\Kept Nil w w') (μ:=fun s _=>((n:Int)-s.2).toNat) (s:=(0,0)) ⟨0,rfl,Nat.zero_le _,by simp,Kept.refl _ _⟩ ?_;rintro s w' ⟨i,rfl,hi,cO,kw⟩;refine Split.dec (fun lH=>?_) (fun iK=>?_)
 ·simp only at lH
  have fc:i<n:=by omega
  obtain⟨y,hy⟩:∃y,l[i]? =some y:=⟨_,List.getElem?_eq_getElem (by omega)⟩;refine(hl.same kw).load (i:=(i:Int)) (by omega) hy ?_;refine cS.of ?_;unfold cS.W;intro w3 w4;have k3:Kept Nil w' w3:=(Kept.refl _ _).alloc _;have o6:w3.heap[w'.heap.size]? =some (.cells y.1 ax (0,0)):=aR w' _;have k4:Kept Nil w3 w4:=(Kept.refl _ _).drew;clear_value w4;have AS:=k4.heap o6 (fun h=>h);have Gy:=(kw.tt k3).tt k4;obtain⟨bl,c,mb,M,G⟩:=(h.same Gy).G;refine⟨some ⟨x,0,none⟩,by rw [aD (Gy.heap hg (fun h=>h))];rfl,_,(h.same Gy).c0,y.1,⟨y.2.1,Cells.bS AS⟩,pW G y fun w7 k7=>⟨_,rfl,_,rfl,?_⟩⟩;have DV:=Gy.tt k7;by_cases hm:y∈ids D
  ·refine Split.no (by rw [decide_eq_true hm];rfl) ?_
   simp only;rw [eJ (n:=(i:Int)) (by omega) (by omega)];refine⟨(0,(i:Int)+1),rfl,⟨i+1,rfl,fc,fun p hp=>?_,DV⟩,by simp only;omega⟩;rcases(bJ hy).1 hp with hp|rfl
   ·exact cO p hp
   ·exact hm
  ·refine Split.yes (by rw [decide_eq_false hm];rfl) ?_
   refine⟨(i:Int),rfl,?_⟩;exact hK w7 _ ⟨fun _=>⟨y,List.mem_of_getElem? hy,hm⟩,fun _=>decide_eq_true (by omega)⟩ DV
 ·simp only at iK
  rw [aX,ar.dA];rw [List.take_of_length_le (by omega)]at cO;exact⟨-1,rfl,hK w' _ ⟨fun h=>absurd (of_decide_eq_true h) (by omega),fun⟨p,hp,hn⟩=>absurd (cO p hp) hn⟩ kw⟩
theorem oo(h:XV w F x D P m){A:Option Addr}{n cx:Nat}{l:List HT}(hl:HS w A n l)(hn:n<=400000)(hK:∀w',Kept Nil w w'->K (.bool (decide (∀p∈l,p∈ids D))) w'):
 bm prog dU.id #[.pointer (some ⟨x,0,none⟩),.slice A n cx] w K:=by
 refine dU.of ?_;unfold dU.W;intro w3;have k3:Kept Nil w w3:=(Kept.refl _ _).alloc _;have o6:w3.heap[w.heap.size]? =some (.cells #[.pointer (some ⟨x,0,none⟩)] eW (0,0)):=aR w _;clear_value w3;refine⟨_,by rw [aD o6];rfl,qN (h.same k3) ⟨true,rfl,Split.yes rfl ?_⟩⟩;refine vL (h.same k3) o6 (hl.same k3) hn fun w9 b hb k9=>⟨b,rfl,?_⟩;have:(!b)=decide (∀p∈l,p∈ids D):=by
  rw [Bool.eq_iff_iff,decide_eq_true_iff,Bool.not_eq_true',<-Bool.not_eq_true,hb];constructor
  ·exact fun hn p hp=>Classical.byContradiction fun hc=>hn ⟨p,hp,hc⟩
  ·rintro ha ⟨p,hp,hc⟩;exact hc (ha p hp)
 rw [this];exact hK w9 (k3.tt k9)
theorem qP(h:XV w F x D P m)(a b:HT)(hK:∀w' (r:Bool),(r=true↔Ch D P a b)->Kept Nil w w'->K (.bool r) w'):
 bm prog dm.id #[.pointer (some ⟨x,0,none⟩),.agg a.1,.agg b.1] w K:=by
 refine dm.of ?_;unfold dm.W;intro w4 w5 w6;have k4:Kept Nil w w4:=(Kept.refl _ _).alloc _;have Qy:w4.heap[w.heap.size]? =some (.cells a.1 ax (0,0)):=aR w _;have k5:Kept Nil w4 w5:=(Kept.refl _ _).alloc _;have vG:w5.heap[w4.heap.size]? =some (.cells b.1 ax (0,0)):=aR w4 _;have k6:Kept Nil w5 w6:=(Kept.refl _ _).drew;clear_value w6;have zh:=(k5.tt k6).heap Qy (fun h=>h);have pQ:=k6.heap vG (fun h=>h);have qx:=(k4.tt k5).tt k6;refine⟨a.1,⟨a.2.1,Cells.bS zh⟩,b.1,⟨b.2.1,Cells.bS pQ⟩,a.2.1,b.2.1,?_⟩;intro w9;have k9:Kept Nil w6 w9:=(Kept.refl _ _).alloc _;have hx9:HS w9 (some ⟨w6.heap.size,0,none⟩) 2 [a,b]:=HS.lay (l:= [a,b]) (t:=ax) (by rw [<-AP a b];exact aR w6 _);clear_value w9;have Ee:=qx.tt k9;refine oo (h.same Ee) hx9 (by omega) fun Bn Oa=>⟨_,rfl,?_⟩;have Kf:=Ee.tt Oa;have FY:=h.same Kf;by_cases cO:∀p∈ [a,b],p∈ids D
 ·refine Split.yes (decide_eq_true cO) ?_
  obtain⟨na,KO,ea⟩:=dw.1 (cO a (by simp));obtain⟨nb,KN,eb⟩:=dw.1 (cO b (by simp));obtain⟨k,hk⟩:=List.mem_iff_getElem?.1 KO;obtain⟨i,hi⟩:=List.mem_iff_getElem?.1 KN;have C0:=(lgeS hk).1;have fc:=(lgeS hi).1;have T9:=h.Jz;obtain⟨kd,Px⟩:=Tr.eQ (T:=m.T) (i:=k) (by omega);obtain⟨nd,gP⟩:=Tr.eQ (T:=m.T) (i:=i) (by omega);have NO:=k9.tt Oa;have l1:=FY.at_.uO b;have l2:=FY.at_.uO a;rw [<-eb,h.W.pos_eq hi]at l1;rw [<-ea,h.W.pos_eq hk]at l2;rw [eb]at l1;rw [ea]at l2;refine⟨_,FY.c1,_,FY.c2,b.1,⟨b.2.1,Cells.bS (NO.heap pQ (fun h=>h))⟩,_,l1,_,FY.c2,a.1,⟨a.2.1,Cells.bS (NO.heap zh (fun h=>h))⟩,_,l2,?_⟩;refine Tr.yq FY.T gP Px fun kr rv=>⟨_,rfl,hK kr _ ?_ (Kf.tt rv)⟩;rw [h.mY gP Px];constructor
  ·exact fun hu=>⟨i,k,nb,na,hi,eb,hk,ea,hu⟩
  ·rintro⟨i',k',ni,nk,h1,h2,h3,h4,h5⟩
   have e1:=h.W.inj h1 hi (by rw [h2,eb]);have e2:=h.W.inj h3 hk (by rw [h4,ea]);rw [<-e1,<-e2];exact h5
 ·refine Split.no (decide_eq_false cO) (hK Bn false ⟨(fun e=>by cases e),fun e=>absurd (fun p hp=>?_) cO⟩ Kf)
  simp only [List.mem_cons,List.not_mem_nil,or_false]at hp;rcases hp with rfl|rfl
  ·exact e.mem.1
  ·exact e.mem.2
theorem tp{xb bb:Nat}{b:HT}(h:XV w F x D P m)(hg:w.heap[xb]? =some (.cells #[.pointer (some ⟨x,0,none⟩)] eW (0,0)))(hb:w.heap[bb]? =some (.cells b.1 ax (0,0))){A:Option Addr}{n cx:Nat}{l:List HT}(hl:HS w A n l)(hn:n<=400000)
 (hK:∀w' (r:Bool),(r=true↔∃c∈l,Ch D P c b)->Kept Nil w w'->K (.bool r) w'):
 bm prog cZ.id #[.slice A n cx,.func (.func ct.id) #[] #[.pointer (some ⟨xb,0,none⟩),.pointer (some ⟨bb,0,none⟩)]] w K:=by
 have hlen:=hl.len;refine bK.of (al.of ?_);refine al.cf (I:=fun s w'=>∃i:Nat,s=(0,(i:Int))/\i<=n/\(∀p∈l.take i,¬Ch D P p b)/\Kept Nil w w') (μ:=fun s _=>((n:Int)-s.2).toNat) (s:=(0,0)) ⟨0,rfl,Nat.zero_le _,by simp,Kept.refl _ _⟩ ?_;rintro s w' ⟨i,rfl,hi,cO,kw⟩;refine Split.dec (fun lH=>?_) (fun iK=>?_)
 ·simp only at lH
  have fc:i<n:=by omega
  obtain⟨y,hy⟩:∃y,l[i]? =some y:=⟨_,List.getElem?_eq_getElem (by omega)⟩;refine(hl.same kw).load (i:=(i:Int)) (by omega) hy ?_;refine ct.of ?_;unfold ct.W;intro w4;have k4:Kept Nil w' w4:=(Kept.refl _ _).alloc _;have AS:w4.heap[w'.heap.size]? =some (.cells y.1 ax (0,0)):=aR w' _;clear_value w4;have Gy:=kw.tt k4;refine⟨some ⟨x,0,none⟩,by rw [aD (Gy.heap hg (fun h=>h))];rfl,y.1,⟨y.2.1,Cells.bS AS⟩,b.1,⟨b.2.1,Cells.bS (Gy.heap hb (fun h=>h))⟩,qP (h.same Gy) y b fun w7 r hr k7=>⟨r,rfl,r,rfl,?_⟩⟩;have DV:=Gy.tt k7;cases r with
  |false=>
   refine Split.no rfl ?_;simp only;rw [eJ (n:=(i:Int)) (by omega) (by omega)];refine⟨(0,(i:Int)+1),rfl,⟨i+1,rfl,fc,fun p hp hc=>?_,DV⟩,by simp only;omega⟩;rcases(bJ hy).1 hp with hp|rfl
   ·exact cO p hp hc
   ·cases hr.2 hc
  |true=>
   refine Split.yes rfl ⟨(i:Int),rfl,?_⟩;exact hK w7 _ ⟨fun _=>⟨y,List.mem_of_getElem? hy,hr.1 rfl⟩,fun _=>decide_eq_true (by omega)⟩ DV
 ·simp only at iK
  rw [aX,al.dA];rw [List.take_of_length_le (by omega)]at cO;exact⟨-1,rfl,hK w' _ ⟨fun h=>absurd (of_decide_eq_true h) (by omega),fun⟨p,hp,hn⟩=>absurd hn (cO p hp)⟩ kw⟩
theorem jr(h:XV w F x D P m)(hD:D.length<=5000)(a b:HT)(hK:∀w' (r:Bool),(r=true↔fD D a b)->Kept Nil w w'->K (.bool r) w'):
 bm prog db.id #[.pointer (some ⟨x,0,none⟩),.agg a.1,.agg b.1] w K:=by
 refine db.of ?_;unfold db.W;intro w4 w5 w6;have k4:Kept Nil w w4:=(Kept.refl _ _).alloc _;have hx4:w4.heap[w.heap.size]? =some (.cells #[.pointer (some ⟨x,0,none⟩)] eW (0,0)):=aR w _;have k5:Kept Nil w4 w5:=(Kept.refl _ _).alloc _;have Wh:w5.heap[w4.heap.size]? =some (.cells a.1 ax (0,0)):=aR w4 _;have k6:Kept Nil w5 w6:=(Kept.refl _ _).alloc _;have pQ:w6.heap[w5.heap.size]? =some (.cells b.1 ax (0,0)):=aR w5 _;clear_value w6;have zh:=k6.heap Wh (fun h=>h);have GW:=(k5.tt k6).heap hx4 (fun h=>h);have qx:=(k4.tt k5).tt k6;refine⟨_,by rw [aD GW];rfl,a.1,⟨a.2.1,Cells.bS zh⟩,b.1,⟨b.2.1,Cells.bS pQ⟩,a.2.1,b.2.1,?_⟩;intro w10;have tY:Kept Nil w6 w10:=(Kept.refl _ _).alloc _;have G3:HS w10 (some ⟨w6.heap.size,0,none⟩) 2 [a,b]:=HS.lay (l:= [a,b]) (t:=ax) (by rw [<-AP a b];exact aR w6 _);clear_value w10;have yQ:=qx.tt tY;refine oo (h.same yQ) G3 (by omega) fun ph FD=>⟨_,rfl,?_⟩;have Ke:=yQ.tt FD;have JT:=tY.tt FD;by_cases cO:∀p∈ [a,b],p∈ids D
 ·refine Split.no (by rw [decide_eq_true cO];rfl) ?_
  have Wi:=JT.heap zh (fun h=>h);have Wc:=JT.heap pQ (fun h=>h);refine⟨a.1,⟨a.2.1,Cells.bS Wi⟩,b.1,⟨b.2.1,Cells.bS Wc⟩,⟨a.2.ints,b.2.ints⟩,?_⟩;rw [gA];refine Split.dec (fun he=>?_) (fun he=>?_)
  ·subst he
   exact hK ph false ⟨(fun e=>by cases e),fun e=>absurd e (fD.irrefl h.W a)⟩ Ke
  ·intro lu
   have tW:Kept Nil ph lu:=(Kept.refl _ _).drew;clear_value lu;have Oc:=Ke.tt tW;have GJ:=JT.tt tW;refine⟨_,by rw [aD (GJ.heap GW (fun h=>h))];rfl,a.1,⟨a.2.1,Cells.bS (GJ.heap zh (fun h=>h))⟩,b.1,⟨b.2.1,Cells.bS (GJ.heap pQ (fun h=>h))⟩,?_⟩;refine qP (h.same Oc) a b fun wh r hr D8=>⟨r,rfl,?_⟩;have Kb:=Oc.tt D8;have GI:=GJ.tt D8;cases r with
   |true=>exact Split.yes rfl (hK wh true ⟨fun _=>(Fo h.W h.lZ he).2 (.inl (hr.1 rfl)),fun _=>rfl⟩ Kb)
   |false=>
    refine Split.no rfl ?_;have WJ:=h.same Kb;obtain⟨f,hf,IS⟩:=WJ.Ss;obtain⟨l,hl,kQ⟩:=IS a;have AJ:=hf.look vq a;have fin:∀ {A:Option Addr} {n c:Nat},(f a).getD (.slice none 0 0)=.slice A n c->HS wh A n l->n<=D.length->
     bm prog cZ.id #[.slice A n c,.func (.func ct.id) #[] #[.pointer (some ⟨w.heap.size,0,none⟩),.pointer (some ⟨w5.heap.size,0,none⟩)]] wh fun v28 SK=>∃t:Bool,v28=.bool t/\K (.bool t) SK:=fun _ hs hn=>
     tp WJ (GI.heap GW (fun h=>h)) (GI.heap pQ (fun h=>h)) hs (by omega) fun tN r2 lh Me=>⟨r2,rfl,hK tN r2 (by
      rw [lh,Fo h.W h.lZ he];constructor
      ·rintro⟨c,h1,h2⟩;exact .inr ⟨c,(kQ c).1 h1,h2⟩
      ·rintro(h1|⟨c,h1,h2⟩)
       ·cases hr.2 h1
       ·exact⟨c,(kQ c).2 h1,h2⟩) (Kb.tt Me)⟩
    refine⟨some ⟨x,0,none⟩,by rw [aD (GI.heap GW (fun h=>h))];rfl,_,WJ.c4,a.1,⟨a.2.1,Cells.bS (GI.heap zh (fun h=>h))⟩,?_⟩;rcases hl with⟨h1,rfl⟩|⟨A,n,c,h1,h2,h3,h4,h5⟩
    ·rw [h1]at AJ
     exact⟨none,0,0,AJ,fin (by rw [h1];rfl) (HS.nil _ _) (by omega)⟩
    ·rw [h1]at AJ
     exact⟨A,n,c,AJ,fin (by rw [h1];rfl) h3 h4⟩
 ·refine Split.yes (by rw [decide_eq_false cO];rfl) (hK ph false ⟨(fun e=>by cases e),fun e=>absurd (fun p hp=>?_) cO⟩ Ke)
  simp only [List.mem_cons,List.not_mem_nil,or_false]at hp;rcases hp with rfl|rfl
  ·exact(e.mem h.W).1
  ·exact(e.mem h.W).2
end
end Go.Proofs.YtfleamccglihoaaGreatDoor
namespace Go.Proofs.YtfleamccglihoaaGreatDoor
open Go.Proofs.Tryz
open Go Go.bE Go.RowKit
section
variable{w w':World}{K:Value->World->Prop}
theorem vd{A:Option Addr}{n c:Nat}(Cj:n<=c)(hK:K (.slice A n n) w):bm prog cI.id #[.slice A n c] w K:=by
 refine cI.of ⟨⟨by omega,by omega⟩,⟨by omega,by simp⟩,?_⟩;have e:(if(n:Int).toNat=0 then A else A.map (·.add (0*32)))=A:=by
  split
  ·rfl
  ·cases A with
   |none=>rfl
   |some a=>simp [add_zero]
 rw [e];simpa using hK
theorem ug{A:Option Addr}{n c:Nat}{l:List HT}(h:HT)(hl:HS w A n l)(hn:n<=1000000)(hK:∀w',Kept Nil w w'->K (.bool (decide (h∈l))) w'):
 bm prog b7.id #[.slice A n c,.agg h.1] w K:=by
 have hlen:=hl.len;refine b7.of ?_;unfold b7.W;intro w3;have k3:Kept Nil w w3:=(Kept.refl _ _).alloc _;have o6:w3.heap[w.heap.size]? =some (.cells h.1 ax (0,0)):=aR w _;clear_value w3;refine⟨h.1,⟨h.2.1,Cells.bS o6⟩,?_⟩;refine aI.of ?_;unfold aI.W;intro w4;have k4:Kept Nil w3 w4:=(Kept.refl _ _).alloc _;have AS:w4.heap[w3.heap.size]? =some (.cells h.1 ax (0,0)):=aR w3 _;clear_value w4;have ln:=k3.tt k4;refine aI.cf (I:=fun s w'=>∃i:Nat,s=(0,(i:Int))/\i<=n/\Kept Nil w4 w'/\h∉l.take i) (μ:=fun s _=>((n:Int)-s.2).toNat) (s:=(0,0)) ⟨0,rfl,Nat.zero_le _,Kept.refl _ _,by simp⟩ ?_;rintro s w' ⟨i,rfl,hi,kw,rO⟩;refine Split.dec (fun cJ=>?_) (fun iK=>?_)
 ·simp only at cJ
  have fc:i<n:=by omega
  obtain⟨y,hy⟩:∃y,l[i]? =some y:=⟨_,List.getElem?_eq_getElem (by omega)⟩;intro w9;have k9:Kept Nil w' w9:=(Kept.refl _ _).drew;clear_value w9;have TD:=kw.tt k9;have Ee:=ln.tt TD;refine⟨h.1,⟨h.2.1,Cells.bS (TD.heap AS (fun h=>h))⟩,?_⟩;refine(hl.same Ee).load (i:=(i:Int)) (by omega) hy ⟨⟨h.2.ints,y.2.ints⟩,?_⟩;rw [gA];refine Split.dec (fun he=>?_) (fun he=>?_)
  ·refine⟨(i:Int),rfl,?_⟩
   have:=hK w9 Ee;rw [decide_eq_true (by rw [he];exact List.mem_of_getElem? hy)]at this;rw [show decide ((i:Int)>=(0:Int))=true from decide_eq_true (by omega)];exact this
  ·simp only
   rw [iI (x:=(i:Int)+1) (by omega) (by omega)];refine⟨(0,(i:Int)+1),rfl,⟨i+1,rfl,fc,TD,?_⟩,by simp only;omega⟩;rw [List.take_add_one,hy];simp only [Option.toList_some,List.mem_append,List.mem_singleton,not_or];exact⟨rO,he⟩
 ·simp only at iK
  rw [aX,aI.dA];refine⟨-1,rfl,?_⟩;have:=hK w' (ln.tt kw);rw [List.take_of_length_le (by omega)]at rO;rw [decide_eq_false rO]at this;exact this
theorem vP{A:Option Addr}{n cx:Nat}{l:List HT}{h:HT}{b:Nat}(hl:HS w A n l)(hb:HS w (some ⟨b,0,none⟩) 1 [h])(hn:n<=100000):
 ∃A' c' w',(Builtin.append_ #[aV,aV] aV #[.slice A n n,.slice (some ⟨b,0,none⟩) 1 cx]).run prog w=.ok (.slice A' (n+1) c') w'/\
  HS w' A' (n+1) (l++ [h])/\n+1<=c'/\(∀a,A'=some a->w.heap.size<=a.block/\a.block<w'.heap.size)/\Kept Nil w w':=by
 have hlen:=hl.len;cases A with
 |none=>
  obtain⟨rfl,rfl⟩:=hl.none;obtain⟨A',c',w',hr,fV,hg,hbk⟩:=gw (cx:=cx) aV (cr.nil w w.heap.size) hb (by omega) (Nat.le_refl _);rw [Nat.zero_add]at hr fV;rw [List.nil_append]at fV;obtain⟨b',rfl⟩:=Row.some fV (by omega);have Cq:=Row.bS fV (k:=b') rfl;refine⟨some ⟨b',0,Option.none⟩,c',w',hr,cr.hs fV,?_,fun a ha=>?_,Kept.pR (Kept.refl _ _) hg (fun k hk=>by cases hk)⟩
  ·rcases Row.own fV with⟨h1,_⟩|⟨_,_,_,_,_,h1,_⟩
   ·cases h1
   ·exact h1
  ·cases ha
   obtain⟨h1,cur,h2⟩:=Cq;exact⟨h1,aZ h2⟩
 |some a=>
  obtain⟨i,z,hi,hz,hs,FU,FE⟩:=nv.inf;have hr:=run_append_grow (P:=prog) (w:=w) aV aV ax i z nv.mY hi hz a n n (cC l) (by rw [dD,hs,hlen]) hl.cells ⟨b,0,Option.none⟩ 1 cx (cC [h]) (by rw [dD,hs];rfl) hb.cells (by omega) (by omega) (growslice_fits (by omega) (by rw [FU];omega));refine⟨_,_,_,hr,⟨by simp [hlen],fun j y hj=>⟨_,rfl,?_,?_⟩⟩,grownCap_ge _ _ _ _,fun a' zi=>?_,?_⟩
  ·have:=aR w.drew (.cells ((cC l).toArray++(cC [h]).toArray++Builtin.zeroCells z.cells (grownCap w (n+1) n ax-(n+1))) ax)
   exact aZ this
  ·intro q v hq
   rw [bu,bu,Nat.zero_add];have hblk:=aR w.drew (.cells ((cC l).toArray++(cC [h]).toArray++Builtin.zeroCells z.cells (grownCap w (n+1) n ax-(n+1))) ax);have e:(w.drew.heap.size)=w.heap.size:=rfl;rw [e]at hblk;rw [aD hblk];have h1:=jB hj hq;rw [kR]at h1;have cJ:=(lgeS h1).1;rw [Array.getElem?_append_left (by simpa using cJ)];simpa using h1
  ·cases zi
   have:=aR w.drew (.cells ((cC l).toArray++(cC [h]).toArray++Builtin.zeroCells z.cells (grownCap w (n+1) n ax-(n+1))) ax);exact⟨Nat.le_refl _,aZ this⟩
  ·exact(Kept.refl Nil w).drew.alloc _
end
def gS(D:DG)(h s:HT)(l:List HT):Int:=if eo D h l=0 then(if s∈l then 0 else 2)else eo D h l
theorem p5{D:DG}{h:HT}{l:List HT}(e:eo D h l=0):mE D h l=D++ [⟨h,dg l⟩]:=by unfold mE;rw [if_pos e]
section
variable{w w':World}{S ST:Nat->Prop}{t:Nat}{T:List Tr.Nd}{d:Int}
theorem qH(h:Tr.nh w ST t T d):Tr.nh w (fun k=>ST k/\k<w.heap.size) t T d:=by
 obtain⟨b,c,L,h⟩:=h;refine⟨b,c,L,{h with fZ:=⟨h.fZ,h.lt⟩,fg:=⟨h.fg,?_⟩,oX:=fun i p hi=>?_}⟩
 ·obtain⟨A,m,hk⟩:=h.oX i p hi
  exact⟨A,m,{hk with jf:=fun k e=>⟨hk.jf k e,let ⟨_,_,hc⟩:=Row.bS hk.row e;aZ hc⟩}⟩
 ·obtain⟨cur,hc⟩:=h.tC
  exact aZ hc
end
section
variable{w w':World}{F:Nat->Prop}{x:Nat}{D:DG}{P:List Int}{m:XM}{K:Value->World->Prop}
theorem Fq{v:World}{hid s:HT}{S2 F2 SO2:Nat->Prop}{ps:List HT}{j:Nat}{mj:DN}{Cc sb:Nat}{b8:Int}{BS:Option Nat}{A7:Option Addr}{n7 c7:Nat}{i7:Int}{s1 s2:Nat}
 (h:XV w F x D P m) (hD:D.length<=5000) (hn:hid∉ids D) (gK:∀p∈ps,p∈ids D) (vy:SS ps) (hj:D[j]? =some mj) (hs:mj.id=s) (CS:s∈ps)
 (js:v.heap[x]? =some (.cells #[.pointer (some ⟨m.g,0,none⟩),.pointer (some ⟨m.t,0,none⟩),.map (some m.mb),.slice (some ⟨m.ib,0,none⟩) D.length m.ic,.map (some m.cb)] dv (0,0)))
 (acZ:w.heap.size<=Cc) (abX:w.heap.size<=sb) (K1:v.heap[Cc]? =some (.cells hid.1 ax (0,0))) (Ue:v.heap[sb]? =some (.cells s.1 ax (0,0)))
 (hG:zT v S2 F2 m.g (D++ [⟨hid,ps⟩])) (hT:Tr.nh v m.ST m.t m.T m.d) (hat:IsMap v m.mb (ids D)) (fV:cr v 0 (some ⟨m.ib,0,none⟩) D.length m.ic (ids D))
 (Ld:∃f,dW v m.cb f/\∀y,∃l,mM v SO2 (D.length+1) (f y) l/\∀c,c∈l↔Ji (D++ [⟨hid,ps⟩]) (P++ [(j:Int)]) y c)
 (CW:w.heap.size<=s1) (yW:s1<=s2) (G1:s2<=v.heap.size)
 (L9:∀k,S2 k->(m.SG k\/w.heap.size<=k)/\k<s1) (Ma:∀k,F2 k->(F k\/w.heap.size<=k)/\k<s1) (H9:∀k,SO2 k->m.SO k\/(s2<=k/\k<v.heap.size))
 (kv:Kept (fun k=>m.jf x k) w v)
 (hK:∀u S' F',zR u S' F' x (D++ [⟨hid,ps⟩]) (P++ [(j:Int)])->Kept (fun k=>m.jf x k) w u->(∀k,S' k->m.jf x k\/w.heap.size<=k)->(∀k,F' k->F k\/w.heap.size<=k)->K (.int .i64 0) u):
 aA.LO (some ⟨x,0,none⟩) ⟨Cc,0,none⟩ ⟨sb,0,none⟩ b8 BS A7 n7 c7 i7 i7 K v:=by
 have W:=h.W;have rD:=h.low;have tM:=(lgeS hj).1;have T9:=h.Jz;have UH:m.own x x:=.inl rfl;have O0:m.own x m.mb:=.inr (.inl rfl);have O1:m.own x m.ib:=.inr (.inr (.inl rfl));have rC:m.own x m.cb:=.inr (.inr (.inr rfl));obtain⟨L7,Nl,JK,Nk,L6,Nj⟩:=h.ne;unfold aA.LO;intro Bm;have tX:Kept Nil v Bm:=(Kept.refl _ _).drew;clear_value Bm;have c1:Bm.cell? ((⟨x,0,none⟩:Addr).add 1)=some (.pointer (some ⟨m.t,0,none⟩)):=by rw [bu,aD (tX.heap js (fun h=>h))];rfl
 have c2:Bm.cell? ((⟨x,0,none⟩:Addr).add 2)=some (.map (some m.mb)):=by rw [bu,aD (tX.heap js (fun h=>h))];rfl
 have ES:=hat.aK tX (fun h=>h);have lk:=ES.uO s;rw [<-hs,W.pos_eq hj]at lk;rw [hs]at lk;refine⟨_,c1,_,c2,s.1,⟨s.2.1,Cells.bS (tX.heap Ue (fun h=>h))⟩,_,lk,?_⟩;have QC:=qH (hT.same tX);refine Tr.Dq QC h.HF (p:=j) (by omega) (by omega) ⟨h.dl.1,by have:=h.dl.2;omega⟩ fun Bl Rh T' d' QB hF' OR hd' Cb Wl=>⟨_,_,rfl,?_⟩;have aaJ:=tX.size;have L8:∀k,Rh k->m.ST k\/Bm.heap.size<=k:=fun k hk=>(Wl k hk).imp (fun h=>h.1) (fun h=>h);have nST:∀k,(m.ST k/\k<Bm.heap.size)->m.ST k:=fun k h=>h.1;have Jx:=Cb.heap (tX.heap js (fun h=>h)) (fun e=>(h.od x UH).2.1 e.1);intro Dh;have Ca:Kept Nil Bl Dh:=(Kept.refl _ _).drew;clear_value Dh;have Dt:=Ca.heap Jx (fun h=>h);have AI:∀k,m.ST k->k<w.heap.size:=fun k e=>rD k (.inl (.inr (.inl e)));have lox:x<w.heap.size:=rD x (.inl (.inr (.inr (.inr UH))));have aaZ:m.mb<w.heap.size:=rD _ (.inl (.inr (.inr (.inr O0))));have aa0:m.ib<w.heap.size:=rD _ (.inl (.inr (.inr (.inr O1))));have Nv:m.cb<w.heap.size:=rD _ (.inl (.inr (.inr (.inr rC))));have sv:=kv.size;have AM:Dh.heap[Cc]? =some (.cells hid.1 ax (0,0)):=Ca.heap (Cb.heap (tX.heap K1 (fun h=>h)) (fun e=>by have:=AI _ e.1;omega)) (fun h=>h);have MI:Dh.cell? ((⟨x,0,none⟩:Addr).add 2)=some (.map (some m.mb)):=by rw [bu,aD Dt];rfl
 have Lm:IsMap Dh m.mb (ids D):=(ES.aK Cb (fun e=>(h.od _ O0).2.1 e.1)).aK Ca (fun h=>h);obtain⟨Jr,Iy,Ll,NZ⟩:=Lm.put hn;rw [jH,<-T9]at Iy;refine⟨_,MI,hid.1,⟨hid.2.1,Cells.bS AM⟩,Jr,Iy,?_⟩;intro Bk;have NY:Kept Nil Jr Bk:=(Kept.refl _ _).drew;clear_value Bk;have vt:=NZ.trans NY (fun _ _ h=>h.elim);have Ds:=vt.heap Dt (fun e=>L7 e);have c3:∀ {u:World},Kept Nil Bk u->u.cell? ((⟨x,0,none⟩:Addr).add 3)=some (.slice (some ⟨m.ib,0,none⟩) D.length m.ic):=fun k=>by rw [bu,aD (k.heap Ds (fun h=>h))];rfl
 have Hg:=vt.heap AM (fun e=>by omega);refine⟨_,_,_,c3 (Kept.refl _ _),hid.1,⟨hid.2.1,Cells.bS Hg⟩,hid.2.1,?_⟩;intro wj;have GP:Kept Nil Bk wj:=(Kept.refl _ _).alloc _;have Qu:HS wj (some ⟨Bk.heap.size,0,none⟩) 1 [hid]:=lr Bk hid;clear_value wj;have AB:=vt.trans GP (fun _ _ h=>h.elim);have JF:cr wj 0 (some ⟨m.ib,0,none⟩) D.length m.ic (ids D):=
  Row.aK (Row.aK (Row.aK (Row.aK fV tX (fun _ _ h=>h)) Cb (fun k e e'=>by cases e;exact(h.od _ O1).2.1 e'.1)) Ca (fun _ _ h=>h)) AB (fun k e e'=>by cases e;exact Nk e'.symm)
 obtain⟨A',c',Bj,OJ,yA,PU,Qt⟩:=gw (cx:=1) aV JF Qu (by omega) (Nat.zero_le _);have J0:Kept (· =m.ib) wj Bj:=Kept.grown (Kept.refl _ _) PU (fun k e _=>by cases e;rfl);obtain⟨x6,rfl⟩:=Row.some yA (by omega);have Hh:x6=m.ib\/wj.heap.size<=x6:=by
  rcases Qt x6 rfl with e|e
  ·left;simpa [bp]using e.symm
  ·exact .inr e
 have Dr:=J0.heap (GP.heap Ds (fun h=>h)) (fun e=>Nl e);refine⟨c3 GP,some ⟨x6,0,none⟩,_,c',Bj,OJ,Is.mk rfl ⟨?_,?_⟩⟩
 ·rw [bu]
  exact dK Dr (by simp)
 intro wi;have Q3:wi=Bj.setCell ⟨x,3,none⟩ (.slice (some ⟨x6,0,none⟩) (D.length+1) c'):=by
  show Bj.setCell ((⟨x,0,none⟩:Addr).add 3) _=_
  rw [bu]
 have JZ:Kept (· =x) Bj wi:=by rw [Q3];exact Kept.setCell (S:=fun k=>k=x) (Kept.refl _ Bj) (p:=⟨x,3,none⟩) (fun _=>rfl) _
 have Jw:wi.heap[x]? =some (.cells #[.pointer (some ⟨m.g,0,none⟩),.pointer (some ⟨m.t,0,none⟩),.map (some m.mb),.slice (some ⟨x6,0,none⟩) (D.length+1) c',.map (some m.cb)] dv (0,0)):=by
  rw [Q3,cX Dr 3];rfl
 clear_value wi;have aaI:=Cb.size;have aaH:=Ca.size;have aaG:=AB.size;have aaF:=J0.size;have aaE:=JZ.size;have kC:Kept (fun k=>k=m.ib\/k=x) Jr wi:=(((NY.tt GP).mono (S':=fun k=>k=m.ib\/k=x) (fun _ _ h=>h.elim)).trans J0 (fun _ _ h=>.inl h)).trans JZ (fun _ _ h=>.inr h);have kB:Kept (fun k=>k=m.mb\/k=m.ib\/k=x) Bl wi:=((Ca.mono (S':=fun k=>k=m.mb\/k=m.ib\/k=x) (fun _ _ h=>h.elim)).trans NZ (fun _ _ h=>.inl h)).trans kC (fun _ _ h=>.inr h);have kA:Kept (fun k=>m.ST k\/k=m.mb\/k=m.ib\/k=x) v wi:=((tX.mono (S':=fun k=>m.ST k\/k=m.mb\/k=m.ib\/k=x) (fun _ _ h=>h.elim)).trans Cb (fun _ _ h=>.inl h.1)).trans kB (fun _ _ h=>.inr h);have BR:∀k,(k=m.mb\/k=m.ib\/k=x)->m.own x k:=fun k e=>by
  rcases e with e|e|e
  ·exact .inr (.inl e)
  ·exact .inr (.inr (.inl e))
  ·exact .inl e
 have Gq:∀k,m.own x k->k<w.heap.size:=fun k e=>rD k (.inl (.inr (.inr (.inr e))));have Gu:∀k,m.SG k->k<w.heap.size:=fun k e=>rD k (.inl (.inl e));have DU:∀k,m.SO k->k<w.heap.size:=fun k e=>rD k (.inl (.inr (.inr (.inl e))));have nG:∀k,S2 k->¬(m.ST k\/k=m.mb\/k=m.ib\/k=x):=fun k h1 h2=>by
  obtain⟨h3,_⟩:=L9 k h1;rcases h2 with h2|h2
  ·rcases h3 with h3|h3
   ·exact(h.gt k h3).1 h2
   ·have:=AI k h2;omega
  ·have h4:=BR k h2
   rcases h3 with h3|h3
   ·exact(h.od k h4).1 h3
   ·have:=Gq k h4;omega
 have nF:∀k,F2 k->¬(m.ST k\/k=m.mb\/k=m.ib\/k=x):=fun k h1 h2=>by
  obtain⟨h3,_⟩:=Ma k h1;rcases h2 with h2|h2
  ·rcases h3 with h3|h3
   ·exact(h.fd k h3).1 h2
   ·have:=AI k h2;omega
  ·have h4:=BR k h2
   rcases h3 with h3|h3
   ·exact(h.od k h4).2.2.2 h3
   ·have:=Gq k h4;omega
 have Th:∀k,SO2 k->¬(m.ST k\/k=m.mb\/k=m.ib\/k=x):=fun k h1 h2=>by
  rcases H9 k h1 with h3|⟨h3,_⟩
  ·rcases h2 with h2|h2
   ·exact h.to k h2 h3
   ·exact(h.od k (BR k h2)).2.2.1 h3
  ·rcases h2 with h2|h2
   ·have:=AI k h2;omega
   ·have:=Gq k (BR k h2);omega
 have nT:∀k,(Rh k/\k<Bl.heap.size)->¬(k=m.mb\/k=m.ib\/k=x):=fun k h1 h2=>by
  have h4:=BR k h2;rcases L8 k h1.1 with h3|h3
  ·exact(h.od k h4).2.1 h3
  ·have:=Gq k h4;omega
 refine hK wi (fun k=>(S2 k\/(Rh k/\k<Bl.heap.size)\/SO2 k\/(k=x\/k=m.mb\/k=x6\/k=m.cb))) F2 ⟨{m with ib:=x6,ic:=c',T:=T',d:=d',SG:=S2,ST:=fun k=>Rh k/\k<Bl.heap.size,SO:=SO2},?_,fun k e=>e⟩ ?_ ?_ ?_
 ·refine⟨?_,hG.aK kA nG nF,(qH QB).aK kB nT,hF',?_,?_,?_,?_,?_,?_,?_,?_,?_,?_,?_,?_,?_⟩
  ·rw [List.length_append];exact Jw
  ·show Tr.bH T'=_
   rw [OR,h.bH]
  ·have:=h.dl
   simp only [List.length_append,List.length_singleton];show 0<=d'/\d'<=_
   omega
  ·rw [jM]
   exact Ll.aK kC (fun e=>e.elim (fun e=>Nk e) (fun e=>L7 e.symm))
  ·rw [jM,List.length_append]
   refine Row.aK yA JZ (fun k e e'=>?_);have e1:x6=k:=by simpa [bp]using e
   rcases Hh with e|e
   ·exact Nl (e'.symm.trans (e1.symm.trans e))
   ·omega
  ·obtain⟨f,hf,hc⟩:=Ld
   refine⟨f,hf.aK kA (fun e=>?_),fun y=>?_⟩
   ·rcases e with e|e|e|e
    ·exact(h.od _ rC).2.1 e
    ·exact L6 e.symm
    ·exact Nj e.symm
    ·exact JK e.symm
   ·obtain⟨l,h1,h2⟩:=hc y
    refine⟨l,?_,h2⟩;rw [List.length_append];exact h1.aK kA Th
  ·exact h.lZ.snoc hj (by rw [hs];exact CS) W.pos
  ·exact W.snoc (nd:=⟨hid,ps⟩) hn gK vy
  ·intro k h1
   obtain⟨h3,h4⟩:=L9 k h1;refine⟨fun h2=>?_,fun h2=>?_⟩
   ·rcases L8 k h2.1 with h5|h5
    ·exact nG k h1 (.inl h5)
    ·omega
   ·rcases H9 k h2 with h5|h5
    ·rcases h3 with h3|h3
     ·exact(h.gt k h3).2 h5
     ·have:=DU k h5;omega
    ·omega
  ·intro k h1 h2
   rcases L8 k h1.1 with h5|h5
   ·exact Th k h2 (.inl h5)
   ·rcases H9 k h2 with h6|h6
    ·have:=DU k h6;omega
    ·omega
  ·intro k h1
   obtain⟨h3,h4⟩:=Ma k h1;refine⟨fun h2=>?_,fun h2=>?_⟩
   ·rcases L8 k h2.1 with h5|h5
    ·exact nF k h1 (.inl h5)
    ·omega
   ·rcases H9 k h2 with h5|h5
    ·rcases h3 with h3|h3
     ·exact(h.fd k h3).2 h5
     ·have:=DU k h5;omega
    ·omega
  ·intro k e
   have e':(k=m.mb\/k=m.ib\/k=x)\/(k=m.cb)\/(k=x6/\wj.heap.size<=x6):=by
    rcases e with e|e|e|e
    ·exact .inl (.inr (.inr e))
    ·exact .inl (.inl e)
    ·rcases Hh with h5|h5
     ·exact .inl (.inr (.inl (e.trans h5)))
     ·exact .inr (.inr ⟨e,h5⟩)
    ·exact .inr (.inl e)
   have big:wj.heap.size<=k->¬S2 k/\¬(Rh k/\k<Bl.heap.size)/\¬SO2 k/\¬F2 k:=fun hb=>
    ⟨fun h1=>by have:=(L9 k h1).2;omega,fun h1=>by have:=h1.2;omega,fun h1=>(H9 k h1).elim (fun h2=>by have:=DU k h2;omega) (fun h2=>by omega),fun h1=>by have:=(Ma k h1).2;omega⟩
   rcases e' with e'|e'|⟨rfl,e'⟩
   ·exact⟨fun h1=>nG k h1 (.inr e'),fun h1=>nT k h1 e',fun h1=>Th k h1 (.inr e'),fun h1=>nF k h1 (.inr e')⟩
   ·subst e'
    have AQ:=h.od _ rC;refine⟨fun h1=>?_,fun h1=>?_,fun h1=>?_,fun h1=>?_⟩
    ·rcases(L9 _ h1).1 with h2|h2
     ·exact AQ.1 h2
     ·omega
    ·rcases L8 _ h1.1 with h2|h2
     ·exact AQ.2.1 h2
     ·omega
    ·rcases H9 _ h1 with h2|h2
     ·exact AQ.2.2.1 h2
     ·omega
    ·rcases(Ma _ h1).1 with h2|h2
     ·exact AQ.2.2.2 h2
     ·omega
   ·exact big e'
  ·show x≠m.mb/\x≠x6/\x≠m.cb/\m.mb≠x6/\m.mb≠m.cb/\x6≠m.cb
   rcases Hh with h5|h5
   ·rw [h5];exact⟨L7,Nl,JK,Nk,L6,Nj⟩
   ·exact⟨L7,by omega,JK,by omega,L6,by omega⟩
  ·intro k e
   have hblk:=(Row.bS yA (k:=x6) rfl).2;obtain⟨cur,vE⟩:=hblk;have lib:=aZ vE;rcases e with e|e
   ·rcases e with e|e|e|e
    ·have:=(L9 k e).2;omega
    ·have:=e.2;omega
    ·rcases H9 k e with h2|h2
     ·have:=DU k h2;omega
     ·omega
    ·rcases e with e|e|e|e
     ·omega
     ·have e:k=m.mb:=e;omega
     ·have e:k=x6:=e;omega
     ·have e:k=m.cb:=e;omega
   ·have:=(Ma k e).2;omega
 ·refine kv.trans kA (fun k _ e=>?_)
  rcases e with e|e
  ·exact .inr (.inl e)
  ·exact .inr (.inr (.inr (BR k e)))
 ·intro k e
  rcases e with e|e|e|e
  ·exact(L9 k e).1.imp (fun h=>.inl h) (fun h=>h)
  ·rcases L8 k e.1 with h5|h5
   ·exact .inl (.inr (.inl h5))
   ·exact .inr (by omega)
  ·rcases H9 k e with h5|h5
   ·exact .inl (.inr (.inr (.inl h5)))
   ·exact .inr (by omega)
  ·rcases e with e|e|e|e
   ·exact .inl (.inr (.inr (.inr (.inl e))))
   ·exact .inl (.inr (.inr (.inr (.inr (.inl e)))))
   ·rcases Hh with h5|h5
    ·exact .inl (.inr (.inr (.inr (.inr (.inr (.inl (e.trans h5)))))))
    ·exact .inr (by omega)
   ·exact .inl (.inr (.inr (.inr (.inr (.inr (.inr e))))))
 ·exact fun k e=>(Ma k e).1
end
section
variable{w w':World}{F S:Nat->Prop}{x:Nat}{D:DG}{P:List Int}{m:XM}{K:Value->World->Prop}
theorem CJ{u v:World}{hid s:HT}{D':DG}{ps pl:List HT}{Cc ob i:Nat}{A7:Option Addr}{c7:Nat}{b8:Int}{sb:Addr}{f0:HT->Option Value}{Q:aM}{Rv:Option Nat}
 (h:XV w F x D P m) (hD:D.length<=5000) (hwu:w.heap.size<=u.heap.size)
 (js:u.heap[x]? =some (.cells #[.pointer (some ⟨m.g,0,none⟩),.pointer (some ⟨m.t,0,none⟩),.map (some m.mb),.slice (some ⟨m.ib,0,none⟩) D.length m.ic,.map (some m.cb)] dv (0,0)))
 (K1:u.heap[Cc]? =some (.cells hid.1 ax (0,0))) (acv:w.heap.size<=Cc) (hold:dW u ob f0) (acr:w.heap.size<=ob) (UL:Rv=some ob)
 (Zr:∀y,(y=s\/fD D y s->f0 y=some (.agg #[.bool true]))/\(¬(y=s\/fD D y s)->f0 y=none))
 (yz:cr u w.heap.size A7 pl.length c7 pl) (rN:pl.length<=10000)
 (kv:Kept (· =m.cb) u v) (hi:i<=pl.length) {Z:HT->HT->Prop}
 (Ld:∃f,dW v m.cb f/\∀y,∃l,mM v (fun k=>m.SO k\/(u.heap.size<=k/\k<v.heap.size)) (D.length+if y∈pl.take i then 1 else 0) (f y) l/\∀c,c∈l↔Ji D P y c\/(c=hid/\y∈pl.take i/\y≠s/\¬fD D y s)) (gP:pl.Nodup)
 (hQ:∀v',Kept (· =m.cb) u v'->(∃f,dW v' m.cb f/\∀y,∃l,mM v' (fun k=>m.SO k\/(u.heap.size<=k/\k<v'.heap.size)) (D.length+if y∈pl.take (i+1)then 1 else 0) (f y) l/\∀c,c∈l↔Ji D P y c\/(c=hid/\y∈pl.take (i+1)/\y≠s/\¬fD D y s))->i<pl.length->
   Q .normal (aA.e2 (some ⟨x,0,none⟩) ⟨Cc,0,none⟩ sb b8 Rv A7 pl.length c7 (pl.length:Int) ((i:Int)+1)) v')
 (hE:i=pl.length->Q (.exit 3) (aA.e2 (some ⟨x,0,none⟩) ⟨Cc,0,none⟩ sb b8 Rv A7 pl.length c7 (pl.length:Int) (i:Int)) v):
 aA.B2 (some ⟨x,0,none⟩) ⟨Cc,0,none⟩ sb b8 Rv A7 pl.length c7 (pl.length:Int) (i:Int) Q v:=by
 subst UL;have UH:m.own x x:=.inl rfl;have rC:m.own x m.cb:=.inr (.inr (.inr rfl));obtain⟨L7,Nl,JK,Nk,L6,Nj⟩:=h.ne;have Nv:m.cb<w.heap.size:=h.low _ (.inl (.inr (.inr (.inr rC))));have sv:=kv.size;unfold aA.B2;refine Split.dec (fun lH=>?_) (fun iK=>hE (by omega));have fc:i<pl.length:=by omega
 obtain⟨y,hy⟩:∃y,pl[i]? =some y:=⟨_,List.getElem?_eq_getElem fc⟩;have RJ:y∉pl.take i:=fun hm=>by
  obtain⟨j,hj⟩:=List.mem_iff_getElem?.1 hm;rw [List.getElem?_take]at hj;split at hj
  ·rename_i cJ
   have h1:=jA 0 j gP hj;rw [jA 0 i gP hy]at h1;simp only [Option.some.injEq]at h1;omega
  ·cases hj
 have JD:HS v A7 pl.length pl:=cr.hs (Row.aK yz kv (fun k hk e=>by have:=(Row.bS yz hk).1;omega));refine JD.load (i:=(i:Int)) (by omega) (by rw [Int.toNat_natCast];exact hy) ?_;intro w81;obtain⟨ry,jw,jg⟩:=gg (w:=v) (z:=(yT 0)) (cs:=y.1) (t:=ax) (by rw [y.2.1];rfl);refine⟨⟨y.2.1,y.2.one,fun j hj=>ry j (by rw [y.2.1];exact hj)⟩,?_⟩;intro Jo
 replace jw:Jo.heap[v.heap.size]? =some (.cells y.1 ax (0,0)):=jw
 replace jg:Kept Nil v Jo:=jg
 clear_value Jo;have RE:Kept (· =m.cb) u Jo:=kv.trans jg (fun _ _ h=>h.elim);have KM:dW Jo ob f0:=hold.aK RE (fun e=>by omega);have lk:=KM.look DP y;obtain⟨f,hf,hc⟩:=Ld;have P3:=hf.aK jg (fun h=>h);obtain⟨l,vF,FO⟩:=hc y;have Uf:=jg.size;have Jb:∀ {v':World} {N N':Nat} {a:Option Value} {l:List HT},v.heap.size<=v'.heap.size->N<=N'->mM v' (fun k=>m.SO k\/(u.heap.size<=k/\k<v.heap.size)) N a l->mM v' (fun k=>m.SO k\/(u.heap.size<=k/\k<v'.heap.size)) N' a l:=fun hv hN xy=>by
  rcases xy with xy|⟨A,n,c,h1,h2,h3,h4,h5⟩
  ·exact .inl xy
  ·exact .inr ⟨A,n,c,h1,h2,h3,by omega,fun a ha=>(h5 a ha).imp (fun h=>h) (fun h=>⟨h.1,by omega⟩)⟩
 have Jc:∀ {v':World} {N:Nat} {a:Option Value} {l:List HT},Kept (· =m.cb) v v'->mM v (fun k=>m.SO k\/(u.heap.size<=k/\k<v.heap.size)) N a l->mM v' (fun k=>m.SO k\/(u.heap.size<=k/\k<v.heap.size)) N a l:=fun hk xy=>xy.aK hk (fun k mZ e=>by
  rcases mZ with h1|h1
  ·exact(h.od _ rC).2.2.1 (e▸h1)
  ·omega)
 refine⟨y.1,⟨y.2.1,Cells.bS jw⟩,?_⟩;by_cases iO:y=s\/fD D y s
 ·rw [(Zr y).1 iO]at lk
  refine⟨_,lk,true,rfl,Split.no rfl ?_⟩;rw [eJ (n:=(i:Int)) (by omega) (by omega)];refine hQ Jo RE ⟨f,P3,fun z=>?_⟩ fc;obtain⟨lz,h1,h2⟩:=hc z;refine⟨lz,Jb Uf (by
   by_cases hz:z∈pl.take i
   ·rw [if_pos hz,if_pos ((bJ hy).2 (.inl hz))];exact Nat.le_refl _
   ·rw [if_neg hz];omega) (Jc (jg.mono (fun _ _ h=>h.elim)) h1),fun c=>?_⟩
  rw [h2,bJ hy];constructor
  ·rintro(h3|⟨h3,h4,h5,h6⟩)
   ·exact .inl h3
   ·exact .inr ⟨h3,.inl h4,h5,h6⟩
  ·rintro(h3|⟨h3,h4|rfl,h5,h6⟩)
   ·exact .inl h3
   ·exact .inr ⟨h3,h4,h5,h6⟩
   ·exact absurd iO (fun e=>e.elim h5 h6)
 ·rw [(Zr y).2 iO]at lk
  refine⟨_,lk,false,rfl,Split.yes rfl ?_⟩;intro zX;have NK:Kept Nil Jo zX:=(Kept.refl _ _).drew;clear_value zX;have Ts:=jg.tt NK;have EK:=NK.heap jw (fun h=>h);have q7:∀ {q:World},Kept Nil zX q->q.cell? ((⟨x,0,none⟩:Addr).add 4)=some (.map (some m.cb)):=fun k=>by
   rw [bu,aD (k.heap (NK.heap (RE.heap js (fun e=>JK e)) (fun h=>h)) (fun h=>h))];rfl
  have mH:∀ {q:World},Kept Nil zX q->∃cs:Array Value,(.agg y.1:Value)=.agg cs/\cs.size=32/\Cells q (aU v.heap.size) cs:=fun k=>⟨y.1,rfl,y.2.1,Cells.bS (k.heap EK (fun h=>h))⟩;have IN:zX.heap[Cc]? =some (.cells hid.1 ax (0,0)):=NK.heap (RE.heap K1 (fun e=>by omega)) (fun h=>h);have VG:∀ {q:World},Kept Nil zX q->∃cs:Array Value,(.agg hid.1:Value)=.agg cs/\cs.size=32/\Cells q (⟨Cc,0,none⟩:Addr) cs:=fun k=>⟨hid.1,rfl,hid.2.1,Cells.bS (k.heap IN (fun h=>h))⟩;have P0:=P3.aK NK (fun h=>h);obtain⟨A,n,c,fp,Cj,FK,hnN⟩:∃(A:Option Addr) (n c:Nat),(f y).getD (.slice none 0 0)=.slice A n c/\n<=c/\HS v A n l/\n<=D.length:=by
   rcases vF with⟨h1,h2⟩|⟨A,n,c,h1,h2,h3,h4,_⟩
   ·exact⟨none,0,0,by rw [h1];rfl,Nat.le_refl _,by rw [h2];exact HS.nil _ _,by omega⟩
   ·rw [if_neg RJ]at h4
    exact⟨A,n,c,by rw [h1];rfl,h2,h3,by omega⟩
  have X1:∀ {q:World},Kept Nil zX q->(Instr.lookup fJ (.map (some m.cb)) (.agg y.1) false).run prog q=.ok (.slice A n c) q:=fun k=>by
   have:=(P0.aK k (fun h=>h)).look vq y;rw [fp]at this;exact this
  have fin:∀ {q:World} {bb:Nat},Kept Nil zX q->HS q (some ⟨bb,0,none⟩) 1 [hid]->
   ∃(A':Option Addr) (n' c':Nat) (q2:World),(Builtin.append_ #[aV,aV] aV #[.slice A n n,.slice (some ⟨bb,0,none⟩) 1 1]).run prog q=.ok (.slice A' n' c') q2/\(∃cs:Array Value,(.agg y.1:Value)=.agg cs/\cs.size=32/\Cells q2 (aU v.heap.size) cs)/\q2.cell? ((⟨x,0,none⟩:Addr).add 4)=some (.map (some m.cb))/\
    ∃q3:World,(Instr.mapUpdate fJ (.map (some m.cb)) (.agg y.1) (.slice A' n' c')).run prog q2=.ok () q3/\Q .normal (aA.e2 (some ⟨x,0,none⟩) ⟨Cc,0,none⟩ sb b8 (some ob) A7 pl.length c7 (pl.length:Int) (i64.wrap ((i:Int)+(1:Int)))) q3:=by
   intro q bb kq Cq;have Tq:=Ts.tt kq;obtain⟨A',c',q2,hr,yW,EJ,oz,Yd⟩:=vP (cx:=1) (FK.same Tq) Cq (by omega);have k2:=kq.tt Yd;obtain⟨q3,CY,hf3,k3⟩:=(P0.aK k2 (fun h=>h)).put vq y (.slice A' (n+1) c');refine⟨A',_,c',q2,hr,mH k2,q7 k2,q3,CY,?_⟩;rw [eJ (n:=(i:Int)) (by omega) (by omega)];have NB:=Tq.tt Yd;have NA:Kept (· =m.cb) v q3:=(NB.mono (S':=(· =m.cb)) (fun _ _ h=>h.elim)).tt k3;have sq2:=NB.size;have sq3:=k3.size;have svq:=Tq.size;refine hQ q3 (kv.tt NA) ⟨_,hf3,fun z=>?_⟩ fc;by_cases hz:z=y
   ·subst hz
    refine⟨l++ [hid],.inr ⟨A',n+1,c',by simp,EJ,yW.aK k3 (fun a ha e=>by have:=(oz a ha).1;omega),?_,fun a ha=>.inr ?_⟩,fun c=>?_⟩
    ·rw [if_pos ((bJ hy).2 (.inr rfl))];omega
    ·have:=oz a ha;omega
    ·rw [List.mem_append,List.mem_singleton,FO,bJ hy]
     constructor
     ·rintro((h3|⟨h3,h4,h5,h6⟩)|h3)
      ·exact .inl h3
      ·exact .inr ⟨h3,.inl h4,h5,h6⟩
      ·exact .inr ⟨h3,.inr rfl,fun e=>iO (.inl e),fun e=>iO (.inr e)⟩
     ·rintro(h3|⟨h3,h4,h5,h6⟩)
      ·exact .inl (.inl h3)
      ·exact .inr h3
   ·obtain⟨lz,h1,h2⟩:=hc z
    refine⟨lz,?_,fun c=>?_⟩
    ·simp only [hz,if_false]
     refine Jb (by omega) ?_ (Jc NA h1);by_cases TK:z∈pl.take i
     ·rw [if_pos TK,if_pos ((bJ hy).2 (.inl TK))];exact Nat.le_refl _
     ·rw [if_neg TK];omega
    ·rw [h2,bJ hy]
     constructor
     ·rintro(h3|⟨h3,h4,h5,h6⟩)
      ·exact .inl h3
      ·exact .inr ⟨h3,.inl h4,h5,h6⟩
     ·rintro(h3|⟨h3,h4|h4,h5,h6⟩)
      ·exact .inl h3
      ·exact .inr ⟨h3,h4,h5,h6⟩
      ·exact absurd h4 hz
  refine⟨_,q7 (Kept.refl _ _),y.1,⟨y.2.1,Cells.bS EK⟩,_,q7 (Kept.refl _ _),y.1,⟨y.2.1,Cells.bS EK⟩,A,n,c,X1 (Kept.refl _ _),hid.1,⟨hid.2.1,Cells.bS IN⟩,?_,⟨hid.2.1,?_⟩⟩
  ·refine vd Cj ⟨A,n,n,rfl,VG (Kept.refl _ _),mH (Kept.refl _ _),q7 (Kept.refl _ _),hid.2.1,?_⟩
   intro Bp;have yO:Kept Nil zX Bp:=(Kept.refl _ _).alloc _;have Qw:HS Bp (some ⟨zX.heap.size,0,none⟩) 1 [hid]:=lr zX hid;clear_value Bp;exact⟨mH yO,q7 yO,fin yO Qw⟩
  ·intro Js
   have xn:Kept Nil zX Js:=(Kept.refl _ _).alloc _;have Qv:HS Js (some ⟨zX.heap.size,0,none⟩) 1 [hid]:=lr zX hid;clear_value Js;exact⟨X1 xn,mH xn,q7 xn,mH xn,q7 xn,vd Cj ⟨A,n,n,rfl,mH xn,q7 xn,fin xn Qv⟩⟩
end
def rh(D:DG)(h s:HT)(l:List HT):DG:=if gS D h s l=0 then D++ [⟨h,dg l⟩]else D
def rf(D:DG)(P:List Int)(h s:HT)(l:List HT):List Int:=if gS D h s l=0 then P++ [(((pos s (ids D) 0).getD 0:Nat):Int)]else P
section
variable{w w':World}{F S:Nat->Prop}{x:Nat}{D:DG}{P:List Int}{m:XM}{K:Value->World->Prop}
theorem BO(h:XV w F x D P m)(hD:D.length<=5000)(hT:p7 w)(Lp:¬m.SG (Tryz.ji.g 1)){A:Option Addr}{n cx:Nat}{lp:List HT}(hl:HS w A n lp)(hn:n<=5000)(hid s:HT)
 (rO:∀v,Kept Nil w v->gS D hid s lp≠0->K (.int .i64 (gS D hid s lp)) v)
 (Ek:∀u S' F',zR u S' F' x (rh D hid s lp) (rf D P hid s lp)->Kept (fun k=>m.jf x k) w u->(∀k,S' k->m.jf x k\/w.heap.size<=k)->(∀k,F' k->F k\/w.heap.size<=k)->gS D hid s lp=0->K (.int .i64 0) u):
 bm prog aA.id #[.pointer (some ⟨x,0,none⟩),.agg hid.1,.agg s.1,.slice A n cx] w K:=by
 have hlen:=hl.len;have W:=h.W;refine aA.of ?_;unfold aA.W;intro w5 w6;have k5:Kept Nil w w5:=(Kept.refl _ _).alloc _;have PE:w5.heap[w.heap.size]? =some (.cells hid.1 ax (0,0)):=aR w _;have k6:Kept Nil w5 w6:=(Kept.refl _ _).alloc _;have Mm:w6.heap[w5.heap.size]? =some (.cells s.1 ax (0,0)):=aR w5 _;clear_value w6;have R1:=k6.heap PE (fun h=>h);have qx:=k5.tt k6;have s5:=k5.size;have l5:=aZ PE;obtain⟨bl,c,mbg,M,G⟩:=h.G;have hG:∀ {v:World},Kept Nil w v->GV v m.SG F m.g D (fI D) bl c mbg M:=fun k=>G.same k;refine qN (h.same qx) ⟨true,rfl,Split.no rfl ⟨_,(h.same qx).c0,hid.1,⟨hid.2.1,Cells.bS R1⟩,?_⟩⟩;refine pW (hG qx) hid fun kz Mf=>⟨_,rfl,?_⟩;have GR:=qx.tt Mf;by_cases gK:hid∈ids D
 ·have e:gS D hid s lp=7:=by simp [gS,eo,gK]
  have:=rO kz GR (by rw [e];decide);rw [e]at this;exact Split.yes (decide_eq_true gK) this
 refine Split.no (decide_eq_false gK) ?_;by_cases h0:n=0
 ·have el:lp= []:=List.length_eq_zero_iff.1 (by omega)
  have e:gS D hid s lp=9:=by subst el;simp [gS,eo,gK,Gh]
  have:=rO kz GR (by rw [e];decide);rw [e]at this;exact Split.yes (by simp [h0]) this
 refine Split.no (by simp [h0]) ?_;refine fW (hl.same GR) (by omega) fun A17 c17 uz XI Ea=>⟨A17,_,c17,rfl,?_⟩;have GQ:=GR.tt Ea;have fH:lp≠ []:=fun e=>h0 (by rw [<-hlen,e];rfl);by_cases FK:¬(dg lp).length=n
 ·have e:gS D hid s lp=9:=by
   have h1:(dg lp).length=0\/(dg lp).length≠lp.length:=.inr (by omega);have h2:eo D hid lp=9:=by unfold eo;rw [if_neg gK,if_pos h1]
   simp [gS,h2]
  have:=rO uz GQ (by rw [e];decide);rw [e]at this;exact Split.yes (by simp only [bne_iff_ne,ne_eq];omega) this
 replace FK:=Classical.not_not.1 FK
 refine Split.no (by rw [FK];simp) ?_;refine oo (h.same GQ) (hl.same GQ) (by omega) fun Bi x5=>⟨_,rfl,?_⟩;have Kc:=GQ.tt x5;have O7:¬((dg lp).length=0\/(dg lp).length≠lp.length):=by omega
 by_cases cO:¬∀p∈lp,p∈ids D
 ·have hex:∃p∈dg lp,p∉ids D:=Classical.byContradiction fun hc=>cO fun p hp=>Classical.byContradiction fun hq=>hc ⟨p,dI.2 hp,hq⟩
  have e:gS D hid s lp=6:=by
   have:eo D hid lp=6:=by unfold eo;rw [if_neg gK,if_neg O7,if_pos hex]
   simp [gS,this]
  have:=rO Bi Kc (by rw [e];decide);rw [e]at this;exact Split.yes (by rw [decide_eq_false cO];rfl) this
 replace cO:=Classical.not_not.1 cO
 refine Split.no (by rw [decide_eq_true cO];rfl) ?_;have VN:¬∃p∈dg lp,p∉ids D:=fun⟨p,hp,hq⟩=>hq (cO p (dI.1 hp));have eC:eo D hid lp=0:=by unfold eo;rw [if_neg gK,if_neg O7,if_neg VN]
 have NN:=(Mf.tt Ea).tt x5;refine⟨s.1,⟨s.2.1,Cells.bS (NN.heap Mm (fun h=>h))⟩,?_⟩;refine ug s (hl.same Kc) (by omega) fun kr rv=>⟨_,rfl,?_⟩;have yP:=Kc.tt rv;by_cases Ce:¬s∈lp
 ·have e:gS D hid s lp=2:=by simp [gS,eC,Ce]
  have:=rO kr yP (by rw [e];decide);rw [e]at this;exact Split.yes (by rw [decide_eq_false Ce];rfl) this
 replace Ce:=Classical.not_not.1 Ce
 refine Split.no (by rw [decide_eq_true Ce];rfl) ?_;have eX:gS D hid s lp=0:=by simp [gS,eC,Ce]
 have GH:=NN.tt rv;obtain⟨mj,Pe,U0⟩:=dw.1 (cO s Ce);obtain⟨j,hj⟩:=List.mem_iff_getElem?.1 Pe;have eP:rf D P hid s lp=P++ [(j:Int)]:=by
  unfold rf;rw [if_pos eX,<-U0,W.pos_eq hj];rfl
 have eD:rh D hid s lp=D++ [⟨hid,dg lp⟩]:=by unfold rh;rw [if_pos eX]
 intro Bh;have JX:Kept Nil kr Bh:=(Kept.refl _ _).alloc _;have U5:dW Bh kr.heap.size (fun _=>none):=dW.new kr;clear_value Bh;have OC:=(GH.tt JX).heap Mm (fun h=>h);obtain⟨CQ,Uu,Pj,JV⟩:=U5.put DP s (.agg #[.bool true]);refine⟨s.1,⟨s.2.1,Cells.bS OC⟩,CQ,Uu,?_⟩;have ob0:w5.heap.size<kr.heap.size:=by have:=aZ Mm;have:=GH.size;omega
 have Ug:=JV.heap OC (fun e=>by omega);refine⟨s.1,⟨s.2.1,Cells.bS Ug⟩,s.2.1,?_⟩;intro L4;have TG:Kept Nil CQ L4:=(Kept.refl _ _).alloc _;have TT:HS L4 (some ⟨CQ.heap.size,0,none⟩) 1 [s]:=lr CQ s;clear_value L4;have aaK:=yP.size;have D7:Kept Nil kr L4:=(JX.trans JV (fun k hk e=>by omega)).tt TG;have Ka:=yP.tt D7;refine tn (hG Ka) W (by omega) (hT.same Ka) TT (by omega) fun A32 Q8 uy HZ Ig=>⟨A32,_,Q8,rfl,?_⟩;have TI:=Ka.tt Ig;have U4:dW uy kr.heap.size (fun z=>if z=s then some (.agg #[.bool true])else none):=(Pj.aK TG (fun h=>h)).aK Ig (fun h=>h);have p1:=pD D fun a=>∃z∈ [s],fD D a z
 change (eR D [s]).length<=_ at p1
 have XF:=D7.size;have ob1:=Pj.lt;have s30:=TG.size;have IB:∀y,y∈eR D [s]↔fD D y s:=fun y=>by
  unfold eR;rw [jL];constructor
  ·rintro⟨_,z,hz,e⟩
   rw [List.mem_singleton]at hz
   rwa [hz]at e
  ·exact fun e=>⟨(e.mem W).1,s,by simp,e⟩
 have aa4:∀k,k=kr.heap.size->¬k<w.heap.size:=fun k e=>by omega
 refine aA.cf (I:=fun i v=>∃(q:Nat) (f:HT->Option Value),i=(q:Int)/\q<=(eR D [s]).length/\dW v kr.heap.size f/\(∀y,(y=s\/y∈(eR D [s]).take q->f y=some (.agg #[.bool true]))/\(¬(y=s\/y∈(eR D [s]).take q)->f y=none))/\Kept (· =kr.heap.size) uy v)
  (μ:=fun i _=>(((eR D [s]).length:Int)-i).toNat) (s:=0) ⟨0,_,rfl,Nat.zero_le _,U4,fun y=>⟨fun e=>by
    rcases e with e|e
    ·rw [if_pos e]
    ·simp at e,fun e=>if_neg fun e'=>e (.inl e')⟩,Kept.refl _ _⟩ ?_
 rintro i v ⟨q,f,rfl,hq,Y3,K8,kv⟩;have vu:Kept Nil w v:=TI.trans kv (fun k hk e=>by omega);refine Split.dec (fun lH=>?_) (fun iK=>?_)
 ·have fc:q<(eR D [s]).length:=by omega
  obtain⟨y,hy⟩:∃y,(eR D [s])[q]? =some y:=⟨_,List.getElem?_eq_getElem fc⟩;have JD:=cr.hs (Row.aK HZ kv (fun k hk e=>by have:=(Row.bS HZ hk).1;omega));refine JD.load (i:=(q:Int)) (by omega) (by rw [Int.toNat_natCast];exact hy) ?_;intro HU;obtain⟨ry,jw,jg⟩:=gg (w:=v) (z:=(yT 0)) (cs:=y.1) (t:=ax) (by rw [y.2.1];rfl);refine⟨⟨y.2.1,y.2.one,fun j hj=>ry j (by rw [y.2.1];exact hj)⟩,?_⟩;intro SQ
  replace jw:SQ.heap[v.heap.size]? =some (.cells y.1 ax (0,0)):=jw
  replace jg:Kept Nil v SQ:=jg
  clear_value SQ;obtain⟨Df,KJ,U2,RF⟩:=(Y3.aK jg (fun h=>h)).put DP y (.agg #[.bool true]);refine⟨y.1,⟨y.2.1,Cells.bS jw⟩,Df,KJ,?_⟩;rw [eJ (n:=(q:Int)) (by omega) (by omega)];refine⟨(q:Int)+1,rfl,⟨q+1,_,rfl,fc,U2,fun z=>?_,(kv.trans jg (fun _ _ h=>h.elim)).tt RF⟩,by simp only;omega⟩;rw [bJ hy];constructor
  ·intro e
   by_cases hz:z=y
   ·rw [if_pos hz]
   ·rw [if_neg hz]
    exact(K8 z).1 (e.imp (fun h=>h) (fun h=>h.resolve_right hz))
  ·intro e
   rw [if_neg (fun hz=>e (.inr (.inr hz)))];exact(K8 z).2 (fun e'=>e (e'.imp (fun h=>h) (fun h=>.inl h)))
 ·have Uz:q=(eR D [s]).length:=by omega
  subst Uz;rw [List.take_of_length_le (Nat.le_refl _)]at K8;rw [aX,aA.Jk];unfold aA.CL;have D6:Kept (· =kr.heap.size) kr v:=((D7.tt Ig).mono (S':=(· =kr.heap.size)) (fun _ _ h=>h.elim)).tt kv;have R0:v.heap[w.heap.size]? =some (.cells hid.1 ax (0,0)):=D6.heap (GH.heap R1 (fun h=>h)) (fun e=>by omega);have Ub:v.heap[w5.heap.size]? =some (.cells s.1 ax (0,0)):=D6.heap (GH.heap Mm (fun h=>h)) (fun e=>by omega);have sv:=vu.size;have s2v:=D6.size;refine⟨hid.1,⟨hid.2.1,Cells.bS R0⟩,?_⟩;refine HI (hG vu) W (by omega) (hl.same vu) (by omega) hid fun CP S2 F2 QK B8 Lq Sd=>⟨_,rfl,?_⟩;rw [p5 eC]at QK;have Gu:∀k,m.SG k->k<w.heap.size:=fun k e=>h.low k (.inl (.inl e));have s64:=B8.size;have K2:=B8.heap R0 (fun e=>by have:=Gu _ e;omega);have OB:=B8.heap Ub (fun e=>by have:=Gu _ e;omega);have U1:=Y3.aK B8 (fun e=>by have:=Gu _ e;omega);refine⟨hid.1,⟨hid.2.1,Cells.bS K2⟩,hid.2.1,?_⟩;intro Dd;have Ib:Kept Nil CP Dd:=(Kept.refl _ _).alloc _;have TR:HS Dd (some ⟨CP.heap.size,0,none⟩) 1 [hid]:=lr CP hid;clear_value Dd;have Hf:∀p∈dg lp,p∈ids D:=fun p hp=>cO p (dI.1 hp);have W':jQ (D++ [⟨hid,dg lp⟩]):=W.snoc (nd:=⟨hid,dg lp⟩) gK Hf (iL lp);obtain⟨bl',c',Nq,M',Sz⟩:=QK;have JM:∀k,m.own x k->k<w.heap.size:=fun k e=>h.low k (.inl (.inr (.inr (.inr e))));have hTv:p7 CP:=(hT.same vu).aK B8 Lp;refine tn (Sz.same Ib) W' (by simp;omega) (hTv.same Ib) TR (by omega) fun A69 c69 zY DD NL=>⟨A69,_,c69,rfl,?_⟩;have uR:=Ib.tt NL;have XC:=uR.size;have p2:=pD (D++ [⟨hid,dg lp⟩]) fun a=>∃z∈ [hid],fD (D++ [⟨hid,dg lp⟩]) a z
  change (eR (D++ [⟨hid,dg lp⟩]) [hid]).length<=_ at p2
  rw [List.length_append,List.length_singleton]at p2;have y5:∀y,y∈eR (D++ [⟨hid,dg lp⟩]) [hid]↔fD (D++ [⟨hid,dg lp⟩]) y hid:=fun y=>by
   unfold eR;rw [jL];constructor
   ·rintro⟨_,z,hz,e⟩
    rw [List.mem_singleton]at hz
    rwa [hz]at e
   ·exact fun e=>⟨(e.mem W').1,hid,by simp,e⟩
  have mv:Kept (fun k=>m.SG k) w zY:=((vu.mono (S':=fun k=>m.SG k) (fun _ _ h=>h.elim)).tt B8).trans uR (fun _ _ h=>h.elim);have JL:∀k,m.own x k->¬m.SG k:=fun k e=>(h.od k e).1;have M0:=mv.heap h.top (JL _ (.inl rfl));have gP:(eR (D++ [⟨hid,dg lp⟩]) [hid]).Nodup:=(iL _).nodup;obtain⟨f0,VM,VO⟩:=h.Ss;have XY:∀k,m.own x k->¬(k=m.cb)\/k=m.cb:=fun k _=>(Classical.em _).symm;have rC:m.own x m.cb:=.inr (.inr (.inr rfl));have Nv:=JM _ rC;generalize rN:eR (D++ [⟨hid,dg lp⟩]) [hid]=pl at DD p2 y5 gP⊢;refine aA.iN (I:=fun i u=>∃q:Nat,i=(q:Int)/\q<=pl.length/\Kept (· =m.cb) zY u/\∃f,dW u m.cb f/\∀y,∃l,mM u (fun k=>m.SO k\/(zY.heap.size<=k/\k<u.heap.size)) (D.length+if y∈pl.take q then 1 else 0) (f y) l/\∀c,c∈l↔Ji D P y c\/(c=hid/\y∈pl.take q/\y≠s/\¬fD D y s))
   (μ:=fun i _=>((pl.length:Int)-i).toNat) (s:=0) ⟨0,rfl,Nat.zero_le _,Kept.refl _ _,f0,VM.aK mv (JL _ rC),fun y=>?_⟩ ?_
  ·obtain⟨l,h1,h2⟩:=VO y
   refine⟨l,?_,fun c=>?_⟩
   ·rcases h1.aK mv (fun k e e'=>(h.gt k e').2 e)with h3|⟨A,n,c,g1,g2,g3,g4,g5⟩
    ·exact .inl h3
    ·exact .inr ⟨A,n,c,g1,g2,g3,by omega,fun a ha=>.inl (g5 a ha)⟩
   ·rw [h2]
    simp
  ·rintro i u ⟨q,rfl,Mo,ku,IS⟩
   refine CJ h hD mv.size M0 (uR.heap K2 (fun h=>h)) (Nat.le_refl _) ((U1.aK Ib (fun h=>h)).aK NL (fun h=>h)) (by omega) rfl
    (fun y=>⟨fun e=>(K8 y).1 (e.imp (fun h=>h) (fun h=>(IB y).2 h)),fun e=>(K8 y).2 (fun e'=>e (e'.imp (fun h=>h) (fun h=>(IB y).1 h)))⟩)
    (Row.base DD (fun b hb=>by have:=(Row.bS DD hb).1;have:=Ib.size;omega)) (by omega) ku Mo (Z:=fun _ _=>True) IS gP (hid:=hid) (s:=s) (D':=D) (ps:= []) (fun v' kv' VF cJ=>?_) (fun Uz=>?_)
   ·exact⟨(q:Int)+1,rfl,⟨q+1,rfl,cJ,kv',VF⟩,by simp only;omega⟩
   ·subst Uz
    rw [aX];unfold aA.e2;rw [aA.SF];rw [List.take_of_length_le (Nat.le_refl _)]at IS;have DZ:Kept (fun k=>m.SG k\/k=m.cb) w u:=(mv.mono (S':=fun k=>m.SG k\/k=m.cb) (fun _ _ h=>.inl h)).trans ku (fun _ _ h=>.inr h);have su:=ku.size;obtain⟨L7,Nl,JK,Nk,L6,Nj⟩:=h.ne;have aaX:∀k,F k->k<w.heap.size:=fun k e=>h.low k (.inr e);have Wu:GV zY S2 F2 m.g (D++ [⟨hid,dg lp⟩]) (fI (D++ [⟨hid,dg lp⟩])) bl' c' Nq M':=Sz.same uR;have nS2:∀k,S2 k->¬k=m.cb:=fun k h1 e=>by
     rcases Lq k h1 with h2|h2
     ·exact(h.od _ rC).1 (e▸h2)
     ·omega
    have nF2:∀k,F2 k->¬k=m.cb:=fun k h1 e=>by
     rcases Sd k h1 with h2|h2
     ·exact(h.od _ rC).2.2.2 (e▸h2)
     ·omega
    have ND:∀k,m.own x k->k≠m.cb->¬(m.SG k\/k=m.cb):=fun k e fH e'=>e'.elim (JL k e) fH;refine Fq (s1:=CP.heap.size) (s2:=zY.heap.size) (S2:=S2) (F2:=F2) (SO2:=fun k=>m.SO k\/(zY.heap.size<=k/\k<u.heap.size)) (mj:=mj) h hD gK Hf (iL lp) hj U0 (dI.2 Ce) (DZ.heap h.top (ND _ (.inl rfl) JK))
     (Nat.le_refl _) (by omega) (ku.heap (uR.heap K2 (fun h=>h)) (fun e=>by omega)) (ku.heap (uR.heap OB (fun h=>h)) (fun e=>by omega)) ⟨bl',c',Nq,M',Wu.aK ku nS2 nF2⟩
     (h.T.aK DZ (fun k e e'=>e'.elim (fun e'=>(h.gt k e').1 e) (fun e'=>(h.od _ rC).2.1 (e'▸e)))) (h.at_.aK DZ (ND _ (.inr (.inl rfl)) L6)) (Row.aK h.row DZ (fun k e=>by cases e;exact ND _ (.inr (.inr (.inl rfl))) Nj))
     ?_ (by omega) (by omega) su (fun k e=>⟨(Lq k e).imp (fun h=>h) (fun h=>by omega),Sz.low k (.inl e)⟩) (fun k e=>⟨(Sd k e).imp (fun h=>h) (fun h=>by omega),Sz.low k (.inr e)⟩) (fun k e=>e)
     (DZ.mono (S':=fun k=>m.jf x k) (fun k _ e=>e.elim (fun e=>.inl e) (fun e=>.inr (.inr (.inr (.inr (.inr (.inr e)))))))) (fun u2 S' F' hI kU hSu I6=>?_)
    ·obtain⟨f,hf,hc⟩:=IS
     refine⟨f,hf,fun y=>?_⟩;obtain⟨l,h1,h2⟩:=hc y;refine⟨l,?_,fun c=>?_⟩
     ·rcases h1 with h3|⟨A,n,c,g1,g2,g3,g4,g5⟩
      ·exact .inl h3
      ·refine .inr ⟨A,n,c,g1,g2,g3,?_,g5⟩
       split at g4<;>omega
     ·rw [h2,Fe W h.lZ (nd:=⟨hid,dg lp⟩) gK Hf hj,U0]
      constructor
      ·rintro(h3|⟨h3,h4,h5,h6⟩)
       ·exact .inl h3
       ·exact .inr ⟨h3,(y5 y).1 h4,h5,h6⟩
      ·rintro(h3|⟨h3,h4,h5,h6⟩)
       ·exact .inl h3
       ·exact .inr ⟨h3,(y5 y).2 h4,h5,h6⟩
    ·refine Ek u2 S' F' ?_ kU hSu I6 eX
     rw [eD,eP];exact hI
end
def fG:HT:=hx 0 (by decide)
def cM(D:DG)(P:List Int)(h:HT)(l:List HT):Prop:=(h∉ids D/\l= [])\/∃(i:Nat) (nd:DN) (ks:List Nat),D[i]? =some nd/\nd.id=h/\Up P i ks/\l=ks.map (mO D)
theorem lR{D:DG}{i:Nat}{nd:DN}(h:D[i]? =some nd):mO D i=nd.id:=by unfold mO;rw [h]
theorem cM.ex{D:DG}{P:List Int}(H:rJ D P)(h:HT):∃l,cM D P h l:=by
 by_cases hm:h∈ids D
 ·obtain⟨nd,gP,e⟩:=dw.1 hm
  obtain⟨i,hi⟩:=List.mem_iff_getElem?.1 gP;obtain⟨ks,hk⟩:=Up.ex H.par i (by rw [H.len];exact(lgeS hi).1);exact⟨_,.inr ⟨i,nd,ks,hi,e,hk,rfl⟩⟩
 ·exact⟨[],.inl ⟨hm,rfl⟩⟩
theorem cM.mem{D:DG}{P:List Int}(W:jQ D)(H:rJ D P){h:HT}{l:List HT}(c:cM D P h l){a:HT}:a∈l↔Ch D P a h:=by
 rcases c with⟨h1,rfl⟩|⟨i,nd,ks,h1,rfl,h3,rfl⟩
 ·simp only [List.not_mem_nil,false_iff]
  exact fun e=>h1 e.mem.2
 ·have fc:i<P.length:=by rw [H.len];exact(lgeS h1).1
  rw [List.mem_map];constructor
  ·rintro⟨k,hk,rfl⟩
   have hu:=(h3.mem H.par fc).1 hk;have C0:=hu.Rx;rw [H.len]at C0;obtain⟨nk,Mt⟩:∃nk,D[k]? =some nk:=⟨_,List.getElem?_eq_getElem C0⟩;exact⟨i,k,nd,nk,h1,rfl,Mt,(lR Mt).symm,hu⟩
  ·rintro⟨i',k,ni,nk,g1,g2,g3,g4,g5⟩
   have:=W.inj g1 h1 g2;subst this;exact⟨k,(h3.mem H.par fc).2 g5,by rw [lR g3,g4]⟩
theorem cM.one{D:DG}{P:List Int}(W:jQ D)(H:rJ D P){h:HT}{l l':List HT}(c:cM D P h l)(c':cM D P h l'):l=l':=by
 rcases c with⟨h1,rfl⟩|⟨i,nd,ks,h1,h2,h3,rfl⟩
 ·rcases c' with⟨_,rfl⟩|⟨i,nd,ks,g1,g2,_,_⟩
  ·rfl
  ·exact absurd (dw.2 ⟨nd,List.mem_of_getElem? g1,g2⟩) h1
 ·rcases c' with⟨g1,rfl⟩|⟨i',nd',ks',g1,g2,g3,rfl⟩
  ·exact absurd (dw.2 ⟨nd,List.mem_of_getElem? h1,h2⟩) g1
  ·have:=W.inj h1 g1 (by rw [h2,g2])
   subst this;rw [Up.one H.par h3 g3]
section
variable{w w':World}{F S:Nat->Prop}{x:Nat}{D:DG}{P:List Int}{m:XM}{K:Value->World->Prop}
theorem XV.JE(h:XV w F x D P m){i:Nat}{nd:DN}(hi:D[i]? =some nd):Cells w ((⟨m.ib,0,none⟩:Addr).add (i*32)) nd.id.1:=by
 obtain⟨a,ha,_,hc⟩:=(cr.hs h.row).at_ i nd.id (rM hi);cases ha;exact hc
theorem XV.DK(h:XV w F x D P m){i:Nat}{nd:DN}(hi:D[i]? =some nd):∃td,m.T[i]? =some td/\P[i]? =some td.parent:=by
 have fc:=(lgeS hi).1;obtain⟨td,RL⟩:=Tr.eQ (T:=m.T) (i:=i) (by rw [h.Jz];exact fc);exact⟨td,RL,by rw [<-h.bH];exact Tr.jK RL⟩
theorem qO(a:HT)(hK:∀w' pb qb,Kept Nil w w'->w'.heap[pb]? =some (.cells #[.pointer (some ⟨x,0,none⟩)] eW (0,0))->w'.heap[qb]? =some (.cells a.1 ax (0,0))->w.heap.size<=pb->w.heap.size<=qb->K (.func (.func aP.id) #[] #[.pointer (some ⟨pb,0,none⟩),.pointer (some ⟨qb,0,none⟩)]) w'):
 bm prog eE.id #[.pointer (some ⟨x,0,none⟩),.agg a.1] w K:=by
 refine eE.of ?_;unfold eE.W;intro w3 w4;have k3:Kept Nil w w3:=(Kept.refl _ _).alloc _;have hp3:w3.heap[w.heap.size]? =some (.cells #[.pointer (some ⟨x,0,none⟩)] eW (0,0)):=aR w _;have k4:Kept Nil w3 w4:=(Kept.refl _ _).alloc _;have hq4:w4.heap[w3.heap.size]? =some (.cells a.1 ax (0,0)):=aR w3 _;clear_value w4;exact hK w4 _ _ (k3.tt k4) (k4.heap hp3 (fun h=>h)) hq4 (Nat.le_refl _) k3.size
theorem z6{pb qb:Nat}{a:HT}{l:List HT}(hl:cM D P a l)(hD:D.length<=5000):
 lY prog aP.id #[] #[.pointer (some ⟨pb,0,none⟩),.pointer (some ⟨qb,0,none⟩)] (l.map pV) (fun w=>XV w F x D P m/\w.heap[pb]? =some (.cells #[.pointer (some ⟨x,0,none⟩)] eW (0,0))/\w.heap[qb]? =some (.cells a.1 ax (0,0))):=by
 intro y I Q w0 hI hQ pO h0 oZ;obtain⟨hX,Mr,YR⟩:=pO 0 w0 h0;have W:=hX.W;have pN:=hX.lZ;refine aP.of ?_;unfold aP.W;refine⟨_,by rw [aD Mr];rfl,a.1,⟨a.2.1,Cells.bS YR⟩,a.2.1,?_⟩;intro w6;have k6:Kept Nil w0 w6:=(Kept.refl _ _).alloc _;have pQ:HS w6 (some ⟨w0.heap.size,0,none⟩) 1 [a]:=lr w0 a;clear_value w6;refine oo (hX.same k6) pQ (by omega) fun w8 k8=>⟨_,rfl,?_⟩;have Ef:=k6.tt k8;rcases hl with⟨rO,rfl⟩|⟨i,nd,ks,hi,hid,hup,rfl⟩
 ·exact Split.yes (by rw [decide_eq_false (by simpa using rO)];rfl) (.inl (hI 0 w0 w8 h0 Ef))
 ·have hm:a∈ids D:=dw.2 ⟨nd,List.mem_of_getElem? hi,hid⟩
  refine Split.no (by rw [decide_eq_true (by simpa using hm)];rfl) ?_;intro w10;have tY:Kept Nil w8 w10:=(Kept.refl _ _).drew;clear_value w10;have yQ:=Ef.tt tY;have rQ:=hX.same yQ;have lk:=rQ.at_.uO a;rw [<-hid,W.pos_eq hi]at lk;rw [hid]at lk;refine⟨some ⟨x,0,none⟩,by rw [aD (yQ.heap Mr (fun h=>h))];rfl,_,rQ.c2,a.1,⟨a.2.1,Cells.bS (yQ.heap YR (fun h=>h))⟩,_,lk,?_⟩;have fc:i<P.length:=by rw [pN.len];exact(lgeS hi).1
  have OS:=pN.par;refine aP.cf (I:=fun s v=>∃(k:Nat) (dn rs:List Nat),s=(k:Int)/\ks=dn++rs/\Up P k rs/\k<P.length/\I dn.length v) (μ:=fun s _=>s.toNat) (s:=((i:Nat):Int)) ⟨i,[],ks,rfl,rfl,hup,fc,hI 0 w0 w10 h0 yQ⟩ ?_;rintro s v ⟨k,dn,rs,rfl,Vb,YE,C0,hv⟩;obtain⟨ZH,OO,hqv⟩:=pO _ v hv;rw [pN.len]at C0;obtain⟨nk,Mt⟩:∃nk,D[k]? =some nk:=⟨_,List.getElem?_eq_getElem C0⟩;refine⟨some ⟨x,0,none⟩,by rw [aD OO];rfl,_,_,_,ZH.c3,⟨by omega,by omega⟩,nk.id.1,⟨nk.id.2.1,by rw [Int.toNat_natCast];exact ZH.JE Mt⟩,?_⟩;have fp:((ks.map (mO D)).map pV)[dn.length]? =some (pV nk.id):=by
   rw [List.getElem?_map,List.getElem?_map,Vb,List.getElem?_append_right (Nat.le_refl _),Nat.sub_self,YE.head];simp [lR Mt]
  refine(oZ dn.length (pV nk.id) v fp hv).mono ?_;rintro b v' ⟨ht,hf⟩;cases b with
  |false=>
   refine Split.no rfl ?_;rw [aX,aP.dA];exact .inr (hf rfl)
  |true=>
   refine Split.yes rfl ?_;have Wt:=ht rfl;cases YE with
   |root=>
    refine Split.no rfl ?_;rw [aX,aP.dA];refine .inl ?_;rw [List.length_map,List.length_map,Vb,List.length_append];exact Wt
   | @step _ j rs' hj GY=>
     have Vd:=(Tr.gR OS (Tr.dG.2 hj)).1;refine Split.yes (decide_eq_true (by omega)) ?_;obtain⟨Lo,UC,_⟩:=pO _ v' Wt;obtain⟨td,RL,YH⟩:=Lo.DK Mt;rw [hj]at YH;have T8:(j:Int)=td.parent:=by simpa using YH
     refine⟨some ⟨x,0,none⟩,by rw [aD UC];rfl,_,Lo.c1,Tr.wo Lo.T RL (by omega) ⟨_,_,rfl,?_⟩⟩;rw [<-T8];refine⟨(j:Int),rfl,⟨j,dn++ [k],rs',rfl,by rw [Vb];simp,GY,by rw [pN.len];omega,?_⟩,by simp only;omega⟩;rw [List.length_append];exact Wt
end
structure XN(w v:World)(r:HT)(own:Nat->Nat)(G T E I Z:Option Nat)(l:List HT):Prop where
 kp:Kept Nil w v
 gr:∀g,G=some g->∃SG,zT v SG (fun _=>False) g [⟨r,[]⟩]/\∀k,SG k->w.heap.size<=k/\own k=1
 tr:∀t,T=some t->∃ST,Tr.nh v ST t Tr.oJ 0/\∀k,ST k->w.heap.size<=k/\k<v.heap.size/\own k=2
 mp:∀b,E=some b->w.heap.size<=b/\own b=3/\IsMap v b l
 il:∀b,I=some b->w.heap.size<=b/\own b=4/\v.heap[b]? =some (.cells (r.1.toList++ []).toArray ax (0,0))
 cv:∀b,Z=some b->w.heap.size<=b/\own b=5/\dW v b (fun _=>none)
def tag(n t:Nat)(own:Nat->Nat)(k:Nat):Nat:=if n<=k then t else own k
theorem po{n t k:Nat}{own:Nat->Nat}(h:k<n):tag n t own k=own k:=by unfold tag;rw [if_neg (by omega)]
theorem pq{n t k:Nat}{own:Nat->Nat}(h:n<=k):tag n t own k=t:=by unfold tag;rw [if_pos h]
section
variable{w v v':World}{r:HT}{own:Nat->Nat}{G T E I Z:Option Nat}{l:List HT}{K:Value->World->Prop}
theorem XN.grow(h:XN w v r own G T E I Z l)(t:Nat)(k:Kept Nil v v'):XN w v' r (tag v.heap.size t own) G T E I Z l:=by
 have hs:=k.size;refine⟨h.kp.tt k,fun g e=>?_,fun g e=>?_,fun b e=>?_,fun b e=>?_,fun b e=>?_⟩
 ·obtain⟨SG,h1,h2⟩:=h.gr g e
  exact⟨SG,h1.same k,fun q hq=>⟨(h2 q hq).1,by rw [po (by obtain⟨bl,c,mb,M,G⟩:=h1;exact G.low q (.inl hq))];exact(h2 q hq).2⟩⟩
 ·obtain⟨ST,h1,h2⟩:=h.tr g e
  exact⟨ST,h1.same k,fun q hq=>⟨(h2 q hq).1,by have:=(h2 q hq).2.1;omega,by rw [po (h2 q hq).2.1];exact(h2 q hq).2.2⟩⟩
 ·obtain⟨h1,h2,h3⟩:=h.mp b e
  exact⟨h1,by rw [po h3.lt];exact h2,h3.aK k (fun h=>h)⟩
 ·obtain⟨h1,h2,h3⟩:=h.il b e
  exact⟨h1,by rw [po (aZ h3)];exact h2,k.heap h3 (fun h=>h)⟩
 ·obtain⟨h1,h2,h3⟩:=h.cv b e
  exact⟨h1,by rw [po h3.lt];exact h2,h3.aK k (fun h=>h)⟩
theorem XN.fE(h:XN w v r own none T E I Z l){gb:Nat}(hG:zT v' (fun k=>v.heap.size<=k/\k<v'.heap.size) (fun _=>False) gb [⟨r,[]⟩])(k:Kept Nil v v'):XN w v' r (tag v.heap.size 1 own) (some gb) T E I Z l:=by
 have g:=h.grow 1 k;refine⟨g.kp,?_,g.tr,g.mp,g.il,g.cv⟩;intro g' e;cases e;have:=h.kp.size;exact⟨_,hG,fun q hq=>⟨by omega,pq hq.1⟩⟩
theorem XN.rH(h:XN w v r own G none E I Z l){t:Nat}(hT:Tr.nh v' (fun k=>v.heap.size<=k) t Tr.oJ 0)(k:Kept Nil v v'):XN w v' r (tag v.heap.size 2 own) G (some t) E I Z l:=by
 have g:=h.grow 2 k;refine⟨g.kp,g.gr,?_,g.mp,g.il,g.cv⟩;intro t' e;cases e;have:=h.kp.size;exact⟨_,qH hT,fun q hq=>⟨by omega,hq.2,pq hq.1⟩⟩
theorem XN.rI(h:XN w v r own G T none I Z []):XN w (v.alloc (.map #[] 0)) r (tag v.heap.size 3 own) G T (some v.heap.size) I Z []:=by
 have g:=h.grow 3 ((Kept.refl Nil v).alloc (.map #[] 0));refine⟨g.kp,g.gr,g.tr,?_,g.il,g.cv⟩;intro b e;cases e;exact⟨h.kp.size,pq (Nat.le_refl _),⟨#[],0,aR v _,trivial⟩⟩
theorem XN.mV(h:XN w v r own G T E none Z l):XN w (v.alloc (.cells (r.1.toList++ []).toArray ax)) r (tag v.heap.size 4 own) G T E (some v.heap.size) Z l:=by
 have g:=h.grow 4 ((Kept.refl Nil v).alloc (.cells (r.1.toList++ []).toArray ax));refine⟨g.kp,g.gr,g.tr,g.mp,?_,g.cv⟩;intro b e;cases e;exact⟨h.kp.size,pq (Nat.le_refl _),aR v _⟩
theorem XN.mU(h:XN w v r own G T E I none l):XN w (v.alloc (.map #[] 0)) r (tag v.heap.size 5 own) G T E I (some v.heap.size) l:=by
 have g:=h.grow 5 ((Kept.refl Nil v).alloc (.map #[] 0));refine⟨g.kp,g.gr,g.tr,g.mp,g.il,?_⟩;intro b e;cases e;exact⟨h.kp.size,pq (Nat.le_refl _),dW.new v⟩
theorem XN.put{mb:Nat}(h:XN w v r own G T (some mb) I Z []):∃v',(Instr.mapUpdate b0 (.map (some mb)) (.agg r.1) (.int .i64 0)).run prog v=.ok () v'/\XN w v' r own G T (some mb) I Z [r]:=by
 obtain⟨h1,h2,h3⟩:=h.mp mb rfl;obtain⟨v',hr,hm,hk⟩:=h3.put (h:=r) (by simp);refine⟨v',hr,(h.kp.trans hk (fun k hk e=>by omega)),fun g e=>?_,fun g e=>?_,fun b e=>?_,fun b e=>?_,fun b e=>?_⟩
 ·obtain⟨SG,g1,g2⟩:=h.gr g e
  exact⟨SG,g1.aK hk (fun q hq e=>by have:=(g2 q hq).2;rw [e,h2]at this;cases this) (fun q hq=>hq.elim),g2⟩
 ·obtain⟨ST,g1,g2⟩:=h.tr g e
  exact⟨ST,g1.aK hk (fun q hq e=>by have:=(g2 q hq).2.2;rw [e,h2]at this;cases this),fun q hq=>⟨(g2 q hq).1,Nat.lt_of_lt_of_le (g2 q hq).2.1 hk.size,(g2 q hq).2.2⟩⟩
 ·cases e
  exact⟨h1,h2,hm⟩
 ·obtain⟨g1,g2,g3⟩:=h.il b e
  exact⟨g1,g2,hk.heap g3 (fun e=>by rw [e,h2]at g2;cases g2)⟩
 ·obtain⟨g1,g2,g3⟩:=h.cv b e
  exact⟨g1,g2,g3.aK hk (fun e=>by rw [e,h2]at g2;cases g2)⟩
theorem XN.fin{g t mb ib cb:Nat}{w0:World}(h:XN w v r own (some g) (some t) (some mb) (some ib) (some cb) [r])(hw:w0.heap.size<=w.heap.size):
 zR (v.alloc (.cells #[.pointer (some ⟨g,0,none⟩),.pointer (some ⟨t,0,none⟩),.map (some mb),.slice (some ⟨ib,0,none⟩) 1 1,.map (some cb)] dv)) (fun k=>w0.heap.size<=k/\k<(v.alloc (.cells #[.pointer (some ⟨g,0,none⟩),.pointer (some ⟨t,0,none⟩),.map (some mb),.slice (some ⟨ib,0,none⟩) 1 1,.map (some cb)] dv)).heap.size) (fun _=>False) v.heap.size [⟨r,[]⟩] [-1]:=by
 have js:=aR v (.cells #[.pointer (some ⟨g,0,none⟩),.pointer (some ⟨t,0,none⟩),.map (some mb),.slice (some ⟨ib,0,none⟩) 1 1,.map (some cb)] dv);have kx:=(Kept.refl Nil v).alloc (.cells #[.pointer (some ⟨g,0,none⟩),.pointer (some ⟨t,0,none⟩),.map (some mb),.slice (some ⟨ib,0,none⟩) 1 1,.map (some cb)] dv);have hx:=aZ js;generalize v.alloc (.cells #[.pointer (some ⟨g,0,none⟩),.pointer (some ⟨t,0,none⟩),.map (some mb),.slice (some ⟨ib,0,none⟩) 1 1,.map (some cb)] dv)=u at js kx hx;obtain⟨SG,hG,gG⟩:=h.gr g rfl;obtain⟨ST,hT,gT⟩:=h.tr t rfl;obtain⟨m1,m2,m3⟩:=h.mp mb rfl;obtain⟨i1,i2,i3⟩:=h.il ib rfl;obtain⟨c1,c2,c3⟩:=h.cv cb rfl;have rD:∀k,SG k->k<v.heap.size:=fun k e=>by obtain⟨bl,c,mb,M,G⟩:=hG;exact G.low k (.inl e)
 have sw:=h.kp.size;have lm:=m3.lt;have li:=aZ i3;have lc:=c3.lt;have ET:∀ {a b:HT},¬fD [(⟨r,[]⟩:DN)] a b:=wF r;refine⟨⟨g,t,mb,ib,1,cb,Tr.oJ,0,SG,ST,fun _=>False⟩,⟨js,hG.same kx,hT.same kx,Tr.yB,rfl,⟨Int.le_refl 0,by show(0:Int)<=_;simp⟩,m3.aK kx (fun h=>h),?_,⟨_,c3.aK kx (fun h=>h),fun y=>⟨[],.inl ⟨rfl,rfl⟩,fun c=>?_⟩⟩,?_,jQ.root r,?_,?_,?_,?_,?_,?_⟩,?_⟩
 ·have e:cC [r]=(r.1.toList++ []).toArray.toList:=by simp [cC]
  show Row _ _ _ _ _ _ _ (cC [r])
  rw [e];exact Row.made (kx.heap i3 (fun h=>h)) (Nat.zero_le _) (by simp [r.2.1]) (by show 1<=maxLen;decide)
 ·simp only [List.not_mem_nil,false_iff]
  exact fun hc=>ET hc.1
 ·refine⟨rfl,rfl,fun i p nd hi hp=>?_⟩
  cases i with
  |zero=>omega
  |succ i=>simp at hp
 ·exact fun k e=>⟨fun e'=>by have:=(gG k e).2;have:=(gT k e').2.2;omega,fun e'=>e'.elim⟩
 ·exact fun k e e'=>e'.elim
 ·exact fun k e=>e.elim
 ·intro k e
  have key:v.heap.size<=k\/3<=own k:=by
   rcases e with e|e|e|e
   ·exact .inl (by omega)
   ·exact .inr (by have e:k=mb:=e;rw [e];omega)
   ·exact .inr (by have e:k=ib:=e;rw [e];omega)
   ·exact .inr (by have e:k=cb:=e;rw [e];omega)
  refine⟨fun e'=>?_,fun e'=>?_,fun e'=>e'.elim,fun e'=>e'.elim⟩
  ·have h1:=(gG k e').2
   have h2:=rD k e';omega
  ·have h1:=(gT k e').2.2
   have h2:=(gT k e').2.1;omega
 ·refine⟨by show v.heap.size≠mb;omega,by show v.heap.size≠ib;omega,by show v.heap.size≠cb;omega,fun e=>?_,fun e=>?_,fun e=>?_⟩
  ·have e:mb=ib:=e
   rw [e]at m2;omega
  ·have e:mb=cb:=e
   rw [e]at m2;omega
  ·have e:ib=cb:=e
   rw [e]at i2;omega
 ·intro k e
  rcases e with e|e
  ·rcases e with e|e|e|e
   ·have:=rD k e;omega
   ·have:=(gT k e).2.1;omega
   ·exact e.elim
   ·rcases e with e|e|e|e
    ·omega
    ·have e:k=mb:=e;omega
    ·have e:k=ib:=e;omega
    ·have e:k=cb:=e;omega
  ·exact e.elim
 ·intro k e
  rcases e with e|e|e|e
  ·have:=rD k e;have:=(gG k e).1;omega
  ·have:=(gT k e).1;have:=(gT k e).2.1;omega
  ·exact e.elim
  ·rcases e with e|e|e|e
   ·omega
   ·have e:k=mb:=e;omega
   ·have e:k=ib:=e;omega
   ·have e:k=cb:=e;omega
structure XD(w o:World)(r:HT)(K:Value->World->Prop):Prop where
 cs:∀ {v:World},Kept Nil o v->∃cs:Array Value,(.agg r.1:Value)=.agg cs/\cs.size=32/\Cells v (aU w.heap.size) cs
 fin:∀ {v:World} {own:Nat->Nat} {g t mb ib cb:Nat},XN o v r own (some g) (some t) (some mb) (some ib) (some cb) [r]->K (.pointer (some ⟨v.heap.size,0,none⟩)) (v.alloc (.cells #[.pointer (some ⟨g,0,none⟩),.pointer (some ⟨t,0,none⟩),.map (some mb),.slice (some ⟨ib,0,none⟩) 1 1,.map (some cb)] dv))
end
section
variable{w o v e i z:World}{r:HT}{own:Nat->Nat}{g t:Nat}{K:Value->World->Prop}
theorem n1(D:XD w o r K)(h:XN o v r own (some g) (some t) (some e.heap.size) (some i.heap.size) (some z.heap.size) [r]):aw.N1 (some ⟨g,0,none⟩) (some ⟨t,0,none⟩) e i z K v:=by
 unfold aw.N1;exact D.fin h
theorem n2(D:XD w o r K)(h:XN o v r own (some g) (some t) (some e.heap.size) (some i.heap.size) none [r]):aw.N2 (some ⟨g,0,none⟩) (some ⟨t,0,none⟩) e i K v:=by
 unfold aw.N2;exact let n:=h.mU;n1 D n
theorem n3(D:XD w o r K)(h:XN o v r own (some g) (some t) (some e.heap.size) none (some z.heap.size) [r]):aw.N3 r.1 (some ⟨g,0,none⟩) (some ⟨t,0,none⟩) e z K v:=by
 unfold aw.N3;exact let n:=h.mV;⟨r.2.1,n1 D n⟩
theorem n4(D:XD w o r K)(h:XN o v r own (some g) (some t) (some e.heap.size) none none [r]):aw.N4 r.1 (some ⟨g,0,none⟩) (some ⟨t,0,none⟩) e w K v:=by
 unfold aw.N4;exact⟨(let n:=h.mV;⟨r.2.1,n2 D n⟩),(let n:=h.mU;⟨D.cs n.kp,n3 D n⟩)⟩
theorem n5(D:XD w o r K)(h:XN o v r own (some g) (some t) (some e.heap.size) (some i.heap.size) (some z.heap.size) []):aw.N5 e r.1 (some ⟨g,0,none⟩) (some ⟨t,0,none⟩) i z K v:=by
 unfold aw.N5;exact let ⟨u,q,n⟩:=h.put;⟨u,q,n1 D n⟩
theorem n6(D:XD w o r K)(h:XN o v r own (some g) (some t) (some e.heap.size) (some i.heap.size) none []):aw.N6 e r.1 (some ⟨g,0,none⟩) (some ⟨t,0,none⟩) i w K v:=by
 unfold aw.N6;exact⟨(let ⟨u,q,n⟩:=h.put;⟨u,q,n2 D n⟩),(let n:=h.mU;⟨D.cs n.kp,n5 D n⟩)⟩
theorem n7(D:XD w o r K)(h:XN o v r own (some g) (some t) (some e.heap.size) none (some z.heap.size) []):aw.N7 e r.1 r.1 w (some ⟨g,0,none⟩) (some ⟨t,0,none⟩) z K v:=by
 unfold aw.N7;exact⟨(let ⟨u,q,n⟩:=h.put;⟨u,q,D.cs n.kp,n3 D n⟩),(let n:=h.mV;⟨r.2.1,D.cs n.kp,n5 D n⟩)⟩
theorem n8(D:XD w o r K)(h:XN o v r own (some g) (some t) (some e.heap.size) none none []):aw.N8 e r.1 r.1 w (some ⟨g,0,none⟩) (some ⟨t,0,none⟩) K v:=by
 unfold aw.N8;exact⟨(let ⟨u,q,n⟩:=h.put;⟨u,q,D.cs n.kp,n4 D n⟩),(let n:=h.mV;⟨r.2.1,D.cs n.kp,n6 D n⟩),(let n:=h.mU;⟨D.cs n.kp,D.cs n.kp,n7 D n⟩)⟩
theorem n9(D:XD w o r K)(h:XN o v r own (some g) (some t) none (some i.heap.size) (some z.heap.size) []):aw.N9 r.1 w (some ⟨g,0,none⟩) (some ⟨t,0,none⟩) i z K v:=by
 unfold aw.N9;exact let n:=h.rI;⟨D.cs n.kp,n5 D n⟩
theorem n10(D:XD w o r K)(h:XN o v r own (some g) (some t) none (some i.heap.size) none []):aw.MP r.1 w (some ⟨g,0,none⟩) (some ⟨t,0,none⟩) i K v:=by
 unfold aw.MP;exact⟨(let n:=h.rI;⟨D.cs n.kp,n6 D n⟩),(let n:=h.mU;⟨D.cs n.kp,n9 D n⟩)⟩
theorem n11(D:XD w o r K)(h:XN o v r own (some g) (some t) none none (some z.heap.size) []):aw.Sy r.1 w r.1 (some ⟨g,0,none⟩) (some ⟨t,0,none⟩) z K v:=by
 unfold aw.Sy;exact⟨(let n:=h.rI;⟨D.cs n.kp,D.cs n.kp,n7 D n⟩),(let n:=h.mV;⟨r.2.1,D.cs n.kp,n9 D n⟩)⟩
theorem n12(D:XD w o r K)(h:XN o v r own (some g) (some t) none none none []):aw.LU r.1 w r.1 (some ⟨g,0,none⟩) (some ⟨t,0,none⟩) K v:=by
 unfold aw.LU;exact⟨(let n:=h.rI;⟨D.cs n.kp,D.cs n.kp,n8 D n⟩),(let n:=h.mV;⟨r.2.1,D.cs n.kp,n10 D n⟩),(let n:=h.mU;⟨D.cs n.kp,D.cs n.kp,n11 D n⟩)⟩
theorem n13(D:XD w o r K)(h:XN o v r own (some g) none (some e.heap.size) (some i.heap.size) (some z.heap.size) [r]):aw.HQ (some ⟨g,0,none⟩) e i z K v:=by
 unfold aw.HQ;exact Tr.dE fun _ _ q k=>let n:=h.rH q k;⟨_,rfl,n1 D n⟩
theorem n14(D:XD w o r K)(h:XN o v r own (some g) none (some e.heap.size) (some i.heap.size) none [r]):aw.LS (some ⟨g,0,none⟩) e i K v:=by
 unfold aw.LS;exact⟨(Tr.dE fun _ _ q k=>let n:=h.rH q k;⟨_,rfl,n2 D n⟩),(let n:=h.mU;n13 D n)⟩
theorem n15(D:XD w o r K)(h:XN o v r own (some g) none (some e.heap.size) none (some z.heap.size) [r]):aw.Rn r.1 w (some ⟨g,0,none⟩) e z K v:=by
 unfold aw.Rn;exact⟨(Tr.dE fun _ _ q k=>let n:=h.rH q k;⟨_,rfl,D.cs n.kp,n3 D n⟩),(let n:=h.mV;⟨r.2.1,n13 D n⟩)⟩
theorem n16(D:XD w o r K)(h:XN o v r own (some g) none (some e.heap.size) none none [r]):aw.MO r.1 w (some ⟨g,0,none⟩) e K v:=by
 unfold aw.MO;exact⟨(Tr.dE fun _ _ q k=>let n:=h.rH q k;⟨_,rfl,D.cs n.kp,n4 D n⟩),(let n:=h.mV;⟨r.2.1,n14 D n⟩),(let n:=h.mU;⟨D.cs n.kp,n15 D n⟩)⟩
theorem n17(D:XD w o r K)(h:XN o v r own (some g) none (some e.heap.size) (some i.heap.size) (some z.heap.size) []):aw.MN r.1 w e (some ⟨g,0,none⟩) i z K v:=by
 unfold aw.MN;exact⟨(Tr.dE fun _ _ q k=>let n:=h.rH q k;⟨_,rfl,D.cs n.kp,n5 D n⟩),(let ⟨u,q,n⟩:=h.put;⟨u,q,n13 D n⟩)⟩
theorem n18(D:XD w o r K)(h:XN o v r own (some g) none (some e.heap.size) (some i.heap.size) none []):aw.Rm r.1 w e (some ⟨g,0,none⟩) i K v:=by
 unfold aw.Rm;exact⟨(Tr.dE fun _ _ q k=>let n:=h.rH q k;⟨_,rfl,D.cs n.kp,n6 D n⟩),(let ⟨u,q,n⟩:=h.put;⟨u,q,n14 D n⟩),(let n:=h.mU;⟨D.cs n.kp,n17 D n⟩)⟩
theorem n19(D:XD w o r K)(h:XN o v r own (some g) none (some e.heap.size) none (some z.heap.size) []):aw.F6 r.1 w r.1 e (some ⟨g,0,none⟩) z K v:=by
 unfold aw.F6;exact⟨(Tr.dE fun _ _ q k=>let n:=h.rH q k;⟨_,rfl,D.cs n.kp,D.cs n.kp,n7 D n⟩),(let ⟨u,q,n⟩:=h.put;⟨u,q,D.cs n.kp,n15 D n⟩),(let n:=h.mV;⟨r.2.1,D.cs n.kp,n17 D n⟩)⟩
theorem n20(D:XD w o r K)(h:XN o v r own (some g) none (some e.heap.size) none none []):aw.Jh r.1 w r.1 e (some ⟨g,0,none⟩) K v:=by
 unfold aw.Jh;exact⟨(Tr.dE fun _ _ q k=>let n:=h.rH q k;⟨_,rfl,D.cs n.kp,D.cs n.kp,n8 D n⟩),(let ⟨u,q,n⟩:=h.put;⟨u,q,D.cs n.kp,n16 D n⟩),(let n:=h.mV;⟨r.2.1,D.cs n.kp,n18 D n⟩),(let n:=h.mU;⟨D.cs n.kp,D.cs n.kp,n19 D n⟩)⟩
theorem n21(D:XD w o r K)(h:XN o v r own (some g) none none (some i.heap.size) (some z.heap.size) []):aw.Jg r.1 w (some ⟨g,0,none⟩) i z K v:=by
 unfold aw.Jg;exact⟨(Tr.dE fun _ _ q k=>let n:=h.rH q k;⟨_,rfl,D.cs n.kp,n9 D n⟩),(let n:=h.rI;⟨D.cs n.kp,n17 D n⟩)⟩
theorem n22(D:XD w o r K)(h:XN o v r own (some g) none none (some i.heap.size) none []):aw.MM r.1 w (some ⟨g,0,none⟩) i K v:=by
 unfold aw.MM;exact⟨(Tr.dE fun _ _ q k=>let n:=h.rH q k;⟨_,rfl,D.cs n.kp,n10 D n⟩),(let n:=h.rI;⟨D.cs n.kp,n18 D n⟩),(let n:=h.mU;⟨D.cs n.kp,n21 D n⟩)⟩
theorem n23(D:XD w o r K)(h:XN o v r own (some g) none none none (some z.heap.size) []):aw.Sx r.1 w r.1 (some ⟨g,0,none⟩) z K v:=by
 unfold aw.Sx;exact⟨(Tr.dE fun _ _ q k=>let n:=h.rH q k;⟨_,rfl,D.cs n.kp,D.cs n.kp,n11 D n⟩),(let n:=h.rI;⟨D.cs n.kp,D.cs n.kp,n19 D n⟩),(let n:=h.mV;⟨r.2.1,D.cs n.kp,n21 D n⟩)⟩
theorem n24(D:XD w o r K)(h:XN o v r own (some g) none none none none []):aw.Rl r.1 w r.1 (some ⟨g,0,none⟩) K v:=by
 unfold aw.Rl;exact⟨(Tr.dE fun _ _ q k=>let n:=h.rH q k;⟨_,rfl,D.cs n.kp,D.cs n.kp,n12 D n⟩),(let n:=h.rI;⟨D.cs n.kp,D.cs n.kp,n20 D n⟩),(let n:=h.mV;⟨r.2.1,D.cs n.kp,n22 D n⟩),(let n:=h.mU;⟨D.cs n.kp,D.cs n.kp,n23 D n⟩)⟩
theorem n25(D:XD w o r K)(h:XN o v r own none none (some e.heap.size) (some i.heap.size) (some z.heap.size) [r]):aw.Rk r.1 e i z K v:=by
 unfold aw.Rk;exact eU r fun _ _ q k=>let n:=h.fE q k;⟨_,rfl,n13 D n⟩
theorem n26(D:XD w o r K)(h:XN o v r own none none (some e.heap.size) (some i.heap.size) none [r]):aw.Sw r.1 e i w K v:=by
 unfold aw.Sw;exact⟨(eU r fun _ _ q k=>let n:=h.fE q k;⟨_,rfl,n14 D n⟩),(let n:=h.mU;⟨D.cs n.kp,n25 D n⟩)⟩
theorem n27(D:XD w o r K)(h:XN o v r own none none (some e.heap.size) none (some z.heap.size) [r]):aw.LR r.1 r.1 w e z K v:=by
 unfold aw.LR;exact⟨(eU r fun _ _ q k=>let n:=h.fE q k;⟨_,rfl,D.cs n.kp,n15 D n⟩),(let n:=h.mV;⟨r.2.1,D.cs n.kp,n25 D n⟩)⟩
theorem n28(D:XD w o r K)(h:XN o v r own none none (some e.heap.size) none none [r]):aw.Xd r.1 r.1 w e K v:=by
 unfold aw.Xd;exact⟨(eU r fun _ _ q k=>let n:=h.fE q k;⟨_,rfl,D.cs n.kp,n16 D n⟩),(let n:=h.mV;⟨r.2.1,D.cs n.kp,n26 D n⟩),(let n:=h.mU;⟨D.cs n.kp,D.cs n.kp,n27 D n⟩)⟩
theorem n29(D:XD w o r K)(h:XN o v r own none none (some e.heap.size) (some i.heap.size) (some z.heap.size) []):aw.Rj r.1 r.1 w e i z K v:=by
 unfold aw.Rj;exact⟨(eU r fun _ _ q k=>let n:=h.fE q k;⟨_,rfl,D.cs n.kp,n17 D n⟩),(let ⟨u,q,n⟩:=h.put;⟨u,q,D.cs n.kp,n25 D n⟩)⟩
theorem n30(D:XD w o r K)(h:XN o v r own none none (some e.heap.size) (some i.heap.size) none []):aw.Sv r.1 r.1 w e i K v:=by
 unfold aw.Sv;exact⟨(eU r fun _ _ q k=>let n:=h.fE q k;⟨_,rfl,D.cs n.kp,n18 D n⟩),(let ⟨u,q,n⟩:=h.put;⟨u,q,D.cs n.kp,n26 D n⟩),(let n:=h.mU;⟨D.cs n.kp,D.cs n.kp,n29 D n⟩)⟩
theorem n31(D:XD w o r K)(h:XN o v r own none none (some e.heap.size) none (some z.heap.size) []):aw.Su r.1 r.1 w r.1 e z K v:=by
 unfold aw.Su;exact⟨(eU r fun _ _ q k=>let n:=h.fE q k;⟨_,rfl,D.cs n.kp,D.cs n.kp,n19 D n⟩),(let ⟨u,q,n⟩:=h.put;⟨u,q,D.cs n.kp,D.cs n.kp,n27 D n⟩),(let n:=h.mV;⟨r.2.1,D.cs n.kp,D.cs n.kp,n29 D n⟩)⟩
theorem n32(D:XD w o r K)(h:XN o v r own none none (some e.heap.size) none none []):aw.Xc r.1 r.1 w r.1 e K v:=by
 unfold aw.Xc;exact⟨(eU r fun _ _ q k=>let n:=h.fE q k;⟨_,rfl,D.cs n.kp,D.cs n.kp,n20 D n⟩),(let ⟨u,q,n⟩:=h.put;⟨u,q,D.cs n.kp,D.cs n.kp,n28 D n⟩),(let n:=h.mV;⟨r.2.1,D.cs n.kp,D.cs n.kp,n30 D n⟩),(let n:=h.mU;⟨D.cs n.kp,D.cs n.kp,D.cs n.kp,n31 D n⟩)⟩
theorem n33(D:XD w o r K)(h:XN o v r own none none none (some i.heap.size) (some z.heap.size) []):aw.St r.1 r.1 w i z K v:=by
 unfold aw.St;exact⟨(eU r fun _ _ q k=>let n:=h.fE q k;⟨_,rfl,D.cs n.kp,n21 D n⟩),(let n:=h.rI;⟨D.cs n.kp,D.cs n.kp,n29 D n⟩)⟩
theorem n34(D:XD w o r K)(h:XN o v r own none none none (some i.heap.size) none []):aw.Xb r.1 r.1 w i K v:=by
 unfold aw.Xb;exact⟨(eU r fun _ _ q k=>let n:=h.fE q k;⟨_,rfl,D.cs n.kp,n22 D n⟩),(let n:=h.rI;⟨D.cs n.kp,D.cs n.kp,n30 D n⟩),(let n:=h.mU;⟨D.cs n.kp,D.cs n.kp,n33 D n⟩)⟩
theorem n35(D:XD w o r K)(h:XN o v r own none none none none (some z.heap.size) []):aw.Xa r.1 r.1 w r.1 z K v:=by
 unfold aw.Xa;exact⟨(eU r fun _ _ q k=>let n:=h.fE q k;⟨_,rfl,D.cs n.kp,D.cs n.kp,n23 D n⟩),(let n:=h.rI;⟨D.cs n.kp,D.cs n.kp,D.cs n.kp,n31 D n⟩),(let n:=h.mV;⟨r.2.1,D.cs n.kp,D.cs n.kp,n33 D n⟩)⟩
theorem n36(D:XD w o r K)(h:XN o v r own none none none none none []):aw.W9 r.1 r.1 w r.1 K v:=by
 unfold aw.W9;exact⟨(eU r fun _ _ q k=>let n:=h.fE q k;⟨_,rfl,D.cs n.kp,D.cs n.kp,n24 D n⟩),(let n:=h.rI;⟨D.cs n.kp,D.cs n.kp,D.cs n.kp,n32 D n⟩),(let n:=h.mV;⟨r.2.1,D.cs n.kp,D.cs n.kp,n34 D n⟩),(let n:=h.mU;⟨D.cs n.kp,D.cs n.kp,D.cs n.kp,n35 D n⟩)⟩
end
section
variable{K:Value->World->Prop}
theorem gH{w:World}(r:HT)(hK:∀v x,zR v (fun k=>w.heap.size<=k/\k<v.heap.size) (fun _=>False) x [⟨r,[]⟩] [-1]->Kept Nil w v->K (.pointer (some ⟨x,0,none⟩)) v):
 bm prog aw.id #[.agg r.1] w K:=by
 refine aw.of ?_;unfold aw.W;intro Xt F9;have k2:Kept Nil w Xt:=(Kept.refl _ _).alloc _;have oz:Xt.heap[w.heap.size]? =some (.cells r.1 ax (0,0)):=aR w _;have k3:Kept Nil w F9:=k2.drew;have o6:F9.heap[w.heap.size]? =some (.cells r.1 ax (0,0)):=oz;clear_value F9;have N_3:XN F9 F9 r (fun _=>0) none none none none none []:=⟨Kept.refl _ _,(fun b e=>by cases e),(fun b e=>by cases e),(fun b e=>by cases e),(fun b e=>by cases e),(fun b e=>by cases e)⟩;have mH:∀ {v:World},Kept Nil F9 v->∃cs:Array Value,(.agg r.1:Value)=.agg cs/\cs.size=32/\Cells v (aU w.heap.size) cs:=fun k=>⟨r.1,rfl,r.2.1,Cells.bS (k.heap o6 (fun h=>h))⟩;have sO:∀ {v:World} {own:Nat->Nat} {g t mb ib cb:Nat},XN F9 v r own (some g) (some t) (some mb) (some ib) (some cb) [r]->K (.pointer (some ⟨v.heap.size,0,none⟩)) (v.alloc (.cells #[.pointer (some ⟨g,0,none⟩),.pointer (some ⟨t,0,none⟩),.map (some mb),.slice (some ⟨ib,0,none⟩) 1 1,.map (some cb)] dv)):=
  fun h=>hK _ _ (h.fin k3.size) ((k3.tt h.kp).alloc _)
 have c3:r.1.size=32/\Cells F9 (aU w.heap.size) r.1:=⟨r.2.1,Cells.bS o6⟩;refine⟨r.1,c3,r.1,c3,r.1,c3,?_⟩;have D:XD w F9 r K:=⟨mH,sO⟩;exact n36 D N_3
end
end Go.Proofs.YtfleamccglihoaaGreatDoor
