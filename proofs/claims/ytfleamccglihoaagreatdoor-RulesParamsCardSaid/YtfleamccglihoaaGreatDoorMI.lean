import Derived.Test.YtfleamccglihoaaGreatDoorMG
import Derived.Test.YtfleamccglihoaaGreatDoorMH
import Derived.Test.YtfleamccglihoaaGreatDoorME
import Derived.Laws.AppendOwn
open Go.IntKind (i64 u64)
set_option linter.unusedVariables false
namespace Go.Proofs.YtfleamccglihoaaGreatDoor
open Go.Proofs.Tryz
open Go Go.bE
open Tr (jg)
structure rI(D:DG)(P:List Int):Prop where
 len:P.length=D.length
 root:P[0]? =some (-1)
 up:∀(i:Nat) (p:Int) nd,0<i->P[i]? =some p->D[i]? =some nd->∃(j:Nat) (m:DN),p=(j:Int)/\j<i/\D[j]? =some m/\m.id∈nd.ps
def Ch(D:DG)(P:List Int)(a b:HT):Prop:=∃(i k:Nat) (ni nk:DN),D[i]? =some ni/\ni.id=b/\D[k]? =some nk/\nk.id=a/\jg P i k
def jS(D:DG)(P:List Int)(s c:HT):Prop:=∃(i j:Nat) (ni m:DN),D[i]? =some ni/\ni.id=c/\P[i]? =some (j:Int)/\D[j]? =some m/\m.id=s
def Jj(D:DG)(P:List Int)(h c:HT):Prop:=fG D h c/\∃s,jS D P s c/\h≠s/\¬fG D h s
section
variable{D:DG}{P:List Int}
theorem rI.par(H:rI D P):Tr.nf P:=⟨H.root,fun i p hi hp=>by
 have fg:=(lgeS hp).1;rw [H.len]at fg;obtain⟨j,m,h1,h2,_⟩:=H.up i p _ hi hp (List.getElem?_eq_getElem fg);exact⟨j,h2,h1⟩⟩
theorem jS.par(H:rI D P){s c:HT}(h:jS D P s c):nf D s c:=by
 obtain⟨i,j,ni,m,h1,rfl,h3,h4,rfl⟩:=h;have hi:0<i:=by
  rcases Nat.eq_zero_or_pos i with rfl|h
  ·rw [H.root]at h3;simp only [Option.some.injEq]at h3;omega
  ·exact h
 obtain⟨j',m',e,_,h5,h6⟩:=H.up i _ ni hi h3 h1;have:j'=j:=by omega
 subst this;rw [h4]at h5;cases h5;exact⟨ni,List.mem_of_getElem? h1,rfl,h6⟩
theorem jS.one(W:jZ D){s s' c:HT}(h:jS D P s c)(h':jS D P s' c):s=s':=by
 obtain⟨i,j,ni,m,h1,rfl,h3,h4,rfl⟩:=h;obtain⟨i',j',ni',m',qU,e,AP,Sh,rfl⟩:=h';have:=W.inj h1 qU e.symm;subst this;rw [h3]at AP;simp only [Option.some.injEq]at AP;have:j=j':=by omega
 subst this;rw [h4]at Sh;cases Sh;rfl
theorem jS.ex(H:rI D P){i:Nat}{ni:DN}(hi:0<i)(h:D[i]? =some ni):∃(j:Nat) (m:DN),j<i/\P[i]? =some (j:Int)/\D[j]? =some m/\jS D P m.id ni.id:=by
 have fg:=(lgeS h).1;obtain⟨p,hp⟩:∃p,P[i]? =some p:=⟨_,List.getElem?_eq_getElem (by rw [H.len];exact fg)⟩;obtain⟨j,m,rfl,hj,hm,_⟩:=H.up i p ni hi hp h;exact⟨j,m,hj,hp,hm,i,j,ni,m,h,rfl,hp,hm,rfl⟩
theorem Ch.refl(H:rI D P){a:HT}(h:a∈ids D):Ch D P a a:=by
 obtain⟨nd,gL,e⟩:=dz.1 h;obtain⟨i,hi⟩:=List.mem_iff_getElem?.1 gL;exact⟨i,i,nd,nd,hi,e,hi,e,.refl (by rw [H.len];exact(lgeS hi).1)⟩
theorem Ch.mem{a b:HT}(h:Ch D P a b):a∈ids D/\b∈ids D:=by
 obtain⟨i,k,ni,nk,h1,h2,h3,h4,_⟩:=h;exact⟨dz.2 ⟨nk,List.mem_of_getElem? h3,h4⟩,dz.2 ⟨ni,List.mem_of_getElem? h1,h2⟩⟩
theorem Ch.step(W:jZ D){a s c:HT}(hs:jS D P s c)(h:Ch D P a s):Ch D P a c:=by
 obtain⟨i,j,ni,m,h1,rfl,h3,h4,rfl⟩:=hs;obtain⟨j',k,nj,nk,g1,g2,g3,g4,g5⟩:=h;have:=W.inj g1 h4 g2;subst this;exact⟨i,k,ni,nk,h1,rfl,g3,g4,.step h3 g5⟩
theorem Ch.LL(W:jZ D)(H:rI D P){a b:HT}(h:Ch D P a b):a=b\/fG D a b:=by
 obtain⟨i,k,ni,nk,h1,rfl,h3,rfl,h5⟩:=h
 induction h5 generalizing ni with
 |refl _=>rw [h1]at h3;cases h3;exact .inl rfl
 | @step i j k hj hu ih=>
   have tJ:=hu.lt;rw [H.len]at tJ;obtain⟨m,hm⟩:∃m,D[j]? =some m:=⟨_,List.getElem?_eq_getElem tJ⟩;have hp:nf D m.id ni.id:=jS.par H ⟨i,j,ni,m,h1,rfl,hj,hm,rfl⟩;rcases ih m hm h3 with e|e
   ·rw [e];exact .inr (.one hp)
   ·exact .inr (.more e hp)
theorem Fm(W:jZ D)(H:rI D P){a b:HT}(fJ:a≠b):fG D a b↔Ch D P a b\/∃c,Jj D P a c/\Ch D P c b:=by
 constructor
 ·intro h
  obtain⟨nb,KO,e⟩:=dz.1 (h.mem W).2;obtain⟨i,hb⟩:=List.mem_iff_getElem?.1 KO;clear KO;subst e
  induction i using Nat.strongRecOn generalizing nb with
  |_ i ih=>
   have hi:0<i:=by
    rcases Nat.eq_zero_or_pos i with rfl|h0
    ·exfalso
     obtain⟨x,y,mx,my,lZ,_,hy,_,e2⟩:=h.at_ W;have:=W.inj hy hb e2;omega
    ·exact h0
   obtain⟨j,m,hj,_,hm,hs⟩:=jS.ex H hi hb;by_cases e1:a=m.id
   ·exact .inl (Ch.step W hs (by rw [e1];exact Ch.refl H (dz.2 ⟨m,List.mem_of_getElem? hm,rfl⟩)))
   ·by_cases e2:fG D a m.id
    ·rcases ih j hj m hm e1 e2 with e3|⟨c,e3,e4⟩
     ·exact .inl (Ch.step W hs e3)
     ·exact .inr ⟨c,e3,Ch.step W hs e4⟩
    ·exact .inr ⟨nb.id,⟨h,m.id,hs,e1,e2⟩,Ch.refl H (dz.2 ⟨nb,List.mem_of_getElem? hb,rfl⟩)⟩
 ·rintro(h|⟨c,⟨h1,_⟩,h2⟩)
  ·exact(h.LL W H).resolve_left fJ
  ·rcases h2.LL W H with e|e
   ·rw [<-e];exact h1
   ·exact h1.trans e
theorem rI.snoc(H:rI D P){nd:DN}{j:Nat}{m:DN}(hj:D[j]? =some m)(hm:m.id∈nd.ps)(ko:0<D.length):rI (D++ [nd]) (P++ [(j:Int)]) where
 len:=by simp [H.len]
 root:=by rw [List.getElem?_append_left (by rw [H.len];exact ko)];exact H.root
 up:=fun i p nd' hi hp gL=>by
  have tJ:=(lgeS hj).1;by_cases h:i<D.length
  ·rw [List.getElem?_append_left (by rw [H.len];exact h)]at hp
   rw [List.getElem?_append_left h]at gL;obtain⟨j',m',e,h1,h2,h3⟩:=H.up i p nd' hi hp gL;exact⟨j',m',e,h1,by rw [List.getElem?_append_left (by omega)];exact h2,h3⟩
  ·have fg:=(lgeS gL).1
   have e:i=D.length:=by simp at fg;omega
   subst e;rw [<-H.len]at hp;simp at hp gL;subst hp gL;exact⟨j,m,rfl,tJ,by rw [List.getElem?_append_left tJ];exact hj,hm⟩
theorem mi(W:jZ D)(H:rI D P){nd:DN}(hn:nd.id∉ids D){j:Nat}{m:DN}(hj:D[j]? =some m){s c:HT}:
 jS (D++ [nd]) (P++ [(j:Int)]) s c↔jS D P s c\/(c=nd.id/\s=m.id):=by
 have tJ:=(lgeS hj).1;constructor
 ·rintro⟨i,k,ni,mk,h1,rfl,h3,h4,rfl⟩
  by_cases h:i<D.length
  ·rw [List.getElem?_append_left h]at h1
   rw [List.getElem?_append_left (by rw [H.len];exact h)]at h3;have hk:k<D.length:=by
    rcases Nat.eq_zero_or_pos i with rfl|h0
    ·rw [H.root]at h3;simp only [Option.some.injEq]at h3;omega
    ·obtain⟨k',_,e,h5,_⟩:=H.up i _ ni h0 h3 h1
     omega
   rw [List.getElem?_append_left hk]at h4;exact .inl ⟨i,k,ni,mk,h1,rfl,h3,h4,rfl⟩
  ·have fg:=(lgeS h1).1
   have e:i=D.length:=by simp at fg;omega
   subst e;have AP:=h3;rw [<-H.len]at AP;simp at h1 AP;subst h1;have:k=j:=by omega
   subst this;rw [List.getElem?_append_left tJ,hj]at h4;cases h4;exact .inr ⟨rfl,rfl⟩
 ·rintro(⟨i,k,ni,mk,h1,rfl,h3,h4,rfl⟩|⟨rfl,rfl⟩)
  ·have hi:=(lgeS h1).1
   have hk:=(lgeS h4).1;exact⟨i,k,ni,mk,by rw [List.getElem?_append_left hi];exact h1,rfl,by rw [List.getElem?_append_left (by rw [H.len];exact hi)];exact h3,by rw [List.getElem?_append_left hk];exact h4,rfl⟩
  ·exact⟨D.length,j,nd,m,by simp,rfl,by rw [<-H.len];simp,by rw [List.getElem?_append_left tJ];exact hj,rfl⟩
theorem Fc(W:jZ D)(H:rI D P){nd:DN}(hn:nd.id∉ids D)(gM:∀p∈nd.ps,p∈ids D){j:Nat}{m:DN}(hj:D[j]? =some m){h c:HT}:
 Jj (D++ [nd]) (P++ [(j:Int)]) h c↔Jj D P h c\/(c=nd.id/\fG (D++ [nd]) h nd.id/\h≠m.id/\¬fG D h m.id):=by
 have hm:m.id∈ids D:=dz.2 ⟨m,List.mem_of_getElem? hj,rfl⟩;have key:∀ {s c},jS D P s c->s∈ids D/\c∈ids D:=fun hs=>(fG.one (jS.par H hs)).mem W;constructor
 ·rintro⟨h1,s,hs,h2,h3⟩
  rcases(mi W H hn hj).1 hs with hs|⟨rfl,rfl⟩
  ·obtain⟨g1,g2⟩:=key hs
   exact .inl ⟨(iw W hn g2).1 h1,s,hs,h2,fun e=>h3 ((iw W hn g1).2 e)⟩
  ·exact .inr ⟨rfl,h1,h2,fun e=>h3 ((iw W hn hm).2 e)⟩
 ·rintro(⟨h1,s,hs,h2,h3⟩|⟨rfl,h1,h2,h3⟩)
  ·obtain⟨g1,g2⟩:=key hs
   exact⟨(iw W hn g2).2 h1,s,(mi W H hn hj).2 (.inl hs),h2,fun e=>h3 ((iw W hn g1).1 e)⟩
  ·exact⟨h1,m.id,(mi W H hn hj).2 (.inr ⟨rfl,rfl⟩),h2,fun e=>h3 ((iw W hn hm).1 e)⟩
inductive Up (P:List Int):Nat->List Nat->Prop
 |root:Up P 0 [0]
 |step {i j:Nat} {l:List Nat}:P[i]? =some (j:Int)->Up P j l->Up P i (i::l)
theorem Up.ex(hP:Tr.nf P):∀i,i<P.length->∃l,Up P i l:=by
 intro i
 induction i using Nat.strongRecOn with
 |_ i ih=>
  intro hi;rcases Nat.eq_zero_or_pos i with rfl|h0
  ·exact⟨[0],.root⟩
  ·obtain⟨j,h1,h2⟩:=hP.up i _ h0 (List.getElem?_eq_getElem hi)
   obtain⟨l,hl⟩:=ih j h1 (by omega);exact⟨i::l,.step (by rw [List.getElem?_eq_getElem hi,h2]) hl⟩
theorem Up.mem(hP:Tr.nf P){i:Nat}{l:List Nat}(h:Up P i l)(hi:i<P.length){k:Nat}:k∈l↔jg P i k:=by
 induction h with
 |root=>
  rw [List.mem_singleton];constructor
  ·rintro rfl;exact .refl hi
  ·intro h;have:=h.le hP;omega
 | @step i j l hj hu ih=>
   have tJ:j<P.length:=by have:=(Tr.gR hP (Tr.dH.2 hj)).1;omega
   rw [List.mem_cons,ih tJ];constructor
   ·rintro(rfl|h)
    ·exact .refl hi
    ·exact .step hj h
   ·intro h
    by_cases e:k=i
    ·exact .inl e
    ·exact .inr (h.inv (fun e'=>e e'.symm) hj)
theorem Up.one(hP:Tr.nf P){i:Nat}{l l':List Nat}(h:Up P i l)(h':Up P i l'):l=l':=by
 induction h generalizing l' with
 |root=>
  cases h' with
  |root=>rfl
  |step hj _=>rw [hP.root]at hj;simp only [Option.some.injEq]at hj;omega
 | @step i j l hj hu ih=>
   cases h' with
   |root=>rw [hP.root]at hj;simp only [Option.some.injEq]at hj;omega
   | @step _ j' l' uT GZ=>
     rw [hj]at uT;simp only [Option.some.injEq]at uT;have:j=j':=by omega
     subst this;rw [ih GZ]
theorem Up.head{i:Nat}{l:List Nat}(h:Up P i l):l[0]? =some i:=by cases h<;>rfl
theorem Up.lt(hP:Tr.nf P){i:Nat}{l:List Nat}(h:Up P i l)(hi:i<P.length):∀k∈l,k<P.length:=fun k hk=>((h.mem hP hi).1 hk).Rz
end
end Go.Proofs.YtfleamccglihoaaGreatDoor
namespace Go.Proofs.YtfleamccglihoaaGreatDoor
open Go.Proofs.Tryz
open Go Go.bE Go.RowKit
structure ur(mt te:TypeId)(z:Value):Prop where
 mY:prog.underlying mt=some (.map ax te)
 zero:∀w,(zeroValue te).run prog w=.ok z w
def assoc(h:HT):List (HT×Value)->Option Value
 | []=>none
 |(x,v)::l=>if h=x then some v else assoc h l
def kf(h:HT):List (HT×Value)->Nat->Option (Nat×Value)
 | [],_=>none
 |(x,v)::l,i=>if h=x then some (i,v)else kf h l (i+1)
theorem ly(h:HT):∀(l:List (HT×Value)) (i:Nat),(kf h l i).map (·.2)=assoc h l
 | [],_=>rfl
 |(x,v)::l,i=>by
  unfold kf assoc;split
  ·rfl
  ·exact ly h l (i+1)
theorem tc{h:HT}:∀ {l:List (HT×Value)} {i j:Nat} {v:Value},kf h l i=some (j,v)->i<=j/\l[j-i]? =some (h,v)/\∀(x:HT) (u:Value),assoc x (l.set (j-i) (h,u))=if x=h then some u else assoc x l
 | [],i,j,v,e=>by simp [kf]at e
 |(x,u)::l,i,j,v,e=>by
  unfold kf at e;split at e
  ·rename_i hx
   cases e;subst hx;refine⟨Nat.le_refl _,by rw [Nat.sub_self];rfl,fun x u=>?_⟩;rw [Nat.sub_self];simp only [List.set_cons_zero,assoc];by_cases hx:x=h<;>simp [hx]
  ·rename_i hx
   obtain⟨h1,h2,h3⟩:=tc e;have e1:j-i=(j-(i+1))+1:=by omega
   refine⟨by omega,by rw [e1];exact h2,fun y u'=>?_⟩;rw [e1];simp only [List.set_cons_succ,assoc,h3];by_cases hy:y=h
   ·subst hy;simp [hx]
   ·simp [hy]
theorem tA{h:HT}{v:Value}:∀ {l:List (HT×Value)},assoc h l=none->∀x,assoc x (l++ [(h,v)])=if x=h then some v else assoc x l
 | [],_,x=>by simp [assoc]
 |(y,u)::l,e,x=>by
  unfold assoc at e;split at e
  ·cases e
  ·rename_i hy
   have ih:=tA (v:=v) e x;simp only [List.cons_append,assoc,ih];by_cases hx:x=y
   ·subst hx;simp [Ne.symm hy]
   ·simp [hx]
def lK(es:List MapEntry)(l:List (HT×Value)):Prop:=match es,l with
 | [],[]=>True
 |e::es,p::l=>(e.key=.agg p.1.1/\e.val=p.2)/\lK es l
 |_,_=>False
theorem lK.snoc:∀ {es:List MapEntry} {l:List (HT×Value)} {e:MapEntry} {p:HT×Value},lK es l->e.key=.agg p.1.1->e.val=p.2->lK (es++ [e]) (l++ [p])
 | [],[],_,_,_,h1,h2=>⟨⟨h1,h2⟩,trivial⟩
 |_::_,_::_,_,_,he,h1,h2=>⟨he.1,lK.snoc he.2 h1 h2⟩
 | [],_::_,_,_,he,_,_=>he.elim
 |_::_,[],_,_,he,_,_=>he.elim
theorem lK.get:∀ {es:List MapEntry} {l:List (HT×Value)} {j:Nat} {p:HT×Value},lK es l->l[j]? =some p->∃e,es[j]? =some e/\e.key=.agg p.1.1/\e.val=p.2
 | [],[],_,_,_,h=>by simp at h
 |e::_,_::_,0,_,he,h=>by
  simp only [List.getElem?_cons_zero,Option.some.injEq]at h;subst h;exact⟨e,rfl,he.1⟩
 |_::_,_::_,j+1,_,he,h=>by
  obtain⟨e,h1,h2⟩:=lK.get he.2 (j:=j) (by simpa using h);exact⟨e,by simpa using h1,h2⟩
 | [],_::_,_,_,he,_=>he.elim
 |_::_,[],_,_,he,_=>he.elim
theorem lK.set:∀ {es:List MapEntry} {l:List (HT×Value)} {j:Nat} {p:HT×Value} {f:MapEntry->MapEntry},lK es l->(∀e,(f e).key=.agg p.1.1/\(f e).val=p.2)->lK (es.modify j f) (l.set j p)
 | [],[],_,_,_,he,_=>by simpa using he
 |_::_,_::_,0,_,_,he,hf=>⟨hf _,he.2⟩
 |_::_,_::_,j+1,_,_,he,hf=>by
  simp only [List.modify_succ_cons,List.set_cons_succ];exact⟨he.1,lK.set he.2 hf⟩
 | [],_::_,_,_,_,he,_=>he.elim
 |_::_,[],_,_,_,he,_=>he.elim
theorem lK.len:∀ {es:List MapEntry} {l:List (HT×Value)},lK es l->es.length=l.length
 | [],[],_=>rfl
 |_::_,_::_,he=>by simp [lK.len he.2]
 | [],_::_,he=>he.elim
 |_::_,[],he=>he.elim
section
variable{w:World}
theorem pr(h:HT)(w:World):∀(es:List MapEntry) (l:List (HT×Value)) (i:Nat),lK es l->
 (Instr.findAsking ax (.agg h.1) es i).run prog w=.ok (kf h l i) w
 | [],[],i,_=>by simp [Instr.findAsking,kf]
 |e::es,(x,v)::l,i,he=>by
  have hq:=r4 h x w;have ih:=pr h w es l (i+1) he.2;simp only [Instr.findAsking,he.1.1,Sem.run_bind,hq,Result.andThen_ok];by_cases hx:h=x
  ·simp [hx,kf,he.1.2]
  ·simp [hx,kf,ih]
 | [],_::_,_,he=>he.elim
 |_::_,[],_,he=>he.elim
theorem kh(h:HT)(w:World){es:List MapEntry}{l:List (HT×Value)}(he:lK es l):
 (Instr.findKey ax (.agg h.1) es).run prog w=.ok (kf h l 0) w:=by
 have h1:=pr h w es l 0 he;simp only [Instr.findKey,Sem.run_bind,run_underlying Gf,Result.andThen_ok];cases es with
 |nil=>
  cases l with
  |nil=>simp [Instr.findNow,kf]
  |cons x l=>exact he.elim
 |cons e es=>
  have:Instr.findNow (.array 32 gU) (.agg h.1) (e::es) 0=none:=by
   simp only [Instr.findNow,Instr.sameNow]
  rw [this];exact h1
theorem BD(h:HT):Instr.sameBits 10000 (.agg h.1) (.agg h.1)=true:=by
 show Instr.sameBits (9999+1) (.agg h.1) (.agg h.1)=true
 rw [Instr.sameBits];simp only [beq_self_eq_true,Bool.true_and,List.all_eq_true];rintro⟨x,y⟩ lZ;have TR:x=y:=by
  obtain⟨i,hi⟩:=List.mem_iff_getElem?.1 lZ;rw [List.getElem?_zip_eq_some]at hi;have:=hi.1.symm.trans hi.2;simpa using this
 subst TR;have hm:=(List.of_mem_zip lZ).1;obtain⟨n,rfl,_⟩:=h.2.2 x hm;simp [Instr.sameBits]
structure dX(w:World)(m:Nat)(f:HT->Option Value):Prop where
 ex:∃es clock l,w.heap[m]? =some (.map es clock)/\lK es.toList l/\(∀x,assoc x l=f x)/\(∀e∈es.toList,e.born<clock)/\(es.toList.map (·.born)).Nodup/\(l.map (·.1)).Nodup
theorem dX.aK{S:Nat->Prop}{w w':World}{m:Nat}{f:HT->Option Value}(h:dX w m f)(hk:Kept S w w')(hn:¬S m):dX w' m f:=by
 obtain⟨es,clock,l,h1,h2⟩:=h.ex;exact⟨es,clock,l,hk.heap h1 hn,h2⟩
theorem dX.same{w w':World}{m:Nat}{f:HT->Option Value}(h:dX w m f)(hk:Kept Nil w w'):dX w' m f:=h.aK hk (fun h=>h)
theorem dX.lt{w:World}{m:Nat}{f:HT->Option Value}(h:dX w m f):m<w.heap.size:=by
 obtain⟨es,clock,l,h1,_⟩:=h.ex;exact bf h1
theorem dX.new(w:World):dX (w.alloc (.map #[] 0)) w.heap.size (fun _=>none):=⟨#[],0,[],aR w _,trivial,fun _=>rfl,by simp,by simp,by simp⟩
theorem dX.look{mt te:TypeId}{z:Value}(T:ur mt te z){m:Nat}{f:HT->Option Value}(hm:dX w m f)(h:HT):
 (Instr.lookup mt (.map (some m)) (.agg h.1) false).run prog w=.ok ((f h).getD z) w:=by
 obtain⟨es,clock,l,h1,h2,h3,_⟩:=hm.ex;have h4:=kh h w h2;have h5:=ly h l 0;rw [h3]at h5;simp only [Instr.lookup,Sem.run_bind,run_underlying T.mY,nQ h1,Result.andThen_ok,Sem.run_pure,hU,h4];cases hp:kf h l 0 with
 |none=>rw [hp]at h5;simp [<-h5,T.zero]
 |some p=>rw [hp]at h5;simp [<-h5]
theorem dX.put{mt te:TypeId}{z:Value}(T:ur mt te z){m:Nat}{f:HT->Option Value}(hm:dX w m f)(h:HT)(v:Value):
 ∃w',(Instr.mapUpdate mt (.map (some m)) (.agg h.1) v).run prog w=.ok () w'/\dX w' m (fun x=>if x=h then some v else f x)/\Kept (· =m) w w':=by
 obtain⟨es,clock,l,h1,h2,h3,hb,hd,hk⟩:=hm.ex;have h4:=kh h w h2;have kept:∀o,Kept (· =m) w {w with heap:=w.heap.setIfInBounds m o}:=fun o=>⟨rfl,rfl,rfl,by simp,fun k _ hk=>by simp [Ne.symm hk]⟩;cases hp:kf h l 0 with
 |none=>
  rw [hp]at h4;have h5:=ly h l 0;rw [hp]at h5;refine⟨{w with heap:=w.heap.setIfInBounds m (.map (es.push {key:=.agg h.1,val:=v,born:=clock}) (clock+1))},?_,⟨es.push {key:=.agg h.1,val:=v,born:=clock},clock+1,l++ [(h,v)],?_,?_,?_,?_,?_,?_⟩,kept _⟩
  ·simp only [Instr.mapUpdate,Sem.run_bind,run_underlying T.mY,nQ h1,Result.andThen_ok,hU,h4,yu _ h1]
  ·simp [bf h1]
  ·have:=h2.snoc (e:= {key:=.agg h.1,val:=v,born:=clock}) (p:=(h,v)) rfl rfl
   simpa using this
  ·intro x
   rw [tA h5.symm,h3]
  ·intro e he
   rw [Array.toList_push,List.mem_append,List.mem_singleton]at he;rcases he with he|rfl
   ·have:=hb e he;omega
   ·exact Nat.lt_succ_self _
  ·rw [Array.toList_push,List.map_append,List.nodup_append]
   refine⟨hd,by simp,fun a ha b ub e=>?_⟩;simp only [List.map_cons,List.map_nil,List.mem_singleton]at ub;obtain⟨e',Hm,rfl⟩:=List.mem_map.1 ha;have:=hb e' Hm;omega
  ·rw [List.map_append,List.nodup_append]
   refine⟨hk,by simp,fun a ha b ub e=>?_⟩;simp only [List.map_cons,List.map_nil,List.mem_singleton]at ub;subst ub;subst e;have key:∀l:List (HT×Value),a∈l.map (·.1)->assoc a l≠none:=fun l=>by
    induction l with
    |nil=>simp
    |cons p l ih=>
     obtain⟨y,u⟩:=p;intro hm;unfold assoc;split
     ·simp
     ·rename_i hy
      simp only [List.map_cons,List.mem_cons]at hm;exact ih (hm.resolve_left hy)
   exact key l ha h5.symm
 |some p=>
  obtain⟨j,u⟩:=p;rw [hp]at h4;obtain⟨_,h6,h7⟩:=tc hp;rw [Nat.sub_zero]at h6 h7;obtain⟨e,he1,MB,_⟩:=h2.get h6;have VD:es[j]? =some e:=by simpa using he1
  refine⟨{w with heap:=w.heap.setIfInBounds m (.map (es.modify j fun e=> {e with key:=.agg h.1,val:=v}) clock)},?_,⟨es.modify j fun e=> {e with key:=.agg h.1,val:=v},clock,l.set j (h,v),?_,?_,?_,?_,?_,?_⟩,kept _⟩
  ·simp only [Instr.mapUpdate,Sem.run_bind,run_underlying T.mY,nQ h1,Result.andThen_ok,hU,h4,Instr.keyThatStays,VD,Option.map_some,Option.getD_some,MB,BD,if_true,Sem.run_pure,yu _ h1]
  ·simp [bf h1]
  ·rw [Array.toList_modify]
   exact h2.set (p:=(h,v)) fun e=>⟨rfl,rfl⟩
  ·intro x
   rw [h7,h3]
  ·intro x hx
   rw [Array.toList_modify]at hx;obtain⟨i,hi⟩:=List.mem_iff_getElem?.1 hx;rw [List.getElem?_modify]at hi;cases hg:es.toList[i]? with
   |none=>rw [hg]at hi;simp at hi
   |some y=>
    rw [hg]at hi;have:=hb y (List.mem_of_getElem? hg);by_cases pP:j=i
    ·simp [pP]at hi
     rw [<-hi];exact this
    ·simp [pP]at hi
     rw [<-hi];exact this
  ·have:(es.modify j fun e=> {e with key:=.agg h.1,val:=v}).toList.map (·.born)=es.toList.map (·.born):=by
    rw [Array.toList_modify];apply List.ext_getElem?;intro i;rw [List.getElem?_map,List.getElem?_map,List.getElem?_modify];cases es.toList[i]? with
    |none=>simp
    |some y=>by_cases pP:j=i<;>simp [pP]
   rw [this];exact hd
  ·have:(l.set j (h,v)).map (·.1)=l.map (·.1):=by
    apply List.ext_getElem?;intro i;rw [List.getElem?_map,List.getElem?_map,List.getElem?_set];by_cases pP:j=i
    ·subst pP
     have cK:=(lgeS h6).1;have iK:=(lgeS h6).2;simp [cK,iK]
    ·simp [pP]
   rw [this];exact hk
end
end Go.Proofs.YtfleamccglihoaaGreatDoor
namespace Go.Proofs.YtfleamccglihoaaGreatDoor
open Go.Proofs.Tryz
open Go Go.bE Go.RowKit
open Tr (jg)
theorem rJ{te:TypeId}{z:Value}(h:(prog.info? te).bind (·.zero)=some z)(w:World):(zeroValue te).run prog w=.ok z w:=by
 cases hi:prog.info? te with
 |none=>rw [hi]at h;cases h
 |some i=>
  rw [hi]at h;have hz:i.zero=some z:=h;simp [zeroValue,typeInfo,hi,hz]
theorem vn:ur fL aW (.slice none 0 0):=⟨by kernel_rfl,rJ (by kernel_rfl)⟩
theorem DO:ur jQ qF (.agg #[.bool false]):=⟨by kernel_rfl,rJ (by kernel_rfl)⟩
structure XM where
 g:Nat
 t:Nat
 mb:Nat
 ib:Nat
 ic:Nat
 cb:Nat
 T:List Tr.Nd
 d:Int
 SG:Nat->Prop
 ST:Nat->Prop
 SO:Nat->Prop
def XM.own(m:XM)(x k:Nat):Prop:=k=x\/k=m.mb\/k=m.ib\/k=m.cb
def XM.jc(m:XM)(x k:Nat):Prop:=m.SG k\/m.ST k\/m.SO k\/m.own x k
def mM(w:World)(SO:Nat->Prop)(N:Nat)(v:Option Value)(l:List HT):Prop:=
 (v=none/\l= [])\/∃(A:Option Addr) (n c:Nat),v=some (.slice A n c)/\n<=c/\HS w A n l/\n<=N/\∀a,A=some a->SO a.block
structure XV(w:World)(F:Nat->Prop)(x:Nat)(D:DG)(P:List Int)(m:XM):Prop where
 top:w.heap[x]? =some (.cells #[.pointer (some ⟨m.g,0,none⟩),.pointer (some ⟨m.t,0,none⟩),.map (some m.mb),.slice (some ⟨m.ib,0,none⟩) D.length m.ic,.map (some m.cb)] dw (0,0))
 G:Ba w m.SG F m.g D
 T:Tr.nh w m.ST m.t m.T m.d
 HG:Tr.uu m.T
 bG:Tr.bG m.T=P
 dl:0<=m.d/\m.d<=D.length
 at_:IsMap w m.mb (ids D)
 row:cg w 0 (some ⟨m.ib,0,none⟩) D.length m.ic (ids D)
 Su:∃f,dX w m.cb f/\∀h,∃l,mM w m.SO D.length (f h) l/\∀c,c∈l↔Jj D P h c
 ml:rI D P
 W:jZ D
 gt:∀k,m.SG k->¬m.ST k/\¬m.SO k
 to:∀k,m.ST k->¬m.SO k
 fd:∀k,F k->¬m.ST k/\¬m.SO k
 od:∀k,m.own x k->¬m.SG k/\¬m.ST k/\¬m.SO k/\¬F k
 ne:x≠m.mb/\x≠m.ib/\x≠m.cb/\m.mb≠m.ib/\m.mb≠m.cb/\m.ib≠m.cb
 low:∀k,m.jc x k\/F k->k<w.heap.size
def zO(w:World)(S F:Nat->Prop)(x:Nat)(D:DG)(P:List Int):Prop:=∃m,XV w F x D P m/\∀k,m.jc x k->S k
section
variable{w w':World}{F S:Nat->Prop}{x:Nat}{D:DG}{P:List Int}{m:XM}{K:Value->World->Prop}
theorem mM.aK{S0 SO:Nat->Prop}{N:Nat}{v:Option Value}{l:List HT}(h:mM w SO N v l)(hk:Kept S0 w w')(hn:∀k,SO k->¬S0 k):mM w' SO N v l:=by
 rcases h with h|⟨A,n,c,h1,h2,h3,h4,h5⟩
 ·exact .inl h
 ·exact .inr ⟨A,n,c,h1,h2,h3.aK hk (fun a ha=>hn _ (h5 a ha)),h4,h5⟩
theorem XV.aK{S0:Nat->Prop}(h:XV w F x D P m)(hk:Kept S0 w w')(hS:∀k,m.jc x k->¬S0 k)(hF:∀k,F k->¬S0 k):XV w' F x D P m where
 top:=hk.heap h.top (hS _ (.inr (.inr (.inr (.inl rfl)))))
 G:=h.G.aK hk (fun k e=>hS k (.inl e)) hF
 T:=h.T.aK hk (fun k e=>hS k (.inr (.inl e)))
 HG:=h.HG
 bG:=h.bG
 dl:=h.dl
 at_:=h.at_.aK hk (hS _ (.inr (.inr (.inr (.inr (.inl rfl))))))
 row:=Row.aK h.row hk (fun k e=>by cases e;exact hS _ (.inr (.inr (.inr (.inr (.inr (.inl rfl)))))))
 Su:=by
  obtain⟨f,h1,h2⟩:=h.Su;refine⟨f,h1.aK hk (hS _ (.inr (.inr (.inr (.inr (.inr (.inr rfl))))))),fun y=>?_⟩;obtain⟨l,h3,h4⟩:=h2 y;exact⟨l,h3.aK hk (fun k e=>hS k (.inr (.inr (.inl e)))),h4⟩
 ml:=h.ml
 W:=h.W
 gt:=h.gt
 to:=h.to
 fd:=h.fd
 od:=h.od
 ne:=h.ne
 low:=fun k e=>Nat.lt_of_lt_of_le (h.low k e) hk.size
theorem XV.same(h:XV w F x D P m)(hk:Kept Nil w w'):XV w' F x D P m:=h.aK hk (fun _ _ h=>h) (fun _ _ h=>h)
theorem zO.aK{S0:Nat->Prop}(h:zO w S F x D P)(hk:Kept S0 w w')(hS:∀k,S k->¬S0 k)(hF:∀k,F k->¬S0 k):zO w' S F x D P:=
 let ⟨m,h1,h2⟩:=h;⟨m,h1.aK hk (fun k e=>hS k (h2 k e)) hF,h2⟩
theorem zO.same(h:zO w S F x D P)(hk:Kept Nil w w'):zO w' S F x D P:=h.aK hk (fun _ _ h=>h) (fun _ _ h=>h)
theorem XV.c0(h:XV w F x D P m):w.cell? ((⟨x,0,none⟩:Addr).add 0)=some (.pointer (some ⟨m.g,0,none⟩)):=by rw [bu,aD h.top];rfl
theorem XV.c1(h:XV w F x D P m):w.cell? ((⟨x,0,none⟩:Addr).add 1)=some (.pointer (some ⟨m.t,0,none⟩)):=by rw [bu,aD h.top];rfl
theorem XV.c2(h:XV w F x D P m):w.cell? ((⟨x,0,none⟩:Addr).add 2)=some (.map (some m.mb)):=by rw [bu,aD h.top];rfl
theorem XV.c3(h:XV w F x D P m):w.cell? ((⟨x,0,none⟩:Addr).add 3)=some (.slice (some ⟨m.ib,0,none⟩) D.length m.ic):=by rw [bu,aD h.top];rfl
theorem XV.c4(h:XV w F x D P m):w.cell? ((⟨x,0,none⟩:Addr).add 4)=some (.map (some m.cb)):=by rw [bu,aD h.top];rfl
theorem XV.JA(h:XV w F x D P m):m.T.length=D.length:=by
 have:=Tr.dG m.T;rw [h.bG,h.ml.len]at this;exact this.symm
theorem XV.mY(h:XV w F x D P m){i k:Nat}{id kd:Tr.Nd}(hi:m.T[i]? =some id)(hk:m.T[k]? =some kd):decide (kd.lo<=id.lo/\id.hi<=kd.hi)=true↔jg P i k:=by
 rw [decide_eq_true_iff,<-h.bG];exact h.HG.under hi hk
theorem AK(a b:HT):a.1.toList++(b.1.toList++ [])=cD [a,b]:=by simp [cD]
theorem qM(h:XV w F x D P m)(hK:K (.bool true) w):bm prog dN.id #[.pointer (some ⟨x,0,none⟩)] w K:=
 dN.of (Split.yes rfl ⟨_,h.c0,hK⟩)
theorem vI{xb:Nat}(h:XV w F x D P m)(hg:w.heap[xb]? =some (.cells #[.pointer (some ⟨x,0,none⟩)] eZ (0,0))){A:Option Addr}{n cx:Nat}{l:List HT}(hl:HS w A n l)(hn:n<=400000)
 (hK:∀w' (b:Bool),(b=true↔∃p∈l,p∉ids D)->Kept Nil w w'->K (.bool b) w'):
 bm prog c9.id #[.slice A n cx,.func (.func cU.id) #[] #[.pointer (some ⟨xb,0,none⟩)]] w K:=by
 have hlen:=hl.len;refine bN.of (ar.of ?_);refine ar.cf (I:=fun s w'=>∃i:Nat,s=(0,(i:Int))/\i<=n/\(∀p∈l.take i,p∈ids D)/\Kept Nil w w') (μ:=fun s _=>((n:Int)-s.2).toNat) (s:=(0,0)) ⟨0,rfl,Nat.zero_le _,by simp,Kept.refl _ _⟩ ?_;rintro s w' ⟨i,rfl,hi,cP,kw⟩;refine Split.dec (fun lH=>?_) (fun iK=>?_)
 ·simp only at lH
  have fg:i<n:=by omega
  obtain⟨y,hy⟩:∃y,l[i]? =some y:=⟨_,List.getElem?_eq_getElem (by omega)⟩;refine(hl.same kw).load (i:=(i:Int)) (by omega) hy ?_;refine cU.of ?_;unfold cU.W;intro w3 w4;have k3:Kept Nil w' w3:=(Kept.refl _ _).alloc _;have o5:w3.heap[w'.heap.size]? =some (.cells y.1 ax (0,0)):=aR w' _;have k4:Kept Nil w3 w4:=(Kept.refl _ _).drew;clear_value w4;have AO:=k4.heap o5 (fun h=>h);have Gz:=(kw.tt k3).tt k4;obtain⟨bl,c,mb,M,G⟩:=(h.same Gz).G;refine⟨some ⟨x,0,none⟩,by rw [aD (Gz.heap hg (fun h=>h))];rfl,_,(h.same Gz).c0,y.1,⟨y.2.1,Cells.bS AO⟩,pV G y fun w7 k7=>⟨_,rfl,_,rfl,?_⟩⟩;have DU:=Gz.tt k7;by_cases hm:y∈ids D
  ·refine Split.no (by rw [decide_eq_true hm];rfl) ?_
   simp only;rw [eK (n:=(i:Int)) (by omega) (by omega)];refine⟨(0,(i:Int)+1),rfl,⟨i+1,rfl,fg,fun p hp=>?_,DU⟩,by simp only;omega⟩;rcases(bI hy).1 hp with hp|rfl
   ·exact cP p hp
   ·exact hm
  ·refine Split.yes (by rw [decide_eq_false hm];rfl) ?_
   refine⟨(i:Int),rfl,?_⟩;exact hK w7 _ ⟨fun _=>⟨y,List.mem_of_getElem? hy,hm⟩,fun _=>decide_eq_true (by omega)⟩ DU
 ·simp only at iK
  rw [aY,ar.dB];rw [List.take_of_length_le (by omega)]at cP;exact⟨-1,rfl,hK w' _ ⟨fun h=>absurd (of_decide_eq_true h) (by omega),fun⟨p,hp,hn⟩=>absurd (cP p hp) hn⟩ kw⟩
theorem om(h:XV w F x D P m){A:Option Addr}{n cx:Nat}{l:List HT}(hl:HS w A n l)(hn:n<=400000)(hK:∀w',Kept Nil w w'->K (.bool (decide (∀p∈l,p∈ids D))) w'):
 bm prog dV.id #[.pointer (some ⟨x,0,none⟩),.slice A n cx] w K:=by
 refine dV.of ?_;unfold dV.W;intro w3;have k3:Kept Nil w w3:=(Kept.refl _ _).alloc _;have o5:w3.heap[w.heap.size]? =some (.cells #[.pointer (some ⟨x,0,none⟩)] eZ (0,0)):=aR w _;clear_value w3;refine⟨_,by rw [aD o5];rfl,qM (h.same k3) ⟨true,rfl,Split.yes rfl ?_⟩⟩;refine vI (h.same k3) o5 (hl.same k3) hn fun w9 b hb k9=>⟨b,rfl,?_⟩;have:(!b)=decide (∀p∈l,p∈ids D):=by
  rw [Bool.eq_iff_iff,decide_eq_true_iff,Bool.not_eq_true',<-Bool.not_eq_true,hb];constructor
  ·exact fun hn p hp=>Classical.byContradiction fun hc=>hn ⟨p,hp,hc⟩
  ·rintro ha ⟨p,hp,hc⟩;exact hc (ha p hp)
 rw [this];exact hK w9 (k3.tt k9)
theorem qO(h:XV w F x D P m)(a b:HT)(hK:∀w' (r:Bool),(r=true↔Ch D P a b)->Kept Nil w w'->K (.bool r) w'):
 bm prog dp.id #[.pointer (some ⟨x,0,none⟩),.agg a.1,.agg b.1] w K:=by
 refine dp.of ?_;unfold dp.W;intro w4 w5 w6;have k4:Kept Nil w w4:=(Kept.refl _ _).alloc _;have QA:w4.heap[w.heap.size]? =some (.cells a.1 ax (0,0)):=aR w _;have k5:Kept Nil w4 w5:=(Kept.refl _ _).alloc _;have vD:w5.heap[w4.heap.size]? =some (.cells b.1 ax (0,0)):=aR w4 _;have k6:Kept Nil w5 w6:=(Kept.refl _ _).drew;clear_value w6;have zc:=(k5.tt k6).heap QA (fun h=>h);have pQ:=k6.heap vD (fun h=>h);have qw:=(k4.tt k5).tt k6;refine⟨a.1,⟨a.2.1,Cells.bS zc⟩,b.1,⟨b.2.1,Cells.bS pQ⟩,a.2.1,b.2.1,?_⟩;intro w9;have k9:Kept Nil w6 w9:=(Kept.refl _ _).alloc _;have hx9:HS w9 (some ⟨w6.heap.size,0,none⟩) 2 [a,b]:=HS.lay (l:= [a,b]) (t:=ax) (by rw [<-AK a b];exact aR w6 _);clear_value w9;have Ed:=qw.tt k9;refine om (h.same Ed) hx9 (by omega) fun Bk Oc=>⟨_,rfl,?_⟩;have Kg:=Ed.tt Oc;have FY:=h.same Kg;by_cases cP:∀p∈ [a,b],p∈ids D
 ·refine Split.yes (decide_eq_true cP) ?_
  obtain⟨na,KP,ea⟩:=dz.1 (cP a (by simp));obtain⟨nb,KO,eb⟩:=dz.1 (cP b (by simp));obtain⟨k,hk⟩:=List.mem_iff_getElem?.1 KP;obtain⟨i,hi⟩:=List.mem_iff_getElem?.1 KO;have CZ:=(lgeS hk).1;have fg:=(lgeS hi).1;have Ub:=h.JA;obtain⟨kd,Pz⟩:=Tr.eR (T:=m.T) (i:=k) (by omega);obtain⟨nd,gL⟩:=Tr.eR (T:=m.T) (i:=i) (by omega);have NS:=k9.tt Oc;have l1:=FY.at_.uL b;have l2:=FY.at_.uL a;rw [<-eb,h.W.pos_eq hi]at l1;rw [<-ea,h.W.pos_eq hk]at l2;rw [eb]at l1;rw [ea]at l2;refine⟨_,FY.c1,_,FY.c2,b.1,⟨b.2.1,Cells.bS (NS.heap pQ (fun h=>h))⟩,_,l1,_,FY.c2,a.1,⟨a.2.1,Cells.bS (NS.heap zc (fun h=>h))⟩,_,l2,?_⟩;refine Tr.yn FY.T gL Pz fun kr rv=>⟨_,rfl,hK kr _ ?_ (Kg.tt rv)⟩;rw [h.mY gL Pz];constructor
  ·exact fun hu=>⟨i,k,nb,na,hi,eb,hk,ea,hu⟩
  ·rintro⟨i',k',ni,nk,h1,h2,h3,h4,h5⟩
   have e1:=h.W.inj h1 hi (by rw [h2,eb]);have e2:=h.W.inj h3 hk (by rw [h4,ea]);rw [<-e1,<-e2];exact h5
 ·refine Split.no (decide_eq_false cP) (hK Bk false ⟨(fun e=>by cases e),fun e=>absurd (fun p hp=>?_) cP⟩ Kg)
  simp only [List.mem_cons,List.not_mem_nil,or_false]at hp;rcases hp with rfl|rfl
  ·exact e.mem.1
  ·exact e.mem.2
theorem tl{xb bb:Nat}{b:HT}(h:XV w F x D P m)(hg:w.heap[xb]? =some (.cells #[.pointer (some ⟨x,0,none⟩)] eZ (0,0)))(hb:w.heap[bb]? =some (.cells b.1 ax (0,0))){A:Option Addr}{n cx:Nat}{l:List HT}(hl:HS w A n l)(hn:n<=400000)
 (hK:∀w' (r:Bool),(r=true↔∃c∈l,Ch D P c b)->Kept Nil w w'->K (.bool r) w'):
 bm prog c9.id #[.slice A n cx,.func (.func cr.id) #[] #[.pointer (some ⟨xb,0,none⟩),.pointer (some ⟨bb,0,none⟩)]] w K:=by
 have hlen:=hl.len;refine bJ.of (al.of ?_);refine al.cf (I:=fun s w'=>∃i:Nat,s=(0,(i:Int))/\i<=n/\(∀p∈l.take i,¬Ch D P p b)/\Kept Nil w w') (μ:=fun s _=>((n:Int)-s.2).toNat) (s:=(0,0)) ⟨0,rfl,Nat.zero_le _,by simp,Kept.refl _ _⟩ ?_;rintro s w' ⟨i,rfl,hi,cP,kw⟩;refine Split.dec (fun lH=>?_) (fun iK=>?_)
 ·simp only at lH
  have fg:i<n:=by omega
  obtain⟨y,hy⟩:∃y,l[i]? =some y:=⟨_,List.getElem?_eq_getElem (by omega)⟩;refine(hl.same kw).load (i:=(i:Int)) (by omega) hy ?_;refine cr.of ?_;unfold cr.W;intro w4;have k4:Kept Nil w' w4:=(Kept.refl _ _).alloc _;have AO:w4.heap[w'.heap.size]? =some (.cells y.1 ax (0,0)):=aR w' _;clear_value w4;have Gz:=kw.tt k4;refine⟨some ⟨x,0,none⟩,by rw [aD (Gz.heap hg (fun h=>h))];rfl,y.1,⟨y.2.1,Cells.bS AO⟩,b.1,⟨b.2.1,Cells.bS (Gz.heap hb (fun h=>h))⟩,qO (h.same Gz) y b fun w7 r hr k7=>⟨r,rfl,r,rfl,?_⟩⟩;have DU:=Gz.tt k7;cases r with
  |false=>
   refine Split.no rfl ?_;simp only;rw [eK (n:=(i:Int)) (by omega) (by omega)];refine⟨(0,(i:Int)+1),rfl,⟨i+1,rfl,fg,fun p hp hc=>?_,DU⟩,by simp only;omega⟩;rcases(bI hy).1 hp with hp|rfl
   ·exact cP p hp hc
   ·cases hr.2 hc
  |true=>
   refine Split.yes rfl ⟨(i:Int),rfl,?_⟩;exact hK w7 _ ⟨fun _=>⟨y,List.mem_of_getElem? hy,hr.1 rfl⟩,fun _=>decide_eq_true (by omega)⟩ DU
 ·simp only at iK
  rw [aY,al.dB];rw [List.take_of_length_le (by omega)]at cP;exact⟨-1,rfl,hK w' _ ⟨fun h=>absurd (of_decide_eq_true h) (by omega),fun⟨p,hp,hn⟩=>absurd hn (cP p hp)⟩ kw⟩
theorem jo(h:XV w F x D P m)(hD:D.length<=5000)(a b:HT)(hK:∀w' (r:Bool),(r=true↔fG D a b)->Kept Nil w w'->K (.bool r) w'):
 bm prog dc.id #[.pointer (some ⟨x,0,none⟩),.agg a.1,.agg b.1] w K:=by
 refine dc.of ?_;unfold dc.W;intro w4 w5 w6;have k4:Kept Nil w w4:=(Kept.refl _ _).alloc _;have hx4:w4.heap[w.heap.size]? =some (.cells #[.pointer (some ⟨x,0,none⟩)] eZ (0,0)):=aR w _;have k5:Kept Nil w4 w5:=(Kept.refl _ _).alloc _;have Wj:w5.heap[w4.heap.size]? =some (.cells a.1 ax (0,0)):=aR w4 _;have k6:Kept Nil w5 w6:=(Kept.refl _ _).alloc _;have pQ:w6.heap[w5.heap.size]? =some (.cells b.1 ax (0,0)):=aR w5 _;clear_value w6;have zc:=k6.heap Wj (fun h=>h);have GX:=(k5.tt k6).heap hx4 (fun h=>h);have qw:=(k4.tt k5).tt k6;refine⟨_,by rw [aD GX];rfl,a.1,⟨a.2.1,Cells.bS zc⟩,b.1,⟨b.2.1,Cells.bS pQ⟩,a.2.1,b.2.1,?_⟩;intro w10;have tV:Kept Nil w6 w10:=(Kept.refl _ _).alloc _;have G4:HS w10 (some ⟨w6.heap.size,0,none⟩) 2 [a,b]:=HS.lay (l:= [a,b]) (t:=ax) (by rw [<-AK a b];exact aR w6 _);clear_value w10;have yN:=qw.tt tV;refine om (h.same yN) G4 (by omega) fun pg FC=>⟨_,rfl,?_⟩;have Kf:=yN.tt FC;have JU:=tV.tt FC;by_cases cP:∀p∈ [a,b],p∈ids D
 ·refine Split.no (by rw [decide_eq_true cP];rfl) ?_
  have Wk:=JU.heap zc (fun h=>h);have We:=JU.heap pQ (fun h=>h);refine⟨a.1,⟨a.2.1,Cells.bS Wk⟩,b.1,⟨b.2.1,Cells.bS We⟩,⟨a.2.ints,b.2.ints⟩,?_⟩;rw [gB];refine Split.dec (fun he=>?_) (fun he=>?_)
  ·subst he
   exact hK pg false ⟨(fun e=>by cases e),fun e=>absurd e (fG.irrefl h.W a)⟩ Kf
  ·intro lr
   have tT:Kept Nil pg lr:=(Kept.refl _ _).drew;clear_value lr;have Oe:=Kf.tt tT;have GK:=JU.tt tT;refine⟨_,by rw [aD (GK.heap GX (fun h=>h))];rfl,a.1,⟨a.2.1,Cells.bS (GK.heap zc (fun h=>h))⟩,b.1,⟨b.2.1,Cells.bS (GK.heap pQ (fun h=>h))⟩,?_⟩;refine qO (h.same Oe) a b fun wa r hr D7=>⟨r,rfl,?_⟩;have Kc:=Oe.tt D7;have GJ:=GK.tt D7;cases r with
   |true=>exact Split.yes rfl (hK wa true ⟨fun _=>(Fm h.W h.ml he).2 (.inl (hr.1 rfl)),fun _=>rfl⟩ Kc)
   |false=>
    refine Split.no rfl ?_;have WL:=h.same Kc;obtain⟨f,hf,IU⟩:=WL.Su;obtain⟨l,hl,jX⟩:=IU a;have AF:=hf.look vn a;have fin:∀ {A:Option Addr} {n c:Nat},(f a).getD (.slice none 0 0)=.slice A n c->HS wa A n l->n<=D.length->
     bm prog c9.id #[.slice A n c,.func (.func cr.id) #[] #[.pointer (some ⟨w.heap.size,0,none⟩),.pointer (some ⟨w5.heap.size,0,none⟩)]] wa fun v28 SL=>∃t:Bool,v28=.bool t/\K (.bool t) SL:=fun _ hs hn=>
     tl WL (GJ.heap GX (fun h=>h)) (GJ.heap pQ (fun h=>h)) hs (by omega) fun tK r2 lg Mh=>⟨r2,rfl,hK tK r2 (by
      rw [lg,Fm h.W h.ml he];constructor
      ·rintro⟨c,h1,h2⟩;exact .inr ⟨c,(jX c).1 h1,h2⟩
      ·rintro(h1|⟨c,h1,h2⟩)
       ·cases hr.2 h1
       ·exact⟨c,(jX c).2 h1,h2⟩) (Kc.tt Mh)⟩
    refine⟨some ⟨x,0,none⟩,by rw [aD (GJ.heap GX (fun h=>h))];rfl,_,WL.c4,a.1,⟨a.2.1,Cells.bS (GJ.heap zc (fun h=>h))⟩,?_⟩;rcases hl with⟨h1,rfl⟩|⟨A,n,c,h1,h2,h3,h4,h5⟩
    ·rw [h1]at AF
     exact⟨none,0,0,AF,fin (by rw [h1];rfl) (HS.nil _ _) (by omega)⟩
    ·rw [h1]at AF
     exact⟨A,n,c,AF,fin (by rw [h1];rfl) h3 h4⟩
 ·refine Split.yes (by rw [decide_eq_false cP];rfl) (hK pg false ⟨(fun e=>by cases e),fun e=>absurd (fun p hp=>?_) cP⟩ Kf)
  simp only [List.mem_cons,List.not_mem_nil,or_false]at hp;rcases hp with rfl|rfl
  ·exact(e.mem h.W).1
  ·exact(e.mem h.W).2
end
end Go.Proofs.YtfleamccglihoaaGreatDoor
namespace Go.Proofs.YtfleamccglihoaaGreatDoor
open Go.Proofs.Tryz
open Go Go.bE Go.RowKit
section
variable{w w':World}{K:Value->World->Prop}
theorem u7{A:Option Addr}{n c:Nat}(Cf:n<=c)(hK:K (.slice A n n) w):bm prog cJ.id #[.slice A n c] w K:=by
 refine cJ.of ⟨⟨by omega,by omega⟩,⟨by omega,by simp⟩,?_⟩;have e:(if(n:Int).toNat=0 then A else A.map (·.add (0*32)))=A:=by
  split
  ·rfl
  ·cases A with
   |none=>rfl
   |some a=>simp [add_zero]
 rw [e];simpa using hK
theorem uc{A:Option Addr}{n c:Nat}{l:List HT}(h:HT)(hl:HS w A n l)(hn:n<=1000000)(hK:∀w',Kept Nil w w'->K (.bool (decide (h∈l))) w'):
 bm prog b7.id #[.slice A n c,.agg h.1] w K:=by
 have hlen:=hl.len;refine b7.of ?_;unfold b7.W;intro w3;have k3:Kept Nil w w3:=(Kept.refl _ _).alloc _;have o5:w3.heap[w.heap.size]? =some (.cells h.1 ax (0,0)):=aR w _;clear_value w3;refine⟨h.1,⟨h.2.1,Cells.bS o5⟩,?_⟩;refine aI.of ?_;unfold aI.W;intro w4;have k4:Kept Nil w3 w4:=(Kept.refl _ _).alloc _;have AO:w4.heap[w3.heap.size]? =some (.cells h.1 ax (0,0)):=aR w3 _;clear_value w4;have lj:=k3.tt k4;refine aI.cf (I:=fun s w'=>∃i:Nat,s=(0,(i:Int))/\i<=n/\Kept Nil w4 w'/\h∉l.take i) (μ:=fun s _=>((n:Int)-s.2).toNat) (s:=(0,0)) ⟨0,rfl,Nat.zero_le _,Kept.refl _ _,by simp⟩ ?_;rintro s w' ⟨i,rfl,hi,kw,rN⟩;refine Split.dec (fun cK=>?_) (fun iK=>?_)
 ·simp only at cK
  have fg:i<n:=by omega
  obtain⟨y,hy⟩:∃y,l[i]? =some y:=⟨_,List.getElem?_eq_getElem (by omega)⟩;intro w9;have k9:Kept Nil w' w9:=(Kept.refl _ _).drew;clear_value w9;have TF:=kw.tt k9;have Ed:=lj.tt TF;refine⟨h.1,⟨h.2.1,Cells.bS (TF.heap AO (fun h=>h))⟩,?_⟩;refine(hl.same Ed).load (i:=(i:Int)) (by omega) hy ⟨⟨h.2.ints,y.2.ints⟩,?_⟩;rw [gB];refine Split.dec (fun he=>?_) (fun he=>?_)
  ·refine⟨(i:Int),rfl,?_⟩
   have:=hK w9 Ed;rw [decide_eq_true (by rw [he];exact List.mem_of_getElem? hy)]at this;rw [show decide ((i:Int)>=(0:Int))=true from decide_eq_true (by omega)];exact this
  ·simp only
   rw [iI (x:=(i:Int)+1) (by omega) (by omega)];refine⟨(0,(i:Int)+1),rfl,⟨i+1,rfl,fg,TF,?_⟩,by simp only;omega⟩;rw [List.take_add_one,hy];simp only [Option.toList_some,List.mem_append,List.mem_singleton,not_or];exact⟨rN,he⟩
 ·simp only at iK
  rw [aY,aI.dB];refine⟨-1,rfl,?_⟩;have:=hK w' (lj.tt kw);rw [List.take_of_length_le (by omega)]at rN;rw [decide_eq_false rN]at this;exact this
theorem vL{A:Option Addr}{n cx:Nat}{l:List HT}{h:HT}{b:Nat}(hl:HS w A n l)(hb:HS w (some ⟨b,0,none⟩) 1 [h])(hn:n<=100000):
 ∃A' c' w',(Builtin.append_ #[aW,aW] aW #[.slice A n n,.slice (some ⟨b,0,none⟩) 1 cx]).run prog w=.ok (.slice A' (n+1) c') w'/\
  HS w' A' (n+1) (l++ [h])/\n+1<=c'/\(∀a,A'=some a->w.heap.size<=a.block/\a.block<w'.heap.size)/\Kept Nil w w':=by
 have hlen:=hl.len;cases A with
 |none=>
  obtain⟨rfl,rfl⟩:=hl.none;obtain⟨A',c',w',hr,fW,hg,hbk⟩:=gz (cx:=cx) aW (cg.nil w w.heap.size) hb (by omega) (Nat.le_refl _);rw [Nat.zero_add]at hr fW;rw [List.nil_append]at fW;obtain⟨b',rfl⟩:=Row.some fW (by omega);have Cn:=Row.bS fW (k:=b') rfl;refine⟨some ⟨b',0,Option.none⟩,c',w',hr,cg.hs fW,?_,fun a ha=>?_,Kept.pR (Kept.refl _ _) hg (fun k hk=>by cases hk)⟩
  ·rcases Row.own fW with⟨h1,_⟩|⟨_,_,_,_,_,h1,_⟩
   ·cases h1
   ·exact h1
  ·cases ha
   obtain⟨h1,cur,h2⟩:=Cn;exact⟨h1,bf h2⟩
 |some a=>
  obtain⟨i,z,hi,hz,hs,FU,FD⟩:=nv.inf;have hr:=run_append_grow (P:=prog) (w:=w) aW aW ax i z nv.mY hi hz a n n (cD l) (by rw [dE,hs,hlen]) hl.cells ⟨b,0,Option.none⟩ 1 cx (cD [h]) (by rw [dE,hs];rfl) hb.cells (by omega) (by omega) (growslice_fits (by omega) (by rw [FU];omega));refine⟨_,_,_,hr,⟨by simp [hlen],fun j y hj=>⟨_,rfl,?_,?_⟩⟩,grownCap_ge _ _ _ _,fun a' zf=>?_,?_⟩
  ·have:=aR w.drew (.cells ((cD l).toArray++(cD [h]).toArray++Builtin.zeroCells z.cells (grownCap w (n+1) n ax-(n+1))) ax)
   exact bf this
  ·intro q v hq
   rw [bu,bu,Nat.zero_add];have hblk:=aR w.drew (.cells ((cD l).toArray++(cD [h]).toArray++Builtin.zeroCells z.cells (grownCap w (n+1) n ax-(n+1))) ax);have e:(w.drew.heap.size)=w.heap.size:=rfl;rw [e]at hblk;rw [aD hblk];have h1:=jA hj hq;rw [kQ]at h1;have cK:=(lgeS h1).1;rw [Array.getElem?_append_left (by simpa using cK)];simpa using h1
  ·cases zf
   have:=aR w.drew (.cells ((cD l).toArray++(cD [h]).toArray++Builtin.zeroCells z.cells (grownCap w (n+1) n ax-(n+1))) ax);exact⟨Nat.le_refl _,bf this⟩
  ·exact(Kept.refl Nil w).drew.alloc _
end
def gS(D:DG)(h s:HT)(l:List HT):Int:=if eA D h l=0 then(if s∈l then 0 else 2)else eA D h l
theorem p4{D:DG}{h:HT}{l:List HT}(e:eA D h l=0):mE D h l=D++ [⟨h,dh l⟩]:=by unfold mE;rw [if_pos e]
section
variable{w w':World}{S ST:Nat->Prop}{t:Nat}{T:List Tr.Nd}{d:Int}
theorem qG(h:Tr.nh w ST t T d):Tr.nh w (fun k=>ST k/\k<w.heap.size) t T d:=by
 obtain⟨b,c,L,h⟩:=h;refine⟨b,c,L,{h with gg:=⟨h.gg,h.lt⟩,fh:=⟨h.fh,?_⟩,oW:=fun i p hi=>?_}⟩
 ·obtain⟨A,m,hk⟩:=h.oW i p hi
  exact⟨A,m,{hk with jc:=fun k e=>⟨hk.jc k e,let ⟨_,_,hc⟩:=Row.bS hk.row e;bf hc⟩}⟩
 ·obtain⟨cur,hc⟩:=h.tz
  exact bf hc
end
section
variable{w w':World}{F:Nat->Prop}{x:Nat}{D:DG}{P:List Int}{m:XM}{K:Value->World->Prop}
theorem Fp{v:World}{hid s:HT}{S2 F2 SO2:Nat->Prop}{ps:List HT}{j:Nat}{mj:DN}{B9 sb:Nat}{b8:Int}{BP:Option Nat}{A7:Option Addr}{n7 c7:Nat}{i7:Int}{s1 s2:Nat}
 (h:XV w F x D P m) (hD:D.length<=5000) (hn:hid∉ids D) (gM:∀p∈ps,p∈ids D) (vv:SS ps) (hj:D[j]? =some mj) (hs:mj.id=s) (CS:s∈ps)
 (jr:v.heap[x]? =some (.cells #[.pointer (some ⟨m.g,0,none⟩),.pointer (some ⟨m.t,0,none⟩),.map (some m.mb),.slice (some ⟨m.ib,0,none⟩) D.length m.ic,.map (some m.cb)] dw (0,0)))
 (ac1:w.heap.size<=B9) (abZ:w.heap.size<=sb) (K2:v.heap[B9]? =some (.cells hid.1 ax (0,0))) (Ug:v.heap[sb]? =some (.cells s.1 ax (0,0)))
 (hG:Ba v S2 F2 m.g (D++ [⟨hid,ps⟩])) (hT:Tr.nh v m.ST m.t m.T m.d) (hat:IsMap v m.mb (ids D)) (fW:cg v 0 (some ⟨m.ib,0,none⟩) D.length m.ic (ids D))
 (Le:∃f,dX v m.cb f/\∀y,∃l,mM v SO2 (D.length+1) (f y) l/\∀c,c∈l↔Jj (D++ [⟨hid,ps⟩]) (P++ [(j:Int)]) y c)
 (CU:w.heap.size<=s1) (yT:s1<=s2) (G3:s2<=v.heap.size)
 (Mc:∀k,S2 k->(m.SG k\/w.heap.size<=k)/\k<s1) (Md:∀k,F2 k->(F k\/w.heap.size<=k)/\k<s1) (Ib:∀k,SO2 k->m.SO k\/(s2<=k/\k<v.heap.size))
 (kv:Kept (fun k=>m.jc x k) w v)
 (hK:∀u S' F',zO u S' F' x (D++ [⟨hid,ps⟩]) (P++ [(j:Int)])->Kept (fun k=>m.jc x k) w u->(∀k,S' k->m.jc x k\/w.heap.size<=k)->(∀k,F' k->F k\/w.heap.size<=k)->K (.int .i64 0) u):
 aA.LR (some ⟨x,0,none⟩) ⟨B9,0,none⟩ ⟨sb,0,none⟩ b8 BP A7 n7 c7 i7 i7 K v:=by
 have W:=h.W;have rD:=h.low;have tJ:=(lgeS hj).1;have Ub:=h.JA;have UJ:m.own x x:=.inl rfl;have O2:m.own x m.mb:=.inr (.inl rfl);have O3:m.own x m.ib:=.inr (.inr (.inl rfl));have rC:m.own x m.cb:=.inr (.inr (.inr rfl));obtain⟨Ma,Nq,JL,Np,L9,No⟩:=h.ne;unfold aA.LR;intro Bj;have tU:Kept Nil v Bj:=(Kept.refl _ _).drew;clear_value Bj;have c1:Bj.cell? ((⟨x,0,none⟩:Addr).add 1)=some (.pointer (some ⟨m.t,0,none⟩)):=by rw [bu,aD (tU.heap jr (fun h=>h))];rfl
 have c2:Bj.cell? ((⟨x,0,none⟩:Addr).add 2)=some (.map (some m.mb)):=by rw [bu,aD (tU.heap jr (fun h=>h))];rfl
 have ER:=hat.aK tU (fun h=>h);have lk:=ER.uL s;rw [<-hs,W.pos_eq hj]at lk;rw [hs]at lk;refine⟨_,c1,_,c2,s.1,⟨s.2.1,Cells.bS (tU.heap Ug (fun h=>h))⟩,_,lk,?_⟩;have QE:=qG (hT.same tU);refine Tr.Dp QE h.HG (p:=j) (by omega) (by omega) ⟨h.dl.1,by have:=h.dl.2;omega⟩ fun Bi Rj T' d' QD hF' OT hd' B8 Wn=>⟨_,_,rfl,?_⟩;have aaL:=tU.size;have Mb:∀k,Rj k->m.ST k\/Bj.heap.size<=k:=fun k hk=>(Wn k hk).imp (fun h=>h.1) (fun h=>h);have nST:∀k,(m.ST k/\k<Bj.heap.size)->m.ST k:=fun k h=>h.1;have Jy:=B8.heap (tU.heap jr (fun h=>h)) (fun e=>(h.od x UJ).2.1 e.1);intro Dg;have B7:Kept Nil Bi Dg:=(Kept.refl _ _).drew;clear_value Dg;have Ds:=B7.heap Jy (fun h=>h);have AD:∀k,m.ST k->k<w.heap.size:=fun k e=>rD k (.inl (.inr (.inl e)));have lox:x<w.heap.size:=rD x (.inl (.inr (.inr (.inr UJ))));have aa1:m.mb<w.heap.size:=rD _ (.inl (.inr (.inr (.inr O2))));have aa2:m.ib<w.heap.size:=rD _ (.inl (.inr (.inr (.inr O3))));have Nz:m.cb<w.heap.size:=rD _ (.inl (.inr (.inr (.inr rC))));have sv:=kv.size;have AH:Dg.heap[B9]? =some (.cells hid.1 ax (0,0)):=B7.heap (B8.heap (tU.heap K2 (fun h=>h)) (fun e=>by have:=AD _ e.1;omega)) (fun h=>h);have ML:Dg.cell? ((⟨x,0,none⟩:Addr).add 2)=some (.map (some m.mb)):=by rw [bu,aD Ds];rfl
 have Ln:IsMap Dg m.mb (ids D):=(ER.aK B8 (fun e=>(h.od _ O2).2.1 e.1)).aK B7 (fun h=>h);obtain⟨Js,IA,Lm,Ob⟩:=Ln.put hn;rw [jG,<-Ub]at IA;refine⟨_,ML,hid.1,⟨hid.2.1,Cells.bS AH⟩,Js,IA,?_⟩;intro Bh;have Oa:Kept Nil Js Bh:=(Kept.refl _ _).drew;clear_value Bh;have vp:=Ob.trans Oa (fun _ _ h=>h.elim);have Dr:=vp.heap Ds (fun e=>Ma e);have c3:∀ {u:World},Kept Nil Bh u->u.cell? ((⟨x,0,none⟩:Addr).add 3)=some (.slice (some ⟨m.ib,0,none⟩) D.length m.ic):=fun k=>by rw [bu,aD (k.heap Dr (fun h=>h))];rfl
 have Hh:=vp.heap AH (fun e=>by omega);refine⟨_,_,_,c3 (Kept.refl _ _),hid.1,⟨hid.2.1,Cells.bS Hh⟩,hid.2.1,?_⟩;intro we;have GQ:Kept Nil Bh we:=(Kept.refl _ _).alloc _;have Qw:HS we (some ⟨Bh.heap.size,0,none⟩) 1 [hid]:=ln Bh hid;clear_value we;have Aw:=vp.trans GQ (fun _ _ h=>h.elim);have JG:cg we 0 (some ⟨m.ib,0,none⟩) D.length m.ic (ids D):=
  Row.aK (Row.aK (Row.aK (Row.aK fW tU (fun _ _ h=>h)) B8 (fun k e e'=>by cases e;exact(h.od _ O3).2.1 e'.1)) B7 (fun _ _ h=>h)) Aw (fun k e e'=>by cases e;exact Np e'.symm)
 obtain⟨A',c',Bg,OL,yx,PW,Qv⟩:=gz (cx:=1) aW JG Qw (by omega) (Nat.zero_le _);have Ka:Kept (· =m.ib) we Bg:=Kept.grown (Kept.refl _ _) PW (fun k e _=>by cases e;rfl);obtain⟨xZ,rfl⟩:=Row.some yx (by omega);have Hi:xZ=m.ib\/we.heap.size<=xZ:=by
  rcases Qv xZ rfl with e|e
  ·left;simpa [bp]using e.symm
  ·exact .inr e
 have Dq:=Ka.heap (GQ.heap Dr (fun h=>h)) (fun e=>Nq e);refine⟨c3 GQ,some ⟨xZ,0,none⟩,_,c',Bg,OL,Is.mk rfl ⟨?_,?_⟩⟩
 ·rw [bu]
  exact dL Dq (by simp)
 intro wc;have Q5:wc=Bg.setCell ⟨x,3,none⟩ (.slice (some ⟨xZ,0,none⟩) (D.length+1) c'):=by
  show Bg.setCell ((⟨x,0,none⟩:Addr).add 3) _=_
  rw [bu]
 have J0:Kept (· =x) Bg wc:=by rw [Q5];exact Kept.setCell (S:=fun k=>k=x) (Kept.refl _ Bg) (p:=⟨x,3,none⟩) (fun _=>rfl) _
 have Jx:wc.heap[x]? =some (.cells #[.pointer (some ⟨m.g,0,none⟩),.pointer (some ⟨m.t,0,none⟩),.map (some m.mb),.slice (some ⟨xZ,0,none⟩) (D.length+1) c',.map (some m.cb)] dw (0,0)):=by
  rw [Q5,cY Dq 3];rfl
 clear_value wc;have aaK:=B8.size;have aaJ:=B7.size;have aaI:=Aw.size;have aaH:=Ka.size;have aaG:=J0.size;have kC:Kept (fun k=>k=m.ib\/k=x) Js wc:=(((Oa.tt GQ).mono (S':=fun k=>k=m.ib\/k=x) (fun _ _ h=>h.elim)).trans Ka (fun _ _ h=>.inl h)).trans J0 (fun _ _ h=>.inr h);have kB:Kept (fun k=>k=m.mb\/k=m.ib\/k=x) Bi wc:=((B7.mono (S':=fun k=>k=m.mb\/k=m.ib\/k=x) (fun _ _ h=>h.elim)).trans Ob (fun _ _ h=>.inl h)).trans kC (fun _ _ h=>.inr h);have kA:Kept (fun k=>m.ST k\/k=m.mb\/k=m.ib\/k=x) v wc:=((tU.mono (S':=fun k=>m.ST k\/k=m.mb\/k=m.ib\/k=x) (fun _ _ h=>h.elim)).trans B8 (fun _ _ h=>.inl h.1)).trans kB (fun _ _ h=>.inr h);have BO:∀k,(k=m.mb\/k=m.ib\/k=x)->m.own x k:=fun k e=>by
  rcases e with e|e|e
  ·exact .inr (.inl e)
  ·exact .inr (.inr (.inl e))
  ·exact .inl e
 have Gr:∀k,m.own x k->k<w.heap.size:=fun k e=>rD k (.inl (.inr (.inr (.inr e))));have Gv:∀k,m.SG k->k<w.heap.size:=fun k e=>rD k (.inl (.inl e));have DT:∀k,m.SO k->k<w.heap.size:=fun k e=>rD k (.inl (.inr (.inr (.inl e))));have nG:∀k,S2 k->¬(m.ST k\/k=m.mb\/k=m.ib\/k=x):=fun k h1 h2=>by
  obtain⟨h3,_⟩:=Mc k h1;rcases h2 with h2|h2
  ·rcases h3 with h3|h3
   ·exact(h.gt k h3).1 h2
   ·have:=AD k h2;omega
  ·have h4:=BO k h2
   rcases h3 with h3|h3
   ·exact(h.od k h4).1 h3
   ·have:=Gr k h4;omega
 have nF:∀k,F2 k->¬(m.ST k\/k=m.mb\/k=m.ib\/k=x):=fun k h1 h2=>by
  obtain⟨h3,_⟩:=Md k h1;rcases h2 with h2|h2
  ·rcases h3 with h3|h3
   ·exact(h.fd k h3).1 h2
   ·have:=AD k h2;omega
  ·have h4:=BO k h2
   rcases h3 with h3|h3
   ·exact(h.od k h4).2.2.2 h3
   ·have:=Gr k h4;omega
 have Tj:∀k,SO2 k->¬(m.ST k\/k=m.mb\/k=m.ib\/k=x):=fun k h1 h2=>by
  rcases Ib k h1 with h3|⟨h3,_⟩
  ·rcases h2 with h2|h2
   ·exact h.to k h2 h3
   ·exact(h.od k (BO k h2)).2.2.1 h3
  ·rcases h2 with h2|h2
   ·have:=AD k h2;omega
   ·have:=Gr k (BO k h2);omega
 have nT:∀k,(Rj k/\k<Bi.heap.size)->¬(k=m.mb\/k=m.ib\/k=x):=fun k h1 h2=>by
  have h4:=BO k h2;rcases Mb k h1.1 with h3|h3
  ·exact(h.od k h4).2.1 h3
  ·have:=Gr k h4;omega
 refine hK wc (fun k=>(S2 k\/(Rj k/\k<Bi.heap.size)\/SO2 k\/(k=x\/k=m.mb\/k=xZ\/k=m.cb))) F2 ⟨{m with ib:=xZ,ic:=c',T:=T',d:=d',SG:=S2,ST:=fun k=>Rj k/\k<Bi.heap.size,SO:=SO2},?_,fun k e=>e⟩ ?_ ?_ ?_
 ·refine⟨?_,hG.aK kA nG nF,(qG QD).aK kB nT,hF',?_,?_,?_,?_,?_,?_,?_,?_,?_,?_,?_,?_,?_⟩
  ·rw [List.length_append];exact Jx
  ·show Tr.bG T'=_
   rw [OT,h.bG]
  ·have:=h.dl
   simp only [List.length_append,List.length_singleton];show 0<=d'/\d'<=_
   omega
  ·rw [jM]
   exact Lm.aK kC (fun e=>e.elim (fun e=>Np e) (fun e=>Ma e.symm))
  ·rw [jM,List.length_append]
   refine Row.aK yx J0 (fun k e e'=>?_);have e1:xZ=k:=by simpa [bp]using e
   rcases Hi with e|e
   ·exact Nq (e'.symm.trans (e1.symm.trans e))
   ·omega
  ·obtain⟨f,hf,hc⟩:=Le
   refine⟨f,hf.aK kA (fun e=>?_),fun y=>?_⟩
   ·rcases e with e|e|e|e
    ·exact(h.od _ rC).2.1 e
    ·exact L9 e.symm
    ·exact No e.symm
    ·exact JL e.symm
   ·obtain⟨l,h1,h2⟩:=hc y
    refine⟨l,?_,h2⟩;rw [List.length_append];exact h1.aK kA Tj
  ·exact h.ml.snoc hj (by rw [hs];exact CS) W.pos
  ·exact W.snoc (nd:=⟨hid,ps⟩) hn gM vv
  ·intro k h1
   obtain⟨h3,h4⟩:=Mc k h1;refine⟨fun h2=>?_,fun h2=>?_⟩
   ·rcases Mb k h2.1 with h5|h5
    ·exact nG k h1 (.inl h5)
    ·omega
   ·rcases Ib k h2 with h5|h5
    ·rcases h3 with h3|h3
     ·exact(h.gt k h3).2 h5
     ·have:=DT k h5;omega
    ·omega
  ·intro k h1 h2
   rcases Mb k h1.1 with h5|h5
   ·exact Tj k h2 (.inl h5)
   ·rcases Ib k h2 with h6|h6
    ·have:=DT k h6;omega
    ·omega
  ·intro k h1
   obtain⟨h3,h4⟩:=Md k h1;refine⟨fun h2=>?_,fun h2=>?_⟩
   ·rcases Mb k h2.1 with h5|h5
    ·exact nF k h1 (.inl h5)
    ·omega
   ·rcases Ib k h2 with h5|h5
    ·rcases h3 with h3|h3
     ·exact(h.fd k h3).2 h5
     ·have:=DT k h5;omega
    ·omega
  ·intro k e
   have e':(k=m.mb\/k=m.ib\/k=x)\/(k=m.cb)\/(k=xZ/\we.heap.size<=xZ):=by
    rcases e with e|e|e|e
    ·exact .inl (.inr (.inr e))
    ·exact .inl (.inl e)
    ·rcases Hi with h5|h5
     ·exact .inl (.inr (.inl (e.trans h5)))
     ·exact .inr (.inr ⟨e,h5⟩)
    ·exact .inr (.inl e)
   have big:we.heap.size<=k->¬S2 k/\¬(Rj k/\k<Bi.heap.size)/\¬SO2 k/\¬F2 k:=fun hb=>
    ⟨fun h1=>by have:=(Mc k h1).2;omega,fun h1=>by have:=h1.2;omega,fun h1=>(Ib k h1).elim (fun h2=>by have:=DT k h2;omega) (fun h2=>by omega),fun h1=>by have:=(Md k h1).2;omega⟩
   rcases e' with e'|e'|⟨rfl,e'⟩
   ·exact⟨fun h1=>nG k h1 (.inr e'),fun h1=>nT k h1 e',fun h1=>Tj k h1 (.inr e'),fun h1=>nF k h1 (.inr e')⟩
   ·subst e'
    have AM:=h.od _ rC;refine⟨fun h1=>?_,fun h1=>?_,fun h1=>?_,fun h1=>?_⟩
    ·rcases(Mc _ h1).1 with h2|h2
     ·exact AM.1 h2
     ·omega
    ·rcases Mb _ h1.1 with h2|h2
     ·exact AM.2.1 h2
     ·omega
    ·rcases Ib _ h1 with h2|h2
     ·exact AM.2.2.1 h2
     ·omega
    ·rcases(Md _ h1).1 with h2|h2
     ·exact AM.2.2.2 h2
     ·omega
   ·exact big e'
  ·show x≠m.mb/\x≠xZ/\x≠m.cb/\m.mb≠xZ/\m.mb≠m.cb/\xZ≠m.cb
   rcases Hi with h5|h5
   ·rw [h5];exact⟨Ma,Nq,JL,Np,L9,No⟩
   ·exact⟨Ma,by omega,JL,by omega,L9,by omega⟩
  ·intro k e
   have hblk:=(Row.bS yx (k:=xZ) rfl).2;obtain⟨cur,vB⟩:=hblk;have lib:=bf vB;rcases e with e|e
   ·rcases e with e|e|e|e
    ·have:=(Mc k e).2;omega
    ·have:=e.2;omega
    ·rcases Ib k e with h2|h2
     ·have:=DT k h2;omega
     ·omega
    ·rcases e with e|e|e|e
     ·omega
     ·have e:k=m.mb:=e;omega
     ·have e:k=xZ:=e;omega
     ·have e:k=m.cb:=e;omega
   ·have:=(Md k e).2;omega
 ·refine kv.trans kA (fun k _ e=>?_)
  rcases e with e|e
  ·exact .inr (.inl e)
  ·exact .inr (.inr (.inr (BO k e)))
 ·intro k e
  rcases e with e|e|e|e
  ·exact(Mc k e).1.imp (fun h=>.inl h) (fun h=>h)
  ·rcases Mb k e.1 with h5|h5
   ·exact .inl (.inr (.inl h5))
   ·exact .inr (by omega)
  ·rcases Ib k e with h5|h5
   ·exact .inl (.inr (.inr (.inl h5)))
   ·exact .inr (by omega)
  ·rcases e with e|e|e|e
   ·exact .inl (.inr (.inr (.inr (.inl e))))
   ·exact .inl (.inr (.inr (.inr (.inr (.inl e)))))
   ·rcases Hi with h5|h5
    ·exact .inl (.inr (.inr (.inr (.inr (.inr (.inl (e.trans h5)))))))
    ·exact .inr (by omega)
   ·exact .inl (.inr (.inr (.inr (.inr (.inr (.inr e))))))
 ·exact fun k e=>(Md k e).1
end
section
variable{w w':World}{F S:Nat->Prop}{x:Nat}{D:DG}{P:List Int}{m:XM}{K:Value->World->Prop}
theorem CI{u v:World}{hid s:HT}{D':DG}{ps pl:List HT}{B9 ob i:Nat}{A7:Option Addr}{c7:Nat}{b8:Int}{sb:Addr}{f0:HT->Option Value}{Q:aM}{Rx:Option Nat}
 (h:XV w F x D P m) (hD:D.length<=5000) (hwu:w.heap.size<=u.heap.size)
 (jr:u.heap[x]? =some (.cells #[.pointer (some ⟨m.g,0,none⟩),.pointer (some ⟨m.t,0,none⟩),.map (some m.mb),.slice (some ⟨m.ib,0,none⟩) D.length m.ic,.map (some m.cb)] dw (0,0)))
 (K2:u.heap[B9]? =some (.cells hid.1 ax (0,0))) (acx:w.heap.size<=B9) (hold:dX u ob f0) (acu:w.heap.size<=ob) (UN:Rx=some ob)
 (Zt:∀y,(y=s\/fG D y s->f0 y=some (.agg #[.bool true]))/\(¬(y=s\/fG D y s)->f0 y=none))
 (yw:cg u w.heap.size A7 pl.length c7 pl) (rM:pl.length<=10000)
 (kv:Kept (· =m.cb) u v) (hi:i<=pl.length) {Z:HT->HT->Prop}
 (Le:∃f,dX v m.cb f/\∀y,∃l,mM v (fun k=>m.SO k\/(u.heap.size<=k/\k<v.heap.size)) (D.length+if y∈pl.take i then 1 else 0) (f y) l/\∀c,c∈l↔Jj D P y c\/(c=hid/\y∈pl.take i/\y≠s/\¬fG D y s)) (gL:pl.Nodup)
 (hQ:∀v',Kept (· =m.cb) u v'->(∃f,dX v' m.cb f/\∀y,∃l,mM v' (fun k=>m.SO k\/(u.heap.size<=k/\k<v'.heap.size)) (D.length+if y∈pl.take (i+1)then 1 else 0) (f y) l/\∀c,c∈l↔Jj D P y c\/(c=hid/\y∈pl.take (i+1)/\y≠s/\¬fG D y s))->i<pl.length->
   Q .normal (aA.e2 (some ⟨x,0,none⟩) ⟨B9,0,none⟩ sb b8 Rx A7 pl.length c7 (pl.length:Int) ((i:Int)+1)) v')
 (hE:i=pl.length->Q (.exit 3) (aA.e2 (some ⟨x,0,none⟩) ⟨B9,0,none⟩ sb b8 Rx A7 pl.length c7 (pl.length:Int) (i:Int)) v):
 aA.B2 (some ⟨x,0,none⟩) ⟨B9,0,none⟩ sb b8 Rx A7 pl.length c7 (pl.length:Int) (i:Int) Q v:=by
 subst UN;have UJ:m.own x x:=.inl rfl;have rC:m.own x m.cb:=.inr (.inr (.inr rfl));obtain⟨Ma,Nq,JL,Np,L9,No⟩:=h.ne;have Nz:m.cb<w.heap.size:=h.low _ (.inl (.inr (.inr (.inr rC))));have sv:=kv.size;unfold aA.B2;refine Split.dec (fun lH=>?_) (fun iK=>hE (by omega));have fg:i<pl.length:=by omega
 obtain⟨y,hy⟩:∃y,pl[i]? =some y:=⟨_,List.getElem?_eq_getElem fg⟩;have RL:y∉pl.take i:=fun hm=>by
  obtain⟨j,hj⟩:=List.mem_iff_getElem?.1 hm;rw [List.getElem?_take]at hj;split at hj
  ·rename_i cK
   have h1:=jz 0 j gL hj;rw [jz 0 i gL hy]at h1;simp only [Option.some.injEq]at h1;omega
  ·cases hj
 have JE:HS v A7 pl.length pl:=cg.hs (Row.aK yw kv (fun k hk e=>by have:=(Row.bS yw hk).1;omega));refine JE.load (i:=(i:Int)) (by omega) (by rw [Int.toNat_natCast];exact hy) ?_;intro w81;obtain⟨ry,jv,jf⟩:=gh (w:=v) (z:=(yQ 0)) (cs:=y.1) (t:=ax) (by rw [y.2.1];rfl);refine⟨⟨y.2.1,y.2.one,fun j hj=>ry j (by rw [y.2.1];exact hj)⟩,?_⟩;intro Jp
 replace jv:Jp.heap[v.heap.size]? =some (.cells y.1 ax (0,0)):=jv
 replace jf:Kept Nil v Jp:=jf
 clear_value Jp;have RG:Kept (· =m.cb) u Jp:=kv.trans jf (fun _ _ h=>h.elim);have KN:dX Jp ob f0:=hold.aK RG (fun e=>by omega);have lk:=KN.look DO y;obtain⟨f,hf,hc⟩:=Le;have P5:=hf.aK jf (fun h=>h);obtain⟨l,vC,FO⟩:=hc y;have Uh:=jf.size;have Je:∀ {v':World} {N N':Nat} {a:Option Value} {l:List HT},v.heap.size<=v'.heap.size->N<=N'->mM v' (fun k=>m.SO k\/(u.heap.size<=k/\k<v.heap.size)) N a l->mM v' (fun k=>m.SO k\/(u.heap.size<=k/\k<v'.heap.size)) N' a l:=fun hv hN xu=>by
  rcases xu with xu|⟨A,n,c,h1,h2,h3,h4,h5⟩
  ·exact .inl xu
  ·exact .inr ⟨A,n,c,h1,h2,h3,by omega,fun a ha=>(h5 a ha).imp (fun h=>h) (fun h=>⟨h.1,by omega⟩)⟩
 have Jf:∀ {v':World} {N:Nat} {a:Option Value} {l:List HT},Kept (· =m.cb) v v'->mM v (fun k=>m.SO k\/(u.heap.size<=k/\k<v.heap.size)) N a l->mM v' (fun k=>m.SO k\/(u.heap.size<=k/\k<v.heap.size)) N a l:=fun hk xu=>xu.aK hk (fun k mZ e=>by
  rcases mZ with h1|h1
  ·exact(h.od _ rC).2.2.1 (e▸h1)
  ·omega)
 refine⟨y.1,⟨y.2.1,Cells.bS jv⟩,?_⟩;by_cases iO:y=s\/fG D y s
 ·rw [(Zt y).1 iO]at lk
  refine⟨_,lk,true,rfl,Split.no rfl ?_⟩;rw [eK (n:=(i:Int)) (by omega) (by omega)];refine hQ Jp RG ⟨f,P5,fun z=>?_⟩ fg;obtain⟨lz,h1,h2⟩:=hc z;refine⟨lz,Je Uh (by
   by_cases hz:z∈pl.take i
   ·rw [if_pos hz,if_pos ((bI hy).2 (.inl hz))];exact Nat.le_refl _
   ·rw [if_neg hz];omega) (Jf (jf.mono (fun _ _ h=>h.elim)) h1),fun c=>?_⟩
  rw [h2,bI hy];constructor
  ·rintro(h3|⟨h3,h4,h5,h6⟩)
   ·exact .inl h3
   ·exact .inr ⟨h3,.inl h4,h5,h6⟩
  ·rintro(h3|⟨h3,h4|rfl,h5,h6⟩)
   ·exact .inl h3
   ·exact .inr ⟨h3,h4,h5,h6⟩
   ·exact absurd iO (fun e=>e.elim h5 h6)
 ·rw [(Zt y).2 iO]at lk
  refine⟨_,lk,false,rfl,Split.yes rfl ?_⟩;intro zT;have NO:Kept Nil Jp zT:=(Kept.refl _ _).drew;clear_value zT;have Tu:=jf.tt NO;have EJ:=NO.heap jv (fun h=>h);have q7:∀ {q:World},Kept Nil zT q->q.cell? ((⟨x,0,none⟩:Addr).add 4)=some (.map (some m.cb)):=fun k=>by
   rw [bu,aD (k.heap (NO.heap (RG.heap jr (fun e=>JL e)) (fun h=>h)) (fun h=>h))];rfl
  have mH:∀ {q:World},Kept Nil zT q->∃cs:Array Value,(.agg y.1:Value)=.agg cs/\cs.size=32/\Cells q (aU v.heap.size) cs:=fun k=>⟨y.1,rfl,y.2.1,Cells.bS (k.heap EJ (fun h=>h))⟩;have IQ:zT.heap[B9]? =some (.cells hid.1 ax (0,0)):=NO.heap (RG.heap K2 (fun e=>by omega)) (fun h=>h);have VI:∀ {q:World},Kept Nil zT q->∃cs:Array Value,(.agg hid.1:Value)=.agg cs/\cs.size=32/\Cells q (⟨B9,0,none⟩:Addr) cs:=fun k=>⟨hid.1,rfl,hid.2.1,Cells.bS (k.heap IQ (fun h=>h))⟩;have P4:=P5.aK NO (fun h=>h);obtain⟨A,n,c,fu,Cf,FJ,hnN⟩:∃(A:Option Addr) (n c:Nat),(f y).getD (.slice none 0 0)=.slice A n c/\n<=c/\HS v A n l/\n<=D.length:=by
   rcases vC with⟨h1,h2⟩|⟨A,n,c,h1,h2,h3,h4,_⟩
   ·exact⟨none,0,0,by rw [h1];rfl,Nat.le_refl _,by rw [h2];exact HS.nil _ _,by omega⟩
   ·rw [if_neg RL]at h4
    exact⟨A,n,c,by rw [h1];rfl,h2,h3,by omega⟩
  have X5:∀ {q:World},Kept Nil zT q->(Instr.lookup fL (.map (some m.cb)) (.agg y.1) false).run prog q=.ok (.slice A n c) q:=fun k=>by
   have:=(P4.aK k (fun h=>h)).look vn y;rw [fu]at this;exact this
  have fin:∀ {q:World} {bb:Nat},Kept Nil zT q->HS q (some ⟨bb,0,none⟩) 1 [hid]->
   ∃(A':Option Addr) (n' c':Nat) (q2:World),(Builtin.append_ #[aW,aW] aW #[.slice A n n,.slice (some ⟨bb,0,none⟩) 1 1]).run prog q=.ok (.slice A' n' c') q2/\(∃cs:Array Value,(.agg y.1:Value)=.agg cs/\cs.size=32/\Cells q2 (aU v.heap.size) cs)/\q2.cell? ((⟨x,0,none⟩:Addr).add 4)=some (.map (some m.cb))/\
    ∃q3:World,(Instr.mapUpdate fL (.map (some m.cb)) (.agg y.1) (.slice A' n' c')).run prog q2=.ok () q3/\Q .normal (aA.e2 (some ⟨x,0,none⟩) ⟨B9,0,none⟩ sb b8 (some ob) A7 pl.length c7 (pl.length:Int) (i64.wrap ((i:Int)+(1:Int)))) q3:=by
   intro q bb kq Cn;have Tt:=Tu.tt kq;obtain⟨A',c',q2,hr,yT,EI,oy,Yf⟩:=vL (cx:=1) (FJ.same Tt) Cn (by omega);have k2:=kq.tt Yf;obtain⟨q3,CX,hf3,k3⟩:=(P4.aK k2 (fun h=>h)).put vn y (.slice A' (n+1) c');refine⟨A',_,c',q2,hr,mH k2,q7 k2,q3,CX,?_⟩;rw [eK (n:=(i:Int)) (by omega) (by omega)];have NH:=Tt.tt Yf;have NF:Kept (· =m.cb) v q3:=(NH.mono (S':=(· =m.cb)) (fun _ _ h=>h.elim)).tt k3;have sq2:=NH.size;have sq3:=k3.size;have svq:=Tt.size;refine hQ q3 (kv.tt NF) ⟨_,hf3,fun z=>?_⟩ fg;by_cases hz:z=y
   ·subst hz
    refine⟨l++ [hid],.inr ⟨A',n+1,c',by simp,EI,yT.aK k3 (fun a ha e=>by have:=(oy a ha).1;omega),?_,fun a ha=>.inr ?_⟩,fun c=>?_⟩
    ·rw [if_pos ((bI hy).2 (.inr rfl))];omega
    ·have:=oy a ha;omega
    ·rw [List.mem_append,List.mem_singleton,FO,bI hy]
     constructor
     ·rintro((h3|⟨h3,h4,h5,h6⟩)|h3)
      ·exact .inl h3
      ·exact .inr ⟨h3,.inl h4,h5,h6⟩
      ·exact .inr ⟨h3,.inr rfl,fun e=>iO (.inl e),fun e=>iO (.inr e)⟩
     ·rintro(h3|⟨h3,h4,h5,h6⟩)
      ·exact .inl (.inl h3)
      ·exact .inr h3
   ·obtain⟨lz,h1,h2⟩:=hc z
    refine⟨lz,?_,fun c=>?_⟩
    ·simp only [hz,if_false]
     refine Je (by omega) ?_ (Jf NF h1);by_cases TM:z∈pl.take i
     ·rw [if_pos TM,if_pos ((bI hy).2 (.inl TM))];exact Nat.le_refl _
     ·rw [if_neg TM];omega
    ·rw [h2,bI hy]
     constructor
     ·rintro(h3|⟨h3,h4,h5,h6⟩)
      ·exact .inl h3
      ·exact .inr ⟨h3,.inl h4,h5,h6⟩
     ·rintro(h3|⟨h3,h4|h4,h5,h6⟩)
      ·exact .inl h3
      ·exact .inr ⟨h3,h4,h5,h6⟩
      ·exact absurd h4 hz
  refine⟨_,q7 (Kept.refl _ _),y.1,⟨y.2.1,Cells.bS EJ⟩,_,q7 (Kept.refl _ _),y.1,⟨y.2.1,Cells.bS EJ⟩,A,n,c,X5 (Kept.refl _ _),hid.1,⟨hid.2.1,Cells.bS IQ⟩,?_,⟨hid.2.1,?_⟩⟩
  ·refine u7 Cf ⟨A,n,n,rfl,VI (Kept.refl _ _),mH (Kept.refl _ _),q7 (Kept.refl _ _),hid.2.1,?_⟩
   intro Bl;have yL:Kept Nil zT Bl:=(Kept.refl _ _).alloc _;have Qy:HS Bl (some ⟨zT.heap.size,0,none⟩) 1 [hid]:=ln zT hid;clear_value Bl;exact⟨mH yL,q7 yL,fin yL Qy⟩
  ·intro Jt
   have xi:Kept Nil zT Jt:=(Kept.refl _ _).alloc _;have Qx:HS Jt (some ⟨zT.heap.size,0,none⟩) 1 [hid]:=ln zT hid;clear_value Jt;exact⟨X5 xi,mH xi,q7 xi,mH xi,q7 xi,u7 Cf ⟨A,n,n,rfl,mH xi,q7 xi,fin xi Qx⟩⟩
end
def rh(D:DG)(h s:HT)(l:List HT):DG:=if gS D h s l=0 then D++ [⟨h,dh l⟩]else D
def rf(D:DG)(P:List Int)(h s:HT)(l:List HT):List Int:=if gS D h s l=0 then P++ [(((pos s (ids D) 0).getD 0:Nat):Int)]else P
section
variable{w w':World}{F S:Nat->Prop}{x:Nat}{D:DG}{P:List Int}{m:XM}{K:Value->World->Prop}
theorem BL(h:XV w F x D P m)(hD:D.length<=5000)(hT:p6 w)(Lq:¬m.SG (Tryz.jh.g 1)){A:Option Addr}{n cx:Nat}{lp:List HT}(hl:HS w A n lp)(hn:n<=5000)(hid s:HT)
 (rN:∀v,Kept Nil w v->gS D hid s lp≠0->K (.int .i64 (gS D hid s lp)) v)
 (Ej:∀u S' F',zO u S' F' x (rh D hid s lp) (rf D P hid s lp)->Kept (fun k=>m.jc x k) w u->(∀k,S' k->m.jc x k\/w.heap.size<=k)->(∀k,F' k->F k\/w.heap.size<=k)->gS D hid s lp=0->K (.int .i64 0) u):
 bm prog aA.id #[.pointer (some ⟨x,0,none⟩),.agg hid.1,.agg s.1,.slice A n cx] w K:=by
 have hlen:=hl.len;have W:=h.W;refine aA.of ?_;unfold aA.W;intro w5 w6;have k5:Kept Nil w w5:=(Kept.refl _ _).alloc _;have PH:w5.heap[w.heap.size]? =some (.cells hid.1 ax (0,0)):=aR w _;have k6:Kept Nil w5 w6:=(Kept.refl _ _).alloc _;have Mp:w6.heap[w5.heap.size]? =some (.cells s.1 ax (0,0)):=aR w5 _;clear_value w6;have R4:=k6.heap PH (fun h=>h);have qw:=k5.tt k6;have s5:=k5.size;have l5:=bf PH;obtain⟨bl,c,mbg,M,G⟩:=h.G;have hG:∀ {v:World},Kept Nil w v->GV v m.SG F m.g D (fK D) bl c mbg M:=fun k=>G.same k;refine qM (h.same qw) ⟨true,rfl,Split.no rfl ⟨_,(h.same qw).c0,hid.1,⟨hid.2.1,Cells.bS R4⟩,?_⟩⟩;refine pV (hG qw) hid fun kz Mi=>⟨_,rfl,?_⟩;have GU:=qw.tt Mi;by_cases gM:hid∈ids D
 ·have e:gS D hid s lp=7:=by simp [gS,eA,gM]
  have:=rN kz GU (by rw [e];decide);rw [e]at this;exact Split.yes (decide_eq_true gM) this
 refine Split.no (decide_eq_false gM) ?_;by_cases h0:n=0
 ·have el:lp= []:=List.length_eq_zero_iff.1 (by omega)
  have e:gS D hid s lp=9:=by subst el;simp [gS,eA,gM,Gi]
  have:=rN kz GU (by rw [e];decide);rw [e]at this;exact Split.yes (by simp [h0]) this
 refine Split.no (by simp [h0]) ?_;refine fX (hl.same GU) (by omega) fun A17 c17 uw XL D9=>⟨A17,_,c17,rfl,?_⟩;have GR:=GU.tt D9;have fJ:lp≠ []:=fun e=>h0 (by rw [<-hlen,e];rfl);by_cases FJ:¬(dh lp).length=n
 ·have e:gS D hid s lp=9:=by
   have h1:(dh lp).length=0\/(dh lp).length≠lp.length:=.inr (by omega);have h2:eA D hid lp=9:=by unfold eA;rw [if_neg gM,if_pos h1]
   simp [gS,h2]
  have:=rN uw GR (by rw [e];decide);rw [e]at this;exact Split.yes (by simp only [bne_iff_ne,ne_eq];omega) this
 replace FJ:=Classical.not_not.1 FJ
 refine Split.no (by rw [FJ];simp) ?_;refine om (h.same GR) (hl.same GR) (by omega) fun Bf xY=>⟨_,rfl,?_⟩;have Ke:=GR.tt xY;have O9:¬((dh lp).length=0\/(dh lp).length≠lp.length):=by omega
 by_cases cP:¬∀p∈lp,p∈ids D
 ·have hex:∃p∈dh lp,p∉ids D:=Classical.byContradiction fun hc=>cP fun p hp=>Classical.byContradiction fun hq=>hc ⟨p,dJ.2 hp,hq⟩
  have e:gS D hid s lp=6:=by
   have:eA D hid lp=6:=by unfold eA;rw [if_neg gM,if_neg O9,if_pos hex]
   simp [gS,this]
  have:=rN Bf Ke (by rw [e];decide);rw [e]at this;exact Split.yes (by rw [decide_eq_false cP];rfl) this
 replace cP:=Classical.not_not.1 cP
 refine Split.no (by rw [decide_eq_true cP];rfl) ?_;have VP:¬∃p∈dh lp,p∉ids D:=fun⟨p,hp,hq⟩=>hq (cP p (dJ.1 hp));have eC:eA D hid lp=0:=by unfold eA;rw [if_neg gM,if_neg O9,if_neg VP]
 have NR:=(Mi.tt D9).tt xY;refine⟨s.1,⟨s.2.1,Cells.bS (NR.heap Mp (fun h=>h))⟩,?_⟩;refine uc s (hl.same Ke) (by omega) fun kr rv=>⟨_,rfl,?_⟩;have yM:=Ke.tt rv;by_cases Cb:¬s∈lp
 ·have e:gS D hid s lp=2:=by simp [gS,eC,Cb]
  have:=rN kr yM (by rw [e];decide);rw [e]at this;exact Split.yes (by rw [decide_eq_false Cb];rfl) this
 replace Cb:=Classical.not_not.1 Cb
 refine Split.no (by rw [decide_eq_true Cb];rfl) ?_;have eX:gS D hid s lp=0:=by simp [gS,eC,Cb]
 have GI:=NR.tt rv;obtain⟨mj,Pg,U2⟩:=dz.1 (cP s Cb);obtain⟨j,hj⟩:=List.mem_iff_getElem?.1 Pg;have eP:rf D P hid s lp=P++ [(j:Int)]:=by
  unfold rf;rw [if_pos eX,<-U2,W.pos_eq hj];rfl
 have eD:rh D hid s lp=D++ [⟨hid,dh lp⟩]:=by unfold rh;rw [if_pos eX]
 intro Be;have JY:Kept Nil kr Be:=(Kept.refl _ _).alloc _;have U7:dX Be kr.heap.size (fun _=>none):=dX.new kr;clear_value Be;have OE:=(GI.tt JY).heap Mp (fun h=>h);obtain⟨CQ,Uw,Pl,JW⟩:=U7.put DO s (.agg #[.bool true]);refine⟨s.1,⟨s.2.1,Cells.bS OE⟩,CQ,Uw,?_⟩;have ob0:w5.heap.size<kr.heap.size:=by have:=bf Mp;have:=GI.size;omega
 have Ui:=JW.heap OE (fun e=>by omega);refine⟨s.1,⟨s.2.1,Cells.bS Ui⟩,s.2.1,?_⟩;intro L7;have TI:Kept Nil CQ L7:=(Kept.refl _ _).alloc _;have TW:HS L7 (some ⟨CQ.heap.size,0,none⟩) 1 [s]:=ln CQ s;clear_value L7;have aaM:=yM.size;have D6:Kept Nil kr L7:=(JY.trans JW (fun k hk e=>by omega)).tt TI;have Kb:=yM.tt D6;refine ti (hG Kb) W (by omega) (hT.same Kb) TW (by omega) fun A32 Ra uv H3 Ii=>⟨A32,_,Ra,rfl,?_⟩;have TK:=Kb.tt Ii;have U6:dX uv kr.heap.size (fun z=>if z=s then some (.agg #[.bool true])else none):=(Pl.aK TI (fun h=>h)).aK Ii (fun h=>h);have p1:=pC D fun a=>∃z∈ [s],fG D a z
 change (eT D [s]).length<=_ at p1
 have XH:=D6.size;have ob1:=Pl.lt;have s30:=TI.size;have ID:∀y,y∈eT D [s]↔fG D y s:=fun y=>by
  unfold eT;rw [jL];constructor
  ·rintro⟨_,z,hz,e⟩
   rw [List.mem_singleton]at hz
   rwa [hz]at e
  ·exact fun e=>⟨(e.mem W).1,s,by simp,e⟩
 have aa6:∀k,k=kr.heap.size->¬k<w.heap.size:=fun k e=>by omega
 refine aA.cf (I:=fun i v=>∃(q:Nat) (f:HT->Option Value),i=(q:Int)/\q<=(eT D [s]).length/\dX v kr.heap.size f/\(∀y,(y=s\/y∈(eT D [s]).take q->f y=some (.agg #[.bool true]))/\(¬(y=s\/y∈(eT D [s]).take q)->f y=none))/\Kept (· =kr.heap.size) uv v)
  (μ:=fun i _=>(((eT D [s]).length:Int)-i).toNat) (s:=0) ⟨0,_,rfl,Nat.zero_le _,U6,fun y=>⟨fun e=>by
    rcases e with e|e
    ·rw [if_pos e]
    ·simp at e,fun e=>if_neg fun e'=>e (.inl e')⟩,Kept.refl _ _⟩ ?_
 rintro i v ⟨q,f,rfl,hq,Y5,K9,kv⟩;have vq:Kept Nil w v:=TK.trans kv (fun k hk e=>by omega);refine Split.dec (fun lH=>?_) (fun iK=>?_)
 ·have fg:q<(eT D [s]).length:=by omega
  obtain⟨y,hy⟩:∃y,(eT D [s])[q]? =some y:=⟨_,List.getElem?_eq_getElem fg⟩;have JE:=cg.hs (Row.aK H3 kv (fun k hk e=>by have:=(Row.bS H3 hk).1;omega));refine JE.load (i:=(q:Int)) (by omega) (by rw [Int.toNat_natCast];exact hy) ?_;intro HW;obtain⟨ry,jv,jf⟩:=gh (w:=v) (z:=(yQ 0)) (cs:=y.1) (t:=ax) (by rw [y.2.1];rfl);refine⟨⟨y.2.1,y.2.one,fun j hj=>ry j (by rw [y.2.1];exact hj)⟩,?_⟩;intro SV
  replace jv:SV.heap[v.heap.size]? =some (.cells y.1 ax (0,0)):=jv
  replace jf:Kept Nil v SV:=jf
  clear_value SV;obtain⟨De,KK,U4,RH⟩:=(Y5.aK jf (fun h=>h)).put DO y (.agg #[.bool true]);refine⟨y.1,⟨y.2.1,Cells.bS jv⟩,De,KK,?_⟩;rw [eK (n:=(q:Int)) (by omega) (by omega)];refine⟨(q:Int)+1,rfl,⟨q+1,_,rfl,fg,U4,fun z=>?_,(kv.trans jf (fun _ _ h=>h.elim)).tt RH⟩,by simp only;omega⟩;rw [bI hy];constructor
  ·intro e
   by_cases hz:z=y
   ·rw [if_pos hz]
   ·rw [if_neg hz]
    exact(K9 z).1 (e.imp (fun h=>h) (fun h=>h.resolve_right hz))
  ·intro e
   rw [if_neg (fun hz=>e (.inr (.inr hz)))];exact(K9 z).2 (fun e'=>e (e'.imp (fun h=>h) (fun h=>.inl h)))
 ·have UB:q=(eT D [s]).length:=by omega
  subst UB;rw [List.take_of_length_le (Nat.le_refl _)]at K9;rw [aY,aA.Jl];unfold aA.CK;have D5:Kept (· =kr.heap.size) kr v:=((D6.tt Ii).mono (S':=(· =kr.heap.size)) (fun _ _ h=>h.elim)).tt kv;have R3:v.heap[w.heap.size]? =some (.cells hid.1 ax (0,0)):=D5.heap (GI.heap R4 (fun h=>h)) (fun e=>by omega);have Ud:v.heap[w5.heap.size]? =some (.cells s.1 ax (0,0)):=D5.heap (GI.heap Mp (fun h=>h)) (fun e=>by omega);have sv:=vq.size;have s2v:=D5.size;refine⟨hid.1,⟨hid.2.1,Cells.bS R3⟩,?_⟩;refine HJ (hG vq) W (by omega) (hl.same vq) (by omega) hid fun CP S2 F2 QM BY Lr Sf=>⟨_,rfl,?_⟩;rw [p4 eC]at QM;have Gv:∀k,m.SG k->k<w.heap.size:=fun k e=>h.low k (.inl (.inl e));have s64:=BY.size;have K3:=BY.heap R3 (fun e=>by have:=Gv _ e;omega);have OD:=BY.heap Ud (fun e=>by have:=Gv _ e;omega);have U3:=Y5.aK BY (fun e=>by have:=Gv _ e;omega);refine⟨hid.1,⟨hid.2.1,Cells.bS K3⟩,hid.2.1,?_⟩;intro Dc;have Ie:Kept Nil CP Dc:=(Kept.refl _ _).alloc _;have TT:HS Dc (some ⟨CP.heap.size,0,none⟩) 1 [hid]:=ln CP hid;clear_value Dc;have Hg:∀p∈dh lp,p∈ids D:=fun p hp=>cP p (dJ.1 hp);have W':jZ (D++ [⟨hid,dh lp⟩]):=W.snoc (nd:=⟨hid,dh lp⟩) gM Hg (iL lp);obtain⟨bl',c',Nu,M',SB⟩:=QM;have JN:∀k,m.own x k->k<w.heap.size:=fun k e=>h.low k (.inl (.inr (.inr (.inr e))));have hTv:p6 CP:=(hT.same vq).aK BY Lq;refine ti (SB.same Ie) W' (by simp;omega) (hTv.same Ie) TT (by omega) fun A69 c69 zU DC NQ=>⟨A69,_,c69,rfl,?_⟩;have uO:=Ie.tt NQ;have XF:=uO.size;have p2:=pC (D++ [⟨hid,dh lp⟩]) fun a=>∃z∈ [hid],fG (D++ [⟨hid,dh lp⟩]) a z
  change (eT (D++ [⟨hid,dh lp⟩]) [hid]).length<=_ at p2
  rw [List.length_append,List.length_singleton]at p2;have yY:∀y,y∈eT (D++ [⟨hid,dh lp⟩]) [hid]↔fG (D++ [⟨hid,dh lp⟩]) y hid:=fun y=>by
   unfold eT;rw [jL];constructor
   ·rintro⟨_,z,hz,e⟩
    rw [List.mem_singleton]at hz
    rwa [hz]at e
   ·exact fun e=>⟨(e.mem W').1,hid,by simp,e⟩
  have mv:Kept (fun k=>m.SG k) w zU:=((vq.mono (S':=fun k=>m.SG k) (fun _ _ h=>h.elim)).tt BY).trans uO (fun _ _ h=>h.elim);have JM:∀k,m.own x k->¬m.SG k:=fun k e=>(h.od k e).1;have M5:=mv.heap h.top (JM _ (.inl rfl));have gL:(eT (D++ [⟨hid,dh lp⟩]) [hid]).Nodup:=(iL _).nodup;obtain⟨f0,VO,VQ⟩:=h.Su;have X0:∀k,m.own x k->¬(k=m.cb)\/k=m.cb:=fun k _=>(Classical.em _).symm;have rC:m.own x m.cb:=.inr (.inr (.inr rfl));have Nz:=JN _ rC;generalize rM:eT (D++ [⟨hid,dh lp⟩]) [hid]=pl at DC p2 yY gL⊢;refine aA.iN (I:=fun i u=>∃q:Nat,i=(q:Int)/\q<=pl.length/\Kept (· =m.cb) zU u/\∃f,dX u m.cb f/\∀y,∃l,mM u (fun k=>m.SO k\/(zU.heap.size<=k/\k<u.heap.size)) (D.length+if y∈pl.take q then 1 else 0) (f y) l/\∀c,c∈l↔Jj D P y c\/(c=hid/\y∈pl.take q/\y≠s/\¬fG D y s))
   (μ:=fun i _=>((pl.length:Int)-i).toNat) (s:=0) ⟨0,rfl,Nat.zero_le _,Kept.refl _ _,f0,VO.aK mv (JM _ rC),fun y=>?_⟩ ?_
  ·obtain⟨l,h1,h2⟩:=VQ y
   refine⟨l,?_,fun c=>?_⟩
   ·rcases h1.aK mv (fun k e e'=>(h.gt k e').2 e)with h3|⟨A,n,c,g1,g2,g3,g4,g5⟩
    ·exact .inl h3
    ·exact .inr ⟨A,n,c,g1,g2,g3,by omega,fun a ha=>.inl (g5 a ha)⟩
   ·rw [h2]
    simp
  ·rintro i u ⟨q,rfl,Mr,ku,IU⟩
   refine CI h hD mv.size M5 (uO.heap K3 (fun h=>h)) (Nat.le_refl _) ((U3.aK Ie (fun h=>h)).aK NQ (fun h=>h)) (by omega) rfl
    (fun y=>⟨fun e=>(K9 y).1 (e.imp (fun h=>h) (fun h=>(ID y).2 h)),fun e=>(K9 y).2 (fun e'=>e (e'.imp (fun h=>h) (fun h=>(ID y).1 h)))⟩)
    (Row.base DC (fun b hb=>by have:=(Row.bS DC hb).1;have:=Ie.size;omega)) (by omega) ku Mr (Z:=fun _ _=>True) IU gL (hid:=hid) (s:=s) (D':=D) (ps:= []) (fun v' kv' VH cK=>?_) (fun UB=>?_)
   ·exact⟨(q:Int)+1,rfl,⟨q+1,rfl,cK,kv',VH⟩,by simp only;omega⟩
   ·subst UB
    rw [aY];unfold aA.e2;rw [aA.SH];rw [List.take_of_length_le (Nat.le_refl _)]at IU;have DY:Kept (fun k=>m.SG k\/k=m.cb) w u:=(mv.mono (S':=fun k=>m.SG k\/k=m.cb) (fun _ _ h=>.inl h)).trans ku (fun _ _ h=>.inr h);have su:=ku.size;obtain⟨Ma,Nq,JL,Np,L9,No⟩:=h.ne;have aaZ:∀k,F k->k<w.heap.size:=fun k e=>h.low k (.inr e);have Ww:GV zU S2 F2 m.g (D++ [⟨hid,dh lp⟩]) (fK (D++ [⟨hid,dh lp⟩])) bl' c' Nu M':=SB.same uO;have nS2:∀k,S2 k->¬k=m.cb:=fun k h1 e=>by
     rcases Lr k h1 with h2|h2
     ·exact(h.od _ rC).1 (e▸h2)
     ·omega
    have nF2:∀k,F2 k->¬k=m.cb:=fun k h1 e=>by
     rcases Sf k h1 with h2|h2
     ·exact(h.od _ rC).2.2.2 (e▸h2)
     ·omega
    have NJ:∀k,m.own x k->k≠m.cb->¬(m.SG k\/k=m.cb):=fun k e fJ e'=>e'.elim (JM k e) fJ;refine Fp (s1:=CP.heap.size) (s2:=zU.heap.size) (S2:=S2) (F2:=F2) (SO2:=fun k=>m.SO k\/(zU.heap.size<=k/\k<u.heap.size)) (mj:=mj) h hD gM Hg (iL lp) hj U2 (dJ.2 Cb) (DY.heap h.top (NJ _ (.inl rfl) JL))
     (Nat.le_refl _) (by omega) (ku.heap (uO.heap K3 (fun h=>h)) (fun e=>by omega)) (ku.heap (uO.heap OD (fun h=>h)) (fun e=>by omega)) ⟨bl',c',Nu,M',Ww.aK ku nS2 nF2⟩
     (h.T.aK DY (fun k e e'=>e'.elim (fun e'=>(h.gt k e').1 e) (fun e'=>(h.od _ rC).2.1 (e'▸e)))) (h.at_.aK DY (NJ _ (.inr (.inl rfl)) L9)) (Row.aK h.row DY (fun k e=>by cases e;exact NJ _ (.inr (.inr (.inl rfl))) No))
     ?_ (by omega) (by omega) su (fun k e=>⟨(Lr k e).imp (fun h=>h) (fun h=>by omega),SB.low k (.inl e)⟩) (fun k e=>⟨(Sf k e).imp (fun h=>h) (fun h=>by omega),SB.low k (.inr e)⟩) (fun k e=>e)
     (DY.mono (S':=fun k=>m.jc x k) (fun k _ e=>e.elim (fun e=>.inl e) (fun e=>.inr (.inr (.inr (.inr (.inr (.inr e)))))))) (fun u2 S' F' hI kU hSu I8=>?_)
    ·obtain⟨f,hf,hc⟩:=IU
     refine⟨f,hf,fun y=>?_⟩;obtain⟨l,h1,h2⟩:=hc y;refine⟨l,?_,fun c=>?_⟩
     ·rcases h1 with h3|⟨A,n,c,g1,g2,g3,g4,g5⟩
      ·exact .inl h3
      ·refine .inr ⟨A,n,c,g1,g2,g3,?_,g5⟩
       split at g4<;>omega
     ·rw [h2,Fc W h.ml (nd:=⟨hid,dh lp⟩) gM Hg hj,U2]
      constructor
      ·rintro(h3|⟨h3,h4,h5,h6⟩)
       ·exact .inl h3
       ·exact .inr ⟨h3,(yY y).1 h4,h5,h6⟩
      ·rintro(h3|⟨h3,h4,h5,h6⟩)
       ·exact .inl h3
       ·exact .inr ⟨h3,(yY y).2 h4,h5,h6⟩
    ·refine Ej u2 S' F' ?_ kU hSu I8 eX
     rw [eD,eP];exact hI
end
def fI:HT:=hx 0 (by decide)
def cN(D:DG)(P:List Int)(h:HT)(l:List HT):Prop:=(h∉ids D/\l= [])\/∃(i:Nat) (nd:DN) (ks:List Nat),D[i]? =some nd/\nd.id=h/\Up P i ks/\l=ks.map (mO D)
theorem lR{D:DG}{i:Nat}{nd:DN}(h:D[i]? =some nd):mO D i=nd.id:=by unfold mO;rw [h]
theorem cN.ex{D:DG}{P:List Int}(H:rI D P)(h:HT):∃l,cN D P h l:=by
 by_cases hm:h∈ids D
 ·obtain⟨nd,gL,e⟩:=dz.1 hm
  obtain⟨i,hi⟩:=List.mem_iff_getElem?.1 gL;obtain⟨ks,hk⟩:=Up.ex H.par i (by rw [H.len];exact(lgeS hi).1);exact⟨_,.inr ⟨i,nd,ks,hi,e,hk,rfl⟩⟩
 ·exact⟨[],.inl ⟨hm,rfl⟩⟩
theorem cN.mem{D:DG}{P:List Int}(W:jZ D)(H:rI D P){h:HT}{l:List HT}(c:cN D P h l){a:HT}:a∈l↔Ch D P a h:=by
 rcases c with⟨h1,rfl⟩|⟨i,nd,ks,h1,rfl,h3,rfl⟩
 ·simp only [List.not_mem_nil,false_iff]
  exact fun e=>h1 e.mem.2
 ·have fg:i<P.length:=by rw [H.len];exact(lgeS h1).1
  rw [List.mem_map];constructor
  ·rintro⟨k,hk,rfl⟩
   have hu:=(h3.mem H.par fg).1 hk;have CZ:=hu.Rz;rw [H.len]at CZ;obtain⟨nk,Mw⟩:∃nk,D[k]? =some nk:=⟨_,List.getElem?_eq_getElem CZ⟩;exact⟨i,k,nd,nk,h1,rfl,Mw,(lR Mw).symm,hu⟩
  ·rintro⟨i',k,ni,nk,g1,g2,g3,g4,g5⟩
   have:=W.inj g1 h1 g2;subst this;exact⟨k,(h3.mem H.par fg).2 g5,by rw [lR g3,g4]⟩
theorem cN.one{D:DG}{P:List Int}(W:jZ D)(H:rI D P){h:HT}{l l':List HT}(c:cN D P h l)(c':cN D P h l'):l=l':=by
 rcases c with⟨h1,rfl⟩|⟨i,nd,ks,h1,h2,h3,rfl⟩
 ·rcases c' with⟨_,rfl⟩|⟨i,nd,ks,g1,g2,_,_⟩
  ·rfl
  ·exact absurd (dz.2 ⟨nd,List.mem_of_getElem? g1,g2⟩) h1
 ·rcases c' with⟨g1,rfl⟩|⟨i',nd',ks',g1,g2,g3,rfl⟩
  ·exact absurd (dz.2 ⟨nd,List.mem_of_getElem? h1,h2⟩) g1
  ·have:=W.inj h1 g1 (by rw [h2,g2])
   subst this;rw [Up.one H.par h3 g3]
section
variable{w w':World}{F S:Nat->Prop}{x:Nat}{D:DG}{P:List Int}{m:XM}{K:Value->World->Prop}
theorem XV.JF(h:XV w F x D P m){i:Nat}{nd:DN}(hi:D[i]? =some nd):Cells w ((⟨m.ib,0,none⟩:Addr).add (i*32)) nd.id.1:=by
 obtain⟨a,ha,_,hc⟩:=(cg.hs h.row).at_ i nd.id (rL hi);cases ha;exact hc
theorem XV.DJ(h:XV w F x D P m){i:Nat}{nd:DN}(hi:D[i]? =some nd):∃td,m.T[i]? =some td/\P[i]? =some td.parent:=by
 have fg:=(lgeS hi).1;obtain⟨td,RN⟩:=Tr.eR (T:=m.T) (i:=i) (by rw [h.JA];exact fg);exact⟨td,RN,by rw [<-h.bG];exact Tr.jK RN⟩
theorem qN(a:HT)(hK:∀w' pb qb,Kept Nil w w'->w'.heap[pb]? =some (.cells #[.pointer (some ⟨x,0,none⟩)] eZ (0,0))->w'.heap[qb]? =some (.cells a.1 ax (0,0))->w.heap.size<=pb->w.heap.size<=qb->K (.func (.func aP.id) #[] #[.pointer (some ⟨pb,0,none⟩),.pointer (some ⟨qb,0,none⟩)]) w'):
 bm prog eF.id #[.pointer (some ⟨x,0,none⟩),.agg a.1] w K:=by
 refine eF.of ?_;unfold eF.W;intro w3 w4;have k3:Kept Nil w w3:=(Kept.refl _ _).alloc _;have hp3:w3.heap[w.heap.size]? =some (.cells #[.pointer (some ⟨x,0,none⟩)] eZ (0,0)):=aR w _;have k4:Kept Nil w3 w4:=(Kept.refl _ _).alloc _;have hq4:w4.heap[w3.heap.size]? =some (.cells a.1 ax (0,0)):=aR w3 _;clear_value w4;exact hK w4 _ _ (k3.tt k4) (k4.heap hp3 (fun h=>h)) hq4 (Nat.le_refl _) k3.size
theorem zW{pb qb:Nat}{a:HT}{l:List HT}(hl:cN D P a l)(hD:D.length<=5000):
 lY prog aP.id #[] #[.pointer (some ⟨pb,0,none⟩),.pointer (some ⟨qb,0,none⟩)] (l.map pU) (fun w=>XV w F x D P m/\w.heap[pb]? =some (.cells #[.pointer (some ⟨x,0,none⟩)] eZ (0,0))/\w.heap[qb]? =some (.cells a.1 ax (0,0))):=by
 intro y I Q w0 hI hQ pN h0 oY;obtain⟨hX,Mu,YU⟩:=pN 0 w0 h0;have W:=hX.W;have pM:=hX.ml;refine aP.of ?_;unfold aP.W;refine⟨_,by rw [aD Mu];rfl,a.1,⟨a.2.1,Cells.bS YU⟩,a.2.1,?_⟩;intro w6;have k6:Kept Nil w0 w6:=(Kept.refl _ _).alloc _;have pQ:HS w6 (some ⟨w0.heap.size,0,none⟩) 1 [a]:=ln w0 a;clear_value w6;refine om (hX.same k6) pQ (by omega) fun w8 k8=>⟨_,rfl,?_⟩;have Ee:=k6.tt k8;rcases hl with⟨rN,rfl⟩|⟨i,nd,ks,hi,hid,hup,rfl⟩
 ·exact Split.yes (by rw [decide_eq_false (by simpa using rN)];rfl) (.inl (hI 0 w0 w8 h0 Ee))
 ·have hm:a∈ids D:=dz.2 ⟨nd,List.mem_of_getElem? hi,hid⟩
  refine Split.no (by rw [decide_eq_true (by simpa using hm)];rfl) ?_;intro w10;have tV:Kept Nil w8 w10:=(Kept.refl _ _).drew;clear_value w10;have yN:=Ee.tt tV;have rP:=hX.same yN;have lk:=rP.at_.uL a;rw [<-hid,W.pos_eq hi]at lk;rw [hid]at lk;refine⟨some ⟨x,0,none⟩,by rw [aD (yN.heap Mu (fun h=>h))];rfl,_,rP.c2,a.1,⟨a.2.1,Cells.bS (yN.heap YU (fun h=>h))⟩,_,lk,?_⟩;have fg:i<P.length:=by rw [pM.len];exact(lgeS hi).1
  have OU:=pM.par;refine aP.cf (I:=fun s v=>∃(k:Nat) (dn rs:List Nat),s=(k:Int)/\ks=dn++rs/\Up P k rs/\k<P.length/\I dn.length v) (μ:=fun s _=>s.toNat) (s:=((i:Nat):Int)) ⟨i,[],ks,rfl,rfl,hup,fg,hI 0 w0 w10 h0 yN⟩ ?_;rintro s v ⟨k,dn,rs,rfl,Vd,YG,CZ,hv⟩;obtain⟨ZJ,OQ,hqv⟩:=pN _ v hv;rw [pM.len]at CZ;obtain⟨nk,Mw⟩:∃nk,D[k]? =some nk:=⟨_,List.getElem?_eq_getElem CZ⟩;refine⟨some ⟨x,0,none⟩,by rw [aD OQ];rfl,_,_,_,ZJ.c3,⟨by omega,by omega⟩,nk.id.1,⟨nk.id.2.1,by rw [Int.toNat_natCast];exact ZJ.JF Mw⟩,?_⟩;have fu:((ks.map (mO D)).map pU)[dn.length]? =some (pU nk.id):=by
   rw [List.getElem?_map,List.getElem?_map,Vd,List.getElem?_append_right (Nat.le_refl _),Nat.sub_self,YG.head];simp [lR Mw]
  refine(oY dn.length (pU nk.id) v fu hv).mono ?_;rintro b v' ⟨ht,hf⟩;cases b with
  |false=>
   refine Split.no rfl ?_;rw [aY,aP.dB];exact .inr (hf rfl)
  |true=>
   refine Split.yes rfl ?_;have Wv:=ht rfl;cases YG with
   |root=>
    refine Split.no rfl ?_;rw [aY,aP.dB];refine .inl ?_;rw [List.length_map,List.length_map,Vd,List.length_append];exact Wv
   | @step _ j rs' hj GZ=>
     have Vf:=(Tr.gR OU (Tr.dH.2 hj)).1;refine Split.yes (decide_eq_true (by omega)) ?_;obtain⟨Lp,UE,_⟩:=pN _ v' Wv;obtain⟨td,RN,YJ⟩:=Lp.DJ Mw;rw [hj]at YJ;have Ua:(j:Int)=td.parent:=by simpa using YJ
     refine⟨some ⟨x,0,none⟩,by rw [aD UE];rfl,_,Lp.c1,Tr.wi Lp.T RN (by omega) ⟨_,_,rfl,?_⟩⟩;rw [<-Ua];refine⟨(j:Int),rfl,⟨j,dn++ [k],rs',rfl,by rw [Vd];simp,GZ,by rw [pM.len];omega,?_⟩,by simp only;omega⟩;rw [List.length_append];exact Wv
end
structure XN(w v:World)(r:HT)(own:Nat->Nat)(G T E I Z:Option Nat)(l:List HT):Prop where
 kp:Kept Nil w v
 gr:∀g,G=some g->∃SG,Ba v SG (fun _=>False) g [⟨r,[]⟩]/\∀k,SG k->w.heap.size<=k/\own k=1
 tr:∀t,T=some t->∃ST,Tr.nh v ST t Tr.oI 0/\∀k,ST k->w.heap.size<=k/\k<v.heap.size/\own k=2
 mp:∀b,E=some b->w.heap.size<=b/\own b=3/\IsMap v b l
 il:∀b,I=some b->w.heap.size<=b/\own b=4/\v.heap[b]? =some (.cells (r.1.toList++ []).toArray ax (0,0))
 cv:∀b,Z=some b->w.heap.size<=b/\own b=5/\dX v b (fun _=>none)
def tag(n t:Nat)(own:Nat->Nat)(k:Nat):Nat:=if n<=k then t else own k
theorem ph{n t k:Nat}{own:Nat->Nat}(h:k<n):tag n t own k=own k:=by unfold tag;rw [if_neg (by omega)]
theorem po{n t k:Nat}{own:Nat->Nat}(h:n<=k):tag n t own k=t:=by unfold tag;rw [if_pos h]
section
variable{w v v':World}{r:HT}{own:Nat->Nat}{G T E I Z:Option Nat}{l:List HT}{K:Value->World->Prop}
theorem XN.grow(h:XN w v r own G T E I Z l)(t:Nat)(k:Kept Nil v v'):XN w v' r (tag v.heap.size t own) G T E I Z l:=by
 have hs:=k.size;refine⟨h.kp.tt k,fun g e=>?_,fun g e=>?_,fun b e=>?_,fun b e=>?_,fun b e=>?_⟩
 ·obtain⟨SG,h1,h2⟩:=h.gr g e
  exact⟨SG,h1.same k,fun q hq=>⟨(h2 q hq).1,by rw [ph (by obtain⟨bl,c,mb,M,G⟩:=h1;exact G.low q (.inl hq))];exact(h2 q hq).2⟩⟩
 ·obtain⟨ST,h1,h2⟩:=h.tr g e
  exact⟨ST,h1.same k,fun q hq=>⟨(h2 q hq).1,by have:=(h2 q hq).2.1;omega,by rw [ph (h2 q hq).2.1];exact(h2 q hq).2.2⟩⟩
 ·obtain⟨h1,h2,h3⟩:=h.mp b e
  exact⟨h1,by rw [ph h3.lt];exact h2,h3.aK k (fun h=>h)⟩
 ·obtain⟨h1,h2,h3⟩:=h.il b e
  exact⟨h1,by rw [ph (bf h3)];exact h2,k.heap h3 (fun h=>h)⟩
 ·obtain⟨h1,h2,h3⟩:=h.cv b e
  exact⟨h1,by rw [ph h3.lt];exact h2,h3.aK k (fun h=>h)⟩
theorem XN.fF(h:XN w v r own none T E I Z l){gb:Nat}(hG:Ba v' (fun k=>v.heap.size<=k/\k<v'.heap.size) (fun _=>False) gb [⟨r,[]⟩])(k:Kept Nil v v'):XN w v' r (tag v.heap.size 1 own) (some gb) T E I Z l:=by
 have g:=h.grow 1 k;refine⟨g.kp,?_,g.tr,g.mp,g.il,g.cv⟩;intro g' e;cases e;have:=h.kp.size;exact⟨_,hG,fun q hq=>⟨by omega,po hq.1⟩⟩
theorem XN.rG(h:XN w v r own G none E I Z l){t:Nat}(hT:Tr.nh v' (fun k=>v.heap.size<=k) t Tr.oI 0)(k:Kept Nil v v'):XN w v' r (tag v.heap.size 2 own) G (some t) E I Z l:=by
 have g:=h.grow 2 k;refine⟨g.kp,g.gr,?_,g.mp,g.il,g.cv⟩;intro t' e;cases e;have:=h.kp.size;exact⟨_,qG hT,fun q hq=>⟨by omega,hq.2,po hq.1⟩⟩
theorem XN.rH(h:XN w v r own G T none I Z []):XN w (v.alloc (.map #[] 0)) r (tag v.heap.size 3 own) G T (some v.heap.size) I Z []:=by
 have g:=h.grow 3 ((Kept.refl Nil v).alloc (.map #[] 0));refine⟨g.kp,g.gr,g.tr,?_,g.il,g.cv⟩;intro b e;cases e;exact⟨h.kp.size,po (Nat.le_refl _),⟨#[],0,aR v _,trivial⟩⟩
theorem XN.mV(h:XN w v r own G T E none Z l):XN w (v.alloc (.cells (r.1.toList++ []).toArray ax)) r (tag v.heap.size 4 own) G T E (some v.heap.size) Z l:=by
 have g:=h.grow 4 ((Kept.refl Nil v).alloc (.cells (r.1.toList++ []).toArray ax));refine⟨g.kp,g.gr,g.tr,g.mp,?_,g.cv⟩;intro b e;cases e;exact⟨h.kp.size,po (Nat.le_refl _),aR v _⟩
theorem XN.mU(h:XN w v r own G T E I none l):XN w (v.alloc (.map #[] 0)) r (tag v.heap.size 5 own) G T E I (some v.heap.size) l:=by
 have g:=h.grow 5 ((Kept.refl Nil v).alloc (.map #[] 0));refine⟨g.kp,g.gr,g.tr,g.mp,g.il,?_⟩;intro b e;cases e;exact⟨h.kp.size,po (Nat.le_refl _),dX.new v⟩
theorem XN.put{mb:Nat}(h:XN w v r own G T (some mb) I Z []):∃v',(Instr.mapUpdate b0 (.map (some mb)) (.agg r.1) (.int .i64 0)).run prog v=.ok () v'/\XN w v' r own G T (some mb) I Z [r]:=by
 obtain⟨h1,h2,h3⟩:=h.mp mb rfl;obtain⟨v',hr,hm,hk⟩:=h3.put (h:=r) (by simp);refine⟨v',hr,(h.kp.trans hk (fun k hk e=>by omega)),fun g e=>?_,fun g e=>?_,fun b e=>?_,fun b e=>?_,fun b e=>?_⟩
 ·obtain⟨SG,g1,g2⟩:=h.gr g e
  exact⟨SG,g1.aK hk (fun q hq e=>by have:=(g2 q hq).2;rw [e,h2]at this;cases this) (fun q hq=>hq.elim),g2⟩
 ·obtain⟨ST,g1,g2⟩:=h.tr g e
  exact⟨ST,g1.aK hk (fun q hq e=>by have:=(g2 q hq).2.2;rw [e,h2]at this;cases this),fun q hq=>⟨(g2 q hq).1,Nat.lt_of_lt_of_le (g2 q hq).2.1 hk.size,(g2 q hq).2.2⟩⟩
 ·cases e
  exact⟨h1,h2,hm⟩
 ·obtain⟨g1,g2,g3⟩:=h.il b e
  exact⟨g1,g2,hk.heap g3 (fun e=>by rw [e,h2]at g2;cases g2)⟩
 ·obtain⟨g1,g2,g3⟩:=h.cv b e
  exact⟨g1,g2,g3.aK hk (fun e=>by rw [e,h2]at g2;cases g2)⟩
theorem XN.fin{g t mb ib cb:Nat}{w0:World}(h:XN w v r own (some g) (some t) (some mb) (some ib) (some cb) [r])(hw:w0.heap.size<=w.heap.size):
 zO (v.alloc (.cells #[.pointer (some ⟨g,0,none⟩),.pointer (some ⟨t,0,none⟩),.map (some mb),.slice (some ⟨ib,0,none⟩) 1 1,.map (some cb)] dw)) (fun k=>w0.heap.size<=k/\k<(v.alloc (.cells #[.pointer (some ⟨g,0,none⟩),.pointer (some ⟨t,0,none⟩),.map (some mb),.slice (some ⟨ib,0,none⟩) 1 1,.map (some cb)] dw)).heap.size) (fun _=>False) v.heap.size [⟨r,[]⟩] [-1]:=by
 have jr:=aR v (.cells #[.pointer (some ⟨g,0,none⟩),.pointer (some ⟨t,0,none⟩),.map (some mb),.slice (some ⟨ib,0,none⟩) 1 1,.map (some cb)] dw);have kx:=(Kept.refl Nil v).alloc (.cells #[.pointer (some ⟨g,0,none⟩),.pointer (some ⟨t,0,none⟩),.map (some mb),.slice (some ⟨ib,0,none⟩) 1 1,.map (some cb)] dw);have hx:=bf jr;generalize v.alloc (.cells #[.pointer (some ⟨g,0,none⟩),.pointer (some ⟨t,0,none⟩),.map (some mb),.slice (some ⟨ib,0,none⟩) 1 1,.map (some cb)] dw)=u at jr kx hx;obtain⟨SG,hG,gG⟩:=h.gr g rfl;obtain⟨ST,hT,gT⟩:=h.tr t rfl;obtain⟨m1,m2,m3⟩:=h.mp mb rfl;obtain⟨i1,i2,i3⟩:=h.il ib rfl;obtain⟨c1,c2,c3⟩:=h.cv cb rfl;have rD:∀k,SG k->k<v.heap.size:=fun k e=>by obtain⟨bl,c,mb,M,G⟩:=hG;exact G.low k (.inl e)
 have sw:=h.kp.size;have lm:=m3.lt;have li:=bf i3;have lc:=c3.lt;have ES:∀ {a b:HT},¬fG [(⟨r,[]⟩:DN)] a b:=wB r;refine⟨⟨g,t,mb,ib,1,cb,Tr.oI,0,SG,ST,fun _=>False⟩,⟨jr,hG.same kx,hT.same kx,Tr.yy,rfl,⟨Int.le_refl 0,by show(0:Int)<=_;simp⟩,m3.aK kx (fun h=>h),?_,⟨_,c3.aK kx (fun h=>h),fun y=>⟨[],.inl ⟨rfl,rfl⟩,fun c=>?_⟩⟩,?_,jZ.root r,?_,?_,?_,?_,?_,?_⟩,?_⟩
 ·have e:cD [r]=(r.1.toList++ []).toArray.toList:=by simp [cD]
  show Row _ _ _ _ _ _ _ (cD [r])
  rw [e];exact Row.made (kx.heap i3 (fun h=>h)) (Nat.zero_le _) (by simp [r.2.1]) (by show 1<=maxLen;decide)
 ·simp only [List.not_mem_nil,false_iff]
  exact fun hc=>ES hc.1
 ·refine⟨rfl,rfl,fun i p nd hi hp=>?_⟩
  cases i with
  |zero=>omega
  |succ i=>simp at hp
 ·exact fun k e=>⟨fun e'=>by have:=(gG k e).2;have:=(gT k e').2.2;omega,fun e'=>e'.elim⟩
 ·exact fun k e e'=>e'.elim
 ·exact fun k e=>e.elim
 ·intro k e
  have key:v.heap.size<=k\/3<=own k:=by
   rcases e with e|e|e|e
   ·exact .inl (by omega)
   ·exact .inr (by have e:k=mb:=e;rw [e];omega)
   ·exact .inr (by have e:k=ib:=e;rw [e];omega)
   ·exact .inr (by have e:k=cb:=e;rw [e];omega)
  refine⟨fun e'=>?_,fun e'=>?_,fun e'=>e'.elim,fun e'=>e'.elim⟩
  ·have h1:=(gG k e').2
   have h2:=rD k e';omega
  ·have h1:=(gT k e').2.2
   have h2:=(gT k e').2.1;omega
 ·refine⟨by show v.heap.size≠mb;omega,by show v.heap.size≠ib;omega,by show v.heap.size≠cb;omega,fun e=>?_,fun e=>?_,fun e=>?_⟩
  ·have e:mb=ib:=e
   rw [e]at m2;omega
  ·have e:mb=cb:=e
   rw [e]at m2;omega
  ·have e:ib=cb:=e
   rw [e]at i2;omega
 ·intro k e
  rcases e with e|e
  ·rcases e with e|e|e|e
   ·have:=rD k e;omega
   ·have:=(gT k e).2.1;omega
   ·exact e.elim
   ·rcases e with e|e|e|e
    ·omega
    ·have e:k=mb:=e;omega
    ·have e:k=ib:=e;omega
    ·have e:k=cb:=e;omega
  ·exact e.elim
 ·intro k e
  rcases e with e|e|e|e
  ·have:=rD k e;have:=(gG k e).1;omega
  ·have:=(gT k e).1;have:=(gT k e).2.1;omega
  ·exact e.elim
  ·rcases e with e|e|e|e
   ·omega
   ·have e:k=mb:=e;omega
   ·have e:k=ib:=e;omega
   ·have e:k=cb:=e;omega
structure XD(w o:World)(r:HT)(K:Value->World->Prop):Prop where
 cs:∀ {v:World},Kept Nil o v->∃cs:Array Value,(.agg r.1:Value)=.agg cs/\cs.size=32/\Cells v (aU w.heap.size) cs
 fin:∀ {v:World} {own:Nat->Nat} {g t mb ib cb:Nat},XN o v r own (some g) (some t) (some mb) (some ib) (some cb) [r]->K (.pointer (some ⟨v.heap.size,0,none⟩)) (v.alloc (.cells #[.pointer (some ⟨g,0,none⟩),.pointer (some ⟨t,0,none⟩),.map (some mb),.slice (some ⟨ib,0,none⟩) 1 1,.map (some cb)] dw))
end
section
variable{w o v e i z:World}{r:HT}{own:Nat->Nat}{g t:Nat}{K:Value->World->Prop}
theorem n1(D:XD w o r K)(h:XN o v r own (some g) (some t) (some e.heap.size) (some i.heap.size) (some z.heap.size) [r]):aw.N1 (some ⟨g,0,none⟩) (some ⟨t,0,none⟩) e i z K v:=by
 unfold aw.N1;exact D.fin h
theorem n2(D:XD w o r K)(h:XN o v r own (some g) (some t) (some e.heap.size) (some i.heap.size) none [r]):aw.N2 (some ⟨g,0,none⟩) (some ⟨t,0,none⟩) e i K v:=by
 unfold aw.N2;exact let n:=h.mU;n1 D n
theorem n3(D:XD w o r K)(h:XN o v r own (some g) (some t) (some e.heap.size) none (some z.heap.size) [r]):aw.N3 r.1 (some ⟨g,0,none⟩) (some ⟨t,0,none⟩) e z K v:=by
 unfold aw.N3;exact let n:=h.mV;⟨r.2.1,n1 D n⟩
theorem n4(D:XD w o r K)(h:XN o v r own (some g) (some t) (some e.heap.size) none none [r]):aw.N4 r.1 (some ⟨g,0,none⟩) (some ⟨t,0,none⟩) e w K v:=by
 unfold aw.N4;exact⟨(let n:=h.mV;⟨r.2.1,n2 D n⟩),(let n:=h.mU;⟨D.cs n.kp,n3 D n⟩)⟩
theorem n5(D:XD w o r K)(h:XN o v r own (some g) (some t) (some e.heap.size) (some i.heap.size) (some z.heap.size) []):aw.N5 e r.1 (some ⟨g,0,none⟩) (some ⟨t,0,none⟩) i z K v:=by
 unfold aw.N5;exact let ⟨u,q,n⟩:=h.put;⟨u,q,n1 D n⟩
theorem n6(D:XD w o r K)(h:XN o v r own (some g) (some t) (some e.heap.size) (some i.heap.size) none []):aw.N6 e r.1 (some ⟨g,0,none⟩) (some ⟨t,0,none⟩) i w K v:=by
 unfold aw.N6;exact⟨(let ⟨u,q,n⟩:=h.put;⟨u,q,n2 D n⟩),(let n:=h.mU;⟨D.cs n.kp,n5 D n⟩)⟩
theorem n7(D:XD w o r K)(h:XN o v r own (some g) (some t) (some e.heap.size) none (some z.heap.size) []):aw.N7 e r.1 r.1 w (some ⟨g,0,none⟩) (some ⟨t,0,none⟩) z K v:=by
 unfold aw.N7;exact⟨(let ⟨u,q,n⟩:=h.put;⟨u,q,D.cs n.kp,n3 D n⟩),(let n:=h.mV;⟨r.2.1,D.cs n.kp,n5 D n⟩)⟩
theorem n8(D:XD w o r K)(h:XN o v r own (some g) (some t) (some e.heap.size) none none []):aw.N8 e r.1 r.1 w (some ⟨g,0,none⟩) (some ⟨t,0,none⟩) K v:=by
 unfold aw.N8;exact⟨(let ⟨u,q,n⟩:=h.put;⟨u,q,D.cs n.kp,n4 D n⟩),(let n:=h.mV;⟨r.2.1,D.cs n.kp,n6 D n⟩),(let n:=h.mU;⟨D.cs n.kp,D.cs n.kp,n7 D n⟩)⟩
theorem n9(D:XD w o r K)(h:XN o v r own (some g) (some t) none (some i.heap.size) (some z.heap.size) []):aw.N9 r.1 w (some ⟨g,0,none⟩) (some ⟨t,0,none⟩) i z K v:=by
 unfold aw.N9;exact let n:=h.rH;⟨D.cs n.kp,n5 D n⟩
theorem n10(D:XD w o r K)(h:XN o v r own (some g) (some t) none (some i.heap.size) none []):aw.MS r.1 w (some ⟨g,0,none⟩) (some ⟨t,0,none⟩) i K v:=by
 unfold aw.MS;exact⟨(let n:=h.rH;⟨D.cs n.kp,n6 D n⟩),(let n:=h.mU;⟨D.cs n.kp,n9 D n⟩)⟩
theorem n11(D:XD w o r K)(h:XN o v r own (some g) (some t) none none (some z.heap.size) []):aw.SA r.1 w r.1 (some ⟨g,0,none⟩) (some ⟨t,0,none⟩) z K v:=by
 unfold aw.SA;exact⟨(let n:=h.rH;⟨D.cs n.kp,D.cs n.kp,n7 D n⟩),(let n:=h.mV;⟨r.2.1,D.cs n.kp,n9 D n⟩)⟩
theorem n12(D:XD w o r K)(h:XN o v r own (some g) (some t) none none none []):aw.LX r.1 w r.1 (some ⟨g,0,none⟩) (some ⟨t,0,none⟩) K v:=by
 unfold aw.LX;exact⟨(let n:=h.rH;⟨D.cs n.kp,D.cs n.kp,n8 D n⟩),(let n:=h.mV;⟨r.2.1,D.cs n.kp,n10 D n⟩),(let n:=h.mU;⟨D.cs n.kp,D.cs n.kp,n11 D n⟩)⟩
theorem n13(D:XD w o r K)(h:XN o v r own (some g) none (some e.heap.size) (some i.heap.size) (some z.heap.size) [r]):aw.HU (some ⟨g,0,none⟩) e i z K v:=by
 unfold aw.HU;exact Tr.dF fun _ _ q k=>let n:=h.rG q k;⟨_,rfl,n1 D n⟩
theorem n14(D:XD w o r K)(h:XN o v r own (some g) none (some e.heap.size) (some i.heap.size) none [r]):aw.LW (some ⟨g,0,none⟩) e i K v:=by
 unfold aw.LW;exact⟨(Tr.dF fun _ _ q k=>let n:=h.rG q k;⟨_,rfl,n2 D n⟩),(let n:=h.mU;n13 D n)⟩
theorem n15(D:XD w o r K)(h:XN o v r own (some g) none (some e.heap.size) none (some z.heap.size) [r]):aw.Rp r.1 w (some ⟨g,0,none⟩) e z K v:=by
 unfold aw.Rp;exact⟨(Tr.dF fun _ _ q k=>let n:=h.rG q k;⟨_,rfl,D.cs n.kp,n3 D n⟩),(let n:=h.mV;⟨r.2.1,n13 D n⟩)⟩
theorem n16(D:XD w o r K)(h:XN o v r own (some g) none (some e.heap.size) none none [r]):aw.MR r.1 w (some ⟨g,0,none⟩) e K v:=by
 unfold aw.MR;exact⟨(Tr.dF fun _ _ q k=>let n:=h.rG q k;⟨_,rfl,D.cs n.kp,n4 D n⟩),(let n:=h.mV;⟨r.2.1,n14 D n⟩),(let n:=h.mU;⟨D.cs n.kp,n15 D n⟩)⟩
theorem n17(D:XD w o r K)(h:XN o v r own (some g) none (some e.heap.size) (some i.heap.size) (some z.heap.size) []):aw.MQ r.1 w e (some ⟨g,0,none⟩) i z K v:=by
 unfold aw.MQ;exact⟨(Tr.dF fun _ _ q k=>let n:=h.rG q k;⟨_,rfl,D.cs n.kp,n5 D n⟩),(let ⟨u,q,n⟩:=h.put;⟨u,q,n13 D n⟩)⟩
theorem n18(D:XD w o r K)(h:XN o v r own (some g) none (some e.heap.size) (some i.heap.size) none []):aw.Ro r.1 w e (some ⟨g,0,none⟩) i K v:=by
 unfold aw.Ro;exact⟨(Tr.dF fun _ _ q k=>let n:=h.rG q k;⟨_,rfl,D.cs n.kp,n6 D n⟩),(let ⟨u,q,n⟩:=h.put;⟨u,q,n14 D n⟩),(let n:=h.mU;⟨D.cs n.kp,n17 D n⟩)⟩
theorem n19(D:XD w o r K)(h:XN o v r own (some g) none (some e.heap.size) none (some z.heap.size) []):aw.F6 r.1 w r.1 e (some ⟨g,0,none⟩) z K v:=by
 unfold aw.F6;exact⟨(Tr.dF fun _ _ q k=>let n:=h.rG q k;⟨_,rfl,D.cs n.kp,D.cs n.kp,n7 D n⟩),(let ⟨u,q,n⟩:=h.put;⟨u,q,D.cs n.kp,n15 D n⟩),(let n:=h.mV;⟨r.2.1,D.cs n.kp,n17 D n⟩)⟩
theorem n20(D:XD w o r K)(h:XN o v r own (some g) none (some e.heap.size) none none []):aw.Ji r.1 w r.1 e (some ⟨g,0,none⟩) K v:=by
 unfold aw.Ji;exact⟨(Tr.dF fun _ _ q k=>let n:=h.rG q k;⟨_,rfl,D.cs n.kp,D.cs n.kp,n8 D n⟩),(let ⟨u,q,n⟩:=h.put;⟨u,q,D.cs n.kp,n16 D n⟩),(let n:=h.mV;⟨r.2.1,D.cs n.kp,n18 D n⟩),(let n:=h.mU;⟨D.cs n.kp,D.cs n.kp,n19 D n⟩)⟩
theorem n21(D:XD w o r K)(h:XN o v r own (some g) none none (some i.heap.size) (some z.heap.size) []):aw.Jh r.1 w (some ⟨g,0,none⟩) i z K v:=by
 unfold aw.Jh;exact⟨(Tr.dF fun _ _ q k=>let n:=h.rG q k;⟨_,rfl,D.cs n.kp,n9 D n⟩),(let n:=h.rH;⟨D.cs n.kp,n17 D n⟩)⟩
theorem n22(D:XD w o r K)(h:XN o v r own (some g) none none (some i.heap.size) none []):aw.MP r.1 w (some ⟨g,0,none⟩) i K v:=by
 unfold aw.MP;exact⟨(Tr.dF fun _ _ q k=>let n:=h.rG q k;⟨_,rfl,D.cs n.kp,n10 D n⟩),(let n:=h.rH;⟨D.cs n.kp,n18 D n⟩),(let n:=h.mU;⟨D.cs n.kp,n21 D n⟩)⟩
theorem n23(D:XD w o r K)(h:XN o v r own (some g) none none none (some z.heap.size) []):aw.Sz r.1 w r.1 (some ⟨g,0,none⟩) z K v:=by
 unfold aw.Sz;exact⟨(Tr.dF fun _ _ q k=>let n:=h.rG q k;⟨_,rfl,D.cs n.kp,D.cs n.kp,n11 D n⟩),(let n:=h.rH;⟨D.cs n.kp,D.cs n.kp,n19 D n⟩),(let n:=h.mV;⟨r.2.1,D.cs n.kp,n21 D n⟩)⟩
theorem n24(D:XD w o r K)(h:XN o v r own (some g) none none none none []):aw.Rn r.1 w r.1 (some ⟨g,0,none⟩) K v:=by
 unfold aw.Rn;exact⟨(Tr.dF fun _ _ q k=>let n:=h.rG q k;⟨_,rfl,D.cs n.kp,D.cs n.kp,n12 D n⟩),(let n:=h.rH;⟨D.cs n.kp,D.cs n.kp,n20 D n⟩),(let n:=h.mV;⟨r.2.1,D.cs n.kp,n22 D n⟩),(let n:=h.mU;⟨D.cs n.kp,D.cs n.kp,n23 D n⟩)⟩
theorem n25(D:XD w o r K)(h:XN o v r own none none (some e.heap.size) (some i.heap.size) (some z.heap.size) [r]):aw.Rm r.1 e i z K v:=by
 unfold aw.Rm;exact eV r fun _ _ q k=>let n:=h.fF q k;⟨_,rfl,n13 D n⟩
theorem n26(D:XD w o r K)(h:XN o v r own none none (some e.heap.size) (some i.heap.size) none [r]):aw.Sy r.1 e i w K v:=by
 unfold aw.Sy;exact⟨(eV r fun _ _ q k=>let n:=h.fF q k;⟨_,rfl,n14 D n⟩),(let n:=h.mU;⟨D.cs n.kp,n25 D n⟩)⟩
theorem n27(D:XD w o r K)(h:XN o v r own none none (some e.heap.size) none (some z.heap.size) [r]):aw.LV r.1 r.1 w e z K v:=by
 unfold aw.LV;exact⟨(eV r fun _ _ q k=>let n:=h.fF q k;⟨_,rfl,D.cs n.kp,n15 D n⟩),(let n:=h.mV;⟨r.2.1,D.cs n.kp,n25 D n⟩)⟩
theorem n28(D:XD w o r K)(h:XN o v r own none none (some e.heap.size) none none [r]):aw.Xf r.1 r.1 w e K v:=by
 unfold aw.Xf;exact⟨(eV r fun _ _ q k=>let n:=h.fF q k;⟨_,rfl,D.cs n.kp,n16 D n⟩),(let n:=h.mV;⟨r.2.1,D.cs n.kp,n26 D n⟩),(let n:=h.mU;⟨D.cs n.kp,D.cs n.kp,n27 D n⟩)⟩
theorem n29(D:XD w o r K)(h:XN o v r own none none (some e.heap.size) (some i.heap.size) (some z.heap.size) []):aw.Rl r.1 r.1 w e i z K v:=by
 unfold aw.Rl;exact⟨(eV r fun _ _ q k=>let n:=h.fF q k;⟨_,rfl,D.cs n.kp,n17 D n⟩),(let ⟨u,q,n⟩:=h.put;⟨u,q,D.cs n.kp,n25 D n⟩)⟩
theorem n30(D:XD w o r K)(h:XN o v r own none none (some e.heap.size) (some i.heap.size) none []):aw.Sx r.1 r.1 w e i K v:=by
 unfold aw.Sx;exact⟨(eV r fun _ _ q k=>let n:=h.fF q k;⟨_,rfl,D.cs n.kp,n18 D n⟩),(let ⟨u,q,n⟩:=h.put;⟨u,q,D.cs n.kp,n26 D n⟩),(let n:=h.mU;⟨D.cs n.kp,D.cs n.kp,n29 D n⟩)⟩
theorem n31(D:XD w o r K)(h:XN o v r own none none (some e.heap.size) none (some z.heap.size) []):aw.Sw r.1 r.1 w r.1 e z K v:=by
 unfold aw.Sw;exact⟨(eV r fun _ _ q k=>let n:=h.fF q k;⟨_,rfl,D.cs n.kp,D.cs n.kp,n19 D n⟩),(let ⟨u,q,n⟩:=h.put;⟨u,q,D.cs n.kp,D.cs n.kp,n27 D n⟩),(let n:=h.mV;⟨r.2.1,D.cs n.kp,D.cs n.kp,n29 D n⟩)⟩
theorem n32(D:XD w o r K)(h:XN o v r own none none (some e.heap.size) none none []):aw.Xe r.1 r.1 w r.1 e K v:=by
 unfold aw.Xe;exact⟨(eV r fun _ _ q k=>let n:=h.fF q k;⟨_,rfl,D.cs n.kp,D.cs n.kp,n20 D n⟩),(let ⟨u,q,n⟩:=h.put;⟨u,q,D.cs n.kp,D.cs n.kp,n28 D n⟩),(let n:=h.mV;⟨r.2.1,D.cs n.kp,D.cs n.kp,n30 D n⟩),(let n:=h.mU;⟨D.cs n.kp,D.cs n.kp,D.cs n.kp,n31 D n⟩)⟩
theorem n33(D:XD w o r K)(h:XN o v r own none none none (some i.heap.size) (some z.heap.size) []):aw.Sv r.1 r.1 w i z K v:=by
 unfold aw.Sv;exact⟨(eV r fun _ _ q k=>let n:=h.fF q k;⟨_,rfl,D.cs n.kp,n21 D n⟩),(let n:=h.rH;⟨D.cs n.kp,D.cs n.kp,n29 D n⟩)⟩
theorem n34(D:XD w o r K)(h:XN o v r own none none none (some i.heap.size) none []):aw.Xd r.1 r.1 w i K v:=by
 unfold aw.Xd;exact⟨(eV r fun _ _ q k=>let n:=h.fF q k;⟨_,rfl,D.cs n.kp,n22 D n⟩),(let n:=h.rH;⟨D.cs n.kp,D.cs n.kp,n30 D n⟩),(let n:=h.mU;⟨D.cs n.kp,D.cs n.kp,n33 D n⟩)⟩
theorem n35(D:XD w o r K)(h:XN o v r own none none none none (some z.heap.size) []):aw.Xc r.1 r.1 w r.1 z K v:=by
 unfold aw.Xc;exact⟨(eV r fun _ _ q k=>let n:=h.fF q k;⟨_,rfl,D.cs n.kp,D.cs n.kp,n23 D n⟩),(let n:=h.rH;⟨D.cs n.kp,D.cs n.kp,D.cs n.kp,n31 D n⟩),(let n:=h.mV;⟨r.2.1,D.cs n.kp,D.cs n.kp,n33 D n⟩)⟩
theorem n36(D:XD w o r K)(h:XN o v r own none none none none none []):aw.Xb r.1 r.1 w r.1 K v:=by
 unfold aw.Xb;exact⟨(eV r fun _ _ q k=>let n:=h.fF q k;⟨_,rfl,D.cs n.kp,D.cs n.kp,n24 D n⟩),(let n:=h.rH;⟨D.cs n.kp,D.cs n.kp,D.cs n.kp,n32 D n⟩),(let n:=h.mV;⟨r.2.1,D.cs n.kp,D.cs n.kp,n34 D n⟩),(let n:=h.mU;⟨D.cs n.kp,D.cs n.kp,D.cs n.kp,n35 D n⟩)⟩
end
section
variable{K:Value->World->Prop}
theorem gI{w:World}(r:HT)(hK:∀v x,zO v (fun k=>w.heap.size<=k/\k<v.heap.size) (fun _=>False) x [⟨r,[]⟩] [-1]->Kept Nil w v->K (.pointer (some ⟨x,0,none⟩)) v):
 bm prog aw.id #[.agg r.1] w K:=by
 refine aw.of ?_;unfold aw.W;intro Xw Ga;have k2:Kept Nil w Xw:=(Kept.refl _ _).alloc _;have oy:Xw.heap[w.heap.size]? =some (.cells r.1 ax (0,0)):=aR w _;have k3:Kept Nil w Ga:=k2.drew;have o5:Ga.heap[w.heap.size]? =some (.cells r.1 ax (0,0)):=oy;clear_value Ga;have N_3:XN Ga Ga r (fun _=>0) none none none none none []:=⟨Kept.refl _ _,(fun b e=>by cases e),(fun b e=>by cases e),(fun b e=>by cases e),(fun b e=>by cases e),(fun b e=>by cases e)⟩;have mH:∀ {v:World},Kept Nil Ga v->∃cs:Array Value,(.agg r.1:Value)=.agg cs/\cs.size=32/\Cells v (aU w.heap.size) cs:=fun k=>⟨r.1,rfl,r.2.1,Cells.bS (k.heap o5 (fun h=>h))⟩;have sK:∀ {v:World} {own:Nat->Nat} {g t mb ib cb:Nat},XN Ga v r own (some g) (some t) (some mb) (some ib) (some cb) [r]->K (.pointer (some ⟨v.heap.size,0,none⟩)) (v.alloc (.cells #[.pointer (some ⟨g,0,none⟩),.pointer (some ⟨t,0,none⟩),.map (some mb),.slice (some ⟨ib,0,none⟩) 1 1,.map (some cb)] dw)):=
  fun h=>hK _ _ (h.fin k3.size) ((k3.tt h.kp).alloc _)
 have c3:r.1.size=32/\Cells Ga (aU w.heap.size) r.1:=⟨r.2.1,Cells.bS o5⟩;refine⟨r.1,c3,r.1,c3,r.1,c3,?_⟩;have D:XD w Ga r K:=⟨mH,sK⟩;exact n36 D N_3
end
end Go.Proofs.YtfleamccglihoaaGreatDoor
