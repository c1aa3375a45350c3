import Derived.Test.YtfleamccglihoaaGreatDoorMG
import Derived.Test.YtfleamccglihoaaGreatDoorMH
import Derived.Test.YtfleamccglihoaaGreatDoorME
import Derived.Laws.AppendOwn
open Go.IntKind (i64 u64)
set_option linter.unusedVariables false
namespace Go.Proofs.YtfleamccglihoaaGreatDoor
open Go.Proofs.Tryz
open Go Go.bV
open Tr (kY)
structure rR(D:DG)(P:List Int):Prop where
 len:P.length=D.length
 root:P[0]? =some (-1)
 up:∀(i:Nat) (p:Int) nd,0<i->P[i]? =some p->D[i]? =some nd->∃(j:Nat) (m:DN),p=(j:Int)/\j<i/\D[j]? =some m/\m.id∈nd.ps
def Ch(D:DG)(P:List Int)(a b:HT):Prop:=∃(i k:Nat) (ni nk:DN),D[i]? =some ni/\ni.id=b/\D[k]? =some nk/\nk.id=a/\kY P i k
def jF(D:DG)(P:List Int)(s c:HT):Prop:=∃(i j:Nat) (ni m:DN),D[i]? =some ni/\ni.id=c/\P[i]? =some (j:Int)/\D[j]? =some m/\m.id=s
def OF(D:DG)(P:List Int)(h c:HT):Prop:=eB D h c/\∃s,jF D P s c/\h≠s/\¬eB D h s
section
variable{D:DG}{P:List Int}
theorem rR.par(H:rR D P):Tr.mh P:=⟨H.root,fun i p hi hp=>by
 have dY:=(lgeS hp).1;rw [H.len]at dY;obtain⟨j,m,h1,h2,_⟩:=H.up i p _ hi hp (List.getElem?_eq_getElem dY);exact⟨j,h2,h1⟩⟩
theorem jF.par(H:rR D P){s c:HT}(h:jF D P s c):mh D s c:=by
 obtain⟨i,j,ni,m,h1,rfl,h3,h4,rfl⟩:=h;have hi:0<i:=by
  rcases Nat.eq_zero_or_pos i with rfl|h
  ·rw [H.root]at h3;simp only [Option.some.injEq]at h3;omega
  ·exact h
 obtain⟨j',m',e,_,h5,h6⟩:=H.up i _ ni hi h3 h1;have:j'=j:=by omega
 subst this;rw [h4]at h5;cases h5;exact⟨ni,List.mem_of_getElem? h1,rfl,h6⟩
theorem jF.one(W:jG D){s s' c:HT}(h:jF D P s c)(h':jF D P s' c):s=s':=by
 obtain⟨i,j,ni,m,h1,rfl,h3,h4,rfl⟩:=h;obtain⟨i',j',ni',m',rQ,e,Cb,YR,rfl⟩:=h';have:=W.inj h1 rQ e.symm;subst this;rw [h3]at Cb;simp only [Option.some.injEq]at Cb;have:j=j':=by omega
 subst this;rw [h4]at YR;cases YR;rfl
theorem jF.ex(H:rR D P){i:Nat}{ni:DN}(hi:0<i)(h:D[i]? =some ni):∃(j:Nat) (m:DN),j<i/\P[i]? =some (j:Int)/\D[j]? =some m/\jF D P m.id ni.id:=by
 have dY:=(lgeS h).1;obtain⟨p,hp⟩:∃p,P[i]? =some p:=⟨_,List.getElem?_eq_getElem (by rw [H.len];exact dY)⟩;obtain⟨j,m,rfl,hj,hm,_⟩:=H.up i p ni hi hp h;exact⟨j,m,hj,hp,hm,i,j,ni,m,h,rfl,hp,hm,rfl⟩
theorem Ch.refl(H:rR D P){a:HT}(h:a∈ids D):Ch D P a a:=by
 obtain⟨nd,ft,e⟩:=cS.1 h;obtain⟨i,hi⟩:=List.mem_iff_getElem?.1 ft;exact⟨i,i,nd,nd,hi,e,hi,e,.refl (by rw [H.len];exact(lgeS hi).1)⟩
theorem Ch.mem{a b:HT}(h:Ch D P a b):a∈ids D/\b∈ids D:=by
 obtain⟨i,k,ni,nk,h1,h2,h3,h4,_⟩:=h;exact⟨cS.2 ⟨nk,List.mem_of_getElem? h3,h4⟩,cS.2 ⟨ni,List.mem_of_getElem? h1,h2⟩⟩
theorem Ch.step(W:jG D){a s c:HT}(hs:jF D P s c)(h:Ch D P a s):Ch D P a c:=by
 obtain⟨i,j,ni,m,h1,rfl,h3,h4,rfl⟩:=hs;obtain⟨j',k,nj,nk,g1,g2,g3,g4,g5⟩:=h;have:=W.inj g1 h4 g2;subst this;exact⟨i,k,ni,nk,h1,rfl,g3,g4,.step h3 g5⟩
theorem Ch.zr(W:jG D)(H:rR D P){a b:HT}(h:Ch D P a b):a=b\/eB D a b:=by
 obtain⟨i,k,ni,nk,h1,rfl,h3,rfl,h5⟩:=h
 induction h5 generalizing ni with
 |refl _=>rw [h1]at h3;cases h3;exact .inl rfl
 | @step i j k hj hu ih=>
   have tF:=hu.lt;rw [H.len]at tF;obtain⟨m,hm⟩:∃m,D[j]? =some m:=⟨_,List.getElem?_eq_getElem tF⟩;have hp:mh D m.id ni.id:=jF.par H ⟨i,j,ni,m,h1,rfl,hj,hm,rfl⟩;rcases ih m hm h3 with e|e
   ·rw [e];exact .inr (.one hp)
   ·exact .inr (.more e hp)
theorem JW(W:jG D)(H:rR D P){a b:HT}(fD:a≠b):eB D a b↔Ch D P a b\/∃c,OF D P a c/\Ch D P c b:=by
 constructor
 ·intro h
  obtain⟨nb,Vg,e⟩:=cS.1 (h.mem W).2;obtain⟨i,hb⟩:=List.mem_iff_getElem?.1 Vg;clear Vg;subst e
  induction i using Nat.strongRecOn generalizing nb with
  |_ i ih=>
   have hi:0<i:=by
    rcases Nat.eq_zero_or_pos i with rfl|h0
    ·exfalso
     obtain⟨x,y,mx,my,o9,_,hy,_,e2⟩:=h.at_ W;have:=W.inj hy hb e2;omega
    ·exact h0
   obtain⟨j,m,hj,_,hm,hs⟩:=jF.ex H hi hb;by_cases e1:a=m.id
   ·exact .inl (Ch.step W hs (by rw [e1];exact Ch.refl H (cS.2 ⟨m,List.mem_of_getElem? hm,rfl⟩)))
   ·by_cases e2:eB D a m.id
    ·rcases ih j hj m hm e1 e2 with e3|⟨c,e3,e4⟩
     ·exact .inl (Ch.step W hs e3)
     ·exact .inr ⟨c,e3,Ch.step W hs e4⟩
    ·exact .inr ⟨nb.id,⟨h,m.id,hs,e1,e2⟩,Ch.refl H (cS.2 ⟨nb,List.mem_of_getElem? hb,rfl⟩)⟩
 ·rintro(h|⟨c,⟨h1,_⟩,h2⟩)
  ·exact(h.zr W H).resolve_left fD
  ·rcases h2.zr W H with e|e
   ·rw [<-e];exact h1
   ·exact h1.trans e
theorem rR.snoc(H:rR D P){nd:DN}{j:Nat}{m:DN}(hj:D[j]? =some m)(hm:m.id∈nd.ps)(jK:0<D.length):rR (D++ [nd]) (P++ [(j:Int)]) where
 len:=by simp [H.len]
 root:=by rw [List.getElem?_append_left (by rw [H.len];exact jK)];exact H.root
 up:=fun i p nd' hi hp ft=>by
  have tF:=(lgeS hj).1;by_cases h:i<D.length
  ·rw [List.getElem?_append_left (by rw [H.len];exact h)]at hp
   rw [List.getElem?_append_left h]at ft;obtain⟨j',m',e,h1,h2,h3⟩:=H.up i p nd' hi hp ft;exact⟨j',m',e,h1,by rw [List.getElem?_append_left (by omega)];exact h2,h3⟩
  ·have dY:=(lgeS ft).1
   have e:i=D.length:=by simp at dY;omega
   subst e;rw [<-H.len]at hp;simp at hp ft;subst hp ft;exact⟨j,m,rfl,tF,by rw [List.getElem?_append_left tF];exact hj,hm⟩
theorem oH(W:jG D)(H:rR D P){nd:DN}(hn:nd.id∉ids D){j:Nat}{m:DN}(hj:D[j]? =some m){s c:HT}:
 jF (D++ [nd]) (P++ [(j:Int)]) s c↔jF D P s c\/(c=nd.id/\s=m.id):=by
 have tF:=(lgeS hj).1;constructor
 ·rintro⟨i,k,ni,mk,h1,rfl,h3,h4,rfl⟩
  by_cases h:i<D.length
  ·rw [List.getElem?_append_left h]at h1
   rw [List.getElem?_append_left (by rw [H.len];exact h)]at h3;have hk:k<D.length:=by
    rcases Nat.eq_zero_or_pos i with rfl|h0
    ·rw [H.root]at h3;simp only [Option.some.injEq]at h3;omega
    ·obtain⟨k',_,e,h5,_⟩:=H.up i _ ni h0 h3 h1
     omega
   rw [List.getElem?_append_left hk]at h4;exact .inl ⟨i,k,ni,mk,h1,rfl,h3,h4,rfl⟩
  ·have dY:=(lgeS h1).1
   have e:i=D.length:=by simp at dY;omega
   subst e;have Cb:=h3;rw [<-H.len]at Cb;simp at h1 Cb;subst h1;have:k=j:=by omega
   subst this;rw [List.getElem?_append_left tF,hj]at h4;cases h4;exact .inr ⟨rfl,rfl⟩
 ·rintro(⟨i,k,ni,mk,h1,rfl,h3,h4,rfl⟩|⟨rfl,rfl⟩)
  ·have hi:=(lgeS h1).1
   have hk:=(lgeS h4).1;exact⟨i,k,ni,mk,by rw [List.getElem?_append_left hi];exact h1,rfl,by rw [List.getElem?_append_left (by rw [H.len];exact hi)];exact h3,by rw [List.getElem?_append_left hk];exact h4,rfl⟩
  ·exact⟨D.length,j,nd,m,by simp,rfl,by rw [<-H.len];simp,by rw [List.getElem?_append_left tF];exact hj,rfl⟩
theorem JM(W:jG D)(H:rR D P){nd:DN}(hn:nd.id∉ids D)(fQ:∀p∈nd.ps,p∈ids D){j:Nat}{m:DN}(hj:D[j]? =some m){h c:HT}:
 OF (D++ [nd]) (P++ [(j:Int)]) h c↔OF D P h c\/(c=nd.id/\eB (D++ [nd]) h nd.id/\h≠m.id/\¬eB D h m.id):=by
 have hm:m.id∈ids D:=cS.2 ⟨m,List.mem_of_getElem? hj,rfl⟩;have key:∀ {s c},jF D P s c->s∈ids D/\c∈ids D:=fun hs=>(eB.one (jF.par H hs)).mem W;constructor
 ·rintro⟨h1,s,hs,h2,h3⟩
  rcases(oH W H hn hj).1 hs with hs|⟨rfl,rfl⟩
  ·obtain⟨g1,g2⟩:=key hs
   exact .inl ⟨(jB W hn g2).1 h1,s,hs,h2,fun e=>h3 ((jB W hn g1).2 e)⟩
  ·exact .inr ⟨rfl,h1,h2,fun e=>h3 ((jB W hn hm).2 e)⟩
 ·rintro(⟨h1,s,hs,h2,h3⟩|⟨rfl,h1,h2,h3⟩)
  ·obtain⟨g1,g2⟩:=key hs
   exact⟨(jB W hn g2).2 h1,s,(oH W H hn hj).2 (.inl hs),h2,fun e=>h3 ((jB W hn g1).1 e)⟩
  ·exact⟨h1,m.id,(oH W H hn hj).2 (.inr ⟨rfl,rfl⟩),h2,fun e=>h3 ((jB W hn hm).1 e)⟩
inductive Up (P:List Int):Nat->List Nat->Prop
 |root:Up P 0 [0]
 |step {i j:Nat} {l:List Nat}:P[i]? =some (j:Int)->Up P j l->Up P i (i::l)
theorem Up.ex(hP:Tr.mh P):∀i,i<P.length->∃l,Up P i l:=by
 intro i
 induction i using Nat.strongRecOn with
 |_ i ih=>
  intro hi;rcases Nat.eq_zero_or_pos i with rfl|h0
  ·exact⟨[0],.root⟩
  ·obtain⟨j,h1,h2⟩:=hP.up i _ h0 (List.getElem?_eq_getElem hi)
   obtain⟨l,hl⟩:=ih j h1 (by omega);exact⟨i::l,.step (by rw [List.getElem?_eq_getElem hi,h2]) hl⟩
theorem Up.mem(hP:Tr.mh P){i:Nat}{l:List Nat}(h:Up P i l)(hi:i<P.length){k:Nat}:k∈l↔kY P i k:=by
 induction h with
 |root=>
  rw [List.mem_singleton];constructor
  ·rintro rfl;exact .refl hi
  ·intro h;have:=h.le hP;omega
 | @step i j l hj hu ih=>
   have tF:j<P.length:=by have:=(Tr.iD hP (Tr.eE.2 hj)).1;omega
   rw [List.mem_cons,ih tF];constructor
   ·rintro(rfl|h)
    ·exact .refl hi
    ·exact .step hj h
   ·intro h
    by_cases e:k=i
    ·exact .inl e
    ·exact .inr (h.inv (fun e'=>e e'.symm) hj)
theorem Up.one(hP:Tr.mh P){i:Nat}{l l':List Nat}(h:Up P i l)(h':Up P i l'):l=l':=by
 induction h generalizing l' with
 |root=>
  cases h' with
  |root=>rfl
  |step hj _=>rw [hP.root]at hj;simp only [Option.some.injEq]at hj;omega
 | @step i j l hj hu ih=>
   cases h' with
   |root=>rw [hP.root]at hj;simp only [Option.some.injEq]at hj;omega
   | @step _ j' l' wc IQ=>
     rw [hj]at wc;simp only [Option.some.injEq]at wc;have:j=j':=by omega
     subst this;rw [ih IQ]
theorem Up.head{i:Nat}{l:List Nat}(h:Up P i l):l[0]? =some i:=by cases h<;>rfl
theorem Up.len(hP:Tr.mh P){i:Nat}{l:List Nat}(h:Up P i l):l.length<=i+1:=by
 induction h with
 |root=>simp
 | @step i j l hj hu ih=>have:=(Tr.iD hP (Tr.eE.2 hj)).1;simp only [List.length_cons];omega
theorem Up.lt(hP:Tr.mh P){i:Nat}{l:List Nat}(h:Up P i l)(hi:i<P.length):∀k∈l,k<P.length:=fun k hk=>((h.mem hP hi).1 hk).X5
end
end Go.Proofs.YtfleamccglihoaaGreatDoor
namespace Go.Proofs.YtfleamccglihoaaGreatDoor
open Go.Proofs.Tryz
open Go Go.bV Go.RowKit
structure xF(mt te:TypeId)(z:Value):Prop where
 pB:prog.underlying mt=some (.map ag te)
 zero:∀w,(zeroValue te).run prog w=.ok z w
def assoc(h:HT):List (HT×Value)->Option Value
 | []=>none
 |(x,v)::l=>if h=x then some v else assoc h l
def mc(h:HT):List (HT×Value)->Nat->Option (Nat×Value)
 | [],_=>none
 |(x,v)::l,i=>if h=x then some (i,v)else mc h l (i+1)
theorem nE(h:HT):∀(l:List (HT×Value)) (i:Nat),(mc h l i).map (·.2)=assoc h l
 | [],_=>rfl
 |(x,v)::l,i=>by
  unfold mc assoc;split
  ·rfl
  ·exact nE h l (i+1)
theorem wx{h:HT}:∀ {l:List (HT×Value)} {i j:Nat} {v:Value},mc h l i=some (j,v)->i<=j/\l[j-i]? =some (h,v)/\∀(x:HT) (u:Value),assoc x (l.set (j-i) (h,u))=if x=h then some u else assoc x l
 | [],i,j,v,e=>by simp [mc]at e
 |(x,u)::l,i,j,v,e=>by
  unfold mc at e;split at e
  ·rename_i hx
   cases e;subst hx;refine⟨Nat.le_refl _,by rw [Nat.sub_self];rfl,fun x u=>?_⟩;rw [Nat.sub_self];simp only [List.set_cons_zero,assoc];by_cases hx:x=h<;>simp [hx]
  ·rename_i hx
   obtain⟨h1,h2,h3⟩:=wx e;have e1:j-i=(j-(i+1))+1:=by omega
   refine⟨by omega,by rw [e1];exact h2,fun y u'=>?_⟩;rw [e1];simp only [List.set_cons_succ,assoc,h3];by_cases hy:y=h
   ·subst hy;simp [hx]
   ·simp [hy]
theorem wL{h:HT}{v:Value}:∀ {l:List (HT×Value)},assoc h l=none->∀x,assoc x (l++ [(h,v)])=if x=h then some v else assoc x l
 | [],_,x=>by simp [assoc]
 |(y,u)::l,e,x=>by
  unfold assoc at e;split at e
  ·cases e
  ·rename_i hy
   have ih:=wL (v:=v) e x;simp only [List.cons_append,assoc,ih];by_cases hx:x=y
   ·subst hx;simp [Ne.symm hy]
   ·simp [hx]
def nR(es:List MapEntry)(l:List (HT×Value)):Prop:=match es,l with
 | [],[]=>True
 |e::es,p::l=>(e.key=.agg p.1.1/\e.val=p.2)/\nR es l
 |_,_=>False
theorem nR.snoc:∀ {es:List MapEntry} {l:List (HT×Value)} {e:MapEntry} {p:HT×Value},nR es l->e.key=.agg p.1.1->e.val=p.2->nR (es++ [e]) (l++ [p])
 | [],[],_,_,_,h1,h2=>⟨⟨h1,h2⟩,trivial⟩
 |_::_,_::_,_,_,he,h1,h2=>⟨he.1,nR.snoc he.2 h1 h2⟩
 | [],_::_,_,_,he,_,_=>he.elim
 |_::_,[],_,_,he,_,_=>he.elim
theorem nR.get:∀ {es:List MapEntry} {l:List (HT×Value)} {j:Nat} {p:HT×Value},nR es l->l[j]? =some p->∃e,es[j]? =some e/\e.key=.agg p.1.1/\e.val=p.2
 | [],[],_,_,_,h=>by simp at h
 |e::_,_::_,0,_,he,h=>by
  simp only [List.getElem?_cons_zero,Option.some.injEq]at h;subst h;exact⟨e,rfl,he.1⟩
 |_::_,_::_,j+1,_,he,h=>by
  obtain⟨e,h1,h2⟩:=nR.get he.2 (j:=j) (by simpa using h);exact⟨e,by simpa using h1,h2⟩
 | [],_::_,_,_,he,_=>he.elim
 |_::_,[],_,_,he,_=>he.elim
theorem nR.set:∀ {es:List MapEntry} {l:List (HT×Value)} {j:Nat} {p:HT×Value} {f:MapEntry->MapEntry},nR es l->(∀e,(f e).key=.agg p.1.1/\(f e).val=p.2)->nR (es.modify j f) (l.set j p)
 | [],[],_,_,_,he,_=>by simpa using he
 |_::_,_::_,0,_,_,he,hf=>⟨hf _,he.2⟩
 |_::_,_::_,j+1,_,_,he,hf=>by
  simp only [List.modify_succ_cons,List.set_cons_succ];exact⟨he.1,nR.set he.2 hf⟩
 | [],_::_,_,_,_,he,_=>he.elim
 |_::_,[],_,_,_,he,_=>he.elim
theorem nR.len:∀ {es:List MapEntry} {l:List (HT×Value)},nR es l->es.length=l.length
 | [],[],_=>rfl
 |_::_,_::_,he=>by simp [nR.len he.2]
 | [],_::_,he=>he.elim
 |_::_,[],he=>he.elim
section
variable{w:World}
theorem rX(h:HT)(w:World):∀(es:List MapEntry) (l:List (HT×Value)) (i:Nat),nR es l->
 (Instr.findAsking ag (.agg h.1) es i).run prog w=.ok (mc h l i) w
 | [],[],i,_=>by simp [Instr.findAsking,mc]
 |e::es,(x,v)::l,i,he=>by
  have hq:=vo h x w;have ih:=rX h w es l (i+1) he.2;simp only [Instr.findAsking,he.1.1,Sem.run_bind,hq,Result.andThen_ok];by_cases hx:h=x
  ·simp [hx,mc,he.1.2]
  ·simp [hx,mc,ih]
 | [],_::_,_,he=>he.elim
 |_::_,[],_,he=>he.elim
theorem ml(h:HT)(w:World){es:List MapEntry}{l:List (HT×Value)}(he:nR es l):
 (Instr.findKey ag (.agg h.1) es).run prog w=.ok (mc h l 0) w:=by
 have h1:=rX h w es l 0 he;simp only [Instr.findKey,Sem.run_bind,run_underlying KR,Result.andThen_ok];cases es with
 |nil=>
  cases l with
  |nil=>simp [Instr.findNow,mc]
  |cons x l=>exact he.elim
 |cons e es=>
  have:Instr.findNow (.array 32 jb) (.agg h.1) (e::es) 0=none:=by
   simp only [Instr.findNow,Instr.sameNow]
  rw [this];exact h1
theorem Fy(h:HT):Instr.sameBits 10000 (.agg h.1) (.agg h.1)=true:=by
 show Instr.sameBits (9999+1) (.agg h.1) (.agg h.1)=true
 rw [Instr.sameBits];simp only [beq_self_eq_true,Bool.true_and,List.all_eq_true];rintro⟨x,y⟩ o9;have hxe:x=y:=by
  obtain⟨i,hi⟩:=List.mem_iff_getElem?.1 o9;rw [List.getElem?_zip_eq_some]at hi;have:=hi.1.symm.trans hi.2;simpa using this
 subst hxe;have hm:=(List.of_mem_zip o9).1;obtain⟨n,rfl,_⟩:=h.2.2 x hm;simp [Instr.sameBits]
structure fV(w:World)(m:Nat)(f:HT->Option Value):Prop where
 ex:∃es clock l,w.heap[m]? =some (.map es clock)/\nR es.toList l/\(∀x,assoc x l=f x)/\(∀e∈es.toList,e.born<clock)/\(es.toList.map (·.born)).Nodup/\(l.map (·.1)).Nodup
theorem fV.aF{S:Nat->Prop}{w w':World}{m:Nat}{f:HT->Option Value}(h:fV w m f)(hk:Kept S w w')(hn:¬S m):fV w' m f:=by
 obtain⟨es,clock,l,h1,h2⟩:=h.ex;exact⟨es,clock,l,hk.heap h1 hn,h2⟩
theorem fV.same{w w':World}{m:Nat}{f:HT->Option Value}(h:fV w m f)(hk:Kept Nil w w'):fV w' m f:=h.aF hk (fun h=>h)
theorem fV.lt{w:World}{m:Nat}{f:HT->Option Value}(h:fV w m f):m<w.heap.size:=by
 obtain⟨es,clock,l,h1,_⟩:=h.ex;exact aV h1
theorem fV.new(w:World):fV (w.alloc (.map #[] 0)) w.heap.size (fun _=>none):=⟨#[],0,[],aI w _,trivial,fun _=>rfl,by simp,by simp,by simp⟩
theorem fV.look{mt te:TypeId}{z:Value}(T:xF mt te z){m:Nat}{f:HT->Option Value}(hm:fV w m f)(h:HT):
 (Instr.lookup mt (.map (some m)) (.agg h.1) false).run prog w=.ok ((f h).getD z) w:=by
 obtain⟨es,clock,l,h1,h2,h3,_⟩:=hm.ex;have h4:=ml h w h2;have h5:=nE h l 0;rw [h3]at h5;simp only [Instr.lookup,Sem.run_bind,run_underlying T.pB,qf h1,Result.andThen_ok,Sem.run_pure,jt,h4];cases hp:mc h l 0 with
 |none=>rw [hp]at h5;simp [<-h5,T.zero]
 |some p=>rw [hp]at h5;simp [<-h5]
theorem fV.put{mt te:TypeId}{z:Value}(T:xF mt te z){m:Nat}{f:HT->Option Value}(hm:fV w m f)(h:HT)(v:Value):
 ∃w',(Instr.mapUpdate mt (.map (some m)) (.agg h.1) v).run prog w=.ok () w'/\fV w' m (fun x=>if x=h then some v else f x)/\Kept (· =m) w w':=by
 obtain⟨es,clock,l,h1,h2,h3,hb,hd,hk⟩:=hm.ex;have h4:=ml h w h2;have kept:∀o,Kept (· =m) w {w with heap:=w.heap.setIfInBounds m o}:=fun o=>⟨rfl,rfl,rfl,by simp,fun k _ hk=>by simp [Ne.symm hk]⟩;cases hp:mc h l 0 with
 |none=>
  rw [hp]at h4;have h5:=nE h l 0;rw [hp]at h5;refine⟨{w with heap:=w.heap.setIfInBounds m (.map (es.push {key:=.agg h.1,val:=v,born:=clock}) (clock+1))},?_,⟨es.push {key:=.agg h.1,val:=v,born:=clock},clock+1,l++ [(h,v)],?_,?_,?_,?_,?_,?_⟩,kept _⟩
  ·simp only [Instr.mapUpdate,Sem.run_bind,run_underlying T.pB,qf h1,Result.andThen_ok,jt,h4,Co _ h1]
  ·simp [aV h1]
  ·have:=h2.snoc (e:= {key:=.agg h.1,val:=v,born:=clock}) (p:=(h,v)) rfl rfl
   simpa using this
  ·intro x
   rw [wL h5.symm,h3]
  ·intro e he
   rw [Array.toList_push,List.mem_append,List.mem_singleton]at he;rcases he with he|rfl
   ·have:=hb e he;omega
   ·exact Nat.lt_succ_self _
  ·rw [Array.toList_push,List.map_append,List.nodup_append]
   refine⟨hd,by simp,fun a ha b xo e=>?_⟩;simp only [List.map_cons,List.map_nil,List.mem_singleton]at xo;obtain⟨e',Mh,rfl⟩:=List.mem_map.1 ha;have:=hb e' Mh;omega
  ·rw [List.map_append,List.nodup_append]
   refine⟨hk,by simp,fun a ha b xo e=>?_⟩;simp only [List.map_cons,List.map_nil,List.mem_singleton]at xo;subst xo;subst e;have key:∀l:List (HT×Value),a∈l.map (·.1)->assoc a l≠none:=fun l=>by
    induction l with
    |nil=>simp
    |cons p l ih=>
     obtain⟨y,u⟩:=p;intro hm;unfold assoc;split
     ·simp
     ·rename_i hy
      simp only [List.map_cons,List.mem_cons]at hm;exact ih (hm.resolve_left hy)
   exact key l ha h5.symm
 |some p=>
  obtain⟨j,u⟩:=p;rw [hp]at h4;obtain⟨_,h6,h7⟩:=wx hp;rw [Nat.sub_zero]at h6 h7;obtain⟨e,he1,Sg,_⟩:=h2.get h6;have hes:es[j]? =some e:=by simpa using he1
  refine⟨{w with heap:=w.heap.setIfInBounds m (.map (es.modify j fun e=> {e with key:=.agg h.1,val:=v}) clock)},?_,⟨es.modify j fun e=> {e with key:=.agg h.1,val:=v},clock,l.set j (h,v),?_,?_,?_,?_,?_,?_⟩,kept _⟩
  ·simp only [Instr.mapUpdate,Sem.run_bind,run_underlying T.pB,qf h1,Result.andThen_ok,jt,h4,Instr.keyThatStays,hes,Option.map_some,Option.getD_some,Sg,Fy,if_true,Sem.run_pure,Co _ h1]
  ·simp [aV h1]
  ·rw [Array.toList_modify]
   exact h2.set (p:=(h,v)) fun e=>⟨rfl,rfl⟩
  ·intro x
   rw [h7,h3]
  ·intro x hx
   rw [Array.toList_modify]at hx;obtain⟨i,hi⟩:=List.mem_iff_getElem?.1 hx;rw [List.getElem?_modify]at hi;cases hg:es.toList[i]? with
   |none=>rw [hg]at hi;simp at hi
   |some y=>
    rw [hg]at hi;have:=hb y (List.mem_of_getElem? hg);by_cases rf:j=i
    ·simp [rf]at hi
     rw [<-hi];exact this
    ·simp [rf]at hi
     rw [<-hi];exact this
  ·have:(es.modify j fun e=> {e with key:=.agg h.1,val:=v}).toList.map (·.born)=es.toList.map (·.born):=by
    rw [Array.toList_modify];apply List.ext_getElem?;intro i;rw [List.getElem?_map,List.getElem?_map,List.getElem?_modify];cases es.toList[i]? with
    |none=>simp
    |some y=>by_cases rf:j=i<;>simp [rf]
   rw [this];exact hd
  ·have:(l.set j (h,v)).map (·.1)=l.map (·.1):=by
    apply List.ext_getElem?;intro i;rw [List.getElem?_map,List.getElem?_map,List.getElem?_set];by_cases rf:j=i
    ·subst rf
     have cU:=(lgeS h6).1;have gE:=(lgeS h6).2;simp [cU,gE]
    ·simp [rf]
   rw [this];exact hk
end
end Go.Proofs.YtfleamccglihoaaGreatDoor
namespace Go.Proofs.YtfleamccglihoaaGreatDoor
open Go.Proofs.Tryz
open Go Go.bV Go.RowKit
open Tr (kY)
theorem uN{te:TypeId}{z:Value}(h:(prog.info? te).bind (·.zero)=some z)(w:World):(zeroValue te).run prog w=.ok z w:=by
 cases hi:prog.info? te with
 |none=>rw [hi]at h;cases h
 |some i=>
  rw [hi]at h;have hz:i.zero=some z:=h;simp [zeroValue,typeInfo,hi,hz]
theorem yN:xF gX ay (.slice none 0 0):=⟨by kernel_rfl,uN (by kernel_rfl)⟩
theorem H8:xF lW tM (.agg #[.bool false]):=⟨by kernel_rfl,uN (by kernel_rfl)⟩
structure XM where
 g:Nat
 t:Nat
 mb:Nat
 ib:Nat
 ic:Nat
 cb:Nat
 T:List Tr.Nd
 d:Int
 SG:Nat->Prop
 ST:Nat->Prop
 SO:Nat->Prop
def XM.own(m:XM)(x k:Nat):Prop:=k=x\/k=m.mb\/k=m.ib\/k=m.cb
def XM.ly(m:XM)(x k:Nat):Prop:=m.SG k\/m.ST k\/m.SO k\/m.own x k
def o7(w:World)(SO:Nat->Prop)(N:Nat)(v:Option Value)(l:List HT):Prop:=
 (v=none/\l= [])\/∃(A:Option Addr) (n c:Nat),v=some (.slice A n c)/\n<=c/\HS w A n l/\n<=N/\∀a,A=some a->SO a.block
structure XV(w:World)(F:Nat->Prop)(x:Nat)(D:DG)(P:List Int)(m:XM):Prop where
 top:w.heap[x]? =some (.cells #[.pointer (some ⟨m.g,0,none⟩),.pointer (some ⟨m.t,0,none⟩),.map (some m.mb),.slice (some ⟨m.ib,0,none⟩) D.length m.ic,.map (some m.cb)] eZ (0,0))
 G:DL w m.SG F m.g D
 T:Tr.pC w m.ST m.t m.T m.d
 Mz:Tr.xG m.T
 bY:Tr.bY m.T=P
 dl:0<=m.d/\m.d<=D.length
 at_:IsMap w m.mb (ids D)
 row:bM w 0 (some ⟨m.ib,0,none⟩) D.length m.ic (ids D)
 Y6:∃f,fV w m.cb f/\∀h,∃l,o7 w m.SO D.length (f h) l/\∀c,c∈l↔OF D P h c
 gQ:rR D P
 W:jG D
 gt:∀k,m.SG k->¬m.ST k/\¬m.SO k
 to:∀k,m.ST k->¬m.SO k
 fd:∀k,F k->¬m.ST k/\¬m.SO k
 od:∀k,m.own x k->¬m.SG k/\¬m.ST k/\¬m.SO k/\¬F k
 ne:x≠m.mb/\x≠m.ib/\x≠m.cb/\m.mb≠m.ib/\m.mb≠m.cb/\m.ib≠m.cb
 low:∀k,m.ly x k\/F k->k<w.heap.size
def DK(w:World)(S F:Nat->Prop)(x:Nat)(D:DG)(P:List Int):Prop:=∃m,XV w F x D P m/\∀k,m.ly x k->S k
section
variable{w w':World}{F S:Nat->Prop}{x:Nat}{D:DG}{P:List Int}{m:XM}{K:Value->World->Prop}
theorem o7.aF{S0 SO:Nat->Prop}{N:Nat}{v:Option Value}{l:List HT}(h:o7 w SO N v l)(hk:Kept S0 w w')(hn:∀k,SO k->¬S0 k):o7 w' SO N v l:=by
 rcases h with h|⟨A,n,c,h1,h2,h3,h4,h5⟩
 ·exact .inl h
 ·exact .inr ⟨A,n,c,h1,h2,h3.aF hk (fun a ha=>hn _ (h5 a ha)),h4,h5⟩
theorem XV.aF{S0:Nat->Prop}(h:XV w F x D P m)(hk:Kept S0 w w')(hS:∀k,m.ly x k->¬S0 k)(hF:∀k,F k->¬S0 k):XV w' F x D P m where
 top:=hk.heap h.top (hS _ (.inr (.inr (.inr (.inl rfl)))))
 G:=h.G.aF hk (fun k e=>hS k (.inl e)) hF
 T:=h.T.aF hk (fun k e=>hS k (.inr (.inl e)))
 Mz:=h.Mz
 bY:=h.bY
 dl:=h.dl
 at_:=h.at_.aF hk (hS _ (.inr (.inr (.inr (.inr (.inl rfl))))))
 row:=Row.aF h.row hk (fun k e=>by cases e;exact hS _ (.inr (.inr (.inr (.inr (.inr (.inl rfl)))))))
 Y6:=by
  obtain⟨f,h1,h2⟩:=h.Y6;refine⟨f,h1.aF hk (hS _ (.inr (.inr (.inr (.inr (.inr (.inr rfl))))))),fun y=>?_⟩;obtain⟨l,h3,h4⟩:=h2 y;exact⟨l,h3.aF hk (fun k e=>hS k (.inr (.inr (.inl e)))),h4⟩
 gQ:=h.gQ
 W:=h.W
 gt:=h.gt
 to:=h.to
 fd:=h.fd
 od:=h.od
 ne:=h.ne
 low:=fun k e=>Nat.lt_of_lt_of_le (h.low k e) hk.size
theorem XV.same(h:XV w F x D P m)(hk:Kept Nil w w'):XV w' F x D P m:=h.aF hk (fun _ _ h=>h) (fun _ _ h=>h)
theorem DK.aF{S0:Nat->Prop}(h:DK w S F x D P)(hk:Kept S0 w w')(hS:∀k,S k->¬S0 k)(hF:∀k,F k->¬S0 k):DK w' S F x D P:=
 let ⟨m,h1,h2⟩:=h;⟨m,h1.aF hk (fun k e=>hS k (h2 k e)) hF,h2⟩
theorem DK.same(h:DK w S F x D P)(hk:Kept Nil w w'):DK w' S F x D P:=h.aF hk (fun _ _ h=>h) (fun _ _ h=>h)
theorem XV.c0(h:XV w F x D P m):w.cell? ((⟨x,0,none⟩:Addr).add 0)=some (.pointer (some ⟨m.g,0,none⟩)):=by rw [bt,aD h.top];rfl
theorem XV.c1(h:XV w F x D P m):w.cell? ((⟨x,0,none⟩:Addr).add 1)=some (.pointer (some ⟨m.t,0,none⟩)):=by rw [bt,aD h.top];rfl
theorem XV.c2(h:XV w F x D P m):w.cell? ((⟨x,0,none⟩:Addr).add 2)=some (.map (some m.mb)):=by rw [bt,aD h.top];rfl
theorem XV.c3(h:XV w F x D P m):w.cell? ((⟨x,0,none⟩:Addr).add 3)=some (.slice (some ⟨m.ib,0,none⟩) D.length m.ic):=by rw [bt,aD h.top];rfl
theorem XV.c4(h:XV w F x D P m):w.cell? ((⟨x,0,none⟩:Addr).add 4)=some (.map (some m.cb)):=by rw [bt,aD h.top];rfl
theorem XV.O0(h:XV w F x D P m):m.T.length=D.length:=by
 have:=Tr.fi m.T;rw [h.bY,h.gQ.len]at this;exact this.symm
theorem XV.pB(h:XV w F x D P m){i k:Nat}{id kd:Tr.Nd}(hi:m.T[i]? =some id)(hk:m.T[k]? =some kd):decide (kd.lo<=id.lo/\id.hi<=kd.hi)=true↔kY P i k:=by
 rw [decide_eq_true_iff,<-h.bY];exact h.Mz.under hi hk
theorem EF(a b:HT):a.1.toList++(b.1.toList++ [])=df [a,b]:=by simp [df]
theorem tV(h:XV w F x D P m)(hK:K (.bool true) w):bz prog fw.id #[.pointer (some ⟨x,0,none⟩)] w K:=
 fw.of (Split.yes rfl ⟨_,h.c0,hK⟩)
theorem zj{xb:Nat}(h:XV w F x D P m)(hg:w.heap[xb]? =some (.cells #[.pointer (some ⟨x,0,none⟩)] gA (0,0))){A:Option Addr}{n cx:Nat}{l:List HT}(hl:HS w A n l)(hn:n<=400000)
 (hK:∀w' (b:Bool),(b=true↔∃p∈l,p∉ids D)->Kept Nil w w'->K (.bool b) w'):
 bz prog dQ.id #[.slice A n cx,.func (.func dJ.id) #[] #[.pointer (some ⟨xb,0,none⟩)]] w K:=by
 have hlen:=hl.len;refine ck.of (au.of ?_);refine au.cy (I:=fun s w'=>∃i:Nat,s=(0,(i:Int))/\i<=n/\(∀p∈l.take i,p∈ids D)/\Kept Nil w w') (μ:=fun s _=>((n:Int)-s.2).toNat) (s:=(0,0)) ⟨0,rfl,Nat.zero_le _,by simp,Kept.refl _ _⟩ ?_;rintro s w' ⟨i,rfl,hi,dm,kw⟩;refine Split.dec (fun jQ=>?_) (fun gE=>?_)
 ·simp only at jQ
  have dY:i<n:=by omega
  obtain⟨y,hy⟩:∃y,l[i]? =some y:=⟨_,List.getElem?_eq_getElem (by omega)⟩;refine(hl.same kw).load (i:=(i:Int)) (by omega) hy ?_;refine dJ.of ?_;unfold dJ.W;intro w3 w4;have k3:Kept Nil w' w3:=(Kept.refl _ _).alloc _;have nC:w3.heap[w'.heap.size]? =some (.cells y.1 ag (0,0)):=aI w' _;have k4:Kept Nil w3 w4:=(Kept.refl _ _).drew;clear_value w4;have pg:=k4.heap nC (fun h=>h);have Ii:=(kw.tt k3).tt k4;obtain⟨bl,c,mb,M,G⟩:=(h.same Ii).G;refine⟨some ⟨x,0,none⟩,by rw [aD (Ii.heap hg (fun h=>h))];rfl,_,(h.same Ii).c0,y.1,⟨y.2.1,Cells.bJ pg⟩,uY G y fun w7 k7=>⟨_,rfl,_,rfl,?_⟩⟩;have CC:=Ii.tt k7;by_cases hm:y∈ids D
  ·refine Split.no (by rw [decide_eq_true hm];rfl) ?_
   simp only;rw [dH (n:=(i:Int)) (by omega) (by omega)];refine⟨(0,(i:Int)+1),rfl,⟨i+1,rfl,dY,fun p hp=>?_,CC⟩,by simp only;omega⟩;rcases(bN hy).1 hp with hp|rfl
   ·exact dm p hp
   ·exact hm
  ·refine Split.yes (by rw [decide_eq_false hm];rfl) ?_
   refine⟨(i:Int),rfl,?_⟩;exact hK w7 _ ⟨fun _=>⟨y,List.mem_of_getElem? hy,hm⟩,fun _=>decide_eq_true (by omega)⟩ CC
 ·simp only at gE
  rw [aS,au.dq];rw [List.take_of_length_le (by omega)]at dm;exact⟨-1,rfl,hK w' _ ⟨fun h=>absurd (of_decide_eq_true h) (by omega),fun⟨p,hp,hn⟩=>absurd (dm p hp) hn⟩ kw⟩
theorem qy(h:XV w F x D P m){A:Option Addr}{n cx:Nat}{l:List HT}(hl:HS w A n l)(hn:n<=400000)(hK:∀w',Kept Nil w w'->K (.bool (decide (∀p∈l,p∈ids D))) w'):
 bz prog fJ.id #[.pointer (some ⟨x,0,none⟩),.slice A n cx] w K:=by
 refine fJ.of ?_;unfold fJ.W;intro w3;have k3:Kept Nil w w3:=(Kept.refl _ _).alloc _;have nC:w3.heap[w.heap.size]? =some (.cells #[.pointer (some ⟨x,0,none⟩)] gA (0,0)):=aI w _;clear_value w3;refine⟨_,by rw [aD nC];rfl,tV (h.same k3) ⟨true,rfl,Split.yes rfl ?_⟩⟩;refine zj (h.same k3) nC (hl.same k3) hn fun w9 b hb k9=>⟨b,rfl,?_⟩;have:(!b)=decide (∀p∈l,p∈ids D):=by
  rw [Bool.eq_iff_iff,decide_eq_true_iff,Bool.not_eq_true',<-Bool.not_eq_true,hb];constructor
  ·exact fun hn p hp=>Classical.byContradiction fun hc=>hn ⟨p,hp,hc⟩
  ·rintro ha ⟨p,hp,hc⟩;exact hc (ha p hp)
 rw [this];exact hK w9 (k3.tt k9)
theorem tW(h:XV w F x D P m)(a b:HT)(hK:∀w' (r:Bool),(r=true↔Ch D P a b)->Kept Nil w w'->K (.bool r) w'):
 bz prog eN.id #[.pointer (some ⟨x,0,none⟩),.agg a.1,.agg b.1] w K:=by
 refine eN.of ?_;unfold eN.W;intro w4 w5 w6;have k4:Kept Nil w w4:=(Kept.refl _ _).alloc _;have xq:w4.heap[w.heap.size]? =some (.cells a.1 ag (0,0)):=aI w _;have k5:Kept Nil w4 w5:=(Kept.refl _ _).alloc _;have oD:w5.heap[w4.heap.size]? =some (.cells b.1 ag (0,0)):=aI w4 _;have k6:Kept Nil w5 w6:=(Kept.refl _ _).drew;clear_value w6;have xp:=(k5.tt k6).heap xq (fun h=>h);have qR:=k6.heap oD (fun h=>h);have o8:=(k4.tt k5).tt k6;refine⟨a.1,⟨a.2.1,Cells.bJ xp⟩,b.1,⟨b.2.1,Cells.bJ qR⟩,a.2.1,b.2.1,?_⟩;intro w9;have k9:Kept Nil w6 w9:=(Kept.refl _ _).alloc _;have hx9:HS w9 (some ⟨w6.heap.size,0,none⟩) 2 [a,b]:=HS.lay (l:= [a,b]) (t:=ag) (by rw [<-EF a b];exact aI w6 _);clear_value w9;have BW:=o8.tt k9;refine qy (h.same BW) hx9 (by omega) fun qU Hb=>⟨_,rfl,?_⟩;have PQ:=BW.tt Hb;have Ot:=h.same PQ;by_cases dm:∀p∈ [a,b],p∈ids D
 ·refine Split.yes (decide_eq_true dm) ?_
  obtain⟨na,LY,ea⟩:=cS.1 (dm a (by simp));obtain⟨nb,Vg,eb⟩:=cS.1 (dm b (by simp));obtain⟨k,hk⟩:=List.mem_iff_getElem?.1 LY;obtain⟨i,hi⟩:=List.mem_iff_getElem?.1 Vg;have B8:=(lgeS hk).1;have dY:=(lgeS hi).1;have htl:=h.O0;obtain⟨kd,VN⟩:=Tr.gv (T:=m.T) (i:=k) (by omega);obtain⟨nd,ft⟩:=Tr.gv (T:=m.T) (i:=i) (by omega);have Px:=k9.tt Hb;have l1:=Ot.at_.xZ b;have l2:=Ot.at_.xZ a;rw [<-eb,h.W.pos_eq hi]at l1;rw [<-ea,h.W.pos_eq hk]at l2;rw [eb]at l1;rw [ea]at l2;refine⟨_,Ot.c1,_,Ot.c2,b.1,⟨b.2.1,Cells.bJ (Px.heap qR (fun h=>h))⟩,_,l1,_,Ot.c2,a.1,⟨a.2.1,Cells.bJ (Px.heap xp (fun h=>h))⟩,_,l2,?_⟩;refine Tr.Cj Ot.T ft VN fun mB p9=>⟨_,rfl,hK mB _ ?_ (PQ.tt p9)⟩;rw [h.pB ft VN];constructor
  ·exact fun hu=>⟨i,k,nb,na,hi,eb,hk,ea,hu⟩
  ·rintro⟨i',k',ni,nk,h1,h2,h3,h4,h5⟩
   have e1:=h.W.inj h1 hi (by rw [h2,eb]);have e2:=h.W.inj h3 hk (by rw [h4,ea]);rw [<-e1,<-e2];exact h5
 ·refine Split.no (decide_eq_false dm) (hK qU false ⟨(fun e=>by cases e),fun e=>absurd (fun p hp=>?_) dm⟩ PQ)
  simp only [List.mem_cons,List.not_mem_nil,or_false]at hp;rcases hp with rfl|rfl
  ·exact e.mem.1
  ·exact e.mem.2
theorem wC{xb bb:Nat}{b:HT}(h:XV w F x D P m)(hg:w.heap[xb]? =some (.cells #[.pointer (some ⟨x,0,none⟩)] gA (0,0)))(hb:w.heap[bb]? =some (.cells b.1 ag (0,0))){A:Option Addr}{n cx:Nat}{l:List HT}(hl:HS w A n l)(hn:n<=400000)
 (hK:∀w' (r:Bool),(r=true↔∃c∈l,Ch D P c b)->Kept Nil w w'->K (.bool r) w'):
 bz prog dQ.id #[.slice A n cx,.func (.func cY.id) #[] #[.pointer (some ⟨xb,0,none⟩),.pointer (some ⟨bb,0,none⟩)]] w K:=by
 have hlen:=hl.len;refine b6.of (an.of ?_);refine an.cy (I:=fun s w'=>∃i:Nat,s=(0,(i:Int))/\i<=n/\(∀p∈l.take i,¬Ch D P p b)/\Kept Nil w w') (μ:=fun s _=>((n:Int)-s.2).toNat) (s:=(0,0)) ⟨0,rfl,Nat.zero_le _,by simp,Kept.refl _ _⟩ ?_;rintro s w' ⟨i,rfl,hi,dm,kw⟩;refine Split.dec (fun jQ=>?_) (fun gE=>?_)
 ·simp only at jQ
  have dY:i<n:=by omega
  obtain⟨y,hy⟩:∃y,l[i]? =some y:=⟨_,List.getElem?_eq_getElem (by omega)⟩;refine(hl.same kw).load (i:=(i:Int)) (by omega) hy ?_;refine cY.of ?_;unfold cY.W;intro w4;have k4:Kept Nil w' w4:=(Kept.refl _ _).alloc _;have pg:w4.heap[w'.heap.size]? =some (.cells y.1 ag (0,0)):=aI w' _;clear_value w4;have Ii:=kw.tt k4;refine⟨some ⟨x,0,none⟩,by rw [aD (Ii.heap hg (fun h=>h))];rfl,y.1,⟨y.2.1,Cells.bJ pg⟩,b.1,⟨b.2.1,Cells.bJ (Ii.heap hb (fun h=>h))⟩,tW (h.same Ii) y b fun w7 r hr k7=>⟨r,rfl,r,rfl,?_⟩⟩;have CC:=Ii.tt k7;cases r with
  |false=>
   refine Split.no rfl ?_;simp only;rw [dH (n:=(i:Int)) (by omega) (by omega)];refine⟨(0,(i:Int)+1),rfl,⟨i+1,rfl,dY,fun p hp hc=>?_,CC⟩,by simp only;omega⟩;rcases(bN hy).1 hp with hp|rfl
   ·exact dm p hp hc
   ·cases hr.2 hc
  |true=>
   refine Split.yes rfl ⟨(i:Int),rfl,?_⟩;exact hK w7 _ ⟨fun _=>⟨y,List.mem_of_getElem? hy,hr.1 rfl⟩,fun _=>decide_eq_true (by omega)⟩ CC
 ·simp only at gE
  rw [aS,an.dq];rw [List.take_of_length_le (by omega)]at dm;exact⟨-1,rfl,hK w' _ ⟨fun h=>absurd (of_decide_eq_true h) (by omega),fun⟨p,hp,hn⟩=>absurd hn (dm p hp)⟩ kw⟩
theorem mo(h:XV w F x D P m)(hD:D.length<=5000)(a b:HT)(hK:∀w' (r:Bool),(r=true↔eB D a b)->Kept Nil w w'->K (.bool r) w'):
 bz prog dX.id #[.pointer (some ⟨x,0,none⟩),.agg a.1,.agg b.1] w K:=by
 refine dX.of ?_;unfold dX.W;intro w4 w5 w6;have k4:Kept Nil w w4:=(Kept.refl _ _).alloc _;have Ur:w4.heap[w.heap.size]? =some (.cells #[.pointer (some ⟨x,0,none⟩)] gA (0,0)):=aI w _;have k5:Kept Nil w4 w5:=(Kept.refl _ _).alloc _;have Mq:w5.heap[w4.heap.size]? =some (.cells a.1 ag (0,0)):=aI w4 _;have k6:Kept Nil w5 w6:=(Kept.refl _ _).alloc _;have qR:w6.heap[w5.heap.size]? =some (.cells b.1 ag (0,0)):=aI w5 _;clear_value w6;have xp:=k6.heap Mq (fun h=>h);have IN:=(k5.tt k6).heap Ur (fun h=>h);have o8:=(k4.tt k5).tt k6;refine⟨_,by rw [aD IN];rfl,a.1,⟨a.2.1,Cells.bJ xp⟩,b.1,⟨b.2.1,Cells.bJ qR⟩,a.2.1,b.2.1,?_⟩;intro w10;have mD:Kept Nil w6 w10:=(Kept.refl _ _).alloc _;have LK:HS w10 (some ⟨w6.heap.size,0,none⟩) 2 [a,b]:=HS.lay (l:= [a,b]) (t:=ag) (by rw [<-EF a b];exact aI w6 _);clear_value w10;have CJ:=o8.tt mD;refine qy (h.same CJ) LK (by omega) fun lY xg=>⟨_,rfl,?_⟩;have tq:=CJ.tt xg;have CE:=mD.tt xg;by_cases dm:∀p∈ [a,b],p∈ids D
 ·refine Split.no (by rw [decide_eq_true dm];rfl) ?_
  have ac6:=CE.heap xp (fun h=>h);have acZ:=CE.heap qR (fun h=>h);refine⟨a.1,⟨a.2.1,Cells.bJ ac6⟩,b.1,⟨b.2.1,Cells.bJ acZ⟩,⟨a.2.ints,b.2.ints⟩,?_⟩;rw [dC];refine Split.dec (fun he=>?_) (fun he=>?_)
  ·subst he
   exact hK lY false ⟨(fun e=>by cases e),fun e=>absurd e (eB.irrefl h.W a)⟩ tq
  ·intro jO
   have nM:Kept Nil lY jO:=(Kept.refl _ _).drew;clear_value jO;have Uf:=tq.tt nM;have Lv:=CE.tt nM;refine⟨_,by rw [aD (Lv.heap IN (fun h=>h))];rfl,a.1,⟨a.2.1,Cells.bJ (Lv.heap xp (fun h=>h))⟩,b.1,⟨b.2.1,Cells.bJ (Lv.heap qR (fun h=>h))⟩,?_⟩;refine tW (h.same Uf) a b fun zM r hr Iy=>⟨r,rfl,?_⟩;have PL:=Uf.tt Iy;have Lu:=Lv.tt Iy;cases r with
   |true=>exact Split.yes rfl (hK zM true ⟨fun _=>(JW h.W h.gQ he).2 (.inl (hr.1 rfl)),fun _=>rfl⟩ PL)
   |false=>
    refine Split.no rfl ?_;have h21:=h.same PL;obtain⟨f,hf,Wn⟩:=h21.Y6;obtain⟨l,hl,iY⟩:=Wn a;have Ez:=hf.look yN a;have fin:∀ {A:Option Addr} {n c:Nat},(f a).getD (.slice none 0 0)=.slice A n c->HS zM A n l->n<=D.length->
     bz prog dQ.id #[.slice A n c,.func (.func cY.id) #[] #[.pointer (some ⟨w.heap.size,0,none⟩),.pointer (some ⟨w5.heap.size,0,none⟩)]] zM fun v28 Zo=>∃t:Bool,v28=.bool t/\K (.bool t) Zo:=fun _ hs hn=>
     wC h21 (Lu.heap IN (fun h=>h)) (Lu.heap qR (fun h=>h)) hs (by omega) fun wT r2 jP Lz=>⟨r2,rfl,hK wT r2 (by
      rw [jP,JW h.W h.gQ he];constructor
      ·rintro⟨c,h1,h2⟩;exact .inr ⟨c,(iY c).1 h1,h2⟩
      ·rintro(h1|⟨c,h1,h2⟩)
       ·cases hr.2 h1
       ·exact⟨c,(iY c).2 h1,h2⟩) (PL.tt Lz)⟩
    refine⟨some ⟨x,0,none⟩,by rw [aD (Lu.heap IN (fun h=>h))];rfl,_,h21.c4,a.1,⟨a.2.1,Cells.bJ (Lu.heap xp (fun h=>h))⟩,?_⟩;rcases hl with⟨h1,rfl⟩|⟨A,n,c,h1,h2,h3,h4,h5⟩
    ·rw [h1]at Ez
     exact⟨none,0,0,Ez,fin (by rw [h1];rfl) (HS.nil _ _) (by omega)⟩
    ·rw [h1]at Ez
     exact⟨A,n,c,Ez,fin (by rw [h1];rfl) h3 h4⟩
 ·refine Split.yes (by rw [decide_eq_false dm];rfl) (hK lY false ⟨(fun e=>by cases e),fun e=>absurd (fun p hp=>?_) dm⟩ tq)
  simp only [List.mem_cons,List.not_mem_nil,or_false]at hp;rcases hp with rfl|rfl
  ·exact(e.mem h.W).1
  ·exact(e.mem h.W).2
end
end Go.Proofs.YtfleamccglihoaaGreatDoor
namespace Go.Proofs.YtfleamccglihoaaGreatDoor
open Go.Proofs.Tryz
open Go Go.bV Go.RowKit
section
variable{w w':World}{K:Value->World->Prop}
theorem yq{A:Option Addr}{n c:Nat}(Gq:n<=c)(hK:K (.slice A n n) w):bz prog dv.id #[.slice A n c] w K:=by
 refine dv.of ⟨⟨by omega,by omega⟩,⟨by omega,by simp⟩,?_⟩;have e:(if(n:Int).toNat=0 then A else A.map (·.add (0*32)))=A:=by
  split
  ·rfl
  ·cases A with
   |none=>rfl
   |some a=>simp [add_zero]
 rw [e];simpa using hK
theorem ri{A:Option Addr}{n c:Nat}{l:List HT}(h:HT)(hl:HS w A n l)(hn:n<=1000000)(hK:∀w',Kept Nil w w'->K (.bool (decide (h∈l))) w'):
 bz prog cP.id #[.slice A n c,.agg h.1] w K:=by
 have hlen:=hl.len;refine cP.of ?_;unfold cP.W;intro w3;have k3:Kept Nil w w3:=(Kept.refl _ _).alloc _;have nC:w3.heap[w.heap.size]? =some (.cells h.1 ag (0,0)):=aI w _;clear_value w3;refine⟨h.1,⟨h.2.1,Cells.bJ nC⟩,?_⟩;refine aK.of ?_;unfold aK.W;intro w4;have k4:Kept Nil w3 w4:=(Kept.refl _ _).alloc _;have pg:w4.heap[w3.heap.size]? =some (.cells h.1 ag (0,0)):=aI w3 _;clear_value w4;have mE:=k3.tt k4;refine aK.cy (I:=fun s w'=>∃i:Nat,s=(0,(i:Int))/\i<=n/\Kept Nil w4 w'/\h∉l.take i) (μ:=fun s _=>((n:Int)-s.2).toNat) (s:=(0,0)) ⟨0,rfl,Nat.zero_le _,Kept.refl _ _,by simp⟩ ?_;rintro s w' ⟨i,rfl,hi,kw,kW⟩;refine Split.dec (fun cU=>?_) (fun gE=>?_)
 ·simp only at cU
  have dY:i<n:=by omega
  obtain⟨y,hy⟩:∃y,l[i]? =some y:=⟨_,List.getElem?_eq_getElem (by omega)⟩;intro w9;have k9:Kept Nil w' w9:=(Kept.refl _ _).drew;clear_value w9;have Py:=kw.tt k9;have BW:=mE.tt Py;refine⟨h.1,⟨h.2.1,Cells.bJ (Py.heap pg (fun h=>h))⟩,?_⟩;refine(hl.same BW).load (i:=(i:Int)) (by omega) hy ⟨⟨h.2.ints,y.2.ints⟩,?_⟩;rw [dC];refine Split.dec (fun he=>?_) (fun he=>?_)
  ·refine⟨(i:Int),rfl,?_⟩
   have:=hK w9 BW;rw [decide_eq_true (by rw [he];exact List.mem_of_getElem? hy)]at this;rw [show decide ((i:Int)>=(0:Int))=true from decide_eq_true (by omega)];exact this
  ·simp only
   rw [gP (x:=(i:Int)+1) (by omega) (by omega)];refine⟨(0,(i:Int)+1),rfl,⟨i+1,rfl,dY,Py,?_⟩,by simp only;omega⟩;rw [List.take_add_one,hy];simp only [Option.toList_some,List.mem_append,List.mem_singleton,not_or];exact⟨kW,he⟩
 ·simp only at gE
  rw [aS,aK.dq];refine⟨-1,rfl,?_⟩;have:=hK w' (mE.tt kw);rw [List.take_of_length_le (by omega)]at kW;rw [decide_eq_false kW]at this;exact this
theorem zn{A:Option Addr}{n cx:Nat}{l:List HT}{h:HT}{b:Nat}(hl:HS w A n l)(hb:HS w (some ⟨b,0,none⟩) 1 [h])(hn:n<=100000):
 ∃A' c' w',(Builtin.append_ #[ay,ay] ay #[.slice A n n,.slice (some ⟨b,0,none⟩) 1 cx]).run prog w=.ok (.slice A' (n+1) c') w'/\
  HS w' A' (n+1) (l++ [h])/\n+1<=c'/\(∀a,A'=some a->w.heap.size<=a.block/\a.block<w'.heap.size)/\Kept Nil w w':=by
 have hlen:=hl.len;cases A with
 |none=>
  obtain⟨rfl,rfl⟩:=hl.none;obtain⟨A',c',w',hr,fG,hg,hbk⟩:=cK (cx:=cx) ay (bM.nil w w.heap.size) hb (by omega) (Nat.le_refl _);rw [Nat.zero_add]at hr fG;rw [List.nil_append]at fG;obtain⟨b',rfl⟩:=Row.some fG (by omega);have wR:=Row.bJ fG (k:=b') rfl;refine⟨some ⟨b',0,Option.none⟩,c',w',hr,bM.hs fG,?_,fun a ha=>?_,Kept.eQ (Kept.refl _ _) hg (fun k hk=>by cases hk)⟩
  ·rcases Row.own fG with⟨h1,_⟩|⟨_,_,_,_,_,h1,_⟩
   ·cases h1
   ·exact h1
  ·cases ha
   obtain⟨h1,cur,h2⟩:=wR;exact⟨h1,aV h2⟩
 |some a=>
  obtain⟨i,z,hi,hz,hs,KD,Es⟩:=pH.inf;have hr:=run_append_grow (P:=prog) (w:=w) ay ay ag i z pH.pB hi hz a n n (df l) (by rw [fc,hs,hlen]) hl.cells ⟨b,0,Option.none⟩ 1 cx (df [h]) (by rw [fc,hs];rfl) hb.cells (by omega) (by omega) (growslice_fits (by omega) (by rw [KD];omega));refine⟨_,_,_,hr,⟨by simp [hlen],fun j y hj=>⟨_,rfl,?_,?_⟩⟩,grownCap_ge _ _ _ _,fun a' Ca=>?_,?_⟩
  ·have:=aI w.drew (.cells ((df l).toArray++(df [h]).toArray++Builtin.zeroCells z.cells (grownCap w (n+1) n ag-(n+1))) ag)
   exact aV this
  ·intro q v hq
   rw [bt,bt,Nat.zero_add];have hblk:=aI w.drew (.cells ((df l).toArray++(df [h]).toArray++Builtin.zeroCells z.cells (grownCap w (n+1) n ag-(n+1))) ag);have e:(w.drew.heap.size)=w.heap.size:=rfl;rw [e]at hblk;rw [aD hblk];have h1:=lJ hj hq;rw [mR]at h1;have cU:=(lgeS h1).1;rw [Array.getElem?_append_left (by simpa using cU)];simpa using h1
  ·cases Ca
   have:=aI w.drew (.cells ((df l).toArray++(df [h]).toArray++Builtin.zeroCells z.cells (grownCap w (n+1) n ag-(n+1))) ag);exact⟨Nat.le_refl _,aV this⟩
  ·exact(Kept.refl Nil w).drew.alloc _
end
def hU(D:DG)(h s:HT)(l:List HT):Int:=if dF D h l=0 then(if s∈l then 0 else 2)else dF D h l
theorem ql{D:DG}{h:HT}{l:List HT}(e:dF D h l=0):nz D h l=D++ [⟨h,dA l⟩]:=by unfold nz;rw [if_pos e]
section
variable{w w':World}{S ST:Nat->Prop}{t:Nat}{T:List Tr.Nd}{d:Int}
theorem tN(h:Tr.pC w ST t T d):Tr.pC w (fun k=>ST k/\k<w.heap.size) t T d:=by
 obtain⟨b,c,L,h⟩:=h;refine⟨b,c,L,{h with iB:=⟨h.iB,h.lt⟩,gC:=⟨h.gC,?_⟩,rD:=fun i p hi=>?_}⟩
 ·obtain⟨A,m,hk⟩:=h.rD i p hi
  exact⟨A,m,{hk with ly:=fun k e=>⟨hk.ly k e,let ⟨_,_,hc⟩:=Row.bJ hk.row e;aV hc⟩}⟩
 ·obtain⟨cur,hc⟩:=h.wK
  exact aV hc
end
section
variable{w w':World}{F:Nat->Prop}{x:Nat}{D:DG}{P:List Int}{m:XM}{K:Value->World->Prop}
theorem JY{v:World}{hid s:HT}{S2 F2 SO2:Nat->Prop}{ps:List HT}{j:Nat}{mj:DN}{Gh sb:Nat}{b8:Int}{BT:Option Nat}{A7:Option Addr}{n7 c7:Nat}{i7:Int}{s1 s2:Nat}
 (h:XV w F x D P m) (hD:D.length<=5000) (hn:hid∉ids D) (fQ:∀p∈ps,p∈ids D) (uT:SS ps) (hj:D[j]? =some mj) (hs:mj.id=s) (zA:s∈ps)
 (jx:v.heap[x]? =some (.cells #[.pointer (some ⟨m.g,0,none⟩),.pointer (some ⟨m.t,0,none⟩),.map (some m.mb),.slice (some ⟨m.ib,0,none⟩) D.length m.ic,.map (some m.cb)] eZ (0,0)))
 (ajT:w.heap.size<=Gh) (aiN:w.heap.size<=sb) (QH:v.heap[Gh]? =some (.cells hid.1 ag (0,0))) (IZ:v.heap[sb]? =some (.cells s.1 ag (0,0)))
 (hG:DL v S2 F2 m.g (D++ [⟨hid,ps⟩])) (hT:Tr.pC v m.ST m.t m.T m.d) (hat:IsMap v m.mb (ids D)) (fG:bM v 0 (some ⟨m.ib,0,none⟩) D.length m.ic (ids D))
 (QX:∃f,fV v m.cb f/\∀y,∃l,o7 v SO2 (D.length+1) (f y) l/\∀c,c∈l↔OF (D++ [⟨hid,ps⟩]) (P++ [(j:Int)]) y c)
 (yY:w.heap.size<=s1) (yX:s1<=s2) (CR:s2<=v.heap.size)
 (RR:∀k,S2 k->(m.SG k\/w.heap.size<=k)/\k<s1) (RS:∀k,F2 k->(F k\/w.heap.size<=k)/\k<s1) (M8:∀k,SO2 k->m.SO k\/(s2<=k/\k<v.heap.size))
 (kv:Kept (fun k=>m.ly x k) w v)
 (hK:∀u S' F',DK u S' F' x (D++ [⟨hid,ps⟩]) (P++ [(j:Int)])->Kept (fun k=>m.ly x k) w u->(∀k,S' k->m.ly x k\/w.heap.size<=k)->(∀k,F' k->F k\/w.heap.size<=k)->K (.int .i64 0) u):
 aE.Rz (some ⟨x,0,none⟩) ⟨Gh,0,none⟩ ⟨sb,0,none⟩ b8 BT A7 n7 c7 i7 i7 K v:=by
 have W:=h.W;have oO:=h.low;have tF:=(lgeS hj).1;have htl:=h.O0;have hox:m.own x x:=.inl rfl;have U3:m.own x m.mb:=.inr (.inl rfl);have U5:m.own x m.ib:=.inr (.inr (.inl rfl));have uF:m.own x m.cb:=.inr (.inr (.inr rfl));obtain⟨RN,Tq,Pf,Tp,RM,To⟩:=h.ne;unfold aE.Rz;intro E9;have xh:Kept Nil v E9:=(Kept.refl _ _).drew;clear_value E9;have c1:E9.cell? ((⟨x,0,none⟩:Addr).add 1)=some (.pointer (some ⟨m.t,0,none⟩)):=by rw [bt,aD (xh.heap jx (fun h=>h))];rfl
 have c2:E9.cell? ((⟨x,0,none⟩:Addr).add 2)=some (.map (some m.mb)):=by rw [bt,aD (xh.heap jx (fun h=>h))];rfl
 have Js:=hat.aF xh (fun h=>h);have lk:=Js.xZ s;rw [<-hs,W.pos_eq hj]at lk;rw [hs]at lk;refine⟨_,c1,_,c2,s.1,⟨s.2.1,Cells.bJ (xh.heap IZ (fun h=>h))⟩,_,lk,?_⟩;have W1:=tN (hT.same xh);refine Tr.HD W1 h.Mz (p:=j) (by omega) (by omega) ⟨h.dl.1,by have:=h.dl.2;omega⟩ fun E8 XI T' d' WZ Jx UX hd' Gg ada=>⟨_,_,rfl,?_⟩;have ahu:=xh.size;have RQ:∀k,XI k->m.ST k\/E9.heap.size<=k:=fun k hk=>(ada k hk).imp (fun h=>h.1) (fun h=>h);have nST:∀k,(m.ST k/\k<E9.heap.size)->m.ST k:=fun k h=>h.1;have OY:=Gg.heap (xh.heap jx (fun h=>h)) (fun e=>(h.od x hox).2.1 e.1);intro Hw;have Gf:Kept Nil E8 Hw:=(Kept.refl _ _).drew;clear_value Hw;have HG:=Gf.heap OY (fun h=>h);have Ey:∀k,m.ST k->k<w.heap.size:=fun k e=>oO k (.inl (.inr (.inl e)));have lox:x<w.heap.size:=oO x (.inl (.inr (.inr (.inr hox))));have ahT:m.mb<w.heap.size:=oO _ (.inl (.inr (.inr (.inr U3))));have ahU:m.ib<w.heap.size:=oO _ (.inl (.inr (.inr (.inr U5))));have TC:m.cb<w.heap.size:=oO _ (.inl (.inr (.inr (.inr uF))));have sv:=kv.size;have EB:Hw.heap[Gh]? =some (.cells hid.1 ag (0,0)):=Gf.heap (Gg.heap (xh.heap QH (fun h=>h)) (fun e=>by have:=Ey _ e.1;omega)) (fun h=>h);have zG:Hw.cell? ((⟨x,0,none⟩:Addr).add 2)=some (.map (some m.mb)):=by rw [bt,aD HG];rfl
 have Q8:IsMap Hw m.mb (ids D):=(Js.aF Gg (fun e=>(h.od _ U3).2.1 e.1)).aF Gf (fun h=>h);obtain⟨OQ,NF,Q7,Uc⟩:=Q8.put hn;rw [gF,<-htl]at NF;refine⟨_,zG,hid.1,⟨hid.2.1,Cells.bJ EB⟩,OQ,NF,?_⟩;intro E7;have Ub:Kept Nil OQ E7:=(Kept.refl _ _).drew;clear_value E7;have yR:=Uc.trans Ub (fun _ _ h=>h.elim);have HF:=yR.heap HG (fun e=>RN e);have c3:∀ {u:World},Kept Nil E7 u->u.cell? ((⟨x,0,none⟩:Addr).add 3)=some (.slice (some ⟨m.ib,0,none⟩) D.length m.ic):=fun k=>by rw [bt,aD (k.heap HF (fun h=>h))];rfl
 have L9:=yR.heap EB (fun e=>by omega);refine⟨_,_,_,c3 (Kept.refl _ _),hid.1,⟨hid.2.1,Cells.bJ L9⟩,hid.2.1,?_⟩;intro zO;have LC:Kept Nil E7 zO:=(Kept.refl _ _).alloc _;have WR:HS zO (some ⟨E7.heap.size,0,none⟩) 1 [hid]:=jq E7 hid;clear_value zO;have En:=yR.trans LC (fun _ _ h=>h.elim);have O9:bM zO 0 (some ⟨m.ib,0,none⟩) D.length m.ic (ids D):=
  Row.aF (Row.aF (Row.aF (Row.aF fG xh (fun _ _ h=>h)) Gg (fun k e e'=>by cases e;exact(h.od _ U5).2.1 e'.1)) Gf (fun _ _ h=>h)) En (fun k e e'=>by cases e;exact Tp e'.symm)
 obtain⟨A',c',E6,UO,Cs,Wa,WQ⟩:=cK (cx:=1) ay O9 WR (by omega) (Nat.zero_le _);have PJ:Kept (· =m.ib) zO E6:=Kept.grown (Kept.refl _ _) Wa (fun k e _=>by cases e;rfl);obtain⟨BX,rfl⟩:=Row.some Cs (by omega);have Ma:BX=m.ib\/zO.heap.size<=BX:=by
  rcases WQ BX rfl with e|e
  ·left;simpa [bn]using e.symm
  ·exact .inr e
 have HE:=PJ.heap (LC.heap HF (fun h=>h)) (fun e=>Tq e);refine⟨c3 LC,some ⟨BX,0,none⟩,_,c',E6,UO,Is.mk rfl ⟨?_,?_⟩⟩
 ·rw [bt]
  exact dS HE (by simp)
 intro zN;have Xt:zN=E6.setCell ⟨x,3,none⟩ (.slice (some ⟨BX,0,none⟩) (D.length+1) c'):=by
  show E6.setCell ((⟨x,0,none⟩:Addr).add 3) _=_
  rw [bt]
 have PI:Kept (· =x) E6 zN:=by rw [Xt];exact Kept.setCell (S:=fun k=>k=x) (Kept.refl _ E6) (p:=⟨x,3,none⟩) (fun _=>rfl) _
 have OX:zN.heap[x]? =some (.cells #[.pointer (some ⟨m.g,0,none⟩),.pointer (some ⟨m.t,0,none⟩),.map (some m.mb),.slice (some ⟨BX,0,none⟩) (D.length+1) c',.map (some m.cb)] eZ (0,0)):=by
  rw [Xt,di HE 3];rfl
 clear_value zN;have aht:=Gg.size;have ahs:=Gf.size;have ahr:=En.size;have ahq:=PJ.size;have ahp:=PI.size;have kC:Kept (fun k=>k=m.ib\/k=x) OQ zN:=(((Ub.tt LC).mono (S':=fun k=>k=m.ib\/k=x) (fun _ _ h=>h.elim)).trans PJ (fun _ _ h=>.inl h)).trans PI (fun _ _ h=>.inr h);have kB:Kept (fun k=>k=m.mb\/k=m.ib\/k=x) E8 zN:=((Gf.mono (S':=fun k=>k=m.mb\/k=m.ib\/k=x) (fun _ _ h=>h.elim)).trans Uc (fun _ _ h=>.inl h)).trans kC (fun _ _ h=>.inr h);have kA:Kept (fun k=>m.ST k\/k=m.mb\/k=m.ib\/k=x) v zN:=((xh.mono (S':=fun k=>m.ST k\/k=m.mb\/k=m.ib\/k=x) (fun _ _ h=>h.elim)).trans Gg (fun _ _ h=>.inl h.1)).trans kB (fun _ _ h=>.inr h);have FM:∀k,(k=m.mb\/k=m.ib\/k=x)->m.own x k:=fun k e=>by
  rcases e with e|e|e
  ·exact .inr (.inl e)
  ·exact .inr (.inr (.inl e))
  ·exact .inl e
 have K6:∀k,m.own x k->k<w.heap.size:=fun k e=>oO k (.inl (.inr (.inr (.inr e))));have Ld:∀k,m.SG k->k<w.heap.size:=fun k e=>oO k (.inl (.inl e));have Ig:∀k,m.SO k->k<w.heap.size:=fun k e=>oO k (.inl (.inr (.inr (.inl e))));have nG:∀k,S2 k->¬(m.ST k\/k=m.mb\/k=m.ib\/k=x):=fun k h1 h2=>by
  obtain⟨h3,_⟩:=RR k h1;rcases h2 with h2|h2
  ·rcases h3 with h3|h3
   ·exact(h.gt k h3).1 h2
   ·have:=Ey k h2;omega
  ·have h4:=FM k h2
   rcases h3 with h3|h3
   ·exact(h.od k h4).1 h3
   ·have:=K6 k h4;omega
 have nF:∀k,F2 k->¬(m.ST k\/k=m.mb\/k=m.ib\/k=x):=fun k h1 h2=>by
  obtain⟨h3,_⟩:=RS k h1;rcases h2 with h2|h2
  ·rcases h3 with h3|h3
   ·exact(h.fd k h3).1 h2
   ·have:=Ey k h2;omega
  ·have h4:=FM k h2
   rcases h3 with h3|h3
   ·exact(h.od k h4).2.2.2 h3
   ·have:=K6 k h4;omega
 have ZR:∀k,SO2 k->¬(m.ST k\/k=m.mb\/k=m.ib\/k=x):=fun k h1 h2=>by
  rcases M8 k h1 with h3|⟨h3,_⟩
  ·rcases h2 with h2|h2
   ·exact h.to k h2 h3
   ·exact(h.od k (FM k h2)).2.2.1 h3
  ·rcases h2 with h2|h2
   ·have:=Ey k h2;omega
   ·have:=K6 k (FM k h2);omega
 have nT:∀k,(XI k/\k<E8.heap.size)->¬(k=m.mb\/k=m.ib\/k=x):=fun k h1 h2=>by
  have h4:=FM k h2;rcases RQ k h1.1 with h3|h3
  ·exact(h.od k h4).2.1 h3
  ·have:=K6 k h4;omega
 refine hK zN (fun k=>(S2 k\/(XI k/\k<E8.heap.size)\/SO2 k\/(k=x\/k=m.mb\/k=BX\/k=m.cb))) F2 ⟨{m with ib:=BX,ic:=c',T:=T',d:=d',SG:=S2,ST:=fun k=>XI k/\k<E8.heap.size,SO:=SO2},?_,fun k e=>e⟩ ?_ ?_ ?_
 ·refine⟨?_,hG.aF kA nG nF,(tN WZ).aF kB nT,Jx,?_,?_,?_,?_,?_,?_,?_,?_,?_,?_,?_,?_,?_⟩
  ·rw [List.length_append];exact OX
  ·show Tr.bY T'=_
   rw [UX,h.bY]
  ·have:=h.dl
   simp only [List.length_append,List.length_singleton];show 0<=d'/\d'<=_
   omega
  ·rw [lQ]
   exact Q7.aF kC (fun e=>e.elim (fun e=>Tp e) (fun e=>RN e.symm))
  ·rw [lQ,List.length_append]
   refine Row.aF Cs PI (fun k e e'=>?_);have e1:BX=k:=by simpa [bn]using e
   rcases Ma with e|e
   ·exact Tq (e'.symm.trans (e1.symm.trans e))
   ·omega
  ·obtain⟨f,hf,hc⟩:=QX
   refine⟨f,hf.aF kA (fun e=>?_),fun y=>?_⟩
   ·rcases e with e|e|e|e
    ·exact(h.od _ uF).2.1 e
    ·exact RM e.symm
    ·exact To e.symm
    ·exact Pf e.symm
   ·obtain⟨l,h1,h2⟩:=hc y
    refine⟨l,?_,h2⟩;rw [List.length_append];exact h1.aF kA ZR
  ·exact h.gQ.snoc hj (by rw [hs];exact zA) W.pos
  ·exact W.snoc (nd:=⟨hid,ps⟩) hn fQ uT
  ·intro k h1
   obtain⟨h3,h4⟩:=RR k h1;refine⟨fun h2=>?_,fun h2=>?_⟩
   ·rcases RQ k h2.1 with h5|h5
    ·exact nG k h1 (.inl h5)
    ·omega
   ·rcases M8 k h2 with h5|h5
    ·rcases h3 with h3|h3
     ·exact(h.gt k h3).2 h5
     ·have:=Ig k h5;omega
    ·omega
  ·intro k h1 h2
   rcases RQ k h1.1 with h5|h5
   ·exact ZR k h2 (.inl h5)
   ·rcases M8 k h2 with h6|h6
    ·have:=Ig k h6;omega
    ·omega
  ·intro k h1
   obtain⟨h3,h4⟩:=RS k h1;refine⟨fun h2=>?_,fun h2=>?_⟩
   ·rcases RQ k h2.1 with h5|h5
    ·exact nF k h1 (.inl h5)
    ·omega
   ·rcases M8 k h2 with h5|h5
    ·rcases h3 with h3|h3
     ·exact(h.fd k h3).2 h5
     ·have:=Ig k h5;omega
    ·omega
  ·intro k e
   have e':(k=m.mb\/k=m.ib\/k=x)\/(k=m.cb)\/(k=BX/\zO.heap.size<=BX):=by
    rcases e with e|e|e|e
    ·exact .inl (.inr (.inr e))
    ·exact .inl (.inl e)
    ·rcases Ma with h5|h5
     ·exact .inl (.inr (.inl (e.trans h5)))
     ·exact .inr (.inr ⟨e,h5⟩)
    ·exact .inr (.inl e)
   have big:zO.heap.size<=k->¬S2 k/\¬(XI k/\k<E8.heap.size)/\¬SO2 k/\¬F2 k:=fun hb=>
    ⟨fun h1=>by have:=(RR k h1).2;omega,fun h1=>by have:=h1.2;omega,fun h1=>(M8 k h1).elim (fun h2=>by have:=Ig k h2;omega) (fun h2=>by omega),fun h1=>by have:=(RS k h1).2;omega⟩
   rcases e' with e'|e'|⟨rfl,e'⟩
   ·exact⟨fun h1=>nG k h1 (.inr e'),fun h1=>nT k h1 e',fun h1=>ZR k h1 (.inr e'),fun h1=>nF k h1 (.inr e')⟩
   ·subst e'
    have YG:=h.od _ uF;refine⟨fun h1=>?_,fun h1=>?_,fun h1=>?_,fun h1=>?_⟩
    ·rcases(RR _ h1).1 with h2|h2
     ·exact YG.1 h2
     ·omega
    ·rcases RQ _ h1.1 with h2|h2
     ·exact YG.2.1 h2
     ·omega
    ·rcases M8 _ h1 with h2|h2
     ·exact YG.2.2.1 h2
     ·omega
    ·rcases(RS _ h1).1 with h2|h2
     ·exact YG.2.2.2 h2
     ·omega
   ·exact big e'
  ·show x≠m.mb/\x≠BX/\x≠m.cb/\m.mb≠BX/\m.mb≠m.cb/\BX≠m.cb
   rcases Ma with h5|h5
   ·rw [h5];exact⟨RN,Tq,Pf,Tp,RM,To⟩
   ·exact⟨RN,by omega,Pf,by omega,RM,by omega⟩
  ·intro k e
   have hblk:=(Row.bJ Cs (k:=BX) rfl).2;obtain⟨cur,lv⟩:=hblk;have lib:=aV lv;rcases e with e|e
   ·rcases e with e|e|e|e
    ·have:=(RR k e).2;omega
    ·have:=e.2;omega
    ·rcases M8 k e with h2|h2
     ·have:=Ig k h2;omega
     ·omega
    ·rcases e with e|e|e|e
     ·omega
     ·have e:k=m.mb:=e;omega
     ·have e:k=BX:=e;omega
     ·have e:k=m.cb:=e;omega
   ·have:=(RS k e).2;omega
 ·refine kv.trans kA (fun k _ e=>?_)
  rcases e with e|e
  ·exact .inr (.inl e)
  ·exact .inr (.inr (.inr (FM k e)))
 ·intro k e
  rcases e with e|e|e|e
  ·exact(RR k e).1.imp (fun h=>.inl h) (fun h=>h)
  ·rcases RQ k e.1 with h5|h5
   ·exact .inl (.inr (.inl h5))
   ·exact .inr (by omega)
  ·rcases M8 k e with h5|h5
   ·exact .inl (.inr (.inr (.inl h5)))
   ·exact .inr (by omega)
  ·rcases e with e|e|e|e
   ·exact .inl (.inr (.inr (.inr (.inl e))))
   ·exact .inl (.inr (.inr (.inr (.inr (.inl e)))))
   ·rcases Ma with h5|h5
    ·exact .inl (.inr (.inr (.inr (.inr (.inr (.inl (e.trans h5)))))))
    ·exact .inr (by omega)
   ·exact .inl (.inr (.inr (.inr (.inr (.inr (.inr e))))))
 ·exact fun k e=>(RS k e).1
end
section
variable{w w':World}{F S:Nat->Prop}{x:Nat}{D:DG}{P:List Int}{m:XM}{K:Value->World->Prop}
theorem GY{u v:World}{hid s:HT}{D':DG}{ps pl:List HT}{Gh ob i:Nat}{A7:Option Addr}{c7:Nat}{b8:Int}{sb:Addr}{f0:HT->Option Value}{Q:aP}{X3:Option Nat}
 (h:XV w F x D P m) (hD:D.length<=5000) (hwu:w.heap.size<=u.heap.size)
 (jx:u.heap[x]? =some (.cells #[.pointer (some ⟨m.g,0,none⟩),.pointer (some ⟨m.t,0,none⟩),.map (some m.mb),.slice (some ⟨m.ib,0,none⟩) D.length m.ic,.map (some m.cb)] eZ (0,0)))
 (QH:u.heap[Gh]? =some (.cells hid.1 ag (0,0))) (ajl:w.heap.size<=Gh) (hold:fV u ob f0) (ajj:w.heap.size<=ob) (abt:X3=some ob)
 (hf0:∀y,(y=s\/eB D y s->f0 y=some (.agg #[.bool true]))/\(¬(y=s\/eB D y s)->f0 y=none))
 (FD:bM u w.heap.size A7 pl.length c7 pl) (rO:pl.length<=10000)
 (kv:Kept (· =m.cb) u v) (hi:i<=pl.length) {Z:HT->HT->Prop}
 (QX:∃f,fV v m.cb f/\∀y,∃l,o7 v (fun k=>m.SO k\/(u.heap.size<=k/\k<v.heap.size)) (D.length+if y∈pl.take i then 1 else 0) (f y) l/\∀c,c∈l↔OF D P y c\/(c=hid/\y∈pl.take i/\y≠s/\¬eB D y s)) (ft:pl.Nodup)
 (hQ:∀v',Kept (· =m.cb) u v'->(∃f,fV v' m.cb f/\∀y,∃l,o7 v' (fun k=>m.SO k\/(u.heap.size<=k/\k<v'.heap.size)) (D.length+if y∈pl.take (i+1)then 1 else 0) (f y) l/\∀c,c∈l↔OF D P y c\/(c=hid/\y∈pl.take (i+1)/\y≠s/\¬eB D y s))->i<pl.length->
   Q .normal (aE.e2 (some ⟨x,0,none⟩) ⟨Gh,0,none⟩ sb b8 X3 A7 pl.length c7 (pl.length:Int) ((i:Int)+1)) v')
 (hE:i=pl.length->Q (.exit 3) (aE.e2 (some ⟨x,0,none⟩) ⟨Gh,0,none⟩ sb b8 X3 A7 pl.length c7 (pl.length:Int) (i:Int)) v):
 aE.B2 (some ⟨x,0,none⟩) ⟨Gh,0,none⟩ sb b8 X3 A7 pl.length c7 (pl.length:Int) (i:Int) Q v:=by
 subst abt;have hox:m.own x x:=.inl rfl;have uF:m.own x m.cb:=.inr (.inr (.inr rfl));obtain⟨RN,Tq,Pf,Tp,RM,To⟩:=h.ne;have TC:m.cb<w.heap.size:=h.low _ (.inl (.inr (.inr (.inr uF))));have sv:=kv.size;unfold aE.B2;refine Split.dec (fun jQ=>?_) (fun gE=>hE (by omega));have dY:i<pl.length:=by omega
 obtain⟨y,hy⟩:∃y,pl[i]? =some y:=⟨_,List.getElem?_eq_getElem dY⟩;have Yi:y∉pl.take i:=fun hm=>by
  obtain⟨j,hj⟩:=List.mem_iff_getElem?.1 hm;rw [List.getElem?_take]at hj;split at hj
  ·rename_i cU
   have h1:=lH 0 j ft hj;rw [lH 0 i ft hy]at h1;simp only [Option.some.injEq]at h1;omega
  ·cases hj
 have Fz:HS v A7 pl.length pl:=bM.hs (Row.aF FD kv (fun k hk e=>by have:=(Row.bJ FD hk).1;omega));refine Fz.load (i:=(i:Int)) (by omega) (by rw [Int.toNat_natCast];exact hy) ?_;intro w81;obtain⟨tz,jT,kL⟩:=iu (w:=v) (z:=(zz 0)) (cs:=y.1) (t:=ag) (by rw [y.2.1];rfl);refine⟨⟨y.2.1,y.2.one,fun j hj=>tz j (by rw [y.2.1];exact hj)⟩,?_⟩;intro OL
 replace jT:OL.heap[v.heap.size]? =some (.cells y.1 ag (0,0)):=jT
 replace kL:Kept Nil v OL:=kL
 clear_value OL;have Yd:Kept (· =m.cb) u OL:=kv.trans kL (fun _ _ h=>h.elim);have Qp:fV OL ob f0:=hold.aF Yd (fun e=>by omega);have lk:=Qp.look H8 y;obtain⟨f,hf,hc⟩:=QX;have Wi:=hf.aF kL (fun h=>h);obtain⟨l,qP,L5⟩:=hc y;have aaR:=kL.size;have Oy:∀ {v':World} {N N':Nat} {a:Option Value} {l:List HT},v.heap.size<=v'.heap.size->N<=N'->o7 v' (fun k=>m.SO k\/(u.heap.size<=k/\k<v.heap.size)) N a l->o7 v' (fun k=>m.SO k\/(u.heap.size<=k/\k<v'.heap.size)) N' a l:=fun hv hN yh=>by
  rcases yh with yh|⟨A,n,c,h1,h2,h3,h4,h5⟩
  ·exact .inl yh
  ·exact .inr ⟨A,n,c,h1,h2,h3,by omega,fun a ha=>(h5 a ha).imp (fun h=>h) (fun h=>⟨h.1,by omega⟩)⟩
 have Oz:∀ {v':World} {N:Nat} {a:Option Value} {l:List HT},Kept (· =m.cb) v v'->o7 v (fun k=>m.SO k\/(u.heap.size<=k/\k<v.heap.size)) N a l->o7 v' (fun k=>m.SO k\/(u.heap.size<=k/\k<v.heap.size)) N a l:=fun hk yh=>yh.aF hk (fun k oZ e=>by
  rcases oZ with h1|h1
  ·exact(h.od _ uF).2.2.1 (e▸h1)
  ·omega)
 refine⟨y.1,⟨y.2.1,Cells.bJ jT⟩,?_⟩;by_cases jY:y=s\/eB D y s
 ·rw [(hf0 y).1 jY]at lk
  refine⟨_,lk,true,rfl,Split.no rfl ?_⟩;rw [dH (n:=(i:Int)) (by omega) (by omega)];refine hQ OL Yd ⟨f,Wi,fun z=>?_⟩ dY;obtain⟨lz,h1,h2⟩:=hc z;refine⟨lz,Oy aaR (by
   by_cases hz:z∈pl.take i
   ·rw [if_pos hz,if_pos ((bN hy).2 (.inl hz))];exact Nat.le_refl _
   ·rw [if_neg hz];omega) (Oz (kL.mono (fun _ _ h=>h.elim)) h1),fun c=>?_⟩
  rw [h2,bN hy];constructor
  ·rintro(h3|⟨h3,h4,h5,h6⟩)
   ·exact .inl h3
   ·exact .inr ⟨h3,.inl h4,h5,h6⟩
  ·rintro(h3|⟨h3,h4|rfl,h5,h6⟩)
   ·exact .inl h3
   ·exact .inr ⟨h3,h4,h5,h6⟩
   ·exact absurd jY (fun e=>e.elim h5 h6)
 ·rw [(hf0 y).2 jY]at lk
  refine⟨_,lk,false,rfl,Split.yes rfl ?_⟩;intro DQ;have TW:Kept Nil OL DQ:=(Kept.refl _ _).drew;clear_value DQ;have Z3:=kL.tt TW;have Jn:=TW.heap jT (fun h=>h);have uv:∀ {q:World},Kept Nil DQ q->q.cell? ((⟨x,0,none⟩:Addr).add 4)=some (.map (some m.cb)):=fun k=>by
   rw [bt,aD (k.heap (TW.heap (Yd.heap jx (fun e=>Pf e)) (fun h=>h)) (fun h=>h))];rfl
  have nv:∀ {q:World},Kept Nil DQ q->∃cs:Array Value,(.agg y.1:Value)=.agg cs/\cs.size=32/\Cells q (aR v.heap.size) cs:=fun k=>⟨y.1,rfl,y.2.1,Cells.bJ (k.heap Jn (fun h=>h))⟩;have NY:DQ.heap[Gh]? =some (.cells hid.1 ag (0,0)):=TW.heap (Yd.heap QH (fun e=>by omega)) (fun h=>h);have acv:∀ {q:World},Kept Nil DQ q->∃cs:Array Value,(.agg hid.1:Value)=.agg cs/\cs.size=32/\Cells q (⟨Gh,0,none⟩:Addr) cs:=fun k=>⟨hid.1,rfl,hid.2.1,Cells.bJ (k.heap NY (fun h=>h))⟩;have Wh:=Wi.aF TW (fun h=>h);obtain⟨A,n,c,gU,Gq,BY,hnN⟩:∃(A:Option Addr) (n c:Nat),(f y).getD (.slice none 0 0)=.slice A n c/\n<=c/\HS v A n l/\n<=D.length:=by
   rcases qP with⟨h1,h2⟩|⟨A,n,c,h1,h2,h3,h4,_⟩
   ·exact⟨none,0,0,by rw [h1];rfl,Nat.le_refl _,by rw [h2];exact HS.nil _ _,by omega⟩
   ·rw [if_neg Yi]at h4
    exact⟨A,n,c,by rw [h1];rfl,h2,h3,by omega⟩
  have lk2:∀ {q:World},Kept Nil DQ q->(Instr.lookup gX (.map (some m.cb)) (.agg y.1) false).run prog q=.ok (.slice A n c) q:=fun k=>by
   have:=(Wh.aF k (fun h=>h)).look yN y;rw [gU]at this;exact this
  have fin:∀ {q:World} {bb:Nat},Kept Nil DQ q->HS q (some ⟨bb,0,none⟩) 1 [hid]->
   ∃(A':Option Addr) (n' c':Nat) (q2:World),(Builtin.append_ #[ay,ay] ay #[.slice A n n,.slice (some ⟨bb,0,none⟩) 1 1]).run prog q=.ok (.slice A' n' c') q2/\(∃cs:Array Value,(.agg y.1:Value)=.agg cs/\cs.size=32/\Cells q2 (aR v.heap.size) cs)/\q2.cell? ((⟨x,0,none⟩:Addr).add 4)=some (.map (some m.cb))/\
    ∃q3:World,(Instr.mapUpdate gX (.map (some m.cb)) (.agg y.1) (.slice A' n' c')).run prog q2=.ok () q3/\Q .normal (aE.e2 (some ⟨x,0,none⟩) ⟨Gh,0,none⟩ sb b8 (some ob) A7 pl.length c7 (pl.length:Int) (i64.wrap ((i:Int)+(1:Int)))) q3:=by
   intro q bb kq wR;have Z2:=Z3.tt kq;obtain⟨A',c',q2,hr,yX,KC,kX,kq2⟩:=zn (cx:=1) (BY.same Z2) wR (by omega);have k2:=kq.tt kq2;obtain⟨q3,um,hf3,k3⟩:=(Wh.aF k2 (fun h=>h)).put yN y (.slice A' (n+1) c');refine⟨A',_,c',q2,hr,nv k2,uv k2,q3,um,?_⟩;rw [dH (n:=(i:Int)) (by omega) (by omega)];have TM:=Z2.tt kq2;have TL:Kept (· =m.cb) v q3:=(TM.mono (S':=(· =m.cb)) (fun _ _ h=>h.elim)).tt k3;have sq2:=TM.size;have sq3:=k3.size;have svq:=Z2.size;refine hQ q3 (kv.tt TL) ⟨_,hf3,fun z=>?_⟩ dY;by_cases hz:z=y
   ·subst hz
    refine⟨l++ [hid],.inr ⟨A',n+1,c',by simp,KC,yX.aF k3 (fun a ha e=>by have:=(kX a ha).1;omega),?_,fun a ha=>.inr ?_⟩,fun c=>?_⟩
    ·rw [if_pos ((bN hy).2 (.inr rfl))];omega
    ·have:=kX a ha;omega
    ·rw [List.mem_append,List.mem_singleton,L5,bN hy]
     constructor
     ·rintro((h3|⟨h3,h4,h5,h6⟩)|h3)
      ·exact .inl h3
      ·exact .inr ⟨h3,.inl h4,h5,h6⟩
      ·exact .inr ⟨h3,.inr rfl,fun e=>jY (.inl e),fun e=>jY (.inr e)⟩
     ·rintro(h3|⟨h3,h4,h5,h6⟩)
      ·exact .inl (.inl h3)
      ·exact .inr h3
   ·obtain⟨lz,h1,h2⟩:=hc z
    refine⟨lz,?_,fun c=>?_⟩
    ·simp only [hz,if_false]
     refine Oy (by omega) ?_ (Oz TL h1);by_cases hzi:z∈pl.take i
     ·rw [if_pos hzi,if_pos ((bN hy).2 (.inl hzi))];exact Nat.le_refl _
     ·rw [if_neg hzi];omega
    ·rw [h2,bN hy]
     constructor
     ·rintro(h3|⟨h3,h4,h5,h6⟩)
      ·exact .inl h3
      ·exact .inr ⟨h3,.inl h4,h5,h6⟩
     ·rintro(h3|⟨h3,h4|h4,h5,h6⟩)
      ·exact .inl h3
      ·exact .inr ⟨h3,h4,h5,h6⟩
      ·exact absurd h4 hz
  refine⟨_,uv (Kept.refl _ _),y.1,⟨y.2.1,Cells.bJ Jn⟩,_,uv (Kept.refl _ _),y.1,⟨y.2.1,Cells.bJ Jn⟩,A,n,c,lk2 (Kept.refl _ _),hid.1,⟨hid.2.1,Cells.bJ NY⟩,?_,⟨hid.2.1,?_⟩⟩
  ·refine yq Gq ⟨A,n,n,rfl,acv (Kept.refl _ _),nv (Kept.refl _ _),uv (Kept.refl _ _),hid.2.1,?_⟩
   intro Fa;have CH:Kept Nil DQ Fa:=(Kept.refl _ _).alloc _;have WT:HS Fa (some ⟨DQ.heap.size,0,none⟩) 1 [hid]:=jq DQ hid;clear_value Fa;exact⟨nv CH,uv CH,fin CH WT⟩
  ·intro OR
   have Ba:Kept Nil DQ OR:=(Kept.refl _ _).alloc _;have WS:HS OR (some ⟨DQ.heap.size,0,none⟩) 1 [hid]:=jq DQ hid;clear_value OR;exact⟨lk2 Ba,nv Ba,uv Ba,nv Ba,uv Ba,yq Gq ⟨A,n,n,rfl,nv Ba,uv Ba,fin Ba WS⟩⟩
end
def ox(D:DG)(h s:HT)(l:List HT):DG:=if hU D h s l=0 then D++ [⟨h,dA l⟩]else D
def ow(D:DG)(P:List Int)(h s:HT)(l:List HT):List Int:=if hU D h s l=0 then P++ [(((pos s (ids D) 0).getD 0:Nat):Int)]else P
section
variable{w w':World}{F S:Nat->Prop}{x:Nat}{D:DG}{P:List Int}{m:XM}{K:Value->World->Prop}
theorem FH(h:XV w F x D P m)(hD:D.length<=5000)(hT:uK w)(KF:¬m.SG (Tryz.kh.g 1)){A:Option Addr}{n cx:Nat}{lp:List HT}(hl:HS w A n lp)(hn:n<=5000)(hid s:HT)
 (kW:∀v,Kept Nil w v->hU D hid s lp≠0->K (.int .i64 (hU D hid s lp)) v)
 (Bd:∀u S' F',DK u S' F' x (ox D hid s lp) (ow D P hid s lp)->Kept (fun k=>m.ly x k) w u->(∀k,S' k->m.ly x k\/w.heap.size<=k)->(∀k,F' k->F k\/w.heap.size<=k)->hU D hid s lp=0->K (.int .i64 0) u):
 bz prog aE.id #[.pointer (some ⟨x,0,none⟩),.agg hid.1,.agg s.1,.slice A n cx] w K:=by
 have hlen:=hl.len;have W:=h.W;refine aE.of ?_;unfold aE.W;intro w5 w6;have k5:Kept Nil w w5:=(Kept.refl _ _).alloc _;have Mb:w5.heap[w.heap.size]? =some (.cells hid.1 ag (0,0)):=aI w _;have k6:Kept Nil w5 w6:=(Kept.refl _ _).alloc _;have LJ:w6.heap[w5.heap.size]? =some (.cells s.1 ag (0,0)):=aI w5 _;clear_value w6;have Yz:=k6.heap Mb (fun h=>h);have o8:=k5.tt k6;have s5:=k5.size;have l5:=aV Mb;obtain⟨bl,c,mbg,M,G⟩:=h.G;have hG:∀ {v:World},Kept Nil w v->GV v m.SG F m.g D (gV D) bl c mbg M:=fun k=>G.same k;refine tV (h.same o8) ⟨true,rfl,Split.no rfl ⟨_,(h.same o8).c0,hid.1,⟨hid.2.1,Cells.bJ Yz⟩,?_⟩⟩;refine uY (hG o8) hid fun iQ Ks=>⟨_,rfl,?_⟩;have LF:=o8.tt Ks;by_cases fQ:hid∈ids D
 ·have e:hU D hid s lp=7:=by simp [hU,dF,fQ]
  have:=kW iQ LF (by rw [e];decide);rw [e]at this;exact Split.yes (decide_eq_true fQ) this
 refine Split.no (decide_eq_false fQ) ?_;by_cases h0:n=0
 ·have el:lp= []:=List.length_eq_zero_iff.1 (by omega)
  have e:hU D hid s lp=9:=by subst el;simp [hU,dF,fQ,KW]
  have:=kW iQ LF (by rw [e];decide);rw [e]at this;exact Split.yes (by simp [h0]) this
 refine Split.no (by simp [h0]) ?_;refine jg (hl.same LF) (by omega) fun A17 c17 xI aeG IA=>⟨A17,_,c17,rfl,?_⟩;have LD:=LF.tt IA;have fD:lp≠ []:=fun e=>h0 (by rw [<-hlen,e];rfl);by_cases BY:¬(dA lp).length=n
 ·have e:hU D hid s lp=9:=by
   have h1:(dA lp).length=0\/(dA lp).length≠lp.length:=.inr (by omega);have h2:dF D hid lp=9:=by unfold dF;rw [if_neg fQ,if_pos h1]
   simp [hU,h2]
  have:=kW xI LD (by rw [e];decide);rw [e]at this;exact Split.yes (by simp only [bne_iff_ne,ne_eq];omega) this
 replace BY:=Classical.not_not.1 BY
 refine Split.no (by rw [BY];simp) ?_;refine qy (h.same LD) (hl.same LD) (by omega) fun E0 BV=>⟨_,rfl,?_⟩;have PM:=LD.tt BV;have Vc:¬((dA lp).length=0\/(dA lp).length≠lp.length):=by omega
 by_cases dm:¬∀p∈lp,p∈ids D
 ·have hex:∃p∈dA lp,p∉ids D:=Classical.byContradiction fun hc=>dm fun p hp=>Classical.byContradiction fun hq=>hc ⟨p,dt.2 hp,hq⟩
  have e:hU D hid s lp=6:=by
   have:dF D hid lp=6:=by unfold dF;rw [if_neg fQ,if_neg Vc,if_pos hex]
   simp [hU,this]
  have:=kW E0 PM (by rw [e];decide);rw [e]at this;exact Split.yes (by rw [decide_eq_false dm];rfl) this
 replace dm:=Classical.not_not.1 dm
 refine Split.no (by rw [decide_eq_true dm];rfl) ?_;have acB:¬∃p∈dA lp,p∉ids D:=fun⟨p,hp,hq⟩=>hq (dm p (dt.1 hp));have eC:dF D hid lp=0:=by unfold dF;rw [if_neg fQ,if_neg Vc,if_neg acB]
 have TY:=(Ks.tt IA).tt BV;refine⟨s.1,⟨s.2.1,Cells.bJ (TY.heap LJ (fun h=>h))⟩,?_⟩;refine ri s (hl.same PM) (by omega) fun mB p9=>⟨_,rfl,?_⟩;have CI:=PM.tt p9;by_cases vY:¬s∈lp
 ·have e:hU D hid s lp=2:=by simp [hU,eC,vY]
  have:=kW mB CI (by rw [e];decide);rw [e]at this;exact Split.yes (by rw [decide_eq_false vY];rfl) this
 replace vY:=Classical.not_not.1 vY
 refine Split.no (by rw [decide_eq_true vY];rfl) ?_;have eX:hU D hid s lp=0:=by simp [hU,eC,vY]
 have Lt:=TY.tt p9;obtain⟨mj,Qu,Qt⟩:=cS.1 (dm s vY);obtain⟨j,hj⟩:=List.mem_iff_getElem?.1 Qu;have eP:ow D P hid s lp=P++ [(j:Int)]:=by
  unfold ow;rw [if_pos eX,<-Qt,W.pos_eq hj];rfl
 have eD:ox D hid s lp=D++ [⟨hid,dA lp⟩]:=by unfold ox;rw [if_pos eX]
 intro pv;have AZ:Kept Nil mB pv:=(Kept.refl _ _).alloc _;have abJ:fV pv mB.heap.size (fun _=>none):=fV.new mB;clear_value pv;have I1:=(Lt.tt AZ).heap LJ (fun h=>h);obtain⟨G9,aa6,Vw,Iw⟩:=abJ.put H8 s (.agg #[.bool true]);refine⟨s.1,⟨s.2.1,Cells.bJ I1⟩,G9,aa6,?_⟩;have ob0:w5.heap.size<mB.heap.size:=by have:=aV LJ;have:=Lt.size;omega
 have aaS:=Iw.heap I1 (fun e=>by omega);refine⟨s.1,⟨s.2.1,Cells.bJ aaS⟩,s.2.1,?_⟩;intro OP;have PC:Kept Nil G9 OP:=(Kept.refl _ _).alloc _;have aaw:HS OP (some ⟨G9.heap.size,0,none⟩) 1 [s]:=jq G9 s;clear_value OP;have ahx:=CI.size;have Ix:Kept Nil mB OP:=(AZ.trans Iw (fun k hk e=>by omega)).tt PC;have PK:=CI.tt Ix;refine wB (hG PK) W (by omega) (hT.same PK) aaw (by omega) fun A32 Xy uO MW Ha=>⟨A32,_,Xy,rfl,?_⟩;have aai:=PK.tt Ha;have abH:fV uO mB.heap.size (fun z=>if z=s then some (.agg #[.bool true])else none):=(Vw.aF PC (fun h=>h)).aF Ha (fun h=>h);have p1:=mL D fun a=>∃z∈ [s],eB D a z
 change (dG D [s]).length<=_ at p1
 have aey:=Ix.size;have ob1:=Vw.lt;have s30:=PC.size;have Ja:∀y,y∈dG D [s]↔eB D y s:=fun y=>by
  unfold dG;rw [jv];constructor
  ·rintro⟨_,z,hz,e⟩
   rw [List.mem_singleton]at hz
   rwa [hz]at e
  ·exact fun e=>⟨(e.mem W).1,s,by simp,e⟩
 have ah1:∀k,k=mB.heap.size->¬k<w.heap.size:=fun k e=>by omega
 refine aE.cy (I:=fun i v=>∃(q:Nat) (f:HT->Option Value),i=(q:Int)/\q<=(dG D [s]).length/\fV v mB.heap.size f/\(∀y,(y=s\/y∈(dG D [s]).take q->f y=some (.agg #[.bool true]))/\(¬(y=s\/y∈(dG D [s]).take q)->f y=none))/\Kept (· =mB.heap.size) uO v)
  (μ:=fun i _=>(((dG D [s]).length:Int)-i).toNat) (s:=0) ⟨0,_,rfl,Nat.zero_le _,abH,fun y=>⟨fun e=>by
    rcases e with e|e
    ·rw [if_pos e]
    ·simp at e,fun e=>if_neg fun e'=>e (.inl e')⟩,Kept.refl _ _⟩ ?_
 rintro i v ⟨q,f,rfl,hq,hmv,Wb,kv⟩;have Eo:Kept Nil w v:=aai.trans kv (fun k hk e=>by omega);refine Split.dec (fun jQ=>?_) (fun gE=>?_)
 ·have dY:q<(dG D [s]).length:=by omega
  obtain⟨y,hy⟩:∃y,(dG D [s])[q]? =some y:=⟨_,List.getElem?_eq_getElem dY⟩;have Fz:=bM.hs (Row.aF MW kv (fun k hk e=>by have:=(Row.bJ MW hk).1;omega));refine Fz.load (i:=(q:Int)) (by omega) (by rw [Int.toNat_natCast];exact hy) ?_;intro MR;obtain⟨tz,jT,kL⟩:=iu (w:=v) (z:=(zz 0)) (cs:=y.1) (t:=ag) (by rw [y.2.1];rfl);refine⟨⟨y.2.1,y.2.one,fun j hj=>tz j (by rw [y.2.1];exact hj)⟩,?_⟩;intro Zu
  replace jT:Zu.heap[v.heap.size]? =some (.cells y.1 ag (0,0)):=jT
  replace kL:Kept Nil v Zu:=kL
  clear_value Zu;obtain⟨Hu,Qm,abF,Yf⟩:=(hmv.aF kL (fun h=>h)).put H8 y (.agg #[.bool true]);refine⟨y.1,⟨y.2.1,Cells.bJ jT⟩,Hu,Qm,?_⟩;rw [dH (n:=(q:Int)) (by omega) (by omega)];refine⟨(q:Int)+1,rfl,⟨q+1,_,rfl,dY,abF,fun z=>?_,(kv.trans kL (fun _ _ h=>h.elim)).tt Yf⟩,by simp only;omega⟩;rw [bN hy];constructor
  ·intro e
   by_cases hz:z=y
   ·rw [if_pos hz]
   ·rw [if_neg hz]
    exact(Wb z).1 (e.imp (fun h=>h) (fun h=>h.resolve_right hz))
  ·intro e
   rw [if_neg (fun hz=>e (.inr (.inr hz)))];exact(Wb z).2 (fun e'=>e (e'.imp (fun h=>h) (fun h=>.inl h)))
 ·have hqe:q=(dG D [s]).length:=by omega
  subst hqe;rw [List.take_of_length_le (Nat.le_refl _)]at Wb;rw [aS,aE.OI];unfold aE.G0;have Iu:Kept (· =mB.heap.size) mB v:=((Ix.tt Ha).mono (S':=(· =mB.heap.size)) (fun _ _ h=>h.elim)).tt kv;have Yy:v.heap[w.heap.size]? =some (.cells hid.1 ag (0,0)):=Iu.heap (Lt.heap Yz (fun h=>h)) (fun e=>by omega);have Qd:v.heap[w5.heap.size]? =some (.cells s.1 ag (0,0)):=Iu.heap (Lt.heap LJ (fun h=>h)) (fun e=>by omega);have sv:=Eo.size;have s2v:=Iu.size;refine⟨hid.1,⟨hid.2.1,Cells.bJ Yy⟩,?_⟩;refine MD (hG Eo) W (by omega) (hl.same Eo) (by omega) hid fun G6 S2 F2 Xc Gb Re Ri=>⟨_,rfl,?_⟩;rw [ql eC]at Xc;have Ld:∀k,m.SG k->k<w.heap.size:=fun k e=>h.low k (.inl (.inl e));have s64:=Gb.size;have QI:=Gb.heap Yy (fun e=>by have:=Ld _ e;omega);have UD:=Gb.heap Qd (fun e=>by have:=Ld _ e;omega);have abE:=hmv.aF Gb (fun e=>by have:=Ld _ e;omega);refine⟨hid.1,⟨hid.2.1,Cells.bJ QI⟩,hid.2.1,?_⟩;intro Hs;have Na:Kept Nil G6 Hs:=(Kept.refl _ _).alloc _;have aas:HS Hs (some ⟨G6.heap.size,0,none⟩) 1 [hid]:=jq G6 hid;clear_value Hs;have xn:∀p∈dA lp,p∈ids D:=fun p hp=>dm p (dt.1 hp);have W':jG (D++ [⟨hid,dA lp⟩]):=W.snoc (nd:=⟨hid,dA lp⟩) fQ xn (iL lp);obtain⟨bl',c',Tw,M',Zd⟩:=Xc;have Ph:∀k,m.own x k->k<w.heap.size:=fun k e=>h.low k (.inl (.inr (.inr (.inr e))));have hTv:uK G6:=(hT.same Eo).aF Gb KF;refine wB (Zd.same Na) W' (by simp;omega) (hTv.same Na) aas (by omega) fun A69 c69 DR HO Lr=>⟨A69,_,c69,rfl,?_⟩;have x7:=Na.tt Lr;have aev:=x7.size;have p2:=mL (D++ [⟨hid,dA lp⟩]) fun a=>∃z∈ [hid],eB (D++ [⟨hid,dA lp⟩]) a z
  change (dG (D++ [⟨hid,dA lp⟩]) [hid]).length<=_ at p2
  rw [List.length_append,List.length_singleton]at p2;have CZ:∀y,y∈dG (D++ [⟨hid,dA lp⟩]) [hid]↔eB (D++ [⟨hid,dA lp⟩]) y hid:=fun y=>by
   unfold dG;rw [jv];constructor
   ·rintro⟨_,z,hz,e⟩
    rw [List.mem_singleton]at hz
    rwa [hz]at e
   ·exact fun e=>⟨(e.mem W').1,hid,by simp,e⟩
  have lP:Kept (fun k=>m.SG k) w DR:=((Eo.mono (S':=fun k=>m.SG k) (fun _ _ h=>h.elim)).tt Gb).trans x7 (fun _ _ h=>h.elim);have Pg:∀k,m.own x k->¬m.SG k:=fun k e=>(h.od k e).1;have SP:=lP.heap h.top (Pg _ (.inl rfl));have ft:(dG (D++ [⟨hid,dA lp⟩]) [hid]).Nodup:=(iL _).nodup;obtain⟨f0,acA,acC⟩:=h.Y6;have aeU:∀k,m.own x k->¬(k=m.cb)\/k=m.cb:=fun k _=>(Classical.em _).symm;have uF:m.own x m.cb:=.inr (.inr (.inr rfl));have TC:=Ph _ uF;generalize rO:dG (D++ [⟨hid,dA lp⟩]) [hid]=pl at HO p2 CZ ft⊢;refine aE.gS (I:=fun i u=>∃q:Nat,i=(q:Int)/\q<=pl.length/\Kept (· =m.cb) DR u/\∃f,fV u m.cb f/\∀y,∃l,o7 u (fun k=>m.SO k\/(DR.heap.size<=k/\k<u.heap.size)) (D.length+if y∈pl.take q then 1 else 0) (f y) l/\∀c,c∈l↔OF D P y c\/(c=hid/\y∈pl.take q/\y≠s/\¬eB D y s))
   (μ:=fun i _=>((pl.length:Int)-i).toNat) (s:=0) ⟨0,rfl,Nat.zero_le _,Kept.refl _ _,f0,acA.aF lP (Pg _ uF),fun y=>?_⟩ ?_
  ·obtain⟨l,h1,h2⟩:=acC y
   refine⟨l,?_,fun c=>?_⟩
   ·rcases h1.aF lP (fun k e e'=>(h.gt k e').2 e)with h3|⟨A,n,c,g1,g2,g3,g4,g5⟩
    ·exact .inl h3
    ·exact .inr ⟨A,n,c,g1,g2,g3,by omega,fun a ha=>.inl (g5 a ha)⟩
   ·rw [h2]
    simp
  ·rintro i u ⟨q,rfl,R8,ku,Wn⟩
   refine GY h hD lP.size SP (x7.heap QI (fun h=>h)) (Nat.le_refl _) ((abE.aF Na (fun h=>h)).aF Lr (fun h=>h)) (by omega) rfl
    (fun y=>⟨fun e=>(Wb y).1 (e.imp (fun h=>h) (fun h=>(Ja y).2 h)),fun e=>(Wb y).2 (fun e'=>e (e'.imp (fun h=>h) (fun h=>(Ja y).1 h)))⟩)
    (Row.base HO (fun b hb=>by have:=(Row.bJ HO hb).1;have:=Na.size;omega)) (by omega) ku R8 (Z:=fun _ _=>True) Wn ft (hid:=hid) (s:=s) (D':=D) (ps:= []) (fun v' kv' acu cU=>?_) (fun hqe=>?_)
   ·exact⟨(q:Int)+1,rfl,⟨q+1,rfl,cU,kv',acu⟩,by simp only;omega⟩
   ·subst hqe
    rw [aS];unfold aE.e2;rw [aE.Zj];rw [List.take_of_length_le (Nat.le_refl _)]at Wn;have Il:Kept (fun k=>m.SG k\/k=m.cb) w u:=(lP.mono (S':=fun k=>m.SG k\/k=m.cb) (fun _ _ h=>.inl h)).trans ku (fun _ _ h=>.inr h);have su:=ku.size;obtain⟨RN,Tq,Pf,Tp,RM,To⟩:=h.ne;have Le:∀k,F k->k<w.heap.size:=fun k e=>h.low k (.inr e);have adm:GV DR S2 F2 m.g (D++ [⟨hid,dA lp⟩]) (gV (D++ [⟨hid,dA lp⟩])) bl' c' Tw M':=Zd.same x7;have nS2:∀k,S2 k->¬k=m.cb:=fun k h1 e=>by
     rcases Re k h1 with h2|h2
     ·exact(h.od _ uF).1 (e▸h2)
     ·omega
    have nF2:∀k,F2 k->¬k=m.cb:=fun k h1 e=>by
     rcases Ri k h1 with h2|h2
     ·exact(h.od _ uF).2.2.2 (e▸h2)
     ·omega
    have zx:∀k,m.own x k->k≠m.cb->¬(m.SG k\/k=m.cb):=fun k e fD e'=>e'.elim (Pg k e) fD;refine JY (s1:=G6.heap.size) (s2:=DR.heap.size) (S2:=S2) (F2:=F2) (SO2:=fun k=>m.SO k\/(DR.heap.size<=k/\k<u.heap.size)) (mj:=mj) h hD fQ xn (iL lp) hj Qt (dt.2 vY) (Il.heap h.top (zx _ (.inl rfl) Pf))
     (Nat.le_refl _) (by omega) (ku.heap (x7.heap QI (fun h=>h)) (fun e=>by omega)) (ku.heap (x7.heap UD (fun h=>h)) (fun e=>by omega)) ⟨bl',c',Tw,M',adm.aF ku nS2 nF2⟩
     (h.T.aF Il (fun k e e'=>e'.elim (fun e'=>(h.gt k e').1 e) (fun e'=>(h.od _ uF).2.1 (e'▸e)))) (h.at_.aF Il (zx _ (.inr (.inl rfl)) RM)) (Row.aF h.row Il (fun k e=>by cases e;exact zx _ (.inr (.inr (.inl rfl))) To))
     ?_ (by omega) (by omega) su (fun k e=>⟨(Re k e).imp (fun h=>h) (fun h=>by omega),Zd.low k (.inl e)⟩) (fun k e=>⟨(Ri k e).imp (fun h=>h) (fun h=>by omega),Zd.low k (.inr e)⟩) (fun k e=>e)
     (Il.mono (S':=fun k=>m.ly x k) (fun k _ e=>e.elim (fun e=>.inl e) (fun e=>.inr (.inr (.inr (.inr (.inr (.inr e)))))))) (fun u2 S' F' hI kU hSu On=>?_)
    ·obtain⟨f,hf,hc⟩:=Wn
     refine⟨f,hf,fun y=>?_⟩;obtain⟨l,h1,h2⟩:=hc y;refine⟨l,?_,fun c=>?_⟩
     ·rcases h1 with h3|⟨A,n,c,g1,g2,g3,g4,g5⟩
      ·exact .inl h3
      ·refine .inr ⟨A,n,c,g1,g2,g3,?_,g5⟩
       split at g4<;>omega
     ·rw [h2,JM W h.gQ (nd:=⟨hid,dA lp⟩) fQ xn hj,Qt]
      constructor
      ·rintro(h3|⟨h3,h4,h5,h6⟩)
       ·exact .inl h3
       ·exact .inr ⟨h3,(CZ y).1 h4,h5,h6⟩
      ·rintro(h3|⟨h3,h4,h5,h6⟩)
       ·exact .inl h3
       ·exact .inr ⟨h3,(CZ y).2 h4,h5,h6⟩
    ·refine Bd u2 S' F' ?_ kU hSu On eX
     rw [eD,eP];exact hI
end
def dz:HT:=hx 0 (by decide)
def cF(D:DG)(P:List Int)(h:HT)(l:List HT):Prop:=(h∉ids D/\l= [])\/∃(i:Nat) (nd:DN) (ks:List Nat),D[i]? =some nd/\nd.id=h/\Up P i ks/\l=ks.map (mO D)
theorem mN{D:DG}{i:Nat}{nd:DN}(h:D[i]? =some nd):mO D i=nd.id:=by unfold mO;rw [h]
theorem cF.ex{D:DG}{P:List Int}(H:rR D P)(h:HT):∃l,cF D P h l:=by
 by_cases hm:h∈ids D
 ·obtain⟨nd,ft,e⟩:=cS.1 hm
  obtain⟨i,hi⟩:=List.mem_iff_getElem?.1 ft;obtain⟨ks,hk⟩:=Up.ex H.par i (by rw [H.len];exact(lgeS hi).1);exact⟨_,.inr ⟨i,nd,ks,hi,e,hk,rfl⟩⟩
 ·exact⟨[],.inl ⟨hm,rfl⟩⟩
theorem cF.mem{D:DG}{P:List Int}(W:jG D)(H:rR D P){h:HT}{l:List HT}(c:cF D P h l){a:HT}:a∈l↔Ch D P a h:=by
 rcases c with⟨h1,rfl⟩|⟨i,nd,ks,h1,rfl,h3,rfl⟩
 ·simp only [List.not_mem_nil,false_iff]
  exact fun e=>h1 e.mem.2
 ·have dY:i<P.length:=by rw [H.len];exact(lgeS h1).1
  rw [List.mem_map];constructor
  ·rintro⟨k,hk,rfl⟩
   have hu:=(h3.mem H.par dY).1 hk;have B8:=hu.X5;rw [H.len]at B8;obtain⟨nk,LV⟩:∃nk,D[k]? =some nk:=⟨_,List.getElem?_eq_getElem B8⟩;exact⟨i,k,nd,nk,h1,rfl,LV,(mN LV).symm,hu⟩
  ·rintro⟨i',k,ni,nk,g1,g2,g3,g4,g5⟩
   have:=W.inj g1 h1 g2;subst this;exact⟨k,(h3.mem H.par dY).2 g5,by rw [mN g3,g4]⟩
theorem cF.one{D:DG}{P:List Int}(W:jG D)(H:rR D P){h:HT}{l l':List HT}(c:cF D P h l)(c':cF D P h l'):l=l':=by
 rcases c with⟨h1,rfl⟩|⟨i,nd,ks,h1,h2,h3,rfl⟩
 ·rcases c' with⟨_,rfl⟩|⟨i,nd,ks,g1,g2,_,_⟩
  ·rfl
  ·exact absurd (cS.2 ⟨nd,List.mem_of_getElem? g1,g2⟩) h1
 ·rcases c' with⟨g1,rfl⟩|⟨i',nd',ks',g1,g2,g3,rfl⟩
  ·exact absurd (cS.2 ⟨nd,List.mem_of_getElem? h1,h2⟩) g1
  ·have:=W.inj h1 g1 (by rw [h2,g2])
   subst this;rw [Up.one H.par h3 g3]
section
variable{w w':World}{F S:Nat->Prop}{x:Nat}{D:DG}{P:List Int}{m:XM}{K:Value->World->Prop}
theorem XV.O8(h:XV w F x D P m){i:Nat}{nd:DN}(hi:D[i]? =some nd):Cells w ((⟨m.ib,0,none⟩:Addr).add (i*32)) nd.id.1:=by
 obtain⟨a,ha,_,hc⟩:=(bM.hs h.row).at_ i nd.id (qE hi);cases ha;exact hc
theorem XV.HZ(h:XV w F x D P m){i:Nat}{nd:DN}(hi:D[i]? =some nd):∃td,m.T[i]? =some td/\P[i]? =some td.parent:=by
 have dY:=(lgeS hi).1;obtain⟨td,Yo⟩:=Tr.gv (T:=m.T) (i:=i) (by rw [h.O0];exact dY);exact⟨td,Yo,by rw [<-h.bY];exact Tr.lO Yo⟩
theorem pP(a:HT)(hK:∀w' pb qb,Kept Nil w w'->w'.heap[pb]? =some (.cells #[.pointer (some ⟨x,0,none⟩)] gA (0,0))->w'.heap[qb]? =some (.cells a.1 ag (0,0))->w.heap.size<=pb->w.heap.size<=qb->K (.func (.func aZ.id) #[] #[.pointer (some ⟨pb,0,none⟩),.pointer (some ⟨qb,0,none⟩)]) w'):
 bz prog gh.id #[.pointer (some ⟨x,0,none⟩),.agg a.1] w K:=by
 refine gh.of ?_;unfold gh.W;intro w3 w4;have k3:Kept Nil w w3:=(Kept.refl _ _).alloc _;have hp3:w3.heap[w.heap.size]? =some (.cells #[.pointer (some ⟨x,0,none⟩)] gA (0,0)):=aI w _;have k4:Kept Nil w3 w4:=(Kept.refl _ _).alloc _;have hq4:w4.heap[w3.heap.size]? =some (.cells a.1 ag (0,0)):=aI w3 _;clear_value w4;exact hK w4 _ _ (k3.tt k4) (k4.heap hp3 (fun h=>h)) hq4 (Nat.le_refl _) k3.size
theorem yC{pb qb:Nat}{a:HT}{l:List HT}(hl:cF D P a l)(hD:D.length<=5000):
 oA prog aZ.id #[] #[.pointer (some ⟨pb,0,none⟩),.pointer (some ⟨qb,0,none⟩)] (l.map sD) (fun w=>XV w F x D P m/\w.heap[pb]? =some (.cells #[.pointer (some ⟨x,0,none⟩)] gA (0,0))/\w.heap[qb]? =some (.cells a.1 ag (0,0))):=by
 intro y I Q w0 hI hQ oN h0 oM;obtain⟨hX,LS,NJ⟩:=oN 0 w0 h0;have W:=hX.W;have mP:=hX.gQ;refine aZ.of ?_;unfold aZ.W;refine⟨_,by rw [aD LS];rfl,a.1,⟨a.2.1,Cells.bJ NJ⟩,a.2.1,?_⟩;intro w6;have k6:Kept Nil w0 w6:=(Kept.refl _ _).alloc _;have qR:HS w6 (some ⟨w0.heap.size,0,none⟩) 1 [a]:=jq w0 a;clear_value w6;refine qy (hX.same k6) qR (by omega) fun w8 k8=>⟨_,rfl,?_⟩;have uS:=k6.tt k8;rcases hl with⟨kW,rfl⟩|⟨i,nd,ks,hi,hid,R1,rfl⟩
 ·exact Split.yes (by rw [decide_eq_false (by simpa using kW)];rfl) (.inl (hI 0 w0 w8 h0 uS))
 ·have hm:a∈ids D:=cS.2 ⟨nd,List.mem_of_getElem? hi,hid⟩
  refine Split.no (by rw [decide_eq_true (by simpa using hm)];rfl) ?_;intro w10;have mD:Kept Nil w8 w10:=(Kept.refl _ _).drew;clear_value w10;have CJ:=uS.tt mD;have wS:=hX.same CJ;have lk:=wS.at_.xZ a;rw [<-hid,W.pos_eq hi]at lk;rw [hid]at lk;refine⟨some ⟨x,0,none⟩,by rw [aD (CJ.heap LS (fun h=>h))];rfl,_,wS.c2,a.1,⟨a.2.1,Cells.bJ (CJ.heap NJ (fun h=>h))⟩,_,lk,?_⟩;have dY:i<P.length:=by rw [mP.len];exact(lgeS hi).1
  have UY:=mP.par;refine aZ.cy (I:=fun s v=>∃(k:Nat) (dn rs:List Nat),s=(k:Int)/\ks=dn++rs/\Up P k rs/\k<P.length/\I dn.length v) (μ:=fun s _=>s.toNat) (s:=((i:Nat):Int)) ⟨i,[],ks,rfl,rfl,R1,dY,hI 0 w0 w10 h0 CJ⟩ ?_;rintro s v ⟨k,dn,rs,rfl,QA,Ym,B8,hv⟩;obtain⟨hXv,hpv,hqv⟩:=oN _ v hv;rw [mP.len]at B8;obtain⟨nk,LV⟩:∃nk,D[k]? =some nk:=⟨_,List.getElem?_eq_getElem B8⟩;refine⟨some ⟨x,0,none⟩,by rw [aD hpv];rfl,_,_,_,hXv.c3,⟨by omega,by omega⟩,nk.id.1,⟨nk.id.2.1,by rw [Int.toNat_natCast];exact hXv.O8 LV⟩,?_⟩;have gU:((ks.map (mO D)).map sD)[dn.length]? =some (sD nk.id):=by
   rw [List.getElem?_map,List.getElem?_map,QA,List.getElem?_append_right (Nat.le_refl _),Nat.sub_self,Ym.head];simp [mN LV]
  refine(oM dn.length (sD nk.id) v gU hv).mono ?_;rintro b v' ⟨ht,hf⟩;cases b with
  |false=>
   refine Split.no rfl ?_;rw [aS,aZ.dq];exact .inr (hf rfl)
  |true=>
   refine Split.yes rfl ?_;have Xb:=ht rfl;cases Ym with
   |root=>
    refine Split.no rfl ?_;rw [aS,aZ.dq];refine .inl ?_;rw [List.length_map,List.length_map,QA,List.length_append];exact Xb
   | @step _ j ZF hj IQ=>
     have VR:=(Tr.iD UY (Tr.eE.2 hj)).1;refine Split.yes (decide_eq_true (by omega)) ?_;obtain⟨Rc,abh,_⟩:=oN _ v' Xb;obtain⟨td,Yo,htp⟩:=Rc.HZ LV;rw [hj]at htp;have aaK:(j:Int)=td.parent:=by simpa using htp
     refine⟨some ⟨x,0,none⟩,by rw [aD abh];rfl,_,Rc.c1,Tr.zT Rc.T Yo (by omega) ⟨_,_,rfl,?_⟩⟩;rw [<-aaK];refine⟨(j:Int),rfl,⟨j,dn++ [k],ZF,rfl,by rw [QA];simp,IQ,by rw [mP.len];omega,?_⟩,by simp only;omega⟩;rw [List.length_append];exact Xb
end
structure XN(w v:World)(r:HT)(own:Nat->Nat)(G T E I Z:Option Nat)(l:List HT):Prop where
 kp:Kept Nil w v
 gr:∀g,G=some g->∃SG,DL v SG (fun _=>False) g [⟨r,[]⟩]/\∀k,SG k->w.heap.size<=k/\own k=1
 tr:∀t,T=some t->∃ST,Tr.pC v ST t Tr.qW 0/\∀k,ST k->w.heap.size<=k/\k<v.heap.size/\own k=2
 mp:∀b,E=some b->w.heap.size<=b/\own b=3/\IsMap v b l
 il:∀b,I=some b->w.heap.size<=b/\own b=4/\v.heap[b]? =some (.cells (r.1.toList++ []).toArray ag (0,0))
 cv:∀b,Z=some b->w.heap.size<=b/\own b=5/\fV v b (fun _=>none)
def tag(n t:Nat)(own:Nat->Nat)(k:Nat):Nat:=if n<=k then t else own k
theorem rT{n t k:Nat}{own:Nat->Nat}(h:k<n):tag n t own k=own k:=by unfold tag;rw [if_neg (by omega)]
theorem rU{n t k:Nat}{own:Nat->Nat}(h:n<=k):tag n t own k=t:=by unfold tag;rw [if_pos h]
section
variable{w v v':World}{r:HT}{own:Nat->Nat}{G T E I Z:Option Nat}{l:List HT}{K:Value->World->Prop}
theorem XN.grow(h:XN w v r own G T E I Z l)(t:Nat)(k:Kept Nil v v'):XN w v' r (tag v.heap.size t own) G T E I Z l:=by
 have hs:=k.size;refine⟨h.kp.tt k,fun g e=>?_,fun g e=>?_,fun b e=>?_,fun b e=>?_,fun b e=>?_⟩
 ·obtain⟨SG,h1,h2⟩:=h.gr g e
  exact⟨SG,h1.same k,fun q hq=>⟨(h2 q hq).1,by rw [rT (by obtain⟨bl,c,mb,M,G⟩:=h1;exact G.low q (.inl hq))];exact(h2 q hq).2⟩⟩
 ·obtain⟨ST,h1,h2⟩:=h.tr g e
  exact⟨ST,h1.same k,fun q hq=>⟨(h2 q hq).1,by have:=(h2 q hq).2.1;omega,by rw [rT (h2 q hq).2.1];exact(h2 q hq).2.2⟩⟩
 ·obtain⟨h1,h2,h3⟩:=h.mp b e
  exact⟨h1,by rw [rT h3.lt];exact h2,h3.aF k (fun h=>h)⟩
 ·obtain⟨h1,h2,h3⟩:=h.il b e
  exact⟨h1,by rw [rT (aV h3)];exact h2,k.heap h3 (fun h=>h)⟩
 ·obtain⟨h1,h2,h3⟩:=h.cv b e
  exact⟨h1,by rw [rT h3.lt];exact h2,h3.aF k (fun h=>h)⟩
theorem XN.dh(h:XN w v r own none T E I Z l){gb:Nat}(hG:DL v' (fun k=>v.heap.size<=k/\k<v'.heap.size) (fun _=>False) gb [⟨r,[]⟩])(k:Kept Nil v v'):XN w v' r (tag v.heap.size 1 own) (some gb) T E I Z l:=by
 have g:=h.grow 1 k;refine⟨g.kp,?_,g.tr,g.mp,g.il,g.cv⟩;intro g' e;cases e;have:=h.kp.size;exact⟨_,hG,fun q hq=>⟨by omega,rU hq.1⟩⟩
theorem XN.uI(h:XN w v r own G none E I Z l){t:Nat}(hT:Tr.pC v' (fun k=>v.heap.size<=k) t Tr.qW 0)(k:Kept Nil v v'):XN w v' r (tag v.heap.size 2 own) G (some t) E I Z l:=by
 have g:=h.grow 2 k;refine⟨g.kp,g.gr,?_,g.mp,g.il,g.cv⟩;intro t' e;cases e;have:=h.kp.size;exact⟨_,tN hT,fun q hq=>⟨by omega,hq.2,rU hq.1⟩⟩
theorem XN.uJ(h:XN w v r own G T none I Z []):XN w (v.alloc (.map #[] 0)) r (tag v.heap.size 3 own) G T (some v.heap.size) I Z []:=by
 have g:=h.grow 3 ((Kept.refl Nil v).alloc (.map #[] 0));refine⟨g.kp,g.gr,g.tr,?_,g.il,g.cv⟩;intro b e;cases e;exact⟨h.kp.size,rU (Nat.le_refl _),⟨#[],0,aI v _,trivial⟩⟩
theorem XN.po(h:XN w v r own G T E none Z l):XN w (v.alloc (.cells (r.1.toList++ []).toArray ag)) r (tag v.heap.size 4 own) G T E (some v.heap.size) Z l:=by
 have g:=h.grow 4 ((Kept.refl Nil v).alloc (.cells (r.1.toList++ []).toArray ag));refine⟨g.kp,g.gr,g.tr,g.mp,?_,g.cv⟩;intro b e;cases e;exact⟨h.kp.size,rU (Nat.le_refl _),aI v _⟩
theorem XN.pk(h:XN w v r own G T E I none l):XN w (v.alloc (.map #[] 0)) r (tag v.heap.size 5 own) G T E I (some v.heap.size) l:=by
 have g:=h.grow 5 ((Kept.refl Nil v).alloc (.map #[] 0));refine⟨g.kp,g.gr,g.tr,g.mp,g.il,?_⟩;intro b e;cases e;exact⟨h.kp.size,rU (Nat.le_refl _),fV.new v⟩
theorem XN.put{mb:Nat}(h:XN w v r own G T (some mb) I Z []):∃v',(Instr.mapUpdate cJ (.map (some mb)) (.agg r.1) (.int .i64 0)).run prog v=.ok () v'/\XN w v' r own G T (some mb) I Z [r]:=by
 obtain⟨h1,h2,h3⟩:=h.mp mb rfl;obtain⟨v',hr,hm,hk⟩:=h3.put (h:=r) (by simp);refine⟨v',hr,(h.kp.trans hk (fun k hk e=>by omega)),fun g e=>?_,fun g e=>?_,fun b e=>?_,fun b e=>?_,fun b e=>?_⟩
 ·obtain⟨SG,g1,g2⟩:=h.gr g e
  exact⟨SG,g1.aF hk (fun q hq e=>by have:=(g2 q hq).2;rw [e,h2]at this;cases this) (fun q hq=>hq.elim),g2⟩
 ·obtain⟨ST,g1,g2⟩:=h.tr g e
  exact⟨ST,g1.aF hk (fun q hq e=>by have:=(g2 q hq).2.2;rw [e,h2]at this;cases this),fun q hq=>⟨(g2 q hq).1,Nat.lt_of_lt_of_le (g2 q hq).2.1 hk.size,(g2 q hq).2.2⟩⟩
 ·cases e
  exact⟨h1,h2,hm⟩
 ·obtain⟨g1,g2,g3⟩:=h.il b e
  exact⟨g1,g2,hk.heap g3 (fun e=>by rw [e,h2]at g2;cases g2)⟩
 ·obtain⟨g1,g2,g3⟩:=h.cv b e
  exact⟨g1,g2,g3.aF hk (fun e=>by rw [e,h2]at g2;cases g2)⟩
theorem XN.fin{g t mb ib cb:Nat}{w0:World}(h:XN w v r own (some g) (some t) (some mb) (some ib) (some cb) [r])(hw:w0.heap.size<=w.heap.size):
 DK (v.alloc (.cells #[.pointer (some ⟨g,0,none⟩),.pointer (some ⟨t,0,none⟩),.map (some mb),.slice (some ⟨ib,0,none⟩) 1 1,.map (some cb)] eZ)) (fun k=>w0.heap.size<=k/\k<(v.alloc (.cells #[.pointer (some ⟨g,0,none⟩),.pointer (some ⟨t,0,none⟩),.map (some mb),.slice (some ⟨ib,0,none⟩) 1 1,.map (some cb)] eZ)).heap.size) (fun _=>False) v.heap.size [⟨r,[]⟩] [-1]:=by
 have jx:=aI v (.cells #[.pointer (some ⟨g,0,none⟩),.pointer (some ⟨t,0,none⟩),.map (some mb),.slice (some ⟨ib,0,none⟩) 1 1,.map (some cb)] eZ);have kx:=(Kept.refl Nil v).alloc (.cells #[.pointer (some ⟨g,0,none⟩),.pointer (some ⟨t,0,none⟩),.map (some mb),.slice (some ⟨ib,0,none⟩) 1 1,.map (some cb)] eZ);have hx:=aV jx;generalize v.alloc (.cells #[.pointer (some ⟨g,0,none⟩),.pointer (some ⟨t,0,none⟩),.map (some mb),.slice (some ⟨ib,0,none⟩) 1 1,.map (some cb)] eZ)=u at jx kx hx;obtain⟨SG,hG,gG⟩:=h.gr g rfl;obtain⟨ST,hT,gT⟩:=h.tr t rfl;obtain⟨m1,m2,m3⟩:=h.mp mb rfl;obtain⟨i1,i2,i3⟩:=h.il ib rfl;obtain⟨c1,c2,c3⟩:=h.cv cb rfl;have oO:∀k,SG k->k<v.heap.size:=fun k e=>by obtain⟨bl,c,mb,M,G⟩:=hG;exact G.low k (.inl e)
 have sw:=h.kp.size;have lm:=m3.lt;have li:=aV i3;have lc:=c3.lt;have De:∀ {a b:HT},¬eB [(⟨r,[]⟩:DN)] a b:=Ak r;refine⟨⟨g,t,mb,ib,1,cb,Tr.qW,0,SG,ST,fun _=>False⟩,⟨jx,hG.same kx,hT.same kx,Tr.Ct,rfl,⟨Int.le_refl 0,by show(0:Int)<=_;simp⟩,m3.aF kx (fun h=>h),?_,⟨_,c3.aF kx (fun h=>h),fun y=>⟨[],.inl ⟨rfl,rfl⟩,fun c=>?_⟩⟩,?_,jG.root r,?_,?_,?_,?_,?_,?_⟩,?_⟩
 ·have e:df [r]=(r.1.toList++ []).toArray.toList:=by simp [df]
  show Row _ _ _ _ _ _ _ (df [r])
  rw [e];exact Row.made (kx.heap i3 (fun h=>h)) (Nat.zero_le _) (by simp [r.2.1]) (by show 1<=maxLen;decide)
 ·simp only [List.not_mem_nil,false_iff]
  exact fun hc=>De hc.1
 ·refine⟨rfl,rfl,fun i p nd hi hp=>?_⟩
  cases i with
  |zero=>omega
  |succ i=>simp at hp
 ·exact fun k e=>⟨fun e'=>by have:=(gG k e).2;have:=(gT k e').2.2;omega,fun e'=>e'.elim⟩
 ·exact fun k e e'=>e'.elim
 ·exact fun k e=>e.elim
 ·intro k e
  have key:v.heap.size<=k\/3<=own k:=by
   rcases e with e|e|e|e
   ·exact .inl (by omega)
   ·exact .inr (by have e:k=mb:=e;rw [e];omega)
   ·exact .inr (by have e:k=ib:=e;rw [e];omega)
   ·exact .inr (by have e:k=cb:=e;rw [e];omega)
  refine⟨fun e'=>?_,fun e'=>?_,fun e'=>e'.elim,fun e'=>e'.elim⟩
  ·have h1:=(gG k e').2
   have h2:=oO k e';omega
  ·have h1:=(gT k e').2.2
   have h2:=(gT k e').2.1;omega
 ·refine⟨by show v.heap.size≠mb;omega,by show v.heap.size≠ib;omega,by show v.heap.size≠cb;omega,fun e=>?_,fun e=>?_,fun e=>?_⟩
  ·have e:mb=ib:=e
   rw [e]at m2;omega
  ·have e:mb=cb:=e
   rw [e]at m2;omega
  ·have e:ib=cb:=e
   rw [e]at i2;omega
 ·intro k e
  rcases e with e|e
  ·rcases e with e|e|e|e
   ·have:=oO k e;omega
   ·have:=(gT k e).2.1;omega
   ·exact e.elim
   ·rcases e with e|e|e|e
    ·omega
    ·have e:k=mb:=e;omega
    ·have e:k=ib:=e;omega
    ·have e:k=cb:=e;omega
  ·exact e.elim
 ·intro k e
  rcases e with e|e|e|e
  ·have:=oO k e;have:=(gG k e).1;omega
  ·have:=(gT k e).1;have:=(gT k e).2.1;omega
  ·exact e.elim
  ·rcases e with e|e|e|e
   ·omega
   ·have e:k=mb:=e;omega
   ·have e:k=ib:=e;omega
   ·have e:k=cb:=e;omega
structure XD(w o:World)(r:HT)(K:Value->World->Prop):Prop where
 cs:∀ {v:World},Kept Nil o v->∃cs:Array Value,(.agg r.1:Value)=.agg cs/\cs.size=32/\Cells v (aR w.heap.size) cs
 fin:∀ {v:World} {own:Nat->Nat} {g t mb ib cb:Nat},XN o v r own (some g) (some t) (some mb) (some ib) (some cb) [r]->K (.pointer (some ⟨v.heap.size,0,none⟩)) (v.alloc (.cells #[.pointer (some ⟨g,0,none⟩),.pointer (some ⟨t,0,none⟩),.map (some mb),.slice (some ⟨ib,0,none⟩) 1 1,.map (some cb)] eZ))
end
section
variable{w o v e i z:World}{r:HT}{own:Nat->Nat}{g t:Nat}{K:Value->World->Prop}
theorem n1(D:XD w o r K)(h:XN o v r own (some g) (some t) (some e.heap.size) (some i.heap.size) (some z.heap.size) [r]):ax.N1 (some ⟨g,0,none⟩) (some ⟨t,0,none⟩) e i z K v:=by
 unfold ax.N1;exact D.fin h
theorem n2(D:XD w o r K)(h:XN o v r own (some g) (some t) (some e.heap.size) (some i.heap.size) none [r]):ax.N2 (some ⟨g,0,none⟩) (some ⟨t,0,none⟩) e i K v:=by
 unfold ax.N2;exact let n:=h.pk;n1 D n
theorem n3(D:XD w o r K)(h:XN o v r own (some g) (some t) (some e.heap.size) none (some z.heap.size) [r]):ax.N3 r.1 (some ⟨g,0,none⟩) (some ⟨t,0,none⟩) e z K v:=by
 unfold ax.N3;exact let n:=h.po;⟨r.2.1,n1 D n⟩
theorem n4(D:XD w o r K)(h:XN o v r own (some g) (some t) (some e.heap.size) none none [r]):ax.N4 r.1 (some ⟨g,0,none⟩) (some ⟨t,0,none⟩) e w K v:=by
 unfold ax.N4;exact⟨(let n:=h.po;⟨r.2.1,n2 D n⟩),(let n:=h.pk;⟨D.cs n.kp,n3 D n⟩)⟩
theorem n5(D:XD w o r K)(h:XN o v r own (some g) (some t) (some e.heap.size) (some i.heap.size) (some z.heap.size) []):ax.N5 e r.1 (some ⟨g,0,none⟩) (some ⟨t,0,none⟩) i z K v:=by
 unfold ax.N5;exact let ⟨u,q,n⟩:=h.put;⟨u,q,n1 D n⟩
theorem n6(D:XD w o r K)(h:XN o v r own (some g) (some t) (some e.heap.size) (some i.heap.size) none []):ax.N6 e r.1 (some ⟨g,0,none⟩) (some ⟨t,0,none⟩) i w K v:=by
 unfold ax.N6;exact⟨(let ⟨u,q,n⟩:=h.put;⟨u,q,n2 D n⟩),(let n:=h.pk;⟨D.cs n.kp,n5 D n⟩)⟩
theorem n7(D:XD w o r K)(h:XN o v r own (some g) (some t) (some e.heap.size) none (some z.heap.size) []):ax.N7 e r.1 r.1 w (some ⟨g,0,none⟩) (some ⟨t,0,none⟩) z K v:=by
 unfold ax.N7;exact⟨(let ⟨u,q,n⟩:=h.put;⟨u,q,D.cs n.kp,n3 D n⟩),(let n:=h.po;⟨r.2.1,D.cs n.kp,n5 D n⟩)⟩
theorem n8(D:XD w o r K)(h:XN o v r own (some g) (some t) (some e.heap.size) none none []):ax.N8 e r.1 r.1 w (some ⟨g,0,none⟩) (some ⟨t,0,none⟩) K v:=by
 unfold ax.N8;exact⟨(let ⟨u,q,n⟩:=h.put;⟨u,q,D.cs n.kp,n4 D n⟩),(let n:=h.po;⟨r.2.1,D.cs n.kp,n6 D n⟩),(let n:=h.pk;⟨D.cs n.kp,D.cs n.kp,n7 D n⟩)⟩
theorem n9(D:XD w o r K)(h:XN o v r own (some g) (some t) none (some i.heap.size) (some z.heap.size) []):ax.N9 r.1 w (some ⟨g,0,none⟩) (some ⟨t,0,none⟩) i z K v:=by
 unfold ax.N9;exact let n:=h.uJ;⟨D.cs n.kp,n5 D n⟩
theorem n10(D:XD w o r K)(h:XN o v r own (some g) (some t) none (some i.heap.size) none []):ax.SA r.1 w (some ⟨g,0,none⟩) (some ⟨t,0,none⟩) i K v:=by
 unfold ax.SA;exact⟨(let n:=h.uJ;⟨D.cs n.kp,n6 D n⟩),(let n:=h.pk;⟨D.cs n.kp,n9 D n⟩)⟩
theorem n11(D:XD w o r K)(h:XN o v r own (some g) (some t) none none (some z.heap.size) []):ax.Zc r.1 w r.1 (some ⟨g,0,none⟩) (some ⟨t,0,none⟩) z K v:=by
 unfold ax.Zc;exact⟨(let n:=h.uJ;⟨D.cs n.kp,D.cs n.kp,n7 D n⟩),(let n:=h.po;⟨r.2.1,D.cs n.kp,n9 D n⟩)⟩
theorem n12(D:XD w o r K)(h:XN o v r own (some g) (some t) none none none []):ax.RF r.1 w r.1 (some ⟨g,0,none⟩) (some ⟨t,0,none⟩) K v:=by
 unfold ax.RF;exact⟨(let n:=h.uJ;⟨D.cs n.kp,D.cs n.kp,n8 D n⟩),(let n:=h.po;⟨r.2.1,D.cs n.kp,n10 D n⟩),(let n:=h.pk;⟨D.cs n.kp,D.cs n.kp,n11 D n⟩)⟩
theorem n13(D:XD w o r K)(h:XN o v r own (some g) none (some e.heap.size) (some i.heap.size) (some z.heap.size) [r]):ax.MO (some ⟨g,0,none⟩) e i z K v:=by
 unfold ax.MO;exact Tr.fh fun _ _ q k=>let n:=h.uI q k;⟨_,rfl,n1 D n⟩
theorem n14(D:XD w o r K)(h:XN o v r own (some g) none (some e.heap.size) (some i.heap.size) none [r]):ax.RE (some ⟨g,0,none⟩) e i K v:=by
 unfold ax.RE;exact⟨(Tr.fh fun _ _ q k=>let n:=h.uI q k;⟨_,rfl,n2 D n⟩),(let n:=h.pk;n13 D n)⟩
theorem n15(D:XD w o r K)(h:XN o v r own (some g) none (some e.heap.size) none (some z.heap.size) [r]):ax.XS r.1 w (some ⟨g,0,none⟩) e z K v:=by
 unfold ax.XS;exact⟨(Tr.fh fun _ _ q k=>let n:=h.uI q k;⟨_,rfl,D.cs n.kp,n3 D n⟩),(let n:=h.po;⟨r.2.1,n13 D n⟩)⟩
theorem n16(D:XD w o r K)(h:XN o v r own (some g) none (some e.heap.size) none none [r]):ax.Sz r.1 w (some ⟨g,0,none⟩) e K v:=by
 unfold ax.Sz;exact⟨(Tr.fh fun _ _ q k=>let n:=h.uI q k;⟨_,rfl,D.cs n.kp,n4 D n⟩),(let n:=h.po;⟨r.2.1,n14 D n⟩),(let n:=h.pk;⟨D.cs n.kp,n15 D n⟩)⟩
theorem n17(D:XD w o r K)(h:XN o v r own (some g) none (some e.heap.size) (some i.heap.size) (some z.heap.size) []):ax.Sy r.1 w e (some ⟨g,0,none⟩) i z K v:=by
 unfold ax.Sy;exact⟨(Tr.fh fun _ _ q k=>let n:=h.uI q k;⟨_,rfl,D.cs n.kp,n5 D n⟩),(let ⟨u,q,n⟩:=h.put;⟨u,q,n13 D n⟩)⟩
theorem n18(D:XD w o r K)(h:XN o v r own (some g) none (some e.heap.size) (some i.heap.size) none []):ax.XR r.1 w e (some ⟨g,0,none⟩) i K v:=by
 unfold ax.XR;exact⟨(Tr.fh fun _ _ q k=>let n:=h.uI q k;⟨_,rfl,D.cs n.kp,n6 D n⟩),(let ⟨u,q,n⟩:=h.put;⟨u,q,n14 D n⟩),(let n:=h.pk;⟨D.cs n.kp,n17 D n⟩)⟩
theorem n19(D:XD w o r K)(h:XN o v r own (some g) none (some e.heap.size) none (some z.heap.size) []):ax.KK r.1 w r.1 e (some ⟨g,0,none⟩) z K v:=by
 unfold ax.KK;exact⟨(Tr.fh fun _ _ q k=>let n:=h.uI q k;⟨_,rfl,D.cs n.kp,D.cs n.kp,n7 D n⟩),(let ⟨u,q,n⟩:=h.put;⟨u,q,D.cs n.kp,n15 D n⟩),(let n:=h.po;⟨r.2.1,D.cs n.kp,n17 D n⟩)⟩
theorem n20(D:XD w o r K)(h:XN o v r own (some g) none (some e.heap.size) none none []):ax.OE r.1 w r.1 e (some ⟨g,0,none⟩) K v:=by
 unfold ax.OE;exact⟨(Tr.fh fun _ _ q k=>let n:=h.uI q k;⟨_,rfl,D.cs n.kp,D.cs n.kp,n8 D n⟩),(let ⟨u,q,n⟩:=h.put;⟨u,q,D.cs n.kp,n16 D n⟩),(let n:=h.po;⟨r.2.1,D.cs n.kp,n18 D n⟩),(let n:=h.pk;⟨D.cs n.kp,D.cs n.kp,n19 D n⟩)⟩
theorem n21(D:XD w o r K)(h:XN o v r own (some g) none none (some i.heap.size) (some z.heap.size) []):ax.OD r.1 w (some ⟨g,0,none⟩) i z K v:=by
 unfold ax.OD;exact⟨(Tr.fh fun _ _ q k=>let n:=h.uI q k;⟨_,rfl,D.cs n.kp,n9 D n⟩),(let n:=h.uJ;⟨D.cs n.kp,n17 D n⟩)⟩
theorem n22(D:XD w o r K)(h:XN o v r own (some g) none none (some i.heap.size) none []):ax.Sx r.1 w (some ⟨g,0,none⟩) i K v:=by
 unfold ax.Sx;exact⟨(Tr.fh fun _ _ q k=>let n:=h.uI q k;⟨_,rfl,D.cs n.kp,n10 D n⟩),(let n:=h.uJ;⟨D.cs n.kp,n18 D n⟩),(let n:=h.pk;⟨D.cs n.kp,n21 D n⟩)⟩
theorem n23(D:XD w o r K)(h:XN o v r own (some g) none none none (some z.heap.size) []):ax.Zb r.1 w r.1 (some ⟨g,0,none⟩) z K v:=by
 unfold ax.Zb;exact⟨(Tr.fh fun _ _ q k=>let n:=h.uI q k;⟨_,rfl,D.cs n.kp,D.cs n.kp,n11 D n⟩),(let n:=h.uJ;⟨D.cs n.kp,D.cs n.kp,n19 D n⟩),(let n:=h.po;⟨r.2.1,D.cs n.kp,n21 D n⟩)⟩
theorem n24(D:XD w o r K)(h:XN o v r own (some g) none none none none []):ax.XQ r.1 w r.1 (some ⟨g,0,none⟩) K v:=by
 unfold ax.XQ;exact⟨(Tr.fh fun _ _ q k=>let n:=h.uI q k;⟨_,rfl,D.cs n.kp,D.cs n.kp,n12 D n⟩),(let n:=h.uJ;⟨D.cs n.kp,D.cs n.kp,n20 D n⟩),(let n:=h.po;⟨r.2.1,D.cs n.kp,n22 D n⟩),(let n:=h.pk;⟨D.cs n.kp,D.cs n.kp,n23 D n⟩)⟩
theorem n25(D:XD w o r K)(h:XN o v r own none none (some e.heap.size) (some i.heap.size) (some z.heap.size) [r]):ax.XP r.1 e i z K v:=by
 unfold ax.XP;exact gw r fun _ _ q k=>let n:=h.dh q k;⟨_,rfl,n13 D n⟩
theorem n26(D:XD w o r K)(h:XN o v r own none none (some e.heap.size) (some i.heap.size) none [r]):ax.Za r.1 e i w K v:=by
 unfold ax.Za;exact⟨(gw r fun _ _ q k=>let n:=h.dh q k;⟨_,rfl,n14 D n⟩),(let n:=h.pk;⟨D.cs n.kp,n25 D n⟩)⟩
theorem n27(D:XD w o r K)(h:XN o v r own none none (some e.heap.size) none (some z.heap.size) [r]):ax.RD r.1 r.1 w e z K v:=by
 unfold ax.RD;exact⟨(gw r fun _ _ q k=>let n:=h.dh q k;⟨_,rfl,D.cs n.kp,n15 D n⟩),(let n:=h.po;⟨r.2.1,D.cs n.kp,n25 D n⟩)⟩
theorem n28(D:XD w o r K)(h:XN o v r own none none (some e.heap.size) none none [r]):ax.N28 r.1 r.1 w e K v:=by
 unfold ax.N28;exact⟨(gw r fun _ _ q k=>let n:=h.dh q k;⟨_,rfl,D.cs n.kp,n16 D n⟩),(let n:=h.po;⟨r.2.1,D.cs n.kp,n26 D n⟩),(let n:=h.pk;⟨D.cs n.kp,D.cs n.kp,n27 D n⟩)⟩
theorem n29(D:XD w o r K)(h:XN o v r own none none (some e.heap.size) (some i.heap.size) (some z.heap.size) []):ax.XO r.1 r.1 w e i z K v:=by
 unfold ax.XO;exact⟨(gw r fun _ _ q k=>let n:=h.dh q k;⟨_,rfl,D.cs n.kp,n17 D n⟩),(let ⟨u,q,n⟩:=h.put;⟨u,q,D.cs n.kp,n25 D n⟩)⟩
theorem n30(D:XD w o r K)(h:XN o v r own none none (some e.heap.size) (some i.heap.size) none []):ax.Y9 r.1 r.1 w e i K v:=by
 unfold ax.Y9;exact⟨(gw r fun _ _ q k=>let n:=h.dh q k;⟨_,rfl,D.cs n.kp,n18 D n⟩),(let ⟨u,q,n⟩:=h.put;⟨u,q,D.cs n.kp,n26 D n⟩),(let n:=h.pk;⟨D.cs n.kp,D.cs n.kp,n29 D n⟩)⟩
theorem n31(D:XD w o r K)(h:XN o v r own none none (some e.heap.size) none (some z.heap.size) []):ax.Y8 r.1 r.1 w r.1 e z K v:=by
 unfold ax.Y8;exact⟨(gw r fun _ _ q k=>let n:=h.dh q k;⟨_,rfl,D.cs n.kp,D.cs n.kp,n19 D n⟩),(let ⟨u,q,n⟩:=h.put;⟨u,q,D.cs n.kp,D.cs n.kp,n27 D n⟩),(let n:=h.po;⟨r.2.1,D.cs n.kp,D.cs n.kp,n29 D n⟩)⟩
theorem n32(D:XD w o r K)(h:XN o v r own none none (some e.heap.size) none none []):ax.N32 r.1 r.1 w r.1 e K v:=by
 unfold ax.N32;exact⟨(gw r fun _ _ q k=>let n:=h.dh q k;⟨_,rfl,D.cs n.kp,D.cs n.kp,n20 D n⟩),(let ⟨u,q,n⟩:=h.put;⟨u,q,D.cs n.kp,D.cs n.kp,n28 D n⟩),(let n:=h.po;⟨r.2.1,D.cs n.kp,D.cs n.kp,n30 D n⟩),(let n:=h.pk;⟨D.cs n.kp,D.cs n.kp,D.cs n.kp,n31 D n⟩)⟩
theorem n33(D:XD w o r K)(h:XN o v r own none none none (some i.heap.size) (some z.heap.size) []):ax.Y7 r.1 r.1 w i z K v:=by
 unfold ax.Y7;exact⟨(gw r fun _ _ q k=>let n:=h.dh q k;⟨_,rfl,D.cs n.kp,n21 D n⟩),(let n:=h.uJ;⟨D.cs n.kp,D.cs n.kp,n29 D n⟩)⟩
theorem n34(D:XD w o r K)(h:XN o v r own none none none (some i.heap.size) none []):ax.N34 r.1 r.1 w i K v:=by
 unfold ax.N34;exact⟨(gw r fun _ _ q k=>let n:=h.dh q k;⟨_,rfl,D.cs n.kp,n22 D n⟩),(let n:=h.uJ;⟨D.cs n.kp,D.cs n.kp,n30 D n⟩),(let n:=h.pk;⟨D.cs n.kp,D.cs n.kp,n33 D n⟩)⟩
theorem n35(D:XD w o r K)(h:XN o v r own none none none none (some z.heap.size) []):ax.N35 r.1 r.1 w r.1 z K v:=by
 unfold ax.N35;exact⟨(gw r fun _ _ q k=>let n:=h.dh q k;⟨_,rfl,D.cs n.kp,D.cs n.kp,n23 D n⟩),(let n:=h.uJ;⟨D.cs n.kp,D.cs n.kp,D.cs n.kp,n31 D n⟩),(let n:=h.po;⟨r.2.1,D.cs n.kp,D.cs n.kp,n33 D n⟩)⟩
theorem n36(D:XD w o r K)(h:XN o v r own none none none none none []):ax.N36 r.1 r.1 w r.1 K v:=by
 unfold ax.N36;exact⟨(gw r fun _ _ q k=>let n:=h.dh q k;⟨_,rfl,D.cs n.kp,D.cs n.kp,n24 D n⟩),(let n:=h.uJ;⟨D.cs n.kp,D.cs n.kp,D.cs n.kp,n32 D n⟩),(let n:=h.po;⟨r.2.1,D.cs n.kp,D.cs n.kp,n34 D n⟩),(let n:=h.pk;⟨D.cs n.kp,D.cs n.kp,D.cs n.kp,n35 D n⟩)⟩
end
section
variable{K:Value->World->Prop}
theorem iW{w:World}(r:HT)(hK:∀v x,DK v (fun k=>w.heap.size<=k/\k<v.heap.size) (fun _=>False) x [⟨r,[]⟩] [-1]->Kept Nil w v->K (.pointer (some ⟨x,0,none⟩)) v):
 bz prog ax.id #[.agg r.1] w K:=by
 refine ax.of ?_;unfold ax.W;intro w_2 KN;have k2:Kept Nil w w_2:=(Kept.refl _ _).alloc _;have kX:w_2.heap[w.heap.size]? =some (.cells r.1 ag (0,0)):=aI w _;have k3:Kept Nil w KN:=k2.drew;have nC:KN.heap[w.heap.size]? =some (.cells r.1 ag (0,0)):=kX;clear_value KN;have N_3:XN KN KN r (fun _=>0) none none none none none []:=⟨Kept.refl _ _,(fun b e=>by cases e),(fun b e=>by cases e),(fun b e=>by cases e),(fun b e=>by cases e),(fun b e=>by cases e)⟩;have nv:∀ {v:World},Kept Nil KN v->∃cs:Array Value,(.agg r.1:Value)=.agg cs/\cs.size=32/\Cells v (aR w.heap.size) cs:=fun k=>⟨r.1,rfl,r.2.1,Cells.bJ (k.heap nC (fun h=>h))⟩;have we:∀ {v:World} {own:Nat->Nat} {g t mb ib cb:Nat},XN KN v r own (some g) (some t) (some mb) (some ib) (some cb) [r]->K (.pointer (some ⟨v.heap.size,0,none⟩)) (v.alloc (.cells #[.pointer (some ⟨g,0,none⟩),.pointer (some ⟨t,0,none⟩),.map (some mb),.slice (some ⟨ib,0,none⟩) 1 1,.map (some cb)] eZ)):=
  fun h=>hK _ _ (h.fin k3.size) ((k3.tt h.kp).alloc _)
 have c3:r.1.size=32/\Cells KN (aR w.heap.size) r.1:=⟨r.2.1,Cells.bJ nC⟩;refine⟨r.1,c3,r.1,c3,r.1,c3,?_⟩;have D:XD w KN r K:=⟨nv,we⟩;exact n36 D N_3
end
end Go.Proofs.YtfleamccglihoaaGreatDoor
