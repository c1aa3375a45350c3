import Derived.Test.YtfleamccglihoaaGreatDoorMG
import Derived.Test.YtfleamccglihoaaGreatDoorMH
import Derived.Test.YtfleamccglihoaaGreatDoorME
import Derived.Laws.AppendOwn
open Go.IntKind (i64 u64)
set_option linter.unusedVariables false
namespace Go.Proofs.YtfleamccglihoaaGreatDoor
open Go.Proofs.Tryz
open Go Go.b0
open Tr (kY)
structure sS(D:DG)(P:List Int):Prop where
 len:P.length=D.length
 root:P[0]? =some (-1)
 up:∀(i:Nat) (p:Int) nd,0<i->P[i]? =some p->D[i]? =some nd->∃(j:Nat) (m:DN),p=(j:Int)/\j<i/\D[j]? =some m/\m.id∈nd.ps
def Ch(D:DG)(P:List Int)(a b:HT):Prop:=∃(i k:Nat) (ni nk:DN),D[i]? =some ni/\ni.id=b/\D[k]? =some nk/\nk.id=a/\kY P i k
def mf(D:DG)(P:List Int)(s c:HT):Prop:=∃(i j:Nat) (ni m:DN),D[i]? =some ni/\ni.id=c/\P[i]? =some (j:Int)/\D[j]? =some m/\m.id=s
def Oh(D:DG)(P:List Int)(h c:HT):Prop:=fw D h c/\∃s,mf D P s c/\h≠s/\¬fw D h s
section
variable{D:DG}{P:List Int}
theorem sS.par(H:sS D P):Tr.oz P:=⟨H.root,fun i p hi hp=>by
 have eh:=(lgeS hp).1;rw [H.len]at eh;obtain⟨j,m,h1,h2,_⟩:=H.up i p _ hi hp (List.getElem?_eq_getElem eh);exact⟨j,h2,h1⟩⟩
theorem mf.par(H:sS D P){s c:HT}(h:mf D P s c):oz D s c:=by
 obtain⟨i,j,ni,m,h1,rfl,h3,h4,rfl⟩:=h;have hi:0<i:=by
  rcases Nat.eq_zero_or_pos i with rfl|h
  ·rw [H.root]at h3;simp only [Option.some.injEq]at h3;omega
  ·exact h
 obtain⟨j',m',e,_,h5,h6⟩:=H.up i _ ni hi h3 h1;have:j'=j:=by omega
 subst this;rw [h4]at h5;cases h5;exact⟨ni,List.mem_of_getElem? h1,rfl,h6⟩
theorem mf.one(W:jX D){s s' c:HT}(h:mf D P s c)(h':mf D P s' c):s=s':=by
 obtain⟨i,j,ni,m,h1,rfl,h3,h4,rfl⟩:=h;obtain⟨i',j',ni',m',uf,e,BQ,YB,rfl⟩:=h';have:=W.inj h1 uf e.symm;subst this;rw [h3]at BQ;simp only [Option.some.injEq]at BQ;have:j=j':=by omega
 subst this;rw [h4]at YB;cases YB;rfl
theorem mf.ex(H:sS D P){i:Nat}{ni:DN}(hi:0<i)(h:D[i]? =some ni):∃(j:Nat) (m:DN),j<i/\P[i]? =some (j:Int)/\D[j]? =some m/\mf D P m.id ni.id:=by
 have eh:=(lgeS h).1;obtain⟨p,hp⟩:∃p,P[i]? =some p:=⟨_,List.getElem?_eq_getElem (by rw [H.len];exact eh)⟩;obtain⟨j,m,rfl,hj,hm,_⟩:=H.up i p ni hi hp h;exact⟨j,m,hj,hp,hm,i,j,ni,m,h,rfl,hp,hm,rfl⟩
theorem Ch.refl(H:sS D P){a:HT}(h:a∈ids D):Ch D P a a:=by
 obtain⟨nd,gA,e⟩:=dI.1 h;obtain⟨i,hi⟩:=List.mem_iff_getElem?.1 gA;exact⟨i,i,nd,nd,hi,e,hi,e,.refl (by rw [H.len];exact(lgeS hi).1)⟩
theorem Ch.mem{a b:HT}(h:Ch D P a b):a∈ids D/\b∈ids D:=by
 obtain⟨i,k,ni,nk,h1,h2,h3,h4,_⟩:=h;exact⟨dI.2 ⟨nk,List.mem_of_getElem? h3,h4⟩,dI.2 ⟨ni,List.mem_of_getElem? h1,h2⟩⟩
theorem Ch.step(W:jX D){a s c:HT}(hs:mf D P s c)(h:Ch D P a s):Ch D P a c:=by
 obtain⟨i,j,ni,m,h1,rfl,h3,h4,rfl⟩:=hs;obtain⟨j',k,nj,nk,g1,g2,g3,g4,g5⟩:=h;have:=W.inj g1 h4 g2;subst this;exact⟨i,k,ni,nk,h1,rfl,g3,g4,.step h3 g5⟩
theorem Ch.zB(W:jX D)(H:sS D P){a b:HT}(h:Ch D P a b):a=b\/fw D a b:=by
 obtain⟨i,k,ni,nk,h1,rfl,h3,rfl,h5⟩:=h
 induction h5 generalizing ni with
 |refl _=>rw [h1]at h3;cases h3;exact .inl rfl
 | @step i j k hj hu ih=>
   have uN:=hu.lt;rw [H.len]at uN;obtain⟨m,hm⟩:∃m,D[j]? =some m:=⟨_,List.getElem?_eq_getElem uN⟩;have hp:oz D m.id ni.id:=mf.par H ⟨i,j,ni,m,h1,rfl,hj,hm,rfl⟩;rcases ih m hm h3 with e|e
   ·rw [e];exact .inr (.one hp)
   ·exact .inr (.more e hp)
theorem JA(W:jX D)(H:sS D P){a b:HT}(fP:a≠b):fw D a b↔Ch D P a b\/∃c,Oh D P a c/\Ch D P c b:=by
 constructor
 ·intro h
  obtain⟨nb,PY,e⟩:=dI.1 (h.mem W).2;obtain⟨i,hb⟩:=List.mem_iff_getElem?.1 PY;clear PY;subst e
  induction i using Nat.strongRecOn generalizing nb with
  |_ i ih=>
   have hi:0<i:=by
    rcases Nat.eq_zero_or_pos i with rfl|h0
    ·exfalso
     obtain⟨x,y,mx,my,ny,_,hy,_,e2⟩:=h.at_ W;have:=W.inj hy hb e2;omega
    ·exact h0
   obtain⟨j,m,hj,_,hm,hs⟩:=mf.ex H hi hb;by_cases e1:a=m.id
   ·exact .inl (Ch.step W hs (by rw [e1];exact Ch.refl H (dI.2 ⟨m,List.mem_of_getElem? hm,rfl⟩)))
   ·by_cases e2:fw D a m.id
    ·rcases ih j hj m hm e1 e2 with e3|⟨c,e3,e4⟩
     ·exact .inl (Ch.step W hs e3)
     ·exact .inr ⟨c,e3,Ch.step W hs e4⟩
    ·exact .inr ⟨nb.id,⟨h,m.id,hs,e1,e2⟩,Ch.refl H (dI.2 ⟨nb,List.mem_of_getElem? hb,rfl⟩)⟩
 ·rintro(h|⟨c,⟨h1,_⟩,h2⟩)
  ·exact(h.zB W H).resolve_left fP
  ·rcases h2.zB W H with e|e
   ·rw [<-e];exact h1
   ·exact h1.trans e
theorem sS.snoc(H:sS D P){nd:DN}{j:Nat}{m:DN}(hj:D[j]? =some m)(hm:m.id∈nd.ps)(jO:0<D.length):sS (D++ [nd]) (P++ [(j:Int)]) where
 len:=by simp [H.len]
 root:=by rw [List.getElem?_append_left (by rw [H.len];exact jO)];exact H.root
 up:=fun i p nd' hi hp gA=>by
  have uN:=(lgeS hj).1;by_cases h:i<D.length
  ·rw [List.getElem?_append_left (by rw [H.len];exact h)]at hp
   rw [List.getElem?_append_left h]at gA;obtain⟨j',m',e,h1,h2,h3⟩:=H.up i p nd' hi hp gA;exact⟨j',m',e,h1,by rw [List.getElem?_append_left (by omega)];exact h2,h3⟩
  ·have eh:=(lgeS gA).1
   have e:i=D.length:=by simp at eh;omega
   subst e;rw [<-H.len]at hp;simp at hp gA;subst hp gA;exact⟨j,m,rfl,uN,by rw [List.getElem?_append_left uN];exact hj,hm⟩
theorem oH(W:jX D)(H:sS D P){nd:DN}(hn:nd.id∉ids D){j:Nat}{m:DN}(hj:D[j]? =some m){s c:HT}:
 mf (D++ [nd]) (P++ [(j:Int)]) s c↔mf D P s c\/(c=nd.id/\s=m.id):=by
 have uN:=(lgeS hj).1;constructor
 ·rintro⟨i,k,ni,mk,h1,rfl,h3,h4,rfl⟩
  by_cases h:i<D.length
  ·rw [List.getElem?_append_left h]at h1
   rw [List.getElem?_append_left (by rw [H.len];exact h)]at h3;have hk:k<D.length:=by
    rcases Nat.eq_zero_or_pos i with rfl|h0
    ·rw [H.root]at h3;simp only [Option.some.injEq]at h3;omega
    ·obtain⟨k',_,e,h5,_⟩:=H.up i _ ni h0 h3 h1
     omega
   rw [List.getElem?_append_left hk]at h4;exact .inl ⟨i,k,ni,mk,h1,rfl,h3,h4,rfl⟩
  ·have eh:=(lgeS h1).1
   have e:i=D.length:=by simp at eh;omega
   subst e;have BQ:=h3;rw [<-H.len]at BQ;simp at h1 BQ;subst h1;have:k=j:=by omega
   subst this;rw [List.getElem?_append_left uN,hj]at h4;cases h4;exact .inr ⟨rfl,rfl⟩
 ·rintro(⟨i,k,ni,mk,h1,rfl,h3,h4,rfl⟩|⟨rfl,rfl⟩)
  ·have hi:=(lgeS h1).1
   have hk:=(lgeS h4).1;exact⟨i,k,ni,mk,by rw [List.getElem?_append_left hi];exact h1,rfl,by rw [List.getElem?_append_left (by rw [H.len];exact hi)];exact h3,by rw [List.getElem?_append_left hk];exact h4,rfl⟩
  ·exact⟨D.length,j,nd,m,by simp,rfl,by rw [<-H.len];simp,by rw [List.getElem?_append_left uN];exact hj,rfl⟩
theorem Jr(W:jX D)(H:sS D P){nd:DN}(hn:nd.id∉ids D)(gB:∀p∈nd.ps,p∈ids D){j:Nat}{m:DN}(hj:D[j]? =some m){h c:HT}:
 Oh (D++ [nd]) (P++ [(j:Int)]) h c↔Oh D P h c\/(c=nd.id/\fw (D++ [nd]) h nd.id/\h≠m.id/\¬fw D h m.id):=by
 have hm:m.id∈ids D:=dI.2 ⟨m,List.mem_of_getElem? hj,rfl⟩;have key:∀ {s c},mf D P s c->s∈ids D/\c∈ids D:=fun hs=>(fw.one (mf.par H hs)).mem W;constructor
 ·rintro⟨h1,s,hs,h2,h3⟩
  rcases(oH W H hn hj).1 hs with hs|⟨rfl,rfl⟩
  ·obtain⟨g1,g2⟩:=key hs
   exact .inl ⟨(jI W hn g2).1 h1,s,hs,h2,fun e=>h3 ((jI W hn g1).2 e)⟩
  ·exact .inr ⟨rfl,h1,h2,fun e=>h3 ((jI W hn hm).2 e)⟩
 ·rintro(⟨h1,s,hs,h2,h3⟩|⟨rfl,h1,h2,h3⟩)
  ·obtain⟨g1,g2⟩:=key hs
   exact⟨(jI W hn g2).2 h1,s,(oH W H hn hj).2 (.inl hs),h2,fun e=>h3 ((jI W hn g1).1 e)⟩
  ·exact⟨h1,m.id,(oH W H hn hj).2 (.inr ⟨rfl,rfl⟩),h2,fun e=>h3 ((jI W hn hm).1 e)⟩
inductive Up (P:List Int):Nat->List Nat->Prop
 |root:Up P 0 [0]
 |step {i j:Nat} {l:List Nat}:P[i]? =some (j:Int)->Up P j l->Up P i (i::l)
theorem Up.ex(hP:Tr.oz P):∀i,i<P.length->∃l,Up P i l:=by
 intro i
 induction i using Nat.strongRecOn with
 |_ i ih=>
  intro hi;rcases Nat.eq_zero_or_pos i with rfl|h0
  ·exact⟨[0],.root⟩
  ·obtain⟨j,h1,h2⟩:=hP.up i _ h0 (List.getElem?_eq_getElem hi)
   obtain⟨l,hl⟩:=ih j h1 (by omega);exact⟨i::l,.step (by rw [List.getElem?_eq_getElem hi,h2]) hl⟩
theorem Up.mem(hP:Tr.oz P){i:Nat}{l:List Nat}(h:Up P i l)(hi:i<P.length){k:Nat}:k∈l↔kY P i k:=by
 induction h with
 |root=>
  rw [List.mem_singleton];constructor
  ·rintro rfl;exact .refl hi
  ·intro h;have:=h.le hP;omega
 | @step i j l hj hu ih=>
   have uN:j<P.length:=by have:=(Tr.jw hP (Tr.fp.2 hj)).1;omega
   rw [List.mem_cons,ih uN];constructor
   ·rintro(rfl|h)
    ·exact .refl hi
    ·exact .step hj h
   ·intro h
    by_cases e:k=i
    ·exact .inl e
    ·exact .inr (h.inv (fun e'=>e e'.symm) hj)
theorem Up.one(hP:Tr.oz P){i:Nat}{l l':List Nat}(h:Up P i l)(h':Up P i l'):l=l':=by
 induction h generalizing l' with
 |root=>
  cases h' with
  |root=>rfl
  |step hj _=>rw [hP.root]at hj;simp only [Option.some.injEq]at hj;omega
 | @step i j l hj hu ih=>
   cases h' with
   |root=>rw [hP.root]at hj;simp only [Option.some.injEq]at hj;omega
   | @step _ j' l' vN Lk=>
     rw [hj]at vN;simp only [Option.some.injEq]at vN;have:j=j':=by omega
     subst this;rw [ih Lk]
theorem Up.head{i:Nat}{l:List Nat}(h:Up P i l):l[0]? =some i:=by cases h<;>rfl
theorem Up.lt(hP:Tr.oz P){i:Nat}{l:List Nat}(h:Up P i l)(hi:i<P.length):∀k∈l,k<P.length:=fun k hk=>((h.mem hP hi).1 hk).XA
end
end Go.Proofs.YtfleamccglihoaaGreatDoor
namespace Go.Proofs.YtfleamccglihoaaGreatDoor
open Go.Proofs.Tryz
open Go Go.b0 Go.RowKit
structure xx(mt te:TypeId)(z:Value):Prop where
 pz:prog.underlying mt=some (.map al te)
 zero:∀w,(zeroValue te).run prog w=.ok z w
def assoc(h:HT):List (HT×Value)->Option Value
 | []=>none
 |(x,v)::l=>if h=x then some v else assoc h l
def mu(h:HT):List (HT×Value)->Nat->Option (Nat×Value)
 | [],_=>none
 |(x,v)::l,i=>if h=x then some (i,v)else mu h l (i+1)
theorem nC(h:HT):∀(l:List (HT×Value)) (i:Nat),(mu h l i).map (·.2)=assoc h l
 | [],_=>rfl
 |(x,v)::l,i=>by
  unfold mu assoc;split
  ·rfl
  ·exact nC h l (i+1)
theorem we{h:HT}:∀ {l:List (HT×Value)} {i j:Nat} {v:Value},mu h l i=some (j,v)->i<=j/\l[j-i]? =some (h,v)/\∀(x:HT) (u:Value),assoc x (l.set (j-i) (h,u))=if x=h then some u else assoc x l
 | [],i,j,v,e=>by simp [mu]at e
 |(x,u)::l,i,j,v,e=>by
  unfold mu at e;split at e
  ·rename_i hx
   cases e;subst hx;refine⟨Nat.le_refl _,by rw [Nat.sub_self];rfl,fun x u=>?_⟩;rw [Nat.sub_self];simp only [List.set_cons_zero,assoc];by_cases hx:x=h<;>simp [hx]
  ·rename_i hx
   obtain⟨h1,h2,h3⟩:=we e;have e1:j-i=(j-(i+1))+1:=by omega
   refine⟨by omega,by rw [e1];exact h2,fun y u'=>?_⟩;rw [e1];simp only [List.set_cons_succ,assoc,h3];by_cases hy:y=h
   ·subst hy;simp [hx]
   ·simp [hy]
theorem wy{h:HT}{v:Value}:∀ {l:List (HT×Value)},assoc h l=none->∀x,assoc x (l++ [(h,v)])=if x=h then some v else assoc x l
 | [],_,x=>by simp [assoc]
 |(y,u)::l,e,x=>by
  unfold assoc at e;split at e
  ·cases e
  ·rename_i hy
   have ih:=wy (v:=v) e x;simp only [List.cons_append,assoc,ih];by_cases hx:x=y
   ·subst hx;simp [Ne.symm hy]
   ·simp [hx]
def nQ(es:List MapEntry)(l:List (HT×Value)):Prop:=match es,l with
 | [],[]=>True
 |e::es,p::l=>(e.key=.agg p.1.1/\e.val=p.2)/\nQ es l
 |_,_=>False
theorem nQ.snoc:∀ {es:List MapEntry} {l:List (HT×Value)} {e:MapEntry} {p:HT×Value},nQ es l->e.key=.agg p.1.1->e.val=p.2->nQ (es++ [e]) (l++ [p])
 | [],[],_,_,_,h1,h2=>⟨⟨h1,h2⟩,trivial⟩
 |_::_,_::_,_,_,he,h1,h2=>⟨he.1,nQ.snoc he.2 h1 h2⟩
 | [],_::_,_,_,he,_,_=>he.elim
 |_::_,[],_,_,he,_,_=>he.elim
theorem nQ.get:∀ {es:List MapEntry} {l:List (HT×Value)} {j:Nat} {p:HT×Value},nQ es l->l[j]? =some p->∃e,es[j]? =some e/\e.key=.agg p.1.1/\e.val=p.2
 | [],[],_,_,_,h=>by simp at h
 |e::_,_::_,0,_,he,h=>by
  simp only [List.getElem?_cons_zero,Option.some.injEq]at h;subst h;exact⟨e,rfl,he.1⟩
 |_::_,_::_,j+1,_,he,h=>by
  obtain⟨e,h1,h2⟩:=nQ.get he.2 (j:=j) (by simpa using h);exact⟨e,by simpa using h1,h2⟩
 | [],_::_,_,_,he,_=>he.elim
 |_::_,[],_,_,he,_=>he.elim
theorem nQ.set:∀ {es:List MapEntry} {l:List (HT×Value)} {j:Nat} {p:HT×Value} {f:MapEntry->MapEntry},nQ es l->(∀e,(f e).key=.agg p.1.1/\(f e).val=p.2)->nQ (es.modify j f) (l.set j p)
 | [],[],_,_,_,he,_=>by simpa using he
 |_::_,_::_,0,_,_,he,hf=>⟨hf _,he.2⟩
 |_::_,_::_,j+1,_,_,he,hf=>by
  simp only [List.modify_succ_cons,List.set_cons_succ];exact⟨he.1,nQ.set he.2 hf⟩
 | [],_::_,_,_,_,he,_=>he.elim
 |_::_,[],_,_,_,he,_=>he.elim
theorem nQ.len:∀ {es:List MapEntry} {l:List (HT×Value)},nQ es l->es.length=l.length
 | [],[],_=>rfl
 |_::_,_::_,he=>by simp [nQ.len he.2]
 | [],_::_,he=>he.elim
 |_::_,[],he=>he.elim
section
variable{w:World}
theorem rZ(h:HT)(w:World):∀(es:List MapEntry) (l:List (HT×Value)) (i:Nat),nQ es l->
 (Instr.findAsking al (.agg h.1) es i).run prog w=.ok (mu h l i) w
 | [],[],i,_=>by simp [Instr.findAsking,mu]
 |e::es,(x,v)::l,i,he=>by
  have hq:=uZ h x w;have ih:=rZ h w es l (i+1) he.2;simp only [Instr.findAsking,he.1.1,Sem.run_bind,hq,Result.andThen_ok];by_cases hx:h=x
  ·simp [hx,mu,he.1.2]
  ·simp [hx,mu,ih]
 | [],_::_,_,he=>he.elim
 |_::_,[],_,he=>he.elim
theorem mv(h:HT)(w:World){es:List MapEntry}{l:List (HT×Value)}(he:nQ es l):
 (Instr.findKey al (.agg h.1) es).run prog w=.ok (mu h l 0) w:=by
 have h1:=rZ h w es l 0 he;simp only [Instr.findKey,Sem.run_bind,run_underlying Kx,Result.andThen_ok];cases es with
 |nil=>
  cases l with
  |nil=>simp [Instr.findNow,mu]
  |cons x l=>exact he.elim
 |cons e es=>
  have:Instr.findNow (.array 32 jn) (.agg h.1) (e::es) 0=none:=by
   simp only [Instr.findNow,Instr.sameNow]
  rw [this];exact h1
theorem Fv(h:HT):Instr.sameBits 10000 (.agg h.1) (.agg h.1)=true:=by
 show Instr.sameBits (9999+1) (.agg h.1) (.agg h.1)=true
 rw [Instr.sameBits];simp only [beq_self_eq_true,Bool.true_and,List.all_eq_true];rintro⟨x,y⟩ ny;have Z6:x=y:=by
  obtain⟨i,hi⟩:=List.mem_iff_getElem?.1 ny;rw [List.getElem?_zip_eq_some]at hi;have:=hi.1.symm.trans hi.2;simpa using this
 subst Z6;have hm:=(List.of_mem_zip ny).1;obtain⟨n,rfl,_⟩:=h.2.2 x hm;simp [Instr.sameBits]
structure fU(w:World)(m:Nat)(f:HT->Option Value):Prop where
 ex:∃es clock l,w.heap[m]? =some (.map es clock)/\nQ es.toList l/\(∀x,assoc x l=f x)/\(∀e∈es.toList,e.born<clock)/\(es.toList.map (·.born)).Nodup/\(l.map (·.1)).Nodup
theorem fU.aJ{S:Nat->Prop}{w w':World}{m:Nat}{f:HT->Option Value}(h:fU w m f)(hk:Kept S w w')(hn:¬S m):fU w' m f:=by
 obtain⟨es,clock,l,h1,h2⟩:=h.ex;exact⟨es,clock,l,hk.heap h1 hn,h2⟩
theorem fU.same{w w':World}{m:Nat}{f:HT->Option Value}(h:fU w m f)(hk:Kept Nil w w'):fU w' m f:=h.aJ hk (fun h=>h)
theorem fU.lt{w:World}{m:Nat}{f:HT->Option Value}(h:fU w m f):m<w.heap.size:=by
 obtain⟨es,clock,l,h1,_⟩:=h.ex;exact aY h1
theorem fU.new(w:World):fU (w.alloc (.map #[] 0)) w.heap.size (fun _=>none):=⟨#[],0,[],aM w _,trivial,fun _=>rfl,by simp,by simp,by simp⟩
theorem fU.look{mt te:TypeId}{z:Value}(T:xx mt te z){m:Nat}{f:HT->Option Value}(hm:fU w m f)(h:HT):
 (Instr.lookup mt (.map (some m)) (.agg h.1) false).run prog w=.ok ((f h).getD z) w:=by
 obtain⟨es,clock,l,h1,h2,h3,_⟩:=hm.ex;have h4:=mv h w h2;have h5:=nC h l 0;rw [h3]at h5;simp only [Instr.lookup,Sem.run_bind,run_underlying T.pz,qh h1,Result.andThen_ok,Sem.run_pure,jC,h4];cases hp:mu h l 0 with
 |none=>rw [hp]at h5;simp [<-h5,T.zero]
 |some p=>rw [hp]at h5;simp [<-h5]
theorem fU.put{mt te:TypeId}{z:Value}(T:xx mt te z){m:Nat}{f:HT->Option Value}(hm:fU w m f)(h:HT)(v:Value):
 ∃w',(Instr.mapUpdate mt (.map (some m)) (.agg h.1) v).run prog w=.ok () w'/\fU w' m (fun x=>if x=h then some v else f x)/\Kept (· =m) w w':=by
 obtain⟨es,clock,l,h1,h2,h3,hb,hd,hk⟩:=hm.ex;have h4:=mv h w h2;have kept:∀o,Kept (· =m) w {w with heap:=w.heap.setIfInBounds m o}:=fun o=>⟨rfl,rfl,rfl,by simp,fun k _ hk=>by simp [Ne.symm hk]⟩;cases hp:mu h l 0 with
 |none=>
  rw [hp]at h4;have h5:=nC h l 0;rw [hp]at h5;refine⟨{w with heap:=w.heap.setIfInBounds m (.map (es.push {key:=.agg h.1,val:=v,born:=clock}) (clock+1))},?_,⟨es.push {key:=.agg h.1,val:=v,born:=clock},clock+1,l++ [(h,v)],?_,?_,?_,?_,?_,?_⟩,kept _⟩
  ·simp only [Instr.mapUpdate,Sem.run_bind,run_underlying T.pz,qh h1,Result.andThen_ok,jC,h4,Ce _ h1]
  ·simp [aY h1]
  ·have:=h2.snoc (e:= {key:=.agg h.1,val:=v,born:=clock}) (p:=(h,v)) rfl rfl
   simpa using this
  ·intro x
   rw [wy h5.symm,h3]
  ·intro e he
   rw [Array.toList_push,List.mem_append,List.mem_singleton]at he;rcases he with he|rfl
   ·have:=hb e he;omega
   ·exact Nat.lt_succ_self _
  ·rw [Array.toList_push,List.map_append,List.nodup_append]
   refine⟨hd,by simp,fun a ha b xf e=>?_⟩;simp only [List.map_cons,List.map_nil,List.mem_singleton]at xf;obtain⟨e',LM,rfl⟩:=List.mem_map.1 ha;have:=hb e' LM;omega
  ·rw [List.map_append,List.nodup_append]
   refine⟨hk,by simp,fun a ha b xf e=>?_⟩;simp only [List.map_cons,List.map_nil,List.mem_singleton]at xf;subst xf;subst e;have key:∀l:List (HT×Value),a∈l.map (·.1)->assoc a l≠none:=fun l=>by
    induction l with
    |nil=>simp
    |cons p l ih=>
     obtain⟨y,u⟩:=p;intro hm;unfold assoc;split
     ·simp
     ·rename_i hy
      simp only [List.map_cons,List.mem_cons]at hm;exact ih (hm.resolve_left hy)
   exact key l ha h5.symm
 |some p=>
  obtain⟨j,u⟩:=p;rw [hp]at h4;obtain⟨_,h6,h7⟩:=we hp;rw [Nat.sub_zero]at h6 h7;obtain⟨e,he1,RR,_⟩:=h2.get h6;have hes:es[j]? =some e:=by simpa using he1
  refine⟨{w with heap:=w.heap.setIfInBounds m (.map (es.modify j fun e=> {e with key:=.agg h.1,val:=v}) clock)},?_,⟨es.modify j fun e=> {e with key:=.agg h.1,val:=v},clock,l.set j (h,v),?_,?_,?_,?_,?_,?_⟩,kept _⟩
  ·simp only [Instr.mapUpdate,Sem.run_bind,run_underlying T.pz,qh h1,Result.andThen_ok,jC,h4,Instr.keyThatStays,hes,Option.map_some,Option.getD_some,RR,Fv,if_true,Sem.run_pure,Ce _ h1]
  ·simp [aY h1]
  ·rw [Array.toList_modify]
   exact h2.set (p:=(h,v)) fun e=>⟨rfl,rfl⟩
  ·intro x
   rw [h7,h3]
  ·intro x hx
   rw [Array.toList_modify]at hx;obtain⟨i,hi⟩:=List.mem_iff_getElem?.1 hx;rw [List.getElem?_modify]at hi;cases hg:es.toList[i]? with
   |none=>rw [hg]at hi;simp at hi
   |some y=>
    rw [hg]at hi;have:=hb y (List.mem_of_getElem? hg);by_cases sD:j=i
    ·simp [sD]at hi
     rw [<-hi];exact this
    ·simp [sD]at hi
     rw [<-hi];exact this
  ·have:(es.modify j fun e=> {e with key:=.agg h.1,val:=v}).toList.map (·.born)=es.toList.map (·.born):=by
    rw [Array.toList_modify];apply List.ext_getElem?;intro i;rw [List.getElem?_map,List.getElem?_map,List.getElem?_modify];cases es.toList[i]? with
    |none=>simp
    |some y=>by_cases sD:j=i<;>simp [sD]
   rw [this];exact hd
  ·have:(l.set j (h,v)).map (·.1)=l.map (·.1):=by
    apply List.ext_getElem?;intro i;rw [List.getElem?_map,List.getElem?_map,List.getElem?_set];by_cases sD:j=i
    ·subst sD
     have dg:=(lgeS h6).1;have gK:=(lgeS h6).2;simp [dg,gK]
    ·simp [sD]
   rw [this];exact hk
end
end Go.Proofs.YtfleamccglihoaaGreatDoor
namespace Go.Proofs.YtfleamccglihoaaGreatDoor
open Go.Proofs.Tryz
open Go Go.b0 Go.RowKit
open Tr (kY)
theorem uH{te:TypeId}{z:Value}(h:(prog.info? te).bind (·.zero)=some z)(w:World):(zeroValue te).run prog w=.ok z w:=by
 cases hi:prog.info? te with
 |none=>rw [hi]at h;cases h
 |some i=>
  rw [hi]at h;have hz:i.zero=some z:=h;simp [zeroValue,typeInfo,hi,hz]
theorem yK:xx iw aF (.slice none 0 0):=⟨by kernel_rfl,uH (by kernel_rfl)⟩
theorem HR:xx l9 tI (.agg #[.bool false]):=⟨by kernel_rfl,uH (by kernel_rfl)⟩
structure XM where
 g:Nat
 t:Nat
 mb:Nat
 ib:Nat
 ic:Nat
 cb:Nat
 T:List Tr.Nd
 d:Int
 SG:Nat->Prop
 ST:Nat->Prop
 SO:Nat->Prop
def XM.own(m:XM)(x k:Nat):Prop:=k=x\/k=m.mb\/k=m.ib\/k=m.cb
def XM.kX(m:XM)(x k:Nat):Prop:=m.SG k\/m.ST k\/m.SO k\/m.own x k
def o5(w:World)(SO:Nat->Prop)(N:Nat)(v:Option Value)(l:List HT):Prop:=
 (v=none/\l= [])\/∃(A:Option Addr) (n c:Nat),v=some (.slice A n c)/\n<=c/\HS w A n l/\n<=N/\∀a,A=some a->SO a.block
structure XV(w:World)(F:Nat->Prop)(x:Nat)(D:DG)(P:List Int)(m:XM):Prop where
 top:w.heap[x]? =some (.cells #[.pointer (some ⟨m.g,0,none⟩),.pointer (some ⟨m.t,0,none⟩),.map (some m.mb),.slice (some ⟨m.ib,0,none⟩) D.length m.ic,.map (some m.cb)] eT (0,0))
 G:DK w m.SG F m.g D
 T:Tr.pD w m.ST m.t m.T m.d
 Md:Tr.xy m.T
 b9:Tr.b9 m.T=P
 dl:0<=m.d/\m.d<=D.length
 at_:IsMap w m.mb (ids D)
 row:cC w 0 (some ⟨m.ib,0,none⟩) D.length m.ic (ids D)
 YN:∃f,fU w m.cb f/\∀h,∃l,o5 w m.SO D.length (f h) l/\∀c,c∈l↔Oh D P h c
 np:sS D P
 W:jX D
 gt:∀k,m.SG k->¬m.ST k/\¬m.SO k
 to:∀k,m.ST k->¬m.SO k
 fd:∀k,F k->¬m.ST k/\¬m.SO k
 od:∀k,m.own x k->¬m.SG k/\¬m.ST k/\¬m.SO k/\¬F k
 ne:x≠m.mb/\x≠m.ib/\x≠m.cb/\m.mb≠m.ib/\m.mb≠m.cb/\m.ib≠m.cb
 low:∀k,m.kX x k\/F k->k<w.heap.size
def DJ(w:World)(S F:Nat->Prop)(x:Nat)(D:DG)(P:List Int):Prop:=∃m,XV w F x D P m/\∀k,m.kX x k->S k
section
variable{w w':World}{F S:Nat->Prop}{x:Nat}{D:DG}{P:List Int}{m:XM}{K:Value->World->Prop}
theorem o5.aJ{S0 SO:Nat->Prop}{N:Nat}{v:Option Value}{l:List HT}(h:o5 w SO N v l)(hk:Kept S0 w w')(hn:∀k,SO k->¬S0 k):o5 w' SO N v l:=by
 rcases h with h|⟨A,n,c,h1,h2,h3,h4,h5⟩
 ·exact .inl h
 ·exact .inr ⟨A,n,c,h1,h2,h3.aJ hk (fun a ha=>hn _ (h5 a ha)),h4,h5⟩
theorem XV.aJ{S0:Nat->Prop}(h:XV w F x D P m)(hk:Kept S0 w w')(hS:∀k,m.kX x k->¬S0 k)(hF:∀k,F k->¬S0 k):XV w' F x D P m where
 top:=hk.heap h.top (hS _ (.inr (.inr (.inr (.inl rfl)))))
 G:=h.G.aJ hk (fun k e=>hS k (.inl e)) hF
 T:=h.T.aJ hk (fun k e=>hS k (.inr (.inl e)))
 Md:=h.Md
 b9:=h.b9
 dl:=h.dl
 at_:=h.at_.aJ hk (hS _ (.inr (.inr (.inr (.inr (.inl rfl))))))
 row:=Row.aJ h.row hk (fun k e=>by cases e;exact hS _ (.inr (.inr (.inr (.inr (.inr (.inl rfl)))))))
 YN:=by
  obtain⟨f,h1,h2⟩:=h.YN;refine⟨f,h1.aJ hk (hS _ (.inr (.inr (.inr (.inr (.inr (.inr rfl))))))),fun y=>?_⟩;obtain⟨l,h3,h4⟩:=h2 y;exact⟨l,h3.aJ hk (fun k e=>hS k (.inr (.inr (.inl e)))),h4⟩
 np:=h.np
 W:=h.W
 gt:=h.gt
 to:=h.to
 fd:=h.fd
 od:=h.od
 ne:=h.ne
 low:=fun k e=>Nat.lt_of_lt_of_le (h.low k e) hk.size
theorem XV.same(h:XV w F x D P m)(hk:Kept Nil w w'):XV w' F x D P m:=h.aJ hk (fun _ _ h=>h) (fun _ _ h=>h)
theorem DJ.aJ{S0:Nat->Prop}(h:DJ w S F x D P)(hk:Kept S0 w w')(hS:∀k,S k->¬S0 k)(hF:∀k,F k->¬S0 k):DJ w' S F x D P:=
 let ⟨m,h1,h2⟩:=h;⟨m,h1.aJ hk (fun k e=>hS k (h2 k e)) hF,h2⟩
theorem DJ.same(h:DJ w S F x D P)(hk:Kept Nil w w'):DJ w' S F x D P:=h.aJ hk (fun _ _ h=>h) (fun _ _ h=>h)
theorem XV.c0(h:XV w F x D P m):w.cell? ((⟨x,0,none⟩:Addr).add 0)=some (.pointer (some ⟨m.g,0,none⟩)):=by rw [bC,aE h.top];rfl
theorem XV.c1(h:XV w F x D P m):w.cell? ((⟨x,0,none⟩:Addr).add 1)=some (.pointer (some ⟨m.t,0,none⟩)):=by rw [bC,aE h.top];rfl
theorem XV.c2(h:XV w F x D P m):w.cell? ((⟨x,0,none⟩:Addr).add 2)=some (.map (some m.mb)):=by rw [bC,aE h.top];rfl
theorem XV.c3(h:XV w F x D P m):w.cell? ((⟨x,0,none⟩:Addr).add 3)=some (.slice (some ⟨m.ib,0,none⟩) D.length m.ic):=by rw [bC,aE h.top];rfl
theorem XV.c4(h:XV w F x D P m):w.cell? ((⟨x,0,none⟩:Addr).add 4)=some (.map (some m.cb)):=by rw [bC,aE h.top];rfl
theorem XV.OE(h:XV w F x D P m):m.T.length=D.length:=by
 have:=Tr.fi m.T;rw [h.b9,h.np.len]at this;exact this.symm
theorem XV.pz(h:XV w F x D P m){i k:Nat}{id kd:Tr.Nd}(hi:m.T[i]? =some id)(hk:m.T[k]? =some kd):decide (kd.lo<=id.lo/\id.hi<=kd.hi)=true↔kY P i k:=by
 rw [decide_eq_true_iff,<-h.b9];exact h.Md.under hi hk
theorem EH(a b:HT):a.1.toList++(b.1.toList++ [])=dt [a,b]:=by simp [dt]
theorem tQ(h:XV w F x D P m)(hK:K (.bool true) w):bD prog fC.id #[.pointer (some ⟨x,0,none⟩)] w K:=
 fC.of (Split.yes rfl ⟨_,h.c0,hK⟩)
theorem y8{xb:Nat}(h:XV w F x D P m)(hg:w.heap[xb]? =some (.cells #[.pointer (some ⟨x,0,none⟩)] gJ (0,0))){A:Option Addr}{n cx:Nat}{l:List HT}(hl:HS w A n l)(hn:n<=400000)
 (hK:∀w' (b:Bool),(b=true↔∃p∈l,p∉ids D)->Kept Nil w w'->K (.bool b) w'):
 bD prog dS.id #[.slice A n cx,.func (.func dL.id) #[] #[.pointer (some ⟨xb,0,none⟩)]] w K:=by
 have hlen:=hl.len;refine cF.of (ax.of ?_);refine ax.cJ (I:=fun s w'=>∃i:Nat,s=(0,(i:Int))/\i<=n/\(∀p∈l.take i,p∈ids D)/\Kept Nil w w') (μ:=fun s _=>((n:Int)-s.2).toNat) (s:=(0,0)) ⟨0,rfl,Nat.zero_le _,by simp,Kept.refl _ _⟩ ?_;rintro s w' ⟨i,rfl,hi,cZ,kw⟩;refine Split.dec (fun jV=>?_) (fun gK=>?_)
 ·simp only at jV
  have eh:i<n:=by omega
  obtain⟨y,hy⟩:∃y,l[i]? =some y:=⟨_,List.getElem?_eq_getElem (by omega)⟩;refine(hl.same kw).load (i:=(i:Int)) (by omega) hy ?_;refine dL.of ?_;unfold dL.W;intro w3 w4;have k3:Kept Nil w' w3:=(Kept.refl _ _).alloc _;have qf:w3.heap[w'.heap.size]? =some (.cells y.1 al (0,0)):=aM w' _;have k4:Kept Nil w3 w4:=(Kept.refl _ _).drew;clear_value w4;have ud:=k4.heap qf (fun h=>h);have KV:=(kw.tt k3).tt k4;obtain⟨bl,c,mb,M,G⟩:=(h.same KV).G;refine⟨some ⟨x,0,none⟩,by rw [aE (KV.heap hg (fun h=>h))];rfl,_,(h.same KV).c0,y.1,⟨y.2.1,Cells.bV ud⟩,sG G y fun w7 k7=>⟨_,rfl,_,rfl,?_⟩⟩;have Cx:=KV.tt k7;by_cases hm:y∈ids D
  ·refine Split.no (by rw [decide_eq_true hm];rfl) ?_
   simp only;rw [dH (n:=(i:Int)) (by omega) (by omega)];refine⟨(0,(i:Int)+1),rfl,⟨i+1,rfl,eh,fun p hp=>?_,Cx⟩,by simp only;omega⟩;rcases(bT hy).1 hp with hp|rfl
   ·exact cZ p hp
   ·exact hm
  ·refine Split.yes (by rw [decide_eq_false hm];rfl) ?_
   refine⟨(i:Int),rfl,?_⟩;exact hK w7 _ ⟨fun _=>⟨y,List.mem_of_getElem? hy,hm⟩,fun _=>decide_eq_true (by omega)⟩ Cx
 ·simp only at gK
  rw [aX,ax.dv];rw [List.take_of_length_le (by omega)]at cZ;exact⟨-1,rfl,hK w' _ ⟨fun h=>absurd (of_decide_eq_true h) (by omega),fun⟨p,hp,hn⟩=>absurd (cZ p hp) hn⟩ kw⟩
theorem qD(h:XV w F x D P m){A:Option Addr}{n cx:Nat}{l:List HT}(hl:HS w A n l)(hn:n<=400000)(hK:∀w',Kept Nil w w'->K (.bool (decide (∀p∈l,p∈ids D))) w'):
 bD prog fN.id #[.pointer (some ⟨x,0,none⟩),.slice A n cx] w K:=by
 refine fN.of ?_;unfold fN.W;intro w3;have k3:Kept Nil w w3:=(Kept.refl _ _).alloc _;have qf:w3.heap[w.heap.size]? =some (.cells #[.pointer (some ⟨x,0,none⟩)] gJ (0,0)):=aM w _;clear_value w3;refine⟨_,by rw [aE qf];rfl,tQ (h.same k3) ⟨true,rfl,Split.yes rfl ?_⟩⟩;refine y8 (h.same k3) qf (hl.same k3) hn fun w9 b hb k9=>⟨b,rfl,?_⟩;have:(!b)=decide (∀p∈l,p∈ids D):=by
  rw [Bool.eq_iff_iff,decide_eq_true_iff,Bool.not_eq_true',<-Bool.not_eq_true,hb];constructor
  ·exact fun hn p hp=>Classical.byContradiction fun hc=>hn ⟨p,hp,hc⟩
  ·rintro ha ⟨p,hp,hc⟩;exact hc (ha p hp)
 rw [this];exact hK w9 (k3.tt k9)
theorem tT(h:XV w F x D P m)(a b:HT)(hK:∀w' (r:Bool),(r=true↔Ch D P a b)->Kept Nil w w'->K (.bool r) w'):
 bD prog eM.id #[.pointer (some ⟨x,0,none⟩),.agg a.1,.agg b.1] w K:=by
 refine eM.of ?_;unfold eM.W;intro w4 w5 w6;have k4:Kept Nil w w4:=(Kept.refl _ _).alloc _;have C1:w4.heap[w.heap.size]? =some (.cells a.1 al (0,0)):=aM w _;have k5:Kept Nil w4 w5:=(Kept.refl _ _).alloc _;have pC:w5.heap[w4.heap.size]? =some (.cells b.1 al (0,0)):=aM w4 _;have k6:Kept Nil w5 w6:=(Kept.refl _ _).drew;clear_value w6;have xg:=(k5.tt k6).heap C1 (fun h=>h);have qd:=k6.heap pC (fun h=>h);have p7:=(k4.tt k5).tt k6;refine⟨a.1,⟨a.2.1,Cells.bV xg⟩,b.1,⟨b.2.1,Cells.bV qd⟩,a.2.1,b.2.1,?_⟩;intro w9;have k9:Kept Nil w6 w9:=(Kept.refl _ _).alloc _;have hx9:HS w9 (some ⟨w6.heap.size,0,none⟩) 2 [a,b]:=HS.lay (l:= [a,b]) (t:=al) (by rw [<-EH a b];exact aM w6 _);clear_value w9;have Gb:=p7.tt k9;refine qD (h.same Gb) hx9 (by omega) fun xC JX=>⟨_,rfl,?_⟩;have Pg:=Gb.tt JX;have Km:=h.same Pg;by_cases cZ:∀p∈ [a,b],p∈ids D
 ·refine Split.yes (decide_eq_true cZ) ?_
  obtain⟨na,Lx,ea⟩:=dI.1 (cZ a (by simp));obtain⟨nb,PY,eb⟩:=dI.1 (cZ b (by simp));obtain⟨k,hk⟩:=List.mem_iff_getElem?.1 Lx;obtain⟨i,hi⟩:=List.mem_iff_getElem?.1 PY;have CT:=(lgeS hk).1;have eh:=(lgeS hi).1;have htl:=h.OE;obtain⟨kd,Va⟩:=Tr.gE (T:=m.T) (i:=k) (by omega);obtain⟨nd,gA⟩:=Tr.gE (T:=m.T) (i:=i) (by omega);have Ts:=k9.tt JX;have l1:=Km.at_.xT b;have l2:=Km.at_.xT a;rw [<-eb,h.W.pos_eq hi]at l1;rw [<-ea,h.W.pos_eq hk]at l2;rw [eb]at l1;rw [ea]at l2;refine⟨_,Km.c1,_,Km.c2,b.1,⟨b.2.1,Cells.bV (Ts.heap qd (fun h=>h))⟩,_,l1,_,Km.c2,a.1,⟨a.2.1,Cells.bV (Ts.heap xg (fun h=>h))⟩,_,l2,?_⟩;refine Tr.B9 Km.T gA Va fun mC qT=>⟨_,rfl,hK mC _ ?_ (Pg.tt qT)⟩;rw [h.pz gA Va];constructor
  ·exact fun hu=>⟨i,k,nb,na,hi,eb,hk,ea,hu⟩
  ·rintro⟨i',k',ni,nk,h1,h2,h3,h4,h5⟩
   have e1:=h.W.inj h1 hi (by rw [h2,eb]);have e2:=h.W.inj h3 hk (by rw [h4,ea]);rw [<-e1,<-e2];exact h5
 ·refine Split.no (decide_eq_false cZ) (hK xC false ⟨(fun e=>by cases e),fun e=>absurd (fun p hp=>?_) cZ⟩ Pg)
  simp only [List.mem_cons,List.not_mem_nil,or_false]at hp;rcases hp with rfl|rfl
  ·exact e.mem.1
  ·exact e.mem.2
theorem wk{xb bb:Nat}{b:HT}(h:XV w F x D P m)(hg:w.heap[xb]? =some (.cells #[.pointer (some ⟨x,0,none⟩)] gJ (0,0)))(hb:w.heap[bb]? =some (.cells b.1 al (0,0))){A:Option Addr}{n cx:Nat}{l:List HT}(hl:HS w A n l)(hn:n<=400000)
 (hK:∀w' (r:Bool),(r=true↔∃c∈l,Ch D P c b)->Kept Nil w w'->K (.bool r) w'):
 bD prog dS.id #[.slice A n cx,.func (.func dh.id) #[] #[.pointer (some ⟨xb,0,none⟩),.pointer (some ⟨bb,0,none⟩)]] w K:=by
 have hlen:=hl.len;refine ct.of (ao.of ?_);refine ao.cJ (I:=fun s w'=>∃i:Nat,s=(0,(i:Int))/\i<=n/\(∀p∈l.take i,¬Ch D P p b)/\Kept Nil w w') (μ:=fun s _=>((n:Int)-s.2).toNat) (s:=(0,0)) ⟨0,rfl,Nat.zero_le _,by simp,Kept.refl _ _⟩ ?_;rintro s w' ⟨i,rfl,hi,cZ,kw⟩;refine Split.dec (fun jV=>?_) (fun gK=>?_)
 ·simp only at jV
  have eh:i<n:=by omega
  obtain⟨y,hy⟩:∃y,l[i]? =some y:=⟨_,List.getElem?_eq_getElem (by omega)⟩;refine(hl.same kw).load (i:=(i:Int)) (by omega) hy ?_;refine dh.of ?_;unfold dh.W;intro w4;have k4:Kept Nil w' w4:=(Kept.refl _ _).alloc _;have ud:w4.heap[w'.heap.size]? =some (.cells y.1 al (0,0)):=aM w' _;clear_value w4;have KV:=kw.tt k4;refine⟨some ⟨x,0,none⟩,by rw [aE (KV.heap hg (fun h=>h))];rfl,y.1,⟨y.2.1,Cells.bV ud⟩,b.1,⟨b.2.1,Cells.bV (KV.heap hb (fun h=>h))⟩,tT (h.same KV) y b fun w7 r hr k7=>⟨r,rfl,r,rfl,?_⟩⟩;have Cx:=KV.tt k7;cases r with
  |false=>
   refine Split.no rfl ?_;simp only;rw [dH (n:=(i:Int)) (by omega) (by omega)];refine⟨(0,(i:Int)+1),rfl,⟨i+1,rfl,eh,fun p hp hc=>?_,Cx⟩,by simp only;omega⟩;rcases(bT hy).1 hp with hp|rfl
   ·exact cZ p hp hc
   ·cases hr.2 hc
  |true=>
   refine Split.yes rfl ⟨(i:Int),rfl,?_⟩;exact hK w7 _ ⟨fun _=>⟨y,List.mem_of_getElem? hy,hr.1 rfl⟩,fun _=>decide_eq_true (by omega)⟩ Cx
 ·simp only at gK
  rw [aX,ao.dv];rw [List.take_of_length_le (by omega)]at cZ;exact⟨-1,rfl,hK w' _ ⟨fun h=>absurd (of_decide_eq_true h) (by omega),fun⟨p,hp,hn⟩=>absurd hn (cZ p hp)⟩ kw⟩
theorem lr(h:XV w F x D P m)(hD:D.length<=5000)(a b:HT)(hK:∀w' (r:Bool),(r=true↔fw D a b)->Kept Nil w w'->K (.bool r) w'):
 bD prog dX.id #[.pointer (some ⟨x,0,none⟩),.agg a.1,.agg b.1] w K:=by
 refine dX.of ?_;unfold dX.W;intro w4 w5 w6;have k4:Kept Nil w w4:=(Kept.refl _ _).alloc _;have TP:w4.heap[w.heap.size]? =some (.cells #[.pointer (some ⟨x,0,none⟩)] gJ (0,0)):=aM w _;have k5:Kept Nil w4 w5:=(Kept.refl _ _).alloc _;have LX:w5.heap[w4.heap.size]? =some (.cells a.1 al (0,0)):=aM w4 _;have k6:Kept Nil w5 w6:=(Kept.refl _ _).alloc _;have qd:w6.heap[w5.heap.size]? =some (.cells b.1 al (0,0)):=aM w5 _;clear_value w6;have xg:=k6.heap LX (fun h=>h);have Li:=(k5.tt k6).heap TP (fun h=>h);have p7:=(k4.tt k5).tt k6;refine⟨_,by rw [aE Li];rfl,a.1,⟨a.2.1,Cells.bV xg⟩,b.1,⟨b.2.1,Cells.bV qd⟩,a.2.1,b.2.1,?_⟩;intro w10;have rR:Kept Nil w6 w10:=(Kept.refl _ _).alloc _;have Lo:HS w10 (some ⟨w6.heap.size,0,none⟩) 2 [a,b]:=HS.lay (l:= [a,b]) (t:=al) (by rw [<-EH a b];exact aM w6 _);clear_value w10;have CC:=p7.tt rR;refine qD (h.same CC) Lo (by omega) fun nv zt=>⟨_,rfl,?_⟩;have tn:=CC.tt zt;have Cy:=rR.tt zt;by_cases cZ:∀p∈ [a,b],p∈ids D
 ·refine Split.no (by rw [decide_eq_true cZ];rfl) ?_
  have acD:=Cy.heap xg (fun h=>h);have acx:=Cy.heap qd (fun h=>h);refine⟨a.1,⟨a.2.1,Cells.bV acD⟩,b.1,⟨b.2.1,Cells.bV acx⟩,⟨a.2.ints,b.2.ints⟩,?_⟩;rw [fL];refine Split.dec (fun he=>?_) (fun he=>?_)
  ·subst he
   exact hK nv false ⟨(fun e=>by cases e),fun e=>absurd e (fw.irrefl h.W a)⟩ tn
  ·intro nn
   have rz:Kept Nil nv nn:=(Kept.refl _ _).drew;clear_value nn;have TF:=tn.tt rz;have K5:=Cy.tt rz;refine⟨_,by rw [aE (K5.heap Li (fun h=>h))];rfl,a.1,⟨a.2.1,Cells.bV (K5.heap xg (fun h=>h))⟩,b.1,⟨b.2.1,Cells.bV (K5.heap qd (fun h=>h))⟩,?_⟩;refine tT (h.same TF) a b fun zJ r hr Ic=>⟨r,rfl,?_⟩;have Pd:=TF.tt Ic;have K4:=K5.tt Ic;cases r with
   |true=>exact Split.yes rfl (hK zJ true ⟨fun _=>(JA h.W h.np he).2 (.inl (hr.1 rfl)),fun _=>rfl⟩ Pd)
   |false=>
    refine Split.no rfl ?_;have h21:=h.same Pd;obtain⟨f,hf,ND⟩:=h21.YN;obtain⟨l,hl,ji⟩:=ND a;have EB:=hf.look yK a;have fin:∀ {A:Option Addr} {n c:Nat},(f a).getD (.slice none 0 0)=.slice A n c->HS zJ A n l->n<=D.length->
     bD prog dS.id #[.slice A n c,.func (.func dh.id) #[] #[.pointer (some ⟨w.heap.size,0,none⟩),.pointer (some ⟨w5.heap.size,0,none⟩)]] zJ fun v28 Y7=>∃t:Bool,v28=.bool t/\K (.bool t) Y7:=fun _ hs hn=>
     wk h21 (K4.heap Li (fun h=>h)) (K4.heap qd (fun h=>h)) hs (by omega) fun wI r2 jU K9=>⟨r2,rfl,hK wI r2 (by
      rw [jU,JA h.W h.np he];constructor
      ·rintro⟨c,h1,h2⟩;exact .inr ⟨c,(ji c).1 h1,h2⟩
      ·rintro(h1|⟨c,h1,h2⟩)
       ·cases hr.2 h1
       ·exact⟨c,(ji c).2 h1,h2⟩) (Pd.tt K9)⟩
    refine⟨some ⟨x,0,none⟩,by rw [aE (K4.heap Li (fun h=>h))];rfl,_,h21.c4,a.1,⟨a.2.1,Cells.bV (K4.heap xg (fun h=>h))⟩,?_⟩;rcases hl with⟨h1,rfl⟩|⟨A,n,c,h1,h2,h3,h4,h5⟩
    ·rw [h1]at EB
     exact⟨none,0,0,EB,fin (by rw [h1];rfl) (HS.nil _ _) (by omega)⟩
    ·rw [h1]at EB
     exact⟨A,n,c,EB,fin (by rw [h1];rfl) h3 h4⟩
 ·refine Split.yes (by rw [decide_eq_false cZ];rfl) (hK nv false ⟨(fun e=>by cases e),fun e=>absurd (fun p hp=>?_) cZ⟩ tn)
  simp only [List.mem_cons,List.not_mem_nil,or_false]at hp;rcases hp with rfl|rfl
  ·exact(e.mem h.W).1
  ·exact(e.mem h.W).2
end
end Go.Proofs.YtfleamccglihoaaGreatDoor
namespace Go.Proofs.YtfleamccglihoaaGreatDoor
open Go.Proofs.Tryz
open Go Go.b0 Go.RowKit
section
variable{w w':World}{K:Value->World->Prop}
theorem yn{A:Option Addr}{n c:Nat}(Gj:n<=c)(hK:K (.slice A n n) w):bD prog dA.id #[.slice A n c] w K:=by
 refine dA.of ⟨⟨by omega,by omega⟩,⟨by omega,by simp⟩,?_⟩;have e:(if(n:Int).toNat=0 then A else A.map (·.add (0*32)))=A:=by
  split
  ·rfl
  ·cases A with
   |none=>rfl
   |some a=>simp [add_zero]
 rw [e];simpa using hK
theorem xi{A:Option Addr}{n c:Nat}{l:List HT}(h:HT)(hl:HS w A n l)(hn:n<=1000000)(hK:∀w',Kept Nil w w'->K (.bool (decide (h∈l))) w'):
 bD prog cY.id #[.slice A n c,.agg h.1] w K:=by
 have hlen:=hl.len;refine cY.of ?_;unfold cY.W;intro w3;have k3:Kept Nil w w3:=(Kept.refl _ _).alloc _;have qf:w3.heap[w.heap.size]? =some (.cells h.1 al (0,0)):=aM w _;clear_value w3;refine⟨h.1,⟨h.2.1,Cells.bV qf⟩,?_⟩;refine aT.of ?_;unfold aT.W;intro w4;have k4:Kept Nil w3 w4:=(Kept.refl _ _).alloc _;have ud:w4.heap[w3.heap.size]? =some (.cells h.1 al (0,0)):=aM w3 _;clear_value w4;have nt:=k3.tt k4;refine aT.cJ (I:=fun s w'=>∃i:Nat,s=(0,(i:Int))/\i<=n/\Kept Nil w4 w'/\h∉l.take i) (μ:=fun s _=>((n:Int)-s.2).toNat) (s:=(0,0)) ⟨0,rfl,Nat.zero_le _,Kept.refl _ _,by simp⟩ ?_;rintro s w' ⟨i,rfl,hi,kw,mG⟩;refine Split.dec (fun dg=>?_) (fun gK=>?_)
 ·simp only at dg
  have eh:i<n:=by omega
  obtain⟨y,hy⟩:∃y,l[i]? =some y:=⟨_,List.getElem?_eq_getElem (by omega)⟩;intro w9;have k9:Kept Nil w' w9:=(Kept.refl _ _).drew;clear_value w9;have ZT:=kw.tt k9;have Gb:=nt.tt ZT;refine⟨h.1,⟨h.2.1,Cells.bV (ZT.heap ud (fun h=>h))⟩,?_⟩;refine(hl.same Gb).load (i:=(i:Int)) (by omega) hy ⟨⟨h.2.ints,y.2.ints⟩,?_⟩;rw [fL];refine Split.dec (fun he=>?_) (fun he=>?_)
  ·refine⟨(i:Int),rfl,?_⟩
   have:=hK w9 Gb;rw [decide_eq_true (by rw [he];exact List.mem_of_getElem? hy)]at this;rw [show decide ((i:Int)>=(0:Int))=true from decide_eq_true (by omega)];exact this
  ·simp only
   rw [iZ (x:=(i:Int)+1) (by omega) (by omega)];refine⟨(0,(i:Int)+1),rfl,⟨i+1,rfl,eh,ZT,?_⟩,by simp only;omega⟩;rw [List.take_add_one,hy];simp only [Option.toList_some,List.mem_append,List.mem_singleton,not_or];exact⟨mG,he⟩
 ·simp only at gK
  rw [aX,aT.dv];refine⟨-1,rfl,?_⟩;have:=hK w' (nt.tt kw);rw [List.take_of_length_le (by omega)]at mG;rw [decide_eq_false mG]at this;exact this
theorem zg{A:Option Addr}{n cx:Nat}{l:List HT}{h:HT}{b:Nat}(hl:HS w A n l)(hb:HS w (some ⟨b,0,none⟩) 1 [h])(hn:n<=100000):
 ∃A' c' w',(Builtin.append_ #[aF,aF] aF #[.slice A n n,.slice (some ⟨b,0,none⟩) 1 cx]).run prog w=.ok (.slice A' (n+1) c') w'/\
  HS w' A' (n+1) (l++ [h])/\n+1<=c'/\(∀a,A'=some a->w.heap.size<=a.block/\a.block<w'.heap.size)/\Kept Nil w w':=by
 have hlen:=hl.len;cases A with
 |none=>
  obtain⟨rfl,rfl⟩:=hl.none;obtain⟨A',c',w',hr,fJ,hg,hbk⟩:=dc (cx:=cx) aF (cC.nil w w.heap.size) hb (by omega) (Nat.le_refl _);rw [Nat.zero_add]at hr fJ;rw [List.nil_append]at fJ;obtain⟨b',rfl⟩:=Row.some fJ (by omega);have xc:=Row.bV fJ (k:=b') rfl;refine⟨some ⟨b',0,Option.none⟩,c',w',hr,cC.hs fJ,?_,fun a ha=>?_,Kept.eA (Kept.refl _ _) hg (fun k hk=>by cases hk)⟩
  ·rcases Row.own fJ with⟨h1,_⟩|⟨_,_,_,_,_,h1,_⟩
   ·cases h1
   ·exact h1
  ·cases ha
   obtain⟨h1,cur,h2⟩:=xc;exact⟨h1,aY h2⟩
 |some a=>
  obtain⟨i,z,hi,hz,hs,Kj,Eu⟩:=pI.inf;have hr:=run_append_grow (P:=prog) (w:=w) aF aF al i z pI.pz hi hz a n n (dt l) (by rw [fc,hs,hlen]) hl.cells ⟨b,0,Option.none⟩ 1 cx (dt [h]) (by rw [fc,hs];rfl) hb.cells (by omega) (by omega) (growslice_fits (by omega) (by rw [Kj];omega));refine⟨_,_,_,hr,⟨by simp [hlen],fun j y hj=>⟨_,rfl,?_,?_⟩⟩,grownCap_ge _ _ _ _,fun a' yZ=>?_,?_⟩
  ·have:=aM w.drew (.cells ((dt l).toArray++(dt [h]).toArray++Builtin.zeroCells z.cells (grownCap w (n+1) n al-(n+1))) al)
   exact aY this
  ·intro q v hq
   rw [bC,bC,Nat.zero_add];have hblk:=aM w.drew (.cells ((dt l).toArray++(dt [h]).toArray++Builtin.zeroCells z.cells (grownCap w (n+1) n al-(n+1))) al);have e:(w.drew.heap.size)=w.heap.size:=rfl;rw [e]at hblk;rw [aE hblk];have h1:=lK hj hq;rw [mS]at h1;have dg:=(lgeS h1).1;rw [Array.getElem?_append_left (by simpa using dg)];simpa using h1
  ·cases yZ
   have:=aM w.drew (.cells ((dt l).toArray++(dt [h]).toArray++Builtin.zeroCells z.cells (grownCap w (n+1) n al-(n+1))) al);exact⟨Nat.le_refl _,aY this⟩
  ·exact(Kept.refl Nil w).drew.alloc _
end
def iB(D:DG)(h s:HT)(l:List HT):Int:=if dR D h l=0 then(if s∈l then 0 else 2)else dR D h l
theorem qt{D:DG}{h:HT}{l:List HT}(e:dR D h l=0):mo D h l=D++ [⟨h,dB l⟩]:=by unfold mo;rw [if_pos e]
section
variable{w w':World}{S ST:Nat->Prop}{t:Nat}{T:List Tr.Nd}{d:Int}
theorem tJ(h:Tr.pD w ST t T d):Tr.pD w (fun k=>ST k/\k<w.heap.size) t T d:=by
 obtain⟨b,c,L,h⟩:=h;refine⟨b,c,L,{h with iS:=⟨h.iS,h.lt⟩,gM:=⟨h.gM,?_⟩,ry:=fun i p hi=>?_}⟩
 ·obtain⟨A,m,hk⟩:=h.ry i p hi
  exact⟨A,m,{hk with kX:=fun k e=>⟨hk.kX k e,let ⟨_,_,hc⟩:=Row.bV hk.row e;aY hc⟩}⟩
 ·obtain⟨cur,hc⟩:=h.wx
  exact aY hc
end
section
variable{w w':World}{F:Nat->Prop}{x:Nat}{D:DG}{P:List Int}{m:XM}{K:Value->World->Prop}
theorem JC{v:World}{hid s:HT}{S2 F2 SO2:Nat->Prop}{ps:List HT}{j:Nat}{mj:DN}{Gc sb:Nat}{b8:Int}{FI:Option Nat}{A7:Option Addr}{n7 c7:Nat}{i7:Int}{s1 s2:Nat}
 (h:XV w F x D P m) (hD:D.length<=5000) (hn:hid∉ids D) (gB:∀p∈ps,p∈ids D) (uM:SS ps) (hj:D[j]? =some mj) (hs:mj.id=s) (G3:s∈ps)
 (jE:v.heap[x]? =some (.cells #[.pointer (some ⟨m.g,0,none⟩),.pointer (some ⟨m.t,0,none⟩),.map (some m.mb),.slice (some ⟨m.ib,0,none⟩) D.length m.ic,.map (some m.cb)] eT (0,0)))
 (ajE:w.heap.size<=Gc) (aix:w.heap.size<=sb) (Qg:v.heap[Gc]? =some (.cells hid.1 al (0,0))) (IB:v.heap[sb]? =some (.cells s.1 al (0,0)))
 (hG:DK v S2 F2 m.g (D++ [⟨hid,ps⟩])) (hT:Tr.pD v m.ST m.t m.T m.d) (hat:IsMap v m.mb (ids D)) (fJ:cC v 0 (some ⟨m.ib,0,none⟩) D.length m.ic (ids D))
 (Qv:∃f,fU v m.cb f/\∀y,∃l,o5 v SO2 (D.length+1) (f y) l/\∀c,c∈l↔Oh (D++ [⟨hid,ps⟩]) (P++ [(j:Int)]) y c)
 (wG:w.heap.size<=s1) (zx:s1<=s2) (CI:s2<=v.heap.size)
 (Ru:∀k,S2 k->(m.SG k\/w.heap.size<=k)/\k<s1) (Rv:∀k,F2 k->(F k\/w.heap.size<=k)/\k<s1) (MM:∀k,SO2 k->m.SO k\/(s2<=k/\k<v.heap.size))
 (kv:Kept (fun k=>m.kX x k) w v)
 (hK:∀u S' F',DJ u S' F' x (D++ [⟨hid,ps⟩]) (P++ [(j:Int)])->Kept (fun k=>m.kX x k) w u->(∀k,S' k->m.kX x k\/w.heap.size<=k)->(∀k,F' k->F k\/w.heap.size<=k)->K (.int .i64 0) u):
 aG.Q7 (some ⟨x,0,none⟩) ⟨Gc,0,none⟩ ⟨sb,0,none⟩ b8 FI A7 n7 c7 i7 i7 K v:=by
 have W:=h.W;have oM:=h.low;have uN:=(lgeS hj).1;have htl:=h.OE;have hox:m.own x x:=.inl rfl;have Uy:m.own x m.mb:=.inr (.inl rfl);have Uz:m.own x m.ib:=.inr (.inr (.inl rfl));have uy:m.own x m.cb:=.inr (.inr (.inr rfl));obtain⟨Ro,SL,OT,SK,Rn,SJ⟩:=h.ne;unfold aG.Q7;intro E8;have wS:Kept Nil v E8:=(Kept.refl _ _).drew;clear_value E8;have c1:E8.cell? ((⟨x,0,none⟩:Addr).add 1)=some (.pointer (some ⟨m.t,0,none⟩)):=by rw [bC,aE (wS.heap jE (fun h=>h))];rfl
 have c2:E8.cell? ((⟨x,0,none⟩:Addr).add 2)=some (.map (some m.mb)):=by rw [bC,aE (wS.heap jE (fun h=>h))];rfl
 have I9:=hat.aJ wS (fun h=>h);have lk:=I9.xT s;rw [<-hs,W.pos_eq hj]at lk;rw [hs]at lk;refine⟨_,c1,_,c2,s.1,⟨s.2.1,Cells.bV (wS.heap IB (fun h=>h))⟩,_,lk,?_⟩;have Ww:=tJ (hT.same wS);refine Tr.Hv Ww h.Md (p:=j) (by omega) (by omega) ⟨h.dl.1,by have:=h.dl.2;omega⟩ fun E7 Xh T' d' Wv Je Ur hd' Ga acH=>⟨_,_,rfl,?_⟩;have ag2:=wS.size;have Rt:∀k,Xh k->m.ST k\/E8.heap.size<=k:=fun k hk=>(acH k hk).imp (fun h=>h.1) (fun h=>h);have nST:∀k,(m.ST k/\k<E8.heap.size)->m.ST k:=fun k h=>h.1;have OC:=Ga.heap (wS.heap jE (fun h=>h)) (fun e=>(h.od x hox).2.1 e.1);intro Ho;have F9:Kept Nil E7 Ho:=(Kept.refl _ _).drew;clear_value Ho;have Hy:=F9.heap OC (fun h=>h);have EA:∀k,m.ST k->k<w.heap.size:=fun k e=>oM k (.inl (.inr (.inl e)));have lox:x<w.heap.size:=oM x (.inl (.inr (.inr (.inr hox))));have ahw:m.mb<w.heap.size:=oM _ (.inl (.inr (.inr (.inr Uy))));have ahx:m.ib<w.heap.size:=oM _ (.inl (.inr (.inr (.inr Uz))));have S7:m.cb<w.heap.size:=oM _ (.inl (.inr (.inr (.inr uy))));have sv:=kv.size;have ED:Ho.heap[Gc]? =some (.cells hid.1 al (0,0)):=F9.heap (Ga.heap (wS.heap Qg (fun h=>h)) (fun e=>by have:=EA _ e.1;omega)) (fun h=>h);have Dt:Ho.cell? ((⟨x,0,none⟩:Addr).add 2)=some (.map (some m.mb)):=by rw [bC,aE Hy];rfl
 have QF:IsMap Ho m.mb (ids D):=(I9.aJ Ga (fun e=>(h.od _ Uy).2.1 e.1)).aJ F9 (fun h=>h);obtain⟨Ou,Nh,QE,TD⟩:=QF.put hn;rw [iI,<-htl]at Nh;refine⟨_,Dt,hid.1,⟨hid.2.1,Cells.bV ED⟩,Ou,Nh,?_⟩;intro E5;have TC:Kept Nil Ou E5:=(Kept.refl _ _).drew;clear_value E5;have yO:=TD.trans TC (fun _ _ h=>h.elim);have Hx:=yO.heap Hy (fun e=>Ro e);have c3:∀ {u:World},Kept Nil E5 u->u.cell? ((⟨x,0,none⟩:Addr).add 3)=some (.slice (some ⟨m.ib,0,none⟩) D.length m.ic):=fun k=>by rw [bC,aE (k.heap Hx (fun h=>h))];rfl
 have LB:=yO.heap ED (fun e=>by omega);refine⟨_,_,_,c3 (Kept.refl _ _),hid.1,⟨hid.2.1,Cells.bV LB⟩,hid.2.1,?_⟩;intro zL;have Ld:Kept Nil E5 zL:=(Kept.refl _ _).alloc _;have Wk:HS zL (some ⟨E5.heap.size,0,none⟩) 1 [hid]:=jF E5 hid;clear_value zL;have Er:=yO.trans Ld (fun _ _ h=>h.elim);have OM:cC zL 0 (some ⟨m.ib,0,none⟩) D.length m.ic (ids D):=
  Row.aJ (Row.aJ (Row.aJ (Row.aJ fJ wS (fun _ _ h=>h)) Ga (fun k e e'=>by cases e;exact(h.od _ Uz).2.1 e'.1)) F9 (fun _ _ h=>h)) Er (fun k e e'=>by cases e;exact SK e'.symm)
 obtain⟨A',c',E0,Ug,Cj,Vx,Wj⟩:=dc (cx:=1) aF OM Wk (by omega) (Nat.zero_le _);have Pb:Kept (· =m.ib) zL E0:=Kept.grown (Kept.refl _ _) Vx (fun k e _=>by cases e;rfl);obtain⟨BL,rfl⟩:=Row.some Cj (by omega);have LC:BL=m.ib\/zL.heap.size<=BL:=by
  rcases Wj BL rfl with e|e
  ·left;simpa [bG]using e.symm
  ·exact .inr e
 have Hw:=Pb.heap (Ld.heap Hx (fun h=>h)) (fun e=>SL e);refine⟨c3 Ld,some ⟨BL,0,none⟩,_,c',E0,Ug,Is.mk rfl ⟨?_,?_⟩⟩
 ·rw [bC]
  exact dN Hw (by simp)
 intro zK;have W5:zK=E0.setCell ⟨x,3,none⟩ (.slice (some ⟨BL,0,none⟩) (D.length+1) c'):=by
  show E0.setCell ((⟨x,0,none⟩:Addr).add 3) _=_
  rw [bC]
 have Pa:Kept (· =x) E0 zK:=by rw [W5];exact Kept.setCell (S:=fun k=>k=x) (Kept.refl _ E0) (p:=⟨x,3,none⟩) (fun _=>rfl) _
 have OB:zK.heap[x]? =some (.cells #[.pointer (some ⟨m.g,0,none⟩),.pointer (some ⟨m.t,0,none⟩),.map (some m.mb),.slice (some ⟨BL,0,none⟩) (D.length+1) c',.map (some m.cb)] eT (0,0)):=by
  rw [W5,dp Hw 3];rfl
 clear_value zK;have ag1:=Ga.size;have ag0:=F9.size;have agZ:=Er.size;have agY:=Pb.size;have agX:=Pa.size;have kC:Kept (fun k=>k=m.ib\/k=x) Ou zK:=(((TC.tt Ld).mono (S':=fun k=>k=m.ib\/k=x) (fun _ _ h=>h.elim)).trans Pb (fun _ _ h=>.inl h)).trans Pa (fun _ _ h=>.inr h);have kB:Kept (fun k=>k=m.mb\/k=m.ib\/k=x) E7 zK:=((F9.mono (S':=fun k=>k=m.mb\/k=m.ib\/k=x) (fun _ _ h=>h.elim)).trans TD (fun _ _ h=>.inl h)).trans kC (fun _ _ h=>.inr h);have kA:Kept (fun k=>m.ST k\/k=m.mb\/k=m.ib\/k=x) v zK:=((wS.mono (S':=fun k=>m.ST k\/k=m.mb\/k=m.ib\/k=x) (fun _ _ h=>h.elim)).trans Ga (fun _ _ h=>.inl h.1)).trans kB (fun _ _ h=>.inr h);have FH:∀k,(k=m.mb\/k=m.ib\/k=x)->m.own x k:=fun k e=>by
  rcases e with e|e|e
  ·exact .inr (.inl e)
  ·exact .inr (.inr (.inl e))
  ·exact .inl e
 have KJ:∀k,m.own x k->k<w.heap.size:=fun k e=>oM k (.inl (.inr (.inr (.inr e))));have KO:∀k,m.SG k->k<w.heap.size:=fun k e=>oM k (.inl (.inl e));have HY:∀k,m.SO k->k<w.heap.size:=fun k e=>oM k (.inl (.inr (.inr (.inl e))));have nG:∀k,S2 k->¬(m.ST k\/k=m.mb\/k=m.ib\/k=x):=fun k h1 h2=>by
  obtain⟨h3,_⟩:=Ru k h1;rcases h2 with h2|h2
  ·rcases h3 with h3|h3
   ·exact(h.gt k h3).1 h2
   ·have:=EA k h2;omega
  ·have h4:=FH k h2
   rcases h3 with h3|h3
   ·exact(h.od k h4).1 h3
   ·have:=KJ k h4;omega
 have nF:∀k,F2 k->¬(m.ST k\/k=m.mb\/k=m.ib\/k=x):=fun k h1 h2=>by
  obtain⟨h3,_⟩:=Rv k h1;rcases h2 with h2|h2
  ·rcases h3 with h3|h3
   ·exact(h.fd k h3).1 h2
   ·have:=EA k h2;omega
  ·have h4:=FH k h2
   rcases h3 with h3|h3
   ·exact(h.od k h4).2.2.2 h3
   ·have:=KJ k h4;omega
 have Zx:∀k,SO2 k->¬(m.ST k\/k=m.mb\/k=m.ib\/k=x):=fun k h1 h2=>by
  rcases MM k h1 with h3|⟨h3,_⟩
  ·rcases h2 with h2|h2
   ·exact h.to k h2 h3
   ·exact(h.od k (FH k h2)).2.2.1 h3
  ·rcases h2 with h2|h2
   ·have:=EA k h2;omega
   ·have:=KJ k (FH k h2);omega
 have nT:∀k,(Xh k/\k<E7.heap.size)->¬(k=m.mb\/k=m.ib\/k=x):=fun k h1 h2=>by
  have h4:=FH k h2;rcases Rt k h1.1 with h3|h3
  ·exact(h.od k h4).2.1 h3
  ·have:=KJ k h4;omega
 refine hK zK (fun k=>(S2 k\/(Xh k/\k<E7.heap.size)\/SO2 k\/(k=x\/k=m.mb\/k=BL\/k=m.cb))) F2 ⟨{m with ib:=BL,ic:=c',T:=T',d:=d',SG:=S2,ST:=fun k=>Xh k/\k<E7.heap.size,SO:=SO2},?_,fun k e=>e⟩ ?_ ?_ ?_
 ·refine⟨?_,hG.aJ kA nG nF,(tJ Wv).aJ kB nT,Je,?_,?_,?_,?_,?_,?_,?_,?_,?_,?_,?_,?_,?_⟩
  ·rw [List.length_append];exact OB
  ·show Tr.b9 T'=_
   rw [Ur,h.b9]
  ·have:=h.dl
   simp only [List.length_append,List.length_singleton];show 0<=d'/\d'<=_
   omega
  ·rw [lT]
   exact QE.aJ kC (fun e=>e.elim (fun e=>SK e) (fun e=>Ro e.symm))
  ·rw [lT,List.length_append]
   refine Row.aJ Cj Pa (fun k e e'=>?_);have e1:BL=k:=by simpa [bG]using e
   rcases LC with e|e
   ·exact SL (e'.symm.trans (e1.symm.trans e))
   ·omega
  ·obtain⟨f,hf,hc⟩:=Qv
   refine⟨f,hf.aJ kA (fun e=>?_),fun y=>?_⟩
   ·rcases e with e|e|e|e
    ·exact(h.od _ uy).2.1 e
    ·exact Rn e.symm
    ·exact SJ e.symm
    ·exact OT e.symm
   ·obtain⟨l,h1,h2⟩:=hc y
    refine⟨l,?_,h2⟩;rw [List.length_append];exact h1.aJ kA Zx
  ·exact h.np.snoc hj (by rw [hs];exact G3) W.pos
  ·exact W.snoc (nd:=⟨hid,ps⟩) hn gB uM
  ·intro k h1
   obtain⟨h3,h4⟩:=Ru k h1;refine⟨fun h2=>?_,fun h2=>?_⟩
   ·rcases Rt k h2.1 with h5|h5
    ·exact nG k h1 (.inl h5)
    ·omega
   ·rcases MM k h2 with h5|h5
    ·rcases h3 with h3|h3
     ·exact(h.gt k h3).2 h5
     ·have:=HY k h5;omega
    ·omega
  ·intro k h1 h2
   rcases Rt k h1.1 with h5|h5
   ·exact Zx k h2 (.inl h5)
   ·rcases MM k h2 with h6|h6
    ·have:=HY k h6;omega
    ·omega
  ·intro k h1
   obtain⟨h3,h4⟩:=Rv k h1;refine⟨fun h2=>?_,fun h2=>?_⟩
   ·rcases Rt k h2.1 with h5|h5
    ·exact nF k h1 (.inl h5)
    ·omega
   ·rcases MM k h2 with h5|h5
    ·rcases h3 with h3|h3
     ·exact(h.fd k h3).2 h5
     ·have:=HY k h5;omega
    ·omega
  ·intro k e
   have e':(k=m.mb\/k=m.ib\/k=x)\/(k=m.cb)\/(k=BL/\zL.heap.size<=BL):=by
    rcases e with e|e|e|e
    ·exact .inl (.inr (.inr e))
    ·exact .inl (.inl e)
    ·rcases LC with h5|h5
     ·exact .inl (.inr (.inl (e.trans h5)))
     ·exact .inr (.inr ⟨e,h5⟩)
    ·exact .inr (.inl e)
   have big:zL.heap.size<=k->¬S2 k/\¬(Xh k/\k<E7.heap.size)/\¬SO2 k/\¬F2 k:=fun hb=>
    ⟨fun h1=>by have:=(Ru k h1).2;omega,fun h1=>by have:=h1.2;omega,fun h1=>(MM k h1).elim (fun h2=>by have:=HY k h2;omega) (fun h2=>by omega),fun h1=>by have:=(Rv k h1).2;omega⟩
   rcases e' with e'|e'|⟨rfl,e'⟩
   ·exact⟨fun h1=>nG k h1 (.inr e'),fun h1=>nT k h1 e',fun h1=>Zx k h1 (.inr e'),fun h1=>nF k h1 (.inr e')⟩
   ·subst e'
    have EI:=h.od _ uy;refine⟨fun h1=>?_,fun h1=>?_,fun h1=>?_,fun h1=>?_⟩
    ·rcases(Ru _ h1).1 with h2|h2
     ·exact EI.1 h2
     ·omega
    ·rcases Rt _ h1.1 with h2|h2
     ·exact EI.2.1 h2
     ·omega
    ·rcases MM _ h1 with h2|h2
     ·exact EI.2.2.1 h2
     ·omega
    ·rcases(Rv _ h1).1 with h2|h2
     ·exact EI.2.2.2 h2
     ·omega
   ·exact big e'
  ·show x≠m.mb/\x≠BL/\x≠m.cb/\m.mb≠BL/\m.mb≠m.cb/\BL≠m.cb
   rcases LC with h5|h5
   ·rw [h5];exact⟨Ro,SL,OT,SK,Rn,SJ⟩
   ·exact⟨Ro,by omega,OT,by omega,Rn,by omega⟩
  ·intro k e
   have hblk:=(Row.bV Cj (k:=BL) rfl).2;obtain⟨cur,p9⟩:=hblk;have lib:=aY p9;rcases e with e|e
   ·rcases e with e|e|e|e
    ·have:=(Ru k e).2;omega
    ·have:=e.2;omega
    ·rcases MM k e with h2|h2
     ·have:=HY k h2;omega
     ·omega
    ·rcases e with e|e|e|e
     ·omega
     ·have e:k=m.mb:=e;omega
     ·have e:k=BL:=e;omega
     ·have e:k=m.cb:=e;omega
   ·have:=(Rv k e).2;omega
 ·refine kv.trans kA (fun k _ e=>?_)
  rcases e with e|e
  ·exact .inr (.inl e)
  ·exact .inr (.inr (.inr (FH k e)))
 ·intro k e
  rcases e with e|e|e|e
  ·exact(Ru k e).1.imp (fun h=>.inl h) (fun h=>h)
  ·rcases Rt k e.1 with h5|h5
   ·exact .inl (.inr (.inl h5))
   ·exact .inr (by omega)
  ·rcases MM k e with h5|h5
   ·exact .inl (.inr (.inr (.inl h5)))
   ·exact .inr (by omega)
  ·rcases e with e|e|e|e
   ·exact .inl (.inr (.inr (.inr (.inl e))))
   ·exact .inl (.inr (.inr (.inr (.inr (.inl e)))))
   ·rcases LC with h5|h5
    ·exact .inl (.inr (.inr (.inr (.inr (.inr (.inl (e.trans h5)))))))
    ·exact .inr (by omega)
   ·exact .inl (.inr (.inr (.inr (.inr (.inr (.inr e))))))
 ·exact fun k e=>(Rv k e).1
end
section
variable{w w':World}{F S:Nat->Prop}{x:Nat}{D:DG}{P:List Int}{m:XM}{K:Value->World->Prop}
theorem GP{u v:World}{hid s:HT}{D':DG}{ps pl:List HT}{Gc ob i:Nat}{A7:Option Addr}{c7:Nat}{b8:Int}{sb:Addr}{f0:HT->Option Value}{Q:aR}{Xy:Option Nat}
 (h:XV w F x D P m) (hD:D.length<=5000) (hwu:w.heap.size<=u.heap.size)
 (jE:u.heap[x]? =some (.cells #[.pointer (some ⟨m.g,0,none⟩),.pointer (some ⟨m.t,0,none⟩),.map (some m.mb),.slice (some ⟨m.ib,0,none⟩) D.length m.ic,.map (some m.cb)] eT (0,0)))
 (Qg:u.heap[Gc]? =some (.cells hid.1 al (0,0))) (ai7:w.heap.size<=Gc) (hold:fU u ob f0) (ai4:w.heap.size<=ob) (aa4:Xy=some ob)
 (hf0:∀y,(y=s\/fw D y s->f0 y=some (.agg #[.bool true]))/\(¬(y=s\/fw D y s)->f0 y=none))
 (Ci:cC u w.heap.size A7 pl.length c7 pl) (rT:pl.length<=10000)
 (kv:Kept (· =m.cb) u v) (hi:i<=pl.length) {Z:HT->HT->Prop}
 (Qv:∃f,fU v m.cb f/\∀y,∃l,o5 v (fun k=>m.SO k\/(u.heap.size<=k/\k<v.heap.size)) (D.length+if y∈pl.take i then 1 else 0) (f y) l/\∀c,c∈l↔Oh D P y c\/(c=hid/\y∈pl.take i/\y≠s/\¬fw D y s)) (gA:pl.Nodup)
 (hQ:∀v',Kept (· =m.cb) u v'->(∃f,fU v' m.cb f/\∀y,∃l,o5 v' (fun k=>m.SO k\/(u.heap.size<=k/\k<v'.heap.size)) (D.length+if y∈pl.take (i+1)then 1 else 0) (f y) l/\∀c,c∈l↔Oh D P y c\/(c=hid/\y∈pl.take (i+1)/\y≠s/\¬fw D y s))->i<pl.length->
   Q .normal (aG.e2 (some ⟨x,0,none⟩) ⟨Gc,0,none⟩ sb b8 Xy A7 pl.length c7 (pl.length:Int) ((i:Int)+1)) v')
 (hE:i=pl.length->Q (.exit 3) (aG.e2 (some ⟨x,0,none⟩) ⟨Gc,0,none⟩ sb b8 Xy A7 pl.length c7 (pl.length:Int) (i:Int)) v):
 aG.B2 (some ⟨x,0,none⟩) ⟨Gc,0,none⟩ sb b8 Xy A7 pl.length c7 (pl.length:Int) (i:Int) Q v:=by
 subst aa4;have hox:m.own x x:=.inl rfl;have uy:m.own x m.cb:=.inr (.inr (.inr rfl));obtain⟨Ro,SL,OT,SK,Rn,SJ⟩:=h.ne;have S7:m.cb<w.heap.size:=h.low _ (.inl (.inr (.inr (.inr uy))));have sv:=kv.size;unfold aG.B2;refine Split.dec (fun jV=>?_) (fun gK=>hE (by omega));have eh:i<pl.length:=by omega
 obtain⟨y,hy⟩:∃y,pl[i]? =some y:=⟨_,List.getElem?_eq_getElem eh⟩;have XR:y∉pl.take i:=fun hm=>by
  obtain⟨j,hj⟩:=List.mem_iff_getElem?.1 hm;rw [List.getElem?_take]at hj;split at hj
  ·rename_i dg
   have h1:=lI 0 j gA hj;rw [lI 0 i gA hy]at h1;simp only [Option.some.injEq]at h1;omega
  ·cases hj
 have OK:HS v A7 pl.length pl:=cC.hs (Row.aJ Ci kv (fun k hk e=>by have:=(Row.bV Ci hk).1;omega));refine OK.load (i:=(i:Int)) (by omega) (by rw [Int.toNat_natCast];exact hy) ?_;intro w81;obtain⟨tq,j0,kz⟩:=iL (w:=v) (z:=(CF 0)) (cs:=y.1) (t:=al) (by rw [y.2.1];rfl);refine⟨⟨y.2.1,y.2.one,fun j hj=>tq j (by rw [y.2.1];exact hj)⟩,?_⟩;intro Oo
 replace j0:Oo.heap[v.heap.size]? =some (.cells y.1 al (0,0)):=j0
 replace kz:Kept Nil v Oo:=kz
 clear_value Oo;have XH:Kept (· =m.cb) u Oo:=kv.trans kz (fun _ _ h=>h.elim);have PW:fU Oo ob f0:=hold.aJ XH (fun e=>by omega);have lk:=PW.look HR y;obtain⟨f,hf,hc⟩:=Qv;have VF:=hf.aJ kz (fun h=>h);obtain⟨l,rU,IQ⟩:=hc y;have aaw:=kz.size;have Ob:∀ {v':World} {N N':Nat} {a:Option Value} {l:List HT},v.heap.size<=v'.heap.size->N<=N'->o5 v' (fun k=>m.SO k\/(u.heap.size<=k/\k<v.heap.size)) N a l->o5 v' (fun k=>m.SO k\/(u.heap.size<=k/\k<v'.heap.size)) N' a l:=fun hv hN Bc=>by
  rcases Bc with Bc|⟨A,n,c,h1,h2,h3,h4,h5⟩
  ·exact .inl Bc
  ·exact .inr ⟨A,n,c,h1,h2,h3,by omega,fun a ha=>(h5 a ha).imp (fun h=>h) (fun h=>⟨h.1,by omega⟩)⟩
 have Oc:∀ {v':World} {N:Nat} {a:Option Value} {l:List HT},Kept (· =m.cb) v v'->o5 v (fun k=>m.SO k\/(u.heap.size<=k/\k<v.heap.size)) N a l->o5 v' (fun k=>m.SO k\/(u.heap.size<=k/\k<v.heap.size)) N a l:=fun hk Bc=>Bc.aJ hk (fun k oW e=>by
  rcases oW with h1|h1
  ·exact(h.od _ uy).2.2.1 (e▸h1)
  ·omega)
 refine⟨y.1,⟨y.2.1,Cells.bV j0⟩,?_⟩;by_cases kl:y=s\/fw D y s
 ·rw [(hf0 y).1 kl]at lk
  refine⟨_,lk,true,rfl,Split.no rfl ?_⟩;rw [dH (n:=(i:Int)) (by omega) (by omega)];refine hQ Oo XH ⟨f,VF,fun z=>?_⟩ eh;obtain⟨lz,h1,h2⟩:=hc z;refine⟨lz,Ob aaw (by
   by_cases hz:z∈pl.take i
   ·rw [if_pos hz,if_pos ((bT hy).2 (.inl hz))];exact Nat.le_refl _
   ·rw [if_neg hz];omega) (Oc (kz.mono (fun _ _ h=>h.elim)) h1),fun c=>?_⟩
  rw [h2,bT hy];constructor
  ·rintro(h3|⟨h3,h4,h5,h6⟩)
   ·exact .inl h3
   ·exact .inr ⟨h3,.inl h4,h5,h6⟩
  ·rintro(h3|⟨h3,h4|rfl,h5,h6⟩)
   ·exact .inl h3
   ·exact .inr ⟨h3,h4,h5,h6⟩
   ·exact absurd kl (fun e=>e.elim h5 h6)
 ·rw [(hf0 y).2 kl]at lk
  refine⟨_,lk,false,rfl,Split.yes rfl ?_⟩;intro DO;have To:Kept Nil Oo DO:=(Kept.refl _ _).drew;clear_value DO;have ZI:=kz.tt To;have I2:=To.heap j0 (fun h=>h);have uq:∀ {q:World},Kept Nil DO q->q.cell? ((⟨x,0,none⟩:Addr).add 4)=some (.map (some m.cb)):=fun k=>by
   rw [bC,aE (k.heap (To.heap (XH.heap jE (fun e=>OT e)) (fun h=>h)) (fun h=>h))];rfl
  have nR:∀ {q:World},Kept Nil DO q->∃cs:Array Value,(.agg y.1:Value)=.agg cs/\cs.size=32/\Cells q (aU v.heap.size) cs:=fun k=>⟨y.1,rfl,y.2.1,Cells.bV (k.heap I2 (fun h=>h))⟩;have Nz:DO.heap[Gc]? =some (.cells hid.1 al (0,0)):=To.heap (XH.heap Qg (fun e=>by omega)) (fun h=>h);have abZ:∀ {q:World},Kept Nil DO q->∃cs:Array Value,(.agg hid.1:Value)=.agg cs/\cs.size=32/\Cells q (⟨Gc,0,none⟩:Addr) cs:=fun k=>⟨hid.1,rfl,hid.2.1,Cells.bV (k.heap Nz (fun h=>h))⟩;have VE:=VF.aJ To (fun h=>h);obtain⟨A,n,c,gR,Gj,CH,hnN⟩:∃(A:Option Addr) (n c:Nat),(f y).getD (.slice none 0 0)=.slice A n c/\n<=c/\HS v A n l/\n<=D.length:=by
   rcases rU with⟨h1,h2⟩|⟨A,n,c,h1,h2,h3,h4,_⟩
   ·exact⟨none,0,0,by rw [h1];rfl,Nat.le_refl _,by rw [h2];exact HS.nil _ _,by omega⟩
   ·rw [if_neg XR]at h4
    exact⟨A,n,c,by rw [h1];rfl,h2,h3,by omega⟩
  have lk2:∀ {q:World},Kept Nil DO q->(Instr.lookup iw (.map (some m.cb)) (.agg y.1) false).run prog q=.ok (.slice A n c) q:=fun k=>by
   have:=(VE.aJ k (fun h=>h)).look yK y;rw [gR]at this;exact this
  have fin:∀ {q:World} {bb:Nat},Kept Nil DO q->HS q (some ⟨bb,0,none⟩) 1 [hid]->
   ∃(A':Option Addr) (n' c':Nat) (q2:World),(Builtin.append_ #[aF,aF] aF #[.slice A n n,.slice (some ⟨bb,0,none⟩) 1 1]).run prog q=.ok (.slice A' n' c') q2/\(∃cs:Array Value,(.agg y.1:Value)=.agg cs/\cs.size=32/\Cells q2 (aU v.heap.size) cs)/\q2.cell? ((⟨x,0,none⟩:Addr).add 4)=some (.map (some m.cb))/\
    ∃q3:World,(Instr.mapUpdate iw (.map (some m.cb)) (.agg y.1) (.slice A' n' c')).run prog q2=.ok () q3/\Q .normal (aG.e2 (some ⟨x,0,none⟩) ⟨Gc,0,none⟩ sb b8 (some ob) A7 pl.length c7 (pl.length:Int) (i64.wrap ((i:Int)+(1:Int)))) q3:=by
   intro q bb kq xc;have ZH:=ZI.tt kq;obtain⟨A',c',q2,hr,zx,I1,nA,kq2⟩:=zg (cx:=1) (CH.same ZH) xc (by omega);have k2:=kq.tt kq2;obtain⟨q3,yU,hf3,k3⟩:=(VE.aJ k2 (fun h=>h)).put yK y (.slice A' (n+1) c');refine⟨A',_,c',q2,hr,nR k2,uq k2,q3,yU,?_⟩;rw [dH (n:=(i:Int)) (by omega) (by omega)];have Ti:=ZH.tt kq2;have Th:Kept (· =m.cb) v q3:=(Ti.mono (S':=(· =m.cb)) (fun _ _ h=>h.elim)).tt k3;have sq2:=Ti.size;have sq3:=k3.size;have svq:=ZH.size;refine hQ q3 (kv.tt Th) ⟨_,hf3,fun z=>?_⟩ eh;by_cases hz:z=y
   ·subst hz
    refine⟨l++ [hid],.inr ⟨A',n+1,c',by simp,I1,zx.aJ k3 (fun a ha e=>by have:=(nA a ha).1;omega),?_,fun a ha=>.inr ?_⟩,fun c=>?_⟩
    ·rw [if_pos ((bT hy).2 (.inr rfl))];omega
    ·have:=nA a ha;omega
    ·rw [List.mem_append,List.mem_singleton,IQ,bT hy]
     constructor
     ·rintro((h3|⟨h3,h4,h5,h6⟩)|h3)
      ·exact .inl h3
      ·exact .inr ⟨h3,.inl h4,h5,h6⟩
      ·exact .inr ⟨h3,.inr rfl,fun e=>kl (.inl e),fun e=>kl (.inr e)⟩
     ·rintro(h3|⟨h3,h4,h5,h6⟩)
      ·exact .inl (.inl h3)
      ·exact .inr h3
   ·obtain⟨lz,h1,h2⟩:=hc z
    refine⟨lz,?_,fun c=>?_⟩
    ·simp only [hz,if_false]
     refine Ob (by omega) ?_ (Oc Th h1);by_cases ZZ:z∈pl.take i
     ·rw [if_pos ZZ,if_pos ((bT hy).2 (.inl ZZ))];exact Nat.le_refl _
     ·rw [if_neg ZZ];omega
    ·rw [h2,bT hy]
     constructor
     ·rintro(h3|⟨h3,h4,h5,h6⟩)
      ·exact .inl h3
      ·exact .inr ⟨h3,.inl h4,h5,h6⟩
     ·rintro(h3|⟨h3,h4|h4,h5,h6⟩)
      ·exact .inl h3
      ·exact .inr ⟨h3,h4,h5,h6⟩
      ·exact absurd h4 hz
  refine⟨_,uq (Kept.refl _ _),y.1,⟨y.2.1,Cells.bV I2⟩,_,uq (Kept.refl _ _),y.1,⟨y.2.1,Cells.bV I2⟩,A,n,c,lk2 (Kept.refl _ _),hid.1,⟨hid.2.1,Cells.bV Nz⟩,?_,⟨hid.2.1,?_⟩⟩
  ·refine yn Gj ⟨A,n,n,rfl,abZ (Kept.refl _ _),nR (Kept.refl _ _),uq (Kept.refl _ _),hid.2.1,?_⟩
   intro E9;have CA:Kept Nil DO E9:=(Kept.refl _ _).alloc _;have Wm:HS E9 (some ⟨DO.heap.size,0,none⟩) 1 [hid]:=jF DO hid;clear_value E9;exact⟨nR CA,uq CA,fin CA Wm⟩
  ·intro Ov
   have AP:Kept Nil DO Ov:=(Kept.refl _ _).alloc _;have Wl:HS Ov (some ⟨DO.heap.size,0,none⟩) 1 [hid]:=jF DO hid;clear_value Ov;exact⟨lk2 AP,nR AP,uq AP,nR AP,uq AP,yn Gj ⟨A,n,n,rfl,nR AP,uq AP,fin AP Wl⟩⟩
end
def oy(D:DG)(h s:HT)(l:List HT):DG:=if iB D h s l=0 then D++ [⟨h,dB l⟩]else D
def ox(D:DG)(P:List Int)(h s:HT)(l:List HT):List Int:=if iB D h s l=0 then P++ [(((pos s (ids D) 0).getD 0:Nat):Int)]else P
section
variable{w w':World}{F S:Nat->Prop}{x:Nat}{D:DG}{P:List Int}{m:XM}{K:Value->World->Prop}
theorem FD(h:XV w F x D P m)(hD:D.length<=5000)(hT:sP w)(Kk:¬m.SG (Tryz.ko.g 1)){A:Option Addr}{n cx:Nat}{lp:List HT}(hl:HS w A n lp)(hn:n<=5000)(hid s:HT)
 (mG:∀v,Kept Nil w v->iB D hid s lp≠0->K (.int .i64 (iB D hid s lp)) v)
 (wW:∀u S' F',DJ u S' F' x (oy D hid s lp) (ox D P hid s lp)->Kept (fun k=>m.kX x k) w u->(∀k,S' k->m.kX x k\/w.heap.size<=k)->(∀k,F' k->F k\/w.heap.size<=k)->iB D hid s lp=0->K (.int .i64 0) u):
 bD prog aG.id #[.pointer (some ⟨x,0,none⟩),.agg hid.1,.agg s.1,.slice A n cx] w K:=by
 have hlen:=hl.len;have W:=h.W;refine aG.of ?_;unfold aG.W;intro w5 w6;have k5:Kept Nil w w5:=(Kept.refl _ _).alloc _;have LD:w5.heap[w.heap.size]? =some (.cells hid.1 al (0,0)):=aM w _;have k6:Kept Nil w5 w6:=(Kept.refl _ _).alloc _;have Ln:w6.heap[w5.heap.size]? =some (.cells s.1 al (0,0)):=aM w5 _;clear_value w6;have RP:=k6.heap LD (fun h=>h);have p7:=k5.tt k6;have s5:=k5.size;have l5:=aY LD;obtain⟨bl,c,mbg,M,G⟩:=h.G;have hG:∀ {v:World},Kept Nil w v->GV v m.SG F m.g D (iu D) bl c mbg M:=fun k=>G.same k;refine tQ (h.same p7) ⟨true,rfl,Split.no rfl ⟨_,(h.same p7).c0,hid.1,⟨hid.2.1,Cells.bV RP⟩,?_⟩⟩;refine sG (hG p7) hid fun jb JW=>⟨_,rfl,?_⟩;have Lf:=p7.tt JW;by_cases gB:hid∈ids D
 ·have e:iB D hid s lp=7:=by simp [iB,dR,gB]
  have:=mG jb Lf (by rw [e];decide);rw [e]at this;exact Split.yes (decide_eq_true gB) this
 refine Split.no (decide_eq_false gB) ?_;by_cases h0:n=0
 ·have el:lp= []:=List.length_eq_zero_iff.1 (by omega)
  have e:iB D hid s lp=9:=by subst el;simp [iB,dR,gB,KB]
  have:=mG jb Lf (by rw [e];decide);rw [e]at this;exact Split.yes (by simp [h0]) this
 refine Split.no (by simp [h0]) ?_;refine iP (hl.same Lf) (by omega) fun A17 c17 xA aeb Ig=>⟨A17,_,c17,rfl,?_⟩;have Le:=Lf.tt Ig;have fP:lp≠ []:=fun e=>h0 (by rw [<-hlen,e];rfl);by_cases CH:¬(dB lp).length=n
 ·have e:iB D hid s lp=9:=by
   have h1:(dB lp).length=0\/(dB lp).length≠lp.length:=.inr (by omega);have h2:dR D hid lp=9:=by unfold dR;rw [if_neg gB,if_pos h1]
   simp [iB,h2]
  have:=mG xA Le (by rw [e];decide);rw [e]at this;exact Split.yes (by simp only [bne_iff_ne,ne_eq];omega) this
 replace CH:=Classical.not_not.1 CH
 refine Split.no (by rw [CH];simp) ?_;refine qD (h.same Le) (hl.same Le) (by omega) fun EZ BK=>⟨_,rfl,?_⟩;have Pe:=Le.tt BK;have UG:¬((dB lp).length=0\/(dB lp).length≠lp.length):=by omega
 by_cases cZ:¬∀p∈lp,p∈ids D
 ·have hex:∃p∈dB lp,p∉ids D:=Classical.byContradiction fun hc=>cZ fun p hp=>Classical.byContradiction fun hq=>hc ⟨p,dT.2 hp,hq⟩
  have e:iB D hid s lp=6:=by
   have:dR D hid lp=6:=by unfold dR;rw [if_neg gB,if_neg UG,if_pos hex]
   simp [iB,this]
  have:=mG EZ Pe (by rw [e];decide);rw [e]at this;exact Split.yes (by rw [decide_eq_false cZ];rfl) this
 replace cZ:=Classical.not_not.1 cZ
 refine Split.no (by rw [decide_eq_true cZ];rfl) ?_;have ab6:¬∃p∈dB lp,p∉ids D:=fun⟨p,hp,hq⟩=>hq (cZ p (dT.1 hp));have eC:dR D hid lp=0:=by unfold dR;rw [if_neg gB,if_neg UG,if_neg ab6]
 have Tq:=(JW.tt Ig).tt BK;refine⟨s.1,⟨s.2.1,Cells.bV (Tq.heap Ln (fun h=>h))⟩,?_⟩;refine xi s (hl.same Pe) (by omega) fun mC qT=>⟨_,rfl,?_⟩;have CB:=Pe.tt qT;by_cases wF:¬s∈lp
 ·have e:iB D hid s lp=2:=by simp [iB,eC,wF]
  have:=mG mC CB (by rw [e];decide);rw [e]at this;exact Split.yes (by rw [decide_eq_false wF];rfl) this
 replace wF:=Classical.not_not.1 wF
 refine Split.no (by rw [decide_eq_true wF];rfl) ?_;have eX:iB D hid s lp=0:=by simp [iB,eC,wF]
 have K3:=Tq.tt qT;obtain⟨mj,P4,P3⟩:=dI.1 (cZ s wF);obtain⟨j,hj⟩:=List.mem_iff_getElem?.1 P4;have eP:ox D P hid s lp=P++ [(j:Int)]:=by
  unfold ox;rw [if_pos eX,<-P3,W.pos_eq hj];rfl
 have eD:oy D hid s lp=D++ [⟨hid,dB lp⟩]:=by unfold oy;rw [if_pos eX]
 intro q9;have AN:Kept Nil mC q9:=(Kept.refl _ _).alloc _;have abj:fU q9 mC.heap.size (fun _=>none):=fU.new mC;clear_value q9;have ID:=(K3.tt AN).heap Ln (fun h=>h);obtain⟨GY,aaL,UU,Ia⟩:=abj.put HR s (.agg #[.bool true]);refine⟨s.1,⟨s.2.1,Cells.bV ID⟩,GY,aaL,?_⟩;have ob0:w5.heap.size<mC.heap.size:=by have:=aY Ln;have:=K3.size;omega
 have aax:=Ia.heap ID (fun e=>by omega);refine⟨s.1,⟨s.2.1,Cells.bV aax⟩,s.2.1,?_⟩;intro Rl;have ZW:Kept Nil GY Rl:=(Kept.refl _ _).alloc _;have aac:HS Rl (some ⟨GY.heap.size,0,none⟩) 1 [s]:=jF GY s;clear_value Rl;have ag5:=CB.size;have Ib:Kept Nil mC Rl:=(AN.trans Ia (fun k hk e=>by omega)).tt ZW;have Pc:=CB.tt Ib;refine wj (hG Pc) W (by omega) (hT.same Pc) aac (by omega) fun A32 W9 uJ MB G0=>⟨A32,_,W9,rfl,?_⟩;have ZX:=Pc.tt G0;have abi:fU uJ mC.heap.size (fun z=>if z=s then some (.agg #[.bool true])else none):=(UU.aJ ZW (fun h=>h)).aJ G0 (fun h=>h);have p1:=nY D fun a=>∃z∈ [s],fw D a z
 change (eF D [s]).length<=_ at p1
 have ad5:=Ib.size;have ob1:=UU.lt;have s30:=ZW.size;have Nk:∀y,y∈eF D [s]↔fw D y s:=fun y=>by
  unfold eF;rw [ki];constructor
  ·rintro⟨_,z,hz,e⟩
   rw [List.mem_singleton]at hz
   rwa [hz]at e
  ·exact fun e=>⟨(e.mem W).1,s,by simp,e⟩
 have ahC:∀k,k=mC.heap.size->¬k<w.heap.size:=fun k e=>by omega
 refine aG.cJ (I:=fun i v=>∃(q:Nat) (f:HT->Option Value),i=(q:Int)/\q<=(eF D [s]).length/\fU v mC.heap.size f/\(∀y,(y=s\/y∈(eF D [s]).take q->f y=some (.agg #[.bool true]))/\(¬(y=s\/y∈(eF D [s]).take q)->f y=none))/\Kept (· =mC.heap.size) uJ v)
  (μ:=fun i _=>(((eF D [s]).length:Int)-i).toNat) (s:=0) ⟨0,_,rfl,Nat.zero_le _,abi,fun y=>⟨fun e=>by
    rcases e with e|e
    ·rw [if_pos e]
    ·simp at e,fun e=>if_neg fun e'=>e (.inl e')⟩,Kept.refl _ _⟩ ?_
 rintro i v ⟨q,f,rfl,hq,hmv,Qq,kv⟩;have wT:Kept Nil w v:=ZX.trans kv (fun k hk e=>by omega);refine Split.dec (fun jV=>?_) (fun gK=>?_)
 ·have eh:q<(eF D [s]).length:=by omega
  obtain⟨y,hy⟩:∃y,(eF D [s])[q]? =some y:=⟨_,List.getElem?_eq_getElem eh⟩;have OK:=cC.hs (Row.aJ MB kv (fun k hk e=>by have:=(Row.bV MB hk).1;omega));refine OK.load (i:=(q:Int)) (by omega) (by rw [Int.toNat_natCast];exact hy) ?_;intro Mv;obtain⟨tq,j0,kz⟩:=iL (w:=v) (z:=(CF 0)) (cs:=y.1) (t:=al) (by rw [y.2.1];rfl);refine⟨⟨y.2.1,y.2.one,fun j hj=>tq j (by rw [y.2.1];exact hj)⟩,?_⟩;intro Zc
  replace j0:Zc.heap[v.heap.size]? =some (.cells y.1 al (0,0)):=j0
  replace kz:Kept Nil v Zc:=kz
  clear_value Zc;obtain⟨Hl,PS,abg,XK⟩:=(hmv.aJ kz (fun h=>h)).put HR y (.agg #[.bool true]);refine⟨y.1,⟨y.2.1,Cells.bV j0⟩,Hl,PS,?_⟩;rw [dH (n:=(q:Int)) (by omega) (by omega)];refine⟨(q:Int)+1,rfl,⟨q+1,_,rfl,eh,abg,fun z=>?_,(kv.trans kz (fun _ _ h=>h.elim)).tt XK⟩,by simp only;omega⟩;rw [bT hy];constructor
  ·intro e
   by_cases hz:z=y
   ·rw [if_pos hz]
   ·rw [if_neg hz]
    exact(Qq z).1 (e.imp (fun h=>h) (fun h=>h.resolve_right hz))
  ·intro e
   rw [if_neg (fun hz=>e (.inr (.inr hz)))];exact(Qq z).2 (fun e'=>e (e'.imp (fun h=>h) (fun h=>.inl h)))
 ·have hqe:q=(eF D [s]).length:=by omega
  subst hqe;rw [List.take_of_length_le (Nat.le_refl _)]at Qq;rw [aX,aG.Oj];unfold aG.GR;have H9:Kept (· =mC.heap.size) mC v:=((Ib.tt G0).mono (S':=(· =mC.heap.size)) (fun _ _ h=>h.elim)).tt kv;have Yi:v.heap[w.heap.size]? =some (.cells hid.1 al (0,0)):=H9.heap (K3.heap RP (fun h=>h)) (fun e=>by omega);have PH:v.heap[w5.heap.size]? =some (.cells s.1 al (0,0)):=H9.heap (K3.heap Ln (fun h=>h)) (fun e=>by omega);have sv:=wT.size;have s2v:=H9.size;refine⟨hid.1,⟨hid.2.1,Cells.bV Yi⟩,?_⟩;refine Mg (hG wT) W (by omega) (hl.same wT) (by omega) hid fun GX S2 F2 WG F5 QJ QN=>⟨_,rfl,?_⟩;rw [qt eC]at WG;have KO:∀k,m.SG k->k<w.heap.size:=fun k e=>h.low k (.inl (.inl e));have s64:=F5.size;have Qh:=F5.heap Yi (fun e=>by have:=KO _ e;omega);have T5:=F5.heap PH (fun e=>by have:=KO _ e;omega);have abf:=hmv.aJ F5 (fun e=>by have:=KO _ e;omega);refine⟨hid.1,⟨hid.2.1,Cells.bV Qh⟩,hid.2.1,?_⟩;intro Hj;have MO:Kept Nil GX Hj:=(Kept.refl _ _).alloc _;have Z8:HS Hj (some ⟨GX.heap.size,0,none⟩) 1 [hid]:=jF GX hid;clear_value Hj;have wZ:∀p∈dB lp,p∈ids D:=fun p hp=>cZ p (dT.1 hp);have W':jX (D++ [⟨hid,dB lp⟩]):=W.snoc (nd:=⟨hid,dB lp⟩) gB wZ (ju lp);obtain⟨bl',c',SU,M',YV⟩:=WG;have OW:∀k,m.own x k->k<w.heap.size:=fun k e=>h.low k (.inl (.inr (.inr (.inr e))));have hTv:sP GX:=(hT.same wT).aJ F5 Kk;refine wj (YV.same MO) W' (by simp;omega) (hTv.same MO) Z8 (by omega) fun A69 c69 DP HG Tp=>⟨A69,_,c69,rfl,?_⟩;have xX:=MO.tt Tp;have ad2:=xX.size;have p2:=nY (D++ [⟨hid,dB lp⟩]) fun a=>∃z∈ [hid],fw (D++ [⟨hid,dB lp⟩]) a z
  change (eF (D++ [⟨hid,dB lp⟩]) [hid]).length<=_ at p2
  rw [List.length_append,List.length_singleton]at p2;have CP:∀y,y∈eF (D++ [⟨hid,dB lp⟩]) [hid]↔fw (D++ [⟨hid,dB lp⟩]) y hid:=fun y=>by
   unfold eF;rw [ki];constructor
   ·rintro⟨_,z,hz,e⟩
    rw [List.mem_singleton]at hz
    rwa [hz]at e
   ·exact fun e=>⟨(e.mem W').1,hid,by simp,e⟩
  have lS:Kept (fun k=>m.SG k) w DP:=((wT.mono (S':=fun k=>m.SG k) (fun _ _ h=>h.elim)).tt F5).trans xX (fun _ _ h=>h.elim);have OU:∀k,m.own x k->¬m.SG k:=fun k e=>(h.od k e).1;have Sm:=lS.heap h.top (OU _ (.inl rfl));have gA:(eF (D++ [⟨hid,dB lp⟩]) [hid]).Nodup:=(ju _).nodup;obtain⟨f0,ab5,ab7⟩:=h.YN;have aep:∀k,m.own x k->¬(k=m.cb)\/k=m.cb:=fun k _=>(Classical.em _).symm;have uy:m.own x m.cb:=.inr (.inr (.inr rfl));have S7:=OW _ uy;generalize rT:eF (D++ [⟨hid,dB lp⟩]) [hid]=pl at HG p2 CP gA⊢;refine aG.iG (I:=fun i u=>∃q:Nat,i=(q:Int)/\q<=pl.length/\Kept (· =m.cb) DP u/\∃f,fU u m.cb f/\∀y,∃l,o5 u (fun k=>m.SO k\/(DP.heap.size<=k/\k<u.heap.size)) (D.length+if y∈pl.take q then 1 else 0) (f y) l/\∀c,c∈l↔Oh D P y c\/(c=hid/\y∈pl.take q/\y≠s/\¬fw D y s))
   (μ:=fun i _=>((pl.length:Int)-i).toNat) (s:=0) ⟨0,rfl,Nat.zero_le _,Kept.refl _ _,f0,ab5.aJ lS (OU _ uy),fun y=>?_⟩ ?_
  ·obtain⟨l,h1,h2⟩:=ab7 y
   refine⟨l,?_,fun c=>?_⟩
   ·rcases h1.aJ lS (fun k e e'=>(h.gt k e').2 e)with h3|⟨A,n,c,g1,g2,g3,g4,g5⟩
    ·exact .inl h3
    ·exact .inr ⟨A,n,c,g1,g2,g3,by omega,fun a ha=>.inl (g5 a ha)⟩
   ·rw [h2]
    simp
  ·rintro i u ⟨q,rfl,RH,ku,ND⟩
   refine GP h hD lS.size Sm (xX.heap Qh (fun h=>h)) (Nat.le_refl _) ((abf.aJ MO (fun h=>h)).aJ Tp (fun h=>h)) (by omega) rfl
    (fun y=>⟨fun e=>(Qq y).1 (e.imp (fun h=>h) (fun h=>(Nk y).2 h)),fun e=>(Qq y).2 (fun e'=>e (e'.imp (fun h=>h) (fun h=>(Nk y).1 h)))⟩)
    (Row.base HG (fun b hb=>by have:=(Row.bV HG hb).1;have:=MO.size;omega)) (by omega) ku RH (Z:=fun _ _=>True) ND gA (hid:=hid) (s:=s) (D':=D) (ps:= []) (fun v' kv' abY dg=>?_) (fun hqe=>?_)
   ·exact⟨(q:Int)+1,rfl,⟨q+1,rfl,dg,kv',abY⟩,by simp only;omega⟩
   ·subst hqe
    rw [aX];unfold aG.e2;rw [aG.Y2];rw [List.take_of_length_le (Nat.le_refl _)]at ND;have H4:Kept (fun k=>m.SG k\/k=m.cb) w u:=(lS.mono (S':=fun k=>m.SG k\/k=m.cb) (fun _ _ h=>.inl h)).trans ku (fun _ _ h=>.inr h);have su:=ku.size;obtain⟨Ro,SL,OT,SK,Rn,SJ⟩:=h.ne;have KP:∀k,F k->k<w.heap.size:=fun k e=>h.low k (.inr e);have acR:GV DP S2 F2 m.g (D++ [⟨hid,dB lp⟩]) (iu (D++ [⟨hid,dB lp⟩])) bl' c' SU M':=YV.same xX;have nS2:∀k,S2 k->¬k=m.cb:=fun k h1 e=>by
     rcases QJ k h1 with h2|h2
     ·exact(h.od _ uy).1 (e▸h2)
     ·omega
    have nF2:∀k,F2 k->¬k=m.cb:=fun k h1 e=>by
     rcases QN k h1 with h2|h2
     ·exact(h.od _ uy).2.2.2 (e▸h2)
     ·omega
    have zq:∀k,m.own x k->k≠m.cb->¬(m.SG k\/k=m.cb):=fun k e fP e'=>e'.elim (OU k e) fP;refine JC (s1:=GX.heap.size) (s2:=DP.heap.size) (S2:=S2) (F2:=F2) (SO2:=fun k=>m.SO k\/(DP.heap.size<=k/\k<u.heap.size)) (mj:=mj) h hD gB wZ (ju lp) hj P3 (dT.2 wF) (H4.heap h.top (zq _ (.inl rfl) OT))
     (Nat.le_refl _) (by omega) (ku.heap (xX.heap Qh (fun h=>h)) (fun e=>by omega)) (ku.heap (xX.heap T5 (fun h=>h)) (fun e=>by omega)) ⟨bl',c',SU,M',acR.aJ ku nS2 nF2⟩
     (h.T.aJ H4 (fun k e e'=>e'.elim (fun e'=>(h.gt k e').1 e) (fun e'=>(h.od _ uy).2.1 (e'▸e)))) (h.at_.aJ H4 (zq _ (.inr (.inl rfl)) Rn)) (Row.aJ h.row H4 (fun k e=>by cases e;exact zq _ (.inr (.inr (.inl rfl))) SJ))
     ?_ (by omega) (by omega) su (fun k e=>⟨(QJ k e).imp (fun h=>h) (fun h=>by omega),YV.low k (.inl e)⟩) (fun k e=>⟨(QN k e).imp (fun h=>h) (fun h=>by omega),YV.low k (.inr e)⟩) (fun k e=>e)
     (H4.mono (S':=fun k=>m.kX x k) (fun k _ e=>e.elim (fun e=>.inl e) (fun e=>.inr (.inr (.inr (.inr (.inr (.inr e)))))))) (fun u2 S' F' hI kU hSu NV=>?_)
    ·obtain⟨f,hf,hc⟩:=ND
     refine⟨f,hf,fun y=>?_⟩;obtain⟨l,h1,h2⟩:=hc y;refine⟨l,?_,fun c=>?_⟩
     ·rcases h1 with h3|⟨A,n,c,g1,g2,g3,g4,g5⟩
      ·exact .inl h3
      ·refine .inr ⟨A,n,c,g1,g2,g3,?_,g5⟩
       split at g4<;>omega
     ·rw [h2,Jr W h.np (nd:=⟨hid,dB lp⟩) gB wZ hj,P3]
      constructor
      ·rintro(h3|⟨h3,h4,h5,h6⟩)
       ·exact .inl h3
       ·exact .inr ⟨h3,(CP y).1 h4,h5,h6⟩
      ·rintro(h3|⟨h3,h4,h5,h6⟩)
       ·exact .inl h3
       ·exact .inr ⟨h3,(CP y).2 h4,h5,h6⟩
    ·refine wW u2 S' F' ?_ kU hSu NV eX
     rw [eD,eP];exact hI
end
def fz:HT:=hx 0 (by decide)
def dD(D:DG)(P:List Int)(h:HT)(l:List HT):Prop:=(h∉ids D/\l= [])\/∃(i:Nat) (nd:DN) (ks:List Nat),D[i]? =some nd/\nd.id=h/\Up P i ks/\l=ks.map (o8 D)
theorem oo{D:DG}{i:Nat}{nd:DN}(h:D[i]? =some nd):o8 D i=nd.id:=by unfold o8;rw [h]
theorem dD.ex{D:DG}{P:List Int}(H:sS D P)(h:HT):∃l,dD D P h l:=by
 by_cases hm:h∈ids D
 ·obtain⟨nd,gA,e⟩:=dI.1 hm
  obtain⟨i,hi⟩:=List.mem_iff_getElem?.1 gA;obtain⟨ks,hk⟩:=Up.ex H.par i (by rw [H.len];exact(lgeS hi).1);exact⟨_,.inr ⟨i,nd,ks,hi,e,hk,rfl⟩⟩
 ·exact⟨[],.inl ⟨hm,rfl⟩⟩
theorem dD.mem{D:DG}{P:List Int}(W:jX D)(H:sS D P){h:HT}{l:List HT}(c:dD D P h l){a:HT}:a∈l↔Ch D P a h:=by
 rcases c with⟨h1,rfl⟩|⟨i,nd,ks,h1,rfl,h3,rfl⟩
 ·simp only [List.not_mem_nil,false_iff]
  exact fun e=>h1 e.mem.2
 ·have eh:i<P.length:=by rw [H.len];exact(lgeS h1).1
  rw [List.mem_map];constructor
  ·rintro⟨k,hk,rfl⟩
   have hu:=(h3.mem H.par eh).1 hk;have CT:=hu.XA;rw [H.len]at CT;obtain⟨nk,RL⟩:∃nk,D[k]? =some nk:=⟨_,List.getElem?_eq_getElem CT⟩;exact⟨i,k,nd,nk,h1,rfl,RL,(oo RL).symm,hu⟩
  ·rintro⟨i',k,ni,nk,g1,g2,g3,g4,g5⟩
   have:=W.inj g1 h1 g2;subst this;exact⟨k,(h3.mem H.par eh).2 g5,by rw [oo g3,g4]⟩
theorem dD.one{D:DG}{P:List Int}(W:jX D)(H:sS D P){h:HT}{l l':List HT}(c:dD D P h l)(c':dD D P h l'):l=l':=by
 rcases c with⟨h1,rfl⟩|⟨i,nd,ks,h1,h2,h3,rfl⟩
 ·rcases c' with⟨_,rfl⟩|⟨i,nd,ks,g1,g2,_,_⟩
  ·rfl
  ·exact absurd (dI.2 ⟨nd,List.mem_of_getElem? g1,g2⟩) h1
 ·rcases c' with⟨g1,rfl⟩|⟨i',nd',ks',g1,g2,g3,rfl⟩
  ·exact absurd (dI.2 ⟨nd,List.mem_of_getElem? h1,h2⟩) g1
  ·have:=W.inj h1 g1 (by rw [h2,g2])
   subst this;rw [Up.one H.par h3 g3]
section
variable{w w':World}{F S:Nat->Prop}{x:Nat}{D:DG}{P:List Int}{m:XM}{K:Value->World->Prop}
theorem XV.OL(h:XV w F x D P m){i:Nat}{nd:DN}(hi:D[i]? =some nd):Cells w ((⟨m.ib,0,none⟩:Addr).add (i*32)) nd.id.1:=by
 obtain⟨a,ha,_,hc⟩:=(cC.hs h.row).at_ i nd.id (qE hi);cases ha;exact hc
theorem XV.HN(h:XV w F x D P m){i:Nat}{nd:DN}(hi:D[i]? =some nd):∃td,m.T[i]? =some td/\P[i]? =some td.parent:=by
 have eh:=(lgeS hi).1;obtain⟨td,XX⟩:=Tr.gE (T:=m.T) (i:=i) (by rw [h.OE];exact eh);exact⟨td,XX,by rw [<-h.b9];exact Tr.lR XX⟩
theorem tR(a:HT)(hK:∀w' pb qb,Kept Nil w w'->w'.heap[pb]? =some (.cells #[.pointer (some ⟨x,0,none⟩)] gJ (0,0))->w'.heap[qb]? =some (.cells a.1 al (0,0))->w.heap.size<=pb->w.heap.size<=qb->K (.func (.func br.id) #[] #[.pointer (some ⟨pb,0,none⟩),.pointer (some ⟨qb,0,none⟩)]) w'):
 bD prog gv.id #[.pointer (some ⟨x,0,none⟩),.agg a.1] w K:=by
 refine gv.of ?_;unfold gv.W;intro w3 w4;have k3:Kept Nil w w3:=(Kept.refl _ _).alloc _;have hp3:w3.heap[w.heap.size]? =some (.cells #[.pointer (some ⟨x,0,none⟩)] gJ (0,0)):=aM w _;have k4:Kept Nil w3 w4:=(Kept.refl _ _).alloc _;have hq4:w4.heap[w3.heap.size]? =some (.cells a.1 al (0,0)):=aM w3 _;clear_value w4;exact hK w4 _ _ (k3.tt k4) (k4.heap hp3 (fun h=>h)) hq4 (Nat.le_refl _) k3.size
theorem DU{pb qb:Nat}{a:HT}{l:List HT}(hl:dD D P a l)(hD:D.length<=5000):
 oB prog br.id #[] #[.pointer (some ⟨pb,0,none⟩),.pointer (some ⟨qb,0,none⟩)] (l.map sF) (fun w=>XV w F x D P m/\w.heap[pb]? =some (.cells #[.pointer (some ⟨x,0,none⟩)] gJ (0,0))/\w.heap[qb]? =some (.cells a.1 al (0,0))):=by
 intro y I Q w0 hI hQ sC h0 rD;obtain⟨hX,RJ,Ul⟩:=sC 0 w0 h0;have W:=hX.W;have oL:=hX.np;refine br.of ?_;unfold br.W;refine⟨_,by rw [aE RJ];rfl,a.1,⟨a.2.1,Cells.bV Ul⟩,a.2.1,?_⟩;intro w6;have k6:Kept Nil w0 w6:=(Kept.refl _ _).alloc _;have qd:HS w6 (some ⟨w0.heap.size,0,none⟩) 1 [a]:=jF w0 a;clear_value w6;refine qD (hX.same k6) qd (by omega) fun w8 k8=>⟨_,rfl,?_⟩;have zu:=k6.tt k8;rcases hl with⟨mG,rfl⟩|⟨i,nd,ks,hi,hid,hup,rfl⟩
 ·exact Split.yes (by rw [decide_eq_false (by simpa using mG)];rfl) (.inl (hI 0 w0 w8 h0 zu))
 ·have hm:a∈ids D:=dI.2 ⟨nd,List.mem_of_getElem? hi,hid⟩
  refine Split.no (by rw [decide_eq_true (by simpa using hm)];rfl) ?_;intro w10;have rR:Kept Nil w8 w10:=(Kept.refl _ _).drew;clear_value w10;have CC:=zu.tt rR;have uO:=hX.same CC;have lk:=uO.at_.xT a;rw [<-hid,W.pos_eq hi]at lk;rw [hid]at lk;refine⟨some ⟨x,0,none⟩,by rw [aE (CC.heap RJ (fun h=>h))];rfl,_,uO.c2,a.1,⟨a.2.1,Cells.bV (CC.heap Ul (fun h=>h))⟩,_,lk,?_⟩;have eh:i<P.length:=by rw [oL.len];exact(lgeS hi).1
  have Us:=oL.par;refine br.cJ (I:=fun s v=>∃(k:Nat) (dn rs:List Nat),s=(k:Int)/\ks=dn++rs/\Up P k rs/\k<P.length/\I dn.length v) (μ:=fun s _=>s.toNat) (s:=((i:Nat):Int)) ⟨i,[],ks,rfl,rfl,hup,eh,hI 0 w0 w10 h0 CC⟩ ?_;rintro s v ⟨k,dn,rs,rfl,hks,hur,CT,hv⟩;obtain⟨hXv,Um,hqv⟩:=sC _ v hv;rw [oL.len]at CT;obtain⟨nk,RL⟩:∃nk,D[k]? =some nk:=⟨_,List.getElem?_eq_getElem CT⟩;refine⟨some ⟨x,0,none⟩,by rw [aE Um];rfl,_,_,_,hXv.c3,⟨by omega,by omega⟩,nk.id.1,⟨nk.id.2.1,by rw [Int.toNat_natCast];exact hXv.OL RL⟩,?_⟩;have gR:((ks.map (o8 D)).map sF)[dn.length]? =some (sF nk.id):=by
   rw [List.getElem?_map,List.getElem?_map,hks,List.getElem?_append_right (Nat.le_refl _),Nat.sub_self,hur.head];simp [oo RL]
  refine(rD dn.length (sF nk.id) v gR hv).mono ?_;rintro b v' ⟨ht,hf⟩;cases b with
  |false=>
   refine Split.no rfl ?_;rw [aX,br.dv];exact .inr (hf rfl)
  |true=>
   refine Split.yes rfl ?_;have hI1:=ht rfl;cases hur with
   |root=>
    refine Split.no rfl ?_;rw [aX,br.dv];refine .inl ?_;rw [List.length_map,List.length_map,hks,List.length_append];exact hI1
   | @step _ j rs' hj Lk=>
     have Yh:=(Tr.jw Us (Tr.fp.2 hj)).1;refine Split.yes (decide_eq_true (by omega)) ?_;obtain⟨QI,aaU,_⟩:=sC _ v' hI1;obtain⟨td,XX,htp⟩:=QI.HN RL;rw [hj]at htp;have aaq:(j:Int)=td.parent:=by simpa using htp
     refine⟨some ⟨x,0,none⟩,by rw [aE aaU];rfl,_,QI.c1,Tr.zP QI.T XX (by omega) ⟨_,_,rfl,?_⟩⟩;rw [<-aaq];refine⟨(j:Int),rfl,⟨j,dn++ [k],rs',rfl,by rw [hks];simp,Lk,by rw [oL.len];omega,?_⟩,by simp only;omega⟩;rw [List.length_append];exact hI1
end
structure XN(w v:World)(r:HT)(own:Nat->Nat)(G T E I Z:Option Nat)(l:List HT):Prop where
 kp:Kept Nil w v
 gr:∀g,G=some g->∃SG,DK v SG (fun _=>False) g [⟨r,[]⟩]/\∀k,SG k->w.heap.size<=k/\own k=1
 tr:∀t,T=some t->∃ST,Tr.pD v ST t Tr.qO 0/\∀k,ST k->w.heap.size<=k/\k<v.heap.size/\own k=2
 mp:∀b,E=some b->w.heap.size<=b/\own b=3/\IsMap v b l
 il:∀b,I=some b->w.heap.size<=b/\own b=4/\v.heap[b]? =some (.cells (r.1.toList++ []).toArray al (0,0))
 cv:∀b,Z=some b->w.heap.size<=b/\own b=5/\fU v b (fun _=>none)
def tag(n t:Nat)(own:Nat->Nat)(k:Nat):Nat:=if n<=k then t else own k
theorem rW{n t k:Nat}{own:Nat->Nat}(h:k<n):tag n t own k=own k:=by unfold tag;rw [if_neg (by omega)]
theorem rX{n t k:Nat}{own:Nat->Nat}(h:n<=k):tag n t own k=t:=by unfold tag;rw [if_pos h]
section
variable{w v v':World}{r:HT}{own:Nat->Nat}{G T E I Z:Option Nat}{l:List HT}{K:Value->World->Prop}
theorem XN.grow(h:XN w v r own G T E I Z l)(t:Nat)(k:Kept Nil v v'):XN w v' r (tag v.heap.size t own) G T E I Z l:=by
 have hs:=k.size;refine⟨h.kp.tt k,fun g e=>?_,fun g e=>?_,fun b e=>?_,fun b e=>?_,fun b e=>?_⟩
 ·obtain⟨SG,h1,h2⟩:=h.gr g e
  exact⟨SG,h1.same k,fun q hq=>⟨(h2 q hq).1,by rw [rW (by obtain⟨bl,c,mb,M,G⟩:=h1;exact G.low q (.inl hq))];exact(h2 q hq).2⟩⟩
 ·obtain⟨ST,h1,h2⟩:=h.tr g e
  exact⟨ST,h1.same k,fun q hq=>⟨(h2 q hq).1,by have:=(h2 q hq).2.1;omega,by rw [rW (h2 q hq).2.1];exact(h2 q hq).2.2⟩⟩
 ·obtain⟨h1,h2,h3⟩:=h.mp b e
  exact⟨h1,by rw [rW h3.lt];exact h2,h3.aJ k (fun h=>h)⟩
 ·obtain⟨h1,h2,h3⟩:=h.il b e
  exact⟨h1,by rw [rW (aY h3)];exact h2,k.heap h3 (fun h=>h)⟩
 ·obtain⟨h1,h2,h3⟩:=h.cv b e
  exact⟨h1,by rw [rW h3.lt];exact h2,h3.aJ k (fun h=>h)⟩
theorem XN.eo(h:XN w v r own none T E I Z l){gb:Nat}(hG:DK v' (fun k=>v.heap.size<=k/\k<v'.heap.size) (fun _=>False) gb [⟨r,[]⟩])(k:Kept Nil v v'):XN w v' r (tag v.heap.size 1 own) (some gb) T E I Z l:=by
 have g:=h.grow 1 k;refine⟨g.kp,?_,g.tr,g.mp,g.il,g.cv⟩;intro g' e;cases e;have:=h.kp.size;exact⟨_,hG,fun q hq=>⟨by omega,rX hq.1⟩⟩
theorem XN.uD(h:XN w v r own G none E I Z l){t:Nat}(hT:Tr.pD v' (fun k=>v.heap.size<=k) t Tr.qO 0)(k:Kept Nil v v'):XN w v' r (tag v.heap.size 2 own) G (some t) E I Z l:=by
 have g:=h.grow 2 k;refine⟨g.kp,g.gr,?_,g.mp,g.il,g.cv⟩;intro t' e;cases e;have:=h.kp.size;exact⟨_,tJ hT,fun q hq=>⟨by omega,hq.2,rX hq.1⟩⟩
theorem XN.uE(h:XN w v r own G T none I Z []):XN w (v.alloc (.map #[] 0)) r (tag v.heap.size 3 own) G T (some v.heap.size) I Z []:=by
 have g:=h.grow 3 ((Kept.refl Nil v).alloc (.map #[] 0));refine⟨g.kp,g.gr,g.tr,?_,g.il,g.cv⟩;intro b e;cases e;exact⟨h.kp.size,rX (Nat.le_refl _),⟨#[],0,aM v _,trivial⟩⟩
theorem XN.po(h:XN w v r own G T E none Z l):XN w (v.alloc (.cells (r.1.toList++ []).toArray al)) r (tag v.heap.size 4 own) G T E (some v.heap.size) Z l:=by
 have g:=h.grow 4 ((Kept.refl Nil v).alloc (.cells (r.1.toList++ []).toArray al));refine⟨g.kp,g.gr,g.tr,g.mp,?_,g.cv⟩;intro b e;cases e;exact⟨h.kp.size,rX (Nat.le_refl _),aM v _⟩
theorem XN.ph(h:XN w v r own G T E I none l):XN w (v.alloc (.map #[] 0)) r (tag v.heap.size 5 own) G T E I (some v.heap.size) l:=by
 have g:=h.grow 5 ((Kept.refl Nil v).alloc (.map #[] 0));refine⟨g.kp,g.gr,g.tr,g.mp,g.il,?_⟩;intro b e;cases e;exact⟨h.kp.size,rX (Nat.le_refl _),fU.new v⟩
theorem XN.put{mb:Nat}(h:XN w v r own G T (some mb) I Z []):∃v',(Instr.mapUpdate cU (.map (some mb)) (.agg r.1) (.int .i64 0)).run prog v=.ok () v'/\XN w v' r own G T (some mb) I Z [r]:=by
 obtain⟨h1,h2,h3⟩:=h.mp mb rfl;obtain⟨v',hr,hm,hk⟩:=h3.put (h:=r) (by simp);refine⟨v',hr,(h.kp.trans hk (fun k hk e=>by omega)),fun g e=>?_,fun g e=>?_,fun b e=>?_,fun b e=>?_,fun b e=>?_⟩
 ·obtain⟨SG,g1,g2⟩:=h.gr g e
  exact⟨SG,g1.aJ hk (fun q hq e=>by have:=(g2 q hq).2;rw [e,h2]at this;cases this) (fun q hq=>hq.elim),g2⟩
 ·obtain⟨ST,g1,g2⟩:=h.tr g e
  exact⟨ST,g1.aJ hk (fun q hq e=>by have:=(g2 q hq).2.2;rw [e,h2]at this;cases this),fun q hq=>⟨(g2 q hq).1,Nat.lt_of_lt_of_le (g2 q hq).2.1 hk.size,(g2 q hq).2.2⟩⟩
 ·cases e
  exact⟨h1,h2,hm⟩
 ·obtain⟨g1,g2,g3⟩:=h.il b e
  exact⟨g1,g2,hk.heap g3 (fun e=>by rw [e,h2]at g2;cases g2)⟩
 ·obtain⟨g1,g2,g3⟩:=h.cv b e
  exact⟨g1,g2,g3.aJ hk (fun e=>by rw [e,h2]at g2;cases g2)⟩
theorem XN.fin{g t mb ib cb:Nat}{w0:World}(h:XN w v r own (some g) (some t) (some mb) (some ib) (some cb) [r])(hw:w0.heap.size<=w.heap.size):
 DJ (v.alloc (.cells #[.pointer (some ⟨g,0,none⟩),.pointer (some ⟨t,0,none⟩),.map (some mb),.slice (some ⟨ib,0,none⟩) 1 1,.map (some cb)] eT)) (fun k=>w0.heap.size<=k/\k<(v.alloc (.cells #[.pointer (some ⟨g,0,none⟩),.pointer (some ⟨t,0,none⟩),.map (some mb),.slice (some ⟨ib,0,none⟩) 1 1,.map (some cb)] eT)).heap.size) (fun _=>False) v.heap.size [⟨r,[]⟩] [-1]:=by
 have jE:=aM v (.cells #[.pointer (some ⟨g,0,none⟩),.pointer (some ⟨t,0,none⟩),.map (some mb),.slice (some ⟨ib,0,none⟩) 1 1,.map (some cb)] eT);have kx:=(Kept.refl Nil v).alloc (.cells #[.pointer (some ⟨g,0,none⟩),.pointer (some ⟨t,0,none⟩),.map (some mb),.slice (some ⟨ib,0,none⟩) 1 1,.map (some cb)] eT);have hx:=aY jE;generalize v.alloc (.cells #[.pointer (some ⟨g,0,none⟩),.pointer (some ⟨t,0,none⟩),.map (some mb),.slice (some ⟨ib,0,none⟩) 1 1,.map (some cb)] eT)=u at jE kx hx;obtain⟨SG,hG,gG⟩:=h.gr g rfl;obtain⟨ST,hT,gT⟩:=h.tr t rfl;obtain⟨m1,m2,m3⟩:=h.mp mb rfl;obtain⟨i1,i2,i3⟩:=h.il ib rfl;obtain⟨c1,c2,c3⟩:=h.cv cb rfl;have oM:∀k,SG k->k<v.heap.size:=fun k e=>by obtain⟨bl,c,mb,M,G⟩:=hG;exact G.low k (.inl e)
 have sw:=h.kp.size;have lm:=m3.lt;have li:=aY i3;have lc:=c3.lt;have C0:∀ {a b:HT},¬fw [(⟨r,[]⟩:DN)] a b:=Ae r;refine⟨⟨g,t,mb,ib,1,cb,Tr.qO,0,SG,ST,fun _=>False⟩,⟨jE,hG.same kx,hT.same kx,Tr.Ck,rfl,⟨Int.le_refl 0,by show(0:Int)<=_;simp⟩,m3.aJ kx (fun h=>h),?_,⟨_,c3.aJ kx (fun h=>h),fun y=>⟨[],.inl ⟨rfl,rfl⟩,fun c=>?_⟩⟩,?_,jX.root r,?_,?_,?_,?_,?_,?_⟩,?_⟩
 ·have e:dt [r]=(r.1.toList++ []).toArray.toList:=by simp [dt]
  show Row _ _ _ _ _ _ _ (dt [r])
  rw [e];exact Row.made (kx.heap i3 (fun h=>h)) (Nat.zero_le _) (by simp [r.2.1]) (by show 1<=maxLen;decide)
 ·simp only [List.not_mem_nil,false_iff]
  exact fun hc=>C0 hc.1
 ·refine⟨rfl,rfl,fun i p nd hi hp=>?_⟩
  cases i with
  |zero=>omega
  |succ i=>simp at hp
 ·exact fun k e=>⟨fun e'=>by have:=(gG k e).2;have:=(gT k e').2.2;omega,fun e'=>e'.elim⟩
 ·exact fun k e e'=>e'.elim
 ·exact fun k e=>e.elim
 ·intro k e
  have key:v.heap.size<=k\/3<=own k:=by
   rcases e with e|e|e|e
   ·exact .inl (by omega)
   ·exact .inr (by have e:k=mb:=e;rw [e];omega)
   ·exact .inr (by have e:k=ib:=e;rw [e];omega)
   ·exact .inr (by have e:k=cb:=e;rw [e];omega)
  refine⟨fun e'=>?_,fun e'=>?_,fun e'=>e'.elim,fun e'=>e'.elim⟩
  ·have h1:=(gG k e').2
   have h2:=oM k e';omega
  ·have h1:=(gT k e').2.2
   have h2:=(gT k e').2.1;omega
 ·refine⟨by show v.heap.size≠mb;omega,by show v.heap.size≠ib;omega,by show v.heap.size≠cb;omega,fun e=>?_,fun e=>?_,fun e=>?_⟩
  ·have e:mb=ib:=e
   rw [e]at m2;omega
  ·have e:mb=cb:=e
   rw [e]at m2;omega
  ·have e:ib=cb:=e
   rw [e]at i2;omega
 ·intro k e
  rcases e with e|e
  ·rcases e with e|e|e|e
   ·have:=oM k e;omega
   ·have:=(gT k e).2.1;omega
   ·exact e.elim
   ·rcases e with e|e|e|e
    ·omega
    ·have e:k=mb:=e;omega
    ·have e:k=ib:=e;omega
    ·have e:k=cb:=e;omega
  ·exact e.elim
 ·intro k e
  rcases e with e|e|e|e
  ·have:=oM k e;have:=(gG k e).1;omega
  ·have:=(gT k e).1;have:=(gT k e).2.1;omega
  ·exact e.elim
  ·rcases e with e|e|e|e
   ·omega
   ·have e:k=mb:=e;omega
   ·have e:k=ib:=e;omega
   ·have e:k=cb:=e;omega
structure XD(w o:World)(r:HT)(K:Value->World->Prop):Prop where
 cs:∀ {v:World},Kept Nil o v->∃cs:Array Value,(.agg r.1:Value)=.agg cs/\cs.size=32/\Cells v (aU w.heap.size) cs
 fin:∀ {v:World} {own:Nat->Nat} {g t mb ib cb:Nat},XN o v r own (some g) (some t) (some mb) (some ib) (some cb) [r]->K (.pointer (some ⟨v.heap.size,0,none⟩)) (v.alloc (.cells #[.pointer (some ⟨g,0,none⟩),.pointer (some ⟨t,0,none⟩),.map (some mb),.slice (some ⟨ib,0,none⟩) 1 1,.map (some cb)] eT))
end
section
variable{w o v e i z:World}{r:HT}{own:Nat->Nat}{g t:Nat}{K:Value->World->Prop}
theorem n1(D:XD w o r K)(h:XN o v r own (some g) (some t) (some e.heap.size) (some i.heap.size) (some z.heap.size) [r]):az.N1 (some ⟨g,0,none⟩) (some ⟨t,0,none⟩) e i z K v:=by
 unfold az.N1;exact D.fin h
theorem n2(D:XD w o r K)(h:XN o v r own (some g) (some t) (some e.heap.size) (some i.heap.size) none [r]):az.N2 (some ⟨g,0,none⟩) (some ⟨t,0,none⟩) e i K v:=by
 unfold az.N2;exact let n:=h.ph;n1 D n
theorem n3(D:XD w o r K)(h:XN o v r own (some g) (some t) (some e.heap.size) none (some z.heap.size) [r]):az.N3 r.1 (some ⟨g,0,none⟩) (some ⟨t,0,none⟩) e z K v:=by
 unfold az.N3;exact let n:=h.po;⟨r.2.1,n1 D n⟩
theorem n4(D:XD w o r K)(h:XN o v r own (some g) (some t) (some e.heap.size) none none [r]):az.N4 r.1 (some ⟨g,0,none⟩) (some ⟨t,0,none⟩) e w K v:=by
 unfold az.N4;exact⟨(let n:=h.po;⟨r.2.1,n2 D n⟩),(let n:=h.ph;⟨D.cs n.kp,n3 D n⟩)⟩
theorem n5(D:XD w o r K)(h:XN o v r own (some g) (some t) (some e.heap.size) (some i.heap.size) (some z.heap.size) []):az.N5 e r.1 (some ⟨g,0,none⟩) (some ⟨t,0,none⟩) i z K v:=by
 unfold az.N5;exact let ⟨u,q,n⟩:=h.put;⟨u,q,n1 D n⟩
theorem n6(D:XD w o r K)(h:XN o v r own (some g) (some t) (some e.heap.size) (some i.heap.size) none []):az.N6 e r.1 (some ⟨g,0,none⟩) (some ⟨t,0,none⟩) i w K v:=by
 unfold az.N6;exact⟨(let ⟨u,q,n⟩:=h.put;⟨u,q,n2 D n⟩),(let n:=h.ph;⟨D.cs n.kp,n5 D n⟩)⟩
theorem n7(D:XD w o r K)(h:XN o v r own (some g) (some t) (some e.heap.size) none (some z.heap.size) []):az.N7 e r.1 r.1 w (some ⟨g,0,none⟩) (some ⟨t,0,none⟩) z K v:=by
 unfold az.N7;exact⟨(let ⟨u,q,n⟩:=h.put;⟨u,q,D.cs n.kp,n3 D n⟩),(let n:=h.po;⟨r.2.1,D.cs n.kp,n5 D n⟩)⟩
theorem n8(D:XD w o r K)(h:XN o v r own (some g) (some t) (some e.heap.size) none none []):az.N8 e r.1 r.1 w (some ⟨g,0,none⟩) (some ⟨t,0,none⟩) K v:=by
 unfold az.N8;exact⟨(let ⟨u,q,n⟩:=h.put;⟨u,q,D.cs n.kp,n4 D n⟩),(let n:=h.po;⟨r.2.1,D.cs n.kp,n6 D n⟩),(let n:=h.ph;⟨D.cs n.kp,D.cs n.kp,n7 D n⟩)⟩
theorem n9(D:XD w o r K)(h:XN o v r own (some g) (some t) none (some i.heap.size) (some z.heap.size) []):az.N9 r.1 w (some ⟨g,0,none⟩) (some ⟨t,0,none⟩) i z K v:=by
 unfold az.N9;exact let n:=h.uE;⟨D.cs n.kp,n5 D n⟩
theorem n10(D:XD w o r K)(h:XN o v r own (some g) (some t) none (some i.heap.size) none []):az.Sc r.1 w (some ⟨g,0,none⟩) (some ⟨t,0,none⟩) i K v:=by
 unfold az.Sc;exact⟨(let n:=h.uE;⟨D.cs n.kp,n6 D n⟩),(let n:=h.ph;⟨D.cs n.kp,n9 D n⟩)⟩
theorem n11(D:XD w o r K)(h:XN o v r own (some g) (some t) none none (some z.heap.size) []):az.YU r.1 w r.1 (some ⟨g,0,none⟩) (some ⟨t,0,none⟩) z K v:=by
 unfold az.YU;exact⟨(let n:=h.uE;⟨D.cs n.kp,D.cs n.kp,n7 D n⟩),(let n:=h.po;⟨r.2.1,D.cs n.kp,n9 D n⟩)⟩
theorem n12(D:XD w o r K)(h:XN o v r own (some g) (some t) none none none []):az.Re r.1 w r.1 (some ⟨g,0,none⟩) (some ⟨t,0,none⟩) K v:=by
 unfold az.Re;exact⟨(let n:=h.uE;⟨D.cs n.kp,D.cs n.kp,n8 D n⟩),(let n:=h.po;⟨r.2.1,D.cs n.kp,n10 D n⟩),(let n:=h.ph;⟨D.cs n.kp,D.cs n.kp,n11 D n⟩)⟩
theorem n13(D:XD w o r K)(h:XN o v r own (some g) none (some e.heap.size) (some i.heap.size) (some z.heap.size) [r]):az.Mt (some ⟨g,0,none⟩) e i z K v:=by
 unfold az.Mt;exact Tr.fh fun _ _ q k=>let n:=h.uD q k;⟨_,rfl,n1 D n⟩
theorem n14(D:XD w o r K)(h:XN o v r own (some g) none (some e.heap.size) (some i.heap.size) none [r]):az.Rc (some ⟨g,0,none⟩) e i K v:=by
 unfold az.Rc;exact⟨(Tr.fh fun _ _ q k=>let n:=h.uD q k;⟨_,rfl,n2 D n⟩),(let n:=h.ph;n13 D n)⟩
theorem n15(D:XD w o r K)(h:XN o v r own (some g) none (some e.heap.size) none (some z.heap.size) [r]):az.Xn r.1 w (some ⟨g,0,none⟩) e z K v:=by
 unfold az.Xn;exact⟨(Tr.fh fun _ _ q k=>let n:=h.uD q k;⟨_,rfl,D.cs n.kp,n3 D n⟩),(let n:=h.po;⟨r.2.1,n13 D n⟩)⟩
theorem n16(D:XD w o r K)(h:XN o v r own (some g) none (some e.heap.size) none none [r]):az.Sb r.1 w (some ⟨g,0,none⟩) e K v:=by
 unfold az.Sb;exact⟨(Tr.fh fun _ _ q k=>let n:=h.uD q k;⟨_,rfl,D.cs n.kp,n4 D n⟩),(let n:=h.po;⟨r.2.1,n14 D n⟩),(let n:=h.ph;⟨D.cs n.kp,n15 D n⟩)⟩
theorem n17(D:XD w o r K)(h:XN o v r own (some g) none (some e.heap.size) (some i.heap.size) (some z.heap.size) []):az.Sa r.1 w e (some ⟨g,0,none⟩) i z K v:=by
 unfold az.Sa;exact⟨(Tr.fh fun _ _ q k=>let n:=h.uD q k;⟨_,rfl,D.cs n.kp,n5 D n⟩),(let ⟨u,q,n⟩:=h.put;⟨u,q,n13 D n⟩)⟩
theorem n18(D:XD w o r K)(h:XN o v r own (some g) none (some e.heap.size) (some i.heap.size) none []):az.Xm r.1 w e (some ⟨g,0,none⟩) i K v:=by
 unfold az.Xm;exact⟨(Tr.fh fun _ _ q k=>let n:=h.uD q k;⟨_,rfl,D.cs n.kp,n6 D n⟩),(let ⟨u,q,n⟩:=h.put;⟨u,q,n14 D n⟩),(let n:=h.ph;⟨D.cs n.kp,n17 D n⟩)⟩
theorem n19(D:XD w o r K)(h:XN o v r own (some g) none (some e.heap.size) none (some z.heap.size) []):az.Kr r.1 w r.1 e (some ⟨g,0,none⟩) z K v:=by
 unfold az.Kr;exact⟨(Tr.fh fun _ _ q k=>let n:=h.uD q k;⟨_,rfl,D.cs n.kp,D.cs n.kp,n7 D n⟩),(let ⟨u,q,n⟩:=h.put;⟨u,q,D.cs n.kp,n15 D n⟩),(let n:=h.po;⟨r.2.1,D.cs n.kp,n17 D n⟩)⟩
theorem n20(D:XD w o r K)(h:XN o v r own (some g) none (some e.heap.size) none none []):az.Og r.1 w r.1 e (some ⟨g,0,none⟩) K v:=by
 unfold az.Og;exact⟨(Tr.fh fun _ _ q k=>let n:=h.uD q k;⟨_,rfl,D.cs n.kp,D.cs n.kp,n8 D n⟩),(let ⟨u,q,n⟩:=h.put;⟨u,q,D.cs n.kp,n16 D n⟩),(let n:=h.po;⟨r.2.1,D.cs n.kp,n18 D n⟩),(let n:=h.ph;⟨D.cs n.kp,D.cs n.kp,n19 D n⟩)⟩
theorem n21(D:XD w o r K)(h:XN o v r own (some g) none none (some i.heap.size) (some z.heap.size) []):az.Of r.1 w (some ⟨g,0,none⟩) i z K v:=by
 unfold az.Of;exact⟨(Tr.fh fun _ _ q k=>let n:=h.uD q k;⟨_,rfl,D.cs n.kp,n9 D n⟩),(let n:=h.uE;⟨D.cs n.kp,n17 D n⟩)⟩
theorem n22(D:XD w o r K)(h:XN o v r own (some g) none none (some i.heap.size) none []):az.R9 r.1 w (some ⟨g,0,none⟩) i K v:=by
 unfold az.R9;exact⟨(Tr.fh fun _ _ q k=>let n:=h.uD q k;⟨_,rfl,D.cs n.kp,n10 D n⟩),(let n:=h.uE;⟨D.cs n.kp,n18 D n⟩),(let n:=h.ph;⟨D.cs n.kp,n21 D n⟩)⟩
theorem n23(D:XD w o r K)(h:XN o v r own (some g) none none none (some z.heap.size) []):az.YT r.1 w r.1 (some ⟨g,0,none⟩) z K v:=by
 unfold az.YT;exact⟨(Tr.fh fun _ _ q k=>let n:=h.uD q k;⟨_,rfl,D.cs n.kp,D.cs n.kp,n11 D n⟩),(let n:=h.uE;⟨D.cs n.kp,D.cs n.kp,n19 D n⟩),(let n:=h.po;⟨r.2.1,D.cs n.kp,n21 D n⟩)⟩
theorem n24(D:XD w o r K)(h:XN o v r own (some g) none none none none []):az.Xl r.1 w r.1 (some ⟨g,0,none⟩) K v:=by
 unfold az.Xl;exact⟨(Tr.fh fun _ _ q k=>let n:=h.uD q k;⟨_,rfl,D.cs n.kp,D.cs n.kp,n12 D n⟩),(let n:=h.uE;⟨D.cs n.kp,D.cs n.kp,n20 D n⟩),(let n:=h.po;⟨r.2.1,D.cs n.kp,n22 D n⟩),(let n:=h.ph;⟨D.cs n.kp,D.cs n.kp,n23 D n⟩)⟩
theorem n25(D:XD w o r K)(h:XN o v r own none none (some e.heap.size) (some i.heap.size) (some z.heap.size) [r]):az.Xk r.1 e i z K v:=by
 unfold az.Xk;exact gH r fun _ _ q k=>let n:=h.eo q k;⟨_,rfl,n13 D n⟩
theorem n26(D:XD w o r K)(h:XN o v r own none none (some e.heap.size) (some i.heap.size) none [r]):az.YR r.1 e i w K v:=by
 unfold az.YR;exact⟨(gH r fun _ _ q k=>let n:=h.eo q k;⟨_,rfl,n14 D n⟩),(let n:=h.ph;⟨D.cs n.kp,n25 D n⟩)⟩
theorem n27(D:XD w o r K)(h:XN o v r own none none (some e.heap.size) none (some z.heap.size) [r]):az.Rb r.1 r.1 w e z K v:=by
 unfold az.Rb;exact⟨(gH r fun _ _ q k=>let n:=h.eo q k;⟨_,rfl,D.cs n.kp,n15 D n⟩),(let n:=h.po;⟨r.2.1,D.cs n.kp,n25 D n⟩)⟩
theorem n28(D:XD w o r K)(h:XN o v r own none none (some e.heap.size) none none [r]):az.N28 r.1 r.1 w e K v:=by
 unfold az.N28;exact⟨(gH r fun _ _ q k=>let n:=h.eo q k;⟨_,rfl,D.cs n.kp,n16 D n⟩),(let n:=h.po;⟨r.2.1,D.cs n.kp,n26 D n⟩),(let n:=h.ph;⟨D.cs n.kp,D.cs n.kp,n27 D n⟩)⟩
theorem n29(D:XD w o r K)(h:XN o v r own none none (some e.heap.size) (some i.heap.size) (some z.heap.size) []):az.Xj r.1 r.1 w e i z K v:=by
 unfold az.Xj;exact⟨(gH r fun _ _ q k=>let n:=h.eo q k;⟨_,rfl,D.cs n.kp,n17 D n⟩),(let ⟨u,q,n⟩:=h.put;⟨u,q,D.cs n.kp,n25 D n⟩)⟩
theorem n30(D:XD w o r K)(h:XN o v r own none none (some e.heap.size) (some i.heap.size) none []):az.YQ r.1 r.1 w e i K v:=by
 unfold az.YQ;exact⟨(gH r fun _ _ q k=>let n:=h.eo q k;⟨_,rfl,D.cs n.kp,n18 D n⟩),(let ⟨u,q,n⟩:=h.put;⟨u,q,D.cs n.kp,n26 D n⟩),(let n:=h.ph;⟨D.cs n.kp,D.cs n.kp,n29 D n⟩)⟩
theorem n31(D:XD w o r K)(h:XN o v r own none none (some e.heap.size) none (some z.heap.size) []):az.YP r.1 r.1 w r.1 e z K v:=by
 unfold az.YP;exact⟨(gH r fun _ _ q k=>let n:=h.eo q k;⟨_,rfl,D.cs n.kp,D.cs n.kp,n19 D n⟩),(let ⟨u,q,n⟩:=h.put;⟨u,q,D.cs n.kp,D.cs n.kp,n27 D n⟩),(let n:=h.po;⟨r.2.1,D.cs n.kp,D.cs n.kp,n29 D n⟩)⟩
theorem n32(D:XD w o r K)(h:XN o v r own none none (some e.heap.size) none none []):az.N32 r.1 r.1 w r.1 e K v:=by
 unfold az.N32;exact⟨(gH r fun _ _ q k=>let n:=h.eo q k;⟨_,rfl,D.cs n.kp,D.cs n.kp,n20 D n⟩),(let ⟨u,q,n⟩:=h.put;⟨u,q,D.cs n.kp,D.cs n.kp,n28 D n⟩),(let n:=h.po;⟨r.2.1,D.cs n.kp,D.cs n.kp,n30 D n⟩),(let n:=h.ph;⟨D.cs n.kp,D.cs n.kp,D.cs n.kp,n31 D n⟩)⟩
theorem n33(D:XD w o r K)(h:XN o v r own none none none (some i.heap.size) (some z.heap.size) []):az.YO r.1 r.1 w i z K v:=by
 unfold az.YO;exact⟨(gH r fun _ _ q k=>let n:=h.eo q k;⟨_,rfl,D.cs n.kp,n21 D n⟩),(let n:=h.uE;⟨D.cs n.kp,D.cs n.kp,n29 D n⟩)⟩
theorem n34(D:XD w o r K)(h:XN o v r own none none none (some i.heap.size) none []):az.N34 r.1 r.1 w i K v:=by
 unfold az.N34;exact⟨(gH r fun _ _ q k=>let n:=h.eo q k;⟨_,rfl,D.cs n.kp,n22 D n⟩),(let n:=h.uE;⟨D.cs n.kp,D.cs n.kp,n30 D n⟩),(let n:=h.ph;⟨D.cs n.kp,D.cs n.kp,n33 D n⟩)⟩
theorem n35(D:XD w o r K)(h:XN o v r own none none none none (some z.heap.size) []):az.N35 r.1 r.1 w r.1 z K v:=by
 unfold az.N35;exact⟨(gH r fun _ _ q k=>let n:=h.eo q k;⟨_,rfl,D.cs n.kp,D.cs n.kp,n23 D n⟩),(let n:=h.uE;⟨D.cs n.kp,D.cs n.kp,D.cs n.kp,n31 D n⟩),(let n:=h.po;⟨r.2.1,D.cs n.kp,D.cs n.kp,n33 D n⟩)⟩
theorem n36(D:XD w o r K)(h:XN o v r own none none none none none []):az.N36 r.1 r.1 w r.1 K v:=by
 unfold az.N36;exact⟨(gH r fun _ _ q k=>let n:=h.eo q k;⟨_,rfl,D.cs n.kp,D.cs n.kp,n24 D n⟩),(let n:=h.uE;⟨D.cs n.kp,D.cs n.kp,D.cs n.kp,n32 D n⟩),(let n:=h.po;⟨r.2.1,D.cs n.kp,D.cs n.kp,n34 D n⟩),(let n:=h.ph;⟨D.cs n.kp,D.cs n.kp,D.cs n.kp,n35 D n⟩)⟩
end
section
variable{K:Value->World->Prop}
theorem jh{w:World}(r:HT)(hK:∀v x,DJ v (fun k=>w.heap.size<=k/\k<v.heap.size) (fun _=>False) x [⟨r,[]⟩] [-1]->Kept Nil w v->K (.pointer (some ⟨x,0,none⟩)) v):
 bD prog az.id #[.agg r.1] w K:=by
 refine az.of ?_;unfold az.W;intro w_2 Ku;have k2:Kept Nil w w_2:=(Kept.refl _ _).alloc _;have nA:w_2.heap[w.heap.size]? =some (.cells r.1 al (0,0)):=aM w _;have k3:Kept Nil w Ku:=k2.drew;have qf:Ku.heap[w.heap.size]? =some (.cells r.1 al (0,0)):=nA;clear_value Ku;have N_3:XN Ku Ku r (fun _=>0) none none none none none []:=⟨Kept.refl _ _,(fun b e=>by cases e),(fun b e=>by cases e),(fun b e=>by cases e),(fun b e=>by cases e),(fun b e=>by cases e)⟩;have nR:∀ {v:World},Kept Nil Ku v->∃cs:Array Value,(.agg r.1:Value)=.agg cs/\cs.size=32/\Cells v (aU w.heap.size) cs:=fun k=>⟨r.1,rfl,r.2.1,Cells.bV (k.heap qf (fun h=>h))⟩;have vO:∀ {v:World} {own:Nat->Nat} {g t mb ib cb:Nat},XN Ku v r own (some g) (some t) (some mb) (some ib) (some cb) [r]->K (.pointer (some ⟨v.heap.size,0,none⟩)) (v.alloc (.cells #[.pointer (some ⟨g,0,none⟩),.pointer (some ⟨t,0,none⟩),.map (some mb),.slice (some ⟨ib,0,none⟩) 1 1,.map (some cb)] eT)):=
  fun h=>hK _ _ (h.fin k3.size) ((k3.tt h.kp).alloc _)
 have c3:r.1.size=32/\Cells Ku (aU w.heap.size) r.1:=⟨r.2.1,Cells.bV qf⟩;refine⟨r.1,c3,r.1,c3,r.1,c3,?_⟩;have D:XD w Ku r K:=⟨nR,vO⟩;exact n36 D N_3
end
end Go.Proofs.YtfleamccglihoaaGreatDoor
