import Derived.Test.YtfleamccglihoaaGreatDoorMG
import Derived.Test.YtfleamccglihoaaGreatDoorMH
import Derived.Test.YtfleamccglihoaaGreatDoorME
import Derived.Laws.AppendOwn
open Go.IntKind (i64 u64)
set_option linter.unusedVariables false
namespace Go.Proofs.YtfleamccglihoaaGreatDoor
open Go.Proofs.Tryz
open Go Go.bE
open Tr (jf)
structure rz(D:DG)(P:List Int):Prop where
 len:P.length=D.length
 root:P[0]? =some (-1)
 up:∀(i:Nat) (p:Int) nd,0<i->P[i]? =some p->D[i]? =some nd->∃(j:Nat) (m:DN),p=(j:Int)/\j<i/\D[j]? =some m/\m.id∈nd.ps
def Ch(D:DG)(P:List Int)(a b:HT):Prop:=∃(i k:Nat) (ni nk:DN),D[i]? =some ni/\ni.id=b/\D[k]? =some nk/\nk.id=a/\jf P i k
def jR(D:DG)(P:List Int)(s c:HT):Prop:=∃(i j:Nat) (ni m:DN),D[i]? =some ni/\ni.id=c/\P[i]? =some (j:Int)/\D[j]? =some m/\m.id=s
def Ji(D:DG)(P:List Int)(h c:HT):Prop:=fE D h c/\∃s,jR D P s c/\h≠s/\¬fE D h s
section
variable{D:DG}{P:List Int}
theorem rz.par(H:rz D P):Tr.mY P:=⟨H.root,fun i p hi hp=>by
 have eV:=(lgeS hp).1;rw [H.len]at eV;obtain⟨j,m,h1,h2,_⟩:=H.up i p _ hi hp (List.getElem?_eq_getElem eV);exact⟨j,h2,h1⟩⟩
theorem jR.par(H:rz D P){s c:HT}(h:jR D P s c):mY D s c:=by
 obtain⟨i,j,ni,m,h1,rfl,h3,h4,rfl⟩:=h;have hi:0<i:=by
  rcases Nat.eq_zero_or_pos i with rfl|h
  ·rw [H.root]at h3;simp only [Option.some.injEq]at h3;omega
  ·exact h
 obtain⟨j',m',e,_,h5,h6⟩:=H.up i _ ni hi h3 h1;have:j'=j:=by omega
 subst this;rw [h4]at h5;cases h5;exact⟨ni,List.mem_of_getElem? h1,rfl,h6⟩
theorem jR.one(W:jY D){s s' c:HT}(h:jR D P s c)(h':jR D P s' c):s=s':=by
 obtain⟨i,j,ni,m,h1,rfl,h3,h4,rfl⟩:=h;obtain⟨i',j',ni',m',qO,e,AJ,Sb,rfl⟩:=h';have:=W.inj h1 qO e.symm;subst this;rw [h3]at AJ;simp only [Option.some.injEq]at AJ;have:j=j':=by omega
 subst this;rw [h4]at Sb;cases Sb;rfl
theorem jR.ex(H:rz D P){i:Nat}{ni:DN}(hi:0<i)(h:D[i]? =some ni):∃(j:Nat) (m:DN),j<i/\P[i]? =some (j:Int)/\D[j]? =some m/\jR D P m.id ni.id:=by
 have eV:=(lgeS h).1;obtain⟨p,hp⟩:∃p,P[i]? =some p:=⟨_,List.getElem?_eq_getElem (by rw [H.len];exact eV)⟩;obtain⟨j,m,rfl,hj,hm,_⟩:=H.up i p ni hi hp h;exact⟨j,m,hj,hp,hm,i,j,ni,m,h,rfl,hp,hm,rfl⟩
theorem Ch.refl(H:rz D P){a:HT}(h:a∈ids D):Ch D P a a:=by
 obtain⟨nd,gJ,e⟩:=dB.1 h;obtain⟨i,hi⟩:=List.mem_iff_getElem?.1 gJ;exact⟨i,i,nd,nd,hi,e,hi,e,.refl (by rw [H.len];exact(lgeS hi).1)⟩
theorem Ch.mem{a b:HT}(h:Ch D P a b):a∈ids D/\b∈ids D:=by
 obtain⟨i,k,ni,nk,h1,h2,h3,h4,_⟩:=h;exact⟨dB.2 ⟨nk,List.mem_of_getElem? h3,h4⟩,dB.2 ⟨ni,List.mem_of_getElem? h1,h2⟩⟩
theorem Ch.step(W:jY D){a s c:HT}(hs:jR D P s c)(h:Ch D P a s):Ch D P a c:=by
 obtain⟨i,j,ni,m,h1,rfl,h3,h4,rfl⟩:=hs;obtain⟨j',k,nj,nk,g1,g2,g3,g4,g5⟩:=h;have:=W.inj g1 h4 g2;subst this;exact⟨i,k,ni,nk,h1,rfl,g3,g4,.step h3 g5⟩
theorem Ch.LH(W:jY D)(H:rz D P){a b:HT}(h:Ch D P a b):a=b\/fE D a b:=by
 obtain⟨i,k,ni,nk,h1,rfl,h3,rfl,h5⟩:=h
 induction h5 generalizing ni with
 |refl _=>rw [h1]at h3;cases h3;exact .inl rfl
 | @step i j k hj hu ih=>
   have tD:=hu.lt;rw [H.len]at tD;obtain⟨m,hm⟩:∃m,D[j]? =some m:=⟨_,List.getElem?_eq_getElem tD⟩;have hp:mY D m.id ni.id:=jR.par H ⟨i,j,ni,m,h1,rfl,hj,hm,rfl⟩;rcases ih m hm h3 with e|e
   ·rw [e];exact .inr (.one hp)
   ·exact .inr (.more e hp)
theorem Fm(W:jY D)(H:rz D P){a b:HT}(fG:a≠b):fE D a b↔Ch D P a b\/∃c,Ji D P a c/\Ch D P c b:=by
 constructor
 ·intro h
  obtain⟨nb,KI,e⟩:=dB.1 (h.mem W).2;obtain⟨i,hb⟩:=List.mem_iff_getElem?.1 KI;clear KI;subst e
  induction i using Nat.strongRecOn generalizing nb with
  |_ i ih=>
   have hi:0<i:=by
    rcases Nat.eq_zero_or_pos i with rfl|h0
    ·exfalso
     obtain⟨x,y,mx,my,lW,_,hy,_,e2⟩:=h.at_ W;have:=W.inj hy hb e2;omega
    ·exact h0
   obtain⟨j,m,hj,_,hm,hs⟩:=jR.ex H hi hb;by_cases e1:a=m.id
   ·exact .inl (Ch.step W hs (by rw [e1];exact Ch.refl H (dB.2 ⟨m,List.mem_of_getElem? hm,rfl⟩)))
   ·by_cases e2:fE D a m.id
    ·rcases ih j hj m hm e1 e2 with e3|⟨c,e3,e4⟩
     ·exact .inl (Ch.step W hs e3)
     ·exact .inr ⟨c,e3,Ch.step W hs e4⟩
    ·exact .inr ⟨nb.id,⟨h,m.id,hs,e1,e2⟩,Ch.refl H (dB.2 ⟨nb,List.mem_of_getElem? hb,rfl⟩)⟩
 ·rintro(h|⟨c,⟨h1,_⟩,h2⟩)
  ·exact(h.LH W H).resolve_left fG
  ·rcases h2.LH W H with e|e
   ·rw [<-e];exact h1
   ·exact h1.trans e
theorem rz.snoc(H:rz D P){nd:DN}{j:Nat}{m:DN}(hj:D[j]? =some m)(hm:m.id∈nd.ps)(kl:0<D.length):rz (D++ [nd]) (P++ [(j:Int)]) where
 len:=by simp [H.len]
 root:=by rw [List.getElem?_append_left (by rw [H.len];exact kl)];exact H.root
 up:=fun i p nd' hi hp gJ=>by
  have tD:=(lgeS hj).1;by_cases h:i<D.length
  ·rw [List.getElem?_append_left (by rw [H.len];exact h)]at hp
   rw [List.getElem?_append_left h]at gJ;obtain⟨j',m',e,h1,h2,h3⟩:=H.up i p nd' hi hp gJ;exact⟨j',m',e,h1,by rw [List.getElem?_append_left (by omega)];exact h2,h3⟩
  ·have eV:=(lgeS gJ).1
   have e:i=D.length:=by simp at eV;omega
   subst e;rw [<-H.len]at hp;simp at hp gJ;subst hp gJ;exact⟨j,m,rfl,tD,by rw [List.getElem?_append_left tD];exact hj,hm⟩
theorem mc(W:jY D)(H:rz D P){nd:DN}(hn:nd.id∉ids D){j:Nat}{m:DN}(hj:D[j]? =some m){s c:HT}:
 jR (D++ [nd]) (P++ [(j:Int)]) s c↔jR D P s c\/(c=nd.id/\s=m.id):=by
 have tD:=(lgeS hj).1;constructor
 ·rintro⟨i,k,ni,mk,h1,rfl,h3,h4,rfl⟩
  by_cases h:i<D.length
  ·rw [List.getElem?_append_left h]at h1
   rw [List.getElem?_append_left (by rw [H.len];exact h)]at h3;have hk:k<D.length:=by
    rcases Nat.eq_zero_or_pos i with rfl|h0
    ·rw [H.root]at h3;simp only [Option.some.injEq]at h3;omega
    ·obtain⟨k',_,e,h5,_⟩:=H.up i _ ni h0 h3 h1
     omega
   rw [List.getElem?_append_left hk]at h4;exact .inl ⟨i,k,ni,mk,h1,rfl,h3,h4,rfl⟩
  ·have eV:=(lgeS h1).1
   have e:i=D.length:=by simp at eV;omega
   subst e;have AJ:=h3;rw [<-H.len]at AJ;simp at h1 AJ;subst h1;have:k=j:=by omega
   subst this;rw [List.getElem?_append_left tD,hj]at h4;cases h4;exact .inr ⟨rfl,rfl⟩
 ·rintro(⟨i,k,ni,mk,h1,rfl,h3,h4,rfl⟩|⟨rfl,rfl⟩)
  ·have hi:=(lgeS h1).1
   have hk:=(lgeS h4).1;exact⟨i,k,ni,mk,by rw [List.getElem?_append_left hi];exact h1,rfl,by rw [List.getElem?_append_left (by rw [H.len];exact hi)];exact h3,by rw [List.getElem?_append_left hk];exact h4,rfl⟩
  ·exact⟨D.length,j,nd,m,by simp,rfl,by rw [<-H.len];simp,by rw [List.getElem?_append_left tD];exact hj,rfl⟩
theorem Fc(W:jY D)(H:rz D P){nd:DN}(hn:nd.id∉ids D)(gK:∀p∈nd.ps,p∈ids D){j:Nat}{m:DN}(hj:D[j]? =some m){h c:HT}:
 Ji (D++ [nd]) (P++ [(j:Int)]) h c↔Ji D P h c\/(c=nd.id/\fE (D++ [nd]) h nd.id/\h≠m.id/\¬fE D h m.id):=by
 have hm:m.id∈ids D:=dB.2 ⟨m,List.mem_of_getElem? hj,rfl⟩;have key:∀ {s c},jR D P s c->s∈ids D/\c∈ids D:=fun hs=>(fE.one (jR.par H hs)).mem W;constructor
 ·rintro⟨h1,s,hs,h2,h3⟩
  rcases(mc W H hn hj).1 hs with hs|⟨rfl,rfl⟩
  ·obtain⟨g1,g2⟩:=key hs
   exact .inl ⟨(ir W hn g2).1 h1,s,hs,h2,fun e=>h3 ((ir W hn g1).2 e)⟩
  ·exact .inr ⟨rfl,h1,h2,fun e=>h3 ((ir W hn hm).2 e)⟩
 ·rintro(⟨h1,s,hs,h2,h3⟩|⟨rfl,h1,h2,h3⟩)
  ·obtain⟨g1,g2⟩:=key hs
   exact⟨(ir W hn g2).2 h1,s,(mc W H hn hj).2 (.inl hs),h2,fun e=>h3 ((ir W hn g1).1 e)⟩
  ·exact⟨h1,m.id,(mc W H hn hj).2 (.inr ⟨rfl,rfl⟩),h2,fun e=>h3 ((ir W hn hm).1 e)⟩
inductive Up (P:List Int):Nat->List Nat->Prop
 |root:Up P 0 [0]
 |step {i j:Nat} {l:List Nat}:P[i]? =some (j:Int)->Up P j l->Up P i (i::l)
theorem Up.ex(hP:Tr.mY P):∀i,i<P.length->∃l,Up P i l:=by
 intro i
 induction i using Nat.strongRecOn with
 |_ i ih=>
  intro hi;rcases Nat.eq_zero_or_pos i with rfl|h0
  ·exact⟨[0],.root⟩
  ·obtain⟨j,h1,h2⟩:=hP.up i _ h0 (List.getElem?_eq_getElem hi)
   obtain⟨l,hl⟩:=ih j h1 (by omega);exact⟨i::l,.step (by rw [List.getElem?_eq_getElem hi,h2]) hl⟩
theorem Up.mem(hP:Tr.mY P){i:Nat}{l:List Nat}(h:Up P i l)(hi:i<P.length){k:Nat}:k∈l↔jf P i k:=by
 induction h with
 |root=>
  rw [List.mem_singleton];constructor
  ·rintro rfl;exact .refl hi
  ·intro h;have:=h.le hP;omega
 | @step i j l hj hu ih=>
   have tD:j<P.length:=by have:=(Tr.gQ hP (Tr.dH.2 hj)).1;omega
   rw [List.mem_cons,ih tD];constructor
   ·rintro(rfl|h)
    ·exact .refl hi
    ·exact .step hj h
   ·intro h
    by_cases e:k=i
    ·exact .inl e
    ·exact .inr (h.inv (fun e'=>e e'.symm) hj)
theorem Up.one(hP:Tr.mY P){i:Nat}{l l':List Nat}(h:Up P i l)(h':Up P i l'):l=l':=by
 induction h generalizing l' with
 |root=>
  cases h' with
  |root=>rfl
  |step hj _=>rw [hP.root]at hj;simp only [Option.some.injEq]at hj;omega
 | @step i j l hj hu ih=>
   cases h' with
   |root=>rw [hP.root]at hj;simp only [Option.some.injEq]at hj;omega
   | @step _ j' l' uP GZ=>
     rw [hj]at uP;simp only [Option.some.injEq]at uP;have:j=j':=by omega
     subst this;rw [ih GZ]
theorem Up.head{i:Nat}{l:List Nat}(h:Up P i l):l[0]? =some i:=by cases h<;>rfl
theorem Up.lt(hP:Tr.mY P){i:Nat}{l:List Nat}(h:Up P i l)(hi:i<P.length):∀k∈l,k<P.length:=fun k hk=>((h.mem hP hi).1 hk).Rs
end
end Go.Proofs.YtfleamccglihoaaGreatDoor
namespace Go.Proofs.YtfleamccglihoaaGreatDoor
open Go.Proofs.Tryz
open Go Go.bE Go.RowKit
structure uo(mt te:TypeId)(z:Value):Prop where
 mW:prog.underlying mt=some (.map ax te)
 zero:∀w,(zeroValue te).run prog w=.ok z w
def assoc(h:HT):List (HT×Value)->Option Value
 | []=>none
 |(x,v)::l=>if h=x then some v else assoc h l
def j0(h:HT):List (HT×Value)->Nat->Option (Nat×Value)
 | [],_=>none
 |(x,v)::l,i=>if h=x then some (i,v)else j0 h l (i+1)
theorem lu(h:HT):∀(l:List (HT×Value)) (i:Nat),(j0 h l i).map (·.2)=assoc h l
 | [],_=>rfl
 |(x,v)::l,i=>by
  unfold j0 assoc;split
  ·rfl
  ·exact lu h l (i+1)
theorem sS{h:HT}:∀ {l:List (HT×Value)} {i j:Nat} {v:Value},j0 h l i=some (j,v)->i<=j/\l[j-i]? =some (h,v)/\∀(x:HT) (u:Value),assoc x (l.set (j-i) (h,u))=if x=h then some u else assoc x l
 | [],i,j,v,e=>by simp [j0]at e
 |(x,u)::l,i,j,v,e=>by
  unfold j0 at e;split at e
  ·rename_i hx
   cases e;subst hx;refine⟨Nat.le_refl _,by rw [Nat.sub_self];rfl,fun x u=>?_⟩;rw [Nat.sub_self];simp only [List.set_cons_zero,assoc];by_cases hx:x=h<;>simp [hx]
  ·rename_i hx
   obtain⟨h1,h2,h3⟩:=sS e;have e1:j-i=(j-(i+1))+1:=by omega
   refine⟨by omega,by rw [e1];exact h2,fun y u'=>?_⟩;rw [e1];simp only [List.set_cons_succ,assoc,h3];by_cases hy:y=h
   ·subst hy;simp [hx]
   ·simp [hy]
theorem tl{h:HT}{v:Value}:∀ {l:List (HT×Value)},assoc h l=none->∀x,assoc x (l++ [(h,v)])=if x=h then some v else assoc x l
 | [],_,x=>by simp [assoc]
 |(y,u)::l,e,x=>by
  unfold assoc at e;split at e
  ·cases e
  ·rename_i hy
   have ih:=tl (v:=v) e x;simp only [List.cons_append,assoc,ih];by_cases hx:x=y
   ·subst hx;simp [Ne.symm hy]
   ·simp [hx]
def lH(es:List MapEntry)(l:List (HT×Value)):Prop:=match es,l with
 | [],[]=>True
 |e::es,p::l=>(e.key=.agg p.1.1/\e.val=p.2)/\lH es l
 |_,_=>False
theorem lH.snoc:∀ {es:List MapEntry} {l:List (HT×Value)} {e:MapEntry} {p:HT×Value},lH es l->e.key=.agg p.1.1->e.val=p.2->lH (es++ [e]) (l++ [p])
 | [],[],_,_,_,h1,h2=>⟨⟨h1,h2⟩,trivial⟩
 |_::_,_::_,_,_,he,h1,h2=>⟨he.1,lH.snoc he.2 h1 h2⟩
 | [],_::_,_,_,he,_,_=>he.elim
 |_::_,[],_,_,he,_,_=>he.elim
theorem lH.get:∀ {es:List MapEntry} {l:List (HT×Value)} {j:Nat} {p:HT×Value},lH es l->l[j]? =some p->∃e,es[j]? =some e/\e.key=.agg p.1.1/\e.val=p.2
 | [],[],_,_,_,h=>by simp at h
 |e::_,_::_,0,_,he,h=>by
  simp only [List.getElem?_cons_zero,Option.some.injEq]at h;subst h;exact⟨e,rfl,he.1⟩
 |_::_,_::_,j+1,_,he,h=>by
  obtain⟨e,h1,h2⟩:=lH.get he.2 (j:=j) (by simpa using h);exact⟨e,by simpa using h1,h2⟩
 | [],_::_,_,_,he,_=>he.elim
 |_::_,[],_,_,he,_=>he.elim
theorem lH.set:∀ {es:List MapEntry} {l:List (HT×Value)} {j:Nat} {p:HT×Value} {f:MapEntry->MapEntry},lH es l->(∀e,(f e).key=.agg p.1.1/\(f e).val=p.2)->lH (es.modify j f) (l.set j p)
 | [],[],_,_,_,he,_=>by simpa using he
 |_::_,_::_,0,_,_,he,hf=>⟨hf _,he.2⟩
 |_::_,_::_,j+1,_,_,he,hf=>by
  simp only [List.modify_succ_cons,List.set_cons_succ];exact⟨he.1,lH.set he.2 hf⟩
 | [],_::_,_,_,_,he,_=>he.elim
 |_::_,[],_,_,_,he,_=>he.elim
theorem lH.len:∀ {es:List MapEntry} {l:List (HT×Value)},lH es l->es.length=l.length
 | [],[],_=>rfl
 |_::_,_::_,he=>by simp [lH.len he.2]
 | [],_::_,he=>he.elim
 |_::_,[],he=>he.elim
section
variable{w:World}
theorem pg(h:HT)(w:World):∀(es:List MapEntry) (l:List (HT×Value)) (i:Nat),lH es l->
 (Instr.findAsking ax (.agg h.1) es i).run prog w=.ok (j0 h l i) w
 | [],[],i,_=>by simp [Instr.findAsking,j0]
 |e::es,(x,v)::l,i,he=>by
  have hq:=rU h x w;have ih:=pg h w es l (i+1) he.2;simp only [Instr.findAsking,he.1.1,Sem.run_bind,hq,Result.andThen_ok];by_cases hx:h=x
  ·simp [hx,j0,he.1.2]
  ·simp [hx,j0,ih]
 | [],_::_,_,he=>he.elim
 |_::_,[],_,he=>he.elim
theorem kf(h:HT)(w:World){es:List MapEntry}{l:List (HT×Value)}(he:lH es l):
 (Instr.findKey ax (.agg h.1) es).run prog w=.ok (j0 h l 0) w:=by
 have h1:=pg h w es l 0 he;simp only [Instr.findKey,Sem.run_bind,run_underlying Gf,Result.andThen_ok];cases es with
 |nil=>
  cases l with
  |nil=>simp [Instr.findNow,j0]
  |cons x l=>exact he.elim
 |cons e es=>
  have:Instr.findNow (.array 32 iD) (.agg h.1) (e::es) 0=none:=by
   simp only [Instr.findNow,Instr.sameNow]
  rw [this];exact h1
theorem Bx(h:HT):Instr.sameBits 10000 (.agg h.1) (.agg h.1)=true:=by
 show Instr.sameBits (9999+1) (.agg h.1) (.agg h.1)=true
 rw [Instr.sameBits];simp only [beq_self_eq_true,Bool.true_and,List.all_eq_true];rintro⟨x,y⟩ lW;have TN:x=y:=by
  obtain⟨i,hi⟩:=List.mem_iff_getElem?.1 lW;rw [List.getElem?_zip_eq_some]at hi;have:=hi.1.symm.trans hi.2;simpa using this
 subst TN;have hm:=(List.of_mem_zip lW).1;obtain⟨n,rfl,_⟩:=h.2.2 x hm;simp [Instr.sameBits]
structure dY(w:World)(m:Nat)(f:HT->Option Value):Prop where
 ex:∃es clock l,w.heap[m]? =some (.map es clock)/\lH es.toList l/\(∀x,assoc x l=f x)/\(∀e∈es.toList,e.born<clock)/\(es.toList.map (·.born)).Nodup/\(l.map (·.1)).Nodup
theorem dY.aK{S:Nat->Prop}{w w':World}{m:Nat}{f:HT->Option Value}(h:dY w m f)(hk:Kept S w w')(hn:¬S m):dY w' m f:=by
 obtain⟨es,clock,l,h1,h2⟩:=h.ex;exact⟨es,clock,l,hk.heap h1 hn,h2⟩
theorem dY.same{w w':World}{m:Nat}{f:HT->Option Value}(h:dY w m f)(hk:Kept Nil w w'):dY w' m f:=h.aK hk (fun h=>h)
theorem dY.lt{w:World}{m:Nat}{f:HT->Option Value}(h:dY w m f):m<w.heap.size:=by
 obtain⟨es,clock,l,h1,_⟩:=h.ex;exact a7 h1
theorem dY.new(w:World):dY (w.alloc (.map #[] 0)) w.heap.size (fun _=>none):=⟨#[],0,[],aR w _,trivial,fun _=>rfl,by simp,by simp,by simp⟩
theorem dY.look{mt te:TypeId}{z:Value}(T:uo mt te z){m:Nat}{f:HT->Option Value}(hm:dY w m f)(h:HT):
 (Instr.lookup mt (.map (some m)) (.agg h.1) false).run prog w=.ok ((f h).getD z) w:=by
 obtain⟨es,clock,l,h1,h2,h3,_⟩:=hm.ex;have h4:=kf h w h2;have h5:=lu h l 0;rw [h3]at h5;simp only [Instr.lookup,Sem.run_bind,run_underlying T.mW,nO h1,Result.andThen_ok,Sem.run_pure,gY,h4];cases hp:j0 h l 0 with
 |none=>rw [hp]at h5;simp [<-h5,T.zero]
 |some p=>rw [hp]at h5;simp [<-h5]
theorem dY.put{mt te:TypeId}{z:Value}(T:uo mt te z){m:Nat}{f:HT->Option Value}(hm:dY w m f)(h:HT)(v:Value):
 ∃w',(Instr.mapUpdate mt (.map (some m)) (.agg h.1) v).run prog w=.ok () w'/\dY w' m (fun x=>if x=h then some v else f x)/\Kept (· =m) w w':=by
 obtain⟨es,clock,l,h1,h2,h3,hb,hd,hk⟩:=hm.ex;have h4:=kf h w h2;have kept:∀o,Kept (· =m) w {w with heap:=w.heap.setIfInBounds m o}:=fun o=>⟨rfl,rfl,rfl,by simp,fun k _ hk=>by simp [Ne.symm hk]⟩;cases hp:j0 h l 0 with
 |none=>
  rw [hp]at h4;have h5:=lu h l 0;rw [hp]at h5;refine⟨{w with heap:=w.heap.setIfInBounds m (.map (es.push {key:=.agg h.1,val:=v,born:=clock}) (clock+1))},?_,⟨es.push {key:=.agg h.1,val:=v,born:=clock},clock+1,l++ [(h,v)],?_,?_,?_,?_,?_,?_⟩,kept _⟩
  ·simp only [Instr.mapUpdate,Sem.run_bind,run_underlying T.mW,nO h1,Result.andThen_ok,gY,h4,yn _ h1]
  ·simp [a7 h1]
  ·have:=h2.snoc (e:= {key:=.agg h.1,val:=v,born:=clock}) (p:=(h,v)) rfl rfl
   simpa using this
  ·intro x
   rw [tl h5.symm,h3]
  ·intro e he
   rw [Array.toList_push,List.mem_append,List.mem_singleton]at he;rcases he with he|rfl
   ·have:=hb e he;omega
   ·exact Nat.lt_succ_self _
  ·rw [Array.toList_push,List.map_append,List.nodup_append]
   refine⟨hd,by simp,fun a ha b tY e=>?_⟩;simp only [List.map_cons,List.map_nil,List.mem_singleton]at tY;obtain⟨e',Hn,rfl⟩:=List.mem_map.1 ha;have:=hb e' Hn;omega
  ·rw [List.map_append,List.nodup_append]
   refine⟨hk,by simp,fun a ha b tY e=>?_⟩;simp only [List.map_cons,List.map_nil,List.mem_singleton]at tY;subst tY;subst e;have key:∀l:List (HT×Value),a∈l.map (·.1)->assoc a l≠none:=fun l=>by
    induction l with
    |nil=>simp
    |cons p l ih=>
     obtain⟨y,u⟩:=p;intro hm;unfold assoc;split
     ·simp
     ·rename_i hy
      simp only [List.map_cons,List.mem_cons]at hm;exact ih (hm.resolve_left hy)
   exact key l ha h5.symm
 |some p=>
  obtain⟨j,u⟩:=p;rw [hp]at h4;obtain⟨_,h6,h7⟩:=sS hp;rw [Nat.sub_zero]at h6 h7;obtain⟨e,he1,My,_⟩:=h2.get h6;have Vw:es[j]? =some e:=by simpa using he1
  refine⟨{w with heap:=w.heap.setIfInBounds m (.map (es.modify j fun e=> {e with key:=.agg h.1,val:=v}) clock)},?_,⟨es.modify j fun e=> {e with key:=.agg h.1,val:=v},clock,l.set j (h,v),?_,?_,?_,?_,?_,?_⟩,kept _⟩
  ·simp only [Instr.mapUpdate,Sem.run_bind,run_underlying T.mW,nO h1,Result.andThen_ok,gY,h4,Instr.keyThatStays,Vw,Option.map_some,Option.getD_some,My,Bx,if_true,Sem.run_pure,yn _ h1]
  ·simp [a7 h1]
  ·rw [Array.toList_modify]
   exact h2.set (p:=(h,v)) fun e=>⟨rfl,rfl⟩
  ·intro x
   rw [h7,h3]
  ·intro x hx
   rw [Array.toList_modify]at hx;obtain⟨i,hi⟩:=List.mem_iff_getElem?.1 hx;rw [List.getElem?_modify]at hi;cases hg:es.toList[i]? with
   |none=>rw [hg]at hi;simp at hi
   |some y=>
    rw [hg]at hi;have:=hb y (List.mem_of_getElem? hg);by_cases pM:j=i
    ·simp [pM]at hi
     rw [<-hi];exact this
    ·simp [pM]at hi
     rw [<-hi];exact this
  ·have:(es.modify j fun e=> {e with key:=.agg h.1,val:=v}).toList.map (·.born)=es.toList.map (·.born):=by
    rw [Array.toList_modify];apply List.ext_getElem?;intro i;rw [List.getElem?_map,List.getElem?_map,List.getElem?_modify];cases es.toList[i]? with
    |none=>simp
    |some y=>by_cases pM:j=i<;>simp [pM]
   rw [this];exact hd
  ·have:(l.set j (h,v)).map (·.1)=l.map (·.1):=by
    apply List.ext_getElem?;intro i;rw [List.getElem?_map,List.getElem?_map,List.getElem?_set];by_cases pM:j=i
    ·subst pM
     have cI:=(lgeS h6).1;have iG:=(lgeS h6).2;simp [cI,iG]
    ·simp [pM]
   rw [this];exact hk
end
end Go.Proofs.YtfleamccglihoaaGreatDoor
namespace Go.Proofs.YtfleamccglihoaaGreatDoor
open Go.Proofs.Tryz
open Go Go.bE Go.RowKit
open Tr (jf)
theorem rC{te:TypeId}{z:Value}(h:(prog.info? te).bind (·.zero)=some z)(w:World):(zeroValue te).run prog w=.ok z w:=by
 cases hi:prog.info? te with
 |none=>rw [hi]at h;cases h
 |some i=>
  rw [hi]at h;have hz:i.zero=some z:=h;simp [zeroValue,typeInfo,hi,hz]
theorem vi:uo fI aV (.slice none 0 0):=⟨by kernel_rfl,rC (by kernel_rfl)⟩
theorem DM:uo jP qy (.agg #[.bool false]):=⟨by kernel_rfl,rC (by kernel_rfl)⟩
structure XM where
 g:Nat
 t:Nat
 mb:Nat
 ib:Nat
 ic:Nat
 cb:Nat
 T:List Tr.Nd
 d:Int
 SG:Nat->Prop
 ST:Nat->Prop
 SO:Nat->Prop
def XM.own(m:XM)(x k:Nat):Prop:=k=x\/k=m.mb\/k=m.ib\/k=m.cb
def XM.jb(m:XM)(x k:Nat):Prop:=m.SG k\/m.ST k\/m.SO k\/m.own x k
def mK(w:World)(SO:Nat->Prop)(N:Nat)(v:Option Value)(l:List HT):Prop:=
 (v=none/\l= [])\/∃(A:Option Addr) (n c:Nat),v=some (.slice A n c)/\n<=c/\HS w A n l/\n<=N/\∀a,A=some a->SO a.block
structure XV(w:World)(F:Nat->Prop)(x:Nat)(D:DG)(P:List Int)(m:XM):Prop where
 top:w.heap[x]? =some (.cells #[.pointer (some ⟨m.g,0,none⟩),.pointer (some ⟨m.t,0,none⟩),.map (some m.mb),.slice (some ⟨m.ib,0,none⟩) D.length m.ic,.map (some m.cb)] dA (0,0))
 G:AX w m.SG F m.g D
 T:Tr.mZ w m.ST m.t m.T m.d
 HH:Tr.uq m.T
 bG:Tr.bG m.T=P
 dl:0<=m.d/\m.d<=D.length
 at_:IsMap w m.mb (ids D)
 row:cm w 0 (some ⟨m.ib,0,none⟩) D.length m.ic (ids D)
 Sn:∃f,dY w m.cb f/\∀h,∃l,mK w m.SO D.length (f h) l/\∀c,c∈l↔Ji D P h c
 mf:rz D P
 W:jY D
 gt:∀k,m.SG k->¬m.ST k/\¬m.SO k
 to:∀k,m.ST k->¬m.SO k
 fd:∀k,F k->¬m.ST k/\¬m.SO k
 od:∀k,m.own x k->¬m.SG k/\¬m.ST k/\¬m.SO k/\¬F k
 ne:x≠m.mb/\x≠m.ib/\x≠m.cb/\m.mb≠m.ib/\m.mb≠m.cb/\m.ib≠m.cb
 low:∀k,m.jb x k\/F k->k<w.heap.size
def zL(w:World)(S F:Nat->Prop)(x:Nat)(D:DG)(P:List Int):Prop:=∃m,XV w F x D P m/\∀k,m.jb x k->S k
section
variable{w w':World}{F S:Nat->Prop}{x:Nat}{D:DG}{P:List Int}{m:XM}{K:Value->World->Prop}
theorem mK.aK{S0 SO:Nat->Prop}{N:Nat}{v:Option Value}{l:List HT}(h:mK w SO N v l)(hk:Kept S0 w w')(hn:∀k,SO k->¬S0 k):mK w' SO N v l:=by
 rcases h with h|⟨A,n,c,h1,h2,h3,h4,h5⟩
 ·exact .inl h
 ·exact .inr ⟨A,n,c,h1,h2,h3.aK hk (fun a ha=>hn _ (h5 a ha)),h4,h5⟩
theorem XV.aK{S0:Nat->Prop}(h:XV w F x D P m)(hk:Kept S0 w w')(hS:∀k,m.jb x k->¬S0 k)(hF:∀k,F k->¬S0 k):XV w' F x D P m where
 top:=hk.heap h.top (hS _ (.inr (.inr (.inr (.inl rfl)))))
 G:=h.G.aK hk (fun k e=>hS k (.inl e)) hF
 T:=h.T.aK hk (fun k e=>hS k (.inr (.inl e)))
 HH:=h.HH
 bG:=h.bG
 dl:=h.dl
 at_:=h.at_.aK hk (hS _ (.inr (.inr (.inr (.inr (.inl rfl))))))
 row:=Row.aK h.row hk (fun k e=>by cases e;exact hS _ (.inr (.inr (.inr (.inr (.inr (.inl rfl)))))))
 Sn:=by
  obtain⟨f,h1,h2⟩:=h.Sn;refine⟨f,h1.aK hk (hS _ (.inr (.inr (.inr (.inr (.inr (.inr rfl))))))),fun y=>?_⟩;obtain⟨l,h3,h4⟩:=h2 y;exact⟨l,h3.aK hk (fun k e=>hS k (.inr (.inr (.inl e)))),h4⟩
 mf:=h.mf
 W:=h.W
 gt:=h.gt
 to:=h.to
 fd:=h.fd
 od:=h.od
 ne:=h.ne
 low:=fun k e=>Nat.lt_of_lt_of_le (h.low k e) hk.size
theorem XV.same(h:XV w F x D P m)(hk:Kept Nil w w'):XV w' F x D P m:=h.aK hk (fun _ _ h=>h) (fun _ _ h=>h)
theorem zL.aK{S0:Nat->Prop}(h:zL w S F x D P)(hk:Kept S0 w w')(hS:∀k,S k->¬S0 k)(hF:∀k,F k->¬S0 k):zL w' S F x D P:=
 let ⟨m,h1,h2⟩:=h;⟨m,h1.aK hk (fun k e=>hS k (h2 k e)) hF,h2⟩
theorem zL.same(h:zL w S F x D P)(hk:Kept Nil w w'):zL w' S F x D P:=h.aK hk (fun _ _ h=>h) (fun _ _ h=>h)
theorem XV.c0(h:XV w F x D P m):w.cell? ((⟨x,0,none⟩:Addr).add 0)=some (.pointer (some ⟨m.g,0,none⟩)):=by rw [bt,aA h.top];rfl
theorem XV.c1(h:XV w F x D P m):w.cell? ((⟨x,0,none⟩:Addr).add 1)=some (.pointer (some ⟨m.t,0,none⟩)):=by rw [bt,aA h.top];rfl
theorem XV.c2(h:XV w F x D P m):w.cell? ((⟨x,0,none⟩:Addr).add 2)=some (.map (some m.mb)):=by rw [bt,aA h.top];rfl
theorem XV.c3(h:XV w F x D P m):w.cell? ((⟨x,0,none⟩:Addr).add 3)=some (.slice (some ⟨m.ib,0,none⟩) D.length m.ic):=by rw [bt,aA h.top];rfl
theorem XV.c4(h:XV w F x D P m):w.cell? ((⟨x,0,none⟩:Addr).add 4)=some (.map (some m.cb)):=by rw [bt,aA h.top];rfl
theorem XV.Jz(h:XV w F x D P m):m.T.length=D.length:=by
 have:=Tr.dG m.T;rw [h.bG,h.mf.len]at this;exact this.symm
theorem XV.mW(h:XV w F x D P m){i k:Nat}{id kd:Tr.Nd}(hi:m.T[i]? =some id)(hk:m.T[k]? =some kd):decide (kd.lo<=id.lo/\id.hi<=kd.hi)=true↔jf P i k:=by
 rw [decide_eq_true_iff,<-h.bG];exact h.HH.under hi hk
theorem AG(a b:HT):a.1.toList++(b.1.toList++ [])=cF [a,b]:=by simp [cF]
theorem qG(h:XV w F x D P m)(hK:K (.bool true) w):bf prog dM.id #[.pointer (some ⟨x,0,none⟩)] w K:=
 dM.of (Split.yes rfl ⟨_,h.c0,hK⟩)
theorem vE{xb:Nat}(h:XV w F x D P m)(hg:w.heap[xb]? =some (.cells #[.pointer (some ⟨x,0,none⟩)] e9 (0,0))){A:Option Addr}{n cx:Nat}{l:List HT}(hl:HS w A n l)(hn:n<=400000)
 (hK:∀w' (b:Bool),(b=true↔∃p∈l,p∉ids D)->Kept Nil w w'->K (.bool b) w'):
 bf prog c9.id #[.slice A n cx,.func (.func cW.id) #[] #[.pointer (some ⟨xb,0,none⟩)]] w K:=by
 have hlen:=hl.len;refine bN.of (ar.of ?_);refine ar.b9 (I:=fun s w'=>∃i:Nat,s=(0,(i:Int))/\i<=n/\(∀p∈l.take i,p∈ids D)/\Kept Nil w w') (μ:=fun s _=>((n:Int)-s.2).toNat) (s:=(0,0)) ⟨0,rfl,Nat.zero_le _,by simp,Kept.refl _ _⟩ ?_;rintro s w' ⟨i,rfl,hi,cV,kw⟩;refine Split.dec (fun lE=>?_) (fun iG=>?_)
 ·simp only at lE
  have eV:i<n:=by omega
  obtain⟨y,hy⟩:∃y,l[i]? =some y:=⟨_,List.getElem?_eq_getElem (by omega)⟩;refine(hl.same kw).load (i:=(i:Int)) (by omega) hy ?_;refine cW.of ?_;unfold cW.W;intro w3 w4;have k3:Kept Nil w' w3:=(Kept.refl _ _).alloc _;have oX:w3.heap[w'.heap.size]? =some (.cells y.1 ax (0,0)):=aR w' _;have k4:Kept Nil w3 w4:=(Kept.refl _ _).drew;clear_value w4;have AI:=k4.heap oX (fun h=>h);have Gz:=(kw.tt k3).tt k4;obtain⟨bl,c,mb,M,G⟩:=(h.same Gz).G;refine⟨some ⟨x,0,none⟩,by rw [aA (Gz.heap hg (fun h=>h))];rfl,_,(h.same Gz).c0,y.1,⟨y.2.1,Cells.bW AI⟩,pS G y fun w7 k7=>⟨_,rfl,_,rfl,?_⟩⟩;have DT:=Gz.tt k7;by_cases hm:y∈ids D
  ·refine Split.no (by rw [decide_eq_true hm];rfl) ?_
   simp only;rw [eF (n:=(i:Int)) (by omega) (by omega)];refine⟨(0,(i:Int)+1),rfl,⟨i+1,rfl,eV,fun p hp=>?_,DT⟩,by simp only;omega⟩;rcases(bI hy).1 hp with hp|rfl
   ·exact cV p hp
   ·exact hm
  ·refine Split.yes (by rw [decide_eq_false hm];rfl) ?_
   refine⟨(i:Int),rfl,?_⟩;exact hK w7 _ ⟨fun _=>⟨y,List.mem_of_getElem? hy,hm⟩,fun _=>decide_eq_true (by omega)⟩ DT
 ·simp only at iG
  rw [aY,ar.dw];rw [List.take_of_length_le (by omega)]at cV;exact⟨-1,rfl,hK w' _ ⟨fun h=>absurd (of_decide_eq_true h) (by omega),fun⟨p,hp,hn⟩=>absurd (cV p hp) hn⟩ kw⟩
theorem og(h:XV w F x D P m){A:Option Addr}{n cx:Nat}{l:List HT}(hl:HS w A n l)(hn:n<=400000)(hK:∀w',Kept Nil w w'->K (.bool (decide (∀p∈l,p∈ids D))) w'):
 bf prog dU.id #[.pointer (some ⟨x,0,none⟩),.slice A n cx] w K:=by
 refine dU.of ?_;unfold dU.W;intro w3;have k3:Kept Nil w w3:=(Kept.refl _ _).alloc _;have oX:w3.heap[w.heap.size]? =some (.cells #[.pointer (some ⟨x,0,none⟩)] e9 (0,0)):=aR w _;clear_value w3;refine⟨_,by rw [aA oX];rfl,qG (h.same k3) ⟨true,rfl,Split.yes rfl ?_⟩⟩;refine vE (h.same k3) oX (hl.same k3) hn fun w9 b hb k9=>⟨b,rfl,?_⟩;have:(!b)=decide (∀p∈l,p∈ids D):=by
  rw [Bool.eq_iff_iff,decide_eq_true_iff,Bool.not_eq_true',<-Bool.not_eq_true,hb];constructor
  ·exact fun hn p hp=>Classical.byContradiction fun hc=>hn ⟨p,hp,hc⟩
  ·rintro ha ⟨p,hp,hc⟩;exact hc (ha p hp)
 rw [this];exact hK w9 (k3.tt k9)
theorem qI(h:XV w F x D P m)(a b:HT)(hK:∀w' (r:Bool),(r=true↔Ch D P a b)->Kept Nil w w'->K (.bool r) w'):
 bf prog dr.id #[.pointer (some ⟨x,0,none⟩),.agg a.1,.agg b.1] w K:=by
 refine dr.of ?_;unfold dr.W;intro w4 w5 w6;have k4:Kept Nil w w4:=(Kept.refl _ _).alloc _;have Qy:w4.heap[w.heap.size]? =some (.cells a.1 ax (0,0)):=aR w _;have k5:Kept Nil w4 w5:=(Kept.refl _ _).alloc _;have vz:w5.heap[w4.heap.size]? =some (.cells b.1 ax (0,0)):=aR w4 _;have k6:Kept Nil w5 w6:=(Kept.refl _ _).drew;clear_value w6;have y8:=(k5.tt k6).heap Qy (fun h=>h);have pN:=k6.heap vz (fun h=>h);have qp:=(k4.tt k5).tt k6;refine⟨a.1,⟨a.2.1,Cells.bW y8⟩,b.1,⟨b.2.1,Cells.bW pN⟩,a.2.1,b.2.1,?_⟩;intro w9;have k9:Kept Nil w6 w9:=(Kept.refl _ _).alloc _;have hx9:HS w9 (some ⟨w6.heap.size,0,none⟩) 2 [a,b]:=HS.lay (l:= [a,b]) (t:=ax) (by rw [<-AG a b];exact aR w6 _);clear_value w9;have Ee:=qp.tt k9;refine og (h.same Ee) hx9 (by omega) fun Bf NZ=>⟨_,rfl,?_⟩;have JZ:=Ee.tt NZ;have FY:=h.same JZ;by_cases cV:∀p∈ [a,b],p∈ids D
 ·refine Split.yes (decide_eq_true cV) ?_
  obtain⟨na,KJ,ea⟩:=dB.1 (cV a (by simp));obtain⟨nb,KI,eb⟩:=dB.1 (cV b (by simp));obtain⟨k,hk⟩:=List.mem_iff_getElem?.1 KJ;obtain⟨i,hi⟩:=List.mem_iff_getElem?.1 KI;have CZ:=(lgeS hk).1;have eV:=(lgeS hi).1;have T6:=h.Jz;obtain⟨kd,Pz⟩:=Tr.eR (T:=m.T) (i:=k) (by omega);obtain⟨nd,gJ⟩:=Tr.eR (T:=m.T) (i:=i) (by omega);have NO:=k9.tt NZ;have l1:=FY.at_.uI b;have l2:=FY.at_.uI a;rw [<-eb,h.W.pos_eq hi]at l1;rw [<-ea,h.W.pos_eq hk]at l2;rw [eb]at l1;rw [ea]at l2;refine⟨_,FY.c1,_,FY.c2,b.1,⟨b.2.1,Cells.bW (NO.heap pN (fun h=>h))⟩,_,l1,_,FY.c2,a.1,⟨a.2.1,Cells.bW (NO.heap y8 (fun h=>h))⟩,_,l2,?_⟩;refine Tr.yg FY.T gJ Pz fun km pZ=>⟨_,rfl,hK km _ ?_ (JZ.tt pZ)⟩;rw [h.mW gJ Pz];constructor
  ·exact fun hu=>⟨i,k,nb,na,hi,eb,hk,ea,hu⟩
  ·rintro⟨i',k',ni,nk,h1,h2,h3,h4,h5⟩
   have e1:=h.W.inj h1 hi (by rw [h2,eb]);have e2:=h.W.inj h3 hk (by rw [h4,ea]);rw [<-e1,<-e2];exact h5
 ·refine Split.no (decide_eq_false cV) (hK Bf false ⟨(fun e=>by cases e),fun e=>absurd (fun p hp=>?_) cV⟩ JZ)
  simp only [List.mem_cons,List.not_mem_nil,or_false]at hp;rcases hp with rfl|rfl
  ·exact e.mem.1
  ·exact e.mem.2
theorem sX{xb bb:Nat}{b:HT}(h:XV w F x D P m)(hg:w.heap[xb]? =some (.cells #[.pointer (some ⟨x,0,none⟩)] e9 (0,0)))(hb:w.heap[bb]? =some (.cells b.1 ax (0,0))){A:Option Addr}{n cx:Nat}{l:List HT}(hl:HS w A n l)(hn:n<=400000)
 (hK:∀w' (r:Bool),(r=true↔∃c∈l,Ch D P c b)->Kept Nil w w'->K (.bool r) w'):
 bf prog c9.id #[.slice A n cx,.func (.func cr.id) #[] #[.pointer (some ⟨xb,0,none⟩),.pointer (some ⟨bb,0,none⟩)]] w K:=by
 have hlen:=hl.len;refine bJ.of (al.of ?_);refine al.b9 (I:=fun s w'=>∃i:Nat,s=(0,(i:Int))/\i<=n/\(∀p∈l.take i,¬Ch D P p b)/\Kept Nil w w') (μ:=fun s _=>((n:Int)-s.2).toNat) (s:=(0,0)) ⟨0,rfl,Nat.zero_le _,by simp,Kept.refl _ _⟩ ?_;rintro s w' ⟨i,rfl,hi,cV,kw⟩;refine Split.dec (fun lE=>?_) (fun iG=>?_)
 ·simp only at lE
  have eV:i<n:=by omega
  obtain⟨y,hy⟩:∃y,l[i]? =some y:=⟨_,List.getElem?_eq_getElem (by omega)⟩;refine(hl.same kw).load (i:=(i:Int)) (by omega) hy ?_;refine cr.of ?_;unfold cr.W;intro w4;have k4:Kept Nil w' w4:=(Kept.refl _ _).alloc _;have AI:w4.heap[w'.heap.size]? =some (.cells y.1 ax (0,0)):=aR w' _;clear_value w4;have Gz:=kw.tt k4;refine⟨some ⟨x,0,none⟩,by rw [aA (Gz.heap hg (fun h=>h))];rfl,y.1,⟨y.2.1,Cells.bW AI⟩,b.1,⟨b.2.1,Cells.bW (Gz.heap hb (fun h=>h))⟩,qI (h.same Gz) y b fun w7 r hr k7=>⟨r,rfl,r,rfl,?_⟩⟩;have DT:=Gz.tt k7;cases r with
  |false=>
   refine Split.no rfl ?_;simp only;rw [eF (n:=(i:Int)) (by omega) (by omega)];refine⟨(0,(i:Int)+1),rfl,⟨i+1,rfl,eV,fun p hp hc=>?_,DT⟩,by simp only;omega⟩;rcases(bI hy).1 hp with hp|rfl
   ·exact cV p hp hc
   ·cases hr.2 hc
  |true=>
   refine Split.yes rfl ⟨(i:Int),rfl,?_⟩;exact hK w7 _ ⟨fun _=>⟨y,List.mem_of_getElem? hy,hr.1 rfl⟩,fun _=>decide_eq_true (by omega)⟩ DT
 ·simp only at iG
  rw [aY,al.dw];rw [List.take_of_length_le (by omega)]at cV;exact⟨-1,rfl,hK w' _ ⟨fun h=>absurd (of_decide_eq_true h) (by omega),fun⟨p,hp,hn⟩=>absurd hn (cV p hp)⟩ kw⟩
theorem jn(h:XV w F x D P m)(hD:D.length<=5000)(a b:HT)(hK:∀w' (r:Bool),(r=true↔fE D a b)->Kept Nil w w'->K (.bool r) w'):
 bf prog dc.id #[.pointer (some ⟨x,0,none⟩),.agg a.1,.agg b.1] w K:=by
 refine dc.of ?_;unfold dc.W;intro w4 w5 w6;have k4:Kept Nil w w4:=(Kept.refl _ _).alloc _;have hx4:w4.heap[w.heap.size]? =some (.cells #[.pointer (some ⟨x,0,none⟩)] e9 (0,0)):=aR w _;have k5:Kept Nil w4 w5:=(Kept.refl _ _).alloc _;have Wd:w5.heap[w4.heap.size]? =some (.cells a.1 ax (0,0)):=aR w4 _;have k6:Kept Nil w5 w6:=(Kept.refl _ _).alloc _;have pN:w6.heap[w5.heap.size]? =some (.cells b.1 ax (0,0)):=aR w5 _;clear_value w6;have y8:=k6.heap Wd (fun h=>h);have GY:=(k5.tt k6).heap hx4 (fun h=>h);have qp:=(k4.tt k5).tt k6;refine⟨_,by rw [aA GY];rfl,a.1,⟨a.2.1,Cells.bW y8⟩,b.1,⟨b.2.1,Cells.bW pN⟩,a.2.1,b.2.1,?_⟩;intro w10;have tR:Kept Nil w6 w10:=(Kept.refl _ _).alloc _;have G4:HS w10 (some ⟨w6.heap.size,0,none⟩) 2 [a,b]:=HS.lay (l:= [a,b]) (t:=ax) (by rw [<-AG a b];exact aR w6 _);clear_value w10;have yJ:=qp.tt tR;refine og (h.same yJ) G4 (by omega) fun o7 FE=>⟨_,rfl,?_⟩;have JY:=yJ.tt FE;have JR:=tR.tt FE;by_cases cV:∀p∈ [a,b],p∈ids D
 ·refine Split.no (by rw [decide_eq_true cV];rfl) ?_
  have We:=JR.heap y8 (fun h=>h);have V8:=JR.heap pN (fun h=>h);refine⟨a.1,⟨a.2.1,Cells.bW We⟩,b.1,⟨b.2.1,Cells.bW V8⟩,⟨a.2.ints,b.2.ints⟩,?_⟩;rw [gw];refine Split.dec (fun he=>?_) (fun he=>?_)
  ·subst he
   exact hK o7 false ⟨(fun e=>by cases e),fun e=>absurd e (fE.irrefl h.W a)⟩ JY
  ·intro ln
   have tP:Kept Nil o7 ln:=(Kept.refl _ _).drew;clear_value ln;have Ob:=JY.tt tP;have GK:=JR.tt tP;refine⟨_,by rw [aA (GK.heap GY (fun h=>h))];rfl,a.1,⟨a.2.1,Cells.bW (GK.heap y8 (fun h=>h))⟩,b.1,⟨b.2.1,Cells.bW (GK.heap pN (fun h=>h))⟩,?_⟩;refine qI (h.same Ob) a b fun vY r hr D8=>⟨r,rfl,?_⟩;have JW:=Ob.tt D8;have GJ:=GK.tt D8;cases r with
   |true=>exact Split.yes rfl (hK vY true ⟨fun _=>(Fm h.W h.mf he).2 (.inl (hr.1 rfl)),fun _=>rfl⟩ JW)
   |false=>
    refine Split.no rfl ?_;have WE:=h.same JW;obtain⟨f,hf,IU⟩:=WE.Sn;obtain⟨l,hl,jW⟩:=IU a;have Az:=hf.look vi a;have fin:∀ {A:Option Addr} {n c:Nat},(f a).getD (.slice none 0 0)=.slice A n c->HS vY A n l->n<=D.length->
     bf prog c9.id #[.slice A n c,.func (.func cr.id) #[] #[.pointer (some ⟨w.heap.size,0,none⟩),.pointer (some ⟨w5.heap.size,0,none⟩)]] vY fun v28 SE=>∃t:Bool,v28=.bool t/\K (.bool t) SE:=fun _ hs hn=>
     sX WE (GJ.heap GY (fun h=>h)) (GJ.heap pN (fun h=>h)) hs (by omega) fun tF r2 la Me=>⟨r2,rfl,hK tF r2 (by
      rw [la,Fm h.W h.mf he];constructor
      ·rintro⟨c,h1,h2⟩;exact .inr ⟨c,(jW c).1 h1,h2⟩
      ·rintro(h1|⟨c,h1,h2⟩)
       ·cases hr.2 h1
       ·exact⟨c,(jW c).2 h1,h2⟩) (JW.tt Me)⟩
    refine⟨some ⟨x,0,none⟩,by rw [aA (GJ.heap GY (fun h=>h))];rfl,_,WE.c4,a.1,⟨a.2.1,Cells.bW (GJ.heap y8 (fun h=>h))⟩,?_⟩;rcases hl with⟨h1,rfl⟩|⟨A,n,c,h1,h2,h3,h4,h5⟩
    ·rw [h1]at Az
     exact⟨none,0,0,Az,fin (by rw [h1];rfl) (HS.nil _ _) (by omega)⟩
    ·rw [h1]at Az
     exact⟨A,n,c,Az,fin (by rw [h1];rfl) h3 h4⟩
 ·refine Split.yes (by rw [decide_eq_false cV];rfl) (hK o7 false ⟨(fun e=>by cases e),fun e=>absurd (fun p hp=>?_) cV⟩ JY)
  simp only [List.mem_cons,List.not_mem_nil,or_false]at hp;rcases hp with rfl|rfl
  ·exact(e.mem h.W).1
  ·exact(e.mem h.W).2
end
end Go.Proofs.YtfleamccglihoaaGreatDoor
namespace Go.Proofs.YtfleamccglihoaaGreatDoor
open Go.Proofs.Tryz
open Go Go.bE Go.RowKit
section
variable{w w':World}{K:Value->World->Prop}
theorem uX{A:Option Addr}{n c:Nat}(Cc:n<=c)(hK:K (.slice A n n) w):bf prog cM.id #[.slice A n c] w K:=by
 refine cM.of ⟨⟨by omega,by omega⟩,⟨by omega,by simp⟩,?_⟩;have e:(if(n:Int).toNat=0 then A else A.map (·.add (0*32)))=A:=by
  split
  ·rfl
  ·cases A with
   |none=>rfl
   |some a=>simp [add_zero]
 rw [e];simpa using hK
theorem tZ{A:Option Addr}{n c:Nat}{l:List HT}(h:HT)(hl:HS w A n l)(hn:n<=1000000)(hK:∀w',Kept Nil w w'->K (.bool (decide (h∈l))) w'):
 bf prog b7.id #[.slice A n c,.agg h.1] w K:=by
 have hlen:=hl.len;refine b7.of ?_;unfold b7.W;intro w3;have k3:Kept Nil w w3:=(Kept.refl _ _).alloc _;have oX:w3.heap[w.heap.size]? =some (.cells h.1 ax (0,0)):=aR w _;clear_value w3;refine⟨h.1,⟨h.2.1,Cells.bW oX⟩,?_⟩;refine aI.of ?_;unfold aI.W;intro w4;have k4:Kept Nil w3 w4:=(Kept.refl _ _).alloc _;have AI:w4.heap[w3.heap.size]? =some (.cells h.1 ax (0,0)):=aR w3 _;clear_value w4;have lh:=k3.tt k4;refine aI.b9 (I:=fun s w'=>∃i:Nat,s=(0,(i:Int))/\i<=n/\Kept Nil w4 w'/\h∉l.take i) (μ:=fun s _=>((n:Int)-s.2).toNat) (s:=(0,0)) ⟨0,rfl,Nat.zero_le _,Kept.refl _ _,by simp⟩ ?_;rintro s w' ⟨i,rfl,hi,kw,rG⟩;refine Split.dec (fun cI=>?_) (fun iG=>?_)
 ·simp only at cI
  have eV:i<n:=by omega
  obtain⟨y,hy⟩:∃y,l[i]? =some y:=⟨_,List.getElem?_eq_getElem (by omega)⟩;intro w9;have k9:Kept Nil w' w9:=(Kept.refl _ _).drew;clear_value w9;have Tz:=kw.tt k9;have Ee:=lh.tt Tz;refine⟨h.1,⟨h.2.1,Cells.bW (Tz.heap AI (fun h=>h))⟩,?_⟩;refine(hl.same Ee).load (i:=(i:Int)) (by omega) hy ⟨⟨h.2.ints,y.2.ints⟩,?_⟩;rw [gw];refine Split.dec (fun he=>?_) (fun he=>?_)
  ·refine⟨(i:Int),rfl,?_⟩
   have:=hK w9 Ee;rw [decide_eq_true (by rw [he];exact List.mem_of_getElem? hy)]at this;rw [show decide ((i:Int)>=(0:Int))=true from decide_eq_true (by omega)];exact this
  ·simp only
   rw [iF (x:=(i:Int)+1) (by omega) (by omega)];refine⟨(0,(i:Int)+1),rfl,⟨i+1,rfl,eV,Tz,?_⟩,by simp only;omega⟩;rw [List.take_add_one,hy];simp only [Option.toList_some,List.mem_append,List.mem_singleton,not_or];exact⟨rG,he⟩
 ·simp only at iG
  rw [aY,aI.dw];refine⟨-1,rfl,?_⟩;have:=hK w' (lh.tt kw);rw [List.take_of_length_le (by omega)]at rG;rw [decide_eq_false rG]at this;exact this
theorem vH{A:Option Addr}{n cx:Nat}{l:List HT}{h:HT}{b:Nat}(hl:HS w A n l)(hb:HS w (some ⟨b,0,none⟩) 1 [h])(hn:n<=100000):
 ∃A' c' w',(Builtin.append_ #[aV,aV] aV #[.slice A n n,.slice (some ⟨b,0,none⟩) 1 cx]).run prog w=.ok (.slice A' (n+1) c') w'/\
  HS w' A' (n+1) (l++ [h])/\n+1<=c'/\(∀a,A'=some a->w.heap.size<=a.block/\a.block<w'.heap.size)/\Kept Nil w w':=by
 have hlen:=hl.len;cases A with
 |none=>
  obtain⟨rfl,rfl⟩:=hl.none;obtain⟨A',c',w',hr,fU,hg,hbk⟩:=gu (cx:=cx) aV (cm.nil w w.heap.size) hb (by omega) (Nat.le_refl _);rw [Nat.zero_add]at hr fU;rw [List.nil_append]at fU;obtain⟨b',rfl⟩:=Row.some fU (by omega);have Cl:=Row.bW fU (k:=b') rfl;refine⟨some ⟨b',0,Option.none⟩,c',w',hr,cm.hs fU,?_,fun a ha=>?_,Kept.pO (Kept.refl _ _) hg (fun k hk=>by cases hk)⟩
  ·rcases Row.own fU with⟨h1,_⟩|⟨_,_,_,_,_,h1,_⟩
   ·cases h1
   ·exact h1
  ·cases ha
   obtain⟨h1,cur,h2⟩:=Cl;exact⟨h1,a7 h2⟩
 |some a=>
  obtain⟨i,z,hi,hz,hs,FV,FF⟩:=nt.inf;have hr:=run_append_grow (P:=prog) (w:=w) aV aV ax i z nt.mW hi hz a n n (cF l) (by rw [dE,hs,hlen]) hl.cells ⟨b,0,Option.none⟩ 1 cx (cF [h]) (by rw [dE,hs];rfl) hb.cells (by omega) (by omega) (growslice_fits (by omega) (by rw [FV];omega));refine⟨_,_,_,hr,⟨by simp [hlen],fun j y hj=>⟨_,rfl,?_,?_⟩⟩,grownCap_ge _ _ _ _,fun a' y9=>?_,?_⟩
  ·have:=aR w.drew (.cells ((cF l).toArray++(cF [h]).toArray++Builtin.zeroCells z.cells (grownCap w (n+1) n ax-(n+1))) ax)
   exact a7 this
  ·intro q v hq
   rw [bt,bt,Nat.zero_add];have hblk:=aR w.drew (.cells ((cF l).toArray++(cF [h]).toArray++Builtin.zeroCells z.cells (grownCap w (n+1) n ax-(n+1))) ax);have e:(w.drew.heap.size)=w.heap.size:=rfl;rw [e]at hblk;rw [aA hblk];have h1:=jz hj hq;rw [kO]at h1;have cI:=(lgeS h1).1;rw [Array.getElem?_append_left (by simpa using cI)];simpa using h1
  ·cases y9
   have:=aR w.drew (.cells ((cF l).toArray++(cF [h]).toArray++Builtin.zeroCells z.cells (grownCap w (n+1) n ax-(n+1))) ax);exact⟨Nat.le_refl _,a7 this⟩
  ·exact(Kept.refl Nil w).drew.alloc _
end
def gR(D:DG)(h s:HT)(l:List HT):Int:=if eB D h l=0 then(if s∈l then 0 else 2)else eB D h l
theorem pX{D:DG}{h:HT}{l:List HT}(e:eB D h l=0):mB D h l=D++ [⟨h,di l⟩]:=by unfold mB;rw [if_pos e]
section
variable{w w':World}{S ST:Nat->Prop}{t:Nat}{T:List Tr.Nd}{d:Int}
theorem qz(h:Tr.mZ w ST t T d):Tr.mZ w (fun k=>ST k/\k<w.heap.size) t T d:=by
 obtain⟨b,c,L,h⟩:=h;refine⟨b,c,L,{h with fX:=⟨h.fX,h.lt⟩,fg:=⟨h.fg,?_⟩,oS:=fun i p hi=>?_}⟩
 ·obtain⟨A,m,hk⟩:=h.oS i p hi
  exact⟨A,m,{hk with jb:=fun k e=>⟨hk.jb k e,let ⟨_,_,hc⟩:=Row.bW hk.row e;a7 hc⟩}⟩
 ·obtain⟨cur,hc⟩:=h.ti
  exact a7 hc
end
section
variable{w w':World}{F:Nat->Prop}{x:Nat}{D:DG}{P:List Int}{m:XM}{K:Value->World->Prop}
theorem Fp{v:World}{hid s:HT}{S2 F2 SO2:Nat->Prop}{ps:List HT}{j:Nat}{mj:DN}{BY sb:Nat}{b8:Int}{BK:Option Nat}{A7:Option Addr}{n7 c7:Nat}{i7:Int}{s1 s2:Nat}
 (h:XV w F x D P m) (hD:D.length<=5000) (hn:hid∉ids D) (gK:∀p∈ps,p∈ids D) (vr:SS ps) (hj:D[j]? =some mj) (hs:mj.id=s) (CS:s∈ps)
 (jo:v.heap[x]? =some (.cells #[.pointer (some ⟨m.g,0,none⟩),.pointer (some ⟨m.t,0,none⟩),.map (some m.mb),.slice (some ⟨m.ib,0,none⟩) D.length m.ic,.map (some m.cb)] dA (0,0)))
 (acJ:w.heap.size<=BY) (abH:w.heap.size<=sb) (KW:v.heap[BY]? =some (.cells hid.1 ax (0,0))) (Ub:v.heap[sb]? =some (.cells s.1 ax (0,0)))
 (hG:AX v S2 F2 m.g (D++ [⟨hid,ps⟩])) (hT:Tr.mZ v m.ST m.t m.T m.d) (hat:IsMap v m.mb (ids D)) (fU:cm v 0 (some ⟨m.ib,0,none⟩) D.length m.ic (ids D))
 (La:∃f,dY v m.cb f/\∀y,∃l,mK v SO2 (D.length+1) (f y) l/\∀c,c∈l↔Ji (D++ [⟨hid,ps⟩]) (P++ [(j:Int)]) y c)
 (CU:w.heap.size<=s1) (yP:s1<=s2) (G3:s2<=v.heap.size)
 (L9:∀k,S2 k->(m.SG k\/w.heap.size<=k)/\k<s1) (Ma:∀k,F2 k->(F k\/w.heap.size<=k)/\k<s1) (Ic:∀k,SO2 k->m.SO k\/(s2<=k/\k<v.heap.size))
 (kv:Kept (fun k=>m.jb x k) w v)
 (hK:∀u S' F',zL u S' F' x (D++ [⟨hid,ps⟩]) (P++ [(j:Int)])->Kept (fun k=>m.jb x k) w u->(∀k,S' k->m.jb x k\/w.heap.size<=k)->(∀k,F' k->F k\/w.heap.size<=k)->K (.int .i64 0) u):
 aD.LN (some ⟨x,0,none⟩) ⟨BY,0,none⟩ ⟨sb,0,none⟩ b8 BK A7 n7 c7 i7 i7 K v:=by
 have W:=h.W;have rp:=h.low;have tD:=(lgeS hj).1;have T6:=h.Jz;have UE:m.own x x:=.inl rfl;have O2:m.own x m.mb:=.inr (.inl rfl);have O3:m.own x m.ib:=.inr (.inr (.inl rfl));have rm:m.own x m.cb:=.inr (.inr (.inr rfl));obtain⟨L7,Nn,JI,Nl,L6,Nk⟩:=h.ne;unfold aD.LN;intro Be;have tQ:Kept Nil v Be:=(Kept.refl _ _).drew;clear_value Be;have c1:Be.cell? ((⟨x,0,none⟩:Addr).add 1)=some (.pointer (some ⟨m.t,0,none⟩)):=by rw [bt,aA (tQ.heap jo (fun h=>h))];rfl
 have c2:Be.cell? ((⟨x,0,none⟩:Addr).add 2)=some (.map (some m.mb)):=by rw [bt,aA (tQ.heap jo (fun h=>h))];rfl
 have ES:=hat.aK tQ (fun h=>h);have lk:=ES.uI s;rw [<-hs,W.pos_eq hj]at lk;rw [hs]at lk;refine⟨_,c1,_,c2,s.1,⟨s.2.1,Cells.bW (tQ.heap Ub (fun h=>h))⟩,_,lk,?_⟩;have QC:=qz (hT.same tQ);refine Tr.Dm QC h.HH (p:=j) (by omega) (by omega) ⟨h.dl.1,by have:=h.dl.2;omega⟩ fun Bd Rb T' d' QB hF' OT hd' BX Wh=>⟨_,_,rfl,?_⟩;have aax:=tQ.size;have L8:∀k,Rb k->m.ST k\/Be.heap.size<=k:=fun k hk=>(Wh k hk).imp (fun h=>h.1) (fun h=>h);have nST:∀k,(m.ST k/\k<Be.heap.size)->m.ST k:=fun k h=>h.1;have Jx:=BX.heap (tQ.heap jo (fun h=>h)) (fun e=>(h.od x UE).2.1 e.1);intro Df;have BW:Kept Nil Bd Df:=(Kept.refl _ _).drew;clear_value Df;have Dq:=BW.heap Jx (fun h=>h);have Ay:∀k,m.ST k->k<w.heap.size:=fun k e=>rp k (.inl (.inr (.inl e)));have lox:x<w.heap.size:=rp x (.inl (.inr (.inr (.inr UE))));have aaN:m.mb<w.heap.size:=rp _ (.inl (.inr (.inr (.inr O2))));have aaO:m.ib<w.heap.size:=rp _ (.inl (.inr (.inr (.inr O3))));have Nw:m.cb<w.heap.size:=rp _ (.inl (.inr (.inr (.inr rm))));have sv:=kv.size;have AD:Df.heap[BY]? =some (.cells hid.1 ax (0,0)):=BW.heap (BX.heap (tQ.heap KW (fun h=>h)) (fun e=>by have:=Ay _ e.1;omega)) (fun h=>h);have MI:Df.cell? ((⟨x,0,none⟩:Addr).add 2)=some (.map (some m.mb)):=by rw [bt,aA Dq];rfl
 have Lj:IsMap Df m.mb (ids D):=(ES.aK BX (fun e=>(h.od _ O2).2.1 e.1)).aK BW (fun h=>h);obtain⟨Jr,IA,Li,NY⟩:=Lj.put hn;rw [jF,<-T6]at IA;refine⟨_,MI,hid.1,⟨hid.2.1,Cells.bW AD⟩,Jr,IA,?_⟩;intro Bc;have NX:Kept Nil Jr Bc:=(Kept.refl _ _).drew;clear_value Bc;have vm:=NY.trans NX (fun _ _ h=>h.elim);have Dp:=vm.heap Dq (fun e=>L7 e);have c3:∀ {u:World},Kept Nil Bc u->u.cell? ((⟨x,0,none⟩:Addr).add 3)=some (.slice (some ⟨m.ib,0,none⟩) D.length m.ic):=fun k=>by rw [bt,aA (k.heap Dp (fun h=>h))];rfl
 have Hh:=vm.heap AD (fun e=>by omega);refine⟨_,_,_,c3 (Kept.refl _ _),hid.1,⟨hid.2.1,Cells.bW Hh⟩,hid.2.1,?_⟩;intro v7;have GR:Kept Nil Bc v7:=(Kept.refl _ _).alloc _;have Qu:HS v7 (some ⟨Bc.heap.size,0,none⟩) 1 [hid]:=lj Bc hid;clear_value v7;have Ar:=vm.trans GR (fun _ _ h=>h.elim);have JF:cm v7 0 (some ⟨m.ib,0,none⟩) D.length m.ic (ids D):=
  Row.aK (Row.aK (Row.aK (Row.aK fU tQ (fun _ _ h=>h)) BX (fun k e e'=>by cases e;exact(h.od _ O3).2.1 e'.1)) BW (fun _ _ h=>h)) Ar (fun k e e'=>by cases e;exact Nl e'.symm)
 obtain⟨A',c',Bb,OL,yq,PU,Qt⟩:=gu (cx:=1) aV JF Qu (by omega) (Nat.zero_le _);have JU:Kept (· =m.ib) v7 Bb:=Kept.grown (Kept.refl _ _) PU (fun k e _=>by cases e;rfl);obtain⟨xW,rfl⟩:=Row.some yq (by omega);have Hi:xW=m.ib\/v7.heap.size<=xW:=by
  rcases Qt xW rfl with e|e
  ·left;simpa [bm]using e.symm
  ·exact .inr e
 have Dn:=JU.heap (GR.heap Dp (fun h=>h)) (fun e=>Nn e);refine⟨c3 GR,some ⟨xW,0,none⟩,_,c',Bb,OL,Is.mk rfl ⟨?_,?_⟩⟩
 ·rw [bt]
  exact dz Dn (by simp)
 intro vZ;have QY:vZ=Bb.setCell ⟨x,3,none⟩ (.slice (some ⟨xW,0,none⟩) (D.length+1) c'):=by
  show Bb.setCell ((⟨x,0,none⟩:Addr).add 3) _=_
  rw [bt]
 have JT:Kept (· =x) Bb vZ:=by rw [QY];exact Kept.setCell (S:=fun k=>k=x) (Kept.refl _ Bb) (p:=⟨x,3,none⟩) (fun _=>rfl) _
 have Jw:vZ.heap[x]? =some (.cells #[.pointer (some ⟨m.g,0,none⟩),.pointer (some ⟨m.t,0,none⟩),.map (some m.mb),.slice (some ⟨xW,0,none⟩) (D.length+1) c',.map (some m.cb)] dA (0,0)):=by
  rw [QY,cR Dn 3];rfl
 clear_value vZ;have aaw:=BX.size;have aav:=BW.size;have aau:=Ar.size;have aat:=JU.size;have aas:=JT.size;have kC:Kept (fun k=>k=m.ib\/k=x) Jr vZ:=(((NX.tt GR).mono (S':=fun k=>k=m.ib\/k=x) (fun _ _ h=>h.elim)).trans JU (fun _ _ h=>.inl h)).trans JT (fun _ _ h=>.inr h);have kB:Kept (fun k=>k=m.mb\/k=m.ib\/k=x) Bd vZ:=((BW.mono (S':=fun k=>k=m.mb\/k=m.ib\/k=x) (fun _ _ h=>h.elim)).trans NY (fun _ _ h=>.inl h)).trans kC (fun _ _ h=>.inr h);have kA:Kept (fun k=>m.ST k\/k=m.mb\/k=m.ib\/k=x) v vZ:=((tQ.mono (S':=fun k=>m.ST k\/k=m.mb\/k=m.ib\/k=x) (fun _ _ h=>h.elim)).trans BX (fun _ _ h=>.inl h.1)).trans kB (fun _ _ h=>.inr h);have BJ:∀k,(k=m.mb\/k=m.ib\/k=x)->m.own x k:=fun k e=>by
  rcases e with e|e|e
  ·exact .inr (.inl e)
  ·exact .inr (.inr (.inl e))
  ·exact .inl e
 have Gr:∀k,m.own x k->k<w.heap.size:=fun k e=>rp k (.inl (.inr (.inr (.inr e))));have Gv:∀k,m.SG k->k<w.heap.size:=fun k e=>rp k (.inl (.inl e));have DS:∀k,m.SO k->k<w.heap.size:=fun k e=>rp k (.inl (.inr (.inr (.inl e))));have nG:∀k,S2 k->¬(m.ST k\/k=m.mb\/k=m.ib\/k=x):=fun k h1 h2=>by
  obtain⟨h3,_⟩:=L9 k h1;rcases h2 with h2|h2
  ·rcases h3 with h3|h3
   ·exact(h.gt k h3).1 h2
   ·have:=Ay k h2;omega
  ·have h4:=BJ k h2
   rcases h3 with h3|h3
   ·exact(h.od k h4).1 h3
   ·have:=Gr k h4;omega
 have nF:∀k,F2 k->¬(m.ST k\/k=m.mb\/k=m.ib\/k=x):=fun k h1 h2=>by
  obtain⟨h3,_⟩:=Ma k h1;rcases h2 with h2|h2
  ·rcases h3 with h3|h3
   ·exact(h.fd k h3).1 h2
   ·have:=Ay k h2;omega
  ·have h4:=BJ k h2
   rcases h3 with h3|h3
   ·exact(h.od k h4).2.2.2 h3
   ·have:=Gr k h4;omega
 have Td:∀k,SO2 k->¬(m.ST k\/k=m.mb\/k=m.ib\/k=x):=fun k h1 h2=>by
  rcases Ic k h1 with h3|⟨h3,_⟩
  ·rcases h2 with h2|h2
   ·exact h.to k h2 h3
   ·exact(h.od k (BJ k h2)).2.2.1 h3
  ·rcases h2 with h2|h2
   ·have:=Ay k h2;omega
   ·have:=Gr k (BJ k h2);omega
 have nT:∀k,(Rb k/\k<Bd.heap.size)->¬(k=m.mb\/k=m.ib\/k=x):=fun k h1 h2=>by
  have h4:=BJ k h2;rcases L8 k h1.1 with h3|h3
  ·exact(h.od k h4).2.1 h3
  ·have:=Gr k h4;omega
 refine hK vZ (fun k=>(S2 k\/(Rb k/\k<Bd.heap.size)\/SO2 k\/(k=x\/k=m.mb\/k=xW\/k=m.cb))) F2 ⟨{m with ib:=xW,ic:=c',T:=T',d:=d',SG:=S2,ST:=fun k=>Rb k/\k<Bd.heap.size,SO:=SO2},?_,fun k e=>e⟩ ?_ ?_ ?_
 ·refine⟨?_,hG.aK kA nG nF,(qz QB).aK kB nT,hF',?_,?_,?_,?_,?_,?_,?_,?_,?_,?_,?_,?_,?_⟩
  ·rw [List.length_append];exact Jw
  ·show Tr.bG T'=_
   rw [OT,h.bG]
  ·have:=h.dl
   simp only [List.length_append,List.length_singleton];show 0<=d'/\d'<=_
   omega
  ·rw [jL]
   exact Li.aK kC (fun e=>e.elim (fun e=>Nl e) (fun e=>L7 e.symm))
  ·rw [jL,List.length_append]
   refine Row.aK yq JT (fun k e e'=>?_);have e1:xW=k:=by simpa [bm]using e
   rcases Hi with e|e
   ·exact Nn (e'.symm.trans (e1.symm.trans e))
   ·omega
  ·obtain⟨f,hf,hc⟩:=La
   refine⟨f,hf.aK kA (fun e=>?_),fun y=>?_⟩
   ·rcases e with e|e|e|e
    ·exact(h.od _ rm).2.1 e
    ·exact L6 e.symm
    ·exact Nk e.symm
    ·exact JI e.symm
   ·obtain⟨l,h1,h2⟩:=hc y
    refine⟨l,?_,h2⟩;rw [List.length_append];exact h1.aK kA Td
  ·exact h.mf.snoc hj (by rw [hs];exact CS) W.pos
  ·exact W.snoc (nd:=⟨hid,ps⟩) hn gK vr
  ·intro k h1
   obtain⟨h3,h4⟩:=L9 k h1;refine⟨fun h2=>?_,fun h2=>?_⟩
   ·rcases L8 k h2.1 with h5|h5
    ·exact nG k h1 (.inl h5)
    ·omega
   ·rcases Ic k h2 with h5|h5
    ·rcases h3 with h3|h3
     ·exact(h.gt k h3).2 h5
     ·have:=DS k h5;omega
    ·omega
  ·intro k h1 h2
   rcases L8 k h1.1 with h5|h5
   ·exact Td k h2 (.inl h5)
   ·rcases Ic k h2 with h6|h6
    ·have:=DS k h6;omega
    ·omega
  ·intro k h1
   obtain⟨h3,h4⟩:=Ma k h1;refine⟨fun h2=>?_,fun h2=>?_⟩
   ·rcases L8 k h2.1 with h5|h5
    ·exact nF k h1 (.inl h5)
    ·omega
   ·rcases Ic k h2 with h5|h5
    ·rcases h3 with h3|h3
     ·exact(h.fd k h3).2 h5
     ·have:=DS k h5;omega
    ·omega
  ·intro k e
   have e':(k=m.mb\/k=m.ib\/k=x)\/(k=m.cb)\/(k=xW/\v7.heap.size<=xW):=by
    rcases e with e|e|e|e
    ·exact .inl (.inr (.inr e))
    ·exact .inl (.inl e)
    ·rcases Hi with h5|h5
     ·exact .inl (.inr (.inl (e.trans h5)))
     ·exact .inr (.inr ⟨e,h5⟩)
    ·exact .inr (.inl e)
   have big:v7.heap.size<=k->¬S2 k/\¬(Rb k/\k<Bd.heap.size)/\¬SO2 k/\¬F2 k:=fun hb=>
    ⟨fun h1=>by have:=(L9 k h1).2;omega,fun h1=>by have:=h1.2;omega,fun h1=>(Ic k h1).elim (fun h2=>by have:=DS k h2;omega) (fun h2=>by omega),fun h1=>by have:=(Ma k h1).2;omega⟩
   rcases e' with e'|e'|⟨rfl,e'⟩
   ·exact⟨fun h1=>nG k h1 (.inr e'),fun h1=>nT k h1 e',fun h1=>Td k h1 (.inr e'),fun h1=>nF k h1 (.inr e')⟩
   ·subst e'
    have y5:=h.od _ rm;refine⟨fun h1=>?_,fun h1=>?_,fun h1=>?_,fun h1=>?_⟩
    ·rcases(L9 _ h1).1 with h2|h2
     ·exact y5.1 h2
     ·omega
    ·rcases L8 _ h1.1 with h2|h2
     ·exact y5.2.1 h2
     ·omega
    ·rcases Ic _ h1 with h2|h2
     ·exact y5.2.2.1 h2
     ·omega
    ·rcases(Ma _ h1).1 with h2|h2
     ·exact y5.2.2.2 h2
     ·omega
   ·exact big e'
  ·show x≠m.mb/\x≠xW/\x≠m.cb/\m.mb≠xW/\m.mb≠m.cb/\xW≠m.cb
   rcases Hi with h5|h5
   ·rw [h5];exact⟨L7,Nn,JI,Nl,L6,Nk⟩
   ·exact⟨L7,by omega,JI,by omega,L6,by omega⟩
  ·intro k e
   have hblk:=(Row.bW yq (k:=xW) rfl).2;obtain⟨cur,vx⟩:=hblk;have lib:=a7 vx;rcases e with e|e
   ·rcases e with e|e|e|e
    ·have:=(L9 k e).2;omega
    ·have:=e.2;omega
    ·rcases Ic k e with h2|h2
     ·have:=DS k h2;omega
     ·omega
    ·rcases e with e|e|e|e
     ·omega
     ·have e:k=m.mb:=e;omega
     ·have e:k=xW:=e;omega
     ·have e:k=m.cb:=e;omega
   ·have:=(Ma k e).2;omega
 ·refine kv.trans kA (fun k _ e=>?_)
  rcases e with e|e
  ·exact .inr (.inl e)
  ·exact .inr (.inr (.inr (BJ k e)))
 ·intro k e
  rcases e with e|e|e|e
  ·exact(L9 k e).1.imp (fun h=>.inl h) (fun h=>h)
  ·rcases L8 k e.1 with h5|h5
   ·exact .inl (.inr (.inl h5))
   ·exact .inr (by omega)
  ·rcases Ic k e with h5|h5
   ·exact .inl (.inr (.inr (.inl h5)))
   ·exact .inr (by omega)
  ·rcases e with e|e|e|e
   ·exact .inl (.inr (.inr (.inr (.inl e))))
   ·exact .inl (.inr (.inr (.inr (.inr (.inl e)))))
   ·rcases Hi with h5|h5
    ·exact .inl (.inr (.inr (.inr (.inr (.inr (.inl (e.trans h5)))))))
    ·exact .inr (by omega)
   ·exact .inl (.inr (.inr (.inr (.inr (.inr (.inr e))))))
 ·exact fun k e=>(Ma k e).1
end
section
variable{w w':World}{F S:Nat->Prop}{x:Nat}{D:DG}{P:List Int}{m:XM}{K:Value->World->Prop}
theorem CG{u v:World}{hid s:HT}{D':DG}{ps pl:List HT}{BY ob i:Nat}{A7:Option Addr}{c7:Nat}{b8:Int}{sb:Addr}{f0:HT->Option Value}{Q:aM}{Rq:Option Nat}
 (h:XV w F x D P m) (hD:D.length<=5000) (hwu:w.heap.size<=u.heap.size)
 (jo:u.heap[x]? =some (.cells #[.pointer (some ⟨m.g,0,none⟩),.pointer (some ⟨m.t,0,none⟩),.map (some m.mb),.slice (some ⟨m.ib,0,none⟩) D.length m.ic,.map (some m.cb)] dA (0,0)))
 (KW:u.heap[BY]? =some (.cells hid.1 ax (0,0))) (acd:w.heap.size<=BY) (hold:dY u ob f0) (ab9:w.heap.size<=ob) (UI:Rq=some ob)
 (Zj:∀y,(y=s\/fE D y s->f0 y=some (.agg #[.bool true]))/\(¬(y=s\/fE D y s)->f0 y=none))
 (yp:cm u w.heap.size A7 pl.length c7 pl) (rF:pl.length<=10000)
 (kv:Kept (· =m.cb) u v) (hi:i<=pl.length) {Z:HT->HT->Prop}
 (La:∃f,dY v m.cb f/\∀y,∃l,mK v (fun k=>m.SO k\/(u.heap.size<=k/\k<v.heap.size)) (D.length+if y∈pl.take i then 1 else 0) (f y) l/\∀c,c∈l↔Ji D P y c\/(c=hid/\y∈pl.take i/\y≠s/\¬fE D y s)) (gJ:pl.Nodup)
 (hQ:∀v',Kept (· =m.cb) u v'->(∃f,dY v' m.cb f/\∀y,∃l,mK v' (fun k=>m.SO k\/(u.heap.size<=k/\k<v'.heap.size)) (D.length+if y∈pl.take (i+1)then 1 else 0) (f y) l/\∀c,c∈l↔Ji D P y c\/(c=hid/\y∈pl.take (i+1)/\y≠s/\¬fE D y s))->i<pl.length->
   Q .normal (aD.e2 (some ⟨x,0,none⟩) ⟨BY,0,none⟩ sb b8 Rq A7 pl.length c7 (pl.length:Int) ((i:Int)+1)) v')
 (hE:i=pl.length->Q (.exit 3) (aD.e2 (some ⟨x,0,none⟩) ⟨BY,0,none⟩ sb b8 Rq A7 pl.length c7 (pl.length:Int) (i:Int)) v):
 aD.B2 (some ⟨x,0,none⟩) ⟨BY,0,none⟩ sb b8 Rq A7 pl.length c7 (pl.length:Int) (i:Int) Q v:=by
 subst UI;have UE:m.own x x:=.inl rfl;have rm:m.own x m.cb:=.inr (.inr (.inr rfl));obtain⟨L7,Nn,JI,Nl,L6,Nk⟩:=h.ne;have Nw:m.cb<w.heap.size:=h.low _ (.inl (.inr (.inr (.inr rm))));have sv:=kv.size;unfold aD.B2;refine Split.dec (fun lE=>?_) (fun iG=>hE (by omega));have eV:i<pl.length:=by omega
 obtain⟨y,hy⟩:∃y,pl[i]? =some y:=⟨_,List.getElem?_eq_getElem eV⟩;have RE:y∉pl.take i:=fun hm=>by
  obtain⟨j,hj⟩:=List.mem_iff_getElem?.1 hm;rw [List.getElem?_take]at hj;split at hj
  ·rename_i cI
   have h1:=jy 0 j gJ hj;rw [jy 0 i gJ hy]at h1;simp only [Option.some.injEq]at h1;omega
  ·cases hj
 have JD:HS v A7 pl.length pl:=cm.hs (Row.aK yp kv (fun k hk e=>by have:=(Row.bW yp hk).1;omega));refine JD.load (i:=(i:Int)) (by omega) (by rw [Int.toNat_natCast];exact hy) ?_;intro w81;obtain⟨ri,ju,jc⟩:=fY (w:=v) (z:=(yM 0)) (cs:=y.1) (t:=ax) (by rw [y.2.1];rfl);refine⟨⟨y.2.1,y.2.one,fun j hj=>ri j (by rw [y.2.1];exact hj)⟩,?_⟩;intro Jo
 replace ju:Jo.heap[v.heap.size]? =some (.cells y.1 ax (0,0)):=ju
 replace jc:Kept Nil v Jo:=jc
 clear_value Jo;have Rz:Kept (· =m.cb) u Jo:=kv.trans jc (fun _ _ h=>h.elim);have KG:dY Jo ob f0:=hold.aK Rz (fun e=>by omega);have lk:=KG.look DM y;obtain⟨f,hf,hc⟩:=La;have P3:=hf.aK jc (fun h=>h);obtain⟨l,vy,FQ⟩:=hc y;have Uc:=jc.size;have Jc:∀ {v':World} {N N':Nat} {a:Option Value} {l:List HT},v.heap.size<=v'.heap.size->N<=N'->mK v' (fun k=>m.SO k\/(u.heap.size<=k/\k<v.heap.size)) N a l->mK v' (fun k=>m.SO k\/(u.heap.size<=k/\k<v'.heap.size)) N' a l:=fun hv hN xq=>by
  rcases xq with xq|⟨A,n,c,h1,h2,h3,h4,h5⟩
  ·exact .inl xq
  ·exact .inr ⟨A,n,c,h1,h2,h3,by omega,fun a ha=>(h5 a ha).imp (fun h=>h) (fun h=>⟨h.1,by omega⟩)⟩
 have Je:∀ {v':World} {N:Nat} {a:Option Value} {l:List HT},Kept (· =m.cb) v v'->mK v (fun k=>m.SO k\/(u.heap.size<=k/\k<v.heap.size)) N a l->mK v' (fun k=>m.SO k\/(u.heap.size<=k/\k<v.heap.size)) N a l:=fun hk xq=>xq.aK hk (fun k mX e=>by
  rcases mX with h1|h1
  ·exact(h.od _ rm).2.2.1 (e▸h1)
  ·omega)
 refine⟨y.1,⟨y.2.1,Cells.bW ju⟩,?_⟩;by_cases iL:y=s\/fE D y s
 ·rw [(Zj y).1 iL]at lk
  refine⟨_,lk,true,rfl,Split.no rfl ?_⟩;rw [eF (n:=(i:Int)) (by omega) (by omega)];refine hQ Jo Rz ⟨f,P3,fun z=>?_⟩ eV;obtain⟨lz,h1,h2⟩:=hc z;refine⟨lz,Jc Uc (by
   by_cases hz:z∈pl.take i
   ·rw [if_pos hz,if_pos ((bI hy).2 (.inl hz))];exact Nat.le_refl _
   ·rw [if_neg hz];omega) (Je (jc.mono (fun _ _ h=>h.elim)) h1),fun c=>?_⟩
  rw [h2,bI hy];constructor
  ·rintro(h3|⟨h3,h4,h5,h6⟩)
   ·exact .inl h3
   ·exact .inr ⟨h3,.inl h4,h5,h6⟩
  ·rintro(h3|⟨h3,h4|rfl,h5,h6⟩)
   ·exact .inl h3
   ·exact .inr ⟨h3,h4,h5,h6⟩
   ·exact absurd iL (fun e=>e.elim h5 h6)
 ·rw [(Zj y).2 iL]at lk
  refine⟨_,lk,false,rfl,Split.yes rfl ?_⟩;intro zP;have NK:Kept Nil Jo zP:=(Kept.refl _ _).drew;clear_value zP;have Tn:=jc.tt NK;have EK:=NK.heap ju (fun h=>h);have qV:∀ {q:World},Kept Nil zP q->q.cell? ((⟨x,0,none⟩:Addr).add 4)=some (.map (some m.cb)):=fun k=>by
   rw [bt,aA (k.heap (NK.heap (Rz.heap jo (fun e=>JI e)) (fun h=>h)) (fun h=>h))];rfl
  have mF:∀ {q:World},Kept Nil zP q->∃cs:Array Value,(.agg y.1:Value)=.agg cs/\cs.size=32/\Cells q (aU v.heap.size) cs:=fun k=>⟨y.1,rfl,y.2.1,Cells.bW (k.heap EK (fun h=>h))⟩;have IP:zP.heap[BY]? =some (.cells hid.1 ax (0,0)):=NK.heap (Rz.heap KW (fun e=>by omega)) (fun h=>h);have VC:∀ {q:World},Kept Nil zP q->∃cs:Array Value,(.agg hid.1:Value)=.agg cs/\cs.size=32/\Cells q (⟨BY,0,none⟩:Addr) cs:=fun k=>⟨hid.1,rfl,hid.2.1,Cells.bW (k.heap IP (fun h=>h))⟩;have P0:=P3.aK NK (fun h=>h);obtain⟨A,n,c,eA,Cc,FL,hnN⟩:∃(A:Option Addr) (n c:Nat),(f y).getD (.slice none 0 0)=.slice A n c/\n<=c/\HS v A n l/\n<=D.length:=by
   rcases vy with⟨h1,h2⟩|⟨A,n,c,h1,h2,h3,h4,_⟩
   ·exact⟨none,0,0,by rw [h1];rfl,Nat.le_refl _,by rw [h2];exact HS.nil _ _,by omega⟩
   ·rw [if_neg RE]at h4
    exact⟨A,n,c,by rw [h1];rfl,h2,h3,by omega⟩
  have XW:∀ {q:World},Kept Nil zP q->(Instr.lookup fI (.map (some m.cb)) (.agg y.1) false).run prog q=.ok (.slice A n c) q:=fun k=>by
   have:=(P0.aK k (fun h=>h)).look vi y;rw [eA]at this;exact this
  have fin:∀ {q:World} {bb:Nat},Kept Nil zP q->HS q (some ⟨bb,0,none⟩) 1 [hid]->
   ∃(A':Option Addr) (n' c':Nat) (q2:World),(Builtin.append_ #[aV,aV] aV #[.slice A n n,.slice (some ⟨bb,0,none⟩) 1 1]).run prog q=.ok (.slice A' n' c') q2/\(∃cs:Array Value,(.agg y.1:Value)=.agg cs/\cs.size=32/\Cells q2 (aU v.heap.size) cs)/\q2.cell? ((⟨x,0,none⟩:Addr).add 4)=some (.map (some m.cb))/\
    ∃q3:World,(Instr.mapUpdate fI (.map (some m.cb)) (.agg y.1) (.slice A' n' c')).run prog q2=.ok () q3/\Q .normal (aD.e2 (some ⟨x,0,none⟩) ⟨BY,0,none⟩ sb b8 (some ob) A7 pl.length c7 (pl.length:Int) (i64.wrap ((i:Int)+(1:Int)))) q3:=by
   intro q bb kq Cl;have Tm:=Tn.tt kq;obtain⟨A',c',q2,hr,yP,y7,o6,X5⟩:=vH (cx:=1) (FL.same Tm) Cl (by omega);have k2:=kq.tt X5;obtain⟨q3,CX,hf3,k3⟩:=(P0.aK k2 (fun h=>h)).put vi y (.slice A' (n+1) c');refine⟨A',_,c',q2,hr,mF k2,qV k2,q3,CX,?_⟩;rw [eF (n:=(i:Int)) (by omega) (by omega)];have NC:=Tm.tt X5;have NB:Kept (· =m.cb) v q3:=(NC.mono (S':=(· =m.cb)) (fun _ _ h=>h.elim)).tt k3;have sq2:=NC.size;have sq3:=k3.size;have svq:=Tm.size;refine hQ q3 (kv.tt NB) ⟨_,hf3,fun z=>?_⟩ eV;by_cases hz:z=y
   ·subst hz
    refine⟨l++ [hid],.inr ⟨A',n+1,c',by simp,y7,yP.aK k3 (fun a ha e=>by have:=(o6 a ha).1;omega),?_,fun a ha=>.inr ?_⟩,fun c=>?_⟩
    ·rw [if_pos ((bI hy).2 (.inr rfl))];omega
    ·have:=o6 a ha;omega
    ·rw [List.mem_append,List.mem_singleton,FQ,bI hy]
     constructor
     ·rintro((h3|⟨h3,h4,h5,h6⟩)|h3)
      ·exact .inl h3
      ·exact .inr ⟨h3,.inl h4,h5,h6⟩
      ·exact .inr ⟨h3,.inr rfl,fun e=>iL (.inl e),fun e=>iL (.inr e)⟩
     ·rintro(h3|⟨h3,h4,h5,h6⟩)
      ·exact .inl (.inl h3)
      ·exact .inr h3
   ·obtain⟨lz,h1,h2⟩:=hc z
    refine⟨lz,?_,fun c=>?_⟩
    ·simp only [hz,if_false]
     refine Jc (by omega) ?_ (Je NB h1);by_cases TG:z∈pl.take i
     ·rw [if_pos TG,if_pos ((bI hy).2 (.inl TG))];exact Nat.le_refl _
     ·rw [if_neg TG];omega
    ·rw [h2,bI hy]
     constructor
     ·rintro(h3|⟨h3,h4,h5,h6⟩)
      ·exact .inl h3
      ·exact .inr ⟨h3,.inl h4,h5,h6⟩
     ·rintro(h3|⟨h3,h4|h4,h5,h6⟩)
      ·exact .inl h3
      ·exact .inr ⟨h3,h4,h5,h6⟩
      ·exact absurd h4 hz
  refine⟨_,qV (Kept.refl _ _),y.1,⟨y.2.1,Cells.bW EK⟩,_,qV (Kept.refl _ _),y.1,⟨y.2.1,Cells.bW EK⟩,A,n,c,XW (Kept.refl _ _),hid.1,⟨hid.2.1,Cells.bW IP⟩,?_,⟨hid.2.1,?_⟩⟩
  ·refine uX Cc ⟨A,n,n,rfl,VC (Kept.refl _ _),mF (Kept.refl _ _),qV (Kept.refl _ _),hid.2.1,?_⟩
   intro Bg;have yH:Kept Nil zP Bg:=(Kept.refl _ _).alloc _;have Qw:HS Bg (some ⟨zP.heap.size,0,none⟩) 1 [hid]:=lj zP hid;clear_value Bg;exact⟨mF yH,qV yH,fin yH Qw⟩
  ·intro Js
   have xc:Kept Nil zP Js:=(Kept.refl _ _).alloc _;have Qv:HS Js (some ⟨zP.heap.size,0,none⟩) 1 [hid]:=lj zP hid;clear_value Js;exact⟨XW xc,mF xc,qV xc,mF xc,qV xc,uX Cc ⟨A,n,n,rfl,mF xc,qV xc,fin xc Qv⟩⟩
end
def qZ(D:DG)(h s:HT)(l:List HT):DG:=if gR D h s l=0 then D++ [⟨h,di l⟩]else D
def qY(D:DG)(P:List Int)(h s:HT)(l:List HT):List Int:=if gR D h s l=0 then P++ [(((pos s (ids D) 0).getD 0:Nat):Int)]else P
section
variable{w w':World}{F S:Nat->Prop}{x:Nat}{D:DG}{P:List Int}{m:XM}{K:Value->World->Prop}
theorem BG(h:XV w F x D P m)(hD:D.length<=5000)(hT:p0 w)(Lm:¬m.SG (Tryz.jg.g 1)){A:Option Addr}{n cx:Nat}{lp:List HT}(hl:HS w A n lp)(hn:n<=5000)(hid s:HT)
 (rG:∀v,Kept Nil w v->gR D hid s lp≠0->K (.int .i64 (gR D hid s lp)) v)
 (Ek:∀u S' F',zL u S' F' x (qZ D hid s lp) (qY D P hid s lp)->Kept (fun k=>m.jb x k) w u->(∀k,S' k->m.jb x k\/w.heap.size<=k)->(∀k,F' k->F k\/w.heap.size<=k)->gR D hid s lp=0->K (.int .i64 0) u):
 bf prog aD.id #[.pointer (some ⟨x,0,none⟩),.agg hid.1,.agg s.1,.slice A n cx] w K:=by
 have hlen:=hl.len;have W:=h.W;refine aD.of ?_;unfold aD.W;intro w5 w6;have k5:Kept Nil w w5:=(Kept.refl _ _).alloc _;have PH:w5.heap[w.heap.size]? =some (.cells hid.1 ax (0,0)):=aR w _;have k6:Kept Nil w5 w6:=(Kept.refl _ _).alloc _;have Mm:w6.heap[w5.heap.size]? =some (.cells s.1 ax (0,0)):=aR w5 _;clear_value w6;have RX:=k6.heap PH (fun h=>h);have qp:=k5.tt k6;have s5:=k5.size;have l5:=a7 PH;obtain⟨bl,c,mbg,M,G⟩:=h.G;have hG:∀ {v:World},Kept Nil w v->GV v m.SG F m.g D (fH D) bl c mbg M:=fun k=>G.same k;refine qG (h.same qp) ⟨true,rfl,Split.no rfl ⟨_,(h.same qp).c0,hid.1,⟨hid.2.1,Cells.bW RX⟩,?_⟩⟩;refine pS (hG qp) hid fun ko Mg=>⟨_,rfl,?_⟩;have GW:=qp.tt Mg;by_cases gK:hid∈ids D
 ·have e:gR D hid s lp=7:=by simp [gR,eB,gK]
  have:=rG ko GW (by rw [e];decide);rw [e]at this;exact Split.yes (decide_eq_true gK) this
 refine Split.no (decide_eq_false gK) ?_;by_cases h0:n=0
 ·have el:lp= []:=List.length_eq_zero_iff.1 (by omega)
  have e:gR D hid s lp=9:=by subst el;simp [gR,eB,gK,Gi]
  have:=rG ko GW (by rw [e];decide);rw [e]at this;exact Split.yes (by simp [h0]) this
 refine Split.no (by simp [h0]) ?_;refine fV (hl.same GW) (by omega) fun A17 c17 uu XC Ea=>⟨A17,_,c17,rfl,?_⟩;have GU:=GW.tt Ea;have fG:lp≠ []:=fun e=>h0 (by rw [<-hlen,e];rfl);by_cases FL:¬(di lp).length=n
 ·have e:gR D hid s lp=9:=by
   have h1:(di lp).length=0\/(di lp).length≠lp.length:=.inr (by omega);have h2:eB D hid lp=9:=by unfold eB;rw [if_neg gK,if_pos h1]
   simp [gR,h2]
  have:=rG uu GU (by rw [e];decide);rw [e]at this;exact Split.yes (by simp only [bne_iff_ne,ne_eq];omega) this
 replace FL:=Classical.not_not.1 FL
 refine Split.no (by rw [FL];simp) ?_;refine og (h.same GU) (hl.same GU) (by omega) fun Ba xV=>⟨_,rfl,?_⟩;have JX:=GU.tt xV;have O9:¬((di lp).length=0\/(di lp).length≠lp.length):=by omega
 by_cases cV:¬∀p∈lp,p∈ids D
 ·have hex:∃p∈di lp,p∉ids D:=Classical.byContradiction fun hc=>cV fun p hp=>Classical.byContradiction fun hq=>hc ⟨p,dJ.2 hp,hq⟩
  have e:gR D hid s lp=6:=by
   have:eB D hid lp=6:=by unfold eB;rw [if_neg gK,if_neg O9,if_pos hex]
   simp [gR,this]
  have:=rG Ba JX (by rw [e];decide);rw [e]at this;exact Split.yes (by rw [decide_eq_false cV];rfl) this
 replace cV:=Classical.not_not.1 cV
 refine Split.no (by rw [decide_eq_true cV];rfl) ?_;have VJ:¬∃p∈di lp,p∉ids D:=fun⟨p,hp,hq⟩=>hq (cV p (dJ.1 hp));have eC:eB D hid lp=0:=by unfold eB;rw [if_neg gK,if_neg O9,if_neg VJ]
 have NN:=(Mg.tt Ea).tt xV;refine⟨s.1,⟨s.2.1,Cells.bW (NN.heap Mm (fun h=>h))⟩,?_⟩;refine tZ s (hl.same JX) (by omega) fun km pZ=>⟨_,rfl,?_⟩;have yI:=JX.tt pZ;by_cases B7:¬s∈lp
 ·have e:gR D hid s lp=2:=by simp [gR,eC,B7]
  have:=rG km yI (by rw [e];decide);rw [e]at this;exact Split.yes (by rw [decide_eq_false B7];rfl) this
 replace B7:=Classical.not_not.1 B7
 refine Split.no (by rw [decide_eq_true B7];rfl) ?_;have eX:gR D hid s lp=0:=by simp [gR,eC,B7]
 have GI:=NN.tt pZ;obtain⟨mj,Pg,UW⟩:=dB.1 (cV s B7);obtain⟨j,hj⟩:=List.mem_iff_getElem?.1 Pg;have eP:qY D P hid s lp=P++ [(j:Int)]:=by
  unfold qY;rw [if_pos eX,<-UW,W.pos_eq hj];rfl
 have eD:qZ D hid s lp=D++ [⟨hid,di lp⟩]:=by unfold qZ;rw [if_pos eX]
 intro A9;have D5:Kept Nil km A9:=(Kept.refl _ _).alloc _;have U1:dY A9 km.heap.size (fun _=>none):=dY.new km;clear_value A9;have OE:=(GI.tt D5).heap Mm (fun h=>h);obtain⟨CP,Ur,Pl,GP⟩:=U1.put DM s (.agg #[.bool true]);refine⟨s.1,⟨s.2.1,Cells.bW OE⟩,CP,Ur,?_⟩;have ob0:w5.heap.size<km.heap.size:=by have:=a7 Mm;have:=GI.size;omega
 have Ud:=GP.heap OE (fun e=>by omega);refine⟨s.1,⟨s.2.1,Cells.bW Ud⟩,s.2.1,?_⟩;intro L4;have TC:Kept Nil CP L4:=(Kept.refl _ _).alloc _;have TR:HS L4 (some ⟨CP.heap.size,0,none⟩) 1 [s]:=lj CP s;clear_value L4;have aaz:=yI.size;have D6:Kept Nil km L4:=(D5.trans GP (fun k hk e=>by omega)).tt TC;have JV:=yI.tt D6;refine sW (hG JV) W (by omega) (hT.same JV) TR (by omega) fun A32 Q3 ur H4 Ii=>⟨A32,_,Q3,rfl,?_⟩;have TE:=JV.tt Ii;have U0:dY ur km.heap.size (fun z=>if z=s then some (.agg #[.bool true])else none):=(Pl.aK TC (fun h=>h)).aK Ii (fun h=>h);have p1:=pv D fun a=>∃z∈ [s],fE D a z
 change (eT D [s]).length<=_ at p1
 have Xz:=D6.size;have ob1:=Pl.lt;have s30:=TC.size;have ID:∀y,y∈eT D [s]↔fE D y s:=fun y=>by
  unfold eT;rw [jK];constructor
  ·rintro⟨_,z,hz,e⟩
   rw [List.mem_singleton]at hz
   rwa [hz]at e
  ·exact fun e=>⟨(e.mem W).1,s,by simp,e⟩
 have aaS:∀k,k=km.heap.size->¬k<w.heap.size:=fun k e=>by omega
 refine aD.b9 (I:=fun i v=>∃(q:Nat) (f:HT->Option Value),i=(q:Int)/\q<=(eT D [s]).length/\dY v km.heap.size f/\(∀y,(y=s\/y∈(eT D [s]).take q->f y=some (.agg #[.bool true]))/\(¬(y=s\/y∈(eT D [s]).take q)->f y=none))/\Kept (· =km.heap.size) ur v)
  (μ:=fun i _=>(((eT D [s]).length:Int)-i).toNat) (s:=0) ⟨0,_,rfl,Nat.zero_le _,U0,fun y=>⟨fun e=>by
    rcases e with e|e
    ·rw [if_pos e]
    ·simp at e,fun e=>if_neg fun e'=>e (.inl e')⟩,Kept.refl _ _⟩ ?_
 rintro i v ⟨q,f,rfl,hq,YV,K5,kv⟩;have vn:Kept Nil w v:=TE.trans kv (fun k hk e=>by omega);refine Split.dec (fun lE=>?_) (fun iG=>?_)
 ·have eV:q<(eT D [s]).length:=by omega
  obtain⟨y,hy⟩:∃y,(eT D [s])[q]? =some y:=⟨_,List.getElem?_eq_getElem eV⟩;have JD:=cm.hs (Row.aK H4 kv (fun k hk e=>by have:=(Row.bW H4 hk).1;omega));refine JD.load (i:=(q:Int)) (by omega) (by rw [Int.toNat_natCast];exact hy) ?_;intro HX;obtain⟨ri,ju,jc⟩:=fY (w:=v) (z:=(yM 0)) (cs:=y.1) (t:=ax) (by rw [y.2.1];rfl);refine⟨⟨y.2.1,y.2.one,fun j hj=>ri j (by rw [y.2.1];exact hj)⟩,?_⟩;intro SK
  replace ju:SK.heap[v.heap.size]? =some (.cells y.1 ax (0,0)):=ju
  replace jc:Kept Nil v SK:=jc
  clear_value SK;obtain⟨Dd,KD,UY,RA⟩:=(YV.aK jc (fun h=>h)).put DM y (.agg #[.bool true]);refine⟨y.1,⟨y.2.1,Cells.bW ju⟩,Dd,KD,?_⟩;rw [eF (n:=(q:Int)) (by omega) (by omega)];refine⟨(q:Int)+1,rfl,⟨q+1,_,rfl,eV,UY,fun z=>?_,(kv.trans jc (fun _ _ h=>h.elim)).tt RA⟩,by simp only;omega⟩;rw [bI hy];constructor
  ·intro e
   by_cases hz:z=y
   ·rw [if_pos hz]
   ·rw [if_neg hz]
    exact(K5 z).1 (e.imp (fun h=>h) (fun h=>h.resolve_right hz))
  ·intro e
   rw [if_neg (fun hz=>e (.inr (.inr hz)))];exact(K5 z).2 (fun e'=>e (e'.imp (fun h=>h) (fun h=>.inl h)))
 ·have Uw:q=(eT D [s]).length:=by omega
  subst Uw;rw [List.take_of_length_le (Nat.le_refl _)]at K5;rw [aY,aD.Jk];unfold aD.CI;have D4:Kept (· =km.heap.size) km v:=((D6.tt Ii).mono (S':=(· =km.heap.size)) (fun _ _ h=>h.elim)).tt kv;have RW:v.heap[w.heap.size]? =some (.cells hid.1 ax (0,0)):=D4.heap (GI.heap RX (fun h=>h)) (fun e=>by omega);have T8:v.heap[w5.heap.size]? =some (.cells s.1 ax (0,0)):=D4.heap (GI.heap Mm (fun h=>h)) (fun e=>by omega);have sv:=vn.size;have s2v:=D4.size;refine⟨hid.1,⟨hid.2.1,Cells.bW RW⟩,?_⟩;refine HK (hG vn) W (by omega) (hl.same vn) (by omega) hid fun CO S2 F2 QK BU Ln R9=>⟨_,rfl,?_⟩;rw [pX eC]at QK;have Gv:∀k,m.SG k->k<w.heap.size:=fun k e=>h.low k (.inl (.inl e));have s64:=BU.size;have KX:=BU.heap RW (fun e=>by have:=Gv _ e;omega);have OD:=BU.heap T8 (fun e=>by have:=Gv _ e;omega);have UX:=YV.aK BU (fun e=>by have:=Gv _ e;omega);refine⟨hid.1,⟨hid.2.1,Cells.bW KX⟩,hid.2.1,?_⟩;intro Db;have Ig:Kept Nil CO Db:=(Kept.refl _ _).alloc _;have TP:HS Db (some ⟨CO.heap.size,0,none⟩) 1 [hid]:=lj CO hid;clear_value Db;have Hg:∀p∈di lp,p∈ids D:=fun p hp=>cV p (dJ.1 hp);have W':jY (D++ [⟨hid,di lp⟩]):=W.snoc (nd:=⟨hid,di lp⟩) gK Hg (iI lp);obtain⟨Z2,c',Nr,M',Sv⟩:=QK;have JK:∀k,m.own x k->k<w.heap.size:=fun k e=>h.low k (.inl (.inr (.inr (.inr e))));have hTv:p0 CO:=(hT.same vn).aK BU Lm;refine sW (Sv.same Ig) W' (by simp;omega) (hTv.same Ig) TP (by omega) fun A69 c69 zQ DA NL=>⟨A69,_,c69,rfl,?_⟩;have uL:=Ig.tt NL;have Xx:=uL.size;have p2:=pv (D++ [⟨hid,di lp⟩]) fun a=>∃z∈ [hid],fE (D++ [⟨hid,di lp⟩]) a z
  change (eT (D++ [⟨hid,di lp⟩]) [hid]).length<=_ at p2
  rw [List.length_append,List.length_singleton]at p2;have yU:∀y,y∈eT (D++ [⟨hid,di lp⟩]) [hid]↔fE (D++ [⟨hid,di lp⟩]) y hid:=fun y=>by
   unfold eT;rw [jK];constructor
   ·rintro⟨_,z,hz,e⟩
    rw [List.mem_singleton]at hz
    rwa [hz]at e
   ·exact fun e=>⟨(e.mem W').1,hid,by simp,e⟩
  have mo:Kept (fun k=>m.SG k) w zQ:=((vn.mono (S':=fun k=>m.SG k) (fun _ _ h=>h.elim)).tt BU).trans uL (fun _ _ h=>h.elim);have JJ:∀k,m.own x k->¬m.SG k:=fun k e=>(h.od k e).1;have M0:=mo.heap h.top (JJ _ (.inl rfl));have gJ:(eT (D++ [⟨hid,di lp⟩]) [hid]).Nodup:=(iI _).nodup;obtain⟨f0,VI,VK⟩:=h.Sn;have XR:∀k,m.own x k->¬(k=m.cb)\/k=m.cb:=fun k _=>(Classical.em _).symm;have rm:m.own x m.cb:=.inr (.inr (.inr rfl));have Nw:=JK _ rm;generalize rF:eT (D++ [⟨hid,di lp⟩]) [hid]=pl at DA p2 yU gJ⊢;refine aD.iK (I:=fun i u=>∃q:Nat,i=(q:Int)/\q<=pl.length/\Kept (· =m.cb) zQ u/\∃f,dY u m.cb f/\∀y,∃l,mK u (fun k=>m.SO k\/(zQ.heap.size<=k/\k<u.heap.size)) (D.length+if y∈pl.take q then 1 else 0) (f y) l/\∀c,c∈l↔Ji D P y c\/(c=hid/\y∈pl.take q/\y≠s/\¬fE D y s))
   (μ:=fun i _=>((pl.length:Int)-i).toNat) (s:=0) ⟨0,rfl,Nat.zero_le _,Kept.refl _ _,f0,VI.aK mo (JJ _ rm),fun y=>?_⟩ ?_
  ·obtain⟨l,h1,h2⟩:=VK y
   refine⟨l,?_,fun c=>?_⟩
   ·rcases h1.aK mo (fun k e e'=>(h.gt k e').2 e)with h3|⟨A,n,c,g1,g2,g3,g4,g5⟩
    ·exact .inl h3
    ·exact .inr ⟨A,n,c,g1,g2,g3,by omega,fun a ha=>.inl (g5 a ha)⟩
   ·rw [h2]
    simp
  ·rintro i u ⟨q,rfl,Mo,ku,IU⟩
   refine CG h hD mo.size M0 (uL.heap KX (fun h=>h)) (Nat.le_refl _) ((UX.aK Ig (fun h=>h)).aK NL (fun h=>h)) (by omega) rfl
    (fun y=>⟨fun e=>(K5 y).1 (e.imp (fun h=>h) (fun h=>(ID y).2 h)),fun e=>(K5 y).2 (fun e'=>e (e'.imp (fun h=>h) (fun h=>(ID y).1 h)))⟩)
    (Row.base DA (fun b hb=>by have:=(Row.bW DA hb).1;have:=Ig.size;omega)) (by omega) ku Mo (Z:=fun _ _=>True) IU gJ (hid:=hid) (s:=s) (D':=D) (ps:= []) (fun v' kv' VA cI=>?_) (fun Uw=>?_)
   ·exact⟨(q:Int)+1,rfl,⟨q+1,rfl,cI,kv',VA⟩,by simp only;omega⟩
   ·subst Uw
    rw [aY];unfold aD.e2;rw [aD.SA];rw [List.take_of_length_le (Nat.le_refl _)]at IU;have DX:Kept (fun k=>m.SG k\/k=m.cb) w u:=(mo.mono (S':=fun k=>m.SG k\/k=m.cb) (fun _ _ h=>.inl h)).trans ku (fun _ _ h=>.inr h);have su:=ku.size;obtain⟨L7,Nn,JI,Nl,L6,Nk⟩:=h.ne;have aaL:∀k,F k->k<w.heap.size:=fun k e=>h.low k (.inr e);have Wp:GV zQ S2 F2 m.g (D++ [⟨hid,di lp⟩]) (fH (D++ [⟨hid,di lp⟩])) Z2 c' Nr M':=Sv.same uL;have nS2:∀k,S2 k->¬k=m.cb:=fun k h1 e=>by
     rcases Ln k h1 with h2|h2
     ·exact(h.od _ rm).1 (e▸h2)
     ·omega
    have nF2:∀k,F2 k->¬k=m.cb:=fun k h1 e=>by
     rcases R9 k h1 with h2|h2
     ·exact(h.od _ rm).2.2.2 (e▸h2)
     ·omega
    have NF:∀k,m.own x k->k≠m.cb->¬(m.SG k\/k=m.cb):=fun k e fG e'=>e'.elim (JJ k e) fG;refine Fp (s1:=CO.heap.size) (s2:=zQ.heap.size) (S2:=S2) (F2:=F2) (SO2:=fun k=>m.SO k\/(zQ.heap.size<=k/\k<u.heap.size)) (mj:=mj) h hD gK Hg (iI lp) hj UW (dJ.2 B7) (DX.heap h.top (NF _ (.inl rfl) JI))
     (Nat.le_refl _) (by omega) (ku.heap (uL.heap KX (fun h=>h)) (fun e=>by omega)) (ku.heap (uL.heap OD (fun h=>h)) (fun e=>by omega)) ⟨Z2,c',Nr,M',Wp.aK ku nS2 nF2⟩
     (h.T.aK DX (fun k e e'=>e'.elim (fun e'=>(h.gt k e').1 e) (fun e'=>(h.od _ rm).2.1 (e'▸e)))) (h.at_.aK DX (NF _ (.inr (.inl rfl)) L6)) (Row.aK h.row DX (fun k e=>by cases e;exact NF _ (.inr (.inr (.inl rfl))) Nk))
     ?_ (by omega) (by omega) su (fun k e=>⟨(Ln k e).imp (fun h=>h) (fun h=>by omega),Sv.low k (.inl e)⟩) (fun k e=>⟨(R9 k e).imp (fun h=>h) (fun h=>by omega),Sv.low k (.inr e)⟩) (fun k e=>e)
     (DX.mono (S':=fun k=>m.jb x k) (fun k _ e=>e.elim (fun e=>.inl e) (fun e=>.inr (.inr (.inr (.inr (.inr (.inr e)))))))) (fun u2 S' F' hI kU hSu I8=>?_)
    ·obtain⟨f,hf,hc⟩:=IU
     refine⟨f,hf,fun y=>?_⟩;obtain⟨l,h1,h2⟩:=hc y;refine⟨l,?_,fun c=>?_⟩
     ·rcases h1 with h3|⟨A,n,c,g1,g2,g3,g4,g5⟩
      ·exact .inl h3
      ·refine .inr ⟨A,n,c,g1,g2,g3,?_,g5⟩
       split at g4<;>omega
     ·rw [h2,Fc W h.mf (nd:=⟨hid,di lp⟩) gK Hg hj,UW]
      constructor
      ·rintro(h3|⟨h3,h4,h5,h6⟩)
       ·exact .inl h3
       ·exact .inr ⟨h3,(yU y).1 h4,h5,h6⟩
      ·rintro(h3|⟨h3,h4,h5,h6⟩)
       ·exact .inl h3
       ·exact .inr ⟨h3,(yU y).2 h4,h5,h6⟩
    ·refine Ek u2 S' F' ?_ kU hSu I8 eX
     rw [eD,eP];exact hI
end
def fy:HT:=hx 0 (by decide)
def cN(D:DG)(P:List Int)(h:HT)(l:List HT):Prop:=(h∉ids D/\l= [])\/∃(i:Nat) (nd:DN) (ks:List Nat),D[i]? =some nd/\nd.id=h/\Up P i ks/\l=ks.map (mM D)
theorem lO{D:DG}{i:Nat}{nd:DN}(h:D[i]? =some nd):mM D i=nd.id:=by unfold mM;rw [h]
theorem cN.ex{D:DG}{P:List Int}(H:rz D P)(h:HT):∃l,cN D P h l:=by
 by_cases hm:h∈ids D
 ·obtain⟨nd,gJ,e⟩:=dB.1 hm
  obtain⟨i,hi⟩:=List.mem_iff_getElem?.1 gJ;obtain⟨ks,hk⟩:=Up.ex H.par i (by rw [H.len];exact(lgeS hi).1);exact⟨_,.inr ⟨i,nd,ks,hi,e,hk,rfl⟩⟩
 ·exact⟨[],.inl ⟨hm,rfl⟩⟩
theorem cN.mem{D:DG}{P:List Int}(W:jY D)(H:rz D P){h:HT}{l:List HT}(c:cN D P h l){a:HT}:a∈l↔Ch D P a h:=by
 rcases c with⟨h1,rfl⟩|⟨i,nd,ks,h1,rfl,h3,rfl⟩
 ·simp only [List.not_mem_nil,false_iff]
  exact fun e=>h1 e.mem.2
 ·have eV:i<P.length:=by rw [H.len];exact(lgeS h1).1
  rw [List.mem_map];constructor
  ·rintro⟨k,hk,rfl⟩
   have hu:=(h3.mem H.par eV).1 hk;have CZ:=hu.Rs;rw [H.len]at CZ;obtain⟨nk,Mt⟩:∃nk,D[k]? =some nk:=⟨_,List.getElem?_eq_getElem CZ⟩;exact⟨i,k,nd,nk,h1,rfl,Mt,(lO Mt).symm,hu⟩
  ·rintro⟨i',k,ni,nk,g1,g2,g3,g4,g5⟩
   have:=W.inj g1 h1 g2;subst this;exact⟨k,(h3.mem H.par eV).2 g5,by rw [lO g3,g4]⟩
theorem cN.one{D:DG}{P:List Int}(W:jY D)(H:rz D P){h:HT}{l l':List HT}(c:cN D P h l)(c':cN D P h l'):l=l':=by
 rcases c with⟨h1,rfl⟩|⟨i,nd,ks,h1,h2,h3,rfl⟩
 ·rcases c' with⟨_,rfl⟩|⟨i,nd,ks,g1,g2,_,_⟩
  ·rfl
  ·exact absurd (dB.2 ⟨nd,List.mem_of_getElem? g1,g2⟩) h1
 ·rcases c' with⟨g1,rfl⟩|⟨i',nd',ks',g1,g2,g3,rfl⟩
  ·exact absurd (dB.2 ⟨nd,List.mem_of_getElem? h1,h2⟩) g1
  ·have:=W.inj h1 g1 (by rw [h2,g2])
   subst this;rw [Up.one H.par h3 g3]
section
variable{w w':World}{F S:Nat->Prop}{x:Nat}{D:DG}{P:List Int}{m:XM}{K:Value->World->Prop}
theorem XV.JE(h:XV w F x D P m){i:Nat}{nd:DN}(hi:D[i]? =some nd):Cells w ((⟨m.ib,0,none⟩:Addr).add (i*32)) nd.id.1:=by
 obtain⟨a,ha,_,hc⟩:=(cm.hs h.row).at_ i nd.id (rE hi);cases ha;exact hc
theorem XV.DH(h:XV w F x D P m){i:Nat}{nd:DN}(hi:D[i]? =some nd):∃td,m.T[i]? =some td/\P[i]? =some td.parent:=by
 have eV:=(lgeS hi).1;obtain⟨td,RG⟩:=Tr.eR (T:=m.T) (i:=i) (by rw [h.Jz];exact eV);exact⟨td,RG,by rw [<-h.bG];exact Tr.jJ RG⟩
theorem qH(a:HT)(hK:∀w' pb qb,Kept Nil w w'->w'.heap[pb]? =some (.cells #[.pointer (some ⟨x,0,none⟩)] e9 (0,0))->w'.heap[qb]? =some (.cells a.1 ax (0,0))->w.heap.size<=pb->w.heap.size<=qb->K (.func (.func aQ.id) #[] #[.pointer (some ⟨pb,0,none⟩),.pointer (some ⟨qb,0,none⟩)]) w'):
 bf prog eK.id #[.pointer (some ⟨x,0,none⟩),.agg a.1] w K:=by
 refine eK.of ?_;unfold eK.W;intro w3 w4;have k3:Kept Nil w w3:=(Kept.refl _ _).alloc _;have hp3:w3.heap[w.heap.size]? =some (.cells #[.pointer (some ⟨x,0,none⟩)] e9 (0,0)):=aR w _;have k4:Kept Nil w3 w4:=(Kept.refl _ _).alloc _;have hq4:w4.heap[w3.heap.size]? =some (.cells a.1 ax (0,0)):=aR w3 _;clear_value w4;exact hK w4 _ _ (k3.tt k4) (k4.heap hp3 (fun h=>h)) hq4 (Nat.le_refl _) k3.size
theorem zT{pb qb:Nat}{a:HT}{l:List HT}(hl:cN D P a l)(hD:D.length<=5000):
 lV prog aQ.id #[] #[.pointer (some ⟨pb,0,none⟩),.pointer (some ⟨qb,0,none⟩)] (l.map pR) (fun w=>XV w F x D P m/\w.heap[pb]? =some (.cells #[.pointer (some ⟨x,0,none⟩)] e9 (0,0))/\w.heap[qb]? =some (.cells a.1 ax (0,0))):=by
 intro y I Q w0 hI hQ pK h0 oU;obtain⟨hX,Mr,YL⟩:=pK 0 w0 h0;have W:=hX.W;have pI:=hX.mf;refine aQ.of ?_;unfold aQ.W;refine⟨_,by rw [aA Mr];rfl,a.1,⟨a.2.1,Cells.bW YL⟩,a.2.1,?_⟩;intro w6;have k6:Kept Nil w0 w6:=(Kept.refl _ _).alloc _;have pN:HS w6 (some ⟨w0.heap.size,0,none⟩) 1 [a]:=lj w0 a;clear_value w6;refine og (hX.same k6) pN (by omega) fun w8 k8=>⟨_,rfl,?_⟩;have Ef:=k6.tt k8;rcases hl with⟨rG,rfl⟩|⟨i,nd,ks,hi,hid,hup,rfl⟩
 ·exact Split.yes (by rw [decide_eq_false (by simpa using rG)];rfl) (.inl (hI 0 w0 w8 h0 Ef))
 ·have hm:a∈ids D:=dB.2 ⟨nd,List.mem_of_getElem? hi,hid⟩
  refine Split.no (by rw [decide_eq_true (by simpa using hm)];rfl) ?_;intro w10;have tR:Kept Nil w8 w10:=(Kept.refl _ _).drew;clear_value w10;have yJ:=Ef.tt tR;have rI:=hX.same yJ;have lk:=rI.at_.uI a;rw [<-hid,W.pos_eq hi]at lk;rw [hid]at lk;refine⟨some ⟨x,0,none⟩,by rw [aA (yJ.heap Mr (fun h=>h))];rfl,_,rI.c2,a.1,⟨a.2.1,Cells.bW (yJ.heap YL (fun h=>h))⟩,_,lk,?_⟩;have eV:i<P.length:=by rw [pI.len];exact(lgeS hi).1
  have OU:=pI.par;refine aQ.b9 (I:=fun s v=>∃(k:Nat) (dn rs:List Nat),s=(k:Int)/\ks=dn++rs/\Up P k rs/\k<P.length/\I dn.length v) (μ:=fun s _=>s.toNat) (s:=((i:Nat):Int)) ⟨i,[],ks,rfl,rfl,hup,eV,hI 0 w0 w10 h0 yJ⟩ ?_;rintro s v ⟨k,dn,rs,rfl,U7,Yy,CZ,hv⟩;obtain⟨Zx,OQ,hqv⟩:=pK _ v hv;rw [pI.len]at CZ;obtain⟨nk,Mt⟩:∃nk,D[k]? =some nk:=⟨_,List.getElem?_eq_getElem CZ⟩;refine⟨some ⟨x,0,none⟩,by rw [aA OQ];rfl,_,_,_,Zx.c3,⟨by omega,by omega⟩,nk.id.1,⟨nk.id.2.1,by rw [Int.toNat_natCast];exact Zx.JE Mt⟩,?_⟩;have eA:((ks.map (mM D)).map pR)[dn.length]? =some (pR nk.id):=by
   rw [List.getElem?_map,List.getElem?_map,U7,List.getElem?_append_right (Nat.le_refl _),Nat.sub_self,Yy.head];simp [lO Mt]
  refine(oU dn.length (pR nk.id) v eA hv).mono ?_;rintro b v' ⟨ht,hf⟩;cases b with
  |false=>
   refine Split.no rfl ?_;rw [aY,aQ.dw];exact .inr (hf rfl)
  |true=>
   refine Split.yes rfl ?_;have Wo:=ht rfl;cases Yy with
   |root=>
    refine Split.no rfl ?_;rw [aY,aQ.dw];refine .inl ?_;rw [List.length_map,List.length_map,U7,List.length_append];exact Wo
   | @step _ j rs' hj GZ=>
     have U9:=(Tr.gQ OU (Tr.dH.2 hj)).1;refine Split.yes (decide_eq_true (by omega)) ?_;obtain⟨Ll,Uz,_⟩:=pK _ v' Wo;obtain⟨td,RG,YB⟩:=Ll.DH Mt;rw [hj]at YB;have T5:(j:Int)=td.parent:=by simpa using YB
     refine⟨some ⟨x,0,none⟩,by rw [aA Uz];rfl,_,Ll.c1,Tr.wc Ll.T RG (by omega) ⟨_,_,rfl,?_⟩⟩;rw [<-T5];refine⟨(j:Int),rfl,⟨j,dn++ [k],rs',rfl,by rw [U7];simp,GZ,by rw [pI.len];omega,?_⟩,by simp only;omega⟩;rw [List.length_append];exact Wo
end
structure XN(w v:World)(r:HT)(own:Nat->Nat)(G T E I Z:Option Nat)(l:List HT):Prop where
 kp:Kept Nil w v
 gr:∀g,G=some g->∃SG,AX v SG (fun _=>False) g [⟨r,[]⟩]/\∀k,SG k->w.heap.size<=k/\own k=1
 tr:∀t,T=some t->∃ST,Tr.mZ v ST t Tr.oF 0/\∀k,ST k->w.heap.size<=k/\k<v.heap.size/\own k=2
 mp:∀b,E=some b->w.heap.size<=b/\own b=3/\IsMap v b l
 il:∀b,I=some b->w.heap.size<=b/\own b=4/\v.heap[b]? =some (.cells (r.1.toList++ []).toArray ax (0,0))
 cv:∀b,Z=some b->w.heap.size<=b/\own b=5/\dY v b (fun _=>none)
def tag(n t:Nat)(own:Nat->Nat)(k:Nat):Nat:=if n<=k then t else own k
theorem o8{n t k:Nat}{own:Nat->Nat}(h:k<n):tag n t own k=own k:=by unfold tag;rw [if_neg (by omega)]
theorem o9{n t k:Nat}{own:Nat->Nat}(h:n<=k):tag n t own k=t:=by unfold tag;rw [if_pos h]
section
variable{w v v':World}{r:HT}{own:Nat->Nat}{G T E I Z:Option Nat}{l:List HT}{K:Value->World->Prop}
theorem XN.grow(h:XN w v r own G T E I Z l)(t:Nat)(k:Kept Nil v v'):XN w v' r (tag v.heap.size t own) G T E I Z l:=by
 have hs:=k.size;refine⟨h.kp.tt k,fun g e=>?_,fun g e=>?_,fun b e=>?_,fun b e=>?_,fun b e=>?_⟩
 ·obtain⟨SG,h1,h2⟩:=h.gr g e
  exact⟨SG,h1.same k,fun q hq=>⟨(h2 q hq).1,by rw [o8 (by obtain⟨bl,c,mb,M,G⟩:=h1;exact G.low q (.inl hq))];exact(h2 q hq).2⟩⟩
 ·obtain⟨ST,h1,h2⟩:=h.tr g e
  exact⟨ST,h1.same k,fun q hq=>⟨(h2 q hq).1,by have:=(h2 q hq).2.1;omega,by rw [o8 (h2 q hq).2.1];exact(h2 q hq).2.2⟩⟩
 ·obtain⟨h1,h2,h3⟩:=h.mp b e
  exact⟨h1,by rw [o8 h3.lt];exact h2,h3.aK k (fun h=>h)⟩
 ·obtain⟨h1,h2,h3⟩:=h.il b e
  exact⟨h1,by rw [o8 (a7 h3)];exact h2,k.heap h3 (fun h=>h)⟩
 ·obtain⟨h1,h2,h3⟩:=h.cv b e
  exact⟨h1,by rw [o8 h3.lt];exact h2,h3.aK k (fun h=>h)⟩
theorem XN.fD(h:XN w v r own none T E I Z l){gb:Nat}(hG:AX v' (fun k=>v.heap.size<=k/\k<v'.heap.size) (fun _=>False) gb [⟨r,[]⟩])(k:Kept Nil v v'):XN w v' r (tag v.heap.size 1 own) (some gb) T E I Z l:=by
 have g:=h.grow 1 k;refine⟨g.kp,?_,g.tr,g.mp,g.il,g.cv⟩;intro g' e;cases e;have:=h.kp.size;exact⟨_,hG,fun q hq=>⟨by omega,o9 hq.1⟩⟩
theorem XN.rv(h:XN w v r own G none E I Z l){t:Nat}(hT:Tr.mZ v' (fun k=>v.heap.size<=k) t Tr.oF 0)(k:Kept Nil v v'):XN w v' r (tag v.heap.size 2 own) G (some t) E I Z l:=by
 have g:=h.grow 2 k;refine⟨g.kp,g.gr,?_,g.mp,g.il,g.cv⟩;intro t' e;cases e;have:=h.kp.size;exact⟨_,qz hT,fun q hq=>⟨by omega,hq.2,o9 hq.1⟩⟩
theorem XN.ry(h:XN w v r own G T none I Z []):XN w (v.alloc (.map #[] 0)) r (tag v.heap.size 3 own) G T (some v.heap.size) I Z []:=by
 have g:=h.grow 3 ((Kept.refl Nil v).alloc (.map #[] 0));refine⟨g.kp,g.gr,g.tr,?_,g.il,g.cv⟩;intro b e;cases e;exact⟨h.kp.size,o9 (Nat.le_refl _),⟨#[],0,aR v _,trivial⟩⟩
theorem XN.mT(h:XN w v r own G T E none Z l):XN w (v.alloc (.cells (r.1.toList++ []).toArray ax)) r (tag v.heap.size 4 own) G T E (some v.heap.size) Z l:=by
 have g:=h.grow 4 ((Kept.refl Nil v).alloc (.cells (r.1.toList++ []).toArray ax));refine⟨g.kp,g.gr,g.tr,g.mp,?_,g.cv⟩;intro b e;cases e;exact⟨h.kp.size,o9 (Nat.le_refl _),aR v _⟩
theorem XN.mS(h:XN w v r own G T E I none l):XN w (v.alloc (.map #[] 0)) r (tag v.heap.size 5 own) G T E I (some v.heap.size) l:=by
 have g:=h.grow 5 ((Kept.refl Nil v).alloc (.map #[] 0));refine⟨g.kp,g.gr,g.tr,g.mp,g.il,?_⟩;intro b e;cases e;exact⟨h.kp.size,o9 (Nat.le_refl _),dY.new v⟩
theorem XN.put{mb:Nat}(h:XN w v r own G T (some mb) I Z []):∃v',(Instr.mapUpdate b0 (.map (some mb)) (.agg r.1) (.int .i64 0)).run prog v=.ok () v'/\XN w v' r own G T (some mb) I Z [r]:=by
 obtain⟨h1,h2,h3⟩:=h.mp mb rfl;obtain⟨v',hr,hm,hk⟩:=h3.put (h:=r) (by simp);refine⟨v',hr,(h.kp.trans hk (fun k hk e=>by omega)),fun g e=>?_,fun g e=>?_,fun b e=>?_,fun b e=>?_,fun b e=>?_⟩
 ·obtain⟨SG,g1,g2⟩:=h.gr g e
  exact⟨SG,g1.aK hk (fun q hq e=>by have:=(g2 q hq).2;rw [e,h2]at this;cases this) (fun q hq=>hq.elim),g2⟩
 ·obtain⟨ST,g1,g2⟩:=h.tr g e
  exact⟨ST,g1.aK hk (fun q hq e=>by have:=(g2 q hq).2.2;rw [e,h2]at this;cases this),fun q hq=>⟨(g2 q hq).1,Nat.lt_of_lt_of_le (g2 q hq).2.1 hk.size,(g2 q hq).2.2⟩⟩
 ·cases e
  exact⟨h1,h2,hm⟩
 ·obtain⟨g1,g2,g3⟩:=h.il b e
  exact⟨g1,g2,hk.heap g3 (fun e=>by rw [e,h2]at g2;cases g2)⟩
 ·obtain⟨g1,g2,g3⟩:=h.cv b e
  exact⟨g1,g2,g3.aK hk (fun e=>by rw [e,h2]at g2;cases g2)⟩
theorem XN.fin{g t mb ib cb:Nat}{w0:World}(h:XN w v r own (some g) (some t) (some mb) (some ib) (some cb) [r])(hw:w0.heap.size<=w.heap.size):
 zL (v.alloc (.cells #[.pointer (some ⟨g,0,none⟩),.pointer (some ⟨t,0,none⟩),.map (some mb),.slice (some ⟨ib,0,none⟩) 1 1,.map (some cb)] dA)) (fun k=>w0.heap.size<=k/\k<(v.alloc (.cells #[.pointer (some ⟨g,0,none⟩),.pointer (some ⟨t,0,none⟩),.map (some mb),.slice (some ⟨ib,0,none⟩) 1 1,.map (some cb)] dA)).heap.size) (fun _=>False) v.heap.size [⟨r,[]⟩] [-1]:=by
 have jo:=aR v (.cells #[.pointer (some ⟨g,0,none⟩),.pointer (some ⟨t,0,none⟩),.map (some mb),.slice (some ⟨ib,0,none⟩) 1 1,.map (some cb)] dA);have kx:=(Kept.refl Nil v).alloc (.cells #[.pointer (some ⟨g,0,none⟩),.pointer (some ⟨t,0,none⟩),.map (some mb),.slice (some ⟨ib,0,none⟩) 1 1,.map (some cb)] dA);have hx:=a7 jo;generalize v.alloc (.cells #[.pointer (some ⟨g,0,none⟩),.pointer (some ⟨t,0,none⟩),.map (some mb),.slice (some ⟨ib,0,none⟩) 1 1,.map (some cb)] dA)=u at jo kx hx;obtain⟨SG,hG,gG⟩:=h.gr g rfl;obtain⟨ST,hT,gT⟩:=h.tr t rfl;obtain⟨m1,m2,m3⟩:=h.mp mb rfl;obtain⟨i1,i2,i3⟩:=h.il ib rfl;obtain⟨c1,c2,c3⟩:=h.cv cb rfl;have rp:∀k,SG k->k<v.heap.size:=fun k e=>by obtain⟨bl,c,mb,M,G⟩:=hG;exact G.low k (.inl e)
 have sw:=h.kp.size;have lm:=m3.lt;have li:=a7 i3;have lc:=c3.lt;have ET:∀ {a b:HT},¬fE [(⟨r,[]⟩:DN)] a b:=wx r;refine⟨⟨g,t,mb,ib,1,cb,Tr.oF,0,SG,ST,fun _=>False⟩,⟨jo,hG.same kx,hT.same kx,Tr.yr,rfl,⟨Int.le_refl 0,by show(0:Int)<=_;simp⟩,m3.aK kx (fun h=>h),?_,⟨_,c3.aK kx (fun h=>h),fun y=>⟨[],.inl ⟨rfl,rfl⟩,fun c=>?_⟩⟩,?_,jY.root r,?_,?_,?_,?_,?_,?_⟩,?_⟩
 ·have e:cF [r]=(r.1.toList++ []).toArray.toList:=by simp [cF]
  show Row _ _ _ _ _ _ _ (cF [r])
  rw [e];exact Row.made (kx.heap i3 (fun h=>h)) (Nat.zero_le _) (by simp [r.2.1]) (by show 1<=maxLen;decide)
 ·simp only [List.not_mem_nil,false_iff]
  exact fun hc=>ET hc.1
 ·refine⟨rfl,rfl,fun i p nd hi hp=>?_⟩
  cases i with
  |zero=>omega
  |succ i=>simp at hp
 ·exact fun k e=>⟨fun e'=>by have:=(gG k e).2;have:=(gT k e').2.2;omega,fun e'=>e'.elim⟩
 ·exact fun k e e'=>e'.elim
 ·exact fun k e=>e.elim
 ·intro k e
  have key:v.heap.size<=k\/3<=own k:=by
   rcases e with e|e|e|e
   ·exact .inl (by omega)
   ·exact .inr (by have e:k=mb:=e;rw [e];omega)
   ·exact .inr (by have e:k=ib:=e;rw [e];omega)
   ·exact .inr (by have e:k=cb:=e;rw [e];omega)
  refine⟨fun e'=>?_,fun e'=>?_,fun e'=>e'.elim,fun e'=>e'.elim⟩
  ·have h1:=(gG k e').2
   have h2:=rp k e';omega
  ·have h1:=(gT k e').2.2
   have h2:=(gT k e').2.1;omega
 ·refine⟨by show v.heap.size≠mb;omega,by show v.heap.size≠ib;omega,by show v.heap.size≠cb;omega,fun e=>?_,fun e=>?_,fun e=>?_⟩
  ·have e:mb=ib:=e
   rw [e]at m2;omega
  ·have e:mb=cb:=e
   rw [e]at m2;omega
  ·have e:ib=cb:=e
   rw [e]at i2;omega
 ·intro k e
  rcases e with e|e
  ·rcases e with e|e|e|e
   ·have:=rp k e;omega
   ·have:=(gT k e).2.1;omega
   ·exact e.elim
   ·rcases e with e|e|e|e
    ·omega
    ·have e:k=mb:=e;omega
    ·have e:k=ib:=e;omega
    ·have e:k=cb:=e;omega
  ·exact e.elim
 ·intro k e
  rcases e with e|e|e|e
  ·have:=rp k e;have:=(gG k e).1;omega
  ·have:=(gT k e).1;have:=(gT k e).2.1;omega
  ·exact e.elim
  ·rcases e with e|e|e|e
   ·omega
   ·have e:k=mb:=e;omega
   ·have e:k=ib:=e;omega
   ·have e:k=cb:=e;omega
structure XD(w o:World)(r:HT)(K:Value->World->Prop):Prop where
 cs:∀ {v:World},Kept Nil o v->∃cs:Array Value,(.agg r.1:Value)=.agg cs/\cs.size=32/\Cells v (aU w.heap.size) cs
 fin:∀ {v:World} {own:Nat->Nat} {g t mb ib cb:Nat},XN o v r own (some g) (some t) (some mb) (some ib) (some cb) [r]->K (.pointer (some ⟨v.heap.size,0,none⟩)) (v.alloc (.cells #[.pointer (some ⟨g,0,none⟩),.pointer (some ⟨t,0,none⟩),.map (some mb),.slice (some ⟨ib,0,none⟩) 1 1,.map (some cb)] dA))
end
section
variable{w o v e i z:World}{r:HT}{own:Nat->Nat}{g t:Nat}{K:Value->World->Prop}
theorem n1(D:XD w o r K)(h:XN o v r own (some g) (some t) (some e.heap.size) (some i.heap.size) (some z.heap.size) [r]):aw.N1 (some ⟨g,0,none⟩) (some ⟨t,0,none⟩) e i z K v:=by
 unfold aw.N1;exact D.fin h
theorem n2(D:XD w o r K)(h:XN o v r own (some g) (some t) (some e.heap.size) (some i.heap.size) none [r]):aw.N2 (some ⟨g,0,none⟩) (some ⟨t,0,none⟩) e i K v:=by
 unfold aw.N2;exact let n:=h.mS;n1 D n
theorem n3(D:XD w o r K)(h:XN o v r own (some g) (some t) (some e.heap.size) none (some z.heap.size) [r]):aw.N3 r.1 (some ⟨g,0,none⟩) (some ⟨t,0,none⟩) e z K v:=by
 unfold aw.N3;exact let n:=h.mT;⟨r.2.1,n1 D n⟩
theorem n4(D:XD w o r K)(h:XN o v r own (some g) (some t) (some e.heap.size) none none [r]):aw.N4 r.1 (some ⟨g,0,none⟩) (some ⟨t,0,none⟩) e w K v:=by
 unfold aw.N4;exact⟨(let n:=h.mT;⟨r.2.1,n2 D n⟩),(let n:=h.mS;⟨D.cs n.kp,n3 D n⟩)⟩
theorem n5(D:XD w o r K)(h:XN o v r own (some g) (some t) (some e.heap.size) (some i.heap.size) (some z.heap.size) []):aw.N5 e r.1 (some ⟨g,0,none⟩) (some ⟨t,0,none⟩) i z K v:=by
 unfold aw.N5;exact let ⟨u,q,n⟩:=h.put;⟨u,q,n1 D n⟩
theorem n6(D:XD w o r K)(h:XN o v r own (some g) (some t) (some e.heap.size) (some i.heap.size) none []):aw.N6 e r.1 (some ⟨g,0,none⟩) (some ⟨t,0,none⟩) i w K v:=by
 unfold aw.N6;exact⟨(let ⟨u,q,n⟩:=h.put;⟨u,q,n2 D n⟩),(let n:=h.mS;⟨D.cs n.kp,n5 D n⟩)⟩
theorem n7(D:XD w o r K)(h:XN o v r own (some g) (some t) (some e.heap.size) none (some z.heap.size) []):aw.N7 e r.1 r.1 w (some ⟨g,0,none⟩) (some ⟨t,0,none⟩) z K v:=by
 unfold aw.N7;exact⟨(let ⟨u,q,n⟩:=h.put;⟨u,q,D.cs n.kp,n3 D n⟩),(let n:=h.mT;⟨r.2.1,D.cs n.kp,n5 D n⟩)⟩
theorem n8(D:XD w o r K)(h:XN o v r own (some g) (some t) (some e.heap.size) none none []):aw.N8 e r.1 r.1 w (some ⟨g,0,none⟩) (some ⟨t,0,none⟩) K v:=by
 unfold aw.N8;exact⟨(let ⟨u,q,n⟩:=h.put;⟨u,q,D.cs n.kp,n4 D n⟩),(let n:=h.mT;⟨r.2.1,D.cs n.kp,n6 D n⟩),(let n:=h.mS;⟨D.cs n.kp,D.cs n.kp,n7 D n⟩)⟩
theorem n9(D:XD w o r K)(h:XN o v r own (some g) (some t) none (some i.heap.size) (some z.heap.size) []):aw.N9 r.1 w (some ⟨g,0,none⟩) (some ⟨t,0,none⟩) i z K v:=by
 unfold aw.N9;exact let n:=h.ry;⟨D.cs n.kp,n5 D n⟩
theorem n10(D:XD w o r K)(h:XN o v r own (some g) (some t) none (some i.heap.size) none []):aw.MP r.1 w (some ⟨g,0,none⟩) (some ⟨t,0,none⟩) i K v:=by
 unfold aw.MP;exact⟨(let n:=h.ry;⟨D.cs n.kp,n6 D n⟩),(let n:=h.mS;⟨D.cs n.kp,n9 D n⟩)⟩
theorem n11(D:XD w o r K)(h:XN o v r own (some g) (some t) none none (some z.heap.size) []):aw.Su r.1 w r.1 (some ⟨g,0,none⟩) (some ⟨t,0,none⟩) z K v:=by
 unfold aw.Su;exact⟨(let n:=h.ry;⟨D.cs n.kp,D.cs n.kp,n7 D n⟩),(let n:=h.mT;⟨r.2.1,D.cs n.kp,n9 D n⟩)⟩
theorem n12(D:XD w o r K)(h:XN o v r own (some g) (some t) none none none []):aw.LU r.1 w r.1 (some ⟨g,0,none⟩) (some ⟨t,0,none⟩) K v:=by
 unfold aw.LU;exact⟨(let n:=h.ry;⟨D.cs n.kp,D.cs n.kp,n8 D n⟩),(let n:=h.mT;⟨r.2.1,D.cs n.kp,n10 D n⟩),(let n:=h.mS;⟨D.cs n.kp,D.cs n.kp,n11 D n⟩)⟩
theorem n13(D:XD w o r K)(h:XN o v r own (some g) none (some e.heap.size) (some i.heap.size) (some z.heap.size) [r]):aw.HV (some ⟨g,0,none⟩) e i z K v:=by
 unfold aw.HV;exact Tr.dF fun _ _ q k=>let n:=h.rv q k;⟨_,rfl,n1 D n⟩
theorem n14(D:XD w o r K)(h:XN o v r own (some g) none (some e.heap.size) (some i.heap.size) none [r]):aw.LS (some ⟨g,0,none⟩) e i K v:=by
 unfold aw.LS;exact⟨(Tr.dF fun _ _ q k=>let n:=h.rv q k;⟨_,rfl,n2 D n⟩),(let n:=h.mS;n13 D n)⟩
theorem n15(D:XD w o r K)(h:XN o v r own (some g) none (some e.heap.size) none (some z.heap.size) [r]):aw.Ri r.1 w (some ⟨g,0,none⟩) e z K v:=by
 unfold aw.Ri;exact⟨(Tr.dF fun _ _ q k=>let n:=h.rv q k;⟨_,rfl,D.cs n.kp,n3 D n⟩),(let n:=h.mT;⟨r.2.1,n13 D n⟩)⟩
theorem n16(D:XD w o r K)(h:XN o v r own (some g) none (some e.heap.size) none none [r]):aw.MO r.1 w (some ⟨g,0,none⟩) e K v:=by
 unfold aw.MO;exact⟨(Tr.dF fun _ _ q k=>let n:=h.rv q k;⟨_,rfl,D.cs n.kp,n4 D n⟩),(let n:=h.mT;⟨r.2.1,n14 D n⟩),(let n:=h.mS;⟨D.cs n.kp,n15 D n⟩)⟩
theorem n17(D:XD w o r K)(h:XN o v r own (some g) none (some e.heap.size) (some i.heap.size) (some z.heap.size) []):aw.MN r.1 w e (some ⟨g,0,none⟩) i z K v:=by
 unfold aw.MN;exact⟨(Tr.dF fun _ _ q k=>let n:=h.rv q k;⟨_,rfl,D.cs n.kp,n5 D n⟩),(let ⟨u,q,n⟩:=h.put;⟨u,q,n13 D n⟩)⟩
theorem n18(D:XD w o r K)(h:XN o v r own (some g) none (some e.heap.size) (some i.heap.size) none []):aw.Rh r.1 w e (some ⟨g,0,none⟩) i K v:=by
 unfold aw.Rh;exact⟨(Tr.dF fun _ _ q k=>let n:=h.rv q k;⟨_,rfl,D.cs n.kp,n6 D n⟩),(let ⟨u,q,n⟩:=h.put;⟨u,q,n14 D n⟩),(let n:=h.mS;⟨D.cs n.kp,n17 D n⟩)⟩
theorem n19(D:XD w o r K)(h:XN o v r own (some g) none (some e.heap.size) none (some z.heap.size) []):aw.F6 r.1 w r.1 e (some ⟨g,0,none⟩) z K v:=by
 unfold aw.F6;exact⟨(Tr.dF fun _ _ q k=>let n:=h.rv q k;⟨_,rfl,D.cs n.kp,D.cs n.kp,n7 D n⟩),(let ⟨u,q,n⟩:=h.put;⟨u,q,D.cs n.kp,n15 D n⟩),(let n:=h.mT;⟨r.2.1,D.cs n.kp,n17 D n⟩)⟩
theorem n20(D:XD w o r K)(h:XN o v r own (some g) none (some e.heap.size) none none []):aw.Jh r.1 w r.1 e (some ⟨g,0,none⟩) K v:=by
 unfold aw.Jh;exact⟨(Tr.dF fun _ _ q k=>let n:=h.rv q k;⟨_,rfl,D.cs n.kp,D.cs n.kp,n8 D n⟩),(let ⟨u,q,n⟩:=h.put;⟨u,q,D.cs n.kp,n16 D n⟩),(let n:=h.mT;⟨r.2.1,D.cs n.kp,n18 D n⟩),(let n:=h.mS;⟨D.cs n.kp,D.cs n.kp,n19 D n⟩)⟩
theorem n21(D:XD w o r K)(h:XN o v r own (some g) none none (some i.heap.size) (some z.heap.size) []):aw.Jg r.1 w (some ⟨g,0,none⟩) i z K v:=by
 unfold aw.Jg;exact⟨(Tr.dF fun _ _ q k=>let n:=h.rv q k;⟨_,rfl,D.cs n.kp,n9 D n⟩),(let n:=h.ry;⟨D.cs n.kp,n17 D n⟩)⟩
theorem n22(D:XD w o r K)(h:XN o v r own (some g) none none (some i.heap.size) none []):aw.MM r.1 w (some ⟨g,0,none⟩) i K v:=by
 unfold aw.MM;exact⟨(Tr.dF fun _ _ q k=>let n:=h.rv q k;⟨_,rfl,D.cs n.kp,n10 D n⟩),(let n:=h.ry;⟨D.cs n.kp,n18 D n⟩),(let n:=h.mS;⟨D.cs n.kp,n21 D n⟩)⟩
theorem n23(D:XD w o r K)(h:XN o v r own (some g) none none none (some z.heap.size) []):aw.St r.1 w r.1 (some ⟨g,0,none⟩) z K v:=by
 unfold aw.St;exact⟨(Tr.dF fun _ _ q k=>let n:=h.rv q k;⟨_,rfl,D.cs n.kp,D.cs n.kp,n11 D n⟩),(let n:=h.ry;⟨D.cs n.kp,D.cs n.kp,n19 D n⟩),(let n:=h.mT;⟨r.2.1,D.cs n.kp,n21 D n⟩)⟩
theorem n24(D:XD w o r K)(h:XN o v r own (some g) none none none none []):aw.Rg r.1 w r.1 (some ⟨g,0,none⟩) K v:=by
 unfold aw.Rg;exact⟨(Tr.dF fun _ _ q k=>let n:=h.rv q k;⟨_,rfl,D.cs n.kp,D.cs n.kp,n12 D n⟩),(let n:=h.ry;⟨D.cs n.kp,D.cs n.kp,n20 D n⟩),(let n:=h.mT;⟨r.2.1,D.cs n.kp,n22 D n⟩),(let n:=h.mS;⟨D.cs n.kp,D.cs n.kp,n23 D n⟩)⟩
theorem n25(D:XD w o r K)(h:XN o v r own none none (some e.heap.size) (some i.heap.size) (some z.heap.size) [r]):aw.Rf r.1 e i z K v:=by
 unfold aw.Rf;exact eW r fun _ _ q k=>let n:=h.fD q k;⟨_,rfl,n13 D n⟩
theorem n26(D:XD w o r K)(h:XN o v r own none none (some e.heap.size) (some i.heap.size) none [r]):aw.Ss r.1 e i w K v:=by
 unfold aw.Ss;exact⟨(eW r fun _ _ q k=>let n:=h.fD q k;⟨_,rfl,n14 D n⟩),(let n:=h.mS;⟨D.cs n.kp,n25 D n⟩)⟩
theorem n27(D:XD w o r K)(h:XN o v r own none none (some e.heap.size) none (some z.heap.size) [r]):aw.LR r.1 r.1 w e z K v:=by
 unfold aw.LR;exact⟨(eW r fun _ _ q k=>let n:=h.fD q k;⟨_,rfl,D.cs n.kp,n15 D n⟩),(let n:=h.mT;⟨r.2.1,D.cs n.kp,n25 D n⟩)⟩
theorem n28(D:XD w o r K)(h:XN o v r own none none (some e.heap.size) none none [r]):aw.W8 r.1 r.1 w e K v:=by
 unfold aw.W8;exact⟨(eW r fun _ _ q k=>let n:=h.fD q k;⟨_,rfl,D.cs n.kp,n16 D n⟩),(let n:=h.mT;⟨r.2.1,D.cs n.kp,n26 D n⟩),(let n:=h.mS;⟨D.cs n.kp,D.cs n.kp,n27 D n⟩)⟩
theorem n29(D:XD w o r K)(h:XN o v r own none none (some e.heap.size) (some i.heap.size) (some z.heap.size) []):aw.Re r.1 r.1 w e i z K v:=by
 unfold aw.Re;exact⟨(eW r fun _ _ q k=>let n:=h.fD q k;⟨_,rfl,D.cs n.kp,n17 D n⟩),(let ⟨u,q,n⟩:=h.put;⟨u,q,D.cs n.kp,n25 D n⟩)⟩
theorem n30(D:XD w o r K)(h:XN o v r own none none (some e.heap.size) (some i.heap.size) none []):aw.Sr r.1 r.1 w e i K v:=by
 unfold aw.Sr;exact⟨(eW r fun _ _ q k=>let n:=h.fD q k;⟨_,rfl,D.cs n.kp,n18 D n⟩),(let ⟨u,q,n⟩:=h.put;⟨u,q,D.cs n.kp,n26 D n⟩),(let n:=h.mS;⟨D.cs n.kp,D.cs n.kp,n29 D n⟩)⟩
theorem n31(D:XD w o r K)(h:XN o v r own none none (some e.heap.size) none (some z.heap.size) []):aw.Sq r.1 r.1 w r.1 e z K v:=by
 unfold aw.Sq;exact⟨(eW r fun _ _ q k=>let n:=h.fD q k;⟨_,rfl,D.cs n.kp,D.cs n.kp,n19 D n⟩),(let ⟨u,q,n⟩:=h.put;⟨u,q,D.cs n.kp,D.cs n.kp,n27 D n⟩),(let n:=h.mT;⟨r.2.1,D.cs n.kp,D.cs n.kp,n29 D n⟩)⟩
theorem n32(D:XD w o r K)(h:XN o v r own none none (some e.heap.size) none none []):aw.W7 r.1 r.1 w r.1 e K v:=by
 unfold aw.W7;exact⟨(eW r fun _ _ q k=>let n:=h.fD q k;⟨_,rfl,D.cs n.kp,D.cs n.kp,n20 D n⟩),(let ⟨u,q,n⟩:=h.put;⟨u,q,D.cs n.kp,D.cs n.kp,n28 D n⟩),(let n:=h.mT;⟨r.2.1,D.cs n.kp,D.cs n.kp,n30 D n⟩),(let n:=h.mS;⟨D.cs n.kp,D.cs n.kp,D.cs n.kp,n31 D n⟩)⟩
theorem n33(D:XD w o r K)(h:XN o v r own none none none (some i.heap.size) (some z.heap.size) []):aw.Sp r.1 r.1 w i z K v:=by
 unfold aw.Sp;exact⟨(eW r fun _ _ q k=>let n:=h.fD q k;⟨_,rfl,D.cs n.kp,n21 D n⟩),(let n:=h.ry;⟨D.cs n.kp,D.cs n.kp,n29 D n⟩)⟩
theorem n34(D:XD w o r K)(h:XN o v r own none none none (some i.heap.size) none []):aw.W6 r.1 r.1 w i K v:=by
 unfold aw.W6;exact⟨(eW r fun _ _ q k=>let n:=h.fD q k;⟨_,rfl,D.cs n.kp,n22 D n⟩),(let n:=h.ry;⟨D.cs n.kp,D.cs n.kp,n30 D n⟩),(let n:=h.mS;⟨D.cs n.kp,D.cs n.kp,n33 D n⟩)⟩
theorem n35(D:XD w o r K)(h:XN o v r own none none none none (some z.heap.size) []):aw.W5 r.1 r.1 w r.1 z K v:=by
 unfold aw.W5;exact⟨(eW r fun _ _ q k=>let n:=h.fD q k;⟨_,rfl,D.cs n.kp,D.cs n.kp,n23 D n⟩),(let n:=h.ry;⟨D.cs n.kp,D.cs n.kp,D.cs n.kp,n31 D n⟩),(let n:=h.mT;⟨r.2.1,D.cs n.kp,D.cs n.kp,n33 D n⟩)⟩
theorem n36(D:XD w o r K)(h:XN o v r own none none none none none []):aw.W4 r.1 r.1 w r.1 K v:=by
 unfold aw.W4;exact⟨(eW r fun _ _ q k=>let n:=h.fD q k;⟨_,rfl,D.cs n.kp,D.cs n.kp,n24 D n⟩),(let n:=h.ry;⟨D.cs n.kp,D.cs n.kp,D.cs n.kp,n32 D n⟩),(let n:=h.mT;⟨r.2.1,D.cs n.kp,D.cs n.kp,n34 D n⟩),(let n:=h.mS;⟨D.cs n.kp,D.cs n.kp,D.cs n.kp,n35 D n⟩)⟩
end
section
variable{K:Value->World->Prop}
theorem gD{w:World}(r:HT)(hK:∀v x,zL v (fun k=>w.heap.size<=k/\k<v.heap.size) (fun _=>False) x [⟨r,[]⟩] [-1]->Kept Nil w v->K (.pointer (some ⟨x,0,none⟩)) v):
 bf prog aw.id #[.agg r.1] w K:=by
 refine aw.of ?_;unfold aw.W;intro Xo Ga;have k2:Kept Nil w Xo:=(Kept.refl _ _).alloc _;have o6:Xo.heap[w.heap.size]? =some (.cells r.1 ax (0,0)):=aR w _;have k3:Kept Nil w Ga:=k2.drew;have oX:Ga.heap[w.heap.size]? =some (.cells r.1 ax (0,0)):=o6;clear_value Ga;have N_3:XN Ga Ga r (fun _=>0) none none none none none []:=⟨Kept.refl _ _,(fun b e=>by cases e),(fun b e=>by cases e),(fun b e=>by cases e),(fun b e=>by cases e),(fun b e=>by cases e)⟩;have mF:∀ {v:World},Kept Nil Ga v->∃cs:Array Value,(.agg r.1:Value)=.agg cs/\cs.size=32/\Cells v (aU w.heap.size) cs:=fun k=>⟨r.1,rfl,r.2.1,Cells.bW (k.heap oX (fun h=>h))⟩;have sC:∀ {v:World} {own:Nat->Nat} {g t mb ib cb:Nat},XN Ga v r own (some g) (some t) (some mb) (some ib) (some cb) [r]->K (.pointer (some ⟨v.heap.size,0,none⟩)) (v.alloc (.cells #[.pointer (some ⟨g,0,none⟩),.pointer (some ⟨t,0,none⟩),.map (some mb),.slice (some ⟨ib,0,none⟩) 1 1,.map (some cb)] dA)):=
  fun h=>hK _ _ (h.fin k3.size) ((k3.tt h.kp).alloc _)
 have c3:r.1.size=32/\Cells Ga (aU w.heap.size) r.1:=⟨r.2.1,Cells.bW oX⟩;refine⟨r.1,c3,r.1,c3,r.1,c3,?_⟩;have D:XD w Ga r K:=⟨mF,sC⟩;exact n36 D N_3
end
end Go.Proofs.YtfleamccglihoaaGreatDoor
