import Derived.Test.YtfleamccglihoaaGreatDoorMG
import Derived.Test.YtfleamccglihoaaGreatDoorMH
import Derived.Test.YtfleamccglihoaaGreatDoorME
import Derived.Laws.AppendOwn
open Go.IntKind (i64 u64)
set_option linter.unusedVariables false
namespace Go.Proofs.YtfleamccglihoaaGreatDoor
open Go.Proofs.Tryz
open Go Go.b0
open Tr (kZ)
structure sV(D:DG)(P:List Int):Prop where
 len:P.length=D.length
 root:P[0]? =some (-1)
 up:∀(i:Nat) (p:Int) nd,0<i->P[i]? =some p->D[i]? =some nd->∃(j:Nat) (m:DN),p=(j:Int)/\j<i/\D[j]? =some m/\m.id∈nd.ps
def Ch(D:DG)(P:List Int)(a b:HT):Prop:=∃(i k:Nat) (ni nk:DN),D[i]? =some ni/\ni.id=b/\D[k]? =some nk/\nk.id=a/\kZ P i k
def mf(D:DG)(P:List Int)(s c:HT):Prop:=∃(i j:Nat) (ni m:DN),D[i]? =some ni/\ni.id=c/\P[i]? =some (j:Int)/\D[j]? =some m/\m.id=s
def Oq(D:DG)(P:List Int)(h c:HT):Prop:=fI D h c/\∃s,mf D P s c/\h≠s/\¬fI D h s
section
variable{D:DG}{P:List Int}
theorem sV.par(H:sV D P):Tr.oW P:=⟨H.root,fun i p hi hp=>by
 have dX:=(lgeS hp).1;rw [H.len]at dX;obtain⟨j,m,h1,h2,_⟩:=H.up i p _ hi hp (List.getElem?_eq_getElem dX);exact⟨j,h2,h1⟩⟩
theorem mf.par(H:sV D P){s c:HT}(h:mf D P s c):oW D s c:=by
 obtain⟨i,j,ni,m,h1,rfl,h3,h4,rfl⟩:=h;have hi:0<i:=by
  rcases Nat.eq_zero_or_pos i with rfl|h
  ·rw [H.root]at h3;simp only [Option.some.injEq]at h3;omega
  ·exact h
 obtain⟨j',m',e,_,h5,h6⟩:=H.up i _ ni hi h3 h1;have:j'=j:=by omega
 subst this;rw [h4]at h5;cases h5;exact⟨ni,List.mem_of_getElem? h1,rfl,h6⟩
theorem mf.one(W:kP D){s s' c:HT}(h:mf D P s c)(h':mf D P s' c):s=s':=by
 obtain⟨i,j,ni,m,h1,rfl,h3,h4,rfl⟩:=h;obtain⟨i',j',ni',m',um,e,EP,YG,rfl⟩:=h';have:=W.inj h1 um e.symm;subst this;rw [h3]at EP;simp only [Option.some.injEq]at EP;have:j=j':=by omega
 subst this;rw [h4]at YG;cases YG;rfl
theorem mf.ex(H:sV D P){i:Nat}{ni:DN}(hi:0<i)(h:D[i]? =some ni):∃(j:Nat) (m:DN),j<i/\P[i]? =some (j:Int)/\D[j]? =some m/\mf D P m.id ni.id:=by
 have dX:=(lgeS h).1;obtain⟨p,hp⟩:∃p,P[i]? =some p:=⟨_,List.getElem?_eq_getElem (by rw [H.len];exact dX)⟩;obtain⟨j,m,rfl,hj,hm,_⟩:=H.up i p ni hi hp h;exact⟨j,m,hj,hp,hm,i,j,ni,m,h,rfl,hp,hm,rfl⟩
theorem Ch.refl(H:sV D P){a:HT}(h:a∈ids D):Ch D P a a:=by
 obtain⟨nd,gQ,e⟩:=eI.1 h;obtain⟨i,hi⟩:=List.mem_iff_getElem?.1 gQ;exact⟨i,i,nd,nd,hi,e,hi,e,.refl (by rw [H.len];exact(lgeS hi).1)⟩
theorem Ch.mem{a b:HT}(h:Ch D P a b):a∈ids D/\b∈ids D:=by
 obtain⟨i,k,ni,nk,h1,h2,h3,h4,_⟩:=h;exact⟨eI.2 ⟨nk,List.mem_of_getElem? h3,h4⟩,eI.2 ⟨ni,List.mem_of_getElem? h1,h2⟩⟩
theorem Ch.step(W:kP D){a s c:HT}(hs:mf D P s c)(h:Ch D P a s):Ch D P a c:=by
 obtain⟨i,j,ni,m,h1,rfl,h3,h4,rfl⟩:=hs;obtain⟨j',k,nj,nk,g1,g2,g3,g4,g5⟩:=h;have:=W.inj g1 h4 g2;subst this;exact⟨i,k,ni,nk,h1,rfl,g3,g4,.step h3 g5⟩
theorem Ch.GW(W:kP D)(H:sV D P){a b:HT}(h:Ch D P a b):a=b\/fI D a b:=by
 obtain⟨i,k,ni,nk,h1,rfl,h3,rfl,h5⟩:=h
 induction h5 generalizing ni with
 |refl _=>rw [h1]at h3;cases h3;exact .inl rfl
 | @step i j k hj hu ih=>
   have uV:=hu.lt;rw [H.len]at uV;obtain⟨m,hm⟩:∃m,D[j]? =some m:=⟨_,List.getElem?_eq_getElem uV⟩;have hp:oW D m.id ni.id:=mf.par H ⟨i,j,ni,m,h1,rfl,hj,hm,rfl⟩;rcases ih m hm h3 with e|e
   ·rw [e];exact .inr (.one hp)
   ·exact .inr (.more e hp)
theorem JE(W:kP D)(H:sV D P){a b:HT}(fX:a≠b):fI D a b↔Ch D P a b\/∃c,Oq D P a c/\Ch D P c b:=by
 constructor
 ·intro h
  obtain⟨nb,P8,e⟩:=eI.1 (h.mem W).2;obtain⟨i,hb⟩:=List.mem_iff_getElem?.1 P8;clear P8;subst e
  induction i using Nat.strongRecOn generalizing nb with
  |_ i ih=>
   have hi:0<i:=by
    rcases Nat.eq_zero_or_pos i with rfl|h0
    ·exfalso
     obtain⟨x,y,mx,my,nD,_,hy,_,e2⟩:=h.at_ W;have:=W.inj hy hb e2;omega
    ·exact h0
   obtain⟨j,m,hj,_,hm,hs⟩:=mf.ex H hi hb;by_cases e1:a=m.id
   ·exact .inl (Ch.step W hs (by rw [e1];exact Ch.refl H (eI.2 ⟨m,List.mem_of_getElem? hm,rfl⟩)))
   ·by_cases e2:fI D a m.id
    ·rcases ih j hj m hm e1 e2 with e3|⟨c,e3,e4⟩
     ·exact .inl (Ch.step W hs e3)
     ·exact .inr ⟨c,e3,Ch.step W hs e4⟩
    ·exact .inr ⟨nb.id,⟨h,m.id,hs,e1,e2⟩,Ch.refl H (eI.2 ⟨nb,List.mem_of_getElem? hb,rfl⟩)⟩
 ·rintro(h|⟨c,⟨h1,_⟩,h2⟩)
  ·exact(h.GW W H).resolve_left fX
  ·rcases h2.GW W H with e|e
   ·rw [<-e];exact h1
   ·exact h1.trans e
theorem sV.snoc(H:sV D P){nd:DN}{j:Nat}{m:DN}(hj:D[j]? =some m)(hm:m.id∈nd.ps)(jT:0<D.length):sV (D++ [nd]) (P++ [(j:Int)]) where
 len:=by simp [H.len]
 root:=by rw [List.getElem?_append_left (by rw [H.len];exact jT)];exact H.root
 up:=fun i p nd' hi hp gQ=>by
  have uV:=(lgeS hj).1;by_cases h:i<D.length
  ·rw [List.getElem?_append_left (by rw [H.len];exact h)]at hp
   rw [List.getElem?_append_left h]at gQ;obtain⟨j',m',e,h1,h2,h3⟩:=H.up i p nd' hi hp gQ;exact⟨j',m',e,h1,by rw [List.getElem?_append_left (by omega)];exact h2,h3⟩
  ·have dX:=(lgeS gQ).1
   have e:i=D.length:=by simp at dX;omega
   subst e;rw [<-H.len]at hp;simp at hp gQ;subst hp gQ;exact⟨j,m,rfl,uV,by rw [List.getElem?_append_left uV];exact hj,hm⟩
theorem oG(W:kP D)(H:sV D P){nd:DN}(hn:nd.id∉ids D){j:Nat}{m:DN}(hj:D[j]? =some m){s c:HT}:
 mf (D++ [nd]) (P++ [(j:Int)]) s c↔mf D P s c\/(c=nd.id/\s=m.id):=by
 have uV:=(lgeS hj).1;constructor
 ·rintro⟨i,k,ni,mk,h1,rfl,h3,h4,rfl⟩
  by_cases h:i<D.length
  ·rw [List.getElem?_append_left h]at h1
   rw [List.getElem?_append_left (by rw [H.len];exact h)]at h3;have hk:k<D.length:=by
    rcases Nat.eq_zero_or_pos i with rfl|h0
    ·rw [H.root]at h3;simp only [Option.some.injEq]at h3;omega
    ·obtain⟨k',_,e,h5,_⟩:=H.up i _ ni h0 h3 h1
     omega
   rw [List.getElem?_append_left hk]at h4;exact .inl ⟨i,k,ni,mk,h1,rfl,h3,h4,rfl⟩
  ·have dX:=(lgeS h1).1
   have e:i=D.length:=by simp at dX;omega
   subst e;have EP:=h3;rw [<-H.len]at EP;simp at h1 EP;subst h1;have:k=j:=by omega
   subst this;rw [List.getElem?_append_left uV,hj]at h4;cases h4;exact .inr ⟨rfl,rfl⟩
 ·rintro(⟨i,k,ni,mk,h1,rfl,h3,h4,rfl⟩|⟨rfl,rfl⟩)
  ·have hi:=(lgeS h1).1
   have hk:=(lgeS h4).1;exact⟨i,k,ni,mk,by rw [List.getElem?_append_left hi];exact h1,rfl,by rw [List.getElem?_append_left (by rw [H.len];exact hi)];exact h3,by rw [List.getElem?_append_left hk];exact h4,rfl⟩
  ·exact⟨D.length,j,nd,m,by simp,rfl,by rw [<-H.len];simp,by rw [List.getElem?_append_left uV];exact hj,rfl⟩
theorem Jv(W:kP D)(H:sV D P){nd:DN}(hn:nd.id∉ids D)(gD:∀p∈nd.ps,p∈ids D){j:Nat}{m:DN}(hj:D[j]? =some m){h c:HT}:
 Oq (D++ [nd]) (P++ [(j:Int)]) h c↔Oq D P h c\/(c=nd.id/\fI (D++ [nd]) h nd.id/\h≠m.id/\¬fI D h m.id):=by
 have hm:m.id∈ids D:=eI.2 ⟨m,List.mem_of_getElem? hj,rfl⟩;have key:∀ {s c},mf D P s c->s∈ids D/\c∈ids D:=fun hs=>(fI.one (mf.par H hs)).mem W;constructor
 ·rintro⟨h1,s,hs,h2,h3⟩
  rcases(oG W H hn hj).1 hs with hs|⟨rfl,rfl⟩
  ·obtain⟨g1,g2⟩:=key hs
   exact .inl ⟨(jN W hn g2).1 h1,s,hs,h2,fun e=>h3 ((jN W hn g1).2 e)⟩
  ·exact .inr ⟨rfl,h1,h2,fun e=>h3 ((jN W hn hm).2 e)⟩
 ·rintro(⟨h1,s,hs,h2,h3⟩|⟨rfl,h1,h2,h3⟩)
  ·obtain⟨g1,g2⟩:=key hs
   exact⟨(jN W hn g2).2 h1,s,(oG W H hn hj).2 (.inl hs),h2,fun e=>h3 ((jN W hn g1).1 e)⟩
  ·exact⟨h1,m.id,(oG W H hn hj).2 (.inr ⟨rfl,rfl⟩),h2,fun e=>h3 ((jN W hn hm).1 e)⟩
inductive Up (P:List Int):Nat->List Nat->Prop
 |root:Up P 0 [0]
 |step {i j:Nat} {l:List Nat}:P[i]? =some (j:Int)->Up P j l->Up P i (i::l)
theorem Up.ex(hP:Tr.oW P):∀i,i<P.length->∃l,Up P i l:=by
 intro i
 induction i using Nat.strongRecOn with
 |_ i ih=>
  intro hi;rcases Nat.eq_zero_or_pos i with rfl|h0
  ·exact⟨[0],.root⟩
  ·obtain⟨j,h1,h2⟩:=hP.up i _ h0 (List.getElem?_eq_getElem hi)
   obtain⟨l,hl⟩:=ih j h1 (by omega);exact⟨i::l,.step (by rw [List.getElem?_eq_getElem hi,h2]) hl⟩
theorem Up.mem(hP:Tr.oW P){i:Nat}{l:List Nat}(h:Up P i l)(hi:i<P.length){k:Nat}:k∈l↔kZ P i k:=by
 induction h with
 |root=>
  rw [List.mem_singleton];constructor
  ·rintro rfl;exact .refl hi
  ·intro h;have:=h.le hP;omega
 | @step i j l hj hu ih=>
   have uV:j<P.length:=by have:=(Tr.jA hP (Tr.fD.2 hj)).1;omega
   rw [List.mem_cons,ih uV];constructor
   ·rintro(rfl|h)
    ·exact .refl hi
    ·exact .step hj h
   ·intro h
    by_cases e:k=i
    ·exact .inl e
    ·exact .inr (h.inv (fun e'=>e e'.symm) hj)
theorem Up.one(hP:Tr.oW P){i:Nat}{l l':List Nat}(h:Up P i l)(h':Up P i l'):l=l':=by
 induction h generalizing l' with
 |root=>
  cases h' with
  |root=>rfl
  |step hj _=>rw [hP.root]at hj;simp only [Option.some.injEq]at hj;omega
 | @step i j l hj hu ih=>
   cases h' with
   |root=>rw [hP.root]at hj;simp only [Option.some.injEq]at hj;omega
   | @step _ j' l' vU Ll=>
     rw [hj]at vU;simp only [Option.some.injEq]at vU;have:j=j':=by omega
     subst this;rw [ih Ll]
theorem Up.head{i:Nat}{l:List Nat}(h:Up P i l):l[0]? =some i:=by cases h<;>rfl
theorem Up.lt(hP:Tr.oW P){i:Nat}{l:List Nat}(h:Up P i l)(hi:i<P.length):∀k∈l,k<P.length:=fun k hk=>((h.mem hP hi).1 hk).XG
end
end Go.Proofs.YtfleamccglihoaaGreatDoor
namespace Go.Proofs.YtfleamccglihoaaGreatDoor
open Go.Proofs.Tryz
open Go Go.b0 Go.RowKit
structure xA(mt te:TypeId)(z:Value):Prop where
 pE:prog.underlying mt=some (.map al te)
 zero:∀w,(zeroValue te).run prog w=.ok z w
def assoc(h:HT):List (HT×Value)->Option Value
 | []=>none
 |(x,v)::l=>if h=x then some v else assoc h l
def mv(h:HT):List (HT×Value)->Nat->Option (Nat×Value)
 | [],_=>none
 |(x,v)::l,i=>if h=x then some (i,v)else mv h l (i+1)
theorem nI(h:HT):∀(l:List (HT×Value)) (i:Nat),(mv h l i).map (·.2)=assoc h l
 | [],_=>rfl
 |(x,v)::l,i=>by
  unfold mv assoc;split
  ·rfl
  ·exact nI h l (i+1)
theorem wk{h:HT}:∀ {l:List (HT×Value)} {i j:Nat} {v:Value},mv h l i=some (j,v)->i<=j/\l[j-i]? =some (h,v)/\∀(x:HT) (u:Value),assoc x (l.set (j-i) (h,u))=if x=h then some u else assoc x l
 | [],i,j,v,e=>by simp [mv]at e
 |(x,u)::l,i,j,v,e=>by
  unfold mv at e;split at e
  ·rename_i hx
   cases e;subst hx;refine⟨Nat.le_refl _,by rw [Nat.sub_self];rfl,fun x u=>?_⟩;rw [Nat.sub_self];simp only [List.set_cons_zero,assoc];by_cases hx:x=h<;>simp [hx]
  ·rename_i hx
   obtain⟨h1,h2,h3⟩:=wk e;have e1:j-i=(j-(i+1))+1:=by omega
   refine⟨by omega,by rw [e1];exact h2,fun y u'=>?_⟩;rw [e1];simp only [List.set_cons_succ,assoc,h3];by_cases hy:y=h
   ·subst hy;simp [hx]
   ·simp [hy]
theorem wE{h:HT}{v:Value}:∀ {l:List (HT×Value)},assoc h l=none->∀x,assoc x (l++ [(h,v)])=if x=h then some v else assoc x l
 | [],_,x=>by simp [assoc]
 |(y,u)::l,e,x=>by
  unfold assoc at e;split at e
  ·cases e
  ·rename_i hy
   have ih:=wE (v:=v) e x;simp only [List.cons_append,assoc,ih];by_cases hx:x=y
   ·subst hx;simp [Ne.symm hy]
   ·simp [hx]
def nV(es:List MapEntry)(l:List (HT×Value)):Prop:=match es,l with
 | [],[]=>True
 |e::es,p::l=>(e.key=.agg p.1.1/\e.val=p.2)/\nV es l
 |_,_=>False
theorem nV.snoc:∀ {es:List MapEntry} {l:List (HT×Value)} {e:MapEntry} {p:HT×Value},nV es l->e.key=.agg p.1.1->e.val=p.2->nV (es++ [e]) (l++ [p])
 | [],[],_,_,_,h1,h2=>⟨⟨h1,h2⟩,trivial⟩
 |_::_,_::_,_,_,he,h1,h2=>⟨he.1,nV.snoc he.2 h1 h2⟩
 | [],_::_,_,_,he,_,_=>he.elim
 |_::_,[],_,_,he,_,_=>he.elim
theorem nV.get:∀ {es:List MapEntry} {l:List (HT×Value)} {j:Nat} {p:HT×Value},nV es l->l[j]? =some p->∃e,es[j]? =some e/\e.key=.agg p.1.1/\e.val=p.2
 | [],[],_,_,_,h=>by simp at h
 |e::_,_::_,0,_,he,h=>by
  simp only [List.getElem?_cons_zero,Option.some.injEq]at h;subst h;exact⟨e,rfl,he.1⟩
 |_::_,_::_,j+1,_,he,h=>by
  obtain⟨e,h1,h2⟩:=nV.get he.2 (j:=j) (by simpa using h);exact⟨e,by simpa using h1,h2⟩
 | [],_::_,_,_,he,_=>he.elim
 |_::_,[],_,_,he,_=>he.elim
theorem nV.set:∀ {es:List MapEntry} {l:List (HT×Value)} {j:Nat} {p:HT×Value} {f:MapEntry->MapEntry},nV es l->(∀e,(f e).key=.agg p.1.1/\(f e).val=p.2)->nV (es.modify j f) (l.set j p)
 | [],[],_,_,_,he,_=>by simpa using he
 |_::_,_::_,0,_,_,he,hf=>⟨hf _,he.2⟩
 |_::_,_::_,j+1,_,_,he,hf=>by
  simp only [List.modify_succ_cons,List.set_cons_succ];exact⟨he.1,nV.set he.2 hf⟩
 | [],_::_,_,_,_,he,_=>he.elim
 |_::_,[],_,_,_,he,_=>he.elim
theorem nV.len:∀ {es:List MapEntry} {l:List (HT×Value)},nV es l->es.length=l.length
 | [],[],_=>rfl
 |_::_,_::_,he=>by simp [nV.len he.2]
 | [],_::_,he=>he.elim
 |_::_,[],he=>he.elim
section
variable{w:World}
theorem rX(h:HT)(w:World):∀(es:List MapEntry) (l:List (HT×Value)) (i:Nat),nV es l->
 (Instr.findAsking al (.agg h.1) es i).run prog w=.ok (mv h l i) w
 | [],[],i,_=>by simp [Instr.findAsking,mv]
 |e::es,(x,v)::l,i,he=>by
  have hq:=vn h x w;have ih:=rX h w es l (i+1) he.2;simp only [Instr.findAsking,he.1.1,Sem.run_bind,hq,Result.andThen_ok];by_cases hx:h=x
  ·simp [hx,mv,he.1.2]
  ·simp [hx,mv,ih]
 | [],_::_,_,he=>he.elim
 |_::_,[],_,he=>he.elim
theorem mw(h:HT)(w:World){es:List MapEntry}{l:List (HT×Value)}(he:nV es l):
 (Instr.findKey al (.agg h.1) es).run prog w=.ok (mv h l 0) w:=by
 have h1:=rX h w es l 0 he;simp only [Instr.findKey,Sem.run_bind,run_underlying KA,Result.andThen_ok];cases es with
 |nil=>
  cases l with
  |nil=>simp [Instr.findNow,mv]
  |cons x l=>exact he.elim
 |cons e es=>
  have:Instr.findNow (.array 32 ju) (.agg h.1) (e::es) 0=none:=by
   simp only [Instr.findNow,Instr.sameNow]
  rw [this];exact h1
theorem FC(h:HT):Instr.sameBits 10000 (.agg h.1) (.agg h.1)=true:=by
 show Instr.sameBits (9999+1) (.agg h.1) (.agg h.1)=true
 rw [Instr.sameBits];simp only [beq_self_eq_true,Bool.true_and,List.all_eq_true];rintro⟨x,y⟩ nD;have hxe:x=y:=by
  obtain⟨i,hi⟩:=List.mem_iff_getElem?.1 nD;rw [List.getElem?_zip_eq_some]at hi;have:=hi.1.symm.trans hi.2;simpa using this
 subst hxe;have hm:=(List.of_mem_zip nD).1;obtain⟨n,rfl,_⟩:=h.2.2 x hm;simp [Instr.sameBits]
structure gh(w:World)(m:Nat)(f:HT->Option Value):Prop where
 ex:∃es clock l,w.heap[m]? =some (.map es clock)/\nV es.toList l/\(∀x,assoc x l=f x)/\(∀e∈es.toList,e.born<clock)/\(es.toList.map (·.born)).Nodup/\(l.map (·.1)).Nodup
theorem gh.aK{S:Nat->Prop}{w w':World}{m:Nat}{f:HT->Option Value}(h:gh w m f)(hk:Kept S w w')(hn:¬S m):gh w' m f:=by
 obtain⟨es,clock,l,h1,h2⟩:=h.ex;exact⟨es,clock,l,hk.heap h1 hn,h2⟩
theorem gh.same{w w':World}{m:Nat}{f:HT->Option Value}(h:gh w m f)(hk:Kept Nil w w'):gh w' m f:=h.aK hk (fun h=>h)
theorem gh.lt{w:World}{m:Nat}{f:HT->Option Value}(h:gh w m f):m<w.heap.size:=by
 obtain⟨es,clock,l,h1,_⟩:=h.ex;exact bf h1
theorem gh.new(w:World):gh (w.alloc (.map #[] 0)) w.heap.size (fun _=>none):=⟨#[],0,[],aM w _,trivial,fun _=>rfl,by simp,by simp,by simp⟩
theorem gh.look{mt te:TypeId}{z:Value}(T:xA mt te z){m:Nat}{f:HT->Option Value}(hm:gh w m f)(h:HT):
 (Instr.lookup mt (.map (some m)) (.agg h.1) false).run prog w=.ok ((f h).getD z) w:=by
 obtain⟨es,clock,l,h1,h2,h3,_⟩:=hm.ex;have h4:=mw h w h2;have h5:=nI h l 0;rw [h3]at h5;simp only [Instr.lookup,Sem.run_bind,run_underlying T.pE,qd h1,Result.andThen_ok,Sem.run_pure,jJ,h4];cases hp:mv h l 0 with
 |none=>rw [hp]at h5;simp [<-h5,T.zero]
 |some p=>rw [hp]at h5;simp [<-h5]
theorem gh.put{mt te:TypeId}{z:Value}(T:xA mt te z){m:Nat}{f:HT->Option Value}(hm:gh w m f)(h:HT)(v:Value):
 ∃w',(Instr.mapUpdate mt (.map (some m)) (.agg h.1) v).run prog w=.ok () w'/\gh w' m (fun x=>if x=h then some v else f x)/\Kept (· =m) w w':=by
 obtain⟨es,clock,l,h1,h2,h3,hb,hd,hk⟩:=hm.ex;have h4:=mw h w h2;have kept:∀o,Kept (· =m) w {w with heap:=w.heap.setIfInBounds m o}:=fun o=>⟨rfl,rfl,rfl,by simp,fun k _ hk=>by simp [Ne.symm hk]⟩;cases hp:mv h l 0 with
 |none=>
  rw [hp]at h4;have h5:=nI h l 0;rw [hp]at h5;refine⟨{w with heap:=w.heap.setIfInBounds m (.map (es.push {key:=.agg h.1,val:=v,born:=clock}) (clock+1))},?_,⟨es.push {key:=.agg h.1,val:=v,born:=clock},clock+1,l++ [(h,v)],?_,?_,?_,?_,?_,?_⟩,kept _⟩
  ·simp only [Instr.mapUpdate,Sem.run_bind,run_underlying T.pE,qd h1,Result.andThen_ok,jJ,h4,Cj _ h1]
  ·simp [bf h1]
  ·have:=h2.snoc (e:= {key:=.agg h.1,val:=v,born:=clock}) (p:=(h,v)) rfl rfl
   simpa using this
  ·intro x
   rw [wE h5.symm,h3]
  ·intro e he
   rw [Array.toList_push,List.mem_append,List.mem_singleton]at he;rcases he with he|rfl
   ·have:=hb e he;omega
   ·exact Nat.lt_succ_self _
  ·rw [Array.toList_push,List.map_append,List.nodup_append]
   refine⟨hd,by simp,fun a ha b uJ e=>?_⟩;simp only [List.map_cons,List.map_nil,List.mem_singleton]at uJ;obtain⟨e',LR,rfl⟩:=List.mem_map.1 ha;have:=hb e' LR;omega
  ·rw [List.map_append,List.nodup_append]
   refine⟨hk,by simp,fun a ha b uJ e=>?_⟩;simp only [List.map_cons,List.map_nil,List.mem_singleton]at uJ;subst uJ;subst e;have key:∀l:List (HT×Value),a∈l.map (·.1)->assoc a l≠none:=fun l=>by
    induction l with
    |nil=>simp
    |cons p l ih=>
     obtain⟨y,u⟩:=p;intro hm;unfold assoc;split
     ·simp
     ·rename_i hy
      simp only [List.map_cons,List.mem_cons]at hm;exact ih (hm.resolve_left hy)
   exact key l ha h5.symm
 |some p=>
  obtain⟨j,u⟩:=p;rw [hp]at h4;obtain⟨_,h6,h7⟩:=wk hp;rw [Nat.sub_zero]at h6 h7;obtain⟨e,he1,R0,_⟩:=h2.get h6;have hes:es[j]? =some e:=by simpa using he1
  refine⟨{w with heap:=w.heap.setIfInBounds m (.map (es.modify j fun e=> {e with key:=.agg h.1,val:=v}) clock)},?_,⟨es.modify j fun e=> {e with key:=.agg h.1,val:=v},clock,l.set j (h,v),?_,?_,?_,?_,?_,?_⟩,kept _⟩
  ·simp only [Instr.mapUpdate,Sem.run_bind,run_underlying T.pE,qd h1,Result.andThen_ok,jJ,h4,Instr.keyThatStays,hes,Option.map_some,Option.getD_some,R0,FC,if_true,Sem.run_pure,Cj _ h1]
  ·simp [bf h1]
  ·rw [Array.toList_modify]
   exact h2.set (p:=(h,v)) fun e=>⟨rfl,rfl⟩
  ·intro x
   rw [h7,h3]
  ·intro x hx
   rw [Array.toList_modify]at hx;obtain⟨i,hi⟩:=List.mem_iff_getElem?.1 hx;rw [List.getElem?_modify]at hi;cases hg:es.toList[i]? with
   |none=>rw [hg]at hi;simp at hi
   |some y=>
    rw [hg]at hi;have:=hb y (List.mem_of_getElem? hg);by_cases sG:j=i
    ·simp [sG]at hi
     rw [<-hi];exact this
    ·simp [sG]at hi
     rw [<-hi];exact this
  ·have:(es.modify j fun e=> {e with key:=.agg h.1,val:=v}).toList.map (·.born)=es.toList.map (·.born):=by
    rw [Array.toList_modify];apply List.ext_getElem?;intro i;rw [List.getElem?_map,List.getElem?_map,List.getElem?_modify];cases es.toList[i]? with
    |none=>simp
    |some y=>by_cases sG:j=i<;>simp [sG]
   rw [this];exact hd
  ·have:(l.set j (h,v)).map (·.1)=l.map (·.1):=by
    apply List.ext_getElem?;intro i;rw [List.getElem?_map,List.getElem?_map,List.getElem?_set];by_cases sG:j=i
    ·subst sG
     have di:=(lgeS h6).1;have gH:=(lgeS h6).2;simp [di,gH]
    ·simp [sG]
   rw [this];exact hk
end
end Go.Proofs.YtfleamccglihoaaGreatDoor
namespace Go.Proofs.YtfleamccglihoaaGreatDoor
open Go.Proofs.Tryz
open Go Go.b0 Go.RowKit
open Tr (kZ)
theorem uP{te:TypeId}{z:Value}(h:(prog.info? te).bind (·.zero)=some z)(w:World):(zeroValue te).run prog w=.ok z w:=by
 cases hi:prog.info? te with
 |none=>rw [hi]at h;cases h
 |some i=>
  rw [hi]at h;have hz:i.zero=some z:=h;simp [zeroValue,typeInfo,hi,hz]
theorem yO:xA iE aF (.slice none 0 0):=⟨by kernel_rfl,uP (by kernel_rfl)⟩
theorem HX:xA l9 tN (.agg #[.bool false]):=⟨by kernel_rfl,uP (by kernel_rfl)⟩
structure XM where
 g:Nat
 t:Nat
 mb:Nat
 ib:Nat
 ic:Nat
 cb:Nat
 T:List Tr.Nd
 d:Int
 SG:Nat->Prop
 ST:Nat->Prop
 SO:Nat->Prop
def XM.own(m:XM)(x k:Nat):Prop:=k=x\/k=m.mb\/k=m.ib\/k=m.cb
def XM.kY(m:XM)(x k:Nat):Prop:=m.SG k\/m.ST k\/m.SO k\/m.own x k
def pg(w:World)(SO:Nat->Prop)(N:Nat)(v:Option Value)(l:List HT):Prop:=
 (v=none/\l= [])\/∃(A:Option Addr) (n c:Nat),v=some (.slice A n c)/\n<=c/\HS w A n l/\n<=N/\∀a,A=some a->SO a.block
structure XV(w:World)(F:Nat->Prop)(x:Nat)(D:DG)(P:List Int)(m:XM):Prop where
 top:w.heap[x]? =some (.cells #[.pointer (some ⟨m.g,0,none⟩),.pointer (some ⟨m.t,0,none⟩),.map (some m.mb),.slice (some ⟨m.ib,0,none⟩) D.length m.ic,.map (some m.cb)] fg (0,0))
 G:E8 w m.SG F m.g D
 T:Tr.pG w m.ST m.t m.T m.d
 Mh:Tr.xC m.T
 b9:Tr.b9 m.T=P
 dl:0<=m.d/\m.d<=D.length
 at_:IsMap w m.mb (ids D)
 row:cf w 0 (some ⟨m.ib,0,none⟩) D.length m.ic (ids D)
 YT:∃f,gh w m.cb f/\∀h,∃l,pg w m.SO D.length (f h) l/\∀c,c∈l↔Oq D P h c
 nz:sV D P
 W:kP D
 gt:∀k,m.SG k->¬m.ST k/\¬m.SO k
 to:∀k,m.ST k->¬m.SO k
 fd:∀k,F k->¬m.ST k/\¬m.SO k
 od:∀k,m.own x k->¬m.SG k/\¬m.ST k/\¬m.SO k/\¬F k
 ne:x≠m.mb/\x≠m.ib/\x≠m.cb/\m.mb≠m.ib/\m.mb≠m.cb/\m.ib≠m.cb
 low:∀k,m.kY x k\/F k->k<w.heap.size
def DP(w:World)(S F:Nat->Prop)(x:Nat)(D:DG)(P:List Int):Prop:=∃m,XV w F x D P m/\∀k,m.kY x k->S k
section
variable{w w':World}{F S:Nat->Prop}{x:Nat}{D:DG}{P:List Int}{m:XM}{K:Value->World->Prop}
theorem pg.aK{S0 SO:Nat->Prop}{N:Nat}{v:Option Value}{l:List HT}(h:pg w SO N v l)(hk:Kept S0 w w')(hn:∀k,SO k->¬S0 k):pg w' SO N v l:=by
 rcases h with h|⟨A,n,c,h1,h2,h3,h4,h5⟩
 ·exact .inl h
 ·exact .inr ⟨A,n,c,h1,h2,h3.aK hk (fun a ha=>hn _ (h5 a ha)),h4,h5⟩
theorem XV.aK{S0:Nat->Prop}(h:XV w F x D P m)(hk:Kept S0 w w')(hS:∀k,m.kY x k->¬S0 k)(hF:∀k,F k->¬S0 k):XV w' F x D P m where
 top:=hk.heap h.top (hS _ (.inr (.inr (.inr (.inl rfl)))))
 G:=h.G.aK hk (fun k e=>hS k (.inl e)) hF
 T:=h.T.aK hk (fun k e=>hS k (.inr (.inl e)))
 Mh:=h.Mh
 b9:=h.b9
 dl:=h.dl
 at_:=h.at_.aK hk (hS _ (.inr (.inr (.inr (.inr (.inl rfl))))))
 row:=Row.aK h.row hk (fun k e=>by cases e;exact hS _ (.inr (.inr (.inr (.inr (.inr (.inl rfl)))))))
 YT:=by
  obtain⟨f,h1,h2⟩:=h.YT;refine⟨f,h1.aK hk (hS _ (.inr (.inr (.inr (.inr (.inr (.inr rfl))))))),fun y=>?_⟩;obtain⟨l,h3,h4⟩:=h2 y;exact⟨l,h3.aK hk (fun k e=>hS k (.inr (.inr (.inl e)))),h4⟩
 nz:=h.nz
 W:=h.W
 gt:=h.gt
 to:=h.to
 fd:=h.fd
 od:=h.od
 ne:=h.ne
 low:=fun k e=>Nat.lt_of_lt_of_le (h.low k e) hk.size
theorem XV.same(h:XV w F x D P m)(hk:Kept Nil w w'):XV w' F x D P m:=h.aK hk (fun _ _ h=>h) (fun _ _ h=>h)
theorem DP.aK{S0:Nat->Prop}(h:DP w S F x D P)(hk:Kept S0 w w')(hS:∀k,S k->¬S0 k)(hF:∀k,F k->¬S0 k):DP w' S F x D P:=
 let ⟨m,h1,h2⟩:=h;⟨m,h1.aK hk (fun k e=>hS k (h2 k e)) hF,h2⟩
theorem DP.same(h:DP w S F x D P)(hk:Kept Nil w w'):DP w' S F x D P:=h.aK hk (fun _ _ h=>h) (fun _ _ h=>h)
theorem XV.c0(h:XV w F x D P m):w.cell? ((⟨x,0,none⟩:Addr).add 0)=some (.pointer (some ⟨m.g,0,none⟩)):=by rw [bE,aE h.top];rfl
theorem XV.c1(h:XV w F x D P m):w.cell? ((⟨x,0,none⟩:Addr).add 1)=some (.pointer (some ⟨m.t,0,none⟩)):=by rw [bE,aE h.top];rfl
theorem XV.c2(h:XV w F x D P m):w.cell? ((⟨x,0,none⟩:Addr).add 2)=some (.map (some m.mb)):=by rw [bE,aE h.top];rfl
theorem XV.c3(h:XV w F x D P m):w.cell? ((⟨x,0,none⟩:Addr).add 3)=some (.slice (some ⟨m.ib,0,none⟩) D.length m.ic):=by rw [bE,aE h.top];rfl
theorem XV.c4(h:XV w F x D P m):w.cell? ((⟨x,0,none⟩:Addr).add 4)=some (.map (some m.cb)):=by rw [bE,aE h.top];rfl
theorem XV.OL(h:XV w F x D P m):m.T.length=D.length:=by
 have:=Tr.fC m.T;rw [h.b9,h.nz.len]at this;exact this.symm
theorem XV.pE(h:XV w F x D P m){i k:Nat}{id kd:Tr.Nd}(hi:m.T[i]? =some id)(hk:m.T[k]? =some kd):decide (kd.lo<=id.lo/\id.hi<=kd.hi)=true↔kZ P i k:=by
 rw [decide_eq_true_iff,<-h.b9];exact h.Mh.under hi hk
theorem EM(a b:HT):a.1.toList++(b.1.toList++ [])=dw [a,b]:=by simp [dw]
theorem tV(h:XV w F x D P m)(hK:K (.bool true) w):bG prog fJ.id #[.pointer (some ⟨x,0,none⟩)] w K:=
 fJ.of (Split.yes rfl ⟨_,h.c0,hK⟩)
theorem zh{xb:Nat}(h:XV w F x D P m)(hg:w.heap[xb]? =some (.cells #[.pointer (some ⟨x,0,none⟩)] gP (0,0))){A:Option Addr}{n cx:Nat}{l:List HT}(hl:HS w A n l)(hn:n<=400000)
 (hK:∀w' (b:Bool),(b=true↔∃p∈l,p∉ids D)->Kept Nil w w'->K (.bool b) w'):
 bG prog dV.id #[.slice A n cx,.func (.func dN.id) #[] #[.pointer (some ⟨xb,0,none⟩)]] w K:=by
 have hlen:=hl.len;refine cG.of (ax.of ?_);refine ax.cJ (I:=fun s w'=>∃i:Nat,s=(0,(i:Int))/\i<=n/\(∀p∈l.take i,p∈ids D)/\Kept Nil w w') (μ:=fun s _=>((n:Int)-s.2).toNat) (s:=(0,0)) ⟨0,rfl,Nat.zero_le _,by simp,Kept.refl _ _⟩ ?_;rintro s w' ⟨i,rfl,hi,cY,kw⟩;refine Split.dec (fun jZ=>?_) (fun gH=>?_)
 ·simp only at jZ
  have dX:i<n:=by omega
  obtain⟨y,hy⟩:∃y,l[i]? =some y:=⟨_,List.getElem?_eq_getElem (by omega)⟩;refine(hl.same kw).load (i:=(i:Int)) (by omega) hy ?_;refine dN.of ?_;unfold dN.W;intro w3 w4;have k3:Kept Nil w' w3:=(Kept.refl _ _).alloc _;have p8:w3.heap[w'.heap.size]? =some (.cells y.1 al (0,0)):=aM w' _;have k4:Kept Nil w3 w4:=(Kept.refl _ _).drew;clear_value w4;have ui:=k4.heap p8 (fun h=>h);have KX:=(kw.tt k3).tt k4;obtain⟨bl,c,mb,M,G⟩:=(h.same KX).G;refine⟨some ⟨x,0,none⟩,by rw [aE (KX.heap hg (fun h=>h))];rfl,_,(h.same KX).c0,y.1,⟨y.2.1,Cells.bV ui⟩,sK G y fun w7 k7=>⟨_,rfl,_,rfl,?_⟩⟩;have Cz:=KX.tt k7;by_cases hm:y∈ids D
  ·refine Split.no (by rw [decide_eq_true hm];rfl) ?_
   simp only;rw [dF (n:=(i:Int)) (by omega) (by omega)];refine⟨(0,(i:Int)+1),rfl,⟨i+1,rfl,dX,fun p hp=>?_,Cz⟩,by simp only;omega⟩;rcases(bP hy).1 hp with hp|rfl
   ·exact cY p hp
   ·exact hm
  ·refine Split.yes (by rw [decide_eq_false hm];rfl) ?_
   refine⟨(i:Int),rfl,?_⟩;exact hK w7 _ ⟨fun _=>⟨y,List.mem_of_getElem? hy,hm⟩,fun _=>decide_eq_true (by omega)⟩ Cz
 ·simp only at gH
  rw [aU,ax.dz];rw [List.take_of_length_le (by omega)]at cY;exact⟨-1,rfl,hK w' _ ⟨fun h=>absurd (of_decide_eq_true h) (by omega),fun⟨p,hp,hn⟩=>absurd (cY p hp) hn⟩ kw⟩
theorem qx(h:XV w F x D P m){A:Option Addr}{n cx:Nat}{l:List HT}(hl:HS w A n l)(hn:n<=400000)(hK:∀w',Kept Nil w w'->K (.bool (decide (∀p∈l,p∈ids D))) w'):
 bG prog fT.id #[.pointer (some ⟨x,0,none⟩),.slice A n cx] w K:=by
 refine fT.of ?_;unfold fT.W;intro w3;have k3:Kept Nil w w3:=(Kept.refl _ _).alloc _;have p8:w3.heap[w.heap.size]? =some (.cells #[.pointer (some ⟨x,0,none⟩)] gP (0,0)):=aM w _;clear_value w3;refine⟨_,by rw [aE p8];rfl,tV (h.same k3) ⟨true,rfl,Split.yes rfl ?_⟩⟩;refine zh (h.same k3) p8 (hl.same k3) hn fun w9 b hb k9=>⟨b,rfl,?_⟩;have:(!b)=decide (∀p∈l,p∈ids D):=by
  rw [Bool.eq_iff_iff,decide_eq_true_iff,Bool.not_eq_true',<-Bool.not_eq_true,hb];constructor
  ·exact fun hn p hp=>Classical.byContradiction fun hc=>hn ⟨p,hp,hc⟩
  ·rintro ha ⟨p,hp,hc⟩;exact hc (ha p hp)
 rw [this];exact hK w9 (k3.tt k9)
theorem tX(h:XV w F x D P m)(a b:HT)(hK:∀w' (r:Bool),(r=true↔Ch D P a b)->Kept Nil w w'->K (.bool r) w'):
 bG prog eU.id #[.pointer (some ⟨x,0,none⟩),.agg a.1,.agg b.1] w K:=by
 refine eU.of ?_;unfold eU.W;intro w4 w5 w6;have k4:Kept Nil w w4:=(Kept.refl _ _).alloc _;have Db:w4.heap[w.heap.size]? =some (.cells a.1 al (0,0)):=aM w _;have k5:Kept Nil w4 w5:=(Kept.refl _ _).alloc _;have pF:w5.heap[w4.heap.size]? =some (.cells b.1 al (0,0)):=aM w4 _;have k6:Kept Nil w5 w6:=(Kept.refl _ _).drew;clear_value w6;have xm:=(k5.tt k6).heap Db (fun h=>h);have p7:=k6.heap pF (fun h=>h);have np:=(k4.tt k5).tt k6;refine⟨a.1,⟨a.2.1,Cells.bV xm⟩,b.1,⟨b.2.1,Cells.bV p7⟩,a.2.1,b.2.1,?_⟩;intro w9;have k9:Kept Nil w6 w9:=(Kept.refl _ _).alloc _;have hx9:HS w9 (some ⟨w6.heap.size,0,none⟩) 2 [a,b]:=HS.lay (l:= [a,b]) (t:=al) (by rw [<-EM a b];exact aM w6 _);clear_value w9;have BP:=np.tt k9;refine qx (h.same BP) hx9 (by omega) fun xF J0=>⟨_,rfl,?_⟩;have Pr:=BP.tt J0;have Ko:=h.same Pr;by_cases cY:∀p∈ [a,b],p∈ids D
 ·refine Split.yes (decide_eq_true cY) ?_
  obtain⟨na,LA,ea⟩:=eI.1 (cY a (by simp));obtain⟨nb,P8,eb⟩:=eI.1 (cY b (by simp));obtain⟨k,hk⟩:=List.mem_iff_getElem?.1 LA;obtain⟨i,hi⟩:=List.mem_iff_getElem?.1 P8;have C0:=(lgeS hk).1;have dX:=(lgeS hi).1;have htl:=h.OL;obtain⟨kd,Ve⟩:=Tr.gK (T:=m.T) (i:=k) (by omega);obtain⟨nd,gQ⟩:=Tr.gK (T:=m.T) (i:=i) (by omega);have Tz:=k9.tt J0;have l1:=Ko.at_.xX b;have l2:=Ko.at_.xX a;rw [<-eb,h.W.pos_eq hi]at l1;rw [<-ea,h.W.pos_eq hk]at l2;rw [eb]at l1;rw [ea]at l2;refine⟨_,Ko.c1,_,Ko.c2,b.1,⟨b.2.1,Cells.bV (Tz.heap p7 (fun h=>h))⟩,_,l1,_,Ko.c2,a.1,⟨a.2.1,Cells.bV (Tz.heap xm (fun h=>h))⟩,_,l2,?_⟩;refine Tr.Cd Ko.T gQ Ve fun mD rO=>⟨_,rfl,hK mD _ ?_ (Pr.tt rO)⟩;rw [h.pE gQ Ve];constructor
  ·exact fun hu=>⟨i,k,nb,na,hi,eb,hk,ea,hu⟩
  ·rintro⟨i',k',ni,nk,h1,h2,h3,h4,h5⟩
   have e1:=h.W.inj h1 hi (by rw [h2,eb]);have e2:=h.W.inj h3 hk (by rw [h4,ea]);rw [<-e1,<-e2];exact h5
 ·refine Split.no (decide_eq_false cY) (hK xF false ⟨(fun e=>by cases e),fun e=>absurd (fun p hp=>?_) cY⟩ Pr)
  simp only [List.mem_cons,List.not_mem_nil,or_false]at hp;rcases hp with rfl|rfl
  ·exact e.mem.1
  ·exact e.mem.2
theorem wv{xb bb:Nat}{b:HT}(h:XV w F x D P m)(hg:w.heap[xb]? =some (.cells #[.pointer (some ⟨x,0,none⟩)] gP (0,0)))(hb:w.heap[bb]? =some (.cells b.1 al (0,0))){A:Option Addr}{n cx:Nat}{l:List HT}(hl:HS w A n l)(hn:n<=400000)
 (hK:∀w' (r:Bool),(r=true↔∃c∈l,Ch D P c b)->Kept Nil w w'->K (.bool r) w'):
 bG prog dV.id #[.slice A n cx,.func (.func dm.id) #[] #[.pointer (some ⟨xb,0,none⟩),.pointer (some ⟨bb,0,none⟩)]] w K:=by
 have hlen:=hl.len;refine cu.of (ao.of ?_);refine ao.cJ (I:=fun s w'=>∃i:Nat,s=(0,(i:Int))/\i<=n/\(∀p∈l.take i,¬Ch D P p b)/\Kept Nil w w') (μ:=fun s _=>((n:Int)-s.2).toNat) (s:=(0,0)) ⟨0,rfl,Nat.zero_le _,by simp,Kept.refl _ _⟩ ?_;rintro s w' ⟨i,rfl,hi,cY,kw⟩;refine Split.dec (fun jZ=>?_) (fun gH=>?_)
 ·simp only at jZ
  have dX:i<n:=by omega
  obtain⟨y,hy⟩:∃y,l[i]? =some y:=⟨_,List.getElem?_eq_getElem (by omega)⟩;refine(hl.same kw).load (i:=(i:Int)) (by omega) hy ?_;refine dm.of ?_;unfold dm.W;intro w4;have k4:Kept Nil w' w4:=(Kept.refl _ _).alloc _;have ui:w4.heap[w'.heap.size]? =some (.cells y.1 al (0,0)):=aM w' _;clear_value w4;have KX:=kw.tt k4;refine⟨some ⟨x,0,none⟩,by rw [aE (KX.heap hg (fun h=>h))];rfl,y.1,⟨y.2.1,Cells.bV ui⟩,b.1,⟨b.2.1,Cells.bV (KX.heap hb (fun h=>h))⟩,tX (h.same KX) y b fun w7 r hr k7=>⟨r,rfl,r,rfl,?_⟩⟩;have Cz:=KX.tt k7;cases r with
  |false=>
   refine Split.no rfl ?_;simp only;rw [dF (n:=(i:Int)) (by omega) (by omega)];refine⟨(0,(i:Int)+1),rfl,⟨i+1,rfl,dX,fun p hp hc=>?_,Cz⟩,by simp only;omega⟩;rcases(bP hy).1 hp with hp|rfl
   ·exact cY p hp hc
   ·cases hr.2 hc
  |true=>
   refine Split.yes rfl ⟨(i:Int),rfl,?_⟩;exact hK w7 _ ⟨fun _=>⟨y,List.mem_of_getElem? hy,hr.1 rfl⟩,fun _=>decide_eq_true (by omega)⟩ Cz
 ·simp only at gH
  rw [aU,ao.dz];rw [List.take_of_length_le (by omega)]at cY;exact⟨-1,rfl,hK w' _ ⟨fun h=>absurd (of_decide_eq_true h) (by omega),fun⟨p,hp,hn⟩=>absurd hn (cY p hp)⟩ kw⟩
theorem lu(h:XV w F x D P m)(hD:D.length<=5000)(a b:HT)(hK:∀w' (r:Bool),(r=true↔fI D a b)->Kept Nil w w'->K (.bool r) w'):
 bG prog eA.id #[.pointer (some ⟨x,0,none⟩),.agg a.1,.agg b.1] w K:=by
 refine eA.of ?_;unfold eA.W;intro w4 w5 w6;have k4:Kept Nil w w4:=(Kept.refl _ _).alloc _;have TY:w4.heap[w.heap.size]? =some (.cells #[.pointer (some ⟨x,0,none⟩)] gP (0,0)):=aM w _;have k5:Kept Nil w4 w5:=(Kept.refl _ _).alloc _;have L6:w5.heap[w4.heap.size]? =some (.cells a.1 al (0,0)):=aM w4 _;have k6:Kept Nil w5 w6:=(Kept.refl _ _).alloc _;have p7:w6.heap[w5.heap.size]? =some (.cells b.1 al (0,0)):=aM w5 _;clear_value w6;have xm:=k6.heap L6 (fun h=>h);have Lj:=(k5.tt k6).heap TY (fun h=>h);have np:=(k4.tt k5).tt k6;refine⟨_,by rw [aE Lj];rfl,a.1,⟨a.2.1,Cells.bV xm⟩,b.1,⟨b.2.1,Cells.bV p7⟩,a.2.1,b.2.1,?_⟩;intro w10;have rP:Kept Nil w6 w10:=(Kept.refl _ _).alloc _;have Lp:HS w10 (some ⟨w6.heap.size,0,none⟩) 2 [a,b]:=HS.lay (l:= [a,b]) (t:=al) (by rw [<-EM a b];exact aM w6 _);clear_value w10;have CH:=np.tt rP;refine qx (h.same CH) Lp (by omega) fun nx zw=>⟨_,rfl,?_⟩;have tw:=CH.tt zw;have CC:=rP.tt zw;by_cases cY:∀p∈ [a,b],p∈ids D
 ·refine Split.no (by rw [decide_eq_true cY];rfl) ?_
  have acG:=CC.heap xm (fun h=>h);have acA:=CC.heap p7 (fun h=>h);refine⟨a.1,⟨a.2.1,Cells.bV acG⟩,b.1,⟨b.2.1,Cells.bV acA⟩,⟨a.2.ints,b.2.ints⟩,?_⟩;rw [fz];refine Split.dec (fun he=>?_) (fun he=>?_)
  ·subst he
   exact hK nx false ⟨(fun e=>by cases e),fun e=>absurd e (fI.irrefl h.W a)⟩ tw
  ·intro nh
   have rv:Kept Nil nx nh:=(Kept.refl _ _).drew;clear_value nh;have TN:=tw.tt rv;have K8:=CC.tt rv;refine⟨_,by rw [aE (K8.heap Lj (fun h=>h))];rfl,a.1,⟨a.2.1,Cells.bV (K8.heap xm (fun h=>h))⟩,b.1,⟨b.2.1,Cells.bV (K8.heap p7 (fun h=>h))⟩,?_⟩;refine tX (h.same TN) a b fun zL r hr Ih=>⟨r,rfl,?_⟩;have Po:=TN.tt Ih;have K7:=K8.tt Ih;cases r with
   |true=>exact Split.yes rfl (hK zL true ⟨fun _=>(JE h.W h.nz he).2 (.inl (hr.1 rfl)),fun _=>rfl⟩ Po)
   |false=>
    refine Split.no rfl ?_;have h21:=h.same Po;obtain⟨f,hf,NK⟩:=h21.YT;obtain⟨l,hl,jc⟩:=NK a;have EG:=hf.look yO a;have fin:∀ {A:Option Addr} {n c:Nat},(f a).getD (.slice none 0 0)=.slice A n c->HS zL A n l->n<=D.length->
     bG prog dV.id #[.slice A n c,.func (.func dm.id) #[] #[.pointer (some ⟨w.heap.size,0,none⟩),.pointer (some ⟨w5.heap.size,0,none⟩)]] zL fun v28 Zc=>∃t:Bool,v28=.bool t/\K (.bool t) Zc:=fun _ hs hn=>
     wv h21 (K7.heap Lj (fun h=>h)) (K7.heap p7 (fun h=>h)) hs (by omega) fun wP r2 jY Lb=>⟨r2,rfl,hK wP r2 (by
      rw [jY,JE h.W h.nz he];constructor
      ·rintro⟨c,h1,h2⟩;exact .inr ⟨c,(jc c).1 h1,h2⟩
      ·rintro(h1|⟨c,h1,h2⟩)
       ·cases hr.2 h1
       ·exact⟨c,(jc c).2 h1,h2⟩) (Po.tt Lb)⟩
    refine⟨some ⟨x,0,none⟩,by rw [aE (K7.heap Lj (fun h=>h))];rfl,_,h21.c4,a.1,⟨a.2.1,Cells.bV (K7.heap xm (fun h=>h))⟩,?_⟩;rcases hl with⟨h1,rfl⟩|⟨A,n,c,h1,h2,h3,h4,h5⟩
    ·rw [h1]at EG
     exact⟨none,0,0,EG,fin (by rw [h1];rfl) (HS.nil _ _) (by omega)⟩
    ·rw [h1]at EG
     exact⟨A,n,c,EG,fin (by rw [h1];rfl) h3 h4⟩
 ·refine Split.yes (by rw [decide_eq_false cY];rfl) (hK nx false ⟨(fun e=>by cases e),fun e=>absurd (fun p hp=>?_) cY⟩ tw)
  simp only [List.mem_cons,List.not_mem_nil,or_false]at hp;rcases hp with rfl|rfl
  ·exact(e.mem h.W).1
  ·exact(e.mem h.W).2
end
end Go.Proofs.YtfleamccglihoaaGreatDoor
namespace Go.Proofs.YtfleamccglihoaaGreatDoor
open Go.Proofs.Tryz
open Go Go.b0 Go.RowKit
section
variable{w w':World}{K:Value->World->Prop}
theorem yr{A:Option Addr}{n c:Nat}(Gp:n<=c)(hK:K (.slice A n n) w):bG prog dE.id #[.slice A n c] w K:=by
 refine dE.of ⟨⟨by omega,by omega⟩,⟨by omega,by simp⟩,?_⟩;have e:(if(n:Int).toNat=0 then A else A.map (·.add (0*32)))=A:=by
  split
  ·rfl
  ·cases A with
   |none=>rfl
   |some a=>simp [add_zero]
 rw [e];simpa using hK
theorem xo{A:Option Addr}{n c:Nat}{l:List HT}(h:HT)(hl:HS w A n l)(hn:n<=1000000)(hK:∀w',Kept Nil w w'->K (.bool (decide (h∈l))) w'):
 bG prog dc.id #[.slice A n c,.agg h.1] w K:=by
 have hlen:=hl.len;refine dc.of ?_;unfold dc.W;intro w3;have k3:Kept Nil w w3:=(Kept.refl _ _).alloc _;have p8:w3.heap[w.heap.size]? =some (.cells h.1 al (0,0)):=aM w _;clear_value w3;refine⟨h.1,⟨h.2.1,Cells.bV p8⟩,?_⟩;refine aW.of ?_;unfold aW.W;intro w4;have k4:Kept Nil w3 w4:=(Kept.refl _ _).alloc _;have ui:w4.heap[w3.heap.size]? =some (.cells h.1 al (0,0)):=aM w3 _;clear_value w4;have mh:=k3.tt k4;refine aW.cJ (I:=fun s w'=>∃i:Nat,s=(0,(i:Int))/\i<=n/\Kept Nil w4 w'/\h∉l.take i) (μ:=fun s _=>((n:Int)-s.2).toNat) (s:=(0,0)) ⟨0,rfl,Nat.zero_le _,Kept.refl _ _,by simp⟩ ?_;rintro s w' ⟨i,rfl,hi,kw,mH⟩;refine Split.dec (fun di=>?_) (fun gH=>?_)
 ·simp only at di
  have dX:i<n:=by omega
  obtain⟨y,hy⟩:∃y,l[i]? =some y:=⟨_,List.getElem?_eq_getElem (by omega)⟩;intro w9;have k9:Kept Nil w' w9:=(Kept.refl _ _).drew;clear_value w9;have ZX:=kw.tt k9;have BP:=mh.tt ZX;refine⟨h.1,⟨h.2.1,Cells.bV (ZX.heap ui (fun h=>h))⟩,?_⟩;refine(hl.same BP).load (i:=(i:Int)) (by omega) hy ⟨⟨h.2.ints,y.2.ints⟩,?_⟩;rw [fz];refine Split.dec (fun he=>?_) (fun he=>?_)
  ·refine⟨(i:Int),rfl,?_⟩
   have:=hK w9 BP;rw [decide_eq_true (by rw [he];exact List.mem_of_getElem? hy)]at this;rw [show decide ((i:Int)>=(0:Int))=true from decide_eq_true (by omega)];exact this
  ·simp only
   rw [jb (x:=(i:Int)+1) (by omega) (by omega)];refine⟨(0,(i:Int)+1),rfl,⟨i+1,rfl,dX,ZX,?_⟩,by simp only;omega⟩;rw [List.take_add_one,hy];simp only [Option.toList_some,List.mem_append,List.mem_singleton,not_or];exact⟨mH,he⟩
 ·simp only at gH
  rw [aU,aW.dz];refine⟨-1,rfl,?_⟩;have:=hK w' (mh.tt kw);rw [List.take_of_length_le (by omega)]at mH;rw [decide_eq_false mH]at this;exact this
theorem zl{A:Option Addr}{n cx:Nat}{l:List HT}{h:HT}{b:Nat}(hl:HS w A n l)(hb:HS w (some ⟨b,0,none⟩) 1 [h])(hn:n<=100000):
 ∃A' c' w',(Builtin.append_ #[aF,aF] aF #[.slice A n n,.slice (some ⟨b,0,none⟩) 1 cx]).run prog w=.ok (.slice A' (n+1) c') w'/\
  HS w' A' (n+1) (l++ [h])/\n+1<=c'/\(∀a,A'=some a->w.heap.size<=a.block/\a.block<w'.heap.size)/\Kept Nil w w':=by
 have hlen:=hl.len;cases A with
 |none=>
  obtain⟨rfl,rfl⟩:=hl.none;obtain⟨A',c',w',hr,fP,hg,hbk⟩:=dd (cx:=cx) aF (cf.nil w w.heap.size) hb (by omega) (Nat.le_refl _);rw [Nat.zero_add]at hr fP;rw [List.nil_append]at fP;obtain⟨b',rfl⟩:=Row.some fP (by omega);have xl:=Row.bV fP (k:=b') rfl;refine⟨some ⟨b',0,Option.none⟩,c',w',hr,cf.hs fP,?_,fun a ha=>?_,Kept.dY (Kept.refl _ _) hg (fun k hk=>by cases hk)⟩
  ·rcases Row.own fP with⟨h1,_⟩|⟨_,_,_,_,_,h1,_⟩
   ·cases h1
   ·exact h1
  ·cases ha
   obtain⟨h1,cur,h2⟩:=xl;exact⟨h1,bf h2⟩
 |some a=>
  obtain⟨i,z,hi,hz,hs,Kl,Ey⟩:=pL.inf;have hr:=run_append_grow (P:=prog) (w:=w) aF aF al i z pL.pE hi hz a n n (dw l) (by rw [fu,hs,hlen]) hl.cells ⟨b,0,Option.none⟩ 1 cx (dw [h]) (by rw [fu,hs];rfl) hb.cells (by omega) (by omega) (growslice_fits (by omega) (by rw [Kl];omega));refine⟨_,_,_,hr,⟨by simp [hlen],fun j y hj=>⟨_,rfl,?_,?_⟩⟩,grownCap_ge _ _ _ _,fun a' y8=>?_,?_⟩
  ·have:=aM w.drew (.cells ((dw l).toArray++(dw [h]).toArray++Builtin.zeroCells z.cells (grownCap w (n+1) n al-(n+1))) al)
   exact bf this
  ·intro q v hq
   rw [bE,bE,Nat.zero_add];have hblk:=aM w.drew (.cells ((dw l).toArray++(dw [h]).toArray++Builtin.zeroCells z.cells (grownCap w (n+1) n al-(n+1))) al);have e:(w.drew.heap.size)=w.heap.size:=rfl;rw [e]at hblk;rw [aE hblk];have h1:=lM hj hq;rw [mS]at h1;have di:=(lgeS h1).1;rw [Array.getElem?_append_left (by simpa using di)];simpa using h1
  ·cases y8
   have:=aM w.drew (.cells ((dw l).toArray++(dw [h]).toArray++Builtin.zeroCells z.cells (grownCap w (n+1) n al-(n+1))) al);exact⟨Nat.le_refl _,bf this⟩
  ·exact(Kept.refl Nil w).drew.alloc _
end
def iH(D:DG)(h s:HT)(l:List HT):Int:=if dU D h l=0 then(if s∈l then 0 else 2)else dU D h l
theorem qm{D:DG}{h:HT}{l:List HT}(e:dU D h l=0):mC D h l=D++ [⟨h,dC l⟩]:=by unfold mC;rw [if_pos e]
section
variable{w w':World}{S ST:Nat->Prop}{t:Nat}{T:List Tr.Nd}{d:Int}
theorem tO(h:Tr.pG w ST t T d):Tr.pG w (fun k=>ST k/\k<w.heap.size) t T d:=by
 obtain⟨b,c,L,h⟩:=h;refine⟨b,c,L,{h with iW:=⟨h.iW,h.lt⟩,gS:=⟨h.gS,?_⟩,ru:=fun i p hi=>?_}⟩
 ·obtain⟨A,m,hk⟩:=h.ru i p hi
  exact⟨A,m,{hk with kY:=fun k e=>⟨hk.kY k e,let ⟨_,_,hc⟩:=Row.bV hk.row e;bf hc⟩}⟩
 ·obtain⟨cur,hc⟩:=h.wD
  exact bf hc
end
section
variable{w w':World}{F:Nat->Prop}{x:Nat}{D:DG}{P:List Int}{m:XM}{K:Value->World->Prop}
theorem JG{v:World}{hid s:HT}{S2 F2 SO2:Nat->Prop}{ps:List HT}{j:Nat}{mj:DN}{Gh sb:Nat}{b8:Int}{FQ:Option Nat}{A7:Option Addr}{n7 c7:Nat}{i7:Int}{s1 s2:Nat}
 (h:XV w F x D P m) (hD:D.length<=5000) (hn:hid∉ids D) (gD:∀p∈ps,p∈ids D) (uU:SS ps) (hj:D[j]? =some mj) (hs:mj.id=s) (Ha:s∈ps)
 (jK:v.heap[x]? =some (.cells #[.pointer (some ⟨m.g,0,none⟩),.pointer (some ⟨m.t,0,none⟩),.map (some m.mb),.slice (some ⟨m.ib,0,none⟩) D.length m.ic,.map (some m.cb)] fg (0,0)))
 (ajI:w.heap.size<=Gh) (aiA:w.heap.size<=sb) (Qr:v.heap[Gh]? =some (.cells hid.1 al (0,0))) (IE:v.heap[sb]? =some (.cells s.1 al (0,0)))
 (hG:E8 v S2 F2 m.g (D++ [⟨hid,ps⟩])) (hT:Tr.pG v m.ST m.t m.T m.d) (hat:IsMap v m.mb (ids D)) (fP:cf v 0 (some ⟨m.ib,0,none⟩) D.length m.ic (ids D))
 (QF:∃f,gh v m.cb f/\∀y,∃l,pg v SO2 (D.length+1) (f y) l/\∀c,c∈l↔Oq (D++ [⟨hid,ps⟩]) (P++ [(j:Int)]) y c)
 (wM:w.heap.size<=s1) (zA:s1<=s2) (CP:s2<=v.heap.size)
 (RD:∀k,S2 k->(m.SG k\/w.heap.size<=k)/\k<s1) (RE:∀k,F2 k->(F k\/w.heap.size<=k)/\k<s1) (MR:∀k,SO2 k->m.SO k\/(s2<=k/\k<v.heap.size))
 (kv:Kept (fun k=>m.kY x k) w v)
 (hK:∀u S' F',DP u S' F' x (D++ [⟨hid,ps⟩]) (P++ [(j:Int)])->Kept (fun k=>m.kY x k) w u->(∀k,S' k->m.kY x k\/w.heap.size<=k)->(∀k,F' k->F k\/w.heap.size<=k)->K (.int .i64 0) u):
 aH.Rj (some ⟨x,0,none⟩) ⟨Gh,0,none⟩ ⟨sb,0,none⟩ b8 FQ A7 n7 c7 i7 i7 K v:=by
 have W:=h.W;have oO:=h.low;have uV:=(lgeS hj).1;have htl:=h.OL;have hox:m.own x x:=.inl rfl;have UG:m.own x m.mb:=.inr (.inl rfl);have UH:m.own x m.ib:=.inr (.inr (.inl rfl));have uF:m.own x m.cb:=.inr (.inr (.inr rfl));obtain⟨Rz,S5,O1,SY,Ry,SV⟩:=h.ne;unfold aH.Rj;intro Fh;have wY:Kept Nil v Fh:=(Kept.refl _ _).drew;clear_value Fh;have c1:Fh.cell? ((⟨x,0,none⟩:Addr).add 1)=some (.pointer (some ⟨m.t,0,none⟩)):=by rw [bE,aE (wY.heap jK (fun h=>h))];rfl
 have c2:Fh.cell? ((⟨x,0,none⟩:Addr).add 2)=some (.map (some m.mb)):=by rw [bE,aE (wY.heap jK (fun h=>h))];rfl
 have Jb:=hat.aK wY (fun h=>h);have lk:=Jb.xX s;rw [<-hs,W.pos_eq hj]at lk;rw [hs]at lk;refine⟨_,c1,_,c2,s.1,⟨s.2.1,Cells.bV (wY.heap IE (fun h=>h))⟩,_,lk,?_⟩;have Wz:=tO (hT.same wY);refine Tr.Hz Wz h.Mh (p:=j) (by omega) (by omega) ⟨h.dl.1,by have:=h.dl.2;omega⟩ fun Fg Xm T' d' Wy Jh Uz hd' Gg acK=>⟨_,_,rfl,?_⟩;have ag6:=wY.size;have RC:∀k,Xm k->m.ST k\/Fh.heap.size<=k:=fun k hk=>(acK k hk).imp (fun h=>h.1) (fun h=>h);have nST:∀k,(m.ST k/\k<Fh.heap.size)->m.ST k:=fun k h=>h.1;have OJ:=Gg.heap (wY.heap jK (fun h=>h)) (fun e=>(h.od x hox).2.1 e.1);intro Hs;have Gf:Kept Nil Fg Hs:=(Kept.refl _ _).drew;clear_value Hs;have HC:=Gf.heap OJ (fun h=>h);have EF:∀k,m.ST k->k<w.heap.size:=fun k e=>oO k (.inl (.inr (.inl e)));have lox:x<w.heap.size:=oO x (.inl (.inr (.inr (.inr hox))));have ahz:m.mb<w.heap.size:=oO _ (.inl (.inr (.inr (.inr UG))));have ahA:m.ib<w.heap.size:=oO _ (.inl (.inr (.inr (.inr UH))));have Te:m.cb<w.heap.size:=oO _ (.inl (.inr (.inr (.inr uF))));have sv:=kv.size;have EI:Hs.heap[Gh]? =some (.cells hid.1 al (0,0)):=Gf.heap (Gg.heap (wY.heap Qr (fun h=>h)) (fun e=>by have:=EF _ e.1;omega)) (fun h=>h);have Dy:Hs.cell? ((⟨x,0,none⟩:Addr).add 2)=some (.map (some m.mb)):=by rw [bE,aE HC];rfl
 have QP:IsMap Hs m.mb (ids D):=(Jb.aK Gg (fun e=>(h.od _ UG).2.1 e.1)).aK Gf (fun h=>h);obtain⟨OC,Nn,QO,TL⟩:=QP.put hn;rw [iM,<-htl]at Nn;refine⟨_,Dy,hid.1,⟨hid.2.1,Cells.bV EI⟩,OC,Nn,?_⟩;intro Ff;have TK:Kept Nil OC Ff:=(Kept.refl _ _).drew;clear_value Ff;have yS:=TL.trans TK (fun _ _ h=>h.elim);have HB:=yS.heap HC (fun e=>Rz e);have c3:∀ {u:World},Kept Nil Ff u->u.cell? ((⟨x,0,none⟩:Addr).add 3)=some (.slice (some ⟨m.ib,0,none⟩) D.length m.ic):=fun k=>by rw [bE,aE (k.heap HB (fun h=>h))];rfl
 have LG:=yS.heap EI (fun e=>by omega);refine⟨_,_,_,c3 (Kept.refl _ _),hid.1,⟨hid.2.1,Cells.bV LG⟩,hid.2.1,?_⟩;intro zN;have Le:Kept Nil Ff zN:=(Kept.refl _ _).alloc _;have Wn:HS zN (some ⟨Ff.heap.size,0,none⟩) 1 [hid]:=jE Ff hid;clear_value zN;have Ev:=yS.trans Le (fun _ _ h=>h.elim);have OT:cf zN 0 (some ⟨m.ib,0,none⟩) D.length m.ic (ids D):=
  Row.aK (Row.aK (Row.aK (Row.aK fP wY (fun _ _ h=>h)) Gg (fun k e e'=>by cases e;exact(h.od _ UH).2.1 e'.1)) Gf (fun _ _ h=>h)) Ev (fun k e e'=>by cases e;exact SY e'.symm)
 obtain⟨A',c',Fe,Uo,Cm,VA,Wm⟩:=dd (cx:=1) aF OT Wn (by omega) (Nat.zero_le _);have Pm:Kept (· =m.ib) zN Fe:=Kept.grown (Kept.refl _ _) VA (fun k e _=>by cases e;rfl);obtain⟨BQ,rfl⟩:=Row.some Cm (by omega);have LH:BQ=m.ib\/zN.heap.size<=BQ:=by
  rcases Wm BQ rfl with e|e
  ·left;simpa [bI]using e.symm
  ·exact .inr e
 have HA:=Pm.heap (Le.heap HB (fun h=>h)) (fun e=>S5 e);refine⟨c3 Le,some ⟨BQ,0,none⟩,_,c',Fe,Uo,Is.mk rfl ⟨?_,?_⟩⟩
 ·rw [bE]
  exact dQ HA (by simp)
 intro zM;have W9:zM=Fe.setCell ⟨x,3,none⟩ (.slice (some ⟨BQ,0,none⟩) (D.length+1) c'):=by
  show Fe.setCell ((⟨x,0,none⟩:Addr).add 3) _=_
  rw [bE]
 have Pk:Kept (· =x) Fe zM:=by rw [W9];exact Kept.setCell (S:=fun k=>k=x) (Kept.refl _ Fe) (p:=⟨x,3,none⟩) (fun _=>rfl) _
 have OI:zM.heap[x]? =some (.cells #[.pointer (some ⟨m.g,0,none⟩),.pointer (some ⟨m.t,0,none⟩),.map (some m.mb),.slice (some ⟨BQ,0,none⟩) (D.length+1) c',.map (some m.cb)] fg (0,0)):=by
  rw [W9,du HA 3];rfl
 clear_value zM;have ag5:=Gg.size;have ag4:=Gf.size;have ag3:=Ev.size;have ag2:=Pm.size;have ag1:=Pk.size;have kC:Kept (fun k=>k=m.ib\/k=x) OC zM:=(((TK.tt Le).mono (S':=fun k=>k=m.ib\/k=x) (fun _ _ h=>h.elim)).trans Pm (fun _ _ h=>.inl h)).trans Pk (fun _ _ h=>.inr h);have kB:Kept (fun k=>k=m.mb\/k=m.ib\/k=x) Fg zM:=((Gf.mono (S':=fun k=>k=m.mb\/k=m.ib\/k=x) (fun _ _ h=>h.elim)).trans TL (fun _ _ h=>.inl h)).trans kC (fun _ _ h=>.inr h);have kA:Kept (fun k=>m.ST k\/k=m.mb\/k=m.ib\/k=x) v zM:=((wY.mono (S':=fun k=>m.ST k\/k=m.mb\/k=m.ib\/k=x) (fun _ _ h=>h.elim)).trans Gg (fun _ _ h=>.inl h.1)).trans kB (fun _ _ h=>.inr h);have FO:∀k,(k=m.mb\/k=m.ib\/k=x)->m.own x k:=fun k e=>by
  rcases e with e|e|e
  ·exact .inr (.inl e)
  ·exact .inr (.inr (.inl e))
  ·exact .inl e
 have KL:∀k,m.own x k->k<w.heap.size:=fun k e=>oO k (.inl (.inr (.inr (.inr e))));have KQ:∀k,m.SG k->k<w.heap.size:=fun k e=>oO k (.inl (.inl e));have H3:∀k,m.SO k->k<w.heap.size:=fun k e=>oO k (.inl (.inr (.inr (.inl e))));have nG:∀k,S2 k->¬(m.ST k\/k=m.mb\/k=m.ib\/k=x):=fun k h1 h2=>by
  obtain⟨h3,_⟩:=RD k h1;rcases h2 with h2|h2
  ·rcases h3 with h3|h3
   ·exact(h.gt k h3).1 h2
   ·have:=EF k h2;omega
  ·have h4:=FO k h2
   rcases h3 with h3|h3
   ·exact(h.od k h4).1 h3
   ·have:=KL k h4;omega
 have nF:∀k,F2 k->¬(m.ST k\/k=m.mb\/k=m.ib\/k=x):=fun k h1 h2=>by
  obtain⟨h3,_⟩:=RE k h1;rcases h2 with h2|h2
  ·rcases h3 with h3|h3
   ·exact(h.fd k h3).1 h2
   ·have:=EF k h2;omega
  ·have h4:=FO k h2
   rcases h3 with h3|h3
   ·exact(h.od k h4).2.2.2 h3
   ·have:=KL k h4;omega
 have ZB:∀k,SO2 k->¬(m.ST k\/k=m.mb\/k=m.ib\/k=x):=fun k h1 h2=>by
  rcases MR k h1 with h3|⟨h3,_⟩
  ·rcases h2 with h2|h2
   ·exact h.to k h2 h3
   ·exact(h.od k (FO k h2)).2.2.1 h3
  ·rcases h2 with h2|h2
   ·have:=EF k h2;omega
   ·have:=KL k (FO k h2);omega
 have nT:∀k,(Xm k/\k<Fg.heap.size)->¬(k=m.mb\/k=m.ib\/k=x):=fun k h1 h2=>by
  have h4:=FO k h2;rcases RC k h1.1 with h3|h3
  ·exact(h.od k h4).2.1 h3
  ·have:=KL k h4;omega
 refine hK zM (fun k=>(S2 k\/(Xm k/\k<Fg.heap.size)\/SO2 k\/(k=x\/k=m.mb\/k=BQ\/k=m.cb))) F2 ⟨{m with ib:=BQ,ic:=c',T:=T',d:=d',SG:=S2,ST:=fun k=>Xm k/\k<Fg.heap.size,SO:=SO2},?_,fun k e=>e⟩ ?_ ?_ ?_
 ·refine⟨?_,hG.aK kA nG nF,(tO Wy).aK kB nT,Jh,?_,?_,?_,?_,?_,?_,?_,?_,?_,?_,?_,?_,?_⟩
  ·rw [List.length_append];exact OI
  ·show Tr.b9 T'=_
   rw [Uz,h.b9]
  ·have:=h.dl
   simp only [List.length_append,List.length_singleton];show 0<=d'/\d'<=_
   omega
  ·rw [lU]
   exact QO.aK kC (fun e=>e.elim (fun e=>SY e) (fun e=>Rz e.symm))
  ·rw [lU,List.length_append]
   refine Row.aK Cm Pk (fun k e e'=>?_);have e1:BQ=k:=by simpa [bI]using e
   rcases LH with e|e
   ·exact S5 (e'.symm.trans (e1.symm.trans e))
   ·omega
  ·obtain⟨f,hf,hc⟩:=QF
   refine⟨f,hf.aK kA (fun e=>?_),fun y=>?_⟩
   ·rcases e with e|e|e|e
    ·exact(h.od _ uF).2.1 e
    ·exact Ry e.symm
    ·exact SV e.symm
    ·exact O1 e.symm
   ·obtain⟨l,h1,h2⟩:=hc y
    refine⟨l,?_,h2⟩;rw [List.length_append];exact h1.aK kA ZB
  ·exact h.nz.snoc hj (by rw [hs];exact Ha) W.pos
  ·exact W.snoc (nd:=⟨hid,ps⟩) hn gD uU
  ·intro k h1
   obtain⟨h3,h4⟩:=RD k h1;refine⟨fun h2=>?_,fun h2=>?_⟩
   ·rcases RC k h2.1 with h5|h5
    ·exact nG k h1 (.inl h5)
    ·omega
   ·rcases MR k h2 with h5|h5
    ·rcases h3 with h3|h3
     ·exact(h.gt k h3).2 h5
     ·have:=H3 k h5;omega
    ·omega
  ·intro k h1 h2
   rcases RC k h1.1 with h5|h5
   ·exact ZB k h2 (.inl h5)
   ·rcases MR k h2 with h6|h6
    ·have:=H3 k h6;omega
    ·omega
  ·intro k h1
   obtain⟨h3,h4⟩:=RE k h1;refine⟨fun h2=>?_,fun h2=>?_⟩
   ·rcases RC k h2.1 with h5|h5
    ·exact nF k h1 (.inl h5)
    ·omega
   ·rcases MR k h2 with h5|h5
    ·rcases h3 with h3|h3
     ·exact(h.fd k h3).2 h5
     ·have:=H3 k h5;omega
    ·omega
  ·intro k e
   have e':(k=m.mb\/k=m.ib\/k=x)\/(k=m.cb)\/(k=BQ/\zN.heap.size<=BQ):=by
    rcases e with e|e|e|e
    ·exact .inl (.inr (.inr e))
    ·exact .inl (.inl e)
    ·rcases LH with h5|h5
     ·exact .inl (.inr (.inl (e.trans h5)))
     ·exact .inr (.inr ⟨e,h5⟩)
    ·exact .inr (.inl e)
   have big:zN.heap.size<=k->¬S2 k/\¬(Xm k/\k<Fg.heap.size)/\¬SO2 k/\¬F2 k:=fun hb=>
    ⟨fun h1=>by have:=(RD k h1).2;omega,fun h1=>by have:=h1.2;omega,fun h1=>(MR k h1).elim (fun h2=>by have:=H3 k h2;omega) (fun h2=>by omega),fun h1=>by have:=(RE k h1).2;omega⟩
   rcases e' with e'|e'|⟨rfl,e'⟩
   ·exact⟨fun h1=>nG k h1 (.inr e'),fun h1=>nT k h1 e',fun h1=>ZB k h1 (.inr e'),fun h1=>nF k h1 (.inr e')⟩
   ·subst e'
    have EN:=h.od _ uF;refine⟨fun h1=>?_,fun h1=>?_,fun h1=>?_,fun h1=>?_⟩
    ·rcases(RD _ h1).1 with h2|h2
     ·exact EN.1 h2
     ·omega
    ·rcases RC _ h1.1 with h2|h2
     ·exact EN.2.1 h2
     ·omega
    ·rcases MR _ h1 with h2|h2
     ·exact EN.2.2.1 h2
     ·omega
    ·rcases(RE _ h1).1 with h2|h2
     ·exact EN.2.2.2 h2
     ·omega
   ·exact big e'
  ·show x≠m.mb/\x≠BQ/\x≠m.cb/\m.mb≠BQ/\m.mb≠m.cb/\BQ≠m.cb
   rcases LH with h5|h5
   ·rw [h5];exact⟨Rz,S5,O1,SY,Ry,SV⟩
   ·exact⟨Rz,by omega,O1,by omega,Ry,by omega⟩
  ·intro k e
   have hblk:=(Row.bV Cm (k:=BQ) rfl).2;obtain⟨cur,pZ⟩:=hblk;have lib:=bf pZ;rcases e with e|e
   ·rcases e with e|e|e|e
    ·have:=(RD k e).2;omega
    ·have:=e.2;omega
    ·rcases MR k e with h2|h2
     ·have:=H3 k h2;omega
     ·omega
    ·rcases e with e|e|e|e
     ·omega
     ·have e:k=m.mb:=e;omega
     ·have e:k=BQ:=e;omega
     ·have e:k=m.cb:=e;omega
   ·have:=(RE k e).2;omega
 ·refine kv.trans kA (fun k _ e=>?_)
  rcases e with e|e
  ·exact .inr (.inl e)
  ·exact .inr (.inr (.inr (FO k e)))
 ·intro k e
  rcases e with e|e|e|e
  ·exact(RD k e).1.imp (fun h=>.inl h) (fun h=>h)
  ·rcases RC k e.1 with h5|h5
   ·exact .inl (.inr (.inl h5))
   ·exact .inr (by omega)
  ·rcases MR k e with h5|h5
   ·exact .inl (.inr (.inr (.inl h5)))
   ·exact .inr (by omega)
  ·rcases e with e|e|e|e
   ·exact .inl (.inr (.inr (.inr (.inl e))))
   ·exact .inl (.inr (.inr (.inr (.inr (.inl e)))))
   ·rcases LH with h5|h5
    ·exact .inl (.inr (.inr (.inr (.inr (.inr (.inl (e.trans h5)))))))
    ·exact .inr (by omega)
   ·exact .inl (.inr (.inr (.inr (.inr (.inr (.inr e))))))
 ·exact fun k e=>(RE k e).1
end
section
variable{w w':World}{F S:Nat->Prop}{x:Nat}{D:DG}{P:List Int}{m:XM}{K:Value->World->Prop}
theorem GZ{u v:World}{hid s:HT}{D':DG}{ps pl:List HT}{Gh ob i:Nat}{A7:Option Addr}{c7:Nat}{b8:Int}{sb:Addr}{f0:HT->Option Value}{Q:aT}{XE:Option Nat}
 (h:XV w F x D P m) (hD:D.length<=5000) (hwu:w.heap.size<=u.heap.size)
 (jK:u.heap[x]? =some (.cells #[.pointer (some ⟨m.g,0,none⟩),.pointer (some ⟨m.t,0,none⟩),.map (some m.mb),.slice (some ⟨m.ib,0,none⟩) D.length m.ic,.map (some m.cb)] fg (0,0)))
 (Qr:u.heap[Gh]? =some (.cells hid.1 al (0,0))) (aje:w.heap.size<=Gh) (hold:gh u ob f0) (ajb:w.heap.size<=ob) (aa8:XE=some ob)
 (hf0:∀y,(y=s\/fI D y s->f0 y=some (.agg #[.bool true]))/\(¬(y=s\/fI D y s)->f0 y=none))
 (wT:cf u w.heap.size A7 pl.length c7 pl) (rQ:pl.length<=10000)
 (kv:Kept (· =m.cb) u v) (hi:i<=pl.length) {Z:HT->HT->Prop}
 (QF:∃f,gh v m.cb f/\∀y,∃l,pg v (fun k=>m.SO k\/(u.heap.size<=k/\k<v.heap.size)) (D.length+if y∈pl.take i then 1 else 0) (f y) l/\∀c,c∈l↔Oq D P y c\/(c=hid/\y∈pl.take i/\y≠s/\¬fI D y s)) (gQ:pl.Nodup)
 (hQ:∀v',Kept (· =m.cb) u v'->(∃f,gh v' m.cb f/\∀y,∃l,pg v' (fun k=>m.SO k\/(u.heap.size<=k/\k<v'.heap.size)) (D.length+if y∈pl.take (i+1)then 1 else 0) (f y) l/\∀c,c∈l↔Oq D P y c\/(c=hid/\y∈pl.take (i+1)/\y≠s/\¬fI D y s))->i<pl.length->
   Q .normal (aH.e2 (some ⟨x,0,none⟩) ⟨Gh,0,none⟩ sb b8 XE A7 pl.length c7 (pl.length:Int) ((i:Int)+1)) v')
 (hE:i=pl.length->Q (.exit 3) (aH.e2 (some ⟨x,0,none⟩) ⟨Gh,0,none⟩ sb b8 XE A7 pl.length c7 (pl.length:Int) (i:Int)) v):
 aH.B2 (some ⟨x,0,none⟩) ⟨Gh,0,none⟩ sb b8 XE A7 pl.length c7 (pl.length:Int) (i:Int) Q v:=by
 subst aa8;have hox:m.own x x:=.inl rfl;have uF:m.own x m.cb:=.inr (.inr (.inr rfl));obtain⟨Rz,S5,O1,SY,Ry,SV⟩:=h.ne;have Te:m.cb<w.heap.size:=h.low _ (.inl (.inr (.inr (.inr uF))));have sv:=kv.size;unfold aH.B2;refine Split.dec (fun jZ=>?_) (fun gH=>hE (by omega));have dX:i<pl.length:=by omega
 obtain⟨y,hy⟩:∃y,pl[i]? =some y:=⟨_,List.getElem?_eq_getElem dX⟩;have XX:y∉pl.take i:=fun hm=>by
  obtain⟨j,hj⟩:=List.mem_iff_getElem?.1 hm;rw [List.getElem?_take]at hj;split at hj
  ·rename_i di
   have h1:=lK 0 j gQ hj;rw [lK 0 i gQ hy]at h1;simp only [Option.some.injEq]at h1;omega
  ·cases hj
 have OR:HS v A7 pl.length pl:=cf.hs (Row.aK wT kv (fun k hk e=>by have:=(Row.bV wT hk).1;omega));refine OR.load (i:=(i:Int)) (by omega) (by rw [Int.toNat_natCast];exact hy) ?_;intro w81;obtain⟨tA,kh,kH⟩:=iP (w:=v) (z:=(CK 0)) (cs:=y.1) (t:=al) (by rw [y.2.1];rfl);refine⟨⟨y.2.1,y.2.one,fun j hj=>tA j (by rw [y.2.1];exact hj)⟩,?_⟩;intro Oy
 replace kh:Oy.heap[v.heap.size]? =some (.cells y.1 al (0,0)):=kh
 replace kH:Kept Nil v Oy:=kH
 clear_value Oy;have XP:Kept (· =m.cb) u Oy:=kv.trans kH (fun _ _ h=>h.elim);have P6:gh Oy ob f0:=hold.aK XP (fun e=>by omega);have lk:=P6.look HX y;obtain⟨f,hf,hc⟩:=QF;have VI:=hf.aK kH (fun h=>h);obtain⟨l,rR,Gr⟩:=hc y;have aaA:=kH.size;have Oi:∀ {v':World} {N N':Nat} {a:Option Value} {l:List HT},v.heap.size<=v'.heap.size->N<=N'->pg v' (fun k=>m.SO k\/(u.heap.size<=k/\k<v.heap.size)) N a l->pg v' (fun k=>m.SO k\/(u.heap.size<=k/\k<v'.heap.size)) N' a l:=fun hv hN Bg=>by
  rcases Bg with Bg|⟨A,n,c,h1,h2,h3,h4,h5⟩
  ·exact .inl Bg
  ·exact .inr ⟨A,n,c,h1,h2,h3,by omega,fun a ha=>(h5 a ha).imp (fun h=>h) (fun h=>⟨h.1,by omega⟩)⟩
 have Oj:∀ {v':World} {N:Nat} {a:Option Value} {l:List HT},Kept (· =m.cb) v v'->pg v (fun k=>m.SO k\/(u.heap.size<=k/\k<v.heap.size)) N a l->pg v' (fun k=>m.SO k\/(u.heap.size<=k/\k<v.heap.size)) N a l:=fun hk Bg=>Bg.aK hk (fun k o7 e=>by
  rcases o7 with h1|h1
  ·exact(h.od _ uF).2.2.1 (e▸h1)
  ·omega)
 refine⟨y.1,⟨y.2.1,Cells.bV kh⟩,?_⟩;by_cases ko:y=s\/fI D y s
 ·rw [(hf0 y).1 ko]at lk
  refine⟨_,lk,true,rfl,Split.no rfl ?_⟩;rw [dF (n:=(i:Int)) (by omega) (by omega)];refine hQ Oy XP ⟨f,VI,fun z=>?_⟩ dX;obtain⟨lz,h1,h2⟩:=hc z;refine⟨lz,Oi aaA (by
   by_cases hz:z∈pl.take i
   ·rw [if_pos hz,if_pos ((bP hy).2 (.inl hz))];exact Nat.le_refl _
   ·rw [if_neg hz];omega) (Oj (kH.mono (fun _ _ h=>h.elim)) h1),fun c=>?_⟩
  rw [h2,bP hy];constructor
  ·rintro(h3|⟨h3,h4,h5,h6⟩)
   ·exact .inl h3
   ·exact .inr ⟨h3,.inl h4,h5,h6⟩
  ·rintro(h3|⟨h3,h4|rfl,h5,h6⟩)
   ·exact .inl h3
   ·exact .inr ⟨h3,h4,h5,h6⟩
   ·exact absurd ko (fun e=>e.elim h5 h6)
 ·rw [(hf0 y).2 ko]at lk
  refine⟨_,lk,false,rfl,Split.yes rfl ?_⟩;intro DS;have Tw:Kept Nil Oy DS:=(Kept.refl _ _).drew;clear_value DS;have ZN:=kH.tt Tw;have I4:=Tw.heap kh (fun h=>h);have ux:∀ {q:World},Kept Nil DS q->q.cell? ((⟨x,0,none⟩:Addr).add 4)=some (.map (some m.cb)):=fun k=>by
   rw [bE,aE (k.heap (Tw.heap (XP.heap jK (fun e=>O1 e)) (fun h=>h)) (fun h=>h))];rfl
  have nW:∀ {q:World},Kept Nil DS q->∃cs:Array Value,(.agg y.1:Value)=.agg cs/\cs.size=32/\Cells q (aV v.heap.size) cs:=fun k=>⟨y.1,rfl,y.2.1,Cells.bV (k.heap I4 (fun h=>h))⟩;have NH:DS.heap[Gh]? =some (.cells hid.1 al (0,0)):=Tw.heap (XP.heap Qr (fun e=>by omega)) (fun h=>h);have ab2:∀ {q:World},Kept Nil DS q->∃cs:Array Value,(.agg hid.1:Value)=.agg cs/\cs.size=32/\Cells q (⟨Gh,0,none⟩:Addr) cs:=fun k=>⟨hid.1,rfl,hid.2.1,Cells.bV (k.heap NH (fun h=>h))⟩;have VH:=VI.aK Tw (fun h=>h);obtain⟨A,n,c,gZ,Gp,BS,hnN⟩:∃(A:Option Addr) (n c:Nat),(f y).getD (.slice none 0 0)=.slice A n c/\n<=c/\HS v A n l/\n<=D.length:=by
   rcases rR with⟨h1,h2⟩|⟨A,n,c,h1,h2,h3,h4,_⟩
   ·exact⟨none,0,0,by rw [h1];rfl,Nat.le_refl _,by rw [h2];exact HS.nil _ _,by omega⟩
   ·rw [if_neg XX]at h4
    exact⟨A,n,c,by rw [h1];rfl,h2,h3,by omega⟩
  have lk2:∀ {q:World},Kept Nil DS q->(Instr.lookup iE (.map (some m.cb)) (.agg y.1) false).run prog q=.ok (.slice A n c) q:=fun k=>by
   have:=(VH.aK k (fun h=>h)).look yO y;rw [gZ]at this;exact this
  have fin:∀ {q:World} {bb:Nat},Kept Nil DS q->HS q (some ⟨bb,0,none⟩) 1 [hid]->
   ∃(A':Option Addr) (n' c':Nat) (q2:World),(Builtin.append_ #[aF,aF] aF #[.slice A n n,.slice (some ⟨bb,0,none⟩) 1 1]).run prog q=.ok (.slice A' n' c') q2/\(∃cs:Array Value,(.agg y.1:Value)=.agg cs/\cs.size=32/\Cells q2 (aV v.heap.size) cs)/\q2.cell? ((⟨x,0,none⟩:Addr).add 4)=some (.map (some m.cb))/\
    ∃q3:World,(Instr.mapUpdate iE (.map (some m.cb)) (.agg y.1) (.slice A' n' c')).run prog q2=.ok () q3/\Q .normal (aH.e2 (some ⟨x,0,none⟩) ⟨Gh,0,none⟩ sb b8 (some ob) A7 pl.length c7 (pl.length:Int) (i64.wrap ((i:Int)+(1:Int)))) q3:=by
   intro q bb kq xl;have ZM:=ZN.tt kq;obtain⟨A',c',q2,hr,zA,I3,nH,kq2⟩:=zl (cx:=1) (BS.same ZM) xl (by omega);have k2:=kq.tt kq2;obtain⟨q3,yY,hf3,k3⟩:=(VH.aK k2 (fun h=>h)).put yO y (.slice A' (n+1) c');refine⟨A',_,c',q2,hr,nW k2,ux k2,q3,yY,?_⟩;rw [dF (n:=(i:Int)) (by omega) (by omega)];have Tp:=ZM.tt kq2;have To:Kept (· =m.cb) v q3:=(Tp.mono (S':=(· =m.cb)) (fun _ _ h=>h.elim)).tt k3;have sq2:=Tp.size;have sq3:=k3.size;have svq:=ZM.size;refine hQ q3 (kv.tt To) ⟨_,hf3,fun z=>?_⟩ dX;by_cases hz:z=y
   ·subst hz
    refine⟨l++ [hid],.inr ⟨A',n+1,c',by simp,I3,zA.aK k3 (fun a ha e=>by have:=(nH a ha).1;omega),?_,fun a ha=>.inr ?_⟩,fun c=>?_⟩
    ·rw [if_pos ((bP hy).2 (.inr rfl))];omega
    ·have:=nH a ha;omega
    ·rw [List.mem_append,List.mem_singleton,Gr,bP hy]
     constructor
     ·rintro((h3|⟨h3,h4,h5,h6⟩)|h3)
      ·exact .inl h3
      ·exact .inr ⟨h3,.inl h4,h5,h6⟩
      ·exact .inr ⟨h3,.inr rfl,fun e=>ko (.inl e),fun e=>ko (.inr e)⟩
     ·rintro(h3|⟨h3,h4,h5,h6⟩)
      ·exact .inl (.inl h3)
      ·exact .inr h3
   ·obtain⟨lz,h1,h2⟩:=hc z
    refine⟨lz,?_,fun c=>?_⟩
    ·simp only [hz,if_false]
     refine Oi (by omega) ?_ (Oj To h1);by_cases Z3:z∈pl.take i
     ·rw [if_pos Z3,if_pos ((bP hy).2 (.inl Z3))];exact Nat.le_refl _
     ·rw [if_neg Z3];omega
    ·rw [h2,bP hy]
     constructor
     ·rintro(h3|⟨h3,h4,h5,h6⟩)
      ·exact .inl h3
      ·exact .inr ⟨h3,.inl h4,h5,h6⟩
     ·rintro(h3|⟨h3,h4|h4,h5,h6⟩)
      ·exact .inl h3
      ·exact .inr ⟨h3,h4,h5,h6⟩
      ·exact absurd h4 hz
  refine⟨_,ux (Kept.refl _ _),y.1,⟨y.2.1,Cells.bV I4⟩,_,ux (Kept.refl _ _),y.1,⟨y.2.1,Cells.bV I4⟩,A,n,c,lk2 (Kept.refl _ _),hid.1,⟨hid.2.1,Cells.bV NH⟩,?_,⟨hid.2.1,?_⟩⟩
  ·refine yr Gp ⟨A,n,n,rfl,ab2 (Kept.refl _ _),nW (Kept.refl _ _),ux (Kept.refl _ _),hid.2.1,?_⟩
   intro Fi;have CE:Kept Nil DS Fi:=(Kept.refl _ _).alloc _;have Wp:HS Fi (some ⟨DS.heap.size,0,none⟩) 1 [hid]:=jE DS hid;clear_value Fi;exact⟨nW CE,ux CE,fin CE Wp⟩
  ·intro OD
   have AS:Kept Nil DS OD:=(Kept.refl _ _).alloc _;have Wo:HS OD (some ⟨DS.heap.size,0,none⟩) 1 [hid]:=jE DS hid;clear_value OD;exact⟨lk2 AS,nW AS,ux AS,nW AS,ux AS,yr Gp ⟨A,n,n,rfl,nW AS,ux AS,fin AS Wo⟩⟩
end
def oz(D:DG)(h s:HT)(l:List HT):DG:=if iH D h s l=0 then D++ [⟨h,dC l⟩]else D
def oy(D:DG)(P:List Int)(h s:HT)(l:List HT):List Int:=if iH D h s l=0 then P++ [(((pos s (ids D) 0).getD 0:Nat):Int)]else P
section
variable{w w':World}{F S:Nat->Prop}{x:Nat}{D:DG}{P:List Int}{m:XM}{K:Value->World->Prop}
theorem FK(h:XV w F x D P m)(hD:D.length<=5000)(hT:sS w)(Km:¬m.SG (Tryz.kF.g 1)){A:Option Addr}{n cx:Nat}{lp:List HT}(hl:HS w A n lp)(hn:n<=5000)(hid s:HT)
 (mH:∀v,Kept Nil w v->iH D hid s lp≠0->K (.int .i64 (iH D hid s lp)) v)
 (xf:∀u S' F',DP u S' F' x (oz D hid s lp) (oy D P hid s lp)->Kept (fun k=>m.kY x k) w u->(∀k,S' k->m.kY x k\/w.heap.size<=k)->(∀k,F' k->F k\/w.heap.size<=k)->iH D hid s lp=0->K (.int .i64 0) u):
 bG prog aH.id #[.pointer (some ⟨x,0,none⟩),.agg hid.1,.agg s.1,.slice A n cx] w K:=by
 have hlen:=hl.len;have W:=h.W;refine aH.of ?_;unfold aH.W;intro w5 w6;have k5:Kept Nil w w5:=(Kept.refl _ _).alloc _;have LI:w5.heap[w.heap.size]? =some (.cells hid.1 al (0,0)):=aM w _;have k6:Kept Nil w5 w6:=(Kept.refl _ _).alloc _;have Lo:w6.heap[w5.heap.size]? =some (.cells s.1 al (0,0)):=aM w5 _;clear_value w6;have RY:=k6.heap LI (fun h=>h);have np:=k5.tt k6;have s5:=k5.size;have l5:=bf LI;obtain⟨bl,c,mbg,M,G⟩:=h.G;have hG:∀ {v:World},Kept Nil w v->GV v m.SG F m.g D (iD D) bl c mbg M:=fun k=>G.same k;refine tV (h.same np) ⟨true,rfl,Split.no rfl ⟨_,(h.same np).c0,hid.1,⟨hid.2.1,Cells.bV RY⟩,?_⟩⟩;refine sK (hG np) hid fun jl JZ=>⟨_,rfl,?_⟩;have Lg:=np.tt JZ;by_cases gD:hid∈ids D
 ·have e:iH D hid s lp=7:=by simp [iH,dU,gD]
  have:=mH jl Lg (by rw [e];decide);rw [e]at this;exact Split.yes (decide_eq_true gD) this
 refine Split.no (decide_eq_false gD) ?_;by_cases h0:n=0
 ·have el:lp= []:=List.length_eq_zero_iff.1 (by omega)
  have e:iH D hid s lp=9:=by subst el;simp [iH,dU,gD,KD]
  have:=mH jl Lg (by rw [e];decide);rw [e]at this;exact Split.yes (by simp [h0]) this
 refine Split.no (by simp [h0]) ?_;refine iT (hl.same Lg) (by omega) fun A17 c17 xE aeg Ij=>⟨A17,_,c17,rfl,?_⟩;have Lf:=Lg.tt Ij;have fX:lp≠ []:=fun e=>h0 (by rw [<-hlen,e];rfl);by_cases BS:¬(dC lp).length=n
 ·have e:iH D hid s lp=9:=by
   have h1:(dC lp).length=0\/(dC lp).length≠lp.length:=.inr (by omega);have h2:dU D hid lp=9:=by unfold dU;rw [if_neg gD,if_pos h1]
   simp [iH,h2]
  have:=mH xE Lf (by rw [e];decide);rw [e]at this;exact Split.yes (by simp only [bne_iff_ne,ne_eq];omega) this
 replace BS:=Classical.not_not.1 BS
 refine Split.no (by rw [BS];simp) ?_;refine qx (h.same Lf) (hl.same Lf) (by omega) fun Fc BO=>⟨_,rfl,?_⟩;have Pp:=Lf.tt BO;have UO:¬((dC lp).length=0\/(dC lp).length≠lp.length):=by omega
 by_cases cY:¬∀p∈lp,p∈ids D
 ·have hex:∃p∈dC lp,p∉ids D:=Classical.byContradiction fun hc=>cY fun p hp=>Classical.byContradiction fun hq=>hc ⟨p,dW.2 hp,hq⟩
  have e:iH D hid s lp=6:=by
   have:dU D hid lp=6:=by unfold dU;rw [if_neg gD,if_neg UO,if_pos hex]
   simp [iH,this]
  have:=mH Fc Pp (by rw [e];decide);rw [e]at this;exact Split.yes (by rw [decide_eq_false cY];rfl) this
 replace cY:=Classical.not_not.1 cY
 refine Split.no (by rw [decide_eq_true cY];rfl) ?_;have ab9:¬∃p∈dC lp,p∉ids D:=fun⟨p,hp,hq⟩=>hq (cY p (dW.1 hp));have eC:dU D hid lp=0:=by unfold dU;rw [if_neg gD,if_neg UO,if_neg ab9]
 have Ty:=(JZ.tt Ij).tt BO;refine⟨s.1,⟨s.2.1,Cells.bV (Ty.heap Lo (fun h=>h))⟩,?_⟩;refine xo s (hl.same Pp) (by omega) fun mD rO=>⟨_,rfl,?_⟩;have CG:=Pp.tt rO;by_cases vS:¬s∈lp
 ·have e:iH D hid s lp=2:=by simp [iH,eC,vS]
  have:=mH mD CG (by rw [e];decide);rw [e]at this;exact Split.yes (by rw [decide_eq_false vS];rfl) this
 replace vS:=Classical.not_not.1 vS
 refine Split.no (by rw [decide_eq_true vS];rfl) ?_;have eX:iH D hid s lp=0:=by simp [iH,eC,vS]
 have K6:=Ty.tt rO;obtain⟨mj,Qc,Qb⟩:=eI.1 (cY s vS);obtain⟨j,hj⟩:=List.mem_iff_getElem?.1 Qc;have eP:oy D P hid s lp=P++ [(j:Int)]:=by
  unfold oy;rw [if_pos eX,<-Qb,W.pos_eq hj];rfl
 have eD:oz D hid s lp=D++ [⟨hid,dC lp⟩]:=by unfold oz;rw [if_pos eX]
 intro q9;have Ge:Kept Nil mD q9:=(Kept.refl _ _).alloc _;have abn:gh q9 mD.heap.size (fun _=>none):=gh.new mD;clear_value q9;have IH:=(K6.tt Ge).heap Lo (fun h=>h);obtain⟨G6,aaP,U1,Ic⟩:=abn.put HX s (.agg #[.bool true]);refine⟨s.1,⟨s.2.1,Cells.bV IH⟩,G6,aaP,?_⟩;have ob0:w5.heap.size<mD.heap.size:=by have:=bf Lo;have:=K6.size;omega
 have aaB:=Ic.heap IH (fun e=>by omega);refine⟨s.1,⟨s.2.1,Cells.bV aaB⟩,s.2.1,?_⟩;intro Rw;have Z0:Kept Nil G6 Rw:=(Kept.refl _ _).alloc _;have aag:HS Rw (some ⟨G6.heap.size,0,none⟩) 1 [s]:=jE G6 s;clear_value Rw;have ag9:=CG.size;have Ig:Kept Nil mD Rw:=(Ge.trans Ic (fun k hk e=>by omega)).tt Z0;have Pn:=CG.tt Ig;refine wu (hG Pn) W (by omega) (hT.same Pn) aag (by omega) fun A32 Xd uR MG G8=>⟨A32,_,Xd,rfl,?_⟩;have Z1:=Pn.tt G8;have abm:gh uR mD.heap.size (fun z=>if z=s then some (.agg #[.bool true])else none):=(U1.aK Z0 (fun h=>h)).aK G8 (fun h=>h);have p1:=oh D fun a=>∃z∈ [s],fI D a z
 change (eN D [s]).length<=_ at p1
 have ad9:=Ig.size;have ob1:=U1.lt;have s30:=Z0.size;have Nq:∀y,y∈eN D [s]↔fI D y s:=fun y=>by
  unfold eN;rw [km];constructor
  ·rintro⟨_,z,hz,e⟩
   rw [List.mem_singleton]at hz
   rwa [hz]at e
  ·exact fun e=>⟨(e.mem W).1,s,by simp,e⟩
 have ahF:∀k,k=mD.heap.size->¬k<w.heap.size:=fun k e=>by omega
 refine aH.cJ (I:=fun i v=>∃(q:Nat) (f:HT->Option Value),i=(q:Int)/\q<=(eN D [s]).length/\gh v mD.heap.size f/\(∀y,(y=s\/y∈(eN D [s]).take q->f y=some (.agg #[.bool true]))/\(¬(y=s\/y∈(eN D [s]).take q)->f y=none))/\Kept (· =mD.heap.size) uR v)
  (μ:=fun i _=>(((eN D [s]).length:Int)-i).toNat) (s:=0) ⟨0,_,rfl,Nat.zero_le _,abm,fun y=>⟨fun e=>by
    rcases e with e|e
    ·rw [if_pos e]
    ·simp at e,fun e=>if_neg fun e'=>e (.inl e')⟩,Kept.refl _ _⟩ ?_
 rintro i v ⟨q,f,rfl,hq,hmv,QA,kv⟩;have tq:Kept Nil w v:=Z1.trans kv (fun k hk e=>by omega);refine Split.dec (fun jZ=>?_) (fun gH=>?_)
 ·have dX:q<(eN D [s]).length:=by omega
  obtain⟨y,hy⟩:∃y,(eN D [s])[q]? =some y:=⟨_,List.getElem?_eq_getElem dX⟩;have OR:=cf.hs (Row.aK MG kv (fun k hk e=>by have:=(Row.bV MG hk).1;omega));refine OR.load (i:=(q:Int)) (by omega) (by rw [Int.toNat_natCast];exact hy) ?_;intro Mz;obtain⟨tA,kh,kH⟩:=iP (w:=v) (z:=(CK 0)) (cs:=y.1) (t:=al) (by rw [y.2.1];rfl);refine⟨⟨y.2.1,y.2.one,fun j hj=>tA j (by rw [y.2.1];exact hj)⟩,?_⟩;intro Zh
  replace kh:Zh.heap[v.heap.size]? =some (.cells y.1 al (0,0)):=kh
  replace kH:Kept Nil v Zh:=kH
  clear_value Zh;obtain⟨Hp,P3,abk,XR⟩:=(hmv.aK kH (fun h=>h)).put HX y (.agg #[.bool true]);refine⟨y.1,⟨y.2.1,Cells.bV kh⟩,Hp,P3,?_⟩;rw [dF (n:=(q:Int)) (by omega) (by omega)];refine⟨(q:Int)+1,rfl,⟨q+1,_,rfl,dX,abk,fun z=>?_,(kv.trans kH (fun _ _ h=>h.elim)).tt XR⟩,by simp only;omega⟩;rw [bP hy];constructor
  ·intro e
   by_cases hz:z=y
   ·rw [if_pos hz]
   ·rw [if_neg hz]
    exact(QA z).1 (e.imp (fun h=>h) (fun h=>h.resolve_right hz))
  ·intro e
   rw [if_neg (fun hz=>e (.inr (.inr hz)))];exact(QA z).2 (fun e'=>e (e'.imp (fun h=>h) (fun h=>.inl h)))
 ·have hqe:q=(eN D [s]).length:=by omega
  subst hqe;rw [List.take_of_length_le (Nat.le_refl _)]at QA;rw [aU,aH.Ou];unfold aH.G1;have Ib:Kept (· =mD.heap.size) mD v:=((Ig.tt G8).mono (S':=(· =mD.heap.size)) (fun _ _ h=>h.elim)).tt kv;have Yn:v.heap[w.heap.size]? =some (.cells hid.1 al (0,0)):=Ib.heap (K6.heap RY (fun h=>h)) (fun e=>by omega);have PS:v.heap[w5.heap.size]? =some (.cells s.1 al (0,0)):=Ib.heap (K6.heap Lo (fun h=>h)) (fun e=>by omega);have sv:=tq.size;have s2v:=Ib.size;refine⟨hid.1,⟨hid.2.1,Cells.bV Yn⟩,?_⟩;refine Mk (hG tq) W (by omega) (hl.same tq) (by omega) hid fun G5 S2 F2 WJ Ga QT QX=>⟨_,rfl,?_⟩;rw [qm eC]at WJ;have KQ:∀k,m.SG k->k<w.heap.size:=fun k e=>h.low k (.inl (.inl e));have s64:=Ga.size;have Qs:=Ga.heap Yn (fun e=>by have:=KQ _ e;omega);have Ud:=Ga.heap PS (fun e=>by have:=KQ _ e;omega);have abj:=hmv.aK Ga (fun e=>by have:=KQ _ e;omega);refine⟨hid.1,⟨hid.2.1,Cells.bV Qs⟩,hid.2.1,?_⟩;intro Hn;have MT:Kept Nil G5 Hn:=(Kept.refl _ _).alloc _;have aac:HS Hn (some ⟨G5.heap.size,0,none⟩) 1 [hid]:=jE G5 hid;clear_value Hn;have xi:∀p∈dC lp,p∈ids D:=fun p hp=>cY p (dW.1 hp);have W':kP (D++ [⟨hid,dC lp⟩]):=W.snoc (nd:=⟨hid,dC lp⟩) gD xi (jz lp);obtain⟨bl',c',Ta,M',Y0⟩:=WJ;have O3:∀k,m.own x k->k<w.heap.size:=fun k e=>h.low k (.inl (.inr (.inr (.inr e))));have hTv:sS G5:=(hT.same tq).aK Ga Km;refine wu (Y0.same MT) W' (by simp;omega) (hTv.same MT) aac (by omega) fun A69 c69 DT HK Tx=>⟨A69,_,c69,rfl,?_⟩;have x6:=MT.tt Tx;have ad6:=x6.size;have p2:=oh (D++ [⟨hid,dC lp⟩]) fun a=>∃z∈ [hid],fI (D++ [⟨hid,dC lp⟩]) a z
  change (eN (D++ [⟨hid,dC lp⟩]) [hid]).length<=_ at p2
  rw [List.length_append,List.length_singleton]at p2;have CW:∀y,y∈eN (D++ [⟨hid,dC lp⟩]) [hid]↔fI (D++ [⟨hid,dC lp⟩]) y hid:=fun y=>by
   unfold eN;rw [km];constructor
   ·rintro⟨_,z,hz,e⟩
    rw [List.mem_singleton]at hz
    rwa [hz]at e
   ·exact fun e=>⟨(e.mem W').1,hid,by simp,e⟩
  have lT:Kept (fun k=>m.SG k) w DT:=((tq.mono (S':=fun k=>m.SG k) (fun _ _ h=>h.elim)).tt Ga).trans x6 (fun _ _ h=>h.elim);have O2:∀k,m.own x k->¬m.SG k:=fun k e=>(h.od k e).1;have Sv:=lT.heap h.top (O2 _ (.inl rfl));have gQ:(eN (D++ [⟨hid,dC lp⟩]) [hid]).Nodup:=(jz _).nodup;obtain⟨f0,ab8,aca⟩:=h.YT;have aeu:∀k,m.own x k->¬(k=m.cb)\/k=m.cb:=fun k _=>(Classical.em _).symm;have uF:m.own x m.cb:=.inr (.inr (.inr rfl));have Te:=O3 _ uF;generalize rQ:eN (D++ [⟨hid,dC lp⟩]) [hid]=pl at HK p2 CW gQ⊢;refine aH.iB (I:=fun i u=>∃q:Nat,i=(q:Int)/\q<=pl.length/\Kept (· =m.cb) DT u/\∃f,gh u m.cb f/\∀y,∃l,pg u (fun k=>m.SO k\/(DT.heap.size<=k/\k<u.heap.size)) (D.length+if y∈pl.take q then 1 else 0) (f y) l/\∀c,c∈l↔Oq D P y c\/(c=hid/\y∈pl.take q/\y≠s/\¬fI D y s))
   (μ:=fun i _=>((pl.length:Int)-i).toNat) (s:=0) ⟨0,rfl,Nat.zero_le _,Kept.refl _ _,f0,ab8.aK lT (O2 _ uF),fun y=>?_⟩ ?_
  ·obtain⟨l,h1,h2⟩:=aca y
   refine⟨l,?_,fun c=>?_⟩
   ·rcases h1.aK lT (fun k e e'=>(h.gt k e').2 e)with h3|⟨A,n,c,g1,g2,g3,g4,g5⟩
    ·exact .inl h3
    ·exact .inr ⟨A,n,c,g1,g2,g3,by omega,fun a ha=>.inl (g5 a ha)⟩
   ·rw [h2]
    simp
  ·rintro i u ⟨q,rfl,RQ,ku,NK⟩
   refine GZ h hD lT.size Sv (x6.heap Qs (fun h=>h)) (Nat.le_refl _) ((abj.aK MT (fun h=>h)).aK Tx (fun h=>h)) (by omega) rfl
    (fun y=>⟨fun e=>(QA y).1 (e.imp (fun h=>h) (fun h=>(Nq y).2 h)),fun e=>(QA y).2 (fun e'=>e (e'.imp (fun h=>h) (fun h=>(Nq y).1 h)))⟩)
    (Row.base HK (fun b hb=>by have:=(Row.bV HK hb).1;have:=MT.size;omega)) (by omega) ku RQ (Z:=fun _ _=>True) NK gQ (hid:=hid) (s:=s) (D':=D) (ps:= []) (fun v' kv' ab1 di=>?_) (fun hqe=>?_)
   ·exact⟨(q:Int)+1,rfl,⟨q+1,rfl,di,kv',ab1⟩,by simp only;omega⟩
   ·subst hqe
    rw [aU];unfold aH.e2;rw [aH.Y7];rw [List.take_of_length_le (Nat.le_refl _)]at NK;have H7:Kept (fun k=>m.SG k\/k=m.cb) w u:=(lT.mono (S':=fun k=>m.SG k\/k=m.cb) (fun _ _ h=>.inl h)).trans ku (fun _ _ h=>.inr h);have su:=ku.size;obtain⟨Rz,S5,O1,SY,Ry,SV⟩:=h.ne;have KR:∀k,F k->k<w.heap.size:=fun k e=>h.low k (.inr e);have acU:GV DT S2 F2 m.g (D++ [⟨hid,dC lp⟩]) (iD (D++ [⟨hid,dC lp⟩])) bl' c' Ta M':=Y0.same x6;have nS2:∀k,S2 k->¬k=m.cb:=fun k h1 e=>by
     rcases QT k h1 with h2|h2
     ·exact(h.od _ uF).1 (e▸h2)
     ·omega
    have nF2:∀k,F2 k->¬k=m.cb:=fun k h1 e=>by
     rcases QX k h1 with h2|h2
     ·exact(h.od _ uF).2.2.2 (e▸h2)
     ·omega
    have zu:∀k,m.own x k->k≠m.cb->¬(m.SG k\/k=m.cb):=fun k e fX e'=>e'.elim (O2 k e) fX;refine JG (s1:=G5.heap.size) (s2:=DT.heap.size) (S2:=S2) (F2:=F2) (SO2:=fun k=>m.SO k\/(DT.heap.size<=k/\k<u.heap.size)) (mj:=mj) h hD gD xi (jz lp) hj Qb (dW.2 vS) (H7.heap h.top (zu _ (.inl rfl) O1))
     (Nat.le_refl _) (by omega) (ku.heap (x6.heap Qs (fun h=>h)) (fun e=>by omega)) (ku.heap (x6.heap Ud (fun h=>h)) (fun e=>by omega)) ⟨bl',c',Ta,M',acU.aK ku nS2 nF2⟩
     (h.T.aK H7 (fun k e e'=>e'.elim (fun e'=>(h.gt k e').1 e) (fun e'=>(h.od _ uF).2.1 (e'▸e)))) (h.at_.aK H7 (zu _ (.inr (.inl rfl)) Ry)) (Row.aK h.row H7 (fun k e=>by cases e;exact zu _ (.inr (.inr (.inl rfl))) SV))
     ?_ (by omega) (by omega) su (fun k e=>⟨(QT k e).imp (fun h=>h) (fun h=>by omega),Y0.low k (.inl e)⟩) (fun k e=>⟨(QX k e).imp (fun h=>h) (fun h=>by omega),Y0.low k (.inr e)⟩) (fun k e=>e)
     (H7.mono (S':=fun k=>m.kY x k) (fun k _ e=>e.elim (fun e=>.inl e) (fun e=>.inr (.inr (.inr (.inr (.inr (.inr e)))))))) (fun u2 S' F' hI kU hSu Oc=>?_)
    ·obtain⟨f,hf,hc⟩:=NK
     refine⟨f,hf,fun y=>?_⟩;obtain⟨l,h1,h2⟩:=hc y;refine⟨l,?_,fun c=>?_⟩
     ·rcases h1 with h3|⟨A,n,c,g1,g2,g3,g4,g5⟩
      ·exact .inl h3
      ·refine .inr ⟨A,n,c,g1,g2,g3,?_,g5⟩
       split at g4<;>omega
     ·rw [h2,Jv W h.nz (nd:=⟨hid,dC lp⟩) gD xi hj,Qb]
      constructor
      ·rintro(h3|⟨h3,h4,h5,h6⟩)
       ·exact .inl h3
       ·exact .inr ⟨h3,(CW y).1 h4,h5,h6⟩
      ·rintro(h3|⟨h3,h4,h5,h6⟩)
       ·exact .inl h3
       ·exact .inr ⟨h3,(CW y).2 h4,h5,h6⟩
    ·refine xf u2 S' F' ?_ kU hSu Oc eX
     rw [eD,eP];exact hI
end
def fH:HT:=hx 0 (by decide)
def dH(D:DG)(P:List Int)(h:HT)(l:List HT):Prop:=(h∉ids D/\l= [])\/∃(i:Nat) (nd:DN) (ks:List Nat),D[i]? =some nd/\nd.id=h/\Up P i ks/\l=ks.map (ph D)
theorem ot{D:DG}{i:Nat}{nd:DN}(h:D[i]? =some nd):ph D i=nd.id:=by unfold ph;rw [h]
theorem dH.ex{D:DG}{P:List Int}(H:sV D P)(h:HT):∃l,dH D P h l:=by
 by_cases hm:h∈ids D
 ·obtain⟨nd,gQ,e⟩:=eI.1 hm
  obtain⟨i,hi⟩:=List.mem_iff_getElem?.1 gQ;obtain⟨ks,hk⟩:=Up.ex H.par i (by rw [H.len];exact(lgeS hi).1);exact⟨_,.inr ⟨i,nd,ks,hi,e,hk,rfl⟩⟩
 ·exact⟨[],.inl ⟨hm,rfl⟩⟩
theorem dH.mem{D:DG}{P:List Int}(W:kP D)(H:sV D P){h:HT}{l:List HT}(c:dH D P h l){a:HT}:a∈l↔Ch D P a h:=by
 rcases c with⟨h1,rfl⟩|⟨i,nd,ks,h1,rfl,h3,rfl⟩
 ·simp only [List.not_mem_nil,false_iff]
  exact fun e=>h1 e.mem.2
 ·have dX:i<P.length:=by rw [H.len];exact(lgeS h1).1
  rw [List.mem_map];constructor
  ·rintro⟨k,hk,rfl⟩
   have hu:=(h3.mem H.par dX).1 hk;have C0:=hu.XG;rw [H.len]at C0;obtain⟨nk,RU⟩:∃nk,D[k]? =some nk:=⟨_,List.getElem?_eq_getElem C0⟩;exact⟨i,k,nd,nk,h1,rfl,RU,(ot RU).symm,hu⟩
  ·rintro⟨i',k,ni,nk,g1,g2,g3,g4,g5⟩
   have:=W.inj g1 h1 g2;subst this;exact⟨k,(h3.mem H.par dX).2 g5,by rw [ot g3,g4]⟩
theorem dH.one{D:DG}{P:List Int}(W:kP D)(H:sV D P){h:HT}{l l':List HT}(c:dH D P h l)(c':dH D P h l'):l=l':=by
 rcases c with⟨h1,rfl⟩|⟨i,nd,ks,h1,h2,h3,rfl⟩
 ·rcases c' with⟨_,rfl⟩|⟨i,nd,ks,g1,g2,_,_⟩
  ·rfl
  ·exact absurd (eI.2 ⟨nd,List.mem_of_getElem? g1,g2⟩) h1
 ·rcases c' with⟨g1,rfl⟩|⟨i',nd',ks',g1,g2,g3,rfl⟩
  ·exact absurd (eI.2 ⟨nd,List.mem_of_getElem? h1,h2⟩) g1
  ·have:=W.inj h1 g1 (by rw [h2,g2])
   subst this;rw [Up.one H.par h3 g3]
section
variable{w w':World}{F S:Nat->Prop}{x:Nat}{D:DG}{P:List Int}{m:XM}{K:Value->World->Prop}
theorem XV.OS(h:XV w F x D P m){i:Nat}{nd:DN}(hi:D[i]? =some nd):Cells w ((⟨m.ib,0,none⟩:Addr).add (i*32)) nd.id.1:=by
 obtain⟨a,ha,_,hc⟩:=(cf.hs h.row).at_ i nd.id (qD hi);cases ha;exact hc
theorem XV.HR(h:XV w F x D P m){i:Nat}{nd:DN}(hi:D[i]? =some nd):∃td,m.T[i]? =some td/\P[i]? =some td.parent:=by
 have dX:=(lgeS hi).1;obtain⟨td,X1⟩:=Tr.gK (T:=m.T) (i:=i) (by rw [h.OL];exact dX);exact⟨td,X1,by rw [<-h.b9];exact Tr.lS X1⟩
theorem tW(a:HT)(hK:∀w' pb qb,Kept Nil w w'->w'.heap[pb]? =some (.cells #[.pointer (some ⟨x,0,none⟩)] gP (0,0))->w'.heap[qb]? =some (.cells a.1 al (0,0))->w.heap.size<=pb->w.heap.size<=qb->K (.func (.func bt.id) #[] #[.pointer (some ⟨pb,0,none⟩),.pointer (some ⟨qb,0,none⟩)]) w'):
 bG prog gC.id #[.pointer (some ⟨x,0,none⟩),.agg a.1] w K:=by
 refine gC.of ?_;unfold gC.W;intro w3 w4;have k3:Kept Nil w w3:=(Kept.refl _ _).alloc _;have Yf:w3.heap[w.heap.size]? =some (.cells #[.pointer (some ⟨x,0,none⟩)] gP (0,0)):=aM w _;have k4:Kept Nil w3 w4:=(Kept.refl _ _).alloc _;have hq4:w4.heap[w3.heap.size]? =some (.cells a.1 al (0,0)):=aM w3 _;clear_value w4;exact hK w4 _ _ (k3.tt k4) (k4.heap Yf (fun h=>h)) hq4 (Nat.le_refl _) k3.size
theorem DY{pb qb:Nat}{a:HT}{l:List HT}(hl:dH D P a l)(hD:D.length<=5000):
 oB prog bt.id #[] #[.pointer (some ⟨pb,0,none⟩),.pointer (some ⟨qb,0,none⟩)] (l.map sJ) (fun w=>XV w F x D P m/\w.heap[pb]? =some (.cells #[.pointer (some ⟨x,0,none⟩)] gP (0,0))/\w.heap[qb]? =some (.cells a.1 al (0,0))):=by
 intro y I Q w0 hI hQ sE h0 rz;obtain⟨hX,RS,Uu⟩:=sE 0 w0 h0;have W:=hX.W;have oN:=hX.nz;refine bt.of ?_;unfold bt.W;refine⟨_,by rw [aE RS];rfl,a.1,⟨a.2.1,Cells.bV Uu⟩,a.2.1,?_⟩;intro w6;have k6:Kept Nil w0 w6:=(Kept.refl _ _).alloc _;have p7:HS w6 (some ⟨w0.heap.size,0,none⟩) 1 [a]:=jE w0 a;clear_value w6;refine qx (hX.same k6) p7 (by omega) fun w8 k8=>⟨_,rfl,?_⟩;have zx:=k6.tt k8;rcases hl with⟨mH,rfl⟩|⟨i,nd,ks,hi,hid,hup,rfl⟩
 ·exact Split.yes (by rw [decide_eq_false (by simpa using mH)];rfl) (.inl (hI 0 w0 w8 h0 zx))
 ·have hm:a∈ids D:=eI.2 ⟨nd,List.mem_of_getElem? hi,hid⟩
  refine Split.no (by rw [decide_eq_true (by simpa using hm)];rfl) ?_;intro w10;have rP:Kept Nil w8 w10:=(Kept.refl _ _).drew;clear_value w10;have CH:=zx.tt rP;have uW:=hX.same CH;have lk:=uW.at_.xX a;rw [<-hid,W.pos_eq hi]at lk;rw [hid]at lk;refine⟨some ⟨x,0,none⟩,by rw [aE (CH.heap RS (fun h=>h))];rfl,_,uW.c2,a.1,⟨a.2.1,Cells.bV (CH.heap Uu (fun h=>h))⟩,_,lk,?_⟩;have dX:i<P.length:=by rw [oN.len];exact(lgeS hi).1
  have UA:=oN.par;refine bt.cJ (I:=fun s v=>∃(k:Nat) (dn rs:List Nat),s=(k:Int)/\ks=dn++rs/\Up P k rs/\k<P.length/\I dn.length v) (μ:=fun s _=>s.toNat) (s:=((i:Nat):Int)) ⟨i,[],ks,rfl,rfl,hup,dX,hI 0 w0 w10 h0 CH⟩ ?_;rintro s v ⟨k,dn,rs,rfl,hks,hur,C0,hv⟩;obtain⟨hXv,Uv,hqv⟩:=sE _ v hv;rw [oN.len]at C0;obtain⟨nk,RU⟩:∃nk,D[k]? =some nk:=⟨_,List.getElem?_eq_getElem C0⟩;refine⟨some ⟨x,0,none⟩,by rw [aE Uv];rfl,_,_,_,hXv.c3,⟨by omega,by omega⟩,nk.id.1,⟨nk.id.2.1,by rw [Int.toNat_natCast];exact hXv.OS RU⟩,?_⟩;have gZ:((ks.map (ph D)).map sJ)[dn.length]? =some (sJ nk.id):=by
   rw [List.getElem?_map,List.getElem?_map,hks,List.getElem?_append_right (Nat.le_refl _),Nat.sub_self,hur.head];simp [ot RU]
  refine(rz dn.length (sJ nk.id) v gZ hv).mono ?_;rintro b v' ⟨ht,hf⟩;cases b with
  |false=>
   refine Split.no rfl ?_;rw [aU,bt.dz];exact .inr (hf rfl)
  |true=>
   refine Split.yes rfl ?_;have hI1:=ht rfl;cases hur with
   |root=>
    refine Split.no rfl ?_;rw [aU,bt.dz];refine .inl ?_;rw [List.length_map,List.length_map,hks,List.length_append];exact hI1
   | @step _ j rs' hj Ll=>
     have Ym:=(Tr.jA UA (Tr.fD.2 hj)).1;refine Split.yes (decide_eq_true (by omega)) ?_;obtain⟨QS,aaY,_⟩:=sE _ v' hI1;obtain⟨td,X1,htp⟩:=QS.HR RU;rw [hj]at htp;have aau:(j:Int)=td.parent:=by simpa using htp
     refine⟨some ⟨x,0,none⟩,by rw [aE aaY];rfl,_,QS.c1,Tr.zR QS.T X1 (by omega) ⟨_,_,rfl,?_⟩⟩;rw [<-aau];refine⟨(j:Int),rfl,⟨j,dn++ [k],rs',rfl,by rw [hks];simp,Ll,by rw [oN.len];omega,?_⟩,by simp only;omega⟩;rw [List.length_append];exact hI1
end
structure XN(w v:World)(r:HT)(own:Nat->Nat)(G T E I Z:Option Nat)(l:List HT):Prop where
 kp:Kept Nil w v
 gr:∀g,G=some g->∃SG,E8 v SG (fun _=>False) g [⟨r,[]⟩]/\∀k,SG k->w.heap.size<=k/\own k=1
 tr:∀t,T=some t->∃ST,Tr.pG v ST t Tr.qP 0/\∀k,ST k->w.heap.size<=k/\k<v.heap.size/\own k=2
 mp:∀b,E=some b->w.heap.size<=b/\own b=3/\IsMap v b l
 il:∀b,I=some b->w.heap.size<=b/\own b=4/\v.heap[b]? =some (.cells (r.1.toList++ []).toArray al (0,0))
 cv:∀b,Z=some b->w.heap.size<=b/\own b=5/\gh v b (fun _=>none)
def tag(n t:Nat)(own:Nat->Nat)(k:Nat):Nat:=if n<=k then t else own k
theorem rU{n t k:Nat}{own:Nat->Nat}(h:k<n):tag n t own k=own k:=by unfold tag;rw [if_neg (by omega)]
theorem rV{n t k:Nat}{own:Nat->Nat}(h:n<=k):tag n t own k=t:=by unfold tag;rw [if_pos h]
section
variable{w v v':World}{r:HT}{own:Nat->Nat}{G T E I Z:Option Nat}{l:List HT}{K:Value->World->Prop}
theorem XN.grow(h:XN w v r own G T E I Z l)(t:Nat)(k:Kept Nil v v'):XN w v' r (tag v.heap.size t own) G T E I Z l:=by
 have hs:=k.size;refine⟨h.kp.tt k,fun g e=>?_,fun g e=>?_,fun b e=>?_,fun b e=>?_,fun b e=>?_⟩
 ·obtain⟨SG,h1,h2⟩:=h.gr g e
  exact⟨SG,h1.same k,fun q hq=>⟨(h2 q hq).1,by rw [rU (by obtain⟨bl,c,mb,M,G⟩:=h1;exact G.low q (.inl hq))];exact(h2 q hq).2⟩⟩
 ·obtain⟨ST,h1,h2⟩:=h.tr g e
  exact⟨ST,h1.same k,fun q hq=>⟨(h2 q hq).1,by have:=(h2 q hq).2.1;omega,by rw [rU (h2 q hq).2.1];exact(h2 q hq).2.2⟩⟩
 ·obtain⟨h1,h2,h3⟩:=h.mp b e
  exact⟨h1,by rw [rU h3.lt];exact h2,h3.aK k (fun h=>h)⟩
 ·obtain⟨h1,h2,h3⟩:=h.il b e
  exact⟨h1,by rw [rU (bf h3)];exact h2,k.heap h3 (fun h=>h)⟩
 ·obtain⟨h1,h2,h3⟩:=h.cv b e
  exact⟨h1,by rw [rU h3.lt];exact h2,h3.aK k (fun h=>h)⟩
theorem XN.eZ(h:XN w v r own none T E I Z l){gb:Nat}(hG:E8 v' (fun k=>v.heap.size<=k/\k<v'.heap.size) (fun _=>False) gb [⟨r,[]⟩])(k:Kept Nil v v'):XN w v' r (tag v.heap.size 1 own) (some gb) T E I Z l:=by
 have g:=h.grow 1 k;refine⟨g.kp,?_,g.tr,g.mp,g.il,g.cv⟩;intro g' e;cases e;have:=h.kp.size;exact⟨_,hG,fun q hq=>⟨by omega,rV hq.1⟩⟩
theorem XN.uM(h:XN w v r own G none E I Z l){t:Nat}(hT:Tr.pG v' (fun k=>v.heap.size<=k) t Tr.qP 0)(k:Kept Nil v v'):XN w v' r (tag v.heap.size 2 own) G (some t) E I Z l:=by
 have g:=h.grow 2 k;refine⟨g.kp,g.gr,?_,g.mp,g.il,g.cv⟩;intro t' e;cases e;have:=h.kp.size;exact⟨_,tO hT,fun q hq=>⟨by omega,hq.2,rV hq.1⟩⟩
theorem XN.uN(h:XN w v r own G T none I Z []):XN w (v.alloc (.map #[] 0)) r (tag v.heap.size 3 own) G T (some v.heap.size) I Z []:=by
 have g:=h.grow 3 ((Kept.refl Nil v).alloc (.map #[] 0));refine⟨g.kp,g.gr,g.tr,?_,g.il,g.cv⟩;intro b e;cases e;exact⟨h.kp.size,rV (Nat.le_refl _),⟨#[],0,aM v _,trivial⟩⟩
theorem XN.pw(h:XN w v r own G T E none Z l):XN w (v.alloc (.cells (r.1.toList++ []).toArray al)) r (tag v.heap.size 4 own) G T E (some v.heap.size) Z l:=by
 have g:=h.grow 4 ((Kept.refl Nil v).alloc (.cells (r.1.toList++ []).toArray al));refine⟨g.kp,g.gr,g.tr,g.mp,?_,g.cv⟩;intro b e;cases e;exact⟨h.kp.size,rV (Nat.le_refl _),aM v _⟩
theorem XN.pv(h:XN w v r own G T E I none l):XN w (v.alloc (.map #[] 0)) r (tag v.heap.size 5 own) G T E I (some v.heap.size) l:=by
 have g:=h.grow 5 ((Kept.refl Nil v).alloc (.map #[] 0));refine⟨g.kp,g.gr,g.tr,g.mp,g.il,?_⟩;intro b e;cases e;exact⟨h.kp.size,rV (Nat.le_refl _),gh.new v⟩
theorem XN.put{mb:Nat}(h:XN w v r own G T (some mb) I Z []):∃v',(Instr.mapUpdate cV (.map (some mb)) (.agg r.1) (.int .i64 0)).run prog v=.ok () v'/\XN w v' r own G T (some mb) I Z [r]:=by
 obtain⟨h1,h2,h3⟩:=h.mp mb rfl;obtain⟨v',hr,hm,hk⟩:=h3.put (h:=r) (by simp);refine⟨v',hr,(h.kp.trans hk (fun k hk e=>by omega)),fun g e=>?_,fun g e=>?_,fun b e=>?_,fun b e=>?_,fun b e=>?_⟩
 ·obtain⟨SG,g1,g2⟩:=h.gr g e
  exact⟨SG,g1.aK hk (fun q hq e=>by have:=(g2 q hq).2;rw [e,h2]at this;cases this) (fun q hq=>hq.elim),g2⟩
 ·obtain⟨ST,g1,g2⟩:=h.tr g e
  exact⟨ST,g1.aK hk (fun q hq e=>by have:=(g2 q hq).2.2;rw [e,h2]at this;cases this),fun q hq=>⟨(g2 q hq).1,Nat.lt_of_lt_of_le (g2 q hq).2.1 hk.size,(g2 q hq).2.2⟩⟩
 ·cases e
  exact⟨h1,h2,hm⟩
 ·obtain⟨g1,g2,g3⟩:=h.il b e
  exact⟨g1,g2,hk.heap g3 (fun e=>by rw [e,h2]at g2;cases g2)⟩
 ·obtain⟨g1,g2,g3⟩:=h.cv b e
  exact⟨g1,g2,g3.aK hk (fun e=>by rw [e,h2]at g2;cases g2)⟩
theorem XN.fin{g t mb ib cb:Nat}{w0:World}(h:XN w v r own (some g) (some t) (some mb) (some ib) (some cb) [r])(hw:w0.heap.size<=w.heap.size):
 DP (v.alloc (.cells #[.pointer (some ⟨g,0,none⟩),.pointer (some ⟨t,0,none⟩),.map (some mb),.slice (some ⟨ib,0,none⟩) 1 1,.map (some cb)] fg)) (fun k=>w0.heap.size<=k/\k<(v.alloc (.cells #[.pointer (some ⟨g,0,none⟩),.pointer (some ⟨t,0,none⟩),.map (some mb),.slice (some ⟨ib,0,none⟩) 1 1,.map (some cb)] fg)).heap.size) (fun _=>False) v.heap.size [⟨r,[]⟩] [-1]:=by
 have jK:=aM v (.cells #[.pointer (some ⟨g,0,none⟩),.pointer (some ⟨t,0,none⟩),.map (some mb),.slice (some ⟨ib,0,none⟩) 1 1,.map (some cb)] fg);have kx:=(Kept.refl Nil v).alloc (.cells #[.pointer (some ⟨g,0,none⟩),.pointer (some ⟨t,0,none⟩),.map (some mb),.slice (some ⟨ib,0,none⟩) 1 1,.map (some cb)] fg);have hx:=bf jK;generalize v.alloc (.cells #[.pointer (some ⟨g,0,none⟩),.pointer (some ⟨t,0,none⟩),.map (some mb),.slice (some ⟨ib,0,none⟩) 1 1,.map (some cb)] fg)=u at jK kx hx;obtain⟨SG,hG,gG⟩:=h.gr g rfl;obtain⟨ST,hT,gT⟩:=h.tr t rfl;obtain⟨m1,m2,m3⟩:=h.mp mb rfl;obtain⟨i1,i2,i3⟩:=h.il ib rfl;obtain⟨c1,c2,c3⟩:=h.cv cb rfl;have oO:∀k,SG k->k<v.heap.size:=fun k e=>by obtain⟨bl,c,mb,M,G⟩:=hG;exact G.low k (.inl e)
 have sw:=h.kp.size;have lm:=m3.lt;have li:=bf i3;have lc:=c3.lt;have Da:∀ {a b:HT},¬fI [(⟨r,[]⟩:DN)] a b:=Af r;refine⟨⟨g,t,mb,ib,1,cb,Tr.qP,0,SG,ST,fun _=>False⟩,⟨jK,hG.same kx,hT.same kx,Tr.Cn,rfl,⟨Int.le_refl 0,by show(0:Int)<=_;simp⟩,m3.aK kx (fun h=>h),?_,⟨_,c3.aK kx (fun h=>h),fun y=>⟨[],.inl ⟨rfl,rfl⟩,fun c=>?_⟩⟩,?_,kP.root r,?_,?_,?_,?_,?_,?_⟩,?_⟩
 ·have e:dw [r]=(r.1.toList++ []).toArray.toList:=by simp [dw]
  show Row _ _ _ _ _ _ _ (dw [r])
  rw [e];exact Row.made (kx.heap i3 (fun h=>h)) (Nat.zero_le _) (by simp [r.2.1]) (by show 1<=maxLen;decide)
 ·simp only [List.not_mem_nil,false_iff]
  exact fun hc=>Da hc.1
 ·refine⟨rfl,rfl,fun i p nd hi hp=>?_⟩
  cases i with
  |zero=>omega
  |succ i=>simp at hp
 ·exact fun k e=>⟨fun e'=>by have:=(gG k e).2;have:=(gT k e').2.2;omega,fun e'=>e'.elim⟩
 ·exact fun k e e'=>e'.elim
 ·exact fun k e=>e.elim
 ·intro k e
  have key:v.heap.size<=k\/3<=own k:=by
   rcases e with e|e|e|e
   ·exact .inl (by omega)
   ·exact .inr (by have e:k=mb:=e;rw [e];omega)
   ·exact .inr (by have e:k=ib:=e;rw [e];omega)
   ·exact .inr (by have e:k=cb:=e;rw [e];omega)
  refine⟨fun e'=>?_,fun e'=>?_,fun e'=>e'.elim,fun e'=>e'.elim⟩
  ·have h1:=(gG k e').2
   have h2:=oO k e';omega
  ·have h1:=(gT k e').2.2
   have h2:=(gT k e').2.1;omega
 ·refine⟨by show v.heap.size≠mb;omega,by show v.heap.size≠ib;omega,by show v.heap.size≠cb;omega,fun e=>?_,fun e=>?_,fun e=>?_⟩
  ·have e:mb=ib:=e
   rw [e]at m2;omega
  ·have e:mb=cb:=e
   rw [e]at m2;omega
  ·have e:ib=cb:=e
   rw [e]at i2;omega
 ·intro k e
  rcases e with e|e
  ·rcases e with e|e|e|e
   ·have:=oO k e;omega
   ·have:=(gT k e).2.1;omega
   ·exact e.elim
   ·rcases e with e|e|e|e
    ·omega
    ·have e:k=mb:=e;omega
    ·have e:k=ib:=e;omega
    ·have e:k=cb:=e;omega
  ·exact e.elim
 ·intro k e
  rcases e with e|e|e|e
  ·have:=oO k e;have:=(gG k e).1;omega
  ·have:=(gT k e).1;have:=(gT k e).2.1;omega
  ·exact e.elim
  ·rcases e with e|e|e|e
   ·omega
   ·have e:k=mb:=e;omega
   ·have e:k=ib:=e;omega
   ·have e:k=cb:=e;omega
structure XD(w o:World)(r:HT)(K:Value->World->Prop):Prop where
 cs:∀ {v:World},Kept Nil o v->∃cs:Array Value,(.agg r.1:Value)=.agg cs/\cs.size=32/\Cells v (aV w.heap.size) cs
 fin:∀ {v:World} {own:Nat->Nat} {g t mb ib cb:Nat},XN o v r own (some g) (some t) (some mb) (some ib) (some cb) [r]->K (.pointer (some ⟨v.heap.size,0,none⟩)) (v.alloc (.cells #[.pointer (some ⟨g,0,none⟩),.pointer (some ⟨t,0,none⟩),.map (some mb),.slice (some ⟨ib,0,none⟩) 1 1,.map (some cb)] fg))
end
section
variable{w o v e i z:World}{r:HT}{own:Nat->Nat}{g t:Nat}{K:Value->World->Prop}
theorem n1(D:XD w o r K)(h:XN o v r own (some g) (some t) (some e.heap.size) (some i.heap.size) (some z.heap.size) [r]):az.N1 (some ⟨g,0,none⟩) (some ⟨t,0,none⟩) e i z K v:=by
 unfold az.N1;exact D.fin h
theorem n2(D:XD w o r K)(h:XN o v r own (some g) (some t) (some e.heap.size) (some i.heap.size) none [r]):az.N2 (some ⟨g,0,none⟩) (some ⟨t,0,none⟩) e i K v:=by
 unfold az.N2;exact let n:=h.pv;n1 D n
theorem n3(D:XD w o r K)(h:XN o v r own (some g) (some t) (some e.heap.size) none (some z.heap.size) [r]):az.N3 r.1 (some ⟨g,0,none⟩) (some ⟨t,0,none⟩) e z K v:=by
 unfold az.N3;exact let n:=h.pw;⟨r.2.1,n1 D n⟩
theorem n4(D:XD w o r K)(h:XN o v r own (some g) (some t) (some e.heap.size) none none [r]):az.N4 r.1 (some ⟨g,0,none⟩) (some ⟨t,0,none⟩) e w K v:=by
 unfold az.N4;exact⟨(let n:=h.pw;⟨r.2.1,n2 D n⟩),(let n:=h.pv;⟨D.cs n.kp,n3 D n⟩)⟩
theorem n5(D:XD w o r K)(h:XN o v r own (some g) (some t) (some e.heap.size) (some i.heap.size) (some z.heap.size) []):az.N5 e r.1 (some ⟨g,0,none⟩) (some ⟨t,0,none⟩) i z K v:=by
 unfold az.N5;exact let ⟨u,q,n⟩:=h.put;⟨u,q,n1 D n⟩
theorem n6(D:XD w o r K)(h:XN o v r own (some g) (some t) (some e.heap.size) (some i.heap.size) none []):az.N6 e r.1 (some ⟨g,0,none⟩) (some ⟨t,0,none⟩) i w K v:=by
 unfold az.N6;exact⟨(let ⟨u,q,n⟩:=h.put;⟨u,q,n2 D n⟩),(let n:=h.pv;⟨D.cs n.kp,n5 D n⟩)⟩
theorem n7(D:XD w o r K)(h:XN o v r own (some g) (some t) (some e.heap.size) none (some z.heap.size) []):az.N7 e r.1 r.1 w (some ⟨g,0,none⟩) (some ⟨t,0,none⟩) z K v:=by
 unfold az.N7;exact⟨(let ⟨u,q,n⟩:=h.put;⟨u,q,D.cs n.kp,n3 D n⟩),(let n:=h.pw;⟨r.2.1,D.cs n.kp,n5 D n⟩)⟩
theorem n8(D:XD w o r K)(h:XN o v r own (some g) (some t) (some e.heap.size) none none []):az.N8 e r.1 r.1 w (some ⟨g,0,none⟩) (some ⟨t,0,none⟩) K v:=by
 unfold az.N8;exact⟨(let ⟨u,q,n⟩:=h.put;⟨u,q,D.cs n.kp,n4 D n⟩),(let n:=h.pw;⟨r.2.1,D.cs n.kp,n6 D n⟩),(let n:=h.pv;⟨D.cs n.kp,D.cs n.kp,n7 D n⟩)⟩
theorem n9(D:XD w o r K)(h:XN o v r own (some g) (some t) none (some i.heap.size) (some z.heap.size) []):az.N9 r.1 w (some ⟨g,0,none⟩) (some ⟨t,0,none⟩) i z K v:=by
 unfold az.N9;exact let n:=h.uN;⟨D.cs n.kp,n5 D n⟩
theorem n10(D:XD w o r K)(h:XN o v r own (some g) (some t) none (some i.heap.size) none []):az.Sk r.1 w (some ⟨g,0,none⟩) (some ⟨t,0,none⟩) i K v:=by
 unfold az.Sk;exact⟨(let n:=h.uN;⟨D.cs n.kp,n6 D n⟩),(let n:=h.pv;⟨D.cs n.kp,n9 D n⟩)⟩
theorem n11(D:XD w o r K)(h:XN o v r own (some g) (some t) none none (some z.heap.size) []):az.YZ r.1 w r.1 (some ⟨g,0,none⟩) (some ⟨t,0,none⟩) z K v:=by
 unfold az.YZ;exact⟨(let n:=h.uN;⟨D.cs n.kp,D.cs n.kp,n7 D n⟩),(let n:=h.pw;⟨r.2.1,D.cs n.kp,n9 D n⟩)⟩
theorem n12(D:XD w o r K)(h:XN o v r own (some g) (some t) none none none []):az.Rp r.1 w r.1 (some ⟨g,0,none⟩) (some ⟨t,0,none⟩) K v:=by
 unfold az.Rp;exact⟨(let n:=h.uN;⟨D.cs n.kp,D.cs n.kp,n8 D n⟩),(let n:=h.pw;⟨r.2.1,D.cs n.kp,n10 D n⟩),(let n:=h.pv;⟨D.cs n.kp,D.cs n.kp,n11 D n⟩)⟩
theorem n13(D:XD w o r K)(h:XN o v r own (some g) none (some e.heap.size) (some i.heap.size) (some z.heap.size) [r]):az.Mx (some ⟨g,0,none⟩) e i z K v:=by
 unfold az.Mx;exact Tr.fy fun _ _ q k=>let n:=h.uM q k;⟨_,rfl,n1 D n⟩
theorem n14(D:XD w o r K)(h:XN o v r own (some g) none (some e.heap.size) (some i.heap.size) none [r]):az.Ro (some ⟨g,0,none⟩) e i K v:=by
 unfold az.Ro;exact⟨(Tr.fy fun _ _ q k=>let n:=h.uM q k;⟨_,rfl,n2 D n⟩),(let n:=h.pv;n13 D n)⟩
theorem n15(D:XD w o r K)(h:XN o v r own (some g) none (some e.heap.size) none (some z.heap.size) [r]):az.Xs r.1 w (some ⟨g,0,none⟩) e z K v:=by
 unfold az.Xs;exact⟨(Tr.fy fun _ _ q k=>let n:=h.uM q k;⟨_,rfl,D.cs n.kp,n3 D n⟩),(let n:=h.pw;⟨r.2.1,n13 D n⟩)⟩
theorem n16(D:XD w o r K)(h:XN o v r own (some g) none (some e.heap.size) none none [r]):az.Sj r.1 w (some ⟨g,0,none⟩) e K v:=by
 unfold az.Sj;exact⟨(Tr.fy fun _ _ q k=>let n:=h.uM q k;⟨_,rfl,D.cs n.kp,n4 D n⟩),(let n:=h.pw;⟨r.2.1,n14 D n⟩),(let n:=h.pv;⟨D.cs n.kp,n15 D n⟩)⟩
theorem n17(D:XD w o r K)(h:XN o v r own (some g) none (some e.heap.size) (some i.heap.size) (some z.heap.size) []):az.Si r.1 w e (some ⟨g,0,none⟩) i z K v:=by
 unfold az.Si;exact⟨(Tr.fy fun _ _ q k=>let n:=h.uM q k;⟨_,rfl,D.cs n.kp,n5 D n⟩),(let ⟨u,q,n⟩:=h.put;⟨u,q,n13 D n⟩)⟩
theorem n18(D:XD w o r K)(h:XN o v r own (some g) none (some e.heap.size) (some i.heap.size) none []):az.Xr r.1 w e (some ⟨g,0,none⟩) i K v:=by
 unfold az.Xr;exact⟨(Tr.fy fun _ _ q k=>let n:=h.uM q k;⟨_,rfl,D.cs n.kp,n6 D n⟩),(let ⟨u,q,n⟩:=h.put;⟨u,q,n14 D n⟩),(let n:=h.pv;⟨D.cs n.kp,n17 D n⟩)⟩
theorem n19(D:XD w o r K)(h:XN o v r own (some g) none (some e.heap.size) none (some z.heap.size) []):az.Kt r.1 w r.1 e (some ⟨g,0,none⟩) z K v:=by
 unfold az.Kt;exact⟨(Tr.fy fun _ _ q k=>let n:=h.uM q k;⟨_,rfl,D.cs n.kp,D.cs n.kp,n7 D n⟩),(let ⟨u,q,n⟩:=h.put;⟨u,q,D.cs n.kp,n15 D n⟩),(let n:=h.pw;⟨r.2.1,D.cs n.kp,n17 D n⟩)⟩
theorem n20(D:XD w o r K)(h:XN o v r own (some g) none (some e.heap.size) none none []):az.Oo r.1 w r.1 e (some ⟨g,0,none⟩) K v:=by
 unfold az.Oo;exact⟨(Tr.fy fun _ _ q k=>let n:=h.uM q k;⟨_,rfl,D.cs n.kp,D.cs n.kp,n8 D n⟩),(let ⟨u,q,n⟩:=h.put;⟨u,q,D.cs n.kp,n16 D n⟩),(let n:=h.pw;⟨r.2.1,D.cs n.kp,n18 D n⟩),(let n:=h.pv;⟨D.cs n.kp,D.cs n.kp,n19 D n⟩)⟩
theorem n21(D:XD w o r K)(h:XN o v r own (some g) none none (some i.heap.size) (some z.heap.size) []):az.On r.1 w (some ⟨g,0,none⟩) i z K v:=by
 unfold az.On;exact⟨(Tr.fy fun _ _ q k=>let n:=h.uM q k;⟨_,rfl,D.cs n.kp,n9 D n⟩),(let n:=h.uN;⟨D.cs n.kp,n17 D n⟩)⟩
theorem n22(D:XD w o r K)(h:XN o v r own (some g) none none (some i.heap.size) none []):az.Sh r.1 w (some ⟨g,0,none⟩) i K v:=by
 unfold az.Sh;exact⟨(Tr.fy fun _ _ q k=>let n:=h.uM q k;⟨_,rfl,D.cs n.kp,n10 D n⟩),(let n:=h.uN;⟨D.cs n.kp,n18 D n⟩),(let n:=h.pv;⟨D.cs n.kp,n21 D n⟩)⟩
theorem n23(D:XD w o r K)(h:XN o v r own (some g) none none none (some z.heap.size) []):az.YY r.1 w r.1 (some ⟨g,0,none⟩) z K v:=by
 unfold az.YY;exact⟨(Tr.fy fun _ _ q k=>let n:=h.uM q k;⟨_,rfl,D.cs n.kp,D.cs n.kp,n11 D n⟩),(let n:=h.uN;⟨D.cs n.kp,D.cs n.kp,n19 D n⟩),(let n:=h.pw;⟨r.2.1,D.cs n.kp,n21 D n⟩)⟩
theorem n24(D:XD w o r K)(h:XN o v r own (some g) none none none none []):az.Xq r.1 w r.1 (some ⟨g,0,none⟩) K v:=by
 unfold az.Xq;exact⟨(Tr.fy fun _ _ q k=>let n:=h.uM q k;⟨_,rfl,D.cs n.kp,D.cs n.kp,n12 D n⟩),(let n:=h.uN;⟨D.cs n.kp,D.cs n.kp,n20 D n⟩),(let n:=h.pw;⟨r.2.1,D.cs n.kp,n22 D n⟩),(let n:=h.pv;⟨D.cs n.kp,D.cs n.kp,n23 D n⟩)⟩
theorem n25(D:XD w o r K)(h:XN o v r own none none (some e.heap.size) (some i.heap.size) (some z.heap.size) [r]):az.Xp r.1 e i z K v:=by
 unfold az.Xp;exact gM r fun _ _ q k=>let n:=h.eZ q k;⟨_,rfl,n13 D n⟩
theorem n26(D:XD w o r K)(h:XN o v r own none none (some e.heap.size) (some i.heap.size) none [r]):az.YX r.1 e i w K v:=by
 unfold az.YX;exact⟨(gM r fun _ _ q k=>let n:=h.eZ q k;⟨_,rfl,n14 D n⟩),(let n:=h.pv;⟨D.cs n.kp,n25 D n⟩)⟩
theorem n27(D:XD w o r K)(h:XN o v r own none none (some e.heap.size) none (some z.heap.size) [r]):az.Rn r.1 r.1 w e z K v:=by
 unfold az.Rn;exact⟨(gM r fun _ _ q k=>let n:=h.eZ q k;⟨_,rfl,D.cs n.kp,n15 D n⟩),(let n:=h.pw;⟨r.2.1,D.cs n.kp,n25 D n⟩)⟩
theorem n28(D:XD w o r K)(h:XN o v r own none none (some e.heap.size) none none [r]):az.N28 r.1 r.1 w e K v:=by
 unfold az.N28;exact⟨(gM r fun _ _ q k=>let n:=h.eZ q k;⟨_,rfl,D.cs n.kp,n16 D n⟩),(let n:=h.pw;⟨r.2.1,D.cs n.kp,n26 D n⟩),(let n:=h.pv;⟨D.cs n.kp,D.cs n.kp,n27 D n⟩)⟩
theorem n29(D:XD w o r K)(h:XN o v r own none none (some e.heap.size) (some i.heap.size) (some z.heap.size) []):az.Xo r.1 r.1 w e i z K v:=by
 unfold az.Xo;exact⟨(gM r fun _ _ q k=>let n:=h.eZ q k;⟨_,rfl,D.cs n.kp,n17 D n⟩),(let ⟨u,q,n⟩:=h.put;⟨u,q,D.cs n.kp,n25 D n⟩)⟩
theorem n30(D:XD w o r K)(h:XN o v r own none none (some e.heap.size) (some i.heap.size) none []):az.YW r.1 r.1 w e i K v:=by
 unfold az.YW;exact⟨(gM r fun _ _ q k=>let n:=h.eZ q k;⟨_,rfl,D.cs n.kp,n18 D n⟩),(let ⟨u,q,n⟩:=h.put;⟨u,q,D.cs n.kp,n26 D n⟩),(let n:=h.pv;⟨D.cs n.kp,D.cs n.kp,n29 D n⟩)⟩
theorem n31(D:XD w o r K)(h:XN o v r own none none (some e.heap.size) none (some z.heap.size) []):az.YV r.1 r.1 w r.1 e z K v:=by
 unfold az.YV;exact⟨(gM r fun _ _ q k=>let n:=h.eZ q k;⟨_,rfl,D.cs n.kp,D.cs n.kp,n19 D n⟩),(let ⟨u,q,n⟩:=h.put;⟨u,q,D.cs n.kp,D.cs n.kp,n27 D n⟩),(let n:=h.pw;⟨r.2.1,D.cs n.kp,D.cs n.kp,n29 D n⟩)⟩
theorem n32(D:XD w o r K)(h:XN o v r own none none (some e.heap.size) none none []):az.N32 r.1 r.1 w r.1 e K v:=by
 unfold az.N32;exact⟨(gM r fun _ _ q k=>let n:=h.eZ q k;⟨_,rfl,D.cs n.kp,D.cs n.kp,n20 D n⟩),(let ⟨u,q,n⟩:=h.put;⟨u,q,D.cs n.kp,D.cs n.kp,n28 D n⟩),(let n:=h.pw;⟨r.2.1,D.cs n.kp,D.cs n.kp,n30 D n⟩),(let n:=h.pv;⟨D.cs n.kp,D.cs n.kp,D.cs n.kp,n31 D n⟩)⟩
theorem n33(D:XD w o r K)(h:XN o v r own none none none (some i.heap.size) (some z.heap.size) []):az.YU r.1 r.1 w i z K v:=by
 unfold az.YU;exact⟨(gM r fun _ _ q k=>let n:=h.eZ q k;⟨_,rfl,D.cs n.kp,n21 D n⟩),(let n:=h.uN;⟨D.cs n.kp,D.cs n.kp,n29 D n⟩)⟩
theorem n34(D:XD w o r K)(h:XN o v r own none none none (some i.heap.size) none []):az.N34 r.1 r.1 w i K v:=by
 unfold az.N34;exact⟨(gM r fun _ _ q k=>let n:=h.eZ q k;⟨_,rfl,D.cs n.kp,n22 D n⟩),(let n:=h.uN;⟨D.cs n.kp,D.cs n.kp,n30 D n⟩),(let n:=h.pv;⟨D.cs n.kp,D.cs n.kp,n33 D n⟩)⟩
theorem n35(D:XD w o r K)(h:XN o v r own none none none none (some z.heap.size) []):az.N35 r.1 r.1 w r.1 z K v:=by
 unfold az.N35;exact⟨(gM r fun _ _ q k=>let n:=h.eZ q k;⟨_,rfl,D.cs n.kp,D.cs n.kp,n23 D n⟩),(let n:=h.uN;⟨D.cs n.kp,D.cs n.kp,D.cs n.kp,n31 D n⟩),(let n:=h.pw;⟨r.2.1,D.cs n.kp,D.cs n.kp,n33 D n⟩)⟩
theorem n36(D:XD w o r K)(h:XN o v r own none none none none none []):az.N36 r.1 r.1 w r.1 K v:=by
 unfold az.N36;exact⟨(gM r fun _ _ q k=>let n:=h.eZ q k;⟨_,rfl,D.cs n.kp,D.cs n.kp,n24 D n⟩),(let n:=h.uN;⟨D.cs n.kp,D.cs n.kp,D.cs n.kp,n32 D n⟩),(let n:=h.pw;⟨r.2.1,D.cs n.kp,D.cs n.kp,n34 D n⟩),(let n:=h.pv;⟨D.cs n.kp,D.cs n.kp,D.cs n.kp,n35 D n⟩)⟩
end
section
variable{K:Value->World->Prop}
theorem jr{w:World}(r:HT)(hK:∀v x,DP v (fun k=>w.heap.size<=k/\k<v.heap.size) (fun _=>False) x [⟨r,[]⟩] [-1]->Kept Nil w v->K (.pointer (some ⟨x,0,none⟩)) v):
 bG prog az.id #[.agg r.1] w K:=by
 refine az.of ?_;unfold az.W;intro w_2 Kx;have k2:Kept Nil w w_2:=(Kept.refl _ _).alloc _;have nH:w_2.heap[w.heap.size]? =some (.cells r.1 al (0,0)):=aM w _;have k3:Kept Nil w Kx:=k2.drew;have p8:Kx.heap[w.heap.size]? =some (.cells r.1 al (0,0)):=nH;clear_value Kx;have N_3:XN Kx Kx r (fun _=>0) none none none none none []:=⟨Kept.refl _ _,(fun b e=>by cases e),(fun b e=>by cases e),(fun b e=>by cases e),(fun b e=>by cases e),(fun b e=>by cases e)⟩;have nW:∀ {v:World},Kept Nil Kx v->∃cs:Array Value,(.agg r.1:Value)=.agg cs/\cs.size=32/\Cells v (aV w.heap.size) cs:=fun k=>⟨r.1,rfl,r.2.1,Cells.bV (k.heap p8 (fun h=>h))⟩;have vV:∀ {v:World} {own:Nat->Nat} {g t mb ib cb:Nat},XN Kx v r own (some g) (some t) (some mb) (some ib) (some cb) [r]->K (.pointer (some ⟨v.heap.size,0,none⟩)) (v.alloc (.cells #[.pointer (some ⟨g,0,none⟩),.pointer (some ⟨t,0,none⟩),.map (some mb),.slice (some ⟨ib,0,none⟩) 1 1,.map (some cb)] fg)):=
  fun h=>hK _ _ (h.fin k3.size) ((k3.tt h.kp).alloc _)
 have c3:r.1.size=32/\Cells Kx (aV w.heap.size) r.1:=⟨r.2.1,Cells.bV p8⟩;refine⟨r.1,c3,r.1,c3,r.1,c3,?_⟩;have D:XD w Kx r K:=⟨nW,vV⟩;exact n36 D N_3
end
end Go.Proofs.YtfleamccglihoaaGreatDoor
