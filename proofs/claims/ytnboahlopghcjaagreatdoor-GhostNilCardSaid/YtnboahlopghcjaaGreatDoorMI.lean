import Derived.Test.YtnboahlopghcjaaGreatDoorMG
import Derived.Test.YtnboahlopghcjaaGreatDoorMH
import Derived.Test.YtnboahlopghcjaaGreatDoorME
import Derived.Laws.AppendOwn
set_option linter.unusedVariables false
namespace Go.Proofs.YtnboahlopghcjaaGreatDoor
open Go.Proofs.Tryz
open Go Go.bp
open Tr (gU)
structure pQ(D:DG)(P:List Int):Prop where
 len:P.length=D.length
 root:P[0]? =some (-1)
 up: ∀(i:Nat) (p:Int) nd,0<i->P[i]? =some p->D[i]? =some nd-> ∃(j:Nat) (m:DN),p=(j:Int)/\j<i/\D[j]? =some m/\m.id∈nd.ps
def Ch(D:DG)(P:List Int)(a b:HT):Prop:= ∃(i k:Nat) (ni nk:DN),D[i]? =some ni/\ni.id=b/\D[k]? =some nk/\nk.id=a/\gU P i k
def iQ(D:DG)(P:List Int)(s c:HT):Prop:= ∃(i j:Nat) (ni m:DN),D[i]? =some ni/\ni.id=c/\P[i]? =some (j:Int)/\D[j]? =some m/\m.id=s
def GB(D:DG)(P:List Int)(h c:HT):Prop:=eB D h c/\ ∃s,iQ D P s c/\h≠s/\ ¬eB D h s
section
variable{D:DG}{P:List Int}
theorem pQ.par(H:pQ D P):Tr.lh P:=⟨H.root,fun i p hi hp=>by
 have eI:=(List.getElem?_eq_some_iff.1 hp).1;rw [H.len]at eI;obtain⟨j,m,h1,h2,_⟩:=H.up i p _ hi hp (List.getElem?_eq_getElem eI);exact⟨j,h2,h1⟩⟩
theorem iQ.par(H:pQ D P){s c:HT}(h:iQ D P s c):lh D s c:=by
 obtain⟨i,j,ni,m,h1,rfl,h3,h4,rfl⟩:=h;have hi:0<i:=by
  rcases Nat.eq_zero_or_pos i with rfl|h
  ·rw [H.root]at h3;simp only [Option.some.injEq]at h3;omega
  ·exact h
 obtain⟨j',m',e,_,h5,h6⟩:=H.up i _ ni hi h3 h1;have:j'=j:=by omega
 subst this;rw [h4]at h5;cases h5;exact⟨ni,List.mem_of_getElem? h1,rfl,h6⟩
theorem iQ.one(W:iT D){s s' c:HT}(h:iQ D P s c)(h':iQ D P s' c):s=s':=by
 obtain⟨i,j,ni,m,h1,rfl,h3,h4,rfl⟩:=h;obtain⟨i',j',ni',m',po,e,ym,Pr,rfl⟩:=h';have:=W.inj h1 po e.symm;subst this;rw [h3]at ym;simp only [Option.some.injEq]at ym;have:j=j':=by omega
 subst this;rw [h4]at Pr;cases Pr;rfl
theorem iQ.ex(H:pQ D P){i:Nat}{ni:DN}(hi:0<i)(h:D[i]? =some ni): ∃(j:Nat) (m:DN),j<i/\P[i]? =some (j:Int)/\D[j]? =some m/\iQ D P m.id ni.id:=by
 have eI:=(List.getElem?_eq_some_iff.1 h).1;obtain⟨p,hp⟩: ∃p,P[i]? =some p:=⟨_,List.getElem?_eq_getElem (by rw [H.len];exact eI)⟩;obtain⟨j,m,rfl,hj,hm,_⟩:=H.up i p ni hi hp h;exact⟨j,m,hj,hp,hm,i,j,ni,m,h,rfl,hp,hm,rfl⟩
theorem Ch.refl(H:pQ D P){a:HT}(h:a∈ids D):Ch D P a a:=by
 obtain⟨nd,fG,e⟩:=cR.1 h;obtain⟨i,hi⟩:=List.mem_iff_getElem?.1 fG;exact⟨i,i,nd,nd,hi,e,hi,e,.refl (by rw [H.len];exact(List.getElem?_eq_some_iff.1 hi).1)⟩
theorem Ch.mem{a b:HT}(h:Ch D P a b):a∈ids D/\b∈ids D:=by
 obtain⟨i,k,ni,nk,h1,h2,h3,h4,_⟩:=h;exact⟨cR.2 ⟨nk,List.mem_of_getElem? h3,h4⟩,cR.2 ⟨ni,List.mem_of_getElem? h1,h2⟩⟩
theorem Ch.step(W:iT D){a s c:HT}(hs:iQ D P s c)(h:Ch D P a s):Ch D P a c:=by
 obtain⟨i,j,ni,m,h1,rfl,h3,h4,rfl⟩:=hs;obtain⟨j',k,nj,nk,g1,g2,g3,g4,g5⟩:=h;have:=W.inj g1 h4 g2;subst this;exact⟨i,k,ni,nk,h1,rfl,g3,g4,.step h3 g5⟩
theorem Ch.I7(W:iT D)(H:pQ D P){a b:HT}(h:Ch D P a b):a=b\/eB D a b:=by
 obtain⟨i,k,ni,nk,h1,rfl,h3,rfl,h5⟩:=h
 induction h5 generalizing ni with
 |refl _=>rw [h1]at h3;cases h3;exact .inl rfl
 | @step i j k hj hu ih=>
   have rH:=hu.lt;rw [H.len]at rH;obtain⟨m,hm⟩: ∃m,D[j]? =some m:=⟨_,List.getElem?_eq_getElem rH⟩;have hp:lh D m.id ni.id:=iQ.par H ⟨i,j,ni,m,h1,rfl,hj,hm,rfl⟩;rcases ih m hm h3 with e|e
   ·rw [e];exact .inr (.one hp)
   ·exact .inr (.more e hp)
theorem CW(W:iT D)(H:pQ D P){a b:HT}(fc:a≠b):eB D a b↔Ch D P a b\/ ∃c,GB D P a c/\Ch D P c b:=by
 constructor
 ·intro h
  obtain⟨nb,Mn,e⟩:=cR.1 (h.mem W).2;obtain⟨i,hb⟩:=List.mem_iff_getElem?.1 Mn;clear Mn;subst e
  induction i using Nat.strongRecOn generalizing nb with
  |_ i ih=>
   have hi:0<i:=by
    rcases Nat.eq_zero_or_pos i with rfl|h0
    ·exfalso
     obtain⟨x,y,mx,my,mE,_,hy,_,e2⟩:=h.at_ W;have:=W.inj hy hb e2;omega
    ·exact h0
   obtain⟨j,m,hj,_,hm,hs⟩:=iQ.ex H hi hb;by_cases e1:a=m.id
   ·exact .inl (Ch.step W hs (by rw [e1];exact Ch.refl H (cR.2 ⟨m,List.mem_of_getElem? hm,rfl⟩)))
   ·by_cases e2:eB D a m.id
    ·rcases ih j hj m hm e1 e2 with e3|⟨c,e3,e4⟩
     ·exact .inl (Ch.step W hs e3)
     ·exact .inr ⟨c,e3,Ch.step W hs e4⟩
    ·exact .inr ⟨nb.id,⟨h,m.id,hs,e1,e2⟩,Ch.refl H (cR.2 ⟨nb,List.mem_of_getElem? hb,rfl⟩)⟩
 ·rintro(h|⟨c,⟨h1,_⟩,h2⟩)
  ·exact(h.I7 W H).resolve_left fc
  ·rcases h2.I7 W H with e|e
   ·rw [<-e];exact h1
   ·exact h1.trans e
theorem pQ.snoc(H:pQ D P){nd:DN}{j:Nat}{m:DN}(hj:D[j]? =some m)(hm:m.id∈nd.ps)(ja:0<D.length):pQ (D++ [nd]) (P++ [(j:Int)]) where
 len:=by simp [H.len]
 root:=by rw [List.getElem?_append_left (by rw [H.len];exact ja)];exact H.root
 up:=fun i p nd' hi hp fG=>by
  have rH:=(List.getElem?_eq_some_iff.1 hj).1;by_cases h:i<D.length
  ·rw [List.getElem?_append_left (by rw [H.len];exact h)]at hp
   rw [List.getElem?_append_left h]at fG;obtain⟨j',m',e,h1,h2,h3⟩:=H.up i p nd' hi hp fG;exact⟨j',m',e,h1,by rw [List.getElem?_append_left (by omega)];exact h2,h3⟩
  ·have eI:=(List.getElem?_eq_some_iff.1 fG).1
   have e:i=D.length:=by simp at eI;omega
   subst e;rw [<-H.len]at hp;simp at hp fG;subst hp fG;exact⟨j,m,rfl,rH,by rw [List.getElem?_append_left rH];exact hj,hm⟩
theorem kf(W:iT D)(H:pQ D P){nd:DN}(hn:nd.id∉ids D){j:Nat}{m:DN}(hj:D[j]? =some m){s c:HT}:
 iQ (D++ [nd]) (P++ [(j:Int)]) s c↔iQ D P s c\/(c=nd.id/\s=m.id):=by
 have rH:=(List.getElem?_eq_some_iff.1 hj).1;constructor
 ·rintro⟨i,k,ni,mk,h1,rfl,h3,h4,rfl⟩
  by_cases h:i<D.length
  ·rw [List.getElem?_append_left h]at h1
   rw [List.getElem?_append_left (by rw [H.len];exact h)]at h3;have hk:k<D.length:=by
    rcases Nat.eq_zero_or_pos i with rfl|h0
    ·rw [H.root]at h3;simp only [Option.some.injEq]at h3;omega
    ·obtain⟨k',_,e,h5,_⟩:=H.up i _ ni h0 h3 h1
     omega
   rw [List.getElem?_append_left hk]at h4;exact .inl ⟨i,k,ni,mk,h1,rfl,h3,h4,rfl⟩
  ·have eI:=(List.getElem?_eq_some_iff.1 h1).1
   have e:i=D.length:=by simp at eI;omega
   subst e;have ym:=h3;rw [<-H.len]at ym;simp at h1 ym;subst h1;have:k=j:=by omega
   subst this;rw [List.getElem?_append_left rH,hj]at h4;cases h4;exact .inr ⟨rfl,rfl⟩
 ·rintro(⟨i,k,ni,mk,h1,rfl,h3,h4,rfl⟩|⟨rfl,rfl⟩)
  ·have hi:=(List.getElem?_eq_some_iff.1 h1).1
   have hk:=(List.getElem?_eq_some_iff.1 h4).1;exact⟨i,k,ni,mk,by rw [List.getElem?_append_left hi];exact h1,rfl,by rw [List.getElem?_append_left (by rw [H.len];exact hi)];exact h3,by rw [List.getElem?_append_left hk];exact h4,rfl⟩
  ·exact⟨D.length,j,nd,m,by simp,rfl,by rw [<-H.len];simp,by rw [List.getElem?_append_left rH];exact hj,rfl⟩
theorem CN(W:iT D)(H:pQ D P){nd:DN}(hn:nd.id∉ids D)(fY: ∀p∈nd.ps,p∈ids D){j:Nat}{m:DN}(hj:D[j]? =some m){h c:HT}:
 GB (D++ [nd]) (P++ [(j:Int)]) h c↔GB D P h c\/(c=nd.id/\eB (D++ [nd]) h nd.id/\h≠m.id/\ ¬eB D h m.id):=by
 have hm:m.id∈ids D:=cR.2 ⟨m,List.mem_of_getElem? hj,rfl⟩;have key: ∀ {s c},iQ D P s c->s∈ids D/\c∈ids D:=fun hs=>(eB.one (iQ.par H hs)).mem W;constructor
 ·rintro⟨h1,s,hs,h2,h3⟩
  rcases(kf W H hn hj).1 hs with hs|⟨rfl,rfl⟩
  ·obtain⟨g1,g2⟩:=key hs
   exact .inl ⟨(fU W hn g2).1 h1,s,hs,h2,fun e=>h3 ((fU W hn g1).2 e)⟩
  ·exact .inr ⟨rfl,h1,h2,fun e=>h3 ((fU W hn hm).2 e)⟩
 ·rintro(⟨h1,s,hs,h2,h3⟩|⟨rfl,h1,h2,h3⟩)
  ·obtain⟨g1,g2⟩:=key hs
   exact⟨(fU W hn g2).2 h1,s,(kf W H hn hj).2 (.inl hs),h2,fun e=>h3 ((fU W hn g1).1 e)⟩
  ·exact⟨h1,m.id,(kf W H hn hj).2 (.inr ⟨rfl,rfl⟩),h2,fun e=>h3 ((fU W hn hm).1 e)⟩
inductive Up (P:List Int):Nat->List Nat->Prop
 |root:Up P 0 [0]
 |step {i j:Nat} {l:List Nat}:P[i]? =some (j:Int)->Up P j l->Up P i (i::l)
theorem Up.ex(hP:Tr.lh P): ∀i,i<P.length-> ∃l,Up P i l:=by
 intro i
 induction i using Nat.strongRecOn with
 |_ i ih=>
  intro hi;rcases Nat.eq_zero_or_pos i with rfl|h0
  ·exact⟨[0],.root⟩
  ·obtain⟨j,h1,h2⟩:=hP.up i _ h0 (List.getElem?_eq_getElem hi)
   obtain⟨l,hl⟩:=ih j h1 (by omega);exact⟨i::l,.step (by rw [List.getElem?_eq_getElem hi,h2]) hl⟩
theorem Up.mem(hP:Tr.lh P){i:Nat}{l:List Nat}(h:Up P i l)(hi:i<P.length){k:Nat}:k∈l↔gU P i k:=by
 induction h with
 |root=>
  rw [List.mem_singleton];constructor
  ·rintro rfl;exact .refl hi
  ·intro h;have:=h.le hP;omega
 | @step i j l hj hu ih=>
   have rH:j<P.length:=by have:=(Tr.fI hP (Tr.c8.2 hj)).1;omega
   rw [List.mem_cons,ih rH];constructor
   ·rintro(rfl|h)
    ·exact .refl hi
    ·exact .step hj h
   ·intro h
    by_cases e:k=i
    ·exact .inl e
    ·exact .inr (h.inv (fun e'=>e e'.symm) hj)
theorem Up.one(hP:Tr.lh P){i:Nat}{l l':List Nat}(h:Up P i l)(h':Up P i l'):l=l':=by
 induction h generalizing l' with
 |root=>
  cases h' with
  |root=>rfl
  |step hj _=>rw [hP.root]at hj;simp only [Option.some.injEq]at hj;omega
 | @step i j l hj hu ih=>
   cases h' with
   |root=>rw [hP.root]at hj;simp only [Option.some.injEq]at hj;omega
   | @step _ j' l' sU Eg=>
     rw [hj]at sU;simp only [Option.some.injEq]at sU;have:j=j':=by omega
     subst this;rw [ih Eg]
theorem Up.head{i:Nat}{l:List Nat}(h:Up P i l):l[0]? =some i:=by cases h<;>rfl
theorem Up.lt(hP:Tr.lh P){i:Nat}{l:List Nat}(h:Up P i l)(hi:i<P.length): ∀k∈l,k<P.length:=fun k hk=>((h.mem hP hi).1 hk).ON
end
end Go.Proofs.YtnboahlopghcjaaGreatDoor
namespace Go.Proofs.YtnboahlopghcjaaGreatDoor
open Go.Proofs.Tryz
open Go Go.bp Go.RowKit
structure sl(mt te:TypeId)(z:Value):Prop where
 lf:prog.underlying mt=some (.map ao te)
 zero: ∀w,(zeroValue te).run prog w=.ok z w
def assoc(h:HT):List (HT×Value)->Option Value
 | []=>none
 |(x,v)::l=>if h=x then some v else assoc h l
def iV(h:HT):List (HT×Value)->Nat->Option (Nat×Value)
 | [],_=>none
 |(x,v)::l,i=>if h=x then some (i,v)else iV h l (i+1)
theorem jx(h:HT): ∀(l:List (HT×Value)) (i:Nat),(iV h l i).map (·.2)=assoc h l
 | [],_=>rfl
 |(x,v)::l,i=>by
  unfold iV assoc;split
  ·rfl
  ·exact jx h l (i+1)
theorem q8{h:HT}: ∀ {l:List (HT×Value)} {i j:Nat} {v:Value},iV h l i=some (j,v)->i<=j/\l[j-i]? =some (h,v)/\ ∀(x:HT) (u:Value),assoc x (l.set (j-i) (h,u))=if x=h then some u else assoc x l
 | [],i,j,v,e=>by simp [iV]at e
 |(x,u)::l,i,j,v,e=>by
  unfold iV at e;split at e
  ·rename_i hx
   cases e;subst hx;refine⟨Nat.le_refl _,by rw [Nat.sub_self];rfl,fun x u=>?_⟩;rw [Nat.sub_self];simp only [List.set_cons_zero,assoc];by_cases hx:x=h<;>simp [hx]
  ·rename_i hx
   obtain⟨h1,h2,h3⟩:=q8 e;have e1:j-i=(j-(i+1))+1:=by omega
   refine⟨by omega,by rw [e1];exact h2,fun y u'=>?_⟩;rw [e1];simp only [List.set_cons_succ,assoc,h3];by_cases hy:y=h
   ·subst hy;simp [hx]
   ·simp [hy]
theorem rr{h:HT}{v:Value}: ∀ {l:List (HT×Value)},assoc h l=none-> ∀x,assoc x (l++ [(h,v)])=if x=h then some v else assoc x l
 | [],_,x=>by simp [assoc]
 |(y,u)::l,e,x=>by
  unfold assoc at e;split at e
  ·cases e
  ·rename_i hy
   have ih:=rr (v:=v) e x;simp only [List.cons_append,assoc,ih];by_cases hx:x=y
   ·subst hx;simp [Ne.symm hy]
   ·simp [hx]
def jH(es:List MapEntry)(l:List (HT×Value)):Prop:=match es,l with
 | [],[]=>True
 |e::es,p::l=>(e.key=.agg p.1.1/\e.val=p.2)/\jH es l
 |_,_=>False
theorem jH.snoc: ∀ {es:List MapEntry} {l:List (HT×Value)} {e:MapEntry} {p:HT×Value},jH es l->e.key=.agg p.1.1->e.val=p.2->jH (es++ [e]) (l++ [p])
 | [],[],_,_,_,h1,h2=>⟨⟨h1,h2⟩,trivial⟩
 |_::_,_::_,_,_,he,h1,h2=>⟨he.1,jH.snoc he.2 h1 h2⟩
 | [],_::_,_,_,he,_,_=>he.elim
 |_::_,[],_,_,he,_,_=>he.elim
theorem jH.get: ∀ {es:List MapEntry} {l:List (HT×Value)} {j:Nat} {p:HT×Value},jH es l->l[j]? =some p-> ∃e,es[j]? =some e/\e.key=.agg p.1.1/\e.val=p.2
 | [],[],_,_,_,h=>by simp at h
 |e::_,_::_,0,_,he,h=>by
  simp only [List.getElem?_cons_zero,Option.some.injEq]at h;subst h;exact⟨e,rfl,he.1⟩
 |_::_,_::_,j+1,_,he,h=>by
  obtain⟨e,h1,h2⟩:=jH.get he.2 (j:=j) (by simpa using h);exact⟨e,by simpa using h1,h2⟩
 | [],_::_,_,_,he,_=>he.elim
 |_::_,[],_,_,he,_=>he.elim
theorem jH.set: ∀ {es:List MapEntry} {l:List (HT×Value)} {j:Nat} {p:HT×Value} {f:MapEntry->MapEntry},jH es l->(∀e,(f e).key=.agg p.1.1/\(f e).val=p.2)->jH (es.modify j f) (l.set j p)
 | [],[],_,_,_,he,_=>by simpa using he
 |_::_,_::_,0,_,_,he,hf=>⟨hf _,he.2⟩
 |_::_,_::_,j+1,_,_,he,hf=>by
  simp only [List.modify_succ_cons,List.set_cons_succ];exact⟨he.1,jH.set he.2 hf⟩
 | [],_::_,_,_,_,he,_=>he.elim
 |_::_,[],_,_,_,he,_=>he.elim
theorem jH.len: ∀ {es:List MapEntry} {l:List (HT×Value)},jH es l->es.length=l.length
 | [],[],_=>rfl
 |_::_,_::_,he=>by simp [jH.len he.2]
 | [],_::_,he=>he.elim
 |_::_,[],he=>he.elim
section
variable{w:World}
theorem nK(h:HT)(w:World): ∀(es:List MapEntry) (l:List (HT×Value)) (i:Nat),jH es l->
 (Instr.findAsking ao (.agg h.1) es i).run prog w=.ok (iV h l i) w
 | [],[],i,_=>by simp [Instr.findAsking,iV]
 |e::es,(x,v)::l,i,he=>by
  have hq:=qi h x w;have ih:=nK h w es l (i+1) he.2;simp only [Instr.findAsking,he.1.1,Sem.run_bind,hq,Result.andThen_ok];by_cases hx:h=x
  ·simp [hx,iV,he.1.2]
  ·simp [hx,iV,ih]
 | [],_::_,_,he=>he.elim
 |_::_,[],_,he=>he.elim
theorem iX(h:HT)(w:World){es:List MapEntry}{l:List (HT×Value)}(he:jH es l):
 (Instr.findKey ao (.agg h.1) es).run prog w=.ok (iV h l 0) w:=by
 have h1:=nK h w es l 0 he;simp only [Instr.findKey,Sem.run_bind,run_underlying Dy,Result.andThen_ok];cases es with
 |nil=>
  cases l with
  |nil=>simp [Instr.findNow,iV]
  |cons x l=>exact he.elim
 |cons e es=>
  have:Instr.findNow (.array 32 gq) (.agg h.1) (e::es) 0=none:=by
   simp only [Instr.findNow,Instr.sameNow]
  rw [this];exact h1
theorem yX(h:HT):Instr.sameBits 10000 (.agg h.1) (.agg h.1)=true:=by
 show Instr.sameBits (9999+1) (.agg h.1) (.agg h.1)=true
 rw [Instr.sameBits];simp only [beq_self_eq_true,Bool.true_and,List.all_eq_true];rintro⟨x,y⟩ mE;have YD:x=y:=by
  obtain⟨i,hi⟩:=List.mem_iff_getElem?.1 mE;rw [List.getElem?_zip_eq_some]at hi;have:=hi.1.symm.trans hi.2;simpa using this
 subst YD;have hm:=(List.of_mem_zip mE).1;obtain⟨n,rfl,_⟩:=h.2.2 x hm;simp [Instr.sameBits]
structure dA(w:World)(m:Nat)(f:HT->Option Value):Prop where
 ex: ∃es clock l,w.heap[m]? =some (.map es clock)/\jH es.toList l/\(∀x,assoc x l=f x)/\(∀e∈es.toList,e.born<clock)/\(es.toList.map (·.born)).Nodup/\(l.map (·.1)).Nodup
theorem dA.aG{S:Nat->Prop}{w w':World}{m:Nat}{f:HT->Option Value}(h:dA w m f)(hk:Kept S w w')(hn: ¬S m):dA w' m f:=by
 obtain⟨es,clock,l,h1,h2⟩:=h.ex;exact⟨es,clock,l,hk.heap h1 hn,h2⟩
theorem dA.same{w w':World}{m:Nat}{f:HT->Option Value}(h:dA w m f)(hk:Kept Nil w w'):dA w' m f:=h.aG hk (fun h=>h)
theorem dA.lt{w:World}{m:Nat}{f:HT->Option Value}(h:dA w m f):m<w.heap.size:=by
 obtain⟨es,clock,l,h1,_⟩:=h.ex;exact aQ h1
theorem dA.new(w:World):dA (w.alloc (.map #[] 0)) w.heap.size (fun _=>none):=⟨#[],0,[],aN w _,trivial,fun _=>rfl,by simp,by simp,by simp⟩
theorem dA.look{mt te:TypeId}{z:Value}(T:sl mt te z){m:Nat}{f:HT->Option Value}(hm:dA w m f)(h:HT):
 (Instr.lookup mt (.map (some m)) (.agg h.1) false).run prog w=.ok ((f h).getD z) w:=by
 obtain⟨es,clock,l,h1,h2,h3,_⟩:=hm.ex;have h4:=iX h w h2;have h5:=jx h l 0;rw [h3]at h5;simp only [Instr.lookup,Sem.run_bind,run_underlying T.lf,lU h1,Result.andThen_ok,Sem.run_pure,fO,h4];cases hp:iV h l 0 with
 |none=>rw [hp]at h5;simp [<-h5,T.zero]
 |some p=>rw [hp]at h5;simp [<-h5]
theorem dA.put{mt te:TypeId}{z:Value}(T:sl mt te z){m:Nat}{f:HT->Option Value}(hm:dA w m f)(h:HT)(v:Value):
 ∃w',(Instr.mapUpdate mt (.map (some m)) (.agg h.1) v).run prog w=.ok () w'/\dA w' m (fun x=>if x=h then some v else f x)/\Kept (· =m) w w':=by
 obtain⟨es,clock,l,h1,h2,h3,hb,hd,hk⟩:=hm.ex;have h4:=iX h w h2;have kept: ∀o,Kept (· =m) w {w with heap:=w.heap.setIfInBounds m o}:=fun o=>⟨rfl,rfl,rfl,by simp,fun k _ hk=>by simp [Ne.symm hk]⟩;cases hp:iV h l 0 with
 |none=>
  rw [hp]at h4;have h5:=jx h l 0;rw [hp]at h5;refine⟨{w with heap:=w.heap.setIfInBounds m (.map (es.push {key:=.agg h.1,val:=v,born:=clock}) (clock+1))},?_,⟨es.push {key:=.agg h.1,val:=v,born:=clock},clock+1,l++ [(h,v)],?_,?_,?_,?_,?_,?_⟩,kept _⟩
  ·simp only [Instr.mapUpdate,Sem.run_bind,run_underlying T.lf,lU h1,Result.andThen_ok,fO,h4,wk _ h1]
  ·simp [aQ h1]
  ·have:=h2.snoc (e:= {key:=.agg h.1,val:=v,born:=clock}) (p:=(h,v)) rfl rfl
   simpa using this
  ·intro x
   rw [rr h5.symm,h3]
  ·intro e he
   rw [Array.toList_push,List.mem_append,List.mem_singleton]at he;rcases he with he|rfl
   ·have:=hb e he;omega
   ·exact Nat.lt_succ_self _
  ·rw [Array.toList_push,List.map_append,List.nodup_append]
   refine⟨hd,by simp,fun a ha b r7 e=>?_⟩;simp only [List.map_cons,List.map_nil,List.mem_singleton]at r7;obtain⟨e',ED,rfl⟩:=List.mem_map.1 ha;have:=hb e' ED;omega
  ·rw [List.map_append,List.nodup_append]
   refine⟨hk,by simp,fun a ha b r7 e=>?_⟩;simp only [List.map_cons,List.map_nil,List.mem_singleton]at r7;subst r7;subst e;have key: ∀l:List (HT×Value),a∈l.map (·.1)->assoc a l≠none:=fun l=>by
    induction l with
    |nil=>simp
    |cons p l ih=>
     obtain⟨y,u⟩:=p;intro hm;unfold assoc;split
     ·simp
     ·rename_i hy
      simp only [List.map_cons,List.mem_cons]at hm;exact ih (hm.resolve_left hy)
   exact key l ha h5.symm
 |some p=>
  obtain⟨j,u⟩:=p;rw [hp]at h4;obtain⟨_,h6,h7⟩:=q8 hp;rw [Nat.sub_zero]at h6 h7;obtain⟨e,he1,JU,_⟩:=h2.get h6;have SC:es[j]? =some e:=by simpa using he1
  refine⟨{w with heap:=w.heap.setIfInBounds m (.map (es.modify j fun e=> {e with key:=.agg h.1,val:=v}) clock)},?_,⟨es.modify j fun e=> {e with key:=.agg h.1,val:=v},clock,l.set j (h,v),?_,?_,?_,?_,?_,?_⟩,kept _⟩
  ·simp only [Instr.mapUpdate,Sem.run_bind,run_underlying T.lf,lU h1,Result.andThen_ok,fO,h4,Instr.keyThatStays,SC,Option.map_some,Option.getD_some,JU,yX,if_true,Sem.run_pure,wk _ h1]
  ·simp [aQ h1]
  ·rw [Array.toList_modify]
   exact h2.set (p:=(h,v)) fun e=>⟨rfl,rfl⟩
  ·intro x
   rw [h7,h3]
  ·intro x hx
   rw [Array.toList_modify]at hx;obtain⟨i,hi⟩:=List.mem_iff_getElem?.1 hx;rw [List.getElem?_modify]at hi;cases hg:es.toList[i]? with
   |none=>rw [hg]at hi;simp at hi
   |some y=>
    rw [hg]at hi;have:=hb y (List.mem_of_getElem? hg);by_cases oe:j=i
    ·simp [oe]at hi
     rw [<-hi];exact this
    ·simp [oe]at hi
     rw [<-hi];exact this
  ·have:(es.modify j fun e=> {e with key:=.agg h.1,val:=v}).toList.map (·.born)=es.toList.map (·.born):=by
    rw [Array.toList_modify];apply List.ext_getElem?;intro i;rw [List.getElem?_map,List.getElem?_map,List.getElem?_modify];cases es.toList[i]? with
    |none=>simp
    |some y=>by_cases oe:j=i<;>simp [oe]
   rw [this];exact hd
  ·have:(l.set j (h,v)).map (·.1)=l.map (·.1):=by
    apply List.ext_getElem?;intro i;rw [List.getElem?_map,List.getElem?_map,List.getElem?_set];by_cases oe:j=i
    ·subst oe
     have ck:=(List.getElem?_eq_some_iff.1 h6).1;have iy:=(List.getElem?_eq_some_iff.1 h6).2;simp [ck,iy]
    ·simp [oe]
   rw [this];exact hk
end
end Go.Proofs.YtnboahlopghcjaaGreatDoor
namespace Go.Proofs.YtnboahlopghcjaaGreatDoor
open Go.Proofs.Tryz
open Go Go.bp Go.RowKit
open Tr (gU)
theorem pR{te:TypeId}{z:Value}(h:(prog.info? te).bind (·.zero)=some z)(w:World):(zeroValue te).run prog w=.ok z w:=by
 cases hi:prog.info? te with
 |none=>rw [hi]at h;cases h
 |some i=>
  rw [hi]at h;have hz:i.zero=some z:=h;simp [zeroValue,typeInfo,hi,hz]
theorem tt:sl eA aR (.slice none 0 0):=⟨by kernel_rfl,pR (by kernel_rfl)⟩
theorem Bj:sl iO oZ (.agg #[.bool false]):=⟨by kernel_rfl,pR (by kernel_rfl)⟩
structure XM where
 g:Nat
 t:Nat
 mb:Nat
 ib:Nat
 ic:Nat
 cb:Nat
 T:List Tr.Nd
 d:Int
 SG:Nat->Prop
 ST:Nat->Prop
 SO:Nat->Prop
def XM.own(m:XM)(x k:Nat):Prop:=k=x\/k=m.mb\/k=m.ib\/k=m.cb
def XM.hU(m:XM)(x k:Nat):Prop:=m.SG k\/m.ST k\/m.SO k\/m.own x k
def kN(w:World)(SO:Nat->Prop)(N:Nat)(v:Option Value)(l:List HT):Prop:=
 (v=none/\l= [])\/ ∃(A:Option Addr) (n c:Nat),v=some (.slice A n c)/\n<=c/\HS w A n l/\n<=N/\ ∀a,A=some a->SO a.block
structure XV(w:World)(F:Nat->Prop)(x:Nat)(D:DG)(P:List Int)(m:XM):Prop where
 top:w.heap[x]? =some (.cells #[.pointer (some ⟨m.g,0,none⟩),.pointer (some ⟨m.t,0,none⟩),.map (some m.mb),.slice (some ⟨m.ib,0,none⟩) D.length m.ic,.map (some m.cb)] cP (0,0))
 G:xB w m.SG F m.g D
 T:Tr.lj w m.ST m.t m.T m.d
 ES:Tr.sn m.T
 bj:Tr.bj m.T=P
 dl:0<=m.d/\m.d<=D.length
 at_:IsMap w m.mb (ids D)
 row:bQ w 0 (some ⟨m.ib,0,none⟩) D.length m.ic (ids D)
 PD: ∃f,dA w m.cb f/\ ∀h,∃l,kN w m.SO D.length (f h) l/\ ∀c,c∈l↔GB D P h c
 kO:pQ D P
 W:iT D
 gt: ∀k,m.SG k-> ¬m.ST k/\ ¬m.SO k
 to: ∀k,m.ST k-> ¬m.SO k
 fd: ∀k,F k-> ¬m.ST k/\ ¬m.SO k
 od: ∀k,m.own x k-> ¬m.SG k/\ ¬m.ST k/\ ¬m.SO k/\ ¬F k
 ne:x≠m.mb/\x≠m.ib/\x≠m.cb/\m.mb≠m.ib/\m.mb≠m.cb/\m.ib≠m.cb
 low: ∀k,m.hU x k\/F k->k<w.heap.size
def xA(w:World)(S F:Nat->Prop)(x:Nat)(D:DG)(P:List Int):Prop:= ∃m,XV w F x D P m/\ ∀k,m.hU x k->S k
section
variable{w w':World}{F S:Nat->Prop}{x:Nat}{D:DG}{P:List Int}{m:XM}{K:Value->World->Prop}
theorem kN.aG{S0 SO:Nat->Prop}{N:Nat}{v:Option Value}{l:List HT}(h:kN w SO N v l)(hk:Kept S0 w w')(hn: ∀k,SO k-> ¬S0 k):kN w' SO N v l:=by
 rcases h with h|⟨A,n,c,h1,h2,h3,h4,h5⟩
 ·exact .inl h
 ·exact .inr ⟨A,n,c,h1,h2,h3.aG hk (fun a ha=>hn _ (h5 a ha)),h4,h5⟩
theorem XV.aG{S0:Nat->Prop}(h:XV w F x D P m)(hk:Kept S0 w w')(hS: ∀k,m.hU x k-> ¬S0 k)(hF: ∀k,F k-> ¬S0 k):XV w' F x D P m where
 top:=hk.heap h.top (hS _ (.inr (.inr (.inr (.inl rfl)))))
 G:=h.G.aG hk (fun k e=>hS k (.inl e)) hF
 T:=h.T.aG hk (fun k e=>hS k (.inr (.inl e)))
 ES:=h.ES
 bj:=h.bj
 dl:=h.dl
 at_:=h.at_.aG hk (hS _ (.inr (.inr (.inr (.inr (.inl rfl))))))
 row:=Row.aG h.row hk (fun k e=>by cases e;exact hS _ (.inr (.inr (.inr (.inr (.inr (.inl rfl)))))))
 PD:=by
  obtain⟨f,h1,h2⟩:=h.PD;refine⟨f,h1.aG hk (hS _ (.inr (.inr (.inr (.inr (.inr (.inr rfl))))))),fun y=>?_⟩;obtain⟨l,h3,h4⟩:=h2 y;exact⟨l,h3.aG hk (fun k e=>hS k (.inr (.inr (.inl e)))),h4⟩
 kO:=h.kO
 W:=h.W
 gt:=h.gt
 to:=h.to
 fd:=h.fd
 od:=h.od
 ne:=h.ne
 low:=fun k e=>Nat.lt_of_lt_of_le (h.low k e) hk.size
theorem XV.same(h:XV w F x D P m)(hk:Kept Nil w w'):XV w' F x D P m:=h.aG hk (fun _ _ h=>h) (fun _ _ h=>h)
theorem xA.aG{S0:Nat->Prop}(h:xA w S F x D P)(hk:Kept S0 w w')(hS: ∀k,S k-> ¬S0 k)(hF: ∀k,F k-> ¬S0 k):xA w' S F x D P:=
 let ⟨m,h1,h2⟩:=h;⟨m,h1.aG hk (fun k e=>hS k (h2 k e)) hF,h2⟩
theorem xA.same(h:xA w S F x D P)(hk:Kept Nil w w'):xA w' S F x D P:=h.aG hk (fun _ _ h=>h) (fun _ _ h=>h)
theorem XV.c0(h:XV w F x D P m):w.cell? ((⟨x,0,none⟩:Addr).add 0)=some (.pointer (some ⟨m.g,0,none⟩)):=by rw [a7,az h.top];rfl
theorem XV.c1(h:XV w F x D P m):w.cell? ((⟨x,0,none⟩:Addr).add 1)=some (.pointer (some ⟨m.t,0,none⟩)):=by rw [a7,az h.top];rfl
theorem XV.c2(h:XV w F x D P m):w.cell? ((⟨x,0,none⟩:Addr).add 2)=some (.map (some m.mb)):=by rw [a7,az h.top];rfl
theorem XV.c3(h:XV w F x D P m):w.cell? ((⟨x,0,none⟩:Addr).add 3)=some (.slice (some ⟨m.ib,0,none⟩) D.length m.ic):=by rw [a7,az h.top];rfl
theorem XV.c4(h:XV w F x D P m):w.cell? ((⟨x,0,none⟩:Addr).add 4)=some (.map (some m.cb)):=by rw [a7,az h.top];rfl
theorem XV.GY(h:XV w F x D P m):m.T.length=D.length:=by
 have:=Tr.cZ m.T;rw [h.bj,h.kO.len]at this;exact this.symm
theorem XV.lf(h:XV w F x D P m){i k:Nat}{id kd:Tr.Nd}(hi:m.T[i]? =some id)(hk:m.T[k]? =some kd):decide (kd.lo<=id.lo/\id.hi<=kd.hi)=true↔gU P i k:=by
 rw [decide_eq_true_iff,<-h.bj];exact h.ES.under hi hk
theorem yk(a b:HT):a.1.toList++(b.1.toList++ [])=bV [a,b]:=by simp [bV]
theorem o8(h:XV w F x D P m)(hK:K (.bool true) w):aY prog dd.id #[.pointer (some ⟨x,0,none⟩)] w K:=
 dd.of (Split.yes rfl ⟨_,h.c0,hK⟩)
theorem tO{xb:Nat}(h:XV w F x D P m)(hg:w.heap[xb]? =some (.cells #[.pointer (some ⟨x,0,none⟩)] dP (0,0))){A:Option Addr}{n cx:Nat}{l:List HT}(hl:HS w A n l)(hn:n<=400000)
 (hK: ∀w' (b:Bool),(b=true↔ ∃p∈l,p∉ids D)->Kept Nil w w'->K (.bool b) w'):
 aY prog cy.id #[.slice A n cx,.func (.func cm.id) #[] #[.pointer (some ⟨xb,0,none⟩)]] w K:=by
 have hlen:=hl.len;refine br.of (ak.of ?_);refine ak.bU (I:=fun s w'=> ∃i:Nat,s=(0,(i:Int))/\i<=n/\(∀p∈l.take i,p∈ids D)/\Kept Nil w w') (μ:=fun s _=>((n:Int)-s.2).toNat) (s:=(0,0)) ⟨0,rfl,Nat.zero_le _,by simp,Kept.refl _ _⟩ ?_;rintro s w' ⟨i,rfl,hi,dw,kw⟩;refine Split.dec (fun jE=>?_) (fun iy=>?_)
 ·simp only at jE
  have eI:i<n:=by omega
  obtain⟨y,hy⟩: ∃y,l[i]? =some y:=⟨_,List.getElem?_eq_getElem (by omega)⟩;refine(hl.same kw).load (i:=(i:Int)) (by omega) hy ?_;refine cm.of ?_;unfold cm.W;intro w3 w4;have k3:Kept Nil w' w3:=(Kept.refl _ _).alloc _;have nD:w3.heap[w'.heap.size]? =some (.cells y.1 ao (0,0)):=aN w' _;have k4:Kept Nil w3 w4:=(Kept.refl _ _).drew;clear_value w4;have vU:=k4.heap nD (fun h=>h);have Br:=(kw.trans k3 (fun _ _ h=>h)).trans k4 (fun _ _ h=>h);obtain⟨bl,c,mb,M,G⟩:=(h.same Br).G;refine⟨some ⟨x,0,none⟩,by rw [az (Br.heap hg (fun h=>h))];rfl,_,(h.same Br).c0,y.1,⟨y.2.1,Cells.bC vU⟩,p0 G y fun w7 k7=>⟨_,rfl,_,rfl,?_⟩⟩;have Bq:=Br.trans k7 (fun _ _ h=>h);by_cases hm:y∈ids D
  ·refine Split.no (by rw [decide_eq_true hm];rfl) ?_
   simp only;rw [e8 (n:=(i:Int)) (by omega) (by omega)];refine⟨(0,(i:Int)+1),rfl,⟨i+1,rfl,eI,fun p hp=>?_,Bq⟩,by simp only;omega⟩;rcases(bt hy).1 hp with hp|rfl
   ·exact dw p hp
   ·exact hm
  ·refine Split.yes (by rw [decide_eq_false hm];rfl) ?_
   refine⟨(i:Int),rfl,?_⟩;exact hK w7 _ ⟨fun _=>⟨y,List.mem_of_getElem? hy,hm⟩,fun _=>decide_eq_true (by omega)⟩ Bq
 ·simp only at iy
  rw [aP,ak.dD];rw [List.take_of_length_le (by omega)]at dw;exact⟨-1,rfl,hK w' _ ⟨fun h=>absurd (of_decide_eq_true h) (by omega),fun⟨p,hp,hn⟩=>absurd (dw p hp) hn⟩ kw⟩
theorem mn(h:XV w F x D P m){A:Option Addr}{n cx:Nat}{l:List HT}(hl:HS w A n l)(hn:n<=400000)(hK: ∀w',Kept Nil w w'->K (.bool (decide (∀p∈l,p∈ids D))) w'):
 aY prog dp.id #[.pointer (some ⟨x,0,none⟩),.slice A n cx] w K:=by
 refine dp.of ?_;unfold dp.W;intro w3;have k3:Kept Nil w w3:=(Kept.refl _ _).alloc _;have nD:w3.heap[w.heap.size]? =some (.cells #[.pointer (some ⟨x,0,none⟩)] dP (0,0)):=aN w _;clear_value w3;refine⟨_,by rw [az nD];rfl,o8 (h.same k3) ⟨true,rfl,Split.yes rfl ?_⟩⟩;refine tO (h.same k3) nD (hl.same k3) hn fun w9 b hb k9=>⟨b,rfl,?_⟩;have:(!b)=decide (∀p∈l,p∈ids D):=by
  rw [Bool.eq_iff_iff,decide_eq_true_iff,Bool.not_eq_true',<-Bool.not_eq_true,hb];constructor
  ·exact fun hn p hp=>Classical.byContradiction fun hc=>hn ⟨p,hp,hc⟩
  ·rintro ha ⟨p,hp,hc⟩;exact hc (ha p hp)
 rw [this];exact hK w9 (k3.trans k9 (fun _ _ h=>h))
theorem pa(h:XV w F x D P m)(a b:HT)(hK: ∀w' (r:Bool),(r=true↔Ch D P a b)->Kept Nil w w'->K (.bool r) w'):
 aY prog cJ.id #[.pointer (some ⟨x,0,none⟩),.agg a.1,.agg b.1] w K:=by
 refine cJ.of ?_;unfold cJ.W;intro w4 w5 w6;have k4:Kept Nil w w4:=(Kept.refl _ _).alloc _;have IP:w4.heap[w.heap.size]? =some (.cells a.1 ao (0,0)):=aN w _;have k5:Kept Nil w4 w5:=(Kept.refl _ _).alloc _;have tI:w5.heap[w4.heap.size]? =some (.cells b.1 ao (0,0)):=aN w4 _;have k6:Kept Nil w5 w6:=(Kept.refl _ _).drew;clear_value w6;have wX:=(k5.trans k6 (fun _ _ h=>h)).heap IP (fun h=>h);have oV:=k6.heap tI (fun h=>h);have qN:=(k4.trans k5 (fun _ _ h=>h)).trans k6 (fun _ _ h=>h);refine⟨a.1,⟨a.2.1,Cells.bC wX⟩,b.1,⟨b.2.1,Cells.bC oV⟩,a.2.1,b.2.1,?_⟩;intro w9;have k9:Kept Nil w6 w9:=(Kept.refl _ _).alloc _;have YG:HS w9 (some ⟨w6.heap.size,0,none⟩) 2 [a,b]:=HS.lay (l:= [a,b]) (t:=ao) (by rw [<-yk a b];exact aN w6 _);clear_value w9;have BM:=qN.trans k9 (fun _ _ h=>h);refine mn (h.same BM) YG (by omega) fun ur Fw=>⟨_,rfl,?_⟩;have Hw:=BM.trans Fw (fun _ _ h=>h);have Gt:=h.same Hw;by_cases dw: ∀p∈ [a,b],p∈ids D
 ·refine Split.yes (decide_eq_true dw) ?_
  obtain⟨na,H9,ea⟩:=cR.1 (dw a (by simp));obtain⟨nb,Mn,eb⟩:=cR.1 (dw b (by simp));obtain⟨k,hk⟩:=List.mem_iff_getElem?.1 H9;obtain⟨i,hi⟩:=List.mem_iff_getElem?.1 Mn;have Al:=(List.getElem?_eq_some_iff.1 hk).1;have eI:=(List.getElem?_eq_some_iff.1 hi).1;have Q9:=h.GY;obtain⟨kd,MM⟩:=Tr.dL (T:=m.T) (i:=k) (by omega);obtain⟨nd,fG⟩:=Tr.dL (T:=m.T) (i:=i) (by omega);have Lh:=k9.trans Fw (fun _ _ h=>h);have l1:=Gt.at_.sM b;have l2:=Gt.at_.sM a;rw [<-eb,h.W.pos_eq hi]at l1;rw [<-ea,h.W.pos_eq hk]at l2;rw [eb]at l1;rw [ea]at l2;refine⟨_,Gt.c1,_,Gt.c2,b.1,⟨b.2.1,Cells.bC (Lh.heap oV (fun h=>h))⟩,_,l1,_,Gt.c2,a.1,⟨a.2.1,Cells.bC (Lh.heap wX (fun h=>h))⟩,_,l2,?_⟩;refine Tr.we Gt.T fG MM fun jc pH=>⟨_,rfl,hK jc _ ?_ (Hw.trans pH (fun _ _ h=>h))⟩;rw [h.lf fG MM];constructor
  ·exact fun hu=>⟨i,k,nb,na,hi,eb,hk,ea,hu⟩
  ·rintro⟨i',k',ni,nk,h1,h2,h3,h4,h5⟩
   have e1:=h.W.inj h1 hi (by rw [h2,eb]);have e2:=h.W.inj h3 hk (by rw [h4,ea]);rw [<-e1,<-e2];exact h5
 ·refine Split.no (decide_eq_false dw) (hK ur false ⟨(fun e=>by cases e),fun e=>absurd (fun p hp=>?_) dw⟩ Hw)
  simp only [List.mem_cons,List.not_mem_nil,or_false]at hp;rcases hp with rfl|rfl
  ·exact e.mem.1
  ·exact e.mem.2
theorem rh{xb bb:Nat}{b:HT}(h:XV w F x D P m)(hg:w.heap[xb]? =some (.cells #[.pointer (some ⟨x,0,none⟩)] dP (0,0)))(hb:w.heap[bb]? =some (.cells b.1 ao (0,0))){A:Option Addr}{n cx:Nat}{l:List HT}(hl:HS w A n l)(hn:n<=400000)
 (hK: ∀w' (r:Bool),(r=true↔ ∃c∈l,Ch D P c b)->Kept Nil w w'->K (.bool r) w'):
 aY prog cy.id #[.slice A n cx,.func (.func bO.id) #[] #[.pointer (some ⟨xb,0,none⟩),.pointer (some ⟨bb,0,none⟩)]] w K:=by
 have hlen:=hl.len;refine bm.of (ah.of ?_);refine ah.bU (I:=fun s w'=> ∃i:Nat,s=(0,(i:Int))/\i<=n/\(∀p∈l.take i,¬Ch D P p b)/\Kept Nil w w') (μ:=fun s _=>((n:Int)-s.2).toNat) (s:=(0,0)) ⟨0,rfl,Nat.zero_le _,by simp,Kept.refl _ _⟩ ?_;rintro s w' ⟨i,rfl,hi,dw,kw⟩;refine Split.dec (fun jE=>?_) (fun iy=>?_)
 ·simp only at jE
  have eI:i<n:=by omega
  obtain⟨y,hy⟩: ∃y,l[i]? =some y:=⟨_,List.getElem?_eq_getElem (by omega)⟩;refine(hl.same kw).load (i:=(i:Int)) (by omega) hy ?_;refine bO.of ?_;unfold bO.W;intro w4;have k4:Kept Nil w' w4:=(Kept.refl _ _).alloc _;have vU:w4.heap[w'.heap.size]? =some (.cells y.1 ao (0,0)):=aN w' _;clear_value w4;have Br:=kw.trans k4 (fun _ _ h=>h);refine⟨some ⟨x,0,none⟩,by rw [az (Br.heap hg (fun h=>h))];rfl,y.1,⟨y.2.1,Cells.bC vU⟩,b.1,⟨b.2.1,Cells.bC (Br.heap hb (fun h=>h))⟩,pa (h.same Br) y b fun w7 r hr k7=>⟨r,rfl,r,rfl,?_⟩⟩;have Bq:=Br.trans k7 (fun _ _ h=>h);cases r with
  |false=>
   refine Split.no rfl ?_;simp only;rw [e8 (n:=(i:Int)) (by omega) (by omega)];refine⟨(0,(i:Int)+1),rfl,⟨i+1,rfl,eI,fun p hp hc=>?_,Bq⟩,by simp only;omega⟩;rcases(bt hy).1 hp with hp|rfl
   ·exact dw p hp hc
   ·cases hr.2 hc
  |true=>
   refine Split.yes rfl ⟨(i:Int),rfl,?_⟩;exact hK w7 _ ⟨fun _=>⟨y,List.mem_of_getElem? hy,hr.1 rfl⟩,fun _=>decide_eq_true (by omega)⟩ Bq
 ·simp only at iy
  rw [aP,ah.dD];rw [List.take_of_length_le (by omega)]at dw;exact⟨-1,rfl,hK w' _ ⟨fun h=>absurd (of_decide_eq_true h) (by omega),fun⟨p,hp,hn⟩=>absurd hn (dw p hp)⟩ kw⟩
theorem iY(h:XV w F x D P m)(hD:D.length<=5000)(a b:HT)(hK: ∀w' (r:Bool),(r=true↔eB D a b)->Kept Nil w w'->K (.bool r) w'):
 aY prog cC.id #[.pointer (some ⟨x,0,none⟩),.agg a.1,.agg b.1] w K:=by
 refine cC.of ?_;unfold cC.W;intro w4 w5 w6;have k4:Kept Nil w w4:=(Kept.refl _ _).alloc _;have YI:w4.heap[w.heap.size]? =some (.cells #[.pointer (some ⟨x,0,none⟩)] dP (0,0)):=aN w _;have k5:Kept Nil w4 w5:=(Kept.refl _ _).alloc _;have Tt:w5.heap[w4.heap.size]? =some (.cells a.1 ao (0,0)):=aN w4 _;have k6:Kept Nil w5 w6:=(Kept.refl _ _).alloc _;have oV:w6.heap[w5.heap.size]? =some (.cells b.1 ao (0,0)):=aN w5 _;clear_value w6;have wX:=k6.heap Tt (fun h=>h);have HL:=(k5.trans k6 (fun _ _ h=>h)).heap YI (fun h=>h);have qN:=(k4.trans k5 (fun _ _ h=>h)).trans k6 (fun _ _ h=>h);refine⟨_,by rw [az HL];rfl,a.1,⟨a.2.1,Cells.bC wX⟩,b.1,⟨b.2.1,Cells.bC oV⟩,a.2.1,b.2.1,?_⟩;intro w10;have oA:Kept Nil w6 w10:=(Kept.refl _ _).alloc _;have El:HS w10 (some ⟨w6.heap.size,0,none⟩) 2 [a,b]:=HS.lay (l:= [a,b]) (t:=ao) (by rw [<-yk a b];exact aN w6 _);clear_value w10;have wJ:=qN.trans oA (fun _ _ h=>h);refine mn (h.same wJ) El (by omega) fun mJ zr=>⟨_,rfl,?_⟩;have Hv:=wJ.trans zr (fun _ _ h=>h);have Hl:=oA.trans zr (fun _ _ h=>h);by_cases dw: ∀p∈ [a,b],p∈ids D
 ·refine Split.no (by rw [decide_eq_true dw];rfl) ?_
  have Tu:=Hl.heap wX (fun h=>h);have Tn:=Hl.heap oV (fun h=>h);refine⟨a.1,⟨a.2.1,Cells.bC Tu⟩,b.1,⟨b.2.1,Cells.bC Tn⟩,⟨a.2.ints,b.2.ints⟩,?_⟩;rw [eJ];refine Split.dec (fun he=>?_) (fun he=>?_)
  ·subst he
   exact hK mJ false ⟨(fun e=>by cases e),fun e=>absurd e (eB.irrefl h.W a)⟩ Hv
  ·intro gD
   have nC:Kept Nil mJ gD:=(Kept.refl _ _).drew;clear_value gD;have Lt:=Hv.trans nC (fun _ _ h=>h);have D7:=Hl.trans nC (fun _ _ h=>h);refine⟨_,by rw [az (D7.heap HL (fun h=>h))];rfl,a.1,⟨a.2.1,Cells.bC (D7.heap wX (fun h=>h))⟩,b.1,⟨b.2.1,Cells.bC (D7.heap oV (fun h=>h))⟩,?_⟩;refine pa (h.same Lt) a b fun um r hr BG=>⟨r,rfl,?_⟩;have Hu:=Lt.trans BG (fun _ _ h=>h);have D6:=D7.trans BG (fun _ _ h=>h);cases r with
   |true=>exact Split.yes rfl (hK um true ⟨fun _=>(CW h.W h.kO he).2 (.inl (hr.1 rfl)),fun _=>rfl⟩ Hu)
   |false=>
    refine Split.no rfl ?_;have TR:=h.same Hu;obtain⟨f,hf,Ni⟩:=TR.PD;obtain⟨l,hl,jm⟩:=Ni a;have yf:=hf.look tt a;have fin: ∀ {A:Option Addr} {n c:Nat},(f a).getD (.slice none 0 0)=.slice A n c->HS um A n l->n<=D.length->
     aY prog cy.id #[.slice A n c,.func (.func bO.id) #[] #[.pointer (some ⟨w.heap.size,0,none⟩),.pointer (some ⟨w5.heap.size,0,none⟩)]] um fun v28 PW=> ∃t:Bool,v28=.bool t/\K (.bool t) PW:=fun _ hs hn=>
     rh TR (D6.heap HL (fun h=>h)) (D6.heap oV (fun h=>h)) hs (by omega) fun rL r2 jw JC=>⟨r2,rfl,hK rL r2 (by
      rw [jw,CW h.W h.kO he];constructor
      ·rintro⟨c,h1,h2⟩;exact .inr ⟨c,(jm c).1 h1,h2⟩
      ·rintro(h1|⟨c,h1,h2⟩)
       ·cases hr.2 h1
       ·exact⟨c,(jm c).2 h1,h2⟩) (Hu.trans JC (fun _ _ h=>h))⟩
    refine⟨some ⟨x,0,none⟩,by rw [az (D6.heap HL (fun h=>h))];rfl,_,TR.c4,a.1,⟨a.2.1,Cells.bC (D6.heap wX (fun h=>h))⟩,?_⟩;rcases hl with⟨h1,rfl⟩|⟨A,n,c,h1,h2,h3,h4,h5⟩
    ·rw [h1]at yf
     exact⟨none,0,0,yf,fin (by rw [h1];rfl) (HS.nil _ _) (by omega)⟩
    ·rw [h1]at yf
     exact⟨A,n,c,yf,fin (by rw [h1];rfl) h3 h4⟩
 ·refine Split.yes (by rw [decide_eq_false dw];rfl) (hK mJ false ⟨(fun e=>by cases e),fun e=>absurd (fun p hp=>?_) dw⟩ Hv)
  simp only [List.mem_cons,List.not_mem_nil,or_false]at hp;rcases hp with rfl|rfl
  ·exact(e.mem h.W).1
  ·exact(e.mem h.W).2
end
end Go.Proofs.YtnboahlopghcjaaGreatDoor
namespace Go.Proofs.YtnboahlopghcjaaGreatDoor
open Go.Proofs.Tryz
open Go Go.bp Go.RowKit
section
variable{w w':World}{K:Value->World->Prop}
theorem tf{A:Option Addr}{n c:Nat}(zz:n<=c)(hK:K (.slice A n n) w):aY prog b6.id #[.slice A n c] w K:=by
 refine b6.of ⟨⟨by omega,by omega⟩,⟨by omega,by simp⟩,?_⟩;have e:(if(n:Int).toNat=0 then A else A.map (·.add (0*32)))=A:=by
  split
  ·rfl
  ·cases A with
   |none=>rfl
   |some a=>simp [add_zero]
 rw [e];simpa using hK
theorem mT{A:Option Addr}{n c:Nat}{l:List HT}(h:HT)(hl:HS w A n l)(hn:n<=1000000)(hK: ∀w',Kept Nil w w'->K (.bool (decide (h∈l))) w'):
 aY prog bJ.id #[.slice A n c,.agg h.1] w K:=by
 have hlen:=hl.len;refine bJ.of ?_;unfold bJ.W;intro w3;have k3:Kept Nil w w3:=(Kept.refl _ _).alloc _;have nD:w3.heap[w.heap.size]? =some (.cells h.1 ao (0,0)):=aN w _;clear_value w3;refine⟨h.1,⟨h.2.1,Cells.bC nD⟩,?_⟩;refine aC.of ?_;unfold aC.W;intro w4;have k4:Kept Nil w3 w4:=(Kept.refl _ _).alloc _;have vU:w4.heap[w3.heap.size]? =some (.cells h.1 ao (0,0)):=aN w3 _;clear_value w4;have pV:=k3.trans k4 (fun _ _ h=>h);refine aC.bU (I:=fun s w'=> ∃i:Nat,s=(0,(i:Int))/\i<=n/\Kept Nil w4 w'/\h∉l.take i) (μ:=fun s _=>((n:Int)-s.2).toNat) (s:=(0,0)) ⟨0,rfl,Nat.zero_le _,Kept.refl _ _,by simp⟩ ?_;rintro s w' ⟨i,rfl,hi,kw,rD⟩;refine Split.dec (fun ck=>?_) (fun iy=>?_)
 ·simp only at ck
  have eI:i<n:=by omega
  obtain⟨y,hy⟩: ∃y,l[i]? =some y:=⟨_,List.getElem?_eq_getElem (by omega)⟩;intro w9;have k9:Kept Nil w' w9:=(Kept.refl _ _).drew;clear_value w9;have QH:=kw.trans k9 (fun _ _ h=>h);have BM:=pV.trans QH (fun _ _ h=>h);refine⟨h.1,⟨h.2.1,Cells.bC (QH.heap vU (fun h=>h))⟩,?_⟩;refine(hl.same BM).load (i:=(i:Int)) (by omega) hy ⟨⟨h.2.ints,y.2.ints⟩,?_⟩;rw [eJ];refine Split.dec (fun he=>?_) (fun he=>?_)
  ·refine⟨(i:Int),rfl,?_⟩
   have:=hK w9 BM;rw [decide_eq_true (by rw [he];exact List.mem_of_getElem? hy)]at this;rw [show decide ((i:Int)>=(0:Int))=true from decide_eq_true (by omega)];exact this
  ·simp only
   rw [gu (x:=(i:Int)+1) (by omega) (by omega)];refine⟨(0,(i:Int)+1),rfl,⟨i+1,rfl,eI,QH,?_⟩,by simp only;omega⟩;rw [List.take_add_one,hy];simp only [Option.toList_some,List.mem_append,List.mem_singleton,not_or];exact⟨rD,he⟩
 ·simp only at iy
  rw [aP,aC.dD];refine⟨-1,rfl,?_⟩;have:=hK w' (pV.trans kw (fun _ _ h=>h));rw [List.take_of_length_le (by omega)]at rD;rw [decide_eq_false rD]at this;exact this
theorem tT{A:Option Addr}{n cx:Nat}{l:List HT}{h:HT}{b:Nat}(hl:HS w A n l)(hb:HS w (some ⟨b,0,none⟩) 1 [h])(hn:n<=100000):
 ∃A' c' w',(Builtin.append_ #[aR,aR] aR #[.slice A n n,.slice (some ⟨b,0,none⟩) 1 cx]).run prog w=.ok (.slice A' (n+1) c') w'/\
  HS w' A' (n+1) (l++ [h])/\n+1<=c'/\(∀a,A'=some a->w.heap.size<=a.block/\a.block<w'.heap.size)/\Kept Nil w w':=by
 have hlen:=hl.len;cases A with
 |none=>
  obtain⟨rfl,rfl⟩:=hl.none;obtain⟨A',c',w',hr,eV,hg,hbk⟩:=fE (cx:=cx) aR (bQ.nil w w.heap.size) hb (by omega) (Nat.le_refl _);rw [Nat.zero_add]at hr eV;rw [List.nil_append]at eV;obtain⟨b',rfl⟩:=Row.some eV (by omega);have zI:=Row.bC eV (k:=b') rfl;refine⟨some ⟨b',0,Option.none⟩,c',w',hr,bQ.hs eV,?_,fun a ha=>?_,Kept.pY (Kept.refl _ _) hg (fun k hk=>by cases hk)⟩
  ·rcases Row.own eV with⟨h1,_⟩|⟨_,_,_,_,_,h1,_⟩
   ·cases h1
   ·exact h1
  ·cases ha
   obtain⟨h1,cur,h2⟩:=zI;exact⟨h1,aQ h2⟩
 |some a=>
  obtain⟨i,z,hi,hz,hs,Dj,Db⟩:=ly.inf;have hr:=run_append_grow (P:=prog) (w:=w) aR aR ao i z ly.lf hi hz a n n (bV l) (by rw [cV,hs,hlen]) hl.cells ⟨b,0,Option.none⟩ 1 cx (bV [h]) (by rw [cV,hs];rfl) hb.cells (by omega) (by omega) (growslice_fits (by omega) (by rw [Dj];omega));refine⟨_,_,_,hr,⟨by simp [hlen],fun j y hj=>⟨_,rfl,?_,?_⟩⟩,grownCap_ge _ _ _ _,fun a' Ao=>?_,?_⟩
  ·have:=aN w.drew (.cells ((bV l).toArray++(bV [h]).toArray++Builtin.zeroCells z.cells (grownCap w (n+1) n ao-(n+1))) ao)
   exact aQ this
  ·intro q v hq
   rw [a7,a7,Nat.zero_add];have hblk:=aN w.drew (.cells ((bV l).toArray++(bV [h]).toArray++Builtin.zeroCells z.cells (grownCap w (n+1) n ao-(n+1))) ao);have e:(w.drew.heap.size)=w.heap.size:=rfl;rw [e]at hblk;rw [az hblk];have h1:=iz hj hq;rw [jn]at h1;have ck:=(List.getElem?_eq_some_iff.1 h1).1;rw [Array.getElem?_append_left (by simpa using ck)];simpa using h1
  ·cases Ao
   have:=aN w.drew (.cells ((bV l).toArray++(bV [h]).toArray++Builtin.zeroCells z.cells (grownCap w (n+1) n ao-(n+1))) ao);exact⟨Nat.le_refl _,aQ this⟩
  ·exact(Kept.refl Nil w).drew.alloc _
end
end Go.Proofs.YtnboahlopghcjaaGreatDoor
namespace Go.Proofs.YtnboahlopghcjaaGreatDoor
open Go.Proofs.Tryz
open Go Go.bp Go.RowKit
def fJ(D:DG)(h s:HT)(l:List HT):Int:=if dt D h l=0 then(if s∈l then 0 else 2)else dt D h l
theorem oy{D:DG}{h:HT}{l:List HT}(e:dt D h l=0):ma D h l=D++ [⟨h,cX l⟩]:=by unfold ma;rw [if_pos e]
section
variable{w w':World}{S ST:Nat->Prop}{t:Nat}{T:List Tr.Nd}{d:Int}
theorem o0(h:Tr.lj w ST t T d):Tr.lj w (fun k=>ST k/\k<w.heap.size) t T d:=by
 obtain⟨b,c,L,h⟩:=h;refine⟨b,c,L,{h with e9:=⟨h.e9,h.lt⟩,dR:=⟨h.dR,?_⟩,nr:=fun i p hi=>?_}⟩
 ·obtain⟨A,m,hk⟩:=h.nr i p hi
  exact⟨A,m,{hk with hU:=fun k e=>⟨hk.hU k e,let ⟨_,_,hc⟩:=Row.bC hk.row e;aQ hc⟩}⟩
 ·obtain⟨cur,hc⟩:=h.rp
  exact aQ hc
end
section
variable{w w':World}{F:Nat->Prop}{x:Nat}{D:DG}{P:List Int}{m:XM}{K:Value->World->Prop}
theorem CY{v:World}{hid s:HT}{S2 F2 SO2:Nat->Prop}{ps:List HT}{j:Nat}{mj:DN}{zt sb:Nat}{b8:Int}{zc:Option Nat}{A7:Option Addr}{n7 c7:Nat}{i7:Int}{s1 s2:Nat}
 (h:XV w F x D P m) (hD:D.length<=5000) (hn:hid∉ids D) (fY: ∀p∈ps,p∈ids D) (tC:SS ps) (hj:D[j]? =some mj) (hs:mj.id=s) (Ag:s∈ps)
 (hC:v.heap[x]? =some (.cells #[.pointer (some ⟨m.g,0,none⟩),.pointer (some ⟨m.t,0,none⟩),.map (some m.mb),.slice (some ⟨m.ib,0,none⟩) D.length m.ic,.map (some m.cb)] cP (0,0)))
 (Z0:w.heap.size<=zt) (Y4:w.heap.size<=sb) (Io:v.heap[zt]? =some (.cells hid.1 ao (0,0))) (Rf:v.heap[sb]? =some (.cells s.1 ao (0,0)))
 (hG:xB v S2 F2 m.g (D++ [⟨hid,ps⟩])) (hT:Tr.lj v m.ST m.t m.T m.d) (hat:IsMap v m.mb (ids D)) (eV:bQ v 0 (some ⟨m.ib,0,none⟩) D.length m.ic (ids D))
 (IC: ∃f,dA v m.cb f/\ ∀y,∃l,kN v SO2 (D.length+1) (f y) l/\ ∀c,c∈l↔GB (D++ [⟨hid,ps⟩]) (P++ [(j:Int)]) y c)
 (Ai:w.heap.size<=s1) (x8:s1<=s2) (Ek:s2<=v.heap.size)
 (Jw: ∀k,S2 k->(m.SG k\/w.heap.size<=k)/\k<s1) (Jx: ∀k,F2 k->(F k\/w.heap.size<=k)/\k<s1) (Fk: ∀k,SO2 k->m.SO k\/(s2<=k/\k<v.heap.size))
 (kv:Kept (fun k=>m.hU x k) w v)
 (hK: ∀u S' F',xA u S' F' x (D++ [⟨hid,ps⟩]) (P++ [(j:Int)])->Kept (fun k=>m.hU x k) w u->(∀k,S' k->m.hU x k\/w.heap.size<=k)->(∀k,F' k->F k\/w.heap.size<=k)->K (.int .i64 0) u):
 aw.Je (some ⟨x,0,none⟩) ⟨zt,0,none⟩ ⟨sb,0,none⟩ b8 zc A7 n7 c7 i7 i7 K v:=by
 have W:=h.W;have pK:=h.low;have rH:=(List.getElem?_eq_some_iff.1 hj).1;have Q9:=h.GY;have RI:m.own x x:=.inl rfl;have Md:m.own x m.mb:=.inr (.inl rfl);have Me:m.own x m.ib:=.inr (.inr (.inl rfl));have pJ:m.own x m.cb:=.inr (.inr (.inr rfl));obtain⟨Jt,KR,Hc,KQ,Js,KP⟩:=h.ne;unfold aw.Je;intro yH;have rX:Kept Nil v yH:=(Kept.refl _ _).drew;clear_value yH;have c1:yH.cell? ((⟨x,0,none⟩:Addr).add 1)=some (.pointer (some ⟨m.t,0,none⟩)):=by rw [a7,az (rX.heap hC (fun h=>h))];rfl
 have c2:yH.cell? ((⟨x,0,none⟩:Addr).add 2)=some (.map (some m.mb)):=by rw [a7,az (rX.heap hC (fun h=>h))];rfl
 have Cu:=hat.aG rX (fun h=>h);have lk:=Cu.sM s;rw [<-hs,W.pos_eq hj]at lk;rw [hs]at lk;refine⟨_,c1,_,c2,s.1,⟨s.2.1,Cells.bC (rX.heap Rf (fun h=>h))⟩,_,lk,?_⟩;have NJ:=o0 (hT.same rX);refine Tr.AJ NJ h.ES (p:=j) (by omega) (by omega) ⟨h.dl.1,by have:=h.dl.2;omega⟩ fun yG Ow T' d' NI hF' L7 hd' zq Tx=>⟨_,_,rfl,?_⟩;have XT:=rX.size;have Jv: ∀k,Ow k->m.ST k\/yH.heap.size<=k:=fun k hk=>(Tx k hk).imp (fun h=>h.1) (fun h=>h);have nST: ∀k,(m.ST k/\k<yH.heap.size)->m.ST k:=fun k h=>h.1;have GW:=zq.heap (rX.heap hC (fun h=>h)) (fun e=>(h.od x RI).2.1 e.1);intro AD;have zp:Kept Nil yG AD:=(Kept.refl _ _).drew;clear_value AD;have AN:=zp.heap GW (fun h=>h);have ye: ∀k,m.ST k->k<w.heap.size:=fun k e=>pK k (.inl (.inr (.inl e)));have lox:x<w.heap.size:=pK x (.inl (.inr (.inr (.inr RI))));have Ya:m.mb<w.heap.size:=pK _ (.inl (.inr (.inr (.inr Md))));have Yb:m.ib<w.heap.size:=pK _ (.inl (.inr (.inr (.inr Me))));have K1:m.cb<w.heap.size:=pK _ (.inl (.inr (.inr (.inr pJ))));have sv:=kv.size;have yi:AD.heap[zt]? =some (.cells hid.1 ao (0,0)):=zp.heap (zq.heap (rX.heap Io (fun h=>h)) (fun e=>by have:=ye _ e.1;omega)) (fun h=>h);have Ke:AD.cell? ((⟨x,0,none⟩:Addr).add 2)=some (.map (some m.mb)):=by rw [a7,az AN];rfl
 have IM:IsMap AD m.mb (ids D):=(Cu.aG zq (fun e=>(h.od _ Md).2.1 e.1)).aG zp (fun h=>h);obtain⟨GM,FM,IL,Lr⟩:=IM.put hn;rw [iF,<-Q9]at FM;refine⟨_,Ke,hid.1,⟨hid.2.1,Cells.bC yi⟩,GM,FM,?_⟩;intro yF;have Lq:Kept Nil GM yF:=(Kept.refl _ _).drew;clear_value yF;have tw:=Lr.trans Lq (fun _ _ h=>h.elim);have AM:=tw.heap AN (fun e=>Jt e);have c3: ∀ {u:World},Kept Nil yF u->u.cell? ((⟨x,0,none⟩:Addr).add 3)=some (.slice (some ⟨m.ib,0,none⟩) D.length m.ic):=fun k=>by rw [a7,az (k.heap AM (fun h=>h))];rfl
 have Ey:=tw.heap yi (fun e=>by omega);refine⟨_,_,_,c3 (Kept.refl _ _),hid.1,⟨hid.2.1,Cells.bC Ey⟩,hid.2.1,?_⟩;intro uq;have Eb:Kept Nil yF uq:=(Kept.refl _ _).alloc _;have NC:HS uq (some ⟨yF.heap.size,0,none⟩) 1 [hid]:=kV yF hid;clear_value uq;have x6:=tw.trans Eb (fun _ _ h=>h.elim);have G6:bQ uq 0 (some ⟨m.ib,0,none⟩) D.length m.ic (ids D):=
  Row.aG (Row.aG (Row.aG (Row.aG eV rX (fun _ _ h=>h)) zq (fun k e e'=>by cases e;exact(h.od _ Me).2.1 e'.1)) zp (fun _ _ h=>h)) x6 (fun k e e'=>by cases e;exact KQ e'.symm)
 obtain⟨A',c',yE,LW,wu,M1,NB⟩:=fE (cx:=1) aR G6 NC (by omega) (Nat.zero_le _);have Hs:Kept (· =m.ib) uq yE:=Kept.grown (Kept.refl _ _) M1 (fun k e _=>by cases e;rfl);obtain⟨vR,rfl⟩:=Row.some wu (by omega);have Ez:vR=m.ib\/uq.heap.size<=vR:=by
  rcases NB vR rfl with e|e
  ·left;simpa [aX]using e.symm
  ·exact .inr e
 have AK:=Hs.heap (Eb.heap AM (fun h=>h)) (fun e=>KR e);refine⟨c3 Eb,some ⟨vR,0,none⟩,_,c',yE,LW,Is.mk rfl ⟨?_,?_⟩⟩
 ·rw [a7]
  exact dE AK (by simp)
 intro uo;have Of:uo=yE.setCell ⟨x,3,none⟩ (.slice (some ⟨vR,0,none⟩) (D.length+1) c'):=by
  show yE.setCell ((⟨x,0,none⟩:Addr).add 3) _=_
  rw [a7]
 have Hr:Kept (· =x) yE uo:=by rw [Of];exact Kept.setCell (S:=fun k=>k=x) (Kept.refl _ yE) (p:=⟨x,3,none⟩) (fun _=>rfl) _
 have GU:uo.heap[x]? =some (.cells #[.pointer (some ⟨m.g,0,none⟩),.pointer (some ⟨m.t,0,none⟩),.map (some m.mb),.slice (some ⟨vR,0,none⟩) (D.length+1) c',.map (some m.cb)] cP (0,0)):=by
  rw [Of,cQ AK 3];rfl
 clear_value uo;have XS:=zq.size;have XR:=zp.size;have XQ:=x6.size;have XP:=Hs.size;have XO:=Hr.size;have kC:Kept (fun k=>k=m.ib\/k=x) GM uo:=(((Lq.trans Eb (fun _ _ h=>h)).mono (S':=fun k=>k=m.ib\/k=x) (fun _ _ h=>h.elim)).trans Hs (fun _ _ h=>.inl h)).trans Hr (fun _ _ h=>.inr h);have kB:Kept (fun k=>k=m.mb\/k=m.ib\/k=x) yG uo:=((zp.mono (S':=fun k=>k=m.mb\/k=m.ib\/k=x) (fun _ _ h=>h.elim)).trans Lr (fun _ _ h=>.inl h)).trans kC (fun _ _ h=>.inr h);have kA:Kept (fun k=>m.ST k\/k=m.mb\/k=m.ib\/k=x) v uo:=((rX.mono (S':=fun k=>m.ST k\/k=m.mb\/k=m.ib\/k=x) (fun _ _ h=>h.elim)).trans zq (fun _ _ h=>.inl h.1)).trans kB (fun _ _ h=>.inr h);have za: ∀k,(k=m.mb\/k=m.ib\/k=x)->m.own x k:=fun k e=>by
  rcases e with e|e|e
  ·exact .inr (.inl e)
  ·exact .inr (.inr (.inl e))
  ·exact .inl e
 have DL: ∀k,m.own x k->k<w.heap.size:=fun k e=>pK k (.inl (.inr (.inr (.inr e))));have DT: ∀k,m.SG k->k<w.heap.size:=fun k e=>pK k (.inl (.inl e));have Bp: ∀k,m.SO k->k<w.heap.size:=fun k e=>pK k (.inl (.inr (.inr (.inl e))));have nG: ∀k,S2 k-> ¬(m.ST k\/k=m.mb\/k=m.ib\/k=x):=fun k h1 h2=>by
  obtain⟨h3,_⟩:=Jw k h1;rcases h2 with h2|h2
  ·rcases h3 with h3|h3
   ·exact(h.gt k h3).1 h2
   ·have:=ye k h2;omega
  ·have h4:=za k h2
   rcases h3 with h3|h3
   ·exact(h.od k h4).1 h3
   ·have:=DL k h4;omega
 have nF: ∀k,F2 k-> ¬(m.ST k\/k=m.mb\/k=m.ib\/k=x):=fun k h1 h2=>by
  obtain⟨h3,_⟩:=Jx k h1;rcases h2 with h2|h2
  ·rcases h3 with h3|h3
   ·exact(h.fd k h3).1 h2
   ·have:=ye k h2;omega
  ·have h4:=za k h2
   rcases h3 with h3|h3
   ·exact(h.od k h4).2.2.2 h3
   ·have:=DL k h4;omega
 have Ql: ∀k,SO2 k-> ¬(m.ST k\/k=m.mb\/k=m.ib\/k=x):=fun k h1 h2=>by
  rcases Fk k h1 with h3|⟨h3,_⟩
  ·rcases h2 with h2|h2
   ·exact h.to k h2 h3
   ·exact(h.od k (za k h2)).2.2.1 h3
  ·rcases h2 with h2|h2
   ·have:=ye k h2;omega
   ·have:=DL k (za k h2);omega
 have nT: ∀k,(Ow k/\k<yG.heap.size)-> ¬(k=m.mb\/k=m.ib\/k=x):=fun k h1 h2=>by
  have h4:=za k h2;rcases Jv k h1.1 with h3|h3
  ·exact(h.od k h4).2.1 h3
  ·have:=DL k h4;omega
 refine hK uo (fun k=>(S2 k\/(Ow k/\k<yG.heap.size)\/SO2 k\/(k=x\/k=m.mb\/k=vR\/k=m.cb))) F2 ⟨{m with ib:=vR,ic:=c',T:=T',d:=d',SG:=S2,ST:=fun k=>Ow k/\k<yG.heap.size,SO:=SO2},?_,fun k e=>e⟩ ?_ ?_ ?_
 ·refine⟨?_,hG.aG kA nG nF,(o0 NI).aG kB nT,hF',?_,?_,?_,?_,?_,?_,?_,?_,?_,?_,?_,?_,?_⟩
  ·rw [List.length_append];exact GU
  ·show Tr.bj T'=_
   rw [L7,h.bj]
  ·have:=h.dl
   simp only [List.length_append,List.length_singleton];show 0<=d'/\d'<=_
   omega
  ·rw [iL]
   exact IL.aG kC (fun e=>e.elim (fun e=>KQ e) (fun e=>Jt e.symm))
  ·rw [iL,List.length_append]
   refine Row.aG wu Hr (fun k e e'=>?_);have e1:vR=k:=by simpa [aX]using e
   rcases Ez with e|e
   ·exact KR (e'.symm.trans (e1.symm.trans e))
   ·omega
  ·obtain⟨f,hf,hc⟩:=IC
   refine⟨f,hf.aG kA (fun e=>?_),fun y=>?_⟩
   ·rcases e with e|e|e|e
    ·exact(h.od _ pJ).2.1 e
    ·exact Js e.symm
    ·exact KP e.symm
    ·exact Hc e.symm
   ·obtain⟨l,h1,h2⟩:=hc y
    refine⟨l,?_,h2⟩;rw [List.length_append];exact h1.aG kA Ql
  ·exact h.kO.snoc hj (by rw [hs];exact Ag) W.pos
  ·exact W.snoc (nd:=⟨hid,ps⟩) hn fY tC
  ·intro k h1
   obtain⟨h3,h4⟩:=Jw k h1;refine⟨fun h2=>?_,fun h2=>?_⟩
   ·rcases Jv k h2.1 with h5|h5
    ·exact nG k h1 (.inl h5)
    ·omega
   ·rcases Fk k h2 with h5|h5
    ·rcases h3 with h3|h3
     ·exact(h.gt k h3).2 h5
     ·have:=Bp k h5;omega
    ·omega
  ·intro k h1 h2
   rcases Jv k h1.1 with h5|h5
   ·exact Ql k h2 (.inl h5)
   ·rcases Fk k h2 with h6|h6
    ·have:=Bp k h6;omega
    ·omega
  ·intro k h1
   obtain⟨h3,h4⟩:=Jx k h1;refine⟨fun h2=>?_,fun h2=>?_⟩
   ·rcases Jv k h2.1 with h5|h5
    ·exact nF k h1 (.inl h5)
    ·omega
   ·rcases Fk k h2 with h5|h5
    ·rcases h3 with h3|h3
     ·exact(h.fd k h3).2 h5
     ·have:=Bp k h5;omega
    ·omega
  ·intro k e
   have e':(k=m.mb\/k=m.ib\/k=x)\/(k=m.cb)\/(k=vR/\uq.heap.size<=vR):=by
    rcases e with e|e|e|e
    ·exact .inl (.inr (.inr e))
    ·exact .inl (.inl e)
    ·rcases Ez with h5|h5
     ·exact .inl (.inr (.inl (e.trans h5)))
     ·exact .inr (.inr ⟨e,h5⟩)
    ·exact .inr (.inl e)
   have big:uq.heap.size<=k-> ¬S2 k/\ ¬(Ow k/\k<yG.heap.size)/\ ¬SO2 k/\ ¬F2 k:=fun hb=>
    ⟨fun h1=>by have:=(Jw k h1).2;omega,fun h1=>by have:=h1.2;omega,fun h1=>(Fk k h1).elim (fun h2=>by have:=Bp k h2;omega) (fun h2=>by omega),fun h1=>by have:=(Jx k h1).2;omega⟩
   rcases e' with e'|e'|⟨rfl,e'⟩
   ·exact⟨fun h1=>nG k h1 (.inr e'),fun h1=>nT k h1 e',fun h1=>Ql k h1 (.inr e'),fun h1=>nF k h1 (.inr e')⟩
   ·subst e'
    have Pm:=h.od _ pJ;refine⟨fun h1=>?_,fun h1=>?_,fun h1=>?_,fun h1=>?_⟩
    ·rcases(Jw _ h1).1 with h2|h2
     ·exact Pm.1 h2
     ·omega
    ·rcases Jv _ h1.1 with h2|h2
     ·exact Pm.2.1 h2
     ·omega
    ·rcases Fk _ h1 with h2|h2
     ·exact Pm.2.2.1 h2
     ·omega
    ·rcases(Jx _ h1).1 with h2|h2
     ·exact Pm.2.2.2 h2
     ·omega
   ·exact big e'
  ·show x≠m.mb/\x≠vR/\x≠m.cb/\m.mb≠vR/\m.mb≠m.cb/\vR≠m.cb
   rcases Ez with h5|h5
   ·rw [h5];exact⟨Jt,KR,Hc,KQ,Js,KP⟩
   ·exact⟨Jt,by omega,Hc,by omega,Js,by omega⟩
  ·intro k e
   have hblk:=(Row.bC wu (k:=vR) rfl).2;obtain⟨cur,tG⟩:=hblk;have lib:=aQ tG;rcases e with e|e
   ·rcases e with e|e|e|e
    ·have:=(Jw k e).2;omega
    ·have:=e.2;omega
    ·rcases Fk k e with h2|h2
     ·have:=Bp k h2;omega
     ·omega
    ·rcases e with e|e|e|e
     ·omega
     ·have e:k=m.mb:=e;omega
     ·have e:k=vR:=e;omega
     ·have e:k=m.cb:=e;omega
   ·have:=(Jx k e).2;omega
 ·refine kv.trans kA (fun k _ e=>?_)
  rcases e with e|e
  ·exact .inr (.inl e)
  ·exact .inr (.inr (.inr (za k e)))
 ·intro k e
  rcases e with e|e|e|e
  ·exact(Jw k e).1.imp (fun h=>.inl h) (fun h=>h)
  ·rcases Jv k e.1 with h5|h5
   ·exact .inl (.inr (.inl h5))
   ·exact .inr (by omega)
  ·rcases Fk k e with h5|h5
   ·exact .inl (.inr (.inr (.inl h5)))
   ·exact .inr (by omega)
  ·rcases e with e|e|e|e
   ·exact .inl (.inr (.inr (.inr (.inl e))))
   ·exact .inl (.inr (.inr (.inr (.inr (.inl e)))))
   ·rcases Ez with h5|h5
    ·exact .inl (.inr (.inr (.inr (.inr (.inr (.inl (e.trans h5)))))))
    ·exact .inr (by omega)
   ·exact .inl (.inr (.inr (.inr (.inr (.inr (.inr e))))))
 ·exact fun k e=>(Jx k e).1
end
end Go.Proofs.YtnboahlopghcjaaGreatDoor
namespace Go.Proofs.YtnboahlopghcjaaGreatDoor
open Go.Proofs.Tryz
open Go Go.bp Go.RowKit
section
variable{w w':World}{F S:Nat->Prop}{x:Nat}{D:DG}{P:List Int}{m:XM}{K:Value->World->Prop}
theorem z6{u v:World}{hid s:HT}{D':DG}{ps pl:List HT}{zt ob i:Nat}{A7:Option Addr}{c7:Nat}{b8:Int}{sb:Addr}{f0:HT->Option Value}{Q:aJ}{OL:Option Nat}
 (h:XV w F x D P m) (hD:D.length<=5000) (hwu:w.heap.size<=u.heap.size)
 (hC:u.heap[x]? =some (.cells #[.pointer (some ⟨m.g,0,none⟩),.pointer (some ⟨m.t,0,none⟩),.map (some m.mb),.slice (some ⟨m.ib,0,none⟩) D.length m.ic,.map (some m.cb)] cP (0,0)))
 (Io:u.heap[zt]? =some (.cells hid.1 ao (0,0))) (Zw:w.heap.size<=zt) (hold:dA u ob f0) (Zu:w.heap.size<=ob) (RL:OL=some ob)
 (Wy: ∀y,(y=s\/eB D y s->f0 y=some (.agg #[.bool true]))/\(¬(y=s\/eB D y s)->f0 y=none))
 (DE:bQ u w.heap.size A7 pl.length c7 pl) (pX:pl.length<=10000)
 (kv:Kept (· =m.cb) u v) (hi:i<=pl.length) {Z:HT->HT->Prop}
 (IC: ∃f,dA v m.cb f/\ ∀y,∃l,kN v (fun k=>m.SO k\/(u.heap.size<=k/\k<v.heap.size)) (D.length+if y∈pl.take i then 1 else 0) (f y) l/\ ∀c,c∈l↔GB D P y c\/(c=hid/\y∈pl.take i/\y≠s/\ ¬eB D y s)) (fG:pl.Nodup)
 (hQ: ∀v',Kept (· =m.cb) u v'->(∃f,dA v' m.cb f/\ ∀y,∃l,kN v' (fun k=>m.SO k\/(u.heap.size<=k/\k<v'.heap.size)) (D.length+if y∈pl.take (i+1)then 1 else 0) (f y) l/\ ∀c,c∈l↔GB D P y c\/(c=hid/\y∈pl.take (i+1)/\y≠s/\ ¬eB D y s))->i<pl.length->
   Q .normal (aw.e2 (some ⟨x,0,none⟩) ⟨zt,0,none⟩ sb b8 OL A7 pl.length c7 (pl.length:Int) ((i:Int)+1)) v')
 (hE:i=pl.length->Q (.exit 3) (aw.e2 (some ⟨x,0,none⟩) ⟨zt,0,none⟩ sb b8 OL A7 pl.length c7 (pl.length:Int) (i:Int)) v):
 aw.B2 (some ⟨x,0,none⟩) ⟨zt,0,none⟩ sb b8 OL A7 pl.length c7 (pl.length:Int) (i:Int) Q v:=by
 subst RL;have RI:m.own x x:=.inl rfl;have pJ:m.own x m.cb:=.inr (.inr (.inr rfl));obtain⟨Jt,KR,Hc,KQ,Js,KP⟩:=h.ne;have K1:m.cb<w.heap.size:=h.low _ (.inl (.inr (.inr (.inr pJ))));have sv:=kv.size;unfold aw.B2;refine Split.dec (fun jE=>?_) (fun iy=>hE (by omega));have eI:i<pl.length:=by omega
 obtain⟨y,hy⟩: ∃y,pl[i]? =some y:=⟨_,List.getElem?_eq_getElem eI⟩;have O0:y∉pl.take i:=fun hm=>by
  obtain⟨j,hj⟩:=List.mem_iff_getElem?.1 hm;rw [List.getElem?_take]at hj;split at hj
  ·rename_i ck
   have h1:=ir 0 j fG hj;rw [ir 0 i fG hy]at h1;simp only [Option.some.injEq]at h1;omega
  ·cases hj
 have G4:HS v A7 pl.length pl:=bQ.hs (Row.aG DE kv (fun k hk e=>by have:=(Row.bC DE hk).1;omega));refine G4.load (i:=(i:Int)) (by omega) (by rw [Int.toNat_natCast];exact hy) ?_;intro w81;obtain⟨nt,ij,ig⟩:=dU (w:=v) (z:=(#[.int .u8 0,.int .u8 0,.int .u8 0,.int .u8 0,.int .u8 0,.int .u8 0,.int .u8 0,.int .u8 0,.int .u8 0,.int .u8 0,.int .u8 0,.int .u8 0,.int .u8 0,.int .u8 0,.int .u8 0,.int .u8 0,.int .u8 0,.int .u8 0,.int .u8 0,.int .u8 0,.int .u8 0,.int .u8 0,.int .u8 0,.int .u8 0,.int .u8 0,.int .u8 0,.int .u8 0,.int .u8 0,.int .u8 0,.int .u8 0,.int .u8 0,.int .u8 0]:Array Value)) (cs:=y.1) (t:=ao) (by rw [y.2.1];rfl);refine⟨⟨y.2.1,y.2.one,fun j hj=>nt j (by rw [y.2.1];exact hj)⟩,?_⟩;intro GK
 replace ij:GK.heap[v.heap.size]? =some (.cells y.1 ao (0,0)):=ij
 replace ig:Kept Nil v GK:=ig
 clear_value GK;have OU:Kept (· =m.cb) u GK:=kv.trans ig (fun _ _ h=>h.elim);have H8:dA GK ob f0:=hold.aG OU (fun e=>by omega);have lk:=H8.look Bj y;obtain⟨f,hf,hc⟩:=IC;have Na:=hf.aG ig (fun h=>h);obtain⟨l,tH,F5⟩:=hc y;have Rg:=ig.size;have Gx: ∀ {v':World} {N N':Nat} {a:Option Value} {l:List HT},v.heap.size<=v'.heap.size->N<=N'->kN v' (fun k=>m.SO k\/(u.heap.size<=k/\k<v.heap.size)) N a l->kN v' (fun k=>m.SO k\/(u.heap.size<=k/\k<v'.heap.size)) N' a l:=fun hv hN vn=>by
  rcases vn with vn|⟨A,n,c,h1,h2,h3,h4,h5⟩
  ·exact .inl vn
  ·exact .inr ⟨A,n,c,h1,h2,h3,by omega,fun a ha=>(h5 a ha).imp (fun h=>h) (fun h=>⟨h.1,by omega⟩)⟩
 have Gy: ∀ {v':World} {N:Nat} {a:Option Value} {l:List HT},Kept (· =m.cb) v v'->kN v (fun k=>m.SO k\/(u.heap.size<=k/\k<v.heap.size)) N a l->kN v' (fun k=>m.SO k\/(u.heap.size<=k/\k<v.heap.size)) N a l:=fun hk vn=>vn.aG hk (fun k lg e=>by
  rcases lg with h1|h1
  ·exact(h.od _ pJ).2.2.1 (e▸h1)
  ·omega)
 refine⟨y.1,⟨y.2.1,Cells.bC ij⟩,?_⟩;by_cases gA:y=s\/eB D y s
 ·rw [(Wy y).1 gA]at lk
  refine⟨_,lk,true,rfl,Split.no rfl ?_⟩;rw [e8 (n:=(i:Int)) (by omega) (by omega)];refine hQ GK OU ⟨f,Na,fun z=>?_⟩ eI;obtain⟨lz,h1,h2⟩:=hc z;refine⟨lz,Gx Rg (by
   by_cases hz:z∈pl.take i
   ·rw [if_pos hz,if_pos ((bt hy).2 (.inl hz))];exact Nat.le_refl _
   ·rw [if_neg hz];omega) (Gy (ig.mono (fun _ _ h=>h.elim)) h1),fun c=>?_⟩
  rw [h2,bt hy];constructor
  ·rintro(h3|⟨h3,h4,h5,h6⟩)
   ·exact .inl h3
   ·exact .inr ⟨h3,.inl h4,h5,h6⟩
  ·rintro(h3|⟨h3,h4|rfl,h5,h6⟩)
   ·exact .inl h3
   ·exact .inr ⟨h3,h4,h5,h6⟩
   ·exact absurd gA (fun e=>e.elim h5 h6)
 ·rw [(Wy y).2 gA]at lk
  refine⟨_,lk,false,rfl,Split.yes rfl ?_⟩;intro xE;have Le:Kept Nil GK xE:=(Kept.refl _ _).drew;clear_value xE;have Qw:=ig.trans Le (fun _ _ h=>h);have Co:=Le.heap ij (fun h=>h);have pz: ∀ {q:World},Kept Nil xE q->q.cell? ((⟨x,0,none⟩:Addr).add 4)=some (.map (some m.cb)):=fun k=>by
   rw [a7,az (k.heap (Le.heap (OU.heap hC (fun e=>Hc e)) (fun h=>h)) (fun h=>h))];rfl
  have kI: ∀ {q:World},Kept Nil xE q-> ∃cs:Array Value,(.agg y.1:Value)=.agg cs/\cs.size=32/\Cells q (⟨v.heap.size,0,none⟩:Addr) cs:=fun k=>⟨y.1,rfl,y.2.1,Cells.bC (k.heap Co (fun h=>h))⟩;have Ga:xE.heap[zt]? =some (.cells hid.1 ao (0,0)):=Le.heap (OU.heap Io (fun e=>by omega)) (fun h=>h);have SJ: ∀ {q:World},Kept Nil xE q-> ∃cs:Array Value,(.agg hid.1:Value)=.agg cs/\cs.size=32/\Cells q (⟨zt,0,none⟩:Addr) cs:=fun k=>⟨hid.1,rfl,hid.2.1,Cells.bC (k.heap Ga (fun h=>h))⟩;have M9:=Na.aG Le (fun h=>h);obtain⟨A,n,c,ek,zz,Ei,hnN⟩: ∃(A:Option Addr) (n c:Nat),(f y).getD (.slice none 0 0)=.slice A n c/\n<=c/\HS v A n l/\n<=D.length:=by
   rcases tH with⟨h1,h2⟩|⟨A,n,c,h1,h2,h3,h4,_⟩
   ·exact⟨none,0,0,by rw [h1];rfl,Nat.le_refl _,by rw [h2];exact HS.nil _ _,by omega⟩
   ·rw [if_neg O0]at h4
    exact⟨A,n,c,by rw [h1];rfl,h2,h3,by omega⟩
  have Va: ∀ {q:World},Kept Nil xE q->(Instr.lookup eA (.map (some m.cb)) (.agg y.1) false).run prog q=.ok (.slice A n c) q:=fun k=>by
   have:=(M9.aG k (fun h=>h)).look tt y;rw [ek]at this;exact this
  have fin: ∀ {q:World} {bb:Nat},Kept Nil xE q->HS q (some ⟨bb,0,none⟩) 1 [hid]->
   ∃(A':Option Addr) (n' c':Nat) (q2:World),(Builtin.append_ #[aR,aR] aR #[.slice A n n,.slice (some ⟨bb,0,none⟩) 1 1]).run prog q=.ok (.slice A' n' c') q2/\(∃cs:Array Value,(.agg y.1:Value)=.agg cs/\cs.size=32/\Cells q2 (⟨v.heap.size,0,none⟩:Addr) cs)/\q2.cell? ((⟨x,0,none⟩:Addr).add 4)=some (.map (some m.cb))/\
    ∃q3:World,(Instr.mapUpdate eA (.map (some m.cb)) (.agg y.1) (.slice A' n' c')).run prog q2=.ok () q3/\Q .normal (aw.e2 (some ⟨x,0,none⟩) ⟨zt,0,none⟩ sb b8 (some ob) A7 pl.length c7 (pl.length:Int) (IntKind.i64.wrap ((i:Int)+(1:Int)))) q3:=by
   intro q bb kq zI;have Qv:=Qw.trans kq (fun _ _ h=>h);obtain⟨A',c',q2,hr,x8,Gd,oB,Vh⟩:=tT (cx:=1) (Ei.same Qv) zI (by omega);have k2:=kq.trans Vh (fun _ _ h=>h);obtain⟨q3,H7,hf3,k3⟩:=(M9.aG k2 (fun h=>h)).put tt y (.slice A' (n+1) c');refine⟨A',_,c',q2,hr,kI k2,pz k2,q3,H7,?_⟩;rw [e8 (n:=(i:Int)) (by omega) (by omega)];have K7:=Qv.trans Vh (fun _ _ h=>h);have K6:Kept (· =m.cb) v q3:=(K7.mono (S':=(· =m.cb)) (fun _ _ h=>h.elim)).trans k3 (fun _ _ h=>h);have sq2:=K7.size;have sq3:=k3.size;have svq:=Qv.size;refine hQ q3 (kv.trans K6 (fun _ _ h=>h)) ⟨_,hf3,fun z=>?_⟩ eI;by_cases hz:z=y
   ·subst hz
    refine⟨l++ [hid],.inr ⟨A',n+1,c',by simp,Gd,x8.aG k3 (fun a ha e=>by have:=(oB a ha).1;omega),?_,fun a ha=>.inr ?_⟩,fun c=>?_⟩
    ·rw [if_pos ((bt hy).2 (.inr rfl))];omega
    ·have:=oB a ha;omega
    ·rw [List.mem_append,List.mem_singleton,F5,bt hy]
     constructor
     ·rintro((h3|⟨h3,h4,h5,h6⟩)|h3)
      ·exact .inl h3
      ·exact .inr ⟨h3,.inl h4,h5,h6⟩
      ·exact .inr ⟨h3,.inr rfl,fun e=>gA (.inl e),fun e=>gA (.inr e)⟩
     ·rintro(h3|⟨h3,h4,h5,h6⟩)
      ·exact .inl (.inl h3)
      ·exact .inr h3
   ·obtain⟨lz,h1,h2⟩:=hc z
    refine⟨lz,?_,fun c=>?_⟩
    ·simp only [hz,if_false]
     refine Gx (by omega) ?_ (Gy K6 h1);by_cases QQ:z∈pl.take i
     ·rw [if_pos QQ,if_pos ((bt hy).2 (.inl QQ))];exact Nat.le_refl _
     ·rw [if_neg QQ];omega
    ·rw [h2,bt hy]
     constructor
     ·rintro(h3|⟨h3,h4,h5,h6⟩)
      ·exact .inl h3
      ·exact .inr ⟨h3,.inl h4,h5,h6⟩
     ·rintro(h3|⟨h3,h4|h4,h5,h6⟩)
      ·exact .inl h3
      ·exact .inr ⟨h3,h4,h5,h6⟩
      ·exact absurd h4 hz
  refine⟨_,pz (Kept.refl _ _),y.1,⟨y.2.1,Cells.bC Co⟩,_,pz (Kept.refl _ _),y.1,⟨y.2.1,Cells.bC Co⟩,A,n,c,Va (Kept.refl _ _),hid.1,⟨hid.2.1,Cells.bC Ga⟩,?_,⟨hid.2.1,?_⟩⟩
  ·refine tf zz ⟨A,n,n,rfl,SJ (Kept.refl _ _),kI (Kept.refl _ _),pz (Kept.refl _ _),hid.2.1,?_⟩
   intro yI;have wG:Kept Nil xE yI:=(Kept.refl _ _).alloc _;have NF:HS yI (some ⟨xE.heap.size,0,none⟩) 1 [hid]:=kV xE hid;clear_value yI;exact⟨kI wG,pz wG,fin wG NF⟩
  ·intro GO
   have vd:Kept Nil xE GO:=(Kept.refl _ _).alloc _;have ND:HS GO (some ⟨xE.heap.size,0,none⟩) 1 [hid]:=kV xE hid;clear_value GO;exact⟨Va vd,kI vd,pz vd,kI vd,pz vd,tf zz ⟨A,n,n,rfl,kI vd,pz vd,fin vd ND⟩⟩
end
end Go.Proofs.YtnboahlopghcjaaGreatDoor
namespace Go.Proofs.YtnboahlopghcjaaGreatDoor
open Go.Proofs.Tryz
open Go Go.bp Go.RowKit
def pE(D:DG)(h s:HT)(l:List HT):DG:=if fJ D h s l=0 then D++ [⟨h,cX l⟩]else D
def pD(D:DG)(P:List Int)(h s:HT)(l:List HT):List Int:=if fJ D h s l=0 then P++ [(((pos s (ids D) 0).getD 0:Nat):Int)]else P
section
variable{w w':World}{F S:Nat->Prop}{x:Nat}{D:DG}{P:List Int}{m:XM}{K:Value->World->Prop}
theorem y7(h:XV w F x D P m)(hD:D.length<=5000)(hT:p6 w)(IT: ¬m.SG (Tryz.gV.g 1)){A:Option Addr}{n cx:Nat}{lp:List HT}(hl:HS w A n lp)(hn:n<=5000)(hid s:HT)
 (rD: ∀v,Kept Nil w v->fJ D hid s lp≠0->K (.int .i64 (fJ D hid s lp)) v)
 (HJ: ∀u S' F',xA u S' F' x (pE D hid s lp) (pD D P hid s lp)->Kept (fun k=>m.hU x k) w u->(∀k,S' k->m.hU x k\/w.heap.size<=k)->(∀k,F' k->F k\/w.heap.size<=k)->fJ D hid s lp=0->K (.int .i64 0) u):
 aY prog aw.id #[.pointer (some ⟨x,0,none⟩),.agg hid.1,.agg s.1,.slice A n cx] w K:=by
 have hlen:=hl.len;have W:=h.W;refine aw.of ?_;unfold aw.W;intro w5 w6;have k5:Kept Nil w w5:=(Kept.refl _ _).alloc _;have MT:w5.heap[w.heap.size]? =some (.cells hid.1 ao (0,0)):=aN w _;have k6:Kept Nil w5 w6:=(Kept.refl _ _).alloc _;have JI:w6.heap[w5.heap.size]? =some (.cells s.1 ao (0,0)):=aN w5 _;clear_value w6;have Wq:=k6.heap MT (fun h=>h);have qN:=k5.trans k6 (fun _ _ h=>h);have s5:=k5.size;have l5:=aQ MT;obtain⟨bl,c,X5,M,G⟩:=h.G;have hG: ∀ {v:World},Kept Nil w v->GV v m.SG F m.g D (eo D) bl c X5 M:=fun k=>G.same k;refine o8 (h.same qN) ⟨true,rfl,Split.no rfl ⟨_,(h.same qN).c0,hid.1,⟨hid.2.1,Cells.bC Wq⟩,?_⟩⟩;refine p0 (hG qN) hid fun iW JD=>⟨_,rfl,?_⟩;have Ee:=qN.trans JD (fun _ _ h=>h);by_cases fY:hid∈ids D
 ·have e:fJ D hid s lp=7:=by simp [fJ,dt,fY]
  have:=rD iW Ee (by rw [e];decide);rw [e]at this;exact Split.yes (decide_eq_true fY) this
 refine Split.no (decide_eq_false fY) ?_;by_cases h0:n=0
 ·have el:lp= []:=List.length_eq_zero_iff.1 (by omega)
  have e:fJ D hid s lp=9:=by subst el;simp [fJ,dt,fY,DB]
  have:=rD iW Ee (by rw [e];decide);rw [e]at this;exact Split.yes (by simp [h0]) this
 refine Split.no (by simp [h0]) ?_;refine fD (hl.same Ee) (by omega) fun A17 c17 rN UW BI=>⟨A17,_,c17,rfl,?_⟩;have Ed:=Ee.trans BI (fun _ _ h=>h);have fc:lp≠ []:=fun e=>h0 (by rw [<-hlen,e];rfl);by_cases Ei: ¬(cX lp).length=n
 ·have e:fJ D hid s lp=9:=by
   have h1:(cX lp).length=0\/(cX lp).length≠lp.length:=.inr (by omega);have h2:dt D hid lp=9:=by unfold dt;rw [if_neg fY,if_pos h1]
   simp [fJ,h2]
  have:=rD rN Ed (by rw [e];decide);rw [e]at this;exact Split.yes (by simp only [bne_iff_ne,ne_eq];omega) this
 replace Ei:=Classical.not_not.1 Ei
 refine Split.no (by rw [Ei];simp) ?_;refine mn (h.same Ed) (hl.same Ed) (by omega) fun xG ub=>⟨_,rfl,?_⟩;have ve:=Ed.trans ub (fun _ _ h=>h);have Mk: ¬((cX lp).length=0\/(cX lp).length≠lp.length):=by omega
 by_cases dw: ¬ ∀p∈lp,p∈ids D
 ·have hex: ∃p∈cX lp,p∉ids D:=Classical.byContradiction fun hc=>dw fun p hp=>Classical.byContradiction fun hq=>hc ⟨p,c9.2 hp,hq⟩
  have e:fJ D hid s lp=6:=by
   have:dt D hid lp=6:=by unfold dt;rw [if_neg fY,if_neg Mk,if_pos hex]
   simp [fJ,this]
  have:=rD xG ve (by rw [e];decide);rw [e]at this;exact Split.yes (by rw [decide_eq_false dw];rfl) this
 replace dw:=Classical.not_not.1 dw
 refine Split.no (by rw [decide_eq_true dw];rfl) ?_;have SU: ¬ ∃p∈cX lp,p∉ids D:=fun⟨p,hp,hq⟩=>hq (dw p (c9.1 hp));have eC:dt D hid lp=0:=by unfold dt;rw [if_neg fY,if_neg Mk,if_neg SU]
 have Lg:=(JD.trans BI (fun _ _ h=>h)).trans ub (fun _ _ h=>h);refine⟨s.1,⟨s.2.1,Cells.bC (Lg.heap JI (fun h=>h))⟩,?_⟩;refine mT s (hl.same ve) (by omega) fun jc pH=>⟨_,rfl,?_⟩;have wI:=ve.trans pH (fun _ _ h=>h);by_cases zv: ¬s∈lp
 ·have e:fJ D hid s lp=2:=by simp [fJ,eC,zv]
  have:=rD jc wI (by rw [e];decide);rw [e]at this;exact Split.yes (by rw [decide_eq_false zv];rfl) this
 replace zv:=Classical.not_not.1 zv
 refine Split.no (by rw [decide_eq_true zv];rfl) ?_;have eX:fJ D hid s lp=0:=by simp [fJ,eC,zv]
 have D5:=Lg.trans pH (fun _ _ h=>h);obtain⟨mj,Mt,RX⟩:=cR.1 (dw s zv);obtain⟨j,hj⟩:=List.mem_iff_getElem?.1 Mt;have eP:pD D P hid s lp=P++ [(j:Int)]:=by
  unfold pD;rw [if_pos eX,<-RX,W.pos_eq hj];rfl
 have eD:pE D hid s lp=D++ [⟨hid,cX lp⟩]:=by unfold pE;rw [if_pos eX]
 intro yD;have Hp:Kept Nil jc yD:=(Kept.refl _ _).alloc _;have R4:dA yD jc.heap.size (fun _=>none):=dA.new jc;clear_value yD;have LO:=(D5.trans Hp (fun _ _ h=>h)).heap JI (fun h=>h);obtain⟨Ae,Rt,Mx,Hn⟩:=R4.put Bj s (.agg #[.bool true]);refine⟨s.1,⟨s.2.1,Cells.bC LO⟩,Ae,Rt,?_⟩;have ob0:w5.heap.size<jc.heap.size:=by have:=aQ JI;have:=D5.size;omega
 have Rh:=Hn.heap LO (fun e=>by omega);refine⟨s.1,⟨s.2.1,Cells.bC Rh⟩,s.2.1,?_⟩;intro Jq;have QK:Kept Nil Ae Jq:=(Kept.refl _ _).alloc _;have QY:HS Jq (some ⟨Ae.heap.size,0,none⟩) 1 [s]:=kV Ae s;clear_value Jq;have XU:=wI.size;have BF:Kept Nil jc Jq:=(Hp.trans Hn (fun k hk e=>by omega)).trans QK (fun _ _ h=>h);have Ht:=wI.trans BF (fun _ _ h=>h);refine rf (hG Ht) W (by omega) (hT.same Ht) QY (by omega) fun A32 Ol sq Fe Fq=>⟨A32,_,Ol,rfl,?_⟩;have QO:=Ht.trans Fq (fun _ _ h=>h);have R1:dA sq jc.heap.size (fun z=>if z=s then some (.agg #[.bool true])else none):=(Mx.aG QK (fun h=>h)).aG Fq (fun h=>h);have p1:=nQ D fun a=> ∃z∈ [s],eB D a z
 change (dM D [s]).length<=_ at p1
 have UQ:=BF.size;have ob1:=Mx.lt;have s30:=QK.size;have FQ: ∀y,y∈dM D [s]↔eB D y s:=fun y=>by
  unfold dM;rw [iK];constructor
  ·rintro⟨_,z,hz,e⟩
   rw [List.mem_singleton]at hz
   rwa [hz]at e
  ·exact fun e=>⟨(e.mem W).1,s,by simp,e⟩
 have Yf: ∀k,k=jc.heap.size-> ¬k<w.heap.size:=fun k e=>by omega
 refine aw.bU (I:=fun i v=> ∃(q:Nat) (f:HT->Option Value),i=(q:Int)/\q<=(dM D [s]).length/\dA v jc.heap.size f/\(∀y,(y=s\/y∈(dM D [s]).take q->f y=some (.agg #[.bool true]))/\(¬(y=s\/y∈(dM D [s]).take q)->f y=none))/\Kept (· =jc.heap.size) sq v)
  (μ:=fun i _=>(((dM D [s]).length:Int)-i).toNat) (s:=0) ⟨0,_,rfl,Nat.zero_le _,R1,fun y=>⟨fun e=>by
    rcases e with e|e
    ·rw [if_pos e]
    ·simp at e,fun e=>if_neg fun e'=>e (.inl e')⟩,Kept.refl _ _⟩ ?_
 rintro i v ⟨q,f,rfl,hq,Wb,M4,kv⟩;have Fx:Kept Nil w v:=QO.trans kv (fun k hk e=>by omega);refine Split.dec (fun jE=>?_) (fun iy=>?_)
 ·have eI:q<(dM D [s]).length:=by omega
  obtain⟨y,hy⟩: ∃y,(dM D [s])[q]? =some y:=⟨_,List.getElem?_eq_getElem eI⟩;have G4:=bQ.hs (Row.aG Fe kv (fun k hk e=>by have:=(Row.bC Fe hk).1;omega));refine G4.load (i:=(q:Int)) (by omega) (by rw [Int.toNat_natCast];exact hy) ?_;intro E7;obtain⟨nt,ij,ig⟩:=dU (w:=v) (z:=(#[.int .u8 0,.int .u8 0,.int .u8 0,.int .u8 0,.int .u8 0,.int .u8 0,.int .u8 0,.int .u8 0,.int .u8 0,.int .u8 0,.int .u8 0,.int .u8 0,.int .u8 0,.int .u8 0,.int .u8 0,.int .u8 0,.int .u8 0,.int .u8 0,.int .u8 0,.int .u8 0,.int .u8 0,.int .u8 0,.int .u8 0,.int .u8 0,.int .u8 0,.int .u8 0,.int .u8 0,.int .u8 0,.int .u8 0,.int .u8 0,.int .u8 0,.int .u8 0]:Array Value)) (cs:=y.1) (t:=ao) (by rw [y.2.1];rfl);refine⟨⟨y.2.1,y.2.one,fun j hj=>nt j (by rw [y.2.1];exact hj)⟩,?_⟩;intro P1
  replace ij:P1.heap[v.heap.size]? =some (.cells y.1 ao (0,0)):=ij
  replace ig:Kept Nil v P1:=ig
  clear_value P1;obtain⟨Az,H5,RZ,OW⟩:=(Wb.aG ig (fun h=>h)).put Bj y (.agg #[.bool true]);refine⟨y.1,⟨y.2.1,Cells.bC ij⟩,Az,H5,?_⟩;rw [e8 (n:=(q:Int)) (by omega) (by omega)];refine⟨(q:Int)+1,rfl,⟨q+1,_,rfl,eI,RZ,fun z=>?_,(kv.trans ig (fun _ _ h=>h.elim)).trans OW (fun _ _ h=>h)⟩,by simp only;omega⟩;rw [bt hy];constructor
  ·intro e
   by_cases hz:z=y
   ·rw [if_pos hz]
   ·rw [if_neg hz]
    exact(M4 z).1 (e.imp (fun h=>h) (fun h=>h.resolve_right hz))
  ·intro e
   rw [if_neg (fun hz=>e (.inr (.inr hz)))];exact(M4 z).2 (fun e'=>e (e'.imp (fun h=>h) (fun h=>.inl h)))
 ·have Ry:q=(dM D [s]).length:=by omega
  subst Ry;rw [List.take_of_length_le (Nat.le_refl _)]at M4;rw [aP,aw.GF];unfold aw.z8;have BE:Kept (· =jc.heap.size) jc v:=((BF.trans Fq (fun _ _ h=>h)).mono (S':=(· =jc.heap.size)) (fun _ _ h=>h.elim)).trans kv (fun _ _ h=>h);have Pf:v.heap[w.heap.size]? =some (.cells hid.1 ao (0,0)):=BE.heap (D5.heap Wq (fun h=>h)) (fun e=>by omega);have Rb:v.heap[w5.heap.size]? =some (.cells s.1 ao (0,0)):=BE.heap (D5.heap JI (fun h=>h)) (fun e=>by omega);have sv:=Fx.size;have s2v:=BE.size;refine⟨hid.1,⟨hid.2.1,Cells.bC Pf⟩,?_⟩;refine EV (hG Fx) W (by omega) (hl.same Fx) (by omega) hid fun Ad S2 F2 NU zn IU Pp=>⟨_,rfl,?_⟩;rw [oy eC]at NU;have DT: ∀k,m.SG k->k<w.heap.size:=fun k e=>h.low k (.inl (.inl e));have s64:=zn.size;have Ip:=zn.heap Pf (fun e=>by have:=DT _ e;omega);have LN:=zn.heap Rb (fun e=>by have:=DT _ e;omega);have RY:=Wb.aG zn (fun e=>by have:=DT _ e;omega);refine⟨hid.1,⟨hid.2.1,Cells.bC Ip⟩,hid.2.1,?_⟩;intro Ax;have Fo:Kept Nil Ad Ax:=(Kept.refl _ _).alloc _;have QV:HS Ax (some ⟨Ad.heap.size,0,none⟩) 1 [hid]:=kV Ad hid;clear_value Ax;have Ex: ∀p∈cX lp,p∈ids D:=fun p hp=>dw p (c9.1 hp);have W':iT (D++ [⟨hid,cX lp⟩]):=W.snoc (nd:=⟨hid,cX lp⟩) fY Ex (gv lp);obtain⟨Xk,c',KW,M',PL⟩:=NU;have He: ∀k,m.own x k->k<w.heap.size:=fun k e=>h.low k (.inl (.inr (.inr (.inr e))));have hTv:p6 Ad:=(hT.same Fx).aG zn IT;refine rf (PL.same Fo) W' (by simp;omega) (hTv.same Fo) QV (by omega) fun A69 c69 xF AZ Lf=>⟨A69,_,c69,rfl,?_⟩;have sP:=Fo.trans Lf (fun _ _ h=>h);have UO:=sP.size;have p2:=nQ (D++ [⟨hid,cX lp⟩]) fun a=> ∃z∈ [hid],eB (D++ [⟨hid,cX lp⟩]) a z
  change (dM (D++ [⟨hid,cX lp⟩]) [hid]).length<=_ at p2
  rw [List.length_append,List.length_singleton]at p2;have wS: ∀y,y∈dM (D++ [⟨hid,cX lp⟩]) [hid]↔eB (D++ [⟨hid,cX lp⟩]) y hid:=fun y=>by
   unfold dM;rw [iK];constructor
   ·rintro⟨_,z,hz,e⟩
    rw [List.mem_singleton]at hz
    rwa [hz]at e
   ·exact fun e=>⟨(e.mem W').1,hid,by simp,e⟩
  have km:Kept (fun k=>m.SG k) w xF:=((Fx.mono (S':=fun k=>m.SG k) (fun _ _ h=>h.elim)).trans zn (fun _ _ h=>h)).trans sP (fun _ _ h=>h.elim);have Hd: ∀k,m.own x k-> ¬m.SG k:=fun k e=>(h.od k e).1;have Kz:=km.heap h.top (Hd _ (.inl rfl));have fG:(dM (D++ [⟨hid,cX lp⟩]) [hid]).Nodup:=(gv _).nodup;obtain⟨f0,SQ,SV⟩:=h.PD;have U7: ∀k,m.own x k-> ¬(k=m.cb)\/k=m.cb:=fun k _=>(Classical.em _).symm;have pJ:m.own x m.cb:=.inr (.inr (.inr rfl));have K1:=He _ pJ;generalize pX:dM (D++ [⟨hid,cX lp⟩]) [hid]=pl at AZ p2 wS fG⊢;refine aw.gz (I:=fun i u=> ∃q:Nat,i=(q:Int)/\q<=pl.length/\Kept (· =m.cb) xF u/\ ∃f,dA u m.cb f/\ ∀y,∃l,kN u (fun k=>m.SO k\/(xF.heap.size<=k/\k<u.heap.size)) (D.length+if y∈pl.take q then 1 else 0) (f y) l/\ ∀c,c∈l↔GB D P y c\/(c=hid/\y∈pl.take q/\y≠s/\ ¬eB D y s))
   (μ:=fun i _=>((pl.length:Int)-i).toNat) (s:=0) ⟨0,rfl,Nat.zero_le _,Kept.refl _ _,f0,SQ.aG km (Hd _ pJ),fun y=>?_⟩ ?_
  ·obtain⟨l,h1,h2⟩:=SV y
   refine⟨l,?_,fun c=>?_⟩
   ·rcases h1.aG km (fun k e e'=>(h.gt k e').2 e)with h3|⟨A,n,c,g1,g2,g3,g4,g5⟩
    ·exact .inl h3
    ·exact .inr ⟨A,n,c,g1,g2,g3,by omega,fun a ha=>.inl (g5 a ha)⟩
   ·rw [h2]
    simp
  ·rintro i u ⟨q,rfl,JL,ku,Ni⟩
   refine z6 h hD km.size Kz (sP.heap Ip (fun h=>h)) (Nat.le_refl _) ((RY.aG Fo (fun h=>h)).aG Lf (fun h=>h)) (by omega) rfl
    (fun y=>⟨fun e=>(M4 y).1 (e.imp (fun h=>h) (fun h=>(FQ y).2 h)),fun e=>(M4 y).2 (fun e'=>e (e'.imp (fun h=>h) (fun h=>(FQ y).1 h)))⟩)
    (Row.base AZ (fun b hb=>by have:=(Row.bC AZ hb).1;have:=Fo.size;omega)) (by omega) ku JL (Z:=fun _ _=>True) Ni fG (hid:=hid) (s:=s) (D':=D) (ps:= []) (fun v' Yh SI ck=>?_) (fun Ry=>?_)
   ·exact⟨(q:Int)+1,rfl,⟨q+1,rfl,ck,Yh,SI⟩,by simp only;omega⟩
   ·subst Ry
    rw [aP];unfold aw.e2;rw [aw.PS];rw [List.take_of_length_le (Nat.le_refl _)]at Ni;have Bw:Kept (fun k=>m.SG k\/k=m.cb) w u:=(km.mono (S':=fun k=>m.SG k\/k=m.cb) (fun _ _ h=>.inl h)).trans ku (fun _ _ h=>.inr h);have su:=ku.size;obtain⟨Jt,KR,Hc,KQ,Js,KP⟩:=h.ne;have X8: ∀k,F k->k<w.heap.size:=fun k e=>h.low k (.inr e);have TF:GV xF S2 F2 m.g (D++ [⟨hid,cX lp⟩]) (eo (D++ [⟨hid,cX lp⟩])) Xk c' KW M':=PL.same sP;have X3: ∀k,S2 k-> ¬k=m.cb:=fun k h1 e=>by
     rcases IU k h1 with h2|h2
     ·exact(h.od _ pJ).1 (e▸h2)
     ·omega
    have X4: ∀k,F2 k-> ¬k=m.cb:=fun k h1 e=>by
     rcases Pp k h1 with h2|h2
     ·exact(h.od _ pJ).2.2.2 (e▸h2)
     ·omega
    have K9: ∀k,m.own x k->k≠m.cb-> ¬(m.SG k\/k=m.cb):=fun k e fc e'=>e'.elim (Hd k e) fc;refine CY (s1:=Ad.heap.size) (s2:=xF.heap.size) (S2:=S2) (F2:=F2) (SO2:=fun k=>m.SO k\/(xF.heap.size<=k/\k<u.heap.size)) (mj:=mj) h hD fY Ex (gv lp) hj RX (c9.2 zv) (Bw.heap h.top (K9 _ (.inl rfl) Hc))
     (Nat.le_refl _) (by omega) (ku.heap (sP.heap Ip (fun h=>h)) (fun e=>by omega)) (ku.heap (sP.heap LN (fun h=>h)) (fun e=>by omega)) ⟨Xk,c',KW,M',TF.aG ku X3 X4⟩
     (h.T.aG Bw (fun k e e'=>e'.elim (fun e'=>(h.gt k e').1 e) (fun e'=>(h.od _ pJ).2.1 (e'▸e)))) (h.at_.aG Bw (K9 _ (.inr (.inl rfl)) Js)) (Row.aG h.row Bw (fun k e=>by cases e;exact K9 _ (.inr (.inr (.inl rfl))) KP))
     ?_ (by omega) (by omega) su (fun k e=>⟨(IU k e).imp (fun h=>h) (fun h=>by omega),PL.low k (.inl e)⟩) (fun k e=>⟨(Pp k e).imp (fun h=>h) (fun h=>by omega),PL.low k (.inr e)⟩) (fun k e=>e)
     (Bw.mono (S':=fun k=>m.hU x k) (fun k _ e=>e.elim (fun e=>.inl e) (fun e=>.inr (.inr (.inr (.inr (.inr (.inr e)))))))) (fun u2 S' F' hI kU hSu Gs=>?_)
    ·obtain⟨f,hf,hc⟩:=Ni
     refine⟨f,hf,fun y=>?_⟩;obtain⟨l,h1,h2⟩:=hc y;refine⟨l,?_,fun c=>?_⟩
     ·rcases h1 with h3|⟨A,n,c,g1,g2,g3,g4,g5⟩
      ·exact .inl h3
      ·refine .inr ⟨A,n,c,g1,g2,g3,?_,g5⟩
       split at g4<;>omega
     ·rw [h2,CN W h.kO (nd:=⟨hid,cX lp⟩) fY Ex hj,RX]
      constructor
      ·rintro(h3|⟨h3,h4,h5,h6⟩)
       ·exact .inl h3
       ·exact .inr ⟨h3,(wS y).1 h4,h5,h6⟩
      ·rintro(h3|⟨h3,h4,h5,h6⟩)
       ·exact .inl h3
       ·exact .inr ⟨h3,(wS y).2 h4,h5,h6⟩
    ·refine HJ u2 S' F' ?_ kU hSu Gs eX
     rw [eD,eP];exact hI
end
end Go.Proofs.YtnboahlopghcjaaGreatDoor
namespace Go.Proofs.YtnboahlopghcjaaGreatDoor
open Go.Proofs.Tryz
open Go Go.bp Go.RowKit
def bI:HT:=hx 0 (by decide)
def cj(D:DG)(P:List Int)(h:HT)(l:List HT):Prop:=(h∉ids D/\l= [])\/ ∃(i:Nat) (nd:DN) (ks:List Nat),D[i]? =some nd/\nd.id=h/\Up P i ks/\l=ks.map (kP D)
theorem jO{D:DG}{i:Nat}{nd:DN}(h:D[i]? =some nd):kP D i=nd.id:=by unfold kP;rw [h]
theorem cj.ex{D:DG}{P:List Int}(H:pQ D P)(h:HT): ∃l,cj D P h l:=by
 by_cases hm:h∈ids D
 ·obtain⟨nd,fG,e⟩:=cR.1 hm
  obtain⟨i,hi⟩:=List.mem_iff_getElem?.1 fG;obtain⟨ks,hk⟩:=Up.ex H.par i (by rw [H.len];exact(List.getElem?_eq_some_iff.1 hi).1);exact⟨_,.inr ⟨i,nd,ks,hi,e,hk,rfl⟩⟩
 ·exact⟨[],.inl ⟨hm,rfl⟩⟩
theorem cj.mem{D:DG}{P:List Int}(W:iT D)(H:pQ D P){h:HT}{l:List HT}(c:cj D P h l){a:HT}:a∈l↔Ch D P a h:=by
 rcases c with⟨h1,rfl⟩|⟨i,nd,ks,h1,rfl,h3,rfl⟩
 ·simp only [List.not_mem_nil,false_iff]
  exact fun e=>h1 e.mem.2
 ·have eI:i<P.length:=by rw [H.len];exact(List.getElem?_eq_some_iff.1 h1).1
  rw [List.mem_map];constructor
  ·rintro⟨k,hk,rfl⟩
   have hu:=(h3.mem H.par eI).1 hk;have Al:=hu.ON;rw [H.len]at Al;obtain⟨nk,JP⟩: ∃nk,D[k]? =some nk:=⟨_,List.getElem?_eq_getElem Al⟩;exact⟨i,k,nd,nk,h1,rfl,JP,(jO JP).symm,hu⟩
  ·rintro⟨i',k,ni,nk,g1,g2,g3,g4,g5⟩
   have:=W.inj g1 h1 g2;subst this;exact⟨k,(h3.mem H.par eI).2 g5,by rw [jO g3,g4]⟩
theorem cj.one{D:DG}{P:List Int}(W:iT D)(H:pQ D P){h:HT}{l l':List HT}(c:cj D P h l)(c':cj D P h l'):l=l':=by
 rcases c with⟨h1,rfl⟩|⟨i,nd,ks,h1,h2,h3,rfl⟩
 ·rcases c' with⟨_,rfl⟩|⟨i,nd,ks,g1,g2,_,_⟩
  ·rfl
  ·exact absurd (cR.2 ⟨nd,List.mem_of_getElem? g1,g2⟩) h1
 ·rcases c' with⟨g1,rfl⟩|⟨i',nd',ks',g1,g2,g3,rfl⟩
  ·exact absurd (cR.2 ⟨nd,List.mem_of_getElem? h1,h2⟩) g1
  ·have:=W.inj h1 g1 (by rw [h2,g2])
   subst this;rw [Up.one H.par h3 g3]
section
variable{w w':World}{F S:Nat->Prop}{x:Nat}{D:DG}{P:List Int}{m:XM}{K:Value->World->Prop}
theorem XV.G5(h:XV w F x D P m){i:Nat}{nd:DN}(hi:D[i]? =some nd):Cells w ((⟨m.ib,0,none⟩:Addr).add (i*32)) nd.id.1:=by
 obtain⟨a,ha,_,hc⟩:=(bQ.hs h.row).at_ i nd.id (pW hi);cases ha;exact hc
theorem XV.Bc(h:XV w F x D P m){i:Nat}{nd:DN}(hi:D[i]? =some nd): ∃td,m.T[i]? =some td/\P[i]? =some td.parent:=by
 have eI:=(List.getElem?_eq_some_iff.1 hi).1;obtain⟨td,O3⟩:=Tr.dL (T:=m.T) (i:=i) (by rw [h.GY];exact eI);exact⟨td,O3,by rw [<-h.bj];exact Tr.iJ O3⟩
theorem o9(a:HT)(hK: ∀w' pb qb,Kept Nil w w'->w'.heap[pb]? =some (.cells #[.pointer (some ⟨x,0,none⟩)] dP (0,0))->w'.heap[qb]? =some (.cells a.1 ao (0,0))->w.heap.size<=pb->w.heap.size<=qb->K (.func (.func aI.id) #[] #[.pointer (some ⟨pb,0,none⟩),.pointer (some ⟨qb,0,none⟩)]) w'):
 aY prog dH.id #[.pointer (some ⟨x,0,none⟩),.agg a.1] w K:=by
 refine dH.of ?_;unfold dH.W;intro w3 w4;have k3:Kept Nil w w3:=(Kept.refl _ _).alloc _;have Zt:w3.heap[w.heap.size]? =some (.cells #[.pointer (some ⟨x,0,none⟩)] dP (0,0)):=aN w _;have k4:Kept Nil w3 w4:=(Kept.refl _ _).alloc _;have Rz:w4.heap[w3.heap.size]? =some (.cells a.1 ao (0,0)):=aN w3 _;clear_value w4;exact hK w4 _ _ (k3.trans k4 (fun _ _ h=>h)) (k4.heap Zt (fun h=>h)) Rz (Nat.le_refl _) k3.size
theorem xI{pb qb:Nat}{a:HT}{l:List HT}(hl:cj D P a l)(hD:D.length<=5000):
 jY prog aI.id #[] #[.pointer (some ⟨pb,0,none⟩),.pointer (some ⟨qb,0,none⟩)] (l.map om) (fun w=>XV w F x D P m/\w.heap[pb]? =some (.cells #[.pointer (some ⟨x,0,none⟩)] dP (0,0))/\w.heap[qb]? =some (.cells a.1 ao (0,0))):=by
 intro y I Q w0 hI hQ oc h0 nu;obtain⟨hX,JN,V0⟩:=oc 0 w0 h0;have W:=hX.W;have mF:=hX.kO;refine aI.of ?_;unfold aI.W;refine⟨_,by rw [az JN];rfl,a.1,⟨a.2.1,Cells.bC V0⟩,a.2.1,?_⟩;intro w6;have k6:Kept Nil w0 w6:=(Kept.refl _ _).alloc _;have oV:HS w6 (some ⟨w0.heap.size,0,none⟩) 1 [a]:=kV w0 a;clear_value w6;refine mn (hX.same k6) oV (by omega) fun w8 k8=>⟨_,rfl,?_⟩;have BN:=k6.trans k8 (fun _ _ h=>h);rcases hl with⟨rD,rfl⟩|⟨i,nd,ks,hi,hid,YU,rfl⟩
 ·exact Split.yes (by rw [decide_eq_false (by simpa using rD)];rfl) (.inl (hI 0 w0 w8 h0 BN))
 ·have hm:a∈ids D:=cR.2 ⟨nd,List.mem_of_getElem? hi,hid⟩
  refine Split.no (by rw [decide_eq_true (by simpa using hm)];rfl) ?_;intro w10;have oA:Kept Nil w8 w10:=(Kept.refl _ _).drew;clear_value w10;have wJ:=BN.trans oA (fun _ _ h=>h);have rI:=hX.same wJ;have lk:=rI.at_.sM a;rw [<-hid,W.pos_eq hi]at lk;rw [hid]at lk;refine⟨some ⟨x,0,none⟩,by rw [az (wJ.heap JN (fun h=>h))];rfl,_,rI.c2,a.1,⟨a.2.1,Cells.bC (wJ.heap V0 (fun h=>h))⟩,_,lk,?_⟩;have eI:i<P.length:=by rw [mF.len];exact(List.getElem?_eq_some_iff.1 hi).1
  have L8:=mF.par;refine aI.bU (I:=fun s v=> ∃(k:Nat) (dn rs:List Nat),s=(k:Int)/\ks=dn++rs/\Up P k rs/\k<P.length/\I dn.length v) (μ:=fun s _=>s.toNat) (s:=((i:Nat):Int)) ⟨i,[],ks,rfl,rfl,YU,eI,hI 0 w0 w10 h0 wJ⟩ ?_;rintro s v ⟨k,dn,rs,rfl,Sb,VL,Al,hv⟩;obtain⟨WM,Zp,hqv⟩:=oc _ v hv;rw [mF.len]at Al;obtain⟨nk,JP⟩: ∃nk,D[k]? =some nk:=⟨_,List.getElem?_eq_getElem Al⟩;refine⟨some ⟨x,0,none⟩,by rw [az Zp];rfl,_,_,_,WM.c3,⟨by omega,by omega⟩,nk.id.1,⟨nk.id.2.1,by rw [Int.toNat_natCast];exact WM.G5 JP⟩,?_⟩;have ek:((ks.map (kP D)).map om)[dn.length]? =some (om nk.id):=by
   rw [List.getElem?_map,List.getElem?_map,Sb,List.getElem?_append_right (Nat.le_refl _),Nat.sub_self,VL.head];simp [jO JP]
  refine(nu dn.length (om nk.id) v ek hv).mono ?_;rintro b v' ⟨ht,hf⟩;cases b with
  |false=>
   refine Split.no rfl ?_;rw [aP,aI.dD];exact .inr (hf rfl)
  |true=>
   refine Split.yes rfl ?_;have TE:=ht rfl;cases VL with
   |root=>
    refine Split.no rfl ?_;rw [aP,aI.dD];refine .inl ?_;rw [List.length_map,List.length_map,Sb,List.length_append];exact TE
   | @step _ j XX hj Eg=>
     have Sd:=(Tr.fI L8 (Tr.c8.2 hj)).1;refine Split.yes (decide_eq_true (by omega)) ?_;obtain⟨IS,RC,_⟩:=oc _ v' TE;obtain⟨td,O3,VO⟩:=IS.Bc JP;rw [hj]at VO;have Q8:(j:Int)=td.parent:=by simpa using VO
     refine⟨some ⟨x,0,none⟩,by rw [az RC];rfl,_,IS.c1,Tr.uw IS.T O3 (by omega) ⟨_,_,rfl,?_⟩⟩;rw [<-Q8];refine⟨(j:Int),rfl,⟨j,dn++ [k],XX,rfl,by rw [Sb];simp,Eg,by rw [mF.len];omega,?_⟩,by simp only;omega⟩;rw [List.length_append];exact TE
end
end Go.Proofs.YtnboahlopghcjaaGreatDoor
namespace Go.Proofs.YtnboahlopghcjaaGreatDoor
open Go.Proofs.Tryz
open Go Go.bp Go.RowKit
structure XN(w v:World)(r:HT)(own:Nat->Nat)(G T E I Z:Option Nat)(l:List HT):Prop where
 kp:Kept Nil w v
 gr: ∀g,G=some g-> ∃SG,xB v SG (fun _=>False) g [⟨r,[]⟩]/\ ∀k,SG k->w.heap.size<=k/\own k=1
 tr: ∀t,T=some t-> ∃ST,Tr.lj v ST t Tr.mM 0/\ ∀k,ST k->w.heap.size<=k/\k<v.heap.size/\own k=2
 mp: ∀b,E=some b->w.heap.size<=b/\own b=3/\IsMap v b l
 il: ∀b,I=some b->w.heap.size<=b/\own b=4/\v.heap[b]? =some (.cells (r.1.toList++ []).toArray ao (0,0))
 cv: ∀b,Z=some b->w.heap.size<=b/\own b=5/\dA v b (fun _=>none)
def tag(n t:Nat)(own:Nat->Nat)(k:Nat):Nat:=if n<=k then t else own k
theorem nE{n t k:Nat}{own:Nat->Nat}(h:k<n):tag n t own k=own k:=by unfold tag;rw [if_neg (by omega)]
theorem nH{n t k:Nat}{own:Nat->Nat}(h:n<=k):tag n t own k=t:=by unfold tag;rw [if_pos h]
section
variable{w v v':World}{r:HT}{own:Nat->Nat}{G T E I Z:Option Nat}{l:List HT}{K:Value->World->Prop}
theorem XN.grow(h:XN w v r own G T E I Z l)(t:Nat)(k:Kept Nil v v'):XN w v' r (tag v.heap.size t own) G T E I Z l:=by
 have hs:=k.size;refine⟨h.kp.trans k (fun _ _ h=>h),fun g e=>?_,fun g e=>?_,fun b e=>?_,fun b e=>?_,fun b e=>?_⟩
 ·obtain⟨SG,h1,h2⟩:=h.gr g e
  exact⟨SG,h1.same k,fun q hq=>⟨(h2 q hq).1,by rw [nE (by obtain⟨bl,c,mb,M,G⟩:=h1;exact G.low q (.inl hq))];exact(h2 q hq).2⟩⟩
 ·obtain⟨ST,h1,h2⟩:=h.tr g e
  exact⟨ST,h1.same k,fun q hq=>⟨(h2 q hq).1,by have:=(h2 q hq).2.1;omega,by rw [nE (h2 q hq).2.1];exact(h2 q hq).2.2⟩⟩
 ·obtain⟨h1,h2,h3⟩:=h.mp b e
  exact⟨h1,by rw [nE h3.lt];exact h2,h3.aG k (fun h=>h)⟩
 ·obtain⟨h1,h2,h3⟩:=h.il b e
  exact⟨h1,by rw [nE (aQ h3)];exact h2,k.heap h3 (fun h=>h)⟩
 ·obtain⟨h1,h2,h3⟩:=h.cv b e
  exact⟨h1,by rw [nE h3.lt];exact h2,h3.aG k (fun h=>h)⟩
theorem XN.dz(h:XN w v r own none T E I Z l){gb:Nat}(hG:xB v' (fun k=>v.heap.size<=k/\k<v'.heap.size) (fun _=>False) gb [⟨r,[]⟩])(k:Kept Nil v v'):XN w v' r (tag v.heap.size 1 own) (some gb) T E I Z l:=by
 have g:=h.grow 1 k;refine⟨g.kp,?_,g.tr,g.mp,g.il,g.cv⟩;intro g' e;cases e;have:=h.kp.size;exact⟨_,hG,fun q hq=>⟨by omega,nH hq.1⟩⟩
theorem XN.pO(h:XN w v r own G none E I Z l){t:Nat}(hT:Tr.lj v' (fun k=>v.heap.size<=k) t Tr.mM 0)(k:Kept Nil v v'):XN w v' r (tag v.heap.size 2 own) G (some t) E I Z l:=by
 have g:=h.grow 2 k;refine⟨g.kp,g.gr,?_,g.mp,g.il,g.cv⟩;intro t' e;cases e;have:=h.kp.size;exact⟨_,o0 hT,fun q hq=>⟨by omega,hq.2,nH hq.1⟩⟩
theorem XN.pP(h:XN w v r own G T none I Z []):XN w (v.alloc (.map #[] 0)) r (tag v.heap.size 3 own) G T (some v.heap.size) I Z []:=by
 have g:=h.grow 3 ((Kept.refl Nil v).alloc (.map #[] 0));refine⟨g.kp,g.gr,g.tr,?_,g.il,g.cv⟩;intro b e;cases e;exact⟨h.kp.size,nH (Nat.le_refl _),⟨#[],0,aN v _,trivial⟩⟩
theorem XN.kZ(h:XN w v r own G T E none Z l):XN w (v.alloc (.cells (r.1.toList++ []).toArray ao)) r (tag v.heap.size 4 own) G T E (some v.heap.size) Z l:=by
 have g:=h.grow 4 ((Kept.refl Nil v).alloc (.cells (r.1.toList++ []).toArray ao));refine⟨g.kp,g.gr,g.tr,g.mp,?_,g.cv⟩;intro b e;cases e;exact⟨h.kp.size,nH (Nat.le_refl _),aN v _⟩
theorem XN.kY(h:XN w v r own G T E I none l):XN w (v.alloc (.map #[] 0)) r (tag v.heap.size 5 own) G T E I (some v.heap.size) l:=by
 have g:=h.grow 5 ((Kept.refl Nil v).alloc (.map #[] 0));refine⟨g.kp,g.gr,g.tr,g.mp,g.il,?_⟩;intro b e;cases e;exact⟨h.kp.size,nH (Nat.le_refl _),dA.new v⟩
theorem XN.put{mb:Nat}(h:XN w v r own G T (some mb) I Z []): ∃v',(Instr.mapUpdate bE (.map (some mb)) (.agg r.1) (.int .i64 0)).run prog v=.ok () v'/\XN w v' r own G T (some mb) I Z [r]:=by
 obtain⟨h1,h2,h3⟩:=h.mp mb rfl;obtain⟨v',hr,hm,hk⟩:=h3.put (h:=r) (by simp);refine⟨v',hr,(h.kp.trans hk (fun k hk e=>by omega)),fun g e=>?_,fun g e=>?_,fun b e=>?_,fun b e=>?_,fun b e=>?_⟩
 ·obtain⟨SG,g1,g2⟩:=h.gr g e
  exact⟨SG,g1.aG hk (fun q hq e=>by have:=(g2 q hq).2;rw [e,h2]at this;cases this) (fun q hq=>hq.elim),g2⟩
 ·obtain⟨ST,g1,g2⟩:=h.tr g e
  exact⟨ST,g1.aG hk (fun q hq e=>by have:=(g2 q hq).2.2;rw [e,h2]at this;cases this),fun q hq=>⟨(g2 q hq).1,Nat.lt_of_lt_of_le (g2 q hq).2.1 hk.size,(g2 q hq).2.2⟩⟩
 ·cases e
  exact⟨h1,h2,hm⟩
 ·obtain⟨g1,g2,g3⟩:=h.il b e
  exact⟨g1,g2,hk.heap g3 (fun e=>by rw [e,h2]at g2;cases g2)⟩
 ·obtain⟨g1,g2,g3⟩:=h.cv b e
  exact⟨g1,g2,g3.aG hk (fun e=>by rw [e,h2]at g2;cases g2)⟩
theorem XN.fin{g t mb ib cb:Nat}{w0:World}(h:XN w v r own (some g) (some t) (some mb) (some ib) (some cb) [r])(hw:w0.heap.size<=w.heap.size):
 xA (v.alloc (.cells #[.pointer (some ⟨g,0,none⟩),.pointer (some ⟨t,0,none⟩),.map (some mb),.slice (some ⟨ib,0,none⟩) 1 1,.map (some cb)] cP)) (fun k=>w0.heap.size<=k/\k<(v.alloc (.cells #[.pointer (some ⟨g,0,none⟩),.pointer (some ⟨t,0,none⟩),.map (some mb),.slice (some ⟨ib,0,none⟩) 1 1,.map (some cb)] cP)).heap.size) (fun _=>False) v.heap.size [⟨r,[]⟩] [-1]:=by
 have hC:=aN v (.cells #[.pointer (some ⟨g,0,none⟩),.pointer (some ⟨t,0,none⟩),.map (some mb),.slice (some ⟨ib,0,none⟩) 1 1,.map (some cb)] cP);have kx:=(Kept.refl Nil v).alloc (.cells #[.pointer (some ⟨g,0,none⟩),.pointer (some ⟨t,0,none⟩),.map (some mb),.slice (some ⟨ib,0,none⟩) 1 1,.map (some cb)] cP);have hx:=aQ hC;generalize v.alloc (.cells #[.pointer (some ⟨g,0,none⟩),.pointer (some ⟨t,0,none⟩),.map (some mb),.slice (some ⟨ib,0,none⟩) 1 1,.map (some cb)] cP)=u at hC kx hx;obtain⟨SG,hG,gG⟩:=h.gr g rfl;obtain⟨ST,hT,gT⟩:=h.tr t rfl;obtain⟨m1,m2,m3⟩:=h.mp mb rfl;obtain⟨i1,i2,i3⟩:=h.il ib rfl;obtain⟨c1,c2,c3⟩:=h.cv cb rfl;have pK: ∀k,SG k->k<v.heap.size:=fun k e=>by obtain⟨bl,c,mb,M,G⟩:=hG;exact G.low k (.inl e)
 have sw:=h.kp.size;have lm:=m3.lt;have li:=aQ i3;have lc:=c3.lt;have Cv: ∀ {a b:HT},¬eB [(⟨r,[]⟩:DN)] a b:=uG r;refine⟨⟨g,t,mb,ib,1,cb,Tr.mM,0,SG,ST,fun _=>False⟩,⟨hC,hG.same kx,hT.same kx,Tr.wv,rfl,⟨Int.le_refl 0,by show(0:Int)<=_;simp⟩,m3.aG kx (fun h=>h),?_,⟨_,c3.aG kx (fun h=>h),fun y=>⟨[],.inl ⟨rfl,rfl⟩,fun c=>?_⟩⟩,?_,iT.root r,?_,?_,?_,?_,?_,?_⟩,?_⟩
 ·have e:bV [r]=(r.1.toList++ []).toArray.toList:=by simp [bV]
  show Row _ _ _ _ _ _ _ (bV [r])
  rw [e];exact Row.made (kx.heap i3 (fun h=>h)) (Nat.zero_le _) (by simp [r.2.1]) (by show 1<=maxLen;decide)
 ·simp only [List.not_mem_nil,false_iff]
  exact fun hc=>Cv hc.1
 ·refine⟨rfl,rfl,fun i p nd hi hp=>?_⟩
  cases i with
  |zero=>omega
  |succ i=>simp at hp
 ·exact fun k e=>⟨fun e'=>by have:=(gG k e).2;have:=(gT k e').2.2;omega,fun e'=>e'.elim⟩
 ·exact fun k e e'=>e'.elim
 ·exact fun k e=>e.elim
 ·intro k e
  have key:v.heap.size<=k\/3<=own k:=by
   rcases e with e|e|e|e
   ·exact .inl (by omega)
   ·exact .inr (by have e:k=mb:=e;rw [e];omega)
   ·exact .inr (by have e:k=ib:=e;rw [e];omega)
   ·exact .inr (by have e:k=cb:=e;rw [e];omega)
  refine⟨fun e'=>?_,fun e'=>?_,fun e'=>e'.elim,fun e'=>e'.elim⟩
  ·have h1:=(gG k e').2
   have h2:=pK k e';omega
  ·have h1:=(gT k e').2.2
   have h2:=(gT k e').2.1;omega
 ·refine⟨by show v.heap.size≠mb;omega,by show v.heap.size≠ib;omega,by show v.heap.size≠cb;omega,fun e=>?_,fun e=>?_,fun e=>?_⟩
  ·have e:mb=ib:=e
   rw [e]at m2;omega
  ·have e:mb=cb:=e
   rw [e]at m2;omega
  ·have e:ib=cb:=e
   rw [e]at i2;omega
 ·intro k e
  rcases e with e|e
  ·rcases e with e|e|e|e
   ·have:=pK k e;omega
   ·have:=(gT k e).2.1;omega
   ·exact e.elim
   ·rcases e with e|e|e|e
    ·omega
    ·have e:k=mb:=e;omega
    ·have e:k=ib:=e;omega
    ·have e:k=cb:=e;omega
  ·exact e.elim
 ·intro k e
  rcases e with e|e|e|e
  ·have:=pK k e;have:=(gG k e).1;omega
  ·have:=(gT k e).1;have:=(gT k e).2.1;omega
  ·exact e.elim
  ·rcases e with e|e|e|e
   ·omega
   ·have e:k=mb:=e;omega
   ·have e:k=ib:=e;omega
   ·have e:k=cb:=e;omega
structure XD(w o:World)(r:HT)(K:Value->World->Prop):Prop where
 cs: ∀ {v:World},Kept Nil o v-> ∃cs:Array Value,(.agg r.1:Value)=.agg cs/\cs.size=32/\Cells v (⟨w.heap.size,0,none⟩:Addr) cs
 fin: ∀ {v:World} {own:Nat->Nat} {g t mb ib cb:Nat},XN o v r own (some g) (some t) (some mb) (some ib) (some cb) [r]->K (.pointer (some ⟨v.heap.size,0,none⟩)) (v.alloc (.cells #[.pointer (some ⟨g,0,none⟩),.pointer (some ⟨t,0,none⟩),.map (some mb),.slice (some ⟨ib,0,none⟩) 1 1,.map (some cb)] cP))
end
section
variable{w o v e i z:World}{r:HT}{own:Nat->Nat}{g t:Nat}{K:Value->World->Prop}
theorem n1(D:XD w o r K)(h:XN o v r own (some g) (some t) (some e.heap.size) (some i.heap.size) (some z.heap.size) [r]):an.N1 (some ⟨g,0,none⟩) (some ⟨t,0,none⟩) e i z K v:=by
 unfold an.N1;exact D.fin h
theorem n2(D:XD w o r K)(h:XN o v r own (some g) (some t) (some e.heap.size) (some i.heap.size) none [r]):an.N2 (some ⟨g,0,none⟩) (some ⟨t,0,none⟩) e i K v:=by
 unfold an.N2;exact let n:=h.kY;n1 D n
theorem n3(D:XD w o r K)(h:XN o v r own (some g) (some t) (some e.heap.size) none (some z.heap.size) [r]):an.N3 r.1 (some ⟨g,0,none⟩) (some ⟨t,0,none⟩) e z K v:=by
 unfold an.N3;exact let n:=h.kZ;⟨r.2.1,n1 D n⟩
theorem n4(D:XD w o r K)(h:XN o v r own (some g) (some t) (some e.heap.size) none none [r]):an.N4 r.1 (some ⟨g,0,none⟩) (some ⟨t,0,none⟩) e w K v:=by
 unfold an.N4;exact⟨(let n:=h.kZ;⟨r.2.1,n2 D n⟩),(let n:=h.kY;⟨D.cs n.kp,n3 D n⟩)⟩
theorem n5(D:XD w o r K)(h:XN o v r own (some g) (some t) (some e.heap.size) (some i.heap.size) (some z.heap.size) []):an.N5 e r.1 (some ⟨g,0,none⟩) (some ⟨t,0,none⟩) i z K v:=by
 unfold an.N5;exact let ⟨u,q,n⟩:=h.put;⟨u,q,n1 D n⟩
theorem n6(D:XD w o r K)(h:XN o v r own (some g) (some t) (some e.heap.size) (some i.heap.size) none []):an.N6 e r.1 (some ⟨g,0,none⟩) (some ⟨t,0,none⟩) i w K v:=by
 unfold an.N6;exact⟨(let ⟨u,q,n⟩:=h.put;⟨u,q,n2 D n⟩),(let n:=h.kY;⟨D.cs n.kp,n5 D n⟩)⟩
theorem n7(D:XD w o r K)(h:XN o v r own (some g) (some t) (some e.heap.size) none (some z.heap.size) []):an.N7 e r.1 r.1 w (some ⟨g,0,none⟩) (some ⟨t,0,none⟩) z K v:=by
 unfold an.N7;exact⟨(let ⟨u,q,n⟩:=h.put;⟨u,q,D.cs n.kp,n3 D n⟩),(let n:=h.kZ;⟨r.2.1,D.cs n.kp,n5 D n⟩)⟩
theorem n8(D:XD w o r K)(h:XN o v r own (some g) (some t) (some e.heap.size) none none []):an.N8 e r.1 r.1 w (some ⟨g,0,none⟩) (some ⟨t,0,none⟩) K v:=by
 unfold an.N8;exact⟨(let ⟨u,q,n⟩:=h.put;⟨u,q,D.cs n.kp,n4 D n⟩),(let n:=h.kZ;⟨r.2.1,D.cs n.kp,n6 D n⟩),(let n:=h.kY;⟨D.cs n.kp,D.cs n.kp,n7 D n⟩)⟩
theorem n9(D:XD w o r K)(h:XN o v r own (some g) (some t) none (some i.heap.size) (some z.heap.size) []):an.N9 r.1 w (some ⟨g,0,none⟩) (some ⟨t,0,none⟩) i z K v:=by
 unfold an.N9;exact let n:=h.pP;⟨D.cs n.kp,n5 D n⟩
theorem n10(D:XD w o r K)(h:XN o v r own (some g) (some t) none (some i.heap.size) none []):an.Kl r.1 w (some ⟨g,0,none⟩) (some ⟨t,0,none⟩) i K v:=by
 unfold an.Kl;exact⟨(let n:=h.pP;⟨D.cs n.kp,n6 D n⟩),(let n:=h.kY;⟨D.cs n.kp,n9 D n⟩)⟩
theorem n11(D:XD w o r K)(h:XN o v r own (some g) (some t) none none (some z.heap.size) []):an.PK r.1 w r.1 (some ⟨g,0,none⟩) (some ⟨t,0,none⟩) z K v:=by
 unfold an.PK;exact⟨(let n:=h.pP;⟨D.cs n.kp,D.cs n.kp,n7 D n⟩),(let n:=h.kZ;⟨r.2.1,D.cs n.kp,n9 D n⟩)⟩
theorem n12(D:XD w o r K)(h:XN o v r own (some g) (some t) none none none []):an.Jj r.1 w r.1 (some ⟨g,0,none⟩) (some ⟨t,0,none⟩) K v:=by
 unfold an.Jj;exact⟨(let n:=h.pP;⟨D.cs n.kp,D.cs n.kp,n8 D n⟩),(let n:=h.kZ;⟨r.2.1,D.cs n.kp,n10 D n⟩),(let n:=h.kY;⟨D.cs n.kp,D.cs n.kp,n11 D n⟩)⟩
theorem n13(D:XD w o r K)(h:XN o v r own (some g) none (some e.heap.size) (some i.heap.size) (some z.heap.size) [r]):an.E5 (some ⟨g,0,none⟩) e i z K v:=by
 unfold an.E5;exact Tr.cY fun _ _ q k=>let n:=h.pO q k;⟨_,rfl,n1 D n⟩
theorem n14(D:XD w o r K)(h:XN o v r own (some g) none (some e.heap.size) (some i.heap.size) none [r]):an.Ji (some ⟨g,0,none⟩) e i K v:=by
 unfold an.Ji;exact⟨(Tr.cY fun _ _ q k=>let n:=h.pO q k;⟨_,rfl,n2 D n⟩),(let n:=h.kY;n13 D n)⟩
theorem n15(D:XD w o r K)(h:XN o v r own (some g) none (some e.heap.size) none (some z.heap.size) [r]):an.OE r.1 w (some ⟨g,0,none⟩) e z K v:=by
 unfold an.OE;exact⟨(Tr.cY fun _ _ q k=>let n:=h.pO q k;⟨_,rfl,D.cs n.kp,n3 D n⟩),(let n:=h.kZ;⟨r.2.1,n13 D n⟩)⟩
theorem n16(D:XD w o r K)(h:XN o v r own (some g) none (some e.heap.size) none none [r]):an.Kk r.1 w (some ⟨g,0,none⟩) e K v:=by
 unfold an.Kk;exact⟨(Tr.cY fun _ _ q k=>let n:=h.pO q k;⟨_,rfl,D.cs n.kp,n4 D n⟩),(let n:=h.kZ;⟨r.2.1,n14 D n⟩),(let n:=h.kY;⟨D.cs n.kp,n15 D n⟩)⟩
theorem n17(D:XD w o r K)(h:XN o v r own (some g) none (some e.heap.size) (some i.heap.size) (some z.heap.size) []):an.Kj r.1 w e (some ⟨g,0,none⟩) i z K v:=by
 unfold an.Kj;exact⟨(Tr.cY fun _ _ q k=>let n:=h.pO q k;⟨_,rfl,D.cs n.kp,n5 D n⟩),(let ⟨u,q,n⟩:=h.put;⟨u,q,n13 D n⟩)⟩
theorem n18(D:XD w o r K)(h:XN o v r own (some g) none (some e.heap.size) (some i.heap.size) none []):an.OD r.1 w e (some ⟨g,0,none⟩) i K v:=by
 unfold an.OD;exact⟨(Tr.cY fun _ _ q k=>let n:=h.pO q k;⟨_,rfl,D.cs n.kp,n6 D n⟩),(let ⟨u,q,n⟩:=h.put;⟨u,q,n14 D n⟩),(let n:=h.kY;⟨D.cs n.kp,n17 D n⟩)⟩
theorem n19(D:XD w o r K)(h:XN o v r own (some g) none (some e.heap.size) none (some z.heap.size) []):an.Dq r.1 w r.1 e (some ⟨g,0,none⟩) z K v:=by
 unfold an.Dq;exact⟨(Tr.cY fun _ _ q k=>let n:=h.pO q k;⟨_,rfl,D.cs n.kp,D.cs n.kp,n7 D n⟩),(let ⟨u,q,n⟩:=h.put;⟨u,q,D.cs n.kp,n15 D n⟩),(let n:=h.kZ;⟨r.2.1,D.cs n.kp,n17 D n⟩)⟩
theorem n20(D:XD w o r K)(h:XN o v r own (some g) none (some e.heap.size) none none []):an.GA r.1 w r.1 e (some ⟨g,0,none⟩) K v:=by
 unfold an.GA;exact⟨(Tr.cY fun _ _ q k=>let n:=h.pO q k;⟨_,rfl,D.cs n.kp,D.cs n.kp,n8 D n⟩),(let ⟨u,q,n⟩:=h.put;⟨u,q,D.cs n.kp,n16 D n⟩),(let n:=h.kZ;⟨r.2.1,D.cs n.kp,n18 D n⟩),(let n:=h.kY;⟨D.cs n.kp,D.cs n.kp,n19 D n⟩)⟩
theorem n21(D:XD w o r K)(h:XN o v r own (some g) none none (some i.heap.size) (some z.heap.size) []):an.Gz r.1 w (some ⟨g,0,none⟩) i z K v:=by
 unfold an.Gz;exact⟨(Tr.cY fun _ _ q k=>let n:=h.pO q k;⟨_,rfl,D.cs n.kp,n9 D n⟩),(let n:=h.pP;⟨D.cs n.kp,n17 D n⟩)⟩
theorem n22(D:XD w o r K)(h:XN o v r own (some g) none none (some i.heap.size) none []):an.Ki r.1 w (some ⟨g,0,none⟩) i K v:=by
 unfold an.Ki;exact⟨(Tr.cY fun _ _ q k=>let n:=h.pO q k;⟨_,rfl,D.cs n.kp,n10 D n⟩),(let n:=h.pP;⟨D.cs n.kp,n18 D n⟩),(let n:=h.kY;⟨D.cs n.kp,n21 D n⟩)⟩
theorem n23(D:XD w o r K)(h:XN o v r own (some g) none none none (some z.heap.size) []):an.PJ r.1 w r.1 (some ⟨g,0,none⟩) z K v:=by
 unfold an.PJ;exact⟨(Tr.cY fun _ _ q k=>let n:=h.pO q k;⟨_,rfl,D.cs n.kp,D.cs n.kp,n11 D n⟩),(let n:=h.pP;⟨D.cs n.kp,D.cs n.kp,n19 D n⟩),(let n:=h.kZ;⟨r.2.1,D.cs n.kp,n21 D n⟩)⟩
theorem n24(D:XD w o r K)(h:XN o v r own (some g) none none none none []):an.OC r.1 w r.1 (some ⟨g,0,none⟩) K v:=by
 unfold an.OC;exact⟨(Tr.cY fun _ _ q k=>let n:=h.pO q k;⟨_,rfl,D.cs n.kp,D.cs n.kp,n12 D n⟩),(let n:=h.pP;⟨D.cs n.kp,D.cs n.kp,n20 D n⟩),(let n:=h.kZ;⟨r.2.1,D.cs n.kp,n22 D n⟩),(let n:=h.kY;⟨D.cs n.kp,D.cs n.kp,n23 D n⟩)⟩
theorem n25(D:XD w o r K)(h:XN o v r own none none (some e.heap.size) (some i.heap.size) (some z.heap.size) [r]):an.OB r.1 e i z K v:=by
 unfold an.OB;exact dN r fun _ _ q k=>let n:=h.dz q k;⟨_,rfl,n13 D n⟩
theorem n26(D:XD w o r K)(h:XN o v r own none none (some e.heap.size) (some i.heap.size) none [r]):an.PI r.1 e i w K v:=by
 unfold an.PI;exact⟨(dN r fun _ _ q k=>let n:=h.dz q k;⟨_,rfl,n14 D n⟩),(let n:=h.kY;⟨D.cs n.kp,n25 D n⟩)⟩
theorem n27(D:XD w o r K)(h:XN o v r own none none (some e.heap.size) none (some z.heap.size) [r]):an.Jh r.1 r.1 w e z K v:=by
 unfold an.Jh;exact⟨(dN r fun _ _ q k=>let n:=h.dz q k;⟨_,rfl,D.cs n.kp,n15 D n⟩),(let n:=h.kZ;⟨r.2.1,D.cs n.kp,n25 D n⟩)⟩
theorem n28(D:XD w o r K)(h:XN o v r own none none (some e.heap.size) none none [r]):an.Uo r.1 r.1 w e K v:=by
 unfold an.Uo;exact⟨(dN r fun _ _ q k=>let n:=h.dz q k;⟨_,rfl,D.cs n.kp,n16 D n⟩),(let n:=h.kZ;⟨r.2.1,D.cs n.kp,n26 D n⟩),(let n:=h.kY;⟨D.cs n.kp,D.cs n.kp,n27 D n⟩)⟩
theorem n29(D:XD w o r K)(h:XN o v r own none none (some e.heap.size) (some i.heap.size) (some z.heap.size) []):an.Oz r.1 r.1 w e i z K v:=by
 unfold an.Oz;exact⟨(dN r fun _ _ q k=>let n:=h.dz q k;⟨_,rfl,D.cs n.kp,n17 D n⟩),(let ⟨u,q,n⟩:=h.put;⟨u,q,D.cs n.kp,n25 D n⟩)⟩
theorem n30(D:XD w o r K)(h:XN o v r own none none (some e.heap.size) (some i.heap.size) none []):an.PH r.1 r.1 w e i K v:=by
 unfold an.PH;exact⟨(dN r fun _ _ q k=>let n:=h.dz q k;⟨_,rfl,D.cs n.kp,n18 D n⟩),(let ⟨u,q,n⟩:=h.put;⟨u,q,D.cs n.kp,n26 D n⟩),(let n:=h.kY;⟨D.cs n.kp,D.cs n.kp,n29 D n⟩)⟩
theorem n31(D:XD w o r K)(h:XN o v r own none none (some e.heap.size) none (some z.heap.size) []):an.PF r.1 r.1 w r.1 e z K v:=by
 unfold an.PF;exact⟨(dN r fun _ _ q k=>let n:=h.dz q k;⟨_,rfl,D.cs n.kp,D.cs n.kp,n19 D n⟩),(let ⟨u,q,n⟩:=h.put;⟨u,q,D.cs n.kp,D.cs n.kp,n27 D n⟩),(let n:=h.kZ;⟨r.2.1,D.cs n.kp,D.cs n.kp,n29 D n⟩)⟩
theorem n32(D:XD w o r K)(h:XN o v r own none none (some e.heap.size) none none []):an.Un r.1 r.1 w r.1 e K v:=by
 unfold an.Un;exact⟨(dN r fun _ _ q k=>let n:=h.dz q k;⟨_,rfl,D.cs n.kp,D.cs n.kp,n20 D n⟩),(let ⟨u,q,n⟩:=h.put;⟨u,q,D.cs n.kp,D.cs n.kp,n28 D n⟩),(let n:=h.kZ;⟨r.2.1,D.cs n.kp,D.cs n.kp,n30 D n⟩),(let n:=h.kY;⟨D.cs n.kp,D.cs n.kp,D.cs n.kp,n31 D n⟩)⟩
theorem n33(D:XD w o r K)(h:XN o v r own none none none (some i.heap.size) (some z.heap.size) []):an.PE r.1 r.1 w i z K v:=by
 unfold an.PE;exact⟨(dN r fun _ _ q k=>let n:=h.dz q k;⟨_,rfl,D.cs n.kp,n21 D n⟩),(let n:=h.pP;⟨D.cs n.kp,D.cs n.kp,n29 D n⟩)⟩
theorem n34(D:XD w o r K)(h:XN o v r own none none none (some i.heap.size) none []):an.Um r.1 r.1 w i K v:=by
 unfold an.Um;exact⟨(dN r fun _ _ q k=>let n:=h.dz q k;⟨_,rfl,D.cs n.kp,n22 D n⟩),(let n:=h.pP;⟨D.cs n.kp,D.cs n.kp,n30 D n⟩),(let n:=h.kY;⟨D.cs n.kp,D.cs n.kp,n33 D n⟩)⟩
theorem n35(D:XD w o r K)(h:XN o v r own none none none none (some z.heap.size) []):an.Ul r.1 r.1 w r.1 z K v:=by
 unfold an.Ul;exact⟨(dN r fun _ _ q k=>let n:=h.dz q k;⟨_,rfl,D.cs n.kp,D.cs n.kp,n23 D n⟩),(let n:=h.pP;⟨D.cs n.kp,D.cs n.kp,D.cs n.kp,n31 D n⟩),(let n:=h.kZ;⟨r.2.1,D.cs n.kp,D.cs n.kp,n33 D n⟩)⟩
theorem n36(D:XD w o r K)(h:XN o v r own none none none none none []):an.Uk r.1 r.1 w r.1 K v:=by
 unfold an.Uk;exact⟨(dN r fun _ _ q k=>let n:=h.dz q k;⟨_,rfl,D.cs n.kp,D.cs n.kp,n24 D n⟩),(let n:=h.pP;⟨D.cs n.kp,D.cs n.kp,D.cs n.kp,n32 D n⟩),(let n:=h.kZ;⟨r.2.1,D.cs n.kp,D.cs n.kp,n34 D n⟩),(let n:=h.kY;⟨D.cs n.kp,D.cs n.kp,D.cs n.kp,n35 D n⟩)⟩
end
section
variable{K:Value->World->Prop}
theorem fu{w:World}(r:HT)(hK: ∀v x,xA v (fun k=>w.heap.size<=k/\k<v.heap.size) (fun _=>False) x [⟨r,[]⟩] [-1]->Kept Nil w v->K (.pointer (some ⟨x,0,none⟩)) v):
 aY prog an.id #[.agg r.1] w K:=by
 refine an.of ?_;unfold an.W;intro UG Dt;have k2:Kept Nil w UG:=(Kept.refl _ _).alloc _;have oB:UG.heap[w.heap.size]? =some (.cells r.1 ao (0,0)):=aN w _;have k3:Kept Nil w Dt:=k2.drew;have nD:Dt.heap[w.heap.size]? =some (.cells r.1 ao (0,0)):=oB;clear_value Dt;have N_3:XN Dt Dt r (fun _=>0) none none none none none []:=⟨Kept.refl _ _,(fun b e=>by cases e),(fun b e=>by cases e),(fun b e=>by cases e),(fun b e=>by cases e),(fun b e=>by cases e)⟩;have kI: ∀ {v:World},Kept Nil Dt v-> ∃cs:Array Value,(.agg r.1:Value)=.agg cs/\cs.size=32/\Cells v (⟨w.heap.size,0,none⟩:Addr) cs:=fun k=>⟨r.1,rfl,r.2.1,Cells.bC (k.heap nD (fun h=>h))⟩;have qR: ∀ {v:World} {own:Nat->Nat} {g t mb ib cb:Nat},XN Dt v r own (some g) (some t) (some mb) (some ib) (some cb) [r]->K (.pointer (some ⟨v.heap.size,0,none⟩)) (v.alloc (.cells #[.pointer (some ⟨g,0,none⟩),.pointer (some ⟨t,0,none⟩),.map (some mb),.slice (some ⟨ib,0,none⟩) 1 1,.map (some cb)] cP)):=
  fun h=>hK _ _ (h.fin k3.size) ((k3.trans h.kp (fun _ _ h=>h)).alloc _)
 have c3:r.1.size=32/\Cells Dt (⟨w.heap.size,0,none⟩:Addr) r.1:=⟨r.2.1,Cells.bC nD⟩;refine⟨r.1,c3,r.1,c3,r.1,c3,?_⟩;have D:XD w Dt r K:=⟨kI,qR⟩;exact n36 D N_3
end
end Go.Proofs.YtnboahlopghcjaaGreatDoor
