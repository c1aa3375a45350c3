import Derived.Test.YtnboahlopghcjaaGreatDoorMG
import Derived.Test.YtnboahlopghcjaaGreatDoorMH
import Derived.Test.YtnboahlopghcjaaGreatDoorME
import Derived.Laws.AppendOwn
set_option linter.unusedVariables false
namespace Go.Proofs.YtnboahlopghcjaaGreatDoor
open Go.Proofs.Tryz
open Go Go.bV
open Tr (jE)
structure qZ(D:DG)(P:List Int):Prop where
 len:P.length=D.length
 root:P[0]? =some (-1)
 up: ∀(i:Nat) (p:Int) nd,0<i->P[i]? =some p->D[i]? =some nd-> ∃(j:Nat) (m:DN),p=(j:Int)/\j<i/\D[j]? =some m/\m.id∈nd.ps
def Ch(D:DG)(P:List Int)(a b:HT):Prop:= ∃(i k:Nat) (ni nk:DN),D[i]? =some ni/\ni.id=b/\D[k]? =some nk/\nk.id=a/\jE P i k
def kM(D:DG)(P:List Int)(s c:HT):Prop:= ∃(i j:Nat) (ni m:DN),D[i]? =some ni/\ni.id=c/\P[i]? =some (j:Int)/\D[j]? =some m/\m.id=s
def Mi(D:DG)(P:List Int)(h c:HT):Prop:=eZ D h c/\ ∃s,kM D P s c/\h≠s/\ ¬eZ D h s
section
variable{D:DG}{P:List Int}
theorem qZ.par(H:qZ D P):Tr.nn P:=⟨H.root,fun i p hi hp=>by
 have dP:=(List.getElem?_eq_some_iff.1 hp).1;rw [H.len]at dP;obtain⟨j,m,h1,h2,_⟩:=H.up i p _ hi hp (List.getElem?_eq_getElem dP);exact⟨j,h2,h1⟩⟩
theorem kM.par(H:qZ D P){s c:HT}(h:kM D P s c):nn D s c:=by
 obtain⟨i,j,ni,m,h1,rfl,h3,h4,rfl⟩:=h;have hi:0<i:=by
  rcases Nat.eq_zero_or_pos i with rfl|h
  ·rw [H.root]at h3;simp only [Option.some.injEq]at h3;omega
  ·exact h
 obtain⟨j',m',e,_,h5,h6⟩:=H.up i _ ni hi h3 h1;have:j'=j:=by omega
 subst this;rw [h4]at h5;cases h5;exact⟨ni,List.mem_of_getElem? h1,rfl,h6⟩
theorem kM.one(W:jw D){s s' c:HT}(h:kM D P s c)(h':kM D P s' c):s=s':=by
 obtain⟨i,j,ni,m,h1,rfl,h3,h4,rfl⟩:=h;obtain⟨i',j',ni',m',sF,e,C0,WV,rfl⟩:=h';have:=W.inj h1 sF e.symm;subst this;rw [h3]at C0;simp only [Option.some.injEq]at C0;have:j=j':=by omega
 subst this;rw [h4]at WV;cases WV;rfl
theorem kM.ex(H:qZ D P){i:Nat}{ni:DN}(hi:0<i)(h:D[i]? =some ni): ∃(j:Nat) (m:DN),j<i/\P[i]? =some (j:Int)/\D[j]? =some m/\kM D P m.id ni.id:=by
 have dP:=(List.getElem?_eq_some_iff.1 h).1;obtain⟨p,hp⟩: ∃p,P[i]? =some p:=⟨_,List.getElem?_eq_getElem (by rw [H.len];exact dP)⟩;obtain⟨j,m,rfl,hj,hm,_⟩:=H.up i p ni hi hp h;exact⟨j,m,hj,hp,hm,i,j,ni,m,h,rfl,hp,hm,rfl⟩
theorem Ch.refl(H:qZ D P){a:HT}(h:a∈ids D):Ch D P a a:=by
 obtain⟨nd,fw,e⟩:=dB.1 h;obtain⟨i,hi⟩:=List.mem_iff_getElem?.1 fw;exact⟨i,i,nd,nd,hi,e,hi,e,.refl (by rw [H.len];exact(List.getElem?_eq_some_iff.1 hi).1)⟩
theorem Ch.mem{a b:HT}(h:Ch D P a b):a∈ids D/\b∈ids D:=by
 obtain⟨i,k,ni,nk,h1,h2,h3,h4,_⟩:=h;exact⟨dB.2 ⟨nk,List.mem_of_getElem? h3,h4⟩,dB.2 ⟨ni,List.mem_of_getElem? h1,h2⟩⟩
theorem Ch.step(W:jw D){a s c:HT}(hs:kM D P s c)(h:Ch D P a s):Ch D P a c:=by
 obtain⟨i,j,ni,m,h1,rfl,h3,h4,rfl⟩:=hs;obtain⟨j',k,nj,nk,g1,g2,g3,g4,g5⟩:=h;have:=W.inj g1 h4 g2;subst this;exact⟨i,k,ni,nk,h1,rfl,g3,g4,.step h3 g5⟩
theorem Ch.Db(W:jw D)(H:qZ D P){a b:HT}(h:Ch D P a b):a=b\/eZ D a b:=by
 obtain⟨i,k,ni,nk,h1,rfl,h3,rfl,h5⟩:=h
 induction h5 generalizing ni with
 |refl _=>rw [h1]at h3;cases h3;exact .inl rfl
 | @step i j k hj hu ih=>
   have ri:=hu.lt;rw [H.len]at ri;obtain⟨m,hm⟩: ∃m,D[j]? =some m:=⟨_,List.getElem?_eq_getElem ri⟩;have hp:nn D m.id ni.id:=kM.par H ⟨i,j,ni,m,h1,rfl,hj,hm,rfl⟩;rcases ih m hm h3 with e|e
   ·rw [e];exact .inr (.one hp)
   ·exact .inr (.more e hp)
theorem HZ(W:jw D)(H:qZ D P){a b:HT}(fG:a≠b):eZ D a b↔Ch D P a b\/ ∃c,Mi D P a c/\Ch D P c b:=by
 constructor
 ·intro h
  obtain⟨nb,Ti,e⟩:=dB.1 (h.mem W).2;obtain⟨i,hb⟩:=List.mem_iff_getElem?.1 Ti;clear Ti;subst e
  induction i using Nat.strongRecOn generalizing nb with
  |_ i ih=>
   have hi:0<i:=by
    rcases Nat.eq_zero_or_pos i with rfl|h0
    ·exfalso
     obtain⟨x,y,mx,my,nU,_,hy,_,e2⟩:=h.at_ W;have:=W.inj hy hb e2;omega
    ·exact h0
   obtain⟨j,m,hj,_,hm,hs⟩:=kM.ex H hi hb;by_cases e1:a=m.id
   ·exact .inl (Ch.step W hs (by rw [e1];exact Ch.refl H (dB.2 ⟨m,List.mem_of_getElem? hm,rfl⟩)))
   ·by_cases e2:eZ D a m.id
    ·rcases ih j hj m hm e1 e2 with e3|⟨c,e3,e4⟩
     ·exact .inl (Ch.step W hs e3)
     ·exact .inr ⟨c,e3,Ch.step W hs e4⟩
    ·exact .inr ⟨nb.id,⟨h,m.id,hs,e1,e2⟩,Ch.refl H (dB.2 ⟨nb,List.mem_of_getElem? hb,rfl⟩)⟩
 ·rintro(h|⟨c,⟨h1,_⟩,h2⟩)
  ·exact(h.Db W H).resolve_left fG
  ·rcases h2.Db W H with e|e
   ·rw [<-e];exact h1
   ·exact h1.trans e
theorem qZ.snoc(H:qZ D P){nd:DN}{j:Nat}{m:DN}(hj:D[j]? =some m)(hm:m.id∈nd.ps)(ja:0<D.length):qZ (D++ [nd]) (P++ [(j:Int)]) where
 len:=by simp [H.len]
 root:=by rw [List.getElem?_append_left (by rw [H.len];exact ja)];exact H.root
 up:=fun i p nd' hi hp fw=>by
  have ri:=(List.getElem?_eq_some_iff.1 hj).1;by_cases h:i<D.length
  ·rw [List.getElem?_append_left (by rw [H.len];exact h)]at hp
   rw [List.getElem?_append_left h]at fw;obtain⟨j',m',e,h1,h2,h3⟩:=H.up i p nd' hi hp fw;exact⟨j',m',e,h1,by rw [List.getElem?_append_left (by omega)];exact h2,h3⟩
  ·have dP:=(List.getElem?_eq_some_iff.1 fw).1
   have e:i=D.length:=by simp at dP;omega
   subst e;rw [<-H.len]at hp;simp at hp fw;subst hp fw;exact⟨j,m,rfl,ri,by rw [List.getElem?_append_left ri];exact hj,hm⟩
theorem nt(W:jw D)(H:qZ D P){nd:DN}(hn:nd.id∉ids D){j:Nat}{m:DN}(hj:D[j]? =some m){s c:HT}:
 kM (D++ [nd]) (P++ [(j:Int)]) s c↔kM D P s c\/(c=nd.id/\s=m.id):=by
 have ri:=(List.getElem?_eq_some_iff.1 hj).1;constructor
 ·rintro⟨i,k,ni,mk,h1,rfl,h3,h4,rfl⟩
  by_cases h:i<D.length
  ·rw [List.getElem?_append_left h]at h1
   rw [List.getElem?_append_left (by rw [H.len];exact h)]at h3;have hk:k<D.length:=by
    rcases Nat.eq_zero_or_pos i with rfl|h0
    ·rw [H.root]at h3;simp only [Option.some.injEq]at h3;omega
    ·obtain⟨k',_,e,h5,_⟩:=H.up i _ ni h0 h3 h1
     omega
   rw [List.getElem?_append_left hk]at h4;exact .inl ⟨i,k,ni,mk,h1,rfl,h3,h4,rfl⟩
  ·have dP:=(List.getElem?_eq_some_iff.1 h1).1
   have e:i=D.length:=by simp at dP;omega
   subst e;have C0:=h3;rw [<-H.len]at C0;simp at h1 C0;subst h1;have:k=j:=by omega
   subst this;rw [List.getElem?_append_left ri,hj]at h4;cases h4;exact .inr ⟨rfl,rfl⟩
 ·rintro(⟨i,k,ni,mk,h1,rfl,h3,h4,rfl⟩|⟨rfl,rfl⟩)
  ·have hi:=(List.getElem?_eq_some_iff.1 h1).1
   have hk:=(List.getElem?_eq_some_iff.1 h4).1;exact⟨i,k,ni,mk,by rw [List.getElem?_append_left hi];exact h1,rfl,by rw [List.getElem?_append_left (by rw [H.len];exact hi)];exact h3,by rw [List.getElem?_append_left hk];exact h4,rfl⟩
  ·exact⟨D.length,j,nd,m,by simp,rfl,by rw [<-H.len];simp,by rw [List.getElem?_append_left ri];exact hj,rfl⟩
theorem HM(W:jw D)(H:qZ D P){nd:DN}(hn:nd.id∉ids D)(fN: ∀p∈nd.ps,p∈ids D){j:Nat}{m:DN}(hj:D[j]? =some m){h c:HT}:
 Mi (D++ [nd]) (P++ [(j:Int)]) h c↔Mi D P h c\/(c=nd.id/\eZ (D++ [nd]) h nd.id/\h≠m.id/\ ¬eZ D h m.id):=by
 have hm:m.id∈ids D:=dB.2 ⟨m,List.mem_of_getElem? hj,rfl⟩;have key: ∀ {s c},kM D P s c->s∈ids D/\c∈ids D:=fun hs=>(eZ.one (kM.par H hs)).mem W;constructor
 ·rintro⟨h1,s,hs,h2,h3⟩
  rcases(nt W H hn hj).1 hs with hs|⟨rfl,rfl⟩
  ·obtain⟨g1,g2⟩:=key hs
   exact .inl ⟨(iP W hn g2).1 h1,s,hs,h2,fun e=>h3 ((iP W hn g1).2 e)⟩
  ·exact .inr ⟨rfl,h1,h2,fun e=>h3 ((iP W hn hm).2 e)⟩
 ·rintro(⟨h1,s,hs,h2,h3⟩|⟨rfl,h1,h2,h3⟩)
  ·obtain⟨g1,g2⟩:=key hs
   exact⟨(iP W hn g2).2 h1,s,(nt W H hn hj).2 (.inl hs),h2,fun e=>h3 ((iP W hn g1).1 e)⟩
  ·exact⟨h1,m.id,(nt W H hn hj).2 (.inr ⟨rfl,rfl⟩),h2,fun e=>h3 ((iP W hn hm).1 e)⟩
inductive Up (P:List Int):Nat->List Nat->Prop
 |root:Up P 0 [0]
 |step {i j:Nat} {l:List Nat}:P[i]? =some (j:Int)->Up P j l->Up P i (i::l)
theorem Up.ex(hP:Tr.nn P): ∀i,i<P.length-> ∃l,Up P i l:=by
 intro i
 induction i using Nat.strongRecOn with
 |_ i ih=>
  intro hi;rcases Nat.eq_zero_or_pos i with rfl|h0
  ·exact⟨[0],.root⟩
  ·obtain⟨j,h1,h2⟩:=hP.up i _ h0 (List.getElem?_eq_getElem hi)
   obtain⟨l,hl⟩:=ih j h1 (by omega);exact⟨i::l,.step (by rw [List.getElem?_eq_getElem hi,h2]) hl⟩
theorem Up.mem(hP:Tr.nn P){i:Nat}{l:List Nat}(h:Up P i l)(hi:i<P.length){k:Nat}:k∈l↔jE P i k:=by
 induction h with
 |root=>
  rw [List.mem_singleton];constructor
  ·rintro rfl;exact .refl hi
  ·intro h;have:=h.le hP;omega
 | @step i j l hj hu ih=>
   have ri:j<P.length:=by have:=(Tr.gV hP (Tr.dO.2 hj)).1;omega
   rw [List.mem_cons,ih ri];constructor
   ·rintro(rfl|h)
    ·exact .refl hi
    ·exact .step hj h
   ·intro h
    by_cases e:k=i
    ·exact .inl e
    ·exact .inr (h.inv (fun e'=>e e'.symm) hj)
theorem Up.one(hP:Tr.nn P){i:Nat}{l l':List Nat}(h:Up P i l)(h':Up P i l'):l=l':=by
 induction h generalizing l' with
 |root=>
  cases h' with
  |root=>rfl
  |step hj _=>rw [hP.root]at hj;simp only [Option.some.injEq]at hj;omega
 | @step i j l hj hu ih=>
   cases h' with
   |root=>rw [hP.root]at hj;simp only [Option.some.injEq]at hj;omega
   | @step _ j' l' uy GK=>
     rw [hj]at uy;simp only [Option.some.injEq]at uy;have:j=j':=by omega
     subst this;rw [ih GK]
theorem Up.head{i:Nat}{l:List Nat}(h:Up P i l):l[0]? =some i:=by cases h<;>rfl
theorem Up.len(hP:Tr.nn P){i:Nat}{l:List Nat}(h:Up P i l):l.length<=i+1:=by
 induction h with
 |root=>simp
 | @step i j l hj hu ih=>have:=(Tr.gV hP (Tr.dO.2 hj)).1;simp only [List.length_cons];omega
theorem Up.lt(hP:Tr.nn P){i:Nat}{l:List Nat}(h:Up P i l)(hi:i<P.length): ∀k∈l,k<P.length:=fun k hk=>((h.mem hP hi).1 hk).Wa
end
end Go.Proofs.YtnboahlopghcjaaGreatDoor
namespace Go.Proofs.YtnboahlopghcjaaGreatDoor
open Go.Proofs.Tryz
open Go Go.bV Go.RowKit
structure vL(mt te:TypeId)(z:Value):Prop where
 og:prog.underlying mt=some (.map ag te)
 zero: ∀w,(zeroValue te).run prog w=.ok z w
def assoc(h:HT):List (HT×Value)->Option Value
 | []=>none
 |(x,v)::l=>if h=x then some v else assoc h l
def kR(h:HT):List (HT×Value)->Nat->Option (Nat×Value)
 | [],_=>none
 |(x,v)::l,i=>if h=x then some (i,v)else kR h l (i+1)
theorem me(h:HT): ∀(l:List (HT×Value)) (i:Nat),(kR h l i).map (·.2)=assoc h l
 | [],_=>rfl
 |(x,v)::l,i=>by
  unfold kR assoc;split
  ·rfl
  ·exact me h l (i+1)
theorem uN{h:HT}: ∀ {l:List (HT×Value)} {i j:Nat} {v:Value},kR h l i=some (j,v)->i<=j/\l[j-i]? =some (h,v)/\ ∀(x:HT) (u:Value),assoc x (l.set (j-i) (h,u))=if x=h then some u else assoc x l
 | [],i,j,v,e=>by simp [kR]at e
 |(x,u)::l,i,j,v,e=>by
  unfold kR at e;split at e
  ·rename_i hx
   cases e;subst hx;refine⟨Nat.le_refl _,by rw [Nat.sub_self];rfl,fun x u=>?_⟩;rw [Nat.sub_self];simp only [List.set_cons_zero,assoc];by_cases hx:x=h<;>simp [hx]
  ·rename_i hx
   obtain⟨h1,h2,h3⟩:=uN e;have e1:j-i=(j-(i+1))+1:=by omega
   refine⟨by omega,by rw [e1];exact h2,fun y u'=>?_⟩;rw [e1];simp only [List.set_cons_succ,assoc,h3];by_cases hy:y=h
   ·subst hy;simp [hx]
   ·simp [hy]
theorem uZ{h:HT}{v:Value}: ∀ {l:List (HT×Value)},assoc h l=none-> ∀x,assoc x (l++ [(h,v)])=if x=h then some v else assoc x l
 | [],_,x=>by simp [assoc]
 |(y,u)::l,e,x=>by
  unfold assoc at e;split at e
  ·cases e
  ·rename_i hy
   have ih:=uZ (v:=v) e x;simp only [List.cons_append,assoc,ih];by_cases hx:x=y
   ·subst hx;simp [Ne.symm hy]
   ·simp [hx]
def mB(es:List MapEntry)(l:List (HT×Value)):Prop:=match es,l with
 | [],[]=>True
 |e::es,p::l=>(e.key=.agg p.1.1/\e.val=p.2)/\mB es l
 |_,_=>False
theorem mB.snoc: ∀ {es:List MapEntry} {l:List (HT×Value)} {e:MapEntry} {p:HT×Value},mB es l->e.key=.agg p.1.1->e.val=p.2->mB (es++ [e]) (l++ [p])
 | [],[],_,_,_,h1,h2=>⟨⟨h1,h2⟩,trivial⟩
 |_::_,_::_,_,_,he,h1,h2=>⟨he.1,mB.snoc he.2 h1 h2⟩
 | [],_::_,_,_,he,_,_=>he.elim
 |_::_,[],_,_,he,_,_=>he.elim
theorem mB.get: ∀ {es:List MapEntry} {l:List (HT×Value)} {j:Nat} {p:HT×Value},mB es l->l[j]? =some p-> ∃e,es[j]? =some e/\e.key=.agg p.1.1/\e.val=p.2
 | [],[],_,_,_,h=>by simp at h
 |e::_,_::_,0,_,he,h=>by
  simp only [List.getElem?_cons_zero,Option.some.injEq]at h;subst h;exact⟨e,rfl,he.1⟩
 |_::_,_::_,j+1,_,he,h=>by
  obtain⟨e,h1,h2⟩:=mB.get he.2 (j:=j) (by simpa using h);exact⟨e,by simpa using h1,h2⟩
 | [],_::_,_,_,he,_=>he.elim
 |_::_,[],_,_,he,_=>he.elim
theorem mB.set: ∀ {es:List MapEntry} {l:List (HT×Value)} {j:Nat} {p:HT×Value} {f:MapEntry->MapEntry},mB es l->(∀e,(f e).key=.agg p.1.1/\(f e).val=p.2)->mB (es.modify j f) (l.set j p)
 | [],[],_,_,_,he,_=>by simpa using he
 |_::_,_::_,0,_,_,he,hf=>⟨hf _,he.2⟩
 |_::_,_::_,j+1,_,_,he,hf=>by
  simp only [List.modify_succ_cons,List.set_cons_succ];exact⟨he.1,mB.set he.2 hf⟩
 | [],_::_,_,_,_,he,_=>he.elim
 |_::_,[],_,_,_,he,_=>he.elim
theorem mB.len: ∀ {es:List MapEntry} {l:List (HT×Value)},mB es l->es.length=l.length
 | [],[],_=>rfl
 |_::_,_::_,he=>by simp [mB.len he.2]
 | [],_::_,he=>he.elim
 |_::_,[],he=>he.elim
section
variable{w:World}
theorem qw(h:HT)(w:World): ∀(es:List MapEntry) (l:List (HT×Value)) (i:Nat),mB es l->
 (Instr.findAsking ag (.agg h.1) es i).run prog w=.ok (kR h l i) w
 | [],[],i,_=>by simp [Instr.findAsking,kR]
 |e::es,(x,v)::l,i,he=>by
  have hq:=tL h x w;have ih:=qw h w es l (i+1) he.2;simp only [Instr.findAsking,he.1.1,Sem.run_bind,hq,Result.andThen_ok];by_cases hx:h=x
  ·simp [hx,kR,he.1.2]
  ·simp [hx,kR,ih]
 | [],_::_,_,he=>he.elim
 |_::_,[],_,he=>he.elim
theorem kV(h:HT)(w:World){es:List MapEntry}{l:List (HT×Value)}(he:mB es l):
 (Instr.findKey ag (.agg h.1) es).run prog w=.ok (kR h l 0) w:=by
 have h1:=qw h w es l 0 he;simp only [Instr.findKey,Sem.run_bind,run_underlying IL,Result.andThen_ok];cases es with
 |nil=>
  cases l with
  |nil=>simp [Instr.findNow,kR]
  |cons x l=>exact he.elim
 |cons e es=>
  have:Instr.findNow (.array 32 iw) (.agg h.1) (e::es) 0=none:=by
   simp only [Instr.findNow,Instr.sameNow]
  rw [this];exact h1
theorem DI(h:HT):Instr.sameBits 10000 (.agg h.1) (.agg h.1)=true:=by
 show Instr.sameBits (9999+1) (.agg h.1) (.agg h.1)=true
 rw [Instr.sameBits];simp only [beq_self_eq_true,Bool.true_and,List.all_eq_true];rintro⟨x,y⟩ nU;have hxe:x=y:=by
  obtain⟨i,hi⟩:=List.mem_iff_getElem?.1 nU;rw [List.getElem?_zip_eq_some]at hi;have:=hi.1.symm.trans hi.2;simpa using this
 subst hxe;have hm:=(List.of_mem_zip nU).1;obtain⟨n,rfl,_⟩:=h.2.2 x hm;simp [Instr.sameBits]
structure fk(w:World)(m:Nat)(f:HT->Option Value):Prop where
 ex: ∃es clock l,w.heap[m]? =some (.map es clock)/\mB es.toList l/\(∀x,assoc x l=f x)/\(∀e∈es.toList,e.born<clock)/\(es.toList.map (·.born)).Nodup/\(l.map (·.1)).Nodup
theorem fk.aC{S:Nat->Prop}{w w':World}{m:Nat}{f:HT->Option Value}(h:fk w m f)(hk:Kept S w w')(hn: ¬S m):fk w' m f:=by
 obtain⟨es,clock,l,h1,h2⟩:=h.ex;exact⟨es,clock,l,hk.heap h1 hn,h2⟩
theorem fk.same{w w':World}{m:Nat}{f:HT->Option Value}(h:fk w m f)(hk:Kept Nil w w'):fk w' m f:=h.aC hk (fun h=>h)
theorem fk.lt{w:World}{m:Nat}{f:HT->Option Value}(h:fk w m f):m<w.heap.size:=by
 obtain⟨es,clock,l,h1,_⟩:=h.ex;exact aQ h1
theorem fk.new(w:World):fk (w.alloc (.map #[] 0)) w.heap.size (fun _=>none):=⟨#[],0,[],aJ w _,trivial,fun _=>rfl,by simp,by simp,by simp⟩
theorem fk.look{mt te:TypeId}{z:Value}(T:vL mt te z){m:Nat}{f:HT->Option Value}(hm:fk w m f)(h:HT):
 (Instr.lookup mt (.map (some m)) (.agg h.1) false).run prog w=.ok ((f h).getD z) w:=by
 obtain⟨es,clock,l,h1,h2,h3,_⟩:=hm.ex;have h4:=kV h w h2;have h5:=me h l 0;rw [h3]at h5;simp only [Instr.lookup,Sem.run_bind,run_underlying T.og,oY h1,Result.andThen_ok,Sem.run_pure,iL,h4];cases hp:kR h l 0 with
 |none=>rw [hp]at h5;simp [<-h5,T.zero]
 |some p=>rw [hp]at h5;simp [<-h5]
theorem fk.put{mt te:TypeId}{z:Value}(T:vL mt te z){m:Nat}{f:HT->Option Value}(hm:fk w m f)(h:HT)(v:Value):
 ∃w',(Instr.mapUpdate mt (.map (some m)) (.agg h.1) v).run prog w=.ok () w'/\fk w' m (fun x=>if x=h then some v else f x)/\Kept (· =m) w w':=by
 obtain⟨es,clock,l,h1,h2,h3,hb,hd,hk⟩:=hm.ex;have h4:=kV h w h2;have kept: ∀o,Kept (· =m) w {w with heap:=w.heap.setIfInBounds m o}:=fun o=>⟨rfl,rfl,rfl,by simp,fun k _ hk=>by simp [Ne.symm hk]⟩;cases hp:kR h l 0 with
 |none=>
  rw [hp]at h4;have h5:=me h l 0;rw [hp]at h5;refine⟨{w with heap:=w.heap.setIfInBounds m (.map (es.push {key:=.agg h.1,val:=v,born:=clock}) (clock+1))},?_,⟨es.push {key:=.agg h.1,val:=v,born:=clock},clock+1,l++ [(h,v)],?_,?_,?_,?_,?_,?_⟩,kept _⟩
  ·simp only [Instr.mapUpdate,Sem.run_bind,run_underlying T.og,oY h1,Result.andThen_ok,iL,h4,Al _ h1]
  ·simp [aQ h1]
  ·have:=h2.snoc (e:= {key:=.agg h.1,val:=v,born:=clock}) (p:=(h,v)) rfl rfl
   simpa using this
  ·intro x
   rw [uZ h5.symm,h3]
  ·intro e he
   rw [Array.toList_push,List.mem_append,List.mem_singleton]at he;rcases he with he|rfl
   ·have:=hb e he;omega
   ·exact Nat.lt_succ_self _
  ·rw [Array.toList_push,List.map_append,List.nodup_append]
   refine⟨hd,by simp,fun a ha b vA e=>?_⟩;simp only [List.map_cons,List.map_nil,List.mem_singleton]at vA;obtain⟨e',Kb,rfl⟩:=List.mem_map.1 ha;have:=hb e' Kb;omega
  ·rw [List.map_append,List.nodup_append]
   refine⟨hk,by simp,fun a ha b vA e=>?_⟩;simp only [List.map_cons,List.map_nil,List.mem_singleton]at vA;subst vA;subst e;have key: ∀l:List (HT×Value),a∈l.map (·.1)->assoc a l≠none:=fun l=>by
    induction l with
    |nil=>simp
    |cons p l ih=>
     obtain⟨y,u⟩:=p;intro hm;unfold assoc;split
     ·simp
     ·rename_i hy
      simp only [List.map_cons,List.mem_cons]at hm;exact ih (hm.resolve_left hy)
   exact key l ha h5.symm
 |some p=>
  obtain⟨j,u⟩:=p;rw [hp]at h4;obtain⟨_,h6,h7⟩:=uN hp;rw [Nat.sub_zero]at h6 h7;obtain⟨e,he1,Qd,_⟩:=h2.get h6;have hes:es[j]? =some e:=by simpa using he1
  refine⟨{w with heap:=w.heap.setIfInBounds m (.map (es.modify j fun e=> {e with key:=.agg h.1,val:=v}) clock)},?_,⟨es.modify j fun e=> {e with key:=.agg h.1,val:=v},clock,l.set j (h,v),?_,?_,?_,?_,?_,?_⟩,kept _⟩
  ·simp only [Instr.mapUpdate,Sem.run_bind,run_underlying T.og,oY h1,Result.andThen_ok,iL,h4,Instr.keyThatStays,hes,Option.map_some,Option.getD_some,Qd,DI,if_true,Sem.run_pure,Al _ h1]
  ·simp [aQ h1]
  ·rw [Array.toList_modify]
   exact h2.set (p:=(h,v)) fun e=>⟨rfl,rfl⟩
  ·intro x
   rw [h7,h3]
  ·intro x hx
   rw [Array.toList_modify]at hx;obtain⟨i,hi⟩:=List.mem_iff_getElem?.1 hx;rw [List.getElem?_modify]at hi;cases hg:es.toList[i]? with
   |none=>rw [hg]at hi;simp at hi
   |some y=>
    rw [hg]at hi;have:=hb y (List.mem_of_getElem? hg);by_cases qR:j=i
    ·simp [qR]at hi
     rw [<-hi];exact this
    ·simp [qR]at hi
     rw [<-hi];exact this
  ·have:(es.modify j fun e=> {e with key:=.agg h.1,val:=v}).toList.map (·.born)=es.toList.map (·.born):=by
    rw [Array.toList_modify];apply List.ext_getElem?;intro i;rw [List.getElem?_map,List.getElem?_map,List.getElem?_modify];cases es.toList[i]? with
    |none=>simp
    |some y=>by_cases qR:j=i<;>simp [qR]
   rw [this];exact hd
  ·have:(l.set j (h,v)).map (·.1)=l.map (·.1):=by
    apply List.ext_getElem?;intro i;rw [List.getElem?_map,List.getElem?_map,List.getElem?_set];by_cases qR:j=i
    ·subst qR
     have cI:=(List.getElem?_eq_some_iff.1 h6).1;have gu:=(List.getElem?_eq_some_iff.1 h6).2;simp [cI,gu]
    ·simp [qR]
   rw [this];exact hk
end
end Go.Proofs.YtnboahlopghcjaaGreatDoor
namespace Go.Proofs.YtnboahlopghcjaaGreatDoor
open Go.Proofs.Tryz
open Go Go.bV Go.RowKit
open Tr (jE)
theorem tj{te:TypeId}{z:Value}(h:(prog.info? te).bind (·.zero)=some z)(w:World):(zeroValue te).run prog w=.ok z w:=by
 cases hi:prog.info? te with
 |none=>rw [hi]at h;cases h
 |some i=>
  rw [hi]at h;have hz:i.zero=some z:=h;simp [zeroValue,typeInfo,hi,hz]
theorem wT:vL gm az (.slice none 0 0):=⟨by kernel_rfl,tj (by kernel_rfl)⟩
theorem F7:vL kI sd (.agg #[.bool false]):=⟨by kernel_rfl,tj (by kernel_rfl)⟩
structure XM where
 g:Nat
 t:Nat
 mb:Nat
 ib:Nat
 ic:Nat
 cb:Nat
 T:List Tr.Nd
 d:Int
 SG:Nat->Prop
 ST:Nat->Prop
 SO:Nat->Prop
def XM.own(m:XM)(x k:Nat):Prop:=k=x\/k=m.mb\/k=m.ib\/k=m.cb
def XM.jM(m:XM)(x k:Nat):Prop:=m.SG k\/m.ST k\/m.SO k\/m.own x k
def nP(w:World)(SO:Nat->Prop)(N:Nat)(v:Option Value)(l:List HT):Prop:=
 (v=none/\l= [])\/ ∃(A:Option Addr) (n c:Nat),v=some (.slice A n c)/\n<=c/\HS w A n l/\n<=N/\ ∀a,A=some a->SO a.block
structure XV(w:World)(F:Nat->Prop)(x:Nat)(D:DG)(P:List Int)(m:XM):Prop where
 top:w.heap[x]? =some (.cells #[.pointer (some ⟨m.g,0,none⟩),.pointer (some ⟨m.t,0,none⟩),.map (some m.mb),.slice (some ⟨m.ib,0,none⟩) D.length m.ic,.map (some m.cb)] eo (0,0))
 G:BV w m.SG F m.g D
 T:Tr.oq w m.ST m.t m.T m.d
 Kt:Tr.vM m.T
 bP:Tr.bP m.T=P
 dl:0<=m.d/\m.d<=D.length
 at_:IsMap w m.mb (ids D)
 row:bO w 0 (some ⟨m.ib,0,none⟩) D.length m.ic (ids D)
 Xb: ∃f,fk w m.cb f/\ ∀h,∃l,nP w m.SO D.length (f h) l/\ ∀c,c∈l↔Mi D P h c
 je:qZ D P
 W:jw D
 gt: ∀k,m.SG k-> ¬m.ST k/\ ¬m.SO k
 to: ∀k,m.ST k-> ¬m.SO k
 fd: ∀k,F k-> ¬m.ST k/\ ¬m.SO k
 od: ∀k,m.own x k-> ¬m.SG k/\ ¬m.ST k/\ ¬m.SO k/\ ¬F k
 ne:x≠m.mb/\x≠m.ib/\x≠m.cb/\m.mb≠m.ib/\m.mb≠m.cb/\m.ib≠m.cb
 low: ∀k,m.jM x k\/F k->k<w.heap.size
def BU(w:World)(S F:Nat->Prop)(x:Nat)(D:DG)(P:List Int):Prop:= ∃m,XV w F x D P m/\ ∀k,m.jM x k->S k
section
variable{w w':World}{F S:Nat->Prop}{x:Nat}{D:DG}{P:List Int}{m:XM}{K:Value->World->Prop}
theorem nP.aC{S0 SO:Nat->Prop}{N:Nat}{v:Option Value}{l:List HT}(h:nP w SO N v l)(hk:Kept S0 w w')(hn: ∀k,SO k-> ¬S0 k):nP w' SO N v l:=by
 rcases h with h|⟨A,n,c,h1,h2,h3,h4,h5⟩
 ·exact .inl h
 ·exact .inr ⟨A,n,c,h1,h2,h3.aC hk (fun a ha=>hn _ (h5 a ha)),h4,h5⟩
theorem XV.aC{S0:Nat->Prop}(h:XV w F x D P m)(hk:Kept S0 w w')(hS: ∀k,m.jM x k-> ¬S0 k)(hF: ∀k,F k-> ¬S0 k):XV w' F x D P m where
 top:=hk.heap h.top (hS _ (.inr (.inr (.inr (.inl rfl)))))
 G:=h.G.aC hk (fun k e=>hS k (.inl e)) hF
 T:=h.T.aC hk (fun k e=>hS k (.inr (.inl e)))
 Kt:=h.Kt
 bP:=h.bP
 dl:=h.dl
 at_:=h.at_.aC hk (hS _ (.inr (.inr (.inr (.inr (.inl rfl))))))
 row:=Row.aC h.row hk (fun k e=>by cases e;exact hS _ (.inr (.inr (.inr (.inr (.inr (.inl rfl)))))))
 Xb:=by
  obtain⟨f,h1,h2⟩:=h.Xb;refine⟨f,h1.aC hk (hS _ (.inr (.inr (.inr (.inr (.inr (.inr rfl))))))),fun y=>?_⟩;obtain⟨l,h3,h4⟩:=h2 y;exact⟨l,h3.aC hk (fun k e=>hS k (.inr (.inr (.inl e)))),h4⟩
 je:=h.je
 W:=h.W
 gt:=h.gt
 to:=h.to
 fd:=h.fd
 od:=h.od
 ne:=h.ne
 low:=fun k e=>Nat.lt_of_lt_of_le (h.low k e) hk.size
theorem XV.same(h:XV w F x D P m)(hk:Kept Nil w w'):XV w' F x D P m:=h.aC hk (fun _ _ h=>h) (fun _ _ h=>h)
theorem BU.aC{S0:Nat->Prop}(h:BU w S F x D P)(hk:Kept S0 w w')(hS: ∀k,S k-> ¬S0 k)(hF: ∀k,F k-> ¬S0 k):BU w' S F x D P:=
 let ⟨m,h1,h2⟩:=h;⟨m,h1.aC hk (fun k e=>hS k (h2 k e)) hF,h2⟩
theorem BU.same(h:BU w S F x D P)(hk:Kept Nil w w'):BU w' S F x D P:=h.aC hk (fun _ _ h=>h) (fun _ _ h=>h)
theorem XV.c0(h:XV w F x D P m):w.cell? ((⟨x,0,none⟩:Addr).add 0)=some (.pointer (some ⟨m.g,0,none⟩)):=by rw [ba,ax h.top];rfl
theorem XV.c1(h:XV w F x D P m):w.cell? ((⟨x,0,none⟩:Addr).add 1)=some (.pointer (some ⟨m.t,0,none⟩)):=by rw [ba,ax h.top];rfl
theorem XV.c2(h:XV w F x D P m):w.cell? ((⟨x,0,none⟩:Addr).add 2)=some (.map (some m.mb)):=by rw [ba,ax h.top];rfl
theorem XV.c3(h:XV w F x D P m):w.cell? ((⟨x,0,none⟩:Addr).add 3)=some (.slice (some ⟨m.ib,0,none⟩) D.length m.ic):=by rw [ba,ax h.top];rfl
theorem XV.c4(h:XV w F x D P m):w.cell? ((⟨x,0,none⟩:Addr).add 4)=some (.map (some m.cb)):=by rw [ba,ax h.top];rfl
theorem XV.MB(h:XV w F x D P m):m.T.length=D.length:=by
 have:=Tr.eK m.T;rw [h.bP,h.je.len]at this;exact this.symm
theorem XV.og(h:XV w F x D P m){i k:Nat}{id kd:Tr.Nd}(hi:m.T[i]? =some id)(hk:m.T[k]? =some kd):decide (kd.lo<=id.lo/\id.hi<=kd.hi)=true↔jE P i k:=by
 rw [decide_eq_true_iff,<-h.bP];exact h.Kt.under hi hk
theorem CY(a b:HT):a.1.toList++(b.1.toList++ [])=dd [a,b]:=by simp [dd]
theorem sn(h:XV w F x D P m)(hK:K (.bool true) w):bn prog eQ.id #[.pointer (some ⟨x,0,none⟩)] w K:=
 eQ.of (Split.yes rfl ⟨_,h.c0,hK⟩)
theorem xq{xb:Nat}(h:XV w F x D P m)(hg:w.heap[xb]? =some (.cells #[.pointer (some ⟨x,0,none⟩)] fM (0,0))){A:Option Addr}{n cx:Nat}{l:List HT}(hl:HS w A n l)(hn:n<=400000)
 (hK: ∀w' (b:Bool),(b=true↔ ∃p∈l,p∉ids D)->Kept Nil w w'->K (.bool b) w'):
 bn prog dD.id #[.slice A n cx,.func (.func dt.id) #[] #[.pointer (some ⟨xb,0,none⟩)]] w K:=by
 have hlen:=hl.len;refine bY.of (an.of ?_);refine an.b6 (I:=fun s w'=> ∃i:Nat,s=(0,(i:Int))/\i<=n/\(∀p∈l.take i,p∈ids D)/\Kept Nil w w') (μ:=fun s _=>((n:Int)-s.2).toNat) (s:=(0,0)) ⟨0,rfl,Nat.zero_le _,by simp,Kept.refl _ _⟩ ?_;rintro s w' ⟨i,rfl,hi,cS,kw⟩;refine Split.dec (fun jf=>?_) (fun gu=>?_)
 ·simp only at jf
  have dP:i<n:=by omega
  obtain⟨y,hy⟩: ∃y,l[i]? =some y:=⟨_,List.getElem?_eq_getElem (by omega)⟩;refine(hl.same kw).load (i:=(i:Int)) (by omega) hy ?_;refine dt.of ?_;unfold dt.W;intro w3 w4;have k3:Kept Nil w' w3:=(Kept.refl _ _).alloc _;have oo:w3.heap[w'.heap.size]? =some (.cells y.1 ag (0,0)):=aJ w' _;have k4:Kept Nil w3 w4:=(Kept.refl _ _).drew;clear_value w4;have qi:=k4.heap oo (fun h=>h);have Ge:=(kw.trans k3 (fun _ _ h=>h)).trans k4 (fun _ _ h=>h);obtain⟨bl,c,mb,M,G⟩:=(h.same Ge).G;refine⟨some ⟨x,0,none⟩,by rw [ax (Ge.heap hg (fun h=>h))];rfl,_,(h.same Ge).c0,y.1,⟨y.2.1,Cells.bC qi⟩,tu G y fun w7 k7=>⟨_,rfl,_,rfl,?_⟩⟩;have AG:=Ge.trans k7 (fun _ _ h=>h);by_cases hm:y∈ids D
  ·refine Split.no (by rw [decide_eq_true hm];rfl) ?_
   simp only;rw [dE (n:=(i:Int)) (by omega) (by omega)];refine⟨(0,(i:Int)+1),rfl,⟨i+1,rfl,dP,fun p hp=>?_,AG⟩,by simp only;omega⟩;rcases(bH hy).1 hp with hp|rfl
   ·exact cS p hp
   ·exact hm
  ·refine Split.yes (by rw [decide_eq_false hm];rfl) ?_
   refine⟨(i:Int),rfl,?_⟩;exact hK w7 _ ⟨fun _=>⟨y,List.mem_of_getElem? hy,hm⟩,fun _=>decide_eq_true (by omega)⟩ AG
 ·simp only at gu
  rw [aS,an.cX];rw [List.take_of_length_le (by omega)]at cS;exact⟨-1,rfl,hK w' _ ⟨fun h=>absurd (of_decide_eq_true h) (by omega),fun⟨p,hp,hn⟩=>absurd (cS p hp) hn⟩ kw⟩
theorem pk(h:XV w F x D P m){A:Option Addr}{n cx:Nat}{l:List HT}(hl:HS w A n l)(hn:n<=400000)(hK: ∀w',Kept Nil w w'->K (.bool (decide (∀p∈l,p∈ids D))) w'):
 bn prog fe.id #[.pointer (some ⟨x,0,none⟩),.slice A n cx] w K:=by
 refine fe.of ?_;unfold fe.W;intro w3;have k3:Kept Nil w w3:=(Kept.refl _ _).alloc _;have oo:w3.heap[w.heap.size]? =some (.cells #[.pointer (some ⟨x,0,none⟩)] fM (0,0)):=aJ w _;clear_value w3;refine⟨_,by rw [ax oo];rfl,sn (h.same k3) ⟨true,rfl,Split.yes rfl ?_⟩⟩;refine xq (h.same k3) oo (hl.same k3) hn fun w9 b hb k9=>⟨b,rfl,?_⟩;have:(!b)=decide (∀p∈l,p∈ids D):=by
  rw [Bool.eq_iff_iff,decide_eq_true_iff,Bool.not_eq_true',<-Bool.not_eq_true,hb];constructor
  ·exact fun hn p hp=>Classical.byContradiction fun hc=>hn ⟨p,hp,hc⟩
  ·rintro ha ⟨p,hp,hc⟩;exact hc (ha p hp)
 rw [this];exact hK w9 (k3.trans k9 (fun _ _ h=>h))
theorem oG(h:XV w F x D P m)(a b:HT)(hK: ∀w' (r:Bool),(r=true↔Ch D P a b)->Kept Nil w w'->K (.bool r) w'):
 bn prog dW.id #[.pointer (some ⟨x,0,none⟩),.agg a.1,.agg b.1] w K:=by
 refine dW.of ?_;unfold dW.W;intro w4 w5 w6;have k4:Kept Nil w w4:=(Kept.refl _ _).alloc _;have uD:w4.heap[w.heap.size]? =some (.cells a.1 ag (0,0)):=aJ w _;have k5:Kept Nil w4 w5:=(Kept.refl _ _).alloc _;have mv:w5.heap[w4.heap.size]? =some (.cells b.1 ag (0,0)):=aJ w4 _;have k6:Kept Nil w5 w6:=(Kept.refl _ _).drew;clear_value w6;have rT:=(k5.trans k6 (fun _ _ h=>h)).heap uD (fun h=>h);have oT:=k6.heap mv (fun h=>h);have mL:=(k4.trans k5 (fun _ _ h=>h)).trans k6 (fun _ _ h=>h);refine⟨a.1,⟨a.2.1,Cells.bC rT⟩,b.1,⟨b.2.1,Cells.bC oT⟩,a.2.1,b.2.1,?_⟩;intro w9;have k9:Kept Nil w6 w9:=(Kept.refl _ _).alloc _;have hx9:HS w9 (some ⟨w6.heap.size,0,none⟩) 2 [a,b]:=HS.lay (l:= [a,b]) (t:=ag) (by rw [<-CY a b];exact aJ w6 _);clear_value w9;have Eg:=mL.trans k9 (fun _ _ h=>h);refine pk (h.same Eg) hx9 (by omega) fun tB Ef=>⟨_,rfl,?_⟩;have Np:=Eg.trans Ef (fun _ _ h=>h);have L9:=h.same Np;by_cases cS: ∀p∈ [a,b],p∈ids D
 ·refine Split.yes (decide_eq_true cS) ?_
  obtain⟨na,JM,ea⟩:=dB.1 (cS a (by simp));obtain⟨nb,Ti,eb⟩:=dB.1 (cS b (by simp));obtain⟨k,hk⟩:=List.mem_iff_getElem?.1 JM;obtain⟨i,hi⟩:=List.mem_iff_getElem?.1 Ti;have zW:=(List.getElem?_eq_some_iff.1 hk).1;have dP:=(List.getElem?_eq_some_iff.1 hi).1;have Y9:=h.MB;obtain⟨kd,TG⟩:=Tr.fH (T:=m.T) (i:=k) (by omega);obtain⟨nd,fw⟩:=Tr.fH (T:=m.T) (i:=i) (by omega);have RL:=k9.trans Ef (fun _ _ h=>h);have l1:=L9.at_.we b;have l2:=L9.at_.we a;rw [<-eb,h.W.pos_eq hi]at l1;rw [<-ea,h.W.pos_eq hk]at l2;rw [eb]at l1;rw [ea]at l2;refine⟨_,L9.c1,_,L9.c2,b.1,⟨b.2.1,Cells.bC (RL.heap oT (fun h=>h))⟩,_,l1,_,L9.c2,a.1,⟨a.2.1,Cells.bC (RL.heap rT (fun h=>h))⟩,_,l2,?_⟩;refine Tr.Ag L9.T fw TG fun lf pN=>⟨_,rfl,hK lf _ ?_ (Np.trans pN (fun _ _ h=>h))⟩;rw [h.og fw TG];constructor
  ·exact fun hu=>⟨i,k,nb,na,hi,eb,hk,ea,hu⟩
  ·rintro⟨i',k',ni,nk,h1,h2,h3,h4,h5⟩
   have e1:=h.W.inj h1 hi (by rw [h2,eb]);have e2:=h.W.inj h3 hk (by rw [h4,ea]);rw [<-e1,<-e2];exact h5
 ·refine Split.no (decide_eq_false cS) (hK tB false ⟨(fun e=>by cases e),fun e=>absurd (fun p hp=>?_) cS⟩ Np)
  simp only [List.mem_cons,List.not_mem_nil,or_false]at hp;rcases hp with rfl|rfl
  ·exact e.mem.1
  ·exact e.mem.2
theorem uS{xb bb:Nat}{b:HT}(h:XV w F x D P m)(hg:w.heap[xb]? =some (.cells #[.pointer (some ⟨x,0,none⟩)] fM (0,0)))(hb:w.heap[bb]? =some (.cells b.1 ag (0,0))){A:Option Addr}{n cx:Nat}{l:List HT}(hl:HS w A n l)(hn:n<=400000)
 (hK: ∀w' (r:Bool),(r=true↔ ∃c∈l,Ch D P c b)->Kept Nil w w'->K (.bool r) w'):
 bn prog dD.id #[.slice A n cx,.func (.func cG.id) #[] #[.pointer (some ⟨xb,0,none⟩),.pointer (some ⟨bb,0,none⟩)]] w K:=by
 have hlen:=hl.len;refine bR.of (aj.of ?_);refine aj.b6 (I:=fun s w'=> ∃i:Nat,s=(0,(i:Int))/\i<=n/\(∀p∈l.take i,¬Ch D P p b)/\Kept Nil w w') (μ:=fun s _=>((n:Int)-s.2).toNat) (s:=(0,0)) ⟨0,rfl,Nat.zero_le _,by simp,Kept.refl _ _⟩ ?_;rintro s w' ⟨i,rfl,hi,cS,kw⟩;refine Split.dec (fun jf=>?_) (fun gu=>?_)
 ·simp only at jf
  have dP:i<n:=by omega
  obtain⟨y,hy⟩: ∃y,l[i]? =some y:=⟨_,List.getElem?_eq_getElem (by omega)⟩;refine(hl.same kw).load (i:=(i:Int)) (by omega) hy ?_;refine cG.of ?_;unfold cG.W;intro w4;have k4:Kept Nil w' w4:=(Kept.refl _ _).alloc _;have qi:w4.heap[w'.heap.size]? =some (.cells y.1 ag (0,0)):=aJ w' _;clear_value w4;have Ge:=kw.trans k4 (fun _ _ h=>h);refine⟨some ⟨x,0,none⟩,by rw [ax (Ge.heap hg (fun h=>h))];rfl,y.1,⟨y.2.1,Cells.bC qi⟩,b.1,⟨b.2.1,Cells.bC (Ge.heap hb (fun h=>h))⟩,oG (h.same Ge) y b fun w7 r hr k7=>⟨r,rfl,r,rfl,?_⟩⟩;have AG:=Ge.trans k7 (fun _ _ h=>h);cases r with
  |false=>
   refine Split.no rfl ?_;simp only;rw [dE (n:=(i:Int)) (by omega) (by omega)];refine⟨(0,(i:Int)+1),rfl,⟨i+1,rfl,dP,fun p hp hc=>?_,AG⟩,by simp only;omega⟩;rcases(bH hy).1 hp with hp|rfl
   ·exact cS p hp hc
   ·cases hr.2 hc
  |true=>
   refine Split.yes rfl ⟨(i:Int),rfl,?_⟩;exact hK w7 _ ⟨fun _=>⟨y,List.mem_of_getElem? hy,hr.1 rfl⟩,fun _=>decide_eq_true (by omega)⟩ AG
 ·simp only at gu
  rw [aS,aj.cX];rw [List.take_of_length_le (by omega)]at cS;exact⟨-1,rfl,hK w' _ ⟨fun h=>absurd (of_decide_eq_true h) (by omega),fun⟨p,hp,hn⟩=>absurd hn (cS p hp)⟩ kw⟩
theorem kX(h:XV w F x D P m)(hD:D.length<=5000)(a b:HT)(hK: ∀w' (r:Bool),(r=true↔eZ D a b)->Kept Nil w w'->K (.bool r) w'):
 bn prog dI.id #[.pointer (some ⟨x,0,none⟩),.agg a.1,.agg b.1] w K:=by
 refine dI.of ?_;unfold dI.W;intro w4 w5 w6;have k4:Kept Nil w w4:=(Kept.refl _ _).alloc _;have Sc:w4.heap[w.heap.size]? =some (.cells #[.pointer (some ⟨x,0,none⟩)] fM (0,0)):=aJ w _;have k5:Kept Nil w4 w5:=(Kept.refl _ _).alloc _;have ze:w5.heap[w4.heap.size]? =some (.cells a.1 ag (0,0)):=aJ w4 _;have k6:Kept Nil w5 w6:=(Kept.refl _ _).alloc _;have oT:w6.heap[w5.heap.size]? =some (.cells b.1 ag (0,0)):=aJ w5 _;clear_value w6;have rT:=k6.heap ze (fun h=>h);have Jy:=(k5.trans k6 (fun _ _ h=>h)).heap Sc (fun h=>h);have mL:=(k4.trans k5 (fun _ _ h=>h)).trans k6 (fun _ _ h=>h);refine⟨_,by rw [ax Jy];rfl,a.1,⟨a.2.1,Cells.bC rT⟩,b.1,⟨b.2.1,Cells.bC oT⟩,a.2.1,b.2.1,?_⟩;intro w10;have mC:Kept Nil w6 w10:=(Kept.refl _ _).alloc _;have JC:HS w10 (some ⟨w6.heap.size,0,none⟩) 2 [a,b]:=HS.lay (l:= [a,b]) (t:=ag) (by rw [<-CY a b];exact aJ w6 _);clear_value w10;have wX:=mL.trans mC (fun _ _ h=>h);refine pk (h.same wX) JC (by omega) fun lU vc=>⟨_,rfl,?_⟩;have rL:=wX.trans vc (fun _ _ h=>h);have AI:=mC.trans vc (fun _ _ h=>h);by_cases cS: ∀p∈ [a,b],p∈ids D
 ·refine Split.no (by rw [decide_eq_true cS];rfl) ?_
  have abg:=AI.heap rT (fun h=>h);have abb:=AI.heap oT (fun h=>h);refine⟨a.1,⟨a.2.1,Cells.bC abg⟩,b.1,⟨b.2.1,Cells.bC abb⟩,⟨a.2.ints,b.2.ints⟩,?_⟩;rw [dq];refine Split.dec (fun he=>?_) (fun he=>?_)
  ·subst he
   exact hK lU false ⟨(fun e=>by cases e),fun e=>absurd e (eZ.irrefl h.W a)⟩ rL
  ·intro iz
   have jS:Kept Nil lU iz:=(Kept.refl _ _).drew;clear_value iz;have R1:=rL.trans jS (fun _ _ h=>h);have Jo:=AI.trans jS (fun _ _ h=>h);refine⟨_,by rw [ax (Jo.heap Jy (fun h=>h))];rfl,a.1,⟨a.2.1,Cells.bC (Jo.heap rT (fun h=>h))⟩,b.1,⟨b.2.1,Cells.bC (Jo.heap oT (fun h=>h))⟩,?_⟩;refine oG (h.same R1) a b fun xW r hr Gu=>⟨r,rfl,?_⟩;have Nl:=R1.trans Gu (fun _ _ h=>h);have Jn:=Jo.trans Gu (fun _ _ h=>h);cases r with
   |true=>exact Split.yes rfl (hK xW true ⟨fun _=>(HZ h.W h.je he).2 (.inl (hr.1 rfl)),fun _=>rfl⟩ Nl)
   |false=>
    refine Split.no rfl ?_;have h21:=h.same Nl;obtain⟨f,hf,Uc⟩:=h21.Xb;obtain⟨l,hl,gZ⟩:=Uc a;have CR:=hf.look wT a;have fin: ∀ {A:Option Addr} {n c:Nat},(f a).getD (.slice none 0 0)=.slice A n c->HS xW A n l->n<=D.length->
     bn prog dD.id #[.slice A n c,.func (.func cG.id) #[] #[.pointer (some ⟨w.heap.size,0,none⟩),.pointer (some ⟨w5.heap.size,0,none⟩)]] xW fun v28 Xv=> ∃t:Bool,v28=.bool t/\K (.bool t) Xv:=fun _ hs hn=>
     uS h21 (Jn.heap Jy (fun h=>h)) (Jn.heap oT (fun h=>h)) hs (by omega) fun vg r2 jv Jr=>⟨r2,rfl,hK vg r2 (by
      rw [jv,HZ h.W h.je he];constructor
      ·rintro⟨c,h1,h2⟩;exact .inr ⟨c,(gZ c).1 h1,h2⟩
      ·rintro(h1|⟨c,h1,h2⟩)
       ·cases hr.2 h1
       ·exact⟨c,(gZ c).2 h1,h2⟩) (Nl.trans Jr (fun _ _ h=>h))⟩
    refine⟨some ⟨x,0,none⟩,by rw [ax (Jn.heap Jy (fun h=>h))];rfl,_,h21.c4,a.1,⟨a.2.1,Cells.bC (Jn.heap rT (fun h=>h))⟩,?_⟩;rcases hl with⟨h1,rfl⟩|⟨A,n,c,h1,h2,h3,h4,h5⟩
    ·rw [h1]at CR
     exact⟨none,0,0,CR,fin (by rw [h1];rfl) (HS.nil _ _) (by omega)⟩
    ·rw [h1]at CR
     exact⟨A,n,c,CR,fin (by rw [h1];rfl) h3 h4⟩
 ·refine Split.yes (by rw [decide_eq_false cS];rfl) (hK lU false ⟨(fun e=>by cases e),fun e=>absurd (fun p hp=>?_) cS⟩ rL)
  simp only [List.mem_cons,List.not_mem_nil,or_false]at hp;rcases hp with rfl|rfl
  ·exact(e.mem h.W).1
  ·exact(e.mem h.W).2
end
end Go.Proofs.YtnboahlopghcjaaGreatDoor
namespace Go.Proofs.YtnboahlopghcjaaGreatDoor
open Go.Proofs.Tryz
open Go Go.bV Go.RowKit
section
variable{w w':World}{K:Value->World->Prop}
theorem wA{A:Option Addr}{n c:Nat}(Ep:n<=c)(hK:K (.slice A n n) w):bn prog cZ.id #[.slice A n c] w K:=by
 refine cZ.of ⟨⟨by omega,by omega⟩,⟨by omega,by simp⟩,?_⟩;have e:(if(n:Int).toNat=0 then A else A.map (·.add (0*32)))=A:=by
  split
  ·rfl
  ·cases A with
   |none=>rfl
   |some a=>simp [add_zero]
 rw [e];simpa using hK
theorem pR{A:Option Addr}{n c:Nat}{l:List HT}(h:HT)(hl:HS w A n l)(hn:n<=1000000)(hK: ∀w',Kept Nil w w'->K (.bool (decide (h∈l))) w'):
 bn prog cu.id #[.slice A n c,.agg h.1] w K:=by
 have hlen:=hl.len;refine cu.of ?_;unfold cu.W;intro w3;have k3:Kept Nil w w3:=(Kept.refl _ _).alloc _;have oo:w3.heap[w.heap.size]? =some (.cells h.1 ag (0,0)):=aJ w _;clear_value w3;refine⟨h.1,⟨h.2.1,Cells.bC oo⟩,?_⟩;refine aP.of ?_;unfold aP.W;intro w4;have k4:Kept Nil w3 w4:=(Kept.refl _ _).alloc _;have qi:w4.heap[w3.heap.size]? =some (.cells h.1 ag (0,0)):=aJ w3 _;clear_value w4;have qd:=k3.trans k4 (fun _ _ h=>h);refine aP.b6 (I:=fun s w'=> ∃i:Nat,s=(0,(i:Int))/\i<=n/\Kept Nil w4 w'/\h∉l.take i) (μ:=fun s _=>((n:Int)-s.2).toNat) (s:=(0,0)) ⟨0,rfl,Nat.zero_le _,Kept.refl _ _,by simp⟩ ?_;rintro s w' ⟨i,rfl,hi,kw,mN⟩;refine Split.dec (fun cI=>?_) (fun gu=>?_)
 ·simp only at cI
  have dP:i<n:=by omega
  obtain⟨y,hy⟩: ∃y,l[i]? =some y:=⟨_,List.getElem?_eq_getElem (by omega)⟩;intro w9;have k9:Kept Nil w' w9:=(Kept.refl _ _).drew;clear_value w9;have Yv:=kw.trans k9 (fun _ _ h=>h);have Eg:=qd.trans Yv (fun _ _ h=>h);refine⟨h.1,⟨h.2.1,Cells.bC (Yv.heap qi (fun h=>h))⟩,?_⟩;refine(hl.same Eg).load (i:=(i:Int)) (by omega) hy ⟨⟨h.2.ints,y.2.ints⟩,?_⟩;rw [dq];refine Split.dec (fun he=>?_) (fun he=>?_)
  ·refine⟨(i:Int),rfl,?_⟩
   have:=hK w9 Eg;rw [decide_eq_true (by rw [he];exact List.mem_of_getElem? hy)]at this;rw [show decide ((i:Int)>=(0:Int))=true from decide_eq_true (by omega)];exact this
  ·simp only
   rw [gY (x:=(i:Int)+1) (by omega) (by omega)];refine⟨(0,(i:Int)+1),rfl,⟨i+1,rfl,dP,Yv,?_⟩,by simp only;omega⟩;rw [List.take_add_one,hy];simp only [Option.toList_some,List.mem_append,List.mem_singleton,not_or];exact⟨mN,he⟩
 ·simp only at gu
  rw [aS,aP.cX];refine⟨-1,rfl,?_⟩;have:=hK w' (qd.trans kw (fun _ _ h=>h));rw [List.take_of_length_le (by omega)]at mN;rw [decide_eq_false mN]at this;exact this
theorem xv{A:Option Addr}{n cx:Nat}{l:List HT}{h:HT}{b:Nat}(hl:HS w A n l)(hb:HS w (some ⟨b,0,none⟩) 1 [h])(hn:n<=100000):
 ∃A' c' w',(Builtin.append_ #[az,az] az #[.slice A n n,.slice (some ⟨b,0,none⟩) 1 cx]).run prog w=.ok (.slice A' (n+1) c') w'/\
  HS w' A' (n+1) (l++ [h])/\n+1<=c'/\(∀a,A'=some a->w.heap.size<=a.block/\a.block<w'.heap.size)/\Kept Nil w w':=by
 have hlen:=hl.len;cases A with
 |none=>
  obtain⟨rfl,rfl⟩:=hl.none;obtain⟨A',c',w',hr,e8,hg,hbk⟩:=cD (cx:=cx) az (bO.nil w w.heap.size) hb (by omega) (Nat.le_refl _);rw [Nat.zero_add]at hr e8;rw [List.nil_append]at e8;obtain⟨b',rfl⟩:=Row.some e8 (by omega);have vz:=Row.bC e8 (k:=b') rfl;refine⟨some ⟨b',0,Option.none⟩,c',w',hr,bO.hs e8,?_,fun a ha=>?_,Kept.eA (Kept.refl _ _) hg (fun k hk=>by cases hk)⟩
  ·rcases Row.own e8 with⟨h1,_⟩|⟨_,_,_,_,_,h1,_⟩
   ·cases h1
   ·exact h1
  ·cases ha
   obtain⟨h1,cur,h2⟩:=vz;exact⟨h1,aQ h2⟩
 |some a=>
  obtain⟨i,z,hi,hz,hs,Iz,CJ⟩:=oy.inf;have hr:=run_append_grow (P:=prog) (w:=w) az az ag i z oy.og hi hz a n n (dd l) (by rw [eF,hs,hlen]) hl.cells ⟨b,0,Option.none⟩ 1 cx (dd [h]) (by rw [eF,hs];rfl) hb.cells (by omega) (by omega) (growslice_fits (by omega) (by rw [Iz];omega));refine⟨_,_,_,hr,⟨by simp [hlen],fun j y hj=>⟨_,rfl,?_,?_⟩⟩,grownCap_ge _ _ _ _,fun a' zX=>?_,?_⟩
  ·have:=aJ w.drew (.cells ((dd l).toArray++(dd [h]).toArray++Builtin.zeroCells z.cells (grownCap w (n+1) n ag-(n+1))) ag)
   exact aQ this
  ·intro q v hq
   rw [ba,ba,Nat.zero_add];have hblk:=aJ w.drew (.cells ((dd l).toArray++(dd [h]).toArray++Builtin.zeroCells z.cells (grownCap w (n+1) n ag-(n+1))) ag);have e:(w.drew.heap.size)=w.heap.size:=rfl;rw [e]at hblk;rw [ax hblk];have h1:=jZ hj hq;rw [lK]at h1;have cI:=(List.getElem?_eq_some_iff.1 h1).1;rw [Array.getElem?_append_left (by simpa using cI)];simpa using h1
  ·cases zX
   have:=aJ w.drew (.cells ((dd l).toArray++(dd [h]).toArray++Builtin.zeroCells z.cells (grownCap w (n+1) n ag-(n+1))) ag);exact⟨Nat.le_refl _,aQ this⟩
  ·exact(Kept.refl Nil w).drew.alloc _
end
end Go.Proofs.YtnboahlopghcjaaGreatDoor
namespace Go.Proofs.YtnboahlopghcjaaGreatDoor
open Go.Proofs.Tryz
open Go Go.bV Go.RowKit
def gw(D:DG)(h s:HT)(l:List HT):Int:=if dp D h l=0 then(if s∈l then 0 else 2)else dp D h l
theorem pa{D:DG}{h:HT}{l:List HT}(e:dp D h l=0):lZ D h l=D++ [⟨h,df l⟩]:=by unfold lZ;rw [if_pos e]
section
variable{w w':World}{S ST:Nat->Prop}{t:Nat}{T:List Tr.Nd}{d:Int}
theorem se(h:Tr.oq w ST t T d):Tr.oq w (fun k=>ST k/\k<w.heap.size) t T d:=by
 obtain⟨b,c,L,h⟩:=h;refine⟨b,c,L,{h with gS:=⟨h.gS,h.lt⟩,fQ:=⟨h.fQ,?_⟩,p9:=fun i p hi=>?_}⟩
 ·obtain⟨A,m,hk⟩:=h.p9 i p hi
  exact⟨A,m,{hk with jM:=fun k e=>⟨hk.jM k e,let ⟨_,_,hc⟩:=Row.bC hk.row e;aQ hc⟩}⟩
 ·obtain⟨cur,hc⟩:=h.uY
  exact aQ hc
end
section
variable{w w':World}{F:Nat->Prop}{x:Nat}{D:DG}{P:List Int}{m:XM}{K:Value->World->Prop}
theorem H4{v:World}{hid s:HT}{S2 F2 SO2:Nat->Prop}{ps:List HT}{j:Nat}{mj:DN}{Eh sb:Nat}{b8:Int}{DU:Option Nat}{A7:Option Addr}{n7 c7:Nat}{i7:Int}{s1 s2:Nat}
 (h:XV w F x D P m) (hD:D.length<=5000) (hn:hid∉ids D) (fN: ∀p∈ps,p∈ids D) (tq:SS ps) (hj:D[j]? =some mj) (hs:mj.id=s) (yX:s∈ps)
 (iM:v.heap[x]? =some (.cells #[.pointer (some ⟨m.g,0,none⟩),.pointer (some ⟨m.t,0,none⟩),.map (some m.mb),.slice (some ⟨m.ib,0,none⟩) D.length m.ic,.map (some m.cb)] eo (0,0)))
 (aiu:w.heap.size<=Eh) (ahq:w.heap.size<=sb) (Oy:v.heap[Eh]? =some (.cells hid.1 ag (0,0))) (GU:v.heap[sb]? =some (.cells s.1 ag (0,0)))
 (hG:BV v S2 F2 m.g (D++ [⟨hid,ps⟩])) (hT:Tr.oq v m.ST m.t m.T m.d) (hat:IsMap v m.mb (ids D)) (e8:bO v 0 (some ⟨m.ib,0,none⟩) D.length m.ic (ids D))
 (ON: ∃f,fk v m.cb f/\ ∀y,∃l,nP v SO2 (D.length+1) (f y) l/\ ∀c,c∈l↔Mi (D++ [⟨hid,ps⟩]) (P++ [(j:Int)]) y c)
 (xe:w.heap.size<=s1) (AU:s1<=s2) (AT:s2<=v.heap.size)
 (PR: ∀k,S2 k->(m.SG k\/w.heap.size<=k)/\k<s1) (PS: ∀k,F2 k->(F k\/w.heap.size<=k)/\k<s1) (K0: ∀k,SO2 k->m.SO k\/(s2<=k/\k<v.heap.size))
 (kv:Kept (fun k=>m.jM x k) w v)
 (hK: ∀u S' F',BU u S' F' x (D++ [⟨hid,ps⟩]) (P++ [(j:Int)])->Kept (fun k=>m.jM x k) w u->(∀k,S' k->m.jM x k\/w.heap.size<=k)->(∀k,F' k->F k\/w.heap.size<=k)->K (.int .i64 0) u):
 aD.Pu (some ⟨x,0,none⟩) ⟨Eh,0,none⟩ ⟨sb,0,none⟩ b8 DU A7 n7 c7 i7 i7 K v:=by
 have W:=h.W;have mO:=h.low;have ri:=(List.getElem?_eq_some_iff.1 hj).1;have Y9:=h.MB;have ZJ:m.own x x:=.inl rfl;have S6:m.own x m.mb:=.inr (.inl rfl);have S7:m.own x m.ib:=.inr (.inr (.inl rfl));have sT:m.own x m.cb:=.inr (.inr (.inr rfl));obtain⟨PK,Q6,MQ,Q5,PJ,Q4⟩:=h.ne;unfold aD.Pu;intro Dp;have vq:Kept Nil v Dp:=(Kept.refl _ _).drew;clear_value Dp;have c1:Dp.cell? ((⟨x,0,none⟩:Addr).add 1)=some (.pointer (some ⟨m.t,0,none⟩)):=by rw [ba,ax (vq.heap iM (fun h=>h))];rfl
 have c2:Dp.cell? ((⟨x,0,none⟩:Addr).add 2)=some (.map (some m.mb)):=by rw [ba,ax (vq.heap iM (fun h=>h))];rfl
 have Ht:=hat.aC vq (fun h=>h);have lk:=Ht.we s;rw [<-hs,W.pos_eq hj]at lk;rw [hs]at lk;refine⟨_,c1,_,c2,s.1,⟨s.2.1,Cells.bC (vq.heap GU (fun h=>h))⟩,_,lk,?_⟩;have UX:=se (hT.same vq);refine Tr.FB UX h.Kt (p:=j) (by omega) (by omega) ⟨h.dl.1,by have:=h.dl.2;omega⟩ fun Dn VL T' d' UW Hx SP hd' Ee abk=>⟨_,_,rfl,?_⟩;have afW:=vq.size;have PQ: ∀k,VL k->m.ST k\/Dp.heap.size<=k:=fun k hk=>(abk k hk).imp (fun h=>h.1) (fun h=>h);have nST: ∀k,(m.ST k/\k<Dp.heap.size)->m.ST k:=fun k h=>h.1;have Mz:=Ee.heap (vq.heap iM (fun h=>h)) (fun e=>(h.od x ZJ).2.1 e.1);intro Fv;have Ed:Kept Nil Dn Fv:=(Kept.refl _ _).drew;clear_value Fv;have FE:=Ed.heap Mz (fun h=>h);have CQ: ∀k,m.ST k->k<w.heap.size:=fun k e=>mO k (.inl (.inr (.inl e)));have lox:x<w.heap.size:=mO x (.inl (.inr (.inr (.inr ZJ))));have agq:m.mb<w.heap.size:=mO _ (.inl (.inr (.inr (.inr S6))));have agr:m.ib<w.heap.size:=mO _ (.inl (.inr (.inr (.inr S7))));have Rh:m.cb<w.heap.size:=mO _ (.inl (.inr (.inr (.inr sT))));have sv:=kv.size;have CU:Fv.heap[Eh]? =some (.cells hid.1 ag (0,0)):=Ed.heap (Ee.heap (vq.heap Oy (fun h=>h)) (fun e=>by have:=CQ _ e.1;omega)) (fun h=>h);have xO:Fv.cell? ((⟨x,0,none⟩:Addr).add 2)=some (.map (some m.mb)):=by rw [ba,ax FE];rfl
 have OY:IsMap Fv m.mb (ids D):=(Ht.aC Ee (fun e=>(h.od _ S6).2.1 e.1)).aC Ed (fun h=>h);obtain⟨Ms,Lv,OX,RX⟩:=OY.put hn;rw [fR,<-Y9]at Lv;refine⟨_,xO,hid.1,⟨hid.2.1,Cells.bC CU⟩,Ms,Lv,?_⟩;intro Dm;have RW:Kept Nil Ms Dm:=(Kept.refl _ _).drew;clear_value Dm;have wW:=RX.trans RW (fun _ _ h=>h.elim);have FD:=wW.heap FE (fun e=>PK e);have c3: ∀ {u:World},Kept Nil Dm u->u.cell? ((⟨x,0,none⟩:Addr).add 3)=some (.slice (some ⟨m.ib,0,none⟩) D.length m.ic):=fun k=>by rw [ba,ax (k.heap FD (fun h=>h))];rfl
 have JT:=wW.heap CU (fun e=>by omega);refine⟨_,_,_,c3 (Kept.refl _ _),hid.1,⟨hid.2.1,Cells.bC JT⟩,hid.2.1,?_⟩;intro xY;have Ju:Kept Nil Dm xY:=(Kept.refl _ _).alloc _;have UK:HS xY (some ⟨Dm.heap.size,0,none⟩) 1 [hid]:=jb Dm hid;clear_value xY;have CG:=wW.trans Ju (fun _ _ h=>h.elim);have MK:bO xY 0 (some ⟨m.ib,0,none⟩) D.length m.ic (ids D):=
  Row.aC (Row.aC (Row.aC (Row.aC e8 vq (fun _ _ h=>h)) Ee (fun k e e'=>by cases e;exact(h.od _ S7).2.1 e'.1)) Ed (fun _ _ h=>h)) CG (fun k e e'=>by cases e;exact Q5 e'.symm)
 obtain⟨A',c',Dk,SD,Ap,TY,UJ⟩:=cD (cx:=1) az MK UK (by omega) (Nat.zero_le _);have Ni:Kept (· =m.ib) xY Dk:=Kept.grown (Kept.refl _ _) TY (fun k e _=>by cases e;rfl);obtain⟨zR,rfl⟩:=Row.some Ap (by omega);have JU:zR=m.ib\/xY.heap.size<=zR:=by
  rcases UJ zR rfl with e|e
  ·left;simpa [bg]using e.symm
  ·exact .inr e
 have FC:=Ni.heap (Ju.heap FD (fun h=>h)) (fun e=>Q6 e);refine⟨c3 Ju,some ⟨zR,0,none⟩,_,c',Dk,SD,Is.mk rfl ⟨?_,?_⟩⟩
 ·rw [ba]
  exact dM FC (by simp)
 intro xX;have Vw:xX=Dk.setCell ⟨x,3,none⟩ (.slice (some ⟨zR,0,none⟩) (D.length+1) c'):=by
  show Dk.setCell ((⟨x,0,none⟩:Addr).add 3) _=_
  rw [ba]
 have Nh:Kept (· =x) Dk xX:=by rw [Vw];exact Kept.setCell (S:=fun k=>k=x) (Kept.refl _ Dk) (p:=⟨x,3,none⟩) (fun _=>rfl) _
 have My:xX.heap[x]? =some (.cells #[.pointer (some ⟨m.g,0,none⟩),.pointer (some ⟨m.t,0,none⟩),.map (some m.mb),.slice (some ⟨zR,0,none⟩) (D.length+1) c',.map (some m.cb)] eo (0,0)):=by
  rw [Vw,cU FC 3];rfl
 clear_value xX;have afV:=Ee.size;have afU:=Ed.size;have afT:=CG.size;have afS:=Ni.size;have afR:=Nh.size;have kC:Kept (fun k=>k=m.ib\/k=x) Ms xX:=(((RW.trans Ju (fun _ _ h=>h)).mono (S':=fun k=>k=m.ib\/k=x) (fun _ _ h=>h.elim)).trans Ni (fun _ _ h=>.inl h)).trans Nh (fun _ _ h=>.inr h);have kB:Kept (fun k=>k=m.mb\/k=m.ib\/k=x) Dn xX:=((Ed.mono (S':=fun k=>k=m.mb\/k=m.ib\/k=x) (fun _ _ h=>h.elim)).trans RX (fun _ _ h=>.inl h)).trans kC (fun _ _ h=>.inr h);have kA:Kept (fun k=>m.ST k\/k=m.mb\/k=m.ib\/k=x) v xX:=((vq.mono (S':=fun k=>m.ST k\/k=m.mb\/k=m.ib\/k=x) (fun _ _ h=>h.elim)).trans Ee (fun _ _ h=>.inl h.1)).trans kB (fun _ _ h=>.inr h);have DT: ∀k,(k=m.mb\/k=m.ib\/k=x)->m.own x k:=fun k e=>by
  rcases e with e|e|e
  ·exact .inr (.inl e)
  ·exact .inr (.inr (.inl e))
  ·exact .inl e
 have IZ: ∀k,m.own x k->k<w.heap.size:=fun k e=>mO k (.inl (.inr (.inr (.inr e))));have I7: ∀k,m.SG k->k<w.heap.size:=fun k e=>mO k (.inl (.inl e));have Gc: ∀k,m.SO k->k<w.heap.size:=fun k e=>mO k (.inl (.inr (.inr (.inl e))));have nG: ∀k,S2 k-> ¬(m.ST k\/k=m.mb\/k=m.ib\/k=x):=fun k h1 h2=>by
  obtain⟨h3,_⟩:=PR k h1;rcases h2 with h2|h2
  ·rcases h3 with h3|h3
   ·exact(h.gt k h3).1 h2
   ·have:=CQ k h2;omega
  ·have h4:=DT k h2
   rcases h3 with h3|h3
   ·exact(h.od k h4).1 h3
   ·have:=IZ k h4;omega
 have nF: ∀k,F2 k-> ¬(m.ST k\/k=m.mb\/k=m.ib\/k=x):=fun k h1 h2=>by
  obtain⟨h3,_⟩:=PS k h1;rcases h2 with h2|h2
  ·rcases h3 with h3|h3
   ·exact(h.fd k h3).1 h2
   ·have:=CQ k h2;omega
  ·have h4:=DT k h2
   rcases h3 with h3|h3
   ·exact(h.od k h4).2.2.2 h3
   ·have:=IZ k h4;omega
 have X4: ∀k,SO2 k-> ¬(m.ST k\/k=m.mb\/k=m.ib\/k=x):=fun k h1 h2=>by
  rcases K0 k h1 with h3|⟨h3,_⟩
  ·rcases h2 with h2|h2
   ·exact h.to k h2 h3
   ·exact(h.od k (DT k h2)).2.2.1 h3
  ·rcases h2 with h2|h2
   ·have:=CQ k h2;omega
   ·have:=IZ k (DT k h2);omega
 have nT: ∀k,(VL k/\k<Dn.heap.size)-> ¬(k=m.mb\/k=m.ib\/k=x):=fun k h1 h2=>by
  have h4:=DT k h2;rcases PQ k h1.1 with h3|h3
  ·exact(h.od k h4).2.1 h3
  ·have:=IZ k h4;omega
 refine hK xX (fun k=>(S2 k\/(VL k/\k<Dn.heap.size)\/SO2 k\/(k=x\/k=m.mb\/k=zR\/k=m.cb))) F2 ⟨{m with ib:=zR,ic:=c',T:=T',d:=d',SG:=S2,ST:=fun k=>VL k/\k<Dn.heap.size,SO:=SO2},?_,fun k e=>e⟩ ?_ ?_ ?_
 ·refine⟨?_,hG.aC kA nG nF,(se UW).aC kB nT,Hx,?_,?_,?_,?_,?_,?_,?_,?_,?_,?_,?_,?_,?_⟩
  ·rw [List.length_append];exact My
  ·show Tr.bP T'=_
   rw [SP,h.bP]
  ·have:=h.dl
   simp only [List.length_append,List.length_singleton];show 0<=d'/\d'<=_
   omega
  ·rw [km]
   exact OX.aC kC (fun e=>e.elim (fun e=>Q5 e) (fun e=>PK e.symm))
  ·rw [km,List.length_append]
   refine Row.aC Ap Nh (fun k e e'=>?_);have e1:zR=k:=by simpa [bg]using e
   rcases JU with e|e
   ·exact Q6 (e'.symm.trans (e1.symm.trans e))
   ·omega
  ·obtain⟨f,hf,hc⟩:=ON
   refine⟨f,hf.aC kA (fun e=>?_),fun y=>?_⟩
   ·rcases e with e|e|e|e
    ·exact(h.od _ sT).2.1 e
    ·exact PJ e.symm
    ·exact Q4 e.symm
    ·exact MQ e.symm
   ·obtain⟨l,h1,h2⟩:=hc y
    refine⟨l,?_,h2⟩;rw [List.length_append];exact h1.aC kA X4
  ·exact h.je.snoc hj (by rw [hs];exact yX) W.pos
  ·exact W.snoc (nd:=⟨hid,ps⟩) hn fN tq
  ·intro k h1
   obtain⟨h3,h4⟩:=PR k h1;refine⟨fun h2=>?_,fun h2=>?_⟩
   ·rcases PQ k h2.1 with h5|h5
    ·exact nG k h1 (.inl h5)
    ·omega
   ·rcases K0 k h2 with h5|h5
    ·rcases h3 with h3|h3
     ·exact(h.gt k h3).2 h5
     ·have:=Gc k h5;omega
    ·omega
  ·intro k h1 h2
   rcases PQ k h1.1 with h5|h5
   ·exact X4 k h2 (.inl h5)
   ·rcases K0 k h2 with h6|h6
    ·have:=Gc k h6;omega
    ·omega
  ·intro k h1
   obtain⟨h3,h4⟩:=PS k h1;refine⟨fun h2=>?_,fun h2=>?_⟩
   ·rcases PQ k h2.1 with h5|h5
    ·exact nF k h1 (.inl h5)
    ·omega
   ·rcases K0 k h2 with h5|h5
    ·rcases h3 with h3|h3
     ·exact(h.fd k h3).2 h5
     ·have:=Gc k h5;omega
    ·omega
  ·intro k e
   have e':(k=m.mb\/k=m.ib\/k=x)\/(k=m.cb)\/(k=zR/\xY.heap.size<=zR):=by
    rcases e with e|e|e|e
    ·exact .inl (.inr (.inr e))
    ·exact .inl (.inl e)
    ·rcases JU with h5|h5
     ·exact .inl (.inr (.inl (e.trans h5)))
     ·exact .inr (.inr ⟨e,h5⟩)
    ·exact .inr (.inl e)
   have big:xY.heap.size<=k-> ¬S2 k/\ ¬(VL k/\k<Dn.heap.size)/\ ¬SO2 k/\ ¬F2 k:=fun hb=>
    ⟨fun h1=>by have:=(PR k h1).2;omega,fun h1=>by have:=h1.2;omega,fun h1=>(K0 k h1).elim (fun h2=>by have:=Gc k h2;omega) (fun h2=>by omega),fun h1=>by have:=(PS k h1).2;omega⟩
   rcases e' with e'|e'|⟨rfl,e'⟩
   ·exact⟨fun h1=>nG k h1 (.inr e'),fun h1=>nT k h1 e',fun h1=>X4 k h1 (.inr e'),fun h1=>nF k h1 (.inr e')⟩
   ·subst e'
    have WI:=h.od _ sT;refine⟨fun h1=>?_,fun h1=>?_,fun h1=>?_,fun h1=>?_⟩
    ·rcases(PR _ h1).1 with h2|h2
     ·exact WI.1 h2
     ·omega
    ·rcases PQ _ h1.1 with h2|h2
     ·exact WI.2.1 h2
     ·omega
    ·rcases K0 _ h1 with h2|h2
     ·exact WI.2.2.1 h2
     ·omega
    ·rcases(PS _ h1).1 with h2|h2
     ·exact WI.2.2.2 h2
     ·omega
   ·exact big e'
  ·show x≠m.mb/\x≠zR/\x≠m.cb/\m.mb≠zR/\m.mb≠m.cb/\zR≠m.cb
   rcases JU with h5|h5
   ·rw [h5];exact⟨PK,Q6,MQ,Q5,PJ,Q4⟩
   ·exact⟨PK,by omega,MQ,by omega,PJ,by omega⟩
  ·intro k e
   have hblk:=(Row.bC Ap (k:=zR) rfl).2;obtain⟨cur,oR⟩:=hblk;have lib:=aQ oR;rcases e with e|e
   ·rcases e with e|e|e|e
    ·have:=(PR k e).2;omega
    ·have:=e.2;omega
    ·rcases K0 k e with h2|h2
     ·have:=Gc k h2;omega
     ·omega
    ·rcases e with e|e|e|e
     ·omega
     ·have e:k=m.mb:=e;omega
     ·have e:k=zR:=e;omega
     ·have e:k=m.cb:=e;omega
   ·have:=(PS k e).2;omega
 ·refine kv.trans kA (fun k _ e=>?_)
  rcases e with e|e
  ·exact .inr (.inl e)
  ·exact .inr (.inr (.inr (DT k e)))
 ·intro k e
  rcases e with e|e|e|e
  ·exact(PR k e).1.imp (fun h=>.inl h) (fun h=>h)
  ·rcases PQ k e.1 with h5|h5
   ·exact .inl (.inr (.inl h5))
   ·exact .inr (by omega)
  ·rcases K0 k e with h5|h5
   ·exact .inl (.inr (.inr (.inl h5)))
   ·exact .inr (by omega)
  ·rcases e with e|e|e|e
   ·exact .inl (.inr (.inr (.inr (.inl e))))
   ·exact .inl (.inr (.inr (.inr (.inr (.inl e)))))
   ·rcases JU with h5|h5
    ·exact .inl (.inr (.inr (.inr (.inr (.inr (.inl (e.trans h5)))))))
    ·exact .inr (by omega)
   ·exact .inl (.inr (.inr (.inr (.inr (.inr (.inr e))))))
 ·exact fun k e=>(PS k e).1
end
end Go.Proofs.YtnboahlopghcjaaGreatDoor
namespace Go.Proofs.YtnboahlopghcjaaGreatDoor
open Go.Proofs.Tryz
open Go Go.bV Go.RowKit
section
variable{w w':World}{F S:Nat->Prop}{x:Nat}{D:DG}{P:List Int}{m:XM}{K:Value->World->Prop}
theorem EU{u v:World}{hid s:HT}{D':DG}{ps pl:List HT}{Eh ob i:Nat}{A7:Option Addr}{c7:Nat}{b8:Int}{sb:Addr}{f0:HT->Option Value}{Q:aO}{V8:Option Nat}
 (h:XV w F x D P m) (hD:D.length<=5000) (hwu:w.heap.size<=u.heap.size)
 (iM:u.heap[x]? =some (.cells #[.pointer (some ⟨m.g,0,none⟩),.pointer (some ⟨m.t,0,none⟩),.map (some m.mb),.slice (some ⟨m.ib,0,none⟩) D.length m.ic,.map (some m.cb)] eo (0,0)))
 (Oy:u.heap[Eh]? =some (.cells hid.1 ag (0,0))) (ahY:w.heap.size<=Eh) (hold:fk u ob f0) (ahV:w.heap.size<=ob) (ZM:V8=some ob)
 (hf0: ∀y,(y=s\/eZ D y s->f0 y=some (.agg #[.bool true]))/\(¬(y=s\/eZ D y s)->f0 y=none))
 (IT:bO u w.heap.size A7 pl.length c7 pl) (qp:pl.length<=10000)
 (kv:Kept (· =m.cb) u v) (hi:i<=pl.length) {Z:HT->HT->Prop}
 (ON: ∃f,fk v m.cb f/\ ∀y,∃l,nP v (fun k=>m.SO k\/(u.heap.size<=k/\k<v.heap.size)) (D.length+if y∈pl.take i then 1 else 0) (f y) l/\ ∀c,c∈l↔Mi D P y c\/(c=hid/\y∈pl.take i/\y≠s/\ ¬eZ D y s)) (fw:pl.Nodup)
 (hQ: ∀v',Kept (· =m.cb) u v'->(∃f,fk v' m.cb f/\ ∀y,∃l,nP v' (fun k=>m.SO k\/(u.heap.size<=k/\k<v'.heap.size)) (D.length+if y∈pl.take (i+1)then 1 else 0) (f y) l/\ ∀c,c∈l↔Mi D P y c\/(c=hid/\y∈pl.take (i+1)/\y≠s/\ ¬eZ D y s))->i<pl.length->
   Q .normal (aD.e2 (some ⟨x,0,none⟩) ⟨Eh,0,none⟩ sb b8 V8 A7 pl.length c7 (pl.length:Int) ((i:Int)+1)) v')
 (hE:i=pl.length->Q (.exit 3) (aD.e2 (some ⟨x,0,none⟩) ⟨Eh,0,none⟩ sb b8 V8 A7 pl.length c7 (pl.length:Int) (i:Int)) v):
 aD.B2 (some ⟨x,0,none⟩) ⟨Eh,0,none⟩ sb b8 V8 A7 pl.length c7 (pl.length:Int) (i:Int) Q v:=by
 subst ZM;have ZJ:m.own x x:=.inl rfl;have sT:m.own x m.cb:=.inr (.inr (.inr rfl));obtain⟨PK,Q6,MQ,Q5,PJ,Q4⟩:=h.ne;have Rh:m.cb<w.heap.size:=h.low _ (.inl (.inr (.inr (.inr sT))));have sv:=kv.size;unfold aD.B2;refine Split.dec (fun jf=>?_) (fun gu=>hE (by omega));have dP:i<pl.length:=by omega
 obtain⟨y,hy⟩: ∃y,pl[i]? =some y:=⟨_,List.getElem?_eq_getElem dP⟩;have Wj:y∉pl.take i:=fun hm=>by
  obtain⟨j,hj⟩:=List.mem_iff_getElem?.1 hm;rw [List.getElem?_take]at hj;split at hj
  ·rename_i cI
   have h1:=jW 0 j fw hj;rw [jW 0 i fw hy]at h1;simp only [Option.some.injEq]at h1;omega
  ·cases hj
 have MI:HS v A7 pl.length pl:=bO.hs (Row.aC IT kv (fun k hk e=>by have:=(Row.bC IT hk).1;omega));refine MI.load (i:=(i:Int)) (by omega) (by rw [Int.toNat_natCast];exact hy) ?_;intro w81;obtain⟨qP,iC,iI⟩:=fT (w:=v) (z:=(#[.int .u8 0,.int .u8 0,.int .u8 0,.int .u8 0,.int .u8 0,.int .u8 0,.int .u8 0,.int .u8 0,.int .u8 0,.int .u8 0,.int .u8 0,.int .u8 0,.int .u8 0,.int .u8 0,.int .u8 0,.int .u8 0,.int .u8 0,.int .u8 0,.int .u8 0,.int .u8 0,.int .u8 0,.int .u8 0,.int .u8 0,.int .u8 0,.int .u8 0,.int .u8 0,.int .u8 0,.int .u8 0,.int .u8 0,.int .u8 0,.int .u8 0,.int .u8 0]:Array Value)) (cs:=y.1) (t:=ag) (by rw [y.2.1];rfl);refine⟨⟨y.2.1,y.2.one,fun j hj=>qP j (by rw [y.2.1];exact hj)⟩,?_⟩;intro Mp
 replace iC:Mp.heap[v.heap.size]? =some (.cells y.1 ag (0,0)):=iC
 replace iI:Kept Nil v Mp:=iI
 clear_value Mp;have Wh:Kept (· =m.cb) u Mp:=kv.trans iI (fun _ _ h=>h.elim);have Ob:fk Mp ob f0:=hold.aC Wh (fun e=>by omega);have lk:=Ob.look F7 y;obtain⟨f,hf,hc⟩:=ON;have T8:=hf.aC iI (fun h=>h);obtain⟨l,qq,JP⟩:=hc y;have Ze:=iI.size;have Md: ∀ {v':World} {N N':Nat} {a:Option Value} {l:List HT},v.heap.size<=v'.heap.size->N<=N'->nP v' (fun k=>m.SO k\/(u.heap.size<=k/\k<v.heap.size)) N a l->nP v' (fun k=>m.SO k\/(u.heap.size<=k/\k<v'.heap.size)) N' a l:=fun hv hN za=>by
  rcases za with za|⟨A,n,c,h1,h2,h3,h4,h5⟩
  ·exact .inl za
  ·exact .inr ⟨A,n,c,h1,h2,h3,by omega,fun a ha=>(h5 a ha).imp (fun h=>h) (fun h=>⟨h.1,by omega⟩)⟩
 have Me: ∀ {v':World} {N:Nat} {a:Option Value} {l:List HT},Kept (· =m.cb) v v'->nP v (fun k=>m.SO k\/(u.heap.size<=k/\k<v.heap.size)) N a l->nP v' (fun k=>m.SO k\/(u.heap.size<=k/\k<v.heap.size)) N a l:=fun hk za=>za.aC hk (fun k mu e=>by
  rcases mu with h1|h1
  ·exact(h.od _ sT).2.2.1 (e▸h1)
  ·omega)
 refine⟨y.1,⟨y.2.1,Cells.bC iC⟩,?_⟩;by_cases jj:y=s\/eZ D y s
 ·rw [(hf0 y).1 jj]at lk
  refine⟨_,lk,true,rfl,Split.no rfl ?_⟩;rw [dE (n:=(i:Int)) (by omega) (by omega)];refine hQ Mp Wh ⟨f,T8,fun z=>?_⟩ dP;obtain⟨lz,h1,h2⟩:=hc z;refine⟨lz,Md Ze (by
   by_cases hz:z∈pl.take i
   ·rw [if_pos hz,if_pos ((bH hy).2 (.inl hz))];exact Nat.le_refl _
   ·rw [if_neg hz];omega) (Me (iI.mono (fun _ _ h=>h.elim)) h1),fun c=>?_⟩
  rw [h2,bH hy];constructor
  ·rintro(h3|⟨h3,h4,h5,h6⟩)
   ·exact .inl h3
   ·exact .inr ⟨h3,.inl h4,h5,h6⟩
  ·rintro(h3|⟨h3,h4|rfl,h5,h6⟩)
   ·exact .inl h3
   ·exact .inr ⟨h3,h4,h5,h6⟩
   ·exact absurd jj (fun e=>e.elim h5 h6)
 ·rw [(hf0 y).2 jj]at lk
  refine⟨_,lk,false,rfl,Split.yes rfl ?_⟩;intro BY;have RF:Kept Nil Mp BY:=(Kept.refl _ _).drew;clear_value BY;have Yi:=iI.trans RF (fun _ _ h=>h);have Hk:=RF.heap iC (fun h=>h);have sK: ∀ {q:World},Kept Nil BY q->q.cell? ((⟨x,0,none⟩:Addr).add 4)=some (.map (some m.cb)):=fun k=>by
   rw [ba,ax (k.heap (RF.heap (Wh.heap iM (fun e=>MQ e)) (fun h=>h)) (fun h=>h))];rfl
  have mE: ∀ {q:World},Kept Nil BY q-> ∃cs:Array Value,(.agg y.1:Value)=.agg cs/\cs.size=32/\Cells q (⟨v.heap.size,0,none⟩:Addr) cs:=fun k=>⟨y.1,rfl,y.2.1,Cells.bC (k.heap Hk (fun h=>h))⟩;have LL:BY.heap[Eh]? =some (.cells hid.1 ag (0,0)):=RF.heap (Wh.heap Oy (fun e=>by omega)) (fun h=>h);have aaJ: ∀ {q:World},Kept Nil BY q-> ∃cs:Array Value,(.agg hid.1:Value)=.agg cs/\cs.size=32/\Cells q (⟨Eh,0,none⟩:Addr) cs:=fun k=>⟨hid.1,rfl,hid.2.1,Cells.bC (k.heap LL (fun h=>h))⟩;have T7:=T8.aC RF (fun h=>h);obtain⟨A,n,c,gh,Ep,AS,hnN⟩: ∃(A:Option Addr) (n c:Nat),(f y).getD (.slice none 0 0)=.slice A n c/\n<=c/\HS v A n l/\n<=D.length:=by
   rcases qq with⟨h1,h2⟩|⟨A,n,c,h1,h2,h3,h4,_⟩
   ·exact⟨none,0,0,by rw [h1];rfl,Nat.le_refl _,by rw [h2];exact HS.nil _ _,by omega⟩
   ·rw [if_neg Wj]at h4
    exact⟨A,n,c,by rw [h1];rfl,h2,h3,by omega⟩
  have lk2: ∀ {q:World},Kept Nil BY q->(Instr.lookup gm (.map (some m.cb)) (.agg y.1) false).run prog q=.ok (.slice A n c) q:=fun k=>by
   have:=(T7.aC k (fun h=>h)).look wT y;rw [gh]at this;exact this
  have fin: ∀ {q:World} {bb:Nat},Kept Nil BY q->HS q (some ⟨bb,0,none⟩) 1 [hid]->
   ∃(A':Option Addr) (n' c':Nat) (q2:World),(Builtin.append_ #[az,az] az #[.slice A n n,.slice (some ⟨bb,0,none⟩) 1 1]).run prog q=.ok (.slice A' n' c') q2/\(∃cs:Array Value,(.agg y.1:Value)=.agg cs/\cs.size=32/\Cells q2 (⟨v.heap.size,0,none⟩:Addr) cs)/\q2.cell? ((⟨x,0,none⟩:Addr).add 4)=some (.map (some m.cb))/\
    ∃q3:World,(Instr.mapUpdate gm (.map (some m.cb)) (.agg y.1) (.slice A' n' c')).run prog q2=.ok () q3/\Q .normal (aD.e2 (some ⟨x,0,none⟩) ⟨Eh,0,none⟩ sb b8 (some ob) A7 pl.length c7 (pl.length:Int) (IntKind.i64.wrap ((i:Int)+(1:Int)))) q3:=by
   intro q bb kq vz;have Yh:=Yi.trans kq (fun _ _ h=>h);obtain⟨A',c',q2,hr,AU,LO,la,kq2⟩:=xv (cx:=1) (AS.same Yh) vz (by omega);have k2:=kq.trans kq2 (fun _ _ h=>h);obtain⟨q3,CN,hf3,k3⟩:=(T7.aC k2 (fun h=>h)).put wT y (.slice A' (n+1) c');refine⟨A',_,c',q2,hr,mE k2,sK k2,q3,CN,?_⟩;rw [dE (n:=(i:Int)) (by omega) (by omega)];have Rt:=Yh.trans kq2 (fun _ _ h=>h);have Rs:Kept (· =m.cb) v q3:=(Rt.mono (S':=(· =m.cb)) (fun _ _ h=>h.elim)).trans k3 (fun _ _ h=>h);have sq2:=Rt.size;have sq3:=k3.size;have svq:=Yh.size;refine hQ q3 (kv.trans Rs (fun _ _ h=>h)) ⟨_,hf3,fun z=>?_⟩ dP;by_cases hz:z=y
   ·subst hz
    refine⟨l++ [hid],.inr ⟨A',n+1,c',by simp,LO,AU.aC k3 (fun a ha e=>by have:=(la a ha).1;omega),?_,fun a ha=>.inr ?_⟩,fun c=>?_⟩
    ·rw [if_pos ((bH hy).2 (.inr rfl))];omega
    ·have:=la a ha;omega
    ·rw [List.mem_append,List.mem_singleton,JP,bH hy]
     constructor
     ·rintro((h3|⟨h3,h4,h5,h6⟩)|h3)
      ·exact .inl h3
      ·exact .inr ⟨h3,.inl h4,h5,h6⟩
      ·exact .inr ⟨h3,.inr rfl,fun e=>jj (.inl e),fun e=>jj (.inr e)⟩
     ·rintro(h3|⟨h3,h4,h5,h6⟩)
      ·exact .inl (.inl h3)
      ·exact .inr h3
   ·obtain⟨lz,h1,h2⟩:=hc z
    refine⟨lz,?_,fun c=>?_⟩
    ·simp only [hz,if_false]
     refine Md (by omega) ?_ (Me Rs h1);by_cases YD:z∈pl.take i
     ·rw [if_pos YD,if_pos ((bH hy).2 (.inl YD))];exact Nat.le_refl _
     ·rw [if_neg YD];omega
    ·rw [h2,bH hy]
     constructor
     ·rintro(h3|⟨h3,h4,h5,h6⟩)
      ·exact .inl h3
      ·exact .inr ⟨h3,.inl h4,h5,h6⟩
     ·rintro(h3|⟨h3,h4|h4,h5,h6⟩)
      ·exact .inl h3
      ·exact .inr ⟨h3,h4,h5,h6⟩
      ·exact absurd h4 hz
  refine⟨_,sK (Kept.refl _ _),y.1,⟨y.2.1,Cells.bC Hk⟩,_,sK (Kept.refl _ _),y.1,⟨y.2.1,Cells.bC Hk⟩,A,n,c,lk2 (Kept.refl _ _),hid.1,⟨hid.2.1,Cells.bC LL⟩,?_,⟨hid.2.1,?_⟩⟩
  ·refine wA Ep ⟨A,n,n,rfl,aaJ (Kept.refl _ _),mE (Kept.refl _ _),sK (Kept.refl _ _),hid.2.1,?_⟩
   intro Dq;have AN:Kept Nil BY Dq:=(Kept.refl _ _).alloc _;have UM:HS Dq (some ⟨BY.heap.size,0,none⟩) 1 [hid]:=jb BY hid;clear_value Dq;exact⟨mE AN,sK AN,fin AN UM⟩
  ·intro Mt
   have yS:Kept Nil BY Mt:=(Kept.refl _ _).alloc _;have UL:HS Mt (some ⟨BY.heap.size,0,none⟩) 1 [hid]:=jb BY hid;clear_value Mt;exact⟨lk2 yS,mE yS,sK yS,mE yS,sK yS,wA Ep ⟨A,n,n,rfl,mE yS,sK yS,fin yS UL⟩⟩
end
end Go.Proofs.YtnboahlopghcjaaGreatDoor
namespace Go.Proofs.YtnboahlopghcjaaGreatDoor
open Go.Proofs.Tryz
open Go Go.bV Go.RowKit
def mU(D:DG)(h s:HT)(l:List HT):DG:=if gw D h s l=0 then D++ [⟨h,df l⟩]else D
def mT(D:DG)(P:List Int)(h s:HT)(l:List HT):List Int:=if gw D h s l=0 then P++ [(((pos s (ids D) 0).getD 0:Nat):Int)]else P
section
variable{w w':World}{F S:Nat->Prop}{x:Nat}{D:DG}{P:List Int}{m:XM}{K:Value->World->Prop}
theorem DP(h:XV w F x D P m)(hD:D.length<=5000)(hT:tg w)(IA: ¬m.SG (Tryz.jn.g 1)){A:Option Addr}{n cx:Nat}{lp:List HT}(hl:HS w A n lp)(hn:n<=5000)(hid s:HT)
 (mN: ∀v,Kept Nil w v->gw D hid s lp≠0->K (.int .i64 (gw D hid s lp)) v)
 (yV: ∀u S' F',BU u S' F' x (mU D hid s lp) (mT D P hid s lp)->Kept (fun k=>m.jM x k) w u->(∀k,S' k->m.jM x k\/w.heap.size<=k)->(∀k,F' k->F k\/w.heap.size<=k)->gw D hid s lp=0->K (.int .i64 0) u):
 bn prog aD.id #[.pointer (some ⟨x,0,none⟩),.agg hid.1,.agg s.1,.slice A n cx] w K:=by
 have hlen:=hl.len;have W:=h.W;refine aD.of ?_;unfold aD.W;intro w5 w6;have k5:Kept Nil w w5:=(Kept.refl _ _).alloc _;have JV:w5.heap[w.heap.size]? =some (.cells hid.1 ag (0,0)):=aJ w _;have k6:Kept Nil w5 w6:=(Kept.refl _ _).alloc _;have JB:w6.heap[w5.heap.size]? =some (.cells s.1 ag (0,0)):=aJ w5 _;clear_value w6;have WB:=k6.heap JV (fun h=>h);have mL:=k5.trans k6 (fun _ _ h=>h);have s5:=k5.size;have l5:=aQ JV;obtain⟨bl,c,mbg,M,G⟩:=h.G;have hG: ∀ {v:World},Kept Nil w v->GV v m.SG F m.g D (gk D) bl c mbg M:=fun k=>G.same k;refine sn (h.same mL) ⟨true,rfl,Split.no rfl ⟨_,(h.same mL).c0,hid.1,⟨hid.2.1,Cells.bC WB⟩,?_⟩⟩;refine tu (hG mL) hid fun ie Il=>⟨_,rfl,?_⟩;have Jw:=mL.trans Il (fun _ _ h=>h);by_cases fN:hid∈ids D
 ·have e:gw D hid s lp=7:=by simp [gw,dp,fN]
  have:=mN ie Jw (by rw [e];decide);rw [e]at this;exact Split.yes (decide_eq_true fN) this
 refine Split.no (decide_eq_false fN) ?_;by_cases h0:n=0
 ·have el:lp= []:=List.length_eq_zero_iff.1 (by omega)
  have e:gw D hid s lp=9:=by subst el;simp [gw,dp,fN,IP]
  have:=mN ie Jw (by rw [e];decide);rw [e]at this;exact Split.yes (by simp [h0]) this
 refine Split.no (by simp [h0]) ?_;refine gN (hl.same Jw) (by omega) fun A17 c17 vh acW zP=>⟨A17,_,c17,rfl,?_⟩;have Jv:=Jw.trans zP (fun _ _ h=>h);have fG:lp≠ []:=fun e=>h0 (by rw [<-hlen,e];rfl);by_cases AS: ¬(df lp).length=n
 ·have e:gw D hid s lp=9:=by
   have h1:(df lp).length=0\/(df lp).length≠lp.length:=.inr (by omega);have h2:dp D hid lp=9:=by unfold dp;rw [if_neg fN,if_pos h1]
   simp [gw,h2]
  have:=mN vh Jv (by rw [e];decide);rw [e]at this;exact Split.yes (by simp only [bne_iff_ne,ne_eq];omega) this
 replace AS:=Classical.not_not.1 AS
 refine Split.no (by rw [AS];simp) ?_;refine pk (h.same Jv) (hl.same Jv) (by omega) fun B9 xF=>⟨_,rfl,?_⟩;have Nn:=Jv.trans xF (fun _ _ h=>h);have Tf: ¬((df lp).length=0\/(df lp).length≠lp.length):=by omega
 by_cases cS: ¬ ∀p∈lp,p∈ids D
 ·have hex: ∃p∈df lp,p∉ids D:=Classical.byContradiction fun hc=>cS fun p hp=>Classical.byContradiction fun hq=>hc ⟨p,dm.2 hp,hq⟩
  have e:gw D hid s lp=6:=by
   have:dp D hid lp=6:=by unfold dp;rw [if_neg fN,if_neg Tf,if_pos hex]
   simp [gw,this]
  have:=mN B9 Nn (by rw [e];decide);rw [e]at this;exact Split.yes (by rw [decide_eq_false cS];rfl) this
 replace cS:=Classical.not_not.1 cS
 refine Split.no (by rw [decide_eq_true cS];rfl) ?_;have aaQ: ¬ ∃p∈df lp,p∉ids D:=fun⟨p,hp,hq⟩=>hq (cS p (dm.1 hp));have eC:dp D hid lp=0:=by unfold dp;rw [if_neg fN,if_neg Tf,if_neg aaQ]
 have RK:=(Il.trans zP (fun _ _ h=>h)).trans xF (fun _ _ h=>h);refine⟨s.1,⟨s.2.1,Cells.bC (RK.heap JB (fun h=>h))⟩,?_⟩;refine pR s (hl.same Nn) (by omega) fun lf pN=>⟨_,rfl,?_⟩;have AO:=Nn.trans pN (fun _ _ h=>h);by_cases vd: ¬s∈lp
 ·have e:gw D hid s lp=2:=by simp [gw,eC,vd]
  have:=mN lf AO (by rw [e];decide);rw [e]at this;exact Split.yes (by rw [decide_eq_false vd];rfl) this
 replace vd:=Classical.not_not.1 vd
 refine Split.no (by rw [decide_eq_true vd];rfl) ?_;have eX:gw D hid s lp=0:=by simp [gw,eC,vd]
 have Jm:=RK.trans pN (fun _ _ h=>h);obtain⟨mj,Og,Of⟩:=dB.1 (cS s vd);obtain⟨j,hj⟩:=List.mem_iff_getElem?.1 Og;have eP:mT D P hid s lp=P++ [(j:Int)]:=by
  unfold mT;rw [if_pos eX,<-Of,W.pos_eq hj];rfl
 have eD:mU D hid s lp=D++ [⟨hid,df lp⟩]:=by unfold mU;rw [if_pos eX]
 intro oe;have yQ:Kept Nil lf oe:=(Kept.refl _ _).alloc _;have Z3:fk oe lf.heap.size (fun _=>none):=fk.new lf;clear_value oe;have GX:=(Jm.trans yQ (fun _ _ h=>h)).heap JB (fun h=>h);obtain⟨E9,Zs,Tt,Gs⟩:=Z3.put F7 s (.agg #[.bool true]);refine⟨s.1,⟨s.2.1,Cells.bC GX⟩,E9,Zs,?_⟩;have ob0:w5.heap.size<lf.heap.size:=by have:=aQ JB;have:=Jm.size;omega
 have Zf:=Gs.heap GX (fun e=>by omega);refine⟨s.1,⟨s.2.1,Cells.bC Zf⟩,s.2.1,?_⟩;intro Mr;have Na:Kept Nil E9 Mr:=(Kept.refl _ _).alloc _;have YQ:HS Mr (some ⟨E9.heap.size,0,none⟩) 1 [s]:=jb E9 s;clear_value Mr;have af1:=AO.size;have Gt:Kept Nil lf Mr:=(yQ.trans Gs (fun k hk e=>by omega)).trans Na (fun _ _ h=>h);have Nk:=AO.trans Gt (fun _ _ h=>h);refine uR (hG Nk) W (by omega) (hT.same Nk) YQ (by omega) fun A32 VC tk KO Fc=>⟨A32,_,VC,rfl,?_⟩;have YA:=Nk.trans Fc (fun _ _ h=>h);have Z1:fk tk lf.heap.size (fun z=>if z=s then some (.agg #[.bool true])else none):=(Tt.aC Na (fun h=>h)).aC Fc (fun h=>h);have p1:=mH D fun a=> ∃z∈ [s],eZ D a z
 change (dQ D [s]).length<=_ at p1
 have acP:=Gt.size;have ob1:=Tt.lt;have s30:=Na.size;have Ly: ∀y,y∈dQ D [s]↔eZ D y s:=fun y=>by
  unfold dQ;rw [ji];constructor
  ·rintro⟨_,z,hz,e⟩
   rw [List.mem_singleton]at hz
   rwa [hz]at e
  ·exact fun e=>⟨(e.mem W).1,s,by simp,e⟩
 have agz: ∀k,k=lf.heap.size-> ¬k<w.heap.size:=fun k e=>by omega
 refine aD.b6 (I:=fun i v=> ∃(q:Nat) (f:HT->Option Value),i=(q:Int)/\q<=(dQ D [s]).length/\fk v lf.heap.size f/\(∀y,(y=s\/y∈(dQ D [s]).take q->f y=some (.agg #[.bool true]))/\(¬(y=s\/y∈(dQ D [s]).take q)->f y=none))/\Kept (· =lf.heap.size) tk v)
  (μ:=fun i _=>(((dQ D [s]).length:Int)-i).toNat) (s:=0) ⟨0,_,rfl,Nat.zero_le _,Z1,fun y=>⟨fun e=>by
    rcases e with e|e
    ·rw [if_pos e]
    ·simp at e,fun e=>if_neg fun e'=>e (.inl e')⟩,Kept.refl _ _⟩ ?_
 rintro i v ⟨q,f,rfl,hq,hmv,TZ,kv⟩;have zQ:Kept Nil w v:=YA.trans kv (fun k hk e=>by omega);refine Split.dec (fun jf=>?_) (fun gu=>?_)
 ·have dP:q<(dQ D [s]).length:=by omega
  obtain⟨y,hy⟩: ∃y,(dQ D [s])[q]? =some y:=⟨_,List.getElem?_eq_getElem dP⟩;have MI:=bO.hs (Row.aC KO kv (fun k hk e=>by have:=(Row.bC KO hk).1;omega));refine MI.load (i:=(q:Int)) (by omega) (by rw [Int.toNat_natCast];exact hy) ?_;intro E6;obtain⟨qP,iC,iI⟩:=fT (w:=v) (z:=(#[.int .u8 0,.int .u8 0,.int .u8 0,.int .u8 0,.int .u8 0,.int .u8 0,.int .u8 0,.int .u8 0,.int .u8 0,.int .u8 0,.int .u8 0,.int .u8 0,.int .u8 0,.int .u8 0,.int .u8 0,.int .u8 0,.int .u8 0,.int .u8 0,.int .u8 0,.int .u8 0,.int .u8 0,.int .u8 0,.int .u8 0,.int .u8 0,.int .u8 0,.int .u8 0,.int .u8 0,.int .u8 0,.int .u8 0,.int .u8 0,.int .u8 0,.int .u8 0]:Array Value)) (cs:=y.1) (t:=ag) (by rw [y.2.1];rfl);refine⟨⟨y.2.1,y.2.one,fun j hj=>qP j (by rw [y.2.1];exact hj)⟩,?_⟩;intro XA
  replace iC:XA.heap[v.heap.size]? =some (.cells y.1 ag (0,0)):=iC
  replace iI:Kept Nil v XA:=iI
  clear_value XA;obtain⟨zL,NZ,ZZ,Ik⟩:=(hmv.aC iI (fun h=>h)).put F7 y (.agg #[.bool true]);refine⟨y.1,⟨y.2.1,Cells.bC iC⟩,zL,NZ,?_⟩;rw [dE (n:=(q:Int)) (by omega) (by omega)];refine⟨(q:Int)+1,rfl,⟨q+1,_,rfl,dP,ZZ,fun z=>?_,(kv.trans iI (fun _ _ h=>h.elim)).trans Ik (fun _ _ h=>h)⟩,by simp only;omega⟩;rw [bH hy];constructor
  ·intro e
   by_cases hz:z=y
   ·rw [if_pos hz]
   ·rw [if_neg hz]
    exact(TZ z).1 (e.imp (fun h=>h) (fun h=>h.resolve_right hz))
  ·intro e
   rw [if_neg (fun hz=>e (.inr (.inr hz)))];exact(TZ z).2 (fun e'=>e (e'.imp (fun h=>h) (fun h=>.inl h)))
 ·have Zz:q=(dQ D [s]).length:=by omega
  subst Zz;rw [List.take_of_length_le (Nat.le_refl _)]at TZ;rw [aS,aD.Ml];unfold aD.EX;have Gr:Kept (· =lf.heap.size) lf v:=((Gt.trans Fc (fun _ _ h=>h)).mono (S':=(· =lf.heap.size)) (fun _ _ h=>h.elim)).trans kv (fun _ _ h=>h);have WA:v.heap[w.heap.size]? =some (.cells hid.1 ag (0,0)):=Gr.heap (Jm.heap WB (fun h=>h)) (fun e=>by omega);have NO:v.heap[w5.heap.size]? =some (.cells s.1 ag (0,0)):=Gr.heap (Jm.heap JB (fun h=>h)) (fun e=>by omega);have sv:=zQ.size;have s2v:=Gr.size;refine⟨hid.1,⟨hid.2.1,Cells.bC WA⟩,?_⟩;refine Kx (hG zQ) W (by omega) (hl.same zQ) (by omega) hid fun E0 S2 F2 U6 Ea O5 O9=>⟨_,rfl,?_⟩;rw [pa eC]at U6;have I7: ∀k,m.SG k->k<w.heap.size:=fun k e=>h.low k (.inl (.inl e));have s64:=Ea.size;have Oz:=Ea.heap WA (fun e=>by have:=I7 _ e;omega);have Ss:=Ea.heap NO (fun e=>by have:=I7 _ e;omega);have ZY:=hmv.aC Ea (fun e=>by have:=I7 _ e;omega);refine⟨hid.1,⟨hid.2.1,Cells.bC Oz⟩,hid.2.1,?_⟩;intro Fs;have K2:Kept Nil E0 Fs:=(Kept.refl _ _).alloc _;have YK:HS Fs (some ⟨E0.heap.size,0,none⟩) 1 [hid]:=jb E0 hid;clear_value Fs;have vx: ∀p∈df lp,p∈ids D:=fun p hp=>cS p (dm.1 hp);have W':jw (D++ [⟨hid,df lp⟩]):=W.snoc (nd:=⟨hid,df lp⟩) fN vx (iD lp);obtain⟨bl',c',Rc,M',Xi⟩:=U6;have MS: ∀k,m.own x k->k<w.heap.size:=fun k e=>h.low k (.inl (.inr (.inr (.inr e))));have hTv:tg E0:=(hT.same zQ).aC Ea IA;refine uR (Xi.same K2) W' (by simp;omega) (hTv.same K2) YK (by omega) fun A69 c69 BZ FN RJ=>⟨A69,_,c69,rfl,?_⟩;have wi:=K2.trans RJ (fun _ _ h=>h);have acM:=wi.size;have p2:=mH (D++ [⟨hid,df lp⟩]) fun a=> ∃z∈ [hid],eZ (D++ [⟨hid,df lp⟩]) a z
  change (dQ (D++ [⟨hid,df lp⟩]) [hid]).length<=_ at p2
  rw [List.length_append,List.length_singleton]at p2;have Bd: ∀y,y∈dQ (D++ [⟨hid,df lp⟩]) [hid]↔eZ (D++ [⟨hid,df lp⟩]) y hid:=fun y=>by
   unfold dQ;rw [ji];constructor
   ·rintro⟨_,z,hz,e⟩
    rw [List.mem_singleton]at hz
    rwa [hz]at e
   ·exact fun e=>⟨(e.mem W').1,hid,by simp,e⟩
  have kl:Kept (fun k=>m.SG k) w BZ:=((zQ.mono (S':=fun k=>m.SG k) (fun _ _ h=>h.elim)).trans Ea (fun _ _ h=>h)).trans wi (fun _ _ h=>h.elim);have MR: ∀k,m.own x k-> ¬m.SG k:=fun k e=>(h.od k e).1;have QJ:=kl.heap h.top (MR _ (.inl rfl));have fw:(dQ (D++ [⟨hid,df lp⟩]) [hid]).Nodup:=(iD _).nodup;obtain⟨f0,aaP,aaR⟩:=h.Xb;have ada: ∀k,m.own x k-> ¬(k=m.cb)\/k=m.cb:=fun k _=>(Classical.em _).symm;have sT:m.own x m.cb:=.inr (.inr (.inr rfl));have Rh:=MS _ sT;generalize qp:dQ (D++ [⟨hid,df lp⟩]) [hid]=pl at FN p2 Bd fw⊢;refine aD.gD (I:=fun i u=> ∃q:Nat,i=(q:Int)/\q<=pl.length/\Kept (· =m.cb) BZ u/\ ∃f,fk u m.cb f/\ ∀y,∃l,nP u (fun k=>m.SO k\/(BZ.heap.size<=k/\k<u.heap.size)) (D.length+if y∈pl.take q then 1 else 0) (f y) l/\ ∀c,c∈l↔Mi D P y c\/(c=hid/\y∈pl.take q/\y≠s/\ ¬eZ D y s))
   (μ:=fun i _=>((pl.length:Int)-i).toNat) (s:=0) ⟨0,rfl,Nat.zero_le _,Kept.refl _ _,f0,aaP.aC kl (MR _ sT),fun y=>?_⟩ ?_
  ·obtain⟨l,h1,h2⟩:=aaR y
   refine⟨l,?_,fun c=>?_⟩
   ·rcases h1.aC kl (fun k e e'=>(h.gt k e').2 e)with h3|⟨A,n,c,g1,g2,g3,g4,g5⟩
    ·exact .inl h3
    ·exact .inr ⟨A,n,c,g1,g2,g3,by omega,fun a ha=>.inl (g5 a ha)⟩
   ·rw [h2]
    simp
  ·rintro i u ⟨q,rfl,P4,ku,Uc⟩
   refine EU h hD kl.size QJ (wi.heap Oz (fun h=>h)) (Nat.le_refl _) ((ZY.aC K2 (fun h=>h)).aC RJ (fun h=>h)) (by omega) rfl
    (fun y=>⟨fun e=>(TZ y).1 (e.imp (fun h=>h) (fun h=>(Ly y).2 h)),fun e=>(TZ y).2 (fun e'=>e (e'.imp (fun h=>h) (fun h=>(Ly y).1 h)))⟩)
    (Row.base FN (fun b hb=>by have:=(Row.bC FN hb).1;have:=K2.size;omega)) (by omega) ku P4 (Z:=fun _ _=>True) Uc fw (hid:=hid) (s:=s) (D':=D) (ps:= []) (fun v' kv' aaI cI=>?_) (fun Zz=>?_)
   ·exact⟨(q:Int)+1,rfl,⟨q+1,rfl,cI,kv',aaI⟩,by simp only;omega⟩
   ·subst Zz
    rw [aS];unfold aD.e2;rw [aD.Xo];rw [List.take_of_length_le (Nat.le_refl _)]at Uc;have Gi:Kept (fun k=>m.SG k\/k=m.cb) w u:=(kl.mono (S':=fun k=>m.SG k\/k=m.cb) (fun _ _ h=>.inl h)).trans ku (fun _ _ h=>.inr h);have su:=ku.size;obtain⟨PK,Q6,MQ,Q5,PJ,Q4⟩:=h.ne;have I8: ∀k,F k->k<w.heap.size:=fun k e=>h.low k (.inr e);have abv:GV BZ S2 F2 m.g (D++ [⟨hid,df lp⟩]) (gk (D++ [⟨hid,df lp⟩])) bl' c' Rc M':=Xi.same wi;have nS2: ∀k,S2 k-> ¬k=m.cb:=fun k h1 e=>by
     rcases O5 k h1 with h2|h2
     ·exact(h.od _ sT).1 (e▸h2)
     ·omega
    have nF2: ∀k,F2 k-> ¬k=m.cb:=fun k h1 e=>by
     rcases O9 k h1 with h2|h2
     ·exact(h.od _ sT).2.2.2 (e▸h2)
     ·omega
    have xE: ∀k,m.own x k->k≠m.cb-> ¬(m.SG k\/k=m.cb):=fun k e fG e'=>e'.elim (MR k e) fG;refine H4 (s1:=E0.heap.size) (s2:=BZ.heap.size) (S2:=S2) (F2:=F2) (SO2:=fun k=>m.SO k\/(BZ.heap.size<=k/\k<u.heap.size)) (mj:=mj) h hD fN vx (iD lp) hj Of (dm.2 vd) (Gi.heap h.top (xE _ (.inl rfl) MQ))
     (Nat.le_refl _) (by omega) (ku.heap (wi.heap Oz (fun h=>h)) (fun e=>by omega)) (ku.heap (wi.heap Ss (fun h=>h)) (fun e=>by omega)) ⟨bl',c',Rc,M',abv.aC ku nS2 nF2⟩
     (h.T.aC Gi (fun k e e'=>e'.elim (fun e'=>(h.gt k e').1 e) (fun e'=>(h.od _ sT).2.1 (e'▸e)))) (h.at_.aC Gi (xE _ (.inr (.inl rfl)) PJ)) (Row.aC h.row Gi (fun k e=>by cases e;exact xE _ (.inr (.inr (.inl rfl))) Q4))
     ?_ (by omega) (by omega) su (fun k e=>⟨(O5 k e).imp (fun h=>h) (fun h=>by omega),Xi.low k (.inl e)⟩) (fun k e=>⟨(O9 k e).imp (fun h=>h) (fun h=>by omega),Xi.low k (.inr e)⟩) (fun k e=>e)
     (Gi.mono (S':=fun k=>m.jM x k) (fun k _ e=>e.elim (fun e=>.inl e) (fun e=>.inr (.inr (.inr (.inr (.inr (.inr e)))))))) (fun u2 S' F' hI kU hSu L7=>?_)
    ·obtain⟨f,hf,hc⟩:=Uc
     refine⟨f,hf,fun y=>?_⟩;obtain⟨l,h1,h2⟩:=hc y;refine⟨l,?_,fun c=>?_⟩
     ·rcases h1 with h3|⟨A,n,c,g1,g2,g3,g4,g5⟩
      ·exact .inl h3
      ·refine .inr ⟨A,n,c,g1,g2,g3,?_,g5⟩
       split at g4<;>omega
     ·rw [h2,HM W h.je (nd:=⟨hid,df lp⟩) fN vx hj,Of]
      constructor
      ·rintro(h3|⟨h3,h4,h5,h6⟩)
       ·exact .inl h3
       ·exact .inr ⟨h3,(Bd y).1 h4,h5,h6⟩
      ·rintro(h3|⟨h3,h4,h5,h6⟩)
       ·exact .inl h3
       ·exact .inr ⟨h3,(Bd y).2 h4,h5,h6⟩
    ·refine yV u2 S' F' ?_ kU hSu L7 eX
     rw [eD,eP];exact hI
end
end Go.Proofs.YtnboahlopghcjaaGreatDoor
namespace Go.Proofs.YtnboahlopghcjaaGreatDoor
open Go.Proofs.Tryz
open Go Go.bV Go.RowKit
def dL:HT:=hx 0 (by decide)
def cM(D:DG)(P:List Int)(h:HT)(l:List HT):Prop:=(h∉ids D/\l= [])\/ ∃(i:Nat) (nd:DN) (ks:List Nat),D[i]? =some nd/\nd.id=h/\Up P i ks/\l=ks.map (lJ D)
theorem lI{D:DG}{i:Nat}{nd:DN}(h:D[i]? =some nd):lJ D i=nd.id:=by unfold lJ;rw [h]
theorem cM.ex{D:DG}{P:List Int}(H:qZ D P)(h:HT): ∃l,cM D P h l:=by
 by_cases hm:h∈ids D
 ·obtain⟨nd,fw,e⟩:=dB.1 hm
  obtain⟨i,hi⟩:=List.mem_iff_getElem?.1 fw;obtain⟨ks,hk⟩:=Up.ex H.par i (by rw [H.len];exact(List.getElem?_eq_some_iff.1 hi).1);exact⟨_,.inr ⟨i,nd,ks,hi,e,hk,rfl⟩⟩
 ·exact⟨[],.inl ⟨hm,rfl⟩⟩
theorem cM.mem{D:DG}{P:List Int}(W:jw D)(H:qZ D P){h:HT}{l:List HT}(c:cM D P h l){a:HT}:a∈l↔Ch D P a h:=by
 rcases c with⟨h1,rfl⟩|⟨i,nd,ks,h1,rfl,h3,rfl⟩
 ·simp only [List.not_mem_nil,false_iff]
  exact fun e=>h1 e.mem.2
 ·have dP:i<P.length:=by rw [H.len];exact(List.getElem?_eq_some_iff.1 h1).1
  rw [List.mem_map];constructor
  ·rintro⟨k,hk,rfl⟩
   have hu:=(h3.mem H.par dP).1 hk;have zW:=hu.Wa;rw [H.len]at zW;obtain⟨nk,JK⟩: ∃nk,D[k]? =some nk:=⟨_,List.getElem?_eq_getElem zW⟩;exact⟨i,k,nd,nk,h1,rfl,JK,(lI JK).symm,hu⟩
  ·rintro⟨i',k,ni,nk,g1,g2,g3,g4,g5⟩
   have:=W.inj g1 h1 g2;subst this;exact⟨k,(h3.mem H.par dP).2 g5,by rw [lI g3,g4]⟩
theorem cM.one{D:DG}{P:List Int}(W:jw D)(H:qZ D P){h:HT}{l l':List HT}(c:cM D P h l)(c':cM D P h l'):l=l':=by
 rcases c with⟨h1,rfl⟩|⟨i,nd,ks,h1,h2,h3,rfl⟩
 ·rcases c' with⟨_,rfl⟩|⟨i,nd,ks,g1,g2,_,_⟩
  ·rfl
  ·exact absurd (dB.2 ⟨nd,List.mem_of_getElem? g1,g2⟩) h1
 ·rcases c' with⟨g1,rfl⟩|⟨i',nd',ks',g1,g2,g3,rfl⟩
  ·exact absurd (dB.2 ⟨nd,List.mem_of_getElem? h1,h2⟩) g1
  ·have:=W.inj h1 g1 (by rw [h2,g2])
   subst this;rw [Up.one H.par h3 g3]
section
variable{w w':World}{F S:Nat->Prop}{x:Nat}{D:DG}{P:List Int}{m:XM}{K:Value->World->Prop}
theorem XV.MJ(h:XV w F x D P m){i:Nat}{nd:DN}(hi:D[i]? =some nd):Cells w ((⟨m.ib,0,none⟩:Addr).add (i*32)) nd.id.1:=by
 obtain⟨a,ha,_,hc⟩:=(bO.hs h.row).at_ i nd.id (pr hi);cases ha;exact hc
theorem XV.FZ(h:XV w F x D P m){i:Nat}{nd:DN}(hi:D[i]? =some nd): ∃td,m.T[i]? =some td/\P[i]? =some td.parent:=by
 have dP:=(List.getElem?_eq_some_iff.1 hi).1;obtain⟨td,Wp⟩:=Tr.fH (T:=m.T) (i:=i) (by rw [h.MB];exact dP);exact⟨td,Wp,by rw [<-h.bP];exact Tr.kj Wp⟩
theorem oF(a:HT)(hK: ∀w' pb qb,Kept Nil w w'->w'.heap[pb]? =some (.cells #[.pointer (some ⟨x,0,none⟩)] fM (0,0))->w'.heap[qb]? =some (.cells a.1 ag (0,0))->w.heap.size<=pb->w.heap.size<=qb->K (.func (.func aV.id) #[] #[.pointer (some ⟨pb,0,none⟩),.pointer (some ⟨qb,0,none⟩)]) w'):
 bn prog fC.id #[.pointer (some ⟨x,0,none⟩),.agg a.1] w K:=by
 refine fC.of ?_;unfold fC.W;intro w3 w4;have k3:Kept Nil w w3:=(Kept.refl _ _).alloc _;have hp3:w3.heap[w.heap.size]? =some (.cells #[.pointer (some ⟨x,0,none⟩)] fM (0,0)):=aJ w _;have k4:Kept Nil w3 w4:=(Kept.refl _ _).alloc _;have ZA:w4.heap[w3.heap.size]? =some (.cells a.1 ag (0,0)):=aJ w3 _;clear_value w4;exact hK w4 _ _ (k3.trans k4 (fun _ _ h=>h)) (k4.heap hp3 (fun h=>h)) ZA (Nat.le_refl _) k3.size
theorem wG{pb qb:Nat}{a:HT}{l:List HT}(hl:cM D P a l)(hD:D.length<=5000):
 mZ prog aV.id #[] #[.pointer (some ⟨pb,0,none⟩),.pointer (some ⟨qb,0,none⟩)] (l.map pG) (fun w=>XV w F x D P m/\w.heap[pb]? =some (.cells #[.pointer (some ⟨x,0,none⟩)] fM (0,0))/\w.heap[qb]? =some (.cells a.1 ag (0,0))):=by
 intro y I Q w0 hI hQ qQ h0 qf;obtain⟨hX,P6,SK⟩:=qQ 0 w0 h0;have W:=hX.W;have ml:=hX.je;refine aV.of ?_;unfold aV.W;refine⟨_,by rw [ax P6];rfl,a.1,⟨a.2.1,Cells.bC SK⟩,a.2.1,?_⟩;intro w6;have k6:Kept Nil w0 w6:=(Kept.refl _ _).alloc _;have oT:HS w6 (some ⟨w0.heap.size,0,none⟩) 1 [a]:=jb w0 a;clear_value w6;refine pk (hX.same k6) oT (by omega) fun w8 k8=>⟨_,rfl,?_⟩;have rK:=k6.trans k8 (fun _ _ h=>h);rcases hl with⟨mN,rfl⟩|⟨i,nd,ks,hi,hid,hup,rfl⟩
 ·exact Split.yes (by rw [decide_eq_false (by simpa using mN)];rfl) (.inl (hI 0 w0 w8 h0 rK))
 ·have hm:a∈ids D:=dB.2 ⟨nd,List.mem_of_getElem? hi,hid⟩
  refine Split.no (by rw [decide_eq_true (by simpa using hm)];rfl) ?_;intro w10;have mC:Kept Nil w8 w10:=(Kept.refl _ _).drew;clear_value w10;have wX:=rK.trans mC (fun _ _ h=>h);have vf:=hX.same wX;have lk:=vf.at_.we a;rw [<-hid,W.pos_eq hi]at lk;rw [hid]at lk;refine⟨some ⟨x,0,none⟩,by rw [ax (wX.heap P6 (fun h=>h))];rfl,_,vf.c2,a.1,⟨a.2.1,Cells.bC (wX.heap SK (fun h=>h))⟩,_,lk,?_⟩;have dP:i<P.length:=by rw [ml.len];exact(List.getElem?_eq_some_iff.1 hi).1
  have SQ:=ml.par;refine aV.b6 (I:=fun s v=> ∃(k:Nat) (dn rs:List Nat),s=(k:Int)/\ks=dn++rs/\Up P k rs/\k<P.length/\I dn.length v) (μ:=fun s _=>s.toNat) (s:=((i:Nat):Int)) ⟨i,[],ks,rfl,rfl,hup,dP,hI 0 w0 w10 h0 wX⟩ ?_;rintro s v ⟨k,dn,rs,rfl,Oq,Wo,zW,hv⟩;obtain⟨hXv,hpv,hqv⟩:=qQ _ v hv;rw [ml.len]at zW;obtain⟨nk,JK⟩: ∃nk,D[k]? =some nk:=⟨_,List.getElem?_eq_getElem zW⟩;refine⟨some ⟨x,0,none⟩,by rw [ax hpv];rfl,_,_,_,hXv.c3,⟨by omega,by omega⟩,nk.id.1,⟨nk.id.2.1,by rw [Int.toNat_natCast];exact hXv.MJ JK⟩,?_⟩;have gh:((ks.map (lJ D)).map pG)[dn.length]? =some (pG nk.id):=by
   rw [List.getElem?_map,List.getElem?_map,Oq,List.getElem?_append_right (Nat.le_refl _),Nat.sub_self,Wo.head];simp [lI JK]
  refine(qf dn.length (pG nk.id) v gh hv).mono ?_;rintro b v' ⟨ht,hf⟩;cases b with
  |false=>
   refine Split.no rfl ?_;rw [aS,aV.cX];exact .inr (hf rfl)
  |true=>
   refine Split.yes rfl ?_;have hI1:=ht rfl;cases Wo with
   |root=>
    refine Split.no rfl ?_;rw [aS,aV.cX];refine .inl ?_;rw [List.length_map,List.length_map,Oq,List.length_append];exact hI1
   | @step _ j XO hj GK=>
     have TK:=(Tr.gV SQ (Tr.dO.2 hj)).1;refine Split.yes (decide_eq_true (by omega)) ?_;obtain⟨O4,ZD,_⟩:=qQ _ v' hI1;obtain⟨td,Wp,htp⟩:=O4.FZ JK;rw [hj]at htp;have Y8:(j:Int)=td.parent:=by simpa using htp
     refine⟨some ⟨x,0,none⟩,by rw [ax ZD];rfl,_,O4.c1,Tr.x7 O4.T Wp (by omega) ⟨_,_,rfl,?_⟩⟩;rw [<-Y8];refine⟨(j:Int),rfl,⟨j,dn++ [k],XO,rfl,by rw [Oq];simp,GK,by rw [ml.len];omega,?_⟩,by simp only;omega⟩;rw [List.length_append];exact hI1
end
end Go.Proofs.YtnboahlopghcjaaGreatDoor
namespace Go.Proofs.YtnboahlopghcjaaGreatDoor
open Go.Proofs.Tryz
open Go Go.bV Go.RowKit
structure XN(w v:World)(r:HT)(own:Nat->Nat)(G T E I Z:Option Nat)(l:List HT):Prop where
 kp:Kept Nil w v
 gr: ∀g,G=some g-> ∃SG,BV v SG (fun _=>False) g [⟨r,[]⟩]/\ ∀k,SG k->w.heap.size<=k/\own k=1
 tr: ∀t,T=some t-> ∃ST,Tr.oq v ST t Tr.pJ 0/\ ∀k,ST k->w.heap.size<=k/\k<v.heap.size/\own k=2
 mp: ∀b,E=some b->w.heap.size<=b/\own b=3/\IsMap v b l
 il: ∀b,I=some b->w.heap.size<=b/\own b=4/\v.heap[b]? =some (.cells (r.1.toList++ []).toArray ag (0,0))
 cv: ∀b,Z=some b->w.heap.size<=b/\own b=5/\fk v b (fun _=>none)
def tag(n t:Nat)(own:Nat->Nat)(k:Nat):Nat:=if n<=k then t else own k
theorem qt{n t k:Nat}{own:Nat->Nat}(h:k<n):tag n t own k=own k:=by unfold tag;rw [if_neg (by omega)]
theorem qu{n t k:Nat}{own:Nat->Nat}(h:n<=k):tag n t own k=t:=by unfold tag;rw [if_pos h]
section
variable{w v v':World}{r:HT}{own:Nat->Nat}{G T E I Z:Option Nat}{l:List HT}{K:Value->World->Prop}
theorem XN.grow(h:XN w v r own G T E I Z l)(t:Nat)(k:Kept Nil v v'):XN w v' r (tag v.heap.size t own) G T E I Z l:=by
 have hs:=k.size;refine⟨h.kp.trans k (fun _ _ h=>h),fun g e=>?_,fun g e=>?_,fun b e=>?_,fun b e=>?_,fun b e=>?_⟩
 ·obtain⟨SG,h1,h2⟩:=h.gr g e
  exact⟨SG,h1.same k,fun q hq=>⟨(h2 q hq).1,by rw [qt (by obtain⟨bl,c,mb,M,G⟩:=h1;exact G.low q (.inl hq))];exact(h2 q hq).2⟩⟩
 ·obtain⟨ST,h1,h2⟩:=h.tr g e
  exact⟨ST,h1.same k,fun q hq=>⟨(h2 q hq).1,by have:=(h2 q hq).2.1;omega,by rw [qt (h2 q hq).2.1];exact(h2 q hq).2.2⟩⟩
 ·obtain⟨h1,h2,h3⟩:=h.mp b e
  exact⟨h1,by rw [qt h3.lt];exact h2,h3.aC k (fun h=>h)⟩
 ·obtain⟨h1,h2,h3⟩:=h.il b e
  exact⟨h1,by rw [qt (aQ h3)];exact h2,k.heap h3 (fun h=>h)⟩
 ·obtain⟨h1,h2,h3⟩:=h.cv b e
  exact⟨h1,by rw [qt h3.lt];exact h2,h3.aC k (fun h=>h)⟩
theorem XN.dz(h:XN w v r own none T E I Z l){gb:Nat}(hG:BV v' (fun k=>v.heap.size<=k/\k<v'.heap.size) (fun _=>False) gb [⟨r,[]⟩])(k:Kept Nil v v'):XN w v' r (tag v.heap.size 1 own) (some gb) T E I Z l:=by
 have g:=h.grow 1 k;refine⟨g.kp,?_,g.tr,g.mp,g.il,g.cv⟩;intro g' e;cases e;have:=h.kp.size;exact⟨_,hG,fun q hq=>⟨by omega,qu hq.1⟩⟩
theorem XN.tc(h:XN w v r own G none E I Z l){t:Nat}(hT:Tr.oq v' (fun k=>v.heap.size<=k) t Tr.pJ 0)(k:Kept Nil v v'):XN w v' r (tag v.heap.size 2 own) G (some t) E I Z l:=by
 have g:=h.grow 2 k;refine⟨g.kp,g.gr,?_,g.mp,g.il,g.cv⟩;intro t' e;cases e;have:=h.kp.size;exact⟨_,se hT,fun q hq=>⟨by omega,hq.2,qu hq.1⟩⟩
theorem XN.tf(h:XN w v r own G T none I Z []):XN w (v.alloc (.map #[] 0)) r (tag v.heap.size 3 own) G T (some v.heap.size) I Z []:=by
 have g:=h.grow 3 ((Kept.refl Nil v).alloc (.map #[] 0));refine⟨g.kp,g.gr,g.tr,?_,g.il,g.cv⟩;intro b e;cases e;exact⟨h.kp.size,qu (Nat.le_refl _),⟨#[],0,aJ v _,trivial⟩⟩
theorem XN.nY(h:XN w v r own G T E none Z l):XN w (v.alloc (.cells (r.1.toList++ []).toArray ag)) r (tag v.heap.size 4 own) G T E (some v.heap.size) Z l:=by
 have g:=h.grow 4 ((Kept.refl Nil v).alloc (.cells (r.1.toList++ []).toArray ag));refine⟨g.kp,g.gr,g.tr,g.mp,?_,g.cv⟩;intro b e;cases e;exact⟨h.kp.size,qu (Nat.le_refl _),aJ v _⟩
theorem XN.nX(h:XN w v r own G T E I none l):XN w (v.alloc (.map #[] 0)) r (tag v.heap.size 5 own) G T E I (some v.heap.size) l:=by
 have g:=h.grow 5 ((Kept.refl Nil v).alloc (.map #[] 0));refine⟨g.kp,g.gr,g.tr,g.mp,g.il,?_⟩;intro b e;cases e;exact⟨h.kp.size,qu (Nat.le_refl _),fk.new v⟩
theorem XN.put{mb:Nat}(h:XN w v r own G T (some mb) I Z []): ∃v',(Instr.mapUpdate ck (.map (some mb)) (.agg r.1) (.int .i64 0)).run prog v=.ok () v'/\XN w v' r own G T (some mb) I Z [r]:=by
 obtain⟨h1,h2,h3⟩:=h.mp mb rfl;obtain⟨v',hr,hm,hk⟩:=h3.put (h:=r) (by simp);refine⟨v',hr,(h.kp.trans hk (fun k hk e=>by omega)),fun g e=>?_,fun g e=>?_,fun b e=>?_,fun b e=>?_,fun b e=>?_⟩
 ·obtain⟨SG,g1,g2⟩:=h.gr g e
  exact⟨SG,g1.aC hk (fun q hq e=>by have:=(g2 q hq).2;rw [e,h2]at this;cases this) (fun q hq=>hq.elim),g2⟩
 ·obtain⟨ST,g1,g2⟩:=h.tr g e
  exact⟨ST,g1.aC hk (fun q hq e=>by have:=(g2 q hq).2.2;rw [e,h2]at this;cases this),fun q hq=>⟨(g2 q hq).1,Nat.lt_of_lt_of_le (g2 q hq).2.1 hk.size,(g2 q hq).2.2⟩⟩
 ·cases e
  exact⟨h1,h2,hm⟩
 ·obtain⟨g1,g2,g3⟩:=h.il b e
  exact⟨g1,g2,hk.heap g3 (fun e=>by rw [e,h2]at g2;cases g2)⟩
 ·obtain⟨g1,g2,g3⟩:=h.cv b e
  exact⟨g1,g2,g3.aC hk (fun e=>by rw [e,h2]at g2;cases g2)⟩
theorem XN.fin{g t mb ib cb:Nat}{w0:World}(h:XN w v r own (some g) (some t) (some mb) (some ib) (some cb) [r])(hw:w0.heap.size<=w.heap.size):
 BU (v.alloc (.cells #[.pointer (some ⟨g,0,none⟩),.pointer (some ⟨t,0,none⟩),.map (some mb),.slice (some ⟨ib,0,none⟩) 1 1,.map (some cb)] eo)) (fun k=>w0.heap.size<=k/\k<(v.alloc (.cells #[.pointer (some ⟨g,0,none⟩),.pointer (some ⟨t,0,none⟩),.map (some mb),.slice (some ⟨ib,0,none⟩) 1 1,.map (some cb)] eo)).heap.size) (fun _=>False) v.heap.size [⟨r,[]⟩] [-1]:=by
 have iM:=aJ v (.cells #[.pointer (some ⟨g,0,none⟩),.pointer (some ⟨t,0,none⟩),.map (some mb),.slice (some ⟨ib,0,none⟩) 1 1,.map (some cb)] eo);have kx:=(Kept.refl Nil v).alloc (.cells #[.pointer (some ⟨g,0,none⟩),.pointer (some ⟨t,0,none⟩),.map (some mb),.slice (some ⟨ib,0,none⟩) 1 1,.map (some cb)] eo);have hx:=aQ iM;generalize v.alloc (.cells #[.pointer (some ⟨g,0,none⟩),.pointer (some ⟨t,0,none⟩),.map (some mb),.slice (some ⟨ib,0,none⟩) 1 1,.map (some cb)] eo)=u at iM kx hx;obtain⟨SG,hG,gG⟩:=h.gr g rfl;obtain⟨ST,hT,gT⟩:=h.tr t rfl;obtain⟨m1,m2,m3⟩:=h.mp mb rfl;obtain⟨i1,i2,i3⟩:=h.il ib rfl;obtain⟨c1,c2,c3⟩:=h.cv cb rfl;have mO: ∀k,SG k->k<v.heap.size:=fun k e=>by obtain⟨bl,c,mb,M,G⟩:=hG;exact G.low k (.inl e)
 have sw:=h.kp.size;have lm:=m3.lt;have li:=aQ i3;have lc:=c3.lt;have Bl: ∀ {a b:HT},¬eZ [(⟨r,[]⟩:DN)] a b:=ym r;refine⟨⟨g,t,mb,ib,1,cb,Tr.pJ,0,SG,ST,fun _=>False⟩,⟨iM,hG.same kx,hT.same kx,Tr.Ar,rfl,⟨Int.le_refl 0,by show(0:Int)<=_;simp⟩,m3.aC kx (fun h=>h),?_,⟨_,c3.aC kx (fun h=>h),fun y=>⟨[],.inl ⟨rfl,rfl⟩,fun c=>?_⟩⟩,?_,jw.root r,?_,?_,?_,?_,?_,?_⟩,?_⟩
 ·have e:dd [r]=(r.1.toList++ []).toArray.toList:=by simp [dd]
  show Row _ _ _ _ _ _ _ (dd [r])
  rw [e];exact Row.made (kx.heap i3 (fun h=>h)) (Nat.zero_le _) (by simp [r.2.1]) (by show 1<=maxLen;decide)
 ·simp only [List.not_mem_nil,false_iff]
  exact fun hc=>Bl hc.1
 ·refine⟨rfl,rfl,fun i p nd hi hp=>?_⟩
  cases i with
  |zero=>omega
  |succ i=>simp at hp
 ·exact fun k e=>⟨fun e'=>by have:=(gG k e).2;have:=(gT k e').2.2;omega,fun e'=>e'.elim⟩
 ·exact fun k e e'=>e'.elim
 ·exact fun k e=>e.elim
 ·intro k e
  have key:v.heap.size<=k\/3<=own k:=by
   rcases e with e|e|e|e
   ·exact .inl (by omega)
   ·exact .inr (by have e:k=mb:=e;rw [e];omega)
   ·exact .inr (by have e:k=ib:=e;rw [e];omega)
   ·exact .inr (by have e:k=cb:=e;rw [e];omega)
  refine⟨fun e'=>?_,fun e'=>?_,fun e'=>e'.elim,fun e'=>e'.elim⟩
  ·have h1:=(gG k e').2
   have h2:=mO k e';omega
  ·have h1:=(gT k e').2.2
   have h2:=(gT k e').2.1;omega
 ·refine⟨by show v.heap.size≠mb;omega,by show v.heap.size≠ib;omega,by show v.heap.size≠cb;omega,fun e=>?_,fun e=>?_,fun e=>?_⟩
  ·have e:mb=ib:=e
   rw [e]at m2;omega
  ·have e:mb=cb:=e
   rw [e]at m2;omega
  ·have e:ib=cb:=e
   rw [e]at i2;omega
 ·intro k e
  rcases e with e|e
  ·rcases e with e|e|e|e
   ·have:=mO k e;omega
   ·have:=(gT k e).2.1;omega
   ·exact e.elim
   ·rcases e with e|e|e|e
    ·omega
    ·have e:k=mb:=e;omega
    ·have e:k=ib:=e;omega
    ·have e:k=cb:=e;omega
  ·exact e.elim
 ·intro k e
  rcases e with e|e|e|e
  ·have:=mO k e;have:=(gG k e).1;omega
  ·have:=(gT k e).1;have:=(gT k e).2.1;omega
  ·exact e.elim
  ·rcases e with e|e|e|e
   ·omega
   ·have e:k=mb:=e;omega
   ·have e:k=ib:=e;omega
   ·have e:k=cb:=e;omega
structure XD(w o:World)(r:HT)(K:Value->World->Prop):Prop where
 cs: ∀ {v:World},Kept Nil o v-> ∃cs:Array Value,(.agg r.1:Value)=.agg cs/\cs.size=32/\Cells v (⟨w.heap.size,0,none⟩:Addr) cs
 fin: ∀ {v:World} {own:Nat->Nat} {g t mb ib cb:Nat},XN o v r own (some g) (some t) (some mb) (some ib) (some cb) [r]->K (.pointer (some ⟨v.heap.size,0,none⟩)) (v.alloc (.cells #[.pointer (some ⟨g,0,none⟩),.pointer (some ⟨t,0,none⟩),.map (some mb),.slice (some ⟨ib,0,none⟩) 1 1,.map (some cb)] eo))
end
section
variable{w o v e i z:World}{r:HT}{own:Nat->Nat}{g t:Nat}{K:Value->World->Prop}
theorem n1(D:XD w o r K)(h:XN o v r own (some g) (some t) (some e.heap.size) (some i.heap.size) (some z.heap.size) [r]):aq.N1 (some ⟨g,0,none⟩) (some ⟨t,0,none⟩) e i z K v:=by
 unfold aq.N1;exact D.fin h
theorem n2(D:XD w o r K)(h:XN o v r own (some g) (some t) (some e.heap.size) (some i.heap.size) none [r]):aq.N2 (some ⟨g,0,none⟩) (some ⟨t,0,none⟩) e i K v:=by
 unfold aq.N2;exact let n:=h.nX;n1 D n
theorem n3(D:XD w o r K)(h:XN o v r own (some g) (some t) (some e.heap.size) none (some z.heap.size) [r]):aq.N3 r.1 (some ⟨g,0,none⟩) (some ⟨t,0,none⟩) e z K v:=by
 unfold aq.N3;exact let n:=h.nY;⟨r.2.1,n1 D n⟩
theorem n4(D:XD w o r K)(h:XN o v r own (some g) (some t) (some e.heap.size) none none [r]):aq.N4 r.1 (some ⟨g,0,none⟩) (some ⟨t,0,none⟩) e w K v:=by
 unfold aq.N4;exact⟨(let n:=h.nY;⟨r.2.1,n2 D n⟩),(let n:=h.nX;⟨D.cs n.kp,n3 D n⟩)⟩
theorem n5(D:XD w o r K)(h:XN o v r own (some g) (some t) (some e.heap.size) (some i.heap.size) (some z.heap.size) []):aq.N5 e r.1 (some ⟨g,0,none⟩) (some ⟨t,0,none⟩) i z K v:=by
 unfold aq.N5;exact let ⟨u,q,n⟩:=h.put;⟨u,q,n1 D n⟩
theorem n6(D:XD w o r K)(h:XN o v r own (some g) (some t) (some e.heap.size) (some i.heap.size) none []):aq.N6 e r.1 (some ⟨g,0,none⟩) (some ⟨t,0,none⟩) i w K v:=by
 unfold aq.N6;exact⟨(let ⟨u,q,n⟩:=h.put;⟨u,q,n2 D n⟩),(let n:=h.nX;⟨D.cs n.kp,n5 D n⟩)⟩
theorem n7(D:XD w o r K)(h:XN o v r own (some g) (some t) (some e.heap.size) none (some z.heap.size) []):aq.N7 e r.1 r.1 w (some ⟨g,0,none⟩) (some ⟨t,0,none⟩) z K v:=by
 unfold aq.N7;exact⟨(let ⟨u,q,n⟩:=h.put;⟨u,q,D.cs n.kp,n3 D n⟩),(let n:=h.nY;⟨r.2.1,D.cs n.kp,n5 D n⟩)⟩
theorem n8(D:XD w o r K)(h:XN o v r own (some g) (some t) (some e.heap.size) none none []):aq.N8 e r.1 r.1 w (some ⟨g,0,none⟩) (some ⟨t,0,none⟩) K v:=by
 unfold aq.N8;exact⟨(let ⟨u,q,n⟩:=h.put;⟨u,q,D.cs n.kp,n4 D n⟩),(let n:=h.nY;⟨r.2.1,D.cs n.kp,n6 D n⟩),(let n:=h.nX;⟨D.cs n.kp,D.cs n.kp,n7 D n⟩)⟩
theorem n9(D:XD w o r K)(h:XN o v r own (some g) (some t) none (some i.heap.size) (some z.heap.size) []):aq.N9 r.1 w (some ⟨g,0,none⟩) (some ⟨t,0,none⟩) i z K v:=by
 unfold aq.N9;exact let n:=h.tf;⟨D.cs n.kp,n5 D n⟩
theorem n10(D:XD w o r K)(h:XN o v r own (some g) (some t) none (some i.heap.size) none []):aq.Qw r.1 w (some ⟨g,0,none⟩) (some ⟨t,0,none⟩) i K v:=by
 unfold aq.Qw;exact⟨(let n:=h.tf;⟨D.cs n.kp,n6 D n⟩),(let n:=h.nX;⟨D.cs n.kp,n9 D n⟩)⟩
theorem n11(D:XD w o r K)(h:XN o v r own (some g) (some t) none none (some z.heap.size) []):aq.Xh r.1 w r.1 (some ⟨g,0,none⟩) (some ⟨t,0,none⟩) z K v:=by
 unfold aq.Xh;exact⟨(let n:=h.tf;⟨D.cs n.kp,D.cs n.kp,n7 D n⟩),(let n:=h.nY;⟨r.2.1,D.cs n.kp,n9 D n⟩)⟩
theorem n12(D:XD w o r K)(h:XN o v r own (some g) (some t) none none none []):aq.PA r.1 w r.1 (some ⟨g,0,none⟩) (some ⟨t,0,none⟩) K v:=by
 unfold aq.PA;exact⟨(let n:=h.tf;⟨D.cs n.kp,D.cs n.kp,n8 D n⟩),(let n:=h.nY;⟨r.2.1,D.cs n.kp,n10 D n⟩),(let n:=h.nX;⟨D.cs n.kp,D.cs n.kp,n11 D n⟩)⟩
theorem n13(D:XD w o r K)(h:XN o v r own (some g) none (some e.heap.size) (some i.heap.size) (some z.heap.size) [r]):aq.KI (some ⟨g,0,none⟩) e i z K v:=by
 unfold aq.KI;exact Tr.eJ fun _ _ q k=>let n:=h.tc q k;⟨_,rfl,n1 D n⟩
theorem n14(D:XD w o r K)(h:XN o v r own (some g) none (some e.heap.size) (some i.heap.size) none [r]):aq.Pz (some ⟨g,0,none⟩) e i K v:=by
 unfold aq.Pz;exact⟨(Tr.eJ fun _ _ q k=>let n:=h.tc q k;⟨_,rfl,n2 D n⟩),(let n:=h.nX;n13 D n)⟩
theorem n15(D:XD w o r K)(h:XN o v r own (some g) none (some e.heap.size) none (some z.heap.size) [r]):aq.VT r.1 w (some ⟨g,0,none⟩) e z K v:=by
 unfold aq.VT;exact⟨(Tr.eJ fun _ _ q k=>let n:=h.tc q k;⟨_,rfl,D.cs n.kp,n3 D n⟩),(let n:=h.nY;⟨r.2.1,n13 D n⟩)⟩
theorem n16(D:XD w o r K)(h:XN o v r own (some g) none (some e.heap.size) none none [r]):aq.Qv r.1 w (some ⟨g,0,none⟩) e K v:=by
 unfold aq.Qv;exact⟨(Tr.eJ fun _ _ q k=>let n:=h.tc q k;⟨_,rfl,D.cs n.kp,n4 D n⟩),(let n:=h.nY;⟨r.2.1,n14 D n⟩),(let n:=h.nX;⟨D.cs n.kp,n15 D n⟩)⟩
theorem n17(D:XD w o r K)(h:XN o v r own (some g) none (some e.heap.size) (some i.heap.size) (some z.heap.size) []):aq.Qu r.1 w e (some ⟨g,0,none⟩) i z K v:=by
 unfold aq.Qu;exact⟨(Tr.eJ fun _ _ q k=>let n:=h.tc q k;⟨_,rfl,D.cs n.kp,n5 D n⟩),(let ⟨u,q,n⟩:=h.put;⟨u,q,n13 D n⟩)⟩
theorem n18(D:XD w o r K)(h:XN o v r own (some g) none (some e.heap.size) (some i.heap.size) none []):aq.VR r.1 w e (some ⟨g,0,none⟩) i K v:=by
 unfold aq.VR;exact⟨(Tr.eJ fun _ _ q k=>let n:=h.tc q k;⟨_,rfl,D.cs n.kp,n6 D n⟩),(let ⟨u,q,n⟩:=h.put;⟨u,q,n14 D n⟩),(let n:=h.nX;⟨D.cs n.kp,n17 D n⟩)⟩
theorem n19(D:XD w o r K)(h:XN o v r own (some g) none (some e.heap.size) none (some z.heap.size) []):aq.IE r.1 w r.1 e (some ⟨g,0,none⟩) z K v:=by
 unfold aq.IE;exact⟨(Tr.eJ fun _ _ q k=>let n:=h.tc q k;⟨_,rfl,D.cs n.kp,D.cs n.kp,n7 D n⟩),(let ⟨u,q,n⟩:=h.put;⟨u,q,D.cs n.kp,n15 D n⟩),(let n:=h.nY;⟨r.2.1,D.cs n.kp,n17 D n⟩)⟩
theorem n20(D:XD w o r K)(h:XN o v r own (some g) none (some e.heap.size) none none []):aq.Mh r.1 w r.1 e (some ⟨g,0,none⟩) K v:=by
 unfold aq.Mh;exact⟨(Tr.eJ fun _ _ q k=>let n:=h.tc q k;⟨_,rfl,D.cs n.kp,D.cs n.kp,n8 D n⟩),(let ⟨u,q,n⟩:=h.put;⟨u,q,D.cs n.kp,n16 D n⟩),(let n:=h.nY;⟨r.2.1,D.cs n.kp,n18 D n⟩),(let n:=h.nX;⟨D.cs n.kp,D.cs n.kp,n19 D n⟩)⟩
theorem n21(D:XD w o r K)(h:XN o v r own (some g) none none (some i.heap.size) (some z.heap.size) []):aq.Mg r.1 w (some ⟨g,0,none⟩) i z K v:=by
 unfold aq.Mg;exact⟨(Tr.eJ fun _ _ q k=>let n:=h.tc q k;⟨_,rfl,D.cs n.kp,n9 D n⟩),(let n:=h.tf;⟨D.cs n.kp,n17 D n⟩)⟩
theorem n22(D:XD w o r K)(h:XN o v r own (some g) none none (some i.heap.size) none []):aq.Qt r.1 w (some ⟨g,0,none⟩) i K v:=by
 unfold aq.Qt;exact⟨(Tr.eJ fun _ _ q k=>let n:=h.tc q k;⟨_,rfl,D.cs n.kp,n10 D n⟩),(let n:=h.tf;⟨D.cs n.kp,n18 D n⟩),(let n:=h.nX;⟨D.cs n.kp,n21 D n⟩)⟩
theorem n23(D:XD w o r K)(h:XN o v r own (some g) none none none (some z.heap.size) []):aq.Xg r.1 w r.1 (some ⟨g,0,none⟩) z K v:=by
 unfold aq.Xg;exact⟨(Tr.eJ fun _ _ q k=>let n:=h.tc q k;⟨_,rfl,D.cs n.kp,D.cs n.kp,n11 D n⟩),(let n:=h.tf;⟨D.cs n.kp,D.cs n.kp,n19 D n⟩),(let n:=h.nY;⟨r.2.1,D.cs n.kp,n21 D n⟩)⟩
theorem n24(D:XD w o r K)(h:XN o v r own (some g) none none none none []):aq.VQ r.1 w r.1 (some ⟨g,0,none⟩) K v:=by
 unfold aq.VQ;exact⟨(Tr.eJ fun _ _ q k=>let n:=h.tc q k;⟨_,rfl,D.cs n.kp,D.cs n.kp,n12 D n⟩),(let n:=h.tf;⟨D.cs n.kp,D.cs n.kp,n20 D n⟩),(let n:=h.nY;⟨r.2.1,D.cs n.kp,n22 D n⟩),(let n:=h.nX;⟨D.cs n.kp,D.cs n.kp,n23 D n⟩)⟩
theorem n25(D:XD w o r K)(h:XN o v r own none none (some e.heap.size) (some i.heap.size) (some z.heap.size) [r]):aq.VP r.1 e i z K v:=by
 unfold aq.VP;exact fK r fun _ _ q k=>let n:=h.dz q k;⟨_,rfl,n13 D n⟩
theorem n26(D:XD w o r K)(h:XN o v r own none none (some e.heap.size) (some i.heap.size) none [r]):aq.Xf r.1 e i w K v:=by
 unfold aq.Xf;exact⟨(fK r fun _ _ q k=>let n:=h.dz q k;⟨_,rfl,n14 D n⟩),(let n:=h.nX;⟨D.cs n.kp,n25 D n⟩)⟩
theorem n27(D:XD w o r K)(h:XN o v r own none none (some e.heap.size) none (some z.heap.size) [r]):aq.Py r.1 r.1 w e z K v:=by
 unfold aq.Py;exact⟨(fK r fun _ _ q k=>let n:=h.dz q k;⟨_,rfl,D.cs n.kp,n15 D n⟩),(let n:=h.nY;⟨r.2.1,D.cs n.kp,n25 D n⟩)⟩
theorem n28(D:XD w o r K)(h:XN o v r own none none (some e.heap.size) none none [r]):aq.N28 r.1 r.1 w e K v:=by
 unfold aq.N28;exact⟨(fK r fun _ _ q k=>let n:=h.dz q k;⟨_,rfl,D.cs n.kp,n16 D n⟩),(let n:=h.nY;⟨r.2.1,D.cs n.kp,n26 D n⟩),(let n:=h.nX;⟨D.cs n.kp,D.cs n.kp,n27 D n⟩)⟩
theorem n29(D:XD w o r K)(h:XN o v r own none none (some e.heap.size) (some i.heap.size) (some z.heap.size) []):aq.VO r.1 r.1 w e i z K v:=by
 unfold aq.VO;exact⟨(fK r fun _ _ q k=>let n:=h.dz q k;⟨_,rfl,D.cs n.kp,n17 D n⟩),(let ⟨u,q,n⟩:=h.put;⟨u,q,D.cs n.kp,n25 D n⟩)⟩
theorem n30(D:XD w o r K)(h:XN o v r own none none (some e.heap.size) (some i.heap.size) none []):aq.Xe r.1 r.1 w e i K v:=by
 unfold aq.Xe;exact⟨(fK r fun _ _ q k=>let n:=h.dz q k;⟨_,rfl,D.cs n.kp,n18 D n⟩),(let ⟨u,q,n⟩:=h.put;⟨u,q,D.cs n.kp,n26 D n⟩),(let n:=h.nX;⟨D.cs n.kp,D.cs n.kp,n29 D n⟩)⟩
theorem n31(D:XD w o r K)(h:XN o v r own none none (some e.heap.size) none (some z.heap.size) []):aq.Xd r.1 r.1 w r.1 e z K v:=by
 unfold aq.Xd;exact⟨(fK r fun _ _ q k=>let n:=h.dz q k;⟨_,rfl,D.cs n.kp,D.cs n.kp,n19 D n⟩),(let ⟨u,q,n⟩:=h.put;⟨u,q,D.cs n.kp,D.cs n.kp,n27 D n⟩),(let n:=h.nY;⟨r.2.1,D.cs n.kp,D.cs n.kp,n29 D n⟩)⟩
theorem n32(D:XD w o r K)(h:XN o v r own none none (some e.heap.size) none none []):aq.N32 r.1 r.1 w r.1 e K v:=by
 unfold aq.N32;exact⟨(fK r fun _ _ q k=>let n:=h.dz q k;⟨_,rfl,D.cs n.kp,D.cs n.kp,n20 D n⟩),(let ⟨u,q,n⟩:=h.put;⟨u,q,D.cs n.kp,D.cs n.kp,n28 D n⟩),(let n:=h.nY;⟨r.2.1,D.cs n.kp,D.cs n.kp,n30 D n⟩),(let n:=h.nX;⟨D.cs n.kp,D.cs n.kp,D.cs n.kp,n31 D n⟩)⟩
theorem n33(D:XD w o r K)(h:XN o v r own none none none (some i.heap.size) (some z.heap.size) []):aq.Xc r.1 r.1 w i z K v:=by
 unfold aq.Xc;exact⟨(fK r fun _ _ q k=>let n:=h.dz q k;⟨_,rfl,D.cs n.kp,n21 D n⟩),(let n:=h.tf;⟨D.cs n.kp,D.cs n.kp,n29 D n⟩)⟩
theorem n34(D:XD w o r K)(h:XN o v r own none none none (some i.heap.size) none []):aq.N34 r.1 r.1 w i K v:=by
 unfold aq.N34;exact⟨(fK r fun _ _ q k=>let n:=h.dz q k;⟨_,rfl,D.cs n.kp,n22 D n⟩),(let n:=h.tf;⟨D.cs n.kp,D.cs n.kp,n30 D n⟩),(let n:=h.nX;⟨D.cs n.kp,D.cs n.kp,n33 D n⟩)⟩
theorem n35(D:XD w o r K)(h:XN o v r own none none none none (some z.heap.size) []):aq.N35 r.1 r.1 w r.1 z K v:=by
 unfold aq.N35;exact⟨(fK r fun _ _ q k=>let n:=h.dz q k;⟨_,rfl,D.cs n.kp,D.cs n.kp,n23 D n⟩),(let n:=h.tf;⟨D.cs n.kp,D.cs n.kp,D.cs n.kp,n31 D n⟩),(let n:=h.nY;⟨r.2.1,D.cs n.kp,D.cs n.kp,n33 D n⟩)⟩
theorem n36(D:XD w o r K)(h:XN o v r own none none none none none []):aq.N36 r.1 r.1 w r.1 K v:=by
 unfold aq.N36;exact⟨(fK r fun _ _ q k=>let n:=h.dz q k;⟨_,rfl,D.cs n.kp,D.cs n.kp,n24 D n⟩),(let n:=h.tf;⟨D.cs n.kp,D.cs n.kp,D.cs n.kp,n32 D n⟩),(let n:=h.nY;⟨r.2.1,D.cs n.kp,D.cs n.kp,n34 D n⟩),(let n:=h.nX;⟨D.cs n.kp,D.cs n.kp,D.cs n.kp,n35 D n⟩)⟩
end
section
variable{K:Value->World->Prop}
theorem iq{w:World}(r:HT)(hK: ∀v x,BU v (fun k=>w.heap.size<=k/\k<v.heap.size) (fun _=>False) x [⟨r,[]⟩] [-1]->Kept Nil w v->K (.pointer (some ⟨x,0,none⟩)) v):
 bn prog aq.id #[.agg r.1] w K:=by
 refine aq.of ?_;unfold aq.W;intro w_2 IH;have k2:Kept Nil w w_2:=(Kept.refl _ _).alloc _;have la:w_2.heap[w.heap.size]? =some (.cells r.1 ag (0,0)):=aJ w _;have k3:Kept Nil w IH:=k2.drew;have oo:IH.heap[w.heap.size]? =some (.cells r.1 ag (0,0)):=la;clear_value IH;have N_3:XN IH IH r (fun _=>0) none none none none none []:=⟨Kept.refl _ _,(fun b e=>by cases e),(fun b e=>by cases e),(fun b e=>by cases e),(fun b e=>by cases e),(fun b e=>by cases e)⟩;have mE: ∀ {v:World},Kept Nil IH v-> ∃cs:Array Value,(.agg r.1:Value)=.agg cs/\cs.size=32/\Cells v (⟨w.heap.size,0,none⟩:Addr) cs:=fun k=>⟨r.1,rfl,r.2.1,Cells.bC (k.heap oo (fun h=>h))⟩;have uz: ∀ {v:World} {own:Nat->Nat} {g t mb ib cb:Nat},XN IH v r own (some g) (some t) (some mb) (some ib) (some cb) [r]->K (.pointer (some ⟨v.heap.size,0,none⟩)) (v.alloc (.cells #[.pointer (some ⟨g,0,none⟩),.pointer (some ⟨t,0,none⟩),.map (some mb),.slice (some ⟨ib,0,none⟩) 1 1,.map (some cb)] eo)):=
  fun h=>hK _ _ (h.fin k3.size) ((k3.trans h.kp (fun _ _ h=>h)).alloc _)
 have c3:r.1.size=32/\Cells IH (⟨w.heap.size,0,none⟩:Addr) r.1:=⟨r.2.1,Cells.bC oo⟩;refine⟨r.1,c3,r.1,c3,r.1,c3,?_⟩;have D:XD w IH r K:=⟨mE,uz⟩;exact n36 D N_3
end
end Go.Proofs.YtnboahlopghcjaaGreatDoor
