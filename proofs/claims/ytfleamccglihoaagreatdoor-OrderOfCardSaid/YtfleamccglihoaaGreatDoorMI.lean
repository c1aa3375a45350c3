import Derived.Test.YtfleamccglihoaaGreatDoorMG
import Derived.Test.YtfleamccglihoaaGreatDoorMH
import Derived.Test.YtfleamccglihoaaGreatDoorME
import Derived.Laws.AppendOwn
open Go.IntKind (i64 u64)
set_option linter.unusedVariables false
namespace Go.Proofs.YtfleamccglihoaaGreatDoor
open Go.Proofs.Tryz
open Go Go.bW
open Tr (kR)
structure rF(D:DG)(P:List Int):Prop where
 len:P.length=D.length
 root:P[0]? =some (-1)
 up:∀(i:Nat) (p:Int) nd,0<i->P[i]? =some p->D[i]? =some nd->∃(j:Nat) (m:DN),p=(j:Int)/\j<i/\D[j]? =some m/\m.id∈nd.ps
def Ch(D:DG)(P:List Int)(a b:HT):Prop:=∃(i k:Nat) (ni nk:DN),D[i]? =some ni/\ni.id=b/\D[k]? =some nk/\nk.id=a/\kR P i k
def lu(D:DG)(P:List Int)(s c:HT):Prop:=∃(i j:Nat) (ni m:DN),D[i]? =some ni/\ni.id=c/\P[i]? =some (j:Int)/\D[j]? =some m/\m.id=s
def OB(D:DG)(P:List Int)(h c:HT):Prop:=fz D h c/\∃s,lu D P s c/\h≠s/\¬fz D h s
section
variable{D:DG}{P:List Int}
theorem rF.par(H:rF D P):Tr.nK P:=⟨H.root,fun i p hi hp=>by
 have dS:=(lgeS hp).1;rw [H.len]at dS;obtain⟨j,m,h1,h2,_⟩:=H.up i p _ hi hp (List.getElem?_eq_getElem dS);exact⟨j,h2,h1⟩⟩
theorem lu.par(H:rF D P){s c:HT}(h:lu D P s c):nK D s c:=by
 obtain⟨i,j,ni,m,h1,rfl,h3,h4,rfl⟩:=h;have hi:0<i:=by
  rcases Nat.eq_zero_or_pos i with rfl|h
  ·rw [H.root]at h3;simp only [Option.some.injEq]at h3;omega
  ·exact h
 obtain⟨j',m',e,_,h5,h6⟩:=H.up i _ ni hi h3 h1;have:j'=j:=by omega
 subst this;rw [h4]at h5;cases h5;exact⟨ni,List.mem_of_getElem? h1,rfl,h6⟩
theorem lu.one(W:jY D){s s' c:HT}(h:lu D P s c)(h':lu D P s' c):s=s':=by
 obtain⟨i,j,ni,m,h1,rfl,h3,h4,rfl⟩:=h;obtain⟨i',j',ni',m',rD,e,BZ,Y2,rfl⟩:=h';have:=W.inj h1 rD e.symm;subst this;rw [h3]at BZ;simp only [Option.some.injEq]at BZ;have:j=j':=by omega
 subst this;rw [h4]at Y2;cases Y2;rfl
theorem lu.ex(H:rF D P){i:Nat}{ni:DN}(hi:0<i)(h:D[i]? =some ni):∃(j:Nat) (m:DN),j<i/\P[i]? =some (j:Int)/\D[j]? =some m/\lu D P m.id ni.id:=by
 have dS:=(lgeS h).1;obtain⟨p,hp⟩:∃p,P[i]? =some p:=⟨_,List.getElem?_eq_getElem (by rw [H.len];exact dS)⟩;obtain⟨j,m,rfl,hj,hm,_⟩:=H.up i p ni hi hp h;exact⟨j,m,hj,hp,hm,i,j,ni,m,h,rfl,hp,hm,rfl⟩
theorem Ch.refl(H:rF D P){a:HT}(h:a∈ids D):Ch D P a a:=by
 obtain⟨nd,gu,e⟩:=dr.1 h;obtain⟨i,hi⟩:=List.mem_iff_getElem?.1 gu;exact⟨i,i,nd,nd,hi,e,hi,e,.refl (by rw [H.len];exact(lgeS hi).1)⟩
theorem Ch.mem{a b:HT}(h:Ch D P a b):a∈ids D/\b∈ids D:=by
 obtain⟨i,k,ni,nk,h1,h2,h3,h4,_⟩:=h;exact⟨dr.2 ⟨nk,List.mem_of_getElem? h3,h4⟩,dr.2 ⟨ni,List.mem_of_getElem? h1,h2⟩⟩
theorem Ch.step(W:jY D){a s c:HT}(hs:lu D P s c)(h:Ch D P a s):Ch D P a c:=by
 obtain⟨i,j,ni,m,h1,rfl,h3,h4,rfl⟩:=hs;obtain⟨j',k,nj,nk,g1,g2,g3,g4,g5⟩:=h;have:=W.inj g1 h4 g2;subst this;exact⟨i,k,ni,nk,h1,rfl,g3,g4,.step h3 g5⟩
theorem Ch.GP(W:jY D)(H:rF D P){a b:HT}(h:Ch D P a b):a=b\/fz D a b:=by
 obtain⟨i,k,ni,nk,h1,rfl,h3,rfl,h5⟩:=h
 induction h5 generalizing ni with
 |refl _=>rw [h1]at h3;cases h3;exact .inl rfl
 | @step i j k hj hu ih=>
   have tU:=hu.lt;rw [H.len]at tU;obtain⟨m,hm⟩:∃m,D[j]? =some m:=⟨_,List.getElem?_eq_getElem tU⟩;have hp:nK D m.id ni.id:=lu.par H ⟨i,j,ni,m,h1,rfl,hj,hm,rfl⟩;rcases ih m hm h3 with e|e
   ·rw [e];exact .inr (.one hp)
   ·exact .inr (.more e hp)
theorem JZ(W:jY D)(H:rF D P){a b:HT}(fM:a≠b):fz D a b↔Ch D P a b\/∃c,OB D P a c/\Ch D P c b:=by
 constructor
 ·intro h
  obtain⟨nb,Ew,e⟩:=dr.1 (h.mem W).2;obtain⟨i,hb⟩:=List.mem_iff_getElem?.1 Ew;clear Ew;subst e
  induction i using Nat.strongRecOn generalizing nb with
  |_ i ih=>
   have hi:0<i:=by
    rcases Nat.eq_zero_or_pos i with rfl|h0
    ·exfalso
     obtain⟨x,y,mx,my,oY,_,hy,_,e2⟩:=h.at_ W;have:=W.inj hy hb e2;omega
    ·exact h0
   obtain⟨j,m,hj,_,hm,hs⟩:=lu.ex H hi hb;by_cases e1:a=m.id
   ·exact .inl (Ch.step W hs (by rw [e1];exact Ch.refl H (dr.2 ⟨m,List.mem_of_getElem? hm,rfl⟩)))
   ·by_cases e2:fz D a m.id
    ·rcases ih j hj m hm e1 e2 with e3|⟨c,e3,e4⟩
     ·exact .inl (Ch.step W hs e3)
     ·exact .inr ⟨c,e3,Ch.step W hs e4⟩
    ·exact .inr ⟨nb.id,⟨h,m.id,hs,e1,e2⟩,Ch.refl H (dr.2 ⟨nb,List.mem_of_getElem? hb,rfl⟩)⟩
 ·rintro(h|⟨c,⟨h1,_⟩,h2⟩)
  ·exact(h.GP W H).resolve_left fM
  ·rcases h2.GP W H with e|e
   ·rw [<-e];exact h1
   ·exact h1.trans e
theorem rF.snoc(H:rF D P){nd:DN}{j:Nat}{m:DN}(hj:D[j]? =some m)(hm:m.id∈nd.ps)(jF:0<D.length):rF (D++ [nd]) (P++ [(j:Int)]) where
 len:=by simp [H.len]
 root:=by rw [List.getElem?_append_left (by rw [H.len];exact jF)];exact H.root
 up:=fun i p nd' hi hp gu=>by
  have tU:=(lgeS hj).1;by_cases h:i<D.length
  ·rw [List.getElem?_append_left (by rw [H.len];exact h)]at hp
   rw [List.getElem?_append_left h]at gu;obtain⟨j',m',e,h1,h2,h3⟩:=H.up i p nd' hi hp gu;exact⟨j',m',e,h1,by rw [List.getElem?_append_left (by omega)];exact h2,h3⟩
  ·have dS:=(lgeS gu).1
   have e:i=D.length:=by simp at dS;omega
   subst e;rw [<-H.len]at hp;simp at hp gu;subst hp gu;exact⟨j,m,rfl,tU,by rw [List.getElem?_append_left tU];exact hj,hm⟩
theorem oy(W:jY D)(H:rF D P){nd:DN}(hn:nd.id∉ids D){j:Nat}{m:DN}(hj:D[j]? =some m){s c:HT}:
 lu (D++ [nd]) (P++ [(j:Int)]) s c↔lu D P s c\/(c=nd.id/\s=m.id):=by
 have tU:=(lgeS hj).1;constructor
 ·rintro⟨i,k,ni,mk,h1,rfl,h3,h4,rfl⟩
  by_cases h:i<D.length
  ·rw [List.getElem?_append_left h]at h1
   rw [List.getElem?_append_left (by rw [H.len];exact h)]at h3;have hk:k<D.length:=by
    rcases Nat.eq_zero_or_pos i with rfl|h0
    ·rw [H.root]at h3;simp only [Option.some.injEq]at h3;omega
    ·obtain⟨k',_,e,h5,_⟩:=H.up i _ ni h0 h3 h1
     omega
   rw [List.getElem?_append_left hk]at h4;exact .inl ⟨i,k,ni,mk,h1,rfl,h3,h4,rfl⟩
  ·have dS:=(lgeS h1).1
   have e:i=D.length:=by simp at dS;omega
   subst e;have BZ:=h3;rw [<-H.len]at BZ;simp at h1 BZ;subst h1;have:k=j:=by omega
   subst this;rw [List.getElem?_append_left tU,hj]at h4;cases h4;exact .inr ⟨rfl,rfl⟩
 ·rintro(⟨i,k,ni,mk,h1,rfl,h3,h4,rfl⟩|⟨rfl,rfl⟩)
  ·have hi:=(lgeS h1).1
   have hk:=(lgeS h4).1;exact⟨i,k,ni,mk,by rw [List.getElem?_append_left hi];exact h1,rfl,by rw [List.getElem?_append_left (by rw [H.len];exact hi)];exact h3,by rw [List.getElem?_append_left hk];exact h4,rfl⟩
  ·exact⟨D.length,j,nd,m,by simp,rfl,by rw [<-H.len];simp,by rw [List.getElem?_append_left tU];exact hj,rfl⟩
theorem JP(W:jY D)(H:rF D P){nd:DN}(hn:nd.id∉ids D)(gK:∀p∈nd.ps,p∈ids D){j:Nat}{m:DN}(hj:D[j]? =some m){h c:HT}:
 OB (D++ [nd]) (P++ [(j:Int)]) h c↔OB D P h c\/(c=nd.id/\fz (D++ [nd]) h nd.id/\h≠m.id/\¬fz D h m.id):=by
 have hm:m.id∈ids D:=dr.2 ⟨m,List.mem_of_getElem? hj,rfl⟩;have key:∀ {s c},lu D P s c->s∈ids D/\c∈ids D:=fun hs=>(fz.one (lu.par H hs)).mem W;constructor
 ·rintro⟨h1,s,hs,h2,h3⟩
  rcases(oy W H hn hj).1 hs with hs|⟨rfl,rfl⟩
  ·obtain⟨g1,g2⟩:=key hs
   exact .inl ⟨(jy W hn g2).1 h1,s,hs,h2,fun e=>h3 ((jy W hn g1).2 e)⟩
  ·exact .inr ⟨rfl,h1,h2,fun e=>h3 ((jy W hn hm).2 e)⟩
 ·rintro(⟨h1,s,hs,h2,h3⟩|⟨rfl,h1,h2,h3⟩)
  ·obtain⟨g1,g2⟩:=key hs
   exact⟨(jy W hn g2).2 h1,s,(oy W H hn hj).2 (.inl hs),h2,fun e=>h3 ((jy W hn g1).1 e)⟩
  ·exact⟨h1,m.id,(oy W H hn hj).2 (.inr ⟨rfl,rfl⟩),h2,fun e=>h3 ((jy W hn hm).1 e)⟩
inductive Up (P:List Int):Nat->List Nat->Prop
 |root:Up P 0 [0]
 |step {i j:Nat} {l:List Nat}:P[i]? =some (j:Int)->Up P j l->Up P i (i::l)
theorem Up.ex(hP:Tr.nK P):∀i,i<P.length->∃l,Up P i l:=by
 intro i
 induction i using Nat.strongRecOn with
 |_ i ih=>
  intro hi;rcases Nat.eq_zero_or_pos i with rfl|h0
  ·exact⟨[0],.root⟩
  ·obtain⟨j,h1,h2⟩:=hP.up i _ h0 (List.getElem?_eq_getElem hi)
   obtain⟨l,hl⟩:=ih j h1 (by omega);exact⟨i::l,.step (by rw [List.getElem?_eq_getElem hi,h2]) hl⟩
theorem Up.mem(hP:Tr.nK P){i:Nat}{l:List Nat}(h:Up P i l)(hi:i<P.length){k:Nat}:k∈l↔kR P i k:=by
 induction h with
 |root=>
  rw [List.mem_singleton];constructor
  ·rintro rfl;exact .refl hi
  ·intro h;have:=h.le hP;omega
 | @step i j l hj hu ih=>
   have tU:j<P.length:=by have:=(Tr.iJ hP (Tr.eE.2 hj)).1;omega
   rw [List.mem_cons,ih tU];constructor
   ·rintro(rfl|h)
    ·exact .refl hi
    ·exact .step hj h
   ·intro h
    by_cases e:k=i
    ·exact .inl e
    ·exact .inr (h.inv (fun e'=>e e'.symm) hj)
theorem Up.one(hP:Tr.nK P){i:Nat}{l l':List Nat}(h:Up P i l)(h':Up P i l'):l=l':=by
 induction h generalizing l' with
 |root=>
  cases h' with
  |root=>rfl
  |step hj _=>rw [hP.root]at hj;simp only [Option.some.injEq]at hj;omega
 | @step i j l hj hu ih=>
   cases h' with
   |root=>rw [hP.root]at hj;simp only [Option.some.injEq]at hj;omega
   | @step _ j' l' vW IP=>
     rw [hj]at vW;simp only [Option.some.injEq]at vW;have:j=j':=by omega
     subst this;rw [ih IP]
theorem Up.head{i:Nat}{l:List Nat}(h:Up P i l):l[0]? =some i:=by cases h<;>rfl
theorem Up.len(hP:Tr.nK P){i:Nat}{l:List Nat}(h:Up P i l):l.length<=i+1:=by
 induction h with
 |root=>simp
 | @step i j l hj hu ih=>have:=(Tr.iJ hP (Tr.eE.2 hj)).1;simp only [List.length_cons];omega
theorem Up.lt(hP:Tr.nK P){i:Nat}{l:List Nat}(h:Up P i l)(hi:i<P.length):∀k∈l,k<P.length:=fun k hk=>((h.mem hP hi).1 hk).Yf
end
end Go.Proofs.YtfleamccglihoaaGreatDoor
namespace Go.Proofs.YtfleamccglihoaaGreatDoor
open Go.Proofs.Tryz
open Go Go.bW Go.RowKit
structure xx(mt te:TypeId)(z:Value):Prop where
 pg:prog.underlying mt=some (.map ag te)
 zero:∀w,(zeroValue te).run prog w=.ok z w
def assoc(h:HT):List (HT×Value)->Option Value
 | []=>none
 |(x,v)::l=>if h=x then some v else assoc h l
def mc(h:HT):List (HT×Value)->Nat->Option (Nat×Value)
 | [],_=>none
 |(x,v)::l,i=>if h=x then some (i,v)else mc h l (i+1)
theorem nn(h:HT):∀(l:List (HT×Value)) (i:Nat),(mc h l i).map (·.2)=assoc h l
 | [],_=>rfl
 |(x,v)::l,i=>by
  unfold mc assoc;split
  ·rfl
  ·exact nn h l (i+1)
theorem wm{h:HT}:∀ {l:List (HT×Value)} {i j:Nat} {v:Value},mc h l i=some (j,v)->i<=j/\l[j-i]? =some (h,v)/\∀(x:HT) (u:Value),assoc x (l.set (j-i) (h,u))=if x=h then some u else assoc x l
 | [],i,j,v,e=>by simp [mc]at e
 |(x,u)::l,i,j,v,e=>by
  unfold mc at e;split at e
  ·rename_i hx
   cases e;subst hx;refine⟨Nat.le_refl _,by rw [Nat.sub_self];rfl,fun x u=>?_⟩;rw [Nat.sub_self];simp only [List.set_cons_zero,assoc];by_cases hx:x=h<;>simp [hx]
  ·rename_i hx
   obtain⟨h1,h2,h3⟩:=wm e;have e1:j-i=(j-(i+1))+1:=by omega
   refine⟨by omega,by rw [e1];exact h2,fun y u'=>?_⟩;rw [e1];simp only [List.set_cons_succ,assoc,h3];by_cases hy:y=h
   ·subst hy;simp [hx]
   ·simp [hy]
theorem wG{h:HT}{v:Value}:∀ {l:List (HT×Value)},assoc h l=none->∀x,assoc x (l++ [(h,v)])=if x=h then some v else assoc x l
 | [],_,x=>by simp [assoc]
 |(y,u)::l,e,x=>by
  unfold assoc at e;split at e
  ·cases e
  ·rename_i hy
   have ih:=wG (v:=v) e x;simp only [List.cons_append,assoc,ih];by_cases hx:x=y
   ·subst hx;simp [Ne.symm hy]
   ·simp [hx]
def nI(es:List MapEntry)(l:List (HT×Value)):Prop:=match es,l with
 | [],[]=>True
 |e::es,p::l=>(e.key=.agg p.1.1/\e.val=p.2)/\nI es l
 |_,_=>False
theorem nI.snoc:∀ {es:List MapEntry} {l:List (HT×Value)} {e:MapEntry} {p:HT×Value},nI es l->e.key=.agg p.1.1->e.val=p.2->nI (es++ [e]) (l++ [p])
 | [],[],_,_,_,h1,h2=>⟨⟨h1,h2⟩,trivial⟩
 |_::_,_::_,_,_,he,h1,h2=>⟨he.1,nI.snoc he.2 h1 h2⟩
 | [],_::_,_,_,he,_,_=>he.elim
 |_::_,[],_,_,he,_,_=>he.elim
theorem nI.get:∀ {es:List MapEntry} {l:List (HT×Value)} {j:Nat} {p:HT×Value},nI es l->l[j]? =some p->∃e,es[j]? =some e/\e.key=.agg p.1.1/\e.val=p.2
 | [],[],_,_,_,h=>by simp at h
 |e::_,_::_,0,_,he,h=>by
  simp only [List.getElem?_cons_zero,Option.some.injEq]at h;subst h;exact⟨e,rfl,he.1⟩
 |_::_,_::_,j+1,_,he,h=>by
  obtain⟨e,h1,h2⟩:=nI.get he.2 (j:=j) (by simpa using h);exact⟨e,by simpa using h1,h2⟩
 | [],_::_,_,_,he,_=>he.elim
 |_::_,[],_,_,he,_=>he.elim
theorem nI.set:∀ {es:List MapEntry} {l:List (HT×Value)} {j:Nat} {p:HT×Value} {f:MapEntry->MapEntry},nI es l->(∀e,(f e).key=.agg p.1.1/\(f e).val=p.2)->nI (es.modify j f) (l.set j p)
 | [],[],_,_,_,he,_=>by simpa using he
 |_::_,_::_,0,_,_,he,hf=>⟨hf _,he.2⟩
 |_::_,_::_,j+1,_,_,he,hf=>by
  simp only [List.modify_succ_cons,List.set_cons_succ];exact⟨he.1,nI.set he.2 hf⟩
 | [],_::_,_,_,_,he,_=>he.elim
 |_::_,[],_,_,_,he,_=>he.elim
theorem nI.len:∀ {es:List MapEntry} {l:List (HT×Value)},nI es l->es.length=l.length
 | [],[],_=>rfl
 |_::_,_::_,he=>by simp [nI.len he.2]
 | [],_::_,he=>he.elim
 |_::_,[],he=>he.elim
section
variable{w:World}
theorem rK(h:HT)(w:World):∀(es:List MapEntry) (l:List (HT×Value)) (i:Nat),nI es l->
 (Instr.findAsking ag (.agg h.1) es i).run prog w=.ok (mc h l i) w
 | [],[],i,_=>by simp [Instr.findAsking,mc]
 |e::es,(x,v)::l,i,he=>by
  have hq:=vd h x w;have ih:=rK h w es l (i+1) he.2;simp only [Instr.findAsking,he.1.1,Sem.run_bind,hq,Result.andThen_ok];by_cases hx:h=x
  ·simp [hx,mc,he.1.2]
  ·simp [hx,mc,ih]
 | [],_::_,_,he=>he.elim
 |_::_,[],_,he=>he.elim
theorem mf(h:HT)(w:World){es:List MapEntry}{l:List (HT×Value)}(he:nI es l):
 (Instr.findKey ag (.agg h.1) es).run prog w=.ok (mc h l 0) w:=by
 have h1:=rK h w es l 0 he;simp only [Instr.findKey,Sem.run_bind,run_underlying KQ,Result.andThen_ok];cases es with
 |nil=>
  cases l with
  |nil=>simp [Instr.findNow,mc]
  |cons x l=>exact he.elim
 |cons e es=>
  have:Instr.findNow (.array 32 jb) (.agg h.1) (e::es) 0=none:=by
   simp only [Instr.findNow,Instr.sameNow]
  rw [this];exact h1
theorem Fw(h:HT):Instr.sameBits 10000 (.agg h.1) (.agg h.1)=true:=by
 show Instr.sameBits (9999+1) (.agg h.1) (.agg h.1)=true
 rw [Instr.sameBits];simp only [beq_self_eq_true,Bool.true_and,List.all_eq_true];rintro⟨x,y⟩ oY;have hxe:x=y:=by
  obtain⟨i,hi⟩:=List.mem_iff_getElem?.1 oY;rw [List.getElem?_zip_eq_some]at hi;have:=hi.1.symm.trans hi.2;simpa using this
 subst hxe;have hm:=(List.of_mem_zip oY).1;obtain⟨n,rfl,_⟩:=h.2.2 x hm;simp [Instr.sameBits]
structure fR(w:World)(m:Nat)(f:HT->Option Value):Prop where
 ex:∃es clock l,w.heap[m]? =some (.map es clock)/\nI es.toList l/\(∀x,assoc x l=f x)/\(∀e∈es.toList,e.born<clock)/\(es.toList.map (·.born)).Nodup/\(l.map (·.1)).Nodup
theorem fR.aF{S:Nat->Prop}{w w':World}{m:Nat}{f:HT->Option Value}(h:fR w m f)(hk:Kept S w w')(hn:¬S m):fR w' m f:=by
 obtain⟨es,clock,l,h1,h2⟩:=h.ex;exact⟨es,clock,l,hk.heap h1 hn,h2⟩
theorem fR.same{w w':World}{m:Nat}{f:HT->Option Value}(h:fR w m f)(hk:Kept Nil w w'):fR w' m f:=h.aF hk (fun h=>h)
theorem fR.lt{w:World}{m:Nat}{f:HT->Option Value}(h:fR w m f):m<w.heap.size:=by
 obtain⟨es,clock,l,h1,_⟩:=h.ex;exact aU h1
theorem fR.new(w:World):fR (w.alloc (.map #[] 0)) w.heap.size (fun _=>none):=⟨#[],0,[],aH w _,trivial,fun _=>rfl,by simp,by simp,by simp⟩
theorem fR.look{mt te:TypeId}{z:Value}(T:xx mt te z){m:Nat}{f:HT->Option Value}(hm:fR w m f)(h:HT):
 (Instr.lookup mt (.map (some m)) (.agg h.1) false).run prog w=.ok ((f h).getD z) w:=by
 obtain⟨es,clock,l,h1,h2,h3,_⟩:=hm.ex;have h4:=mf h w h2;have h5:=nn h l 0;rw [h3]at h5;simp only [Instr.lookup,Sem.run_bind,run_underlying T.pg,pV h1,Result.andThen_ok,Sem.run_pure,jt,h4];cases hp:mc h l 0 with
 |none=>rw [hp]at h5;simp [<-h5,T.zero]
 |some p=>rw [hp]at h5;simp [<-h5]
theorem fR.put{mt te:TypeId}{z:Value}(T:xx mt te z){m:Nat}{f:HT->Option Value}(hm:fR w m f)(h:HT)(v:Value):
 ∃w',(Instr.mapUpdate mt (.map (some m)) (.agg h.1) v).run prog w=.ok () w'/\fR w' m (fun x=>if x=h then some v else f x)/\Kept (· =m) w w':=by
 obtain⟨es,clock,l,h1,h2,h3,hb,hd,hk⟩:=hm.ex;have h4:=mf h w h2;have kept:∀o,Kept (· =m) w {w with heap:=w.heap.setIfInBounds m o}:=fun o=>⟨rfl,rfl,rfl,by simp,fun k _ hk=>by simp [Ne.symm hk]⟩;cases hp:mc h l 0 with
 |none=>
  rw [hp]at h4;have h5:=nn h l 0;rw [hp]at h5;refine⟨{w with heap:=w.heap.setIfInBounds m (.map (es.push {key:=.agg h.1,val:=v,born:=clock}) (clock+1))},?_,⟨es.push {key:=.agg h.1,val:=v,born:=clock},clock+1,l++ [(h,v)],?_,?_,?_,?_,?_,?_⟩,kept _⟩
  ·simp only [Instr.mapUpdate,Sem.run_bind,run_underlying T.pg,pV h1,Result.andThen_ok,jt,h4,Cm _ h1]
  ·simp [aU h1]
  ·have:=h2.snoc (e:= {key:=.agg h.1,val:=v,born:=clock}) (p:=(h,v)) rfl rfl
   simpa using this
  ·intro x
   rw [wG h5.symm,h3]
  ·intro e he
   rw [Array.toList_push,List.mem_append,List.mem_singleton]at he;rcases he with he|rfl
   ·have:=hb e he;omega
   ·exact Nat.lt_succ_self _
  ·rw [Array.toList_push,List.map_append,List.nodup_append]
   refine⟨hd,by simp,fun a ha b xh e=>?_⟩;simp only [List.map_cons,List.map_nil,List.mem_singleton]at xh;obtain⟨e',Me,rfl⟩:=List.mem_map.1 ha;have:=hb e' Me;omega
  ·rw [List.map_append,List.nodup_append]
   refine⟨hk,by simp,fun a ha b xh e=>?_⟩;simp only [List.map_cons,List.map_nil,List.mem_singleton]at xh;subst xh;subst e;have key:∀l:List (HT×Value),a∈l.map (·.1)->assoc a l≠none:=fun l=>by
    induction l with
    |nil=>simp
    |cons p l ih=>
     obtain⟨y,u⟩:=p;intro hm;unfold assoc;split
     ·simp
     ·rename_i hy
      simp only [List.map_cons,List.mem_cons]at hm;exact ih (hm.resolve_left hy)
   exact key l ha h5.symm
 |some p=>
  obtain⟨j,u⟩:=p;rw [hp]at h4;obtain⟨_,h6,h7⟩:=wm hp;rw [Nat.sub_zero]at h6 h7;obtain⟨e,he1,Sn,_⟩:=h2.get h6;have hes:es[j]? =some e:=by simpa using he1
  refine⟨{w with heap:=w.heap.setIfInBounds m (.map (es.modify j fun e=> {e with key:=.agg h.1,val:=v}) clock)},?_,⟨es.modify j fun e=> {e with key:=.agg h.1,val:=v},clock,l.set j (h,v),?_,?_,?_,?_,?_,?_⟩,kept _⟩
  ·simp only [Instr.mapUpdate,Sem.run_bind,run_underlying T.pg,pV h1,Result.andThen_ok,jt,h4,Instr.keyThatStays,hes,Option.map_some,Option.getD_some,Sn,Fw,if_true,Sem.run_pure,Cm _ h1]
  ·simp [aU h1]
  ·rw [Array.toList_modify]
   exact h2.set (p:=(h,v)) fun e=>⟨rfl,rfl⟩
  ·intro x
   rw [h7,h3]
  ·intro x hx
   rw [Array.toList_modify]at hx;obtain⟨i,hi⟩:=List.mem_iff_getElem?.1 hx;rw [List.getElem?_modify]at hi;cases hg:es.toList[i]? with
   |none=>rw [hg]at hi;simp at hi
   |some y=>
    rw [hg]at hi;have:=hb y (List.mem_of_getElem? hg);by_cases rC:j=i
    ·simp [rC]at hi
     rw [<-hi];exact this
    ·simp [rC]at hi
     rw [<-hi];exact this
  ·have:(es.modify j fun e=> {e with key:=.agg h.1,val:=v}).toList.map (·.born)=es.toList.map (·.born):=by
    rw [Array.toList_modify];apply List.ext_getElem?;intro i;rw [List.getElem?_map,List.getElem?_map,List.getElem?_modify];cases es.toList[i]? with
    |none=>simp
    |some y=>by_cases rC:j=i<;>simp [rC]
   rw [this];exact hd
  ·have:(l.set j (h,v)).map (·.1)=l.map (·.1):=by
    apply List.ext_getElem?;intro i;rw [List.getElem?_map,List.getElem?_map,List.getElem?_set];by_cases rC:j=i
    ·subst rC
     have cY:=(lgeS h6).1;have gA:=(lgeS h6).2;simp [cY,gA]
    ·simp [rC]
   rw [this];exact hk
end
end Go.Proofs.YtfleamccglihoaaGreatDoor
namespace Go.Proofs.YtfleamccglihoaaGreatDoor
open Go.Proofs.Tryz
open Go Go.bW Go.RowKit
open Tr (kR)
theorem uD{te:TypeId}{z:Value}(h:(prog.info? te).bind (·.zero)=some z)(w:World):(zeroValue te).run prog w=.ok z w:=by
 cases hi:prog.info? te with
 |none=>rw [hi]at h;cases h
 |some i=>
  rw [hi]at h;have hz:i.zero=some z:=h;simp [zeroValue,typeInfo,hi,hz]
theorem yI:xx gY ay (.slice none 0 0):=⟨by kernel_rfl,uD (by kernel_rfl)⟩
theorem H6:xx lV tz (.agg #[.bool false]):=⟨by kernel_rfl,uD (by kernel_rfl)⟩
structure XM where
 g:Nat
 t:Nat
 mb:Nat
 ib:Nat
 ic:Nat
 cb:Nat
 T:List Tr.Nd
 d:Int
 SG:Nat->Prop
 ST:Nat->Prop
 SO:Nat->Prop
def XM.own(m:XM)(x k:Nat):Prop:=k=x\/k=m.mb\/k=m.ib\/k=m.cb
def XM.lg(m:XM)(x k:Nat):Prop:=m.SG k\/m.ST k\/m.SO k\/m.own x k
def oX(w:World)(SO:Nat->Prop)(N:Nat)(v:Option Value)(l:List HT):Prop:=
 (v=none/\l= [])\/∃(A:Option Addr) (n c:Nat),v=some (.slice A n c)/\n<=c/\HS w A n l/\n<=N/\∀a,A=some a->SO a.block
structure XV(w:World)(F:Nat->Prop)(x:Nat)(D:DG)(P:List Int)(m:XM):Prop where
 top:w.heap[x]? =some (.cells #[.pointer (some ⟨m.g,0,none⟩),.pointer (some ⟨m.t,0,none⟩),.map (some m.mb),.slice (some ⟨m.ib,0,none⟩) D.length m.ic,.map (some m.cb)] eV (0,0))
 G:EV w m.SG F m.g D
 T:Tr.pk w m.ST m.t m.T m.d
 Mu:Tr.xy m.T
 b0:Tr.b0 m.T=P
 dl:0<=m.d/\m.d<=D.length
 at_:IsMap w m.mb (ids D)
 row:bI w 0 (some ⟨m.ib,0,none⟩) D.length m.ic (ids D)
 Zf:∃f,fR w m.cb f/\∀h,∃l,oX w m.SO D.length (f h) l/\∀c,c∈l↔OB D P h c
 iA:rF D P
 W:jY D
 gt:∀k,m.SG k->¬m.ST k/\¬m.SO k
 to:∀k,m.ST k->¬m.SO k
 fd:∀k,F k->¬m.ST k/\¬m.SO k
 od:∀k,m.own x k->¬m.SG k/\¬m.ST k/\¬m.SO k/\¬F k
 ne:x≠m.mb/\x≠m.ib/\x≠m.cb/\m.mb≠m.ib/\m.mb≠m.cb/\m.ib≠m.cb
 low:∀k,m.lg x k\/F k->k<w.heap.size
def DD(w:World)(S F:Nat->Prop)(x:Nat)(D:DG)(P:List Int):Prop:=∃m,XV w F x D P m/\∀k,m.lg x k->S k
section
variable{w w':World}{F S:Nat->Prop}{x:Nat}{D:DG}{P:List Int}{m:XM}{K:Value->World->Prop}
theorem oX.aF{S0 SO:Nat->Prop}{N:Nat}{v:Option Value}{l:List HT}(h:oX w SO N v l)(hk:Kept S0 w w')(hn:∀k,SO k->¬S0 k):oX w' SO N v l:=by
 rcases h with h|⟨A,n,c,h1,h2,h3,h4,h5⟩
 ·exact .inl h
 ·exact .inr ⟨A,n,c,h1,h2,h3.aF hk (fun a ha=>hn _ (h5 a ha)),h4,h5⟩
theorem XV.aF{S0:Nat->Prop}(h:XV w F x D P m)(hk:Kept S0 w w')(hS:∀k,m.lg x k->¬S0 k)(hF:∀k,F k->¬S0 k):XV w' F x D P m where
 top:=hk.heap h.top (hS _ (.inr (.inr (.inr (.inl rfl)))))
 G:=h.G.aF hk (fun k e=>hS k (.inl e)) hF
 T:=h.T.aF hk (fun k e=>hS k (.inr (.inl e)))
 Mu:=h.Mu
 b0:=h.b0
 dl:=h.dl
 at_:=h.at_.aF hk (hS _ (.inr (.inr (.inr (.inr (.inl rfl))))))
 row:=Row.aF h.row hk (fun k e=>by cases e;exact hS _ (.inr (.inr (.inr (.inr (.inr (.inl rfl)))))))
 Zf:=by
  obtain⟨f,h1,h2⟩:=h.Zf;refine⟨f,h1.aF hk (hS _ (.inr (.inr (.inr (.inr (.inr (.inr rfl))))))),fun y=>?_⟩;obtain⟨l,h3,h4⟩:=h2 y;exact⟨l,h3.aF hk (fun k e=>hS k (.inr (.inr (.inl e)))),h4⟩
 iA:=h.iA
 W:=h.W
 gt:=h.gt
 to:=h.to
 fd:=h.fd
 od:=h.od
 ne:=h.ne
 low:=fun k e=>Nat.lt_of_lt_of_le (h.low k e) hk.size
theorem XV.same(h:XV w F x D P m)(hk:Kept Nil w w'):XV w' F x D P m:=h.aF hk (fun _ _ h=>h) (fun _ _ h=>h)
theorem DD.aF{S0:Nat->Prop}(h:DD w S F x D P)(hk:Kept S0 w w')(hS:∀k,S k->¬S0 k)(hF:∀k,F k->¬S0 k):DD w' S F x D P:=
 let ⟨m,h1,h2⟩:=h;⟨m,h1.aF hk (fun k e=>hS k (h2 k e)) hF,h2⟩
theorem DD.same(h:DD w S F x D P)(hk:Kept Nil w w'):DD w' S F x D P:=h.aF hk (fun _ _ h=>h) (fun _ _ h=>h)
theorem XV.c0(h:XV w F x D P m):w.cell? ((⟨x,0,none⟩:Addr).add 0)=some (.pointer (some ⟨m.g,0,none⟩)):=by rw [bt,aD h.top];rfl
theorem XV.c1(h:XV w F x D P m):w.cell? ((⟨x,0,none⟩:Addr).add 1)=some (.pointer (some ⟨m.t,0,none⟩)):=by rw [bt,aD h.top];rfl
theorem XV.c2(h:XV w F x D P m):w.cell? ((⟨x,0,none⟩:Addr).add 2)=some (.map (some m.mb)):=by rw [bt,aD h.top];rfl
theorem XV.c3(h:XV w F x D P m):w.cell? ((⟨x,0,none⟩:Addr).add 3)=some (.slice (some ⟨m.ib,0,none⟩) D.length m.ic):=by rw [bt,aD h.top];rfl
theorem XV.c4(h:XV w F x D P m):w.cell? ((⟨x,0,none⟩:Addr).add 4)=some (.map (some m.cb)):=by rw [bt,aD h.top];rfl
theorem XV.OW(h:XV w F x D P m):m.T.length=D.length:=by
 have:=Tr.fi m.T;rw [h.b0,h.iA.len]at this;exact this.symm
theorem XV.pg(h:XV w F x D P m){i k:Nat}{id kd:Tr.Nd}(hi:m.T[i]? =some id)(hk:m.T[k]? =some kd):decide (kd.lo<=id.lo/\id.hi<=kd.hi)=true↔kR P i k:=by
 rw [decide_eq_true_iff,<-h.b0];exact h.Mu.under hi hk
theorem EE(a b:HT):a.1.toList++(b.1.toList++ [])=dh [a,b]:=by simp [dh]
theorem tI(h:XV w F x D P m)(hK:K (.bool true) w):bC prog ft.id #[.pointer (some ⟨x,0,none⟩)] w K:=
 ft.of (Split.yes rfl ⟨_,h.c0,hK⟩)
theorem zh{xb:Nat}(h:XV w F x D P m)(hg:w.heap[xb]? =some (.cells #[.pointer (some ⟨x,0,none⟩)] gE (0,0))){A:Option Addr}{n cx:Nat}{l:List HT}(hl:HS w A n l)(hn:n<=400000)
 (hK:∀w' (b:Bool),(b=true↔∃p∈l,p∉ids D)->Kept Nil w w'->K (.bool b) w'):
 bC prog dT.id #[.slice A n cx,.func (.func dH.id) #[] #[.pointer (some ⟨xb,0,none⟩)]] w K:=by
 have hlen:=hl.len;refine ct.of (au.of ?_);refine au.cC (I:=fun s w'=>∃i:Nat,s=(0,(i:Int))/\i<=n/\(∀p∈l.take i,p∈ids D)/\Kept Nil w w') (μ:=fun s _=>((n:Int)-s.2).toNat) (s:=(0,0)) ⟨0,rfl,Nat.zero_le _,by simp,Kept.refl _ _⟩ ?_;rintro s w' ⟨i,rfl,hi,dt,kw⟩;refine Split.dec (fun jK=>?_) (fun gA=>?_)
 ·simp only at jK
  have dS:i<n:=by omega
  obtain⟨y,hy⟩:∃y,l[i]? =some y:=⟨_,List.getElem?_eq_getElem (by omega)⟩;refine(hl.same kw).load (i:=(i:Int)) (by omega) hy ?_;refine dH.of ?_;unfold dH.W;intro w3 w4;have k3:Kept Nil w' w3:=(Kept.refl _ _).alloc _;have mK:w3.heap[w'.heap.size]? =some (.cells y.1 ag (0,0)):=aH w' _;have k4:Kept Nil w3 w4:=(Kept.refl _ _).drew;clear_value w4;have ph:=k4.heap mK (fun h=>h);have Ig:=(kw.tt k3).tt k4;obtain⟨bl,c,mb,M,G⟩:=(h.same Ig).G;refine⟨some ⟨x,0,none⟩,by rw [aD (Ig.heap hg (fun h=>h))];rfl,_,(h.same Ig).c0,y.1,⟨y.2.1,Cells.bL ph⟩,uP G y fun w7 k7=>⟨_,rfl,_,rfl,?_⟩⟩;have Cw:=Ig.tt k7;by_cases hm:y∈ids D
  ·refine Split.no (by rw [decide_eq_true hm];rfl) ?_
   simp only;rw [dM (n:=(i:Int)) (by omega) (by omega)];refine⟨(0,(i:Int)+1),rfl,⟨i+1,rfl,dS,fun p hp=>?_,Cw⟩,by simp only;omega⟩;rcases(bP hy).1 hp with hp|rfl
   ·exact dt p hp
   ·exact hm
  ·refine Split.yes (by rw [decide_eq_false hm];rfl) ?_
   refine⟨(i:Int),rfl,?_⟩;exact hK w7 _ ⟨fun _=>⟨y,List.mem_of_getElem? hy,hm⟩,fun _=>decide_eq_true (by omega)⟩ Cw
 ·simp only at gA
  rw [aR,au.df];rw [List.take_of_length_le (by omega)]at dt;exact⟨-1,rfl,hK w' _ ⟨fun h=>absurd (of_decide_eq_true h) (by omega),fun⟨p,hp,hn⟩=>absurd (dt p hp) hn⟩ kw⟩
theorem qm(h:XV w F x D P m){A:Option Addr}{n cx:Nat}{l:List HT}(hl:HS w A n l)(hn:n<=400000)(hK:∀w',Kept Nil w w'->K (.bool (decide (∀p∈l,p∈ids D))) w'):
 bC prog fI.id #[.pointer (some ⟨x,0,none⟩),.slice A n cx] w K:=by
 refine fI.of ?_;unfold fI.W;intro w3;have k3:Kept Nil w w3:=(Kept.refl _ _).alloc _;have mK:w3.heap[w.heap.size]? =some (.cells #[.pointer (some ⟨x,0,none⟩)] gE (0,0)):=aH w _;clear_value w3;refine⟨_,by rw [aD mK];rfl,tI (h.same k3) ⟨true,rfl,Split.yes rfl ?_⟩⟩;refine zh (h.same k3) mK (hl.same k3) hn fun w9 b hb k9=>⟨b,rfl,?_⟩;have:(!b)=decide (∀p∈l,p∈ids D):=by
  rw [Bool.eq_iff_iff,decide_eq_true_iff,Bool.not_eq_true',<-Bool.not_eq_true,hb];constructor
  ·exact fun hn p hp=>Classical.byContradiction fun hc=>hn ⟨p,hp,hc⟩
  ·rintro ha ⟨p,hp,hc⟩;exact hc (ha p hp)
 rw [this];exact hK w9 (k3.tt k9)
theorem tJ(h:XV w F x D P m)(a b:HT)(hK:∀w' (r:Bool),(r=true↔Ch D P a b)->Kept Nil w w'->K (.bool r) w'):
 bC prog eM.id #[.pointer (some ⟨x,0,none⟩),.agg a.1,.agg b.1] w K:=by
 refine eM.of ?_;unfold eM.W;intro w4 w5 w6;have k4:Kept Nil w w4:=(Kept.refl _ _).alloc _;have Bj:w4.heap[w.heap.size]? =some (.cells a.1 ag (0,0)):=aH w _;have k5:Kept Nil w4 w5:=(Kept.refl _ _).alloc _;have oS:w5.heap[w4.heap.size]? =some (.cells b.1 ag (0,0)):=aH w4 _;have k6:Kept Nil w5 w6:=(Kept.refl _ _).drew;clear_value w6;have xi:=(k5.tt k6).heap Bj (fun h=>h);have qE:=k6.heap oS (fun h=>h);have qZ:=(k4.tt k5).tt k6;refine⟨a.1,⟨a.2.1,Cells.bL xi⟩,b.1,⟨b.2.1,Cells.bL qE⟩,a.2.1,b.2.1,?_⟩;intro w9;have k9:Kept Nil w6 w9:=(Kept.refl _ _).alloc _;have hx9:HS w9 (some ⟨w6.heap.size,0,none⟩) 2 [a,b]:=HS.lay (l:= [a,b]) (t:=ag) (by rw [<-EE a b];exact aH w6 _);clear_value w9;have Ge:=qZ.tt k9;refine qm (h.same Ge) hx9 (by omega) fun po CA=>⟨_,rfl,?_⟩;have PJ:=Ge.tt CA;have Om:=h.same PJ;by_cases dt:∀p∈ [a,b],p∈ids D
 ·refine Split.yes (decide_eq_true dt) ?_
  obtain⟨na,LV,ea⟩:=dr.1 (dt a (by simp));obtain⟨nb,Ew,eb⟩:=dr.1 (dt b (by simp));obtain⟨k,hk⟩:=List.mem_iff_getElem?.1 LV;obtain⟨i,hi⟩:=List.mem_iff_getElem?.1 Ew;have BW:=(lgeS hk).1;have dS:=(lgeS hi).1;have htl:=h.OW;obtain⟨kd,VW⟩:=Tr.gB (T:=m.T) (i:=k) (by omega);obtain⟨nd,gu⟩:=Tr.gB (T:=m.T) (i:=i) (by omega);have Pt:=k9.tt CA;have l1:=Om.at_.xP b;have l2:=Om.at_.xP a;rw [<-eb,h.W.pos_eq hi]at l1;rw [<-ea,h.W.pos_eq hk]at l2;rw [eb]at l1;rw [ea]at l2;refine⟨_,Om.c1,_,Om.c2,b.1,⟨b.2.1,Cells.bL (Pt.heap qE (fun h=>h))⟩,_,l1,_,Om.c2,a.1,⟨a.2.1,Cells.bL (Pt.heap xi (fun h=>h))⟩,_,l2,?_⟩;refine Tr.Cg Om.T gu VW fun mo mX=>⟨_,rfl,hK mo _ ?_ (PJ.tt mX)⟩;rw [h.pg gu VW];constructor
  ·exact fun hu=>⟨i,k,nb,na,hi,eb,hk,ea,hu⟩
  ·rintro⟨i',k',ni,nk,h1,h2,h3,h4,h5⟩
   have e1:=h.W.inj h1 hi (by rw [h2,eb]);have e2:=h.W.inj h3 hk (by rw [h4,ea]);rw [<-e1,<-e2];exact h5
 ·refine Split.no (decide_eq_false dt) (hK po false ⟨(fun e=>by cases e),fun e=>absurd (fun p hp=>?_) dt⟩ PJ)
  simp only [List.mem_cons,List.not_mem_nil,or_false]at hp;rcases hp with rfl|rfl
  ·exact e.mem.1
  ·exact e.mem.2
theorem wy{xb bb:Nat}{b:HT}(h:XV w F x D P m)(hg:w.heap[xb]? =some (.cells #[.pointer (some ⟨x,0,none⟩)] gE (0,0)))(hb:w.heap[bb]? =some (.cells b.1 ag (0,0))){A:Option Addr}{n cx:Nat}{l:List HT}(hl:HS w A n l)(hn:n<=400000)
 (hK:∀w' (r:Bool),(r=true↔∃c∈l,Ch D P c b)->Kept Nil w w'->K (.bool r) w'):
 bC prog dT.id #[.slice A n cx,.func (.func c9.id) #[] #[.pointer (some ⟨xb,0,none⟩),.pointer (some ⟨bb,0,none⟩)]] w K:=by
 have hlen:=hl.len;refine b9.of (al.of ?_);refine al.cC (I:=fun s w'=>∃i:Nat,s=(0,(i:Int))/\i<=n/\(∀p∈l.take i,¬Ch D P p b)/\Kept Nil w w') (μ:=fun s _=>((n:Int)-s.2).toNat) (s:=(0,0)) ⟨0,rfl,Nat.zero_le _,by simp,Kept.refl _ _⟩ ?_;rintro s w' ⟨i,rfl,hi,dt,kw⟩;refine Split.dec (fun jK=>?_) (fun gA=>?_)
 ·simp only at jK
  have dS:i<n:=by omega
  obtain⟨y,hy⟩:∃y,l[i]? =some y:=⟨_,List.getElem?_eq_getElem (by omega)⟩;refine(hl.same kw).load (i:=(i:Int)) (by omega) hy ?_;refine c9.of ?_;unfold c9.W;intro w4;have k4:Kept Nil w' w4:=(Kept.refl _ _).alloc _;have ph:w4.heap[w'.heap.size]? =some (.cells y.1 ag (0,0)):=aH w' _;clear_value w4;have Ig:=kw.tt k4;refine⟨some ⟨x,0,none⟩,by rw [aD (Ig.heap hg (fun h=>h))];rfl,y.1,⟨y.2.1,Cells.bL ph⟩,b.1,⟨b.2.1,Cells.bL (Ig.heap hb (fun h=>h))⟩,tJ (h.same Ig) y b fun w7 r hr k7=>⟨r,rfl,r,rfl,?_⟩⟩;have Cw:=Ig.tt k7;cases r with
  |false=>
   refine Split.no rfl ?_;simp only;rw [dM (n:=(i:Int)) (by omega) (by omega)];refine⟨(0,(i:Int)+1),rfl,⟨i+1,rfl,dS,fun p hp hc=>?_,Cw⟩,by simp only;omega⟩;rcases(bP hy).1 hp with hp|rfl
   ·exact dt p hp hc
   ·cases hr.2 hc
  |true=>
   refine Split.yes rfl ⟨(i:Int),rfl,?_⟩;exact hK w7 _ ⟨fun _=>⟨y,List.mem_of_getElem? hy,hr.1 rfl⟩,fun _=>decide_eq_true (by omega)⟩ Cw
 ·simp only at gA
  rw [aR,al.df];rw [List.take_of_length_le (by omega)]at dt;exact⟨-1,rfl,hK w' _ ⟨fun h=>absurd (of_decide_eq_true h) (by omega),fun⟨p,hp,hn⟩=>absurd hn (dt p hp)⟩ kw⟩
theorem mh(h:XV w F x D P m)(hD:D.length<=5000)(a b:HT)(hK:∀w' (r:Bool),(r=true↔fz D a b)->Kept Nil w w'->K (.bool r) w'):
 bC prog dZ.id #[.pointer (some ⟨x,0,none⟩),.agg a.1,.agg b.1] w K:=by
 refine dZ.of ?_;unfold dZ.W;intro w4 w5 w6;have k4:Kept Nil w w4:=(Kept.refl _ _).alloc _;have UA:w4.heap[w.heap.size]? =some (.cells #[.pointer (some ⟨x,0,none⟩)] gE (0,0)):=aH w _;have k5:Kept Nil w4 w5:=(Kept.refl _ _).alloc _;have Mk:w5.heap[w4.heap.size]? =some (.cells a.1 ag (0,0)):=aH w4 _;have k6:Kept Nil w5 w6:=(Kept.refl _ _).alloc _;have qE:w6.heap[w5.heap.size]? =some (.cells b.1 ag (0,0)):=aH w5 _;clear_value w6;have xi:=k6.heap Mk (fun h=>h);have IL:=(k5.tt k6).heap UA (fun h=>h);have qZ:=(k4.tt k5).tt k6;refine⟨_,by rw [aD IL];rfl,a.1,⟨a.2.1,Cells.bL xi⟩,b.1,⟨b.2.1,Cells.bL qE⟩,a.2.1,b.2.1,?_⟩;intro w10;have lX:Kept Nil w6 w10:=(Kept.refl _ _).alloc _;have LH:HS w10 (some ⟨w6.heap.size,0,none⟩) 2 [a,b]:=HS.lay (l:= [a,b]) (t:=ag) (by rw [<-EE a b];exact aH w6 _);clear_value w10;have CD:=qZ.tt lX;refine qm (h.same CD) LH (by omega) fun lK um=>⟨_,rfl,?_⟩;have sX:=CD.tt um;have Cx:=lX.tt um;by_cases dt:∀p∈ [a,b],p∈ids D
 ·refine Split.no (by rw [decide_eq_true dt];rfl) ?_
  have adg:=Cx.heap xi (fun h=>h);have ac8:=Cx.heap qE (fun h=>h);refine⟨a.1,⟨a.2.1,Cells.bL adg⟩,b.1,⟨b.2.1,Cells.bL ac8⟩,⟨a.2.ints,b.2.ints⟩,?_⟩;rw [dF];refine Split.dec (fun he=>?_) (fun he=>?_)
  ·subst he
   exact hK lK false ⟨(fun e=>by cases e),fun e=>absurd e (fz.irrefl h.W a)⟩ sX
  ·intro jH
   have nt:Kept Nil lK jH:=(Kept.refl _ _).drew;clear_value jH;have Ur:=sX.tt nt;have Lq:=Cx.tt nt;refine⟨_,by rw [aD (Lq.heap IL (fun h=>h))];rfl,a.1,⟨a.2.1,Cells.bL (Lq.heap xi (fun h=>h))⟩,b.1,⟨b.2.1,Cells.bL (Lq.heap qE (fun h=>h))⟩,?_⟩;refine tJ (h.same Ur) a b fun zJ r hr Iw=>⟨r,rfl,?_⟩;have PF:=Ur.tt Iw;have Lp:=Lq.tt Iw;cases r with
   |true=>exact Split.yes rfl (hK zJ true ⟨fun _=>(JZ h.W h.iA he).2 (.inl (hr.1 rfl)),fun _=>rfl⟩ PF)
   |false=>
    refine Split.no rfl ?_;have h21:=h.same PF;obtain⟨f,hf,Wv⟩:=h21.Zf;obtain⟨l,hl,iY⟩:=Wv a;have Ey:=hf.look yI a;have fin:∀ {A:Option Addr} {n c:Nat},(f a).getD (.slice none 0 0)=.slice A n c->HS zJ A n l->n<=D.length->
     bC prog dT.id #[.slice A n c,.func (.func c9.id) #[] #[.pointer (some ⟨w.heap.size,0,none⟩),.pointer (some ⟨w5.heap.size,0,none⟩)]] zJ fun v28 Zz=>∃t:Bool,v28=.bool t/\K (.bool t) Zz:=fun _ hs hn=>
     wy h21 (Lp.heap IL (fun h=>h)) (Lp.heap qE (fun h=>h)) hs (by omega) fun wL r2 jJ Lu=>⟨r2,rfl,hK wL r2 (by
      rw [jJ,JZ h.W h.iA he];constructor
      ·rintro⟨c,h1,h2⟩;exact .inr ⟨c,(iY c).1 h1,h2⟩
      ·rintro(h1|⟨c,h1,h2⟩)
       ·cases hr.2 h1
       ·exact⟨c,(iY c).2 h1,h2⟩) (PF.tt Lu)⟩
    refine⟨some ⟨x,0,none⟩,by rw [aD (Lp.heap IL (fun h=>h))];rfl,_,h21.c4,a.1,⟨a.2.1,Cells.bL (Lp.heap xi (fun h=>h))⟩,?_⟩;rcases hl with⟨h1,rfl⟩|⟨A,n,c,h1,h2,h3,h4,h5⟩
    ·rw [h1]at Ey
     exact⟨none,0,0,Ey,fin (by rw [h1];rfl) (HS.nil _ _) (by omega)⟩
    ·rw [h1]at Ey
     exact⟨A,n,c,Ey,fin (by rw [h1];rfl) h3 h4⟩
 ·refine Split.yes (by rw [decide_eq_false dt];rfl) (hK lK false ⟨(fun e=>by cases e),fun e=>absurd (fun p hp=>?_) dt⟩ sX)
  simp only [List.mem_cons,List.not_mem_nil,or_false]at hp;rcases hp with rfl|rfl
  ·exact(e.mem h.W).1
  ·exact(e.mem h.W).2
end
end Go.Proofs.YtfleamccglihoaaGreatDoor
namespace Go.Proofs.YtfleamccglihoaaGreatDoor
open Go.Proofs.Tryz
open Go Go.bW Go.RowKit
section
variable{w w':World}{K:Value->World->Prop}
theorem yi{A:Option Addr}{n c:Nat}(Gl:n<=c)(hK:K (.slice A n n) w):bC prog dw.id #[.slice A n c] w K:=by
 refine dw.of ⟨⟨by omega,by omega⟩,⟨by omega,by simp⟩,?_⟩;have e:(if(n:Int).toNat=0 then A else A.map (·.add (0*32)))=A:=by
  split
  ·rfl
  ·cases A with
   |none=>rfl
   |some a=>simp [add_zero]
 rw [e];simpa using hK
theorem xk{A:Option Addr}{n c:Nat}{l:List HT}(h:HT)(hl:HS w A n l)(hn:n<=1000000)(hK:∀w',Kept Nil w w'->K (.bool (decide (h∈l))) w'):
 bC prog cQ.id #[.slice A n c,.agg h.1] w K:=by
 have hlen:=hl.len;refine cQ.of ?_;unfold cQ.W;intro w3;have k3:Kept Nil w w3:=(Kept.refl _ _).alloc _;have mK:w3.heap[w.heap.size]? =some (.cells h.1 ag (0,0)):=aH w _;clear_value w3;refine⟨h.1,⟨h.2.1,Cells.bL mK⟩,?_⟩;refine aT.of ?_;unfold aT.W;intro w4;have k4:Kept Nil w3 w4:=(Kept.refl _ _).alloc _;have ph:w4.heap[w3.heap.size]? =some (.cells h.1 ag (0,0)):=aH w3 _;clear_value w4;have mE:=k3.tt k4;refine aT.cC (I:=fun s w'=>∃i:Nat,s=(0,(i:Int))/\i<=n/\Kept Nil w4 w'/\h∉l.take i) (μ:=fun s _=>((n:Int)-s.2).toNat) (s:=(0,0)) ⟨0,rfl,Nat.zero_le _,Kept.refl _ _,by simp⟩ ?_;rintro s w' ⟨i,rfl,hi,kw,lH⟩;refine Split.dec (fun cY=>?_) (fun gA=>?_)
 ·simp only at cY
  have dS:i<n:=by omega
  obtain⟨y,hy⟩:∃y,l[i]? =some y:=⟨_,List.getElem?_eq_getElem (by omega)⟩;intro w9;have k9:Kept Nil w' w9:=(Kept.refl _ _).drew;clear_value w9;have k49:=kw.tt k9;have Ge:=mE.tt k49;refine⟨h.1,⟨h.2.1,Cells.bL (k49.heap ph (fun h=>h))⟩,?_⟩;refine(hl.same Ge).load (i:=(i:Int)) (by omega) hy ⟨⟨h.2.ints,y.2.ints⟩,?_⟩;rw [dF];refine Split.dec (fun he=>?_) (fun he=>?_)
  ·refine⟨(i:Int),rfl,?_⟩
   have:=hK w9 Ge;rw [decide_eq_true (by rw [he];exact List.mem_of_getElem? hy)]at this;rw [show decide ((i:Int)>=(0:Int))=true from decide_eq_true (by omega)];exact this
  ·simp only
   rw [gF (x:=(i:Int)+1) (by omega) (by omega)];refine⟨(0,(i:Int)+1),rfl,⟨i+1,rfl,dS,k49,?_⟩,by simp only;omega⟩;rw [List.take_add_one,hy];simp only [Option.toList_some,List.mem_append,List.mem_singleton,not_or];exact⟨lH,he⟩
 ·simp only at gA
  rw [aR,aT.df];refine⟨-1,rfl,?_⟩;have:=hK w' (mE.tt kw);rw [List.take_of_length_le (by omega)]at lH;rw [decide_eq_false lH]at this;exact this
theorem zl{A:Option Addr}{n cx:Nat}{l:List HT}{h:HT}{b:Nat}(hl:HS w A n l)(hb:HS w (some ⟨b,0,none⟩) 1 [h])(hn:n<=100000):
 ∃A' c' w',(Builtin.append_ #[ay,ay] ay #[.slice A n n,.slice (some ⟨b,0,none⟩) 1 cx]).run prog w=.ok (.slice A' (n+1) c') w'/\
  HS w' A' (n+1) (l++ [h])/\n+1<=c'/\(∀a,A'=some a->w.heap.size<=a.block/\a.block<w'.heap.size)/\Kept Nil w w':=by
 have hlen:=hl.len;cases A with
 |none=>
  obtain⟨rfl,rfl⟩:=hl.none;obtain⟨A',c',w',hr,fF,hg,hbk⟩:=cK (cx:=cx) ay (bI.nil w w.heap.size) hb (by omega) (Nat.le_refl _);rw [Nat.zero_add]at hr fF;rw [List.nil_append]at fF;obtain⟨b',rfl⟩:=Row.some fF (by omega);have xg:=Row.bL fF (k:=b') rfl;refine⟨some ⟨b',0,Option.none⟩,c',w',hr,bI.hs fF,?_,fun a ha=>?_,Kept.dO (Kept.refl _ _) hg (fun k hk=>by cases hk)⟩
  ·rcases Row.own fF with⟨h1,_⟩|⟨_,_,_,_,_,h1,_⟩
   ·cases h1
   ·exact h1
  ·cases ha
   obtain⟨h1,cur,h2⟩:=xg;exact⟨h1,aU h2⟩
 |some a=>
  obtain⟨i,z,hi,hz,hs,KD,Eo⟩:=pB.inf;have hr:=run_append_grow (P:=prog) (w:=w) ay ay ag i z pB.pg hi hz a n n (dh l) (by rw [e9,hs,hlen]) hl.cells ⟨b,0,Option.none⟩ 1 cx (dh [h]) (by rw [e9,hs];rfl) hb.cells (by omega) (by omega) (growslice_fits (by omega) (by rw [KD];omega));refine⟨_,_,_,hr,⟨by simp [hlen],fun j y hj=>⟨_,rfl,?_,?_⟩⟩,grownCap_ge _ _ _ _,fun a' BY=>?_,?_⟩
  ·have:=aH w.drew (.cells ((dh l).toArray++(dh [h]).toArray++Builtin.zeroCells z.cells (grownCap w (n+1) n ag-(n+1))) ag)
   exact aU this
  ·intro q v hq
   rw [bt,bt,Nat.zero_add];have hblk:=aH w.drew (.cells ((dh l).toArray++(dh [h]).toArray++Builtin.zeroCells z.cells (grownCap w (n+1) n ag-(n+1))) ag);have e:(w.drew.heap.size)=w.heap.size:=rfl;rw [e]at hblk;rw [aD hblk];have h1:=lD hj hq;rw [mJ]at h1;have cY:=(lgeS h1).1;rw [Array.getElem?_append_left (by simpa using cY)];simpa using h1
  ·cases BY
   have:=aH w.drew (.cells ((dh l).toArray++(dh [h]).toArray++Builtin.zeroCells z.cells (grownCap w (n+1) n ag-(n+1))) ag);exact⟨Nat.le_refl _,aU this⟩
  ·exact(Kept.refl Nil w).drew.alloc _
end
def ik(D:DG)(h s:HT)(l:List HT):Int:=if dL D h l=0 then(if s∈l then 0 else 2)else dL D h l
theorem p9{D:DG}{h:HT}{l:List HT}(e:dL D h l=0):mY D h l=D++ [⟨h,dD l⟩]:=by unfold mY;rw [if_pos e]
section
variable{w w':World}{S ST:Nat->Prop}{t:Nat}{T:List Tr.Nd}{d:Int}
theorem tA(h:Tr.pk w ST t T d):Tr.pk w (fun k=>ST k/\k<w.heap.size) t T d:=by
 obtain⟨b,c,L,h⟩:=h;refine⟨b,c,L,{h with iF:=⟨h.iF,h.lt⟩,gI:=⟨h.gI,?_⟩,qY:=fun i p hi=>?_}⟩
 ·obtain⟨A,m,hk⟩:=h.qY i p hi
  exact⟨A,m,{hk with lg:=fun k e=>⟨hk.lg k e,let ⟨_,_,hc⟩:=Row.bL hk.row e;aU hc⟩}⟩
 ·obtain⟨cur,hc⟩:=h.wF
  exact aU hc
end
section
variable{w w':World}{F:Nat->Prop}{x:Nat}{D:DG}{P:List Int}{m:XM}{K:Value->World->Prop}
theorem Ka{v:World}{hid s:HT}{S2 F2 SO2:Nat->Prop}{ps:List HT}{j:Nat}{mj:DN}{Gf sb:Nat}{b8:Int}{FM:Option Nat}{A7:Option Addr}{n7 c7:Nat}{i7:Int}{s1 s2:Nat}
 (h:XV w F x D P m) (hD:D.length<=5000) (hn:hid∉ids D) (gK:∀p∈ps,p∈ids D) (uM:SS ps) (hj:D[j]? =some mj) (hs:mj.id=s) (AZ:s∈ps)
 (jv:v.heap[x]? =some (.cells #[.pointer (some ⟨m.g,0,none⟩),.pointer (some ⟨m.t,0,none⟩),.map (some m.mb),.slice (some ⟨m.ib,0,none⟩) D.length m.ic,.map (some m.cb)] eV (0,0)))
 (aj0:w.heap.size<=Gf) (aiT:w.heap.size<=sb) (QE:v.heap[Gf]? =some (.cells hid.1 ag (0,0))) (Es:v.heap[sb]? =some (.cells s.1 ag (0,0)))
 (hG:EV v S2 F2 m.g (D++ [⟨hid,ps⟩])) (hT:Tr.pk v m.ST m.t m.T m.d) (W4:IsMap v m.mb (ids D)) (fF:bI v 0 (some ⟨m.ib,0,none⟩) D.length m.ic (ids D))
 (QT:∃f,fR v m.cb f/\∀y,∃l,oX v SO2 (D.length+1) (f y) l/\∀c,c∈l↔OB (D++ [⟨hid,ps⟩]) (P++ [(j:Int)]) y c)
 (yT:w.heap.size<=s1) (yS:s1<=s2) (CK:s2<=v.heap.size)
 (RR:∀k,S2 k->(m.SG k\/w.heap.size<=k)/\k<s1) (RS:∀k,F2 k->(F k\/w.heap.size<=k)/\k<s1) (MZ:∀k,SO2 k->m.SO k\/(s2<=k/\k<v.heap.size))
 (kv:Kept (fun k=>m.lg x k) w v)
 (hK:∀u S' F',DD u S' F' x (D++ [⟨hid,ps⟩]) (P++ [(j:Int)])->Kept (fun k=>m.lg x k) w u->(∀k,S' k->m.lg x k\/w.heap.size<=k)->(∀k,F' k->F k\/w.heap.size<=k)->K (.int .i64 0) u):
 aE.Rx (some ⟨x,0,none⟩) ⟨Gf,0,none⟩ ⟨sb,0,none⟩ b8 FM A7 n7 c7 i7 i7 K v:=by
 have W:=h.W;have oH:=h.low;have tU:=(lgeS hj).1;have htl:=h.OW;have hox:m.own x x:=.inl rfl;have Vg:m.own x m.mb:=.inr (.inl rfl);have Vi:m.own x m.ib:=.inr (.inr (.inl rfl));have ur:m.own x m.cb:=.inr (.inr (.inr rfl));obtain⟨RL,Tz,Pa,Ty,RK,Tx⟩:=h.ne;unfold aE.Rx;intro E9;have wV:Kept Nil v E9:=(Kept.refl _ _).drew;clear_value E9;have c1:E9.cell? ((⟨x,0,none⟩:Addr).add 1)=some (.pointer (some ⟨m.t,0,none⟩)):=by rw [bt,aD (wV.heap jv (fun h=>h))];rfl
 have c2:E9.cell? ((⟨x,0,none⟩:Addr).add 2)=some (.map (some m.mb)):=by rw [bt,aD (wV.heap jv (fun h=>h))];rfl
 have Jv:=W4.aF wV (fun h=>h);have lk:=Jv.xP s;rw [<-hs,W.pos_eq hj]at lk;rw [hs]at lk;refine⟨_,c1,_,c2,s.1,⟨s.2.1,Cells.bL (wV.heap Es (fun h=>h))⟩,_,lk,?_⟩;have Xb:=tA (hT.same wV);refine Tr.Hx Xb h.Mu (p:=j) (by omega) (by omega) ⟨h.dl.1,by have:=h.dl.2;omega⟩ fun E8 XR T' d' Xa JA U7 hd' Gd adk=>⟨_,_,rfl,?_⟩;have ahv:=wV.size;have RQ:∀k,XR k->m.ST k\/E9.heap.size<=k:=fun k hk=>(adk k hk).imp (fun h=>h.1) (fun h=>h);have nST:∀k,(m.ST k/\k<E9.heap.size)->m.ST k:=fun k h=>h.1;have OT:=Gd.heap (wV.heap jv (fun h=>h)) (fun e=>(h.od x hox).2.1 e.1);intro Hr;have Gc:Kept Nil E8 Hr:=(Kept.refl _ _).drew;clear_value Hr;have HA:=Gc.heap OT (fun h=>h);have Ex:∀k,m.ST k->k<w.heap.size:=fun k e=>oH k (.inl (.inr (.inl e)));have lox:x<w.heap.size:=oH x (.inl (.inr (.inr (.inr hox))));have ahW:m.mb<w.heap.size:=oH _ (.inl (.inr (.inr (.inr Vg))));have ahX:m.ib<w.heap.size:=oH _ (.inl (.inr (.inr (.inr Vi))));have TL:m.cb<w.heap.size:=oH _ (.inl (.inr (.inr (.inr ur))));have sv:=kv.size;have EA:Hr.heap[Gf]? =some (.cells hid.1 ag (0,0)):=Gc.heap (Gd.heap (wV.heap QE (fun h=>h)) (fun e=>by have:=Ex _ e.1;omega)) (fun h=>h);have zB:Hr.cell? ((⟨x,0,none⟩:Addr).add 2)=some (.map (some m.mb)):=by rw [bt,aD HA];rfl
 have Q4:IsMap Hr m.mb (ids D):=(Jv.aF Gd (fun e=>(h.od _ Vg).2.1 e.1)).aF Gc (fun h=>h);obtain⟨OM,Nx,Q3,Un⟩:=Q4.put hn;rw [gz,<-htl]at Nx;refine⟨_,zB,hid.1,⟨hid.2.1,Cells.bL EA⟩,OM,Nx,?_⟩;intro E7;have Um:Kept Nil OM E7:=(Kept.refl _ _).drew;clear_value E7;have yN:=Un.trans Um (fun _ _ h=>h.elim);have Hz:=yN.heap HA (fun e=>RL e);have c3:∀ {u:World},Kept Nil E7 u->u.cell? ((⟨x,0,none⟩:Addr).add 3)=some (.slice (some ⟨m.ib,0,none⟩) D.length m.ic):=fun k=>by rw [bt,aD (k.heap Hz (fun h=>h))];rfl
 have L5:=yN.heap EA (fun e=>by omega);refine⟨_,_,_,c3 (Kept.refl _ _),hid.1,⟨hid.2.1,Cells.bL L5⟩,hid.2.1,?_⟩;intro zL;have Lx:Kept Nil E7 zL:=(Kept.refl _ _).alloc _;have WY:HS zL (some ⟨E7.heap.size,0,none⟩) 1 [hid]:=jf E7 hid;clear_value zL;have Ek:=yN.trans Lx (fun _ _ h=>h.elim);have O4:bI zL 0 (some ⟨m.ib,0,none⟩) D.length m.ic (ids D):=
  Row.aF (Row.aF (Row.aF (Row.aF fF wV (fun _ _ h=>h)) Gd (fun k e e'=>by cases e;exact(h.od _ Vi).2.1 e'.1)) Gc (fun _ _ h=>h)) Ek (fun k e e'=>by cases e;exact Ty e'.symm)
 obtain⟨A',c',E6,UY,Co,Wi,WX⟩:=cK (cx:=1) ay O4 WY (by omega) (Nat.zero_le _);have PC:Kept (· =m.ib) zL E6:=Kept.grown (Kept.refl _ _) Wi (fun k e _=>by cases e;rfl);obtain⟨BT,rfl⟩:=Row.some Co (by omega);have L6:BT=m.ib\/zL.heap.size<=BT:=by
  rcases WX BT rfl with e|e
  ·left;simpa [bn]using e.symm
  ·exact .inr e
 have Hy:=PC.heap (Lx.heap Hz (fun h=>h)) (fun e=>Tz e);refine⟨c3 Lx,some ⟨BT,0,none⟩,_,c',E6,UY,Is.mk rfl ⟨?_,?_⟩⟩
 ·rw [bt]
  exact dm Hy (by simp)
 intro zK;have XB:zK=E6.setCell ⟨x,3,none⟩ (.slice (some ⟨BT,0,none⟩) (D.length+1) c'):=by
  show E6.setCell ((⟨x,0,none⟩:Addr).add 3) _=_
  rw [bt]
 have PA:Kept (· =x) E6 zK:=by rw [XB];exact Kept.setCell (S:=fun k=>k=x) (Kept.refl _ E6) (p:=⟨x,3,none⟩) (fun _=>rfl) _
 have OS:zK.heap[x]? =some (.cells #[.pointer (some ⟨m.g,0,none⟩),.pointer (some ⟨m.t,0,none⟩),.map (some m.mb),.slice (some ⟨BT,0,none⟩) (D.length+1) c',.map (some m.cb)] eV (0,0)):=by
  rw [XB,cV Hy 3];rfl
 clear_value zK;have ahu:=Gd.size;have aht:=Gc.size;have ahs:=Ek.size;have ahr:=PC.size;have ahq:=PA.size;have kC:Kept (fun k=>k=m.ib\/k=x) OM zK:=(((Um.tt Lx).mono (S':=fun k=>k=m.ib\/k=x) (fun _ _ h=>h.elim)).trans PC (fun _ _ h=>.inl h)).trans PA (fun _ _ h=>.inr h);have kB:Kept (fun k=>k=m.mb\/k=m.ib\/k=x) E8 zK:=((Gc.mono (S':=fun k=>k=m.mb\/k=m.ib\/k=x) (fun _ _ h=>h.elim)).trans Un (fun _ _ h=>.inl h)).trans kC (fun _ _ h=>.inr h);have kA:Kept (fun k=>m.ST k\/k=m.mb\/k=m.ib\/k=x) v zK:=((wV.mono (S':=fun k=>m.ST k\/k=m.mb\/k=m.ib\/k=x) (fun _ _ h=>h.elim)).trans Gd (fun _ _ h=>.inl h.1)).trans kB (fun _ _ h=>.inr h);have FI:∀k,(k=m.mb\/k=m.ib\/k=x)->m.own x k:=fun k e=>by
  rcases e with e|e|e
  ·exact .inr (.inl e)
  ·exact .inr (.inr (.inl e))
  ·exact .inl e
 have K3:∀k,m.own x k->k<w.heap.size:=fun k e=>oH k (.inl (.inr (.inr (.inr e))));have La:∀k,m.SG k->k<w.heap.size:=fun k e=>oH k (.inl (.inl e));have Ic:∀k,m.SO k->k<w.heap.size:=fun k e=>oH k (.inl (.inr (.inr (.inl e))));have nG:∀k,S2 k->¬(m.ST k\/k=m.mb\/k=m.ib\/k=x):=fun k h1 h2=>by
  obtain⟨h3,_⟩:=RR k h1;rcases h2 with h2|h2
  ·rcases h3 with h3|h3
   ·exact(h.gt k h3).1 h2
   ·have:=Ex k h2;omega
  ·have h4:=FI k h2
   rcases h3 with h3|h3
   ·exact(h.od k h4).1 h3
   ·have:=K3 k h4;omega
 have nF:∀k,F2 k->¬(m.ST k\/k=m.mb\/k=m.ib\/k=x):=fun k h1 h2=>by
  obtain⟨h3,_⟩:=RS k h1;rcases h2 with h2|h2
  ·rcases h3 with h3|h3
   ·exact(h.fd k h3).1 h2
   ·have:=Ex k h2;omega
  ·have h4:=FI k h2
   rcases h3 with h3|h3
   ·exact(h.od k h4).2.2.2 h3
   ·have:=K3 k h4;omega
 have Z1:∀k,SO2 k->¬(m.ST k\/k=m.mb\/k=m.ib\/k=x):=fun k h1 h2=>by
  rcases MZ k h1 with h3|⟨h3,_⟩
  ·rcases h2 with h2|h2
   ·exact h.to k h2 h3
   ·exact(h.od k (FI k h2)).2.2.1 h3
  ·rcases h2 with h2|h2
   ·have:=Ex k h2;omega
   ·have:=K3 k (FI k h2);omega
 have nT:∀k,(XR k/\k<E8.heap.size)->¬(k=m.mb\/k=m.ib\/k=x):=fun k h1 h2=>by
  have h4:=FI k h2;rcases RQ k h1.1 with h3|h3
  ·exact(h.od k h4).2.1 h3
  ·have:=K3 k h4;omega
 refine hK zK (fun k=>(S2 k\/(XR k/\k<E8.heap.size)\/SO2 k\/(k=x\/k=m.mb\/k=BT\/k=m.cb))) F2 ⟨{m with ib:=BT,ic:=c',T:=T',d:=d',SG:=S2,ST:=fun k=>XR k/\k<E8.heap.size,SO:=SO2},?_,fun k e=>e⟩ ?_ ?_ ?_
 ·refine⟨?_,hG.aF kA nG nF,(tA Xa).aF kB nT,JA,?_,?_,?_,?_,?_,?_,?_,?_,?_,?_,?_,?_,?_⟩
  ·rw [List.length_append];exact OS
  ·show Tr.b0 T'=_
   rw [U7,h.b0]
  ·have:=h.dl
   simp only [List.length_append,List.length_singleton];show 0<=d'/\d'<=_
   omega
  ·rw [lQ]
   exact Q3.aF kC (fun e=>e.elim (fun e=>Ty e) (fun e=>RL e.symm))
  ·rw [lQ,List.length_append]
   refine Row.aF Co PA (fun k e e'=>?_);have e1:BT=k:=by simpa [bn]using e
   rcases L6 with e|e
   ·exact Tz (e'.symm.trans (e1.symm.trans e))
   ·omega
  ·obtain⟨f,hf,hc⟩:=QT
   refine⟨f,hf.aF kA (fun e=>?_),fun y=>?_⟩
   ·rcases e with e|e|e|e
    ·exact(h.od _ ur).2.1 e
    ·exact RK e.symm
    ·exact Tx e.symm
    ·exact Pa e.symm
   ·obtain⟨l,h1,h2⟩:=hc y
    refine⟨l,?_,h2⟩;rw [List.length_append];exact h1.aF kA Z1
  ·exact h.iA.snoc hj (by rw [hs];exact AZ) W.pos
  ·exact W.snoc (nd:=⟨hid,ps⟩) hn gK uM
  ·intro k h1
   obtain⟨h3,h4⟩:=RR k h1;refine⟨fun h2=>?_,fun h2=>?_⟩
   ·rcases RQ k h2.1 with h5|h5
    ·exact nG k h1 (.inl h5)
    ·omega
   ·rcases MZ k h2 with h5|h5
    ·rcases h3 with h3|h3
     ·exact(h.gt k h3).2 h5
     ·have:=Ic k h5;omega
    ·omega
  ·intro k h1 h2
   rcases RQ k h1.1 with h5|h5
   ·exact Z1 k h2 (.inl h5)
   ·rcases MZ k h2 with h6|h6
    ·have:=Ic k h6;omega
    ·omega
  ·intro k h1
   obtain⟨h3,h4⟩:=RS k h1;refine⟨fun h2=>?_,fun h2=>?_⟩
   ·rcases RQ k h2.1 with h5|h5
    ·exact nF k h1 (.inl h5)
    ·omega
   ·rcases MZ k h2 with h5|h5
    ·rcases h3 with h3|h3
     ·exact(h.fd k h3).2 h5
     ·have:=Ic k h5;omega
    ·omega
  ·intro k e
   have e':(k=m.mb\/k=m.ib\/k=x)\/(k=m.cb)\/(k=BT/\zL.heap.size<=BT):=by
    rcases e with e|e|e|e
    ·exact .inl (.inr (.inr e))
    ·exact .inl (.inl e)
    ·rcases L6 with h5|h5
     ·exact .inl (.inr (.inl (e.trans h5)))
     ·exact .inr (.inr ⟨e,h5⟩)
    ·exact .inr (.inl e)
   have big:zL.heap.size<=k->¬S2 k/\¬(XR k/\k<E8.heap.size)/\¬SO2 k/\¬F2 k:=fun hb=>
    ⟨fun h1=>by have:=(RR k h1).2;omega,fun h1=>by have:=h1.2;omega,fun h1=>(MZ k h1).elim (fun h2=>by have:=Ic k h2;omega) (fun h2=>by omega),fun h1=>by have:=(RS k h1).2;omega⟩
   rcases e' with e'|e'|⟨rfl,e'⟩
   ·exact⟨fun h1=>nG k h1 (.inr e'),fun h1=>nT k h1 e',fun h1=>Z1 k h1 (.inr e'),fun h1=>nF k h1 (.inr e')⟩
   ·subst e'
    have YQ:=h.od _ ur;refine⟨fun h1=>?_,fun h1=>?_,fun h1=>?_,fun h1=>?_⟩
    ·rcases(RR _ h1).1 with h2|h2
     ·exact YQ.1 h2
     ·omega
    ·rcases RQ _ h1.1 with h2|h2
     ·exact YQ.2.1 h2
     ·omega
    ·rcases MZ _ h1 with h2|h2
     ·exact YQ.2.2.1 h2
     ·omega
    ·rcases(RS _ h1).1 with h2|h2
     ·exact YQ.2.2.2 h2
     ·omega
   ·exact big e'
  ·show x≠m.mb/\x≠BT/\x≠m.cb/\m.mb≠BT/\m.mb≠m.cb/\BT≠m.cb
   rcases L6 with h5|h5
   ·rw [h5];exact⟨RL,Tz,Pa,Ty,RK,Tx⟩
   ·exact⟨RL,by omega,Pa,by omega,RK,by omega⟩
  ·intro k e
   have hblk:=(Row.bL Co (k:=BT) rfl).2;obtain⟨cur,kF⟩:=hblk;have lib:=aU kF;rcases e with e|e
   ·rcases e with e|e|e|e
    ·have:=(RR k e).2;omega
    ·have:=e.2;omega
    ·rcases MZ k e with h2|h2
     ·have:=Ic k h2;omega
     ·omega
    ·rcases e with e|e|e|e
     ·omega
     ·have e:k=m.mb:=e;omega
     ·have e:k=BT:=e;omega
     ·have e:k=m.cb:=e;omega
   ·have:=(RS k e).2;omega
 ·refine kv.trans kA (fun k _ e=>?_)
  rcases e with e|e
  ·exact .inr (.inl e)
  ·exact .inr (.inr (.inr (FI k e)))
 ·intro k e
  rcases e with e|e|e|e
  ·exact(RR k e).1.imp (fun h=>.inl h) (fun h=>h)
  ·rcases RQ k e.1 with h5|h5
   ·exact .inl (.inr (.inl h5))
   ·exact .inr (by omega)
  ·rcases MZ k e with h5|h5
   ·exact .inl (.inr (.inr (.inl h5)))
   ·exact .inr (by omega)
  ·rcases e with e|e|e|e
   ·exact .inl (.inr (.inr (.inr (.inl e))))
   ·exact .inl (.inr (.inr (.inr (.inr (.inl e)))))
   ·rcases L6 with h5|h5
    ·exact .inl (.inr (.inr (.inr (.inr (.inr (.inl (e.trans h5)))))))
    ·exact .inr (by omega)
   ·exact .inl (.inr (.inr (.inr (.inr (.inr (.inr e))))))
 ·exact fun k e=>(RS k e).1
end
section
variable{w w':World}{F S:Nat->Prop}{x:Nat}{D:DG}{P:List Int}{m:XM}{K:Value->World->Prop}
theorem GU{u v:World}{hid s:HT}{D':DG}{ps pl:List HT}{Gf ob i:Nat}{A7:Option Addr}{c7:Nat}{b8:Int}{sb:Addr}{f0:HT->Option Value}{Q:aO}{Yd:Option Nat}
 (h:XV w F x D P m) (hD:D.length<=5000) (hwu:w.heap.size<=u.heap.size)
 (jv:u.heap[x]? =some (.cells #[.pointer (some ⟨m.g,0,none⟩),.pointer (some ⟨m.t,0,none⟩),.map (some m.mb),.slice (some ⟨m.ib,0,none⟩) D.length m.ic,.map (some m.cb)] eV (0,0)))
 (QE:u.heap[Gf]? =some (.cells hid.1 ag (0,0))) (aju:w.heap.size<=Gf) (hold:fR u ob f0) (ajq:w.heap.size<=ob) (abD:Yd=some ob)
 (hf0:∀y,(y=s\/fz D y s->f0 y=some (.agg #[.bool true]))/\(¬(y=s\/fz D y s)->f0 y=none))
 (sN:bI u w.heap.size A7 pl.length c7 pl) (ry:pl.length<=10000)
 (kv:Kept (· =m.cb) u v) (hi:i<=pl.length) {Z:HT->HT->Prop}
 (QT:∃f,fR v m.cb f/\∀y,∃l,oX v (fun k=>m.SO k\/(u.heap.size<=k/\k<v.heap.size)) (D.length+if y∈pl.take i then 1 else 0) (f y) l/\∀c,c∈l↔OB D P y c\/(c=hid/\y∈pl.take i/\y≠s/\¬fz D y s)) (gu:pl.Nodup)
 (hQ:∀v',Kept (· =m.cb) u v'->(∃f,fR v' m.cb f/\∀y,∃l,oX v' (fun k=>m.SO k\/(u.heap.size<=k/\k<v'.heap.size)) (D.length+if y∈pl.take (i+1)then 1 else 0) (f y) l/\∀c,c∈l↔OB D P y c\/(c=hid/\y∈pl.take (i+1)/\y≠s/\¬fz D y s))->i<pl.length->
   Q .normal (aE.e2 (some ⟨x,0,none⟩) ⟨Gf,0,none⟩ sb b8 Yd A7 pl.length c7 (pl.length:Int) ((i:Int)+1)) v')
 (hE:i=pl.length->Q (.exit 3) (aE.e2 (some ⟨x,0,none⟩) ⟨Gf,0,none⟩ sb b8 Yd A7 pl.length c7 (pl.length:Int) (i:Int)) v):
 aE.B2 (some ⟨x,0,none⟩) ⟨Gf,0,none⟩ sb b8 Yd A7 pl.length c7 (pl.length:Int) (i:Int) Q v:=by
 subst abD;have hox:m.own x x:=.inl rfl;have ur:m.own x m.cb:=.inr (.inr (.inr rfl));obtain⟨RL,Tz,Pa,Ty,RK,Tx⟩:=h.ne;have TL:m.cb<w.heap.size:=h.low _ (.inl (.inr (.inr (.inr ur))));have sv:=kv.size;unfold aE.B2;refine Split.dec (fun jK=>?_) (fun gA=>hE (by omega));have dS:i<pl.length:=by omega
 obtain⟨y,hy⟩:∃y,pl[i]? =some y:=⟨_,List.getElem?_eq_getElem dS⟩;have Yq:y∉pl.take i:=fun hm=>by
  obtain⟨j,hj⟩:=List.mem_iff_getElem?.1 hm;rw [List.getElem?_take]at hj;split at hj
  ·rename_i cY
   have h1:=ly 0 j gu hj;rw [ly 0 i gu hy]at h1;simp only [Option.some.injEq]at h1;omega
  ·cases hj
 have Fx:HS v A7 pl.length pl:=bI.hs (Row.aF sN kv (fun k hk e=>by have:=(Row.bL sN hk).1;omega));refine Fx.load (i:=(i:Int)) (by omega) (by rw [Int.toNat_natCast];exact hy) ?_;intro w81;obtain⟨tf,jM,kz⟩:=iy (w:=v) (z:=(zx 0)) (cs:=y.1) (t:=ag) (by rw [y.2.1];rfl);refine⟨⟨y.2.1,y.2.one,fun j hj=>tf j (by rw [y.2.1];exact hj)⟩,?_⟩;intro OH
 replace jM:OH.heap[v.heap.size]? =some (.cells y.1 ag (0,0)):=jM
 replace kz:Kept Nil v OH:=kz
 clear_value OH;have Yk:Kept (· =m.cb) u OH:=kv.trans kz (fun _ _ h=>h.elim);have Qk:fR OH ob f0:=hold.aF Yk (fun e=>by omega);have lk:=Qk.look H6 y;obtain⟨f,hf,hc⟩:=QT;have Wp:=hf.aF kz (fun h=>h);obtain⟨l,qC,LY⟩:=hc y;have aa4:=kz.size;have Ov:∀ {v':World} {N N':Nat} {a:Option Value} {l:List HT},v.heap.size<=v'.heap.size->N<=N'->oX v' (fun k=>m.SO k\/(u.heap.size<=k/\k<v.heap.size)) N a l->oX v' (fun k=>m.SO k\/(u.heap.size<=k/\k<v'.heap.size)) N' a l:=fun hv hN xZ=>by
  rcases xZ with xZ|⟨A,n,c,h1,h2,h3,h4,h5⟩
  ·exact .inl xZ
  ·exact .inr ⟨A,n,c,h1,h2,h3,by omega,fun a ha=>(h5 a ha).imp (fun h=>h) (fun h=>⟨h.1,by omega⟩)⟩
 have Ow:∀ {v':World} {N:Nat} {a:Option Value} {l:List HT},Kept (· =m.cb) v v'->oX v (fun k=>m.SO k\/(u.heap.size<=k/\k<v.heap.size)) N a l->oX v' (fun k=>m.SO k\/(u.heap.size<=k/\k<v.heap.size)) N a l:=fun hk xZ=>xZ.aF hk (fun k oR e=>by
  rcases oR with h1|h1
  ·exact(h.od _ ur).2.2.1 (e▸h1)
  ·omega)
 refine⟨y.1,⟨y.2.1,Cells.bL jM⟩,?_⟩;by_cases jR:y=s\/fz D y s
 ·rw [(hf0 y).1 jR]at lk
  refine⟨_,lk,true,rfl,Split.no rfl ?_⟩;rw [dM (n:=(i:Int)) (by omega) (by omega)];refine hQ OH Yk ⟨f,Wp,fun z=>?_⟩ dS;obtain⟨lz,h1,h2⟩:=hc z;refine⟨lz,Ov aa4 (by
   by_cases hz:z∈pl.take i
   ·rw [if_pos hz,if_pos ((bP hy).2 (.inl hz))];exact Nat.le_refl _
   ·rw [if_neg hz];omega) (Ow (kz.mono (fun _ _ h=>h.elim)) h1),fun c=>?_⟩
  rw [h2,bP hy];constructor
  ·rintro(h3|⟨h3,h4,h5,h6⟩)
   ·exact .inl h3
   ·exact .inr ⟨h3,.inl h4,h5,h6⟩
  ·rintro(h3|⟨h3,h4|rfl,h5,h6⟩)
   ·exact .inl h3
   ·exact .inr ⟨h3,h4,h5,h6⟩
   ·exact absurd jR (fun e=>e.elim h5 h6)
 ·rw [(hf0 y).2 jR]at lk
  refine⟨_,lk,false,rfl,Split.yes rfl ?_⟩;intro DH;have Ua:Kept Nil OH DH:=(Kept.refl _ _).drew;clear_value DH;have aad:=kz.tt Ua;have Jp:=Ua.heap jM (fun h=>h);have tZ:∀ {q:World},Kept Nil DH q->q.cell? ((⟨x,0,none⟩:Addr).add 4)=some (.map (some m.cb)):=fun k=>by
   rw [bt,aD (k.heap (Ua.heap (Yk.heap jv (fun e=>Pa e)) (fun h=>h)) (fun h=>h))];rfl
  have nf:∀ {q:World},Kept Nil DH q->∃cs:Array Value,(.agg y.1:Value)=.agg cs/\cs.size=32/\Cells q (aP v.heap.size) cs:=fun k=>⟨y.1,rfl,y.2.1,Cells.bL (k.heap Jp (fun h=>h))⟩;have NR:DH.heap[Gf]? =some (.cells hid.1 ag (0,0)):=Ua.heap (Yk.heap QE (fun e=>by omega)) (fun h=>h);have acE:∀ {q:World},Kept Nil DH q->∃cs:Array Value,(.agg hid.1:Value)=.agg cs/\cs.size=32/\Cells q (⟨Gf,0,none⟩:Addr) cs:=fun k=>⟨hid.1,rfl,hid.2.1,Cells.bL (k.heap NR (fun h=>h))⟩;have Wo:=Wp.aF Ua (fun h=>h);obtain⟨A,n,c,gV,Gl,BU,hnN⟩:∃(A:Option Addr) (n c:Nat),(f y).getD (.slice none 0 0)=.slice A n c/\n<=c/\HS v A n l/\n<=D.length:=by
   rcases qC with⟨h1,h2⟩|⟨A,n,c,h1,h2,h3,h4,_⟩
   ·exact⟨none,0,0,by rw [h1];rfl,Nat.le_refl _,by rw [h2];exact HS.nil _ _,by omega⟩
   ·rw [if_neg Yq]at h4
    exact⟨A,n,c,by rw [h1];rfl,h2,h3,by omega⟩
  have lk2:∀ {q:World},Kept Nil DH q->(Instr.lookup gY (.map (some m.cb)) (.agg y.1) false).run prog q=.ok (.slice A n c) q:=fun k=>by
   have:=(Wo.aF k (fun h=>h)).look yI y;rw [gV]at this;exact this
  have fin:∀ {q:World} {bb:Nat},Kept Nil DH q->HS q (some ⟨bb,0,none⟩) 1 [hid]->
   ∃(A':Option Addr) (n' c':Nat) (q2:World),(Builtin.append_ #[ay,ay] ay #[.slice A n n,.slice (some ⟨bb,0,none⟩) 1 1]).run prog q=.ok (.slice A' n' c') q2/\(∃cs:Array Value,(.agg y.1:Value)=.agg cs/\cs.size=32/\Cells q2 (aP v.heap.size) cs)/\q2.cell? ((⟨x,0,none⟩:Addr).add 4)=some (.map (some m.cb))/\
    ∃q3:World,(Instr.mapUpdate gY (.map (some m.cb)) (.agg y.1) (.slice A' n' c')).run prog q2=.ok () q3/\Q .normal (aE.e2 (some ⟨x,0,none⟩) ⟨Gf,0,none⟩ sb b8 (some ob) A7 pl.length c7 (pl.length:Int) (i64.wrap ((i:Int)+(1:Int)))) q3:=by
   intro q bb kq xg;have kvq:=aad.tt kq;obtain⟨A',c',q2,hr,yS,KC,lE,kq2⟩:=zl (cx:=1) (BU.same kvq) xg (by omega);have k2:=kq.tt kq2;obtain⟨q3,uq,hf3,k3⟩:=(Wo.aF k2 (fun h=>h)).put yI y (.slice A' (n+1) c');refine⟨A',_,c',q2,hr,nf k2,tZ k2,q3,uq,?_⟩;rw [dM (n:=(i:Int)) (by omega) (by omega)];have TY:=kvq.tt kq2;have TX:Kept (· =m.cb) v q3:=(TY.mono (S':=(· =m.cb)) (fun _ _ h=>h.elim)).tt k3;have sq2:=TY.size;have sq3:=k3.size;have svq:=kvq.size;refine hQ q3 (kv.tt TX) ⟨_,hf3,fun z=>?_⟩ dS;by_cases hz:z=y
   ·subst hz
    refine⟨l++ [hid],.inr ⟨A',n+1,c',by simp,KC,yS.aF k3 (fun a ha e=>by have:=(lE a ha).1;omega),?_,fun a ha=>.inr ?_⟩,fun c=>?_⟩
    ·rw [if_pos ((bP hy).2 (.inr rfl))];omega
    ·have:=lE a ha;omega
    ·rw [List.mem_append,List.mem_singleton,LY,bP hy]
     constructor
     ·rintro((h3|⟨h3,h4,h5,h6⟩)|h3)
      ·exact .inl h3
      ·exact .inr ⟨h3,.inl h4,h5,h6⟩
      ·exact .inr ⟨h3,.inr rfl,fun e=>jR (.inl e),fun e=>jR (.inr e)⟩
     ·rintro(h3|⟨h3,h4,h5,h6⟩)
      ·exact .inl (.inl h3)
      ·exact .inr h3
   ·obtain⟨lz,h1,h2⟩:=hc z
    refine⟨lz,?_,fun c=>?_⟩
    ·simp only [hz,if_false]
     refine Ov (by omega) ?_ (Ow TX h1);by_cases hzi:z∈pl.take i
     ·rw [if_pos hzi,if_pos ((bP hy).2 (.inl hzi))];exact Nat.le_refl _
     ·rw [if_neg hzi];omega
    ·rw [h2,bP hy]
     constructor
     ·rintro(h3|⟨h3,h4,h5,h6⟩)
      ·exact .inl h3
      ·exact .inr ⟨h3,.inl h4,h5,h6⟩
     ·rintro(h3|⟨h3,h4|h4,h5,h6⟩)
      ·exact .inl h3
      ·exact .inr ⟨h3,h4,h5,h6⟩
      ·exact absurd h4 hz
  refine⟨_,tZ (Kept.refl _ _),y.1,⟨y.2.1,Cells.bL Jp⟩,_,tZ (Kept.refl _ _),y.1,⟨y.2.1,Cells.bL Jp⟩,A,n,c,lk2 (Kept.refl _ _),hid.1,⟨hid.2.1,Cells.bL NR⟩,?_,⟨hid.2.1,?_⟩⟩
  ·refine yi Gl ⟨A,n,n,rfl,acE (Kept.refl _ _),nf (Kept.refl _ _),tZ (Kept.refl _ _),hid.2.1,?_⟩
   intro Fa;have CB:Kept Nil DH Fa:=(Kept.refl _ _).alloc _;have W1:HS Fa (some ⟨DH.heap.size,0,none⟩) 1 [hid]:=jf DH hid;clear_value Fa;exact⟨nf CB,tZ CB,fin CB W1⟩
  ·intro ON
   have AT:Kept Nil DH ON:=(Kept.refl _ _).alloc _;have WZ:HS ON (some ⟨DH.heap.size,0,none⟩) 1 [hid]:=jf DH hid;clear_value ON;exact⟨lk2 AT,nf AT,tZ AT,nf AT,tZ AT,yi Gl ⟨A,n,n,rfl,nf AT,tZ AT,fin AT WZ⟩⟩
end
def nY(D:DG)(h s:HT)(l:List HT):DG:=if ik D h s l=0 then D++ [⟨h,dD l⟩]else D
def nX(D:DG)(P:List Int)(h s:HT)(l:List HT):List Int:=if ik D h s l=0 then P++ [(((pos s (ids D) 0).getD 0:Nat):Int)]else P
section
variable{w w':World}{F S:Nat->Prop}{x:Nat}{D:DG}{P:List Int}{m:XM}{K:Value->World->Prop}
theorem FE(h:XV w F x D P m)(hD:D.length<=5000)(hT:uA w)(KF:¬m.SG (Tryz.jV.g 1)){A:Option Addr}{n cx:Nat}{lp:List HT}(hl:HS w A n lp)(hn:n<=5000)(hid s:HT)
 (lH:∀v,Kept Nil w v->ik D hid s lp≠0->K (.int .i64 (ik D hid s lp)) v)
 (uo:∀u S' F',DD u S' F' x (nY D hid s lp) (nX D P hid s lp)->Kept (fun k=>m.lg x k) w u->(∀k,S' k->m.lg x k\/w.heap.size<=k)->(∀k,F' k->F k\/w.heap.size<=k)->ik D hid s lp=0->K (.int .i64 0) u):
 bC prog aE.id #[.pointer (some ⟨x,0,none⟩),.agg hid.1,.agg s.1,.slice A n cx] w K:=by
 have hlen:=hl.len;have W:=h.W;refine aE.of ?_;unfold aE.W;intro w5 w6;have k5:Kept Nil w w5:=(Kept.refl _ _).alloc _;have L7:w5.heap[w.heap.size]? =some (.cells hid.1 ag (0,0)):=aH w _;have k6:Kept Nil w5 w6:=(Kept.refl _ _).alloc _;have LG:w6.heap[w5.heap.size]? =some (.cells s.1 ag (0,0)):=aH w5 _;clear_value w6;have YK:=k6.heap L7 (fun h=>h);have qZ:=k5.tt k6;have s5:=k5.size;have l5:=aU L7;obtain⟨bl,c,mbg,M,G⟩:=h.G;have hG:∀ {v:World},Kept Nil w v->GV v m.SG F m.g D (gX D) bl c mbg M:=fun k=>G.same k;refine tI (h.same qZ) ⟨true,rfl,Split.no rfl ⟨_,(h.same qZ).c0,hid.1,⟨hid.2.1,Cells.bL YK⟩,?_⟩⟩;refine uP (hG qZ) hid fun iR Ku=>⟨_,rfl,?_⟩;have Lz:=qZ.tt Ku;by_cases gK:hid∈ids D
 ·have e:ik D hid s lp=7:=by simp [ik,dL,gK]
  have:=lH iR Lz (by rw [e];decide);rw [e]at this;exact Split.yes (decide_eq_true gK) this
 refine Split.no (decide_eq_false gK) ?_;by_cases h0:n=0
 ·have el:lp= []:=List.length_eq_zero_iff.1 (by omega)
  have e:ik D hid s lp=9:=by subst el;simp [ik,dL,gK,KU]
  have:=lH iR Lz (by rw [e];decide);rw [e]at this;exact Split.yes (by simp [h0]) this
 refine Split.no (by simp [h0]) ?_;refine ji (hl.same Lz) (by omega) fun A17 c17 xA aeL Iy=>⟨A17,_,c17,rfl,?_⟩;have Ly:=Lz.tt Iy;have fM:lp≠ []:=fun e=>h0 (by rw [<-hlen,e];rfl);by_cases BU:¬(dD lp).length=n
 ·have e:ik D hid s lp=9:=by
   have h1:(dD lp).length=0\/(dD lp).length≠lp.length:=.inr (by omega);have h2:dL D hid lp=9:=by unfold dL;rw [if_neg gK,if_pos h1]
   simp [ik,h2]
  have:=lH xA Ly (by rw [e];decide);rw [e]at this;exact Split.yes (by simp only [bne_iff_ne,ne_eq];omega) this
 replace BU:=Classical.not_not.1 BU
 refine Split.no (by rw [BU];simp) ?_;refine qm (h.same Ly) (hl.same Ly) (by omega) fun E0 BS=>⟨_,rfl,?_⟩;have PH:=Ly.tt BS;have Vr:¬((dD lp).length=0\/(dD lp).length≠lp.length):=by omega
 by_cases dt:¬∀p∈lp,p∈ids D
 ·have hex:∃p∈dD lp,p∉ids D:=Classical.byContradiction fun hc=>dt fun p hp=>Classical.byContradiction fun hq=>hc ⟨p,dV.2 hp,hq⟩
  have e:ik D hid s lp=6:=by
   have:dL D hid lp=6:=by unfold dL;rw [if_neg gK,if_neg Vr,if_pos hex]
   simp [ik,this]
  have:=lH E0 PH (by rw [e];decide);rw [e]at this;exact Split.yes (by rw [decide_eq_false dt];rfl) this
 replace dt:=Classical.not_not.1 dt
 refine Split.no (by rw [decide_eq_true dt];rfl) ?_;have acK:¬∃p∈dD lp,p∉ids D:=fun⟨p,hp,hq⟩=>hq (dt p (dV.1 hp));have eC:dL D hid lp=0:=by unfold dL;rw [if_neg gK,if_neg Vr,if_neg acK]
 have Uc:=(Ku.tt Iy).tt BS;refine⟨s.1,⟨s.2.1,Cells.bL (Uc.heap LG (fun h=>h))⟩,?_⟩;refine xk s (hl.same PH) (by omega) fun mo mX=>⟨_,rfl,?_⟩;have CC:=PH.tt mX;by_cases vU:¬s∈lp
 ·have e:ik D hid s lp=2:=by simp [ik,eC,vU]
  have:=lH mo CC (by rw [e];decide);rw [e]at this;exact Split.yes (by rw [decide_eq_false vU];rfl) this
 replace vU:=Classical.not_not.1 vU
 refine Split.no (by rw [decide_eq_true vU];rfl) ?_;have eX:ik D hid s lp=0:=by simp [ik,eC,vU]
 have Lo:=Uc.tt mX;obtain⟨mj,Qr,Qq⟩:=dr.1 (dt s vU);obtain⟨j,hj⟩:=List.mem_iff_getElem?.1 Qr;have eP:nX D P hid s lp=P++ [(j:Int)]:=by
  unfold nX;rw [if_pos eX,<-Qq,W.pos_eq hj];rfl
 have eD:nY D hid s lp=D++ [⟨hid,dD lp⟩]:=by unfold nY;rw [if_pos eX]
 intro o9;have AR:Kept Nil mo o9:=(Kept.refl _ _).alloc _;have abV:fR o9 mo.heap.size (fun _=>none):=fR.new mo;clear_value o9;have I0:=(Lo.tt AR).heap LG (fun h=>h);obtain⟨G5,abj,VG,It⟩:=abV.put H6 s (.agg #[.bool true]);refine⟨s.1,⟨s.2.1,Cells.bL I0⟩,G5,abj,?_⟩;have ob0:w5.heap.size<mo.heap.size:=by have:=aU LG;have:=Lo.size;omega
 have aa5:=It.heap I0 (fun e=>by omega);refine⟨s.1,⟨s.2.1,Cells.bL aa5⟩,s.2.1,?_⟩;intro OL;have Pv:Kept Nil G5 OL:=(Kept.refl _ _).alloc _;have aaL:HS OL (some ⟨G5.heap.size,0,none⟩) 1 [s]:=jf G5 s;clear_value OL;have ahz:=CC.size;have Iu:Kept Nil mo OL:=(AR.trans It (fun k hk e=>by omega)).tt Pv;have PE:=CC.tt Iu;refine wx (hG PE) W (by omega) (hT.same PE) aaL (by omega) fun A32 XG uE MR G6=>⟨A32,_,XG,rfl,?_⟩;have aav:=PE.tt G6;have abT:fR uE mo.heap.size (fun z=>if z=s then some (.agg #[.bool true])else none):=(VG.aF Pv (fun h=>h)).aF G6 (fun h=>h);have p1:=nO D fun a=>∃z∈ [s],fz D a z
 change (eF D [s]).length<=_ at p1
 have aeF:=Iu.size;have ob1:=VG.lt;have s30:=Pv.size;have NB:∀y,y∈eF D [s]↔fz D y s:=fun y=>by
  unfold eF;rw [jQ];constructor
  ·rintro⟨_,z,hz,e⟩
   rw [List.mem_singleton]at hz
   rwa [hz]at e
  ·exact fun e=>⟨(e.mem W).1,s,by simp,e⟩
 have ah4:∀k,k=mo.heap.size->¬k<w.heap.size:=fun k e=>by omega
 refine aE.cC (I:=fun i v=>∃(q:Nat) (f:HT->Option Value),i=(q:Int)/\q<=(eF D [s]).length/\fR v mo.heap.size f/\(∀y,(y=s\/y∈(eF D [s]).take q->f y=some (.agg #[.bool true]))/\(¬(y=s\/y∈(eF D [s]).take q)->f y=none))/\Kept (· =mo.heap.size) uE v)
  (μ:=fun i _=>(((eF D [s]).length:Int)-i).toNat) (s:=0) ⟨0,_,rfl,Nat.zero_le _,abT,fun y=>⟨fun e=>by
    rcases e with e|e
    ·rw [if_pos e]
    ·simp at e,fun e=>if_neg fun e'=>e (.inl e')⟩,Kept.refl _ _⟩ ?_
 rintro i v ⟨q,f,rfl,hq,hmv,Wj,kv⟩;have El:Kept Nil w v:=aav.trans kv (fun k hk e=>by omega);refine Split.dec (fun jK=>?_) (fun gA=>?_)
 ·have dS:q<(eF D [s]).length:=by omega
  obtain⟨y,hy⟩:∃y,(eF D [s])[q]? =some y:=⟨_,List.getElem?_eq_getElem dS⟩;have Fx:=bI.hs (Row.aF MR kv (fun k hk e=>by have:=(Row.bL MR hk).1;omega));refine Fx.load (i:=(q:Int)) (by omega) (by rw [Int.toNat_natCast];exact hy) ?_;intro MM;obtain⟨tf,jM,kz⟩:=iy (w:=v) (z:=(zx 0)) (cs:=y.1) (t:=ag) (by rw [y.2.1];rfl);refine⟨⟨y.2.1,y.2.one,fun j hj=>tf j (by rw [y.2.1];exact hj)⟩,?_⟩;intro ZF
  replace jM:ZF.heap[v.heap.size]? =some (.cells y.1 ag (0,0)):=jM
  replace kz:Kept Nil v ZF:=kz
  clear_value ZF;obtain⟨Hp,Qi,abR,Ym⟩:=(hmv.aF kz (fun h=>h)).put H6 y (.agg #[.bool true]);refine⟨y.1,⟨y.2.1,Cells.bL jM⟩,Hp,Qi,?_⟩;rw [dM (n:=(q:Int)) (by omega) (by omega)];refine⟨(q:Int)+1,rfl,⟨q+1,_,rfl,dS,abR,fun z=>?_,(kv.trans kz (fun _ _ h=>h.elim)).tt Ym⟩,by simp only;omega⟩;rw [bP hy];constructor
  ·intro e
   by_cases hz:z=y
   ·rw [if_pos hz]
   ·rw [if_neg hz]
    exact(Wj z).1 (e.imp (fun h=>h) (fun h=>h.resolve_right hz))
  ·intro e
   rw [if_neg (fun hz=>e (.inr (.inr hz)))];exact(Wj z).2 (fun e'=>e (e'.imp (fun h=>h) (fun h=>.inl h)))
 ·have hqe:q=(eF D [s]).length:=by omega
  subst hqe;rw [List.take_of_length_le (Nat.le_refl _)]at Wj;rw [aR,aE.OE];unfold aE.GX;have Ir:Kept (· =mo.heap.size) mo v:=((Iu.tt G6).mono (S':=(· =mo.heap.size)) (fun _ _ h=>h.elim)).tt kv;have YJ:v.heap[w.heap.size]? =some (.cells hid.1 ag (0,0)):=Ir.heap (Lo.heap YK (fun h=>h)) (fun e=>by omega);have P9:v.heap[w5.heap.size]? =some (.cells s.1 ag (0,0)):=Ir.heap (Lo.heap LG (fun h=>h)) (fun e=>by omega);have sv:=El.size;have s2v:=Ir.size;refine⟨hid.1,⟨hid.2.1,Cells.bL YJ⟩,?_⟩;refine Mx (hG El) W (by omega) (hl.same El) (by omega) hid fun G0 S2 F2 Xk F8 Ra Rg=>⟨_,rfl,?_⟩;rw [p9 eC]at Xk;have La:∀k,m.SG k->k<w.heap.size:=fun k e=>h.low k (.inl (.inl e));have s64:=F8.size;have QF:=F8.heap YJ (fun e=>by have:=La _ e;omega);have UL:=F8.heap P9 (fun e=>by have:=La _ e;omega);have abQ:=hmv.aF F8 (fun e=>by have:=La _ e;omega);refine⟨hid.1,⟨hid.2.1,Cells.bL QF⟩,hid.2.1,?_⟩;intro Hn;have M1:Kept Nil G0 Hn:=(Kept.refl _ _).alloc _;have aaH:HS Hn (some ⟨G0.heap.size,0,none⟩) 1 [hid]:=jf G0 hid;clear_value Hn;have xf:∀p∈dD lp,p∈ids D:=fun p hp=>dt p (dV.1 hp);have W':jY (D++ [⟨hid,dD lp⟩]):=W.snoc (nd:=⟨hid,dD lp⟩) gK xf (jl lp);obtain⟨bl',c',TE,M',Zo⟩:=Xk;have Pc:∀k,m.own x k->k<w.heap.size:=fun k e=>h.low k (.inl (.inr (.inr (.inr e))));have hTv:uA G0:=(hT.same El).aF F8 KF;refine wx (Zo.same M1) W' (by simp;omega) (hTv.same M1) aaH (by omega) fun A69 c69 DI HL Lm=>⟨A69,_,c69,rfl,?_⟩;have xS:=M1.tt Lm;have aeC:=xS.size;have p2:=nO (D++ [⟨hid,dD lp⟩]) fun a=>∃z∈ [hid],fz (D++ [⟨hid,dD lp⟩]) a z
  change (eF (D++ [⟨hid,dD lp⟩]) [hid]).length<=_ at p2
  rw [List.length_append,List.length_singleton]at p2;have CS:∀y,y∈eF (D++ [⟨hid,dD lp⟩]) [hid]↔fz (D++ [⟨hid,dD lp⟩]) y hid:=fun y=>by
   unfold eF;rw [jQ];constructor
   ·rintro⟨_,z,hz,e⟩
    rw [List.mem_singleton]at hz
    rwa [hz]at e
   ·exact fun e=>⟨(e.mem W').1,hid,by simp,e⟩
  have lP:Kept (fun k=>m.SG k) w DI:=((El.mono (S':=fun k=>m.SG k) (fun _ _ h=>h.elim)).tt F8).trans xS (fun _ _ h=>h.elim);have Pb:∀k,m.own x k->¬m.SG k:=fun k e=>(h.od k e).1;have S5:=lP.heap h.top (Pb _ (.inl rfl));have gu:(eF (D++ [⟨hid,dD lp⟩]) [hid]).Nodup:=(jl _).nodup;obtain⟨f0,acJ,acL⟩:=h.Zf;have aeY:∀k,m.own x k->¬(k=m.cb)\/k=m.cb:=fun k _=>(Classical.em _).symm;have ur:m.own x m.cb:=.inr (.inr (.inr rfl));have TL:=Pc _ ur;generalize ry:eF (D++ [⟨hid,dD lp⟩]) [hid]=pl at HL p2 CS gu⊢;refine aE.gU (I:=fun i u=>∃q:Nat,i=(q:Int)/\q<=pl.length/\Kept (· =m.cb) DI u/\∃f,fR u m.cb f/\∀y,∃l,oX u (fun k=>m.SO k\/(DI.heap.size<=k/\k<u.heap.size)) (D.length+if y∈pl.take q then 1 else 0) (f y) l/\∀c,c∈l↔OB D P y c\/(c=hid/\y∈pl.take q/\y≠s/\¬fz D y s))
   (μ:=fun i _=>((pl.length:Int)-i).toNat) (s:=0) ⟨0,rfl,Nat.zero_le _,Kept.refl _ _,f0,acJ.aF lP (Pb _ ur),fun y=>?_⟩ ?_
  ·obtain⟨l,h1,h2⟩:=acL y
   refine⟨l,?_,fun c=>?_⟩
   ·rcases h1.aF lP (fun k e e'=>(h.gt k e').2 e)with h3|⟨A,n,c,g1,g2,g3,g4,g5⟩
    ·exact .inl h3
    ·exact .inr ⟨A,n,c,g1,g2,g3,by omega,fun a ha=>.inl (g5 a ha)⟩
   ·rw [h2]
    simp
  ·rintro i u ⟨q,rfl,Sd,ku,Wv⟩
   refine GU h hD lP.size S5 (xS.heap QF (fun h=>h)) (Nat.le_refl _) ((abQ.aF M1 (fun h=>h)).aF Lm (fun h=>h)) (by omega) rfl
    (fun y=>⟨fun e=>(Wj y).1 (e.imp (fun h=>h) (fun h=>(NB y).2 h)),fun e=>(Wj y).2 (fun e'=>e (e'.imp (fun h=>h) (fun h=>(NB y).1 h)))⟩)
    (Row.base HL (fun b hb=>by have:=(Row.bL HL hb).1;have:=M1.size;omega)) (by omega) ku Sd (Z:=fun _ _=>True) Wv gu (hid:=hid) (s:=s) (D':=D) (ps:= []) (fun v' kv' acD cY=>?_) (fun hqe=>?_)
   ·exact⟨(q:Int)+1,rfl,⟨q+1,rfl,cY,kv',acD⟩,by simp only;omega⟩
   ·subst hqe
    rw [aR];unfold aE.e2;rw [aE.Zu];rw [List.take_of_length_le (Nat.le_refl _)]at Wv;have Ij:Kept (fun k=>m.SG k\/k=m.cb) w u:=(lP.mono (S':=fun k=>m.SG k\/k=m.cb) (fun _ _ h=>.inl h)).trans ku (fun _ _ h=>.inr h);have su:=ku.size;obtain⟨RL,Tz,Pa,Ty,RK,Tx⟩:=h.ne;have Lb:∀k,F k->k<w.heap.size:=fun k e=>h.low k (.inr e);have adu:GV DI S2 F2 m.g (D++ [⟨hid,dD lp⟩]) (gX (D++ [⟨hid,dD lp⟩])) bl' c' TE M':=Zo.same xS;have nS2:∀k,S2 k->¬k=m.cb:=fun k h1 e=>by
     rcases Ra k h1 with h2|h2
     ·exact(h.od _ ur).1 (e▸h2)
     ·omega
    have nF2:∀k,F2 k->¬k=m.cb:=fun k h1 e=>by
     rcases Rg k h1 with h2|h2
     ·exact(h.od _ ur).2.2.2 (e▸h2)
     ·omega
    have ui:∀k,m.own x k->k≠m.cb->¬(m.SG k\/k=m.cb):=fun k e fM e'=>e'.elim (Pb k e) fM;refine Ka (s1:=G0.heap.size) (s2:=DI.heap.size) (S2:=S2) (F2:=F2) (SO2:=fun k=>m.SO k\/(DI.heap.size<=k/\k<u.heap.size)) (mj:=mj) h hD gK xf (jl lp) hj Qq (dV.2 vU) (Ij.heap h.top (ui _ (.inl rfl) Pa))
     (Nat.le_refl _) (by omega) (ku.heap (xS.heap QF (fun h=>h)) (fun e=>by omega)) (ku.heap (xS.heap UL (fun h=>h)) (fun e=>by omega)) ⟨bl',c',TE,M',adu.aF ku nS2 nF2⟩
     (h.T.aF Ij (fun k e e'=>e'.elim (fun e'=>(h.gt k e').1 e) (fun e'=>(h.od _ ur).2.1 (e'▸e)))) (h.at_.aF Ij (ui _ (.inr (.inl rfl)) RK)) (Row.aF h.row Ij (fun k e=>by cases e;exact ui _ (.inr (.inr (.inl rfl))) Tx))
     ?_ (by omega) (by omega) su (fun k e=>⟨(Ra k e).imp (fun h=>h) (fun h=>by omega),Zo.low k (.inl e)⟩) (fun k e=>⟨(Rg k e).imp (fun h=>h) (fun h=>by omega),Zo.low k (.inr e)⟩) (fun k e=>e)
     (Ij.mono (S':=fun k=>m.lg x k) (fun k _ e=>e.elim (fun e=>.inl e) (fun e=>.inr (.inr (.inr (.inr (.inr (.inr e)))))))) (fun u2 S' F' hI kU hSu Oi=>?_)
    ·obtain⟨f,hf,hc⟩:=Wv
     refine⟨f,hf,fun y=>?_⟩;obtain⟨l,h1,h2⟩:=hc y;refine⟨l,?_,fun c=>?_⟩
     ·rcases h1 with h3|⟨A,n,c,g1,g2,g3,g4,g5⟩
      ·exact .inl h3
      ·refine .inr ⟨A,n,c,g1,g2,g3,?_,g5⟩
       split at g4<;>omega
     ·rw [h2,JP W h.iA (nd:=⟨hid,dD lp⟩) gK xf hj,Qq]
      constructor
      ·rintro(h3|⟨h3,h4,h5,h6⟩)
       ·exact .inl h3
       ·exact .inr ⟨h3,(CS y).1 h4,h5,h6⟩
      ·rintro(h3|⟨h3,h4,h5,h6⟩)
       ·exact .inl h3
       ·exact .inr ⟨h3,(CS y).2 h4,h5,h6⟩
    ·refine uo u2 S' F' ?_ kU hSu Oi eX
     rw [eD,eP];exact hI
end
def eN:HT:=hx 0 (by decide)
def cI(D:DG)(P:List Int)(h:HT)(l:List HT):Prop:=(h∉ids D/\l= [])\/∃(i:Nat) (nd:DN) (ks:List Nat),D[i]? =some nd/\nd.id=h/\Up P i ks/\l=ks.map (mH D)
theorem mG{D:DG}{i:Nat}{nd:DN}(h:D[i]? =some nd):mH D i=nd.id:=by unfold mH;rw [h]
theorem cI.ex{D:DG}{P:List Int}(H:rF D P)(h:HT):∃l,cI D P h l:=by
 by_cases hm:h∈ids D
 ·obtain⟨nd,gu,e⟩:=dr.1 hm
  obtain⟨i,hi⟩:=List.mem_iff_getElem?.1 gu;obtain⟨ks,hk⟩:=Up.ex H.par i (by rw [H.len];exact(lgeS hi).1);exact⟨_,.inr ⟨i,nd,ks,hi,e,hk,rfl⟩⟩
 ·exact⟨[],.inl ⟨hm,rfl⟩⟩
theorem cI.mem{D:DG}{P:List Int}(W:jY D)(H:rF D P){h:HT}{l:List HT}(c:cI D P h l){a:HT}:a∈l↔Ch D P a h:=by
 rcases c with⟨h1,rfl⟩|⟨i,nd,ks,h1,rfl,h3,rfl⟩
 ·simp only [List.not_mem_nil,false_iff]
  exact fun e=>h1 e.mem.2
 ·have dS:i<P.length:=by rw [H.len];exact(lgeS h1).1
  rw [List.mem_map];constructor
  ·rintro⟨k,hk,rfl⟩
   have hu:=(h3.mem H.par dS).1 hk;have BW:=hu.Yf;rw [H.len]at BW;obtain⟨nk,LS⟩:∃nk,D[k]? =some nk:=⟨_,List.getElem?_eq_getElem BW⟩;exact⟨i,k,nd,nk,h1,rfl,LS,(mG LS).symm,hu⟩
  ·rintro⟨i',k,ni,nk,g1,g2,g3,g4,g5⟩
   have:=W.inj g1 h1 g2;subst this;exact⟨k,(h3.mem H.par dS).2 g5,by rw [mG g3,g4]⟩
theorem cI.one{D:DG}{P:List Int}(W:jY D)(H:rF D P){h:HT}{l l':List HT}(c:cI D P h l)(c':cI D P h l'):l=l':=by
 rcases c with⟨h1,rfl⟩|⟨i,nd,ks,h1,h2,h3,rfl⟩
 ·rcases c' with⟨_,rfl⟩|⟨i,nd,ks,g1,g2,_,_⟩
  ·rfl
  ·exact absurd (dr.2 ⟨nd,List.mem_of_getElem? g1,g2⟩) h1
 ·rcases c' with⟨g1,rfl⟩|⟨i',nd',ks',g1,g2,g3,rfl⟩
  ·exact absurd (dr.2 ⟨nd,List.mem_of_getElem? h1,h2⟩) g1
  ·have:=W.inj h1 g1 (by rw [h2,g2])
   subst this;rw [Up.one H.par h3 g3]
section
variable{w w':World}{F S:Nat->Prop}{x:Nat}{D:DG}{P:List Int}{m:XM}{K:Value->World->Prop}
theorem XV.O3(h:XV w F x D P m){i:Nat}{nd:DN}(hi:D[i]? =some nd):Cells w ((⟨m.ib,0,none⟩:Addr).add (i*32)) nd.id.1:=by
 obtain⟨a,ha,_,hc⟩:=(bI.hs h.row).at_ i nd.id (oE hi);cases ha;exact hc
theorem XV.HW(h:XV w F x D P m){i:Nat}{nd:DN}(hi:D[i]? =some nd):∃td,m.T[i]? =some td/\P[i]? =some td.parent:=by
 have dS:=(lgeS hi).1;obtain⟨td,Yx⟩:=Tr.gB (T:=m.T) (i:=i) (by rw [h.OW];exact dS);exact⟨td,Yx,by rw [<-h.b0];exact Tr.lO Yx⟩
theorem pH(a:HT)(hK:∀w' pb qb,Kept Nil w w'->w'.heap[pb]? =some (.cells #[.pointer (some ⟨x,0,none⟩)] gE (0,0))->w'.heap[qb]? =some (.cells a.1 ag (0,0))->w.heap.size<=pb->w.heap.size<=qb->K (.func (.func aZ.id) #[] #[.pointer (some ⟨pb,0,none⟩),.pointer (some ⟨qb,0,none⟩)]) w'):
 bC prog gk.id #[.pointer (some ⟨x,0,none⟩),.agg a.1] w K:=by
 refine gk.of ?_;unfold gk.W;intro w3 w4;have k3:Kept Nil w w3:=(Kept.refl _ _).alloc _;have Va:w3.heap[w.heap.size]? =some (.cells #[.pointer (some ⟨x,0,none⟩)] gE (0,0)):=aH w _;have k4:Kept Nil w3 w4:=(Kept.refl _ _).alloc _;have U3:w4.heap[w3.heap.size]? =some (.cells a.1 ag (0,0)):=aH w3 _;clear_value w4;exact hK w4 _ _ (k3.tt k4) (k4.heap Va (fun h=>h)) U3 (Nat.le_refl _) k3.size
theorem yr{pb qb:Nat}{a:HT}{l:List HT}(hl:cI D P a l)(hD:D.length<=5000):
 oo prog aZ.id #[] #[.pointer (some ⟨pb,0,none⟩),.pointer (some ⟨qb,0,none⟩)] (l.map se) (fun w=>XV w F x D P m/\w.heap[pb]? =some (.cells #[.pointer (some ⟨x,0,none⟩)] gE (0,0))/\w.heap[qb]? =some (.cells a.1 ag (0,0))):=by
 intro y I Q w0 hI hQ oG h0 oF;obtain⟨hX,LQ,NA⟩:=oG 0 w0 h0;have W:=hX.W;have nv:=hX.iA;refine aZ.of ?_;unfold aZ.W;refine⟨_,by rw [aD LQ];rfl,a.1,⟨a.2.1,Cells.bL NA⟩,a.2.1,?_⟩;intro w6;have k6:Kept Nil w0 w6:=(Kept.refl _ _).alloc _;have qE:HS w6 (some ⟨w0.heap.size,0,none⟩) 1 [a]:=jf w0 a;clear_value w6;refine qm (hX.same k6) qE (by omega) fun w8 k8=>⟨_,rfl,?_⟩;have uL:=k6.tt k8;rcases hl with⟨lH,rfl⟩|⟨i,nd,ks,hi,hid,LC,rfl⟩
 ·exact Split.yes (by rw [decide_eq_false (by simpa using lH)];rfl) (.inl (hI 0 w0 w8 h0 uL))
 ·have hm:a∈ids D:=dr.2 ⟨nd,List.mem_of_getElem? hi,hid⟩
  refine Split.no (by rw [decide_eq_true (by simpa using hm)];rfl) ?_;intro w10;have lX:Kept Nil w8 w10:=(Kept.refl _ _).drew;clear_value w10;have CD:=uL.tt lX;have wK:=hX.same CD;have lk:=wK.at_.xP a;rw [<-hid,W.pos_eq hi]at lk;rw [hid]at lk;refine⟨some ⟨x,0,none⟩,by rw [aD (CD.heap LQ (fun h=>h))];rfl,_,wK.c2,a.1,⟨a.2.1,Cells.bL (CD.heap NA (fun h=>h))⟩,_,lk,?_⟩;have dS:i<P.length:=by rw [nv.len];exact(lgeS hi).1
  have U8:=nv.par;refine aZ.cC (I:=fun s v=>∃(k:Nat) (dn rs:List Nat),s=(k:Int)/\ks=dn++rs/\Up P k rs/\k<P.length/\I dn.length v) (μ:=fun s _=>s.toNat) (s:=((i:Nat):Int)) ⟨i,[],ks,rfl,rfl,LC,dS,hI 0 w0 w10 h0 CD⟩ ?_;rintro s v ⟨k,dn,rs,rfl,Qx,Yv,BW,hv⟩;obtain⟨hXv,hpv,hqv⟩:=oG _ v hv;rw [nv.len]at BW;obtain⟨nk,LS⟩:∃nk,D[k]? =some nk:=⟨_,List.getElem?_eq_getElem BW⟩;refine⟨some ⟨x,0,none⟩,by rw [aD hpv];rfl,_,_,_,hXv.c3,⟨by omega,by omega⟩,nk.id.1,⟨nk.id.2.1,by rw [Int.toNat_natCast];exact hXv.O3 LS⟩,?_⟩;have gV:((ks.map (mH D)).map se)[dn.length]? =some (se nk.id):=by
   rw [List.getElem?_map,List.getElem?_map,Qx,List.getElem?_append_right (Nat.le_refl _),Nat.sub_self,Yv.head];simp [mG LS]
  refine(oF dn.length (se nk.id) v gV hv).mono ?_;rintro b v' ⟨ht,hf⟩;cases b with
  |false=>
   refine Split.no rfl ?_;rw [aR,aZ.df];exact .inr (hf rfl)
  |true=>
   refine Split.yes rfl ?_;have Xj:=ht rfl;cases Yv with
   |root=>
    refine Split.no rfl ?_;rw [aR,aZ.df];refine .inl ?_;rw [List.length_map,List.length_map,Qx,List.length_append];exact Xj
   | @step _ j ZQ hj IP=>
     have V0:=(Tr.iJ U8 (Tr.eE.2 hj)).1;refine Split.yes (decide_eq_true (by omega)) ?_;obtain⟨Q9,abu,_⟩:=oG _ v' Xj;obtain⟨td,Yx,htp⟩:=Q9.HW LS;rw [hj]at htp;have aaX:(j:Int)=td.parent:=by simpa using htp
     refine⟨some ⟨x,0,none⟩,by rw [aD abu];rfl,_,Q9.c1,Tr.zO Q9.T Yx (by omega) ⟨_,_,rfl,?_⟩⟩;rw [<-aaX];refine⟨(j:Int),rfl,⟨j,dn++ [k],ZQ,rfl,by rw [Qx];simp,IP,by rw [nv.len];omega,?_⟩,by simp only;omega⟩;rw [List.length_append];exact Xj
end
structure XN(w v:World)(r:HT)(own:Nat->Nat)(G T E I Z:Option Nat)(l:List HT):Prop where
 kp:Kept Nil w v
 gr:∀g,G=some g->∃SG,EV v SG (fun _=>False) g [⟨r,[]⟩]/\∀k,SG k->w.heap.size<=k/\own k=1
 tr:∀t,T=some t->∃ST,Tr.pk v ST t Tr.qI 0/\∀k,ST k->w.heap.size<=k/\k<v.heap.size/\own k=2
 mp:∀b,E=some b->w.heap.size<=b/\own b=3/\IsMap v b l
 il:∀b,I=some b->w.heap.size<=b/\own b=4/\v.heap[b]? =some (.cells (r.1.toList++ []).toArray ag (0,0))
 cv:∀b,Z=some b->w.heap.size<=b/\own b=5/\fR v b (fun _=>none)
def tag(n t:Nat)(own:Nat->Nat)(k:Nat):Nat:=if n<=k then t else own k
theorem rG{n t k:Nat}{own:Nat->Nat}(h:k<n):tag n t own k=own k:=by unfold tag;rw [if_neg (by omega)]
theorem rH{n t k:Nat}{own:Nat->Nat}(h:n<=k):tag n t own k=t:=by unfold tag;rw [if_pos h]
section
variable{w v v':World}{r:HT}{own:Nat->Nat}{G T E I Z:Option Nat}{l:List HT}{K:Value->World->Prop}
theorem XN.grow(h:XN w v r own G T E I Z l)(t:Nat)(k:Kept Nil v v'):XN w v' r (tag v.heap.size t own) G T E I Z l:=by
 have hs:=k.size;refine⟨h.kp.tt k,fun g e=>?_,fun g e=>?_,fun b e=>?_,fun b e=>?_,fun b e=>?_⟩
 ·obtain⟨SG,h1,h2⟩:=h.gr g e
  exact⟨SG,h1.same k,fun q hq=>⟨(h2 q hq).1,by rw [rG (by obtain⟨bl,c,mb,M,G⟩:=h1;exact G.low q (.inl hq))];exact(h2 q hq).2⟩⟩
 ·obtain⟨ST,h1,h2⟩:=h.tr g e
  exact⟨ST,h1.same k,fun q hq=>⟨(h2 q hq).1,by have:=(h2 q hq).2.1;omega,by rw [rG (h2 q hq).2.1];exact(h2 q hq).2.2⟩⟩
 ·obtain⟨h1,h2,h3⟩:=h.mp b e
  exact⟨h1,by rw [rG h3.lt];exact h2,h3.aF k (fun h=>h)⟩
 ·obtain⟨h1,h2,h3⟩:=h.il b e
  exact⟨h1,by rw [rG (aU h3)];exact h2,k.heap h3 (fun h=>h)⟩
 ·obtain⟨h1,h2,h3⟩:=h.cv b e
  exact⟨h1,by rw [rG h3.lt];exact h2,h3.aF k (fun h=>h)⟩
theorem XN.dE(h:XN w v r own none T E I Z l){gb:Nat}(hG:EV v' (fun k=>v.heap.size<=k/\k<v'.heap.size) (fun _=>False) gb [⟨r,[]⟩])(k:Kept Nil v v'):XN w v' r (tag v.heap.size 1 own) (some gb) T E I Z l:=by
 have g:=h.grow 1 k;refine⟨g.kp,?_,g.tr,g.mp,g.il,g.cv⟩;intro g' e;cases e;have:=h.kp.size;exact⟨_,hG,fun q hq=>⟨by omega,rH hq.1⟩⟩
theorem XN.uy(h:XN w v r own G none E I Z l){t:Nat}(hT:Tr.pk v' (fun k=>v.heap.size<=k) t Tr.qI 0)(k:Kept Nil v v'):XN w v' r (tag v.heap.size 2 own) G (some t) E I Z l:=by
 have g:=h.grow 2 k;refine⟨g.kp,g.gr,?_,g.mp,g.il,g.cv⟩;intro t' e;cases e;have:=h.kp.size;exact⟨_,tA hT,fun q hq=>⟨by omega,hq.2,rH hq.1⟩⟩
theorem XN.uz(h:XN w v r own G T none I Z []):XN w (v.alloc (.map #[] 0)) r (tag v.heap.size 3 own) G T (some v.heap.size) I Z []:=by
 have g:=h.grow 3 ((Kept.refl Nil v).alloc (.map #[] 0));refine⟨g.kp,g.gr,g.tr,?_,g.il,g.cv⟩;intro b e;cases e;exact⟨h.kp.size,rH (Nat.le_refl _),⟨#[],0,aH v _,trivial⟩⟩
theorem XN.o6(h:XN w v r own G T E none Z l):XN w (v.alloc (.cells (r.1.toList++ []).toArray ag)) r (tag v.heap.size 4 own) G T E (some v.heap.size) Z l:=by
 have g:=h.grow 4 ((Kept.refl Nil v).alloc (.cells (r.1.toList++ []).toArray ag));refine⟨g.kp,g.gr,g.tr,g.mp,?_,g.cv⟩;intro b e;cases e;exact⟨h.kp.size,rH (Nat.le_refl _),aH v _⟩
theorem XN.o5(h:XN w v r own G T E I none l):XN w (v.alloc (.map #[] 0)) r (tag v.heap.size 5 own) G T E I (some v.heap.size) l:=by
 have g:=h.grow 5 ((Kept.refl Nil v).alloc (.map #[] 0));refine⟨g.kp,g.gr,g.tr,g.mp,g.il,?_⟩;intro b e;cases e;exact⟨h.kp.size,rH (Nat.le_refl _),fR.new v⟩
theorem XN.put{mb:Nat}(h:XN w v r own G T (some mb) I Z []):∃v',(Instr.mapUpdate cO (.map (some mb)) (.agg r.1) (.int .i64 0)).run prog v=.ok () v'/\XN w v' r own G T (some mb) I Z [r]:=by
 obtain⟨h1,h2,h3⟩:=h.mp mb rfl;obtain⟨v',hr,hm,hk⟩:=h3.put (h:=r) (by simp);refine⟨v',hr,(h.kp.trans hk (fun k hk e=>by omega)),fun g e=>?_,fun g e=>?_,fun b e=>?_,fun b e=>?_,fun b e=>?_⟩
 ·obtain⟨SG,g1,g2⟩:=h.gr g e
  exact⟨SG,g1.aF hk (fun q hq e=>by have:=(g2 q hq).2;rw [e,h2]at this;cases this) (fun q hq=>hq.elim),g2⟩
 ·obtain⟨ST,g1,g2⟩:=h.tr g e
  exact⟨ST,g1.aF hk (fun q hq e=>by have:=(g2 q hq).2.2;rw [e,h2]at this;cases this),fun q hq=>⟨(g2 q hq).1,Nat.lt_of_lt_of_le (g2 q hq).2.1 hk.size,(g2 q hq).2.2⟩⟩
 ·cases e
  exact⟨h1,h2,hm⟩
 ·obtain⟨g1,g2,g3⟩:=h.il b e
  exact⟨g1,g2,hk.heap g3 (fun e=>by rw [e,h2]at g2;cases g2)⟩
 ·obtain⟨g1,g2,g3⟩:=h.cv b e
  exact⟨g1,g2,g3.aF hk (fun e=>by rw [e,h2]at g2;cases g2)⟩
theorem XN.fin{g t mb ib cb:Nat}{w0:World}(h:XN w v r own (some g) (some t) (some mb) (some ib) (some cb) [r])(hw:w0.heap.size<=w.heap.size):
 DD (v.alloc (.cells #[.pointer (some ⟨g,0,none⟩),.pointer (some ⟨t,0,none⟩),.map (some mb),.slice (some ⟨ib,0,none⟩) 1 1,.map (some cb)] eV)) (fun k=>w0.heap.size<=k/\k<(v.alloc (.cells #[.pointer (some ⟨g,0,none⟩),.pointer (some ⟨t,0,none⟩),.map (some mb),.slice (some ⟨ib,0,none⟩) 1 1,.map (some cb)] eV)).heap.size) (fun _=>False) v.heap.size [⟨r,[]⟩] [-1]:=by
 have jv:=aH v (.cells #[.pointer (some ⟨g,0,none⟩),.pointer (some ⟨t,0,none⟩),.map (some mb),.slice (some ⟨ib,0,none⟩) 1 1,.map (some cb)] eV);have kx:=(Kept.refl Nil v).alloc (.cells #[.pointer (some ⟨g,0,none⟩),.pointer (some ⟨t,0,none⟩),.map (some mb),.slice (some ⟨ib,0,none⟩) 1 1,.map (some cb)] eV);have hx:=aU jv;generalize v.alloc (.cells #[.pointer (some ⟨g,0,none⟩),.pointer (some ⟨t,0,none⟩),.map (some mb),.slice (some ⟨ib,0,none⟩) 1 1,.map (some cb)] eV)=u at jv kx hx;obtain⟨SG,hG,gG⟩:=h.gr g rfl;obtain⟨ST,hT,gT⟩:=h.tr t rfl;obtain⟨m1,m2,m3⟩:=h.mp mb rfl;obtain⟨i1,i2,i3⟩:=h.il ib rfl;obtain⟨c1,c2,c3⟩:=h.cv cb rfl;have oH:∀k,SG k->k<v.heap.size:=fun k e=>by obtain⟨bl,c,mb,M,G⟩:=hG;exact G.low k (.inl e)
 have sw:=h.kp.size;have lm:=m3.lt;have li:=aU i3;have lc:=c3.lt;have C7:∀ {a b:HT},¬fz [(⟨r,[]⟩:DN)] a b:=Ad r;refine⟨⟨g,t,mb,ib,1,cb,Tr.qI,0,SG,ST,fun _=>False⟩,⟨jv,hG.same kx,hT.same kx,Tr.Cp,rfl,⟨Int.le_refl 0,by show(0:Int)<=_;simp⟩,m3.aF kx (fun h=>h),?_,⟨_,c3.aF kx (fun h=>h),fun y=>⟨[],.inl ⟨rfl,rfl⟩,fun c=>?_⟩⟩,?_,jY.root r,?_,?_,?_,?_,?_,?_⟩,?_⟩
 ·have e:dh [r]=(r.1.toList++ []).toArray.toList:=by simp [dh]
  show Row _ _ _ _ _ _ _ (dh [r])
  rw [e];exact Row.made (kx.heap i3 (fun h=>h)) (Nat.zero_le _) (by simp [r.2.1]) (by show 1<=maxLen;decide)
 ·simp only [List.not_mem_nil,false_iff]
  exact fun hc=>C7 hc.1
 ·refine⟨rfl,rfl,fun i p nd hi hp=>?_⟩
  cases i with
  |zero=>omega
  |succ i=>simp at hp
 ·exact fun k e=>⟨fun e'=>by have:=(gG k e).2;have:=(gT k e').2.2;omega,fun e'=>e'.elim⟩
 ·exact fun k e e'=>e'.elim
 ·exact fun k e=>e.elim
 ·intro k e
  have key:v.heap.size<=k\/3<=own k:=by
   rcases e with e|e|e|e
   ·exact .inl (by omega)
   ·exact .inr (by have e:k=mb:=e;rw [e];omega)
   ·exact .inr (by have e:k=ib:=e;rw [e];omega)
   ·exact .inr (by have e:k=cb:=e;rw [e];omega)
  refine⟨fun e'=>?_,fun e'=>?_,fun e'=>e'.elim,fun e'=>e'.elim⟩
  ·have h1:=(gG k e').2
   have h2:=oH k e';omega
  ·have h1:=(gT k e').2.2
   have h2:=(gT k e').2.1;omega
 ·refine⟨by show v.heap.size≠mb;omega,by show v.heap.size≠ib;omega,by show v.heap.size≠cb;omega,fun e=>?_,fun e=>?_,fun e=>?_⟩
  ·have e:mb=ib:=e
   rw [e]at m2;omega
  ·have e:mb=cb:=e
   rw [e]at m2;omega
  ·have e:ib=cb:=e
   rw [e]at i2;omega
 ·intro k e
  rcases e with e|e
  ·rcases e with e|e|e|e
   ·have:=oH k e;omega
   ·have:=(gT k e).2.1;omega
   ·exact e.elim
   ·rcases e with e|e|e|e
    ·omega
    ·have e:k=mb:=e;omega
    ·have e:k=ib:=e;omega
    ·have e:k=cb:=e;omega
  ·exact e.elim
 ·intro k e
  rcases e with e|e|e|e
  ·have:=oH k e;have:=(gG k e).1;omega
  ·have:=(gT k e).1;have:=(gT k e).2.1;omega
  ·exact e.elim
  ·rcases e with e|e|e|e
   ·omega
   ·have e:k=mb:=e;omega
   ·have e:k=ib:=e;omega
   ·have e:k=cb:=e;omega
structure XD(w o:World)(r:HT)(K:Value->World->Prop):Prop where
 cs:∀ {v:World},Kept Nil o v->∃cs:Array Value,(.agg r.1:Value)=.agg cs/\cs.size=32/\Cells v (aP w.heap.size) cs
 fin:∀ {v:World} {own:Nat->Nat} {g t mb ib cb:Nat},XN o v r own (some g) (some t) (some mb) (some ib) (some cb) [r]->K (.pointer (some ⟨v.heap.size,0,none⟩)) (v.alloc (.cells #[.pointer (some ⟨g,0,none⟩),.pointer (some ⟨t,0,none⟩),.map (some mb),.slice (some ⟨ib,0,none⟩) 1 1,.map (some cb)] eV))
end
section
variable{w o v e i z:World}{r:HT}{own:Nat->Nat}{g t:Nat}{K:Value->World->Prop}
theorem n1(D:XD w o r K)(h:XN o v r own (some g) (some t) (some e.heap.size) (some i.heap.size) (some z.heap.size) [r]):ax.N1 (some ⟨g,0,none⟩) (some ⟨t,0,none⟩) e i z K v:=by
 unfold ax.N1;exact D.fin h
theorem n2(D:XD w o r K)(h:XN o v r own (some g) (some t) (some e.heap.size) (some i.heap.size) none [r]):ax.N2 (some ⟨g,0,none⟩) (some ⟨t,0,none⟩) e i K v:=by
 unfold ax.N2;exact let n:=h.o5;n1 D n
theorem n3(D:XD w o r K)(h:XN o v r own (some g) (some t) (some e.heap.size) none (some z.heap.size) [r]):ax.N3 r.1 (some ⟨g,0,none⟩) (some ⟨t,0,none⟩) e z K v:=by
 unfold ax.N3;exact let n:=h.o6;⟨r.2.1,n1 D n⟩
theorem n4(D:XD w o r K)(h:XN o v r own (some g) (some t) (some e.heap.size) none none [r]):ax.N4 r.1 (some ⟨g,0,none⟩) (some ⟨t,0,none⟩) e w K v:=by
 unfold ax.N4;exact⟨(let n:=h.o6;⟨r.2.1,n2 D n⟩),(let n:=h.o5;⟨D.cs n.kp,n3 D n⟩)⟩
theorem n5(D:XD w o r K)(h:XN o v r own (some g) (some t) (some e.heap.size) (some i.heap.size) (some z.heap.size) []):ax.N5 e r.1 (some ⟨g,0,none⟩) (some ⟨t,0,none⟩) i z K v:=by
 unfold ax.N5;exact let ⟨u,q,n⟩:=h.put;⟨u,q,n1 D n⟩
theorem n6(D:XD w o r K)(h:XN o v r own (some g) (some t) (some e.heap.size) (some i.heap.size) none []):ax.N6 e r.1 (some ⟨g,0,none⟩) (some ⟨t,0,none⟩) i w K v:=by
 unfold ax.N6;exact⟨(let ⟨u,q,n⟩:=h.put;⟨u,q,n2 D n⟩),(let n:=h.o5;⟨D.cs n.kp,n5 D n⟩)⟩
theorem n7(D:XD w o r K)(h:XN o v r own (some g) (some t) (some e.heap.size) none (some z.heap.size) []):ax.N7 e r.1 r.1 w (some ⟨g,0,none⟩) (some ⟨t,0,none⟩) z K v:=by
 unfold ax.N7;exact⟨(let ⟨u,q,n⟩:=h.put;⟨u,q,D.cs n.kp,n3 D n⟩),(let n:=h.o6;⟨r.2.1,D.cs n.kp,n5 D n⟩)⟩
theorem n8(D:XD w o r K)(h:XN o v r own (some g) (some t) (some e.heap.size) none none []):ax.N8 e r.1 r.1 w (some ⟨g,0,none⟩) (some ⟨t,0,none⟩) K v:=by
 unfold ax.N8;exact⟨(let ⟨u,q,n⟩:=h.put;⟨u,q,D.cs n.kp,n4 D n⟩),(let n:=h.o6;⟨r.2.1,D.cs n.kp,n6 D n⟩),(let n:=h.o5;⟨D.cs n.kp,D.cs n.kp,n7 D n⟩)⟩
theorem n9(D:XD w o r K)(h:XN o v r own (some g) (some t) none (some i.heap.size) (some z.heap.size) []):ax.N9 r.1 w (some ⟨g,0,none⟩) (some ⟨t,0,none⟩) i z K v:=by
 unfold ax.N9;exact let n:=h.uz;⟨D.cs n.kp,n5 D n⟩
theorem n10(D:XD w o r K)(h:XN o v r own (some g) (some t) none (some i.heap.size) none []):ax.SH r.1 w (some ⟨g,0,none⟩) (some ⟨t,0,none⟩) i K v:=by
 unfold ax.SH;exact⟨(let n:=h.uz;⟨D.cs n.kp,n6 D n⟩),(let n:=h.o5;⟨D.cs n.kp,n9 D n⟩)⟩
theorem n11(D:XD w o r K)(h:XN o v r own (some g) (some t) none none (some z.heap.size) []):ax.Zn r.1 w r.1 (some ⟨g,0,none⟩) (some ⟨t,0,none⟩) z K v:=by
 unfold ax.Zn;exact⟨(let n:=h.uz;⟨D.cs n.kp,D.cs n.kp,n7 D n⟩),(let n:=h.o6;⟨r.2.1,D.cs n.kp,n9 D n⟩)⟩
theorem n12(D:XD w o r K)(h:XN o v r own (some g) (some t) none none none []):ax.RD r.1 w r.1 (some ⟨g,0,none⟩) (some ⟨t,0,none⟩) K v:=by
 unfold ax.RD;exact⟨(let n:=h.uz;⟨D.cs n.kp,D.cs n.kp,n8 D n⟩),(let n:=h.o6;⟨r.2.1,D.cs n.kp,n10 D n⟩),(let n:=h.o5;⟨D.cs n.kp,D.cs n.kp,n11 D n⟩)⟩
theorem n13(D:XD w o r K)(h:XN o v r own (some g) none (some e.heap.size) (some i.heap.size) (some z.heap.size) [r]):ax.MJ (some ⟨g,0,none⟩) e i z K v:=by
 unfold ax.MJ;exact Tr.fh fun _ _ q k=>let n:=h.uy q k;⟨_,rfl,n1 D n⟩
theorem n14(D:XD w o r K)(h:XN o v r own (some g) none (some e.heap.size) (some i.heap.size) none [r]):ax.RC (some ⟨g,0,none⟩) e i K v:=by
 unfold ax.RC;exact⟨(Tr.fh fun _ _ q k=>let n:=h.uy q k;⟨_,rfl,n2 D n⟩),(let n:=h.o5;n13 D n)⟩
theorem n15(D:XD w o r K)(h:XN o v r own (some g) none (some e.heap.size) none (some z.heap.size) [r]):ax.XZ r.1 w (some ⟨g,0,none⟩) e z K v:=by
 unfold ax.XZ;exact⟨(Tr.fh fun _ _ q k=>let n:=h.uy q k;⟨_,rfl,D.cs n.kp,n3 D n⟩),(let n:=h.o6;⟨r.2.1,n13 D n⟩)⟩
theorem n16(D:XD w o r K)(h:XN o v r own (some g) none (some e.heap.size) none none [r]):ax.SF r.1 w (some ⟨g,0,none⟩) e K v:=by
 unfold ax.SF;exact⟨(Tr.fh fun _ _ q k=>let n:=h.uy q k;⟨_,rfl,D.cs n.kp,n4 D n⟩),(let n:=h.o6;⟨r.2.1,n14 D n⟩),(let n:=h.o5;⟨D.cs n.kp,n15 D n⟩)⟩
theorem n17(D:XD w o r K)(h:XN o v r own (some g) none (some e.heap.size) (some i.heap.size) (some z.heap.size) []):ax.SD r.1 w e (some ⟨g,0,none⟩) i z K v:=by
 unfold ax.SD;exact⟨(Tr.fh fun _ _ q k=>let n:=h.uy q k;⟨_,rfl,D.cs n.kp,n5 D n⟩),(let ⟨u,q,n⟩:=h.put;⟨u,q,n13 D n⟩)⟩
theorem n18(D:XD w o r K)(h:XN o v r own (some g) none (some e.heap.size) (some i.heap.size) none []):ax.XY r.1 w e (some ⟨g,0,none⟩) i K v:=by
 unfold ax.XY;exact⟨(Tr.fh fun _ _ q k=>let n:=h.uy q k;⟨_,rfl,D.cs n.kp,n6 D n⟩),(let ⟨u,q,n⟩:=h.put;⟨u,q,n14 D n⟩),(let n:=h.o5;⟨D.cs n.kp,n17 D n⟩)⟩
theorem n19(D:XD w o r K)(h:XN o v r own (some g) none (some e.heap.size) none (some z.heap.size) []):ax.KJ r.1 w r.1 e (some ⟨g,0,none⟩) z K v:=by
 unfold ax.KJ;exact⟨(Tr.fh fun _ _ q k=>let n:=h.uy q k;⟨_,rfl,D.cs n.kp,D.cs n.kp,n7 D n⟩),(let ⟨u,q,n⟩:=h.put;⟨u,q,D.cs n.kp,n15 D n⟩),(let n:=h.o6;⟨r.2.1,D.cs n.kp,n17 D n⟩)⟩
theorem n20(D:XD w o r K)(h:XN o v r own (some g) none (some e.heap.size) none none []):ax.Oz r.1 w r.1 e (some ⟨g,0,none⟩) K v:=by
 unfold ax.Oz;exact⟨(Tr.fh fun _ _ q k=>let n:=h.uy q k;⟨_,rfl,D.cs n.kp,D.cs n.kp,n8 D n⟩),(let ⟨u,q,n⟩:=h.put;⟨u,q,D.cs n.kp,n16 D n⟩),(let n:=h.o6;⟨r.2.1,D.cs n.kp,n18 D n⟩),(let n:=h.o5;⟨D.cs n.kp,D.cs n.kp,n19 D n⟩)⟩
theorem n21(D:XD w o r K)(h:XN o v r own (some g) none none (some i.heap.size) (some z.heap.size) []):ax.Oy r.1 w (some ⟨g,0,none⟩) i z K v:=by
 unfold ax.Oy;exact⟨(Tr.fh fun _ _ q k=>let n:=h.uy q k;⟨_,rfl,D.cs n.kp,n9 D n⟩),(let n:=h.uz;⟨D.cs n.kp,n17 D n⟩)⟩
theorem n22(D:XD w o r K)(h:XN o v r own (some g) none none (some i.heap.size) none []):ax.SC r.1 w (some ⟨g,0,none⟩) i K v:=by
 unfold ax.SC;exact⟨(Tr.fh fun _ _ q k=>let n:=h.uy q k;⟨_,rfl,D.cs n.kp,n10 D n⟩),(let n:=h.uz;⟨D.cs n.kp,n18 D n⟩),(let n:=h.o5;⟨D.cs n.kp,n21 D n⟩)⟩
theorem n23(D:XD w o r K)(h:XN o v r own (some g) none none none (some z.heap.size) []):ax.Zm r.1 w r.1 (some ⟨g,0,none⟩) z K v:=by
 unfold ax.Zm;exact⟨(Tr.fh fun _ _ q k=>let n:=h.uy q k;⟨_,rfl,D.cs n.kp,D.cs n.kp,n11 D n⟩),(let n:=h.uz;⟨D.cs n.kp,D.cs n.kp,n19 D n⟩),(let n:=h.o6;⟨r.2.1,D.cs n.kp,n21 D n⟩)⟩
theorem n24(D:XD w o r K)(h:XN o v r own (some g) none none none none []):ax.XX r.1 w r.1 (some ⟨g,0,none⟩) K v:=by
 unfold ax.XX;exact⟨(Tr.fh fun _ _ q k=>let n:=h.uy q k;⟨_,rfl,D.cs n.kp,D.cs n.kp,n12 D n⟩),(let n:=h.uz;⟨D.cs n.kp,D.cs n.kp,n20 D n⟩),(let n:=h.o6;⟨r.2.1,D.cs n.kp,n22 D n⟩),(let n:=h.o5;⟨D.cs n.kp,D.cs n.kp,n23 D n⟩)⟩
theorem n25(D:XD w o r K)(h:XN o v r own none none (some e.heap.size) (some i.heap.size) (some z.heap.size) [r]):ax.XW r.1 e i z K v:=by
 unfold ax.XW;exact gC r fun _ _ q k=>let n:=h.dE q k;⟨_,rfl,n13 D n⟩
theorem n26(D:XD w o r K)(h:XN o v r own none none (some e.heap.size) (some i.heap.size) none [r]):ax.Zl r.1 e i w K v:=by
 unfold ax.Zl;exact⟨(gC r fun _ _ q k=>let n:=h.dE q k;⟨_,rfl,n14 D n⟩),(let n:=h.o5;⟨D.cs n.kp,n25 D n⟩)⟩
theorem n27(D:XD w o r K)(h:XN o v r own none none (some e.heap.size) none (some z.heap.size) [r]):ax.RB r.1 r.1 w e z K v:=by
 unfold ax.RB;exact⟨(gC r fun _ _ q k=>let n:=h.dE q k;⟨_,rfl,D.cs n.kp,n15 D n⟩),(let n:=h.o6;⟨r.2.1,D.cs n.kp,n25 D n⟩)⟩
theorem n28(D:XD w o r K)(h:XN o v r own none none (some e.heap.size) none none [r]):ax.N28 r.1 r.1 w e K v:=by
 unfold ax.N28;exact⟨(gC r fun _ _ q k=>let n:=h.dE q k;⟨_,rfl,D.cs n.kp,n16 D n⟩),(let n:=h.o6;⟨r.2.1,D.cs n.kp,n26 D n⟩),(let n:=h.o5;⟨D.cs n.kp,D.cs n.kp,n27 D n⟩)⟩
theorem n29(D:XD w o r K)(h:XN o v r own none none (some e.heap.size) (some i.heap.size) (some z.heap.size) []):ax.XU r.1 r.1 w e i z K v:=by
 unfold ax.XU;exact⟨(gC r fun _ _ q k=>let n:=h.dE q k;⟨_,rfl,D.cs n.kp,n17 D n⟩),(let ⟨u,q,n⟩:=h.put;⟨u,q,D.cs n.kp,n25 D n⟩)⟩
theorem n30(D:XD w o r K)(h:XN o v r own none none (some e.heap.size) (some i.heap.size) none []):ax.Zk r.1 r.1 w e i K v:=by
 unfold ax.Zk;exact⟨(gC r fun _ _ q k=>let n:=h.dE q k;⟨_,rfl,D.cs n.kp,n18 D n⟩),(let ⟨u,q,n⟩:=h.put;⟨u,q,D.cs n.kp,n26 D n⟩),(let n:=h.o5;⟨D.cs n.kp,D.cs n.kp,n29 D n⟩)⟩
theorem n31(D:XD w o r K)(h:XN o v r own none none (some e.heap.size) none (some z.heap.size) []):ax.Zj r.1 r.1 w r.1 e z K v:=by
 unfold ax.Zj;exact⟨(gC r fun _ _ q k=>let n:=h.dE q k;⟨_,rfl,D.cs n.kp,D.cs n.kp,n19 D n⟩),(let ⟨u,q,n⟩:=h.put;⟨u,q,D.cs n.kp,D.cs n.kp,n27 D n⟩),(let n:=h.o6;⟨r.2.1,D.cs n.kp,D.cs n.kp,n29 D n⟩)⟩
theorem n32(D:XD w o r K)(h:XN o v r own none none (some e.heap.size) none none []):ax.N32 r.1 r.1 w r.1 e K v:=by
 unfold ax.N32;exact⟨(gC r fun _ _ q k=>let n:=h.dE q k;⟨_,rfl,D.cs n.kp,D.cs n.kp,n20 D n⟩),(let ⟨u,q,n⟩:=h.put;⟨u,q,D.cs n.kp,D.cs n.kp,n28 D n⟩),(let n:=h.o6;⟨r.2.1,D.cs n.kp,D.cs n.kp,n30 D n⟩),(let n:=h.o5;⟨D.cs n.kp,D.cs n.kp,D.cs n.kp,n31 D n⟩)⟩
theorem n33(D:XD w o r K)(h:XN o v r own none none none (some i.heap.size) (some z.heap.size) []):ax.Zi r.1 r.1 w i z K v:=by
 unfold ax.Zi;exact⟨(gC r fun _ _ q k=>let n:=h.dE q k;⟨_,rfl,D.cs n.kp,n21 D n⟩),(let n:=h.uz;⟨D.cs n.kp,D.cs n.kp,n29 D n⟩)⟩
theorem n34(D:XD w o r K)(h:XN o v r own none none none (some i.heap.size) none []):ax.N34 r.1 r.1 w i K v:=by
 unfold ax.N34;exact⟨(gC r fun _ _ q k=>let n:=h.dE q k;⟨_,rfl,D.cs n.kp,n22 D n⟩),(let n:=h.uz;⟨D.cs n.kp,D.cs n.kp,n30 D n⟩),(let n:=h.o5;⟨D.cs n.kp,D.cs n.kp,n33 D n⟩)⟩
theorem n35(D:XD w o r K)(h:XN o v r own none none none none (some z.heap.size) []):ax.N35 r.1 r.1 w r.1 z K v:=by
 unfold ax.N35;exact⟨(gC r fun _ _ q k=>let n:=h.dE q k;⟨_,rfl,D.cs n.kp,D.cs n.kp,n23 D n⟩),(let n:=h.uz;⟨D.cs n.kp,D.cs n.kp,D.cs n.kp,n31 D n⟩),(let n:=h.o6;⟨r.2.1,D.cs n.kp,D.cs n.kp,n33 D n⟩)⟩
theorem n36(D:XD w o r K)(h:XN o v r own none none none none none []):ax.N36 r.1 r.1 w r.1 K v:=by
 unfold ax.N36;exact⟨(gC r fun _ _ q k=>let n:=h.dE q k;⟨_,rfl,D.cs n.kp,D.cs n.kp,n24 D n⟩),(let n:=h.uz;⟨D.cs n.kp,D.cs n.kp,D.cs n.kp,n32 D n⟩),(let n:=h.o6;⟨r.2.1,D.cs n.kp,D.cs n.kp,n34 D n⟩),(let n:=h.o5;⟨D.cs n.kp,D.cs n.kp,D.cs n.kp,n35 D n⟩)⟩
end
section
variable{K:Value->World->Prop}
theorem iX{w:World}(r:HT)(hK:∀v x,DD v (fun k=>w.heap.size<=k/\k<v.heap.size) (fun _=>False) x [⟨r,[]⟩] [-1]->Kept Nil w v->K (.pointer (some ⟨x,0,none⟩)) v):
 bC prog ax.id #[.agg r.1] w K:=by
 refine ax.of ?_;unfold ax.W;intro w_2 KM;have k2:Kept Nil w w_2:=(Kept.refl _ _).alloc _;have lE:w_2.heap[w.heap.size]? =some (.cells r.1 ag (0,0)):=aH w _;have k3:Kept Nil w KM:=k2.drew;have mK:KM.heap[w.heap.size]? =some (.cells r.1 ag (0,0)):=lE;clear_value KM;have N_3:XN KM KM r (fun _=>0) none none none none none []:=⟨Kept.refl _ _,(fun b e=>by cases e),(fun b e=>by cases e),(fun b e=>by cases e),(fun b e=>by cases e),(fun b e=>by cases e)⟩;have nf:∀ {v:World},Kept Nil KM v->∃cs:Array Value,(.agg r.1:Value)=.agg cs/\cs.size=32/\Cells v (aP w.heap.size) cs:=fun k=>⟨r.1,rfl,r.2.1,Cells.bL (k.heap mK (fun h=>h))⟩;have vX:∀ {v:World} {own:Nat->Nat} {g t mb ib cb:Nat},XN KM v r own (some g) (some t) (some mb) (some ib) (some cb) [r]->K (.pointer (some ⟨v.heap.size,0,none⟩)) (v.alloc (.cells #[.pointer (some ⟨g,0,none⟩),.pointer (some ⟨t,0,none⟩),.map (some mb),.slice (some ⟨ib,0,none⟩) 1 1,.map (some cb)] eV)):=
  fun h=>hK _ _ (h.fin k3.size) ((k3.tt h.kp).alloc _)
 have c3:r.1.size=32/\Cells KM (aP w.heap.size) r.1:=⟨r.2.1,Cells.bL mK⟩;refine⟨r.1,c3,r.1,c3,r.1,c3,?_⟩;have D:XD w KM r K:=⟨nf,vX⟩;exact n36 D N_3
end
end Go.Proofs.YtfleamccglihoaaGreatDoor
