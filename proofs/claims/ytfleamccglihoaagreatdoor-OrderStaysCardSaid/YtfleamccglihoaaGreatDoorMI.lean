import Derived.Test.YtfleamccglihoaaGreatDoorMG
import Derived.Test.YtfleamccglihoaaGreatDoorMH
import Derived.Test.YtfleamccglihoaaGreatDoorME
import Derived.Laws.AppendOwn
open Go.IntKind (i64 u64)
set_option linter.unusedVariables false
namespace Go.Proofs.YtfleamccglihoaaGreatDoor
open Go.Proofs.Tryz
open Go Go.bR
open Tr (jZ)
structure qT(D:DG)(P:List Int):Prop where
 len:P.length=D.length
 root:P[0]? =some (-1)
 up:∀(i:Nat) (p:Int) nd,0<i->P[i]? =some p->D[i]? =some nd->∃(j:Nat) (m:DN),p=(j:Int)/\j<i/\D[j]? =some m/\m.id∈nd.ps
def Ch(D:DG)(P:List Int)(a b:HT):Prop:=∃(i k:Nat) (ni nk:DN),D[i]? =some ni/\ni.id=b/\D[k]? =some nk/\nk.id=a/\jZ P i k
def jm(D:DG)(P:List Int)(s c:HT):Prop:=∃(i j:Nat) (ni m:DN),D[i]? =some ni/\ni.id=c/\P[i]? =some (j:Int)/\D[j]? =some m/\m.id=s
def Ny(D:DG)(P:List Int)(h c:HT):Prop:=dN D h c/\∃s,jm D P s c/\h≠s/\¬dN D h s
section
variable{D:DG}{P:List Int}
theorem qT.par(H:qT D P):Tr.lH P:=⟨H.root,fun i p hi hp=>by
 have dP:=(lgeS hp).1;rw [H.len]at dP;obtain⟨j,m,h1,h2,_⟩:=H.up i p _ hi hp (List.getElem?_eq_getElem dP);exact⟨j,h2,h1⟩⟩
theorem jm.par(H:qT D P){s c:HT}(h:jm D P s c):lH D s c:=by
 obtain⟨i,j,ni,m,h1,rfl,h3,h4,rfl⟩:=h;have hi:0<i:=by
  rcases Nat.eq_zero_or_pos i with rfl|h
  ·rw [H.root]at h3;simp only [Option.some.injEq]at h3;omega
  ·exact h
 obtain⟨j',m',e,_,h5,h6⟩:=H.up i _ ni hi h3 h1;have:j'=j:=by omega
 subst this;rw [h4]at h5;cases h5;exact⟨ni,List.mem_of_getElem? h1,rfl,h6⟩
theorem jm.one(W:jn D){s s' c:HT}(h:jm D P s c)(h':jm D P s' c):s=s':=by
 obtain⟨i,j,ni,m,h1,rfl,h3,h4,rfl⟩:=h;obtain⟨i',j',ni',m',qS,e,Bm,X1,rfl⟩:=h';have:=W.inj h1 qS e.symm;subst this;rw [h3]at Bm;simp only [Option.some.injEq]at Bm;have:j=j':=by omega
 subst this;rw [h4]at X1;cases X1;rfl
theorem jm.ex(H:qT D P){i:Nat}{ni:DN}(hi:0<i)(h:D[i]? =some ni):∃(j:Nat) (m:DN),j<i/\P[i]? =some (j:Int)/\D[j]? =some m/\jm D P m.id ni.id:=by
 have dP:=(lgeS h).1;obtain⟨p,hp⟩:∃p,P[i]? =some p:=⟨_,List.getElem?_eq_getElem (by rw [H.len];exact dP)⟩;obtain⟨j,m,rfl,hj,hm,_⟩:=H.up i p ni hi hp h;exact⟨j,m,hj,hp,hm,i,j,ni,m,h,rfl,hp,hm,rfl⟩
theorem Ch.refl(H:qT D P){a:HT}(h:a∈ids D):Ch D P a a:=by
 obtain⟨nd,eW,e⟩:=cP.1 h;obtain⟨i,hi⟩:=List.mem_iff_getElem?.1 eW;exact⟨i,i,nd,nd,hi,e,hi,e,.refl (by rw [H.len];exact(lgeS hi).1)⟩
theorem Ch.mem{a b:HT}(h:Ch D P a b):a∈ids D/\b∈ids D:=by
 obtain⟨i,k,ni,nk,h1,h2,h3,h4,_⟩:=h;exact⟨cP.2 ⟨nk,List.mem_of_getElem? h3,h4⟩,cP.2 ⟨ni,List.mem_of_getElem? h1,h2⟩⟩
theorem Ch.step(W:jn D){a s c:HT}(hs:jm D P s c)(h:Ch D P a s):Ch D P a c:=by
 obtain⟨i,j,ni,m,h1,rfl,h3,h4,rfl⟩:=hs;obtain⟨j',k,nj,nk,g1,g2,g3,g4,g5⟩:=h;have:=W.inj g1 h4 g2;subst this;exact⟨i,k,ni,nk,h1,rfl,g3,g4,.step h3 g5⟩
theorem Ch.yF(W:jn D)(H:qT D P){a b:HT}(h:Ch D P a b):a=b\/dN D a b:=by
 obtain⟨i,k,ni,nk,h1,rfl,h3,rfl,h5⟩:=h
 induction h5 generalizing ni with
 |refl _=>rw [h1]at h3;cases h3;exact .inl rfl
 | @step i j k hj hu ih=>
   have tn:=hu.lt;rw [H.len]at tn;obtain⟨m,hm⟩:∃m,D[j]? =some m:=⟨_,List.getElem?_eq_getElem tn⟩;have hp:lH D m.id ni.id:=jm.par H ⟨i,j,ni,m,h1,rfl,hj,hm,rfl⟩;rcases ih m hm h3 with e|e
   ·rw [e];exact .inr (.one hp)
   ·exact .inr (.more e hp)
theorem Jc(W:jn D)(H:qT D P){a b:HT}(e9:a≠b):dN D a b↔Ch D P a b\/∃c,Ny D P a c/\Ch D P c b:=by
 constructor
 ·intro h
  obtain⟨nb,Us,e⟩:=cP.1 (h.mem W).2;obtain⟨i,hb⟩:=List.mem_iff_getElem?.1 Us;clear Us;subst e
  induction i using Nat.strongRecOn generalizing nb with
  |_ i ih=>
   have hi:0<i:=by
    rcases Nat.eq_zero_or_pos i with rfl|h0
    ·exfalso
     obtain⟨x,y,mx,my,oJ,_,hy,_,e2⟩:=h.at_ W;have:=W.inj hy hb e2;omega
    ·exact h0
   obtain⟨j,m,hj,_,hm,hs⟩:=jm.ex H hi hb;by_cases e1:a=m.id
   ·exact .inl (Ch.step W hs (by rw [e1];exact Ch.refl H (cP.2 ⟨m,List.mem_of_getElem? hm,rfl⟩)))
   ·by_cases e2:dN D a m.id
    ·rcases ih j hj m hm e1 e2 with e3|⟨c,e3,e4⟩
     ·exact .inl (Ch.step W hs e3)
     ·exact .inr ⟨c,e3,Ch.step W hs e4⟩
    ·exact .inr ⟨nb.id,⟨h,m.id,hs,e1,e2⟩,Ch.refl H (cP.2 ⟨nb,List.mem_of_getElem? hb,rfl⟩)⟩
 ·rintro(h|⟨c,⟨h1,_⟩,h2⟩)
  ·exact(h.yF W H).resolve_left e9
  ·rcases h2.yF W H with e|e
   ·rw [<-e];exact h1
   ·exact h1.trans e
theorem qT.snoc(H:qT D P){nd:DN}{j:Nat}{m:DN}(hj:D[j]? =some m)(hm:m.id∈nd.ps)(jt:0<D.length):qT (D++ [nd]) (P++ [(j:Int)]) where
 len:=by simp [H.len]
 root:=by rw [List.getElem?_append_left (by rw [H.len];exact jt)];exact H.root
 up:=fun i p nd' hi hp eW=>by
  have tn:=(lgeS hj).1;by_cases h:i<D.length
  ·rw [List.getElem?_append_left (by rw [H.len];exact h)]at hp
   rw [List.getElem?_append_left h]at eW;obtain⟨j',m',e,h1,h2,h3⟩:=H.up i p nd' hi hp eW;exact⟨j',m',e,h1,by rw [List.getElem?_append_left (by omega)];exact h2,h3⟩
  ·have dP:=(lgeS eW).1
   have e:i=D.length:=by simp at dP;omega
   subst e;rw [<-H.len]at hp;simp at hp eW;subst hp eW;exact⟨j,m,rfl,tn,by rw [List.getElem?_append_left tn];exact hj,hm⟩
theorem nR(W:jn D)(H:qT D P){nd:DN}(hn:nd.id∉ids D){j:Nat}{m:DN}(hj:D[j]? =some m){s c:HT}:
 jm (D++ [nd]) (P++ [(j:Int)]) s c↔jm D P s c\/(c=nd.id/\s=m.id):=by
 have tn:=(lgeS hj).1;constructor
 ·rintro⟨i,k,ni,mk,h1,rfl,h3,h4,rfl⟩
  by_cases h:i<D.length
  ·rw [List.getElem?_append_left h]at h1
   rw [List.getElem?_append_left (by rw [H.len];exact h)]at h3;have hk:k<D.length:=by
    rcases Nat.eq_zero_or_pos i with rfl|h0
    ·rw [H.root]at h3;simp only [Option.some.injEq]at h3;omega
    ·obtain⟨k',_,e,h5,_⟩:=H.up i _ ni h0 h3 h1
     omega
   rw [List.getElem?_append_left hk]at h4;exact .inl ⟨i,k,ni,mk,h1,rfl,h3,h4,rfl⟩
  ·have dP:=(lgeS h1).1
   have e:i=D.length:=by simp at dP;omega
   subst e;have Bm:=h3;rw [<-H.len]at Bm;simp at h1 Bm;subst h1;have:k=j:=by omega
   subst this;rw [List.getElem?_append_left tn,hj]at h4;cases h4;exact .inr ⟨rfl,rfl⟩
 ·rintro(⟨i,k,ni,mk,h1,rfl,h3,h4,rfl⟩|⟨rfl,rfl⟩)
  ·have hi:=(lgeS h1).1
   have hk:=(lgeS h4).1;exact⟨i,k,ni,mk,by rw [List.getElem?_append_left hi];exact h1,rfl,by rw [List.getElem?_append_left (by rw [H.len];exact hi)];exact h3,by rw [List.getElem?_append_left hk];exact h4,rfl⟩
  ·exact⟨D.length,j,nd,m,by simp,rfl,by rw [<-H.len];simp,by rw [List.getElem?_append_left tn];exact hj,rfl⟩
theorem I2(W:jn D)(H:qT D P){nd:DN}(hn:nd.id∉ids D)(fC:∀p∈nd.ps,p∈ids D){j:Nat}{m:DN}(hj:D[j]? =some m){h c:HT}:
 Ny (D++ [nd]) (P++ [(j:Int)]) h c↔Ny D P h c\/(c=nd.id/\dN (D++ [nd]) h nd.id/\h≠m.id/\¬dN D h m.id):=by
 have hm:m.id∈ids D:=cP.2 ⟨m,List.mem_of_getElem? hj,rfl⟩;have key:∀ {s c},jm D P s c->s∈ids D/\c∈ids D:=fun hs=>(dN.one (jm.par H hs)).mem W;constructor
 ·rintro⟨h1,s,hs,h2,h3⟩
  rcases(nR W H hn hj).1 hs with hs|⟨rfl,rfl⟩
  ·obtain⟨g1,g2⟩:=key hs
   exact .inl ⟨(jh W hn g2).1 h1,s,hs,h2,fun e=>h3 ((jh W hn g1).2 e)⟩
  ·exact .inr ⟨rfl,h1,h2,fun e=>h3 ((jh W hn hm).2 e)⟩
 ·rintro(⟨h1,s,hs,h2,h3⟩|⟨rfl,h1,h2,h3⟩)
  ·obtain⟨g1,g2⟩:=key hs
   exact⟨(jh W hn g2).2 h1,s,(nR W H hn hj).2 (.inl hs),h2,fun e=>h3 ((jh W hn g1).1 e)⟩
  ·exact⟨h1,m.id,(nR W H hn hj).2 (.inr ⟨rfl,rfl⟩),h2,fun e=>h3 ((jh W hn hm).1 e)⟩
inductive Up (P:List Int):Nat->List Nat->Prop
 |root:Up P 0 [0]
 |step {i j:Nat} {l:List Nat}:P[i]? =some (j:Int)->Up P j l->Up P i (i::l)
theorem Up.ex(hP:Tr.lH P):∀i,i<P.length->∃l,Up P i l:=by
 intro i
 induction i using Nat.strongRecOn with
 |_ i ih=>
  intro hi;rcases Nat.eq_zero_or_pos i with rfl|h0
  ·exact⟨[0],.root⟩
  ·obtain⟨j,h1,h2⟩:=hP.up i _ h0 (List.getElem?_eq_getElem hi)
   obtain⟨l,hl⟩:=ih j h1 (by omega);exact⟨i::l,.step (by rw [List.getElem?_eq_getElem hi,h2]) hl⟩
theorem Up.mem(hP:Tr.lH P){i:Nat}{l:List Nat}(h:Up P i l)(hi:i<P.length){k:Nat}:k∈l↔jZ P i k:=by
 induction h with
 |root=>
  rw [List.mem_singleton];constructor
  ·rintro rfl;exact .refl hi
  ·intro h;have:=h.le hP;omega
 | @step i j l hj hu ih=>
   have tn:j<P.length:=by have:=(Tr.hU hP (Tr.dS.2 hj)).1;omega
   rw [List.mem_cons,ih tn];constructor
   ·rintro(rfl|h)
    ·exact .refl hi
    ·exact .step hj h
   ·intro h
    by_cases e:k=i
    ·exact .inl e
    ·exact .inr (h.inv (fun e'=>e e'.symm) hj)
theorem Up.one(hP:Tr.lH P){i:Nat}{l l':List Nat}(h:Up P i l)(h':Up P i l'):l=l':=by
 induction h generalizing l' with
 |root=>
  cases h' with
  |root=>rfl
  |step hj _=>rw [hP.root]at hj;simp only [Option.some.injEq]at hj;omega
 | @step i j l hj hu ih=>
   cases h' with
   |root=>rw [hP.root]at hj;simp only [Option.some.injEq]at hj;omega
   | @step _ j' l' vm H4=>
     rw [hj]at vm;simp only [Option.some.injEq]at vm;have:j=j':=by omega
     subst this;rw [ih H4]
theorem Up.head{i:Nat}{l:List Nat}(h:Up P i l):l[0]? =some i:=by cases h<;>rfl
theorem Up.len(hP:Tr.lH P){i:Nat}{l:List Nat}(h:Up P i l):l.length<=i+1:=by
 induction h with
 |root=>simp
 | @step i j l hj hu ih=>have:=(Tr.hU hP (Tr.dS.2 hj)).1;simp only [List.length_cons];omega
theorem Up.lt(hP:Tr.lH P){i:Nat}{l:List Nat}(h:Up P i l)(hi:i<P.length):∀k∈l,k<P.length:=fun k hk=>((h.mem hP hi).1 hk).Xc
end
end Go.Proofs.YtfleamccglihoaaGreatDoor
namespace Go.Proofs.YtfleamccglihoaaGreatDoor
open Go.Proofs.Tryz
open Go Go.bR Go.RowKit
structure wH(mt te:TypeId)(z:Value):Prop where
 oS:prog.underlying mt=some (.map ai te)
 zero:∀w,(zeroValue te).run prog w=.ok z w
def assoc(h:HT):List (HT×Value)->Option Value
 | []=>none
 |(x,v)::l=>if h=x then some v else assoc h l
def lF(h:HT):List (HT×Value)->Nat->Option (Nat×Value)
 | [],_=>none
 |(x,v)::l,i=>if h=x then some (i,v)else lF h l (i+1)
theorem mO(h:HT):∀(l:List (HT×Value)) (i:Nat),(lF h l i).map (·.2)=assoc h l
 | [],_=>rfl
 |(x,v)::l,i=>by
  unfold lF assoc;split
  ·rfl
  ·exact mO h l (i+1)
theorem vz{h:HT}:∀ {l:List (HT×Value)} {i j:Nat} {v:Value},lF h l i=some (j,v)->i<=j/\l[j-i]? =some (h,v)/\∀(x:HT) (u:Value),assoc x (l.set (j-i) (h,u))=if x=h then some u else assoc x l
 | [],i,j,v,e=>by simp [lF]at e
 |(x,u)::l,i,j,v,e=>by
  unfold lF at e;split at e
  ·rename_i hx
   cases e;subst hx;refine⟨Nat.le_refl _,by rw [Nat.sub_self];rfl,fun x u=>?_⟩;rw [Nat.sub_self];simp only [List.set_cons_zero,assoc];by_cases hx:x=h<;>simp [hx]
  ·rename_i hx
   obtain⟨h1,h2,h3⟩:=vz e;have e1:j-i=(j-(i+1))+1:=by omega
   refine⟨by omega,by rw [e1];exact h2,fun y u'=>?_⟩;rw [e1];simp only [List.set_cons_succ,assoc,h3];by_cases hy:y=h
   ·subst hy;simp [hx]
   ·simp [hy]
theorem vO{h:HT}{v:Value}:∀ {l:List (HT×Value)},assoc h l=none->∀x,assoc x (l++ [(h,v)])=if x=h then some v else assoc x l
 | [],_,x=>by simp [assoc]
 |(y,u)::l,e,x=>by
  unfold assoc at e;split at e
  ·cases e
  ·rename_i hy
   have ih:=vO (v:=v) e x;simp only [List.cons_append,assoc,ih];by_cases hx:x=y
   ·subst hx;simp [Ne.symm hy]
   ·simp [hx]
def mZ(es:List MapEntry)(l:List (HT×Value)):Prop:=match es,l with
 | [],[]=>True
 |e::es,p::l=>(e.key=.agg p.1.1/\e.val=p.2)/\mZ es l
 |_,_=>False
theorem mZ.snoc:∀ {es:List MapEntry} {l:List (HT×Value)} {e:MapEntry} {p:HT×Value},mZ es l->e.key=.agg p.1.1->e.val=p.2->mZ (es++ [e]) (l++ [p])
 | [],[],_,_,_,h1,h2=>⟨⟨h1,h2⟩,trivial⟩
 |_::_,_::_,_,_,he,h1,h2=>⟨he.1,mZ.snoc he.2 h1 h2⟩
 | [],_::_,_,_,he,_,_=>he.elim
 |_::_,[],_,_,he,_,_=>he.elim
theorem mZ.get:∀ {es:List MapEntry} {l:List (HT×Value)} {j:Nat} {p:HT×Value},mZ es l->l[j]? =some p->∃e,es[j]? =some e/\e.key=.agg p.1.1/\e.val=p.2
 | [],[],_,_,_,h=>by simp at h
 |e::_,_::_,0,_,he,h=>by
  simp only [List.getElem?_cons_zero,Option.some.injEq]at h;subst h;exact⟨e,rfl,he.1⟩
 |_::_,_::_,j+1,_,he,h=>by
  obtain⟨e,h1,h2⟩:=mZ.get he.2 (j:=j) (by simpa using h);exact⟨e,by simpa using h1,h2⟩
 | [],_::_,_,_,he,_=>he.elim
 |_::_,[],_,_,he,_=>he.elim
theorem mZ.set:∀ {es:List MapEntry} {l:List (HT×Value)} {j:Nat} {p:HT×Value} {f:MapEntry->MapEntry},mZ es l->(∀e,(f e).key=.agg p.1.1/\(f e).val=p.2)->mZ (es.modify j f) (l.set j p)
 | [],[],_,_,_,he,_=>by simpa using he
 |_::_,_::_,0,_,_,he,hf=>⟨hf _,he.2⟩
 |_::_,_::_,j+1,_,_,he,hf=>by
  simp only [List.modify_succ_cons,List.set_cons_succ];exact⟨he.1,mZ.set he.2 hf⟩
 | [],_::_,_,_,_,he,_=>he.elim
 |_::_,[],_,_,_,he,_=>he.elim
theorem mZ.len:∀ {es:List MapEntry} {l:List (HT×Value)},mZ es l->es.length=l.length
 | [],[],_=>rfl
 |_::_,_::_,he=>by simp [mZ.len he.2]
 | [],_::_,he=>he.elim
 |_::_,[],he=>he.elim
section
variable{w:World}
theorem qX(h:HT)(w:World):∀(es:List MapEntry) (l:List (HT×Value)) (i:Nat),mZ es l->
 (Instr.findAsking ai (.agg h.1) es i).run prog w=.ok (lF h l i) w
 | [],[],i,_=>by simp [Instr.findAsking,lF]
 |e::es,(x,v)::l,i,he=>by
  have hq:=uy h x w;have ih:=qX h w es l (i+1) he.2;simp only [Instr.findAsking,he.1.1,Sem.run_bind,hq,Result.andThen_ok];by_cases hx:h=x
  ·simp [hx,lF,he.1.2]
  ·simp [hx,lF,ih]
 | [],_::_,_,he=>he.elim
 |_::_,[],_,he=>he.elim
theorem lJ(h:HT)(w:World){es:List MapEntry}{l:List (HT×Value)}(he:mZ es l):
 (Instr.findKey ai (.agg h.1) es).run prog w=.ok (lF h l 0) w:=by
 have h1:=qX h w es l 0 he;simp only [Instr.findKey,Sem.run_bind,run_underlying JV,Result.andThen_ok];cases es with
 |nil=>
  cases l with
  |nil=>simp [Instr.findNow,lF]
  |cons x l=>exact he.elim
 |cons e es=>
  have:Instr.findNow (.array 32 iK) (.agg h.1) (e::es) 0=none:=by
   simp only [Instr.findNow,Instr.sameNow]
  rw [this];exact h1
theorem EL(h:HT):Instr.sameBits 10000 (.agg h.1) (.agg h.1)=true:=by
 show Instr.sameBits (9999+1) (.agg h.1) (.agg h.1)=true
 rw [Instr.sameBits];simp only [beq_self_eq_true,Bool.true_and,List.all_eq_true];rintro⟨x,y⟩ oJ;have hxe:x=y:=by
  obtain⟨i,hi⟩:=List.mem_iff_getElem?.1 oJ;rw [List.getElem?_zip_eq_some]at hi;have:=hi.1.symm.trans hi.2;simpa using this
 subst hxe;have hm:=(List.of_mem_zip oJ).1;obtain⟨n,rfl,_⟩:=h.2.2 x hm;simp [Instr.sameBits]
structure fG(w:World)(m:Nat)(f:HT->Option Value):Prop where
 ex:∃es clock l,w.heap[m]? =some (.map es clock)/\mZ es.toList l/\(∀x,assoc x l=f x)/\(∀e∈es.toList,e.born<clock)/\(es.toList.map (·.born)).Nodup/\(l.map (·.1)).Nodup
theorem fG.aG{S:Nat->Prop}{w w':World}{m:Nat}{f:HT->Option Value}(h:fG w m f)(hk:Kept S w w')(hn:¬S m):fG w' m f:=by
 obtain⟨es,clock,l,h1,h2⟩:=h.ex;exact⟨es,clock,l,hk.heap h1 hn,h2⟩
theorem fG.same{w w':World}{m:Nat}{f:HT->Option Value}(h:fG w m f)(hk:Kept Nil w w'):fG w' m f:=h.aG hk (fun h=>h)
theorem fG.lt{w:World}{m:Nat}{f:HT->Option Value}(h:fG w m f):m<w.heap.size:=by
 obtain⟨es,clock,l,h1,_⟩:=h.ex;exact aT h1
theorem fG.new(w:World):fG (w.alloc (.map #[] 0)) w.heap.size (fun _=>none):=⟨#[],0,[],aI w _,trivial,fun _=>rfl,by simp,by simp,by simp⟩
theorem fG.look{mt te:TypeId}{z:Value}(T:wH mt te z){m:Nat}{f:HT->Option Value}(hm:fG w m f)(h:HT):
 (Instr.lookup mt (.map (some m)) (.agg h.1) false).run prog w=.ok ((f h).getD z) w:=by
 obtain⟨es,clock,l,h1,h2,h3,_⟩:=hm.ex;have h4:=lJ h w h2;have h5:=mO h l 0;rw [h3]at h5;simp only [Instr.lookup,Sem.run_bind,run_underlying T.oS,pG h1,Result.andThen_ok,Sem.run_pure,iX,h4];cases hp:lF h l 0 with
 |none=>rw [hp]at h5;simp [<-h5,T.zero]
 |some p=>rw [hp]at h5;simp [<-h5]
theorem fG.put{mt te:TypeId}{z:Value}(T:wH mt te z){m:Nat}{f:HT->Option Value}(hm:fG w m f)(h:HT)(v:Value):
 ∃w',(Instr.mapUpdate mt (.map (some m)) (.agg h.1) v).run prog w=.ok () w'/\fG w' m (fun x=>if x=h then some v else f x)/\Kept (· =m) w w':=by
 obtain⟨es,clock,l,h1,h2,h3,hb,hd,hk⟩:=hm.ex;have h4:=lJ h w h2;have kept:∀o,Kept (· =m) w {w with heap:=w.heap.setIfInBounds m o}:=fun o=>⟨rfl,rfl,rfl,by simp,fun k _ hk=>by simp [Ne.symm hk]⟩;cases hp:lF h l 0 with
 |none=>
  rw [hp]at h4;have h5:=mO h l 0;rw [hp]at h5;refine⟨{w with heap:=w.heap.setIfInBounds m (.map (es.push {key:=.agg h.1,val:=v,born:=clock}) (clock+1))},?_,⟨es.push {key:=.agg h.1,val:=v,born:=clock},clock+1,l++ [(h,v)],?_,?_,?_,?_,?_,?_⟩,kept _⟩
  ·simp only [Instr.mapUpdate,Sem.run_bind,run_underlying T.oS,pG h1,Result.andThen_ok,iX,h4,BF _ h1]
  ·simp [aT h1]
  ·have:=h2.snoc (e:= {key:=.agg h.1,val:=v,born:=clock}) (p:=(h,v)) rfl rfl
   simpa using this
  ·intro x
   rw [vO h5.symm,h3]
  ·intro e he
   rw [Array.toList_push,List.mem_append,List.mem_singleton]at he;rcases he with he|rfl
   ·have:=hb e he;omega
   ·exact Nat.lt_succ_self _
  ·rw [Array.toList_push,List.map_append,List.nodup_append]
   refine⟨hd,by simp,fun a ha b wq e=>?_⟩;simp only [List.map_cons,List.map_nil,List.mem_singleton]at wq;obtain⟨e',Lo,rfl⟩:=List.mem_map.1 ha;have:=hb e' Lo;omega
  ·rw [List.map_append,List.nodup_append]
   refine⟨hk,by simp,fun a ha b wq e=>?_⟩;simp only [List.map_cons,List.map_nil,List.mem_singleton]at wq;subst wq;subst e;have key:∀l:List (HT×Value),a∈l.map (·.1)->assoc a l≠none:=fun l=>by
    induction l with
    |nil=>simp
    |cons p l ih=>
     obtain⟨y,u⟩:=p;intro hm;unfold assoc;split
     ·simp
     ·rename_i hy
      simp only [List.map_cons,List.mem_cons]at hm;exact ih (hm.resolve_left hy)
   exact key l ha h5.symm
 |some p=>
  obtain⟨j,u⟩:=p;rw [hp]at h4;obtain⟨_,h6,h7⟩:=vz hp;rw [Nat.sub_zero]at h6 h7;obtain⟨e,he1,Rz,_⟩:=h2.get h6;have hes:es[j]? =some e:=by simpa using he1
  refine⟨{w with heap:=w.heap.setIfInBounds m (.map (es.modify j fun e=> {e with key:=.agg h.1,val:=v}) clock)},?_,⟨es.modify j fun e=> {e with key:=.agg h.1,val:=v},clock,l.set j (h,v),?_,?_,?_,?_,?_,?_⟩,kept _⟩
  ·simp only [Instr.mapUpdate,Sem.run_bind,run_underlying T.oS,pG h1,Result.andThen_ok,iX,h4,Instr.keyThatStays,hes,Option.map_some,Option.getD_some,Rz,EL,if_true,Sem.run_pure,BF _ h1]
  ·simp [aT h1]
  ·rw [Array.toList_modify]
   exact h2.set (p:=(h,v)) fun e=>⟨rfl,rfl⟩
  ·intro x
   rw [h7,h3]
  ·intro x hx
   rw [Array.toList_modify]at hx;obtain⟨i,hi⟩:=List.mem_iff_getElem?.1 hx;rw [List.getElem?_modify]at hi;cases hg:es.toList[i]? with
   |none=>rw [hg]at hi;simp at hi
   |some y=>
    rw [hg]at hi;have:=hb y (List.mem_of_getElem? hg);by_cases pX:j=i
    ·simp [pX]at hi
     rw [<-hi];exact this
    ·simp [pX]at hi
     rw [<-hi];exact this
  ·have:(es.modify j fun e=> {e with key:=.agg h.1,val:=v}).toList.map (·.born)=es.toList.map (·.born):=by
    rw [Array.toList_modify];apply List.ext_getElem?;intro i;rw [List.getElem?_map,List.getElem?_map,List.getElem?_modify];cases es.toList[i]? with
    |none=>simp
    |some y=>by_cases pX:j=i<;>simp [pX]
   rw [this];exact hd
  ·have:(l.set j (h,v)).map (·.1)=l.map (·.1):=by
    apply List.ext_getElem?;intro i;rw [List.getElem?_map,List.getElem?_map,List.getElem?_set];by_cases pX:j=i
    ·subst pX
     have cJ:=(lgeS h6).1;have gu:=(lgeS h6).2;simp [cJ,gu]
    ·simp [pX]
   rw [this];exact hk
end
end Go.Proofs.YtfleamccglihoaaGreatDoor
namespace Go.Proofs.YtfleamccglihoaaGreatDoor
open Go.Proofs.Tryz
open Go Go.bR Go.RowKit
open Tr (jZ)
theorem tW{te:TypeId}{z:Value}(h:(prog.info? te).bind (·.zero)=some z)(w:World):(zeroValue te).run prog w=.ok z w:=by
 cases hi:prog.info? te with
 |none=>rw [hi]at h;cases h
 |some i=>
  rw [hi]at h;have hz:i.zero=some z:=h;simp [zeroValue,typeInfo,hi,hz]
theorem x6:wH gF aC (.slice none 0 0):=⟨by kernel_rfl,tW (by kernel_rfl)⟩
theorem Hn:wH lv sQ (.agg #[.bool false]):=⟨by kernel_rfl,tW (by kernel_rfl)⟩
structure XM where
 g:Nat
 t:Nat
 mb:Nat
 ib:Nat
 ic:Nat
 cb:Nat
 T:List Tr.Nd
 d:Int
 SG:Nat->Prop
 ST:Nat->Prop
 SO:Nat->Prop
def XM.own(m:XM)(x k:Nat):Prop:=k=x\/k=m.mb\/k=m.ib\/k=m.cb
def XM.kz(m:XM)(x k:Nat):Prop:=m.SG k\/m.ST k\/m.SO k\/m.own x k
def oI(w:World)(SO:Nat->Prop)(N:Nat)(v:Option Value)(l:List HT):Prop:=
 (v=none/\l= [])\/∃(A:Option Addr) (n c:Nat),v=some (.slice A n c)/\n<=c/\HS w A n l/\n<=N/\∀a,A=some a->SO a.block
structure XV(w:World)(F:Nat->Prop)(x:Nat)(D:DG)(P:List Int)(m:XM):Prop where
 top:w.heap[x]? =some (.cells #[.pointer (some ⟨m.g,0,none⟩),.pointer (some ⟨m.t,0,none⟩),.map (some m.mb),.slice (some ⟨m.ib,0,none⟩) D.length m.ic,.map (some m.cb)] eJ (0,0))
 G:C5 w m.SG F m.g D
 T:Tr.oT w m.ST m.t m.T m.d
 LF:Tr.wI m.T
 bS:Tr.bS m.T=P
 dl:0<=m.d/\m.d<=D.length
 at_:IsMap w m.mb (ids D)
 row:bI w 0 (some ⟨m.ib,0,none⟩) D.length m.ic (ids D)
 Yi:∃f,fG w m.cb f/\∀h,∃l,oI w m.SO D.length (f h) l/\∀c,c∈l↔Ny D P h c
 iw:qT D P
 W:jn D
 gt:∀k,m.SG k->¬m.ST k/\¬m.SO k
 to:∀k,m.ST k->¬m.SO k
 fd:∀k,F k->¬m.ST k/\¬m.SO k
 od:∀k,m.own x k->¬m.SG k/\¬m.ST k/\¬m.SO k/\¬F k
 ne:x≠m.mb/\x≠m.ib/\x≠m.cb/\m.mb≠m.ib/\m.mb≠m.cb/\m.ib≠m.cb
 low:∀k,m.kz x k\/F k->k<w.heap.size
def C1(w:World)(S F:Nat->Prop)(x:Nat)(D:DG)(P:List Int):Prop:=∃m,XV w F x D P m/\∀k,m.kz x k->S k
section
variable{w w':World}{F S:Nat->Prop}{x:Nat}{D:DG}{P:List Int}{m:XM}{K:Value->World->Prop}
theorem oI.aG{S0 SO:Nat->Prop}{N:Nat}{v:Option Value}{l:List HT}(h:oI w SO N v l)(hk:Kept S0 w w')(hn:∀k,SO k->¬S0 k):oI w' SO N v l:=by
 rcases h with h|⟨A,n,c,h1,h2,h3,h4,h5⟩
 ·exact .inl h
 ·exact .inr ⟨A,n,c,h1,h2,h3.aG hk (fun a ha=>hn _ (h5 a ha)),h4,h5⟩
theorem XV.aG{S0:Nat->Prop}(h:XV w F x D P m)(hk:Kept S0 w w')(hS:∀k,m.kz x k->¬S0 k)(hF:∀k,F k->¬S0 k):XV w' F x D P m where
 top:=hk.heap h.top (hS _ (.inr (.inr (.inr (.inl rfl)))))
 G:=h.G.aG hk (fun k e=>hS k (.inl e)) hF
 T:=h.T.aG hk (fun k e=>hS k (.inr (.inl e)))
 LF:=h.LF
 bS:=h.bS
 dl:=h.dl
 at_:=h.at_.aG hk (hS _ (.inr (.inr (.inr (.inr (.inl rfl))))))
 row:=Row.aG h.row hk (fun k e=>by cases e;exact hS _ (.inr (.inr (.inr (.inr (.inr (.inl rfl)))))))
 Yi:=by
  obtain⟨f,h1,h2⟩:=h.Yi;refine⟨f,h1.aG hk (hS _ (.inr (.inr (.inr (.inr (.inr (.inr rfl))))))),fun y=>?_⟩;obtain⟨l,h3,h4⟩:=h2 y;exact⟨l,h3.aG hk (fun k e=>hS k (.inr (.inr (.inl e)))),h4⟩
 iw:=h.iw
 W:=h.W
 gt:=h.gt
 to:=h.to
 fd:=h.fd
 od:=h.od
 ne:=h.ne
 low:=fun k e=>Nat.lt_of_lt_of_le (h.low k e) hk.size
theorem XV.same(h:XV w F x D P m)(hk:Kept Nil w w'):XV w' F x D P m:=h.aG hk (fun _ _ h=>h) (fun _ _ h=>h)
theorem C1.aG{S0:Nat->Prop}(h:C1 w S F x D P)(hk:Kept S0 w w')(hS:∀k,S k->¬S0 k)(hF:∀k,F k->¬S0 k):C1 w' S F x D P:=
 let ⟨m,h1,h2⟩:=h;⟨m,h1.aG hk (fun k e=>hS k (h2 k e)) hF,h2⟩
theorem C1.same(h:C1 w S F x D P)(hk:Kept Nil w w'):C1 w' S F x D P:=h.aG hk (fun _ _ h=>h) (fun _ _ h=>h)
theorem XV.c0(h:XV w F x D P m):w.cell? ((⟨x,0,none⟩:Addr).add 0)=some (.pointer (some ⟨m.g,0,none⟩)):=by rw [bg,aA h.top];rfl
theorem XV.c1(h:XV w F x D P m):w.cell? ((⟨x,0,none⟩:Addr).add 1)=some (.pointer (some ⟨m.t,0,none⟩)):=by rw [bg,aA h.top];rfl
theorem XV.c2(h:XV w F x D P m):w.cell? ((⟨x,0,none⟩:Addr).add 2)=some (.map (some m.mb)):=by rw [bg,aA h.top];rfl
theorem XV.c3(h:XV w F x D P m):w.cell? ((⟨x,0,none⟩:Addr).add 3)=some (.slice (some ⟨m.ib,0,none⟩) D.length m.ic):=by rw [bg,aA h.top];rfl
theorem XV.c4(h:XV w F x D P m):w.cell? ((⟨x,0,none⟩:Addr).add 4)=some (.map (some m.cb)):=by rw [bg,aA h.top];rfl
theorem XV.NX(h:XV w F x D P m):m.T.length=D.length:=by
 have:=Tr.eV m.T;rw [h.bS,h.iw.len]at this;exact this.symm
theorem XV.oS(h:XV w F x D P m){i k:Nat}{id kd:Tr.Nd}(hi:m.T[i]? =some id)(hk:m.T[k]? =some kd):decide (kd.lo<=id.lo/\id.hi<=kd.hi)=true↔jZ P i k:=by
 rw [decide_eq_true_iff,<-h.bS];exact h.LF.under hi hk
theorem D0(a b:HT):a.1.toList++(b.1.toList++ [])=cX [a,b]:=by simp [cX]
theorem sZ(h:XV w F x D P m)(hK:K (.bool true) w):bk prog e8.id #[.pointer (some ⟨x,0,none⟩)] w K:=
 e8.of (Split.yes rfl ⟨_,h.c0,hK⟩)
theorem yy{xb:Nat}(h:XV w F x D P m)(hg:w.heap[xb]? =some (.cells #[.pointer (some ⟨x,0,none⟩)] fV (0,0))){A:Option Addr}{n cx:Nat}{l:List HT}(hl:HS w A n l)(hn:n<=400000)
 (hK:∀w' (b:Bool),(b=true↔∃p∈l,p∉ids D)->Kept Nil w w'->K (.bool b) w'):
 bk prog dF.id #[.slice A n cx,.func (.func dw.id) #[] #[.pointer (some ⟨xb,0,none⟩)]] w K:=by
 have hlen:=hl.len;refine b0.of (aq.of ?_);refine aq.b9 (I:=fun s w'=>∃i:Nat,s=(0,(i:Int))/\i<=n/\(∀p∈l.take i,p∈ids D)/\Kept Nil w w') (μ:=fun s _=>((n:Int)-s.2).toNat) (s:=(0,0)) ⟨0,rfl,Nat.zero_le _,by simp,Kept.refl _ _⟩ ?_;rintro s w' ⟨i,rfl,hi,cU,kw⟩;refine Split.dec (fun jx=>?_) (fun gu=>?_)
 ·simp only at jx
  have dP:i<n:=by omega
  obtain⟨y,hy⟩:∃y,l[i]? =some y:=⟨_,List.getElem?_eq_getElem (by omega)⟩;refine(hl.same kw).load (i:=(i:Int)) (by omega) hy ?_;refine dw.of ?_;unfold dw.W;intro w3 w4;have k3:Kept Nil w' w3:=(Kept.refl _ _).alloc _;have nh:w3.heap[w'.heap.size]? =some (.cells y.1 ai (0,0)):=aI w' _;have k4:Kept Nil w3 w4:=(Kept.refl _ _).drew;clear_value w4;have qJ:=k4.heap nh (fun h=>h);have Hv:=(kw.tt k3).tt k4;obtain⟨bl,c,mb,M,G⟩:=(h.same Hv).G;refine⟨some ⟨x,0,none⟩,by rw [aA (Hv.heap hg (fun h=>h))];rfl,_,(h.same Hv).c0,y.1,⟨y.2.1,Cells.bE qJ⟩,uh G y fun w7 k7=>⟨_,rfl,_,rfl,?_⟩⟩;have BT:=Hv.tt k7;by_cases hm:y∈ids D
  ·refine Split.no (by rw [decide_eq_true hm];rfl) ?_
   simp only;rw [dt (n:=(i:Int)) (by omega) (by omega)];refine⟨(0,(i:Int)+1),rfl,⟨i+1,rfl,dP,fun p hp=>?_,BT⟩,by simp only;omega⟩;rcases(bJ hy).1 hp with hp|rfl
   ·exact cU p hp
   ·exact hm
  ·refine Split.yes (by rw [decide_eq_false hm];rfl) ?_
   refine⟨(i:Int),rfl,?_⟩;exact hK w7 _ ⟨fun _=>⟨y,List.mem_of_getElem? hy,hm⟩,fun _=>decide_eq_true (by omega)⟩ BT
 ·simp only at gu
  rw [aO,aq.df];rw [List.take_of_length_le (by omega)]at cU;exact⟨-1,rfl,hK w' _ ⟨fun h=>absurd (of_decide_eq_true h) (by omega),fun⟨p,hp,hn⟩=>absurd (cU p hp) hn⟩ kw⟩
theorem pT(h:XV w F x D P m){A:Option Addr}{n cx:Nat}{l:List HT}(hl:HS w A n l)(hn:n<=400000)(hK:∀w',Kept Nil w w'->K (.bool (decide (∀p∈l,p∈ids D))) w'):
 bk prog fu.id #[.pointer (some ⟨x,0,none⟩),.slice A n cx] w K:=by
 refine fu.of ?_;unfold fu.W;intro w3;have k3:Kept Nil w w3:=(Kept.refl _ _).alloc _;have nh:w3.heap[w.heap.size]? =some (.cells #[.pointer (some ⟨x,0,none⟩)] fV (0,0)):=aI w _;clear_value w3;refine⟨_,by rw [aA nh];rfl,sZ (h.same k3) ⟨true,rfl,Split.yes rfl ?_⟩⟩;refine yy (h.same k3) nh (hl.same k3) hn fun w9 b hb k9=>⟨b,rfl,?_⟩;have:(!b)=decide (∀p∈l,p∈ids D):=by
  rw [Bool.eq_iff_iff,decide_eq_true_iff,Bool.not_eq_true',<-Bool.not_eq_true,hb];constructor
  ·exact fun hn p hp=>Classical.byContradiction fun hc=>hn ⟨p,hp,hc⟩
  ·rintro ha ⟨p,hp,hc⟩;exact hc (ha p hp)
 rw [this];exact hK w9 (k3.tt k9)
theorem tc(h:XV w F x D P m)(a b:HT)(hK:∀w' (r:Bool),(r=true↔Ch D P a b)->Kept Nil w w'->K (.bool r) w'):
 bk prog dY.id #[.pointer (some ⟨x,0,none⟩),.agg a.1,.agg b.1] w K:=by
 refine dY.of ?_;unfold dY.W;intro w4 w5 w6;have k4:Kept Nil w w4:=(Kept.refl _ _).alloc _;have Ar:w4.heap[w.heap.size]? =some (.cells a.1 ai (0,0)):=aI w _;have k5:Kept Nil w4 w5:=(Kept.refl _ _).alloc _;have oE:w5.heap[w4.heap.size]? =some (.cells b.1 ai (0,0)):=aI w4 _;have k6:Kept Nil w5 w6:=(Kept.refl _ _).drew;clear_value w6;have wu:=(k5.tt k6).heap Ar (fun h=>h);have qh:=k6.heap oE (fun h=>h);have qE:=(k4.tt k5).tt k6;refine⟨a.1,⟨a.2.1,Cells.bE wu⟩,b.1,⟨b.2.1,Cells.bE qh⟩,a.2.1,b.2.1,?_⟩;intro w9;have k9:Kept Nil w6 w9:=(Kept.refl _ _).alloc _;have hx9:HS w9 (some ⟨w6.heap.size,0,none⟩) 2 [a,b]:=HS.lay (l:= [a,b]) (t:=ai) (by rw [<-D0 a b];exact aI w6 _);clear_value w9;have Fv:=qE.tt k9;refine pT (h.same Fv) hx9 (by omega) fun qi DF=>⟨_,rfl,?_⟩;have OT:=Fv.tt DF;have No:=h.same OT;by_cases cU:∀p∈ [a,b],p∈ids D
 ·refine Split.yes (decide_eq_true cU) ?_
  obtain⟨na,K8,ea⟩:=cP.1 (cU a (by simp));obtain⟨nb,Us,eb⟩:=cP.1 (cU b (by simp));obtain⟨k,hk⟩:=List.mem_iff_getElem?.1 K8;obtain⟨i,hi⟩:=List.mem_iff_getElem?.1 Us;have Bj:=(lgeS hk).1;have dP:=(lgeS hi).1;have Z0:=h.NX;obtain⟨kd,UQ⟩:=Tr.fQ (T:=m.T) (i:=k) (by omega);obtain⟨nd,eW⟩:=Tr.fQ (T:=m.T) (i:=i) (by omega);have OF:=k9.tt DF;have l1:=No.at_.xe b;have l2:=No.at_.xe a;rw [<-eb,h.W.pos_eq hi]at l1;rw [<-ea,h.W.pos_eq hk]at l2;rw [eb]at l1;rw [ea]at l2;refine⟨_,No.c1,_,No.c2,b.1,⟨b.2.1,Cells.bE (OF.heap qh (fun h=>h))⟩,_,l1,_,No.c2,a.1,⟨a.2.1,Cells.bE (OF.heap wu (fun h=>h))⟩,_,l2,?_⟩;refine Tr.Bx No.T eW UQ fun lQ qp=>⟨_,rfl,hK lQ _ ?_ (OT.tt qp)⟩;rw [h.oS eW UQ];constructor
  ·exact fun hu=>⟨i,k,nb,na,hi,eb,hk,ea,hu⟩
  ·rintro⟨i',k',ni,nk,h1,h2,h3,h4,h5⟩
   have e1:=h.W.inj h1 hi (by rw [h2,eb]);have e2:=h.W.inj h3 hk (by rw [h4,ea]);rw [<-e1,<-e2];exact h5
 ·refine Split.no (decide_eq_false cU) (hK qi false ⟨(fun e=>by cases e),fun e=>absurd (fun p hp=>?_) cU⟩ OT)
  simp only [List.mem_cons,List.not_mem_nil,or_false]at hp;rcases hp with rfl|rfl
  ·exact e.mem.1
  ·exact e.mem.2
theorem vE{xb bb:Nat}{b:HT}(h:XV w F x D P m)(hg:w.heap[xb]? =some (.cells #[.pointer (some ⟨x,0,none⟩)] fV (0,0)))(hb:w.heap[bb]? =some (.cells b.1 ai (0,0))){A:Option Addr}{n cx:Nat}{l:List HT}(hl:HS w A n l)(hn:n<=400000)
 (hK:∀w' (r:Bool),(r=true↔∃c∈l,Ch D P c b)->Kept Nil w w'->K (.bool r) w'):
 bk prog dF.id #[.slice A n cx,.func (.func cK.id) #[] #[.pointer (some ⟨xb,0,none⟩),.pointer (some ⟨bb,0,none⟩)]] w K:=by
 have hlen:=hl.len;refine bV.of (al.of ?_);refine al.b9 (I:=fun s w'=>∃i:Nat,s=(0,(i:Int))/\i<=n/\(∀p∈l.take i,¬Ch D P p b)/\Kept Nil w w') (μ:=fun s _=>((n:Int)-s.2).toNat) (s:=(0,0)) ⟨0,rfl,Nat.zero_le _,by simp,Kept.refl _ _⟩ ?_;rintro s w' ⟨i,rfl,hi,cU,kw⟩;refine Split.dec (fun jx=>?_) (fun gu=>?_)
 ·simp only at jx
  have dP:i<n:=by omega
  obtain⟨y,hy⟩:∃y,l[i]? =some y:=⟨_,List.getElem?_eq_getElem (by omega)⟩;refine(hl.same kw).load (i:=(i:Int)) (by omega) hy ?_;refine cK.of ?_;unfold cK.W;intro w4;have k4:Kept Nil w' w4:=(Kept.refl _ _).alloc _;have qJ:w4.heap[w'.heap.size]? =some (.cells y.1 ai (0,0)):=aI w' _;clear_value w4;have Hv:=kw.tt k4;refine⟨some ⟨x,0,none⟩,by rw [aA (Hv.heap hg (fun h=>h))];rfl,y.1,⟨y.2.1,Cells.bE qJ⟩,b.1,⟨b.2.1,Cells.bE (Hv.heap hb (fun h=>h))⟩,tc (h.same Hv) y b fun w7 r hr k7=>⟨r,rfl,r,rfl,?_⟩⟩;have BT:=Hv.tt k7;cases r with
  |false=>
   refine Split.no rfl ?_;simp only;rw [dt (n:=(i:Int)) (by omega) (by omega)];refine⟨(0,(i:Int)+1),rfl,⟨i+1,rfl,dP,fun p hp hc=>?_,BT⟩,by simp only;omega⟩;rcases(bJ hy).1 hp with hp|rfl
   ·exact cU p hp hc
   ·cases hr.2 hc
  |true=>
   refine Split.yes rfl ⟨(i:Int),rfl,?_⟩;exact hK w7 _ ⟨fun _=>⟨y,List.mem_of_getElem? hy,hr.1 rfl⟩,fun _=>decide_eq_true (by omega)⟩ BT
 ·simp only at gu
  rw [aO,al.df];rw [List.take_of_length_le (by omega)]at cU;exact⟨-1,rfl,hK w' _ ⟨fun h=>absurd (of_decide_eq_true h) (by omega),fun⟨p,hp,hn⟩=>absurd hn (cU p hp)⟩ kw⟩
theorem lL(h:XV w F x D P m)(hD:D.length<=5000)(a b:HT)(hK:∀w' (r:Bool),(r=true↔dN D a b)->Kept Nil w w'->K (.bool r) w'):
 bk prog dK.id #[.pointer (some ⟨x,0,none⟩),.agg a.1,.agg b.1] w K:=by
 refine dK.of ?_;unfold dK.W;intro w4 w5 w6;have k4:Kept Nil w w4:=(Kept.refl _ _).alloc _;have TB:w4.heap[w.heap.size]? =some (.cells #[.pointer (some ⟨x,0,none⟩)] fV (0,0)):=aI w _;have k5:Kept Nil w4 w5:=(Kept.refl _ _).alloc _;have Lv:w5.heap[w4.heap.size]? =some (.cells a.1 ai (0,0)):=aI w4 _;have k6:Kept Nil w5 w6:=(Kept.refl _ _).alloc _;have qh:w6.heap[w5.heap.size]? =some (.cells b.1 ai (0,0)):=aI w5 _;clear_value w6;have wu:=k6.heap Lv (fun h=>h);have HY:=(k5.tt k6).heap TB (fun h=>h);have qE:=(k4.tt k5).tt k6;refine⟨_,by rw [aA HY];rfl,a.1,⟨a.2.1,Cells.bE wu⟩,b.1,⟨b.2.1,Cells.bE qh⟩,a.2.1,b.2.1,?_⟩;intro w10;have mG:Kept Nil w6 w10:=(Kept.refl _ _).alloc _;have KX:HS w10 (some ⟨w6.heap.size,0,none⟩) 2 [a,b]:=HS.lay (l:= [a,b]) (t:=ai) (by rw [<-D0 a b];exact aI w6 _);clear_value w10;have Ca:=qE.tt mG;refine pT (h.same Ca) KX (by omega) fun lR vf=>⟨_,rfl,?_⟩;have sy:=Ca.tt vf;have BX:=mG.tt vf;by_cases cU:∀p∈ [a,b],p∈ids D
 ·refine Split.no (by rw [decide_eq_true cU];rfl) ?_
  have acb:=BX.heap wu (fun h=>h);have ab5:=BX.heap qh (fun h=>h);refine⟨a.1,⟨a.2.1,Cells.bE acb⟩,b.1,⟨b.2.1,Cells.bE ab5⟩,⟨a.2.ints,b.2.ints⟩,?_⟩;rw [dH];refine Split.dec (fun he=>?_) (fun he=>?_)
  ·subst he
   exact hK lR false ⟨(fun e=>by cases e),fun e=>absurd e (dN.irrefl h.W a)⟩ sy
  ·intro jw
   have mT:Kept Nil lR jw:=(Kept.refl _ _).drew;clear_value jw;have Tq:=sy.tt mT;have KI:=BX.tt mT;refine⟨_,by rw [aA (KI.heap HY (fun h=>h))];rfl,a.1,⟨a.2.1,Cells.bE (KI.heap wu (fun h=>h))⟩,b.1,⟨b.2.1,Cells.bE (KI.heap qh (fun h=>h))⟩,?_⟩;refine tc (h.same Tq) a b fun yY r hr HG=>⟨r,rfl,?_⟩;have OQ:=Tq.tt HG;have KH:=KI.tt HG;cases r with
   |true=>exact Split.yes rfl (hK yY true ⟨fun _=>(Jc h.W h.iw he).2 (.inl (hr.1 rfl)),fun _=>rfl⟩ OQ)
   |false=>
    refine Split.no rfl ?_;have h21:=h.same OQ;obtain⟨f,hf,Vn⟩:=h21.Yi;obtain⟨l,hl,iI⟩:=Vn a;have DS:=hf.look x6 a;have fin:∀ {A:Option Addr} {n c:Nat},(f a).getD (.slice none 0 0)=.slice A n c->HS yY A n l->n<=D.length->
     bk prog dF.id #[.slice A n c,.func (.func cK.id) #[] #[.pointer (some ⟨w.heap.size,0,none⟩),.pointer (some ⟨w5.heap.size,0,none⟩)]] yY fun v28 YA=>∃t:Bool,v28=.bool t/\K (.bool t) YA:=fun _ hs hn=>
     vE h21 (KH.heap HY (fun h=>h)) (KH.heap qh (fun h=>h)) hs (by omega) fun vT r2 jD KM=>⟨r2,rfl,hK vT r2 (by
      rw [jD,Jc h.W h.iw he];constructor
      ·rintro⟨c,h1,h2⟩;exact .inr ⟨c,(iI c).1 h1,h2⟩
      ·rintro(h1|⟨c,h1,h2⟩)
       ·cases hr.2 h1
       ·exact⟨c,(iI c).2 h1,h2⟩) (OQ.tt KM)⟩
    refine⟨some ⟨x,0,none⟩,by rw [aA (KH.heap HY (fun h=>h))];rfl,_,h21.c4,a.1,⟨a.2.1,Cells.bE (KH.heap wu (fun h=>h))⟩,?_⟩;rcases hl with⟨h1,rfl⟩|⟨A,n,c,h1,h2,h3,h4,h5⟩
    ·rw [h1]at DS
     exact⟨none,0,0,DS,fin (by rw [h1];rfl) (HS.nil _ _) (by omega)⟩
    ·rw [h1]at DS
     exact⟨A,n,c,DS,fin (by rw [h1];rfl) h3 h4⟩
 ·refine Split.yes (by rw [decide_eq_false cU];rfl) (hK lR false ⟨(fun e=>by cases e),fun e=>absurd (fun p hp=>?_) cU⟩ sy)
  simp only [List.mem_cons,List.not_mem_nil,or_false]at hp;rcases hp with rfl|rfl
  ·exact(e.mem h.W).1
  ·exact(e.mem h.W).2
end
end Go.Proofs.YtfleamccglihoaaGreatDoor
namespace Go.Proofs.YtfleamccglihoaaGreatDoor
open Go.Proofs.Tryz
open Go Go.bR Go.RowKit
section
variable{w w':World}{K:Value->World->Prop}
theorem xD{A:Option Addr}{n c:Nat}(FD:n<=c)(hK:K (.slice A n n) w):bk prog dh.id #[.slice A n c] w K:=by
 refine dh.of ⟨⟨by omega,by omega⟩,⟨by omega,by simp⟩,?_⟩;have e:(if(n:Int).toNat=0 then A else A.map (·.add (0*32)))=A:=by
  split
  ·rfl
  ·cases A with
   |none=>rfl
   |some a=>simp [add_zero]
 rw [e];simpa using hK
theorem wx{A:Option Addr}{n c:Nat}{l:List HT}(h:HT)(hl:HS w A n l)(hn:n<=1000000)(hK:∀w',Kept Nil w w'->K (.bool (decide (h∈l))) w'):
 bk prog cC.id #[.slice A n c,.agg h.1] w K:=by
 have hlen:=hl.len;refine cC.of ?_;unfold cC.W;intro w3;have k3:Kept Nil w w3:=(Kept.refl _ _).alloc _;have nh:w3.heap[w.heap.size]? =some (.cells h.1 ai (0,0)):=aI w _;clear_value w3;refine⟨h.1,⟨h.2.1,Cells.bE nh⟩,?_⟩;refine aP.of ?_;unfold aP.W;intro w4;have k4:Kept Nil w3 w4:=(Kept.refl _ _).alloc _;have qJ:w4.heap[w3.heap.size]? =some (.cells h.1 ai (0,0)):=aI w3 _;clear_value w4;have pE:=k3.tt k4;refine aP.b9 (I:=fun s w'=>∃i:Nat,s=(0,(i:Int))/\i<=n/\Kept Nil w4 w'/\h∉l.take i) (μ:=fun s _=>((n:Int)-s.2).toNat) (s:=(0,0)) ⟨0,rfl,Nat.zero_le _,Kept.refl _ _,by simp⟩ ?_;rintro s w' ⟨i,rfl,hi,kw,lE⟩;refine Split.dec (fun cJ=>?_) (fun gu=>?_)
 ·simp only at cJ
  have dP:i<n:=by omega
  obtain⟨y,hy⟩:∃y,l[i]? =some y:=⟨_,List.getElem?_eq_getElem (by omega)⟩;intro w9;have k9:Kept Nil w' w9:=(Kept.refl _ _).drew;clear_value w9;have Zt:=kw.tt k9;have Fv:=pE.tt Zt;refine⟨h.1,⟨h.2.1,Cells.bE (Zt.heap qJ (fun h=>h))⟩,?_⟩;refine(hl.same Fv).load (i:=(i:Int)) (by omega) hy ⟨⟨h.2.ints,y.2.ints⟩,?_⟩;rw [dH];refine Split.dec (fun he=>?_) (fun he=>?_)
  ·refine⟨(i:Int),rfl,?_⟩
   have:=hK w9 Fv;rw [decide_eq_true (by rw [he];exact List.mem_of_getElem? hy)]at this;rw [show decide ((i:Int)>=(0:Int))=true from decide_eq_true (by omega)];exact this
  ·simp only
   rw [gN (x:=(i:Int)+1) (by omega) (by omega)];refine⟨(0,(i:Int)+1),rfl,⟨i+1,rfl,dP,Zt,?_⟩,by simp only;omega⟩;rw [List.take_add_one,hy];simp only [Option.toList_some,List.mem_append,List.mem_singleton,not_or];exact⟨lE,he⟩
 ·simp only at gu
  rw [aO,aP.df];refine⟨-1,rfl,?_⟩;have:=hK w' (pE.tt kw);rw [List.take_of_length_le (by omega)]at lE;rw [decide_eq_false lE]at this;exact this
theorem yB{A:Option Addr}{n cx:Nat}{l:List HT}{h:HT}{b:Nat}(hl:HS w A n l)(hb:HS w (some ⟨b,0,none⟩) 1 [h])(hn:n<=100000):
 ∃A' c' w',(Builtin.append_ #[aC,aC] aC #[.slice A n n,.slice (some ⟨b,0,none⟩) 1 cx]).run prog w=.ok (.slice A' (n+1) c') w'/\
  HS w' A' (n+1) (l++ [h])/\n+1<=c'/\(∀a,A'=some a->w.heap.size<=a.block/\a.block<w'.heap.size)/\Kept Nil w w':=by
 have hlen:=hl.len;cases A with
 |none=>
  obtain⟨rfl,rfl⟩:=hl.none;obtain⟨A',c',w',hr,fk,hg,hbk⟩:=cD (cx:=cx) aC (bI.nil w w.heap.size) hb (by omega) (Nat.le_refl _);rw [Nat.zero_add]at hr fk;rw [List.nil_append]at fk;obtain⟨b',rfl⟩:=Row.some fk (by omega);have wo:=Row.bE fk (k:=b') rfl;refine⟨some ⟨b',0,Option.none⟩,c',w',hr,bI.hs fk,?_,fun a ha=>?_,Kept.eh (Kept.refl _ _) hg (fun k hk=>by cases hk)⟩
  ·rcases Row.own fk with⟨h1,_⟩|⟨_,_,_,_,_,h1,_⟩
   ·cases h1
   ·exact h1
  ·cases ha
   obtain⟨h1,cur,h2⟩:=wo;exact⟨h1,aT h2⟩
 |some a=>
  obtain⟨i,z,hi,hz,hs,JI,DJ⟩:=oY.inf;have hr:=run_append_grow (P:=prog) (w:=w) aC aC ai i z oY.oS hi hz a n n (cX l) (by rw [eQ,hs,hlen]) hl.cells ⟨b,0,Option.none⟩ 1 cx (cX [h]) (by rw [eQ,hs];rfl) hb.cells (by omega) (by omega) (growslice_fits (by omega) (by rw [JI];omega));refine⟨_,_,_,hr,⟨by simp [hlen],fun j y hj=>⟨_,rfl,?_,?_⟩⟩,grownCap_ge _ _ _ _,fun a' Bl=>?_,?_⟩
  ·have:=aI w.drew (.cells ((cX l).toArray++(cX [h]).toArray++Builtin.zeroCells z.cells (grownCap w (n+1) n ai-(n+1))) ai)
   exact aT this
  ·intro q v hq
   rw [bg,bg,Nat.zero_add];have hblk:=aI w.drew (.cells ((cX l).toArray++(cX [h]).toArray++Builtin.zeroCells z.cells (grownCap w (n+1) n ai-(n+1))) ai);have e:(w.drew.heap.size)=w.heap.size:=rfl;rw [e]at hblk;rw [aA hblk];have h1:=kV hj hq;rw [mo]at h1;have cJ:=(lgeS h1).1;rw [Array.getElem?_append_left (by simpa using cJ)];simpa using h1
  ·cases Bl
   have:=aI w.drew (.cells ((cX l).toArray++(cX [h]).toArray++Builtin.zeroCells z.cells (grownCap w (n+1) n ai-(n+1))) ai);exact⟨Nat.le_refl _,aT this⟩
  ·exact(Kept.refl Nil w).drew.alloc _
end
def gJ(D:DG)(h s:HT)(l:List HT):Int:=if dr D h l=0 then(if s∈l then 0 else 2)else dr D h l
theorem pM{D:DG}{h:HT}{l:List HT}(e:dr D h l=0):mK D h l=D++ [⟨h,di l⟩]:=by unfold mK;rw [if_pos e]
section
variable{w w':World}{S ST:Nat->Prop}{t:Nat}{T:List Tr.Nd}{d:Int}
theorem sS(h:Tr.oT w ST t T d):Tr.oT w (fun k=>ST k/\k<w.heap.size) t T d:=by
 obtain⟨b,c,L,h⟩:=h;refine⟨b,c,L,{h with gY:=⟨h.gY,h.lt⟩,fY:=⟨h.fY,?_⟩,qD:=fun i p hi=>?_}⟩
 ·obtain⟨A,m,hk⟩:=h.qD i p hi
  exact⟨A,m,{hk with kz:=fun k e=>⟨hk.kz k e,let ⟨_,_,hc⟩:=Row.bE hk.row e;aT hc⟩}⟩
 ·obtain⟨cur,hc⟩:=h.vN
  exact aT hc
end
section
variable{w w':World}{F:Nat->Prop}{x:Nat}{D:DG}{P:List Int}{m:XM}{K:Value->World->Prop}
theorem Jf{v:World}{hid s:HT}{S2 F2 SO2:Nat->Prop}{ps:List HT}{j:Nat}{mj:DN}{Fw sb:Nat}{b8:Int}{Bd:Option Nat}{A7:Option Addr}{n7 c7:Nat}{i7:Int}{s1 s2:Nat}
 (h:XV w F x D P m) (hD:D.length<=5000) (hn:hid∉ids D) (fC:∀p∈ps,p∈ids D) (ue:SS ps) (hj:D[j]? =some mj) (hs:mj.id=s) (yP:s∈ps)
 (jc:v.heap[x]? =some (.cells #[.pointer (some ⟨m.g,0,none⟩),.pointer (some ⟨m.t,0,none⟩),.map (some m.mb),.slice (some ⟨m.ib,0,none⟩) D.length m.ic,.map (some m.cb)] eJ (0,0)))
 (aiW:w.heap.size<=Fw) (ahS:w.heap.size<=sb) (PV:v.heap[Fw]? =some (.cells hid.1 ai (0,0))) (Ia:v.heap[sb]? =some (.cells s.1 ai (0,0)))
 (hG:C5 v S2 F2 m.g (D++ [⟨hid,ps⟩])) (hT:Tr.oT v m.ST m.t m.T m.d) (hat:IsMap v m.mb (ids D)) (fk:bI v 0 (some ⟨m.ib,0,none⟩) D.length m.ic (ids D))
 (Qb:∃f,fG v m.cb f/\∀y,∃l,oI v SO2 (D.length+1) (f y) l/\∀c,c∈l↔Ny (D++ [⟨hid,ps⟩]) (P++ [(j:Int)]) y c)
 (yi:w.heap.size<=s1) (Ae:s1<=s2) (Cg:s2<=v.heap.size)
 (Ra:∀k,S2 k->(m.SG k\/w.heap.size<=k)/\k<s1) (Rb:∀k,F2 k->(F k\/w.heap.size<=k)/\k<s1) (Ml:∀k,SO2 k->m.SO k\/(s2<=k/\k<v.heap.size))
 (kv:Kept (fun k=>m.kz x k) w v)
 (hK:∀u S' F',C1 u S' F' x (D++ [⟨hid,ps⟩]) (P++ [(j:Int)])->Kept (fun k=>m.kz x k) w u->(∀k,S' k->m.kz x k\/w.heap.size<=k)->(∀k,F' k->F k\/w.heap.size<=k)->K (.int .i64 0) u):
 aD.QS (some ⟨x,0,none⟩) ⟨Fw,0,none⟩ ⟨sb,0,none⟩ b8 Bd A7 n7 c7 i7 i7 K v:=by
 have W:=h.W;have oh:=h.low;have tn:=(lgeS hj).1;have Z0:=h.NX;have hox:m.own x x:=.inl rfl;have Ug:m.own x m.mb:=.inr (.inl rfl);have Ui:m.own x m.ib:=.inr (.inr (.inl rfl));have tM:m.own x m.cb:=.inr (.inr (.inr rfl));obtain⟨Q6,Sv,On,Su,Q5,St⟩:=h.ne;unfold aD.QS;intro Er;have wc:Kept Nil v Er:=(Kept.refl _ _).drew;clear_value Er;have c1:Er.cell? ((⟨x,0,none⟩:Addr).add 1)=some (.pointer (some ⟨m.t,0,none⟩)):=by rw [bg,aA (wc.heap jc (fun h=>h))];rfl
 have c2:Er.cell? ((⟨x,0,none⟩:Addr).add 2)=some (.map (some m.mb)):=by rw [bg,aA (wc.heap jc (fun h=>h))];rfl
 have IG:=hat.aG wc (fun h=>h);have lk:=IG.xe s;rw [<-hs,W.pos_eq hj]at lk;rw [hs]at lk;refine⟨_,c1,_,c2,s.1,⟨s.2.1,Cells.bE (wc.heap Ia (fun h=>h))⟩,_,lk,?_⟩;have V9:=sS (hT.same wc);refine Tr.GR V9 h.LF (p:=j) (by omega) (by omega) ⟨h.dl.1,by have:=h.dl.2;omega⟩ fun Ep WQ T' d' V8 IL Ua hd' Fu acg=>⟨_,_,rfl,?_⟩;have agu:=wc.size;have Q9:∀k,WQ k->m.ST k\/Er.heap.size<=k:=fun k hk=>(acg k hk).imp (fun h=>h.1) (fun h=>h);have nST:∀k,(m.ST k/\k<Er.heap.size)->m.ST k:=fun k h=>h.1;have NV:=Fu.heap (wc.heap jc (fun h=>h)) (fun e=>(h.od x hox).2.1 e.1);intro GJ;have Ft:Kept Nil Ep GJ:=(Kept.refl _ _).drew;clear_value GJ;have GX:=Ft.heap NV (fun h=>h);have DR:∀k,m.ST k->k<w.heap.size:=fun k e=>oh k (.inl (.inr (.inl e)));have lox:x<w.heap.size:=oh x (.inl (.inr (.inr (.inr hox))));have agW:m.mb<w.heap.size:=oh _ (.inl (.inr (.inr (.inr Ug))));have agX:m.ib<w.heap.size:=oh _ (.inl (.inr (.inr (.inr Ui))));have SH:m.cb<w.heap.size:=oh _ (.inl (.inr (.inr (.inr tM))));have sv:=kv.size;have DW:GJ.heap[Fw]? =some (.cells hid.1 ai (0,0)):=Ft.heap (Fu.heap (wc.heap PV (fun h=>h)) (fun e=>by have:=DR _ e.1;omega)) (fun h=>h);have yT:GJ.cell? ((⟨x,0,none⟩:Addr).add 2)=some (.map (some m.mb)):=by rw [bg,aA GX];rfl
 have Qp:IsMap GJ m.mb (ids D):=(IG.aG Fu (fun e=>(h.od _ Ug).2.1 e.1)).aG Ft (fun h=>h);obtain⟨NL,MM,Qn,Tn⟩:=Qp.put hn;rw [gg,<-Z0]at MM;refine⟨_,yT,hid.1,⟨hid.2.1,Cells.bE DW⟩,NL,MM,?_⟩;intro Eo;have Tm:Kept Nil NL Eo:=(Kept.refl _ _).drew;clear_value Eo;have yc:=Tn.trans Tm (fun _ _ h=>h.elim);have GW:=yc.heap GX (fun e=>Q6 e);have c3:∀ {u:World},Kept Nil Eo u->u.cell? ((⟨x,0,none⟩:Addr).add 3)=some (.slice (some ⟨m.ib,0,none⟩) D.length m.ic):=fun k=>by rw [bg,aA (k.heap GW (fun h=>h))];rfl
 have Lg:=yc.heap DW (fun e=>by omega);refine⟨_,_,_,c3 (Kept.refl _ _),hid.1,⟨hid.2.1,Cells.bE Lg⟩,hid.2.1,?_⟩;intro y0;have KP:Kept Nil Eo y0:=(Kept.refl _ _).alloc _;have VV:HS y0 (some ⟨Eo.heap.size,0,none⟩) 1 [hid]:=iV Eo hid;clear_value y0;have DE:=yc.trans KP (fun _ _ h=>h.elim);have Oh:bI y0 0 (some ⟨m.ib,0,none⟩) D.length m.ic (ids D):=
  Row.aG (Row.aG (Row.aG (Row.aG fk wc (fun _ _ h=>h)) Fu (fun k e e'=>by cases e;exact(h.od _ Ui).2.1 e'.1)) Ft (fun _ _ h=>h)) DE (fun k e e'=>by cases e;exact Su e'.symm)
 obtain⟨A',c',En,T3,BJ,Va,VU⟩:=cD (cx:=1) aC Oh VV (by omega) (Nat.zero_le _);have OO:Kept (· =m.ib) y0 En:=Kept.grown (Kept.refl _ _) Va (fun k e _=>by cases e;rfl);obtain⟨Bg,rfl⟩:=Row.some BJ (by omega);have Lh:Bg=m.ib\/y0.heap.size<=Bg:=by
  rcases VU Bg rfl with e|e
  ·left;simpa [a8]using e.symm
  ·exact .inr e
 have GU:=OO.heap (KP.heap GW (fun h=>h)) (fun e=>Sv e);refine⟨c3 KP,some ⟨Bg,0,none⟩,_,c',En,T3,Is.mk rfl ⟨?_,?_⟩⟩
 ·rw [bg]
  exact dO GU (by simp)
 intro yZ;have WD:yZ=En.setCell ⟨x,3,none⟩ (.slice (some ⟨Bg,0,none⟩) (D.length+1) c'):=by
  show En.setCell ((⟨x,0,none⟩:Addr).add 3) _=_
  rw [bg]
 have ON:Kept (· =x) En yZ:=by rw [WD];exact Kept.setCell (S:=fun k=>k=x) (Kept.refl _ En) (p:=⟨x,3,none⟩) (fun _=>rfl) _
 have NU:yZ.heap[x]? =some (.cells #[.pointer (some ⟨m.g,0,none⟩),.pointer (some ⟨m.t,0,none⟩),.map (some m.mb),.slice (some ⟨Bg,0,none⟩) (D.length+1) c',.map (some m.cb)] eJ (0,0)):=by
  rw [WD,dc GU 3];rfl
 clear_value yZ;have agt:=Fu.size;have ags:=Ft.size;have agr:=DE.size;have agq:=OO.size;have agp:=ON.size;have kC:Kept (fun k=>k=m.ib\/k=x) NL yZ:=(((Tm.tt KP).mono (S':=fun k=>k=m.ib\/k=x) (fun _ _ h=>h.elim)).trans OO (fun _ _ h=>.inl h)).trans ON (fun _ _ h=>.inr h);have kB:Kept (fun k=>k=m.mb\/k=m.ib\/k=x) Ep yZ:=((Ft.mono (S':=fun k=>k=m.mb\/k=m.ib\/k=x) (fun _ _ h=>h.elim)).trans Tn (fun _ _ h=>.inl h)).trans kC (fun _ _ h=>.inr h);have kA:Kept (fun k=>m.ST k\/k=m.mb\/k=m.ib\/k=x) v yZ:=((wc.mono (S':=fun k=>m.ST k\/k=m.mb\/k=m.ib\/k=x) (fun _ _ h=>h.elim)).trans Fu (fun _ _ h=>.inl h.1)).trans kB (fun _ _ h=>.inr h);have EZ:∀k,(k=m.mb\/k=m.ib\/k=x)->m.own x k:=fun k e=>by
  rcases e with e|e|e
  ·exact .inr (.inl e)
  ·exact .inr (.inr (.inl e))
  ·exact .inl e
 have Kl:∀k,m.own x k->k<w.heap.size:=fun k e=>oh k (.inl (.inr (.inr (.inr e))));have Ks:∀k,m.SG k->k<w.heap.size:=fun k e=>oh k (.inl (.inl e));have Ht:∀k,m.SO k->k<w.heap.size:=fun k e=>oh k (.inl (.inr (.inr (.inl e))));have nG:∀k,S2 k->¬(m.ST k\/k=m.mb\/k=m.ib\/k=x):=fun k h1 h2=>by
  obtain⟨h3,_⟩:=Ra k h1;rcases h2 with h2|h2
  ·rcases h3 with h3|h3
   ·exact(h.gt k h3).1 h2
   ·have:=DR k h2;omega
  ·have h4:=EZ k h2
   rcases h3 with h3|h3
   ·exact(h.od k h4).1 h3
   ·have:=Kl k h4;omega
 have nF:∀k,F2 k->¬(m.ST k\/k=m.mb\/k=m.ib\/k=x):=fun k h1 h2=>by
  obtain⟨h3,_⟩:=Rb k h1;rcases h2 with h2|h2
  ·rcases h3 with h3|h3
   ·exact(h.fd k h3).1 h2
   ·have:=DR k h2;omega
  ·have h4:=EZ k h2
   rcases h3 with h3|h3
   ·exact(h.od k h4).2.2.2 h3
   ·have:=Kl k h4;omega
 have Y3:∀k,SO2 k->¬(m.ST k\/k=m.mb\/k=m.ib\/k=x):=fun k h1 h2=>by
  rcases Ml k h1 with h3|⟨h3,_⟩
  ·rcases h2 with h2|h2
   ·exact h.to k h2 h3
   ·exact(h.od k (EZ k h2)).2.2.1 h3
  ·rcases h2 with h2|h2
   ·have:=DR k h2;omega
   ·have:=Kl k (EZ k h2);omega
 have nT:∀k,(WQ k/\k<Ep.heap.size)->¬(k=m.mb\/k=m.ib\/k=x):=fun k h1 h2=>by
  have h4:=EZ k h2;rcases Q9 k h1.1 with h3|h3
  ·exact(h.od k h4).2.1 h3
  ·have:=Kl k h4;omega
 refine hK yZ (fun k=>(S2 k\/(WQ k/\k<Ep.heap.size)\/SO2 k\/(k=x\/k=m.mb\/k=Bg\/k=m.cb))) F2 ⟨{m with ib:=Bg,ic:=c',T:=T',d:=d',SG:=S2,ST:=fun k=>WQ k/\k<Ep.heap.size,SO:=SO2},?_,fun k e=>e⟩ ?_ ?_ ?_
 ·refine⟨?_,hG.aG kA nG nF,(sS V8).aG kB nT,IL,?_,?_,?_,?_,?_,?_,?_,?_,?_,?_,?_,?_,?_⟩
  ·rw [List.length_append];exact NU
  ·show Tr.bS T'=_
   rw [Ua,h.bS]
  ·have:=h.dl
   simp only [List.length_append,List.length_singleton];show 0<=d'/\d'<=_
   omega
  ·rw [lf]
   exact Qn.aG kC (fun e=>e.elim (fun e=>Su e) (fun e=>Q6 e.symm))
  ·rw [lf,List.length_append]
   refine Row.aG BJ ON (fun k e e'=>?_);have e1:Bg=k:=by simpa [a8]using e
   rcases Lh with e|e
   ·exact Sv (e'.symm.trans (e1.symm.trans e))
   ·omega
  ·obtain⟨f,hf,hc⟩:=Qb
   refine⟨f,hf.aG kA (fun e=>?_),fun y=>?_⟩
   ·rcases e with e|e|e|e
    ·exact(h.od _ tM).2.1 e
    ·exact Q5 e.symm
    ·exact St e.symm
    ·exact On e.symm
   ·obtain⟨l,h1,h2⟩:=hc y
    refine⟨l,?_,h2⟩;rw [List.length_append];exact h1.aG kA Y3
  ·exact h.iw.snoc hj (by rw [hs];exact yP) W.pos
  ·exact W.snoc (nd:=⟨hid,ps⟩) hn fC ue
  ·intro k h1
   obtain⟨h3,h4⟩:=Ra k h1;refine⟨fun h2=>?_,fun h2=>?_⟩
   ·rcases Q9 k h2.1 with h5|h5
    ·exact nG k h1 (.inl h5)
    ·omega
   ·rcases Ml k h2 with h5|h5
    ·rcases h3 with h3|h3
     ·exact(h.gt k h3).2 h5
     ·have:=Ht k h5;omega
    ·omega
  ·intro k h1 h2
   rcases Q9 k h1.1 with h5|h5
   ·exact Y3 k h2 (.inl h5)
   ·rcases Ml k h2 with h6|h6
    ·have:=Ht k h6;omega
    ·omega
  ·intro k h1
   obtain⟨h3,h4⟩:=Rb k h1;refine⟨fun h2=>?_,fun h2=>?_⟩
   ·rcases Q9 k h2.1 with h5|h5
    ·exact nF k h1 (.inl h5)
    ·omega
   ·rcases Ml k h2 with h5|h5
    ·rcases h3 with h3|h3
     ·exact(h.fd k h3).2 h5
     ·have:=Ht k h5;omega
    ·omega
  ·intro k e
   have e':(k=m.mb\/k=m.ib\/k=x)\/(k=m.cb)\/(k=Bg/\y0.heap.size<=Bg):=by
    rcases e with e|e|e|e
    ·exact .inl (.inr (.inr e))
    ·exact .inl (.inl e)
    ·rcases Lh with h5|h5
     ·exact .inl (.inr (.inl (e.trans h5)))
     ·exact .inr (.inr ⟨e,h5⟩)
    ·exact .inr (.inl e)
   have big:y0.heap.size<=k->¬S2 k/\¬(WQ k/\k<Ep.heap.size)/\¬SO2 k/\¬F2 k:=fun hb=>
    ⟨fun h1=>by have:=(Ra k h1).2;omega,fun h1=>by have:=h1.2;omega,fun h1=>(Ml k h1).elim (fun h2=>by have:=Ht k h2;omega) (fun h2=>by omega),fun h1=>by have:=(Rb k h1).2;omega⟩
   rcases e' with e'|e'|⟨rfl,e'⟩
   ·exact⟨fun h1=>nG k h1 (.inr e'),fun h1=>nT k h1 e',fun h1=>Y3 k h1 (.inr e'),fun h1=>nF k h1 (.inr e')⟩
   ·subst e'
    have XQ:=h.od _ tM;refine⟨fun h1=>?_,fun h1=>?_,fun h1=>?_,fun h1=>?_⟩
    ·rcases(Ra _ h1).1 with h2|h2
     ·exact XQ.1 h2
     ·omega
    ·rcases Q9 _ h1.1 with h2|h2
     ·exact XQ.2.1 h2
     ·omega
    ·rcases Ml _ h1 with h2|h2
     ·exact XQ.2.2.1 h2
     ·omega
    ·rcases(Rb _ h1).1 with h2|h2
     ·exact XQ.2.2.2 h2
     ·omega
   ·exact big e'
  ·show x≠m.mb/\x≠Bg/\x≠m.cb/\m.mb≠Bg/\m.mb≠m.cb/\Bg≠m.cb
   rcases Lh with h5|h5
   ·rw [h5];exact⟨Q6,Sv,On,Su,Q5,St⟩
   ·exact⟨Q6,by omega,On,by omega,Q5,by omega⟩
  ·intro k e
   have hblk:=(Row.bE BJ (k:=Bg) rfl).2;obtain⟨cur,kR⟩:=hblk;have lib:=aT kR;rcases e with e|e
   ·rcases e with e|e|e|e
    ·have:=(Ra k e).2;omega
    ·have:=e.2;omega
    ·rcases Ml k e with h2|h2
     ·have:=Ht k h2;omega
     ·omega
    ·rcases e with e|e|e|e
     ·omega
     ·have e:k=m.mb:=e;omega
     ·have e:k=Bg:=e;omega
     ·have e:k=m.cb:=e;omega
   ·have:=(Rb k e).2;omega
 ·refine kv.trans kA (fun k _ e=>?_)
  rcases e with e|e
  ·exact .inr (.inl e)
  ·exact .inr (.inr (.inr (EZ k e)))
 ·intro k e
  rcases e with e|e|e|e
  ·exact(Ra k e).1.imp (fun h=>.inl h) (fun h=>h)
  ·rcases Q9 k e.1 with h5|h5
   ·exact .inl (.inr (.inl h5))
   ·exact .inr (by omega)
  ·rcases Ml k e with h5|h5
   ·exact .inl (.inr (.inr (.inl h5)))
   ·exact .inr (by omega)
  ·rcases e with e|e|e|e
   ·exact .inl (.inr (.inr (.inr (.inl e))))
   ·exact .inl (.inr (.inr (.inr (.inr (.inl e)))))
   ·rcases Lh with h5|h5
    ·exact .inl (.inr (.inr (.inr (.inr (.inr (.inl (e.trans h5)))))))
    ·exact .inr (by omega)
   ·exact .inl (.inr (.inr (.inr (.inr (.inr (.inr e))))))
 ·exact fun k e=>(Rb k e).1
end
section
variable{w w':World}{F S:Nat->Prop}{x:Nat}{D:DG}{P:List Int}{m:XM}{K:Value->World->Prop}
theorem Gf{u v:World}{hid s:HT}{D':DG}{ps pl:List HT}{Fw ob i:Nat}{A7:Option Addr}{c7:Nat}{b8:Int}{sb:Addr}{f0:HT->Option Value}{Q:aN}{Xa:Option Nat}
 (h:XV w F x D P m) (hD:D.length<=5000) (hwu:w.heap.size<=u.heap.size)
 (jc:u.heap[x]? =some (.cells #[.pointer (some ⟨m.g,0,none⟩),.pointer (some ⟨m.t,0,none⟩),.map (some m.mb),.slice (some ⟨m.ib,0,none⟩) D.length m.ic,.map (some m.cb)] eJ (0,0)))
 (PV:u.heap[Fw]? =some (.cells hid.1 ai (0,0))) (aiq:w.heap.size<=Fw) (hold:fG u ob f0) (aio:w.heap.size<=ob) (aaI:Xa=some ob)
 (hf0:∀y,(y=s\/dN D y s->f0 y=some (.agg #[.bool true]))/\(¬(y=s\/dN D y s)->f0 y=none))
 (Kf:bI u w.heap.size A7 pl.length c7 pl) (qG:pl.length<=10000)
 (kv:Kept (· =m.cb) u v) (hi:i<=pl.length) {Z:HT->HT->Prop}
 (Qb:∃f,fG v m.cb f/\∀y,∃l,oI v (fun k=>m.SO k\/(u.heap.size<=k/\k<v.heap.size)) (D.length+if y∈pl.take i then 1 else 0) (f y) l/\∀c,c∈l↔Ny D P y c\/(c=hid/\y∈pl.take i/\y≠s/\¬dN D y s)) (eW:pl.Nodup)
 (hQ:∀v',Kept (· =m.cb) u v'->(∃f,fG v' m.cb f/\∀y,∃l,oI v' (fun k=>m.SO k\/(u.heap.size<=k/\k<v'.heap.size)) (D.length+if y∈pl.take (i+1)then 1 else 0) (f y) l/\∀c,c∈l↔Ny D P y c\/(c=hid/\y∈pl.take (i+1)/\y≠s/\¬dN D y s))->i<pl.length->
   Q .normal (aD.e2 (some ⟨x,0,none⟩) ⟨Fw,0,none⟩ sb b8 Xa A7 pl.length c7 (pl.length:Int) ((i:Int)+1)) v')
 (hE:i=pl.length->Q (.exit 3) (aD.e2 (some ⟨x,0,none⟩) ⟨Fw,0,none⟩ sb b8 Xa A7 pl.length c7 (pl.length:Int) (i:Int)) v):
 aD.B2 (some ⟨x,0,none⟩) ⟨Fw,0,none⟩ sb b8 Xa A7 pl.length c7 (pl.length:Int) (i:Int) Q v:=by
 subst aaI;have hox:m.own x x:=.inl rfl;have tM:m.own x m.cb:=.inr (.inr (.inr rfl));obtain⟨Q6,Sv,On,Su,Q5,St⟩:=h.ne;have SH:m.cb<w.heap.size:=h.low _ (.inl (.inr (.inr (.inr tM))));have sv:=kv.size;unfold aD.B2;refine Split.dec (fun jx=>?_) (fun gu=>hE (by omega));have dP:i<pl.length:=by omega
 obtain⟨y,hy⟩:∃y,pl[i]? =some y:=⟨_,List.getElem?_eq_getElem dP⟩;have Xo:y∉pl.take i:=fun hm=>by
  obtain⟨j,hj⟩:=List.mem_iff_getElem?.1 hm;rw [List.getElem?_take]at hj;split at hj
  ·rename_i cJ
   have h1:=kP 0 j eW hj;rw [kP 0 i eW hy]at h1;simp only [Option.some.injEq]at h1;omega
  ·cases hj
 have EM:HS v A7 pl.length pl:=bI.hs (Row.aG Kf kv (fun k hk e=>by have:=(Row.bE Kf hk).1;omega));refine EM.load (i:=(i:Int)) (by omega) (by rw [Int.toNat_natCast];exact hy) ?_;intro w81;obtain⟨sD,jz,jS⟩:=gR (w:=v) (z:=(#[.int .u8 0,.int .u8 0,.int .u8 0,.int .u8 0,.int .u8 0,.int .u8 0,.int .u8 0,.int .u8 0,.int .u8 0,.int .u8 0,.int .u8 0,.int .u8 0,.int .u8 0,.int .u8 0,.int .u8 0,.int .u8 0,.int .u8 0,.int .u8 0,.int .u8 0,.int .u8 0,.int .u8 0,.int .u8 0,.int .u8 0,.int .u8 0,.int .u8 0,.int .u8 0,.int .u8 0,.int .u8 0,.int .u8 0,.int .u8 0,.int .u8 0,.int .u8 0]:Array Value)) (cs:=y.1) (t:=ai) (by rw [y.2.1];rfl);refine⟨⟨y.2.1,y.2.one,fun j hj=>sD j (by rw [y.2.1];exact hj)⟩,?_⟩;intro NF
 replace jz:NF.heap[v.heap.size]? =some (.cells y.1 ai (0,0)):=jz
 replace jS:Kept Nil v NF:=jS
 clear_value NF;have Xi:Kept (· =m.cb) u NF:=kv.trans jS (fun _ _ h=>h.elim);have Px:fG NF ob f0:=hold.aG Xi (fun e=>by omega);have lk:=Px.look Hn y;obtain⟨f,hf,hc⟩:=Qb;have Vi:=hf.aG jS (fun h=>h);obtain⟨l,qR,Lb⟩:=hc y;have Z6:=jS.size;have Ns:∀ {v':World} {N N':Nat} {a:Option Value} {l:List HT},v.heap.size<=v'.heap.size->N<=N'->oI v' (fun k=>m.SO k\/(u.heap.size<=k/\k<v.heap.size)) N a l->oI v' (fun k=>m.SO k\/(u.heap.size<=k/\k<v'.heap.size)) N' a l:=fun hv hN Al=>by
  rcases Al with Al|⟨A,n,c,h1,h2,h3,h4,h5⟩
  ·exact .inl Al
  ·exact .inr ⟨A,n,c,h1,h2,h3,by omega,fun a ha=>(h5 a ha).imp (fun h=>h) (fun h=>⟨h.1,by omega⟩)⟩
 have Nt:∀ {v':World} {N:Nat} {a:Option Value} {l:List HT},Kept (· =m.cb) v v'->oI v (fun k=>m.SO k\/(u.heap.size<=k/\k<v.heap.size)) N a l->oI v' (fun k=>m.SO k\/(u.heap.size<=k/\k<v.heap.size)) N a l:=fun hk Al=>Al.aG hk (fun k oD e=>by
  rcases oD with h1|h1
  ·exact(h.od _ tM).2.2.1 (e▸h1)
  ·omega)
 refine⟨y.1,⟨y.2.1,Cells.bE jz⟩,?_⟩;by_cases jF:y=s\/dN D y s
 ·rw [(hf0 y).1 jF]at lk
  refine⟨_,lk,true,rfl,Split.no rfl ?_⟩;rw [dt (n:=(i:Int)) (by omega) (by omega)];refine hQ NF Xi ⟨f,Vi,fun z=>?_⟩ dP;obtain⟨lz,h1,h2⟩:=hc z;refine⟨lz,Ns Z6 (by
   by_cases hz:z∈pl.take i
   ·rw [if_pos hz,if_pos ((bJ hy).2 (.inl hz))];exact Nat.le_refl _
   ·rw [if_neg hz];omega) (Nt (jS.mono (fun _ _ h=>h.elim)) h1),fun c=>?_⟩
  rw [h2,bJ hy];constructor
  ·rintro(h3|⟨h3,h4,h5,h6⟩)
   ·exact .inl h3
   ·exact .inr ⟨h3,.inl h4,h5,h6⟩
  ·rintro(h3|⟨h3,h4|rfl,h5,h6⟩)
   ·exact .inl h3
   ·exact .inr ⟨h3,h4,h5,h6⟩
   ·exact absurd jF (fun e=>e.elim h5 h6)
 ·rw [(hf0 y).2 jF]at lk
  refine⟨_,lk,false,rfl,Split.yes rfl ?_⟩;intro C8;have Ta:Kept Nil NF C8:=(Kept.refl _ _).drew;clear_value C8;have Zf:=jS.tt Ta;have IB:=Ta.heap jz (fun h=>h);have tz:∀ {q:World},Kept Nil C8 q->q.cell? ((⟨x,0,none⟩:Addr).add 4)=some (.map (some m.cb)):=fun k=>by
   rw [bg,aA (k.heap (Ta.heap (Xi.heap jc (fun e=>On e)) (fun h=>h)) (fun h=>h))];rfl
  have mM:∀ {q:World},Kept Nil C8 q->∃cs:Array Value,(.agg y.1:Value)=.agg cs/\cs.size=32/\Cells q (⟨v.heap.size,0,none⟩:Addr) cs:=fun k=>⟨y.1,rfl,y.2.1,Cells.bE (k.heap IB (fun h=>h))⟩;have M1:C8.heap[Fw]? =some (.cells hid.1 ai (0,0)):=Ta.heap (Xi.heap PV (fun e=>by omega)) (fun h=>h);have abC:∀ {q:World},Kept Nil C8 q->∃cs:Array Value,(.agg hid.1:Value)=.agg cs/\cs.size=32/\Cells q (⟨Fw,0,none⟩:Addr) cs:=fun k=>⟨hid.1,rfl,hid.2.1,Cells.bE (k.heap M1 (fun h=>h))⟩;have Vh:=Vi.aG Ta (fun h=>h);obtain⟨A,n,c,gD,FD,Bh,hnN⟩:∃(A:Option Addr) (n c:Nat),(f y).getD (.slice none 0 0)=.slice A n c/\n<=c/\HS v A n l/\n<=D.length:=by
   rcases qR with⟨h1,h2⟩|⟨A,n,c,h1,h2,h3,h4,_⟩
   ·exact⟨none,0,0,by rw [h1];rfl,Nat.le_refl _,by rw [h2];exact HS.nil _ _,by omega⟩
   ·rw [if_neg Xo]at h4
    exact⟨A,n,c,by rw [h1];rfl,h2,h3,by omega⟩
  have lk2:∀ {q:World},Kept Nil C8 q->(Instr.lookup gF (.map (some m.cb)) (.agg y.1) false).run prog q=.ok (.slice A n c) q:=fun k=>by
   have:=(Vh.aG k (fun h=>h)).look x6 y;rw [gD]at this;exact this
  have fin:∀ {q:World} {bb:Nat},Kept Nil C8 q->HS q (some ⟨bb,0,none⟩) 1 [hid]->
   ∃(A':Option Addr) (n' c':Nat) (q2:World),(Builtin.append_ #[aC,aC] aC #[.slice A n n,.slice (some ⟨bb,0,none⟩) 1 1]).run prog q=.ok (.slice A' n' c') q2/\(∃cs:Array Value,(.agg y.1:Value)=.agg cs/\cs.size=32/\Cells q2 (⟨v.heap.size,0,none⟩:Addr) cs)/\q2.cell? ((⟨x,0,none⟩:Addr).add 4)=some (.map (some m.cb))/\
    ∃q3:World,(Instr.mapUpdate gF (.map (some m.cb)) (.agg y.1) (.slice A' n' c')).run prog q2=.ok () q3/\Q .normal (aD.e2 (some ⟨x,0,none⟩) ⟨Fw,0,none⟩ sb b8 (some ob) A7 pl.length c7 (pl.length:Int) (i64.wrap ((i:Int)+(1:Int)))) q3:=by
   intro q bb kq wo;have Ze:=Zf.tt kq;obtain⟨A',c',q2,hr,Ae,JH,lh,kq2⟩:=yB (cx:=1) (Bh.same Ze) wo (by omega);have k2:=kq.tt kq2;obtain⟨q3,wi,hf3,k3⟩:=(Vh.aG k2 (fun h=>h)).put x6 y (.slice A' (n+1) c');refine⟨A',_,c',q2,hr,mM k2,tz k2,q3,wi,?_⟩;rw [dt (n:=(i:Int)) (by omega) (by omega)];have SV:=Ze.tt kq2;have SU:Kept (· =m.cb) v q3:=(SV.mono (S':=(· =m.cb)) (fun _ _ h=>h.elim)).tt k3;have sq2:=SV.size;have sq3:=k3.size;have svq:=Ze.size;refine hQ q3 (kv.tt SU) ⟨_,hf3,fun z=>?_⟩ dP;by_cases hz:z=y
   ·subst hz
    refine⟨l++ [hid],.inr ⟨A',n+1,c',by simp,JH,Ae.aG k3 (fun a ha e=>by have:=(lh a ha).1;omega),?_,fun a ha=>.inr ?_⟩,fun c=>?_⟩
    ·rw [if_pos ((bJ hy).2 (.inr rfl))];omega
    ·have:=lh a ha;omega
    ·rw [List.mem_append,List.mem_singleton,Lb,bJ hy]
     constructor
     ·rintro((h3|⟨h3,h4,h5,h6⟩)|h3)
      ·exact .inl h3
      ·exact .inr ⟨h3,.inl h4,h5,h6⟩
      ·exact .inr ⟨h3,.inr rfl,fun e=>jF (.inl e),fun e=>jF (.inr e)⟩
     ·rintro(h3|⟨h3,h4,h5,h6⟩)
      ·exact .inl (.inl h3)
      ·exact .inr h3
   ·obtain⟨lz,h1,h2⟩:=hc z
    refine⟨lz,?_,fun c=>?_⟩
    ·simp only [hz,if_false]
     refine Ns (by omega) ?_ (Nt SU h1);by_cases Tz:z∈pl.take i
     ·rw [if_pos Tz,if_pos ((bJ hy).2 (.inl Tz))];exact Nat.le_refl _
     ·rw [if_neg Tz];omega
    ·rw [h2,bJ hy]
     constructor
     ·rintro(h3|⟨h3,h4,h5,h6⟩)
      ·exact .inl h3
      ·exact .inr ⟨h3,.inl h4,h5,h6⟩
     ·rintro(h3|⟨h3,h4|h4,h5,h6⟩)
      ·exact .inl h3
      ·exact .inr ⟨h3,h4,h5,h6⟩
      ·exact absurd h4 hz
  refine⟨_,tz (Kept.refl _ _),y.1,⟨y.2.1,Cells.bE IB⟩,_,tz (Kept.refl _ _),y.1,⟨y.2.1,Cells.bE IB⟩,A,n,c,lk2 (Kept.refl _ _),hid.1,⟨hid.2.1,Cells.bE M1⟩,?_,⟨hid.2.1,?_⟩⟩
  ·refine xD FD ⟨A,n,n,rfl,abC (Kept.refl _ _),mM (Kept.refl _ _),tz (Kept.refl _ _),hid.2.1,?_⟩
   intro Es;have B8:Kept Nil C8 Es:=(Kept.refl _ _).alloc _;have VX:HS Es (some ⟨C8.heap.size,0,none⟩) 1 [hid]:=iV C8 hid;clear_value Es;exact⟨mM B8,tz B8,fin B8 VX⟩
  ·intro NN
   have z6:Kept Nil C8 NN:=(Kept.refl _ _).alloc _;have VW:HS NN (some ⟨C8.heap.size,0,none⟩) 1 [hid]:=iV C8 hid;clear_value NN;exact⟨lk2 z6,mM z6,tz z6,mM z6,tz z6,xD FD ⟨A,n,n,rfl,mM z6,tz z6,fin z6 VW⟩⟩
end
def nE(D:DG)(h s:HT)(l:List HT):DG:=if gJ D h s l=0 then D++ [⟨h,di l⟩]else D
def nD(D:DG)(P:List Int)(h s:HT)(l:List HT):List Int:=if gJ D h s l=0 then P++ [(((pos s (ids D) 0).getD 0:Nat):Int)]else P
section
variable{w w':World}{F S:Nat->Prop}{x:Nat}{D:DG}{P:List Int}{m:XM}{K:Value->World->Prop}
theorem EU(h:XV w F x D P m)(hD:D.length<=5000)(hT:tT w)(JK:¬m.SG (Tryz.jK.g 1)){A:Option Addr}{n cx:Nat}{lp:List HT}(hl:HS w A n lp)(hn:n<=5000)(hid s:HT)
 (lE:∀v,Kept Nil w v->gJ D hid s lp≠0->K (.int .i64 (gJ D hid s lp)) v)
 (Ac:∀u S' F',C1 u S' F' x (nE D hid s lp) (nD D P hid s lp)->Kept (fun k=>m.kz x k) w u->(∀k,S' k->m.kz x k\/w.heap.size<=k)->(∀k,F' k->F k\/w.heap.size<=k)->gJ D hid s lp=0->K (.int .i64 0) u):
 bk prog aD.id #[.pointer (some ⟨x,0,none⟩),.agg hid.1,.agg s.1,.slice A n cx] w K:=by
 have hlen:=hl.len;have W:=h.W;refine aD.of ?_;unfold aD.W;intro w5 w6;have k5:Kept Nil w w5:=(Kept.refl _ _).alloc _;have Li:w5.heap[w.heap.size]? =some (.cells hid.1 ai (0,0)):=aI w _;have k6:Kept Nil w5 w6:=(Kept.refl _ _).alloc _;have KW:w6.heap[w5.heap.size]? =some (.cells s.1 ai (0,0)):=aI w5 _;clear_value w6;have XH:=k6.heap Li (fun h=>h);have qE:=k5.tt k6;have s5:=k5.size;have l5:=aT Li;obtain⟨bl,c,mbg,M,G⟩:=h.G;have hG:∀ {v:World},Kept Nil w v->GV v m.SG F m.g D (gE D) bl c mbg M:=fun k=>G.same k;refine sZ (h.same qE) ⟨true,rfl,Split.no rfl ⟨_,(h.same qE).c0,hid.1,⟨hid.2.1,Cells.bE XH⟩,?_⟩⟩;refine uh (hG qE) hid fun iu Gp=>⟨_,rfl,?_⟩;have KR:=qE.tt Gp;by_cases fC:hid∈ids D
 ·have e:gJ D hid s lp=7:=by simp [gJ,dr,fC]
  have:=lE iu KR (by rw [e];decide);rw [e]at this;exact Split.yes (decide_eq_true fC) this
 refine Split.no (decide_eq_false fC) ?_;by_cases h0:n=0
 ·have el:lp= []:=List.length_eq_zero_iff.1 (by omega)
  have e:gJ D hid s lp=9:=by subst el;simp [gJ,dr,fC,JZ]
  have:=lE iu KR (by rw [e];decide);rw [e]at this;exact Split.yes (by simp [h0]) this
 refine Split.no (by simp [h0]) ?_;refine iN (hl.same KR) (by omega) fun A17 c17 wK adL HI=>⟨A17,_,c17,rfl,?_⟩;have KQ:=KR.tt HI;have e9:lp≠ []:=fun e=>h0 (by rw [<-hlen,e];rfl);by_cases Bh:¬(di lp).length=n
 ·have e:gJ D hid s lp=9:=by
   have h1:(di lp).length=0\/(di lp).length≠lp.length:=.inr (by omega);have h2:dr D hid lp=9:=by unfold dr;rw [if_neg fC,if_pos h1]
   simp [gJ,h2]
  have:=lE wK KQ (by rw [e];decide);rw [e]at this;exact Split.yes (by simp only [bne_iff_ne,ne_eq];omega) this
 replace Bh:=Classical.not_not.1 Bh
 refine Split.no (by rw [Bh];simp) ?_;refine pT (h.same KQ) (hl.same KQ) (by omega) fun Em Bf=>⟨_,rfl,?_⟩;have OR:=KQ.tt Bf;have Uq:¬((di lp).length=0\/(di lp).length≠lp.length):=by omega
 by_cases cU:¬∀p∈lp,p∈ids D
 ·have hex:∃p∈di lp,p∉ids D:=Classical.byContradiction fun hc=>cU fun p hp=>Classical.byContradiction fun hq=>hc ⟨p,dd.2 hp,hq⟩
  have e:gJ D hid s lp=6:=by
   have:dr D hid lp=6:=by unfold dr;rw [if_neg fC,if_neg Uq,if_pos hex]
   simp [gJ,this]
  have:=lE Em OR (by rw [e];decide);rw [e]at this;exact Split.yes (by rw [decide_eq_false cU];rfl) this
 replace cU:=Classical.not_not.1 cU
 refine Split.no (by rw [decide_eq_true cU];rfl) ?_;have abI:¬∃p∈di lp,p∉ids D:=fun⟨p,hp,hq⟩=>hq (cU p (dd.1 hp));have eC:dr D hid lp=0:=by unfold dr;rw [if_neg fC,if_neg Uq,if_neg abI]
 have Tc:=(Gp.tt HI).tt Bf;refine⟨s.1,⟨s.2.1,Cells.bE (Tc.heap KW (fun h=>h))⟩,?_⟩;refine wx s (hl.same OR) (by omega) fun lQ qp=>⟨_,rfl,?_⟩;have B9:=OR.tt qp;by_cases vi:¬s∈lp
 ·have e:gJ D hid s lp=2:=by simp [gJ,eC,vi]
  have:=lE lQ B9 (by rw [e];decide);rw [e]at this;exact Split.yes (by rw [decide_eq_false vi];rfl) this
 replace vi:=Classical.not_not.1 vi
 refine Split.no (by rw [decide_eq_true vi];rfl) ?_;have eX:gJ D hid s lp=0:=by simp [gJ,eC,vi]
 have KG:=Tc.tt qp;obtain⟨mj,PE,PD⟩:=cP.1 (cU s vi);obtain⟨j,hj⟩:=List.mem_iff_getElem?.1 PE;have eP:nD D P hid s lp=P++ [(j:Int)]:=by
  unfold nD;rw [if_pos eX,<-PD,W.pos_eq hj];rfl
 have eD:nE D hid s lp=D++ [⟨hid,di lp⟩]:=by unfold nE;rw [if_pos eX]
 intro oQ;have zY:Kept Nil lQ oQ:=(Kept.refl _ _).alloc _;have aaX:fG oQ lQ.heap.size (fun _=>none):=fG.new lQ;clear_value oQ;have Ic:=(KG.tt zY).heap KW (fun h=>h);obtain⟨Gm,aal,UD,HE⟩:=aaX.put Hn s (.agg #[.bool true]);refine⟨s.1,⟨s.2.1,Cells.bE Ic⟩,Gm,aal,?_⟩;have ob0:w5.heap.size<lQ.heap.size:=by have:=aT KW;have:=KG.size;omega
 have Z7:=HE.heap Ic (fun e=>by omega);refine⟨s.1,⟨s.2.1,Cells.bE Z7⟩,s.2.1,?_⟩;intro NK;have OI:Kept Nil Gm NK:=(Kept.refl _ _).alloc _;have ZM:HS NK (some ⟨Gm.heap.size,0,none⟩) 1 [s]:=iV Gm s;clear_value NK;have agy:=B9.size;have HF:Kept Nil lQ NK:=(zY.trans HE (fun k hk e=>by omega)).tt OI;have OP:=B9.tt HF;refine vD (hG OP) W (by omega) (hT.same OP) ZM (by omega) fun A32 WI tX L9 Gn=>⟨A32,_,WI,rfl,?_⟩;have Zy:=OP.tt Gn;have aaV:fG tX lQ.heap.size (fun z=>if z=s then some (.agg #[.bool true])else none):=(UD.aG OI (fun h=>h)).aG Gn (fun h=>h);have p1:=mc D fun a=>∃z∈ [s],dN D a z
 change (du D [s]).length<=_ at p1
 have adD:=HF.size;have ob1:=UD.lt;have s30:=OI.size;have Im:∀y,y∈du D [s]↔dN D y s:=fun y=>by
  unfold du;rw [jb];constructor
  ·rintro⟨_,z,hz,e⟩
   rw [List.mem_singleton]at hz
   rwa [hz]at e
  ·exact fun e=>⟨(e.mem W).1,s,by simp,e⟩
 have ag4:∀k,k=lQ.heap.size->¬k<w.heap.size:=fun k e=>by omega
 refine aD.b9 (I:=fun i v=>∃(q:Nat) (f:HT->Option Value),i=(q:Int)/\q<=(du D [s]).length/\fG v lQ.heap.size f/\(∀y,(y=s\/y∈(du D [s]).take q->f y=some (.agg #[.bool true]))/\(¬(y=s\/y∈(du D [s]).take q)->f y=none))/\Kept (· =lQ.heap.size) tX v)
  (μ:=fun i _=>(((du D [s]).length:Int)-i).toNat) (s:=0) ⟨0,_,rfl,Nat.zero_le _,aaV,fun y=>⟨fun e=>by
    rcases e with e|e
    ·rw [if_pos e]
    ·simp at e,fun e=>if_neg fun e'=>e (.inl e')⟩,Kept.refl _ _⟩ ?_
 rintro i v ⟨q,f,rfl,hq,hmv,Vb,kv⟩;have HP:Kept Nil w v:=Zy.trans kv (fun k hk e=>by omega);refine Split.dec (fun jx=>?_) (fun gu=>?_)
 ·have dP:q<(du D [s]).length:=by omega
  obtain⟨y,hy⟩:∃y,(du D [s])[q]? =some y:=⟨_,List.getElem?_eq_getElem dP⟩;have EM:=bI.hs (Row.aG L9 kv (fun k hk e=>by have:=(Row.bE L9 hk).1;omega));refine EM.load (i:=(q:Int)) (by omega) (by rw [Int.toNat_natCast];exact hy) ?_;intro LZ;obtain⟨sD,jz,jS⟩:=gR (w:=v) (z:=(#[.int .u8 0,.int .u8 0,.int .u8 0,.int .u8 0,.int .u8 0,.int .u8 0,.int .u8 0,.int .u8 0,.int .u8 0,.int .u8 0,.int .u8 0,.int .u8 0,.int .u8 0,.int .u8 0,.int .u8 0,.int .u8 0,.int .u8 0,.int .u8 0,.int .u8 0,.int .u8 0,.int .u8 0,.int .u8 0,.int .u8 0,.int .u8 0,.int .u8 0,.int .u8 0,.int .u8 0,.int .u8 0,.int .u8 0,.int .u8 0,.int .u8 0,.int .u8 0]:Array Value)) (cs:=y.1) (t:=ai) (by rw [y.2.1];rfl);refine⟨⟨y.2.1,y.2.one,fun j hj=>sD j (by rw [y.2.1];exact hj)⟩,?_⟩;intro YG
  replace jz:YG.heap[v.heap.size]? =some (.cells y.1 ai (0,0)):=jz
  replace jS:Kept Nil v YG:=jS
  clear_value YG;obtain⟨GH,Pu,aaT,Xk⟩:=(hmv.aG jS (fun h=>h)).put Hn y (.agg #[.bool true]);refine⟨y.1,⟨y.2.1,Cells.bE jz⟩,GH,Pu,?_⟩;rw [dt (n:=(q:Int)) (by omega) (by omega)];refine⟨(q:Int)+1,rfl,⟨q+1,_,rfl,dP,aaT,fun z=>?_,(kv.trans jS (fun _ _ h=>h.elim)).tt Xk⟩,by simp only;omega⟩;rw [bJ hy];constructor
  ·intro e
   by_cases hz:z=y
   ·rw [if_pos hz]
   ·rw [if_neg hz]
    exact(Vb z).1 (e.imp (fun h=>h) (fun h=>h.resolve_right hz))
  ·intro e
   rw [if_neg (fun hz=>e (.inr (.inr hz)))];exact(Vb z).2 (fun e'=>e (e'.imp (fun h=>h) (fun h=>.inl h)))
 ·have hqe:q=(du D [s]).length:=by omega
  subst hqe;rw [List.take_of_length_le (Nat.le_refl _)]at Vb;rw [aO,aD.NB];unfold aD.Gh;have HD:Kept (· =lQ.heap.size) lQ v:=((HF.tt Gn).mono (S':=(· =lQ.heap.size)) (fun _ _ h=>h.elim)).tt kv;have XG:v.heap[w.heap.size]? =some (.cells hid.1 ai (0,0)):=HD.heap (KG.heap XH (fun h=>h)) (fun e=>by omega);have Ph:v.heap[w5.heap.size]? =some (.cells s.1 ai (0,0)):=HD.heap (KG.heap KW (fun h=>h)) (fun e=>by omega);have sv:=HP.size;have s2v:=HD.size;refine⟨hid.1,⟨hid.2.1,Cells.bE XG⟩,?_⟩;refine LI (hG HP) W (by omega) (hl.same HP) (by omega) hid fun Gk S2 F2 Wj Fo Qw QA=>⟨_,rfl,?_⟩;rw [pM eC]at Wj;have Ks:∀k,m.SG k->k<w.heap.size:=fun k e=>h.low k (.inl (.inl e));have s64:=Fo.size;have PW:=Fo.heap XG (fun e=>by have:=Ks _ e;omega);have TN:=Fo.heap Ph (fun e=>by have:=Ks _ e;omega);have aaS:=hmv.aG Fo (fun e=>by have:=Ks _ e;omega);refine⟨hid.1,⟨hid.2.1,Cells.bE PW⟩,hid.2.1,?_⟩;intro GD;have Mn:Kept Nil Gk GD:=(Kept.refl _ _).alloc _;have ZI:HS GD (some ⟨Gk.heap.size,0,none⟩) 1 [hid]:=iV Gk hid;clear_value GD;have wm:∀p∈di lp,p∈ids D:=fun p hp=>cU p (dd.1 hp);have W':jn (D++ [⟨hid,di lp⟩]):=W.snoc (nd:=⟨hid,di lp⟩) fC wm (ir lp);obtain⟨bl',c',SA,M',Yp⟩:=Wj;have Oq:∀k,m.own x k->k<w.heap.size:=fun k e=>h.low k (.inl (.inr (.inr (.inr e))));have hTv:tT Gk:=(hT.same HP).aG Fo JK;refine vD (Yp.same Mn) W' (by simp;omega) (hTv.same Mn) ZI (by omega) fun A69 c69 C9 G8 KE=>⟨A69,_,c69,rfl,?_⟩;have xh:=Mn.tt KE;have adA:=xh.size;have p2:=mc (D++ [⟨hid,di lp⟩]) fun a=>∃z∈ [hid],dN (D++ [⟨hid,di lp⟩]) a z
  change (du (D++ [⟨hid,di lp⟩]) [hid]).length<=_ at p2
  rw [List.length_append,List.length_singleton]at p2;have Co:∀y,y∈du (D++ [⟨hid,di lp⟩]) [hid]↔dN (D++ [⟨hid,di lp⟩]) y hid:=fun y=>by
   unfold du;rw [jb];constructor
   ·rintro⟨_,z,hz,e⟩
    rw [List.mem_singleton]at hz
    rwa [hz]at e
   ·exact fun e=>⟨(e.mem W').1,hid,by simp,e⟩
  have la:Kept (fun k=>m.SG k) w C9:=((HP.mono (S':=fun k=>m.SG k) (fun _ _ h=>h.elim)).tt Fo).trans xh (fun _ _ h=>h.elim);have Oo:∀k,m.own x k->¬m.SG k:=fun k e=>(h.od k e).1;have R6:=la.heap h.top (Oo _ (.inl rfl));have eW:(du (D++ [⟨hid,di lp⟩]) [hid]).Nodup:=(ir _).nodup;obtain⟨f0,abH,abJ⟩:=h.Yi;have adZ:∀k,m.own x k->¬(k=m.cb)\/k=m.cb:=fun k _=>(Classical.em _).symm;have tM:m.own x m.cb:=.inr (.inr (.inr rfl));have SH:=Oq _ tM;generalize qG:du (D++ [⟨hid,di lp⟩]) [hid]=pl at G8 p2 Co eW⊢;refine aD.gC (I:=fun i u=>∃q:Nat,i=(q:Int)/\q<=pl.length/\Kept (· =m.cb) C9 u/\∃f,fG u m.cb f/\∀y,∃l,oI u (fun k=>m.SO k\/(C9.heap.size<=k/\k<u.heap.size)) (D.length+if y∈pl.take q then 1 else 0) (f y) l/\∀c,c∈l↔Ny D P y c\/(c=hid/\y∈pl.take q/\y≠s/\¬dN D y s))
   (μ:=fun i _=>((pl.length:Int)-i).toNat) (s:=0) ⟨0,rfl,Nat.zero_le _,Kept.refl _ _,f0,abH.aG la (Oo _ tM),fun y=>?_⟩ ?_
  ·obtain⟨l,h1,h2⟩:=abJ y
   refine⟨l,?_,fun c=>?_⟩
   ·rcases h1.aG la (fun k e e'=>(h.gt k e').2 e)with h3|⟨A,n,c,g1,g2,g3,g4,g5⟩
    ·exact .inl h3
    ·exact .inr ⟨A,n,c,g1,g2,g3,by omega,fun a ha=>.inl (g5 a ha)⟩
   ·rw [h2]
    simp
  ·rintro i u ⟨q,rfl,Rr,ku,Vn⟩
   refine Gf h hD la.size R6 (xh.heap PW (fun h=>h)) (Nat.le_refl _) ((aaS.aG Mn (fun h=>h)).aG KE (fun h=>h)) (by omega) rfl
    (fun y=>⟨fun e=>(Vb y).1 (e.imp (fun h=>h) (fun h=>(Im y).2 h)),fun e=>(Vb y).2 (fun e'=>e (e'.imp (fun h=>h) (fun h=>(Im y).1 h)))⟩)
    (Row.base G8 (fun b hb=>by have:=(Row.bE G8 hb).1;have:=Mn.size;omega)) (by omega) ku Rr (Z:=fun _ _=>True) Vn eW (hid:=hid) (s:=s) (D':=D) (ps:= []) (fun v' kv' abB cJ=>?_) (fun hqe=>?_)
   ·exact⟨(q:Int)+1,rfl,⟨q+1,rfl,cJ,kv',abB⟩,by simp only;omega⟩
   ·subst hqe
    rw [aO];unfold aD.e2;rw [aD.Yv];rw [List.take_of_length_le (Nat.le_refl _)]at Vn;have Hy:Kept (fun k=>m.SG k\/k=m.cb) w u:=(la.mono (S':=fun k=>m.SG k\/k=m.cb) (fun _ _ h=>.inl h)).trans ku (fun _ _ h=>.inr h);have su:=ku.size;obtain⟨Q6,Sv,On,Su,Q5,St⟩:=h.ne;have Kt:∀k,F k->k<w.heap.size:=fun k e=>h.low k (.inr e);have acr:GV C9 S2 F2 m.g (D++ [⟨hid,di lp⟩]) (gE (D++ [⟨hid,di lp⟩])) bl' c' SA M':=Yp.same xh;have nS2:∀k,S2 k->¬k=m.cb:=fun k h1 e=>by
     rcases Qw k h1 with h2|h2
     ·exact(h.od _ tM).1 (e▸h2)
     ·omega
    have nF2:∀k,F2 k->¬k=m.cb:=fun k h1 e=>by
     rcases QA k h1 with h2|h2
     ·exact(h.od _ tM).2.2.2 (e▸h2)
     ·omega
    have yL:∀k,m.own x k->k≠m.cb->¬(m.SG k\/k=m.cb):=fun k e e9 e'=>e'.elim (Oo k e) e9;refine Jf (s1:=Gk.heap.size) (s2:=C9.heap.size) (S2:=S2) (F2:=F2) (SO2:=fun k=>m.SO k\/(C9.heap.size<=k/\k<u.heap.size)) (mj:=mj) h hD fC wm (ir lp) hj PD (dd.2 vi) (Hy.heap h.top (yL _ (.inl rfl) On))
     (Nat.le_refl _) (by omega) (ku.heap (xh.heap PW (fun h=>h)) (fun e=>by omega)) (ku.heap (xh.heap TN (fun h=>h)) (fun e=>by omega)) ⟨bl',c',SA,M',acr.aG ku nS2 nF2⟩
     (h.T.aG Hy (fun k e e'=>e'.elim (fun e'=>(h.gt k e').1 e) (fun e'=>(h.od _ tM).2.1 (e'▸e)))) (h.at_.aG Hy (yL _ (.inr (.inl rfl)) Q5)) (Row.aG h.row Hy (fun k e=>by cases e;exact yL _ (.inr (.inr (.inl rfl))) St))
     ?_ (by omega) (by omega) su (fun k e=>⟨(Qw k e).imp (fun h=>h) (fun h=>by omega),Yp.low k (.inl e)⟩) (fun k e=>⟨(QA k e).imp (fun h=>h) (fun h=>by omega),Yp.low k (.inr e)⟩) (fun k e=>e)
     (Hy.mono (S':=fun k=>m.kz x k) (fun k _ e=>e.elim (fun e=>.inl e) (fun e=>.inr (.inr (.inr (.inr (.inr (.inr e)))))))) (fun u2 S' F' hI kU hSu Nl=>?_)
    ·obtain⟨f,hf,hc⟩:=Vn
     refine⟨f,hf,fun y=>?_⟩;obtain⟨l,h1,h2⟩:=hc y;refine⟨l,?_,fun c=>?_⟩
     ·rcases h1 with h3|⟨A,n,c,g1,g2,g3,g4,g5⟩
      ·exact .inl h3
      ·refine .inr ⟨A,n,c,g1,g2,g3,?_,g5⟩
       split at g4<;>omega
     ·rw [h2,I2 W h.iw (nd:=⟨hid,di lp⟩) fC wm hj,PD]
      constructor
      ·rintro(h3|⟨h3,h4,h5,h6⟩)
       ·exact .inl h3
       ·exact .inr ⟨h3,(Co y).1 h4,h5,h6⟩
      ·rintro(h3|⟨h3,h4,h5,h6⟩)
       ·exact .inl h3
       ·exact .inr ⟨h3,(Co y).2 h4,h5,h6⟩
    ·refine Ac u2 S' F' ?_ kU hSu Nl eX
     rw [eD,eP];exact hI
end
def dZ:HT:=hx 0 (by decide)
def cr(D:DG)(P:List Int)(h:HT)(l:List HT):Prop:=(h∉ids D/\l= [])\/∃(i:Nat) (nd:DN) (ks:List Nat),D[i]? =some nd/\nd.id=h/\Up P i ks/\l=ks.map (mi D)
theorem mh{D:DG}{i:Nat}{nd:DN}(h:D[i]? =some nd):mi D i=nd.id:=by unfold mi;rw [h]
theorem cr.ex{D:DG}{P:List Int}(H:qT D P)(h:HT):∃l,cr D P h l:=by
 by_cases hm:h∈ids D
 ·obtain⟨nd,eW,e⟩:=cP.1 hm
  obtain⟨i,hi⟩:=List.mem_iff_getElem?.1 eW;obtain⟨ks,hk⟩:=Up.ex H.par i (by rw [H.len];exact(lgeS hi).1);exact⟨_,.inr ⟨i,nd,ks,hi,e,hk,rfl⟩⟩
 ·exact⟨[],.inl ⟨hm,rfl⟩⟩
theorem cr.mem{D:DG}{P:List Int}(W:jn D)(H:qT D P){h:HT}{l:List HT}(c:cr D P h l){a:HT}:a∈l↔Ch D P a h:=by
 rcases c with⟨h1,rfl⟩|⟨i,nd,ks,h1,rfl,h3,rfl⟩
 ·simp only [List.not_mem_nil,false_iff]
  exact fun e=>h1 e.mem.2
 ·have dP:i<P.length:=by rw [H.len];exact(lgeS h1).1
  rw [List.mem_map];constructor
  ·rintro⟨k,hk,rfl⟩
   have hu:=(h3.mem H.par dP).1 hk;have Bj:=hu.Xc;rw [H.len]at Bj;obtain⟨nk,K6⟩:∃nk,D[k]? =some nk:=⟨_,List.getElem?_eq_getElem Bj⟩;exact⟨i,k,nd,nk,h1,rfl,K6,(mh K6).symm,hu⟩
  ·rintro⟨i',k,ni,nk,g1,g2,g3,g4,g5⟩
   have:=W.inj g1 h1 g2;subst this;exact⟨k,(h3.mem H.par dP).2 g5,by rw [mh g3,g4]⟩
theorem cr.one{D:DG}{P:List Int}(W:jn D)(H:qT D P){h:HT}{l l':List HT}(c:cr D P h l)(c':cr D P h l'):l=l':=by
 rcases c with⟨h1,rfl⟩|⟨i,nd,ks,h1,h2,h3,rfl⟩
 ·rcases c' with⟨_,rfl⟩|⟨i,nd,ks,g1,g2,_,_⟩
  ·rfl
  ·exact absurd (cP.2 ⟨nd,List.mem_of_getElem? g1,g2⟩) h1
 ·rcases c' with⟨g1,rfl⟩|⟨i',nd',ks',g1,g2,g3,rfl⟩
  ·exact absurd (cP.2 ⟨nd,List.mem_of_getElem? h1,h2⟩) g1
  ·have:=W.inj h1 g1 (by rw [h2,g2])
   subst this;rw [Up.one H.par h3 g3]
section
variable{w w':World}{F S:Nat->Prop}{x:Nat}{D:DG}{P:List Int}{m:XM}{K:Value->World->Prop}
theorem XV.Of(h:XV w F x D P m){i:Nat}{nd:DN}(hi:D[i]? =some nd):Cells w ((⟨m.ib,0,none⟩:Addr).add (i*32)) nd.id.1:=by
 obtain⟨a,ha,_,hc⟩:=(bI.hs h.row).at_ i nd.id (pV hi);cases ha;exact hc
theorem XV.Hi(h:XV w F x D P m){i:Nat}{nd:DN}(hi:D[i]? =some nd):∃td,m.T[i]? =some td/\P[i]? =some td.parent:=by
 have dP:=(lgeS hi).1;obtain⟨td,Xv⟩:=Tr.fQ (T:=m.T) (i:=i) (by rw [h.NX];exact dP);exact⟨td,Xv,by rw [<-h.bS];exact Tr.kZ Xv⟩
theorem o9(a:HT)(hK:∀w' pb qb,Kept Nil w w'->w'.heap[pb]? =some (.cells #[.pointer (some ⟨x,0,none⟩)] fV (0,0))->w'.heap[qb]? =some (.cells a.1 ai (0,0))->w.heap.size<=pb->w.heap.size<=qb->K (.func (.func aV.id) #[] #[.pointer (some ⟨pb,0,none⟩),.pointer (some ⟨qb,0,none⟩)]) w'):
 bk prog fL.id #[.pointer (some ⟨x,0,none⟩),.agg a.1] w K:=by
 refine fL.of ?_;unfold fL.W;intro w3 w4;have k3:Kept Nil w w3:=(Kept.refl _ _).alloc _;have hp3:w3.heap[w.heap.size]? =some (.cells #[.pointer (some ⟨x,0,none⟩)] fV (0,0)):=aI w _;have k4:Kept Nil w3 w4:=(Kept.refl _ _).alloc _;have hq4:w4.heap[w3.heap.size]? =some (.cells a.1 ai (0,0)):=aI w3 _;clear_value w4;exact hK w4 _ _ (k3.tt k4) (k4.heap hp3 (fun h=>h)) hq4 (Nat.le_refl _) k3.size
theorem xN{pb qb:Nat}{a:HT}{l:List HT}(hl:cr D P a l)(hD:D.length<=5000):
 nJ prog aV.id #[] #[.pointer (some ⟨pb,0,none⟩),.pointer (some ⟨qb,0,none⟩)] (l.map rL) (fun w=>XV w F x D P m/\w.heap[pb]? =some (.cells #[.pointer (some ⟨x,0,none⟩)] fV (0,0))/\w.heap[qb]? =some (.cells a.1 ai (0,0))):=by
 intro y I Q w0 hI hQ mH h0 og;obtain⟨hX,K4,MP⟩:=mH 0 w0 h0;have W:=hX.W;have ml:=hX.iw;refine aV.of ?_;unfold aV.W;refine⟨_,by rw [aA K4];rfl,a.1,⟨a.2.1,Cells.bE MP⟩,a.2.1,?_⟩;intro w6;have k6:Kept Nil w0 w6:=(Kept.refl _ _).alloc _;have qh:HS w6 (some ⟨w0.heap.size,0,none⟩) 1 [a]:=iV w0 a;clear_value w6;refine pT (hX.same k6) qh (by omega) fun w8 k8=>⟨_,rfl,?_⟩;have ud:=k6.tt k8;rcases hl with⟨lE,rfl⟩|⟨i,nd,ks,hi,hid,hup,rfl⟩
 ·exact Split.yes (by rw [decide_eq_false (by simpa using lE)];rfl) (.inl (hI 0 w0 w8 h0 ud))
 ·have hm:a∈ids D:=cP.2 ⟨nd,List.mem_of_getElem? hi,hid⟩
  refine Split.no (by rw [decide_eq_true (by simpa using hm)];rfl) ?_;intro w10;have mG:Kept Nil w8 w10:=(Kept.refl _ _).drew;clear_value w10;have Ca:=ud.tt mG;have vS:=hX.same Ca;have lk:=vS.at_.xe a;rw [<-hid,W.pos_eq hi]at lk;rw [hid]at lk;refine⟨some ⟨x,0,none⟩,by rw [aA (Ca.heap K4 (fun h=>h))];rfl,_,vS.c2,a.1,⟨a.2.1,Cells.bE (Ca.heap MP (fun h=>h))⟩,_,lk,?_⟩;have dP:i<P.length:=by rw [ml.len];exact(lgeS hi).1
  have Ub:=ml.par;refine aV.b9 (I:=fun s v=>∃(k:Nat) (dn rs:List Nat),s=(k:Int)/\ks=dn++rs/\Up P k rs/\k<P.length/\I dn.length v) (μ:=fun s _=>s.toNat) (s:=((i:Nat):Int)) ⟨i,[],ks,rfl,rfl,hup,dP,hI 0 w0 w10 h0 Ca⟩ ?_;rintro s v ⟨k,dn,rs,rfl,PM,Xt,Bj,hv⟩;obtain⟨hXv,hpv,hqv⟩:=mH _ v hv;rw [ml.len]at Bj;obtain⟨nk,K6⟩:∃nk,D[k]? =some nk:=⟨_,List.getElem?_eq_getElem Bj⟩;refine⟨some ⟨x,0,none⟩,by rw [aA hpv];rfl,_,_,_,hXv.c3,⟨by omega,by omega⟩,nk.id.1,⟨nk.id.2.1,by rw [Int.toNat_natCast];exact hXv.Of K6⟩,?_⟩;have gD:((ks.map (mi D)).map rL)[dn.length]? =some (rL nk.id):=by
   rw [List.getElem?_map,List.getElem?_map,PM,List.getElem?_append_right (Nat.le_refl _),Nat.sub_self,Xt.head];simp [mh K6]
  refine(og dn.length (rL nk.id) v gD hv).mono ?_;rintro b v' ⟨ht,hf⟩;cases b with
  |false=>
   refine Split.no rfl ?_;rw [aO,aV.df];exact .inr (hf rfl)
  |true=>
   refine Split.yes rfl ?_;have Wi:=ht rfl;cases Xt with
   |root=>
    refine Split.no rfl ?_;rw [aO,aV.df];refine .inl ?_;rw [List.length_map,List.length_map,PM,List.length_append];exact Wi
   | @step _ j YQ hj H4=>
     have UW:=(Tr.hU Ub (Tr.dS.2 hj)).1;refine Split.yes (decide_eq_true (by omega)) ?_;obtain⟨Qv,aax,_⟩:=mH _ v' Wi;obtain⟨td,Xv,htp⟩:=Qv.Hi K6;rw [hj]at htp;have ZZ:(j:Int)=td.parent:=by simpa using htp
     refine⟨some ⟨x,0,none⟩,by rw [aA aax];rfl,_,Qv.c1,Tr.y9 Qv.T Xv (by omega) ⟨_,_,rfl,?_⟩⟩;rw [<-ZZ];refine⟨(j:Int),rfl,⟨j,dn++ [k],YQ,rfl,by rw [PM];simp,H4,by rw [ml.len];omega,?_⟩,by simp only;omega⟩;rw [List.length_append];exact Wi
end
structure XN(w v:World)(r:HT)(own:Nat->Nat)(G T E I Z:Option Nat)(l:List HT):Prop where
 kp:Kept Nil w v
 gr:∀g,G=some g->∃SG,C5 v SG (fun _=>False) g [⟨r,[]⟩]/\∀k,SG k->w.heap.size<=k/\own k=1
 tr:∀t,T=some t->∃ST,Tr.oT v ST t Tr.qk 0/\∀k,ST k->w.heap.size<=k/\k<v.heap.size/\own k=2
 mp:∀b,E=some b->w.heap.size<=b/\own b=3/\IsMap v b l
 il:∀b,I=some b->w.heap.size<=b/\own b=4/\v.heap[b]? =some (.cells (r.1.toList++ []).toArray ai (0,0))
 cv:∀b,Z=some b->w.heap.size<=b/\own b=5/\fG v b (fun _=>none)
def tag(n t:Nat)(own:Nat->Nat)(k:Nat):Nat:=if n<=k then t else own k
theorem qU{n t k:Nat}{own:Nat->Nat}(h:k<n):tag n t own k=own k:=by unfold tag;rw [if_neg (by omega)]
theorem qV{n t k:Nat}{own:Nat->Nat}(h:n<=k):tag n t own k=t:=by unfold tag;rw [if_pos h]
section
variable{w v v':World}{r:HT}{own:Nat->Nat}{G T E I Z:Option Nat}{l:List HT}{K:Value->World->Prop}
theorem XN.grow(h:XN w v r own G T E I Z l)(t:Nat)(k:Kept Nil v v'):XN w v' r (tag v.heap.size t own) G T E I Z l:=by
 have hs:=k.size;refine⟨h.kp.tt k,fun g e=>?_,fun g e=>?_,fun b e=>?_,fun b e=>?_,fun b e=>?_⟩
 ·obtain⟨SG,h1,h2⟩:=h.gr g e
  exact⟨SG,h1.same k,fun q hq=>⟨(h2 q hq).1,by rw [qU (by obtain⟨bl,c,mb,M,G⟩:=h1;exact G.low q (.inl hq))];exact(h2 q hq).2⟩⟩
 ·obtain⟨ST,h1,h2⟩:=h.tr g e
  exact⟨ST,h1.same k,fun q hq=>⟨(h2 q hq).1,by have:=(h2 q hq).2.1;omega,by rw [qU (h2 q hq).2.1];exact(h2 q hq).2.2⟩⟩
 ·obtain⟨h1,h2,h3⟩:=h.mp b e
  exact⟨h1,by rw [qU h3.lt];exact h2,h3.aG k (fun h=>h)⟩
 ·obtain⟨h1,h2,h3⟩:=h.il b e
  exact⟨h1,by rw [qU (aT h3)];exact h2,k.heap h3 (fun h=>h)⟩
 ·obtain⟨h1,h2,h3⟩:=h.cv b e
  exact⟨h1,by rw [qU h3.lt];exact h2,h3.aG k (fun h=>h)⟩
theorem XN.cV(h:XN w v r own none T E I Z l){gb:Nat}(hG:C5 v' (fun k=>v.heap.size<=k/\k<v'.heap.size) (fun _=>False) gb [⟨r,[]⟩])(k:Kept Nil v v'):XN w v' r (tag v.heap.size 1 own) (some gb) T E I Z l:=by
 have g:=h.grow 1 k;refine⟨g.kp,?_,g.tr,g.mp,g.il,g.cv⟩;intro g' e;cases e;have:=h.kp.size;exact⟨_,hG,fun q hq=>⟨by omega,qV hq.1⟩⟩
theorem XN.tQ(h:XN w v r own G none E I Z l){t:Nat}(hT:Tr.oT v' (fun k=>v.heap.size<=k) t Tr.qk 0)(k:Kept Nil v v'):XN w v' r (tag v.heap.size 2 own) G (some t) E I Z l:=by
 have g:=h.grow 2 k;refine⟨g.kp,g.gr,?_,g.mp,g.il,g.cv⟩;intro t' e;cases e;have:=h.kp.size;exact⟨_,sS hT,fun q hq=>⟨by omega,hq.2,qV hq.1⟩⟩
theorem XN.tR(h:XN w v r own G T none I Z []):XN w (v.alloc (.map #[] 0)) r (tag v.heap.size 3 own) G T (some v.heap.size) I Z []:=by
 have g:=h.grow 3 ((Kept.refl Nil v).alloc (.map #[] 0));refine⟨g.kp,g.gr,g.tr,?_,g.il,g.cv⟩;intro b e;cases e;exact⟨h.kp.size,qV (Nat.le_refl _),⟨#[],0,aI v _,trivial⟩⟩
theorem XN.oN(h:XN w v r own G T E none Z l):XN w (v.alloc (.cells (r.1.toList++ []).toArray ai)) r (tag v.heap.size 4 own) G T E (some v.heap.size) Z l:=by
 have g:=h.grow 4 ((Kept.refl Nil v).alloc (.cells (r.1.toList++ []).toArray ai));refine⟨g.kp,g.gr,g.tr,g.mp,?_,g.cv⟩;intro b e;cases e;exact⟨h.kp.size,qV (Nat.le_refl _),aI v _⟩
theorem XN.oM(h:XN w v r own G T E I none l):XN w (v.alloc (.map #[] 0)) r (tag v.heap.size 5 own) G T E I (some v.heap.size) l:=by
 have g:=h.grow 5 ((Kept.refl Nil v).alloc (.map #[] 0));refine⟨g.kp,g.gr,g.tr,g.mp,g.il,?_⟩;intro b e;cases e;exact⟨h.kp.size,qV (Nat.le_refl _),fG.new v⟩
theorem XN.put{mb:Nat}(h:XN w v r own G T (some mb) I Z []):∃v',(Instr.mapUpdate cu (.map (some mb)) (.agg r.1) (.int .i64 0)).run prog v=.ok () v'/\XN w v' r own G T (some mb) I Z [r]:=by
 obtain⟨h1,h2,h3⟩:=h.mp mb rfl;obtain⟨v',hr,hm,hk⟩:=h3.put (h:=r) (by simp);refine⟨v',hr,(h.kp.trans hk (fun k hk e=>by omega)),fun g e=>?_,fun g e=>?_,fun b e=>?_,fun b e=>?_,fun b e=>?_⟩
 ·obtain⟨SG,g1,g2⟩:=h.gr g e
  exact⟨SG,g1.aG hk (fun q hq e=>by have:=(g2 q hq).2;rw [e,h2]at this;cases this) (fun q hq=>hq.elim),g2⟩
 ·obtain⟨ST,g1,g2⟩:=h.tr g e
  exact⟨ST,g1.aG hk (fun q hq e=>by have:=(g2 q hq).2.2;rw [e,h2]at this;cases this),fun q hq=>⟨(g2 q hq).1,Nat.lt_of_lt_of_le (g2 q hq).2.1 hk.size,(g2 q hq).2.2⟩⟩
 ·cases e
  exact⟨h1,h2,hm⟩
 ·obtain⟨g1,g2,g3⟩:=h.il b e
  exact⟨g1,g2,hk.heap g3 (fun e=>by rw [e,h2]at g2;cases g2)⟩
 ·obtain⟨g1,g2,g3⟩:=h.cv b e
  exact⟨g1,g2,g3.aG hk (fun e=>by rw [e,h2]at g2;cases g2)⟩
theorem XN.fin{g t mb ib cb:Nat}{w0:World}(h:XN w v r own (some g) (some t) (some mb) (some ib) (some cb) [r])(hw:w0.heap.size<=w.heap.size):
 C1 (v.alloc (.cells #[.pointer (some ⟨g,0,none⟩),.pointer (some ⟨t,0,none⟩),.map (some mb),.slice (some ⟨ib,0,none⟩) 1 1,.map (some cb)] eJ)) (fun k=>w0.heap.size<=k/\k<(v.alloc (.cells #[.pointer (some ⟨g,0,none⟩),.pointer (some ⟨t,0,none⟩),.map (some mb),.slice (some ⟨ib,0,none⟩) 1 1,.map (some cb)] eJ)).heap.size) (fun _=>False) v.heap.size [⟨r,[]⟩] [-1]:=by
 have jc:=aI v (.cells #[.pointer (some ⟨g,0,none⟩),.pointer (some ⟨t,0,none⟩),.map (some mb),.slice (some ⟨ib,0,none⟩) 1 1,.map (some cb)] eJ);have kx:=(Kept.refl Nil v).alloc (.cells #[.pointer (some ⟨g,0,none⟩),.pointer (some ⟨t,0,none⟩),.map (some mb),.slice (some ⟨ib,0,none⟩) 1 1,.map (some cb)] eJ);have hx:=aT jc;generalize v.alloc (.cells #[.pointer (some ⟨g,0,none⟩),.pointer (some ⟨t,0,none⟩),.map (some mb),.slice (some ⟨ib,0,none⟩) 1 1,.map (some cb)] eJ)=u at jc kx hx;obtain⟨SG,hG,gG⟩:=h.gr g rfl;obtain⟨ST,hT,gT⟩:=h.tr t rfl;obtain⟨m1,m2,m3⟩:=h.mp mb rfl;obtain⟨i1,i2,i3⟩:=h.il ib rfl;obtain⟨c1,c2,c3⟩:=h.cv cb rfl;have oh:∀k,SG k->k<v.heap.size:=fun k e=>by obtain⟨bl,c,mb,M,G⟩:=hG;exact G.low k (.inl e)
 have sw:=h.kp.size;have lm:=m3.lt;have li:=aT i3;have lc:=c3.lt;have Cy:∀ {a b:HT},¬dN [(⟨r,[]⟩:DN)] a b:=zu r;refine⟨⟨g,t,mb,ib,1,cb,Tr.qk,0,SG,ST,fun _=>False⟩,⟨jc,hG.same kx,hT.same kx,Tr.BK,rfl,⟨Int.le_refl 0,by show(0:Int)<=_;simp⟩,m3.aG kx (fun h=>h),?_,⟨_,c3.aG kx (fun h=>h),fun y=>⟨[],.inl ⟨rfl,rfl⟩,fun c=>?_⟩⟩,?_,jn.root r,?_,?_,?_,?_,?_,?_⟩,?_⟩
 ·have e:cX [r]=(r.1.toList++ []).toArray.toList:=by simp [cX]
  show Row _ _ _ _ _ _ _ (cX [r])
  rw [e];exact Row.made (kx.heap i3 (fun h=>h)) (Nat.zero_le _) (by simp [r.2.1]) (by show 1<=maxLen;decide)
 ·simp only [List.not_mem_nil,false_iff]
  exact fun hc=>Cy hc.1
 ·refine⟨rfl,rfl,fun i p nd hi hp=>?_⟩
  cases i with
  |zero=>omega
  |succ i=>simp at hp
 ·exact fun k e=>⟨fun e'=>by have:=(gG k e).2;have:=(gT k e').2.2;omega,fun e'=>e'.elim⟩
 ·exact fun k e e'=>e'.elim
 ·exact fun k e=>e.elim
 ·intro k e
  have key:v.heap.size<=k\/3<=own k:=by
   rcases e with e|e|e|e
   ·exact .inl (by omega)
   ·exact .inr (by have e:k=mb:=e;rw [e];omega)
   ·exact .inr (by have e:k=ib:=e;rw [e];omega)
   ·exact .inr (by have e:k=cb:=e;rw [e];omega)
  refine⟨fun e'=>?_,fun e'=>?_,fun e'=>e'.elim,fun e'=>e'.elim⟩
  ·have h1:=(gG k e').2
   have h2:=oh k e';omega
  ·have h1:=(gT k e').2.2
   have h2:=(gT k e').2.1;omega
 ·refine⟨by show v.heap.size≠mb;omega,by show v.heap.size≠ib;omega,by show v.heap.size≠cb;omega,fun e=>?_,fun e=>?_,fun e=>?_⟩
  ·have e:mb=ib:=e
   rw [e]at m2;omega
  ·have e:mb=cb:=e
   rw [e]at m2;omega
  ·have e:ib=cb:=e
   rw [e]at i2;omega
 ·intro k e
  rcases e with e|e
  ·rcases e with e|e|e|e
   ·have:=oh k e;omega
   ·have:=(gT k e).2.1;omega
   ·exact e.elim
   ·rcases e with e|e|e|e
    ·omega
    ·have e:k=mb:=e;omega
    ·have e:k=ib:=e;omega
    ·have e:k=cb:=e;omega
  ·exact e.elim
 ·intro k e
  rcases e with e|e|e|e
  ·have:=oh k e;have:=(gG k e).1;omega
  ·have:=(gT k e).1;have:=(gT k e).2.1;omega
  ·exact e.elim
  ·rcases e with e|e|e|e
   ·omega
   ·have e:k=mb:=e;omega
   ·have e:k=ib:=e;omega
   ·have e:k=cb:=e;omega
structure XD(w o:World)(r:HT)(K:Value->World->Prop):Prop where
 cs:∀ {v:World},Kept Nil o v->∃cs:Array Value,(.agg r.1:Value)=.agg cs/\cs.size=32/\Cells v (⟨w.heap.size,0,none⟩:Addr) cs
 fin:∀ {v:World} {own:Nat->Nat} {g t mb ib cb:Nat},XN o v r own (some g) (some t) (some mb) (some ib) (some cb) [r]->K (.pointer (some ⟨v.heap.size,0,none⟩)) (v.alloc (.cells #[.pointer (some ⟨g,0,none⟩),.pointer (some ⟨t,0,none⟩),.map (some mb),.slice (some ⟨ib,0,none⟩) 1 1,.map (some cb)] eJ))
end
section
variable{w o v e i z:World}{r:HT}{own:Nat->Nat}{g t:Nat}{K:Value->World->Prop}
theorem n1(D:XD w o r K)(h:XN o v r own (some g) (some t) (some e.heap.size) (some i.heap.size) (some z.heap.size) [r]):aw.N1 (some ⟨g,0,none⟩) (some ⟨t,0,none⟩) e i z K v:=by
 unfold aw.N1;exact D.fin h
theorem n2(D:XD w o r K)(h:XN o v r own (some g) (some t) (some e.heap.size) (some i.heap.size) none [r]):aw.N2 (some ⟨g,0,none⟩) (some ⟨t,0,none⟩) e i K v:=by
 unfold aw.N2;exact let n:=h.oM;n1 D n
theorem n3(D:XD w o r K)(h:XN o v r own (some g) (some t) (some e.heap.size) none (some z.heap.size) [r]):aw.N3 r.1 (some ⟨g,0,none⟩) (some ⟨t,0,none⟩) e z K v:=by
 unfold aw.N3;exact let n:=h.oN;⟨r.2.1,n1 D n⟩
theorem n4(D:XD w o r K)(h:XN o v r own (some g) (some t) (some e.heap.size) none none [r]):aw.N4 r.1 (some ⟨g,0,none⟩) (some ⟨t,0,none⟩) e w K v:=by
 unfold aw.N4;exact⟨(let n:=h.oN;⟨r.2.1,n2 D n⟩),(let n:=h.oM;⟨D.cs n.kp,n3 D n⟩)⟩
theorem n5(D:XD w o r K)(h:XN o v r own (some g) (some t) (some e.heap.size) (some i.heap.size) (some z.heap.size) []):aw.N5 e r.1 (some ⟨g,0,none⟩) (some ⟨t,0,none⟩) i z K v:=by
 unfold aw.N5;exact let ⟨u,q,n⟩:=h.put;⟨u,q,n1 D n⟩
theorem n6(D:XD w o r K)(h:XN o v r own (some g) (some t) (some e.heap.size) (some i.heap.size) none []):aw.N6 e r.1 (some ⟨g,0,none⟩) (some ⟨t,0,none⟩) i w K v:=by
 unfold aw.N6;exact⟨(let ⟨u,q,n⟩:=h.put;⟨u,q,n2 D n⟩),(let n:=h.oM;⟨D.cs n.kp,n5 D n⟩)⟩
theorem n7(D:XD w o r K)(h:XN o v r own (some g) (some t) (some e.heap.size) none (some z.heap.size) []):aw.N7 e r.1 r.1 w (some ⟨g,0,none⟩) (some ⟨t,0,none⟩) z K v:=by
 unfold aw.N7;exact⟨(let ⟨u,q,n⟩:=h.put;⟨u,q,D.cs n.kp,n3 D n⟩),(let n:=h.oN;⟨r.2.1,D.cs n.kp,n5 D n⟩)⟩
theorem n8(D:XD w o r K)(h:XN o v r own (some g) (some t) (some e.heap.size) none none []):aw.N8 e r.1 r.1 w (some ⟨g,0,none⟩) (some ⟨t,0,none⟩) K v:=by
 unfold aw.N8;exact⟨(let ⟨u,q,n⟩:=h.put;⟨u,q,D.cs n.kp,n4 D n⟩),(let n:=h.oN;⟨r.2.1,D.cs n.kp,n6 D n⟩),(let n:=h.oM;⟨D.cs n.kp,D.cs n.kp,n7 D n⟩)⟩
theorem n9(D:XD w o r K)(h:XN o v r own (some g) (some t) none (some i.heap.size) (some z.heap.size) []):aw.N9 r.1 w (some ⟨g,0,none⟩) (some ⟨t,0,none⟩) i z K v:=by
 unfold aw.N9;exact let n:=h.tR;⟨D.cs n.kp,n5 D n⟩
theorem n10(D:XD w o r K)(h:XN o v r own (some g) (some t) none (some i.heap.size) none []):aw.RS r.1 w (some ⟨g,0,none⟩) (some ⟨t,0,none⟩) i K v:=by
 unfold aw.RS;exact⟨(let n:=h.tR;⟨D.cs n.kp,n6 D n⟩),(let n:=h.oM;⟨D.cs n.kp,n9 D n⟩)⟩
theorem n11(D:XD w o r K)(h:XN o v r own (some g) (some t) none none (some z.heap.size) []):aw.Yo r.1 w r.1 (some ⟨g,0,none⟩) (some ⟨t,0,none⟩) z K v:=by
 unfold aw.Yo;exact⟨(let n:=h.tR;⟨D.cs n.kp,D.cs n.kp,n7 D n⟩),(let n:=h.oN;⟨r.2.1,D.cs n.kp,n9 D n⟩)⟩
theorem n12(D:XD w o r K)(h:XN o v r own (some g) (some t) none none none []):aw.QY r.1 w r.1 (some ⟨g,0,none⟩) (some ⟨t,0,none⟩) K v:=by
 unfold aw.QY;exact⟨(let n:=h.tR;⟨D.cs n.kp,D.cs n.kp,n8 D n⟩),(let n:=h.oN;⟨r.2.1,D.cs n.kp,n10 D n⟩),(let n:=h.oM;⟨D.cs n.kp,D.cs n.kp,n11 D n⟩)⟩
theorem n13(D:XD w o r K)(h:XN o v r own (some g) none (some e.heap.size) (some i.heap.size) (some z.heap.size) [r]):aw.LW (some ⟨g,0,none⟩) e i z K v:=by
 unfold aw.LW;exact Tr.eT fun _ _ q k=>let n:=h.tQ q k;⟨_,rfl,n1 D n⟩
theorem n14(D:XD w o r K)(h:XN o v r own (some g) none (some e.heap.size) (some i.heap.size) none [r]):aw.QX (some ⟨g,0,none⟩) e i K v:=by
 unfold aw.QX;exact⟨(Tr.eT fun _ _ q k=>let n:=h.tQ q k;⟨_,rfl,n2 D n⟩),(let n:=h.oM;n13 D n)⟩
theorem n15(D:XD w o r K)(h:XN o v r own (some g) none (some e.heap.size) none (some z.heap.size) [r]):aw.WX r.1 w (some ⟨g,0,none⟩) e z K v:=by
 unfold aw.WX;exact⟨(Tr.eT fun _ _ q k=>let n:=h.tQ q k;⟨_,rfl,D.cs n.kp,n3 D n⟩),(let n:=h.oN;⟨r.2.1,n13 D n⟩)⟩
theorem n16(D:XD w o r K)(h:XN o v r own (some g) none (some e.heap.size) none none [r]):aw.RR r.1 w (some ⟨g,0,none⟩) e K v:=by
 unfold aw.RR;exact⟨(Tr.eT fun _ _ q k=>let n:=h.tQ q k;⟨_,rfl,D.cs n.kp,n4 D n⟩),(let n:=h.oN;⟨r.2.1,n14 D n⟩),(let n:=h.oM;⟨D.cs n.kp,n15 D n⟩)⟩
theorem n17(D:XD w o r K)(h:XN o v r own (some g) none (some e.heap.size) (some i.heap.size) (some z.heap.size) []):aw.RQ r.1 w e (some ⟨g,0,none⟩) i z K v:=by
 unfold aw.RQ;exact⟨(Tr.eT fun _ _ q k=>let n:=h.tQ q k;⟨_,rfl,D.cs n.kp,n5 D n⟩),(let ⟨u,q,n⟩:=h.put;⟨u,q,n13 D n⟩)⟩
theorem n18(D:XD w o r K)(h:XN o v r own (some g) none (some e.heap.size) (some i.heap.size) none []):aw.WW r.1 w e (some ⟨g,0,none⟩) i K v:=by
 unfold aw.WW;exact⟨(Tr.eT fun _ _ q k=>let n:=h.tQ q k;⟨_,rfl,D.cs n.kp,n6 D n⟩),(let ⟨u,q,n⟩:=h.put;⟨u,q,n14 D n⟩),(let n:=h.oM;⟨D.cs n.kp,n17 D n⟩)⟩
theorem n19(D:XD w o r K)(h:XN o v r own (some g) none (some e.heap.size) none (some z.heap.size) []):aw.JO r.1 w r.1 e (some ⟨g,0,none⟩) z K v:=by
 unfold aw.JO;exact⟨(Tr.eT fun _ _ q k=>let n:=h.tQ q k;⟨_,rfl,D.cs n.kp,D.cs n.kp,n7 D n⟩),(let ⟨u,q,n⟩:=h.put;⟨u,q,D.cs n.kp,n15 D n⟩),(let n:=h.oN;⟨r.2.1,D.cs n.kp,n17 D n⟩)⟩
theorem n20(D:XD w o r K)(h:XN o v r own (some g) none (some e.heap.size) none none []):aw.Nx r.1 w r.1 e (some ⟨g,0,none⟩) K v:=by
 unfold aw.Nx;exact⟨(Tr.eT fun _ _ q k=>let n:=h.tQ q k;⟨_,rfl,D.cs n.kp,D.cs n.kp,n8 D n⟩),(let ⟨u,q,n⟩:=h.put;⟨u,q,D.cs n.kp,n16 D n⟩),(let n:=h.oN;⟨r.2.1,D.cs n.kp,n18 D n⟩),(let n:=h.oM;⟨D.cs n.kp,D.cs n.kp,n19 D n⟩)⟩
theorem n21(D:XD w o r K)(h:XN o v r own (some g) none none (some i.heap.size) (some z.heap.size) []):aw.Nw r.1 w (some ⟨g,0,none⟩) i z K v:=by
 unfold aw.Nw;exact⟨(Tr.eT fun _ _ q k=>let n:=h.tQ q k;⟨_,rfl,D.cs n.kp,n9 D n⟩),(let n:=h.tR;⟨D.cs n.kp,n17 D n⟩)⟩
theorem n22(D:XD w o r K)(h:XN o v r own (some g) none none (some i.heap.size) none []):aw.RP r.1 w (some ⟨g,0,none⟩) i K v:=by
 unfold aw.RP;exact⟨(Tr.eT fun _ _ q k=>let n:=h.tQ q k;⟨_,rfl,D.cs n.kp,n10 D n⟩),(let n:=h.tR;⟨D.cs n.kp,n18 D n⟩),(let n:=h.oM;⟨D.cs n.kp,n21 D n⟩)⟩
theorem n23(D:XD w o r K)(h:XN o v r own (some g) none none none (some z.heap.size) []):aw.Yn r.1 w r.1 (some ⟨g,0,none⟩) z K v:=by
 unfold aw.Yn;exact⟨(Tr.eT fun _ _ q k=>let n:=h.tQ q k;⟨_,rfl,D.cs n.kp,D.cs n.kp,n11 D n⟩),(let n:=h.tR;⟨D.cs n.kp,D.cs n.kp,n19 D n⟩),(let n:=h.oN;⟨r.2.1,D.cs n.kp,n21 D n⟩)⟩
theorem n24(D:XD w o r K)(h:XN o v r own (some g) none none none none []):aw.WV r.1 w r.1 (some ⟨g,0,none⟩) K v:=by
 unfold aw.WV;exact⟨(Tr.eT fun _ _ q k=>let n:=h.tQ q k;⟨_,rfl,D.cs n.kp,D.cs n.kp,n12 D n⟩),(let n:=h.tR;⟨D.cs n.kp,D.cs n.kp,n20 D n⟩),(let n:=h.oN;⟨r.2.1,D.cs n.kp,n22 D n⟩),(let n:=h.oM;⟨D.cs n.kp,D.cs n.kp,n23 D n⟩)⟩
theorem n25(D:XD w o r K)(h:XN o v r own none none (some e.heap.size) (some i.heap.size) (some z.heap.size) [r]):aw.WU r.1 e i z K v:=by
 unfold aw.WU;exact fT r fun _ _ q k=>let n:=h.cV q k;⟨_,rfl,n13 D n⟩
theorem n26(D:XD w o r K)(h:XN o v r own none none (some e.heap.size) (some i.heap.size) none [r]):aw.Ym r.1 e i w K v:=by
 unfold aw.Ym;exact⟨(fT r fun _ _ q k=>let n:=h.cV q k;⟨_,rfl,n14 D n⟩),(let n:=h.oM;⟨D.cs n.kp,n25 D n⟩)⟩
theorem n27(D:XD w o r K)(h:XN o v r own none none (some e.heap.size) none (some z.heap.size) [r]):aw.QW r.1 r.1 w e z K v:=by
 unfold aw.QW;exact⟨(fT r fun _ _ q k=>let n:=h.cV q k;⟨_,rfl,D.cs n.kp,n15 D n⟩),(let n:=h.oN;⟨r.2.1,D.cs n.kp,n25 D n⟩)⟩
theorem n28(D:XD w o r K)(h:XN o v r own none none (some e.heap.size) none none [r]):aw.N28 r.1 r.1 w e K v:=by
 unfold aw.N28;exact⟨(fT r fun _ _ q k=>let n:=h.cV q k;⟨_,rfl,D.cs n.kp,n16 D n⟩),(let n:=h.oN;⟨r.2.1,D.cs n.kp,n26 D n⟩),(let n:=h.oM;⟨D.cs n.kp,D.cs n.kp,n27 D n⟩)⟩
theorem n29(D:XD w o r K)(h:XN o v r own none none (some e.heap.size) (some i.heap.size) (some z.heap.size) []):aw.WT r.1 r.1 w e i z K v:=by
 unfold aw.WT;exact⟨(fT r fun _ _ q k=>let n:=h.cV q k;⟨_,rfl,D.cs n.kp,n17 D n⟩),(let ⟨u,q,n⟩:=h.put;⟨u,q,D.cs n.kp,n25 D n⟩)⟩
theorem n30(D:XD w o r K)(h:XN o v r own none none (some e.heap.size) (some i.heap.size) none []):aw.Yl r.1 r.1 w e i K v:=by
 unfold aw.Yl;exact⟨(fT r fun _ _ q k=>let n:=h.cV q k;⟨_,rfl,D.cs n.kp,n18 D n⟩),(let ⟨u,q,n⟩:=h.put;⟨u,q,D.cs n.kp,n26 D n⟩),(let n:=h.oM;⟨D.cs n.kp,D.cs n.kp,n29 D n⟩)⟩
theorem n31(D:XD w o r K)(h:XN o v r own none none (some e.heap.size) none (some z.heap.size) []):aw.Yk r.1 r.1 w r.1 e z K v:=by
 unfold aw.Yk;exact⟨(fT r fun _ _ q k=>let n:=h.cV q k;⟨_,rfl,D.cs n.kp,D.cs n.kp,n19 D n⟩),(let ⟨u,q,n⟩:=h.put;⟨u,q,D.cs n.kp,D.cs n.kp,n27 D n⟩),(let n:=h.oN;⟨r.2.1,D.cs n.kp,D.cs n.kp,n29 D n⟩)⟩
theorem n32(D:XD w o r K)(h:XN o v r own none none (some e.heap.size) none none []):aw.N32 r.1 r.1 w r.1 e K v:=by
 unfold aw.N32;exact⟨(fT r fun _ _ q k=>let n:=h.cV q k;⟨_,rfl,D.cs n.kp,D.cs n.kp,n20 D n⟩),(let ⟨u,q,n⟩:=h.put;⟨u,q,D.cs n.kp,D.cs n.kp,n28 D n⟩),(let n:=h.oN;⟨r.2.1,D.cs n.kp,D.cs n.kp,n30 D n⟩),(let n:=h.oM;⟨D.cs n.kp,D.cs n.kp,D.cs n.kp,n31 D n⟩)⟩
theorem n33(D:XD w o r K)(h:XN o v r own none none none (some i.heap.size) (some z.heap.size) []):aw.Yj r.1 r.1 w i z K v:=by
 unfold aw.Yj;exact⟨(fT r fun _ _ q k=>let n:=h.cV q k;⟨_,rfl,D.cs n.kp,n21 D n⟩),(let n:=h.tR;⟨D.cs n.kp,D.cs n.kp,n29 D n⟩)⟩
theorem n34(D:XD w o r K)(h:XN o v r own none none none (some i.heap.size) none []):aw.N34 r.1 r.1 w i K v:=by
 unfold aw.N34;exact⟨(fT r fun _ _ q k=>let n:=h.cV q k;⟨_,rfl,D.cs n.kp,n22 D n⟩),(let n:=h.tR;⟨D.cs n.kp,D.cs n.kp,n30 D n⟩),(let n:=h.oM;⟨D.cs n.kp,D.cs n.kp,n33 D n⟩)⟩
theorem n35(D:XD w o r K)(h:XN o v r own none none none none (some z.heap.size) []):aw.N35 r.1 r.1 w r.1 z K v:=by
 unfold aw.N35;exact⟨(fT r fun _ _ q k=>let n:=h.cV q k;⟨_,rfl,D.cs n.kp,D.cs n.kp,n23 D n⟩),(let n:=h.tR;⟨D.cs n.kp,D.cs n.kp,D.cs n.kp,n31 D n⟩),(let n:=h.oN;⟨r.2.1,D.cs n.kp,D.cs n.kp,n33 D n⟩)⟩
theorem n36(D:XD w o r K)(h:XN o v r own none none none none none []):aw.N36 r.1 r.1 w r.1 K v:=by
 unfold aw.N36;exact⟨(fT r fun _ _ q k=>let n:=h.cV q k;⟨_,rfl,D.cs n.kp,D.cs n.kp,n24 D n⟩),(let n:=h.tR;⟨D.cs n.kp,D.cs n.kp,D.cs n.kp,n32 D n⟩),(let n:=h.oN;⟨r.2.1,D.cs n.kp,D.cs n.kp,n34 D n⟩),(let n:=h.oM;⟨D.cs n.kp,D.cs n.kp,D.cs n.kp,n35 D n⟩)⟩
end
section
variable{K:Value->World->Prop}
theorem iG{w:World}(r:HT)(hK:∀v x,C1 v (fun k=>w.heap.size<=k/\k<v.heap.size) (fun _=>False) x [⟨r,[]⟩] [-1]->Kept Nil w v->K (.pointer (some ⟨x,0,none⟩)) v):
 bk prog aw.id #[.agg r.1] w K:=by
 refine aw.of ?_;unfold aw.W;intro w_2 JR;have k2:Kept Nil w w_2:=(Kept.refl _ _).alloc _;have lh:w_2.heap[w.heap.size]? =some (.cells r.1 ai (0,0)):=aI w _;have k3:Kept Nil w JR:=k2.drew;have nh:JR.heap[w.heap.size]? =some (.cells r.1 ai (0,0)):=lh;clear_value JR;have N_3:XN JR JR r (fun _=>0) none none none none none []:=⟨Kept.refl _ _,(fun b e=>by cases e),(fun b e=>by cases e),(fun b e=>by cases e),(fun b e=>by cases e),(fun b e=>by cases e)⟩;have mM:∀ {v:World},Kept Nil JR v->∃cs:Array Value,(.agg r.1:Value)=.agg cs/\cs.size=32/\Cells v (⟨w.heap.size,0,none⟩:Addr) cs:=fun k=>⟨r.1,rfl,r.2.1,Cells.bE (k.heap nh (fun h=>h))⟩;have vn:∀ {v:World} {own:Nat->Nat} {g t mb ib cb:Nat},XN JR v r own (some g) (some t) (some mb) (some ib) (some cb) [r]->K (.pointer (some ⟨v.heap.size,0,none⟩)) (v.alloc (.cells #[.pointer (some ⟨g,0,none⟩),.pointer (some ⟨t,0,none⟩),.map (some mb),.slice (some ⟨ib,0,none⟩) 1 1,.map (some cb)] eJ)):=
  fun h=>hK _ _ (h.fin k3.size) ((k3.tt h.kp).alloc _)
 have c3:r.1.size=32/\Cells JR (⟨w.heap.size,0,none⟩:Addr) r.1:=⟨r.2.1,Cells.bE nh⟩;refine⟨r.1,c3,r.1,c3,r.1,c3,?_⟩;have D:XD w JR r K:=⟨mM,vn⟩;exact n36 D N_3
end
end Go.Proofs.YtfleamccglihoaaGreatDoor
