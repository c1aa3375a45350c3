import Derived.Test.YtfleamccglihoaaGreatDoorMG
import Derived.Test.YtfleamccglihoaaGreatDoorMH
import Derived.Test.YtfleamccglihoaaGreatDoorME
import Derived.Laws.AppendOwn
open Go.IntKind (i64 u64)
set_option linter.unusedVariables false
namespace Go.Proofs.YtfleamccglihoaaGreatDoor
open Go.Proofs.Tryz
open Go Go.cF
open Tr (lV)
structure uw(D:DG)(P:List Int):Prop where
 len:P.length=D.length
 root:P[0]? =some (-1)
 up:∀(i:Nat) (p:Int) nd,0<i->P[i]? =some p->D[i]? =some nd->∃(j:Nat) (m:DN),p=(j:Int)/\j<i/\D[j]? =some m/\m.id∈nd.ps
def Ch(D:DG)(P:List Int)(a b:HT):Prop:=∃(i k:Nat) (ni nk:DN),D[i]? =some ni/\ni.id=b/\D[k]? =some nk/\nk.id=a/\lV P i k
def lT(D:DG)(P:List Int)(s c:HT):Prop:=∃(i j:Nat) (ni m:DN),D[i]? =some ni/\ni.id=c/\P[i]? =some (j:Int)/\D[j]? =some m/\m.id=s
def QL(D:DG)(P:List Int)(h c:HT):Prop:=fU D h c/\∃s,lT D P s c/\h≠s/\¬fU D h s
section
variable{D:DG}{P:List Int}
theorem uw.par(H:uw D P):Tr.nK P:=⟨H.root,λi p hi hp=>by
 have eA:=(lgeS hp).1;rw [H.len]at eA;obtain⟨j,m,h1,h2,_⟩:=H.up i p _ hi hp (List.getElem?_eq_getElem eA);exact⟨j,h2,h1⟩⟩
theorem lT.par(H:uw D P){s c:HT}(h:lT D P s c):nK D s c:=by
 obtain⟨i,j,ni,m,h1,rfl,h3,h4,rfl⟩:=h;have hi:0<i:=by
  rcases Nat.eq_zero_or_pos i with rfl|h
  ·rw [H.root]at h3;simp only [Option.some.injEq]at h3;omega
  ·exact h
 obtain⟨j',m',e,_,h5,h6⟩:=H.up i _ ni hi h3 h1;have:j'=j:=by omega
 subst this;rw [h4]at h5;cases h5;exact⟨ni,List.mem_of_getElem? h1,rfl,h6⟩
theorem lT.one(W:lr D){s s' c:HT}(h:lT D P s c)(h':lT D P s' c):s=s':=by
 obtain⟨i,j,ni,m,h1,rfl,h3,h4,rfl⟩:=h;obtain⟨i',j',ni',m',vC,e,Dz,h4',rfl⟩:=h';have:=W.inj h1 vC e.symm;subst this;rw [h3]at Dz;simp only [Option.some.injEq]at Dz;have:j=j':=by omega
 subst this;rw [h4]at h4';cases h4';rfl
theorem lT.ex(H:uw D P){i:Nat}{ni:DN}(hi:0<i)(h:D[i]? =some ni):∃(j:Nat) (m:DN),j<i/\P[i]? =some (j:Int)/\D[j]? =some m/\lT D P m.id ni.id:=by
 have eA:=(lgeS h).1;obtain⟨p,hp⟩:∃p,P[i]? =some p:=⟨_,List.getElem?_eq_getElem (by rw [H.len];exact eA)⟩;obtain⟨j,m,rfl,hj,hm,_⟩:=H.up i p ni hi hp h;exact⟨j,m,hj,hp,hm,i,j,ni,m,h,rfl,hp,hm,rfl⟩
theorem Ch.refl(H:uw D P){a:HT}(h:a∈ids D):Ch D P a a:=by
 obtain⟨nd,fE,e⟩:=eV.1 h;obtain⟨i,hi⟩:=List.mem_iff_getElem?.1 fE;exact⟨i,i,nd,nd,hi,e,hi,e,.refl (by rw [H.len];exact(lgeS hi).1)⟩
theorem Ch.mem{a b:HT}(h:Ch D P a b):a∈ids D/\b∈ids D:=by
 obtain⟨i,k,ni,nk,h1,h2,h3,h4,_⟩:=h;exact⟨eV.2 ⟨nk,List.mem_of_getElem? h3,h4⟩,eV.2 ⟨ni,List.mem_of_getElem? h1,h2⟩⟩
theorem Ch.step(W:lr D){a s c:HT}(hs:lT D P s c)(h:Ch D P a s):Ch D P a c:=by
 obtain⟨i,j,ni,m,h1,rfl,h3,h4,rfl⟩:=hs;obtain⟨j',k,nj,nk,g1,g2,g3,g4,g5⟩:=h;have:=W.inj g1 h4 g2;subst this;exact⟨i,k,ni,nk,h1,rfl,g3,g4,.step h3 g5⟩
theorem Ch.IV(W:lr D)(H:uw D P){a b:HT}(h:Ch D P a b):a=b\/fU D a b:=by
 obtain⟨i,k,ni,nk,h1,rfl,h3,rfl,h5⟩:=h
 induction h5 generalizing ni with
 |refl _=>rw [h1]at h3;cases h3;exact .inl rfl
 | @step i j k hj hu ih=>
   have vA:=hu.lt;rw [H.len]at vA;obtain⟨m,hm⟩:∃m,D[j]? =some m:=⟨_,List.getElem?_eq_getElem vA⟩;have hp:nK D m.id ni.id:=lT.par H ⟨i,j,ni,m,h1,rfl,hj,hm,rfl⟩;rcases ih m hm h3 with e|e
   ·rw [e];exact .inr (.one hp)
   ·exact .inr (.more e hp)
theorem LM(W:lr D)(H:uw D P){a b:HT}(gQ:a≠b):fU D a b↔Ch D P a b\/∃c,QL D P a c/\Ch D P c b:=by
 constructor
 ·intro h
  obtain⟨nb,SA,e⟩:=eV.1 (h.mem W).2;obtain⟨i,hb⟩:=List.mem_iff_getElem?.1 SA;clear SA;subst e
  induction i using Nat.strongRecOn generalizing nb with
  |_ i ih=>
   have hi:0<i:=by
    rcases Nat.eq_zero_or_pos i with rfl|h0
    ·exfalso
     obtain⟨x,y,mx,my,nI,_,hy,_,e2⟩:=h.at_ W;have:=W.inj hy hb e2;omega
    ·exact h0
   obtain⟨j,m,hj,_,hm,hs⟩:=lT.ex H hi hb;by_cases e1:a=m.id
   ·exact .inl (Ch.step W hs (by rw [e1];exact Ch.refl H (eV.2 ⟨m,List.mem_of_getElem? hm,rfl⟩)))
   ·by_cases e2:fU D a m.id
    ·rcases ih j hj m hm e1 e2 with e3|⟨c,e3,e4⟩
     ·exact .inl (Ch.step W hs e3)
     ·exact .inr ⟨c,e3,Ch.step W hs e4⟩
    ·exact .inr ⟨nb.id,⟨h,m.id,hs,e1,e2⟩,Ch.refl H (eV.2 ⟨nb,List.mem_of_getElem? hb,rfl⟩)⟩
 ·rintro(h|⟨c,⟨h1,_⟩,h2⟩)
  ·exact(h.IV W H).resolve_left gQ
  ·rcases h2.IV W H with e|e
   ·rw [<-e];exact h1
   ·exact h1.trans e
theorem uw.snoc(H:uw D P){nd:DN}{j:Nat}{m:DN}(hj:D[j]? =some m)(hm:m.id∈nd.ps)(kW:0<D.length):uw (D++ [nd]) (P++ [(j:Int)]) where
 len:=by simp [H.len]
 root:=by rw [List.getElem?_append_left (by rw [H.len];exact kW)];exact H.root
 up:=λi p nd' hi hp fE=>by
  have vA:=(lgeS hj).1;by_cases h:i<D.length
  ·rw [List.getElem?_append_left (by rw [H.len];exact h)]at hp
   rw [List.getElem?_append_left h]at fE;obtain⟨j',m',e,h1,h2,h3⟩:=H.up i p nd' hi hp fE;exact⟨j',m',e,h1,by rw [List.getElem?_append_left (by omega)];exact h2,h3⟩
  ·have eA:=(lgeS fE).1
   have e:i=D.length:=by simp at eA;omega
   subst e;rw [<-H.len]at hp;simp at hp fE;subst hp fE;exact⟨j,m,rfl,vA,by rw [List.getElem?_append_left vA];exact hj,hm⟩
theorem pN(W:lr D)(H:uw D P){nd:DN}(hn:nd.id∉ids D){j:Nat}{m:DN}(hj:D[j]? =some m){s c:HT}:
 lT (D++ [nd]) (P++ [(j:Int)]) s c↔lT D P s c\/(c=nd.id/\s=m.id):=by
 have vA:=(lgeS hj).1;constructor
 ·rintro⟨i,k,ni,mk,h1,rfl,h3,h4,rfl⟩
  by_cases h:i<D.length
  ·rw [List.getElem?_append_left h]at h1
   rw [List.getElem?_append_left (by rw [H.len];exact h)]at h3;have hk:k<D.length:=by
    rcases Nat.eq_zero_or_pos i with rfl|h0
    ·rw [H.root]at h3;simp only [Option.some.injEq]at h3;omega
    ·obtain⟨k',_,e,h5,_⟩:=H.up i _ ni h0 h3 h1
     omega
   rw [List.getElem?_append_left hk]at h4;exact .inl ⟨i,k,ni,mk,h1,rfl,h3,h4,rfl⟩
  ·have eA:=(lgeS h1).1
   have e:i=D.length:=by simp at eA;omega
   subst e;have Dz:=h3;rw [<-H.len]at Dz;simp at h1 Dz;subst h1;have:k=j:=by omega
   subst this;rw [List.getElem?_append_left vA,hj]at h4;cases h4;exact .inr ⟨rfl,rfl⟩
 ·rintro(⟨i,k,ni,mk,h1,rfl,h3,h4,rfl⟩|⟨rfl,rfl⟩)
  ·have hi:=(lgeS h1).1
   have hk:=(lgeS h4).1;exact⟨i,k,ni,mk,by rw [List.getElem?_append_left hi];exact h1,rfl,by rw [List.getElem?_append_left (by rw [H.len];exact hi)];exact h3,by rw [List.getElem?_append_left hk];exact h4,rfl⟩
  ·exact⟨D.length,j,nd,m,by simp,rfl,by rw [<-H.len];simp,by rw [List.getElem?_append_left vA];exact hj,rfl⟩
theorem LC(W:lr D)(H:uw D P){nd:DN}(hn:nd.id∉ids D)(gD:∀p∈nd.ps,p∈ids D){j:Nat}{m:DN}(hj:D[j]? =some m){h c:HT}:
 QL (D++ [nd]) (P++ [(j:Int)]) h c↔QL D P h c\/(c=nd.id/\fU (D++ [nd]) h nd.id/\h≠m.id/\¬fU D h m.id):=by
 have hm:m.id∈ids D:=eV.2 ⟨m,List.mem_of_getElem? hj,rfl⟩;have key:∀ {s c},lT D P s c->s∈ids D/\c∈ids D:=λhs=>(fU.one (lT.par H hs)).mem W;constructor
 ·rintro⟨h1,s,hs,h2,h3⟩
  rcases(pN W H hn hj).1 hs with hs|⟨rfl,rfl⟩
  ·obtain⟨g1,g2⟩:=key hs
   exact .inl ⟨(kL W hn g2).1 h1,s,hs,h2,λe=>h3 ((kL W hn g1).2 e)⟩
  ·exact .inr ⟨rfl,h1,h2,λe=>h3 ((kL W hn hm).2 e)⟩
 ·rintro(⟨h1,s,hs,h2,h3⟩|⟨rfl,h1,h2,h3⟩)
  ·obtain⟨g1,g2⟩:=key hs
   exact⟨(kL W hn g2).2 h1,s,(pN W H hn hj).2 (.inl hs),h2,λe=>h3 ((kL W hn g1).1 e)⟩
  ·exact⟨h1,m.id,(pN W H hn hj).2 (.inr ⟨rfl,rfl⟩),h2,λe=>h3 ((kL W hn hm).1 e)⟩
inductive Up (P:List Int):Nat->List Nat->Prop
 |root:Up P 0 [0]
 |step {i j:Nat} {l:List Nat}:P[i]? =some (j:Int)->Up P j l->Up P i (i::l)
theorem Up.ex(hP:Tr.nK P):∀i,i<P.length->∃l,Up P i l:=by
 intro i
 induction i using Nat.strongRecOn with
 |_ i ih=>
  intro hi;rcases Nat.eq_zero_or_pos i with rfl|h0
  ·exact⟨[0],.root⟩
  ·obtain⟨j,h1,h2⟩:=hP.up i _ h0 (List.getElem?_eq_getElem hi)
   obtain⟨l,hl⟩:=ih j h1 (by omega);exact⟨i::l,.step (by rw [List.getElem?_eq_getElem hi,h2]) hl⟩
theorem Up.mem(hP:Tr.nK P){i:Nat}{l:List Nat}(h:Up P i l)(hi:i<P.length){k:Nat}:k∈l↔lV P i k:=by
 induction h with
 |root=>
  rw [List.mem_singleton];constructor
  ·rintro rfl;exact .refl hi
  ·intro h;have:=h.le hP;omega
 | @step i j l hj hu ih=>
   have vA:j<P.length:=by have:=(Tr.ki hP (Tr.gh.2 hj)).1;omega
   rw [List.mem_cons,ih vA];constructor
   ·rintro(rfl|h)
    ·exact .refl hi
    ·exact .step hj h
   ·intro h
    by_cases e:k=i
    ·exact .inl e
    ·exact .inr (h.inv (λe'=>e e'.symm) hj)
theorem Up.one(hP:Tr.nK P){i:Nat}{l l':List Nat}(h:Up P i l)(h':Up P i l'):l=l':=by
 induction h generalizing l' with
 |root=>
  cases h' with
  |root=>rfl
  |step hj _=>rw [hP.root]at hj;simp only [Option.some.injEq]at hj;omega
 | @step i j l hj hu ih=>
   cases h' with
   |root=>rw [hP.root]at hj;simp only [Option.some.injEq]at hj;omega
   | @step _ j' l' xt NB=>
     rw [hj]at xt;simp only [Option.some.injEq]at xt;have:j=j':=by omega
     subst this;rw [ih NB]
theorem Up.head{i:Nat}{l:List Nat}(h:Up P i l):l[0]? =some i:=by cases h<;>rfl
theorem Up.lt(hP:Tr.nK P){i:Nat}{l:List Nat}(h:Up P i l)(hi:i<P.length):∀k∈l,k<P.length:=λk hk=>((h.mem hP hi).1 hk).lt'
end
end Go.Proofs.YtfleamccglihoaaGreatDoor
namespace Go.Proofs.YtfleamccglihoaaGreatDoor
open Go.Proofs.Tryz
open Go Go.cF Go.RowKit
structure yX(mt te:TypeId)(z:Value):Prop where
 qG:prog.underlying mt=some (.map ai te)
 zero:∀w,(zeroValue te).run prog w=.ok z w
def assoc(h:HT):List (HT×Value)->Option Value
 | []=>none
 |(x,v)::l=>if h=x then some v else assoc h l
def nJ(h:HT):List (HT×Value)->Nat->Option (Nat×Value)
 | [],_=>none
 |(x,v)::l,i=>if h=x then some (i,v)else nJ h l (i+1)
theorem oP(h:HT):∀(l:List (HT×Value)) (i:Nat),(nJ h l i).map (·.2)=assoc h l
 | [],_=>rfl
 |(x,v)::l,i=>by
  unfold nJ assoc;split
  ·rfl
  ·exact oP h l (i+1)
theorem xM{h:HT}:∀ {l:List (HT×Value)} {i j:Nat} {v:Value},nJ h l i=some (j,v)->i<=j/\l[j-i]? =some (h,v)/\∀(x:HT) (u:Value),assoc x (l.set (j-i) (h,u))=if x=h then some u else assoc x l
 | [],i,j,v,e=>by simp [nJ]at e
 |(x,u)::l,i,j,v,e=>by
  unfold nJ at e;split at e
  ·rename_i hx
   cases e;subst hx;refine⟨Nat.le_refl _,by rw [Nat.sub_self];rfl,λx u=>?_⟩;rw [Nat.sub_self];simp only [List.set_cons_zero,assoc];by_cases hx:x=h<;>simp [hx]
  ·rename_i hx
   obtain⟨h1,h2,h3⟩:=xM e;have e1:j-i=(j-(i+1))+1:=by omega
   refine⟨by omega,by rw [e1];exact h2,λy u'=>?_⟩;rw [e1];simp only [List.set_cons_succ,assoc,h3];by_cases hy:y=h
   ·subst hy;simp [hx]
   ·simp [hy]
theorem xY{h:HT}{v:Value}:∀ {l:List (HT×Value)},assoc h l=none->∀x,assoc x (l++ [(h,v)])=if x=h then some v else assoc x l
 | [],_,x=>by simp [assoc]
 |(y,u)::l,e,x=>by
  unfold assoc at e;split at e
  ·cases e
  ·rename_i hy
   have ih:=xY (v:=v) e x;simp only [List.cons_append,assoc,ih];by_cases hx:x=y
   ·subst hx;simp [Ne.symm hy]
   ·simp [hx]
def o8(es:List MapEntry)(l:List (HT×Value)):Prop:=match es,l with
 | [],[]=>True
 |e::es,p::l=>(e.key=.agg p.1.1/\e.val=p.2)/\o8 es l
 |_,_=>False
theorem o8.snoc:∀ {es:List MapEntry} {l:List (HT×Value)} {e:MapEntry} {p:HT×Value},o8 es l->e.key=.agg p.1.1->e.val=p.2->o8 (es++ [e]) (l++ [p])
 | [],[],_,_,_,h1,h2=>⟨⟨h1,h2⟩,trivial⟩
 |_::_,_::_,_,_,he,h1,h2=>⟨he.1,o8.snoc he.2 h1 h2⟩
 | [],_::_,_,_,he,_,_=>he.elim
 |_::_,[],_,_,he,_,_=>he.elim
theorem o8.get:∀ {es:List MapEntry} {l:List (HT×Value)} {j:Nat} {p:HT×Value},o8 es l->l[j]? =some p->∃e,es[j]? =some e/\e.key=.agg p.1.1/\e.val=p.2
 | [],[],_,_,_,h=>by simp at h
 |e::_,_::_,0,_,he,h=>by
  simp only [List.getElem?_cons_zero,Option.some.injEq]at h;subst h;exact⟨e,rfl,he.1⟩
 |_::_,_::_,j+1,_,he,h=>by
  obtain⟨e,h1,h2⟩:=o8.get he.2 (j:=j) (by simpa using h);exact⟨e,by simpa using h1,h2⟩
 | [],_::_,_,_,he,_=>he.elim
 |_::_,[],_,_,he,_=>he.elim
theorem o8.set:∀ {es:List MapEntry} {l:List (HT×Value)} {j:Nat} {p:HT×Value} {f:MapEntry->MapEntry},o8 es l->(∀e,(f e).key=.agg p.1.1/\(f e).val=p.2)->o8 (es.modify j f) (l.set j p)
 | [],[],_,_,_,he,_=>by simpa using he
 |_::_,_::_,0,_,_,he,hf=>⟨hf _,he.2⟩
 |_::_,_::_,j+1,_,_,he,hf=>by
  simp only [List.modify_succ_cons,List.set_cons_succ];exact⟨he.1,o8.set he.2 hf⟩
 | [],_::_,_,_,_,he,_=>he.elim
 |_::_,[],_,_,_,he,_=>he.elim
theorem o8.len:∀ {es:List MapEntry} {l:List (HT×Value)},o8 es l->es.length=l.length
 | [],[],_=>rfl
 |_::_,_::_,he=>by simp [o8.len he.2]
 | [],_::_,he=>he.elim
 |_::_,[],he=>he.elim
section
variable{w:World}
theorem tG(h:HT)(w:World):∀(es:List MapEntry) (l:List (HT×Value)) (i:Nat),o8 es l->
 (Instr.findAsking ai (.agg h.1) es i).run prog w=.ok (nJ h l i) w
 | [],[],i,_=>by simp [Instr.findAsking,nJ]
 |e::es,(x,v)::l,i,he=>by
  have hq:=wB h x w;have ih:=tG h w es l (i+1) he.2;simp only [Instr.findAsking,he.1.1,Sem.run_bind,hq,Result.andThen_ok];by_cases hx:h=x
  ·simp [hx,nJ,he.1.2]
  ·simp [hx,nJ,ih]
 | [],_::_,_,he=>he.elim
 |_::_,[],_,he=>he.elim
theorem nN(h:HT)(w:World){es:List MapEntry}{l:List (HT×Value)}(he:o8 es l):
 (Instr.findKey ai (.agg h.1) es).run prog w=.ok (nJ h l 0) w:=by
 have h1:=tG h w es l 0 he;simp only [Instr.findKey,Sem.run_bind,run_underlying ML,Result.andThen_ok];cases es with
 |nil=>
  cases l with
  |nil=>simp [Instr.findNow,nJ]
  |cons x l=>exact he.elim
 |cons e es=>
  have:Instr.findNow (.array 32 jV) (.agg h.1) (e::es) 0=none:=by
   simp only [Instr.findNow,Instr.sameNow]
  rw [this];exact h1
theorem Hw(h:HT):Instr.sameBits 10000 (.agg h.1) (.agg h.1)=true:=by
 show Instr.sameBits (9999+1) (.agg h.1) (.agg h.1)=true
 rw [Instr.sameBits];simp only [beq_self_eq_true,Bool.true_and,List.all_eq_true];rintro⟨x,y⟩ nI;have hxe:x=y:=by
  obtain⟨i,hi⟩:=List.mem_iff_getElem?.1 nI;rw [List.getElem?_zip_eq_some]at hi;have:=hi.1.symm.trans hi.2;simpa using this
 subst hxe;have hm:=(List.of_mem_zip nI).1;obtain⟨n,rfl,_⟩:=h.2.2 x hm;simp [Instr.sameBits]
structure gX(w:World)(m:Nat)(f:HT->Option Value):Prop where
 ex:∃es clock l,w.heap[m]? =some (.map es clock)/\o8 es.toList l/\(∀x,assoc x l=f x)/\(∀e∈es.toList,e.born<clock)/\(es.toList.map (·.born)).Nodup/\(l.map (·.1)).Nodup
theorem gX.aN{S:Nat->Prop}{w w':World}{m:Nat}{f:HT->Option Value}(h:gX w m f)(hk:Kept S w w')(hn:¬S m):gX w' m f:=by
 obtain⟨es,clock,l,h1,h2⟩:=h.ex;exact⟨es,clock,l,hk.heap h1 hn,h2⟩
theorem gX.same{w w':World}{m:Nat}{f:HT->Option Value}(h:gX w m f)(hk:Kept Nil w w'):gX w' m f:=h.aN hk (λh=>h)
theorem gX.lt{w:World}{m:Nat}{f:HT->Option Value}(h:gX w m f):m<w.heap.size:=by
 obtain⟨es,clock,l,h1,_⟩:=h.ex;exact bt h1
theorem gX.new(w:World):gX (w.alloc (.map #[] 0)) w.heap.size (λ_=>none):=⟨#[],0,[],aO w _,trivial,λ_=>rfl,by simp,by simp,by simp⟩
theorem gX.look{mt te:TypeId}{z:Value}(T:yX mt te z){m:Nat}{f:HT->Option Value}(hm:gX w m f)(h:HT):
 (Instr.lookup mt (.map (some m)) (.agg h.1) false).run prog w=.ok ((f h).getD z) w:=by
 obtain⟨es,clock,l,h1,h2,h3,_⟩:=hm.ex;have h4:=nN h w h2;have h5:=oP h l 0;rw [h3]at h5;simp only [Instr.lookup,Sem.run_bind,run_underlying T.qG,rD h1,Result.andThen_ok,Sem.run_pure,kH,h4];cases hp:nJ h l 0 with
 |none=>rw [hp]at h5;simp [<-h5,T.zero]
 |some p=>rw [hp]at h5;simp [<-h5]
theorem gX.put{mt te:TypeId}{z:Value}(T:yX mt te z){m:Nat}{f:HT->Option Value}(hm:gX w m f)(h:HT)(v:Value):
 ∃w',(Instr.mapUpdate mt (.map (some m)) (.agg h.1) v).run prog w=.ok () w'/\gX w' m (λx=>if x=h then some v else f x)/\Kept (· =m) w w':=by
 obtain⟨es,clock,l,h1,h2,h3,hb,hd,hk⟩:=hm.ex;have h4:=nN h w h2;have kept:∀o,Kept (· =m) w {w with heap:=w.heap.setIfInBounds m o}:=λo=>⟨rfl,rfl,rfl,by simp,λk _ hk=>by simp [Ne.symm hk]⟩;cases hp:nJ h l 0 with
 |none=>
  rw [hp]at h4;have h5:=oP h l 0;rw [hp]at h5;refine⟨{w with heap:=w.heap.setIfInBounds m (.map (es.push {key:=.agg h.1,val:=v,born:=clock}) (clock+1))},?_,⟨es.push {key:=.agg h.1,val:=v,born:=clock},clock+1,l++ [(h,v)],?_,?_,?_,?_,?_,?_⟩,kept _⟩
  ·simp only [Instr.mapUpdate,Sem.run_bind,run_underlying T.qG,rD h1,Result.andThen_ok,kH,h4,DT _ h1]
  ·simp [bt h1]
  ·have:=h2.snoc (e:= {key:=.agg h.1,val:=v,born:=clock}) (p:=(h,v)) rfl rfl
   simpa using this
  ·intro x
   rw [xY h5.symm,h3]
  ·intro e he
   rw [Array.toList_push,List.mem_append,List.mem_singleton]at he;rcases he with he|rfl
   ·have:=hb e he;omega
   ·exact Nat.lt_succ_self _
  ·rw [Array.toList_push,List.map_append,List.nodup_append]
   refine⟨hd,by simp,λa ha b xz e=>?_⟩;simp only [List.map_cons,List.map_nil,List.mem_singleton]at xz;obtain⟨e',Oi,rfl⟩:=List.mem_map.1 ha;have:=hb e' Oi;omega
  ·rw [List.map_append,List.nodup_append]
   refine⟨hk,by simp,λa ha b xz e=>?_⟩;simp only [List.map_cons,List.map_nil,List.mem_singleton]at xz;subst xz;subst e;have key:∀l:List (HT×Value),a∈l.map (·.1)->assoc a l≠none:=λl=>by
    induction l with
    |nil=>simp
    |cons p l ih=>
     obtain⟨y,u⟩:=p;intro hm;unfold assoc;split
     ·simp
     ·rename_i hy
      simp only [List.map_cons,List.mem_cons]at hm;exact ih (hm.resolve_left hy)
   exact key l ha h5.symm
 |some p=>
  obtain⟨j,u⟩:=p;rw [hp]at h4;obtain⟨_,h6,h7⟩:=xM hp;rw [Nat.sub_zero]at h6 h7;obtain⟨e,he1,UX,_⟩:=h2.get h6;have hes:es[j]? =some e:=by simpa using he1
  refine⟨{w with heap:=w.heap.setIfInBounds m (.map (es.modify j λe=> {e with key:=.agg h.1,val:=v}) clock)},?_,⟨es.modify j λe=> {e with key:=.agg h.1,val:=v},clock,l.set j (h,v),?_,?_,?_,?_,?_,?_⟩,kept _⟩
  ·simp only [Instr.mapUpdate,Sem.run_bind,run_underlying T.qG,rD h1,Result.andThen_ok,kH,h4,Instr.keyThatStays,hes,Option.map_some,Option.getD_some,UX,Hw,if_true,Sem.run_pure,DT _ h1]
  ·simp [bt h1]
  ·rw [Array.toList_modify]
   exact h2.set (p:=(h,v)) λe=>⟨rfl,rfl⟩
  ·intro x
   rw [h7,h3]
  ·intro x hx
   rw [Array.toList_modify]at hx;obtain⟨i,hi⟩:=List.mem_iff_getElem?.1 hx;rw [List.getElem?_modify]at hi;cases hg:es.toList[i]? with
   |none=>rw [hg]at hi;simp at hi
   |some y=>
    rw [hg]at hi;have:=hb y (List.mem_of_getElem? hg);by_cases sY:j=i
    ·simp [sY]at hi
     rw [<-hi];exact this
    ·simp [sY]at hi
     rw [<-hi];exact this
  ·have:(es.modify j λe=> {e with key:=.agg h.1,val:=v}).toList.map (·.born)=es.toList.map (·.born):=by
    rw [Array.toList_modify];apply List.ext_getElem?;intro i;rw [List.getElem?_map,List.getElem?_map,List.getElem?_modify];cases es.toList[i]? with
    |none=>simp
    |some y=>by_cases sY:j=i<;>simp [sY]
   rw [this];exact hd
  ·have:(l.set j (h,v)).map (·.1)=l.map (·.1):=by
    apply List.ext_getElem?;intro i;rw [List.getElem?_map,List.getElem?_map,List.getElem?_set];by_cases sY:j=i
    ·subst sY
     have dD:=(lgeS h6).1;have gE:=(lgeS h6).2;simp [dD,gE]
    ·simp [sY]
   rw [this];exact hk
end
end Go.Proofs.YtfleamccglihoaaGreatDoor
namespace Go.Proofs.YtfleamccglihoaaGreatDoor
open Go.Proofs.Tryz
open Go Go.cF Go.RowKit
open Tr (lV)
theorem vY{te:TypeId}{z:Value}(h:(prog.info? te).bind (·.zero)=some z)(w:World):(zeroValue te).run prog w=.ok z w:=by
 cases hi:prog.info? te with
 |none=>rw [hi]at h;cases h
 |some i=>
  rw [hi]at h;have hz:i.zero=some z:=h;simp [zeroValue,typeInfo,hi,hz]
theorem Ax:yX jc aH (.slice none 0 0):=⟨by kernel_rfl,vY (by kernel_rfl)⟩
theorem JU:yX nh vd (.agg #[.bool false]):=⟨by kernel_rfl,vY (by kernel_rfl)⟩
structure XM where
 g:Nat
 t:Nat
 mb:Nat
 ib:Nat
 ic:Nat
 cb:Nat
 T:List Tr.Nd
 d:Int
 SG:Nat->Prop
 ST:Nat->Prop
 SO:Nat->Prop
def XM.own(m:XM)(x k:Nat):Prop:=k=x\/k=m.mb\/k=m.ib\/k=m.cb
def XM.lU(m:XM)(x k:Nat):Prop:=m.SG k\/m.ST k\/m.SO k\/m.own x k
def qt(w:World)(SO:Nat->Prop)(N:Nat)(v:Option Value)(l:List HT):Prop:=
 (v=none/\l= [])\/∃(A:Option Addr) (n c:Nat),v=some (.slice A n c)/\n<=c/\HS w A n l/\n<=N/\∀a,A=some a->SO a.block
structure XV(w:World)(F:Nat->Prop)(x:Nat)(D:DG)(P:List Int)(m:XM):Prop where
 top:w.heap[x]? =some (.cells #[.pointer (some ⟨m.g,0,none⟩),.pointer (some ⟨m.t,0,none⟩),.map (some m.mb),.slice (some ⟨m.ib,0,none⟩) D.length m.ic,.map (some m.cb)] fT (0,0))
 G:G5 w m.SG F m.g D
 T:Tr.qK w m.ST m.t m.T m.d
 OI:Tr.yY m.T
 cK:Tr.cK m.T=P
 dl:0<=m.d/\m.d<=D.length
 at_:IsMap w m.mb (ids D)
 row:bY w 0 (some ⟨m.ib,0,none⟩) D.length m.ic (ids D)
 cov:∃f,gX w m.cb f/\∀h,∃l,qt w m.SO D.length (f h) l/\∀c,c∈l↔QL D P h c
 jv:uw D P
 W:lr D
 gt:∀k,m.SG k->¬m.ST k/\¬m.SO k
 to:∀k,m.ST k->¬m.SO k
 fd:∀k,F k->¬m.ST k/\¬m.SO k
 od:∀k,m.own x k->¬m.SG k/\¬m.ST k/\¬m.SO k/\¬F k
 ne:x≠m.mb/\x≠m.ib/\x≠m.cb/\m.mb≠m.ib/\m.mb≠m.cb/\m.ib≠m.cb
 low:∀k,m.lU x k\/F k->k<w.heap.size
def FF(w:World)(S F:Nat->Prop)(x:Nat)(D:DG)(P:List Int):Prop:=∃m,XV w F x D P m/\∀k,m.lU x k->S k
section
variable{w w':World}{F S:Nat->Prop}{x:Nat}{D:DG}{P:List Int}{m:XM}{K:Value->World->Prop}
theorem qt.aN{S0 SO:Nat->Prop}{N:Nat}{v:Option Value}{l:List HT}(h:qt w SO N v l)(hk:Kept S0 w w')(hn:∀k,SO k->¬S0 k):qt w' SO N v l:=by
 rcases h with h|⟨A,n,c,h1,h2,h3,h4,h5⟩
 ·exact .inl h
 ·exact .inr ⟨A,n,c,h1,h2,h3.aN hk (λa ha=>hn _ (h5 a ha)),h4,h5⟩
theorem XV.aN{S0:Nat->Prop}(h:XV w F x D P m)(hk:Kept S0 w w')(hS:∀k,m.lU x k->¬S0 k)(hF:∀k,F k->¬S0 k):XV w' F x D P m where
 top:=hk.heap h.top (hS _ (.inr (.inr (.inr (.inl rfl)))))
 G:=h.G.aN hk (λk e=>hS k (.inl e)) hF
 T:=h.T.aN hk (λk e=>hS k (.inr (.inl e)))
 OI:=h.OI
 cK:=h.cK
 dl:=h.dl
 at_:=h.at_.aN hk (hS _ (.inr (.inr (.inr (.inr (.inl rfl))))))
 row:=Row.aN h.row hk (λk e=>by cases e;exact hS _ (.inr (.inr (.inr (.inr (.inr (.inl rfl)))))))
 cov:=by
  obtain⟨f,h1,h2⟩:=h.cov;refine⟨f,h1.aN hk (hS _ (.inr (.inr (.inr (.inr (.inr (.inr rfl))))))),λy=>?_⟩;obtain⟨l,h3,h4⟩:=h2 y;exact⟨l,h3.aN hk (λk e=>hS k (.inr (.inr (.inl e)))),h4⟩
 jv:=h.jv
 W:=h.W
 gt:=h.gt
 to:=h.to
 fd:=h.fd
 od:=h.od
 ne:=h.ne
 low:=λk e=>Nat.lt_of_lt_of_le (h.low k e) hk.size
theorem XV.same(h:XV w F x D P m)(hk:Kept Nil w w'):XV w' F x D P m:=h.aN hk (λ_ _ h=>h) (λ_ _ h=>h)
theorem FF.aN{S0:Nat->Prop}(h:FF w S F x D P)(hk:Kept S0 w w')(hS:∀k,S k->¬S0 k)(hF:∀k,F k->¬S0 k):FF w' S F x D P:=
 let ⟨m,h1,h2⟩:=h;⟨m,h1.aN hk (λk e=>hS k (h2 k e)) hF,h2⟩
theorem FF.same(h:FF w S F x D P)(hk:Kept Nil w w'):FF w' S F x D P:=h.aN hk (λ_ _ h=>h) (λ_ _ h=>h)
theorem XV.c0(h:XV w F x D P m):w.cell? ((⟨x,0,none⟩:Addr).add 0)=some (.pointer (some ⟨m.g,0,none⟩)):=by rw [bO,aI h.top];rfl
theorem XV.c1(h:XV w F x D P m):w.cell? ((⟨x,0,none⟩:Addr).add 1)=some (.pointer (some ⟨m.t,0,none⟩)):=by rw [bO,aI h.top];rfl
theorem XV.c2(h:XV w F x D P m):w.cell? ((⟨x,0,none⟩:Addr).add 2)=some (.map (some m.mb)):=by rw [bO,aI h.top];rfl
theorem XV.c3(h:XV w F x D P m):w.cell? ((⟨x,0,none⟩:Addr).add 3)=some (.slice (some ⟨m.ib,0,none⟩) D.length m.ic):=by rw [bO,aI h.top];rfl
theorem XV.c4(h:XV w F x D P m):w.cell? ((⟨x,0,none⟩:Addr).add 4)=some (.map (some m.cb)):=by rw [bO,aI h.top];rfl
theorem XV.Q1(h:XV w F x D P m):m.T.length=D.length:=by
 have:=Tr.gg m.T;rw [h.cK,h.jv.len]at this;exact this.symm
theorem XV.qG(h:XV w F x D P m){i k:Nat}{id kd:Tr.Nd}(hi:m.T[i]? =some id)(hk:m.T[k]? =some kd):decide (kd.lo<=id.lo/\id.hi<=kd.hi)=true↔lV P i k:=by
 rw [decide_eq_true_iff,<-h.cK];exact h.OI.under hi hk
theorem GK(a b:HT):a.1.toList++(b.1.toList++ [])=dK [a,b]:=by simp [dK]
theorem vp(h:XV w F x D P m)(hK:K (.bool true) w):bJ prog gA.id #[.pointer (some ⟨x,0,none⟩)] w K:=
 gA.of (Split.yes rfl ⟨_,h.c0,hK⟩)
theorem AU{xb:Nat}(h:XV w F x D P m)(hg:w.heap[xb]? =some (.cells #[.pointer (some ⟨x,0,none⟩)] fD (0,0))){A:Option Addr}{n cx:Nat}{l:List HT}(hl:HS w A n l)(hn:n<=400000)
 (hK:∀w' (b:Bool),(b=true↔∃p∈l,p∉ids D)->Kept Nil w w'->K (.bool b) w'):
 bJ prog fh.id #[.slice A n cx,.func (.func eM.id) #[] #[.pointer (some ⟨xb,0,none⟩)]] w K:=by
 have hlen:=hl.len;refine cY.of (aE.of ?_);refine aE.cP (I:=λs w'=>∃i:Nat,s=(0,(i:Int))/\i<=n/\(∀p∈l.take i,p∈ids D)/\Kept Nil w w') (μ:=λs _=>((n:Int)-s.2).toNat) (s:=(0,0)) ⟨0,rfl,Nat.zero_le _,by simp,Kept.refl _ _⟩ ?_;rintro s w' ⟨i,rfl,hi,dr,kw⟩;refine Split.dec (λjT=>?_) (λgE=>?_)
 ·simp only at jT
  have eA:i<n:=by omega
  obtain⟨y,hy⟩:∃y,l[i]? =some y:=⟨_,List.getElem?_eq_getElem (by omega)⟩;refine(hl.same kw).load (i:=(i:Int)) (by omega) hy ?_;refine eM.of ?_;unfold eM.W;intro w3 w4;have k3:Kept Nil w' w3:=(Kept.refl _ _).alloc _;have qy:w3.heap[w'.heap.size]? =some (.cells y.1 ai (0,0)):=aO w' _;have k4:Kept Nil w3 w4:=(Kept.refl _ _).drew;clear_value w4;have vB:=k4.heap qy (λh=>h);have Nc:=(kw.tt k3).tt k4;obtain⟨bl,c,mb,M,G⟩:=(h.same Nc).G;refine⟨some ⟨x,0,none⟩,by rw [aI (Nc.heap hg (λh=>h))];rfl,_,(h.same Nc).c0,y.1,⟨y.2.1,Cells.bX vB⟩,se G y λw7 k7=>⟨_,rfl,_,rfl,?_⟩⟩;have Ei:=Nc.tt k7;by_cases hm:y∈ids D
  ·refine Split.no (by rw [decide_eq_true hm];rfl) ?_
   simp only;rw [dO (n:=(i:Int)) (by omega) (by omega)];refine⟨(0,(i:Int)+1),rfl,⟨i+1,rfl,eA,λp hp=>?_,Ei⟩,by simp only;omega⟩;rcases(bV hy).1 hp with hp|rfl
   ·exact dr p hp
   ·exact hm
  ·refine Split.yes (by rw [decide_eq_false hm];rfl) ?_
   refine⟨(i:Int),rfl,?_⟩;exact hK w7 _ ⟨λ_=>⟨y,List.mem_of_getElem? hy,hm⟩,λ_=>decide_eq_true (by omega)⟩ Ei
 ·simp only at gE
  rw [bg,aE.dJ];rw [List.take_of_length_le (by omega)]at dr;exact⟨-1,rfl,hK w' _ ⟨λh=>absurd (of_decide_eq_true h) (by omega),λ⟨p,hp,hn⟩=>absurd (dr p hp) hn⟩ kw⟩
theorem rU(h:XV w F x D P m){A:Option Addr}{n cx:Nat}{l:List HT}(hl:HS w A n l)(hn:n<=400000)(hK:∀w',Kept Nil w w'->K (.bool (decide (∀p∈l,p∈ids D))) w'):
 bJ prog gP.id #[.pointer (some ⟨x,0,none⟩),.slice A n cx] w K:=by
 refine gP.of ?_;unfold gP.W;intro w3;have k3:Kept Nil w w3:=(Kept.refl _ _).alloc _;have qy:w3.heap[w.heap.size]? =some (.cells #[.pointer (some ⟨x,0,none⟩)] fD (0,0)):=aO w _;clear_value w3;refine⟨_,by rw [aI qy];rfl,vp (h.same k3) ⟨true,rfl,Split.yes rfl ?_⟩⟩;refine AU (h.same k3) qy (hl.same k3) hn λw9 b hb k9=>⟨b,rfl,?_⟩;have:(!b)=decide (∀p∈l,p∈ids D):=by
  rw [Bool.eq_iff_iff,decide_eq_true_iff,Bool.not_eq_true',<-Bool.not_eq_true,hb];constructor
  ·exact λhn p hp=>Classical.byContradiction λhc=>hn ⟨p,hp,hc⟩
  ·rintro ha ⟨p,hp,hc⟩;exact hc (ha p hp)
 rw [this];exact hK w9 (k3.tt k9)
theorem vr(h:XV w F x D P m)(a b:HT)(hK:∀w' (r:Bool),(r=true↔Ch D P a b)->Kept Nil w w'->K (.bool r) w'):
 bJ prog fM.id #[.pointer (some ⟨x,0,none⟩),.agg a.1,.agg b.1] w K:=by
 refine fM.of ?_;unfold fM.W;intro w4 w5 w6;have k4:Kept Nil w w4:=(Kept.refl _ _).alloc _;have CS:w4.heap[w.heap.size]? =some (.cells a.1 ai (0,0)):=aO w _;have k5:Kept Nil w4 w5:=(Kept.refl _ _).alloc _;have o9:w5.heap[w4.heap.size]? =some (.cells b.1 ai (0,0)):=aO w4 _;have k6:Kept Nil w5 w6:=(Kept.refl _ _).drew;clear_value w6;have yL:=(k5.tt k6).heap CS (λh=>h);have rr:=k6.heap o9 (λh=>h);have rl:=(k4.tt k5).tt k6;refine⟨a.1,⟨a.2.1,Cells.bX yL⟩,b.1,⟨b.2.1,Cells.bX rr⟩,a.2.1,b.2.1,?_⟩;intro w9;have k9:Kept Nil w6 w9:=(Kept.refl _ _).alloc _;have hx9:HS w9 (some ⟨w6.heap.size,0,none⟩) 2 [a,b]:=HS.lay (l:= [a,b]) (t:=ai) (by rw [<-GK a b];exact aO w6 _);clear_value w9;have Dv:=rl.tt k9;refine rU (h.same Dv) hx9 (by omega) λoH wa=>⟨_,rfl,?_⟩;have Ep:=Dv.tt wa;have Mz:=h.same Ep;by_cases dr:∀p∈ [a,b],p∈ids D
 ·refine Split.yes (decide_eq_true dr) ?_
  obtain⟨na,Im,ea⟩:=eV.1 (dr a (by simp));obtain⟨nb,SA,eb⟩:=eV.1 (dr b (by simp));obtain⟨k,hk⟩:=List.mem_iff_getElem?.1 Im;obtain⟨i,hi⟩:=List.mem_iff_getElem?.1 SA;have EI:=(lgeS hk).1;have eA:=(lgeS hi).1;have Sc:=h.Q1;obtain⟨kd,Yx⟩:=Tr.iC (T:=m.T) (i:=k) (by omega);obtain⟨nd,fE⟩:=Tr.iC (T:=m.T) (i:=i) (by omega);have Wz:=k9.tt wa;have l1:=Mz.at_.zv b;have l2:=Mz.at_.zv a;rw [<-eb,h.W.pos_eq hi]at l1;rw [<-ea,h.W.pos_eq hk]at l2;rw [eb]at l1;rw [ea]at l2;refine⟨_,Mz.c1,_,Mz.c2,b.1,⟨b.2.1,Cells.bX (Wz.heap rr (λh=>h))⟩,_,l1,_,Mz.c2,a.1,⟨a.2.1,Cells.bX (Wz.heap yL (λh=>h))⟩,_,l2,?_⟩;refine Tr.DO Mz.T fE Yx λnQ tA=>⟨_,rfl,hK nQ _ ?_ (Ep.tt tA)⟩;rw [h.qG fE Yx];constructor
  ·exact λhu=>⟨i,k,nb,na,hi,eb,hk,ea,hu⟩
  ·rintro⟨i',k',ni,nk,h1,h2,h3,h4,h5⟩
   have e1:=h.W.inj h1 hi (by rw [h2,eb]);have e2:=h.W.inj h3 hk (by rw [h4,ea]);rw [<-e1,<-e2];exact h5
 ·refine Split.no (decide_eq_false dr) (hK oH false ⟨(λe=>by cases e),λe=>absurd (λp hp=>?_) dr⟩ Ep)
  simp only [List.mem_cons,List.not_mem_nil,or_false]at hp;rcases hp with rfl|rfl
  ·exact e.mem.1
  ·exact e.mem.2
theorem xS{xb bb:Nat}{b:HT}(h:XV w F x D P m)(hg:w.heap[xb]? =some (.cells #[.pointer (some ⟨x,0,none⟩)] fD (0,0)))(hb:w.heap[bb]? =some (.cells b.1 ai (0,0))){A:Option Addr}{n cx:Nat}{l:List HT}(hl:HS w A n l)(hn:n<=400000)
 (hK:∀w' (r:Bool),(r=true↔∃c∈l,Ch D P c b)->Kept Nil w w'->K (.bool r) w'):
 bJ prog fh.id #[.slice A n cx,.func (.func dH.id) #[] #[.pointer (some ⟨xb,0,none⟩),.pointer (some ⟨bb,0,none⟩)]] w K:=by
 have hlen:=hl.len;refine cR.of (az.of ?_);refine az.cP (I:=λs w'=>∃i:Nat,s=(0,(i:Int))/\i<=n/\(∀p∈l.take i,¬Ch D P p b)/\Kept Nil w w') (μ:=λs _=>((n:Int)-s.2).toNat) (s:=(0,0)) ⟨0,rfl,Nat.zero_le _,by simp,Kept.refl _ _⟩ ?_;rintro s w' ⟨i,rfl,hi,dr,kw⟩;refine Split.dec (λjT=>?_) (λgE=>?_)
 ·simp only at jT
  have eA:i<n:=by omega
  obtain⟨y,hy⟩:∃y,l[i]? =some y:=⟨_,List.getElem?_eq_getElem (by omega)⟩;refine(hl.same kw).load (i:=(i:Int)) (by omega) hy ?_;refine dH.of ?_;unfold dH.W;intro w4;have k4:Kept Nil w' w4:=(Kept.refl _ _).alloc _;have vB:w4.heap[w'.heap.size]? =some (.cells y.1 ai (0,0)):=aO w' _;clear_value w4;have Nc:=kw.tt k4;refine⟨some ⟨x,0,none⟩,by rw [aI (Nc.heap hg (λh=>h))];rfl,y.1,⟨y.2.1,Cells.bX vB⟩,b.1,⟨b.2.1,Cells.bX (Nc.heap hb (λh=>h))⟩,vr (h.same Nc) y b λw7 r hr k7=>⟨r,rfl,r,rfl,?_⟩⟩;have Ei:=Nc.tt k7;cases r with
  |false=>
   refine Split.no rfl ?_;simp only;rw [dO (n:=(i:Int)) (by omega) (by omega)];refine⟨(0,(i:Int)+1),rfl,⟨i+1,rfl,eA,λp hp hc=>?_,Ei⟩,by simp only;omega⟩;rcases(bV hy).1 hp with hp|rfl
   ·exact dr p hp hc
   ·cases hr.2 hc
  |true=>
   refine Split.yes rfl ⟨(i:Int),rfl,?_⟩;exact hK w7 _ ⟨λ_=>⟨y,List.mem_of_getElem? hy,hr.1 rfl⟩,λ_=>decide_eq_true (by omega)⟩ Ei
 ·simp only at gE
  rw [bg,az.dJ];rw [List.take_of_length_le (by omega)]at dr;exact⟨-1,rfl,hK w' _ ⟨λh=>absurd (of_decide_eq_true h) (by omega),λ⟨p,hp,hn⟩=>absurd hn (dr p hp)⟩ kw⟩
theorem kR(h:XV w F x D P m)(hD:D.length<=5000)(a b:HT)(hK:∀w' (r:Bool),(r=true↔fU D a b)->Kept Nil w w'->K (.bool r) w'):
 bJ prog fu.id #[.pointer (some ⟨x,0,none⟩),.agg a.1,.agg b.1] w K:=by
 refine fu.of ?_;unfold fu.W;intro w4 w5 w6;have k4:Kept Nil w w4:=(Kept.refl _ _).alloc _;have W2:w4.heap[w.heap.size]? =some (.cells #[.pointer (some ⟨x,0,none⟩)] fD (0,0)):=aO w _;have k5:Kept Nil w4 w5:=(Kept.refl _ _).alloc _;have Ow:w5.heap[w4.heap.size]? =some (.cells a.1 ai (0,0)):=aO w4 _;have k6:Kept Nil w5 w6:=(Kept.refl _ _).alloc _;have rr:w6.heap[w5.heap.size]? =some (.cells b.1 ai (0,0)):=aO w5 _;clear_value w6;have yL:=k6.heap Ow (λh=>h);have Ia:=(k5.tt k6).heap W2 (λh=>h);have rl:=(k4.tt k5).tt k6;refine⟨_,by rw [aI Ia];rfl,a.1,⟨a.2.1,Cells.bX yL⟩,b.1,⟨b.2.1,Cells.bX rr⟩,a.2.1,b.2.1,?_⟩;intro w10;have oV:Kept Nil w6 w10:=(Kept.refl _ _).alloc _;have NK:HS w10 (some ⟨w6.heap.size,0,none⟩) 2 [a,b]:=HS.lay (l:= [a,b]) (t:=ai) (by rw [<-GK a b];exact aO w6 _);clear_value w10;have yA:=rl.tt oV;refine rU (h.same yA) NK (by omega) λnM yl=>⟨_,rfl,?_⟩;have uN:=yA.tt yl;have Ek:=oV.tt yl;by_cases dr:∀p∈ [a,b],p∈ids D
 ·refine Split.no (by rw [decide_eq_true dr];rfl) ?_
  have afK:=Ek.heap yL (λh=>h);have afB:=Ek.heap rr (λh=>h);refine⟨a.1,⟨a.2.1,Cells.bX afK⟩,b.1,⟨b.2.1,Cells.bX afB⟩,⟨a.2.ints,b.2.ints⟩,?_⟩;rw [dQ];refine Split.dec (λhe=>?_) (λhe=>?_)
  ·subst he
   exact hK nM false ⟨(λe=>by cases e),λe=>absurd e (fU.irrefl h.W a)⟩ uN
  ·intro np
   have pU:Kept Nil nM np:=(Kept.refl _ _).drew;clear_value np;have WS:=uN.tt pU;have Nq:=Ek.tt pU;refine⟨_,by rw [aI (Nq.heap Ia (λh=>h))];rfl,a.1,⟨a.2.1,Cells.bX (Nq.heap yL (λh=>h))⟩,b.1,⟨b.2.1,Cells.bX (Nq.heap rr (λh=>h))⟩,?_⟩;refine vr (h.same WS) a b λyg r hr Kp=>⟨r,rfl,?_⟩;have RK:=WS.tt Kp;have Np:=Nq.tt Kp;cases r with
   |true=>exact Split.yes rfl (hK yg true ⟨λ_=>(LM h.W h.jv he).2 (.inl (hr.1 rfl)),λ_=>rfl⟩ RK)
   |false=>
    refine Split.no rfl ?_;have h21:=h.same RK;obtain⟨f,hf,Qi⟩:=h21.cov;obtain⟨l,hl,jx⟩:=Qi a;have GA:=hf.look Ax a;have fin:∀ {A:Option Addr} {n c:Nat},(f a).getD (.slice none 0 0)=.slice A n c->HS yg A n l->n<=D.length->
     bJ prog fh.id #[.slice A n c,.func (.func dH.id) #[] #[.pointer (some ⟨w.heap.size,0,none⟩),.pointer (some ⟨w5.heap.size,0,none⟩)]] yg λv28 ab2=>∃t:Bool,v28=.bool t/\K (.bool t) ab2:=λ_ hs hn=>
     xS h21 (Np.heap Ia (λh=>h)) (Np.heap rr (λh=>h)) hs (by omega) λyo r2 lj Nt=>⟨r2,rfl,hK yo r2 (by
      rw [lj,LM h.W h.jv he];constructor
      ·rintro⟨c,h1,h2⟩;exact .inr ⟨c,(jx c).1 h1,h2⟩
      ·rintro(h1|⟨c,h1,h2⟩)
       ·cases hr.2 h1
       ·exact⟨c,(jx c).2 h1,h2⟩) (RK.tt Nt)⟩
    refine⟨some ⟨x,0,none⟩,by rw [aI (Np.heap Ia (λh=>h))];rfl,_,h21.c4,a.1,⟨a.2.1,Cells.bX (Np.heap yL (λh=>h))⟩,?_⟩;rcases hl with⟨h1,rfl⟩|⟨A,n,c,h1,h2,h3,h4,h5⟩
    ·rw [h1]at GA
     exact⟨none,0,0,GA,fin (by rw [h1];rfl) (HS.nil _ _) (by omega)⟩
    ·rw [h1]at GA
     exact⟨A,n,c,GA,fin (by rw [h1];rfl) h3 h4⟩
 ·refine Split.yes (by rw [decide_eq_false dr];rfl) (hK nM false ⟨(λe=>by cases e),λe=>absurd (λp hp=>?_) dr⟩ uN)
  simp only [List.mem_cons,List.not_mem_nil,or_false]at hp;rcases hp with rfl|rfl
  ·exact(e.mem h.W).1
  ·exact(e.mem h.W).2
end
end Go.Proofs.YtfleamccglihoaaGreatDoor
namespace Go.Proofs.YtfleamccglihoaaGreatDoor
open Go.Proofs.Tryz
open Go Go.cF Go.RowKit
section
variable{w w':World}{K:Value->World->Prop}
theorem zQ{A:Option Addr}{n c:Nat}(Il:n<=c)(hK:K (.slice A n n) w):bJ prog dW.id #[.slice A n c] w K:=by
 refine dW.of ⟨⟨by omega,by omega⟩,⟨by omega,by simp⟩,?_⟩;have e:(if(n:Int).toNat=0 then A else A.map (·.add (0*32)))=A:=by
  split
  ·rfl
  ·cases A with
   |none=>rfl
   |some a=>simp [add_zero]
 rw [e];simpa using hK
theorem yN{A:Option Addr}{n c:Nat}{l:List HT}(h:HT)(hl:HS w A n l)(hn:n<=1000000)(hK:∀w',Kept Nil w w'->K (.bool (decide (h∈l))) w'):
 bJ prog dC.id #[.slice A n c,.agg h.1] w K:=by
 have hlen:=hl.len;refine dC.of ?_;unfold dC.W;intro w3;have k3:Kept Nil w w3:=(Kept.refl _ _).alloc _;have qy:w3.heap[w.heap.size]? =some (.cells h.1 ai (0,0)):=aO w _;clear_value w3;refine⟨h.1,⟨h.2.1,Cells.bX qy⟩,?_⟩;refine br.of ?_;unfold br.W;intro w4;have k4:Kept Nil w3 w4:=(Kept.refl _ _).alloc _;have vB:w4.heap[w3.heap.size]? =some (.cells h.1 ai (0,0)):=aO w3 _;clear_value w4;have mD:=k3.tt k4;refine br.cP (I:=λs w'=>∃i:Nat,s=(0,(i:Int))/\i<=n/\Kept Nil w4 w'/\h∉l.take i) (μ:=λs _=>((n:Int)-s.2).toNat) (s:=(0,0)) ⟨0,rfl,Nat.zero_le _,Kept.refl _ _,by simp⟩ ?_;rintro s w' ⟨i,rfl,hi,kw,ns⟩;refine Split.dec (λdD=>?_) (λgE=>?_)
 ·simp only at dD
  have eA:i<n:=by omega
  obtain⟨y,hy⟩:∃y,l[i]? =some y:=⟨_,List.getElem?_eq_getElem (by omega)⟩;intro w9;have k9:Kept Nil w' w9:=(Kept.refl _ _).drew;clear_value w9;have WD:=kw.tt k9;have Dv:=mD.tt WD;refine⟨h.1,⟨h.2.1,Cells.bX (WD.heap vB (λh=>h))⟩,?_⟩;refine(hl.same Dv).load (i:=(i:Int)) (by omega) hy ⟨⟨h.2.ints,y.2.ints⟩,?_⟩;rw [dQ];refine Split.dec (λhe=>?_) (λhe=>?_)
  ·refine⟨(i:Int),rfl,?_⟩
   have:=hK w9 Dv;rw [decide_eq_true (by rw [he];exact List.mem_of_getElem? hy)]at this;rw [show decide ((i:Int)>=(0:Int))=true from decide_eq_true (by omega)];exact this
  ·simp only
   rw [jG (x:=(i:Int)+1) (by omega) (by omega)];refine⟨(0,(i:Int)+1),rfl,⟨i+1,rfl,eA,WD,?_⟩,by simp only;omega⟩;rw [List.take_add_one,hy];simp only [Option.toList_some,List.mem_append,List.mem_singleton,not_or];exact⟨ns,he⟩
 ·simp only at gE
  rw [bg,br.dJ];refine⟨-1,rfl,?_⟩;have:=hK w' (mD.tt kw);rw [List.take_of_length_le (by omega)]at ns;rw [decide_eq_false ns]at this;exact this
theorem Ba{A:Option Addr}{n cx:Nat}{l:List HT}{h:HT}{b:Nat}(hl:HS w A n l)(hb:HS w (some ⟨b,0,none⟩) 1 [h])(hn:n<=100000):
 ∃A' c' w',(Builtin.append_ #[aH,aH] aH #[.slice A n n,.slice (some ⟨b,0,none⟩) 1 cx]).run prog w=.ok (.slice A' (n+1) c') w'/\
  HS w' A' (n+1) (l++ [h])/\n+1<=c'/\(∀a,A'=some a->w.heap.size<=a.block/\a.block<w'.heap.size)/\Kept Nil w w':=by
 have hlen:=hl.len;cases A with
 |none=>
  obtain⟨rfl,rfl⟩:=hl.none;obtain⟨A',c',w',hr,gL,hg,hbk⟩:=dp (cx:=cx) aH (bY.nil w w.heap.size) hb (by omega) (Nat.le_refl _);rw [Nat.zero_add]at hr gL;rw [List.nil_append]at gL;obtain⟨b',rfl⟩:=Row.some gL (by omega);have yK:=Row.bX gL (k:=b') rfl;refine⟨some ⟨b',0,Option.none⟩,c',w',hr,bY.hs gL,?_,λa ha=>?_,Kept.dY (Kept.refl _ _) hg (λk hk=>by cases hk)⟩
  ·rcases Row.own gL with⟨h1,_⟩|⟨_,_,_,_,_,h1,_⟩
   ·cases h1
   ·exact h1
  ·cases ha
   obtain⟨h1,cur,h2⟩:=yK;exact⟨h1,bt h2⟩
 |some a=>
  obtain⟨i,z,hi,hz,hs,Mw,Gs⟩:=qP.inf;have hr:=run_append_grow (P:=prog) (w:=w) aH aH ai i z qP.qG hi hz a n n (dK l) (by rw [fX,hs,hlen]) hl.cells ⟨b,0,Option.none⟩ 1 cx (dK [h]) (by rw [fX,hs];rfl) hb.cells (by omega) (by omega) (growslice_fits (by omega) (by rw [Mw];omega));refine⟨_,_,_,hr,⟨by simp [hlen],λj y hj=>⟨_,rfl,?_,?_⟩⟩,grownCap_ge _ _ _ _,λa' AP=>?_,?_⟩
  ·have:=aO w.drew (.cells ((dK l).toArray++(dK [h]).toArray++Builtin.zeroCells z.cells (grownCap w (n+1) n ai-(n+1))) ai)
   exact bt this
  ·intro q v hq
   rw [bO,bO,Nat.zero_add];have hblk:=aO w.drew (.cells ((dK l).toArray++(dK [h]).toArray++Builtin.zeroCells z.cells (grownCap w (n+1) n ai-(n+1))) ai);have e:(w.drew.heap.size)=w.heap.size:=rfl;rw [e]at hblk;rw [aI hblk];have h1:=mF hj hq;rw [ot]at h1;have dD:=(lgeS h1).1;rw [Array.getElem?_append_left (by simpa using dD)];simpa using h1
  ·cases AP
   have:=aO w.drew (.cells ((dK l).toArray++(dK [h]).toArray++Builtin.zeroCells z.cells (grownCap w (n+1) n ai-(n+1))) ai);exact⟨Nat.le_refl _,bt this⟩
  ·exact(Kept.refl Nil w).drew.alloc _
end
def ji(D:DG)(h s:HT)(l:List HT):Int:=if fg D h l=0 then(if s∈l then 0 else 2)else fg D h l
theorem rL{D:DG}{h:HT}{l:List HT}(e:fg D h l=0):nP D h l=D++ [⟨h,dP l⟩]:=by unfold nP;rw [if_pos e]
section
variable{w w':World}{S ST:Nat->Prop}{t:Nat}{T:List Tr.Nd}{d:Int}
theorem vf(h:Tr.qK w ST t T d):Tr.qK w (λk=>ST k/\k<w.heap.size) t T d:=by
 obtain⟨b,c,L,h⟩:=h;refine⟨b,c,L,{h with jC:=⟨h.jC,h.lt⟩,iH:=⟨h.iH,?_⟩,sU:=λi p hi=>?_}⟩
 ·obtain⟨A,m,hk⟩:=h.sU i p hi
  exact⟨A,m,{hk with lU:=λk e=>⟨hk.lU k e,let ⟨_,_,hc⟩:=Row.bX hk.row e;bt hc⟩}⟩
 ·obtain⟨cur,hc⟩:=h.xX
  exact bt hc
end
section
variable{w w':World}{F:Nat->Prop}{x:Nat}{D:DG}{P:List Int}{m:XM}{K:Value->World->Prop}
theorem LO{v:World}{hid s:HT}{S2 F2 SO2:Nat->Prop}{ps:List HT}{j:Nat}{mj:DN}{H9 sb:Nat}{b8:Int}{Ds:Option Nat}{A7:Option Addr}{n7 c7:Nat}{i7:Int}{s1 s2:Nat}
 (h:XV w F x D P m) (hD:D.length<=5000) (hn:hid∉ids D) (gD:∀p∈ps,p∈ids D) (wg:SS ps) (hj:D[j]? =some mj) (hs:mj.id=s) (Ic:s∈ps)
 (kI:v.heap[x]? =some (.cells #[.pointer (some ⟨m.g,0,none⟩),.pointer (some ⟨m.t,0,none⟩),.map (some m.mb),.slice (some ⟨m.ib,0,none⟩) D.length m.ic,.map (some m.cb)] fT (0,0)))
 (am1:w.heap.size<=H9) (alU:w.heap.size<=sb) (S7:v.heap[H9]? =some (.cells hid.1 ai (0,0))) (Jb:v.heap[sb]? =some (.cells s.1 ai (0,0)))
 (hG:G5 v S2 F2 m.g (D++ [⟨hid,ps⟩])) (hT:Tr.qK v m.ST m.t m.T m.d) (hat:IsMap v m.mb (ids D)) (gL:bY v 0 (some ⟨m.ib,0,none⟩) D.length m.ic (ids D))
 (Tq:∃f,gX v m.cb f/\∀y,∃l,qt v SO2 (D.length+1) (f y) l/\∀c,c∈l↔QL (D++ [⟨hid,ps⟩]) (P++ [(j:Int)]) y c)
 (vN:w.heap.size<=s1) (zD:s1<=s2) (vy:s2<=v.heap.size)
 (Uw:∀k,S2 k->(m.SG k\/w.heap.size<=k)/\k<s1) (Ux:∀k,F2 k->(F k\/w.heap.size<=k)/\k<s1) (Pk:∀k,SO2 k->m.SO k\/(s2<=k/\k<v.heap.size))
 (kv:Kept (λk=>m.lU x k) w v)
 (hK:∀u S' F',FF u S' F' x (D++ [⟨hid,ps⟩]) (P++ [(j:Int)])->Kept (λk=>m.lU x k) w u->(∀k,S' k->m.lU x k\/w.heap.size<=k)->(∀k,F' k->F k\/w.heap.size<=k)->K (.int .i64 0) u):
 aP.T9 (some ⟨x,0,none⟩) ⟨H9,0,none⟩ ⟨sb,0,none⟩ b8 Ds A7 n7 c7 i7 i7 K v:=by
 have W:=h.W;have pV:=h.low;have vA:=(lgeS hj).1;have Sc:=h.Q1;have hox:m.own x x:=.inl rfl;have XR:m.own x m.mb:=.inr (.inl rfl);have XT:m.own x m.ib:=.inr (.inr (.inl rfl));have vQ:m.own x m.cb:=.inr (.inr (.inr rfl));obtain⟨Ur,VV,Rk,VU,Uq,VT⟩:=h.ne;unfold aP.T9;intro Hc;have yy:Kept Nil v Hc:=(Kept.refl _ _).drew;clear_value Hc;have c1:Hc.cell? ((⟨x,0,none⟩:Addr).add 1)=some (.pointer (some ⟨m.t,0,none⟩)):=by rw [bO,aI (yy.heap kI (λh=>h))];rfl
 have c2:Hc.cell? ((⟨x,0,none⟩:Addr).add 2)=some (.map (some m.mb)):=by rw [bO,aI (yy.heap kI (λh=>h))];rfl
 have Lh:=hat.aN yy (λh=>h);have lk:=Lh.zv s;rw [<-hs,W.pos_eq hj]at lk;rw [hs]at lk;refine⟨_,c1,_,c2,s.1,⟨s.2.1,Cells.bX (yy.heap Jb (λh=>h))⟩,_,lk,?_⟩;have ZD:=vf (hT.same yy);refine Tr.JA ZD h.OI (p:=j) (by omega) (by omega) ⟨h.dl.1,by have:=h.dl.2;omega⟩ λHb ST' T' d' ZC Ll XG hd' H8 afP=>⟨_,_,rfl,?_⟩;have akl:=yy.size;have Uv:∀k,ST' k->m.ST k\/Hc.heap.size<=k:=λk hk=>(afP k hk).imp (λh=>h.1) (λh=>h);have nST:∀k,(m.ST k/\k<Hc.heap.size)->m.ST k:=λk h=>h.1;have QZ:=H8.heap (yy.heap kI (λh=>h)) (λe=>(h.od x hox).2.1 e.1);intro Jt;have H7:Kept Nil Hb Jt:=(Kept.refl _ _).drew;clear_value Jt;have JD:=H7.heap QZ (λh=>h);have Gz:∀k,m.ST k->k<w.heap.size:=λk e=>pV k (.inl (.inr (.inl e)));have lox:x<w.heap.size:=pV x (.inl (.inr (.inr (.inr hox))));have akR:m.mb<w.heap.size:=pV _ (.inl (.inr (.inr (.inr XR))));have akS:m.ib<w.heap.size:=pV _ (.inl (.inr (.inr (.inr XT))));have V9:m.cb<w.heap.size:=pV _ (.inl (.inr (.inr (.inr vQ))));have sv:=kv.size;have GD:Jt.heap[H9]? =some (.cells hid.1 ai (0,0)):=H7.heap (H8.heap (yy.heap S7 (λh=>h)) (λe=>by have:=Gz _ e.1;omega)) (λh=>h);have Fq:Jt.cell? ((⟨x,0,none⟩:Addr).add 2)=some (.map (some m.mb)):=by rw [bO,aI JD];rfl
 have TD:IsMap Jt m.mb (ids D):=(Lh.aN H8 (λe=>(h.od _ XR).2.1 e.1)).aN H7 (λh=>h);obtain⟨QS,PO,TC,WQ⟩:=TD.put hn;rw [iL,<-Sc]at PO;refine⟨_,Fq,hid.1,⟨hid.2.1,Cells.bX GD⟩,QS,PO,?_⟩;intro Ha;have WO:Kept Nil QS Ha:=(Kept.refl _ _).drew;clear_value Ha;have AF:=WQ.trans WO (λ_ _ h=>h.elim);have JC:=AF.heap JD (λe=>Ur e);have c3:∀ {u:World},Kept Nil Ha u->u.cell? ((⟨x,0,none⟩:Addr).add 3)=some (.slice (some ⟨m.ib,0,none⟩) D.length m.ic):=λk=>by rw [bO,aI (k.heap JC (λh=>h))];rfl
 have NZ:=AF.heap GD (λe=>by omega);refine⟨_,_,_,c3 (Kept.refl _ _),hid.1,⟨hid.2.1,Cells.bX NZ⟩,hid.2.1,?_⟩;intro BC;have Nw:Kept Nil Ha BC:=(Kept.refl _ _).alloc _;have Zt:HS BC (some ⟨Ha.heap.size,0,none⟩) 1 [hid]:=jy Ha hid;clear_value BC;have Gp:=AF.trans Nw (λ_ _ h=>h.elim);have Ra:bY BC 0 (some ⟨m.ib,0,none⟩) D.length m.ic (ids D):=
  Row.aN (Row.aN (Row.aN (Row.aN gL yy (λ_ _ h=>h)) H8 (λk e e'=>by cases e;exact(h.od _ XT).2.1 e'.1)) H7 (λ_ _ h=>h)) Gp (λk e e'=>by cases e;exact VU e'.symm)
 obtain⟨A',c',G9,Xs,DZ,YP,Zr⟩:=dp (cx:=1) aH Ra Zt (by omega) (Nat.zero_le _);have RI:Kept (· =m.ib) BC G9:=Kept.grown (Kept.refl _ _) YP (λk e _=>by cases e;rfl);obtain⟨Dw,rfl⟩:=Row.some DZ (by omega);have Oa:Dw=m.ib\/BC.heap.size<=Dw:=by
  rcases Zr Dw rfl with e|e
  ·left;simpa [bL]using e.symm
  ·exact .inr e
 have JB:=RI.heap (Nw.heap JC (λh=>h)) (λe=>VV e);refine⟨c3 Nw,some ⟨Dw,0,none⟩,_,c',G9,Xs,Is.mk rfl ⟨?_,?_⟩⟩
 ·rw [bO]
  exact eI JB (by simp)
 intro BB;have aab:BB=G9.setCell ⟨x,3,none⟩ (.slice (some ⟨Dw,0,none⟩) (D.length+1) c'):=by
  show G9.setCell ((⟨x,0,none⟩:Addr).add 3) _=_
  rw [bO]
 have RH:Kept (· =x) G9 BB:=by rw [aab];exact Kept.setCell (S:=λk=>k=x) (Kept.refl _ G9) (p:=⟨x,3,none⟩) (λ_=>rfl) _
 have QY:BB.heap[x]? =some (.cells #[.pointer (some ⟨m.g,0,none⟩),.pointer (some ⟨m.t,0,none⟩),.map (some m.mb),.slice (some ⟨Dw,0,none⟩) (D.length+1) c',.map (some m.cb)] fT (0,0)):=by
  rw [aab,dL JB 3];rfl
 clear_value BB;have akk:=H8.size;have akj:=H7.size;have aki:=Gp.size;have akg:=RI.size;have akf:=RH.size;have kC:Kept (λk=>k=m.ib\/k=x) QS BB:=(((WO.tt Nw).mono (S':=λk=>k=m.ib\/k=x) (λ_ _ h=>h.elim)).trans RI (λ_ _ h=>.inl h)).trans RH (λ_ _ h=>.inr h);have kB:Kept (λk=>k=m.mb\/k=m.ib\/k=x) Hb BB:=((H7.mono (S':=λk=>k=m.mb\/k=m.ib\/k=x) (λ_ _ h=>h.elim)).trans WQ (λ_ _ h=>.inl h)).trans kC (λ_ _ h=>.inr h);have kA:Kept (λk=>m.ST k\/k=m.mb\/k=m.ib\/k=x) v BB:=((yy.mono (S':=λk=>m.ST k\/k=m.mb\/k=m.ib\/k=x) (λ_ _ h=>h.elim)).trans H8 (λ_ _ h=>.inl h.1)).trans kB (λ_ _ h=>.inr h);have HL:∀k,(k=m.mb\/k=m.ib\/k=x)->m.own x k:=λk e=>by
  rcases e with e|e|e
  ·exact .inr (.inl e)
  ·exact .inr (.inr (.inl e))
  ·exact .inl e
 have MX:∀k,m.own x k->k<w.heap.size:=λk e=>pV k (.inl (.inr (.inr (.inr e))));have M5:∀k,m.SG k->k<w.heap.size:=λk e=>pV k (.inl (.inl e));have JZ:∀k,m.SO k->k<w.heap.size:=λk e=>pV k (.inl (.inr (.inr (.inl e))));have nG:∀k,S2 k->¬(m.ST k\/k=m.mb\/k=m.ib\/k=x):=λk h1 h2=>by
  obtain⟨h3,_⟩:=Uw k h1;rcases h2 with h2|h2
  ·rcases h3 with h3|h3
   ·exact(h.gt k h3).1 h2
   ·have:=Gz k h2;omega
  ·have h4:=HL k h2
   rcases h3 with h3|h3
   ·exact(h.od k h4).1 h3
   ·have:=MX k h4;omega
 have nF:∀k,F2 k->¬(m.ST k\/k=m.mb\/k=m.ib\/k=x):=λk h1 h2=>by
  obtain⟨h3,_⟩:=Ux k h1;rcases h2 with h2|h2
  ·rcases h3 with h3|h3
   ·exact(h.fd k h3).1 h2
   ·have:=Gz k h2;omega
  ·have h4:=HL k h2
   rcases h3 with h3|h3
   ·exact(h.od k h4).2.2.2 h3
   ·have:=MX k h4;omega
 have nSO:∀k,SO2 k->¬(m.ST k\/k=m.mb\/k=m.ib\/k=x):=λk h1 h2=>by
  rcases Pk k h1 with h3|⟨h3,_⟩
  ·rcases h2 with h2|h2
   ·exact h.to k h2 h3
   ·exact(h.od k (HL k h2)).2.2.1 h3
  ·rcases h2 with h2|h2
   ·have:=Gz k h2;omega
   ·have:=MX k (HL k h2);omega
 have nT:∀k,(ST' k/\k<Hb.heap.size)->¬(k=m.mb\/k=m.ib\/k=x):=λk h1 h2=>by
  have h4:=HL k h2;rcases Uv k h1.1 with h3|h3
  ·exact(h.od k h4).2.1 h3
  ·have:=MX k h4;omega
 refine hK BB (λk=>(S2 k\/(ST' k/\k<Hb.heap.size)\/SO2 k\/(k=x\/k=m.mb\/k=Dw\/k=m.cb))) F2 ⟨{m with ib:=Dw,ic:=c',T:=T',d:=d',SG:=S2,ST:=λk=>ST' k/\k<Hb.heap.size,SO:=SO2},?_,λk e=>e⟩ ?_ ?_ ?_
 ·refine⟨?_,hG.aN kA nG nF,(vf ZC).aN kB nT,Ll,?_,?_,?_,?_,?_,?_,?_,?_,?_,?_,?_,?_,?_⟩
  ·rw [List.length_append];exact QY
  ·show Tr.cK T'=_
   rw [XG,h.cK]
  ·have:=h.dl
   simp only [List.length_append,List.length_singleton];show 0<=d'/\d'<=_
   omega
  ·rw [mU]
   exact TC.aN kC (λe=>e.elim (λe=>VU e) (λe=>Ur e.symm))
  ·rw [mU,List.length_append]
   refine Row.aN DZ RH (λk e e'=>?_);have e1:Dw=k:=by simpa [bL]using e
   rcases Oa with e|e
   ·exact VV (e'.symm.trans (e1.symm.trans e))
   ·omega
  ·obtain⟨f,hf,hc⟩:=Tq
   refine⟨f,hf.aN kA (λe=>?_),λy=>?_⟩
   ·rcases e with e|e|e|e
    ·exact(h.od _ vQ).2.1 e
    ·exact Uq e.symm
    ·exact VT e.symm
    ·exact Rk e.symm
   ·obtain⟨l,h1,h2⟩:=hc y
    refine⟨l,?_,h2⟩;rw [List.length_append];exact h1.aN kA nSO
  ·exact h.jv.snoc hj (by rw [hs];exact Ic) W.pos
  ·exact W.snoc (nd:=⟨hid,ps⟩) hn gD wg
  ·intro k h1
   obtain⟨h3,h4⟩:=Uw k h1;refine⟨λh2=>?_,λh2=>?_⟩
   ·rcases Uv k h2.1 with h5|h5
    ·exact nG k h1 (.inl h5)
    ·omega
   ·rcases Pk k h2 with h5|h5
    ·rcases h3 with h3|h3
     ·exact(h.gt k h3).2 h5
     ·have:=JZ k h5;omega
    ·omega
  ·intro k h1 h2
   rcases Uv k h1.1 with h5|h5
   ·exact nSO k h2 (.inl h5)
   ·rcases Pk k h2 with h6|h6
    ·have:=JZ k h6;omega
    ·omega
  ·intro k h1
   obtain⟨h3,h4⟩:=Ux k h1;refine⟨λh2=>?_,λh2=>?_⟩
   ·rcases Uv k h2.1 with h5|h5
    ·exact nF k h1 (.inl h5)
    ·omega
   ·rcases Pk k h2 with h5|h5
    ·rcases h3 with h3|h3
     ·exact(h.fd k h3).2 h5
     ·have:=JZ k h5;omega
    ·omega
  ·intro k e
   have e':(k=m.mb\/k=m.ib\/k=x)\/(k=m.cb)\/(k=Dw/\BC.heap.size<=Dw):=by
    rcases e with e|e|e|e
    ·exact .inl (.inr (.inr e))
    ·exact .inl (.inl e)
    ·rcases Oa with h5|h5
     ·exact .inl (.inr (.inl (e.trans h5)))
     ·exact .inr (.inr ⟨e,h5⟩)
    ·exact .inr (.inl e)
   have big:BC.heap.size<=k->¬S2 k/\¬(ST' k/\k<Hb.heap.size)/\¬SO2 k/\¬F2 k:=λhb=>
    ⟨λh1=>by have:=(Uw k h1).2;omega,λh1=>by have:=h1.2;omega,λh1=>(Pk k h1).elim (λh2=>by have:=JZ k h2;omega) (λh2=>by omega),λh1=>by have:=(Ux k h1).2;omega⟩
   rcases e' with e'|e'|⟨rfl,e'⟩
   ·exact⟨λh1=>nG k h1 (.inr e'),λh1=>nT k h1 e',λh1=>nSO k h1 (.inr e'),λh1=>nF k h1 (.inr e')⟩
   ·subst e'
    have ER:=h.od _ vQ;refine⟨λh1=>?_,λh1=>?_,λh1=>?_,λh1=>?_⟩
    ·rcases(Uw _ h1).1 with h2|h2
     ·exact ER.1 h2
     ·omega
    ·rcases Uv _ h1.1 with h2|h2
     ·exact ER.2.1 h2
     ·omega
    ·rcases Pk _ h1 with h2|h2
     ·exact ER.2.2.1 h2
     ·omega
    ·rcases(Ux _ h1).1 with h2|h2
     ·exact ER.2.2.2 h2
     ·omega
   ·exact big e'
  ·show x≠m.mb/\x≠Dw/\x≠m.cb/\m.mb≠Dw/\m.mb≠m.cb/\Dw≠m.cb
   rcases Oa with h5|h5
   ·rw [h5];exact⟨Ur,VV,Rk,VU,Uq,VT⟩
   ·exact⟨Ur,by omega,Rk,by omega,Uq,by omega⟩
  ·intro k e
   have hblk:=(Row.bX DZ (k:=Dw) rfl).2;obtain⟨cur,o5⟩:=hblk;have lib:=bt o5;rcases e with e|e
   ·rcases e with e|e|e|e
    ·have:=(Uw k e).2;omega
    ·have:=e.2;omega
    ·rcases Pk k e with h2|h2
     ·have:=JZ k h2;omega
     ·omega
    ·rcases e with e|e|e|e
     ·omega
     ·have e:k=m.mb:=e;omega
     ·have e:k=Dw:=e;omega
     ·have e:k=m.cb:=e;omega
   ·have:=(Ux k e).2;omega
 ·refine kv.trans kA (λk _ e=>?_)
  rcases e with e|e
  ·exact .inr (.inl e)
  ·exact .inr (.inr (.inr (HL k e)))
 ·intro k e
  rcases e with e|e|e|e
  ·exact(Uw k e).1.imp (λh=>.inl h) (λh=>h)
  ·rcases Uv k e.1 with h5|h5
   ·exact .inl (.inr (.inl h5))
   ·exact .inr (by omega)
  ·rcases Pk k e with h5|h5
   ·exact .inl (.inr (.inr (.inl h5)))
   ·exact .inr (by omega)
  ·rcases e with e|e|e|e
   ·exact .inl (.inr (.inr (.inr (.inl e))))
   ·exact .inl (.inr (.inr (.inr (.inr (.inl e)))))
   ·rcases Oa with h5|h5
    ·exact .inl (.inr (.inr (.inr (.inr (.inr (.inl (e.trans h5)))))))
    ·exact .inr (by omega)
   ·exact .inl (.inr (.inr (.inr (.inr (.inr (.inr e))))))
 ·exact λk e=>(Ux k e).1
end
section
variable{w w':World}{F S:Nat->Prop}{x:Nat}{D:DG}{P:List Int}{m:XM}{K:Value->World->Prop}
theorem IY{u v:World}{hid s:HT}{D':DG}{ps pl:List HT}{H9 ob i:Nat}{A7:Option Addr}{c7:Nat}{b8:Int}{sb:Addr}{f0:HT->Option Value}{Q:aZ}{ob':Option Nat}
 (h:XV w F x D P m) (hD:D.length<=5000) (hwu:w.heap.size<=u.heap.size)
 (kI:u.heap[x]? =some (.cells #[.pointer (some ⟨m.g,0,none⟩),.pointer (some ⟨m.t,0,none⟩),.map (some m.mb),.slice (some ⟨m.ib,0,none⟩) D.length m.ic,.map (some m.cb)] fT (0,0)))
 (S7:u.heap[H9]? =some (.cells hid.1 ai (0,0))) (amt:w.heap.size<=H9) (hold:gX u ob f0) (amq:w.heap.size<=ob) (aec:ob'=some ob)
 (hf0:∀y,(y=s\/fU D y s->f0 y=some (.agg #[.bool true]))/\(¬(y=s\/fU D y s)->f0 y=none))
 (DY:bY u w.heap.size A7 pl.length c7 pl) (rZ:pl.length<=10000)
 (kv:Kept (· =m.cb) u v) (hi:i<=pl.length) {Z:HT->HT->Prop}
 (Tq:∃f,gX v m.cb f/\∀y,∃l,qt v (λk=>m.SO k\/(u.heap.size<=k/\k<v.heap.size)) (D.length+if y∈pl.take i then 1 else 0) (f y) l/\∀c,c∈l↔QL D P y c\/(c=hid/\y∈pl.take i/\y≠s/\¬fU D y s)) (fE:pl.Nodup)
 (hQ:∀v',Kept (· =m.cb) u v'->(∃f,gX v' m.cb f/\∀y,∃l,qt v' (λk=>m.SO k\/(u.heap.size<=k/\k<v'.heap.size)) (D.length+if y∈pl.take (i+1)then 1 else 0) (f y) l/\∀c,c∈l↔QL D P y c\/(c=hid/\y∈pl.take (i+1)/\y≠s/\¬fU D y s))->i<pl.length->
   Q .normal (aP.e2 (some ⟨x,0,none⟩) ⟨H9,0,none⟩ sb b8 ob' A7 pl.length c7 (pl.length:Int) ((i:Int)+1)) v')
 (hE:i=pl.length->Q (.exit 3) (aP.e2 (some ⟨x,0,none⟩) ⟨H9,0,none⟩ sb b8 ob' A7 pl.length c7 (pl.length:Int) (i:Int)) v):
 aP.B2 (some ⟨x,0,none⟩) ⟨H9,0,none⟩ sb b8 ob' A7 pl.length c7 (pl.length:Int) (i:Int) Q v:=by
 subst aec;have hox:m.own x x:=.inl rfl;have vQ:m.own x m.cb:=.inr (.inr (.inr rfl));obtain⟨Ur,VV,Rk,VU,Uq,VT⟩:=h.ne;have V9:m.cb<w.heap.size:=h.low _ (.inl (.inr (.inr (.inr vQ))));have sv:=kv.size;unfold aP.B2;refine Split.dec (λjT=>?_) (λgE=>hE (by omega));have eA:i<pl.length:=by omega
 obtain⟨y,hy⟩:∃y,pl[i]? =some y:=⟨_,List.getElem?_eq_getElem eA⟩;have hyi:y∉pl.take i:=λhm=>by
  obtain⟨j,hj⟩:=List.mem_iff_getElem?.1 hm;rw [List.getElem?_take]at hj;split at hj
  ·rename_i dD
   have h1:=mC 0 j fE hj;rw [mC 0 i fE hy]at h1;simp only [Option.some.injEq]at h1;omega
  ·cases hj
 have Q8:HS v A7 pl.length pl:=bY.hs (Row.aN DY kv (λk hk e=>by have:=(Row.bX DY hk).1;omega));refine Q8.load (i:=(i:Int)) (by omega) (by rw [Int.toNat_natCast];exact hy) ?_;intro w81;obtain⟨uP,ly,lH⟩:=jt (w:=v) (z:=(Et 0)) (cs:=y.1) (t:=ai) (by rw [y.2.1];rfl);refine⟨⟨y.2.1,y.2.one,λj hj=>uP j (by rw [y.2.1];exact hj)⟩,?_⟩;intro QP
 replace ly:QP.heap[v.heap.size]? =some (.cells y.1 ai (0,0)):=ly
 replace lH:Kept Nil v QP:=lH
 clear_value QP;have k84:Kept (· =m.cb) u QP:=kv.trans lH (λ_ _ h=>h.elim);have Sw:gX QP ob f0:=hold.aN k84 (λe=>by omega);have lk:=Sw.look JU y;obtain⟨f,hf,hc⟩:=Tq;have YW:=hf.aN lH (λh=>h);obtain⟨l,tB,K0⟩:=hc y;have adC:=lH.size;have QE:∀ {v':World} {N N':Nat} {a:Option Value} {l:List HT},v.heap.size<=v'.heap.size->N<=N'->qt v' (λk=>m.SO k\/(u.heap.size<=k/\k<v.heap.size)) N a l->qt v' (λk=>m.SO k\/(u.heap.size<=k/\k<v'.heap.size)) N' a l:=λhv hN CQ=>by
  rcases CQ with CQ|⟨A,n,c,h1,h2,h3,h4,h5⟩
  ·exact .inl CQ
  ·exact .inr ⟨A,n,c,h1,h2,h3,by omega,λa ha=>(h5 a ha).imp (λh=>h) (λh=>⟨h.1,by omega⟩)⟩
 have QF:∀ {v':World} {N:Nat} {a:Option Value} {l:List HT},Kept (· =m.cb) v v'->qt v (λk=>m.SO k\/(u.heap.size<=k/\k<v.heap.size)) N a l->qt v' (λk=>m.SO k\/(u.heap.size<=k/\k<v.heap.size)) N a l:=λhk CQ=>CQ.aN hk (λk qm e=>by
  rcases qm with h1|h1
  ·exact(h.od _ vQ).2.2.1 (e▸h1)
  ·omega)
 refine⟨y.1,⟨y.2.1,Cells.bX ly⟩,?_⟩;by_cases lE:y=s\/fU D y s
 ·rw [(hf0 y).1 lE]at lk
  refine⟨_,lk,true,rfl,Split.no rfl ?_⟩;rw [dO (n:=(i:Int)) (by omega) (by omega)];refine hQ QP k84 ⟨f,YW,λz=>?_⟩ eA;obtain⟨lz,h1,h2⟩:=hc z;refine⟨lz,QE adC (by
   by_cases hz:z∈pl.take i
   ·rw [if_pos hz,if_pos ((bV hy).2 (.inl hz))];exact Nat.le_refl _
   ·rw [if_neg hz];omega) (QF (lH.mono (λ_ _ h=>h.elim)) h1),λc=>?_⟩
  rw [h2,bV hy];constructor
  ·rintro(h3|⟨h3,h4,h5,h6⟩)
   ·exact .inl h3
   ·exact .inr ⟨h3,.inl h4,h5,h6⟩
  ·rintro(h3|⟨h3,h4|rfl,h5,h6⟩)
   ·exact .inl h3
   ·exact .inr ⟨h3,h4,h5,h6⟩
   ·exact absurd lE (λe=>e.elim h5 h6)
 ·rw [(hf0 y).2 lE]at lk
  refine⟨_,lk,false,rfl,Split.yes rfl ?_⟩;intro FJ;have Wu:Kept Nil QP FJ:=(Kept.refl _ _).drew;clear_value FJ;have acM:=lH.tt Wu;have K9:=Wu.heap ly (λh=>h);have vG:∀ {q:World},Kept Nil FJ q->q.cell? ((⟨x,0,none⟩:Addr).add 4)=some (.map (some m.cb)):=λk=>by
   rw [bO,aI (k.heap (Wu.heap (k84.heap kI (λe=>Rk e)) (λh=>h)) (λh=>h))];rfl
  have oM:∀ {q:World},Kept Nil FJ q->∃cs:Array Value,(.agg y.1:Value)=.agg cs/\cs.size=32/\Cells q (aU v.heap.size) cs:=λk=>⟨y.1,rfl,y.2.1,Cells.bX (k.heap K9 (λh=>h))⟩;have Qa:FJ.heap[H9]? =some (.cells hid.1 ai (0,0)):=Wu.heap (k84.heap S7 (λe=>by omega)) (λh=>h);have ae7:∀ {q:World},Kept Nil FJ q->∃cs:Array Value,(.agg hid.1:Value)=.agg cs/\cs.size=32/\Cells q (⟨H9,0,none⟩:Addr) cs:=λk=>⟨hid.1,rfl,hid.2.1,Cells.bX (k.heap Qa (λh=>h))⟩;have YV:=YW.aN Wu (λh=>h);obtain⟨A,n,c,iM,Il,Ew,hnN⟩:∃(A:Option Addr) (n c:Nat),(f y).getD (.slice none 0 0)=.slice A n c/\n<=c/\HS v A n l/\n<=D.length:=by
   rcases tB with⟨h1,h2⟩|⟨A,n,c,h1,h2,h3,h4,_⟩
   ·exact⟨none,0,0,by rw [h1];rfl,Nat.le_refl _,by rw [h2];exact HS.nil _ _,by omega⟩
   ·rw [if_neg hyi]at h4
    exact⟨A,n,c,by rw [h1];rfl,h2,h3,by omega⟩
  have lk2:∀ {q:World},Kept Nil FJ q->(Instr.lookup jc (.map (some m.cb)) (.agg y.1) false).run prog q=.ok (.slice A n c) q:=λk=>by
   have:=(YV.aN k (λh=>h)).look Ax y;rw [iM]at this;exact this
  have fin:∀ {q:World} {bb:Nat},Kept Nil FJ q->HS q (some ⟨bb,0,none⟩) 1 [hid]->
   ∃(A':Option Addr) (n' c':Nat) (q2:World),(Builtin.append_ #[aH,aH] aH #[.slice A n n,.slice (some ⟨bb,0,none⟩) 1 1]).run prog q=.ok (.slice A' n' c') q2/\(∃cs:Array Value,(.agg y.1:Value)=.agg cs/\cs.size=32/\Cells q2 (aU v.heap.size) cs)/\q2.cell? ((⟨x,0,none⟩:Addr).add 4)=some (.map (some m.cb))/\
    ∃q3:World,(Instr.mapUpdate jc (.map (some m.cb)) (.agg y.1) (.slice A' n' c')).run prog q2=.ok () q3/\Q .normal (aP.e2 (some ⟨x,0,none⟩) ⟨H9,0,none⟩ sb b8 (some ob) A7 pl.length c7 (pl.length:Int) (i64.wrap ((i:Int)+(1:Int)))) q3:=by
   intro q bb kq yK;have kvq:=acM.tt kq;obtain⟨A',c',q2,hr,zD,ES,oN,kq2⟩:=Ba (cx:=1) (Ew.same kvq) yK (by omega);have k2:=kq.tt kq2;obtain⟨q3,yF,hf3,k3⟩:=(YV.aN k2 (λh=>h)).put Ax y (.slice A' (n+1) c');refine⟨A',_,c',q2,hr,oM k2,vG k2,q3,yF,?_⟩;rw [dO (n:=(i:Int)) (by omega) (by omega)];have Wl:=kvq.tt kq2;have Wk:Kept (· =m.cb) v q3:=(Wl.mono (S':=(· =m.cb)) (λ_ _ h=>h.elim)).tt k3;have sq2:=Wl.size;have sq3:=k3.size;have svq:=kvq.size;refine hQ q3 (kv.tt Wk) ⟨_,hf3,λz=>?_⟩ eA;by_cases hz:z=y
   ·subst hz
    refine⟨l++ [hid],.inr ⟨A',n+1,c',by simp,ES,zD.aN k3 (λa ha e=>by have:=(oN a ha).1;omega),?_,λa ha=>.inr ?_⟩,λc=>?_⟩
    ·rw [if_pos ((bV hy).2 (.inr rfl))];omega
    ·have:=oN a ha;omega
    ·rw [List.mem_append,List.mem_singleton,K0,bV hy]
     constructor
     ·rintro((h3|⟨h3,h4,h5,h6⟩)|h3)
      ·exact .inl h3
      ·exact .inr ⟨h3,.inl h4,h5,h6⟩
      ·exact .inr ⟨h3,.inr rfl,λe=>lE (.inl e),λe=>lE (.inr e)⟩
     ·rintro(h3|⟨h3,h4,h5,h6⟩)
      ·exact .inl (.inl h3)
      ·exact .inr h3
   ·obtain⟨lz,h1,h2⟩:=hc z
    refine⟨lz,?_,λc=>?_⟩
    ·simp only [hz,if_false]
     refine QE (by omega) ?_ (QF Wk h1);by_cases hzi:z∈pl.take i
     ·rw [if_pos hzi,if_pos ((bV hy).2 (.inl hzi))];exact Nat.le_refl _
     ·rw [if_neg hzi];omega
    ·rw [h2,bV hy]
     constructor
     ·rintro(h3|⟨h3,h4,h5,h6⟩)
      ·exact .inl h3
      ·exact .inr ⟨h3,.inl h4,h5,h6⟩
     ·rintro(h3|⟨h3,h4|h4,h5,h6⟩)
      ·exact .inl h3
      ·exact .inr ⟨h3,h4,h5,h6⟩
      ·exact absurd h4 hz
  refine⟨_,vG (Kept.refl _ _),y.1,⟨y.2.1,Cells.bX K9⟩,_,vG (Kept.refl _ _),y.1,⟨y.2.1,Cells.bX K9⟩,A,n,c,lk2 (Kept.refl _ _),hid.1,⟨hid.2.1,Cells.bX Qa⟩,?_,⟨hid.2.1,?_⟩⟩
  ·refine zQ Il ⟨A,n,n,rfl,ae7 (Kept.refl _ _),oM (Kept.refl _ _),vG (Kept.refl _ _),hid.2.1,?_⟩
   intro Hd;have En:Kept Nil FJ Hd:=(Kept.refl _ _).alloc _;have Zv:HS Hd (some ⟨FJ.heap.size,0,none⟩) 1 [hid]:=jy FJ hid;clear_value Hd;exact⟨oM En,vG En,fin En Zv⟩
  ·intro QT
   have CC:Kept Nil FJ QT:=(Kept.refl _ _).alloc _;have Zu:HS QT (some ⟨FJ.heap.size,0,none⟩) 1 [hid]:=jy FJ hid;clear_value QT;exact⟨lk2 CC,oM CC,vG CC,oM CC,vG CC,zQ Il ⟨A,n,n,rfl,oM CC,vG CC,fin CC Zu⟩⟩
end
def pE(D:DG)(h s:HT)(l:List HT):DG:=if ji D h s l=0 then D++ [⟨h,dP l⟩]else D
def pD(D:DG)(P:List Int)(h s:HT)(l:List HT):List Int:=if ji D h s l=0 then P++ [(((pos s (ids D) 0).getD 0:Nat):Int)]else P
section
variable{w w':World}{F S:Nat->Prop}{x:Nat}{D:DG}{P:List Int}{m:XM}{K:Value->World->Prop}
theorem HF(h:XV w F x D P m)(hD:D.length<=5000)(hT:tm w)(Mx:¬m.SG (Tryz.lG.g 1)){A:Option Addr}{n cx:Nat}{lp:List HT}(hl:HS w A n lp)(hn:n<=5000)(hid s:HT)
 (ns:∀v,Kept Nil w v->ji D hid s lp≠0->K (.int .i64 (ji D hid s lp)) v)
 (yD:∀u S' F',FF u S' F' x (pE D hid s lp) (pD D P hid s lp)->Kept (λk=>m.lU x k) w u->(∀k,S' k->m.lU x k\/w.heap.size<=k)->(∀k,F' k->F k\/w.heap.size<=k)->ji D hid s lp=0->K (.int .i64 0) u):
 bJ prog aP.id #[.pointer (some ⟨x,0,none⟩),.agg hid.1,.agg s.1,.slice A n cx] w K:=by
 have hlen:=hl.len;have W:=h.W;refine aP.of ?_;unfold aP.W;intro w5 w6;have k5:Kept Nil w w5:=(Kept.refl _ _).alloc _;have Ob:w5.heap[w.heap.size]? =some (.cells hid.1 ai (0,0)):=aO w _;have k6:Kept Nil w5 w6:=(Kept.refl _ _).alloc _;have NI:w6.heap[w5.heap.size]? =some (.cells s.1 ai (0,0)):=aO w5 _;clear_value w6;have UU:=k6.heap Ob (λh=>h);have rl:=k5.tt k6;have s5:=k5.size;have l5:=bt Ob;obtain⟨bl,c,mbg,M,G⟩:=h.G;have hG:∀ {v:World},Kept Nil w v->GV v m.SG F m.g D (fR D) bl c mbg M:=λk=>G.same k;refine vp (h.same rl) ⟨true,rfl,Split.no rfl ⟨_,(h.same rl).c0,hid.1,⟨hid.2.1,Cells.bX UU⟩,?_⟩⟩;refine se (hG rl) hid λjg Du=>⟨_,rfl,?_⟩;have Ny:=rl.tt Du;by_cases gD:hid∈ids D
 ·have e:ji D hid s lp=7:=by simp [ji,fg,gD]
  have:=ns jg Ny (by rw [e];decide);rw [e]at this;exact Split.yes (decide_eq_true gD) this
 refine Split.no (decide_eq_false gD) ?_;by_cases h0:n=0
 ·have el:lp= []:=List.length_eq_zero_iff.1 (by omega)
  have e:ji D hid s lp=9:=by subst el;simp [ji,fg,gD,MO]
  have:=ns jg Ny (by rw [e];decide);rw [e]at this;exact Split.yes (by simp [h0]) this
 refine Split.no (by simp [h0]) ?_;refine im (hl.same Ny) (by omega) λA17 c17 tz aho Em=>⟨A17,_,c17,rfl,?_⟩;have Nx:=Ny.tt Em;have gQ:lp≠ []:=λe=>h0 (by rw [<-hlen,e];rfl);by_cases Ew:¬(dP lp).length=n
 ·have e:ji D hid s lp=9:=by
   have h1:(dP lp).length=0\/(dP lp).length≠lp.length:=.inr (by omega);have h2:fg D hid lp=9:=by unfold fg;rw [if_neg gD,if_pos h1]
   simp [ji,h2]
  have:=ns tz Nx (by rw [e];decide);rw [e]at this;exact Split.yes (by simp only [bne_iff_ne,ne_eq];omega) this
 replace Ew:=Classical.not_not.1 Ew
 refine Split.no (by rw [Ew];simp) ?_;refine rU (h.same Nx) (hl.same Nx) (by omega) λFM Dt=>⟨_,rfl,?_⟩;have RL:=Nx.tt Dt;have X1:¬((dP lp).length=0\/(dP lp).length≠lp.length):=by omega
 by_cases dr:¬∀p∈lp,p∈ids D
 ·have hex:∃p∈dP lp,p∉ids D:=Classical.byContradiction λhc=>dr λp hp=>Classical.byContradiction λhq=>hc ⟨p,dU.2 hp,hq⟩
  have e:ji D hid s lp=6:=by
   have:fg D hid lp=6:=by unfold fg;rw [if_neg gD,if_neg X1,if_pos hex]
   simp [ji,this]
  have:=ns FM RL (by rw [e];decide);rw [e]at this;exact Split.yes (by rw [decide_eq_false dr];rfl) this
 replace dr:=Classical.not_not.1 dr
 refine Split.no (by rw [decide_eq_true dr];rfl) ?_;have afe:¬∃p∈dP lp,p∉ids D:=λ⟨p,hp,hq⟩=>hq (dr p (dU.1 hp));have eC:fg D hid lp=0:=by unfold fg;rw [if_neg gD,if_neg X1,if_neg afe]
 have Wy:=(Du.tt Em).tt Dt;refine⟨s.1,⟨s.2.1,Cells.bX (Wy.heap NI (λh=>h))⟩,?_⟩;refine yN s (hl.same RL) (by omega) λnQ tA=>⟨_,rfl,?_⟩;have Eo:=RL.tt tA;by_cases ym:¬s∈lp
 ·have e:ji D hid s lp=2:=by simp [ji,eC,ym]
  have:=ns nQ Eo (by rw [e];decide);rw [e]at this;exact Split.yes (by rw [decide_eq_false ym];rfl) this
 replace ym:=Classical.not_not.1 ym
 refine Split.no (by rw [decide_eq_true ym];rfl) ?_;have eX:ji D hid s lp=0:=by simp [ji,eC,ym]
 have No:=Wy.tt tA;obtain⟨mj,SI,NW⟩:=eV.1 (dr s ym);obtain⟨j,hj⟩:=List.mem_iff_getElem?.1 SI;have eP:pD D P hid s lp=P++ [(j:Int)]:=by
  unfold pD;rw [if_pos eX,<-NW,W.pos_eq hj];rfl
 have eD:pE D hid s lp=D++ [⟨hid,dP lp⟩]:=by unfold pE;rw [if_pos eX]
 intro sK;have H6:Kept Nil nQ sK:=(Kept.refl _ _).alloc _;have aes:gX sK nQ.heap.size (λ_=>none):=gX.new nQ;clear_value sK;have KM:=(No.tt H6).heap NI (λh=>h);obtain⟨I5,adR,Yj,Km⟩:=aes.put JU s (.agg #[.bool true]);refine⟨s.1,⟨s.2.1,Cells.bX KM⟩,I5,adR,?_⟩;have ob0:w5.heap.size<nQ.heap.size:=by have:=bt NI;have:=No.size;omega
 have adD:=Km.heap KM (λe=>by omega);refine⟨s.1,⟨s.2.1,Cells.bX adD⟩,s.2.1,?_⟩;intro Um;have k30:Kept Nil I5 Um:=(Kept.refl _ _).alloc _;have adh:HS Um (some ⟨I5.heap.size,0,none⟩) 1 [s]:=jy I5 s;clear_value Um;have ako:=Eo.size;have Ko:Kept Nil nQ Um:=(H6.trans Km (λk hk e=>by omega)).tt k30;have RJ:=Eo.tt Ko;refine xQ (hG RJ) W (by omega) (hT.same RJ) adh (by omega) λA32 c32 vZ O9 I7=>⟨A32,_,c32,rfl,?_⟩;have ac0:=RJ.tt I7;have aer:gX vZ nQ.heap.size (λz=>if z=s then some (.agg #[.bool true])else none):=(Yj.aN k30 (λh=>h)).aN I7 (λh=>h);have p1:=mP D λa=>∃z∈ [s],fU D a z
 change (fI D [s]).length<=_ at p1
 have ahi:=Ko.size;have ob1:=Yj.lt;have s30:=k30.size;have PS:∀y,y∈fI D [s]↔fU D y s:=λy=>by
  unfold fI;rw [iX];constructor
  ·rintro⟨_,z,hz,e⟩
   rw [List.mem_singleton]at hz
   rwa [hz]at e
  ·exact λe=>⟨(e.mem W).1,s,by simp,e⟩
 have akY:∀k,k=nQ.heap.size->¬k<w.heap.size:=λk e=>by omega
 refine aP.cP (I:=λi v=>∃(q:Nat) (f:HT->Option Value),i=(q:Int)/\q<=(fI D [s]).length/\gX v nQ.heap.size f/\(∀y,(y=s\/y∈(fI D [s]).take q->f y=some (.agg #[.bool true]))/\(¬(y=s\/y∈(fI D [s]).take q)->f y=none))/\Kept (· =nQ.heap.size) vZ v)
  (μ:=λi _=>(((fI D [s]).length:Int)-i).toNat) (s:=0) ⟨0,_,rfl,Nat.zero_le _,aer,λy=>⟨λe=>by
    rcases e with e|e
    ·rw [if_pos e]
    ·simp at e,λe=>if_neg λe'=>e (.inl e')⟩,Kept.refl _ _⟩ ?_
 rintro i v ⟨q,f,rfl,hq,hmv,Tl,kv⟩;have yz:Kept Nil w v:=ac0.trans kv (λk hk e=>by omega);refine Split.dec (λjT=>?_) (λgE=>?_)
 ·have eA:q<(fI D [s]).length:=by omega
  obtain⟨y,hy⟩:∃y,(fI D [s])[q]? =some y:=⟨_,List.getElem?_eq_getElem eA⟩;have Q8:=bY.hs (Row.aN O9 kv (λk hk e=>by have:=(Row.bX O9 hk).1;omega));refine Q8.load (i:=(q:Int)) (by omega) (by rw [Int.toNat_natCast];exact hy) ?_;intro O2;obtain⟨uP,ly,lH⟩:=jt (w:=v) (z:=(Et 0)) (cs:=y.1) (t:=ai) (by rw [y.2.1];rfl);refine⟨⟨y.2.1,y.2.one,λj hj=>uP j (by rw [y.2.1];exact hj)⟩,?_⟩;intro w49
  replace ly:w49.heap[v.heap.size]? =some (.cells y.1 ai (0,0)):=ly
  replace lH:Kept Nil v w49:=lH
  clear_value w49;obtain⟨Jq,Sr,aep,k51⟩:=(hmv.aN lH (λh=>h)).put JU y (.agg #[.bool true]);refine⟨y.1,⟨y.2.1,Cells.bX ly⟩,Jq,Sr,?_⟩;rw [dO (n:=(q:Int)) (by omega) (by omega)];refine⟨(q:Int)+1,rfl,⟨q+1,_,rfl,eA,aep,λz=>?_,(kv.trans lH (λ_ _ h=>h.elim)).tt k51⟩,by simp only;omega⟩;rw [bV hy];constructor
  ·intro e
   by_cases hz:z=y
   ·rw [if_pos hz]
   ·rw [if_neg hz]
    exact(Tl z).1 (e.imp (λh=>h) (λh=>h.resolve_right hz))
  ·intro e
   rw [if_neg (λhz=>e (.inr (.inr hz)))];exact(Tl z).2 (λe'=>e (e'.imp (λh=>h) (λh=>.inl h)))
 ·have Xw:q=(fI D [s]).length:=by omega
  subst Xw;rw [List.take_of_length_le (Nat.le_refl _)]at Tl;rw [bg,aP.Jm];unfold aP.Bg;have Kl:Kept (· =nQ.heap.size) nQ v:=((Ko.tt I7).mono (S':=(· =nQ.heap.size)) (λ_ _ h=>h.elim)).tt kv;have hiv:v.heap[w.heap.size]? =some (.cells hid.1 ai (0,0)):=Kl.heap (No.heap UU (λh=>h)) (λe=>by omega);have Sf:v.heap[w5.heap.size]? =some (.cells s.1 ai (0,0)):=Kl.heap (No.heap NI (λh=>h)) (λe=>by omega);have sv:=yz.size;have s2v:=Kl.size;refine⟨hid.1,⟨hid.2.1,Cells.bX hiv⟩,?_⟩;refine OM (hG yz) W (by omega) (hl.same yz) (by omega) hid λI4 S2 F2 ZO H0 TH TL=>⟨_,rfl,?_⟩;rw [rL eC]at ZO;have M5:∀k,m.SG k->k<w.heap.size:=λk e=>h.low k (.inl (.inl e));have s64:=H0.size;have S8:=H0.heap hiv (λe=>by have:=M5 _ e;omega);have Xg:=H0.heap Sf (λe=>by have:=M5 _ e;omega);have aeo:=hmv.aN H0 (λe=>by have:=M5 _ e;omega);refine⟨hid.1,⟨hid.2.1,Cells.bX S8⟩,hid.2.1,?_⟩;intro Jo;have Mc:Kept Nil I4 Jo:=(Kept.refl _ _).alloc _;have adb:HS Jo (some ⟨I4.heap.size,0,none⟩) 1 [hid]:=jy I4 hid;clear_value Jo;have sn:∀p∈dP lp,p∈ids D:=λp hp=>dr p (dU.1 hp);have W':lr (D++ [⟨hid,dP lp⟩]):=W.snoc (nd:=⟨hid,dP lp⟩) gD sn (jL lp);obtain⟨bl',c',V0,M',G64⟩:=ZO;have Rm:∀k,m.own x k->k<w.heap.size:=λk e=>h.low k (.inl (.inr (.inr (.inr e))));have hTv:tm I4:=(hT.same yz).aN H0 Mx;refine xQ (G64.same Mc) W' (by simp;omega) (hTv.same Mc) adb (by omega) λA69 c69 FK JK Wx=>⟨A69,_,c69,rfl,?_⟩;have zy:=Mc.tt Wx;have ahf:=zy.size;have p2:=mP (D++ [⟨hid,dP lp⟩]) λa=>∃z∈ [hid],fU (D++ [⟨hid,dP lp⟩]) a z
  change (fI (D++ [⟨hid,dP lp⟩]) [hid]).length<=_ at p2
  rw [List.length_append,List.length_singleton]at p2;have ED:∀y,y∈fI (D++ [⟨hid,dP lp⟩]) [hid]↔fU (D++ [⟨hid,dP lp⟩]) y hid:=λy=>by
   unfold fI;rw [iX];constructor
   ·rintro⟨_,z,hz,e⟩
    rw [List.mem_singleton]at hz
    rwa [hz]at e
   ·exact λe=>⟨(e.mem W').1,hid,by simp,e⟩
  have mS:Kept (λk=>m.SG k) w FK:=((yz.mono (S':=λk=>m.SG k) (λ_ _ h=>h.elim)).tt H0).trans zy (λ_ _ h=>h.elim);have Rl:∀k,m.own x k->¬m.SG k:=λk e=>(h.od k e).1;have Vr:=mS.heap h.top (Rl _ (.inl rfl));have fE:(fI (D++ [⟨hid,dP lp⟩]) [hid]).Nodup:=(jL _).nodup;obtain⟨f0,afd,aff⟩:=h.cov;have ahC:∀k,m.own x k->¬(k=m.cb)\/k=m.cb:=λk _=>(Classical.em _).symm;have vQ:m.own x m.cb:=.inr (.inr (.inr rfl));have V9:=Rm _ vQ;generalize rZ:fI (D++ [⟨hid,dP lp⟩]) [hid]=pl at JK p2 ED fE⊢;refine aP.iY (I:=λi u=>∃q:Nat,i=(q:Int)/\q<=pl.length/\Kept (· =m.cb) FK u/\∃f,gX u m.cb f/\∀y,∃l,qt u (λk=>m.SO k\/(FK.heap.size<=k/\k<u.heap.size)) (D.length+if y∈pl.take q then 1 else 0) (f y) l/\∀c,c∈l↔QL D P y c\/(c=hid/\y∈pl.take q/\y≠s/\¬fU D y s))
   (μ:=λi _=>((pl.length:Int)-i).toNat) (s:=0) ⟨0,rfl,Nat.zero_le _,Kept.refl _ _,f0,afd.aN mS (Rl _ vQ),λy=>?_⟩ ?_
  ·obtain⟨l,h1,h2⟩:=aff y
   refine⟨l,?_,λc=>?_⟩
   ·rcases h1.aN mS (λk e e'=>(h.gt k e').2 e)with h3|⟨A,n,c,g1,g2,g3,g4,g5⟩
    ·exact .inl h3
    ·exact .inr ⟨A,n,c,g1,g2,g3,by omega,λa ha=>.inl (g5 a ha)⟩
   ·rw [h2]
    simp
  ·rintro i u ⟨q,rfl,UL,ku,Qi⟩
   refine IY h hD mS.size Vr (zy.heap S8 (λh=>h)) (Nat.le_refl _) ((aeo.aN Mc (λh=>h)).aN Wx (λh=>h)) (by omega) rfl
    (λy=>⟨λe=>(Tl y).1 (e.imp (λh=>h) (λh=>(PS y).2 h)),λe=>(Tl y).2 (λe'=>e (e'.imp (λh=>h) (λh=>(PS y).1 h)))⟩)
    (Row.base JK (λb hb=>by have:=(Row.bX JK hb).1;have:=Mc.size;omega)) (by omega) ku UL (Z:=λ_ _=>True) Qi fE (hid:=hid) (s:=s) (D':=D) (ps:= []) (λv' kv' ae6 dD=>?_) (λXw=>?_)
   ·exact⟨(q:Int)+1,rfl,⟨q+1,rfl,dD,kv',ae6⟩,by simp only;omega⟩
   ·subst Xw
    rw [bg];unfold aP.e2;rw [aP.abX];rw [List.take_of_length_le (Nat.le_refl _)]at Qi;have Kf:Kept (λk=>m.SG k\/k=m.cb) w u:=(mS.mono (S':=λk=>m.SG k\/k=m.cb) (λ_ _ h=>.inl h)).trans ku (λ_ _ h=>.inr h);have su:=ku.size;obtain⟨Ur,VV,Rk,VU,Uq,VT⟩:=h.ne;have M6:∀k,F k->k<w.heap.size:=λk e=>h.low k (.inr e);have af0:GV FK S2 F2 m.g (D++ [⟨hid,dP lp⟩]) (fR (D++ [⟨hid,dP lp⟩])) bl' c' V0 M':=G64.same zy;have nS2:∀k,S2 k->¬k=m.cb:=λk h1 e=>by
     rcases TH k h1 with h2|h2
     ·exact(h.od _ vQ).1 (e▸h2)
     ·omega
    have nF2:∀k,F2 k->¬k=m.cb:=λk h1 e=>by
     rcases TL k h1 with h2|h2
     ·exact(h.od _ vQ).2.2.2 (e▸h2)
     ·omega
    have Bj:∀k,m.own x k->k≠m.cb->¬(m.SG k\/k=m.cb):=λk e gQ e'=>e'.elim (Rl k e) gQ;refine LO (s1:=I4.heap.size) (s2:=FK.heap.size) (S2:=S2) (F2:=F2) (SO2:=λk=>m.SO k\/(FK.heap.size<=k/\k<u.heap.size)) (mj:=mj) h hD gD sn (jL lp) hj NW (dU.2 ym) (Kf.heap h.top (Bj _ (.inl rfl) Rk))
     (Nat.le_refl _) (by omega) (ku.heap (zy.heap S8 (λh=>h)) (λe=>by omega)) (ku.heap (zy.heap Xg (λh=>h)) (λe=>by omega)) ⟨bl',c',V0,M',af0.aN ku nS2 nF2⟩
     (h.T.aN Kf (λk e e'=>e'.elim (λe'=>(h.gt k e').1 e) (λe'=>(h.od _ vQ).2.1 (e'▸e)))) (h.at_.aN Kf (Bj _ (.inr (.inl rfl)) Uq)) (Row.aN h.row Kf (λk e=>by cases e;exact Bj _ (.inr (.inr (.inl rfl))) VT))
     ?_ (by omega) (by omega) su (λk e=>⟨(TH k e).imp (λh=>h) (λh=>by omega),G64.low k (.inl e)⟩) (λk e=>⟨(TL k e).imp (λh=>h) (λh=>by omega),G64.low k (.inr e)⟩) (λk e=>e)
     (Kf.mono (S':=λk=>m.lU x k) (λk _ e=>e.elim (λe=>.inl e) (λe=>.inr (.inr (.inr (.inr (.inr (.inr e)))))))) (λu2 S' F' hI kU hSu Qy=>?_)
    ·obtain⟨f,hf,hc⟩:=Qi
     refine⟨f,hf,λy=>?_⟩;obtain⟨l,h1,h2⟩:=hc y;refine⟨l,?_,λc=>?_⟩
     ·rcases h1 with h3|⟨A,n,c,g1,g2,g3,g4,g5⟩
      ·exact .inl h3
      ·refine .inr ⟨A,n,c,g1,g2,g3,?_,g5⟩
       split at g4<;>omega
     ·rw [h2,LC W h.jv (nd:=⟨hid,dP lp⟩) gD sn hj,NW]
      constructor
      ·rintro(h3|⟨h3,h4,h5,h6⟩)
       ·exact .inl h3
       ·exact .inr ⟨h3,(ED y).1 h4,h5,h6⟩
      ·rintro(h3|⟨h3,h4,h5,h6⟩)
       ·exact .inl h3
       ·exact .inr ⟨h3,(ED y).2 h4,h5,h6⟩
    ·refine yD u2 S' F' ?_ kU hSu Qy eX
     rw [eD,eP];exact hI
end
def gu:HT:=hx 0 (by decide)
def eh(D:DG)(P:List Int)(h:HT)(l:List HT):Prop:=(h∉ids D/\l= [])\/∃(i:Nat) (nd:DN) (ks:List Nat),D[i]? =some nd/\nd.id=h/\Up P i ks/\l=ks.map (qu D)
theorem pr{D:DG}{i:Nat}{nd:DN}(h:D[i]? =some nd):qu D i=nd.id:=by unfold qu;rw [h]
theorem eh.ex{D:DG}{P:List Int}(H:uw D P)(h:HT):∃l,eh D P h l:=by
 by_cases hm:h∈ids D
 ·obtain⟨nd,fE,e⟩:=eV.1 hm
  obtain⟨i,hi⟩:=List.mem_iff_getElem?.1 fE;obtain⟨ks,hk⟩:=Up.ex H.par i (by rw [H.len];exact(lgeS hi).1);exact⟨_,.inr ⟨i,nd,ks,hi,e,hk,rfl⟩⟩
 ·exact⟨[],.inl ⟨hm,rfl⟩⟩
theorem eh.mem{D:DG}{P:List Int}(W:lr D)(H:uw D P){h:HT}{l:List HT}(c:eh D P h l){a:HT}:a∈l↔Ch D P a h:=by
 rcases c with⟨h1,rfl⟩|⟨i,nd,ks,h1,rfl,h3,rfl⟩
 ·simp only [List.not_mem_nil,false_iff]
  exact λe=>h1 e.mem.2
 ·have eA:i<P.length:=by rw [H.len];exact(lgeS h1).1
  rw [List.mem_map];constructor
  ·rintro⟨k,hk,rfl⟩
   have hu:=(h3.mem H.par eA).1 hk;have EI:=hu.lt';rw [H.len]at EI;obtain⟨nk,UO⟩:∃nk,D[k]? =some nk:=⟨_,List.getElem?_eq_getElem EI⟩;exact⟨i,k,nd,nk,h1,rfl,UO,(pr UO).symm,hu⟩
  ·rintro⟨i',k,ni,nk,g1,g2,g3,g4,g5⟩
   have:=W.inj g1 h1 g2;subst this;exact⟨k,(h3.mem H.par eA).2 g5,by rw [pr g3,g4]⟩
theorem eh.one{D:DG}{P:List Int}(W:lr D)(H:uw D P){h:HT}{l l':List HT}(c:eh D P h l)(c':eh D P h l'):l=l':=by
 rcases c with⟨h1,rfl⟩|⟨i,nd,ks,h1,h2,h3,rfl⟩
 ·rcases c' with⟨_,rfl⟩|⟨i,nd,ks,g1,g2,_,_⟩
  ·rfl
  ·exact absurd (eV.2 ⟨nd,List.mem_of_getElem? g1,g2⟩) h1
 ·rcases c' with⟨g1,rfl⟩|⟨i',nd',ks',g1,g2,g3,rfl⟩
  ·exact absurd (eV.2 ⟨nd,List.mem_of_getElem? h1,h2⟩) g1
  ·have:=W.inj h1 g1 (by rw [h2,g2])
   subst this;rw [Up.one H.par h3 g3]
section
variable{w w':World}{F S:Nat->Prop}{x:Nat}{D:DG}{P:List Int}{m:XM}{K:Value->World->Prop}
theorem XV.Q9(h:XV w F x D P m){i:Nat}{nd:DN}(hi:D[i]? =some nd):Cells w ((⟨m.ib,0,none⟩:Addr).add (i*32)) nd.id.1:=by
 obtain⟨a,ha,_,hc⟩:=(bY.hs h.row).at_ i nd.id (oK hi);cases ha;exact hc
theorem XV.wO(h:XV w F x D P m){i:Nat}{nd:DN}(hi:D[i]? =some nd):∃td,m.T[i]? =some td/\P[i]? =some td.parent:=by
 have eA:=(lgeS hi).1;obtain⟨td,ND⟩:=Tr.iC (T:=m.T) (i:=i) (by rw [h.Q1];exact eA);exact⟨td,ND,by rw [<-h.cK];exact Tr.mR ND⟩
theorem vq(a:HT)(hK:∀w' pb qb,Kept Nil w w'->w'.heap[pb]? =some (.cells #[.pointer (some ⟨x,0,none⟩)] fD (0,0))->w'.heap[qb]? =some (.cells a.1 ai (0,0))->w.heap.size<=pb->w.heap.size<=qb->K (.func (.func bG.id) #[] #[.pointer (some ⟨pb,0,none⟩),.pointer (some ⟨qb,0,none⟩)]) w'):
 bJ prog iw.id #[.pointer (some ⟨x,0,none⟩),.agg a.1] w K:=by
 refine iw.of ?_;unfold iw.W;intro w3 w4;have k3:Kept Nil w w3:=(Kept.refl _ _).alloc _;have KW:w3.heap[w.heap.size]? =some (.cells #[.pointer (some ⟨x,0,none⟩)] fD (0,0)):=aO w _;have k4:Kept Nil w3 w4:=(Kept.refl _ _).alloc _;have hq4:w4.heap[w3.heap.size]? =some (.cells a.1 ai (0,0)):=aO w3 _;clear_value w4;exact hK w4 _ _ (k3.tt k4) (k4.heap KW (λh=>h)) hq4 (Nat.le_refl _) k3.size
theorem FQ{pb qb:Nat}{a:HT}{l:List HT}(hl:eh D P a l)(hD:D.length<=5000):
 pH prog bG.id #[] #[.pointer (some ⟨pb,0,none⟩),.pointer (some ⟨qb,0,none⟩)] (l.map ud) (λw=>XV w F x D P m/\w.heap[pb]? =some (.cells #[.pointer (some ⟨x,0,none⟩)] fD (0,0))/\w.heap[qb]? =some (.cells a.1 ai (0,0))):=by
 intro y I Q w0 hI hQ ub h0 sW;obtain⟨hX,UM,Xz⟩:=ub 0 w0 h0;have W:=hX.W;have oW:=hX.jv;refine bG.of ?_;unfold bG.W;refine⟨_,by rw [aI UM];rfl,a.1,⟨a.2.1,Cells.bX Xz⟩,a.2.1,?_⟩;intro w6;have k6:Kept Nil w0 w6:=(Kept.refl _ _).alloc _;have rr:HS w6 (some ⟨w0.heap.size,0,none⟩) 1 [a]:=jy w0 a;clear_value w6;refine rU (hX.same k6) rr (by omega) λw8 k8=>⟨_,rfl,?_⟩;have Bl:=k6.tt k8;rcases hl with⟨ns,rfl⟩|⟨i,nd,ks,hi,hid,hup,rfl⟩
 ·exact Split.yes (by rw [decide_eq_false (by simpa using ns)];rfl) (.inl (hI 0 w0 w8 h0 Bl))
 ·have hm:a∈ids D:=eV.2 ⟨nd,List.mem_of_getElem? hi,hid⟩
  refine Split.no (by rw [decide_eq_true (by simpa using hm)];rfl) ?_;intro w10;have oV:Kept Nil w8 w10:=(Kept.refl _ _).drew;clear_value w10;have yA:=Bl.tt oV;have wh:=hX.same yA;have lk:=wh.at_.zv a;rw [<-hid,W.pos_eq hi]at lk;rw [hid]at lk;refine⟨some ⟨x,0,none⟩,by rw [aI (yA.heap UM (λh=>h))];rfl,_,wh.c2,a.1,⟨a.2.1,Cells.bX (yA.heap Xz (λh=>h))⟩,_,lk,?_⟩;have eA:i<P.length:=by rw [oW.len];exact(lgeS hi).1
  have XH:=oW.par;refine bG.cP (I:=λs v=>∃(k:Nat) (dn rs:List Nat),s=(k:Int)/\ks=dn++rs/\Up P k rs/\k<P.length/\I dn.length v) (μ:=λs _=>s.toNat) (s:=((i:Nat):Int)) ⟨i,[],ks,rfl,rfl,hup,eA,hI 0 w0 w10 h0 yA⟩ ?_;rintro s v ⟨k,dn,rs,rfl,hks,hur,EI,hv⟩;obtain⟨hXv,XA,hqv⟩:=ub _ v hv;rw [oW.len]at EI;obtain⟨nk,UO⟩:∃nk,D[k]? =some nk:=⟨_,List.getElem?_eq_getElem EI⟩;refine⟨some ⟨x,0,none⟩,by rw [aI XA];rfl,_,_,_,hXv.c3,⟨by omega,by omega⟩,nk.id.1,⟨nk.id.2.1,by rw [Int.toNat_natCast];exact hXv.Q9 UO⟩,?_⟩;have iM:((ks.map (qu D)).map ud)[dn.length]? =some (ud nk.id):=by
   rw [List.getElem?_map,List.getElem?_map,hks,List.getElem?_append_right (Nat.le_refl _),Nat.sub_self,hur.head];simp [pr UO]
  refine(sW dn.length (ud nk.id) v iM hv).mono ?_;rintro b v' ⟨ht,hf⟩;cases b with
  |false=>
   refine Split.no rfl ?_;rw [bg,bG.dJ];exact .inr (hf rfl)
  |true=>
   refine Split.yes rfl ?_;have hI1:=ht rfl;cases hur with
   |root=>
    refine Split.no rfl ?_;rw [bg,bG.dJ];refine .inl ?_;rw [List.length_map,List.length_map,hks,List.length_append];exact hI1
   | @step _ j rs' hj NB=>
     have hjk:=(Tr.ki XH (Tr.gh.2 hj)).1;refine Split.yes (decide_eq_true (by omega)) ?_;obtain⟨TG,adZ,_⟩:=ub _ v' hI1;obtain⟨td,ND,htp⟩:=TG.wO UO;rw [hj]at htp;have adv:(j:Int)=td.parent:=by simpa using htp
     refine⟨some ⟨x,0,none⟩,by rw [aI adZ];rfl,_,TG.c1,Tr.BG TG.T ND (by omega) ⟨_,_,rfl,?_⟩⟩;rw [<-adv];refine⟨(j:Int),rfl,⟨j,dn++ [k],rs',rfl,by rw [hks];simp,NB,by rw [oW.len];omega,?_⟩,by simp only;omega⟩;rw [List.length_append];exact hI1
end
structure XN(w v:World)(r:HT)(own:Nat->Nat)(G T E I Z:Option Nat)(l:List HT):Prop where
 kp:Kept Nil w v
 gr:∀g,G=some g->∃SG,G5 v SG (λ_=>False) g [⟨r,[]⟩]/\∀k,SG k->w.heap.size<=k/\own k=1
 tr:∀t,T=some t->∃ST,Tr.qK v ST t Tr.sA 0/\∀k,ST k->w.heap.size<=k/\k<v.heap.size/\own k=2
 mp:∀b,E=some b->w.heap.size<=b/\own b=3/\IsMap v b l
 il:∀b,I=some b->w.heap.size<=b/\own b=4/\v.heap[b]? =some (.cells (r.1.toList++ []).toArray ai (0,0))
 cv:∀b,Z=some b->w.heap.size<=b/\own b=5/\gX v b (λ_=>none)
def tag(n t:Nat)(own:Nat->Nat)(k:Nat):Nat:=if n<=k then t else own k
theorem tC{n t k:Nat}{own:Nat->Nat}(h:k<n):tag n t own k=own k:=by unfold tag;rw [if_neg (by omega)]
theorem tD{n t k:Nat}{own:Nat->Nat}(h:n<=k):tag n t own k=t:=by unfold tag;rw [if_pos h]
section
variable{w v v':World}{r:HT}{own:Nat->Nat}{G T E I Z:Option Nat}{l:List HT}{K:Value->World->Prop}
theorem XN.grow(h:XN w v r own G T E I Z l)(t:Nat)(k:Kept Nil v v'):XN w v' r (tag v.heap.size t own) G T E I Z l:=by
 have hs:=k.size;refine⟨h.kp.tt k,λg e=>?_,λg e=>?_,λb e=>?_,λb e=>?_,λb e=>?_⟩
 ·obtain⟨SG,h1,h2⟩:=h.gr g e
  exact⟨SG,h1.same k,λq hq=>⟨(h2 q hq).1,by rw [tC (by obtain⟨bl,c,mb,M,G⟩:=h1;exact G.low q (.inl hq))];exact(h2 q hq).2⟩⟩
 ·obtain⟨ST,h1,h2⟩:=h.tr g e
  exact⟨ST,h1.same k,λq hq=>⟨(h2 q hq).1,by have:=(h2 q hq).2.1;omega,by rw [tC (h2 q hq).2.1];exact(h2 q hq).2.2⟩⟩
 ·obtain⟨h1,h2,h3⟩:=h.mp b e
  exact⟨h1,by rw [tC h3.lt];exact h2,h3.aN k (λh=>h)⟩
 ·obtain⟨h1,h2,h3⟩:=h.il b e
  exact⟨h1,by rw [tC (bt h3)];exact h2,k.heap h3 (λh=>h)⟩
 ·obtain⟨h1,h2,h3⟩:=h.cv b e
  exact⟨h1,by rw [tC h3.lt];exact h2,h3.aN k (λh=>h)⟩
theorem XN.eZ(h:XN w v r own none T E I Z l){gb:Nat}(hG:G5 v' (λk=>v.heap.size<=k/\k<v'.heap.size) (λ_=>False) gb [⟨r,[]⟩])(k:Kept Nil v v'):XN w v' r (tag v.heap.size 1 own) (some gb) T E I Z l:=by
 have g:=h.grow 1 k;refine⟨g.kp,?_,g.tr,g.mp,g.il,g.cv⟩;intro g' e;cases e;have:=h.kp.size;exact⟨_,hG,λq hq=>⟨by omega,tD hq.1⟩⟩
theorem XN.vV(h:XN w v r own G none E I Z l){t:Nat}(hT:Tr.qK v' (λk=>v.heap.size<=k) t Tr.sA 0)(k:Kept Nil v v'):XN w v' r (tag v.heap.size 2 own) G (some t) E I Z l:=by
 have g:=h.grow 2 k;refine⟨g.kp,g.gr,?_,g.mp,g.il,g.cv⟩;intro t' e;cases e;have:=h.kp.size;exact⟨_,vf hT,λq hq=>⟨by omega,hq.2,tD hq.1⟩⟩
theorem XN.vW(h:XN w v r own G T none I Z []):XN w (v.alloc (.map #[] 0)) r (tag v.heap.size 3 own) G T (some v.heap.size) I Z []:=by
 have g:=h.grow 3 ((Kept.refl Nil v).alloc (.map #[] 0));refine⟨g.kp,g.gr,g.tr,?_,g.il,g.cv⟩;intro b e;cases e;exact⟨h.kp.size,tD (Nat.le_refl _),⟨#[],0,aO v _,trivial⟩⟩
theorem XN.qD(h:XN w v r own G T E none Z l):XN w (v.alloc (.cells (r.1.toList++ []).toArray ai)) r (tag v.heap.size 4 own) G T E (some v.heap.size) Z l:=by
 have g:=h.grow 4 ((Kept.refl Nil v).alloc (.cells (r.1.toList++ []).toArray ai));refine⟨g.kp,g.gr,g.tr,g.mp,?_,g.cv⟩;intro b e;cases e;exact⟨h.kp.size,tD (Nat.le_refl _),aO v _⟩
theorem XN.qC(h:XN w v r own G T E I none l):XN w (v.alloc (.map #[] 0)) r (tag v.heap.size 5 own) G T E I (some v.heap.size) l:=by
 have g:=h.grow 5 ((Kept.refl Nil v).alloc (.map #[] 0));refine⟨g.kp,g.gr,g.tr,g.mp,g.il,?_⟩;intro b e;cases e;exact⟨h.kp.size,tD (Nat.le_refl _),gX.new v⟩
theorem XN.put{mb:Nat}(h:XN w v r own G T (some mb) I Z []):∃v',(Instr.mapUpdate dw (.map (some mb)) (.agg r.1) (.int .i64 0)).run prog v=.ok () v'/\XN w v' r own G T (some mb) I Z [r]:=by
 obtain⟨h1,h2,h3⟩:=h.mp mb rfl;obtain⟨v',hr,hm,hk⟩:=h3.put (h:=r) (by simp);refine⟨v',hr,(h.kp.trans hk (λk hk e=>by omega)),λg e=>?_,λg e=>?_,λb e=>?_,λb e=>?_,λb e=>?_⟩
 ·obtain⟨SG,g1,g2⟩:=h.gr g e
  exact⟨SG,g1.aN hk (λq hq e=>by have:=(g2 q hq).2;rw [e,h2]at this;cases this) (λq hq=>hq.elim),g2⟩
 ·obtain⟨ST,g1,g2⟩:=h.tr g e
  exact⟨ST,g1.aN hk (λq hq e=>by have:=(g2 q hq).2.2;rw [e,h2]at this;cases this),λq hq=>⟨(g2 q hq).1,Nat.lt_of_lt_of_le (g2 q hq).2.1 hk.size,(g2 q hq).2.2⟩⟩
 ·cases e
  exact⟨h1,h2,hm⟩
 ·obtain⟨g1,g2,g3⟩:=h.il b e
  exact⟨g1,g2,hk.heap g3 (λe=>by rw [e,h2]at g2;cases g2)⟩
 ·obtain⟨g1,g2,g3⟩:=h.cv b e
  exact⟨g1,g2,g3.aN hk (λe=>by rw [e,h2]at g2;cases g2)⟩
theorem XN.fin{g t mb ib cb:Nat}{w0:World}(h:XN w v r own (some g) (some t) (some mb) (some ib) (some cb) [r])(hw:w0.heap.size<=w.heap.size):
 FF (v.alloc (.cells #[.pointer (some ⟨g,0,none⟩),.pointer (some ⟨t,0,none⟩),.map (some mb),.slice (some ⟨ib,0,none⟩) 1 1,.map (some cb)] fT)) (λk=>w0.heap.size<=k/\k<(v.alloc (.cells #[.pointer (some ⟨g,0,none⟩),.pointer (some ⟨t,0,none⟩),.map (some mb),.slice (some ⟨ib,0,none⟩) 1 1,.map (some cb)] fT)).heap.size) (λ_=>False) v.heap.size [⟨r,[]⟩] [-1]:=by
 have kI:=aO v (.cells #[.pointer (some ⟨g,0,none⟩),.pointer (some ⟨t,0,none⟩),.map (some mb),.slice (some ⟨ib,0,none⟩) 1 1,.map (some cb)] fT);have kx:=(Kept.refl Nil v).alloc (.cells #[.pointer (some ⟨g,0,none⟩),.pointer (some ⟨t,0,none⟩),.map (some mb),.slice (some ⟨ib,0,none⟩) 1 1,.map (some cb)] fT);have hx:=bt kI;generalize v.alloc (.cells #[.pointer (some ⟨g,0,none⟩),.pointer (some ⟨t,0,none⟩),.map (some mb),.slice (some ⟨ib,0,none⟩) 1 1,.map (some cb)] fT)=u at kI kx hx;obtain⟨SG,hG,gG⟩:=h.gr g rfl;obtain⟨ST,hT,gT⟩:=h.tr t rfl;obtain⟨m1,m2,m3⟩:=h.mp mb rfl;obtain⟨i1,i2,i3⟩:=h.il ib rfl;obtain⟨c1,c2,c3⟩:=h.cv cb rfl;have pV:∀k,SG k->k<v.heap.size:=λk e=>by obtain⟨bl,c,mb,M,G⟩:=hG;exact G.low k (.inl e)
 have sw:=h.kp.size;have lm:=m3.lt;have li:=bt i3;have lc:=c3.lt;have EX:∀ {a b:HT},¬fU [(⟨r,[]⟩:DN)] a b:=BX r;refine⟨⟨g,t,mb,ib,1,cb,Tr.sA,0,SG,ST,λ_=>False⟩,⟨kI,hG.same kx,hT.same kx,Tr.D0,rfl,⟨Int.le_refl 0,by show(0:Int)<=_;simp⟩,m3.aN kx (λh=>h),?_,⟨_,c3.aN kx (λh=>h),λy=>⟨[],.inl ⟨rfl,rfl⟩,λc=>?_⟩⟩,?_,lr.root r,?_,?_,?_,?_,?_,?_⟩,?_⟩
 ·have e:dK [r]=(r.1.toList++ []).toArray.toList:=by simp [dK]
  show Row _ _ _ _ _ _ _ (dK [r])
  rw [e];exact Row.made (kx.heap i3 (λh=>h)) (Nat.zero_le _) (by simp [r.2.1]) (by show 1<=maxLen;decide)
 ·simp only [List.not_mem_nil,false_iff]
  exact λhc=>EX hc.1
 ·refine⟨rfl,rfl,λi p nd hi hp=>?_⟩
  cases i with
  |zero=>omega
  |succ i=>simp at hp
 ·exact λk e=>⟨λe'=>by have:=(gG k e).2;have:=(gT k e').2.2;omega,λe'=>e'.elim⟩
 ·exact λk e e'=>e'.elim
 ·exact λk e=>e.elim
 ·intro k e
  have key:v.heap.size<=k\/3<=own k:=by
   rcases e with e|e|e|e
   ·exact .inl (by omega)
   ·exact .inr (by have e:k=mb:=e;rw [e];omega)
   ·exact .inr (by have e:k=ib:=e;rw [e];omega)
   ·exact .inr (by have e:k=cb:=e;rw [e];omega)
  refine⟨λe'=>?_,λe'=>?_,λe'=>e'.elim,λe'=>e'.elim⟩
  ·have h1:=(gG k e').2
   have h2:=pV k e';omega
  ·have h1:=(gT k e').2.2
   have h2:=(gT k e').2.1;omega
 ·refine⟨by show v.heap.size≠mb;omega,by show v.heap.size≠ib;omega,by show v.heap.size≠cb;omega,λe=>?_,λe=>?_,λe=>?_⟩
  ·have e:mb=ib:=e
   rw [e]at m2;omega
  ·have e:mb=cb:=e
   rw [e]at m2;omega
  ·have e:ib=cb:=e
   rw [e]at i2;omega
 ·intro k e
  rcases e with e|e
  ·rcases e with e|e|e|e
   ·have:=pV k e;omega
   ·have:=(gT k e).2.1;omega
   ·exact e.elim
   ·rcases e with e|e|e|e
    ·omega
    ·have e:k=mb:=e;omega
    ·have e:k=ib:=e;omega
    ·have e:k=cb:=e;omega
  ·exact e.elim
 ·intro k e
  rcases e with e|e|e|e
  ·have:=pV k e;have:=(gG k e).1;omega
  ·have:=(gT k e).1;have:=(gT k e).2.1;omega
  ·exact e.elim
  ·rcases e with e|e|e|e
   ·omega
   ·have e:k=mb:=e;omega
   ·have e:k=ib:=e;omega
   ·have e:k=cb:=e;omega
structure XD(w o:World)(r:HT)(K:Value->World->Prop):Prop where
 cs:∀ {v:World},Kept Nil o v->∃cs:Array Value,(.agg r.1:Value)=.agg cs/\cs.size=32/\Cells v (aU w.heap.size) cs
 fin:∀ {v:World} {own:Nat->Nat} {g t mb ib cb:Nat},XN o v r own (some g) (some t) (some mb) (some ib) (some cb) [r]->K (.pointer (some ⟨v.heap.size,0,none⟩)) (v.alloc (.cells #[.pointer (some ⟨g,0,none⟩),.pointer (some ⟨t,0,none⟩),.map (some mb),.slice (some ⟨ib,0,none⟩) 1 1,.map (some cb)] fT))
end
section
variable{w o v e i z:World}{r:HT}{own:Nat->Nat}{g t:Nat}{K:Value->World->Prop}
theorem n1(D:XD w o r K)(h:XN o v r own (some g) (some t) (some e.heap.size) (some i.heap.size) (some z.heap.size) [r]):aG.N1 (some ⟨g,0,none⟩) (some ⟨t,0,none⟩) e i z K v:=by
 unfold aG.N1;exact D.fin h
theorem n2(D:XD w o r K)(h:XN o v r own (some g) (some t) (some e.heap.size) (some i.heap.size) none [r]):aG.N2 (some ⟨g,0,none⟩) (some ⟨t,0,none⟩) e i K v:=by
 unfold aG.N2;exact let n:=h.qC;n1 D n
theorem n3(D:XD w o r K)(h:XN o v r own (some g) (some t) (some e.heap.size) none (some z.heap.size) [r]):aG.N3 r.1 (some ⟨g,0,none⟩) (some ⟨t,0,none⟩) e z K v:=by
 unfold aG.N3;exact let n:=h.qD;⟨r.2.1,n1 D n⟩
theorem n4(D:XD w o r K)(h:XN o v r own (some g) (some t) (some e.heap.size) none none [r]):aG.N4 r.1 (some ⟨g,0,none⟩) (some ⟨t,0,none⟩) e w K v:=by
 unfold aG.N4;exact⟨(let n:=h.qD;⟨r.2.1,n2 D n⟩),(let n:=h.qC;⟨D.cs n.kp,n3 D n⟩)⟩
theorem n5(D:XD w o r K)(h:XN o v r own (some g) (some t) (some e.heap.size) (some i.heap.size) (some z.heap.size) []):aG.N5 e r.1 (some ⟨g,0,none⟩) (some ⟨t,0,none⟩) i z K v:=by
 unfold aG.N5;exact let ⟨u,q,n⟩:=h.put;⟨u,q,n1 D n⟩
theorem n6(D:XD w o r K)(h:XN o v r own (some g) (some t) (some e.heap.size) (some i.heap.size) none []):aG.N6 e r.1 (some ⟨g,0,none⟩) (some ⟨t,0,none⟩) i w K v:=by
 unfold aG.N6;exact⟨(let ⟨u,q,n⟩:=h.put;⟨u,q,n2 D n⟩),(let n:=h.qC;⟨D.cs n.kp,n5 D n⟩)⟩
theorem n7(D:XD w o r K)(h:XN o v r own (some g) (some t) (some e.heap.size) none (some z.heap.size) []):aG.N7 e r.1 r.1 w (some ⟨g,0,none⟩) (some ⟨t,0,none⟩) z K v:=by
 unfold aG.N7;exact⟨(let ⟨u,q,n⟩:=h.put;⟨u,q,D.cs n.kp,n3 D n⟩),(let n:=h.qD;⟨r.2.1,D.cs n.kp,n5 D n⟩)⟩
theorem n8(D:XD w o r K)(h:XN o v r own (some g) (some t) (some e.heap.size) none none []):aG.N8 e r.1 r.1 w (some ⟨g,0,none⟩) (some ⟨t,0,none⟩) K v:=by
 unfold aG.N8;exact⟨(let ⟨u,q,n⟩:=h.put;⟨u,q,D.cs n.kp,n4 D n⟩),(let n:=h.qD;⟨r.2.1,D.cs n.kp,n6 D n⟩),(let n:=h.qC;⟨D.cs n.kp,D.cs n.kp,n7 D n⟩)⟩
theorem n9(D:XD w o r K)(h:XN o v r own (some g) (some t) none (some i.heap.size) (some z.heap.size) []):aG.N9 r.1 w (some ⟨g,0,none⟩) (some ⟨t,0,none⟩) i z K v:=by
 unfold aG.N9;exact let n:=h.vW;⟨D.cs n.kp,n5 D n⟩
theorem n10(D:XD w o r K)(h:XN o v r own (some g) (some t) none (some i.heap.size) none []):aG.Vg r.1 w (some ⟨g,0,none⟩) (some ⟨t,0,none⟩) i K v:=by
 unfold aG.Vg;exact⟨(let n:=h.vW;⟨D.cs n.kp,n6 D n⟩),(let n:=h.qC;⟨D.cs n.kp,n9 D n⟩)⟩
theorem n11(D:XD w o r K)(h:XN o v r own (some g) (some t) none none (some z.heap.size) []):aG.N11 r.1 w r.1 (some ⟨g,0,none⟩) (some ⟨t,0,none⟩) z K v:=by
 unfold aG.N11;exact⟨(let n:=h.vW;⟨D.cs n.kp,D.cs n.kp,n7 D n⟩),(let n:=h.qD;⟨r.2.1,D.cs n.kp,n9 D n⟩)⟩
theorem n12(D:XD w o r K)(h:XN o v r own (some g) (some t) none none none []):aG.Uf r.1 w r.1 (some ⟨g,0,none⟩) (some ⟨t,0,none⟩) K v:=by
 unfold aG.Uf;exact⟨(let n:=h.vW;⟨D.cs n.kp,D.cs n.kp,n8 D n⟩),(let n:=h.qD;⟨r.2.1,D.cs n.kp,n10 D n⟩),(let n:=h.qC;⟨D.cs n.kp,D.cs n.kp,n11 D n⟩)⟩
theorem n13(D:XD w o r K)(h:XN o v r own (some g) none (some e.heap.size) (some i.heap.size) (some z.heap.size) [r]):aG.O0 (some ⟨g,0,none⟩) e i z K v:=by
 unfold aG.O0;exact Tr.fZ λ_ _ q k=>let n:=h.vV q k;⟨_,rfl,n1 D n⟩
theorem n14(D:XD w o r K)(h:XN o v r own (some g) none (some e.heap.size) (some i.heap.size) none [r]):aG.Ue (some ⟨g,0,none⟩) e i K v:=by
 unfold aG.Ue;exact⟨(Tr.fZ λ_ _ q k=>let n:=h.vV q k;⟨_,rfl,n2 D n⟩),(let n:=h.qC;n13 D n)⟩
theorem n15(D:XD w o r K)(h:XN o v r own (some g) none (some e.heap.size) none (some z.heap.size) [r]):aG.N15 r.1 w (some ⟨g,0,none⟩) e z K v:=by
 unfold aG.N15;exact⟨(Tr.fZ λ_ _ q k=>let n:=h.vV q k;⟨_,rfl,D.cs n.kp,n3 D n⟩),(let n:=h.qD;⟨r.2.1,n13 D n⟩)⟩
theorem n16(D:XD w o r K)(h:XN o v r own (some g) none (some e.heap.size) none none [r]):aG.Ve r.1 w (some ⟨g,0,none⟩) e K v:=by
 unfold aG.Ve;exact⟨(Tr.fZ λ_ _ q k=>let n:=h.vV q k;⟨_,rfl,D.cs n.kp,n4 D n⟩),(let n:=h.qD;⟨r.2.1,n14 D n⟩),(let n:=h.qC;⟨D.cs n.kp,n15 D n⟩)⟩
theorem n17(D:XD w o r K)(h:XN o v r own (some g) none (some e.heap.size) (some i.heap.size) (some z.heap.size) []):aG.Vd r.1 w e (some ⟨g,0,none⟩) i z K v:=by
 unfold aG.Vd;exact⟨(Tr.fZ λ_ _ q k=>let n:=h.vV q k;⟨_,rfl,D.cs n.kp,n5 D n⟩),(let ⟨u,q,n⟩:=h.put;⟨u,q,n13 D n⟩)⟩
theorem n18(D:XD w o r K)(h:XN o v r own (some g) none (some e.heap.size) (some i.heap.size) none []):aG.N18 r.1 w e (some ⟨g,0,none⟩) i K v:=by
 unfold aG.N18;exact⟨(Tr.fZ λ_ _ q k=>let n:=h.vV q k;⟨_,rfl,D.cs n.kp,n6 D n⟩),(let ⟨u,q,n⟩:=h.put;⟨u,q,n14 D n⟩),(let n:=h.qC;⟨D.cs n.kp,n17 D n⟩)⟩
theorem n19(D:XD w o r K)(h:XN o v r own (some g) none (some e.heap.size) none (some z.heap.size) []):aG.ME r.1 w r.1 e (some ⟨g,0,none⟩) z K v:=by
 unfold aG.ME;exact⟨(Tr.fZ λ_ _ q k=>let n:=h.vV q k;⟨_,rfl,D.cs n.kp,D.cs n.kp,n7 D n⟩),(let ⟨u,q,n⟩:=h.put;⟨u,q,D.cs n.kp,n15 D n⟩),(let n:=h.qD;⟨r.2.1,D.cs n.kp,n17 D n⟩)⟩
theorem n20(D:XD w o r K)(h:XN o v r own (some g) none (some e.heap.size) none none []):aG.QK r.1 w r.1 e (some ⟨g,0,none⟩) K v:=by
 unfold aG.QK;exact⟨(Tr.fZ λ_ _ q k=>let n:=h.vV q k;⟨_,rfl,D.cs n.kp,D.cs n.kp,n8 D n⟩),(let ⟨u,q,n⟩:=h.put;⟨u,q,D.cs n.kp,n16 D n⟩),(let n:=h.qD;⟨r.2.1,D.cs n.kp,n18 D n⟩),(let n:=h.qC;⟨D.cs n.kp,D.cs n.kp,n19 D n⟩)⟩
theorem n21(D:XD w o r K)(h:XN o v r own (some g) none none (some i.heap.size) (some z.heap.size) []):aG.QJ r.1 w (some ⟨g,0,none⟩) i z K v:=by
 unfold aG.QJ;exact⟨(Tr.fZ λ_ _ q k=>let n:=h.vV q k;⟨_,rfl,D.cs n.kp,n9 D n⟩),(let n:=h.vW;⟨D.cs n.kp,n17 D n⟩)⟩
theorem n22(D:XD w o r K)(h:XN o v r own (some g) none none (some i.heap.size) none []):aG.Vc r.1 w (some ⟨g,0,none⟩) i K v:=by
 unfold aG.Vc;exact⟨(Tr.fZ λ_ _ q k=>let n:=h.vV q k;⟨_,rfl,D.cs n.kp,n10 D n⟩),(let n:=h.vW;⟨D.cs n.kp,n18 D n⟩),(let n:=h.qC;⟨D.cs n.kp,n21 D n⟩)⟩
theorem n23(D:XD w o r K)(h:XN o v r own (some g) none none none (some z.heap.size) []):aG.N23 r.1 w r.1 (some ⟨g,0,none⟩) z K v:=by
 unfold aG.N23;exact⟨(Tr.fZ λ_ _ q k=>let n:=h.vV q k;⟨_,rfl,D.cs n.kp,D.cs n.kp,n11 D n⟩),(let n:=h.vW;⟨D.cs n.kp,D.cs n.kp,n19 D n⟩),(let n:=h.qD;⟨r.2.1,D.cs n.kp,n21 D n⟩)⟩
theorem n24(D:XD w o r K)(h:XN o v r own (some g) none none none none []):aG.N24 r.1 w r.1 (some ⟨g,0,none⟩) K v:=by
 unfold aG.N24;exact⟨(Tr.fZ λ_ _ q k=>let n:=h.vV q k;⟨_,rfl,D.cs n.kp,D.cs n.kp,n12 D n⟩),(let n:=h.vW;⟨D.cs n.kp,D.cs n.kp,n20 D n⟩),(let n:=h.qD;⟨r.2.1,D.cs n.kp,n22 D n⟩),(let n:=h.qC;⟨D.cs n.kp,D.cs n.kp,n23 D n⟩)⟩
theorem n25(D:XD w o r K)(h:XN o v r own none none (some e.heap.size) (some i.heap.size) (some z.heap.size) [r]):aG.N25 r.1 e i z K v:=by
 unfold aG.N25;exact iE r λ_ _ q k=>let n:=h.eZ q k;⟨_,rfl,n13 D n⟩
theorem n26(D:XD w o r K)(h:XN o v r own none none (some e.heap.size) (some i.heap.size) none [r]):aG.N26 r.1 e i w K v:=by
 unfold aG.N26;exact⟨(iE r λ_ _ q k=>let n:=h.eZ q k;⟨_,rfl,n14 D n⟩),(let n:=h.qC;⟨D.cs n.kp,n25 D n⟩)⟩
theorem n27(D:XD w o r K)(h:XN o v r own none none (some e.heap.size) none (some z.heap.size) [r]):aG.Ud r.1 r.1 w e z K v:=by
 unfold aG.Ud;exact⟨(iE r λ_ _ q k=>let n:=h.eZ q k;⟨_,rfl,D.cs n.kp,n15 D n⟩),(let n:=h.qD;⟨r.2.1,D.cs n.kp,n25 D n⟩)⟩
theorem n28(D:XD w o r K)(h:XN o v r own none none (some e.heap.size) none none [r]):aG.N28 r.1 r.1 w e K v:=by
 unfold aG.N28;exact⟨(iE r λ_ _ q k=>let n:=h.eZ q k;⟨_,rfl,D.cs n.kp,n16 D n⟩),(let n:=h.qD;⟨r.2.1,D.cs n.kp,n26 D n⟩),(let n:=h.qC;⟨D.cs n.kp,D.cs n.kp,n27 D n⟩)⟩
theorem n29(D:XD w o r K)(h:XN o v r own none none (some e.heap.size) (some i.heap.size) (some z.heap.size) []):aG.N29 r.1 r.1 w e i z K v:=by
 unfold aG.N29;exact⟨(iE r λ_ _ q k=>let n:=h.eZ q k;⟨_,rfl,D.cs n.kp,n17 D n⟩),(let ⟨u,q,n⟩:=h.put;⟨u,q,D.cs n.kp,n25 D n⟩)⟩
theorem n30(D:XD w o r K)(h:XN o v r own none none (some e.heap.size) (some i.heap.size) none []):aG.N30 r.1 r.1 w e i K v:=by
 unfold aG.N30;exact⟨(iE r λ_ _ q k=>let n:=h.eZ q k;⟨_,rfl,D.cs n.kp,n18 D n⟩),(let ⟨u,q,n⟩:=h.put;⟨u,q,D.cs n.kp,n26 D n⟩),(let n:=h.qC;⟨D.cs n.kp,D.cs n.kp,n29 D n⟩)⟩
theorem n31(D:XD w o r K)(h:XN o v r own none none (some e.heap.size) none (some z.heap.size) []):aG.N31 r.1 r.1 w r.1 e z K v:=by
 unfold aG.N31;exact⟨(iE r λ_ _ q k=>let n:=h.eZ q k;⟨_,rfl,D.cs n.kp,D.cs n.kp,n19 D n⟩),(let ⟨u,q,n⟩:=h.put;⟨u,q,D.cs n.kp,D.cs n.kp,n27 D n⟩),(let n:=h.qD;⟨r.2.1,D.cs n.kp,D.cs n.kp,n29 D n⟩)⟩
theorem n32(D:XD w o r K)(h:XN o v r own none none (some e.heap.size) none none []):aG.N32 r.1 r.1 w r.1 e K v:=by
 unfold aG.N32;exact⟨(iE r λ_ _ q k=>let n:=h.eZ q k;⟨_,rfl,D.cs n.kp,D.cs n.kp,n20 D n⟩),(let ⟨u,q,n⟩:=h.put;⟨u,q,D.cs n.kp,D.cs n.kp,n28 D n⟩),(let n:=h.qD;⟨r.2.1,D.cs n.kp,D.cs n.kp,n30 D n⟩),(let n:=h.qC;⟨D.cs n.kp,D.cs n.kp,D.cs n.kp,n31 D n⟩)⟩
theorem n33(D:XD w o r K)(h:XN o v r own none none none (some i.heap.size) (some z.heap.size) []):aG.N33 r.1 r.1 w i z K v:=by
 unfold aG.N33;exact⟨(iE r λ_ _ q k=>let n:=h.eZ q k;⟨_,rfl,D.cs n.kp,n21 D n⟩),(let n:=h.vW;⟨D.cs n.kp,D.cs n.kp,n29 D n⟩)⟩
theorem n34(D:XD w o r K)(h:XN o v r own none none none (some i.heap.size) none []):aG.N34 r.1 r.1 w i K v:=by
 unfold aG.N34;exact⟨(iE r λ_ _ q k=>let n:=h.eZ q k;⟨_,rfl,D.cs n.kp,n22 D n⟩),(let n:=h.vW;⟨D.cs n.kp,D.cs n.kp,n30 D n⟩),(let n:=h.qC;⟨D.cs n.kp,D.cs n.kp,n33 D n⟩)⟩
theorem n35(D:XD w o r K)(h:XN o v r own none none none none (some z.heap.size) []):aG.N35 r.1 r.1 w r.1 z K v:=by
 unfold aG.N35;exact⟨(iE r λ_ _ q k=>let n:=h.eZ q k;⟨_,rfl,D.cs n.kp,D.cs n.kp,n23 D n⟩),(let n:=h.vW;⟨D.cs n.kp,D.cs n.kp,D.cs n.kp,n31 D n⟩),(let n:=h.qD;⟨r.2.1,D.cs n.kp,D.cs n.kp,n33 D n⟩)⟩
theorem n36(D:XD w o r K)(h:XN o v r own none none none none none []):aG.N36 r.1 r.1 w r.1 K v:=by
 unfold aG.N36;exact⟨(iE r λ_ _ q k=>let n:=h.eZ q k;⟨_,rfl,D.cs n.kp,D.cs n.kp,n24 D n⟩),(let n:=h.vW;⟨D.cs n.kp,D.cs n.kp,D.cs n.kp,n32 D n⟩),(let n:=h.qD;⟨r.2.1,D.cs n.kp,D.cs n.kp,n34 D n⟩),(let n:=h.qC;⟨D.cs n.kp,D.cs n.kp,D.cs n.kp,n35 D n⟩)⟩
end
section
variable{K:Value->World->Prop}
theorem jQ{w:World}(r:HT)(hK:∀v x,FF v (λk=>w.heap.size<=k/\k<v.heap.size) (λ_=>False) x [⟨r,[]⟩] [-1]->Kept Nil w v->K (.pointer (some ⟨x,0,none⟩)) v):
 bJ prog aG.id #[.agg r.1] w K:=by
 refine aG.of ?_;unfold aG.W;intro w_2 MI;have k2:Kept Nil w w_2:=(Kept.refl _ _).alloc _;have oN:w_2.heap[w.heap.size]? =some (.cells r.1 ai (0,0)):=aO w _;have k3:Kept Nil w MI:=k2.drew;have qy:MI.heap[w.heap.size]? =some (.cells r.1 ai (0,0)):=oN;clear_value MI;have N_3:XN MI MI r (λ_=>0) none none none none none []:=⟨Kept.refl _ _,(λb e=>by cases e),(λb e=>by cases e),(λb e=>by cases e),(λb e=>by cases e),(λb e=>by cases e)⟩;have oM:∀ {v:World},Kept Nil MI v->∃cs:Array Value,(.agg r.1:Value)=.agg cs/\cs.size=32/\Cells v (aU w.heap.size) cs:=λk=>⟨r.1,rfl,r.2.1,Cells.bX (k.heap qy (λh=>h))⟩;have xu:∀ {v:World} {own:Nat->Nat} {g t mb ib cb:Nat},XN MI v r own (some g) (some t) (some mb) (some ib) (some cb) [r]->K (.pointer (some ⟨v.heap.size,0,none⟩)) (v.alloc (.cells #[.pointer (some ⟨g,0,none⟩),.pointer (some ⟨t,0,none⟩),.map (some mb),.slice (some ⟨ib,0,none⟩) 1 1,.map (some cb)] fT)):=
  λh=>hK _ _ (h.fin k3.size) ((k3.tt h.kp).alloc _)
 have c3:r.1.size=32/\Cells MI (aU w.heap.size) r.1:=⟨r.2.1,Cells.bX qy⟩;refine⟨r.1,c3,r.1,c3,r.1,c3,?_⟩;have D:XD w MI r K:=⟨oM,xu⟩;exact n36 D N_3
end
end Go.Proofs.YtfleamccglihoaaGreatDoor
