import Derived.Test.YtfleamccglihoaaGreatDoorMG
import Derived.Test.YtfleamccglihoaaGreatDoorMH
import Derived.Test.YtfleamccglihoaaGreatDoorME
import Derived.Laws.AppendOwn
open Go.IntKind (i64 u64)
set_option linter.unusedVariables false
namespace Go.Proofs.YtfleamccglihoaaGreatDoor
open Go.Proofs.Tryz
open Go Go.b0
open Tr (kY)
structure sV(D:DG)(P:List Int):Prop where
 len:P.length=D.length
 root:P[0]? =some (-1)
 up:∀(i:Nat) (p:Int) nd,0<i->P[i]? =some p->D[i]? =some nd->∃(j:Nat) (m:DN),p=(j:Int)/\j<i/\D[j]? =some m/\m.id∈nd.ps
def Ch(D:DG)(P:List Int)(a b:HT):Prop:=∃(i k:Nat) (ni nk:DN),D[i]? =some ni/\ni.id=b/\D[k]? =some nk/\nk.id=a/\kY P i k
def mc(D:DG)(P:List Int)(s c:HT):Prop:=∃(i j:Nat) (ni m:DN),D[i]? =some ni/\ni.id=c/\P[i]? =some (j:Int)/\D[j]? =some m/\m.id=s
def Ol(D:DG)(P:List Int)(h c:HT):Prop:=fH D h c/\∃s,mc D P s c/\h≠s/\¬fH D h s
section
variable{D:DG}{P:List Int}
theorem sV.par(H:sV D P):Tr.oV P:=⟨H.root,fun i p hi hp=>by
 have dW:=(lgeS hp).1;rw [H.len]at dW;obtain⟨j,m,h1,h2,_⟩:=H.up i p _ hi hp (List.getElem?_eq_getElem dW);exact⟨j,h2,h1⟩⟩
theorem mc.par(H:sV D P){s c:HT}(h:mc D P s c):oV D s c:=by
 obtain⟨i,j,ni,m,h1,rfl,h3,h4,rfl⟩:=h;have hi:0<i:=by
  rcases Nat.eq_zero_or_pos i with rfl|h
  ·rw [H.root]at h3;simp only [Option.some.injEq]at h3;omega
  ·exact h
 obtain⟨j',m',e,_,h5,h6⟩:=H.up i _ ni hi h3 h1;have:j'=j:=by omega
 subst this;rw [h4]at h5;cases h5;exact⟨ni,List.mem_of_getElem? h1,rfl,h6⟩
theorem mc.one(W:kr D){s s' c:HT}(h:mc D P s c)(h':mc D P s' c):s=s':=by
 obtain⟨i,j,ni,m,h1,rfl,h3,h4,rfl⟩:=h;obtain⟨i',j',ni',m',um,e,EP,YB,rfl⟩:=h';have:=W.inj h1 um e.symm;subst this;rw [h3]at EP;simp only [Option.some.injEq]at EP;have:j=j':=by omega
 subst this;rw [h4]at YB;cases YB;rfl
theorem mc.ex(H:sV D P){i:Nat}{ni:DN}(hi:0<i)(h:D[i]? =some ni):∃(j:Nat) (m:DN),j<i/\P[i]? =some (j:Int)/\D[j]? =some m/\mc D P m.id ni.id:=by
 have dW:=(lgeS h).1;obtain⟨p,hp⟩:∃p,P[i]? =some p:=⟨_,List.getElem?_eq_getElem (by rw [H.len];exact dW)⟩;obtain⟨j,m,rfl,hj,hm,_⟩:=H.up i p ni hi hp h;exact⟨j,m,hj,hp,hm,i,j,ni,m,h,rfl,hp,hm,rfl⟩
theorem Ch.refl(H:sV D P){a:HT}(h:a∈ids D):Ch D P a a:=by
 obtain⟨nd,gU,e⟩:=eF.1 h;obtain⟨i,hi⟩:=List.mem_iff_getElem?.1 gU;exact⟨i,i,nd,nd,hi,e,hi,e,.refl (by rw [H.len];exact(lgeS hi).1)⟩
theorem Ch.mem{a b:HT}(h:Ch D P a b):a∈ids D/\b∈ids D:=by
 obtain⟨i,k,ni,nk,h1,h2,h3,h4,_⟩:=h;exact⟨eF.2 ⟨nk,List.mem_of_getElem? h3,h4⟩,eF.2 ⟨ni,List.mem_of_getElem? h1,h2⟩⟩
theorem Ch.step(W:kr D){a s c:HT}(hs:mc D P s c)(h:Ch D P a s):Ch D P a c:=by
 obtain⟨i,j,ni,m,h1,rfl,h3,h4,rfl⟩:=hs;obtain⟨j',k,nj,nk,g1,g2,g3,g4,g5⟩:=h;have:=W.inj g1 h4 g2;subst this;exact⟨i,k,ni,nk,h1,rfl,g3,g4,.step h3 g5⟩
theorem Ch.EZ(W:kr D)(H:sV D P){a b:HT}(h:Ch D P a b):a=b\/fH D a b:=by
 obtain⟨i,k,ni,nk,h1,rfl,h3,rfl,h5⟩:=h
 induction h5 generalizing ni with
 |refl _=>rw [h1]at h3;cases h3;exact .inl rfl
 | @step i j k hj hu ih=>
   have uV:=hu.lt;rw [H.len]at uV;obtain⟨m,hm⟩:∃m,D[j]? =some m:=⟨_,List.getElem?_eq_getElem uV⟩;have hp:oV D m.id ni.id:=mc.par H ⟨i,j,ni,m,h1,rfl,hj,hm,rfl⟩;rcases ih m hm h3 with e|e
   ·rw [e];exact .inr (.one hp)
   ·exact .inr (.more e hp)
theorem JC(W:kr D)(H:sV D P){a b:HT}(fW:a≠b):fH D a b↔Ch D P a b\/∃c,Ol D P a c/\Ch D P c b:=by
 constructor
 ·intro h
  obtain⟨nb,P4,e⟩:=eF.1 (h.mem W).2;obtain⟨i,hb⟩:=List.mem_iff_getElem?.1 P4;clear P4;subst e
  induction i using Nat.strongRecOn generalizing nb with
  |_ i ih=>
   have hi:0<i:=by
    rcases Nat.eq_zero_or_pos i with rfl|h0
    ·exfalso
     obtain⟨x,y,mx,my,nC,_,hy,_,e2⟩:=h.at_ W;have:=W.inj hy hb e2;omega
    ·exact h0
   obtain⟨j,m,hj,_,hm,hs⟩:=mc.ex H hi hb;by_cases e1:a=m.id
   ·exact .inl (Ch.step W hs (by rw [e1];exact Ch.refl H (eF.2 ⟨m,List.mem_of_getElem? hm,rfl⟩)))
   ·by_cases e2:fH D a m.id
    ·rcases ih j hj m hm e1 e2 with e3|⟨c,e3,e4⟩
     ·exact .inl (Ch.step W hs e3)
     ·exact .inr ⟨c,e3,Ch.step W hs e4⟩
    ·exact .inr ⟨nb.id,⟨h,m.id,hs,e1,e2⟩,Ch.refl H (eF.2 ⟨nb,List.mem_of_getElem? hb,rfl⟩)⟩
 ·rintro(h|⟨c,⟨h1,_⟩,h2⟩)
  ·exact(h.EZ W H).resolve_left fW
  ·rcases h2.EZ W H with e|e
   ·rw [<-e];exact h1
   ·exact h1.trans e
theorem sV.snoc(H:sV D P){nd:DN}{j:Nat}{m:DN}(hj:D[j]? =some m)(hm:m.id∈nd.ps)(jS:0<D.length):sV (D++ [nd]) (P++ [(j:Int)]) where
 len:=by simp [H.len]
 root:=by rw [List.getElem?_append_left (by rw [H.len];exact jS)];exact H.root
 up:=fun i p nd' hi hp gU=>by
  have uV:=(lgeS hj).1;by_cases h:i<D.length
  ·rw [List.getElem?_append_left (by rw [H.len];exact h)]at hp
   rw [List.getElem?_append_left h]at gU;obtain⟨j',m',e,h1,h2,h3⟩:=H.up i p nd' hi hp gU;exact⟨j',m',e,h1,by rw [List.getElem?_append_left (by omega)];exact h2,h3⟩
  ·have dW:=(lgeS gU).1
   have e:i=D.length:=by simp at dW;omega
   subst e;rw [<-H.len]at hp;simp at hp gU;subst hp gU;exact⟨j,m,rfl,uV,by rw [List.getElem?_append_left uV];exact hj,hm⟩
theorem oF(W:kr D)(H:sV D P){nd:DN}(hn:nd.id∉ids D){j:Nat}{m:DN}(hj:D[j]? =some m){s c:HT}:
 mc (D++ [nd]) (P++ [(j:Int)]) s c↔mc D P s c\/(c=nd.id/\s=m.id):=by
 have uV:=(lgeS hj).1;constructor
 ·rintro⟨i,k,ni,mk,h1,rfl,h3,h4,rfl⟩
  by_cases h:i<D.length
  ·rw [List.getElem?_append_left h]at h1
   rw [List.getElem?_append_left (by rw [H.len];exact h)]at h3;have hk:k<D.length:=by
    rcases Nat.eq_zero_or_pos i with rfl|h0
    ·rw [H.root]at h3;simp only [Option.some.injEq]at h3;omega
    ·obtain⟨k',_,e,h5,_⟩:=H.up i _ ni h0 h3 h1
     omega
   rw [List.getElem?_append_left hk]at h4;exact .inl ⟨i,k,ni,mk,h1,rfl,h3,h4,rfl⟩
  ·have dW:=(lgeS h1).1
   have e:i=D.length:=by simp at dW;omega
   subst e;have EP:=h3;rw [<-H.len]at EP;simp at h1 EP;subst h1;have:k=j:=by omega
   subst this;rw [List.getElem?_append_left uV,hj]at h4;cases h4;exact .inr ⟨rfl,rfl⟩
 ·rintro(⟨i,k,ni,mk,h1,rfl,h3,h4,rfl⟩|⟨rfl,rfl⟩)
  ·have hi:=(lgeS h1).1
   have hk:=(lgeS h4).1;exact⟨i,k,ni,mk,by rw [List.getElem?_append_left hi];exact h1,rfl,by rw [List.getElem?_append_left (by rw [H.len];exact hi)];exact h3,by rw [List.getElem?_append_left hk];exact h4,rfl⟩
  ·exact⟨D.length,j,nd,m,by simp,rfl,by rw [<-H.len];simp,by rw [List.getElem?_append_left uV];exact hj,rfl⟩
theorem Jt(W:kr D)(H:sV D P){nd:DN}(hn:nd.id∉ids D)(gC:∀p∈nd.ps,p∈ids D){j:Nat}{m:DN}(hj:D[j]? =some m){h c:HT}:
 Ol (D++ [nd]) (P++ [(j:Int)]) h c↔Ol D P h c\/(c=nd.id/\fH (D++ [nd]) h nd.id/\h≠m.id/\¬fH D h m.id):=by
 have hm:m.id∈ids D:=eF.2 ⟨m,List.mem_of_getElem? hj,rfl⟩;have key:∀ {s c},mc D P s c->s∈ids D/\c∈ids D:=fun hs=>(fH.one (mc.par H hs)).mem W;constructor
 ·rintro⟨h1,s,hs,h2,h3⟩
  rcases(oF W H hn hj).1 hs with hs|⟨rfl,rfl⟩
  ·obtain⟨g1,g2⟩:=key hs
   exact .inl ⟨(jM W hn g2).1 h1,s,hs,h2,fun e=>h3 ((jM W hn g1).2 e)⟩
  ·exact .inr ⟨rfl,h1,h2,fun e=>h3 ((jM W hn hm).2 e)⟩
 ·rintro(⟨h1,s,hs,h2,h3⟩|⟨rfl,h1,h2,h3⟩)
  ·obtain⟨g1,g2⟩:=key hs
   exact⟨(jM W hn g2).2 h1,s,(oF W H hn hj).2 (.inl hs),h2,fun e=>h3 ((jM W hn g1).1 e)⟩
  ·exact⟨h1,m.id,(oF W H hn hj).2 (.inr ⟨rfl,rfl⟩),h2,fun e=>h3 ((jM W hn hm).1 e)⟩
inductive Up (P:List Int):Nat->List Nat->Prop
 |root:Up P 0 [0]
 |step {i j:Nat} {l:List Nat}:P[i]? =some (j:Int)->Up P j l->Up P i (i::l)
theorem Up.ex(hP:Tr.oV P):∀i,i<P.length->∃l,Up P i l:=by
 intro i
 induction i using Nat.strongRecOn with
 |_ i ih=>
  intro hi;rcases Nat.eq_zero_or_pos i with rfl|h0
  ·exact⟨[0],.root⟩
  ·obtain⟨j,h1,h2⟩:=hP.up i _ h0 (List.getElem?_eq_getElem hi)
   obtain⟨l,hl⟩:=ih j h1 (by omega);exact⟨i::l,.step (by rw [List.getElem?_eq_getElem hi,h2]) hl⟩
theorem Up.mem(hP:Tr.oV P){i:Nat}{l:List Nat}(h:Up P i l)(hi:i<P.length){k:Nat}:k∈l↔kY P i k:=by
 induction h with
 |root=>
  rw [List.mem_singleton];constructor
  ·rintro rfl;exact .refl hi
  ·intro h;have:=h.le hP;omega
 | @step i j l hj hu ih=>
   have uV:j<P.length:=by have:=(Tr.jA hP (Tr.fC.2 hj)).1;omega
   rw [List.mem_cons,ih uV];constructor
   ·rintro(rfl|h)
    ·exact .refl hi
    ·exact .step hj h
   ·intro h
    by_cases e:k=i
    ·exact .inl e
    ·exact .inr (h.inv (fun e'=>e e'.symm) hj)
theorem Up.one(hP:Tr.oV P){i:Nat}{l l':List Nat}(h:Up P i l)(h':Up P i l'):l=l':=by
 induction h generalizing l' with
 |root=>
  cases h' with
  |root=>rfl
  |step hj _=>rw [hP.root]at hj;simp only [Option.some.injEq]at hj;omega
 | @step i j l hj hu ih=>
   cases h' with
   |root=>rw [hP.root]at hj;simp only [Option.some.injEq]at hj;omega
   | @step _ j' l' vU Li=>
     rw [hj]at vU;simp only [Option.some.injEq]at vU;have:j=j':=by omega
     subst this;rw [ih Li]
theorem Up.head{i:Nat}{l:List Nat}(h:Up P i l):l[0]? =some i:=by cases h<;>rfl
theorem Up.lt(hP:Tr.oV P){i:Nat}{l:List Nat}(h:Up P i l)(hi:i<P.length):∀k∈l,k<P.length:=fun k hk=>((h.mem hP hi).1 hk).XA
end
end Go.Proofs.YtfleamccglihoaaGreatDoor
namespace Go.Proofs.YtfleamccglihoaaGreatDoor
open Go.Proofs.Tryz
open Go Go.b0 Go.RowKit
structure xC(mt te:TypeId)(z:Value):Prop where
 pD:prog.underlying mt=some (.map al te)
 zero:∀w,(zeroValue te).run prog w=.ok z w
def assoc(h:HT):List (HT×Value)->Option Value
 | []=>none
 |(x,v)::l=>if h=x then some v else assoc h l
def mu(h:HT):List (HT×Value)->Nat->Option (Nat×Value)
 | [],_=>none
 |(x,v)::l,i=>if h=x then some (i,v)else mu h l (i+1)
theorem nH(h:HT):∀(l:List (HT×Value)) (i:Nat),(mu h l i).map (·.2)=assoc h l
 | [],_=>rfl
 |(x,v)::l,i=>by
  unfold mu assoc;split
  ·rfl
  ·exact nH h l (i+1)
theorem wm{h:HT}:∀ {l:List (HT×Value)} {i j:Nat} {v:Value},mu h l i=some (j,v)->i<=j/\l[j-i]? =some (h,v)/\∀(x:HT) (u:Value),assoc x (l.set (j-i) (h,u))=if x=h then some u else assoc x l
 | [],i,j,v,e=>by simp [mu]at e
 |(x,u)::l,i,j,v,e=>by
  unfold mu at e;split at e
  ·rename_i hx
   cases e;subst hx;refine⟨Nat.le_refl _,by rw [Nat.sub_self];rfl,fun x u=>?_⟩;rw [Nat.sub_self];simp only [List.set_cons_zero,assoc];by_cases hx:x=h<;>simp [hx]
  ·rename_i hx
   obtain⟨h1,h2,h3⟩:=wm e;have e1:j-i=(j-(i+1))+1:=by omega
   refine⟨by omega,by rw [e1];exact h2,fun y u'=>?_⟩;rw [e1];simp only [List.set_cons_succ,assoc,h3];by_cases hy:y=h
   ·subst hy;simp [hx]
   ·simp [hy]
theorem wF{h:HT}{v:Value}:∀ {l:List (HT×Value)},assoc h l=none->∀x,assoc x (l++ [(h,v)])=if x=h then some v else assoc x l
 | [],_,x=>by simp [assoc]
 |(y,u)::l,e,x=>by
  unfold assoc at e;split at e
  ·cases e
  ·rename_i hy
   have ih:=wF (v:=v) e x;simp only [List.cons_append,assoc,ih];by_cases hx:x=y
   ·subst hx;simp [Ne.symm hy]
   ·simp [hx]
def nU(es:List MapEntry)(l:List (HT×Value)):Prop:=match es,l with
 | [],[]=>True
 |e::es,p::l=>(e.key=.agg p.1.1/\e.val=p.2)/\nU es l
 |_,_=>False
theorem nU.snoc:∀ {es:List MapEntry} {l:List (HT×Value)} {e:MapEntry} {p:HT×Value},nU es l->e.key=.agg p.1.1->e.val=p.2->nU (es++ [e]) (l++ [p])
 | [],[],_,_,_,h1,h2=>⟨⟨h1,h2⟩,trivial⟩
 |_::_,_::_,_,_,he,h1,h2=>⟨he.1,nU.snoc he.2 h1 h2⟩
 | [],_::_,_,_,he,_,_=>he.elim
 |_::_,[],_,_,he,_,_=>he.elim
theorem nU.get:∀ {es:List MapEntry} {l:List (HT×Value)} {j:Nat} {p:HT×Value},nU es l->l[j]? =some p->∃e,es[j]? =some e/\e.key=.agg p.1.1/\e.val=p.2
 | [],[],_,_,_,h=>by simp at h
 |e::_,_::_,0,_,he,h=>by
  simp only [List.getElem?_cons_zero,Option.some.injEq]at h;subst h;exact⟨e,rfl,he.1⟩
 |_::_,_::_,j+1,_,he,h=>by
  obtain⟨e,h1,h2⟩:=nU.get he.2 (j:=j) (by simpa using h);exact⟨e,by simpa using h1,h2⟩
 | [],_::_,_,_,he,_=>he.elim
 |_::_,[],_,_,he,_=>he.elim
theorem nU.set:∀ {es:List MapEntry} {l:List (HT×Value)} {j:Nat} {p:HT×Value} {f:MapEntry->MapEntry},nU es l->(∀e,(f e).key=.agg p.1.1/\(f e).val=p.2)->nU (es.modify j f) (l.set j p)
 | [],[],_,_,_,he,_=>by simpa using he
 |_::_,_::_,0,_,_,he,hf=>⟨hf _,he.2⟩
 |_::_,_::_,j+1,_,_,he,hf=>by
  simp only [List.modify_succ_cons,List.set_cons_succ];exact⟨he.1,nU.set he.2 hf⟩
 | [],_::_,_,_,_,he,_=>he.elim
 |_::_,[],_,_,_,he,_=>he.elim
theorem nU.len:∀ {es:List MapEntry} {l:List (HT×Value)},nU es l->es.length=l.length
 | [],[],_=>rfl
 |_::_,_::_,he=>by simp [nU.len he.2]
 | [],_::_,he=>he.elim
 |_::_,[],he=>he.elim
section
variable{w:World}
theorem rZ(h:HT)(w:World):∀(es:List MapEntry) (l:List (HT×Value)) (i:Nat),nU es l->
 (Instr.findAsking al (.agg h.1) es i).run prog w=.ok (mu h l i) w
 | [],[],i,_=>by simp [Instr.findAsking,mu]
 |e::es,(x,v)::l,i,he=>by
  have hq:=vm h x w;have ih:=rZ h w es l (i+1) he.2;simp only [Instr.findAsking,he.1.1,Sem.run_bind,hq,Result.andThen_ok];by_cases hx:h=x
  ·simp [hx,mu,he.1.2]
  ·simp [hx,mu,ih]
 | [],_::_,_,he=>he.elim
 |_::_,[],_,he=>he.elim
theorem mv(h:HT)(w:World){es:List MapEntry}{l:List (HT×Value)}(he:nU es l):
 (Instr.findKey al (.agg h.1) es).run prog w=.ok (mu h l 0) w:=by
 have h1:=rZ h w es l 0 he;simp only [Instr.findKey,Sem.run_bind,run_underlying Kx,Result.andThen_ok];cases es with
 |nil=>
  cases l with
  |nil=>simp [Instr.findNow,mu]
  |cons x l=>exact he.elim
 |cons e es=>
  have:Instr.findNow (.array 32 jt) (.agg h.1) (e::es) 0=none:=by
   simp only [Instr.findNow,Instr.sameNow]
  rw [this];exact h1
theorem FC(h:HT):Instr.sameBits 10000 (.agg h.1) (.agg h.1)=true:=by
 show Instr.sameBits (9999+1) (.agg h.1) (.agg h.1)=true
 rw [Instr.sameBits];simp only [beq_self_eq_true,Bool.true_and,List.all_eq_true];rintro⟨x,y⟩ nC;have Z5:x=y:=by
  obtain⟨i,hi⟩:=List.mem_iff_getElem?.1 nC;rw [List.getElem?_zip_eq_some]at hi;have:=hi.1.symm.trans hi.2;simpa using this
 subst Z5;have hm:=(List.of_mem_zip nC).1;obtain⟨n,rfl,_⟩:=h.2.2 x hm;simp [Instr.sameBits]
structure gg(w:World)(m:Nat)(f:HT->Option Value):Prop where
 ex:∃es clock l,w.heap[m]? =some (.map es clock)/\nU es.toList l/\(∀x,assoc x l=f x)/\(∀e∈es.toList,e.born<clock)/\(es.toList.map (·.born)).Nodup/\(l.map (·.1)).Nodup
theorem gg.aK{S:Nat->Prop}{w w':World}{m:Nat}{f:HT->Option Value}(h:gg w m f)(hk:Kept S w w')(hn:¬S m):gg w' m f:=by
 obtain⟨es,clock,l,h1,h2⟩:=h.ex;exact⟨es,clock,l,hk.heap h1 hn,h2⟩
theorem gg.same{w w':World}{m:Nat}{f:HT->Option Value}(h:gg w m f)(hk:Kept Nil w w'):gg w' m f:=h.aK hk (fun h=>h)
theorem gg.lt{w:World}{m:Nat}{f:HT->Option Value}(h:gg w m f):m<w.heap.size:=by
 obtain⟨es,clock,l,h1,_⟩:=h.ex;exact bf h1
theorem gg.new(w:World):gg (w.alloc (.map #[] 0)) w.heap.size (fun _=>none):=⟨#[],0,[],aM w _,trivial,fun _=>rfl,by simp,by simp,by simp⟩
theorem gg.look{mt te:TypeId}{z:Value}(T:xC mt te z){m:Nat}{f:HT->Option Value}(hm:gg w m f)(h:HT):
 (Instr.lookup mt (.map (some m)) (.agg h.1) false).run prog w=.ok ((f h).getD z) w:=by
 obtain⟨es,clock,l,h1,h2,h3,_⟩:=hm.ex;have h4:=mv h w h2;have h5:=nH h l 0;rw [h3]at h5;simp only [Instr.lookup,Sem.run_bind,run_underlying T.pD,qf h1,Result.andThen_ok,Sem.run_pure,jI,h4];cases hp:mu h l 0 with
 |none=>rw [hp]at h5;simp [<-h5,T.zero]
 |some p=>rw [hp]at h5;simp [<-h5]
theorem gg.put{mt te:TypeId}{z:Value}(T:xC mt te z){m:Nat}{f:HT->Option Value}(hm:gg w m f)(h:HT)(v:Value):
 ∃w',(Instr.mapUpdate mt (.map (some m)) (.agg h.1) v).run prog w=.ok () w'/\gg w' m (fun x=>if x=h then some v else f x)/\Kept (· =m) w w':=by
 obtain⟨es,clock,l,h1,h2,h3,hb,hd,hk⟩:=hm.ex;have h4:=mv h w h2;have kept:∀o,Kept (· =m) w {w with heap:=w.heap.setIfInBounds m o}:=fun o=>⟨rfl,rfl,rfl,by simp,fun k _ hk=>by simp [Ne.symm hk]⟩;cases hp:mu h l 0 with
 |none=>
  rw [hp]at h4;have h5:=nH h l 0;rw [hp]at h5;refine⟨{w with heap:=w.heap.setIfInBounds m (.map (es.push {key:=.agg h.1,val:=v,born:=clock}) (clock+1))},?_,⟨es.push {key:=.agg h.1,val:=v,born:=clock},clock+1,l++ [(h,v)],?_,?_,?_,?_,?_,?_⟩,kept _⟩
  ·simp only [Instr.mapUpdate,Sem.run_bind,run_underlying T.pD,qf h1,Result.andThen_ok,jI,h4,Ck _ h1]
  ·simp [bf h1]
  ·have:=h2.snoc (e:= {key:=.agg h.1,val:=v,born:=clock}) (p:=(h,v)) rfl rfl
   simpa using this
  ·intro x
   rw [wF h5.symm,h3]
  ·intro e he
   rw [Array.toList_push,List.mem_append,List.mem_singleton]at he;rcases he with he|rfl
   ·have:=hb e he;omega
   ·exact Nat.lt_succ_self _
  ·rw [Array.toList_push,List.map_append,List.nodup_append]
   refine⟨hd,by simp,fun a ha b uI e=>?_⟩;simp only [List.map_cons,List.map_nil,List.mem_singleton]at uI;obtain⟨e',LO,rfl⟩:=List.mem_map.1 ha;have:=hb e' LO;omega
  ·rw [List.map_append,List.nodup_append]
   refine⟨hk,by simp,fun a ha b uI e=>?_⟩;simp only [List.map_cons,List.map_nil,List.mem_singleton]at uI;subst uI;subst e;have key:∀l:List (HT×Value),a∈l.map (·.1)->assoc a l≠none:=fun l=>by
    induction l with
    |nil=>simp
    |cons p l ih=>
     obtain⟨y,u⟩:=p;intro hm;unfold assoc;split
     ·simp
     ·rename_i hy
      simp only [List.map_cons,List.mem_cons]at hm;exact ih (hm.resolve_left hy)
   exact key l ha h5.symm
 |some p=>
  obtain⟨j,u⟩:=p;rw [hp]at h4;obtain⟨_,h6,h7⟩:=wm hp;rw [Nat.sub_zero]at h6 h7;obtain⟨e,he1,RV,_⟩:=h2.get h6;have hes:es[j]? =some e:=by simpa using he1
  refine⟨{w with heap:=w.heap.setIfInBounds m (.map (es.modify j fun e=> {e with key:=.agg h.1,val:=v}) clock)},?_,⟨es.modify j fun e=> {e with key:=.agg h.1,val:=v},clock,l.set j (h,v),?_,?_,?_,?_,?_,?_⟩,kept _⟩
  ·simp only [Instr.mapUpdate,Sem.run_bind,run_underlying T.pD,qf h1,Result.andThen_ok,jI,h4,Instr.keyThatStays,hes,Option.map_some,Option.getD_some,RV,FC,if_true,Sem.run_pure,Ck _ h1]
  ·simp [bf h1]
  ·rw [Array.toList_modify]
   exact h2.set (p:=(h,v)) fun e=>⟨rfl,rfl⟩
  ·intro x
   rw [h7,h3]
  ·intro x hx
   rw [Array.toList_modify]at hx;obtain⟨i,hi⟩:=List.mem_iff_getElem?.1 hx;rw [List.getElem?_modify]at hi;cases hg:es.toList[i]? with
   |none=>rw [hg]at hi;simp at hi
   |some y=>
    rw [hg]at hi;have:=hb y (List.mem_of_getElem? hg);by_cases sH:j=i
    ·simp [sH]at hi
     rw [<-hi];exact this
    ·simp [sH]at hi
     rw [<-hi];exact this
  ·have:(es.modify j fun e=> {e with key:=.agg h.1,val:=v}).toList.map (·.born)=es.toList.map (·.born):=by
    rw [Array.toList_modify];apply List.ext_getElem?;intro i;rw [List.getElem?_map,List.getElem?_map,List.getElem?_modify];cases es.toList[i]? with
    |none=>simp
    |some y=>by_cases sH:j=i<;>simp [sH]
   rw [this];exact hd
  ·have:(l.set j (h,v)).map (·.1)=l.map (·.1):=by
    apply List.ext_getElem?;intro i;rw [List.getElem?_map,List.getElem?_map,List.getElem?_set];by_cases sH:j=i
    ·subst sH
     have di:=(lgeS h6).1;have gF:=(lgeS h6).2;simp [di,gF]
    ·simp [sH]
   rw [this];exact hk
end
end Go.Proofs.YtfleamccglihoaaGreatDoor
namespace Go.Proofs.YtfleamccglihoaaGreatDoor
open Go.Proofs.Tryz
open Go Go.b0 Go.RowKit
open Tr (kY)
theorem uP{te:TypeId}{z:Value}(h:(prog.info? te).bind (·.zero)=some z)(w:World):(zeroValue te).run prog w=.ok z w:=by
 cases hi:prog.info? te with
 |none=>rw [hi]at h;cases h
 |some i=>
  rw [hi]at h;have hz:i.zero=some z:=h;simp [zeroValue,typeInfo,hi,hz]
theorem yP:xC iC aF (.slice none 0 0):=⟨by kernel_rfl,uP (by kernel_rfl)⟩
theorem HV:xC lZ tN (.agg #[.bool false]):=⟨by kernel_rfl,uP (by kernel_rfl)⟩
structure XM where
 g:Nat
 t:Nat
 mb:Nat
 ib:Nat
 ic:Nat
 cb:Nat
 T:List Tr.Nd
 d:Int
 SG:Nat->Prop
 ST:Nat->Prop
 SO:Nat->Prop
def XM.own(m:XM)(x k:Nat):Prop:=k=x\/k=m.mb\/k=m.ib\/k=m.cb
def XM.kX(m:XM)(x k:Nat):Prop:=m.SG k\/m.ST k\/m.SO k\/m.own x k
def pf(w:World)(SO:Nat->Prop)(N:Nat)(v:Option Value)(l:List HT):Prop:=
 (v=none/\l= [])\/∃(A:Option Addr) (n c:Nat),v=some (.slice A n c)/\n<=c/\HS w A n l/\n<=N/\∀a,A=some a->SO a.block
structure XV(w:World)(F:Nat->Prop)(x:Nat)(D:DG)(P:List Int)(m:XM):Prop where
 top:w.heap[x]? =some (.cells #[.pointer (some ⟨m.g,0,none⟩),.pointer (some ⟨m.t,0,none⟩),.map (some m.mb),.slice (some ⟨m.ib,0,none⟩) D.length m.ic,.map (some m.cb)] fc (0,0))
 G:DO w m.SG F m.g D
 T:Tr.pF w m.ST m.t m.T m.d
 Me:Tr.xD m.T
 b9:Tr.b9 m.T=P
 dl:0<=m.d/\m.d<=D.length
 at_:IsMap w m.mb (ids D)
 row:cr w 0 (some ⟨m.ib,0,none⟩) D.length m.ic (ids D)
 YN:∃f,gg w m.cb f/\∀h,∃l,pf w m.SO D.length (f h) l/\∀c,c∈l↔Ol D P h c
 ns:sV D P
 W:kr D
 gt:∀k,m.SG k->¬m.ST k/\¬m.SO k
 to:∀k,m.ST k->¬m.SO k
 fd:∀k,F k->¬m.ST k/\¬m.SO k
 od:∀k,m.own x k->¬m.SG k/\¬m.ST k/\¬m.SO k/\¬F k
 ne:x≠m.mb/\x≠m.ib/\x≠m.cb/\m.mb≠m.ib/\m.mb≠m.cb/\m.ib≠m.cb
 low:∀k,m.kX x k\/F k->k<w.heap.size
def DM(w:World)(S F:Nat->Prop)(x:Nat)(D:DG)(P:List Int):Prop:=∃m,XV w F x D P m/\∀k,m.kX x k->S k
section
variable{w w':World}{F S:Nat->Prop}{x:Nat}{D:DG}{P:List Int}{m:XM}{K:Value->World->Prop}
theorem pf.aK{S0 SO:Nat->Prop}{N:Nat}{v:Option Value}{l:List HT}(h:pf w SO N v l)(hk:Kept S0 w w')(hn:∀k,SO k->¬S0 k):pf w' SO N v l:=by
 rcases h with h|⟨A,n,c,h1,h2,h3,h4,h5⟩
 ·exact .inl h
 ·exact .inr ⟨A,n,c,h1,h2,h3.aK hk (fun a ha=>hn _ (h5 a ha)),h4,h5⟩
theorem XV.aK{S0:Nat->Prop}(h:XV w F x D P m)(hk:Kept S0 w w')(hS:∀k,m.kX x k->¬S0 k)(hF:∀k,F k->¬S0 k):XV w' F x D P m where
 top:=hk.heap h.top (hS _ (.inr (.inr (.inr (.inl rfl)))))
 G:=h.G.aK hk (fun k e=>hS k (.inl e)) hF
 T:=h.T.aK hk (fun k e=>hS k (.inr (.inl e)))
 Me:=h.Me
 b9:=h.b9
 dl:=h.dl
 at_:=h.at_.aK hk (hS _ (.inr (.inr (.inr (.inr (.inl rfl))))))
 row:=Row.aK h.row hk (fun k e=>by cases e;exact hS _ (.inr (.inr (.inr (.inr (.inr (.inl rfl)))))))
 YN:=by
  obtain⟨f,h1,h2⟩:=h.YN;refine⟨f,h1.aK hk (hS _ (.inr (.inr (.inr (.inr (.inr (.inr rfl))))))),fun y=>?_⟩;obtain⟨l,h3,h4⟩:=h2 y;exact⟨l,h3.aK hk (fun k e=>hS k (.inr (.inr (.inl e)))),h4⟩
 ns:=h.ns
 W:=h.W
 gt:=h.gt
 to:=h.to
 fd:=h.fd
 od:=h.od
 ne:=h.ne
 low:=fun k e=>Nat.lt_of_lt_of_le (h.low k e) hk.size
theorem XV.same(h:XV w F x D P m)(hk:Kept Nil w w'):XV w' F x D P m:=h.aK hk (fun _ _ h=>h) (fun _ _ h=>h)
theorem DM.aK{S0:Nat->Prop}(h:DM w S F x D P)(hk:Kept S0 w w')(hS:∀k,S k->¬S0 k)(hF:∀k,F k->¬S0 k):DM w' S F x D P:=
 let ⟨m,h1,h2⟩:=h;⟨m,h1.aK hk (fun k e=>hS k (h2 k e)) hF,h2⟩
theorem DM.same(h:DM w S F x D P)(hk:Kept Nil w w'):DM w' S F x D P:=h.aK hk (fun _ _ h=>h) (fun _ _ h=>h)
theorem XV.c0(h:XV w F x D P m):w.cell? ((⟨x,0,none⟩:Addr).add 0)=some (.pointer (some ⟨m.g,0,none⟩)):=by rw [bD,aE h.top];rfl
theorem XV.c1(h:XV w F x D P m):w.cell? ((⟨x,0,none⟩:Addr).add 1)=some (.pointer (some ⟨m.t,0,none⟩)):=by rw [bD,aE h.top];rfl
theorem XV.c2(h:XV w F x D P m):w.cell? ((⟨x,0,none⟩:Addr).add 2)=some (.map (some m.mb)):=by rw [bD,aE h.top];rfl
theorem XV.c3(h:XV w F x D P m):w.cell? ((⟨x,0,none⟩:Addr).add 3)=some (.slice (some ⟨m.ib,0,none⟩) D.length m.ic):=by rw [bD,aE h.top];rfl
theorem XV.c4(h:XV w F x D P m):w.cell? ((⟨x,0,none⟩:Addr).add 4)=some (.map (some m.cb)):=by rw [bD,aE h.top];rfl
theorem XV.OH(h:XV w F x D P m):m.T.length=D.length:=by
 have:=Tr.fz m.T;rw [h.b9,h.ns.len]at this;exact this.symm
theorem XV.pD(h:XV w F x D P m){i k:Nat}{id kd:Tr.Nd}(hi:m.T[i]? =some id)(hk:m.T[k]? =some kd):decide (kd.lo<=id.lo/\id.hi<=kd.hi)=true↔kY P i k:=by
 rw [decide_eq_true_iff,<-h.b9];exact h.Me.under hi hk
theorem EM(a b:HT):a.1.toList++(b.1.toList++ [])=dv [a,b]:=by simp [dv]
theorem tV(h:XV w F x D P m)(hK:K (.bool true) w):bE prog fI.id #[.pointer (some ⟨x,0,none⟩)] w K:=
 fI.of (Split.yes rfl ⟨_,h.c0,hK⟩)
theorem zi{xb:Nat}(h:XV w F x D P m)(hg:w.heap[xb]? =some (.cells #[.pointer (some ⟨x,0,none⟩)] gN (0,0))){A:Option Addr}{n cx:Nat}{l:List HT}(hl:HS w A n l)(hn:n<=400000)
 (hK:∀w' (b:Bool),(b=true↔∃p∈l,p∉ids D)->Kept Nil w w'->K (.bool b) w'):
 bE prog dU.id #[.slice A n cx,.func (.func dM.id) #[] #[.pointer (some ⟨xb,0,none⟩)]] w K:=by
 have hlen:=hl.len;refine cG.of (ax.of ?_);refine ax.cJ (I:=fun s w'=>∃i:Nat,s=(0,(i:Int))/\i<=n/\(∀p∈l.take i,p∈ids D)/\Kept Nil w w') (μ:=fun s _=>((n:Int)-s.2).toNat) (s:=(0,0)) ⟨0,rfl,Nat.zero_le _,by simp,Kept.refl _ _⟩ ?_;rintro s w' ⟨i,rfl,hi,cY,kw⟩;refine Split.dec (fun jY=>?_) (fun gF=>?_)
 ·simp only at jY
  have dW:i<n:=by omega
  obtain⟨y,hy⟩:∃y,l[i]? =some y:=⟨_,List.getElem?_eq_getElem (by omega)⟩;refine(hl.same kw).load (i:=(i:Int)) (by omega) hy ?_;refine dM.of ?_;unfold dM.W;intro w3 w4;have k3:Kept Nil w' w3:=(Kept.refl _ _).alloc _;have p7:w3.heap[w'.heap.size]? =some (.cells y.1 al (0,0)):=aM w' _;have k4:Kept Nil w3 w4:=(Kept.refl _ _).drew;clear_value w4;have ui:=k4.heap p7 (fun h=>h);have KU:=(kw.tt k3).tt k4;obtain⟨bl,c,mb,M,G⟩:=(h.same KU).G;refine⟨some ⟨x,0,none⟩,by rw [aE (KU.heap hg (fun h=>h))];rfl,_,(h.same KU).c0,y.1,⟨y.2.1,Cells.bV ui⟩,sK G y fun w7 k7=>⟨_,rfl,_,rfl,?_⟩⟩;have CA:=KU.tt k7;by_cases hm:y∈ids D
  ·refine Split.no (by rw [decide_eq_true hm];rfl) ?_
   simp only;rw [dE (n:=(i:Int)) (by omega) (by omega)];refine⟨(0,(i:Int)+1),rfl,⟨i+1,rfl,dW,fun p hp=>?_,CA⟩,by simp only;omega⟩;rcases(bP hy).1 hp with hp|rfl
   ·exact cY p hp
   ·exact hm
  ·refine Split.yes (by rw [decide_eq_false hm];rfl) ?_
   refine⟨(i:Int),rfl,?_⟩;exact hK w7 _ ⟨fun _=>⟨y,List.mem_of_getElem? hy,hm⟩,fun _=>decide_eq_true (by omega)⟩ CA
 ·simp only at gF
  rw [aU,ax.dw];rw [List.take_of_length_le (by omega)]at cY;exact⟨-1,rfl,hK w' _ ⟨fun h=>absurd (of_decide_eq_true h) (by omega),fun⟨p,hp,hn⟩=>absurd (cY p hp) hn⟩ kw⟩
theorem qy(h:XV w F x D P m){A:Option Addr}{n cx:Nat}{l:List HT}(hl:HS w A n l)(hn:n<=400000)(hK:∀w',Kept Nil w w'->K (.bool (decide (∀p∈l,p∈ids D))) w'):
 bE prog fR.id #[.pointer (some ⟨x,0,none⟩),.slice A n cx] w K:=by
 refine fR.of ?_;unfold fR.W;intro w3;have k3:Kept Nil w w3:=(Kept.refl _ _).alloc _;have p7:w3.heap[w.heap.size]? =some (.cells #[.pointer (some ⟨x,0,none⟩)] gN (0,0)):=aM w _;clear_value w3;refine⟨_,by rw [aE p7];rfl,tV (h.same k3) ⟨true,rfl,Split.yes rfl ?_⟩⟩;refine zi (h.same k3) p7 (hl.same k3) hn fun w9 b hb k9=>⟨b,rfl,?_⟩;have:(!b)=decide (∀p∈l,p∈ids D):=by
  rw [Bool.eq_iff_iff,decide_eq_true_iff,Bool.not_eq_true',<-Bool.not_eq_true,hb];constructor
  ·exact fun hn p hp=>Classical.byContradiction fun hc=>hn ⟨p,hp,hc⟩
  ·rintro ha ⟨p,hp,hc⟩;exact hc (ha p hp)
 rw [this];exact hK w9 (k3.tt k9)
theorem tX(h:XV w F x D P m)(a b:HT)(hK:∀w' (r:Bool),(r=true↔Ch D P a b)->Kept Nil w w'->K (.bool r) w'):
 bE prog eT.id #[.pointer (some ⟨x,0,none⟩),.agg a.1,.agg b.1] w K:=by
 refine eT.of ?_;unfold eT.W;intro w4 w5 w6;have k4:Kept Nil w w4:=(Kept.refl _ _).alloc _;have C9:w4.heap[w.heap.size]? =some (.cells a.1 al (0,0)):=aM w _;have k5:Kept Nil w4 w5:=(Kept.refl _ _).alloc _;have pE:w5.heap[w4.heap.size]? =some (.cells b.1 al (0,0)):=aM w4 _;have k6:Kept Nil w5 w6:=(Kept.refl _ _).drew;clear_value w6;have xn:=(k5.tt k6).heap C9 (fun h=>h);have pZ:=k6.heap pE (fun h=>h);have nn:=(k4.tt k5).tt k6;refine⟨a.1,⟨a.2.1,Cells.bV xn⟩,b.1,⟨b.2.1,Cells.bV pZ⟩,a.2.1,b.2.1,?_⟩;intro w9;have k9:Kept Nil w6 w9:=(Kept.refl _ _).alloc _;have hx9:HS w9 (some ⟨w6.heap.size,0,none⟩) 2 [a,b]:=HS.lay (l:= [a,b]) (t:=al) (by rw [<-EM a b];exact aM w6 _);clear_value w9;have BQ:=nn.tt k9;refine qy (h.same BQ) hx9 (by omega) fun xG JY=>⟨_,rfl,?_⟩;have Pn:=BQ.tt JY;have Km:=h.same Pn;by_cases cY:∀p∈ [a,b],p∈ids D
 ·refine Split.yes (decide_eq_true cY) ?_
  obtain⟨na,Lx,ea⟩:=eF.1 (cY a (by simp));obtain⟨nb,P4,eb⟩:=eF.1 (cY b (by simp));obtain⟨k,hk⟩:=List.mem_iff_getElem?.1 Lx;obtain⟨i,hi⟩:=List.mem_iff_getElem?.1 P4;have CY:=(lgeS hk).1;have dW:=(lgeS hi).1;have htl:=h.OH;obtain⟨kd,U9⟩:=Tr.gJ (T:=m.T) (i:=k) (by omega);obtain⟨nd,gU⟩:=Tr.gJ (T:=m.T) (i:=i) (by omega);have Tu:=k9.tt JY;have l1:=Km.at_.xY b;have l2:=Km.at_.xY a;rw [<-eb,h.W.pos_eq hi]at l1;rw [<-ea,h.W.pos_eq hk]at l2;rw [eb]at l1;rw [ea]at l2;refine⟨_,Km.c1,_,Km.c2,b.1,⟨b.2.1,Cells.bV (Tu.heap pZ (fun h=>h))⟩,_,l1,_,Km.c2,a.1,⟨a.2.1,Cells.bV (Tu.heap xn (fun h=>h))⟩,_,l2,?_⟩;refine Tr.Ce Km.T gU U9 fun mC rQ=>⟨_,rfl,hK mC _ ?_ (Pn.tt rQ)⟩;rw [h.pD gU U9];constructor
  ·exact fun hu=>⟨i,k,nb,na,hi,eb,hk,ea,hu⟩
  ·rintro⟨i',k',ni,nk,h1,h2,h3,h4,h5⟩
   have e1:=h.W.inj h1 hi (by rw [h2,eb]);have e2:=h.W.inj h3 hk (by rw [h4,ea]);rw [<-e1,<-e2];exact h5
 ·refine Split.no (decide_eq_false cY) (hK xG false ⟨(fun e=>by cases e),fun e=>absurd (fun p hp=>?_) cY⟩ Pn)
  simp only [List.mem_cons,List.not_mem_nil,or_false]at hp;rcases hp with rfl|rfl
  ·exact e.mem.1
  ·exact e.mem.2
theorem wx{xb bb:Nat}{b:HT}(h:XV w F x D P m)(hg:w.heap[xb]? =some (.cells #[.pointer (some ⟨x,0,none⟩)] gN (0,0)))(hb:w.heap[bb]? =some (.cells b.1 al (0,0))){A:Option Addr}{n cx:Nat}{l:List HT}(hl:HS w A n l)(hn:n<=400000)
 (hK:∀w' (r:Bool),(r=true↔∃c∈l,Ch D P c b)->Kept Nil w w'->K (.bool r) w'):
 bE prog dU.id #[.slice A n cx,.func (.func dm.id) #[] #[.pointer (some ⟨xb,0,none⟩),.pointer (some ⟨bb,0,none⟩)]] w K:=by
 have hlen:=hl.len;refine cu.of (ao.of ?_);refine ao.cJ (I:=fun s w'=>∃i:Nat,s=(0,(i:Int))/\i<=n/\(∀p∈l.take i,¬Ch D P p b)/\Kept Nil w w') (μ:=fun s _=>((n:Int)-s.2).toNat) (s:=(0,0)) ⟨0,rfl,Nat.zero_le _,by simp,Kept.refl _ _⟩ ?_;rintro s w' ⟨i,rfl,hi,cY,kw⟩;refine Split.dec (fun jY=>?_) (fun gF=>?_)
 ·simp only at jY
  have dW:i<n:=by omega
  obtain⟨y,hy⟩:∃y,l[i]? =some y:=⟨_,List.getElem?_eq_getElem (by omega)⟩;refine(hl.same kw).load (i:=(i:Int)) (by omega) hy ?_;refine dm.of ?_;unfold dm.W;intro w4;have k4:Kept Nil w' w4:=(Kept.refl _ _).alloc _;have ui:w4.heap[w'.heap.size]? =some (.cells y.1 al (0,0)):=aM w' _;clear_value w4;have KU:=kw.tt k4;refine⟨some ⟨x,0,none⟩,by rw [aE (KU.heap hg (fun h=>h))];rfl,y.1,⟨y.2.1,Cells.bV ui⟩,b.1,⟨b.2.1,Cells.bV (KU.heap hb (fun h=>h))⟩,tX (h.same KU) y b fun w7 r hr k7=>⟨r,rfl,r,rfl,?_⟩⟩;have CA:=KU.tt k7;cases r with
  |false=>
   refine Split.no rfl ?_;simp only;rw [dE (n:=(i:Int)) (by omega) (by omega)];refine⟨(0,(i:Int)+1),rfl,⟨i+1,rfl,dW,fun p hp hc=>?_,CA⟩,by simp only;omega⟩;rcases(bP hy).1 hp with hp|rfl
   ·exact cY p hp hc
   ·cases hr.2 hc
  |true=>
   refine Split.yes rfl ⟨(i:Int),rfl,?_⟩;exact hK w7 _ ⟨fun _=>⟨y,List.mem_of_getElem? hy,hr.1 rfl⟩,fun _=>decide_eq_true (by omega)⟩ CA
 ·simp only at gF
  rw [aU,ao.dw];rw [List.take_of_length_le (by omega)]at cY;exact⟨-1,rfl,hK w' _ ⟨fun h=>absurd (of_decide_eq_true h) (by omega),fun⟨p,hp,hn⟩=>absurd hn (cY p hp)⟩ kw⟩
theorem lr(h:XV w F x D P m)(hD:D.length<=5000)(a b:HT)(hK:∀w' (r:Bool),(r=true↔fH D a b)->Kept Nil w w'->K (.bool r) w'):
 bE prog eo.id #[.pointer (some ⟨x,0,none⟩),.agg a.1,.agg b.1] w K:=by
 refine eo.of ?_;unfold eo.W;intro w4 w5 w6;have k4:Kept Nil w w4:=(Kept.refl _ _).alloc _;have TS:w4.heap[w.heap.size]? =some (.cells #[.pointer (some ⟨x,0,none⟩)] gN (0,0)):=aM w _;have k5:Kept Nil w4 w5:=(Kept.refl _ _).alloc _;have LZ:w5.heap[w4.heap.size]? =some (.cells a.1 al (0,0)):=aM w4 _;have k6:Kept Nil w5 w6:=(Kept.refl _ _).alloc _;have pZ:w6.heap[w5.heap.size]? =some (.cells b.1 al (0,0)):=aM w5 _;clear_value w6;have xn:=k6.heap LZ (fun h=>h);have Lg:=(k5.tt k6).heap TS (fun h=>h);have nn:=(k4.tt k5).tt k6;refine⟨_,by rw [aE Lg];rfl,a.1,⟨a.2.1,Cells.bV xn⟩,b.1,⟨b.2.1,Cells.bV pZ⟩,a.2.1,b.2.1,?_⟩;intro w10;have rR:Kept Nil w6 w10:=(Kept.refl _ _).alloc _;have Lm:HS w10 (some ⟨w6.heap.size,0,none⟩) 2 [a,b]:=HS.lay (l:= [a,b]) (t:=al) (by rw [<-EM a b];exact aM w6 _);clear_value w10;have CG:=nn.tt rR;refine qy (h.same CG) Lm (by omega) fun nx zy=>⟨_,rfl,?_⟩;have tw:=CG.tt zy;have CC:=rR.tt zy;by_cases cY:∀p∈ [a,b],p∈ids D
 ·refine Split.no (by rw [decide_eq_true cY];rfl) ?_
  have acB:=CC.heap xn (fun h=>h);have acv:=CC.heap pZ (fun h=>h);refine⟨a.1,⟨a.2.1,Cells.bV acB⟩,b.1,⟨b.2.1,Cells.bV acv⟩,⟨a.2.ints,b.2.ints⟩,?_⟩;rw [fy];refine Split.dec (fun he=>?_) (fun he=>?_)
  ·subst he
   exact hK nx false ⟨(fun e=>by cases e),fun e=>absurd e (fH.irrefl h.W a)⟩ tw
  ·intro nf
   have ry:Kept Nil nx nf:=(Kept.refl _ _).drew;clear_value nf;have TI:=tw.tt ry;have K5:=CC.tt ry;refine⟨_,by rw [aE (K5.heap Lg (fun h=>h))];rfl,a.1,⟨a.2.1,Cells.bV (K5.heap xn (fun h=>h))⟩,b.1,⟨b.2.1,Cells.bV (K5.heap pZ (fun h=>h))⟩,?_⟩;refine tX (h.same TI) a b fun zN r hr Ie=>⟨r,rfl,?_⟩;have Pj:=TI.tt Ie;have K4:=K5.tt Ie;cases r with
   |true=>exact Split.yes rfl (hK zN true ⟨fun _=>(JC h.W h.ns he).2 (.inl (hr.1 rfl)),fun _=>rfl⟩ Pj)
   |false=>
    refine Split.no rfl ?_;have h21:=h.same Pj;obtain⟨f,hf,NF⟩:=h21.YN;obtain⟨l,hl,jo⟩:=NF a;have EG:=hf.look yP a;have fin:∀ {A:Option Addr} {n c:Nat},(f a).getD (.slice none 0 0)=.slice A n c->HS zN A n l->n<=D.length->
     bE prog dU.id #[.slice A n c,.func (.func dm.id) #[] #[.pointer (some ⟨w.heap.size,0,none⟩),.pointer (some ⟨w5.heap.size,0,none⟩)]] zN fun v28 Y7=>∃t:Bool,v28=.bool t/\K (.bool t) Y7:=fun _ hs hn=>
     wx h21 (K4.heap Lg (fun h=>h)) (K4.heap pZ (fun h=>h)) hs (by omega) fun wQ r2 jX K8=>⟨r2,rfl,hK wQ r2 (by
      rw [jX,JC h.W h.ns he];constructor
      ·rintro⟨c,h1,h2⟩;exact .inr ⟨c,(jo c).1 h1,h2⟩
      ·rintro(h1|⟨c,h1,h2⟩)
       ·cases hr.2 h1
       ·exact⟨c,(jo c).2 h1,h2⟩) (Pj.tt K8)⟩
    refine⟨some ⟨x,0,none⟩,by rw [aE (K4.heap Lg (fun h=>h))];rfl,_,h21.c4,a.1,⟨a.2.1,Cells.bV (K4.heap xn (fun h=>h))⟩,?_⟩;rcases hl with⟨h1,rfl⟩|⟨A,n,c,h1,h2,h3,h4,h5⟩
    ·rw [h1]at EG
     exact⟨none,0,0,EG,fin (by rw [h1];rfl) (HS.nil _ _) (by omega)⟩
    ·rw [h1]at EG
     exact⟨A,n,c,EG,fin (by rw [h1];rfl) h3 h4⟩
 ·refine Split.yes (by rw [decide_eq_false cY];rfl) (hK nx false ⟨(fun e=>by cases e),fun e=>absurd (fun p hp=>?_) cY⟩ tw)
  simp only [List.mem_cons,List.not_mem_nil,or_false]at hp;rcases hp with rfl|rfl
  ·exact(e.mem h.W).1
  ·exact(e.mem h.W).2
end
end Go.Proofs.YtfleamccglihoaaGreatDoor
namespace Go.Proofs.YtfleamccglihoaaGreatDoor
open Go.Proofs.Tryz
open Go Go.b0 Go.RowKit
section
variable{w w':World}{K:Value->World->Prop}
theorem yu{A:Option Addr}{n c:Nat}(Gp:n<=c)(hK:K (.slice A n n) w):bE prog dD.id #[.slice A n c] w K:=by
 refine dD.of ⟨⟨by omega,by omega⟩,⟨by omega,by simp⟩,?_⟩;have e:(if(n:Int).toNat=0 then A else A.map (·.add (0*32)))=A:=by
  split
  ·rfl
  ·cases A with
   |none=>rfl
   |some a=>simp [add_zero]
 rw [e];simpa using hK
theorem xp{A:Option Addr}{n c:Nat}{l:List HT}(h:HT)(hl:HS w A n l)(hn:n<=1000000)(hK:∀w',Kept Nil w w'->K (.bool (decide (h∈l))) w'):
 bE prog dc.id #[.slice A n c,.agg h.1] w K:=by
 have hlen:=hl.len;refine dc.of ?_;unfold dc.W;intro w3;have k3:Kept Nil w w3:=(Kept.refl _ _).alloc _;have p7:w3.heap[w.heap.size]? =some (.cells h.1 al (0,0)):=aM w _;clear_value w3;refine⟨h.1,⟨h.2.1,Cells.bV p7⟩,?_⟩;refine aW.of ?_;unfold aW.W;intro w4;have k4:Kept Nil w3 w4:=(Kept.refl _ _).alloc _;have ui:w4.heap[w3.heap.size]? =some (.cells h.1 al (0,0)):=aM w3 _;clear_value w4;have mf:=k3.tt k4;refine aW.cJ (I:=fun s w'=>∃i:Nat,s=(0,(i:Int))/\i<=n/\Kept Nil w4 w'/\h∉l.take i) (μ:=fun s _=>((n:Int)-s.2).toNat) (s:=(0,0)) ⟨0,rfl,Nat.zero_le _,Kept.refl _ _,by simp⟩ ?_;rintro s w' ⟨i,rfl,hi,kw,mG⟩;refine Split.dec (fun di=>?_) (fun gF=>?_)
 ·simp only at di
  have dW:i<n:=by omega
  obtain⟨y,hy⟩:∃y,l[i]? =some y:=⟨_,List.getElem?_eq_getElem (by omega)⟩;intro w9;have k9:Kept Nil w' w9:=(Kept.refl _ _).drew;clear_value w9;have ZS:=kw.tt k9;have BQ:=mf.tt ZS;refine⟨h.1,⟨h.2.1,Cells.bV (ZS.heap ui (fun h=>h))⟩,?_⟩;refine(hl.same BQ).load (i:=(i:Int)) (by omega) hy ⟨⟨h.2.ints,y.2.ints⟩,?_⟩;rw [fy];refine Split.dec (fun he=>?_) (fun he=>?_)
  ·refine⟨(i:Int),rfl,?_⟩
   have:=hK w9 BQ;rw [decide_eq_true (by rw [he];exact List.mem_of_getElem? hy)]at this;rw [show decide ((i:Int)>=(0:Int))=true from decide_eq_true (by omega)];exact this
  ·simp only
   rw [iY (x:=(i:Int)+1) (by omega) (by omega)];refine⟨(0,(i:Int)+1),rfl,⟨i+1,rfl,dW,ZS,?_⟩,by simp only;omega⟩;rw [List.take_add_one,hy];simp only [Option.toList_some,List.mem_append,List.mem_singleton,not_or];exact⟨mG,he⟩
 ·simp only at gF
  rw [aU,aW.dw];refine⟨-1,rfl,?_⟩;have:=hK w' (mf.tt kw);rw [List.take_of_length_le (by omega)]at mG;rw [decide_eq_false mG]at this;exact this
theorem zn{A:Option Addr}{n cx:Nat}{l:List HT}{h:HT}{b:Nat}(hl:HS w A n l)(hb:HS w (some ⟨b,0,none⟩) 1 [h])(hn:n<=100000):
 ∃A' c' w',(Builtin.append_ #[aF,aF] aF #[.slice A n n,.slice (some ⟨b,0,none⟩) 1 cx]).run prog w=.ok (.slice A' (n+1) c') w'/\
  HS w' A' (n+1) (l++ [h])/\n+1<=c'/\(∀a,A'=some a->w.heap.size<=a.block/\a.block<w'.heap.size)/\Kept Nil w w':=by
 have hlen:=hl.len;cases A with
 |none=>
  obtain⟨rfl,rfl⟩:=hl.none;obtain⟨A',c',w',hr,fO,hg,hbk⟩:=dd (cx:=cx) aF (cr.nil w w.heap.size) hb (by omega) (Nat.le_refl _);rw [Nat.zero_add]at hr fO;rw [List.nil_append]at fO;obtain⟨b',rfl⟩:=Row.some fO (by omega);have xm:=Row.bV fO (k:=b') rfl;refine⟨some ⟨b',0,Option.none⟩,c',w',hr,cr.hs fO,?_,fun a ha=>?_,Kept.dX (Kept.refl _ _) hg (fun k hk=>by cases hk)⟩
  ·rcases Row.own fO with⟨h1,_⟩|⟨_,_,_,_,_,h1,_⟩
   ·cases h1
   ·exact h1
  ·cases ha
   obtain⟨h1,cur,h2⟩:=xm;exact⟨h1,bf h2⟩
 |some a=>
  obtain⟨i,z,hi,hz,hs,Kj,Ex⟩:=pK.inf;have hr:=run_append_grow (P:=prog) (w:=w) aF aF al i z pK.pD hi hz a n n (dv l) (by rw [ft,hs,hlen]) hl.cells ⟨b,0,Option.none⟩ 1 cx (dv [h]) (by rw [ft,hs];rfl) hb.cells (by omega) (by omega) (growslice_fits (by omega) (by rw [Kj];omega));refine⟨_,_,_,hr,⟨by simp [hlen],fun j y hj=>⟨_,rfl,?_,?_⟩⟩,grownCap_ge _ _ _ _,fun a' zc=>?_,?_⟩
  ·have:=aM w.drew (.cells ((dv l).toArray++(dv [h]).toArray++Builtin.zeroCells z.cells (grownCap w (n+1) n al-(n+1))) al)
   exact bf this
  ·intro q v hq
   rw [bD,bD,Nat.zero_add];have hblk:=aM w.drew (.cells ((dv l).toArray++(dv [h]).toArray++Builtin.zeroCells z.cells (grownCap w (n+1) n al-(n+1))) al);have e:(w.drew.heap.size)=w.heap.size:=rfl;rw [e]at hblk;rw [aE hblk];have h1:=lL hj hq;rw [mR]at h1;have di:=(lgeS h1).1;rw [Array.getElem?_append_left (by simpa using di)];simpa using h1
  ·cases zc
   have:=aM w.drew (.cells ((dv l).toArray++(dv [h]).toArray++Builtin.zeroCells z.cells (grownCap w (n+1) n al-(n+1))) al);exact⟨Nat.le_refl _,bf this⟩
  ·exact(Kept.refl Nil w).drew.alloc _
end
def iF(D:DG)(h s:HT)(l:List HT):Int:=if dT D h l=0 then(if s∈l then 0 else 2)else dT D h l
theorem qo{D:DG}{h:HT}{l:List HT}(e:dT D h l=0):mB D h l=D++ [⟨h,dB l⟩]:=by unfold mB;rw [if_pos e]
section
variable{w w':World}{S ST:Nat->Prop}{t:Nat}{T:List Tr.Nd}{d:Int}
theorem tO(h:Tr.pF w ST t T d):Tr.pF w (fun k=>ST k/\k<w.heap.size) t T d:=by
 obtain⟨b,c,L,h⟩:=h;refine⟨b,c,L,{h with iU:=⟨h.iU,h.lt⟩,gQ:=⟨h.gQ,?_⟩,rv:=fun i p hi=>?_}⟩
 ·obtain⟨A,m,hk⟩:=h.rv i p hi
  exact⟨A,m,{hk with kX:=fun k e=>⟨hk.kX k e,let ⟨_,_,hc⟩:=Row.bV hk.row e;bf hc⟩}⟩
 ·obtain⟨cur,hc⟩:=h.wE
  exact bf hc
end
section
variable{w w':World}{F:Nat->Prop}{x:Nat}{D:DG}{P:List Int}{m:XM}{K:Value->World->Prop}
theorem JE{v:World}{hid s:HT}{S2 F2 SO2:Nat->Prop}{ps:List HT}{j:Nat}{mj:DN}{Gh sb:Nat}{b8:Int}{FQ:Option Nat}{A7:Option Addr}{n7 c7:Nat}{i7:Int}{s1 s2:Nat}
 (h:XV w F x D P m) (hD:D.length<=5000) (hn:hid∉ids D) (gC:∀p∈ps,p∈ids D) (uU:SS ps) (hj:D[j]? =some mj) (hs:mj.id=s) (G9:s∈ps)
 (jJ:v.heap[x]? =some (.cells #[.pointer (some ⟨m.g,0,none⟩),.pointer (some ⟨m.t,0,none⟩),.map (some m.mb),.slice (some ⟨m.ib,0,none⟩) D.length m.ic,.map (some m.cb)] fc (0,0)))
 (ajD:w.heap.size<=Gh) (aiv:w.heap.size<=sb) (Qm:v.heap[Gh]? =some (.cells hid.1 al (0,0))) (IC:v.heap[sb]? =some (.cells s.1 al (0,0)))
 (hG:DO v S2 F2 m.g (D++ [⟨hid,ps⟩])) (hT:Tr.pF v m.ST m.t m.T m.d) (hat:IsMap v m.mb (ids D)) (fO:cr v 0 (some ⟨m.ib,0,none⟩) D.length m.ic (ids D))
 (QB:∃f,gg v m.cb f/\∀y,∃l,pf v SO2 (D.length+1) (f y) l/\∀c,c∈l↔Ol (D++ [⟨hid,ps⟩]) (P++ [(j:Int)]) y c)
 (wO:w.heap.size<=s1) (zD:s1<=s2) (CN:s2<=v.heap.size)
 (Ry:∀k,S2 k->(m.SG k\/w.heap.size<=k)/\k<s1) (Rz:∀k,F2 k->(F k\/w.heap.size<=k)/\k<s1) (MN:∀k,SO2 k->m.SO k\/(s2<=k/\k<v.heap.size))
 (kv:Kept (fun k=>m.kX x k) w v)
 (hK:∀u S' F',DM u S' F' x (D++ [⟨hid,ps⟩]) (P++ [(j:Int)])->Kept (fun k=>m.kX x k) w u->(∀k,S' k->m.kX x k\/w.heap.size<=k)->(∀k,F' k->F k\/w.heap.size<=k)->K (.int .i64 0) u):
 aH.Re (some ⟨x,0,none⟩) ⟨Gh,0,none⟩ ⟨sb,0,none⟩ b8 FQ A7 n7 c7 i7 i7 K v:=by
 have W:=h.W;have oN:=h.low;have uV:=(lgeS hj).1;have htl:=h.OH;have hox:m.own x x:=.inl rfl;have UB:m.own x m.mb:=.inr (.inl rfl);have UC:m.own x m.ib:=.inr (.inr (.inl rfl));have uE:m.own x m.cb:=.inr (.inr (.inr rfl));obtain⟨Ru,SN,OX,SM,Rt,SL⟩:=h.ne;unfold aH.Re;intro Fh;have wZ:Kept Nil v Fh:=(Kept.refl _ _).drew;clear_value Fh;have c1:Fh.cell? ((⟨x,0,none⟩:Addr).add 1)=some (.pointer (some ⟨m.t,0,none⟩)):=by rw [bD,aE (wZ.heap jJ (fun h=>h))];rfl
 have c2:Fh.cell? ((⟨x,0,none⟩:Addr).add 2)=some (.map (some m.mb)):=by rw [bD,aE (wZ.heap jJ (fun h=>h))];rfl
 have I9:=hat.aK wZ (fun h=>h);have lk:=I9.xY s;rw [<-hs,W.pos_eq hj]at lk;rw [hs]at lk;refine⟨_,c1,_,c2,s.1,⟨s.2.1,Cells.bV (wZ.heap IC (fun h=>h))⟩,_,lk,?_⟩;have Wu:=tO (hT.same wZ);refine Tr.Hx Wu h.Me (p:=j) (by omega) (by omega) ⟨h.dl.1,by have:=h.dl.2;omega⟩ fun Fg Xh T' d' Wt Jf Uu hd' Gg acF=>⟨_,_,rfl,?_⟩;have ag1:=wZ.size;have Rx:∀k,Xh k->m.ST k\/Fh.heap.size<=k:=fun k hk=>(acF k hk).imp (fun h=>h.1) (fun h=>h);have nST:∀k,(m.ST k/\k<Fh.heap.size)->m.ST k:=fun k h=>h.1;have OF:=Gg.heap (wZ.heap jJ (fun h=>h)) (fun e=>(h.od x hox).2.1 e.1);intro Hq;have Gf:Kept Nil Fg Hq:=(Kept.refl _ _).drew;clear_value Hq;have HA:=Gf.heap OF (fun h=>h);have EF:∀k,m.ST k->k<w.heap.size:=fun k e=>oN k (.inl (.inr (.inl e)));have lox:x<w.heap.size:=oN x (.inl (.inr (.inr (.inr hox))));have ahu:m.mb<w.heap.size:=oN _ (.inl (.inr (.inr (.inr UB))));have ahv:m.ib<w.heap.size:=oN _ (.inl (.inr (.inr (.inr UC))));have S8:m.cb<w.heap.size:=oN _ (.inl (.inr (.inr (.inr uE))));have sv:=kv.size;have EI:Hq.heap[Gh]? =some (.cells hid.1 al (0,0)):=Gf.heap (Gg.heap (wZ.heap Qm (fun h=>h)) (fun e=>by have:=EF _ e.1;omega)) (fun h=>h);have Dw:Hq.cell? ((⟨x,0,none⟩:Addr).add 2)=some (.map (some m.mb)):=by rw [bD,aE HA];rfl
 have QL:IsMap Hq m.mb (ids D):=(I9.aK Gg (fun e=>(h.od _ UB).2.1 e.1)).aK Gf (fun h=>h);obtain⟨Ox,Ni,QK,TG⟩:=QL.put hn;rw [iK,<-htl]at Ni;refine⟨_,Dw,hid.1,⟨hid.2.1,Cells.bV EI⟩,Ox,Ni,?_⟩;intro Ff;have TF:Kept Nil Ox Ff:=(Kept.refl _ _).drew;clear_value Ff;have yT:=TG.trans TF (fun _ _ h=>h.elim);have Hz:=yT.heap HA (fun e=>Ru e);have c3:∀ {u:World},Kept Nil Ff u->u.cell? ((⟨x,0,none⟩:Addr).add 3)=some (.slice (some ⟨m.ib,0,none⟩) D.length m.ic):=fun k=>by rw [bD,aE (k.heap Hz (fun h=>h))];rfl
 have LC:=yT.heap EI (fun e=>by omega);refine⟨_,_,_,c3 (Kept.refl _ _),hid.1,⟨hid.2.1,Cells.bV LC⟩,hid.2.1,?_⟩;intro zP;have Lb:Kept Nil Ff zP:=(Kept.refl _ _).alloc _;have Wi:HS zP (some ⟨Ff.heap.size,0,none⟩) 1 [hid]:=jE Ff hid;clear_value zP;have Eu:=yT.trans Lb (fun _ _ h=>h.elim);have OP:cr zP 0 (some ⟨m.ib,0,none⟩) D.length m.ic (ids D):=
  Row.aK (Row.aK (Row.aK (Row.aK fO wZ (fun _ _ h=>h)) Gg (fun k e e'=>by cases e;exact(h.od _ UC).2.1 e'.1)) Gf (fun _ _ h=>h)) Eu (fun k e e'=>by cases e;exact SM e'.symm)
 obtain⟨A',c',Fe,Uj,Cn,Vs,Wh⟩:=dd (cx:=1) aF OP Wi (by omega) (Nat.zero_le _);have Pg:Kept (· =m.ib) zP Fe:=Kept.grown (Kept.refl _ _) Vs (fun k e _=>by cases e;rfl);obtain⟨BR,rfl⟩:=Row.some Cn (by omega);have LD:BR=m.ib\/zP.heap.size<=BR:=by
  rcases Wh BR rfl with e|e
  ·left;simpa [bH]using e.symm
  ·exact .inr e
 have Hy:=Pg.heap (Lb.heap Hz (fun h=>h)) (fun e=>SN e);refine⟨c3 Lb,some ⟨BR,0,none⟩,_,c',Fe,Uj,Is.mk rfl ⟨?_,?_⟩⟩
 ·rw [bD]
  exact dP Hy (by simp)
 intro zO;have W3:zO=Fe.setCell ⟨x,3,none⟩ (.slice (some ⟨BR,0,none⟩) (D.length+1) c'):=by
  show Fe.setCell ((⟨x,0,none⟩:Addr).add 3) _=_
  rw [bD]
 have Pf:Kept (· =x) Fe zO:=by rw [W3];exact Kept.setCell (S:=fun k=>k=x) (Kept.refl _ Fe) (p:=⟨x,3,none⟩) (fun _=>rfl) _
 have OE:zO.heap[x]? =some (.cells #[.pointer (some ⟨m.g,0,none⟩),.pointer (some ⟨m.t,0,none⟩),.map (some m.mb),.slice (some ⟨BR,0,none⟩) (D.length+1) c',.map (some m.cb)] fc (0,0)):=by
  rw [W3,du Hy 3];rfl
 clear_value zO;have ag0:=Gg.size;have agZ:=Gf.size;have agY:=Eu.size;have agX:=Pg.size;have agW:=Pf.size;have kC:Kept (fun k=>k=m.ib\/k=x) Ox zO:=(((TF.tt Lb).mono (S':=fun k=>k=m.ib\/k=x) (fun _ _ h=>h.elim)).trans Pg (fun _ _ h=>.inl h)).trans Pf (fun _ _ h=>.inr h);have kB:Kept (fun k=>k=m.mb\/k=m.ib\/k=x) Fg zO:=((Gf.mono (S':=fun k=>k=m.mb\/k=m.ib\/k=x) (fun _ _ h=>h.elim)).trans TG (fun _ _ h=>.inl h)).trans kC (fun _ _ h=>.inr h);have kA:Kept (fun k=>m.ST k\/k=m.mb\/k=m.ib\/k=x) v zO:=((wZ.mono (S':=fun k=>m.ST k\/k=m.mb\/k=m.ib\/k=x) (fun _ _ h=>h.elim)).trans Gg (fun _ _ h=>.inl h.1)).trans kB (fun _ _ h=>.inr h);have FO:∀k,(k=m.mb\/k=m.ib\/k=x)->m.own x k:=fun k e=>by
  rcases e with e|e|e
  ·exact .inr (.inl e)
  ·exact .inr (.inr (.inl e))
  ·exact .inl e
 have KI:∀k,m.own x k->k<w.heap.size:=fun k e=>oN k (.inl (.inr (.inr (.inr e))));have KN:∀k,m.SG k->k<w.heap.size:=fun k e=>oN k (.inl (.inl e));have HZ:∀k,m.SO k->k<w.heap.size:=fun k e=>oN k (.inl (.inr (.inr (.inl e))));have nG:∀k,S2 k->¬(m.ST k\/k=m.mb\/k=m.ib\/k=x):=fun k h1 h2=>by
  obtain⟨h3,_⟩:=Ry k h1;rcases h2 with h2|h2
  ·rcases h3 with h3|h3
   ·exact(h.gt k h3).1 h2
   ·have:=EF k h2;omega
  ·have h4:=FO k h2
   rcases h3 with h3|h3
   ·exact(h.od k h4).1 h3
   ·have:=KI k h4;omega
 have nF:∀k,F2 k->¬(m.ST k\/k=m.mb\/k=m.ib\/k=x):=fun k h1 h2=>by
  obtain⟨h3,_⟩:=Rz k h1;rcases h2 with h2|h2
  ·rcases h3 with h3|h3
   ·exact(h.fd k h3).1 h2
   ·have:=EF k h2;omega
  ·have h4:=FO k h2
   rcases h3 with h3|h3
   ·exact(h.od k h4).2.2.2 h3
   ·have:=KI k h4;omega
 have Zw:∀k,SO2 k->¬(m.ST k\/k=m.mb\/k=m.ib\/k=x):=fun k h1 h2=>by
  rcases MN k h1 with h3|⟨h3,_⟩
  ·rcases h2 with h2|h2
   ·exact h.to k h2 h3
   ·exact(h.od k (FO k h2)).2.2.1 h3
  ·rcases h2 with h2|h2
   ·have:=EF k h2;omega
   ·have:=KI k (FO k h2);omega
 have nT:∀k,(Xh k/\k<Fg.heap.size)->¬(k=m.mb\/k=m.ib\/k=x):=fun k h1 h2=>by
  have h4:=FO k h2;rcases Rx k h1.1 with h3|h3
  ·exact(h.od k h4).2.1 h3
  ·have:=KI k h4;omega
 refine hK zO (fun k=>(S2 k\/(Xh k/\k<Fg.heap.size)\/SO2 k\/(k=x\/k=m.mb\/k=BR\/k=m.cb))) F2 ⟨{m with ib:=BR,ic:=c',T:=T',d:=d',SG:=S2,ST:=fun k=>Xh k/\k<Fg.heap.size,SO:=SO2},?_,fun k e=>e⟩ ?_ ?_ ?_
 ·refine⟨?_,hG.aK kA nG nF,(tO Wt).aK kB nT,Jf,?_,?_,?_,?_,?_,?_,?_,?_,?_,?_,?_,?_,?_⟩
  ·rw [List.length_append];exact OE
  ·show Tr.b9 T'=_
   rw [Uu,h.b9]
  ·have:=h.dl
   simp only [List.length_append,List.length_singleton];show 0<=d'/\d'<=_
   omega
  ·rw [lT]
   exact QK.aK kC (fun e=>e.elim (fun e=>SM e) (fun e=>Ru e.symm))
  ·rw [lT,List.length_append]
   refine Row.aK Cn Pf (fun k e e'=>?_);have e1:BR=k:=by simpa [bH]using e
   rcases LD with e|e
   ·exact SN (e'.symm.trans (e1.symm.trans e))
   ·omega
  ·obtain⟨f,hf,hc⟩:=QB
   refine⟨f,hf.aK kA (fun e=>?_),fun y=>?_⟩
   ·rcases e with e|e|e|e
    ·exact(h.od _ uE).2.1 e
    ·exact Rt e.symm
    ·exact SL e.symm
    ·exact OX e.symm
   ·obtain⟨l,h1,h2⟩:=hc y
    refine⟨l,?_,h2⟩;rw [List.length_append];exact h1.aK kA Zw
  ·exact h.ns.snoc hj (by rw [hs];exact G9) W.pos
  ·exact W.snoc (nd:=⟨hid,ps⟩) hn gC uU
  ·intro k h1
   obtain⟨h3,h4⟩:=Ry k h1;refine⟨fun h2=>?_,fun h2=>?_⟩
   ·rcases Rx k h2.1 with h5|h5
    ·exact nG k h1 (.inl h5)
    ·omega
   ·rcases MN k h2 with h5|h5
    ·rcases h3 with h3|h3
     ·exact(h.gt k h3).2 h5
     ·have:=HZ k h5;omega
    ·omega
  ·intro k h1 h2
   rcases Rx k h1.1 with h5|h5
   ·exact Zw k h2 (.inl h5)
   ·rcases MN k h2 with h6|h6
    ·have:=HZ k h6;omega
    ·omega
  ·intro k h1
   obtain⟨h3,h4⟩:=Rz k h1;refine⟨fun h2=>?_,fun h2=>?_⟩
   ·rcases Rx k h2.1 with h5|h5
    ·exact nF k h1 (.inl h5)
    ·omega
   ·rcases MN k h2 with h5|h5
    ·rcases h3 with h3|h3
     ·exact(h.fd k h3).2 h5
     ·have:=HZ k h5;omega
    ·omega
  ·intro k e
   have e':(k=m.mb\/k=m.ib\/k=x)\/(k=m.cb)\/(k=BR/\zP.heap.size<=BR):=by
    rcases e with e|e|e|e
    ·exact .inl (.inr (.inr e))
    ·exact .inl (.inl e)
    ·rcases LD with h5|h5
     ·exact .inl (.inr (.inl (e.trans h5)))
     ·exact .inr (.inr ⟨e,h5⟩)
    ·exact .inr (.inl e)
   have big:zP.heap.size<=k->¬S2 k/\¬(Xh k/\k<Fg.heap.size)/\¬SO2 k/\¬F2 k:=fun hb=>
    ⟨fun h1=>by have:=(Ry k h1).2;omega,fun h1=>by have:=h1.2;omega,fun h1=>(MN k h1).elim (fun h2=>by have:=HZ k h2;omega) (fun h2=>by omega),fun h1=>by have:=(Rz k h1).2;omega⟩
   rcases e' with e'|e'|⟨rfl,e'⟩
   ·exact⟨fun h1=>nG k h1 (.inr e'),fun h1=>nT k h1 e',fun h1=>Zw k h1 (.inr e'),fun h1=>nF k h1 (.inr e')⟩
   ·subst e'
    have EN:=h.od _ uE;refine⟨fun h1=>?_,fun h1=>?_,fun h1=>?_,fun h1=>?_⟩
    ·rcases(Ry _ h1).1 with h2|h2
     ·exact EN.1 h2
     ·omega
    ·rcases Rx _ h1.1 with h2|h2
     ·exact EN.2.1 h2
     ·omega
    ·rcases MN _ h1 with h2|h2
     ·exact EN.2.2.1 h2
     ·omega
    ·rcases(Rz _ h1).1 with h2|h2
     ·exact EN.2.2.2 h2
     ·omega
   ·exact big e'
  ·show x≠m.mb/\x≠BR/\x≠m.cb/\m.mb≠BR/\m.mb≠m.cb/\BR≠m.cb
   rcases LD with h5|h5
   ·rw [h5];exact⟨Ru,SN,OX,SM,Rt,SL⟩
   ·exact⟨Ru,by omega,OX,by omega,Rt,by omega⟩
  ·intro k e
   have hblk:=(Row.bV Cn (k:=BR) rfl).2;obtain⟨cur,pY⟩:=hblk;have lib:=bf pY;rcases e with e|e
   ·rcases e with e|e|e|e
    ·have:=(Ry k e).2;omega
    ·have:=e.2;omega
    ·rcases MN k e with h2|h2
     ·have:=HZ k h2;omega
     ·omega
    ·rcases e with e|e|e|e
     ·omega
     ·have e:k=m.mb:=e;omega
     ·have e:k=BR:=e;omega
     ·have e:k=m.cb:=e;omega
   ·have:=(Rz k e).2;omega
 ·refine kv.trans kA (fun k _ e=>?_)
  rcases e with e|e
  ·exact .inr (.inl e)
  ·exact .inr (.inr (.inr (FO k e)))
 ·intro k e
  rcases e with e|e|e|e
  ·exact(Ry k e).1.imp (fun h=>.inl h) (fun h=>h)
  ·rcases Rx k e.1 with h5|h5
   ·exact .inl (.inr (.inl h5))
   ·exact .inr (by omega)
  ·rcases MN k e with h5|h5
   ·exact .inl (.inr (.inr (.inl h5)))
   ·exact .inr (by omega)
  ·rcases e with e|e|e|e
   ·exact .inl (.inr (.inr (.inr (.inl e))))
   ·exact .inl (.inr (.inr (.inr (.inr (.inl e)))))
   ·rcases LD with h5|h5
    ·exact .inl (.inr (.inr (.inr (.inr (.inr (.inl (e.trans h5)))))))
    ·exact .inr (by omega)
   ·exact .inl (.inr (.inr (.inr (.inr (.inr (.inr e))))))
 ·exact fun k e=>(Rz k e).1
end
section
variable{w w':World}{F S:Nat->Prop}{x:Nat}{D:DG}{P:List Int}{m:XM}{K:Value->World->Prop}
theorem GY{u v:World}{hid s:HT}{D':DG}{ps pl:List HT}{Gh ob i:Nat}{A7:Option Addr}{c7:Nat}{b8:Int}{sb:Addr}{f0:HT->Option Value}{Q:aT}{Xy:Option Nat}
 (h:XV w F x D P m) (hD:D.length<=5000) (hwu:w.heap.size<=u.heap.size)
 (jJ:u.heap[x]? =some (.cells #[.pointer (some ⟨m.g,0,none⟩),.pointer (some ⟨m.t,0,none⟩),.map (some m.mb),.slice (some ⟨m.ib,0,none⟩) D.length m.ic,.map (some m.cb)] fc (0,0)))
 (Qm:u.heap[Gh]? =some (.cells hid.1 al (0,0))) (ai9:w.heap.size<=Gh) (hold:gg u ob f0) (ai6:w.heap.size<=ob) (aa3:Xy=some ob)
 (hf0:∀y,(y=s\/fH D y s->f0 y=some (.agg #[.bool true]))/\(¬(y=s\/fH D y s)->f0 y=none))
 (wU:cr u w.heap.size A7 pl.length c7 pl) (rT:pl.length<=10000)
 (kv:Kept (· =m.cb) u v) (hi:i<=pl.length) {Z:HT->HT->Prop}
 (QB:∃f,gg v m.cb f/\∀y,∃l,pf v (fun k=>m.SO k\/(u.heap.size<=k/\k<v.heap.size)) (D.length+if y∈pl.take i then 1 else 0) (f y) l/\∀c,c∈l↔Ol D P y c\/(c=hid/\y∈pl.take i/\y≠s/\¬fH D y s)) (gU:pl.Nodup)
 (hQ:∀v',Kept (· =m.cb) u v'->(∃f,gg v' m.cb f/\∀y,∃l,pf v' (fun k=>m.SO k\/(u.heap.size<=k/\k<v'.heap.size)) (D.length+if y∈pl.take (i+1)then 1 else 0) (f y) l/\∀c,c∈l↔Ol D P y c\/(c=hid/\y∈pl.take (i+1)/\y≠s/\¬fH D y s))->i<pl.length->
   Q .normal (aH.e2 (some ⟨x,0,none⟩) ⟨Gh,0,none⟩ sb b8 Xy A7 pl.length c7 (pl.length:Int) ((i:Int)+1)) v')
 (hE:i=pl.length->Q (.exit 3) (aH.e2 (some ⟨x,0,none⟩) ⟨Gh,0,none⟩ sb b8 Xy A7 pl.length c7 (pl.length:Int) (i:Int)) v):
 aH.B2 (some ⟨x,0,none⟩) ⟨Gh,0,none⟩ sb b8 Xy A7 pl.length c7 (pl.length:Int) (i:Int) Q v:=by
 subst aa3;have hox:m.own x x:=.inl rfl;have uE:m.own x m.cb:=.inr (.inr (.inr rfl));obtain⟨Ru,SN,OX,SM,Rt,SL⟩:=h.ne;have S8:m.cb<w.heap.size:=h.low _ (.inl (.inr (.inr (.inr uE))));have sv:=kv.size;unfold aH.B2;refine Split.dec (fun jY=>?_) (fun gF=>hE (by omega));have dW:i<pl.length:=by omega
 obtain⟨y,hy⟩:∃y,pl[i]? =some y:=⟨_,List.getElem?_eq_getElem dW⟩;have XQ:y∉pl.take i:=fun hm=>by
  obtain⟨j,hj⟩:=List.mem_iff_getElem?.1 hm;rw [List.getElem?_take]at hj;split at hj
  ·rename_i di
   have h1:=lJ 0 j gU hj;rw [lJ 0 i gU hy]at h1;simp only [Option.some.injEq]at h1;omega
  ·cases hj
 have ON:HS v A7 pl.length pl:=cr.hs (Row.aK wU kv (fun k hk e=>by have:=(Row.bV wU hk).1;omega));refine ON.load (i:=(i:Int)) (by omega) (by rw [Int.toNat_natCast];exact hy) ?_;intro w81;obtain⟨tA,kh,kH⟩:=iN (w:=v) (z:=(CJ 0)) (cs:=y.1) (t:=al) (by rw [y.2.1];rfl);refine⟨⟨y.2.1,y.2.one,fun j hj=>tA j (by rw [y.2.1];exact hj)⟩,?_⟩;intro Ou
 replace kh:Ou.heap[v.heap.size]? =some (.cells y.1 al (0,0)):=kh
 replace kH:Kept Nil v Ou:=kH
 clear_value Ou;have XH:Kept (· =m.cb) u Ou:=kv.trans kH (fun _ _ h=>h.elim);have P0:gg Ou ob f0:=hold.aK XH (fun e=>by omega);have lk:=P0.look HV y;obtain⟨f,hf,hc⟩:=QB;have VD:=hf.aK kH (fun h=>h);obtain⟨l,rU,Gr⟩:=hc y;have aav:=kH.size;have Oe:∀ {v':World} {N N':Nat} {a:Option Value} {l:List HT},v.heap.size<=v'.heap.size->N<=N'->pf v' (fun k=>m.SO k\/(u.heap.size<=k/\k<v.heap.size)) N a l->pf v' (fun k=>m.SO k\/(u.heap.size<=k/\k<v'.heap.size)) N' a l:=fun hv hN Bh=>by
  rcases Bh with Bh|⟨A,n,c,h1,h2,h3,h4,h5⟩
  ·exact .inl Bh
  ·exact .inr ⟨A,n,c,h1,h2,h3,by omega,fun a ha=>(h5 a ha).imp (fun h=>h) (fun h=>⟨h.1,by omega⟩)⟩
 have Of:∀ {v':World} {N:Nat} {a:Option Value} {l:List HT},Kept (· =m.cb) v v'->pf v (fun k=>m.SO k\/(u.heap.size<=k/\k<v.heap.size)) N a l->pf v' (fun k=>m.SO k\/(u.heap.size<=k/\k<v.heap.size)) N a l:=fun hk Bh=>Bh.aK hk (fun k o6 e=>by
  rcases o6 with h1|h1
  ·exact(h.od _ uE).2.2.1 (e▸h1)
  ·omega)
 refine⟨y.1,⟨y.2.1,Cells.bV kh⟩,?_⟩;by_cases ko:y=s\/fH D y s
 ·rw [(hf0 y).1 ko]at lk
  refine⟨_,lk,true,rfl,Split.no rfl ?_⟩;rw [dE (n:=(i:Int)) (by omega) (by omega)];refine hQ Ou XH ⟨f,VD,fun z=>?_⟩ dW;obtain⟨lz,h1,h2⟩:=hc z;refine⟨lz,Oe aav (by
   by_cases hz:z∈pl.take i
   ·rw [if_pos hz,if_pos ((bP hy).2 (.inl hz))];exact Nat.le_refl _
   ·rw [if_neg hz];omega) (Of (kH.mono (fun _ _ h=>h.elim)) h1),fun c=>?_⟩
  rw [h2,bP hy];constructor
  ·rintro(h3|⟨h3,h4,h5,h6⟩)
   ·exact .inl h3
   ·exact .inr ⟨h3,.inl h4,h5,h6⟩
  ·rintro(h3|⟨h3,h4|rfl,h5,h6⟩)
   ·exact .inl h3
   ·exact .inr ⟨h3,h4,h5,h6⟩
   ·exact absurd ko (fun e=>e.elim h5 h6)
 ·rw [(hf0 y).2 ko]at lk
  refine⟨_,lk,false,rfl,Split.yes rfl ?_⟩;intro DR;have Tq:Kept Nil Ou DR:=(Kept.refl _ _).drew;clear_value DR;have ZI:=kH.tt Tq;have I2:=Tq.heap kh (fun h=>h);have uw:∀ {q:World},Kept Nil DR q->q.cell? ((⟨x,0,none⟩:Addr).add 4)=some (.map (some m.cb)):=fun k=>by
   rw [bD,aE (k.heap (Tq.heap (XH.heap jJ (fun e=>OX e)) (fun h=>h)) (fun h=>h))];rfl
  have nV:∀ {q:World},Kept Nil DR q->∃cs:Array Value,(.agg y.1:Value)=.agg cs/\cs.size=32/\Cells q (aV v.heap.size) cs:=fun k=>⟨y.1,rfl,y.2.1,Cells.bV (k.heap I2 (fun h=>h))⟩;have NB:DR.heap[Gh]? =some (.cells hid.1 al (0,0)):=Tq.heap (XH.heap Qm (fun e=>by omega)) (fun h=>h);have abX:∀ {q:World},Kept Nil DR q->∃cs:Array Value,(.agg hid.1:Value)=.agg cs/\cs.size=32/\Cells q (⟨Gh,0,none⟩:Addr) cs:=fun k=>⟨hid.1,rfl,hid.2.1,Cells.bV (k.heap NB (fun h=>h))⟩;have VC:=VD.aK Tq (fun h=>h);obtain⟨A,n,c,gX,Gp,BT,hnN⟩:∃(A:Option Addr) (n c:Nat),(f y).getD (.slice none 0 0)=.slice A n c/\n<=c/\HS v A n l/\n<=D.length:=by
   rcases rU with⟨h1,h2⟩|⟨A,n,c,h1,h2,h3,h4,_⟩
   ·exact⟨none,0,0,by rw [h1];rfl,Nat.le_refl _,by rw [h2];exact HS.nil _ _,by omega⟩
   ·rw [if_neg XQ]at h4
    exact⟨A,n,c,by rw [h1];rfl,h2,h3,by omega⟩
  have lk2:∀ {q:World},Kept Nil DR q->(Instr.lookup iC (.map (some m.cb)) (.agg y.1) false).run prog q=.ok (.slice A n c) q:=fun k=>by
   have:=(VC.aK k (fun h=>h)).look yP y;rw [gX]at this;exact this
  have fin:∀ {q:World} {bb:Nat},Kept Nil DR q->HS q (some ⟨bb,0,none⟩) 1 [hid]->
   ∃(A':Option Addr) (n' c':Nat) (q2:World),(Builtin.append_ #[aF,aF] aF #[.slice A n n,.slice (some ⟨bb,0,none⟩) 1 1]).run prog q=.ok (.slice A' n' c') q2/\(∃cs:Array Value,(.agg y.1:Value)=.agg cs/\cs.size=32/\Cells q2 (aV v.heap.size) cs)/\q2.cell? ((⟨x,0,none⟩:Addr).add 4)=some (.map (some m.cb))/\
    ∃q3:World,(Instr.mapUpdate iC (.map (some m.cb)) (.agg y.1) (.slice A' n' c')).run prog q2=.ok () q3/\Q .normal (aH.e2 (some ⟨x,0,none⟩) ⟨Gh,0,none⟩ sb b8 (some ob) A7 pl.length c7 (pl.length:Int) (i64.wrap ((i:Int)+(1:Int)))) q3:=by
   intro q bb kq xm;have ZH:=ZI.tt kq;obtain⟨A',c',q2,hr,zD,I1,nE,kq2⟩:=zn (cx:=1) (BT.same ZH) xm (by omega);have k2:=kq.tt kq2;obtain⟨q3,yZ,hf3,k3⟩:=(VC.aK k2 (fun h=>h)).put yP y (.slice A' (n+1) c');refine⟨A',_,c',q2,hr,nV k2,uw k2,q3,yZ,?_⟩;rw [dE (n:=(i:Int)) (by omega) (by omega)];have Tj:=ZH.tt kq2;have Ti:Kept (· =m.cb) v q3:=(Tj.mono (S':=(· =m.cb)) (fun _ _ h=>h.elim)).tt k3;have sq2:=Tj.size;have sq3:=k3.size;have svq:=ZH.size;refine hQ q3 (kv.tt Ti) ⟨_,hf3,fun z=>?_⟩ dW;by_cases hz:z=y
   ·subst hz
    refine⟨l++ [hid],.inr ⟨A',n+1,c',by simp,I1,zD.aK k3 (fun a ha e=>by have:=(nE a ha).1;omega),?_,fun a ha=>.inr ?_⟩,fun c=>?_⟩
    ·rw [if_pos ((bP hy).2 (.inr rfl))];omega
    ·have:=nE a ha;omega
    ·rw [List.mem_append,List.mem_singleton,Gr,bP hy]
     constructor
     ·rintro((h3|⟨h3,h4,h5,h6⟩)|h3)
      ·exact .inl h3
      ·exact .inr ⟨h3,.inl h4,h5,h6⟩
      ·exact .inr ⟨h3,.inr rfl,fun e=>ko (.inl e),fun e=>ko (.inr e)⟩
     ·rintro(h3|⟨h3,h4,h5,h6⟩)
      ·exact .inl (.inl h3)
      ·exact .inr h3
   ·obtain⟨lz,h1,h2⟩:=hc z
    refine⟨lz,?_,fun c=>?_⟩
    ·simp only [hz,if_false]
     refine Oe (by omega) ?_ (Of Ti h1);by_cases ZY:z∈pl.take i
     ·rw [if_pos ZY,if_pos ((bP hy).2 (.inl ZY))];exact Nat.le_refl _
     ·rw [if_neg ZY];omega
    ·rw [h2,bP hy]
     constructor
     ·rintro(h3|⟨h3,h4,h5,h6⟩)
      ·exact .inl h3
      ·exact .inr ⟨h3,.inl h4,h5,h6⟩
     ·rintro(h3|⟨h3,h4|h4,h5,h6⟩)
      ·exact .inl h3
      ·exact .inr ⟨h3,h4,h5,h6⟩
      ·exact absurd h4 hz
  refine⟨_,uw (Kept.refl _ _),y.1,⟨y.2.1,Cells.bV I2⟩,_,uw (Kept.refl _ _),y.1,⟨y.2.1,Cells.bV I2⟩,A,n,c,lk2 (Kept.refl _ _),hid.1,⟨hid.2.1,Cells.bV NB⟩,?_,⟨hid.2.1,?_⟩⟩
  ·refine yu Gp ⟨A,n,n,rfl,abX (Kept.refl _ _),nV (Kept.refl _ _),uw (Kept.refl _ _),hid.2.1,?_⟩
   intro Fi;have CE:Kept Nil DR Fi:=(Kept.refl _ _).alloc _;have Wk:HS Fi (some ⟨DR.heap.size,0,none⟩) 1 [hid]:=jE DR hid;clear_value Fi;exact⟨nV CE,uw CE,fin CE Wk⟩
  ·intro Oy
   have AT:Kept Nil DR Oy:=(Kept.refl _ _).alloc _;have Wj:HS Oy (some ⟨DR.heap.size,0,none⟩) 1 [hid]:=jE DR hid;clear_value Oy;exact⟨lk2 AT,nV AT,uw AT,nV AT,uw AT,yu Gp ⟨A,n,n,rfl,nV AT,uw AT,fin AT Wj⟩⟩
end
def oy(D:DG)(h s:HT)(l:List HT):DG:=if iF D h s l=0 then D++ [⟨h,dB l⟩]else D
def ox(D:DG)(P:List Int)(h s:HT)(l:List HT):List Int:=if iF D h s l=0 then P++ [(((pos s (ids D) 0).getD 0:Nat):Int)]else P
section
variable{w w':World}{F S:Nat->Prop}{x:Nat}{D:DG}{P:List Int}{m:XM}{K:Value->World->Prop}
theorem FK(h:XV w F x D P m)(hD:D.length<=5000)(hT:sS w)(Kk:¬m.SG (Tryz.kF.g 1)){A:Option Addr}{n cx:Nat}{lp:List HT}(hl:HS w A n lp)(hn:n<=5000)(hid s:HT)
 (mG:∀v,Kept Nil w v->iF D hid s lp≠0->K (.int .i64 (iF D hid s lp)) v)
 (xg:∀u S' F',DM u S' F' x (oy D hid s lp) (ox D P hid s lp)->Kept (fun k=>m.kX x k) w u->(∀k,S' k->m.kX x k\/w.heap.size<=k)->(∀k,F' k->F k\/w.heap.size<=k)->iF D hid s lp=0->K (.int .i64 0) u):
 bE prog aH.id #[.pointer (some ⟨x,0,none⟩),.agg hid.1,.agg s.1,.slice A n cx] w K:=by
 have hlen:=hl.len;have W:=h.W;refine aH.of ?_;unfold aH.W;intro w5 w6;have k5:Kept Nil w w5:=(Kept.refl _ _).alloc _;have LF:w5.heap[w.heap.size]? =some (.cells hid.1 al (0,0)):=aM w _;have k6:Kept Nil w5 w6:=(Kept.refl _ _).alloc _;have Ll:w6.heap[w5.heap.size]? =some (.cells s.1 al (0,0)):=aM w5 _;clear_value w6;have RT:=k6.heap LF (fun h=>h);have nn:=k5.tt k6;have s5:=k5.size;have l5:=bf LF;obtain⟨bl,c,mbg,M,G⟩:=h.G;have hG:∀ {v:World},Kept Nil w v->GV v m.SG F m.g D (iB D) bl c mbg M:=fun k=>G.same k;refine tV (h.same nn) ⟨true,rfl,Split.no rfl ⟨_,(h.same nn).c0,hid.1,⟨hid.2.1,Cells.bV RT⟩,?_⟩⟩;refine sK (hG nn) hid fun jh JX=>⟨_,rfl,?_⟩;have Ld:=nn.tt JX;by_cases gC:hid∈ids D
 ·have e:iF D hid s lp=7:=by simp [iF,dT,gC]
  have:=mG jh Ld (by rw [e];decide);rw [e]at this;exact Split.yes (decide_eq_true gC) this
 refine Split.no (decide_eq_false gC) ?_;by_cases h0:n=0
 ·have el:lp= []:=List.length_eq_zero_iff.1 (by omega)
  have e:iF D hid s lp=9:=by subst el;simp [iF,dT,gC,KA]
  have:=mG jh Ld (by rw [e];decide);rw [e]at this;exact Split.yes (by simp [h0]) this
 refine Split.no (by simp [h0]) ?_;refine iR (hl.same Ld) (by omega) fun A17 c17 xF aeb Ih=>⟨A17,_,c17,rfl,?_⟩;have Lc:=Ld.tt Ih;have fW:lp≠ []:=fun e=>h0 (by rw [<-hlen,e];rfl);by_cases BT:¬(dB lp).length=n
 ·have e:iF D hid s lp=9:=by
   have h1:(dB lp).length=0\/(dB lp).length≠lp.length:=.inr (by omega);have h2:dT D hid lp=9:=by unfold dT;rw [if_neg gC,if_pos h1]
   simp [iF,h2]
  have:=mG xF Lc (by rw [e];decide);rw [e]at this;exact Split.yes (by simp only [bne_iff_ne,ne_eq];omega) this
 replace BT:=Classical.not_not.1 BT
 refine Split.no (by rw [BT];simp) ?_;refine qy (h.same Lc) (hl.same Lc) (by omega) fun Fc BP=>⟨_,rfl,?_⟩;have Pk:=Lc.tt BP;have UJ:¬((dB lp).length=0\/(dB lp).length≠lp.length):=by omega
 by_cases cY:¬∀p∈lp,p∈ids D
 ·have hex:∃p∈dB lp,p∉ids D:=Classical.byContradiction fun hc=>cY fun p hp=>Classical.byContradiction fun hq=>hc ⟨p,dV.2 hp,hq⟩
  have e:iF D hid s lp=6:=by
   have:dT D hid lp=6:=by unfold dT;rw [if_neg gC,if_neg UJ,if_pos hex]
   simp [iF,this]
  have:=mG Fc Pk (by rw [e];decide);rw [e]at this;exact Split.yes (by rw [decide_eq_false cY];rfl) this
 replace cY:=Classical.not_not.1 cY
 refine Split.no (by rw [decide_eq_true cY];rfl) ?_;have ab4:¬∃p∈dB lp,p∉ids D:=fun⟨p,hp,hq⟩=>hq (cY p (dV.1 hp));have eC:dT D hid lp=0:=by unfold dT;rw [if_neg gC,if_neg UJ,if_neg ab4]
 have Tt:=(JX.tt Ih).tt BP;refine⟨s.1,⟨s.2.1,Cells.bV (Tt.heap Ll (fun h=>h))⟩,?_⟩;refine xp s (hl.same Pk) (by omega) fun mC rQ=>⟨_,rfl,?_⟩;have CF:=Pk.tt rQ;by_cases vR:¬s∈lp
 ·have e:iF D hid s lp=2:=by simp [iF,eC,vR]
  have:=mG mC CF (by rw [e];decide);rw [e]at this;exact Split.yes (by rw [decide_eq_false vR];rfl) this
 replace vR:=Classical.not_not.1 vR
 refine Split.no (by rw [decide_eq_true vR];rfl) ?_;have eX:iF D hid s lp=0:=by simp [iF,eC,vR]
 have K3:=Tt.tt rQ;obtain⟨mj,P8,P7⟩:=eF.1 (cY s vR);obtain⟨j,hj⟩:=List.mem_iff_getElem?.1 P8;have eP:ox D P hid s lp=P++ [(j:Int)]:=by
  unfold ox;rw [if_pos eX,<-P7,W.pos_eq hj];rfl
 have eD:oy D hid s lp=D++ [⟨hid,dB lp⟩]:=by unfold oy;rw [if_pos eX]
 intro rf;have Ge:Kept Nil mC rf:=(Kept.refl _ _).alloc _;have abi:gg rf mC.heap.size (fun _=>none):=gg.new mC;clear_value rf;have IF:=(K3.tt Ge).heap Ll (fun h=>h);obtain⟨G5,aaK,UW,Ia⟩:=abi.put HV s (.agg #[.bool true]);refine⟨s.1,⟨s.2.1,Cells.bV IF⟩,G5,aaK,?_⟩;have ob0:w5.heap.size<mC.heap.size:=by have:=bf Ll;have:=K3.size;omega
 have aaw:=Ia.heap IF (fun e=>by omega);refine⟨s.1,⟨s.2.1,Cells.bV aaw⟩,s.2.1,?_⟩;intro Rr;have ZV:Kept Nil G5 Rr:=(Kept.refl _ _).alloc _;have aab:HS Rr (some ⟨G5.heap.size,0,none⟩) 1 [s]:=jE G5 s;clear_value Rr;have ag4:=CF.size;have Ic:Kept Nil mC Rr:=(Ge.trans Ia (fun k hk e=>by omega)).tt ZV;have Ph:=CF.tt Ic;refine wv (hG Ph) W (by omega) (hT.same Ph) aab (by omega) fun A32 W8 uR MB G6=>⟨A32,_,W8,rfl,?_⟩;have ZW:=Ph.tt G6;have abh:gg uR mC.heap.size (fun z=>if z=s then some (.agg #[.bool true])else none):=(UW.aK ZV (fun h=>h)).aK G6 (fun h=>h);have p1:=og D fun a=>∃z∈ [s],fH D a z
 change (eM D [s]).length<=_ at p1
 have ad4:=Ic.size;have ob1:=UW.lt;have s30:=ZV.size;have Nl:∀y,y∈eM D [s]↔fH D y s:=fun y=>by
  unfold eM;rw [km];constructor
  ·rintro⟨_,z,hz,e⟩
   rw [List.mem_singleton]at hz
   rwa [hz]at e
  ·exact fun e=>⟨(e.mem W).1,s,by simp,e⟩
 have ahA:∀k,k=mC.heap.size->¬k<w.heap.size:=fun k e=>by omega
 refine aH.cJ (I:=fun i v=>∃(q:Nat) (f:HT->Option Value),i=(q:Int)/\q<=(eM D [s]).length/\gg v mC.heap.size f/\(∀y,(y=s\/y∈(eM D [s]).take q->f y=some (.agg #[.bool true]))/\(¬(y=s\/y∈(eM D [s]).take q)->f y=none))/\Kept (· =mC.heap.size) uR v)
  (μ:=fun i _=>(((eM D [s]).length:Int)-i).toNat) (s:=0) ⟨0,_,rfl,Nat.zero_le _,abh,fun y=>⟨fun e=>by
    rcases e with e|e
    ·rw [if_pos e]
    ·simp at e,fun e=>if_neg fun e'=>e (.inl e')⟩,Kept.refl _ _⟩ ?_
 rintro i v ⟨q,f,rfl,hq,hmv,Qw,kv⟩;have tq:Kept Nil w v:=ZW.trans kv (fun k hk e=>by omega);refine Split.dec (fun jY=>?_) (fun gF=>?_)
 ·have dW:q<(eM D [s]).length:=by omega
  obtain⟨y,hy⟩:∃y,(eM D [s])[q]? =some y:=⟨_,List.getElem?_eq_getElem dW⟩;have ON:=cr.hs (Row.aK MB kv (fun k hk e=>by have:=(Row.bV MB hk).1;omega));refine ON.load (i:=(q:Int)) (by omega) (by rw [Int.toNat_natCast];exact hy) ?_;intro Mv;obtain⟨tA,kh,kH⟩:=iN (w:=v) (z:=(CJ 0)) (cs:=y.1) (t:=al) (by rw [y.2.1];rfl);refine⟨⟨y.2.1,y.2.one,fun j hj=>tA j (by rw [y.2.1];exact hj)⟩,?_⟩;intro Zc
  replace kh:Zc.heap[v.heap.size]? =some (.cells y.1 al (0,0)):=kh
  replace kH:Kept Nil v Zc:=kH
  clear_value Zc;obtain⟨Hn,PX,abf,XK⟩:=(hmv.aK kH (fun h=>h)).put HV y (.agg #[.bool true]);refine⟨y.1,⟨y.2.1,Cells.bV kh⟩,Hn,PX,?_⟩;rw [dE (n:=(q:Int)) (by omega) (by omega)];refine⟨(q:Int)+1,rfl,⟨q+1,_,rfl,dW,abf,fun z=>?_,(kv.trans kH (fun _ _ h=>h.elim)).tt XK⟩,by simp only;omega⟩;rw [bP hy];constructor
  ·intro e
   by_cases hz:z=y
   ·rw [if_pos hz]
   ·rw [if_neg hz]
    exact(Qw z).1 (e.imp (fun h=>h) (fun h=>h.resolve_right hz))
  ·intro e
   rw [if_neg (fun hz=>e (.inr (.inr hz)))];exact(Qw z).2 (fun e'=>e (e'.imp (fun h=>h) (fun h=>.inl h)))
 ·have hqe:q=(eM D [s]).length:=by omega
  subst hqe;rw [List.take_of_length_le (Nat.le_refl _)]at Qw;rw [aU,aH.On];unfold aH.G0;have H9:Kept (· =mC.heap.size) mC v:=((Ic.tt G6).mono (S':=(· =mC.heap.size)) (fun _ _ h=>h.elim)).tt kv;have Yi:v.heap[w.heap.size]? =some (.cells hid.1 al (0,0)):=H9.heap (K3.heap RT (fun h=>h)) (fun e=>by omega);have PM:v.heap[w5.heap.size]? =some (.cells s.1 al (0,0)):=H9.heap (K3.heap Ll (fun h=>h)) (fun e=>by omega);have sv:=tq.size;have s2v:=H9.size;refine⟨hid.1,⟨hid.2.1,Cells.bV Yi⟩,?_⟩;refine Mh (hG tq) W (by omega) (hl.same tq) (by omega) hid fun G4 S2 F2 WD Ga QP QT=>⟨_,rfl,?_⟩;rw [qo eC]at WD;have KN:∀k,m.SG k->k<w.heap.size:=fun k e=>h.low k (.inl (.inl e));have s64:=Ga.size;have Qn:=Ga.heap Yi (fun e=>by have:=KN _ e;omega);have T8:=Ga.heap PM (fun e=>by have:=KN _ e;omega);have abe:=hmv.aK Ga (fun e=>by have:=KN _ e;omega);refine⟨hid.1,⟨hid.2.1,Cells.bV Qn⟩,hid.2.1,?_⟩;intro Hl;have MP:Kept Nil G4 Hl:=(Kept.refl _ _).alloc _;have Z7:HS Hl (some ⟨G4.heap.size,0,none⟩) 1 [hid]:=jE G4 hid;clear_value Hl;have xl:∀p∈dB lp,p∈ids D:=fun p hp=>cY p (dV.1 hp);have W':kr (D++ [⟨hid,dB lp⟩]):=W.snoc (nd:=⟨hid,dB lp⟩) gC xl (jy lp);obtain⟨bl',c',SY,M',YV⟩:=WD;have OZ:∀k,m.own x k->k<w.heap.size:=fun k e=>h.low k (.inl (.inr (.inr (.inr e))));have hTv:sS G4:=(hT.same tq).aK Ga Kk;refine wv (YV.same MP) W' (by simp;omega) (hTv.same MP) Z7 (by omega) fun A69 c69 DS HI Ts=>⟨A69,_,c69,rfl,?_⟩;have x7:=MP.tt Ts;have ad1:=x7.size;have p2:=og (D++ [⟨hid,dB lp⟩]) fun a=>∃z∈ [hid],fH (D++ [⟨hid,dB lp⟩]) a z
  change (eM (D++ [⟨hid,dB lp⟩]) [hid]).length<=_ at p2
  rw [List.length_append,List.length_singleton]at p2;have CT:∀y,y∈eM (D++ [⟨hid,dB lp⟩]) [hid]↔fH (D++ [⟨hid,dB lp⟩]) y hid:=fun y=>by
   unfold eM;rw [km];constructor
   ·rintro⟨_,z,hz,e⟩
    rw [List.mem_singleton]at hz
    rwa [hz]at e
   ·exact fun e=>⟨(e.mem W').1,hid,by simp,e⟩
  have lS:Kept (fun k=>m.SG k) w DS:=((tq.mono (S':=fun k=>m.SG k) (fun _ _ h=>h.elim)).tt Ga).trans x7 (fun _ _ h=>h.elim);have OY:∀k,m.own x k->¬m.SG k:=fun k e=>(h.od k e).1;have Sq:=lS.heap h.top (OY _ (.inl rfl));have gU:(eM (D++ [⟨hid,dB lp⟩]) [hid]).Nodup:=(jy _).nodup;obtain⟨f0,ab3,ab5⟩:=h.YN;have aep:∀k,m.own x k->¬(k=m.cb)\/k=m.cb:=fun k _=>(Classical.em _).symm;have uE:m.own x m.cb:=.inr (.inr (.inr rfl));have S8:=OZ _ uE;generalize rT:eM (D++ [⟨hid,dB lp⟩]) [hid]=pl at HI p2 CT gU⊢;refine aH.iz (I:=fun i u=>∃q:Nat,i=(q:Int)/\q<=pl.length/\Kept (· =m.cb) DS u/\∃f,gg u m.cb f/\∀y,∃l,pf u (fun k=>m.SO k\/(DS.heap.size<=k/\k<u.heap.size)) (D.length+if y∈pl.take q then 1 else 0) (f y) l/\∀c,c∈l↔Ol D P y c\/(c=hid/\y∈pl.take q/\y≠s/\¬fH D y s))
   (μ:=fun i _=>((pl.length:Int)-i).toNat) (s:=0) ⟨0,rfl,Nat.zero_le _,Kept.refl _ _,f0,ab3.aK lS (OY _ uE),fun y=>?_⟩ ?_
  ·obtain⟨l,h1,h2⟩:=ab5 y
   refine⟨l,?_,fun c=>?_⟩
   ·rcases h1.aK lS (fun k e e'=>(h.gt k e').2 e)with h3|⟨A,n,c,g1,g2,g3,g4,g5⟩
    ·exact .inl h3
    ·exact .inr ⟨A,n,c,g1,g2,g3,by omega,fun a ha=>.inl (g5 a ha)⟩
   ·rw [h2]
    simp
  ·rintro i u ⟨q,rfl,RL,ku,NF⟩
   refine GY h hD lS.size Sq (x7.heap Qn (fun h=>h)) (Nat.le_refl _) ((abe.aK MP (fun h=>h)).aK Ts (fun h=>h)) (by omega) rfl
    (fun y=>⟨fun e=>(Qw y).1 (e.imp (fun h=>h) (fun h=>(Nl y).2 h)),fun e=>(Qw y).2 (fun e'=>e (e'.imp (fun h=>h) (fun h=>(Nl y).1 h)))⟩)
    (Row.base HI (fun b hb=>by have:=(Row.bV HI hb).1;have:=MP.size;omega)) (by omega) ku RL (Z:=fun _ _=>True) NF gU (hid:=hid) (s:=s) (D':=D) (ps:= []) (fun v' kv' abW di=>?_) (fun hqe=>?_)
   ·exact⟨(q:Int)+1,rfl,⟨q+1,rfl,di,kv',abW⟩,by simp only;omega⟩
   ·subst hqe
    rw [aU];unfold aH.e2;rw [aH.Y2];rw [List.take_of_length_le (Nat.le_refl _)]at NF;have H5:Kept (fun k=>m.SG k\/k=m.cb) w u:=(lS.mono (S':=fun k=>m.SG k\/k=m.cb) (fun _ _ h=>.inl h)).trans ku (fun _ _ h=>.inr h);have su:=ku.size;obtain⟨Ru,SN,OX,SM,Rt,SL⟩:=h.ne;have KO:∀k,F k->k<w.heap.size:=fun k e=>h.low k (.inr e);have acP:GV DS S2 F2 m.g (D++ [⟨hid,dB lp⟩]) (iB (D++ [⟨hid,dB lp⟩])) bl' c' SY M':=YV.same x7;have nS2:∀k,S2 k->¬k=m.cb:=fun k h1 e=>by
     rcases QP k h1 with h2|h2
     ·exact(h.od _ uE).1 (e▸h2)
     ·omega
    have nF2:∀k,F2 k->¬k=m.cb:=fun k h1 e=>by
     rcases QT k h1 with h2|h2
     ·exact(h.od _ uE).2.2.2 (e▸h2)
     ·omega
    have zw:∀k,m.own x k->k≠m.cb->¬(m.SG k\/k=m.cb):=fun k e fW e'=>e'.elim (OY k e) fW;refine JE (s1:=G4.heap.size) (s2:=DS.heap.size) (S2:=S2) (F2:=F2) (SO2:=fun k=>m.SO k\/(DS.heap.size<=k/\k<u.heap.size)) (mj:=mj) h hD gC xl (jy lp) hj P7 (dV.2 vR) (H5.heap h.top (zw _ (.inl rfl) OX))
     (Nat.le_refl _) (by omega) (ku.heap (x7.heap Qn (fun h=>h)) (fun e=>by omega)) (ku.heap (x7.heap T8 (fun h=>h)) (fun e=>by omega)) ⟨bl',c',SY,M',acP.aK ku nS2 nF2⟩
     (h.T.aK H5 (fun k e e'=>e'.elim (fun e'=>(h.gt k e').1 e) (fun e'=>(h.od _ uE).2.1 (e'▸e)))) (h.at_.aK H5 (zw _ (.inr (.inl rfl)) Rt)) (Row.aK h.row H5 (fun k e=>by cases e;exact zw _ (.inr (.inr (.inl rfl))) SL))
     ?_ (by omega) (by omega) su (fun k e=>⟨(QP k e).imp (fun h=>h) (fun h=>by omega),YV.low k (.inl e)⟩) (fun k e=>⟨(QT k e).imp (fun h=>h) (fun h=>by omega),YV.low k (.inr e)⟩) (fun k e=>e)
     (H5.mono (S':=fun k=>m.kX x k) (fun k _ e=>e.elim (fun e=>.inl e) (fun e=>.inr (.inr (.inr (.inr (.inr (.inr e)))))))) (fun u2 S' F' hI kU hSu NY=>?_)
    ·obtain⟨f,hf,hc⟩:=NF
     refine⟨f,hf,fun y=>?_⟩;obtain⟨l,h1,h2⟩:=hc y;refine⟨l,?_,fun c=>?_⟩
     ·rcases h1 with h3|⟨A,n,c,g1,g2,g3,g4,g5⟩
      ·exact .inl h3
      ·refine .inr ⟨A,n,c,g1,g2,g3,?_,g5⟩
       split at g4<;>omega
     ·rw [h2,Jt W h.ns (nd:=⟨hid,dB lp⟩) gC xl hj,P7]
      constructor
      ·rintro(h3|⟨h3,h4,h5,h6⟩)
       ·exact .inl h3
       ·exact .inr ⟨h3,(CT y).1 h4,h5,h6⟩
      ·rintro(h3|⟨h3,h4,h5,h6⟩)
       ·exact .inl h3
       ·exact .inr ⟨h3,(CT y).2 h4,h5,h6⟩
    ·refine xg u2 S' F' ?_ kU hSu NY eX
     rw [eD,eP];exact hI
end
def fG:HT:=hx 0 (by decide)
def dG(D:DG)(P:List Int)(h:HT)(l:List HT):Prop:=(h∉ids D/\l= [])\/∃(i:Nat) (nd:DN) (ks:List Nat),D[i]? =some nd/\nd.id=h/\Up P i ks/\l=ks.map (pg D)
theorem oo{D:DG}{i:Nat}{nd:DN}(h:D[i]? =some nd):pg D i=nd.id:=by unfold pg;rw [h]
theorem dG.ex{D:DG}{P:List Int}(H:sV D P)(h:HT):∃l,dG D P h l:=by
 by_cases hm:h∈ids D
 ·obtain⟨nd,gU,e⟩:=eF.1 hm
  obtain⟨i,hi⟩:=List.mem_iff_getElem?.1 gU;obtain⟨ks,hk⟩:=Up.ex H.par i (by rw [H.len];exact(lgeS hi).1);exact⟨_,.inr ⟨i,nd,ks,hi,e,hk,rfl⟩⟩
 ·exact⟨[],.inl ⟨hm,rfl⟩⟩
theorem dG.mem{D:DG}{P:List Int}(W:kr D)(H:sV D P){h:HT}{l:List HT}(c:dG D P h l){a:HT}:a∈l↔Ch D P a h:=by
 rcases c with⟨h1,rfl⟩|⟨i,nd,ks,h1,rfl,h3,rfl⟩
 ·simp only [List.not_mem_nil,false_iff]
  exact fun e=>h1 e.mem.2
 ·have dW:i<P.length:=by rw [H.len];exact(lgeS h1).1
  rw [List.mem_map];constructor
  ·rintro⟨k,hk,rfl⟩
   have hu:=(h3.mem H.par dW).1 hk;have CY:=hu.XA;rw [H.len]at CY;obtain⟨nk,RP⟩:∃nk,D[k]? =some nk:=⟨_,List.getElem?_eq_getElem CY⟩;exact⟨i,k,nd,nk,h1,rfl,RP,(oo RP).symm,hu⟩
  ·rintro⟨i',k,ni,nk,g1,g2,g3,g4,g5⟩
   have:=W.inj g1 h1 g2;subst this;exact⟨k,(h3.mem H.par dW).2 g5,by rw [oo g3,g4]⟩
theorem dG.one{D:DG}{P:List Int}(W:kr D)(H:sV D P){h:HT}{l l':List HT}(c:dG D P h l)(c':dG D P h l'):l=l':=by
 rcases c with⟨h1,rfl⟩|⟨i,nd,ks,h1,h2,h3,rfl⟩
 ·rcases c' with⟨_,rfl⟩|⟨i,nd,ks,g1,g2,_,_⟩
  ·rfl
  ·exact absurd (eF.2 ⟨nd,List.mem_of_getElem? g1,g2⟩) h1
 ·rcases c' with⟨g1,rfl⟩|⟨i',nd',ks',g1,g2,g3,rfl⟩
  ·exact absurd (eF.2 ⟨nd,List.mem_of_getElem? h1,h2⟩) g1
  ·have:=W.inj h1 g1 (by rw [h2,g2])
   subst this;rw [Up.one H.par h3 g3]
section
variable{w w':World}{F S:Nat->Prop}{x:Nat}{D:DG}{P:List Int}{m:XM}{K:Value->World->Prop}
theorem XV.OO(h:XV w F x D P m){i:Nat}{nd:DN}(hi:D[i]? =some nd):Cells w ((⟨m.ib,0,none⟩:Addr).add (i*32)) nd.id.1:=by
 obtain⟨a,ha,_,hc⟩:=(cr.hs h.row).at_ i nd.id (qE hi);cases ha;exact hc
theorem XV.HP(h:XV w F x D P m){i:Nat}{nd:DN}(hi:D[i]? =some nd):∃td,m.T[i]? =some td/\P[i]? =some td.parent:=by
 have dW:=(lgeS hi).1;obtain⟨td,XW⟩:=Tr.gJ (T:=m.T) (i:=i) (by rw [h.OH];exact dW);exact⟨td,XW,by rw [<-h.b9];exact Tr.lR XW⟩
theorem tW(a:HT)(hK:∀w' pb qb,Kept Nil w w'->w'.heap[pb]? =some (.cells #[.pointer (some ⟨x,0,none⟩)] gN (0,0))->w'.heap[qb]? =some (.cells a.1 al (0,0))->w.heap.size<=pb->w.heap.size<=qb->K (.func (.func bt.id) #[] #[.pointer (some ⟨pb,0,none⟩),.pointer (some ⟨qb,0,none⟩)]) w'):
 bE prog gB.id #[.pointer (some ⟨x,0,none⟩),.agg a.1] w K:=by
 refine gB.of ?_;unfold gB.W;intro w3 w4;have k3:Kept Nil w w3:=(Kept.refl _ _).alloc _;have Ya:w3.heap[w.heap.size]? =some (.cells #[.pointer (some ⟨x,0,none⟩)] gN (0,0)):=aM w _;have k4:Kept Nil w3 w4:=(Kept.refl _ _).alloc _;have hq4:w4.heap[w3.heap.size]? =some (.cells a.1 al (0,0)):=aM w3 _;clear_value w4;exact hK w4 _ _ (k3.tt k4) (k4.heap Ya (fun h=>h)) hq4 (Nat.le_refl _) k3.size
theorem DX{pb qb:Nat}{a:HT}{l:List HT}(hl:dG D P a l)(hD:D.length<=5000):
 oA prog bt.id #[] #[.pointer (some ⟨pb,0,none⟩),.pointer (some ⟨qb,0,none⟩)] (l.map sJ) (fun w=>XV w F x D P m/\w.heap[pb]? =some (.cells #[.pointer (some ⟨x,0,none⟩)] gN (0,0))/\w.heap[qb]? =some (.cells a.1 al (0,0))):=by
 intro y I Q w0 hI hQ sG h0 rC;obtain⟨hX,RN,Uo⟩:=sG 0 w0 h0;have W:=hX.W;have oM:=hX.ns;refine bt.of ?_;unfold bt.W;refine⟨_,by rw [aE RN];rfl,a.1,⟨a.2.1,Cells.bV Uo⟩,a.2.1,?_⟩;intro w6;have k6:Kept Nil w0 w6:=(Kept.refl _ _).alloc _;have pZ:HS w6 (some ⟨w0.heap.size,0,none⟩) 1 [a]:=jE w0 a;clear_value w6;refine qy (hX.same k6) pZ (by omega) fun w8 k8=>⟨_,rfl,?_⟩;have zz:=k6.tt k8;rcases hl with⟨mG,rfl⟩|⟨i,nd,ks,hi,hid,hup,rfl⟩
 ·exact Split.yes (by rw [decide_eq_false (by simpa using mG)];rfl) (.inl (hI 0 w0 w8 h0 zz))
 ·have hm:a∈ids D:=eF.2 ⟨nd,List.mem_of_getElem? hi,hid⟩
  refine Split.no (by rw [decide_eq_true (by simpa using hm)];rfl) ?_;intro w10;have rR:Kept Nil w8 w10:=(Kept.refl _ _).drew;clear_value w10;have CG:=zz.tt rR;have uW:=hX.same CG;have lk:=uW.at_.xY a;rw [<-hid,W.pos_eq hi]at lk;rw [hid]at lk;refine⟨some ⟨x,0,none⟩,by rw [aE (CG.heap RN (fun h=>h))];rfl,_,uW.c2,a.1,⟨a.2.1,Cells.bV (CG.heap Uo (fun h=>h))⟩,_,lk,?_⟩;have dW:i<P.length:=by rw [oM.len];exact(lgeS hi).1
  have Uv:=oM.par;refine bt.cJ (I:=fun s v=>∃(k:Nat) (dn rs:List Nat),s=(k:Int)/\ks=dn++rs/\Up P k rs/\k<P.length/\I dn.length v) (μ:=fun s _=>s.toNat) (s:=((i:Nat):Int)) ⟨i,[],ks,rfl,rfl,hup,dW,hI 0 w0 w10 h0 CG⟩ ?_;rintro s v ⟨k,dn,rs,rfl,hks,hur,CY,hv⟩;obtain⟨hXv,Uq,hqv⟩:=sG _ v hv;rw [oM.len]at CY;obtain⟨nk,RP⟩:∃nk,D[k]? =some nk:=⟨_,List.getElem?_eq_getElem CY⟩;refine⟨some ⟨x,0,none⟩,by rw [aE Uq];rfl,_,_,_,hXv.c3,⟨by omega,by omega⟩,nk.id.1,⟨nk.id.2.1,by rw [Int.toNat_natCast];exact hXv.OO RP⟩,?_⟩;have gX:((ks.map (pg D)).map sJ)[dn.length]? =some (sJ nk.id):=by
   rw [List.getElem?_map,List.getElem?_map,hks,List.getElem?_append_right (Nat.le_refl _),Nat.sub_self,hur.head];simp [oo RP]
  refine(rC dn.length (sJ nk.id) v gX hv).mono ?_;rintro b v' ⟨ht,hf⟩;cases b with
  |false=>
   refine Split.no rfl ?_;rw [aU,bt.dw];exact .inr (hf rfl)
  |true=>
   refine Split.yes rfl ?_;have hI1:=ht rfl;cases hur with
   |root=>
    refine Split.no rfl ?_;rw [aU,bt.dw];refine .inl ?_;rw [List.length_map,List.length_map,hks,List.length_append];exact hI1
   | @step _ j rs' hj Li=>
     have Yh:=(Tr.jA Uv (Tr.fC.2 hj)).1;refine Split.yes (decide_eq_true (by omega)) ?_;obtain⟨QO,aaT,_⟩:=sG _ v' hI1;obtain⟨td,XW,htp⟩:=QO.HP RP;rw [hj]at htp;have aap:(j:Int)=td.parent:=by simpa using htp
     refine⟨some ⟨x,0,none⟩,by rw [aE aaT];rfl,_,QO.c1,Tr.zU QO.T XW (by omega) ⟨_,_,rfl,?_⟩⟩;rw [<-aap];refine⟨(j:Int),rfl,⟨j,dn++ [k],rs',rfl,by rw [hks];simp,Li,by rw [oM.len];omega,?_⟩,by simp only;omega⟩;rw [List.length_append];exact hI1
end
structure XN(w v:World)(r:HT)(own:Nat->Nat)(G T E I Z:Option Nat)(l:List HT):Prop where
 kp:Kept Nil w v
 gr:∀g,G=some g->∃SG,DO v SG (fun _=>False) g [⟨r,[]⟩]/\∀k,SG k->w.heap.size<=k/\own k=1
 tr:∀t,T=some t->∃ST,Tr.pF v ST t Tr.qQ 0/\∀k,ST k->w.heap.size<=k/\k<v.heap.size/\own k=2
 mp:∀b,E=some b->w.heap.size<=b/\own b=3/\IsMap v b l
 il:∀b,I=some b->w.heap.size<=b/\own b=4/\v.heap[b]? =some (.cells (r.1.toList++ []).toArray al (0,0))
 cv:∀b,Z=some b->w.heap.size<=b/\own b=5/\gg v b (fun _=>none)
def tag(n t:Nat)(own:Nat->Nat)(k:Nat):Nat:=if n<=k then t else own k
theorem rW{n t k:Nat}{own:Nat->Nat}(h:k<n):tag n t own k=own k:=by unfold tag;rw [if_neg (by omega)]
theorem rX{n t k:Nat}{own:Nat->Nat}(h:n<=k):tag n t own k=t:=by unfold tag;rw [if_pos h]
section
variable{w v v':World}{r:HT}{own:Nat->Nat}{G T E I Z:Option Nat}{l:List HT}{K:Value->World->Prop}
theorem XN.grow(h:XN w v r own G T E I Z l)(t:Nat)(k:Kept Nil v v'):XN w v' r (tag v.heap.size t own) G T E I Z l:=by
 have hs:=k.size;refine⟨h.kp.tt k,fun g e=>?_,fun g e=>?_,fun b e=>?_,fun b e=>?_,fun b e=>?_⟩
 ·obtain⟨SG,h1,h2⟩:=h.gr g e
  exact⟨SG,h1.same k,fun q hq=>⟨(h2 q hq).1,by rw [rW (by obtain⟨bl,c,mb,M,G⟩:=h1;exact G.low q (.inl hq))];exact(h2 q hq).2⟩⟩
 ·obtain⟨ST,h1,h2⟩:=h.tr g e
  exact⟨ST,h1.same k,fun q hq=>⟨(h2 q hq).1,by have:=(h2 q hq).2.1;omega,by rw [rW (h2 q hq).2.1];exact(h2 q hq).2.2⟩⟩
 ·obtain⟨h1,h2,h3⟩:=h.mp b e
  exact⟨h1,by rw [rW h3.lt];exact h2,h3.aK k (fun h=>h)⟩
 ·obtain⟨h1,h2,h3⟩:=h.il b e
  exact⟨h1,by rw [rW (bf h3)];exact h2,k.heap h3 (fun h=>h)⟩
 ·obtain⟨h1,h2,h3⟩:=h.cv b e
  exact⟨h1,by rw [rW h3.lt];exact h2,h3.aK k (fun h=>h)⟩
theorem XN.eW(h:XN w v r own none T E I Z l){gb:Nat}(hG:DO v' (fun k=>v.heap.size<=k/\k<v'.heap.size) (fun _=>False) gb [⟨r,[]⟩])(k:Kept Nil v v'):XN w v' r (tag v.heap.size 1 own) (some gb) T E I Z l:=by
 have g:=h.grow 1 k;refine⟨g.kp,?_,g.tr,g.mp,g.il,g.cv⟩;intro g' e;cases e;have:=h.kp.size;exact⟨_,hG,fun q hq=>⟨by omega,rX hq.1⟩⟩
theorem XN.uL(h:XN w v r own G none E I Z l){t:Nat}(hT:Tr.pF v' (fun k=>v.heap.size<=k) t Tr.qQ 0)(k:Kept Nil v v'):XN w v' r (tag v.heap.size 2 own) G (some t) E I Z l:=by
 have g:=h.grow 2 k;refine⟨g.kp,g.gr,?_,g.mp,g.il,g.cv⟩;intro t' e;cases e;have:=h.kp.size;exact⟨_,tO hT,fun q hq=>⟨by omega,hq.2,rX hq.1⟩⟩
theorem XN.uM(h:XN w v r own G T none I Z []):XN w (v.alloc (.map #[] 0)) r (tag v.heap.size 3 own) G T (some v.heap.size) I Z []:=by
 have g:=h.grow 3 ((Kept.refl Nil v).alloc (.map #[] 0));refine⟨g.kp,g.gr,g.tr,?_,g.il,g.cv⟩;intro b e;cases e;exact⟨h.kp.size,rX (Nat.le_refl _),⟨#[],0,aM v _,trivial⟩⟩
theorem XN.pv(h:XN w v r own G T E none Z l):XN w (v.alloc (.cells (r.1.toList++ []).toArray al)) r (tag v.heap.size 4 own) G T E (some v.heap.size) Z l:=by
 have g:=h.grow 4 ((Kept.refl Nil v).alloc (.cells (r.1.toList++ []).toArray al));refine⟨g.kp,g.gr,g.tr,g.mp,?_,g.cv⟩;intro b e;cases e;exact⟨h.kp.size,rX (Nat.le_refl _),aM v _⟩
theorem XN.pr(h:XN w v r own G T E I none l):XN w (v.alloc (.map #[] 0)) r (tag v.heap.size 5 own) G T E I (some v.heap.size) l:=by
 have g:=h.grow 5 ((Kept.refl Nil v).alloc (.map #[] 0));refine⟨g.kp,g.gr,g.tr,g.mp,g.il,?_⟩;intro b e;cases e;exact⟨h.kp.size,rX (Nat.le_refl _),gg.new v⟩
theorem XN.put{mb:Nat}(h:XN w v r own G T (some mb) I Z []):∃v',(Instr.mapUpdate cV (.map (some mb)) (.agg r.1) (.int .i64 0)).run prog v=.ok () v'/\XN w v' r own G T (some mb) I Z [r]:=by
 obtain⟨h1,h2,h3⟩:=h.mp mb rfl;obtain⟨v',hr,hm,hk⟩:=h3.put (h:=r) (by simp);refine⟨v',hr,(h.kp.trans hk (fun k hk e=>by omega)),fun g e=>?_,fun g e=>?_,fun b e=>?_,fun b e=>?_,fun b e=>?_⟩
 ·obtain⟨SG,g1,g2⟩:=h.gr g e
  exact⟨SG,g1.aK hk (fun q hq e=>by have:=(g2 q hq).2;rw [e,h2]at this;cases this) (fun q hq=>hq.elim),g2⟩
 ·obtain⟨ST,g1,g2⟩:=h.tr g e
  exact⟨ST,g1.aK hk (fun q hq e=>by have:=(g2 q hq).2.2;rw [e,h2]at this;cases this),fun q hq=>⟨(g2 q hq).1,Nat.lt_of_lt_of_le (g2 q hq).2.1 hk.size,(g2 q hq).2.2⟩⟩
 ·cases e
  exact⟨h1,h2,hm⟩
 ·obtain⟨g1,g2,g3⟩:=h.il b e
  exact⟨g1,g2,hk.heap g3 (fun e=>by rw [e,h2]at g2;cases g2)⟩
 ·obtain⟨g1,g2,g3⟩:=h.cv b e
  exact⟨g1,g2,g3.aK hk (fun e=>by rw [e,h2]at g2;cases g2)⟩
theorem XN.fin{g t mb ib cb:Nat}{w0:World}(h:XN w v r own (some g) (some t) (some mb) (some ib) (some cb) [r])(hw:w0.heap.size<=w.heap.size):
 DM (v.alloc (.cells #[.pointer (some ⟨g,0,none⟩),.pointer (some ⟨t,0,none⟩),.map (some mb),.slice (some ⟨ib,0,none⟩) 1 1,.map (some cb)] fc)) (fun k=>w0.heap.size<=k/\k<(v.alloc (.cells #[.pointer (some ⟨g,0,none⟩),.pointer (some ⟨t,0,none⟩),.map (some mb),.slice (some ⟨ib,0,none⟩) 1 1,.map (some cb)] fc)).heap.size) (fun _=>False) v.heap.size [⟨r,[]⟩] [-1]:=by
 have jJ:=aM v (.cells #[.pointer (some ⟨g,0,none⟩),.pointer (some ⟨t,0,none⟩),.map (some mb),.slice (some ⟨ib,0,none⟩) 1 1,.map (some cb)] fc);have kx:=(Kept.refl Nil v).alloc (.cells #[.pointer (some ⟨g,0,none⟩),.pointer (some ⟨t,0,none⟩),.map (some mb),.slice (some ⟨ib,0,none⟩) 1 1,.map (some cb)] fc);have hx:=bf jJ;generalize v.alloc (.cells #[.pointer (some ⟨g,0,none⟩),.pointer (some ⟨t,0,none⟩),.map (some mb),.slice (some ⟨ib,0,none⟩) 1 1,.map (some cb)] fc)=u at jJ kx hx;obtain⟨SG,hG,gG⟩:=h.gr g rfl;obtain⟨ST,hT,gT⟩:=h.tr t rfl;obtain⟨m1,m2,m3⟩:=h.mp mb rfl;obtain⟨i1,i2,i3⟩:=h.il ib rfl;obtain⟨c1,c2,c3⟩:=h.cv cb rfl;have oN:∀k,SG k->k<v.heap.size:=fun k e=>by obtain⟨bl,c,mb,M,G⟩:=hG;exact G.low k (.inl e)
 have sw:=h.kp.size;have lm:=m3.lt;have li:=bf i3;have lc:=c3.lt;have C8:∀ {a b:HT},¬fH [(⟨r,[]⟩:DN)] a b:=Ah r;refine⟨⟨g,t,mb,ib,1,cb,Tr.qQ,0,SG,ST,fun _=>False⟩,⟨jJ,hG.same kx,hT.same kx,Tr.Co,rfl,⟨Int.le_refl 0,by show(0:Int)<=_;simp⟩,m3.aK kx (fun h=>h),?_,⟨_,c3.aK kx (fun h=>h),fun y=>⟨[],.inl ⟨rfl,rfl⟩,fun c=>?_⟩⟩,?_,kr.root r,?_,?_,?_,?_,?_,?_⟩,?_⟩
 ·have e:dv [r]=(r.1.toList++ []).toArray.toList:=by simp [dv]
  show Row _ _ _ _ _ _ _ (dv [r])
  rw [e];exact Row.made (kx.heap i3 (fun h=>h)) (Nat.zero_le _) (by simp [r.2.1]) (by show 1<=maxLen;decide)
 ·simp only [List.not_mem_nil,false_iff]
  exact fun hc=>C8 hc.1
 ·refine⟨rfl,rfl,fun i p nd hi hp=>?_⟩
  cases i with
  |zero=>omega
  |succ i=>simp at hp
 ·exact fun k e=>⟨fun e'=>by have:=(gG k e).2;have:=(gT k e').2.2;omega,fun e'=>e'.elim⟩
 ·exact fun k e e'=>e'.elim
 ·exact fun k e=>e.elim
 ·intro k e
  have key:v.heap.size<=k\/3<=own k:=by
   rcases e with e|e|e|e
   ·exact .inl (by omega)
   ·exact .inr (by have e:k=mb:=e;rw [e];omega)
   ·exact .inr (by have e:k=ib:=e;rw [e];omega)
   ·exact .inr (by have e:k=cb:=e;rw [e];omega)
  refine⟨fun e'=>?_,fun e'=>?_,fun e'=>e'.elim,fun e'=>e'.elim⟩
  ·have h1:=(gG k e').2
   have h2:=oN k e';omega
  ·have h1:=(gT k e').2.2
   have h2:=(gT k e').2.1;omega
 ·refine⟨by show v.heap.size≠mb;omega,by show v.heap.size≠ib;omega,by show v.heap.size≠cb;omega,fun e=>?_,fun e=>?_,fun e=>?_⟩
  ·have e:mb=ib:=e
   rw [e]at m2;omega
  ·have e:mb=cb:=e
   rw [e]at m2;omega
  ·have e:ib=cb:=e
   rw [e]at i2;omega
 ·intro k e
  rcases e with e|e
  ·rcases e with e|e|e|e
   ·have:=oN k e;omega
   ·have:=(gT k e).2.1;omega
   ·exact e.elim
   ·rcases e with e|e|e|e
    ·omega
    ·have e:k=mb:=e;omega
    ·have e:k=ib:=e;omega
    ·have e:k=cb:=e;omega
  ·exact e.elim
 ·intro k e
  rcases e with e|e|e|e
  ·have:=oN k e;have:=(gG k e).1;omega
  ·have:=(gT k e).1;have:=(gT k e).2.1;omega
  ·exact e.elim
  ·rcases e with e|e|e|e
   ·omega
   ·have e:k=mb:=e;omega
   ·have e:k=ib:=e;omega
   ·have e:k=cb:=e;omega
structure XD(w o:World)(r:HT)(K:Value->World->Prop):Prop where
 cs:∀ {v:World},Kept Nil o v->∃cs:Array Value,(.agg r.1:Value)=.agg cs/\cs.size=32/\Cells v (aV w.heap.size) cs
 fin:∀ {v:World} {own:Nat->Nat} {g t mb ib cb:Nat},XN o v r own (some g) (some t) (some mb) (some ib) (some cb) [r]->K (.pointer (some ⟨v.heap.size,0,none⟩)) (v.alloc (.cells #[.pointer (some ⟨g,0,none⟩),.pointer (some ⟨t,0,none⟩),.map (some mb),.slice (some ⟨ib,0,none⟩) 1 1,.map (some cb)] fc))
end
section
variable{w o v e i z:World}{r:HT}{own:Nat->Nat}{g t:Nat}{K:Value->World->Prop}
theorem n1(D:XD w o r K)(h:XN o v r own (some g) (some t) (some e.heap.size) (some i.heap.size) (some z.heap.size) [r]):az.N1 (some ⟨g,0,none⟩) (some ⟨t,0,none⟩) e i z K v:=by
 unfold az.N1;exact D.fin h
theorem n2(D:XD w o r K)(h:XN o v r own (some g) (some t) (some e.heap.size) (some i.heap.size) none [r]):az.N2 (some ⟨g,0,none⟩) (some ⟨t,0,none⟩) e i K v:=by
 unfold az.N2;exact let n:=h.pr;n1 D n
theorem n3(D:XD w o r K)(h:XN o v r own (some g) (some t) (some e.heap.size) none (some z.heap.size) [r]):az.N3 r.1 (some ⟨g,0,none⟩) (some ⟨t,0,none⟩) e z K v:=by
 unfold az.N3;exact let n:=h.pv;⟨r.2.1,n1 D n⟩
theorem n4(D:XD w o r K)(h:XN o v r own (some g) (some t) (some e.heap.size) none none [r]):az.N4 r.1 (some ⟨g,0,none⟩) (some ⟨t,0,none⟩) e w K v:=by
 unfold az.N4;exact⟨(let n:=h.pv;⟨r.2.1,n2 D n⟩),(let n:=h.pr;⟨D.cs n.kp,n3 D n⟩)⟩
theorem n5(D:XD w o r K)(h:XN o v r own (some g) (some t) (some e.heap.size) (some i.heap.size) (some z.heap.size) []):az.N5 e r.1 (some ⟨g,0,none⟩) (some ⟨t,0,none⟩) i z K v:=by
 unfold az.N5;exact let ⟨u,q,n⟩:=h.put;⟨u,q,n1 D n⟩
theorem n6(D:XD w o r K)(h:XN o v r own (some g) (some t) (some e.heap.size) (some i.heap.size) none []):az.N6 e r.1 (some ⟨g,0,none⟩) (some ⟨t,0,none⟩) i w K v:=by
 unfold az.N6;exact⟨(let ⟨u,q,n⟩:=h.put;⟨u,q,n2 D n⟩),(let n:=h.pr;⟨D.cs n.kp,n5 D n⟩)⟩
theorem n7(D:XD w o r K)(h:XN o v r own (some g) (some t) (some e.heap.size) none (some z.heap.size) []):az.N7 e r.1 r.1 w (some ⟨g,0,none⟩) (some ⟨t,0,none⟩) z K v:=by
 unfold az.N7;exact⟨(let ⟨u,q,n⟩:=h.put;⟨u,q,D.cs n.kp,n3 D n⟩),(let n:=h.pv;⟨r.2.1,D.cs n.kp,n5 D n⟩)⟩
theorem n8(D:XD w o r K)(h:XN o v r own (some g) (some t) (some e.heap.size) none none []):az.N8 e r.1 r.1 w (some ⟨g,0,none⟩) (some ⟨t,0,none⟩) K v:=by
 unfold az.N8;exact⟨(let ⟨u,q,n⟩:=h.put;⟨u,q,D.cs n.kp,n4 D n⟩),(let n:=h.pv;⟨r.2.1,D.cs n.kp,n6 D n⟩),(let n:=h.pr;⟨D.cs n.kp,D.cs n.kp,n7 D n⟩)⟩
theorem n9(D:XD w o r K)(h:XN o v r own (some g) (some t) none (some i.heap.size) (some z.heap.size) []):az.N9 r.1 w (some ⟨g,0,none⟩) (some ⟨t,0,none⟩) i z K v:=by
 unfold az.N9;exact let n:=h.uM;⟨D.cs n.kp,n5 D n⟩
theorem n10(D:XD w o r K)(h:XN o v r own (some g) (some t) none (some i.heap.size) none []):az.Sf r.1 w (some ⟨g,0,none⟩) (some ⟨t,0,none⟩) i K v:=by
 unfold az.Sf;exact⟨(let n:=h.uM;⟨D.cs n.kp,n6 D n⟩),(let n:=h.pr;⟨D.cs n.kp,n9 D n⟩)⟩
theorem n11(D:XD w o r K)(h:XN o v r own (some g) (some t) none none (some z.heap.size) []):az.YU r.1 w r.1 (some ⟨g,0,none⟩) (some ⟨t,0,none⟩) z K v:=by
 unfold az.YU;exact⟨(let n:=h.uM;⟨D.cs n.kp,D.cs n.kp,n7 D n⟩),(let n:=h.pv;⟨r.2.1,D.cs n.kp,n9 D n⟩)⟩
theorem n12(D:XD w o r K)(h:XN o v r own (some g) (some t) none none none []):az.Rk r.1 w r.1 (some ⟨g,0,none⟩) (some ⟨t,0,none⟩) K v:=by
 unfold az.Rk;exact⟨(let n:=h.uM;⟨D.cs n.kp,D.cs n.kp,n8 D n⟩),(let n:=h.pv;⟨r.2.1,D.cs n.kp,n10 D n⟩),(let n:=h.pr;⟨D.cs n.kp,D.cs n.kp,n11 D n⟩)⟩
theorem n13(D:XD w o r K)(h:XN o v r own (some g) none (some e.heap.size) (some i.heap.size) (some z.heap.size) [r]):az.Mt (some ⟨g,0,none⟩) e i z K v:=by
 unfold az.Mt;exact Tr.fw fun _ _ q k=>let n:=h.uL q k;⟨_,rfl,n1 D n⟩
theorem n14(D:XD w o r K)(h:XN o v r own (some g) none (some e.heap.size) (some i.heap.size) none [r]):az.Rj (some ⟨g,0,none⟩) e i K v:=by
 unfold az.Rj;exact⟨(Tr.fw fun _ _ q k=>let n:=h.uL q k;⟨_,rfl,n2 D n⟩),(let n:=h.pr;n13 D n)⟩
theorem n15(D:XD w o r K)(h:XN o v r own (some g) none (some e.heap.size) none (some z.heap.size) [r]):az.Xn r.1 w (some ⟨g,0,none⟩) e z K v:=by
 unfold az.Xn;exact⟨(Tr.fw fun _ _ q k=>let n:=h.uL q k;⟨_,rfl,D.cs n.kp,n3 D n⟩),(let n:=h.pv;⟨r.2.1,n13 D n⟩)⟩
theorem n16(D:XD w o r K)(h:XN o v r own (some g) none (some e.heap.size) none none [r]):az.Se r.1 w (some ⟨g,0,none⟩) e K v:=by
 unfold az.Se;exact⟨(Tr.fw fun _ _ q k=>let n:=h.uL q k;⟨_,rfl,D.cs n.kp,n4 D n⟩),(let n:=h.pv;⟨r.2.1,n14 D n⟩),(let n:=h.pr;⟨D.cs n.kp,n15 D n⟩)⟩
theorem n17(D:XD w o r K)(h:XN o v r own (some g) none (some e.heap.size) (some i.heap.size) (some z.heap.size) []):az.Sd r.1 w e (some ⟨g,0,none⟩) i z K v:=by
 unfold az.Sd;exact⟨(Tr.fw fun _ _ q k=>let n:=h.uL q k;⟨_,rfl,D.cs n.kp,n5 D n⟩),(let ⟨u,q,n⟩:=h.put;⟨u,q,n13 D n⟩)⟩
theorem n18(D:XD w o r K)(h:XN o v r own (some g) none (some e.heap.size) (some i.heap.size) none []):az.Xm r.1 w e (some ⟨g,0,none⟩) i K v:=by
 unfold az.Xm;exact⟨(Tr.fw fun _ _ q k=>let n:=h.uL q k;⟨_,rfl,D.cs n.kp,n6 D n⟩),(let ⟨u,q,n⟩:=h.put;⟨u,q,n14 D n⟩),(let n:=h.pr;⟨D.cs n.kp,n17 D n⟩)⟩
theorem n19(D:XD w o r K)(h:XN o v r own (some g) none (some e.heap.size) none (some z.heap.size) []):az.Kr r.1 w r.1 e (some ⟨g,0,none⟩) z K v:=by
 unfold az.Kr;exact⟨(Tr.fw fun _ _ q k=>let n:=h.uL q k;⟨_,rfl,D.cs n.kp,D.cs n.kp,n7 D n⟩),(let ⟨u,q,n⟩:=h.put;⟨u,q,D.cs n.kp,n15 D n⟩),(let n:=h.pv;⟨r.2.1,D.cs n.kp,n17 D n⟩)⟩
theorem n20(D:XD w o r K)(h:XN o v r own (some g) none (some e.heap.size) none none []):az.Oj r.1 w r.1 e (some ⟨g,0,none⟩) K v:=by
 unfold az.Oj;exact⟨(Tr.fw fun _ _ q k=>let n:=h.uL q k;⟨_,rfl,D.cs n.kp,D.cs n.kp,n8 D n⟩),(let ⟨u,q,n⟩:=h.put;⟨u,q,D.cs n.kp,n16 D n⟩),(let n:=h.pv;⟨r.2.1,D.cs n.kp,n18 D n⟩),(let n:=h.pr;⟨D.cs n.kp,D.cs n.kp,n19 D n⟩)⟩
theorem n21(D:XD w o r K)(h:XN o v r own (some g) none none (some i.heap.size) (some z.heap.size) []):az.Oi r.1 w (some ⟨g,0,none⟩) i z K v:=by
 unfold az.Oi;exact⟨(Tr.fw fun _ _ q k=>let n:=h.uL q k;⟨_,rfl,D.cs n.kp,n9 D n⟩),(let n:=h.uM;⟨D.cs n.kp,n17 D n⟩)⟩
theorem n22(D:XD w o r K)(h:XN o v r own (some g) none none (some i.heap.size) none []):az.Sc r.1 w (some ⟨g,0,none⟩) i K v:=by
 unfold az.Sc;exact⟨(Tr.fw fun _ _ q k=>let n:=h.uL q k;⟨_,rfl,D.cs n.kp,n10 D n⟩),(let n:=h.uM;⟨D.cs n.kp,n18 D n⟩),(let n:=h.pr;⟨D.cs n.kp,n21 D n⟩)⟩
theorem n23(D:XD w o r K)(h:XN o v r own (some g) none none none (some z.heap.size) []):az.YT r.1 w r.1 (some ⟨g,0,none⟩) z K v:=by
 unfold az.YT;exact⟨(Tr.fw fun _ _ q k=>let n:=h.uL q k;⟨_,rfl,D.cs n.kp,D.cs n.kp,n11 D n⟩),(let n:=h.uM;⟨D.cs n.kp,D.cs n.kp,n19 D n⟩),(let n:=h.pv;⟨r.2.1,D.cs n.kp,n21 D n⟩)⟩
theorem n24(D:XD w o r K)(h:XN o v r own (some g) none none none none []):az.Xl r.1 w r.1 (some ⟨g,0,none⟩) K v:=by
 unfold az.Xl;exact⟨(Tr.fw fun _ _ q k=>let n:=h.uL q k;⟨_,rfl,D.cs n.kp,D.cs n.kp,n12 D n⟩),(let n:=h.uM;⟨D.cs n.kp,D.cs n.kp,n20 D n⟩),(let n:=h.pv;⟨r.2.1,D.cs n.kp,n22 D n⟩),(let n:=h.pr;⟨D.cs n.kp,D.cs n.kp,n23 D n⟩)⟩
theorem n25(D:XD w o r K)(h:XN o v r own none none (some e.heap.size) (some i.heap.size) (some z.heap.size) [r]):az.Xk r.1 e i z K v:=by
 unfold az.Xk;exact gL r fun _ _ q k=>let n:=h.eW q k;⟨_,rfl,n13 D n⟩
theorem n26(D:XD w o r K)(h:XN o v r own none none (some e.heap.size) (some i.heap.size) none [r]):az.YR r.1 e i w K v:=by
 unfold az.YR;exact⟨(gL r fun _ _ q k=>let n:=h.eW q k;⟨_,rfl,n14 D n⟩),(let n:=h.pr;⟨D.cs n.kp,n25 D n⟩)⟩
theorem n27(D:XD w o r K)(h:XN o v r own none none (some e.heap.size) none (some z.heap.size) [r]):az.Ri r.1 r.1 w e z K v:=by
 unfold az.Ri;exact⟨(gL r fun _ _ q k=>let n:=h.eW q k;⟨_,rfl,D.cs n.kp,n15 D n⟩),(let n:=h.pv;⟨r.2.1,D.cs n.kp,n25 D n⟩)⟩
theorem n28(D:XD w o r K)(h:XN o v r own none none (some e.heap.size) none none [r]):az.N28 r.1 r.1 w e K v:=by
 unfold az.N28;exact⟨(gL r fun _ _ q k=>let n:=h.eW q k;⟨_,rfl,D.cs n.kp,n16 D n⟩),(let n:=h.pv;⟨r.2.1,D.cs n.kp,n26 D n⟩),(let n:=h.pr;⟨D.cs n.kp,D.cs n.kp,n27 D n⟩)⟩
theorem n29(D:XD w o r K)(h:XN o v r own none none (some e.heap.size) (some i.heap.size) (some z.heap.size) []):az.Xj r.1 r.1 w e i z K v:=by
 unfold az.Xj;exact⟨(gL r fun _ _ q k=>let n:=h.eW q k;⟨_,rfl,D.cs n.kp,n17 D n⟩),(let ⟨u,q,n⟩:=h.put;⟨u,q,D.cs n.kp,n25 D n⟩)⟩
theorem n30(D:XD w o r K)(h:XN o v r own none none (some e.heap.size) (some i.heap.size) none []):az.YQ r.1 r.1 w e i K v:=by
 unfold az.YQ;exact⟨(gL r fun _ _ q k=>let n:=h.eW q k;⟨_,rfl,D.cs n.kp,n18 D n⟩),(let ⟨u,q,n⟩:=h.put;⟨u,q,D.cs n.kp,n26 D n⟩),(let n:=h.pr;⟨D.cs n.kp,D.cs n.kp,n29 D n⟩)⟩
theorem n31(D:XD w o r K)(h:XN o v r own none none (some e.heap.size) none (some z.heap.size) []):az.YP r.1 r.1 w r.1 e z K v:=by
 unfold az.YP;exact⟨(gL r fun _ _ q k=>let n:=h.eW q k;⟨_,rfl,D.cs n.kp,D.cs n.kp,n19 D n⟩),(let ⟨u,q,n⟩:=h.put;⟨u,q,D.cs n.kp,D.cs n.kp,n27 D n⟩),(let n:=h.pv;⟨r.2.1,D.cs n.kp,D.cs n.kp,n29 D n⟩)⟩
theorem n32(D:XD w o r K)(h:XN o v r own none none (some e.heap.size) none none []):az.N32 r.1 r.1 w r.1 e K v:=by
 unfold az.N32;exact⟨(gL r fun _ _ q k=>let n:=h.eW q k;⟨_,rfl,D.cs n.kp,D.cs n.kp,n20 D n⟩),(let ⟨u,q,n⟩:=h.put;⟨u,q,D.cs n.kp,D.cs n.kp,n28 D n⟩),(let n:=h.pv;⟨r.2.1,D.cs n.kp,D.cs n.kp,n30 D n⟩),(let n:=h.pr;⟨D.cs n.kp,D.cs n.kp,D.cs n.kp,n31 D n⟩)⟩
theorem n33(D:XD w o r K)(h:XN o v r own none none none (some i.heap.size) (some z.heap.size) []):az.YO r.1 r.1 w i z K v:=by
 unfold az.YO;exact⟨(gL r fun _ _ q k=>let n:=h.eW q k;⟨_,rfl,D.cs n.kp,n21 D n⟩),(let n:=h.uM;⟨D.cs n.kp,D.cs n.kp,n29 D n⟩)⟩
theorem n34(D:XD w o r K)(h:XN o v r own none none none (some i.heap.size) none []):az.N34 r.1 r.1 w i K v:=by
 unfold az.N34;exact⟨(gL r fun _ _ q k=>let n:=h.eW q k;⟨_,rfl,D.cs n.kp,n22 D n⟩),(let n:=h.uM;⟨D.cs n.kp,D.cs n.kp,n30 D n⟩),(let n:=h.pr;⟨D.cs n.kp,D.cs n.kp,n33 D n⟩)⟩
theorem n35(D:XD w o r K)(h:XN o v r own none none none none (some z.heap.size) []):az.N35 r.1 r.1 w r.1 z K v:=by
 unfold az.N35;exact⟨(gL r fun _ _ q k=>let n:=h.eW q k;⟨_,rfl,D.cs n.kp,D.cs n.kp,n23 D n⟩),(let n:=h.uM;⟨D.cs n.kp,D.cs n.kp,D.cs n.kp,n31 D n⟩),(let n:=h.pv;⟨r.2.1,D.cs n.kp,D.cs n.kp,n33 D n⟩)⟩
theorem n36(D:XD w o r K)(h:XN o v r own none none none none none []):az.N36 r.1 r.1 w r.1 K v:=by
 unfold az.N36;exact⟨(gL r fun _ _ q k=>let n:=h.eW q k;⟨_,rfl,D.cs n.kp,D.cs n.kp,n24 D n⟩),(let n:=h.uM;⟨D.cs n.kp,D.cs n.kp,D.cs n.kp,n32 D n⟩),(let n:=h.pv;⟨r.2.1,D.cs n.kp,D.cs n.kp,n34 D n⟩),(let n:=h.pr;⟨D.cs n.kp,D.cs n.kp,D.cs n.kp,n35 D n⟩)⟩
end
section
variable{K:Value->World->Prop}
theorem jn{w:World}(r:HT)(hK:∀v x,DM v (fun k=>w.heap.size<=k/\k<v.heap.size) (fun _=>False) x [⟨r,[]⟩] [-1]->Kept Nil w v->K (.pointer (some ⟨x,0,none⟩)) v):
 bE prog az.id #[.agg r.1] w K:=by
 refine az.of ?_;unfold az.W;intro w_2 Ku;have k2:Kept Nil w w_2:=(Kept.refl _ _).alloc _;have nE:w_2.heap[w.heap.size]? =some (.cells r.1 al (0,0)):=aM w _;have k3:Kept Nil w Ku:=k2.drew;have p7:Ku.heap[w.heap.size]? =some (.cells r.1 al (0,0)):=nE;clear_value Ku;have N_3:XN Ku Ku r (fun _=>0) none none none none none []:=⟨Kept.refl _ _,(fun b e=>by cases e),(fun b e=>by cases e),(fun b e=>by cases e),(fun b e=>by cases e),(fun b e=>by cases e)⟩;have nV:∀ {v:World},Kept Nil Ku v->∃cs:Array Value,(.agg r.1:Value)=.agg cs/\cs.size=32/\Cells v (aV w.heap.size) cs:=fun k=>⟨r.1,rfl,r.2.1,Cells.bV (k.heap p7 (fun h=>h))⟩;have vV:∀ {v:World} {own:Nat->Nat} {g t mb ib cb:Nat},XN Ku v r own (some g) (some t) (some mb) (some ib) (some cb) [r]->K (.pointer (some ⟨v.heap.size,0,none⟩)) (v.alloc (.cells #[.pointer (some ⟨g,0,none⟩),.pointer (some ⟨t,0,none⟩),.map (some mb),.slice (some ⟨ib,0,none⟩) 1 1,.map (some cb)] fc)):=
  fun h=>hK _ _ (h.fin k3.size) ((k3.tt h.kp).alloc _)
 have c3:r.1.size=32/\Cells Ku (aV w.heap.size) r.1:=⟨r.2.1,Cells.bV p7⟩;refine⟨r.1,c3,r.1,c3,r.1,c3,?_⟩;have D:XD w Ku r K:=⟨nV,vV⟩;exact n36 D N_3
end
end Go.Proofs.YtfleamccglihoaaGreatDoor
