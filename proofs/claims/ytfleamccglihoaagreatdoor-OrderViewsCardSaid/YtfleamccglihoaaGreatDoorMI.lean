import Derived.Test.YtfleamccglihoaaGreatDoorMG
import Derived.Test.YtfleamccglihoaaGreatDoorMH
import Derived.Test.YtfleamccglihoaaGreatDoorME
import Derived.Laws.AppendOwn
open Go.IntKind (i64 u64)
set_option linter.unusedVariables false
namespace Go.Proofs.YtfleamccglihoaaGreatDoor
open Go.Proofs.Tryz
open Go Go.bT
open Tr (kM)
structure rO(D:DG)(P:List Int):Prop where
 len:P.length=D.length
 root:P[0]? =some (-1)
 up:∀(i:Nat) (p:Int) nd,0<i->P[i]? =some p->D[i]? =some nd->∃(j:Nat) (m:DN),p=(j:Int)/\j<i/\D[j]? =some m/\m.id∈nd.ps
def Ch(D:DG)(P:List Int)(a b:HT):Prop:=∃(i k:Nat) (ni nk:DN),D[i]? =some ni/\ni.id=b/\D[k]? =some nk/\nk.id=a/\kM P i k
def lu(D:DG)(P:List Int)(s c:HT):Prop:=∃(i j:Nat) (ni m:DN),D[i]? =some ni/\ni.id=c/\P[i]? =some (j:Int)/\D[j]? =some m/\m.id=s
def Oi(D:DG)(P:List Int)(h c:HT):Prop:=fy D h c/\∃s,lu D P s c/\h≠s/\¬fy D h s
section
variable{D:DG}{P:List Int}
theorem rO.par(H:rO D P):Tr.nJ P:=⟨H.root,fun i p hi hp=>by
 have dV:=(lgeS hp).1;rw [H.len]at dV;obtain⟨j,m,h1,h2,_⟩:=H.up i p _ hi hp (List.getElem?_eq_getElem dV);exact⟨j,h2,h1⟩⟩
theorem lu.par(H:rO D P){s c:HT}(h:lu D P s c):nJ D s c:=by
 obtain⟨i,j,ni,m,h1,rfl,h3,h4,rfl⟩:=h;have hi:0<i:=by
  rcases Nat.eq_zero_or_pos i with rfl|h
  ·rw [H.root]at h3;simp only [Option.some.injEq]at h3;omega
  ·exact h
 obtain⟨j',m',e,_,h5,h6⟩:=H.up i _ ni hi h3 h1;have:j'=j:=by omega
 subst this;rw [h4]at h5;cases h5;exact⟨ni,List.mem_of_getElem? h1,rfl,h6⟩
theorem lu.one(W:j0 D){s s' c:HT}(h:lu D P s c)(h':lu D P s' c):s=s':=by
 obtain⟨i,j,ni,m,h1,rfl,h3,h4,rfl⟩:=h;obtain⟨i',j',ni',m',rN,e,Cc,Yy,rfl⟩:=h';have:=W.inj h1 rN e.symm;subst this;rw [h3]at Cc;simp only [Option.some.injEq]at Cc;have:j=j':=by omega
 subst this;rw [h4]at Yy;cases Yy;rfl
theorem lu.ex(H:rO D P){i:Nat}{ni:DN}(hi:0<i)(h:D[i]? =some ni):∃(j:Nat) (m:DN),j<i/\P[i]? =some (j:Int)/\D[j]? =some m/\lu D P m.id ni.id:=by
 have dV:=(lgeS h).1;obtain⟨p,hp⟩:∃p,P[i]? =some p:=⟨_,List.getElem?_eq_getElem (by rw [H.len];exact dV)⟩;obtain⟨j,m,rfl,hj,hm,_⟩:=H.up i p ni hi hp h;exact⟨j,m,hj,hp,hm,i,j,ni,m,h,rfl,hp,hm,rfl⟩
theorem Ch.refl(H:rO D P){a:HT}(h:a∈ids D):Ch D P a a:=by
 obtain⟨nd,gB,e⟩:=dp.1 h;obtain⟨i,hi⟩:=List.mem_iff_getElem?.1 gB;exact⟨i,i,nd,nd,hi,e,hi,e,.refl (by rw [H.len];exact(lgeS hi).1)⟩
theorem Ch.mem{a b:HT}(h:Ch D P a b):a∈ids D/\b∈ids D:=by
 obtain⟨i,k,ni,nk,h1,h2,h3,h4,_⟩:=h;exact⟨dp.2 ⟨nk,List.mem_of_getElem? h3,h4⟩,dp.2 ⟨ni,List.mem_of_getElem? h1,h2⟩⟩
theorem Ch.step(W:j0 D){a s c:HT}(hs:lu D P s c)(h:Ch D P a s):Ch D P a c:=by
 obtain⟨i,j,ni,m,h1,rfl,h3,h4,rfl⟩:=hs;obtain⟨j',k,nj,nk,g1,g2,g3,g4,g5⟩:=h;have:=W.inj g1 h4 g2;subst this;exact⟨i,k,ni,nk,h1,rfl,g3,g4,.step h3 g5⟩
theorem Ch.GP(W:j0 D)(H:rO D P){a b:HT}(h:Ch D P a b):a=b\/fy D a b:=by
 obtain⟨i,k,ni,nk,h1,rfl,h3,rfl,h5⟩:=h
 induction h5 generalizing ni with
 |refl _=>rw [h1]at h3;cases h3;exact .inl rfl
 | @step i j k hj hu ih=>
   have uT:=hu.lt;rw [H.len]at uT;obtain⟨m,hm⟩:∃m,D[j]? =some m:=⟨_,List.getElem?_eq_getElem uT⟩;have hp:nJ D m.id ni.id:=lu.par H ⟨i,j,ni,m,h1,rfl,hj,hm,rfl⟩;rcases ih m hm h3 with e|e
   ·rw [e];exact .inr (.one hp)
   ·exact .inr (.more e hp)
theorem JW(W:j0 D)(H:rO D P){a b:HT}(fL:a≠b):fy D a b↔Ch D P a b\/∃c,Oi D P a c/\Ch D P c b:=by
 constructor
 ·intro h
  obtain⟨nb,UO,e⟩:=dp.1 (h.mem W).2;obtain⟨i,hb⟩:=List.mem_iff_getElem?.1 UO;clear UO;subst e
  induction i using Nat.strongRecOn generalizing nb with
  |_ i ih=>
   have hi:0<i:=by
    rcases Nat.eq_zero_or_pos i with rfl|h0
    ·exfalso
     obtain⟨x,y,mx,my,oY,_,hy,_,e2⟩:=h.at_ W;have:=W.inj hy hb e2;omega
    ·exact h0
   obtain⟨j,m,hj,_,hm,hs⟩:=lu.ex H hi hb;by_cases e1:a=m.id
   ·exact .inl (Ch.step W hs (by rw [e1];exact Ch.refl H (dp.2 ⟨m,List.mem_of_getElem? hm,rfl⟩)))
   ·by_cases e2:fy D a m.id
    ·rcases ih j hj m hm e1 e2 with e3|⟨c,e3,e4⟩
     ·exact .inl (Ch.step W hs e3)
     ·exact .inr ⟨c,e3,Ch.step W hs e4⟩
    ·exact .inr ⟨nb.id,⟨h,m.id,hs,e1,e2⟩,Ch.refl H (dp.2 ⟨nb,List.mem_of_getElem? hb,rfl⟩)⟩
 ·rintro(h|⟨c,⟨h1,_⟩,h2⟩)
  ·exact(h.GP W H).resolve_left fL
  ·rcases h2.GP W H with e|e
   ·rw [<-e];exact h1
   ·exact h1.trans e
theorem rO.snoc(H:rO D P){nd:DN}{j:Nat}{m:DN}(hj:D[j]? =some m)(hm:m.id∈nd.ps)(jK:0<D.length):rO (D++ [nd]) (P++ [(j:Int)]) where
 len:=by simp [H.len]
 root:=by rw [List.getElem?_append_left (by rw [H.len];exact jK)];exact H.root
 up:=fun i p nd' hi hp gB=>by
  have uT:=(lgeS hj).1;by_cases h:i<D.length
  ·rw [List.getElem?_append_left (by rw [H.len];exact h)]at hp
   rw [List.getElem?_append_left h]at gB;obtain⟨j',m',e,h1,h2,h3⟩:=H.up i p nd' hi hp gB;exact⟨j',m',e,h1,by rw [List.getElem?_append_left (by omega)];exact h2,h3⟩
  ·have dV:=(lgeS gB).1
   have e:i=D.length:=by simp at dV;omega
   subst e;rw [<-H.len]at hp;simp at hp gB;subst hp gB;exact⟨j,m,rfl,uT,by rw [List.getElem?_append_left uT];exact hj,hm⟩
theorem oy(W:j0 D)(H:rO D P){nd:DN}(hn:nd.id∉ids D){j:Nat}{m:DN}(hj:D[j]? =some m){s c:HT}:
 lu (D++ [nd]) (P++ [(j:Int)]) s c↔lu D P s c\/(c=nd.id/\s=m.id):=by
 have uT:=(lgeS hj).1;constructor
 ·rintro⟨i,k,ni,mk,h1,rfl,h3,h4,rfl⟩
  by_cases h:i<D.length
  ·rw [List.getElem?_append_left h]at h1
   rw [List.getElem?_append_left (by rw [H.len];exact h)]at h3;have hk:k<D.length:=by
    rcases Nat.eq_zero_or_pos i with rfl|h0
    ·rw [H.root]at h3;simp only [Option.some.injEq]at h3;omega
    ·obtain⟨k',_,e,h5,_⟩:=H.up i _ ni h0 h3 h1
     omega
   rw [List.getElem?_append_left hk]at h4;exact .inl ⟨i,k,ni,mk,h1,rfl,h3,h4,rfl⟩
  ·have dV:=(lgeS h1).1
   have e:i=D.length:=by simp at dV;omega
   subst e;have Cc:=h3;rw [<-H.len]at Cc;simp at h1 Cc;subst h1;have:k=j:=by omega
   subst this;rw [List.getElem?_append_left uT,hj]at h4;cases h4;exact .inr ⟨rfl,rfl⟩
 ·rintro(⟨i,k,ni,mk,h1,rfl,h3,h4,rfl⟩|⟨rfl,rfl⟩)
  ·have hi:=(lgeS h1).1
   have hk:=(lgeS h4).1;exact⟨i,k,ni,mk,by rw [List.getElem?_append_left hi];exact h1,rfl,by rw [List.getElem?_append_left (by rw [H.len];exact hi)];exact h3,by rw [List.getElem?_append_left hk];exact h4,rfl⟩
  ·exact⟨D.length,j,nd,m,by simp,rfl,by rw [<-H.len];simp,by rw [List.getElem?_append_left uT];exact hj,rfl⟩
theorem JM(W:j0 D)(H:rO D P){nd:DN}(hn:nd.id∉ids D)(fJ:∀p∈nd.ps,p∈ids D){j:Nat}{m:DN}(hj:D[j]? =some m){h c:HT}:
 Oi (D++ [nd]) (P++ [(j:Int)]) h c↔Oi D P h c\/(c=nd.id/\fy (D++ [nd]) h nd.id/\h≠m.id/\¬fy D h m.id):=by
 have hm:m.id∈ids D:=dp.2 ⟨m,List.mem_of_getElem? hj,rfl⟩;have key:∀ {s c},lu D P s c->s∈ids D/\c∈ids D:=fun hs=>(fy.one (lu.par H hs)).mem W;constructor
 ·rintro⟨h1,s,hs,h2,h3⟩
  rcases(oy W H hn hj).1 hs with hs|⟨rfl,rfl⟩
  ·obtain⟨g1,g2⟩:=key hs
   exact .inl ⟨(jB W hn g2).1 h1,s,hs,h2,fun e=>h3 ((jB W hn g1).2 e)⟩
  ·exact .inr ⟨rfl,h1,h2,fun e=>h3 ((jB W hn hm).2 e)⟩
 ·rintro(⟨h1,s,hs,h2,h3⟩|⟨rfl,h1,h2,h3⟩)
  ·obtain⟨g1,g2⟩:=key hs
   exact⟨(jB W hn g2).2 h1,s,(oy W H hn hj).2 (.inl hs),h2,fun e=>h3 ((jB W hn g1).1 e)⟩
  ·exact⟨h1,m.id,(oy W H hn hj).2 (.inr ⟨rfl,rfl⟩),h2,fun e=>h3 ((jB W hn hm).1 e)⟩
inductive Up (P:List Int):Nat->List Nat->Prop
 |root:Up P 0 [0]
 |step {i j:Nat} {l:List Nat}:P[i]? =some (j:Int)->Up P j l->Up P i (i::l)
theorem Up.ex(hP:Tr.nJ P):∀i,i<P.length->∃l,Up P i l:=by
 intro i
 induction i using Nat.strongRecOn with
 |_ i ih=>
  intro hi;rcases Nat.eq_zero_or_pos i with rfl|h0
  ·exact⟨[0],.root⟩
  ·obtain⟨j,h1,h2⟩:=hP.up i _ h0 (List.getElem?_eq_getElem hi)
   obtain⟨l,hl⟩:=ih j h1 (by omega);exact⟨i::l,.step (by rw [List.getElem?_eq_getElem hi,h2]) hl⟩
theorem Up.mem(hP:Tr.nJ P){i:Nat}{l:List Nat}(h:Up P i l)(hi:i<P.length){k:Nat}:k∈l↔kM P i k:=by
 induction h with
 |root=>
  rw [List.mem_singleton];constructor
  ·rintro rfl;exact .refl hi
  ·intro h;have:=h.le hP;omega
 | @step i j l hj hu ih=>
   have uT:j<P.length:=by have:=(Tr.iE hP (Tr.eA.2 hj)).1;omega
   rw [List.mem_cons,ih uT];constructor
   ·rintro(rfl|h)
    ·exact .refl hi
    ·exact .step hj h
   ·intro h
    by_cases e:k=i
    ·exact .inl e
    ·exact .inr (h.inv (fun e'=>e e'.symm) hj)
theorem Up.one(hP:Tr.nJ P){i:Nat}{l l':List Nat}(h:Up P i l)(h':Up P i l'):l=l':=by
 induction h generalizing l' with
 |root=>
  cases h' with
  |root=>rfl
  |step hj _=>rw [hP.root]at hj;simp only [Option.some.injEq]at hj;omega
 | @step i j l hj hu ih=>
   cases h' with
   |root=>rw [hP.root]at hj;simp only [Option.some.injEq]at hj;omega
   | @step _ j' l' vW IS=>
     rw [hj]at vW;simp only [Option.some.injEq]at vW;have:j=j':=by omega
     subst this;rw [ih IS]
theorem Up.head{i:Nat}{l:List Nat}(h:Up P i l):l[0]? =some i:=by cases h<;>rfl
theorem Up.len(hP:Tr.nJ P){i:Nat}{l:List Nat}(h:Up P i l):l.length<=i+1:=by
 induction h with
 |root=>simp
 | @step i j l hj hu ih=>have:=(Tr.iE hP (Tr.eA.2 hj)).1;simp only [List.length_cons];omega
theorem Up.lt(hP:Tr.nJ P){i:Nat}{l:List Nat}(h:Up P i l)(hi:i<P.length):∀k∈l,k<P.length:=fun k hk=>((h.mem hP hi).1 hk).XF
end
end Go.Proofs.YtfleamccglihoaaGreatDoor
namespace Go.Proofs.YtfleamccglihoaaGreatDoor
open Go.Proofs.Tryz
open Go Go.bT Go.RowKit
structure xy(mt te:TypeId)(z:Value):Prop where
 pg:prog.underlying mt=some (.map ah te)
 zero:∀w,(zeroValue te).run prog w=.ok z w
def assoc(h:HT):List (HT×Value)->Option Value
 | []=>none
 |(x,v)::l=>if h=x then some v else assoc h l
def mh(h:HT):List (HT×Value)->Nat->Option (Nat×Value)
 | [],_=>none
 |(x,v)::l,i=>if h=x then some (i,v)else mh h l (i+1)
theorem nh(h:HT):∀(l:List (HT×Value)) (i:Nat),(mh h l i).map (·.2)=assoc h l
 | [],_=>rfl
 |(x,v)::l,i=>by
  unfold mh assoc;split
  ·rfl
  ·exact nh h l (i+1)
theorem wm{h:HT}:∀ {l:List (HT×Value)} {i j:Nat} {v:Value},mh h l i=some (j,v)->i<=j/\l[j-i]? =some (h,v)/\∀(x:HT) (u:Value),assoc x (l.set (j-i) (h,u))=if x=h then some u else assoc x l
 | [],i,j,v,e=>by simp [mh]at e
 |(x,u)::l,i,j,v,e=>by
  unfold mh at e;split at e
  ·rename_i hx
   cases e;subst hx;refine⟨Nat.le_refl _,by rw [Nat.sub_self];rfl,fun x u=>?_⟩;rw [Nat.sub_self];simp only [List.set_cons_zero,assoc];by_cases hx:x=h<;>simp [hx]
  ·rename_i hx
   obtain⟨h1,h2,h3⟩:=wm e;have e1:j-i=(j-(i+1))+1:=by omega
   refine⟨by omega,by rw [e1];exact h2,fun y u'=>?_⟩;rw [e1];simp only [List.set_cons_succ,assoc,h3];by_cases hy:y=h
   ·subst hy;simp [hx]
   ·simp [hy]
theorem wF{h:HT}{v:Value}:∀ {l:List (HT×Value)},assoc h l=none->∀x,assoc x (l++ [(h,v)])=if x=h then some v else assoc x l
 | [],_,x=>by simp [assoc]
 |(y,u)::l,e,x=>by
  unfold assoc at e;split at e
  ·cases e
  ·rename_i hy
   have ih:=wF (v:=v) e x;simp only [List.cons_append,assoc,ih];by_cases hx:x=y
   ·subst hx;simp [Ne.symm hy]
   ·simp [hx]
def nD(es:List MapEntry)(l:List (HT×Value)):Prop:=match es,l with
 | [],[]=>True
 |e::es,p::l=>(e.key=.agg p.1.1/\e.val=p.2)/\nD es l
 |_,_=>False
theorem nD.snoc:∀ {es:List MapEntry} {l:List (HT×Value)} {e:MapEntry} {p:HT×Value},nD es l->e.key=.agg p.1.1->e.val=p.2->nD (es++ [e]) (l++ [p])
 | [],[],_,_,_,h1,h2=>⟨⟨h1,h2⟩,trivial⟩
 |_::_,_::_,_,_,he,h1,h2=>⟨he.1,nD.snoc he.2 h1 h2⟩
 | [],_::_,_,_,he,_,_=>he.elim
 |_::_,[],_,_,he,_,_=>he.elim
theorem nD.get:∀ {es:List MapEntry} {l:List (HT×Value)} {j:Nat} {p:HT×Value},nD es l->l[j]? =some p->∃e,es[j]? =some e/\e.key=.agg p.1.1/\e.val=p.2
 | [],[],_,_,_,h=>by simp at h
 |e::_,_::_,0,_,he,h=>by
  simp only [List.getElem?_cons_zero,Option.some.injEq]at h;subst h;exact⟨e,rfl,he.1⟩
 |_::_,_::_,j+1,_,he,h=>by
  obtain⟨e,h1,h2⟩:=nD.get he.2 (j:=j) (by simpa using h);exact⟨e,by simpa using h1,h2⟩
 | [],_::_,_,_,he,_=>he.elim
 |_::_,[],_,_,he,_=>he.elim
theorem nD.set:∀ {es:List MapEntry} {l:List (HT×Value)} {j:Nat} {p:HT×Value} {f:MapEntry->MapEntry},nD es l->(∀e,(f e).key=.agg p.1.1/\(f e).val=p.2)->nD (es.modify j f) (l.set j p)
 | [],[],_,_,_,he,_=>by simpa using he
 |_::_,_::_,0,_,_,he,hf=>⟨hf _,he.2⟩
 |_::_,_::_,j+1,_,_,he,hf=>by
  simp only [List.modify_succ_cons,List.set_cons_succ];exact⟨he.1,nD.set he.2 hf⟩
 | [],_::_,_,_,_,he,_=>he.elim
 |_::_,[],_,_,_,he,_=>he.elim
theorem nD.len:∀ {es:List MapEntry} {l:List (HT×Value)},nD es l->es.length=l.length
 | [],[],_=>rfl
 |_::_,_::_,he=>by simp [nD.len he.2]
 | [],_::_,he=>he.elim
 |_::_,[],he=>he.elim
section
variable{w:World}
theorem rU(h:HT)(w:World):∀(es:List MapEntry) (l:List (HT×Value)) (i:Nat),nD es l->
 (Instr.findAsking ah (.agg h.1) es i).run prog w=.ok (mh h l i) w
 | [],[],i,_=>by simp [Instr.findAsking,mh]
 |e::es,(x,v)::l,i,he=>by
  have hq:=vi h x w;have ih:=rU h w es l (i+1) he.2;simp only [Instr.findAsking,he.1.1,Sem.run_bind,hq,Result.andThen_ok];by_cases hx:h=x
  ·simp [hx,mh,he.1.2]
  ·simp [hx,mh,ih]
 | [],_::_,_,he=>he.elim
 |_::_,[],_,he=>he.elim
theorem mi(h:HT)(w:World){es:List MapEntry}{l:List (HT×Value)}(he:nD es l):
 (Instr.findKey ah (.agg h.1) es).run prog w=.ok (mh h l 0) w:=by
 have h1:=rU h w es l 0 he;simp only [Instr.findKey,Sem.run_bind,run_underlying KP,Result.andThen_ok];cases es with
 |nil=>
  cases l with
  |nil=>simp [Instr.findNow,mh]
  |cons x l=>exact he.elim
 |cons e es=>
  have:Instr.findNow (.array 32 iX) (.agg h.1) (e::es) 0=none:=by
   simp only [Instr.findNow,Instr.sameNow]
  rw [this];exact h1
theorem Fy(h:HT):Instr.sameBits 10000 (.agg h.1) (.agg h.1)=true:=by
 show Instr.sameBits (9999+1) (.agg h.1) (.agg h.1)=true
 rw [Instr.sameBits];simp only [beq_self_eq_true,Bool.true_and,List.all_eq_true];rintro⟨x,y⟩ oY;have hxe:x=y:=by
  obtain⟨i,hi⟩:=List.mem_iff_getElem?.1 oY;rw [List.getElem?_zip_eq_some]at hi;have:=hi.1.symm.trans hi.2;simpa using this
 subst hxe;have hm:=(List.of_mem_zip oY).1;obtain⟨n,rfl,_⟩:=h.2.2 x hm;simp [Instr.sameBits]
structure fR(w:World)(m:Nat)(f:HT->Option Value):Prop where
 ex:∃es clock l,w.heap[m]? =some (.map es clock)/\nD es.toList l/\(∀x,assoc x l=f x)/\(∀e∈es.toList,e.born<clock)/\(es.toList.map (·.born)).Nodup/\(l.map (·.1)).Nodup
theorem fR.aF{S:Nat->Prop}{w w':World}{m:Nat}{f:HT->Option Value}(h:fR w m f)(hk:Kept S w w')(hn:¬S m):fR w' m f:=by
 obtain⟨es,clock,l,h1,h2⟩:=h.ex;exact⟨es,clock,l,hk.heap h1 hn,h2⟩
theorem fR.same{w w':World}{m:Nat}{f:HT->Option Value}(h:fR w m f)(hk:Kept Nil w w'):fR w' m f:=h.aF hk (fun h=>h)
theorem fR.lt{w:World}{m:Nat}{f:HT->Option Value}(h:fR w m f):m<w.heap.size:=by
 obtain⟨es,clock,l,h1,_⟩:=h.ex;exact aQ h1
theorem fR.new(w:World):fR (w.alloc (.map #[] 0)) w.heap.size (fun _=>none):=⟨#[],0,[],aI w _,trivial,fun _=>rfl,by simp,by simp,by simp⟩
theorem fR.look{mt te:TypeId}{z:Value}(T:xy mt te z){m:Nat}{f:HT->Option Value}(hm:fR w m f)(h:HT):
 (Instr.lookup mt (.map (some m)) (.agg h.1) false).run prog w=.ok ((f h).getD z) w:=by
 obtain⟨es,clock,l,h1,h2,h3,_⟩:=hm.ex;have h4:=mi h w h2;have h5:=nh h l 0;rw [h3]at h5;simp only [Instr.lookup,Sem.run_bind,run_underlying T.pg,pX h1,Result.andThen_ok,Sem.run_pure,ju,h4];cases hp:mh h l 0 with
 |none=>rw [hp]at h5;simp [<-h5,T.zero]
 |some p=>rw [hp]at h5;simp [<-h5]
theorem fR.put{mt te:TypeId}{z:Value}(T:xy mt te z){m:Nat}{f:HT->Option Value}(hm:fR w m f)(h:HT)(v:Value):
 ∃w',(Instr.mapUpdate mt (.map (some m)) (.agg h.1) v).run prog w=.ok () w'/\fR w' m (fun x=>if x=h then some v else f x)/\Kept (· =m) w w':=by
 obtain⟨es,clock,l,h1,h2,h3,hb,hd,hk⟩:=hm.ex;have h4:=mi h w h2;have kept:∀o,Kept (· =m) w {w with heap:=w.heap.setIfInBounds m o}:=fun o=>⟨rfl,rfl,rfl,by simp,fun k _ hk=>by simp [Ne.symm hk]⟩;cases hp:mh h l 0 with
 |none=>
  rw [hp]at h4;have h5:=nh h l 0;rw [hp]at h5;refine⟨{w with heap:=w.heap.setIfInBounds m (.map (es.push {key:=.agg h.1,val:=v,born:=clock}) (clock+1))},?_,⟨es.push {key:=.agg h.1,val:=v,born:=clock},clock+1,l++ [(h,v)],?_,?_,?_,?_,?_,?_⟩,kept _⟩
  ·simp only [Instr.mapUpdate,Sem.run_bind,run_underlying T.pg,pX h1,Result.andThen_ok,ju,h4,Ct _ h1]
  ·simp [aQ h1]
  ·have:=h2.snoc (e:= {key:=.agg h.1,val:=v,born:=clock}) (p:=(h,v)) rfl rfl
   simpa using this
  ·intro x
   rw [wF h5.symm,h3]
  ·intro e he
   rw [Array.toList_push,List.mem_append,List.mem_singleton]at he;rcases he with he|rfl
   ·have:=hb e he;omega
   ·exact Nat.lt_succ_self _
  ·rw [Array.toList_push,List.map_append,List.nodup_append]
   refine⟨hd,by simp,fun a ha b xh e=>?_⟩;simp only [List.map_cons,List.map_nil,List.mem_singleton]at xh;obtain⟨e',LY,rfl⟩:=List.mem_map.1 ha;have:=hb e' LY;omega
  ·rw [List.map_append,List.nodup_append]
   refine⟨hk,by simp,fun a ha b xh e=>?_⟩;simp only [List.map_cons,List.map_nil,List.mem_singleton]at xh;subst xh;subst e;have key:∀l:List (HT×Value),a∈l.map (·.1)->assoc a l≠none:=fun l=>by
    induction l with
    |nil=>simp
    |cons p l ih=>
     obtain⟨y,u⟩:=p;intro hm;unfold assoc;split
     ·simp
     ·rename_i hy
      simp only [List.map_cons,List.mem_cons]at hm;exact ih (hm.resolve_left hy)
   exact key l ha h5.symm
 |some p=>
  obtain⟨j,u⟩:=p;rw [hp]at h4;obtain⟨_,h6,h7⟩:=wm hp;rw [Nat.sub_zero]at h6 h7;obtain⟨e,he1,RU,_⟩:=h2.get h6;have hes:es[j]? =some e:=by simpa using he1
  refine⟨{w with heap:=w.heap.setIfInBounds m (.map (es.modify j fun e=> {e with key:=.agg h.1,val:=v}) clock)},?_,⟨es.modify j fun e=> {e with key:=.agg h.1,val:=v},clock,l.set j (h,v),?_,?_,?_,?_,?_,?_⟩,kept _⟩
  ·simp only [Instr.mapUpdate,Sem.run_bind,run_underlying T.pg,pX h1,Result.andThen_ok,ju,h4,Instr.keyThatStays,hes,Option.map_some,Option.getD_some,RU,Fy,if_true,Sem.run_pure,Ct _ h1]
  ·simp [aQ h1]
  ·rw [Array.toList_modify]
   exact h2.set (p:=(h,v)) fun e=>⟨rfl,rfl⟩
  ·intro x
   rw [h7,h3]
  ·intro x hx
   rw [Array.toList_modify]at hx;obtain⟨i,hi⟩:=List.mem_iff_getElem?.1 hx;rw [List.getElem?_modify]at hi;cases hg:es.toList[i]? with
   |none=>rw [hg]at hi;simp at hi
   |some y=>
    rw [hg]at hi;have:=hb y (List.mem_of_getElem? hg);by_cases rM:j=i
    ·simp [rM]at hi
     rw [<-hi];exact this
    ·simp [rM]at hi
     rw [<-hi];exact this
  ·have:(es.modify j fun e=> {e with key:=.agg h.1,val:=v}).toList.map (·.born)=es.toList.map (·.born):=by
    rw [Array.toList_modify];apply List.ext_getElem?;intro i;rw [List.getElem?_map,List.getElem?_map,List.getElem?_modify];cases es.toList[i]? with
    |none=>simp
    |some y=>by_cases rM:j=i<;>simp [rM]
   rw [this];exact hd
  ·have:(l.set j (h,v)).map (·.1)=l.map (·.1):=by
    apply List.ext_getElem?;intro i;rw [List.getElem?_map,List.getElem?_map,List.getElem?_set];by_cases rM:j=i
    ·subst rM
     have cU:=(lgeS h6).1;have gH:=(lgeS h6).2;simp [cU,gH]
    ·simp [rM]
   rw [this];exact hk
end
end Go.Proofs.YtfleamccglihoaaGreatDoor
namespace Go.Proofs.YtfleamccglihoaaGreatDoor
open Go.Proofs.Tryz
open Go Go.bT Go.RowKit
open Tr (kM)
theorem uK{te:TypeId}{z:Value}(h:(prog.info? te).bind (·.zero)=some z)(w:World):(zeroValue te).run prog w=.ok z w:=by
 cases hi:prog.info? te with
 |none=>rw [hi]at h;cases h
 |some i=>
  rw [hi]at h;have hz:i.zero=some z:=h;simp [zeroValue,typeInfo,hi,hz]
theorem yH:xy gV ay (.slice none 0 0):=⟨by kernel_rfl,uK (by kernel_rfl)⟩
theorem Ia:xy lX tK (.agg #[.bool false]):=⟨by kernel_rfl,uK (by kernel_rfl)⟩
structure XM where
 g:Nat
 t:Nat
 mb:Nat
 ib:Nat
 ic:Nat
 cb:Nat
 T:List Tr.Nd
 d:Int
 SG:Nat->Prop
 ST:Nat->Prop
 SO:Nat->Prop
def XM.own(m:XM)(x k:Nat):Prop:=k=x\/k=m.mb\/k=m.ib\/k=m.cb
def XM.la(m:XM)(x k:Nat):Prop:=m.SG k\/m.ST k\/m.SO k\/m.own x k
def oX(w:World)(SO:Nat->Prop)(N:Nat)(v:Option Value)(l:List HT):Prop:=
 (v=none/\l= [])\/∃(A:Option Addr) (n c:Nat),v=some (.slice A n c)/\n<=c/\HS w A n l/\n<=N/\∀a,A=some a->SO a.block
structure XV(w:World)(F:Nat->Prop)(x:Nat)(D:DG)(P:List Int)(m:XM):Prop where
 top:w.heap[x]? =some (.cells #[.pointer (some ⟨m.g,0,none⟩),.pointer (some ⟨m.t,0,none⟩),.map (some m.mb),.slice (some ⟨m.ib,0,none⟩) D.length m.ic,.map (some m.cb)] eR (0,0))
 G:DL w m.SG F m.g D
 T:Tr.ph w m.ST m.t m.T m.d
 Mi:Tr.xz m.T
 bW:Tr.bW m.T=P
 dl:0<=m.d/\m.d<=D.length
 at_:IsMap w m.mb (ids D)
 row:bK w 0 (some ⟨m.ib,0,none⟩) D.length m.ic (ids D)
 YL:∃f,fR w m.cb f/\∀h,∃l,oX w m.SO D.length (f h) l/\∀c,c∈l↔Oi D P h c
 iY:rO D P
 W:j0 D
 gt:∀k,m.SG k->¬m.ST k/\¬m.SO k
 to:∀k,m.ST k->¬m.SO k
 fd:∀k,F k->¬m.ST k/\¬m.SO k
 od:∀k,m.own x k->¬m.SG k/\¬m.ST k/\¬m.SO k/\¬F k
 ne:x≠m.mb/\x≠m.ib/\x≠m.cb/\m.mb≠m.ib/\m.mb≠m.cb/\m.ib≠m.cb
 low:∀k,m.la x k\/F k->k<w.heap.size
def DK(w:World)(S F:Nat->Prop)(x:Nat)(D:DG)(P:List Int):Prop:=∃m,XV w F x D P m/\∀k,m.la x k->S k
section
variable{w w':World}{F S:Nat->Prop}{x:Nat}{D:DG}{P:List Int}{m:XM}{K:Value->World->Prop}
theorem oX.aF{S0 SO:Nat->Prop}{N:Nat}{v:Option Value}{l:List HT}(h:oX w SO N v l)(hk:Kept S0 w w')(hn:∀k,SO k->¬S0 k):oX w' SO N v l:=by
 rcases h with h|⟨A,n,c,h1,h2,h3,h4,h5⟩
 ·exact .inl h
 ·exact .inr ⟨A,n,c,h1,h2,h3.aF hk (fun a ha=>hn _ (h5 a ha)),h4,h5⟩
theorem XV.aF{S0:Nat->Prop}(h:XV w F x D P m)(hk:Kept S0 w w')(hS:∀k,m.la x k->¬S0 k)(hF:∀k,F k->¬S0 k):XV w' F x D P m where
 top:=hk.heap h.top (hS _ (.inr (.inr (.inr (.inl rfl)))))
 G:=h.G.aF hk (fun k e=>hS k (.inl e)) hF
 T:=h.T.aF hk (fun k e=>hS k (.inr (.inl e)))
 Mi:=h.Mi
 bW:=h.bW
 dl:=h.dl
 at_:=h.at_.aF hk (hS _ (.inr (.inr (.inr (.inr (.inl rfl))))))
 row:=Row.aF h.row hk (fun k e=>by cases e;exact hS _ (.inr (.inr (.inr (.inr (.inr (.inl rfl)))))))
 YL:=by
  obtain⟨f,h1,h2⟩:=h.YL;refine⟨f,h1.aF hk (hS _ (.inr (.inr (.inr (.inr (.inr (.inr rfl))))))),fun y=>?_⟩;obtain⟨l,h3,h4⟩:=h2 y;exact⟨l,h3.aF hk (fun k e=>hS k (.inr (.inr (.inl e)))),h4⟩
 iY:=h.iY
 W:=h.W
 gt:=h.gt
 to:=h.to
 fd:=h.fd
 od:=h.od
 ne:=h.ne
 low:=fun k e=>Nat.lt_of_lt_of_le (h.low k e) hk.size
theorem XV.same(h:XV w F x D P m)(hk:Kept Nil w w'):XV w' F x D P m:=h.aF hk (fun _ _ h=>h) (fun _ _ h=>h)
theorem DK.aF{S0:Nat->Prop}(h:DK w S F x D P)(hk:Kept S0 w w')(hS:∀k,S k->¬S0 k)(hF:∀k,F k->¬S0 k):DK w' S F x D P:=
 let ⟨m,h1,h2⟩:=h;⟨m,h1.aF hk (fun k e=>hS k (h2 k e)) hF,h2⟩
theorem DK.same(h:DK w S F x D P)(hk:Kept Nil w w'):DK w' S F x D P:=h.aF hk (fun _ _ h=>h) (fun _ _ h=>h)
theorem XV.c0(h:XV w F x D P m):w.cell? ((⟨x,0,none⟩:Addr).add 0)=some (.pointer (some ⟨m.g,0,none⟩)):=by rw [br,aD h.top];rfl
theorem XV.c1(h:XV w F x D P m):w.cell? ((⟨x,0,none⟩:Addr).add 1)=some (.pointer (some ⟨m.t,0,none⟩)):=by rw [br,aD h.top];rfl
theorem XV.c2(h:XV w F x D P m):w.cell? ((⟨x,0,none⟩:Addr).add 2)=some (.map (some m.mb)):=by rw [br,aD h.top];rfl
theorem XV.c3(h:XV w F x D P m):w.cell? ((⟨x,0,none⟩:Addr).add 3)=some (.slice (some ⟨m.ib,0,none⟩) D.length m.ic):=by rw [br,aD h.top];rfl
theorem XV.c4(h:XV w F x D P m):w.cell? ((⟨x,0,none⟩:Addr).add 4)=some (.map (some m.cb)):=by rw [br,aD h.top];rfl
theorem XV.OH(h:XV w F x D P m):m.T.length=D.length:=by
 have:=Tr.e9 m.T;rw [h.bW,h.iY.len]at this;exact this.symm
theorem XV.pg(h:XV w F x D P m){i k:Nat}{id kd:Tr.Nd}(hi:m.T[i]? =some id)(hk:m.T[k]? =some kd):decide (kd.lo<=id.lo/\id.hi<=kd.hi)=true↔kM P i k:=by
 rw [decide_eq_true_iff,<-h.bW];exact h.Mi.under hi hk
theorem EH(a b:HT):a.1.toList++(b.1.toList++ [])=c9 [a,b]:=by simp [c9]
theorem tV(h:XV w F x D P m)(hK:K (.bool true) w):bu prog fp.id #[.pointer (some ⟨x,0,none⟩)] w K:=
 fp.of (Split.yes rfl ⟨_,h.c0,hK⟩)
theorem zc{xb:Nat}(h:XV w F x D P m)(hg:w.heap[xb]? =some (.cells #[.pointer (some ⟨x,0,none⟩)] gA (0,0))){A:Option Addr}{n cx:Nat}{l:List HT}(hl:HS w A n l)(hn:n<=400000)
 (hK:∀w' (b:Bool),(b=true↔∃p∈l,p∉ids D)->Kept Nil w w'->K (.bool b) w'):
 bu prog dL.id #[.slice A n cx,.func (.func dC.id) #[] #[.pointer (some ⟨xb,0,none⟩)]] w K:=by
 have hlen:=hl.len;refine cf.of (au.of ?_);refine au.cy (I:=fun s w'=>∃i:Nat,s=(0,(i:Int))/\i<=n/\(∀p∈l.take i,p∈ids D)/\Kept Nil w w') (μ:=fun s _=>((n:Int)-s.2).toNat) (s:=(0,0)) ⟨0,rfl,Nat.zero_le _,by simp,Kept.refl _ _⟩ ?_;rintro s w' ⟨i,rfl,hi,di,kw⟩;refine Split.dec (fun jN=>?_) (fun gH=>?_)
 ·simp only at jN
  have dV:i<n:=by omega
  obtain⟨y,hy⟩:∃y,l[i]? =some y:=⟨_,List.getElem?_eq_getElem (by omega)⟩;refine(hl.same kw).load (i:=(i:Int)) (by omega) hy ?_;refine dC.of ?_;unfold dC.W;intro w3 w4;have k3:Kept Nil w' w3:=(Kept.refl _ _).alloc _;have nI:w3.heap[w'.heap.size]? =some (.cells y.1 ah (0,0)):=aI w' _;have k4:Kept Nil w3 w4:=(Kept.refl _ _).drew;clear_value w4;have rD:=k4.heap nI (fun h=>h);have Ik:=(kw.tt k3).tt k4;obtain⟨bl,c,mb,M,G⟩:=(h.same Ik).G;refine⟨some ⟨x,0,none⟩,by rw [aD (Ik.heap hg (fun h=>h))];rfl,_,(h.same Ik).c0,y.1,⟨y.2.1,Cells.bI rD⟩,uV G y fun w7 k7=>⟨_,rfl,_,rfl,?_⟩⟩;have CE:=Ik.tt k7;by_cases hm:y∈ids D
  ·refine Split.no (by rw [decide_eq_true hm];rfl) ?_
   simp only;rw [dW (n:=(i:Int)) (by omega) (by omega)];refine⟨(0,(i:Int)+1),rfl,⟨i+1,rfl,dV,fun p hp=>?_,CE⟩,by simp only;omega⟩;rcases(bO hy).1 hp with hp|rfl
   ·exact di p hp
   ·exact hm
  ·refine Split.yes (by rw [decide_eq_false hm];rfl) ?_
   refine⟨(i:Int),rfl,?_⟩;exact hK w7 _ ⟨fun _=>⟨y,List.mem_of_getElem? hy,hm⟩,fun _=>decide_eq_true (by omega)⟩ CE
 ·simp only at gH
  rw [aR,au.df];rw [List.take_of_length_le (by omega)]at di;exact⟨-1,rfl,hK w' _ ⟨fun h=>absurd (of_decide_eq_true h) (by omega),fun⟨p,hp,hn⟩=>absurd (di p hp) hn⟩ kw⟩
theorem qp(h:XV w F x D P m){A:Option Addr}{n cx:Nat}{l:List HT}(hl:HS w A n l)(hn:n<=400000)(hK:∀w',Kept Nil w w'->K (.bool (decide (∀p∈l,p∈ids D))) w'):
 bu prog fH.id #[.pointer (some ⟨x,0,none⟩),.slice A n cx] w K:=by
 refine fH.of ?_;unfold fH.W;intro w3;have k3:Kept Nil w w3:=(Kept.refl _ _).alloc _;have nI:w3.heap[w.heap.size]? =some (.cells #[.pointer (some ⟨x,0,none⟩)] gA (0,0)):=aI w _;clear_value w3;refine⟨_,by rw [aD nI];rfl,tV (h.same k3) ⟨true,rfl,Split.yes rfl ?_⟩⟩;refine zc (h.same k3) nI (hl.same k3) hn fun w9 b hb k9=>⟨b,rfl,?_⟩;have:(!b)=decide (∀p∈l,p∈ids D):=by
  rw [Bool.eq_iff_iff,decide_eq_true_iff,Bool.not_eq_true',<-Bool.not_eq_true,hb];constructor
  ·exact fun hn p hp=>Classical.byContradiction fun hc=>hn ⟨p,hp,hc⟩
  ·rintro ha ⟨p,hp,hc⟩;exact hc (ha p hp)
 rw [this];exact hK w9 (k3.tt k9)
theorem tW(h:XV w F x D P m)(a b:HT)(hK:∀w' (r:Bool),(r=true↔Ch D P a b)->Kept Nil w w'->K (.bool r) w'):
 bu prog eJ.id #[.pointer (some ⟨x,0,none⟩),.agg a.1,.agg b.1] w K:=by
 refine eJ.of ?_;unfold eJ.W;intro w4 w5 w6;have k4:Kept Nil w w4:=(Kept.refl _ _).alloc _;have Bm:w4.heap[w.heap.size]? =some (.cells a.1 ah (0,0)):=aI w _;have k5:Kept Nil w4 w5:=(Kept.refl _ _).alloc _;have oS:w5.heap[w4.heap.size]? =some (.cells b.1 ah (0,0)):=aI w4 _;have k6:Kept Nil w5 w6:=(Kept.refl _ _).drew;clear_value w6;have xi:=(k5.tt k6).heap Bm (fun h=>h);have qJ:=k6.heap oS (fun h=>h);have qS:=(k4.tt k5).tt k6;refine⟨a.1,⟨a.2.1,Cells.bI xi⟩,b.1,⟨b.2.1,Cells.bI qJ⟩,a.2.1,b.2.1,?_⟩;intro w9;have k9:Kept Nil w6 w9:=(Kept.refl _ _).alloc _;have hx9:HS w9 (some ⟨w6.heap.size,0,none⟩) 2 [a,b]:=HS.lay (l:= [a,b]) (t:=ah) (by rw [<-EH a b];exact aI w6 _);clear_value w9;have zt:=qS.tt k9;refine qp (h.same zt) hx9 (by omega) fun nM tm=>⟨_,rfl,?_⟩;have Pq:=zt.tt tm;have NY:=h.same Pq;by_cases di:∀p∈ [a,b],p∈ids D
 ·refine Split.yes (decide_eq_true di) ?_
  obtain⟨na,LK,ea⟩:=dp.1 (di a (by simp));obtain⟨nb,UO,eb⟩:=dp.1 (di b (by simp));obtain⟨k,hk⟩:=List.mem_iff_getElem?.1 LK;obtain⟨i,hi⟩:=List.mem_iff_getElem?.1 UO;have B8:=(lgeS hk).1;have dV:=(lgeS hi).1;have htl:=h.OH;obtain⟨kd,Vh⟩:=Tr.gu (T:=m.T) (i:=k) (by omega);obtain⟨nd,gB⟩:=Tr.gu (T:=m.T) (i:=i) (by omega);have Pc:=k9.tt tm;have l1:=NY.at_.xQ b;have l2:=NY.at_.xQ a;rw [<-eb,h.W.pos_eq hi]at l1;rw [<-ea,h.W.pos_eq hk]at l2;rw [eb]at l1;rw [ea]at l2;refine⟨_,NY.c1,_,NY.c2,b.1,⟨b.2.1,Cells.bI (Pc.heap qJ (fun h=>h))⟩,_,l1,_,NY.c2,a.1,⟨a.2.1,Cells.bI (Pc.heap xi (fun h=>h))⟩,_,l2,?_⟩;refine Tr.Cn NY.T gB Vh fun mu pT=>⟨_,rfl,hK mu _ ?_ (Pq.tt pT)⟩;rw [h.pg gB Vh];constructor
  ·exact fun hu=>⟨i,k,nb,na,hi,eb,hk,ea,hu⟩
  ·rintro⟨i',k',ni,nk,h1,h2,h3,h4,h5⟩
   have e1:=h.W.inj h1 hi (by rw [h2,eb]);have e2:=h.W.inj h3 hk (by rw [h4,ea]);rw [<-e1,<-e2];exact h5
 ·refine Split.no (decide_eq_false di) (hK nM false ⟨(fun e=>by cases e),fun e=>absurd (fun p hp=>?_) di⟩ Pq)
  simp only [List.mem_cons,List.not_mem_nil,or_false]at hp;rcases hp with rfl|rfl
  ·exact e.mem.1
  ·exact e.mem.2
theorem wx{xb bb:Nat}{b:HT}(h:XV w F x D P m)(hg:w.heap[xb]? =some (.cells #[.pointer (some ⟨x,0,none⟩)] gA (0,0)))(hb:w.heap[bb]? =some (.cells b.1 ah (0,0))){A:Option Addr}{n cx:Nat}{l:List HT}(hl:HS w A n l)(hn:n<=400000)
 (hK:∀w' (r:Bool),(r=true↔∃c∈l,Ch D P c b)->Kept Nil w w'->K (.bool r) w'):
 bu prog dL.id #[.slice A n cx,.func (.func cX.id) #[] #[.pointer (some ⟨xb,0,none⟩),.pointer (some ⟨bb,0,none⟩)]] w K:=by
 have hlen:=hl.len;refine bY.of (an.of ?_);refine an.cy (I:=fun s w'=>∃i:Nat,s=(0,(i:Int))/\i<=n/\(∀p∈l.take i,¬Ch D P p b)/\Kept Nil w w') (μ:=fun s _=>((n:Int)-s.2).toNat) (s:=(0,0)) ⟨0,rfl,Nat.zero_le _,by simp,Kept.refl _ _⟩ ?_;rintro s w' ⟨i,rfl,hi,di,kw⟩;refine Split.dec (fun jN=>?_) (fun gH=>?_)
 ·simp only at jN
  have dV:i<n:=by omega
  obtain⟨y,hy⟩:∃y,l[i]? =some y:=⟨_,List.getElem?_eq_getElem (by omega)⟩;refine(hl.same kw).load (i:=(i:Int)) (by omega) hy ?_;refine cX.of ?_;unfold cX.W;intro w4;have k4:Kept Nil w' w4:=(Kept.refl _ _).alloc _;have rD:w4.heap[w'.heap.size]? =some (.cells y.1 ah (0,0)):=aI w' _;clear_value w4;have Ik:=kw.tt k4;refine⟨some ⟨x,0,none⟩,by rw [aD (Ik.heap hg (fun h=>h))];rfl,y.1,⟨y.2.1,Cells.bI rD⟩,b.1,⟨b.2.1,Cells.bI (Ik.heap hb (fun h=>h))⟩,tW (h.same Ik) y b fun w7 r hr k7=>⟨r,rfl,r,rfl,?_⟩⟩;have CE:=Ik.tt k7;cases r with
  |false=>
   refine Split.no rfl ?_;simp only;rw [dW (n:=(i:Int)) (by omega) (by omega)];refine⟨(0,(i:Int)+1),rfl,⟨i+1,rfl,dV,fun p hp hc=>?_,CE⟩,by simp only;omega⟩;rcases(bO hy).1 hp with hp|rfl
   ·exact di p hp hc
   ·cases hr.2 hc
  |true=>
   refine Split.yes rfl ⟨(i:Int),rfl,?_⟩;exact hK w7 _ ⟨fun _=>⟨y,List.mem_of_getElem? hy,hr.1 rfl⟩,fun _=>decide_eq_true (by omega)⟩ CE
 ·simp only at gH
  rw [aR,an.df];rw [List.take_of_length_le (by omega)]at di;exact⟨-1,rfl,hK w' _ ⟨fun h=>absurd (of_decide_eq_true h) (by omega),fun⟨p,hp,hn⟩=>absurd hn (di p hp)⟩ kw⟩
theorem ml(h:XV w F x D P m)(hD:D.length<=5000)(a b:HT)(hK:∀w' (r:Bool),(r=true↔fy D a b)->Kept Nil w w'->K (.bool r) w'):
 bu prog dR.id #[.pointer (some ⟨x,0,none⟩),.agg a.1,.agg b.1] w K:=by
 refine dR.of ?_;unfold dR.W;intro w4 w5 w6;have k4:Kept Nil w w4:=(Kept.refl _ _).alloc _;have T3:w4.heap[w.heap.size]? =some (.cells #[.pointer (some ⟨x,0,none⟩)] gA (0,0)):=aI w _;have k5:Kept Nil w4 w5:=(Kept.refl _ _).alloc _;have L9:w5.heap[w4.heap.size]? =some (.cells a.1 ah (0,0)):=aI w4 _;have k6:Kept Nil w5 w6:=(Kept.refl _ _).alloc _;have qJ:w6.heap[w5.heap.size]? =some (.cells b.1 ah (0,0)):=aI w5 _;clear_value w6;have xi:=k6.heap L9 (fun h=>h);have IP:=(k5.tt k6).heap T3 (fun h=>h);have qS:=(k4.tt k5).tt k6;refine⟨_,by rw [aD IP];rfl,a.1,⟨a.2.1,Cells.bI xi⟩,b.1,⟨b.2.1,Cells.bI qJ⟩,a.2.1,b.2.1,?_⟩;intro w10;have lh:Kept Nil w6 w10:=(Kept.refl _ _).alloc _;have Lw:HS w10 (some ⟨w6.heap.size,0,none⟩) 2 [a,b]:=HS.lay (l:= [a,b]) (t:=ah) (by rw [<-EH a b];exact aI w6 _);clear_value w10;have CL:=qS.tt lh;refine qp (h.same CL) Lw (by omega) fun lL wI=>⟨_,rfl,?_⟩;have tn:=CL.tt wI;have CG:=lh.tt wI;by_cases di:∀p∈ [a,b],p∈ids D
 ·refine Split.no (by rw [decide_eq_true di];rfl) ?_
  have acS:=CG.heap xi (fun h=>h);have acL:=CG.heap qJ (fun h=>h);refine⟨a.1,⟨a.2.1,Cells.bI acS⟩,b.1,⟨b.2.1,Cells.bI acL⟩,⟨a.2.ints,b.2.ints⟩,?_⟩;rw [dO];refine Split.dec (fun he=>?_) (fun he=>?_)
  ·subst he
   exact hK lL false ⟨(fun e=>by cases e),fun e=>absurd e (fy.irrefl h.W a)⟩ tn
  ·intro jM
   have ns:Kept Nil lL jM:=(Kept.refl _ _).drew;clear_value jM;have TQ:=tn.tt ns;have Lj:=CG.tt ns;refine⟨_,by rw [aD (Lj.heap IP (fun h=>h))];rfl,a.1,⟨a.2.1,Cells.bI (Lj.heap xi (fun h=>h))⟩,b.1,⟨b.2.1,Cells.bI (Lj.heap qJ (fun h=>h))⟩,?_⟩;refine tW (h.same TQ) a b fun zI r hr Iz=>⟨r,rfl,?_⟩;have Pn:=TQ.tt Iz;have Li:=Lj.tt Iz;cases r with
   |true=>exact Split.yes rfl (hK zI true ⟨fun _=>(JW h.W h.iY he).2 (.inl (hr.1 rfl)),fun _=>rfl⟩ Pn)
   |false=>
    refine Split.no rfl ?_;have h21:=h.same Pn;obtain⟨f,hf,VQ⟩:=h21.YL;obtain⟨l,hl,iV⟩:=VQ a;have EB:=hf.look yH a;have fin:∀ {A:Option Addr} {n c:Nat},(f a).getD (.slice none 0 0)=.slice A n c->HS zI A n l->n<=D.length->
     bu prog dL.id #[.slice A n c,.func (.func cX.id) #[] #[.pointer (some ⟨w.heap.size,0,none⟩),.pointer (some ⟨w5.heap.size,0,none⟩)]] zI fun v28 Y7=>∃t:Bool,v28=.bool t/\K (.bool t) Y7:=fun _ hs hn=>
     wx h21 (Li.heap IP (fun h=>h)) (Li.heap qJ (fun h=>h)) hs (by omega) fun wL r2 jF G8=>⟨r2,rfl,hK wL r2 (by
      rw [jF,JW h.W h.iY he];constructor
      ·rintro⟨c,h1,h2⟩;exact .inr ⟨c,(iV c).1 h1,h2⟩
      ·rintro(h1|⟨c,h1,h2⟩)
       ·cases hr.2 h1
       ·exact⟨c,(iV c).2 h1,h2⟩) (Pn.tt G8)⟩
    refine⟨some ⟨x,0,none⟩,by rw [aD (Li.heap IP (fun h=>h))];rfl,_,h21.c4,a.1,⟨a.2.1,Cells.bI (Li.heap xi (fun h=>h))⟩,?_⟩;rcases hl with⟨h1,rfl⟩|⟨A,n,c,h1,h2,h3,h4,h5⟩
    ·rw [h1]at EB
     exact⟨none,0,0,EB,fin (by rw [h1];rfl) (HS.nil _ _) (by omega)⟩
    ·rw [h1]at EB
     exact⟨A,n,c,EB,fin (by rw [h1];rfl) h3 h4⟩
 ·refine Split.yes (by rw [decide_eq_false di];rfl) (hK lL false ⟨(fun e=>by cases e),fun e=>absurd (fun p hp=>?_) di⟩ tn)
  simp only [List.mem_cons,List.not_mem_nil,or_false]at hp;rcases hp with rfl|rfl
  ·exact(e.mem h.W).1
  ·exact(e.mem h.W).2
end
end Go.Proofs.YtfleamccglihoaaGreatDoor
namespace Go.Proofs.YtfleamccglihoaaGreatDoor
open Go.Proofs.Tryz
open Go Go.bT Go.RowKit
section
variable{w w':World}{K:Value->World->Prop}
theorem yk{A:Option Addr}{n c:Nat}(Gp:n<=c)(hK:K (.slice A n n) w):bu prog dr.id #[.slice A n c] w K:=by
 refine dr.of ⟨⟨by omega,by omega⟩,⟨by omega,by simp⟩,?_⟩;have e:(if(n:Int).toNat=0 then A else A.map (·.add (0*32)))=A:=by
  split
  ·rfl
  ·cases A with
   |none=>rfl
   |some a=>simp [add_zero]
 rw [e];simpa using hK
theorem xl{A:Option Addr}{n c:Nat}{l:List HT}(h:HT)(hl:HS w A n l)(hn:n<=1000000)(hK:∀w',Kept Nil w w'->K (.bool (decide (h∈l))) w'):
 bu prog cO.id #[.slice A n c,.agg h.1] w K:=by
 have hlen:=hl.len;refine cO.of ?_;unfold cO.W;intro w3;have k3:Kept Nil w w3:=(Kept.refl _ _).alloc _;have nI:w3.heap[w.heap.size]? =some (.cells h.1 ah (0,0)):=aI w _;clear_value w3;refine⟨h.1,⟨h.2.1,Cells.bI nI⟩,?_⟩;refine aP.of ?_;unfold aP.W;intro w4;have k4:Kept Nil w3 w4:=(Kept.refl _ _).alloc _;have rD:w4.heap[w3.heap.size]? =some (.cells h.1 ah (0,0)):=aI w3 _;clear_value w4;have mW:=k3.tt k4;refine aP.cy (I:=fun s w'=>∃i:Nat,s=(0,(i:Int))/\i<=n/\Kept Nil w4 w'/\h∉l.take i) (μ:=fun s _=>((n:Int)-s.2).toNat) (s:=(0,0)) ⟨0,rfl,Nat.zero_le _,Kept.refl _ _,by simp⟩ ?_;rintro s w' ⟨i,rfl,hi,kw,lH⟩;refine Split.dec (fun cU=>?_) (fun gH=>?_)
 ·simp only at cU
  have dV:i<n:=by omega
  obtain⟨y,hy⟩:∃y,l[i]? =some y:=⟨_,List.getElem?_eq_getElem (by omega)⟩;intro w9;have k9:Kept Nil w' w9:=(Kept.refl _ _).drew;clear_value w9;have Z3:=kw.tt k9;have zt:=mW.tt Z3;refine⟨h.1,⟨h.2.1,Cells.bI (Z3.heap rD (fun h=>h))⟩,?_⟩;refine(hl.same zt).load (i:=(i:Int)) (by omega) hy ⟨⟨h.2.ints,y.2.ints⟩,?_⟩;rw [dO];refine Split.dec (fun he=>?_) (fun he=>?_)
  ·refine⟨(i:Int),rfl,?_⟩
   have:=hK w9 zt;rw [decide_eq_true (by rw [he];exact List.mem_of_getElem? hy)]at this;rw [show decide ((i:Int)>=(0:Int))=true from decide_eq_true (by omega)];exact this
  ·simp only
   rw [gQ (x:=(i:Int)+1) (by omega) (by omega)];refine⟨(0,(i:Int)+1),rfl,⟨i+1,rfl,dV,Z3,?_⟩,by simp only;omega⟩;rw [List.take_add_one,hy];simp only [Option.toList_some,List.mem_append,List.mem_singleton,not_or];exact⟨lH,he⟩
 ·simp only at gH
  rw [aR,aP.df];refine⟨-1,rfl,?_⟩;have:=hK w' (mW.tt kw);rw [List.take_of_length_le (by omega)]at lH;rw [decide_eq_false lH]at this;exact this
theorem zh{A:Option Addr}{n cx:Nat}{l:List HT}{h:HT}{b:Nat}(hl:HS w A n l)(hb:HS w (some ⟨b,0,none⟩) 1 [h])(hn:n<=100000):
 ∃A' c' w',(Builtin.append_ #[ay,ay] ay #[.slice A n n,.slice (some ⟨b,0,none⟩) 1 cx]).run prog w=.ok (.slice A' (n+1) c') w'/\
  HS w' A' (n+1) (l++ [h])/\n+1<=c'/\(∀a,A'=some a->w.heap.size<=a.block/\a.block<w'.heap.size)/\Kept Nil w w':=by
 have hlen:=hl.len;cases A with
 |none=>
  obtain⟨rfl,rfl⟩:=hl.none;obtain⟨A',c',w',hr,fE,hg,hbk⟩:=ct (cx:=cx) ay (bK.nil w w.heap.size) hb (by omega) (Nat.le_refl _);rw [Nat.zero_add]at hr fE;rw [List.nil_append]at fE;obtain⟨b',rfl⟩:=Row.some fE (by omega);have xg:=Row.bI fE (k:=b') rfl;refine⟨some ⟨b',0,Option.none⟩,c',w',hr,bK.hs fE,?_,fun a ha=>?_,Kept.dA (Kept.refl _ _) hg (fun k hk=>by cases hk)⟩
  ·rcases Row.own fE with⟨h1,_⟩|⟨_,_,_,_,_,h1,_⟩
   ·cases h1
   ·exact h1
  ·cases ha
   obtain⟨h1,cur,h2⟩:=xg;exact⟨h1,aQ h2⟩
 |some a=>
  obtain⟨i,z,hi,hz,hs,KC,Eu⟩:=pw.inf;have hr:=run_append_grow (P:=prog) (w:=w) ay ay ah i z pw.pg hi hz a n n (c9 l) (by rw [eV,hs,hlen]) hl.cells ⟨b,0,Option.none⟩ 1 cx (c9 [h]) (by rw [eV,hs];rfl) hb.cells (by omega) (by omega) (growslice_fits (by omega) (by rw [KC];omega));refine⟨_,_,_,hr,⟨by simp [hlen],fun j y hj=>⟨_,rfl,?_,?_⟩⟩,grownCap_ge _ _ _ _,fun a' Cb=>?_,?_⟩
  ·have:=aI w.drew (.cells ((c9 l).toArray++(c9 [h]).toArray++Builtin.zeroCells z.cells (grownCap w (n+1) n ah-(n+1))) ah)
   exact aQ this
  ·intro q v hq
   rw [br,br,Nat.zero_add];have hblk:=aI w.drew (.cells ((c9 l).toArray++(c9 [h]).toArray++Builtin.zeroCells z.cells (grownCap w (n+1) n ah-(n+1))) ah);have e:(w.drew.heap.size)=w.heap.size:=rfl;rw [e]at hblk;rw [aD hblk];have h1:=lE hj hq;rw [mL]at h1;have cU:=(lgeS h1).1;rw [Array.getElem?_append_left (by simpa using cU)];simpa using h1
  ·cases Cb
   have:=aI w.drew (.cells ((c9 l).toArray++(c9 [h]).toArray++Builtin.zeroCells z.cells (grownCap w (n+1) n ah-(n+1))) ah);exact⟨Nat.le_refl _,aQ this⟩
  ·exact(Kept.refl Nil w).drew.alloc _
end
def gZ(D:DG)(h s:HT)(l:List HT):Int:=if dF D h l=0 then(if s∈l then 0 else 2)else dF D h l
theorem qd{D:DG}{h:HT}{l:List HT}(e:dF D h l=0):mY D h l=D++ [⟨h,dw l⟩]:=by unfold mY;rw [if_pos e]
section
variable{w w':World}{S ST:Nat->Prop}{t:Nat}{T:List Tr.Nd}{d:Int}
theorem tL(h:Tr.ph w ST t T d):Tr.ph w (fun k=>ST k/\k<w.heap.size) t T d:=by
 obtain⟨b,c,L,h⟩:=h;refine⟨b,c,L,{h with iB:=⟨h.iB,h.lt⟩,gD:=⟨h.gD,?_⟩,rp:=fun i p hi=>?_}⟩
 ·obtain⟨A,m,hk⟩:=h.rp i p hi
  exact⟨A,m,{hk with la:=fun k e=>⟨hk.la k e,let ⟨_,_,hc⟩:=Row.bI hk.row e;aQ hc⟩}⟩
 ·obtain⟨cur,hc⟩:=h.wE
  exact aQ hc
end
section
variable{w w':World}{F:Nat->Prop}{x:Nat}{D:DG}{P:List Int}{m:XM}{K:Value->World->Prop}
theorem JY{v:World}{hid s:HT}{S2 F2 SO2:Nat->Prop}{ps:List HT}{j:Nat}{mj:DN}{Gh sb:Nat}{b8:Int}{FQ:Option Nat}{A7:Option Addr}{n7 c7:Nat}{i7:Int}{s1 s2:Nat}
 (h:XV w F x D P m) (hD:D.length<=5000) (hn:hid∉ids D) (fJ:∀p∈ps,p∈ids D) (uR:SS ps) (hj:D[j]? =some mj) (hs:mj.id=s) (Bb:s∈ps)
 (jx:v.heap[x]? =some (.cells #[.pointer (some ⟨m.g,0,none⟩),.pointer (some ⟨m.t,0,none⟩),.map (some m.mb),.slice (some ⟨m.ib,0,none⟩) D.length m.ic,.map (some m.cb)] eR (0,0)))
 (ajG:w.heap.size<=Gh) (aiB:w.heap.size<=sb) (Qq:v.heap[Gh]? =some (.cells hid.1 ah (0,0))) (Ha:v.heap[sb]? =some (.cells s.1 ah (0,0)))
 (hG:DL v S2 F2 m.g (D++ [⟨hid,ps⟩])) (hT:Tr.ph v m.ST m.t m.T m.d) (hat:IsMap v m.mb (ids D)) (fE:bK v 0 (some ⟨m.ib,0,none⟩) D.length m.ic (ids D))
 (QF:∃f,fR v m.cb f/\∀y,∃l,oX v SO2 (D.length+1) (f y) l/\∀c,c∈l↔Oi (D++ [⟨hid,ps⟩]) (P++ [(j:Int)]) y c)
 (sO:w.heap.size<=s1) (uS:s1<=s2) (CR:s2<=v.heap.size)
 (Rz:∀k,S2 k->(m.SG k\/w.heap.size<=k)/\k<s1) (RA:∀k,F2 k->(F k\/w.heap.size<=k)/\k<s1) (MP:∀k,SO2 k->m.SO k\/(s2<=k/\k<v.heap.size))
 (kv:Kept (fun k=>m.la x k) w v)
 (hK:∀u S' F',DK u S' F' x (D++ [⟨hid,ps⟩]) (P++ [(j:Int)])->Kept (fun k=>m.la x k) w u->(∀k,S' k->m.la x k\/w.heap.size<=k)->(∀k,F' k->F k\/w.heap.size<=k)->K (.int .i64 0) u):
 aE.Rg (some ⟨x,0,none⟩) ⟨Gh,0,none⟩ ⟨sb,0,none⟩ b8 FQ A7 n7 c7 i7 i7 K v:=by
 have W:=h.W;have oF:=h.low;have uT:=(lgeS hj).1;have htl:=h.OH;have hox:m.own x x:=.inl rfl;have UE:m.own x m.mb:=.inr (.inl rfl);have UF:m.own x m.ib:=.inr (.inr (.inl rfl));have uC:m.own x m.cb:=.inr (.inr (.inr rfl));obtain⟨Ru,SV,OW,SU,Rt,SQ⟩:=h.ne;unfold aE.Rg;intro Fb;have wV:Kept Nil v Fb:=(Kept.refl _ _).drew;clear_value Fb;have c1:Fb.cell? ((⟨x,0,none⟩:Addr).add 1)=some (.pointer (some ⟨m.t,0,none⟩)):=by rw [br,aD (wV.heap jx (fun h=>h))];rfl
 have c2:Fb.cell? ((⟨x,0,none⟩:Addr).add 2)=some (.map (some m.mb)):=by rw [br,aD (wV.heap jx (fun h=>h))];rfl
 have Js:=hat.aF wV (fun h=>h);have lk:=Js.xQ s;rw [<-hs,W.pos_eq hj]at lk;rw [hs]at lk;refine⟨_,c1,_,c2,s.1,⟨s.2.1,Cells.bI (wV.heap Ha (fun h=>h))⟩,_,lk,?_⟩;have Wz:=tL (hT.same wV);refine Tr.HD Wz h.Mi (p:=j) (by omega) (by omega) ⟨h.dl.1,by have:=h.dl.2;omega⟩ fun Fa Xl T' d' Wy Jy Uy hd' Gg acW=>⟨_,_,rfl,?_⟩;have ahg:=wV.size;have Ry:∀k,Xl k->m.ST k\/Fb.heap.size<=k:=fun k hk=>(acW k hk).imp (fun h=>h.1) (fun h=>h);have nST:∀k,(m.ST k/\k<Fb.heap.size)->m.ST k:=fun k h=>h.1;have OF:=Gg.heap (wV.heap jx (fun h=>h)) (fun e=>(h.od x hox).2.1 e.1);intro Hx;have Gf:Kept Nil Fa Hx:=(Kept.refl _ _).drew;clear_value Hx;have HG:=Gf.heap OF (fun h=>h);have EA:∀k,m.ST k->k<w.heap.size:=fun k e=>oF k (.inl (.inr (.inl e)));have lox:x<w.heap.size:=oF x (.inl (.inr (.inr (.inr hox))));have ahI:m.mb<w.heap.size:=oF _ (.inl (.inr (.inr (.inr UE))));have ahJ:m.ib<w.heap.size:=oF _ (.inl (.inr (.inr (.inr UF))));have Tf:m.cb<w.heap.size:=oF _ (.inl (.inr (.inr (.inr uC))));have sv:=kv.size;have ED:Hx.heap[Gh]? =some (.cells hid.1 ah (0,0)):=Gf.heap (Gg.heap (wV.heap Qq (fun h=>h)) (fun e=>by have:=EA _ e.1;omega)) (fun h=>h);have zB:Hx.cell? ((⟨x,0,none⟩:Addr).add 2)=some (.map (some m.mb)):=by rw [br,aD HG];rfl
 have QR:IsMap Hx m.mb (ids D):=(Js.aF Gg (fun e=>(h.od _ UE).2.1 e.1)).aF Gf (fun h=>h);obtain⟨Ox,Nk,QQ,TN⟩:=QR.put hn;rw [gq,<-htl]at Nk;refine⟨_,zB,hid.1,⟨hid.2.1,Cells.bI ED⟩,Ox,Nk,?_⟩;intro E9;have TM:Kept Nil Ox E9:=(Kept.refl _ _).drew;clear_value E9;have yN:=TN.trans TM (fun _ _ h=>h.elim);have HF:=yN.heap HG (fun e=>Ru e);have c3:∀ {u:World},Kept Nil E9 u->u.cell? ((⟨x,0,none⟩:Addr).add 3)=some (.slice (some ⟨m.ib,0,none⟩) D.length m.ic):=fun k=>by rw [br,aD (k.heap HF (fun h=>h))];rfl
 have LP:=yN.heap ED (fun e=>by omega);refine⟨_,_,_,c3 (Kept.refl _ _),hid.1,⟨hid.2.1,Cells.bI LP⟩,hid.2.1,?_⟩;intro zK;have Lp:Kept Nil E9 zK:=(Kept.refl _ _).alloc _;have Wp:HS zK (some ⟨E9.heap.size,0,none⟩) 1 [hid]:=iL E9 hid;clear_value zK;have Er:=yN.trans Lp (fun _ _ h=>h.elim);have OP:bK zK 0 (some ⟨m.ib,0,none⟩) D.length m.ic (ids D):=
  Row.aF (Row.aF (Row.aF (Row.aF fE wV (fun _ _ h=>h)) Gg (fun k e e'=>by cases e;exact(h.od _ UF).2.1 e'.1)) Gf (fun _ _ h=>h)) Er (fun k e e'=>by cases e;exact SU e'.symm)
 obtain⟨A',c',E8,Ur,Cw,VD,Wo⟩:=ct (cx:=1) ay OP Wp (by omega) (Nat.zero_le _);have Pk:Kept (· =m.ib) zK E8:=Kept.grown (Kept.refl _ _) VD (fun k e _=>by cases e;rfl);obtain⟨BY,rfl⟩:=Row.some Cw (by omega);have LQ:BY=m.ib\/zK.heap.size<=BY:=by
  rcases Wo BY rfl with e|e
  ·left;simpa [a8]using e.symm
  ·exact .inr e
 have HE:=Pk.heap (Lp.heap HF (fun h=>h)) (fun e=>SV e);refine⟨c3 Lp,some ⟨BY,0,none⟩,_,c',E8,Ur,Is.mk rfl ⟨?_,?_⟩⟩
 ·rw [br]
  exact dY HE (by simp)
 intro zJ;have W5:zJ=E8.setCell ⟨x,3,none⟩ (.slice (some ⟨BY,0,none⟩) (D.length+1) c'):=by
  show E8.setCell ((⟨x,0,none⟩:Addr).add 3) _=_
  rw [br]
 have Pj:Kept (· =x) E8 zJ:=by rw [W5];exact Kept.setCell (S:=fun k=>k=x) (Kept.refl _ E8) (p:=⟨x,3,none⟩) (fun _=>rfl) _
 have OE:zJ.heap[x]? =some (.cells #[.pointer (some ⟨m.g,0,none⟩),.pointer (some ⟨m.t,0,none⟩),.map (some m.mb),.slice (some ⟨BY,0,none⟩) (D.length+1) c',.map (some m.cb)] eR (0,0)):=by
  rw [W5,dh HE 3];rfl
 clear_value zJ;have ahf:=Gg.size;have ahe:=Gf.size;have ahd:=Er.size;have ahc:=Pk.size;have ahb:=Pj.size;have kC:Kept (fun k=>k=m.ib\/k=x) Ox zJ:=(((TM.tt Lp).mono (S':=fun k=>k=m.ib\/k=x) (fun _ _ h=>h.elim)).trans Pk (fun _ _ h=>.inl h)).trans Pj (fun _ _ h=>.inr h);have kB:Kept (fun k=>k=m.mb\/k=m.ib\/k=x) Fa zJ:=((Gf.mono (S':=fun k=>k=m.mb\/k=m.ib\/k=x) (fun _ _ h=>h.elim)).trans TN (fun _ _ h=>.inl h)).trans kC (fun _ _ h=>.inr h);have kA:Kept (fun k=>m.ST k\/k=m.mb\/k=m.ib\/k=x) v zJ:=((wV.mono (S':=fun k=>m.ST k\/k=m.mb\/k=m.ib\/k=x) (fun _ _ h=>h.elim)).trans Gg (fun _ _ h=>.inl h.1)).trans kB (fun _ _ h=>.inr h);have FL:∀k,(k=m.mb\/k=m.ib\/k=x)->m.own x k:=fun k e=>by
  rcases e with e|e|e
  ·exact .inr (.inl e)
  ·exact .inr (.inr (.inl e))
  ·exact .inl e
 have K0:∀k,m.own x k->k<w.heap.size:=fun k e=>oF k (.inl (.inr (.inr (.inr e))));have K5:∀k,m.SG k->k<w.heap.size:=fun k e=>oF k (.inl (.inl e));have Ih:∀k,m.SO k->k<w.heap.size:=fun k e=>oF k (.inl (.inr (.inr (.inl e))));have nG:∀k,S2 k->¬(m.ST k\/k=m.mb\/k=m.ib\/k=x):=fun k h1 h2=>by
  obtain⟨h3,_⟩:=Rz k h1;rcases h2 with h2|h2
  ·rcases h3 with h3|h3
   ·exact(h.gt k h3).1 h2
   ·have:=EA k h2;omega
  ·have h4:=FL k h2
   rcases h3 with h3|h3
   ·exact(h.od k h4).1 h3
   ·have:=K0 k h4;omega
 have nF:∀k,F2 k->¬(m.ST k\/k=m.mb\/k=m.ib\/k=x):=fun k h1 h2=>by
  obtain⟨h3,_⟩:=RA k h1;rcases h2 with h2|h2
  ·rcases h3 with h3|h3
   ·exact(h.fd k h3).1 h2
   ·have:=EA k h2;omega
  ·have h4:=FL k h2
   rcases h3 with h3|h3
   ·exact(h.od k h4).2.2.2 h3
   ·have:=K0 k h4;omega
 have ZC:∀k,SO2 k->¬(m.ST k\/k=m.mb\/k=m.ib\/k=x):=fun k h1 h2=>by
  rcases MP k h1 with h3|⟨h3,_⟩
  ·rcases h2 with h2|h2
   ·exact h.to k h2 h3
   ·exact(h.od k (FL k h2)).2.2.1 h3
  ·rcases h2 with h2|h2
   ·have:=EA k h2;omega
   ·have:=K0 k (FL k h2);omega
 have nT:∀k,(Xl k/\k<Fa.heap.size)->¬(k=m.mb\/k=m.ib\/k=x):=fun k h1 h2=>by
  have h4:=FL k h2;rcases Ry k h1.1 with h3|h3
  ·exact(h.od k h4).2.1 h3
  ·have:=K0 k h4;omega
 refine hK zJ (fun k=>(S2 k\/(Xl k/\k<Fa.heap.size)\/SO2 k\/(k=x\/k=m.mb\/k=BY\/k=m.cb))) F2 ⟨{m with ib:=BY,ic:=c',T:=T',d:=d',SG:=S2,ST:=fun k=>Xl k/\k<Fa.heap.size,SO:=SO2},?_,fun k e=>e⟩ ?_ ?_ ?_
 ·refine⟨?_,hG.aF kA nG nF,(tL Wy).aF kB nT,Jy,?_,?_,?_,?_,?_,?_,?_,?_,?_,?_,?_,?_,?_⟩
  ·rw [List.length_append];exact OE
  ·show Tr.bW T'=_
   rw [Uy,h.bW]
  ·have:=h.dl
   simp only [List.length_append,List.length_singleton];show 0<=d'/\d'<=_
   omega
  ·rw [lR]
   exact QQ.aF kC (fun e=>e.elim (fun e=>SU e) (fun e=>Ru e.symm))
  ·rw [lR,List.length_append]
   refine Row.aF Cw Pj (fun k e e'=>?_);have e1:BY=k:=by simpa [a8]using e
   rcases LQ with e|e
   ·exact SV (e'.symm.trans (e1.symm.trans e))
   ·omega
  ·obtain⟨f,hf,hc⟩:=QF
   refine⟨f,hf.aF kA (fun e=>?_),fun y=>?_⟩
   ·rcases e with e|e|e|e
    ·exact(h.od _ uC).2.1 e
    ·exact Rt e.symm
    ·exact SQ e.symm
    ·exact OW e.symm
   ·obtain⟨l,h1,h2⟩:=hc y
    refine⟨l,?_,h2⟩;rw [List.length_append];exact h1.aF kA ZC
  ·exact h.iY.snoc hj (by rw [hs];exact Bb) W.pos
  ·exact W.snoc (nd:=⟨hid,ps⟩) hn fJ uR
  ·intro k h1
   obtain⟨h3,h4⟩:=Rz k h1;refine⟨fun h2=>?_,fun h2=>?_⟩
   ·rcases Ry k h2.1 with h5|h5
    ·exact nG k h1 (.inl h5)
    ·omega
   ·rcases MP k h2 with h5|h5
    ·rcases h3 with h3|h3
     ·exact(h.gt k h3).2 h5
     ·have:=Ih k h5;omega
    ·omega
  ·intro k h1 h2
   rcases Ry k h1.1 with h5|h5
   ·exact ZC k h2 (.inl h5)
   ·rcases MP k h2 with h6|h6
    ·have:=Ih k h6;omega
    ·omega
  ·intro k h1
   obtain⟨h3,h4⟩:=RA k h1;refine⟨fun h2=>?_,fun h2=>?_⟩
   ·rcases Ry k h2.1 with h5|h5
    ·exact nF k h1 (.inl h5)
    ·omega
   ·rcases MP k h2 with h5|h5
    ·rcases h3 with h3|h3
     ·exact(h.fd k h3).2 h5
     ·have:=Ih k h5;omega
    ·omega
  ·intro k e
   have e':(k=m.mb\/k=m.ib\/k=x)\/(k=m.cb)\/(k=BY/\zK.heap.size<=BY):=by
    rcases e with e|e|e|e
    ·exact .inl (.inr (.inr e))
    ·exact .inl (.inl e)
    ·rcases LQ with h5|h5
     ·exact .inl (.inr (.inl (e.trans h5)))
     ·exact .inr (.inr ⟨e,h5⟩)
    ·exact .inr (.inl e)
   have big:zK.heap.size<=k->¬S2 k/\¬(Xl k/\k<Fa.heap.size)/\¬SO2 k/\¬F2 k:=fun hb=>
    ⟨fun h1=>by have:=(Rz k h1).2;omega,fun h1=>by have:=h1.2;omega,fun h1=>(MP k h1).elim (fun h2=>by have:=Ih k h2;omega) (fun h2=>by omega),fun h1=>by have:=(RA k h1).2;omega⟩
   rcases e' with e'|e'|⟨rfl,e'⟩
   ·exact⟨fun h1=>nG k h1 (.inr e'),fun h1=>nT k h1 e',fun h1=>ZC k h1 (.inr e'),fun h1=>nF k h1 (.inr e')⟩
   ·subst e'
    have Yo:=h.od _ uC;refine⟨fun h1=>?_,fun h1=>?_,fun h1=>?_,fun h1=>?_⟩
    ·rcases(Rz _ h1).1 with h2|h2
     ·exact Yo.1 h2
     ·omega
    ·rcases Ry _ h1.1 with h2|h2
     ·exact Yo.2.1 h2
     ·omega
    ·rcases MP _ h1 with h2|h2
     ·exact Yo.2.2.1 h2
     ·omega
    ·rcases(RA _ h1).1 with h2|h2
     ·exact Yo.2.2.2 h2
     ·omega
   ·exact big e'
  ·show x≠m.mb/\x≠BY/\x≠m.cb/\m.mb≠BY/\m.mb≠m.cb/\BY≠m.cb
   rcases LQ with h5|h5
   ·rw [h5];exact⟨Ru,SV,OW,SU,Rt,SQ⟩
   ·exact⟨Ru,by omega,OW,by omega,Rt,by omega⟩
  ·intro k e
   have hblk:=(Row.bI Cw (k:=BY) rfl).2;obtain⟨cur,jy⟩:=hblk;have lib:=aQ jy;rcases e with e|e
   ·rcases e with e|e|e|e
    ·have:=(Rz k e).2;omega
    ·have:=e.2;omega
    ·rcases MP k e with h2|h2
     ·have:=Ih k h2;omega
     ·omega
    ·rcases e with e|e|e|e
     ·omega
     ·have e:k=m.mb:=e;omega
     ·have e:k=BY:=e;omega
     ·have e:k=m.cb:=e;omega
   ·have:=(RA k e).2;omega
 ·refine kv.trans kA (fun k _ e=>?_)
  rcases e with e|e
  ·exact .inr (.inl e)
  ·exact .inr (.inr (.inr (FL k e)))
 ·intro k e
  rcases e with e|e|e|e
  ·exact(Rz k e).1.imp (fun h=>.inl h) (fun h=>h)
  ·rcases Ry k e.1 with h5|h5
   ·exact .inl (.inr (.inl h5))
   ·exact .inr (by omega)
  ·rcases MP k e with h5|h5
   ·exact .inl (.inr (.inr (.inl h5)))
   ·exact .inr (by omega)
  ·rcases e with e|e|e|e
   ·exact .inl (.inr (.inr (.inr (.inl e))))
   ·exact .inl (.inr (.inr (.inr (.inr (.inl e)))))
   ·rcases LQ with h5|h5
    ·exact .inl (.inr (.inr (.inr (.inr (.inr (.inl (e.trans h5)))))))
    ·exact .inr (by omega)
   ·exact .inl (.inr (.inr (.inr (.inr (.inr (.inr e))))))
 ·exact fun k e=>(RA k e).1
end
section
variable{w w':World}{F S:Nat->Prop}{x:Nat}{D:DG}{P:List Int}{m:XM}{K:Value->World->Prop}
theorem GU{u v:World}{hid s:HT}{D':DG}{ps pl:List HT}{Gh ob i:Nat}{A7:Option Addr}{c7:Nat}{b8:Int}{sb:Addr}{f0:HT->Option Value}{Q:aO}{XC:Option Nat}
 (h:XV w F x D P m) (hD:D.length<=5000) (hwu:w.heap.size<=u.heap.size)
 (jx:u.heap[x]? =some (.cells #[.pointer (some ⟨m.g,0,none⟩),.pointer (some ⟨m.t,0,none⟩),.map (some m.mb),.slice (some ⟨m.ib,0,none⟩) D.length m.ic,.map (some m.cb)] eR (0,0)))
 (Qq:u.heap[Gh]? =some (.cells hid.1 ah (0,0))) (ai8:w.heap.size<=Gh) (hold:fR u ob f0) (ai6:w.heap.size<=ob) (abg:XC=some ob)
 (hf0:∀y,(y=s\/fy D y s->f0 y=some (.agg #[.bool true]))/\(¬(y=s\/fy D y s)->f0 y=none))
 (KV:bK u w.heap.size A7 pl.length c7 pl) (rL:pl.length<=10000)
 (kv:Kept (· =m.cb) u v) (hi:i<=pl.length) {Z:HT->HT->Prop}
 (QF:∃f,fR v m.cb f/\∀y,∃l,oX v (fun k=>m.SO k\/(u.heap.size<=k/\k<v.heap.size)) (D.length+if y∈pl.take i then 1 else 0) (f y) l/\∀c,c∈l↔Oi D P y c\/(c=hid/\y∈pl.take i/\y≠s/\¬fy D y s)) (gB:pl.Nodup)
 (hQ:∀v',Kept (· =m.cb) u v'->(∃f,fR v' m.cb f/\∀y,∃l,oX v' (fun k=>m.SO k\/(u.heap.size<=k/\k<v'.heap.size)) (D.length+if y∈pl.take (i+1)then 1 else 0) (f y) l/\∀c,c∈l↔Oi D P y c\/(c=hid/\y∈pl.take (i+1)/\y≠s/\¬fy D y s))->i<pl.length->
   Q .normal (aE.e2 (some ⟨x,0,none⟩) ⟨Gh,0,none⟩ sb b8 XC A7 pl.length c7 (pl.length:Int) ((i:Int)+1)) v')
 (hE:i=pl.length->Q (.exit 3) (aE.e2 (some ⟨x,0,none⟩) ⟨Gh,0,none⟩ sb b8 XC A7 pl.length c7 (pl.length:Int) (i:Int)) v):
 aE.B2 (some ⟨x,0,none⟩) ⟨Gh,0,none⟩ sb b8 XC A7 pl.length c7 (pl.length:Int) (i:Int) Q v:=by
 subst abg;have hox:m.own x x:=.inl rfl;have uC:m.own x m.cb:=.inr (.inr (.inr rfl));obtain⟨Ru,SV,OW,SU,Rt,SQ⟩:=h.ne;have Tf:m.cb<w.heap.size:=h.low _ (.inl (.inr (.inr (.inr uC))));have sv:=kv.size;unfold aE.B2;refine Split.dec (fun jN=>?_) (fun gH=>hE (by omega));have dV:i<pl.length:=by omega
 obtain⟨y,hy⟩:∃y,pl[i]? =some y:=⟨_,List.getElem?_eq_getElem dV⟩;have XT:y∉pl.take i:=fun hm=>by
  obtain⟨j,hj⟩:=List.mem_iff_getElem?.1 hm;rw [List.getElem?_take]at hj;split at hj
  ·rename_i cU
   have h1:=lA 0 j gB hj;rw [lA 0 i gB hy]at h1;simp only [Option.some.injEq]at h1;omega
  ·cases hj
 have Fz:HS v A7 pl.length pl:=bK.hs (Row.aF KV kv (fun k hk e=>by have:=(Row.bI KV hk).1;omega));refine Fz.load (i:=(i:Int)) (by omega) (by rw [Int.toNat_natCast];exact hy) ?_;intro w81;obtain⟨tu,jP,ko⟩:=iu (w:=v) (z:=(#[.int .u8 0,.int .u8 0,.int .u8 0,.int .u8 0,.int .u8 0,.int .u8 0,.int .u8 0,.int .u8 0,.int .u8 0,.int .u8 0,.int .u8 0,.int .u8 0,.int .u8 0,.int .u8 0,.int .u8 0,.int .u8 0,.int .u8 0,.int .u8 0,.int .u8 0,.int .u8 0,.int .u8 0,.int .u8 0,.int .u8 0,.int .u8 0,.int .u8 0,.int .u8 0,.int .u8 0,.int .u8 0,.int .u8 0,.int .u8 0,.int .u8 0,.int .u8 0]:Array Value)) (cs:=y.1) (t:=ah) (by rw [y.2.1];rfl);refine⟨⟨y.2.1,y.2.one,fun j hj=>tu j (by rw [y.2.1];exact hj)⟩,?_⟩;intro Oq
 replace jP:Oq.heap[v.heap.size]? =some (.cells y.1 ah (0,0)):=jP
 replace ko:Kept Nil v Oq:=ko
 clear_value Oq;have XK:Kept (· =m.cb) u Oq:=kv.trans ko (fun _ _ h=>h.elim);have P7:fR Oq ob f0:=hold.aF XK (fun e=>by omega);have lk:=P7.look Ia y;obtain⟨f,hf,hc⟩:=QF;have VL:=hf.aF ko (fun h=>h);obtain⟨l,qH,He⟩:=hc y;have aaE:=ko.size;have Oc:∀ {v':World} {N N':Nat} {a:Option Value} {l:List HT},v.heap.size<=v'.heap.size->N<=N'->oX v' (fun k=>m.SO k\/(u.heap.size<=k/\k<v.heap.size)) N a l->oX v' (fun k=>m.SO k\/(u.heap.size<=k/\k<v'.heap.size)) N' a l:=fun hv hN x5=>by
  rcases x5 with x5|⟨A,n,c,h1,h2,h3,h4,h5⟩
  ·exact .inl x5
  ·exact .inr ⟨A,n,c,h1,h2,h3,by omega,fun a ha=>(h5 a ha).imp (fun h=>h) (fun h=>⟨h.1,by omega⟩)⟩
 have Od:∀ {v':World} {N:Nat} {a:Option Value} {l:List HT},Kept (· =m.cb) v v'->oX v (fun k=>m.SO k\/(u.heap.size<=k/\k<v.heap.size)) N a l->oX v' (fun k=>m.SO k\/(u.heap.size<=k/\k<v.heap.size)) N a l:=fun hk x5=>x5.aF hk (fun k oR e=>by
  rcases oR with h1|h1
  ·exact(h.od _ uC).2.2.1 (e▸h1)
  ·omega)
 refine⟨y.1,⟨y.2.1,Cells.bI jP⟩,?_⟩;by_cases jT:y=s\/fy D y s
 ·rw [(hf0 y).1 jT]at lk
  refine⟨_,lk,true,rfl,Split.no rfl ?_⟩;rw [dW (n:=(i:Int)) (by omega) (by omega)];refine hQ Oq XK ⟨f,VL,fun z=>?_⟩ dV;obtain⟨lz,h1,h2⟩:=hc z;refine⟨lz,Oc aaE (by
   by_cases hz:z∈pl.take i
   ·rw [if_pos hz,if_pos ((bO hy).2 (.inl hz))];exact Nat.le_refl _
   ·rw [if_neg hz];omega) (Od (ko.mono (fun _ _ h=>h.elim)) h1),fun c=>?_⟩
  rw [h2,bO hy];constructor
  ·rintro(h3|⟨h3,h4,h5,h6⟩)
   ·exact .inl h3
   ·exact .inr ⟨h3,.inl h4,h5,h6⟩
  ·rintro(h3|⟨h3,h4|rfl,h5,h6⟩)
   ·exact .inl h3
   ·exact .inr ⟨h3,h4,h5,h6⟩
   ·exact absurd jT (fun e=>e.elim h5 h6)
 ·rw [(hf0 y).2 jT]at lk
  refine⟨_,lk,false,rfl,Split.yes rfl ?_⟩;intro DP;have Tz:Kept Nil Oq DP:=(Kept.refl _ _).drew;clear_value DP;have ZP:=ko.tt Tz;have Jn:=Tz.heap jP (fun h=>h);have uo:∀ {q:World},Kept Nil DP q->q.cell? ((⟨x,0,none⟩:Addr).add 4)=some (.map (some m.cb)):=fun k=>by
   rw [br,aD (k.heap (Tz.heap (XK.heap jx (fun e=>OW e)) (fun h=>h)) (fun h=>h))];rfl
  have ny:∀ {q:World},Kept Nil DP q->∃cs:Array Value,(.agg y.1:Value)=.agg cs/\cs.size=32/\Cells q (⟨v.heap.size,0,none⟩:Addr) cs:=fun k=>⟨y.1,rfl,y.2.1,Cells.bI (k.heap Jn (fun h=>h))⟩;have NB:DP.heap[Gh]? =some (.cells hid.1 ah (0,0)):=Tz.heap (XK.heap Qq (fun e=>by omega)) (fun h=>h);have acd:∀ {q:World},Kept Nil DP q->∃cs:Array Value,(.agg hid.1:Value)=.agg cs/\cs.size=32/\Cells q (⟨Gh,0,none⟩:Addr) cs:=fun k=>⟨hid.1,rfl,hid.2.1,Cells.bI (k.heap NB (fun h=>h))⟩;have VK:=VL.aF Tz (fun h=>h);obtain⟨A,n,c,gS,Gp,CQ,hnN⟩:∃(A:Option Addr) (n c:Nat),(f y).getD (.slice none 0 0)=.slice A n c/\n<=c/\HS v A n l/\n<=D.length:=by
   rcases qH with⟨h1,h2⟩|⟨A,n,c,h1,h2,h3,h4,_⟩
   ·exact⟨none,0,0,by rw [h1];rfl,Nat.le_refl _,by rw [h2];exact HS.nil _ _,by omega⟩
   ·rw [if_neg XT]at h4
    exact⟨A,n,c,by rw [h1];rfl,h2,h3,by omega⟩
  have lk2:∀ {q:World},Kept Nil DP q->(Instr.lookup gV (.map (some m.cb)) (.agg y.1) false).run prog q=.ok (.slice A n c) q:=fun k=>by
   have:=(VK.aF k (fun h=>h)).look yH y;rw [gS]at this;exact this
  have fin:∀ {q:World} {bb:Nat},Kept Nil DP q->HS q (some ⟨bb,0,none⟩) 1 [hid]->
   ∃(A':Option Addr) (n' c':Nat) (q2:World),(Builtin.append_ #[ay,ay] ay #[.slice A n n,.slice (some ⟨bb,0,none⟩) 1 1]).run prog q=.ok (.slice A' n' c') q2/\(∃cs:Array Value,(.agg y.1:Value)=.agg cs/\cs.size=32/\Cells q2 (⟨v.heap.size,0,none⟩:Addr) cs)/\q2.cell? ((⟨x,0,none⟩:Addr).add 4)=some (.map (some m.cb))/\
    ∃q3:World,(Instr.mapUpdate gV (.map (some m.cb)) (.agg y.1) (.slice A' n' c')).run prog q2=.ok () q3/\Q .normal (aE.e2 (some ⟨x,0,none⟩) ⟨Gh,0,none⟩ sb b8 (some ob) A7 pl.length c7 (pl.length:Int) (i64.wrap ((i:Int)+(1:Int)))) q3:=by
   intro q bb kq xg;have ZO:=ZP.tt kq;obtain⟨A',c',q2,hr,uS,KB,lT,kq2⟩:=zh (cx:=1) (CQ.same ZO) xg (by omega);have k2:=kq.tt kq2;obtain⟨q3,ry,hf3,k3⟩:=(VK.aF k2 (fun h=>h)).put yH y (.slice A' (n+1) c');refine⟨A',_,c',q2,hr,ny k2,uo k2,q3,ry,?_⟩;rw [dW (n:=(i:Int)) (by omega) (by omega)];have Tq:=ZO.tt kq2;have Tp:Kept (· =m.cb) v q3:=(Tq.mono (S':=(· =m.cb)) (fun _ _ h=>h.elim)).tt k3;have sq2:=Tq.size;have sq3:=k3.size;have svq:=ZO.size;refine hQ q3 (kv.tt Tp) ⟨_,hf3,fun z=>?_⟩ dV;by_cases hz:z=y
   ·subst hz
    refine⟨l++ [hid],.inr ⟨A',n+1,c',by simp,KB,uS.aF k3 (fun a ha e=>by have:=(lT a ha).1;omega),?_,fun a ha=>.inr ?_⟩,fun c=>?_⟩
    ·rw [if_pos ((bO hy).2 (.inr rfl))];omega
    ·have:=lT a ha;omega
    ·rw [List.mem_append,List.mem_singleton,He,bO hy]
     constructor
     ·rintro((h3|⟨h3,h4,h5,h6⟩)|h3)
      ·exact .inl h3
      ·exact .inr ⟨h3,.inl h4,h5,h6⟩
      ·exact .inr ⟨h3,.inr rfl,fun e=>jT (.inl e),fun e=>jT (.inr e)⟩
     ·rintro(h3|⟨h3,h4,h5,h6⟩)
      ·exact .inl (.inl h3)
      ·exact .inr h3
   ·obtain⟨lz,h1,h2⟩:=hc z
    refine⟨lz,?_,fun c=>?_⟩
    ·simp only [hz,if_false]
     refine Oc (by omega) ?_ (Od Tp h1);by_cases hzi:z∈pl.take i
     ·rw [if_pos hzi,if_pos ((bO hy).2 (.inl hzi))];exact Nat.le_refl _
     ·rw [if_neg hzi];omega
    ·rw [h2,bO hy]
     constructor
     ·rintro(h3|⟨h3,h4,h5,h6⟩)
      ·exact .inl h3
      ·exact .inr ⟨h3,.inl h4,h5,h6⟩
     ·rintro(h3|⟨h3,h4|h4,h5,h6⟩)
      ·exact .inl h3
      ·exact .inr ⟨h3,h4,h5,h6⟩
      ·exact absurd h4 hz
  refine⟨_,uo (Kept.refl _ _),y.1,⟨y.2.1,Cells.bI Jn⟩,_,uo (Kept.refl _ _),y.1,⟨y.2.1,Cells.bI Jn⟩,A,n,c,lk2 (Kept.refl _ _),hid.1,⟨hid.2.1,Cells.bI NB⟩,?_,⟨hid.2.1,?_⟩⟩
  ·refine yk Gp ⟨A,n,n,rfl,acd (Kept.refl _ _),ny (Kept.refl _ _),uo (Kept.refl _ _),hid.2.1,?_⟩
   intro Fc;have CJ:Kept Nil DP Fc:=(Kept.refl _ _).alloc _;have Ws:HS Fc (some ⟨DP.heap.size,0,none⟩) 1 [hid]:=iL DP hid;clear_value Fc;exact⟨ny CJ,uo CJ,fin CJ Ws⟩
  ·intro Oy
   have AX:Kept Nil DP Oy:=(Kept.refl _ _).alloc _;have Wq:HS Oy (some ⟨DP.heap.size,0,none⟩) 1 [hid]:=iL DP hid;clear_value Oy;exact⟨lk2 AX,ny AX,uo AX,ny AX,uo AX,yk Gp ⟨A,n,n,rfl,ny AX,uo AX,fin AX Wq⟩⟩
end
def nX(D:DG)(h s:HT)(l:List HT):DG:=if gZ D h s l=0 then D++ [⟨h,dw l⟩]else D
def nW(D:DG)(P:List Int)(h s:HT)(l:List HT):List Int:=if gZ D h s l=0 then P++ [(((pos s (ids D) 0).getD 0:Nat):Int)]else P
section
variable{w w':World}{F S:Nat->Prop}{x:Nat}{D:DG}{P:List Int}{m:XM}{K:Value->World->Prop}
theorem FH(h:XV w F x D P m)(hD:D.length<=5000)(hT:tJ w)(KE:¬m.SG (Tryz.jX.g 1)){A:Option Addr}{n cx:Nat}{lp:List HT}(hl:HS w A n lp)(hn:n<=5000)(hid s:HT)
 (lH:∀v,Kept Nil w v->gZ D hid s lp≠0->K (.int .i64 (gZ D hid s lp)) v)
 (A9:∀u S' F',DK u S' F' x (nX D hid s lp) (nW D P hid s lp)->Kept (fun k=>m.la x k) w u->(∀k,S' k->m.la x k\/w.heap.size<=k)->(∀k,F' k->F k\/w.heap.size<=k)->gZ D hid s lp=0->K (.int .i64 0) u):
 bu prog aE.id #[.pointer (some ⟨x,0,none⟩),.agg hid.1,.agg s.1,.slice A n cx] w K:=by
 have hlen:=hl.len;have W:=h.W;refine aE.of ?_;unfold aE.W;intro w5 w6;have k5:Kept Nil w w5:=(Kept.refl _ _).alloc _;have LR:w5.heap[w.heap.size]? =some (.cells hid.1 ah (0,0)):=aI w _;have k6:Kept Nil w5 w6:=(Kept.refl _ _).alloc _;have Lv:w6.heap[w5.heap.size]? =some (.cells s.1 ah (0,0)):=aI w5 _;clear_value w6;have Yi:=k6.heap LR (fun h=>h);have qS:=k5.tt k6;have s5:=k5.size;have l5:=aQ LR;obtain⟨bl,c,mbg,M,G⟩:=h.G;have hG:∀ {v:World},Kept Nil w v->GV v m.SG F m.g D (gU D) bl c mbg M:=fun k=>G.same k;refine tV (h.same qS) ⟨true,rfl,Split.no rfl ⟨_,(h.same qS).c0,hid.1,⟨hid.2.1,Cells.bI Yi⟩,?_⟩⟩;refine uV (hG qS) hid fun iP G9=>⟨_,rfl,?_⟩;have Lr:=qS.tt G9;by_cases fJ:hid∈ids D
 ·have e:gZ D hid s lp=7:=by simp [gZ,dF,fJ]
  have:=lH iP Lr (by rw [e];decide);rw [e]at this;exact Split.yes (decide_eq_true fJ) this
 refine Split.no (decide_eq_false fJ) ?_;by_cases h0:n=0
 ·have el:lp= []:=List.length_eq_zero_iff.1 (by omega)
  have e:gZ D hid s lp=9:=by subst el;simp [gZ,dF,fJ,KS]
  have:=lH iP Lr (by rw [e];decide);rw [e]at this;exact Split.yes (by simp [h0]) this
 refine Split.no (by simp [h0]) ?_;refine jf (hl.same Lr) (by omega) fun A17 c17 xC aer IB=>⟨A17,_,c17,rfl,?_⟩;have Lq:=Lr.tt IB;have fL:lp≠ []:=fun e=>h0 (by rw [<-hlen,e];rfl);by_cases CQ:¬(dw lp).length=n
 ·have e:gZ D hid s lp=9:=by
   have h1:(dw lp).length=0\/(dw lp).length≠lp.length:=.inr (by omega);have h2:dF D hid lp=9:=by unfold dF;rw [if_neg fJ,if_pos h1]
   simp [gZ,h2]
  have:=lH xC Lq (by rw [e];decide);rw [e]at this;exact Split.yes (by simp only [bne_iff_ne,ne_eq];omega) this
 replace CQ:=Classical.not_not.1 CQ
 refine Split.no (by rw [CQ];simp) ?_;refine qp (h.same Lq) (hl.same Lq) (by omega) fun E7 BX=>⟨_,rfl,?_⟩;have Po:=Lq.tt BX;have UM:¬((dw lp).length=0\/(dw lp).length≠lp.length):=by omega
 by_cases di:¬∀p∈lp,p∈ids D
 ·have hex:∃p∈dw lp,p∉ids D:=Classical.byContradiction fun hc=>di fun p hp=>Classical.byContradiction fun hq=>hc ⟨p,dM.2 hp,hq⟩
  have e:gZ D hid s lp=6:=by
   have:dF D hid lp=6:=by unfold dF;rw [if_neg fJ,if_neg UM,if_pos hex]
   simp [gZ,this]
  have:=lH E7 Po (by rw [e];decide);rw [e]at this;exact Split.yes (by rw [decide_eq_false di];rfl) this
 replace di:=Classical.not_not.1 di
 refine Split.no (by rw [decide_eq_true di];rfl) ?_;have ack:¬∃p∈dw lp,p∉ids D:=fun⟨p,hp,hq⟩=>hq (di p (dM.1 hp));have eC:dF D hid lp=0:=by unfold dF;rw [if_neg fJ,if_neg UM,if_neg ack]
 have TB:=(G9.tt IB).tt BX;refine⟨s.1,⟨s.2.1,Cells.bI (TB.heap Lv (fun h=>h))⟩,?_⟩;refine xl s (hl.same Po) (by omega) fun mu pT=>⟨_,rfl,?_⟩;have CK:=Po.tt pT;by_cases vT:¬s∈lp
 ·have e:gZ D hid s lp=2:=by simp [gZ,eC,vT]
  have:=lH mu CK (by rw [e];decide);rw [e]at this;exact Split.yes (by rw [decide_eq_false vT];rfl) this
 replace vT:=Classical.not_not.1 vT
 refine Split.no (by rw [decide_eq_true vT];rfl) ?_;have eX:gZ D hid s lp=0:=by simp [gZ,eC,vT]
 have Lh:=TB.tt pT;obtain⟨mj,Qc,Qb⟩:=dp.1 (di s vT);obtain⟨j,hj⟩:=List.mem_iff_getElem?.1 Qc;have eP:nW D P hid s lp=P++ [(j:Int)]:=by
  unfold nW;rw [if_pos eX,<-Qb,W.pos_eq hj];rfl
 have eD:nX D hid s lp=D++ [⟨hid,dw lp⟩]:=by unfold nX;rw [if_pos eX]
 intro o9;have AT:Kept Nil mu o9:=(Kept.refl _ _).alloc _;have abx:fR o9 mu.heap.size (fun _=>none):=fR.new mu;clear_value o9;have I2:=(Lh.tt AT).heap Lv (fun h=>h);obtain⟨G5,aaU,U0,Ix⟩:=abx.put Ia s (.agg #[.bool true]);refine⟨s.1,⟨s.2.1,Cells.bI I2⟩,G5,aaU,?_⟩;have ob0:w5.heap.size<mu.heap.size:=by have:=aQ Lv;have:=Lh.size;omega
 have aaF:=Ix.heap I2 (fun e=>by omega);refine⟨s.1,⟨s.2.1,Cells.bI aaF⟩,s.2.1,?_⟩;intro Ow;have Pe:Kept Nil G5 Ow:=(Kept.refl _ _).alloc _;have aal:HS Ow (some ⟨G5.heap.size,0,none⟩) 1 [s]:=iL G5 s;clear_value Ow;have ahk:=CK.size;have Iy:Kept Nil mu Ow:=(AT.trans Ix (fun k hk e=>by omega)).tt Pe;have Pm:=CK.tt Iy;refine wv (hG Pm) W (by omega) (hT.same Pm) aal (by omega) fun A32 Xb uL MF G6=>⟨A32,_,Xb,rfl,?_⟩;have Z6:=Pm.tt G6;have abv:fR uL mu.heap.size (fun z=>if z=s then some (.agg #[.bool true])else none):=(U0.aF Pe (fun h=>h)).aF G6 (fun h=>h);have p1:=nO D fun a=>∃z∈ [s],fy D a z
 change (eB D [s]).length<=_ at p1
 have ael:=Iy.size;have ob1:=U0.lt;have s30:=Pe.size;have Np:∀y,y∈eB D [s]↔fy D y s:=fun y=>by
  unfold eB;rw [jS];constructor
  ·rintro⟨_,z,hz,e⟩
   rw [List.mem_singleton]at hz
   rwa [hz]at e
  ·exact fun e=>⟨(e.mem W).1,s,by simp,e⟩
 have ahP:∀k,k=mu.heap.size->¬k<w.heap.size:=fun k e=>by omega
 refine aE.cy (I:=fun i v=>∃(q:Nat) (f:HT->Option Value),i=(q:Int)/\q<=(eB D [s]).length/\fR v mu.heap.size f/\(∀y,(y=s\/y∈(eB D [s]).take q->f y=some (.agg #[.bool true]))/\(¬(y=s\/y∈(eB D [s]).take q)->f y=none))/\Kept (· =mu.heap.size) uL v)
  (μ:=fun i _=>(((eB D [s]).length:Int)-i).toNat) (s:=0) ⟨0,_,rfl,Nat.zero_le _,abv,fun y=>⟨fun e=>by
    rcases e with e|e
    ·rw [if_pos e]
    ·simp at e,fun e=>if_neg fun e'=>e (.inl e')⟩,Kept.refl _ _⟩ ?_
 rintro i v ⟨q,f,rfl,hq,hmv,VE,kv⟩;have AY:Kept Nil w v:=Z6.trans kv (fun k hk e=>by omega);refine Split.dec (fun jN=>?_) (fun gH=>?_)
 ·have dV:q<(eB D [s]).length:=by omega
  obtain⟨y,hy⟩:∃y,(eB D [s])[q]? =some y:=⟨_,List.getElem?_eq_getElem dV⟩;have Fz:=bK.hs (Row.aF MF kv (fun k hk e=>by have:=(Row.bI MF hk).1;omega));refine Fz.load (i:=(q:Int)) (by omega) (by rw [Int.toNat_natCast];exact hy) ?_;intro My;obtain⟨tu,jP,ko⟩:=iu (w:=v) (z:=(#[.int .u8 0,.int .u8 0,.int .u8 0,.int .u8 0,.int .u8 0,.int .u8 0,.int .u8 0,.int .u8 0,.int .u8 0,.int .u8 0,.int .u8 0,.int .u8 0,.int .u8 0,.int .u8 0,.int .u8 0,.int .u8 0,.int .u8 0,.int .u8 0,.int .u8 0,.int .u8 0,.int .u8 0,.int .u8 0,.int .u8 0,.int .u8 0,.int .u8 0,.int .u8 0,.int .u8 0,.int .u8 0,.int .u8 0,.int .u8 0,.int .u8 0,.int .u8 0]:Array Value)) (cs:=y.1) (t:=ah) (by rw [y.2.1];rfl);refine⟨⟨y.2.1,y.2.one,fun j hj=>tu j (by rw [y.2.1];exact hj)⟩,?_⟩;intro Zd
  replace jP:Zd.heap[v.heap.size]? =some (.cells y.1 ah (0,0)):=jP
  replace ko:Kept Nil v Zd:=ko
  clear_value Zd;obtain⟨Hv,P3,abt,XO⟩:=(hmv.aF ko (fun h=>h)).put Ia y (.agg #[.bool true]);refine⟨y.1,⟨y.2.1,Cells.bI jP⟩,Hv,P3,?_⟩;rw [dW (n:=(q:Int)) (by omega) (by omega)];refine⟨(q:Int)+1,rfl,⟨q+1,_,rfl,dV,abt,fun z=>?_,(kv.trans ko (fun _ _ h=>h.elim)).tt XO⟩,by simp only;omega⟩;rw [bO hy];constructor
  ·intro e
   by_cases hz:z=y
   ·rw [if_pos hz]
   ·rw [if_neg hz]
    exact(VE z).1 (e.imp (fun h=>h) (fun h=>h.resolve_right hz))
  ·intro e
   rw [if_neg (fun hz=>e (.inr (.inr hz)))];exact(VE z).2 (fun e'=>e (e'.imp (fun h=>h) (fun h=>.inl h)))
 ·have hqe:q=(eB D [s]).length:=by omega
  subst hqe;rw [List.take_of_length_le (Nat.le_refl _)]at VE;rw [aR,aE.Om];unfold aE.GX;have Iw:Kept (· =mu.heap.size) mu v:=((Iy.tt G6).mono (S':=(· =mu.heap.size)) (fun _ _ h=>h.elim)).tt kv;have Yh:v.heap[w.heap.size]? =some (.cells hid.1 ah (0,0)):=Iw.heap (Lh.heap Yi (fun h=>h)) (fun e=>by omega);have Gj:v.heap[w5.heap.size]? =some (.cells s.1 ah (0,0)):=Iw.heap (Lh.heap Lv (fun h=>h)) (fun e=>by omega);have sv:=AY.size;have s2v:=Iw.size;refine⟨hid.1,⟨hid.2.1,Cells.bI Yh⟩,?_⟩;refine Ml (hG AY) W (by omega) (hl.same AY) (by omega) hid fun G0 S2 F2 WJ Gb QW Q0=>⟨_,rfl,?_⟩;rw [qd eC]at WJ;have K5:∀k,m.SG k->k<w.heap.size:=fun k e=>h.low k (.inl (.inl e));have s64:=Gb.size;have Qr:=Gb.heap Yh (fun e=>by have:=K5 _ e;omega);have Uf:=Gb.heap Gj (fun e=>by have:=K5 _ e;omega);have abr:=hmv.aF Gb (fun e=>by have:=K5 _ e;omega);refine⟨hid.1,⟨hid.2.1,Cells.bI Qr⟩,hid.2.1,?_⟩;intro Ht;have MR:Kept Nil G0 Ht:=(Kept.refl _ _).alloc _;have aah:HS Ht (some ⟨G0.heap.size,0,none⟩) 1 [hid]:=iL G0 hid;clear_value Ht;have xf:∀p∈dw lp,p∈ids D:=fun p hp=>di p (dM.1 hp);have W':j0 (D++ [⟨hid,dw lp⟩]):=W.snoc (nd:=⟨hid,dw lp⟩) fJ xf (jh lp);obtain⟨bl',c',S9,M',YU⟩:=WJ;have OZ:∀k,m.own x k->k<w.heap.size:=fun k e=>h.low k (.inl (.inr (.inr (.inr e))));have hTv:tJ G0:=(hT.same AY).aF Gb KE;refine wv (YU.same MR) W' (by simp;omega) (hTv.same MR) aah (by omega) fun A69 c69 DQ HP BW=>⟨A69,_,c69,rfl,?_⟩;have xT:=MR.tt BW;have aei:=xT.size;have p2:=nO (D++ [⟨hid,dw lp⟩]) fun a=>∃z∈ [hid],fy (D++ [⟨hid,dw lp⟩]) a z
  change (eB (D++ [⟨hid,dw lp⟩]) [hid]).length<=_ at p2
  rw [List.length_append,List.length_singleton]at p2;have CZ:∀y,y∈eB (D++ [⟨hid,dw lp⟩]) [hid]↔fy (D++ [⟨hid,dw lp⟩]) y hid:=fun y=>by
   unfold eB;rw [jS];constructor
   ·rintro⟨_,z,hz,e⟩
    rw [List.mem_singleton]at hz
    rwa [hz]at e
   ·exact fun e=>⟨(e.mem W').1,hid,by simp,e⟩
  have lQ:Kept (fun k=>m.SG k) w DQ:=((AY.mono (S':=fun k=>m.SG k) (fun _ _ h=>h.elim)).tt Gb).trans xT (fun _ _ h=>h.elim);have OX:∀k,m.own x k->¬m.SG k:=fun k e=>(h.od k e).1;have Sq:=lQ.heap h.top (OX _ (.inl rfl));have gB:(eB (D++ [⟨hid,dw lp⟩]) [hid]).Nodup:=(jh _).nodup;obtain⟨f0,acj,acm⟩:=h.YL;have aeF:∀k,m.own x k->¬(k=m.cb)\/k=m.cb:=fun k _=>(Classical.em _).symm;have uC:m.own x m.cb:=.inr (.inr (.inr rfl));have Tf:=OZ _ uC;generalize rL:eB (D++ [⟨hid,dw lp⟩]) [hid]=pl at HP p2 CZ gB⊢;refine aE.iq (I:=fun i u=>∃q:Nat,i=(q:Int)/\q<=pl.length/\Kept (· =m.cb) DQ u/\∃f,fR u m.cb f/\∀y,∃l,oX u (fun k=>m.SO k\/(DQ.heap.size<=k/\k<u.heap.size)) (D.length+if y∈pl.take q then 1 else 0) (f y) l/\∀c,c∈l↔Oi D P y c\/(c=hid/\y∈pl.take q/\y≠s/\¬fy D y s))
   (μ:=fun i _=>((pl.length:Int)-i).toNat) (s:=0) ⟨0,rfl,Nat.zero_le _,Kept.refl _ _,f0,acj.aF lQ (OX _ uC),fun y=>?_⟩ ?_
  ·obtain⟨l,h1,h2⟩:=acm y
   refine⟨l,?_,fun c=>?_⟩
   ·rcases h1.aF lQ (fun k e e'=>(h.gt k e').2 e)with h3|⟨A,n,c,g1,g2,g3,g4,g5⟩
    ·exact .inl h3
    ·exact .inr ⟨A,n,c,g1,g2,g3,by omega,fun a ha=>.inl (g5 a ha)⟩
   ·rw [h2]
    simp
  ·rintro i u ⟨q,rfl,RL,ku,VQ⟩
   refine GU h hD lQ.size Sq (xT.heap Qr (fun h=>h)) (Nat.le_refl _) ((abr.aF MR (fun h=>h)).aF BW (fun h=>h)) (by omega) rfl
    (fun y=>⟨fun e=>(VE y).1 (e.imp (fun h=>h) (fun h=>(Np y).2 h)),fun e=>(VE y).2 (fun e'=>e (e'.imp (fun h=>h) (fun h=>(Np y).1 h)))⟩)
    (Row.base HP (fun b hb=>by have:=(Row.bI HP hb).1;have:=MR.size;omega)) (by omega) ku RL (Z:=fun _ _=>True) VQ gB (hid:=hid) (s:=s) (D':=D) (ps:= []) (fun v' kv' acb cU=>?_) (fun hqe=>?_)
   ·exact⟨(q:Int)+1,rfl,⟨q+1,rfl,cU,kv',acb⟩,by simp only;omega⟩
   ·subst hqe
    rw [aR];unfold aE.e2;rw [aE.Y2];rw [List.take_of_length_le (Nat.le_refl _)]at VQ;have Io:Kept (fun k=>m.SG k\/k=m.cb) w u:=(lQ.mono (S':=fun k=>m.SG k\/k=m.cb) (fun _ _ h=>.inl h)).trans ku (fun _ _ h=>.inr h);have su:=ku.size;obtain⟨Ru,SV,OW,SU,Rt,SQ⟩:=h.ne;have K6:∀k,F k->k<w.heap.size:=fun k e=>h.low k (.inr e);have ac6:GV DQ S2 F2 m.g (D++ [⟨hid,dw lp⟩]) (gU (D++ [⟨hid,dw lp⟩])) bl' c' S9 M':=YU.same xT;have nS2:∀k,S2 k->¬k=m.cb:=fun k h1 e=>by
     rcases QW k h1 with h2|h2
     ·exact(h.od _ uC).1 (e▸h2)
     ·omega
    have nF2:∀k,F2 k->¬k=m.cb:=fun k h1 e=>by
     rcases Q0 k h1 with h2|h2
     ·exact(h.od _ uC).2.2.2 (e▸h2)
     ·omega
    have zq:∀k,m.own x k->k≠m.cb->¬(m.SG k\/k=m.cb):=fun k e fL e'=>e'.elim (OX k e) fL;refine JY (s1:=G0.heap.size) (s2:=DQ.heap.size) (S2:=S2) (F2:=F2) (SO2:=fun k=>m.SO k\/(DQ.heap.size<=k/\k<u.heap.size)) (mj:=mj) h hD fJ xf (jh lp) hj Qb (dM.2 vT) (Io.heap h.top (zq _ (.inl rfl) OW))
     (Nat.le_refl _) (by omega) (ku.heap (xT.heap Qr (fun h=>h)) (fun e=>by omega)) (ku.heap (xT.heap Uf (fun h=>h)) (fun e=>by omega)) ⟨bl',c',S9,M',ac6.aF ku nS2 nF2⟩
     (h.T.aF Io (fun k e e'=>e'.elim (fun e'=>(h.gt k e').1 e) (fun e'=>(h.od _ uC).2.1 (e'▸e)))) (h.at_.aF Io (zq _ (.inr (.inl rfl)) Rt)) (Row.aF h.row Io (fun k e=>by cases e;exact zq _ (.inr (.inr (.inl rfl))) SQ))
     ?_ (by omega) (by omega) su (fun k e=>⟨(QW k e).imp (fun h=>h) (fun h=>by omega),YU.low k (.inl e)⟩) (fun k e=>⟨(Q0 k e).imp (fun h=>h) (fun h=>by omega),YU.low k (.inr e)⟩) (fun k e=>e)
     (Io.mono (S':=fun k=>m.la x k) (fun k _ e=>e.elim (fun e=>.inl e) (fun e=>.inr (.inr (.inr (.inr (.inr (.inr e)))))))) (fun u2 S' F' hI kU hSu NU=>?_)
    ·obtain⟨f,hf,hc⟩:=VQ
     refine⟨f,hf,fun y=>?_⟩;obtain⟨l,h1,h2⟩:=hc y;refine⟨l,?_,fun c=>?_⟩
     ·rcases h1 with h3|⟨A,n,c,g1,g2,g3,g4,g5⟩
      ·exact .inl h3
      ·refine .inr ⟨A,n,c,g1,g2,g3,?_,g5⟩
       split at g4<;>omega
     ·rw [h2,JM W h.iY (nd:=⟨hid,dw lp⟩) fJ xf hj,Qb]
      constructor
      ·rintro(h3|⟨h3,h4,h5,h6⟩)
       ·exact .inl h3
       ·exact .inr ⟨h3,(CZ y).1 h4,h5,h6⟩
      ·rintro(h3|⟨h3,h4,h5,h6⟩)
       ·exact .inl h3
       ·exact .inr ⟨h3,(CZ y).2 h4,h5,h6⟩
    ·refine A9 u2 S' F' ?_ kU hSu NU eX
     rw [eD,eP];exact hI
end
def dX:HT:=hx 0 (by decide)
def cI(D:DG)(P:List Int)(h:HT)(l:List HT):Prop:=(h∉ids D/\l= [])\/∃(i:Nat) (nd:DN) (ks:List Nat),D[i]? =some nd/\nd.id=h/\Up P i ks/\l=ks.map (mJ D)
theorem mI{D:DG}{i:Nat}{nd:DN}(h:D[i]? =some nd):mJ D i=nd.id:=by unfold mJ;rw [h]
theorem cI.ex{D:DG}{P:List Int}(H:rO D P)(h:HT):∃l,cI D P h l:=by
 by_cases hm:h∈ids D
 ·obtain⟨nd,gB,e⟩:=dp.1 hm
  obtain⟨i,hi⟩:=List.mem_iff_getElem?.1 gB;obtain⟨ks,hk⟩:=Up.ex H.par i (by rw [H.len];exact(lgeS hi).1);exact⟨_,.inr ⟨i,nd,ks,hi,e,hk,rfl⟩⟩
 ·exact⟨[],.inl ⟨hm,rfl⟩⟩
theorem cI.mem{D:DG}{P:List Int}(W:j0 D)(H:rO D P){h:HT}{l:List HT}(c:cI D P h l){a:HT}:a∈l↔Ch D P a h:=by
 rcases c with⟨h1,rfl⟩|⟨i,nd,ks,h1,rfl,h3,rfl⟩
 ·simp only [List.not_mem_nil,false_iff]
  exact fun e=>h1 e.mem.2
 ·have dV:i<P.length:=by rw [H.len];exact(lgeS h1).1
  rw [List.mem_map];constructor
  ·rintro⟨k,hk,rfl⟩
   have hu:=(h3.mem H.par dV).1 hk;have B8:=hu.XF;rw [H.len]at B8;obtain⟨nk,LI⟩:∃nk,D[k]? =some nk:=⟨_,List.getElem?_eq_getElem B8⟩;exact⟨i,k,nd,nk,h1,rfl,LI,(mI LI).symm,hu⟩
  ·rintro⟨i',k,ni,nk,g1,g2,g3,g4,g5⟩
   have:=W.inj g1 h1 g2;subst this;exact⟨k,(h3.mem H.par dV).2 g5,by rw [mI g3,g4]⟩
theorem cI.one{D:DG}{P:List Int}(W:j0 D)(H:rO D P){h:HT}{l l':List HT}(c:cI D P h l)(c':cI D P h l'):l=l':=by
 rcases c with⟨h1,rfl⟩|⟨i,nd,ks,h1,h2,h3,rfl⟩
 ·rcases c' with⟨_,rfl⟩|⟨i,nd,ks,g1,g2,_,_⟩
  ·rfl
  ·exact absurd (dp.2 ⟨nd,List.mem_of_getElem? g1,g2⟩) h1
 ·rcases c' with⟨g1,rfl⟩|⟨i',nd',ks',g1,g2,g3,rfl⟩
  ·exact absurd (dp.2 ⟨nd,List.mem_of_getElem? h1,h2⟩) g1
  ·have:=W.inj h1 g1 (by rw [h2,g2])
   subst this;rw [Up.one H.par h3 g3]
section
variable{w w':World}{F S:Nat->Prop}{x:Nat}{D:DG}{P:List Int}{m:XM}{K:Value->World->Prop}
theorem XV.OO(h:XV w F x D P m){i:Nat}{nd:DN}(hi:D[i]? =some nd):Cells w ((⟨m.ib,0,none⟩:Addr).add (i*32)) nd.id.1:=by
 obtain⟨a,ha,_,hc⟩:=(bK.hs h.row).at_ i nd.id (qu hi);cases ha;exact hc
theorem XV.H5(h:XV w F x D P m){i:Nat}{nd:DN}(hi:D[i]? =some nd):∃td,m.T[i]? =some td/\P[i]? =some td.parent:=by
 have dV:=(lgeS hi).1;obtain⟨td,X1⟩:=Tr.gu (T:=m.T) (i:=i) (by rw [h.OH];exact dV);exact⟨td,X1,by rw [<-h.bW];exact Tr.lP X1⟩
theorem pH(a:HT)(hK:∀w' pb qb,Kept Nil w w'->w'.heap[pb]? =some (.cells #[.pointer (some ⟨x,0,none⟩)] gA (0,0))->w'.heap[qb]? =some (.cells a.1 ah (0,0))->w.heap.size<=pb->w.heap.size<=qb->K (.func (.func aW.id) #[] #[.pointer (some ⟨pb,0,none⟩),.pointer (some ⟨qb,0,none⟩)]) w'):
 bu prog fY.id #[.pointer (some ⟨x,0,none⟩),.agg a.1] w K:=by
 refine fY.of ?_;unfold fY.W;intro w3 w4;have k3:Kept Nil w w3:=(Kept.refl _ _).alloc _;have hp3:w3.heap[w.heap.size]? =some (.cells #[.pointer (some ⟨x,0,none⟩)] gA (0,0)):=aI w _;have k4:Kept Nil w3 w4:=(Kept.refl _ _).alloc _;have hq4:w4.heap[w3.heap.size]? =some (.cells a.1 ah (0,0)):=aI w3 _;clear_value w4;exact hK w4 _ _ (k3.tt k4) (k4.heap hp3 (fun h=>h)) hq4 (Nat.le_refl _) k3.size
theorem yv{pb qb:Nat}{a:HT}{l:List HT}(hl:cI D P a l)(hD:D.length<=5000):
 om prog aW.id #[] #[.pointer (some ⟨pb,0,none⟩),.pointer (some ⟨qb,0,none⟩)] (l.map sE) (fun w=>XV w F x D P m/\w.heap[pb]? =some (.cells #[.pointer (some ⟨x,0,none⟩)] gA (0,0))/\w.heap[qb]? =some (.cells a.1 ah (0,0))):=by
 intro y I Q w0 hI hQ oE h0 oD;obtain⟨hX,LF,No⟩:=oE 0 w0 h0;have W:=hX.W;have nt:=hX.iY;refine aW.of ?_;unfold aW.W;refine⟨_,by rw [aD LF];rfl,a.1,⟨a.2.1,Cells.bI No⟩,a.2.1,?_⟩;intro w6;have k6:Kept Nil w0 w6:=(Kept.refl _ _).alloc _;have qJ:HS w6 (some ⟨w0.heap.size,0,none⟩) 1 [a]:=iL w0 a;clear_value w6;refine qp (hX.same k6) qJ (by omega) fun w8 k8=>⟨_,rfl,?_⟩;have uQ:=k6.tt k8;rcases hl with⟨lH,rfl⟩|⟨i,nd,ks,hi,hid,hup,rfl⟩
 ·exact Split.yes (by rw [decide_eq_false (by simpa using lH)];rfl) (.inl (hI 0 w0 w8 h0 uQ))
 ·have hm:a∈ids D:=dp.2 ⟨nd,List.mem_of_getElem? hi,hid⟩
  refine Split.no (by rw [decide_eq_true (by simpa using hm)];rfl) ?_;intro w10;have lh:Kept Nil w8 w10:=(Kept.refl _ _).drew;clear_value w10;have CL:=uQ.tt lh;have wK:=hX.same CL;have lk:=wK.at_.xQ a;rw [<-hid,W.pos_eq hi]at lk;rw [hid]at lk;refine⟨some ⟨x,0,none⟩,by rw [aD (CL.heap LF (fun h=>h))];rfl,_,wK.c2,a.1,⟨a.2.1,Cells.bI (CL.heap No (fun h=>h))⟩,_,lk,?_⟩;have dV:i<P.length:=by rw [nt.len];exact(lgeS hi).1
  have Uz:=nt.par;refine aW.cy (I:=fun s v=>∃(k:Nat) (dn rs:List Nat),s=(k:Int)/\ks=dn++rs/\Up P k rs/\k<P.length/\I dn.length v) (μ:=fun s _=>s.toNat) (s:=((i:Nat):Int)) ⟨i,[],ks,rfl,rfl,hup,dV,hI 0 w0 w10 h0 CL⟩ ?_;rintro s v ⟨k,dn,rs,rfl,Qi,XZ,B8,hv⟩;obtain⟨hXv,hpv,hqv⟩:=oE _ v hv;rw [nt.len]at B8;obtain⟨nk,LI⟩:∃nk,D[k]? =some nk:=⟨_,List.getElem?_eq_getElem B8⟩;refine⟨some ⟨x,0,none⟩,by rw [aD hpv];rfl,_,_,_,hXv.c3,⟨by omega,by omega⟩,nk.id.1,⟨nk.id.2.1,by rw [Int.toNat_natCast];exact hXv.OO LI⟩,?_⟩;have gS:((ks.map (mJ D)).map sE)[dn.length]? =some (sE nk.id):=by
   rw [List.getElem?_map,List.getElem?_map,Qi,List.getElem?_append_right (Nat.le_refl _),Nat.sub_self,XZ.head];simp [mI LI]
  refine(oD dn.length (sE nk.id) v gS hv).mono ?_;rintro b v' ⟨ht,hf⟩;cases b with
  |false=>
   refine Split.no rfl ?_;rw [aR,aW.df];exact .inr (hf rfl)
  |true=>
   refine Split.yes rfl ?_;have WI:=ht rfl;cases XZ with
   |root=>
    refine Split.no rfl ?_;rw [aR,aW.df];refine .inl ?_;rw [List.length_map,List.length_map,Qi,List.length_append];exact WI
   | @step _ j Zq hj IS=>
     have Vl:=(Tr.iE Uz (Tr.eA.2 hj)).1;refine Split.yes (decide_eq_true (by omega)) ?_;obtain⟨QV,aa5,_⟩:=oE _ v' WI;obtain⟨td,X1,htp⟩:=QV.H5 LI;rw [hj]at htp;have aay:(j:Int)=td.parent:=by simpa using htp
     refine⟨some ⟨x,0,none⟩,by rw [aD aa5];rfl,_,QV.c1,Tr.zO QV.T X1 (by omega) ⟨_,_,rfl,?_⟩⟩;rw [<-aay];refine⟨(j:Int),rfl,⟨j,dn++ [k],Zq,rfl,by rw [Qi];simp,IS,by rw [nt.len];omega,?_⟩,by simp only;omega⟩;rw [List.length_append];exact WI
end
structure XN(w v:World)(r:HT)(own:Nat->Nat)(G T E I Z:Option Nat)(l:List HT):Prop where
 kp:Kept Nil w v
 gr:∀g,G=some g->∃SG,DL v SG (fun _=>False) g [⟨r,[]⟩]/\∀k,SG k->w.heap.size<=k/\own k=1
 tr:∀t,T=some t->∃ST,Tr.ph v ST t Tr.qN 0/\∀k,ST k->w.heap.size<=k/\k<v.heap.size/\own k=2
 mp:∀b,E=some b->w.heap.size<=b/\own b=3/\IsMap v b l
 il:∀b,I=some b->w.heap.size<=b/\own b=4/\v.heap[b]? =some (.cells (r.1.toList++ []).toArray ah (0,0))
 cv:∀b,Z=some b->w.heap.size<=b/\own b=5/\fR v b (fun _=>none)
def tag(n t:Nat)(own:Nat->Nat)(k:Nat):Nat:=if n<=k then t else own k
theorem rQ{n t k:Nat}{own:Nat->Nat}(h:k<n):tag n t own k=own k:=by unfold tag;rw [if_neg (by omega)]
theorem rR{n t k:Nat}{own:Nat->Nat}(h:n<=k):tag n t own k=t:=by unfold tag;rw [if_pos h]
section
variable{w v v':World}{r:HT}{own:Nat->Nat}{G T E I Z:Option Nat}{l:List HT}{K:Value->World->Prop}
theorem XN.grow(h:XN w v r own G T E I Z l)(t:Nat)(k:Kept Nil v v'):XN w v' r (tag v.heap.size t own) G T E I Z l:=by
 have hs:=k.size;refine⟨h.kp.tt k,fun g e=>?_,fun g e=>?_,fun b e=>?_,fun b e=>?_,fun b e=>?_⟩
 ·obtain⟨SG,h1,h2⟩:=h.gr g e
  exact⟨SG,h1.same k,fun q hq=>⟨(h2 q hq).1,by rw [rQ (by obtain⟨bl,c,mb,M,G⟩:=h1;exact G.low q (.inl hq))];exact(h2 q hq).2⟩⟩
 ·obtain⟨ST,h1,h2⟩:=h.tr g e
  exact⟨ST,h1.same k,fun q hq=>⟨(h2 q hq).1,by have:=(h2 q hq).2.1;omega,by rw [rQ (h2 q hq).2.1];exact(h2 q hq).2.2⟩⟩
 ·obtain⟨h1,h2,h3⟩:=h.mp b e
  exact⟨h1,by rw [rQ h3.lt];exact h2,h3.aF k (fun h=>h)⟩
 ·obtain⟨h1,h2,h3⟩:=h.il b e
  exact⟨h1,by rw [rQ (aQ h3)];exact h2,k.heap h3 (fun h=>h)⟩
 ·obtain⟨h1,h2,h3⟩:=h.cv b e
  exact⟨h1,by rw [rQ h3.lt];exact h2,h3.aF k (fun h=>h)⟩
theorem XN.dz(h:XN w v r own none T E I Z l){gb:Nat}(hG:DL v' (fun k=>v.heap.size<=k/\k<v'.heap.size) (fun _=>False) gb [⟨r,[]⟩])(k:Kept Nil v v'):XN w v' r (tag v.heap.size 1 own) (some gb) T E I Z l:=by
 have g:=h.grow 1 k;refine⟨g.kp,?_,g.tr,g.mp,g.il,g.cv⟩;intro g' e;cases e;have:=h.kp.size;exact⟨_,hG,fun q hq=>⟨by omega,rR hq.1⟩⟩
theorem XN.uG(h:XN w v r own G none E I Z l){t:Nat}(hT:Tr.ph v' (fun k=>v.heap.size<=k) t Tr.qN 0)(k:Kept Nil v v'):XN w v' r (tag v.heap.size 2 own) G (some t) E I Z l:=by
 have g:=h.grow 2 k;refine⟨g.kp,g.gr,?_,g.mp,g.il,g.cv⟩;intro t' e;cases e;have:=h.kp.size;exact⟨_,tL hT,fun q hq=>⟨by omega,hq.2,rR hq.1⟩⟩
theorem XN.uH(h:XN w v r own G T none I Z []):XN w (v.alloc (.map #[] 0)) r (tag v.heap.size 3 own) G T (some v.heap.size) I Z []:=by
 have g:=h.grow 3 ((Kept.refl Nil v).alloc (.map #[] 0));refine⟨g.kp,g.gr,g.tr,?_,g.il,g.cv⟩;intro b e;cases e;exact⟨h.kp.size,rR (Nat.le_refl _),⟨#[],0,aI v _,trivial⟩⟩
theorem XN.o6(h:XN w v r own G T E none Z l):XN w (v.alloc (.cells (r.1.toList++ []).toArray ah)) r (tag v.heap.size 4 own) G T E (some v.heap.size) Z l:=by
 have g:=h.grow 4 ((Kept.refl Nil v).alloc (.cells (r.1.toList++ []).toArray ah));refine⟨g.kp,g.gr,g.tr,g.mp,?_,g.cv⟩;intro b e;cases e;exact⟨h.kp.size,rR (Nat.le_refl _),aI v _⟩
theorem XN.o5(h:XN w v r own G T E I none l):XN w (v.alloc (.map #[] 0)) r (tag v.heap.size 5 own) G T E I (some v.heap.size) l:=by
 have g:=h.grow 5 ((Kept.refl Nil v).alloc (.map #[] 0));refine⟨g.kp,g.gr,g.tr,g.mp,g.il,?_⟩;intro b e;cases e;exact⟨h.kp.size,rR (Nat.le_refl _),fR.new v⟩
theorem XN.put{mb:Nat}(h:XN w v r own G T (some mb) I Z []):∃v',(Instr.mapUpdate cK (.map (some mb)) (.agg r.1) (.int .i64 0)).run prog v=.ok () v'/\XN w v' r own G T (some mb) I Z [r]:=by
 obtain⟨h1,h2,h3⟩:=h.mp mb rfl;obtain⟨v',hr,hm,hk⟩:=h3.put (h:=r) (by simp);refine⟨v',hr,(h.kp.trans hk (fun k hk e=>by omega)),fun g e=>?_,fun g e=>?_,fun b e=>?_,fun b e=>?_,fun b e=>?_⟩
 ·obtain⟨SG,g1,g2⟩:=h.gr g e
  exact⟨SG,g1.aF hk (fun q hq e=>by have:=(g2 q hq).2;rw [e,h2]at this;cases this) (fun q hq=>hq.elim),g2⟩
 ·obtain⟨ST,g1,g2⟩:=h.tr g e
  exact⟨ST,g1.aF hk (fun q hq e=>by have:=(g2 q hq).2.2;rw [e,h2]at this;cases this),fun q hq=>⟨(g2 q hq).1,Nat.lt_of_lt_of_le (g2 q hq).2.1 hk.size,(g2 q hq).2.2⟩⟩
 ·cases e
  exact⟨h1,h2,hm⟩
 ·obtain⟨g1,g2,g3⟩:=h.il b e
  exact⟨g1,g2,hk.heap g3 (fun e=>by rw [e,h2]at g2;cases g2)⟩
 ·obtain⟨g1,g2,g3⟩:=h.cv b e
  exact⟨g1,g2,g3.aF hk (fun e=>by rw [e,h2]at g2;cases g2)⟩
theorem XN.fin{g t mb ib cb:Nat}{w0:World}(h:XN w v r own (some g) (some t) (some mb) (some ib) (some cb) [r])(hw:w0.heap.size<=w.heap.size):
 DK (v.alloc (.cells #[.pointer (some ⟨g,0,none⟩),.pointer (some ⟨t,0,none⟩),.map (some mb),.slice (some ⟨ib,0,none⟩) 1 1,.map (some cb)] eR)) (fun k=>w0.heap.size<=k/\k<(v.alloc (.cells #[.pointer (some ⟨g,0,none⟩),.pointer (some ⟨t,0,none⟩),.map (some mb),.slice (some ⟨ib,0,none⟩) 1 1,.map (some cb)] eR)).heap.size) (fun _=>False) v.heap.size [⟨r,[]⟩] [-1]:=by
 have jx:=aI v (.cells #[.pointer (some ⟨g,0,none⟩),.pointer (some ⟨t,0,none⟩),.map (some mb),.slice (some ⟨ib,0,none⟩) 1 1,.map (some cb)] eR);have kx:=(Kept.refl Nil v).alloc (.cells #[.pointer (some ⟨g,0,none⟩),.pointer (some ⟨t,0,none⟩),.map (some mb),.slice (some ⟨ib,0,none⟩) 1 1,.map (some cb)] eR);have hx:=aQ jx;generalize v.alloc (.cells #[.pointer (some ⟨g,0,none⟩),.pointer (some ⟨t,0,none⟩),.map (some mb),.slice (some ⟨ib,0,none⟩) 1 1,.map (some cb)] eR)=u at jx kx hx;obtain⟨SG,hG,gG⟩:=h.gr g rfl;obtain⟨ST,hT,gT⟩:=h.tr t rfl;obtain⟨m1,m2,m3⟩:=h.mp mb rfl;obtain⟨i1,i2,i3⟩:=h.il ib rfl;obtain⟨c1,c2,c3⟩:=h.cv cb rfl;have oF:∀k,SG k->k<v.heap.size:=fun k e=>by obtain⟨bl,c,mb,M,G⟩:=hG;exact G.low k (.inl e)
 have sw:=h.kp.size;have lm:=m3.lt;have li:=aQ i3;have lc:=c3.lt;have Dc:∀ {a b:HT},¬fy [(⟨r,[]⟩:DN)] a b:=Af r;refine⟨⟨g,t,mb,ib,1,cb,Tr.qN,0,SG,ST,fun _=>False⟩,⟨jx,hG.same kx,hT.same kx,Tr.Cx,rfl,⟨Int.le_refl 0,by show(0:Int)<=_;simp⟩,m3.aF kx (fun h=>h),?_,⟨_,c3.aF kx (fun h=>h),fun y=>⟨[],.inl ⟨rfl,rfl⟩,fun c=>?_⟩⟩,?_,j0.root r,?_,?_,?_,?_,?_,?_⟩,?_⟩
 ·have e:c9 [r]=(r.1.toList++ []).toArray.toList:=by simp [c9]
  show Row _ _ _ _ _ _ _ (c9 [r])
  rw [e];exact Row.made (kx.heap i3 (fun h=>h)) (Nat.zero_le _) (by simp [r.2.1]) (by show 1<=maxLen;decide)
 ·simp only [List.not_mem_nil,false_iff]
  exact fun hc=>Dc hc.1
 ·refine⟨rfl,rfl,fun i p nd hi hp=>?_⟩
  cases i with
  |zero=>omega
  |succ i=>simp at hp
 ·exact fun k e=>⟨fun e'=>by have:=(gG k e).2;have:=(gT k e').2.2;omega,fun e'=>e'.elim⟩
 ·exact fun k e e'=>e'.elim
 ·exact fun k e=>e.elim
 ·intro k e
  have key:v.heap.size<=k\/3<=own k:=by
   rcases e with e|e|e|e
   ·exact .inl (by omega)
   ·exact .inr (by have e:k=mb:=e;rw [e];omega)
   ·exact .inr (by have e:k=ib:=e;rw [e];omega)
   ·exact .inr (by have e:k=cb:=e;rw [e];omega)
  refine⟨fun e'=>?_,fun e'=>?_,fun e'=>e'.elim,fun e'=>e'.elim⟩
  ·have h1:=(gG k e').2
   have h2:=oF k e';omega
  ·have h1:=(gT k e').2.2
   have h2:=(gT k e').2.1;omega
 ·refine⟨by show v.heap.size≠mb;omega,by show v.heap.size≠ib;omega,by show v.heap.size≠cb;omega,fun e=>?_,fun e=>?_,fun e=>?_⟩
  ·have e:mb=ib:=e
   rw [e]at m2;omega
  ·have e:mb=cb:=e
   rw [e]at m2;omega
  ·have e:ib=cb:=e
   rw [e]at i2;omega
 ·intro k e
  rcases e with e|e
  ·rcases e with e|e|e|e
   ·have:=oF k e;omega
   ·have:=(gT k e).2.1;omega
   ·exact e.elim
   ·rcases e with e|e|e|e
    ·omega
    ·have e:k=mb:=e;omega
    ·have e:k=ib:=e;omega
    ·have e:k=cb:=e;omega
  ·exact e.elim
 ·intro k e
  rcases e with e|e|e|e
  ·have:=oF k e;have:=(gG k e).1;omega
  ·have:=(gT k e).1;have:=(gT k e).2.1;omega
  ·exact e.elim
  ·rcases e with e|e|e|e
   ·omega
   ·have e:k=mb:=e;omega
   ·have e:k=ib:=e;omega
   ·have e:k=cb:=e;omega
structure XD(w o:World)(r:HT)(K:Value->World->Prop):Prop where
 cs:∀ {v:World},Kept Nil o v->∃cs:Array Value,(.agg r.1:Value)=.agg cs/\cs.size=32/\Cells v (⟨w.heap.size,0,none⟩:Addr) cs
 fin:∀ {v:World} {own:Nat->Nat} {g t mb ib cb:Nat},XN o v r own (some g) (some t) (some mb) (some ib) (some cb) [r]->K (.pointer (some ⟨v.heap.size,0,none⟩)) (v.alloc (.cells #[.pointer (some ⟨g,0,none⟩),.pointer (some ⟨t,0,none⟩),.map (some mb),.slice (some ⟨ib,0,none⟩) 1 1,.map (some cb)] eR))
end
section
variable{w o v e i z:World}{r:HT}{own:Nat->Nat}{g t:Nat}{K:Value->World->Prop}
theorem n1(D:XD w o r K)(h:XN o v r own (some g) (some t) (some e.heap.size) (some i.heap.size) (some z.heap.size) [r]):ax.N1 (some ⟨g,0,none⟩) (some ⟨t,0,none⟩) e i z K v:=by
 unfold ax.N1;exact D.fin h
theorem n2(D:XD w o r K)(h:XN o v r own (some g) (some t) (some e.heap.size) (some i.heap.size) none [r]):ax.N2 (some ⟨g,0,none⟩) (some ⟨t,0,none⟩) e i K v:=by
 unfold ax.N2;exact let n:=h.o5;n1 D n
theorem n3(D:XD w o r K)(h:XN o v r own (some g) (some t) (some e.heap.size) none (some z.heap.size) [r]):ax.N3 r.1 (some ⟨g,0,none⟩) (some ⟨t,0,none⟩) e z K v:=by
 unfold ax.N3;exact let n:=h.o6;⟨r.2.1,n1 D n⟩
theorem n4(D:XD w o r K)(h:XN o v r own (some g) (some t) (some e.heap.size) none none [r]):ax.N4 r.1 (some ⟨g,0,none⟩) (some ⟨t,0,none⟩) e w K v:=by
 unfold ax.N4;exact⟨(let n:=h.o6;⟨r.2.1,n2 D n⟩),(let n:=h.o5;⟨D.cs n.kp,n3 D n⟩)⟩
theorem n5(D:XD w o r K)(h:XN o v r own (some g) (some t) (some e.heap.size) (some i.heap.size) (some z.heap.size) []):ax.N5 e r.1 (some ⟨g,0,none⟩) (some ⟨t,0,none⟩) i z K v:=by
 unfold ax.N5;exact let ⟨u,q,n⟩:=h.put;⟨u,q,n1 D n⟩
theorem n6(D:XD w o r K)(h:XN o v r own (some g) (some t) (some e.heap.size) (some i.heap.size) none []):ax.N6 e r.1 (some ⟨g,0,none⟩) (some ⟨t,0,none⟩) i w K v:=by
 unfold ax.N6;exact⟨(let ⟨u,q,n⟩:=h.put;⟨u,q,n2 D n⟩),(let n:=h.o5;⟨D.cs n.kp,n5 D n⟩)⟩
theorem n7(D:XD w o r K)(h:XN o v r own (some g) (some t) (some e.heap.size) none (some z.heap.size) []):ax.N7 e r.1 r.1 w (some ⟨g,0,none⟩) (some ⟨t,0,none⟩) z K v:=by
 unfold ax.N7;exact⟨(let ⟨u,q,n⟩:=h.put;⟨u,q,D.cs n.kp,n3 D n⟩),(let n:=h.o6;⟨r.2.1,D.cs n.kp,n5 D n⟩)⟩
theorem n8(D:XD w o r K)(h:XN o v r own (some g) (some t) (some e.heap.size) none none []):ax.N8 e r.1 r.1 w (some ⟨g,0,none⟩) (some ⟨t,0,none⟩) K v:=by
 unfold ax.N8;exact⟨(let ⟨u,q,n⟩:=h.put;⟨u,q,D.cs n.kp,n4 D n⟩),(let n:=h.o6;⟨r.2.1,D.cs n.kp,n6 D n⟩),(let n:=h.o5;⟨D.cs n.kp,D.cs n.kp,n7 D n⟩)⟩
theorem n9(D:XD w o r K)(h:XN o v r own (some g) (some t) none (some i.heap.size) (some z.heap.size) []):ax.N9 r.1 w (some ⟨g,0,none⟩) (some ⟨t,0,none⟩) i z K v:=by
 unfold ax.N9;exact let n:=h.uH;⟨D.cs n.kp,n5 D n⟩
theorem n10(D:XD w o r K)(h:XN o v r own (some g) (some t) none (some i.heap.size) none []):ax.Sd r.1 w (some ⟨g,0,none⟩) (some ⟨t,0,none⟩) i K v:=by
 unfold ax.Sd;exact⟨(let n:=h.uH;⟨D.cs n.kp,n6 D n⟩),(let n:=h.o5;⟨D.cs n.kp,n9 D n⟩)⟩
theorem n11(D:XD w o r K)(h:XN o v r own (some g) (some t) none none (some z.heap.size) []):ax.YT r.1 w r.1 (some ⟨g,0,none⟩) (some ⟨t,0,none⟩) z K v:=by
 unfold ax.YT;exact⟨(let n:=h.uH;⟨D.cs n.kp,D.cs n.kp,n7 D n⟩),(let n:=h.o6;⟨r.2.1,D.cs n.kp,n9 D n⟩)⟩
theorem n12(D:XD w o r K)(h:XN o v r own (some g) (some t) none none none []):ax.Rm r.1 w r.1 (some ⟨g,0,none⟩) (some ⟨t,0,none⟩) K v:=by
 unfold ax.Rm;exact⟨(let n:=h.uH;⟨D.cs n.kp,D.cs n.kp,n8 D n⟩),(let n:=h.o6;⟨r.2.1,D.cs n.kp,n10 D n⟩),(let n:=h.o5;⟨D.cs n.kp,D.cs n.kp,n11 D n⟩)⟩
theorem n13(D:XD w o r K)(h:XN o v r own (some g) none (some e.heap.size) (some i.heap.size) (some z.heap.size) [r]):ax.Mv (some ⟨g,0,none⟩) e i z K v:=by
 unfold ax.Mv;exact Tr.eZ fun _ _ q k=>let n:=h.uG q k;⟨_,rfl,n1 D n⟩
theorem n14(D:XD w o r K)(h:XN o v r own (some g) none (some e.heap.size) (some i.heap.size) none [r]):ax.Rl (some ⟨g,0,none⟩) e i K v:=by
 unfold ax.Rl;exact⟨(Tr.eZ fun _ _ q k=>let n:=h.uG q k;⟨_,rfl,n2 D n⟩),(let n:=h.o5;n13 D n)⟩
theorem n15(D:XD w o r K)(h:XN o v r own (some g) none (some e.heap.size) none (some z.heap.size) [r]):ax.Xs r.1 w (some ⟨g,0,none⟩) e z K v:=by
 unfold ax.Xs;exact⟨(Tr.eZ fun _ _ q k=>let n:=h.uG q k;⟨_,rfl,D.cs n.kp,n3 D n⟩),(let n:=h.o6;⟨r.2.1,n13 D n⟩)⟩
theorem n16(D:XD w o r K)(h:XN o v r own (some g) none (some e.heap.size) none none [r]):ax.Sc r.1 w (some ⟨g,0,none⟩) e K v:=by
 unfold ax.Sc;exact⟨(Tr.eZ fun _ _ q k=>let n:=h.uG q k;⟨_,rfl,D.cs n.kp,n4 D n⟩),(let n:=h.o6;⟨r.2.1,n14 D n⟩),(let n:=h.o5;⟨D.cs n.kp,n15 D n⟩)⟩
theorem n17(D:XD w o r K)(h:XN o v r own (some g) none (some e.heap.size) (some i.heap.size) (some z.heap.size) []):ax.Sb r.1 w e (some ⟨g,0,none⟩) i z K v:=by
 unfold ax.Sb;exact⟨(Tr.eZ fun _ _ q k=>let n:=h.uG q k;⟨_,rfl,D.cs n.kp,n5 D n⟩),(let ⟨u,q,n⟩:=h.put;⟨u,q,n13 D n⟩)⟩
theorem n18(D:XD w o r K)(h:XN o v r own (some g) none (some e.heap.size) (some i.heap.size) none []):ax.Xr r.1 w e (some ⟨g,0,none⟩) i K v:=by
 unfold ax.Xr;exact⟨(Tr.eZ fun _ _ q k=>let n:=h.uG q k;⟨_,rfl,D.cs n.kp,n6 D n⟩),(let ⟨u,q,n⟩:=h.put;⟨u,q,n14 D n⟩),(let n:=h.o5;⟨D.cs n.kp,n17 D n⟩)⟩
theorem n19(D:XD w o r K)(h:XN o v r own (some g) none (some e.heap.size) none (some z.heap.size) []):ax.KI r.1 w r.1 e (some ⟨g,0,none⟩) z K v:=by
 unfold ax.KI;exact⟨(Tr.eZ fun _ _ q k=>let n:=h.uG q k;⟨_,rfl,D.cs n.kp,D.cs n.kp,n7 D n⟩),(let ⟨u,q,n⟩:=h.put;⟨u,q,D.cs n.kp,n15 D n⟩),(let n:=h.o6;⟨r.2.1,D.cs n.kp,n17 D n⟩)⟩
theorem n20(D:XD w o r K)(h:XN o v r own (some g) none (some e.heap.size) none none []):ax.Oh r.1 w r.1 e (some ⟨g,0,none⟩) K v:=by
 unfold ax.Oh;exact⟨(Tr.eZ fun _ _ q k=>let n:=h.uG q k;⟨_,rfl,D.cs n.kp,D.cs n.kp,n8 D n⟩),(let ⟨u,q,n⟩:=h.put;⟨u,q,D.cs n.kp,n16 D n⟩),(let n:=h.o6;⟨r.2.1,D.cs n.kp,n18 D n⟩),(let n:=h.o5;⟨D.cs n.kp,D.cs n.kp,n19 D n⟩)⟩
theorem n21(D:XD w o r K)(h:XN o v r own (some g) none none (some i.heap.size) (some z.heap.size) []):ax.Og r.1 w (some ⟨g,0,none⟩) i z K v:=by
 unfold ax.Og;exact⟨(Tr.eZ fun _ _ q k=>let n:=h.uG q k;⟨_,rfl,D.cs n.kp,n9 D n⟩),(let n:=h.uH;⟨D.cs n.kp,n17 D n⟩)⟩
theorem n22(D:XD w o r K)(h:XN o v r own (some g) none none (some i.heap.size) none []):ax.Sa r.1 w (some ⟨g,0,none⟩) i K v:=by
 unfold ax.Sa;exact⟨(Tr.eZ fun _ _ q k=>let n:=h.uG q k;⟨_,rfl,D.cs n.kp,n10 D n⟩),(let n:=h.uH;⟨D.cs n.kp,n18 D n⟩),(let n:=h.o5;⟨D.cs n.kp,n21 D n⟩)⟩
theorem n23(D:XD w o r K)(h:XN o v r own (some g) none none none (some z.heap.size) []):ax.YR r.1 w r.1 (some ⟨g,0,none⟩) z K v:=by
 unfold ax.YR;exact⟨(Tr.eZ fun _ _ q k=>let n:=h.uG q k;⟨_,rfl,D.cs n.kp,D.cs n.kp,n11 D n⟩),(let n:=h.uH;⟨D.cs n.kp,D.cs n.kp,n19 D n⟩),(let n:=h.o6;⟨r.2.1,D.cs n.kp,n21 D n⟩)⟩
theorem n24(D:XD w o r K)(h:XN o v r own (some g) none none none none []):ax.Xq r.1 w r.1 (some ⟨g,0,none⟩) K v:=by
 unfold ax.Xq;exact⟨(Tr.eZ fun _ _ q k=>let n:=h.uG q k;⟨_,rfl,D.cs n.kp,D.cs n.kp,n12 D n⟩),(let n:=h.uH;⟨D.cs n.kp,D.cs n.kp,n20 D n⟩),(let n:=h.o6;⟨r.2.1,D.cs n.kp,n22 D n⟩),(let n:=h.o5;⟨D.cs n.kp,D.cs n.kp,n23 D n⟩)⟩
theorem n25(D:XD w o r K)(h:XN o v r own none none (some e.heap.size) (some i.heap.size) (some z.heap.size) [r]):ax.Xp r.1 e i z K v:=by
 unfold ax.Xp;exact gw r fun _ _ q k=>let n:=h.dz q k;⟨_,rfl,n13 D n⟩
theorem n26(D:XD w o r K)(h:XN o v r own none none (some e.heap.size) (some i.heap.size) none [r]):ax.YQ r.1 e i w K v:=by
 unfold ax.YQ;exact⟨(gw r fun _ _ q k=>let n:=h.dz q k;⟨_,rfl,n14 D n⟩),(let n:=h.o5;⟨D.cs n.kp,n25 D n⟩)⟩
theorem n27(D:XD w o r K)(h:XN o v r own none none (some e.heap.size) none (some z.heap.size) [r]):ax.Rk r.1 r.1 w e z K v:=by
 unfold ax.Rk;exact⟨(gw r fun _ _ q k=>let n:=h.dz q k;⟨_,rfl,D.cs n.kp,n15 D n⟩),(let n:=h.o6;⟨r.2.1,D.cs n.kp,n25 D n⟩)⟩
theorem n28(D:XD w o r K)(h:XN o v r own none none (some e.heap.size) none none [r]):ax.N28 r.1 r.1 w e K v:=by
 unfold ax.N28;exact⟨(gw r fun _ _ q k=>let n:=h.dz q k;⟨_,rfl,D.cs n.kp,n16 D n⟩),(let n:=h.o6;⟨r.2.1,D.cs n.kp,n26 D n⟩),(let n:=h.o5;⟨D.cs n.kp,D.cs n.kp,n27 D n⟩)⟩
theorem n29(D:XD w o r K)(h:XN o v r own none none (some e.heap.size) (some i.heap.size) (some z.heap.size) []):ax.Xo r.1 r.1 w e i z K v:=by
 unfold ax.Xo;exact⟨(gw r fun _ _ q k=>let n:=h.dz q k;⟨_,rfl,D.cs n.kp,n17 D n⟩),(let ⟨u,q,n⟩:=h.put;⟨u,q,D.cs n.kp,n25 D n⟩)⟩
theorem n30(D:XD w o r K)(h:XN o v r own none none (some e.heap.size) (some i.heap.size) none []):ax.YP r.1 r.1 w e i K v:=by
 unfold ax.YP;exact⟨(gw r fun _ _ q k=>let n:=h.dz q k;⟨_,rfl,D.cs n.kp,n18 D n⟩),(let ⟨u,q,n⟩:=h.put;⟨u,q,D.cs n.kp,n26 D n⟩),(let n:=h.o5;⟨D.cs n.kp,D.cs n.kp,n29 D n⟩)⟩
theorem n31(D:XD w o r K)(h:XN o v r own none none (some e.heap.size) none (some z.heap.size) []):ax.YO r.1 r.1 w r.1 e z K v:=by
 unfold ax.YO;exact⟨(gw r fun _ _ q k=>let n:=h.dz q k;⟨_,rfl,D.cs n.kp,D.cs n.kp,n19 D n⟩),(let ⟨u,q,n⟩:=h.put;⟨u,q,D.cs n.kp,D.cs n.kp,n27 D n⟩),(let n:=h.o6;⟨r.2.1,D.cs n.kp,D.cs n.kp,n29 D n⟩)⟩
theorem n32(D:XD w o r K)(h:XN o v r own none none (some e.heap.size) none none []):ax.N32 r.1 r.1 w r.1 e K v:=by
 unfold ax.N32;exact⟨(gw r fun _ _ q k=>let n:=h.dz q k;⟨_,rfl,D.cs n.kp,D.cs n.kp,n20 D n⟩),(let ⟨u,q,n⟩:=h.put;⟨u,q,D.cs n.kp,D.cs n.kp,n28 D n⟩),(let n:=h.o6;⟨r.2.1,D.cs n.kp,D.cs n.kp,n30 D n⟩),(let n:=h.o5;⟨D.cs n.kp,D.cs n.kp,D.cs n.kp,n31 D n⟩)⟩
theorem n33(D:XD w o r K)(h:XN o v r own none none none (some i.heap.size) (some z.heap.size) []):ax.YN r.1 r.1 w i z K v:=by
 unfold ax.YN;exact⟨(gw r fun _ _ q k=>let n:=h.dz q k;⟨_,rfl,D.cs n.kp,n21 D n⟩),(let n:=h.uH;⟨D.cs n.kp,D.cs n.kp,n29 D n⟩)⟩
theorem n34(D:XD w o r K)(h:XN o v r own none none none (some i.heap.size) none []):ax.N34 r.1 r.1 w i K v:=by
 unfold ax.N34;exact⟨(gw r fun _ _ q k=>let n:=h.dz q k;⟨_,rfl,D.cs n.kp,n22 D n⟩),(let n:=h.uH;⟨D.cs n.kp,D.cs n.kp,n30 D n⟩),(let n:=h.o5;⟨D.cs n.kp,D.cs n.kp,n33 D n⟩)⟩
theorem n35(D:XD w o r K)(h:XN o v r own none none none none (some z.heap.size) []):ax.N35 r.1 r.1 w r.1 z K v:=by
 unfold ax.N35;exact⟨(gw r fun _ _ q k=>let n:=h.dz q k;⟨_,rfl,D.cs n.kp,D.cs n.kp,n23 D n⟩),(let n:=h.uH;⟨D.cs n.kp,D.cs n.kp,D.cs n.kp,n31 D n⟩),(let n:=h.o6;⟨r.2.1,D.cs n.kp,D.cs n.kp,n33 D n⟩)⟩
theorem n36(D:XD w o r K)(h:XN o v r own none none none none none []):ax.N36 r.1 r.1 w r.1 K v:=by
 unfold ax.N36;exact⟨(gw r fun _ _ q k=>let n:=h.dz q k;⟨_,rfl,D.cs n.kp,D.cs n.kp,n24 D n⟩),(let n:=h.uH;⟨D.cs n.kp,D.cs n.kp,D.cs n.kp,n32 D n⟩),(let n:=h.o6;⟨r.2.1,D.cs n.kp,D.cs n.kp,n34 D n⟩),(let n:=h.o5;⟨D.cs n.kp,D.cs n.kp,D.cs n.kp,n35 D n⟩)⟩
end
section
variable{K:Value->World->Prop}
theorem iU{w:World}(r:HT)(hK:∀v x,DK v (fun k=>w.heap.size<=k/\k<v.heap.size) (fun _=>False) x [⟨r,[]⟩] [-1]->Kept Nil w v->K (.pointer (some ⟨x,0,none⟩)) v):
 bu prog ax.id #[.agg r.1] w K:=by
 refine ax.of ?_;unfold ax.W;intro w_2 KL;have k2:Kept Nil w w_2:=(Kept.refl _ _).alloc _;have lT:w_2.heap[w.heap.size]? =some (.cells r.1 ah (0,0)):=aI w _;have k3:Kept Nil w KL:=k2.drew;have nI:KL.heap[w.heap.size]? =some (.cells r.1 ah (0,0)):=lT;clear_value KL;have N_3:XN KL KL r (fun _=>0) none none none none none []:=⟨Kept.refl _ _,(fun b e=>by cases e),(fun b e=>by cases e),(fun b e=>by cases e),(fun b e=>by cases e),(fun b e=>by cases e)⟩;have ny:∀ {v:World},Kept Nil KL v->∃cs:Array Value,(.agg r.1:Value)=.agg cs/\cs.size=32/\Cells v (⟨w.heap.size,0,none⟩:Addr) cs:=fun k=>⟨r.1,rfl,r.2.1,Cells.bI (k.heap nI (fun h=>h))⟩;have vX:∀ {v:World} {own:Nat->Nat} {g t mb ib cb:Nat},XN KL v r own (some g) (some t) (some mb) (some ib) (some cb) [r]->K (.pointer (some ⟨v.heap.size,0,none⟩)) (v.alloc (.cells #[.pointer (some ⟨g,0,none⟩),.pointer (some ⟨t,0,none⟩),.map (some mb),.slice (some ⟨ib,0,none⟩) 1 1,.map (some cb)] eR)):=
  fun h=>hK _ _ (h.fin k3.size) ((k3.tt h.kp).alloc _)
 have c3:r.1.size=32/\Cells KL (⟨w.heap.size,0,none⟩:Addr) r.1:=⟨r.2.1,Cells.bI nI⟩;refine⟨r.1,c3,r.1,c3,r.1,c3,?_⟩;have D:XD w KL r K:=⟨ny,vX⟩;exact n36 D N_3
end
end Go.Proofs.YtfleamccglihoaaGreatDoor
