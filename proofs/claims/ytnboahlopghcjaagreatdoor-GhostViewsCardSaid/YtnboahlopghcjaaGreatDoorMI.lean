import Derived.Test.YtnboahlopghcjaaGreatDoorMG
import Derived.Test.YtnboahlopghcjaaGreatDoorMH
import Derived.Test.YtnboahlopghcjaaGreatDoorME
import Derived.Laws.AppendOwn
set_option linter.unusedVariables false
namespace Go.Proofs.YtnboahlopghcjaaGreatDoor
open Go.Proofs.Tryz
open Go Go.bS
open Tr (js)
structure qP(D:DG)(P:List Int):Prop where
 len:P.length=D.length
 root:P[0]? =some (-1)
 up: ∀(i:Nat) (p:Int) nd,0<i->P[i]? =some p->D[i]? =some nd-> ∃(j:Nat) (m:DN),p=(j:Int)/\j<i/\D[j]? =some m/\m.id∈nd.ps
def Ch(D:DG)(P:List Int)(a b:HT):Prop:= ∃(i k:Nat) (ni nk:DN),D[i]? =some ni/\ni.id=b/\D[k]? =some nk/\nk.id=a/\js P i k
def kj(D:DG)(P:List Int)(s c:HT):Prop:= ∃(i j:Nat) (ni m:DN),D[i]? =some ni/\ni.id=c/\P[i]? =some (j:Int)/\D[j]? =some m/\m.id=s
def Lz(D:DG)(P:List Int)(h c:HT):Prop:=eT D h c/\ ∃s,kj D P s c/\h≠s/\ ¬eT D h s
section
variable{D:DG}{P:List Int}
theorem qP.par(H:qP D P):Tr.mS P:=⟨H.root,fun i p hi hp=>by
 have dN:=(List.getElem?_eq_some_iff.1 hp).1;rw [H.len]at dN;obtain⟨j,m,h1,h2,_⟩:=H.up i p _ hi hp (List.getElem?_eq_getElem dN);exact⟨j,h2,h1⟩⟩
theorem kj.par(H:qP D P){s c:HT}(h:kj D P s c):mS D s c:=by
 obtain⟨i,j,ni,m,h1,rfl,h3,h4,rfl⟩:=h;have hi:0<i:=by
  rcases Nat.eq_zero_or_pos i with rfl|h
  ·rw [H.root]at h3;simp only [Option.some.injEq]at h3;omega
  ·exact h
 obtain⟨j',m',e,_,h5,h6⟩:=H.up i _ ni hi h3 h1;have:j'=j:=by omega
 subst this;rw [h4]at h5;cases h5;exact⟨ni,List.mem_of_getElem? h1,rfl,h6⟩
theorem kj.one(W:jj D){s s' c:HT}(h:kj D P s c)(h':kj D P s' c):s=s':=by
 obtain⟨i,j,ni,m,h1,rfl,h3,h4,rfl⟩:=h;obtain⟨i',j',ni',m',r9,e,Cz,VE,rfl⟩:=h';have:=W.inj h1 r9 e.symm;subst this;rw [h3]at Cz;simp only [Option.some.injEq]at Cz;have:j=j':=by omega
 subst this;rw [h4]at VE;cases VE;rfl
theorem kj.ex(H:qP D P){i:Nat}{ni:DN}(hi:0<i)(h:D[i]? =some ni): ∃(j:Nat) (m:DN),j<i/\P[i]? =some (j:Int)/\D[j]? =some m/\kj D P m.id ni.id:=by
 have dN:=(List.getElem?_eq_some_iff.1 h).1;obtain⟨p,hp⟩: ∃p,P[i]? =some p:=⟨_,List.getElem?_eq_getElem (by rw [H.len];exact dN)⟩;obtain⟨j,m,rfl,hj,hm,_⟩:=H.up i p ni hi hp h;exact⟨j,m,hj,hp,hm,i,j,ni,m,h,rfl,hp,hm,rfl⟩
theorem Ch.refl(H:qP D P){a:HT}(h:a∈ids D):Ch D P a a:=by
 obtain⟨nd,fy,e⟩:=dI.1 h;obtain⟨i,hi⟩:=List.mem_iff_getElem?.1 fy;exact⟨i,i,nd,nd,hi,e,hi,e,.refl (by rw [H.len];exact(List.getElem?_eq_some_iff.1 hi).1)⟩
theorem Ch.mem{a b:HT}(h:Ch D P a b):a∈ids D/\b∈ids D:=by
 obtain⟨i,k,ni,nk,h1,h2,h3,h4,_⟩:=h;exact⟨dI.2 ⟨nk,List.mem_of_getElem? h3,h4⟩,dI.2 ⟨ni,List.mem_of_getElem? h1,h2⟩⟩
theorem Ch.step(W:jj D){a s c:HT}(hs:kj D P s c)(h:Ch D P a s):Ch D P a c:=by
 obtain⟨i,j,ni,m,h1,rfl,h3,h4,rfl⟩:=hs;obtain⟨j',k,nj,nk,g1,g2,g3,g4,g5⟩:=h;have:=W.inj g1 h4 g2;subst this;exact⟨i,k,ni,nk,h1,rfl,g3,g4,.step h3 g5⟩
theorem Ch.En(W:jj D)(H:qP D P){a b:HT}(h:Ch D P a b):a=b\/eT D a b:=by
 obtain⟨i,k,ni,nk,h1,rfl,h3,rfl,h5⟩:=h
 induction h5 generalizing ni with
 |refl _=>rw [h1]at h3;cases h3;exact .inl rfl
 | @step i j k hj hu ih=>
   have sY:=hu.lt;rw [H.len]at sY;obtain⟨m,hm⟩: ∃m,D[j]? =some m:=⟨_,List.getElem?_eq_getElem sY⟩;have hp:mS D m.id ni.id:=kj.par H ⟨i,j,ni,m,h1,rfl,hj,hm,rfl⟩;rcases ih m hm h3 with e|e
   ·rw [e];exact .inr (.one hp)
   ·exact .inr (.more e hp)
theorem Hp(W:jj D)(H:qP D P){a b:HT}(fE:a≠b):eT D a b↔Ch D P a b\/ ∃c,Lz D P a c/\Ch D P c b:=by
 constructor
 ·intro h
  obtain⟨nb,R4,e⟩:=dI.1 (h.mem W).2;obtain⟨i,hb⟩:=List.mem_iff_getElem?.1 R4;clear R4;subst e
  induction i using Nat.strongRecOn generalizing nb with
  |_ i ih=>
   have hi:0<i:=by
    rcases Nat.eq_zero_or_pos i with rfl|h0
    ·exfalso
     obtain⟨x,y,mx,my,ny,_,hy,_,e2⟩:=h.at_ W;have:=W.inj hy hb e2;omega
    ·exact h0
   obtain⟨j,m,hj,_,hm,hs⟩:=kj.ex H hi hb;by_cases e1:a=m.id
   ·exact .inl (Ch.step W hs (by rw [e1];exact Ch.refl H (dI.2 ⟨m,List.mem_of_getElem? hm,rfl⟩)))
   ·by_cases e2:eT D a m.id
    ·rcases ih j hj m hm e1 e2 with e3|⟨c,e3,e4⟩
     ·exact .inl (Ch.step W hs e3)
     ·exact .inr ⟨c,e3,Ch.step W hs e4⟩
    ·exact .inr ⟨nb.id,⟨h,m.id,hs,e1,e2⟩,Ch.refl H (dI.2 ⟨nb,List.mem_of_getElem? hb,rfl⟩)⟩
 ·rintro(h|⟨c,⟨h1,_⟩,h2⟩)
  ·exact(h.En W H).resolve_left fE
  ·rcases h2.En W H with e|e
   ·rw [<-e];exact h1
   ·exact h1.trans e
theorem qP.snoc(H:qP D P){nd:DN}{j:Nat}{m:DN}(hj:D[j]? =some m)(hm:m.id∈nd.ps)(iK:0<D.length):qP (D++ [nd]) (P++ [(j:Int)]) where
 len:=by simp [H.len]
 root:=by rw [List.getElem?_append_left (by rw [H.len];exact iK)];exact H.root
 up:=fun i p nd' hi hp fy=>by
  have sY:=(List.getElem?_eq_some_iff.1 hj).1;by_cases h:i<D.length
  ·rw [List.getElem?_append_left (by rw [H.len];exact h)]at hp
   rw [List.getElem?_append_left h]at fy;obtain⟨j',m',e,h1,h2,h3⟩:=H.up i p nd' hi hp fy;exact⟨j',m',e,h1,by rw [List.getElem?_append_left (by omega)];exact h2,h3⟩
  ·have dN:=(List.getElem?_eq_some_iff.1 fy).1
   have e:i=D.length:=by simp at dN;omega
   subst e;rw [<-H.len]at hp;simp at hp fy;subst hp fy;exact⟨j,m,rfl,sY,by rw [List.getElem?_append_left sY];exact hj,hm⟩
theorem mL(W:jj D)(H:qP D P){nd:DN}(hn:nd.id∉ids D){j:Nat}{m:DN}(hj:D[j]? =some m){s c:HT}:
 kj (D++ [nd]) (P++ [(j:Int)]) s c↔kj D P s c\/(c=nd.id/\s=m.id):=by
 have sY:=(List.getElem?_eq_some_iff.1 hj).1;constructor
 ·rintro⟨i,k,ni,mk,h1,rfl,h3,h4,rfl⟩
  by_cases h:i<D.length
  ·rw [List.getElem?_append_left h]at h1
   rw [List.getElem?_append_left (by rw [H.len];exact h)]at h3;have hk:k<D.length:=by
    rcases Nat.eq_zero_or_pos i with rfl|h0
    ·rw [H.root]at h3;simp only [Option.some.injEq]at h3;omega
    ·obtain⟨k',_,e,h5,_⟩:=H.up i _ ni h0 h3 h1
     omega
   rw [List.getElem?_append_left hk]at h4;exact .inl ⟨i,k,ni,mk,h1,rfl,h3,h4,rfl⟩
  ·have dN:=(List.getElem?_eq_some_iff.1 h1).1
   have e:i=D.length:=by simp at dN;omega
   subst e;have Cz:=h3;rw [<-H.len]at Cz;simp at h1 Cz;subst h1;have:k=j:=by omega
   subst this;rw [List.getElem?_append_left sY,hj]at h4;cases h4;exact .inr ⟨rfl,rfl⟩
 ·rintro(⟨i,k,ni,mk,h1,rfl,h3,h4,rfl⟩|⟨rfl,rfl⟩)
  ·have hi:=(List.getElem?_eq_some_iff.1 h1).1
   have hk:=(List.getElem?_eq_some_iff.1 h4).1;exact⟨i,k,ni,mk,by rw [List.getElem?_append_left hi];exact h1,rfl,by rw [List.getElem?_append_left (by rw [H.len];exact hi)];exact h3,by rw [List.getElem?_append_left hk];exact h4,rfl⟩
  ·exact⟨D.length,j,nd,m,by simp,rfl,by rw [<-H.len];simp,by rw [List.getElem?_append_left sY];exact hj,rfl⟩
theorem Hh(W:jj D)(H:qP D P){nd:DN}(hn:nd.id∉ids D)(fh: ∀p∈nd.ps,p∈ids D){j:Nat}{m:DN}(hj:D[j]? =some m){h c:HT}:
 Lz (D++ [nd]) (P++ [(j:Int)]) h c↔Lz D P h c\/(c=nd.id/\eT (D++ [nd]) h nd.id/\h≠m.id/\ ¬eT D h m.id):=by
 have hm:m.id∈ids D:=dI.2 ⟨m,List.mem_of_getElem? hj,rfl⟩;have key: ∀ {s c},kj D P s c->s∈ids D/\c∈ids D:=fun hs=>(eT.one (kj.par H hs)).mem W;constructor
 ·rintro⟨h1,s,hs,h2,h3⟩
  rcases(mL W H hn hj).1 hs with hs|⟨rfl,rfl⟩
  ·obtain⟨g1,g2⟩:=key hs
   exact .inl ⟨(iE W hn g2).1 h1,s,hs,h2,fun e=>h3 ((iE W hn g1).2 e)⟩
  ·exact .inr ⟨rfl,h1,h2,fun e=>h3 ((iE W hn hm).2 e)⟩
 ·rintro(⟨h1,s,hs,h2,h3⟩|⟨rfl,h1,h2,h3⟩)
  ·obtain⟨g1,g2⟩:=key hs
   exact⟨(iE W hn g2).2 h1,s,(mL W H hn hj).2 (.inl hs),h2,fun e=>h3 ((iE W hn g1).1 e)⟩
  ·exact⟨h1,m.id,(mL W H hn hj).2 (.inr ⟨rfl,rfl⟩),h2,fun e=>h3 ((iE W hn hm).1 e)⟩
inductive Up (P:List Int):Nat->List Nat->Prop
 |root:Up P 0 [0]
 |step {i j:Nat} {l:List Nat}:P[i]? =some (j:Int)->Up P j l->Up P i (i::l)
theorem Up.ex(hP:Tr.mS P): ∀i,i<P.length-> ∃l,Up P i l:=by
 intro i
 induction i using Nat.strongRecOn with
 |_ i ih=>
  intro hi;rcases Nat.eq_zero_or_pos i with rfl|h0
  ·exact⟨[0],.root⟩
  ·obtain⟨j,h1,h2⟩:=hP.up i _ h0 (List.getElem?_eq_getElem hi)
   obtain⟨l,hl⟩:=ih j h1 (by omega);exact⟨i::l,.step (by rw [List.getElem?_eq_getElem hi,h2]) hl⟩
theorem Up.mem(hP:Tr.mS P){i:Nat}{l:List Nat}(h:Up P i l)(hi:i<P.length){k:Nat}:k∈l↔js P i k:=by
 induction h with
 |root=>
  rw [List.mem_singleton];constructor
  ·rintro rfl;exact .refl hi
  ·intro h;have:=h.le hP;omega
 | @step i j l hj hu ih=>
   have sY:j<P.length:=by have:=(Tr.ik hP (Tr.eo.2 hj)).1;omega
   rw [List.mem_cons,ih sY];constructor
   ·rintro(rfl|h)
    ·exact .refl hi
    ·exact .step hj h
   ·intro h
    by_cases e:k=i
    ·exact .inl e
    ·exact .inr (h.inv (fun e'=>e e'.symm) hj)
theorem Up.one(hP:Tr.mS P){i:Nat}{l l':List Nat}(h:Up P i l)(h':Up P i l'):l=l':=by
 induction h generalizing l' with
 |root=>
  cases h' with
  |root=>rfl
  |step hj _=>rw [hP.root]at hj;simp only [Option.some.injEq]at hj;omega
 | @step i j l hj hu ih=>
   cases h' with
   |root=>rw [hP.root]at hj;simp only [Option.some.injEq]at hj;omega
   | @step _ j' l' ud IW=>
     rw [hj]at ud;simp only [Option.some.injEq]at ud;have:j=j':=by omega
     subst this;rw [ih IW]
theorem Up.head{i:Nat}{l:List Nat}(h:Up P i l):l[0]? =some i:=by cases h<;>rfl
theorem Up.lt(hP:Tr.mS P){i:Nat}{l:List Nat}(h:Up P i l)(hi:i<P.length): ∀k∈l,k<P.length:=fun k hk=>((h.mem hP hi).1 hk).UP
end
end Go.Proofs.YtnboahlopghcjaaGreatDoor
namespace Go.Proofs.YtnboahlopghcjaaGreatDoor
open Go.Proofs.Tryz
open Go Go.bS Go.RowKit
structure vz(mt te:TypeId)(z:Value):Prop where
 nJ:prog.underlying mt=some (.map ai te)
 zero: ∀w,(zeroValue te).run prog w=.ok z w
def assoc(h:HT):List (HT×Value)->Option Value
 | []=>none
 |(x,v)::l=>if h=x then some v else assoc h l
def kH(h:HT):List (HT×Value)->Nat->Option (Nat×Value)
 | [],_=>none
 |(x,v)::l,i=>if h=x then some (i,v)else kH h l (i+1)
theorem lM(h:HT): ∀(l:List (HT×Value)) (i:Nat),(kH h l i).map (·.2)=assoc h l
 | [],_=>rfl
 |(x,v)::l,i=>by
  unfold kH assoc;split
  ·rfl
  ·exact lM h l (i+1)
theorem uy{h:HT}: ∀ {l:List (HT×Value)} {i j:Nat} {v:Value},kH h l i=some (j,v)->i<=j/\l[j-i]? =some (h,v)/\ ∀(x:HT) (u:Value),assoc x (l.set (j-i) (h,u))=if x=h then some u else assoc x l
 | [],i,j,v,e=>by simp [kH]at e
 |(x,u)::l,i,j,v,e=>by
  unfold kH at e;split at e
  ·rename_i hx
   cases e;subst hx;refine⟨Nat.le_refl _,by rw [Nat.sub_self];rfl,fun x u=>?_⟩;rw [Nat.sub_self];simp only [List.set_cons_zero,assoc];by_cases hx:x=h<;>simp [hx]
  ·rename_i hx
   obtain⟨h1,h2,h3⟩:=uy e;have e1:j-i=(j-(i+1))+1:=by omega
   refine⟨by omega,by rw [e1];exact h2,fun y u'=>?_⟩;rw [e1];simp only [List.set_cons_succ,assoc,h3];by_cases hy:y=h
   ·subst hy;simp [hx]
   ·simp [hy]
theorem uK{h:HT}{v:Value}: ∀ {l:List (HT×Value)},assoc h l=none-> ∀x,assoc x (l++ [(h,v)])=if x=h then some v else assoc x l
 | [],_,x=>by simp [assoc]
 |(y,u)::l,e,x=>by
  unfold assoc at e;split at e
  ·cases e
  ·rename_i hy
   have ih:=uK (v:=v) e x;simp only [List.cons_append,assoc,ih];by_cases hx:x=y
   ·subst hx;simp [Ne.symm hy]
   ·simp [hx]
def lX(es:List MapEntry)(l:List (HT×Value)):Prop:=match es,l with
 | [],[]=>True
 |e::es,p::l=>(e.key=.agg p.1.1/\e.val=p.2)/\lX es l
 |_,_=>False
theorem lX.snoc: ∀ {es:List MapEntry} {l:List (HT×Value)} {e:MapEntry} {p:HT×Value},lX es l->e.key=.agg p.1.1->e.val=p.2->lX (es++ [e]) (l++ [p])
 | [],[],_,_,_,h1,h2=>⟨⟨h1,h2⟩,trivial⟩
 |_::_,_::_,_,_,he,h1,h2=>⟨he.1,lX.snoc he.2 h1 h2⟩
 | [],_::_,_,_,he,_,_=>he.elim
 |_::_,[],_,_,he,_,_=>he.elim
theorem lX.get: ∀ {es:List MapEntry} {l:List (HT×Value)} {j:Nat} {p:HT×Value},lX es l->l[j]? =some p-> ∃e,es[j]? =some e/\e.key=.agg p.1.1/\e.val=p.2
 | [],[],_,_,_,h=>by simp at h
 |e::_,_::_,0,_,he,h=>by
  simp only [List.getElem?_cons_zero,Option.some.injEq]at h;subst h;exact⟨e,rfl,he.1⟩
 |_::_,_::_,j+1,_,he,h=>by
  obtain⟨e,h1,h2⟩:=lX.get he.2 (j:=j) (by simpa using h);exact⟨e,by simpa using h1,h2⟩
 | [],_::_,_,_,he,_=>he.elim
 |_::_,[],_,_,he,_=>he.elim
theorem lX.set: ∀ {es:List MapEntry} {l:List (HT×Value)} {j:Nat} {p:HT×Value} {f:MapEntry->MapEntry},lX es l->(∀e,(f e).key=.agg p.1.1/\(f e).val=p.2)->lX (es.modify j f) (l.set j p)
 | [],[],_,_,_,he,_=>by simpa using he
 |_::_,_::_,0,_,_,he,hf=>⟨hf _,he.2⟩
 |_::_,_::_,j+1,_,_,he,hf=>by
  simp only [List.modify_succ_cons,List.set_cons_succ];exact⟨he.1,lX.set he.2 hf⟩
 | [],_::_,_,_,_,he,_=>he.elim
 |_::_,[],_,_,_,he,_=>he.elim
theorem lX.len: ∀ {es:List MapEntry} {l:List (HT×Value)},lX es l->es.length=l.length
 | [],[],_=>rfl
 |_::_,_::_,he=>by simp [lX.len he.2]
 | [],_::_,he=>he.elim
 |_::_,[],he=>he.elim
section
variable{w:World}
theorem p8(h:HT)(w:World): ∀(es:List MapEntry) (l:List (HT×Value)) (i:Nat),lX es l->
 (Instr.findAsking ai (.agg h.1) es i).run prog w=.ok (kH h l i) w
 | [],[],i,_=>by simp [Instr.findAsking,kH]
 |e::es,(x,v)::l,i,he=>by
  have hq:=tq h x w;have ih:=p8 h w es l (i+1) he.2;simp only [Instr.findAsking,he.1.1,Sem.run_bind,hq,Result.andThen_ok];by_cases hx:h=x
  ·simp [hx,kH,he.1.2]
  ·simp [hx,kH,ih]
 | [],_::_,_,he=>he.elim
 |_::_,[],_,he=>he.elim
theorem kI(h:HT)(w:World){es:List MapEntry}{l:List (HT×Value)}(he:lX es l):
 (Instr.findKey ai (.agg h.1) es).run prog w=.ok (kH h l 0) w:=by
 have h1:=p8 h w es l 0 he;simp only [Instr.findKey,Sem.run_bind,run_underlying Ia,Result.andThen_ok];cases es with
 |nil=>
  cases l with
  |nil=>simp [Instr.findNow,kH]
  |cons x l=>exact he.elim
 |cons e es=>
  have:Instr.findNow (.array 32 gX) (.agg h.1) (e::es) 0=none:=by
   simp only [Instr.findNow,Instr.sameNow]
  rw [this];exact h1
theorem De(h:HT):Instr.sameBits 10000 (.agg h.1) (.agg h.1)=true:=by
 show Instr.sameBits (9999+1) (.agg h.1) (.agg h.1)=true
 rw [Instr.sameBits];simp only [beq_self_eq_true,Bool.true_and,List.all_eq_true];rintro⟨x,y⟩ ny;have hxe:x=y:=by
  obtain⟨i,hi⟩:=List.mem_iff_getElem?.1 ny;rw [List.getElem?_zip_eq_some]at hi;have:=hi.1.symm.trans hi.2;simpa using this
 subst hxe;have hm:=(List.of_mem_zip ny).1;obtain⟨n,rfl,_⟩:=h.2.2 x hm;simp [Instr.sameBits]
structure fc(w:World)(m:Nat)(f:HT->Option Value):Prop where
 ex: ∃es clock l,w.heap[m]? =some (.map es clock)/\lX es.toList l/\(∀x,assoc x l=f x)/\(∀e∈es.toList,e.born<clock)/\(es.toList.map (·.born)).Nodup/\(l.map (·.1)).Nodup
theorem fc.aD{S:Nat->Prop}{w w':World}{m:Nat}{f:HT->Option Value}(h:fc w m f)(hk:Kept S w w')(hn: ¬S m):fc w' m f:=by
 obtain⟨es,clock,l,h1,h2⟩:=h.ex;exact⟨es,clock,l,hk.heap h1 hn,h2⟩
theorem fc.same{w w':World}{m:Nat}{f:HT->Option Value}(h:fc w m f)(hk:Kept Nil w w'):fc w' m f:=h.aD hk (fun h=>h)
theorem fc.lt{w:World}{m:Nat}{f:HT->Option Value}(h:fc w m f):m<w.heap.size:=by
 obtain⟨es,clock,l,h1,_⟩:=h.ex;exact aT h1
theorem fc.new(w:World):fc (w.alloc (.map #[] 0)) w.heap.size (fun _=>none):=⟨#[],0,[],aH w _,trivial,fun _=>rfl,by simp,by simp,by simp⟩
theorem fc.look{mt te:TypeId}{z:Value}(T:vz mt te z){m:Nat}{f:HT->Option Value}(hm:fc w m f)(h:HT):
 (Instr.lookup mt (.map (some m)) (.agg h.1) false).run prog w=.ok ((f h).getD z) w:=by
 obtain⟨es,clock,l,h1,h2,h3,_⟩:=hm.ex;have h4:=kI h w h2;have h5:=lM h l 0;rw [h3]at h5;simp only [Instr.lookup,Sem.run_bind,run_underlying T.nJ,oC h1,Result.andThen_ok,Sem.run_pure,iz,h4];cases hp:kH h l 0 with
 |none=>rw [hp]at h5;simp [<-h5,T.zero]
 |some p=>rw [hp]at h5;simp [<-h5]
theorem fc.put{mt te:TypeId}{z:Value}(T:vz mt te z){m:Nat}{f:HT->Option Value}(hm:fc w m f)(h:HT)(v:Value):
 ∃w',(Instr.mapUpdate mt (.map (some m)) (.agg h.1) v).run prog w=.ok () w'/\fc w' m (fun x=>if x=h then some v else f x)/\Kept (· =m) w w':=by
 obtain⟨es,clock,l,h1,h2,h3,hb,hd,hk⟩:=hm.ex;have h4:=kI h w h2;have kept: ∀o,Kept (· =m) w {w with heap:=w.heap.setIfInBounds m o}:=fun o=>⟨rfl,rfl,rfl,by simp,fun k _ hk=>by simp [Ne.symm hk]⟩;cases hp:kH h l 0 with
 |none=>
  rw [hp]at h4;have h5:=lM h l 0;rw [hp]at h5;refine⟨{w with heap:=w.heap.setIfInBounds m (.map (es.push {key:=.agg h.1,val:=v,born:=clock}) (clock+1))},?_,⟨es.push {key:=.agg h.1,val:=v,born:=clock},clock+1,l++ [(h,v)],?_,?_,?_,?_,?_,?_⟩,kept _⟩
  ·simp only [Instr.mapUpdate,Sem.run_bind,run_underlying T.nJ,oC h1,Result.andThen_ok,iz,h4,zO _ h1]
  ·simp [aT h1]
  ·have:=h2.snoc (e:= {key:=.agg h.1,val:=v,born:=clock}) (p:=(h,v)) rfl rfl
   simpa using this
  ·intro x
   rw [uK h5.symm,h3]
  ·intro e he
   rw [Array.toList_push,List.mem_append,List.mem_singleton]at he;rcases he with he|rfl
   ·have:=hb e he;omega
   ·exact Nat.lt_succ_self _
  ·rw [Array.toList_push,List.map_append,List.nodup_append]
   refine⟨hd,by simp,fun a ha b vk e=>?_⟩;simp only [List.map_cons,List.map_nil,List.mem_singleton]at vk;obtain⟨e',Jp,rfl⟩:=List.mem_map.1 ha;have:=hb e' Jp;omega
  ·rw [List.map_append,List.nodup_append]
   refine⟨hk,by simp,fun a ha b vk e=>?_⟩;simp only [List.map_cons,List.map_nil,List.mem_singleton]at vk;subst vk;subst e;have key: ∀l:List (HT×Value),a∈l.map (·.1)->assoc a l≠none:=fun l=>by
    induction l with
    |nil=>simp
    |cons p l ih=>
     obtain⟨y,u⟩:=p;intro hm;unfold assoc;split
     ·simp
     ·rename_i hy
      simp only [List.map_cons,List.mem_cons]at hm;exact ih (hm.resolve_left hy)
   exact key l ha h5.symm
 |some p=>
  obtain⟨j,u⟩:=p;rw [hp]at h4;obtain⟨_,h6,h7⟩:=uy hp;rw [Nat.sub_zero]at h6 h7;obtain⟨e,he1,Pr,_⟩:=h2.get h6;have Zk:es[j]? =some e:=by simpa using he1
  refine⟨{w with heap:=w.heap.setIfInBounds m (.map (es.modify j fun e=> {e with key:=.agg h.1,val:=v}) clock)},?_,⟨es.modify j fun e=> {e with key:=.agg h.1,val:=v},clock,l.set j (h,v),?_,?_,?_,?_,?_,?_⟩,kept _⟩
  ·simp only [Instr.mapUpdate,Sem.run_bind,run_underlying T.nJ,oC h1,Result.andThen_ok,iz,h4,Instr.keyThatStays,Zk,Option.map_some,Option.getD_some,Pr,De,if_true,Sem.run_pure,zO _ h1]
  ·simp [aT h1]
  ·rw [Array.toList_modify]
   exact h2.set (p:=(h,v)) fun e=>⟨rfl,rfl⟩
  ·intro x
   rw [h7,h3]
  ·intro x hx
   rw [Array.toList_modify]at hx;obtain⟨i,hi⟩:=List.mem_iff_getElem?.1 hx;rw [List.getElem?_modify]at hi;cases hg:es.toList[i]? with
   |none=>rw [hg]at hi;simp at hi
   |some y=>
    rw [hg]at hi;have:=hb y (List.mem_of_getElem? hg);by_cases qw:j=i
    ·simp [qw]at hi
     rw [<-hi];exact this
    ·simp [qw]at hi
     rw [<-hi];exact this
  ·have:(es.modify j fun e=> {e with key:=.agg h.1,val:=v}).toList.map (·.born)=es.toList.map (·.born):=by
    rw [Array.toList_modify];apply List.ext_getElem?;intro i;rw [List.getElem?_map,List.getElem?_map,List.getElem?_modify];cases es.toList[i]? with
    |none=>simp
    |some y=>by_cases qw:j=i<;>simp [qw]
   rw [this];exact hd
  ·have:(l.set j (h,v)).map (·.1)=l.map (·.1):=by
    apply List.ext_getElem?;intro i;rw [List.getElem?_map,List.getElem?_map,List.getElem?_set];by_cases qw:j=i
    ·subst qw
     have cH:=(List.getElem?_eq_some_iff.1 h6).1;have fV:=(List.getElem?_eq_some_iff.1 h6).2;simp [cH,fV]
    ·simp [qw]
   rw [this];exact hk
end
end Go.Proofs.YtnboahlopghcjaaGreatDoor
namespace Go.Proofs.YtnboahlopghcjaaGreatDoor
open Go.Proofs.Tryz
open Go Go.bS Go.RowKit
open Tr (js)
theorem sO{te:TypeId}{z:Value}(h:(prog.info? te).bind (·.zero)=some z)(w:World):(zeroValue te).run prog w=.ok z w:=by
 cases hi:prog.info? te with
 |none=>rw [hi]at h;cases h
 |some i=>
  rw [hi]at h;have hz:i.zero=some z:=h;simp [zeroValue,typeInfo,hi,hz]
theorem wL:vz fU ay (.slice none 0 0):=⟨by kernel_rfl,sO (by kernel_rfl)⟩
theorem FD:vz kh rJ (.agg #[.bool false]):=⟨by kernel_rfl,sO (by kernel_rfl)⟩
structure XM where
 g:Nat
 t:Nat
 mb:Nat
 ib:Nat
 ic:Nat
 cb:Nat
 T:List Tr.Nd
 d:Int
 SG:Nat->Prop
 ST:Nat->Prop
 SO:Nat->Prop
def XM.own(m:XM)(x k:Nat):Prop:=k=x\/k=m.mb\/k=m.ib\/k=m.cb
def XM.jB(m:XM)(x k:Nat):Prop:=m.SG k\/m.ST k\/m.SO k\/m.own x k
def nu(w:World)(SO:Nat->Prop)(N:Nat)(v:Option Value)(l:List HT):Prop:=
 (v=none/\l= [])\/ ∃(A:Option Addr) (n c:Nat),v=some (.slice A n c)/\n<=c/\HS w A n l/\n<=N/\ ∀a,A=some a->SO a.block
structure XV(w:World)(F:Nat->Prop)(x:Nat)(D:DG)(P:List Int)(m:XM):Prop where
 top:w.heap[x]? =some (.cells #[.pointer (some ⟨m.g,0,none⟩),.pointer (some ⟨m.t,0,none⟩),.map (some m.mb),.slice (some ⟨m.ib,0,none⟩) D.length m.ic,.map (some m.cb)] dW (0,0))
 G:Bs w m.SG F m.g D
 T:Tr.nM w m.ST m.t m.T m.d
 JD:Tr.vA m.T
 bM:Tr.bM m.T=P
 dl:0<=m.d/\m.d<=D.length
 at_:IsMap w m.mb (ids D)
 row:bQ w 0 (some ⟨m.ib,0,none⟩) D.length m.ic (ids D)
 VR: ∃f,fc w m.cb f/\ ∀h,∃l,nu w m.SO D.length (f h) l/\ ∀c,c∈l↔Lz D P h c
 jJ:qP D P
 W:jj D
 gt: ∀k,m.SG k-> ¬m.ST k/\ ¬m.SO k
 to: ∀k,m.ST k-> ¬m.SO k
 fd: ∀k,F k-> ¬m.ST k/\ ¬m.SO k
 od: ∀k,m.own x k-> ¬m.SG k/\ ¬m.ST k/\ ¬m.SO k/\ ¬F k
 ne:x≠m.mb/\x≠m.ib/\x≠m.cb/\m.mb≠m.ib/\m.mb≠m.cb/\m.ib≠m.cb
 low: ∀k,m.jB x k\/F k->k<w.heap.size
def Br(w:World)(S F:Nat->Prop)(x:Nat)(D:DG)(P:List Int):Prop:= ∃m,XV w F x D P m/\ ∀k,m.jB x k->S k
section
variable{w w':World}{F S:Nat->Prop}{x:Nat}{D:DG}{P:List Int}{m:XM}{K:Value->World->Prop}
theorem nu.aD{S0 SO:Nat->Prop}{N:Nat}{v:Option Value}{l:List HT}(h:nu w SO N v l)(hk:Kept S0 w w')(hn: ∀k,SO k-> ¬S0 k):nu w' SO N v l:=by
 rcases h with h|⟨A,n,c,h1,h2,h3,h4,h5⟩
 ·exact .inl h
 ·exact .inr ⟨A,n,c,h1,h2,h3.aD hk (fun a ha=>hn _ (h5 a ha)),h4,h5⟩
theorem XV.aD{S0:Nat->Prop}(h:XV w F x D P m)(hk:Kept S0 w w')(hS: ∀k,m.jB x k-> ¬S0 k)(hF: ∀k,F k-> ¬S0 k):XV w' F x D P m where
 top:=hk.heap h.top (hS _ (.inr (.inr (.inr (.inl rfl)))))
 G:=h.G.aD hk (fun k e=>hS k (.inl e)) hF
 T:=h.T.aD hk (fun k e=>hS k (.inr (.inl e)))
 JD:=h.JD
 bM:=h.bM
 dl:=h.dl
 at_:=h.at_.aD hk (hS _ (.inr (.inr (.inr (.inr (.inl rfl))))))
 row:=Row.aD h.row hk (fun k e=>by cases e;exact hS _ (.inr (.inr (.inr (.inr (.inr (.inl rfl)))))))
 VR:=by
  obtain⟨f,h1,h2⟩:=h.VR;refine⟨f,h1.aD hk (hS _ (.inr (.inr (.inr (.inr (.inr (.inr rfl))))))),fun y=>?_⟩;obtain⟨l,h3,h4⟩:=h2 y;exact⟨l,h3.aD hk (fun k e=>hS k (.inr (.inr (.inl e)))),h4⟩
 jJ:=h.jJ
 W:=h.W
 gt:=h.gt
 to:=h.to
 fd:=h.fd
 od:=h.od
 ne:=h.ne
 low:=fun k e=>Nat.lt_of_lt_of_le (h.low k e) hk.size
theorem XV.same(h:XV w F x D P m)(hk:Kept Nil w w'):XV w' F x D P m:=h.aD hk (fun _ _ h=>h) (fun _ _ h=>h)
theorem Br.aD{S0:Nat->Prop}(h:Br w S F x D P)(hk:Kept S0 w w')(hS: ∀k,S k-> ¬S0 k)(hF: ∀k,F k-> ¬S0 k):Br w' S F x D P:=
 let ⟨m,h1,h2⟩:=h;⟨m,h1.aD hk (fun k e=>hS k (h2 k e)) hF,h2⟩
theorem Br.same(h:Br w S F x D P)(hk:Kept Nil w w'):Br w' S F x D P:=h.aD hk (fun _ _ h=>h) (fun _ _ h=>h)
theorem XV.c0(h:XV w F x D P m):w.cell? ((⟨x,0,none⟩:Addr).add 0)=some (.pointer (some ⟨m.g,0,none⟩)):=by rw [a8,ax h.top];rfl
theorem XV.c1(h:XV w F x D P m):w.cell? ((⟨x,0,none⟩:Addr).add 1)=some (.pointer (some ⟨m.t,0,none⟩)):=by rw [a8,ax h.top];rfl
theorem XV.c2(h:XV w F x D P m):w.cell? ((⟨x,0,none⟩:Addr).add 2)=some (.map (some m.mb)):=by rw [a8,ax h.top];rfl
theorem XV.c3(h:XV w F x D P m):w.cell? ((⟨x,0,none⟩:Addr).add 3)=some (.slice (some ⟨m.ib,0,none⟩) D.length m.ic):=by rw [a8,ax h.top];rfl
theorem XV.c4(h:XV w F x D P m):w.cell? ((⟨x,0,none⟩:Addr).add 4)=some (.map (some m.cb)):=by rw [a8,ax h.top];rfl
theorem XV.LS(h:XV w F x D P m):m.T.length=D.length:=by
 have:=Tr.ek m.T;rw [h.bM,h.jJ.len]at this;exact this.symm
theorem XV.nJ(h:XV w F x D P m){i k:Nat}{id kd:Tr.Nd}(hi:m.T[i]? =some id)(hk:m.T[k]? =some kd):decide (kd.lo<=id.lo/\id.hi<=kd.hi)=true↔js P i k:=by
 rw [decide_eq_true_iff,<-h.bM];exact h.JD.under hi hk
theorem Cx(a b:HT):a.1.toList++(b.1.toList++ [])=cJ [a,b]:=by simp [cJ]
theorem rQ(h:XV w F x D P m)(hK:K (.bool true) w):bk prog eB.id #[.pointer (some ⟨x,0,none⟩)] w K:=
 eB.of (Split.yes rfl ⟨_,h.c0,hK⟩)
theorem wZ{xb:Nat}(h:XV w F x D P m)(hg:w.heap[xb]? =some (.cells #[.pointer (some ⟨x,0,none⟩)] fD (0,0))){A:Option Addr}{n cx:Nat}{l:List HT}(hl:HS w A n l)(hn:n<=400000)
 (hK: ∀w' (b:Bool),(b=true↔ ∃p∈l,p∉ids D)->Kept Nil w w'->K (.bool b) w'):
 bk prog du.id #[.slice A n cx,.func (.func di.id) #[] #[.pointer (some ⟨xb,0,none⟩)]] w K:=by
 have hlen:=hl.len;refine bV.of (an.of ?_);refine an.b9 (I:=fun s w'=> ∃i:Nat,s=(0,(i:Int))/\i<=n/\(∀p∈l.take i,p∈ids D)/\Kept Nil w w') (μ:=fun s _=>((n:Int)-s.2).toNat) (s:=(0,0)) ⟨0,rfl,Nat.zero_le _,by simp,Kept.refl _ _⟩ ?_;rintro s w' ⟨i,rfl,hi,cP,kw⟩;refine Split.dec (fun iP=>?_) (fun fV=>?_)
 ·simp only at iP
  have dN:i<n:=by omega
  obtain⟨y,hy⟩: ∃y,l[i]? =some y:=⟨_,List.getElem?_eq_getElem (by omega)⟩;refine(hl.same kw).load (i:=(i:Int)) (by omega) hy ?_;refine di.of ?_;unfold di.W;intro w3 w4;have k3:Kept Nil w' w3:=(Kept.refl _ _).alloc _;have oZ:w3.heap[w'.heap.size]? =some (.cells y.1 ai (0,0)):=aH w' _;have k4:Kept Nil w3 w4:=(Kept.refl _ _).drew;clear_value w4;have qN:=k4.heap oZ (fun h=>h);have FJ:=(kw.trans k3 (fun _ _ h=>h)).trans k4 (fun _ _ h=>h);obtain⟨bl,c,mb,M,G⟩:=(h.same FJ).G;refine⟨some ⟨x,0,none⟩,by rw [ax (FJ.heap hg (fun h=>h))];rfl,_,(h.same FJ).c0,y.1,⟨y.2.1,Cells.bA qN⟩,tc G y fun w7 k7=>⟨_,rfl,_,rfl,?_⟩⟩;have z6:=FJ.trans k7 (fun _ _ h=>h);by_cases hm:y∈ids D
  ·refine Split.no (by rw [decide_eq_true hm];rfl) ?_
   simp only;rw [dG (n:=(i:Int)) (by omega) (by omega)];refine⟨(0,(i:Int)+1),rfl,⟨i+1,rfl,dN,fun p hp=>?_,z6⟩,by simp only;omega⟩;rcases(bE hy).1 hp with hp|rfl
   ·exact cP p hp
   ·exact hm
  ·refine Split.yes (by rw [decide_eq_false hm];rfl) ?_
   refine⟨(i:Int),rfl,?_⟩;exact hK w7 _ ⟨fun _=>⟨y,List.mem_of_getElem? hy,hm⟩,fun _=>decide_eq_true (by omega)⟩ z6
 ·simp only at fV
  rw [aS,an.cZ];rw [List.take_of_length_le (by omega)]at cP;exact⟨-1,rfl,hK w' _ ⟨fun h=>absurd (of_decide_eq_true h) (by omega),fun⟨p,hp,hn⟩=>absurd (cP p hp) hn⟩ kw⟩
theorem oR(h:XV w F x D P m){A:Option Addr}{n cx:Nat}{l:List HT}(hl:HS w A n l)(hn:n<=400000)(hK: ∀w',Kept Nil w w'->K (.bool (decide (∀p∈l,p∈ids D))) w'):
 bk prog eR.id #[.pointer (some ⟨x,0,none⟩),.slice A n cx] w K:=by
 refine eR.of ?_;unfold eR.W;intro w3;have k3:Kept Nil w w3:=(Kept.refl _ _).alloc _;have oZ:w3.heap[w.heap.size]? =some (.cells #[.pointer (some ⟨x,0,none⟩)] fD (0,0)):=aH w _;clear_value w3;refine⟨_,by rw [ax oZ];rfl,rQ (h.same k3) ⟨true,rfl,Split.yes rfl ?_⟩⟩;refine wZ (h.same k3) oZ (hl.same k3) hn fun w9 b hb k9=>⟨b,rfl,?_⟩;have:(!b)=decide (∀p∈l,p∈ids D):=by
  rw [Bool.eq_iff_iff,decide_eq_true_iff,Bool.not_eq_true',<-Bool.not_eq_true,hb];constructor
  ·exact fun hn p hp=>Classical.byContradiction fun hc=>hn ⟨p,hp,hc⟩
  ·rintro ha ⟨p,hp,hc⟩;exact hc (ha p hp)
 rw [this];exact hK w9 (k3.trans k9 (fun _ _ h=>h))
theorem rT(h:XV w F x D P m)(a b:HT)(hK: ∀w' (r:Bool),(r=true↔Ch D P a b)->Kept Nil w w'->K (.bool r) w'):
 bk prog dS.id #[.pointer (some ⟨x,0,none⟩),.agg a.1,.agg b.1] w K:=by
 refine dS.of ?_;unfold dS.W;intro w4 w5 w6;have k4:Kept Nil w w4:=(Kept.refl _ _).alloc _;have vn:w4.heap[w.heap.size]? =some (.cells a.1 ai (0,0)):=aH w _;have k5:Kept Nil w4 w5:=(Kept.refl _ _).alloc _;have lU:w5.heap[w4.heap.size]? =some (.cells b.1 ai (0,0)):=aH w4 _;have k6:Kept Nil w5 w6:=(Kept.refl _ _).drew;clear_value w6;have vm:=(k5.trans k6 (fun _ _ h=>h)).heap vn (fun h=>h);have nK:=k6.heap lU (fun h=>h);have oV:=(k4.trans k5 (fun _ _ h=>h)).trans k6 (fun _ _ h=>h);refine⟨a.1,⟨a.2.1,Cells.bA vm⟩,b.1,⟨b.2.1,Cells.bA nK⟩,a.2.1,b.2.1,?_⟩;intro w9;have k9:Kept Nil w6 w9:=(Kept.refl _ _).alloc _;have hx9:HS w9 (some ⟨w6.heap.size,0,none⟩) 2 [a,b]:=HS.lay (l:= [a,b]) (t:=ai) (by rw [<-Cx a b];exact aH w6 _);clear_value w9;have vc:=oV.trans k9 (fun _ _ h=>h);refine oR (h.same vc) hx9 (by omega) fun sQ HJ=>⟨_,rfl,?_⟩;have DP:=vc.trans HJ (fun _ _ h=>h);have Lq:=h.same DP;by_cases cP: ∀p∈ [a,b],p∈ids D
 ·refine Split.yes (decide_eq_true cP) ?_
  obtain⟨na,Jb,ea⟩:=dI.1 (cP a (by simp));obtain⟨nb,R4,eb⟩:=dI.1 (cP b (by simp));obtain⟨k,hk⟩:=List.mem_iff_getElem?.1 Jb;obtain⟨i,hi⟩:=List.mem_iff_getElem?.1 R4;have AD:=(List.getElem?_eq_some_iff.1 hk).1;have dN:=(List.getElem?_eq_some_iff.1 hi).1;have XI:=h.LS;obtain⟨kd,St⟩:=Tr.fw (T:=m.T) (i:=k) (by omega);obtain⟨nd,fy⟩:=Tr.fw (T:=m.T) (i:=i) (by omega);have QR:=k9.trans HJ (fun _ _ h=>h);have l1:=Lq.at_.vQ b;have l2:=Lq.at_.vQ a;rw [<-eb,h.W.pos_eq hi]at l1;rw [<-ea,h.W.pos_eq hk]at l2;rw [eb]at l1;rw [ea]at l2;refine⟨_,Lq.c1,_,Lq.c2,b.1,⟨b.2.1,Cells.bA (QR.heap nK (fun h=>h))⟩,_,l1,_,Lq.c2,a.1,⟨a.2.1,Cells.bA (QR.heap vm (fun h=>h))⟩,_,l2,?_⟩;refine Tr.zJ Lq.T fy St fun kP pU=>⟨_,rfl,hK kP _ ?_ (DP.trans pU (fun _ _ h=>h))⟩;rw [h.nJ fy St];constructor
  ·exact fun hu=>⟨i,k,nb,na,hi,eb,hk,ea,hu⟩
  ·rintro⟨i',k',ni,nk,h1,h2,h3,h4,h5⟩
   have e1:=h.W.inj h1 hi (by rw [h2,eb]);have e2:=h.W.inj h3 hk (by rw [h4,ea]);rw [<-e1,<-e2];exact h5
 ·refine Split.no (decide_eq_false cP) (hK sQ false ⟨(fun e=>by cases e),fun e=>absurd (fun p hp=>?_) cP⟩ DP)
  simp only [List.mem_cons,List.not_mem_nil,or_false]at hp;rcases hp with rfl|rfl
  ·exact e.mem.1
  ·exact e.mem.2
theorem uD{xb bb:Nat}{b:HT}(h:XV w F x D P m)(hg:w.heap[xb]? =some (.cells #[.pointer (some ⟨x,0,none⟩)] fD (0,0)))(hb:w.heap[bb]? =some (.cells b.1 ai (0,0))){A:Option Addr}{n cx:Nat}{l:List HT}(hl:HS w A n l)(hn:n<=400000)
 (hK: ∀w' (r:Bool),(r=true↔ ∃c∈l,Ch D P c b)->Kept Nil w w'->K (.bool r) w'):
 bk prog du.id #[.slice A n cx,.func (.func cG.id) #[] #[.pointer (some ⟨xb,0,none⟩),.pointer (some ⟨bb,0,none⟩)]] w K:=by
 have hlen:=hl.len;refine bO.of (aj.of ?_);refine aj.b9 (I:=fun s w'=> ∃i:Nat,s=(0,(i:Int))/\i<=n/\(∀p∈l.take i,¬Ch D P p b)/\Kept Nil w w') (μ:=fun s _=>((n:Int)-s.2).toNat) (s:=(0,0)) ⟨0,rfl,Nat.zero_le _,by simp,Kept.refl _ _⟩ ?_;rintro s w' ⟨i,rfl,hi,cP,kw⟩;refine Split.dec (fun iP=>?_) (fun fV=>?_)
 ·simp only at iP
  have dN:i<n:=by omega
  obtain⟨y,hy⟩: ∃y,l[i]? =some y:=⟨_,List.getElem?_eq_getElem (by omega)⟩;refine(hl.same kw).load (i:=(i:Int)) (by omega) hy ?_;refine cG.of ?_;unfold cG.W;intro w4;have k4:Kept Nil w' w4:=(Kept.refl _ _).alloc _;have qN:w4.heap[w'.heap.size]? =some (.cells y.1 ai (0,0)):=aH w' _;clear_value w4;have FJ:=kw.trans k4 (fun _ _ h=>h);refine⟨some ⟨x,0,none⟩,by rw [ax (FJ.heap hg (fun h=>h))];rfl,y.1,⟨y.2.1,Cells.bA qN⟩,b.1,⟨b.2.1,Cells.bA (FJ.heap hb (fun h=>h))⟩,rT (h.same FJ) y b fun w7 r hr k7=>⟨r,rfl,r,rfl,?_⟩⟩;have z6:=FJ.trans k7 (fun _ _ h=>h);cases r with
  |false=>
   refine Split.no rfl ?_;simp only;rw [dG (n:=(i:Int)) (by omega) (by omega)];refine⟨(0,(i:Int)+1),rfl,⟨i+1,rfl,dN,fun p hp hc=>?_,z6⟩,by simp only;omega⟩;rcases(bE hy).1 hp with hp|rfl
   ·exact cP p hp hc
   ·cases hr.2 hc
  |true=>
   refine Split.yes rfl ⟨(i:Int),rfl,?_⟩;exact hK w7 _ ⟨fun _=>⟨y,List.mem_of_getElem? hy,hr.1 rfl⟩,fun _=>decide_eq_true (by omega)⟩ z6
 ·simp only at fV
  rw [aS,aj.cZ];rw [List.take_of_length_le (by omega)]at cP;exact⟨-1,rfl,hK w' _ ⟨fun h=>absurd (of_decide_eq_true h) (by omega),fun⟨p,hp,hn⟩=>absurd hn (cP p hp)⟩ kw⟩
theorem kL(h:XV w F x D P m)(hD:D.length<=5000)(a b:HT)(hK: ∀w' (r:Bool),(r=true↔eT D a b)->Kept Nil w w'->K (.bool r) w'):
 bk prog dD.id #[.pointer (some ⟨x,0,none⟩),.agg a.1,.agg b.1] w K:=by
 refine dD.of ?_;unfold dD.W;intro w4 w5 w6;have k4:Kept Nil w w4:=(Kept.refl _ _).alloc _;have Re:w4.heap[w.heap.size]? =some (.cells #[.pointer (some ⟨x,0,none⟩)] fD (0,0)):=aH w _;have k5:Kept Nil w4 w5:=(Kept.refl _ _).alloc _;have EI:w5.heap[w4.heap.size]? =some (.cells a.1 ai (0,0)):=aH w4 _;have k6:Kept Nil w5 w6:=(Kept.refl _ _).alloc _;have nK:w6.heap[w5.heap.size]? =some (.cells b.1 ai (0,0)):=aH w5 _;clear_value w6;have vm:=k6.heap EI (fun h=>h);have MT:=(k5.trans k6 (fun _ _ h=>h)).heap Re (fun h=>h);have oV:=(k4.trans k5 (fun _ _ h=>h)).trans k6 (fun _ _ h=>h);refine⟨_,by rw [ax MT];rfl,a.1,⟨a.2.1,Cells.bA vm⟩,b.1,⟨b.2.1,Cells.bA nK⟩,a.2.1,b.2.1,?_⟩;intro w10;have nv:Kept Nil w6 w10:=(Kept.refl _ _).alloc _;have I0:HS w10 (some ⟨w6.heap.size,0,none⟩) 2 [a,b]:=HS.lay (l:= [a,b]) (t:=ai) (by rw [<-Cx a b];exact aH w6 _);clear_value w10;have Ai:=oV.trans nv (fun _ _ h=>h);refine oR (h.same Ai) I0 (by omega) fun lF vX=>⟨_,rfl,?_⟩;have rh:=Ai.trans vX (fun _ _ h=>h);have Ac:=nv.trans vX (fun _ _ h=>h);by_cases cP: ∀p∈ [a,b],p∈ids D
 ·refine Split.no (by rw [decide_eq_true cP];rfl) ?_
  have ZY:=Ac.heap vm (fun h=>h);have ZS:=Ac.heap nK (fun h=>h);refine⟨a.1,⟨a.2.1,Cells.bA ZY⟩,b.1,⟨b.2.1,Cells.bA ZS⟩,⟨a.2.ints,b.2.ints⟩,?_⟩;rw [cQ];refine Split.dec (fun he=>?_) (fun he=>?_)
  ·subst he
   exact hK lF false ⟨(fun e=>by cases e),fun e=>absurd e (eT.irrefl h.W a)⟩ rh
  ·intro je
   have mX:Kept Nil lF je:=(Kept.refl _ _).drew;clear_value je;have Q3:=rh.trans mX (fun _ _ h=>h);have IK:=Ac.trans mX (fun _ _ h=>h);refine⟨_,by rw [ax (IK.heap MT (fun h=>h))];rfl,a.1,⟨a.2.1,Cells.bA (IK.heap vm (fun h=>h))⟩,b.1,⟨b.2.1,Cells.bA (IK.heap nK (fun h=>h))⟩,?_⟩;refine rT (h.same Q3) a b fun xA r hr FZ=>⟨r,rfl,?_⟩;have Mz:=Q3.trans FZ (fun _ _ h=>h);have IJ:=IK.trans FZ (fun _ _ h=>h);cases r with
   |true=>exact Split.yes rfl (hK xA true ⟨fun _=>(Hp h.W h.jJ he).2 (.inl (hr.1 rfl)),fun _=>rfl⟩ Mz)
   |false=>
    refine Split.no rfl ?_;have h21:=h.same Mz;obtain⟨f,hf,S8⟩:=h21.VR;obtain⟨l,hl,gJ⟩:=S8 a;have Cr:=hf.look wL a;have fin: ∀ {A:Option Addr} {n c:Nat},(f a).getD (.slice none 0 0)=.slice A n c->HS xA A n l->n<=D.length->
     bk prog du.id #[.slice A n c,.func (.func cG.id) #[] #[.pointer (some ⟨w.heap.size,0,none⟩),.pointer (some ⟨w5.heap.size,0,none⟩)]] xA fun v28 Wg=> ∃t:Bool,v28=.bool t/\K (.bool t) Wg:=fun _ hs hn=>
     uD h21 (IJ.heap MT (fun h=>h)) (IJ.heap nK (fun h=>h)) hs (by omega) fun uS r2 ji IN=>⟨r2,rfl,hK uS r2 (by
      rw [ji,Hp h.W h.jJ he];constructor
      ·rintro⟨c,h1,h2⟩;exact .inr ⟨c,(gJ c).1 h1,h2⟩
      ·rintro(h1|⟨c,h1,h2⟩)
       ·cases hr.2 h1
       ·exact⟨c,(gJ c).2 h1,h2⟩) (Mz.trans IN (fun _ _ h=>h))⟩
    refine⟨some ⟨x,0,none⟩,by rw [ax (IJ.heap MT (fun h=>h))];rfl,_,h21.c4,a.1,⟨a.2.1,Cells.bA (IJ.heap vm (fun h=>h))⟩,?_⟩;rcases hl with⟨h1,rfl⟩|⟨A,n,c,h1,h2,h3,h4,h5⟩
    ·rw [h1]at Cr
     exact⟨none,0,0,Cr,fin (by rw [h1];rfl) (HS.nil _ _) (by omega)⟩
    ·rw [h1]at Cr
     exact⟨A,n,c,Cr,fin (by rw [h1];rfl) h3 h4⟩
 ·refine Split.yes (by rw [decide_eq_false cP];rfl) (hK lF false ⟨(fun e=>by cases e),fun e=>absurd (fun p hp=>?_) cP⟩ rh)
  simp only [List.mem_cons,List.not_mem_nil,or_false]at hp;rcases hp with rfl|rfl
  ·exact(e.mem h.W).1
  ·exact(e.mem h.W).2
end
end Go.Proofs.YtnboahlopghcjaaGreatDoor
namespace Go.Proofs.YtnboahlopghcjaaGreatDoor
open Go.Proofs.Tryz
open Go Go.bS Go.RowKit
section
variable{w w':World}{K:Value->World->Prop}
theorem wk{A:Option Addr}{n c:Nat}(DW:n<=c)(hK:K (.slice A n n) w):bk prog cU.id #[.slice A n c] w K:=by
 refine cU.of ⟨⟨by omega,by omega⟩,⟨by omega,by simp⟩,?_⟩;have e:(if(n:Int).toNat=0 then A else A.map (·.add (0*32)))=A:=by
  split
  ·rfl
  ·cases A with
   |none=>rfl
   |some a=>simp [add_zero]
 rw [e];simpa using hK
theorem vo{A:Option Addr}{n c:Nat}{l:List HT}(h:HT)(hl:HS w A n l)(hn:n<=1000000)(hK: ∀w',Kept Nil w w'->K (.bool (decide (h∈l))) w'):
 bk prog cr.id #[.slice A n c,.agg h.1] w K:=by
 have hlen:=hl.len;refine cr.of ?_;unfold cr.W;intro w3;have k3:Kept Nil w w3:=(Kept.refl _ _).alloc _;have oZ:w3.heap[w.heap.size]? =some (.cells h.1 ai (0,0)):=aH w _;clear_value w3;refine⟨h.1,⟨h.2.1,Cells.bA oZ⟩,?_⟩;refine aM.of ?_;unfold aM.W;intro w4;have k4:Kept Nil w3 w4:=(Kept.refl _ _).alloc _;have qN:w4.heap[w3.heap.size]? =some (.cells h.1 ai (0,0)):=aH w3 _;clear_value w4;have pI:=k3.trans k4 (fun _ _ h=>h);refine aM.b9 (I:=fun s w'=> ∃i:Nat,s=(0,(i:Int))/\i<=n/\Kept Nil w4 w'/\h∉l.take i) (μ:=fun s _=>((n:Int)-s.2).toNat) (s:=(0,0)) ⟨0,rfl,Nat.zero_le _,Kept.refl _ _,by simp⟩ ?_;rintro s w' ⟨i,rfl,hi,kw,mo⟩;refine Split.dec (fun cH=>?_) (fun fV=>?_)
 ·simp only at cH
  have dN:i<n:=by omega
  obtain⟨y,hy⟩: ∃y,l[i]? =some y:=⟨_,List.getElem?_eq_getElem (by omega)⟩;intro w9;have k9:Kept Nil w' w9:=(Kept.refl _ _).drew;clear_value w9;have W9:=kw.trans k9 (fun _ _ h=>h);have vc:=pI.trans W9 (fun _ _ h=>h);refine⟨h.1,⟨h.2.1,Cells.bA (W9.heap qN (fun h=>h))⟩,?_⟩;refine(hl.same vc).load (i:=(i:Int)) (by omega) hy ⟨⟨h.2.ints,y.2.ints⟩,?_⟩;rw [cQ];refine Split.dec (fun he=>?_) (fun he=>?_)
  ·refine⟨(i:Int),rfl,?_⟩
   have:=hK w9 vc;rw [decide_eq_true (by rw [he];exact List.mem_of_getElem? hy)]at this;rw [show decide ((i:Int)>=(0:Int))=true from decide_eq_true (by omega)];exact this
  ·simp only
   rw [gH (x:=(i:Int)+1) (by omega) (by omega)];refine⟨(0,(i:Int)+1),rfl,⟨i+1,rfl,dN,W9,?_⟩,by simp only;omega⟩;rw [List.take_add_one,hy];simp only [Option.toList_some,List.mem_append,List.mem_singleton,not_or];exact⟨mo,he⟩
 ·simp only at fV
  rw [aS,aM.cZ];refine⟨-1,rfl,?_⟩;have:=hK w' (pI.trans kw (fun _ _ h=>h));rw [List.take_of_length_le (by omega)]at mo;rw [decide_eq_false mo]at this;exact this
theorem xc{A:Option Addr}{n cx:Nat}{l:List HT}{h:HT}{b:Nat}(hl:HS w A n l)(hb:HS w (some ⟨b,0,none⟩) 1 [h])(hn:n<=100000):
 ∃A' c' w',(Builtin.append_ #[ay,ay] ay #[.slice A n n,.slice (some ⟨b,0,none⟩) 1 cx]).run prog w=.ok (.slice A' (n+1) c') w'/\
  HS w' A' (n+1) (l++ [h])/\n+1<=c'/\(∀a,A'=some a->w.heap.size<=a.block/\a.block<w'.heap.size)/\Kept Nil w w':=by
 have hlen:=hl.len;cases A with
 |none=>
  obtain⟨rfl,rfl⟩:=hl.none;obtain⟨A',c',w',hr,eM,hg,hbk⟩:=cD (cx:=cx) ay (bQ.nil w w.heap.size) hb (by omega) (Nat.le_refl _);rw [Nat.zero_add]at hr eM;rw [List.nil_append]at eM;obtain⟨b',rfl⟩:=Row.some eM (by omega);have vj:=Row.bA eM (k:=b') rfl;refine⟨some ⟨b',0,Option.none⟩,c',w',hr,bQ.hs eM,?_,fun a ha=>?_,Kept.dw (Kept.refl _ _) hg (fun k hk=>by cases hk)⟩
  ·rcases Row.own eM with⟨h1,_⟩|⟨_,_,_,_,_,h1,_⟩
   ·cases h1
   ·exact h1
  ·cases ha
   obtain⟨h1,cur,h2⟩:=vj;exact⟨h1,aT h2⟩
 |some a=>
  obtain⟨i,z,hi,hz,hs,HV,Cj⟩:=nS.inf;have hr:=run_append_grow (P:=prog) (w:=w) ay ay ai i z nS.nJ hi hz a n n (cJ l) (by rw [dZ,hs,hlen]) hl.cells ⟨b,0,Option.none⟩ 1 cx (cJ [h]) (by rw [dZ,hs];rfl) hb.cells (by omega) (by omega) (growslice_fits (by omega) (by rw [HV];omega));refine⟨_,_,_,hr,⟨by simp [hlen],fun j y hj=>⟨_,rfl,?_,?_⟩⟩,grownCap_ge _ _ _ _,fun a' zw=>?_,?_⟩
  ·have:=aH w.drew (.cells ((cJ l).toArray++(cJ [h]).toArray++Builtin.zeroCells z.cells (grownCap w (n+1) n ai-(n+1))) ai)
   exact aT this
  ·intro q v hq
   rw [a8,a8,Nat.zero_add];have hblk:=aH w.drew (.cells ((cJ l).toArray++(cJ [h]).toArray++Builtin.zeroCells z.cells (grownCap w (n+1) n ai-(n+1))) ai);have e:(w.drew.heap.size)=w.heap.size:=rfl;rw [e]at hblk;rw [ax hblk];have h1:=jM hj hq;rw [ln]at h1;have cH:=(List.getElem?_eq_some_iff.1 h1).1;rw [Array.getElem?_append_left (by simpa using cH)];simpa using h1
  ·cases zw
   have:=aH w.drew (.cells ((cJ l).toArray++(cJ [h]).toArray++Builtin.zeroCells z.cells (grownCap w (n+1) n ai-(n+1))) ai);exact⟨Nat.le_refl _,aT this⟩
  ·exact(Kept.refl Nil w).drew.alloc _
end
end Go.Proofs.YtnboahlopghcjaaGreatDoor
namespace Go.Proofs.YtnboahlopghcjaaGreatDoor
open Go.Proofs.Tryz
open Go Go.bS Go.RowKit
def fZ(D:DG)(h s:HT)(l:List HT):Int:=if dg D h l=0 then(if s∈l then 0 else 2)else dg D h l
theorem oI{D:DG}{h:HT}{l:List HT}(e:dg D h l=0):lI D h l=D++ [⟨h,df l⟩]:=by unfold lI;rw [if_pos e]
section
variable{w w':World}{S ST:Nat->Prop}{t:Nat}{T:List Tr.Nd}{d:Int}
theorem rK(h:Tr.nM w ST t T d):Tr.nM w (fun k=>ST k/\k<w.heap.size) t T d:=by
 obtain⟨b,c,L,h⟩:=h;refine⟨b,c,L,{h with gC:=⟨h.gC,h.lt⟩,fG:=⟨h.fG,?_⟩,pH:=fun i p hi=>?_}⟩
 ·obtain⟨A,m,hk⟩:=h.pH i p hi
  exact⟨A,m,{hk with jB:=fun k e=>⟨hk.jB k e,let ⟨_,_,hc⟩:=Row.bA hk.row e;aT hc⟩}⟩
 ·obtain⟨cur,hc⟩:=h.uJ
  exact aT hc
end
section
variable{w w':World}{F:Nat->Prop}{x:Nat}{D:DG}{P:List Int}{m:XM}{K:Value->World->Prop}
theorem Hr{v:World}{hid s:HT}{S2 F2 SO2:Nat->Prop}{ps:List HT}{j:Nat}{mj:DN}{DQ sb:Nat}{b8:Int}{Dt:Option Nat}{A7:Option Addr}{n7 c7:Nat}{i7:Int}{s1 s2:Nat}
 (h:XV w F x D P m) (hD:D.length<=5000) (hn:hid∉ids D) (fh: ∀p∈ps,p∈ids D) (sX:SS ps) (hj:D[j]? =some mj) (hs:mj.id=s) (EB:s∈ps)
 (iB:v.heap[x]? =some (.cells #[.pointer (some ⟨m.g,0,none⟩),.pointer (some ⟨m.t,0,none⟩),.map (some m.mb),.slice (some ⟨m.ib,0,none⟩) D.length m.ic,.map (some m.cb)] dW (0,0)))
 (agG:w.heap.size<=DQ) (afz:w.heap.size<=sb) (Nw:v.heap[DQ]? =some (.cells hid.1 ai (0,0))) (EC:v.heap[sb]? =some (.cells s.1 ai (0,0)))
 (hG:Bs v S2 F2 m.g (D++ [⟨hid,ps⟩])) (hT:Tr.nM v m.ST m.t m.T m.d) (hat:IsMap v m.mb (ids D)) (eM:bQ v 0 (some ⟨m.ib,0,none⟩) D.length m.ic (ids D))
 (NN: ∃f,fc v m.cb f/\ ∀y,∃l,nu v SO2 (D.length+1) (f y) l/\ ∀c,c∈l↔Lz (D++ [⟨hid,ps⟩]) (P++ [(j:Int)]) y c)
 (ow:w.heap.size<=s1) (vf:s1<=s2) (An:s2<=v.heap.size)
 (O1: ∀k,S2 k->(m.SG k\/w.heap.size<=k)/\k<s1) (O2: ∀k,F2 k->(F k\/w.heap.size<=k)/\k<s1) (Kk: ∀k,SO2 k->m.SO k\/(s2<=k/\k<v.heap.size))
 (kv:Kept (fun k=>m.jB x k) w v)
 (hK: ∀u S' F',Br u S' F' x (D++ [⟨hid,ps⟩]) (P++ [(j:Int)])->Kept (fun k=>m.jB x k) w u->(∀k,S' k->m.jB x k\/w.heap.size<=k)->(∀k,F' k->F k\/w.heap.size<=k)->K (.int .i64 0) u):
 az.OH (some ⟨x,0,none⟩) ⟨DQ,0,none⟩ ⟨sb,0,none⟩ b8 Dt A7 n7 c7 i7 i7 K v:=by
 have W:=h.W;have mq:=h.low;have sY:=(List.getElem?_eq_some_iff.1 hj).1;have XI:=h.LS;have Yq:m.own x x:=.inl rfl;have RR:m.own x m.mb:=.inr (.inl rfl);have RS:m.own x m.ib:=.inr (.inr (.inl rfl));have sx:m.own x m.cb:=.inr (.inr (.inr rfl));obtain⟨OX,Qk,Ma,Qj,OW,Qi⟩:=h.ne;unfold az.OH;intro CT;have u9:Kept Nil v CT:=(Kept.refl _ _).drew;clear_value CT;have c1:CT.cell? ((⟨x,0,none⟩:Addr).add 1)=some (.pointer (some ⟨m.t,0,none⟩)):=by rw [a8,ax (u9.heap iB (fun h=>h))];rfl
 have c2:CT.cell? ((⟨x,0,none⟩:Addr).add 2)=some (.map (some m.mb)):=by rw [a8,ax (u9.heap iB (fun h=>h))];rfl
 have GW:=hat.aD u9 (fun h=>h);have lk:=GW.vQ s;rw [<-hs,W.pos_eq hj]at lk;rw [hs]at lk;refine⟨_,c1,_,c2,s.1,⟨s.2.1,Cells.bA (u9.heap EC (fun h=>h))⟩,_,lk,?_⟩;have TM:=rK (hT.same u9);refine Tr.Fb TM h.JD (p:=j) (by omega) (by omega) ⟨h.dl.1,by have:=h.dl.2;omega⟩ fun CS Uw T' d' TL G0 RL hd' DO Z3=>⟨_,_,rfl,?_⟩;have aei:=u9.size;have O0: ∀k,Uw k->m.ST k\/CT.heap.size<=k:=fun k hk=>(Z3 k hk).imp (fun h=>h.1) (fun h=>h);have nST: ∀k,(m.ST k/\k<CT.heap.size)->m.ST k:=fun k h=>h.1;have LQ:=DO.heap (u9.heap iB (fun h=>h)) (fun e=>(h.od x Yq).2.1 e.1);intro E0;have DM:Kept Nil CS E0:=(Kept.refl _ _).drew;clear_value E0;have Ff:=DM.heap LQ (fun h=>h);have Cq: ∀k,m.ST k->k<w.heap.size:=fun k e=>mq k (.inl (.inr (.inl e)));have lox:x<w.heap.size:=mq x (.inl (.inr (.inr (.inr Yq))));have aeH:m.mb<w.heap.size:=mq _ (.inl (.inr (.inr (.inr RR))));have aeI:m.ib<w.heap.size:=mq _ (.inl (.inr (.inr (.inr RS))));have Qu:m.cb<w.heap.size:=mq _ (.inl (.inr (.inr (.inr sx))));have sv:=kv.size;have Cu:E0.heap[DQ]? =some (.cells hid.1 ai (0,0)):=DM.heap (DO.heap (u9.heap Nw (fun h=>h)) (fun e=>by have:=Cq _ e.1;omega)) (fun h=>h);have Bd:E0.cell? ((⟨x,0,none⟩:Addr).add 2)=some (.map (some m.mb)):=by rw [a8,ax Ff];rfl
 have Oa:IsMap E0 m.mb (ids D):=(GW.aD DO (fun e=>(h.od _ RR).2.1 e.1)).aD DM (fun h=>h);obtain⟨LJ,KP,NZ,Q1⟩:=Oa.put hn;rw [fI,<-XI]at KP;refine⟨_,Bd,hid.1,⟨hid.2.1,Cells.bA Cu⟩,LJ,KP,?_⟩;intro CR;have Q0:Kept Nil LJ CR:=(Kept.refl _ _).drew;clear_value CR;have wP:=Q1.trans Q0 (fun _ _ h=>h.elim);have Fe:=wP.heap Ff (fun e=>OX e);have c3: ∀ {u:World},Kept Nil CR u->u.cell? ((⟨x,0,none⟩:Addr).add 3)=some (.slice (some ⟨m.ib,0,none⟩) D.length m.ic):=fun k=>by rw [a8,ax (k.heap Fe (fun h=>h))];rfl
 have Jg:=wP.heap Cu (fun e=>by omega);refine⟨_,_,_,c3 (Kept.refl _ _),hid.1,⟨hid.2.1,Cells.bA Jg⟩,hid.2.1,?_⟩;intro xD;have IS:Kept Nil CR xD:=(Kept.refl _ _).alloc _;have TC:HS xD (some ⟨CR.heap.size,0,none⟩) 1 [hid]:=iW CR hid;clear_value xD;have Ce:=wP.trans IS (fun _ _ h=>h.elim);have L5:bQ xD 0 (some ⟨m.ib,0,none⟩) D.length m.ic (ids D):=
  Row.aD (Row.aD (Row.aD (Row.aD eM u9 (fun _ _ h=>h)) DO (fun k e e'=>by cases e;exact(h.od _ RS).2.1 e'.1)) DM (fun _ _ h=>h)) Ce (fun k e e'=>by cases e;exact Qj e'.symm)
 obtain⟨A',c',CQ,RC,zQ,SL,TB⟩:=cD (cx:=1) ay L5 TC (by omega) (Nat.zero_le _);have Mx:Kept (· =m.ib) xD CQ:=Kept.grown (Kept.refl _ _) SL (fun k e _=>by cases e;rfl);obtain⟨zr,rfl⟩:=Row.some zQ (by omega);have Jh:zr=m.ib\/xD.heap.size<=zr:=by
  rcases TB zr rfl with e|e
  ·left;simpa [bg]using e.symm
  ·exact .inr e
 have Fc:=Mx.heap (IS.heap Fe (fun h=>h)) (fun e=>Qk e);refine⟨c3 IS,some ⟨zr,0,none⟩,_,c',CQ,RC,Is.mk rfl ⟨?_,?_⟩⟩
 ·rw [a8]
  exact dO Fc (by simp)
 intro xC;have Uh:xC=CQ.setCell ⟨x,3,none⟩ (.slice (some ⟨zr,0,none⟩) (D.length+1) c'):=by
  show CQ.setCell ((⟨x,0,none⟩:Addr).add 3) _=_
  rw [a8]
 have Mw:Kept (· =x) CQ xC:=by rw [Uh];exact Kept.setCell (S:=fun k=>k=x) (Kept.refl _ CQ) (p:=⟨x,3,none⟩) (fun _=>rfl) _
 have LP:xC.heap[x]? =some (.cells #[.pointer (some ⟨m.g,0,none⟩),.pointer (some ⟨m.t,0,none⟩),.map (some m.mb),.slice (some ⟨zr,0,none⟩) (D.length+1) c',.map (some m.cb)] dW (0,0)):=by
  rw [Uh,cR Fc 3];rfl
 clear_value xC;have aeh:=DO.size;have aeg:=DM.size;have aef:=Ce.size;have aee:=Mx.size;have aed:=Mw.size;have kC:Kept (fun k=>k=m.ib\/k=x) LJ xC:=(((Q0.trans IS (fun _ _ h=>h)).mono (S':=fun k=>k=m.ib\/k=x) (fun _ _ h=>h.elim)).trans Mx (fun _ _ h=>.inl h)).trans Mw (fun _ _ h=>.inr h);have kB:Kept (fun k=>k=m.mb\/k=m.ib\/k=x) CS xC:=((DM.mono (S':=fun k=>k=m.mb\/k=m.ib\/k=x) (fun _ _ h=>h.elim)).trans Q1 (fun _ _ h=>.inl h)).trans kC (fun _ _ h=>.inr h);have kA:Kept (fun k=>m.ST k\/k=m.mb\/k=m.ib\/k=x) v xC:=((u9.mono (S':=fun k=>m.ST k\/k=m.mb\/k=m.ib\/k=x) (fun _ _ h=>h.elim)).trans DO (fun _ _ h=>.inl h.1)).trans kB (fun _ _ h=>.inr h);have Ds: ∀k,(k=m.mb\/k=m.ib\/k=x)->m.own x k:=fun k e=>by
  rcases e with e|e|e
  ·exact .inr (.inl e)
  ·exact .inr (.inr (.inl e))
  ·exact .inl e
 have Im: ∀k,m.own x k->k<w.heap.size:=fun k e=>mq k (.inl (.inr (.inr (.inr e))));have Iw: ∀k,m.SG k->k<w.heap.size:=fun k e=>mq k (.inl (.inl e));have FH: ∀k,m.SO k->k<w.heap.size:=fun k e=>mq k (.inl (.inr (.inr (.inl e))));have nG: ∀k,S2 k-> ¬(m.ST k\/k=m.mb\/k=m.ib\/k=x):=fun k h1 h2=>by
  obtain⟨h3,_⟩:=O1 k h1;rcases h2 with h2|h2
  ·rcases h3 with h3|h3
   ·exact(h.gt k h3).1 h2
   ·have:=Cq k h2;omega
  ·have h4:=Ds k h2
   rcases h3 with h3|h3
   ·exact(h.od k h4).1 h3
   ·have:=Im k h4;omega
 have nF: ∀k,F2 k-> ¬(m.ST k\/k=m.mb\/k=m.ib\/k=x):=fun k h1 h2=>by
  obtain⟨h3,_⟩:=O2 k h1;rcases h2 with h2|h2
  ·rcases h3 with h3|h3
   ·exact(h.fd k h3).1 h2
   ·have:=Cq k h2;omega
  ·have h4:=Ds k h2
   rcases h3 with h3|h3
   ·exact(h.od k h4).2.2.2 h3
   ·have:=Im k h4;omega
 have WJ: ∀k,SO2 k-> ¬(m.ST k\/k=m.mb\/k=m.ib\/k=x):=fun k h1 h2=>by
  rcases Kk k h1 with h3|⟨h3,_⟩
  ·rcases h2 with h2|h2
   ·exact h.to k h2 h3
   ·exact(h.od k (Ds k h2)).2.2.1 h3
  ·rcases h2 with h2|h2
   ·have:=Cq k h2;omega
   ·have:=Im k (Ds k h2);omega
 have nT: ∀k,(Uw k/\k<CS.heap.size)-> ¬(k=m.mb\/k=m.ib\/k=x):=fun k h1 h2=>by
  have h4:=Ds k h2;rcases O0 k h1.1 with h3|h3
  ·exact(h.od k h4).2.1 h3
  ·have:=Im k h4;omega
 refine hK xC (fun k=>(S2 k\/(Uw k/\k<CS.heap.size)\/SO2 k\/(k=x\/k=m.mb\/k=zr\/k=m.cb))) F2 ⟨{m with ib:=zr,ic:=c',T:=T',d:=d',SG:=S2,ST:=fun k=>Uw k/\k<CS.heap.size,SO:=SO2},?_,fun k e=>e⟩ ?_ ?_ ?_
 ·refine⟨?_,hG.aD kA nG nF,(rK TL).aD kB nT,G0,?_,?_,?_,?_,?_,?_,?_,?_,?_,?_,?_,?_,?_⟩
  ·rw [List.length_append];exact LP
  ·show Tr.bM T'=_
   rw [RL,h.bM]
  ·have:=h.dl
   simp only [List.length_append,List.length_singleton];show 0<=d'/\d'<=_
   omega
  ·rw [jX]
   exact NZ.aD kC (fun e=>e.elim (fun e=>Qj e) (fun e=>OX e.symm))
  ·rw [jX,List.length_append]
   refine Row.aD zQ Mw (fun k e e'=>?_);have e1:zr=k:=by simpa [bg]using e
   rcases Jh with e|e
   ·exact Qk (e'.symm.trans (e1.symm.trans e))
   ·omega
  ·obtain⟨f,hf,hc⟩:=NN
   refine⟨f,hf.aD kA (fun e=>?_),fun y=>?_⟩
   ·rcases e with e|e|e|e
    ·exact(h.od _ sx).2.1 e
    ·exact OW e.symm
    ·exact Qi e.symm
    ·exact Ma e.symm
   ·obtain⟨l,h1,h2⟩:=hc y
    refine⟨l,?_,h2⟩;rw [List.length_append];exact h1.aD kA WJ
  ·exact h.jJ.snoc hj (by rw [hs];exact EB) W.pos
  ·exact W.snoc (nd:=⟨hid,ps⟩) hn fh sX
  ·intro k h1
   obtain⟨h3,h4⟩:=O1 k h1;refine⟨fun h2=>?_,fun h2=>?_⟩
   ·rcases O0 k h2.1 with h5|h5
    ·exact nG k h1 (.inl h5)
    ·omega
   ·rcases Kk k h2 with h5|h5
    ·rcases h3 with h3|h3
     ·exact(h.gt k h3).2 h5
     ·have:=FH k h5;omega
    ·omega
  ·intro k h1 h2
   rcases O0 k h1.1 with h5|h5
   ·exact WJ k h2 (.inl h5)
   ·rcases Kk k h2 with h6|h6
    ·have:=FH k h6;omega
    ·omega
  ·intro k h1
   obtain⟨h3,h4⟩:=O2 k h1;refine⟨fun h2=>?_,fun h2=>?_⟩
   ·rcases O0 k h2.1 with h5|h5
    ·exact nF k h1 (.inl h5)
    ·omega
   ·rcases Kk k h2 with h5|h5
    ·rcases h3 with h3|h3
     ·exact(h.fd k h3).2 h5
     ·have:=FH k h5;omega
    ·omega
  ·intro k e
   have e':(k=m.mb\/k=m.ib\/k=x)\/(k=m.cb)\/(k=zr/\xD.heap.size<=zr):=by
    rcases e with e|e|e|e
    ·exact .inl (.inr (.inr e))
    ·exact .inl (.inl e)
    ·rcases Jh with h5|h5
     ·exact .inl (.inr (.inl (e.trans h5)))
     ·exact .inr (.inr ⟨e,h5⟩)
    ·exact .inr (.inl e)
   have big:xD.heap.size<=k-> ¬S2 k/\ ¬(Uw k/\k<CS.heap.size)/\ ¬SO2 k/\ ¬F2 k:=fun hb=>
    ⟨fun h1=>by have:=(O1 k h1).2;omega,fun h1=>by have:=h1.2;omega,fun h1=>(Kk k h1).elim (fun h2=>by have:=FH k h2;omega) (fun h2=>by omega),fun h1=>by have:=(O2 k h1).2;omega⟩
   rcases e' with e'|e'|⟨rfl,e'⟩
   ·exact⟨fun h1=>nG k h1 (.inr e'),fun h1=>nT k h1 e',fun h1=>WJ k h1 (.inr e'),fun h1=>nF k h1 (.inr e')⟩
   ·subst e'
    have Vq:=h.od _ sx;refine⟨fun h1=>?_,fun h1=>?_,fun h1=>?_,fun h1=>?_⟩
    ·rcases(O1 _ h1).1 with h2|h2
     ·exact Vq.1 h2
     ·omega
    ·rcases O0 _ h1.1 with h2|h2
     ·exact Vq.2.1 h2
     ·omega
    ·rcases Kk _ h1 with h2|h2
     ·exact Vq.2.2.1 h2
     ·omega
    ·rcases(O2 _ h1).1 with h2|h2
     ·exact Vq.2.2.2 h2
     ·omega
   ·exact big e'
  ·show x≠m.mb/\x≠zr/\x≠m.cb/\m.mb≠zr/\m.mb≠m.cb/\zr≠m.cb
   rcases Jh with h5|h5
   ·rw [h5];exact⟨OX,Qk,Ma,Qj,OW,Qi⟩
   ·exact⟨OX,by omega,Ma,by omega,OW,by omega⟩
  ·intro k e
   have hblk:=(Row.bA zQ (k:=zr) rfl).2;obtain⟨cur,ox⟩:=hblk;have lib:=aT ox;rcases e with e|e
   ·rcases e with e|e|e|e
    ·have:=(O1 k e).2;omega
    ·have:=e.2;omega
    ·rcases Kk k e with h2|h2
     ·have:=FH k h2;omega
     ·omega
    ·rcases e with e|e|e|e
     ·omega
     ·have e:k=m.mb:=e;omega
     ·have e:k=zr:=e;omega
     ·have e:k=m.cb:=e;omega
   ·have:=(O2 k e).2;omega
 ·refine kv.trans kA (fun k _ e=>?_)
  rcases e with e|e
  ·exact .inr (.inl e)
  ·exact .inr (.inr (.inr (Ds k e)))
 ·intro k e
  rcases e with e|e|e|e
  ·exact(O1 k e).1.imp (fun h=>.inl h) (fun h=>h)
  ·rcases O0 k e.1 with h5|h5
   ·exact .inl (.inr (.inl h5))
   ·exact .inr (by omega)
  ·rcases Kk k e with h5|h5
   ·exact .inl (.inr (.inr (.inl h5)))
   ·exact .inr (by omega)
  ·rcases e with e|e|e|e
   ·exact .inl (.inr (.inr (.inr (.inl e))))
   ·exact .inl (.inr (.inr (.inr (.inr (.inl e)))))
   ·rcases Jh with h5|h5
    ·exact .inl (.inr (.inr (.inr (.inr (.inr (.inl (e.trans h5)))))))
    ·exact .inr (by omega)
   ·exact .inl (.inr (.inr (.inr (.inr (.inr (.inr e))))))
 ·exact fun k e=>(O2 k e).1
end
end Go.Proofs.YtnboahlopghcjaaGreatDoor
namespace Go.Proofs.YtnboahlopghcjaaGreatDoor
open Go.Proofs.Tryz
open Go Go.bS Go.RowKit
section
variable{w w':World}{F S:Nat->Prop}{x:Nat}{D:DG}{P:List Int}{m:XM}{K:Value->World->Prop}
theorem Er{u v:World}{hid s:HT}{D':DG}{ps pl:List HT}{DQ ob i:Nat}{A7:Option Addr}{c7:Nat}{b8:Int}{sb:Addr}{f0:HT->Option Value}{Q:aN}{UN:Option Nat}
 (h:XV w F x D P m) (hD:D.length<=5000) (hwu:w.heap.size<=u.heap.size)
 (iB:u.heap[x]? =some (.cells #[.pointer (some ⟨m.g,0,none⟩),.pointer (some ⟨m.t,0,none⟩),.map (some m.mb),.slice (some ⟨m.ib,0,none⟩) D.length m.ic,.map (some m.cb)] dW (0,0)))
 (Nw:u.heap[DQ]? =some (.cells hid.1 ai (0,0))) (af9:w.heap.size<=DQ) (hold:fc u ob f0) (af7:w.heap.size<=ob) (Yt:UN=some ob)
 (hf0: ∀y,(y=s\/eT D y s->f0 y=some (.agg #[.bool true]))/\(¬(y=s\/eT D y s)->f0 y=none))
 (Ih:bQ u w.heap.size A7 pl.length c7 pl) (pV:pl.length<=10000)
 (kv:Kept (· =m.cb) u v) (hi:i<=pl.length) {Z:HT->HT->Prop}
 (NN: ∃f,fc v m.cb f/\ ∀y,∃l,nu v (fun k=>m.SO k\/(u.heap.size<=k/\k<v.heap.size)) (D.length+if y∈pl.take i then 1 else 0) (f y) l/\ ∀c,c∈l↔Lz D P y c\/(c=hid/\y∈pl.take i/\y≠s/\ ¬eT D y s)) (fy:pl.Nodup)
 (hQ: ∀v',Kept (· =m.cb) u v'->(∃f,fc v' m.cb f/\ ∀y,∃l,nu v' (fun k=>m.SO k\/(u.heap.size<=k/\k<v'.heap.size)) (D.length+if y∈pl.take (i+1)then 1 else 0) (f y) l/\ ∀c,c∈l↔Lz D P y c\/(c=hid/\y∈pl.take (i+1)/\y≠s/\ ¬eT D y s))->i<pl.length->
   Q .normal (az.e2 (some ⟨x,0,none⟩) ⟨DQ,0,none⟩ sb b8 UN A7 pl.length c7 (pl.length:Int) ((i:Int)+1)) v')
 (hE:i=pl.length->Q (.exit 3) (az.e2 (some ⟨x,0,none⟩) ⟨DQ,0,none⟩ sb b8 UN A7 pl.length c7 (pl.length:Int) (i:Int)) v):
 az.B2 (some ⟨x,0,none⟩) ⟨DQ,0,none⟩ sb b8 UN A7 pl.length c7 (pl.length:Int) (i:Int) Q v:=by
 subst Yt;have Yq:m.own x x:=.inl rfl;have sx:m.own x m.cb:=.inr (.inr (.inr rfl));obtain⟨OX,Qk,Ma,Qj,OW,Qi⟩:=h.ne;have Qu:m.cb<w.heap.size:=h.low _ (.inl (.inr (.inr (.inr sx))));have sv:=kv.size;unfold az.B2;refine Split.dec (fun iP=>?_) (fun fV=>hE (by omega));have dN:i<pl.length:=by omega
 obtain⟨y,hy⟩: ∃y,pl[i]? =some y:=⟨_,List.getElem?_eq_getElem dN⟩;have Kz:y∉pl.take i:=fun hm=>by
  obtain⟨j,hj⟩:=List.mem_iff_getElem?.1 hm;rw [List.getElem?_take]at hj;split at hj
  ·rename_i cH
   have h1:=jK 0 j fy hj;rw [jK 0 i fy hy]at h1;simp only [Option.some.injEq]at h1;omega
  ·cases hj
 have LZ:HS v A7 pl.length pl:=bQ.hs (Row.aD Ih kv (fun k hk e=>by have:=(Row.bA Ih hk).1;omega));refine LZ.load (i:=(i:Int)) (by omega) (by rw [Int.toNat_natCast];exact hy) ?_;intro w81;obtain⟨rk,iN,iU⟩:=gq (w:=v) (z:=(#[.int .u8 0,.int .u8 0,.int .u8 0,.int .u8 0,.int .u8 0,.int .u8 0,.int .u8 0,.int .u8 0,.int .u8 0,.int .u8 0,.int .u8 0,.int .u8 0,.int .u8 0,.int .u8 0,.int .u8 0,.int .u8 0,.int .u8 0,.int .u8 0,.int .u8 0,.int .u8 0,.int .u8 0,.int .u8 0,.int .u8 0,.int .u8 0,.int .u8 0,.int .u8 0,.int .u8 0,.int .u8 0,.int .u8 0,.int .u8 0,.int .u8 0,.int .u8 0]:Array Value)) (cs:=y.1) (t:=ai) (by rw [y.2.1];rfl);refine⟨⟨y.2.1,y.2.one,fun j hj=>rk j (by rw [y.2.1];exact hj)⟩,?_⟩;intro LH
 replace iN:LH.heap[v.heap.size]? =some (.cells y.1 ai (0,0)):=iN
 replace iU:Kept Nil v LH:=iU
 clear_value LH;have UX:Kept (· =m.cb) u LH:=kv.trans iU (fun _ _ h=>h.elim);have Nf:fc LH ob f0:=hold.aD UX (fun e=>by omega);have lk:=Nf.look FD y;obtain⟨f,hf,hc⟩:=NN;have SY:=hf.aD iU (fun h=>h);obtain⟨l,pW,EF⟩:=hc y;have XQ:=iU.size;have Lu: ∀ {v':World} {N N':Nat} {a:Option Value} {l:List HT},v.heap.size<=v'.heap.size->N<=N'->nu v' (fun k=>m.SO k\/(u.heap.size<=k/\k<v.heap.size)) N a l->nu v' (fun k=>m.SO k\/(u.heap.size<=k/\k<v'.heap.size)) N' a l:=fun hv hN yL=>by
  rcases yL with yL|⟨A,n,c,h1,h2,h3,h4,h5⟩
  ·exact .inl yL
  ·exact .inr ⟨A,n,c,h1,h2,h3,by omega,fun a ha=>(h5 a ha).imp (fun h=>h) (fun h=>⟨h.1,by omega⟩)⟩
 have Lv: ∀ {v':World} {N:Nat} {a:Option Value} {l:List HT},Kept (· =m.cb) v v'->nu v (fun k=>m.SO k\/(u.heap.size<=k/\k<v.heap.size)) N a l->nu v' (fun k=>m.SO k\/(u.heap.size<=k/\k<v.heap.size)) N a l:=fun hk yL=>yL.aD hk (fun k nh e=>by
  rcases nh with h1|h1
  ·exact(h.od _ sx).2.2.1 (e▸h1)
  ·omega)
 refine⟨y.1,⟨y.2.1,Cells.bA iN⟩,?_⟩;by_cases iV:y=s\/eT D y s
 ·rw [(hf0 y).1 iV]at lk
  refine⟨_,lk,true,rfl,Split.no rfl ?_⟩;rw [dG (n:=(i:Int)) (by omega) (by omega)];refine hQ LH UX ⟨f,SY,fun z=>?_⟩ dN;obtain⟨lz,h1,h2⟩:=hc z;refine⟨lz,Lu XQ (by
   by_cases hz:z∈pl.take i
   ·rw [if_pos hz,if_pos ((bE hy).2 (.inl hz))];exact Nat.le_refl _
   ·rw [if_neg hz];omega) (Lv (iU.mono (fun _ _ h=>h.elim)) h1),fun c=>?_⟩
  rw [h2,bE hy];constructor
  ·rintro(h3|⟨h3,h4,h5,h6⟩)
   ·exact .inl h3
   ·exact .inr ⟨h3,.inl h4,h5,h6⟩
  ·rintro(h3|⟨h3,h4|rfl,h5,h6⟩)
   ·exact .inl h3
   ·exact .inr ⟨h3,h4,h5,h6⟩
   ·exact absurd iV (fun e=>e.elim h5 h6)
 ·rw [(hf0 y).2 iV]at lk
  refine⟨_,lk,false,rfl,Split.yes rfl ?_⟩;intro Bw;have QN:Kept Nil LH Bw:=(Kept.refl _ _).drew;clear_value Bw;have WV:=iU.trans QN (fun _ _ h=>h);have GM:=QN.heap iN (fun h=>h);have sh: ∀ {q:World},Kept Nil Bw q->q.cell? ((⟨x,0,none⟩:Addr).add 4)=some (.map (some m.cb)):=fun k=>by
   rw [a8,ax (k.heap (QN.heap (UX.heap iB (fun e=>Ma e)) (fun h=>h)) (fun h=>h))];rfl
  have lY: ∀ {q:World},Kept Nil Bw q-> ∃cs:Array Value,(.agg y.1:Value)=.agg cs/\cs.size=32/\Cells q (⟨v.heap.size,0,none⟩:Addr) cs:=fun k=>⟨y.1,rfl,y.2.1,Cells.bA (k.heap GM (fun h=>h))⟩;have K7:Bw.heap[DQ]? =some (.cells hid.1 ai (0,0)):=QN.heap (UX.heap Nw (fun e=>by omega)) (fun h=>h);have Zp: ∀ {q:World},Kept Nil Bw q-> ∃cs:Array Value,(.agg hid.1:Value)=.agg cs/\cs.size=32/\Cells q (⟨DQ,0,none⟩:Addr) cs:=fun k=>⟨hid.1,rfl,hid.2.1,Cells.bA (k.heap K7 (fun h=>h))⟩;have SV:=SY.aD QN (fun h=>h);obtain⟨A,n,c,fR,DW,Cl,hnN⟩: ∃(A:Option Addr) (n c:Nat),(f y).getD (.slice none 0 0)=.slice A n c/\n<=c/\HS v A n l/\n<=D.length:=by
   rcases pW with⟨h1,h2⟩|⟨A,n,c,h1,h2,h3,h4,_⟩
   ·exact⟨none,0,0,by rw [h1];rfl,Nat.le_refl _,by rw [h2];exact HS.nil _ _,by omega⟩
   ·rw [if_neg Kz]at h4
    exact⟨A,n,c,by rw [h1];rfl,h2,h3,by omega⟩
  have lk2: ∀ {q:World},Kept Nil Bw q->(Instr.lookup fU (.map (some m.cb)) (.agg y.1) false).run prog q=.ok (.slice A n c) q:=fun k=>by
   have:=(SV.aD k (fun h=>h)).look wL y;rw [fR]at this;exact this
  have fin: ∀ {q:World} {bb:Nat},Kept Nil Bw q->HS q (some ⟨bb,0,none⟩) 1 [hid]->
   ∃(A':Option Addr) (n' c':Nat) (q2:World),(Builtin.append_ #[ay,ay] ay #[.slice A n n,.slice (some ⟨bb,0,none⟩) 1 1]).run prog q=.ok (.slice A' n' c') q2/\(∃cs:Array Value,(.agg y.1:Value)=.agg cs/\cs.size=32/\Cells q2 (⟨v.heap.size,0,none⟩:Addr) cs)/\q2.cell? ((⟨x,0,none⟩:Addr).add 4)=some (.map (some m.cb))/\
    ∃q3:World,(Instr.mapUpdate fU (.map (some m.cb)) (.agg y.1) (.slice A' n' c')).run prog q2=.ok () q3/\Q .normal (az.e2 (some ⟨x,0,none⟩) ⟨DQ,0,none⟩ sb b8 (some ob) A7 pl.length c7 (pl.length:Int) (IntKind.i64.wrap ((i:Int)+(1:Int)))) q3:=by
   intro q bb kq vj;have WU:=WV.trans kq (fun _ _ h=>h);obtain⟨A',c',q2,hr,vf,La,lK,kq2⟩:=xc (cx:=1) (Cl.same WU) vj (by omega);have k2:=kq.trans kq2 (fun _ _ h=>h);obtain⟨q3,Cn,hf3,k3⟩:=(SV.aD k2 (fun h=>h)).put wL y (.slice A' (n+1) c');refine⟨A',_,c',q2,hr,lY k2,sh k2,q3,Cn,?_⟩;rw [dG (n:=(i:Int)) (by omega) (by omega)];have QF:=WU.trans kq2 (fun _ _ h=>h);have QE:Kept (· =m.cb) v q3:=(QF.mono (S':=(· =m.cb)) (fun _ _ h=>h.elim)).trans k3 (fun _ _ h=>h);have sq2:=QF.size;have sq3:=k3.size;have svq:=WU.size;refine hQ q3 (kv.trans QE (fun _ _ h=>h)) ⟨_,hf3,fun z=>?_⟩ dN;by_cases hz:z=y
   ·subst hz
    refine⟨l++ [hid],.inr ⟨A',n+1,c',by simp,La,vf.aD k3 (fun a ha e=>by have:=(lK a ha).1;omega),?_,fun a ha=>.inr ?_⟩,fun c=>?_⟩
    ·rw [if_pos ((bE hy).2 (.inr rfl))];omega
    ·have:=lK a ha;omega
    ·rw [List.mem_append,List.mem_singleton,EF,bE hy]
     constructor
     ·rintro((h3|⟨h3,h4,h5,h6⟩)|h3)
      ·exact .inl h3
      ·exact .inr ⟨h3,.inl h4,h5,h6⟩
      ·exact .inr ⟨h3,.inr rfl,fun e=>iV (.inl e),fun e=>iV (.inr e)⟩
     ·rintro(h3|⟨h3,h4,h5,h6⟩)
      ·exact .inl (.inl h3)
      ·exact .inr h3
   ·obtain⟨lz,h1,h2⟩:=hc z
    refine⟨lz,?_,fun c=>?_⟩
    ·simp only [hz,if_false]
     refine Lu (by omega) ?_ (Lv QE h1);by_cases Xh:z∈pl.take i
     ·rw [if_pos Xh,if_pos ((bE hy).2 (.inl Xh))];exact Nat.le_refl _
     ·rw [if_neg Xh];omega
    ·rw [h2,bE hy]
     constructor
     ·rintro(h3|⟨h3,h4,h5,h6⟩)
      ·exact .inl h3
      ·exact .inr ⟨h3,.inl h4,h5,h6⟩
     ·rintro(h3|⟨h3,h4|h4,h5,h6⟩)
      ·exact .inl h3
      ·exact .inr ⟨h3,h4,h5,h6⟩
      ·exact absurd h4 hz
  refine⟨_,sh (Kept.refl _ _),y.1,⟨y.2.1,Cells.bA GM⟩,_,sh (Kept.refl _ _),y.1,⟨y.2.1,Cells.bA GM⟩,A,n,c,lk2 (Kept.refl _ _),hid.1,⟨hid.2.1,Cells.bA K7⟩,?_,⟨hid.2.1,?_⟩⟩
  ·refine wk DW ⟨A,n,n,rfl,Zp (Kept.refl _ _),lY (Kept.refl _ _),sh (Kept.refl _ _),hid.2.1,?_⟩
   intro CU;have Af:Kept Nil Bw CU:=(Kept.refl _ _).alloc _;have TE:HS CU (some ⟨Bw.heap.size,0,none⟩) 1 [hid]:=iW Bw hid;clear_value CU;exact⟨lY Af,sh Af,fin Af TE⟩
  ·intro LK
   have yx:Kept Nil Bw LK:=(Kept.refl _ _).alloc _;have TD:HS LK (some ⟨Bw.heap.size,0,none⟩) 1 [hid]:=iW Bw hid;clear_value LK;exact⟨lk2 yx,lY yx,sh yx,lY yx,sh yx,wk DW ⟨A,n,n,rfl,lY yx,sh yx,fin yx TD⟩⟩
end
end Go.Proofs.YtnboahlopghcjaaGreatDoor
namespace Go.Proofs.YtnboahlopghcjaaGreatDoor
open Go.Proofs.Tryz
open Go Go.bS Go.RowKit
def mz(D:DG)(h s:HT)(l:List HT):DG:=if fZ D h s l=0 then D++ [⟨h,df l⟩]else D
def mw(D:DG)(P:List Int)(h s:HT)(l:List HT):List Int:=if fZ D h s l=0 then P++ [(((pos s (ids D) 0).getD 0:Nat):Int)]else P
section
variable{w w':World}{F S:Nat->Prop}{x:Nat}{D:DG}{P:List Int}{m:XM}{K:Value->World->Prop}
theorem Dn(h:XV w F x D P m)(hD:D.length<=5000)(hT:rI w)(HW: ¬m.SG (Tryz.iZ.g 1)){A:Option Addr}{n cx:Nat}{lp:List HT}(hl:HS w A n lp)(hn:n<=5000)(hid s:HT)
 (mo: ∀v,Kept Nil w v->fZ D hid s lp≠0->K (.int .i64 (fZ D hid s lp)) v)
 (yA: ∀u S' F',Br u S' F' x (mz D hid s lp) (mw D P hid s lp)->Kept (fun k=>m.jB x k) w u->(∀k,S' k->m.jB x k\/w.heap.size<=k)->(∀k,F' k->F k\/w.heap.size<=k)->fZ D hid s lp=0->K (.int .i64 0) u):
 bk prog az.id #[.pointer (some ⟨x,0,none⟩),.agg hid.1,.agg s.1,.slice A n cx] w K:=by
 have hlen:=hl.len;have W:=h.W;refine az.of ?_;unfold az.W;intro w5 w6;have k5:Kept Nil w w5:=(Kept.refl _ _).alloc _;have Ji:w5.heap[w.heap.size]? =some (.cells hid.1 ai (0,0)):=aH w _;have k6:Kept Nil w5 w6:=(Kept.refl _ _).alloc _;have IZ:w6.heap[w5.heap.size]? =some (.cells s.1 ai (0,0)):=aH w5 _;clear_value w6;have Vk:=k6.heap Ji (fun h=>h);have oV:=k5.trans k6 (fun _ _ h=>h);have s5:=k5.size;have l5:=aT Ji;obtain⟨bl,c,mbg,M,G⟩:=h.G;have hG: ∀ {v:World},Kept Nil w v->GV v m.SG F m.g D (fT D) bl c mbg M:=fun k=>G.same k;refine rQ (h.same oV) ⟨true,rfl,Split.no rfl ⟨_,(h.same oV).c0,hid.1,⟨hid.2.1,Cells.bA Vk⟩,?_⟩⟩;refine tc (hG oV) hid fun gN DL=>⟨_,rfl,?_⟩;have IU:=oV.trans DL (fun _ _ h=>h);by_cases fh:hid∈ids D
 ·have e:fZ D hid s lp=7:=by simp [fZ,dg,fh]
  have:=mo gN IU (by rw [e];decide);rw [e]at this;exact Split.yes (decide_eq_true fh) this
 refine Split.no (decide_eq_false fh) ?_;by_cases h0:n=0
 ·have el:lp= []:=List.length_eq_zero_iff.1 (by omega)
  have e:fZ D hid s lp=9:=by subst el;simp [fZ,dg,fh,Ie]
  have:=mo gN IU (by rw [e];decide);rw [e]at this;exact Split.yes (by simp [h0]) this
 refine Split.no (by simp [h0]) ?_;refine hZ (hl.same IU) (by omega) fun A17 c17 vD abw F5=>⟨A17,_,c17,rfl,?_⟩;have IT:=IU.trans F5 (fun _ _ h=>h);have fE:lp≠ []:=fun e=>h0 (by rw [<-hlen,e];rfl);by_cases Cl: ¬(df lp).length=n
 ·have e:fZ D hid s lp=9:=by
   have h1:(df lp).length=0\/(df lp).length≠lp.length:=.inr (by omega);have h2:dg D hid lp=9:=by unfold dg;rw [if_neg fh,if_pos h1]
   simp [fZ,h2]
  have:=mo vD IT (by rw [e];decide);rw [e]at this;exact Split.yes (by simp only [bne_iff_ne,ne_eq];omega) this
 replace Cl:=Classical.not_not.1 Cl
 refine Split.no (by rw [Cl];simp) ?_;refine oR (h.same IT) (hl.same IT) (by omega) fun CP zq=>⟨_,rfl,?_⟩;have MA:=IT.trans zq (fun _ _ h=>h);have RZ: ¬((df lp).length=0\/(df lp).length≠lp.length):=by omega
 by_cases cP: ¬ ∀p∈lp,p∈ids D
 ·have hex: ∃p∈df lp,p∉ids D:=Classical.byContradiction fun hc=>cP fun p hp=>Classical.byContradiction fun hq=>hc ⟨p,dv.2 hp,hq⟩
  have e:fZ D hid s lp=6:=by
   have:dg D hid lp=6:=by unfold dg;rw [if_neg fh,if_neg RZ,if_pos hex]
   simp [fZ,this]
  have:=mo CP MA (by rw [e];decide);rw [e]at this;exact Split.yes (by rw [decide_eq_false cP];rfl) this
 replace cP:=Classical.not_not.1 cP
 refine Split.no (by rw [decide_eq_true cP];rfl) ?_;have Zw: ¬ ∃p∈df lp,p∉ids D:=fun⟨p,hp,hq⟩=>hq (cP p (dv.1 hp));have eC:dg D hid lp=0:=by unfold dg;rw [if_neg fh,if_neg RZ,if_neg Zw]
 have QQ:=(DL.trans F5 (fun _ _ h=>h)).trans zq (fun _ _ h=>h);refine⟨s.1,⟨s.2.1,Cells.bA (QQ.heap IZ (fun h=>h))⟩,?_⟩;refine vo s (hl.same MA) (by omega) fun kP pU=>⟨_,rfl,?_⟩;have Ah:=MA.trans pU (fun _ _ h=>h);by_cases uO: ¬s∈lp
 ·have e:fZ D hid s lp=2:=by simp [fZ,eC,uO]
  have:=mo kP Ah (by rw [e];decide);rw [e]at this;exact Split.yes (by rw [decide_eq_false uO];rfl) this
 replace uO:=Classical.not_not.1 uO
 refine Split.no (by rw [decide_eq_true uO];rfl) ?_;have eX:fZ D hid s lp=0:=by simp [fZ,eC,uO]
 have II:=QQ.trans pU (fun _ _ h=>h);obtain⟨mj,Nj,K0⟩:=dI.1 (cP s uO);obtain⟨j,hj⟩:=List.mem_iff_getElem?.1 Nj;have eP:mw D P hid s lp=P++ [(j:Int)]:=by
  unfold mw;rw [if_pos eX,<-K0,W.pos_eq hj];rfl
 have eD:mz D hid s lp=D++ [⟨hid,df lp⟩]:=by unfold mz;rw [if_pos eX]
 intro pr;have DK:Kept Nil kP pr:=(Kept.refl _ _).alloc _;have YJ:fc pr kP.heap.size (fun _=>none):=fc.new kP;clear_value pr;have Gq:=(II.trans DK (fun _ _ h=>h)).heap IZ (fun h=>h);obtain⟨Ey,Ya,Sd,yv⟩:=YJ.put FD s (.agg #[.bool true]);refine⟨s.1,⟨s.2.1,Cells.bA Gq⟩,Ey,Ya,?_⟩;have ob0:w5.heap.size<kP.heap.size:=by have:=aT IZ;have:=II.size;omega
 have XR:=yv.heap Gq (fun e=>by omega);refine⟨s.1,⟨s.2.1,Cells.bA XR⟩,s.2.1,?_⟩;intro OT;have Xc:Kept Nil Ey OT:=(Kept.refl _ _).alloc _;have Xt:HS OT (some ⟨Ey.heap.size,0,none⟩) 1 [s]:=iW Ey s;clear_value OT;have ael:=Ah.size;have FY:Kept Nil kP OT:=(DK.trans yv (fun k hk e=>by omega)).trans Xc (fun _ _ h=>h);have My:=Ah.trans FY (fun _ _ h=>h);refine uC (hG My) W (by omega) (hT.same My) Xt (by omega) fun A32 Um sP J0 EA=>⟨A32,_,Um,rfl,?_⟩;have Xe:=My.trans EA (fun _ _ h=>h);have YH:fc sP kP.heap.size (fun z=>if z=s then some (.agg #[.bool true])else none):=(Sd.aD Xc (fun h=>h)).aD EA (fun h=>h);have p1:=me D fun a=> ∃z∈ [s],eT D a z
 change (dP D [s]).length<=_ at p1
 have abp:=FY.size;have ob1:=Sd.lt;have s30:=Xc.size;have KS: ∀y,y∈dP D [s]↔eT D y s:=fun y=>by
  unfold dP;rw [iS];constructor
  ·rintro⟨_,z,hz,e⟩
   rw [List.mem_singleton]at hz
   rwa [hz]at e
  ·exact fun e=>⟨(e.mem W).1,s,by simp,e⟩
 have aeN: ∀k,k=kP.heap.size-> ¬k<w.heap.size:=fun k e=>by omega
 refine az.b9 (I:=fun i v=> ∃(q:Nat) (f:HT->Option Value),i=(q:Int)/\q<=(dP D [s]).length/\fc v kP.heap.size f/\(∀y,(y=s\/y∈(dP D [s]).take q->f y=some (.agg #[.bool true]))/\(¬(y=s\/y∈(dP D [s]).take q)->f y=none))/\Kept (· =kP.heap.size) sP v)
  (μ:=fun i _=>(((dP D [s]).length:Int)-i).toNat) (s:=0) ⟨0,_,rfl,Nat.zero_le _,YH,fun y=>⟨fun e=>by
    rcases e with e|e
    ·rw [if_pos e]
    ·simp at e,fun e=>if_neg fun e'=>e (.inl e')⟩,Kept.refl _ _⟩ ?_
 rintro i v ⟨q,f,rfl,hq,hmv,SM,kv⟩;have Ag:Kept Nil w v:=Xe.trans kv (fun k hk e=>by omega);refine Split.dec (fun iP=>?_) (fun fV=>?_)
 ·have dN:q<(dP D [s]).length:=by omega
  obtain⟨y,hy⟩: ∃y,(dP D [s])[q]? =some y:=⟨_,List.getElem?_eq_getElem dN⟩;have LZ:=bQ.hs (Row.aD J0 kv (fun k hk e=>by have:=(Row.bA J0 hk).1;omega));refine LZ.load (i:=(q:Int)) (by omega) (by rw [Int.toNat_natCast];exact hy) ?_;intro JV;obtain⟨rk,iN,iU⟩:=gq (w:=v) (z:=(#[.int .u8 0,.int .u8 0,.int .u8 0,.int .u8 0,.int .u8 0,.int .u8 0,.int .u8 0,.int .u8 0,.int .u8 0,.int .u8 0,.int .u8 0,.int .u8 0,.int .u8 0,.int .u8 0,.int .u8 0,.int .u8 0,.int .u8 0,.int .u8 0,.int .u8 0,.int .u8 0,.int .u8 0,.int .u8 0,.int .u8 0,.int .u8 0,.int .u8 0,.int .u8 0,.int .u8 0,.int .u8 0,.int .u8 0,.int .u8 0,.int .u8 0,.int .u8 0]:Array Value)) (cs:=y.1) (t:=ai) (by rw [y.2.1];rfl);refine⟨⟨y.2.1,y.2.one,fun j hj=>rk j (by rw [y.2.1];exact hj)⟩,?_⟩;intro Wl
  replace iN:Wl.heap[v.heap.size]? =some (.cells y.1 ai (0,0)):=iN
  replace iU:Kept Nil v Wl:=iU
  clear_value Wl;obtain⟨EX,Nb,YF,UZ⟩:=(hmv.aD iU (fun h=>h)).put FD y (.agg #[.bool true]);refine⟨y.1,⟨y.2.1,Cells.bA iN⟩,EX,Nb,?_⟩;rw [dG (n:=(q:Int)) (by omega) (by omega)];refine⟨(q:Int)+1,rfl,⟨q+1,_,rfl,dN,YF,fun z=>?_,(kv.trans iU (fun _ _ h=>h.elim)).trans UZ (fun _ _ h=>h)⟩,by simp only;omega⟩;rw [bE hy];constructor
  ·intro e
   by_cases hz:z=y
   ·rw [if_pos hz]
   ·rw [if_neg hz]
    exact(SM z).1 (e.imp (fun h=>h) (fun h=>h.resolve_right hz))
  ·intro e
   rw [if_neg (fun hz=>e (.inr (.inr hz)))];exact(SM z).2 (fun e'=>e (e'.imp (fun h=>h) (fun h=>.inl h)))
 ·have Yg:q=(dP D [s]).length:=by omega
  subst Yg;rw [List.take_of_length_le (Nat.le_refl _)]at SM;rw [aS,az.LC];unfold az.Et;have FV:Kept (· =kP.heap.size) kP v:=((FY.trans EA (fun _ _ h=>h)).mono (S':=(· =kP.heap.size)) (fun _ _ h=>h.elim)).trans kv (fun _ _ h=>h);have Vj:v.heap[w.heap.size]? =some (.cells hid.1 ai (0,0)):=FV.heap (II.heap Vk (fun h=>h)) (fun e=>by omega);have M1:v.heap[w5.heap.size]? =some (.cells s.1 ai (0,0)):=FV.heap (II.heap IZ (fun h=>h)) (fun e=>by omega);have sv:=Ag.size;have s2v:=FV.size;refine⟨hid.1,⟨hid.2.1,Cells.bA Vj⟩,?_⟩;refine JH (hG Ag) W (by omega) (hl.same Ag) (by omega) hid fun Ew S2 F2 TW DE Og Ol=>⟨_,rfl,?_⟩;rw [oI eC]at TW;have Iw: ∀k,m.SG k->k<w.heap.size:=fun k e=>h.low k (.inl (.inl e));have s64:=DE.size;have Nx:=DE.heap Vj (fun e=>by have:=Iw _ e;omega);have Rr:=DE.heap M1 (fun e=>by have:=Iw _ e;omega);have YE:=hmv.aD DE (fun e=>by have:=Iw _ e;omega);refine⟨hid.1,⟨hid.2.1,Cells.bA Nx⟩,hid.2.1,?_⟩;intro EU;have Km:Kept Nil Ew EU:=(Kept.refl _ _).alloc _;have Xo:HS EU (some ⟨Ew.heap.size,0,none⟩) 1 [hid]:=iW Ew hid;clear_value EU;have vi: ∀p∈df lp,p∈ids D:=fun p hp=>cP p (dv.1 hp);have W':jj (D++ [⟨hid,df lp⟩]):=W.snoc (nd:=⟨hid,df lp⟩) fh vi (ig lp);obtain⟨bl',c',Qq,M',VZ⟩:=TW;have Mc: ∀k,m.own x k->k<w.heap.size:=fun k e=>h.low k (.inl (.inr (.inr (.inr e))));have hTv:rI Ew:=(hT.same Ag).aD DE HW;refine uC (VZ.same Km) W' (by simp;omega) (hTv.same Km) Xo (by omega) fun A69 c69 Bx Fq QP=>⟨A69,_,c69,rfl,?_⟩;have vT:=Km.trans QP (fun _ _ h=>h);have abm:=vT.size;have p2:=me (D++ [⟨hid,df lp⟩]) fun a=> ∃z∈ [hid],eT (D++ [⟨hid,df lp⟩]) a z
  change (dP (D++ [⟨hid,df lp⟩]) [hid]).length<=_ at p2
  rw [List.length_append,List.length_singleton]at p2;have Ay: ∀y,y∈dP (D++ [⟨hid,df lp⟩]) [hid]↔eT (D++ [⟨hid,df lp⟩]) y hid:=fun y=>by
   unfold dP;rw [iS];constructor
   ·rintro⟨_,z,hz,e⟩
    rw [List.mem_singleton]at hz
    rwa [hz]at e
   ·exact fun e=>⟨(e.mem W').1,hid,by simp,e⟩
  have jW:Kept (fun k=>m.SG k) w Bx:=((Ag.mono (S':=fun k=>m.SG k) (fun _ _ h=>h.elim)).trans DE (fun _ _ h=>h)).trans vT (fun _ _ h=>h.elim);have Mb: ∀k,m.own x k-> ¬m.SG k:=fun k e=>(h.od k e).1;have PY:=jW.heap h.top (Mb _ (.inl rfl));have fy:(dP (D++ [⟨hid,df lp⟩]) [hid]).Nodup:=(ig _).nodup;obtain⟨f0,Zv,Zx⟩:=h.VR;have abK: ∀k,m.own x k-> ¬(k=m.cb)\/k=m.cb:=fun k _=>(Classical.em _).symm;have sx:m.own x m.cb:=.inr (.inr (.inr rfl));have Qu:=Mc _ sx;generalize pV:dP (D++ [⟨hid,df lp⟩]) [hid]=pl at Fq p2 Ay fy⊢;refine az.gI (I:=fun i u=> ∃q:Nat,i=(q:Int)/\q<=pl.length/\Kept (· =m.cb) Bx u/\ ∃f,fc u m.cb f/\ ∀y,∃l,nu u (fun k=>m.SO k\/(Bx.heap.size<=k/\k<u.heap.size)) (D.length+if y∈pl.take q then 1 else 0) (f y) l/\ ∀c,c∈l↔Lz D P y c\/(c=hid/\y∈pl.take q/\y≠s/\ ¬eT D y s))
   (μ:=fun i _=>((pl.length:Int)-i).toNat) (s:=0) ⟨0,rfl,Nat.zero_le _,Kept.refl _ _,f0,Zv.aD jW (Mb _ sx),fun y=>?_⟩ ?_
  ·obtain⟨l,h1,h2⟩:=Zx y
   refine⟨l,?_,fun c=>?_⟩
   ·rcases h1.aD jW (fun k e e'=>(h.gt k e').2 e)with h3|⟨A,n,c,g1,g2,g3,g4,g5⟩
    ·exact .inl h3
    ·exact .inr ⟨A,n,c,g1,g2,g3,by omega,fun a ha=>.inl (g5 a ha)⟩
   ·rw [h2]
    simp
  ·rintro i u ⟨q,rfl,Pf,ku,S8⟩
   refine Er h hD jW.size PY (vT.heap Nx (fun h=>h)) (Nat.le_refl _) ((YE.aD Km (fun h=>h)).aD QP (fun h=>h)) (by omega) rfl
    (fun y=>⟨fun e=>(SM y).1 (e.imp (fun h=>h) (fun h=>(KS y).2 h)),fun e=>(SM y).2 (fun e'=>e (e'.imp (fun h=>h) (fun h=>(KS y).1 h)))⟩)
    (Row.base Fq (fun b hb=>by have:=(Row.bA Fq hb).1;have:=Km.size;omega)) (by omega) ku Pf (Z:=fun _ _=>True) S8 fy (hid:=hid) (s:=s) (D':=D) (ps:= []) (fun v' kv' Zo cH=>?_) (fun Yg=>?_)
   ·exact⟨(q:Int)+1,rfl,⟨q+1,rfl,cH,kv',Zo⟩,by simp only;omega⟩
   ·subst Yg
    rw [aS];unfold az.e2;rw [az.Wa];rw [List.take_of_length_le (Nat.le_refl _)]at S8;have FM:Kept (fun k=>m.SG k\/k=m.cb) w u:=(jW.mono (S':=fun k=>m.SG k\/k=m.cb) (fun _ _ h=>.inl h)).trans ku (fun _ _ h=>.inr h);have su:=ku.size;obtain⟨OX,Qk,Ma,Qj,OW,Qi⟩:=h.ne;have Ix: ∀k,F k->k<w.heap.size:=fun k e=>h.low k (.inr e);have aad:GV Bx S2 F2 m.g (D++ [⟨hid,df lp⟩]) (fT (D++ [⟨hid,df lp⟩])) bl' c' Qq M':=VZ.same vT;have nS2: ∀k,S2 k-> ¬k=m.cb:=fun k h1 e=>by
     rcases Og k h1 with h2|h2
     ·exact(h.od _ sx).1 (e▸h2)
     ·omega
    have nF2: ∀k,F2 k-> ¬k=m.cb:=fun k h1 e=>by
     rcases Ol k h1 with h2|h2
     ·exact(h.od _ sx).2.2.2 (e▸h2)
     ·omega
    have xl: ∀k,m.own x k->k≠m.cb-> ¬(m.SG k\/k=m.cb):=fun k e fE e'=>e'.elim (Mb k e) fE;refine Hr (s1:=Ew.heap.size) (s2:=Bx.heap.size) (S2:=S2) (F2:=F2) (SO2:=fun k=>m.SO k\/(Bx.heap.size<=k/\k<u.heap.size)) (mj:=mj) h hD fh vi (ig lp) hj K0 (dv.2 uO) (FM.heap h.top (xl _ (.inl rfl) Ma))
     (Nat.le_refl _) (by omega) (ku.heap (vT.heap Nx (fun h=>h)) (fun e=>by omega)) (ku.heap (vT.heap Rr (fun h=>h)) (fun e=>by omega)) ⟨bl',c',Qq,M',aad.aD ku nS2 nF2⟩
     (h.T.aD FM (fun k e e'=>e'.elim (fun e'=>(h.gt k e').1 e) (fun e'=>(h.od _ sx).2.1 (e'▸e)))) (h.at_.aD FM (xl _ (.inr (.inl rfl)) OW)) (Row.aD h.row FM (fun k e=>by cases e;exact xl _ (.inr (.inr (.inl rfl))) Qi))
     ?_ (by omega) (by omega) su (fun k e=>⟨(Og k e).imp (fun h=>h) (fun h=>by omega),VZ.low k (.inl e)⟩) (fun k e=>⟨(Ol k e).imp (fun h=>h) (fun h=>by omega),VZ.low k (.inr e)⟩) (fun k e=>e)
     (FM.mono (S':=fun k=>m.jB x k) (fun k _ e=>e.elim (fun e=>.inl e) (fun e=>.inr (.inr (.inr (.inr (.inr (.inr e)))))))) (fun u2 S' F' hI kU hSu Lo=>?_)
    ·obtain⟨f,hf,hc⟩:=S8
     refine⟨f,hf,fun y=>?_⟩;obtain⟨l,h1,h2⟩:=hc y;refine⟨l,?_,fun c=>?_⟩
     ·rcases h1 with h3|⟨A,n,c,g1,g2,g3,g4,g5⟩
      ·exact .inl h3
      ·refine .inr ⟨A,n,c,g1,g2,g3,?_,g5⟩
       split at g4<;>omega
     ·rw [h2,Hh W h.jJ (nd:=⟨hid,df lp⟩) fh vi hj,K0]
      constructor
      ·rintro(h3|⟨h3,h4,h5,h6⟩)
       ·exact .inl h3
       ·exact .inr ⟨h3,(Ay y).1 h4,h5,h6⟩
      ·rintro(h3|⟨h3,h4,h5,h6⟩)
       ·exact .inl h3
       ·exact .inr ⟨h3,(Ay y).2 h4,h5,h6⟩
    ·refine yA u2 S' F' ?_ kU hSu Lo eX
     rw [eD,eP];exact hI
end
end Go.Proofs.YtnboahlopghcjaaGreatDoor
namespace Go.Proofs.YtnboahlopghcjaaGreatDoor
open Go.Proofs.Tryz
open Go Go.bS Go.RowKit
def de:HT:=hx 0 (by decide)
def cY(D:DG)(P:List Int)(h:HT)(l:List HT):Prop:=(h∉ids D/\l= [])\/ ∃(i:Nat) (nd:DN) (ks:List Nat),D[i]? =some nd/\nd.id=h/\Up P i ks/\l=ks.map (nx D)
theorem ml{D:DG}{i:Nat}{nd:DN}(h:D[i]? =some nd):nx D i=nd.id:=by unfold nx;rw [h]
theorem cY.ex{D:DG}{P:List Int}(H:qP D P)(h:HT): ∃l,cY D P h l:=by
 by_cases hm:h∈ids D
 ·obtain⟨nd,fy,e⟩:=dI.1 hm
  obtain⟨i,hi⟩:=List.mem_iff_getElem?.1 fy;obtain⟨ks,hk⟩:=Up.ex H.par i (by rw [H.len];exact(List.getElem?_eq_some_iff.1 hi).1);exact⟨_,.inr ⟨i,nd,ks,hi,e,hk,rfl⟩⟩
 ·exact⟨[],.inl ⟨hm,rfl⟩⟩
theorem cY.mem{D:DG}{P:List Int}(W:jj D)(H:qP D P){h:HT}{l:List HT}(c:cY D P h l){a:HT}:a∈l↔Ch D P a h:=by
 rcases c with⟨h1,rfl⟩|⟨i,nd,ks,h1,rfl,h3,rfl⟩
 ·simp only [List.not_mem_nil,false_iff]
  exact fun e=>h1 e.mem.2
 ·have dN:i<P.length:=by rw [H.len];exact(List.getElem?_eq_some_iff.1 h1).1
  rw [List.mem_map];constructor
  ·rintro⟨k,hk,rfl⟩
   have hu:=(h3.mem H.par dN).1 hk;have AD:=hu.UP;rw [H.len]at AD;obtain⟨nk,Pk⟩: ∃nk,D[k]? =some nk:=⟨_,List.getElem?_eq_getElem AD⟩;exact⟨i,k,nd,nk,h1,rfl,Pk,(ml Pk).symm,hu⟩
  ·rintro⟨i',k,ni,nk,g1,g2,g3,g4,g5⟩
   have:=W.inj g1 h1 g2;subst this;exact⟨k,(h3.mem H.par dN).2 g5,by rw [ml g3,g4]⟩
theorem cY.one{D:DG}{P:List Int}(W:jj D)(H:qP D P){h:HT}{l l':List HT}(c:cY D P h l)(c':cY D P h l'):l=l':=by
 rcases c with⟨h1,rfl⟩|⟨i,nd,ks,h1,h2,h3,rfl⟩
 ·rcases c' with⟨_,rfl⟩|⟨i,nd,ks,g1,g2,_,_⟩
  ·rfl
  ·exact absurd (dI.2 ⟨nd,List.mem_of_getElem? g1,g2⟩) h1
 ·rcases c' with⟨g1,rfl⟩|⟨i',nd',ks',g1,g2,g3,rfl⟩
  ·exact absurd (dI.2 ⟨nd,List.mem_of_getElem? h1,h2⟩) g1
  ·have:=W.inj h1 g1 (by rw [h2,g2])
   subst this;rw [Up.one H.par h3 g3]
section
variable{w w':World}{F S:Nat->Prop}{x:Nat}{D:DG}{P:List Int}{m:XM}{K:Value->World->Prop}
theorem XV.L4(h:XV w F x D P m){i:Nat}{nd:DN}(hi:D[i]? =some nd):Cells w ((⟨m.ib,0,none⟩:Addr).add (i*32)) nd.id.1:=by
 obtain⟨a,ha,_,hc⟩:=(bQ.hs h.row).at_ i nd.id (oW hi);cases ha;exact hc
theorem XV.Fz(h:XV w F x D P m){i:Nat}{nd:DN}(hi:D[i]? =some nd): ∃td,m.T[i]? =some td/\P[i]? =some td.parent:=by
 have dN:=(List.getElem?_eq_some_iff.1 hi).1;obtain⟨td,U5⟩:=Tr.fw (T:=m.T) (i:=i) (by rw [h.LS];exact dN);exact⟨td,U5,by rw [<-h.bM];exact Tr.jV U5⟩
theorem rR(a:HT)(hK: ∀w' pb qb,Kept Nil w w'->w'.heap[pb]? =some (.cells #[.pointer (some ⟨x,0,none⟩)] fD (0,0))->w'.heap[qb]? =some (.cells a.1 ai (0,0))->w.heap.size<=pb->w.heap.size<=qb->K (.func (.func aV.id) #[] #[.pointer (some ⟨pb,0,none⟩),.pointer (some ⟨qb,0,none⟩)]) w'):
 bk prog fk.id #[.pointer (some ⟨x,0,none⟩),.agg a.1] w K:=by
 refine fk.of ?_;unfold fk.W;intro w3 w4;have k3:Kept Nil w w3:=(Kept.refl _ _).alloc _;have hp3:w3.heap[w.heap.size]? =some (.cells #[.pointer (some ⟨x,0,none⟩)] fD (0,0)):=aH w _;have k4:Kept Nil w3 w4:=(Kept.refl _ _).alloc _;have Yh:w4.heap[w3.heap.size]? =some (.cells a.1 ai (0,0)):=aH w3 _;clear_value w4;exact hK w4 _ _ (k3.trans k4 (fun _ _ h=>h)) (k4.heap hp3 (fun h=>h)) Yh (Nat.le_refl _) k3.size
theorem BE{pb qb:Nat}{a:HT}{l:List HT}(hl:cY D P a l)(hD:D.length<=5000):
 mE prog aV.id #[] #[.pointer (some ⟨pb,0,none⟩),.pointer (some ⟨qb,0,none⟩)] (l.map qz) (fun w=>XV w F x D P m/\w.heap[pb]? =some (.cells #[.pointer (some ⟨x,0,none⟩)] fD (0,0))/\w.heap[qb]? =some (.cells a.1 ai (0,0))):=by
 intro y I Q w0 hI hQ qu h0 pL;obtain⟨hX,Ph,RH⟩:=qu 0 w0 h0;have W:=hX.W;have kN:=hX.jJ;refine aV.of ?_;unfold aV.W;refine⟨_,by rw [ax Ph];rfl,a.1,⟨a.2.1,Cells.bA RH⟩,a.2.1,?_⟩;intro w6;have k6:Kept Nil w0 w6:=(Kept.refl _ _).alloc _;have nK:HS w6 (some ⟨w0.heap.size,0,none⟩) 1 [a]:=iW w0 a;clear_value w6;refine oR (hX.same k6) nK (by omega) fun w8 k8=>⟨_,rfl,?_⟩;have rY:=k6.trans k8 (fun _ _ h=>h);rcases hl with⟨mo,rfl⟩|⟨i,nd,ks,hi,hid,hup,rfl⟩
 ·exact Split.yes (by rw [decide_eq_false (by simpa using mo)];rfl) (.inl (hI 0 w0 w8 h0 rY))
 ·have hm:a∈ids D:=dI.2 ⟨nd,List.mem_of_getElem? hi,hid⟩
  refine Split.no (by rw [decide_eq_true (by simpa using hm)];rfl) ?_;intro w10;have nv:Kept Nil w8 w10:=(Kept.refl _ _).drew;clear_value w10;have Ai:=rY.trans nv (fun _ _ h=>h);have uQ:=hX.same Ai;have lk:=uQ.at_.vQ a;rw [<-hid,W.pos_eq hi]at lk;rw [hid]at lk;refine⟨some ⟨x,0,none⟩,by rw [ax (Ai.heap Ph (fun h=>h))];rfl,_,uQ.c2,a.1,⟨a.2.1,Cells.bA (Ai.heap RH (fun h=>h))⟩,_,lk,?_⟩;have dN:i<P.length:=by rw [kN.len];exact(List.getElem?_eq_some_iff.1 hi).1
  have RM:=kN.par;refine aV.b9 (I:=fun s v=> ∃(k:Nat) (dn rs:List Nat),s=(k:Int)/\ks=dn++rs/\Up P k rs/\k<P.length/\I dn.length v) (μ:=fun s _=>s.toNat) (s:=((i:Nat):Int)) ⟨i,[],ks,rfl,rfl,hup,dN,hI 0 w0 w10 h0 Ai⟩ ?_;rintro s v ⟨k,dn,rs,rfl,YQ,hur,AD,hv⟩;obtain⟨hXv,hpv,hqv⟩:=qu _ v hv;rw [kN.len]at AD;obtain⟨nk,Pk⟩: ∃nk,D[k]? =some nk:=⟨_,List.getElem?_eq_getElem AD⟩;refine⟨some ⟨x,0,none⟩,by rw [ax hpv];rfl,_,_,_,hXv.c3,⟨by omega,by omega⟩,nk.id.1,⟨nk.id.2.1,by rw [Int.toNat_natCast];exact hXv.L4 Pk⟩,?_⟩;have fR:((ks.map (nx D)).map qz)[dn.length]? =some (qz nk.id):=by
   rw [List.getElem?_map,List.getElem?_map,YQ,List.getElem?_append_right (Nat.le_refl _),Nat.sub_self,hur.head];simp [ml Pk]
  refine(pL dn.length (qz nk.id) v fR hv).mono ?_;rintro b v' ⟨ht,hf⟩;cases b with
  |false=>
   refine Split.no rfl ?_;rw [aS,aV.cZ];exact .inr (hf rfl)
  |true=>
   refine Split.yes rfl ?_;have hI1:=ht rfl;cases hur with
   |root=>
    refine Split.no rfl ?_;rw [aS,aV.cZ];refine .inl ?_;rw [List.length_map,List.length_map,YQ,List.length_append];exact hI1
   | @step _ j rs' hj IW=>
     have Vi:=(Tr.ik RM (Tr.eo.2 hj)).1;refine Split.yes (decide_eq_true (by omega)) ?_;obtain⟨Of,Yk,_⟩:=qu _ v' hI1;obtain⟨td,U5,htp⟩:=Of.Fz Pk;rw [hj]at htp;have XH:(j:Int)=td.parent:=by simpa using htp
     refine⟨some ⟨x,0,none⟩,by rw [ax Yk];rfl,_,Of.c1,Tr.xI Of.T U5 (by omega) ⟨_,_,rfl,?_⟩⟩;rw [<-XH];refine⟨(j:Int),rfl,⟨j,dn++ [k],rs',rfl,by rw [YQ];simp,IW,by rw [kN.len];omega,?_⟩,by simp only;omega⟩;rw [List.length_append];exact hI1
end
end Go.Proofs.YtnboahlopghcjaaGreatDoor
namespace Go.Proofs.YtnboahlopghcjaaGreatDoor
open Go.Proofs.Tryz
open Go Go.bS Go.RowKit
structure XN(w v:World)(r:HT)(own:Nat->Nat)(G T E I Z:Option Nat)(l:List HT):Prop where
 kp:Kept Nil w v
 gr: ∀g,G=some g-> ∃SG,Bs v SG (fun _=>False) g [⟨r,[]⟩]/\ ∀k,SG k->w.heap.size<=k/\own k=1
 tr: ∀t,T=some t-> ∃ST,Tr.nM v ST t Tr.pe 0/\ ∀k,ST k->w.heap.size<=k/\k<v.heap.size/\own k=2
 mp: ∀b,E=some b->w.heap.size<=b/\own b=3/\IsMap v b l
 il: ∀b,I=some b->w.heap.size<=b/\own b=4/\v.heap[b]? =some (.cells (r.1.toList++ []).toArray ai (0,0))
 cv: ∀b,Z=some b->w.heap.size<=b/\own b=5/\fc v b (fun _=>none)
def tag(n t:Nat)(own:Nat->Nat)(k:Nat):Nat:=if n<=k then t else own k
theorem pY{n t k:Nat}{own:Nat->Nat}(h:k<n):tag n t own k=own k:=by unfold tag;rw [if_neg (by omega)]
theorem pZ{n t k:Nat}{own:Nat->Nat}(h:n<=k):tag n t own k=t:=by unfold tag;rw [if_pos h]
section
variable{w v v':World}{r:HT}{own:Nat->Nat}{G T E I Z:Option Nat}{l:List HT}{K:Value->World->Prop}
theorem XN.grow(h:XN w v r own G T E I Z l)(t:Nat)(k:Kept Nil v v'):XN w v' r (tag v.heap.size t own) G T E I Z l:=by
 have hs:=k.size;refine⟨h.kp.trans k (fun _ _ h=>h),fun g e=>?_,fun g e=>?_,fun b e=>?_,fun b e=>?_,fun b e=>?_⟩
 ·obtain⟨SG,h1,h2⟩:=h.gr g e
  exact⟨SG,h1.same k,fun q hq=>⟨(h2 q hq).1,by rw [pY (by obtain⟨bl,c,mb,M,G⟩:=h1;exact G.low q (.inl hq))];exact(h2 q hq).2⟩⟩
 ·obtain⟨ST,h1,h2⟩:=h.tr g e
  exact⟨ST,h1.same k,fun q hq=>⟨(h2 q hq).1,by have:=(h2 q hq).2.1;omega,by rw [pY (h2 q hq).2.1];exact(h2 q hq).2.2⟩⟩
 ·obtain⟨h1,h2,h3⟩:=h.mp b e
  exact⟨h1,by rw [pY h3.lt];exact h2,h3.aD k (fun h=>h)⟩
 ·obtain⟨h1,h2,h3⟩:=h.il b e
  exact⟨h1,by rw [pY (aT h3)];exact h2,k.heap h3 (fun h=>h)⟩
 ·obtain⟨h1,h2,h3⟩:=h.cv b e
  exact⟨h1,by rw [pY h3.lt];exact h2,h3.aD k (fun h=>h)⟩
theorem XN.dq(h:XN w v r own none T E I Z l){gb:Nat}(hG:Bs v' (fun k=>v.heap.size<=k/\k<v'.heap.size) (fun _=>False) gb [⟨r,[]⟩])(k:Kept Nil v v'):XN w v' r (tag v.heap.size 1 own) (some gb) T E I Z l:=by
 have g:=h.grow 1 k;refine⟨g.kp,?_,g.tr,g.mp,g.il,g.cv⟩;intro g' e;cases e;have:=h.kp.size;exact⟨_,hG,fun q hq=>⟨by omega,pZ hq.1⟩⟩
theorem XN.sJ(h:XN w v r own G none E I Z l){t:Nat}(hT:Tr.nM v' (fun k=>v.heap.size<=k) t Tr.pe 0)(k:Kept Nil v v'):XN w v' r (tag v.heap.size 2 own) G (some t) E I Z l:=by
 have g:=h.grow 2 k;refine⟨g.kp,g.gr,?_,g.mp,g.il,g.cv⟩;intro t' e;cases e;have:=h.kp.size;exact⟨_,rK hT,fun q hq=>⟨by omega,hq.2,pZ hq.1⟩⟩
theorem XN.sK(h:XN w v r own G T none I Z []):XN w (v.alloc (.map #[] 0)) r (tag v.heap.size 3 own) G T (some v.heap.size) I Z []:=by
 have g:=h.grow 3 ((Kept.refl Nil v).alloc (.map #[] 0));refine⟨g.kp,g.gr,g.tr,?_,g.il,g.cv⟩;intro b e;cases e;exact⟨h.kp.size,pZ (Nat.le_refl _),⟨#[],0,aH v _,trivial⟩⟩
theorem XN.nE(h:XN w v r own G T E none Z l):XN w (v.alloc (.cells (r.1.toList++ []).toArray ai)) r (tag v.heap.size 4 own) G T E (some v.heap.size) Z l:=by
 have g:=h.grow 4 ((Kept.refl Nil v).alloc (.cells (r.1.toList++ []).toArray ai));refine⟨g.kp,g.gr,g.tr,g.mp,?_,g.cv⟩;intro b e;cases e;exact⟨h.kp.size,pZ (Nat.le_refl _),aH v _⟩
theorem XN.nD(h:XN w v r own G T E I none l):XN w (v.alloc (.map #[] 0)) r (tag v.heap.size 5 own) G T E I (some v.heap.size) l:=by
 have g:=h.grow 5 ((Kept.refl Nil v).alloc (.map #[] 0));refine⟨g.kp,g.gr,g.tr,g.mp,g.il,?_⟩;intro b e;cases e;exact⟨h.kp.size,pZ (Nat.le_refl _),fc.new v⟩
theorem XN.put{mb:Nat}(h:XN w v r own G T (some mb) I Z []): ∃v',(Instr.mapUpdate cg (.map (some mb)) (.agg r.1) (.int .i64 0)).run prog v=.ok () v'/\XN w v' r own G T (some mb) I Z [r]:=by
 obtain⟨h1,h2,h3⟩:=h.mp mb rfl;obtain⟨v',hr,hm,hk⟩:=h3.put (h:=r) (by simp);refine⟨v',hr,(h.kp.trans hk (fun k hk e=>by omega)),fun g e=>?_,fun g e=>?_,fun b e=>?_,fun b e=>?_,fun b e=>?_⟩
 ·obtain⟨SG,g1,g2⟩:=h.gr g e
  exact⟨SG,g1.aD hk (fun q hq e=>by have:=(g2 q hq).2;rw [e,h2]at this;cases this) (fun q hq=>hq.elim),g2⟩
 ·obtain⟨ST,g1,g2⟩:=h.tr g e
  exact⟨ST,g1.aD hk (fun q hq e=>by have:=(g2 q hq).2.2;rw [e,h2]at this;cases this),fun q hq=>⟨(g2 q hq).1,Nat.lt_of_lt_of_le (g2 q hq).2.1 hk.size,(g2 q hq).2.2⟩⟩
 ·cases e
  exact⟨h1,h2,hm⟩
 ·obtain⟨g1,g2,g3⟩:=h.il b e
  exact⟨g1,g2,hk.heap g3 (fun e=>by rw [e,h2]at g2;cases g2)⟩
 ·obtain⟨g1,g2,g3⟩:=h.cv b e
  exact⟨g1,g2,g3.aD hk (fun e=>by rw [e,h2]at g2;cases g2)⟩
theorem XN.fin{g t mb ib cb:Nat}{w0:World}(h:XN w v r own (some g) (some t) (some mb) (some ib) (some cb) [r])(hw:w0.heap.size<=w.heap.size):
 Br (v.alloc (.cells #[.pointer (some ⟨g,0,none⟩),.pointer (some ⟨t,0,none⟩),.map (some mb),.slice (some ⟨ib,0,none⟩) 1 1,.map (some cb)] dW)) (fun k=>w0.heap.size<=k/\k<(v.alloc (.cells #[.pointer (some ⟨g,0,none⟩),.pointer (some ⟨t,0,none⟩),.map (some mb),.slice (some ⟨ib,0,none⟩) 1 1,.map (some cb)] dW)).heap.size) (fun _=>False) v.heap.size [⟨r,[]⟩] [-1]:=by
 have iB:=aH v (.cells #[.pointer (some ⟨g,0,none⟩),.pointer (some ⟨t,0,none⟩),.map (some mb),.slice (some ⟨ib,0,none⟩) 1 1,.map (some cb)] dW);have kx:=(Kept.refl Nil v).alloc (.cells #[.pointer (some ⟨g,0,none⟩),.pointer (some ⟨t,0,none⟩),.map (some mb),.slice (some ⟨ib,0,none⟩) 1 1,.map (some cb)] dW);have hx:=aT iB;generalize v.alloc (.cells #[.pointer (some ⟨g,0,none⟩),.pointer (some ⟨t,0,none⟩),.map (some mb),.slice (some ⟨ib,0,none⟩) 1 1,.map (some cb)] dW)=u at iB kx hx;obtain⟨SG,hG,gG⟩:=h.gr g rfl;obtain⟨ST,hT,gT⟩:=h.tr t rfl;obtain⟨m1,m2,m3⟩:=h.mp mb rfl;obtain⟨i1,i2,i3⟩:=h.il ib rfl;obtain⟨c1,c2,c3⟩:=h.cv cb rfl;have mq: ∀k,SG k->k<v.heap.size:=fun k e=>by obtain⟨bl,c,mb,M,G⟩:=hG;exact G.low k (.inl e)
 have sw:=h.kp.size;have lm:=m3.lt;have li:=aT i3;have lc:=c3.lt;have AK: ∀ {a b:HT},¬eT [(⟨r,[]⟩:DN)] a b:=xV r;refine⟨⟨g,t,mb,ib,1,cb,Tr.pe,0,SG,ST,fun _=>False⟩,⟨iB,hG.same kx,hT.same kx,Tr.zR,rfl,⟨Int.le_refl 0,by show(0:Int)<=_;simp⟩,m3.aD kx (fun h=>h),?_,⟨_,c3.aD kx (fun h=>h),fun y=>⟨[],.inl ⟨rfl,rfl⟩,fun c=>?_⟩⟩,?_,jj.root r,?_,?_,?_,?_,?_,?_⟩,?_⟩
 ·have e:cJ [r]=(r.1.toList++ []).toArray.toList:=by simp [cJ]
  show Row _ _ _ _ _ _ _ (cJ [r])
  rw [e];exact Row.made (kx.heap i3 (fun h=>h)) (Nat.zero_le _) (by simp [r.2.1]) (by show 1<=maxLen;decide)
 ·simp only [List.not_mem_nil,false_iff]
  exact fun hc=>AK hc.1
 ·refine⟨rfl,rfl,fun i p nd hi hp=>?_⟩
  cases i with
  |zero=>omega
  |succ i=>simp at hp
 ·exact fun k e=>⟨fun e'=>by have:=(gG k e).2;have:=(gT k e').2.2;omega,fun e'=>e'.elim⟩
 ·exact fun k e e'=>e'.elim
 ·exact fun k e=>e.elim
 ·intro k e
  have key:v.heap.size<=k\/3<=own k:=by
   rcases e with e|e|e|e
   ·exact .inl (by omega)
   ·exact .inr (by have e:k=mb:=e;rw [e];omega)
   ·exact .inr (by have e:k=ib:=e;rw [e];omega)
   ·exact .inr (by have e:k=cb:=e;rw [e];omega)
  refine⟨fun e'=>?_,fun e'=>?_,fun e'=>e'.elim,fun e'=>e'.elim⟩
  ·have h1:=(gG k e').2
   have h2:=mq k e';omega
  ·have h1:=(gT k e').2.2
   have h2:=(gT k e').2.1;omega
 ·refine⟨by show v.heap.size≠mb;omega,by show v.heap.size≠ib;omega,by show v.heap.size≠cb;omega,fun e=>?_,fun e=>?_,fun e=>?_⟩
  ·have e:mb=ib:=e
   rw [e]at m2;omega
  ·have e:mb=cb:=e
   rw [e]at m2;omega
  ·have e:ib=cb:=e
   rw [e]at i2;omega
 ·intro k e
  rcases e with e|e
  ·rcases e with e|e|e|e
   ·have:=mq k e;omega
   ·have:=(gT k e).2.1;omega
   ·exact e.elim
   ·rcases e with e|e|e|e
    ·omega
    ·have e:k=mb:=e;omega
    ·have e:k=ib:=e;omega
    ·have e:k=cb:=e;omega
  ·exact e.elim
 ·intro k e
  rcases e with e|e|e|e
  ·have:=mq k e;have:=(gG k e).1;omega
  ·have:=(gT k e).1;have:=(gT k e).2.1;omega
  ·exact e.elim
  ·rcases e with e|e|e|e
   ·omega
   ·have e:k=mb:=e;omega
   ·have e:k=ib:=e;omega
   ·have e:k=cb:=e;omega
structure XD(w o:World)(r:HT)(K:Value->World->Prop):Prop where
 cs: ∀ {v:World},Kept Nil o v-> ∃cs:Array Value,(.agg r.1:Value)=.agg cs/\cs.size=32/\Cells v (⟨w.heap.size,0,none⟩:Addr) cs
 fin: ∀ {v:World} {own:Nat->Nat} {g t mb ib cb:Nat},XN o v r own (some g) (some t) (some mb) (some ib) (some cb) [r]->K (.pointer (some ⟨v.heap.size,0,none⟩)) (v.alloc (.cells #[.pointer (some ⟨g,0,none⟩),.pointer (some ⟨t,0,none⟩),.map (some mb),.slice (some ⟨ib,0,none⟩) 1 1,.map (some cb)] dW))
end
section
variable{w o v e i z:World}{r:HT}{own:Nat->Nat}{g t:Nat}{K:Value->World->Prop}
theorem n1(D:XD w o r K)(h:XN o v r own (some g) (some t) (some e.heap.size) (some i.heap.size) (some z.heap.size) [r]):aq.N1 (some ⟨g,0,none⟩) (some ⟨t,0,none⟩) e i z K v:=by
 unfold aq.N1;exact D.fin h
theorem n2(D:XD w o r K)(h:XN o v r own (some g) (some t) (some e.heap.size) (some i.heap.size) none [r]):aq.N2 (some ⟨g,0,none⟩) (some ⟨t,0,none⟩) e i K v:=by
 unfold aq.N2;exact let n:=h.nD;n1 D n
theorem n3(D:XD w o r K)(h:XN o v r own (some g) (some t) (some e.heap.size) none (some z.heap.size) [r]):aq.N3 r.1 (some ⟨g,0,none⟩) (some ⟨t,0,none⟩) e z K v:=by
 unfold aq.N3;exact let n:=h.nE;⟨r.2.1,n1 D n⟩
theorem n4(D:XD w o r K)(h:XN o v r own (some g) (some t) (some e.heap.size) none none [r]):aq.N4 r.1 (some ⟨g,0,none⟩) (some ⟨t,0,none⟩) e w K v:=by
 unfold aq.N4;exact⟨(let n:=h.nE;⟨r.2.1,n2 D n⟩),(let n:=h.nD;⟨D.cs n.kp,n3 D n⟩)⟩
theorem n5(D:XD w o r K)(h:XN o v r own (some g) (some t) (some e.heap.size) (some i.heap.size) (some z.heap.size) []):aq.N5 e r.1 (some ⟨g,0,none⟩) (some ⟨t,0,none⟩) i z K v:=by
 unfold aq.N5;exact let ⟨u,q,n⟩:=h.put;⟨u,q,n1 D n⟩
theorem n6(D:XD w o r K)(h:XN o v r own (some g) (some t) (some e.heap.size) (some i.heap.size) none []):aq.N6 e r.1 (some ⟨g,0,none⟩) (some ⟨t,0,none⟩) i w K v:=by
 unfold aq.N6;exact⟨(let ⟨u,q,n⟩:=h.put;⟨u,q,n2 D n⟩),(let n:=h.nD;⟨D.cs n.kp,n5 D n⟩)⟩
theorem n7(D:XD w o r K)(h:XN o v r own (some g) (some t) (some e.heap.size) none (some z.heap.size) []):aq.N7 e r.1 r.1 w (some ⟨g,0,none⟩) (some ⟨t,0,none⟩) z K v:=by
 unfold aq.N7;exact⟨(let ⟨u,q,n⟩:=h.put;⟨u,q,D.cs n.kp,n3 D n⟩),(let n:=h.nE;⟨r.2.1,D.cs n.kp,n5 D n⟩)⟩
theorem n8(D:XD w o r K)(h:XN o v r own (some g) (some t) (some e.heap.size) none none []):aq.N8 e r.1 r.1 w (some ⟨g,0,none⟩) (some ⟨t,0,none⟩) K v:=by
 unfold aq.N8;exact⟨(let ⟨u,q,n⟩:=h.put;⟨u,q,D.cs n.kp,n4 D n⟩),(let n:=h.nE;⟨r.2.1,D.cs n.kp,n6 D n⟩),(let n:=h.nD;⟨D.cs n.kp,D.cs n.kp,n7 D n⟩)⟩
theorem n9(D:XD w o r K)(h:XN o v r own (some g) (some t) none (some i.heap.size) (some z.heap.size) []):aq.N9 r.1 w (some ⟨g,0,none⟩) (some ⟨t,0,none⟩) i z K v:=by
 unfold aq.N9;exact let n:=h.sK;⟨D.cs n.kp,n5 D n⟩
theorem n10(D:XD w o r K)(h:XN o v r own (some g) (some t) none (some i.heap.size) none []):aq.PJ r.1 w (some ⟨g,0,none⟩) (some ⟨t,0,none⟩) i K v:=by
 unfold aq.PJ;exact⟨(let n:=h.sK;⟨D.cs n.kp,n6 D n⟩),(let n:=h.nD;⟨D.cs n.kp,n9 D n⟩)⟩
theorem n11(D:XD w o r K)(h:XN o v r own (some g) (some t) none none (some z.heap.size) []):aq.VY r.1 w r.1 (some ⟨g,0,none⟩) (some ⟨t,0,none⟩) z K v:=by
 unfold aq.VY;exact⟨(let n:=h.sK;⟨D.cs n.kp,D.cs n.kp,n7 D n⟩),(let n:=h.nE;⟨r.2.1,D.cs n.kp,n9 D n⟩)⟩
theorem n12(D:XD w o r K)(h:XN o v r own (some g) (some t) none none none []):aq.ON r.1 w r.1 (some ⟨g,0,none⟩) (some ⟨t,0,none⟩) K v:=by
 unfold aq.ON;exact⟨(let n:=h.sK;⟨D.cs n.kp,D.cs n.kp,n8 D n⟩),(let n:=h.nE;⟨r.2.1,D.cs n.kp,n10 D n⟩),(let n:=h.nD;⟨D.cs n.kp,D.cs n.kp,n11 D n⟩)⟩
theorem n13(D:XD w o r K)(h:XN o v r own (some g) none (some e.heap.size) (some i.heap.size) (some z.heap.size) [r]):aq.JT (some ⟨g,0,none⟩) e i z K v:=by
 unfold aq.JT;exact Tr.eh fun _ _ q k=>let n:=h.sJ q k;⟨_,rfl,n1 D n⟩
theorem n14(D:XD w o r K)(h:XN o v r own (some g) none (some e.heap.size) (some i.heap.size) none [r]):aq.OM (some ⟨g,0,none⟩) e i K v:=by
 unfold aq.OM;exact⟨(Tr.eh fun _ _ q k=>let n:=h.sJ q k;⟨_,rfl,n2 D n⟩),(let n:=h.nD;n13 D n)⟩
theorem n15(D:XD w o r K)(h:XN o v r own (some g) none (some e.heap.size) none (some z.heap.size) [r]):aq.UD r.1 w (some ⟨g,0,none⟩) e z K v:=by
 unfold aq.UD;exact⟨(Tr.eh fun _ _ q k=>let n:=h.sJ q k;⟨_,rfl,D.cs n.kp,n3 D n⟩),(let n:=h.nE;⟨r.2.1,n13 D n⟩)⟩
theorem n16(D:XD w o r K)(h:XN o v r own (some g) none (some e.heap.size) none none [r]):aq.PI r.1 w (some ⟨g,0,none⟩) e K v:=by
 unfold aq.PI;exact⟨(Tr.eh fun _ _ q k=>let n:=h.sJ q k;⟨_,rfl,D.cs n.kp,n4 D n⟩),(let n:=h.nE;⟨r.2.1,n14 D n⟩),(let n:=h.nD;⟨D.cs n.kp,n15 D n⟩)⟩
theorem n17(D:XD w o r K)(h:XN o v r own (some g) none (some e.heap.size) (some i.heap.size) (some z.heap.size) []):aq.PH r.1 w e (some ⟨g,0,none⟩) i z K v:=by
 unfold aq.PH;exact⟨(Tr.eh fun _ _ q k=>let n:=h.sJ q k;⟨_,rfl,D.cs n.kp,n5 D n⟩),(let ⟨u,q,n⟩:=h.put;⟨u,q,n13 D n⟩)⟩
theorem n18(D:XD w o r K)(h:XN o v r own (some g) none (some e.heap.size) (some i.heap.size) none []):aq.UC r.1 w e (some ⟨g,0,none⟩) i K v:=by
 unfold aq.UC;exact⟨(Tr.eh fun _ _ q k=>let n:=h.sJ q k;⟨_,rfl,D.cs n.kp,n6 D n⟩),(let ⟨u,q,n⟩:=h.put;⟨u,q,n14 D n⟩),(let n:=h.nD;⟨D.cs n.kp,n17 D n⟩)⟩
theorem n19(D:XD w o r K)(h:XN o v r own (some g) none (some e.heap.size) none (some z.heap.size) []):aq.H4 r.1 w r.1 e (some ⟨g,0,none⟩) z K v:=by
 unfold aq.H4;exact⟨(Tr.eh fun _ _ q k=>let n:=h.sJ q k;⟨_,rfl,D.cs n.kp,D.cs n.kp,n7 D n⟩),(let ⟨u,q,n⟩:=h.put;⟨u,q,D.cs n.kp,n15 D n⟩),(let n:=h.nE;⟨r.2.1,D.cs n.kp,n17 D n⟩)⟩
theorem n20(D:XD w o r K)(h:XN o v r own (some g) none (some e.heap.size) none none []):aq.Ly r.1 w r.1 e (some ⟨g,0,none⟩) K v:=by
 unfold aq.Ly;exact⟨(Tr.eh fun _ _ q k=>let n:=h.sJ q k;⟨_,rfl,D.cs n.kp,D.cs n.kp,n8 D n⟩),(let ⟨u,q,n⟩:=h.put;⟨u,q,D.cs n.kp,n16 D n⟩),(let n:=h.nE;⟨r.2.1,D.cs n.kp,n18 D n⟩),(let n:=h.nD;⟨D.cs n.kp,D.cs n.kp,n19 D n⟩)⟩
theorem n21(D:XD w o r K)(h:XN o v r own (some g) none none (some i.heap.size) (some z.heap.size) []):aq.Lx r.1 w (some ⟨g,0,none⟩) i z K v:=by
 unfold aq.Lx;exact⟨(Tr.eh fun _ _ q k=>let n:=h.sJ q k;⟨_,rfl,D.cs n.kp,n9 D n⟩),(let n:=h.sK;⟨D.cs n.kp,n17 D n⟩)⟩
theorem n22(D:XD w o r K)(h:XN o v r own (some g) none none (some i.heap.size) none []):aq.PF r.1 w (some ⟨g,0,none⟩) i K v:=by
 unfold aq.PF;exact⟨(Tr.eh fun _ _ q k=>let n:=h.sJ q k;⟨_,rfl,D.cs n.kp,n10 D n⟩),(let n:=h.sK;⟨D.cs n.kp,n18 D n⟩),(let n:=h.nD;⟨D.cs n.kp,n21 D n⟩)⟩
theorem n23(D:XD w o r K)(h:XN o v r own (some g) none none none (some z.heap.size) []):aq.VX r.1 w r.1 (some ⟨g,0,none⟩) z K v:=by
 unfold aq.VX;exact⟨(Tr.eh fun _ _ q k=>let n:=h.sJ q k;⟨_,rfl,D.cs n.kp,D.cs n.kp,n11 D n⟩),(let n:=h.sK;⟨D.cs n.kp,D.cs n.kp,n19 D n⟩),(let n:=h.nE;⟨r.2.1,D.cs n.kp,n21 D n⟩)⟩
theorem n24(D:XD w o r K)(h:XN o v r own (some g) none none none none []):aq.UB r.1 w r.1 (some ⟨g,0,none⟩) K v:=by
 unfold aq.UB;exact⟨(Tr.eh fun _ _ q k=>let n:=h.sJ q k;⟨_,rfl,D.cs n.kp,D.cs n.kp,n12 D n⟩),(let n:=h.sK;⟨D.cs n.kp,D.cs n.kp,n20 D n⟩),(let n:=h.nE;⟨r.2.1,D.cs n.kp,n22 D n⟩),(let n:=h.nD;⟨D.cs n.kp,D.cs n.kp,n23 D n⟩)⟩
theorem n25(D:XD w o r K)(h:XN o v r own none none (some e.heap.size) (some i.heap.size) (some z.heap.size) [r]):aq.UA r.1 e i z K v:=by
 unfold aq.UA;exact fz r fun _ _ q k=>let n:=h.dq q k;⟨_,rfl,n13 D n⟩
theorem n26(D:XD w o r K)(h:XN o v r own none none (some e.heap.size) (some i.heap.size) none [r]):aq.VW r.1 e i w K v:=by
 unfold aq.VW;exact⟨(fz r fun _ _ q k=>let n:=h.dq q k;⟨_,rfl,n14 D n⟩),(let n:=h.nD;⟨D.cs n.kp,n25 D n⟩)⟩
theorem n27(D:XD w o r K)(h:XN o v r own none none (some e.heap.size) none (some z.heap.size) [r]):aq.OL r.1 r.1 w e z K v:=by
 unfold aq.OL;exact⟨(fz r fun _ _ q k=>let n:=h.dq q k;⟨_,rfl,D.cs n.kp,n15 D n⟩),(let n:=h.nE;⟨r.2.1,D.cs n.kp,n25 D n⟩)⟩
theorem n28(D:XD w o r K)(h:XN o v r own none none (some e.heap.size) none none [r]):aq.N28 r.1 r.1 w e K v:=by
 unfold aq.N28;exact⟨(fz r fun _ _ q k=>let n:=h.dq q k;⟨_,rfl,D.cs n.kp,n16 D n⟩),(let n:=h.nE;⟨r.2.1,D.cs n.kp,n26 D n⟩),(let n:=h.nD;⟨D.cs n.kp,D.cs n.kp,n27 D n⟩)⟩
theorem n29(D:XD w o r K)(h:XN o v r own none none (some e.heap.size) (some i.heap.size) (some z.heap.size) []):aq.Uz r.1 r.1 w e i z K v:=by
 unfold aq.Uz;exact⟨(fz r fun _ _ q k=>let n:=h.dq q k;⟨_,rfl,D.cs n.kp,n17 D n⟩),(let ⟨u,q,n⟩:=h.put;⟨u,q,D.cs n.kp,n25 D n⟩)⟩
theorem n30(D:XD w o r K)(h:XN o v r own none none (some e.heap.size) (some i.heap.size) none []):aq.VV r.1 r.1 w e i K v:=by
 unfold aq.VV;exact⟨(fz r fun _ _ q k=>let n:=h.dq q k;⟨_,rfl,D.cs n.kp,n18 D n⟩),(let ⟨u,q,n⟩:=h.put;⟨u,q,D.cs n.kp,n26 D n⟩),(let n:=h.nD;⟨D.cs n.kp,D.cs n.kp,n29 D n⟩)⟩
theorem n31(D:XD w o r K)(h:XN o v r own none none (some e.heap.size) none (some z.heap.size) []):aq.VU r.1 r.1 w r.1 e z K v:=by
 unfold aq.VU;exact⟨(fz r fun _ _ q k=>let n:=h.dq q k;⟨_,rfl,D.cs n.kp,D.cs n.kp,n19 D n⟩),(let ⟨u,q,n⟩:=h.put;⟨u,q,D.cs n.kp,D.cs n.kp,n27 D n⟩),(let n:=h.nE;⟨r.2.1,D.cs n.kp,D.cs n.kp,n29 D n⟩)⟩
theorem n32(D:XD w o r K)(h:XN o v r own none none (some e.heap.size) none none []):aq.N32 r.1 r.1 w r.1 e K v:=by
 unfold aq.N32;exact⟨(fz r fun _ _ q k=>let n:=h.dq q k;⟨_,rfl,D.cs n.kp,D.cs n.kp,n20 D n⟩),(let ⟨u,q,n⟩:=h.put;⟨u,q,D.cs n.kp,D.cs n.kp,n28 D n⟩),(let n:=h.nE;⟨r.2.1,D.cs n.kp,D.cs n.kp,n30 D n⟩),(let n:=h.nD;⟨D.cs n.kp,D.cs n.kp,D.cs n.kp,n31 D n⟩)⟩
theorem n33(D:XD w o r K)(h:XN o v r own none none none (some i.heap.size) (some z.heap.size) []):aq.VT r.1 r.1 w i z K v:=by
 unfold aq.VT;exact⟨(fz r fun _ _ q k=>let n:=h.dq q k;⟨_,rfl,D.cs n.kp,n21 D n⟩),(let n:=h.sK;⟨D.cs n.kp,D.cs n.kp,n29 D n⟩)⟩
theorem n34(D:XD w o r K)(h:XN o v r own none none none (some i.heap.size) none []):aq.N34 r.1 r.1 w i K v:=by
 unfold aq.N34;exact⟨(fz r fun _ _ q k=>let n:=h.dq q k;⟨_,rfl,D.cs n.kp,n22 D n⟩),(let n:=h.sK;⟨D.cs n.kp,D.cs n.kp,n30 D n⟩),(let n:=h.nD;⟨D.cs n.kp,D.cs n.kp,n33 D n⟩)⟩
theorem n35(D:XD w o r K)(h:XN o v r own none none none none (some z.heap.size) []):aq.N35 r.1 r.1 w r.1 z K v:=by
 unfold aq.N35;exact⟨(fz r fun _ _ q k=>let n:=h.dq q k;⟨_,rfl,D.cs n.kp,D.cs n.kp,n23 D n⟩),(let n:=h.sK;⟨D.cs n.kp,D.cs n.kp,D.cs n.kp,n31 D n⟩),(let n:=h.nE;⟨r.2.1,D.cs n.kp,D.cs n.kp,n33 D n⟩)⟩
theorem n36(D:XD w o r K)(h:XN o v r own none none none none none []):aq.N36 r.1 r.1 w r.1 K v:=by
 unfold aq.N36;exact⟨(fz r fun _ _ q k=>let n:=h.dq q k;⟨_,rfl,D.cs n.kp,D.cs n.kp,n24 D n⟩),(let n:=h.sK;⟨D.cs n.kp,D.cs n.kp,D.cs n.kp,n32 D n⟩),(let n:=h.nE;⟨r.2.1,D.cs n.kp,D.cs n.kp,n34 D n⟩),(let n:=h.nD;⟨D.cs n.kp,D.cs n.kp,D.cs n.kp,n35 D n⟩)⟩
end
section
variable{K:Value->World->Prop}
theorem gU{w:World}(r:HT)(hK: ∀v x,Br v (fun k=>w.heap.size<=k/\k<v.heap.size) (fun _=>False) x [⟨r,[]⟩] [-1]->Kept Nil w v->K (.pointer (some ⟨x,0,none⟩)) v):
 bk prog aq.id #[.agg r.1] w K:=by
 refine aq.of ?_;unfold aq.W;intro w_2 H7;have k2:Kept Nil w w_2:=(Kept.refl _ _).alloc _;have lK:w_2.heap[w.heap.size]? =some (.cells r.1 ai (0,0)):=aH w _;have k3:Kept Nil w H7:=k2.drew;have oZ:H7.heap[w.heap.size]? =some (.cells r.1 ai (0,0)):=lK;clear_value H7;have N_3:XN H7 H7 r (fun _=>0) none none none none none []:=⟨Kept.refl _ _,(fun b e=>by cases e),(fun b e=>by cases e),(fun b e=>by cases e),(fun b e=>by cases e),(fun b e=>by cases e)⟩;have lY: ∀ {v:World},Kept Nil H7 v-> ∃cs:Array Value,(.agg r.1:Value)=.agg cs/\cs.size=32/\Cells v (⟨w.heap.size,0,none⟩:Addr) cs:=fun k=>⟨r.1,rfl,r.2.1,Cells.bA (k.heap oZ (fun h=>h))⟩;have ue: ∀ {v:World} {own:Nat->Nat} {g t mb ib cb:Nat},XN H7 v r own (some g) (some t) (some mb) (some ib) (some cb) [r]->K (.pointer (some ⟨v.heap.size,0,none⟩)) (v.alloc (.cells #[.pointer (some ⟨g,0,none⟩),.pointer (some ⟨t,0,none⟩),.map (some mb),.slice (some ⟨ib,0,none⟩) 1 1,.map (some cb)] dW)):=
  fun h=>hK _ _ (h.fin k3.size) ((k3.trans h.kp (fun _ _ h=>h)).alloc _)
 have c3:r.1.size=32/\Cells H7 (⟨w.heap.size,0,none⟩:Addr) r.1:=⟨r.2.1,Cells.bA oZ⟩;refine⟨r.1,c3,r.1,c3,r.1,c3,?_⟩;have D:XD w H7 r K:=⟨lY,ue⟩;exact n36 D N_3
end
end Go.Proofs.YtnboahlopghcjaaGreatDoor
