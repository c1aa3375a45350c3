import Derived.Test.YtnboahlopghcjaaGreatDoorMG
import Derived.Test.YtnboahlopghcjaaGreatDoorMH
import Derived.Test.YtnboahlopghcjaaGreatDoorME
import Derived.Laws.AppendOwn
open Go.IntKind (i64 u64)
set_option linter.unusedVariables false
namespace Go.Proofs.YtnboahlopghcjaaGreatDoor
open Go.Proofs.Tryz
open Go Go.bP
open Tr (jC)
structure qV(D:DG)(P:List Int):Prop where
 len:P.length=D.length
 root:P[0]? =some (-1)
 up:∀(i:Nat) (p:Int) nd,0<i->P[i]? =some p->D[i]? =some nd->∃(j:Nat) (m:DN),p=(j:Int)/\j<i/\D[j]? =some m/\m.id∈nd.ps
def Ch(D:DG)(P:List Int)(a b:HT):Prop:=∃(i k:Nat) (ni nk:DN),D[i]? =some ni/\ni.id=b/\D[k]? =some nk/\nk.id=a/\jC P i k
def kH(D:DG)(P:List Int)(s c:HT):Prop:=∃(i j:Nat) (ni m:DN),D[i]? =some ni/\ni.id=c/\P[i]? =some (j:Int)/\D[j]? =some m/\m.id=s
def Mo(D:DG)(P:List Int)(h c:HT):Prop:=eI D h c/\∃s,kH D P s c/\h≠s/\¬eI D h s
section
variable{D:DG}{P:List Int}
theorem qV.par(H:qV D P):Tr.mL P:=⟨H.root,fun i p hi hp=>by
 have dW:=(lgeS hp).1;rw [H.len]at dW;obtain⟨j,m,h1,h2,_⟩:=H.up i p _ hi hp (List.getElem?_eq_getElem dW);exact⟨j,h2,h1⟩⟩
theorem kH.par(H:qV D P){s c:HT}(h:kH D P s c):mL D s c:=by
 obtain⟨i,j,ni,m,h1,rfl,h3,h4,rfl⟩:=h;have hi:0<i:=by
  rcases Nat.eq_zero_or_pos i with rfl|h
  ·rw [H.root]at h3;simp only [Option.some.injEq]at h3;omega
  ·exact h
 obtain⟨j',m',e,_,h5,h6⟩:=H.up i _ ni hi h3 h1;have:j'=j:=by omega
 subst this;rw [h4]at h5;cases h5;exact⟨ni,List.mem_of_getElem? h1,rfl,h6⟩
theorem kH.one(W:iS D){s s' c:HT}(h:kH D P s c)(h':kH D P s' c):s=s':=by
 obtain⟨i,j,ni,m,h1,rfl,h3,h4,rfl⟩:=h;obtain⟨i',j',ni',m',sj,e,CT,WS,rfl⟩:=h';have:=W.inj h1 sj e.symm;subst this;rw [h3]at CT;simp only [Option.some.injEq]at CT;have:j=j':=by omega
 subst this;rw [h4]at WS;cases WS;rfl
theorem kH.ex(H:qV D P){i:Nat}{ni:DN}(hi:0<i)(h:D[i]? =some ni):∃(j:Nat) (m:DN),j<i/\P[i]? =some (j:Int)/\D[j]? =some m/\kH D P m.id ni.id:=by
 have dW:=(lgeS h).1;obtain⟨p,hp⟩:∃p,P[i]? =some p:=⟨_,List.getElem?_eq_getElem (by rw [H.len];exact dW)⟩;obtain⟨j,m,rfl,hj,hm,_⟩:=H.up i p ni hi hp h;exact⟨j,m,hj,hp,hm,i,j,ni,m,h,rfl,hp,hm,rfl⟩
theorem Ch.refl(H:qV D P){a:HT}(h:a∈ids D):Ch D P a a:=by
 obtain⟨nd,eF,e⟩:=cU.1 h;obtain⟨i,hi⟩:=List.mem_iff_getElem?.1 eF;exact⟨i,i,nd,nd,hi,e,hi,e,.refl (by rw [H.len];exact(lgeS hi).1)⟩
theorem Ch.mem{a b:HT}(h:Ch D P a b):a∈ids D/\b∈ids D:=by
 obtain⟨i,k,ni,nk,h1,h2,h3,h4,_⟩:=h;exact⟨cU.2 ⟨nk,List.mem_of_getElem? h3,h4⟩,cU.2 ⟨ni,List.mem_of_getElem? h1,h2⟩⟩
theorem Ch.step(W:iS D){a s c:HT}(hs:kH D P s c)(h:Ch D P a s):Ch D P a c:=by
 obtain⟨i,j,ni,m,h1,rfl,h3,h4,rfl⟩:=hs;obtain⟨j',k,nj,nk,g1,g2,g3,g4,g5⟩:=h;have:=W.inj g1 h4 g2;subst this;exact⟨i,k,ni,nk,h1,rfl,g3,g4,.step h3 g5⟩
theorem Ch.xw(W:iS D)(H:qV D P){a b:HT}(h:Ch D P a b):a=b\/eI D a b:=by
 obtain⟨i,k,ni,nk,h1,rfl,h3,rfl,h5⟩:=h
 induction h5 generalizing ni with
 |refl _=>rw [h1]at h3;cases h3;exact .inl rfl
 | @step i j k hj hu ih=>
   have ti:=hu.lt;rw [H.len]at ti;obtain⟨m,hm⟩:∃m,D[j]? =some m:=⟨_,List.getElem?_eq_getElem ti⟩;have hp:mL D m.id ni.id:=kH.par H ⟨i,j,ni,m,h1,rfl,hj,hm,rfl⟩;rcases ih m hm h3 with e|e
   ·rw [e];exact .inr (.one hp)
   ·exact .inr (.more e hp)
theorem Ib(W:iS D)(H:qV D P){a b:HT}(fg:a≠b):eI D a b↔Ch D P a b\/∃c,Mo D P a c/\Ch D P c b:=by
 constructor
 ·intro h
  obtain⟨nb,Tg,e⟩:=cU.1 (h.mem W).2;obtain⟨i,hb⟩:=List.mem_iff_getElem?.1 Tg;clear Tg;subst e
  induction i using Nat.strongRecOn generalizing nb with
  |_ i ih=>
   have hi:0<i:=by
    rcases Nat.eq_zero_or_pos i with rfl|h0
    ·exfalso
     obtain⟨x,y,mx,my,nO,_,hy,_,e2⟩:=h.at_ W;have:=W.inj hy hb e2;omega
    ·exact h0
   obtain⟨j,m,hj,_,hm,hs⟩:=kH.ex H hi hb;by_cases e1:a=m.id
   ·exact .inl (Ch.step W hs (by rw [e1];exact Ch.refl H (cU.2 ⟨m,List.mem_of_getElem? hm,rfl⟩)))
   ·by_cases e2:eI D a m.id
    ·rcases ih j hj m hm e1 e2 with e3|⟨c,e3,e4⟩
     ·exact .inl (Ch.step W hs e3)
     ·exact .inr ⟨c,e3,Ch.step W hs e4⟩
    ·exact .inr ⟨nb.id,⟨h,m.id,hs,e1,e2⟩,Ch.refl H (cU.2 ⟨nb,List.mem_of_getElem? hb,rfl⟩)⟩
 ·rintro(h|⟨c,⟨h1,_⟩,h2⟩)
  ·exact(h.xw W H).resolve_left fg
  ·rcases h2.xw W H with e|e
   ·rw [<-e];exact h1
   ·exact h1.trans e
theorem qV.snoc(H:qV D P){nd:DN}{j:Nat}{m:DN}(hj:D[j]? =some m)(hm:m.id∈nd.ps)(im:0<D.length):qV (D++ [nd]) (P++ [(j:Int)]) where
 len:=by simp [H.len]
 root:=by rw [List.getElem?_append_left (by rw [H.len];exact im)];exact H.root
 up:=fun i p nd' hi hp eF=>by
  have ti:=(lgeS hj).1;by_cases h:i<D.length
  ·rw [List.getElem?_append_left (by rw [H.len];exact h)]at hp
   rw [List.getElem?_append_left h]at eF;obtain⟨j',m',e,h1,h2,h3⟩:=H.up i p nd' hi hp eF;exact⟨j',m',e,h1,by rw [List.getElem?_append_left (by omega)];exact h2,h3⟩
  ·have dW:=(lgeS eF).1
   have e:i=D.length:=by simp at dW;omega
   subst e;rw [<-H.len]at hp;simp at hp eF;subst hp eF;exact⟨j,m,rfl,ti,by rw [List.getElem?_append_left ti];exact hj,hm⟩
theorem mT(W:iS D)(H:qV D P){nd:DN}(hn:nd.id∉ids D){j:Nat}{m:DN}(hj:D[j]? =some m){s c:HT}:
 kH (D++ [nd]) (P++ [(j:Int)]) s c↔kH D P s c\/(c=nd.id/\s=m.id):=by
 have ti:=(lgeS hj).1;constructor
 ·rintro⟨i,k,ni,mk,h1,rfl,h3,h4,rfl⟩
  by_cases h:i<D.length
  ·rw [List.getElem?_append_left h]at h1
   rw [List.getElem?_append_left (by rw [H.len];exact h)]at h3;have hk:k<D.length:=by
    rcases Nat.eq_zero_or_pos i with rfl|h0
    ·rw [H.root]at h3;simp only [Option.some.injEq]at h3;omega
    ·obtain⟨k',_,e,h5,_⟩:=H.up i _ ni h0 h3 h1
     omega
   rw [List.getElem?_append_left hk]at h4;exact .inl ⟨i,k,ni,mk,h1,rfl,h3,h4,rfl⟩
  ·have dW:=(lgeS h1).1
   have e:i=D.length:=by simp at dW;omega
   subst e;have CT:=h3;rw [<-H.len]at CT;simp at h1 CT;subst h1;have:k=j:=by omega
   subst this;rw [List.getElem?_append_left ti,hj]at h4;cases h4;exact .inr ⟨rfl,rfl⟩
 ·rintro(⟨i,k,ni,mk,h1,rfl,h3,h4,rfl⟩|⟨rfl,rfl⟩)
  ·have hi:=(lgeS h1).1
   have hk:=(lgeS h4).1;exact⟨i,k,ni,mk,by rw [List.getElem?_append_left hi];exact h1,rfl,by rw [List.getElem?_append_left (by rw [H.len];exact hi)];exact h3,by rw [List.getElem?_append_left hk];exact h4,rfl⟩
  ·exact⟨D.length,j,nd,m,by simp,rfl,by rw [<-H.len];simp,by rw [List.getElem?_append_left ti];exact hj,rfl⟩
theorem HW(W:iS D)(H:qV D P){nd:DN}(hn:nd.id∉ids D)(fz:∀p∈nd.ps,p∈ids D){j:Nat}{m:DN}(hj:D[j]? =some m){h c:HT}:
 Mo (D++ [nd]) (P++ [(j:Int)]) h c↔Mo D P h c\/(c=nd.id/\eI (D++ [nd]) h nd.id/\h≠m.id/\¬eI D h m.id):=by
 have hm:m.id∈ids D:=cU.2 ⟨m,List.mem_of_getElem? hj,rfl⟩;have key:∀ {s c},kH D P s c->s∈ids D/\c∈ids D:=fun hs=>(eI.one (kH.par H hs)).mem W;constructor
 ·rintro⟨h1,s,hs,h2,h3⟩
  rcases(mT W H hn hj).1 hs with hs|⟨rfl,rfl⟩
  ·obtain⟨g1,g2⟩:=key hs
   exact .inl ⟨(iK W hn g2).1 h1,s,hs,h2,fun e=>h3 ((iK W hn g1).2 e)⟩
  ·exact .inr ⟨rfl,h1,h2,fun e=>h3 ((iK W hn hm).2 e)⟩
 ·rintro(⟨h1,s,hs,h2,h3⟩|⟨rfl,h1,h2,h3⟩)
  ·obtain⟨g1,g2⟩:=key hs
   exact⟨(iK W hn g2).2 h1,s,(mT W H hn hj).2 (.inl hs),h2,fun e=>h3 ((iK W hn g1).1 e)⟩
  ·exact⟨h1,m.id,(mT W H hn hj).2 (.inr ⟨rfl,rfl⟩),h2,fun e=>h3 ((iK W hn hm).1 e)⟩
inductive Up (P:List Int):Nat->List Nat->Prop
 |root:Up P 0 [0]
 |step {i j:Nat} {l:List Nat}:P[i]? =some (j:Int)->Up P j l->Up P i (i::l)
theorem Up.ex(hP:Tr.mL P):∀i,i<P.length->∃l,Up P i l:=by
 intro i
 induction i using Nat.strongRecOn with
 |_ i ih=>
  intro hi;rcases Nat.eq_zero_or_pos i with rfl|h0
  ·exact⟨[0],.root⟩
  ·obtain⟨j,h1,h2⟩:=hP.up i _ h0 (List.getElem?_eq_getElem hi)
   obtain⟨l,hl⟩:=ih j h1 (by omega);exact⟨i::l,.step (by rw [List.getElem?_eq_getElem hi,h2]) hl⟩
theorem Up.mem(hP:Tr.mL P){i:Nat}{l:List Nat}(h:Up P i l)(hi:i<P.length){k:Nat}:k∈l↔jC P i k:=by
 induction h with
 |root=>
  rw [List.mem_singleton];constructor
  ·rintro rfl;exact .refl hi
  ·intro h;have:=h.le hP;omega
 | @step i j l hj hu ih=>
   have ti:j<P.length:=by have:=(Tr.iB hP (Tr.eA.2 hj)).1;omega
   rw [List.mem_cons,ih ti];constructor
   ·rintro(rfl|h)
    ·exact .refl hi
    ·exact .step hj h
   ·intro h
    by_cases e:k=i
    ·exact .inl e
    ·exact .inr (h.inv (fun e'=>e e'.symm) hj)
theorem Up.one(hP:Tr.mL P){i:Nat}{l l':List Nat}(h:Up P i l)(h':Up P i l'):l=l':=by
 induction h generalizing l' with
 |root=>
  cases h' with
  |root=>rfl
  |step hj _=>rw [hP.root]at hj;simp only [Option.some.injEq]at hj;omega
 | @step i j l hj hu ih=>
   cases h' with
   |root=>rw [hP.root]at hj;simp only [Option.some.injEq]at hj;omega
   | @step _ j' l' uk JL=>
     rw [hj]at uk;simp only [Option.some.injEq]at uk;have:j=j':=by omega
     subst this;rw [ih JL]
theorem Up.head{i:Nat}{l:List Nat}(h:Up P i l):l[0]? =some i:=by cases h<;>rfl
theorem Up.lt(hP:Tr.mL P){i:Nat}{l:List Nat}(h:Up P i l)(hi:i<P.length):∀k∈l,k<P.length:=fun k hk=>((h.mem hP hi).1 hk).V8
end
end Go.Proofs.YtnboahlopghcjaaGreatDoor
namespace Go.Proofs.YtnboahlopghcjaaGreatDoor
open Go.Proofs.Tryz
open Go Go.bP Go.RowKit
structure vF(mt te:TypeId)(z:Value):Prop where
 nY:prog.underlying mt=some (.map aj te)
 zero:∀w,(zeroValue te).run prog w=.ok z w
def assoc(h:HT):List (HT×Value)->Option Value
 | []=>none
 |(x,v)::l=>if h=x then some v else assoc h l
def kN(h:HT):List (HT×Value)->Nat->Option (Nat×Value)
 | [],_=>none
 |(x,v)::l,i=>if h=x then some (i,v)else kN h l (i+1)
theorem lT(h:HT):∀(l:List (HT×Value)) (i:Nat),(kN h l i).map (·.2)=assoc h l
 | [],_=>rfl
 |(x,v)::l,i=>by
  unfold kN assoc;split
  ·rfl
  ·exact lT h l (i+1)
theorem uE{h:HT}:∀ {l:List (HT×Value)} {i j:Nat} {v:Value},kN h l i=some (j,v)->i<=j/\l[j-i]? =some (h,v)/\∀(x:HT) (u:Value),assoc x (l.set (j-i) (h,u))=if x=h then some u else assoc x l
 | [],i,j,v,e=>by simp [kN]at e
 |(x,u)::l,i,j,v,e=>by
  unfold kN at e;split at e
  ·rename_i hx
   cases e;subst hx;refine⟨Nat.le_refl _,by rw [Nat.sub_self];rfl,fun x u=>?_⟩;rw [Nat.sub_self];simp only [List.set_cons_zero,assoc];by_cases hx:x=h<;>simp [hx]
  ·rename_i hx
   obtain⟨h1,h2,h3⟩:=uE e;have e1:j-i=(j-(i+1))+1:=by omega
   refine⟨by omega,by rw [e1];exact h2,fun y u'=>?_⟩;rw [e1];simp only [List.set_cons_succ,assoc,h3];by_cases hy:y=h
   ·subst hy;simp [hx]
   ·simp [hy]
theorem uT{h:HT}{v:Value}:∀ {l:List (HT×Value)},assoc h l=none->∀x,assoc x (l++ [(h,v)])=if x=h then some v else assoc x l
 | [],_,x=>by simp [assoc]
 |(y,u)::l,e,x=>by
  unfold assoc at e;split at e
  ·cases e
  ·rename_i hy
   have ih:=uT (v:=v) e x;simp only [List.cons_append,assoc,ih];by_cases hx:x=y
   ·subst hx;simp [Ne.symm hy]
   ·simp [hx]
def mh(es:List MapEntry)(l:List (HT×Value)):Prop:=match es,l with
 | [],[]=>True
 |e::es,p::l=>(e.key=.agg p.1.1/\e.val=p.2)/\mh es l
 |_,_=>False
theorem mh.snoc:∀ {es:List MapEntry} {l:List (HT×Value)} {e:MapEntry} {p:HT×Value},mh es l->e.key=.agg p.1.1->e.val=p.2->mh (es++ [e]) (l++ [p])
 | [],[],_,_,_,h1,h2=>⟨⟨h1,h2⟩,trivial⟩
 |_::_,_::_,_,_,he,h1,h2=>⟨he.1,mh.snoc he.2 h1 h2⟩
 | [],_::_,_,_,he,_,_=>he.elim
 |_::_,[],_,_,he,_,_=>he.elim
theorem mh.get:∀ {es:List MapEntry} {l:List (HT×Value)} {j:Nat} {p:HT×Value},mh es l->l[j]? =some p->∃e,es[j]? =some e/\e.key=.agg p.1.1/\e.val=p.2
 | [],[],_,_,_,h=>by simp at h
 |e::_,_::_,0,_,he,h=>by
  simp only [List.getElem?_cons_zero,Option.some.injEq]at h;subst h;exact⟨e,rfl,he.1⟩
 |_::_,_::_,j+1,_,he,h=>by
  obtain⟨e,h1,h2⟩:=mh.get he.2 (j:=j) (by simpa using h);exact⟨e,by simpa using h1,h2⟩
 | [],_::_,_,_,he,_=>he.elim
 |_::_,[],_,_,he,_=>he.elim
theorem mh.set:∀ {es:List MapEntry} {l:List (HT×Value)} {j:Nat} {p:HT×Value} {f:MapEntry->MapEntry},mh es l->(∀e,(f e).key=.agg p.1.1/\(f e).val=p.2)->mh (es.modify j f) (l.set j p)
 | [],[],_,_,_,he,_=>by simpa using he
 |_::_,_::_,0,_,_,he,hf=>⟨hf _,he.2⟩
 |_::_,_::_,j+1,_,_,he,hf=>by
  simp only [List.modify_succ_cons,List.set_cons_succ];exact⟨he.1,mh.set he.2 hf⟩
 | [],_::_,_,_,_,he,_=>he.elim
 |_::_,[],_,_,_,he,_=>he.elim
theorem mh.len:∀ {es:List MapEntry} {l:List (HT×Value)},mh es l->es.length=l.length
 | [],[],_=>rfl
 |_::_,_::_,he=>by simp [mh.len he.2]
 | [],_::_,he=>he.elim
 |_::_,[],he=>he.elim
section
variable{w:World}
theorem qi(h:HT)(w:World):∀(es:List MapEntry) (l:List (HT×Value)) (i:Nat),mh es l->
 (Instr.findAsking aj (.agg h.1) es i).run prog w=.ok (kN h l i) w
 | [],[],i,_=>by simp [Instr.findAsking,kN]
 |e::es,(x,v)::l,i,he=>by
  have hq:=tG h x w;have ih:=qi h w es l (i+1) he.2;simp only [Instr.findAsking,he.1.1,Sem.run_bind,hq,Result.andThen_ok];by_cases hx:h=x
  ·simp [hx,kN,he.1.2]
  ·simp [hx,kN,ih]
 | [],_::_,_,he=>he.elim
 |_::_,[],_,he=>he.elim
theorem kO(h:HT)(w:World){es:List MapEntry}{l:List (HT×Value)}(he:mh es l):
 (Instr.findKey aj (.agg h.1) es).run prog w=.ok (kN h l 0) w:=by
 have h1:=qi h w es l 0 he;simp only [Instr.findKey,Sem.run_bind,run_underlying IZ,Result.andThen_ok];cases es with
 |nil=>
  cases l with
  |nil=>simp [Instr.findNow,kN]
  |cons x l=>exact he.elim
 |cons e es=>
  have:Instr.findNow (.array 32 ik) (.agg h.1) (e::es) 0=none:=by
   simp only [Instr.findNow,Instr.sameNow]
  rw [this];exact h1
theorem Dz(h:HT):Instr.sameBits 10000 (.agg h.1) (.agg h.1)=true:=by
 show Instr.sameBits (9999+1) (.agg h.1) (.agg h.1)=true
 rw [Instr.sameBits];simp only [beq_self_eq_true,Bool.true_and,List.all_eq_true];rintro⟨x,y⟩ nO;have hxe:x=y:=by
  obtain⟨i,hi⟩:=List.mem_iff_getElem?.1 nO;rw [List.getElem?_zip_eq_some]at hi;have:=hi.1.symm.trans hi.2;simpa using this
 subst hxe;have hm:=(List.of_mem_zip nO).1;obtain⟨n,rfl,_⟩:=h.2.2 x hm;simp [Instr.sameBits]
structure fj(w:World)(m:Nat)(f:HT->Option Value):Prop where
 ex:∃es clock l,w.heap[m]? =some (.map es clock)/\mh es.toList l/\(∀x,assoc x l=f x)/\(∀e∈es.toList,e.born<clock)/\(es.toList.map (·.born)).Nodup/\(l.map (·.1)).Nodup
theorem fj.aD{S:Nat->Prop}{w w':World}{m:Nat}{f:HT->Option Value}(h:fj w m f)(hk:Kept S w w')(hn:¬S m):fj w' m f:=by
 obtain⟨es,clock,l,h1,h2⟩:=h.ex;exact⟨es,clock,l,hk.heap h1 hn,h2⟩
theorem fj.same{w w':World}{m:Nat}{f:HT->Option Value}(h:fj w m f)(hk:Kept Nil w w'):fj w' m f:=h.aD hk (fun h=>h)
theorem fj.lt{w:World}{m:Nat}{f:HT->Option Value}(h:fj w m f):m<w.heap.size:=by
 obtain⟨es,clock,l,h1,_⟩:=h.ex;exact aS h1
theorem fj.new(w:World):fj (w.alloc (.map #[] 0)) w.heap.size (fun _=>none):=⟨#[],0,[],aJ w _,trivial,fun _=>rfl,by simp,by simp,by simp⟩
theorem fj.look{mt te:TypeId}{z:Value}(T:vF mt te z){m:Nat}{f:HT->Option Value}(hm:fj w m f)(h:HT):
 (Instr.lookup mt (.map (some m)) (.agg h.1) false).run prog w=.ok ((f h).getD z) w:=by
 obtain⟨es,clock,l,h1,h2,h3,_⟩:=hm.ex;have h4:=kO h w h2;have h5:=lT h l 0;rw [h3]at h5;simp only [Instr.lookup,Sem.run_bind,run_underlying T.nY,oP h1,Result.andThen_ok,Sem.run_pure,iG,h4];cases hp:kN h l 0 with
 |none=>rw [hp]at h5;simp [<-h5,T.zero]
 |some p=>rw [hp]at h5;simp [<-h5]
theorem fj.put{mt te:TypeId}{z:Value}(T:vF mt te z){m:Nat}{f:HT->Option Value}(hm:fj w m f)(h:HT)(v:Value):
 ∃w',(Instr.mapUpdate mt (.map (some m)) (.agg h.1) v).run prog w=.ok () w'/\fj w' m (fun x=>if x=h then some v else f x)/\Kept (· =m) w w':=by
 obtain⟨es,clock,l,h1,h2,h3,hb,hd,hk⟩:=hm.ex;have h4:=kO h w h2;have kept:∀o,Kept (· =m) w {w with heap:=w.heap.setIfInBounds m o}:=fun o=>⟨rfl,rfl,rfl,by simp,fun k _ hk=>by simp [Ne.symm hk]⟩;cases hp:kN h l 0 with
 |none=>
  rw [hp]at h4;have h5:=lT h l 0;rw [hp]at h5;refine⟨{w with heap:=w.heap.setIfInBounds m (.map (es.push {key:=.agg h.1,val:=v,born:=clock}) (clock+1))},?_,⟨es.push {key:=.agg h.1,val:=v,born:=clock},clock+1,l++ [(h,v)],?_,?_,?_,?_,?_,?_⟩,kept _⟩
  ·simp only [Instr.mapUpdate,Sem.run_bind,run_underlying T.nY,oP h1,Result.andThen_ok,iG,h4,zZ _ h1]
  ·simp [aS h1]
  ·have:=h2.snoc (e:= {key:=.agg h.1,val:=v,born:=clock}) (p:=(h,v)) rfl rfl
   simpa using this
  ·intro x
   rw [uT h5.symm,h3]
  ·intro e he
   rw [Array.toList_push,List.mem_append,List.mem_singleton]at he;rcases he with he|rfl
   ·have:=hb e he;omega
   ·exact Nat.lt_succ_self _
  ·rw [Array.toList_push,List.map_append,List.nodup_append]
   refine⟨hd,by simp,fun a ha b vr e=>?_⟩;simp only [List.map_cons,List.map_nil,List.mem_singleton]at vr;obtain⟨e',Km,rfl⟩:=List.mem_map.1 ha;have:=hb e' Km;omega
  ·rw [List.map_append,List.nodup_append]
   refine⟨hk,by simp,fun a ha b vr e=>?_⟩;simp only [List.map_cons,List.map_nil,List.mem_singleton]at vr;subst vr;subst e;have key:∀l:List (HT×Value),a∈l.map (·.1)->assoc a l≠none:=fun l=>by
    induction l with
    |nil=>simp
    |cons p l ih=>
     obtain⟨y,u⟩:=p;intro hm;unfold assoc;split
     ·simp
     ·rename_i hy
      simp only [List.map_cons,List.mem_cons]at hm;exact ih (hm.resolve_left hy)
   exact key l ha h5.symm
 |some p=>
  obtain⟨j,u⟩:=p;rw [hp]at h4;obtain⟨_,h6,h7⟩:=uE hp;rw [Nat.sub_zero]at h6 h7;obtain⟨e,he1,Qs,_⟩:=h2.get h6;have hes:es[j]? =some e:=by simpa using he1
  refine⟨{w with heap:=w.heap.setIfInBounds m (.map (es.modify j fun e=> {e with key:=.agg h.1,val:=v}) clock)},?_,⟨es.modify j fun e=> {e with key:=.agg h.1,val:=v},clock,l.set j (h,v),?_,?_,?_,?_,?_,?_⟩,kept _⟩
  ·simp only [Instr.mapUpdate,Sem.run_bind,run_underlying T.nY,oP h1,Result.andThen_ok,iG,h4,Instr.keyThatStays,hes,Option.map_some,Option.getD_some,Qs,Dz,if_true,Sem.run_pure,zZ _ h1]
  ·simp [aS h1]
  ·rw [Array.toList_modify]
   exact h2.set (p:=(h,v)) fun e=>⟨rfl,rfl⟩
  ·intro x
   rw [h7,h3]
  ·intro x hx
   rw [Array.toList_modify]at hx;obtain⟨i,hi⟩:=List.mem_iff_getElem?.1 hx;rw [List.getElem?_modify]at hi;cases hg:es.toList[i]? with
   |none=>rw [hg]at hi;simp at hi
   |some y=>
    rw [hg]at hi;have:=hb y (List.mem_of_getElem? hg);by_cases qF:j=i
    ·simp [qF]at hi
     rw [<-hi];exact this
    ·simp [qF]at hi
     rw [<-hi];exact this
  ·have:(es.modify j fun e=> {e with key:=.agg h.1,val:=v}).toList.map (·.born)=es.toList.map (·.born):=by
    rw [Array.toList_modify];apply List.ext_getElem?;intro i;rw [List.getElem?_map,List.getElem?_map,List.getElem?_modify];cases es.toList[i]? with
    |none=>simp
    |some y=>by_cases qF:j=i<;>simp [qF]
   rw [this];exact hd
  ·have:(l.set j (h,v)).map (·.1)=l.map (·.1):=by
    apply List.ext_getElem?;intro i;rw [List.getElem?_map,List.getElem?_map,List.getElem?_set];by_cases qF:j=i
    ·subst qF
     have cy:=(lgeS h6).1;have fU:=(lgeS h6).2;simp [cy,fU]
    ·simp [qF]
   rw [this];exact hk
end
end Go.Proofs.YtnboahlopghcjaaGreatDoor
namespace Go.Proofs.YtnboahlopghcjaaGreatDoor
open Go.Proofs.Tryz
open Go Go.bP Go.RowKit
open Tr (jC)
theorem sX{te:TypeId}{z:Value}(h:(prog.info? te).bind (·.zero)=some z)(w:World):(zeroValue te).run prog w=.ok z w:=by
 cases hi:prog.info? te with
 |none=>rw [hi]at h;cases h
 |some i=>
  rw [hi]at h;have hz:i.zero=some z:=h;simp [zeroValue,typeInfo,hi,hz]
theorem wT:vF fY az (.slice none 0 0):=⟨by kernel_rfl,sX (by kernel_rfl)⟩
theorem Gg:vF kz rR (.agg #[.bool false]):=⟨by kernel_rfl,sX (by kernel_rfl)⟩
structure XM where
 g:Nat
 t:Nat
 mb:Nat
 ib:Nat
 ic:Nat
 cb:Nat
 T:List Tr.Nd
 d:Int
 SG:Nat->Prop
 ST:Nat->Prop
 SO:Nat->Prop
def XM.own(m:XM)(x k:Nat):Prop:=k=x\/k=m.mb\/k=m.ib\/k=m.cb
def XM.jL(m:XM)(x k:Nat):Prop:=m.SG k\/m.ST k\/m.SO k\/m.own x k
def nJ(w:World)(SO:Nat->Prop)(N:Nat)(v:Option Value)(l:List HT):Prop:=
 (v=none/\l= [])\/∃(A:Option Addr) (n c:Nat),v=some (.slice A n c)/\n<=c/\HS w A n l/\n<=N/\∀a,A=some a->SO a.block
structure XV(w:World)(F:Nat->Prop)(x:Nat)(D:DG)(P:List Int)(m:XM):Prop where
 top:w.heap[x]? =some (.cells #[.pointer (some ⟨m.g,0,none⟩),.pointer (some ⟨m.t,0,none⟩),.map (some m.mb),.slice (some ⟨m.ib,0,none⟩) D.length m.ic,.map (some m.cb)] dV (0,0))
 G:BJ w m.SG F m.g D
 T:Tr.nZ w m.ST m.t m.T m.d
 KA:Tr.vG m.T
 bN:Tr.bN m.T=P
 dl:0<=m.d/\m.d<=D.length
 at_:IsMap w m.mb (ids D)
 row:bQ w 0 (some ⟨m.ib,0,none⟩) D.length m.ic (ids D)
 W6:∃f,fj w m.cb f/\∀h,∃l,nJ w m.SO D.length (f h) l/\∀c,c∈l↔Mo D P h c
 jt:qV D P
 W:iS D
 gt:∀k,m.SG k->¬m.ST k/\¬m.SO k
 to:∀k,m.ST k->¬m.SO k
 fd:∀k,F k->¬m.ST k/\¬m.SO k
 od:∀k,m.own x k->¬m.SG k/\¬m.ST k/\¬m.SO k/\¬F k
 ne:x≠m.mb/\x≠m.ib/\x≠m.cb/\m.mb≠m.ib/\m.mb≠m.cb/\m.ib≠m.cb
 low:∀k,m.jL x k\/F k->k<w.heap.size
def BI(w:World)(S F:Nat->Prop)(x:Nat)(D:DG)(P:List Int):Prop:=∃m,XV w F x D P m/\∀k,m.jL x k->S k
section
variable{w w':World}{F S:Nat->Prop}{x:Nat}{D:DG}{P:List Int}{m:XM}{K:Value->World->Prop}
theorem nJ.aD{S0 SO:Nat->Prop}{N:Nat}{v:Option Value}{l:List HT}(h:nJ w SO N v l)(hk:Kept S0 w w')(hn:∀k,SO k->¬S0 k):nJ w' SO N v l:=by
 rcases h with h|⟨A,n,c,h1,h2,h3,h4,h5⟩
 ·exact .inl h
 ·exact .inr ⟨A,n,c,h1,h2,h3.aD hk (fun a ha=>hn _ (h5 a ha)),h4,h5⟩
theorem XV.aD{S0:Nat->Prop}(h:XV w F x D P m)(hk:Kept S0 w w')(hS:∀k,m.jL x k->¬S0 k)(hF:∀k,F k->¬S0 k):XV w' F x D P m where
 top:=hk.heap h.top (hS _ (.inr (.inr (.inr (.inl rfl)))))
 G:=h.G.aD hk (fun k e=>hS k (.inl e)) hF
 T:=h.T.aD hk (fun k e=>hS k (.inr (.inl e)))
 KA:=h.KA
 bN:=h.bN
 dl:=h.dl
 at_:=h.at_.aD hk (hS _ (.inr (.inr (.inr (.inr (.inl rfl))))))
 row:=Row.aD h.row hk (fun k e=>by cases e;exact hS _ (.inr (.inr (.inr (.inr (.inr (.inl rfl)))))))
 W6:=by
  obtain⟨f,h1,h2⟩:=h.W6;refine⟨f,h1.aD hk (hS _ (.inr (.inr (.inr (.inr (.inr (.inr rfl))))))),fun y=>?_⟩;obtain⟨l,h3,h4⟩:=h2 y;exact⟨l,h3.aD hk (fun k e=>hS k (.inr (.inr (.inl e)))),h4⟩
 jt:=h.jt
 W:=h.W
 gt:=h.gt
 to:=h.to
 fd:=h.fd
 od:=h.od
 ne:=h.ne
 low:=fun k e=>Nat.lt_of_lt_of_le (h.low k e) hk.size
theorem XV.same(h:XV w F x D P m)(hk:Kept Nil w w'):XV w' F x D P m:=h.aD hk (fun _ _ h=>h) (fun _ _ h=>h)
theorem BI.aD{S0:Nat->Prop}(h:BI w S F x D P)(hk:Kept S0 w w')(hS:∀k,S k->¬S0 k)(hF:∀k,F k->¬S0 k):BI w' S F x D P:=
 let ⟨m,h1,h2⟩:=h;⟨m,h1.aD hk (fun k e=>hS k (h2 k e)) hF,h2⟩
theorem BI.same(h:BI w S F x D P)(hk:Kept Nil w w'):BI w' S F x D P:=h.aD hk (fun _ _ h=>h) (fun _ _ h=>h)
theorem XV.c0(h:XV w F x D P m):w.cell? ((⟨x,0,none⟩:Addr).add 0)=some (.pointer (some ⟨m.g,0,none⟩)):=by rw [a7,ay h.top];rfl
theorem XV.c1(h:XV w F x D P m):w.cell? ((⟨x,0,none⟩:Addr).add 1)=some (.pointer (some ⟨m.t,0,none⟩)):=by rw [a7,ay h.top];rfl
theorem XV.c2(h:XV w F x D P m):w.cell? ((⟨x,0,none⟩:Addr).add 2)=some (.map (some m.mb)):=by rw [a7,ay h.top];rfl
theorem XV.c3(h:XV w F x D P m):w.cell? ((⟨x,0,none⟩:Addr).add 3)=some (.slice (some ⟨m.ib,0,none⟩) D.length m.ic):=by rw [a7,ay h.top];rfl
theorem XV.c4(h:XV w F x D P m):w.cell? ((⟨x,0,none⟩:Addr).add 4)=some (.map (some m.cb)):=by rw [a7,ay h.top];rfl
theorem XV.MH(h:XV w F x D P m):m.T.length=D.length:=by
 have:=Tr.eo m.T;rw [h.bN,h.jt.len]at this;exact this.symm
theorem XV.nY(h:XV w F x D P m){i k:Nat}{id kd:Tr.Nd}(hi:m.T[i]? =some id)(hk:m.T[k]? =some kd):decide (kd.lo<=id.lo/\id.hi<=kd.hi)=true↔jC P i k:=by
 rw [decide_eq_true_iff,<-h.bN];exact h.KA.under hi hk
theorem CR(a b:HT):a.1.toList++(b.1.toList++ [])=cP [a,b]:=by simp [cP]
theorem rZ(h:XV w F x D P m)(hK:K (.bool true) w):bj prog eJ.id #[.pointer (some ⟨x,0,none⟩)] w K:=
 eJ.of (Split.yes rfl ⟨_,h.c0,hK⟩)
theorem xm{xb:Nat}(h:XV w F x D P m)(hg:w.heap[xb]? =some (.cells #[.pointer (some ⟨x,0,none⟩)] fH (0,0))){A:Option Addr}{n cx:Nat}{l:List HT}(hl:HS w A n l)(hn:n<=400000)
 (hK:∀w' (b:Bool),(b=true↔∃p∈l,p∉ids D)->Kept Nil w w'->K (.bool b) w'):
 bj prog du.id #[.slice A n cx,.func (.func dm.id) #[] #[.pointer (some ⟨xb,0,none⟩)]] w K:=by
 have hlen:=hl.len;refine bX.of (ao.of ?_);refine ao.b7 (I:=fun s w'=>∃i:Nat,s=(0,(i:Int))/\i<=n/\(∀p∈l.take i,p∈ids D)/\Kept Nil w w') (μ:=fun s _=>((n:Int)-s.2).toNat) (s:=(0,0)) ⟨0,rfl,Nat.zero_le _,by simp,Kept.refl _ _⟩ ?_;rintro s w' ⟨i,rfl,hi,cR,kw⟩;refine Split.dec (fun iU=>?_) (fun fU=>?_)
 ·simp only at iU
  have dW:i<n:=by omega
  obtain⟨y,hy⟩:∃y,l[i]? =some y:=⟨_,List.getElem?_eq_getElem (by omega)⟩;refine(hl.same kw).load (i:=(i:Int)) (by omega) hy ?_;refine dm.of ?_;unfold dm.W;intro w3 w4;have k3:Kept Nil w' w3:=(Kept.refl _ _).alloc _;have pe:w3.heap[w'.heap.size]? =some (.cells y.1 aj (0,0)):=aJ w' _;have k4:Kept Nil w3 w4:=(Kept.refl _ _).drew;clear_value w4;have qT:=k4.heap pe (fun h=>h);have Gn:=(kw.tt k3).tt k4;obtain⟨bl,c,mb,M,G⟩:=(h.same Gn).G;refine⟨some ⟨x,0,none⟩,by rw [ay (Gn.heap hg (fun h=>h))];rfl,_,(h.same Gn).c0,y.1,⟨y.2.1,Cells.bC qT⟩,tl G y fun w7 k7=>⟨_,rfl,_,rfl,?_⟩⟩;have Ak:=Gn.tt k7;by_cases hm:y∈ids D
  ·refine Split.no (by rw [decide_eq_true hm];rfl) ?_
   simp only;rw [dh (n:=(i:Int)) (by omega) (by omega)];refine⟨(0,(i:Int)+1),rfl,⟨i+1,rfl,dW,fun p hp=>?_,Ak⟩,by simp only;omega⟩;rcases(bG hy).1 hp with hp|rfl
   ·exact cR p hp
   ·exact hm
  ·refine Split.yes (by rw [decide_eq_false hm];rfl) ?_
   refine⟨(i:Int),rfl,?_⟩;exact hK w7 _ ⟨fun _=>⟨y,List.mem_of_getElem? hy,hm⟩,fun _=>decide_eq_true (by omega)⟩ Ak
 ·simp only at fU
  rw [aQ,ao.c8];rw [List.take_of_length_le (by omega)]at cR;exact⟨-1,rfl,hK w' _ ⟨fun h=>absurd (of_decide_eq_true h) (by omega),fun⟨p,hp,hn⟩=>absurd (cR p hp) hn⟩ kw⟩
theorem o7(h:XV w F x D P m){A:Option Addr}{n cx:Nat}{l:List HT}(hl:HS w A n l)(hn:n<=400000)(hK:∀w',Kept Nil w w'->K (.bool (decide (∀p∈l,p∈ids D))) w'):
 bj prog e9.id #[.pointer (some ⟨x,0,none⟩),.slice A n cx] w K:=by
 refine e9.of ?_;unfold e9.W;intro w3;have k3:Kept Nil w w3:=(Kept.refl _ _).alloc _;have pe:w3.heap[w.heap.size]? =some (.cells #[.pointer (some ⟨x,0,none⟩)] fH (0,0)):=aJ w _;clear_value w3;refine⟨_,by rw [ay pe];rfl,rZ (h.same k3) ⟨true,rfl,Split.yes rfl ?_⟩⟩;refine xm (h.same k3) pe (hl.same k3) hn fun w9 b hb k9=>⟨b,rfl,?_⟩;have:(!b)=decide (∀p∈l,p∈ids D):=by
  rw [Bool.eq_iff_iff,decide_eq_true_iff,Bool.not_eq_true',<-Bool.not_eq_true,hb];constructor
  ·exact fun hn p hp=>Classical.byContradiction fun hc=>hn ⟨p,hp,hc⟩
  ·rintro ha ⟨p,hp,hc⟩;exact hc (ha p hp)
 rw [this];exact hK w9 (k3.tt k9)
theorem r8(h:XV w F x D P m)(a b:HT)(hK:∀w' (r:Bool),(r=true↔Ch D P a b)->Kept Nil w w'->K (.bool r) w'):
 bj prog dP.id #[.pointer (some ⟨x,0,none⟩),.agg a.1,.agg b.1] w K:=by
 refine dP.of ?_;unfold dP.W;intro w4 w5 w6;have k4:Kept Nil w w4:=(Kept.refl _ _).alloc _;have xi:w4.heap[w.heap.size]? =some (.cells a.1 aj (0,0)):=aJ w _;have k5:Kept Nil w4 w5:=(Kept.refl _ _).alloc _;have mZ:w5.heap[w4.heap.size]? =some (.cells b.1 aj (0,0)):=aJ w4 _;have k6:Kept Nil w5 w6:=(Kept.refl _ _).drew;clear_value w6;have vt:=(k5.tt k6).heap xi (fun h=>h);have pv:=k6.heap mZ (fun h=>h);have nx:=(k4.tt k5).tt k6;refine⟨a.1,⟨a.2.1,Cells.bC vt⟩,b.1,⟨b.2.1,Cells.bC pv⟩,a.2.1,b.2.1,?_⟩;intro w9;have k9:Kept Nil w6 w9:=(Kept.refl _ _).alloc _;have hx9:HS w9 (some ⟨w6.heap.size,0,none⟩) 2 [a,b]:=HS.lay (l:= [a,b]) (t:=aj) (by rw [<-CR a b];exact aJ w6 _);clear_value w9;have Ed:=nx.tt k9;refine o7 (h.same Ed) hx9 (by omega) fun vK IA=>⟨_,rfl,?_⟩;have Nr:=Ed.tt IA;have Mf:=h.same Nr;by_cases cR:∀p∈ [a,b],p∈ids D
 ·refine Split.yes (decide_eq_true cR) ?_
  obtain⟨na,JY,ea⟩:=cU.1 (cR a (by simp));obtain⟨nb,Tg,eb⟩:=cU.1 (cR b (by simp));obtain⟨k,hk⟩:=List.mem_iff_getElem?.1 JY;obtain⟨i,hi⟩:=List.mem_iff_getElem?.1 Tg;have AS:=(lgeS hk).1;have dW:=(lgeS hi).1;have Ls:=h.MH;obtain⟨kd,TG⟩:=Tr.fE (T:=m.T) (i:=k) (by omega);obtain⟨nd,eF⟩:=Tr.fE (T:=m.T) (i:=i) (by omega);have RQ:=k9.tt IA;have l1:=Mf.at_.vY b;have l2:=Mf.at_.vY a;rw [<-eb,h.W.pos_eq hi]at l1;rw [<-ea,h.W.pos_eq hk]at l2;rw [eb]at l1;rw [ea]at l2;refine⟨_,Mf.c1,_,Mf.c2,b.1,⟨b.2.1,Cells.bC (RQ.heap pv (fun h=>h))⟩,_,l1,_,Mf.c2,a.1,⟨a.2.1,Cells.bC (RQ.heap vt (fun h=>h))⟩,_,l2,?_⟩;refine Tr.zU Mf.T eF TG fun kW pF=>⟨_,rfl,hK kW _ ?_ (Nr.tt pF)⟩;rw [h.nY eF TG];constructor
  ·exact fun hu=>⟨i,k,nb,na,hi,eb,hk,ea,hu⟩
  ·rintro⟨i',k',ni,nk,h1,h2,h3,h4,h5⟩
   have e1:=h.W.inj h1 hi (by rw [h2,eb]);have e2:=h.W.inj h3 hk (by rw [h4,ea]);rw [<-e1,<-e2];exact h5
 ·refine Split.no (decide_eq_false cR) (hK vK false ⟨(fun e=>by cases e),fun e=>absurd (fun p hp=>?_) cR⟩ Nr)
  simp only [List.mem_cons,List.not_mem_nil,or_false]at hp;rcases hp with rfl|rfl
  ·exact e.mem.1
  ·exact e.mem.2
theorem uK{xb bb:Nat}{b:HT}(h:XV w F x D P m)(hg:w.heap[xb]? =some (.cells #[.pointer (some ⟨x,0,none⟩)] fH (0,0)))(hb:w.heap[bb]? =some (.cells b.1 aj (0,0))){A:Option Addr}{n cx:Nat}{l:List HT}(hl:HS w A n l)(hn:n<=400000)
 (hK:∀w' (r:Bool),(r=true↔∃c∈l,Ch D P c b)->Kept Nil w w'->K (.bool r) w'):
 bj prog du.id #[.slice A n cx,.func (.func cH.id) #[] #[.pointer (some ⟨xb,0,none⟩),.pointer (some ⟨bb,0,none⟩)]] w K:=by
 have hlen:=hl.len;refine bT.of (ak.of ?_);refine ak.b7 (I:=fun s w'=>∃i:Nat,s=(0,(i:Int))/\i<=n/\(∀p∈l.take i,¬Ch D P p b)/\Kept Nil w w') (μ:=fun s _=>((n:Int)-s.2).toNat) (s:=(0,0)) ⟨0,rfl,Nat.zero_le _,by simp,Kept.refl _ _⟩ ?_;rintro s w' ⟨i,rfl,hi,cR,kw⟩;refine Split.dec (fun iU=>?_) (fun fU=>?_)
 ·simp only at iU
  have dW:i<n:=by omega
  obtain⟨y,hy⟩:∃y,l[i]? =some y:=⟨_,List.getElem?_eq_getElem (by omega)⟩;refine(hl.same kw).load (i:=(i:Int)) (by omega) hy ?_;refine cH.of ?_;unfold cH.W;intro w4;have k4:Kept Nil w' w4:=(Kept.refl _ _).alloc _;have qT:w4.heap[w'.heap.size]? =some (.cells y.1 aj (0,0)):=aJ w' _;clear_value w4;have Gn:=kw.tt k4;refine⟨some ⟨x,0,none⟩,by rw [ay (Gn.heap hg (fun h=>h))];rfl,y.1,⟨y.2.1,Cells.bC qT⟩,b.1,⟨b.2.1,Cells.bC (Gn.heap hb (fun h=>h))⟩,r8 (h.same Gn) y b fun w7 r hr k7=>⟨r,rfl,r,rfl,?_⟩⟩;have Ak:=Gn.tt k7;cases r with
  |false=>
   refine Split.no rfl ?_;simp only;rw [dh (n:=(i:Int)) (by omega) (by omega)];refine⟨(0,(i:Int)+1),rfl,⟨i+1,rfl,dW,fun p hp hc=>?_,Ak⟩,by simp only;omega⟩;rcases(bG hy).1 hp with hp|rfl
   ·exact cR p hp hc
   ·cases hr.2 hc
  |true=>
   refine Split.yes rfl ⟨(i:Int),rfl,?_⟩;exact hK w7 _ ⟨fun _=>⟨y,List.mem_of_getElem? hy,hr.1 rfl⟩,fun _=>decide_eq_true (by omega)⟩ Ak
 ·simp only at fU
  rw [aQ,ak.c8];rw [List.take_of_length_le (by omega)]at cR;exact⟨-1,rfl,hK w' _ ⟨fun h=>absurd (of_decide_eq_true h) (by omega),fun⟨p,hp,hn⟩=>absurd hn (cR p hp)⟩ kw⟩
theorem kQ(h:XV w F x D P m)(hD:D.length<=5000)(a b:HT)(hK:∀w' (r:Bool),(r=true↔eI D a b)->Kept Nil w w'->K (.bool r) w'):
 bj prog dC.id #[.pointer (some ⟨x,0,none⟩),.agg a.1,.agg b.1] w K:=by
 refine dC.of ?_;unfold dC.W;intro w4 w5 w6;have k4:Kept Nil w w4:=(Kept.refl _ _).alloc _;have Sc:w4.heap[w.heap.size]? =some (.cells #[.pointer (some ⟨x,0,none⟩)] fH (0,0)):=aJ w _;have k5:Kept Nil w4 w5:=(Kept.refl _ _).alloc _;have Ff:w5.heap[w4.heap.size]? =some (.cells a.1 aj (0,0)):=aJ w4 _;have k6:Kept Nil w5 w6:=(Kept.refl _ _).alloc _;have pv:w6.heap[w5.heap.size]? =some (.cells b.1 aj (0,0)):=aJ w5 _;clear_value w6;have vt:=k6.heap Ff (fun h=>h);have JK:=(k5.tt k6).heap Sc (fun h=>h);have nx:=(k4.tt k5).tt k6;refine⟨_,by rw [ay JK];rfl,a.1,⟨a.2.1,Cells.bC vt⟩,b.1,⟨b.2.1,Cells.bC pv⟩,a.2.1,b.2.1,?_⟩;intro w10;have nK:Kept Nil w6 w10:=(Kept.refl _ _).alloc _;have JP:HS w10 (some ⟨w6.heap.size,0,none⟩) 2 [a,b]:=HS.lay (l:= [a,b]) (t:=aj) (by rw [<-CR a b];exact aJ w6 _);clear_value w10;have Ax:=nx.tt nK;refine o7 (h.same Ax) JP (by omega) fun lQ xD=>⟨_,rfl,?_⟩;have ru:=Ax.tt xD;have An:=nK.tt xD;by_cases cR:∀p∈ [a,b],p∈ids D
 ·refine Split.no (by rw [decide_eq_true cR];rfl) ?_
  have aa2:=An.heap vt (fun h=>h);have aaW:=An.heap pv (fun h=>h);refine⟨a.1,⟨a.2.1,Cells.bC aa2⟩,b.1,⟨b.2.1,Cells.bC aaW⟩,⟨a.2.ints,b.2.ints⟩,?_⟩;rw [dz];refine Split.dec (fun he=>?_) (fun he=>?_)
  ·subst he
   exact hK lQ false ⟨(fun e=>by cases e),fun e=>absurd e (eI.irrefl h.W a)⟩ ru
  ·intro jk
   have nv:Kept Nil lQ jk:=(Kept.refl _ _).drew;clear_value jk;have R4:=ru.tt nv;have JA:=An.tt nv;refine⟨_,by rw [ay (JA.heap JK (fun h=>h))];rfl,a.1,⟨a.2.1,Cells.bC (JA.heap vt (fun h=>h))⟩,b.1,⟨b.2.1,Cells.bC (JA.heap pv (fun h=>h))⟩,?_⟩;refine r8 (h.same R4) a b fun xS r hr GB=>⟨r,rfl,?_⟩;have No:=R4.tt GB;have Jz:=JA.tt GB;cases r with
   |true=>exact Split.yes rfl (hK xS true ⟨fun _=>(Ib h.W h.jt he).2 (.inl (hr.1 rfl)),fun _=>rfl⟩ No)
   |false=>
    refine Split.no rfl ?_;have h21:=h.same No;obtain⟨f,hf,Ud⟩:=h21.W6;obtain⟨l,hl,gR⟩:=Ud a;have CK:=hf.look wT a;have fin:∀ {A:Option Addr} {n c:Nat},(f a).getD (.slice none 0 0)=.slice A n c->HS xS A n l->n<=D.length->
     bj prog du.id #[.slice A n c,.func (.func cH.id) #[] #[.pointer (some ⟨w.heap.size,0,none⟩),.pointer (some ⟨w5.heap.size,0,none⟩)]] xS fun v28 Xq=>∃t:Bool,v28=.bool t/\K (.bool t) Xq:=fun _ hs hn=>
     uK h21 (Jz.heap JK (fun h=>h)) (Jz.heap pv (fun h=>h)) hs (by omega) fun u7 r2 iT JD=>⟨r2,rfl,hK u7 r2 (by
      rw [iT,Ib h.W h.jt he];constructor
      ·rintro⟨c,h1,h2⟩;exact .inr ⟨c,(gR c).1 h1,h2⟩
      ·rintro(h1|⟨c,h1,h2⟩)
       ·cases hr.2 h1
       ·exact⟨c,(gR c).2 h1,h2⟩) (No.tt JD)⟩
    refine⟨some ⟨x,0,none⟩,by rw [ay (Jz.heap JK (fun h=>h))];rfl,_,h21.c4,a.1,⟨a.2.1,Cells.bC (Jz.heap vt (fun h=>h))⟩,?_⟩;rcases hl with⟨h1,rfl⟩|⟨A,n,c,h1,h2,h3,h4,h5⟩
    ·rw [h1]at CK
     exact⟨none,0,0,CK,fin (by rw [h1];rfl) (HS.nil _ _) (by omega)⟩
    ·rw [h1]at CK
     exact⟨A,n,c,CK,fin (by rw [h1];rfl) h3 h4⟩
 ·refine Split.yes (by rw [decide_eq_false cR];rfl) (hK lQ false ⟨(fun e=>by cases e),fun e=>absurd (fun p hp=>?_) cR⟩ ru)
  simp only [List.mem_cons,List.not_mem_nil,or_false]at hp;rcases hp with rfl|rfl
  ·exact(e.mem h.W).1
  ·exact(e.mem h.W).2
end
end Go.Proofs.YtnboahlopghcjaaGreatDoor
namespace Go.Proofs.YtnboahlopghcjaaGreatDoor
open Go.Proofs.Tryz
open Go Go.bP Go.RowKit
section
variable{w w':World}{K:Value->World->Prop}
theorem wy{A:Option Addr}{n c:Nat}(El:n<=c)(hK:K (.slice A n n) w):bj prog cX.id #[.slice A n c] w K:=by
 refine cX.of ⟨⟨by omega,by omega⟩,⟨by omega,by simp⟩,?_⟩;have e:(if(n:Int).toNat=0 then A else A.map (·.add (0*32)))=A:=by
  split
  ·rfl
  ·cases A with
   |none=>rfl
   |some a=>simp [add_zero]
 rw [e];simpa using hK
theorem vw{A:Option Addr}{n c:Nat}{l:List HT}(h:HT)(hl:HS w A n l)(hn:n<=1000000)(hK:∀w',Kept Nil w w'->K (.bool (decide (h∈l))) w'):
 bj prog cu.id #[.slice A n c,.agg h.1] w K:=by
 have hlen:=hl.len;refine cu.of ?_;unfold cu.W;intro w3;have k3:Kept Nil w w3:=(Kept.refl _ _).alloc _;have pe:w3.heap[w.heap.size]? =some (.cells h.1 aj (0,0)):=aJ w _;clear_value w3;refine⟨h.1,⟨h.2.1,Cells.bC pe⟩,?_⟩;refine aN.of ?_;unfold aN.W;intro w4;have k4:Kept Nil w3 w4:=(Kept.refl _ _).alloc _;have qT:w4.heap[w3.heap.size]? =some (.cells h.1 aj (0,0)):=aJ w3 _;clear_value w4;have qS:=k3.tt k4;refine aN.b7 (I:=fun s w'=>∃i:Nat,s=(0,(i:Int))/\i<=n/\Kept Nil w4 w'/\h∉l.take i) (μ:=fun s _=>((n:Int)-s.2).toNat) (s:=(0,0)) ⟨0,rfl,Nat.zero_le _,Kept.refl _ _,by simp⟩ ?_;rintro s w' ⟨i,rfl,hi,kw,lZ⟩;refine Split.dec (fun cy=>?_) (fun fU=>?_)
 ·simp only at cy
  have dW:i<n:=by omega
  obtain⟨y,hy⟩:∃y,l[i]? =some y:=⟨_,List.getElem?_eq_getElem (by omega)⟩;intro w9;have k9:Kept Nil w' w9:=(Kept.refl _ _).drew;clear_value w9;have Yl:=kw.tt k9;have Ed:=qS.tt Yl;refine⟨h.1,⟨h.2.1,Cells.bC (Yl.heap qT (fun h=>h))⟩,?_⟩;refine(hl.same Ed).load (i:=(i:Int)) (by omega) hy ⟨⟨h.2.ints,y.2.ints⟩,?_⟩;rw [dz];refine Split.dec (fun he=>?_) (fun he=>?_)
  ·refine⟨(i:Int),rfl,?_⟩
   have:=hK w9 Ed;rw [decide_eq_true (by rw [he];exact List.mem_of_getElem? hy)]at this;rw [show decide ((i:Int)>=(0:Int))=true from decide_eq_true (by omega)];exact this
  ·simp only
   rw [gQ (x:=(i:Int)+1) (by omega) (by omega)];refine⟨(0,(i:Int)+1),rfl,⟨i+1,rfl,dW,Yl,?_⟩,by simp only;omega⟩;rw [List.take_add_one,hy];simp only [Option.toList_some,List.mem_append,List.mem_singleton,not_or];exact⟨lZ,he⟩
 ·simp only at fU
  rw [aQ,aN.c8];refine⟨-1,rfl,?_⟩;have:=hK w' (qS.tt kw);rw [List.take_of_length_le (by omega)]at lZ;rw [decide_eq_false lZ]at this;exact this
theorem xp{A:Option Addr}{n cx:Nat}{l:List HT}{h:HT}{b:Nat}(hl:HS w A n l)(hb:HS w (some ⟨b,0,none⟩) 1 [h])(hn:n<=100000):
 ∃A' c' w',(Builtin.append_ #[az,az] az #[.slice A n n,.slice (some ⟨b,0,none⟩) 1 cx]).run prog w=.ok (.slice A' (n+1) c') w'/\
  HS w' A' (n+1) (l++ [h])/\n+1<=c'/\(∀a,A'=some a->w.heap.size<=a.block/\a.block<w'.heap.size)/\Kept Nil w w':=by
 have hlen:=hl.len;cases A with
 |none=>
  obtain⟨rfl,rfl⟩:=hl.none;obtain⟨A',c',w',hr,eE,hg,hbk⟩:=cF (cx:=cx) az (bQ.nil w w.heap.size) hb (by omega) (Nat.le_refl _);rw [Nat.zero_add]at hr eE;rw [List.nil_append]at eE;obtain⟨b',rfl⟩:=Row.some eE (by omega);have vq:=Row.bC eE (k:=b') rfl;refine⟨some ⟨b',0,Option.none⟩,c',w',hr,bQ.hs eE,?_,fun a ha=>?_,Kept.dF (Kept.refl _ _) hg (fun k hk=>by cases hk)⟩
  ·rcases Row.own eE with⟨h1,_⟩|⟨_,_,_,_,_,h1,_⟩
   ·cases h1
   ·exact h1
  ·cases ha
   obtain⟨h1,cur,h2⟩:=vq;exact⟨h1,aS h2⟩
 |some a=>
  obtain⟨i,z,hi,hz,hs,IK,CA⟩:=om.inf;have hr:=run_append_grow (P:=prog) (w:=w) az az aj i z om.nY hi hz a n n (cP l) (by rw [dZ,hs,hlen]) hl.cells ⟨b,0,Option.none⟩ 1 cx (cP [h]) (by rw [dZ,hs];rfl) hb.cells (by omega) (by omega) (growslice_fits (by omega) (by rw [IK];omega));refine⟨_,_,_,hr,⟨by simp [hlen],fun j y hj=>⟨_,rfl,?_,?_⟩⟩,grownCap_ge _ _ _ _,fun a' zK=>?_,?_⟩
  ·have:=aJ w.drew (.cells ((cP l).toArray++(cP [h]).toArray++Builtin.zeroCells z.cells (grownCap w (n+1) n aj-(n+1))) aj)
   exact aS this
  ·intro q v hq
   rw [a7,a7,Nat.zero_add];have hblk:=aJ w.drew (.cells ((cP l).toArray++(cP [h]).toArray++Builtin.zeroCells z.cells (grownCap w (n+1) n aj-(n+1))) aj);have e:(w.drew.heap.size)=w.heap.size:=rfl;rw [e]at hblk;rw [ay hblk];have h1:=jV hj hq;rw [lC]at h1;have cy:=(lgeS h1).1;rw [Array.getElem?_append_left (by simpa using cy)];simpa using h1
  ·cases zK
   have:=aJ w.drew (.cells ((cP l).toArray++(cP [h]).toArray++Builtin.zeroCells z.cells (grownCap w (n+1) n aj-(n+1))) aj);exact⟨Nat.le_refl _,aS this⟩
  ·exact(Kept.refl Nil w).drew.alloc _
end
def gh(D:DG)(h s:HT)(l:List HT):Int:=if c9 D h l=0 then(if s∈l then 0 else 2)else c9 D h l
theorem oU{D:DG}{h:HT}{l:List HT}(e:c9 D h l=0):lP D h l=D++ [⟨h,dd l⟩]:=by unfold lP;rw [if_pos e]
section
variable{w w':World}{S ST:Nat->Prop}{t:Nat}{T:List Tr.Nd}{d:Int}
theorem rT(h:Tr.nZ w ST t T d):Tr.nZ w (fun k=>ST k/\k<w.heap.size) t T d:=by
 obtain⟨b,c,L,h⟩:=h;refine⟨b,c,L,{h with gK:=⟨h.gK,h.lt⟩,fK:=⟨h.fK,?_⟩,pV:=fun i p hi=>?_}⟩
 ·obtain⟨A,m,hk⟩:=h.pV i p hi
  exact⟨A,m,{hk with jL:=fun k e=>⟨hk.jL k e,let ⟨_,_,hc⟩:=Row.bC hk.row e;aS hc⟩}⟩
 ·obtain⟨cur,hc⟩:=h.uS
  exact aS hc
end
section
variable{w w':World}{F:Nat->Prop}{x:Nat}{D:DG}{P:List Int}{m:XM}{K:Value->World->Prop}
theorem Ie{v:World}{hid s:HT}{S2 F2 SO2:Nat->Prop}{ps:List HT}{j:Nat}{mj:DN}{Ee sb:Nat}{b8:Int}{DR:Option Nat}{A7:Option Addr}{n7 c7:Nat}{i7:Int}{s1 s2:Nat}
 (h:XV w F x D P m) (hD:D.length<=5000) (hn:hid∉ids D) (fz:∀p∈ps,p∈ids D) (rC:SS ps) (hj:D[j]? =some mj) (hs:mj.id=s) (E8:s∈ps)
 (iH:v.heap[x]? =some (.cells #[.pointer (some ⟨m.g,0,none⟩),.pointer (some ⟨m.t,0,none⟩),.map (some m.mb),.slice (some ⟨m.ib,0,none⟩) D.length m.ic,.map (some m.cb)] dV (0,0)))
 (ahW:w.heap.size<=Ee) (agS:w.heap.size<=sb) (OF:v.heap[Ee]? =some (.cells hid.1 aj (0,0))) (G5:v.heap[sb]? =some (.cells s.1 aj (0,0)))
 (hG:BJ v S2 F2 m.g (D++ [⟨hid,ps⟩])) (hT:Tr.nZ v m.ST m.t m.T m.d) (hat:IsMap v m.mb (ids D)) (eE:bQ v 0 (some ⟨m.ib,0,none⟩) D.length m.ic (ids D))
 (OU:∃f,fj v m.cb f/\∀y,∃l,nJ v SO2 (D.length+1) (f y) l/\∀c,c∈l↔Mo (D++ [⟨hid,ps⟩]) (P++ [(j:Int)]) y c)
 (xc:w.heap.size<=s1) (AH:s1<=s2) (AG:s2<=v.heap.size)
 (P0:∀k,S2 k->(m.SG k\/w.heap.size<=k)/\k<s1) (P1:∀k,F2 k->(F k\/w.heap.size<=k)/\k<s1) (K9:∀k,SO2 k->m.SO k\/(s2<=k/\k<v.heap.size))
 (kv:Kept (fun k=>m.jL x k) w v)
 (hK:∀u S' F',BI u S' F' x (D++ [⟨hid,ps⟩]) (P++ [(j:Int)])->Kept (fun k=>m.jL x k) w u->(∀k,S' k->m.jL x k\/w.heap.size<=k)->(∀k,F' k->F k\/w.heap.size<=k)->K (.int .i64 0) u):
 aA.PD (some ⟨x,0,none⟩) ⟨Ee,0,none⟩ ⟨sb,0,none⟩ b8 DR A7 n7 c7 i7 i7 K v:=by
 have W:=h.W;have lA:=h.low;have ti:=(lgeS hj).1;have Ls:=h.MH;have Zt:m.own x x:=.inl rfl;have S5:m.own x m.mb:=.inr (.inl rfl);have S6:m.own x m.ib:=.inr (.inr (.inl rfl));have sJ:m.own x m.cb:=.inr (.inr (.inr rfl));obtain⟨PV,Rk,MV,Rj,PU,Ri⟩:=h.ne;unfold aA.PD;intro Df;have vj:Kept Nil v Df:=(Kept.refl _ _).drew;clear_value Df;have c1:Df.cell? ((⟨x,0,none⟩:Addr).add 1)=some (.pointer (some ⟨m.t,0,none⟩)):=by rw [a7,ay (vj.heap iH (fun h=>h))];rfl
 have c2:Df.cell? ((⟨x,0,none⟩:Addr).add 2)=some (.map (some m.mb)):=by rw [a7,ay (vj.heap iH (fun h=>h))];rfl
 have HA:=hat.aD vj (fun h=>h);have lk:=HA.vY s;rw [<-hs,W.pos_eq hj]at lk;rw [hs]at lk;refine⟨_,c1,_,c2,s.1,⟨s.2.1,Cells.bC (vj.heap G5 (fun h=>h))⟩,_,lk,?_⟩;have UT:=rT (hT.same vj);refine Tr.FF UT h.KA (p:=j) (by omega) (by omega) ⟨h.dl.1,by have:=h.dl.2;omega⟩ fun De VG T' d' UR HE SN hd' Ec aa6=>⟨_,_,rfl,?_⟩;have afy:=vj.size;have PZ:∀k,VG k->m.ST k\/Df.heap.size<=k:=fun k hk=>(aa6 k hk).imp (fun h=>h.1) (fun h=>h);have nST:∀k,(m.ST k/\k<Df.heap.size)->m.ST k:=fun k h=>h.1;have MF:=Ec.heap (vj.heap iH (fun h=>h)) (fun e=>(h.od x Zt).2.1 e.1);intro Fy;have Eb:Kept Nil De Fy:=(Kept.refl _ _).drew;clear_value Fy;have FI:=Eb.heap MF (fun h=>h);have CJ:∀k,m.ST k->k<w.heap.size:=fun k e=>lA k (.inl (.inr (.inl e)));have lox:x<w.heap.size:=lA x (.inl (.inr (.inr (.inr Zt))));have afX:m.mb<w.heap.size:=lA _ (.inl (.inr (.inr (.inr S5))));have afY:m.ib<w.heap.size:=lA _ (.inl (.inr (.inr (.inr S6))));have Rv:m.cb<w.heap.size:=lA _ (.inl (.inr (.inr (.inr sJ))));have sv:=kv.size;have CO:Fy.heap[Ee]? =some (.cells hid.1 aj (0,0)):=Eb.heap (Ec.heap (vj.heap OF (fun h=>h)) (fun e=>by have:=CJ _ e.1;omega)) (fun h=>h);have xM:Fy.cell? ((⟨x,0,none⟩:Addr).add 2)=some (.map (some m.mb)):=by rw [a7,ay FI];rfl
 have O7:IsMap Fy m.mb (ids D):=(HA.aD Ec (fun e=>(h.od _ S5).2.1 e.1)).aD Eb (fun h=>h);obtain⟨Mx,LA,O6,R0⟩:=O7.put hn;rw [fc,<-Ls]at LA;refine⟨_,xM,hid.1,⟨hid.2.1,Cells.bC CO⟩,Mx,LA,?_⟩;intro Dd;have RZ:Kept Nil Mx Dd:=(Kept.refl _ _).drew;clear_value Dd;have wW:=R0.trans RZ (fun _ _ h=>h.elim);have FH:=wW.heap FI (fun e=>PV e);have c3:∀ {u:World},Kept Nil Dd u->u.cell? ((⟨x,0,none⟩:Addr).add 3)=some (.slice (some ⟨m.ib,0,none⟩) D.length m.ic):=fun k=>by rw [a7,ay (k.heap FH (fun h=>h))];rfl
 have Kc:=wW.heap CO (fun e=>by omega);refine⟨_,_,_,c3 (Kept.refl _ _),hid.1,⟨hid.2.1,Cells.bC Kc⟩,hid.2.1,?_⟩;intro xU;have JG:Kept Nil Dd xU:=(Kept.refl _ _).alloc _;have UH:HS xU (some ⟨Dd.heap.size,0,none⟩) 1 [hid]:=ja Dd hid;clear_value xU;have Cx:=wW.trans JG (fun _ _ h=>h.elim);have MP:bQ xU 0 (some ⟨m.ib,0,none⟩) D.length m.ic (ids D):=
  Row.aD (Row.aD (Row.aD (Row.aD eE vj (fun _ _ h=>h)) Ec (fun k e e'=>by cases e;exact(h.od _ S6).2.1 e'.1)) Eb (fun _ _ h=>h)) Cx (fun k e e'=>by cases e;exact Rj e'.symm)
 obtain⟨A',c',Dc,SC,z7,TY,UG⟩:=cF (cx:=1) az MP UH (by omega) (Nat.zero_le _);have Nl:Kept (· =m.ib) xU Dc:=Kept.grown (Kept.refl _ _) TY (fun k e _=>by cases e;rfl);obtain⟨zF,rfl⟩:=Row.some z7 (by omega);have Ke:zF=m.ib\/xU.heap.size<=zF:=by
  rcases UG zF rfl with e|e
  ·left;simpa [a8]using e.symm
  ·exact .inr e
 have FG:=Nl.heap (JG.heap FH (fun h=>h)) (fun e=>Rk e);refine⟨c3 JG,some ⟨zF,0,none⟩,_,c',Dc,SC,Is.mk rfl ⟨?_,?_⟩⟩
 ·rw [a7]
  exact dK FG (by simp)
 intro xT;have Vp:xT=Dc.setCell ⟨x,3,none⟩ (.slice (some ⟨zF,0,none⟩) (D.length+1) c'):=by
  show Dc.setCell ((⟨x,0,none⟩:Addr).add 3) _=_
  rw [a7]
 have Nk:Kept (· =x) Dc xT:=by rw [Vp];exact Kept.setCell (S:=fun k=>k=x) (Kept.refl _ Dc) (p:=⟨x,3,none⟩) (fun _=>rfl) _
 have ME:xT.heap[x]? =some (.cells #[.pointer (some ⟨m.g,0,none⟩),.pointer (some ⟨m.t,0,none⟩),.map (some m.mb),.slice (some ⟨zF,0,none⟩) (D.length+1) c',.map (some m.cb)] dV (0,0)):=by
  rw [Vp,cS FG 3];rfl
 clear_value xT;have afx:=Ec.size;have afw:=Eb.size;have afv:=Cx.size;have afu:=Nl.size;have aft:=Nk.size;have kC:Kept (fun k=>k=m.ib\/k=x) Mx xT:=(((RZ.tt JG).mono (S':=fun k=>k=m.ib\/k=x) (fun _ _ h=>h.elim)).trans Nl (fun _ _ h=>.inl h)).trans Nk (fun _ _ h=>.inr h);have kB:Kept (fun k=>k=m.mb\/k=m.ib\/k=x) De xT:=((Eb.mono (S':=fun k=>k=m.mb\/k=m.ib\/k=x) (fun _ _ h=>h.elim)).trans R0 (fun _ _ h=>.inl h)).trans kC (fun _ _ h=>.inr h);have kA:Kept (fun k=>m.ST k\/k=m.mb\/k=m.ib\/k=x) v xT:=((vj.mono (S':=fun k=>m.ST k\/k=m.mb\/k=m.ib\/k=x) (fun _ _ h=>h.elim)).trans Ec (fun _ _ h=>.inl h.1)).trans kB (fun _ _ h=>.inr h);have DO:∀k,(k=m.mb\/k=m.ib\/k=x)->m.own x k:=fun k e=>by
  rcases e with e|e|e
  ·exact .inr (.inl e)
  ·exact .inr (.inr (.inl e))
  ·exact .inl e
 have Jc:∀k,m.own x k->k<w.heap.size:=fun k e=>lA k (.inl (.inr (.inr (.inr e))));have Jl:∀k,m.SG k->k<w.heap.size:=fun k e=>lA k (.inl (.inl e));have Gl:∀k,m.SO k->k<w.heap.size:=fun k e=>lA k (.inl (.inr (.inr (.inl e))));have nG:∀k,S2 k->¬(m.ST k\/k=m.mb\/k=m.ib\/k=x):=fun k h1 h2=>by
  obtain⟨h3,_⟩:=P0 k h1;rcases h2 with h2|h2
  ·rcases h3 with h3|h3
   ·exact(h.gt k h3).1 h2
   ·have:=CJ k h2;omega
  ·have h4:=DO k h2
   rcases h3 with h3|h3
   ·exact(h.od k h4).1 h3
   ·have:=Jc k h4;omega
 have nF:∀k,F2 k->¬(m.ST k\/k=m.mb\/k=m.ib\/k=x):=fun k h1 h2=>by
  obtain⟨h3,_⟩:=P1 k h1;rcases h2 with h2|h2
  ·rcases h3 with h3|h3
   ·exact(h.fd k h3).1 h2
   ·have:=CJ k h2;omega
  ·have h4:=DO k h2
   rcases h3 with h3|h3
   ·exact(h.od k h4).2.2.2 h3
   ·have:=Jc k h4;omega
 have XS:∀k,SO2 k->¬(m.ST k\/k=m.mb\/k=m.ib\/k=x):=fun k h1 h2=>by
  rcases K9 k h1 with h3|⟨h3,_⟩
  ·rcases h2 with h2|h2
   ·exact h.to k h2 h3
   ·exact(h.od k (DO k h2)).2.2.1 h3
  ·rcases h2 with h2|h2
   ·have:=CJ k h2;omega
   ·have:=Jc k (DO k h2);omega
 have nT:∀k,(VG k/\k<De.heap.size)->¬(k=m.mb\/k=m.ib\/k=x):=fun k h1 h2=>by
  have h4:=DO k h2;rcases PZ k h1.1 with h3|h3
  ·exact(h.od k h4).2.1 h3
  ·have:=Jc k h4;omega
 refine hK xT (fun k=>(S2 k\/(VG k/\k<De.heap.size)\/SO2 k\/(k=x\/k=m.mb\/k=zF\/k=m.cb))) F2 ⟨{m with ib:=zF,ic:=c',T:=T',d:=d',SG:=S2,ST:=fun k=>VG k/\k<De.heap.size,SO:=SO2},?_,fun k e=>e⟩ ?_ ?_ ?_
 ·refine⟨?_,hG.aD kA nG nF,(rT UR).aD kB nT,HE,?_,?_,?_,?_,?_,?_,?_,?_,?_,?_,?_,?_,?_⟩
  ·rw [List.length_append];exact ME
  ·show Tr.bN T'=_
   rw [SN,h.bN]
  ·have:=h.dl
   simp only [List.length_append,List.length_singleton];show 0<=d'/\d'<=_
   omega
  ·rw [kh]
   exact O6.aD kC (fun e=>e.elim (fun e=>Rj e) (fun e=>PV e.symm))
  ·rw [kh,List.length_append]
   refine Row.aD z7 Nk (fun k e e'=>?_);have e1:zF=k:=by simpa [a8]using e
   rcases Ke with e|e
   ·exact Rk (e'.symm.trans (e1.symm.trans e))
   ·omega
  ·obtain⟨f,hf,hc⟩:=OU
   refine⟨f,hf.aD kA (fun e=>?_),fun y=>?_⟩
   ·rcases e with e|e|e|e
    ·exact(h.od _ sJ).2.1 e
    ·exact PU e.symm
    ·exact Ri e.symm
    ·exact MV e.symm
   ·obtain⟨l,h1,h2⟩:=hc y
    refine⟨l,?_,h2⟩;rw [List.length_append];exact h1.aD kA XS
  ·exact h.jt.snoc hj (by rw [hs];exact E8) W.pos
  ·exact W.snoc (nd:=⟨hid,ps⟩) hn fz rC
  ·intro k h1
   obtain⟨h3,h4⟩:=P0 k h1;refine⟨fun h2=>?_,fun h2=>?_⟩
   ·rcases PZ k h2.1 with h5|h5
    ·exact nG k h1 (.inl h5)
    ·omega
   ·rcases K9 k h2 with h5|h5
    ·rcases h3 with h3|h3
     ·exact(h.gt k h3).2 h5
     ·have:=Gl k h5;omega
    ·omega
  ·intro k h1 h2
   rcases PZ k h1.1 with h5|h5
   ·exact XS k h2 (.inl h5)
   ·rcases K9 k h2 with h6|h6
    ·have:=Gl k h6;omega
    ·omega
  ·intro k h1
   obtain⟨h3,h4⟩:=P1 k h1;refine⟨fun h2=>?_,fun h2=>?_⟩
   ·rcases PZ k h2.1 with h5|h5
    ·exact nF k h1 (.inl h5)
    ·omega
   ·rcases K9 k h2 with h5|h5
    ·rcases h3 with h3|h3
     ·exact(h.fd k h3).2 h5
     ·have:=Gl k h5;omega
    ·omega
  ·intro k e
   have e':(k=m.mb\/k=m.ib\/k=x)\/(k=m.cb)\/(k=zF/\xU.heap.size<=zF):=by
    rcases e with e|e|e|e
    ·exact .inl (.inr (.inr e))
    ·exact .inl (.inl e)
    ·rcases Ke with h5|h5
     ·exact .inl (.inr (.inl (e.trans h5)))
     ·exact .inr (.inr ⟨e,h5⟩)
    ·exact .inr (.inl e)
   have big:xU.heap.size<=k->¬S2 k/\¬(VG k/\k<De.heap.size)/\¬SO2 k/\¬F2 k:=fun hb=>
    ⟨fun h1=>by have:=(P0 k h1).2;omega,fun h1=>by have:=h1.2;omega,fun h1=>(K9 k h1).elim (fun h2=>by have:=Gl k h2;omega) (fun h2=>by omega),fun h1=>by have:=(P1 k h1).2;omega⟩
   rcases e' with e'|e'|⟨rfl,e'⟩
   ·exact⟨fun h1=>nG k h1 (.inr e'),fun h1=>nT k h1 e',fun h1=>XS k h1 (.inr e'),fun h1=>nF k h1 (.inr e')⟩
   ·subst e'
    have WH:=h.od _ sJ;refine⟨fun h1=>?_,fun h1=>?_,fun h1=>?_,fun h1=>?_⟩
    ·rcases(P0 _ h1).1 with h2|h2
     ·exact WH.1 h2
     ·omega
    ·rcases PZ _ h1.1 with h2|h2
     ·exact WH.2.1 h2
     ·omega
    ·rcases K9 _ h1 with h2|h2
     ·exact WH.2.2.1 h2
     ·omega
    ·rcases(P1 _ h1).1 with h2|h2
     ·exact WH.2.2.2 h2
     ·omega
   ·exact big e'
  ·show x≠m.mb/\x≠zF/\x≠m.cb/\m.mb≠zF/\m.mb≠m.cb/\zF≠m.cb
   rcases Ke with h5|h5
   ·rw [h5];exact⟨PV,Rk,MV,Rj,PU,Ri⟩
   ·exact⟨PV,by omega,MV,by omega,PU,by omega⟩
  ·intro k e
   have hblk:=(Row.bC z7 (k:=zF) rfl).2;obtain⟨cur,oK⟩:=hblk;have lib:=aS oK;rcases e with e|e
   ·rcases e with e|e|e|e
    ·have:=(P0 k e).2;omega
    ·have:=e.2;omega
    ·rcases K9 k e with h2|h2
     ·have:=Gl k h2;omega
     ·omega
    ·rcases e with e|e|e|e
     ·omega
     ·have e:k=m.mb:=e;omega
     ·have e:k=zF:=e;omega
     ·have e:k=m.cb:=e;omega
   ·have:=(P1 k e).2;omega
 ·refine kv.trans kA (fun k _ e=>?_)
  rcases e with e|e
  ·exact .inr (.inl e)
  ·exact .inr (.inr (.inr (DO k e)))
 ·intro k e
  rcases e with e|e|e|e
  ·exact(P0 k e).1.imp (fun h=>.inl h) (fun h=>h)
  ·rcases PZ k e.1 with h5|h5
   ·exact .inl (.inr (.inl h5))
   ·exact .inr (by omega)
  ·rcases K9 k e with h5|h5
   ·exact .inl (.inr (.inr (.inl h5)))
   ·exact .inr (by omega)
  ·rcases e with e|e|e|e
   ·exact .inl (.inr (.inr (.inr (.inl e))))
   ·exact .inl (.inr (.inr (.inr (.inr (.inl e)))))
   ·rcases Ke with h5|h5
    ·exact .inl (.inr (.inr (.inr (.inr (.inr (.inl (e.trans h5)))))))
    ·exact .inr (by omega)
   ·exact .inl (.inr (.inr (.inr (.inr (.inr (.inr e))))))
 ·exact fun k e=>(P1 k e).1
end
section
variable{w w':World}{F S:Nat->Prop}{x:Nat}{D:DG}{P:List Int}{m:XM}{K:Value->World->Prop}
theorem ES{u v:World}{hid s:HT}{D':DG}{ps pl:List HT}{Ee ob i:Nat}{A7:Option Addr}{c7:Nat}{b8:Int}{sb:Addr}{f0:HT->Option Value}{Q:aM}{V1:Option Nat}
 (h:XV w F x D P m) (hD:D.length<=5000) (hwu:w.heap.size<=u.heap.size)
 (iH:u.heap[x]? =some (.cells #[.pointer (some ⟨m.g,0,none⟩),.pointer (some ⟨m.t,0,none⟩),.map (some m.mb),.slice (some ⟨m.ib,0,none⟩) D.length m.ic,.map (some m.cb)] dV (0,0)))
 (OF:u.heap[Ee]? =some (.cells hid.1 aj (0,0))) (ahp:w.heap.size<=Ee) (hold:fj u ob f0) (ahn:w.heap.size<=ob) (Zw:V1=some ob)
 (hf0:∀y,(y=s\/eI D y s->f0 y=some (.agg #[.bool true]))/\(¬(y=s\/eI D y s)->f0 y=none))
 (yh:bQ u w.heap.size A7 pl.length c7 pl) (nz:pl.length<=10000)
 (kv:Kept (· =m.cb) u v) (hi:i<=pl.length) {Z:HT->HT->Prop}
 (OU:∃f,fj v m.cb f/\∀y,∃l,nJ v (fun k=>m.SO k\/(u.heap.size<=k/\k<v.heap.size)) (D.length+if y∈pl.take i then 1 else 0) (f y) l/\∀c,c∈l↔Mo D P y c\/(c=hid/\y∈pl.take i/\y≠s/\¬eI D y s)) (eF:pl.Nodup)
 (hQ:∀v',Kept (· =m.cb) u v'->(∃f,fj v' m.cb f/\∀y,∃l,nJ v' (fun k=>m.SO k\/(u.heap.size<=k/\k<v'.heap.size)) (D.length+if y∈pl.take (i+1)then 1 else 0) (f y) l/\∀c,c∈l↔Mo D P y c\/(c=hid/\y∈pl.take (i+1)/\y≠s/\¬eI D y s))->i<pl.length->
   Q .normal (aA.e2 (some ⟨x,0,none⟩) ⟨Ee,0,none⟩ sb b8 V1 A7 pl.length c7 (pl.length:Int) ((i:Int)+1)) v')
 (hE:i=pl.length->Q (.exit 3) (aA.e2 (some ⟨x,0,none⟩) ⟨Ee,0,none⟩ sb b8 V1 A7 pl.length c7 (pl.length:Int) (i:Int)) v):
 aA.B2 (some ⟨x,0,none⟩) ⟨Ee,0,none⟩ sb b8 V1 A7 pl.length c7 (pl.length:Int) (i:Int) Q v:=by
 subst Zw;have Zt:m.own x x:=.inl rfl;have sJ:m.own x m.cb:=.inr (.inr (.inr rfl));obtain⟨PV,Rk,MV,Rj,PU,Ri⟩:=h.ne;have Rv:m.cb<w.heap.size:=h.low _ (.inl (.inr (.inr (.inr sJ))));have sv:=kv.size;unfold aA.B2;refine Split.dec (fun iU=>?_) (fun fU=>hE (by omega));have dW:i<pl.length:=by omega
 obtain⟨y,hy⟩:∃y,pl[i]? =some y:=⟨_,List.getElem?_eq_getElem dW⟩;have Wj:y∉pl.take i:=fun hm=>by
  obtain⟨j,hj⟩:=List.mem_iff_getElem?.1 hm;rw [List.getElem?_take]at hj;split at hj
  ·rename_i cy
   have h1:=jU 0 j eF hj;rw [jU 0 i eF hy]at h1;simp only [Option.some.injEq]at h1;omega
  ·cases hj
 have MN:HS v A7 pl.length pl:=bQ.hs (Row.aD yh kv (fun k hk e=>by have:=(Row.bC yh hk).1;omega));refine MN.load (i:=(i:Int)) (by omega) (by rw [Int.toNat_natCast];exact hy) ?_;intro w81;obtain⟨sH,jh,jB⟩:=gM (w:=v) (z:=(#[.int .u8 0,.int .u8 0,.int .u8 0,.int .u8 0,.int .u8 0,.int .u8 0,.int .u8 0,.int .u8 0,.int .u8 0,.int .u8 0,.int .u8 0,.int .u8 0,.int .u8 0,.int .u8 0,.int .u8 0,.int .u8 0,.int .u8 0,.int .u8 0,.int .u8 0,.int .u8 0,.int .u8 0,.int .u8 0,.int .u8 0,.int .u8 0,.int .u8 0,.int .u8 0,.int .u8 0,.int .u8 0,.int .u8 0,.int .u8 0,.int .u8 0,.int .u8 0]:Array Value)) (cs:=y.1) (t:=aj) (by rw [y.2.1];rfl);refine⟨⟨y.2.1,y.2.one,fun j hj=>sH j (by rw [y.2.1];exact hj)⟩,?_⟩;intro Mv
 replace jh:Mv.heap[v.heap.size]? =some (.cells y.1 aj (0,0)):=jh
 replace jB:Kept Nil v Mv:=jB
 clear_value Mv;have Wf:Kept (· =m.cb) u Mv:=kv.trans jB (fun _ _ h=>h.elim);have Oh:fj Mv ob f0:=hold.aD Wf (fun e=>by omega);have lk:=Oh.look Gg y;obtain⟨f,hf,hc⟩:=OU;have T8:=hf.aD jB (fun h=>h);obtain⟨l,pG,Ka⟩:=hc y;have YX:=jB.size;have Mj:∀ {v':World} {N N':Nat} {a:Option Value} {l:List HT},v.heap.size<=v'.heap.size->N<=N'->nJ v' (fun k=>m.SO k\/(u.heap.size<=k/\k<v.heap.size)) N a l->nJ v' (fun k=>m.SO k\/(u.heap.size<=k/\k<v'.heap.size)) N' a l:=fun hv hN y0=>by
  rcases y0 with y0|⟨A,n,c,h1,h2,h3,h4,h5⟩
  ·exact .inl y0
  ·exact .inr ⟨A,n,c,h1,h2,h3,by omega,fun a ha=>(h5 a ha).imp (fun h=>h) (fun h=>⟨h.1,by omega⟩)⟩
 have Mk:∀ {v':World} {N:Nat} {a:Option Value} {l:List HT},Kept (· =m.cb) v v'->nJ v (fun k=>m.SO k\/(u.heap.size<=k/\k<v.heap.size)) N a l->nJ v' (fun k=>m.SO k\/(u.heap.size<=k/\k<v.heap.size)) N a l:=fun hk y0=>y0.aD hk (fun k nC e=>by
  rcases nC with h1|h1
  ·exact(h.od _ sJ).2.2.1 (e▸h1)
  ·omega)
 refine⟨y.1,⟨y.2.1,Cells.bC jh⟩,?_⟩;by_cases iZ:y=s\/eI D y s
 ·rw [(hf0 y).1 iZ]at lk
  refine⟨_,lk,true,rfl,Split.no rfl ?_⟩;rw [dh (n:=(i:Int)) (by omega) (by omega)];refine hQ Mv Wf ⟨f,T8,fun z=>?_⟩ dW;obtain⟨lz,h1,h2⟩:=hc z;refine⟨lz,Mj YX (by
   by_cases hz:z∈pl.take i
   ·rw [if_pos hz,if_pos ((bG hy).2 (.inl hz))];exact Nat.le_refl _
   ·rw [if_neg hz];omega) (Mk (jB.mono (fun _ _ h=>h.elim)) h1),fun c=>?_⟩
  rw [h2,bG hy];constructor
  ·rintro(h3|⟨h3,h4,h5,h6⟩)
   ·exact .inl h3
   ·exact .inr ⟨h3,.inl h4,h5,h6⟩
  ·rintro(h3|⟨h3,h4|rfl,h5,h6⟩)
   ·exact .inl h3
   ·exact .inr ⟨h3,h4,h5,h6⟩
   ·exact absurd iZ (fun e=>e.elim h5 h6)
 ·rw [(hf0 y).2 iZ]at lk
  refine⟨_,lk,false,rfl,Split.yes rfl ?_⟩;intro BM;have RN:Kept Nil Mv BM:=(Kept.refl _ _).drew;clear_value BM;have X8:=jB.tt RN;have Hu:=RN.heap jh (fun h=>h);have sx:∀ {q:World},Kept Nil BM q->q.cell? ((⟨x,0,none⟩:Addr).add 4)=some (.map (some m.cb)):=fun k=>by
   rw [a7,ay (k.heap (RN.heap (Wf.heap iH (fun e=>MV e)) (fun h=>h)) (fun h=>h))];rfl
  have ml:∀ {q:World},Kept Nil BM q->∃cs:Array Value,(.agg y.1:Value)=.agg cs/\cs.size=32/\Cells q (⟨v.heap.size,0,none⟩:Addr) cs:=fun k=>⟨y.1,rfl,y.2.1,Cells.bC (k.heap Hu (fun h=>h))⟩;have LS:BM.heap[Ee]? =some (.cells hid.1 aj (0,0)):=RN.heap (Wf.heap OF (fun e=>by omega)) (fun h=>h);have aar:∀ {q:World},Kept Nil BM q->∃cs:Array Value,(.agg hid.1:Value)=.agg cs/\cs.size=32/\Cells q (⟨Ee,0,none⟩:Addr) cs:=fun k=>⟨hid.1,rfl,hid.2.1,Cells.bC (k.heap LS (fun h=>h))⟩;have T7:=T8.aD RN (fun h=>h);obtain⟨A,n,c,fW,El,CC,hnN⟩:∃(A:Option Addr) (n c:Nat),(f y).getD (.slice none 0 0)=.slice A n c/\n<=c/\HS v A n l/\n<=D.length:=by
   rcases pG with⟨h1,h2⟩|⟨A,n,c,h1,h2,h3,h4,_⟩
   ·exact⟨none,0,0,by rw [h1];rfl,Nat.le_refl _,by rw [h2];exact HS.nil _ _,by omega⟩
   ·rw [if_neg Wj]at h4
    exact⟨A,n,c,by rw [h1];rfl,h2,h3,by omega⟩
  have lk2:∀ {q:World},Kept Nil BM q->(Instr.lookup fY (.map (some m.cb)) (.agg y.1) false).run prog q=.ok (.slice A n c) q:=fun k=>by
   have:=(T7.aD k (fun h=>h)).look wT y;rw [fW]at this;exact this
  have fin:∀ {q:World} {bb:Nat},Kept Nil BM q->HS q (some ⟨bb,0,none⟩) 1 [hid]->
   ∃(A':Option Addr) (n' c':Nat) (q2:World),(Builtin.append_ #[az,az] az #[.slice A n n,.slice (some ⟨bb,0,none⟩) 1 1]).run prog q=.ok (.slice A' n' c') q2/\(∃cs:Array Value,(.agg y.1:Value)=.agg cs/\cs.size=32/\Cells q2 (⟨v.heap.size,0,none⟩:Addr) cs)/\q2.cell? ((⟨x,0,none⟩:Addr).add 4)=some (.map (some m.cb))/\
    ∃q3:World,(Instr.mapUpdate fY (.map (some m.cb)) (.agg y.1) (.slice A' n' c')).run prog q2=.ok () q3/\Q .normal (aA.e2 (some ⟨x,0,none⟩) ⟨Ee,0,none⟩ sb b8 (some ob) A7 pl.length c7 (pl.length:Int) (i64.wrap ((i:Int)+(1:Int)))) q3:=by
   intro q bb kq vq;have X5:=X8.tt kq;obtain⟨A',c',q2,hr,AH,LW,lS,kq2⟩:=xp (cx:=1) (CC.same X5) vq (by omega);have k2:=kq.tt kq2;obtain⟨q3,CG,hf3,k3⟩:=(T7.aD k2 (fun h=>h)).put wT y (.slice A' (n+1) c');refine⟨A',_,c',q2,hr,ml k2,sx k2,q3,CG,?_⟩;rw [dh (n:=(i:Int)) (by omega) (by omega)];have RG:=X5.tt kq2;have RF:Kept (· =m.cb) v q3:=(RG.mono (S':=(· =m.cb)) (fun _ _ h=>h.elim)).tt k3;have sq2:=RG.size;have sq3:=k3.size;have svq:=X5.size;refine hQ q3 (kv.tt RF) ⟨_,hf3,fun z=>?_⟩ dW;by_cases hz:z=y
   ·subst hz
    refine⟨l++ [hid],.inr ⟨A',n+1,c',by simp,LW,AH.aD k3 (fun a ha e=>by have:=(lS a ha).1;omega),?_,fun a ha=>.inr ?_⟩,fun c=>?_⟩
    ·rw [if_pos ((bG hy).2 (.inr rfl))];omega
    ·have:=lS a ha;omega
    ·rw [List.mem_append,List.mem_singleton,Ka,bG hy]
     constructor
     ·rintro((h3|⟨h3,h4,h5,h6⟩)|h3)
      ·exact .inl h3
      ·exact .inr ⟨h3,.inl h4,h5,h6⟩
      ·exact .inr ⟨h3,.inr rfl,fun e=>iZ (.inl e),fun e=>iZ (.inr e)⟩
     ·rintro(h3|⟨h3,h4,h5,h6⟩)
      ·exact .inl (.inl h3)
      ·exact .inr h3
   ·obtain⟨lz,h1,h2⟩:=hc z
    refine⟨lz,?_,fun c=>?_⟩
    ·simp only [hz,if_false]
     refine Mj (by omega) ?_ (Mk RF h1);by_cases Yr:z∈pl.take i
     ·rw [if_pos Yr,if_pos ((bG hy).2 (.inl Yr))];exact Nat.le_refl _
     ·rw [if_neg Yr];omega
    ·rw [h2,bG hy]
     constructor
     ·rintro(h3|⟨h3,h4,h5,h6⟩)
      ·exact .inl h3
      ·exact .inr ⟨h3,.inl h4,h5,h6⟩
     ·rintro(h3|⟨h3,h4|h4,h5,h6⟩)
      ·exact .inl h3
      ·exact .inr ⟨h3,h4,h5,h6⟩
      ·exact absurd h4 hz
  refine⟨_,sx (Kept.refl _ _),y.1,⟨y.2.1,Cells.bC Hu⟩,_,sx (Kept.refl _ _),y.1,⟨y.2.1,Cells.bC Hu⟩,A,n,c,lk2 (Kept.refl _ _),hid.1,⟨hid.2.1,Cells.bC LS⟩,?_,⟨hid.2.1,?_⟩⟩
  ·refine wy El ⟨A,n,n,rfl,aar (Kept.refl _ _),ml (Kept.refl _ _),sx (Kept.refl _ _),hid.2.1,?_⟩
   intro Dg;have Ar:Kept Nil BM Dg:=(Kept.refl _ _).alloc _;have UJ:HS Dg (some ⟨BM.heap.size,0,none⟩) 1 [hid]:=ja BM hid;clear_value Dg;exact⟨ml Ar,sx Ar,fin Ar UJ⟩
  ·intro My
   have yN:Kept Nil BM My:=(Kept.refl _ _).alloc _;have UI:HS My (some ⟨BM.heap.size,0,none⟩) 1 [hid]:=ja BM hid;clear_value My;exact⟨lk2 yN,ml yN,sx yN,ml yN,sx yN,wy El ⟨A,n,n,rfl,ml yN,sx yN,fin yN UI⟩⟩
end
def mK(D:DG)(h s:HT)(l:List HT):DG:=if gh D h s l=0 then D++ [⟨h,dd l⟩]else D
def mJ(D:DG)(P:List Int)(h s:HT)(l:List HT):List Int:=if gh D h s l=0 then P++ [(((pos s (ids D) 0).getD 0:Nat):Int)]else P
section
variable{w w':World}{F S:Nat->Prop}{x:Nat}{D:DG}{P:List Int}{m:XM}{K:Value->World->Prop}
theorem DJ(h:XV w F x D P m)(hD:D.length<=5000)(hT:rQ w)(IL:¬m.SG (Tryz.jf.g 1)){A:Option Addr}{n cx:Nat}{lp:List HT}(hl:HS w A n lp)(hn:n<=5000)(hid s:HT)
 (lZ:∀v,Kept Nil w v->gh D hid s lp≠0->K (.int .i64 (gh D hid s lp)) v)
 (yR:∀u S' F',BI u S' F' x (mK D hid s lp) (mJ D P hid s lp)->Kept (fun k=>m.jL x k) w u->(∀k,S' k->m.jL x k\/w.heap.size<=k)->(∀k,F' k->F k\/w.heap.size<=k)->gh D hid s lp=0->K (.int .i64 0) u):
 bj prog aA.id #[.pointer (some ⟨x,0,none⟩),.agg hid.1,.agg s.1,.slice A n cx] w K:=by
 have hlen:=hl.len;have W:=h.W;refine aA.of ?_;unfold aA.W;intro w5 w6;have k5:Kept Nil w w5:=(Kept.refl _ _).alloc _;have Kf:w5.heap[w.heap.size]? =some (.cells hid.1 aj (0,0)):=aJ w _;have k6:Kept Nil w5 w6:=(Kept.refl _ _).alloc _;have JO:w6.heap[w5.heap.size]? =some (.cells s.1 aj (0,0)):=aJ w5 _;clear_value w6;have WA:=k6.heap Kf (fun h=>h);have nx:=k5.tt k6;have s5:=k5.size;have l5:=aS Kf;obtain⟨bl,c,mbg,M,G⟩:=h.G;have hG:∀ {v:World},Kept Nil w v->GV v m.SG F m.g D (fX D) bl c mbg M:=fun k=>G.same k;refine rZ (h.same nx) ⟨true,rfl,Split.no rfl ⟨_,(h.same nx).c0,hid.1,⟨hid.2.1,Cells.bC WA⟩,?_⟩⟩;refine tl (hG nx) hid fun gX Iz=>⟨_,rfl,?_⟩;have JI:=nx.tt Iz;by_cases fz:hid∈ids D
 ·have e:gh D hid s lp=7:=by simp [gh,c9,fz]
  have:=lZ gX JI (by rw [e];decide);rw [e]at this;exact Split.yes (decide_eq_true fz) this
 refine Split.no (decide_eq_false fz) ?_;by_cases h0:n=0
 ·have el:lp= []:=List.length_eq_zero_iff.1 (by omega)
  have e:gh D hid s lp=9:=by subst el;simp [gh,c9,fz,I3]
  have:=lZ gX JI (by rw [e];decide);rw [e]at this;exact Split.yes (by simp [h0]) this
 refine Split.no (by simp [h0]) ?_;refine iw (hl.same JI) (by omega) fun A17 c17 vJ acH GD=>⟨A17,_,c17,rfl,?_⟩;have JH:=JI.tt GD;have fg:lp≠ []:=fun e=>h0 (by rw [<-hlen,e];rfl);by_cases CC:¬(dd lp).length=n
 ·have e:gh D hid s lp=9:=by
   have h1:(dd lp).length=0\/(dd lp).length≠lp.length:=.inr (by omega);have h2:c9 D hid lp=9:=by unfold c9;rw [if_neg fz,if_pos h1]
   simp [gh,h2]
  have:=lZ vJ JH (by rw [e];decide);rw [e]at this;exact Split.yes (by simp only [bne_iff_ne,ne_eq];omega) this
 replace CC:=Classical.not_not.1 CC
 refine Split.no (by rw [CC];simp) ?_;refine o7 (h.same JH) (hl.same JH) (by omega) fun Db zE=>⟨_,rfl,?_⟩;have Np:=JH.tt zE;have Td:¬((dd lp).length=0\/(dd lp).length≠lp.length):=by omega
 by_cases cR:¬∀p∈lp,p∈ids D
 ·have hex:∃p∈dd lp,p∉ids D:=Classical.byContradiction fun hc=>cR fun p hp=>Classical.byContradiction fun hq=>hc ⟨p,cZ.2 hp,hq⟩
  have e:gh D hid s lp=6:=by
   have:c9 D hid lp=6:=by unfold c9;rw [if_neg fz,if_neg Td,if_pos hex]
   simp [gh,this]
  have:=lZ Db Np (by rw [e];decide);rw [e]at this;exact Split.yes (by rw [decide_eq_false cR];rfl) this
 replace cR:=Classical.not_not.1 cR
 refine Split.no (by rw [decide_eq_true cR];rfl) ?_;have aay:¬∃p∈dd lp,p∉ids D:=fun⟨p,hp,hq⟩=>hq (cR p (cZ.1 hp));have eC:c9 D hid lp=0:=by unfold c9;rw [if_neg fz,if_neg Td,if_neg aay]
 have RP:=(Iz.tt GD).tt zE;refine⟨s.1,⟨s.2.1,Cells.bC (RP.heap JO (fun h=>h))⟩,?_⟩;refine vw s (hl.same Np) (by omega) fun kW pF=>⟨_,rfl,?_⟩;have Av:=Np.tt pF;by_cases uX:¬s∈lp
 ·have e:gh D hid s lp=2:=by simp [gh,eC,uX]
  have:=lZ kW Av (by rw [e];decide);rw [e]at this;exact Split.yes (by rw [decide_eq_false uX];rfl) this
 replace uX:=Classical.not_not.1 uX
 refine Split.no (by rw [decide_eq_true uX];rfl) ?_;have eX:gh D hid s lp=0:=by simp [gh,eC,uX]
 have Jy:=RP.tt pF;obtain⟨mj,Oo,On⟩:=cU.1 (cR s uX);obtain⟨j,hj⟩:=List.mem_iff_getElem?.1 Oo;have eP:mJ D P hid s lp=P++ [(j:Int)]:=by
  unfold mJ;rw [if_pos eX,<-On,W.pos_eq hj];rfl
 have eD:mK D hid s lp=D++ [⟨hid,dd lp⟩]:=by unfold mK;rw [if_pos eX]
 intro pK;have Ea:Kept Nil kW pK:=(Kept.refl _ _).alloc _;have ZM:fj pK kW.heap.size (fun _=>none):=fj.new kW;clear_value pK;have G8:=(Jy.tt Ea).heap JO (fun h=>h);obtain⟨E0,Zc,Tq,Gz⟩:=ZM.put Gg s (.agg #[.bool true]);refine⟨s.1,⟨s.2.1,Cells.bC G8⟩,E0,Zc,?_⟩;have ob0:w5.heap.size<kW.heap.size:=by have:=aS JO;have:=Jy.size;omega
 have YY:=Gz.heap G8 (fun e=>by omega);refine⟨s.1,⟨s.2.1,Cells.bC YY⟩,s.2.1,?_⟩;intro PS;have Yo:Kept Nil E0 PS:=(Kept.refl _ _).alloc _;have YD:HS PS (some ⟨E0.heap.size,0,none⟩) 1 [s]:=ja E0 s;clear_value PS;have afC:=Av.size;have GA:Kept Nil kW PS:=(Ea.trans Gz (fun k hk e=>by omega)).tt Yo;have Nn:=Av.tt GA;refine uJ (hG Nn) W (by omega) (hT.same Nn) YD (by omega) fun A32 Vx sY KX E7=>⟨A32,_,Vx,rfl,?_⟩;have Yp:=Nn.tt E7;have ZK:fj sY kW.heap.size (fun z=>if z=s then some (.agg #[.bool true])else none):=(Tq.aD Yo (fun h=>h)).aD E7 (fun h=>h);have p1:=mv D fun a=>∃z∈ [s],eI D a z
 change (dL D [s]).length<=_ at p1
 have acB:=GA.size;have ob1:=Tq.lt;have s30:=Yo.size;have LD:∀y,y∈dL D [s]↔eI D y s:=fun y=>by
  unfold dL;rw [iY];constructor
  ·rintro⟨_,z,hz,e⟩
   rw [List.mem_singleton]at hz
   rwa [hz]at e
  ·exact fun e=>⟨(e.mem W).1,s,by simp,e⟩
 have af3:∀k,k=kW.heap.size->¬k<w.heap.size:=fun k e=>by omega
 refine aA.b7 (I:=fun i v=>∃(q:Nat) (f:HT->Option Value),i=(q:Int)/\q<=(dL D [s]).length/\fj v kW.heap.size f/\(∀y,(y=s\/y∈(dL D [s]).take q->f y=some (.agg #[.bool true]))/\(¬(y=s\/y∈(dL D [s]).take q)->f y=none))/\Kept (· =kW.heap.size) sY v)
  (μ:=fun i _=>(((dL D [s]).length:Int)-i).toNat) (s:=0) ⟨0,_,rfl,Nat.zero_le _,ZK,fun y=>⟨fun e=>by
    rcases e with e|e
    ·rw [if_pos e]
    ·simp at e,fun e=>if_neg fun e'=>e (.inl e')⟩,Kept.refl _ _⟩ ?_
 rintro i v ⟨q,f,rfl,hq,hmv,TZ,kv⟩;have Au:Kept Nil w v:=Yp.trans kv (fun k hk e=>by omega);refine Split.dec (fun iU=>?_) (fun fU=>?_)
 ·have dW:q<(dL D [s]).length:=by omega
  obtain⟨y,hy⟩:∃y,(dL D [s])[q]? =some y:=⟨_,List.getElem?_eq_getElem dW⟩;have MN:=bQ.hs (Row.aD KX kv (fun k hk e=>by have:=(Row.bC KX hk).1;omega));refine MN.load (i:=(q:Int)) (by omega) (by rw [Int.toNat_natCast];exact hy) ?_;intro KS;obtain⟨sH,jh,jB⟩:=gM (w:=v) (z:=(#[.int .u8 0,.int .u8 0,.int .u8 0,.int .u8 0,.int .u8 0,.int .u8 0,.int .u8 0,.int .u8 0,.int .u8 0,.int .u8 0,.int .u8 0,.int .u8 0,.int .u8 0,.int .u8 0,.int .u8 0,.int .u8 0,.int .u8 0,.int .u8 0,.int .u8 0,.int .u8 0,.int .u8 0,.int .u8 0,.int .u8 0,.int .u8 0,.int .u8 0,.int .u8 0,.int .u8 0,.int .u8 0,.int .u8 0,.int .u8 0,.int .u8 0,.int .u8 0]:Array Value)) (cs:=y.1) (t:=aj) (by rw [y.2.1];rfl);refine⟨⟨y.2.1,y.2.one,fun j hj=>sH j (by rw [y.2.1];exact hj)⟩,?_⟩;intro Xv
  replace jh:Xv.heap[v.heap.size]? =some (.cells y.1 aj (0,0)):=jh
  replace jB:Kept Nil v Xv:=jB
  clear_value Xv;obtain⟨Fv,Od,ZI,Wh⟩:=(hmv.aD jB (fun h=>h)).put Gg y (.agg #[.bool true]);refine⟨y.1,⟨y.2.1,Cells.bC jh⟩,Fv,Od,?_⟩;rw [dh (n:=(q:Int)) (by omega) (by omega)];refine⟨(q:Int)+1,rfl,⟨q+1,_,rfl,dW,ZI,fun z=>?_,(kv.trans jB (fun _ _ h=>h.elim)).tt Wh⟩,by simp only;omega⟩;rw [bG hy];constructor
  ·intro e
   by_cases hz:z=y
   ·rw [if_pos hz]
   ·rw [if_neg hz]
    exact(TZ z).1 (e.imp (fun h=>h) (fun h=>h.resolve_right hz))
  ·intro e
   rw [if_neg (fun hz=>e (.inr (.inr hz)))];exact(TZ z).2 (fun e'=>e (e'.imp (fun h=>h) (fun h=>.inl h)))
 ·have Zj:q=(dL D [s]).length:=by omega
  subst Zj;rw [List.take_of_length_le (Nat.le_refl _)]at TZ;rw [aQ,aA.Mr];unfold aA.EU;have Gy:Kept (· =kW.heap.size) kW v:=((GA.tt E7).mono (S':=(· =kW.heap.size)) (fun _ _ h=>h.elim)).tt kv;have Wz:v.heap[w.heap.size]? =some (.cells hid.1 aj (0,0)):=Gy.heap (Jy.heap WA (fun h=>h)) (fun e=>by omega);have NU:v.heap[w5.heap.size]? =some (.cells s.1 aj (0,0)):=Gy.heap (Jy.heap JO (fun h=>h)) (fun e=>by omega);have sv:=Au.size;have s2v:=Gy.size;refine⟨hid.1,⟨hid.2.1,Cells.bC Wz⟩,?_⟩;refine KE (hG Au) W (by omega) (hl.same Au) (by omega) hid fun EY S2 F2 U3 D6 Pf Pk=>⟨_,rfl,?_⟩;rw [oU eC]at U3;have Jl:∀k,m.SG k->k<w.heap.size:=fun k e=>h.low k (.inl (.inl e));have s64:=D6.size;have OG:=D6.heap Wz (fun e=>by have:=Jl _ e;omega);have Ss:=D6.heap NU (fun e=>by have:=Jl _ e;omega);have ZH:=hmv.aD D6 (fun e=>by have:=Jl _ e;omega);refine⟨hid.1,⟨hid.2.1,Cells.bC OG⟩,hid.2.1,?_⟩;intro Ft;have Lb:Kept Nil EY Ft:=(Kept.refl _ _).alloc _;have Yy:HS Ft (some ⟨EY.heap.size,0,none⟩) 1 [hid]:=ja EY hid;clear_value Ft;have vp:∀p∈dd lp,p∈ids D:=fun p hp=>cR p (cZ.1 hp);have W':iS (D++ [⟨hid,dd lp⟩]):=W.snoc (nd:=⟨hid,dd lp⟩) fz vp (iz lp);obtain⟨bl',c',Rp,M',Xf⟩:=U3;have MX:∀k,m.own x k->k<w.heap.size:=fun k e=>h.low k (.inl (.inr (.inr (.inr e))));have hTv:rQ EY:=(hT.same Au).aD D6 IL;refine uJ (Xf.same Lb) W' (by simp;omega) (hTv.same Lb) Yy (by omega) fun A69 c69 BN FV RO=>⟨A69,_,c69,rfl,?_⟩;have v8:=Lb.tt RO;have acy:=v8.size;have p2:=mv (D++ [⟨hid,dd lp⟩]) fun a=>∃z∈ [hid],eI (D++ [⟨hid,dd lp⟩]) a z
  change (dL (D++ [⟨hid,dd lp⟩]) [hid]).length<=_ at p2
  rw [List.length_append,List.length_singleton]at p2;have AP:∀y,y∈dL (D++ [⟨hid,dd lp⟩]) [hid]↔eI (D++ [⟨hid,dd lp⟩]) y hid:=fun y=>by
   unfold dL;rw [iY];constructor
   ·rintro⟨_,z,hz,e⟩
    rw [List.mem_singleton]at hz
    rwa [hz]at e
   ·exact fun e=>⟨(e.mem W').1,hid,by simp,e⟩
  have ke:Kept (fun k=>m.SG k) w BN:=((Au.mono (S':=fun k=>m.SG k) (fun _ _ h=>h.elim)).tt D6).trans v8 (fun _ _ h=>h.elim);have MW:∀k,m.own x k->¬m.SG k:=fun k e=>(h.od k e).1;have QW:=ke.heap h.top (MW _ (.inl rfl));have eF:(dL (D++ [⟨hid,dd lp⟩]) [hid]).Nodup:=(iz _).nodup;obtain⟨f0,aax,aaz⟩:=h.W6;have acV:∀k,m.own x k->¬(k=m.cb)\/k=m.cb:=fun k _=>(Classical.em _).symm;have sJ:m.own x m.cb:=.inr (.inr (.inr rfl));have Rv:=MX _ sJ;generalize nz:dL (D++ [⟨hid,dd lp⟩]) [hid]=pl at FV p2 AP eF⊢;refine aA.gw (I:=fun i u=>∃q:Nat,i=(q:Int)/\q<=pl.length/\Kept (· =m.cb) BN u/\∃f,fj u m.cb f/\∀y,∃l,nJ u (fun k=>m.SO k\/(BN.heap.size<=k/\k<u.heap.size)) (D.length+if y∈pl.take q then 1 else 0) (f y) l/\∀c,c∈l↔Mo D P y c\/(c=hid/\y∈pl.take q/\y≠s/\¬eI D y s))
   (μ:=fun i _=>((pl.length:Int)-i).toNat) (s:=0) ⟨0,rfl,Nat.zero_le _,Kept.refl _ _,f0,aax.aD ke (MW _ sJ),fun y=>?_⟩ ?_
  ·obtain⟨l,h1,h2⟩:=aaz y
   refine⟨l,?_,fun c=>?_⟩
   ·rcases h1.aD ke (fun k e e'=>(h.gt k e').2 e)with h3|⟨A,n,c,g1,g2,g3,g4,g5⟩
    ·exact .inl h3
    ·exact .inr ⟨A,n,c,g1,g2,g3,by omega,fun a ha=>.inl (g5 a ha)⟩
   ·rw [h2]
    simp
  ·rintro i u ⟨q,rfl,Qg,ku,Ud⟩
   refine ES h hD ke.size QW (v8.heap OG (fun h=>h)) (Nat.le_refl _) ((ZH.aD Lb (fun h=>h)).aD RO (fun h=>h)) (by omega) rfl
    (fun y=>⟨fun e=>(TZ y).1 (e.imp (fun h=>h) (fun h=>(LD y).2 h)),fun e=>(TZ y).2 (fun e'=>e (e'.imp (fun h=>h) (fun h=>(LD y).1 h)))⟩)
    (Row.base FV (fun b hb=>by have:=(Row.bC FV hb).1;have:=Lb.size;omega)) (by omega) ku Qg (Z:=fun _ _=>True) Ud eF (hid:=hid) (s:=s) (D':=D) (ps:= []) (fun v' kv' aaq cy=>?_) (fun Zj=>?_)
   ·exact⟨(q:Int)+1,rfl,⟨q+1,rfl,cy,kv',aaq⟩,by simp only;omega⟩
   ·subst Zj
    rw [aQ];unfold aA.e2;rw [aA.Xl];rw [List.take_of_length_le (Nat.le_refl _)]at Ud;have Gr:Kept (fun k=>m.SG k\/k=m.cb) w u:=(ke.mono (S':=fun k=>m.SG k\/k=m.cb) (fun _ _ h=>.inl h)).trans ku (fun _ _ h=>.inr h);have su:=ku.size;obtain⟨PV,Rk,MV,Rj,PU,Ri⟩:=h.ne;have Jm:∀k,F k->k<w.heap.size:=fun k e=>h.low k (.inr e);have abg:GV BN S2 F2 m.g (D++ [⟨hid,dd lp⟩]) (fX (D++ [⟨hid,dd lp⟩])) bl' c' Rp M':=Xf.same v8;have nS2:∀k,S2 k->¬k=m.cb:=fun k h1 e=>by
     rcases Pf k h1 with h2|h2
     ·exact(h.od _ sJ).1 (e▸h2)
     ·omega
    have nF2:∀k,F2 k->¬k=m.cb:=fun k h1 e=>by
     rcases Pk k h1 with h2|h2
     ·exact(h.od _ sJ).2.2.2 (e▸h2)
     ·omega
    have xC:∀k,m.own x k->k≠m.cb->¬(m.SG k\/k=m.cb):=fun k e fg e'=>e'.elim (MW k e) fg;refine Ie (s1:=EY.heap.size) (s2:=BN.heap.size) (S2:=S2) (F2:=F2) (SO2:=fun k=>m.SO k\/(BN.heap.size<=k/\k<u.heap.size)) (mj:=mj) h hD fz vp (iz lp) hj On (cZ.2 uX) (Gr.heap h.top (xC _ (.inl rfl) MV))
     (Nat.le_refl _) (by omega) (ku.heap (v8.heap OG (fun h=>h)) (fun e=>by omega)) (ku.heap (v8.heap Ss (fun h=>h)) (fun e=>by omega)) ⟨bl',c',Rp,M',abg.aD ku nS2 nF2⟩
     (h.T.aD Gr (fun k e e'=>e'.elim (fun e'=>(h.gt k e').1 e) (fun e'=>(h.od _ sJ).2.1 (e'▸e)))) (h.at_.aD Gr (xC _ (.inr (.inl rfl)) PU)) (Row.aD h.row Gr (fun k e=>by cases e;exact xC _ (.inr (.inr (.inl rfl))) Ri))
     ?_ (by omega) (by omega) su (fun k e=>⟨(Pf k e).imp (fun h=>h) (fun h=>by omega),Xf.low k (.inl e)⟩) (fun k e=>⟨(Pk k e).imp (fun h=>h) (fun h=>by omega),Xf.low k (.inr e)⟩) (fun k e=>e)
     (Gr.mono (S':=fun k=>m.jL x k) (fun k _ e=>e.elim (fun e=>.inl e) (fun e=>.inr (.inr (.inr (.inr (.inr (.inr e)))))))) (fun u2 S' F' hI kU hSu Md=>?_)
    ·obtain⟨f,hf,hc⟩:=Ud
     refine⟨f,hf,fun y=>?_⟩;obtain⟨l,h1,h2⟩:=hc y;refine⟨l,?_,fun c=>?_⟩
     ·rcases h1 with h3|⟨A,n,c,g1,g2,g3,g4,g5⟩
      ·exact .inl h3
      ·refine .inr ⟨A,n,c,g1,g2,g3,?_,g5⟩
       split at g4<;>omega
     ·rw [h2,HW W h.jt (nd:=⟨hid,dd lp⟩) fz vp hj,On]
      constructor
      ·rintro(h3|⟨h3,h4,h5,h6⟩)
       ·exact .inl h3
       ·exact .inr ⟨h3,(AP y).1 h4,h5,h6⟩
      ·rintro(h3|⟨h3,h4,h5,h6⟩)
       ·exact .inl h3
       ·exact .inr ⟨h3,(AP y).2 h4,h5,h6⟩
    ·refine yR u2 S' F' ?_ kU hSu Md eX
     rw [eD,eP];exact hI
end
def dU:HT:=hx 0 (by decide)
def cY(D:DG)(P:List Int)(h:HT)(l:List HT):Prop:=(h∉ids D/\l= [])\/∃(i:Nat) (nd:DN) (ks:List Nat),D[i]? =some nd/\nd.id=h/\Up P i ks/\l=ks.map (nN D)
theorem mF{D:DG}{i:Nat}{nd:DN}(h:D[i]? =some nd):nN D i=nd.id:=by unfold nN;rw [h]
theorem cY.ex{D:DG}{P:List Int}(H:qV D P)(h:HT):∃l,cY D P h l:=by
 by_cases hm:h∈ids D
 ·obtain⟨nd,eF,e⟩:=cU.1 hm
  obtain⟨i,hi⟩:=List.mem_iff_getElem?.1 eF;obtain⟨ks,hk⟩:=Up.ex H.par i (by rw [H.len];exact(lgeS hi).1);exact⟨_,.inr ⟨i,nd,ks,hi,e,hk,rfl⟩⟩
 ·exact⟨[],.inl ⟨hm,rfl⟩⟩
theorem cY.mem{D:DG}{P:List Int}(W:iS D)(H:qV D P){h:HT}{l:List HT}(c:cY D P h l){a:HT}:a∈l↔Ch D P a h:=by
 rcases c with⟨h1,rfl⟩|⟨i,nd,ks,h1,rfl,h3,rfl⟩
 ·simp only [List.not_mem_nil,false_iff]
  exact fun e=>h1 e.mem.2
 ·have dW:i<P.length:=by rw [H.len];exact(lgeS h1).1
  rw [List.mem_map];constructor
  ·rintro⟨k,hk,rfl⟩
   have hu:=(h3.mem H.par dW).1 hk;have AS:=hu.V8;rw [H.len]at AS;obtain⟨nk,Ql⟩:∃nk,D[k]? =some nk:=⟨_,List.getElem?_eq_getElem AS⟩;exact⟨i,k,nd,nk,h1,rfl,Ql,(mF Ql).symm,hu⟩
  ·rintro⟨i',k,ni,nk,g1,g2,g3,g4,g5⟩
   have:=W.inj g1 h1 g2;subst this;exact⟨k,(h3.mem H.par dW).2 g5,by rw [mF g3,g4]⟩
theorem cY.one{D:DG}{P:List Int}(W:iS D)(H:qV D P){h:HT}{l l':List HT}(c:cY D P h l)(c':cY D P h l'):l=l':=by
 rcases c with⟨h1,rfl⟩|⟨i,nd,ks,h1,h2,h3,rfl⟩
 ·rcases c' with⟨_,rfl⟩|⟨i,nd,ks,g1,g2,_,_⟩
  ·rfl
  ·exact absurd (cU.2 ⟨nd,List.mem_of_getElem? g1,g2⟩) h1
 ·rcases c' with⟨g1,rfl⟩|⟨i',nd',ks',g1,g2,g3,rfl⟩
  ·exact absurd (cU.2 ⟨nd,List.mem_of_getElem? h1,h2⟩) g1
  ·have:=W.inj h1 g1 (by rw [h2,g2])
   subst this;rw [Up.one H.par h3 g3]
section
variable{w w':World}{F S:Nat->Prop}{x:Nat}{D:DG}{P:List Int}{m:XM}{K:Value->World->Prop}
theorem XV.MO(h:XV w F x D P m){i:Nat}{nd:DN}(hi:D[i]? =some nd):Cells w ((⟨m.ib,0,none⟩:Addr).add (i*32)) nd.id.1:=by
 obtain⟨a,ha,_,hc⟩:=(bQ.hs h.row).at_ i nd.id (o8 hi);cases ha;exact hc
theorem XV.Ga(h:XV w F x D P m){i:Nat}{nd:DN}(hi:D[i]? =some nd):∃td,m.T[i]? =some td/\P[i]? =some td.parent:=by
 have dW:=(lgeS hi).1;obtain⟨td,Wo⟩:=Tr.fE (T:=m.T) (i:=i) (by rw [h.MH];exact dW);exact⟨td,Wo,by rw [<-h.bN];exact Tr.kc Wo⟩
theorem r7(a:HT)(hK:∀w' pb qb,Kept Nil w w'->w'.heap[pb]? =some (.cells #[.pointer (some ⟨x,0,none⟩)] fH (0,0))->w'.heap[qb]? =some (.cells a.1 aj (0,0))->w.heap.size<=pb->w.heap.size<=qb->K (.func (.func aV.id) #[] #[.pointer (some ⟨pb,0,none⟩),.pointer (some ⟨qb,0,none⟩)]) w'):
 bj prog fy.id #[.pointer (some ⟨x,0,none⟩),.agg a.1] w K:=by
 refine fy.of ?_;unfold fy.W;intro w3 w4;have k3:Kept Nil w w3:=(Kept.refl _ _).alloc _;have hp3:w3.heap[w.heap.size]? =some (.cells #[.pointer (some ⟨x,0,none⟩)] fH (0,0)):=aJ w _;have k4:Kept Nil w3 w4:=(Kept.refl _ _).alloc _;have Zk:w4.heap[w3.heap.size]? =some (.cells a.1 aj (0,0)):=aJ w3 _;clear_value w4;exact hK w4 _ _ (k3.tt k4) (k4.heap hp3 (fun h=>h)) Zk (Nat.le_refl _) k3.size
theorem BT{pb qb:Nat}{a:HT}{l:List HT}(hl:cY D P a l)(hD:D.length<=5000):
 mN prog aV.id #[] #[.pointer (some ⟨pb,0,none⟩),.pointer (some ⟨qb,0,none⟩)] (l.map qH) (fun w=>XV w F x D P m/\w.heap[pb]? =some (.cells #[.pointer (some ⟨x,0,none⟩)] fH (0,0))/\w.heap[qb]? =some (.cells a.1 aj (0,0))):=by
 intro y I Q w0 hI hQ qD h0 pX;obtain⟨hX,Qj,SJ⟩:=qD 0 w0 h0;have W:=hX.W;have lY:=hX.jt;refine aV.of ?_;unfold aV.W;refine⟨_,by rw [ay Qj];rfl,a.1,⟨a.2.1,Cells.bC SJ⟩,a.2.1,?_⟩;intro w6;have k6:Kept Nil w0 w6:=(Kept.refl _ _).alloc _;have pv:HS w6 (some ⟨w0.heap.size,0,none⟩) 1 [a]:=ja w0 a;clear_value w6;refine o7 (hX.same k6) pv (by omega) fun w8 k8=>⟨_,rfl,?_⟩;have wh:=k6.tt k8;rcases hl with⟨lZ,rfl⟩|⟨i,nd,ks,hi,hid,hup,rfl⟩
 ·exact Split.yes (by rw [decide_eq_false (by simpa using lZ)];rfl) (.inl (hI 0 w0 w8 h0 wh))
 ·have hm:a∈ids D:=cU.2 ⟨nd,List.mem_of_getElem? hi,hid⟩
  refine Split.no (by rw [decide_eq_true (by simpa using hm)];rfl) ?_;intro w10;have nK:Kept Nil w8 w10:=(Kept.refl _ _).drew;clear_value w10;have Ax:=wh.tt nK;have uZ:=hX.same Ax;have lk:=uZ.at_.vY a;rw [<-hid,W.pos_eq hi]at lk;rw [hid]at lk;refine⟨some ⟨x,0,none⟩,by rw [ay (Ax.heap Qj (fun h=>h))];rfl,_,uZ.c2,a.1,⟨a.2.1,Cells.bC (Ax.heap SJ (fun h=>h))⟩,_,lk,?_⟩;have dW:i<P.length:=by rw [lY.len];exact(lgeS hi).1
  have SP:=lY.par;refine aV.b7 (I:=fun s v=>∃(k:Nat) (dn rs:List Nat),s=(k:Int)/\ks=dn++rs/\Up P k rs/\k<P.length/\I dn.length v) (μ:=fun s _=>s.toNat) (s:=((i:Nat):Int)) ⟨i,[],ks,rfl,rfl,hup,dW,hI 0 w0 w10 h0 Ax⟩ ?_;rintro s v ⟨k,dn,rs,rfl,ZV,hur,AS,hv⟩;obtain⟨hXv,hpv,hqv⟩:=qD _ v hv;rw [lY.len]at AS;obtain⟨nk,Ql⟩:∃nk,D[k]? =some nk:=⟨_,List.getElem?_eq_getElem AS⟩;refine⟨some ⟨x,0,none⟩,by rw [ay hpv];rfl,_,_,_,hXv.c3,⟨by omega,by omega⟩,nk.id.1,⟨nk.id.2.1,by rw [Int.toNat_natCast];exact hXv.MO Ql⟩,?_⟩;have fW:((ks.map (nN D)).map qH)[dn.length]? =some (qH nk.id):=by
   rw [List.getElem?_map,List.getElem?_map,ZV,List.getElem?_append_right (Nat.le_refl _),Nat.sub_self,hur.head];simp [mF Ql]
  refine(pX dn.length (qH nk.id) v fW hv).mono ?_;rintro b v' ⟨ht,hf⟩;cases b with
  |false=>
   refine Split.no rfl ?_;rw [aQ,aV.c8];exact .inr (hf rfl)
  |true=>
   refine Split.yes rfl ?_;have hI1:=ht rfl;cases hur with
   |root=>
    refine Split.no rfl ?_;rw [aQ,aV.c8];refine .inl ?_;rw [List.length_map,List.length_map,ZV,List.length_append];exact hI1
   | @step _ j rs' hj JL=>
     have Wy:=(Tr.iB SP (Tr.eA.2 hj)).1;refine Split.yes (decide_eq_true (by omega)) ?_;obtain⟨Pe,Zn,_⟩:=qD _ v' hI1;obtain⟨td,Wo,htp⟩:=Pe.Ga Ql;rw [hj]at htp;have YR:(j:Int)=td.parent:=by simpa using htp
     refine⟨some ⟨x,0,none⟩,by rw [ay Zn];rfl,_,Pe.c1,Tr.xY Pe.T Wo (by omega) ⟨_,_,rfl,?_⟩⟩;rw [<-YR];refine⟨(j:Int),rfl,⟨j,dn++ [k],rs',rfl,by rw [ZV];simp,JL,by rw [lY.len];omega,?_⟩,by simp only;omega⟩;rw [List.length_append];exact hI1
end
structure XN(w v:World)(r:HT)(own:Nat->Nat)(G T E I Z:Option Nat)(l:List HT):Prop where
 kp:Kept Nil w v
 gr:∀g,G=some g->∃SG,BJ v SG (fun _=>False) g [⟨r,[]⟩]/\∀k,SG k->w.heap.size<=k/\own k=1
 tr:∀t,T=some t->∃ST,Tr.nZ v ST t Tr.pB 0/\∀k,ST k->w.heap.size<=k/\k<v.heap.size/\own k=2
 mp:∀b,E=some b->w.heap.size<=b/\own b=3/\IsMap v b l
 il:∀b,I=some b->w.heap.size<=b/\own b=4/\v.heap[b]? =some (.cells (r.1.toList++ []).toArray aj (0,0))
 cv:∀b,Z=some b->w.heap.size<=b/\own b=5/\fj v b (fun _=>none)
def tag(n t:Nat)(own:Nat->Nat)(k:Nat):Nat:=if n<=k then t else own k
theorem qf{n t k:Nat}{own:Nat->Nat}(h:k<n):tag n t own k=own k:=by unfold tag;rw [if_neg (by omega)]
theorem qg{n t k:Nat}{own:Nat->Nat}(h:n<=k):tag n t own k=t:=by unfold tag;rw [if_pos h]
section
variable{w v v':World}{r:HT}{own:Nat->Nat}{G T E I Z:Option Nat}{l:List HT}{K:Value->World->Prop}
theorem XN.grow(h:XN w v r own G T E I Z l)(t:Nat)(k:Kept Nil v v'):XN w v' r (tag v.heap.size t own) G T E I Z l:=by
 have hs:=k.size;refine⟨h.kp.tt k,fun g e=>?_,fun g e=>?_,fun b e=>?_,fun b e=>?_,fun b e=>?_⟩
 ·obtain⟨SG,h1,h2⟩:=h.gr g e
  exact⟨SG,h1.same k,fun q hq=>⟨(h2 q hq).1,by rw [qf (by obtain⟨bl,c,mb,M,G⟩:=h1;exact G.low q (.inl hq))];exact(h2 q hq).2⟩⟩
 ·obtain⟨ST,h1,h2⟩:=h.tr g e
  exact⟨ST,h1.same k,fun q hq=>⟨(h2 q hq).1,by have:=(h2 q hq).2.1;omega,by rw [qf (h2 q hq).2.1];exact(h2 q hq).2.2⟩⟩
 ·obtain⟨h1,h2,h3⟩:=h.mp b e
  exact⟨h1,by rw [qf h3.lt];exact h2,h3.aD k (fun h=>h)⟩
 ·obtain⟨h1,h2,h3⟩:=h.il b e
  exact⟨h1,by rw [qf (aS h3)];exact h2,k.heap h3 (fun h=>h)⟩
 ·obtain⟨h1,h2,h3⟩:=h.cv b e
  exact⟨h1,by rw [qf h3.lt];exact h2,h3.aD k (fun h=>h)⟩
theorem XN.cO(h:XN w v r own none T E I Z l){gb:Nat}(hG:BJ v' (fun k=>v.heap.size<=k/\k<v'.heap.size) (fun _=>False) gb [⟨r,[]⟩])(k:Kept Nil v v'):XN w v' r (tag v.heap.size 1 own) (some gb) T E I Z l:=by
 have g:=h.grow 1 k;refine⟨g.kp,?_,g.tr,g.mp,g.il,g.cv⟩;intro g' e;cases e;have:=h.kp.size;exact⟨_,hG,fun q hq=>⟨by omega,qg hq.1⟩⟩
theorem XN.sT(h:XN w v r own G none E I Z l){t:Nat}(hT:Tr.nZ v' (fun k=>v.heap.size<=k) t Tr.pB 0)(k:Kept Nil v v'):XN w v' r (tag v.heap.size 2 own) G (some t) E I Z l:=by
 have g:=h.grow 2 k;refine⟨g.kp,g.gr,?_,g.mp,g.il,g.cv⟩;intro t' e;cases e;have:=h.kp.size;exact⟨_,rT hT,fun q hq=>⟨by omega,hq.2,qg hq.1⟩⟩
theorem XN.sU(h:XN w v r own G T none I Z []):XN w (v.alloc (.map #[] 0)) r (tag v.heap.size 3 own) G T (some v.heap.size) I Z []:=by
 have g:=h.grow 3 ((Kept.refl Nil v).alloc (.map #[] 0));refine⟨g.kp,g.gr,g.tr,?_,g.il,g.cv⟩;intro b e;cases e;exact⟨h.kp.size,qg (Nat.le_refl _),⟨#[],0,aJ v _,trivial⟩⟩
theorem XN.nU(h:XN w v r own G T E none Z l):XN w (v.alloc (.cells (r.1.toList++ []).toArray aj)) r (tag v.heap.size 4 own) G T E (some v.heap.size) Z l:=by
 have g:=h.grow 4 ((Kept.refl Nil v).alloc (.cells (r.1.toList++ []).toArray aj));refine⟨g.kp,g.gr,g.tr,g.mp,?_,g.cv⟩;intro b e;cases e;exact⟨h.kp.size,qg (Nat.le_refl _),aJ v _⟩
theorem XN.nS(h:XN w v r own G T E I none l):XN w (v.alloc (.map #[] 0)) r (tag v.heap.size 5 own) G T E I (some v.heap.size) l:=by
 have g:=h.grow 5 ((Kept.refl Nil v).alloc (.map #[] 0));refine⟨g.kp,g.gr,g.tr,g.mp,g.il,?_⟩;intro b e;cases e;exact⟨h.kp.size,qg (Nat.le_refl _),fj.new v⟩
theorem XN.put{mb:Nat}(h:XN w v r own G T (some mb) I Z []):∃v',(Instr.mapUpdate ck (.map (some mb)) (.agg r.1) (.int .i64 0)).run prog v=.ok () v'/\XN w v' r own G T (some mb) I Z [r]:=by
 obtain⟨h1,h2,h3⟩:=h.mp mb rfl;obtain⟨v',hr,hm,hk⟩:=h3.put (h:=r) (by simp);refine⟨v',hr,(h.kp.trans hk (fun k hk e=>by omega)),fun g e=>?_,fun g e=>?_,fun b e=>?_,fun b e=>?_,fun b e=>?_⟩
 ·obtain⟨SG,g1,g2⟩:=h.gr g e
  exact⟨SG,g1.aD hk (fun q hq e=>by have:=(g2 q hq).2;rw [e,h2]at this;cases this) (fun q hq=>hq.elim),g2⟩
 ·obtain⟨ST,g1,g2⟩:=h.tr g e
  exact⟨ST,g1.aD hk (fun q hq e=>by have:=(g2 q hq).2.2;rw [e,h2]at this;cases this),fun q hq=>⟨(g2 q hq).1,Nat.lt_of_lt_of_le (g2 q hq).2.1 hk.size,(g2 q hq).2.2⟩⟩
 ·cases e
  exact⟨h1,h2,hm⟩
 ·obtain⟨g1,g2,g3⟩:=h.il b e
  exact⟨g1,g2,hk.heap g3 (fun e=>by rw [e,h2]at g2;cases g2)⟩
 ·obtain⟨g1,g2,g3⟩:=h.cv b e
  exact⟨g1,g2,g3.aD hk (fun e=>by rw [e,h2]at g2;cases g2)⟩
theorem XN.fin{g t mb ib cb:Nat}{w0:World}(h:XN w v r own (some g) (some t) (some mb) (some ib) (some cb) [r])(hw:w0.heap.size<=w.heap.size):
 BI (v.alloc (.cells #[.pointer (some ⟨g,0,none⟩),.pointer (some ⟨t,0,none⟩),.map (some mb),.slice (some ⟨ib,0,none⟩) 1 1,.map (some cb)] dV)) (fun k=>w0.heap.size<=k/\k<(v.alloc (.cells #[.pointer (some ⟨g,0,none⟩),.pointer (some ⟨t,0,none⟩),.map (some mb),.slice (some ⟨ib,0,none⟩) 1 1,.map (some cb)] dV)).heap.size) (fun _=>False) v.heap.size [⟨r,[]⟩] [-1]:=by
 have iH:=aJ v (.cells #[.pointer (some ⟨g,0,none⟩),.pointer (some ⟨t,0,none⟩),.map (some mb),.slice (some ⟨ib,0,none⟩) 1 1,.map (some cb)] dV);have kx:=(Kept.refl Nil v).alloc (.cells #[.pointer (some ⟨g,0,none⟩),.pointer (some ⟨t,0,none⟩),.map (some mb),.slice (some ⟨ib,0,none⟩) 1 1,.map (some cb)] dV);have hx:=aS iH;generalize v.alloc (.cells #[.pointer (some ⟨g,0,none⟩),.pointer (some ⟨t,0,none⟩),.map (some mb),.slice (some ⟨ib,0,none⟩) 1 1,.map (some cb)] dV)=u at iH kx hx;obtain⟨SG,hG,gG⟩:=h.gr g rfl;obtain⟨ST,hT,gT⟩:=h.tr t rfl;obtain⟨m1,m2,m3⟩:=h.mp mb rfl;obtain⟨i1,i2,i3⟩:=h.il ib rfl;obtain⟨c1,c2,c3⟩:=h.cv cb rfl;have lA:∀k,SG k->k<v.heap.size:=fun k e=>by obtain⟨bl,c,mb,M,G⟩:=hG;exact G.low k (.inl e)
 have sw:=h.kp.size;have lm:=m3.lt;have li:=aS i3;have lc:=c3.lt;have AZ:∀ {a b:HT},¬eI [(⟨r,[]⟩:DN)] a b:=yk r;refine⟨⟨g,t,mb,ib,1,cb,Tr.pB,0,SG,ST,fun _=>False⟩,⟨iH,hG.same kx,hT.same kx,Tr.z8,rfl,⟨Int.le_refl 0,by show(0:Int)<=_;simp⟩,m3.aD kx (fun h=>h),?_,⟨_,c3.aD kx (fun h=>h),fun y=>⟨[],.inl ⟨rfl,rfl⟩,fun c=>?_⟩⟩,?_,iS.root r,?_,?_,?_,?_,?_,?_⟩,?_⟩
 ·have e:cP [r]=(r.1.toList++ []).toArray.toList:=by simp [cP]
  show Row _ _ _ _ _ _ _ (cP [r])
  rw [e];exact Row.made (kx.heap i3 (fun h=>h)) (Nat.zero_le _) (by simp [r.2.1]) (by show 1<=maxLen;decide)
 ·simp only [List.not_mem_nil,false_iff]
  exact fun hc=>AZ hc.1
 ·refine⟨rfl,rfl,fun i p nd hi hp=>?_⟩
  cases i with
  |zero=>omega
  |succ i=>simp at hp
 ·exact fun k e=>⟨fun e'=>by have:=(gG k e).2;have:=(gT k e').2.2;omega,fun e'=>e'.elim⟩
 ·exact fun k e e'=>e'.elim
 ·exact fun k e=>e.elim
 ·intro k e
  have key:v.heap.size<=k\/3<=own k:=by
   rcases e with e|e|e|e
   ·exact .inl (by omega)
   ·exact .inr (by have e:k=mb:=e;rw [e];omega)
   ·exact .inr (by have e:k=ib:=e;rw [e];omega)
   ·exact .inr (by have e:k=cb:=e;rw [e];omega)
  refine⟨fun e'=>?_,fun e'=>?_,fun e'=>e'.elim,fun e'=>e'.elim⟩
  ·have h1:=(gG k e').2
   have h2:=lA k e';omega
  ·have h1:=(gT k e').2.2
   have h2:=(gT k e').2.1;omega
 ·refine⟨by show v.heap.size≠mb;omega,by show v.heap.size≠ib;omega,by show v.heap.size≠cb;omega,fun e=>?_,fun e=>?_,fun e=>?_⟩
  ·have e:mb=ib:=e
   rw [e]at m2;omega
  ·have e:mb=cb:=e
   rw [e]at m2;omega
  ·have e:ib=cb:=e
   rw [e]at i2;omega
 ·intro k e
  rcases e with e|e
  ·rcases e with e|e|e|e
   ·have:=lA k e;omega
   ·have:=(gT k e).2.1;omega
   ·exact e.elim
   ·rcases e with e|e|e|e
    ·omega
    ·have e:k=mb:=e;omega
    ·have e:k=ib:=e;omega
    ·have e:k=cb:=e;omega
  ·exact e.elim
 ·intro k e
  rcases e with e|e|e|e
  ·have:=lA k e;have:=(gG k e).1;omega
  ·have:=(gT k e).1;have:=(gT k e).2.1;omega
  ·exact e.elim
  ·rcases e with e|e|e|e
   ·omega
   ·have e:k=mb:=e;omega
   ·have e:k=ib:=e;omega
   ·have e:k=cb:=e;omega
structure XD(w o:World)(r:HT)(K:Value->World->Prop):Prop where
 cs:∀ {v:World},Kept Nil o v->∃cs:Array Value,(.agg r.1:Value)=.agg cs/\cs.size=32/\Cells v (⟨w.heap.size,0,none⟩:Addr) cs
 fin:∀ {v:World} {own:Nat->Nat} {g t mb ib cb:Nat},XN o v r own (some g) (some t) (some mb) (some ib) (some cb) [r]->K (.pointer (some ⟨v.heap.size,0,none⟩)) (v.alloc (.cells #[.pointer (some ⟨g,0,none⟩),.pointer (some ⟨t,0,none⟩),.map (some mb),.slice (some ⟨ib,0,none⟩) 1 1,.map (some cb)] dV))
end
section
variable{w o v e i z:World}{r:HT}{own:Nat->Nat}{g t:Nat}{K:Value->World->Prop}
theorem n1(D:XD w o r K)(h:XN o v r own (some g) (some t) (some e.heap.size) (some i.heap.size) (some z.heap.size) [r]):au.N1 (some ⟨g,0,none⟩) (some ⟨t,0,none⟩) e i z K v:=by
 unfold au.N1;exact D.fin h
theorem n2(D:XD w o r K)(h:XN o v r own (some g) (some t) (some e.heap.size) (some i.heap.size) none [r]):au.N2 (some ⟨g,0,none⟩) (some ⟨t,0,none⟩) e i K v:=by
 unfold au.N2;exact let n:=h.nS;n1 D n
theorem n3(D:XD w o r K)(h:XN o v r own (some g) (some t) (some e.heap.size) none (some z.heap.size) [r]):au.N3 r.1 (some ⟨g,0,none⟩) (some ⟨t,0,none⟩) e z K v:=by
 unfold au.N3;exact let n:=h.nU;⟨r.2.1,n1 D n⟩
theorem n4(D:XD w o r K)(h:XN o v r own (some g) (some t) (some e.heap.size) none none [r]):au.N4 r.1 (some ⟨g,0,none⟩) (some ⟨t,0,none⟩) e w K v:=by
 unfold au.N4;exact⟨(let n:=h.nU;⟨r.2.1,n2 D n⟩),(let n:=h.nS;⟨D.cs n.kp,n3 D n⟩)⟩
theorem n5(D:XD w o r K)(h:XN o v r own (some g) (some t) (some e.heap.size) (some i.heap.size) (some z.heap.size) []):au.N5 e r.1 (some ⟨g,0,none⟩) (some ⟨t,0,none⟩) i z K v:=by
 unfold au.N5;exact let ⟨u,q,n⟩:=h.put;⟨u,q,n1 D n⟩
theorem n6(D:XD w o r K)(h:XN o v r own (some g) (some t) (some e.heap.size) (some i.heap.size) none []):au.N6 e r.1 (some ⟨g,0,none⟩) (some ⟨t,0,none⟩) i w K v:=by
 unfold au.N6;exact⟨(let ⟨u,q,n⟩:=h.put;⟨u,q,n2 D n⟩),(let n:=h.nS;⟨D.cs n.kp,n5 D n⟩)⟩
theorem n7(D:XD w o r K)(h:XN o v r own (some g) (some t) (some e.heap.size) none (some z.heap.size) []):au.N7 e r.1 r.1 w (some ⟨g,0,none⟩) (some ⟨t,0,none⟩) z K v:=by
 unfold au.N7;exact⟨(let ⟨u,q,n⟩:=h.put;⟨u,q,D.cs n.kp,n3 D n⟩),(let n:=h.nU;⟨r.2.1,D.cs n.kp,n5 D n⟩)⟩
theorem n8(D:XD w o r K)(h:XN o v r own (some g) (some t) (some e.heap.size) none none []):au.N8 e r.1 r.1 w (some ⟨g,0,none⟩) (some ⟨t,0,none⟩) K v:=by
 unfold au.N8;exact⟨(let ⟨u,q,n⟩:=h.put;⟨u,q,D.cs n.kp,n4 D n⟩),(let n:=h.nU;⟨r.2.1,D.cs n.kp,n6 D n⟩),(let n:=h.nS;⟨D.cs n.kp,D.cs n.kp,n7 D n⟩)⟩
theorem n9(D:XD w o r K)(h:XN o v r own (some g) (some t) none (some i.heap.size) (some z.heap.size) []):au.N9 r.1 w (some ⟨g,0,none⟩) (some ⟨t,0,none⟩) i z K v:=by
 unfold au.N9;exact let n:=h.sU;⟨D.cs n.kp,n5 D n⟩
theorem n10(D:XD w o r K)(h:XN o v r own (some g) (some t) none (some i.heap.size) none []):au.QK r.1 w (some ⟨g,0,none⟩) (some ⟨t,0,none⟩) i K v:=by
 unfold au.QK;exact⟨(let n:=h.sU;⟨D.cs n.kp,n6 D n⟩),(let n:=h.nS;⟨D.cs n.kp,n9 D n⟩)⟩
theorem n11(D:XD w o r K)(h:XN o v r own (some g) (some t) none none (some z.heap.size) []):au.Xe r.1 w r.1 (some ⟨g,0,none⟩) (some ⟨t,0,none⟩) z K v:=by
 unfold au.Xe;exact⟨(let n:=h.sU;⟨D.cs n.kp,D.cs n.kp,n7 D n⟩),(let n:=h.nU;⟨r.2.1,D.cs n.kp,n9 D n⟩)⟩
theorem n12(D:XD w o r K)(h:XN o v r own (some g) (some t) none none none []):au.PK r.1 w r.1 (some ⟨g,0,none⟩) (some ⟨t,0,none⟩) K v:=by
 unfold au.PK;exact⟨(let n:=h.sU;⟨D.cs n.kp,D.cs n.kp,n8 D n⟩),(let n:=h.nU;⟨r.2.1,D.cs n.kp,n10 D n⟩),(let n:=h.nS;⟨D.cs n.kp,D.cs n.kp,n11 D n⟩)⟩
theorem n13(D:XD w o r K)(h:XN o v r own (some g) none (some e.heap.size) (some i.heap.size) (some z.heap.size) [r]):au.KO (some ⟨g,0,none⟩) e i z K v:=by
 unfold au.KO;exact Tr.eh fun _ _ q k=>let n:=h.sT q k;⟨_,rfl,n1 D n⟩
theorem n14(D:XD w o r K)(h:XN o v r own (some g) none (some e.heap.size) (some i.heap.size) none [r]):au.PJ (some ⟨g,0,none⟩) e i K v:=by
 unfold au.PJ;exact⟨(Tr.eh fun _ _ q k=>let n:=h.sT q k;⟨_,rfl,n2 D n⟩),(let n:=h.nS;n13 D n)⟩
theorem n15(D:XD w o r K)(h:XN o v r own (some g) none (some e.heap.size) none (some z.heap.size) [r]):au.VO r.1 w (some ⟨g,0,none⟩) e z K v:=by
 unfold au.VO;exact⟨(Tr.eh fun _ _ q k=>let n:=h.sT q k;⟨_,rfl,D.cs n.kp,n3 D n⟩),(let n:=h.nU;⟨r.2.1,n13 D n⟩)⟩
theorem n16(D:XD w o r K)(h:XN o v r own (some g) none (some e.heap.size) none none [r]):au.QJ r.1 w (some ⟨g,0,none⟩) e K v:=by
 unfold au.QJ;exact⟨(Tr.eh fun _ _ q k=>let n:=h.sT q k;⟨_,rfl,D.cs n.kp,n4 D n⟩),(let n:=h.nU;⟨r.2.1,n14 D n⟩),(let n:=h.nS;⟨D.cs n.kp,n15 D n⟩)⟩
theorem n17(D:XD w o r K)(h:XN o v r own (some g) none (some e.heap.size) (some i.heap.size) (some z.heap.size) []):au.QI r.1 w e (some ⟨g,0,none⟩) i z K v:=by
 unfold au.QI;exact⟨(Tr.eh fun _ _ q k=>let n:=h.sT q k;⟨_,rfl,D.cs n.kp,n5 D n⟩),(let ⟨u,q,n⟩:=h.put;⟨u,q,n13 D n⟩)⟩
theorem n18(D:XD w o r K)(h:XN o v r own (some g) none (some e.heap.size) (some i.heap.size) none []):au.VN r.1 w e (some ⟨g,0,none⟩) i K v:=by
 unfold au.VN;exact⟨(Tr.eh fun _ _ q k=>let n:=h.sT q k;⟨_,rfl,D.cs n.kp,n6 D n⟩),(let ⟨u,q,n⟩:=h.put;⟨u,q,n14 D n⟩),(let n:=h.nS;⟨D.cs n.kp,n17 D n⟩)⟩
theorem n19(D:XD w o r K)(h:XN o v r own (some g) none (some e.heap.size) none (some z.heap.size) []):au.IT r.1 w r.1 e (some ⟨g,0,none⟩) z K v:=by
 unfold au.IT;exact⟨(Tr.eh fun _ _ q k=>let n:=h.sT q k;⟨_,rfl,D.cs n.kp,D.cs n.kp,n7 D n⟩),(let ⟨u,q,n⟩:=h.put;⟨u,q,D.cs n.kp,n15 D n⟩),(let n:=h.nU;⟨r.2.1,D.cs n.kp,n17 D n⟩)⟩
theorem n20(D:XD w o r K)(h:XN o v r own (some g) none (some e.heap.size) none none []):au.Mn r.1 w r.1 e (some ⟨g,0,none⟩) K v:=by
 unfold au.Mn;exact⟨(Tr.eh fun _ _ q k=>let n:=h.sT q k;⟨_,rfl,D.cs n.kp,D.cs n.kp,n8 D n⟩),(let ⟨u,q,n⟩:=h.put;⟨u,q,D.cs n.kp,n16 D n⟩),(let n:=h.nU;⟨r.2.1,D.cs n.kp,n18 D n⟩),(let n:=h.nS;⟨D.cs n.kp,D.cs n.kp,n19 D n⟩)⟩
theorem n21(D:XD w o r K)(h:XN o v r own (some g) none none (some i.heap.size) (some z.heap.size) []):au.Mm r.1 w (some ⟨g,0,none⟩) i z K v:=by
 unfold au.Mm;exact⟨(Tr.eh fun _ _ q k=>let n:=h.sT q k;⟨_,rfl,D.cs n.kp,n9 D n⟩),(let n:=h.sU;⟨D.cs n.kp,n17 D n⟩)⟩
theorem n22(D:XD w o r K)(h:XN o v r own (some g) none none (some i.heap.size) none []):au.QH r.1 w (some ⟨g,0,none⟩) i K v:=by
 unfold au.QH;exact⟨(Tr.eh fun _ _ q k=>let n:=h.sT q k;⟨_,rfl,D.cs n.kp,n10 D n⟩),(let n:=h.sU;⟨D.cs n.kp,n18 D n⟩),(let n:=h.nS;⟨D.cs n.kp,n21 D n⟩)⟩
theorem n23(D:XD w o r K)(h:XN o v r own (some g) none none none (some z.heap.size) []):au.Xd r.1 w r.1 (some ⟨g,0,none⟩) z K v:=by
 unfold au.Xd;exact⟨(Tr.eh fun _ _ q k=>let n:=h.sT q k;⟨_,rfl,D.cs n.kp,D.cs n.kp,n11 D n⟩),(let n:=h.sU;⟨D.cs n.kp,D.cs n.kp,n19 D n⟩),(let n:=h.nU;⟨r.2.1,D.cs n.kp,n21 D n⟩)⟩
theorem n24(D:XD w o r K)(h:XN o v r own (some g) none none none none []):au.VM r.1 w r.1 (some ⟨g,0,none⟩) K v:=by
 unfold au.VM;exact⟨(Tr.eh fun _ _ q k=>let n:=h.sT q k;⟨_,rfl,D.cs n.kp,D.cs n.kp,n12 D n⟩),(let n:=h.sU;⟨D.cs n.kp,D.cs n.kp,n20 D n⟩),(let n:=h.nU;⟨r.2.1,D.cs n.kp,n22 D n⟩),(let n:=h.nS;⟨D.cs n.kp,D.cs n.kp,n23 D n⟩)⟩
theorem n25(D:XD w o r K)(h:XN o v r own none none (some e.heap.size) (some i.heap.size) (some z.heap.size) [r]):au.VL r.1 e i z K v:=by
 unfold au.VL;exact fF r fun _ _ q k=>let n:=h.cO q k;⟨_,rfl,n13 D n⟩
theorem n26(D:XD w o r K)(h:XN o v r own none none (some e.heap.size) (some i.heap.size) none [r]):au.Xc r.1 e i w K v:=by
 unfold au.Xc;exact⟨(fF r fun _ _ q k=>let n:=h.cO q k;⟨_,rfl,n14 D n⟩),(let n:=h.nS;⟨D.cs n.kp,n25 D n⟩)⟩
theorem n27(D:XD w o r K)(h:XN o v r own none none (some e.heap.size) none (some z.heap.size) [r]):au.PI r.1 r.1 w e z K v:=by
 unfold au.PI;exact⟨(fF r fun _ _ q k=>let n:=h.cO q k;⟨_,rfl,D.cs n.kp,n15 D n⟩),(let n:=h.nU;⟨r.2.1,D.cs n.kp,n25 D n⟩)⟩
theorem n28(D:XD w o r K)(h:XN o v r own none none (some e.heap.size) none none [r]):au.N28 r.1 r.1 w e K v:=by
 unfold au.N28;exact⟨(fF r fun _ _ q k=>let n:=h.cO q k;⟨_,rfl,D.cs n.kp,n16 D n⟩),(let n:=h.nU;⟨r.2.1,D.cs n.kp,n26 D n⟩),(let n:=h.nS;⟨D.cs n.kp,D.cs n.kp,n27 D n⟩)⟩
theorem n29(D:XD w o r K)(h:XN o v r own none none (some e.heap.size) (some i.heap.size) (some z.heap.size) []):au.VK r.1 r.1 w e i z K v:=by
 unfold au.VK;exact⟨(fF r fun _ _ q k=>let n:=h.cO q k;⟨_,rfl,D.cs n.kp,n17 D n⟩),(let ⟨u,q,n⟩:=h.put;⟨u,q,D.cs n.kp,n25 D n⟩)⟩
theorem n30(D:XD w o r K)(h:XN o v r own none none (some e.heap.size) (some i.heap.size) none []):au.Xb r.1 r.1 w e i K v:=by
 unfold au.Xb;exact⟨(fF r fun _ _ q k=>let n:=h.cO q k;⟨_,rfl,D.cs n.kp,n18 D n⟩),(let ⟨u,q,n⟩:=h.put;⟨u,q,D.cs n.kp,n26 D n⟩),(let n:=h.nS;⟨D.cs n.kp,D.cs n.kp,n29 D n⟩)⟩
theorem n31(D:XD w o r K)(h:XN o v r own none none (some e.heap.size) none (some z.heap.size) []):au.Xa r.1 r.1 w r.1 e z K v:=by
 unfold au.Xa;exact⟨(fF r fun _ _ q k=>let n:=h.cO q k;⟨_,rfl,D.cs n.kp,D.cs n.kp,n19 D n⟩),(let ⟨u,q,n⟩:=h.put;⟨u,q,D.cs n.kp,D.cs n.kp,n27 D n⟩),(let n:=h.nU;⟨r.2.1,D.cs n.kp,D.cs n.kp,n29 D n⟩)⟩
theorem n32(D:XD w o r K)(h:XN o v r own none none (some e.heap.size) none none []):au.N32 r.1 r.1 w r.1 e K v:=by
 unfold au.N32;exact⟨(fF r fun _ _ q k=>let n:=h.cO q k;⟨_,rfl,D.cs n.kp,D.cs n.kp,n20 D n⟩),(let ⟨u,q,n⟩:=h.put;⟨u,q,D.cs n.kp,D.cs n.kp,n28 D n⟩),(let n:=h.nU;⟨r.2.1,D.cs n.kp,D.cs n.kp,n30 D n⟩),(let n:=h.nS;⟨D.cs n.kp,D.cs n.kp,D.cs n.kp,n31 D n⟩)⟩
theorem n33(D:XD w o r K)(h:XN o v r own none none none (some i.heap.size) (some z.heap.size) []):au.W9 r.1 r.1 w i z K v:=by
 unfold au.W9;exact⟨(fF r fun _ _ q k=>let n:=h.cO q k;⟨_,rfl,D.cs n.kp,n21 D n⟩),(let n:=h.sU;⟨D.cs n.kp,D.cs n.kp,n29 D n⟩)⟩
theorem n34(D:XD w o r K)(h:XN o v r own none none none (some i.heap.size) none []):au.N34 r.1 r.1 w i K v:=by
 unfold au.N34;exact⟨(fF r fun _ _ q k=>let n:=h.cO q k;⟨_,rfl,D.cs n.kp,n22 D n⟩),(let n:=h.sU;⟨D.cs n.kp,D.cs n.kp,n30 D n⟩),(let n:=h.nS;⟨D.cs n.kp,D.cs n.kp,n33 D n⟩)⟩
theorem n35(D:XD w o r K)(h:XN o v r own none none none none (some z.heap.size) []):au.N35 r.1 r.1 w r.1 z K v:=by
 unfold au.N35;exact⟨(fF r fun _ _ q k=>let n:=h.cO q k;⟨_,rfl,D.cs n.kp,D.cs n.kp,n23 D n⟩),(let n:=h.sU;⟨D.cs n.kp,D.cs n.kp,D.cs n.kp,n31 D n⟩),(let n:=h.nU;⟨r.2.1,D.cs n.kp,D.cs n.kp,n33 D n⟩)⟩
theorem n36(D:XD w o r K)(h:XN o v r own none none none none none []):au.N36 r.1 r.1 w r.1 K v:=by
 unfold au.N36;exact⟨(fF r fun _ _ q k=>let n:=h.cO q k;⟨_,rfl,D.cs n.kp,D.cs n.kp,n24 D n⟩),(let n:=h.sU;⟨D.cs n.kp,D.cs n.kp,D.cs n.kp,n32 D n⟩),(let n:=h.nU;⟨r.2.1,D.cs n.kp,D.cs n.kp,n34 D n⟩),(let n:=h.nS;⟨D.cs n.kp,D.cs n.kp,D.cs n.kp,n35 D n⟩)⟩
end
section
variable{K:Value->World->Prop}
theorem ie{w:World}(r:HT)(hK:∀v x,BI v (fun k=>w.heap.size<=k/\k<v.heap.size) (fun _=>False) x [⟨r,[]⟩] [-1]->Kept Nil w v->K (.pointer (some ⟨x,0,none⟩)) v):
 bj prog au.id #[.agg r.1] w K:=by
 refine au.of ?_;unfold au.W;intro w_2 IW;have k2:Kept Nil w w_2:=(Kept.refl _ _).alloc _;have lS:w_2.heap[w.heap.size]? =some (.cells r.1 aj (0,0)):=aJ w _;have k3:Kept Nil w IW:=k2.drew;have pe:IW.heap[w.heap.size]? =some (.cells r.1 aj (0,0)):=lS;clear_value IW;have N_3:XN IW IW r (fun _=>0) none none none none none []:=⟨Kept.refl _ _,(fun b e=>by cases e),(fun b e=>by cases e),(fun b e=>by cases e),(fun b e=>by cases e),(fun b e=>by cases e)⟩;have ml:∀ {v:World},Kept Nil IW v->∃cs:Array Value,(.agg r.1:Value)=.agg cs/\cs.size=32/\Cells v (⟨w.heap.size,0,none⟩:Addr) cs:=fun k=>⟨r.1,rfl,r.2.1,Cells.bC (k.heap pe (fun h=>h))⟩;have um:∀ {v:World} {own:Nat->Nat} {g t mb ib cb:Nat},XN IW v r own (some g) (some t) (some mb) (some ib) (some cb) [r]->K (.pointer (some ⟨v.heap.size,0,none⟩)) (v.alloc (.cells #[.pointer (some ⟨g,0,none⟩),.pointer (some ⟨t,0,none⟩),.map (some mb),.slice (some ⟨ib,0,none⟩) 1 1,.map (some cb)] dV)):=
  fun h=>hK _ _ (h.fin k3.size) ((k3.tt h.kp).alloc _)
 have c3:r.1.size=32/\Cells IW (⟨w.heap.size,0,none⟩:Addr) r.1:=⟨r.2.1,Cells.bC pe⟩;refine⟨r.1,c3,r.1,c3,r.1,c3,?_⟩;have D:XD w IW r K:=⟨ml,um⟩;exact n36 D N_3
end
end Go.Proofs.YtnboahlopghcjaaGreatDoor
