import Derived.Test.YtfleamccglihoaaGreatDoorMU
import Derived.Test.YtfleamccglihoaaGreatDoorMJ
import Derived.Test.YtfleamccglihoaaGreatDoorMT
import Derived.Test.YtfleamccglihoaaGreatDoorMI
import Derived.Test.YtfleamccglihoaaGreatDoorMG
import Derived.Test.YtfleamccglihoaaGreatDoorMN
open Go.IntKind (i64 u64)
set_option linter.unusedVariables false
namespace Go.Proofs.YtfleamccglihoaaGreatDoor
open Go.Proofs.Tryz
open Go Go.bT Go.RowKit
def adw(l:List DN)(ZD:Nat):Prop:=(∀nd∈l,nd.ps.length<=6)/\l.length<=ZD
noncomputable def nY(k:Nat)(G:GS)(id:HT)(l:List HT):ou:=if dF G.D id l=0 then cR k G (cC G l) l else⟨dX,0,[],[]⟩
noncomputable def Dw(k:Nat)(root:HT)(l:List DN):GS:=l.foldl (fun G s=>dz k G s.id s.ps) (dm root)
theorem Ka(k:Nat)(G:GS)(h:HT)(l:List HT):(dz k G h l).D.length<=G.D.length+1:=by
 rw [p9];unfold mY;split<;>simp
theorem tC(k:Nat):∀(l:List DN) (G:GS),(l.foldl (fun G s=>dz k G s.id s.ps) G).D.length<=G.D.length+l.length
 | [],_=>by simp
 |s::l,G=>by
  have h1:=tC k l (dz k G s.id s.ps);have h2:=Ka k G s.id s.ps;rw [List.foldl_cons,List.length_cons];omega
theorem Dv(k:Nat)(root:HT)(l:List DN):(Dw k root l).D.length<=1+l.length:=tC k l (dm root)
theorem Di{k:Nat}{G:GS}{l:List DN}{i:Nat}{s:DN}(h:l[i]? =some s):(l.take (i+1)).foldl (fun G s=>dz k G s.id s.ps) G=dz k ((l.take i).foldl (fun G s=>dz k G s.id s.ps) G) s.id s.ps:=by
 rw [List.take_add_one,h];simp
section
variable{w w' v:World}{S F FP FR:Nat->Prop}{c r x k:Nat}{G:GS}{m:CM}{K:Value->World->Prop}
theorem mN(h:CV w F c k G m)(hT:tJ w)(KE:¬m.SX (Tryz.jX.g 1))(hD:G.D.length<=49)(qw:k<=1000){A:Option Addr}{n cx:Nat}{l:List HT}(zy:HS w A n l)(hn:n<=5000)(id:HT)
 (hK:∀w' F' m' A n c1 B e c2,CV w' F' c k (dz k G id l) m'->m'.x=m.x->Kept (m.own c) w w'->(∀j,m'.own c j->m.own c j\/w.heap.size<=j)->(∀j,F' j->F j\/w.heap.size<=j)->
   bK w' w.heap.size A n c1 (nY k G id l).merge->Row w' w.heap.size iK 1 B e c2 (sQ (nY k G id l).fh)->(∀j,a8 A=some j->a8 B≠some j)->(∀j,a8 A=some j\/a8 B=some j->¬m'.own c j/\¬F' j)->
   K (.tuple #[.agg (cQ (nY k G id l) A n c1 B e c2),.int .i64 (dF G.D id l)]) w'):
 bu prog dI.id #[.pointer (some ⟨c,0,none⟩),.agg id.1,.slice A n cx] w K:=by
 refine GA h hT KE hD qw zy hn id (fun he w' k'=>?_) (fun he w' F' m' A n c1 B e c2 h1 h2 h3 h4 h5 h6 h7 h8 h9=>?_)
 ·have e1:nY k G id l=⟨dX,0,[],[]⟩:=if_neg he
  have:=hK w' F m none 0 0 none 0 0 (by rw [uX he];exact h.same k') rfl (k'.mono fun _ _ h=>h.elim) (fun j h=>.inl h) (fun j h=>.inl h) (by rw [e1];exact bK.nil _ _) (by rw [e1];exact Row.nil _ _ _ _) (fun j hj=>(by cases hj)) (fun j hj=>by rcases hj with hj|hj<;>cases hj);rw [e1]at this;exact this
 ·have e1:nY k G id l=cR k G (cC G l) l:=if_pos he
  have:=hK w' F' m' A n c1 B e c2 h1 h2 h3 h4 h5 (by rw [e1];exact h6) (by rw [e1];exact h7) h8 h9;rw [e1,he]at this;exact this
theorem vp(h:R3 w F r x k G)(hD:G.D.length<=300)(qw:k<=1000){A:Option Addr}{n cx:Nat}{l:List HT}(hl:HS w A n l)(hn:n<=5000)(id:HT)
 (hK:∀w' A n c B e ce,R3 w' (fun j=>F j\/(w.heap.size<=j/\j<w'.heap.size)) r x k (dz k G id l)->Kept (fun j=>j=r\/j=x) w w'->HS w' A n (nY k G id l).merge->Bo w' B e (nY k G id l).fh->(∀a,A=some a\/B=some a->w.heap.size<=a.block)->K (.tuple #[.agg (cQ (nY k G id l) A n c B e ce),.int .i64 (dF G.D id l)]) w'):
 bu prog dH.id #[.pointer (some ⟨r,0,none⟩),.agg id.1,.slice A n cx] w K:=by
 have LN:=h.lt;have Nw:=h.lx;refine yE h hD qw hl hn id (fun he w' k'=>?_) (fun he w' A n c B e ce h1 h2 h3 h4 h5=>?_)
 ·have e1:nY k G id l=⟨dX,0,[],[]⟩:=if_neg he
  have h':=h.same k';have hs:=k'.size;obtain⟨A1,c1,B1,e1',g1,g2,g3⟩:=h'.top;have:=hK w' none 0 0 none 0 0 (by
   rw [uX he];exact⟨⟨A1,c1,B1,e1',g1,g2.mono (fun j hj=>.inl hj),g3.mono (fun j hj=>.inl hj)⟩,h'.X.mono (fun j hj=>.inl hj) (fun e=>e.elim h.X.iC (fun e=>by omega)),fun e=>e.elim h.iC (fun e=>by omega),h.ne,h.fg,fun j e=>e.elim (h'.lo j) (fun e=>e.2)⟩) (k'.mono fun _ _ h=>h.elim) (by rw [e1];exact HS.nil _ _) (by rw [e1];exact⟨rfl,fun i b hi=>by simp at hi⟩) (fun a ha=>by rcases ha with ha|ha<;>cases ha)
  rw [e1]at this;exact this
 ·have e1:nY k G id l=cR k G (cC G l) l:=if_pos he
  have:=hK w' A n c B e ce h1 h2 (by rw [e1];exact h3) (by rw [e1];exact h4) h5;rw [e1,he]at this;exact this
structure lv(w:World)(F:Nat->Prop)(c:Nat)(m:CM)(FR:Nat->Prop)(r x k:Nat)(G:GS):Prop where
 C:CV w F c k G m
 R:R3 w FR r x k G
 rS:∀j,j=r\/j=x->¬m.own c j/\¬F j
 fS:∀j,FR j->¬m.own c j
theorem lv.aF{S0:Nat->Prop}(B:lv w F c m FR r x k G)(hk:Kept S0 w w')(h1:∀j,m.own c j\/F j\/FR j\/j=r\/j=x->¬S0 j):lv w' F c m FR r x k G:=
 ⟨B.C.aF hk (fun j e=>h1 j (.inl e)) (fun j e=>h1 j (.inr (.inl e))),B.R.aF hk (h1 _ (.inr (.inr (.inr (.inl rfl))))) (h1 _ (.inr (.inr (.inr (.inr rfl))))) (fun j e=>h1 j (.inr (.inr (.inl e)))),B.rS,B.fS⟩
theorem lv.same(B:lv w F c m FR r x k G)(hk:Kept Nil w w'):lv w' F c m FR r x k G:=B.aF hk (fun _ _ h=>h)
theorem lv.low(B:lv w F c m FR r x k G):∀j,m.own c j\/F j\/FR j\/j=r\/j=x->j<w.heap.size:=fun j e=>by
 rcases e with e|e|e|e|e
 ·exact B.C.low j (.inl e)
 ·exact B.C.low j (.inr e)
 ·exact B.R.lo j e
 ·rw [e];exact B.R.lt
 ·rw [e];exact B.R.lx
theorem lv.after{F':Nat->Prop}{m':CM}{G':GS}(B:lv w F c m FR r x k G)(kv:Kept (m.own c) w v)(h1:∀j,m'.own c j->m.own c j\/w.heap.size<=j)(h2:∀j,F' j->F j\/w.heap.size<=j)(hC:CV v F' c k G' m'){u:World}(O3:Kept Nil v u):
 R3 u FR r x k G/\∀t,R3 t (fun j=>FR j\/(u.heap.size<=j/\j<t.heap.size)) r x k G'->Kept (fun j=>j=r\/j=x) u t->lv t F' c m' (fun j=>FR j\/(u.heap.size<=j/\j<t.heap.size)) r x k G':=by
 have hr:=B.R.lt;have hx:=B.R.lx;have nr:∀j,j=r\/j=x->¬m'.own c j/\¬F' j:=fun j hj=>by
  have cU:j<w.heap.size:=by rcases hj with rfl|rfl;exact hr;exact hx
  refine⟨fun e=>?_,fun e=>?_⟩
  ·rcases h1 j e with e|e
   ·exact(B.rS j hj).1 e
   ·omega
  ·rcases h2 j e with e|e
   ·exact(B.rS j hj).2 e
   ·omega
 refine⟨(B.R.aF kv (fun e=>(B.rS r (.inl rfl)).1 e) (fun e=>(B.rS x (.inr rfl)).1 e) B.fS).same O3,fun t hR kt=>⟨?_,hR,nr,fun j hj e=>?_⟩⟩
 ·exact(hC.same O3).aF kt (fun j e e'=>(nr j e').1 e) (fun j e e'=>(nr j e').2 e)
 ·have oF:=hC.low j (.inl e)
  have:=O3.size;rcases hj with hj|hj
  ·rcases h1 j e with e|e
   ·exact B.fS j hj e
   ·have:=B.R.lo j hj;omega
  ·omega
end
section
variable{w w' v:World}{S F FP FR:Nat->Prop}{c r x k:Nat}{G:GS}{m:CM}{K:Value->World->Prop}
end
section
variable{k:Nat}{G:GS}{s:HT}
theorem AF(G:GS)(s:HT):cP G s [s]= []:=by
 rw [List.eq_nil_iff_forall_not_mem];intro h hm;obtain⟨h1,h2,h3⟩:=jw.1 hm;rcases h1 with⟨_,p,hp,ha⟩|h1
 ·rw [List.mem_singleton]at hp;subst hp;exact h3 ha
 ·rw [List.mem_singleton]at h1;exact h2 h1
theorem qh(k:Nat)(G:GS)(s:HT):cR k G s [s]=⟨s,G.score s+1,[],[]⟩/\(fK k G s [s]).wd=G.world s++ [s]:=by
 unfold cR fK;rw [AF];exact⟨rfl,rfl⟩
variable{r a b c:HT}(yS:r≠a)(wY:r≠b)(Ex:r≠c)(lI:a≠b)(EJ:a≠c)(Ca:b≠c)
include yS wY lI in
theorem ZV(k:Nat):∃G1 G2:GS,dz k (dm r) a [r]=G1/\dz k G1 b [r]=G2/\dF (dm r).D a [r]=0/\dF G1.D b [r]=0/\iD k G2/\G1.D= [⟨r,[]⟩,⟨a,[r]⟩]/\G2.D= [⟨r,[]⟩,⟨a,[r]⟩,⟨b,[r]⟩]/\G2.score a=1/\G2.score b=1/\G2.score r=0/\G2.world a= [r]/\G2.world b= [r]/\
 (∀x,fy G2.D x a↔x=r)/\(∀x,fy G2.D x b↔x=r)/\∀x,¬fy G2.D x r:=by
 have H0:=mG k r;have c1:dF (dm r).D a [r]=0:=(k1 yS).1;have H1:=H0.add a [r];have D1:(dz k (dm r) a [r]).D= [⟨r,[]⟩,⟨a,[r]⟩]:=by rw [p9];exact(k1 yS).2
 obtain⟨r1,r2⟩:=H0.root ⟨r,[]⟩ rfl
 replace r1:(dm r).gF r=_:=r1
 replace r2:(dm r).world r=_:=r2
 have sC:r∈ids (dm r).D:=by simp [dm,ids]
 obtain⟨n1,n2⟩:=og H0 c1;obtain⟨o1,o2⟩:=nZ (h:=a) (ps:= [r]) H0 sC
 replace n1:(dz k (dm r) a [r]).gF a=cR k (dm r) r [r]:=n1
 replace n2:(dz k (dm r) a [r]).world a=(fK k (dm r) r [r]).wd:=n2
 rw [(qh k (dm r) r).1]at n1;rw [(qh k (dm r) r).2,r2]at n2;have sr:(dm r).score r=0:=by unfold GS.score;rw [r1]
 rw [sr]at n1;rw [r1]at o1;rw [r2]at o2;generalize hG1:dz k (dm r) a [r]=G1 at*;have c2:dF G1.D b [r]=0:=by rw [D1];exact(k2 wY lI).1
 have D2:(dz k G1 b [r]).D= [⟨r,[]⟩,⟨a,[r]⟩,⟨b,[r]⟩]:=by rw [p9,D1];exact(k2 wY lI).2
 have H2:=H1.add b [r];obtain⟨p1,p2⟩:=og H1 c2
 replace p1:(dz k G1 b [r]).gF b=cR k G1 r [r]:=p1
 replace p2:(dz k G1 b [r]).world b=(fK k G1 r [r]).wd:=p2
 rw [(qh k G1 r).1]at p1;rw [(qh k G1 r).2,o2]at p2;have sr1:G1.score r=0:=by unfold GS.score;rw [o1]
 rw [sr1]at p1;have mU:r∈ids G1.D:=by rw [D1];simp [ids]
 have yZ:a∈ids G1.D:=by rw [D1];simp [ids]
 obtain⟨q1,_⟩:=nZ (h:=b) (ps:= [r]) H1 mU;obtain⟨q3,q4⟩:=nZ (h:=b) (ps:= [r]) H1 yZ;have W2:=H2.W;have hr:∀x,¬fy (dz k G1 b [r]).D x r:=fun x h=>by
  obtain⟨p,hp,_⟩:=(sJ W2 (i:=0) (nd:=⟨r,[]⟩) (by rw [D2];rfl) x).1 h;simp at hp
 have hx:∀(i:Nat) (y:HT),(dz k G1 b [r]).D[i]? =some ⟨y,[r]⟩->∀x,fy (dz k G1 b [r]).D x y↔x=r:=fun i y hi x=>by
  rw [sJ W2 (i:=i) (nd:=⟨y,[r]⟩) hi x];constructor
  ·rintro⟨p,hp,e⟩
   rw [List.mem_singleton]at hp;subst hp;rcases e with e|e
   ·exact e
   ·exact absurd e (hr x)
  ·rintro rfl
   exact⟨x,by simp,.inl rfl⟩
 refine⟨G1,_,rfl,rfl,c1,c2,H2,D1,D2,?_,?_,?_,?_,p2,hx 1 a (by rw [D2];rfl),hx 2 b (by rw [D2];rfl),hr⟩
 ·unfold GS.score;rw [q3,n1]
 ·unfold GS.score;rw [p1]
 ·unfold GS.score;rw [q1,o1]
 ·rw [q4,n2];rfl
include yS wY Ex lI EJ Ca in
theorem kG3(cU:cU b a=true){G1 G2:GS}(h1:dz 0 (dm r) a [r]=G1)(h2:dz 0 G1 b [r]=G2):dF G2.D c [a,b]=0/\nY 0 G2 c [a,b]=⟨a,2,[b],[false]⟩:=by
 obtain⟨G1',G2',e1,e2,_,_,H2,_,D2,sa,sb,_,wa,_,aa,ab,ar⟩:=ZV yS wY lI 0;rw [h1]at e1;subst e1;rw [h2]at e2;subst e2;have c3:dF G2.D c [a,b]=0:=by rw [D2];exact(k3 Ex lI EJ Ca).1
 refine⟨c3,?_⟩;unfold nY;rw [if_pos c3];have Qt:gl G2 a b=false:=by
  unfold gl;rw [sa,sb];cases h:Go.Proofs.YtfleamccglihoaaGreatDoor.cU a b
  ·rfl
  ·have:=kH h cU
   rw [iz]at this;cases this
 have nt:cC G2 [a,b]=a:=by
  show(if gl G2 a b then b else a)=a;rw [Qt];rfl
 rw [nt];have hm:cP G2 a [a,b]= [b]:=by
  refine(th (by simp [SO]) fun x=>?_).symm;rw [List.mem_singleton,vG];constructor
  ·rintro rfl
   exact⟨.inr (by simp),fun e=>lI e.symm,fun e=>wY ((aa x).1 e).symm⟩
  ·rintro⟨h|h,h3,h4⟩
   ·obtain⟨_,p,hp,hA⟩:=h
    simp at hp;rcases hp with rfl|rfl
    ·exact absurd hA h4
    ·exact absurd ((aa x).2 ((ab x).1 hA)) h4
   ·simp at h
    rcases h with h|h
    ·exact absurd h h3
    ·exact h
 have hb:oV 0 G2.D [r,a] b=false:=by
  unfold oV;rw [decide_eq_false_iff_not];rintro⟨h,_⟩;have:a∈bV G2.D [r,a] b:=fN.2 ⟨by simp,lI,fun e=>yS ((ab a).1 e).symm,fun e=>wY ((aa b).1 e).symm⟩;have h0:bV G2.D [r,a] b= []:=List.eq_nil_of_length_eq_zero (by omega);rw [h0]at this;simp at this
 unfold cR fK;rw [hm,wa,sa];have hf: [b].foldl (oL 0 G2.D) ⟨[r]++ [a],[]⟩=⟨[r,a],[false]⟩:=by
  show oL 0 G2.D ⟨[r,a],[]⟩ b=_
  unfold oL;rw [hb];rfl
 rw [hf];rfl
end
section
variable{w w':World}{K:Value->World->Prop}
end
section
variable{w w' v:World}{F FP FR:Nat->Prop}{c r x k:Nat}{G:GS}{m:CM}{K:Value->World->Prop}
end
section
variable{w v:World}{F FP FR:Nat->Prop}{c r x k:Nat}{G:GS}{m:CM}{K:Value->World->Prop}{O:Option Addr}{on oc:Nat}{lo:List HT}{s:HT}{sb xb:Nat}{xv:Array Value}
theorem tN(k:Nat){G:GS}(s:HT){lo:List HT}(fJ:∀y∈lo,y∈ids G.D):(cR k G s lo).merge.length<=G.D.length/\(cR k G s lo).fh.length<=G.D.length:=by
 have He:(cP G s lo).length<=G.D.length:=by
  have:=dc (m:=ids G.D) (lG G s lo).nodup (fun x hx=>by
   rcases jw.1 hx with⟨h|h,_⟩
   ·exact h.1
   ·exact fJ x h)
  rwa [gq]at this
 exact⟨He,by show(fK k G s lo).bl.length<=_;rw [(rP k G s lo).1];exact He⟩
end
section
variable{k:Nat}{G:GS}{h:HT}{ps:List HT}
end
section
variable{k:Nat}{G G':GS}{s:HT}{l:List HT}
end
def iH(G:GS):List HT->List HT
 | []=> []
 | [_]=> []
 |x::y::l=>iH G (y::l)++((G.gF x).iY::(G.gF x).merge)
section
variable{k:Nat}{G:GS}{h:HT}{l:List HT}
theorem cI.cons{D:DG}{P:List Int}(W:j0 D)(H:rO D P){h:HT}{l:List HT}(hm:h∈ids D)(c:cI D P h l):∃r,l=h::r:=by
 rcases c.inv W H hm with⟨e,_⟩|⟨_,r,e,_⟩
 ·exact⟨[],e⟩
 ·exact⟨r,e⟩
theorem vy(H:iD k G)(hm:h∈ids G.D)(c:cI G.D G.P h l):(iH G l= []/\(∃nd,G.D[0]? =some nd/\nd.id=h)/\l= [h])\/∃s r,l=h::r/\lu G.D G.P s h/\s∈ids G.D/\cI G.D G.P s r/\iH G l=iH G r++s::(G.gF h).merge:=by
 rcases c.inv H.W H.iY hm with⟨rfl,e⟩|⟨s,r,rfl,hs,I0,cs⟩
 ·exact .inl ⟨rfl,e,rfl⟩
 ·obtain⟨r',rfl⟩:=cs.cons H.W H.iY I0
  refine .inr ⟨s,s::r',rfl,hs,I0,cs,?_⟩;show iH G (s::r')++((G.gF h).iY::(G.gF h).merge)=_
  rw [(H.up s h hs).1]
theorem Ar(H:iD k G){nd:DN}(h0:G.D[0]? =some nd)(a:HT):¬fy G.D a nd.id:=fun ha=>by
 rcases(sJ H.W h0 a).1 ha with⟨p,hp,_⟩;obtain⟨j,_,hj,_⟩:=H.W.up 0 nd p h0 hp;omega
end
section
variable{k:Nat}{G:GS}{h:HT}{l:List HT}
def lr(G:GS)(x:HT):List HT:=(G.gF x).iY::(G.gF x).merge
theorem xJ{x:HT}{l:List HT}(h:l≠ []):iH G (x::l)=iH G l++lr G x:=by
 cases l with
 |nil=>exact absurd rfl h
 |cons y l=>rfl
theorem uO:∀l:List HT,iH G l=(l.reverse.drop 1).flatMap (lr G)
 | []=>rfl
 | [x]=>rfl
 |x::y::l=>by
  have e:(x::y::l).reverse=(y::l).reverse++ [x]:=List.reverse_cons;rw [xJ (by simp),uO (y::l),e,List.drop_append_of_le_length (by simp),List.flatMap_append];simp
theorem FO{l:List HT}{i:Nat}{x:HT}(hx:l[i]? =some x)(hi:i+1<l.length):iH G (l.drop i)=iH G (l.drop (i+1))++lr G x:=by
 have cU:i<l.length:=by omega
 rw [List.drop_eq_getElem_cons cU];have e:l[i]=x:=(lgeS hx).2;rw [e];refine xJ fun e=>?_;have:=congrArg List.length e;rw [List.length_drop,List.length_nil]at this;omega
theorem FN{l:List HT}(h:l≠ []):iH G (l.drop (l.length-1))= []:=by
 have hl:=List.length_pos_iff.2 h;rw [List.drop_eq_getElem_cons (by omega:l.length-1<l.length),List.drop_of_length_le (by omega)];rfl
end
section
variable{w w':World}{K:Value->World->Prop}{B n cx b:Nat}{A:Option Addr}{F:Nat->Prop}{c k:Nat}{G:GS}{m:CM}{l:List HT}
theorem HW{l dk:List HT}{n i:Nat}(hn:l.length=n)(hd:dk.length=n)(rM:i<n-1-i)(h:∀t,t<n->dk[t]? =if t<i\/n-1-i<t then l.reverse[t]? else l[t]?){x y:HT}(hx:dk[i]? =some x)(hy:dk[n-1-i]? =some y):
 ∀t,t<n->((dk.set i y).set (n-1-i) x)[t]? =if t<i+1\/n-1-(i+1)<t then l.reverse[t]? else l[t]? :=by
 have e1:=h i (by omega);rw [if_neg (by omega),hx]at e1;have e2:=h (n-1-i) (by omega);rw [if_neg (by omega),hy]at e2;intro t ht;by_cases h1:t=n-1-i
 ·subst h1
  rw [List.getElem?_set_self (by simp;omega),if_pos (by omega),List.getElem?_reverse (by omega),show l.length-1-(n-1-i)=i by omega];exact e1
 ·rw [List.getElem?_set_ne (by omega)]
  by_cases h2:t=i
  ·subst h2
   rw [List.getElem?_set_self (by omega),if_pos (by omega),List.getElem?_reverse (by omega),show l.length-1-t=n-1-t by omega];exact e2
  ·rw [List.getElem?_set_ne (by omega),h t ht]
   by_cases h3:t<i\/n-1-i<t
   ·rw [if_pos h3,if_pos (by omega)]
   ·rw [if_neg h3,if_neg (by omega)]
theorem bK.at0{v:World}{l:List HT}(hr:bK v B (some ⟨b,0,none⟩) n cx l){i:Nat}{x:HT}(hx:l[i]? =some x):Cells v ((⟨b,0,none⟩:Addr).add (i*32)) x.1:=by
 obtain⟨a,h1,_,h3⟩:=(bK.hs hr).at_ i x hx;cases h1;exact h3
theorem Cy(row:bK w B A n cx l)(hn:n<=1000000)(hK:∀w',bK w' B A n cx l.reverse->Kept (fun j=>a8 A=some j) w w'->K (.tuple #[]) w'):
 bu prog aK.id #[.slice A n cx] w K:=by
 have hlen:=row.len;refine aK.of ?_;unfold aK.W;rw [gQ (x:=(n:Int)-1) (by omega) (by omega)];refine aK.cy (I:=fun s v=>∃(i:Nat) (dk:List HT),s=((i:Int),(n:Int)-1-i)/\i<=n/\bK v B A n cx dk/\(∀t,t<n->dk[t]? =if t<i\/n-1-i<t then l.reverse[t]? else l[t]?)/\Kept (fun j=>a8 A=some j) w v) (μ:=fun s _=>(s.2+1-s.1).toNat) (s:=(0,(n:Int)-1)) ⟨0,l,by simp,Nat.zero_le _,row,fun t ht=>by rw [if_neg (by omega)],Kept.refl _ _⟩ ?_;rintro⟨_,_⟩ v ⟨i,dk,e,hi,hr,VP,kv⟩;cases e;have Yk:=hr.len;unfold aK.B1;refine Split.dec (fun cU=>?_) (fun gH=>?_)
 ·simp only at cU
  have abC:i<n-1-i:=by omega
  obtain⟨b,rfl⟩:=Row.some hr (by omega);intro w3;have k3:Kept Nil v w3:=(Kept.refl _ _).drew;clear_value w3;have ry:bK w3 B (some ⟨b,0,none⟩) n cx dk:=Row.aF hr k3 (fun _ _ h=>h);obtain⟨x,hx⟩:∃x,dk[i]? =some x:=⟨_,List.getElem?_eq_getElem (by omega)⟩;obtain⟨y,hy⟩:∃y,dk[n-1-i]? =some y:=⟨_,List.getElem?_eq_getElem (by omega)⟩;have ej:((n:Int)-1-(i:Int))=((n-1-i:Nat):Int):=by omega
  have r1:bK (setCells w3 ⟨b,i*32,none⟩ y.1.toList 0) B (some ⟨b,0,none⟩) n cx (dk.set i y):=bK.setAt ry (by omega) y;have r2:bK (setCells (setCells w3 ⟨b,i*32,none⟩ y.1.toList 0) ⟨b,(n-1-i)*32,none⟩ x.1.toList 0) B (some ⟨b,0,none⟩) n cx ((dk.set i y).set (n-1-i) x):=bK.setAt r1 (by omega) x;have kk:Kept (· =b) w3 (setCells (setCells w3 ⟨b,i*32,none⟩ y.1.toList 0) ⟨b,(n-1-i)*32,none⟩ x.1.toList 0):=(fi _ _ _ _).tt (fi _ _ _ _);have c1:=bK.at0 ry hx;have c2:=bK.at0 ry hy;have w1:=bK.Hr ry (k:=i) (by omega);have w2:=bK.Hr r1 (k:=n-1-i) (by omega);simp-zeta only [ej,Int.toNat_natCast];simp only [br]at c1 c2;simp-zeta only [br,Nat.zero_add]at*;refine⟨⟨by omega,by omega⟩,Is.mk rfl ⟨y.1,⟨y.2.1,by simp only [br,Nat.zero_add];exact c2⟩,⟨by omega,by omega⟩,Is.mk rfl ⟨x.1,⟨x.2.1,by simp only [br,Nat.zero_add];exact c1⟩,⟨by omega,by omega⟩,Is.mk rfl ⟨⟨y.2.1,y.2.one,fun o ho=>by have:=w1 o ho;simpa only [br,Nat.zero_add]using this⟩,?_⟩⟩⟩⟩;simp-zeta only [br,Nat.zero_add];intro p;refine⟨⟨by omega,by omega⟩,Is.mk rfl ⟨⟨x.2.1,x.2.one,fun o ho=>by have:=w2 o ho;simpa only [br,Nat.zero_add]using this⟩,?_⟩⟩;simp-zeta only [br,Nat.zero_add];intro u;rw [dW (n:=(i:Int)) (by omega) (by omega),gQ (by omega) (by omega)];refine⟨((i:Int)+1,((n-1-i:Nat):Int)-1),rfl,⟨i+1,_,by rw [Prod.mk.injEq];exact⟨by omega,by omega⟩,by omega,r2,HW hlen Yk abC VP hx hy,?_⟩,by simp only;omega⟩;exact kv.trans ((k3.mono fun _ _ h=>h.elim).tt kk) (fun j _ e=>by rw [e];rfl)
 ·simp only at gH
  rw [aR,aK.df];unfold aK.cV;have e:dk=l.reverse:=List.ext_getElem? fun t=>by
   by_cases ht:t<n
   ·rw [VP t ht]
    by_cases h1:t<i\/n-1-i<t
    ·rw [if_pos h1]
    ·rw [if_neg h1,List.getElem?_reverse (by omega),show l.length-1-t=t by omega]
   ·rw [List.getElem?_eq_none (by omega),List.getElem?_eq_none (by simp;omega)]
  rw [<-e]at hK;exact hK v hr kv
theorem CV.Te(h:CV w F c k G m){y:HT}(hy:y∉ids G.D):(Instr.lookup dK (.map (some m.mb)) (.agg y.1) false).run prog w=.ok (.pointer none) w:=by
 have:=h.look y;rwa [if_neg hy]at this
theorem Dg(h:CV w F c k G m){a:HT}(ha:a∉ids G.D)(hK:∀w',Kept Nil w w'->K (.tuple #[.agg (cQ ⟨dX,0,[],[]⟩ none 0 0 none 0 0),.int .i64 6]) w'):
 bu prog dd.id #[.pointer (some ⟨c,0,none⟩),.agg a.1] w K:=by
 refine dd.of ?_;unfold dd.W;intro w1 w2;have k1:Kept Nil w w1:=(Kept.refl _ _).alloc _;have yZ:w1.heap[w.heap.size]? =some (.cells a.1 ah (0,0)):=aI w _;have k2:Kept Nil w1 w2:=(Kept.refl _ _).alloc _;have jF:w2.heap[w1.heap.size]? =some (.cells zC bn (0,0)):=aI w1 _;clear_value w2;have Hg:=k2.heap yZ (fun h=>h);have js:=k1.tt k2;have s1:=k1.size;have l1:=aQ yZ;clear_value w1;refine nf (h.same js) ⟨true,rfl,Split.no rfl ?_⟩;intro w3;have k3:Kept Nil w2 w3:=(Kept.refl _ _).drew;clear_value w3;have h3:=h.same (js.tt k3);have ry:=k3.heap jF (fun h=>h);have zs:(zC:Array Value)=cQ ⟨dX,0,[],[]⟩ none 0 0 none 0 0:=rfl;obtain⟨t1,t2,t3⟩:=dG ry (cs:=zC) rfl;refine Is.mk rfl ⟨_,h3.c2,a.1,⟨a.2.1,Cells.bI (k3.heap Hg (fun h=>h))⟩,_,h3.Te ha,Split.yes rfl ⟨⟨rfl,by rw [zs];exact dJ _ _ _ _ _ _ _,fun j hj=>t1 j hj⟩,?_⟩⟩;exact⟨_,⟨rfl,Cells.bI t2⟩,hK _ ((js.tt k3).trans t3 (fun j hj e=>by omega))⟩
open Classical in
noncomputable def Ic(D:DG)(l:List HT):Int:=if ∃x∈l,x∉ids D then 6 else 0
theorem pQ{D:DG}{l:List HT}(h:∀x∈l,x∈ids D):Ic D l=0:=by unfold Ic;rw [if_neg];rintro⟨x,hx,e⟩;exact e (h x hx)
theorem sj{D:DG}{l:List HT}{x:HT}(hx:x∈l)(e:x∉ids D):Ic D l=6:=by unfold Ic;rw [if_pos ⟨x,hx,e⟩]
set_option maxHeartbeats 1000000 in
theorem mn(h:CV w F c k G m)(hD:G.D.length<=5000)(hl:HS w A n l)(hn:n<=1000000)(hK:∀w',Kept Nil w w'->K (.int .i64 (Ic G.D l)) w'):
 bu prog cH.id #[.pointer (some ⟨c,0,none⟩),.slice A n cx] w K:=by
 have hlen:=hl.len;refine cH.of ?_;unfold cH.W;refine uh h ⟨_,rfl,?_⟩;obtain⟨mx,X,_⟩:=h.X;refine gh.of (Split.no rfl (Is.mk rfl ⟨_,X.c0,⟨_,rfl,Split.no rfl ?_⟩⟩));refine cH.cy (I:=fun s v=>∃i:Nat,s=(0,(i:Int))/\i<=n/\(∀x∈l.take i,x∈ids G.D)/\Kept Nil w v) (μ:=fun s _=>((n:Int)-s.2).toNat) (s:=(0,0)) ⟨0,rfl,Nat.zero_le _,by simp,Kept.refl _ _⟩ ?_;rintro⟨_,_⟩ v ⟨i,e,hi,fJ,kv⟩;cases e;unfold cH.B1;refine Split.dec (fun cU=>?_) (fun gH=>?_)
 ·simp only at cU
  have dV:i<n:=by omega
  obtain⟨x,hx⟩:∃x,l[i]? =some x:=⟨_,List.getElem?_eq_getElem (by omega)⟩;refine(hl.same kv).load (i:=(i:Int)) (x:=x) (by omega) (by rw [Int.toNat_natCast];exact hx) ?_;intro w3;obtain⟨tu,jP,ko⟩:=iu (w:=v) (z:=dX.1) (cs:=x.1) (t:=ah) (by rw [x.2.1];rfl);refine⟨⟨x.2.1,x.2.one,fun j hj=>tu j (by rw [x.2.1];exact hj)⟩,?_⟩;intro w4
  replace jP:w4.heap[v.heap.size]? =some (.cells x.1 ah (0,0)):=jP
  replace ko:Kept Nil v w4:=ko
  clear_value w4;have nE:=kv.tt ko;refine⟨x.1,⟨x.2.1,Cells.bI jP⟩,?_⟩;have fin:∀ {u:World} {C:ou} {A1 E1:Option Addr} {n1 p1 e1 q1:Nat} {Z:Prop},Kept Nil w u->(∀u',Kept Nil w u'->u'=setCells (u.alloc (.cells zC bn)) ⟨u.heap.size,0,none⟩ (cQ C A1 n1 p1 E1 e1 q1).toList 0->Z)->
   ((cQ C A1 n1 p1 E1 e1 q1).size=35/\(∀x∈(cQ C A1 n1 p1 E1 e1 q1).toList,x.oneCell'=true)/\∀y,y<35->Wr (u.alloc (.cells zC bn)) ((⟨u.heap.size,0,none⟩:Addr).add y))/\Z:=by
   intro u C A1 E1 n1 p1 e1 q1 Z ku hz;have IP:(u.alloc (.cells zC bn)).heap[u.heap.size]? =some (.cells zC bn (0,0)):=aI u _;obtain⟨t1,t2,t3⟩:=dG IP (cs:=cQ C A1 n1 p1 E1 e1 q1) (by rw [aZ];rfl);exact⟨⟨aZ ..,dJ _ _ _ _ _ _ _,fun j hj=>t1 j (by rw [aZ];exact hj)⟩,hz _ ((ku.alloc _).trans t3 (fun j hj e=>by have:=ku.size;omega)) rfl⟩
  by_cases hm:x∈ids G.D
  ·refine yf (h.same nE) hD hm fun A5 n5 c5 E5 e5 d5 w5 _ _ _ k5=>⟨_,_,rfl,?_⟩
   intro w6;refine fin (nE.tt k5) fun u' MO eu=>?_;intro w7;refine Split.no rfl ?_;have e7:w7=u':=eu.symm;rw [e7,dW (n:=(i:Int)) (by omega) (by omega)];refine⟨(0,(i:Int)+1),rfl,⟨i+1,rfl,dV,fun y hy=>?_,MO⟩,by simp only;omega⟩;rcases(bO hx).1 hy with hy|rfl
   ·exact fJ y hy
   ·exact hm
  ·refine Dg (h.same nE) hm fun w5 k5=>⟨_,_,rfl,?_⟩
   intro w6;refine fin (nE.tt k5) fun u' MO eu=>?_;intro w7;refine Split.yes rfl ?_;have e7:w7=u':=eu.symm;rw [e7];have:=hK u' MO;rw [sj (List.mem_of_getElem? hx) hm]at this;exact this
 ·simp only at gH
  rw [aR,cH.df];rw [List.take_of_length_le (by omega)]at fJ;have:=hK v kv;rw [pQ fJ]at this;exact this
theorem pM(h:CV w F c k G m)(hD:G.D.length<=5000){a:HT}(ha:a∈ids G.D)(hc:cI G.D G.P a l)(hK:∀A cx w',bK w' w.heap.size A l.length cx l.reverse->Kept Nil w w'->K (.slice A l.length cx) w'):
 bu prog iM.id #[.pointer (some ⟨c,0,none⟩),.agg a.1] w K:=by
 refine iM.of ?_;unfold iM.W;intro w1 w2;have k1:Kept Nil w w1:=(Kept.refl _ _).alloc _;have yZ:w1.heap[w.heap.size]? =some (.cells a.1 ah (0,0)):=aI w _;have k2:Kept Nil w1 w2:=(Kept.refl _ _).drew;clear_value w2;have Hg:=k2.heap yZ (fun h=>h);have js:=k1.tt k2;clear_value w1;have h2:=h.same js;obtain⟨mx,X,_⟩:=h2.X;refine⟨a.1,⟨a.2.1,Cells.bI Hg⟩,uh h2 ⟨_,rfl,⟨_,rfl,a.2.1,Cells.bI Hg⟩,?_⟩⟩;refine pH a fun w3 pb qb k3 hp hq Bf hqb=>⟨_,rfl,?_⟩;have jY:=js.tt k3;have hll:l.length<=G.D.length:=hc.Ij h.fg.iY;refine wy (xs:=l) aW.at_ rfl (yv (F:=m.FX) (x:=m.x) (m:=mx) (pb:=pb) (qb:=qb) hc (by omega)) (fun u ku=>⟨X.same (k3.tt ku),ku.heap hp (fun h=>h),ku.heap hq (fun h=>h)⟩) (by omega) fun A cx w4 iG k4=>⟨_,_,_,rfl,?_⟩;have mW:=jY.tt k4;have s3:=jY.size;refine Cy iG (by omega) fun w5 jr k5=>⟨rfl,?_⟩;refine hK A cx w5 (Row.base jr (fun j hj=>by have:=(Row.bI iG hj).1;omega)) (mW.trans k5 (fun j hj e=>by have:=(Row.bI iG e).1;omega))
end
section
variable{w w' v:World}{K:Value->World->Prop}{B n cx b q:Nat}{A E:Option Addr}{F:Nat->Prop}{c k:Nat}{G:GS}{m:CM}{l:List HT}{C:ou}{cp e ce:Nat}
theorem yA(w:World)(s:HT){B:Nat}(hB:B<=w.heap.size):bK (w.alloc (.cells (s.1.toList++ []).toArray ah)) B (some ⟨w.heap.size,0,none⟩) 1 1 [s]:=by
 have e:c9 [s]=(s.1.toList++ []).toArray.toList:=by simp [c9]
 show Row _ _ _ _ _ _ _ (c9 [s])
 rw [e];exact Row.made (aI w _) hB (by simp [s.2.1]) (by unfold maxLen;omega)
theorem fO(hx:v.heap[q]? =some (.cells (cQ C A n cp E e ce) bn (0,0))):
 Cells v ((⟨q,0,none⟩:Addr).add 0) C.iY.1/\v.cell? ((⟨q,0,none⟩:Addr).add 32)=some (.int .u64 (C.score:Int))/\v.cell? ((⟨q,0,none⟩:Addr).add 33)=some (.slice A n cp)/\v.cell? ((⟨q,0,none⟩:Addr).add 34)=some (.slice E e ce):=by
 have g:=gE C A n cp E e ce #[];rw [Array.append_empty]at g;refine⟨fun j u hj=>?_,by rw [br,aD hx];exact g.1,by rw [br,aD hx];exact g.2.1,by rw [br,aD hx];exact g.2.2.1⟩;have cU:=(Array.getElem?_eq_some_iff.1 hj).1;rw [add_zero,br,aD hx,Nat.zero_add];unfold cQ;rw [Array.getElem?_append_left cU];exact hj
theorem uW(u:World)(C:ou)(A:Option Addr)(n cp:Nat)(E:Option Addr)(e ce:Nat):
 ((cQ C A n cp E e ce).size=35/\(∀x∈(cQ C A n cp E e ce).toList,x.oneCell'=true)/\∀y,y<35->Wr (u.alloc (.cells zC bn)) ((⟨u.heap.size,0,none⟩:Addr).add y))/\
   (setCells (u.alloc (.cells zC bn)) ⟨u.heap.size,0,none⟩ (cQ C A n cp E e ce).toList 0).heap[u.heap.size]? =some (.cells (cQ C A n cp E e ce) bn (0,0))/\
   Kept Nil u (setCells (u.alloc (.cells zC bn)) ⟨u.heap.size,0,none⟩ (cQ C A n cp E e ce).toList 0):=by
 have IP:(u.alloc (.cells zC bn)).heap[u.heap.size]? =some (.cells zC bn (0,0)):=aI u _;obtain⟨t1,t2,t3⟩:=dG IP (cs:=cQ C A n cp E e ce) (by rw [aZ];rfl);exact⟨⟨aZ ..,dJ _ _ _ _ _ _ _,fun j hj=>t1 j (by rw [aZ];exact hj)⟩,t2,((Kept.refl _ _).alloc _).trans t3 (fun j hj e=>by omega)⟩
theorem Jt(u:World)(x:HT):(x.1.size=32/\(∀y∈x.1.toList,y.oneCell'=true)/\∀y,y<32->Wr (u.alloc (.cells zH ah)) ((⟨u.heap.size,0,none⟩:Addr).add y))/\
 (setCells (u.alloc (.cells zH ah)) ⟨u.heap.size,0,none⟩ x.1.toList 0).heap[u.heap.size]? =some (.cells x.1 ah (0,0))/\Kept Nil u (setCells (u.alloc (.cells zH ah)) ⟨u.heap.size,0,none⟩ x.1.toList 0):=by
 obtain⟨tu,jP,ko⟩:=iu (w:=u) (z:=zH) (cs:=x.1) (t:=ah) (by rw [x.2.1];rfl);exact⟨⟨x.2.1,x.2.one,fun j hj=>tu j (by rw [x.2.1];exact hj)⟩,jP,ko⟩
theorem H6(h:CV w F c k G m)(hD:G.D.length<=5000)(a:HT)(hc:cI G.D G.P a l)
 (lH:a∉ids G.D->∀w',Kept Nil w w'->K (.tuple #[.slice none 0 0,.int .i64 6]) w')
 (hK:a∈ids G.D->∀A cx w',bK w' w.heap.size A l.length cx l.reverse->Kept Nil w w'->K (.tuple #[.slice A l.length cx,.int .i64 0]) w'):
 bu prog iO.id #[.pointer (some ⟨c,0,none⟩),.agg a.1] w K:=by
 refine iO.of ?_;unfold iO.W;intro w1;have k1:Kept Nil w w1:=(Kept.refl _ _).alloc _;have yZ:w1.heap[w.heap.size]? =some (.cells a.1 ah (0,0)):=aI w _;clear_value w1;refine⟨a.1,⟨a.2.1,Cells.bI yZ⟩,a.2.1,?_⟩;intro w2;have k2:Kept Nil w1 w2:=(Kept.refl _ _).alloc _;have lT:HS w2 (some ⟨w1.heap.size,0,none⟩) 1 [a]:=iL w1 a;clear_value w2;have js:=k1.tt k2;refine mn (h.same js) hD lT (by omega) fun w3 k3=>⟨_,rfl,?_⟩;have jY:=js.tt k3;have ru:=k2.tt k3;by_cases hm:a∈ids G.D
 ·rw [pQ (by simpa using hm)]
  refine Split.no rfl ⟨a.1,⟨a.2.1,Cells.bI (ru.heap yZ (fun h=>h))⟩,?_⟩;have s3:=jY.size;exact pM (h.same jY) hD hm hc fun A cx w4 iG k4=>⟨_,_,_,rfl,hK hm A cx w4 (Row.base iG (fun j hj=>by have:=(Row.bI iG hj).1;omega)) (jY.tt k4)⟩
 ·rw [sj (x:=a) (by simp) hm]
  exact Split.yes rfl (lH hm w3 jY)
theorem vx(a:HT)(hK:∀w' pb qb,Kept Nil w w'->w'.heap[pb]? =some (.cells #[.pointer (some ⟨c,0,none⟩)] eN (0,0))->w'.heap[qb]? =some (.cells a.1 ah (0,0))->w.heap.size<=pb->w.heap.size<=qb->K (.func (.func bz.id) #[] #[.pointer (some ⟨pb,0,none⟩),.pointer (some ⟨qb,0,none⟩)]) w'):
 bu prog iN.id #[.pointer (some ⟨c,0,none⟩),.agg a.1] w K:=by
 refine iN.of ?_;unfold iN.W;intro w3 w4;have k3:Kept Nil w w3:=(Kept.refl _ _).alloc _;have hp3:w3.heap[w.heap.size]? =some (.cells #[.pointer (some ⟨c,0,none⟩)] eN (0,0)):=aI w _;have k4:Kept Nil w3 w4:=(Kept.refl _ _).alloc _;have hq4:w4.heap[w3.heap.size]? =some (.cells a.1 ah (0,0)):=aI w3 _;clear_value w4;exact hK w4 _ _ (k3.tt k4) (k4.heap hp3 (fun h=>h)) hq4 (Nat.le_refl _) k3.size
def MA(G:GS)(x:HT)(vs:List Value)(w:World):Prop:=∃A n cx B,vs= [.agg x.1,.slice A n cx]/\bK w B A n cx (lr G x)
theorem Fk(H:iD k G){x:HT}(hx:x∈ids G.D){A:Option Addr}{n:Nat}(hm:HS w A n (G.gF x).merge):n<=G.D.length:=by
 have e1:=hm.len;have:=(qy H hx).1;omega
set_option maxHeartbeats 1000000 in
theorem Cp{pb qb:Nat}{a:HT}(hl:cI G.D G.P a l)(hD:G.D.length<=5000):
 yr prog bz.id #[] #[.pointer (some ⟨pb,0,none⟩),.pointer (some ⟨qb,0,none⟩)] (l.reverse.drop 1) (MA G) (fun w=>CV w F c k G m/\w.heap[pb]? =some (.cells #[.pointer (some ⟨c,0,none⟩)] eN (0,0))/\w.heap[qb]? =some (.cells a.1 ah (0,0))):=by
 intro y I Q w0 hI hQ oE h0 oD;obtain⟨hC,LF,No⟩:=oE 0 Nil w0 h0;have H:=hC.fg;refine bz.of ?_;unfold bz.W;refine⟨_,by rw [aD LF];rfl,a.1,⟨a.2.1,Cells.bI No⟩,a.2.1,?_⟩;intro w1;have k1:Kept Nil w0 w1:=(Kept.refl _ _).alloc _;have yY:HS w1 (some ⟨w0.heap.size,0,none⟩) 1 [a]:=iL w0 a;clear_value w1;refine mn (hC.same k1) hD yY (by omega) fun w2 k2=>⟨_,rfl,?_⟩;have js:=k1.tt k2;by_cases hm:a∈ids G.D
 ·rw [pQ (by simpa using hm)]
  refine Split.no rfl ⟨_,by rw [aD (js.heap LF (fun h=>h))];rfl,a.1,⟨a.2.1,Cells.bI (js.heap No (fun h=>h))⟩,?_⟩;refine pM (hC.same js) hD hm hl fun A cx w3 jR k3=>⟨A,_,cx,rfl,?_⟩;have jY:=js.tt k3;have s2:=js.size;obtain⟨r,LN⟩:=hl.cons H.W H.iY hm;have vV:1<=l.length:=by rw [LN];simp
  have hll:l.length<=G.D.length:=hl.Ij H.iY;have RR:∀x∈l.reverse.drop 1,x∈ids G.D:=fun x hx=>by
   have h1:=List.mem_reverse.1 (List.mem_of_mem_drop hx);obtain⟨i,j,ni,nj,g1,_,g3,g4,_⟩:=(hl.mem H.W H.iY).1 h1;exact dp.2 ⟨nj,List.mem_of_getElem? g3,g4⟩
  refine⟨⟨by omega,by omega⟩,?_⟩;have Da:=bK.cap jR;refine bz.cy (I:=fun s v=>∃i:Nat,s=(i:Int)/\i<=l.length-1/\I i (fun j=>a8 A=some j) v/\bK v w2.heap.size A l.length cx l.reverse) (μ:=fun s _=>((l.length:Int)-s).toNat) (s:=0) ⟨0,rfl,Nat.zero_le _,hI 0 Nil _ w0 w3 h0 jY (fun j hj=>.inr ?_),jR⟩ ?_
  ·obtain⟨gH,cur,jy⟩:=Row.bI jR hj
   exact⟨by omega,aQ jy⟩
  rintro s v ⟨i,rfl,hi,hv,Fz⟩;unfold bz.B1;refine Split.dec (fun cU=>?_) (fun gH=>?_)
  ·have dV:i<l.length-1:=by simp at cU;omega
   obtain⟨x,hx⟩:∃x,(l.reverse.drop 1)[i]? =some x:=⟨_,List.getElem?_eq_getElem (by simp;omega)⟩;have XW:=RR x (List.mem_of_getElem? hx);have hs:=(bK.hs Fz).drop (k:=1) Da vV;obtain⟨hCv,hpv,hqv⟩:=oE i _ v hv;refine HS.load hs (i:=(i:Int)) (x:=x) (by omega) (by rw [Int.toNat_natCast];exact hx) ?_;intro w4;obtain⟨yY,lT,nI⟩:=Jt v x;refine⟨yY,?_⟩;intro w5
   replace lT:w5.heap[v.heap.size]? =some (.cells x.1 ah (0,0)):=lT
   replace nI:Kept Nil v w5:=nI
   clear_value w5;refine⟨_,by rw [aD (nI.heap hpv (fun h=>h))];rfl,x.1,⟨x.2.1,Cells.bI lT⟩,?_⟩;refine yf (hCv.same nI) hD XW fun A5 n5 c5 E5 e5 d5 w6 r5 _ _ k6=>⟨_,_,rfl,?_⟩;intro w7;obtain⟨t1,t2,t3⟩:=uW w6 (G.gF x) A5 n5 c5 E5 e5 d5;refine⟨t1,?_⟩;intro w8 w9
   replace t2:w8.heap[w6.heap.size]? =some (.cells (cQ (G.gF x) A5 n5 c5 E5 e5 d5) bn (0,0)):=t2
   replace t3:Kept Nil w6 w8:=t3
   have k9:Kept Nil w8 w9:=(Kept.refl _ _).drew;clear_value w9;have t29:=k9.heap t2 (fun h=>h);have BW:=t3.tt k9;clear_value w8;have CH:=k6.tt BW;have O4:=nI.tt CH;obtain⟨f1,_,f3,_⟩:=fO t29;refine⟨x.1,⟨x.2.1,Cells.bI (CH.heap lT (fun h=>h))⟩,_,⟨(G.gF x).iY.2.1,f1⟩,A5,n5,c5,f3,(G.gF x).iY.2.1,?_⟩;intro w10;have lh:Kept Nil w9 w10:=(Kept.refl _ _).alloc _;have oN:bK w10 w9.heap.size (some ⟨w9.heap.size,0,none⟩) 1 1 [(G.gF x).iY]:=yA w9 _ (Nat.le_refl _);clear_value w10;have ZE:=((bK.hs r5).same BW).same lh;have hn5:=Fk H XW (bK.hs r5);have Zo:=lh.size;obtain⟨A6,c6,nM,Yb,Cv,g6,hA6⟩:=ct ay oN (cx:=c5) ZE (by omega) Zo;have rr:Kept Nil w9 nM:=Kept.dA lh g6 (fun j hj=>(Row.bI oN hj).1);have Pc:=BW.tt rr;have Tt:=O4.tt rr;have Z2:=CH.tt rr;refine⟨(fO (lh.heap t29 (fun h=>h))).2.2.1,⟨_,rfl,x.2.1,Cells.bI (lh.heap (CH.heap lT (fun h=>h)) (fun h=>h))⟩,A6,_,c6,nM,Yb,⟨_,rfl,x.2.1,Cells.bI (Z2.heap lT (fun h=>h))⟩,?_⟩;refine(oD i x [.agg x.1,.slice A6 (1+n5) c6] (fun j=>a8 A=some j) nM hx ⟨A6,1+n5,c6,_,rfl,Cv⟩ (hI i _ _ v nM hv Tt (fun j hj=>.inl hj))).mono ?_;rintro bb lL ⟨ht,hf⟩;cases bb with
   |true=>
    obtain⟨WI,kI⟩:=ht rfl;refine Split.no rfl ?_;rw [dW (n:=(i:Int)) (by omega) (by omega)];have ON:bK nM w2.heap.size A l.length cx l.reverse:=Row.aF Fz Tt (fun _ _ h=>h);exact⟨(i:Int)+1,rfl,⟨i+1,rfl,dV,WI,Row.aF ON kI (fun j hj e=>e hj)⟩,by simp only;omega⟩
   |false=>exact Split.yes rfl (Or.inr (hf rfl))
  ·rw [aR,bz.df]
   have e:i=(l.reverse.drop 1).length:=by
    simp at gH⊢;omega
   subst e;exact Or.inl ⟨_,hv⟩
 ·rw [sj (x:=a) (by simp) hm]
  have e:l= []:=by
   rcases hl with⟨_,rfl⟩|⟨i,nd,ks,h1,h2,_,_⟩
   ·rfl
   ·exact absurd (dp.2 ⟨nd,List.mem_of_getElem? h1,h2⟩) hm
  subst e;exact Split.yes rfl (Or.inl ⟨Nil,hI 0 Nil Nil w0 w2 h0 js (fun j hj=>hj.elim)⟩)
end
section
variable{w w' v:World}{K:Value->World->Prop}{B n cx b q:Nat}{A E:Option Addr}{F:Nat->Prop}{c k:Nat}{G:GS}{m:CM}{l:List HT}{C:ou}{cp e ce:Nat}{a:HT}
theorem FM(l:List HT){i:Nat}{x:HT}(hx:(l.reverse.drop 1)[i]? =some x):((l.reverse.drop 1).take (i+1)).flatMap (lr G)=((l.reverse.drop 1).take i).flatMap (lr G)++lr G x:=by
 rw [List.take_add_one,hx];simp
theorem zR(H:iD k G){x:HT}(hx:x∈ids G.D):(lr G x).length<=G.D.length+1:=by
 have:=(qy H hx).1;unfold lr;simp only [List.length_cons];omega
theorem y8(H:iD k G):∀l:List HT,(∀x∈l,x∈ids G.D)->(l.flatMap (lr G)).length<=l.length*(G.D.length+1)
 | [],_=>by simp
 |x::l,h=>by
  have h1:=zR H (h x List.mem_cons_self);have h2:=y8 H l (fun y hy=>h y (List.mem_cons_of_mem _ hy));rw [List.flatMap_cons,List.length_append,List.length_cons,Nat.add_mul];omega
theorem JO(H:iD k G)(hl:cI G.D G.P a l):∀x∈l,x∈ids G.D:=fun x hx=>by
 obtain⟨i,j,ni,nj,g1,_,g3,g4,_⟩:=(hl.mem H.W H.iY).1 hx;exact dp.2 ⟨nj,List.mem_of_getElem? g3,g4⟩
theorem vd(H:iD k G)(hl:cI G.D G.P a l):∀x∈l.reverse.drop 1,x∈ids G.D:=fun x hx=>JO H hl x (List.mem_reverse.1 (List.mem_of_mem_drop hx))
theorem Ec(H:iD k G)(hl:cI G.D G.P a l):(iH G l).length<=G.D.length*(G.D.length+1):=by
 rw [uO];refine Nat.le_trans (y8 H _ (vd H hl)) (Nat.mul_le_mul_right _ ?_);have:=hl.Ij H.iY;simp only [List.length_drop,List.length_reverse];omega
theorem zT{d i:Nat}(hd:d<=900)(hi:i<=d):i*(d+1)<=900*901:=Nat.mul_le_mul (by omega) (by omega)
set_option maxHeartbeats 1000000 in
theorem tY(h:CV w F c k G m)(hD:G.D.length<=900)(a:HT)(hc:cI G.D G.P a l)
 (lH:a∉ids G.D->∀w',Kept Nil w w'->K (.tuple #[.slice none 0 0,.int .i64 6]) w')
 (hK:a∈ids G.D->∀A cx w',bK w' w.heap.size A (iH G l).length cx (iH G l)->Kept Nil w w'->K (.tuple #[.slice A (iH G l).length cx,.int .i64 0]) w'):
 bu prog c8.id #[.pointer (some ⟨c,0,none⟩),.agg a.1] w K:=by
 have H:=h.fg;refine c8.of ?_;unfold c8.W;intro w1;have k1:Kept Nil w w1:=(Kept.refl _ _).alloc _;have yZ:w1.heap[w.heap.size]? =some (.cells a.1 ah (0,0)):=aI w _;clear_value w1;refine⟨a.1,⟨a.2.1,Cells.bI yZ⟩,a.2.1,?_⟩;intro w2;have k2:Kept Nil w1 w2:=(Kept.refl _ _).alloc _;have lT:HS w2 (some ⟨w1.heap.size,0,none⟩) 1 [a]:=iL w1 a;clear_value w2;have js:=k1.tt k2;refine mn (h.same js) (by omega) lT (by omega) fun w3 k3=>⟨_,rfl,?_⟩;have jY:=js.tt k3;have ru:=k2.tt k3;by_cases hm:a∈ids G.D
 ·rw [pQ (by simpa using hm)]
  refine Split.no rfl ?_;intro w4;have k4:Kept Nil w3 w4:=(Kept.refl _ _).alloc _;have ho4:w4.heap[w3.heap.size]? =some (.cells #[.slice none 0 0] ay (0,0)):=aI w3 _;clear_value w4;have mW:=jY.tt k4;refine⟨a.1,⟨a.2.1,Cells.bI ((ru.tt k4).heap yZ (fun h=>h))⟩,?_⟩;refine vx a fun w5 pb qb k5 hp5 Yc Bf hqb=>⟨_,rfl,?_⟩;have nQ:=mW.tt k5;have ho5:=k5.heap ho4 (fun h=>h);have s3:=jY.size;have s4:=k4.size;have s5:=k5.size;have l4:=aQ ho4;generalize Gn:w3.heap.size=ob at ho5 l4;have lo5:=aQ ho5
  let y7:Value:=.func (.func bz.id) #[] #[.pointer (some ⟨pb,0,none⟩),.pointer (some ⟨qb,0,none⟩)]
  let ρ0:Env:= [(4,.slice none 0 0),(5,.int .i64 0),(7,.pointer (some ⟨ob,0,none⟩)),(19,y7)]
  let xs:=l.reverse.drop 1
  let J:Nat->(Nat->Prop)->World->Prop:=fun i Pr u=>i<=xs.length/\Kept (· =ob) w5 u/\(∃A n cx,u.heap[ob]? =some (.cells #[.slice A n cx] ay (0,0))/\bK u w5.heap.size A n cx ((xs.take i).flatMap (lr G))/\(∀j,a8 A=some j->¬Pr j))/\∀j,Pr j->w5.heap.size<=j/\j<u.heap.size
  have kJ:∀ {u:World},Kept (· =ob) w5 u->Kept Nil w u:=fun k=>nQ.trans k (fun j hj e=>by omega);have kJ5:∀ {u:World},Kept (· =ob) w5 u->Kept Nil w3 u:=fun k=>(k4.tt k5).trans k (fun j hj e=>by omega)
  change Holds none [] prog _ _ _ ρ0 w5
  refine Ai (n:=26) (ρ:=ρ0) (ρ0:=ρ0) ng mix c8.k (t:=19) (ps:= #[20,21]) (by kernel_rfl) (by decide) rfl bz.at_ rfl (.inl rfl) (fun i x hi hx=>hx) rfl xs (MA G) (fun x vs u hE=>by obtain⟨A,n,cx,B,rfl,_⟩:=hE;rfl) (fun q hq=>by
   have W4:q=20\/q=21:=by simpa using hq
   rcases W4 with rfl|rfl<;>exact⟨by decide,by decide⟩) (Cp (F:=F) (c:=c) (k:=k) (m:=m) (pb:=pb) (qb:=qb) hc (by omega)) J (fun _ _=>False) ?_ (fun _ _ _ _ _ h=>h.elim) (fun i Pr u hJ=>⟨h.same (kJ hJ.2.1),hJ.2.1.heap hp5 (by omega),hJ.2.1.heap Yc (by omega)⟩) ?_ ?_ ?_ (fun _ _ h=>h.elim) (fun _ _ _ h=>h.elim)
  ·rintro i Pr Of u1 u2 R oQ ⟨h0,h1,⟨A,n,cx,h2,h3,h4⟩,h5⟩ hk hp
   have su:=hk.size;have sw:=h1.size;refine⟨h0,h1.trans hk (fun j hj e=>by omega),⟨A,n,cx,hk.heap h2 (by omega),Row.apart h3 hk (fun cs t fr h=>by rw [oQ.loop]at h;cases h),fun j hj e=>?_⟩,fun j hj=>?_⟩
   ·rcases hp j e with e|e
    ·exact h4 j hj e
    ·obtain⟨_,cur,jy⟩:=Row.bI h3 hj
     have:=aQ jy;omega
   ·rcases hp j hj with e|e
    ·have:=h5 j e;omega
    ·omega
  ·intro R
   exact⟨Nat.zero_le _,((Kept.refl _ _).alloc _).alloc _,⟨none,0,0,jl (jl ho5 _) _,bK.nil _ _,fun j hj=>by cases hj⟩,fun j hj=>hj.elim⟩
  ·rintro i x vs Pr u1 R hx ⟨A2,n2,c2,B2,rfl,uS⟩ ⟨h0,h1,⟨A,n,cx,h2,h3,h4⟩,h5⟩ oQ P6
   have e7:kX ρ0 ((#[20,21]:Array Nat).toList.zip [.agg x.1,.slice A2 n2 c2])= [(4,.slice none 0 0),(5,.int .i64 0),(7,.pointer (some ⟨ob,0,none⟩)),(19,y7),(20,.agg x.1),(21,.slice A2 n2 c2)]:=rfl;rw [e7,c8.a1];unfold c8.A1;refine⟨oQ,fun w2 R2 mX rz=>?_⟩;rw [c8.y1];unfold c8.Y1;have dV:=(lgeS hx).1;have Qn:i<xs.length:=dV;have XW:=vd H hc x (List.mem_of_getElem? hx);have zz:=mX.heap h2 (by omega);have Hi:bK w2 w5.heap.size A n cx ((xs.take i).flatMap (lr G)):=Row.apart h3 mX (fun cs t fr h=>by rw [oQ.loop]at h;cases h);have PV:HS w2 A2 n2 (lr G x):=bK.hs (Row.apart uS mX (fun cs t fr h=>by rw [oQ.loop]at h;cases h));have hlen:=Hi.len;have EG:=y8 H (xs.take i) (fun y hy=>vd H hc y (List.mem_of_mem_take hy));have uB:xs.length<=G.D.length:=by
    have:=hc.Ij H.iY;simp only [xs,List.length_drop,List.length_reverse];omega
   rw [List.length_take,Nat.min_eq_left (by omega)]at EG;have X3:=zT hD (i:=i) (by omega);have CQ:=zR H XW;have Yg:=PV.len;have sw2:=mX.size;have sh1:=h1.size;obtain⟨A3,c3,Sl,wJ,iG,g4,NW⟩:=ct ay Hi (cx:=c2) PV (by omega) (by omega);have kg:Kept (fun j=>a8 A=some j) w2 Sl:=Kept.grown (Kept.refl _ _) g4 fun j hj _=>hj;have nob:a8 A≠some ob:=fun e=>by
    have:=(Row.bI Hi e).1;omega
   have h24:=kg.heap zz nob;have ll4:Live (w5.heap.size+1) w5.heap.size R2 Sl:=by
    refine rz.aF kg ?_ ?_
    ·intro e
     obtain⟨_,cur,jy⟩:=Row.bI Hi e;exact kY jy rz.loop rfl
    ·intro e
     obtain⟨_,cur,jy⟩:=Row.bI Hi e;exact sh jy rz.mark rfl
   refine⟨A,n,cx,by rw [aD zz];rfl,A3,_,c3,Sl,wJ,dY h24 (by simp),?_⟩;intro Zc;have oS:Zc.heap[ob]? =some (.cells #[.slice A3 (n+n2) c3] ay (0,0)):=dh h24 0 _;have Ty:Kept (· =ob) Sl Zc:=Kept.setCell (S:=fun k=>k=ob) (Kept.refl _ Sl) (p:=⟨ob,0,none⟩) (fun _=>rfl) _;clear_value Zc;have sg:=kg.size;have sb:=Ty.size;have hA3:∀j,a8 A3=some j->¬Pr j:=fun j hj e=>by
    rcases NW j hj with e2|e2
    ·exact h4 j e2 e
    ·have:=(h5 j e).2;omega
   have nA3:∀j,a8 A3=some j->j≠ob:=fun j hj e=>by
    have:=(Row.bI iG hj).1;omega
   refine⟨ll4.aF Ty (fun e=>by omega) (fun e=>by omega),⟨Qn,?_,⟨A3,n+n2,c3,oS,?_,hA3⟩,fun j hj=>by have:=h5 j hj;omega⟩,?_⟩
   ·exact((h1.trans mX (fun j hj e=>by omega)).trans kg (fun j hj e=>by have:=(Row.bI Hi e).1;omega)).trans Ty (fun j hj e=>e)
   ·have:=Row.aF iG Ty nA3
    rw [FM l hx];exact this
   ·refine((mX.mono (S':=fun j=>¬Pr j) (fun j hj e hp=>by have:=P6 j hp;omega)).trans kg (fun j hj e=>h4 j e)).trans Ty (fun j hj e hp=>by have:=h5 j hp;omega)
  ·rintro Pr u1 R ⟨h0,h1,⟨A,n,cx,h2,h3,h4⟩,h5⟩ oQ
   have e7:gv ρ0 w5.heap.size= [(4,.slice none 0 0),(5,.int .i64 0),(7,.pointer (some ⟨ob,0,none⟩)),(19,y7),(4294967296,.agg (pR [w5.heap.size]))]:=rfl;rw [e7,c8.jG];unfold c8.ig;rw [mw];have kt:=jH [w5.heap.size] u1;have hmm:∀E∈ [w5.heap.size],u1.heap[E]? =some (.deferred (some [])):=fun E hE=>by
    rw [List.mem_singleton]at hE;subst hE;exact oQ.mark
   rw [List.take_of_length_le (Nat.le_refl _),<-uO]at h3;have hn:=h3.len;refine⟨A,n,cx,by rw [aD h2];rfl,lC [w5.heap.size] u1 (by simp) hmm,?_⟩;subst hn;have s05:=nQ.size;refine hK hm A cx _ ?_ ((kJ h1).trans kt (fun j hj e=>by rw [List.mem_singleton]at e;omega));refine Row.base (Row.aF h3 kt (fun j hj e=>?_)) (fun j hj=>by have:=(Row.bI h3 hj).1;omega);rw [List.mem_singleton]at e;subst e;obtain⟨_,cur,jy⟩:=Row.bI h3 hj;exact sh jy oQ.mark rfl
 ·rw [sj (x:=a) (by simp) hm]
  exact Split.yes rfl (lH hm w3 jY)
end
section
variable{w w' v:World}{K:Value->World->Prop}{B n cx b q:Nat}{A O:Option Addr}{F:Nat->Prop}{c k:Nat}{G:GS}{m:CM}{l lo:List HT}{on oc:Nat}{a s:HT}
set_option maxHeartbeats 1000000 in
theorem wQ(h:CV w F c k G m)(hT:tJ w)(hD:G.D.length<=49)(qw:k<=1000)(zy:HS w O on lo)(hon:on<=5000)(hc:cI G.D G.P s l)
 (lH:(∃x∈s::lo,x∉ids G.D)->∀w',Kept Nil w w'->K (.tuple #[.slice none 0 0,.int .i64 6]) w')
 (hK:(∀x∈s::lo,x∈ids G.D)->∀A n cx w',HS w' A n (iH G l++s::(cR k G s lo).merge)->Kept Nil w w'->K (.tuple #[.slice A n cx,.int .i64 0]) w'):
 bu prog jv.id #[.pointer (some ⟨c,0,none⟩),.agg s.1,.slice O on oc] w K:=by
 have H:=h.fg;refine jv.of ?_;unfold jv.W;intro w1;have k1:Kept Nil w w1:=(Kept.refl _ _).alloc _;have sO:w1.heap[w.heap.size]? =some (.cells s.1 ah (0,0)):=aI w _;clear_value w1;refine⟨s.1,⟨s.2.1,Cells.bI sO⟩,s.2.1,?_⟩;intro w2;have k2:Kept Nil w1 w2:=(Kept.refl _ _).alloc _;have fD:bK w2 w1.heap.size (some ⟨w1.heap.size,0,none⟩) 1 1 [s]:=yA w1 s (Nat.le_refl _);clear_value w2;have js:=k1.tt k2;have s2:=k2.size;obtain⟨A3,c3,w3,ry,jR,g3,_⟩:=ct ay fD (cx:=oc) (zy.same js) (by omega) s2;have ru:Kept Nil w1 w3:=Kept.dA k2 g3 (fun j hj=>(Row.bI fD hj).1);have jY:=k1.tt ru;refine⟨A3,_,c3,w3,ry,?_⟩;refine mn (h.same jY) (by omega) (bK.hs jR) (by omega) fun w4 k4=>⟨_,rfl,?_⟩;have mW:=jY.tt k4;have G9:=ru.tt k4;by_cases hm:∃x∈s::lo,x∉ids G.D
 ·obtain⟨x,hx,PJ⟩:=hm
  rw [sj (show x∈ [s]++lo from hx) PJ];exact Split.yes rfl (lH ⟨x,hx,PJ⟩ w4 mW)
 ·have fJ:∀x∈s::lo,x∈ids G.D:=fun x hx=>Classical.byContradiction fun e=>hm ⟨x,hx,e⟩
  have hs:=fJ s List.mem_cons_self;rw [pQ (show ∀x∈ [s]++lo,x∈ids G.D from fJ)];have Hb:=G9.heap sO (fun h=>h);refine Split.no rfl ⟨s.1,⟨s.2.1,Cells.bI Hb⟩,?_⟩;refine tY (h.same mW) (by omega) s hc (fun e=>absurd hs e) fun _ A5 c5 w5 jr k5=>⟨A5,_,c5,_,rfl,s.1,⟨s.2.1,Cells.bI (k5.heap Hb (fun h=>h))⟩,?_⟩;have nQ:=mW.tt k5;have Ky:kZ G.D (s::lo)=0:=by
   unfold kZ;rw [if_neg (by simp),if_neg (fun⟨x,hx,e⟩=>e (fJ x hx))]
  refine Df (h.same nQ) (hT.same nQ) hD qw (zy.same nQ) hon (fun e=>absurd Ky e) fun _ w6 A6 n6 c6 E6 e6 d6 S6 _ k6 fr6=>⟨_,_,rfl,?_⟩;have qS:=nQ.tt k6;intro w7;obtain⟨t1,t2,t3⟩:=uW w6 (cR k G s lo) A6 n6 c6 E6 e6 d6;refine⟨t1,?_⟩;intro w8 w9
  replace t2:w8.heap[w6.heap.size]? =some (.cells (cQ (cR k G s lo) A6 n6 c6 E6 e6 d6) bn (0,0)):=t2
  replace t3:Kept Nil w6 w8:=t3
  have k9:Kept Nil w8 w9:=(Kept.refl _ _).drew;clear_value w9;have t29:=k9.heap t2 (fun h=>h);have BW:=t3.tt k9;clear_value w8;have CH:=k6.tt BW;have zt:=nQ.tt CH;refine⟨s.1,⟨s.2.1,Cells.bI ((k5.tt CH).heap Hb (fun h=>h))⟩,A6,n6,c6,(fO t29).2.2.1,s.2.1,?_⟩;intro w10;have lh:Kept Nil w9 w10:=(Kept.refl _ _).alloc _;have QP:HS w10 (some ⟨w9.heap.size,0,none⟩) 1 [s]:=iL w9 s;clear_value w10;have Z0:=BW.tt lh;have TD:=CH.tt lh;refine⟨(fO (lh.heap t29 (fun h=>h))).2.2.1,?_⟩;have oN:bK w10 w4.heap.size A5 (iH G l).length c5 (iH G l):=Row.aF jr TD (fun _ _ h=>h);have RN:=Ec H hc;have X3:=zT (d:=G.D.length) (by omega) (Nat.le_refl _);have s4:=mW.size;have s5:=k5.size;have ag3:=TD.size;obtain⟨Xy,c11,nM,P5,tT,g11,adm⟩:=ct ay oN (cx:=1) QP (by omega) (by omega);have tm:Kept (fun j=>a8 A5=some j) w10 nM:=Kept.grown (Kept.refl _ _) g11 fun j hj _=>hj;have b5:∀j,a8 A5=some j->w4.heap.size<=j/\j<w5.heap.size:=fun j hj=>by
   obtain⟨h1,cur,jy⟩:=Row.bI jr hj;exact⟨h1,aQ jy⟩
  have lo9:=aQ t29;have s6:=k6.size;have PK:=tm.heap (lh.heap t29 (fun h=>h)) (fun e=>by have:=b5 _ e;omega);refine⟨Xy,_,c11,nM,P5,(fO PK).2.2.1,?_⟩;have OY:HS nM A6 n6 (cR k G s lo).merge:=(S6.same Z0).aF tm (fun a ha e=>by have:=b5 _ e;have:=fr6 a ha;omega);have hvs:=(tN k s (lo:=lo) (fun y hy=>fJ y (List.mem_cons_of_mem _ hy))).1;have hn6:=S6.len;have Zn:=tm.size;obtain⟨YZ,YM,lL,I8,pC,g12,akF⟩:=ct ay tT (cx:=c6) OY (by omega) (by omega);have wI:Kept (fun j=>a8 Xy=some j) nM lL:=Kept.grown (Kept.refl _ _) g12 fun j hj _=>hj;refine⟨YZ,_,YM,lL,I8,hK fJ YZ _ YM lL ?_ ?_⟩
  ·have:=pC.hs
   rwa [List.append_assoc]at this
  ·have s09:=zt.size
   exact((zt.tt lh).trans tm (fun j hj e=>by have:=b5 _ e;omega)).trans wI (fun j hj e=>by have:=(Row.bI tT e).1;omega)
end
section
variable{w w' v:World}{K:Value->World->Prop}{B n cx q n1 c1 e1 d1:Nat}{A A1 E1:Option Addr}{F:Nat->Prop}{r x k:Nat}{G:GS}{l out:List HT}{C:ou}{a:HT}
theorem R3.Xg(h:R3 w F r x k G):∃A c,w.cell? ((⟨r,0,none⟩:Addr).add 2)=some (.slice A G.D.length c)/\qL w F A G.D.length G.qK:=by
 obtain⟨A,c,B,e,g1,g2,_⟩:=h.top;exact⟨A,c,by rw [br,aD g1];rfl,g2⟩
theorem R3.W9(h:R3 w F r x k G)(ha:a∈ids G.D):∃aa ca A1 n1 c1 B1 m1 d1,w.cell? ((⟨r,0,none⟩:Addr).add 2)=some (.slice (some aa) G.D.length ca)/\(0<=yn G.D a/\yn G.D a<(G.D.length:Int))/\
 Cells w (aa.add ((yn G.D a).toNat*35)) (cQ (G.gF a) A1 n1 c1 B1 m1 d1)/\HS w A1 n1 (G.gF a).merge/\Bo w B1 m1 (G.gF a).fh/\F aa.block/\(∀b,A1=some b->F b.block):=by
 obtain⟨nd,h1,h2,rfl⟩:=ES ha;obtain⟨A,c,q,hA⟩:=h.Xg;have dV:=(lgeS h2).1;obtain⟨cc,x5⟩:∃cc,G.qK[(yn G.D nd.id).toNat]? =some cc:=⟨_,List.getElem?_eq_getElem (by rw [h.fg.lc];exact dV)⟩;have BD:=GS.JN h.fg.W h2 x5;obtain⟨aa,A1,n1,c1,B1,m1,d1,z1,z2,z3,z4,z5,z6,z7,_⟩:=hA.at_ _ _ x5;subst z1;rw [BD];exact⟨aa,c,A1,n1,c1,B1,m1,d1,q,⟨h1,by omega⟩,z4,z5,z6,z3,z7⟩
theorem Dp(hx:v.heap[q]? =some (.cells (cQ C A1 n1 c1 E1 e1 d1) bn (0,0)))(row:bK v B A n cx out)(hm:HS v A1 n1 C.merge)(hB:B<=v.heap.size)(hq:a8 A≠some q)
 (hA1:∀b,A1=some b->b.block<v.heap.size/\a8 A≠some b.block) (hn:n+n1+1<=1000000) {Z:Option Addr->Nat->Nat->World->Prop}
 (hZ:∀A' c' u,bK u B A' (n+1+n1) c' (out++C.iY::C.merge)->Kept (fun j=>a8 A=some j) v u->(∀j,a8 A'=some j->a8 A=some j\/v.heap.size<=j)->Z A' (n+1+n1) c' u):
 ∃j1:Array Value,(j1.size=32/\Cells v ((⟨q,0,none⟩:Addr).add 0) j1)/\j1.size=32/\∃(m1:Option Addr) (n1 o1:Nat) (p1:World),(Builtin.append_ #[ay,ay] ay #[.slice A n cx,.slice (some (⟨v.heap.size,0,none⟩:Addr)) 1 1]).run prog (v.alloc (.cells (j1.toList++ []).toArray ah))=.ok (.slice m1 n1 o1) p1/\
  ∃q1:Option Addr,∃r1 t1:Nat,p1.cell? ((⟨q,0,none⟩:Addr).add 33)=some (.slice q1 r1 t1)/\∃(u1:Option Addr) (v1 x1:Nat) (y1:World),(Builtin.append_ #[ay,ay] ay #[.slice m1 n1 o1,.slice q1 r1 t1]).run prog p1=.ok (.slice u1 v1 x1) y1/\Z u1 v1 x1 y1:=by
 have k0:Kept Nil v (v.alloc (.cells (C.iY.1.toList++ []).toArray ah)):=(Kept.refl _ _).alloc _;have hb:=iL v C.iY;refine⟨C.iY.1,⟨C.iY.2.1,(fO hx).1⟩,C.iY.2.1,?_⟩;generalize v.alloc (.cells (C.iY.1.toList++ []).toArray ah)=w1 at k0 hb⊢;have s1:=k0.size;have lq:=aQ hx;have lN:bK w1 B A n cx out:=Row.aF row k0 (fun _ _ h=>h);obtain⟨A2,c2,w2,jF,fD,g2,NX⟩:=ct ay lN (cx:=1) hb (by omega) (by omega);have k2:Kept (fun j=>a8 A=some j) w1 w2:=Kept.grown (Kept.refl _ _) g2 fun j hj _=>hj;have s2:=k2.size;have M8:=k2.heap (k0.heap hx (fun h=>h)) hq;refine⟨A2,_,c2,w2,jF,A1,n1,c1,(fO M8).2.2.1,?_⟩;have RQ:HS w2 A1 n1 C.merge:=(hm.same k0).aF k2 (fun b hb e=>(hA1 b hb).2 e);obtain⟨A3,c3,w3,ry,jR,g3,hA3⟩:=ct ay fD (cx:=c1) RQ (by omega) (by omega);have k3:Kept (fun j=>a8 A2=some j) w2 w3:=Kept.grown (Kept.refl _ _) g3 fun j hj _=>hj;refine⟨A3,_,c3,w3,ry,hZ A3 c3 w3 ?_ ?_ ?_⟩
 ·rw [List.append_assoc]at jR
  exact jR
 ·refine((k0.mono fun _ _ h=>h.elim).tt k2).trans k3 (fun j hj e=>?_)
  rcases NX j e with e|e
  ·exact e
  ·omega
 ·intro j hj
  rcases hA3 j hj with e|e
  ·rcases NX j e with e|e
   ·exact .inl e
   ·exact .inr (by omega)
  ·exact .inr (by omega)
set_option maxHeartbeats 1000000 in
theorem pF(h:R3 w F r x k G)(hD:G.D.length<=300)(a:HT)(hc:cI G.D G.P a l)(hK:∀A cx w',bK w' w.heap.size A (iH G l).length cx (iH G l)->Kept Nil w w'->K (.slice A (iH G l).length cx) w'):
 bu prog aU.id #[.pointer (some ⟨r,0,none⟩),.agg a.1] w K:=by
 have H:=h.fg;refine aU.of ?_;unfold aU.W;intro w1 w2;have k1:Kept Nil w w1:=(Kept.refl _ _).alloc _;have yZ:w1.heap[w.heap.size]? =some (.cells a.1 ah (0,0)):=aI w _;have k2:Kept Nil w1 w2:=(Kept.refl _ _).drew;clear_value w2;have Hg:=k2.heap yZ (fun h=>h);have js:=k1.tt k2;clear_value w1;have h2:=h.same js;refine Is.mk rfl ⟨_,h2.c1,a.1,⟨a.2.1,Cells.bI Hg⟩,?_⟩;refine HX h2.X (by omega) a fun Au cu w3 l' tB Zr k3=>⟨Au,_,cu,rfl,?_⟩;have:=tB.one H.W H.iY hc;subst this;have jY:=js.tt k3;have hll:l'.length<=G.D.length:=hc.Ij H.iY;rw [gQ (by omega) (by omega)];have Zp:=jY.size;have s2:=js.size;have Tc:∀j,F j->j<w.heap.size:=h.lo;refine aU.cy (I:=fun s v=>Kept Nil w3 v/\((l'= []/\s=(none,0,0,-2))\/∃(j:Nat) (A:Option Addr) (cx:Nat),s=(A,(iH G (l'.drop j)).length,cx,(j:Int)-1)/\j+1<=l'.length/\bK v w3.heap.size A (iH G (l'.drop j)).length cx (iH G (l'.drop j)))) (μ:=fun s _=>(s.2.2.2+1).toNat) (s:=(none,0,0,(l'.length:Int)-2)) ⟨Kept.refl _ _,?_⟩ ?_
 ·rcases Nat.eq_zero_or_pos l'.length with h0|h0
  ·exact .inl ⟨List.eq_nil_of_length_eq_zero h0,by rw [h0];rfl⟩
  ·have e0:=FN (G:=G) (l:=l') (fun e=>by rw [e]at h0;cases h0)
   refine .inr ⟨l'.length-1,none,0,?_,by omega,?_⟩
   ·rw [e0]
    simp only [List.length_nil,Prod.mk.injEq,true_and];omega
   ·rw [e0]
    exact bK.nil _ _
 rintro⟨A,_,cx,_⟩ v ⟨kv,hs⟩;have AY:=jY.tt kv;unfold aU.B1;rcases hs with⟨Bh,e⟩|⟨j,_,_,e,hj,row⟩
 ·cases e
  refine Split.no (by simp) ?_;rw [aR,aU.df];have:=hK none 0 v (by rw [Bh];exact bK.nil _ _) AY;rw [Bh]at this;exact this
 cases e;refine Split.dec (fun gH=>?_) (fun cU=>?_)
 ·simp only at gH
  have hjp:1<=j:=by omega
  have ej:((j:Int)-1)=((j-1:Nat):Int):=by omega
  obtain⟨y,hy⟩:∃y,l'[j-1]? =some y:=⟨_,List.getElem?_eq_getElem (by omega)⟩;have hyD:y∈ids G.D:=by
   obtain⟨i',j',ni,nj,g1,_,g3,g4,_⟩:=(hc.mem H.W H.iY).1 (List.mem_of_getElem? hy);exact dp.2 ⟨nj,List.mem_of_getElem? g3,g4⟩
  have IZ:=FO (G:=G) hy (by omega);rw [show j-1+1=j by omega]at IZ;intro w4;have k4:Kept Nil v w4:=(Kept.refl _ _).drew;clear_value w4;have nE:=kv.tt k4;have mW:=jY.tt nE;have h4:=h.same mW;obtain⟨aa,ca,A1,n1,c1,B1,m1,d1,z1,z2,z3,z4,_,z5,z6⟩:=h4.W9 hyD;have Hd:=z4.len;have ny:=(qy H hyD).1;have hl4:=(bK.hs Zr).same nE;have sv:=kv.size;have s4:=nE.size;have RN:(iH G (l'.drop j)).length<=300*301:=by
   rw [uO];have e1:(((l'.drop j).reverse.drop 1).flatMap (lr G)).length<=((l'.drop j).reverse.drop 1).length*(G.D.length+1):=by
    have key:∀m:List HT,(∀y∈m,y∈ids G.D)->(m.flatMap (lr G)).length<=m.length*(G.D.length+1):=by
     intro m
     induction m with
     |nil=>simp
     |cons z m ih=>
      intro hz;have h1:=(qy H (hz z List.mem_cons_self)).1;have h2:=ih (fun y hy=>hz y (List.mem_cons_of_mem _ hy));rw [List.flatMap_cons,List.length_append,List.length_cons,Nat.add_mul];have h3:(lr G z).length=(G.gF z).merge.length+1:=by simp [lr]
      omega
    refine key _ fun z hz=>?_;have h1:=List.mem_of_mem_drop (List.mem_reverse.1 (List.mem_of_mem_drop hz));obtain⟨i',j',ni,nj,g1,_,g3,g4,_⟩:=(hc.mem H.W H.iY).1 h1;exact dp.2 ⟨nj,List.mem_of_getElem? g3,g4⟩
   refine Nat.le_trans e1 (Nat.mul_le_mul ?_ (by omega));simp only [List.length_drop,List.length_reverse];omega
  have fin:∀ {u:World} {q:Nat},u.heap[q]? =some (.cells (cQ (G.gF y) A1 n1 c1 B1 m1 d1) bn (0,0))->Kept Nil w4 u->w4.heap.size<=q->
   ∃j1:Array Value,(j1.size=32/\Cells u ((⟨q,0,none⟩:Addr).add 0) j1)/\j1.size=32/\∃(m1:Option Addr) (n1 o1:Nat) (p1:World),(Builtin.append_ #[ay,ay] ay #[.slice A (iH G (l'.drop j)).length cx,.slice (some (⟨u.heap.size,0,none⟩:Addr)) 1 1]).run prog (u.alloc (.cells (j1.toList++ []).toArray ah))=.ok (.slice m1 n1 o1) p1/\
    ∃q1:Option Addr,∃r1 t1:Nat,p1.cell? ((⟨q,0,none⟩:Addr).add 33)=some (.slice q1 r1 t1)/\∃(u1:Option Addr) (v1 x1:Nat) (y1:World),(Builtin.append_ #[ay,ay] ay #[.slice m1 n1 o1,.slice q1 r1 t1]).run prog p1=.ok (.slice u1 v1 x1) y1/\
     bQ (aU.e1 (some ⟨r,0,none⟩) none 0 0 Au l'.length cu) (fun s v=>Kept Nil w3 v/\((l'= []/\s=(none,0,0,-2))\/∃(j:Nat) (A:Option Addr) (cx:Nat),s=(A,(iH G (l'.drop j)).length,cx,(j:Int)-1)/\j+1<=l'.length/\bK v w3.heap.size A (iH G (l'.drop j)).length cx (iH G (l'.drop j)))) (fun s _=>(s.2.2.2+1).toNat) (A,(iH G (l'.drop j)).length,cx,((j-1:Nat):Int)) v (aU.q1 K) .normal [(0,.pointer (some ⟨r,0,none⟩)),(4,.slice none 0 0),(5,.slice u1 v1 x1),(6,.slice Au l'.length cu),(7,.int .i64 (i64.wrap (((j-1:Nat):Int)-1)))] y1:=by
   intro u q hx ku hqv;have O3:=k4.tt ku;have vn:bK u w3.heap.size A (iH G (l'.drop j)).length cx (iH G (l'.drop j)):=Row.aF row O3 (fun _ _ h=>h);have su:=ku.size;have bA:∀i,a8 A=some i->w3.heap.size<=i/\i<v.heap.size:=fun i hi=>by
    obtain⟨h1,cur,jy⟩:=Row.bI row hi;exact⟨h1,aQ jy⟩
   have sk4:=k4.size;refine Dp hx vn (z4.same ku) (by omega) (fun e=>by have:=bA _ e;omega) (fun b hb=>⟨by have:=Tc _ (z6 b hb);omega,fun e=>by have:=bA _ e;have:=Tc _ (z6 b hb);omega⟩) (by omega) fun A' c' u' OQ k' EK=>?_;rw [gQ (by omega) (by omega)];have el:(iH G (l'.drop (j-1))).length=(iH G (l'.drop j)).length+1+n1:=by
    rw [IZ,List.length_append];simp only [lr,List.length_cons];omega
   have SJ:bK u' w3.heap.size A' (iH G (l'.drop (j-1))).length c' (iH G (l'.drop (j-1))):=by
    rw [el,IZ];exact OQ
   refine⟨(A',(iH G (l'.drop j)).length+1+n1,c',((j-1:Nat):Int)-1),rfl,⟨(kv.tt O3).trans k' (fun i hi e=>by have:=bA i e;omega),.inr ⟨j-1,A',c',?_,by omega,SJ⟩⟩,by simp only;omega⟩;rw [el]
  obtain⟨ad,KD,_,qH⟩:=hl4.at_ (j-1) y hy;subst KD;simp-zeta only [ej];have Du:∀ {u:World},Kept Nil w4 u->Cells u (aa.add ((yn G.D y).toNat*35)) (cQ (G.gF y) A1 n1 c1 B1 m1 d1):=fun ku=>Cells.aF z3 ku (fun h=>h);have hR:∀ {u:World},Kept Nil w4 u->R3 u F r x k G:=fun ku=>h4.same ku;have rd:∀ {u:World},Kept Nil w4 u->u.cell? ((⟨r,0,none⟩:Addr).add 2)=some (.slice (some aa) G.D.length ca):=fun ku=>ku.cell z1 (fun h=>h);refine Is.mk rfl ⟨_,_,ca,z1,Is.mk rfl ⟨_,h4.c1,Is.mk rfl ?_⟩⟩;refine⟨⟨by omega,by omega⟩,Is.mk rfl ⟨y.1,⟨y.2.1,by rw [Int.toNat_natCast];exact qH⟩,?_,?_⟩⟩
  ·rw [add_zero]
   refine mc h4.X.gr (by omega) y fun w5 k5=>⟨_,rfl,rd k5,z2,Is.mk rfl ⟨_,⟨aZ ..,Du k5⟩,?_⟩⟩;intro w6;have k6:Kept Nil w5 w6:=(Kept.refl _ _).alloc _;obtain⟨t1,t2,t3⟩:=uW w5 (G.gF y) A1 n1 c1 B1 m1 d1;have Ej:=k5.tt k6;refine⟨⟨_,rfl,aZ ..,Du Ej⟩,rd Ej,t1,?_⟩;exact fin t2 (k5.tt t3) k5.size
  ·intro w5
   have k5:Kept Nil w4 w5:=(Kept.refl _ _).alloc _;have M7:w5.heap[w4.heap.size]? =some (.cells zC bn (0,0)):=aI w4 _;clear_value w5;refine⟨⟨_,rfl,y.2.1,by rw [Int.toNat_natCast];exact Cells.aF qH k5 (fun h=>h)⟩,(hR k5).c1,rd k5,?_⟩;rw [add_zero];refine mc (hR k5).X.gr (by omega) y fun w6 k6=>?_;have Ej:=k5.tt k6;obtain⟨t1,t2,t3⟩:=dG (k6.heap M7 (fun h=>h)) (cs:=cQ (G.gF y) A1 n1 c1 B1 m1 d1) (by rw [aZ];rfl);refine⟨_,rfl,rd Ej,z2,Is.mk rfl ⟨_,⟨aZ ..,Du Ej⟩,⟨aZ ..,dJ _ _ _ _ _ _ _,fun j hj=>t1 j (by rw [aZ];exact hj)⟩,?_⟩⟩;exact fin t2 (Ej.trans t3 (fun j hj e=>by omega)) (Nat.le_refl _)
 ·simp only at cU
  have hj0:j=0:=by omega
  subst hj0;rw [aR,aU.df];unfold aU.cV;rw [List.drop_zero]at row⊢;exact hK A cx v (Row.base row (fun i hi=>by have:=(Row.bI row hi).1;omega)) AY
end
section
variable{r a b c:HT}(yS:r≠a)(wY:r≠b)(Ex:r≠c)(lI:a≠b)(EJ:a≠c)(Ca:b≠c)
include yS wY Ex lI EJ Ca in
theorem ZU(cU:cU b a=true){G1 G2 G3:GS}(h1:dz 0 (dm r) a [r]=G1)(h2:dz 0 G1 b [r]=G2)(h3:dz 0 G2 c [a,b]=G3){l:List HT}(hc:cI G3.D G3.P c l):c∈ids G3.D/\iH G3 l= [r,a,b]:=by
 obtain⟨G1',G2',e1,e2,_,_,H2,_,D2,_,_,_,_,_,aa,_,ar⟩:=ZV yS wY lI 0;rw [h1]at e1;subst e1;rw [h2]at e2;subst e2;obtain⟨c3,hR⟩:=kG3 yS wY Ex lI EJ Ca cU h1 h2;have H3:iD 0 G3:=by rw [<-h3];exact H2.add c [a,b]
 have D3:G3.D= [⟨r,[]⟩,⟨a,[r]⟩,⟨b,[r]⟩,⟨c,dw [a,b]⟩]:=by rw [<-h3,p9,D2];exact(k3 Ex lI EJ Ca).2
 unfold nY at hR;rw [if_pos c3]at hR;have VT:G3.gF c=⟨a,2,[b],[false]⟩:=by rw [<-h3,(og H2 c3).1];exact hR
 have nz:c∈ids G3.D:=by rw [D3];simp [ids]
 have ham:a∈ids G3.D:=by rw [D3];simp [ids]
 have hrm:r∈ids G3.D:=by rw [D3];simp [ids]
 refine⟨nz,?_⟩;have W3:=H3.W;have S3:=H3.iY;have SN:∀s,nJ G3.D s a->s=r:=by
  rintro s ⟨nd,hn,hid,hp⟩;rw [D3]at hn;simp only [List.mem_cons,List.not_mem_nil,or_false]at hn;rcases hn with rfl|rfl|rfl|rfl
  ·exact absurd hid yS
  ·simpa using hp
  ·exact absurd hid lI.symm
  ·exact absurd hid EJ.symm
 have HV:G3.D[0]? =some ⟨r,[]⟩:=by rw [D3];rfl
 rcases vy H3 nz hc with⟨_,⟨nd,h0,hid⟩,_⟩|⟨s,l2,rfl,hs,vT,KB,eo⟩
 ·rw [HV]at h0
  cases h0;exact absurd hid Ex
 have es:s=a:=by
  have:=(H3.up s c hs).1;rw [VT]at this;exact this.symm
 subst es;rcases vy H3 ham KB with⟨_,⟨nd,h0,hid⟩,_⟩|⟨t,l3,rfl,ht,X0,QH,eo2⟩
 ·rw [HV]at h0
  cases h0;exact absurd hid yS
 have et:t=r:=SN t (ht.par S3);subst et;rcases vy H3 hrm QH with⟨eo3,_,_⟩|⟨u,l4,rfl,hu,_,_,_⟩
 rotate_left
 ·exact absurd (fy.one (hu.par S3)) (Ar H3 HV u)
 have hma:(G3.gF s).merge= []:=by
  rw [List.eq_nil_iff_forall_not_mem];intro y hy;obtain⟨_,_,_,_,hm⟩:=H3.up t s ht;obtain⟨rN,uE,Cc⟩:=(hm y).1 hy;rcases rN with rN;obtain⟨p,hp,hor⟩:∃p,nJ G3.D p s/\(y=p\/fy G3.D y p):=by
   cases rN with
   |one hp=>exact⟨_,hp,.inl rfl⟩
   |more ha hp=>exact⟨_,hp,.inr ha⟩
  have:=SN p hp;subst this;rcases hor with h|h
  ·exact uE h
  ·exact Cc h
 rw [eo,eo2,eo3,hma,VT];rfl
end
section
variable{w w':World}{K:Value->World->Prop}
set_option maxHeartbeats 1000000 in
theorem CF(hT:tJ w)(hK:∀w',Kept Nil w w'->K (.bool true) w'):bu prog gL.id #[] w K:=by
 let r:=hx 1 (by omega)
 let a:=hx 3 (by omega)
 let b:=hx 2 (by omega)
 let c:=hx 4 (by omega)
 have yS:r≠a:=tq (by omega);have wY:r≠b:=tq (by omega);have Ex:r≠c:=tq (by omega);have lI:a≠b:=tq (by omega);have EJ:a≠c:=tq (by omega);have Ca:b≠c:=tq (by omega);have abA:cU b a=true:=by decide
 refine gL.of ?_;unfold gL.W;intro w1 w2 w3 w4;obtain⟨⟨f1,f2,f3,f4⟩,hr,ha,hb,hc,l1,l2,l3,l4,k⟩:=four w r a b c;refine⟨⟨r.2.1,r.2.one,f1⟩,?_⟩;intro w7;refine⟨⟨a.2.1,a.2.one,f2⟩,?_⟩;intro w10;refine⟨⟨b.2.1,b.2.one,f3⟩,?_⟩;intro mz;refine⟨⟨c.2.1,c.2.one,f4⟩,?_⟩;intro jM
 replace hr:jM.heap[w.heap.size]? =some (.cells r.1 ah (0,0)):=hr
 replace ha:jM.heap[w1.heap.size]? =some (.cells a.1 ah (0,0)):=ha
 replace hb:jM.heap[w2.heap.size]? =some (.cells b.1 ah (0,0)):=hb
 replace hc:jM.heap[w3.heap.size]? =some (.cells c.1 ah (0,0)):=hc
 replace k:Kept Nil w jM:=k
 replace l1:w.heap.size<w1.heap.size:=l1
 replace l2:w1.heap.size<w2.heap.size:=l2
 replace l3:w2.heap.size<w3.heap.size:=l3
 replace l4:w3.heap.size<jM.heap.size:=l4
 clear f1 f2 f3 f4;clear_value jM;clear mz w10 w7;clear_value w3;clear w4;clear_value w2;clear_value w1;have hTl:=hT.lt;have Sx:=k.size;have box:∀ {u:World} {S:Nat->Prop},Kept S jM u->(∀k,S k->jM.heap.size<=k)->Cells u (⟨w.heap.size,0,none⟩:Addr) r.1/\Cells u (⟨w1.heap.size,0,none⟩:Addr) a.1/\Cells u (⟨w2.heap.size,0,none⟩:Addr) b.1/\Cells u (⟨w3.heap.size,0,none⟩:Addr) c.1:=fun ku hS=>
  ⟨Cells.bI (ku.heap hr (fun e=>by have:=hS _ e;omega)),Cells.bI (ku.heap ha (fun e=>by have:=hS _ e;omega)),Cells.bI (ku.heap hb (fun e=>by have:=hS _ e;omega)),Cells.bI (ku.heap hc (fun e=>by have:=hS _ e;omega))⟩
 obtain⟨G1,G2,e1,e2,c1,c2,H2,D1,D2,_⟩:=ZV yS wY lI 0;obtain⟨G3,e3⟩:∃G3,dz 0 G2 c [a,b]=G3:=⟨_,rfl⟩;have D3:G3.D= [⟨r,[]⟩,⟨a,[r]⟩,⟨b,[r]⟩,⟨c,dw [a,b]⟩]:=by rw [<-e3,p9,D2];exact(k3 Ex lI EJ Ca).2
 refine⟨r.1,⟨r.2.1,Cells.bI hr⟩,iI r (k:=0) (by omega) fun pf cc q m C hm hq xW=>⟨_,_,rfl,Split.no rfl (Split.no rfl ?_)⟩⟩;obtain⟨b1,b2,b3,b4⟩:=box xW (fun _ h=>h.elim);refine⟨a.1,⟨a.2.1,b2⟩,r.1,⟨r.2.1,b1⟩,r.2.1,?_⟩;intro mu;have pT:Kept Nil pf mu:=(Kept.refl _ _).alloc _;have L6:HS mu (some ⟨pf.heap.size,0,none⟩) 1 [r]:=iL pf r;clear_value mu;have CK:=xW.tt pT;have XB:=CK.size;refine mN (C.same pT) (hT.same (k.tt CK)) (fun e=>by have:=hm _ (.inl e);omega) (by simp [dm]) (by omega) L6 (by omega) a fun o9 F2 m2 A2 n2 p2 E2 q2 z2 C2 _ AT RQ _ _ _ _ _=>⟨_,_,rfl,?_⟩;rw [e1]at C2;have Zy:∀j,m2.own cc j->jM.heap.size<=j:=fun j e=>(RQ j e).elim (hm j) (fun h=>by omega);have MW:Kept (fun q=>jM.heap.size<=q) jM o9:=(CK.mono (S':=fun q=>jM.heap.size<=q) (fun _ _ h=>h.elim)).trans AT (fun q _ h=>hm q h);obtain⟨b1,b2,b3,b4⟩:=box MW (fun _ h=>h);refine⟨b.1,⟨b.2.1,b3⟩,r.1,⟨r.2.1,b1⟩,r.2.1,?_⟩;intro Hw;have MT:Kept Nil o9 Hw:=(Kept.refl _ _).alloc _;have Wm:HS Hw (some ⟨o9.heap.size,0,none⟩) 1 [r]:=iL o9 r;clear_value Hw;have IE:=MW.trans MT (fun _ _ h=>h.elim);have s31:=IE.size;refine mN (C2.same MT) ((hT.same k).aF IE (fun e=>by omega)) (fun e=>by have:=Zy _ (.inl e);omega) (by rw [D1];simp) (by omega) Wm (by omega) b fun sM F3 m3 A3 n3 p3 E3 q3 z3 C3 _ CI hm3 _ _ _ _ _=>⟨_,_,rfl,?_⟩;rw [e2]at C3;have om3:∀j,m3.own cc j->jM.heap.size<=j:=fun j e=>(hm3 j e).elim (Zy j) (fun h=>by omega);have MV:Kept (fun q=>jM.heap.size<=q) jM sM:=IE.trans CI (fun q _ h=>Zy q h);obtain⟨b1,b2,b3,b4⟩:=box MV (fun _ h=>h)
 refine⟨c.1,⟨c.2.1,b4⟩,a.1,⟨a.2.1,b2⟩,b.1,⟨b.2.1,b3⟩,a.2.1,b.2.1,?_⟩;intro G4;have Iu:Kept Nil sM G4:=(Kept.refl _ _).alloc _;have L5:HS G4 (some ⟨sM.heap.size,0,none⟩) 2 [a,b]:=HS.lay (l:= [a,b]) (t:=ah) (aI sM (.cells (c9 [a,b]).toArray ah));clear_value G4;have ID:=MV.trans Iu (fun _ _ h=>h.elim);have s39:=ID.size;refine mN (C3.same Iu) ((hT.same k).aF ID (fun e=>by omega)) (fun e=>by have:=om3 _ (.inl e);omega) (by rw [D2];simp) (by omega) L5 (by omega) c fun Ov F4 m4 A4 n4 p4 E4 q4 z4 C4 _ Pd _ _ _ _ _ _=>⟨_,_,rfl,?_⟩;rw [e3]at C4;have IC:Kept (fun q=>jM.heap.size<=q) jM Ov:=ID.trans Pd (fun q _ h=>om3 q h);have s41:=IC.size;obtain⟨b1,b2,b3,b4⟩:=box IC (fun _ h=>h);refine⟨c.1,⟨c.2.1,b4⟩,?_⟩;obtain⟨l,hl⟩:=cI.ex C4.fg.iY c;obtain⟨nz,RN⟩:=ZU yS wY Ex lI EJ Ca abA e1 e2 e3 hl;refine tY C4 (by rw [D3];simp) c hl (fun e=>absurd nz e) fun _ A5 c5 E0 jr It=>⟨A5,_,c5,_,rfl,?_⟩;rw [RN]at jr⊢;intro Km;have XQ:Kept Nil E0 Km:=(Kept.refl _ _).drew;clear_value Km;have TF:=It.tt XQ;have MU:=IC.trans TF (fun _ _ h=>h.elim);obtain⟨b1,b2,b3,b4⟩:=box MU (fun _ h=>h);have hs:=(bK.hs jr).same XQ;refine Split.yes rfl (Split.yes rfl ?_);refine hs.load (i:=0) (x:=r) (by omega) rfl ⟨r.1,⟨r.2.1,b1⟩,⟨r.2.ints,r.2.ints⟩,?_⟩;rw [dO];refine Split.yes (decide_eq_true rfl) ?_;refine hs.load (i:=1) (x:=a) (by omega) rfl ⟨a.1,⟨a.2.1,b2⟩,⟨a.2.ints,a.2.ints⟩,?_⟩;rw [dO];refine Split.yes (decide_eq_true rfl) ?_;refine hs.load (i:=2) (x:=b) (by omega) rfl ⟨b.1,⟨b.2.1,b3⟩,⟨b.2.ints,b.2.ints⟩,?_⟩;rw [dO,decide_eq_true rfl]
 exact hK Km (k.trans MU (fun q hq e=>by omega))
end
section
variable{w w' v:World}{S F FP FR:Nat->Prop}{c r x:Nat}{G:GS}{m:CM}{K:Value->World->Prop}
set_option maxHeartbeats 2000000 in
theorem Dz{A:Option Addr}{n cx:Nat}{l:List DN}(hl:NS w FP A n l)(hn:n<9223372036854775808)(kk:Int)(root:HT)(hT:tJ w)
 (lH:∀v,Kept Nil w v->K (.tuple #[.pointer none,.pointer none,.bool false,.bool true]) v)
 (hK:∀v F c m FR r x (k:Nat),kk=(k:Int)->k<=6->adw l 18->lv v F c m FR r x k (Dw k root l)->Kept Nil w v->(∀j,m.own c j\/F j\/FR j\/j=r\/j=x->w.heap.size<=j)->K (.tuple #[.pointer (some ⟨c,0,none⟩),.pointer (some ⟨r,0,none⟩),.bool true,.bool true]) v):
 bu prog aA.id #[.int .i64 kk,.agg root.1,.slice A n cx] w K:=by
 have hlen:=hl.len;refine aA.of ?_;unfold aA.W;intro w1;have k1:Kept Nil w w1:=(Kept.refl _ _).alloc _;have yY:w1.heap[w.heap.size]? =some (.cells root.1 ah (0,0)):=aI w _;clear_value w1;refine Split.dec (fun _=>lH w1 k1) (fun Kz=>Split.dec (fun _=>lH w1 k1) (fun mX=>Split.dec (fun _=>lH w1 k1) (fun UU=>?_)));have UU:n<=18:=by omega
 refine aA.cy (I:=fun s v=>v=w1/\∃i:Nat,s=(none,none,false,false,(i:Int))/\i<=n/\∀nd∈l.take i,nd.ps.length<=6) (μ:=fun s _=>((n:Int)-s.2.2.2.2).toNat) (s:=(none,none,false,false,0)) ⟨rfl,0,rfl,Nat.zero_le _,by simp⟩ ?_;rintro s v ⟨rfl,i,rfl,hi,di⟩;unfold aA.B1;refine Split.dec (fun jN=>?_) (fun gH=>?_)
 ·simp only at jN
  have dV:i<n:=by omega
  obtain⟨nd,gB⟩:∃nd,l[i]? =some nd:=⟨_,List.getElem?_eq_getElem (by omega)⟩;refine(hl.same k1).ps (i:=(i:Int)) (by omega) (by rw [Int.toNat_natCast];exact gB) fun pA pn pc qU _=>?_;have rL:=qU.len;refine Split.dec (fun xZ=>lH v k1) (fun hle=>?_);simp only;rw [gQ (x:=(i:Int)+1) (by omega) (by omega)];refine⟨(none,none,false,false,(i:Int)+1),rfl,⟨rfl,i+1,rfl,dV,fun md hm=>?_⟩,by simp only;omega⟩;rw [List.take_add_one,gB]at hm;simp only [Option.toList_some,List.mem_append,List.mem_singleton]at hm;rcases hm with hm|rfl
  ·exact di md hm
  ·omega
 simp only at gH;rw [aR,aA.df];unfold aA.cV;rw [List.take_of_length_le (by omega)]at di;obtain⟨k,rfl⟩:∃k':Nat,kk=(k':Int):=⟨kk.toNat,by omega⟩;have hk6:k<=6:=by omega
 have qU:∀nd∈l,nd.ps.length<=1000:=fun nd h=>by have:=di nd h;omega
 have hn:=UU;refine⟨root.1,⟨root.2.1,Cells.bI yY⟩,?_⟩;refine iI root (by omega) fun w2 c q m C hm hq k2=>⟨_,_,rfl,Split.no rfl (Split.no rfl ⟨root.1,⟨root.2.1,Cells.bI (k2.heap yY (fun h=>h))⟩,?_⟩)⟩;refine yD root k fun w3 r x FR R hFR hr hx k3=>⟨_,rfl,?_⟩;have s1:=k1.size;have s2:=k2.size;have jY:=(k1.tt k2).tt k3;have B0:lv w3 (· =q) c m FR r x k (dm root):=⟨C.same k3,R,fun j hj=>by
  have gH:w2.heap.size<=j:=by rcases hj with rfl|rfl;exact hr;exact hx
  exact⟨fun e=>by have:=C.low j (.inl e);omega,fun e=>by have:=C.low j (.inr e);omega⟩,fun j hj e=>by have:=hFR j hj;have:=C.low j (.inl e);omega⟩
 refine aA.iq (I:=fun s v=>∃(i:Nat) (F:Nat->Prop) (m:CM) (FR:Nat->Prop),s=(none,none,false,false,(i:Int))/\i<=n/\lv v F c m FR r x k ((l.take i).foldl (fun G s=>dz k G s.id s.ps) (dm root))/\Kept Nil w v/\∀j,m.own c j\/F j\/FR j\/j=r\/j=x->w.heap.size<=j) (μ:=fun s _=>((n:Int)-s.2.2.2.2).toNat) (s:=(none,none,false,false,0)) ⟨0,(· =q),m,FR,rfl,Nat.zero_le _,B0,jY,fun j e=>by
  rcases e with e|e|e|e|e
  ·have:=hm j e;omega
  ·have e:j=q:=e;omega
  ·have:=hFR j e;omega
  ·omega
  ·omega⟩ ?_
 clear B0 hFR hm C R hq k2 k3;rintro s v ⟨i,F,m,FR,rfl,hi,B,kv,C7⟩;unfold aA.B2;refine Split.dec (fun cU=>?_) (fun gH=>?_)
 ·simp only at cU
  have dV:i<n:=by omega
  obtain⟨nd,gB⟩:∃nd,l[i]? =some nd:=⟨_,List.getElem?_eq_getElem (by omega)⟩;have uD:l[((i:Nat):Int).toNat]? =some nd:=by rw [Int.toNat_natCast];exact gB
  have rL:=qU nd (List.mem_of_getElem? gB);have Ng:=Di (k:=k) (G:=dm root) gB;have Yw:=tC k (l.take i) (dm root);rw [List.length_take]at Yw;have hD1:(dm root).D.length=1:=rfl;generalize hG:(l.take i).foldl (fun G s=>dz k G s.id s.ps) (dm root)=G at B Ng Yw;have hTl:=hT.lt;have oF:=B.low;have sv:=kv.size;have j2:∀ {u:World} {F' YW:Nat->Prop} {m':CM},lv u F' c m' YW r x k (dz k G nd.id nd.ps)->Kept Nil w u->(∀j,m'.own c j\/F' j\/YW j\/j=r\/j=x->w.heap.size<=j)->
   aA.J2 A n cx none none false false (some ⟨c,0,none⟩) (some ⟨r,0,none⟩) (i:Int) (dF G.D nd.id nd.ps) (dF G.D nd.id nd.ps) (bQ (aA.e2 A n cx (some ⟨c,0,none⟩) (some ⟨r,0,none⟩)) (fun s v=>∃(i:Nat) (F:Nat->Prop) (m:CM) (FR:Nat->Prop),s=(none,none,false,false,(i:Int))/\i<=n/\lv v F c m FR r x k ((l.take i).foldl (fun G s=>dz k G s.id s.ps) (dm root))/\Kept Nil w v/\∀j,m.own c j\/F j\/FR j\/j=r\/j=x->w.heap.size<=j) (fun s _=>((n:Int)-s.2.2.2.2).toNat) (none,none,false,false,(i:Int)) v (aA.q2 K)) u:=by
   intro u F' YW m' B' ku ab1;unfold aA.J2;refine Split.no (by simp) ?_;rw [dW (n:=(i:Int)) (by omega) (by omega)];refine⟨(none,none,false,false,(i:Int)+1),rfl,⟨i+1,F',m',YW,rfl,dV,?_,ku,ab1⟩,by simp only;omega⟩;rw [Ng];exact B'
  have j1:∀ {u u0:World} {F':Nat->Prop} {m':CM},CV u0 F' c k (dz k G nd.id nd.ps) m'->Kept (m.own c) v u0->(∀j,m'.own c j->m.own c j\/v.heap.size<=j)->(∀j,F' j->F j\/v.heap.size<=j)->Kept Nil u0 u->
   aA.J1 A n cx none none false false (some ⟨c,0,none⟩) (some ⟨r,0,none⟩) (i:Int) (dF G.D nd.id nd.ps) (bQ (aA.e2 A n cx (some ⟨c,0,none⟩) (some ⟨r,0,none⟩)) (fun s v=>∃(i:Nat) (F:Nat->Prop) (m:CM) (FR:Nat->Prop),s=(none,none,false,false,(i:Int))/\i<=n/\lv v F c m FR r x k ((l.take i).foldl (fun G s=>dz k G s.id s.ps) (dm root))/\Kept Nil w v/\∀j,m.own c j\/F j\/FR j\/j=r\/j=x->w.heap.size<=j) (fun s _=>((n:Int)-s.2.2.2.2).toNat) (none,none,false,false,(i:Int)) v (aA.q2 K)) u:=by
   intro u u0 F' m' hC k0 nv Jy ku;unfold aA.J1;have ZM:Kept Nil w u0:=kv.trans k0 (fun j hj e=>by have:=C7 j (.inl e);omega);have Rv:Kept Nil w u:=ZM.tt ku;have suv:=k0.size;have suu:=ku.size;intro u1;have F9:Kept Nil u u1:=(Kept.refl _ _).drew;clear_value u1;have F6:=Rv.tt F9;have Zn:=F9.size;have TX:∀ {t:World},Kept Nil w t->Cells t (((A.get!).add (((i:Nat):Int).toNat*33)).add 0) nd.id.1:=by
    intro t kt;obtain⟨a,pA,pn,pc,rfl,_,_,h4,_,_⟩:=(hl.aF kt (fun _ _ h=>h)).at_ i nd gB;intro j z hj;rw [add_zero,Int.toNat_natCast];exact h4 j z (vu hj)
   have ps1:∃a pA pn pc,A=some a/\HS w pA pn nd.ps/\∀ {t:World},Kept Nil w t->t.cell? ((a.add (((i:Nat):Int).toNat*33)).add 32)=some (.slice pA pn pc):=by
    obtain⟨a,pA,pn,pc,rfl,_,_,h4,h5,_⟩:=hl.at_ i nd gB;exact⟨a,pA,pn,pc,rfl,h5,fun kt=>by rw [Int.toNat_natCast];exact kt.cell (h4 32 _ (qq _ _)) (fun h=>h)⟩
   obtain⟨a,pA,pn,pc,rfl,CY,qH⟩:=ps1;have LC:=CY.len;have hb:0<=(i:Int)/\(i:Int)<(n:Int):=⟨by omega,by omega⟩;refine⟨hb,Is.mk rfl ⟨nd.id.1,⟨nd.id.2.1,TX F6⟩,hb,Is.mk rfl ⟨pA,pn,pc,qH F6,?_,?_⟩⟩⟩
   ·obtain⟨hR,QS⟩:=B.after k0 nv Jy hC (ku.tt F9)
    refine vp hR (by omega) (by omega) (CY.same F6) (by omega) nd.id fun t A2 n2 p2 E2 e2 q2 hRt kt RQ lT acR=>⟨_,_,rfl,?_⟩;have B':=QS t hRt kt;have st:=kt.size;intro t1;have kt1:Kept Nil t t1:=(Kept.refl _ _).alloc _;have M9:t1.heap[t.heap.size]? =some (.cells zC bn (0,0)):=aI t _;clear_value t1;obtain⟨z1,z2,z3⟩:=dG M9 (cs:=cQ (nY k G nd.id nd.ps) A2 n2 p2 E2 e2 q2) (by rw [aZ];rfl);refine⟨⟨aZ ..,dJ _ _ _ _ _ _ _,fun j hj=>z1 j (by rw [aZ];exact hj)⟩,?_⟩;have kt2:Kept Nil t (setCells t1 ⟨t.heap.size,0,none⟩ (cQ (nY k G nd.id nd.ps) A2 n2 p2 E2 e2 q2).toList 0):=kt1.trans z3 (fun j hj e=>by omega);refine aA.qT (j2 (B'.same kt2) (F6.trans (kt.trans kt2 (fun _ _ h=>h.elim)) (fun j hj e=>by have:=C7 j (.inr (.inr (.inr e)));omega)) fun j e=>?_);rcases e with e|e|(e|e)|e
    ·rcases nv j e with e|e
     ·exact C7 j (.inl e)
     ·omega
    ·rcases Jy j e with e|e
     ·exact C7 j (.inr (.inl e))
     ·omega
    ·exact C7 j (.inr (.inr (.inl e)))
    ·omega
    ·exact C7 j (.inr (.inr (.inr e)))
   ·intro u2
    have Kp:Kept Nil u1 u2:=(Kept.refl _ _).alloc _;have M8:u2.heap[u1.heap.size]? =some (.cells zC bn (0,0)):=aI u1 _;clear_value u2;have La:=F6.tt Kp;have s22:=Kp.size;refine⟨qH La,⟨_,rfl,nd.id.2.1,TX La⟩,?_⟩;obtain⟨hR,QS⟩:=B.after k0 nv Jy hC ((ku.tt F9).tt Kp);refine vp hR (by omega) (by omega) (CY.same La) (by omega) nd.id fun t A2 n2 p2 E2 e2 q2 hRt kt RQ lT acR=>⟨_,_,rfl,?_⟩;have B':=QS t hRt kt;have st:=kt.size;have nrx:∀j,v.heap.size<=j->¬(j=r\/j=x):=fun j hj e=>by have:=oF j (.inr (.inr (.inr e)));omega
    have hxt:=kt.heap M8 (nrx _ (by omega));obtain⟨z1,z2,z3⟩:=dG hxt (cs:=cQ (nY k G nd.id nd.ps) A2 n2 p2 E2 e2 q2) (by rw [aZ];rfl);refine⟨⟨aZ ..,dJ _ _ _ _ _ _ _,fun j hj=>z1 j (by rw [aZ];exact hj)⟩,?_⟩;have lo0:∀j,m'.own c j\/F' j->j<u1.heap.size:=fun j e=>by have:=hC.low j e;omega
    have B2:lv (setCells t ⟨u1.heap.size,0,none⟩ (cQ (nY k G nd.id nd.ps) A2 n2 p2 E2 e2 q2).toList 0) F' c m' (fun j=>FR j\/(u2.heap.size<=j/\j<t.heap.size)) r x k (dz k G nd.id nd.ps):=B'.aF z3 (fun j e e'=>by
     have l1:=aQ M8;rcases e with e|e|(e|e)|e
     ·have:=lo0 j (.inl e);omega
     ·have:=lo0 j (.inr e);omega
     ·have:=B.R.lo j e;omega
     ·omega
     ·have:=oF j (.inr (.inr (.inr e)));omega)
    have kut:Kept (fun j=>j=r\/j=x) u t:=((F9.tt Kp).mono fun _ _ h=>h.elim).tt kt;have ahS:Kept (fun j=>j=r\/j=x) u _:=kut.trans z3 (fun j hj e=>by omega);refine aA.qT (j2 B2 ((La.trans kt (fun j hj e=>by have:=C7 j (.inr (.inr (.inr e)));omega)).trans z3 (fun j hj e=>by have:=F6.size;omega)) fun j e=>?_)
    ·rcases e with e|e|(e|e)|e
     ·rcases nv j e with e|e
      ·exact C7 j (.inl e)
      ·omega
     ·rcases Jy j e with e|e
      ·exact C7 j (.inr (.inl e))
      ·omega
     ·exact C7 j (.inr (.inr (.inl e)))
     ·omega
     ·exact C7 j (.inr (.inr (.inr e)))
  intro w2;have k2:Kept Nil v w2:=(Kept.refl _ _).drew;clear_value w2;have Tl:=kv.tt k2;have sv2:=k2.size;have TX:∀ {t:World},Kept Nil w t->Cells t ((A.get!.add (((i:Nat):Int).toNat*33)).add 0) nd.id.1:=by
   intro t kt;obtain⟨a,pA,pn,pc,rfl,_,_,h4,_,_⟩:=(hl.aF kt (fun _ _ h=>h)).at_ i nd gB;intro j z hj;rw [add_zero,Int.toNat_natCast];exact h4 j z (vu hj)
  obtain⟨a,pA,pn,pc,hA,CY,qH⟩:∃a pA pn pc,A=some a/\HS w pA pn nd.ps/\∀ {t:World},Kept Nil w t->t.cell? ((a.add (((i:Nat):Int).toNat*33)).add 32)=some (.slice pA pn pc):=by
   obtain⟨a,pA,pn,pc,hA,_,_,h4,h5,_⟩:=hl.at_ i nd gB;exact⟨a,pA,pn,pc,hA,h5,fun kt=>by rw [Int.toNat_natCast];exact kt.cell (h4 32 _ (qq _ _)) (fun h=>h)⟩
  subst hA;have LC:=CY.len;have hb:0<=(i:Int)/\(i:Int)<(n:Int):=⟨by omega,by omega⟩;have KE:¬m.SX (Tryz.jX.g 1):=fun e=>by have:=C7 _ (.inl (.inl e));omega
  refine⟨hb,Is.mk rfl ⟨nd.id.1,⟨nd.id.2.1,TX Tl⟩,hb,Is.mk rfl ⟨pA,pn,pc,qH Tl,?_,?_⟩⟩⟩
  ·refine mN (B.C.same k2) (hT.same Tl) KE (by omega) (by omega) (CY.same Tl) (by omega) nd.id fun u F' m' A1 n1 p1 E1 e1 q1 hC _ ku nv Jy rA rE _ _=>⟨_,_,rfl,?_⟩
   intro u1;have F9:Kept Nil u u1:=(Kept.refl _ _).alloc _;have M9:u1.heap[u.heap.size]? =some (.cells zC bn (0,0)):=aI u _;clear_value u1;obtain⟨z1,z2,z3⟩:=dG M9 (cs:=cQ (nY k G nd.id nd.ps) A1 n1 p1 E1 e1 q1) (by rw [aZ];rfl);refine⟨⟨aZ ..,dJ _ _ _ _ _ _ _,fun j hj=>z1 j (by rw [aZ];exact hj)⟩,?_⟩;have Kp:Kept Nil u (setCells u1 ⟨u.heap.size,0,none⟩ (cQ (nY k G nd.id nd.ps) A1 n1 p1 E1 e1 q1).toList 0):=F9.trans z3 (fun j hj e=>by omega);have su:=ku.size;refine aA.oP (j1 hC ((k2.mono fun _ _ h=>h.elim).tt ku) (fun j e=>(nv j e).imp (fun h=>h) (fun h=>by omega)) (fun j e=>(Jy j e).imp (fun h=>h) (fun h=>by omega)) Kp)
  ·intro w3
   have k3:Kept Nil w2 w3:=(Kept.refl _ _).alloc _;have BZ:w3.heap[w2.heap.size]? =some (.cells zC bn (0,0)):=aI w2 _;clear_value w3;have MM:=Tl.tt k3;have s23:=k3.size;have l3:=aQ BZ;refine⟨qH MM,⟨_,rfl,nd.id.2.1,TX MM⟩,?_⟩;refine mN (B.C.same (k2.tt k3)) (hT.same MM) KE (by omega) (by omega) (CY.same MM) (by omega) nd.id fun u F' m' A1 n1 p1 E1 e1 q1 hC _ ku nv Jy rA rE _ _=>⟨_,_,rfl,?_⟩;have su:=ku.size;have hxu:=ku.heap BZ (fun e=>by have:=oF _ (.inl e);omega);obtain⟨z1,z2,z3⟩:=dG hxu (cs:=cQ (nY k G nd.id nd.ps) A1 n1 p1 E1 e1 q1) (by rw [aZ];rfl);refine⟨⟨aZ ..,dJ _ _ _ _ _ _ _,fun j hj=>z1 j (by rw [aZ];exact hj)⟩,?_⟩;have no1:∀j,m'.own c j->j≠w2.heap.size:=fun j e e'=>by
    rcases nv j e with e|e
    ·have:=oF j (.inl e);omega
    ·omega
   have no2:∀j,F' j->j≠w2.heap.size:=fun j e e'=>by
    rcases Jy j e with e|e
    ·have:=oF j (.inr (.inl e));omega
    ·omega
   refine aA.oP (j1 (hC.aF z3 no1 no2) ((((k2.tt k3).mono fun _ _ h=>h.elim).tt ku).trans z3 (fun j hj e=>by omega)) (fun j e=>(nv j e).imp (fun h=>h) (fun h=>by omega)) (fun j e=>(Jy j e).imp (fun h=>h) (fun h=>by omega)) (Kept.refl _ _))
 ·simp only at gH
  have:i=n:=by omega
  subst this;rw [aR,aA.kL];rw [List.take_of_length_le (by omega)]at B;exact hK v F c m FR r x k rfl hk6 ⟨di,by omega⟩ B kv C7
end
section
variable{w w' v:World}{F FP FR:Nat->Prop}{c r x k:Nat}{G:GS}{m:CM}{K:Value->World->Prop}{O:Option Addr}{on oc:Nat}{lo:List HT}{s:HT}
set_option maxHeartbeats 2000000 in
theorem Cj{A:Option Addr}{n cx:Nat}{l:List DN}(hl:NS w FP A n l)(hn:n<9223372036854775808)(k:Int)(root s:HT)(ho:HS w O on lo)(hT:tJ w)(hK:∀w',Kept Nil w w'->K (.bool true) w'):
 bu prog fc.id #[.int .i64 k,.agg root.1,.slice A n cx,.agg s.1,.slice O on oc] w K:=by
 have hlen:=hl.len;refine fc.of ?_;unfold fc.W;intro w0 w1;have k0:Kept Nil w w0:=(Kept.refl _ _).alloc _;have sC:w0.heap[w.heap.size]? =some (.cells root.1 ah (0,0)):=aI w _;have XR:Kept Nil w0 w1:=(Kept.refl _ _).alloc _;have sO:w1.heap[w0.heap.size]? =some (.cells s.1 ah (0,0)):=aI w0 _;clear_value w1;have mU:=XR.heap sC (fun h=>h);have k1:=k0.tt XR;generalize Ha:w0.heap.size=sb at sO;clear_value w0;have kn:∀ {v:World},Kept Nil w v->bu prog gL.id #[] v fun v3 w_4=>∃t:Bool,v3=.bool t/\K (.bool t) w_4:=fun k=>CF (hT.same k) fun w4 k4=>⟨true,rfl,hK w4 (k.tt k4)⟩;refine⟨root.1,⟨root.2.1,Cells.bI mU⟩,?_⟩;refine Dz (hl.same k1) hn k root (hT.same k1) (fun v kv=>⟨_,_,false,true,rfl,Split.yes rfl (Split.yes rfl (kn (k1.tt kv)))⟩) fun w2 F c m FR r x k hk hk6 ab5 B k2 _=>⟨_,_,true,true,rfl,Split.no rfl (Split.no rfl ?_)⟩;have Yw:=Dv k root l;have hf2:=ab5.2;generalize Dw k root l=G at B Yw;have js:=k1.tt k2;have H:=B.C.fg;have W:=H.W;refine Split.dec (fun _=>Split.yes rfl (kn js)) (fun ai4=>?_);have hon:on<=6:=by omega
 have U8:=ho.len;have uS:=k2.heap sO (fun h=>h);refine⟨s.1,⟨s.2.1,Cells.bI uS⟩,?_⟩;obtain⟨ch,nH⟩:=cI.ex H.iY s;have RN:=Ec H nH;have X3:G.D.length*(G.D.length+1)<=40*41:=Nat.mul_le_mul (by omega) (by omega);have mid:∀ {v:World} {Z:Prop},Kept Nil w2 v->(∀A3 c3 w3 w4,Kept Nil v w3->Kept Nil w3 w4->(Builtin.append_ #[ay,ay] ay #[.slice (some (⟨v.heap.size,0,none⟩:Addr)) 1 1,.slice O on oc]).run prog (v.alloc (.cells (s.1.toList++ []).toArray ah))=.ok (.slice A3 (1+on) c3) w3->HS w3 A3 (1+on) (s::lo)->w4=w3->Z)->Z:=by
  intro v Z kv hz;have fD:bK _ v.heap.size (some ⟨v.heap.size,0,none⟩) 1 1 [s]:=yA v s (Nat.le_refl _);have yM:Kept Nil v (v.alloc (.cells (s.1.toList++ []).toArray ah)):=(Kept.refl _ _).alloc _;obtain⟨A3,c3,w3,ry,jR,g3,_⟩:=ct ay fD (cx:=oc) (ho.same ((js.tt kv).tt yM)) (by omega) yM.size;exact hz A3 c3 w3 w3 (Kept.dA yM g3 (fun j hj=>(Row.bI fD hj).1)) (Kept.refl _ _) ry (bK.hs jR) rfl
 refine wQ B.C (hT.same js) (by omega) (by omega) (ho.same js) (by omega) nH (fun lH v kv=>⟨none,0,0,6,rfl,?_⟩) fun fJ Ax nx cx' v hx kv=>⟨Ax,nx,cx',0,rfl,?_⟩
 ·have Gj:=kv.heap uS (fun h=>h)
  have AY:=js.tt kv;refine⟨s.1,⟨s.2.1,Cells.bI Gj⟩,s.2.1,?_⟩;refine mid kv fun A3 c3 w3 _ k3 _ ry h3 _=>?_;intro w3';refine⟨A3,_,c3,w3,ry,?_⟩;have jY:=AY.tt k3;have hm:kZ G.D (s::lo)≠0:=fun e=>by
   obtain⟨x,hx,e'⟩:=lH;exact e' ((ti e).2 x hx)
  refine rX (B.same (kv.tt k3)).R (by omega) h3 (by omega) fun w5 k5=>⟨_,rfl,Split.yes (by simpa using hm) (Split.yes rfl (Split.yes rfl (kn (jY.tt k5))))⟩
 ·have Gj:=kv.heap uS (fun h=>h)
  have AY:=js.tt kv;have hs:=fJ s List.mem_cons_self;have dV:∀y∈lo,y∈ids G.D:=fun y hy=>fJ y (List.mem_cons_of_mem _ hy);refine⟨s.1,⟨s.2.1,Cells.bI Gj⟩,s.2.1,?_⟩;refine mid kv fun A3 c3 w3 _ k3 _ ry h3 _=>?_;intro w3';refine⟨A3,_,c3,w3,ry,?_⟩;have Ky:kZ G.D (s::lo)=0:=by
   unfold kZ;rw [if_neg (by simp),if_neg (fun⟨x,hx,e⟩=>e (fJ x hx))]
  have Kq:=kv.tt k3;refine rX (B.same Kq).R (by omega) h3 (by omega) fun w5 k5=>⟨_,rfl,Split.no (by rw [Ky];rfl) ?_⟩;have yK:=k3.tt k5;have zr:=Kq.tt k5;have nQ:=js.tt zr;refine⟨s.1,⟨s.2.1,Cells.bI (yK.heap Gj (fun h=>h))⟩,?_⟩;refine qO (B.same zr).R (by omega) (by omega) hs (ho.same nQ) (by omega) dV fun w6 A6 n6 c6 E6 e6 d6 W6 nw cw r6 b6 _ k6=>⟨_,W6,nw,cw,rfl,?_⟩;intro w7;obtain⟨t1,t2,t3⟩:=uW w6 (cR k G s lo) A6 n6 c6 E6 e6 d6;refine⟨t1,?_⟩;intro w8 w9
  replace t2:w8.heap[w6.heap.size]? =some (.cells (cQ (cR k G s lo) A6 n6 c6 E6 e6 d6) bn (0,0)):=t2
  replace t3:Kept Nil w6 w8:=t3
  have k9:Kept Nil w8 w9:=(Kept.refl _ _).drew;clear_value w9;have t29:=k9.heap t2 (fun h=>h);have BW:=t3.tt k9;clear_value w8;have CH:=k6.tt BW;have G8:=zr.tt CH;have zt:=js.tt G8;have O4:=yK.tt CH;have X8:=O4.heap Gj (fun h=>h);have B9:=B.same G8;have hvs:=(tN k s dV).1;have S6:=bK.hs r6;have hn6:=S6.len;have l9:=aQ t29;have b6':∀a,A6=some a->a.block<w6.heap.size:=fun a ha=>by
   obtain⟨_,cur,jy⟩:=Row.bI r6 (k:=a.block) (by rw [ha];rfl);exact aQ jy
  have s69:=BW.size;have fin:∀ {u:World} {A5 ad:Option Addr} {c5 B5:Nat},Kept Nil w9 u->bK u B5 A5 (iH G ch).length c5 (iH G ch)->w9.heap.size<=B5->B5<=u.heap.size->HS u ad 1 [s]->(∀a,ad=some a->a8 A5≠some a.block)->
   ∃(ej:Option Addr) (fj gj:Nat) (ij:World),(Builtin.append_ #[ay,ay] ay #[.slice A5 (iH G ch).length c5,.slice ad 1 1]).run prog u=.ok (.slice ej fj gj) ij/\ij.cell? ((⟨w6.heap.size,0,none⟩:Addr).add 33)=some (.slice A6 n6 c6)/\
    ∃(jj:Option Addr) (kj mj:Nat) (nj:World),(Builtin.append_ #[ay,ay] ay #[.slice ej fj gj,.slice A6 n6 c6]).run prog ij=.ok (.slice jj kj mj) nj/\
     Split ((0:Int)==(0:Int)) (bu prog bZ.id #[.slice Ax nx cx',.slice jj kj mj] nj fun oj pj=>∃qj:Bool,oj=.bool qj/\Split qj (bu prog gL.id #[] pj fun rj tj=>∃uj:Bool,rj=.bool uj/\K (.bool uj) tj) (K (.bool false) pj)) (K (.bool false) nj):=by
   intro u A5 ad c5 B5 ku jr hB9 hBu hsa _;have su:=ku.size;obtain⟨Xy,c11,nM,P5,tT,g11,adm⟩:=ct ay jr (cx:=1) hsa (by omega) hBu;have b5:∀j,a8 A5=some j->B5<=j:=fun j hj=>(Row.bI jr hj).1;have tm:Kept (fun j=>a8 A5=some j) u nM:=Kept.grown (Kept.refl _ _) g11 fun j hj _=>hj;have Zn:=tm.size;have PK:=tm.heap (ku.heap t29 (fun h=>h)) (fun e=>by have:=b5 _ e;omega);refine⟨Xy,_,c11,nM,P5,(fO PK).2.2.1,?_⟩;have OY:HS nM A6 n6 (cR k G s lo).merge:=((S6.same BW).same ku).aF tm (fun a ha e=>by have:=b5 _ e;have:=b6' a ha;omega);obtain⟨YZ,YM,lL,I8,pC,g12,_⟩:=ct ay tT (cx:=c6) OY (by omega) (by omega);have wI:Kept (fun j=>a8 Xy=some j) nM lL:=Kept.grown (Kept.refl _ _) g12 fun j hj _=>hj;have Ga:Kept Nil w9 lL:=(ku.trans tm (fun j hj e=>by have:=b5 _ e;omega)).trans wI (fun j hj e=>by have:=(Row.bI tT e).1;omega);refine⟨YZ,_,YM,lL,I8,Split.yes rfl ?_⟩;have Bn:=pC.hs;rw [List.append_assoc]at Bn;have T4:=(hx.same O4).same Ga;have e12:=T4.len;rw [List.length_append,List.length_cons]at e12;refine FE T4 Bn (by omega) fun mz ru=>⟨_,rfl,Split.yes (decide_eq_true rfl) (kn ((zt.tt Ga).tt ru))⟩
  refine⟨s.1,⟨s.2.1,Cells.bI X8⟩,s.1,⟨s.2.1,Cells.bI X8⟩,A6,n6,c6,(fO t29).2.2.1,?_,s.2.1,?_⟩
  ·refine pF B9.R (by omega) s nH fun A5 c5 w10 oN lh=>⟨A5,_,c5,rfl,(fO (lh.heap t29 (fun h=>h))).2.2.1,⟨_,rfl,s.2.1,Cells.bI (lh.heap X8 (fun h=>h))⟩,s.2.1,?_⟩
   intro nM;have tm:Kept Nil w10 nM:=(Kept.refl _ _).alloc _;have acM:HS nM (some ⟨w10.heap.size,0,none⟩) 1 [s]:=iL w10 s;clear_value nM;have rr:=lh.tt tm;refine⟨(fO (rr.heap t29 (fun h=>h))).2.2.1,?_⟩;exact fin rr (Row.aF oN tm (fun _ _ h=>h)) (Nat.le_refl _) rr.size acM (fun a ha e=>by
    cases ha;obtain⟨_,cur,jy⟩:=Row.bI oN e;have:=aQ jy;simp only at this;omega)
  ·intro w10
   have lh:Kept Nil w9 w10:=(Kept.refl _ _).alloc _;have QP:HS w10 (some ⟨w9.heap.size,0,none⟩) 1 [s]:=iL w9 s;have Zo:w10.heap.size=w9.heap.size+1:=by show(w9.alloc _).heap.size=_;simp
   clear_value w10;refine⟨(fO (lh.heap t29 (fun h=>h))).2.2.1,⟨_,rfl,s.2.1,Cells.bI (lh.heap X8 (fun h=>h))⟩,?_⟩;refine pF (B9.same lh).R (by omega) s nH fun A5 c5 nM tT tm=>⟨A5,_,c5,rfl,?_⟩;have rr:=lh.tt tm;refine⟨(fO (rr.heap t29 (fun h=>h))).2.2.1,?_⟩;exact fin rr tT (by omega) tm.size (QP.same tm) (fun a ha e=>by
    cases ha;have:=(Row.bI tT e).1;simp only at this;omega)
end
end Go.Proofs.YtfleamccglihoaaGreatDoor
