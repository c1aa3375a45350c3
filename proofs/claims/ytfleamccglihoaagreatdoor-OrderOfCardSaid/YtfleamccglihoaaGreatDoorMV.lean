import Derived.Test.YtfleamccglihoaaGreatDoorMU
import Derived.Test.YtfleamccglihoaaGreatDoorMJ
import Derived.Test.YtfleamccglihoaaGreatDoorMT
import Derived.Test.YtfleamccglihoaaGreatDoorMI
import Derived.Test.YtfleamccglihoaaGreatDoorMG
import Derived.Test.YtfleamccglihoaaGreatDoorMN
open Go.IntKind (i64 u64)
set_option linter.unusedVariables false
namespace Go.Proofs.YtfleamccglihoaaGreatDoor
open Go.Proofs.Tryz
open Go Go.bW Go.RowKit
def adR(l:List DN)(Z2:Nat):Prop:=(∀nd∈l,nd.ps.length<=6)/\l.length<=Z2
noncomputable def nZ(k:Nat)(G:GS)(id:HT)(l:List HT):ou:=if dL G.D id l=0 then dg k G (cF G l) l else⟨eN,0,[],[]⟩
noncomputable def Dr(k:Nat)(root:HT)(l:List DN):GS:=l.foldl (fun G s=>dE k G s.id s.ps) (du root)
theorem Ke(k:Nat)(G:GS)(h:HT)(l:List HT):(dE k G h l).D.length<=G.D.length+1:=by
 rw [p8];unfold mY;split<;>simp
theorem tn(k:Nat):∀(l:List DN) (G:GS),(l.foldl (fun G s=>dE k G s.id s.ps) G).D.length<=G.D.length+l.length
 | [],_=>by simp
 |s::l,G=>by
  have h1:=tn k l (dE k G s.id s.ps);have h2:=Ke k G s.id s.ps;rw [List.foldl_cons,List.length_cons];omega
theorem Dq(k:Nat)(root:HT)(l:List DN):(Dr k root l).D.length<=1+l.length:=tn k l (du root)
theorem Dd{k:Nat}{G:GS}{l:List DN}{i:Nat}{s:DN}(h:l[i]? =some s):(l.take (i+1)).foldl (fun G s=>dE k G s.id s.ps) G=dE k ((l.take i).foldl (fun G s=>dE k G s.id s.ps) G) s.id s.ps:=by
 rw [List.take_add_one,h];simp
section
variable{w w' v:World}{S F FP FR:Nat->Prop}{c r x k:Nat}{G:GS}{m:CM}{K:Value->World->Prop}
theorem mM(h:CV w F c k G m)(hT:uA w)(KF:¬m.SX (Tryz.jV.g 1))(hD:G.D.length<=49)(rz:k<=1000){A:Option Addr}{n cx:Nat}{l:List HT}(G9:HS w A n l)(hn:n<=5000)(id:HT)
 (hK:∀w' F' m' A n c1 B e c2,CV w' F' c k (dE k G id l) m'->m'.x=m.x->Kept (m.own c) w w'->(∀j,m'.own c j->m.own c j\/w.heap.size<=j)->(∀j,F' j->F j\/w.heap.size<=j)->
   bI w' w.heap.size A n c1 (nZ k G id l).merge->Row w' w.heap.size gZ 1 B e c2 (sD (nZ k G id l).fK)->(∀j,bn A=some j->bn B≠some j)->(∀j,bn A=some j\/bn B=some j->¬m'.own c j/\¬F' j)->
   K (.tuple #[.agg (cS (nZ k G id l) A n c1 B e c2),.int .i64 (dL G.D id l)]) w'):
 bC prog dP.id #[.pointer (some ⟨c,0,none⟩),.agg id.1,.slice A n cx] w K:=by
 refine Gz h hT KF hD rz G9 hn id (fun he w' k'=>?_) (fun he w' F' m' A n c1 B e c2 h1 h2 h3 h4 h5 h6 h7 h8 h9=>?_)
 ·have e1:nZ k G id l=⟨eN,0,[],[]⟩:=if_neg he
  have:=hK w' F m none 0 0 none 0 0 (by rw [uQ he];exact h.same k') rfl (k'.mono fun _ _ h=>h.elim) (fun j h=>.inl h) (fun j h=>.inl h) (by rw [e1];exact bI.nil _ _) (by rw [e1];exact Row.nil _ _ _ _) (fun j hj=>(by cases hj)) (fun j hj=>by rcases hj with hj|hj<;>cases hj);rw [e1]at this;exact this
 ·have e1:nZ k G id l=dg k G (cF G l) l:=if_pos he
  have:=hK w' F' m' A n c1 B e c2 h1 h2 h3 h4 h5 (by rw [e1];exact h6) (by rw [e1];exact h7) h8 h9;rw [e1,he]at this;exact this
theorem vn(h:R3 w F r x k G)(hD:G.D.length<=300)(rz:k<=1000){A:Option Addr}{n cx:Nat}{l:List HT}(hl:HS w A n l)(hn:n<=5000)(id:HT)
 (hK:∀w' A n c B e ce,R3 w' (fun j=>F j\/(w.heap.size<=j/\j<w'.heap.size)) r x k (dE k G id l)->Kept (fun j=>j=r\/j=x) w w'->HS w' A n (nZ k G id l).merge->Bo w' B e (nZ k G id l).fK->(∀a,A=some a\/B=some a->w.heap.size<=a.block)->K (.tuple #[.agg (cS (nZ k G id l) A n c B e ce),.int .i64 (dL G.D id l)]) w'):
 bC prog dN.id #[.pointer (some ⟨r,0,none⟩),.agg id.1,.slice A n cx] w K:=by
 have LZ:=h.lt;have NK:=h.lx;refine yC h hD rz hl hn id (fun he w' k'=>?_) (fun he w' A n c B e ce h1 h2 h3 h4 h5=>?_)
 ·have e1:nZ k G id l=⟨eN,0,[],[]⟩:=if_neg he
  have h':=h.same k';have hs:=k'.size;obtain⟨A1,c1,B1,e1',g1,g2,g3⟩:=h'.top;have:=hK w' none 0 0 none 0 0 (by
   rw [uQ he];exact⟨⟨A1,c1,B1,e1',g1,g2.mono (fun j hj=>.inl hj),g3.mono (fun j hj=>.inl hj)⟩,h'.X.mono (fun j hj=>.inl hj) (fun e=>e.elim h.X.iG (fun e=>by omega)),fun e=>e.elim h.iG (fun e=>by omega),h.ne,h.fc,fun j e=>e.elim (h'.lo j) (fun e=>e.2)⟩) (k'.mono fun _ _ h=>h.elim) (by rw [e1];exact HS.nil _ _) (by rw [e1];exact⟨rfl,fun i b hi=>by simp at hi⟩) (fun a ha=>by rcases ha with ha|ha<;>cases ha)
  rw [e1]at this;exact this
 ·have e1:nZ k G id l=dg k G (cF G l) l:=if_pos he
  have:=hK w' A n c B e ce h1 h2 (by rw [e1];exact h3) (by rw [e1];exact h4) h5;rw [e1,he]at this;exact this
structure kO(w:World)(F:Nat->Prop)(c:Nat)(m:CM)(FR:Nat->Prop)(r x k:Nat)(G:GS):Prop where
 C:CV w F c k G m
 R:R3 w FR r x k G
 rS:∀j,j=r\/j=x->¬m.own c j/\¬F j
 fS:∀j,FR j->¬m.own c j
theorem kO.aF{S0:Nat->Prop}(B:kO w F c m FR r x k G)(hk:Kept S0 w w')(h1:∀j,m.own c j\/F j\/FR j\/j=r\/j=x->¬S0 j):kO w' F c m FR r x k G:=
 ⟨B.C.aF hk (fun j e=>h1 j (.inl e)) (fun j e=>h1 j (.inr (.inl e))),B.R.aF hk (h1 _ (.inr (.inr (.inr (.inl rfl))))) (h1 _ (.inr (.inr (.inr (.inr rfl))))) (fun j e=>h1 j (.inr (.inr (.inl e)))),B.rS,B.fS⟩
theorem kO.same(B:kO w F c m FR r x k G)(hk:Kept Nil w w'):kO w' F c m FR r x k G:=B.aF hk (fun _ _ h=>h)
theorem kO.low(B:kO w F c m FR r x k G):∀j,m.own c j\/F j\/FR j\/j=r\/j=x->j<w.heap.size:=fun j e=>by
 rcases e with e|e|e|e|e
 ·exact B.C.low j (.inl e)
 ·exact B.C.low j (.inr e)
 ·exact B.R.lo j e
 ·rw [e];exact B.R.lt
 ·rw [e];exact B.R.lx
theorem kO.after{F':Nat->Prop}{m':CM}{G':GS}(B:kO w F c m FR r x k G)(kv:Kept (m.own c) w v)(h1:∀j,m'.own c j->m.own c j\/w.heap.size<=j)(h2:∀j,F' j->F j\/w.heap.size<=j)(hC:CV v F' c k G' m'){u:World}(Pg:Kept Nil v u):
 R3 u FR r x k G/\∀t,R3 t (fun j=>FR j\/(u.heap.size<=j/\j<t.heap.size)) r x k G'->Kept (fun j=>j=r\/j=x) u t->kO t F' c m' (fun j=>FR j\/(u.heap.size<=j/\j<t.heap.size)) r x k G':=by
 have hr:=B.R.lt;have hx:=B.R.lx;have nr:∀j,j=r\/j=x->¬m'.own c j/\¬F' j:=fun j hj=>by
  have cY:j<w.heap.size:=by rcases hj with rfl|rfl;exact hr;exact hx
  refine⟨fun e=>?_,fun e=>?_⟩
  ·rcases h1 j e with e|e
   ·exact(B.rS j hj).1 e
   ·omega
  ·rcases h2 j e with e|e
   ·exact(B.rS j hj).2 e
   ·omega
 refine⟨(B.R.aF kv (fun e=>(B.rS r (.inl rfl)).1 e) (fun e=>(B.rS x (.inr rfl)).1 e) B.fS).same Pg,fun t hR kt=>⟨?_,hR,nr,fun j hj e=>?_⟩⟩
 ·exact(hC.same Pg).aF kt (fun j e e'=>(nr j e').1 e) (fun j e e'=>(nr j e').2 e)
 ·have oH:=hC.low j (.inl e)
  have:=Pg.size;rcases hj with hj|hj
  ·rcases h1 j e with e|e
   ·exact B.fS j hj e
   ·have:=B.R.lo j hj;omega
  ·omega
end
section
variable{w w' v:World}{S F FP FR:Nat->Prop}{c r x k:Nat}{G:GS}{m:CM}{K:Value->World->Prop}
end
section
variable{k:Nat}{G:GS}{s:HT}
theorem AB(G:GS)(s:HT):cR G s [s]= []:=by
 rw [List.eq_nil_iff_forall_not_mem];intro h hm;obtain⟨h1,h2,h3⟩:=ko.1 hm;rcases h1 with⟨_,p,hp,ha⟩|h1
 ·rw [List.mem_singleton]at hp;subst hp;exact h3 ha
 ·rw [List.mem_singleton]at h1;exact h2 h1
theorem qg(k:Nat)(G:GS)(s:HT):dg k G s [s]=⟨s,G.score s+1,[],[]⟩/\(fU k G s [s]).wd=G.world s++ [s]:=by
 unfold dg fU;rw [AB];exact⟨rfl,rfl⟩
variable{r a b c:HT}(yU:r≠a)(wY:r≠b)(Et:r≠c)(jT:a≠b)(EG:a≠c)(BX:b≠c)
include yU wY jT in
theorem kG2(k:Nat):∃G1 G2:GS,dE k (du r) a [r]=G1/\dE k G1 b [r]=G2/\dL (du r).D a [r]=0/\dL G1.D b [r]=0/\iH k G2/\G1.D= [⟨r,[]⟩,⟨a,[r]⟩]/\G2.D= [⟨r,[]⟩,⟨a,[r]⟩,⟨b,[r]⟩]/\G2.score a=1/\G2.score b=1/\G2.score r=0/\G2.world a= [r]/\G2.world b= [r]/\
 (∀x,fz G2.D x a↔x=r)/\(∀x,fz G2.D x b↔x=r)/\∀x,¬fz G2.D x r:=by
 have H0:=mC k r;have c1:dL (du r).D a [r]=0:=(k1 yU).1;have H1:=H0.add a [r];have D1:(dE k (du r) a [r]).D= [⟨r,[]⟩,⟨a,[r]⟩]:=by rw [p8];exact(k1 yU).2
 obtain⟨r1,r2⟩:=H0.root ⟨r,[]⟩ rfl
 replace r1:(du r).fZ r=_:=r1
 replace r2:(du r).world r=_:=r2
 have ti:r∈ids (du r).D:=by simp [du,ids]
 obtain⟨n1,n2⟩:=oh H0 c1;obtain⟨o1,o2⟩:=og (h:=a) (ps:= [r]) H0 ti
 replace n1:(dE k (du r) a [r]).fZ a=dg k (du r) r [r]:=n1
 replace n2:(dE k (du r) a [r]).world a=(fU k (du r) r [r]).wd:=n2
 rw [(qg k (du r) r).1]at n1;rw [(qg k (du r) r).2,r2]at n2;have sr:(du r).score r=0:=by unfold GS.score;rw [r1]
 rw [sr]at n1;rw [r1]at o1;rw [r2]at o2;generalize hG1:dE k (du r) a [r]=G1 at*;have c2:dL G1.D b [r]=0:=by rw [D1];exact(k2 wY jT).1
 have D2:(dE k G1 b [r]).D= [⟨r,[]⟩,⟨a,[r]⟩,⟨b,[r]⟩]:=by rw [p8,D1];exact(k2 wY jT).2
 have H2:=H1.add b [r];obtain⟨p1,p2⟩:=oh H1 c2
 replace p1:(dE k G1 b [r]).fZ b=dg k G1 r [r]:=p1
 replace p2:(dE k G1 b [r]).world b=(fU k G1 r [r]).wd:=p2
 rw [(qg k G1 r).1]at p1;rw [(qg k G1 r).2,o2]at p2;have sr1:G1.score r=0:=by unfold GS.score;rw [o1]
 rw [sr1]at p1;have mU:r∈ids G1.D:=by rw [D1];simp [ids]
 have y8:a∈ids G1.D:=by rw [D1];simp [ids]
 obtain⟨q1,_⟩:=og (h:=b) (ps:= [r]) H1 mU;obtain⟨q3,q4⟩:=og (h:=b) (ps:= [r]) H1 y8;have W2:=H2.W;have hr:∀x,¬fz (dE k G1 b [r]).D x r:=fun x h=>by
  obtain⟨p,hp,_⟩:=(sn W2 (i:=0) (nd:=⟨r,[]⟩) (by rw [D2];rfl) x).1 h;simp at hp
 have hx:∀(i:Nat) (y:HT),(dE k G1 b [r]).D[i]? =some ⟨y,[r]⟩->∀x,fz (dE k G1 b [r]).D x y↔x=r:=fun i y hi x=>by
  rw [sn W2 (i:=i) (nd:=⟨y,[r]⟩) hi x];constructor
  ·rintro⟨p,hp,e⟩
   rw [List.mem_singleton]at hp;subst hp;rcases e with e|e
   ·exact e
   ·exact absurd e (hr x)
  ·rintro rfl
   exact⟨x,by simp,.inl rfl⟩
 refine⟨G1,_,rfl,rfl,c1,c2,H2,D1,D2,?_,?_,?_,?_,p2,hx 1 a (by rw [D2];rfl),hx 2 b (by rw [D2];rfl),hr⟩
 ·unfold GS.score;rw [q3,n1]
 ·unfold GS.score;rw [p1]
 ·unfold GS.score;rw [q1,o1]
 ·rw [q4,n2];rfl
include yU wY Et jT EG BX in
theorem kG3(cY:cY b a=true){G1 G2:GS}(h1:dE 0 (du r) a [r]=G1)(h2:dE 0 G1 b [r]=G2):dL G2.D c [a,b]=0/\nZ 0 G2 c [a,b]=⟨a,2,[b],[false]⟩:=by
 obtain⟨G1',G2',e1,e2,_,_,H2,_,D2,sa,sb,_,wa,_,aa,ab,ar⟩:=kG2 yU wY jT 0;rw [h1]at e1;subst e1;rw [h2]at e2;subst e2;have c3:dL G2.D c [a,b]=0:=by rw [D2];exact(k3 Et jT EG BX).1
 refine⟨c3,?_⟩;unfold nZ;rw [if_pos c3];have QH:gl G2 a b=false:=by
  unfold gl;rw [sa,sb];cases h:Go.Proofs.YtfleamccglihoaaGreatDoor.cY a b
  ·rfl
  ·have:=kM h cY
   rw [iD]at this;cases this
 have nv:cF G2 [a,b]=a:=by
  show(if gl G2 a b then b else a)=a;rw [QH];rfl
 rw [nv];have hm:cR G2 a [a,b]= [b]:=by
  refine(sU (by simp [SO]) fun x=>?_).symm;rw [List.mem_singleton,vG];constructor
  ·rintro rfl
   exact⟨.inr (by simp),fun e=>jT e.symm,fun e=>wY ((aa x).1 e).symm⟩
  ·rintro⟨h|h,h3,h4⟩
   ·obtain⟨_,p,hp,hA⟩:=h
    simp at hp;rcases hp with rfl|rfl
    ·exact absurd hA h4
    ·exact absurd ((aa x).2 ((ab x).1 hA)) h4
   ·simp at h
    rcases h with h|h
    ·exact absurd h h3
    ·exact h
 have hb:oV 0 G2.D [r,a] b=false:=by
  unfold oV;rw [decide_eq_false_iff_not];rintro⟨h,_⟩;have:a∈bZ G2.D [r,a] b:=fO.2 ⟨by simp,jT,fun e=>yU ((ab a).1 e).symm,fun e=>wY ((aa b).1 e).symm⟩;have h0:bZ G2.D [r,a] b= []:=List.eq_nil_of_length_eq_zero (by omega);rw [h0]at this;simp at this
 unfold dg fU;rw [hm,wa,sa];have hf: [b].foldl (oO 0 G2.D) ⟨[r]++ [a],[]⟩=⟨[r,a],[false]⟩:=by
  show oO 0 G2.D ⟨[r,a],[]⟩ b=_
  unfold oO;rw [hb];rfl
 rw [hf];rfl
end
section
variable{w w':World}{K:Value->World->Prop}
end
section
variable{w w' v:World}{F FP FR:Nat->Prop}{c r x k:Nat}{G:GS}{m:CM}{K:Value->World->Prop}
theorem R3.graph(h:R3 w F r x k G):∃A c,w.cell? (((⟨x,0,none⟩:Addr).add 0).add 0)=some (.slice A G.D.length c)/\NS w F A G.D.length G.D:=by
 obtain⟨A,c,B,e,l,h1,h2,_⟩:=h.X.ex;exact⟨A,c,by rw [add_zero,add_zero,aD h1];rfl,h2⟩
end
section
variable{w v:World}{F FP FR:Nat->Prop}{c r x k:Nat}{G:GS}{m:CM}{K:Value->World->Prop}{O:Option Addr}{on oc:Nat}{lo:List HT}{s:HT}{sb xb:Nat}{xv:Array Value}
end
section
variable{k:Nat}{G:GS}{h:HT}{ps:List HT}
end
section
variable{k:Nat}{G G':GS}{s:HT}{l:List HT}
end
def jc(G:GS):List HT->List HT
 | []=> []
 | [_]=> []
 |x::y::l=>jc G (y::l)++((G.fZ x).iA::(G.fZ x).merge)
section
variable{k:Nat}{G:GS}{h:HT}{l:List HT}
theorem cI.cons{D:DG}{P:List Int}(W:jY D)(H:rF D P){h:HT}{l:List HT}(hm:h∈ids D)(c:cI D P h l):∃r,l=h::r:=by
 rcases c.inv W H hm with⟨e,_⟩|⟨_,r,e,_⟩
 ·exact⟨[],e⟩
 ·exact⟨r,e⟩
theorem vy(H:iH k G)(hm:h∈ids G.D)(c:cI G.D G.P h l):(jc G l= []/\(∃nd,G.D[0]? =some nd/\nd.id=h)/\l= [h])\/∃s r,l=h::r/\lu G.D G.P s h/\s∈ids G.D/\cI G.D G.P s r/\jc G l=jc G r++s::(G.fZ h).merge:=by
 rcases c.inv H.W H.iA hm with⟨rfl,e⟩|⟨s,r,rfl,hs,IY,cs⟩
 ·exact .inl ⟨rfl,e,rfl⟩
 ·obtain⟨r',rfl⟩:=cs.cons H.W H.iA IY
  refine .inr ⟨s,s::r',rfl,hs,IY,cs,?_⟩;show jc G (s::r')++((G.fZ h).iA::(G.fZ h).merge)=_
  rw [(H.up s h hs).1]
theorem Ao(H:iH k G){nd:DN}(h0:G.D[0]? =some nd)(a:HT):¬fz G.D a nd.id:=fun ha=>by
 rcases(sn H.W h0 a).1 ha with⟨p,hp,_⟩;obtain⟨j,_,hj,_⟩:=H.W.up 0 nd p h0 hp;omega
end
section
variable{k:Nat}{G:GS}{h:HT}{l:List HT}
def jO(G:GS)(x:HT):List HT:=(G.fZ x).iA::(G.fZ x).merge
theorem xI{x:HT}{l:List HT}(h:l≠ []):jc G (x::l)=jc G l++jO G x:=by
 cases l with
 |nil=>exact absurd rfl h
 |cons y l=>rfl
theorem uI:∀l:List HT,jc G l=(l.reverse.drop 1).flatMap (jO G)
 | []=>rfl
 | [x]=>rfl
 |x::y::l=>by
  have e:(x::y::l).reverse=(y::l).reverse++ [x]:=List.reverse_cons;rw [xI (by simp),uI (y::l),e,List.drop_append_of_le_length (by simp),List.flatMap_append];simp
theorem FL{l:List HT}{i:Nat}{x:HT}(hx:l[i]? =some x)(hi:i+1<l.length):jc G (l.drop i)=jc G (l.drop (i+1))++jO G x:=by
 have cY:i<l.length:=by omega
 rw [List.drop_eq_getElem_cons cY];have e:l[i]=x:=(lgeS hx).2;rw [e];refine xI fun e=>?_;have:=congrArg List.length e;rw [List.length_drop,List.length_nil]at this;omega
theorem FK{l:List HT}(h:l≠ []):jc G (l.drop (l.length-1))= []:=by
 have hl:=List.length_pos_iff.2 h;rw [List.drop_eq_getElem_cons (by omega:l.length-1<l.length),List.drop_of_length_le (by omega)];rfl
end
section
variable{w w':World}{K:Value->World->Prop}{B n cx b:Nat}{A:Option Addr}{F:Nat->Prop}{c k:Nat}{G:GS}{m:CM}{l:List HT}
theorem HQ{l dk:List HT}{n i:Nat}(hn:l.length=n)(hd:dk.length=n)(rC:i<n-1-i)(h:∀t,t<n->dk[t]? =if t<i\/n-1-i<t then l.reverse[t]? else l[t]?){x y:HT}(hx:dk[i]? =some x)(hy:dk[n-1-i]? =some y):
 ∀t,t<n->((dk.set i y).set (n-1-i) x)[t]? =if t<i+1\/n-1-(i+1)<t then l.reverse[t]? else l[t]? :=by
 have e1:=h i (by omega);rw [if_neg (by omega),hx]at e1;have e2:=h (n-1-i) (by omega);rw [if_neg (by omega),hy]at e2;intro t ht;by_cases h1:t=n-1-i
 ·subst h1
  rw [List.getElem?_set_self (by simp;omega),if_pos (by omega),List.getElem?_reverse (by omega),show l.length-1-(n-1-i)=i by omega];exact e1
 ·rw [List.getElem?_set_ne (by omega)]
  by_cases h2:t=i
  ·subst h2
   rw [List.getElem?_set_self (by omega),if_pos (by omega),List.getElem?_reverse (by omega),show l.length-1-t=n-1-t by omega];exact e2
  ·rw [List.getElem?_set_ne (by omega),h t ht]
   by_cases h3:t<i\/n-1-i<t
   ·rw [if_pos h3,if_pos (by omega)]
   ·rw [if_neg h3,if_neg (by omega)]
theorem bI.at0{v:World}{l:List HT}(hr:bI v B (some ⟨b,0,none⟩) n cx l){i:Nat}{x:HT}(hx:l[i]? =some x):Cells v ((⟨b,0,none⟩:Addr).add (i*32)) x.1:=by
 obtain⟨a,h1,_,h3⟩:=(bI.hs hr).at_ i x hx;cases h1;exact h3
theorem Cq(row:bI w B A n cx l)(hn:n<=1000000)(hK:∀w',bI w' B A n cx l.reverse->Kept (fun j=>bn A=some j) w w'->K (.tuple #[]) w'):
 bC prog aK.id #[.slice A n cx] w K:=by
 have hlen:=row.len;refine aK.of ?_;unfold aK.W;rw [gF (x:=(n:Int)-1) (by omega) (by omega)];refine aK.cC (I:=fun s v=>∃(i:Nat) (dk:List HT),s=((i:Int),(n:Int)-1-i)/\i<=n/\bI v B A n cx dk/\(∀t,t<n->dk[t]? =if t<i\/n-1-i<t then l.reverse[t]? else l[t]?)/\Kept (fun j=>bn A=some j) w v) (μ:=fun s _=>(s.2+1-s.1).toNat) (s:=(0,(n:Int)-1)) ⟨0,l,by simp,Nat.zero_le _,row,fun t ht=>by rw [if_neg (by omega)],Kept.refl _ _⟩ ?_;rintro⟨_,_⟩ v ⟨i,dk,e,hi,hr,Wu,kv⟩;cases e;have YM:=hr.len;unfold aK.B1;refine Split.dec (fun cY=>?_) (fun gA=>?_)
 ·simp only at cY
  have ab0:i<n-1-i:=by omega
  obtain⟨b,rfl⟩:=Row.some hr (by omega);intro w3;have k3:Kept Nil v w3:=(Kept.refl _ _).drew;clear_value w3;have uq:bI w3 B (some ⟨b,0,none⟩) n cx dk:=Row.aF hr k3 (fun _ _ h=>h);obtain⟨x,hx⟩:∃x,dk[i]? =some x:=⟨_,List.getElem?_eq_getElem (by omega)⟩;obtain⟨y,hy⟩:∃y,dk[n-1-i]? =some y:=⟨_,List.getElem?_eq_getElem (by omega)⟩;have ej:((n:Int)-1-(i:Int))=((n-1-i:Nat):Int):=by omega
  have r1:bI (setCells w3 ⟨b,i*32,none⟩ y.1.toList 0) B (some ⟨b,0,none⟩) n cx (dk.set i y):=bI.setAt uq (by omega) y;have r2:bI (setCells (setCells w3 ⟨b,i*32,none⟩ y.1.toList 0) ⟨b,(n-1-i)*32,none⟩ x.1.toList 0) B (some ⟨b,0,none⟩) n cx ((dk.set i y).set (n-1-i) x):=bI.setAt r1 (by omega) x;have kk:Kept (· =b) w3 (setCells (setCells w3 ⟨b,i*32,none⟩ y.1.toList 0) ⟨b,(n-1-i)*32,none⟩ x.1.toList 0):=(fp _ _ _ _).tt (fp _ _ _ _);have c1:=bI.at0 uq hx;have c2:=bI.at0 uq hy;have w1:=bI.Hl uq (k:=i) (by omega);have w2:=bI.Hl r1 (k:=n-1-i) (by omega);simp-zeta only [ej,Int.toNat_natCast];simp only [bt]at c1 c2;simp-zeta only [bt,Nat.zero_add]at*;refine⟨⟨by omega,by omega⟩,Is.mk rfl ⟨y.1,⟨y.2.1,by simp only [bt,Nat.zero_add];exact c2⟩,⟨by omega,by omega⟩,Is.mk rfl ⟨x.1,⟨x.2.1,by simp only [bt,Nat.zero_add];exact c1⟩,⟨by omega,by omega⟩,Is.mk rfl ⟨⟨y.2.1,y.2.one,fun o ho=>by have:=w1 o ho;simpa only [bt,Nat.zero_add]using this⟩,?_⟩⟩⟩⟩;simp-zeta only [bt,Nat.zero_add];intro p;refine⟨⟨by omega,by omega⟩,Is.mk rfl ⟨⟨x.2.1,x.2.one,fun o ho=>by have:=w2 o ho;simpa only [bt,Nat.zero_add]using this⟩,?_⟩⟩;simp-zeta only [bt,Nat.zero_add];intro u;rw [dM (n:=(i:Int)) (by omega) (by omega),gF (by omega) (by omega)];refine⟨((i:Int)+1,((n-1-i:Nat):Int)-1),rfl,⟨i+1,_,by rw [Prod.mk.injEq];exact⟨by omega,by omega⟩,by omega,r2,HQ hlen YM ab0 Wu hx hy,?_⟩,by simp only;omega⟩;exact kv.trans ((k3.mono fun _ _ h=>h.elim).tt kk) (fun j _ e=>by rw [e];rfl)
 ·simp only at gA
  rw [aR,aK.df];unfold aK.cU;have e:dk=l.reverse:=List.ext_getElem? fun t=>by
   by_cases ht:t<n
   ·rw [Wu t ht]
    by_cases h1:t<i\/n-1-i<t
    ·rw [if_pos h1]
    ·rw [if_neg h1,List.getElem?_reverse (by omega),show l.length-1-t=t by omega]
   ·rw [List.getElem?_eq_none (by omega),List.getElem?_eq_none (by simp;omega)]
  rw [<-e]at hK;exact hK v hr kv
theorem CV.TK(h:CV w F c k G m){y:HT}(hy:y∉ids G.D):(Instr.lookup dR (.map (some m.mb)) (.agg y.1) false).run prog w=.ok (.pointer none) w:=by
 have:=h.look y;rwa [if_neg hy]at this
theorem Db(h:CV w F c k G m){a:HT}(ha:a∉ids G.D)(hK:∀w',Kept Nil w w'->K (.tuple #[.agg (cS ⟨eN,0,[],[]⟩ none 0 0 none 0 0),.int .i64 6]) w'):
 bC prog di.id #[.pointer (some ⟨c,0,none⟩),.agg a.1] w K:=by
 refine di.of ?_;unfold di.W;intro w1 w2;have k1:Kept Nil w w1:=(Kept.refl _ _).alloc _;have y8:w1.heap[w.heap.size]? =some (.cells a.1 ag (0,0)):=aH w _;have k2:Kept Nil w1 w2:=(Kept.refl _ _).alloc _;have jJ:w2.heap[w1.heap.size]? =some (.cells zC br (0,0)):=aH w1 _;clear_value w2;have Hb:=k2.heap y8 (fun h=>h);have jE:=k1.tt k2;have s1:=k1.size;have l1:=aU y8;clear_value w1;refine nh (h.same jE) ⟨true,rfl,Split.no rfl ?_⟩;intro w3;have k3:Kept Nil w2 w3:=(Kept.refl _ _).drew;clear_value w3;have h3:=h.same (jE.tt k3);have uq:=k3.heap jJ (fun h=>h);have zs:(zC:Array Value)=cS ⟨eN,0,[],[]⟩ none 0 0 none 0 0:=rfl;obtain⟨t1,t2,t3⟩:=dU uq (cs:=zC) rfl;refine Is.mk rfl ⟨_,h3.c2,a.1,⟨a.2.1,Cells.bL (k3.heap Hb (fun h=>h))⟩,_,h3.TK ha,Split.yes rfl ⟨⟨rfl,by rw [zs];exact eh _ _ _ _ _ _ _,fun j hj=>t1 j hj⟩,?_⟩⟩;exact⟨_,⟨rfl,Cells.bL t2⟩,hK _ ((jE.tt k3).trans t3 (fun j hj e=>by omega))⟩
open Classical in
noncomputable def H9(D:DG)(l:List HT):Int:=if ∃x∈l,x∉ids D then 6 else 0
theorem rX{D:DG}{l:List HT}(h:∀x∈l,x∈ids D):H9 D l=0:=by unfold H9;rw [if_neg];rintro⟨x,hx,e⟩;exact e (h x hx)
theorem uJ{D:DG}{l:List HT}{x:HT}(hx:x∈l)(e:x∉ids D):H9 D l=6:=by unfold H9;rw [if_pos ⟨x,hx,e⟩]
set_option maxHeartbeats 1000000 in
theorem oC(h:CV w F c k G m)(hD:G.D.length<=5000)(hl:HS w A n l)(hn:n<=1000000)(hK:∀w',Kept Nil w w'->K (.int .i64 (H9 G.D l)) w'):
 bC prog cJ.id #[.pointer (some ⟨c,0,none⟩),.slice A n cx] w K:=by
 have hlen:=hl.len;refine cJ.of ?_;unfold cJ.W;refine tV h ⟨_,rfl,?_⟩;obtain⟨mx,X,_⟩:=h.X;refine gv.of (Split.no rfl (Is.mk rfl ⟨_,X.c0,⟨_,rfl,Split.no rfl ?_⟩⟩));refine cJ.cC (I:=fun s v=>∃i:Nat,s=(0,(i:Int))/\i<=n/\(∀x∈l.take i,x∈ids G.D)/\Kept Nil w v) (μ:=fun s _=>((n:Int)-s.2).toNat) (s:=(0,0)) ⟨0,rfl,Nat.zero_le _,by simp,Kept.refl _ _⟩ ?_;rintro⟨_,_⟩ v ⟨i,e,hi,gK,kv⟩;cases e;unfold cJ.B1;refine Split.dec (fun cY=>?_) (fun gA=>?_)
 ·simp only at cY
  have dS:i<n:=by omega
  obtain⟨x,hx⟩:∃x,l[i]? =some x:=⟨_,List.getElem?_eq_getElem (by omega)⟩;refine(hl.same kv).load (i:=(i:Int)) (x:=x) (by omega) (by rw [Int.toNat_natCast];exact hx) ?_;intro w3;obtain⟨tf,jM,kz⟩:=iy (w:=v) (z:=eN.1) (cs:=x.1) (t:=ag) (by rw [x.2.1];rfl);refine⟨⟨x.2.1,x.2.one,fun j hj=>tf j (by rw [x.2.1];exact hj)⟩,?_⟩;intro w4
  replace jM:w4.heap[v.heap.size]? =some (.cells x.1 ag (0,0)):=jM
  replace kz:Kept Nil v w4:=kz
  clear_value w4;have nJ:=kv.tt kz;refine⟨x.1,⟨x.2.1,Cells.bL jM⟩,?_⟩;have fin:∀ {u:World} {C:ou} {A1 E1:Option Addr} {n1 p1 e1 q1:Nat} {Z:Prop},Kept Nil w u->(∀u',Kept Nil w u'->u'=setCells (u.alloc (.cells zC br)) ⟨u.heap.size,0,none⟩ (cS C A1 n1 p1 E1 e1 q1).toList 0->Z)->
   ((cS C A1 n1 p1 E1 e1 q1).size=35/\(∀x∈(cS C A1 n1 p1 E1 e1 q1).toList,x.oneCell'=true)/\∀y,y<35->Wr (u.alloc (.cells zC br)) ((aP u.heap.size).add y))/\Z:=by
   intro u C A1 E1 n1 p1 e1 q1 Z ku hz;have IL:(u.alloc (.cells zC br)).heap[u.heap.size]? =some (.cells zC br (0,0)):=aH u _;obtain⟨t1,t2,t3⟩:=dU IL (cs:=cS C A1 n1 p1 E1 e1 q1) (by rw [a8];rfl);exact⟨⟨a8 ..,eh _ _ _ _ _ _ _,fun j hj=>t1 j (by rw [a8];exact hj)⟩,hz _ ((ku.alloc _).trans t3 (fun j hj e=>by have:=ku.size;omega)) rfl⟩
  by_cases hm:x∈ids G.D
  ·refine x9 (h.same nJ) hD hm fun A5 n5 c5 E5 e5 d5 w5 _ _ _ k5=>⟨_,_,rfl,?_⟩
   intro w6;refine fin (nJ.tt k5) fun u' Eb eu=>?_;intro w7;refine Split.no rfl ?_;have e7:w7=u':=eu.symm;rw [e7,dM (n:=(i:Int)) (by omega) (by omega)];refine⟨(0,(i:Int)+1),rfl,⟨i+1,rfl,dS,fun y hy=>?_,Eb⟩,by simp only;omega⟩;rcases(bP hx).1 hy with hy|rfl
   ·exact gK y hy
   ·exact hm
  ·refine Db (h.same nJ) hm fun w5 k5=>⟨_,_,rfl,?_⟩
   intro w6;refine fin (nJ.tt k5) fun u' Eb eu=>?_;intro w7;refine Split.yes rfl ?_;have e7:w7=u':=eu.symm;rw [e7];have:=hK u' Eb;rw [uJ (List.mem_of_getElem? hx) hm]at this;exact this
 ·simp only at gA
  rw [aR,cJ.df];rw [List.take_of_length_le (by omega)]at gK;have:=hK v kv;rw [rX gK]at this;exact this
theorem pM(h:CV w F c k G m)(hD:G.D.length<=5000){a:HT}(ha:a∈ids G.D)(hc:cI G.D G.P a l)(hK:∀A cx w',bI w' w.heap.size A l.length cx l.reverse->Kept Nil w w'->K (.slice A l.length cx) w'):
 bC prog iP.id #[.pointer (some ⟨c,0,none⟩),.agg a.1] w K:=by
 refine iP.of ?_;unfold iP.W;intro w1 w2;have k1:Kept Nil w w1:=(Kept.refl _ _).alloc _;have y8:w1.heap[w.heap.size]? =some (.cells a.1 ag (0,0)):=aH w _;have k2:Kept Nil w1 w2:=(Kept.refl _ _).drew;clear_value w2;have Hb:=k2.heap y8 (fun h=>h);have jE:=k1.tt k2;clear_value w1;have h2:=h.same jE;obtain⟨mx,X,_⟩:=h2.X;refine⟨a.1,⟨a.2.1,Cells.bL Hb⟩,tV h2 ⟨_,rfl,⟨_,rfl,a.2.1,Cells.bL Hb⟩,?_⟩⟩;refine pH a fun w3 pb qb k3 hp hq Bc U1=>⟨_,rfl,?_⟩;have kP:=jE.tt k3;have hll:l.length<=G.D.length:=hc.yL h.fc.iA;refine wz (xs:=l) aZ.at_ rfl (yr (F:=m.FX) (x:=m.x) (m:=mx) (pb:=pb) (qb:=qb) hc (by omega)) (fun u ku=>⟨X.same (k3.tt ku),ku.heap hp (fun h=>h),ku.heap hq (fun h=>h)⟩) (by omega) fun A cx w4 iC k4=>⟨_,_,_,rfl,?_⟩;have mE:=kP.tt k4;have s3:=kP.size;refine Cq iC (by omega) fun w5 ju k5=>⟨rfl,?_⟩;refine hK A cx w5 (Row.base ju (fun j hj=>by have:=(Row.bL iC hj).1;omega)) (mE.trans k5 (fun j hj e=>by have:=(Row.bL iC e).1;omega))
end
section
variable{w w' v:World}{K:Value->World->Prop}{B n cx b q:Nat}{A E:Option Addr}{F:Nat->Prop}{c k:Nat}{G:GS}{m:CM}{l:List HT}{C:ou}{cp e ce:Nat}
theorem yy(w:World)(s:HT){B:Nat}(hB:B<=w.heap.size):bI (w.alloc (.cells (s.1.toList++ []).toArray ag)) B (some ⟨w.heap.size,0,none⟩) 1 1 [s]:=by
 have e:dh [s]=(s.1.toList++ []).toArray.toList:=by simp [dh]
 show Row _ _ _ _ _ _ _ (dh [s])
 rw [e];exact Row.made (aH w _) hB (by simp [s.2.1]) (by unfold maxLen;omega)
theorem lF(hx:v.heap[q]? =some (.cells (cS C A n cp E e ce) br (0,0))):
 Cells v ((⟨q,0,none⟩:Addr).add 0) C.iA.1/\v.cell? ((⟨q,0,none⟩:Addr).add 32)=some (.int .u64 (C.score:Int))/\v.cell? ((⟨q,0,none⟩:Addr).add 33)=some (.slice A n cp)/\v.cell? ((⟨q,0,none⟩:Addr).add 34)=some (.slice E e ce):=by
 have g:=gJ C A n cp E e ce #[];rw [Array.append_empty]at g;refine⟨fun j u hj=>?_,by rw [bt,aD hx];exact g.1,by rw [bt,aD hx];exact g.2.1,by rw [bt,aD hx];exact g.2.2.1⟩;have cY:=(Array.getElem?_eq_some_iff.1 hj).1;rw [add_zero,bt,aD hx,Nat.zero_add];unfold cS;rw [Array.getElem?_append_left cY];exact hj
theorem zi(u:World)(C:ou)(A:Option Addr)(n cp:Nat)(E:Option Addr)(e ce:Nat):
 ((cS C A n cp E e ce).size=35/\(∀x∈(cS C A n cp E e ce).toList,x.oneCell'=true)/\∀y,y<35->Wr (u.alloc (.cells zC br)) ((aP u.heap.size).add y))/\
   (setCells (u.alloc (.cells zC br)) ⟨u.heap.size,0,none⟩ (cS C A n cp E e ce).toList 0).heap[u.heap.size]? =some (.cells (cS C A n cp E e ce) br (0,0))/\
   Kept Nil u (setCells (u.alloc (.cells zC br)) ⟨u.heap.size,0,none⟩ (cS C A n cp E e ce).toList 0):=by
 have IL:(u.alloc (.cells zC br)).heap[u.heap.size]? =some (.cells zC br (0,0)):=aH u _;obtain⟨t1,t2,t3⟩:=dU IL (cs:=cS C A n cp E e ce) (by rw [a8];rfl);exact⟨⟨a8 ..,eh _ _ _ _ _ _ _,fun j hj=>t1 j (by rw [a8];exact hj)⟩,t2,((Kept.refl _ _).alloc _).trans t3 (fun j hj e=>by omega)⟩
theorem v7(u:World)(x:HT):(x.1.size=32/\(∀y∈x.1.toList,y.oneCell'=true)/\∀y,y<32->Wr (u.alloc (.cells zH ag)) ((aP u.heap.size).add y))/\
 (setCells (u.alloc (.cells zH ag)) ⟨u.heap.size,0,none⟩ x.1.toList 0).heap[u.heap.size]? =some (.cells x.1 ag (0,0))/\Kept Nil u (setCells (u.alloc (.cells zH ag)) ⟨u.heap.size,0,none⟩ x.1.toList 0):=by
 obtain⟨tf,jM,kz⟩:=iy (w:=u) (z:=zH) (cs:=x.1) (t:=ag) (by rw [x.2.1];rfl);exact⟨⟨x.2.1,x.2.one,fun j hj=>tf j (by rw [x.2.1];exact hj)⟩,jM,kz⟩
theorem vw(h:CV w F c k G m)(hD:G.D.length<=5000)(a:HT)(hc:cI G.D G.P a l)
 (lH:a∉ids G.D->∀w',Kept Nil w w'->K (.tuple #[.slice none 0 0,.int .i64 6]) w')
 (hK:a∈ids G.D->∀A cx w',bI w' w.heap.size A l.length cx l.reverse->Kept Nil w w'->K (.tuple #[.slice A l.length cx,.int .i64 0]) w'):
 bC prog ir.id #[.pointer (some ⟨c,0,none⟩),.agg a.1] w K:=by
 refine ir.of ?_;unfold ir.W;intro w1;have k1:Kept Nil w w1:=(Kept.refl _ _).alloc _;have y8:w1.heap[w.heap.size]? =some (.cells a.1 ag (0,0)):=aH w _;clear_value w1;refine⟨a.1,⟨a.2.1,Cells.bL y8⟩,a.2.1,?_⟩;intro w2;have k2:Kept Nil w1 w2:=(Kept.refl _ _).alloc _;have lE:HS w2 (some ⟨w1.heap.size,0,none⟩) 1 [a]:=jf w1 a;clear_value w2;have jE:=k1.tt k2;refine oC (h.same jE) hD lE (by omega) fun w3 k3=>⟨_,rfl,?_⟩;have kP:=jE.tt k3;have tQ:=k2.tt k3;by_cases hm:a∈ids G.D
 ·rw [rX (by simpa using hm)]
  refine Split.no rfl ⟨a.1,⟨a.2.1,Cells.bL (tQ.heap y8 (fun h=>h))⟩,?_⟩;have s3:=kP.size;exact pM (h.same kP) hD hm hc fun A cx w4 iC k4=>⟨_,_,_,rfl,hK hm A cx w4 (Row.base iC (fun j hj=>by have:=(Row.bL iC hj).1;omega)) (kP.tt k4)⟩
 ·rw [uJ (x:=a) (by simp) hm]
  exact Split.yes rfl (lH hm w3 kP)
theorem pN(a:HT)(hK:∀w' pb qb,Kept Nil w w'->w'.heap[pb]? =some (.cells #[.pointer (some ⟨c,0,none⟩)] dQ (0,0))->w'.heap[qb]? =some (.cells a.1 ag (0,0))->w.heap.size<=pb->w.heap.size<=qb->K (.func (.func bu.id) #[] #[.pointer (some ⟨pb,0,none⟩),.pointer (some ⟨qb,0,none⟩)]) w'):
 bC prog iQ.id #[.pointer (some ⟨c,0,none⟩),.agg a.1] w K:=by
 refine iQ.of ?_;unfold iQ.W;intro w3 w4;have k3:Kept Nil w w3:=(Kept.refl _ _).alloc _;have Va:w3.heap[w.heap.size]? =some (.cells #[.pointer (some ⟨c,0,none⟩)] dQ (0,0)):=aH w _;have k4:Kept Nil w3 w4:=(Kept.refl _ _).alloc _;have U3:w4.heap[w3.heap.size]? =some (.cells a.1 ag (0,0)):=aH w3 _;clear_value w4;exact hK w4 _ _ (k3.tt k4) (k4.heap Va (fun h=>h)) U3 (Nat.le_refl _) k3.size
def HD(G:GS)(x:HT)(vs:List Value)(w:World):Prop:=∃A n cx B,vs= [.agg x.1,.slice A n cx]/\bI w B A n cx (jO G x)
theorem Fi(H:iH k G){x:HT}(hx:x∈ids G.D){A:Option Addr}{n:Nat}(hm:HS w A n (G.fZ x).merge):n<=G.D.length:=by
 have e1:=hm.len;have:=(nV H hx).1;omega
set_option maxHeartbeats 1000000 in
theorem uY{pb qb:Nat}{a:HT}(hl:cI G.D G.P a l)(hD:G.D.length<=5000):
 yo prog bu.id #[] #[.pointer (some ⟨pb,0,none⟩),.pointer (some ⟨qb,0,none⟩)] (l.reverse.drop 1) (HD G) (fun w=>CV w F c k G m/\w.heap[pb]? =some (.cells #[.pointer (some ⟨c,0,none⟩)] dQ (0,0))/\w.heap[qb]? =some (.cells a.1 ag (0,0))):=by
 intro y I Q w0 hI hQ oG h0 oF;obtain⟨hC,LQ,NA⟩:=oG 0 Nil w0 h0;have H:=hC.fc;refine bu.of ?_;unfold bu.W;refine⟨_,by rw [aD LQ];rfl,a.1,⟨a.2.1,Cells.bL NA⟩,a.2.1,?_⟩;intro w1;have k1:Kept Nil w0 w1:=(Kept.refl _ _).alloc _;have y7:HS w1 (some ⟨w0.heap.size,0,none⟩) 1 [a]:=jf w0 a;clear_value w1;refine oC (hC.same k1) hD y7 (by omega) fun w2 k2=>⟨_,rfl,?_⟩;have jE:=k1.tt k2;by_cases hm:a∈ids G.D
 ·rw [rX (by simpa using hm)]
  refine Split.no rfl ⟨_,by rw [aD (jE.heap LQ (fun h=>h))];rfl,a.1,⟨a.2.1,Cells.bL (jE.heap NA (fun h=>h))⟩,?_⟩;refine pM (hC.same jE) hD hm hl fun A cx w3 lj k3=>⟨A,_,cx,rfl,?_⟩;have kP:=jE.tt k3;have s2:=jE.size;obtain⟨r,LZ⟩:=hl.cons H.W H.iA hm;have uN:1<=l.length:=by rw [LZ];simp
  have hll:l.length<=G.D.length:=hl.yL H.iA;have Sj:∀x∈l.reverse.drop 1,x∈ids G.D:=fun x hx=>by
   have h1:=List.mem_reverse.1 (List.mem_of_mem_drop hx);obtain⟨i,j,ni,nj,g1,_,g3,g4,_⟩:=(hl.mem H.W H.iA).1 h1;exact dr.2 ⟨nj,List.mem_of_getElem? g3,g4⟩
  refine⟨⟨by omega,by omega⟩,?_⟩;have C5:=bI.cap lj;refine bu.cC (I:=fun s v=>∃i:Nat,s=(i:Int)/\i<=l.length-1/\I i (fun j=>bn A=some j) v/\bI v w2.heap.size A l.length cx l.reverse) (μ:=fun s _=>((l.length:Int)-s).toNat) (s:=0) ⟨0,rfl,Nat.zero_le _,hI 0 Nil _ w0 w3 h0 kP (fun j hj=>.inr ?_),lj⟩ ?_
  ·obtain⟨gA,cur,kF⟩:=Row.bL lj hj
   exact⟨by omega,aU kF⟩
  rintro s v ⟨i,rfl,hi,hv,Fx⟩;unfold bu.B1;refine Split.dec (fun cY=>?_) (fun gA=>?_)
  ·have dS:i<l.length-1:=by simp at cY;omega
   obtain⟨x,hx⟩:∃x,(l.reverse.drop 1)[i]? =some x:=⟨_,List.getElem?_eq_getElem (by simp;omega)⟩;have Ys:=Sj x (List.mem_of_getElem? hx);have hs:=(bI.hs Fx).drop (k:=1) C5 uN;obtain⟨hCv,hpv,hqv⟩:=oG i _ v hv;refine HS.load hs (i:=(i:Int)) (x:=x) (by omega) (by rw [Int.toNat_natCast];exact hx) ?_;intro w4;obtain⟨y7,lE,mK⟩:=v7 v x;refine⟨y7,?_⟩;intro w5
   replace lE:w5.heap[v.heap.size]? =some (.cells x.1 ag (0,0)):=lE
   replace mK:Kept Nil v w5:=mK
   clear_value w5;refine⟨_,by rw [aD (mK.heap hpv (fun h=>h))];rfl,x.1,⟨x.2.1,Cells.bL lE⟩,?_⟩;refine x9 (hCv.same mK) hD Ys fun A5 n5 c5 E5 e5 d5 w6 r5 _ _ k6=>⟨_,_,rfl,?_⟩;intro w7;obtain⟨t1,t2,t3⟩:=zi w6 (G.fZ x) A5 n5 c5 E5 e5 d5;refine⟨t1,?_⟩;intro w8 w9
   replace t2:w8.heap[w6.heap.size]? =some (.cells (cS (G.fZ x) A5 n5 c5 E5 e5 d5) br (0,0)):=t2
   replace t3:Kept Nil w6 w8:=t3
   have k9:Kept Nil w8 w9:=(Kept.refl _ _).drew;clear_value w9;have t29:=k9.heap t2 (fun h=>h);have Lm:=t3.tt k9;clear_value w8;have Il:=k6.tt Lm;have RO:=mK.tt Il;obtain⟨f1,_,f3,_⟩:=lF t29;refine⟨x.1,⟨x.2.1,Cells.bL (Il.heap lE (fun h=>h))⟩,_,⟨(G.fZ x).iA.2.1,f1⟩,A5,n5,c5,f3,(G.fZ x).iA.2.1,?_⟩;intro w10;have lX:Kept Nil w9 w10:=(Kept.refl _ _).alloc _;have vj:bI w10 w9.heap.size (some ⟨w9.heap.size,0,none⟩) 1 1 [(G.fZ x).iA]:=yy w9 _ (Nat.le_refl _);clear_value w10;have Z3:=((bI.hs r5).same Lm).same lX;have hn5:=Fi H Ys (bI.hs r5);have ZO:=lX.size;obtain⟨A6,c6,po,YA,rN,g6,hA6⟩:=cK ay vj (cx:=c5) Z3 (by omega) ZO;have AO:Kept Nil w9 po:=Kept.dO lX g6 (fun j hj=>(Row.bL vj hj).1);have Pt:=Lm.tt AO;have T3:=RO.tt AO;have aar:=Il.tt AO;refine⟨(lF (lX.heap t29 (fun h=>h))).2.2.1,⟨_,rfl,x.2.1,Cells.bL (lX.heap (Il.heap lE (fun h=>h)) (fun h=>h))⟩,A6,_,c6,po,YA,⟨_,rfl,x.2.1,Cells.bL (aar.heap lE (fun h=>h))⟩,?_⟩;refine(oF i x [.agg x.1,.slice A6 (1+n5) c6] (fun j=>bn A=some j) po hx ⟨A6,1+n5,c6,_,rfl,rN⟩ (hI i _ _ v po hv T3 (fun j hj=>.inl hj))).mono ?_;rintro bb lK ⟨ht,hf⟩;cases bb with
   |true=>
    obtain⟨Xj,kI⟩:=ht rfl;refine Split.no rfl ?_;rw [dM (n:=(i:Int)) (by omega) (by omega)];have O2:bI po w2.heap.size A l.length cx l.reverse:=Row.aF Fx T3 (fun _ _ h=>h);exact⟨(i:Int)+1,rfl,⟨i+1,rfl,dS,Xj,Row.aF O2 kI (fun j hj e=>e hj)⟩,by simp only;omega⟩
   |false=>exact Split.yes rfl (Or.inr (hf rfl))
  ·rw [aR,bu.df]
   have e:i=(l.reverse.drop 1).length:=by
    simp at gA⊢;omega
   subst e;exact Or.inl ⟨_,hv⟩
 ·rw [uJ (x:=a) (by simp) hm]
  have e:l= []:=by
   rcases hl with⟨_,rfl⟩|⟨i,nd,ks,h1,h2,_,_⟩
   ·rfl
   ·exact absurd (dr.2 ⟨nd,List.mem_of_getElem? h1,h2⟩) hm
  subst e;exact Split.yes rfl (Or.inl ⟨Nil,hI 0 Nil Nil w0 w2 h0 jE (fun j hj=>hj.elim)⟩)
end
section
variable{w w' v:World}{K:Value->World->Prop}{B n cx b q:Nat}{A E:Option Addr}{F:Nat->Prop}{c k:Nat}{G:GS}{m:CM}{l:List HT}{C:ou}{cp e ce:Nat}{a:HT}
theorem FJ(l:List HT){i:Nat}{x:HT}(hx:(l.reverse.drop 1)[i]? =some x):((l.reverse.drop 1).take (i+1)).flatMap (jO G)=((l.reverse.drop 1).take i).flatMap (jO G)++jO G x:=by
 rw [List.take_add_one,hx];simp
theorem uZ(H:iH k G){x:HT}(hx:x∈ids G.D):(jO G x).length<=G.D.length+1:=by
 have:=(nV H hx).1;unfold jO;simp only [List.length_cons];omega
theorem zf(H:iH k G):∀l:List HT,(∀x∈l,x∈ids G.D)->(l.flatMap (jO G)).length<=l.length*(G.D.length+1)
 | [],_=>by simp
 |x::l,h=>by
  have h1:=uZ H (h x List.mem_cons_self);have h2:=zf H l (fun y hy=>h y (List.mem_cons_of_mem _ hy));rw [List.flatMap_cons,List.length_append,List.length_cons,Nat.add_mul];omega
theorem JR(H:iH k G)(hl:cI G.D G.P a l):∀x∈l,x∈ids G.D:=fun x hx=>by
 obtain⟨i,j,ni,nj,g1,_,g3,g4,_⟩:=(hl.mem H.W H.iA).1 hx;exact dr.2 ⟨nj,List.mem_of_getElem? g3,g4⟩
theorem rI(H:iH k G)(hl:cI G.D G.P a l):∀x∈l.reverse.drop 1,x∈ids G.D:=fun x hx=>JR H hl x (List.mem_reverse.1 (List.mem_of_mem_drop hx))
theorem K5(H:iH k G)(hl:cI G.D G.P a l):(jc G l).length<=G.D.length*(G.D.length+1):=by
 rw [uI];refine Nat.le_trans (zf H _ (rI H hl)) (Nat.mul_le_mul_right _ ?_);have:=hl.yL H.iA;simp only [List.length_drop,List.length_reverse];omega
theorem HF{d i:Nat}(hd:d<=900)(hi:i<=d):i*(d+1)<=900*901:=Nat.mul_le_mul (by omega) (by omega)
set_option maxHeartbeats 1000000 in
theorem tM(h:CV w F c k G m)(hD:G.D.length<=900)(a:HT)(hc:cI G.D G.P a l)
 (lH:a∉ids G.D->∀w',Kept Nil w w'->K (.tuple #[.slice none 0 0,.int .i64 6]) w')
 (hK:a∈ids G.D->∀A cx w',bI w' w.heap.size A (jc G l).length cx (jc G l)->Kept Nil w w'->K (.tuple #[.slice A (jc G l).length cx,.int .i64 0]) w'):
 bC prog dc.id #[.pointer (some ⟨c,0,none⟩),.agg a.1] w K:=by
 have H:=h.fc;refine dc.of ?_;unfold dc.W;intro w1;have k1:Kept Nil w w1:=(Kept.refl _ _).alloc _;have y8:w1.heap[w.heap.size]? =some (.cells a.1 ag (0,0)):=aH w _;clear_value w1;refine⟨a.1,⟨a.2.1,Cells.bL y8⟩,a.2.1,?_⟩;intro w2;have k2:Kept Nil w1 w2:=(Kept.refl _ _).alloc _;have lE:HS w2 (some ⟨w1.heap.size,0,none⟩) 1 [a]:=jf w1 a;clear_value w2;have jE:=k1.tt k2;refine oC (h.same jE) (by omega) lE (by omega) fun w3 k3=>⟨_,rfl,?_⟩;have kP:=jE.tt k3;have tQ:=k2.tt k3;by_cases hm:a∈ids G.D
 ·rw [rX (by simpa using hm)]
  refine Split.no rfl ?_;intro w4;have k4:Kept Nil w3 w4:=(Kept.refl _ _).alloc _;have ho4:w4.heap[w3.heap.size]? =some (.cells #[.slice none 0 0] ay (0,0)):=aH w3 _;clear_value w4;have mE:=kP.tt k4;refine⟨a.1,⟨a.2.1,Cells.bL ((tQ.tt k4).heap y8 (fun h=>h))⟩,?_⟩;refine pN a fun w5 pb qb k5 hp5 YB Bc U1=>⟨_,rfl,?_⟩;have q9:=mE.tt k5;have ho5:=k5.heap ho4 (fun h=>h);have s3:=kP.size;have s4:=k4.size;have s5:=k5.size;have l4:=aU ho4;generalize Gk:w3.heap.size=ob at ho5 l4;have lo5:=aU ho5
  let uw:Value:=.func (.func bu.id) #[] #[.pointer (some ⟨pb,0,none⟩),.pointer (some ⟨qb,0,none⟩)]
  let ρ0:Env:= [(4,.slice none 0 0),(5,.int .i64 0),(7,.pointer (some ⟨ob,0,none⟩)),(19,uw)]
  let xs:=l.reverse.drop 1
  let J:Nat->(Nat->Prop)->World->Prop:=fun i Pr u=>i<=xs.length/\Kept (· =ob) w5 u/\(∃A n cx,u.heap[ob]? =some (.cells #[.slice A n cx] ay (0,0))/\bI u w5.heap.size A n cx ((xs.take i).flatMap (jO G))/\(∀j,bn A=some j->¬Pr j))/\∀j,Pr j->w5.heap.size<=j/\j<u.heap.size
  have kJ:∀ {u:World},Kept (· =ob) w5 u->Kept Nil w u:=fun k=>q9.trans k (fun j hj e=>by omega);have kJ5:∀ {u:World},Kept (· =ob) w5 u->Kept Nil w3 u:=fun k=>(k4.tt k5).trans k (fun j hj e=>by omega)
  change Holds none [] prog _ _ _ ρ0 w5
  refine tK (n:=26) (ρ:=ρ0) (ρ0:=ρ0) ng mix dc.k (t:=19) (ps:= #[20,21]) (by kernel_rfl) (by decide) rfl bu.at_ rfl (.inl rfl) (fun i x hi hx=>hx) rfl xs (HD G) (fun x vs u hE=>by obtain⟨A,n,cx,B,rfl,_⟩:=hE;rfl) (fun q hq=>by
   have Rp:q=20\/q=21:=by simpa using hq
   rcases Rp with rfl|rfl<;>exact⟨by decide,by decide⟩) (uY (F:=F) (c:=c) (k:=k) (m:=m) (pb:=pb) (qb:=qb) hc (by omega)) J (fun _ _=>False) ?_ (fun _ _ _ _ _ h=>h.elim) (fun i Pr u hJ=>⟨h.same (kJ hJ.2.1),hJ.2.1.heap hp5 (by omega),hJ.2.1.heap YB (by omega)⟩) ?_ ?_ ?_ (fun _ _ h=>h.elim) (fun _ _ _ h=>h.elim)
  ·rintro i Pr MI u1 u2 R nC ⟨h0,h1,⟨A,n,cx,h2,h3,h4⟩,h5⟩ hk hp
   have su:=hk.size;have sw:=h1.size;refine⟨h0,h1.trans hk (fun j hj e=>by omega),⟨A,n,cx,hk.heap h2 (by omega),Row.apart h3 hk (fun cs t fr h=>by rw [nC.loop]at h;cases h),fun j hj e=>?_⟩,fun j hj=>?_⟩
   ·rcases hp j e with e|e
    ·exact h4 j hj e
    ·obtain⟨_,cur,kF⟩:=Row.bL h3 hj
     have:=aU kF;omega
   ·rcases hp j hj with e|e
    ·have:=h5 j e;omega
    ·omega
  ·intro R
   exact⟨Nat.zero_le _,((Kept.refl _ _).alloc _).alloc _,⟨none,0,0,iI (iI ho5 _) _,bI.nil _ _,fun j hj=>by cases hj⟩,fun j hj=>hj.elim⟩
  ·rintro i x vs Pr u1 R hx ⟨A2,n2,c2,B2,rfl,yS⟩ ⟨h0,h1,⟨A,n,cx,h2,h3,h4⟩,h5⟩ nC LN
   have e7:kl ρ0 ((#[20,21]:Array Nat).toList.zip [.agg x.1,.slice A2 n2 c2])= [(4,.slice none 0 0),(5,.int .i64 0),(7,.pointer (some ⟨ob,0,none⟩)),(19,uw),(20,.agg x.1),(21,.slice A2 n2 c2)]:=rfl;rw [e7,dc.a1];unfold dc.A1;refine⟨nC,fun w2 R2 l9 qz=>?_⟩;rw [dc.y1];unfold dc.Y1;have dS:=(lgeS hx).1;have QC:i<xs.length:=dS;have Ys:=rI H hc x (List.mem_of_getElem? hx);have zz:=l9.heap h2 (by omega);have Hd:bI w2 w5.heap.size A n cx ((xs.take i).flatMap (jO G)):=Row.apart h3 l9 (fun cs t fr h=>by rw [nC.loop]at h;cases h);have I1:HS w2 A2 n2 (jO G x):=bI.hs (Row.apart yS l9 (fun cs t fr h=>by rw [nC.loop]at h;cases h));have hlen:=Hd.len;have ED:=zf H (xs.take i) (fun y hy=>rI H hc y (List.mem_of_mem_take hy));have sZ:xs.length<=G.D.length:=by
    have:=hc.yL H.iA;simp only [xs,List.length_drop,List.length_reverse];omega
   rw [List.length_take,Nat.min_eq_left (by omega)]at ED;have hsq:=HF hD (i:=i) (by omega);have BU:=uZ H Ys;have YF:=I1.len;have sw2:=l9.size;have sh1:=h1.size;obtain⟨A3,c3,SQ,wJ,iC,g4,Rk⟩:=cK ay Hd (cx:=c2) I1 (by omega) (by omega);have kg:Kept (fun j=>bn A=some j) w2 SQ:=Kept.grown (Kept.refl _ _) g4 fun j hj _=>hj;have nob:bn A≠some ob:=fun e=>by
    have:=(Row.bL Hd e).1;omega
   have h24:=kg.heap zz nob;have ll4:Live (w5.heap.size+1) w5.heap.size R2 SQ:=by
    refine qz.aF kg ?_ ?_
    ·intro e
     obtain⟨_,cur,kF⟩:=Row.bL Hd e;exact jW kF qz.loop rfl
    ·intro e
     obtain⟨_,cur,kF⟩:=Row.bL Hd e;exact rV kF qz.mark rfl
   refine⟨A,n,cx,by rw [aD zz];rfl,A3,_,c3,SQ,wJ,dm h24 (by simp),?_⟩;intro ZE;have oS:ZE.heap[ob]? =some (.cells #[.slice A3 (n+n2) c3] ay (0,0)):=cV h24 0 _;have T8:Kept (· =ob) SQ ZE:=Kept.setCell (S:=fun k=>k=ob) (Kept.refl _ SQ) (p:=⟨ob,0,none⟩) (fun _=>rfl) _;clear_value ZE;have sg:=kg.size;have sb:=T8.size;have hA3:∀j,bn A3=some j->¬Pr j:=fun j hj e=>by
    rcases Rk j hj with e2|e2
    ·exact h4 j e2 e
    ·have:=(h5 j e).2;omega
   have nA3:∀j,bn A3=some j->j≠ob:=fun j hj e=>by
    have:=(Row.bL iC hj).1;omega
   refine⟨ll4.aF T8 (fun e=>by omega) (fun e=>by omega),⟨QC,?_,⟨A3,n+n2,c3,oS,?_,hA3⟩,fun j hj=>by have:=h5 j hj;omega⟩,?_⟩
   ·exact((h1.trans l9 (fun j hj e=>by omega)).trans kg (fun j hj e=>by have:=(Row.bL Hd e).1;omega)).trans T8 (fun j hj e=>e)
   ·have:=Row.aF iC T8 nA3
    rw [FJ l hx];exact this
   ·refine((l9.mono (S':=fun j=>¬Pr j) (fun j hj e hp=>by have:=LN j hp;omega)).trans kg (fun j hj e=>h4 j e)).trans T8 (fun j hj e hp=>by have:=h5 j hp;omega)
  ·rintro Pr u1 R ⟨h0,h1,⟨A,n,cx,h2,h3,h4⟩,h5⟩ nC
   have e7:fY ρ0 w5.heap.size= [(4,.slice none 0 0),(5,.int .i64 0),(7,.pointer (some ⟨ob,0,none⟩)),(19,uw),(4294967296,.agg (gS [w5.heap.size]))]:=rfl;rw [e7,dc.iL];unfold dc.fD;rw [lA];have kt:=iT [w5.heap.size] u1;have hmm:∀E∈ [w5.heap.size],u1.heap[E]? =some (.deferred (some [])):=fun E hE=>by
    rw [List.mem_singleton]at hE;subst hE;exact nC.mark
   rw [List.take_of_length_le (Nat.le_refl _),<-uI]at h3;have hn:=h3.len;refine⟨A,n,cx,by rw [aD h2];rfl,kr [w5.heap.size] u1 (by simp) hmm,?_⟩;subst hn;have s05:=q9.size;refine hK hm A cx _ ?_ ((kJ h1).trans kt (fun j hj e=>by rw [List.mem_singleton]at e;omega));refine Row.base (Row.aF h3 kt (fun j hj e=>?_)) (fun j hj=>by have:=(Row.bL h3 hj).1;omega);rw [List.mem_singleton]at e;subst e;obtain⟨_,cur,kF⟩:=Row.bL h3 hj;exact rV kF nC.mark rfl
 ·rw [uJ (x:=a) (by simp) hm]
  exact Split.yes rfl (lH hm w3 kP)
end
section
variable{w w' v:World}{K:Value->World->Prop}{B n cx q n1 c1 e1 d1:Nat}{A A1 E1:Option Addr}{F:Nat->Prop}{r x k:Nat}{G:GS}{l out:List HT}{C:ou}{a:HT}
theorem R3.XK(h:R3 w F r x k G):∃A c,w.cell? ((⟨r,0,none⟩:Addr).add 2)=some (.slice A G.D.length c)/\qG w F A G.D.length G.qF:=by
 obtain⟨A,c,B,e,g1,g2,_⟩:=h.top;exact⟨A,c,by rw [bt,aD g1];rfl,g2⟩
theorem R3.Ou(h:R3 w F r x k G)(ha:a∈ids G.D):∃aa ca A1 n1 c1 B1 m1 d1,w.cell? ((⟨r,0,none⟩:Addr).add 2)=some (.slice (some aa) G.D.length ca)/\(0<=sE G.D a/\sE G.D a<(G.D.length:Int))/\
 Cells w (aa.add ((sE G.D a).toNat*35)) (cS (G.fZ a) A1 n1 c1 B1 m1 d1)/\HS w A1 n1 (G.fZ a).merge/\Bo w B1 m1 (G.fZ a).fK/\F aa.block/\(∀b,A1=some b->F b.block):=by
 obtain⟨nd,h1,h2,rfl⟩:=EP ha;obtain⟨A,c,q,hA⟩:=h.XK;have dS:=(lgeS h2).1;obtain⟨cc,xZ⟩:∃cc,G.qF[(sE G.D nd.id).toNat]? =some cc:=⟨_,List.getElem?_eq_getElem (by rw [h.fc.lc];exact dS)⟩;have Bx:=GS.JQ h.fc.W h2 xZ;obtain⟨aa,A1,n1,c1,B1,m1,d1,z1,z2,z3,z4,z5,z6,z7,_⟩:=hA.at_ _ _ xZ;subst z1;rw [Bx];exact⟨aa,c,A1,n1,c1,B1,m1,d1,q,⟨h1,by omega⟩,z4,z5,z6,z3,z7⟩
theorem Di(hx:v.heap[q]? =some (.cells (cS C A1 n1 c1 E1 e1 d1) br (0,0)))(row:bI v B A n cx out)(hm:HS v A1 n1 C.merge)(hB:B<=v.heap.size)(hq:bn A≠some q)
 (hA1:∀b,A1=some b->b.block<v.heap.size/\bn A≠some b.block) (hn:n+n1+1<=1000000) {Z:Option Addr->Nat->Nat->World->Prop}
 (hZ:∀A' c' u,bI u B A' (n+1+n1) c' (out++C.iA::C.merge)->Kept (fun j=>bn A=some j) v u->(∀j,bn A'=some j->bn A=some j\/v.heap.size<=j)->Z A' (n+1+n1) c' u):
 ∃j1:Array Value,(j1.size=32/\Cells v ((⟨q,0,none⟩:Addr).add 0) j1)/\j1.size=32/\∃(m1:Option Addr) (n1 o1:Nat) (p1:World),(Builtin.append_ #[ay,ay] ay #[.slice A n cx,.slice (some (aP v.heap.size)) 1 1]).run prog (v.alloc (.cells (j1.toList++ []).toArray ag))=.ok (.slice m1 n1 o1) p1/\
  ∃q1:Option Addr,∃r1 t1:Nat,p1.cell? ((⟨q,0,none⟩:Addr).add 33)=some (.slice q1 r1 t1)/\∃(u1:Option Addr) (v1 x1:Nat) (y1:World),(Builtin.append_ #[ay,ay] ay #[.slice m1 n1 o1,.slice q1 r1 t1]).run prog p1=.ok (.slice u1 v1 x1) y1/\Z u1 v1 x1 y1:=by
 have k0:Kept Nil v (v.alloc (.cells (C.iA.1.toList++ []).toArray ag)):=(Kept.refl _ _).alloc _;have hb:=jf v C.iA;refine⟨C.iA.1,⟨C.iA.2.1,(lF hx).1⟩,C.iA.2.1,?_⟩;generalize v.alloc (.cells (C.iA.1.toList++ []).toArray ag)=w1 at k0 hb⊢;have s1:=k0.size;have lq:=aU hx;have lM:bI w1 B A n cx out:=Row.aF row k0 (fun _ _ h=>h);obtain⟨A2,c2,w2,jJ,fV,g2,Ol⟩:=cK ay lM (cx:=1) hb (by omega) (by omega);have k2:Kept (fun j=>bn A=some j) w1 w2:=Kept.grown (Kept.refl _ _) g2 fun j hj _=>hj;have s2:=k2.size;have Nl:=k2.heap (k0.heap hx (fun h=>h)) hq;refine⟨A2,_,c2,w2,jJ,A1,n1,c1,(lF Nl).2.2.1,?_⟩;have Sh:HS w2 A1 n1 C.merge:=(hm.same k0).aF k2 (fun b hb e=>(hA1 b hb).2 e);obtain⟨A3,c3,w3,uq,lj,g3,hA3⟩:=cK ay fV (cx:=c1) Sh (by omega) (by omega);have k3:Kept (fun j=>bn A2=some j) w2 w3:=Kept.grown (Kept.refl _ _) g3 fun j hj _=>hj;refine⟨A3,_,c3,w3,uq,hZ A3 c3 w3 ?_ ?_ ?_⟩
 ·rw [List.append_assoc]at lj
  exact lj
 ·refine((k0.mono fun _ _ h=>h.elim).tt k2).trans k3 (fun j hj e=>?_)
  rcases Ol j e with e|e
  ·exact e
  ·omega
 ·intro j hj
  rcases hA3 j hj with e|e
  ·rcases Ol j e with e|e
   ·exact .inl e
   ·exact .inr (by omega)
  ·exact .inr (by omega)
set_option maxHeartbeats 1000000 in
theorem vm(h:R3 w F r x k G)(hD:G.D.length<=300)(a:HT)(hc:cI G.D G.P a l)(hK:∀A cx w',bI w' w.heap.size A (jc G l).length cx (jc G l)->Kept Nil w w'->K (.slice A (jc G l).length cx) w'):
 bC prog aX.id #[.pointer (some ⟨r,0,none⟩),.agg a.1] w K:=by
 have H:=h.fc;refine aX.of ?_;unfold aX.W;intro w1 w2;have k1:Kept Nil w w1:=(Kept.refl _ _).alloc _;have y8:w1.heap[w.heap.size]? =some (.cells a.1 ag (0,0)):=aH w _;have k2:Kept Nil w1 w2:=(Kept.refl _ _).drew;clear_value w2;have Hb:=k2.heap y8 (fun h=>h);have jE:=k1.tt k2;clear_value w1;have h2:=h.same jE;refine Is.mk rfl ⟨_,h2.c1,a.1,⟨a.2.1,Cells.bL Hb⟩,?_⟩;refine vo h2.X (by omega) a fun Au cu w3 l' tm ZR k3=>⟨Au,_,cu,rfl,?_⟩;have:=tm.one H.W H.iA hc;subst this;have kP:=jE.tt k3;have hll:l'.length<=G.D.length:=hc.yL H.iA;rw [gF (by omega) (by omega)];have ZP:=kP.size;have s2:=jE.size;have TI:∀j,F j->j<w.heap.size:=h.lo;refine aX.cC (I:=fun s v=>Kept Nil w3 v/\((l'= []/\s=(none,0,0,-2))\/∃(j:Nat) (A:Option Addr) (cx:Nat),s=(A,(jc G (l'.drop j)).length,cx,(j:Int)-1)/\j+1<=l'.length/\bI v w3.heap.size A (jc G (l'.drop j)).length cx (jc G (l'.drop j)))) (μ:=fun s _=>(s.2.2.2+1).toNat) (s:=(none,0,0,(l'.length:Int)-2)) ⟨Kept.refl _ _,?_⟩ ?_
 ·rcases Nat.eq_zero_or_pos l'.length with h0|h0
  ·exact .inl ⟨List.eq_nil_of_length_eq_zero h0,by rw [h0];rfl⟩
  ·have e0:=FK (G:=G) (l:=l') (fun e=>by rw [e]at h0;cases h0)
   refine .inr ⟨l'.length-1,none,0,?_,by omega,?_⟩
   ·rw [e0]
    simp only [List.length_nil,Prod.mk.injEq,true_and];omega
   ·rw [e0]
    exact bI.nil _ _
 rintro⟨A,_,cx,_⟩ v ⟨kv,hs⟩;have El:=kP.tt kv;unfold aX.B1;rcases hs with⟨Be,e⟩|⟨j,_,_,e,hj,row⟩
 ·cases e
  refine Split.no (by simp) ?_;rw [aR,aX.df];have:=hK none 0 v (by rw [Be];exact bI.nil _ _) El;rw [Be]at this;exact this
 cases e;refine Split.dec (fun gA=>?_) (fun cY=>?_)
 ·simp only at gA
  have hjp:1<=j:=by omega
  have ej:((j:Int)-1)=((j-1:Nat):Int):=by omega
  obtain⟨y,hy⟩:∃y,l'[j-1]? =some y:=⟨_,List.getElem?_eq_getElem (by omega)⟩;have RY:y∈ids G.D:=by
   obtain⟨i',j',ni,nj,g1,_,g3,g4,_⟩:=(hc.mem H.W H.iA).1 (List.mem_of_getElem? hy);exact dr.2 ⟨nj,List.mem_of_getElem? g3,g4⟩
  have IX:=FL (G:=G) hy (by omega);rw [show j-1+1=j by omega]at IX;intro w4;have k4:Kept Nil v w4:=(Kept.refl _ _).drew;clear_value w4;have nJ:=kv.tt k4;have mE:=kP.tt nJ;have h4:=h.same mE;obtain⟨aa,ca,A1,n1,c1,B1,m1,d1,z1,z2,z3,z4,_,z5,z6⟩:=h4.Ou RY;have Gm:=z4.len;have nf:=(nV H RY).1;have YH:=(bI.hs ZR).same nJ;have sv:=kv.size;have s4:=nJ.size;have Vh:(jc G (l'.drop j)).length<=300*301:=by
   rw [uI];have e1:(((l'.drop j).reverse.drop 1).flatMap (jO G)).length<=((l'.drop j).reverse.drop 1).length*(G.D.length+1):=by
    have key:∀m:List HT,(∀y∈m,y∈ids G.D)->(m.flatMap (jO G)).length<=m.length*(G.D.length+1):=by
     intro m
     induction m with
     |nil=>simp
     |cons z m ih=>
      intro hz;have h1:=(nV H (hz z List.mem_cons_self)).1;have h2:=ih (fun y hy=>hz y (List.mem_cons_of_mem _ hy));rw [List.flatMap_cons,List.length_append,List.length_cons,Nat.add_mul];have h3:(jO G z).length=(G.fZ z).merge.length+1:=by simp [jO]
      omega
    refine key _ fun z hz=>?_;have h1:=List.mem_of_mem_drop (List.mem_reverse.1 (List.mem_of_mem_drop hz));obtain⟨i',j',ni,nj,g1,_,g3,g4,_⟩:=(hc.mem H.W H.iA).1 h1;exact dr.2 ⟨nj,List.mem_of_getElem? g3,g4⟩
   refine Nat.le_trans e1 (Nat.mul_le_mul ?_ (by omega));simp only [List.length_drop,List.length_reverse];omega
  have fin:∀ {u:World} {q:Nat},u.heap[q]? =some (.cells (cS (G.fZ y) A1 n1 c1 B1 m1 d1) br (0,0))->Kept Nil w4 u->w4.heap.size<=q->
   ∃j1:Array Value,(j1.size=32/\Cells u ((⟨q,0,none⟩:Addr).add 0) j1)/\j1.size=32/\∃(m1:Option Addr) (n1 o1:Nat) (p1:World),(Builtin.append_ #[ay,ay] ay #[.slice A (jc G (l'.drop j)).length cx,.slice (some (aP u.heap.size)) 1 1]).run prog (u.alloc (.cells (j1.toList++ []).toArray ag))=.ok (.slice m1 n1 o1) p1/\
    ∃q1:Option Addr,∃r1 t1:Nat,p1.cell? ((⟨q,0,none⟩:Addr).add 33)=some (.slice q1 r1 t1)/\∃(u1:Option Addr) (v1 x1:Nat) (y1:World),(Builtin.append_ #[ay,ay] ay #[.slice m1 n1 o1,.slice q1 r1 t1]).run prog p1=.ok (.slice u1 v1 x1) y1/\
     bR (aX.e1 (some ⟨r,0,none⟩) none 0 0 Au l'.length cu) (fun s v=>Kept Nil w3 v/\((l'= []/\s=(none,0,0,-2))\/∃(j:Nat) (A:Option Addr) (cx:Nat),s=(A,(jc G (l'.drop j)).length,cx,(j:Int)-1)/\j+1<=l'.length/\bI v w3.heap.size A (jc G (l'.drop j)).length cx (jc G (l'.drop j)))) (fun s _=>(s.2.2.2+1).toNat) (A,(jc G (l'.drop j)).length,cx,((j-1:Nat):Int)) v (aX.q1 K) .normal [(0,.pointer (some ⟨r,0,none⟩)),(4,.slice none 0 0),(5,.slice u1 v1 x1),(6,.slice Au l'.length cu),(7,.int .i64 (i64.wrap (((j-1:Nat):Int)-1)))] y1:=by
   intro u q hx ku hqv;have Pg:=k4.tt ku;have vh:bI u w3.heap.size A (jc G (l'.drop j)).length cx (jc G (l'.drop j)):=Row.aF row Pg (fun _ _ h=>h);have su:=ku.size;have bA:∀i,bn A=some i->w3.heap.size<=i/\i<v.heap.size:=fun i hi=>by
    obtain⟨h1,cur,kF⟩:=Row.bL row hi;exact⟨h1,aU kF⟩
   have sk4:=k4.size;refine Di hx vh (z4.same ku) (by omega) (fun e=>by have:=bA _ e;omega) (fun b hb=>⟨by have:=TI _ (z6 b hb);omega,fun e=>by have:=bA _ e;have:=TI _ (z6 b hb);omega⟩) (by omega) fun A' c' u' O5 k' EH=>?_;rw [gF (by omega) (by omega)];have el:(jc G (l'.drop (j-1))).length=(jc G (l'.drop j)).length+1+n1:=by
    rw [IX,List.length_append];simp only [jO,List.length_cons];omega
   have Tm:bI u' w3.heap.size A' (jc G (l'.drop (j-1))).length c' (jc G (l'.drop (j-1))):=by
    rw [el,IX];exact O5
   refine⟨(A',(jc G (l'.drop j)).length+1+n1,c',((j-1:Nat):Int)-1),rfl,⟨(kv.tt Pg).trans k' (fun i hi e=>by have:=bA i e;omega),.inr ⟨j-1,A',c',?_,by omega,Tm⟩⟩,by simp only;omega⟩;rw [el]
  obtain⟨ad,KE,_,qC⟩:=YH.at_ (j-1) y hy;subst KE;simp-zeta only [ej];have rl:∀ {u:World},Kept Nil w4 u->Cells u (aa.add ((sE G.D y).toNat*35)) (cS (G.fZ y) A1 n1 c1 B1 m1 d1):=fun ku=>Cells.aF z3 ku (fun h=>h);have hR:∀ {u:World},Kept Nil w4 u->R3 u F r x k G:=fun ku=>h4.same ku;have rd:∀ {u:World},Kept Nil w4 u->u.cell? ((⟨r,0,none⟩:Addr).add 2)=some (.slice (some aa) G.D.length ca):=fun ku=>ku.cell z1 (fun h=>h);refine Is.mk rfl ⟨_,_,ca,z1,Is.mk rfl ⟨_,h4.c1,Is.mk rfl ?_⟩⟩;refine⟨⟨by omega,by omega⟩,Is.mk rfl ⟨y.1,⟨y.2.1,by rw [Int.toNat_natCast];exact qC⟩,?_,?_⟩⟩
  ·rw [add_zero]
   refine jI h4.X.gr (by omega) y fun w5 k5=>⟨_,rfl,rd k5,z2,Is.mk rfl ⟨_,⟨a8 ..,rl k5⟩,?_⟩⟩;intro w6;have k6:Kept Nil w5 w6:=(Kept.refl _ _).alloc _;obtain⟨t1,t2,t3⟩:=zi w5 (G.fZ y) A1 n1 c1 B1 m1 d1;have Ec:=k5.tt k6;refine⟨⟨_,rfl,a8 ..,rl Ec⟩,rd Ec,t1,?_⟩;exact fin t2 (k5.tt t3) k5.size
  ·intro w5
   have k5:Kept Nil w4 w5:=(Kept.refl _ _).alloc _;have Nk:w5.heap[w4.heap.size]? =some (.cells zC br (0,0)):=aH w4 _;clear_value w5;refine⟨⟨_,rfl,y.2.1,by rw [Int.toNat_natCast];exact Cells.aF qC k5 (fun h=>h)⟩,(hR k5).c1,rd k5,?_⟩;rw [add_zero];refine jI (hR k5).X.gr (by omega) y fun w6 k6=>?_;have Ec:=k5.tt k6;obtain⟨t1,t2,t3⟩:=dU (k6.heap Nk (fun h=>h)) (cs:=cS (G.fZ y) A1 n1 c1 B1 m1 d1) (by rw [a8];rfl);refine⟨_,rfl,rd Ec,z2,Is.mk rfl ⟨_,⟨a8 ..,rl Ec⟩,⟨a8 ..,eh _ _ _ _ _ _ _,fun j hj=>t1 j (by rw [a8];exact hj)⟩,?_⟩⟩;exact fin t2 (Ec.trans t3 (fun j hj e=>by omega)) (Nat.le_refl _)
 ·simp only at cY
  have YI:j=0:=by omega
  subst YI;rw [aR,aX.df];unfold aX.cU;rw [List.drop_zero]at row⊢;exact hK A cx v (Row.base row (fun i hi=>by have:=(Row.bL row hi).1;omega)) El
theorem pv(hl:HS w A n l)(hn:n<=1000000)(hK:∀A' Ot w',bI w' w.heap.size A' l.length Ot l.reverse->Kept Nil w w'->K (.slice A' l.length Ot) w'):
 bC prog bQ.id #[.slice A n cx] w K:=by
 have hlen:=hl.len;refine bQ.of ?_;unfold bQ.W;rw [gF (by omega) (by omega)];refine bQ.cC (I:=fun s v=>∃(j:Nat) (A':Option Addr) (Ot:Nat),s=(A',n-j,Ot,(j:Int)-1)/\j<=n/\bI v w.heap.size A' (n-j) Ot (l.drop j).reverse/\Kept Nil w v) (μ:=fun s _=>(s.2.2.2+1).toNat) (s:=(none,0,0,(n:Int)-1)) ⟨n,none,0,by rw [Nat.sub_self],Nat.le_refl _,by rw [Nat.sub_self,List.drop_of_length_le (by omega)];exact bI.nil _ _,Kept.refl _ _⟩ ?_;rintro⟨A',_,Ot,_⟩ v ⟨j,_,_,e,hj,row,kv⟩;cases e;unfold bQ.B1;refine Split.dec (fun gA=>?_) (fun cY=>?_)
 ·simp only at gA
  have ej:((j:Int)-1)=((j-1:Nat):Int):=by omega
  obtain⟨y,hy⟩:∃y,l[j-1]? =some y:=⟨_,List.getElem?_eq_getElem (by omega)⟩;simp-zeta only [ej];refine HS.load (hl.same kv) (i:=((j-1:Nat):Int)) (x:=y) (by omega) (by rw [Int.toNat_natCast];exact hy) ⟨y.2.1,?_⟩;intro w4;have k4:Kept Nil v w4:=(Kept.refl _ _).alloc _;have ph:HS w4 (some ⟨v.heap.size,0,none⟩) 1 [y]:=jf v y;clear_value w4;have sv:=kv.size;have s4:=k4.size;have iC:bI w4 w.heap.size A' (n-j) Ot (l.drop j).reverse:=Row.aF row k4 (fun _ _ h=>h);obtain⟨A2,c2,w5,th,ju,g5,_⟩:=cK ay iC (cx:=1) ph (by omega) (by omega);refine⟨A2,_,c2,w5,th,?_⟩;rw [gF (by omega) (by omega)];have el:(l.drop (j-1)).reverse=(l.drop j).reverse++ [y]:=by
   rw [List.drop_eq_getElem_cons (by omega:j-1<l.length),List.reverse_cons,show j-1+1=j by omega,(lgeS hy).2]
  refine⟨(A2,n-j+1,c2,((j-1:Nat):Int)-1),rfl,⟨j-1,A2,c2,by rw [show n-(j-1)=n-j+1 by omega],by omega,by rw [el,show n-(j-1)=n-j+1 by omega];exact ju,?_⟩,by simp only;omega⟩;exact Kept.dO (kv.tt k4) g5 (fun i hi=>(Row.bL row hi).1)
 ·simp only at cY
  have YI:j=0:=by omega
  subst YI;rw [aR,bQ.df];unfold bQ.cU;rw [List.drop_zero,Nat.sub_zero]at row;rw [Nat.sub_zero];subst hlen;exact hK A' Ot v row kv
end
section
variable{r a b c:HT}(yU:r≠a)(wY:r≠b)(Et:r≠c)(jT:a≠b)(EG:a≠c)(BX:b≠c)
include yU wY Et jT EG BX in
theorem aaj(cY:cY b a=true){G1 G2 G3:GS}(h1:dE 0 (du r) a [r]=G1)(h2:dE 0 G1 b [r]=G2)(h3:dE 0 G2 c [a,b]=G3){l:List HT}(hc:cI G3.D G3.P c l):c∈ids G3.D/\jc G3 l= [r,a,b]:=by
 obtain⟨G1',G2',e1,e2,_,_,H2,_,D2,_,_,_,_,_,aa,_,ar⟩:=kG2 yU wY jT 0;rw [h1]at e1;subst e1;rw [h2]at e2;subst e2;obtain⟨c3,hR⟩:=kG3 yU wY Et jT EG BX cY h1 h2;have H3:iH 0 G3:=by rw [<-h3];exact H2.add c [a,b]
 have D3:G3.D= [⟨r,[]⟩,⟨a,[r]⟩,⟨b,[r]⟩,⟨c,dD [a,b]⟩]:=by rw [<-h3,p8,D2];exact(k3 Et jT EG BX).2
 unfold nZ at hR;rw [if_pos c3]at hR;have Wx:G3.fZ c=⟨a,2,[b],[false]⟩:=by rw [<-h3,(oh H2 c3).1];exact hR
 have nD:c∈ids G3.D:=by rw [D3];simp [ids]
 have ham:a∈ids G3.D:=by rw [D3];simp [ids]
 have hrm:r∈ids G3.D:=by rw [D3];simp [ids]
 refine⟨nD,?_⟩;have W3:=H3.W;have S3:=H3.iA;have Tq:∀s,nK G3.D s a->s=r:=by
  rintro s ⟨nd,hn,hid,hp⟩;rw [D3]at hn;simp only [List.mem_cons,List.not_mem_nil,or_false]at hn;rcases hn with rfl|rfl|rfl|rfl
  ·exact absurd hid yU
  ·simpa using hp
  ·exact absurd hid jT.symm
  ·exact absurd hid EG.symm
 have HP:G3.D[0]? =some ⟨r,[]⟩:=by rw [D3];rfl
 rcases vy H3 nD hc with⟨_,⟨nd,h0,hid⟩,_⟩|⟨s,l2,rfl,hs,vU,KC,eo⟩
 ·rw [HP]at h0
  cases h0;exact absurd hid Et
 have es:s=a:=by
  have:=(H3.up s c hs).1;rw [Wx]at this;exact this.symm
 subst es;rcases vy H3 ham KC with⟨_,⟨nd,h0,hid⟩,_⟩|⟨t,l3,rfl,ht,Yw,QV,eo2⟩
 ·rw [HP]at h0
  cases h0;exact absurd hid yU
 have et:t=r:=Tq t (ht.par S3);subst et;rcases vy H3 hrm QV with⟨eo3,_,_⟩|⟨u,l4,rfl,hu,_,_,_⟩
 rotate_left
 ·exact absurd (fz.one (hu.par S3)) (Ao H3 HP u)
 have hma:(G3.fZ s).merge= []:=by
  rw [List.eq_nil_iff_forall_not_mem];intro y hy;obtain⟨_,_,_,_,hm⟩:=H3.up t s ht;obtain⟨rD,uv,BZ⟩:=(hm y).1 hy;rcases rD with rD;obtain⟨p,hp,hor⟩:∃p,nK G3.D p s/\(y=p\/fz G3.D y p):=by
   cases rD with
   |one hp=>exact⟨_,hp,.inl rfl⟩
   |more ha hp=>exact⟨_,hp,.inr ha⟩
  have:=Tq p hp;subst this;rcases hor with h|h
  ·exact uv h
  ·exact BZ h
 rw [eo,eo2,eo3,hma,Wx];rfl
end
section
variable{w w':World}{K:Value->World->Prop}
set_option maxHeartbeats 1000000 in
theorem vQ(hT:uA w)(hK:∀w',Kept Nil w w'->K (.bool true) w'):bC prog iu.id #[] w K:=by
 let r:=hx 1 (by omega)
 let a:=hx 3 (by omega)
 let b:=hx 2 (by omega)
 let c:=hx 4 (by omega)
 have yU:r≠a:=tc (by omega);have wY:r≠b:=tc (by omega);have Et:r≠c:=tc (by omega);have jT:a≠b:=tc (by omega);have EG:a≠c:=tc (by omega);have BX:b≠c:=tc (by omega);have abY:cY b a=true:=by decide
 refine iu.of ?_;unfold iu.W;intro w1 w2 w3 w4;obtain⟨⟨f1,f2,f3,f4⟩,hr,ha,hb,hc,l1,l2,l3,l4,k⟩:=four w r a b c;refine⟨⟨r.2.1,r.2.one,f1⟩,?_⟩;intro w7;refine⟨⟨a.2.1,a.2.one,f2⟩,?_⟩;intro w10;refine⟨⟨b.2.1,b.2.one,f3⟩,?_⟩;intro mT;refine⟨⟨c.2.1,c.2.one,f4⟩,?_⟩;intro jH
 replace hr:jH.heap[w.heap.size]? =some (.cells r.1 ag (0,0)):=hr
 replace ha:jH.heap[w1.heap.size]? =some (.cells a.1 ag (0,0)):=ha
 replace hb:jH.heap[w2.heap.size]? =some (.cells b.1 ag (0,0)):=hb
 replace hc:jH.heap[w3.heap.size]? =some (.cells c.1 ag (0,0)):=hc
 replace k:Kept Nil w jH:=k
 replace l1:w.heap.size<w1.heap.size:=l1
 replace l2:w1.heap.size<w2.heap.size:=l2
 replace l3:w2.heap.size<w3.heap.size:=l3
 replace l4:w3.heap.size<jH.heap.size:=l4
 clear f1 f2 f3 f4;clear_value jH;clear mT w10 w7;clear_value w3;clear w4;clear_value w2;clear_value w1;have hTl:=hT.lt;have Tc:=k.size;have box:∀ {u:World} {S:Nat->Prop},Kept S jH u->(∀k,S k->jH.heap.size<=k)->Cells u (aP w.heap.size) r.1/\Cells u (aP w1.heap.size) a.1/\Cells u (aP w2.heap.size) b.1/\Cells u (aP w3.heap.size) c.1:=fun ku hS=>
  ⟨Cells.bL (ku.heap hr (fun e=>by have:=hS _ e;omega)),Cells.bL (ku.heap ha (fun e=>by have:=hS _ e;omega)),Cells.bL (ku.heap hb (fun e=>by have:=hS _ e;omega)),Cells.bL (ku.heap hc (fun e=>by have:=hS _ e;omega))⟩
 obtain⟨G1,G2,e1,e2,c1,c2,H2,D1,D2,_⟩:=kG2 yU wY jT 0;obtain⟨G3,e3⟩:∃G3,dE 0 G2 c [a,b]=G3:=⟨_,rfl⟩;have D3:G3.D= [⟨r,[]⟩,⟨a,[r]⟩,⟨b,[r]⟩,⟨c,dD [a,b]⟩]:=by rw [<-e3,p8,D2];exact(k3 Et jT EG BX).2
 refine⟨r.1,⟨r.2.1,Cells.bL hr⟩,iM r (k:=0) (by omega) fun pf cc q m C hm hq xV=>⟨_,_,rfl,Split.no rfl (Split.no rfl ?_)⟩⟩;obtain⟨b1,b2,b3,b4⟩:=box xV (fun _ h=>h.elim);refine⟨a.1,⟨a.2.1,b2⟩,r.1,⟨r.2.1,b1⟩,r.2.1,?_⟩;intro mo;have mX:Kept Nil pf mo:=(Kept.refl _ _).alloc _;have Mh:HS mo (some ⟨pf.heap.size,0,none⟩) 1 [r]:=jf pf r;clear_value mo;have CC:=xV.tt mX;have Yc:=CC.size;refine mM (C.same mX) (hT.same (k.tt CC)) (fun e=>by have:=hm _ (.inl e);omega) (by simp [du]) (by omega) Mh (by omega) a fun o9 F2 m2 A2 n2 p2 E2 q2 z2 C2 _ AR Sh _ _ _ _ _=>⟨_,_,rfl,?_⟩;rw [e1]at C2;have ZX:∀j,m2.own cc j->jH.heap.size<=j:=fun j e=>(Sh j e).elim (hm j) (fun h=>by omega);have M8:Kept (fun q=>jH.heap.size<=q) jH o9:=(CC.mono (S':=fun q=>jH.heap.size<=q) (fun _ _ h=>h.elim)).trans AR (fun q _ h=>hm q h);obtain⟨b1,b2,b3,b4⟩:=box M8 (fun _ h=>h);refine⟨b.1,⟨b.2.1,b3⟩,r.1,⟨r.2.1,b1⟩,r.2.1,?_⟩;intro Hq;have M5:Kept Nil o9 Hq:=(Kept.refl _ _).alloc _;have WV:HS Hq (some ⟨o9.heap.size,0,none⟩) 1 [r]:=jf o9 r;clear_value Hq;have IB:=M8.trans M5 (fun _ _ h=>h.elim);have s31:=IB.size;refine mM (C2.same M5) ((hT.same k).aF IB (fun e=>by omega)) (fun e=>by have:=ZX _ (.inl e);omega) (by rw [D1];simp) (by omega) WV (by omega) b fun sx F3 m3 A3 n3 p3 E3 q3 z3 C3 _ Cy hm3 _ _ _ _ _=>⟨_,_,rfl,?_⟩;rw [e2]at C3;have om3:∀j,m3.own cc j->jH.heap.size<=j:=fun j e=>(hm3 j e).elim (ZX j) (fun h=>by omega);have M7:Kept (fun q=>jH.heap.size<=q) jH sx:=IB.trans Cy (fun q _ h=>ZX q h);obtain⟨b1,b2,b3,b4⟩:=box M7 (fun _ h=>h)
 refine⟨c.1,⟨c.2.1,b4⟩,a.1,⟨a.2.1,b2⟩,b.1,⟨b.2.1,b3⟩,a.2.1,b.2.1,?_⟩;intro G4;have Iq:Kept Nil sx G4:=(Kept.refl _ _).alloc _;have Mg:HS G4 (some ⟨sx.heap.size,0,none⟩) 2 [a,b]:=HS.lay (l:= [a,b]) (t:=ag) (aH sx (.cells (dh [a,b]).toArray ag));clear_value G4;have IA:=M7.trans Iq (fun _ _ h=>h.elim);have s39:=IA.size;refine mM (C3.same Iq) ((hT.same k).aF IA (fun e=>by omega)) (fun e=>by have:=om3 _ (.inl e);omega) (by rw [D2];simp) (by omega) Mg (by omega) c fun OK F4 m4 A4 n4 p4 E4 q4 z4 C4 _ Pu _ _ _ _ _ _=>⟨_,_,rfl,?_⟩;rw [e3]at C4;have Iz:Kept (fun q=>jH.heap.size<=q) jH OK:=IA.trans Pu (fun q _ h=>om3 q h);have s41:=Iz.size;obtain⟨b1,b2,b3,b4⟩:=box Iz (fun _ h=>h);refine⟨c.1,⟨c.2.1,b4⟩,?_⟩;obtain⟨l,hl⟩:=cI.ex C4.fc.iA c;obtain⟨nD,Vh⟩:=aaj yU wY Et jT EG BX abY e1 e2 e3 hl;refine tM C4 (by rw [D3];simp) c hl (fun e=>absurd nD e) fun _ A5 c5 EZ ju Ip=>⟨A5,_,c5,_,rfl,?_⟩;rw [Vh]at ju⊢;intro Kp;have Yp:Kept Nil EZ Kp:=(Kept.refl _ _).drew;clear_value Kp;have Uf:=Ip.tt Yp;have M6:=Iz.trans Uf (fun _ _ h=>h.elim);obtain⟨b1,b2,b3,b4⟩:=box M6 (fun _ h=>h);have hs:=(bI.hs ju).same Yp;refine Split.yes rfl (Split.yes rfl ?_);refine hs.load (i:=0) (x:=r) (by omega) rfl ⟨r.1,⟨r.2.1,b1⟩,⟨r.2.ints,r.2.ints⟩,?_⟩;rw [dF];refine Split.yes (decide_eq_true rfl) ?_;refine hs.load (i:=1) (x:=a) (by omega) rfl ⟨a.1,⟨a.2.1,b2⟩,⟨a.2.ints,a.2.ints⟩,?_⟩;rw [dF];refine Split.yes (decide_eq_true rfl) ?_;refine hs.load (i:=2) (x:=b) (by omega) rfl ⟨b.1,⟨b.2.1,b3⟩,⟨b.2.ints,b.2.ints⟩,?_⟩;rw [dF,decide_eq_true rfl]
 exact hK Kp (k.trans M6 (fun q hq e=>by omega))
end
section
variable{w w' v:World}{S F FP FR:Nat->Prop}{c r x:Nat}{G:GS}{m:CM}{K:Value->World->Prop}
set_option maxHeartbeats 2000000 in
theorem Du{A:Option Addr}{n cx:Nat}{l:List DN}(hl:NS w FP A n l)(hn:n<9223372036854775808)(kk:Int)(root:HT)(hT:uA w)
 (lH:∀v,Kept Nil w v->K (.tuple #[.pointer none,.pointer none,.bool false,.bool true]) v)
 (hK:∀v F c m FR r x (k:Nat),kk=(k:Int)->k<=6->adR l 18->kO v F c m FR r x k (Dr k root l)->Kept Nil w v->(∀j,m.own c j\/F j\/FR j\/j=r\/j=x->w.heap.size<=j)->K (.tuple #[.pointer (some ⟨c,0,none⟩),.pointer (some ⟨r,0,none⟩),.bool true,.bool true]) v):
 bC prog aA.id #[.int .i64 kk,.agg root.1,.slice A n cx] w K:=by
 have hlen:=hl.len;refine aA.of ?_;unfold aA.W;intro w1;have k1:Kept Nil w w1:=(Kept.refl _ _).alloc _;have y7:w1.heap[w.heap.size]? =some (.cells root.1 ag (0,0)):=aH w _;clear_value w1;refine Split.dec (fun _=>lH w1 k1) (fun KA=>Split.dec (fun _=>lH w1 k1) (fun l9=>Split.dec (fun _=>lH w1 k1) (fun VA=>?_)));have VA:n<=18:=by omega
 refine aA.cC (I:=fun s v=>v=w1/\∃i:Nat,s=(none,none,false,false,(i:Int))/\i<=n/\∀nd∈l.take i,nd.ps.length<=6) (μ:=fun s _=>((n:Int)-s.2.2.2.2).toNat) (s:=(none,none,false,false,0)) ⟨rfl,0,rfl,Nat.zero_le _,by simp⟩ ?_;rintro s v ⟨rfl,i,rfl,hi,dt⟩;unfold aA.B1;refine Split.dec (fun jK=>?_) (fun gA=>?_)
 ·simp only at jK
  have dS:i<n:=by omega
  obtain⟨nd,gu⟩:∃nd,l[i]? =some nd:=⟨_,List.getElem?_eq_getElem (by omega)⟩;refine(hl.same k1).ps (i:=(i:Int)) (by omega) (by rw [Int.toNat_natCast];exact gu) fun pA pn pc qN _=>?_;have ry:=qN.len;refine Split.dec (fun xY=>lH v k1) (fun hle=>?_);simp only;rw [gF (x:=(i:Int)+1) (by omega) (by omega)];refine⟨(none,none,false,false,(i:Int)+1),rfl,⟨rfl,i+1,rfl,dS,fun md hm=>?_⟩,by simp only;omega⟩;rw [List.take_add_one,gu]at hm;simp only [Option.toList_some,List.mem_append,List.mem_singleton]at hm;rcases hm with hm|rfl
  ·exact dt md hm
  ·omega
 simp only at gA;rw [aR,aA.df];unfold aA.cU;rw [List.take_of_length_le (by omega)]at dt;obtain⟨k,rfl⟩:∃k':Nat,kk=(k':Int):=⟨kk.toNat,by omega⟩;have hk6:k<=6:=by omega
 have qN:∀nd∈l,nd.ps.length<=1000:=fun nd h=>by have:=dt nd h;omega
 have hn:=VA;refine⟨root.1,⟨root.2.1,Cells.bL y7⟩,?_⟩;refine iM root (by omega) fun w2 c q m C hm hq k2=>⟨_,_,rfl,Split.no rfl (Split.no rfl ⟨root.1,⟨root.2.1,Cells.bL (k2.heap y7 (fun h=>h))⟩,?_⟩)⟩;refine yB root k fun w3 r x FR R hFR hr hx k3=>⟨_,rfl,?_⟩;have s1:=k1.size;have s2:=k2.size;have kP:=(k1.tt k2).tt k3;have B0:kO w3 (· =q) c m FR r x k (du root):=⟨C.same k3,R,fun j hj=>by
  have gA:w2.heap.size<=j:=by rcases hj with rfl|rfl;exact hr;exact hx
  exact⟨fun e=>by have:=C.low j (.inl e);omega,fun e=>by have:=C.low j (.inr e);omega⟩,fun j hj e=>by have:=hFR j hj;have:=C.low j (.inl e);omega⟩
 refine aA.gU (I:=fun s v=>∃(i:Nat) (F:Nat->Prop) (m:CM) (FR:Nat->Prop),s=(none,none,false,false,(i:Int))/\i<=n/\kO v F c m FR r x k ((l.take i).foldl (fun G s=>dE k G s.id s.ps) (du root))/\Kept Nil w v/\∀j,m.own c j\/F j\/FR j\/j=r\/j=x->w.heap.size<=j) (μ:=fun s _=>((n:Int)-s.2.2.2.2).toNat) (s:=(none,none,false,false,0)) ⟨0,(· =q),m,FR,rfl,Nat.zero_le _,B0,kP,fun j e=>by
  rcases e with e|e|e|e|e
  ·have:=hm j e;omega
  ·have e:j=q:=e;omega
  ·have:=hFR j e;omega
  ·omega
  ·omega⟩ ?_
 clear B0 hFR hm C R hq k2 k3;rintro s v ⟨i,F,m,FR,rfl,hi,B,kv,CZ⟩;unfold aA.B2;refine Split.dec (fun cY=>?_) (fun gA=>?_)
 ·simp only at cY
  have dS:i<n:=by omega
  obtain⟨nd,gu⟩:∃nd,l[i]? =some nd:=⟨_,List.getElem?_eq_getElem (by omega)⟩;have uu:l[((i:Nat):Int).toNat]? =some nd:=by rw [Int.toNat_natCast];exact gu
  have ry:=qN nd (List.mem_of_getElem? gu);have Nt:=Dd (k:=k) (G:=du root) gu;have YZ:=tn k (l.take i) (du root);rw [List.length_take]at YZ;have hD1:(du root).D.length=1:=rfl;generalize hG:(l.take i).foldl (fun G s=>dE k G s.id s.ps) (du root)=G at B Nt YZ;have hTl:=hT.lt;have oH:=B.low;have sv:=kv.size;have j2:∀ {u:World} {F' Zq:Nat->Prop} {m':CM},kO u F' c m' Zq r x k (dE k G nd.id nd.ps)->Kept Nil w u->(∀j,m'.own c j\/F' j\/Zq j\/j=r\/j=x->w.heap.size<=j)->
   aA.J2 A n cx none none false false (some ⟨c,0,none⟩) (some ⟨r,0,none⟩) (i:Int) (dL G.D nd.id nd.ps) (dL G.D nd.id nd.ps) (bR (aA.e2 A n cx (some ⟨c,0,none⟩) (some ⟨r,0,none⟩)) (fun s v=>∃(i:Nat) (F:Nat->Prop) (m:CM) (FR:Nat->Prop),s=(none,none,false,false,(i:Int))/\i<=n/\kO v F c m FR r x k ((l.take i).foldl (fun G s=>dE k G s.id s.ps) (du root))/\Kept Nil w v/\∀j,m.own c j\/F j\/FR j\/j=r\/j=x->w.heap.size<=j) (fun s _=>((n:Int)-s.2.2.2.2).toNat) (none,none,false,false,(i:Int)) v (aA.q2 K)) u:=by
   intro u F' Zq m' B' ku acs;unfold aA.J2;refine Split.no (by simp) ?_;rw [dM (n:=(i:Int)) (by omega) (by omega)];refine⟨(none,none,false,false,(i:Int)+1),rfl,⟨i+1,F',m',Zq,rfl,dS,?_,ku,acs⟩,by simp only;omega⟩;rw [Nt];exact B'
  have j1:∀ {u u0:World} {F':Nat->Prop} {m':CM},CV u0 F' c k (dE k G nd.id nd.ps) m'->Kept (m.own c) v u0->(∀j,m'.own c j->m.own c j\/v.heap.size<=j)->(∀j,F' j->F j\/v.heap.size<=j)->Kept Nil u0 u->
   aA.J1 A n cx none none false false (some ⟨c,0,none⟩) (some ⟨r,0,none⟩) (i:Int) (dL G.D nd.id nd.ps) (bR (aA.e2 A n cx (some ⟨c,0,none⟩) (some ⟨r,0,none⟩)) (fun s v=>∃(i:Nat) (F:Nat->Prop) (m:CM) (FR:Nat->Prop),s=(none,none,false,false,(i:Int))/\i<=n/\kO v F c m FR r x k ((l.take i).foldl (fun G s=>dE k G s.id s.ps) (du root))/\Kept Nil w v/\∀j,m.own c j\/F j\/FR j\/j=r\/j=x->w.heap.size<=j) (fun s _=>((n:Int)-s.2.2.2.2).toNat) (none,none,false,false,(i:Int)) v (aA.q2 K)) u:=by
   intro u u0 F' m' hC k0 nA JA ku;unfold aA.J1;have aaa:Kept Nil w u0:=kv.trans k0 (fun j hj e=>by have:=CZ j (.inl e);omega);have RM:Kept Nil w u:=aaa.tt ku;have suv:=k0.size;have suu:=ku.size;intro u1;have F7:Kept Nil u u1:=(Kept.refl _ _).drew;clear_value u1;have F0:=RM.tt F7;have s11:=F7.size;have Ux:∀ {t:World},Kept Nil w t->Cells t (((A.get!).add (((i:Nat):Int).toNat*33)).add 0) nd.id.1:=by
    intro t kt;obtain⟨a,pA,pn,pc,rfl,_,_,h4,_,_⟩:=(hl.aF kt (fun _ _ h=>h)).at_ i nd gu;intro j z hj;rw [add_zero,Int.toNat_natCast];exact h4 j z (vt hj)
   have ps1:∃a pA pn pc,A=some a/\HS w pA pn nd.ps/\∀ {t:World},Kept Nil w t->t.cell? ((a.add (((i:Nat):Int).toNat*33)).add 32)=some (.slice pA pn pc):=by
    obtain⟨a,pA,pn,pc,rfl,_,_,h4,h5,_⟩:=hl.at_ i nd gu;exact⟨a,pA,pn,pc,rfl,h5,fun kt=>by rw [Int.toNat_natCast];exact kt.cell (h4 32 _ (qo _ _)) (fun h=>h)⟩
   obtain⟨a,pA,pn,pc,rfl,CR,qC⟩:=ps1;have LO:=CR.len;have hb:0<=(i:Int)/\(i:Int)<(n:Int):=⟨by omega,by omega⟩;refine⟨hb,Is.mk rfl ⟨nd.id.1,⟨nd.id.2.1,Ux F0⟩,hb,Is.mk rfl ⟨pA,pn,pc,qC F0,?_,?_⟩⟩⟩
   ·obtain⟨hR,Q5⟩:=B.after k0 nA JA hC (ku.tt F7)
    refine vn hR (by omega) (by omega) (CR.same F0) (by omega) nd.id fun t A2 n2 p2 E2 e2 q2 hRt kt Sh lE adf=>⟨_,_,rfl,?_⟩;have B':=Q5 t hRt kt;have st:=kt.size;intro t1;have kt1:Kept Nil t t1:=(Kept.refl _ _).alloc _;have Nn:t1.heap[t.heap.size]? =some (.cells zC br (0,0)):=aH t _;clear_value t1;obtain⟨z1,z2,z3⟩:=dU Nn (cs:=cS (nZ k G nd.id nd.ps) A2 n2 p2 E2 e2 q2) (by rw [a8];rfl);refine⟨⟨a8 ..,eh _ _ _ _ _ _ _,fun j hj=>z1 j (by rw [a8];exact hj)⟩,?_⟩;have kt2:Kept Nil t (setCells t1 ⟨t.heap.size,0,none⟩ (cS (nZ k G nd.id nd.ps) A2 n2 p2 E2 e2 q2).toList 0):=kt1.trans z3 (fun j hj e=>by omega);refine aA.qM (j2 (B'.same kt2) (F0.trans (kt.trans kt2 (fun _ _ h=>h.elim)) (fun j hj e=>by have:=CZ j (.inr (.inr (.inr e)));omega)) fun j e=>?_);rcases e with e|e|(e|e)|e
    ·rcases nA j e with e|e
     ·exact CZ j (.inl e)
     ·omega
    ·rcases JA j e with e|e
     ·exact CZ j (.inr (.inl e))
     ·omega
    ·exact CZ j (.inr (.inr (.inl e)))
    ·omega
    ·exact CZ j (.inr (.inr (.inr e)))
   ·intro u2
    have Ks:Kept Nil u1 u2:=(Kept.refl _ _).alloc _;have Nl:u2.heap[u1.heap.size]? =some (.cells zC br (0,0)):=aH u1 _;clear_value u2;have Lg:=F0.tt Ks;have s22:=Ks.size;refine⟨qC Lg,⟨_,rfl,nd.id.2.1,Ux Lg⟩,?_⟩;obtain⟨hR,Q5⟩:=B.after k0 nA JA hC ((ku.tt F7).tt Ks);refine vn hR (by omega) (by omega) (CR.same Lg) (by omega) nd.id fun t A2 n2 p2 E2 e2 q2 hRt kt Sh lE adf=>⟨_,_,rfl,?_⟩;have B':=Q5 t hRt kt;have st:=kt.size;have nrx:∀j,v.heap.size<=j->¬(j=r\/j=x):=fun j hj e=>by have:=oH j (.inr (.inr (.inr e)));omega
    have hxt:=kt.heap Nl (nrx _ (by omega));obtain⟨z1,z2,z3⟩:=dU hxt (cs:=cS (nZ k G nd.id nd.ps) A2 n2 p2 E2 e2 q2) (by rw [a8];rfl);refine⟨⟨a8 ..,eh _ _ _ _ _ _ _,fun j hj=>z1 j (by rw [a8];exact hj)⟩,?_⟩;have lo0:∀j,m'.own c j\/F' j->j<u1.heap.size:=fun j e=>by have:=hC.low j e;omega
    have B2:kO (setCells t ⟨u1.heap.size,0,none⟩ (cS (nZ k G nd.id nd.ps) A2 n2 p2 E2 e2 q2).toList 0) F' c m' (fun j=>FR j\/(u2.heap.size<=j/\j<t.heap.size)) r x k (dE k G nd.id nd.ps):=B'.aF z3 (fun j e e'=>by
     have l1:=aU Nl;rcases e with e|e|(e|e)|e
     ·have:=lo0 j (.inl e);omega
     ·have:=lo0 j (.inr e);omega
     ·have:=B.R.lo j e;omega
     ·omega
     ·have:=oH j (.inr (.inr (.inr e)));omega)
    have kut:Kept (fun j=>j=r\/j=x) u t:=((F7.tt Ks).mono fun _ _ h=>h.elim).tt kt;have ah7:Kept (fun j=>j=r\/j=x) u _:=kut.trans z3 (fun j hj e=>by omega);refine aA.qM (j2 B2 ((Lg.trans kt (fun j hj e=>by have:=CZ j (.inr (.inr (.inr e)));omega)).trans z3 (fun j hj e=>by have:=F0.size;omega)) fun j e=>?_)
    ·rcases e with e|e|(e|e)|e
     ·rcases nA j e with e|e
      ·exact CZ j (.inl e)
      ·omega
     ·rcases JA j e with e|e
      ·exact CZ j (.inr (.inl e))
      ·omega
     ·exact CZ j (.inr (.inr (.inl e)))
     ·omega
     ·exact CZ j (.inr (.inr (.inr e)))
  intro w2;have k2:Kept Nil v w2:=(Kept.refl _ _).drew;clear_value w2;have TS:=kv.tt k2;have sv2:=k2.size;have Ux:∀ {t:World},Kept Nil w t->Cells t ((A.get!.add (((i:Nat):Int).toNat*33)).add 0) nd.id.1:=by
   intro t kt;obtain⟨a,pA,pn,pc,rfl,_,_,h4,_,_⟩:=(hl.aF kt (fun _ _ h=>h)).at_ i nd gu;intro j z hj;rw [add_zero,Int.toNat_natCast];exact h4 j z (vt hj)
  obtain⟨a,pA,pn,pc,hA,CR,qC⟩:∃a pA pn pc,A=some a/\HS w pA pn nd.ps/\∀ {t:World},Kept Nil w t->t.cell? ((a.add (((i:Nat):Int).toNat*33)).add 32)=some (.slice pA pn pc):=by
   obtain⟨a,pA,pn,pc,hA,_,_,h4,h5,_⟩:=hl.at_ i nd gu;exact⟨a,pA,pn,pc,hA,h5,fun kt=>by rw [Int.toNat_natCast];exact kt.cell (h4 32 _ (qo _ _)) (fun h=>h)⟩
  subst hA;have LO:=CR.len;have hb:0<=(i:Int)/\(i:Int)<(n:Int):=⟨by omega,by omega⟩;have KF:¬m.SX (Tryz.jV.g 1):=fun e=>by have:=CZ _ (.inl (.inl e));omega
  refine⟨hb,Is.mk rfl ⟨nd.id.1,⟨nd.id.2.1,Ux TS⟩,hb,Is.mk rfl ⟨pA,pn,pc,qC TS,?_,?_⟩⟩⟩
  ·refine mM (B.C.same k2) (hT.same TS) KF (by omega) (by omega) (CR.same TS) (by omega) nd.id fun u F' m' A1 n1 p1 E1 e1 q1 hC _ ku nA JA rA rE _ _=>⟨_,_,rfl,?_⟩
   intro u1;have F7:Kept Nil u u1:=(Kept.refl _ _).alloc _;have Nn:u1.heap[u.heap.size]? =some (.cells zC br (0,0)):=aH u _;clear_value u1;obtain⟨z1,z2,z3⟩:=dU Nn (cs:=cS (nZ k G nd.id nd.ps) A1 n1 p1 E1 e1 q1) (by rw [a8];rfl);refine⟨⟨a8 ..,eh _ _ _ _ _ _ _,fun j hj=>z1 j (by rw [a8];exact hj)⟩,?_⟩;have Ks:Kept Nil u (setCells u1 ⟨u.heap.size,0,none⟩ (cS (nZ k G nd.id nd.ps) A1 n1 p1 E1 e1 q1).toList 0):=F7.trans z3 (fun j hj e=>by omega);have su:=ku.size;refine aA.mF (j1 hC ((k2.mono fun _ _ h=>h.elim).tt ku) (fun j e=>(nA j e).imp (fun h=>h) (fun h=>by omega)) (fun j e=>(JA j e).imp (fun h=>h) (fun h=>by omega)) Ks)
  ·intro w3
   have k3:Kept Nil w2 w3:=(Kept.refl _ _).alloc _;have AY:w3.heap[w2.heap.size]? =some (.cells zC br (0,0)):=aH w2 _;clear_value w3;have MY:=TS.tt k3;have s23:=k3.size;have l3:=aU AY;refine⟨qC MY,⟨_,rfl,nd.id.2.1,Ux MY⟩,?_⟩;refine mM (B.C.same (k2.tt k3)) (hT.same MY) KF (by omega) (by omega) (CR.same MY) (by omega) nd.id fun u F' m' A1 n1 p1 E1 e1 q1 hC _ ku nA JA rA rE _ _=>⟨_,_,rfl,?_⟩;have su:=ku.size;have hxu:=ku.heap AY (fun e=>by have:=oH _ (.inl e);omega);obtain⟨z1,z2,z3⟩:=dU hxu (cs:=cS (nZ k G nd.id nd.ps) A1 n1 p1 E1 e1 q1) (by rw [a8];rfl);refine⟨⟨a8 ..,eh _ _ _ _ _ _ _,fun j hj=>z1 j (by rw [a8];exact hj)⟩,?_⟩;have no1:∀j,m'.own c j->j≠w2.heap.size:=fun j e e'=>by
    rcases nA j e with e|e
    ·have:=oH j (.inl e);omega
    ·omega
   have no2:∀j,F' j->j≠w2.heap.size:=fun j e e'=>by
    rcases JA j e with e|e
    ·have:=oH j (.inr (.inl e));omega
    ·omega
   refine aA.mF (j1 (hC.aF z3 no1 no2) ((((k2.tt k3).mono fun _ _ h=>h.elim).tt ku).trans z3 (fun j hj e=>by omega)) (fun j e=>(nA j e).imp (fun h=>h) (fun h=>by omega)) (fun j e=>(JA j e).imp (fun h=>h) (fun h=>by omega)) (Kept.refl _ _))
 ·simp only at gA
  have:i=n:=by omega
  subst this;rw [aR,aA.jN];rw [List.take_of_length_le (by omega)]at B;exact hK v F c m FR r x k rfl hk6 ⟨dt,by omega⟩ B kv CZ
end
section
variable{w w' v:World}{F FP FR:Nat->Prop}{c r x k:Nat}{G:GS}{m:CM}{K:Value->World->Prop}{ch:List HT}{h z:HT}
set_option maxHeartbeats 2000000 in
theorem Tt{Q:aO}{lp rb wb nb ub ab xb nl cl nu cu i:Nat}{Al Au:Option Addr}{y:HT}(R:R3 v FR r x k G)(hD:G.D.length<=40)(hh:h∈ids G.D)(kQ:cI G.D G.P h ch)(hy:(ch.reverse.drop 1)[i]? =some y)
 (No:v.heap[wb]? =some (.cells #[.pointer (some ⟨r,0,none⟩)] dz (0,0))) (Ew:v.heap[nb]? =some (.cells #[.int .i64 (sE G.D h)] eW (0,0))) (IN:v.heap[ub]? =some (.cells #[.slice Au nu cu] ay (0,0)))
 (jT:v.heap[ab]? =some (.cells #[.int .i64 ((i+1:Nat):Int)] eW (0,0))) (Nj:v.heap[xb]? =some (.cells y.1 ag (0,0))) (LC:HS v Au nu ch.reverse) (hl:HS v Al nl (jO G y))
 (hq:∀u,u.heap[ab]? =some (.cells #[.int .i64 ((i+1+1:Nat):Int)] eW (0,0))->Kept (· =ab) v u->Q .normal [] u):
 ao.Y1 lp ⟨rb,0,none⟩ ⟨wb,0,none⟩ ⟨nb,0,none⟩ ⟨ub,0,none⟩ ⟨ab,0,none⟩ ⟨xb,0,none⟩ Al nl cl Q v:=by
 have H:=R.fc;have W:=H.W;have Gs:=kQ.yL H.iA;have RY:=rI H kQ y (List.mem_of_getElem? hy);have dS:=(lgeS hy).1;rw [List.length_drop,List.length_reverse]at dS;have hnu:=LC.len;rw [List.length_reverse]at hnu;unfold ao.Y1;intro w1;have k1:Kept Nil v w1:=(Kept.refl _ _).drew;clear_value w1;have R1:=R.same k1;have W4:=pZ.2 hh;refine⟨_,by rw [aD (k1.heap Ew (fun h=>h))];rfl,Split.no (decide_eq_false (by omega)) ⟨_,by rw [aD (k1.heap jT (fun h=>h))];rfl,_,_,_,by rw [aD (k1.heap IN (fun h=>h))];rfl,Split.no (decide_eq_false (by omega)) ?_⟩⟩;refine⟨y.1,⟨y.2.1,Cells.bL (k1.heap Nj (fun h=>h))⟩,_,_,_,by rw [aD (k1.heap IN (fun h=>h))];rfl,_,by rw [aD (k1.heap jT (fun h=>h))];rfl,?_⟩;have hyu:ch.reverse[i+1]? =some y:=by
  rw [List.getElem?_drop]at hy;rw [show i+1=1+i by omega];exact hy
 refine(LC.same k1).load (i:=((i+1:Nat):Int)) (x:=y) (by omega) (by rw [Int.toNat_natCast];exact hyu) ⟨⟨y.2.ints,y.2.ints⟩,Split.no (by rw [dF,decide_eq_true rfl];rfl) ?_⟩;intro w2;have k2:Kept Nil w1 w2:=(Kept.refl _ _).drew;clear_value w2;have jE:=k1.tt k2;have R2:=R.same jE;obtain⟨aa,ca,A1,n1,c1,B1,m1,d1,z1,z2,z3,z4,_,z5,z6⟩:=R2.Ou RY;have nf:=(nV H RY).1;have Gm:=z4.len;have rl:∀ {u:World},Kept Nil w2 u->Cells u (aa.add ((sE G.D y).toNat*35)) (cS (G.fZ y) A1 n1 c1 B1 m1 d1):=fun ku=>Cells.aF z3 ku (fun h=>h);have rd:∀ {u:World},Kept Nil w2 u->u.cell? ((⟨r,0,none⟩:Addr).add 2)=some (.slice (some aa) G.D.length ca):=fun ku=>ku.cell z1 (fun h=>h);have CG:∀ {u:World},Kept Nil w2 u->u.cell? (⟨wb,0,none⟩:Addr)=some (.pointer (some ⟨r,0,none⟩)):=fun ku=>by rw [aD ((jE.tt ku).heap No (fun h=>h))];rfl
 have fin:∀ {u:World} {q:Nat},u.heap[q]? =some (.cells (cS (G.fZ y) A1 n1 c1 B1 m1 d1) br (0,0))->Kept Nil w2 u->
  ∃be:Array Value,(be.size=32/\Cells u ((⟨q,0,none⟩:Addr).add 0) be)/\be.size=32/\∃de:Option Addr,∃ee fe:Nat,(u.alloc (.cells (be.toList++ []).toArray ag)).cell? ((⟨q,0,none⟩:Addr).add 33)=some (.slice de ee fe)/\
   ∃(ge:Option Addr) (ie je:Nat) (ke:World),(Builtin.append_ #[ay,ay] ay #[.slice (some (aP u.heap.size)) 1 1,.slice de ee fe]).run prog (u.alloc (.cells (be.toList++ []).toArray ag))=.ok (.slice ge ie je) ke/\
   bC prog cf.id #[.slice Al nl cl,.slice ge ie je] ke fun me ne=>∃oe:Bool,me=.bool oe/\Split (!oe) (Wr ne (⟨rb,0,none⟩:Addr)/\Q .ret [(24,.pointer (some ⟨ab,0,none⟩))] (ne.setCell (⟨rb,0,none⟩:Addr) (.bool false)))
    (∃qe:Int,ne.cell? (⟨ab,0,none⟩:Addr)=some (.int .i64 qe)/\Wr ne (⟨ab,0,none⟩:Addr)/\Q .normal [] (ne.setCell (⟨ab,0,none⟩:Addr) (.int .i64 (i64.wrap (qe+(1:Int)))))):=by
  intro u q hx ku;refine⟨_,⟨(G.fZ y).iA.2.1,(lF hx).1⟩,(G.fZ y).iA.2.1,?_⟩;have k3:Kept Nil u (u.alloc (.cells ((G.fZ y).iA.1.toList++ []).toArray ag)):=(Kept.refl _ _).alloc _;have lj:bI _ u.heap.size (some ⟨u.heap.size,0,none⟩) 1 1 [(G.fZ y).iA]:=yy u _ (Nat.le_refl _);generalize u.alloc (.cells ((G.fZ y).iA.1.toList++ []).toArray ag)=w3 at k3 lj⊢;refine⟨A1,n1,c1,(lF (k3.heap hx (fun h=>h))).2.2.1,?_⟩;have Ea:=ku.tt k3;have s3:=k3.size;obtain⟨A4,c4,w4,wJ,iC,g4,_⟩:=cK ay lj (cx:=c1) (z4.same Ea) (by omega) s3;have k4:Kept Nil u w4:=Kept.dO k3 g4 (fun j hj=>(Row.bL lj hj).1);refine⟨A4,_,c4,w4,wJ,?_⟩;have mE:=jE.tt (ku.tt k4);have YH:=hl.same mE;have yX:=YH.len;have BU:=uZ H RY;refine sP (l':=jO G y) YH iC.hs (by omega) fun w5 k5=>⟨_,rfl,Split.no (by rw [decide_eq_true rfl];rfl) ?_⟩;have q9:=mE.tt k5;have Q7:=q9.heap jT (fun h=>h);refine⟨_,by rw [aD Q7];rfl,dm Q7 (by simp),?_⟩;rw [dM (n:=((i+1:Nat):Int)) (by omega) (by omega)];refine hq _ ?_ ((q9.mono fun _ _ h=>h.elim).tt (Kept.setCell (S:=fun j=>j=ab) (Kept.refl _ _) (p:=⟨ab,0,none⟩) (fun _=>rfl) _));rw [cV Q7 0];rfl
 refine⟨_,CG (Kept.refl _ _),Is.mk rfl ⟨_,_,ca,z1,_,CG (Kept.refl _ _),Is.mk rfl ⟨_,R2.c1,Is.mk rfl ⟨y.1,⟨y.2.1,Cells.bL (jE.heap Nj (fun h=>h))⟩,?_,?_⟩⟩⟩⟩
 ·rw [add_zero]
  refine jI R2.X.gr (by omega) y fun w3 k3=>⟨_,rfl,rd k3,CG k3,z2,Is.mk rfl ⟨_,⟨a8 ..,rl k3⟩,?_⟩⟩;intro w4;have k4:Kept Nil w3 w4:=(Kept.refl _ _).alloc _;obtain⟨t1,t2,t3⟩:=zi w3 (G.fZ y) A1 n1 c1 B1 m1 d1;have mX:=k3.tt k4;refine⟨⟨_,rfl,a8 ..,rl mX⟩,rd mX,CG mX,t1,?_⟩;exact fin t2 (k3.tt t3)
 ·intro w3
  have k3:Kept Nil w2 w3:=(Kept.refl _ _).alloc _;have AY:w3.heap[w2.heap.size]? =some (.cells zC br (0,0)):=aH w2 _;clear_value w3;refine⟨⟨_,rfl,y.2.1,Cells.bL ((jE.tt k3).heap Nj (fun h=>h))⟩,(R2.same k3).c1,CG k3,rd k3,CG k3,?_⟩;rw [add_zero];refine jI (R2.same k3).X.gr (by omega) y fun w4 k4=>?_;have mX:=k3.tt k4;obtain⟨t1,t2,t3⟩:=dU (k4.heap AY (fun h=>h)) (cs:=cS (G.fZ y) A1 n1 c1 B1 m1 d1) (by rw [a8];rfl);refine⟨_,rfl,rd mX,CG mX,z2,Is.mk rfl ⟨_,⟨a8 ..,rl mX⟩,⟨a8 ..,eh _ _ _ _ _ _ _,fun j hj=>t1 j (by rw [a8];exact hj)⟩,?_⟩⟩;exact fin t2 (mX.trans t3 (fun j hj e=>by omega))
end
section
variable{w w' v:World}{F FP FR:Nat->Prop}{c r x k:Nat}{G:GS}{m:CM}{K:Value->World->Prop}{ch:List HT}{h z:HT}
def zu(D:DG)(h:HT)(l:List HT)(u:World)(A:Option Addr)(n:Nat)(e:Int):Prop:=(h∉ids D/\e=6)\/(h∈ids D/\e=0/\HS u A n l)
theorem zu.same{D:DG}{l:List HT}{A:Option Addr}{n:Nat}{e:Int}(H:zu D h l v A n e)(hk:Kept Nil v w):zu D h l w A n e:=by
 rcases H with H|⟨h1,h2,h3⟩
 ·exact .inl H
 ·exact .inr ⟨h1,h2,h3.same hk⟩
theorem GH{D:DG}{P:List Int}(hc:cI D P h ch)(hn:h∉ids D):ch= []:=by
 rcases hc with⟨_,rfl⟩|⟨i,nd,ks,h1,h2,_,_⟩
 ·rfl
 ·exact absurd (dr.2 ⟨nd,List.mem_of_getElem? h1,h2⟩) hn
set_option maxHeartbeats 2000000 in
theorem Ts{Q:aO}{rb wb hb nb ub ab n13 zD nx cx ny cy cu:Nat}{uC Ax Ay Au:Option Addr}{g ex ey:Int}{uw:Value}{ys ms:Array Value}(R:R3 v FR r x k G)(hD:G.D.length<=40)(kQ:cI G.D G.P h ch)
 (No:v.heap[wb]? =some (.cells #[.pointer (some ⟨r,0,none⟩)] dz (0,0))) (NU:v.heap[hb]? =some (.cells h.1 ag (0,0))) (Ew:v.heap[nb]? =some (.cells #[.int .i64 (sE G.D h)] eW (0,0)))
 (IN:v.heap[ub]? =some (.cells #[.slice Au ch.length cu] ay (0,0))) (jT:v.heap[ab]? =some (.cells #[.int .i64 (((ch.reverse.drop 1).length+1:Nat):Int)] eW (0,0)))
 (LC:HS v Au ch.length ch.reverse) (hX:zu G.D h ch.reverse v Ax nx ex) (hY:zu G.D h (jc G ch) v Ay ny ey)
 (hq:∀u,Kept Nil v u->Q .normal [(8,.pointer (some ⟨rb,0,none⟩)),(9,.pointer (some ⟨c,0,none⟩)),(10,.pointer (some ⟨wb,0,none⟩)),(13,.slice uC n13 zD),(15,.int .i64 (i64.wrap (g+(1:Int)))),(4294967296,.agg ms)] u):
 ao.fD ⟨rb,0,none⟩ (some ⟨c,0,none⟩) ⟨wb,0,none⟩ uC n13 zD g ⟨hb,0,none⟩ ⟨nb,0,none⟩ Ax nx cx ex Ay ny cy ey ⟨ub,0,none⟩ ⟨ab,0,none⟩ uw ys ms Q v:=by
 have H:=R.fc;have Gs:=kQ.yL H.iA;unfold ao.fD;refine⟨_,by rw [aD Ew];rfl,?_⟩;by_cases hh:h∈ids G.D
 ·have W4:=pZ.2 hh
  refine Split.no (decide_eq_false (by omega)) ?_;rcases hX with⟨e,_⟩|⟨_,rfl,hx⟩
  ·exact absurd hh e
  rcases hY with⟨e,_⟩|⟨_,rfl,hy⟩
  ·exact absurd hh e
  obtain⟨rr,hr⟩:=kQ.cons H.W H.iA hh;have uN:1<=ch.length:=by rw [hr];simp
  have el:((ch.reverse.drop 1).length+1:Nat)=ch.length:=by
   rw [List.length_drop,List.length_reverse];omega
  rw [el]at jT;refine Split.no rfl (Split.no rfl ⟨_,by rw [aD jT];rfl,_,_,_,by rw [aD IN];rfl,Split.no (by simp) ⟨_,_,_,by rw [aD IN];rfl,?_⟩⟩);have sZ:=hx.len;rw [List.length_reverse]at sZ;refine sP hx LC (by omega) fun w1 k1=>⟨_,rfl,Split.no (by rw [decide_eq_true rfl];rfl) ⟨_,by rw [aD (k1.heap No (fun h=>h))];rfl,h.1,⟨h.2.1,Cells.bL (k1.heap NU (fun h=>h))⟩,?_⟩⟩;refine vm (R.same k1) (by omega) h kQ fun A2 c2 w2 fV k2=>⟨A2,_,c2,rfl,?_⟩;have jE:=k1.tt k2;have Vh:=K5 H kQ;have hsq:G.D.length*(G.D.length+1)<=40*41:=Nat.mul_le_mul (by omega) (by omega);have hyl:=hy.len;refine sP (hy.same jE) (bI.hs fV) (by omega) fun w3 k3=>⟨_,rfl,Split.no (by rw [decide_eq_true rfl];rfl) (hq w3 (jE.tt k3))⟩
 ·have W4:=oM.2 hh
  refine Split.yes (decide_eq_true W4) ?_;have e1:ex=6:=by
   rcases hX with⟨_,e⟩|⟨e,_⟩
   ·exact e
   ·exact absurd e hh
  have e2:ey=6:=by
   rcases hY with⟨_,e⟩|⟨e,_⟩
   ·exact e
   ·exact absurd e hh
  subst e1 e2;exact Split.no rfl (Split.no rfl (hq v (Kept.refl _ _)))
set_option maxHeartbeats 2000000 in
theorem HX{Q:aO}{y:World}{rb wb hb nb ub pb qb n13 zD nx cx ny cy cu:Nat}{uC Ax Ay Au:Option Addr}{g ex ey:Int}{Ms:List Nat}(B:kO y F c m FR r x k G)(hD:G.D.length<=40)(kQ:cI G.D G.P h ch)
 (No:y.heap[wb]? =some (.cells #[.pointer (some ⟨r,0,none⟩)] dz (0,0))) (NU:y.heap[hb]? =some (.cells h.1 ag (0,0))) (Ew:y.heap[nb]? =some (.cells #[.int .i64 (sE G.D h)] eW (0,0)))
 (IN:y.heap[ub]? =some (.cells #[.slice Au ch.length cu] ay (0,0))) (LC:HS y Au ch.length ch.reverse) (hX:zu G.D h ch.reverse y Ax nx ex) (hY:zu G.D h (jc G ch) y Ay ny ey)
 (hp:y.heap[pb]? =some (.cells #[.pointer (some ⟨c,0,none⟩)] dQ (0,0))) (U1:y.heap[qb]? =some (.cells h.1 ag (0,0)))
 {v:World} (hyv:Kept Nil y v) (jT:v.heap[y.heap.size]? =some (.cells #[.int .i64 1] eW (0,0)))
 (hq:∀u,Kept Nil y u->u.heap[v.heap.size]? =some (.deferred (some []))->Q .normal [(8,.pointer (some ⟨rb,0,none⟩)),(9,.pointer (some ⟨c,0,none⟩)),(10,.pointer (some ⟨wb,0,none⟩)),(13,.slice uC n13 zD),(15,.int .i64 (i64.wrap (g+(1:Int)))),(4294967296,.agg (gS (v.heap.size::Ms)))] u):
 Holds none [] prog 198 (bB (sR (sL (fk (bB (sL (sR (lB (bB (sR (sL (bU (sR (body Tryz.f6)))))))))))))) (ao.uG Q) [(8,.pointer (some ⟨rb,0,none⟩)),(9,.pointer (some ⟨c,0,none⟩)),(10,.pointer (some ⟨wb,0,none⟩)),(13,.slice uC n13 zD),(15,.int .i64 g),(16,.pointer (some ⟨hb,0,none⟩)),(17,.pointer (some ⟨nb,0,none⟩)),(18,.slice Ax nx cx),(19,.int .i64 ex),(20,.slice Ay ny cy),(21,.int .i64 ey),(23,.pointer (some ⟨ub,0,none⟩)),(24,.pointer (some ⟨y.heap.size,0,none⟩)),(119,.func (.func bu.id) #[] #[.pointer (some ⟨pb,0,none⟩),.pointer (some ⟨qb,0,none⟩)]),(4294967296,.agg (gS Ms))] v:=by
 have H:=B.C.fc;have Gs:=kQ.yL H.iA;generalize akt:y.heap.size=ab at jT⊢;have lab:=aU jT;have syv:=hyv.size
 let uw:Value:=.func (.func bu.id) #[] #[.pointer (some ⟨pb,0,none⟩),.pointer (some ⟨qb,0,none⟩)]
 let ρ0:Env:= [(8,.pointer (some ⟨rb,0,none⟩)),(9,.pointer (some ⟨c,0,none⟩)),(10,.pointer (some ⟨wb,0,none⟩)),(13,.slice uC n13 zD),(15,.int .i64 g),(16,.pointer (some ⟨hb,0,none⟩)),(17,.pointer (some ⟨nb,0,none⟩)),(18,.slice Ax nx cx),(19,.int .i64 ex),(20,.slice Ay ny cy),(21,.int .i64 ey),(23,.pointer (some ⟨ub,0,none⟩)),(24,.pointer (some ⟨ab,0,none⟩)),(119,uw)]
 let xs:=ch.reverse.drop 1
 let J:Nat->(Nat->Prop)->World->Prop:=fun i Pr u=>i<=xs.length/\Kept (· =ab) v u/\u.heap[ab]? =some (.cells #[.int .i64 ((i+1:Nat):Int)] eW (0,0))/\∀j,Pr j->j≠ab
 have kJ:∀ {u:World},Kept (· =ab) v u->Kept Nil y u:=fun k=>hyv.trans k (fun j hj e=>by omega)
 change Holds none [] prog _ _ _ (ρ0++ [(gm,.agg (gS Ms))]) v
 refine tK (n:=198) (ρ:=ρ0++ [(gm,.agg (gS Ms))]) (ρ0:=ρ0) ng mix ao.k (t:=119) (ps:= #[120,121]) (by kernel_rfl) (by decide) rfl bu.at_ rfl (.inr ⟨_,rfl⟩) (fun i x hi hx=>(yf (ρ:=ρ0) (.agg (gS Ms)) hi).trans hx) rfl xs (HD G) (fun x vs u hE=>by obtain⟨A,n,cx,B,rfl,_⟩:=hE;rfl) (fun q hq=>by
  have Rp:q=120\/q=121:=by simpa using hq
  rcases Rp with rfl|rfl<;>exact⟨by decide,by decide⟩) (uY (F:=F) (c:=c) (k:=k) (m:=m) (pb:=pb) (qb:=qb) kQ (by omega)) J (fun _ _=>False) ?_ (fun _ _ _ _ _ h=>h.elim) (fun i Pr u hJ=>⟨B.C.same (kJ hJ.2.1),(kJ hJ.2.1).heap hp (fun h=>h),(kJ hJ.2.1).heap U1 (fun h=>h)⟩) ?_ ?_ ?_ (fun _ _ h=>h.elim) (fun _ _ _ h=>h.elim)
 ·rintro i Pr MI u1 u2 R nC ⟨h0,h1,h2,h3⟩ hk Ja
  have s1:=h1.size;refine⟨h0,h1.trans hk (fun j hj e=>by omega),hk.heap h2 (by omega),fun j hj=>?_⟩;rcases Ja j hj with e|e
  ·exact h3 j e
  ·omega
 ·intro R
  exact⟨Nat.zero_le _,((Kept.refl _ _).alloc _).alloc _,iI (iI jT _) _,fun j hj=>hj.elim⟩
 ·rintro i z vs Pr u1 R hx ⟨A2,n2,c2,B2,rfl,yS⟩ ⟨h0,h1,h2,h3⟩ nC LN
  have e7:kl ρ0 ((#[120,121]:Array Nat).toList.zip [.agg z.1,.slice A2 n2 c2])= [(8,.pointer (some ⟨rb,0,none⟩)),(9,.pointer (some ⟨c,0,none⟩)),(10,.pointer (some ⟨wb,0,none⟩)),(13,.slice uC n13 zD),(15,.int .i64 g),(16,.pointer (some ⟨hb,0,none⟩)),(17,.pointer (some ⟨nb,0,none⟩)),(18,.slice Ax nx cx),(19,.int .i64 ex),(20,.slice Ay ny cy),(21,.int .i64 ey),(23,.pointer (some ⟨ub,0,none⟩)),(24,.pointer (some ⟨ab,0,none⟩)),(119,uw),(120,.agg z.1),(121,.slice A2 n2 c2)]:=rfl;rw [e7,ao.a1];unfold ao.A1;have dS:i<xs.length:=(lgeS hx).1;have hh:h∈ids G.D:=Classical.byContradiction fun e=>by
   have:=GH kQ e;rw [show xs=ch.reverse.drop 1 from rfl,this]at dS;simp at dS
  intro w8;obtain⟨t1,t2,t3⟩:=v7 u1 z;refine⟨t1,?_⟩;intro w9
  replace t2:w9.heap[u1.heap.size]? =some (.cells z.1 ag (0,0)):=t2
  replace t3:Kept Nil u1 w9:=t3
  clear_value w9;have hl9:=nC.aF t3 (fun h=>h) (fun h=>h);refine⟨hl9,fun w2 R2 l9 qz=>?_⟩;have lE:=l9.heap t2 (jW t2 hl9.loop);have um:Kept (· =v.heap.size+1) u1 w2:=(t3.mono fun _ _ h=>h.elim).tt l9;have ui:Kept (· =ab) v w2:=h1.trans um (fun j hj e=>by omega);have I1:bI w2 B2 A2 n2 c2 (jO G z):=Row.apart (Row.aF yS t3 (fun _ _ h=>h)) l9 (fun cs t fr h=>by rw [hl9.loop]at h;cases h);have TO:=kJ ui;have su1:=h1.size;have lu1:=aU h2;rw [ao.y1];refine Tt (B.same TO).R hD hh kQ hx (TO.heap No (fun h=>h)) (TO.heap Ew (fun h=>h)) (TO.heap IN (fun h=>h)) (l9.heap (t3.heap h2 (fun h=>h)) (by omega)) lE (LC.same TO) (bI.hs I1) fun u3 P5 Ea=>?_;refine⟨qz.aF Ea (fun e=>by omega) (fun e=>by omega),⟨dS,ui.tt Ea,P5,h3⟩,?_⟩;exact(um.mono (S':=fun j=>¬Pr j) fun j hj e hp=>by have:=LN j hp;omega).trans Ea (fun j hj e hp=>h3 j hp e)
 ·rintro Pr u1 R ⟨h0,h1,h2,h3⟩ nC
  have e7:fY (ρ0++ [(gm,.agg (gS Ms))]) v.heap.size= [(8,.pointer (some ⟨rb,0,none⟩)),(9,.pointer (some ⟨c,0,none⟩)),(10,.pointer (some ⟨wb,0,none⟩)),(13,.slice uC n13 zD),(15,.int .i64 g),(16,.pointer (some ⟨hb,0,none⟩)),(17,.pointer (some ⟨nb,0,none⟩)),(18,.slice Ax nx cx),(19,.int .i64 ex),(20,.slice Ay ny cy),(21,.int .i64 ey),(23,.pointer (some ⟨ub,0,none⟩)),(24,.pointer (some ⟨ab,0,none⟩)),(119,uw),(4294967296,.agg (gS (v.heap.size::Ms)))]:=rfl;rw [e7,ao.iL _ _ _ _ _ _ _ _ _ _ _ _ _ _ _ _ _ _ _ _ #[]];have Lf:=kJ h1;exact Ts (B.same Lf).R hD kQ (Lf.heap No (fun h=>h)) (Lf.heap NU (fun h=>h)) (Lf.heap Ew (fun h=>h)) (Lf.heap IN (fun h=>h)) h2 (LC.same Lf) (hX.same Lf) (hY.same Lf) fun u2 k2=>hq u2 (Lf.tt k2) (k2.heap nC.mark (fun h=>h))
end
section
variable{w w' v:World}{F FP FR:Nat->Prop}{c r x k:Nat}{G:GS}{m:CM}{K:Value->World->Prop}{ch:List HT}{h z:HT}
theorem Dp(C:CV w F c k G m)(hD:G.D.length<=40)(kQ:cI G.D G.P h ch)(hK:∀w' A n cx e,zu G.D h ch.reverse w' A n e->Kept Nil w w'->K (.tuple #[.slice A n cx,.int .i64 e]) w'):
 bC prog ir.id #[.pointer (some ⟨c,0,none⟩),.agg h.1] w K:=
 vw C (by omega) h kQ (fun lH w1 k1=>hK w1 _ _ _ _ (.inl ⟨lH,rfl⟩) k1) fun uo A cx w1 row k1=>hK w1 _ _ _ _ (.inr ⟨uo,rfl,bI.hs row⟩) k1
theorem K7(C:CV w F c k G m)(hD:G.D.length<=40)(kQ:cI G.D G.P h ch)(hK:∀w' A n cx e,zu G.D h (jc G ch) w' A n e->Kept Nil w w'->K (.tuple #[.slice A n cx,.int .i64 e]) w'):
 bC prog dc.id #[.pointer (some ⟨c,0,none⟩),.agg h.1] w K:=
 tM C (by omega) h kQ (fun lH w1 k1=>hK w1 _ _ _ _ (.inl ⟨lH,rfl⟩) k1) fun uo A cx w1 row k1=>hK w1 _ _ _ _ (.inr ⟨uo,rfl,bI.hs row⟩) k1
set_option maxHeartbeats 2000000 in
theorem Tu{Q:aO}{rb wb hb nb n13 zD:Nat}{uC:Option Addr}{g:Int}{Ms:List Nat}(B:kO v F c m FR r x k G)(hD:G.D.length<=40)
 (No:v.heap[wb]? =some (.cells #[.pointer (some ⟨r,0,none⟩)] dz (0,0))) (NU:v.heap[hb]? =some (.cells h.1 ag (0,0))) (Ew:v.heap[nb]? =some (.cells #[.int .i64 (sE G.D h)] eW (0,0)))
 (hq:∀u D,Kept Nil v u->v.heap.size<=D->u.heap[D]? =some (.deferred (some []))->Q .normal [(8,.pointer (some ⟨rb,0,none⟩)),(9,.pointer (some ⟨c,0,none⟩)),(10,.pointer (some ⟨wb,0,none⟩)),(13,.slice uC n13 zD),(15,.int .i64 (i64.wrap (g+(1:Int)))),(4294967296,.agg (gS (D::Ms)))] u):
 ao.J1 ⟨rb,0,none⟩ (some ⟨c,0,none⟩) ⟨wb,0,none⟩ uC n13 zD g ⟨hb,0,none⟩ ⟨nb,0,none⟩ (gS Ms) Q v:=by
 have H:=B.C.fc;have W:=H.W;obtain⟨ch,kQ⟩:=cI.ex H.iA h;have Gs:=kQ.yL H.iA;unfold ao.J1;refine⟨h.1,⟨h.2.1,Cells.bL NU⟩,?_⟩;refine Dp B.C hD kQ fun w1 Ax nx cx ex hX k1=>⟨Ax,nx,cx,ex,rfl,h.1,⟨h.2.1,Cells.bL (k1.heap NU (fun h=>h))⟩,?_⟩;refine K7 (B.same k1).C hD kQ fun w2 Ay ny cy ey hY k2=>⟨Ay,ny,cy,ey,rfl,h.1,⟨h.2.1,Cells.bL ((k1.tt k2).heap NU (fun h=>h))⟩,?_⟩;have jE:=k1.tt k2;refine pN h fun w3 pb qb k3 Va hq3 _ _=>⟨_,rfl,.inr ⟨_,_,_,rfl⟩,Split.no rfl ?_⟩;intro w4;have k4:Kept Nil w3 w4:=(Kept.refl _ _).drew;clear_value w4;have mX:=k3.tt k4;have mE:=jE.tt mX;have B4:=B.same mE;have R4:=B4.R;have hX4:=hX.same (k2.tt mX);have hY4:=hY.same mX;have U9:=k4.heap Va (fun h=>h);have U3:=k4.heap hq3 (fun h=>h);have R6:=mE.heap No (fun h=>h);have Sl:=mE.heap NU (fun h=>h);have hn4:=mE.heap Ew (fun h=>h);have s04:=mE.size;have tail:∀ {y0:World} {ub c6:Nat} {A6:Option Addr},Kept Nil w4 y0->y0.heap[ub]? =some (.cells #[.slice none 0 0] ay (0,0))->w4.heap.size<=ub->HS y0 A6 ch.length ch.reverse->(∀a,A6=some a->a.block≠ub)->
  Wr y0 (⟨ub,0,none⟩:Addr)/\(let be:World:=y0.setCell (⟨ub,0,none⟩:Addr) (.slice A6 ch.length c6);let ce:World:=be.alloc (.cells (#[.int .i64 0]:Array Value) eW);Wr ce (aP be.heap.size)/\(let de:World:=ce.setCell (aP be.heap.size) (.int .i64 1);
   Holds none [] prog 198 (bB (sR (sL (fk (bB (sL (sR (lB (bB (sR (sL (bU (sR (body Tryz.f6)))))))))))))) (ao.uG Q) [(8,.pointer (some ⟨rb,0,none⟩)),(9,.pointer (some ⟨c,0,none⟩)),(10,.pointer (some ⟨wb,0,none⟩)),(13,.slice uC n13 zD),(15,.int .i64 g),(16,.pointer (some ⟨hb,0,none⟩)),(17,.pointer (some ⟨nb,0,none⟩)),(18,.slice Ax nx cx),(19,.int .i64 ex),(20,.slice Ay ny cy),(21,.int .i64 ey),(23,.pointer (some ⟨ub,0,none⟩)),(24,.pointer (some ⟨be.heap.size,0,none⟩)),(119,.func (.func bu.id) #[] #[.pointer (some ⟨pb,0,none⟩),.pointer (some ⟨qb,0,none⟩)]),(4294967296,.agg (gS Ms))] de)):=by
  intro y0 ub c6 A6 ky IN gA hs fM;refine⟨dm IN (by simp),?_⟩;have hbe:(y0.setCell (⟨ub,0,none⟩:Addr) (.slice A6 ch.length c6)).heap[ub]? =some (.cells #[.slice A6 ch.length c6] ay (0,0)):=cV IN 0 _;have kbe:Kept (· =ub) y0 (y0.setCell (⟨ub,0,none⟩:Addr) (.slice A6 ch.length c6)):=Kept.setCell (S:=fun j=>j=ub) (Kept.refl _ y0) (p:=⟨ub,0,none⟩) (fun _=>rfl) _;have Es:HS (y0.setCell (⟨ub,0,none⟩:Addr) (.slice A6 ch.length c6)) A6 ch.length ch.reverse:=hs.aF kbe (fun a ha e=>fM a ha e);generalize y0.setCell (⟨ub,0,none⟩:Addr) (.slice A6 ch.length c6)=be at hbe kbe Es;have Kt:Kept Nil w4 be:=ky.trans kbe (fun j hj e=>by omega);have hce:(be.alloc (.cells (#[.int .i64 0]:Array Value) eW)).heap[be.heap.size]? =some (.cells #[.int .i64 0] eW (0,0)):=aH be _;refine⟨dm hce (by simp),?_⟩;have hde:((be.alloc (.cells (#[.int .i64 0]:Array Value) eW)).setCell (aP be.heap.size) (.int .i64 1)).heap[be.heap.size]? =some (.cells #[.int .i64 1] eW (0,0)):=cV hce 0 _;have kde:Kept Nil be ((be.alloc (.cells (#[.int .i64 0]:Array Value) eW)).setCell (aP be.heap.size) (.int .i64 1)):=((Kept.refl Nil be).alloc _).trans (Kept.setCell (S:=fun j=>j=be.heap.size) (Kept.refl _ _) (p:=⟨be.heap.size,0,none⟩) (fun _=>rfl) _) (fun j hj e=>by omega);show Holds none [] prog 198 (bB (sR (sL (fk (bB (sL (sR (lB (bB (sR (sL (bU (sR (body Tryz.f6)))))))))))))) (ao.uG Q) _ ((be.alloc (.cells (#[.int .i64 0]:Array Value) eW)).setCell (aP be.heap.size) (.int .i64 1))
  generalize (be.alloc (.cells (#[.int .i64 0]:Array Value) eW)).setCell (aP be.heap.size) (.int .i64 1)=de at hde kde;have sb:=Kt.size;have sd:=kde.size;exact HX (B4.same Kt) hD kQ (Kt.heap R6 (fun h=>h)) (Kt.heap Sl (fun h=>h)) (Kt.heap hn4 (fun h=>h)) hbe Es (hX4.same Kt) (hY4.same Kt) (Kt.heap U9 (fun h=>h)) (Kt.heap U3 (fun h=>h)) kde hde fun u ku hm=>hq u _ ((mE.tt Kt).tt ku) (by omega) hm
 refine⟨_,by rw [aD R6];rfl,Is.mk rfl ⟨_,R4.c1,h.1,⟨h.2.1,Cells.bL Sl⟩,?_,?_⟩⟩
 ·refine vo R4.X (by omega) h fun A5 c5 w5 Zg Jo ju k5=>⟨A5,_,c5,rfl,?_,?_⟩
  all_goals have ech:=Jo.one W H.iA kQ
  all_goals subst ech
  ·refine pv (bI.hs ju) (by omega) fun A6 c6 w6 rN k6=>⟨A6,_,c6,rfl,?_⟩
   intro w7;have k7:Kept Nil w6 w7:=(Kept.refl _ _).alloc _;have hu7:w7.heap[w6.heap.size]? =some (.cells #[.slice none 0 0] ay (0,0)):=aH w6 _;clear_value w7;have s5:=k5.size;have s6:=k6.size;refine tail ((k5.tt k6).tt k7) hu7 (by omega) ((bI.hs rN).same k7) (fun a ha e=>?_);obtain⟨_,cur,kF⟩:=Row.bL rN (k:=a.block) (by rw [ha];rfl);have:=aU kF;omega
  ·intro w6
   have k6:Kept Nil w5 w6:=(Kept.refl _ _).alloc _;have hu6:w6.heap[w5.heap.size]? =some (.cells #[.slice none 0 0] ay (0,0)):=aH w5 _;clear_value w6;have s5:=k5.size;have l6:=aU hu6;refine pv ((bI.hs ju).same k6) (by omega) fun A7 c7 w7 sN k7=>⟨A7,_,c7,rfl,?_⟩;refine tail ((k5.tt k6).tt k7) (k7.heap hu6 (fun h=>h)) (by omega) (bI.hs sN) (fun a ha e=>?_);have:=(Row.bL sN (k:=a.block) (by rw [ha];rfl)).1;omega
 ·intro w5
  have k5:Kept Nil w4 w5:=(Kept.refl _ _).alloc _;have R7:w5.heap[w4.heap.size]? =some (.cells #[.slice none 0 0] ay (0,0)):=aH w4 _;clear_value w5;have l5:=aU R7;have R5:=R4.same k5;refine⟨⟨_,rfl,h.2.1,Cells.bL (k5.heap Sl (fun h=>h))⟩,R5.c1,by rw [aD (k5.heap R6 (fun h=>h))];rfl,?_⟩;refine vo R5.X (by omega) h fun A6 c6 w6 Zg Jo rN k6=>⟨A6,_,c6,rfl,?_⟩;have ech:=Jo.one W H.iA kQ;subst ech;have s6:=k6.size;refine pv (bI.hs rN) (by omega) fun A7 c7 w7 sN k7=>⟨A7,_,c7,rfl,?_⟩;refine tail ((k5.tt k6).tt k7) ((k6.tt k7).heap R7 (fun h=>h)) (by omega) (bI.hs sN) (fun a ha e=>?_);have:=(Row.bL sN (k:=a.block) (by rw [ha];rfl)).1;omega
set_option maxHeartbeats 2000000 in
theorem K8{A:Option Addr}{n cx:Nat}{l:List DN}(hl:NS w FP A n l)(hn:n<9223372036854775808)(k:Int)(root other:HT)(hT:uA w)(hK:∀w',Kept Nil w w'->K (.bool true) w'):
 bC prog ao.id #[.int .i64 k,.agg root.1,.slice A n cx,.agg other.1] w K:=by
 have hlen:=hl.len;refine ao.of ?_;unfold ao.W;intro w1 w2 w3;have k1:Kept Nil w w1:=(Kept.refl _ _).alloc _;have mU:w1.heap[w.heap.size]? =some (.cells root.1 ag (0,0)):=aH w _;have k2:Kept Nil w1 w2:=(Kept.refl _ _).alloc _;have ho2:w2.heap[w1.heap.size]? =some (.cells other.1 ag (0,0)):=aH w1 _;have k3:Kept Nil w2 w3:=(Kept.refl _ _).alloc _;have mK:w3.heap[w2.heap.size]? =some (.cells #[.bool false] gZ (0,0)):=aH w2 _;clear_value w3;have Vl:=k3.heap ho2 (fun h=>h);have uq:=k3.heap (k2.heap mU (fun h=>h)) (fun h=>h);have kP:=(k1.tt k2).tt k3;have s2:=(k1.tt k2).size;generalize ajp:w1.heap.size=ob at Vl;generalize aje:w2.heap.size=rb at mK;have ajd:w.heap.size<=rb:=by omega
 clear_value w2;clear_value w1;have l3:=aU mK;have kn:∀ {v:World},Kept Nil w v->v.heap[rb]? =some (.cells #[.bool false] gZ (0,0))->bC prog iu.id #[] v fun x y=>∃z:Bool,x=.bool z/\Wr y (⟨rb,0,none⟩:Addr)/\(let aa:World:=y.setCell (⟨rb,0,none⟩:Addr) (.bool z);∃ba:Bool,aa.cell? (⟨rb,0,none⟩:Addr)=some (.bool ba)/\K (.bool ba) aa):=fun k hb=>vQ (hT.same k) fun w4 k4=>by
  have ph:=k4.heap hb (fun h=>h);refine⟨true,rfl,dm ph (by simp),true,?_,hK _ ((k.tt k4).trans (Kept.setCell (S:=fun j=>j=rb) (Kept.refl _ w4) (p:=⟨rb,0,none⟩) (fun _=>rfl) _) (fun j hj e=>by omega))⟩;rw [aD (cV ph 0 _)];rfl
 refine⟨root.1,⟨root.2.1,Cells.bL uq⟩,?_⟩;refine Du (hl.same kP) hn k root (hT.same kP) (fun v kv=>⟨_,_,false,true,rfl,?_⟩) fun w4 F c m FR r x k hk hk6 acx B k4 _=>⟨_,_,true,true,rfl,?_⟩
 ·intro v1
  have Pn:Kept Nil v v1:=(Kept.refl _ _).alloc _;have CI:v1.heap[v.heap.size]? =some (.cells #[.pointer none] dz (0,0)):=aH v _;clear_value v1;refine⟨dm CI (by simp),?_⟩;intro v2;have ui:Kept (· =v.heap.size) v1 v2:=Kept.setCell (S:=fun j=>j=v.heap.size) (Kept.refl _ v1) (p:=⟨v.heap.size,0,none⟩) (fun _=>rfl) _;clear_value v2;have k3v:Kept Nil w3 v2:=(kv.tt Pn).trans ui (fun j hj e=>by have:=kv.size;omega);exact Split.yes rfl (Split.yes rfl (kn (kP.tt k3v) (k3v.heap mK (fun h=>h))))
 have YZ:=Dq k root l;have hf2:=acx.2;generalize Dr k root l=G at B YZ;have H:=B.C.fc;have W:=H.W;intro v1;have Pn:Kept Nil w4 v1:=(Kept.refl _ _).alloc _;have CI:v1.heap[w4.heap.size]? =some (.cells #[.pointer none] dz (0,0)):=aH w4 _;clear_value v1;refine⟨dm CI (by simp),?_⟩;intro w5;have ui:Kept (· =w4.heap.size) v1 w5:=Kept.setCell (S:=fun j=>j=w4.heap.size) (Kept.refl _ v1) (p:=⟨w4.heap.size,0,none⟩) (fun _=>rfl) _;have P1:w5.heap[w4.heap.size]? =some (.cells #[.pointer (some ⟨r,0,none⟩)] dz (0,0)):=cV CI 0 _;clear_value w5;have Yn:Kept Nil w4 w5:=Pn.trans ui (fun j hj e=>by omega);have mW:=k4.tt Yn;have q9:=kP.tt mW;generalize aiD:w4.heap.size=wb at P1;refine Split.no rfl (Split.no rfl ⟨other.1,⟨other.2.1,Cells.bL (mW.heap Vl (fun h=>h))⟩,other.2.1,?_⟩);intro w6;have k6:Kept Nil w5 w6:=(Kept.refl _ _).alloc _;have rN:bI w6 w5.heap.size (some ⟨w5.heap.size,0,none⟩) 1 1 [other]:=yy w5 other (Nat.le_refl _);clear_value w6;have B6:=B.same (Yn.tt k6);refine ao.cC (I:=fun s v=>∃(i:Nat) (A:Option Addr) (cx:Nat),s=(A,1+i,cx,(i:Int))/\i<=G.D.length/\bI v w5.heap.size A (1+i) cx ([other]++(ids G.D).take i)/\Kept Nil w5 v) (μ:=fun s _=>((G.D.length:Int)-s.2.2.2).toNat) (s:=(some ⟨w5.heap.size,0,none⟩,1,1,0)) ⟨0,_,1,rfl,Nat.zero_le _,by simpa using rN,k6⟩ ?_;rintro⟨A1,_,c1,_⟩ v ⟨i,_,_,e,hi,row,kv⟩;cases e;unfold ao.B1;have Bv:=B.same (Yn.tt kv);have hwv:v.cell? (⟨wb,0,none⟩:Addr)=some (.pointer (some ⟨r,0,none⟩)):=by rw [aD (kv.heap P1 (fun h=>h))];rfl
 obtain⟨A0,c0,q1,sA⟩:=Bv.R.graph;refine⟨_,hwv,Is.mk rfl ⟨_,Bv.R.c1,Is.mk rfl ⟨A0,_,c0,q1,Split.dec (fun cY=>?_) (fun gA=>?_)⟩⟩⟩
 ·simp only at cY
  have dS:i<G.D.length:=by omega
  obtain⟨nd,gu⟩:∃nd,G.D[i]? =some nd:=⟨_,List.getElem?_eq_getElem dS⟩;refine⟨_,hwv,Is.mk rfl ⟨_,Bv.R.c1,Is.mk rfl ⟨A0,_,c0,q1,sA.id (i:=(i:Int)) (by omega) (by rw [Int.toNat_natCast];exact gu) ⟨nd.id.2.1,?_⟩⟩⟩⟩;intro w7;have k7:Kept Nil v w7:=(Kept.refl _ _).alloc _;have Og:HS w7 (some ⟨v.heap.size,0,none⟩) 1 [nd.id]:=jf v nd.id;clear_value w7;have s7:=(kv.tt k7).size;have sN:bI w7 w5.heap.size A1 (1+i) c1 ([other]++(ids G.D).take i):=Row.aF row k7 (fun _ _ h=>h);obtain⟨A8,c8,w8,Sb,KX,g8,_⟩:=cK ay sN (cx:=1) Og (by omega) s7;refine⟨A8,_,c8,w8,Sb,?_⟩;rw [dM (n:=(i:Int)) (by omega) (by omega)];have et: [other]++(ids G.D).take i++ [nd.id]= [other]++(ids G.D).take (i+1):=by
   rw [List.take_add_one,oE gu];simp
  rw [et]at KX;exact⟨(A8,1+i+1,c8,(i:Int)+1),rfl,⟨i+1,A8,c8,by rw [Nat.add_assoc];rfl,dS,by rw [<-Nat.add_assoc];exact KX,Kept.dO (kv.tt k7) g8 (fun j hj=>(Row.bL sN hj).1)⟩,by simp only;omega⟩
 simp only at gA;rw [aR,ao.df];unfold ao.cU;have CY:i=G.D.length:=by omega
 subst CY;rw [List.take_of_length_le (by rw [gz];omega)]at row;have Jl:=bI.hs row;have s5v:=kv.size;refine Holds.TF rfl ?_;refine ao.gU (I:=fun s u=>∃(j:Nat) (Ms:List Nat),s=((j:Int),gS Ms)/\j<=1+G.D.length/\Kept Nil v u/\Ms.Nodup/\∀E∈Ms,v.heap.size<=E/\u.heap[E]? =some (.deferred (some []))) (μ:=fun s _=>((1+G.D.length:Nat)-s.1).toNat) (s:=(0,#[])) ⟨0,[],rfl,Nat.zero_le _,Kept.refl _ _,List.Pairwise.nil,by simp⟩ ?_;rintro⟨_,_⟩ u ⟨j,Ms,e,hj,ku,Vq,Re⟩;cases e;unfold ao.B2;have k5u:=kv.tt ku;refine Split.dec (fun cY=>?_) (fun L9=>?_)
 ·simp only at cY
  have tU:j<1+G.D.length:=by omega
  obtain⟨h,hh⟩:∃h,([other]++ids G.D)[j]? =some h:=⟨_,List.getElem?_eq_getElem (by have:=Jl.len;omega)⟩;refine(Jl.same ku).load (i:=(j:Int)) (x:=h) (by omega) (by rw [Int.toNat_natCast];exact hh) ?_;intro w7;obtain⟨t1,t2,t3⟩:=v7 u h;refine⟨t1,?_⟩;intro w8 w9
  replace t2:w8.heap[u.heap.size]? =some (.cells h.1 ag (0,0)):=t2
  replace t3:Kept Nil u w8:=t3
  have k9:Kept Nil w8 w9:=(Kept.refl _ _).drew;clear_value w9;have t29:=k9.heap t2 (fun h=>h);have Yh:=t3.tt k9;clear_value w8;generalize aj3:u.heap.size=hb at t29;have Il:=k5u.tt Yh;have RO:=ku.tt Yh;have B9:=B.same (Yn.tt Il);have hw9:=Il.heap P1 (fun h=>h);have su:=ku.size;have s9:=Yh.size;have Tv:∀ {u':World} {nb:Nat},Kept Nil w9 u'->u'.heap[nb]? =some (.cells #[.int .i64 (sE G.D h)] eW (0,0))->ao.J1 ⟨rb,0,none⟩ (some ⟨c,0,none⟩) ⟨wb,0,none⟩ A1 (1+G.D.length) c1 (j:Int) ⟨hb,0,none⟩ ⟨nb,0,none⟩ (gS Ms) (bR (ao.e2 ⟨rb,0,none⟩ (some ⟨c,0,none⟩) ⟨wb,0,none⟩ A1 (1+G.D.length) c1) (fun s u=>∃(j:Nat) (Ms:List Nat),s=((j:Int),gS Ms)/\j<=1+G.D.length/\Kept Nil v u/\Ms.Nodup/\∀E∈Ms,v.heap.size<=E/\u.heap[E]? =some (.deferred (some []))) (fun s _=>((1+G.D.length:Nat)-s.1).toNat) ((j:Int),gS Ms) u (ao.q2 K)) u':=by
   intro u' nb Eb hn;refine Tu (B9.same Eb) (by omega) (Eb.heap hw9 (fun h=>h)) (Eb.heap t29 (fun h=>h)) hn fun u'' D k'' hD hd=>?_;rw [dM (n:=(j:Int)) (by omega) (by omega)];have T9:=Eb.tt k'';have su':=Eb.size;refine⟨((j:Int)+1,gS (D::Ms)),rfl,⟨j+1,D::Ms,rfl,tU,RO.tt T9,?_,fun E hE=>?_⟩,by simp only;omega⟩
   ·rw [List.nodup_cons]
    refine⟨fun hE=>?_,Vq⟩;have:=aU (Re _ hE).2;omega
   ·rcases List.mem_cons.1 hE with rfl|hE
    ·exact⟨by omega,hd⟩
    ·exact⟨(Re E hE).1,(Yh.tt T9).heap (Re E hE).2 (fun h=>h)⟩
  refine⟨_,by rw [aD hw9];rfl,Is.mk rfl ⟨_,B9.R.c1,Is.mk rfl ⟨h.1,⟨h.2.1,Cells.bL t29⟩,?_,?_⟩⟩⟩
  ·rw [add_zero]
   refine jI B9.R.X.gr (by omega) h fun w10 lX=>⟨_,rfl,?_⟩;intro po;have CA:Kept Nil w10 po:=(Kept.refl _ _).alloc _;have Jf:po.heap[w10.heap.size]? =some (.cells #[.int .i64 0] eW (0,0)):=aH w10 _;clear_value po;refine⟨dm Jf (by simp),?_⟩;intro lK;have Qp:lK.heap[w10.heap.size]? =some (.cells #[.int .i64 (sE G.D h)] eW (0,0)):=cV Jf 0 _;have um:Kept (· =w10.heap.size) po lK:=Kept.setCell (S:=fun j=>j=w10.heap.size) (Kept.refl _ po) (p:=⟨w10.heap.size,0,none⟩) (fun _=>rfl) _;clear_value lK;have ZO:=lX.size;exact ao.mF (Tv ((lX.tt CA).trans um (fun j hj e=>by omega)) Qp)
  ·intro w10
   have lX:Kept Nil w9 w10:=(Kept.refl _ _).alloc _;have abM:w10.heap[w9.heap.size]? =some (.cells #[.int .i64 0] eW (0,0)):=aH w9 _;clear_value w10;refine⟨⟨_,rfl,h.2.1,Cells.bL (lX.heap t29 (fun h=>h))⟩,(B9.same lX).R.c1,by rw [aD (lX.heap hw9 (fun h=>h))];rfl,?_⟩;rw [add_zero];refine jI (B9.same lX).R.X.gr (by omega) h fun po CA=>⟨_,rfl,?_⟩;have Jf:=CA.heap abM (fun h=>h);refine⟨dm Jf (by simp),?_⟩;intro lK;have Qp:lK.heap[w9.heap.size]? =some (.cells #[.int .i64 (sE G.D h)] eW (0,0)):=cV Jf 0 _;have um:Kept (· =w9.heap.size) po lK:=Kept.setCell (S:=fun j=>j=w9.heap.size) (Kept.refl _ po) (p:=⟨w9.heap.size,0,none⟩) (fun _=>rfl) _;clear_value lK;exact ao.mF (Tv ((lX.tt CA).trans um (fun j hj e=>by omega)) Qp)
 ·simp only at L9
  rw [aR,ao.jN];unfold ao.iN;have PD:=q9.tt k5u;have hbu:=(mW.tt k5u).heap mK (fun h=>h);refine vQ (hT.same PD) fun w7 k7=>⟨true,rfl,?_⟩;have Og:=k7.heap hbu (fun h=>h);refine⟨dm Og (by simp),?_⟩;intro w8;have Ju:w8.heap[rb]? =some (.cells #[.bool true] gZ (0,0)):=cV Og 0 _;have k8:Kept (· =rb) w7 w8:=Kept.setCell (S:=fun j=>j=rb) (Kept.refl _ w7) (p:=⟨rb,0,none⟩) (fun _=>rfl) _;clear_value w8;have Yb:=mW.size;have hm8:∀E∈Ms,w8.heap[E]? =some (.deferred (some [])):=fun E hE=>k8.heap (k7.heap (Re E hE).2 (fun h=>h)) (by have:=(Re E hE).1;omega);rw [lA];have kt:=iT Ms w8;refine⟨kr Ms w8 Vq hm8,true,by rw [aD (kt.heap Ju (fun hE=>by have:=(Re _ hE).1;omega))];rfl,hK _ ?_⟩;have s0:=kP.size;exact(((PD.tt k7).trans k8 (fun j hj e=>by omega)).trans kt (fun j hj hE=>by have:=(Re j hE).1;omega))
end
end Go.Proofs.YtfleamccglihoaaGreatDoor
