import Derived.Test.YtfleamccglihoaaGreatDoorMU
import Derived.Test.YtfleamccglihoaaGreatDoorMJ
import Derived.Test.YtfleamccglihoaaGreatDoorMT
import Derived.Test.YtfleamccglihoaaGreatDoorMI
import Derived.Test.YtfleamccglihoaaGreatDoorMG
import Derived.Test.YtfleamccglihoaaGreatDoorMN
import Derived.Test.YtfleamccglihoaaGreatDoorMK
open Go.IntKind (i64 u64)
set_option linter.unusedVariables false
namespace Go.Proofs.YtfleamccglihoaaGreatDoor
open Go.Proofs.Tryz
open Go Go.b0 Go.RowKit
def adh(l:List DN)(Zy:Nat):Prop:=(∀nd∈l,nd.ps.length<=6)/\l.length<=Zy
noncomputable def qp(k:Nat)(G:GS)(id:HT)(l:List HT):pr:=if dR G.D id l=0 then dr k G (bQ G l) l else⟨fz,0,[],[]⟩
noncomputable def Dv(k:Nat)(root:HT)(l:List DN):GS:=l.foldl (fun G s=>eo k G s.id s.ps) (eV root)
theorem JF(k:Nat)(G:GS)(h:HT)(l:List HT):(eo k G h l).D.length<=G.D.length+1:=by
 rw [rL];unfold mo;split<;>simp
theorem tA(k:Nat):∀(l:List DN) (G:GS),(l.foldl (fun G s=>eo k G s.id s.ps) G).D.length<=G.D.length+l.length
 | [],_=>by simp
 |s::l,G=>by
  have h1:=tA k l (eo k G s.id s.ps);have h2:=JF k G s.id s.ps;rw [List.foldl_cons,List.length_cons];omega
theorem Du(k:Nat)(root:HT)(l:List DN):(Dv k root l).D.length<=1+l.length:=tA k l (eV root)
theorem Dd{k:Nat}{G:GS}{l:List DN}{i:Nat}{s:DN}(h:l[i]? =some s):(l.take (i+1)).foldl (fun G s=>eo k G s.id s.ps) G=eo k ((l.take i).foldl (fun G s=>eo k G s.id s.ps) G) s.id s.ps:=by
 rw [List.take_add_one,h];simp
section
variable{w w' v:World}{S F FP FR:Nat->Prop}{c r x k:Nat}{G:GS}{m:CM}{K:Value->World->Prop}
theorem mW(h:CV w F c k G m)(hT:sP w)(Kk:¬m.SX (Tryz.ko.g 1))(hD:G.D.length<=49)(pB:k<=1000){A:Option Addr}{n cx:Nat}{l:List HT}(CS:HS w A n l)(hn:n<=5000)(id:HT)
 (hK:∀w' F' m' A n c1 B e c2,CV w' F' c k (eo k G id l) m'->m'.x=m.x->Kept (m.own c) w w'->(∀j,m'.own c j->m.own c j\/w.heap.size<=j)->(∀j,F' j->F j\/w.heap.size<=j)->
   cC w' w.heap.size A n c1 (qp k G id l).merge->Row w' w.heap.size jo 1 B e c2 (tC (qp k G id l).fX)->(∀j,bG A=some j->bG B≠some j)->(∀j,bG A=some j\/bG B=some j->¬m'.own c j/\¬F' j)->
   K (.tuple #[.agg (di (qp k G id l) A n c1 B e c2),.int .i64 (dR G.D id l)]) w'):
 bD prog dQ.id #[.pointer (some ⟨c,0,none⟩),.agg id.1,.slice A n cx] w K:=by
 refine Gx h hT Kk hD pB CS hn id (fun he w' k'=>?_) (fun he w' F' m' A n c1 B e c2 h1 h2 h3 h4 h5 h6 h7 h8 h9=>?_)
 ·have e1:qp k G id l=⟨fz,0,[],[]⟩:=if_neg he
  have:=hK w' F m none 0 0 none 0 0 (by rw [sO he];exact h.same k') rfl (k'.mono fun _ _ h=>h.elim) (fun j h=>.inl h) (fun j h=>.inl h) (by rw [e1];exact cC.nil _ _) (by rw [e1];exact Row.nil _ _ _ _) (fun j hj=>(by cases hj)) (fun j hj=>by rcases hj with hj|hj<;>cases hj);rw [e1]at this;exact this
 ·have e1:qp k G id l=dr k G (bQ G l) l:=if_pos he
  have:=hK w' F' m' A n c1 B e c2 h1 h2 h3 h4 h5 (by rw [e1];exact h6) (by rw [e1];exact h7) h8 h9;rw [e1,he]at this;exact this
theorem vh(h:R3 w F r x k G)(hD:G.D.length<=300)(pB:k<=1000){A:Option Addr}{n cx:Nat}{l:List HT}(hl:HS w A n l)(hn:n<=5000)(id:HT)
 (hK:∀w' A n c B e ce,R3 w' (fun j=>F j\/(w.heap.size<=j/\j<w'.heap.size)) r x k (eo k G id l)->Kept (fun j=>j=r\/j=x) w w'->HS w' A n (qp k G id l).merge->Bo w' B e (qp k G id l).fX->(∀a,A=some a\/B=some a->w.heap.size<=a.block)->K (.tuple #[.agg (di (qp k G id l) A n c B e ce),.int .i64 (dR G.D id l)]) w'):
 bD prog dP.id #[.pointer (some ⟨r,0,none⟩),.agg id.1,.slice A n cx] w K:=by
 have Yd:=h.lt;have Nu:=h.lx;refine yG h hD pB hl hn id (fun he w' k'=>?_) (fun he w' A n c B e ce h1 h2 h3 h4 h5=>?_)
 ·have e1:qp k G id l=⟨fz,0,[],[]⟩:=if_neg he
  have h':=h.same k';have hs:=k'.size;obtain⟨A1,c1,B1,e1',g1,g2,g3⟩:=h'.top;have:=hK w' none 0 0 none 0 0 (by
   rw [sO he];exact⟨⟨A1,c1,B1,e1',g1,g2.mono (fun j hj=>.inl hj),g3.mono (fun j hj=>.inl hj)⟩,h'.X.mono (fun j hj=>.inl hj) (fun e=>e.elim h.X.iT (fun e=>by omega)),fun e=>e.elim h.iT (fun e=>by omega),h.ne,h.hZ,fun j e=>e.elim (h'.lo j) (fun e=>e.2)⟩) (k'.mono fun _ _ h=>h.elim) (by rw [e1];exact HS.nil _ _) (by rw [e1];exact⟨rfl,fun i b hi=>by simp at hi⟩) (fun a ha=>by rcases ha with ha|ha<;>cases ha)
  rw [e1]at this;exact this
 ·have e1:qp k G id l=dr k G (bQ G l) l:=if_pos he
  have:=hK w' A n c B e ce h1 h2 (by rw [e1];exact h3) (by rw [e1];exact h4) h5;rw [e1,he]at this;exact this
structure lF(w:World)(F:Nat->Prop)(c:Nat)(m:CM)(FR:Nat->Prop)(r x k:Nat)(G:GS):Prop where
 C:CV w F c k G m
 R:R3 w FR r x k G
 rS:∀j,j=r\/j=x->¬m.own c j/\¬F j
 fS:∀j,FR j->¬m.own c j
theorem lF.aJ{S0:Nat->Prop}(B:lF w F c m FR r x k G)(hk:Kept S0 w w')(h1:∀j,m.own c j\/F j\/FR j\/j=r\/j=x->¬S0 j):lF w' F c m FR r x k G:=
 ⟨B.C.aJ hk (fun j e=>h1 j (.inl e)) (fun j e=>h1 j (.inr (.inl e))),B.R.aJ hk (h1 _ (.inr (.inr (.inr (.inl rfl))))) (h1 _ (.inr (.inr (.inr (.inr rfl))))) (fun j e=>h1 j (.inr (.inr (.inl e)))),B.rS,B.fS⟩
theorem lF.same(B:lF w F c m FR r x k G)(hk:Kept Nil w w'):lF w' F c m FR r x k G:=B.aJ hk (fun _ _ h=>h)
theorem lF.low(B:lF w F c m FR r x k G):∀j,m.own c j\/F j\/FR j\/j=r\/j=x->j<w.heap.size:=fun j e=>by
 rcases e with e|e|e|e|e
 ·exact B.C.low j (.inl e)
 ·exact B.C.low j (.inr e)
 ·exact B.R.lo j e
 ·rw [e];exact B.R.lt
 ·rw [e];exact B.R.lx
theorem lF.after{F':Nat->Prop}{m':CM}{G':GS}(B:lF w F c m FR r x k G)(kv:Kept (m.own c) w v)(h1:∀j,m'.own c j->m.own c j\/w.heap.size<=j)(h2:∀j,F' j->F j\/w.heap.size<=j)(hC:CV v F' c k G' m'){u:World}(XB:Kept Nil v u):
 R3 u FR r x k G/\∀t,R3 t (fun j=>FR j\/(u.heap.size<=j/\j<t.heap.size)) r x k G'->Kept (fun j=>j=r\/j=x) u t->lF t F' c m' (fun j=>FR j\/(u.heap.size<=j/\j<t.heap.size)) r x k G':=by
 have hr:=B.R.lt;have hx:=B.R.lx;have nr:∀j,j=r\/j=x->¬m'.own c j/\¬F' j:=fun j hj=>by
  have dg:j<w.heap.size:=by rcases hj with rfl|rfl;exact hr;exact hx
  refine⟨fun e=>?_,fun e=>?_⟩
  ·rcases h1 j e with e|e
   ·exact(B.rS j hj).1 e
   ·omega
  ·rcases h2 j e with e|e
   ·exact(B.rS j hj).2 e
   ·omega
 refine⟨(B.R.aJ kv (fun e=>(B.rS r (.inl rfl)).1 e) (fun e=>(B.rS x (.inr rfl)).1 e) B.fS).same XB,fun t hR kt=>⟨?_,hR,nr,fun j hj e=>?_⟩⟩
 ·exact(hC.same XB).aJ kt (fun j e e'=>(nr j e').1 e) (fun j e e'=>(nr j e').2 e)
 ·have oM:=hC.low j (.inl e)
  have:=XB.size;rcases hj with hj|hj
  ·rcases h1 j e with e|e
   ·exact B.fS j hj e
   ·have:=B.R.lo j hj;omega
  ·omega
end
section
variable{w w' v:World}{S F FP FR:Nat->Prop}{c r x k:Nat}{G:GS}{m:CM}{K:Value->World->Prop}
end
section
variable{k:Nat}{G:GS}{s:HT}
theorem Ay(G:GS)(s:HT):cI G s [s]= []:=by
 rw [List.eq_nil_iff_forall_not_mem];intro h hm;obtain⟨h1,h2,h3⟩:=jD.1 hm;rcases h1 with⟨_,p,hp,ha⟩|h1
 ·rw [List.mem_singleton]at hp;subst hp;exact h3 ha
 ·rw [List.mem_singleton]at h1;exact h2 h1
variable{r a b c:HT}(PQ:r≠a)(Gh:r≠b)(X0:r≠c)(mB:a≠b)(Yt:a≠c)(QC:b≠c)
end
section
variable{w w':World}{K:Value->World->Prop}
end
section
variable{w w' v:World}{F FP FR:Nat->Prop}{c r x k:Nat}{G:GS}{m:CM}{K:Value->World->Prop}
end
section
variable{w v:World}{F FP FR:Nat->Prop}{c r x k:Nat}{G:GS}{m:CM}{K:Value->World->Prop}{O:Option Addr}{on oc:Nat}{lo:List HT}{s:HT}{sb xb:Nat}{xv:Array Value}
end
section
variable{k:Nat}{G:GS}{h:HT}{ps:List HT}
end
structure Sub(G G':GS):Prop where
 D:∀nd∈G.D,nd∈G'.D
 W:jX G.D
 W':jX G'.D
 cw:∀y∈ids G.D,G.jW y=G'.jW y/\G.world y=G'.world y
section
variable{k:Nat}{G G':GS}{s:HT}{l:List HT}
theorem Sub.ids(S:Sub G G'){y:HT}(h:y∈ids G.D):y∈Proofs.YtfleamccglihoaaGreatDoor.ids G'.D:=by
 obtain⟨nd,h1,rfl⟩:=dI.1 h;exact dI.2 ⟨nd,S.D nd h1,rfl⟩
theorem jX.one{D:DG}(W:jX D){a b:DN}(ha:a∈D)(hb:b∈D)(e:a.id=b.id):a=b:=by
 obtain⟨i,hi⟩:=List.mem_iff_getElem?.1 ha;obtain⟨j,hj⟩:=List.mem_iff_getElem?.1 hb;have:=W.inj hi hj e;subst this;rw [hi]at hj;exact Option.some.inj hj
theorem Sub.par(S:Sub G G'){a b:HT}(hb:b∈Proofs.YtfleamccglihoaaGreatDoor.ids G.D):oz G.D a b↔oz G'.D a b:=by
 constructor
 ·rintro⟨nd,h1,h2,h3⟩
  exact⟨nd,S.D nd h1,h2,h3⟩
 ·rintro⟨nd,h1,h2,h3⟩
  obtain⟨nd',h4,h5⟩:=dI.1 hb;have:=S.W'.one h1 (S.D nd' h4) (h2.trans h5.symm);subst this;exact⟨nd,h4,h2,h3⟩
theorem Sub.zB(S:Sub G G'){a b:HT}(hb:b∈Proofs.YtfleamccglihoaaGreatDoor.ids G.D):fw G.D a b↔fw G'.D a b:=by
 constructor
 ·intro h
  clear hb
  induction h with
  |one hp=>exact .one ((S.par ((fw.one hp).mem S.W).2).1 hp)
  |more _ hp ih=>exact .more ih ((S.par ((fw.one hp).mem S.W).2).1 hp)
 ·intro h
  induction h with
  |one hp=>exact .one ((S.par hb).2 hp)
  |more _ hp ih=>
   have G5:=(S.par hb).2 hp;exact .more (ih ((fw.one G5).mem S.W).1) G5
theorem Sub.gl(S:Sub G G'){a b:HT}(ha:a∈Proofs.YtfleamccglihoaaGreatDoor.ids G.D)(hb:b∈Proofs.YtfleamccglihoaaGreatDoor.ids G.D):Proofs.YtfleamccglihoaaGreatDoor.gl G a b=Proofs.YtfleamccglihoaaGreatDoor.gl G' a b:=by
 unfold Proofs.YtfleamccglihoaaGreatDoor.gl GS.score;rw [(S.cw a ha).1,(S.cw b hb).1]
theorem Sub.pX(S:Sub G G')(hs:s∈Proofs.YtfleamccglihoaaGreatDoor.ids G.D)(hl:∀p∈l,p∈Proofs.YtfleamccglihoaaGreatDoor.ids G.D)(x:HT):x∈Proofs.YtfleamccglihoaaGreatDoor.pX G.D s l↔x∈Proofs.YtfleamccglihoaaGreatDoor.pX G'.D s l:=by
 rw [sk,sk,S.zB hs];constructor
 ·rintro⟨h,h2⟩
  refine⟨h.imp_left ?_,h2⟩;rintro⟨h3,p,hp,h4⟩;exact⟨S.ids h3,p,hp,(S.zB (hl p hp)).1 h4⟩
 ·rintro⟨h,h2⟩
  refine⟨h.imp_left ?_,h2⟩;rintro⟨h3,p,hp,h4⟩;have:=(S.zB (hl p hp)).2 h4;exact⟨(this.mem S.W).1,p,hp,this⟩
theorem xL(hl:∀p∈l,p∈ids G.D){x:HT}(h:x∈cI G s l):x∈ids G.D:=by
 rcases jD.1 h with⟨h|h,_⟩
 ·exact h.1
 ·exact hl x h
theorem Sub.cI(S:Sub G G')(hs:s∈Proofs.YtfleamccglihoaaGreatDoor.ids G.D)(hl:∀p∈l,p∈Proofs.YtfleamccglihoaaGreatDoor.ids G.D):Proofs.YtfleamccglihoaaGreatDoor.cI G s l=Proofs.YtfleamccglihoaaGreatDoor.cI G' s l:=by
 refine ti ?_ fun x=>?_
 ·refine List.Pairwise.imp_of_mem (fun {a b} ha hb h=>?_) (lM G s l)
  rw [<-S.gl (xL hl ha) (xL hl hb)];exact h
 ·rw [<-S.pX hs hl]
  unfold Proofs.YtfleamccglihoaaGreatDoor.cI;exact oh
theorem tM{G:GS}:∀ {l:List HT} {p:HT},p∈l->gl G (bQ G l) p=false
 |x::l,p,hp=>by
  have key:∀(l:List HT) (b:HT),gl G (l.foldl (fun b y=>if gl G b y then y else b) b) b=false/\∀p∈l,gl G (l.foldl (fun b y=>if gl G b y then y else b) b) p=false:=by
   intro l
   induction l with
   |nil=>intro b;exact⟨mH G b,fun p hp=>by cases hp⟩
   |cons y l ih=>
    intro b;rw [List.foldl_cons];obtain⟨h1,h2⟩:=ih (if gl G b y then y else b);cases hg:gl G b y with
    |true=>
     rw [hg,if_pos rfl]at h1 h2;rw [if_pos rfl];refine⟨?_,fun p hp=>?_⟩
     ·cases hx:gl G (l.foldl (fun b y=>if gl G b y then y else b) y) b with
      |false=>rfl
      |true=>rw [mU hx hg]at h1;cases h1
     ·rcases List.mem_cons.1 hp with rfl|hp
      ·exact h1
      ·exact h2 p hp
    |false=>
     rw [hg,if_neg (by simp)]at h1 h2;rw [if_neg (by simp)];refine⟨h1,fun p hp=>?_⟩;rcases List.mem_cons.1 hp with rfl|hp
     ·cases hx:gl G (l.foldl (fun b y=>if gl G b y then y else b) b) p with
      |false=>rfl
      |true=>
       cases hy:gl G p b with
       |true=>rw [mU hx hy]at h1;cases h1
       |false=>
        have e:=mV hg hy;rw [<-e]at hx;rw [hx]at h1;cases h1
     ·exact h2 p hp
  obtain⟨h1,h2⟩:=key l x;show gl G (l.foldl (fun b y=>if gl G b y then y else b) x) p=false
  rcases List.mem_cons.1 hp with rfl|hp
  ·exact h1
  ·exact h2 p hp
theorem Cf{G:GS}{l:List HT}{x:HT}(hx:x∈l)(h:∀p∈l,gl G x p=false):bQ G l=x:=by
 have fP:l≠ []:=fun e=>by rw [e]at hx;cases hx
 exact mV (tM hx) (h _ (iE fP))
theorem Sub.np(S:Sub G G')(hl:∀p∈l,p∈Proofs.YtfleamccglihoaaGreatDoor.ids G.D)(h0:l≠ []):bQ G l=bQ G' l:=by
 have hm:=iE (G:=G') h0;refine Cf hm fun p hp=>?_;rw [S.gl (hl _ hm) (hl p hp)];exact tM hp
theorem KA(H:jT k G)(h:HT)(ps:List HT):Sub G (eo k G h ps):=by
 refine⟨fun nd gA=>?_,H.W,(H.add h ps).W,fun y hy=>⟨(qq H hy).1.symm,(qq H hy).2.symm⟩⟩;by_cases hc:dR G.D h ps=0
 ·rw [lZ hc];exact List.mem_append_left _ gA
 ·rw [sO hc];exact gA
end
section
variable{k:Nat}{G:GS}{h:HT}{l:List HT}
end
section
variable{k:Nat}{G:GS}{h:HT}{l:List HT}
end
section
variable{w w':World}{K:Value->World->Prop}{B n cx b:Nat}{A:Option Addr}{F:Nat->Prop}{c k:Nat}{G:GS}{m:CM}{l:List HT}
end
section
variable{w w' v:World}{K:Value->World->Prop}{B n cx b q:Nat}{A E:Option Addr}{F:Nat->Prop}{c k:Nat}{G:GS}{m:CM}{l:List HT}{C:pr}{cp e ce:Nat}
theorem Dn(hx:v.heap[q]? =some (.cells (di C A n cp E e ce) bL (0,0))):
 Cells v ((⟨q,0,none⟩:Addr).add 0) C.np.1/\v.cell? ((⟨q,0,none⟩:Addr).add 32)=some (.int .u64 (C.score:Int))/\v.cell? ((⟨q,0,none⟩:Addr).add 33)=some (.slice A n cp)/\v.cell? ((⟨q,0,none⟩:Addr).add 34)=some (.slice E e ce):=by
 have g:=gN C A n cp E e ce #[];rw [Array.append_empty]at g;refine⟨fun j u hj=>?_,by rw [bC,aE hx];exact g.1,by rw [bC,aE hx];exact g.2.1,by rw [bC,aE hx];exact g.2.2.1⟩;have dg:=(Array.getElem?_eq_some_iff.1 hj).1;rw [add_zero,bC,aE hx,Nat.zero_add];unfold di;rw [Array.getElem?_append_left dg];exact hj
theorem Mi(u:World)(C:pr)(A:Option Addr)(n cp:Nat)(E:Option Addr)(e ce:Nat):
 ((di C A n cp E e ce).size=35/\(∀x∈(di C A n cp E e ce).toList,x.oneCell'=true)/\∀y,y<35->Wr (u.alloc (.cells zC bL)) ((aU u.heap.size).add y))/\
   (setCells (u.alloc (.cells zC bL)) ⟨u.heap.size,0,none⟩ (di C A n cp E e ce).toList 0).heap[u.heap.size]? =some (.cells (di C A n cp E e ce) bL (0,0))/\
   Kept Nil u (setCells (u.alloc (.cells zC bL)) ⟨u.heap.size,0,none⟩ (di C A n cp E e ce).toList 0):=by
 have Li:(u.alloc (.cells zC bL)).heap[u.heap.size]? =some (.cells zC bL (0,0)):=aM u _;obtain⟨t1,t2,t3⟩:=fY Li (cs:=di C A n cp E e ce) (by rw [bH];rfl);exact⟨⟨bH ..,fu _ _ _ _ _ _ _,fun j hj=>t1 j (by rw [bH];exact hj)⟩,t2,((Kept.refl _ _).alloc _).trans t3 (fun j hj e=>by omega)⟩
theorem vT(u:World)(x:HT):(x.1.size=32/\(∀y∈x.1.toList,y.oneCell'=true)/\∀y,y<32->Wr (u.alloc (.cells zH al)) ((aU u.heap.size).add y))/\
 (setCells (u.alloc (.cells zH al)) ⟨u.heap.size,0,none⟩ x.1.toList 0).heap[u.heap.size]? =some (.cells x.1 al (0,0))/\Kept Nil u (setCells (u.alloc (.cells zH al)) ⟨u.heap.size,0,none⟩ x.1.toList 0):=by
 obtain⟨tq,j0,kz⟩:=iL (w:=u) (z:=zH) (cs:=x.1) (t:=al) (by rw [x.2.1];rfl);exact⟨⟨x.2.1,x.2.one,fun j hj=>tq j (by rw [x.2.1];exact hj)⟩,j0,kz⟩
end
section
variable{k:Nat}{G:GS}{np:HT}
theorem stays{G':GS}(S:Sub G G')(H:jT k G){l:List HT}(hl:∀y∈l,y∈ids G.D)(h0:l≠ []):
 (∀y∈l,y∈ids G'.D)/\(∀a∈l,∀b∈l,(fw G'.D a b↔fw G.D a b))/\bQ G' l=bQ G l/\cI G' (bQ G' l) l=cI G (bQ G l) l:=by
 have G4:=hl _ (iE (G:=G) h0);have es:=S.np hl h0;refine⟨fun y hy=>S.ids (hl y hy),fun a _ b hb=>(S.zB (hl b hb)).symm,es.symm,?_⟩;rw [<-es];exact(S.cI G4 hl).symm
end
section
variable{G:GS}{np:HT}
end
structure PP where
 K:Int
 mp:Int
 mm:Int
 fin:Int
 Cn:Int
 MH:Int
 sub:Int
 MF:Int
 Ai:Int
 gen:HT
def PP.cells(p:PP):Array Value:= #[.int .i64 p.K,.int .i64 p.mp,.int .i64 p.mm,.int .i64 p.fin,.int .i64 p.Cn,.int .i64 p.MH,.int .u64 p.sub,.int .i64 p.MF,.int .i64 p.Ai]++p.gen.1
def PP.ok(p:PP):Prop:=(0<=p.K/\p.K<=100)/\(1<=p.mp/\p.mp<=20)/\(1<=p.mm/\p.mm<=1000)/\(0<=p.fin/\p.fin<=2147483647)/\(0<=p.Cn/\p.Cn<=2147483647)/\(0<=p.MH/\p.MH<=2147483647)/\(0<=p.MF/\p.MF<=100000)/\(0<=p.Ai/\p.Ai<=100000)/\p.sub<=1099511627776/\(p.Cn=0\/(0<p.fin/\p.fin<p.Cn/\p.mm<p.Cn))
noncomputable instance(p:PP):Decidable p.ok:=Classical.propDecidable _
noncomputable def fO(D:DG)(l:List HT):List HT:=l.filter fun x=>decide (x∉ids D)
theorem xM{D:DG}{l:List HT}{x:HT}:x∈fO D l↔x∈l/\x∉ids D:=by unfold fO;simp
theorem og{D:DG}{l:List HT}:fO D l= []↔∀x∈l,x∈ids D:=by
 rw [List.eq_nil_iff_forall_not_mem];constructor
 ·intro h x hx
  exact Classical.byContradiction fun e=>h x (xM.2 ⟨hx,e⟩)
 ·intro h x hx
  obtain⟨h1,h2⟩:=xM.1 hx;exact h2 (h x h1)
def o6(D:DG)(l:List HT):Prop:=∃a∈l,∃b∈l,fw D a b
open Classical in
noncomputable def iA(p:PP)(G:GS)(l:List HT):List HT×Int:=
 if ¬p.ok then([],2)
 else if(l.length<1\/p.mp<(l.length:Int))\/dB l≠l then([],9)
 else if fO G.D l≠ []then(fO G.D l,15)
 else if o6 G.D l then([],9)
 else if p.mm<((cI G (bQ G l) l).length:Int)then([],10)
 else([],0)
section
variable{k:Nat}{G G':GS}{l:List HT}{p:PP}
theorem Ba(S:Sub G G')(H:jT k G)(h:(iA p G l).2≠15):(iA p G' l).2=(iA p G l).2:=by
 unfold iA at*;by_cases h1:¬p.ok
 ·rw [if_pos h1,if_pos h1]
 ·rw [if_neg h1]at h⊢
  rw [if_neg h1];by_cases h2:(l.length<1\/p.mp<(l.length:Int))\/dB l≠l
  ·rw [if_pos h2,if_pos h2]
  ·rw [if_neg h2]at h⊢
   rw [if_neg h2];by_cases h3:fO G.D l≠ []
   ·rw [if_pos h3]at h
    exact absurd rfl h
   ·have BQ:fO G.D l= []:=Classical.byContradiction h3
    have gB:=og.1 BQ;have h0:l≠ []:=fun e=>h2 (.inl (.inl (by rw [e];simp)));obtain⟨s1,s2,_,s4⟩:=stays S H gB h0;have e3:fO G'.D l= []:=og.2 s1;have ea:o6 G'.D l↔o6 G.D l:=by
     unfold o6;constructor
     ·rintro⟨a,ha,b,hb,mB⟩
      exact⟨a,ha,b,hb,(s2 a ha b hb).1 mB⟩
     ·rintro⟨a,ha,b,hb,mB⟩
      exact⟨a,ha,b,hb,(s2 a ha b hb).2 mB⟩
    have e3':¬fO G'.D l≠ []:=fun e=>e e3;rw [if_neg h3]at h⊢;rw [if_neg e3'];by_cases h4:o6 G.D l
    ·rw [if_pos h4,if_pos (ea.2 h4)]
    ·rw [if_neg h4,if_neg (fun e=>h4 (ea.1 e)),s4]
end
theorem PP.size(p:PP):p.cells.size=41:=by unfold PP.cells;rw [Array.size_append,p.gen.2.1];rfl
theorem PP.L9(p:PP):p.cells[0]? =some (.int .i64 p.K):=by unfold PP.cells;rw [Array.getElem?_append_left (by show 0<9;omega)];rfl
theorem PP.L8(p:PP):p.cells[1]? =some (.int .i64 p.mp):=by unfold PP.cells;rw [Array.getElem?_append_left (by show 1<9;omega)];rfl
theorem PP.Gy(p:PP):p.cells[2]? =some (.int .i64 p.mm):=by unfold PP.cells;rw [Array.getElem?_append_left (by show 2<9;omega)];rfl
theorem PP.Db(p:PP):p.cells[3]? =some (.int .i64 p.fin):=by unfold PP.cells;rw [Array.getElem?_append_left (by show 3<9;omega)];rfl
theorem PP.y5(p:PP):p.cells[4]? =some (.int .i64 p.Cn):=by unfold PP.cells;rw [Array.getElem?_append_left (by show 4<9;omega)];rfl
theorem PP.QW(p:PP):p.cells[5]? =some (.int .i64 p.MH):=by unfold PP.cells;rw [Array.getElem?_append_left (by show 5<9;omega)];rfl
theorem PP.WW(p:PP):p.cells[6]? =some (.int .u64 p.sub):=by unfold PP.cells;rw [Array.getElem?_append_left (by show 6<9;omega)];rfl
theorem PP.QV(p:PP):p.cells[7]? =some (.int .i64 p.MF):=by unfold PP.cells;rw [Array.getElem?_append_left (by show 7<9;omega)];rfl
theorem PP.QU(p:PP):p.cells[8]? =some (.int .i64 p.Ai):=by unfold PP.cells;rw [Array.getElem?_append_left (by show 8<9;omega)];rfl
theorem PP.one(p:PP):∀v∈p.cells.toList,v.oneCell'=true:=by
 intro v hv;unfold PP.cells at hv;rw [Array.toList_append,List.mem_append]at hv;rcases hv with hv|hv
 ·simp only [List.mem_cons,List.not_mem_nil,or_false]at hv
  rcases hv with rfl|rfl|rfl|rfl|rfl|rfl|rfl|rfl|rfl<;>rfl
 ·exact p.gen.2.one v hv
def PP.Ht(p:PP):List (Int×Int×Int):= [(p.K,0,100),(p.mp,1,20),(p.mm,1,1000),(p.fin,0,2147483647),(p.Cn,0,2147483647),(p.MH,0,2147483647),(p.MF,0,100000),(p.Ai,0,100000)]
section
variable{w w':World}{K:Value->World->Prop}{p:PP}
theorem GZ(p:PP)(hK:∀w',Kept Nil w w'->K (.bool (decide p.ok)) w'):bD prog iF.id #[.agg p.cells] w K:=by
 refine iF.of ?_;unfold iF.W;intro w1;have k1:Kept Nil w w1:=(Kept.refl _ _).alloc _;have hb:w1.heap[w.heap.size]? =some (.cells p.cells eU (0,0)):=aM w _;clear_value w1;have rd:∀(j:Nat) (v:Value),j<41->p.cells[j]? =some v->w1.cell? ((aU w.heap.size).add j)=some v:=fun j v _ h=>by rw [bC,aE hb,Nat.zero_add];exact h
 have hk:=hK w1 k1;have no:¬p.ok->K (.bool false) w1:=fun e=>by rw [decide_eq_false e]at hk;exact hk
 have yes:p.ok->K (.bool true) w1:=fun e=>by rw [decide_eq_true e]at hk;exact hk
 refine⟨_,rd 0 _ (by decide) p.L9,Split.dec (fun h0=>no (fun e=>by unfold PP.ok at e;omega)) (fun h0=>?_)⟩;refine⟨_,rd 0 _ (by decide) p.L9,Split.dec (fun h1=>no (fun e=>by unfold PP.ok at e;omega)) (fun h1=>?_)⟩;refine⟨_,rd 1 _ (by decide) p.L8,Split.dec (fun h2=>no (fun e=>by unfold PP.ok at e;omega)) (fun h2=>?_)⟩;refine⟨_,rd 1 _ (by decide) p.L8,Split.dec (fun h3=>no (fun e=>by unfold PP.ok at e;omega)) (fun h3=>?_)⟩;refine⟨_,rd 2 _ (by decide) p.Gy,Split.dec (fun h4=>no (fun e=>by unfold PP.ok at e;omega)) (fun h4=>?_)⟩;refine⟨_,rd 2 _ (by decide) p.Gy,Split.dec (fun h5=>no (fun e=>by unfold PP.ok at e;omega)) (fun h5=>?_)⟩;refine⟨_,rd 3 _ (by decide) p.Db,Split.dec (fun h6=>no (fun e=>by unfold PP.ok at e;omega)) (fun h6=>?_)⟩;refine⟨_,rd 3 _ (by decide) p.Db,Split.dec (fun h7=>no (fun e=>by unfold PP.ok at e;omega)) (fun h7=>?_)⟩;refine⟨_,rd 4 _ (by decide) p.y5,Split.dec (fun h8=>no (fun e=>by unfold PP.ok at e;omega)) (fun h8=>?_)⟩;refine⟨_,rd 4 _ (by decide) p.y5,Split.dec (fun h9=>no (fun e=>by unfold PP.ok at e;omega)) (fun h9=>?_)⟩;refine⟨_,rd 5 _ (by decide) p.QW,Split.dec (fun uO=>no (fun e=>by unfold PP.ok at e;omega)) (fun uO=>?_)⟩;refine⟨_,rd 5 _ (by decide) p.QW,Split.dec (fun Km=>no (fun e=>by unfold PP.ok at e;omega)) (fun Km=>?_)⟩;refine⟨_,rd 6 _ (by decide) p.WW,Split.dec (fun BS=>no (fun e=>by unfold PP.ok at e;omega)) (fun BS=>?_)⟩;refine⟨_,rd 7 _ (by decide) p.QV,Split.dec (fun BR=>no (fun e=>by unfold PP.ok at e;omega)) (fun BR=>?_)⟩;refine⟨_,rd 7 _ (by decide) p.QV,Split.dec (fun YD=>no (fun e=>by unfold PP.ok at e;omega)) (fun YD=>?_)⟩
 refine⟨_,rd 8 _ (by decide) p.QU,Split.dec (fun Gu=>no (fun e=>by unfold PP.ok at e;omega)) (fun Gu=>?_)⟩;refine⟨_,rd 8 _ (by decide) p.QU,Split.dec (fun h16=>no (fun e=>by unfold PP.ok at e;omega)) (fun h16=>?_)⟩;refine⟨_,rd 4 _ (by decide) p.y5,?_⟩;by_cases Kl:p.Cn=0
 ·exact Split.yes (by simp [Kl]) (yes (by unfold PP.ok;omega))
 refine Split.no (by simp [Kl]) ⟨_,rd 3 _ (by decide) p.Db,Split.dec (fun QS=>?_) (fun QS=>no (fun e=>by unfold PP.ok at e;omega))⟩;refine⟨_,rd 4 _ (by decide) p.y5,_,rd 3 _ (by decide) p.Db,Split.dec (fun WR=>?_) (fun WR=>no (fun e=>by unfold PP.ok at e;omega))⟩;refine⟨_,rd 4 _ (by decide) p.y5,_,rd 2 _ (by decide) p.Gy,?_⟩;by_cases WQ:p.Cn>p.mm
 ·rw [decide_eq_true WQ];exact yes (by unfold PP.ok;omega)
 ·rw [decide_eq_false WQ];exact no (fun e=>by unfold PP.ok at e;omega)
set_option maxHeartbeats 1000000 in
theorem oT(p:PP)(hK:∀w',Kept Nil w w'->K (.bool (decide p.ok)) w'):bD prog bR.id #[.agg p.cells] w K:=by
 refine bR.of ?_;unfold bR.W;intro w1;have k1:Kept Nil w w1:=(Kept.refl _ _).alloc _;have hb:w1.heap[w.heap.size]? =some (.cells p.cells eU (0,0)):=aM w _;clear_value w1;have rd:∀(j:Nat) (v:Value),p.cells[j]? =some v->w1.cell? ((aU w.heap.size).add j)=some v:=fun j v h=>by rw [bC,aE hb,Nat.zero_add];exact h
 refine⟨_,rd 0 _ p.L9,_,rd 1 _ p.L8,_,rd 2 _ p.Gy,_,rd 3 _ p.Db,_,rd 4 _ p.y5,_,rd 5 _ p.QW,_,rd 7 _ p.QV,_,rd 8 _ p.QU,rfl,rfl,rfl,rfl,rfl,rfl,rfl,rfl,?_⟩;intro w2;have k2:Kept Nil w1 w2:=(Kept.refl _ _).alloc _;have ht:∃C:Array Value,∃ty:TypeId,w2.heap[w1.heap.size]? =some (.cells C ty (0,0))/\∀i:Nat,i<8->∃t,p.Ht[i]? =some t/\C[i*3]? =some (.int .i64 t.1)/\C[i*3+1]? =some (.int .i64 t.2.1)/\C[i*3+2]? =some (.int .i64 t.2.2):=by
  refine⟨_,_,aM w1 _,fun i hi=>?_⟩
  match i,hi with
  |0,_=>exact⟨_,rfl,rfl,rfl,rfl⟩
  |1,_=>exact⟨_,rfl,rfl,rfl,rfl⟩
  |2,_=>exact⟨_,rfl,rfl,rfl,rfl⟩
  |3,_=>exact⟨_,rfl,rfl,rfl,rfl⟩
  |4,_=>exact⟨_,rfl,rfl,rfl,rfl⟩
  |5,_=>exact⟨_,rfl,rfl,rfl,rfl⟩
  |6,_=>exact⟨_,rfl,rfl,rfl,rfl⟩
  |7,_=>exact⟨_,rfl,rfl,rfl,rfl⟩
 clear_value w2;obtain⟨C,ty,hC,gR⟩:=ht;have mn:=k1.tt k2;have nA:=k2.heap hb (fun h=>h);have no:∀ {u:World},Kept Nil w u->¬p.ok->K (.bool false) u:=fun ku e=>by have:=hK _ ku;rw [decide_eq_false e]at this;exact this
 refine bR.cJ (I:=fun s v=>∃i:Nat,s=(false,(i:Int))/\i<=8/\Kept Nil w2 v/\∀t∈p.Ht.take i,t.2.1<=t.1/\t.1<=t.2.2) (μ:=fun s _=>(8-s.2).toNat) (s:=(false,0)) ⟨0,rfl,by omega,Kept.refl _ _,by simp⟩ ?_;rintro s v ⟨i,rfl,hi,kv,cZ⟩;have wT:=mn.tt kv;unfold bR.B1;refine Split.dec (fun dg=>?_) (fun gK=>?_)
 ·simp only at dg
  have eh:i<8:=by omega
  obtain⟨t,Kb,c0,c1,c2⟩:=gR i eh;have TX:=List.mem_of_getElem? Kb;have hCv:=kv.heap hC (fun h=>h);simp-zeta only [Int.toNat_natCast];refine⟨⟨by omega,by omega⟩,Is.mk rfl ⟨#[.int .i64 t.1,.int .i64 t.2.1,.int .i64 t.2.2],⟨rfl,fun j u hj=>?_⟩,?_⟩⟩
  ·rw [bC,bC,aE hCv,Nat.zero_add]
   match j,hj with
   |0,hj=>cases hj;exact c0
   |1,hj=>cases hj;exact c1
   |2,hj=>cases hj;exact c2
   |j+3,hj=>simp at hj
  intro w3;obtain⟨tq,j0,kz⟩:=iL (w:=v) (z:=(#[.int .i64 0,.int .i64 0,.int .i64 0]:Array Value)) (cs:= #[.int .i64 t.1,.int .i64 t.2.1,.int .i64 t.2.2]) (t:=wC) rfl;refine⟨⟨rfl,by intro y hy;simp at hy;rcases hy with rfl|rfl|rfl<;>rfl,fun j hj=>tq j hj⟩,?_⟩;intro w4
  replace j0:w4.heap[v.heap.size]? =some (.cells #[.int .i64 t.1,.int .i64 t.2.1,.int .i64 t.2.2] wC (0,0)):=j0
  replace kz:Kept Nil v w4:=kz
  clear_value w4;have nt:=wT.tt kz;have Xx:∀(j:Nat) (z:Value),(#[.int .i64 t.1,.int .i64 t.2.1,.int .i64 t.2.2]:Array Value)[j]? =some z->w4.cell? ((aU v.heap.size).add j)=some z:=fun j z h=>by rw [bC,aE j0,Nat.zero_add];exact h
  have bad:¬(t.2.1<=t.1/\t.1<=t.2.2)->¬p.ok:=fun e h=>by
   unfold PP.ok at h;unfold PP.Ht at TX;simp only [List.mem_cons,List.not_mem_nil,or_false]at TX;rcases TX with rfl|rfl|rfl|rfl|rfl|rfl|rfl|rfl<;>(simp only at e;omega)
  refine⟨⟨by omega,by omega⟩,t.1,Xx 0 _ rfl,⟨by omega,by omega⟩,t.2.1,Xx 1 _ rfl,Split.dec (fun h1=>no nt (bad (by omega))) (fun h1=>?_)⟩;refine⟨⟨by omega,by omega⟩,t.1,Xx 0 _ rfl,⟨by omega,by omega⟩,t.2.2,Xx 2 _ rfl,Split.dec (fun h2=>no nt (bad (by omega))) (fun h2=>?_)⟩;rw [dH (n:=(i:Int)) (by omega) (by omega)];refine⟨(false,(i:Int)+1),rfl,⟨i+1,rfl,eh,kv.tt kz,fun t' PF=>?_⟩,by simp only;omega⟩;rw [List.take_add_one,Kb,List.mem_append]at PF;rcases PF with PF|PF
  ·exact cZ t' PF
  ·simp at PF
   subst PF;omega
 ·simp only at gK
  rw [aX,bR.dv];unfold bR.dd;have e8:i=8:=by omega
  subst e8;have CY:=kv.heap nA (fun h=>h);have rdv:∀(j:Nat) (z:Value),p.cells[j]? =some z->v.cell? ((aU w.heap.size).add j)=some z:=fun j z h=>by rw [bC,aE CY,Nat.zero_add];exact h
  have hk:=hK v wT;have yes:p.ok->K (.bool true) v:=fun e=>by rw [decide_eq_true e]at hk;exact hk
  have hT:(0<=p.K/\p.K<=100)/\(1<=p.mp/\p.mp<=20)/\(1<=p.mm/\p.mm<=1000)/\(0<=p.fin/\p.fin<=2147483647)/\(0<=p.Cn/\p.Cn<=2147483647)/\(0<=p.MH/\p.MH<=2147483647)/\(0<=p.MF/\p.MF<=100000)/\(0<=p.Ai/\p.Ai<=100000):=
   ⟨cZ (p.K,0,100) (by simp [PP.Ht]),cZ (p.mp,1,20) (by simp [PP.Ht]),cZ (p.mm,1,1000) (by simp [PP.Ht]),cZ (p.fin,0,2147483647) (by simp [PP.Ht]),cZ (p.Cn,0,2147483647) (by simp [PP.Ht]),cZ (p.MH,0,2147483647) (by simp [PP.Ht]),cZ (p.MF,0,100000) (by simp [PP.Ht]),cZ (p.Ai,0,100000) (by simp [PP.Ht])⟩
  refine⟨_,rdv 6 _ p.WW,Split.dec (fun h6=>?_) (fun h6=>no wT (fun e=>by unfold PP.ok at e;omega))⟩;refine⟨_,rdv 4 _ p.y5,?_⟩;by_cases Kl:p.Cn=0
  ·exact Split.yes (by simp [Kl]) (yes (by unfold PP.ok;omega))
  refine Split.no (by simp [Kl]) ⟨_,rdv 3 _ p.Db,Split.dec (fun QS=>?_) (fun QS=>no wT (fun e=>by unfold PP.ok at e;omega))⟩;refine⟨_,rdv 4 _ p.y5,_,rdv 3 _ p.Db,Split.dec (fun WR=>?_) (fun WR=>no wT (fun e=>by unfold PP.ok at e;omega))⟩;refine⟨_,rdv 4 _ p.y5,_,rdv 2 _ p.Gy,?_⟩;by_cases WQ:p.Cn>p.mm
  ·rw [decide_eq_true WQ];exact yes (by unfold PP.ok;omega)
  ·rw [decide_eq_false WQ];exact no wT (fun e=>by unfold PP.ok at e;omega)
end
theorem Bx{P:Program}{g:FuncId}{first gP:Array Value}{args:List Value}{fn:Func}{w:World}{k:Value->World->Prop}{vs:Array Value}(hf:P.funcs[g]? =some fn)(hb:fn.body.isSome=true)(hv:(first.toList++args++gP.toList).toArray=vs):
 lX P (.func (.func g) first gP) args w k=bD P g vs w fun v w'=>Ra P fn.resultTypes.toList v fun v=>k v w':=by
 subst hv;unfold lX;simp only [hf];cases hc:fn.body with
 |none=>rw [hc]at hb;cases hb
 |some c=>simp only [hc]
theorem jQ{P:Program}{g:FuncId}{first gP:Array Value}{args:List Value}{fn:Func}{w:World}{k:Value->World->Prop}{vs:Array Value}{t:TypeId}(hf:P.funcs[g]? =some fn)(hb:fn.body.isSome=true)(hv:(first.toList++args++gP.toList).toArray=vs)
 (ht:fn.resultTypes.toList= [t]) (hk:nI P t=.int .i64):lX P (.func (.func g) first gP) args w k=bD P g vs w fun v w'=>∃e:Int,v=.int .i64 e/\k (.int .i64 e) w':=by
 rw [Bx hf hb hv,ht];simp only [Ra,hk,Any]
section
variable{w w' v:World}{K:Value->World->Prop}{n cx n' cx' hb gb ob cb pb:Nat}{A A':Option Addr}{l l':List HT}{F:Nat->Prop}{c k:Nat}{G:GS}{m:CM}{hd:Array Value}{p:PP}
theorem Dh(hl:HS w A n l)(U7:HS w A' n' l')(hn:n<=1000000)(hK:∀w',Kept Nil w w'->K (.bool (decide (l=l'))) w'):
 bD prog aP.id #[.slice A n cx,.slice A' n' cx'] w K:=by
 have hlen:=hl.len;have IU:=U7.len;refine aP.of ?_;unfold aP.W;by_cases e:n=n'
 ·subst e
  refine Split.no (by simp) ?_;refine aP.cJ (I:=fun s v=>∃i:Nat,s=(false,(i:Int))/\i<=n/\Kept Nil w v/\∀t,t<i->l[t]? =l'[t]?) (μ:=fun s _=>((n:Int)-s.2).toNat) (s:=(false,0)) ⟨0,rfl,Nat.zero_le _,Kept.refl _ _,fun t ht=>by omega⟩ ?_;rintro s v ⟨i,rfl,hi,kv,cZ⟩;unfold aP.B1;refine Split.dec (fun dg=>?_) (fun gK=>?_)
  ·simp only at dg
   have eh:i<n:=by omega
   obtain⟨x,hx⟩:∃x,l[i]? =some x:=⟨_,List.getElem?_eq_getElem (by omega)⟩;obtain⟨y,hy⟩:∃y,l'[i]? =some y:=⟨_,List.getElem?_eq_getElem (by omega)⟩;intro w3;have k3:Kept Nil v w3:=(Kept.refl _ _).drew;clear_value w3;have jZ:=kv.tt k3;refine HS.load (hl.same jZ) (i:=(i:Int)) (x:=x) (by omega) (by rw [Int.toNat_natCast];exact hx) ?_;refine HS.load (U7.same jZ) (i:=(i:Int)) (x:=y) (by omega) (by rw [Int.toNat_natCast];exact hy) ⟨⟨x.2.ints,y.2.ints⟩,?_⟩;rw [fL];by_cases ny:x=y
   ·refine Split.no (by rw [decide_eq_true ny];rfl) ?_
    simp only;rw [dH (n:=(i:Int)) (by omega) (by omega)];refine⟨(false,(i:Int)+1),rfl,⟨i+1,rfl,eh,jZ,fun t ht=>?_⟩,by simp only;omega⟩;by_cases Kb:t=i
    ·subst Kb
     rw [hx,hy,ny]
    ·exact cZ t (by omega)
   ·refine Split.yes (by rw [decide_eq_false ny];rfl) ?_
    have fP:l≠l':=fun e=>by
     subst e;rw [hx]at hy;exact ny (Option.some.inj hy)
    have:=hK w3 jZ;rw [decide_eq_false fP]at this;exact this
  ·simp only at gK
   rw [aX,aP.dv];have el:l=l':=List.ext_getElem? fun t=>by
    by_cases ht:t<i
    ·exact cZ t ht
    ·rw [List.getElem?_eq_none (by omega),List.getElem?_eq_none (by omega)]
   have:=hK v kv;rw [decide_eq_true el]at this;exact this
 ·refine Split.yes (by simpa using (fun h:(n:Int)=(n':Int)=>e (by omega))) ?_
  have fP:l≠l':=fun h=>e (by rw [<-hlen,<-IU,h]);have:=hK w (Kept.refl _ _);rw [decide_eq_false fP]at this;exact this
theorem LR(vL:w.heap[pb]? =some (.cells p.cells eU (0,0)))(hK:∀w',Kept Nil w w'->K (.int .i64 (if ¬p.ok then 2 else 0)) w'):
 bD prog cR.id #[.pointer (some ⟨pb,0,none⟩)] w K:=by
 refine cR.of ?_;refine⟨p.cells,⟨p.size,Cells.bV vL⟩,oT p fun w1 k1=>⟨_,rfl,?_⟩⟩;have:=hK w1 k1;by_cases h:p.ok
 ·rw [if_neg (fun e=>e h)]at this
  exact Split.no (by rw [decide_eq_true h];rfl) this
 ·rw [if_pos h]at this
  exact Split.yes (by rw [decide_eq_false h];rfl) this
theorem p8(EE:w.heap[hb]? =some (.cells hd jS (0,0)))(h0:hd[0]? =some (.slice A n cx)):w.cell? ((⟨hb,0,none⟩:Addr).add 0)=some (.slice A n cx):=by
 rw [add_zero,aE EE];exact h0
theorem LQ(EE:w.heap[hb]? =some (.cells hd jS (0,0)))(h0:hd[0]? =some (.slice A n cx))(hl:HS w A n l)(hn:n<=100000)(vL:w.heap[pb]? =some (.cells p.cells eU (0,0)))
 (hK:∀w' e,Kept Nil w w'->(((l.length<1\/p.mp<(l.length:Int))\/dB l≠l)/\e=9\/¬((l.length<1\/p.mp<(l.length:Int))\/dB l≠l)/\e=0)->K (.int .i64 e) w'):
 bD prog cQ.id #[.pointer (some ⟨hb,0,none⟩),.pointer (some ⟨pb,0,none⟩)] w K:=by
 have hlen:=hl.len;refine cQ.of ?_;unfold cQ.W;refine⟨A,n,cx,p8 EE h0,?_⟩;intro w1;have k1:Kept Nil w w1:=(Kept.refl _ _).drew;clear_value w1;have rd:w1.cell? ((⟨pb,0,none⟩:Addr).add 1)=some (.int .i64 p.mp):=by rw [bC,aE (k1.heap vL (fun h=>h))];exact p.L8
 have PU:=p8 (k1.heap EE (fun h=>h)) h0;refine Split.dec (fun h1=>hK w1 9 k1 (.inl ⟨.inl (.inl (by omega)),rfl⟩)) (fun h1=>⟨_,rd,Split.dec (fun h2=>hK w1 9 k1 (.inl ⟨.inl (.inr (by omega)),rfl⟩)) (fun h2=>⟨A,n,cx,PU,A,n,cx,PU,?_⟩)⟩);refine iP (hl.same k1) (by omega) fun A2 c2 w2 hU k2=>⟨A2,_,c2,rfl,p8 ((k1.tt k2).heap EE (fun h=>h)) h0,?_⟩;have mn:=k1.tt k2;have CH:=oF l;refine Dh (cC.hs hU) (hl.same mn) (by omega) fun w3 k3=>⟨_,rfl,?_⟩;have jZ:=mn.tt k3;by_cases hs:dB l=l
 ·refine Split.no (by rw [decide_eq_true hs];rfl) (hK w3 0 jZ (.inr ⟨fun e=>?_,rfl⟩))
  rcases e with(e|e)|e
  ·omega
  ·omega
  ·exact e hs
 ·exact Split.yes (by rw [decide_eq_false hs];rfl) (hK w3 9 jZ (.inl ⟨.inr hs,rfl⟩))
theorem Cs{D:DG}{i:Nat}{x:HT}(hx:l[i]? =some x):fO D (l.take (i+1))=fO D (l.take i)++if x∈ids D then []else [x]:=by
 unfold fO;rw [List.take_add_one,hx,List.filter_append]
 congr 1
 by_cases h:x∈ids D
 ·simp [h]
 ·simp [h]
theorem HV(D:DG)(l:List HT):(fO D l).length<=l.length:=List.length_filter_le _ _
set_option maxHeartbeats 1000000 in
theorem LP{mx:XM}{P:List Int}{x:Nat}{FX:Nat->Prop}(X:XV w FX x G.D P mx)(C:CV w F c k G m)(hCX:m.x=x)(EE:w.heap[hb]? =some (.cells hd jS (0,0)))(h0:hd[0]? =some (.slice A n cx))(hl:HS w A n l)(hn:n<=100000)
 (Vo:w.heap[gb]? =some (.cells #[.pointer (some ⟨mx.g,0,none⟩)] iR (0,0))) (BP:w.heap[ob]? =some (.cells #[.slice none 0 0] aF (0,0))) (fP:gb≠ob) (hhn:hb≠ob) (hAo:∀a,A=some a->a.block≠ob) (hX:∀u,Kept (· =ob) w u->XV u FX x G.D P mx)
 (mG:fO G.D l= []->∀w',Kept Nil w w'->K (.int .i64 0) w')
 (wW:fO G.D l≠ []->∀w' A' c',w'.heap[ob]? =some (.cells #[.slice A' (fO G.D l).length c'] aF (0,0))->cC w' w.heap.size A' (fO G.D l).length c' (fO G.D l)->Kept (· =ob) w w'->K (.int .i64 15) w'):
 bD prog bf.id #[.pointer (some ⟨hb,0,none⟩),.pointer (some ⟨gb,0,none⟩),.pointer (some ⟨ob,0,none⟩)] w K:=by
 have hlen:=hl.len;have lob:=aY BP;refine bf.of ?_;unfold bf.W;refine⟨A,n,cx,p8 EE h0,?_⟩;refine bf.cJ (I:=fun s v=>∃(i:Nat) (A':Option Addr) (c':Nat),s=(i:Int)/\i<=n/\v.heap[ob]? =some (.cells #[.slice A' (fO G.D (l.take i)).length c'] aF (0,0))/\cC v w.heap.size A' (fO G.D (l.take i)).length c' (fO G.D (l.take i))/\Kept (· =ob) w v/\(fO G.D (l.take i)= []->Kept Nil w v)) (μ:=fun s _=>((n:Int)-s).toNat) (s:=0) ⟨0,none,0,rfl,Nat.zero_le _,BP,cC.nil _ _,Kept.refl _ _,fun _=>Kept.refl _ _⟩ ?_;rintro s v ⟨i,A',c',rfl,hi,Nn,row,kv,Gi⟩;unfold bf.B1;refine Split.dec (fun dg=>?_) (fun gK=>?_)
 ·have eh:i<n:=by omega
  obtain⟨y,hy⟩:∃y,l[i]? =some y:=⟨_,List.getElem?_eq_getElem (by omega)⟩;have rG:HS v A n l:=hl.aJ kv (fun a ha e=>hAo a ha e);refine HS.load rG (i:=(i:Int)) (x:=y) (by omega) (by rw [Int.toNat_natCast];exact hy) ?_;intro w3;obtain⟨t1,t2,t3⟩:=vT v y;refine⟨t1,?_⟩;intro w4
  replace t2:w4.heap[v.heap.size]? =some (.cells y.1 al (0,0)):=t2
  replace t3:Kept Nil v w4:=t3
  clear_value w4;have nt:Kept (· =ob) w w4:=kv.trans t3 (fun _ _ h=>h.elim);refine⟨_,by rw [aE (nt.heap Vo fP)];rfl,y.1,⟨y.2.1,Cells.bV t2⟩,?_⟩;obtain⟨bl,cc,mb,M,GG⟩:=(hX w4 nt).G;refine sG GG y fun w5 k5=>⟨_,rfl,?_⟩;have xU:=t3.tt k5;have o7:Kept (· =ob) w w5:=nt.trans k5 (fun _ _ h=>h.elim);have PV:=xU.heap Nn (fun h=>h);have lC:cC w5 w.heap.size A' (fO G.D (l.take i)).length c' (fO G.D (l.take i)):=Row.aJ row xU (fun _ _ h=>h);have oU:=Cs (D:=G.D) hy;by_cases hm:y∈ids G.D
  ·rw [if_pos hm,List.append_nil]at oU
   refine Split.no (by rw [decide_eq_true hm];rfl) ?_;rw [dH (n:=(i:Int)) (by omega) (by omega)];exact⟨(i:Int)+1,rfl,⟨i+1,A',c',rfl,eh,by rw [oU];exact PV,by rw [oU];exact lC,o7,fun e=>by rw [oU]at e;exact(Gi e).tt xU⟩,by simp only;omega⟩
  ·rw [if_neg hm]at oU
   refine Split.yes (by rw [decide_eq_false hm];rfl) ⟨_,_,_,by rw [aE PV];rfl,y.1,⟨y.2.1,Cells.bV (k5.heap t2 (fun h=>h))⟩,y.2.1,?_⟩;intro w6;have k6:Kept Nil w5 w6:=(Kept.refl _ _).alloc _;have qd:HS w6 (some ⟨w5.heap.size,0,none⟩) 1 [y]:=jF w5 y;clear_value w6;have yC:cC w6 w.heap.size A' (fO G.D (l.take i)).length c' (fO G.D (l.take i)):=Row.aJ lC k6 (fun _ _ h=>h);have s6:=(o7.trans k6 (fun _ _ h=>h.elim)).size;have IQ:=HV G.D (l.take i);rw [List.length_take]at IQ;obtain⟨A7,c7,w7,Ng,Ci,g7,hA7⟩:=dc aF yC (cx:=1) qd (by omega) s6;have k7:Kept (fun j=>bG A'=some j) w6 w7:=Kept.grown (Kept.refl _ _) g7 fun j hj _=>hj;have nob:bG A'≠some ob:=fun e=>by have:=(Row.bV yC e).1;omega
   have Uu:=k7.heap (k6.heap PV (fun h=>h)) nob;refine⟨A7,_,c7,w7,Ng,dN Uu (by simp),?_⟩;intro w8;have aa2:w8.heap[ob]? =some (.cells #[.slice A7 ((fO G.D (l.take i)).length+1) c7] aF (0,0)):=dp Uu 0 _;have k8:Kept (· =ob) w7 w8:=Kept.setCell (S:=fun j=>j=ob) (Kept.refl _ w7) (p:=⟨ob,0,none⟩) (fun _=>rfl) _;clear_value w8;rw [dH (n:=(i:Int)) (by omega) (by omega)];have el:(fO G.D (l.take (i+1))).length=(fO G.D (l.take i)).length+1:=by rw [oU,List.length_append];rfl
   refine⟨(i:Int)+1,rfl,⟨i+1,A7,c7,rfl,eh,by rw [el];exact aa2,?_,?_,fun e=>?_⟩,by simp only;omega⟩
   ·rw [el,oU]
    exact Row.aJ Ci k8 (fun j hj e=>by have:=(Row.bV Ci hj).1;omega)
   ·exact((o7.trans k6 (fun _ _ h=>h.elim)).trans k7 (fun j hj e=>by have:=(Row.bV yC e).1;omega)).tt k8
   ·rw [oU]at e
    simp at e
 ·rw [aX,bf.dv]
  unfold bf.dd;rw [List.take_of_length_le (by omega)]at Nn row Gi;refine⟨_,_,_,by rw [aE Nn];rfl,?_⟩;by_cases he:fO G.D l= []
  ·rw [he]
   exact Split.no rfl (mG he v (Gi he))
  ·have:=List.length_pos_iff.2 he
   exact Split.yes (decide_eq_true (by omega)) (wW he v A' c' Nn row kv)
theorem IX{x y:HT}{xb:Nat}(C:CV w F c k G m)(hD:G.D.length<=5000)(EI:w.heap[cb]? =some (.cells #[.pointer (some ⟨c,0,none⟩)] dC (0,0)))(M1:w.heap[xb]? =some (.cells x.1 al (0,0)))
 (hK:∀w' (r:Bool),(r=true↔fw G.D x y)->Kept Nil w w'->K (.bool r) w'):
 bD prog du.id #[.agg y.1,.pointer (some ⟨cb,0,none⟩),.pointer (some ⟨xb,0,none⟩)] w K:=by
 refine du.of ?_;unfold du.W;intro w1 w2;have k1:Kept Nil w w1:=(Kept.refl _ _).alloc _;have Lg:w1.heap[w.heap.size]? =some (.cells y.1 al (0,0)):=aM w _;have k2:Kept Nil w1 w2:=(Kept.refl _ _).drew;clear_value w2;have TO:=k2.heap Lg (fun h=>h);have mn:=k1.tt k2;clear_value w1;have C2:=C.same mn;have Lj:=mn.heap M1 (fun h=>h);refine⟨_,by rw [aE (mn.heap EI (fun h=>h))];rfl,x.1,⟨x.2.1,Cells.bV Lj⟩,y.1,⟨y.2.1,Cells.bV TO⟩,?_⟩;refine uh C2 ⟨_,rfl,⟨_,rfl,y.2.1,Cells.bV TO⟩,⟨_,rfl,x.2.1,Cells.bV Lj⟩,?_⟩;obtain⟨mx,X,_⟩:=C2.X;exact lr X hD x y fun w3 r hr k3=>⟨r,rfl,hK w3 r hr (mn.tt k3)⟩
theorem Gp{x:HT}{xb:Nat}(C:CV w F c k G m)(hD:G.D.length<=5000)(EI:w.heap[cb]? =some (.cells #[.pointer (some ⟨c,0,none⟩)] dC (0,0)))(M1:w.heap[xb]? =some (.cells x.1 al (0,0)))(hl:HS w A n l)(hn:n<=100000)
 (hK:∀w' (i:Int),(i>=0↔∃y∈l,fw G.D x y)->Kept Nil w w'->K (.int .i64 i) w'):
 bD prog mh.id #[.slice A n cx,.func (.func du.id) #[] #[.pointer (some ⟨cb,0,none⟩),.pointer (some ⟨xb,0,none⟩)]] w K:=by
 have hlen:=hl.len;refine an.of ?_;unfold an.W;refine an.cJ (I:=fun s v=>∃i:Nat,s=(0,(i:Int))/\i<=n/\Kept Nil w v/\∀y∈l.take i,¬fw G.D x y) (μ:=fun s _=>((n:Int)-s.2).toNat) (s:=(0,0)) ⟨0,rfl,Nat.zero_le _,Kept.refl _ _,by simp⟩ ?_;rintro s v ⟨i,rfl,hi,kv,cZ⟩;unfold an.B1;refine Split.dec (fun dg=>?_) (fun gK=>?_)
 ·simp only at dg
  have eh:i<n:=by omega
  obtain⟨y,hy⟩:∃y,l[i]? =some y:=⟨_,List.getElem?_eq_getElem (by omega)⟩;refine HS.load (hl.same kv) (i:=(i:Int)) (x:=y) (by omega) (by rw [Int.toNat_natCast];exact hy) ?_;refine IX (C.same kv) hD (kv.heap EI (fun h=>h)) (kv.heap M1 (fun h=>h)) fun w3 r hr k3=>⟨r,rfl,?_⟩;have jZ:=kv.tt k3;cases r with
  |true=>exact Split.yes rfl (hK w3 (i:Int) ⟨fun _=>⟨y,List.mem_of_getElem? hy,hr.1 rfl⟩,fun _=>by omega⟩ jZ)
  |false=>
   refine Split.no rfl ?_;simp only;rw [dH (n:=(i:Int)) (by omega) (by omega)];refine⟨(0,(i:Int)+1),rfl,⟨i+1,rfl,eh,jZ,fun z hz e=>?_⟩,by simp only;omega⟩;rcases(bT hy).1 hz with hz|rfl
   ·exact cZ z hz e
   ·have:=hr.2 e
    cases this
 ·simp only at gK
  rw [aX,an.dv];rw [List.take_of_length_le (by omega)]at cZ;exact hK v (-1) ⟨fun e=>by omega,fun⟨y,hy,e⟩=>absurd e (cZ y hy)⟩ kv
theorem LO(C:CV w F c k G m)(hD:G.D.length<=5000)(EE:w.heap[hb]? =some (.cells hd jS (0,0)))(h0:hd[0]? =some (.slice A n cx))(hl:HS w A n l)(hn:n<=100000)(EI:w.heap[cb]? =some (.cells #[.pointer (some ⟨c,0,none⟩)] dC (0,0)))
 (hK:∀w' e,Kept Nil w w'->(o6 G.D l/\e=9\/¬o6 G.D l/\e=0)->K (.int .i64 e) w'):
 bD prog bp.id #[.pointer (some ⟨hb,0,none⟩),.pointer (some ⟨cb,0,none⟩)] w K:=by
 have hlen:=hl.len;refine bp.of ?_;unfold bp.W;refine⟨A,n,cx,p8 EE h0,?_⟩;refine bp.cJ (I:=fun s v=>∃i:Nat,s=(0,(i:Int))/\i<=n/\Kept Nil w v/\∀a∈l.take i,∀b∈l,¬fw G.D a b) (μ:=fun s _=>((n:Int)-s.2).toNat) (s:=(0,0)) ⟨0,rfl,Nat.zero_le _,Kept.refl _ _,by simp⟩ ?_;rintro s v ⟨i,rfl,hi,kv,cZ⟩;unfold bp.B1;refine Split.dec (fun dg=>?_) (fun gK=>?_)
 ·simp only at dg
  have eh:i<n:=by omega
  obtain⟨y,hy⟩:∃y,l[i]? =some y:=⟨_,List.getElem?_eq_getElem (by omega)⟩;refine HS.load (hl.same kv) (i:=(i:Int)) (x:=y) (by omega) (by rw [Int.toNat_natCast];exact hy) ?_;intro w3;obtain⟨t1,t2,t3⟩:=vT v y;refine⟨t1,?_⟩;intro w4
  replace t2:w4.heap[v.heap.size]? =some (.cells y.1 al (0,0)):=t2
  replace t3:Kept Nil v w4:=t3
  clear_value w4;have nt:=kv.tt t3;refine⟨A,n,cx,p8 (nt.heap EE (fun h=>h)) h0,?_⟩;refine bZ.of ?_;unfold bZ.W;refine Gp (C.same nt) hD (nt.heap EI (fun h=>h)) t2 (hl.same nt) hn fun w5 j hj k5=>⟨j,rfl,_,rfl,?_⟩;have o7:=nt.tt k5;by_cases Yg:j>=0
  ·obtain⟨b,hb,mB⟩:=hj.1 Yg
   exact Split.yes (decide_eq_true Yg) (hK w5 9 o7 (.inl ⟨⟨y,List.mem_of_getElem? hy,b,hb,mB⟩,rfl⟩))
  ·refine Split.no (decide_eq_false Yg) ?_
   simp only;rw [dH (n:=(i:Int)) (by omega) (by omega)];refine⟨(0,(i:Int)+1),rfl,⟨i+1,rfl,eh,o7,fun a ha b hb e=>?_⟩,by simp only;omega⟩;rcases(bT hy).1 ha with ha|rfl
   ·exact cZ a ha b hb e
   ·exact Yg (hj.2 ⟨b,hb,e⟩)
 ·simp only at gK
  rw [aX,bp.dv];rw [List.take_of_length_le (by omega)]at cZ;exact hK v 0 kv (.inr ⟨fun⟨a,ha,b,hb,e⟩=>cZ a ha b hb e,rfl⟩)
theorem LN(C:CV w F c k G m)(hT:sP w)(hD:G.D.length<=49)(pB:k<=1000)(EE:w.heap[hb]? =some (.cells hd jS (0,0)))(h0:hd[0]? =some (.slice A n cx))(hl:HS w A n l)(hn:n<=5000)(EI:w.heap[cb]? =some (.cells #[.pointer (some ⟨c,0,none⟩)] dC (0,0)))
 (vL:w.heap[pb]? =some (.cells p.cells eU (0,0))) (yX:l≠ []) (gB:∀x∈l,x∈ids G.D)
 (hK:∀w' e,Kept Nil w w'->(p.mm<((cI G (bQ G l) l).length:Int)/\e=10\/¬p.mm<((cI G (bQ G l) l).length:Int)/\e=0)->K (.int .i64 e) w'):
 bD prog cP.id #[.pointer (some ⟨cb,0,none⟩),.pointer (some ⟨hb,0,none⟩),.pointer (some ⟨pb,0,none⟩)] w K:=by
 have hlen:=hl.len;have m0:lD G.D l=0:=by
  unfold lD;rw [if_neg yX,if_neg (fun⟨x,hx,e⟩=>e (gB x hx))]
 have G4:bQ G l∈ids G.D:=gB _ (iE yX);have m1:lD G.D (bQ G l::l)=0:=by
  unfold lD;rw [if_neg (by simp),if_neg];rintro⟨x,hx,e⟩;rcases List.mem_cons.1 hx with rfl|hx
  ·exact e G4
  ·exact e (gB x hx)
 refine cP.of ?_;unfold cP.W;refine⟨_,by rw [aE EI];rfl,A,n,cx,p8 EE h0,?_⟩;refine sE C hl (by omega) fun w1 k1=>⟨_,_,rfl,?_⟩;rw [if_pos m0];intro w2;obtain⟨t1,t2,t3⟩:=vT w1 (bQ G l);refine⟨t1,?_⟩;intro w3
 replace t2:w3.heap[w1.heap.size]? =some (.cells (bQ G l).1 al (0,0)):=t2
 replace t3:Kept Nil w1 w3:=t3
 clear_value w3;have jZ:=k1.tt t3;refine⟨_,by rw [aE (jZ.heap EI (fun h=>h))];rfl,_,⟨(bQ G l).2.1,Cells.bV t2⟩,A,n,cx,p8 (jZ.heap EE (fun h=>h)) h0,?_⟩;refine Da (C.same jZ) (hT.same jZ) hD pB (hl.same jZ) hn (fun e=>absurd m1 e) fun _ w4 A4 n4 c4 E4 e4 d4 mg4 _ k4 _=>⟨_,_,rfl,?_⟩;have nt:=jZ.tt k4;intro w5;obtain⟨u1,u2,u3⟩:=Mi w4 (dr k G (bQ G l) l) A4 n4 c4 E4 e4 d4;refine⟨u1,?_⟩;intro w6
 replace u2:w6.heap[w4.heap.size]? =some (.cells (di (dr k G (bQ G l) l) A4 n4 c4 E4 e4 d4) bL (0,0)):=u2
 replace u3:Kept Nil w4 w6:=u3
 clear_value w6;have p7:=nt.tt u3;have hn4:=mg4.len;have UP:(dr k G (bQ G l) l).merge=cI G (bQ G l) l:=rfl;rw [UP]at hn4;refine⟨A4,n4,c4,(Dn u2).2.2.1,p.mm,by rw [bC,aE (p7.heap vL (fun h=>h))];exact p.Gy,?_⟩;rw [<-hn4];exact Split.dec (fun h=>hK w6 10 p7 (.inl ⟨by omega,rfl⟩)) (fun h=>hK w6 0 p7 (.inr ⟨by omega,rfl⟩))
end
section
variable{w w' v:World}{K:Value->World->Prop}{n cx hb gb ob cb pb:Nat}{A:Option Addr}{l:List HT}{F:Nat->Prop}{c k:Nat}{G:GS}{m:CM}{hd:Array Value}{p:PP}
set_option maxHeartbeats 4000000 in
theorem kr(C:CV w F c k G m)(hT:sP w)(hD:G.D.length<=49)(pB:k<=1000)(p:PP)(h0:hd[0]? =some (.slice A n cx))(hl:HS w A n l)(hn:n<=1000)
 (hK:∀w' A' n' c',HS w' A' n' (iA p G l).1->Kept Nil w w'->K (.tuple #[.slice A' n' c',.int .i64 (iA p G l).2]) w'):
 bD prog aL.id #[.agg p.cells,.pointer (some ⟨c,0,none⟩),.agg hd] w K:=by
 have hlen:=hl.len;refine aL.of ?_;unfold aL.W;intro w1 w2 w3 w4;have k1:Kept Nil w w1:=(Kept.refl _ _).alloc _;have PU:w1.heap[w.heap.size]? =some (.cells p.cells eU (0,0)):=aM w _;have k2:Kept Nil w1 w2:=(Kept.refl _ _).alloc _;have I1:w2.heap[w1.heap.size]? =some (.cells #[.pointer (some ⟨c,0,none⟩)] dC (0,0)):=aM w1 _;have k3:Kept Nil w2 w3:=(Kept.refl _ _).alloc _;have hh3:w3.heap[w2.heap.size]? =some (.cells hd jS (0,0)):=aM w2 _;have k4:Kept Nil w3 w4:=(Kept.refl _ _).alloc _;have ho4:w4.heap[w3.heap.size]? =some (.cells #[.slice none 0 0] aF (0,0)):=aM w3 _;clear_value w4;have Vk:=k4.heap hh3 (fun h=>h);have NF:=(k3.tt k4).heap I1 (fun h=>h);have RI:=((k2.tt k3).tt k4).heap PU (fun h=>h);have nt:=((k1.tt k2).tt k3).tt k4;have s1:=k1.size;have l1:=aY PU;have l2:=aY I1;have l3:=aY hh3;have l4:=aY ho4;generalize vL:w.heap.size=pb at RI l1 s1;generalize EI:w1.heap.size=cb at NF l1 l2 s1;generalize EE:w2.heap.size=hb at Vk l2 l3;generalize BP:w3.heap.size=ob at ho4 l3 l4;clear_value w3;clear_value w2;clear_value w1;have C4:=C.same nt;refine⟨_,by rw [aE NF];rfl,uh C4 ⟨_,rfl,?_⟩⟩;obtain⟨mx,X4,Vz⟩:=C4.X;refine gC.of (Split.no rfl (Is.mk rfl ⟨_,X4.c0,⟨_,rfl,?_⟩⟩));intro w5;have k5:Kept Nil w4 w5:=(Kept.refl _ _).alloc _;have LJ:w5.heap[w4.heap.size]? =some (.cells #[.pointer none] iR (0,0)):=aM w4 _;clear_value w5;have l5:=aY LJ;refine⟨dN LJ (by simp),?_⟩;intro w6 w7;have hg6:w6.heap[w4.heap.size]? =some (.cells #[.pointer (some ⟨mx.g,0,none⟩)] iR (0,0)):=dp LJ 0 _;have k6:Kept (· =w4.heap.size) w5 w6:=Kept.setCell (S:=fun j=>j=w4.heap.size) (Kept.refl _ w5) (p:=⟨w4.heap.size,0,none⟩) (fun _=>rfl) _
 have k7:Kept Nil w6 w7:=(Kept.refl _ _).alloc _;have JU:Kept Nil w4 w6:=k5.trans k6 (fun j hj e=>by omega);have s46:=JU.size;generalize Vo:w4.heap.size=gb at hg6;have Yk:=aM w6 (.cells #[.func (.func cV.id) #[] #[.pointer (some ⟨gb,0,none⟩)],.func (.func cR.id) #[] #[.pointer (some ⟨pb,0,none⟩)],.func (.func cQ.id) #[] #[.pointer (some ⟨hb,0,none⟩),.pointer (some ⟨pb,0,none⟩)],.func (.func bf.id) #[] #[.pointer (some ⟨hb,0,none⟩),.pointer (some ⟨gb,0,none⟩),.pointer (some ⟨ob,0,none⟩)],.func (.func bp.id) #[] #[.pointer (some ⟨hb,0,none⟩),.pointer (some ⟨cb,0,none⟩)],.func (.func cP.id) #[] #[.pointer (some ⟨cb,0,none⟩),.pointer (some ⟨hb,0,none⟩),.pointer (some ⟨pb,0,none⟩)]] 110);have e7:w7=w6.alloc (.cells #[.func (.func cV.id) #[] #[.pointer (some ⟨gb,0,none⟩)],.func (.func cR.id) #[] #[.pointer (some ⟨pb,0,none⟩)],.func (.func cQ.id) #[] #[.pointer (some ⟨hb,0,none⟩),.pointer (some ⟨pb,0,none⟩)],.func (.func bf.id) #[] #[.pointer (some ⟨hb,0,none⟩),.pointer (some ⟨gb,0,none⟩),.pointer (some ⟨ob,0,none⟩)],.func (.func bp.id) #[] #[.pointer (some ⟨hb,0,none⟩),.pointer (some ⟨cb,0,none⟩)],.func (.func cP.id) #[] #[.pointer (some ⟨cb,0,none⟩),.pointer (some ⟨hb,0,none⟩),.pointer (some ⟨pb,0,none⟩)]] 110):=by
  subst Vo;rfl
 rw [<-e7]at Yk;clear_value w7;clear e7;have l7:=aY Yk;generalize Gh:w6.heap.size=rb at Yk l7;have O6:=JU.tt k7;have vJ:=nt.tt O6;clear_value w6;have hp7:=O6.heap RI (fun h=>h);have Oe:∀j,mx.kX m.x j\/m.FX j->j<pb:=fun j e=>by
  rw [<-vL];rcases e with e|e
  ·exact C.low j (.inl (.inl (Vz j e)))
  ·exact C.low j (.inr (C.fx j e))
 have hc7:=O6.heap NF (fun h=>h);have hh7:=O6.heap Vk (fun h=>h);have ho7:=O6.heap ho4 (fun h=>h);have Vp:=k7.heap hg6 (fun h=>h);have C7:=C.same vJ;have X7:=X4.same O6;have l7':=hl.same vJ;have ahv:=C.low;have hAo:∀a,A=some a->n≠0->a.block<w.heap.size:=fun a ha Ez=>by
  obtain⟨y,hy⟩:∃y,l[0]? =some y:=⟨_,List.getElem?_eq_getElem (by omega)⟩;obtain⟨a',yZ,h1,_⟩:=hl.at_ 0 y hy;rw [ha]at yZ;cases yZ;exact h1
 refine aL.cJ (I:=fun s v=>∃i:Nat,s=(0,(i:Int))/\i<=6/\Kept Nil w7 v/\(2<=i->p.ok)/\(3<=i->¬((l.length<1\/p.mp<(l.length:Int))\/dB l≠l))/\(4<=i->fO G.D l= [])/\(5<=i->¬o6 G.D l)/\(6<=i->¬p.mm<((cI G (bQ G l) l).length:Int))) (μ:=fun s _=>(6-s.2).toNat) (s:=(0,0)) ⟨0,rfl,by omega,Kept.refl _ _,fun h=>by omega,fun h=>by omega,fun h=>by omega,fun h=>by omega,fun h=>by omega⟩ ?_;rintro⟨_,_⟩ v ⟨i,e,hi,kv,c2,c3,c4,c5,c6⟩;cases e;unfold aL.B1;have wT:=vJ.tt kv;have Qq:=kv.heap Yk (fun h=>h);have Nn:=kv.heap ho7 (fun h=>h);refine Split.dec (fun dg=>?_) (fun gK=>?_)
 ·simp only at dg
  have eh:i<6:=by omega
  have kd:nI prog jL=.int .i64:=by kernel_rfl
  have stop:∀ {u:World} {e:Int} {A':Option Addr} {c':Nat},Kept (· =ob) w7 u->u.heap[ob]? =some (.cells #[.slice A' (iA p G l).1.length c'] aF (0,0))->HS u A' (iA p G l).1.length (iA p G l).1->(iA p G l).2=e->e≠0->(∀a,A'=some a->(iA p G l).1.length≠0->a.block≠ob)->
   aL.J1 ⟨ob,0,none⟩ 0 e (some ⟨rb,0,none⟩) 6 6 6 (i:Int) (bW (aL.e1 ⟨ob,0,none⟩ (some ⟨rb,0,none⟩) 6 6 6) (fun s v=>∃i:Nat,s=(0,(i:Int))/\i<=6/\Kept Nil w7 v/\(2<=i->p.ok)/\(3<=i->¬((l.length<1\/p.mp<(l.length:Int))\/dB l≠l))/\(4<=i->fO G.D l= [])/\(5<=i->¬o6 G.D l)/\(6<=i->¬p.mm<((cI G (bQ G l) l).length:Int))) (fun s _=>(6-s.2).toNat) (0,(i:Int)) v (aL.q1 K)) u:=by
   intro u e A' c' ku hu hs he fP PY;unfold aL.J1;refine Split.yes (by simpa using fP) ⟨_,_,_,by rw [aE hu];rfl,dN hu (by simp),?_⟩;intro w9;have hu9:w9.heap[ob]? =some (.cells #[.slice A' (iA p G l).1.length c'] aF (0,0)):=dp hu 0 _;have k9:Kept (· =ob) u w9:=Kept.setCell (S:=fun j=>j=ob) (Kept.refl _ u) (p:=⟨ob,0,none⟩) (fun _=>rfl) _;clear_value w9;rw [iO,aL.BW];refine⟨_,_,_,by rw [aE hu9];rfl,?_⟩;rw [<-he];refine hK w9 A' _ c' ?_ ((vJ.trans ku (fun j hj e=>by omega)).trans k9 (fun j hj e=>by omega));by_cases hz:(iA p G l).1.length=0
   ·have e0:=List.eq_nil_of_length_eq_zero hz
    rw [e0];exact HS.nil _ _
   ·exact hs.aJ k9 (fun a ha e=>PY a ha hz e)
  have DW:∀ {u:World} {e:Int},Kept Nil w7 u->iA p G l=([],e)->e≠0->
   aL.J1 ⟨ob,0,none⟩ 0 e (some ⟨rb,0,none⟩) 6 6 6 (i:Int) (bW (aL.e1 ⟨ob,0,none⟩ (some ⟨rb,0,none⟩) 6 6 6) (fun s v=>∃i:Nat,s=(0,(i:Int))/\i<=6/\Kept Nil w7 v/\(2<=i->p.ok)/\(3<=i->¬((l.length<1\/p.mp<(l.length:Int))\/dB l≠l))/\(4<=i->fO G.D l= [])/\(5<=i->¬o6 G.D l)/\(6<=i->¬p.mm<((cI G (bQ G l) l).length:Int))) (fun s _=>(6-s.2).toNat) (0,(i:Int)) v (aL.q1 K)) u:=by
   intro u e ku he fP;have e1:(iA p G l).1= []:=by rw [he]
   refine stop (A':=none) (c':=0) (ku.mono fun _ _ h=>h.elim) (by rw [e1];exact ku.heap ho7 (fun h=>h)) (by rw [e1];exact HS.nil _ _) (by rw [he]) fP (fun a ha=>by cases ha)
  have go:∀ {u:World},Kept Nil w7 u->(2<=i+1->p.ok)->(3<=i+1->¬((l.length<1\/p.mp<(l.length:Int))\/dB l≠l))->(4<=i+1->fO G.D l= [])->(5<=i+1->¬o6 G.D l)->(6<=i+1->¬p.mm<((cI G (bQ G l) l).length:Int))->
   aL.J1 ⟨ob,0,none⟩ 0 0 (some ⟨rb,0,none⟩) 6 6 6 (i:Int) (bW (aL.e1 ⟨ob,0,none⟩ (some ⟨rb,0,none⟩) 6 6 6) (fun s v=>∃i:Nat,s=(0,(i:Int))/\i<=6/\Kept Nil w7 v/\(2<=i->p.ok)/\(3<=i->¬((l.length<1\/p.mp<(l.length:Int))\/dB l≠l))/\(4<=i->fO G.D l= [])/\(5<=i->¬o6 G.D l)/\(6<=i->¬p.mm<((cI G (bQ G l) l).length:Int))) (fun s _=>(6-s.2).toNat) (0,(i:Int)) v (aL.q1 K)) u:=by
   intro u ku d2 d3 d4 d5 d6;unfold aL.J1;refine Split.no rfl ?_;rw [dH (n:=(i:Int)) (by omega) (by omega)];exact⟨(0,(i:Int)+1),rfl,⟨i+1,rfl,by omega,ku,d2,d3,d4,d5,d6⟩,by simp only;omega⟩
  refine⟨⟨by omega,by omega⟩,Is.mk rfl ?_⟩;simp-zeta only [Int.toNat_natCast];have ND:=kv.heap hc7 (fun h=>h);have Yj:=kv.heap hh7 (fun h=>h);have Um:=kv.heap hp7 (fun h=>h);have hgv:=kv.heap Vp (fun h=>h);have Cv:=C7.same kv;have Xv:=X7.same kv;have lv:=l7'.same kv;have rd:∀(j:Nat) (z:Value),(#[.func (.func cV.id) #[] #[.pointer (some ⟨gb,0,none⟩)],.func (.func cR.id) #[] #[.pointer (some ⟨pb,0,none⟩)],.func (.func cQ.id) #[] #[.pointer (some ⟨hb,0,none⟩),.pointer (some ⟨pb,0,none⟩)],.func (.func bf.id) #[] #[.pointer (some ⟨hb,0,none⟩),.pointer (some ⟨gb,0,none⟩),.pointer (some ⟨ob,0,none⟩)],.func (.func bp.id) #[] #[.pointer (some ⟨hb,0,none⟩),.pointer (some ⟨cb,0,none⟩)],.func (.func cP.id) #[] #[.pointer (some ⟨cb,0,none⟩),.pointer (some ⟨hb,0,none⟩),.pointer (some ⟨pb,0,none⟩)]]:Array Value)[j]? =some z->v.cell? ((⟨rb,0,none⟩:Addr).add (j*1))=some z:=fun j z h=>by rw [Nat.mul_one,bC,aE Qq,Nat.zero_add];exact h
  have Z4:cV.fn.body.isSome=true:=by kernel_rfl
  have XQ:cR.fn.body.isSome=true:=by kernel_rfl
  have hz3:cQ.fn.body.isSome=true:=by kernel_rfl
  have hz4:bf.fn.body.isSome=true:=by kernel_rfl
  have hz5:bp.fn.body.isSome=true:=by kernel_rfl
  have hz6:cP.fn.body.isSome=true:=by kernel_rfl
  have nz:cV.fn.resultTypes.toList= [jL]:=by kernel_rfl
  have jU:cR.fn.resultTypes.toList= [jL]:=by kernel_rfl
  have yU:cQ.fn.resultTypes.toList= [jL]:=by kernel_rfl
  have x7:bf.fn.resultTypes.toList= [jL]:=by kernel_rfl
  have sA:bp.fn.resultTypes.toList= [jL]:=by kernel_rfl
  have X3:cP.fn.resultTypes.toList= [jL]:=by kernel_rfl
  have RP:i=0\/i=1\/i=2\/i=3\/i=4\/i=5:=by omega
  rcases RP with rfl|rfl|rfl|rfl|rfl|rfl
  ·refine⟨.func (.func cV.id) #[] #[.pointer (some ⟨gb,0,none⟩)],rd 0 _ rfl,?_⟩
   rw [jQ (fn:=cV.fn) cV.at_ Z4 rfl nz kd];refine cV.of ⟨_,by rw [aE hgv];rfl,Split.no rfl (⟨_,rfl,aL.kR (go kv (fun h=>by omega) (fun h=>by omega) (fun h=>by omega) (fun h=>by omega) (fun h=>by omega))⟩)⟩
  ·refine⟨.func (.func cR.id) #[] #[.pointer (some ⟨pb,0,none⟩)],rd 1 _ rfl,?_⟩
   rw [jQ (fn:=cR.fn) cR.at_ XQ rfl jU kd];refine LR Um fun w8 k8=>⟨_,rfl,aL.kR ?_⟩;have H6:=kv.tt k8;by_cases BO:p.ok
   ·rw [if_neg (fun e=>e BO)]
    exact go H6 (fun _=>BO) (fun h=>by omega) (fun h=>by omega) (fun h=>by omega) (fun h=>by omega)
   ·rw [if_pos BO]
    exact DW H6 (by unfold iA;rw [if_pos BO]) (by omega)
  ·refine⟨.func (.func cQ.id) #[] #[.pointer (some ⟨hb,0,none⟩),.pointer (some ⟨pb,0,none⟩)],rd 2 _ rfl,?_⟩
   rw [jQ (fn:=cQ.fn) cQ.at_ hz3 rfl yU kd];have BO:=c2 (by omega);refine LQ Yj h0 lv (by omega) Um fun w8 e k8 he=>⟨_,rfl,aL.kR ?_⟩;have H6:=kv.tt k8;rcases he with⟨h3,rfl⟩|⟨h3,rfl⟩
   ·exact DW H6 (by unfold iA;rw [if_neg (fun e=>e BO),if_pos h3]) (by omega)
   ·exact go H6 (fun _=>BO) (fun _=>h3) (fun h=>by omega) (fun h=>by omega) (fun h=>by omega)
  ·refine⟨.func (.func bf.id) #[] #[.pointer (some ⟨hb,0,none⟩),.pointer (some ⟨gb,0,none⟩),.pointer (some ⟨ob,0,none⟩)],rd 3 _ rfl,?_⟩
   rw [jQ (fn:=bf.fn) bf.at_ hz4 rfl x7 kd];have BO:=c2 (by omega);have h3:=c3 (by omega);have Gk:n≠0:=fun e=>h3 (.inl (.inl (by omega)));have hAn:∀a,A=some a->a.block≠ob:=fun a ha e=>by have:=hAo a ha Gk;omega
   have XS:∀u,Kept (· =ob) v u->XV u m.FX m.x G.D G.P mx:=fun u ku=>by
    have CV':Kept (· =ob) w u:=(wT.mono fun _ _ h=>h.elim).tt ku;exact X4.aJ ((O6.tt kv).mono (S':=fun j=>j=ob) (fun _ _ h=>h.elim) |>.tt ku) (fun j e e'=>by have:=Oe j (.inl e);omega) (fun j e e'=>by have:=Oe j (.inr e);omega)
   refine LP Xv Cv rfl Yj h0 lv (by omega) hgv Nn (by omega) (by omega) hAn XS (fun hm w8 k8=>⟨_,rfl,aL.kR (go (kv.tt k8) (fun _=>BO) (fun _=>h3) (fun _=>hm) (fun h=>by omega) (fun h=>by omega))⟩) fun hm w8 A8 c8 ho8 KD k8=>⟨_,rfl,aL.kR ?_⟩;have he:iA p G l=(fO G.D l,15):=by unfold iA;rw [if_neg (fun e=>e BO),if_neg h3,if_pos hm]
   have sv:=kv.size;refine stop (A':=A8) (c':=c8) ((kv.mono fun _ _ h=>h.elim).tt k8) (by rw [he];exact ho8) (by rw [he];exact cC.hs KD) (by rw [he]) (by omega) (fun a ha _ e=>?_);have:=(Row.bV KD (k:=a.block) (by rw [ha];rfl)).1;omega
  ·refine⟨.func (.func bp.id) #[] #[.pointer (some ⟨hb,0,none⟩),.pointer (some ⟨cb,0,none⟩)],rd 4 _ rfl,?_⟩
   rw [jQ (fn:=bp.fn) bp.at_ hz5 rfl sA kd];have BO:=c2 (by omega);have h3:=c3 (by omega);have hm:=c4 (by omega);refine LO Cv (by omega) Yj h0 lv (by omega) ND fun w8 e k8 he=>⟨_,rfl,aL.kR ?_⟩;have H6:=kv.tt k8;rcases he with⟨h5,rfl⟩|⟨h5,rfl⟩
   ·exact DW H6 (by unfold iA;rw [if_neg (fun e=>e BO),if_neg h3,if_neg (fun e=>e hm),if_pos h5]) (by omega)
   ·exact go H6 (fun _=>BO) (fun _=>h3) (fun _=>hm) (fun _=>h5) (fun h=>by omega)
  ·refine⟨.func (.func cP.id) #[] #[.pointer (some ⟨cb,0,none⟩),.pointer (some ⟨hb,0,none⟩),.pointer (some ⟨pb,0,none⟩)],rd 5 _ rfl,?_⟩
   rw [jQ (fn:=cP.fn) cP.at_ hz6 rfl X3 kd];have BO:=c2 (by omega);have h3:=c3 (by omega);have hm:=c4 (by omega);have h5:=c5 (by omega);have yX:l≠ []:=fun e=>h3 (.inl (.inl (by rw [e];simp)));refine LN Cv (hT.same wT) hD pB Yj h0 lv (by omega) ND Um yX (og.1 hm) fun w8 e k8 he=>⟨_,rfl,aL.kR ?_⟩;have H6:=kv.tt k8;rcases he with⟨h6,rfl⟩|⟨h6,rfl⟩
   ·exact DW H6 (by unfold iA;rw [if_neg (fun e=>e BO),if_neg h3,if_neg (fun e=>e hm),if_neg h5,if_pos h6]) (by omega)
   ·exact go H6 (fun _=>BO) (fun _=>h3) (fun _=>hm) (fun _=>h5) (fun _=>h6)
 ·simp only at gK
  rw [aX,aL.dv];unfold aL.dd;refine⟨dN Nn (by simp),?_⟩;intro w9;have hu9:w9.heap[ob]? =some (.cells #[.slice none 0 0] aF (0,0)):=dp Nn 0 _;have k9:Kept (· =ob) v w9:=Kept.setCell (S:=fun j=>j=ob) (Kept.refl _ v) (p:=⟨ob,0,none⟩) (fun _=>rfl) _;clear_value w9;refine⟨none,0,0,by rw [aE hu9];rfl,?_⟩;have he:iA p G l=([],0):=by unfold iA;rw [if_neg (fun e=>e (c2 (by omega))),if_neg (c3 (by omega)),if_neg (fun e=>e (c4 (by omega))),if_neg (c5 (by omega)),if_neg (c6 (by omega))]
  have:=hK w9 none 0 0 (by rw [he];exact HS.nil _ _) (wT.trans k9 (fun j hj e=>by omega));rw [he]at this;exact this
end
noncomputable def xI:PP:=⟨2,5,10,0,0,0,0,10,10,fz⟩
theorem Co:xI.ok:=by simp [PP.ok,xI]
theorem uI(v:Value):(EY v)[0]? =some v:=by kernel_rfl
section
variable{r a b:HT}(PQ:r≠a)(Gh:r≠b)(mB:a≠b)
include Gh mB in
theorem k2b:dR [⟨r,[]⟩,⟨a,[r]⟩] b [a]=0/\mo [⟨r,[]⟩,⟨a,[r]⟩] b [a]= [⟨r,[]⟩,⟨a,[r]⟩,⟨b,[a]⟩]:=by
 have h:dR [⟨r,[]⟩,⟨a,[r]⟩] b [a]=0:=by
  unfold dR;rw [if_neg (by simp [ids];exact⟨fun e=>Gh e.symm,fun e=>mB e.symm⟩),oE,if_neg (by simp),if_neg (by simp [ids])]
 exact⟨h,by unfold mo;rw [if_pos h,oE];rfl⟩
theorem Cp{G:GS}(H:jT 2 G)(D:G.D= [⟨r,[]⟩,⟨a,[r]⟩,⟨b,[a]⟩])(dg:dg a b=true):iA xI G [a,b]=([],9)/\iA xI G [b]=([],0):=by
 have mB:fw G.D a b:=.one ⟨⟨b,[a]⟩,by rw [D];simp,rfl,by simp⟩;have ha:a∈ids G.D:=by rw [D];simp [ids]
 have hb:b∈ids G.D:=by rw [D];simp [ids]
 constructor
 ·have hs:dB [a,b]= [a,b]:=zT (by simp [SS,dg])
  have hm:fO G.D [a,b]= []:=og.2 (by simp [ha,hb]);unfold iA;rw [if_neg (fun e=>e Co),if_neg,if_neg (fun e=>e hm),if_pos ⟨a,by simp,b,by simp,mB⟩];rintro((e|e)|e)
  ·simp at e
  ·simp [xI]at e
  ·exact e hs
 ·have hs:dB [b]= [b]:=oE b
  have hm:fO G.D [b]= []:=og.2 (by simp [hb]);unfold iA;rw [if_neg (fun e=>e Co),if_neg,if_neg (fun e=>e hm),if_neg,if_neg]
  ·have e1:bQ G [b]=b:=rfl
   rw [e1,Ay];simp [xI]
  ·rintro⟨x,hx,y,hy,ny⟩
   rw [List.mem_singleton]at hx hy;subst hx hy;exact fw.irrefl H.W _ ny
  ·rintro((e|e)|e)
   ·simp at e
   ·simp [xI]at e
   ·exact e hs
end
section
variable{w w':World}{K:Value->World->Prop}
theorem mO(hK:∀w',Kept Nil w w'->K (.agg xI.cells) w'):bD prog ft.id #[] w K:=by
 refine ft.of ?_;unfold ft.W;intro w1;have Be:w1.heap[w.heap.size]? =some (.cells (#[.int .i64 0,.int .i64 0,.int .i64 0,.int .i64 0,.int .i64 0,.int .i64 0,.int .u64 0,.int .i64 0,.int .i64 0]++fz.1) eU (0,0)):=aM w _;have k1:Kept Nil w w1:=(Kept.refl _ _).alloc _;clear_value w1;obtain⟨t1,t2,t3⟩:=fY Be (cs:=xI.cells) (by rw [xI.size,Array.size_append,fz.2.1];rfl);rw [xI.size]at t1;refine⟨⟨xI.size,xI.one,t1⟩,xI.cells,⟨xI.size,Cells.bV t2⟩,hK _ (k1.trans t3 (fun j hj e=>by omega))⟩
set_option maxHeartbeats 2000000 in
theorem vG(hT:sP w)(hK:∀w',Kept Nil w w'->K (.bool true) w'):bD prog iH.id #[] w K:=by
 let r:=hx 1 (by omega)
 let a:=hx 2 (by omega)
 let b:=hx 3 (by omega)
 have PQ:r≠a:=CE (by omega);have Gh:r≠b:=CE (by omega);have mB:a≠b:=CE (by omega);have dg:dg a b=true:=by decide
 refine iH.of ?_;unfold iH.W;intro w1 w2 w3;have ka:Kept Nil w w1:=(Kept.refl _ _).alloc _;have nz:w1.heap[w.heap.size]? =some (.cells fz.1 al (0,0)):=aM w _;have kb:Kept Nil w1 w2:=(Kept.refl _ _).alloc _;have ha2:w2.heap[w1.heap.size]? =some (.cells fz.1 al (0,0)):=aM w1 _;have kc:Kept Nil w2 w3:=(Kept.refl _ _).alloc _;have qf:w3.heap[w2.heap.size]? =some (.cells fz.1 al (0,0)):=aM w2 _;clear_value w3;have ha3:=kc.heap ha2 (fun h=>h);have yU:=kc.heap (kb.heap nz (fun h=>h)) (fun h=>h);have jZ:=(ka.tt kb).tt kc;have l1:=aY nz;have l2:=aY ha2;have l3:=aY qf;generalize aiS:w.heap.size=rb at yU l1;generalize aj8:w1.heap.size=ab at ha3 l1 l2;generalize aj1:w2.heap.size=bb at qf l2 l3;clear_value w2;clear_value w1;obtain⟨u1,u2,u3⟩:=iW r yU rfl;refine⟨u1,?_⟩;intro w4
 replace u2:w4.heap[rb]? =some (.cells r.1 al (0,0)):=u2
 replace u3:Kept (· =rb) w3 w4:=u3
 clear_value w4;obtain⟨v1,v2,v3⟩:=iW a (u3.heap ha3 (by omega)) rfl;refine⟨v1,?_⟩;intro w5
 replace v2:w5.heap[ab]? =some (.cells a.1 al (0,0)):=v2
 replace v3:Kept (· =ab) w4 w5:=v3
 clear_value w5;obtain⟨x1,x2,x3⟩:=iW b (v3.heap (u3.heap qf (by omega)) (by omega)) rfl;refine⟨x1,?_⟩;intro nn
 replace x2:nn.heap[bb]? =some (.cells b.1 al (0,0)):=x2
 replace x3:Kept (· =bb) w5 nn:=x3
 clear_value nn;have hb:=x2;have ha:=x3.heap v2 (by omega);have hr:=x3.heap (v3.heap u2 (by omega)) (by omega);have k:Kept Nil w nn:=((jZ.trans u3 (fun j hj e=>by omega)).trans v3 (fun j hj e=>by omega)).trans x3 (fun j hj e=>by omega);have hTl:=hT.lt;have s16:=k.size;have lb:=aY hb;have box:∀ {u:World} {S:Nat->Prop},Kept S nn u->(∀k,S k->nn.heap.size<=k)->u.heap[rb]? =some (.cells r.1 al (0,0))/\u.heap[ab]? =some (.cells a.1 al (0,0))/\u.heap[bb]? =some (.cells b.1 al (0,0)):=fun ku hS=>
  ⟨ku.heap hr (fun e=>by have:=hS _ e;omega),ku.heap ha (fun e=>by have:=hS _ e;omega),ku.heap hb (fun e=>by have:=hS _ e;omega)⟩
 obtain⟨c1,d1⟩:=k1 PQ;obtain⟨c2,d2⟩:=k2b Gh mB;have H1:=(mN 2 r).add a [r];have H2:=H1.add b [a];have D1:(eo 2 (eV r) a [r]).D= [⟨r,[]⟩,⟨a,[r]⟩]:=by rw [rL];exact d1
 have D2:(eo 2 (eo 2 (eV r) a [r]) b [a]).D= [⟨r,[]⟩,⟨a,[r]⟩,⟨b,[a]⟩]:=by rw [rL,D1];exact d2
 obtain⟨P1,P2⟩:=Cp H2 D2 dg;refine⟨r.1,⟨r.2.1,Cells.bV hr⟩,iX r (k:=2) (by omega) fun pv cc q m C hm hq x5=>⟨_,_,rfl,Split.no rfl (Split.no rfl ?_)⟩⟩;obtain⟨b1,b2,b3⟩:=box x5 (fun _ h=>h.elim);refine⟨a.1,⟨a.2.1,Cells.bV b2⟩,r.1,⟨r.2.1,Cells.bV b1⟩,r.2.1,?_⟩;intro mC;have qT:Kept Nil pv mC:=(Kept.refl _ _).alloc _;have LU:HS mC (some ⟨pv.heap.size,0,none⟩) 1 [r]:=jF pv r;clear_value mC;have CB:=x5.tt qT;have Zm:=CB.size;refine mW (C.same qT) (hT.same (k.tt CB)) (fun e=>by have:=hm _ (.inl e);omega) (by simp [eV]) (by omega) LU (by omega) a fun q9 F2 m2 A2 n2 p2 E2 q2 z2 C2 _ AN Yc _ _ _ _ _=>⟨_,_,rfl,?_⟩;have om2:∀j,m2.own cc j->nn.heap.size<=j:=fun j e=>(Yc j e).elim (hm j) (fun h=>by omega);have MS:Kept (fun q=>nn.heap.size<=q) nn q9:=(CB.mono (S':=fun q=>nn.heap.size<=q) (fun _ _ h=>h.elim)).trans AN (fun q _ h=>hm q h);obtain⟨b1,b2,b3⟩:=box MS (fun _ h=>h);refine⟨b.1,⟨b.2.1,Cells.bV b3⟩,a.1,⟨a.2.1,Cells.bV b2⟩,a.2.1,?_⟩;intro Hn;have MR:Kept Nil q9 Hn:=(Kept.refl _ _).alloc _;have Wh:HS Hn (some ⟨q9.heap.size,0,none⟩) 1 [a]:=jF q9 a;clear_value Hn;have Ii:=MS.trans MR (fun _ _ h=>h.elim);have s31:=Ii.size;refine mW (C2.same MR) ((hT.same k).aJ Ii (fun e=>by omega)) (fun e=>by have:=om2 _ (.inl e);omega) (by rw [D1];simp) (by omega) Wh (by omega) b fun qx F3 m3 A3 n3 p3 E3 q3 z3 C3 _ zr hm3 _ _ _ _ _=>⟨_,_,rfl,?_⟩;have Ih:Kept (fun q=>nn.heap.size<=q) nn qx:=Ii.trans zr (fun q _ h=>om2 q h);have Wu:sP qx:=(hT.same k).aJ Ih (fun e=>by omega);have k0:∀ {u:World},Kept Nil qx u->Kept Nil w u:=fun ku=>k.trans (Ih.trans ku (fun _ _ h=>h.elim)) (fun q hq e=>by omega)
 obtain⟨b1,b2,b3⟩:=box Ih (fun _ h=>h);have hD2:(eo 2 (eo 2 (eV r) a [r]) b [a]).D.length<=49:=by rw [D2];simp
 generalize eo 2 (eo 2 (eV r) a [r]) b [a]=G2 at C3 hD2 P1 P2;have VK:∀ {u:World} {A:Option Addr} {K':Value->World->Prop},Kept Nil qx u->HS u A 2 [a,b]->(∀w' A' n' c',Kept Nil qx w'->K' (.tuple #[.slice A' n' c',.int .i64 9]) w')->bD prog aL.id #[.agg xI.cells,.pointer (some ⟨cc,0,none⟩),.agg (EY (.slice A 2 2))] u K':=fun ku hs hk=>
  kr (C3.same ku) (Wu.same ku) hD2 (by omega) xI (uI _) hs (by omega) fun w' A' n' c' _ k'=>by
   rw [P1];exact hk w' A' n' c' (ku.tt k')
 have VI:∀ {u:World} {A:Option Addr} {K':Value->World->Prop},Kept Nil qx u->HS u A 1 [b]->(∀w' A' n' c',Kept Nil qx w'->K' (.tuple #[.slice A' n' c',.int .i64 0]) w')->bD prog aL.id #[.agg xI.cells,.pointer (some ⟨cc,0,none⟩),.agg (EY (.slice A 1 1))] u K':=fun ku hs hk=>
  kr (C3.same ku) (Wu.same ku) hD2 (by omega) xI (uI _) hs (by omega) fun w' A' n' c' _ k'=>by
   rw [P2];exact hk w' A' n' c' (ku.tt k')
 have fin:∀ {u:World},Kept Nil qx u->bD prog ft.id #[] u fun pe qe=>∃re:Array Value,pe=.agg re/\bD prog bR.id #[.agg re] qe fun te ue=>∃ve:Bool,te=.bool ve/\K (.bool ve) ue:=fun ku=>
  mO fun w1 k1=>⟨_,rfl,oT xI fun w2 k2=>⟨_,rfl,by rw [decide_eq_true Co];exact hK w2 (k0 ((ku.tt k1).tt k2))⟩⟩
 intro nh;have wE:Kept Nil qx nh:=(Kept.refl _ _).drew;clear_value nh;have Wq:=wE.heap b2 (fun h=>h);have I7:=wE.heap b3 (fun h=>h);have half:∀ {va:World},Kept Nil qx va->va.heap[bb]? =some (.cells b.1 al (0,0))->
  (let be:World:=va.drew;∃ce:Array Value,(ce.size=32/\Cells be (⟨bb,0,none⟩:Addr) ce)/\(bD prog ft.id #[] be fun de ee=>∃fe:Array Value,de=.agg fe/\(∃cs:Array Value,(.agg ce:Value)=.agg cs/\cs.size=32/\Cells ee (⟨bb,0,none⟩:Addr) cs)/\ce.size=32/\(let ge:World:=ee.alloc (.cells (ce.toList++ []).toArray al);bD prog aL.id #[.agg fe,.pointer (some ⟨cc,0,none⟩),.agg (EY (.slice (some (aU ee.heap.size)) 1 1))] ge fun ie je=>∃ke:Option Addr,∃me ne:Nat,∃oe:Int,ie=.tuple #[.slice ke me ne,.int .i64 oe]/\Split ((9:Int)==(9:Int)) (Split (oe==(0:Int)) (bD prog ft.id #[] je fun pe qe=>∃re:Array Value,pe=.agg re/\bD prog bR.id #[.agg re] qe fun te ue=>∃ve:Bool,te=.bool ve/\K (.bool ve) ue) (K (.bool false) je)) (K (.bool false) je)))/\
    (ce.size=32/\(let xe:World:=be.alloc (.cells (ce.toList++ []).toArray al);bD prog ft.id #[] xe fun ye ze=>∃aj:Array Value,ye=.agg aj/\bD prog aL.id #[.agg aj,.pointer (some ⟨cc,0,none⟩),.agg (EY (.slice (some (aU be.heap.size)) 1 1))] ze fun bj cj=>∃dj:Option Addr,∃ej fj:Nat,∃gj:Int,bj=.tuple #[.slice dj ej fj,.int .i64 gj]/\Split ((9:Int)==(9:Int)) (Split (gj==(0:Int)) (bD prog ft.id #[] cj fun ij jj=>∃kj:Array Value,ij=.agg kj/\bD prog bR.id #[.agg kj] jj fun mj nj=>∃oj:Bool,mj=.bool oj/\K (.bool oj) nj) (K (.bool false) cj)) (K (.bool false) cj)))):=by
  intro va kva CY be;have kbe:Kept Nil va be:=(Kept.refl _ _).drew;clear_value be;have zr:=kva.tt kbe;have hbe:=kbe.heap CY (fun h=>h);refine⟨b.1,⟨b.2.1,Cells.bV hbe⟩,?_,b.2.1,?_⟩
  ·refine mO fun ee ke=>⟨_,rfl,⟨_,rfl,b.2.1,Cells.bV (ke.heap hbe (fun h=>h))⟩,b.2.1,?_⟩
   intro ge;have kge:Kept Nil ee ge:=(Kept.refl _ _).alloc _;have gK:HS ge (some ⟨ee.heap.size,0,none⟩) 1 [b]:=jF ee b;clear_value ge;exact VI ((zr.tt ke).tt kge) gK fun w' A' n' c' k'=>⟨A',n',c',_,rfl,Split.yes rfl (Split.yes rfl (fin k'))⟩
  ·intro xe
   have kxe:Kept Nil be xe:=(Kept.refl _ _).alloc _;have Z6:HS xe (some ⟨be.heap.size,0,none⟩) 1 [b]:=jF be b;clear_value xe;refine mO fun ze ke=>⟨_,rfl,?_⟩;exact VI ((zr.tt kxe).tt ke) (Z6.same ke) fun w' A' n' c' k'=>⟨A',n',c',_,rfl,Split.yes rfl (Split.yes rfl (fin k'))⟩
 refine⟨a.1,⟨a.2.1,Cells.bV Wq⟩,b.1,⟨b.2.1,Cells.bV I7⟩,?_,a.2.1,b.2.1,?_⟩
 ·refine mO fun jA ns=>⟨_,rfl,⟨_,rfl,b.2.1,Cells.bV (ns.heap I7 (fun h=>h))⟩,⟨_,rfl,a.2.1,Cells.bV (ns.heap Wq (fun h=>h))⟩,a.2.1,b.2.1,?_⟩
  intro rP;have rQ:Kept Nil jA rP:=(Kept.refl _ _).alloc _;have acv:HS rP (some ⟨jA.heap.size,0,none⟩) 2 [a,b]:=HS.lay (l:= [a,b]) (t:=al) (aM jA (.cells (dt [a,b]).toArray al));clear_value rP;refine VK ((wE.tt ns).tt rQ) acv fun wD A' n' c' yN=>⟨A',n',c',_,rfl,?_⟩;exact half yN (yN.heap b3 (fun h=>h))
 ·intro jA
  have ns:Kept Nil nh jA:=(Kept.refl _ _).alloc _;have LS:HS jA (some ⟨nh.heap.size,0,none⟩) 2 [a,b]:=HS.lay (l:= [a,b]) (t:=al) (aM nh (.cells (dt [a,b]).toArray al));clear_value jA;refine mO fun rP rQ=>⟨_,rfl,?_⟩;refine VK ((wE.tt ns).tt rQ) (LS.same rQ) fun wD A' n' c' yN=>⟨A',n',c',_,rfl,?_⟩;exact half yN (yN.heap b3 (fun h=>h))
end
section
variable{w w' v:World}{S F FP FR:Nat->Prop}{c r x:Nat}{G:GS}{m:CM}{K:Value->World->Prop}
set_option maxHeartbeats 2000000 in
theorem Dy{A:Option Addr}{n cx:Nat}{l:List DN}(hl:NS w FP A n l)(hn:n<9223372036854775808)(kk:Int)(root:HT)(hT:sP w)
 (mG:∀v,Kept Nil w v->K (.tuple #[.pointer none,.pointer none,.bool false,.bool true]) v)
 (hK:∀v F c m FR r x (k:Nat),kk=(k:Int)->k<=6->adh l 18->lF v F c m FR r x k (Dv k root l)->Kept Nil w v->(∀j,m.own c j\/F j\/FR j\/j=r\/j=x->w.heap.size<=j)->K (.tuple #[.pointer (some ⟨c,0,none⟩),.pointer (some ⟨r,0,none⟩),.bool true,.bool true]) v):
 bD prog aC.id #[.int .i64 kk,.agg root.1,.slice A n cx] w K:=by
 have hlen:=hl.len;refine aC.of ?_;unfold aC.W;intro w1;have k1:Kept Nil w w1:=(Kept.refl _ _).alloc _;have Be:w1.heap[w.heap.size]? =some (.cells root.1 al (0,0)):=aM w _;clear_value w1;refine Split.dec (fun _=>mG w1 k1) (fun Kg=>Split.dec (fun _=>mG w1 k1) (fun oV=>Split.dec (fun _=>mG w1 k1) (fun UN=>?_)));have UN:n<=18:=by omega
 refine aC.cJ (I:=fun s v=>v=w1/\∃i:Nat,s=(none,none,false,false,(i:Int))/\i<=n/\∀nd∈l.take i,nd.ps.length<=6) (μ:=fun s _=>((n:Int)-s.2.2.2.2).toNat) (s:=(none,none,false,false,0)) ⟨rfl,0,rfl,Nat.zero_le _,by simp⟩ ?_;rintro s v ⟨rfl,i,rfl,hi,cZ⟩;unfold aC.B1;refine Split.dec (fun jV=>?_) (fun gK=>?_)
 ·simp only at jV
  have eh:i<n:=by omega
  obtain⟨nd,gA⟩:∃nd,l[i]? =some nd:=⟨_,List.getElem?_eq_getElem (by omega)⟩;refine(hl.same k1).ps (i:=(i:Int)) (by omega) (by rw [Int.toNat_natCast];exact gA) fun pA pn pc qV _=>?_;have rT:=qV.len;refine Split.dec (fun x9=>mG v k1) (fun hle=>?_);simp only;rw [iZ (x:=(i:Int)+1) (by omega) (by omega)];refine⟨(none,none,false,false,(i:Int)+1),rfl,⟨rfl,i+1,rfl,eh,fun md hm=>?_⟩,by simp only;omega⟩;rw [List.take_add_one,gA]at hm;simp only [Option.toList_some,List.mem_append,List.mem_singleton]at hm;rcases hm with hm|rfl
  ·exact cZ md hm
  ·omega
 simp only at gK;rw [aX,aC.dv];unfold aC.dd;rw [List.take_of_length_le (by omega)]at cZ;obtain⟨k,rfl⟩:∃k':Nat,kk=(k':Int):=⟨kk.toNat,by omega⟩;have hk6:k<=6:=by omega
 have qV:∀nd∈l,nd.ps.length<=1000:=fun nd h=>by have:=cZ nd h;omega
 have hn:=UN;refine⟨root.1,⟨root.2.1,Cells.bV Be⟩,?_⟩;refine iX root (by omega) fun w2 c q m C hm hq k2=>⟨_,_,rfl,Split.no rfl (Split.no rfl ⟨root.1,⟨root.2.1,Cells.bV (k2.heap Be (fun h=>h))⟩,?_⟩)⟩;refine yF root k fun w3 r x FR R hFR hr hx k3=>⟨_,rfl,?_⟩;have s1:=k1.size;have s2:=k2.size;have jZ:=(k1.tt k2).tt k3;have B0:lF w3 (· =q) c m FR r x k (eV root):=⟨C.same k3,R,fun j hj=>by
  have gK:w2.heap.size<=j:=by rcases hj with rfl|rfl;exact hr;exact hx
  exact⟨fun e=>by have:=C.low j (.inl e);omega,fun e=>by have:=C.low j (.inr e);omega⟩,fun j hj e=>by have:=hFR j hj;have:=C.low j (.inl e);omega⟩
 refine aC.iG (I:=fun s v=>∃(i:Nat) (F:Nat->Prop) (m:CM) (FR:Nat->Prop),s=(none,none,false,false,(i:Int))/\i<=n/\lF v F c m FR r x k ((l.take i).foldl (fun G s=>eo k G s.id s.ps) (eV root))/\Kept Nil w v/\∀j,m.own c j\/F j\/FR j\/j=r\/j=x->w.heap.size<=j) (μ:=fun s _=>((n:Int)-s.2.2.2.2).toNat) (s:=(none,none,false,false,0)) ⟨0,(· =q),m,FR,rfl,Nat.zero_le _,B0,jZ,fun j e=>by
  rcases e with e|e|e|e|e
  ·have:=hm j e;omega
  ·have e:j=q:=e;omega
  ·have:=hFR j e;omega
  ·omega
  ·omega⟩ ?_
 clear B0 hFR hm C R hq k2 k3;rintro s v ⟨i,F,m,FR,rfl,hi,B,kv,wH⟩;unfold aC.B2;refine Split.dec (fun dg=>?_) (fun gK=>?_)
 ·simp only at dg
  have eh:i<n:=by omega
  obtain⟨nd,gA⟩:∃nd,l[i]? =some nd:=⟨_,List.getElem?_eq_getElem (by omega)⟩;have uz:l[((i:Nat):Int).toNat]? =some nd:=by rw [Int.toNat_natCast];exact gA
  have rT:=qV nd (List.mem_of_getElem? gA);have M9:=Dd (k:=k) (G:=eV root) gA;have Yy:=tA k (l.take i) (eV root);rw [List.length_take]at Yy;have hD1:(eV root).D.length=1:=rfl;generalize hG:(l.take i).foldl (fun G s=>eo k G s.id s.ps) (eV root)=G at B M9 Yy;have hTl:=hT.lt;have oM:=B.low;have sv:=kv.size;have j2:∀ {u:World} {F' YX:Nat->Prop} {m':CM},lF u F' c m' YX r x k (eo k G nd.id nd.ps)->Kept Nil w u->(∀j,m'.own c j\/F' j\/YX j\/j=r\/j=x->w.heap.size<=j)->
   aC.J2 A n cx none none false false (some ⟨c,0,none⟩) (some ⟨r,0,none⟩) (i:Int) (dR G.D nd.id nd.ps) (dR G.D nd.id nd.ps) (bW (aC.e2 A n cx (some ⟨c,0,none⟩) (some ⟨r,0,none⟩)) (fun s v=>∃(i:Nat) (F:Nat->Prop) (m:CM) (FR:Nat->Prop),s=(none,none,false,false,(i:Int))/\i<=n/\lF v F c m FR r x k ((l.take i).foldl (fun G s=>eo k G s.id s.ps) (eV root))/\Kept Nil w v/\∀j,m.own c j\/F j\/FR j\/j=r\/j=x->w.heap.size<=j) (fun s _=>((n:Int)-s.2.2.2.2).toNat) (none,none,false,false,(i:Int)) v (aC.q2 K)) u:=by
   intro u F' YX m' B' ku abN;unfold aC.J2;refine Split.no (by simp) ?_;rw [dH (n:=(i:Int)) (by omega) (by omega)];refine⟨(none,none,false,false,(i:Int)+1),rfl,⟨i+1,F',m',YX,rfl,eh,?_,ku,abN⟩,by simp only;omega⟩;rw [M9];exact B'
  have j1:∀ {u u0:World} {F':Nat->Prop} {m':CM},CV u0 F' c k (eo k G nd.id nd.ps) m'->Kept (m.own c) v u0->(∀j,m'.own c j->m.own c j\/v.heap.size<=j)->(∀j,F' j->F j\/v.heap.size<=j)->Kept Nil u0 u->
   aC.J1 A n cx none none false false (some ⟨c,0,none⟩) (some ⟨r,0,none⟩) (i:Int) (dR G.D nd.id nd.ps) (bW (aC.e2 A n cx (some ⟨c,0,none⟩) (some ⟨r,0,none⟩)) (fun s v=>∃(i:Nat) (F:Nat->Prop) (m:CM) (FR:Nat->Prop),s=(none,none,false,false,(i:Int))/\i<=n/\lF v F c m FR r x k ((l.take i).foldl (fun G s=>eo k G s.id s.ps) (eV root))/\Kept Nil w v/\∀j,m.own c j\/F j\/FR j\/j=r\/j=x->w.heap.size<=j) (fun s _=>((n:Int)-s.2.2.2.2).toNat) (none,none,false,false,(i:Int)) v (aC.q2 K)) u:=by
   intro u u0 F' m' hC k0 nN Je ku;unfold aC.J1;have ZG:Kept Nil w u0:=kv.trans k0 (fun j hj e=>by have:=wH j (.inl e);omega);have Rp:Kept Nil w u:=ZG.tt ku;have suv:=k0.size;have suu:=ku.size;intro u1;have F0:Kept Nil u u1:=(Kept.refl _ _).drew;clear_value u1;have FW:=Rp.tt F0;have s11:=F0.size;have TL:∀ {t:World},Kept Nil w t->Cells t (((A.get!).add (((i:Nat):Int).toNat*33)).add 0) nd.id.1:=by
    intro t kt;obtain⟨a,pA,pn,pc,rfl,_,_,h4,_,_⟩:=(hl.aJ kt (fun _ _ h=>h)).at_ i nd gA;intro j z hj;rw [add_zero,Int.toNat_natCast];exact h4 j z (r9 hj)
   have ps1:∃a pA pn pc,A=some a/\HS w pA pn nd.ps/\∀ {t:World},Kept Nil w t->t.cell? ((a.add (((i:Nat):Int).toNat*33)).add 32)=some (.slice pA pn pc):=by
    obtain⟨a,pA,pn,pc,rfl,_,_,h4,h5,_⟩:=hl.at_ i nd gA;exact⟨a,pA,pn,pc,rfl,h5,fun kt=>by rw [Int.toNat_natCast];exact kt.cell (h4 32 _ (nX _ _)) (fun h=>h)⟩
   obtain⟨a,pA,pn,pc,rfl,CO,rU⟩:=ps1;have Kc:=CO.len;have hb:0<=(i:Int)/\(i:Int)<(n:Int):=⟨by omega,by omega⟩;refine⟨hb,Is.mk rfl ⟨nd.id.1,⟨nd.id.2.1,TL FW⟩,hb,Is.mk rfl ⟨pA,pn,pc,rU FW,?_,?_⟩⟩⟩
   ·obtain⟨hR,QG⟩:=B.after k0 nN Je hC (ku.tt F0)
    refine vh hR (by omega) (by omega) (CO.same FW) (by omega) nd.id fun t A2 n2 p2 E2 e2 q2 hRt kt Yc nA acC=>⟨_,_,rfl,?_⟩;have B':=QG t hRt kt;have st:=kt.size;intro t1;have kt1:Kept Nil t t1:=(Kept.refl _ _).alloc _;have M4:t1.heap[t.heap.size]? =some (.cells zC bL (0,0)):=aM t _;clear_value t1;obtain⟨z1,z2,z3⟩:=fY M4 (cs:=di (qp k G nd.id nd.ps) A2 n2 p2 E2 e2 q2) (by rw [bH];rfl);refine⟨⟨bH ..,fu _ _ _ _ _ _ _,fun j hj=>z1 j (by rw [bH];exact hj)⟩,?_⟩;have kt2:Kept Nil t (setCells t1 ⟨t.heap.size,0,none⟩ (di (qp k G nd.id nd.ps) A2 n2 p2 E2 e2 q2).toList 0):=kt1.trans z3 (fun j hj e=>by omega);refine aC.qU (j2 (B'.same kt2) (FW.trans (kt.trans kt2 (fun _ _ h=>h.elim)) (fun j hj e=>by have:=wH j (.inr (.inr (.inr e)));omega)) fun j e=>?_);rcases e with e|e|(e|e)|e
    ·rcases nN j e with e|e
     ·exact wH j (.inl e)
     ·omega
    ·rcases Je j e with e|e
     ·exact wH j (.inr (.inl e))
     ·omega
    ·exact wH j (.inr (.inr (.inl e)))
    ·omega
    ·exact wH j (.inr (.inr (.inr e)))
   ·intro u2
    have JT:Kept Nil u1 u2:=(Kept.refl _ _).alloc _;have Lj:u2.heap[u1.heap.size]? =some (.cells zC bL (0,0)):=aM u1 _;clear_value u2;have KU:=FW.tt JT;have s22:=JT.size;refine⟨rU KU,⟨_,rfl,nd.id.2.1,TL KU⟩,?_⟩;obtain⟨hR,QG⟩:=B.after k0 nN Je hC ((ku.tt F0).tt JT);refine vh hR (by omega) (by omega) (CO.same KU) (by omega) nd.id fun t A2 n2 p2 E2 e2 q2 hRt kt Yc nA acC=>⟨_,_,rfl,?_⟩;have B':=QG t hRt kt;have st:=kt.size;have nrx:∀j,v.heap.size<=j->¬(j=r\/j=x):=fun j hj e=>by have:=oM j (.inr (.inr (.inr e)));omega
    have hxt:=kt.heap Lj (nrx _ (by omega));obtain⟨z1,z2,z3⟩:=fY hxt (cs:=di (qp k G nd.id nd.ps) A2 n2 p2 E2 e2 q2) (by rw [bH];rfl);refine⟨⟨bH ..,fu _ _ _ _ _ _ _,fun j hj=>z1 j (by rw [bH];exact hj)⟩,?_⟩;have lo0:∀j,m'.own c j\/F' j->j<u1.heap.size:=fun j e=>by have:=hC.low j e;omega
    have B2:lF (setCells t ⟨u1.heap.size,0,none⟩ (di (qp k G nd.id nd.ps) A2 n2 p2 E2 e2 q2).toList 0) F' c m' (fun j=>FR j\/(u2.heap.size<=j/\j<t.heap.size)) r x k (eo k G nd.id nd.ps):=B'.aJ z3 (fun j e e'=>by
     have l1:=aY Lj;rcases e with e|e|(e|e)|e
     ·have:=lo0 j (.inl e);omega
     ·have:=lo0 j (.inr e);omega
     ·have:=B.R.lo j e;omega
     ·omega
     ·have:=oM j (.inr (.inr (.inr e)));omega)
    have kut:Kept (fun j=>j=r\/j=x) u t:=((F0.tt JT).mono fun _ _ h=>h.elim).tt kt;have ahI:Kept (fun j=>j=r\/j=x) u _:=kut.trans z3 (fun j hj e=>by omega);refine aC.qU (j2 B2 ((KU.trans kt (fun j hj e=>by have:=wH j (.inr (.inr (.inr e)));omega)).trans z3 (fun j hj e=>by have:=FW.size;omega)) fun j e=>?_)
    ·rcases e with e|e|(e|e)|e
     ·rcases nN j e with e|e
      ·exact wH j (.inl e)
      ·omega
     ·rcases Je j e with e|e
      ·exact wH j (.inr (.inl e))
      ·omega
     ·exact wH j (.inr (.inr (.inl e)))
     ·omega
     ·exact wH j (.inr (.inr (.inr e)))
  intro w2;have k2:Kept Nil v w2:=(Kept.refl _ _).drew;clear_value w2;have Td:=kv.tt k2;have sv2:=k2.size;have TL:∀ {t:World},Kept Nil w t->Cells t ((A.get!.add (((i:Nat):Int).toNat*33)).add 0) nd.id.1:=by
   intro t kt;obtain⟨a,pA,pn,pc,rfl,_,_,h4,_,_⟩:=(hl.aJ kt (fun _ _ h=>h)).at_ i nd gA;intro j z hj;rw [add_zero,Int.toNat_natCast];exact h4 j z (r9 hj)
  obtain⟨a,pA,pn,pc,hA,CO,rU⟩:∃a pA pn pc,A=some a/\HS w pA pn nd.ps/\∀ {t:World},Kept Nil w t->t.cell? ((a.add (((i:Nat):Int).toNat*33)).add 32)=some (.slice pA pn pc):=by
   obtain⟨a,pA,pn,pc,hA,_,_,h4,h5,_⟩:=hl.at_ i nd gA;exact⟨a,pA,pn,pc,hA,h5,fun kt=>by rw [Int.toNat_natCast];exact kt.cell (h4 32 _ (nX _ _)) (fun h=>h)⟩
  subst hA;have Kc:=CO.len;have hb:0<=(i:Int)/\(i:Int)<(n:Int):=⟨by omega,by omega⟩;have Kk:¬m.SX (Tryz.ko.g 1):=fun e=>by have:=wH _ (.inl (.inl e));omega
  refine⟨hb,Is.mk rfl ⟨nd.id.1,⟨nd.id.2.1,TL Td⟩,hb,Is.mk rfl ⟨pA,pn,pc,rU Td,?_,?_⟩⟩⟩
  ·refine mW (B.C.same k2) (hT.same Td) Kk (by omega) (by omega) (CO.same Td) (by omega) nd.id fun u F' m' A1 n1 p1 E1 e1 q1 hC _ ku nN Je rA rE _ _=>⟨_,_,rfl,?_⟩
   intro u1;have F0:Kept Nil u u1:=(Kept.refl _ _).alloc _;have M4:u1.heap[u.heap.size]? =some (.cells zC bL (0,0)):=aM u _;clear_value u1;obtain⟨z1,z2,z3⟩:=fY M4 (cs:=di (qp k G nd.id nd.ps) A1 n1 p1 E1 e1 q1) (by rw [bH];rfl);refine⟨⟨bH ..,fu _ _ _ _ _ _ _,fun j hj=>z1 j (by rw [bH];exact hj)⟩,?_⟩;have JT:Kept Nil u (setCells u1 ⟨u.heap.size,0,none⟩ (di (qp k G nd.id nd.ps) A1 n1 p1 E1 e1 q1).toList 0):=F0.trans z3 (fun j hj e=>by omega);have su:=ku.size;refine aC.kR (j1 hC ((k2.mono fun _ _ h=>h.elim).tt ku) (fun j e=>(nN j e).imp (fun h=>h) (fun h=>by omega)) (fun j e=>(Je j e).imp (fun h=>h) (fun h=>by omega)) JT)
  ·intro w3
   have k3:Kept Nil w2 w3:=(Kept.refl _ _).alloc _;have BM:w3.heap[w2.heap.size]? =some (.cells zC bL (0,0)):=aM w2 _;clear_value w3;have MK:=Td.tt k3;have s23:=k3.size;have l3:=aY BM;refine⟨rU MK,⟨_,rfl,nd.id.2.1,TL MK⟩,?_⟩;refine mW (B.C.same (k2.tt k3)) (hT.same MK) Kk (by omega) (by omega) (CO.same MK) (by omega) nd.id fun u F' m' A1 n1 p1 E1 e1 q1 hC _ ku nN Je rA rE _ _=>⟨_,_,rfl,?_⟩;have su:=ku.size;have hxu:=ku.heap BM (fun e=>by have:=oM _ (.inl e);omega);obtain⟨z1,z2,z3⟩:=fY hxu (cs:=di (qp k G nd.id nd.ps) A1 n1 p1 E1 e1 q1) (by rw [bH];rfl);refine⟨⟨bH ..,fu _ _ _ _ _ _ _,fun j hj=>z1 j (by rw [bH];exact hj)⟩,?_⟩;have no1:∀j,m'.own c j->j≠w2.heap.size:=fun j e e'=>by
    rcases nN j e with e|e
    ·have:=oM j (.inl e);omega
    ·omega
   have no2:∀j,F' j->j≠w2.heap.size:=fun j e e'=>by
    rcases Je j e with e|e
    ·have:=oM j (.inr (.inl e));omega
    ·omega
   refine aC.kR (j1 (hC.aJ z3 no1 no2) ((((k2.tt k3).mono fun _ _ h=>h.elim).tt ku).trans z3 (fun j hj e=>by omega)) (fun j e=>(nN j e).imp (fun h=>h) (fun h=>by omega)) (fun j e=>(Je j e).imp (fun h=>h) (fun h=>by omega)) (Kept.refl _ _))
 ·simp only at gK
  have:i=n:=by omega
  subst this;rw [aX,aC.kW];rw [List.take_of_length_le (by omega)]at B;exact hK v F c m FR r x k rfl hk6 ⟨cZ,by omega⟩ B kv wH
end
open Go.ChangeAt Go.ChangeShapes Go.WideShapes
theorem WZ:prog.underlying gZ=some (.int .i64):=by kernel_rfl
theorem WX:prog.underlying gz=some (.int .u64):=by kernel_rfl
theorem ade:prog.cellsOf gZ=1:=by kernel_rfl
theorem ada:prog.cellsOf gz=1:=by kernel_rfl
def OP:Array Field:= #[⟨"K",gZ,0,false,"","",0⟩,⟨"MaxParents",gZ,1,false,"","",8⟩,⟨"MaxMerge",gZ,2,false,"","",16⟩,⟨"Finality",gZ,3,false,"","",24⟩,⟨"Pruning",gZ,4,false,"","",32⟩,⟨"Maturity",gZ,5,false,"","",40⟩,⟨"Subsidy",gz,6,false,"","",48⟩,⟨"Orphans",gZ,7,false,"","",56⟩,⟨"Pool",gZ,8,false,"","",64⟩,⟨"Genesis",al,9,false,"","",72⟩]
theorem NY:prog.underlying eU=some (.struct OP):=by kernel_rfl
theorem adb:prog.cellsOf eU=41:=by kernel_rfl
section
variable{H:Type}{enc:TypeId×Value->H}{w:World}{base:Nat}{sp:Nat->Bool}{held:Bool}{fuel:Nat}{cs:List Value}{x:DataW H×List MemPlace}
theorem OO(h:DataW.trod enc prog w base sp held fuel eU cs=some x):∃p:PP,cs.toArray=p.cells:=by
 obtain⟨xs,n,_,_,hl,tZ,cZ⟩:=DataW.trod_struct NY h;rw [adb]at hl;have hx:∀i,i<10->∃y,xs[i]? =some y:=fun i hi=>⟨xs[i]'(by rw [tZ];exact hi),by simp⟩;have gi:∀i (f:Field),OP[i]? =some f->f.type=gZ->∃z,(cs.drop f.offset).take 1= [.int .i64 z]:=fun i f hf ht=>by
  obtain⟨y,hy⟩:=hx i (Array.getElem?_eq_some_iff.1 hf).1;have:=cZ i f hf;rw [ht,ade,hy]at this;obtain⟨z,hz,_⟩:=DataW.trod_int WZ this;exact⟨z,hz⟩
 obtain⟨a0,e0⟩:=gi 0 _ rfl rfl;obtain⟨a1,e1⟩:=gi 1 _ rfl rfl;obtain⟨a2,e2⟩:=gi 2 _ rfl rfl;obtain⟨a3,e3⟩:=gi 3 _ rfl rfl;obtain⟨a4,e4⟩:=gi 4 _ rfl rfl;obtain⟨a5,e5⟩:=gi 5 _ rfl rfl;obtain⟨a7,e7⟩:=gi 7 _ rfl rfl;obtain⟨a8,e8⟩:=gi 8 _ rfl rfl;obtain⟨a6,e6⟩:∃z,(cs.drop 6).take 1= [.int .u64 z]:=by
  obtain⟨y,hy⟩:=hx 6 (by decide);have:DataW.trod enc prog w base sp held n gz ((cs.drop 6).take (prog.cellsOf gz))=xs[6]? :=cZ 6 _ rfl;rw [ada,hy]at this;obtain⟨z,hz,_⟩:=DataW.trod_int WX this;exact⟨z,hz⟩
 obtain⟨y9,hy9⟩:=hx 9 (by decide);have e9:DataW.trod enc prog w base sp held n al ((cs.drop 9).take (prog.cellsOf al))=xs[9]? :=cZ 9 _ rfl;rw [Mc,hy9]at e9;have hh:=yP e9;have ec:cs=(cs.drop 0).take 1++((cs.drop 1).take 1++((cs.drop 2).take 1++((cs.drop 3).take 1++((cs.drop 4).take 1++((cs.drop 5).take 1++((cs.drop 6).take 1++((cs.drop 7).take 1++((cs.drop 8).take 1++(cs.drop 9).take 32)))))))):=by
  have step:∀k,cs.drop k=(cs.drop k).take 1++cs.drop (k+1):=fun k=>by
   conv=>lhs;rw [<-List.take_append_drop 1 (cs.drop k)]
   rw [List.drop_drop]
  have t9:(cs.drop 9).take 32=cs.drop 9:=List.take_of_length_le (by rw [List.length_drop];omega);rw [t9]
  conv=>lhs;rw [<-List.drop_zero (l:=cs),step 0,step 1,step 2,step 3,step 4,step 5,step 6,step 7,step 8]
 refine⟨⟨a0,a1,a2,a3,a4,a5,a6,a7,a8,⟨_,hh⟩⟩,?_⟩;have f0:(cs.drop 0).take 1= [.int .i64 a0]:=e0;have f1:(cs.drop 1).take 1= [.int .i64 a1]:=e1;have f2:(cs.drop 2).take 1= [.int .i64 a2]:=e2;have f3:(cs.drop 3).take 1= [.int .i64 a3]:=e3;have f4:(cs.drop 4).take 1= [.int .i64 a4]:=e4;have f5:(cs.drop 5).take 1= [.int .i64 a5]:=e5;have f7:(cs.drop 7).take 1= [.int .i64 a7]:=e7;have f8:(cs.drop 8).take 1= [.int .i64 a8]:=e8;rw [f0,f1,f2,f3,f4,f5,e6,f7,f8]at ec;unfold PP.cells
 conv=>lhs;rw [ec]
 simp
end
section
variable{H:Type}{enc:TypeId×Value->H}{w:World}{base:Nat}{sp:Nat->Bool}{held:Bool}{d:DataW H}{p:List MemPlace}{v:Value}
set_option maxRecDepth 100000 in
theorem Dz{t:TypeId}(et:t=eU)(hv:Value.okWide prog w .any base t v)(h:∃fuel,DataW.trod enc prog w 0 sp held fuel t v.cells.toList=some (d,p)):∃q:PP,v=.agg q.cells:=by
 have ht:prog.underlying t=some (.struct OP):=by rw [et];exact NY
 simp only [Value.okWide,ht]at hv;subst et;obtain⟨cs,rfl,h2⟩:=hv;obtain⟨fuel,h⟩:=h;obtain⟨q,hq⟩:=OO h;exact⟨q,by rw [<-hq];simp [Value.cells]⟩
end
end Go.Proofs.YtfleamccglihoaaGreatDoor
namespace Go.Proofs.YtfleamccglihoaaGreatDoor
open Go.Proofs.Tryz
open Go Go.b0 Go.RowKit
theorem Sub.then{G G' G'':GS}(S:Sub G G')(S':Sub G' G''):Sub G G'':=
 ⟨fun nd h=>S'.D nd (S.D nd h),S.W,S'.W',fun y hy=>⟨(S.cw y hy).1.trans (S'.cw y (S.ids hy)).1,(S.cw y hy).2.trans (S'.cw y (S.ids hy)).2⟩⟩
theorem sub_self{k:Nat}{G:GS}(H:jT k G):Sub G G:=⟨fun _ h=>h,H.W,H.W,fun _ _=>⟨rfl,rfl⟩⟩
theorem Split.both{b:Bool}{A B:Prop}(h1:b=true->A)(h2:b=false->B):Split b A B:=by cases b;exact h2 rfl;exact h1 rfl
section
variable{w:World}{F:Nat->Prop}{A:Option Addr}{n:Nat}{l:List DN}
theorem NS.pair(h:NS w F A n l){i:Nat}{nd:DN}(hi:l[i]? =some nd):∃a pA pn pc,A=some a/\HS w pA pn nd.ps/\(∀ {w'},Kept Nil w w'->Cells w' ((a.add ((i:Int).toNat*33)).add 0) nd.id.1)/\(∀ {w'},Kept Nil w w'->w'.cell? ((a.add ((i:Int).toNat*33)).add 32)=some (.slice pA pn pc)):=by
 obtain⟨a,pA,pn,pc,e,h2,h3,h4,h5,h6⟩:=h.at_ i nd hi;refine⟨a,pA,pn,pc,e,h5,fun k j u hj=>?_,fun k=>?_⟩
 ·rw [Int.toNat_natCast,add_zero]
  refine k.cell (h4 j u ?_) (fun h=>h);exact r9 hj
 ·rw [Int.toNat_natCast]
  exact k.cell (h4 32 _ (nX _ _)) (fun h=>h)
end
section
variable{w:World}{FP FQ:Nat->Prop}{K:Value->World->Prop}
set_option maxHeartbeats 2000000 in
theorem Fh{A B E:Option Addr}{n cx nb cb ne ce:Nat}{l lm:List DN}{lp:List HT}(hl:NS w FP A n l)(hn:n<9223372036854775808)(p:PP)(root:HT)(hb:HS w B nb lp)(he:NS w FQ E ne lm)(hT:sP w)(hK:∀w',Kept Nil w w'->K (.bool true) w'):
 bD prog bI.id #[.agg p.cells,.agg root.1,.slice A n cx,.slice B nb cb,.slice E ne ce] w K:=by
 have hlen:=hl.len;have ajo:=he.len;refine bI.of ?_;unfold bI.W;intro w1 w2;have k1:Kept Nil w w1:=(Kept.refl _ _).alloc _;have PU:w1.heap[w.heap.size]? =some (.cells p.cells eU (0,0)):=aM w _;have k2:Kept Nil w1 w2:=(Kept.refl _ _).alloc _;have jU:w2.heap[w1.heap.size]? =some (.cells root.1 al (0,0)):=aM w1 _;have IM:=k2.heap PU (fun h=>h);clear_value w2;have mn:=k1.tt k2;have kn:∀ {v:World},Kept Nil w v->bD prog iH.id #[] v fun v3 w_4=>∃t:Bool,v3=.bool t/\K (.bool t) w_4:=fun k=>vG (hT.same k) fun w4 k4=>⟨true,rfl,hK w4 (k.tt k4)⟩;refine⟨p.K,by rw [bC,aE IM];exact p.L9,root.1,⟨root.2.1,Cells.bV jU⟩,?_⟩;refine Dy (hl.same mn) hn p.K root (hT.same mn) (fun v kv=>⟨_,_,false,true,rfl,Split.yes rfl (Split.yes rfl (kn (mn.tt kv)))⟩) fun w3 F c m FR r x k hk hk6 abR B3 k3 wH=>⟨_,_,true,true,rfl,Split.no rfl (Split.no rfl ?_)⟩;have Yy:=Du k root l;have hf2:=abR.2;generalize Dv k root l=G at B3 Yy;have jZ:=mn.tt k3;have hp3:=k3.heap IM (fun h=>h);refine Split.dec (fun _=>Split.yes rfl (kn jZ)) (fun hle=>Split.dec (fun _=>Split.yes rfl (kn jZ)) (fun abo=>?_));refine⟨p.cells,⟨p.size,Cells.bV hp3⟩,?_⟩;have hlb:=hb.len;have hTl:=hT.lt;have ajm:=aY IM;have Zn:=mn.size;refine kr B3.C (hT.same jZ) (by omega) (by omega) p (uI _) (hb.same jZ) (by omega) fun w4 A4 n4 c4 _ k4=>⟨A4,n4,c4,_,rfl,?_⟩;have qT:=k3.tt k4;have NB:=B3.C.hZ;refine bI.cJ (I:=fun s v=>∃(i:Nat) (F:Nat->Prop) (m:CM) (G':GS),s=(false,(i:Int))/\i<=ne/\CV v F c k G' m/\Sub G G'/\G'.D.length<=19+i/\Kept Nil w2 v/\∀j,m.own c j->w2.heap.size<=j) (μ:=fun s _=>((ne:Int)-s.2).toNat) (s:=(false,0))
  ⟨0,F,m,G,rfl,Nat.zero_le _,B3.C.same k4,sub_self NB,by omega,qT,fun j e=>wH j (.inl e)⟩ ?_
 clear wH;rintro s v ⟨i,F',m',G',rfl,hi,C',S,Yz,kv,wH⟩;unfold bI.B1;have FV:=mn.tt kv;refine Split.dec (fun dg=>?_) (fun gK=>?_)
 ·simp only at dg
  have eh:i<ne:=by omega
  obtain⟨nd,gA⟩:∃nd,lm[i]? =some nd:=⟨_,List.getElem?_eq_getElem (by omega)⟩;obtain⟨a,pA,pn,pc,rfl,qV,hid,X8⟩:=(he.same FV).pair gA;have G8:0<=(i:Int)/\(i:Int)<(ne:Int):=⟨by omega,by omega⟩;have Kc:=qV.len;refine⟨G8,Is.mk rfl ⟨pA,pn,pc,X8 (Kept.refl _ _),?_⟩⟩;refine Split.dec (fun _=>vG (hT.same FV) fun w4 k4=>⟨true,rfl,hK w4 (FV.tt k4)⟩) (fun ajp=>?_);intro w5;have k5:Kept Nil v w5:=(Kept.refl _ _).drew;clear_value w5;refine⟨G8,Is.mk rfl ⟨nd.id.1,⟨nd.id.2.1,hid k5⟩,G8,Is.mk rfl ⟨pA,pn,pc,X8 k5,?_⟩⟩⟩;have JS:=FV.tt k5;have En:=kv.tt k5;have s25:=En.size;refine mW (C'.same k5) (hT.same JS) (fun e=>by have:=wH _ (.inl e);omega) (by omega) (by omega) (qV.same k5) (by omega) nd.id fun w6 F6 m6 A6 n6 p6 E6 q6 z6 C6 _ k6 hm6 _ _ _ _ _=>⟨_,_,rfl,?_⟩;have AN:Kept Nil w2 w6:=En.trans k6 (fun j hj e=>by have:=wH j e;omega);have Rr:=mn.tt AN;have abM:∀j,m6.own c j->w2.heap.size<=j:=fun j e=>(hm6 j e).elim (wH j) (fun h=>by omega);have S6:Sub G (eo k G' nd.id nd.ps):=S.then (KA C'.hZ nd.id nd.ps);have hD6:(eo k G' nd.id nd.ps).D.length<=19+(i+1):=by
   have:(eo k G' nd.id nd.ps).D.length<=G'.D.length+1:=by
    rw [rL];unfold mo;split
    ·simp
    ·omega
   omega
  refine⟨p.cells,⟨p.size,Cells.bV (AN.heap IM (fun h=>h))⟩,?_⟩;refine kr C6 (hT.same Rr) (by omega) (by omega) p (uI _) (hb.same Rr) (by omega) fun w7 A7 n7 c7 _ k7=>⟨A7,n7,c7,_,rfl,?_⟩;have La:=AN.tt k7;have next:bW (bI.e1 B nb cb (some a) ne ce ⟨w.heap.size,0,none⟩ (some ⟨c,0,none⟩) (iA p G lp).2) (fun s v=>∃(i:Nat) (F:Nat->Prop) (m:CM) (G':GS),s=(false,(i:Int))/\i<=ne/\CV v F c k G' m/\Sub G G'/\G'.D.length<=19+i/\Kept Nil w2 v/\∀j,m.own c j->w2.heap.size<=j) (fun s _=>((ne:Int)-s.2).toNat) (false,(i:Int)) v (bI.q1 K) .normal [(3,.slice B nb cb),(4,.slice (some a) ne ce),(5,.pointer (some ⟨w.heap.size,0,none⟩)),(10,.bool false),(11,.pointer (some ⟨c,0,none⟩)),(16,.int .i64 (iA p G lp).2),(17,.int .i64 (i64.wrap ((i:Int)+1)))] w7:=by
   rw [dH (n:=(i:Int)) (by omega) (by omega)];exact⟨(false,(i:Int)+1),rfl,⟨i+1,F6,m6,_,rfl,eh,C6.same k7,S6,hD6,La,abM⟩,by simp only;omega⟩
  refine Split.both (fun fP=>?_) (fun _=>next);have UH:(iA p G lp).2≠15:=by simpa using fP
  exact Split.no (by rw [Ba S6 NB UH];simp) next
 ·rw [aX,bI.dv]
  exact kn FV
end
end Go.Proofs.YtfleamccglihoaaGreatDoor
