import Derived.Test.YtnboahlopghcjaaGreatDoorMU
import Derived.Test.YtnboahlopghcjaaGreatDoorMN
import Derived.Test.YtnboahlopghcjaaGreatDoorMJ
set_option linter.unusedVariables false
namespace Go.Proofs.YtnboahlopghcjaaGreatDoor
open Go.Proofs.Tryz
open Go Go.bp Go.RowKit
noncomputable def xw(k:Nat)(G:GS)(id:HT)(l:List HT):p8:=if dt G.D id l=0 then fg k G (bH G l) l else⟨bI,0,[],[]⟩
section
variable{w w' v:World}{S F FP FR:Nat->Prop}{c r x k:Nat}{G:GS}{m:CM}{K:Value->World->Prop}
theorem nx(h:CV w F c k G m)(hT:p6 w)(IT: ¬m.SX (Tryz.gV.g 1))(hD:G.D.length<=49)(ue:k<=1000){A:Option Addr}{n cx:Nat}{l:List HT}(Ak:HS w A n l)(hn:n<=5000)(id:HT)
 (hK: ∀w' F' m' A n c1 B e c2,CV w' F' c k (dz k G id l) m'->m'.x=m.x->Kept (m.own c) w w'->(∀j,m'.own c j->m.own c j\/w.heap.size<=j)->(∀j,F' j->F j\/w.heap.size<=j)->
   bQ w' w.heap.size A n c1 (xw k G id l).merge->Row w' w.heap.size gP 1 B e c2 (th (xw k G id l).gB)->(∀j,aX A=some j->aX B≠some j)->(∀j,aX A=some j\/aX B=some j-> ¬m'.own c j/\ ¬F' j)->
   K (.tuple #[.agg (dT (xw k G id l) A n c1 B e c2),.int .i64 (dt G.D id l)]) w'):
 aY prog bP.id #[.pointer (some ⟨c,0,none⟩),.agg id.1,.slice A n cx] w K:=by
 refine zN h hT IT hD ue Ak hn id (fun he w' k'=>?_) (fun he w' F' m' A n c1 B e c2 h1 h2 h3 h4 h5 h6 h7 h8 h9=>?_)
 ·have e1:xw k G id l=⟨bI,0,[],[]⟩:=if_neg he
  have:=hK w' F m none 0 0 none 0 0 (by rw [tX he];exact h.same k') rfl (k'.mono fun _ _ h=>h.elim) (fun j h=>.inl h) (fun j h=>.inl h) (by rw [e1];exact bQ.nil _ _) (by rw [e1];exact Row.nil _ _ _ _) (fun j hj=>(by cases hj)) (fun j hj=>by rcases hj with hj|hj<;>cases hj);rw [e1]at this;exact this
 ·have e1:xw k G id l=fg k G (bH G l) l:=if_pos he
  have:=hK w' F' m' A n c1 B e c2 h1 h2 h3 h4 h5 (by rw [e1];exact h6) (by rw [e1];exact h7) h8 h9;rw [e1,he]at this;exact this
end
end Go.Proofs.YtnboahlopghcjaaGreatDoor
namespace Go.Proofs.YtnboahlopghcjaaGreatDoor
open Go.Proofs.Tryz
open Go Go.bp Go.RowKit
section
variable{w w' v:World}{S F FP FR:Nat->Prop}{c r x k:Nat}{G:GS}{m:CM}{K:Value->World->Prop}
end
end Go.Proofs.YtnboahlopghcjaaGreatDoor
namespace Go.Proofs.YtnboahlopghcjaaGreatDoor
open Go.Proofs.Tryz
open Go Go.bp Go.RowKit
section
variable{k:Nat}{G:GS}{s:HT}
theorem uS(G:GS)(s:HT):b7 G s [s]= []:=by
 rw [List.eq_nil_iff_forall_not_mem];intro h hm;obtain⟨h1,h2,h3⟩:=gM.1 hm;rcases h1 with⟨_,p,hp,ha⟩|h1
 ·rw [List.mem_singleton]at hp;subst hp;exact h3 ha
 ·rw [List.mem_singleton]at h1;exact h2 h1
theorem mf(k:Nat)(G:GS)(s:HT):fg k G s [s]=⟨s,G.score s+1,[],[]⟩/\(eE k G s [s]).wd=G.world s++ [s]:=by
 unfold fg eE;rw [uS];exact⟨rfl,rfl⟩
variable{r a b c:HT}(zy:r≠a)(x9:r≠b)(FK:r≠c)(jZ:a≠b)(Gr:a≠c)(Cs:b≠c)
include zy x9 jZ in
theorem Vi(k:Nat): ∃G1 G2:GS,dz k (dc r) a [r]=G1/\dz k G1 b [r]=G2/\dt (dc r).D a [r]=0/\dt G1.D b [r]=0/\jA k G2/\G1.D= [⟨r,[]⟩,⟨a,[r]⟩]/\G2.D= [⟨r,[]⟩,⟨a,[r]⟩,⟨b,[r]⟩]/\G2.score a=1/\G2.score b=1/\G2.score r=0/\G2.world a= [r]/\G2.world b= [r]/\
 (∀x,eB G2.D x a↔x=r)/\(∀x,eB G2.D x b↔x=r)/\ ∀x,¬eB G2.D x r:=by
 have H0:=ki k r;have c1:dt (dc r).D a [r]=0:=(k1 zy).1;have H1:=H0.add a [r];have D1:(dz k (dc r) a [r]).D= [⟨r,[]⟩,⟨a,[r]⟩]:=by rw [ry];exact(k1 zy).2
 obtain⟨r1,r2⟩:=H0.root ⟨r,[]⟩ rfl
 replace r1:(dc r).gF r=_:=r1
 replace r2:(dc r).world r=_:=r2
 have oS:r∈ids (dc r).D:=by simp [dc,ids]
 obtain⟨n1,n2⟩:=l9 H0 c1;obtain⟨o1,o2⟩:=jV (h:=a) (ps:= [r]) H0 oS
 replace n1:(dz k (dc r) a [r]).gF a=fg k (dc r) r [r]:=n1
 replace n2:(dz k (dc r) a [r]).world a=(eE k (dc r) r [r]).wd:=n2
 rw [(mf k (dc r) r).1]at n1;rw [(mf k (dc r) r).2,r2]at n2;have sr:(dc r).score r=0:=by unfold GS.score;rw [r1]
 rw [sr]at n1;rw [r1]at o1;rw [r2]at o2;generalize hG1:dz k (dc r) a [r]=G1 at*;have c2:dt G1.D b [r]=0:=by rw [D1];exact(k2 x9 jZ).1
 have D2:(dz k G1 b [r]).D= [⟨r,[]⟩,⟨a,[r]⟩,⟨b,[r]⟩]:=by rw [ry,D1];exact(k2 x9 jZ).2
 have H2:=H1.add b [r];obtain⟨p1,p2⟩:=l9 H1 c2
 replace p1:(dz k G1 b [r]).gF b=fg k G1 r [r]:=p1
 replace p2:(dz k G1 b [r]).world b=(eE k G1 r [r]).wd:=p2
 rw [(mf k G1 r).1]at p1;rw [(mf k G1 r).2,o2]at p2;have XE:G1.score r=0:=by unfold GS.score;rw [o1]
 rw [XE]at p1;have oR:r∈ids G1.D:=by rw [D1];simp [ids]
 have ha1:a∈ids G1.D:=by rw [D1];simp [ids]
 obtain⟨q1,_⟩:=jV (h:=b) (ps:= [r]) H1 oR;obtain⟨q3,q4⟩:=jV (h:=b) (ps:= [r]) H1 ha1;have W2:=H2.W;have hr: ∀x,¬eB (dz k G1 b [r]).D x r:=fun x h=>by
  obtain⟨p,hp,_⟩:=(p5 W2 (i:=0) (nd:=⟨r,[]⟩) (by rw [D2];rfl) x).1 h;simp at hp
 have hx: ∀(i:Nat) (y:HT),(dz k G1 b [r]).D[i]? =some ⟨y,[r]⟩-> ∀x,eB (dz k G1 b [r]).D x y↔x=r:=fun i y hi x=>by
  rw [p5 W2 (i:=i) (nd:=⟨y,[r]⟩) hi x];constructor
  ·rintro⟨p,hp,e⟩
   rw [List.mem_singleton]at hp;subst hp;rcases e with e|e
   ·exact e
   ·exact absurd e (hr x)
  ·rintro rfl
   exact⟨x,by simp,.inl rfl⟩
 refine⟨G1,_,rfl,rfl,c1,c2,H2,D1,D2,?_,?_,?_,?_,p2,hx 1 a (by rw [D2];rfl),hx 2 b (by rw [D2];rfl),hr⟩
 ·unfold GS.score;rw [q3,n1]
 ·unfold GS.score;rw [p1]
 ·unfold GS.score;rw [q1,o1]
 ·rw [q4,n2];rfl
include zy x9 FK jZ Gr Cs in
theorem Yk(ck:ck b a=true){G1 G2:GS}(h1:dz 0 (dc r) a [r]=G1)(h2:dz 0 G1 b [r]=G2):dt G2.D c [a,b]=0/\xw 0 G2 c [a,b]=⟨a,2,[b],[false]⟩:=by
 obtain⟨G1',G2',e1,e2,_,_,H2,_,D2,sa,sb,_,wa,_,aa,ab,ar⟩:=Vi zy x9 jZ 0;rw [h1]at e1;subst e1;rw [h2]at e2;subst e2;have c3:dt G2.D c [a,b]=0:=by rw [D2];exact(k3 FK jZ Gr Cs).1
 refine⟨c3,?_⟩;unfold xw;rw [if_pos c3];have It:gl G2 a b=false:=by
  unfold gl;rw [sa,sb];cases h:Go.Proofs.YtnboahlopghcjaaGreatDoor.ck a b
  ·rfl
  ·have:=iw h ck
   rw [fw]at this;cases this
 have mF:bH G2 [a,b]=a:=by
  show(if gl G2 a b then b else a)=a;rw [It];rfl
 rw [mF];have hm:b7 G2 a [a,b]= [b]:=by
  refine(sF (by simp [SO]) fun x=>?_).symm;rw [List.mem_singleton,qD];constructor
  ·rintro rfl
   exact⟨.inr (by simp),fun e=>jZ e.symm,fun e=>x9 ((aa x).1 e).symm⟩
  ·rintro⟨h|h,h3,h4⟩
   ·obtain⟨_,p,hp,hA⟩:=h
    simp at hp;rcases hp with rfl|rfl
    ·exact absurd hA h4
    ·exact absurd ((aa x).2 ((ab x).1 hA)) h4
   ·simp at h
    rcases h with h|h
    ·exact absurd h h3
    ·exact h
 have hb:ou 0 G2.D [r,a] b=false:=by
  unfold ou;rw [decide_eq_false_iff_not];rintro⟨h,_⟩;have:a∈bA G2.D [r,a] b:=dv.2 ⟨by simp,jZ,fun e=>zy ((ab a).1 e).symm,fun e=>x9 ((aa b).1 e).symm⟩;have h0:bA G2.D [r,a] b= []:=List.eq_nil_of_length_eq_zero (by omega);rw [h0]at this;simp at this
 unfold fg eE;rw [hm,wa,sa];have hf: [b].foldl (mK 0 G2.D) ⟨[r]++ [a],[]⟩=⟨[r,a],[false]⟩:=by
  show mK 0 G2.D ⟨[r,a],[]⟩ b=_
  unfold mK;rw [hb];rfl
 rw [hf];rfl
end
section
variable{w w':World}{K:Value->World->Prop}
set_option maxHeartbeats 1000000 in
theorem wE(hT:p6 w)(hK: ∀w',Kept Nil w w'->K (.bool true) w'):aY prog fj.id #[] w K:=by
 let r:=hx 1 (by omega)
 let a:=hx 3 (by omega)
 let b:=hx 2 (by omega)
 let c:=hx 4 (by omega)
 have zy:r≠a:=oP (by omega);have x9:r≠b:=oP (by omega);have FK:r≠c:=oP (by omega);have jZ:a≠b:=oP (by omega);have Gr:a≠c:=oP (by omega);have Cs:b≠c:=oP (by omega);have R7:ck b a=true:=by decide
 refine fj.of ?_;unfold fj.W;intro w1 w2 w3 w4;obtain⟨⟨f1,f2,f3,f4⟩,hr,ha,hb,hc,l1,l2,l3,l4,k⟩:=four w r a b c;refine⟨⟨r.2.1,r.2.one,f1⟩,?_⟩;intro w7;refine⟨⟨a.2.1,a.2.one,f2⟩,?_⟩;intro w10;refine⟨⟨b.2.1,b.2.one,f3⟩,?_⟩;intro jJ;refine⟨⟨c.2.1,c.2.one,f4⟩,?_⟩;intro gD
 replace hr:gD.heap[w.heap.size]? =some (.cells r.1 ao (0,0)):=hr
 replace ha:gD.heap[w1.heap.size]? =some (.cells a.1 ao (0,0)):=ha
 replace hb:gD.heap[w2.heap.size]? =some (.cells b.1 ao (0,0)):=hb
 replace hc:gD.heap[w3.heap.size]? =some (.cells c.1 ao (0,0)):=hc
 replace k:Kept Nil w gD:=k
 replace l1:w.heap.size<w1.heap.size:=l1
 replace l2:w1.heap.size<w2.heap.size:=l2
 replace l3:w2.heap.size<w3.heap.size:=l3
 replace l4:w3.heap.size<gD.heap.size:=l4
 clear f1 f2 f3 f4;clear_value gD;clear jJ w10 w7;clear_value w3;clear w4;clear_value w2;clear_value w1;have hTl:=hT.lt;have UT:=k.size;have box: ∀ {u:World} {S:Nat->Prop},Kept S gD u->(∀k,S k->gD.heap.size<=k)->Cells u (⟨w.heap.size,0,none⟩:Addr) r.1/\Cells u (⟨w1.heap.size,0,none⟩:Addr) a.1/\Cells u (⟨w2.heap.size,0,none⟩:Addr) b.1/\Cells u (⟨w3.heap.size,0,none⟩:Addr) c.1:=fun ku hS=>
  ⟨Cells.bC (ku.heap hr (fun e=>by have:=hS _ e;omega)),Cells.bC (ku.heap ha (fun e=>by have:=hS _ e;omega)),Cells.bC (ku.heap hb (fun e=>by have:=hS _ e;omega)),Cells.bC (ku.heap hc (fun e=>by have:=hS _ e;omega))⟩
 obtain⟨G1,G2,e1,e2,c1,c2,H2,D1,D2,_⟩:=Vi zy x9 jZ 0;obtain⟨c3,hR⟩:=Yk zy x9 FK jZ Gr Cs R7 e1 e2;refine⟨r.1,⟨r.2.1,Cells.bC hr⟩,dK r (k:=0) (by omega) fun oz cc q m C hm hq vQ=>⟨_,_,rfl,Split.no rfl (Split.no rfl ?_)⟩⟩;obtain⟨b1,b2,b3,b4⟩:=box vQ (fun _ h=>h.elim);refine⟨a.1,⟨a.2.1,b2⟩,r.1,⟨r.2.1,b1⟩,r.2.1,?_⟩;intro jc;have pH:Kept Nil oz jc:=(Kept.refl _ _).alloc _;have EF:HS jc (some ⟨oz.heap.size,0,none⟩) 1 [r]:=kV oz r;clear_value jc;have wI:=vQ.trans pH (fun _ _ h=>h);have Qb:=wI.size;refine nx (C.same pH) (hT.same (k.trans wI (fun _ _ h=>h))) (fun e=>by have:=hm _ (.inl e);omega) (by simp [dc]) (by omega) EF (by omega) a fun yD F2 m2 A2 n2 p2 E2 q2 z2 C2 _ Hp Wf _ _ _ _ _=>⟨_,_,rfl,?_⟩;rw [e1]at C2;have Qg: ∀j,m2.own cc j->gD.heap.size<=j:=fun j e=>(Wf j e).elim (hm j) (fun h=>by omega);have Fv:Kept (fun q=>gD.heap.size<=q) gD yD:=(wI.mono (S':=fun q=>gD.heap.size<=q) (fun _ _ h=>h.elim)).trans Hp (fun q _ h=>hm q h);obtain⟨b1,b2,b3,b4⟩:=box Fv (fun _ h=>h);refine⟨b.1,⟨b.2.1,b3⟩,r.1,⟨r.2.1,b1⟩,r.2.1,?_⟩;intro Kv;have OY:Kept Nil yD Kv:=(Kept.refl _ _).alloc _;have Tl:HS Kv (some ⟨yD.heap.size,0,none⟩) 1 [r]:=kV yD r;clear_value Kv;have BK:=Fv.trans OY (fun _ _ h=>h.elim);have s31:=BK.size;refine nx (C2.same OY) ((hT.same k).aG BK (fun e=>by omega)) (fun e=>by have:=Qg _ (.inl e);omega) (by rw [D1];simp) (by omega) Tl (by omega) b fun rK F3 m3 A3 n3 p3 E3 q3 z3 C3 _ BD R3 _ _ _ _ _=>⟨_,_,rfl,?_⟩;rw [e2]at C3;have U2: ∀j,m3.own cc j->gD.heap.size<=j:=fun j e=>(R3 j e).elim (Qg j) (fun h=>by omega)
 have Fu:Kept (fun q=>gD.heap.size<=q) gD rK:=BK.trans BD (fun q _ h=>Qg q h);obtain⟨b1,b2,b3,b4⟩:=box Fu (fun _ h=>h);refine⟨c.1,⟨c.2.1,b4⟩,a.1,⟨a.2.1,b2⟩,b.1,⟨b.2.1,b3⟩,a.2.1,b.2.1,?_⟩;intro P2;have Vp:Kept Nil rK P2:=(Kept.refl _ _).alloc _;have Tj:HS P2 (some ⟨rK.heap.size,0,none⟩) 2 [a,b]:=HS.lay (l:= [a,b]) (t:=ao) (aN rK (.cells (bV [a,b]).toArray ao));clear_value P2;have BJ:=Fu.trans Vp (fun _ _ h=>h.elim);have s39:=BJ.size;refine nx (C3.same Vp) ((hT.same k).aG BJ (fun e=>by omega)) (fun e=>by have:=U2 _ (.inl e);omega) (by rw [D2];simp) (by omega) Tj (by omega) c fun E8 F4 m4 A4 n4 p4 E4 q4 z4 _ _ Ym _ _ rA rE _ _=>⟨_,_,rfl,?_⟩;rw [c3];rw [hR]at rA rE⊢;have Ft:Kept (fun q=>gD.heap.size<=q) gD E8:=BJ.trans Ym (fun q _ h=>U2 q h);have s41:=Ft.size;intro vP;have BB:Kept Nil E8 vP:=(Kept.refl _ _).alloc _;have QX:vP.heap[E8.heap.size]? =some (.cells zC bX (0,0)):=aN E8 _;clear_value vP;obtain⟨t1,t2,t3⟩:=ga QX (cs:=dT ⟨a,2,[b],[false]⟩ A4 n4 p4 E4 q4 z4) (by rw [bM];rfl);refine⟨⟨bM ..,jT _ _ _ _ _ _ _,fun j hj=>t1 j (by rw [bM];exact hj)⟩,?_⟩;intro Jp yC
 replace t2:Jp.heap[E8.heap.size]? =some (.cells (dT ⟨a,2,[b],[false]⟩ A4 n4 p4 E4 q4 z4) bX (0,0)):=t2
 replace t3:Kept (· =E8.heap.size) vP Jp:=t3
 have Hm:Kept Nil Jp yC:=(Kept.refl _ _).drew;clear_value yC;have ht:=Hm.heap t2 (fun h=>h);have BC:Kept Nil E8 yC:=(BB.trans t3 (fun j hj e=>by omega)).trans Hm (fun _ _ h=>h);clear_value Jp;have Fs:=Ft.trans BC (fun _ _ h=>h.elim);obtain⟨b1,b2,b3,b4⟩:=box Fs (fun _ h=>h);have g:=fz ⟨a,2,[b],[false]⟩ A4 n4 p4 E4 q4 z4 #[];rw [Array.append_empty]at g;have ZD:n4=1:=by have:=bQ.len rA;simpa using this.symm
 have Rz:q4=1:=by have:=(Row.bo rE).len;simpa using this.symm
 subst ZD Rz;have mg:=(bQ.hs rA).same BC;have bl:=(Row.bo rE).same BC;have kO:Cells yC ((⟨E8.heap.size,0,none⟩:Addr).add 0) a.1:=fun j u hj=>by
  have ck:=(Array.getElem?_eq_some_iff.1 hj).1;rw [add_zero,a7,az ht,Nat.zero_add];unfold dT;rw [Array.getElem?_append_left ck];exact hj
 refine Split.yes rfl ⟨a.1,⟨a.2.1,kO⟩,a.1,⟨a.2.1,b2⟩,⟨a.2.ints,a.2.ints⟩,?_⟩;rw [eJ];refine Split.yes (decide_eq_true rfl) ⟨2,by rw [a7,az ht];exact g.1,Split.yes rfl ⟨A4,1,p4,by rw [a7,az ht];exact g.2.1,Split.yes rfl ⟨A4,1,p4,by rw [a7,az ht];exact g.2.1,?_⟩⟩⟩;refine mg.load (i:=0) (by omega) rfl ⟨b.1,⟨b.2.1,b3⟩,⟨b.2.ints,b.2.ints⟩,?_⟩;rw [eJ];obtain⟨aE,h1,_,h3⟩:=bl.at_ 0 false rfl;subst h1;refine Split.yes (decide_eq_true rfl) ⟨some aE,1,z4,by rw [a7,az ht];exact g.2.2.1,Split.yes rfl ⟨some aE,1,z4,by rw [a7,az ht];exact g.2.2.1,⟨by omega,by omega⟩,false,h3,?_⟩⟩;exact hK yC (k.trans Fs (fun q hq e=>by omega))
end
end Go.Proofs.YtnboahlopghcjaaGreatDoor
namespace Go.Proofs.YtnboahlopghcjaaGreatDoor
open Go.Proofs.Tryz
open Go Go.bp Go.RowKit
section
variable{w w' v:World}{F FP FR:Nat->Prop}{c r x k:Nat}{G:GS}{m:CM}{K:Value->World->Prop}
end
end Go.Proofs.YtnboahlopghcjaaGreatDoor
namespace Go.Proofs.YtnboahlopghcjaaGreatDoor
open Go.Proofs.Tryz
open Go Go.bp Go.RowKit
section
variable{w w' v:World}{g:Option Addr}{K:Value->World->Prop}
def vW(w:World)(g:Option Addr):Prop:=g=none\/ ∃b,g=some ⟨b,0,none⟩/\w.heap[b]? =some (.cells #[.int .i64 0,.pointer none,.map none] dr (0,0))
theorem vW.same(h:vW w g)(k:Kept Nil w w'):vW w' g:=by
 rcases h with h|⟨b,h,hb⟩
 ·exact .inl h
 ·exact .inr ⟨b,h,k.heap hb (fun h=>h)⟩
theorem lK(h:vW w g)(hK:K (.bool false) w):aY prog bT.id #[.pointer g] w K:=by
 refine bT.of ?_;unfold bT.W;rcases h with rfl|⟨b,rfl,hb⟩
 ·exact Split.no rfl hK
 ·exact Split.yes rfl (Is.mk rfl ⟨none,by rw [a7,az hb];rfl,hK⟩)
theorem Qh(h:vW w g)(hK:K (.int .i64 0) w):aY prog dq.id #[.pointer g] w K:=by
 refine dq.of ?_;unfold dq.W;rcases h with rfl|⟨b,rfl,hb⟩
 ·exact Split.yes rfl hK
 ·exact Split.no rfl (Is.mk rfl ⟨0,by rw [a7,az hb];rfl,hK⟩)
theorem Bf(h:vW w g)(hK:K (.pointer none) w):aY prog cr.id #[.pointer g] w K:=by
 refine cr.of ?_;unfold cr.W;rcases h with rfl|⟨b,rfl,hb⟩
 ·exact Split.yes rfl hK
 ·exact Split.no rfl (Is.mk rfl ⟨none,by rw [a7,az hb];rfl,hK⟩)
theorem DQ(h:vW w g)(hK:K (.pointer none) w):aY prog cF.id #[.pointer g] w K:=by
 refine cF.of ?_;unfold cF.W;exact lK h ⟨false,rfl,Split.yes rfl hK⟩
theorem oC: ∀u∈(zC:Array Value).toList,u.oneCell'=true:=by
 rw [show(zC:Array Value)=dT ⟨bI,0,[],[]⟩ none 0 0 none 0 0 from rfl];exact jT _ _ _ _ _ _ _
theorem Hb(h:vW w g)(a:HT){A:Option Addr}{n cx:Nat}(hK: ∀w',Kept Nil w w'->K (.tuple #[.agg zC,.int .i64 1]) w'):aY prog bP.id #[.pointer g,.agg a.1,.slice A n cx] w K:=by
 refine bP.of ?_;unfold bP.W;intro w1 w2;have k1:Kept Nil w w1:=(Kept.refl _ _).alloc _;have k2:Kept Nil w1 w2:=(Kept.refl _ _).alloc _;have hx:w2.heap[w1.heap.size]? =some (.cells zC bX (0,0)):=aN w1 _;clear_value w2;have s1:=k1.size;clear_value w1;have mr:=k1.trans k2 (fun _ _ h=>h);refine lK (h.same mr) ⟨false,rfl,Split.yes rfl ?_⟩;obtain⟨t1,t2,t3⟩:=ga hx (cs:=zC) rfl;refine⟨⟨rfl,oC,fun j hj=>t1 j hj⟩,?_⟩;exact⟨zC,⟨rfl,Cells.bC t2⟩,hK _ (mr.trans t3 (fun j hj e=>by omega))⟩
theorem Ha(h:vW w g)(a:HT)(hK: ∀w',Kept Nil w w'->K (.tuple #[.agg zC,.int .i64 1]) w'):aY prog cK.id #[.pointer g,.agg a.1] w K:=by
 refine cK.of ?_;unfold cK.W;intro w1 w2;have k1:Kept Nil w w1:=(Kept.refl _ _).alloc _;have k2:Kept Nil w1 w2:=(Kept.refl _ _).alloc _;have hx:w2.heap[w1.heap.size]? =some (.cells zC bX (0,0)):=aN w1 _;clear_value w2;have s1:=k1.size;clear_value w1;have mr:=k1.trans k2 (fun _ _ h=>h);refine lK (h.same mr) ⟨false,rfl,Split.yes rfl ?_⟩;obtain⟨t1,t2,t3⟩:=ga hx (cs:=zC) rfl;refine⟨⟨rfl,oC,fun j hj=>t1 j hj⟩,?_⟩;exact⟨zC,⟨rfl,Cells.bC t2⟩,hK _ (mr.trans t3 (fun j hj e=>by omega))⟩
theorem Be(h:vW w g){A:Option Addr}{n cx:Nat}(hK: ∀w',Kept Nil w w'->K (.int .i64 1) w'):aY prog bW.id #[.pointer g,.slice A n cx] w K:=by
 refine bW.of ?_;unfold bW.W;intro w1;have k1:Kept Nil w w1:=(Kept.refl _ _).alloc _;have hx:w1.heap[w.heap.size]? =some (.cells #[.pointer g] cN (0,0)):=aN w _;clear_value w1;exact⟨g,by rw [az hx];rfl,lK (h.same k1) ⟨false,rfl,Split.yes rfl (hK _ k1)⟩⟩
theorem uO(h:vW w g)(a:HT)(hK: ∀w',Kept Nil w w'->K (.tuple #[.slice none 0 0,.int .i64 1]) w'):aY prog bK.id #[.pointer g,.agg a.1] w K:=by
 refine bK.of ?_;unfold bK.W;intro w1 w2;have k1:Kept Nil w w1:=(Kept.refl _ _).alloc _;have hx:w1.heap[w.heap.size]? =some (.cells #[.pointer g] cN (0,0)):=aN w _;have k2:Kept Nil w1 w2:=(Kept.refl _ _).alloc _;clear_value w2;have mr:=k1.trans k2 (fun _ _ h=>h);exact⟨g,by rw [az (k2.heap hx (fun h=>h))];rfl,lK (h.same mr) ⟨false,rfl,Split.yes rfl (hK _ mr)⟩⟩
theorem DR(h:vW w g)(a b:HT)(hK: ∀w',Kept Nil w w'->K (.bool false) w'):aY prog cG.id #[.pointer g,.agg a.1,.agg b.1] w K:=by
 refine cG.of ?_;unfold cG.W;intro w1 w2;have k1:Kept Nil w w1:=(Kept.refl _ _).alloc _;have hx:w1.heap[w.heap.size]? =some (.cells a.1 ao (0,0)):=aN w _;have k2:Kept Nil w1 w2:=(Kept.refl _ _).alloc _;have hy:w2.heap[w1.heap.size]? =some (.cells b.1 ao (0,0)):=aN w1 _;clear_value w2;have YJ:=k2.heap hx (fun h=>h);clear_value w1;have mr:=k1.trans k2 (fun _ _ h=>h);refine⟨b.1,⟨b.2.1,Cells.bC hy⟩,uO (h.same mr) b fun w3 k3=>⟨none,0,0,1,rfl,a.1,⟨a.2.1,Cells.bC (k3.heap YJ (fun h=>h))⟩,?_⟩⟩;exact mT a (HS.nil _ _) (by omega) fun w4 k4=>⟨_,rfl,by simpa using hK _ ((mr.trans k3 (fun _ _ h=>h)).trans k4 (fun _ _ h=>h))⟩
theorem ze(h:vW w g){A:Option Addr}{n cx:Nat}(hK: ∀w',Kept Nil w w'->K (.tuple #[.agg zH,.int .i64 1]) w'):aY prog bL.id #[.pointer g,.slice A n cx] w K:=by
 refine bL.of ?_;unfold bL.W;intro w1;have k1:Kept Nil w w1:=(Kept.refl _ _).alloc _;have hx:w1.heap[w.heap.size]? =some (.cells zH ao (0,0)):=aN w _;clear_value w1;refine Be (h.same k1) fun w2 k2=>⟨1,rfl,Split.yes (by decide) ?_⟩;obtain⟨t1,t2,t3⟩:=ga (k2.heap hx (fun h=>h)) (cs:=bI.1) (by rw [bI.2.1];rfl);refine⟨⟨bI.2.1,bI.2.one,fun j hj=>t1 j (by rw [bI.2.1];exact hj)⟩,?_⟩;exact⟨bI.1,⟨bI.2.1,Cells.bC t2⟩,hK _ ((k1.trans k2 (fun _ _ h=>h)).trans t3 (fun j hj e=>by omega))⟩
theorem DP(h:vW w g)(s:HT)(hK: ∀w',Kept Nil w w'->K (.tuple #[.agg zC,.int .i64 1]) w'):aY prog cD.id #[.pointer g,.agg s.1,.slice none 0 0] w K:=by
 refine cD.of ?_;unfold cD.W;intro w1 w2;have k1:Kept Nil w w1:=(Kept.refl _ _).alloc _;have Ai:w1.heap[w.heap.size]? =some (.cells s.1 ao (0,0)):=aN w _;have k2:Kept Nil w1 w2:=(Kept.refl _ _).alloc _;have jw:w2.heap[w1.heap.size]? =some (.cells zC bX (0,0)):=aN w1 _;clear_value w2;have x8:=k2.heap Ai (fun h=>h);have mr:=k1.trans k2 (fun _ _ h=>h);have s1:=k1.size;have l1:=aQ Ai;have l2:=aQ jw;clear_value w1;refine⟨s.1,⟨s.2.1,Cells.bC x8⟩,s.2.1,?_⟩;intro w3;have k3:Kept Nil w2 w3:=(Kept.refl _ _).alloc _;have ql:bQ w3 w2.heap.size (some ⟨w2.heap.size,0,none⟩) 1 1 [s]:=by
  have e:bV [s]=(s.1.toList++ []).toArray.toList:=by simp [bV]
  show Row _ _ _ _ _ _ _ (bV [s])
  rw [e];exact Row.made (aN w2 _) (by omega) (by simp [s.2.1]) (by unfold maxLen;omega)
 clear_value w3;have ph:=mr.trans k3 (fun _ _ h=>h);have s3:=k3.size;obtain⟨A2,c2,w4,Rq,wq,g4,Pq⟩:=fE aR ql (cx:=0) (HS.nil w3 none) (by omega) s3;have pH:Kept Nil w2 w4:=Kept.pY k3 g4 (fun j hj=>(Row.bC ql hj).1);have pV:=mr.trans pH (fun _ _ h=>h);refine⟨A2,_,c2,w4,Rq,?_⟩;refine Be (h.same pV) fun w5 k5=>⟨_,rfl,Split.yes (by decide) ?_⟩;have rY:=pV.trans k5 (fun _ _ h=>h);obtain⟨t1,t2,t3⟩:=ga ((pH.trans k5 (fun _ _ h=>h)).heap jw (fun h=>h)) (cs:=zC) rfl;refine⟨⟨rfl,oC,fun j hj=>t1 j hj⟩,?_⟩;exact⟨zC,⟨rfl,Cells.bC t2⟩,hK _ (rY.trans t3 (fun j hj e=>by omega))⟩
end
end Go.Proofs.YtnboahlopghcjaaGreatDoor
namespace Go.Proofs.YtnboahlopghcjaaGreatDoor
open Go.Proofs.Tryz
open Go Go.bp Go.RowKit
section
variable{w w' v:World}{g:Option Addr}{K:Value->World->Prop}
set_option maxHeartbeats 2000000 in
theorem Bg(hT:p6 w)(hK: ∀w',Kept Nil w w'->K (.bool true) w'):aY prog aU.id #[] w K:=by
 refine aU.of ?_;unfold aU.W;intro w1 w2;have k1:Kept Nil w w1:=(Kept.refl _ _).alloc _;have Yy:w1.heap[w.heap.size]? =some (.cells #[.int .i64 0,.pointer none,.map none] dr (0,0)):=aN w _;have k2:Kept Nil w1 w2:=(Kept.refl _ _).alloc _;have rG:w2.heap[w1.heap.size]? =some (.cells #[.pointer none,.pointer (some ⟨w.heap.size,0,none⟩)] cN (0,0)):=aN w1 _;clear_value w2;have Yx:=k2.heap Yy (fun h=>h);have mr:=k1.trans k2 (fun _ _ h=>h);clear_value w1;generalize w1.heap.size=lb at rG;refine aU.bU (I:=fun s v=> ∃i:Nat,s=(false,(i:Int))/\i<=2/\Kept Nil w2 v) (μ:=fun s _=>((2:Int)-s.2).toNat) (s:=(false,0)) ⟨0,rfl,by omega,Kept.refl _ _⟩ ?_;rintro⟨_,_⟩ v ⟨i,e,hi,kv⟩;cases e;unfold aU.B1;refine Split.dec (fun ck=>?_) (fun iy=>?_)
 ·simp only at ck
  have eI:i<2:=by omega
  have mQ:=kv.heap rG (fun h=>h);obtain⟨g,hg,hn⟩: ∃g,v.cell? ((⟨lb,0,none⟩:Addr).add ((i:Int).toNat*1))=some (.pointer g)/\vW v g:=by
   have h01:i=0\/i=1:=by omega
   rcases h01 with rfl|rfl
   ·exact⟨none,by rw [a7,az mQ];rfl,.inl rfl⟩
   ·exact⟨_,by rw [a7,az mQ];rfl,.inr ⟨_,rfl,kv.heap Yx (fun h=>h)⟩⟩
  refine⟨⟨by simp only;omega,by simp only;omega⟩,Is.mk rfl ⟨g,hg,?_⟩⟩;intro w3;obtain⟨nt,ij,ig⟩:=dU (w:=v) (z:=bI.1) (cs:=bI.1) (t:=ao) rfl;refine⟨⟨bI.2.1,bI.2.one,fun j hj=>nt j (by rw [bI.2.1];exact hj)⟩,?_⟩;intro w4
  replace ij:w4.heap[v.heap.size]? =some (.cells bI.1 ao (0,0)):=ij
  replace ig:Kept Nil v w4:=ig
  clear_value w4;clear_value w3;generalize v.heap.size=hb at ij;have H: ∀ {u:World},Kept Nil w4 u-> ∃n:Array Value,n=bI.1/\n.size=32/\Cells u ⟨hb,0,none⟩ n:=fun ku=>⟨_,rfl,bI.2.1,Cells.bC (ku.heap ij (fun h=>h))⟩;have N: ∀ {u:World},Kept Nil w4 u->vW u g:=fun ku=>(hn.same ig).same ku;have hh: ∀ {u:World},Kept Nil w4 u->(bI.1.size=32/\Cells u ⟨hb,0,none⟩ bI.1):=fun ku=>⟨bI.2.1,Cells.bC (ku.heap ij (fun h=>h))⟩;refine⟨bI.1,hh (Kept.refl _ _),bI.1,hh (Kept.refl _ _),bI.2.1,?_⟩;intro w5;have k5:Kept Nil w4 w5:=(Kept.refl _ _).alloc _;clear_value w5;refine Hb (N k5) bI fun w6 k6=>⟨zC,1,rfl,?_⟩;intro w7;obtain⟨nt,_,oU⟩:=dU (w:=w6) (z:=zC) (cs:=zC) (t:=bX) rfl;refine⟨⟨rfl,oC,fun j hj=>nt j hj⟩,?_⟩;intro w8
  replace oU:Kept Nil w6 w8:=oU
  clear_value w8;have k8:=(k5.trans k6 (fun _ _ h=>h)).trans oU (fun _ _ h=>h);refine⟨bI.1,hh k8,Ha (N k8) bI fun w9 k9=>⟨zC,1,rfl,?_⟩⟩;intro w10;obtain⟨nt,_,Ck⟩:=dU (w:=w9) (z:=zC) (cs:=zC) (t:=bX) rfl;refine⟨⟨rfl,oC,fun j hj=>nt j hj⟩,?_⟩;intro ur
  replace Ck:Kept Nil w9 ur:=Ck
  clear_value ur;have Fw:=(k8.trans k9 (fun _ _ h=>h)).trans Ck (fun _ _ h=>h);refine⟨bI.1,hh Fw,bI.2.1,?_⟩;intro mJ;have QN:Kept Nil ur mJ:=(Kept.refl _ _).alloc _;clear_value mJ;have zr:=Fw.trans QN (fun _ _ h=>h);refine ze (N zr) fun jJ wF=>⟨zH,1,rfl,?_⟩;intro iW;obtain⟨nt,_,Cj⟩:=dU (w:=jJ) (z:=bI.1) (cs:=bI.1) (t:=ao) rfl;refine⟨⟨bI.2.1,bI.2.one,fun j hj=>nt j (by rw [bI.2.1];exact hj)⟩,?_⟩;intro kF
  replace Cj:Kept Nil jJ kF:=Cj
  clear_value kF;have pU:=(zr.trans wF (fun _ _ h=>h)).trans Cj (fun _ _ h=>h);refine⟨bI.1,hh pU,DP (N pU) bI fun gD nC=>⟨zC,1,rfl,?_⟩⟩;intro rN;obtain⟨nt,_,Ci⟩:=dU (w:=gD) (z:=zC) (cs:=zC) (t:=bX) rfl;refine⟨⟨rfl,oC,fun j hj=>nt j hj⟩,?_⟩;intro rM
  replace Ci:Kept Nil gD rM:=Ci
  clear_value rM;have Af:=(pU.trans nC (fun _ _ h=>h)).trans Ci (fun _ _ h=>h);refine⟨bI.1,hh Af,uO (N Af) bI fun oz vQ=>⟨none,0,0,1,rfl,Split.no rfl (Split.no rfl (Split.no rfl (Split.no rfl (Split.no rfl ?_))))⟩⟩;have Ec:=Af.trans vQ (fun _ _ h=>h);refine⟨bI.1,hh Ec,bI.1,hh Ec,DR (N Ec) bI bI fun xG ub=>⟨false,rfl,Split.no rfl ?_⟩⟩;have ve:=Ec.trans ub (fun _ _ h=>h);refine Bf (N ve) ⟨none,rfl,Split.no rfl (Qh (N ve) ⟨0,rfl,Split.no rfl (DQ (N ve) ⟨none,rfl,Split.no rfl ?_⟩)⟩)⟩;simp only;rw [e8 (n:=(i:Int)) (by omega) (by omega)];exact⟨(false,(i:Int)+1),rfl,⟨i+1,rfl,eI,kv.trans (ig.trans ve (fun _ _ h=>h)) (fun _ _ h=>h)⟩,by simp only;omega⟩
 ·rw [aP,aU.dD]
  unfold aU.cW;refine mR bI (k:= -1) (by omega) fun w3 k3=>⟨none,2,rfl,?_⟩;refine mR bI (k:=101) (by omega) fun w4 k4=>⟨none,2,rfl,?_⟩;refine dK (k:=100) bI (by omega) fun w5 c q m _ _ _ k5=>⟨_,0,rfl,Split.yes rfl (Split.yes rfl (Split.yes rfl (Split.yes rfl ?_)))⟩;have rY:=(((mr.trans kv (fun _ _ h=>h)).trans k3 (fun _ _ h=>h)).trans k4 (fun _ _ h=>h)).trans k5 (fun _ _ h=>h);exact wE (hT.same rY) fun w6 k6=>⟨true,rfl,hK w6 (rY.trans k6 (fun _ _ h=>h))⟩
end
end Go.Proofs.YtnboahlopghcjaaGreatDoor
