import Derived.Test.YtfleamccglihoaaGreatDoorMV
import Derived.Test.YtfleamccglihoaaGreatDoorMK
import Derived.Test.YtfleamccglihoaaGreatDoorCards
import Derived.Test.YtfleamccglihoaaGreatDoorTie
import Derived.SevenTiedAt
import Derived.OpenShut
import Derived.ShutString
import Derived.ChangeOld
open Go.IntKind (i64 u64)
namespace Go.Proofs.YtfleamccglihoaaGreatDoor
open Go.Proofs.Tryz
open Go Go.bT Go.ChangeShapes Go.WideShapes Go.ChangeAt Go.RowKit
set_option linter.unusedVariables false
theorem uy:prog.underlying mS=some (.struct #[⟨"ID",ah,0,false,"","",0⟩,⟨"Parents",ay,32,false,"","",32⟩]):=by kernel_rfl
theorem ux(a0:Int)(h1:HT)(A2:Option Addr)(n2 c2:Nat)(l2:List DN)(h3:HT)(A4:Option Addr)(n4 c4:Nat)(l4:List HT)(w:World)(w0:(Lit.int .i64 a0).wf=true)(w2:NS w (fun _=>True) A2 n2 l2)(m2:n2<9223372036854775808)(w4:HS w A4 n4 l4)(m4:n4<9223372036854775808)(T:tJ w):
 Calls prog 7 #[.int .i64 a0,.agg h1.1,.slice A2 n2 c2,.agg h3.1,.slice A4 n4 c4] w fun e w'=>e=.returned (.bool true)/\Below w.heap.size w w':=
 (show bu prog 7 #[.int .i64 a0,.agg h1.1,.slice A2 n2 c2,.agg h3.1,.slice A4 n4 c4] w (fun v w'=>v=.bool true/\Below w.heap.size w w')from Cj w2 m2 a0 h1 h3 w4 T (fun w' k=>⟨rfl,k.below (Nat.le_refl _) (fun _ _ h=>h)⟩)).mono fun e w' h=>by
   obtain⟨v,rfl,rfl,hb⟩:=h;exact⟨rfl,hb⟩
set_option maxRecDepth 100000 in
theorem sd(os:Os)(started:os.Started)(H:Type)(enc:TypeId×Value->H):
 ReturnsInHanded {} checked os 7 .any (fun w args=>(Rows.orderViewsSpec.pre enc prog Tryz.f7 [] false w args/\laidMetH prog Rows.orderViewsRow.laid w)/\sizedMet enc prog Tryz.f7 (OpenSpec.ofChange Rows.orderViewsSpec) false w args)
  (Rows.orderViewsSpec.post enc prog Tryz.f7 false true false false):=by
 refine returnsInHanded_of_change_and (C:=checked) (X:=fun w _=>laidMetH prog Rows.orderViewsRow.laid w) (fun _ _ _ hh h=>h.of_heap hh) KZ started (by kernel_rfl) func7
  (ChangeSpec.witness_shaped (enc:=enc) (C:=checked) (os:=os) (X:=fun w _=>laidMetH prog Rows.orderViewsRow.laid w) false (World.laidAll prog os Rows.orderViewsRow.laid) #[.int .i64 0,.agg (Array.replicate 32 (.int .u8 0)),.slice none 0 0,.agg (Array.replicate 32 (.int .u8 0)),.slice none 0 0] 8 (World.laidAll_os _ _ _)
    (World.shaped_of_ZipB (by kernel_rfl) (by kernel_rfl)) (by kernel_rfl) (by kernel_rfl) (by kernel_rfl)
    (by rw [MakeChecks.laidMetH_plain _ _ _ (by kernel_rfl)];exact laidMet_laidAll _ (by kernel_rfl) (by kernel_rfl))) ?_
 intro W base args ds gs before Na hW _ _ hX _;have Ba:∀(j:Nat) t v,Tryz.f7.params[j]? =some t->args[j]? =some v->Value.okWide prog W .any base t v:=Na;have hW':=hW;obtain⟨p,q,hA0,hV,rfl,hfz,gB⟩:=hW;have hA:DataW.TrodAll enc prog W 0 (fun _=>true) true Tryz.f7.params.toList args.toList ds p:=hA0;rw [params7]at hA Ba;obtain⟨v0,vs0,d0,ds0,p0,q0,afZ,rfl,rfl,k0,r0⟩:=trodAll_cons hA;obtain⟨v1,vs1,d1,ds1,p1,q1,rfl,rfl,rfl,k1,r1⟩:=trodAll_cons r0;obtain⟨v2,vs2,d2,ds2,p2,q2,rfl,rfl,rfl,k2,r2⟩:=trodAll_cons r1;obtain⟨v3,vs3,d3,ds3,p3,q3,rfl,rfl,rfl,k3,r3⟩:=trodAll_cons r2;obtain⟨v4,vs4,d4,ds4,p4,q4,rfl,rfl,rfl,k4,r4⟩:=trodAll_cons r3;obtain⟨rfl,rfl,rfl⟩:=trodAll_nil r4;obtain rfl:args= #[v0,v1,v2,v3,v4]:=by cases args;simp_all
 obtain⟨rfl,rfl⟩:=trodVars_none hV;obtain⟨a0,rfl,rfl,rfl,w0⟩:=open_int underlying3 (Ba 0 3 v0 rfl rfl) k0;have o1:=Ba 1 24 v1 rfl rfl;have lt1:∀x∈p1,x.block<W.heap.size:=by obtain⟨m,hm⟩:=k1;exact DataW.trod_lt m _ _ _ hm
 obtain⟨h1,rfl⟩:=BL (t:=24) rfl o1 k1;have o2:=Ba 2 27 v2 rfl rfl;have lt2:∀x∈p2,x.block<W.heap.size:=by obtain⟨m,hm⟩:=k2;exact DataW.trod_lt m _ _ _ hm
 obtain⟨A2,n2,c2,l2,rfl,w2,m2⟩:=GM (tS:=mS) (tSs:=27) uy ⟨rfl,rfl⟩ ⟨rfl,rfl⟩ (by kernel_rfl) (by kernel_rfl) o2 k2;have o3:=Ba 3 24 v3 rfl rfl;have lt3:∀x∈p3,x.block<W.heap.size:=by obtain⟨m,hm⟩:=k3;exact DataW.trod_lt m _ _ _ hm
 obtain⟨h3,rfl⟩:=BL (t:=24) rfl o3 k3;have o4:=Ba 4 33 v4 rfl rfl;have lt4:∀x∈p4,x.block<W.heap.size:=by obtain⟨m,hm⟩:=k4;exact DataW.trod_lt m _ _ _ hm
 obtain⟨A4,n4,c4,l4,rfl,w4,m4⟩:=DB (t:=33) rfl o4 k4;have T:tJ W:=OI (Lib.laidMet.reads (show laidMet prog Rows.orderViewsRow.laid W by rw [<-MakeChecks.laidMetH_plain _ _ _ (by kernel_rfl)];exact hX) (List.mem_singleton.2 rfl));clear hA0 Na;refine(ux a0 h1 A2 n2 c2 l2 h3 A4 n4 c4 l4 W w0 w2 (Nat.lt_of_le_of_lt m2 (by decide)) w4 (Nat.lt_of_le_of_lt m4 (by decide)) T).mono fun e W' ⟨he,Xe⟩=>?_;subst he;exact⟨_,rfl,_,_,_,[],_,[],hW',trodAll_mk1 (shut_bool underlying4 _),(trodAll_cons_mk (shut_int underlying3 w0) (trodAll_cons_mk (Below.trod laidOut (by kernel_rfl) (of_decide_eq_true (by kernel_rfl)) k1 Xe lt1) (trodAll_cons_mk (Below.trod laidOut (by kernel_rfl) (of_decide_eq_true (by kernel_rfl)) k2 Xe lt2) (trodAll_cons_mk (Below.trod laidOut (by kernel_rfl) (of_decide_eq_true (by kernel_rfl)) k3 Xe lt3) (trodAll_cons_mk (Below.trod laidOut (by kernel_rfl) (of_decide_eq_true (by kernel_rfl)) k4 Xe lt4) trodAll_mk0))))),rfl,Xe.frame _,fun h=>by cases h⟩
theorem uz:Rows.OrderViewsSaid:=
 OpenClaim.holds_of_wide 7 Tryz.f7 rfl rfl rfl rfl rfl rfl rfl ⟨rfl,rfl,rfl,rfl,rfl⟩ rfl rfl rfl rfl rfl (by kernel_rfl) func7 (by kernel_rfl)
  (of_decide_eq_true (by kernel_rfl)) (by unfold Func.isWrapper;first|(rw [if_pos (by decide+kernel)];kernel_rfl)|(rw [if_neg (by decide+kernel)];exact⟨rfl,rfl⟩))
  (fun os started H enc _=>sd os started H enc)
theorem orderViews_holds:Rows.OrderViewsCardSaid:=
 Claim7.holds_tied_plain_at .later [] [.data] true Rows.orderViewsCard.stood.harness false uz (fun _ h=>by cases h) (by kernel_rfl) (fun _ h=>by cases h) orderViews_row_tie rfl ⟨rfl,rfl⟩ (by kernel_rfl) rfl
  (fun f fn hf Hf=>by
    obtain rfl:f=7:=Option.some.inj ((show prog.funcNamed "plexus/plexuslaw14.OrderViews" =some 7 by kernel_rfl).symm.trans hf) |>.symm;obtain rfl:fn=Tryz.f7:=(Option.some.inj (func7.symm.trans Hf)).symm;exact⟨by kernel_rfl,fun j t ht=>by
     rw [params7]at ht;have hm:t∈ [3,24,27,24,33]:=by simpa using Array.mem_of_getElem? ht
     have di:([3,24,27,24,33].all fun u=> !prog.wantsStandIn u)=true:=by kernel_rfl
     exact(show prog.wantsStandIn t=false by simpa using List.all_eq_true.1 di t hm)⟩)
  (by kernel_rfl)
end Go.Proofs.YtfleamccglihoaaGreatDoor
