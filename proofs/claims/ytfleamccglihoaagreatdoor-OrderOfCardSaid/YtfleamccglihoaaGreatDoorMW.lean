import Derived.Test.YtfleamccglihoaaGreatDoorMV
import Derived.Test.YtfleamccglihoaaGreatDoorMK
import Derived.Test.YtfleamccglihoaaGreatDoorCards
import Derived.Test.YtfleamccglihoaaGreatDoorTie
import Derived.SevenTiedAt
import Derived.OpenShut
import Derived.ShutString
import Derived.ChangeOld
open Go.IntKind (i64 u64)
namespace Go.Proofs.YtfleamccglihoaaGreatDoor
open Go.Proofs.Tryz
open Go Go.bW Go.ChangeShapes Go.WideShapes Go.ChangeAt Go.RowKit
set_option linter.unusedVariables false
theorem yF:prog.underlying mR=some (.struct #[⟨"ID",ag,0,false,"","",0⟩,⟨"Parents",ay,32,false,"","",32⟩]):=by kernel_rfl
theorem yE(a0:Int)(h1:HT)(A2:Option Addr)(n2 c2:Nat)(l2:List DN)(h3:HT)(w:World)(w0:(Lit.int .i64 a0).wf=true)(w2:NS w (fun _=>True) A2 n2 l2)(m2:n2<9223372036854775808)(T:uA w):
 Calls prog 6 #[.int .i64 a0,.agg h1.1,.slice A2 n2 c2,.agg h3.1] w fun e w'=>e=.returned (.bool true)/\Below w.heap.size w w':=
 (show bC prog 6 #[.int .i64 a0,.agg h1.1,.slice A2 n2 c2,.agg h3.1] w (fun v w'=>v=.bool true/\Below w.heap.size w w')from K8 w2 m2 a0 h1 h3 T (fun w' k=>⟨rfl,k.below (Nat.le_refl _) (fun _ _ h=>h)⟩)).mono fun e w' h=>by
   obtain⟨v,rfl,rfl,hb⟩:=h;exact⟨rfl,hb⟩
set_option maxRecDepth 100000 in
theorem vx(os:Os)(started:os.Started)(H:Type)(enc:TypeId×Value->H):
 ReturnsInHanded {} checked os 6 .any (fun w args=>(Rows.orderOfSpec.pre enc prog Tryz.f6 [] false w args/\laidMetH prog Rows.orderOfRow.laid w)/\sizedMet enc prog Tryz.f6 (OpenSpec.ofChange Rows.orderOfSpec) false w args)
  (Rows.orderOfSpec.post enc prog Tryz.f6 false true false false):=by
 refine returnsInHanded_of_change_and (C:=checked) (X:=fun w _=>laidMetH prog Rows.orderOfRow.laid w) (fun _ _ _ hh h=>h.of_heap hh) K2 started (by kernel_rfl) func6
  (ChangeSpec.witness_shaped (enc:=enc) (C:=checked) (os:=os) (X:=fun w _=>laidMetH prog Rows.orderOfRow.laid w) false (World.laidAll prog os Rows.orderOfRow.laid) #[.int .i64 0,.agg (Array.replicate 32 (.int .u8 0)),.slice none 0 0,.agg (Array.replicate 32 (.int .u8 0))] 8 (World.laidAll_os _ _ _)
    (World.shaped_of_ZipB (by kernel_rfl) (by kernel_rfl)) (by kernel_rfl) (by kernel_rfl) (by kernel_rfl)
    (by rw [MakeChecks.laidMetH_plain _ _ _ (by kernel_rfl)];exact laidMet_laidAll _ (by kernel_rfl) (by kernel_rfl))) ?_
 intro W base args ds gs before Np hW _ _ hX _;have CH:∀(j:Nat) t v,Tryz.f6.params[j]? =some t->args[j]? =some v->Value.okWide prog W .any base t v:=Np;have hW':=hW;obtain⟨p,q,hA0,hV,rfl,hfz,gu⟩:=hW;have hA:DataW.TrodAll enc prog W 0 (fun _=>true) true Tryz.f6.params.toList args.toList ds p:=hA0;rw [params6]at hA CH;obtain⟨v0,vs0,d0,ds0,p0,q0,agj,rfl,rfl,k0,r0⟩:=trodAll_cons hA;obtain⟨v1,vs1,d1,ds1,p1,q1,rfl,rfl,rfl,k1,r1⟩:=trodAll_cons r0;obtain⟨v2,vs2,d2,ds2,p2,q2,rfl,rfl,rfl,k2,r2⟩:=trodAll_cons r1;obtain⟨v3,vs3,d3,ds3,p3,q3,rfl,rfl,rfl,k3,r3⟩:=trodAll_cons r2;obtain⟨rfl,rfl,rfl⟩:=trodAll_nil r3;obtain rfl:args= #[v0,v1,v2,v3]:=by cases args;simp_all
 obtain⟨rfl,rfl⟩:=trodVars_none hV;obtain⟨a0,rfl,rfl,rfl,w0⟩:=open_int underlying3 (CH 0 3 v0 rfl rfl) k0;have o1:=CH 1 24 v1 rfl rfl;have lt1:∀x∈p1,x.block<W.heap.size:=by obtain⟨m,hm⟩:=k1;exact DataW.trod_lt m _ _ _ hm
 obtain⟨h1,rfl⟩:=BG (t:=24) rfl o1 k1;have o2:=CH 2 27 v2 rfl rfl;have lt2:∀x∈p2,x.block<W.heap.size:=by obtain⟨m,hm⟩:=k2;exact DataW.trod_lt m _ _ _ hm
 obtain⟨A2,n2,c2,l2,rfl,w2,m2⟩:=GM (tS:=mR) (tSs:=27) yF ⟨rfl,rfl⟩ ⟨rfl,rfl⟩ (by kernel_rfl) (by kernel_rfl) o2 k2;have o3:=CH 3 24 v3 rfl rfl;have lt3:∀x∈p3,x.block<W.heap.size:=by obtain⟨m,hm⟩:=k3;exact DataW.trod_lt m _ _ _ hm
 obtain⟨h3,rfl⟩:=BG (t:=24) rfl o3 k3;have T:uA W:=OX (Lib.laidMet.reads (show laidMet prog Rows.orderOfRow.laid W by rw [<-MakeChecks.laidMetH_plain _ _ _ (by kernel_rfl)];exact hX) (List.mem_singleton.2 rfl));clear hA0 Np;refine(yE a0 h1 A2 n2 c2 l2 h3 W w0 w2 (Nat.lt_of_le_of_lt m2 (by decide)) T).mono fun e W' ⟨he,Zh⟩=>?_;subst he;exact⟨_,rfl,_,_,_,[],_,[],hW',trodAll_mk1 (shut_bool underlying4 _),(trodAll_cons_mk (shut_int underlying3 w0) (trodAll_cons_mk (Below.trod laidOut (by kernel_rfl) (of_decide_eq_true (by kernel_rfl)) k1 Zh lt1) (trodAll_cons_mk (Below.trod laidOut (by kernel_rfl) (of_decide_eq_true (by kernel_rfl)) k2 Zh lt2) (trodAll_cons_mk (Below.trod laidOut (by kernel_rfl) (of_decide_eq_true (by kernel_rfl)) k3 Zh lt3) trodAll_mk0)))),rfl,Zh.frame _,fun h=>by cases h⟩
theorem yG:Rows.OrderOfSaid:=
 OpenClaim.holds_of_wide 6 Tryz.f6 rfl rfl rfl rfl rfl rfl rfl ⟨rfl,rfl,rfl,rfl,rfl⟩ rfl rfl rfl rfl rfl (by kernel_rfl) func6 (by kernel_rfl)
  (of_decide_eq_true (by kernel_rfl)) (by unfold Func.isWrapper;first|(rw [if_pos (by decide+kernel)];kernel_rfl)|(rw [if_neg (by decide+kernel)];exact⟨rfl,rfl⟩))
  (fun os started H enc _=>vx os started H enc)
theorem orderOf_holds:Rows.OrderOfCardSaid:=
 Claim7.holds_tied_plain_at .later [] [.data] true Rows.orderOfCard.stood.harness false yG (fun _ h=>by cases h) (by kernel_rfl) (fun _ h=>by cases h) orderOf_row_tie rfl ⟨rfl,rfl⟩ (by kernel_rfl) rfl
  (fun f fn hf Ha=>by
    obtain rfl:f=6:=Option.some.inj ((show prog.funcNamed "plexus/plexuslaw14.OrderOf" =some 6 by kernel_rfl).symm.trans hf) |>.symm;obtain rfl:fn=Tryz.f6:=(Option.some.inj (func6.symm.trans Ha)).symm;exact⟨by kernel_rfl,fun j t ht=>by
     rw [params6]at ht;have hm:t∈ [3,24,27,24]:=by simpa using Array.mem_of_getElem? ht
     have dt:([3,24,27,24].all fun u=> !prog.wantsStandIn u)=true:=by kernel_rfl
     exact(show prog.wantsStandIn t=false by simpa using List.all_eq_true.1 dt t hm)⟩)
  (by kernel_rfl)
end Go.Proofs.YtfleamccglihoaaGreatDoor
