import Derived.Test.YtfleamccglihoaaGreatDoorMV
import Derived.Test.YtfleamccglihoaaGreatDoorMK
import Derived.Test.YtfleamccglihoaaGreatDoorCards
import Derived.Test.YtfleamccglihoaaGreatDoorTie
import Derived.SevenTiedAt
import Derived.OpenShut
import Derived.ShutString
import Derived.ChangeOld
open Go.IntKind (i64 u64)
namespace Go.Proofs.YtfleamccglihoaaGreatDoor
open Go.Proofs.Tryz
open Go Go.bE Go.ChangeShapes Go.WideShapes Go.ChangeAt Go.RowKit
set_option linter.unusedVariables false
theorem tJ(w:World)(T:p0 w):
 Calls prog 4 #[] w fun e w'=>e=.returned (.bool true)/\Below w.heap.size w w':=
 (show bf prog 4 #[] w (fun v w'=>v=.bool true/\Below w.heap.size w w')from DJ T (fun w' k=>⟨rfl,k.below (Nat.le_refl _) (fun _ _ h=>h)⟩)).mono fun e w' h=>by
   obtain⟨v,rfl,rfl,hb⟩:=h;exact⟨rfl,hb⟩
set_option maxRecDepth 100000 in
theorem q9(os:Os)(started:os.Started)(H:Type)(enc:TypeId×Value->H):
 ReturnsInHanded {} checked os 4 .any (fun w args=>(Rows.rulesNilSpec.pre enc prog Tryz.f4 [] false w args/\laidMetH prog Rows.rulesNilRow.laid w)/\sizedMet enc prog Tryz.f4 (OpenSpec.ofChange Rows.rulesNilSpec) false w args)
  (Rows.rulesNilSpec.post enc prog Tryz.f4 false true false false):=by
 refine returnsInHanded_of_change_and (C:=checked) (X:=fun w _=>laidMetH prog Rows.rulesNilRow.laid w) (fun _ _ _ hh h=>h.of_heap hh) Gq started (by kernel_rfl) func4
  (ChangeSpec.witness_shaped (enc:=enc) (C:=checked) (os:=os) (X:=fun w _=>laidMetH prog Rows.rulesNilRow.laid w) false (World.laidAll prog os Rows.rulesNilRow.laid) #[] 8 (World.laidAll_os _ _ _)
    (World.shaped_of_ZipB (by kernel_rfl) (by kernel_rfl)) (by kernel_rfl) (by kernel_rfl) (by kernel_rfl)
    (by rw [MakeChecks.laidMetH_plain _ _ _ (by kernel_rfl)];exact laidMet_laidAll _ (by kernel_rfl) (by kernel_rfl))) ?_
 intro W base args ds gs before Iu hW _ _ hX _;have Kq:∀(j:Nat) t v,Tryz.f4.params[j]? =some t->args[j]? =some v->Value.okWide prog W .any base t v:=Iu;have hW':=hW;obtain⟨p,q,ZH,hV,rfl,Vq,gJ⟩:=hW;have hA:DataW.TrodAll enc prog W 0 (fun _=>true) true Tryz.f4.params.toList args.toList ds p:=ZH;rw [params4]at hA Kq;obtain⟨e1,rfl,rfl⟩:=trodAll_nil hA;obtain rfl:args= #[]:=by cases args;simp_all
 obtain⟨rfl,rfl⟩:=trodVars_none hV;have T:p0 W:=JA (Lib.laidMet.reads (show laidMet prog Rows.rulesNilRow.laid W by rw [<-MakeChecks.laidMetH_plain _ _ _ (by kernel_rfl)];exact hX) (List.mem_singleton.2 rfl));clear ZH Iu;refine(tJ W T).mono fun e W' ⟨he,bel⟩=>?_;subst he;exact⟨_,rfl,_,_,_,[],_,[],hW',trodAll_mk1 (shut_bool underlying4 _),trodAll_mk0,rfl,bel.frame _,fun h=>by cases h⟩
theorem tK:Rows.RulesNilSaid:=
 OpenClaim.holds_of_wide 4 Tryz.f4 rfl rfl rfl rfl rfl rfl rfl ⟨rfl,rfl,rfl,rfl,rfl⟩ rfl rfl rfl rfl rfl (by kernel_rfl) func4 (by kernel_rfl)
  (of_decide_eq_true (by kernel_rfl)) (by unfold Func.isWrapper;first|(rw [if_pos (by decide+kernel)];kernel_rfl)|(rw [if_neg (by decide+kernel)];exact⟨rfl,rfl⟩))
  (fun os started H enc _=>q9 os started H enc)
theorem rulesNil_holds:Rows.RulesNilCardSaid:=
 Claim7.holds_tied_plain_at .later [] [.data] true Rows.rulesNilCard.stood.harness false tK (fun _ h=>by cases h) (by kernel_rfl) (fun _ h=>by cases h) rulesNil_row_tie rfl ⟨rfl,rfl⟩ (by kernel_rfl) rfl
  (fun f fn hf FU=>by
    obtain rfl:f=4:=Option.some.inj ((show prog.funcNamed "plexus/plexuslaw19.RulesNil" =some 4 by kernel_rfl).symm.trans hf) |>.symm;obtain rfl:fn=Tryz.f4:=(Option.some.inj (func4.symm.trans FU)).symm;exact⟨by kernel_rfl,fun j t ht=>by
     rw [params4]at ht;have hm:t∈ []:=by simpa using Array.mem_of_getElem? ht
     have cV:([].all fun u=> !prog.wantsStandIn u)=true:=by kernel_rfl
     exact(show prog.wantsStandIn t=false by simpa using List.all_eq_true.1 cV t hm)⟩)
  (by kernel_rfl)
end Go.Proofs.YtfleamccglihoaaGreatDoor
