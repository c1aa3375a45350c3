import Derived.Test.YtnboahlopghcjaaGreatDoorMV
import Derived.Test.YtnboahlopghcjaaGreatDoorMK
import Derived.Test.YtnboahlopghcjaaGreatDoorCards
import Derived.Test.YtnboahlopghcjaaGreatDoorTie
import Derived.SevenTiedAt
import Derived.OpenShut
import Derived.ShutString
import Derived.ChangeOld
namespace Go.Proofs.YtnboahlopghcjaaGreatDoor
open Go.Proofs.Tryz
open Go Go.bp Go.ChangeShapes Go.WideShapes Go.ChangeAt Go.RowKit
set_option linter.unusedVariables false
theorem r8(w:World)(T:p6 w):
 Calls prog 8 #[] w fun e w'=>e=.returned (.bool true)/\Below w.heap.size w w':=
 (show aY prog 8 #[] w (fun v w'=>v=.bool true/\Below w.heap.size w w')from Bg T (fun w' k=>⟨rfl,k.below (Nat.le_refl _) (fun _ _ h=>h)⟩)).mono fun e w' h=>by
   obtain⟨v,rfl,rfl,hb⟩:=h;exact⟨rfl,hb⟩
set_option maxRecDepth 100000 in
theorem pM(os:Os)(started:os.Started)(H:Type)(enc:TypeId×Value->H):
 ReturnsInHanded {} checked os 8 .any (fun w args=>(Rows.ghostNilSpec.pre enc prog f8 [] false w args/\laidMetH prog Rows.ghostNilRow.laid w)/\sizedMet enc prog f8 (OpenSpec.ofChange Rows.ghostNilSpec) false w args)
  (Rows.ghostNilSpec.post enc prog f8 false true false false):=by
 refine returnsInHanded_of_change_and (C:=checked) (X:=fun w _=>laidMetH prog Rows.ghostNilRow.laid w) (fun _ _ _ hh h=>h.of_heap hh) DK started (by kernel_rfl) func8
  (ChangeSpec.witness_shaped (enc:=enc) (C:=checked) (os:=os) (X:=fun w _=>laidMetH prog Rows.ghostNilRow.laid w) false (World.laidAll prog os Rows.ghostNilRow.laid) #[] 8 (World.laidAll_os _ _ _)
    (World.shaped_of_ZipB (by kernel_rfl) (by kernel_rfl)) (by kernel_rfl) (by kernel_rfl) (by kernel_rfl)
    (by rw [MakeChecks.laidMetH_plain _ _ _ (by kernel_rfl)];exact laidMet_laidAll _ (by kernel_rfl) (by kernel_rfl))) ?_
 intro W base args ds gs before FF hW _ _ hX _;have HP: ∀(j:Nat) t v,f8.params[j]? =some t->args[j]? =some v->Value.okWide prog W .any base t v:=FF;have hW':=hW;obtain⟨p,q,WX,hV,rfl,Sw,fG⟩:=hW;have hA:DataW.TrodAll enc prog W 0 (fun _=>true) true f8.params.toList args.toList ds p:=WX;rw [params8]at hA HP;obtain⟨e1,rfl,rfl⟩:=trodAll_nil hA;obtain rfl:args= #[]:=by cases args;simp_all
 obtain⟨rfl,rfl⟩:=trodVars_none hV;have T:p6 W:=GZ (Lib.laidMet.reads (show laidMet prog Rows.ghostNilRow.laid W by rw [<-MakeChecks.laidMetH_plain _ _ _ (by kernel_rfl)];exact hX) (List.mem_singleton.2 rfl));clear WX FF;refine(r8 W T).mono fun e W' ⟨he,bel⟩=>?_;subst he;exact⟨_,rfl,_,_,_,[],_,[],hW',trodAll_mk1 (shut_bool underlying4 _),trodAll_mk0,rfl,bel.frame _,fun h=>by cases h⟩
theorem r9:Rows.GhostNilSaid:=
 OpenClaim.holds_of_wide 8 f8 rfl rfl rfl rfl rfl rfl rfl ⟨rfl,rfl,rfl,rfl,rfl⟩ rfl rfl rfl rfl rfl (by kernel_rfl) func8 (by kernel_rfl)
  (of_decide_eq_true (by kernel_rfl)) (by unfold Func.isWrapper;first|(rw [if_pos (by decide+kernel)];kernel_rfl)|(rw [if_neg (by decide+kernel)];exact⟨rfl,rfl⟩))
  (fun os started H enc _=>pM os started H enc)
theorem ghostNil_holds:Rows.GhostNilCardSaid:=
 Claim7.holds_tied_plain_at .later [] [.data] true Rows.ghostNilCard.stood.harness true r9 (fun _ h=>by cases h) (by kernel_rfl) (fun _ h=>by cases h) ghostNil_row_tie rfl ⟨rfl,rfl⟩ (by kernel_rfl) rfl
  (fun f fn hf Di=>by
    obtain rfl:f=8:=Option.some.inj ((show prog.funcNamed "plexus/plexuslaw13.GhostNil" =some 8 by kernel_rfl).symm.trans hf) |>.symm;obtain rfl:fn=f8:=(Option.some.inj (func8.symm.trans Di)).symm;exact⟨by kernel_rfl,fun j t ht=>by
     rw [params8]at ht;have hm:t∈ []:=by simpa using Array.mem_of_getElem? ht
     have dw:([].all fun u=> !prog.wantsStandIn u)=true:=by kernel_rfl
     exact(show prog.wantsStandIn t=false by simpa using List.all_eq_true.1 dw t hm)⟩)
  (by kernel_rfl)
end Go.Proofs.YtnboahlopghcjaaGreatDoor
