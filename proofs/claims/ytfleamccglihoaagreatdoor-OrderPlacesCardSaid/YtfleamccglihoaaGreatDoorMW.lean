import Derived.Test.YtfleamccglihoaaGreatDoorMV
import Derived.Test.YtfleamccglihoaaGreatDoorMK
import Derived.Test.YtfleamccglihoaaGreatDoorCards
import Derived.Test.YtfleamccglihoaaGreatDoorTie
import Derived.SevenTiedAt
import Derived.OpenShut
import Derived.ShutString
import Derived.ChangeOld
open Go.IntKind (i64 u64)
namespace Go.Proofs.YtfleamccglihoaaGreatDoor
open Go.Proofs.Tryz
open Go Go.bV Go.ChangeShapes Go.WideShapes Go.ChangeAt Go.RowKit
set_option linter.unusedVariables false
theorem tj:prog.underlying nf=some (.struct #[⟨"ID",ag,0,false,"","",0⟩,⟨"Parents",ay,32,false,"","",32⟩]):=by kernel_rfl
theorem ti(a0:Int)(h1:HT)(A2:Option Addr)(n2 c2:Nat)(l2:List DN)(w:World)(w0:(Lit.int .i64 a0).wf=true)(w2:NS w (fun _=>True) A2 n2 l2)(m2:n2<9223372036854775808)(T:uK w):
 Calls prog 8 #[.int .i64 a0,.agg h1.1,.slice A2 n2 c2] w fun e w'=>e=.returned (.bool true)/\Below w.heap.size w w':=
 (show bz prog 8 #[.int .i64 a0,.agg h1.1,.slice A2 n2 c2] w (fun v w'=>v=.bool true/\Below w.heap.size w w')from Ar w2 m2 a0 h1 T (fun w' k=>⟨rfl,k.below (Nat.le_refl _) (fun _ _ h=>h)⟩)).mono fun e w' h=>by
   obtain⟨v,rfl,rfl,hb⟩:=h;exact⟨rfl,hb⟩
set_option maxRecDepth 100000 in
theorem ru(os:Os)(started:os.Started)(H:Type)(enc:TypeId×Value->H):
 ReturnsInHanded {} checked os 8 .any (fun w args=>(Rows.orderPlacesSpec.pre enc prog f8 [] false w args/\laidMetH prog Rows.orderPlacesRow.laid w)/\sizedMet enc prog f8 (OpenSpec.ofChange Rows.orderPlacesSpec) false w args)
  (Rows.orderPlacesSpec.post enc prog f8 false true false false):=by
 refine returnsInHanded_of_change_and (C:=checked) (X:=fun w _=>laidMetH prog Rows.orderPlacesRow.laid w) (fun _ _ _ hh h=>h.of_heap hh) K5 started (by kernel_rfl) func8
  (ChangeSpec.witness_shaped (enc:=enc) (C:=checked) (os:=os) (X:=fun w _=>laidMetH prog Rows.orderPlacesRow.laid w) false (World.laidAll prog os Rows.orderPlacesRow.laid) #[.int .i64 0,.agg (Array.replicate 32 (.int .u8 0)),.slice none 0 0] 8 (World.laidAll_os _ _ _)
    (World.shaped_of_ZipB (by kernel_rfl) (by kernel_rfl)) (by kernel_rfl) (by kernel_rfl) (by kernel_rfl)
    (by rw [MakeChecks.laidMetH_plain _ _ _ (by kernel_rfl)];exact laidMet_laidAll _ (by kernel_rfl) (by kernel_rfl))) ?_
 intro W base args ds gs before Nx hW _ _ hX _;have Gi:∀(j:Nat) t v,f8.params[j]? =some t->args[j]? =some v->Value.okWide prog W .any base t v:=Nx;have hW':=hW;obtain⟨p,q,hA0,hV,rfl,hfz,ft⟩:=hW;have hA:DataW.TrodAll enc prog W 0 (fun _=>true) true f8.params.toList args.toList ds p:=hA0;rw [params8]at hA Gi;obtain⟨v0,vs0,d0,ds0,p0,q0,agh,rfl,rfl,k0,r0⟩:=trodAll_cons hA;obtain⟨v1,vs1,d1,ds1,p1,q1,rfl,rfl,rfl,k1,r1⟩:=trodAll_cons r0;obtain⟨v2,vs2,d2,ds2,p2,q2,rfl,rfl,rfl,k2,r2⟩:=trodAll_cons r1;obtain⟨rfl,rfl,rfl⟩:=trodAll_nil r2;obtain rfl:args= #[v0,v1,v2]:=by cases args;simp_all
 obtain⟨rfl,rfl⟩:=trodVars_none hV;obtain⟨a0,rfl,rfl,rfl,w0⟩:=open_int underlying3 (Gi 0 3 v0 rfl rfl) k0;have o1:=Gi 1 24 v1 rfl rfl;have lt1:∀x∈p1,x.block<W.heap.size:=by obtain⟨m,hm⟩:=k1;exact DataW.trod_lt m _ _ _ hm
 obtain⟨h1,rfl⟩:=JV (t:=24) rfl o1 k1;have o2:=Gi 2 27 v2 rfl rfl;have lt2:∀x∈p2,x.block<W.heap.size:=by obtain⟨m,hm⟩:=k2;exact DataW.trod_lt m _ _ _ hm
 obtain⟨A2,n2,c2,l2,rfl,w2,m2⟩:=GR (tS:=nf) (tSs:=27) tj ⟨rfl,rfl⟩ ⟨rfl,rfl⟩ (by kernel_rfl) (by kernel_rfl) o2 k2;have T:uK W:=O1 (Lib.laidMet.reads (show laidMet prog Rows.orderPlacesRow.laid W by rw [<-MakeChecks.laidMetH_plain _ _ _ (by kernel_rfl)];exact hX) (List.mem_singleton.2 rfl));clear hA0 Nx;refine(ti a0 h1 A2 n2 c2 l2 W w0 w2 (Nat.lt_of_le_of_lt m2 (by decide)) T).mono fun e W' ⟨he,bel⟩=>?_;subst he;exact⟨_,rfl,_,_,_,[],_,[],hW',trodAll_mk1 (shut_bool underlying4 _),(trodAll_cons_mk (shut_int underlying3 w0) (trodAll_cons_mk (Below.trod laidOut (by kernel_rfl) (of_decide_eq_true (by kernel_rfl)) k1 bel lt1) (trodAll_cons_mk (Below.trod laidOut (by kernel_rfl) (of_decide_eq_true (by kernel_rfl)) k2 bel lt2) trodAll_mk0))),rfl,bel.frame _,fun h=>by cases h⟩
theorem tk:Rows.OrderPlacesSaid:=
 OpenClaim.holds_of_wide 8 f8 rfl rfl rfl rfl rfl rfl rfl ⟨rfl,rfl,rfl,rfl,rfl⟩ rfl rfl rfl rfl rfl (by kernel_rfl) func8 (by kernel_rfl)
  (of_decide_eq_true (by kernel_rfl)) (by unfold Func.isWrapper;first|(rw [if_pos (by decide+kernel)];kernel_rfl)|(rw [if_neg (by decide+kernel)];exact⟨rfl,rfl⟩))
  (fun os started H enc _=>ru os started H enc)
theorem orderPlaces_holds:Rows.OrderPlacesCardSaid:=
 Claim7.holds_tied_plain_at .later [] [.data] true Rows.orderPlacesCard.stood.harness false tk (fun _ h=>by cases h) (by kernel_rfl) (fun _ h=>by cases h) orderPlaces_row_tie rfl ⟨rfl,rfl⟩ (by kernel_rfl) rfl
  (fun f fn hf Hf=>by
    obtain rfl:f=8:=Option.some.inj ((show prog.funcNamed "plexus/plexuslaw14.OrderPlaces" =some 8 by kernel_rfl).symm.trans hf) |>.symm;obtain rfl:fn=f8:=(Option.some.inj (func8.symm.trans Hf)).symm;exact⟨by kernel_rfl,fun j t ht=>by
     rw [params8]at ht;have hm:t∈ [3,24,27]:=by simpa using Array.mem_of_getElem? ht
     have dm:([3,24,27].all fun u=> !prog.wantsStandIn u)=true:=by kernel_rfl
     exact(show prog.wantsStandIn t=false by simpa using List.all_eq_true.1 dm t hm)⟩)
  (by kernel_rfl)
end Go.Proofs.YtfleamccglihoaaGreatDoor
