import Derived.Test.YtfleamccglihoaaGreatDoorMV
import Derived.Test.YtfleamccglihoaaGreatDoorCards
import Derived.Test.YtfleamccglihoaaGreatDoorTie
import Derived.SevenTiedAt
import Derived.OpenShut
import Derived.ShutString
import Derived.ChangeOld
open Go.IntKind (i64 u64)
namespace Go.Proofs.YtfleamccglihoaaGreatDoor
open Go.Proofs.Tryz
open Go Go.cF Go.ChangeShapes Go.WideShapes Go.ChangeAt Go.RowKit
set_option linter.unusedVariables false
theorem tK:prog.underlying oA=some (.struct #[⟨"ID",ai,0,false,"","",0⟩,⟨"Parents",aH,32,false,"","",32⟩]):=by kernel_rfl
theorem tJ(p0:PP)(h1:HT)(A2:Option Addr)(n2 c2:Nat)(l2:List DN)(h3:HT)(w:World)(w2:NS w (λ_=>True) A2 n2 l2)(m2:n2<9223372036854775808)(T:tm w):
 Calls prog 3 #[.agg p0.cells,.agg h1.1,.slice A2 n2 c2,.agg h3.1] w λe w'=>e=.returned (.bool true)/\Below w.heap.size w w':=
 (show bJ prog 3 #[.agg p0.cells,.agg h1.1,.slice A2 n2 c2,.agg h3.1] w (λv w'=>v=.bool true/\Below w.heap.size w w')from Ap w2 m2 p0 h1 h3 T (λw' k=>⟨rfl,k.below (Nat.le_refl _) (λ_ _ h=>h)⟩)).mono λe w' h=>by
   obtain⟨v,rfl,rfl,hb⟩:=h;exact⟨rfl,hb⟩
set_option maxRecDepth 100000 in
theorem sj(os:Os)(started:os.Started)(H:Type)(enc:TypeId×Value->H):
 ReturnsInHanded {} checked os 3 .any (λw args=>(Rows.rulesParentsSpec.pre enc prog Tryz.f3 [] false w args/\laidMetH prog Rows.rulesParentsRow.laid w)/\sizedMet enc prog Tryz.f3 (OpenSpec.ofChange Rows.rulesParentsSpec) false w args)
  (Rows.rulesParentsSpec.post enc prog Tryz.f3 false true false false):=by
 refine returnsInHanded_of_change_and (C:=checked) (X:=λw _=>laidMetH prog Rows.rulesParentsRow.laid w) (λ_ _ _ hh h=>h.of_heap hh) MW started (by kernel_rfl) func3
  (ChangeSpec.witness_shaped (enc:=enc) (C:=checked) (os:=os) (X:=λw _=>laidMetH prog Rows.rulesParentsRow.laid w) false (World.laidAll prog os Rows.rulesParentsRow.laid) #[.agg #[.int .i64 0,.int .i64 0,.int .i64 0,.int .i64 0,.int .i64 0,.int .i64 0,.int .u64 0,.int .i64 0,.int .i64 0,.int .u8 0,.int .u8 0,.int .u8 0,.int .u8 0,.int .u8 0,.int .u8 0,.int .u8 0,.int .u8 0,.int .u8 0,.int .u8 0,.int .u8 0,.int .u8 0,.int .u8 0,.int .u8 0,.int .u8 0,.int .u8 0,.int .u8 0,.int .u8 0,.int .u8 0,.int .u8 0,.int .u8 0,.int .u8 0,.int .u8 0,.int .u8 0,.int .u8 0,.int .u8 0,.int .u8 0,.int .u8 0,.int .u8 0,.int .u8 0,.int .u8 0,.int .u8 0],.agg (Array.replicate 32 (.int .u8 0)),.slice none 0 0,.agg (Array.replicate 32 (.int .u8 0))] 8 (World.laidAll_os _ _ _)
    (World.shaped_of_ZipB (by kernel_rfl) (by kernel_rfl)) (by kernel_rfl) (by kernel_rfl) (by kernel_rfl)
    (by rw [MakeChecks.laidMetH_plain _ _ _ (by kernel_rfl)];exact laidMet_laidAll _ (by kernel_rfl) (by kernel_rfl))) ?_
 intro W base args ds gs before PE hW _ _ hX _;have Eu:∀(j:Nat) t v,Tryz.f3.params[j]? =some t->args[j]? =some v->Value.okWide prog W .any base t v:=PE;have hW':=hW;obtain⟨p,q,hA0,hV,rfl,hfz,fE⟩:=hW;have hA:DataW.TrodAll enc prog W 0 (λ_=>true) true Tryz.f3.params.toList args.toList ds p:=hA0;rw [params3]at hA Eu;obtain⟨v0,vs0,d0,ds0,p0,q0,ai2,rfl,rfl,k0,r0⟩:=trodAll_cons hA;obtain⟨v1,vs1,d1,ds1,p1,q1,rfl,rfl,rfl,k1,r1⟩:=trodAll_cons r0;obtain⟨v2,vs2,d2,ds2,p2,q2,rfl,rfl,rfl,k2,r2⟩:=trodAll_cons r1;obtain⟨v3,vs3,d3,ds3,p3,q3,rfl,rfl,rfl,k3,r3⟩:=trodAll_cons r2;obtain⟨rfl,rfl,rfl⟩:=trodAll_nil r3;obtain rfl:args= #[v0,v1,v2,v3]:=by cases args;simp_all
 obtain⟨rfl,rfl⟩:=trodVars_none hV;have o0:=Eu 0 26 v0 rfl rfl;have lt0:∀x∈p0,x.block<W.heap.size:=by obtain⟨m,hm⟩:=k0;exact DataW.trod_lt m _ _ _ hm
 obtain⟨p0,rfl⟩:=Fw (t:=26) rfl o0 k0;have o1:=Eu 1 24 v1 rfl rfl;have lt1:∀x∈p1,x.block<W.heap.size:=by obtain⟨m,hm⟩:=k1;exact DataW.trod_lt m _ _ _ hm
 obtain⟨h1,rfl⟩:=Dg (t:=24) rfl o1 k1;have o2:=Eu 2 27 v2 rfl rfl;have lt2:∀x∈p2,x.block<W.heap.size:=by obtain⟨m,hm⟩:=k2;exact DataW.trod_lt m _ _ _ hm
 obtain⟨A2,n2,c2,l2,rfl,w2,m2⟩:=IT (tS:=oA) (tSs:=27) tK ⟨rfl,rfl⟩ ⟨rfl,rfl⟩ (by kernel_rfl) (by kernel_rfl) o2 k2;have o3:=Eu 3 24 v3 rfl rfl;have lt3:∀x∈p3,x.block<W.heap.size:=by obtain⟨m,hm⟩:=k3;exact DataW.trod_lt m _ _ _ hm
 obtain⟨h3,rfl⟩:=Dg (t:=24) rfl o3 k3;have T:tm W:=Q2 (Lib.laidMet.reads (show laidMet prog Rows.rulesParentsRow.laid W by rw [<-MakeChecks.laidMetH_plain _ _ _ (by kernel_rfl)];exact hX) (List.mem_singleton.2 rfl));clear hA0 PE;refine(tJ p0 h1 A2 n2 c2 l2 h3 W w2 (Nat.lt_of_le_of_lt m2 (by decide)) T).mono λe W' ⟨he,bel⟩=>?_;subst he;exact⟨_,rfl,_,_,_,[],_,[],hW',trodAll_mk1 (shut_bool underlying4 _),(trodAll_cons_mk (Below.trod laidOut (by kernel_rfl) (of_decide_eq_true (by kernel_rfl)) k0 bel lt0) (trodAll_cons_mk (Below.trod laidOut (by kernel_rfl) (of_decide_eq_true (by kernel_rfl)) k1 bel lt1) (trodAll_cons_mk (Below.trod laidOut (by kernel_rfl) (of_decide_eq_true (by kernel_rfl)) k2 bel lt2) (trodAll_cons_mk (Below.trod laidOut (by kernel_rfl) (of_decide_eq_true (by kernel_rfl)) k3 bel lt3) trodAll_mk0)))),rfl,bel.frame _,λh=>by cases h⟩
theorem tL:Rows.RulesParentsSaid:=
 OpenClaim.holds_of_wide 3 Tryz.f3 rfl rfl rfl rfl rfl rfl rfl ⟨rfl,rfl,rfl,rfl,rfl⟩ rfl rfl rfl rfl rfl (by kernel_rfl) func3 (by kernel_rfl)
  (of_decide_eq_true (by kernel_rfl)) (by unfold Func.isWrapper;first|(rw [if_pos (by decide+kernel)];kernel_rfl)|(rw [if_neg (by decide+kernel)];exact⟨rfl,rfl⟩))
  (λos started H enc _=>sj os started H enc)
theorem rulesParents_holds:Rows.RulesParentsCardSaid:=
 Claim7.holds_tied_plain_at .later [] [.data] true Rows.rulesParentsCard.stood.harness false tL (λ_ h=>by cases h) (by kernel_rfl) (λ_ h=>by cases h) rulesParents_row_tie rfl ⟨rfl,rfl⟩ (by kernel_rfl) rfl
  (λf fn hf Mt=>by
    obtain rfl:f=3:=Option.some.inj ((show prog.funcNamed "plexus/plexuslaw19.RulesParents" =some 3 by kernel_rfl).symm.trans hf) |>.symm;obtain rfl:fn=Tryz.f3:=(Option.some.inj (func3.symm.trans Mt)).symm;exact⟨by kernel_rfl,λj t ht=>by
     rw [params3]at ht;have hm:t∈ [26,24,27,24]:=by simpa using Array.mem_of_getElem? ht
     have dr:([26,24,27,24].all λu=> !prog.wantsStandIn u)=true:=by kernel_rfl
     exact(show prog.wantsStandIn t=false by simpa using List.all_eq_true.1 dr t hm)⟩)
  (by kernel_rfl)
end Go.Proofs.YtfleamccglihoaaGreatDoor
