import Derived.Test.YtfleamccglihoaaGreatDoorMV
import Derived.Test.YtfleamccglihoaaGreatDoorCards
import Derived.Test.YtfleamccglihoaaGreatDoorTie
import Derived.SevenTiedAt
import Derived.OpenShut
import Derived.ShutString
import Derived.ChangeOld
open Go.IntKind (i64 u64)
namespace Go.Proofs.YtfleamccglihoaaGreatDoor
open Go.Proofs.Tryz
open Go Go.b0 Go.ChangeShapes Go.WideShapes Go.ChangeAt Go.RowKit
set_option linter.unusedVariables false
theorem r8:prog.underlying mY=some (.struct #[⟨"ID",al,0,false,"","",0⟩,⟨"Parents",aF,32,false,"","",32⟩]):=by kernel_rfl
theorem r6(p0:PP)(h1:HT)(A2:Option Addr)(n2 c2:Nat)(l2:List DN)(A3:Option Addr)(n3 c3:Nat)(l3:List HT)(w:World)(w2:NS w (fun _=>True) A2 n2 l2)(m2:n2<9223372036854775808)(w3:HS w A3 n3 l3)(m3:n3<9223372036854775808)(T:sS w):
 Calls prog 9 #[.agg p0.cells,.agg h1.1,.slice A2 n2 c2,.slice A3 n3 c3] w fun e w'=>e=.returned (.bool true)/\Below w.heap.size w w':=
 (show bG prog 9 #[.agg p0.cells,.agg h1.1,.slice A2 n2 c2,.slice A3 n3 c3] w (fun v w'=>v=.bool true/\Below w.heap.size w w')from y7 w2 m2 p0 h1 w3 T (fun w' k=>⟨rfl,k.below (Nat.le_refl _) (fun _ _ h=>h)⟩)).mono fun e w' h=>by
   obtain⟨v,rfl,rfl,hb⟩:=h;exact⟨rfl,hb⟩
set_option maxRecDepth 100000 in
theorem qK(os:Os)(started:os.Started)(H:Type)(enc:TypeId×Value->H):
 ReturnsInHanded {} checked os 9 .any (fun w args=>(Rows.rulesHeadersSpec.pre enc prog f9 [] false w args/\laidMetH prog Rows.rulesHeadersRow.laid w)/\sizedMet enc prog f9 (OpenSpec.ofChange Rows.rulesHeadersSpec) false w args)
  (Rows.rulesHeadersSpec.post enc prog f9 false true false false):=by
 refine returnsInHanded_of_change_and (C:=checked) (X:=fun w _=>laidMetH prog Rows.rulesHeadersRow.laid w) (fun _ _ _ hh h=>h.of_heap hh) KK started (by kernel_rfl) func9
  (ChangeSpec.witness_shaped (enc:=enc) (C:=checked) (os:=os) (X:=fun w _=>laidMetH prog Rows.rulesHeadersRow.laid w) false (World.laidAll prog os Rows.rulesHeadersRow.laid) #[.agg #[.int .i64 0,.int .i64 0,.int .i64 0,.int .i64 0,.int .i64 0,.int .i64 0,.int .u64 0,.int .i64 0,.int .i64 0,.int .u8 0,.int .u8 0,.int .u8 0,.int .u8 0,.int .u8 0,.int .u8 0,.int .u8 0,.int .u8 0,.int .u8 0,.int .u8 0,.int .u8 0,.int .u8 0,.int .u8 0,.int .u8 0,.int .u8 0,.int .u8 0,.int .u8 0,.int .u8 0,.int .u8 0,.int .u8 0,.int .u8 0,.int .u8 0,.int .u8 0,.int .u8 0,.int .u8 0,.int .u8 0,.int .u8 0,.int .u8 0,.int .u8 0,.int .u8 0,.int .u8 0,.int .u8 0],.agg (Array.replicate 32 (.int .u8 0)),.slice none 0 0,.slice none 0 0] 8 (World.laidAll_os _ _ _)
    (World.shaped_of_ZipB (by kernel_rfl) (by kernel_rfl)) (by kernel_rfl) (by kernel_rfl) (by kernel_rfl)
    (by rw [MakeChecks.laidMetH_plain _ _ _ (by kernel_rfl)];exact laidMet_laidAll _ (by kernel_rfl) (by kernel_rfl))) ?_
 intro W base args ds gs before Nb hW _ _ hX _;have CN:∀(j:Nat) t v,f9.params[j]? =some t->args[j]? =some v->Value.okWide prog W .any base t v:=Nb;have hW':=hW;obtain⟨p,q,hA0,hV,rfl,hfz,gQ⟩:=hW;have hA:DataW.TrodAll enc prog W 0 (fun _=>true) true f9.params.toList args.toList ds p:=hA0;rw [params9]at hA CN;obtain⟨v0,vs0,d0,ds0,p0,q0,afT,rfl,rfl,k0,r0⟩:=trodAll_cons hA;obtain⟨v1,vs1,d1,ds1,p1,q1,rfl,rfl,rfl,k1,r1⟩:=trodAll_cons r0;obtain⟨v2,vs2,d2,ds2,p2,q2,rfl,rfl,rfl,k2,r2⟩:=trodAll_cons r1;obtain⟨v3,vs3,d3,ds3,p3,q3,rfl,rfl,rfl,k3,r3⟩:=trodAll_cons r2;obtain⟨rfl,rfl,rfl⟩:=trodAll_nil r3;obtain rfl:args= #[v0,v1,v2,v3]:=by cases args;simp_all
 obtain⟨rfl,rfl⟩:=trodVars_none hV;have o0:=CN 0 26 v0 rfl rfl;have lt0:∀x∈p0,x.block<W.heap.size:=by obtain⟨m,hm⟩:=k0;exact DataW.trod_lt m _ _ _ hm
 obtain⟨p0,rfl⟩:=DE (t:=26) rfl o0 k0;have o1:=CN 1 24 v1 rfl rfl;have lt1:∀x∈p1,x.block<W.heap.size:=by obtain⟨m,hm⟩:=k1;exact DataW.trod_lt m _ _ _ hm
 obtain⟨h1,rfl⟩:=JD (t:=24) rfl o1 k1;have o2:=CN 2 27 v2 rfl rfl;have lt2:∀x∈p2,x.block<W.heap.size:=by obtain⟨m,hm⟩:=k2;exact DataW.trod_lt m _ _ _ hm
 obtain⟨A2,n2,c2,l2,rfl,w2,m2⟩:=GR (tS:=mY) (tSs:=27) r8 ⟨rfl,rfl⟩ ⟨rfl,rfl⟩ (by kernel_rfl) (by kernel_rfl) o2 k2;have o3:=CN 3 33 v3 rfl rfl;have lt3:∀x∈p3,x.block<W.heap.size:=by obtain⟨m,hm⟩:=k3;exact DataW.trod_lt m _ _ _ hm
 obtain⟨A3,n3,c3,l3,rfl,w3,m3⟩:=DF (t:=33) rfl o3 k3;have T:sS W:=OM (Lib.laidMet.reads (show laidMet prog Rows.rulesHeadersRow.laid W by rw [<-MakeChecks.laidMetH_plain _ _ _ (by kernel_rfl)];exact hX) (List.mem_singleton.2 rfl));clear hA0 Nb;refine(r6 p0 h1 A2 n2 c2 l2 A3 n3 c3 l3 W w2 (Nat.lt_of_le_of_lt m2 (by decide)) w3 (Nat.lt_of_le_of_lt m3 (by decide)) T).mono fun e W' ⟨he,Xg⟩=>?_;subst he;exact⟨_,rfl,_,_,_,[],_,[],hW',trodAll_mk1 (shut_bool underlying4 _),(trodAll_cons_mk (Below.trod laidOut (by kernel_rfl) (of_decide_eq_true (by kernel_rfl)) k0 Xg lt0) (trodAll_cons_mk (Below.trod laidOut (by kernel_rfl) (of_decide_eq_true (by kernel_rfl)) k1 Xg lt1) (trodAll_cons_mk (Below.trod laidOut (by kernel_rfl) (of_decide_eq_true (by kernel_rfl)) k2 Xg lt2) (trodAll_cons_mk (Below.trod laidOut (by kernel_rfl) (of_decide_eq_true (by kernel_rfl)) k3 Xg lt3) trodAll_mk0)))),rfl,Xg.frame _,fun h=>by cases h⟩
theorem r9:Rows.RulesHeadersSaid:=
 OpenClaim.holds_of_wide 9 f9 rfl rfl rfl rfl rfl rfl rfl ⟨rfl,rfl,rfl,rfl,rfl⟩ rfl rfl rfl rfl rfl (by kernel_rfl) func9 (by kernel_rfl)
  (of_decide_eq_true (by kernel_rfl)) (by unfold Func.isWrapper;first|(rw [if_pos (by decide+kernel)];kernel_rfl)|(rw [if_neg (by decide+kernel)];exact⟨rfl,rfl⟩))
  (fun os started H enc _=>qK os started H enc)
theorem rulesHeaders_holds:Rows.RulesHeadersCardSaid:=
 Claim7.holds_tied_plain_at .later [] [.data] true Rows.rulesHeadersCard.stood.harness false r9 (fun _ h=>by cases h) (by kernel_rfl) (fun _ h=>by cases h) rulesHeaders_row_tie rfl ⟨rfl,rfl⟩ (by kernel_rfl) rfl
  (fun f fn hf Kk=>by
    obtain rfl:f=9:=Option.some.inj ((show prog.funcNamed "plexus/plexuslaw19.RulesHeaders" =some 9 by kernel_rfl).symm.trans hf) |>.symm;obtain rfl:fn=f9:=(Option.some.inj (func9.symm.trans Kk)).symm;exact⟨by kernel_rfl,fun j t ht=>by
     rw [params9]at ht;have hm:t∈ [26,24,27,33]:=by simpa using Array.mem_of_getElem? ht
     have cY:([26,24,27,33].all fun u=> !prog.wantsStandIn u)=true:=by kernel_rfl
     exact(show prog.wantsStandIn t=false by simpa using List.all_eq_true.1 cY t hm)⟩)
  (by kernel_rfl)
end Go.Proofs.YtfleamccglihoaaGreatDoor
