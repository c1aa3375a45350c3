import Derived.Test.YtfleamccglihoaaGreatDoorRows
import Derived.Test.YtfleamccglihoaaGreatDoorMG
import Derived.WalkKit
import Derived.ProofKit
import Derived.Handy
import Derived.Lay
import Derived.Below
import Derived.Deep.Slices
import Derived.Lib.LaidU8
open Go.IntKind (i64 u64)
namespace Go.Proofs.YtfleamccglihoaaGreatDoor
open Go.Proofs.Tryz
open Go Go.bE Go.ChangeShapes Go.WideShapes Go.ChangeAt Go.RowKit
set_option linter.unusedVariables false
theorem Gq:ownKnob prog.godebug=none:=by kernel_rfl
theorem WH:prog.underlying iD=some (.int .u8):=by kernel_rfl
theorem WI:prog.cellsOf iD=1:=by kernel_rfl
section
variable{H:Type}{enc:TypeId×Value->H}{w:World}{base:Nat}{sp:Nat->Bool}{held:Bool}{fuel:Nat}{cs:List Value}{x:DataW H×List MemPlace}
end
section
variable{H:Type}{enc:TypeId×Value->H}{w:World}{base:Nat}{sp:Nat->Bool}{held:Bool}{d:DataW H}{p:List MemPlace}{v:Value}
theorem JA(h:Lib.VarReads prog w "math/bits.deBruijn64tab" Rows.laid_math_bits_deBruijn64tab):p0 w:=by
 obtain⟨g,t,cs,fuel,p,hg,hty,TX,hd⟩:=h;obtain rfl:Tryz.jg.g 1=g:=Option.some.inj ((show prog.globalNamed "math/bits.deBruijn64tab" =some (Tryz.jg.g 1)by kernel_rfl).symm.trans hg);have ht:∃e,prog.underlying t=some (.array 64 e)/\prog.underlying e=some (.int .u8)/\prog.cellsOf e=1/\prog.cellsOf t=64:=by
  have e1:(prog.globals[Tryz.jg.g 1]?).map (·.type)=some um:=by kernel_rfl
  obtain rfl:=Option.some.inj (e1.symm.trans hty);exact⟨iD,by kernel_rfl,WH,WI,by kernel_rfl⟩
 obtain⟨e,h1,h2,h3,h4⟩:=ht;have mF:=Lib.cells_of_tab (zs:=Lib.deBruijn64tab.map fun(n:Nat)=>(n:Int)) h1 h2 h3 h4 hd;intro j hj;rw [World.var?_cell hg TX j,<-Array.getElem?_toList,mF];simp [List.getD,hj]
end
end Go.Proofs.YtfleamccglihoaaGreatDoor
