import Derived.Test.YtnboahlopghcjaaGreatDoorRows
import Derived.Test.YtnboahlopghcjaaGreatDoorMG
import Derived.WalkKit
import Derived.ProofKit
import Derived.Handy
import Derived.Lay
import Derived.Below
import Derived.Deep.Slices
import Derived.Lib.LaidU8
namespace Go.Proofs.YtnboahlopghcjaaGreatDoor
open Go.Proofs.Tryz
open Go Go.bp Go.ChangeShapes Go.WideShapes Go.ChangeAt Go.RowKit
set_option linter.unusedVariables false
theorem DK:ownKnob prog.godebug=none:=by kernel_rfl
theorem TU:prog.underlying gq=some (.int .u8):=by kernel_rfl
theorem TW:prog.cellsOf gq=1:=by kernel_rfl
section
variable{H:Type}{enc:TypeId×Value->H}{w:World}{base:Nat}{sp:Nat->Bool}{held:Bool}{fuel:Nat}{cs:List Value}{x:DataW H×List MemPlace}
end
section
variable{H:Type}{enc:TypeId×Value->H}{w:World}{base:Nat}{sp:Nat->Bool}{held:Bool}{d:DataW H}{p:List MemPlace}{v:Value}
theorem GZ(h:Lib.VarReads prog w "math/bits.deBruijn64tab" Rows.laid_math_bits_deBruijn64tab):p6 w:=by
 obtain⟨g,t,cs,fuel,p,hg,YV,Q3,hd⟩:=h;obtain rfl:Tryz.gV.g 1=g:=Option.some.inj ((show prog.globalNamed "math/bits.deBruijn64tab" =some (Tryz.gV.g 1)by kernel_rfl).symm.trans hg);have ht: ∃e,prog.underlying t=some (.array 64 e)/\prog.underlying e=some (.int .u8)/\prog.cellsOf e=1/\prog.cellsOf t=64:=by
  have e1:(prog.globals[Tryz.gV.g 1]?).map (·.type)=some sk:=by kernel_rfl
  obtain rfl:=Option.some.inj (e1.symm.trans YV);exact⟨gq,by kernel_rfl,TU,TW,by kernel_rfl⟩
 obtain⟨e,h1,h2,h3,h4⟩:=ht;have kI:=Lib.cells_of_tab (zs:=Lib.deBruijn64tab.map fun(n:Nat)=>(n:Int)) h1 h2 h3 h4 hd;intro j hj;rw [World.var?_cell hg Q3 j,<-Array.getElem?_toList,kI];simp [List.getD,hj]
end
end Go.Proofs.YtnboahlopghcjaaGreatDoor
