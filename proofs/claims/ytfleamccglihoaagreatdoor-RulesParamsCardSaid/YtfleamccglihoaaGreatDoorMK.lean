import Derived.Test.YtfleamccglihoaaGreatDoorRows
import Derived.Test.YtfleamccglihoaaGreatDoorMG
import Derived.WalkKit
import Derived.ProofKit
import Derived.Handy
import Derived.Lay
import Derived.Below
import Derived.Deep.Slices
import Derived.Lib.LaidU8
open Go.IntKind (i64 u64)
namespace Go.Proofs.YtfleamccglihoaaGreatDoor
open Go.Proofs.Tryz
open Go Go.bE Go.ChangeShapes Go.WideShapes Go.ChangeAt Go.RowKit
set_option linter.unusedVariables false
theorem Gq:ownKnob prog.godebug=none:=by kernel_rfl
theorem laidOut:laidOutB prog=true:=by kernel_rfl
theorem QZ:prog.underlying gU=some (.int .u8):=by kernel_rfl
theorem E6:prog.underlying ax=some (.array 32 gU):=by kernel_rfl
theorem Q2:prog.cellsOf gU=1:=by kernel_rfl
theorem Q1:prog.cellsOf ax=32:=by kernel_rfl
section
variable{H:Type}{enc:TypeId×Value->H}{w:World}{base:Nat}{sp:Nat->Bool}{held:Bool}{fuel:Nat}{cs:List Value}{x:DataW H×List MemPlace}
theorem wf_u8{n:Int}(h:(Lit.int .u8 n).wf=true):0<=n/\n<256:=by
 have e1:IntKind.u8.min=0:=by decide
 have e2:IntKind.u8.max=255:=by decide
 simp only [Lit.wf,Bool.and_eq_true,decide_eq_true_iff,e1,e2]at h;omega
theorem Dk{t e:TypeId}{n:Nat}(ht:prog.underlying t=some (.array n e))(h:DataW.trod enc prog w base sp held fuel t cs=some x):
 cs.length=prog.cellsOf t/\∃ds p,x=(.agg ds,p):=by
 cases fuel with
 |zero=>simp [DataW.trod]at h
 |succ fuel=>
  simp only [DataW.trod,ht]at h;split at h
  ·rename_i hl
   obtain⟨xs,hm,hx⟩:=Option.map_eq_some_iff.1 h;exact⟨hl,_,_,hx.symm⟩
  ·cases h
theorem Kp(h:DataW.trod enc prog w base sp held fuel ax cs=some x):Mk cs.toArray:=by
 obtain⟨hl,ds,p,rfl⟩:=Dk E6 h;rw [Q1]at hl;refine⟨by simpa using hl,fun v hv=>?_⟩;obtain⟨i,hi,rfl⟩:=List.mem_iff_getElem.1 hv;simp only at hi;obtain⟨ZY,d,q,_,hd⟩:=Lib.array_elem E6 h i (by omega);rw [Q2,Nat.mul_one]at hd;obtain⟨z,hz,_,hw⟩:=DataW.trod_int QZ hd;have h0:=congrArg (·[0]?) hz;simp only [List.getElem?_take,List.getElem?_drop]at h0;simp at h0;have:=wf_u8 hw;refine⟨z,?_,this.1,this.2⟩;have h1:cs[i]? =some cs[i]:=by simp
 rw [h1]at h0;simpa using h0
end
section
variable{H:Type}{enc:TypeId×Value->H}{w:World}{base:Nat}{sp:Nat->Bool}{held:Bool}{d:DataW H}{p:List MemPlace}{v:Value}
theorem JB(h:Lib.VarReads prog w "math/bits.deBruijn64tab" Rows.laid_math_bits_deBruijn64tab):p6 w:=by
 obtain⟨g,t,cs,fuel,p,hg,hty,T4,hd⟩:=h;obtain rfl:Tryz.jh.g 1=g:=Option.some.inj ((show prog.globalNamed "math/bits.deBruijn64tab" =some (Tryz.jh.g 1)by kernel_rfl).symm.trans hg);have ht:∃e,prog.underlying t=some (.array 64 e)/\prog.underlying e=some (.int .u8)/\prog.cellsOf e=1/\prog.cellsOf t=64:=by
  have e1:(prog.globals[Tryz.jh.g 1]?).map (·.type)=some uq:=by kernel_rfl
  obtain rfl:=Option.some.inj (e1.symm.trans hty);exact⟨gU,by kernel_rfl,QZ,Q2,by kernel_rfl⟩
 obtain⟨e,h1,h2,h3,h4⟩:=ht;have mH:=Lib.cells_of_tab (zs:=Lib.deBruijn64tab.map fun(n:Nat)=>(n:Int)) h1 h2 h3 h4 hd;intro j hj;rw [World.var?_cell hg T4 j,<-Array.getElem?_toList,mH];simp [List.getD,hj]
end
end Go.Proofs.YtfleamccglihoaaGreatDoor
