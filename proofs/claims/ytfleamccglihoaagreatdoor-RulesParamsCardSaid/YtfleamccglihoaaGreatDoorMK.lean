import Derived.Test.YtfleamccglihoaaGreatDoorRows
import Derived.Test.YtfleamccglihoaaGreatDoorMG
import Derived.WalkKit
import Derived.ProofKit
import Derived.Handy
import Derived.Lay
import Derived.Below
import Derived.Deep.Slices
import Derived.Lib.LaidU8
open Go.IntKind (i64 u64)
namespace Go.Proofs.YtfleamccglihoaaGreatDoor
open Go.Proofs.Tryz
open Go Go.bE Go.ChangeShapes Go.WideShapes Go.ChangeAt Go.RowKit
set_option linter.unusedVariables false
theorem Gp:ownKnob prog.godebug=none:=by kernel_rfl
theorem laidOut:laidOutB prog=true:=by kernel_rfl
theorem QX:prog.underlying gU=some (.int .u8):=by kernel_rfl
theorem E7:prog.underlying ax=some (.array 32 gU):=by kernel_rfl
theorem Q0:prog.cellsOf gU=1:=by kernel_rfl
theorem QZ:prog.cellsOf ax=32:=by kernel_rfl
section
variable{H:Type}{enc:TypeId×Value->H}{w:World}{base:Nat}{sp:Nat->Bool}{held:Bool}{fuel:Nat}{cs:List Value}{x:DataW H×List MemPlace}
theorem wf_u8{n:Int}(h:(Lit.int .u8 n).wf=true):0<=n/\n<256:=by
 have e1:IntKind.u8.min=0:=by decide
 have e2:IntKind.u8.max=255:=by decide
 simp only [Lit.wf,Bool.and_eq_true,decide_eq_true_iff,e1,e2]at h;omega
theorem Dm{t e:TypeId}{n:Nat}(ht:prog.underlying t=some (.array n e))(h:DataW.trod enc prog w base sp held fuel t cs=some x):
 cs.length=prog.cellsOf t/\∃ds p,x=(.agg ds,p):=by
 cases fuel with
 |zero=>simp [DataW.trod]at h
 |succ fuel=>
  simp only [DataW.trod,ht]at h;split at h
  ·rename_i hl
   obtain⟨xs,hm,hx⟩:=Option.map_eq_some_iff.1 h;exact⟨hl,_,_,hx.symm⟩
  ·cases h
theorem Ko(h:DataW.trod enc prog w base sp held fuel ax cs=some x):Mh cs.toArray:=by
 obtain⟨hl,ds,p,rfl⟩:=Dm E7 h;rw [QZ]at hl;refine⟨by simpa using hl,fun v hv=>?_⟩;obtain⟨i,hi,rfl⟩:=List.mem_iff_getElem.1 hv;simp only at hi;obtain⟨ZW,d,q,_,hd⟩:=Lib.array_elem E7 h i (by omega);rw [Q0,Nat.mul_one]at hd;obtain⟨z,hz,_,hw⟩:=DataW.trod_int QX hd;have h0:=congrArg (·[0]?) hz;simp only [List.getElem?_take,List.getElem?_drop]at h0;simp at h0;have:=wf_u8 hw;refine⟨z,?_,this.1,this.2⟩;have h1:cs[i]? =some cs[i]:=by simp
 rw [h1]at h0;simpa using h0
end
section
variable{H:Type}{enc:TypeId×Value->H}{w:World}{base:Nat}{sp:Nat->Bool}{held:Bool}{d:DataW H}{p:List MemPlace}{v:Value}
theorem JA(h:Lib.VarReads prog w "math/bits.deBruijn64tab" Rows.laid_math_bits_deBruijn64tab):p7 w:=by
 obtain⟨g,t,cs,fuel,p,hg,hty,TZ,hd⟩:=h;obtain rfl:Tryz.ji.g 1=g:=Option.some.inj ((show prog.globalNamed "math/bits.deBruijn64tab" =some (Tryz.ji.g 1)by kernel_rfl).symm.trans hg);have ht:∃e,prog.underlying t=some (.array 64 e)/\prog.underlying e=some (.int .u8)/\prog.cellsOf e=1/\prog.cellsOf t=64:=by
  have e1:(prog.globals[Tryz.ji.g 1]?).map (·.type)=some uv:=by kernel_rfl
  obtain rfl:=Option.some.inj (e1.symm.trans hty);exact⟨gU,by kernel_rfl,QX,Q0,by kernel_rfl⟩
 obtain⟨e,h1,h2,h3,h4⟩:=ht;have mH:=Lib.cells_of_tab (zs:=Lib.deBruijn64tab.map fun(n:Nat)=>(n:Int)) h1 h2 h3 h4 hd;intro j hj;rw [World.var?_cell hg TZ j,<-Array.getElem?_toList,mH];simp [List.getD,hj]
end
end Go.Proofs.YtfleamccglihoaaGreatDoor
