import Derived.Test.YtfleamccglihoaaGreatDoorRows
import Derived.Test.YtfleamccglihoaaGreatDoorMG
import Derived.WalkKit
import Derived.ProofKit
import Derived.Handy
import Derived.Lay
import Derived.Below
import Derived.Deep.Slices
import Derived.Lib.LaidU8
open Go.IntKind (i64 u64)
namespace Go.Proofs.YtfleamccglihoaaGreatDoor
open Go.Proofs.Tryz
open Go Go.cF Go.ChangeShapes Go.WideShapes Go.ChangeAt Go.RowKit
set_option linter.unusedVariables false
theorem MW:ownKnob prog.godebug=none:=by kernel_rfl
theorem laidOut:laidOutB prog=true:=by kernel_rfl
theorem Z5:prog.underlying jV=some (.int .u8):=by kernel_rfl
theorem E6:prog.underlying ai=some (.array 32 jV):=by kernel_rfl
theorem Lv:prog.underlying aH=some (.slice ai):=by kernel_rfl
theorem Z8:prog.cellsOf jV=1:=by kernel_rfl
theorem OH:prog.cellsOf ai=32:=by kernel_rfl
theorem Z7:prog.cellsOf aH=1:=by kernel_rfl
section
variable{H:Type}{enc:TypeId×Value->H}{w:World}{base:Nat}{sp:Nat->Bool}{held:Bool}{fuel:Nat}{cs:List Value}{x:DataW H×List MemPlace}
theorem wf_u8{n:Int}(h:(Lit.int .u8 n).wf=true):0<=n/\n<256:=by
 have e1:IntKind.u8.min=0:=by decide
 have e2:IntKind.u8.max=255:=by decide
 simp only [Lit.wf,Bool.and_eq_true,decide_eq_true_iff,e1,e2]at h;omega
theorem Jx{t e:TypeId}{n:Nat}(ht:prog.underlying t=some (.array n e))(h:DataW.trod enc prog w base sp held fuel t cs=some x):
 cs.length=prog.cellsOf t/\∃ds p,x=(.agg ds,p):=by
 cases fuel with
 |zero=>simp [DataW.trod]at h
 |succ fuel=>
  simp only [DataW.trod,ht]at h;split at h
  ·rename_i hl
   obtain⟨xs,hm,hx⟩:=Option.map_eq_some_iff.1 h;exact⟨hl,_,_,hx.symm⟩
  ·cases h
theorem AG(h:DataW.trod enc prog w base sp held fuel ai cs=some x):UC cs.toArray:=by
 obtain⟨hl,ds,p,rfl⟩:=Jx E6 h;rw [OH]at hl;refine⟨by simpa using hl,λv hv=>?_⟩;obtain⟨i,hi,rfl⟩:=List.mem_iff_getElem.1 hv;simp only at hi;obtain⟨ajo,d,q,_,hd⟩:=Lib.array_elem E6 h i (by omega);rw [Z8,Nat.mul_one]at hd;obtain⟨z,hz,_,hw⟩:=DataW.trod_int Z5 hd;have h0:=congrArg (·[0]?) hz;simp only [List.getElem?_take,List.getElem?_drop]at h0;simp at h0;have:=wf_u8 hw;refine⟨z,?_,this.1,this.2⟩;have h1:cs[i]? =some cs[i]:=by simp
 rw [h1]at h0;simpa using h0
theorem Dc{a:Addr}{n:Nat}(h:w.cells? base a n=some cs):Cells w a cs.toArray/\cs.length=n:=by
 obtain⟨_,hl,hc⟩:=World.cells?_some h;refine⟨λj v hj=>?_,hl⟩;have xt:cs[j]? =some v:=by simpa using hj
 have:=(lgeS xt).1;rw [hc j (by omega),xt]
def hzero:HT:=⟨Array.replicate 32 (.int .u8 0),by simp,λv hv=>⟨0,by simp at hv;exact hv,by omega,by omega⟩⟩
theorem Xf(h:DataW.trod enc prog w base sp held fuel aH cs=some x):
 ∃A n c l,cs= [.slice A n c]/\HS w A n l/\n<=maxLen:=by
 rcases Deep.open_slice Lv h with⟨rfl,_⟩|⟨a,len,cap,m,k,D,Pl,rfl,_,hl,hm,K1,_,K6⟩
 ·exact⟨none,0,0,[],rfl,⟨rfl,λi h hi=>by simp at hi⟩,by decide⟩
 ·have hlm:len<=m:=by rw [K1];split<;>omega
  have dr:∀i,i<len->∃hh:HT,a.block<w.heap.size/\Cells w (a.add (i*32)) hh.1:=λi hi=>by
   obtain⟨ON,hc,hd⟩:=K6 i (by omega);rw [OH]at hc;obtain⟨h1,h2⟩:=Dc hc;have h3:=AG hd;have h4:=h1 0 (ON.toArray[0]'(by simp [h2])) (by simp [h2]);have h5:=World.block_lt_of_cell? w _ h4;rw [fY,fY]at h5;exact⟨⟨_,h3⟩,h5,h1⟩
  haveI:Inhabited HT:=⟨hzero⟩
  obtain⟨f,hf⟩:=Deep.choose_lt dr;refine⟨some a,len,cap,(List.range len).map f,rfl,⟨by simp,λi y hi=>?_⟩,by omega⟩;have dD:=(lgeS hi).1;simp only [List.length_map,List.length_range]at dD;simp [dD]at hi;subst hi;exact⟨a,rfl,(hf i dD).1,(hf i dD).2⟩
theorem VR{tS tSs:TypeId}{f0 f1:Field}(hS:prog.underlying tS=some (.struct #[f0,f1]))(h0:f0.type=ai/\f0.offset=0)(h1:f1.type=aH/\f1.offset=32)
 (hcS:prog.cellsOf tS=33) (hSs:prog.underlying tSs=some (.slice tS)) (h:DataW.trod enc prog w base sp held fuel tSs cs=some x):
 ∃A n c l,cs= [.slice A n c]/\NS w (λ_=>True) A n l/\n<=maxLen:=by
 rcases Deep.open_slice hSs h with⟨rfl,_⟩|⟨a,len,cap,m,k,D,Pl,rfl,_,hl,hm,K1,_,K6⟩
 ·exact⟨none,0,0,[],rfl,⟨rfl,λi h hi=>by simp at hi⟩,by decide⟩
 ·have hlm:len<=m:=by rw [K1];split<;>omega
  have dr:∀i,i<len->∃nd:DN,a.block<w.heap.size/\∃pA pn pc,Cells w (a.add (i*33)) (nd.id.1.push (.slice pA pn pc))/\HS w pA pn nd.ps:=λi hi=>by
   obtain⟨ON,hc,hd⟩:=K6 i (by omega);rw [hcS]at hc;obtain⟨g1,g2⟩:=Dc hc;obtain⟨xs,n',rfl,_,_,vx,dr⟩:=DataW.trod_struct hS hd;have q0:=dr 0 f0 rfl;have q1:=dr 1 f1 rfl;rw [h0.1,h0.2,OH]at q0;rw [h1.1,h1.2,Z7]at q1;obtain⟨x0,hx0⟩:∃x0,xs[0]? =some x0:=⟨xs[0]'(by simp at vx;omega),by simp⟩;obtain⟨x1,Ja⟩:∃x1,xs[1]? =some x1:=⟨xs[1]'(by simp at vx;omega),by simp⟩;rw [hx0]at q0;rw [Ja]at q1;have hh:=AG q0;obtain⟨pA,pn,pc,pl,oM,qJ,_⟩:=Xf q1;have h4:=g1 0 (ON.toArray[0]'(by simp [g2])) (by simp [g2]);have h5:=World.block_lt_of_cell? w _ h4;rw [fY,fY]at h5;refine⟨⟨⟨_,hh⟩,pl⟩,h5,pA,pn,pc,?_,qJ⟩;have e:ON=(ON.drop 0).take 32++(ON.drop 32).take 1:=by
    rw [List.drop_zero,List.take_of_length_le (l:=ON.drop 32) (by rw [List.length_drop];omega),List.take_append_drop]
   have e2:ON.toArray=(((ON.drop 0).take 32).toArray).push (.slice pA pn pc):=by
    conv=>lhs;rw [e,oM]
    simp
   rw [e2]at g1;exact g1
  haveI:Inhabited DN:=⟨⟨hzero,[]⟩⟩
  obtain⟨f,hf⟩:=Deep.choose_lt dr;refine⟨some a,len,cap,(List.range len).map f,rfl,⟨by simp,λi y hi=>?_⟩,by omega⟩;have dD:=(lgeS hi).1;simp only [List.length_map,List.length_range]at dD;simp [dD]at hi;subst hi;obtain⟨hb,pA,pn,pc,hc,hp⟩:=hf i dD;exact⟨a,pA,pn,pc,rfl,hb,trivial,hc,hp,λ_ _=>trivial⟩
end
section
variable{H:Type}{enc:TypeId×Value->H}{w:World}{base:Nat}{sp:Nat->Bool}{held:Bool}{d:DataW H}{p:List MemPlace}{v:Value}
set_option maxRecDepth 100000 in
theorem Dg{t:TypeId}(et:t=ai)(hv:Value.okWide prog w .any base t v)(h:∃fuel,DataW.trod enc prog w 0 sp held fuel t v.cells.toList=some (d,p)):∃hh:HT,v=.agg hh.1:=by
 have ht:prog.underlying t=some (.array 32 jV):=by rw [et];exact E6
 simp only [Value.okWide,ht]at hv;subst et;obtain⟨cs,rfl,h2,_⟩:=hv;obtain⟨fuel,h⟩:=h;exact⟨⟨cs,by simpa [Value.cells]using AG h⟩,rfl⟩
set_option maxRecDepth 100000 in
theorem IT{tS tSs:TypeId}{f0 f1:Field}(hS:prog.underlying tS=some (.struct #[f0,f1]))(h0:f0.type=ai/\f0.offset=0)(h1:f1.type=aH/\f1.offset=32)
 (hcS:prog.cellsOf tS=33) (hSs:prog.underlying tSs=some (.slice tS)) (hv:Value.okWide prog w .any base tSs v) (h:∃fuel,DataW.trod enc prog w 0 sp held fuel tSs v.cells.toList=some (d,p)):
 ∃A n c l,v=.slice A n c/\NS w (λ_=>True) A n l/\n<=maxLen:=by
 simp only [Value.okWide,hSs,Cell.okWide]at hv;obtain⟨a0,akT,aoF,rfl⟩:∃a len cap,v=.slice a len cap:=by
  clear h;cases v<;>simp_all [Cell.ok]
 obtain⟨fuel,h⟩:=h;obtain⟨A,n,c,l,he,h1,h2⟩:=VR hS h0 h1 hcS hSs h;simp [Value.cells]at he;obtain⟨rfl,rfl,rfl⟩:=he;exact⟨_,_,_,l,rfl,h1,h2⟩
theorem Q2(h:Lib.VarReads prog w "math/bits.deBruijn64tab" Rows.laid_math_bits_deBruijn64tab):tm w:=by
 obtain⟨g,t,cs,fuel,p,hg,hty,adp,hd⟩:=h;obtain rfl:Tryz.lG.g 1=g:=Option.some.inj ((show prog.globalNamed "math/bits.deBruijn64tab" =some (Tryz.lG.g 1)by kernel_rfl).symm.trans hg);have ht:∃e,prog.underlying t=some (.array 64 e)/\prog.underlying e=some (.int .u8)/\prog.cellsOf e=1/\prog.cellsOf t=64:=by
  have e1:(prog.globals[Tryz.lG.g 1]?).map (·.type)=some yW:=by kernel_rfl
  obtain rfl:=Option.some.inj (e1.symm.trans hty);exact⟨jV,by kernel_rfl,Z5,Z8,by kernel_rfl⟩
 obtain⟨e,h1,h2,h3,h4⟩:=ht;have oM:=Lib.cells_of_tab (zs:=Lib.deBruijn64tab.map λ(n:Nat)=>(n:Int)) h1 h2 h3 h4 hd;intro j hj;rw [World.var?_cell hg adp j,<-Array.getElem?_toList,oM];simp [List.getD,hj]
end
end Go.Proofs.YtfleamccglihoaaGreatDoor
