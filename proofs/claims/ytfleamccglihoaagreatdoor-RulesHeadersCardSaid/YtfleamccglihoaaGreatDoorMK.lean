import Derived.Test.YtfleamccglihoaaGreatDoorRows
import Derived.Test.YtfleamccglihoaaGreatDoorMG
import Derived.WalkKit
import Derived.ProofKit
import Derived.Handy
import Derived.Lay
import Derived.Below
import Derived.Deep.Slices
import Derived.Lib.LaidU8
open Go.IntKind (i64 u64)
namespace Go.Proofs.YtfleamccglihoaaGreatDoor
open Go.Proofs.Tryz
open Go Go.b0 Go.ChangeShapes Go.WideShapes Go.ChangeAt Go.RowKit
set_option linter.unusedVariables false
theorem KK:ownKnob prog.godebug=none:=by kernel_rfl
theorem laidOut:laidOutB prog=true:=by kernel_rfl
theorem W2:prog.underlying ju=some (.int .u8):=by kernel_rfl
theorem Di:prog.underlying al=some (.array 32 ju):=by kernel_rfl
theorem Bq:prog.underlying aF=some (.slice al):=by kernel_rfl
theorem W5:prog.cellsOf ju=1:=by kernel_rfl
theorem Mg:prog.cellsOf al=32:=by kernel_rfl
theorem W4:prog.cellsOf aF=1:=by kernel_rfl
section
variable{H:Type}{enc:TypeId×Value->H}{w:World}{base:Nat}{sp:Nat->Bool}{held:Bool}{fuel:Nat}{cs:List Value}{x:DataW H×List MemPlace}
theorem wf_u8{n:Int}(h:(Lit.int .u8 n).wf=true):0<=n/\n<256:=by
 have e1:IntKind.u8.min=0:=by decide
 have e2:IntKind.u8.max=255:=by decide
 simp only [Lit.wf,Bool.and_eq_true,decide_eq_true_iff,e1,e2]at h;omega
theorem Hw{t e:TypeId}{n:Nat}(ht:prog.underlying t=some (.array n e))(h:DataW.trod enc prog w base sp held fuel t cs=some x):
 cs.length=prog.cellsOf t/\∃ds p,x=(.agg ds,p):=by
 cases fuel with
 |zero=>simp [DataW.trod]at h
 |succ fuel=>
  simp only [DataW.trod,ht]at h;split at h
  ·rename_i hl
   obtain⟨xs,hm,hx⟩:=Option.map_eq_some_iff.1 h;exact⟨hl,_,_,hx.symm⟩
  ·cases h
theorem yT(h:DataW.trod enc prog w base sp held fuel al cs=some x):RI cs.toArray:=by
 obtain⟨hl,ds,p,rfl⟩:=Hw Di h;rw [Mg]at hl;refine⟨by simpa using hl,fun v hv=>?_⟩;obtain⟨i,hi,rfl⟩:=List.mem_iff_getElem.1 hv;simp only at hi;obtain⟨agf,d,q,_,hd⟩:=Lib.array_elem Di h i (by omega);rw [W5,Nat.mul_one]at hd;obtain⟨z,hz,_,hw⟩:=DataW.trod_int W2 hd;have h0:=congrArg (·[0]?) hz;simp only [List.getElem?_take,List.getElem?_drop]at h0;simp at h0;have:=wf_u8 hw;refine⟨z,?_,this.1,this.2⟩;have h1:cs[i]? =some cs[i]:=by simp
 rw [h1]at h0;simpa using h0
theorem BB{a:Addr}{n:Nat}(h:w.cells? base a n=some cs):Cells w a cs.toArray/\cs.length=n:=by
 obtain⟨_,hl,hc⟩:=World.cells?_some h;refine⟨fun j v hj=>?_,hl⟩;have vU:cs[j]? =some v:=by simpa using hj
 have:=(lgeS vU).1;rw [hc j (by omega),vU]
def hzero:HT:=⟨Array.replicate 32 (.int .u8 0),by simp,fun v hv=>⟨0,by simp at hv;exact hv,by omega,by omega⟩⟩
theorem Nk(h:DataW.trod enc prog w base sp held fuel aF cs=some x):
 ∃A n c l,cs= [.slice A n c]/\HS w A n l/\n<=maxLen:=by
 rcases Deep.open_slice Bq h with⟨rfl,_⟩|⟨a,len,cap,m,k,D,Pl,rfl,_,hl,hm,Qd,_,hel⟩
 ·exact⟨none,0,0,[],rfl,⟨rfl,fun i h hi=>by simp at hi⟩,by decide⟩
 ·have hlm:len<=m:=by rw [Qd];split<;>omega
  have cY:∀i,i<len->∃hh:HT,a.block<w.heap.size/\Cells w (a.add (i*32)) hh.1:=fun i hi=>by
   obtain⟨Ml,hc,hd⟩:=hel i (by omega);rw [Mg]at hc;obtain⟨h1,h2⟩:=BB hc;have h3:=yT hd;have h4:=h1 0 (Ml.toArray[0]'(by simp [h2])) (by simp [h2]);have h5:=World.block_lt_of_cell? w _ h4;rw [fw,fw]at h5;exact⟨⟨_,h3⟩,h5,h1⟩
  haveI:Inhabited HT:=⟨hzero⟩
  obtain⟨f,hf⟩:=Deep.choose_lt cY;refine⟨some a,len,cap,(List.range len).map f,rfl,⟨by simp,fun i y hi=>?_⟩,by omega⟩;have di:=(lgeS hi).1;simp only [List.length_map,List.length_range]at di;simp [di]at hi;subst hi;exact⟨a,rfl,(hf i di).1,(hf i di).2⟩
theorem SU{tS tSs:TypeId}{f0 f1:Field}(hS:prog.underlying tS=some (.struct #[f0,f1]))(h0:f0.type=al/\f0.offset=0)(h1:f1.type=aF/\f1.offset=32)
 (hcS:prog.cellsOf tS=33) (YA:prog.underlying tSs=some (.slice tS)) (h:DataW.trod enc prog w base sp held fuel tSs cs=some x):
 ∃A n c l,cs= [.slice A n c]/\NS w (fun _=>True) A n l/\n<=maxLen:=by
 rcases Deep.open_slice YA h with⟨rfl,_⟩|⟨a,len,cap,m,k,D,Pl,rfl,_,hl,hm,Qd,_,hel⟩
 ·exact⟨none,0,0,[],rfl,⟨rfl,fun i h hi=>by simp at hi⟩,by decide⟩
 ·have hlm:len<=m:=by rw [Qd];split<;>omega
  have cY:∀i,i<len->∃nd:DN,a.block<w.heap.size/\∃pA pn pc,Cells w (a.add (i*33)) (nd.id.1.push (.slice pA pn pc))/\HS w pA pn nd.ps:=fun i hi=>by
   obtain⟨Ml,hc,hd⟩:=hel i (by omega);rw [hcS]at hc;obtain⟨g1,g2⟩:=BB hc;obtain⟨xs,n',rfl,_,_,uf,cY⟩:=DataW.trod_struct hS hd;have q0:=cY 0 f0 rfl;have q1:=cY 1 f1 rfl;rw [h0.1,h0.2,Mg]at q0;rw [h1.1,h1.2,W4]at q1;obtain⟨x0,hx0⟩:∃x0,xs[0]? =some x0:=⟨xs[0]'(by simp at uf;omega),by simp⟩;obtain⟨x1,Na⟩:∃x1,xs[1]? =some x1:=⟨xs[1]'(by simp at uf;omega),by simp⟩;rw [hx0]at q0;rw [Na]at q1;have hh:=yT q0;obtain⟨pA,pn,pc,pl,nW,sD,_⟩:=Nk q1;have h4:=g1 0 (Ml.toArray[0]'(by simp [g2])) (by simp [g2]);have h5:=World.block_lt_of_cell? w _ h4;rw [fw,fw]at h5;refine⟨⟨⟨_,hh⟩,pl⟩,h5,pA,pn,pc,?_,sD⟩;have e:Ml=(Ml.drop 0).take 32++(Ml.drop 32).take 1:=by
    rw [List.drop_zero,List.take_of_length_le (l:=Ml.drop 32) (by rw [List.length_drop];omega),List.take_append_drop]
   have e2:Ml.toArray=(((Ml.drop 0).take 32).toArray).push (.slice pA pn pc):=by
    conv=>lhs;rw [e,nW]
    simp
   rw [e2]at g1;exact g1
  haveI:Inhabited DN:=⟨⟨hzero,[]⟩⟩
  obtain⟨f,hf⟩:=Deep.choose_lt cY;refine⟨some a,len,cap,(List.range len).map f,rfl,⟨by simp,fun i y hi=>?_⟩,by omega⟩;have di:=(lgeS hi).1;simp only [List.length_map,List.length_range]at di;simp [di]at hi;subst hi;obtain⟨hb,pA,pn,pc,hc,hp⟩:=hf i di;exact⟨a,pA,pn,pc,rfl,hb,trivial,hc,hp,fun _ _=>trivial⟩
end
section
variable{H:Type}{enc:TypeId×Value->H}{w:World}{base:Nat}{sp:Nat->Bool}{held:Bool}{d:DataW H}{p:List MemPlace}{v:Value}
set_option maxRecDepth 100000 in
theorem JD{t:TypeId}(et:t=al)(hv:Value.okWide prog w .any base t v)(h:∃fuel,DataW.trod enc prog w 0 sp held fuel t v.cells.toList=some (d,p)):∃hh:HT,v=.agg hh.1:=by
 have ht:prog.underlying t=some (.array 32 ju):=by rw [et];exact Di
 simp only [Value.okWide,ht]at hv;subst et;obtain⟨cs,rfl,h2,_⟩:=hv;obtain⟨fuel,h⟩:=h;exact⟨⟨cs,by simpa [Value.cells]using yT h⟩,rfl⟩
set_option maxRecDepth 100000 in
theorem DF{t:TypeId}(et:t=aF)(hv:Value.okWide prog w .any base t v)(h:∃fuel,DataW.trod enc prog w 0 sp held fuel t v.cells.toList=some (d,p)):
 ∃A n c l,v=.slice A n c/\HS w A n l/\n<=maxLen:=by
 have ht:prog.underlying t=some (.slice al):=by rw [et];exact Bq
 simp only [Value.okWide,ht,Cell.okWide]at hv;obtain⟨a0,ZF,adv,rfl⟩:∃a len cap,v=.slice a len cap:=by
  clear h;cases v<;>simp_all [Cell.ok]
 clear hv;subst et;obtain⟨fuel,h⟩:=h;obtain⟨A,n,c,l,he,h1,h2⟩:=Nk h;simp [Value.cells]at he;obtain⟨rfl,rfl,rfl⟩:=he;exact⟨_,_,_,l,rfl,h1,h2⟩
set_option maxRecDepth 100000 in
theorem GR{tS tSs:TypeId}{f0 f1:Field}(hS:prog.underlying tS=some (.struct #[f0,f1]))(h0:f0.type=al/\f0.offset=0)(h1:f1.type=aF/\f1.offset=32)
 (hcS:prog.cellsOf tS=33) (YA:prog.underlying tSs=some (.slice tS)) (hv:Value.okWide prog w .any base tSs v) (h:∃fuel,DataW.trod enc prog w 0 sp held fuel tSs v.cells.toList=some (d,p)):
 ∃A n c l,v=.slice A n c/\NS w (fun _=>True) A n l/\n<=maxLen:=by
 simp only [Value.okWide,YA,Cell.okWide]at hv;obtain⟨a0,ZF,adv,rfl⟩:∃a len cap,v=.slice a len cap:=by
  clear h;cases v<;>simp_all [Cell.ok]
 obtain⟨fuel,h⟩:=h;obtain⟨A,n,c,l,he,h1,h2⟩:=SU hS h0 h1 hcS YA h;simp [Value.cells]at he;obtain⟨rfl,rfl,rfl⟩:=he;exact⟨_,_,_,l,rfl,h1,h2⟩
theorem OM(h:Lib.VarReads prog w "math/bits.deBruijn64tab" Rows.laid_math_bits_deBruijn64tab):sS w:=by
 obtain⟨g,t,cs,fuel,p,hg,hty,aao,hd⟩:=h;obtain rfl:Tryz.kF.g 1=g:=Option.some.inj ((show prog.globalNamed "math/bits.deBruijn64tab" =some (Tryz.kF.g 1)by kernel_rfl).symm.trans hg);have ht:∃e,prog.underlying t=some (.array 64 e)/\prog.underlying e=some (.int .u8)/\prog.cellsOf e=1/\prog.cellsOf t=64:=by
  have e1:(prog.globals[Tryz.kF.g 1]?).map (·.type)=some xz:=by kernel_rfl
  obtain rfl:=Option.some.inj (e1.symm.trans hty);exact⟨ju,by kernel_rfl,W2,W5,by kernel_rfl⟩
 obtain⟨e,h1,h2,h3,h4⟩:=ht;have nW:=Lib.cells_of_tab (zs:=Lib.deBruijn64tab.map fun(n:Nat)=>(n:Int)) h1 h2 h3 h4 hd;intro j hj;rw [World.var?_cell hg aao j,<-Array.getElem?_toList,nW];simp [List.getD,hj]
end
end Go.Proofs.YtfleamccglihoaaGreatDoor
