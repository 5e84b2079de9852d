/- For all arguments FnExactTableText returns true and leaves them as they were: the row and its card: no condition but the row's own. -/
import Derived.Test.YtkbnfpldnpeliaaGreatDoorJ10
set_option linter.unusedVariables false
set_option linter.unusedSimpArgs false
namespace Go.Proofs.YtkbnfpldnpeliaaGreatDoor.tableText
open Go Go.Proofs Go.V Go.ChangeShapes Go.WideShapes Go.ChangeAt Go.RowKit
set_option maxRecDepth 100000
theorem laid_met (os:Os):laidMet Tryz.prog Rows.fnExactTableTextRow.laid ((Al7 os).forCall (fun _ _=>0) ⟨#[],#[Apv,Arm],[]⟩).memory:=laidMet_of_run' 8 (by kernel_rfl) (by kernel_rfl)
theorem reads (os:Os){H:Type}(enc:TypeId × Value→H):∃ places,DataW.whole enc Tryz.prog ((Al7 os).forCall (fun _ _=>0) ⟨#[],#[Apv,Arm],[]⟩).memory Tryz.f6.params.toList Rows.fnExactTableTextSpec.vars false #[Apv,Arm].toList 8=some ([.agg [.lit (.int .i64 0),.lit (.string []),.lit (.int .i64 0),.nil],.agg [.lit (.int .i64 0),.lit (.int .i64 0),.nil,.nil]],[.agg (condB.map fun b=>.lit (.string b)),.agg [.lit (.int .i64 1),.lit (.int .i64 0)]],places) :=
 ⟨MemPlace.row ⟨5,0,none⟩ 6++MemPlace.row ⟨0,0,none⟩ 2,by kernel_rfl⟩
theorem lifted (os:Os)(started:os.Started)(H:Type)(enc:TypeId × Value→H)(F:Stop.Interp) :
 ReturnsInHanded {} Tryz.checked os 6 .any ((OpenSpec.ofChange Rows.fnExactTableTextSpec).preRow enc Tryz.prog Tryz.f6 Rows.fnExactTableTextRow.domain false Rows.fnExactTableTextRow.laid)
  (((OpenSpec.ofChange Rows.fnExactTableTextSpec).at F).post enc Tryz.prog Tryz.f6 false true false false):=by
 obtain ⟨places,hx⟩:=reads os enc
 refine returnsInHanded_of_row (C:=Tryz.checked) (s:=OpenSpec.ofChange Rows.fnExactTableTextSpec) Axk started (by kernel_rfl) Tryz.func6
  (witness_row_at (enc:=enc) (C:=Tryz.checked) false (Al7 os) #[Apv,Arm] rfl (by kernel_rfl) (by kernel_rfl) (by kernel_rfl)
    (OpenSpec.preRow_of_cond 8 hx (by kernel_rfl) (fun k hk=>by cases hk) (by kernel_rfl) (laid_met os))) ?_
 intro W base args ds gs before hval hW _ _ _ hL hs _
 exact Ak9 H enc W base args ds gs before hval hW hL hs
theorem said:Rows.FnExactTableTextSaid :=
 OpenClaim.holds_of_cond 6 Tryz.f6 rfl rfl rfl rfl rfl rfl rfl ⟨rfl,rfl,rfl,rfl,rfl⟩ rfl rfl rfl rfl rfl (by kernel_rfl) Tryz.func6 As2
  (of_decide_eq_true (by kernel_rfl)) (by unfold Func.isWrapper;first | (rw [if_pos (by decide +kernel)];kernel_rfl) | (rw [if_neg (by decide +kernel)];exact ⟨rfl,rfl⟩))
  (fun os started H enc _ F=>by rw [OpenClaim.pre_eq_preRow];exact lifted os started H enc F)
theorem plain (f:FuncId)(fn:Func)(hf:Tryz.pinned.checked.prog.funcNamed "loop.example/g00093/laws.FnExactTableText" = some f)(hfn:Tryz.pinned.checked.prog.funcs[f]?=some fn) :
 true=Tryz.pinned.checked.prog.looks []∧∀ (j:Nat) t,fn.params[j]?=some t→Tryz.pinned.checked.prog.wantsStandIn t=false:=by
 obtain rfl:f=6:=Option.some.inj ((show Tryz.prog.funcNamed "loop.example/g00093/laws.FnExactTableText" = some 6 by kernel_rfl).symm.trans hf) |>.symm
 obtain rfl:fn=Tryz.f6:=(Option.some.inj (Tryz.func6.symm.trans hfn)).symm
 refine ⟨by kernel_rfl,fun j t ht=>?_⟩
 have ht':(#[24,55]:Array Nat)[j]?=some t:=ht
 have h:t=24∨t=55:=by simpa using Array.mem_of_getElem? ht'
 rcases h with rfl | rfl
 ·exact (show Tryz.prog.wantsStandIn 24=false by kernel_rfl)
 ·exact (show Tryz.prog.wantsStandIn 55=false by kernel_rfl)
theorem card:Rows.FnExactTableTextCardSaid :=
 Claim7.holds_tied_plain_at .later [] _ _ _ _ said (fun _ h=>by cases h) (by kernel_rfl) (fun _ h=>by cases h) fnExactTableText_row_tie rfl ⟨rfl,rfl⟩ (by kernel_rfl) rfl plain (by kernel_rfl)
#print axioms card
end Go.Proofs.YtkbnfpldnpeliaaGreatDoor.tableText
