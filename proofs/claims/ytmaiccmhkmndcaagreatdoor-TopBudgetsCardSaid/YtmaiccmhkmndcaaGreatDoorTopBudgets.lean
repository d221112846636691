/- TopBudgets (its tied card): budgets as of two times; for all inputs, under the condition that the card itself states (package-level table policies.kinds as laid). -/
import Derived.Test.YtmaiccmhkmndcaaGreatDoorChpBK
import Derived.Test.YtmaiccmhkmndcaaGreatDoorChpBL
import Derived.Test.YtmaiccmhkmndcaaGreatDoorChpBM
import Derived.Test.YtmaiccmhkmndcaaGreatDoorChpAA
import Derived.Test.YtmaiccmhkmndcaaGreatDoorRows
import Derived.Test.YtmaiccmhkmndcaaGreatDoorCards
import Derived.Test.YtmaiccmhkmndcaaGreatDoorTie
import Derived.ProofKit
import Derived.LaidMore
import Derived.SevenTiedAt
set_option linter.unusedSimpArgs false
set_option linter.unusedVariables false
set_option linter.unnecessarySimpa false
set_option maxRecDepth 100000
set_option maxHeartbeats 40000000
open Go.Proofs.Tryz renaming prog->af
open Option.some renaming inj->gH
namespace Go.Proofs.YtmaiccmhkmndcaaGreatDoor
open Go Go.Sg
section
open Go.ChangeAt Go.ChangeShapes Go.RowKit Go.WideShapes
theorem vi(os:Os)(started:os.Started)(H:Type)(enc:TypeId×Value->H):
 ReturnsInHanded {} Tryz.checked os 3 .any (λw args=>(Rows.topBudgetsSpec.pre enc af Tryz.f3 [] false w args/\laidMetH af L8 w)/\sizedMet enc af Tryz.f3 (OpenSpec.ofChange Rows.topBudgetsSpec) false w args)
  (Rows.topBudgetsSpec.post enc af Tryz.f3 false true false false):=
 PC (C:=Tryz.checked) (tb:=4) Rd.own started (by kernel_rfl) Tryz.func3
  (ChangeSpec.witness_shaped (enc:=enc) (C:=Tryz.checked) (os:=os) (X:=λw _=>laidMetH af L8 w) false (World.doorLaid af 600 os) #[.agg #[.slice none 0 0,.slice none 0 0,.slice none 0 0,.slice none 0 0,.slice none 0 0,.slice none 0 0,.slice none 0 0],.slice none 0 0,.int .i64 0,.int .i64 0,.int .i64 0] 8 rfl (World.shaped_of_RefB (by kernel_rfl) (by kernel_rfl)) (by kernel_rfl) (by kernel_rfl) (by kernel_rfl) (QZ os _))
  (by kernel_rfl) (by kernel_rfl) (by kernel_rfl) (by kernel_rfl) rfl (by kernel_rfl) (by kernel_rfl)
  (λds hds=>by match ds,hds with | [_,_,_,_,_],_=>rfl) (λ_=>TF)
  (xJ.cons Rd.aRg (xJ.cons Rd.aU (xJ.cons Rd.aI (xJ.cons Rd.aI (xJ.cons Rd.aI xJ.nil))))) (λa ha=>wy a.1 a.2.1 a.2.2.1 a.2.2.2.1 a.2.2.2.2.1 ha.2.1.2)
theorem AZ:Rows.TopBudgetsSaid:=
 OpenClaim.holds_of_wide 3 Tryz.f3 rfl rfl rfl rfl rfl rfl rfl ⟨rfl,rfl,rfl,rfl,rfl⟩ rfl rfl rfl rfl rfl (by kernel_rfl) Tryz.func3 cf
  (of_decide_eq_true (by kernel_rfl)) (by unfold Func.isWrapper;first|(rw[if_pos (by decide+kernel)];kernel_rfl)|(rw[if_neg (by decide+kernel)];exact⟨rfl,rfl⟩))
  (λos started H enc _=>vi os started H enc)
theorem topBudgets_holds:Rows.TopBudgetsCardSaid:=
 Claim7.holds_tied_plain_at .later [] [.funcs] true (true, "33f02b274533be2d69bd84404f0f75d7b0760e3900b2d886396a69193c991213") true
  AZ (λ_ h=>by cases h) (by kernel_rfl) (λ_ h=>by cases h) topBudgets_row_tie rfl ⟨rfl,rfl⟩ (by kernel_rfl) rfl
  (λf fn hf hfn=>by
    obtain rfl:f=3:=gH ((show af.funcNamed Rows.topBudgetsRow.func=some 3 by kernel_rfl).symm.trans hf) |>.symm;obtain rfl:fn=Tryz.f3:=(gH (Tryz.func3.symm.trans hfn)).symm
    exact⟨by kernel_rfl,λj t ht=>by
     rw[Tryz.params3] at ht
     have hm:t∈[30,31,3]:=by
      have:=Array.mem_of_getElem? ht;simp at this ⊢;omega
     have qQ:([30,31,3].all λu=> !Tryz.prog.wantsStandIn u)=true:=by kernel_rfl
     exact(show af.wantsStandIn t=false by simpa using List.all_eq_true.1 qQ t hm)⟩)
  (by kernel_rfl)
end
end Go.Proofs.YtmaiccmhkmndcaaGreatDoor
#print axioms Go.Proofs.YtmaiccmhkmndcaaGreatDoor.topBudgets_holds
