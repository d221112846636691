/- A part of the proof: contracts of the functions that the statement reaches. -/
import Derived.Test.YtgclicahmbgfiaaChp1
set_option linter.unusedSimpArgs false
set_option linter.unusedVariables false
set_option linter.unnecessarySimpa false
open Go.Sg.XAlt renaming l → kX
open Go.Sg.Sq renaming pr → kP
open Go.Sg.Br renaming tt → kT, ff → kF, not → kN, dec → kBd, mk → kBm
open Go.Sg.Opt renaming nn → kO, ss → kS
open Go.Sg.AltA renaming l → kA
open Go.Sg.PV renaming leL_cons → kC
open Go.Sg renaming fits_i64 → kG
open Go.Sg.VLe renaming pe → kVp, agg → kVa, tup → kVt, fn → kVf
open Go.Sg.VLeL renaming cons → kVc
open Go.Sg.OLe renaming rowe2 → kQw, mape → kQm, itere → kQj, chane → kQc, mapSe → kQs
open Go.Sg.HpLe renaming dd → kHd, mk → kHm
namespace Go.Proofs.Ytgclicahmbgfiaa
open Go Go.Sg
set_option maxRecDepth 100000
set_option maxHeartbeats 20000000
def txB (x y : Dc) : Bool := (decide (x.tx 0 = y.tx 0) && (decide (x.tx 1 = y.tx 1) && (decide (x.tx 2 = y.tx 2) && (decide (x.tx 3 = y.tx 3) && (decide (x.tx 4 = y.tx 4) && (decide (x.tx 5 = y.tx 5) && (decide (x.tx 6 = y.tx 6) && (decide (x.tx 7 = y.tx 7) && (decide (x.tx 8 = y.tx 8) && (decide (x.tx 9 = y.tx 9) && (decide (x.tx 10 = y.tx 10) && (decide (x.tx 11 = y.tx 11) && (decide (x.tx 12 = y.tx 12) && (decide (x.tx 13 = y.tx 13) && (decide (x.tx 14 = y.tx 14) && (decide (x.tx 15 = y.tx 15) && (decide (x.tx 16 = y.tx 16) && (decide (x.tx 17 = y.tx 17) && (decide (x.tx 18 = y.tx 18) && (decide (x.tx 19 = y.tx 19) && (decide (x.tx 20 = y.tx 20) && (decide (x.tx 21 = y.tx 21) && (decide (x.tx 22 = y.tx 22) && (decide (x.tx 23 = y.tx 23) && (decide (x.tx 24 = y.tx 24) && (decide (x.tx 25 = y.tx 25) && (decide (x.tx 26 = y.tx 26) && (decide (x.tx 27 = y.tx 27) && (decide (x.tx 28 = y.tx 28) && (decide (x.tx 29 = y.tx 29) && (decide (x.tx 30 = y.tx 30) && decide (x.tx 31 = y.tx 31))))))))))))))))))))))))))))))))
def numB (x y : Dc) : Bool := decide (x.no = y.no) && decide (x.tm = y.tm) && decide (x.kind = y.kind) && decide (x.val = y.val) && decide (x.frm = y.frm) && decide (x.til = y.til)
def lisB (x y : Dc) : Bool := decide (x.par = y.par) && decide (x.rev = y.rev) && decide (x.need = y.need)
def sameDB (x y : Dc) : Bool := numB x y && lisB x y && txB x y
theorem sameDB_refl (x : Dc) : sameDB x x = true := by simp [sameDB, numB, lisB, txB]
theorem sameD_calls (x y : Dc) (h1 : x.par.length < 1000000) (h2 : x.rev.length < 1000000) (h3 : x.need.length < 1000000) : PCalls Try.prog 32 [eA x, eA y] (.bool (sameDB x y)) := by
  have q1 := sameI_calls x.par y.par h1
  have q2 := sameI_calls x.rev y.rev h2
  have q3 := sameI_calls x.need y.need h3
  refine PCalls.of (N := 73) (res := [.tmp 4]) mixed Try.func32 rfl rfl rfl (by kernel_rfl) (by simp) [0, 1, 2, 3, 4] ?_
  repeat' (first | exact cl1 | (refine stx ?_; first | exact exHM _ | refine exU8 ?_) | ((with_reducible show callX _ _ _ _ _); (first | refine call_p (q1) (by kernel_rfl) rfl ?_ | refine call_p (q2) (by kernel_rfl) rfl ?_ | refine call_p (q3) (by kernel_rfl) rfl ?_)) | ((fail_if_success refine stp ?_); (conv => whnf) <;> (first | exact cl2 | refine kX ?_ | refine kP ?_ | refine kBd (fun hc => ?_) (fun hc => ?_) | refine kT ?_ | refine kF ?_ | refine kN ?_ | refine kBm (fun hc => ?_) (fun hc => ?_) | refine kO ?_ | refine kS ?_ | refine kA ?_ | exact PV.leL_nil | refine kC ?_ ?_ | refine And.intro ?_ ?_ | refine ix_map (fun x hx => ?_) | refine exU8 ?_ | refine nilc (fun hn => ?_) ?_ | exact cl3 | refine imp0 (fun hpos => ?_) | refine kG ?_ ?_ | exact rfl | exact trivial | (first | refine stq ?_ | fail)))) <;> (try exact cl5)
  all_goals first
  | (refine LeG.bool ?_
     have hn : numB x y = true := by simp [numB, *]
     have hl : lisB x y = true := by simp [lisB, *]
     unfold sameDB
     rw [hn, hl]
     rfl)
  | (have hn : sameDB x y = false := by simp [sameDB, numB, lisB, *]
     rw [hn]; exact LeG.refl _)
def sameLB : List Dc → List Dc → Bool
  | [], [] => true
  | x :: r, y :: s => sameDB x y && sameLB r s
  | _, _ => false
theorem sameLB_refl : ∀ l, sameLB l l = true
  | [] => rfl
  | x :: r => by rw [sameLB, sameDB_refl, sameLB_refl r]; rfl
theorem sameLB_len : ∀ {a b : List Dc}, a.length ≠ b.length → sameLB a b = false
  | [], [], h => absurd rfl h
  | [], _ :: _, _ => rfl
  | _ :: _, [], _ => rfl
  | x :: r, y :: s, h => by rw [sameLB, sameLB_len (a := r) (b := s) (fun e => h (by simp [e])), Bool.and_false]
theorem same_calls (a b : List Dc) (hl : a.length < 1000000) (hd : ∀ x ∈ a, x.par.length < 1000000 ∧ x.rev.length < 1000000 ∧ x.need.length < 1000000) : PCalls Try.prog 19 [eL a, eL b] (.bool (sameLB a b)) := by
  by_cases hab : a.length = b.length
  case neg =>
    have h : ((a.map eA).length : Int) ≠ ((b.map eA).length : Int) := by simp only [List.length_map]; omega
    rw [sameLB_len hab]
    refine PCalls.of (N := 27) (res := [.tmp 4]) mixed Try.func19 rfl rfl rfl (by kernel_rfl) (by simp) [0, 1, 4, 5, 10, 14, 26] ?_
    repeat' (first | exact cl1 | (refine stx ?_; first | exact exHM _ | refine exU8 ?_) | ((fail_if_success refine stp ?_); (conv => whnf) <;> (first | exact cl2 | refine kBy h fun hc => ?_ | refine kX ?_ | refine kP ?_ | refine kBd (fun hc => ?_) (fun hc => ?_) | refine kT ?_ | refine kF ?_ | refine kN ?_ | refine kBm (fun hc => ?_) (fun hc => ?_) | refine kO ?_ | refine kS ?_ | refine kA ?_ | exact PV.leL_nil | refine kC ?_ ?_ | refine And.intro ?_ ?_ | refine ix_map (fun x hx => ?_) | refine exU8 ?_ | refine nilc (fun hn => ?_) ?_ | exact cl3 | refine imp0 (fun hpos => ?_) | refine kG ?_ ?_ | exact rfl | exact trivial | (first | refine stq ?_ | fail)))) <;> (try exact cl5)
  have h : ¬ ((a.map eA).length : Int) ≠ ((b.map eA).length : Int) := by simp only [List.length_map]; omega
  refine PCalls.of (N := 27) (res := [.tmp 4]) mixed Try.func19 rfl rfl rfl (by kernel_rfl) (by simp) [0, 1, 4, 5, 10, 14, 26] ?_
  repeat' (first | exact cl1 | (refine stx ?_; first | exact exHM _ | refine exU8 ?_) | ((fail_if_success refine stp ?_); (conv => whnf) <;> (first | exact cl2 | refine kBn h fun hc => ?_ | refine kX ?_ | refine kP ?_ | refine kBd (fun hc => ?_) (fun hc => ?_) | refine kT ?_ | refine kF ?_ | refine kN ?_ | refine kBm (fun hc => ?_) (fun hc => ?_) | refine kO ?_ | refine kS ?_ | refine kA ?_ | exact PV.leL_nil | refine kC ?_ ?_ | refine And.intro ?_ ?_ | refine ix_map (fun x hx => ?_) | refine exU8 ?_ | refine nilc (fun hn => ?_) ?_ | exact cl3 | refine imp0 (fun hpos => ?_) | refine kG ?_ ?_ | exact rfl | exact trivial | (first | refine stq ?_ | fail)))) <;> (try exact cl5)
  refine Wpc.loopB (α := {i : Nat // i ≤ a.length ∧ sameLB (a.drop i) (b.drop i) = sameLB a b}) mixed [0, 1, 4, 5, 10, 14, 26] (fun i => [(5, .p (eI i.1))]) (fun i => a.length - i.1) ⟨0, by omega, rfl⟩ ?_ ?_
  · (first | refine Ent.ofA [] ?_ | refine Ent.ofC [] ?_) <;> (repeat' (first | exact trivial | refine kHd ?_ | refine kHm rfl (by simp) rfl (fun h => AObj.noConfusion h) ?_ ?_ | refine And.intro ?_ ?_ | exact cl9 | refine kVp ?_ | refine kVa ?_ | refine kVt ?_ | refine kVf ?_ ?_ | refine kVc ?_ ?_ | exact VLeL.nil | exact OLe.row _ _ | rfl | refine VLe.rsle rfl ?_ ?_ ?_ | refine kQw ?_ ?_ | refine kQm ?_ ?_ | refine kQj ?_ ?_ | refine kQc ?_ ?_ | refine kQs ?_ ?_ ?_ | exact OLe.mapS0 rfl)) <;> try exact kZ
  rintro ⟨i, hi, hq⟩
  have hi : i ≤ a.length := hi
  have hq : sameLB (a.drop i) (b.drop i) = sameLB a b := hq
  cases hx : a[i]? with
  | none =>
    have hge : a.length ≤ i := List.getElem?_eq_none_iff.1 hx
    have hno : ¬ ((i : Int) < ((a.map eA).length : Int)) := by rw [List.length_map]; omega
    rw [List.drop_eq_nil_of_le hge, List.drop_eq_nil_of_le (by omega)] at hq
    repeat' (first | exact cl1 | (refine stx ?_; first | exact exHM _ | refine exU8 ?_) | ((fail_if_success refine stp ?_); (conv => whnf) <;> (first | exact cl2 | refine kBn hno fun hc => ?_ | refine kX ?_ | refine kP ?_ | refine kBd (fun hc => ?_) (fun hc => ?_) | refine kT ?_ | refine kF ?_ | refine kN ?_ | refine kBm (fun hc => ?_) (fun hc => ?_) | refine kO ?_ | refine kS ?_ | refine kA ?_ | exact PV.leL_nil | refine kC ?_ ?_ | refine And.intro ?_ ?_ | refine ix_map (fun x hx => ?_) | refine exU8 ?_ | refine nilc (fun hn => ?_) ?_ | exact cl3 | refine imp0 (fun hpos => ?_) | refine kG ?_ ?_ | exact rfl | exact trivial | (first | refine stq ?_ | fail)))) <;> (try exact cl5)
    rw [← hq]; exact LeG.refl _
  | some x =>
    have hlt : i < a.length := (List.getElem?_eq_some_iff.1 hx).1
    have hyes : ((i : Int) < ((a.map eA).length : Int)) := by rw [List.length_map]; omega
    obtain ⟨y, hy⟩ : ∃ y, b[i]? = some y := ⟨_, List.getElem?_eq_getElem (by omega)⟩
    obtain ⟨d1, d2, d3⟩ := hd x (List.mem_of_getElem? hx)
    have q := sameD_calls x y d1 d2 d3
    have ea : a.drop i = x :: a.drop (i + 1) := by rw [List.drop_eq_getElem_cons hlt]; congr 1; exact (List.getElem?_eq_some_iff.1 hx).2
    have eb : b.drop i = y :: b.drop (i + 1) := by rw [List.drop_eq_getElem_cons (by omega)]; congr 1; exact (List.getElem?_eq_some_iff.1 hy).2
    rw [ea, eb, sameLB] at hq
    cases hs : sameDB x y with
    | false =>
      rw [hs] at q hq
      repeat' (first | exact cl1 | (refine stx ?_; first | exact exHM _ | refine exU8 ?_) | ((with_reducible show callX _ _ _ _ _); (first | refine call_p (q) (by kernel_rfl) rfl ?_)) | ((fail_if_success refine stp ?_); (conv => whnf) <;> (first | exact cl2 | refine kBy hyes fun hc => ?_ | refine ix_at hx ?_ | refine ix_at hy ?_ | refine kX ?_ | refine kP ?_ | refine kBd (fun hc => ?_) (fun hc => ?_) | refine kT ?_ | refine kF ?_ | refine kN ?_ | refine kBm (fun hc => ?_) (fun hc => ?_) | refine kO ?_ | refine kS ?_ | refine kA ?_ | exact PV.leL_nil | refine kC ?_ ?_ | refine And.intro ?_ ?_ | refine ix_map (fun x hx => ?_) | refine exU8 ?_ | refine nilc (fun hn => ?_) ?_ | exact cl3 | refine imp0 (fun hpos => ?_) | refine kG ?_ ?_ | exact rfl | exact trivial | (first | refine stq ?_ | fail)))) <;> (try exact cl5)
      rw [← hq]; exact LeG.refl _
    | true =>
      rw [hs, Bool.true_and] at hq
      rw [hs] at q
      repeat' (first | exact cl1 | (refine stx ?_; first | exact exHM _ | refine exU8 ?_) | ((with_reducible show callX _ _ _ _ _); (first | refine call_p (q) (by kernel_rfl) rfl ?_)) | ((fail_if_success refine stp ?_); (conv => whnf) <;> (first | exact cl2 | refine kBy hyes fun hc => ?_ | refine ix_at hx ?_ | refine ix_at hy ?_ | refine kX ?_ | refine kP ?_ | refine kBd (fun hc => ?_) (fun hc => ?_) | refine kT ?_ | refine kF ?_ | refine kN ?_ | refine kBm (fun hc => ?_) (fun hc => ?_) | refine kO ?_ | refine kS ?_ | refine kA ?_ | exact PV.leL_nil | refine kC ?_ ?_ | refine And.intro ?_ ?_ | refine ix_map (fun x hx => ?_) | refine exU8 ?_ | refine nilc (fun hn => ?_) ?_ | exact cl3 | refine imp0 (fun hpos => ?_) | refine kG ?_ ?_ | exact rfl | exact trivial | (first | refine stq ?_ | fail)))) <;> (try exact cl5)
      refine ⟨⟨i + 1, hlt, hq⟩, by show a.length - (i + 1) < a.length - i; omega, ?_⟩
      (first | refine Ent.ofA [] ?_ | refine Ent.ofC [] ?_) <;> (repeat' (first | exact trivial | refine kHd ?_ | refine kHm rfl (by simp) rfl (fun h => AObj.noConfusion h) ?_ ?_ | refine And.intro ?_ ?_ | exact cl9 | refine kVp ?_ | refine kVa ?_ | refine kVt ?_ | refine kVf ?_ ?_ | refine kVc ?_ ?_ | exact VLeL.nil | exact OLe.row _ _ | rfl | refine VLe.rsle rfl ?_ ?_ ?_ | refine kQw ?_ ?_ | refine kQm ?_ ?_ | refine kQj ?_ ?_ | refine kQc ?_ ?_ | refine kQs ?_ ?_ ?_ | exact OLe.mapS0 rfl)) <;> try exact kZ
end Go.Proofs.Ytgclicahmbgfiaa

namespace Go.Proofs.Ytgclicahmbgfiaa
open Go Go.Sg
set_option maxRecDepth 100000
set_option maxHeartbeats 20000000
theorem PCalls_leA {P : Program} {f : FuncId} {a b : List PV} {r : PV} (h : PCalls P f b r) (hl : PV.leL a b) : PCalls P f a r := fun F w vs hF hvs hrv => h F w vs hF (hvs.trans hl.1) fun i q hq => by
  obtain ⟨p, hp⟩ : ∃ p, a[i]? = some p := ⟨_, List.getElem?_eq_getElem (by have := (List.getElem?_eq_some_iff.1 hq).1; rw [hl.1]; exact this)⟩
  exact hl.2 i p q hp hq F w _ (hrv i p hp)
def mkD (n : Int) (r s : List Int) : Dc := ⟨n, 0, 0, 0, 10, 100, [], r, s, fun _ => 0⟩
theorem doc_calls (n : Int) (r s : List Int) : PCalls Try.prog 33 [eI n, eIs r, eIs s] (eA (mkD n r s)) := by
  refine PCalls.of (N := 11) (res := [.cell 6 27]) mixed Try.func33 rfl rfl rfl (by kernel_rfl) (by simp) [0, 1, 2, 6] ?_
  repeat' (first | exact cl1 | (refine stx ?_; first | exact exHM _ | refine exU8 ?_) | ((fail_if_success refine stp ?_); (conv => whnf) <;> (first | exact cl2 | refine kX ?_ | refine kP ?_ | refine kBd (fun hc => ?_) (fun hc => ?_) | refine kT ?_ | refine kF ?_ | refine kN ?_ | refine kBm (fun hc => ?_) (fun hc => ?_) | refine kO ?_ | refine kS ?_ | refine kA ?_ | exact PV.leL_nil | refine kC ?_ ?_ | refine And.intro ?_ ?_ | refine ix_map (fun x hx => ?_) | refine exU8 ?_ | refine nilc (fun hn => ?_) ?_ | exact cl3 | refine imp0 (fun hpos => ?_) | refine kG ?_ ?_ | exact rfl | exact trivial | (first | refine stq ?_ | fail)))) <;> (try exact cl5)
  all_goals exact LeG.mk (PV.le_agg (PV.leL_cons (PV.le_refl _) (PV.leL_cons (PV.le_refl _) (PV.leL_cons (PV.le_refl _) (PV.leL_cons (PV.le_refl _) (PV.leL_cons (PV.le_refl _) (PV.leL_cons (PV.le_refl _) (PV.leL_cons (PV.le_nil _ _ _) (PV.leL_refl _)))))))))
def whyB (l : List Dc) (sg : List Int) (no at_ s b : Int) : Bool := decide ((whyA l sg no at_).2.2 = 0) && decide ((whyA l sg no at_).1 = s) && decide ((whyA l sg no at_).2.1 = b)
theorem whyb_calls (l : List Dc) (sg : List Int) (no at_ s b : Int) (hl : l.length ≤ 20) (hd : ∀ x ∈ l, okF x) (hsl : sg.length < 1000000) : PCalls Try.prog 34 [eL l, eIs sg, eI no, eI at_, eI s, eI b] (.bool (whyB l sg no at_ s b)) := by
  have q := why_calls l sg no at_ hl hd hsl
  unfold whyB
  generalize whyA l sg no at_ = w at *
  refine PCalls.of (N := 37) (res := [.tmp 12]) mixed Try.func34 rfl rfl rfl (by kernel_rfl) (by simp) [0, 1, 2, 3, 4, 5, 12, 13, 14, 15] ?_
  repeat' (first | exact cl1 | (refine stx ?_; first | exact exHM _ | refine exU8 ?_) | ((with_reducible show callX _ _ _ _ _); (first | refine call_p (q) (by kernel_rfl) rfl ?_)) | ((fail_if_success refine stp ?_); (conv => whnf) <;> (first | exact cl2 | refine kX ?_ | refine kP ?_ | refine kBd (fun hc => ?_) (fun hc => ?_) | refine kT ?_ | refine kF ?_ | refine kN ?_ | refine kBm (fun hc => ?_) (fun hc => ?_) | refine kO ?_ | refine kS ?_ | refine kA ?_ | exact PV.leL_nil | refine kC ?_ ?_ | refine And.intro ?_ ?_ | refine ix_map (fun x hx => ?_) | refine exU8 ?_ | refine nilc (fun hn => ?_) ?_ | exact cl3 | refine imp0 (fun hpos => ?_) | refine kG ?_ ?_ | exact rfl | exact trivial | (first | refine stq ?_ | fail)))) <;> (try exact cl5)
  all_goals (refine LeG.bool ?_; simp_all)
theorem check_lim (L : List PV) (h : (4096 : Int) < (L.length : Int)) : PCalls Try.prog 17 [.sl 41 false L] (eI 2) := by
  refine PCalls.of (N := 43) (res := [.tmp 2]) mixed Try.func17 rfl rfl rfl (by kernel_rfl) (by simp) [0, 2, 3, 4, 5, 8, 11, 12, 13, 14, 41] ?_
  repeat' (first | exact cl1 | (refine stx ?_; first | exact exHM _ | refine exU8 ?_) | ((fail_if_success refine stp ?_); (conv => whnf) <;> (first | exact cl2 | refine kBy h fun hc => ?_ | refine kX ?_ | refine kP ?_ | refine kBd (fun hc => ?_) (fun hc => ?_) | refine kT ?_ | refine kF ?_ | refine kN ?_ | refine kBm (fun hc => ?_) (fun hc => ?_) | refine kO ?_ | refine kS ?_ | refine kA ?_ | exact PV.leL_nil | refine kC ?_ ?_ | refine And.intro ?_ ?_ | refine ix_map (fun x hx => ?_) | refine exU8 ?_ | refine nilc (fun hn => ?_) ?_ | exact cl3 | refine imp0 (fun hpos => ?_) | refine kG ?_ ?_ | exact rfl | exact trivial | (first | refine stq ?_ | fail)))) <;> (try exact cl5)
def d0 : Dc := mkD 0 [] []
def d1 : Dc := mkD 1 [] [0]
def f1 : Dc := mkD 1 [] []
def d2 : Dc := mkD 2 [1] []
def d3 : Dc := mkD 3 [2] []
def g0 : Dc := mkD 0 [0] []
theorem ok2 : ∀ x ∈ [d0, d1], okF x := fun x hx => by
  simp only [List.mem_cons, List.not_mem_nil, or_false] at hx
  rcases hx with rfl | rfl <;> exact ⟨by decide, by decide, by decide⟩
theorem ok4 : ∀ x ∈ [d0, f1, d2, d3], okF x := fun x hx => by
  simp only [List.mem_cons, List.not_mem_nil, or_false] at hx
  rcases hx with rfl | rfl | rfl | rfl <;> exact ⟨by decide, by decide, by decide⟩
theorem okN0 : ∀ x ∈ ([] : List Dc), okF x := fun x hx => by cases hx
theorem m0 : PCalls Try.prog 33 [eI 0, eIs [], eIs []] (eA d0) := by exact doc_calls 0 [] []
theorem m1 : PCalls Try.prog 33 [eI 1, eIs [], eIs [0]] (eA d1) := by exact doc_calls 1 [] [0]
theorem m2 : PCalls Try.prog 33 [eI 1, eIs [], eIs []] (eA f1) := by exact doc_calls 1 [] []
theorem m3 : PCalls Try.prog 33 [eI 2, eIs [1], eIs []] (eA d2) := by exact doc_calls 2 [1] []
theorem m4 : PCalls Try.prog 33 [eI 3, eIs [2], eIs []] (eA d3) := by exact doc_calls 3 [2] []
theorem m5 : PCalls Try.prog 33 [eI 0, eIs [0], eIs []] (eA g0) := by exact doc_calls 0 [0] []
theorem w0 : PCalls Try.prog 34 [eL [d0, d1], eIs [7, 5], eI 1, eI 9, eI 4, eI 0] (.bool true) := by have h := whyb_calls [d0, d1] [7, 5] 1 9 4 0 (by decide) ok2 (by decide); rwa [show whyB [d0, d1] [7, 5] 1 9 4 0 = true from by kernel_rfl] at h
theorem w1 : PCalls Try.prog 34 [eL [d0, d1], eIs [7, 12], eI 1, eI 20, eI 0, eI (-1)] (.bool true) := by have h := whyb_calls [d0, d1] [7, 12] 1 20 0 (-1) (by decide) ok2 (by decide); rwa [show whyB [d0, d1] [7, 12] 1 20 0 (-1) = true from by kernel_rfl] at h
theorem w2 : PCalls Try.prog 34 [eL [d0, d1], eIs [7, 8], eI 1, eI 20, eI 4, eI 0] (.bool true) := by have h := whyb_calls [d0, d1] [7, 8] 1 20 4 0 (by decide) ok2 (by decide); rwa [show whyB [d0, d1] [7, 8] 1 20 4 0 = true from by kernel_rfl] at h
theorem w3 : PCalls Try.prog 34 [eL [d0, d1], eIs [7, 12], eI 1, eI 11, eI 1, eI (-1)] (.bool true) := by have h := whyb_calls [d0, d1] [7, 12] 1 11 1 (-1) (by decide) ok2 (by decide); rwa [show whyB [d0, d1] [7, 12] 1 11 1 (-1) = true from by kernel_rfl] at h
theorem w4 : PCalls Try.prog 34 [eL [d0, f1, d2, d3], eIs [-1, 1, 2, 3], eI 1, eI 50, eI 5, eI 2] (.bool true) := by have h := whyb_calls [d0, f1, d2, d3] [-1, 1, 2, 3] 1 50 5 2 (by decide) ok4 (by decide); rwa [show whyB [d0, f1, d2, d3] [-1, 1, 2, 3] 1 50 5 2 = true from by kernel_rfl] at h
theorem w5 : PCalls Try.prog 34 [eL [d0, f1, d2, d3], eIs [-1, 1, 2, 3], eI 2, eI 50, eI 5, eI 3] (.bool true) := by have h := whyb_calls [d0, f1, d2, d3] [-1, 1, 2, 3] 2 50 5 3 (by decide) ok4 (by decide); rwa [show whyB [d0, f1, d2, d3] [-1, 1, 2, 3] 2 50 5 3 = true from by kernel_rfl] at h
theorem w6 : PCalls Try.prog 34 [eL [d0, f1, d2, d3], eIs [-1, 1, 2, 3], eI 3, eI 9, eI 2, eI (-1)] (.bool true) := by have h := whyb_calls [d0, f1, d2, d3] [-1, 1, 2, 3] 3 9 2 (-1) (by decide) ok4 (by decide); rwa [show whyB [d0, f1, d2, d3] [-1, 1, 2, 3] 3 9 2 (-1) = true from by kernel_rfl] at h
theorem w7 : PCalls Try.prog 34 [eL [d0, f1, d2, d3], eIs [-1, 1, 2, 3], eI 3, eI 100, eI 3, eI (-1)] (.bool true) := by have h := whyb_calls [d0, f1, d2, d3] [-1, 1, 2, 3] 3 100 3 (-1) (by decide) ok4 (by decide); rwa [show whyB [d0, f1, d2, d3] [-1, 1, 2, 3] 3 100 3 (-1) = true from by kernel_rfl] at h
theorem w8 : PCalls Try.prog 34 [eL [d0, f1, d2, d3], eIs [-1, 1, 2, 3], eI 1, eI 1, eI 2, eI (-1)] (.bool true) := by have h := whyb_calls [d0, f1, d2, d3] [-1, 1, 2, 3] 1 1 2 (-1) (by decide) ok4 (by decide); rwa [show whyB [d0, f1, d2, d3] [-1, 1, 2, 3] 1 1 2 (-1) = true from by kernel_rfl] at h
theorem n0 : PCalls Try.prog 20 [eL [d0, f1, d2, d3], eIs [-1, 1, 2, 3], eI 50] (eI2 ([3], 0)) := by have h := inForce_calls [d0, f1, d2, d3] [-1, 1, 2, 3] 50 (by decide) ok4 (by decide); rwa [show inA [d0, f1, d2, d3] [-1, 1, 2, 3] 50 = ([3], 0) from by kernel_rfl] at h
theorem n1 : PCalls Try.prog 20 [eL [], eIs [], eI 0] (eI2 ([], 0)) := by have h := inForce_calls [] [] 0 (by decide) okN0 (by decide); rwa [show inA [] [] 0 = ([], 0) from by kernel_rfl] at h
theorem n2 : PCalls Try.prog 20 [eL [d0, d1], eIs [7], eI 0] (eI2 ([], 1)) := by have h := inForce_calls [d0, d1] [7] 0 (by decide) ok2 (by decide); rwa [show inA [d0, d1] [7] 0 = ([], 1) from by kernel_rfl] at h
theorem n3 : PCalls Try.prog 20 [eL [d0, d1], eIs [7, -2], eI 0] (eI2 ([], 1)) := by have h := inForce_calls [d0, d1] [7, -2] 0 (by decide) ok2 (by decide); rwa [show inA [d0, d1] [7, -2] 0 = ([], 1) from by kernel_rfl] at h
theorem y0 : PCalls Try.prog 22 [eL [], eIs [], eI 0, eI 0] (eW3 (0, 0, 1)) := by have h := why_calls [] [] 0 0 (by decide) okN0 (by decide); rwa [show whyA [] [] 0 0 = (0, 0, 1) from by kernel_rfl] at h
theorem a0 : PCalls Try.prog 13 [eL [], eA d1] (eR ([], 170)) := by have h := add_calls [] d1 (by decide) (fun y hy => (okN0 y hy).e) (ok2 d1 (by simp)).e; rwa [show addA [] d1 = ([], 170) from by kernel_rfl] at h
theorem a1 : PCalls Try.prog 13 [eL [], eA d0] (eR ([d0], 0)) := by have h := add_calls [] d0 (by decide) (fun y hy => (okN0 y hy).e) (ok2 d0 (by simp)).e; rwa [show addA [] d0 = ([d0], 0) from by kernel_rfl] at h
theorem a2 : PCalls Try.prog 13 [eL [d0, d1], eA d1] (eR ([], 151)) := by have h := add_calls [d0, d1] d1 (by decide) (fun y hy => (ok2 y hy).e) (ok2 d1 (by simp)).e; rwa [show addA [d0, d1] d1 = ([], 151) from by kernel_rfl] at h
theorem k0 : PCalls Try.prog 17 [eL []] (eI 0) := by have h := check_calls [] (by decide) (fun y hy => (okN0 y hy).e); rwa [show chkA [] = 0 from by kernel_rfl] at h
theorem k1 : PCalls Try.prog 17 [eL [d0, d1]] (eI 0) := by have h := check_calls [d0, d1] (by decide) (fun y hy => (ok2 y hy).e); rwa [show chkA [d0, d1] = 0 from by kernel_rfl] at h
theorem k2 : PCalls Try.prog 17 [eL [d1]] (eI 170) := by have h := check_calls [d1] (by decide) (fun y hy => (ok2 y (by simp only [List.mem_cons, List.not_mem_nil, or_false] at hy; subst hy; simp)).e); rwa [show chkA [d1] = 170 from by kernel_rfl] at h
def z0 : Dc := ⟨0, 0, 0, 0, 0, 0, [], [], [], fun _ => 0⟩
def zA : PV := .agg [eI 0, eI 0, eI 0, eI 0, eI 0, eI 0, .sl 0 true [], .sl 0 true [], .sl 0 true [], u8 0, u8 0, u8 0, u8 0, u8 0, u8 0, u8 0, u8 0, u8 0, u8 0, u8 0, u8 0, u8 0, u8 0, u8 0, u8 0, u8 0, u8 0, u8 0, u8 0, u8 0, u8 0, u8 0, u8 0, u8 0, u8 0, u8 0, u8 0, u8 0, u8 0, u8 0, u8 0]
theorem zA_le : PV.leL zA.cells (eA z0).cells :=
  PV.leL_cons (PV.le_refl _) (PV.leL_cons (PV.le_refl _) (PV.leL_cons (PV.le_refl _) (PV.leL_cons (PV.le_refl _) (PV.leL_cons (PV.le_refl _) (PV.leL_cons (PV.le_refl _) (PV.leL_cons (PV.le_nil _ _ _) (PV.leL_cons (PV.le_nil _ _ _) (PV.leL_cons (PV.le_nil _ _ _) (PV.leL_refl _)))))))))
theorem eA_one (x : Dc) : Go.Sg.okE 41 (eA x) := ⟨rfl, fun c hc => by
  have h : (eA x).cells.all (fun c => c.one) = true := rfl
  exact List.all_eq_true.1 h c hc⟩
theorem kz : PCalls Try.prog 17 [.sl 41 false [zA]] (eI 170) := by
  have h := check_calls [z0] (by decide) (fun y hy => by
    simp only [List.mem_cons, List.not_mem_nil, or_false] at hy; subst hy
    exact okF.e (x := z0) ⟨by decide, by decide, by decide⟩)
  rw [show chkA [z0] = 170 from by kernel_rfl] at h
  refine PCalls_leA h (PV.leL_cons (PV_le_sl rfl fun i p q hp hq => ?_) PV.leL_nil)
  match i, hp, hq with
  | 0, hp, hq =>
    have hp : some zA = some p := hp
    have hq : some (eA z0) = some q := hq
    injection hp with hp; injection hq with hq; subst hp; subst hq
    exact ⟨eA_one z0, zA_le⟩
  | i + 1, hp, _ => simp at hp
theorem k4 : PCalls Try.prog 17 [.sl 41 false (List.take (Int.toNat 4097) (List.drop 0 (List.replicate (Int.toNat 4097) zA)))] (eI 2) := by
  rw [List.drop_zero, List.take_of_length_le (by rw [List.length_replicate]; exact Nat.le_refl _)]
  exact check_lim _ (by rw [List.length_replicate]; decide)
theorem t0 : ∃ E : List Int, ¬ (((E.map (PV.int .u8)).length : Nat) : Int) = 0 ∧ PCalls Try.prog 15 [eA d0] (.tup [Cd.eB E, eI 0]) := by
  have h := text_calls d0 (by decide) (by decide) (by decide)
  have e : textA d0 = (Cd.enc (docV d0), 0) := by unfold textA; rw [show rightA d0 = true from by kernel_rfl]; rfl
  rw [e] at h
  have hp := Cd.enc_pos (docV d0)
  exact ⟨Cd.enc (docV d0), by rw [List.length_map]; omega, h⟩
theorem t1 : PCalls Try.prog 15 [eA g0] (.tup [Cd.eB [], eI 170]) := by have h := text_calls g0 (by decide) (by decide) (by decide); rwa [show textA g0 = ([], 170) from by unfold textA; rw [show rightA g0 = false from by kernel_rfl]; rfl] at h
theorem e1 : PCalls Try.prog 24 [eIs [3], eIs [3]] (.bool true) := by have h := sameI_calls [3] [3] (by decide); rwa [show decide (([3] : List Int) = [3]) = true from by kernel_rfl] at h
theorem e2 : PCalls Try.prog 19 [eL [d0], eL [d0]] (.bool true) := by have h := same_calls [d0] [d0] (by decide) (fun x hx => by simp only [List.mem_cons, List.not_mem_nil, or_false] at hx; subst hx; exact ⟨by decide, by decide, by decide⟩); rwa [sameLB_refl] at h
theorem sane_calls : PCalls Try.prog 10 [] (.bool true) := by
  obtain ⟨E, hT, tt⟩ := t0
  refine PCalls.of (N := 229) (res := [.tmp 0]) mixed Try.func10 rfl rfl rfl (by kernel_rfl) (by simp) [0, 1, 2, 3, 4, 5, 6, 7, 10, 12, 13, 14, 16, 18, 20, 21, 22, 24, 50, 86, 193] ?_
  repeat' (first | exact cl1 | (refine stx ?_; first | exact exHM _ | refine exU8 ?_) | ((with_reducible show callX _ _ _ _ _); (first | (refine call_z (m0) (by kernel_rfl) rfl ?_; (repeat' (first | exact PV.leL_nil | refine kC ?_ ?_ | refine And.intro ?_ ?_ | exact Nat.zero_lt_succ _ | exact Nat.le_of_ble_eq_true rfl | exact PV.le_refl _ | exact PV.le_nil _ _ _ | exact PV.le_clip _ _ _ | refine PV.le_agg ?_ | refine PV.le_tup ?_ | rfl)); fail_if_success (any_goals (refine PV.le_of ?_))) | (refine call_z (m1) (by kernel_rfl) rfl ?_; (repeat' (first | exact PV.leL_nil | refine kC ?_ ?_ | refine And.intro ?_ ?_ | exact Nat.zero_lt_succ _ | exact Nat.le_of_ble_eq_true rfl | exact PV.le_refl _ | exact PV.le_nil _ _ _ | exact PV.le_clip _ _ _ | refine PV.le_agg ?_ | refine PV.le_tup ?_ | rfl)); fail_if_success (any_goals (refine PV.le_of ?_))) | (refine call_z (m2) (by kernel_rfl) rfl ?_; (repeat' (first | exact PV.leL_nil | refine kC ?_ ?_ | refine And.intro ?_ ?_ | exact Nat.zero_lt_succ _ | exact Nat.le_of_ble_eq_true rfl | exact PV.le_refl _ | exact PV.le_nil _ _ _ | exact PV.le_clip _ _ _ | refine PV.le_agg ?_ | refine PV.le_tup ?_ | rfl)); fail_if_success (any_goals (refine PV.le_of ?_))) | (refine call_z (m3) (by kernel_rfl) rfl ?_; (repeat' (first | exact PV.leL_nil | refine kC ?_ ?_ | refine And.intro ?_ ?_ | exact Nat.zero_lt_succ _ | exact Nat.le_of_ble_eq_true rfl | exact PV.le_refl _ | exact PV.le_nil _ _ _ | exact PV.le_clip _ _ _ | refine PV.le_agg ?_ | refine PV.le_tup ?_ | rfl)); fail_if_success (any_goals (refine PV.le_of ?_))) | (refine call_z (m4) (by kernel_rfl) rfl ?_; (repeat' (first | exact PV.leL_nil | refine kC ?_ ?_ | refine And.intro ?_ ?_ | exact Nat.zero_lt_succ _ | exact Nat.le_of_ble_eq_true rfl | exact PV.le_refl _ | exact PV.le_nil _ _ _ | exact PV.le_clip _ _ _ | refine PV.le_agg ?_ | refine PV.le_tup ?_ | rfl)); fail_if_success (any_goals (refine PV.le_of ?_))) | (refine call_z (m5) (by kernel_rfl) rfl ?_; (repeat' (first | exact PV.leL_nil | refine kC ?_ ?_ | refine And.intro ?_ ?_ | exact Nat.zero_lt_succ _ | exact Nat.le_of_ble_eq_true rfl | exact PV.le_refl _ | exact PV.le_nil _ _ _ | exact PV.le_clip _ _ _ | refine PV.le_agg ?_ | refine PV.le_tup ?_ | rfl)); fail_if_success (any_goals (refine PV.le_of ?_))) | (refine call_z (w0) (by kernel_rfl) rfl ?_; (repeat' (first | exact PV.leL_nil | refine kC ?_ ?_ | refine And.intro ?_ ?_ | exact Nat.zero_lt_succ _ | exact Nat.le_of_ble_eq_true rfl | exact PV.le_refl _ | exact PV.le_nil _ _ _ | exact PV.le_clip _ _ _ | refine PV.le_agg ?_ | refine PV.le_tup ?_ | rfl)); fail_if_success (any_goals (refine PV.le_of ?_))) | (refine call_z (w1) (by kernel_rfl) rfl ?_; (repeat' (first | exact PV.leL_nil | refine kC ?_ ?_ | refine And.intro ?_ ?_ | exact Nat.zero_lt_succ _ | exact Nat.le_of_ble_eq_true rfl | exact PV.le_refl _ | exact PV.le_nil _ _ _ | exact PV.le_clip _ _ _ | refine PV.le_agg ?_ | refine PV.le_tup ?_ | rfl)); fail_if_success (any_goals (refine PV.le_of ?_))) | (refine call_z (w2) (by kernel_rfl) rfl ?_; (repeat' (first | exact PV.leL_nil | refine kC ?_ ?_ | refine And.intro ?_ ?_ | exact Nat.zero_lt_succ _ | exact Nat.le_of_ble_eq_true rfl | exact PV.le_refl _ | exact PV.le_nil _ _ _ | exact PV.le_clip _ _ _ | refine PV.le_agg ?_ | refine PV.le_tup ?_ | rfl)); fail_if_success (any_goals (refine PV.le_of ?_))) | (refine call_z (w3) (by kernel_rfl) rfl ?_; (repeat' (first | exact PV.leL_nil | refine kC ?_ ?_ | refine And.intro ?_ ?_ | exact Nat.zero_lt_succ _ | exact Nat.le_of_ble_eq_true rfl | exact PV.le_refl _ | exact PV.le_nil _ _ _ | exact PV.le_clip _ _ _ | refine PV.le_agg ?_ | refine PV.le_tup ?_ | rfl)); fail_if_success (any_goals (refine PV.le_of ?_))) | (refine call_z (w4) (by kernel_rfl) rfl ?_; (repeat' (first | exact PV.leL_nil | refine kC ?_ ?_ | refine And.intro ?_ ?_ | exact Nat.zero_lt_succ _ | exact Nat.le_of_ble_eq_true rfl | exact PV.le_refl _ | exact PV.le_nil _ _ _ | exact PV.le_clip _ _ _ | refine PV.le_agg ?_ | refine PV.le_tup ?_ | rfl)); fail_if_success (any_goals (refine PV.le_of ?_))) | (refine call_z (w5) (by kernel_rfl) rfl ?_; (repeat' (first | exact PV.leL_nil | refine kC ?_ ?_ | refine And.intro ?_ ?_ | exact Nat.zero_lt_succ _ | exact Nat.le_of_ble_eq_true rfl | exact PV.le_refl _ | exact PV.le_nil _ _ _ | exact PV.le_clip _ _ _ | refine PV.le_agg ?_ | refine PV.le_tup ?_ | rfl)); fail_if_success (any_goals (refine PV.le_of ?_))) | (refine call_z (w6) (by kernel_rfl) rfl ?_; (repeat' (first | exact PV.leL_nil | refine kC ?_ ?_ | refine And.intro ?_ ?_ | exact Nat.zero_lt_succ _ | exact Nat.le_of_ble_eq_true rfl | exact PV.le_refl _ | exact PV.le_nil _ _ _ | exact PV.le_clip _ _ _ | refine PV.le_agg ?_ | refine PV.le_tup ?_ | rfl)); fail_if_success (any_goals (refine PV.le_of ?_))) | (refine call_z (w7) (by kernel_rfl) rfl ?_; (repeat' (first | exact PV.leL_nil | refine kC ?_ ?_ | refine And.intro ?_ ?_ | exact Nat.zero_lt_succ _ | exact Nat.le_of_ble_eq_true rfl | exact PV.le_refl _ | exact PV.le_nil _ _ _ | exact PV.le_clip _ _ _ | refine PV.le_agg ?_ | refine PV.le_tup ?_ | rfl)); fail_if_success (any_goals (refine PV.le_of ?_))) | (refine call_z (w8) (by kernel_rfl) rfl ?_; (repeat' (first | exact PV.leL_nil | refine kC ?_ ?_ | refine And.intro ?_ ?_ | exact Nat.zero_lt_succ _ | exact Nat.le_of_ble_eq_true rfl | exact PV.le_refl _ | exact PV.le_nil _ _ _ | exact PV.le_clip _ _ _ | refine PV.le_agg ?_ | refine PV.le_tup ?_ | rfl)); fail_if_success (any_goals (refine PV.le_of ?_))) | (refine call_z (n0) (by kernel_rfl) rfl ?_; (repeat' (first | exact PV.leL_nil | refine kC ?_ ?_ | refine And.intro ?_ ?_ | exact Nat.zero_lt_succ _ | exact Nat.le_of_ble_eq_true rfl | exact PV.le_refl _ | exact PV.le_nil _ _ _ | exact PV.le_clip _ _ _ | refine PV.le_agg ?_ | refine PV.le_tup ?_ | rfl)); fail_if_success (any_goals (refine PV.le_of ?_))) | (refine call_z (n1) (by kernel_rfl) rfl ?_; (repeat' (first | exact PV.leL_nil | refine kC ?_ ?_ | refine And.intro ?_ ?_ | exact Nat.zero_lt_succ _ | exact Nat.le_of_ble_eq_true rfl | exact PV.le_refl _ | exact PV.le_nil _ _ _ | exact PV.le_clip _ _ _ | refine PV.le_agg ?_ | refine PV.le_tup ?_ | rfl)); fail_if_success (any_goals (refine PV.le_of ?_))) | (refine call_z (n2) (by kernel_rfl) rfl ?_; (repeat' (first | exact PV.leL_nil | refine kC ?_ ?_ | refine And.intro ?_ ?_ | exact Nat.zero_lt_succ _ | exact Nat.le_of_ble_eq_true rfl | exact PV.le_refl _ | exact PV.le_nil _ _ _ | exact PV.le_clip _ _ _ | refine PV.le_agg ?_ | refine PV.le_tup ?_ | rfl)); fail_if_success (any_goals (refine PV.le_of ?_))) | (refine call_z (n3) (by kernel_rfl) rfl ?_; (repeat' (first | exact PV.leL_nil | refine kC ?_ ?_ | refine And.intro ?_ ?_ | exact Nat.zero_lt_succ _ | exact Nat.le_of_ble_eq_true rfl | exact PV.le_refl _ | exact PV.le_nil _ _ _ | exact PV.le_clip _ _ _ | refine PV.le_agg ?_ | refine PV.le_tup ?_ | rfl)); fail_if_success (any_goals (refine PV.le_of ?_))) | (refine call_z (y0) (by kernel_rfl) rfl ?_; (repeat' (first | exact PV.leL_nil | refine kC ?_ ?_ | refine And.intro ?_ ?_ | exact Nat.zero_lt_succ _ | exact Nat.le_of_ble_eq_true rfl | exact PV.le_refl _ | exact PV.le_nil _ _ _ | exact PV.le_clip _ _ _ | refine PV.le_agg ?_ | refine PV.le_tup ?_ | rfl)); fail_if_success (any_goals (refine PV.le_of ?_))) | (refine call_z (a0) (by kernel_rfl) rfl ?_; (repeat' (first | exact PV.leL_nil | refine kC ?_ ?_ | refine And.intro ?_ ?_ | exact Nat.zero_lt_succ _ | exact Nat.le_of_ble_eq_true rfl | exact PV.le_refl _ | exact PV.le_nil _ _ _ | exact PV.le_clip _ _ _ | refine PV.le_agg ?_ | refine PV.le_tup ?_ | rfl)); fail_if_success (any_goals (refine PV.le_of ?_))) | (refine call_z (a1) (by kernel_rfl) rfl ?_; (repeat' (first | exact PV.leL_nil | refine kC ?_ ?_ | refine And.intro ?_ ?_ | exact Nat.zero_lt_succ _ | exact Nat.le_of_ble_eq_true rfl | exact PV.le_refl _ | exact PV.le_nil _ _ _ | exact PV.le_clip _ _ _ | refine PV.le_agg ?_ | refine PV.le_tup ?_ | rfl)); fail_if_success (any_goals (refine PV.le_of ?_))) | (refine call_z (a2) (by kernel_rfl) rfl ?_; (repeat' (first | exact PV.leL_nil | refine kC ?_ ?_ | refine And.intro ?_ ?_ | exact Nat.zero_lt_succ _ | exact Nat.le_of_ble_eq_true rfl | exact PV.le_refl _ | exact PV.le_nil _ _ _ | exact PV.le_clip _ _ _ | refine PV.le_agg ?_ | refine PV.le_tup ?_ | rfl)); fail_if_success (any_goals (refine PV.le_of ?_))) | (refine call_z (k0) (by kernel_rfl) rfl ?_; (repeat' (first | exact PV.leL_nil | refine kC ?_ ?_ | refine And.intro ?_ ?_ | exact Nat.zero_lt_succ _ | exact Nat.le_of_ble_eq_true rfl | exact PV.le_refl _ | exact PV.le_nil _ _ _ | exact PV.le_clip _ _ _ | refine PV.le_agg ?_ | refine PV.le_tup ?_ | rfl)); fail_if_success (any_goals (refine PV.le_of ?_))) | (refine call_z (k1) (by kernel_rfl) rfl ?_; (repeat' (first | exact PV.leL_nil | refine kC ?_ ?_ | refine And.intro ?_ ?_ | exact Nat.zero_lt_succ _ | exact Nat.le_of_ble_eq_true rfl | exact PV.le_refl _ | exact PV.le_nil _ _ _ | exact PV.le_clip _ _ _ | refine PV.le_agg ?_ | refine PV.le_tup ?_ | rfl)); fail_if_success (any_goals (refine PV.le_of ?_))) | (refine call_z (k2) (by kernel_rfl) rfl ?_; (repeat' (first | exact PV.leL_nil | refine kC ?_ ?_ | refine And.intro ?_ ?_ | exact Nat.zero_lt_succ _ | exact Nat.le_of_ble_eq_true rfl | exact PV.le_refl _ | exact PV.le_nil _ _ _ | exact PV.le_clip _ _ _ | refine PV.le_agg ?_ | refine PV.le_tup ?_ | rfl)); fail_if_success (any_goals (refine PV.le_of ?_))) | (refine call_z (t1) (by kernel_rfl) rfl ?_; (repeat' (first | exact PV.leL_nil | refine kC ?_ ?_ | refine And.intro ?_ ?_ | exact Nat.zero_lt_succ _ | exact Nat.le_of_ble_eq_true rfl | exact PV.le_refl _ | exact PV.le_nil _ _ _ | exact PV.le_clip _ _ _ | refine PV.le_agg ?_ | refine PV.le_tup ?_ | rfl)); fail_if_success (any_goals (refine PV.le_of ?_))) | (refine call_z (e1) (by kernel_rfl) rfl ?_; (repeat' (first | exact PV.leL_nil | refine kC ?_ ?_ | refine And.intro ?_ ?_ | exact Nat.zero_lt_succ _ | exact Nat.le_of_ble_eq_true rfl | exact PV.le_refl _ | exact PV.le_nil _ _ _ | exact PV.le_clip _ _ _ | refine PV.le_agg ?_ | refine PV.le_tup ?_ | rfl)); fail_if_success (any_goals (refine PV.le_of ?_))) | (refine call_z (e2) (by kernel_rfl) rfl ?_; (repeat' (first | exact PV.leL_nil | refine kC ?_ ?_ | refine And.intro ?_ ?_ | exact Nat.zero_lt_succ _ | exact Nat.le_of_ble_eq_true rfl | exact PV.le_refl _ | exact PV.le_nil _ _ _ | exact PV.le_clip _ _ _ | refine PV.le_agg ?_ | refine PV.le_tup ?_ | rfl)); fail_if_success (any_goals (refine PV.le_of ?_))) | (refine call_z (tt) (by kernel_rfl) rfl ?_; (repeat' (first | exact PV.leL_nil | refine kC ?_ ?_ | refine And.intro ?_ ?_ | exact Nat.zero_lt_succ _ | exact Nat.le_of_ble_eq_true rfl | exact PV.le_refl _ | exact PV.le_nil _ _ _ | exact PV.le_clip _ _ _ | refine PV.le_agg ?_ | refine PV.le_tup ?_ | rfl)); fail_if_success (any_goals (refine PV.le_of ?_))) | (refine call_z (kz) (by kernel_rfl) rfl ?_; (repeat' (first | exact PV.leL_nil | refine kC ?_ ?_ | refine And.intro ?_ ?_ | exact Nat.zero_lt_succ _ | exact Nat.le_of_ble_eq_true rfl | exact PV.le_refl _ | exact PV.le_nil _ _ _ | exact PV.le_clip _ _ _ | refine PV.le_agg ?_ | refine PV.le_tup ?_ | rfl)); fail_if_success (any_goals (refine PV.le_of ?_))) | (refine call_z (k4) (by kernel_rfl) rfl ?_; refine And.intro ⟨rfl, Nat.zero_lt_succ _, (by show _ ≤ (List.replicate _ _).length; rw [List.length_replicate]; exact Nat.le_of_eq (Nat.zero_add _))⟩ ?_; refine And.intro (PV.leL_cons (PV.le_refl _) PV.leL_nil) ?_) | exact of_decide_eq_true rfl)) | ((fail_if_success refine stp ?_); (conv => whnf) <;> (first | exact cl2 | refine kT ?_ | refine kF ?_ | refine ix_lit rfl ?_ | refine kBn hT fun hc => ?_ | refine Sq.fz (id := 2) [(1, false)] ?_ | refine Sq.fz (id := 6) [(2, false), (3, false)] ?_ | refine kX ?_ | refine kP ?_ | refine kBd (fun hc => ?_) (fun hc => ?_) | refine kT ?_ | refine kF ?_ | refine kN ?_ | refine kBm (fun hc => ?_) (fun hc => ?_) | refine kO ?_ | refine kS ?_ | refine kA ?_ | exact PV.leL_nil | refine kC ?_ ?_ | refine And.intro ?_ ?_ | refine ix_map (fun x hx => ?_) | refine exU8 ?_ | refine nilc (fun hn => ?_) ?_ | (refine call_z (k4) (by kernel_rfl) rfl ?_; refine And.intro ⟨rfl, Nat.zero_lt_succ _, (by show _ ≤ (List.replicate _ _).length; rw [List.length_replicate]; exact Nat.le_of_eq (Nat.zero_add _))⟩ ?_; refine And.intro (PV.leL_cons (PV.le_refl _) PV.leL_nil) ?_) | exact of_decide_eq_true rfl | exact cl3 | refine imp0 (fun hpos => ?_) | refine kG ?_ ?_ | exact rfl | exact trivial | (first | refine stq ?_ | fail)))) <;> (try exact cl5)
  all_goals trace_state
end Go.Proofs.Ytgclicahmbgfiaa

namespace Go.Proofs.Ytgclicahmbgfiaa
open Go Go.Sg
set_option maxRecDepth 100000
set_option maxHeartbeats 8000000
def fewD (x : Dc) : Bool := decide (x.par.length ≤ 20) && decide (x.rev.length ≤ 20) && decide (x.need.length ≤ 20)
def fewN (l : List Dc) : Bool := decide (l.length ≤ 20) || decide (4096 < l.length) && decide (l.length ≤ 4200)
def fewA (l : List Dc) : Bool := (l.take 30).all fewD && fewN l
theorem few_calls (l : List Dc) (hl : l.length < 140737488355328) : PCalls Try.prog 11 [eL l] (.bool (fewA l)) := by
  refine PCalls.of (N := 33) (res := [.tmp 2]) mixed Try.func11 rfl rfl rfl (by kernel_rfl) (by simp) [0, 2, 3, 11, 19] ?_
  repeat' (first | exact cl1 | (refine stx ?_; first | exact exHM _ | refine exU8 ?_) | ((fail_if_success refine stp ?_); (conv => whnf) <;> (first | exact cl2 | refine kX ?_ | refine kP ?_ | refine kBd (fun hc => ?_) (fun hc => ?_) | refine kT ?_ | refine kF ?_ | refine kN ?_ | refine kBm (fun hc => ?_) (fun hc => ?_) | refine kO ?_ | refine kS ?_ | refine kA ?_ | exact PV.leL_nil | refine kC ?_ ?_ | refine And.intro ?_ ?_ | refine ix_map (fun x hx => ?_) | refine exU8 ?_ | refine nilc (fun hn => ?_) ?_ | exact cl3 | refine imp0 (fun hpos => ?_) | refine kG ?_ ?_ | exact rfl | exact trivial | (first | refine stq ?_ | fail)))) <;> (try exact cl5)
  refine Wpc.loopB (α := {i : Nat // i ≤ l.length ∧ i ≤ 30 ∧ ∀ j w, j < i → l[j]? = some w → fewD w = true}) mixed [0, 2, 3, 11, 19] (fun i => [(3, .p (eI i.1))]) (fun i => l.length - i.1) ⟨0, by omega, by omega, by intro j w h; omega⟩ ?_ ?_
  · (first | refine Ent.ofA [] ?_ | refine Ent.ofC [] ?_) <;> (repeat' (first | exact trivial | refine kHd ?_ | refine kHm rfl (by simp) rfl (fun h => AObj.noConfusion h) ?_ ?_ | refine And.intro ?_ ?_ | exact cl9 | refine kVp ?_ | refine kVa ?_ | refine kVt ?_ | refine kVf ?_ ?_ | refine kVc ?_ ?_ | exact VLeL.nil | exact OLe.row _ _ | rfl | refine VLe.rsle rfl ?_ ?_ ?_ | refine kQw ?_ ?_ | refine kQm ?_ ?_ | refine kQj ?_ ?_ | refine kQc ?_ ?_ | refine kQs ?_ ?_ ?_ | exact OLe.mapS0 rfl)) <;> try exact kZ
  rintro ⟨i, hi, h30, hq⟩
  have hi : i ≤ l.length := hi
  have h30 : i ≤ 30 := h30
  have hq : ∀ j w, j < i → l[j]? = some w → fewD w = true := hq
  by_cases hin : i < l.length ∧ i < 30
  · obtain ⟨y, hy⟩ : ∃ y, l[i]? = some y := ⟨_, List.getElem?_eq_getElem hin.1⟩
    have hyes : ((i : Int) < ((l.map eA).length : Int)) := by rw [List.length_map]; omega
    have h3 : (i : Int) < 30 := by omega
    have q : PCalls Try.prog 12 [eA y] (.bool (fewD y)) := fewD_calls y
    cases hf : fewD y with
    | false =>
      rw [hf] at q
      have e : fewA l = false := by
        unfold fewA
        rw [show (l.take 30).all fewD = false from List.all_eq_false.2 ⟨y, List.mem_of_getElem? (i := i) (by rw [List.getElem?_take, if_pos hin.2]; exact hy), by rw [hf]; exact Bool.false_ne_true⟩]; rfl
      rw [e]
      repeat' (first | exact cl1 | (refine stx ?_; first | exact exHM _ | refine exU8 ?_) | ((with_reducible show callX _ _ _ _ _); (first | refine call_p (q) (by kernel_rfl) rfl ?_)) | ((fail_if_success refine stp ?_); (conv => whnf) <;> (first | exact cl2 | refine kBy hyes fun hc => ?_ | refine kBy h3 fun hc => ?_ | refine ix_at hy ?_ | refine kX ?_ | refine kP ?_ | refine kBd (fun hc => ?_) (fun hc => ?_) | refine kT ?_ | refine kF ?_ | refine kN ?_ | refine kBm (fun hc => ?_) (fun hc => ?_) | refine kO ?_ | refine kS ?_ | refine kA ?_ | exact PV.leL_nil | refine kC ?_ ?_ | refine And.intro ?_ ?_ | refine ix_map (fun x hx => ?_) | refine exU8 ?_ | refine nilc (fun hn => ?_) ?_ | exact cl3 | refine imp0 (fun hpos => ?_) | refine kG ?_ ?_ | exact rfl | exact trivial | (first | refine stq ?_ | fail)))) <;> (try exact cl5)
    | true =>
      rw [hf] at q
      repeat' (first | exact cl1 | (refine stx ?_; first | exact exHM _ | refine exU8 ?_) | ((with_reducible show callX _ _ _ _ _); (first | refine call_p (q) (by kernel_rfl) rfl ?_)) | ((fail_if_success refine stp ?_); (conv => whnf) <;> (first | exact cl2 | refine kBy hyes fun hc => ?_ | refine kBy h3 fun hc => ?_ | refine ix_at hy ?_ | refine kX ?_ | refine kP ?_ | refine kBd (fun hc => ?_) (fun hc => ?_) | refine kT ?_ | refine kF ?_ | refine kN ?_ | refine kBm (fun hc => ?_) (fun hc => ?_) | refine kO ?_ | refine kS ?_ | refine kA ?_ | exact PV.leL_nil | refine kC ?_ ?_ | refine And.intro ?_ ?_ | refine ix_map (fun x hx => ?_) | refine exU8 ?_ | refine nilc (fun hn => ?_) ?_ | exact cl3 | refine imp0 (fun hpos => ?_) | refine kG ?_ ?_ | exact rfl | exact trivial | (first | refine stq ?_ | fail)))) <;> (try exact cl5)
      refine ⟨⟨i + 1, hin.1, hin.2, fun j w hj hw => ?_⟩, by show l.length - (i + 1) < l.length - i; omega, ?_⟩
      · rcases Nat.lt_succ_iff_lt_or_eq.1 hj with h1 | h1
        · exact hq j w h1 hw
        · rw [h1, hy] at hw; injection hw with hw; rw [← hw]; exact hf
      · (first | refine Ent.ofA [] ?_ | refine Ent.ofC [] ?_) <;> (repeat' (first | exact trivial | refine kHd ?_ | refine kHm rfl (by simp) rfl (fun h => AObj.noConfusion h) ?_ ?_ | refine And.intro ?_ ?_ | exact cl9 | refine kVp ?_ | refine kVa ?_ | refine kVt ?_ | refine kVf ?_ ?_ | refine kVc ?_ ?_ | exact VLeL.nil | exact OLe.row _ _ | rfl | refine VLe.rsle rfl ?_ ?_ ?_ | refine kQw ?_ ?_ | refine kQm ?_ ?_ | refine kQj ?_ ?_ | refine kQc ?_ ?_ | refine kQs ?_ ?_ ?_ | exact OLe.mapS0 rfl)) <;> try exact kZ
  · have e : (l.take 30).all fewD = true := List.all_eq_true.2 fun w hw => by
      obtain ⟨j, hj⟩ := List.getElem?_of_mem hw
      rw [List.getElem?_take] at hj
      split at hj
      · exact hq j w (by have := (List.getElem?_eq_some_iff.1 hj).1; omega) hj
      · cases hj
    have hA : fewA l = fewN l := by unfold fewA; rw [e, Bool.true_and]
    rw [hA]
    by_cases h1 : i < l.length
    · have h3 : ¬ (i : Int) < 30 := by omega
      have hyes : ((i : Int) < ((l.map eA).length : Int)) := by rw [List.length_map]; omega
      repeat' (first | exact cl1 | (refine stx ?_; first | exact exHM _ | refine exU8 ?_) | ((fail_if_success refine stp ?_); (conv => whnf) <;> (first | exact cl2 | refine kBy hyes fun hc => ?_ | refine kBn h3 fun hc => ?_ | refine kX ?_ | refine kP ?_ | refine kBd (fun hc => ?_) (fun hc => ?_) | refine kT ?_ | refine kF ?_ | refine kN ?_ | refine kBm (fun hc => ?_) (fun hc => ?_) | refine kO ?_ | refine kS ?_ | refine kA ?_ | exact PV.leL_nil | refine kC ?_ ?_ | refine And.intro ?_ ?_ | refine ix_map (fun x hx => ?_) | refine exU8 ?_ | refine nilc (fun hn => ?_) ?_ | exact cl3 | refine imp0 (fun hpos => ?_) | refine kG ?_ ?_ | exact rfl | exact trivial | (first | refine stq ?_ | fail)))) <;> (try exact cl5)
      all_goals (simp only [List.length_map] at *; refine LeG.bool ?_; unfold fewN; (by_cases h1 : l.length ≤ 20) <;> (by_cases h2 : 4096 < l.length) <;> (by_cases h3 : l.length ≤ 4200) <;> simp [h1, h2, h3] <;> omega)
    · have hno : ¬ ((i : Int) < ((l.map eA).length : Int)) := by rw [List.length_map]; omega
      repeat' (first | exact cl1 | (refine stx ?_; first | exact exHM _ | refine exU8 ?_) | ((fail_if_success refine stp ?_); (conv => whnf) <;> (first | exact cl2 | refine kBn hno fun hc => ?_ | refine kX ?_ | refine kP ?_ | refine kBd (fun hc => ?_) (fun hc => ?_) | refine kT ?_ | refine kF ?_ | refine kN ?_ | refine kBm (fun hc => ?_) (fun hc => ?_) | refine kO ?_ | refine kS ?_ | refine kA ?_ | exact PV.leL_nil | refine kC ?_ ?_ | refine And.intro ?_ ?_ | refine ix_map (fun x hx => ?_) | refine exU8 ?_ | refine nilc (fun hn => ?_) ?_ | exact cl3 | refine imp0 (fun hpos => ?_) | refine kG ?_ ?_ | exact rfl | exact trivial | (first | refine stq ?_ | fail)))) <;> (try exact cl5)
      all_goals (simp only [List.length_map] at *; refine LeG.bool ?_; unfold fewN; (by_cases h1 : l.length ≤ 20) <;> (by_cases h2 : 4096 < l.length) <;> (by_cases h3 : l.length ≤ 4200) <;> simp [h1, h2, h3] <;> omega)
end Go.Proofs.Ytgclicahmbgfiaa

namespace Go.Proofs.Ytgclicahmbgfiaa
open Go Go.Sg
set_option maxRecDepth 100000
set_option maxHeartbeats 20000000
theorem fewD_f3 {x : Dc} (h : fewD x = true) : okF x := by
  unfold fewD at h
  simp only [Bool.and_eq_true, decide_eq_true_eq] at h
  exact ⟨h.1.1, h.1.2, h.2⟩
theorem rsignings_calls (l : List Dc) (sg : List Int) (hsl : sg.length < 140737488355328) : PCalls Try.prog 56 [eL l, eIs sg] (.bool (sgB l sg)) := by
  refine PCalls.of (N := 30) (res := [.tmp 4]) mixed Try.func56 rfl rfl rfl (by kernel_rfl) (by simp) [0, 1, 4, 5, 9, 24] ?_
  repeat' (first | exact cl1 | (refine stx ?_; first | exact exHM _ | refine exU8 ?_) | ((fail_if_success refine stp ?_); (conv => whnf) <;> (first | exact cl2 | refine kX ?_ | refine kP ?_ | refine kBd (fun hc => ?_) (fun hc => ?_) | refine kT ?_ | refine kF ?_ | refine kN ?_ | refine kBm (fun hc => ?_) (fun hc => ?_) | refine kO ?_ | refine kS ?_ | refine kA ?_ | exact PV.leL_nil | refine kC ?_ ?_ | refine And.intro ?_ ?_ | refine ix_map (fun x hx => ?_) | refine exU8 ?_ | refine nilc (fun hn => ?_) ?_ | exact cl3 | refine imp0 (fun hpos => ?_) | refine kG ?_ ?_ | exact rfl | exact trivial | (first | refine stq ?_ | fail)))) <;> (try exact cl5)
  refine Wpc.loopB (α := {i : Nat // i ≤ sg.length ∧ ∀ j t, j < i → sg[j]? = some t → oddB t = false}) mixed [0, 1, 4, 5, 9, 24] (fun i => [(5, .p (eI i.1))]) (fun i => sg.length - i.1) ⟨0, by omega, by intro j t h; omega⟩ ?_ ?_
  · (first | refine Ent.ofA [] ?_ | refine Ent.ofC [] ?_) <;> (repeat' (first | exact trivial | refine kHd ?_ | refine kHm rfl (by simp) rfl (fun h => AObj.noConfusion h) ?_ ?_ | refine And.intro ?_ ?_ | exact cl9 | refine kVp ?_ | refine kVa ?_ | refine kVt ?_ | refine kVf ?_ ?_ | refine kVc ?_ ?_ | exact VLeL.nil | exact OLe.row _ _ | rfl | refine VLe.rsle rfl ?_ ?_ ?_ | refine kQw ?_ ?_ | refine kQm ?_ ?_ | refine kQj ?_ ?_ | refine kQc ?_ ?_ | refine kQs ?_ ?_ ?_ | exact OLe.mapS0 rfl)) <;> try exact kZ
  rintro ⟨i, hi, hq⟩
  have hi : i ≤ sg.length := hi
  have hq : ∀ j t, j < i → sg[j]? = some t → oddB t = false := hq
  cases hx : sg[i]? with
  | some t =>
    have hlt := (List.getElem?_eq_some_iff.1 hx).1
    have hyes : ((i : Int) < ((sg.map eI).length : Int)) := by rw [List.length_map]; omega
    have q := rtime_calls t
    have hbad : oddB t = true → sgB l sg = false := fun h => by
      unfold sgB
      rw [show sg.any oddB = true from List.any_eq_true.2 ⟨t, List.mem_of_getElem? hx, h⟩]; simp
    have hgo : oddB t = false → ∀ j u, j < i + 1 → sg[j]? = some u → oddB u = false := fun h j u hj hu => by
      rcases Nat.lt_succ_iff_lt_or_eq.1 hj with h1 | h1
      · exact hq j u h1 hu
      · rw [h1, hx] at hu; injection hu with hu; rw [← hu]; exact h
    by_cases ht : t = -1
    · have hn : ¬ t ≠ -1 := fun h => h ht
      have ho : oddB t = false := by unfold oddB; rw [decide_eq_true ht]; rfl
      repeat' (first | exact cl1 | (refine stx ?_; first | exact exHM _ | refine exU8 ?_) | ((fail_if_success refine stp ?_); (conv => whnf) <;> (first | exact cl2 | refine kBn hn fun hc => ?_ | refine kBy hyes fun hc => ?_ | refine ix_at hx ?_ | refine kX ?_ | refine kP ?_ | refine kBd (fun hc => ?_) (fun hc => ?_) | refine kT ?_ | refine kF ?_ | refine kN ?_ | refine kBm (fun hc => ?_) (fun hc => ?_) | refine kO ?_ | refine kS ?_ | refine kA ?_ | exact PV.leL_nil | refine kC ?_ ?_ | refine And.intro ?_ ?_ | refine ix_map (fun x hx => ?_) | refine exU8 ?_ | refine nilc (fun hn => ?_) ?_ | exact cl3 | refine imp0 (fun hpos => ?_) | refine kG ?_ ?_ | exact rfl | exact trivial | (first | refine stq ?_ | fail)))) <;> (try exact cl5)
      refine ⟨⟨i + 1, hlt, hgo ho⟩, by show sg.length - (i + 1) < sg.length - i; omega, ?_⟩
      (first | refine Ent.ofA [] ?_ | refine Ent.ofC [] ?_) <;> (repeat' (first | exact trivial | refine kHd ?_ | refine kHm rfl (by simp) rfl (fun h => AObj.noConfusion h) ?_ ?_ | refine And.intro ?_ ?_ | exact cl9 | refine kVp ?_ | refine kVa ?_ | refine kVt ?_ | refine kVf ?_ ?_ | refine kVc ?_ ?_ | exact VLeL.nil | exact OLe.row _ _ | rfl | refine VLe.rsle rfl ?_ ?_ ?_ | refine kQw ?_ ?_ | refine kQm ?_ ?_ | refine kQj ?_ ?_ | refine kQc ?_ ?_ | refine kQs ?_ ?_ ?_ | exact OLe.mapS0 rfl)) <;> try exact kZ
    · cases hw : wiB TM t with
      | true =>
        rw [hw] at q
        have ho : oddB t = false := by unfold oddB; rw [hw]; simp
        repeat' (first | exact cl1 | (refine stx ?_; first | exact exHM _ | refine exU8 ?_) | ((with_reducible show callX _ _ _ _ _); (first | refine call_p (q) (by kernel_rfl) rfl ?_)) | ((fail_if_success refine stp ?_); (conv => whnf) <;> (first | exact cl2 | refine kBy ht fun hc => ?_ | refine kBy hyes fun hc => ?_ | refine ix_at hx ?_ | refine kX ?_ | refine kP ?_ | refine kBd (fun hc => ?_) (fun hc => ?_) | refine kT ?_ | refine kF ?_ | refine kN ?_ | refine kBm (fun hc => ?_) (fun hc => ?_) | refine kO ?_ | refine kS ?_ | refine kA ?_ | exact PV.leL_nil | refine kC ?_ ?_ | refine And.intro ?_ ?_ | refine ix_map (fun x hx => ?_) | refine exU8 ?_ | refine nilc (fun hn => ?_) ?_ | exact cl3 | refine imp0 (fun hpos => ?_) | refine kG ?_ ?_ | exact rfl | exact trivial | (first | refine stq ?_ | fail)))) <;> (try exact cl5)
        refine ⟨⟨i + 1, hlt, hgo ho⟩, by show sg.length - (i + 1) < sg.length - i; omega, ?_⟩
        (first | refine Ent.ofA [] ?_ | refine Ent.ofC [] ?_) <;> (repeat' (first | exact trivial | refine kHd ?_ | refine kHm rfl (by simp) rfl (fun h => AObj.noConfusion h) ?_ ?_ | refine And.intro ?_ ?_ | exact cl9 | refine kVp ?_ | refine kVa ?_ | refine kVt ?_ | refine kVf ?_ ?_ | refine kVc ?_ ?_ | exact VLeL.nil | exact OLe.row _ _ | rfl | refine VLe.rsle rfl ?_ ?_ ?_ | refine kQw ?_ ?_ | refine kQm ?_ ?_ | refine kQj ?_ ?_ | refine kQc ?_ ?_ | refine kQs ?_ ?_ ?_ | exact OLe.mapS0 rfl)) <;> try exact kZ
      | false =>
        rw [hw] at q
        have ho : oddB t = true := by unfold oddB; rw [hw, decide_eq_false ht]; rfl
        rw [hbad ho]
        repeat' (first | exact cl1 | (refine stx ?_; first | exact exHM _ | refine exU8 ?_) | ((with_reducible show callX _ _ _ _ _); (first | refine call_p (q) (by kernel_rfl) rfl ?_)) | ((fail_if_success refine stp ?_); (conv => whnf) <;> (first | exact cl2 | refine kBy ht fun hc => ?_ | refine kBy hyes fun hc => ?_ | refine ix_at hx ?_ | refine kX ?_ | refine kP ?_ | refine kBd (fun hc => ?_) (fun hc => ?_) | refine kT ?_ | refine kF ?_ | refine kN ?_ | refine kBm (fun hc => ?_) (fun hc => ?_) | refine kO ?_ | refine kS ?_ | refine kA ?_ | exact PV.leL_nil | refine kC ?_ ?_ | refine And.intro ?_ ?_ | refine ix_map (fun x hx => ?_) | refine exU8 ?_ | refine nilc (fun hn => ?_) ?_ | exact cl3 | refine imp0 (fun hpos => ?_) | refine kG ?_ ?_ | exact rfl | exact trivial | (first | refine stq ?_ | fail)))) <;> (try exact cl5)
  | none =>
    have hge : sg.length ≤ i := List.getElem?_eq_none_iff.1 hx
    have hno : ¬ ((i : Int) < ((sg.map eI).length : Int)) := by rw [List.length_map]; omega
    have ha : sg.any oddB = false := List.any_eq_false.2 fun t ht e => by
      obtain ⟨j, hj⟩ := List.getElem?_of_mem ht
      rw [hq j t (by have := (List.getElem?_eq_some_iff.1 hj).1; omega) hj] at e; cases e
    have e : sgB l sg = decide (sg.length = l.length) := by unfold sgB; rw [ha]; simp
    rw [e]
    repeat' (first | exact cl1 | (refine stx ?_; first | exact exHM _ | refine exU8 ?_) | ((fail_if_success refine stp ?_); (conv => whnf) <;> (first | exact cl2 | refine kBn hno fun hc => ?_ | refine kX ?_ | refine kP ?_ | refine kBd (fun hc => ?_) (fun hc => ?_) | refine kT ?_ | refine kF ?_ | refine kN ?_ | refine kBm (fun hc => ?_) (fun hc => ?_) | refine kO ?_ | refine kS ?_ | refine kA ?_ | exact PV.leL_nil | refine kC ?_ ?_ | refine And.intro ?_ ?_ | refine ix_map (fun x hx => ?_) | refine exU8 ?_ | refine nilc (fun hn => ?_) ?_ | exact cl3 | refine imp0 (fun hpos => ?_) | refine kG ?_ ?_ | exact rfl | exact trivial | (first | refine stq ?_ | fail)))) <;> (try exact cl5)
    refine LeG.bool ?_
    simp only [List.length_map]
    by_cases h : sg.length = l.length
    · rw [decide_eq_true h, decide_eq_true (by omega)]
    · rw [decide_eq_false h, decide_eq_false (by omega)]
def rgtB (l : List Dc) (sg : List Int) : Bool := decide (l.length ≤ 20) && fewA l && decide (chkA l = 0) && sgB l sg
theorem rgtB_f {l : List Dc} {sg : List Int} (h : rgtB l sg = true) : l.length ≤ 20 ∧ (∀ x ∈ l, okF x) ∧ chkA l = 0 ∧ sgB l sg = true := by
  unfold rgtB at h
  simp only [Bool.and_eq_true, decide_eq_true_eq] at h
  obtain ⟨⟨⟨h1, h2⟩, h3⟩, h4⟩ := h
  refine ⟨h1, fun x hx => ?_, h3, h4⟩
  unfold fewA at h2
  rw [Bool.and_eq_true] at h2
  refine fewD_f3 (List.all_eq_true.1 h2.1 x ?_)
  rw [List.take_of_length_le (by omega)]; exact hx
theorem lawRight_calls (l : List Dc) (sg : List Int) (hl : l.length < 140737488355328) (hsl : sg.length < 140737488355328) : PCalls Try.prog 25 [eL l, eIs sg] (.bool (rgtB l sg)) := by
  have q1 : PCalls Try.prog 11 [eL l] (.bool (fewA l)) := few_calls l hl
  have q3 := rsignings_calls l sg hsl
  unfold rgtB
  by_cases h20 : l.length ≤ 20
  · have h20' : ((l.map eA).length : Int) ≤ 20 := by rw [List.length_map]; omega
    rw [decide_eq_true h20]
    cases hf : fewA l with
    | false =>
      rw [hf] at q1
      refine PCalls.of (N := 22) (res := [.tmp 4]) mixed Try.func25 rfl rfl rfl (by kernel_rfl) (by simp) [0, 1, 4] ?_
      repeat' (first | exact cl1 | (refine stx ?_; first | exact exHM _ | refine exU8 ?_) | ((with_reducible show callX _ _ _ _ _); (first | refine call_p (q1) (by kernel_rfl) rfl ?_)) | ((fail_if_success refine stp ?_); (conv => whnf) <;> (first | exact cl2 | refine kBd (fun hc => ?_) (fun hc => absurd h20' hc) | refine kX ?_ | refine kP ?_ | refine kBd (fun hc => ?_) (fun hc => ?_) | refine kT ?_ | refine kF ?_ | refine kN ?_ | refine kBm (fun hc => ?_) (fun hc => ?_) | refine kO ?_ | refine kS ?_ | refine kA ?_ | exact PV.leL_nil | refine kC ?_ ?_ | refine And.intro ?_ ?_ | refine ix_map (fun x hx => ?_) | refine exU8 ?_ | refine nilc (fun hn => ?_) ?_ | exact cl3 | refine imp0 (fun hpos => ?_) | refine kG ?_ ?_ | exact rfl | exact trivial | (first | refine stq ?_ | fail)))) <;> (try exact cl5)
    | true =>
      rw [hf] at q1
      have hd : ∀ x ∈ l, okF x := fun x hx => by
        unfold fewA at hf
        rw [Bool.and_eq_true] at hf
        refine fewD_f3 (List.all_eq_true.1 hf.1 x ?_)
        rw [List.take_of_length_le (by omega)]; exact hx
      have q2 := rcheck_calls l (by omega) (fun x hx => (hd x hx).e.d)
      by_cases hz : chkA l = 0
      · rw [hz] at q2
        rw [decide_eq_true hz]
        cases hs : sgB l sg with
        | false =>
          rw [hs] at q3
          refine PCalls.of (N := 22) (res := [.tmp 4]) mixed Try.func25 rfl rfl rfl (by kernel_rfl) (by simp) [0, 1, 4] ?_
          repeat' (first | exact cl1 | (refine stx ?_; first | exact exHM _ | refine exU8 ?_) | ((with_reducible show callX _ _ _ _ _); (first | refine call_p (q1) (by kernel_rfl) rfl ?_ | refine call_p (q2) (by kernel_rfl) rfl ?_ | refine call_p (q3) (by kernel_rfl) rfl ?_)) | ((fail_if_success refine stp ?_); (conv => whnf) <;> (first | exact cl2 | refine kBd (fun hc => ?_) (fun hc => absurd h20' hc) | refine kX ?_ | refine kP ?_ | refine kBd (fun hc => ?_) (fun hc => ?_) | refine kT ?_ | refine kF ?_ | refine kN ?_ | refine kBm (fun hc => ?_) (fun hc => ?_) | refine kO ?_ | refine kS ?_ | refine kA ?_ | exact PV.leL_nil | refine kC ?_ ?_ | refine And.intro ?_ ?_ | refine ix_map (fun x hx => ?_) | refine exU8 ?_ | refine nilc (fun hn => ?_) ?_ | exact cl3 | refine imp0 (fun hpos => ?_) | refine kG ?_ ?_ | exact rfl | exact trivial | (first | refine stq ?_ | fail)))) <;> (try exact cl5)
        | true =>
          rw [hs] at q3
          refine PCalls.of (N := 22) (res := [.tmp 4]) mixed Try.func25 rfl rfl rfl (by kernel_rfl) (by simp) [0, 1, 4] ?_
          repeat' (first | exact cl1 | (refine stx ?_; first | exact exHM _ | refine exU8 ?_) | ((with_reducible show callX _ _ _ _ _); (first | refine call_p (q1) (by kernel_rfl) rfl ?_ | refine call_p (q2) (by kernel_rfl) rfl ?_ | refine call_p (q3) (by kernel_rfl) rfl ?_)) | ((fail_if_success refine stp ?_); (conv => whnf) <;> (first | exact cl2 | refine kBd (fun hc => ?_) (fun hc => absurd h20' hc) | refine kX ?_ | refine kP ?_ | refine kBd (fun hc => ?_) (fun hc => ?_) | refine kT ?_ | refine kF ?_ | refine kN ?_ | refine kBm (fun hc => ?_) (fun hc => ?_) | refine kO ?_ | refine kS ?_ | refine kA ?_ | exact PV.leL_nil | refine kC ?_ ?_ | refine And.intro ?_ ?_ | refine ix_map (fun x hx => ?_) | refine exU8 ?_ | refine nilc (fun hn => ?_) ?_ | exact cl3 | refine imp0 (fun hpos => ?_) | refine kG ?_ ?_ | exact rfl | exact trivial | (first | refine stq ?_ | fail)))) <;> (try exact cl5)
      · rw [decide_eq_false hz]
        refine PCalls.of (N := 22) (res := [.tmp 4]) mixed Try.func25 rfl rfl rfl (by kernel_rfl) (by simp) [0, 1, 4] ?_
        repeat' (first | exact cl1 | (refine stx ?_; first | exact exHM _ | refine exU8 ?_) | ((with_reducible show callX _ _ _ _ _); (first | refine call_p (q1) (by kernel_rfl) rfl ?_ | refine call_p (q2) (by kernel_rfl) rfl ?_)) | ((fail_if_success refine stp ?_); (conv => whnf) <;> (first | exact cl2 | refine kBd (fun hc => ?_) (fun hc => absurd h20' hc) | refine kBn hz fun hc => ?_ | refine kX ?_ | refine kP ?_ | refine kBd (fun hc => ?_) (fun hc => ?_) | refine kT ?_ | refine kF ?_ | refine kN ?_ | refine kBm (fun hc => ?_) (fun hc => ?_) | refine kO ?_ | refine kS ?_ | refine kA ?_ | exact PV.leL_nil | refine kC ?_ ?_ | refine And.intro ?_ ?_ | refine ix_map (fun x hx => ?_) | refine exU8 ?_ | refine nilc (fun hn => ?_) ?_ | exact cl3 | refine imp0 (fun hpos => ?_) | refine kG ?_ ?_ | exact rfl | exact trivial | (first | refine stq ?_ | fail)))) <;> (try exact cl5)
  · have h20' : ¬ ((l.map eA).length : Int) ≤ 20 := by rw [List.length_map]; omega
    rw [decide_eq_false h20]
    refine PCalls.of (N := 22) (res := [.tmp 4]) mixed Try.func25 rfl rfl rfl (by kernel_rfl) (by simp) [0, 1, 4] ?_
    repeat' (first | exact cl1 | (refine stx ?_; first | exact exHM _ | refine exU8 ?_) | ((fail_if_success refine stp ?_); (conv => whnf) <;> (first | exact cl2 | refine kBd (fun hc => absurd hc h20') (fun hc => ?_) | refine kX ?_ | refine kP ?_ | refine kBd (fun hc => ?_) (fun hc => ?_) | refine kT ?_ | refine kF ?_ | refine kN ?_ | refine kBm (fun hc => ?_) (fun hc => ?_) | refine kO ?_ | refine kS ?_ | refine kA ?_ | exact PV.leL_nil | refine kC ?_ ?_ | refine And.intro ?_ ?_ | refine ix_map (fun x hx => ?_) | refine exU8 ?_ | refine nilc (fun hn => ?_) ?_ | exact cl3 | refine imp0 (fun hpos => ?_) | refine kG ?_ ?_ | exact rfl | exact trivial | (first | refine stq ?_ | fail)))) <;> (try exact cl5)
end Go.Proofs.Ytgclicahmbgfiaa

namespace Go.Proofs.Ytgclicahmbgfiaa
open Go Go.Sg
set_option maxRecDepth 100000
set_option maxHeartbeats 4000000
def Ext (m m' : List (Int × List Int)) : Prop := ∀ n z, aget n m = some z → ∃ t, aget n m' = some (z ++ t)
theorem Ext.refl (m : List (Int × List Int)) : Ext m m := fun n z h => ⟨[], by rw [List.append_nil]; exact h⟩
theorem Ext.trans {a b c : List (Int × List Int)} (h : Ext a b) (k : Ext b c) : Ext a c := fun n z hz => by
  obtain ⟨t, ht⟩ := h n z hz
  obtain ⟨s, hs⟩ := k n _ ht
  exact ⟨t ++ s, by rw [← List.append_assoc]; exact hs⟩
theorem Ext.add (no : Int) (m : List (Int × List Int)) (n : Int) : Ext m (addR no m n) := fun k z hz => by
  unfold addR
  rw [aget_put]
  by_cases e : k = n
  · subst e; rw [if_pos rfl, hz]; exact ⟨[no], rfl⟩
  · rw [if_neg e]; exact ⟨[], by rw [List.append_nil]; exact hz⟩
theorem Ext.fold (no : Int) : ∀ (R : List Int) (m : List (Int × List Int)), Ext m (R.foldl (addR no) m)
  | [], m => Ext.refl m
  | n :: r, m => (Ext.add no m n).trans (Ext.fold no r _)
structure Aft (l : List Dc) (p p' : Pl) (i : Nat) : Prop where
  lk : p'.lk.getD i 0 = p.lk.getD i 0
  rv : Ext p.rv p'.rv
theorem Aft.step {l : List Dc} {sg : List Int} {p : Pl} {i j : Nat} (hij : i ≠ j) : Aft l p (stepP l sg p j) i := by
  unfold stepP
  cases hd : l[j]? with
  | none => exact ⟨rfl, Ext.refl _⟩
  | some d =>
    refine ⟨?_, ?_⟩
    · show (p.lk.set j _).getD i 0 = _
      simp only [List.getD]
      rw [List.getElem?_set_ne (fun e => hij e.symm)]
    · show Ext p.rv (if _ then _ else _)
      split
      · exact Ext.fold _ _ _
      · exact Ext.refl _
theorem Aft.fold {l : List Dc} {sg : List Int} {i : Nat} : ∀ (o : List Nat) (p : Pl), i ∉ o → Aft l p (o.foldl (stepP l sg) p) i
  | [], p, _ => ⟨rfl, Ext.refl _⟩
  | j :: r, p, h => by
    have h1 := Aft.step (l := l) (sg := sg) (p := p) (show i ≠ j from fun e => h (by simp [e]))
    have h2 := Aft.fold (l := l) (sg := sg) r (stepP l sg p j) (fun hm : i ∈ r => h (List.mem_cons_of_mem _ hm))
    exact ⟨h2.lk.trans h1.lk, h1.rv.trans h2.rv⟩
end Go.Proofs.Ytgclicahmbgfiaa

namespace Go.Proofs.Ytgclicahmbgfiaa
open Go Go.Sg
set_option maxRecDepth 100000
set_option maxHeartbeats 20000000
theorem play_congr {l : List Dc} {a b : List Int} : ∀ (o : List Nat) (p : Pl), (∀ i ∈ o, sgF a i = sgF b i) → o.foldl (stepP l a) p = o.foldl (stepP l b) p
  | [], _, _ => rfl
  | i :: r, p, h => by
    have e : stepP l a p i = stepP l b p i := by unfold stepP; rw [h i (by simp)]
    rw [List.foldl_cons, List.foldl_cons, e]
    exact play_congr r _ fun j hj => h j (by simp [hj])
theorem why_at {l : List Dc} {sg : List Int} {t : Int} {i : Nat} {d : Dc} (hz : chkA l = 0) (hs : sgB l sg = true) (ht : wiB TM t = true) (hd : l[i]? = some d) :
    whyA l sg d.no t = ((stA l (finP l sg t) i t).1, (stA l (finP l sg t) i t).2, 0) := by
  obtain ⟨_, _, hsr, _⟩ := chkA_srt hz
  obtain ⟨d', h1, h2, h3⟩ := ixF_of (l := l) (no := d.no) (List.any_eq_true.2 ⟨d, List.mem_of_getElem? hd, decide_eq_true rfl⟩)
  have hi : ixF l d.no = i := by
    rcases Nat.lt_trichotomy (ixF l d.no) i with h | h | h
    · have := srt_lt Dc.no hsr h h2 hd; omega
    · exact h
    · have := srt_lt Dc.no hsr h hd h2; omega
  unfold whyA
  rw [if_pos hz, hs, ht, h1, hi]
  rfl
end Go.Proofs.Ytgclicahmbgfiaa

namespace Go.Proofs.Ytgclicahmbgfiaa
open Go Go.Sg
set_option maxRecDepth 100000
set_option maxHeartbeats 4000000
theorem needF_cons (l : List Dc) (p : Pl) (t no : Int) (r : List Int) : needF l p t (no :: r) = if (stA l p (ixF l no) t).1 ≠ 0 then no else needF l p t r := by
  unfold needF
  rw [List.reverse_cons, List.foldl_append]
  rfl
def effB (l : List Dc) (p : Pl) (t : Int) (need : List Int) : Bool := need.all fun no => forF l p t (ixF l no)
theorem needF_neg {l : List Dc} {p : Pl} {t : Int} : ∀ {need : List Int}, (∀ n ∈ need, 0 ≤ n) → (needF l p t need < 0 ↔ effB l p t need = true)
  | [], _ => ⟨fun _ => rfl, fun _ => (show (-1 : Int) < 0 by decide)⟩
  | no :: r, h => by
    have ih := needF_neg (l := l) (p := p) (t := t) (need := r) fun n hn => h n (by simp [hn])
    have h0 := h no (by simp)
    have e : effB l p t (no :: r) = (forF l p t (ixF l no) && effB l p t r) := rfl
    rw [needF_cons, e]
    by_cases hs : (stA l p (ixF l no) t).1 = 0
    · rw [if_neg (fun k => k hs), show forF l p t (ixF l no) = true from decide_eq_true hs, Bool.true_and]; exact ih
    · rw [if_pos hs, show forF l p t (ixF l no) = false from decide_eq_false hs, Bool.false_and]
      exact ⟨fun k => by omega, fun k => by cases k⟩
theorem ix_of {l : List Dc} (hs : l.Pairwise fun a b => Dc.no a < Dc.no b) {i : Nat} {d : Dc} (hd : l[i]? = some d) : ixF l d.no = i := by
  obtain ⟨d', h1, h2, h3⟩ := ixF_of (l := l) (no := d.no) (List.any_eq_true.2 ⟨d, List.mem_of_getElem? hd, decide_eq_true rfl⟩)
  rcases Nat.lt_trichotomy (ixF l d.no) i with h | h | h
  · have := srt_lt Dc.no hs h h2 hd; omega
  · exact h
  · have := srt_lt Dc.no hs h hd h2; omega
theorem noF_of {l : List Dc} {i : Nat} {d : Dc} (hd : l[i]? = some d) : noF l i = d.no := by unfold noF; rw [hd]; rfl
theorem has_forL {l : List Dc} (hs : l.Pairwise fun a b => Dc.no a < Dc.no b) {p : Pl} {t : Int} {i : Nat} {d : Dc} (hd : l[i]? = some d) : hasB (forL l p t l.length) d.no = forF l p t i := by
  have hil := (List.getElem?_eq_some_iff.1 hd).1
  cases hf : forF l p t i with
  | true =>
    refine List.any_eq_true.2 ⟨d.no, ?_, decide_eq_true rfl⟩
    unfold forL
    exact List.mem_map.2 ⟨i, List.mem_filter.2 ⟨List.mem_range.2 hil, hf⟩, noF_of hd⟩
  | false =>
    refine List.any_eq_false.2 fun x hx e => ?_
    have e := of_decide_eq_true e
    unfold forL at hx
    obtain ⟨j, hj, ej⟩ := List.mem_map.1 hx
    obtain ⟨hj1, hj2⟩ := List.mem_filter.1 hj
    have hjl := List.mem_range.1 hj1
    have hdj : l[j]? = some l[j] := List.getElem?_eq_getElem hjl
    rw [noF_of hdj] at ej
    have h1 := ix_of hs hdj
    rw [ej, e, ix_of hs hd] at h1
    rw [h1, hj2] at hf; cases hf
theorem has_thB {l : List Dc} (hs : l.Pairwise fun a b => Dc.no a < Dc.no b) {p : Pl} {t no : Int} (h : (l.any fun x => decide (x.no = no)) = true) : hasB (forL l p t l.length) no = forF l p t (ixF l no) := by
  obtain ⟨d, _, h2, h3⟩ := ixF_of h
  rw [← h3, has_forL hs (h3 ▸ h2 : l[ixF l d.no]? = some d)]
theorem stepP_lk {l : List Dc} {sg : List Int} {p : Pl} {i : Nat} {d : Dc} (hd : l[i]? = some d) (hl : i < p.lk.length) : (stepP l sg p i).lk.getD i 0 = needF l p (sgF sg i) d.need := by
  unfold stepP; rw [hd]
  show (p.lk.set i _).getD i 0 = _
  rw [getD_set _ _ _ _ _ hl, if_pos rfl]
theorem play_split {l : List Dc} {sg : List Int} {O : List Nat} {k i : Nat} (h : O[k]? = some i) : playP l sg O = (O.drop (k + 1)).foldl (stepP l sg) (stepP l sg (playP l sg (O.take k)) i) := by
  have hlt := (List.getElem?_eq_some_iff.1 h).1
  have he := (List.getElem?_eq_some_iff.1 h).2
  have hO : O.take k ++ i :: O.drop (k + 1) = O := by rw [← he, ← List.drop_eq_getElem_cons hlt, List.take_append_drop]
  conv => lhs; rw [← hO]
  unfold playP
  rw [List.foldl_append, List.foldl_cons]
theorem lk_of {l : List Dc} {sg : List Int} {O : List Nat} (hn : O.Nodup) (hr : ∀ x ∈ l, x.rev.length ≤ 20) {k i : Nat} {d : Dc} (h : O[k]? = some i) (hd : l[i]? = some d) : (playP l sg O).lk.getD i 0 = needF l (playP l sg (O.take k)) (sgF sg i) d.need := by
  have hlt := (List.getElem?_eq_some_iff.1 h).1
  have he := (List.getElem?_eq_some_iff.1 h).2
  have hO : O.take k ++ i :: O.drop (k + 1) = O := by rw [← he, ← List.drop_eq_getElem_cons hlt, List.take_append_drop]
  have hni : i ∉ O.drop (k + 1) := by
    rw [← hO] at hn
    exact (List.nodup_cons.1 (List.nodup_append.1 hn).2.1).1
  rw [play_split h, (Aft.fold (l := l) (sg := sg) (O.drop (k + 1)) _ hni).lk]
  refine stepP_lk hd ?_
  have := (InP.play (l := l) (sg := sg) hr (O.take k)).ll
  have := (List.getElem?_eq_some_iff.1 hd).1
  omega
def rowF (m : List (Int × List Int)) (n : Int) : List Int := (aget n m).getD []
theorem rowF_add (no : Int) (m : List (Int × List Int)) (n k : Int) : rowF (addR no m n) k = if k = n then rowF m k ++ [no] else rowF m k := by
  unfold rowF addR
  rw [aget_put]
  by_cases e : k = n
  · subst e; rw [if_pos rfl, if_pos rfl]; rfl
  · rw [if_neg e, if_neg e]
theorem rowF_fold (no : Int) : ∀ (R : List Int) (m : List (Int × List Int)) (k : Int), R.Pairwise (· < ·) → rowF (R.foldl (addR no) m) k = rowF m k ++ if hasB R k then [no] else []
  | [], m, k, _ => by simp [hasB]
  | n :: r, m, k, h => by
    obtain ⟨h1, h2⟩ := List.pairwise_cons.1 h
    rw [List.foldl_cons, rowF_fold no r _ k h2, rowF_add]
    have e : hasB (n :: r) k = (decide (n = k) || hasB r k) := rfl
    rw [e]
    by_cases hk : k = n
    · subst hk
      have : hasB r k = false := hasB_no fun j w hw e2 => by
        have := h1 w (List.mem_of_getElem? hw); omega
      rw [if_pos rfl, this]; simp
    · rw [if_neg hk, decide_eq_false (fun e2 => hk e2.symm), Bool.false_or]
def revB (l : List Dc) (n : Int) (i : Nat) : Bool := match l[i]? with | some d => hasB d.rev n | none => false
theorem row_of {l : List Dc} {sg : List Int} {O : List Nat} (hn : O.Nodup) (hr : ∀ x ∈ l, x.rev.length ≤ 20 ∧ x.rev.Pairwise (· < ·)) (hO : ∀ i ∈ O, i < l.length) (n : Int) : ∀ k, k ≤ O.length →
    rowF (playP l sg (O.take k)).rv n = ((O.take k).filter fun i => decide ((playP l sg O).lk.getD i 0 < 0) && revB l n i).map (noF l)
  | 0, _ => rfl
  | k + 1, hk => by
    have ih := row_of (sg := sg) hn hr hO n k (by omega)
    obtain ⟨i, hi⟩ : ∃ i, O[k]? = some i := ⟨_, List.getElem?_eq_getElem (by omega)⟩
    have hil := hO i (List.mem_of_getElem? hi)
    obtain ⟨d, hd⟩ : ∃ d, l[i]? = some d := ⟨_, List.getElem?_eq_getElem hil⟩
    have hlk := lk_of (sg := sg) hn (fun x hx => (hr x hx).1) hi hd
    rw [playP_take hi, List.take_add_one, hi]
    show rowF (stepP l sg _ i).rv n = ((O.take k ++ [i]).filter _).map (noF l)
    rw [List.filter_append, List.map_append, ← ih]
    have hrev : revB l n i = hasB d.rev n := by unfold revB; rw [hd]
    have hs : (stepP l sg (playP l sg (O.take k)) i).rv = if needF l (playP l sg (O.take k)) (sgF sg i) d.need < 0 then d.rev.foldl (addR d.no) (playP l sg (O.take k)).rv else (playP l sg (O.take k)).rv := by unfold stepP; rw [hd]
    rw [hs, ← hlk]
    by_cases h0 : (playP l sg O).lk.getD i 0 < 0
    · rw [if_pos h0, rowF_fold _ _ _ _ (hr d (List.mem_of_getElem? hd)).2]
      congr 1
      cases hb : hasB d.rev n with
      | true => simp only [List.filter_cons, hrev, hb, decide_eq_true h0, Bool.and_true, if_true, List.filter_nil, List.map_cons, List.map_nil, noF_of hd]
      | false => simp only [List.filter_cons, hrev, hb, Bool.and_false, Bool.false_eq_true, if_false, List.filter_nil, List.map_nil]
    · rw [if_neg h0]
      simp only [List.filter_cons, decide_eq_false h0, Bool.false_and, Bool.false_eq_true, if_false, List.filter_nil, List.map_nil, List.append_nil]
end Go.Proofs.Ytgclicahmbgfiaa

namespace Go.Proofs.Ytgclicahmbgfiaa
open Go Go.Sg
set_option maxRecDepth 100000
set_option maxHeartbeats 20000000
def stoB (sg : List Int) (i k : Nat) : List Int := (befL sg i).take k ++ List.replicate (sg.length - k) 0
theorem stoB_len {sg : List Int} {i k : Nat} (h : k ≤ sg.length) : (stoB sg i k).length = sg.length := by
  unfold stoB; have := befL_len sg i; simp; omega
theorem befL_get {sg : List Int} {i k : Nat} {u : Int} (h : sg[k]? = some u) : (befL sg i)[k]? = some (bef1 (sgF sg i) i k u) := by
  unfold befL; rw [List.getElem?_mapIdx, h]; rfl
theorem stoB_set {sg : List Int} {i k : Nat} {u : Int} (h : sg[k]? = some u) : (stoB sg i k).set k (bef1 (sgF sg i) i k u) = stoB sg i (k + 1) := by
  have hlt := (List.getElem?_eq_some_iff.1 h).1
  have hb := befL_len sg i
  unfold stoB
  have hl : ((befL sg i).take k).length = k := by simp; omega
  rw [List.set_append_right _ _ (by omega), hl, Nat.sub_self, List.take_add_one, befL_get h, show sg.length - k = (sg.length - (k + 1)) + 1 by omega, List.replicate_succ]
  simp
theorem stoB_end (sg : List Int) (i : Nat) : stoB sg i sg.length = befL sg i := by
  unfold stoB; rw [List.take_of_length_le (by rw [befL_len]; exact Nat.le_refl _)]; simp
theorem before_calls (sg : List Int) (i : Nat) (hi : i < sg.length) (hsl : sg.length < 1000000) : PCalls Try.prog 29 [eIs sg, eN i] (eIs (befL sg i)) := by
  have hs : sg[i]? = some (sgF sg i) := by simp [sgF, List.getD, hi]
  have hs2 : sg[(i : Int).toNat]? = some (sgF sg i) := by rw [Int.toNat_natCast]; exact hs
  refine PCalls.of (N := 46) (res := [.tmp 4]) mixed Try.func29 rfl rfl rfl (by kernel_rfl) (by simp) [0, 1, 4, 5, 6, 7, 11, 12, 13, 14, 40] ?_
  repeat' (first | exact cl1 | (refine stx ?_; first | exact exHM _ | refine exU8 ?_) | ((fail_if_success refine stp ?_); (conv => whnf) <;> (first | exact cl2 | refine kX ?_ | refine kP ?_ | refine kBd (fun hc => ?_) (fun hc => ?_) | refine kT ?_ | refine kF ?_ | refine kN ?_ | refine kBm (fun hc => ?_) (fun hc => ?_) | refine kO ?_ | refine kS ?_ | refine kA ?_ | exact PV.leL_nil | refine kC ?_ ?_ | refine And.intro ?_ ?_ | refine ix_map (fun x hx => ?_) | refine exU8 ?_ | refine nilc (fun hn => ?_) ?_ | exact cl3 | refine imp0 (fun hpos => ?_) | refine kG ?_ ?_ | exact rfl | exact trivial | (first | refine stq ?_ | fail)))) <;> (try exact cl5)
  refine Wpc.loopA (α := {k : Nat // k ≤ sg.length}) mixed [0, 1, 4, 5, 6, 7, 11, 12, 13, 14, 40] (fun k => [(13, .p (eI k.1))]) (fun k => [(192, .row 1 ((stoB sg i k.1).map eI))]) (fun _ => 0) (fun k => sg.length - k.1) ⟨0, by omega⟩ ?_ ?_
  · (first | refine Ent.ofA [] ?_ | refine Ent.ofC [] ?_) <;> (repeat' (first | exact trivial | refine kHd ?_ | refine kHm rfl (by simp) rfl (fun h => AObj.noConfusion h) ?_ ?_ | refine And.intro ?_ ?_ | exact cl9 | refine kVp ?_ | refine kVa ?_ | refine kVt ?_ | refine kVf ?_ ?_ | refine kVc ?_ ?_ | exact VLeL.nil | exact OLe.row _ _ | rfl | refine VLe.rsle rfl ?_ ?_ ?_ | refine kQw ?_ ?_ | refine kQm ?_ ?_ | refine kQj ?_ ?_ | refine kQc ?_ ?_ | refine kQs ?_ ?_ ?_ | exact OLe.mapS0 rfl)) <;> try exact kZ
    all_goals (try (show List.replicate (((sg.map eI).length : Nat) : Int).toNat (eI 0) = (stoB sg i 0).map eI; simp [stoB]))
  rintro ⟨k, hk⟩
  have hk : k ≤ sg.length := hk
  have hstl := stoB_len (i := i) hk
  cases hxk : sg[k]? with
  | some y =>
    have hlt : k < sg.length := (List.getElem?_eq_some_iff.1 hxk).1
    have hyes : ((k : Int) < ((sg.map eI).length : Int)) := by rw [List.length_map]; omega
    have hset := stoB_set (i := i) hxk
    by_cases hc1 : sgF sg i < y ∨ (y = sgF sg i ∧ i ≤ k)
    · have hb : bef1 (sgF sg i) i k y = -1 := by unfold bef1; rw [if_pos hc1]
      repeat' (first | exact cl1 | (refine stx ?_; first | exact exHM _ | refine exU8 ?_) | ((fail_if_success refine stp ?_); (conv => whnf) <;> (first | exact cl2 | refine kBy hyes fun hc => ?_ | refine ix_at hs2 ?_ | refine ix_at hxk ?_ | refine kX ?_ | refine kP ?_ | refine kBd (fun hc => ?_) (fun hc => ?_) | refine kT ?_ | refine kF ?_ | refine kN ?_ | refine kBm (fun hc => ?_) (fun hc => ?_) | refine kO ?_ | refine kS ?_ | refine kA ?_ | exact PV.leL_nil | refine kC ?_ ?_ | refine And.intro ?_ ?_ | refine ix_map (fun x hx => ?_) | refine exU8 ?_ | refine nilc (fun hn => ?_) ?_ | exact cl3 | refine imp0 (fun hpos => ?_) | refine kG ?_ ?_ | exact rfl | exact trivial | (first | refine stq ?_ | fail)))) <;> (try exact cl5)
      all_goals first
      | (exfalso; dsimp only at *; omega)
      | (refine ⟨⟨k + 1, hlt⟩, by show sg.length - (k + 1) < sg.length - k; omega, ?_⟩
         (first | refine Ent.ofA [] ?_ | refine Ent.ofC [] ?_) <;> (repeat' (first | exact trivial | refine kHd ?_ | refine kHm rfl (by simp) rfl (fun h => AObj.noConfusion h) ?_ ?_ | refine And.intro ?_ ?_ | exact cl9 | refine kVp ?_ | refine kVa ?_ | refine kVt ?_ | refine kVf ?_ ?_ | refine kVc ?_ ?_ | exact VLeL.nil | exact OLe.row _ _ | rfl | refine VLe.rsle rfl ?_ ?_ ?_ | refine kQw ?_ ?_ | refine kQm ?_ ?_ | refine kQj ?_ ?_ | refine kQc ?_ ?_ | refine kQs ?_ ?_ ?_ | exact OLe.mapS0 rfl)) <;> try exact kZ
         show (((stoB sg i k).map eI).set (0 + (k : Int).toNat) (eI y)).set (0 + (k : Int).toNat) (eI (-1)) = (stoB sg i (k + 1)).map eI
         rw [List.set_set, show 0 + (k : Int).toNat = k by omega, ← List.map_set, ← hb, hset]
         done)
      | trace_state
    · have hb : bef1 (sgF sg i) i k y = y := by unfold bef1; rw [if_neg hc1]
      repeat' (first | exact cl1 | (refine stx ?_; first | exact exHM _ | refine exU8 ?_) | ((fail_if_success refine stp ?_); (conv => whnf) <;> (first | exact cl2 | refine kBy hyes fun hc => ?_ | refine ix_at hs2 ?_ | refine ix_at hxk ?_ | refine kX ?_ | refine kP ?_ | refine kBd (fun hc => ?_) (fun hc => ?_) | refine kT ?_ | refine kF ?_ | refine kN ?_ | refine kBm (fun hc => ?_) (fun hc => ?_) | refine kO ?_ | refine kS ?_ | refine kA ?_ | exact PV.leL_nil | refine kC ?_ ?_ | refine And.intro ?_ ?_ | refine ix_map (fun x hx => ?_) | refine exU8 ?_ | refine nilc (fun hn => ?_) ?_ | exact cl3 | refine imp0 (fun hpos => ?_) | refine kG ?_ ?_ | exact rfl | exact trivial | (first | refine stq ?_ | fail)))) <;> (try exact cl5)
      all_goals first
      | (exfalso; dsimp only at *; omega)
      | (refine ⟨⟨k + 1, hlt⟩, by show sg.length - (k + 1) < sg.length - k; omega, ?_⟩
         (first | refine Ent.ofA [] ?_ | refine Ent.ofC [] ?_) <;> (repeat' (first | exact trivial | refine kHd ?_ | refine kHm rfl (by simp) rfl (fun h => AObj.noConfusion h) ?_ ?_ | refine And.intro ?_ ?_ | exact cl9 | refine kVp ?_ | refine kVa ?_ | refine kVt ?_ | refine kVf ?_ ?_ | refine kVc ?_ ?_ | exact VLeL.nil | exact OLe.row _ _ | rfl | refine VLe.rsle rfl ?_ ?_ ?_ | refine kQw ?_ ?_ | refine kQm ?_ ?_ | refine kQj ?_ ?_ | refine kQc ?_ ?_ | refine kQs ?_ ?_ ?_ | exact OLe.mapS0 rfl)) <;> try exact kZ
         show ((stoB sg i k).map eI).set (0 + (k : Int).toNat) (eI y) = (stoB sg i (k + 1)).map eI
         rw [show 0 + (k : Int).toNat = k by omega, ← List.map_set, ← hset, hb]
         done)
      | trace_state
  | none =>
    have hge : sg.length ≤ k := List.getElem?_eq_none_iff.1 hxk
    have hno : ¬ ((k : Int) < ((sg.map eI).length : Int)) := by rw [List.length_map]; omega
    have hil : k = sg.length := by omega
    have hrow : stoB sg i k = befL sg i := by rw [hil]; exact stoB_end sg i
    rw [hrow]
    have hcl := befL_len sg i
    repeat' (first | exact cl1 | (refine stx ?_; first | exact exHM _ | refine exU8 ?_) | ((fail_if_success refine stp ?_); (conv => whnf) <;> (first | exact cl2 | refine kBn hno fun hc => ?_ | refine kX ?_ | refine kP ?_ | refine kBd (fun hc => ?_) (fun hc => ?_) | refine kT ?_ | refine kF ?_ | refine kN ?_ | refine kBm (fun hc => ?_) (fun hc => ?_) | refine kO ?_ | refine kS ?_ | refine kA ?_ | exact PV.leL_nil | refine kC ?_ ?_ | refine And.intro ?_ ?_ | refine ix_map (fun x hx => ?_) | refine exU8 ?_ | refine nilc (fun hn => ?_) ?_ | exact cl3 | refine imp0 (fun hpos => ?_) | refine kG ?_ ?_ | exact rfl | exact trivial | (first | refine stq ?_ | fail)))) <;> (try exact cl5)
    show LeG (.sl 1 false (List.take (((sg.map eI).length : Nat) : Int).toNat (List.drop 0 (List.map eI (befL sg i))))) (eIs (befL sg i))
    rw [List.drop_zero, List.take_of_length_le (by simp only [List.length_map, hcl]; omega)]
    exact LeG.refl _
theorem sgB_bef {l : List Dc} {sg : List Int} {i : Nat} (h : sgB l sg = true) : sgB l (befL sg i) = true := by
  unfold sgB at *
  rw [Bool.and_eq_true] at *
  refine ⟨by have := of_decide_eq_true h.1; exact decide_eq_true (by rw [befL_len]; exact this), ?_⟩
  have h2 : sg.any oddB = false := by simpa using h.2
  have : (befL sg i).any oddB = false := List.any_eq_false.2 fun u hu e => by
    obtain ⟨k, hk⟩ := List.getElem?_of_mem hu
    have hkl := (List.getElem?_eq_some_iff.1 hk).1
    rw [befL_len] at hkl
    have hv : sg[k]? = some sg[k] := List.getElem?_eq_getElem hkl
    rw [befL_get hv] at hk
    injection hk with hk
    rw [← hk] at e
    unfold bef1 at e
    by_cases hc : sgF sg i < sg[k] ∨ (sg[k] = sgF sg i ∧ i ≤ k)
    · rw [if_pos hc] at e; exact absurd e (by decide)
    · rw [if_neg hc] at e; exact absurd e (List.any_eq_false.1 h2 _ (List.getElem_mem hkl))
  rw [this]; rfl
theorem sg_time {l : List Dc} {sg : List Int} {i : Nat} (h : sgB l sg = true) (hi : i < sg.length) (h0 : 0 ≤ sgF sg i) : wiB TM (sgF sg i) = true := by
  unfold sgB at h
  rw [Bool.and_eq_true] at h
  have h2 : sg.any oddB = false := by simpa using h.2
  have e : sgF sg i = sg[i] := by simp [sgF, List.getD, hi]
  have := List.any_eq_false.1 h2 _ (List.getElem_mem hi)
  rw [← e] at this
  unfold oddB at this
  rw [decide_eq_false (by omega)] at this
  simpa using this
def effI (l : List Dc) (sg : List Int) (i : Nat) : Bool := match l[i]? with
  | some d => effB l (finP l (befL sg i) (sgF sg i)) (sgF sg i) d.need
  | none => false
theorem effective_calls (l : List Dc) (sg : List Int) (i : Nat) (d : Dc) (hd : l[i]? = some d) (h20 : l.length ≤ 20) (hF : ∀ x ∈ l, okF x) (hz : chkA l = 0) (hs : sgB l sg = true) (h0 : 0 ≤ sgF sg i) :
    PCalls Try.prog 27 [eL l, eIs sg, eN i] (.tup [.bool (effI l sg i), .bool true]) := by
  have hsz := sgB_len hs
  have hil := (List.getElem?_eq_some_iff.1 hd).1
  have hi : i < sg.length := by omega
  have hs2 : sg[(i : Int).toNat]? = some (sgF sg i) := by rw [Int.toNat_natCast]; simp [sgF, List.getD, hi]
  have hd2 : l[(i : Int).toNat]? = some d := by rw [Int.toNat_natCast]; exact hd
  obtain ⟨_, _, hsr, hnm⟩ := chkA_srt hz
  have hnb : thB l d.need = true := by have := hnm d (List.mem_of_getElem? hd); unfold namB at this; rw [Bool.and_eq_true] at this; exact this.2
  have hnl := (hF d (List.mem_of_getElem? hd)).2.2
  have q1 := before_calls sg i hi (by omega)
  have q2 := inForce_calls l (befL sg i) (sgF sg i) h20 hF (by rw [befL_len]; omega)
  have e2 : inA l (befL sg i) (sgF sg i) = (forL l (finP l (befL sg i) (sgF sg i)) (sgF sg i) l.length, 0) := by
    unfold inA; rw [if_pos hz, sgB_bef hs, sg_time hs hi h0]; rfl
  rw [e2] at q2
  have eE : effI l sg i = effB l (finP l (befL sg i) (sgF sg i)) (sgF sg i) d.need := by unfold effI; rw [hd]
  rw [eE]
  generalize finP l (befL sg i) (sgF sg i) = P at *
  have hfl := forL_len l P (sgF sg i) l.length
  have hhas := fun no (hno : no ∈ d.need) => has_thB (p := P) (t := sgF sg i) hsr (List.all_eq_true.1 hnb no hno)
  have q3 := fun no => has_calls (forL l P (sgF sg i) l.length) no (by omega)
  refine PCalls.of (N := 41) (res := [.tmp 6, .tmp 7]) mixed Try.func27 rfl rfl rfl (by kernel_rfl) (by simp) [0, 1, 2, 6, 7, 8, 9, 11, 25, 30, 31, 32, 33, 39] ?_
  repeat' (first | exact cl1 | (refine stx ?_; first | exact exHM _ | refine exU8 ?_) | ((with_reducible show callX _ _ _ _ _); (first | refine call_p (q1) (by kernel_rfl) rfl ?_ | refine call_p (q2) (by kernel_rfl) rfl ?_)) | ((fail_if_success refine stp ?_); (conv => whnf) <;> (first | exact cl2 | refine ix_at hs2 ?_ | refine ix_at hd2 ?_ | refine kX ?_ | refine kP ?_ | refine kBd (fun hc => ?_) (fun hc => ?_) | refine kT ?_ | refine kF ?_ | refine kN ?_ | refine kBm (fun hc => ?_) (fun hc => ?_) | refine kO ?_ | refine kS ?_ | refine kA ?_ | exact PV.leL_nil | refine kC ?_ ?_ | refine And.intro ?_ ?_ | refine ix_map (fun x hx => ?_) | refine exU8 ?_ | refine nilc (fun hn => ?_) ?_ | exact cl3 | refine imp0 (fun hpos => ?_) | refine kG ?_ ?_ | exact rfl | exact trivial | (first | refine stq ?_ | fail)))) <;> (try exact cl5)
  refine Wpc.loopB (α := {k : Nat // k ≤ d.need.length ∧ effB l P (sgF sg i) (d.need.drop k) = effB l P (sgF sg i) d.need}) mixed [0, 1, 2, 6, 7, 8, 9, 11, 25, 30, 31, 32, 33, 39] (fun k => [(32, .p (eI k.1))]) (fun k => d.need.length - k.1) ⟨0, by omega, rfl⟩ ?_ ?_
  · (first | refine Ent.ofA [] ?_ | refine Ent.ofC [] ?_) <;> (repeat' (first | exact trivial | refine kHd ?_ | refine kHm rfl (by simp) rfl (fun h => AObj.noConfusion h) ?_ ?_ | refine And.intro ?_ ?_ | exact cl9 | refine kVp ?_ | refine kVa ?_ | refine kVt ?_ | refine kVf ?_ ?_ | refine kVc ?_ ?_ | exact VLeL.nil | exact OLe.row _ _ | rfl | refine VLe.rsle rfl ?_ ?_ ?_ | refine kQw ?_ ?_ | refine kQm ?_ ?_ | refine kQj ?_ ?_ | refine kQc ?_ ?_ | refine kQs ?_ ?_ ?_ | exact OLe.mapS0 rfl)) <;> try exact kZ
  rintro ⟨k, hk, hq⟩
  have hk : k ≤ d.need.length := hk
  have hq : effB l P (sgF sg i) (d.need.drop k) = effB l P (sgF sg i) d.need := hq
  cases hx : d.need[k]? with
  | none =>
    have hge : d.need.length ≤ k := List.getElem?_eq_none_iff.1 hx
    have hno : ¬ ((k : Int) < ((d.need.map eI).length : Int)) := by rw [List.length_map]; omega
    rw [List.drop_eq_nil_of_le hge] at hq
    have hq2 : effB l P (sgF sg i) d.need = true := hq.symm
    repeat' (first | exact cl1 | (refine stx ?_; first | exact exHM _ | refine exU8 ?_) | ((fail_if_success refine stp ?_); (conv => whnf) <;> (first | exact cl2 | refine kBn hno fun hc => ?_ | refine kX ?_ | refine kP ?_ | refine kBd (fun hc => ?_) (fun hc => ?_) | refine kT ?_ | refine kF ?_ | refine kN ?_ | refine kBm (fun hc => ?_) (fun hc => ?_) | refine kO ?_ | refine kS ?_ | refine kA ?_ | exact PV.leL_nil | refine kC ?_ ?_ | refine And.intro ?_ ?_ | refine ix_map (fun x hx => ?_) | refine exU8 ?_ | refine nilc (fun hn => ?_) ?_ | exact cl3 | refine imp0 (fun hpos => ?_) | refine kG ?_ ?_ | exact rfl | exact trivial | (first | refine stq ?_ | fail)))) <;> (try exact cl5)
    rw [hq2]; exact LeG.refl _
  | some no =>
    have hlt := (List.getElem?_eq_some_iff.1 hx).1
    have hyes : ((k : Int) < ((d.need.map eI).length : Int)) := by rw [List.length_map]; omega
    have q := q3 no
    rw [hhas no (List.mem_of_getElem? hx)] at q
    have ed : d.need.drop k = no :: d.need.drop (k + 1) := by rw [List.drop_eq_getElem_cons hlt]; congr 1; exact (List.getElem?_eq_some_iff.1 hx).2
    have eb : effB l P (sgF sg i) (no :: d.need.drop (k + 1)) = (forF l P (sgF sg i) (ixF l no) && effB l P (sgF sg i) (d.need.drop (k + 1))) := rfl
    rw [ed, eb] at hq
    cases hf : forF l P (sgF sg i) (ixF l no) with
    | false =>
      rw [hf] at q hq
      have hq2 : effB l P (sgF sg i) d.need = false := by rw [← hq]; rfl
      repeat' (first | exact cl1 | (refine stx ?_; first | exact exHM _ | refine exU8 ?_) | ((with_reducible show callX _ _ _ _ _); (first | refine call_p (q) (by kernel_rfl) rfl ?_)) | ((fail_if_success refine stp ?_); (conv => whnf) <;> (first | exact cl2 | refine kBy hyes fun hc => ?_ | refine ix_at hx ?_ | refine kX ?_ | refine kP ?_ | refine kBd (fun hc => ?_) (fun hc => ?_) | refine kT ?_ | refine kF ?_ | refine kN ?_ | refine kBm (fun hc => ?_) (fun hc => ?_) | refine kO ?_ | refine kS ?_ | refine kA ?_ | exact PV.leL_nil | refine kC ?_ ?_ | refine And.intro ?_ ?_ | refine ix_map (fun x hx => ?_) | refine exU8 ?_ | refine nilc (fun hn => ?_) ?_ | exact cl3 | refine imp0 (fun hpos => ?_) | refine kG ?_ ?_ | exact rfl | exact trivial | (first | refine stq ?_ | fail)))) <;> (try exact cl5)
      rw [hq2]; exact LeG.refl _
    | true =>
      rw [hf, Bool.true_and] at hq
      rw [hf] at q
      repeat' (first | exact cl1 | (refine stx ?_; first | exact exHM _ | refine exU8 ?_) | ((with_reducible show callX _ _ _ _ _); (first | refine call_p (q) (by kernel_rfl) rfl ?_)) | ((fail_if_success refine stp ?_); (conv => whnf) <;> (first | exact cl2 | refine kBy hyes fun hc => ?_ | refine ix_at hx ?_ | refine kX ?_ | refine kP ?_ | refine kBd (fun hc => ?_) (fun hc => ?_) | refine kT ?_ | refine kF ?_ | refine kN ?_ | refine kBm (fun hc => ?_) (fun hc => ?_) | refine kO ?_ | refine kS ?_ | refine kA ?_ | exact PV.leL_nil | refine kC ?_ ?_ | refine And.intro ?_ ?_ | refine ix_map (fun x hx => ?_) | refine exU8 ?_ | refine nilc (fun hn => ?_) ?_ | exact cl3 | refine imp0 (fun hpos => ?_) | refine kG ?_ ?_ | exact rfl | exact trivial | (first | refine stq ?_ | fail)))) <;> (try exact cl5)
      refine ⟨⟨k + 1, hlt, hq⟩, by show d.need.length - (k + 1) < d.need.length - k; omega, ?_⟩
      (first | refine Ent.ofA [] ?_ | refine Ent.ofC [] ?_) <;> (repeat' (first | exact trivial | refine kHd ?_ | refine kHm rfl (by simp) rfl (fun h => AObj.noConfusion h) ?_ ?_ | refine And.intro ?_ ?_ | exact cl9 | refine kVp ?_ | refine kVa ?_ | refine kVt ?_ | refine kVf ?_ ?_ | refine kVc ?_ ?_ | exact VLeL.nil | exact OLe.row _ _ | rfl | refine VLe.rsle rfl ?_ ?_ ?_ | refine kQw ?_ ?_ | refine kQm ?_ ?_ | refine kQj ?_ ?_ | refine kQc ?_ ?_ | refine kQs ?_ ?_ ?_ | exact OLe.mapS0 rfl)) <;> try exact kZ
/-- Which documents are effective, said by what was performed. -/
theorem eff_iff {l : List Dc} {sg : List Int} {t : Int} (hz : chkA l = 0) (hF : ∀ x ∈ l, okF x) (hsz : sg.length = l.length) {i : Nat} (hi : i ∈ ordL sg t) : (finP l sg t).lk.getD i 0 < 0 ↔ effI l sg i = true := by
  obtain ⟨_, hr, hsr, hnm⟩ := chkA_srt hz
  obtain ⟨k, hk⟩ := List.getElem?_of_mem hi
  have hil : i < l.length := by have := (ordL_mem.1 hi).1; omega
  obtain ⟨d, hd⟩ : ∃ d, l[i]? = some d := ⟨_, List.getElem?_eq_getElem hil⟩
  have hdm := List.mem_of_getElem? hd
  have h1 := lk_of (l := l) (sg := sg) (ordL_nodup sg t) (fun x hx => (hF x hx).2.1) hk hd
  have hbt := bef_take hk
  have hu := (ordL_mem.1 hi).2
  unfold upB at hu
  rw [Bool.and_eq_true] at hu
  have hi0 := of_decide_eq_true hu.1
  have h2 : finP l (befL sg i) (sgF sg i) = playP l sg ((ordL sg t).take k) := by
    unfold finP
    rw [← hbt]
    unfold playP
    exact play_congr _ _ fun j hj => bef_val hi0 hj
  have hn0 : ∀ n ∈ d.need, 0 ≤ n := fun n hn => ((rightA_f (hr d hdm)).ls d.need (by simp)).2 n hn |>.1
  have h3 : effI l sg i = effB l (playP l sg ((ordL sg t).take k)) (sgF sg i) d.need := by unfold effI; rw [hd, ← h2]
  rw [show finP l sg t = playP l sg (ordL sg t) from rfl, h1, h3]
  exact needF_neg hn0
end Go.Proofs.Ytgclicahmbgfiaa

namespace Go.Proofs.Ytgclicahmbgfiaa
open Go Go.Sg
set_option maxRecDepth 100000
set_option maxHeartbeats 4000000
theorem stA_zero {l : List Dc} {P : Pl} {t : Int} {i : Nat} {d : Dc} (hd : l[i]? = some d) : (stA l P i t).1 = 0 ↔ P.dn.getD i false = true ∧ P.lk.getD i 0 < 0 ∧ rowF P.rv d.no = [] ∧ d.frm ≤ t ∧ t < d.til := by
  cases hb : P.dn.getD i false with
  | false =>
    have e : stA l P i t = (1, -1) := by
      unfold stA; rw [hd]
      show (if P.dn.getD i false = false then _ else _) = _
      rw [if_pos hb]
    rw [e]
    exact ⟨fun h => absurd h (by decide), fun h => by cases h.1⟩
  | true =>
    by_cases h0 : 0 ≤ P.lk.getD i 0
    · have e : (stA l P i t).1 = 4 := by unfold stA; rw [hd]; simp only [hb]; rw [if_neg (by decide), if_pos h0]
      rw [e]
      exact ⟨fun h => absurd h (by decide), fun h => absurd h.2.1 (by omega)⟩
    · cases hg : aget d.no P.rv with
      | none =>
        have e : stA l P i t = if t < d.frm then (2, -1) else if d.til ≤ t then (3, -1) else (0, -1) := by
          unfold stA; rw [hd]; simp only [hb]; rw [if_neg (by decide), if_neg h0, hg]
        have er : rowF P.rv d.no = [] := by unfold rowF; rw [hg]; rfl
        rw [e, er]
        by_cases h1 : t < d.frm
        · rw [if_pos h1]; exact ⟨fun h => absurd h (by decide), fun h => absurd h.2.2.2.1 (by omega)⟩
        · rw [if_neg h1]
          by_cases h2 : d.til ≤ t
          · rw [if_pos h2]; exact ⟨fun h => absurd h (by decide), fun h => absurd h.2.2.2.2 (by omega)⟩
          · rw [if_neg h2]; exact ⟨fun _ => ⟨rfl, by omega, rfl, by omega, by omega⟩, fun _ => rfl⟩
      | some z =>
        cases z with
        | nil =>
          have e : stA l P i t = if t < d.frm then (2, -1) else if d.til ≤ t then (3, -1) else (0, -1) := by
            unfold stA; rw [hd]; simp only [hb]; rw [if_neg (by decide), if_neg h0, hg]
          have er : rowF P.rv d.no = [] := by unfold rowF; rw [hg]; rfl
          rw [e, er]
          by_cases h1 : t < d.frm
          · rw [if_pos h1]; exact ⟨fun h => absurd h (by decide), fun h => absurd h.2.2.2.1 (by omega)⟩
          · rw [if_neg h1]
            by_cases h2 : d.til ≤ t
            · rw [if_pos h2]; exact ⟨fun h => absurd h (by decide), fun h => absurd h.2.2.2.2 (by omega)⟩
            · rw [if_neg h2]; exact ⟨fun _ => ⟨rfl, by omega, rfl, by omega, by omega⟩, fun _ => rfl⟩
        | cons x r =>
          have e : (stA l P i t).1 = 5 := by
            unfold stA; rw [hd]; simp only [hb]; rw [if_neg (by decide), if_neg h0, hg]
          have er : rowF P.rv d.no = x :: r := by unfold rowF; rw [hg]; rfl
          rw [e, er]
          exact ⟨fun h => absurd h (by decide), fun h => by cases h.2.2.1⟩
def revsB (l : List Dc) (sg : List Int) (t no : Int) (n : Nat) : Bool := (List.range n).any fun k => upB sg t k && revB l no k && effI l sg k
def forceB (l : List Dc) (sg : List Int) (t : Int) (i : Nat) (d : Dc) : Bool := (upB sg t i && decide (d.frm ≤ t) && decide (t < d.til) && effI l sg i) && !revsB l sg t d.no l.length
theorem listB_srt {m : Int} {P : List Int} (h : listB m P = true) : P.Pairwise (· < ·) := by
  unfold listB okN at h
  rw [Bool.and_eq_true, okFrom_iff] at h
  exact h.1.2
theorem rev_srt {x : Dc} (h : rightA x = true) : x.rev.Pairwise (· < ·) := by
  unfold rightA at h
  simp only [Bool.and_eq_true] at h
  exact listB_srt h.2.1.2
theorem row_nil {l : List Dc} {sg : List Int} {t : Int} (hz : chkA l = 0) (hF : ∀ x ∈ l, okF x) (hsz : sg.length = l.length) (no : Int) : rowF (finP l sg t).rv no = [] ↔ revsB l sg t no l.length = false := by
  obtain ⟨_, hr, hsr, hnm⟩ := chkA_srt hz
  have h := row_of (l := l) (sg := sg) (ordL_nodup sg t) (fun x hx => ⟨(hF x hx).2.1, rev_srt (hr x hx)⟩) (fun i hi => by have := (ordL_mem.1 hi).1; omega) no (ordL sg t).length (Nat.le_refl _)
  rw [List.take_length] at h
  rw [show rowF (finP l sg t).rv no = _ from h]
  constructor
  · intro e
    rw [List.map_eq_nil_iff, List.filter_eq_nil_iff] at e
    refine List.any_eq_false.2 fun k hk hb => ?_
    simp only [Bool.and_eq_true] at hb
    obtain ⟨⟨b1, b2⟩, b3⟩ := hb
    have hkO : k ∈ ordL sg t := ordL_mem.2 ⟨by have := List.mem_range.1 hk; omega, b1⟩
    refine e k hkO ?_
    rw [b2, Bool.and_true]
    exact decide_eq_true ((eff_iff hz hF hsz hkO).2 b3)
  · intro e
    rw [List.map_eq_nil_iff, List.filter_eq_nil_iff]
    intro k hkO hb
    rw [Bool.and_eq_true] at hb
    have h1 := ordL_mem.1 hkO
    have := List.any_eq_false.1 e k (List.mem_range.2 (by omega))
    refine this ?_
    rw [h1.2, hb.2, (eff_iff hz hF hsz hkO).1 (of_decide_eq_true hb.1)]
    rfl
theorem force_law {l : List Dc} {sg : List Int} {t : Int} (hz : chkA l = 0) (hF : ∀ x ∈ l, okF x) (hsz : sg.length = l.length) {i : Nat} {d : Dc} (hd : l[i]? = some d) : forF l (finP l sg t) t i = forceB l sg t i d := by
  have hil := (List.getElem?_eq_some_iff.1 hd).1
  have hdn : (finP l sg t).dn.getD i false = decide (i ∈ ordL sg t) := play_dn _ (fun j hj => by have := (ordL_mem.1 hj).1; omega) i
  have key := stA_zero (P := finP l sg t) (t := t) hd
  unfold forF forceB
  rw [show decide ((stA l (finP l sg t) i t).1 = 0) = decide ((finP l sg t).dn.getD i false = true ∧ (finP l sg t).lk.getD i 0 < 0 ∧ rowF (finP l sg t).rv d.no = [] ∧ d.frm ≤ t ∧ t < d.til) from decide_eq_decide.2 key]
  rw [hdn]
  by_cases hm : i ∈ ordL sg t
  · have hu := (ordL_mem.1 hm).2
    have he := eff_iff (t := t) hz hF hsz hm
    have hw := row_nil (t := t) hz hF hsz d.no
    rw [decide_eq_true hm, hu]
    cases hE : effI l sg i with
    | false =>
      rw [hE] at he
      have : ¬ (finP l sg t).lk.getD i 0 < 0 := fun h => by cases he.1 h
      rw [decide_eq_false (fun h => this h.2.1)]
      simp
    | true =>
      rw [hE] at he
      have h1 : (finP l sg t).lk.getD i 0 < 0 := he.2 rfl
      cases hR : revsB l sg t d.no l.length with
      | false =>
        rw [hR] at hw
        have h2 := hw.2 rfl
        simp only [h1, h2, true_and, Bool.not_false, Bool.and_true, Bool.true_and]
        by_cases a : d.frm ≤ t <;> by_cases b : t < d.til <;> simp [a, b]
      | true =>
        rw [hR] at hw
        have h2 : ¬ rowF (finP l sg t).rv d.no = [] := fun h => by cases hw.1 h
        rw [decide_eq_false (fun h => h2 h.2.2.1)]
        simp
  · have hu : upB sg t i = false := by
      cases h : upB sg t i with
      | false => rfl
      | true => exact absurd (ordL_mem.2 ⟨by omega, h⟩) hm
    rw [decide_eq_false hm, hu]
    simp
end Go.Proofs.Ytgclicahmbgfiaa
